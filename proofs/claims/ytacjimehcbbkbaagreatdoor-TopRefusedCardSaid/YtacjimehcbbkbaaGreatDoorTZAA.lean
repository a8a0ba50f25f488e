/- TopRefused holds. -/
import Derived.WalkKit
import Derived.Lib.LaidTab
import Derived.Lib.ItoaNum
import Derived.TacticsIn
import Derived.OrdersIn
set_option linter.all false
set_option maxRecDepth 100000
set_option maxHeartbeats 0
section
section
variable{p:Prop}
def ac(h:p:=by dsimp only;omega):=h
def am(h:p:=by simp only[aj,abu];omega):=h
def aD(h:p:=by simp[aj,abu];omega):=h
def aR(h:p:=by simpa using h):=h
def be(h:p:=by decide +kernel):=h
def bi(h:p:=by simp[aj];omega):=h
def bv(h:p:=by simp[aB]at h;subst h;exact w9.refl _):=h
def bD(h:p:=by simp only[execOp,cH]):=h
def bZ(h:p:=by rw[hm.iP];omega):=h
def b5(h:p:=by simpa using d):=h
def b6(h:p:=by simpa using e):=h
def ce(h:p:=by simpa using hi):=h
def ch(h:p:=by simp[Rel]at h):=h
def ci(h:p:=by simpa using a):=h
def dl(h:p:=by simp[Loc.fU]):=h
def d6(h:p:=by unfold isNeg;grind):=h
def d7(h:p:=by simp[Rel,scalar]):=h
def d8(h:p:=by simpa using hl):=h
def d9(h:p:=by unfold bU;rw[abl hi]):=h
def ed(h:p:=by simpa using b):=h
def ep(h:p:=by simp[SV.den,Rel,scalar]):=h
def eD(h:p:=by simp[aj,d];omega):=h
def eS(h:p:=by unfold K6;omega):=h
def eT(h:p:=by simpa using g):=h
def eY(h:p:=by rw[abx a]at b;cases b):=h
def eZ(h:p:=by simpa[Rel]using h):=h
def e7(h:p:=by simpa using f):=h
def e8(h:p:=by simp only[aj,abu,len]<;>omega):=h
def e9(h:p:=by simp[aj,abu,len]<;>omega):=h
def fa(h:p:=by rw[size_put];exact hN):=h
def fd(h:p:=by have:=hM.len;omega):=h
def fp(h:p:=by simp[slotsOf]at h):=h
def fr(h:p:=by rw[bO];exact hu):=h
def ft(h:p:=by simpa using hn):=h
def f8(h:p:=by simpa using c):=h
def f9(h:p:=by rw[ic];omega):=h
def gb(h:p:=by rw[kx];split;rfl;split<;>rfl):=h
def gc(h:p:=by rw[abx h]at a;cases a):=h
def gd(h:p:=by simp[aj,abu,a];omega):=h
def gk(h:p:=by cases e<;>exact h):=h
def gl(h:p:=by simpa[ou]using h):=h
def gs(h:p:=by simp[SV.den,dh]):=h
def gv(h:p:=by simpa using he):=h
def gz(h:p:=by rw[aer];omega):=h
def g9(h:p:=by split<;>omega):=h
def hZ(h:p:=by rw[gW];omega):=h
def ii(h:p:=by rw[oL];omega):=h
def ik(h:p:=by simp[xu,abL]at h;subst h;exact⟨mv,λh=>⟨h.2.1,h.2.2⟩⟩):=h
def io(h:p:=by simp only[aj,abu,ajd]<;>omega):=h
def ip(h:p:=by rw[Lib.cell_of_heap hbk];rfl):=h
def iu(h:p:=by rw[Lib.cell_of_heap hb2];rfl):=h
def i6(h:p:=by rw[du (k.same e) W I];rfl):=h
def i7(h:p:=by unfold cZ;split<;>simp):=h
def i8(h:p:=by rw[b];exact aB.refl _):=h
def jp(h:p:=by rw[kb];exact cP _ 1):=h
def ka(h:p:=by intro u hu;cases hu):=h
def ki(h:p:=by simp[SV.den,fl,aE]):=h
def kk(h:p:=by split<;>assumption):=h
def lb(h:p:=by have:=h.len;omega):=h
def lc(h:p:=by rw[du k W I];rfl):=h
def ld(h:p:=by have:=v.n1;omega):=h
def lf(h:p:=by unfold cE;decide):=h
def lg(h:p:=by simp[SV.dp]at h):=h
def li(h:p:=by simpa using wl'):=h
def lm(h:p:=by rw[<-aga];grind):=h
def ln(h:p:=by unfold nl;omega):=h
def ls(h:p:=by unfold nt;omega):=h
def lw(h:p:=by simpa using g1):=h
def lI(h:p:=by cases x<;>rfl):=h
def l0(h:p:=by rw[<-h];grind):=h
def md(h:p:=by rw[adZ];omega):=h
def mo(h:p:=by
 rcases g with h|h|h;exact .inl h;exact .inr<|.inl<|by simp[h]
 exact .inr<|.inr<|.inl<|by simp[h]):=h
def mp(h:p:=by simp only[aj,abu,ek,ejk,hx,hy,wl',hvl];omega):=h
def m3(h:p:=by cases own<;>simp[SV.den,SV.cK,AV.cK,fl,jr]):=h
def m4(h:p:=by simp only[aj,abu,afS,o]<;>simp<;>omega):=h
def m5(h:p:=by simp[Op.equalIn,run_underlying hu]):=h
def m7(h:p:=by have:=D2 (k:=k) E;unfold wB;omega):=h
def m8(h:p:=by simp only[aj,app,abu,gW]<;>omega):=h
def m9(h:p:=by show(w.heap.push _).size=_;simp):=h
def na(h:p:=by simp only[aj,abu,acC,ad1];omega):=h
def nm(h:p:=by
 rw[<-rK];refine ajj.2 ?_
 grind):=h
def nq(h:p:=by simp[aj,abu,len,acC,ad1];omega):=h
def n6(h:p:=by simp[aj,abu];exact c _ _ _ W f):=h
def n7(h:p:=by simp[SV.dp]at h;exact lL xs h):=h
def n8(h:p:=by dsimp only;rw[fO E];exact ht'):=h
def ol(h:p:=by simp only[aj,abu,q,r]<;>omega):=h
def o0(h:p:=by simp[SV.mr]at h⊢;exact kh h):=h
def o4(h:p:=by simp only[aj,abu,q]<;>omega):=h
def pa(h:p:=by simp[dS,Mv.runs,Mv.run,ky]):=h
def pb(h:p:=by simp only[aj,abu,d];omega):=h
def pi(h:p:=by simp only[aj,abu,o];omega):=h
def pj(h:p:=by simp only[aj,abu,b];omega):=h
def pm(h:p:=by simp[SV.den,fl,jr,AV.cK]):=h
def pp(h:p:=by simp[Mv.runs,Mv.run,mA]):=h
def pu(h:p:=by simp[aj,abu,a]<;>omega):=h
def px(h:p:=by unfold cF.cont;rw[hC]):=h
def qo(h:p:=by simp[SV.den,fl,dA,dh]):=h
def qr(h:p:=by unfold isNeg;simp_all):=h
def qv(h:p:=by unfold a7;rw[abx hi]):=h
def rc(h:p:=by simp[aj,abu,d];omega):=h
def rl(h:p:=by simp[aj,abu,c];omega):=h
def ro(h:p:=by unfold fP at h;grind):=h
def zaa(h:p:=by
 have p:=h d I;have hl:ji l:=λx f=>h x (by simp[f]);have o:=bK hl;have b:l.getLast?≠some 0:=by grind
 have a:=vF hl b;have c:(val<|d::l).toNat≠0:=by
  simp only[val];intro q;have i:d=0:=E;have g:val l=0:=E;cases l with
  |nil=>subst i;simp at e
  |cons x l=>rw[g]at a;simp[dj]at a
 rw[ah,dif_neg c];have k:(((val<|d::l).toNat%B9:Nat):Int)=d:=by simp[val];unfold B9;omega
 have j:(val<|d::l).toNat/B9=(val l).toNat:=by simp[val];unfold B9;omega
 rw[k,j,a]):=h
def zab(h:p:=by
 have e:ji (dC l)/\(dC l).getLast?≠some 0:=by
  induction l with
  |nil=>exact⟨h,by simp[dC]⟩
  |cons d l f=>
   obtain⟨i1,b⟩:=f λx c=>h x (by simp[c]);have g:=h d I;simp[dC];split;split;simp_all;rename_i i;exact⟨λx c=>gn,by simpa using i⟩;rename_i x r he;rw[he]at i1 b;exact⟨λy a=>by rcases adb.1 a with rfl|a;exact g;exact i1 y a,b⟩
 rw[tU e.1 e.2 (n:=(val l).toNat) (by rw[rJ];have:=bK h;omega)]):=h
def zac(h:p:=by
 induction n using Nat.strongRecOn with
 |_ n c=>
  rw[ah];split;simp;rename_i h;have b:n/B9<n:=ahu (ahD h) gC;have:=c _ b;cases hl:ah _ with
  |nil=>intro he;have a:=bF<|n/B9;rw[hl]at a;simp[val]at a;simp at he;unfold B9 at he a;omega
  |cons x l=>simp_all):=h
def zad(h:p:=by rcases iv _ with g|g;rw[g];simp;have g1:=bT m;have g2:=bT n;have e:=ju b;have d:=ju a;rcases aef (K+1) (ah<|m+n).length with h|h;have c:=ju (show K+1<=(ah<|m+n).length-1 from E);omega;omega):=h
def zae(h:p:=by
 induction n using Nat.strongRecOn with
 |_ n c=>rw[ah];split;intro d a;cases a;rename_i h;have b:n/B9<n:=ahu (ahD h) gC;intro d a;rcases adb.1 a with rfl|a;unfold B9;omega;exact c _ b d a):=h
def zaf(h:p:=by have a:=rJ l;simp[dC];split;rename_i h;rw[h]at a;simp[val]at a⊢;split;rename_i b;simp[val];omega;simp[val];omega;rename_i x r h;rw[h]at a;simp[val]at a⊢;omega):=h
def zag(h:p:=by
 induction n using Nat.strongRecOn with
 |_ n b=>rw[ah];split;rename_i h;subst h;rfl;rename_i h;have a:n/B9<n:=ahu (ahD h) gC;simp[val,b _ a];unfold B9;omega):=h
def zah(h:p:=by
 rcases g with h|h|h|h;exact .inl h;exact .inr<|.inl<|by simp[h]
 exact .inr<|.inr<|.inl<|by simp[h]
 exact .inr<|.inr<|.inr<|by rw[e3]at h;exact h):=h
def zai(h:p:=by
 have:(c.args.toList.map a.eval).toArray=c.args.map a.eval:=by apply aib;simp
 simp only[execOp,cH,Go.resolve,hc,Deferred.ofValue,T,this];rfl):=h
def zaj(h:p:=by
 induction l generalizing k with
 |nil=>simp[val]
 |cons d l a=>
  cases k with
  |zero=>simp[val]
  |succ k=>simp[val];grind):=h
def zak(h:p:=by intro w S v F q;obtain⟨u,p,n⟩:=q;obtain⟨c,f,j,s⟩:=mS.cells h n;exact⟨c,f,j,λa g i=>⟨u,p,s a g i⟩⟩):=h
def zal(h:p:=by obtain⟨cs,rfl,h⟩:=h;obtain⟨cs',rfl,k⟩:=k;simp[Value.cells]at e;subst e;exact Cells.Us xs h k):=h
def zam(h:p:=by
 have e:w=w.take n++[0]:=by
  have a:n<w.length:=E;have b:=adY a
  grind
 conv=>rhs;rw[e,nM]):=h
def zan(h:p:=by rcases aef (ah a).length (ah<|a/b).length with g|g;have:=cX g;have:=aif a b;omega;exact g):=h
def zao(h:p:=by cases y<;>simp[aB]at h;intro w S v F m;obtain⟨cs,j,i⟩:=m;exact⟨cs,j,Jg.cells h i⟩):=h
def zap(h:p:=by cases c<;>first|rfl|exact abK rfl (q _ _)|exact abK rfl (l _)|simp_all|simp_all):=h
def zaq(h:p:=by simp[Rel]at h;obtain⟨cs,e,b⟩:=h;exact Cells.aK xs b (by simpa[AV.aK]using k)):=h
def zar(h:p:=by rcases aef (ah n).length (ah m).length with g|g;have:=cX g;omega;exact g):=h
def zas(h:p:=by have c:=h d I;have b:=bK (l:=l) λx a=>h x (by simp[a]);simp[val];omega):=h
def zat(h:p:=by have c:=h d I;have b:=jq (l:=l) λx a=>h x (by simp[a]);simp[val];omega):=h
def zau(h:p:=by refine(tU (λd a=>?_) ?_ ?_).symm;simp at a;omega;simp;omega;simp[val]):=h
def zav(h:p:=by obtain⟨cs,e,d⟩:=h;exact⟨cs,e,Cells.dp xs d<|by simpa[AV.dp]using k⟩):=h
def zaw(h:p:=by
 intro q
 induction q with
 |nil=>intro t;rfl
 |cons p q ih=>simp_all):=h
def zax(h:p:=by
 by_cases h:i<l.length;rw[adY h,fV]
 grind
 rw[ad2 E,ad2 E];simp_all):=h
def zay(h:p:=by
 have:t.toNat=(t-1).toNat+1:=E;rw[this]
 conv=>lhs;unfold dH
 omega):=h
def zaz(h:p:=by simp[SV.dp]at h;subst h;simp[SV.den];exact wo (by simp[AV.dp])):=h
def zaA(h:p:=by
 induction l with
 |nil=>simp[val]
 |cons x l a=>simp[val];grind):=h
def zaB(h:p:=by have m:=hc.rel t;rw[an.aC B]at m;rw[Rel.aK _ m n]at m;exact m):=h
def zaC(h:p:=by by_cases hi:i<l.length;have:=h l[i]<|ab3 hi;simp_all;simp_all):=h
def zaD(h:p:=by intro x a;rcases ajs a with a|a;exact h x a;subst a;exact b):=h
def zaE(h:p:=by have:q*(Y%4294967296)<=4294967295*4294967295:=agW E E;omega):=h
def zaF(h:p:=by rw[e3]at g;exact⟨(V c g).1,λhm=>(V c g).2<|by simp[hm]⟩):=h
def zaG(h:p:=by
 induction n with
 |zero=>rfl
 |succ n a=>simp[aiF,val,a]):=h
def zaH(h:p:=by have a:=agh (af7 m.2) l;have b:=iW (af7 x)<|af7 q;omega):=h
def zaI(h:p:=by have:=D2 (k:=k) (by have:=hm.len;omega);unfold wB;omega):=h
def zaJ(h:p:=by
 induction n with
 |zero=>rfl
 |succ n a=>rw[aje];grind):=h
def zaK(h:p:=by rcases g with h|h|h|h<;>simp[Loc.fU]at h⊢ <;>simp[h]):=h
def zaL(h:p:=by cases y<;>simp[aB]at h<;>(subst h;exact w9.refl _)):=h
def zaM(h:p:=by rintro x s m rfl h;have:2^63<=m:=h.2;exact oX m E):=h
def zaN(h:p:=by rw[d];exact⟨o.v,o.b,λk Z=>by have:=o.f k Z;omega⟩):=h
def zaO(h:p:=by have:=fo _<|aN (d:=0) (i:=k) (l:=aA p.aa) E;omega):=h
def zaP(h:p:=by have:=mf y (by simpa using h);simp[val];grind):=h
def zaQ(h:p:=by cases x<;>simp[Op.equalIn,run_underlying hu]):=h
def zaR(h:p:=by simp only[aj,abu,len,adZ,afS,acC,ad1];omega):=h
def zaS(h:p:=by have:=hu.feed f Z;exact A0 _<|aN (d:=[]) E):=h
def zaT(h:p:=by rw[Ej,Array.mapM_eq_mapM_toList];simp_all):=h
def zaU(h:p:=by simp only[aj,abu,len,ad9,acC,ad1]<;>omega):=h
def zaV(h:p:=by rw[ei,DC _ _ _ _ (by have:=hM.len;omega)]):=h
def zaW(h:p:=by apply aha;intro h;rw[aik E]at hh;cases hh):=h
def zaX(h:p:=by revert hs;simp only[resolve,cF.of];grind):=h
def zaY(h:p:=by simp[dL,SR.den,Cl.den,SV.den,ne_iff.1 c]):=h
def zaZ(h:p:=by
 rw[cD W];refine gM J λj u hu=>?_
 grind):=h
def za0(h:p:=by obtain⟨s,⟨v,g1,g2⟩,rt⟩:=x;cases v<;>rfl):=h
def za1(h:p:=by have:=aal List.length h;simp[jb]at this):=h
def za2(h:p:=by
 have h:0<=u2*P:=agy v.1 E
 grind):=h
end
def aal:=@congrArg
def abl:=@if_neg
def abu:=@and_true
def abx:=@if_pos
def abK:=@absurd
def abL:=@Option.some.injEq
def abX:=@Nat.zero_le
def abY:=@Nat.le_refl
def abZ:=@Option.bind_eq_some_iff
def ab3:=@List.getElem_mem
def ab4:=@List.mem_map
def ab7:=@Nat.le_trans
def acC:=@List.length_cons
def adb:=@List.mem_cons
def adS:=@Bool.and_eq_true
def adW:=@List.map_append
def adY:=@List.take_succ_eq_append_getElem
def adZ:=@List.length_map
def ad1:=@List.length_nil
def ad2:=@List.take_of_length_le
def ad3:=@List.map_cons
def ad4:=@List.nodup_append
def ad5:=@List.drop_eq_getElem_cons
def ad6:=@Nat.mul_le_mul_right
def ad7:=@List.getElem?_eq_getElem
def ad8:=@List.getD_eq_getElem?_getD
def ad9:=@List.length_append
def aea:=@Nat.mod_lt
def aeb:=@Prod.mk.injEq
def aec:=@List.mem_range
def aed:=@List.take_length
def aee:=@List.nodup_nil
def aef:=@Nat.lt_or_ge
def aeh:=@Nat.pow_le_pow_right
def aej:=@Nat.mul_comm
def aen:=@List.append_assoc
def aer:=@Nat.add_mul
def aey:=@Nat.lt_of_lt_of_le
def aeB:=@Nat.mul_pos
def aeF:=@Int.le_refl
def aeM:=@List.mem_append
def ae6:=@Nat.mul_le_mul_left
def ae9:=@Nat.pow_pos
def afS:=@List.length_take
def afY:=@List.all_eq_true
def af2:=@List.mem_flatMap
def af3:=@List.map_congr_left
def af4:=@Nat.le_of_ble_eq_true
def af5:=@List.all_cons
def af6:=@List.nodup_cons
def af7:=@Int.le_of_lt
def af8:=@Nat.eq_zero_or_pos
def af9:=@List.map_map
def aga:=@Nat.pow_add
def agb:=@Option.bind_some
def agc:=@List.getElem?_eq_none
def agd:=@Array.getElem?_eq_getElem
def age:=@Int.natAbs_mul
def agf:=@List.foldl_cons
def agh:=@Int.mul_le_mul_of_nonneg_left
def agt:=@List.drop_of_length_le
def agy:=@Int.mul_nonneg
def agH:=@Int.le_trans
def agI:=@Nat.eq_of_beq_eq_true
def agJ:=@List.map_set
def agL:=@Int.toNat_natCast
def agR:=@Int.pow_succ
def agS:=@Nat.pow_succ
def agW:=@Nat.mul_le_mul
def agX:=@Nat.div_lt_iff_lt_mul
def aha:=@Decidable.byContradiction
def ahc:=@Option.map_eq_some_iff
def ahd:=@List.not_mem_nil
def ahe:=@List.drop_zero
def ahf:=@Nat.div_eq_of_lt
def ahg:=@Rat.intCast_natCast
def ahh:=@Rat.le_of_lt
def ahi:=@Array.length_toList
def ahj:=@List.map_nil
def ahk:=@Prod.exists
def ahl:=@List.append_nil
def ahm:=@List.foldl_append
def ahn:=@Nat.lt_of_le_of_lt
def aho:=@Rat.intCast_mul
def ahp:=@List.pairwise_cons
def ahq:=@List.getElem?_append_right
def ahr:=@Nat.mod_eq_of_lt
def ahs:=@List.range_succ
def ahu:=@Nat.div_lt_self
def ahv:=@List.mem_of_mem_take
def ahw:=@List.drop_length
def ahx:=@List.mem_filter
def ahy:=@List.length_set
def ahA:=@List.nil_append
def ahB:=@List.getElem?_map
def ahC:=@List.mem_map_of_mem
def ahD:=@Nat.pos_of_ne_zero
def ahE:=@Nat.mul_assoc
def ahF:=@Int.sign_neg_iff
def ahG:=@Nat.add_le_add_right
def ahH:=@Rat.num_nonneg
def ahI:=@List.getElem?_append_left
def ahJ:=@List.getElem_of_mem
def ahK:=@List.drop_eq_nil_of_le
def ahL:=@Bool.true_and
def ahM:=@Int.mul_le_mul_of_nonneg_right
def ahN:=@List.countP_le_length
def ahO:=@Nat.mod_add_div
def ahP:=@Array.getElem?_eq_some_iff
def ahQ:=@List.mem_cons_self
def ahR:=@Int.pow_add
def ahS:=@Int.add_mul
def ahT:=@List.ext_getElem
def ahU:=@Nat.pow_mul
def ahV:=@Int.mul_pos
def ahW:=@Int.natAbs_natCast
def ahX:=@List.drop_drop
def ahY:=@Nat.zero_add
def ahZ:=@Bool.not_eq_true'
def ah0:=@Int.natCast_mul
def ah1:=@List.take_append_drop
def ah2:=@Nat.pow_le_pow_left
def ah3:=@List.getElem_map
def ah4:=@Nat.div_div_eq_div_mul
def ah5:=@List.getElem?_drop
def ah6:=@List.getElem?_take
def ah7:=@List.cons_append
def ah8:=@List.length_pos_iff
def ah9:=@List.mem_singleton
def aia:=@List.append_eq_nil_iff
def aib:=@Array.ext'
def aic:=@List.mem_of_mem_drop
def aid:=@Int.emod_nonneg
def aie:=@Int.emod_lt_of_pos
def aif:=@Nat.div_le_self
def aih:=@Nat.add_mul_div_left
def aii:=@List.foldl_nil
def aij:=@List.getElem?_eq_some_iff
def aik:=@Array.getElem?_eq_none
def ail:=@Array.getElem?_toList
def aim:=@Bool.false_eq_true
def ain:=@Nat.le_succ
def aio:=@List.pairwise_iff_getElem
def aip:=@Nat.lt_succ_self
def aiq:=@Int.lt_or_le
def air:=@Nat.gcd_comm
def ais:=@Nat.le_of_lt
def ait:=@Rat.num_eq_zero
def aiu:=@Rat.neg_num
def aiv:=@List.map_replicate
def aiw:=@Rat.mul_le_mul_of_nonneg_left
def aix:=@Rat.le_trans
def aiy:=@List.sum_append
def aiz:=@List.ext_getElem?
def aiA:=@List.getElem?_set
def aiB:=@Nat.le_antisymm
def aiC:=@Bool.and_self
def aiD:=@Bool.or_eq_true
def aiE:=@Bool.false_or
def aiF:=@List.replicate_succ
def aiG:=@List.mem_cons_of_mem
def aiH:=@List.map_drop
def aiI:=@Int.tdiv_eq_ediv_of_nonneg
def aiJ:=@Int.ediv_nonneg
def aiK:=@Int.lt_of_mul_lt_mul_right
def aiL:=@Int.sub_mul
def aiM:=@Int.mul_le_mul
def aiN:=@Nat.sub_zero
def aiO:=@Nat.le_max_left
def aiP:=@Nat.le_max_right
def aiQ:=@Nat.sub_self
def aiR:=@List.countP_append
def aiS:=@Rat.inv_pos
def aiT:=@Rat.not_le
def aiU:=@Nat.mul_add
def aiV:=@Nat.one_mul
def aiW:=@List.take_zero
def aiX:=@Array.getElem?_modify
def aiY:=@Classical.byContradiction
def aiZ:=@Option.map_some
def ai0:=@Nat.add_zero
def ai1:=@List.take_append_of_le_length
def ai2:=@List.flatMap_cons
def ai3:=@List.mem_of_getElem?
def ai4:=@List.map_take
def ai5:=@Prod.mk.inj
def ai6:=@List.flatMap_append
def ai7:=@List.length_eq_zero_iff
def ai8:=@UInt8.toNat_inj
def ai9:=@Nat.lt_trans
def aja:=@Nat.le_succ_of_le
def ajb:=@Nat.succ_mul
def ajc:=@List.pairwise_map
def ajd:=@List.length_replicate
def aje:=@Rat.pow_succ
def ajf:=@Int.natCast_add
def ajg:=@List.eq_nil_of_length_eq_zero
def ajh:=@List.mem_iff_getElem
def aji:=@List.filter_append
def ajj:=@Rat.intCast_le_intCast
def ajk:=@List.length_range
def ajl:=@Array.getElem?_extract
def ajm:=@List.getElem?_take_of_lt
def ajn:=@Array.ext_getElem?
def ajo:=@Nat.add_assoc
def ajp:=@Array.foldl_toList
def ajq:=@List.drop_append
def ajr:=@Nat.add_sub_cancel_left
def ajs:=@List.mem_or_eq_of_mem_set
def ajt:=@Int.mul_ediv_add_emod
def aju:=@Nat.mul_div_mul_right
def ajv:=@Nat.mul_mod_mul_right
def ajw:=@Nat.mul_div_cancel
def ajx:=@List.length_singleton
def ajy:=@Int.sign_eq_one_of_pos
def ajz:=@Int.gcd_eq_natAbs_gcd_natAbs
def ajA:=@Int.sign_eq_zero_iff_zero
def ajB:=@Nat.add_le_add
def ajC:=@Rat.sub_eq_add_neg
def ajD:=@Int.lt_trichotomy
def ajE:=@Bool.not_true
def ajF:=@Nat.le_mul_of_pos_right
def ajG:=@Rat.divInt_eq_div
def ajH:=@List.take_prefix
def ajI:=@List.countP_singleton
def ajJ:=@Nat.le_div_iff_mul_le
def ajK:=@List.find?_cons
def ajL:=@Rat.le_of_mul_le_mul_right
def ajM:=@List.sum_cons
def ajN:=@Array.size_replicate
def ajO:=@Int.toNat_of_nonneg
def ajP:=@List.getElem?_cons_zero
def ajQ:=@List.eq_nil_or_concat
def ajR:=@List.concat_eq_append
def ajS:=@List.getElem?_replicate
def ajT:=@Rat.num_divInt_den
def ajU:=@Int.fdiv_eq_ediv_of_nonneg
def ajV:=@List.getD_cons_zero
def ajW:=@List.mem_replicate
def ajX:=@Rat.mul_le_mul_of_nonneg_right
def ajY:=@Classical.not_not
def ajZ:=@Decidable.not_not
def U:True:=⟨⟩
theorem G{α β:Sort _}{a:α}{b:β}:a=a/\b=b:=⟨rfl,rfl⟩
theorem mv{α β γ:Sort _}{a:α}{b:β}{c:γ}:a=a/\b=b/\c=c:=⟨rfl,rfl,rfl⟩
theorem E{p:Prop}(h:p:=by omega):p:=h
theorem I{p:Prop}(h:p:=by simp):p:=h
theorem gC{p:Prop}(h:p:=by decide):p:=h
theorem gB{p:Prop}(h:p:=by decide +kernel):p:=h
theorem gA{p:Prop}(h:p:=by dsimp only):p:=h
theorem gn{p:Prop}(h:p:=by simp_all):p:=h
theorem gj{p:Prop}(h:p:=by simp at *):p:=h
theorem gq{p:Prop}(h:p:=by rfl):p:=h
theorem W{α:Sort _}{a:α}:a=a:=rfl
abbrev L:=@List
abbrev Q:=@Option
namespace Go.Ai
open Go.RowKit
inductive Fl|nil|shr|own
 deriving DecidableEq
inductive Step
 |idx (i sz:Nat)
 |at(o:Nat) (n:Option Nat)
 |deref
 |de (i:Nat)
 |oC (sz o n:Nat)
 deriving DecidableEq
abbrev Path:=L Step
inductive AV
 |v (x:Value)
 |list (f:Fl) (sz:Nat) (xs:List AV)
 |box (own:Bool) (x:AV)
 |agg (xs:List AV)
 |de (xs:List AV)
 |fn (f:Fn) (first captured:List AV)
 |bH (r g1 g2:Nat) (p:Path)
 |ptr (r g1 g2:Nat) (p:Path)
 |hole
 |dead
 |pv (C:Value->Prop)
 |abs (J:World->(Nat->Prop)->List Nat->Prop)
 |ix (g:FuncId) (caps:List (Nat×Nat))
 |ob (J:World->(Nat->Prop)->Value->Prop)
instance:Inhabited AV:=⟨.dead⟩
def scalar:Value->Bool
 |.bool _|.int .. |.float .. |.complex .. |.string _|.pointer none|.map none|.nilFunc|.nilIface=>true
 |_=>false
def row?(w:World)(b:Nat):Q (Array Value×(Nat×Nat)):=
 match w.heap[b]?with
 |some (.cells c _ a)=>some (c,a)
 |_=>none
def rf(w:World)(y:Value):L Nat:=match y.cells.toList with
 |[.map<|some b]=>[b]
 |[.pointer<|some a]=>match w.heap[a.block]?with
  |some (.mapIter (some m) _ _ _)=>[a.block,m]
  |_=>[a.block]
 |_=>[]
def Tx{w w':World}{y:Value}(h:∀b∈rf w y,w'.heap[b]?=w.heap[b]?):rf w' y=rf w y:=by
 unfold rf at h⊢;split;rfl;rename_i a e;have:w'.heap[a.block]?=w.heap[a.block]?:=by grind
 rw[this];rfl
def mw{w w':World}{b:Nat}(h:w'.heap[b]?=w.heap[b]?):row? w' b=row? w b:=by unfold row?;rw[h]
mutual
def Rel(w:World)(S:Nat->Prop):AV->Value->List Nat->Prop
 |.v x,y,F=>scalar x=true/\y=x/\F=[]
 |.list f sz xs,y,F=>
  match f with
  |.nil=>xs=[]/\y=.slice none 0 0/\F=[]
  |.shr=>(xs=[]/\(∃h,y=.slice h 0 0)/\F=[])\/∃b off cap cs g,y=.slice (some ⟨b,off,none⟩) xs.length cap/\S b/\row? w b=some (cs,g)/\xs.length<=cap/\
    dG w S sz xs ((cs.toList.drop off).take<|xs.length*sz) []/\F=[]
  |.own=>(xs=[]/\y=.slice none 0 0/\F=[])\/∃b cap cs F',y=.slice (some ⟨b,0,none⟩) xs.length cap/\row? w b=some (cs,(0,0))/\xs.length<=cap/\cap<=maxLen/\
    cs.size=cap*sz/\dG w S sz xs (cs.toList.take<|xs.length*sz) F'/\F=b::F'
 |.box own x,y,F=>∃b cs g F' z,y=.pointer (some ⟨b,0,none⟩)/\row? w b=some (cs,g)/\Rel w S x z F'/\z.cells=cs/\
   (if own then g=(0,0)/\F=b::F' else S b/\F'=[]/\F=[])
 |.agg xs,y,F=>∃cs,y=.agg cs/\Cells w S true xs cs.toList F
 |.de xs,y,F=>∃cs,y=.tuple cs/\Cells w S false xs cs.toList F
 |.fn f first captured,y,F=>∃a c e d,y=.func f a c/\Cells w S false first a.toList e/\Cells w S false captured c.toList d/\F=e++d
 |.bH ..,_,_=>False
 |.ptr ..,_,_=>False
 |.hole,y,F=>y.oneCell'=true/\F=[]
 |.dead,_,F=>F=[]
 |.pv C,y,F=>C y/\F=[]
 |.abs _,_,_=>False
 |.ix ..,_,_=>False
 |.ob J,y,F=>y.oneCell'=true/\F=rf w y/\∀w' S',(∀b,S b\/b∈F->w'.heap[b]?=w.heap[b]?)->(∀b,S b->S' b)->J w' S' y
def Cells(w:World)(S:Nat->Prop)(one:Bool):List AV->List Value->List Nat->Prop
 |[],l,F=>l=[]/\F=[]
 |x::xs,l,F=>∃y l' e d,l=y::l'/\F=e++d/\(one=true->y.oneCell'=true)/\Rel w S x y e/\Cells w S one xs l' d
def dG(w:World)(S:Nat->Prop)(sz:Nat):List AV->List Value->List Nat->Prop
 |[],l,F=>l=[]/\F=[]
 |x::xs,l,F=>∃y l' e d,l=y.cells.toList++l'/\F=e++d/\y.cells.size=sz/\Rel w S x y e/\dG w S sz xs l' d
end
section
variable{w w':World}{S S':Nat->Prop}
mutual
theorem Rel.frame:∀(av:AV){y:Value}{F:List Nat},Rel w S av y F->(∀b,S b\/b∈F->w'.heap[b]?=w.heap[b]?)->Rel w' S av y F
 |.v x,y,F,h,_=>by simpa[Rel]using h
 |.list .nil sz xs,y,F,h,_=>by simpa[Rel]using h
 |.list .shr sz xs,y,F,h,k=>by rcases h with h|⟨b,off,cap,cs,s,e,g,i,m,n,r⟩;exact .inl h;exact .inr ⟨b,off,cap,cs,s,e,g,(mw<|k b<|.inl g).trans i,m,dG.frame sz xs n λb d=>k b<|.inl<|by simpa using d,r⟩
 |.list .own sz xs,y,F,h,k=>by rcases h with h|⟨b,cap,cs,F',e,g,i,m,n,r,rfl⟩;exact .inl h;exact .inr ⟨b,cap,cs,F',e,(mw<|k b<|.inr I).trans g,i,m,n,dG.frame sz xs r λb d=>k b<|d.imp id<|by simp;exact .inr,W⟩
 |.box own x,y,F,h,k=>by obtain⟨b,cs,s,F',z,e,g,i,m,n⟩:=h;cases own;simp[if_false]at n;obtain⟨t,rfl,rfl⟩:=n;exact⟨b,cs,s,[],z,e,(mw<|k b<|.inl t).trans g,Rel.frame x i λb d=>k b<|.inl<|by simpa using d,m,by simp[t]⟩;simp at n;obtain⟨rfl,rfl⟩:=n;exact⟨b,cs,_,F',z,e,(mw<|k b<|.inr I).trans g,Rel.frame x i λb d=>k b<|d.imp id<|by simp;exact .inr,m,I⟩
 |.agg xs,y,F,h,k=>by obtain⟨cs,e,g⟩:=h;exact⟨cs,e,Cells.frame xs g k⟩
 |.de xs,y,F,h,k=>by obtain⟨cs,e,g⟩:=h;exact⟨cs,e,Cells.frame xs g k⟩
 |.fn f first j,y,F,h,k=>by obtain⟨a,c,p,o,e,g,i,rfl⟩:=h;exact⟨a,c,p,o,e,Cells.frame first g λb d=>k b<|d.imp id<|by simp;exact .inl,Cells.frame j i λb d=>k b<|d.imp id<|by simp;exact .inr,W⟩
 |.bH ..,_,_,h,_=>by simp[Rel]at h
 |.ptr ..,_,_,h,_=>by simp[Rel]at h
 |.hole,_,_,h,_=>by simpa[Rel]using h
 |.dead,_,_,h,_=>by simpa[Rel]using h
 |.pv _,_,_,h,_=>by simpa[Rel]using h
 |.abs _,_,_,h,_=>by simp[Rel]at h
 |.ix ..,_,_,h,_=>by simp[Rel]at h
 |.ob J,y,F,h,k=>by obtain⟨e,rfl,i⟩:=h;exact⟨e,(Tx λb d=>k b<|.inr d).symm,λu C B A=>i u C (λb d=>(B b d).trans<|k b d) A⟩
theorem Cells.frame:∀(xs:List AV){one:Bool}{l:List Value}{F:List Nat},Cells w S one xs l F->(∀b,S b\/b∈F->w'.heap[b]?=w.heap[b]?)->Cells w' S one xs l F
 |[],one,l,F,h,_=>by simpa[Cells]using h
 |x::xs,one,l,F,h,k=>by obtain⟨y,q,p,o,e,rfl,g,i,m⟩:=h;exact⟨y,q,p,o,e,W,g,Rel.frame x i λb d=>k b<|d.imp id<|by simp;exact .inl,Cells.frame xs m λb d=>k b<|d.imp id<|by simp;exact .inr⟩
theorem dG.frame(sz:Nat):∀(xs:List AV){l:List Value}{F:List Nat},dG w S sz xs l F->(∀b,S b\/b∈F->w'.heap[b]?=w.heap[b]?)->dG w' S sz xs l F
 |[],l,F,h,_=>by simpa[dG]using h
 |x::xs,l,F,h,k=>by obtain⟨y,q,p,o,e,rfl,g,i,m⟩:=h;exact⟨y,q,p,o,e,W,g,Rel.frame x i λb d=>k b<|d.imp id<|by simp;exact .inl,dG.frame sz xs m λb d=>k b<|d.imp id<|by simp;exact .inr⟩
end
mutual
theorem Rel.mono(d:∀b,S b->S' b):∀(av:AV){y:Value}{F:List Nat},Rel w S av y F->Rel w S' av y F
 |.v x,y,F,h=>by simpa[Rel]using h
 |.list .nil sz xs,y,F,h=>by simpa[Rel]using h
 |.list .shr sz xs,y,F,h=>by rcases h with h|⟨b,off,cap,cs,r,g,e,j,i,k,q⟩;exact .inl h;exact .inr ⟨b,off,cap,cs,r,g,d b e,j,i,dG.mono d sz xs k,q⟩
 |.list .own sz xs,y,F,h=>by rcases h with h|⟨b,cap,cs,F',g,e,j,i,k,q,u⟩;exact .inl h;exact .inr ⟨b,cap,cs,F',g,e,j,i,k,dG.mono d sz xs q,u⟩
 |.box own x,y,F,h=>by
  obtain⟨b,cs,r,F',z,g,e,j,i,k⟩:=h;refine⟨b,cs,r,F',z,g,e,Rel.mono d x j,i,?_⟩
  grind
 |.agg xs,y,F,h=>by obtain⟨cs,g,e⟩:=h;exact⟨cs,g,Cells.mono d xs e⟩
 |.de xs,y,F,h=>by obtain⟨cs,g,e⟩:=h;exact⟨cs,g,Cells.mono d xs e⟩
 |.fn f _ _,y,F,h=>by obtain⟨a,c,n,m,g,e,j,i⟩:=h;exact⟨a,c,n,m,g,Cells.mono d _ e,Cells.mono d _ j,i⟩
 |.bH ..,_,_,h=>by simp[Rel]at h
 |.ptr ..,_,_,h=>by simp[Rel]at h
 |.hole,_,_,h=>by simpa[Rel]using h
 |.dead,_,_,h=>by simpa[Rel]using h
 |.pv _,_,_,h=>by simpa[Rel]using h
 |.abs _,_,_,h=>by simp[Rel]at h
 |.ix ..,_,_,h=>by simp[Rel]at h
 |.ob _,y,F,h=>⟨h.1,h.2.1,λw' A t s=>h.2.2 w' A (λb p=>t b<|p.imp (d b) id) λb p=>s b<|d b p⟩
theorem Cells.mono(d:∀b,S b->S' b):∀(xs:List AV){one:Bool}{l:List Value}{F:List Nat},Cells w S one xs l F->Cells w S' one xs l F
 |[],one,l,F,h=>by simpa[Cells]using h
 |x::xs,one,l,F,h=>by obtain⟨y,o,n,m,g,e,j,i,k⟩:=h;exact⟨y,o,n,m,g,e,j,Rel.mono d x i,Cells.mono d xs k⟩
theorem dG.mono(d:∀b,S b->S' b)(sz:Nat):∀(xs:List AV){l:List Value}{F:List Nat},dG w S sz xs l F->dG w S' sz xs l F
 |[],l,F,h=>by simpa[dG]using h
 |x::xs,l,F,h=>by obtain⟨y,o,n,m,g,e,j,i,k⟩:=h;exact⟨y,o,n,m,g,e,j,Rel.mono d x i,dG.mono d sz xs k⟩
end
end
mutual
def AV.cK:AV->AV
 |.list .own sz xs=>.list .shr sz (js xs)
 |.list .nil sz xs=>.list .nil sz xs
 |.list .shr sz xs=>.list .shr sz xs
 |.box true x=>.box false x.cK
 |.box false x=>.box false x
 |.agg xs=>.agg (js xs)
 |.de xs=>.de (js xs)
 |.fn f a c=>.fn f (js a) (js c)
 |.v x=>.v x
 |.bH r g1 g2 p=>.bH r g1 g2 p
 |.ptr r g1 g2 p=>.ptr r g1 g2 p
 |.hole=>.hole
 |.dead=>.dead
 |.pv C=>.pv C
 |.abs J=>.abs J
 |.ix g b=>.ix g b
 |.ob _=>.dead
def js:List AV->List AV
 |[]=>[]
 |x::xs=>x.cK::js xs
end
def kO:∀xs:L AV,(js xs).length=xs.length
 |[]=>rfl
 |x::xs=>by simp[js,kO xs]
section
variable{w:World}{S S':Nat->Prop}
mutual
theorem Rel.share(e:∀b,S b->S' b):∀(av:AV){y:Value}{F:List Nat},Rel w S av y F->(∀b∈F,S' b)->Rel w S' av.cK y []
 |.v x,y,F,h,_=>by simp only[Rel,AV.cK]at h⊢;simp_all
 |.list .nil sz xs,y,F,h,_=>by simp only[Rel,AV.cK]at h⊢;simp_all
 |.list .shr sz xs,y,F,h,_=>by simp only[Rel,AV.cK]at h⊢;rcases h with h|⟨b,off,cap,cs,q,g,m,j,o,n,r⟩;simp_all;exact .inr ⟨b,off,cap,cs,q,g,e b m,j,o,dG.mono e sz xs n,U⟩
 |.list .own sz xs,y,F,h,k=>by simp only[Rel,AV.cK]at h⊢;rcases h with⟨rfl,h,-⟩|⟨b,cap,cs,F',g,m,j,o,n,r,rfl⟩;exact .inl ⟨W,⟨none,h⟩,U⟩;refine .inr ⟨b,0,cap,cs,(0,0),by rw[kO];exact g,k b I,m,by rw[kO];exact j,?_,U⟩;rw[kO];exact dG.share e sz xs r (λb d=>k b<|by simp[d])
 |.box own x,y,F,h,k=>by obtain⟨b,cs,q,F',z,g,m,j,o,n⟩:=h;cases own;simp[if_false]at n;obtain⟨d,rfl,rfl⟩:=n;exact⟨b,cs,q,[],z,g,m,Rel.mono e x j,o,by simp[e b d]⟩;simp at n;obtain⟨rfl,rfl⟩:=n;exact⟨b,cs,_,[],z,g,m,Rel.share e x j λb d=>k b<|by simp[d],o,by simp[k b I]⟩
 |.agg xs,y,F,h,k=>by obtain⟨cs,g,m⟩:=h;exact⟨cs,g,Cells.share e xs m k⟩
 |.de xs,y,F,h,k=>by obtain⟨cs,g,m⟩:=h;exact⟨cs,g,Cells.share e xs m k⟩
 |.fn f first i,y,F,h,k=>by obtain⟨a,c,t,s,g,m,j,rfl⟩:=h;exact⟨a,c,[],[],g,Cells.share e first m λb d=>k b<|by simp[d],Cells.share e i j λb d=>k b<|by simp[d],W⟩
 |.bH ..,_,_,h,_=>by simp[Rel]at h
 |.ptr ..,_,_,h,_=>by simp[Rel]at h
 |.hole,_,_,h,_=>by simp only[Rel,AV.cK]at h⊢;simp_all
 |.dead,_,_,h,_=>by simp[Rel,AV.cK]
 |.pv _,_,_,h,_=>by simp only[Rel,AV.cK]at h⊢;simp_all
 |.abs _,_,_,h,_=>by simp[Rel]at h
 |.ix ..,_,_,h,_=>by simp[Rel]at h
 |.ob _,_,_,_,_=>by simp[Rel,AV.cK]
theorem Cells.share(e:∀b,S b->S' b):∀(xs:List AV){one:Bool}{l:List Value}{F:List Nat},Cells w S one xs l F->(∀b∈F,S' b)->Cells w S' one (js xs) l []
 |[],one,l,F,h,_=>by simpa[Cells,js]using h.1
 |x::xs,one,l,F,h,k=>by obtain⟨y,p,t,s,g,rfl,j,o,n⟩:=h;exact⟨y,p,[],[],g,W,j,Rel.share e x o λb d=>k b<|by simp[d],Cells.share e xs n λb d=>k b<|by simp[d]⟩
theorem dG.share(e:∀b,S b->S' b)(sz:Nat):∀(xs:List AV){l:List Value}{F:List Nat},dG w S sz xs l F->(∀b∈F,S' b)->dG w S' sz (js xs) l []
 |[],l,F,h,_=>by simpa[dG,js]using h.1
 |x::xs,l,F,h,k=>by obtain⟨y,p,t,s,g,rfl,j,o,n⟩:=h;exact⟨y,p,[],[],g,W,j,Rel.share e x o λb d=>k b<|by simp[d],dG.share e sz xs n λb d=>k b<|by simp[d]⟩
end
end
end Go.Ai
end
namespace Go.Ai
open Go.RowKit
inductive Loc
 |val (y:Value)
 |addr (a:Addr)
def cH:Value->Step->Q Loc
 |.pointer (some a),.deref=>some (.addr a)
 |.slice (some a) _ _,.idx i sz=>some (.addr<|a.add<|i*sz)
 |.tuple b,.de i=>b[i]?.map .val
 |.slice (some a) _ c,.oC sz o n=>some (.val<|.slice (some<|a.add<|o*sz) n<|c-o)
 |.agg cs,.at o none=>cs[o]?.map .val
 |.agg cs,.at o (some n)=>some (.val<|.agg<|cs.extract o<|o+n)
 |_,_=>none
def step1(w:World):Loc->Step->Q Loc
 |.val y,s=>cH y s
 |.addr a,.at o _=>some (.addr<|a.add o)
 |.addr a,s=>(w.cell? a).bind (cH · s)
def loc(w:World):Loc->Path->Q Loc
 |L,[]=>some L
 |L,s::p=>(step1 w L s).bind (loc w · p)
def bM:AV->Path->Q AV
 |x,[]=>some x
 |x,s::p=>
  match x,s with
  |.list _ sz xs,.idx i a=>if sz=a then xs[i]?.bind (bM · p)else none
  |.box _ x,.deref=>bM x p
  |.agg xs,.at o none=>xs[o]?.bind (bM · p)
  |.agg xs,.at o (some n)=>if o+n<=xs.length then bM (.agg<|(xs.drop o).take n) p else none
  |.de xs,.de i=>xs[i]?.bind (bM · p)
  |.list _ sz xs,.oC a o n=>if sz=a/\0<n/\o+n<=xs.length then bM .dead p else none
  |_,_=>none
def fH:AV->Path->AV->Q AV
 |_,[],y=>some y
 |x,s::p,y=>
  match x,s with
  |.list .own sz xs,.idx i b=>if sz=b then xs[i]?.bind λx=>(fH x p y).map λa=>.list .own sz (xs.set i a)else none
  |.box true x,.deref=>(fH x p y).map λa=>.box true a
  |.agg xs,.at o none=>xs[o]?.bind λx=>(fH x p y).map λa=>.agg (xs.set o a)
  |.agg xs,.at o (some n)=>if o+n<=xs.length then(fH (.agg<|(xs.drop o).take n) p y).bind λ
    |.agg ys=>if ys.length=n then some (.agg<|xs.take o++ys++xs.drop (o+n))else none
    |_=>none
   else none
  |.de xs,.de i=>xs[i]?.bind λx=>(fH x p y).map λa=>.de (xs.set i a)
  |_,_=>none
def At(w:World)(a:Addr)(z:Value):Prop:=a.spot=none/\∃b c,row? w a.block=some (b,c)/\∀j u,z.cells[j]?=some u->b[a.off+j]?=some u
def holds(w:World):Loc->Value->Prop
 |.val y,z=>z=y
 |.addr a,z=>At w a z
section
variable{w w':World}{S S':Nat->Prop}
def Cells.length:∀{xs:L AV}{one:Bool}{l:L Value}{F:L Nat},Cells w S one xs l F->l.length=xs.length
 |[],one,l,F,h=>by simp[Cells]at h;grind
 |x::xs,one,l,F,h=>by obtain⟨y,l',e,d,rfl,rfl,c,b,a⟩:=h;simp[Cells.length a]
def dG.length(sz:Nat):∀{xs:L AV}{l:L Value}{F:L Nat},dG w S sz xs l F->l.length=xs.length*sz
 |[],l,F,h=>by simp[dG]at h;grind
 |x::xs,l,F,h=>by obtain⟨y,l',e,d,rfl,rfl,c,b,a⟩:=h;simp[dG.length _ a,aer];omega
def Cells.lens:∀{xs:L AV}{one:Bool}{l:L Value}{F:L Nat}(o:Nat){x:AV},Cells w S one xs l F->xs[o]?=some x->
 ∃y A g B,F=A++g++B/\(one=true->y.oneCell'=true)/\Rel w S x y g/\l[o]?=some y/\
  ∀(w':World)(S':Nat->Prop)(d:AV)(y':Value)(a:L Nat),(∀b,S b->S' b)->(one=true->y'.oneCell'=true)->
   (∀b,S b\/b∈A\/b∈B->w'.heap[b]?=w.heap[b]?)->Rel w' S' d y' a->Cells w' S' one (xs.set o d) (l.set o y') (A++a++B)
 |[],one,l,F,o,x,h,c=>by cases c
 |x0::xs,one,l,F,0,x,h,c=>by obtain⟨y,l',i,r,rfl,rfl,p,n,m⟩:=h;simp at c;subst c;refine⟨y,[],i,r,I,p,n,I,λw' S' d y' a f q k j=>?_⟩;exact⟨y',l',a,r,W,W,q,j,Cells.mono f _<|Cells.frame xs m λb e=>k b<|e.imp id .inr⟩
 |x0::xs,one,l,F,o+1,x,h,c=>by
  obtain⟨y,l',i,r,rfl,rfl,p,n,m⟩:=h;obtain⟨z,A,g,B,rfl,g2,u,t,s⟩:=Cells.lens o m c;refine⟨z,i++A,g,B,I,g2,u,t,λw' S' d y' a f q k j=>?_⟩;exact⟨y,_,i,A++a++B,W,I,p,Rel.mono f _<|Rel.frame x0 n λb e=>k b<|e.imp id λh=>.inl<|by simp[h],
   s w' S' d y' a f q (λb e=>k b<|by grind) j⟩
def Cells.append:∀{xs ys:L AV}{one:Bool}{l m:L Value}{F a:L Nat},Cells w S one xs l F->Cells w S one ys m a->Cells w S one (xs++ys) (l++m) (F++a)
 |[],ys,one,l,m,F,a,h,k=>by simp[Cells]at h;grind
 |x::xs,ys,one,l,m,F,a,h,k=>by obtain⟨y,l',f,e,rfl,rfl,d,c,b⟩:=h;exact⟨y,l'++m,f,e++a,I,I,d,c,Cells.append b k⟩
def Cells.split:∀(n:Nat){xs:L AV}{one:Bool}{l:L Value}{F:L Nat},Cells w S one xs l F->
 ∃a b,F=a++b/\Cells w S one (xs.take n) (l.take n) a/\Cells w S one (xs.drop n) (l.drop n) b
 |0,xs,one,l,F,h=>⟨[],F,I,by simp[Cells],h⟩
 |n+1,[],one,l,F,h=>by simp[Cells]at h;obtain⟨rfl,rfl⟩:=h;exact⟨[],[],I,by simp[Cells],by simp[Cells]⟩
 |n+1,x::xs,one,l,F,h=>by obtain⟨y,i,a,b,rfl,rfl,f,e,d⟩:=h;obtain⟨c,g,rfl,k1,k2⟩:=Cells.split n d;refine⟨a++c,g,I,?_,k2⟩;exact⟨y,_,a,c,W,W,f,e,k1⟩
def dG.append(sz:Nat):∀{xs ys:L AV}{l m:L Value}{F a:L Nat},dG w S sz xs l F->dG w S sz ys m a->dG w S sz (xs++ys) (l++m) (F++a)
 |[],ys,l,m,F,a,h,k=>by simp[dG]at h;grind
 |x::xs,ys,l,m,F,a,h,k=>by obtain⟨y,l',f,e,rfl,rfl,d,c,b⟩:=h;exact⟨y,l'++m,f,e++a,I,I,d,c,dG.append _ b k⟩
def dG.split(sz:Nat):∀(n:Nat){xs:L AV}{l:L Value}{F:L Nat},dG w S sz xs l F->
 ∃a b,F=a++b/\dG w S sz (xs.take n) (l.take<|n*sz) a/\dG w S sz (xs.drop n) (l.drop<|n*sz) b
 |0,xs,l,F,h=>⟨[],F,I,by simp[dG],aR⟩
 |n+1,[],l,F,h=>by simp[dG]at h;obtain⟨rfl,rfl⟩:=h;exact⟨[],[],I,by simp[dG],by simp[dG]⟩
 |n+1,x::xs,l,F,h=>by
  obtain⟨y,j,a,b,rfl,rfl,g,f,d⟩:=h;obtain⟨c,i,rfl,k1,k2⟩:=dG.split sz n d;have e:(n+1)*sz=y.cells.toList.length+n*sz:=by grind
  refine⟨a++c,i,I,?_,?_⟩;exact⟨y,_,a,c,by grind,W,g,f,k1⟩;rw[e,List.drop_length_add_append];simpa using k2
def dG.lens(sz:Nat){xs:L AV}{l:L Value}{F:L Nat}(i:Nat){x:AV}(h:dG w S sz xs l F)(q:xs[i]?=some x):
 ∃y A m B,F=A++m++B/\y.cells.size=sz/\Rel w S x y m/\(∀j u,y.cells[j]?=some u->l[i*sz+j]?=some u)/\i*sz+sz<=l.length/\
  ∀(w':World)(S':Nat->Prop)(e:AV)(y':Value)(c:L Nat),(∀b,S b->S' b)->y'.cells.size=sz->
   (∀b,S b\/b∈A\/b∈B->w'.heap[b]?=w.heap[b]?)->Rel w' S' e y' c->
   dG w' S' sz (xs.set i e) (l.take (i*sz)++y'.cells.toList++l.drop (i*sz+sz)) (A++c++B):=by
 obtain⟨A,a,rfl,D,t⟩:=dG.split sz i h;have d:=(aij.1 q).1;rw[ad5 d,(aij.1 q).2]at t;obtain⟨y,p,m,B,J,rfl,s,C,z⟩:=t;have hl:=dG.length sz h;have g:i*sz+sz<=l.length:=by
  have:(i+1)*sz<=xs.length*sz:=ad6 _ d
  grind
 have n:y.cells.toList.length=sz:=s;have H:l.drop (i*sz+sz)=p:=by rw[<-ahX,J,<-n,List.drop_left]
 refine⟨y,A,m,B,I,s,C,λj u hu=>?_,g,λw' S' e y' c r hs k v=>?_⟩
 have:l[i*sz+j]?=(l.drop<|i*sz)[j]?:=I
 grind
 rw[H];have f:xs.set i e=xs.take i++(e::xs.drop (i+1)):=by rw[List.set_eq_take_append_cons_drop,abx d]
 rw[f,aen,aen];exact dG.append sz (dG.mono r sz _<|dG.frame sz _ D λb o=>k b<|o.imp id .inl)<|⟨y',p,c,B,W,W,hs,v,dG.mono r sz _<|dG.frame sz _ z λb o=>k b<|o.imp id .inr⟩
end
section
variable{a:Addr}{w:World}
def cD(h:a.spot=none)(n:Nat):a.add n=⟨a.block,a.off+n,none⟩:=by cases a with|mk b o s=>cases h;unfold Addr.add;grind
def oe(h:a.spot=none){cs:Array Value}{c:Nat×Nat}(b:row? w a.block=some (cs,c)):w.cell? a=cs[a.off]?:=by
 unfold row? at b;unfold World.cell?
 grind
def cells_one{y:Value}(h:y.oneCell'=true):y.cells=#[y]:=by cases y<;>simp_all[Value.oneCell',Value.cells]
def bO(cs:Array Value):(Value.agg cs).cells=cs:=W
def At.cell{z:Value}(h:At w a z)(c:z.cells=#[z]):w.cell? a=some z:=by let⟨hs,e,d,b,hc⟩:=h;rw[oe hs b];have:=hc 0 z (by simp[c]);grind
def Chg(w w':World)(a:Addr)(z:Value):Prop:=
 ∀c d,row? w a.block=some (c,d)->∃b,row? w' a.block=some (b,d)/\b.size=c.size/\(∀j u,z.cells[j]?=some u->b[a.off+j]?=some u)/\
  ∀k,k<a.off\/a.off+z.cells.size<=k->b[k]?=c[k]?
end
section
variable{w:World}{S:Nat->Prop}
def du{L:Loc}{z:Value}(h:holds w L z)(b:z.cells=#[z]){s:Step}(hs:∀o n,s≠.at o n):step1 w L s=cH z s:=by
 cases L with
 |val y=>simp[holds]at h;subst h;rfl
 |addr a=>
  cases s with
  | «at» o n=>grind
  |_=>simp[step1,At.cell h b]
def gM{b off:Nat}{cs:Array Value}{c:Nat×Nat}{z:Value}(d:row? w b=some (cs,c))(h:∀j u,z.cells[j]?=some u->cs[off+j]?=some u):At w ⟨b,off,none⟩ z:=⟨W,cs,c,d,h⟩
def At.same{w w':World}{a:Addr}{z:Value}(h:At w a z)(b:w'.heap[a.block]?=w.heap[a.block]?):At w' a z:=by let⟨hs,f,e,d,c⟩:=h;exact⟨hs,f,e,(mw b).trans d,c⟩
def Same(w w':World)(L:Loc):Prop:=∀a,L=.addr a->w'.heap[a.block]?=w.heap[a.block]?
def holds.same{w w':World}{L:Loc}{z:Value}(h:holds w L z)(hs:Same w w' L):holds w' L z:=by
 cases L with
 |val y=>exact h
 |addr a=>exact At.same h<|hs a W
def Same.val{w w':World}(y:Value):Same w w' (.val y):=λ_ h=>by cases h
def Same.addr{w w':World}{a:Addr}(h:w'.heap[a.block]?=w.heap[a.block]?):Same w w' (.addr a):=λ_ e=>by grind
def Rel.step{s:Step}{p:Path}{x:AV}{z:Value}{F:List Nat}{L:Loc}{y:AV}(h:Rel w S x z F)(k:holds w L z)(g:bM x (s::p)=some y):
 ∃X x' z' F',step1 w L s=some X/\holds w X z'/\Rel w S x' z' F'/\bM x' p=some y/\(∀b∈F',b∈F)/\
  ∀w',Same w w' L->(∀b,S b\/b∈F->w'.heap[b]?=w.heap[b]?)->step1 w' L s=some X/\Same w w' X:=by
 unfold bM at g;split at g;rename_i f sz R i Y;split at g;rename_i E1;subst E1;let⟨V,m,g⟩:=abZ.1 g;cases f with
 |nil=>simp[Rel]at h;simp_all
 |shr=>
  rcases h with⟨rfl,-,-⟩|⟨b,Z,K,D,fz,rfl,hS,J,hc,hE,rfl⟩;cases m;obtain⟨P,A,C,B,hF,hy,t,N,F0,-⟩:=dG.lens sz i hE m;have hA:At w ((⟨b,Z,none⟩:Addr).add<|i*sz) P:=zaZ
  refine⟨.addr _,V,P,C,lc,hA,t,g,λb v=>by grind,λw' e l=>?_⟩;exact⟨i6,.addr<|by rw[cD W];exact l b<|.inl hS⟩
 |own=>
  rcases h with⟨rfl,-,-⟩|⟨b,K,D,F',rfl,J,hc,hm,E2,hE,rfl⟩;cases m;obtain⟨P,A,C,B,rfl,hy,t,N,F0,-⟩:=dG.lens sz i hE m;have hA:At w ((⟨b,0,none⟩:Addr).add<|i*sz) P:=zaZ
  refine⟨.addr _,V,P,C,lc,hA,t,g,λb v=>by simp[v],λw' e l=>?_⟩;exact⟨i6,.addr<|by rw[cD W];simp_all⟩
 ·cases g
 rename_i own x0;obtain⟨b,D,fz,F',z0,rfl,J,t,hz,h5⟩:=h;have hA:At w ⟨b,0,none⟩ z0:=gM J λj u hu=>gn;refine⟨.addr _,x0,z0,F',lc,hA,t,g,λc hc=>?_,λw' e l=>?_⟩
 grind
 refine⟨i6,.addr<|l b ?_⟩
 grind
 rename_i R o;let⟨xo,A0,g⟩:=abZ.1 g;simp[Rel]at h;obtain⟨D,rfl,T⟩:=h;obtain⟨H,A,C,B,rfl,h1,t,hl,-⟩:=Cells.lens o T A0;have F1:=cells_one<|h1 W;have r:D[o]?=some H:=d8
 cases L with
 |val q=>simp[holds]at k;subst k;exact⟨.val H,xo,H,C,by simp[step1,cH,r],W,t,g,λb v=>by simp[v],λw' _ _=>⟨by simp[step1,cH,r],.val _⟩⟩
 |addr a=>
  have O:∀M,At M a (.agg D)->At M (a.add o) H:=by
   rintro M⟨hs,F2,fz,J,hc⟩;rw[cD hs];refine gM J λj u hu=>?_;rw[F1]at hu
   match j,hu with
   |0,hu=>cases hu;simpa[bO]using hc o H (by simpa[bO]using r)
  exact⟨_,xo,H,C,W,O w k,t,g,λb v=>by simp[v],λw' e _=>⟨W,.addr<|by rw[cD k.1];exact e a W⟩⟩
 ·rename_i R o n;split at g;rename_i F3;simp[Rel]at h;obtain⟨D,rfl,T⟩:=h;obtain⟨A,d,rfl,c1,c2⟩:=Cells.split o T;obtain⟨C,B,rfl,d1,d2⟩:=Cells.split n c2;have t:Rel w S (.agg<|(R.drop o).take n) (.agg<|D.extract o<|o+n) C:=by
   simp only[Rel];simp_all
  cases L with
  |val q=>simp[holds]at k;subst k;exact⟨_,_,_,C,W,W,t,g,λb v=>by simp[v],λw' _ _=>⟨W,.val _⟩⟩
  |addr a=>
   have O:∀M,At M a (.agg D)->At M (a.add o) (.agg<|D.extract o<|o+n):=by rintro M⟨hs,F2,fz,J,hc⟩;rw[cD hs];refine gM J λj u hu=>?_;rw[bO,ajl]at hu;split at hu;have:=hc (o+j) u (fr);grind;cases hu
   exact⟨_,_,_,C,W,O w k,t,g,λb v=>by simp[v],λw' e _=>⟨W,.addr<|by rw[cD k.1];exact e a W⟩⟩
  ·cases g
 rename_i R i;let⟨V,m,g⟩:=abZ.1 g;simp[Rel]at h;obtain⟨D,rfl,T⟩:=h;obtain⟨H,A,C,B,rfl,-,t,hl,-⟩:=Cells.lens i T m;have r:D[i]?=some H:=d8
 exact⟨.val H,V,H,C,by rw[du k W I];simp[cH,r],W,t,g,λb v=>by simp[v],
  λw' e _=>⟨by rw[du (k.same e) W I];simp[cH,r],.val _⟩⟩
 rename_i f sz R Y o n;split at g;rename_i hc;obtain⟨rfl,h0,h1⟩:=hc;have hz:∃ad len K,z=.slice (some ad) len K:=by
  cases f with
  |nil=>simp[Rel]at h;simp_all
  |shr=>
   simp only[Rel]at h
   grind
  |own=>
   simp only[Rel]at h
   grind
 obtain⟨ad,len,K,rfl⟩:=hz;exact⟨.val _,.dead,_,[],lc,W,by simp[Rel],g,I,λw' e _=>⟨i6,.val _⟩⟩;cases g;cases g
def Rel.read:∀(p:Path){x:AV}{z:Value}{F:List Nat}{L:Loc}{y:AV},Rel w S x z F->holds w L z->bM x p=some y->
 ∃d e g,loc w L p=some d/\holds w d e/\Rel w S y e g/\(∀b∈g,b∈F)/\
  ∀w',Same w w' L->(∀b,S b\/b∈F->w'.heap[b]?=w.heap[b]?)->loc w' L p=some d/\Same w w' d
 |[],x,z,F,L,y,h,k,f=>by simp[bM]at f;subst f;exact⟨L,z,F,W,k,h,λ_ h=>h,λw' h _=>⟨W,h⟩⟩
 |s::p,x,z,F,L,y,h,k,f=>by let⟨B,A,v,F',u,t,r,q,l,o⟩:=Rel.step h k f;let⟨d,e,g,k1,k2,k3,k4,k5⟩:=Rel.read p r t q;refine⟨d,e,g,by rw[loc,u];exact k1,k2,k3,λb j=>l b<|k4 b j,λw' i c=>?_⟩;let⟨g1,g2⟩:=o w' i c;let⟨n,m⟩:=k5 w' g2 λb j=>c b<|j.imp id<|l b;exact⟨by rw[loc,g1];exact n,m⟩
end
section
variable{w:World}{S:Nat->Prop}
def Loc.fU:Loc->Q Nat
 |.val _=>none
 |.addr a=>some a.block
def adV(L:Loc)(z:Value)(A:List Nat):Loc->Value->Prop
 |.val _,_=>True
 |.addr b,c=>b.block∈A\/∃a,L=.addr a/\b.block=a.block/\a.off<=b.off/\b.off+c.cells.size<=a.off+z.cells.size
def abW(w w':World)(d:Loc)(b a:Value):Prop:=
 match d with
 |.val _=>a=b
 |.addr c=>Chg w w' c a
def xr(w':World)(z:Value):Loc->Value->Prop
 |.val _,b=>b=z
 |.addr a,b=>At w' a b
def OM{l y:L Value}{k sz n:Nat}(hl:k+sz<=l.length)(d:y.length=sz){cs':L Value}(a:cs'.length=l.length)
 (f:∀j,j<sz->cs'[k+j]?=y[j]?)(c:∀j,j<k\/k+sz<=j->cs'[j]?=l[j]?):cs'=l.take k++y++l.drop (k+sz):=by
 apply aiz;intro j;by_cases e:j<k
 grind
 by_cases b:j<k+sz
 grind
 rw[c j<|.inr E,ahq<|by simp;omega]
 grind
def Rel.jg:∀(p:Path){x x' y y':AV}{z:Value}{F:List Nat}{L:Loc},Rel w S x z F->holds w L z->bM x p=some y->fH x p y'=some x'->
 F.Nodup->(∀b∈F,¬S b)->(∀b,L.fU=some b->¬S b/\b∉F)->
 ∃D z1 A F1 B,loc w L p=some D/\holds w D z1/\Rel w S y z1 F1/\F=A++F1++B/\adV L z A D z1/\
  ∀(w':World)(S':Nat->Prop)(K:Value)(J:List Nat),(∀b,S b->S' b)->K.cells.size=z1.cells.size->(z1.oneCell'=true->K.oneCell'=true)->
   (∀b,(S b\/b∈A\/b∈B\/L.fU=some b)->D.fU≠some b->w'.heap[b]?=w.heap[b]?)->abW w w' D z1 K->Rel w' S' y' K J->
   ∃Z,Rel w' S' x' Z (A++J++B)/\Z.cells.size=z.cells.size/\(z.oneCell'=true->Z.oneCell'=true)/\xr w' z L Z
 |[],x,x',y,y',z,F,L,h,hL,hg,hs,_,_,_=>by
  simp only[bM,fH,abL]at hg hs;subst hg hs;refine⟨L,z,[],F,[],W,hL,h,I,?_,λw' S' K J hS hz h1 m ht hr=>⟨K,by simpa using hr,hz,h1,?_⟩⟩;cases L with
  |val q=>trivial
  |addr a=>exact .inr ⟨a,W,W,abY _,abY _⟩
  ·cases L with
   |val q=>exact ht
   |addr a=>let⟨H,cs,fz,N,hc⟩:=hL;let⟨t,e1,e2,e3,e4⟩:=ht cs fz N;exact⟨H,t,fz,e1,e3⟩
 |s::p,x,x',y,y',z,F,L,h,hL,hg,hs,hN,G1,V=>by
  unfold bM at hg;split at hg;rename_i f sz xs i W1;split at hg;rename_i K2;subst K2;cases f with
  |nil=>simp[fH]at hs
  |shr=>simp[fH]at hs
  |own=>
   let⟨xi,G2,hg⟩:=abZ.1 hg;simp only[fH,G2,if_true,agb,ahc]at hs;obtain⟨M1,hs,rfl⟩:=hs;simp only[Rel]at h;rcases h with⟨rfl,-,-⟩|⟨b,cap,cs,F',rfl,hr,hc,hm,M2,hE,rfl⟩;simp at G2;obtain⟨yi,A0,Fx,B0,rfl,hy,hR,hcell,hle,F4⟩:=dG.lens sz i hE G2;have hA:At w ⟨b,i*sz,none⟩ yi:=gM hr λj u hu=>by grind
   have hxl:i<xs.length:=(aij.1 G2).1;have hEl:=dG.length sz hE;simp only[afS,ahi]at hEl hle;have S0:=af6.1 hN;simp only[aeM,not_or]at S0;have G4:Fx.Nodup:=by grind
   obtain⟨D,z1,A,F1,B,k1,k2,k3,rfl,k5,k6⟩:=Rel.jg p (L:=.addr ⟨b,i*sz,none⟩) hR hA hg hs G4
    (λc g=>G1 c<|by simp[g]) (λc g=>by simp[Loc.fU]at g;simp_all)
   refine⟨D,z1,b::(A0++A),F1,B++B0,?_,k2,k3,I,?_,λw' S' K J hS hz h1 m ht E2=>?_⟩;rw[loc,du hL W I,cH,cD W];simpa using k1;cases D with
   |val q=>trivial
   |addr v=>rcases k5 with k5|⟨a,P,k5,_⟩;exact .inl (by simp[k5]);cases P;exact .inl (by simp[k5])
   ·have G3:∀c,(S c\/c∈A\/c∈B\/Loc.fU (.addr ⟨b,i*sz,none⟩)=some c)->D.fU≠some c->w'.heap[c]?=w.heap[c]?:=λc g F0=>
     m c (zaK) F0
    let⟨Z,j1,j2,j3,j4⟩:=k6 w' S' K J hS hz h1 G3 ht E2;have H4:∃t,row? w' b=some (t,(0,0))/\t.size=cs.size/\∀k,k<i*sz\/i*sz+sz<=k->t[k]?=cs[k]?:=by
     by_cases M:D.fU=some b;cases D with
     |val q=>simp[Loc.fU]at M
     |addr v=>
      simp only[Loc.fU,abL]at M;rcases k5 with k5|⟨a,P,k5,k7,k8⟩;simp_all;cases P;let⟨t,e1,e2,e3,e4⟩:=ht cs (0,0) (by rw[M];exact hr)
      grind
     ·exact⟨cs,(mw<|m b I M).trans hr,W,λ_ _=>rfl⟩
    let⟨t,r1,r2,r3⟩:=H4;have H6:At w' ⟨b,i*sz,none⟩ Z:=j4;obtain⟨-,R,X,rx,E1⟩:=H6;simp only at rx E1;rw[r1]at rx;obtain⟨rfl,rfl⟩:t=R/\(0,0)=X:=by simpa using rx
    have V0:=F4 w' S' M1 Z (A++J++B) hS (by rw[j2,hy]) (λc g=>m c (by
     grind) (λl=>by
      cases D with
      |val q=>simp[Loc.fU]at l
      |addr v=>
       simp only[Loc.fU,abL]at l;have hin:c∈b::A:=by
        rcases k5 with k5|⟨a,P,k5,_⟩;simp[<-l,k5]
        grind
       grind)) j1
    refine⟨_,?_,W,λh=>h,?_⟩;simp only[Rel];refine .inr ⟨b,cap,t,A0++(A++J++B)++B0,by rw[ahy],r1,gn,hm,by rw[r2];exact M2,?_,I⟩;rw[ahy];have e:t.toList.take (xs.length*sz)=(cs.toList.take<|xs.length*sz).take (i*sz)++Z.cells.toList++(cs.toList.take<|xs.length*sz).drop (i*sz+sz):=by
     refine OM (n:=0) (by simp;omega) (by simp[j2,hy]) (by simp[r2]) (λj hj=>?_) λj hj=>?_;rw[ajm E];simp_all
     grind
    rw[e];exact V0;cases L with
    |val q=>rfl
    |addr a=>
     let⟨H,Y,O,N,F2⟩:=hL;have P1:a.block∉b::(A0++(A++F1++B)++B0):=(V a.block W).2;refine⟨H,Y,O,(mw<|m a.block (dl) λl=>?_).trans N,F2⟩;cases D with
     |val q=>simp[Loc.fU]at l
     |addr v=>
      simp only[Loc.fU,abL]at l;rcases k5 with k5|⟨a',P,k5,_⟩;simp_all
      grind
  ·simp at hg
  rename_i own x0;cases own with
  |false=>simp[fH]at hs
  |true=>
   simp only[fH,ahc]at hs;obtain⟨x0',hs,rfl⟩:=hs;simp only[Rel,if_true]at h;obtain⟨b,cs,fz,F',z0,rfl,hr,hR,hz0,rfl,rfl⟩:=h;have hA:At w ⟨b,0,none⟩ z0:=gM hr λj u hu=>gn;have S0:=af6.1 hN;obtain⟨D,z1,A,F1,B,k1,k2,k3,rfl,k5,k6⟩:=Rel.jg p (L:=.addr ⟨b,0,none⟩) hR hA hg hs S0.2
    (λc g=>G1 c<|by simp[g]) (λc g=>by simp[Loc.fU]at g;simp_all)
   refine⟨D,z1,b::A,F1,B,?_,k2,k3,I,?_,λw' S' K J hS hz h1 m ht E2=>?_⟩;rw[loc,du hL W I,cH];simpa using k1;cases D with
   |val q=>trivial
   |addr v=>rcases k5 with k5|⟨a,P,k5,_⟩;exact .inl (by simp[k5]);cases P;exact .inl (by simp[k5])
   ·have G3:∀c,(S c\/c∈A\/c∈B\/Loc.fU (.addr ⟨b,0,none⟩)=some c)->D.fU≠some c->w'.heap[c]?=w.heap[c]?:=λc g F0=>
     m c (zaK) F0
    let⟨Z,j1,j2,j3,j4⟩:=k6 w' S' K J hS hz h1 G3 ht E2;have H4:∃t,row? w' b=some (t,(0,0))/\t.size=cs.size:=by
     by_cases M:D.fU=some b;cases D with
     |val q=>simp[Loc.fU]at M
     |addr v=>simp only[Loc.fU,abL]at M;let⟨t,e1,e2,e3,e4⟩:=ht cs (0,0) (by rw[M];exact hr);exact⟨t,by rw[<-M];exact e1,e2⟩
     ·exact⟨cs,(mw<|m b I M).trans hr,W⟩
    let⟨t,r1,r2⟩:=H4;have H6:At w' ⟨b,0,none⟩ Z:=j4;obtain⟨-,R,X,rx,E1⟩:=H6;simp only at rx E1;rw[r1]at rx;obtain⟨rfl,rfl⟩:t=R/\(0,0)=X:=by simpa using rx
    refine⟨_,?_,W,λh=>h,?_⟩;simp only[Rel,if_true];refine⟨b,t,(0,0),A++J++B,Z,W,r1,j1,?_,W,I⟩;apply ajn;intro j;by_cases hj:j<Z.cells.size;have:=E1 j Z.cells[j] (by simp[hj]);simp only[ahY]at this;rw[this];simp[hj];have P0:¬j<t.size:=by rw[r2,<-hz0,<-j2];exact hj
    simp[hj,P0];cases L with
    |val q=>rfl
    |addr a=>
     let⟨H,Y,O,N,F2⟩:=hL;have P1:a.block∉b::(A++F1++B):=(V a.block W).2;refine⟨H,Y,O,(mw<|m a.block (dl) λl=>?_).trans N,F2⟩;cases D with
     |val q=>simp[Loc.fU]at l
     |addr v=>simp only[Loc.fU,abL]at l;rcases k5 with k5|⟨a',P,k5,_⟩;exact P1 (by simp[<-l,k5]);cases P;simp only at k5;exact P1 (by simp[<-l,k5])
  ·rename_i xs o;let⟨xo,S2,hg⟩:=abZ.1 hg;simp only[fH,S2,agb,ahc]at hs;obtain⟨V2,hs,rfl⟩:=hs;simp only[Rel]at h;obtain⟨cs,rfl,hC⟩:=h;obtain⟨y0,A0,Fx,B0,rfl,h1,hR,hl,F4⟩:=Cells.lens o hC S2;have V1:=cells_one<|h1 W;have H3:cs[o]?=some y0:=by simpa using hl
   have T:∃L',step1 w L (.at o none)=some L'/\holds w L' y0/\L'.fU=L.fU/\(∀a,L=.addr a->L'=.addr ⟨a.block,a.off+o,none⟩)/\∀q,L=.val q->L'=.val y0:=by
    cases L with
    |val q=>simp only[holds]at hL;subst hL;exact⟨.val y0,by simp only[step1,cH];simp[H3],W,W,I,I⟩
    |addr a=>
     let⟨H,t,fz,hr,hc⟩:=hL;refine⟨_,W,?_,by rw[cD H];rfl,λa' P=>by cases P;rw[cD H],I⟩;rw[cD H];refine gM hr λj u hu=>?_;rw[V1]at hu
     match j,hu with
     |0,hu=>simp at hu;subst hu;simpa[bO]using hc o y0 (by simpa[bO]using H3)
   let⟨L',e1,e2,e3,e4,e5⟩:=T;have G4:Fx.Nodup:=by rw[ad4,ad4]at hN;exact hN.1.2.1
   obtain⟨D,z1,A,F1,B,k1,k2,k3,rfl,k5,k6⟩:=Rel.jg p hR e2 hg hs G4 (λc g=>G1 c<|by simp[g])
    (λc g=>zaF)
   have hW:∀v,D=.addr v->v.block∈A\/∃a,L=.addr a/\v.block=a.block/\a.off+o<=v.off/\v.off+z1.cells.size<=a.off+o+1:=by
    intro v H5;subst H5;rcases k5 with k5|⟨a',P,g1,g2,g3⟩;exact .inl k5;cases C:L with
    |val q=>rw[e5 q C]at P;cases P
    |addr a=>rw[e4 a C]at P;cases P;exact .inr ⟨a,W,g1,g2,by rw[V1]at g3;simpa using g3⟩
   refine⟨D,z1,A0++A,F1,B++B0,by rw[loc,e1];exact k1,k2,k3,I,?_,λw' S' K J hS hz K0 m ht E2=>?_⟩;cases r:D with
   |val q=>trivial
   |addr v=>rcases hW v r with k|⟨a,g1,g2,g3,g4⟩;exact .inl (by simp[k]);refine .inr ⟨a,g1,g2,E,?_⟩;have:o<cs.size:=(ahP.1 H3).1;rw[bO];omega
   ·let⟨Z,j1,j2,j3,j4⟩:=k6 w' S' K J hS hz K0 (λc g F0=>m c (zah) F0) ht E2
    have F3:=F4 w' S' V2 Z (A++J++B) hS (λ_=>j3<|h1 W) (λc g=>m c (mo) (λl=>by
     cases r:D with
     |val q=>rw[r]at l;simp[Loc.fU]at l
     |addr v=>rw[r]at l;simp only[Loc.fU,abL]at l;rcases hW v r with k|⟨a,g1,g2,-⟩;rw[l]at k;rcases g with h|h|h;exact G1 c (by simp[k]) h;rw[ad4,ad4]at hN;exact hN.1.2.2 c h c (by simp[k]) W;rw[ad4]at hN;exact hN.2.2 c (by simp[k]) c h W;have:=V c (by rw[g1,<-l,g2];rfl);rcases g with h|h|h;exact this.1 h;exact this.2 (by simp[h]);exact this.2<|by simp[h])) j1
    refine⟨.agg<|cs.setIfInBounds o Z,?_,by simp[bO],λh=>by simp[Value.oneCell']at h,?_⟩;simp only[Rel];exact⟨_,W,by simpa using F3⟩;cases C:L with
    |val q=>
     rw[e5 q C]at j4;simp only[xr]at j4⊢;subst j4
     congr 1
     apply ajn;intro j;rw[Array.getElem?_setIfInBounds];split;rename_i hj;subst hj;split;exact H3.symm;rename_i hh;rw[aik E];rfl
    |addr a=>
     rw[e4 a C]at j4;rw[C]at hL m;let⟨H,Y,O,N,F2⟩:=hL;obtain⟨-,R,X,rx,E1⟩:=j4;simp only at rx E1;have X2:=cells_one<|j3<|h1 W;refine⟨H,R,X,rx,λj u hu=>?_⟩;rw[bO,Array.getElem?_setIfInBounds]at hu;split at hu;rename_i hj;subst hj;split at hu;simp only[abL]at hu;subst hu;have:=E1 0 Z (by rw[X2];rfl);simpa using this;simp at hu;rename_i hj;have G0:=F2 j u (fr);by_cases M:D.fU=some a.block;cases r:D with
     |val q=>rw[r]at M;simp[Loc.fU]at M
     |addr v=>
      rw[r]at M ht;simp only[Loc.fU,abL]at M;rcases hW v r with k|⟨a',g1,g2,g3,g4⟩;exact abK (by simp[M▸k])<|(V a.block<|by rw[C];rfl).2;rw[C]at g1;cases g1;let⟨t,q1,q2,q3,q4⟩:=ht Y O (by rw[M];exact N);rw[M,rx]at q1;obtain⟨rfl,rfl⟩:R=t/\X=O:=by simpa using q1
      rw[q4 _<|by rw[hz];omega];exact G0
     ·have:=mw (m a.block (dl) M);rw[rx,N]at this;obtain⟨rfl,rfl⟩:R=Y/\X=O:=by simpa using this
      exact G0
  rename_i xs o n;split at hg;rename_i hon;simp only[fH,hon,if_true,abZ]at hs;let⟨xs',hs,H2⟩:=hs;simp only[Rel]at h;obtain⟨cs,rfl,hC⟩:=h;obtain⟨A0,d,rfl,c1,c2⟩:=Cells.split o hC;obtain⟨Fx,B0,rfl,d1,d2⟩:=Cells.split n c2;rw[ahX,ahX]at d2;have S4:=Cells.length hC;have hlen':cs.size=xs.length:=by simpa using S4
  have hR:Rel w S (.agg<|(xs.drop o).take n) (.agg<|cs.extract o<|o+n) Fx:=by simp only[Rel];refine⟨_,W,?_⟩;have:(cs.extract o<|o+n).toList=(cs.toList.drop o).take n:=I;rw[this];exact d1
  have K2:(Value.agg<|cs.extract o<|o+n).cells.size=n:=by rw[bO];simp;omega
  have T:∃L',step1 w L (.at o<|some n)=some L'/\holds w L' (.agg<|cs.extract o<|o+n)/\L'.fU=L.fU/\(∀a,L=.addr a->L'=.addr ⟨a.block,a.off+o,none⟩)/\
   ∀q,L=.val q->L'=.val (.agg<|cs.extract o<|o+n):=by
   cases L with
   |val q=>simp only[holds]at hL;subst hL;exact⟨_,W,W,W,I,I⟩
   |addr a=>let⟨H,t,fz,hr,hc⟩:=hL;refine⟨_,W,?_,by rw[cD H];rfl,λa' P=>by cases P;rw[cD H],I⟩;rw[cD H];refine gM hr λj u hu=>?_;rw[bO,ajl]at hu;split at hu;have:=hc (o+j) u (fr);simpa[ajo]using this;simp at hu
  let⟨L',e1,e2,e3,e4,e5⟩:=T;have G4:Fx.Nodup:=by rw[ad4,ad4]at hN;exact hN.2.1.1
  obtain⟨D,z1,A,F1,B,k1,k2,k3,rfl,k5,k6⟩:=Rel.jg p hR e2 hg hs G4 (λc g=>G1 c<|by simp[g])
   (λc g=>zaF)
  have hW:∀v,D=.addr v->v.block∈A\/∃a,L=.addr a/\v.block=a.block/\a.off+o<=v.off/\v.off+z1.cells.size<=a.off+o+n:=by
   intro v H5;subst H5;rcases k5 with k5|⟨a',P,g1,g2,g3⟩;exact .inl k5;cases C:L with
   |val q=>rw[e5 q C]at P;cases P
   |addr a=>rw[e4 a C]at P;cases P;exact .inr ⟨a,W,g1,g2,by rw[K2]at g3;exact g3⟩
  refine⟨D,z1,A0++A,F1,B++B0,by rw[loc,e1];exact k1,k2,k3,I,?_,λw' S' K J hS hz K0 m ht E2=>?_⟩;cases r:D with
  |val q=>trivial
  |addr v=>rcases hW v r with k|⟨a,g1,g2,g3,g4⟩;exact .inl (by simp[k]);refine .inr ⟨a,g1,g2,E,?_⟩;rw[bO];omega
  ·let⟨Z,j1,j2,j3,j4⟩:=k6 w' S' K J hS hz K0 (λc g F0=>m c (zah) F0) ht E2
   split at H2;rename_i ys;split at H2;rename_i hys;simp only[abL]at H2;subst H2;simp only[Rel]at j1;obtain⟨S1,rfl,hC1⟩:=j1;have L1:S1.size=n:=by rw[K2,bO]at j2;exact j2
   have H1:∀c,(S c\/c∈A0\/c∈B0)->w'.heap[c]?=w.heap[c]?:=λc g=>m c (mo) (λl=>by
    cases r:D with
    |val q=>rw[r]at l;simp[Loc.fU]at l
    |addr v=>rw[r]at l;simp only[Loc.fU,abL]at l;rcases hW v r with k|⟨a,g1,g2,-⟩;rw[l]at k;rcases g with h|h|h;exact G1 c (by simp[k]) h;rw[ad4]at hN;exact hN.2.2 c h c (by simp[k]) W;rw[ad4,ad4]at hN;exact hN.2.1.2.2 c (by simp[k]) c h W;have:=V c (by rw[g1,<-l,g2];rfl);rcases g with h|h|h;exact this.1 h;exact this.2 (by simp[h]);exact this.2<|by simp[h])
   have T0:Cells w' S' true (xs.take o++ys++xs.drop (o+n)) (cs.toList.take o++S1.toList++cs.toList.drop (o+n)) (A0++(A++J++B)++B0):=
    Cells.append (Cells.append (Cells.mono hS _<|Cells.frame _ c1 λc g=>H1 c<|g.imp id .inl) hC1)
     (Cells.mono hS _<|Cells.frame _ d2 λc g=>H1 c<|g.imp id .inr)
   refine⟨.agg (cs.toList.take o++S1.toList++cs.toList.drop (o+n)).toArray,?_,?_,λh=>by simp[Value.oneCell']at h,?_⟩;simp only[Rel];exact⟨_,W,by simpa using T0⟩;rw[bO,bO];simp;omega;cases C:L with
   |val q=>
    rw[e5 q C]at j4;simp only[xr,Value.agg.injEq]at j4⊢;subst j4;apply ajn;intro j;simp only[List.getElem?_toArray];by_cases hj:j<o;rw[aen,ahI<|by simp;omega,ajm hj];simp;by_cases P0:j<o+n;rw[aen,ahq<|by simp;omega,ahI<|by simp;omega];simp only[ail,ajl,afS,ahi];rw[abx E]
    congr 1;omega
    rw[ahq<|by simp;omega];simp only[ah5,ail,ad9,afS,ahi,L1]
    congr 1;omega
   |addr a=>
    rw[e4 a C]at j4;rw[C]at hL m;let⟨H,Y,O,N,F2⟩:=hL;obtain⟨-,R,X,rx,E1⟩:=j4;simp only at rx E1;refine⟨H,R,X,rx,λj u hu=>?_⟩;rw[bO]at hu;simp only[List.getElem?_toArray]at hu;have L0:∀j u,(j<o\/o+n<=j)->cs[j]?=some u->R[a.off+j]?=some u:=by
     intro j u hj hu;have G0:=F2 j u (fr);by_cases M:D.fU=some a.block;cases r:D with
     |val q=>rw[r]at M;simp[Loc.fU]at M
     |addr v=>
      rw[r]at M ht;simp only[Loc.fU,abL]at M;rcases hW v r with k|⟨a',g1,g2,g3,g4⟩;exact abK (by simp[M▸k])<|(V a.block<|by rw[C];rfl).2;rw[C]at g1;cases g1;let⟨t,q1,q2,q3,q4⟩:=ht Y O (by rw[M];exact N);rw[M,rx]at q1;obtain⟨rfl,rfl⟩:R=t/\X=O:=by simpa using q1
      rw[q4 _<|by rw[hz];omega];exact G0
     ·have:=mw (m a.block (dl) M);rw[rx,N]at this;obtain⟨rfl,rfl⟩:R=Y/\X=O:=by simpa using this
      exact G0
    by_cases hj:j<o;rw[aen,ahI<|by simp;omega,ajm hj]at hu;exact L0 j u (.inl hj) (by simpa using hu);by_cases P0:j<o+n;rw[aen,ahq<|by simp;omega,ahI<|by simp;omega]at hu;simp only[ail,afS,ahi]at hu;have:=E1 (j-min o cs.size) u (fr);rw[<-this];congr 1;omega;rw[ahq<|by simp;omega]at hu;simp only[ah5,ail,ad9,afS,ahi,L1]at hu;refine L0 j u (.inr E) ?_;rw[<-hu];congr 1;omega
   ·simp at H2
   simp at H2
  simp at hg;rename_i xs i;let⟨xi,G2,hg⟩:=abZ.1 hg;simp only[fH,G2,agb,ahc]at hs;obtain⟨M1,hs,rfl⟩:=hs;simp only[Rel]at h;obtain⟨cs,rfl,hC⟩:=h;obtain⟨y0,A0,Fx,B0,rfl,-,hR,hl,F4⟩:=Cells.lens i hC G2;have H3:cs[i]?=some y0:=d8
  have T:step1 w L (.de i)=some (.val y0):=by rw[du hL W I];simp[cH,H3]
  have G4:Fx.Nodup:=by rw[ad4,ad4]at hN;exact hN.1.2.1
  obtain⟨D,z1,A,F1,B,k1,k2,k3,rfl,k5,k6⟩:=Rel.jg p (L:=.val y0) hR W hg hs G4 (λc g=>G1 c<|by simp[g]) (dl);have hW:∀v,D=.addr v->v.block∈A:=by intro v H5;subst H5;rcases k5 with k5|⟨a',P,_⟩;exact k5;cases P
  refine⟨D,z1,A0++A,F1,B++B0,by rw[loc,T];exact k1,k2,k3,I,?_,λw' S' K J hS hz K0 m ht E2=>?_⟩;cases r:D with
  |val q=>trivial
  |addr v=>exact .inl (by simp[hW v r])
  ·let⟨Z,j1,j2,j3,j4⟩:=k6 w' S' K J hS hz K0 (λc g F0=>m c (by
    rcases g with h|h|h|h;exact .inl h;exact .inr<|.inl<|by simp[h]
    exact .inr<|.inr<|.inl<|by simp[h]
    simp[Loc.fU]at h) F0) ht E2
   simp only[xr]at j4;subst j4;have F3:=F4 w' S' M1 Z (A++J++B) hS I (λc g=>m c (mo) (λl=>by
    cases r:D with
    |val q=>rw[r]at l;simp[Loc.fU]at l
    |addr v=>rw[r]at l;simp only[Loc.fU,abL]at l;have k:=hW v r;rw[l]at k;rcases g with h|h|h;exact G1 c (by simp[k]) h;rw[ad4,ad4]at hN;exact hN.1.2.2 c h c (by simp[k]) W;rw[ad4]at hN;exact hN.2.2 c (by simp[k]) c h W)) j1
   refine⟨.tuple cs,?_,W,λh=>h,?_⟩;simp only[Rel];refine⟨cs,W,?_⟩;have:cs.toList.set i Z=cs.toList:=by apply aiz;intro j;rw[aiA];split;rename_i hj;subst hj;split;exact hl.symm;rename_i hh;rw[agc E];rfl
   rw[this]at F3;simpa using F3;cases C:L with
   |val q=>rfl
   |addr a=>
    rw[C]at hL m;let⟨H,Y,O,N,F2⟩:=hL;refine⟨H,Y,O,(mw<|m a.block (dl) λl=>?_).trans N,F2⟩;cases r:D with
    |val q=>rw[r]at l;simp[Loc.fU]at l
    |addr v=>rw[r]at l;simp only[Loc.fU,abL]at l;have k:=hW v r;rw[l]at k;exact(V a.block<|by rw[C];rfl).2 (by simp[k])
  rename_i f sz xs W1 o n;cases f<;>simp[fH]at hs;simp at hg
end
section
variable{F:L Nat}{i:Nat}{S:Nat->Prop}{T:Nat->Value}{p:Path}{α:Type}{w w':World}
structure Sl where
 av:AV
 g1:Nat
 g2:Nat
instance:Inhabited Sl:=⟨⟨.dead,0,0⟩⟩
abbrev St:=Nat->Sl
def jg(f:Nat->α)(i:Nat)(x:α):Nat->α:=λj=>if j=i then x else f j
def aG(f:Nat->α)(i:Nat)(x:α):jg f i x i=x:=by simp[jg]
def ar(f:Nat->α){j:Nat}(x:α)(h:j≠i):jg f i x j=f j:=by simp[jg,h]
def flat:Path->Bool
 |[]=>false
 |_::p=>p.all λ|.at .. =>true|_=>false
def lN:Path->Bool
 |[]=>true
 |[.oC ..]=>true
 |[.de _]=>true
 |_=>false
def SO:Path->Bool
 |[]=>true
 |[.de _]=>true
 |_=>false
def Ji{q:Prop}(h:SO p=true\/q):lN p=true\/q:=h.imp (λh=>by unfold SO at h;split at h;rfl;rfl;cases h) id
def Is(h:lN p=true)(z:Value):loc w (.val z) p=loc w' (.val z) p:=by unfold lN at h;split at h;rfl;simp[loc,step1];simp[loc,step1];cases h
def Iv(h:lN p=true){z:Value}{L:Loc}(hl:loc w (.val z) p=some L):∃u,L=.val u:=by
 unfold lN at h;split at h;simp[loc]at hl;exact⟨z,hl.symm⟩;simp[loc,step1]at hl;cases z<;>simp[cH]at hl
 grind
 simp[loc,step1]at hl;cases z<;>simp[cH]at hl
 grind
 cases h
def J1{w w':World}:∀(p:Path)(a:Addr),(p.all λ|.at .. =>true|_=>false)=true->loc w (.addr a) p=loc w' (.addr a) p
 |[],a,_=>rfl
 |.at o n::p,a,h=>J1 p _ h
 |.idx .. ::p,a,h=>by cases h
 |.deref::p,a,h=>by cases h
 |.de _ ::p,a,h=>by cases h
 |.oC .. ::p,a,h=>by cases h
def Cv{w w':World}:∀(p:Path)(z:Value),(p.all λ|.at .. =>true|_=>false)=true->loc w (.val z) p=loc w' (.val z) p
 |[],z,_=>rfl
 |.at o n::p,z,h=>by
  simp[loc,step1];have c:=h;cases hh:cH z _ with
  |none=>rfl
  |some b=>
   cases b with
   |val y=>exact Cv p y c
   |addr a=>exact J1 p a c
 |.idx .. ::p,a,h=>by cases h
 |.deref::p,a,h=>by cases h
 |.de _ ::p,a,h=>by cases h
 |.oC .. ::p,a,h=>by cases h
def MC(h:flat p=true)(z:Value):loc w (.val z) p=loc w' (.val z) p:=by
 cases p with
 |nil=>rfl
 |cons s p=>
  simp[loc,step1];cases hh:cH z s with
  |none=>rfl
  |some b=>
   cases b with
   |val y=>exact Cv p y h
   |addr a=>exact J1 p a h
def an(w:World)(S:Nat->Prop)(σ:St)(T:Nat->Value)(i:Nat)(F:L Nat):Prop:=
 match(σ i).av with
 |.bH r g1 g2 p=>F=[]/\g1<=(σ r).g1/\g2<=(σ r).g2/\((σ r).g1=g1->(lN p=true\/(σ r).g2=g2)->(lN p=false->∃y,bM (σ r).av p=some y)->
   ∃a,loc w (.val<|T r) p=some a/\holds w a (T i)/\∀d,a=.addr d->(T i).oneCell'=true)
 |.ptr r g1 g2 p=>F=[]/\g1<=(σ r).g1/\g2<=(σ r).g2/\(∃d,T i=.pointer (some d))/\((σ r).g1=g1->(flat p=true\/(σ r).g2=g2)->(flat p=false->∃y,bM (σ r).av p=some y)->
   ∃d,loc w (.val<|T r) p=some (.addr d)/\T i=.pointer (some d))
 |.abs J=>∀w' e,(∀b,S b\/b∈F->w'.heap[b]?=w.heap[b]?)->(∀b,S b->e b)->J w' e F
 |.ix g c=>F=[]/\(∀q∈c,q.2<=(σ q.1).g1)/\((∀q∈c,(σ q.1).g1=q.2)->T i=.func (.func g) #[] (c.map λq=>T q.1).toArray)
 |av=>Rel w S av (T i) F
def AV.plain:AV->Bool
 |.bH .. |.ptr .. |.abs .. |.ix .. =>false
 |_=>true
def an.aC{σ:St}(a:(σ i).av.plain=true):an w S σ T i F↔Rel w S (σ i).av (T i) F:=by unfold an;split;rename_i h;rw[h]at a;simp[AV.plain]at a;rename_i h;rw[h]at a;simp[AV.plain]at a;rename_i h;rw[h]at a;simp[AV.plain]at a;rename_i h;rw[h]at a;simp[AV.plain]at a;rfl
def Rel.plain{av:AV}{y:Value}(h:Rel w S av y F):av.plain=true:=by cases av<;>simp_all[Rel,AV.plain]
structure aT(S:Nat->Prop)(B:Nat->Prop)(σ:St)(T:Nat->Value)(w:World)(F:Nat->List Nat):Prop where
 rel:∀i,an w S σ T i<|F i
 nodup:∀i,(F i).Nodup
 dz:∀i j,i≠j->∀b∈F i,b∉F j
 own:∀i,∀b∈F i,B b/\b<w.heap.size/\¬S b
 shr:∀b,S b->b<w.heap.size
structure af0(S:Nat->Prop)(σ σ':St)(T T':Nat->Value)(w w':World)(F:Nat->List Nat):Prop where
 g1:∀r,(σ r).g1<=(σ' r).g1
 g2:∀r,(σ r).g2<=(σ' r).g2
 val:∀r,(σ' r).g1=(σ r).g1->T' r=T r
 ins:∀r,(σ' r).g1=(σ r).g1->(σ' r).g2=(σ r).g2->(∀p y,bM (σ' r).av p=some y->∃y',bM (σ r).av p=some y')/\∀b,S b\/b∈F r->w'.heap[b]?=w.heap[b]?
def an.goes{S':Nat->Prop}{σ c:St}{T':Nat->Value}{F:Nat->List Nat}(hc:∀i,an w S σ T i<|F i)(a:af0 S σ c T T' w w' F)
 (hS:∀b,S b->S' b)(R:(c i).av=(σ i).av)(n:T' i=T i)(D:∀b,S b\/b∈F i->w'.heap[b]?=w.heap[b]?):an w' S' c T' i (F i):=by
 have h:=hc i;unfold an at h⊢;rw[R];split;rename_i r g1 g2 p C;rw[C]at h;let⟨B,m,l,A⟩:=h;refine⟨B,ab7 m<|a.g1 r,ab7 l<|a.g2 r,λk1 k2 k3=>?_⟩;have o:=aiB (by have:=a.g1 r;omega) m;have d:(c r).g1=(σ r).g1:=E;by_cases e:lN p=true;let⟨L,f,v,Y⟩:=A o (.inl e) (λh=>by rw[e]at h;cases h);obtain⟨u,rfl⟩:=Iv e f;refine⟨_,by rw[a.val r d,<-Is (w:=w) e];exact f,?_,I⟩;simpa[holds,n]using v;have N:=k2.resolve_left e;have V:=aiB (by have:=a.g2 r;omega) l;let⟨K,x⟩:=k3 (b6);let⟨P,O⟩:=a.ins r d E;let⟨y,k⟩:=P p K x;let⟨L,f,v,Y⟩:=A o (.inr V) λ_=>⟨y,k⟩;have H:=hc r;have j:(σ r).av.plain=true:=by
  cases p with
  |nil=>exact abK W e
  |cons s p=>cases hh:(σ r).av<;>simp[AV.plain]<;>(rw[hh]at k;simp[bM]at k)
 rw[an.aC j]at H;let⟨L1,z1,F1,r1,r2,r3,r4,M⟩:=Rel.read p (L:=.val<|T r) H W k;rw[r1]at f;simp[abL]at f;subst f;let⟨q1,q2⟩:=M w' (.val _) O;exact⟨L1,by rw[a.val r d];exact q1,by rw[n];exact v.same q2,by rw[n];exact Y⟩;rename_i r g1 g2 p C;rw[C]at h;let⟨B,m,l,h5,A⟩:=h;refine⟨B,ab7 m<|a.g1 r,ab7 l<|a.g2 r,by rw[n];exact h5,λk1 k2 k3=>?_⟩;have o:=aiB (by have:=a.g1 r;omega) m;have d:(c r).g1=(σ r).g1:=E;by_cases e:flat p=true;let⟨X,f,v⟩:=A o (.inl e) (λh=>by rw[e]at h;cases h);exact⟨X,by rw[a.val r d,<-MC (w:=w) e];exact f,by rw[n];exact v⟩;have N:=k2.resolve_left e;have V:=aiB (by have:=a.g2 r;omega) l;let⟨K,x⟩:=k3 (b6);let⟨P,O⟩:=a.ins r d E;let⟨y,k⟩:=P p K x;let⟨X,f,v⟩:=A o (.inr V) λ_=>⟨y,k⟩;have H:=hc r;cases p with
 |nil=>simp[loc]at f
 |cons s p=>
  have j:(σ r).av.plain=true:=by cases hh:(σ r).av<;>simp[AV.plain]<;>(rw[hh]at k;simp[bM]at k)
  rw[an.aC j]at H;let⟨L1,z1,F1,r1,r2,r3,r4,M⟩:=Rel.read (s::p) (L:=.val<|T r) H W k;rw[r1]at f;cases f;exact⟨X,by rw[a.val r d];exact(M w' (.val _) O).1,by rw[n];exact v⟩
 ·grind
 rename_i g t C;rw[C]at h;let⟨B,m,l⟩:=h;refine⟨B,λq z=>ab7 (m q z)<|a.g1 _,λk1=>?_⟩;have o:=λq z=>aiB (by have:=a.g1 q.1;grind)<|m q z;rw[n,l o]
 congr 2
 exact af3 λq z=>(a.val q.1<|by rw[k1 q z,o q z]).symm;rename_i B m l A;have j:(σ i).av.plain=true:=by
  cases hh:(σ i).av with
  |bH r g1 g2 p=>grind
  |ptr r g1 g2 p=>grind
  |abs J=>exact abK hh (l J)
  |ix g t=>simp_all
  |_=>rfl
 have Z:=hc i;rw[an.aC j]at Z;rw[n];exact Rel.mono hS _<|Rel.frame _ Z D
end
section
variable{S S':Nat->Prop}{B:Nat->Prop}{σ:St}{T:Nat->Value}{w w':World}{F:Nat->L Nat}
section
variable{av' y y':AV}{ad:Addr}{i:Nat}{z:Value}
def aT.step(h:aT S B σ T w F){a:St}{T':Nat->Value}{F':Nat->L Nat}(e:af0 S σ a T T' w w' F)(g:∀b,S b->S' b)
 (hs:∀i,((a i).av=(σ i).av/\T' i=T i/\F' i=F i/\∀b,S b\/b∈F i->w'.heap[b]?=w.heap[b]?)\/an w' S' a T' i (F' i))
 (hn:∀i,(F' i).Nodup)(f:∀i j,i≠j->∀b∈F' i,b∉F' j)(d:∀i,∀b∈F' i,B b/\b<w'.heap.size/\¬S' b)(c:∀b,S' b->b<w'.heap.size):
 aT S' B a T' w' F' where
 rel i:=by rcases hs i with⟨h1,m,l,k⟩|h1;rw[l];exact an.goes h.rel e g h1 m k;grind
 nodup:=hn
 dz:=f
 own:=d
 shr:=c
def aT.put(h:aT S B σ T w F)(d:Nat)(av:AV)(z:Value)(g:an w S (jg σ d ⟨av,(σ d).g1+1,(σ d).g2⟩) (jg T d z) d []):
 aT S B (jg σ d ⟨av,(σ d).g1+1,(σ d).g2⟩) (jg T d z) w (jg F d []):=by
 refine h.step ⟨λr=>?_,λr=>?_,λr c=>?_,λr c _=>?_⟩ (λ_ h=>h) (λi=>?_) (λi=>?_) (λi j f b a=>?_) (λi b a=>?_) h.shr;by_cases e:r=d;subst e;rw[aG];simp;rw[ar _ _ e];exact .refl;by_cases e:r=d;subst e;rw[aG];simp;rw[ar _ _ e];exact .refl;by_cases e:r=d;subst e;rw[aG]at c;simp at c;rw[ar _ _ e];by_cases e:r=d;subst e;rw[aG]at c;simp at c;rw[ar _ _ e];simp_all;by_cases e:i=d;subst e;right;rwa[aG];rw[ar _ _ e,ar _ _ e,ar _ _ e];simp_all;by_cases e:i=d;subst e;rw[aG];simp_all;rw[ar _ _ e];exact h.nodup i;by_cases e:i=d;subst e;rw[aG]at a;cases a;rw[ar _ _ e]at a;by_cases k:j=d;subst k;rw[aG];simp;rw[ar _ _ k];exact h.dz i j f b a;by_cases e:i=d;subst e;rw[aG]at a;cases a;rw[ar _ _ e]at a;exact h.own i b a
def made(σ:St)(M:L Nat)(n:Nat)(y:AV):St:=λi=>if i=n then⟨y,(σ n).g1+1,(σ n).g2⟩else if i∈M then⟨.dead,(σ i).g1+1,(σ i).g2⟩else σ i
def aT.make(h:aT S B σ T w F)(M:L Nat)(n:Nat)(y:AV)(z:Value)(p:L Nat)(J:∀b,w.heap.size<=b->B b)(d:w.heap.size<=w'.heap.size)
 (k:∀b,b<w.heap.size->(∀m∈M,b∉F m)->w'.heap[b]?=w.heap[b]?)(x:p.Nodup)(g:∀b∈p,(∃m∈M,b∈F m)\/w.heap.size<=b/\b<w'.heap.size)
 (l:Rel w' S y z p):aT S B (made σ M n y) (jg T n z) w' (λi=>if i=n then p else if i∈M then[]else F i):=by
 have o:=λi b a=>(h.own i b a).2.1;have v:=λb a=>k b (h.shr b a) λm _ c=>(h.own m b c).2.2 a;have A:∀i,i∉M->∀b∈F i,w'.heap[b]?=w.heap[b]?:=λi hi b a=>k b (o i b a) λm hm c=>h.dz i m (λe=>hi (e▸hm)) b a c;have H:∀i,i∉M->∀b∈F i,b∉p:=λi hi b a t=>by
  rcases g b t with⟨m,hm,c⟩|⟨C,_⟩;exact h.dz i m (λe=>hi (e▸hm)) b a c
  grind
 refine h.step (w':=w') (S':=S) ⟨λr=>?_,λr=>?_,λr q=>?_,λr q _=>?_⟩ (λ_ h=>h) (λi=>?_) (λi=>?_) (λi j s b a=>?_) (λi b a=>?_)
  (λb a=>aey (h.shr b a) d)
 unfold made;grind;unfold made;grind;unfold made at q;split at q;simp_all;rename_i e;exact ar _ _ e;unfold made at q⊢;grind;by_cases e:i=n;subst e;right;rw[an.aC<|by simp[made];exact l.plain];simp[made,aG];exact l;by_cases f:i∈M;right;rw[an.aC<|by simp[made,e,f,AV.plain]];simp[made,e,f,Rel];left;simp[made,e,f,ar _ _ e]
 grind
 by_cases e:i=n;simp_all;by_cases f:i∈M;simp[e,f];simp[e,f,if_false];exact h.nodup i;by_cases e:i=n
 grind
 simp only[e,if_false]at a;by_cases f:i∈M;simp[f]at a;simp[f,if_false]at a;by_cases D:j=n
 grind
 simp only[D,if_false];by_cases u:j∈M;simp[u];simp[u,if_false];exact h.dz i j s b a;by_cases e:i=n;simp[e,if_true]at a;rcases g b a with⟨m,hm,c⟩|⟨C,K⟩;exact⟨(h.own m b c).1,aey (o m b c) d,(h.own m b c).2.2⟩
 grind
 simp only[e,if_false]at a;by_cases f:i∈M;simp[f]at a;simp[f,if_false]at a;exact⟨(h.own i b a).1,aey (o i b a) d,(h.own i b a).2.2⟩
def XV(h:At w ad z):Chg w w ad z:=by intro f e d;let⟨_,c,b,a,hc⟩:=h;grind
def pE{L:Loc}(h:holds w L z):abW w w L z z:=by
 cases L with
 |val y=>rfl
 |addr a=>exact XV h
def AV.cell:AV->Bool
 |.v _|.list .. |.box .. |.fn .. |.hole|.ob _=>true
 |_=>false
def Rel.one{av:AV}{y:Value}{F:L Nat}(h:Rel w S av y F)(hc:av.cell=true):y.oneCell'=true:=by
 cases av with
 |v x=>simp[Rel]at h;obtain⟨d,rfl,-⟩:=h;cases y<;>simp_all[scalar,Value.oneCell']
 |list f sz m=>
  cases f with
  |nil=>simp[Rel]at h;rw[h.2.1];rfl
  |shr=>simp only[Rel]at h;rcases h with⟨-,⟨ad,d⟩,-⟩|⟨b,j,e,g,k,d,-⟩<;>rw[d]<;>rfl
  |own=>simp only[Rel]at h;rcases h with⟨-,d,-⟩|⟨b,e,g,l,d,-⟩<;>rw[d]<;>rfl
 |box own x=>simp only[Rel]at h;obtain⟨b,g,k,l,z,d,-⟩:=h;rw[d];rfl
 |fn f a c=>simp only[Rel]at h;obtain⟨o,n,q,p,d,-⟩:=h;rw[d];rfl
 |hole=>simp[Rel]at h;exact h.1
 |ob J=>exact h.1
 |_=>simp[AV.cell]at hc
def kH(y:AV):AV:=if y.cell then .hole else .dead
def Rel.kH{a:L Nat}(h:Rel w S y z a):Rel w S (kH y) z []:=by unfold Ai.kH;split;rename_i hc;simp only[Rel];exact⟨h.one hc,U⟩;simp[Rel]
def Sub(a x:AV):Prop:=∀(p:Path)(y':AV),bM a p=some y'->∃y,bM x p=some y
def Jq:∀(p:Path){b xs:L AV},b.length=xs.length->(∀(i:Nat)(c a:AV),b[i]?=some c->xs[i]?=some a->Sub c a)->∀y':AV,bM (.agg b) p=some y'->∃y,bM (.agg xs) p=some y
 |[],b,xs,_,_,y',_=>⟨_,W⟩
 |.at o none::p,b,xs,hl,he,y',h=>by
  simp[bM,abZ]at h⊢;let⟨c,g,f⟩:=h;have d:o<xs.length:=by grind
  let⟨y,j⟩:=he o c _ g (ad7 d) p y' f;simp_all
 |.at o (some n)::p,b,xs,hl,he,y',h=>by
  simp only[bM]at h⊢;rw[hl]at h;split at h;rename_i e;rw[abx e];refine Jq p (by simp[hl]) (λi c a g f=>?_) y' h
  grind
  cases h
 |.idx .. ::p,b,xs,_,_,y',h=>by simp[bM]at h
 |.deref::p,b,xs,_,_,y',h=>by simp[bM]at h
 |.de .. ::p,b,xs,_,_,y',h=>by simp[bM]at h
 |.oC .. ::p,b,xs,_,_,y',h=>by simp[bM]at h
def Jp{xs:L AV}{x d:AV}(g:xs[i]?=some x)(h:Sub d x):∀(j:Nat)(c a:AV),(xs.set i d)[j]?=some c->xs[j]?=some a->Sub c a:=by intro j c a b e;rw[aiA]at b;split at b;simp_all;rw[b]at e;cases e;exactλp y f=>⟨y,f⟩
def Ll{b xs:L AV}(hl:b.length=xs.length)(he:∀(i:Nat)(c a:AV),b[i]?=some c->xs[i]?=some a->Sub c a){p:Path}(h:b[i]?.bind (bM · p)=some y'):∃y,xs[i]?.bind (bM · p)=some y:=by
 simp[abZ]at h⊢;let⟨c,f,e⟩:=h;have d:i<xs.length:=by grind
 let⟨y,g⟩:=he i c _ f (ad7 d) p _ e;grind
def v7:∀(q:Path){x y h v:AV},bM x q=some y->Sub h y->fH x q h=some v->Sub v x
 |[],x,y,h,v,k,m,d=>by simp[bM,abL]at k;simp[fH,abL]at d;simp_all
 |s::q,x,y,h,v,k,m,d=>by
  intro p y' f;cases p with
  |nil=>exact⟨_,W⟩
  |cons t p=>
   unfold fH at d;split at d;split at d;rename_i e;subst e;simp[abZ,ahc]at d;obtain⟨x0,l,A,g,rfl⟩:=d;simp[bM,if_true,l,agb]at k;have he:=Jp l<|v7 q k m g;cases t with
   |idx j O=>simp only[bM]at f⊢;split at f;rename_i e;rw[abx e];exact Ll I he f;cases f
   |oC a b c=>simp only[bM,ahy]at f⊢;exact⟨_,f⟩
   |_=>simp[bM]at f
   ·cases d
   simp[ahc]at d;obtain⟨A,g,rfl⟩:=d;cases t with
   |deref=>simp[bM]at f⊢;exact v7 q k m g p y' f
   |_=>simp[bM]at f
   ·rename_i xs o;simp[abZ,ahc]at d;obtain⟨x0,l,A,g,rfl⟩:=d;simp[bM,l,agb]at k;exact Jq (t::p) I (Jp l<|v7 q k m g) y' f
   rename_i xs o n;split at d;rename_i K;simp only[abZ]at d;let⟨z,l,g⟩:=d;split at g;rename_i M;split at g;rename_i hn;cases g;simp[bM,abx K]at k;have u:(xs.take o++M++xs.drop (o+n)).length=xs.length:=by simp;omega
   refine Jq (t::p) u (λi Z a g1 g2=>?_) y' f;by_cases V:i<o;rw[aen,ahI<|by simp;omega,ah6,abx V,g2]at g1;cases g1;exactλp y H=>⟨y,H⟩;by_cases Y:i<o+n;rw[aen,ahq<|by simp;omega,ahI<|by simp;omega]at g1;have J:(xs.take o).length=o:=by simp;omega
   rw[J]at g1;intro R N D;let⟨X,C⟩:=(v7 q k m l) (.at (i-o) none::R) N (by simp[bM,g1,agb];exact D);simp[bM,ah6,ah5]at C
   grind
   rw[ahq<|by simp;omega,ah5]at g1;have J:(xs.take o++M).length=o+n:=by simp;omega
   rw[J,show o+n+(i-(o+n))=i from E,g2]at g1;cases g1;exactλp y H=>⟨y,H⟩;cases g;cases g;cases d;rename_i xs i;simp[abZ,ahc]at d;obtain⟨x0,l,A,g,rfl⟩:=d;simp[bM,l,agb]at k;cases t with
   |de j=>simp[bM]at f⊢;exact Ll I (Jp l<|v7 q k m g) f
   |_=>simp[bM]at f
   ·cases d
def Vr(y:AV):Sub (kH y) y:=by
 intro p _ h;cases p with
 |nil=>exact⟨_,W⟩
 |cons s p=>unfold kH at h;split at h<;>(cases s<;>simp[bM]at h)
def mh(s:Sl)(p:Path)(av:AV):Sl:=if p=[]then⟨av,s.g1+1,s.g2⟩else⟨av,s.g1,s.g2⟩
def Hy(s:Sl)(p:Path)(av:AV):(mh s p av).av=av:=by unfold mh;grind
def SN(s:Sl)(p:Path)(av:AV):s.g1<=(mh s p av).g1:=by unfold mh;grind
def SM(s:Sl)(p:Path)(av:AV):s.g2<=(mh s p av).g2:=by unfold mh;grind
def aT.take(h:aT S B σ T w F)(r n:Nat)(p:Path)(K:n≠r)(M:(σ r).av.plain=true)(C:bM (σ r).av p=some y)(hs:fH (σ r).av p (kH y)=some av'):
 ∃L z o F',loc w (.val<|T r) p=some L/\holds w L z/\Rel w S y z o/\
  aT S B (jg (jg σ r<|mh (σ r) p av') n ⟨y,(σ n).g1+1,(σ n).g2⟩) (jg T n z) w F'/\F' n=o/\∀m,m≠r->m≠n->F' m=F m:=by
 have x:=h.rel r;rw[an.aC M]at x;let⟨L,z,A,o,u,k1,k2,k3,k4,k5,k6⟩:=Rel.jg p (L:=.val<|T r) x W C hs (h.nodup r) (λb c=>(h.own r b c).2.2) (dl);obtain⟨V,J,-,-,v⟩:=k6 w S z [] (λ_ h=>h) W (λh=>h) (λ_ _ _=>rfl) (pE k2) k3.kH;simp[xr]at v;subst v;have O:=h.nodup r;rw[k4,ad4,ad4]at O;have f:∀b,b∈A++[]++u->b∈F r:=λb c=>by grind
 have d:∀b,b∈o->b∈F r:=λb c=>by rw[k4];simp[c]
 refine⟨L,z,o,λi=>if i=n then o else if i=r then A++[]++u else F i,k1,k2,k3,?_,I,λm R P=>by simp[R,P]⟩;refine h.step (w':=w) (S':=S) ⟨λi=>?_,λi=>?_,λi hi=>?_,λi hi t=>?_⟩ (λ_ h=>h) (λi=>?_) (λi=>?_) (λi j g b c=>?_) (λi b c=>?_) h.shr;by_cases e:i=n;subst e;rw[aG];simp;rw[ar _ _ e];by_cases a:i=r;subst a;rw[aG];exact SN _ _ _;rw[ar _ _ a];exact abY _;by_cases e:i=n;subst e;rw[aG];simp;rw[ar _ _ e];by_cases a:i=r;subst a;rw[aG];exact SM _ _ _;rw[ar _ _ a];exact abY _;by_cases e:i=n;subst e;rw[aG]at hi;simp at hi;exact ar _ _ e;by_cases e:i=n;subst e;rw[aG]at hi;simp at hi;rw[ar _ _ e]at hi t⊢;by_cases a:i=r;subst a;rw[aG,Hy];exact⟨v7 p C (Vr y) hs,λ_ _=>rfl⟩;rw[ar _ _ a];simp_all;by_cases e:i=n;subst e;right;rw[an.aC<|by rw[aG];exact k3.plain];simp[aG,if_true];exact k3;by_cases a:i=r;subst a;right;have:(jg (jg σ i<|mh (σ i) p av') n ⟨y,(σ n).g1+1,(σ n).g2⟩ i).av=av':=by rw[ar _ _ e,aG,Hy]
 rw[an.aC<|by rw[this];exact J.plain,this,ar _ _ e];simp_all;left;simp only[ar _ _ e,ar _ _ a,e,a,if_false,true_and];simp;by_cases e:i=n;simp_all;by_cases a:i=r
 grind
 simp[e,a,if_false];exact h.nodup i;have D:∀b,b∈o->b∉A++[]++u:=λb c k=>by grind
 by_cases e:i=n;simp[e,if_true]at c;have N:j≠n:=λq=>g<|e.trans q.symm;simp only[N,if_false];by_cases a:j=r;simp_all;rw[abl a];exactλl=>h.dz j r a b l<|d b c;simp only[e,if_false]at c;by_cases a:i=r;rw[abx a]at c;by_cases s:j=n
 grind
 simp[s,if_false];rw[abl λq=>g<|a.trans q.symm];exactλl=>h.dz j r (λq=>g<|a.trans q.symm) b l<|f b c;rw[abl a]at c;by_cases s:j=n;simp[s,if_true];exactλk=>h.dz i r a b c<|d b k;simp only[s,if_false];by_cases H:j=r;rw[abx H];exactλk=>h.dz i r a b c<|f b k;rw[abl H];exact h.dz i j g b c;by_cases e:i=n;simp[e,if_true]at c;exact h.own r b<|d b c;simp only[e,if_false]at c;by_cases a:i=r;rw[abx a]at c;exact h.own r b<|f b c;rw[abl a]at c;exact h.own i b c
def aT.share(h:aT S B σ T w F)(r:Nat)(p:Path)(C:(σ r).av.plain=true)(D:bM (σ r).av p=some y)(hs:fH (σ r).av p y.cK=some av'):
 ∃(L:Loc)(z:Value)(f:List Nat)(F':Nat->List Nat),loc w (.val<|T r) p=some L/\holds w L z/\Rel w S y z f/\
  aT (λb=>S b\/b∈f) B (jg σ r ⟨av',(σ r).g1,(σ r).g2+1⟩) T w F'/\(∀b∈f,b∈F r):=by
 have v:=h.rel r;rw[an.aC C]at v;let⟨L,z,A,f,o,k1,k2,k3,k4,k5,k6⟩:=Rel.jg p (L:=.val<|T r) v W D hs (h.nodup r) (λb a=>(h.own r b a).2.2) (dl);have c:∀b,b∈f->b∈F r:=λb a=>by rw[k4];simp[a]
 obtain⟨J,u,-,-,t⟩:=k6 w (λb=>S b\/b∈f) z [] (λ_ h=>.inl h) W (λh=>h) (λ_ _ _=>rfl) (pE k2)<|Rel.share (λ_ h=>.inl h) _ k3 λb a=>.inr a;subst t;have K:=h.nodup r;have d:∀b,b∈A++[]++o->b∈F r:=λb a=>by grind
 refine⟨L,z,f,λi=>if i=r then A++[]++o else F i,k1,k2,k3,?_,c⟩;refine h.step (w':=w) (S':=λb=>S b\/b∈f) (F':=λi=>if i=r then A++[]++o else F i) ⟨λi=>?_,λi=>?_,λi hi=>rfl,λi hi k=>?_⟩ (λ_ h=>.inl h) (λi=>?_) (λi=>?_) (λi j g b a=>?_) (λi b a=>?_) λb(a:S b\/b∈f)=>?_;by_cases e:i=r;subst e;rw[aG];exact .refl;rw[ar _ _ e];exact .refl;by_cases e:i=r;subst e;rw[aG];simp;rw[ar _ _ e];exact .refl;by_cases e:i=r;subst e;rw[aG]at k;simp at k;rw[ar _ _ e];simp_all;by_cases e:i=r;subst e;right;rw[an.aC<|by rw[aG];exact u.plain,aG];simp only;exact u;left;simp only[ar _ _ e,e,if_false,true_and];simp;by_cases e:i=r
 grind
 simp[e];exact h.nodup i;by_cases e:i=r;simp only[e]at a;rw[abl λn=>g<|e.trans n.symm];exactλl=>h.dz j r (λn=>g<|e.trans n.symm) b l<|d b a;simp[e]at a;by_cases x:j=r;rw[abx x];exactλm=>h.dz i r e b a<|d b m;rw[abl x];exact h.dz i j g b a;by_cases e:i=r;simp only[e]at a;let⟨s,q,o3⟩:=h.own r b<|d b a
 grind
 simp[e]at a;let⟨s,q,o3⟩:=h.own i b a;exact⟨s,q,λhh=>hh.elim o3 λH=>h.dz i r e b a<|c b H⟩;rcases a with a|a;exact h.shr b a;exact(h.own r b<|c b a).2.1
def stored(σ:St)(r:Nat)(M:L Nat)(av:AV):St:=λi=>if i=r then⟨av,(σ r).g1,(σ r).g2+1⟩else if i∈M then⟨.dead,(σ i).g1+1,(σ i).g2⟩else σ i
def aT.store(h:aT S B σ T w F)(r:Nat)(M:List Nat)(p:Path){u:Value}{q:List Nat}(J:r∉M)(hp:(σ r).av.plain=true)
 (hg:bM (σ r).av p=some y)(hs:fH (σ r).av p y'=some av')(hl:loc w (.val<|T r) p=some (.addr ad))
 (hv:Rel w S y' u q)(F0:q.Nodup)(f:∀b∈q,∃m∈M,b∈F m):
 ∃z,At w ad z/\(∃O,Rel w S y z O)/\B ad.block/\(u.cells.size=z.cells.size->(z.oneCell'=true->u.oneCell'=true)->
  ∀w',w'.heap.size=w.heap.size->(∀b,b≠ad.block->w'.heap[b]?=w.heap[b]?)->Chg w w' ad u->
   ∃F',aT S B (stored σ r M av') T w' F'):=by
 have V:=h.rel r;rw[an.aC hp]at V;let⟨L,z,A,O,P,k1,k2,k3,k4,k5,k6⟩:=Rel.jg p (L:=.val<|T r) V W hg hs (h.nodup r) (λb c=>(h.own r b c).2.2) (dl);rw[k1]at hl;cases hl;have hA:ad.block∈A:=by rcases k5 with k5|⟨a,ha,_⟩;exact k5;cases ha
 have k:ad.block∈F r:=by rw[k4];simp[hA]
 have C:∀b∈q,b∉F r:=λb c=>by let⟨m,hm,o⟩:=f b c;exact h.dz m r (λe=>J (e▸hm)) b o
 have A0:∀i,i∉M->∀b∈q,b∉F i:=λi hi b c=>by let⟨m,hm,o⟩:=f b c;exact h.dz m i (λe=>hi (e▸hm)) b o
 refine⟨z,k2,⟨O,k3⟩,(h.own r _ k).1,λH h1 w' l s N=>?_⟩;have E1:∀i,i≠r->∀b∈F i,b≠ad.block:=λi hi b c e=>h.dz i r hi b c (e▸k);have x:∀b,S b->b≠ad.block:=λb c e=>(h.own r _ k).2.2 (e▸c);have D:Rel w' S y' u q:=Rel.frame _ hv λb c=>s b<|c.elim (x b) λc e=>C b c (e▸k);obtain⟨zz,j1,-,-,R⟩:=k6 w' S u q (λ_ h=>h) H h1 (λb _ c=>s b<|by simpa[Loc.fU,eq_comm]using c) N D;simp[xr]at R;subst R;have hN:=h.nodup r;rw[k4,ad4,ad4]at hN;have n:∀b,b∈A++q++P->b∈F r\/b∈q:=λb c=>by grind
 have E2:∀b,b∈A\/b∈P->b∈F r:=λb c=>by grind
 refine⟨λi=>if i=r then A++q++P else if i∈M then[]else F i,?_⟩;refine h.step (w':=w') (S':=S) ⟨λi=>?_,λi=>?_,λi hi=>rfl,λi hi K=>?_⟩ (λ_ h=>h) (λi=>?_) (λi=>?_) (λi j v b c=>?_) (λi b c=>?_) (λb c=>by rw[l];exact h.shr b c);unfold stored;grind;unfold stored;grind;unfold stored at hi K⊢
 grind
 by_cases e:i=r;subst e;right;have:(stored σ i M av' i).av=av':=by simp[stored]
 rw[an.aC<|by rw[this];exact j1.plain,this];simp_all;by_cases g:i∈M;right;have:(stored σ r M av' i).av=.dead:=by simp[stored,e,g]
 rw[an.aC<|by rw[this];rfl,this];simp[e,g,Rel];left;simp[stored,e,g,if_false,true_and]
 grind
 by_cases e:i=r
 grind
 by_cases g:i∈M;simp[e,g];simp[e,g,if_false];exact h.nodup i;by_cases e:i=r;rw[abx e]at c;have X:j≠r:=λe'=>v<|e.trans e'.symm;rw[abl X];by_cases g:j∈M;simp[g];simp[g,if_false];intro t;rcases n b c with d|d;exact h.dz j r X b t d;simp_all;rw[abl e]at c;by_cases g:i∈M;simp[g]at c;simp[g,if_false]at c;by_cases Z:j=r;rw[abx Z];intro t;rcases n b t with d|d;exact h.dz i r e b c d;simp_all;rw[abl Z];by_cases Y:j∈M;simp[Y];simp[Y,if_false];exact h.dz i j v b c;rw[l];by_cases e:i=r;rw[abx e]at c;rcases n b c with d|d;exact h.own r b d;let⟨m,hm,o⟩:=f b d;exact h.own m b o;rw[abl e]at c;by_cases g:i∈M;simp[g]at c;simp[g,if_false]at c;exact h.own i b c
end
end
mutual
def AV.aK:AV->Bool
 |.list .own _ _=>false
 |.list .nil _ _=>true
 |.list .shr _ _=>true
 |.box own _=> !own
 |.agg xs=>cz xs
 |.de xs=>cz xs
 |.fn _ a c=>cz a&&cz c
 |.v _=>true
 |.bH .. =>false
 |.ptr .. =>false
 |.hole=>true
 |.dead=>true
 |.pv _=>true
 |.abs _=>false
 |.ix .. =>false
 |.ob _=>false
def cz:List AV->Bool
 |[]=>true
 |x::xs=>x.aK&&cz xs
end
mutual
def AV.refs:AV->Bool
 |.list .nil _ _=>false
 |.list .own _ _=>true
 |.list .shr _ _=>true
 |.box _ _=>true
 |.agg xs=>VX xs
 |.de xs=>VX xs
 |.fn .. =>true
 |.v _=>false
 |.bH .. =>true
 |.ptr .. =>true
 |.hole=>true
 |.dead=>true
 |.pv _=>true
 |.abs _=>true
 |.ix .. =>true
 |.ob _=>true
def VX:List AV->Bool
 |[]=>false
 |x::xs=>x.refs||VX xs
end
mutual
def AV.dp:AV->Bool
 |.list .nil _ _=>true
 |.list .own _ xs=>kG xs
 |.list .shr _ _=>false
 |.box own x=>own&&x.dp
 |.agg xs=>kG xs
 |.de xs=>kG xs
 |.fn _ a c=>kG a&&kG c
 |.v _=>true
 |.bH .. =>true
 |.ptr .. =>true
 |.hole=>true
 |.dead=>true
 |.pv _=>true
 |.abs _=>true
 |.ix .. =>true
 |.ob _=>false
def kG:List AV->Bool
 |[]=>true
 |x::xs=>x.dp&&kG xs
end
section
variable{w:World}{S S':Nat->Prop}
mutual
theorem Rel.dp:∀(av:AV){y:Value}{F:List Nat},Rel w S av y F->av.dp=true->Rel w S' av y F
 |.v x,y,F,h,_=>eZ
 |.list .nil sz xs,y,F,h,_=>eZ
 |.list .shr sz xs,y,F,h,k=>by simp[AV.dp]at k
 |.list .own sz xs,y,F,h,k=>by rcases h with h|⟨b,cap,cs,F',e,d,i,g,j,q,p⟩;exact .inl h;exact .inr ⟨b,cap,cs,F',e,d,i,g,j,dG.dp sz xs q<|by simpa[AV.dp]using k,p⟩
 |.box true x,y,F,h,k=>by obtain⟨b,cs,r,F',z,e,d,i,g,j⟩:=h;exact⟨b,cs,r,F',z,e,d,Rel.dp x i<|by simpa[AV.dp]using k,g,j⟩
 |.box false x,y,F,h,k=>by simp[AV.dp]at k
 |.agg xs,y,F,h,k=>zav
 |.de xs,y,F,h,k=>zav
 |.fn f a c,y,F,h,k=>by simp[AV.dp]at k;obtain⟨t,s,n,m,e,d,i,g⟩:=h;exact⟨t,s,n,m,e,Cells.dp a d k.1,Cells.dp c i k.2,g⟩
 |.bH ..,y,F,h,_=>ch
 |.ptr ..,y,F,h,_=>ch
 |.hole,y,F,h,_=>eZ
 |.dead,y,F,h,_=>eZ
 |.pv _,y,F,h,_=>eZ
 |.abs _,y,F,h,_=>ch
 |.ix ..,y,F,h,_=>ch
 |.ob _,y,F,h,k=>by simp[AV.dp]at k
theorem Cells.dp:∀(xs:List AV){one:Bool}{l:List Value}{F:List Nat},Cells w S one xs l F->kG xs=true->Cells w S' one xs l F
 |[],one,l,F,h,_=>by simpa[Cells]using h
 |x::xs,one,l,F,h,k=>by simp[kG]at k;obtain⟨y,o,n,m,e,d,i,g,j⟩:=h;exact⟨y,o,n,m,e,d,i,Rel.dp x g k.1,Cells.dp xs j k.2⟩
theorem dG.dp(sz:Nat):∀(xs:List AV){l:List Value}{F:List Nat},dG w S sz xs l F->kG xs=true->dG w S' sz xs l F
 |[],l,F,h,_=>by simpa[dG]using h
 |x::xs,l,F,h,k=>by simp[kG]at k;obtain⟨y,o,n,m,e,d,i,g,j⟩:=h;exact⟨y,o,n,m,e,d,i,Rel.dp x g k.1,dG.dp sz xs j k.2⟩
end
mutual
theorem Rel.aK:∀(av:AV){y:Value}{F:List Nat},Rel w S av y F->av.aK=true->F=[]
 |.v x,y,F,h,_=>by simp[Rel]at h;exact h.2.2
 |.list .nil sz xs,y,F,h,_=>by simp[Rel]at h;exact h.2.2
 |.list .shr sz xs,y,F,h,_=>by simp only[Rel]at h;grind
 |.list .own sz xs,y,F,h,k=>by simp[AV.aK]at k
 |.box own x,y,F,h,k=>by simp[AV.aK]at k;subst k;simp only[Rel]at h;grind
 |.agg xs,y,F,h,k=>zaq
 |.de xs,y,F,h,k=>zaq
 |.fn f a c,y,F,h,k=>by simp[AV.aK]at k;simp only[Rel]at h;obtain⟨o,n,j,i,e,b,d,rfl⟩:=h;rw[Cells.aK a b k.1,Cells.aK c d k.2];rfl
 |.bH ..,_,_,h,_=>ch
 |.ptr ..,_,_,h,_=>ch
 |.hole,_,_,h,_=>by simp[Rel]at h;exact h.2
 |.dead,_,_,h,_=>eZ
 |.pv _,_,_,h,_=>by simp[Rel]at h;exact h.2
 |.abs _,_,_,h,_=>ch
 |.ix ..,_,_,h,_=>ch
 |.ob _,_,_,_,k=>by simp[AV.aK]at k
theorem Cells.aK:∀(xs:List AV){one:Bool}{l:List Value}{F:List Nat},Cells w S one xs l F->cz xs=true->F=[]
 |[],one,l,F,h,_=>by simp[Cells]at h;exact h.2
 |x::xs,one,l,F,h,k=>by simp[cz]at k;obtain⟨y,m,j,i,e,rfl,b,d,g⟩:=h;rw[Rel.aK x d k.1,Cells.aK xs g k.2];rfl
end
end
inductive Mv
 |share (r:Nat) (p:Path)
 |take (r n:Nat) (p:Path)
 |make (M:List Nat) (n:Nat) (y:AV)
 |put (n:Nat) (y:AV)
 |store (r:Nat) (p:Path) (M:List Nat) (y:AV)
 |back (R:List (Nat×AV))
def lS(σ:St):L (Nat×AV)->St
 |[]=>σ
 |(r,y)::R=>jg (lS σ R) r ⟨y,(σ r).g1,(σ r).g2+1⟩
def Mv.run(σ:St):Mv->Q St
 |.share r p=>match bM (σ r).av p with
  |some y=>match fH (σ r).av p y.cK with
   |some av=>some (jg σ r ⟨av,(σ r).g1,(σ r).g2+1⟩)
   |none=>none
  |none=>none
 |.take r n p=>if n=r then none else match bM (σ r).av p with
  |some y=>match fH (σ r).av p (kH y)with
   |some av=>some (jg (jg σ r<|mh (σ r) p av) n ⟨y,(σ n).g1+1,(σ n).g2⟩)
   |none=>none
  |none=>none
 |.make M n y=>some (made σ M n y)
 |.put n y=>some (jg σ n ⟨y,(σ n).g1+1,(σ n).g2⟩)
 |.store r p M y=>if r∈M then none else match fH (σ r).av p y with
  |some av=>some (stored σ r M av)
  |none=>none
 |.back R=>some<|lS σ R
def Mv.runs(σ:St):L Mv->Q St
 |[]=>some σ
 |m::a=>match m.run σ with
  |some σ=>Mv.runs σ a
  |none=>none
def nA:Value->AV
 |.slice none 0 0=>.list .nil 0 []
 |v=>if scalar v then .v v else .dead
def iS:Value->AV
 |.agg cs=>.agg (cs.toList.map nA)
 |v=>nA v
def pg:Value->Bool
 |.agg cs=>cs.toList.all (·.oneCell')
 |_=>true
structure TI where
 agg:Bool
 size:Nat
 bytes:Nat
 zero:AV
def cC(P:Program)(t:TypeId):Q TI:=
 match P.info? t,P.underlying t with
 |some i,some u=>match i.zero with
  |some z=>if z.cells.size=i.size/\pg z=true then some ⟨match u with|.struct _|.array .. =>true|_=>false,i.size,i.bytes,iS z⟩else none
  |none=>none
 |_,_=>none
def dY(P:Program)(t:TypeId):Q TypeId:=
 match P.underlying t with
 |some (.slice e)=>some e
 |_=>none
def qV(P:Program)(t:TypeId)(f:Nat):Q (Nat×TypeId):=
 match P.underlying t with
 |some (.struct a)=>match a[f]?with
  |some f=>some (f.offset,f.type)
  |none=>none
 |_=>none
def kd(i:TI)(o:Nat):Step:=.at o<|if i.agg then some i.size else none
structure cF where
 s:Option Nat
 sl:Sl
 rt:Sl
def Sl.none:Sl:=⟨.dead,0,0⟩
def cF.of(σ:St)(t:Nat):cF:=
 match(σ t).av with
 |.bH r _ _ _=>⟨some t,σ t,σ r⟩
 |.ptr r _ _ _=>⟨some t,σ t,σ r⟩
 |.abs _=>⟨none,.none,.none⟩
 |_=>⟨some t,σ t,.none⟩
def resolve(σ:St):Operand->cF
 |.tmp t=>.of σ t
 |.const v=>⟨none,⟨iS v,0,0⟩,.none⟩
 |.func f=>⟨none,⟨.fn (.func f) [] [],0,0⟩,.none⟩
 |.global _=>⟨none,.none,.none⟩
def Be:Path->AV->Bool
 |[],_=>true
 |[.de _],_=>true
 |_,y=>y.cell
def cF.cont(x:cF):Q AV:=
 match x.sl.av with
 |.bH _ g1 g2 p=>
  if x.rt.g1=g1 then if SO p=true\/x.rt.g2=g2 then match bM x.rt.av p with
   |some y=>if Be p y&&y.plain then some y else none
   |none=>none
  else none else none
 |.ptr .. =>none
 |.hole=>none
 |.dead=>none
 |.ix .. =>none
 |y=>some y
def cF.place(x:cF):Q (Nat×Nat×Nat×Path):=
 match x.sl.av with
 |.bH r g1 g2 p=>some (r,g1,g2,p)
 |.ptr .. =>none
 |_=>match x.s with
  |some s=>some (s,x.sl.g1,x.sl.g2,[])
  |none=>none
def Hx:Path->Q (Path×Nat×Nat×Nat)
 |[]=>none
 |s::p=>match p with
  |[]=>match s with
   |.oC sz o n=>some ([],sz,o,n)
   |_=>none
  |_::_=>match Hx p with
   |some (q,u)=>some (s::q,u)
   |none=>none
def cF.oC(x:cF):Q (Nat×Nat×Nat×Path×Nat×Nat×Nat):=
 match x.sl.av with
 |.bH r g1 g2 p=>match Hx p with
  |some (q,sz,o,n)=>if x.rt.g1=g1 then if lN p=true\/x.rt.g2=g2 then match bM x.rt.av q with
   |some (.list _ a b)=>if sz=a/\0<n/\o+n<=b.length then some (r,g1,x.rt.g2,q,sz,o,n)else none
   |_=>none
   else none else none
  |none=>none
 |_=>none
def cF.addr(x:cF):Q (Nat×Nat×Nat×Path×AV):=
 match x.sl.av with
 |.ptr r g1 g2 p=>if x.rt.g1=g1 then if flat p\/x.rt.g2=g2 then some (r,x.rt.g1,x.rt.g2,p,x.rt.av)else none else none
 |.box _ _=>match x.s with
  |some s=>some (s,x.sl.g1,x.sl.g2,[.deref],x.sl.av)
  |none=>none
 |.bH r _ _ p=>match x.cont with
  |some (.box _ _)=>some (r,x.rt.g1,x.rt.g2,p++[.deref],x.rt.av)
  |_=>none
 |_=>none
def dL(d:Nat)(x:cF):Q (L Mv):=
 match x.sl.av with
 |.bH r g1 g2 p=>if r=d then none else some [.put d<|.bH r g1 g2 p]
 |.ptr r g1 g2 p=>if r=d then none else some [.put d<|.ptr r g1 g2 p]
 |.ix g a=>if a.all (λq=>q.1 !=d)=true then some [.put d<|.ix g a]else none
 |y=>if y.aK then some [.put d y]else match x.s with
  |some s=>if s=d then none else some [.put d<|.bH s x.sl.g1 x.sl.g2 []]
  |none=>none
def ey(d:Nat)(x:cF):Q (L Mv):=
 match x.sl.av with
 |.ptr r g1 g2 p=>if r=d then none else some [.put d<|.ptr r g1 g2 p]
 |.ix g a=>if a.all (λq=>q.1 !=d)=true then some [.put d<|.ix g a]else none
 |.bH r _ _ p=>match x.cont with
  |some y=>if y.aK then some [.put d y]else match p with
   |[]=>some [.take r d []]
   |[.de i]=>some [.take r d [.de i]]
   |_=>if r=d then none else some [.share r p,.put d y.cK]
  |none=>none
 |.box b z=>if(AV.box b z).aK then some [.put d<|.box b z]else match x.s with
  |some s=>if s=d then none else some [.put d<|.bH s x.sl.g1 x.sl.g2 []]
  |none=>none
 |y=>if y.aK then some [.put d y]else match x.s with
  |some s=>if s=d then none else some [.make [s] d y]
  |none=>none
def fE(x:cF):Q (AV×L Nat):=
 match x.sl.av with
 |.bH r _ _ p=>match x.cont with
  |some y=>if y.aK then some (y,[])else if p=[]then some (y,[r])else none
  |none=>none
 |.ptr .. =>none
 |.dead=>none
 |.ix .. =>none
 |y=>if y.aK then some (y,[])else match x.s with
  |some s=>some (y,[s])
  |none=>none
def ij:L cF->Q (L AV×L Nat)
 |[]=>some ([],[])
 |x::xs=>match fE x,ij xs with
  |some (y,M),some (ys,N)=>if M.all (λm=> !N.contains m)then some (y::ys,M++N)else none
  |_,_=>none
def Eb(cs:L AV)(o n:Nat)(y:AV):Q (L AV):=
 if o+n<=cs.length then match y with
  |.agg a=>if a.length=n then some (cs.take o++a++cs.drop (o+n))else none
  |y=>if n=1&&y.cell then some (cs.set o y)else none
 else none
def placesOf(P:Program)(t:TypeId):Q (L<|Nat×Nat):=
 match P.underlying t with
 |some (.struct a)=>a.toList.mapM λf=>(P.info? f.type).map λi=>(f.offset,i.size)
 |_=>none
def vq(a:L (Nat×Nat)):L AV->L (Nat×AV)->Q (L AV)
 |cs,[]=>some cs
 |cs,(i,y)::r=>match a[i]?with
  |some (o,n)=>match Eb cs o n y with
   |some cs=>vq a cs r
   |none=>none
  |none=>none
def fits(ti:TI):AV->Bool
 |.agg xs=>ti.agg&&xs.length=ti.size
 |y=> !ti.agg&&ti.size=1&&y.cell
def A4(P:Program)(op:BinOp)(t:TypeId)(x y:Value):Q Value:=
 match x,y with
 |.int k a,.int c b=>
  match op with
  |.shl=>if b<0 then none else some (.int k<|k.wrap<|a*2^min b.toNat k.bits)
  |.shr=>if b<0 then none else some (.int k<|a.fdiv<|2^min b.toNat k.bits)
  |_=>if k=c then match op with
   |.add=>some (.int k<|k.wrap<|a+b)
   |.sub=>some (.int k<|k.wrap<|a-b)
   |.mul=>some (.int k<|k.wrap<|a*b)
   |.quo=>if b=0 then none else some (.int k<|k.wrap<|a.tdiv b)
   |.rem=>if b=0 then none else some (.int k<|a.tmod b)
   |.and=>some (.int k<|k.wrap (BitVec.ofInt k.bits a&&&BitVec.ofInt k.bits b).toNat)
   |.or=>some (.int k<|k.wrap (BitVec.ofInt k.bits a|||BitVec.ofInt k.bits b).toNat)
   |.xor=>some (.int k<|k.wrap (BitVec.ofInt k.bits a^^^BitVec.ofInt k.bits b).toNat)
   |.andNot=>some (.int k<|k.wrap (BitVec.ofInt k.bits a&&& ~~~ BitVec.ofInt k.bits b).toNat)
   |.eql=>some (.bool<|a==b)
   |.neq=>some (.bool<|a !=b)
   |.lss=>some (.bool<|decide (a<b))
   |.leq=>some (.bool<|decide (a<=b))
   |.gtr=>some (.bool<|decide (a>b))
   |.geq=>some (.bool<|decide (a>=b))
   |_=>none
   else none
 |.string a,.string b=>
  match op with
  |.add=>if((a.size+b.size:Nat):Int)>IntKind.i64.max then none else some (.string<|a++b)
  |.eql=>some (.bool<|a.toList==b.toList)
  |.neq=>some (.bool !(a.toList==b.toList))
  |.lss=>some (.bool<|Op.bytesLess a.toList b.toList)
  |_=>none
 |.bool a,.bool b=>match P.underlying t with
  |some .bool=>match op with
   |.eql=>some (.bool<|a==b)
   |.neq=>some (.bool<|!(a==b))
   |_=>none
  |_=>none
 |_,_=>none
def uno(op:UnOp)(x:Value):Q Value:=
 match op,x with
 |.neg,.int k n=>some (.int k<|k.wrap<|0-n)
 |.xor,.int k n=>some (.int k<|k.wrap (BitVec.ofInt k.bits (if k.signed then -1 else k.max)^^^BitVec.ofInt k.bits n).toNat)
 |.not,.bool b=>some (.bool !b)
 |_,_=>none
def isNil(P:Program)(t:TypeId)(x y:AV):Q Bool:=
 match y with
 |.list .nil _ _=>match x with
  |.list f _ a=>match P.underlying t with
   |some (.slice _)=>match f with
    |.nil=>some true
    |_=>if a.isEmpty then none else some false
   |_=>none
  |_=>none
 |.v (.pointer none)=>match P.underlying t with
  |some (.pointer _)=>match x with
   |.box _ _=>some false
   |.v (.pointer none)=>some true
   |_=>none
  |_=>none
 |.v .nilFunc=>match P.underlying t with
  |some (.func _ _ _)=>match x with
   |.fn _ _ _=>some false
   |.v .nilFunc=>some true
   |_=>none
  |_=>none
 |_=>none
def Ps(op:BinOp)(b:Q Bool):Q AV:=
 match op,b with
 |.eql,some b=>some (.v<|.bool b)
 |.neq,some b=>some (.v<|.bool !b)
 |_,_=>none
def og(P:Program)(op:BinOp)(t:TypeId)(x y:AV):Q AV:=
 match x with
 |.v a=>match y with
  |.v b=>match A4 P op t a b with
   |some v=>some (.v v)
   |none=>Ps op (isNil P t (.v a)<|.v b)
  |_=>none
 |_=>Ps op<|isNil P t x y
def vh(P:Program)(d:Nat)(t:TypeId)(x:cF):Q (L Mv):=
 match cC P t with
 |some ti=>match x.addr with
  |some (r,g1,g2,p,av)=>match bM av p with
   |some y=>if fits ti y then
     if y.aK then some [.put d y]
     else if r=d then none
     else if y.cell then some [.put d<|.bH r g1 g2 p]else some [.share r p,.put d y.cK]
    else none
   |none=>none
  |none=>none
 |none=>none
def xC(P:Program)(t:TypeId)(a x:cF):Q (L Mv):=
 match cC P t with
 |some ti=>match a.addr with
  |some (r,_,_,p,av)=>match bM av p with
   |some b=>if fits ti b&&ti.size !=0 then match fE x with
     |some (y,M)=>if fits ti y then some [.store r p M y]else none
     |none=>none
    else none
   |none=>none
  |none=>none
 |none=>none
def lp(P:Program)(d:Nat)(t:TypeId)(x:cF)(f:Nat):Q (L Mv):=
 match qV P t f with
 |some (o,a)=>match cC P a with
  |some ti=>match x.addr with
   |some (r,g1,g2,p,av)=>if r=d then none else if ti.size=0 then none else
    if flat (p++[kd ti o])then some [.put d<|.ptr r g1 g2<|p++[kd ti o]]else match bM av (p++[kd ti o])with
     |some _=>some [.put d<|.ptr r g1 g2<|p++[kd ti o]]
     |none=>none
   |none=>none
  |none=>none
 |none=>none
def iJ(P:Program)(d:Nat)(t:TypeId)(x i:cF):Q (L Mv):=
 match i.cont with
 |some (.v<|.int _ n)=>match P.underlying t with
  |some (.slice e)=>match cC P e with
   |some ti=>match x.oC with
    |some (r,g1,g2,q,sz,o,m)=>if sz=ti.size/\0<=n/\n<m then if r=d then none else some [.put d<|.ptr r g1 g2<|q++[.idx (o+n.toNat) sz]]else none
    |none=>match x.cont with
     |some (.list _ sz a)=>if sz=ti.size/\0<=n/\n<a.length then match x.place with
       |some (r,g1,g2,p)=>if r=d then none else some [.put d<|.ptr r g1 g2<|p++[.idx n.toNat sz]]
       |none=>none
      else none
     |_=>none
   |none=>none
  |some (.array len e)=>match cC P e with
   |some ti=>match x.addr with
    |some (r,g1,g2,p,av)=>if 0<=n/\n<len/\r≠d then
      match bM av (p++[kd ti<|n.toNat*ti.size])with
      |some _=>some [.put d<|.ptr r g1 g2<|p++[kd ti<|n.toNat*ti.size]]
      |none=>none
     else none
    |none=>none
   |none=>none
  |_=>none
 |_=>none
def qh(d:Nat)(x:cF)(i:Nat):Q (L Mv):=
 match x.cont with
 |some (.de a)=>match a[i]?with
  |some y=>if y.aK then some [.put d y]else match x.place with
   |some (r,g1,g2,p)=>if r=d\/p≠[]then none else some [.put d<|.bH r g1 g2 [.de i]]
   |none=>none
  |none=>none
 |_=>none
def Bv(P:Program)(d:Nat)(t:TypeId)(x:cF)(f:Nat):Q (L Mv):=
 match qV P t f with
 |some (o,a)=>match cC P a with
  |some ti=>match x.cont with
   |some av=>match bM av [kd ti o]with
    |some y=>if y.aK then some [.put d y]else none
    |none=>none
   |none=>none
  |none=>none
 |none=>none
def x8(P:Program)(d:Nat)(t:TypeId)(x i:cF):Q (L Mv):=
 match i.cont with
 |some (.v<|.int _ n)=>match P.underlying t with
  |some .string=>match x.cont with
   |some (.v<|.string s)=>if 0<=n then match s[n.toNat]?with
     |some b=>some [.put d<|.v<|.int .u8 b.toNat]
     |none=>none
    else none
   |_=>none
  |some (.array len e)=>match cC P e with
   |some ti=>match x.cont with
    |some av=>if 0<=n/\n<len then match bM av [kd ti<|n.toNat*ti.size]with
      |some y=>if y.aK then some [.put d y]else none
      |none=>none
     else none
    |none=>none
   |none=>none
  |_=>none
 |_=>none
def Gd(P:Program)(d:Nat)(a b:TypeId)(x:cF):Q (L Mv):=
 match P.underlying a,P.underlying b,x.cont with
 |some _,some<|.int k,some (.v<|.int _ n)=>some [.put d<|.v<|.int k<|k.wrap n]
 |some .string,some .string,some (.v<|.string s)=>some [.put d<|.v<|.string s]
 |_,_,_=>none
def oT:Q cF->Nat->Q Nat
 |none,a=>some a
 |some x,_=>match x.cont with
  |some (.v<|.int _ n)=>if 0<=n then some n.toNat else none
  |_=>none
def s7(P:Program)(d:Nat)(t:TypeId)(x:cF)(lo hi mx:Q cF):Q (L Mv):=
 match P.underlying t with
 |some .string=>match x.cont with
  |some (.v<|.string s)=>match mx with
   |none=>match oT lo 0,oT hi s.size with
    |some l,some h=>if l<=h/\h<=s.size then some [.put d<|.v<|.string<|s.extract l h]else none
    |_,_=>none
   |some _=>none
  |_=>none
 |some (.slice e)=>match cC P e with
  |some ti=>match x.cont with
   |some (.list f sz a)=>match oT lo 0,oT hi a.length with
    |some l,some h=>match oT mx h with
     |some m=>if l<=h/\h<=m/\m<=a.length then match f with
       |.nil=>some [.put d<|.list .nil sz []]
       |.shr=>if sz=ti.size then some [.put d<|.list .shr sz<|(a.drop l).take<|h-l]else none
       |.own=>if sz=ti.size then match x.place with
         |some (r,_,_,p)=>if r=d then none else some [.share r p,.put d<|.list .shr sz<|((js a).drop l).take<|h-l]
         |none=>none
        else none
      else none
     |none=>none
    |_,_=>none
   |_=>none
  |none=>none
 |_=>none
def mP(P:Program)(d:Nat)(t:TypeId)(x y:cF):Q (L Mv):=
 match dY P t with
 |some e=>match cC P e with
  |some ti=>
   if ti.size=0 then none else
   match y.cont with
   |some (.list h f a)=>
    let b:Q (L Nat):=if cz a then some []else match h,y.sl.av with
     |.own,.list _ _ _=>match y.s with
      |some s=>some [s]
      |none=>none
     |_,_=>none
    match b with
    |none=>none
    |some b=>
     if(a.isEmpty||(f==ti.size&&a.all (fits ti)))&& !b.contains d then
     match x.cont with
     |some (.list .nil _ _)=>if(a.length*ti.bytes)<=140737488355328/\a.length<=maxLen then
       some [.make b d<|if a.isEmpty then .list .nil 0 []else .list .own ti.size a]else none
     |some (.list .own g c)=>if g=ti.size/\(c.length+a.length)*ti.bytes<=140737488355328/\c.length+a.length<=maxLen then
       match x.sl.av with
       |.bH r _ _ p=>if r∈b then none else some [.take r d p,.make (d::b) d<|.list .own ti.size<|c++a]
       |_=>match x.s with
        |some s=>if s∈b then none else some [.make (s::b) d<|.list .own ti.size<|c++a]
        |none=>none
      else none
     |_=>none
     else none
   |_=>none
  |none=>none
 |none=>none
def aab(x:cF):Q AV:=
 match x.cont with
 |some y=>some y.cK
 |none=>none
def iZ:L cF->Q (L AV)
 |[]=>some []
 |x::xs=>match aab x,iZ xs with
  |some y,some ys=>some (y::ys)
  |_,_=>none
def shares:L cF->L Mv
 |[]=>[]
 |x::xs=>match x.cont with
  |some y=>if y.aK then shares xs else match x.place with
   |some (r,_,_,p)=>.share r p::shares xs
   |none=>.take 0 0 []::shares xs
  |none=>.take 0 0 []::shares xs
abbrev Obl:=FuncId×L AV×AV
def dS(d:Q Nat)(res:AV)(a:L Mv):L Mv:=
 match d with
 |some d=>a++[.make [] d res]
 |none=>a
def Gs(d:Q Nat)(f:cF)(asx:L cF)(res:AV):Q (L Mv×L Obl):=
 match f.cont with
 |some (.fn (.func g) first a)=>if cz first&&cz a then match iZ asx with
   |some b=>if !res.dp then match shares asx with
     |[]=>some (dS d res [],[(g,first++b++a,res)])
     |[m]=>some (dS d res [m],[(g,first++b++a,res)])
     |_=>none
    else some (dS d res [],[(g,first++b++a,res)])
   |none=>none
  else none
 |_=>none
def l8(P:Program)(d:Nat)(b:Builtin)(f:L TypeId)(asx:L cF):Q (L Mv):=
 match b,f,asx with
 |.len,t::_,[x]=>match x.cont with
  |some (.v<|.string s)=>match P.underlying t with
   |some .string=>some [.put d<|.v<|.int .i64 s.size]
   |_=>none
  |some (.list _ _ e)=>match P.underlying t with
   |some (.slice _)=>some [.put d<|.v<|.int .i64 e.length]
   |_=>none
  |_=>none
 |.append,[t,g],[x,y]=>match dY P g with
  |some _=>mP P d t x y
  |none=>none
 |.min,_,[x,y]=>match x.cont,y.cont with
  |some (.v<|.int k a),some (.v<|.int c b)=>if k=c then some [.put d<|.v<|.int k<|min a b]else none
  |_,_=>none
 |.max,_,[x,y]=>match x.cont,y.cont with
  |some (.v<|.int k a),some (.v<|.int c b)=>if k=c then some [.put d<|.v<|.int k<|max a b]else none
  |_,_=>none
 |_,_,_=>none
def ie:Q (L Mv)->Q (L Mv×L Obl)
 |some a=>some (a,[])
 |none=>none
def De(P:Program)(σ:St)(o:Oper)(res:AV):Q (L Mv×L Obl):=
 match o.dst with
 |none=>match o.op with
  |.store t a x=>ie (xC P t (resolve σ a)<|resolve σ x)
  |.call c=>match c.callee with
   |.value f=>Gs none (resolve σ f) (c.args.toList.map<|resolve σ) res
   |_=>none
  |_=>none
 |some d=>match o.op with
  |.move x=>ie (dL d<|resolve σ x)
  |.nilCheck x=>match(resolve σ x).cont with
   |some (.box _ _)=>ie (dL d<|resolve σ x)
   |some (.fn (.func _) _ _)=>ie (dL d<|resolve σ x)
   |_=>match(resolve σ x).sl.av with
    |.ptr .. =>match(resolve σ x).addr with
     |some _=>ie (dL d<|resolve σ x)
     |none=>none
    |_=>none
  |.assign x=>ie (ey d<|resolve σ x)
  |.pick c x y=>match(resolve σ c).cont with
   |some (.v<|.bool b)=>match b with
    |true=>ie (dL d<|resolve σ x)
    |false=>ie (dL d<|resolve σ y)
   |_=>none
  |.alloc t=>match cC P t with
   |some ti=>some ([.make [] d<|.box true ti.zero],[])
   |none=>none
  |.box t x=>match cC P t with
   |some ti=>match fE (resolve σ x)with
    |some (y,M)=>if fits ti y then some ([.make M d<|.box true y],[])else none
    |none=>none
   |none=>none
  |.build t j=>match cC P t with
   |some ti=>match ti.zero with
    |.agg z=>match placesOf P t with
     |some r=>match ij (j.toList.map λp=>resolve σ p.2)with
      |some (k,M)=>match vq r z ((j.toList.map (·.1)).zip k)with
       |some u=>some ([.make M d<|.agg u],[])
       |none=>none
      |none=>none
     |none=>none
    |_=>none
   |none=>none
  |.buildSlice t n j=>match dY P t with
   |some e=>match cC P e with
    |some ti=>match ij (j.toList.map λp=>resolve σ p.2)with
     |some (k,M)=>if(j.toList.map (·.1)=List.range n)/\(k.all<|fits ti)/\n*ti.size<=2^24/\n<=maxLen then some ([.make M d<|.list .own ti.size k],[])else none
     |none=>none
    |none=>none
   |none=>none
  |.load t a=>ie (vh P d t<|resolve σ a)
  |.fieldAddr t x f=>ie (lp P d t (resolve σ x) f)
  |.field t x f=>ie (Bv P d t (resolve σ x) f)
  |.indexAddr t x i=>ie (iJ P d t (resolve σ x)<|resolve σ i)
  |.index t x i=>ie (x8 P d t (resolve σ x)<|resolve σ i)
  |.extract x i=>ie (qh d (resolve σ x) i)
  |.binOp q t x y _=>match(resolve σ x).cont with
   |some a=>match(resolve σ y).cont with
    |some b=>match og P q t a b with
     |some v=>some ([.put d v],[])
     |none=>none
    |none=>none
   |none=>none
  |.unOp q _ x=>match(resolve σ x).cont with
   |some (.v a)=>match uno q a with
    |some v=>some ([.put d<|.v v],[])
    |none=>none
   |_=>none
  |.convert s t x=>ie (Gd P d s t<|resolve σ x)
  |.slice t x l h m=>ie (s7 P d t (resolve σ x) (l.map<|resolve σ) (h.map<|resolve σ)<|m.map<|resolve σ)
  |.makeSlice t l c=>match dY P t with
   |some e=>match cC P e with
    |some ti=>match(resolve σ l).cont,(resolve σ c).cont with
     |some (.v<|.int _ a),some (.v<|.int _ b)=>if 0<=a/\a<=b/\b*ti.bytes<=140737488355328/\b<=maxLen/\0<ti.size then
       some ([.make [] d<|.list .own ti.size<|List.replicate a.toNat ti.zero],[])else none
     |_,_=>none
    |none=>none
   |none=>none
  |.makeFunc f first g=>match iZ (first.toList.map<|resolve σ),iZ (g.toList.map<|resolve σ)with
   |some a,some c=>if(shares<|first.toList.map (resolve σ)++g.toList.map (resolve σ)).isEmpty then some ([.put d<|.fn f a c],[])else none
   |_,_=>none
  |.call c=>match c.callee with
   |.value f=>Gs (some d) (resolve σ f) (c.args.toList.map<|resolve σ) res
   |.builtin b=>ie (l8 P d b c.argTypes.toList<|c.args.toList.map<|resolve σ)
   |_=>none
  |_=>none
section
variable{a:Act}{d t:Nat}{P:Program}{w w' w0:World}
structure Hid where
 v:Nat->Value
 g:Nat->Prop
 rd:Option Nat:=none
 df:List Deferred:=[]
def an.Sa{S:Nat->Prop}{σ:St}{T:Nat->Value}{g1 g2:Nat}{F:L Nat}{g:FuncId}{b:L (Nat×Nat)}(h:an w S σ T t F)(i:(σ t).av=.ix g b)(f:b.all (λq=>q.1 !=d)=true):
 an w S (jg σ d ⟨.ix g b,g1,g2⟩) (jg T d<|T t) d []:=by
 have c:∀q∈b,q.1≠d:=e7
 unfold an at h⊢;rw[i]at h;simp only[aG]at h⊢;refine⟨U,λq e=>by rw[ar _ _<|c q e];exact h.2.1 q e,λk=>?_⟩;rw[h.2.2 λq e=>by have:=k q e;rwa[ar _ _<|c q e]at this]
 congr 2
 exact af3 λq e=>by rw[ar _ _<|c q e]
def c6(V:Hid)(w0:World)(b:Nat):Prop:=w0.heap.size<=b\/V.g b
structure tZ(V:Hid)(w0 w w':World):Prop where
 os:w'.os=w.os
 tape:w'.tape=w.tape
 output:w'.output=w.output
 size:w.heap.size<=w'.heap.size
 block:∀k,k<w0.heap.size->¬V.g k->w'.heap[k]?=w.heap[k]?
def mQ(V:Hid)(w0 w:World):Prop:=tZ V w0 w0 w
def Laid(P:Program)(w:World):Prop:=Lib.TabIs P w "internal/strconv.uint64pow10" .u64 Lib.pow10Tab
def C6(P:Program)(B:Nat->Prop):Prop:=∀g,P.globalNamed "internal/strconv.uint64pow10"=some g->¬B g
structure lW(P:Program)(V:Hid)(w:World):Prop where
 laid:Laid P w
 apart:C6 P V.g
def Laid.same(h:Laid P w)(b:∀g,P.globalNamed "internal/strconv.uint64pow10"=some g->g<w.heap.size->w'.heap[g]?=w.heap[g]?):Laid P w':=by
 unfold Laid Lib.TabIs World.var? at*;cases hn:P.globalNamed "internal/strconv.uint64pow10" with
 |none=>grind
 |some g=>grind
def Laid.lt(h:Laid P w){g:Nat}(hn:P.globalNamed "internal/strconv.uint64pow10"=some g):g<w.heap.size:=by
 unfold Laid Lib.TabIs World.var? at h
 grind
def lW.MN{V:Hid}(h:lW P V w0)(k:mQ V w0 w):Laid P w:=h.laid.same λg hn b=>k.block g b<|h.apart g hn
def lW.c6{V:Hid}(h:lW P V w0):C6 P (c6 V w0):=λg hn b=>b.elim (λb=>by have:=h.laid.lt hn;omega)<|h.apart g hn
def C6.mono{B C:Nat->Prop}(h:C6 P C)(k:∀b,B b->C b):C6 P B:=λg hn c=>h g hn<|k g c
def tZ.trans{V:Hid}{a b c:World}(h:tZ V w0 a b)(k:tZ V w0 b c):tZ V w0 a c:=⟨k.os.trans h.os,k.tape.trans h.tape,k.output.trans h.output,ab7 h.size k.size,λi hi e=>(k.block i hi e).trans<|h.block i hi e⟩
def mQ.refl(V:Hid)(w:World):mQ V w w:=⟨W,W,W,.refl,λ_ _ _=>rfl⟩
def mQ.trans{V:Hid}(h:mQ V w0 w)(k:tZ V w0 w w'):mQ V w0 w':=tZ.trans h k
def mQ.QQ{V:Hid}(h:mQ V w0 w)(k:Below w.heap.size w w'):mQ V w0 w':=h.trans ⟨k.os,k.tape,k.output,k.size,λi hi _=>k.block i<|aey hi h.size⟩
def mQ.new{V:Hid}(h:mQ V w0 w):∀b,w.heap.size<=b->c6 V w0 b:=λ_ c=>.inl<|ab7 h.size c
def zK{V:Hid}{k:Nat}(h:c6 V w0 k)(c:k<w0.heap.size)(b:¬V.g k):False:=h.elim (λh=>E) b
def tv(V:Hid)(a:Act):Nat->Value:=λi=>if i<500\/i<a.tmps.size then a.tmps.getD i undef else V.v i
def yC(V:Hid)(a:Act){i:Nat}(h:i<500\/i<a.tmps.size):tv V a i=a.tmps.getD i undef:=by unfold tv;grind
def mj{V:Hid}(h:d<a.tmps.size)(v:Value):tv V (a.put (some d) v)=jg (tv V a) d v:=by
 unfold tv jg Act.put;simp
 grind
def size_put(a:Act)(d:Q Nat)(v:Value):(a.put d v).tmps.size=a.tmps.size:=by cases d<;>simp[Act.put]
def fw(a:Act)(d:Q Nat)(v:Value):(a.put d v).defers=a.defers:=by cases d<;>simp[Act.put]
def iq(V:Hid)(a:Act)(h:t<500):a.eval (.tmp t)=tv V a t:=(yC V a<|.inl h).symm
def Inv(N:Nat)(V:Hid)(w0:World)(S0:Nat->Prop)(σ:St)(a:Act)(w:World):Prop:=∃S F,aT S (c6 V w0) σ (tv V a) w F/\a.tmps.size=N/\a.defers=V.df/\(∀b,S0 b->S b)/\(∀b,S b->S0 b\/c6 V w0 b)/\mQ V w0 w
def FW(rd:Q Nat):Fence:={Fence.wide with round:=rd}
def Qo{rd:Q Nat}{n:Nat}{f:FuncId}{args:Array Value}{R:Ending->World->Prop}(h:Calls P f args w R):CallsIn (FW rd) n P f args w R:=by exact⟨U,λb _=>((callsIn_wide (n:=n)).2 h).2 b<|room_wide _⟩
def Oper.UT(rd:Option Nat)(P:Program)(o:Oper)(a:Act)(w:World)(next:Act->World->Prop)(Q:Exit->Act->World->Prop):Prop:=o.wpIn (FW rd) 0 P a w next Q
def Oper.qZ{rd:Option Nat}{o:Oper}{next:Act->World->Prop}{Q:Exit->Act->World->Prop}(hn:∀c,o.op≠.defer c)
 (h:o.uponIn (FW rd) 0 P a next Q ((execOp a.eval o).run P w)):Oper.UT rd P o a w next Q:=
 ⟨λ_ _=>trivial,by rw[Oper.semAt_eq _ _ _ hn];exact h⟩
def sT(P:Program)(f:FuncId)(c:Array Value)(w:World)(R:Value->World->Prop):Prop:=∀(rd:Q Nat)(o:Oper)(a:Act)(next:Act->World->Prop)(b:Exit->Act->World->Prop),(∀v w',R v w'->next (a.put o.dst v) w')->o.uponIn (FW rd) 0 P a next b ((callFunc f c).run P w)
def Sound(P:Program)(f:FuncId)(args:L AV)(r:AV):Prop:=
 ∀(w:World)(S:Nat->Prop)(e:L Value),Laid P w->(∀b,S b->b<w.heap.size)->Cells w S false args e []->
  sT P f e.toArray w λv w'=>∃c F,Below w.heap.size w w'/\(∀b,S b->c b)/\(∀b,c b->S b\/w.heap.size<=b)/\(∀b,c b->b<w'.heap.size)/\
   Rel w' c r v F/\F.Nodup/\∀b∈F,w.heap.size<=b/\b<w'.heap.size/\¬c b
end
section
variable{P:Program}{S:Nat->Prop}{B:Nat->Prop}{σ:St}{w:World}{F:Nat->L Nat}{V:Hid}
def El(w:World)(S:Nat->Prop)(v:Value):Rel w S (nA v) v []:=by unfold nA;split;simp[Rel];split;rename_i h;simp[Rel,h];simp[Rel]
def Ax(w:World)(S:Nat->Prop)(one:Bool):∀(l:L Value),(one=true->∀v∈l,v.oneCell'=true)->Cells w S one (l.map nA) l []
 |[],_=>by simp[Cells]
 |v::l,h=>by exact⟨v,l,[],[],W,W,λb=>h b v I,El w S v,Ax w S _ l λb u hu=>h b u<|by grind⟩
def jl(w:World)(S:Nat->Prop)(v:Value)(h:pg v=true):Rel w S (iS v) v []:=by unfold iS;split;rename_i c;refine⟨c,W,Ax w S _ _ λ_ v b=>?_⟩;simp only[pg,afY]at h;exact h v b;exact El w S v
def aO:Operand->Bool
 |.const v=>pg v
 |.tmp t=>Nat.blt t 500
 |_=>true
def gS{t:Nat}(h:aO (.tmp t)=true):t<500:=by have:=af4 h;omega
def ba{a:Act}(h:aT S B σ (tv V a) w F)(x:Operand)(O:aO x=true){y:AV}(hc:(resolve σ x).cont=some y):
 ∃A,Rel w S y (a.eval x) A/\(∀b∈A,∃i,b∈F i)/\
  (∀t,x=.tmp t->(σ t).av.plain=true->A=F t/\y=(σ t).av)/\
  (∀t r g1 g2,x=.tmp t->(σ t).av=.bH r g1 g2 []->A=F r/\y=(σ r).av/\tv V a t=tv V a r/\(σ r).av.plain=true):=by
 cases x with
 |const v=>
  simp[resolve,cF.cont]at hc;have z:=jl w S v O;have H:y=iS v:=by split at hc<;>simp_all[Rel]
  subst H;exact⟨[],z,I,I,I⟩
 |func f=>simp[resolve,cF.cont,abL]at hc;subst hc;refine⟨[],?_,I,I,I⟩;exact⟨#[],#[],[],[],W,by simp[Cells],by simp[Cells],W⟩
 |global g=>simp[resolve,cF.cont,Sl.none]at hc
 |tmp t=>
  have M:a.eval (.tmp t)=tv V a t:=iq V a<|gS O;simp[resolve]at hc;have u:=h.rel t;rw[M];by_cases k:(σ t).av.plain=true;rw[an.aC k]at u;have H:y=(σ t).av:=by
   unfold cF.of at hc;split at hc;rename_i e;rw[e]at k;simp[AV.plain]at k;rename_i e;rw[e]at k;simp[AV.plain]at k;rename_i e;rw[e]at k;simp[AV.plain]at k;simp[cF.cont]at hc
   grind
  subst H;refine⟨F t,u,λb N=>⟨t,N⟩,λY e _=>?_,λY r g1 g2 e N=>?_⟩;simp_all;cases e;rw[N]at k;simp[AV.plain]at k;cases j:(σ t).av with
  |bH r g1 g2 p=>
   unfold an at u;rw[j]at u;simp only at u;simp only[cF.of,j,cF.cont]at hc;split at hc;rename_i e1;split at hc;rename_i e2;split at hc;rename_i X c;split at hc;rename_i l;simp[abL]at hc;subst hc;simp[adS]at l;obtain⟨-,-,-,h4⟩:=u;let⟨L,o,C,l3⟩:=h4 e1 (Ji e2) λ_=>⟨_,c⟩;by_cases m:p=[];subst m;simp[bM,abL]at c;subst c;have z:=h.rel r;rw[an.aC l.2]at z;simp[loc,abL]at o;subst o;simp[holds]at C
   grind
   have K:(σ r).av.plain=true:=by
    cases p with
    |nil=>exact abK W m
    |cons s p=>cases hh:(σ r).av<;>simp[AV.plain]<;>(rw[hh]at c;simp[bM]at c)
   have z:=h.rel r;rw[an.aC K]at z;let⟨L1,T,A,r1,D,Z,r4,r5⟩:=Rel.read p (L:=.val<|tv V a r) z W c;rw[o]at r1;cases r1;have hz:tv V a t=T:=by
    cases L with
    |val q=>simp[holds]at C D;rw[C,D]
    |addr ad=>
     have ha:=l3 ad W;have n:X.cell=true:=by unfold Be at l;split at l;exact abK W m;rename_i i;simp[loc,step1]at o;cases hT:tv V a r<;>rw[hT]at o<;>simp[cH]at o;exact l.1
     have h1:=At.cell C<|cells_one ha;have h2:=At.cell D<|cells_one<|Z.one n;simp_all
   grind
   cases hc;cases hc;cases hc;cases hc
  |ptr r g1 g2 p=>simp[cF.of,j,cF.cont]at hc
  |abs J=>simp[cF.of,j,cF.cont,Sl.none]at hc
  |ix g R=>simp[cF.of,j,cF.cont]at hc
  |_=>rw[j]at k;simp[AV.plain]at k
def DW{a:Act}(h:aT S B σ (tv V a) w F){t r g1 g2:Nat}{p:Path}{y:AV}(e:(σ t).av=.bH r g1 g2 p)(hc:(resolve σ<|.tmp t).cont=some y)
 {L:Loc}{z:Value}{s:List Nat}(hl:loc w (.val<|tv V a r) p=some L)(hh:holds w L z)(k:Rel w S y z s):z=tv V a t:=by
 have g:=h.rel t;unfold an at g;rw[e]at g;simp only[resolve,cF.of,e,cF.cont]at hc;split at hc;rename_i n;split at hc;rename_i m;let⟨x,i,f,j⟩:=g.2.2.2 n (Ji m) λ_=>by grind
 rw[hl]at i;cases i;cases L with
 |val q=>simp[holds]at f hh;rw[f,hh]
 |addr o=>
  split at hc;split at hc;rename_i b;simp at hc;rw[hc]at b;simp at b;have c:y.cell=true:=by have:=b.1;unfold Be at this;split at this;simp[loc]at hl;simp[loc,step1]at hl;cases l:tv V a r<;>rw[l]at hl<;>simp[cH]at hl;exact this
  have v:=At.cell f<|cells_one<|j o W;have u:=At.cell hh<|cells_one<|k.one c;simp_all;cases hc;cases hc
 ·cases hc
 cases hc
def Ap{t r g1 g2:Nat}{p:Path}{y:AV}(e:(σ t).av=.bH r g1 g2 p)(hc:(resolve σ<|.tmp t).cont=some y):
 bM (σ r).av p=some y/\(p≠[]->(σ r).av.plain=true)/\y.plain=true:=by
 simp only[resolve,cF.of,e,cF.cont]at hc;split at hc;split at hc;split at hc;rename_i f c;split at hc;rename_i b;cases hc;simp at b;refine⟨c,λg=>?_,b.2⟩;cases p with
 |nil=>grind
 |cons s p=>cases hh:(σ r).av<;>simp[AV.plain]<;>(rw[hh]at c;simp[bM]at c)
 ·cases hc
 cases hc;cases hc;grind
def Inv.put{N:Nat}{w0:World}{S0:Nat->Prop}{a:Act}{d:Nat}{y:AV}{z:Value}(h:Inv N V w0 S0 σ a w)(j:d<N)
 (b:∀S F,aT S (c6 V w0) σ (tv V a) w F->an w S (jg σ d ⟨y,(σ d).g1+1,(σ d).g2⟩) (jg (tv V a) d z) d []):
 Inv N V w0 S0 (jg σ d ⟨y,(σ d).g1+1,(σ d).g2⟩) (a.put (some d) z) w:=by
 let⟨S,F,hc,g,f,e,c,i⟩:=h;refine⟨S,jg F d [],?_,by rw[size_put];exact g,by rw[fw];grind⟩;rw[mj<|by rwa[g]];exact hc.put d y z<|b S F hc
def Inv.jJ{N:Nat}{w0:World}{S0:Nat->Prop}{a:Act}{d:Nat}{y:AV}{z:Value}(h:Inv N V w0 S0 σ a w)(c:d<N)
 (b:∀S F,aT S (c6 V w0) σ (tv V a) w F->Rel w S y z []):
 Inv N V w0 S0 (jg σ d ⟨y,(σ d).g1+1,(σ d).g2⟩) (a.put (some d) z) w:=
 h.put c λS F hc=>by have:=b S F hc;rw[an.aC<|by rw[aG];exact this.plain];simpa[aG]using this
def Mv.cQ{d:Nat}{y:AV}:Mv.runs σ [.put d y]=some (jg σ d ⟨y,(σ d).g1+1,(σ d).g2⟩):=W
def JP(v:Value):(nA v).plain=true:=by unfold nA;split;rfl;split<;>rfl
def fC(v:Value):(iS v).plain=true:=by unfold iS;split;rfl;exact JP v
def nw{N:Nat}{w0:World}{S0:Nat->Prop}{a:Act}{d:Nat}{l:St}(h:Inv N V w0 S0 σ a w)(k:d<N)(x:Operand)(s:aO x=true){m:L Mv}
 (hm:dL d (resolve σ x)=some m)(c:Mv.runs σ m=some l):Inv N V w0 S0 l (a.put (some d)<|a.eval x) w:=by
 cases x with
 |const v=>
  have:m=[.put d<|iS v]:=by
   simp[resolve,dL]at hm
   grind
  subst this;simp[Mv.cQ,abL]at c;subst c;exact h.jJ k λS F _=>jl w S v s
 |func f=>
  simp[resolve,dL,AV.aK,cz,aiC,if_true,abL]at hm;subst hm;simp[Mv.cQ,abL]at c;subst c;exact h.jJ k λS F _=>by exact⟨#[],#[],[],[],W,by simp[Cells],by simp[Cells],W⟩
 |global g=>simp[resolve,Sl.none,dL,AV.aK,if_true,abL]at hm;subst hm;simp[Mv.cQ,abL]at c;subst c;exact h.jJ k λS F _=>by simp[Rel]
 |tmp t=>
  rw[iq V a<|gS s];cases b:(σ t).av with
  |bH r g1 g2 p=>simp only[resolve,cF.of,b,dL]at hm;split at hm;cases hm;rename_i e;cases hm;simp[Mv.cQ,abL]at c;subst c;refine h.put k λS F hc=>?_;have i:=hc.rel t;unfold an at i⊢;rw[b]at i;simp only[aG,ar _ _ e]at i⊢;simp_all
  |ptr r g1 g2 p=>simp only[resolve,cF.of,b,dL]at hm;split at hm;cases hm;rename_i e;cases hm;simp[Mv.cQ,abL]at c;subst c;refine h.put k λS F hc=>?_;have i:=hc.rel t;unfold an at i⊢;rw[b]at i;simp only[aG,ar _ _ e]at i⊢;simp_all
  |abs J=>simp[resolve,cF.of,b,Sl.none,dL,AV.aK,if_true,abL]at hm;subst hm;simp[Mv.cQ,abL]at c;subst c;exact h.jJ k λS F hc=>by simp[Rel]
  |ix g u=>simp only[resolve,cF.of,b,dL]at hm;split at hm;rename_i e;cases hm;simp only[Mv.cQ,abL]at c;subst c;exact h.put k λS F hc=>(hc.rel t).Sa b e;cases hm
  |_=>
   all_goals
    have n:(σ t).av.plain=true:=by rw[b];rfl
    have o:(resolve σ<|.tmp t)=⟨some t,σ t,.none⟩:=by simp[resolve,cF.of,b]
    rw[o]at hm;have j:(if(σ t).av.aK then some [Mv.put d (σ t).av]else if t=d then none else some [.put d<|.bH t (σ t).g1 (σ t).g2 []])=some m:=by simpa only[dL,b]using hm
    split at j;rename_i q;cases j;simp only[Mv.cQ,abL]at c;subst c;exact h.jJ k λS F hc=>by have i:=hc.rel t;rw[an.aC n]at i;rw[Rel.aK _ i q]at i;exact i
    split at j;cases j;rename_i e;cases j;simp only[Mv.cQ,abL]at c;subst c;refine h.put k λS F hc=>?_;unfold an;simp only[aG,ar _ _ e];exact⟨U,abY _,abY _,λ_ _ _=>⟨.val _,W,W,I⟩⟩
end
section
variable{P:Program}{N:Nat}{w0 w:World}{V:Hid}{S0:Nat->Prop}{σ σ':St}{a:Act}
section
variable{y:AV}{M:L Nat}{d:Nat}
def nC(w:World)(cs:Array Value)(e:TypeId):row? (w.alloc<|.cells cs e) w.heap.size=some (cs,(0,0)):=by unfold row?;rw[heap_alloc_new]
def re(w:World)(o:Obj){b:Nat}(h:b<w.heap.size):(w.alloc o).heap[b]?=w.heap[b]?:=Below.heap_alloc w o b h
def Inv.make{w':World}{z:Value}(h:Inv N V w0 S0 σ a w)(s:d<N)(l:Below w.heap.size w w')
 (o:∀S F,aT S (c6 V w0) σ (tv V a) w F->∃c,Rel w' S y z c/\c.Nodup/\∀b∈c,(∃m∈M,b∈F m)\/w.heap.size<=b/\b<w'.heap.size):
 Inv N V w0 S0 (made σ M d y) (a.put (some d) z) w':=by
 let⟨S,F,hc,n,j,g,f,e⟩:=h;let⟨c,r,q,p⟩:=o S F hc;refine⟨S,λi=>if i=d then c else if i∈M then[]else F i,?_,by rw[size_put];exact n,by rw[fw];exact j,g,f,e.QQ l⟩;rw[mj<|by rwa[n]];refine hc.make M d y z c e.new l.size (λb k _=>?_) q p r;exact l.block b k
def kl:Mv.runs σ [.make M d y]=some (made σ M d y):=W
def KP(h:Inv N V w0 S0 σ a w)(s:d<N)(x:Operand)(hx:aO x=true){C:L Mv}
 (hm:ey d (resolve σ x)=some C)(i:Mv.runs σ C=some σ'):Inv N V w0 S0 σ' (a.put (some d)<|a.eval x) w:=by
 have general:∀y,(resolve σ x).cont=some y->y.aK=true->C=[.put d y]->Inv N V w0 S0 σ' (a.put (some d)<|a.eval x) w:=by
  intro y hy n R;subst R;simp only[Mv.cQ,abL]at i;subst i;exact h.jJ s λS F hc=>by obtain⟨F1,h1,-⟩:=ba hc x hx hy;rw[Rel.aK _ h1 n]at h1;exact h1
 cases x with
 |const v=>
  have:C=[.put d<|iS v]:=by simp only[resolve,ey]at hm;have h2:=fC v;split at hm<;>simp_all[AV.plain]
  subst this;simp only[Mv.cQ,abL]at i;subst i;exact h.jJ s λS F _=>jl w S v hx
 |func f=>simp only[resolve,ey,AV.aK,cz,aiC,if_true,abL]at hm;exact general (.fn (.func f) [] []) W W hm.symm
 |global g=>simp only[resolve,Sl.none,ey,AV.aK,if_true,abL]at hm;subst hm;simp only[Mv.cQ,abL]at i;subst i;exact h.jJ s λS F _=>by simp[Rel]
 |tmp t=>
  have q:=iq V a<|gS hx;cases e:(σ t).av with
  |ptr r g1 g2 p=>rw[q];simp only[resolve,cF.of,e,ey]at hm;split at hm;cases hm;rename_i u;cases hm;simp only[Mv.cQ,abL]at i;subst i;refine h.put s λS F hc=>?_;have m:=hc.rel t;unfold an at m⊢;rw[e]at m;simp only[aG,ar _ _ u]at m⊢;simp_all
  |bH r g1 g2 p=>
   simp only[resolve,cF.of,e,ey]at hm;split at hm;rename_i y hy;split at hm;rename_i n;simp only[abL]at hm;exact general y (by simpa only[resolve,cF.of,e]using hy) n hm.symm;have D:(resolve σ<|.tmp t).cont=some y:=by simpa only[resolve,cF.of,e]using hy
   let⟨l,Z,Y⟩:=Ap e D;have o:(σ r).av.plain=true:=by by_cases hp:p=[];subst hp;simp only[bM,abL]at l;rw[l];exact Y;exact Z hp
   have E2:C=[.take r d p]->Inv N V w0 S0 σ' (a.put (some d)<|a.eval<|.tmp t) w:=by intro R;subst R;simp only[Mv.runs,Mv.run]at i;split at i;rename_i E1 j;cases i;split at j;cases j;rename_i F0;rw[l]at j;simp only at j;split at j;rename_i F3 hs;cases j;let⟨S,F,hc,hN,T,K,H,X⟩:=h;obtain⟨c,z,F2,F',k1,k2,k3,k4,-⟩:=hc.take r d p F0 o l hs;rw[DW hc e D k1 k2 k3]at k4;refine⟨S,F',?_,fa,by rw[fw];exact T,K,H,X⟩;rw[mj<|by rw[hN];exact s,q];exact k4;cases j;cases i
   split at hm;simp_all;simp_all;split at hm;cases hm;rename_i G0;cases hm;simp only[Mv.runs,Mv.run,l]at i;split at i;rename_i E1 j;split at j;rename_i F3 hs;simp only[abL]at j i;subst j;subst i;let⟨S,F,hc,hN,T,K,H,X⟩:=h;let⟨c,z,F1,F',k1,k2,k3,k4,k5⟩:=hc.share r p o l hs;have A0:=λb A=>(hc.own r b<|k5 b A).1;have hS:=Rel.share (S':=λb=>S b\/b∈F1) (λ_ h=>.inl h) _ k3 λb A=>.inr A;refine⟨λb=>S b\/b∈F1,jg F' d [],?_,fa,by rw[fw];exact T,λb A=>.inl<|K b A,λb A=>A.elim (H b) λA=>.inr<|A0 b A,X⟩;rw[mj<|by rw[hN];exact s];refine k4.put d _ _ ?_;rw[an.aC<|by rw[aG];exact hS.plain,aG,aG,q,<-(DW hc e D k1 k2 k3)];exact hS;cases j;cases i;cases hm
  |abs J=>simp only[resolve,cF.of,e,Sl.none,ey,AV.aK,if_true,abL]at hm;subst hm;simp only[Mv.cQ,abL]at i;subst i;exact h.jJ s λS F hc=>by simp[Rel]
  |ix g F4=>rw[q];simp only[resolve,cF.of,e,ey]at hm;split at hm;rename_i u;cases hm;simp only[Mv.cQ,abL]at i;subst i;exact h.put s λS F hc=>(hc.rel t).Sa e u;cases hm
  |box b z=>
   rw[q];have B:(σ t).av.plain=true:=by rw[e];rfl
   have O:(resolve σ<|.tmp t)=⟨some t,σ t,.none⟩:=by simp[resolve,cF.of,e]
   rw[O]at hm;have k:(if(σ t).av.aK then some [Mv.put d (σ t).av]else if t=d then none else some [.put d<|.bH t (σ t).g1 (σ t).g2 []])=some C:=by simpa only[ey,e]using hm
   split at k;rename_i n;cases k;simp only[Mv.cQ,abL]at i;subst i;exact h.jJ s λS F hc=>zaB
   split at k;simp at k;rename_i u;cases k;simp only[Mv.cQ,abL]at i;subst i;refine h.put s λS F hc=>?_;unfold an;simp only[aG,ar _ _ u];exact⟨U,abY _,abY _,λ_ _ _=>⟨.val _,W,W,I⟩⟩
  |_=>
   all_goals
    rw[q];have B:(σ t).av.plain=true:=by rw[e];rfl
    have O:(resolve σ<|.tmp t)=⟨some t,σ t,.none⟩:=by simp[resolve,cF.of,e]
    rw[O]at hm;have k:(if(σ t).av.aK then some [Mv.put d (σ t).av]else if t=d then none else some [.make [t] d (σ t).av])=some C:=by simpa only[ey,e]using hm
    split at k;rename_i n;cases k;simp only[Mv.cQ,abL]at i;subst i;exact h.jJ s λS F hc=>zaB
    split at k;simp at k;cases k;simp only[kl,abL]at i;subst i;refine h.make s (.refl _ _) λS F hc=>?_;have m:=hc.rel t;rw[an.aC B]at m;exact⟨F t,m,hc.nodup t,λb A=>.inl ⟨t,I,A⟩⟩
end
end
section
variable{P:Program}{N:Nat}{w0 w:World}{V:Hid}{S S0:Nat->Prop}{B:Nat->Prop}{σ σ':St}{a:Act}{F:Nat->L Nat}
section
variable{y:AV}{F1:L Nat}{t:TypeId}{z:Value}
def ib{rd:Option Nat}{o:Oper}{K:Act->World->Prop}{Q:Exit->Act->World->Prop}{v:Value}{w':World}(b:(execOp a.eval o).run P w=.ok (.value v) w')(h:K (a.put o.dst v) w'):Oper.UT rd P o a w K Q:=by refine Oper.qZ (λc hc=>?_) (by rwa[b]);simp[execOp,hc]at b;cases d:(Go.resolve a.eval c o.type).run P w<;>simp[d]at b
def ru(h:aT S B σ (tv V a) w F)(x:Operand)(l:aO x=true){M:L Nat}(d:fE (resolve σ x)=some (y,M)):
 ∃j,Rel w S y (a.eval x) j/\j.Nodup/\∀b∈j,∃m∈M,b∈F m:=by
 have general:(resolve σ x).cont=some y->y.aK=true->∃j,Rel w S y (a.eval x) j/\j.Nodup/\∀b∈j,∃m∈M,b∈F m:=by
  intro o e;obtain⟨F1,A,-⟩:=ba h x l o;rw[Rel.aK _ A e]at A
  grind
 cases x with
 |const v=>
  have:y=iS v:=by simp[resolve,fE]at d;have R:=fC v;split at d<;>simp_all[AV.plain]
  subst this;exact⟨[],jl w S v l,aee,I⟩
 |func f=>obtain⟨rfl,rfl⟩:=d;exact general W W
 |global g=>simp[resolve,Sl.none,fE]at d
 |tmp t=>
  cases c:(σ t).av with
  |ptr r g1 g2 p=>simp[resolve,cF.of,c,fE]at d
  |dead=>simp[resolve,cF.of,c,fE]at d
  |bH r g1 g2 p=>
   simp[resolve,cF.of,c,fE]at d;split at d;rename_i D o;have n:(resolve σ<|.tmp t).cont=some D:=by simpa only[resolve,cF.of,c]using o
   split at d;simp_all;split at d;rename_i H;subst H;cases d;let⟨F1,O,X,T,K⟩:=ba h (.tmp t) l n;obtain⟨rfl,-,-,-⟩:=K t r g1 g2 W c;exact⟨_,O,h.nodup r,λb u=>⟨r,I,u⟩⟩;cases d;cases d
  |abs J=>simp[resolve,cF.of,c,Sl.none,fE]at d
  |ix g C=>simp[resolve,cF.of,c,fE]at d
  |_=>
   all_goals
    rw[iq V a<|gS l];have q:(σ t).av.plain=true:=by rw[c];rfl
    have s:(resolve σ<|.tmp t)=⟨some t,σ t,.none⟩:=by simp[resolve,cF.of,c]
    rw[s]at d;have i:(if(σ t).av.aK then some ((σ t).av,([]:L Nat))else some ((σ t).av,[t]))=some (y,M):=by simpa only[fE,c]using d
    have k:=h.rel t;rw[an.aC q]at k;split at i;rename_i e;cases i;rw[Rel.aK _ k e]at k;exact⟨[],k,aee,I⟩;cases i;exact⟨F t,k,h.nodup t,λb u=>⟨t,I,u⟩⟩
def nE(h:aT S B σ (tv V a) w F):∀(xs:L Operand),xs.all aO=true->∀{ys:L AV}{M:L Nat},ij (xs.map<|resolve σ)=some (ys,M)->
 ∃j,Cells w S false ys (xs.map a.eval) j/\j.Nodup/\∀b∈j,∃m∈M,b∈F m
 |[],_,ys,M,d=>by obtain⟨rfl,rfl⟩:=d;exact⟨[],by simp[Cells],aee,I⟩
 |x::xs,g,ys,M,d=>by
  simp only[af5,adS]at g;simp[ad3,ij]at d;split at d;rename_i y K o J r q;split at d;cases d;let⟨F1,H,A,v⟩:=ru h x g.1 r;let⟨C,D,u,s⟩:=nE h xs g.2 q;refine⟨F1++C,?_,?_,λb n=>?_⟩;simp[Cells]
  grind
  rw[ad4];refine⟨A,u,λb n c hc e=>?_⟩;subst e;let⟨m,hm,i⟩:=v b n;let⟨k,p,f⟩:=s b hc;have:m≠k:=λe=>by simp_all
  exact h.dz m k this b i f
  grind
  cases d;cases d
def mU{ti:TI}(h:cC P t=some ti):∃i u z,P.info? t=some i/\P.underlying t=some u/\i.zero=some z/\ti.size=i.size/\ti.bytes=i.bytes/\ti.zero=iS z/\
 ti.agg=(match u with|.struct _|.array .. =>true|_=>false)/\z.cells.size=ti.size/\pg z=true:=by
 unfold cC at h
 grind
def A5{ti:TI}(h:cC P t=some ti)(w:World):(isAgg t).run P w=.ok ti.agg w:=by obtain⟨i,u,z,j,c,g,f,e,d,b,-⟩:=mU h;unfold isAgg;simp[run_underlying c];rw[b];cases u<;>rfl
def dW{ti:TI}(h:cC P t=some ti)(w:World):(sizeOf t).run P w=.ok ti.size w:=by let⟨i,u,z,c,j,g,b,f,e,d⟩:=mU h;simp[sizeOf,typeInfo,c,b]
def Ef{ti:TI}(h:cC P t=some ti)(w:World):∃z,(zeroValue t).run P w=.ok z w/\ti.zero=iS z/\z.cells.size=ti.size/\pg z=true:=by let⟨i,u,z,f,l,e,k,j,d,g,c,b⟩:=mU h;exact⟨z,by simp[zeroValue,typeInfo,f,e],d,c,b⟩
def gP{ti:TI}(d:cC P t=some ti){b:Addr}(h:At w b z)(f:(ti.agg=true/\∃cs,z=.agg cs/\cs.size=ti.size)\/(ti.agg=false/\z.oneCell'=true)):
 (loadVar t b).run P w=.ok z w:=by
 unfold loadVar;simp only[Sem.run_bind,A5 d,Result.andThen_ok];rcases f with⟨c,cs,rfl,e⟩|⟨c,e⟩;let⟨hs,k,l,i,hc⟩:=h;simp[dW d];have:=run_loadCells_list (P:=P) w b cs.toList (λj v g=>by rw[cD hs,oe (a:=⟨b.block,b.off+j,none⟩) W i];exact hc j v<|by simpa[bO]using g)
 simp_all;simp only[c,aim,if_false];rw[run_load,h.cell<|cells_one e]
def kU{ti:TI}(b:fits ti y=true)(c:Rel w S y z F1):
 (ti.agg=true/\∃cs,z=.agg cs/\cs.size=ti.size)\/(ti.agg=false/\z.oneCell'=true):=by
 unfold fits at b;split at b;simp at b;obtain⟨cs,rfl,hc⟩:=c;exact .inl ⟨b.1,cs,W,by have:=Cells.length hc;grind⟩;simp at b;exact .inr ⟨b.1.1,c.one b.2⟩
def wG{ti:TI}(b:fits ti y=true)(c:Rel w S y z F1):z.cells.size=ti.size:=by unfold fits at b;split at b;simp at b;obtain⟨e,rfl,hc⟩:=c;rw[bO];have:=Cells.length hc;simp at this;omega;simp at b;rw[cells_one<|c.one b.2];grind
def jv(w:World):∀(p q:Path)(L:Loc),loc w L (p++q)=(loc w L p).bind (loc w · q)
 |[],q,L=>rfl
 |s::p,q,L=>by
  simp[loc];cases step1 w L s with
  |none=>rfl
  |some b=>simp;exact jv w p q b
def lA(h:aT S B σ (tv V a) w F)(x:Operand)(m:aO x=true){r g1 g2:Nat}{p:Path}{av:AV}(i:(resolve σ x).addr=some (r,g1,g2,p,av)):
 g1=(σ r).g1/\g2=(σ r).g2/\av=(σ r).av/\(∃u,a.eval x=.pointer (some u))/\((flat p=false->∃y,bM av p=some y)->∃u,loc w (.val<|tv V a r) p=some (.addr u)/\a.eval x=.pointer (some u)):=by
 cases x with
 |const v=>simp[resolve,cF.addr]at i;have s:=fC v;split at i;rename_i e;rw[e]at s;simp[AV.plain]at s;cases i;rename_i e;rw[e]at s;simp[AV.plain]at s;cases i
 |func f=>simp[resolve,cF.addr]at i
 |global g=>simp[resolve,Sl.none,cF.addr]at i
 |tmp t=>
  have n:=iq V a<|gS m;rw[n];have l:=h.rel t;cases d:(σ t).av with
  |ptr M K H O=>unfold an at l;simp only[resolve,cF.of,d,cF.addr]at i;split at i;rename_i o;split at i;rename_i R;cases i;simp_all;cases i;cases i
  |box own x0=>
   have C:(σ t).av.plain=true:=by rw[d];rfl
   rw[an.aC C,d]at l;simp[resolve,cF.of,d,cF.addr,abL,aeb]at i;obtain⟨rfl,rfl,rfl,rfl,rfl⟩:=i;obtain⟨b,cs,Z,F',z,k,-⟩:=l;exact⟨W,W,by rw[d],⟨⟨b,0,none⟩,k⟩,λ_=>⟨⟨b,0,none⟩,by simp[loc,step1,k,cH],k⟩⟩
  |bH M K H O=>
   simp[resolve,cF.of,d,cF.addr]at i;split at i;rename_i own x0 hc;simp[abL,aeb]at i;obtain⟨rfl,rfl,rfl,rfl,rfl⟩:=i;have D:(resolve σ<|.tmp t).cont=some (.box own x0):=by simpa only[resolve,cF.of,d]using hc
   have j:=l;unfold an at j;rw[d]at j;have X:∃c,loc w (.val<|tv V a M) O=some c/\holds w c (tv V a t):=by
    simp only[cF.cont,d]at hc;split at hc;rename_i o;split at hc;rename_i R;obtain⟨c,A,q,-⟩:=j.2.2.2 o (Ji R) λ_=>by grind
    exact⟨c,A,q⟩;cases hc;cases hc
   let⟨c,A,q⟩:=X;obtain⟨F1,o,-⟩:=ba h (.tmp t) m D;simp only[Rel,n]at o;obtain⟨b,cs,Z,F',z,k,-⟩:=o;refine⟨W,W,W,⟨⟨b,0,none⟩,k⟩,λ_=>⟨⟨b,0,none⟩,?_,k⟩⟩;rw[jv,A];simp[agb,loc];rw[k]at q;rw[du q W I];rfl;cases i
  |abs J=>simp[resolve,cF.of,d,cF.addr,Sl.none]at i
  |ix g T=>simp[resolve,cF.of,d,cF.addr]at i
  |_=>simp[resolve,cF.of,d,cF.addr]at i
end
end
section
variable{P:Program}{N:Nat}{w0 w:World}{V:Hid}{S S0:Nat->Prop}{B:Nat->Prop}{σ σ':St}{a:Act}{F:Nat->L Nat}
section
variable{y:AV}{d o r t:Nat}{p:Path}
def Good(N:Nat)(V:Hid)(w0:World)(S0:Nat->Prop)(σ':St)(a:Act)(d:Nat)(r:Result Value):Prop:=∃v b,r=.ok v b/\Inv N V w0 S0 σ' (a.put (some d) v) b
def zn{T:Nat->Value}{c:Addr}(b:bM (σ r).av p=some y)(hl:loc w (.val<|T r) p=some (.addr c)):(σ r).av.plain=true:=by
 cases p with
 |nil=>simp[loc]at hl
 |cons s p=>cases hh:(σ r).av<;>simp[AV.plain]<;>(rw[hh]at b;simp[bM]at b)
def Inv.HK{y':AV}{n:Value}(h:Inv N V w0 S0 σ a w)(H:d<N)(x:(σ r).av.plain=true)(q:bM (σ r).av p=some y)
 (f:Mv.runs σ [.share r p,.put d y']=some σ')
 (v:∀S F L z i,aT S (c6 V w0) σ (tv V a) w F->loc w (.val<|tv V a r) p=some L->holds w L z->Rel w S y z i->∀S',Rel w S' y.cK z []->Rel w S' y' n []):
 Inv N V w0 S0 σ' (a.put (some d) n) w:=by
 simp[Mv.runs,Mv.run,q]at f;split at f;rename_i u c;split at c;rename_i C hs;simp at c f;subst c;subst f;let⟨S,F,hc,s,l,k,j,m⟩:=h;let⟨L,z,i,D,k1,k2,k3,k4,k5⟩:=hc.share r p x q hs;have A:=v S F L z i hc k1 k2 k3 (λb=>S b\/b∈i)<|Rel.share (λ_ h=>.inl h) _ k3 λb e=>.inr e;refine⟨λb=>S b\/b∈i,jg D d [],?_,by rw[size_put];exact s,by rw[fw];exact l,λb e=>.inl<|k b e,λb e=>e.elim (j b) λe=>.inr<|(λb e=>(hc.own r b<|k5 b e).1) b e,m⟩;rw[mj<|by rwa[s]];refine k4.put d _ _ ?_;rwa[an.aC<|by rw[aG];exact A.plain,aG,aG];cases c;cases f
def PA(h:Inv N V w0 S0 σ a w)(hd:d<N)(x:Operand)(E1:aO x=true){ms:List Mv}
 (hm:vh P d t (resolve σ x)=some ms)(C:Mv.runs σ ms=some σ'):Good N V w0 S0 σ' a d ((Instr.loadAt t<|a.eval x).run P w):=by
 unfold vh at hm;split at hm;rename_i ti Y;split at hm;rename_i r g1 g2 p av hx;split at hm;rename_i y T;split at hm;rename_i f;have c:∀S F,aT S (c6 V w0) σ (tv V a) w F->∃s z v,loc w (.val<|tv V a r) p=some (.addr s)/\At w s z/\Rel w S y z v/\(Instr.loadAt t<|a.eval x).run P w=.ok z w/\(σ r).av.plain=true/\av=(σ r).av/\g1=(σ r).g1/\g2=(σ r).g2:=by intro S F hc;obtain⟨rfl,rfl,rfl,-,D⟩:=lA hc x E1 hx;let⟨s,u,R⟩:=D λ_=>⟨y,T⟩;have l:=zn T u;have A:=hc.rel r;rw[an.aC l]at A;obtain⟨L,z,v,k1,k2,k3,-⟩:=Rel.read p (L:=.val<|tv V a r) A W T;rw[u]at k1;cases k1;refine⟨s,z,v,u,k2,k3,?_,l,W,W,W⟩;simp[Instr.loadAt,Instr.sureAddr,R,Sem.run_bind,Sem.run_pure,Result.andThen_ok];exact gP Y k2<|kU f k3
 split at hm;rename_i A0;cases hm;simp[Mv.cQ,abL]at C;subst C;have H:=h;obtain⟨S,F,hc,-⟩:=h;obtain⟨s,z,v,u,R,l3,m,-⟩:=c S F hc;refine⟨z,w,m,H.jJ hd λK O i=>?_⟩;obtain⟨q,X,M,k,g,e,b,-⟩:=c K O i;rw[m]at b;simp[Result.ok.injEq,abu]at b;subst b;rw[Rel.aK _ e A0]at e;exact e;split at hm;cases hm;rename_i Z;split at hm;rename_i n;cases hm;simp[Mv.cQ,abL]at C;subst C;have H:=h;obtain⟨S,F,hc,-⟩:=h;obtain⟨s,z,v,u,R,l3,m,-⟩:=c S F hc;refine⟨z,w,m,H.put hd λK O i=>?_⟩;obtain⟨q,X,M,k,g,e,b,-,rfl,rfl,rfl⟩:=c K O i;rw[m]at b;simp[Result.ok.injEq,abu]at b;subst b;unfold an;simp only[aG,ar _ _ Z];exact⟨U,abY _,abY _,λ_ _ _=>⟨.addr q,k,g,λ_ _=>e.one n⟩⟩;cases hm;have H:=h;obtain⟨S,F,hc,-⟩:=h;obtain⟨s,z,v,u,R,l3,m,l,rfl,-⟩:=c S F hc;refine⟨z,w,m,H.HK hd l T C λK O L X M i k1 k2 k3 F0 hS=>?_⟩;obtain⟨q,z2,F2,k,g,e,b,-⟩:=c K O i;rw[m]at b;simp[Result.ok.injEq,abu]at b;subst b;rw[k]at k1;cases k1;have:X=z:=by
  rcases kU f e with⟨h1,cs,rfl,h2⟩|⟨h1,h2⟩;rcases kU f k3 with⟨J,E2,rfl,h4⟩|⟨J,-⟩
  congr 1
  obtain⟨-,c1,f1,r1,q1⟩:=g;obtain⟨-,c2,f2,r2,q2⟩:=k2;rw[r1]at r2;cases r2;apply ajn;intro j;by_cases hj:j<cs.size;have e1:=q1 j cs[j] (by simp[bO,hj]);have e2:=q2 j E2[j] (by simp[bO])
  grind
  simp_all;simp_all;rcases kU f k3 with⟨J,-⟩|⟨J,h4⟩;rw[h1]at J;cases J;have e1:=At.cell g<|cells_one h2;have e2:=At.cell k2<|cells_one h4;simp_all
 rw[<-this];exact hS;cases hm;cases hm;cases hm;cases hm
def jw(q:Path)(k:AV->Q AV)(b:∀x,bM x q=k x):∀(p:Path)(x:AV),bM x (p++q)=(bM x p).bind k
 |[],x=>b x
 |s::p,x=>by
  simp;unfold bM;split;split;rename_i xs i e _;cases xs[i]?with
  |none=>rfl
  |some c=>simp;exact jw q k b p c
  ·rfl
  exact jw q k b p _;rename_i xs o;cases xs[o]?with
  |none=>rfl
  |some c=>simp;exact jw q k b p c
  ·split
   ·exact jw q k b p _
   rfl
  rename_i xs i;cases xs[i]?with
  |none=>rfl
  |some c=>simp;exact jw q k b p c
  ·split
   ·exact jw q k b p _
   rfl
  rfl
def CE(p q:Path)(x:AV):bM x (p++q)=(bM x p).bind (bM · q):=jw q _ (λ_=>rfl) p x
def Ug{s:Step}{n:Q Nat}(h:flat (s::p)=false):flat ((s::p)++[.at o n])=false:=by simp[flat,List.all_append]at h⊢;grind
def abT{av:AV}{ti:TI}(b:flat (p++[kd ti o])=false->∃y,bM av (p++[kd ti o])=some y)(f:flat p=false):∃y,bM av p=some y:=by
 cases p with
 |nil=>exact⟨_,W⟩
 |cons s p=>
  let⟨y,c⟩:=b<|Ug f;rw[CE]at c;cases e:bM _ _ with
  |none=>grind
  |some g=>grind
def Dm{f:Nat}(h:Inv N V w0 S0 σ a w)(J:d<N)(x:Operand)(b:aO x=true){l:L Mv}
 (hm:lp P d t (resolve σ x) f=some l)(D:Mv.runs σ l=some σ'):Good N V w0 S0 σ' a d ((Instr.fieldAt t (a.eval x) f).run P w):=by
 unfold lp at hm;split at hm;rename_i o R g;split at hm;rename_i ti n;split at hm;rename_i r g1 g2 p av C;split at hm;cases hm;rename_i s;split at hm;cases hm;rename_i q;have u:l=[.put d<|.ptr r g1 g2<|p++[kd ti o]]/\(flat (p++[kd ti o])=false->∃y,bM av (p++[kd ti o])=some y):=by grind
 obtain⟨rfl,v⟩:=u;simp[Mv.cQ]at D;subst D;have K:=h;obtain⟨S,F,hc,-⟩:=h;have j:=abT v;obtain⟨-,-,-,-,k⟩:=lA hc x b C;let⟨H,O,A⟩:=k j;have i:(Instr.fieldAt t (a.eval x) f).run P w=.ok (.pointer<|some<|H.add o) w:=by unfold qV at g;split at g;rename_i T hu;split at g;rename_i fl b;cases g;simp[Instr.fieldAt,run_underlying hu,b,A,Instr.sureAddr,fieldPlace,dW n,q];cases g;cases g
 refine⟨_,w,i,K.put J λS' F' z=>?_⟩;obtain⟨Z,Y,X,-,e⟩:=lA z x b C;let⟨M,m,c⟩:=e j;rw[A]at c;simp[abL]at c;subst c;unfold an;simp only[aG,ar _ _ s];refine⟨U,E,E,⟨_,W⟩,λ_ _ _=>⟨H.add o,?_,W⟩⟩;rw[jv,m];rfl;cases hm;cases hm;cases hm
def jV(h:aT S B σ (tv V a) w F)(x:Operand)(C:aO x=true){g1 g2:Nat}(hc:(resolve σ x).cont=some y)(c:(resolve σ x).place=some (r,g1,g2,p)):
 bM (σ r).av p=some y/\(σ r).g1=g1/\(SO p=true\/(σ r).g2=g2)/\g1<=(σ r).g1/\g2<=(σ r).g2/\(σ r).av.plain=true/\∃L,loc w (.val<|tv V a r) p=some L/\holds w L (a.eval x)/\(∀T,L=.addr T->(a.eval x).oneCell'=true):=by
 cases x with
 |const v=>simp[resolve,cF.place]at c;have D:=fC v;split at c;rename_i e;rw[e]at D;simp[AV.plain]at D;cases c;cases c
 |func f=>simp[resolve,cF.place]at c
 |global g=>simp[resolve,Sl.none,cF.place]at c
 |tmp t=>
  rw[iq V a<|gS C];cases b:(σ t).av with
  |bH z m l A=>
   have n:r=z/\g1=m/\g2=l/\p=A:=by simp[resolve,cF.of,b,cF.place,abL,aeb]at c;simp_all
   obtain⟨rfl,rfl,rfl,rfl⟩:=n;let⟨k1,k2,k3⟩:=Ap b hc;have i:=h.rel t;unfold an at i;rw[b]at i;simp only[resolve,cF.of,b,cF.cont]at hc;split at hc;rename_i u;split at hc;rename_i s;let⟨L,O,M,K⟩:=i.2.2.2 u (Ji s) λ_=>by simp_all
   refine⟨k1,u,s,i.2.1,i.2.2.1,?_,L,O,M,K⟩;by_cases k:p=[];subst k;simp[bM,abL]at k1;rwa[k1];exact k2 k;cases hc;cases hc
  |ptr z m l A=>simp[resolve,cF.of,b,cF.place]at c
  |abs J=>simp[resolve,cF.of,b,cF.place,Sl.none]at c
  |ix g H=>simp[resolve,cF.of,b,cF.cont]at hc
  |_=>
   all_goals
    have j:(σ t).av.plain=true:=by rw[b];rfl
    have q:(resolve σ<|.tmp t)=⟨some t,σ t,.none⟩:=by simp[resolve,cF.of,b]
    let⟨Y,u,s,R,X⟩:=ba h (.tmp t) C hc;rw[q]at c;simp[cF.place,b,abL,aeb]at c;obtain⟨rfl,rfl,rfl,rfl⟩:=c;exact⟨by rw[(R t W j).2];rfl,W,.inl W,abY _,abY _,j,.val _,W,W,I⟩
end
end
end Go.Ai
