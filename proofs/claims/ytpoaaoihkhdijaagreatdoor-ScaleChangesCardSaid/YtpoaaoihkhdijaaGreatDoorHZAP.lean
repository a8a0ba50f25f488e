/- Parts of the proof of ScaleChanges (as AIM.md's row tells), at every input, with no further conditions. -/
import Derived.Test.YtpoaaoihkhdijaaGreatDoorHZAO
set_option linter.all false
set_option maxRecDepth 100000
set_option maxHeartbeats 0
namespace Go.Proofs
open Go.Shelf Go.RowKit Go.Sort Go.Lib
def Tryz.acD:(Tryz.prog.info? 374).map (·.size)=some 2:=by kernel_rfl
def Tryz.acS:liesAt Tryz.prog Tryz.prog.depth 374 (2/Tryz.prog.cellsOf 374) 0 374 1=true:=by kernel_rfl
theorem Tryz.acC(b:Nat)(w:World)(h0:w.cell? ⟨b,0,none⟩=some (.pointer<|some ⟨b,0,none⟩)):
 Calls Tryz.prog 338 #[.pointer (some ⟨b,0,none⟩)] w λe w'=>e=.returned (.tuple #[])/\w'=w:=by
 obtain⟨j,hj,_⟩:=afE.1 Tryz.acD
 go_enter Tryz.func338,Tryz.ntmps338
 go_wp2
 rw[Lib.run_neq_ptr_same w _ Tryz.underlying371 hj]
 go_wp2
 go_end0
 exact G
theorem Tryz.aci(b:Nat)(w:World)(h0:w.cell? ⟨b,0,none⟩=some (.pointer none))(hsh:w.shape? b=some (374,2))(hfz:w.frozen? ⟨b,0,none⟩=false):
 Calls Tryz.prog 338 #[.pointer (some ⟨b,0,none⟩)] w λe w'=>e=.returned (.tuple #[])/\w'=w.setCell ⟨b,0,none⟩ (.pointer<|some ⟨b,0,none⟩):=by
 obtain⟨j,hj,hjs⟩:=afE.1 Tryz.acD
 go_enter Tryz.func338,Tryz.ntmps338
 go_wp2
 rw[Lib.run_to_unsafe w ⟨b,0,none⟩ Tryz.underlying371 Tryz.underlying414 hj (by rw[hjs];decide) hsh<|Nat.zero_lt_succ 1];simp only[Result.andThen];rw[Oper.upon_value]
 go_wp2
 rw[run_callFunc_extern Tryz.func357 (by kernel_rfl) (by kernel_rfl) (by kernel_rfl) (e:=Extern.AbiNoEscape.same)<|by kernel_rfl];rw[Lib.run_noEscape];simp only[Result.andThen];rw[Oper.upon_value]
 go_wp2
 rw[Lib.run_from_unsafe w ⟨b,0,none⟩ Tryz.underlying414 Tryz.underlying371 hj hsh Tryz.acS];simp only[Result.andThen];rw[Oper.upon_value]
 go_wp2
 go_end0
 exact G
def Tryz.cc(b:Nat)(p v:Value)(bs:List Value)(w:World)(h:p=.pointer none\/p=.pointer (some ⟨b,0,none⟩))(c:w.heap[b]?=some (.cells #[p,v] 374 (0,0)))(a:w.ownsRow 0 5 1 v bs.length bs)(d:v.ownBlock≠some b):
 Calls Tryz.prog 338 #[.pointer (some ⟨b,0,none⟩)] w λe w'=>e=.returned (.tuple #[])/\w'.heap[b]?=some (.cells #[.pointer (some ⟨b,0,none⟩),v] 374 (0,0))/\w'.ownsRow 0 5 1 v bs.length bs/\w.grownBy w' (some b):=by
 rcases h with rfl|rfl
 ·have f:Lib.BuilderAt 374 5 0 b (.pointer none) bs w:=⟨adk _,v,c,a,d⟩;refine(Tryz.aci b w f.cell0 f.shape f.frozen0).mono ?_;rintro e w'⟨rfl,rfl⟩;have g:w.grownBy (w.setCell ⟨b,0,none⟩<|.pointer<|some ⟨b,0,none⟩) (some b):=⟨W,W,W,by simp[World.setCell],λk _ i=>Below.heap_setCell _ _ _ _ λe=>i<|by simp[e]⟩;refine⟨W,by simp[World.setCell,Array.getElem?_modify,c],a.kept (row:=some b) g<|Or.inr d,g⟩
 have f:Lib.BuilderAt 374 5 0 b (.pointer<|some ⟨b,0,none⟩) bs w:=⟨adk _,v,c,a,d⟩;refine(Tryz.acC b w f.cell0).mono ?_;rintro e w'⟨rfl,rfl⟩;exact⟨W,c,a,W,W,W,adp _,λ_ _ _=>rfl⟩
theorem Tryz.wrS(b:Nat)(p v:Value)(bs:List Value)(s:ByteArray)(w:World)(hp:p=.pointer none\/p=.pointer (some ⟨b,0,none⟩))(hbk:w.heap[b]?=some (.cells #[p,v] 374 (0,0)))(hown:w.ownsRow 0 5 1 v bs.length bs)(hne:v.ownBlock≠some b)(hlen:bs.length+s.size<=140737488355328):
 Calls Tryz.prog 306 #[.pointer (some ⟨b,0,none⟩),.string s] w λe w'=>e=.returned (.tuple #[.int .i64 s.size,.nilIface])/\∃v',w'.heap[b]?=some (.cells #[.pointer (some ⟨b,0,none⟩),v'] 374 (0,0))/\
  w'.ownsRow 0 5 1 v' (bs++Lib.strCells s).length (bs++Lib.strCells s)/\v'.ownBlock≠some b/\(∀g,v'.ownBlock=some g->v.ownBlock=some g\/w.heap.size<=g)/\
  w'.os=w.os/\w'.tape=w.tape/\w'.output=w.output/\w.heap.size<=w'.heap.size/\∀k,k<w.heap.size->k≠b->v.ownBlock≠some k->w'.heap[k]?=w.heap[k]?:=by
 have hib:(Tryz.prog.info? 5).map (λi=>(i.zero,i.size,i.bytes))=some (some<|.int .u8 0,1,1):=by kernel_rfl
 obtain⟨i0,hi,hz0,hz1,hz2⟩:=info_parts hib
 go_enter Tryz.func306,Tryz.ntmps306
 go_wp2_with (go_at_call 338;refine(Tryz.cc b p v bs _ hp hbk hown hne).mono ?_)
 rintro e w1⟨rfl,hbk,hown,hg1⟩;have c0:w1.cell? ⟨b,0,none⟩=some (.pointer<|some ⟨b,0,none⟩):=by rw[Lib.cell_of_heap hbk];rfl
 have c1:w1.cell? ⟨b,1,none⟩=some v:=by rw[Lib.cell_of_heap hbk];rfl
 go_wp2_with (at_builtin;refine Lib.aa7 W _ _ 372 9 W 5 i0 Tryz.underlying372 Tryz.underlying9 hi hz0 hz1 hz2 _ _ _ W hown s W ?c3 ?c4 ?_)
 case c3=>unfold maxLen;omega
 case c4=>omega
 intro v' w2 hown' hgrow hnew;have hlt:b<w1.heap.size:=by
  rcases aeQ b w1.heap.size with h'|h'
  ·exact h'
  simp[ahV h']at hbk
 have hb2:w2.heap[b]?=some (.cells #[.pointer (some ⟨b,0,none⟩),v] 374 (0,0)):=by rw[hgrow.block b hlt λe=>hne e.symm];exact hbk
 have d0:w2.cell? ⟨b,0,none⟩=some (.pointer<|some ⟨b,0,none⟩):=by rw[Lib.cell_of_heap hb2];rfl
 have d1:w2.cell? ⟨b,1,none⟩=some v:=by rw[Lib.cell_of_heap hb2];rfl
 have f1:w2.frozen? ⟨b,1,none⟩=false:=Lib.frozen_of_heap hb2 1;obtain⟨ao,n',cap,rfl⟩:∃ao n' cap,v'=.slice ao n' cap:=by
  rcases hown'.2 with⟨hv,_⟩|⟨g,cap,cur,hv,_⟩
  ·exact⟨_,_,_,hv⟩
  exact⟨_,_,_,hv⟩
 go_wp2
 go_ret2
 have hne':=Lib.ownBlock_ne hown' hb2 (fh:(374:TypeId)≠5);have hg3:w2.grownBy (w2.setCell ⟨b,1,none⟩<|.slice ao n' cap) (some b):=⟨W,W,W,by simp[World.setCell],λk _ hk=>Below.heap_setCell _ _ _ _ λe=>hk<|by simp[e]⟩;have hs1:=hg1.size;have hs2:=hgrow.size;have hs3:=hg3.size;refine⟨W,.slice ao n' cap,by simp[World.setCell,Array.getElem?_modify,hb2],?_,hne',λg hg=>(hnew g hg).imp id λh=>E,?_,?_,?_,E,λk hk hkb hkv=>?_⟩
 ·have:=hown'.kept (row:=some b) hg3 (Or.inr hne');simpa[Lib.strCells_length]using this
 ·exact(hg3.os.trans hgrow.os).trans hg1.os
 ·exact(hg3.tape.trans hgrow.tape).trans hg1.tape
 ·exact(hg3.output.trans hgrow.output).trans hg1.output
 have e1:some k≠some b:=λe=>hkb (by simpa using e);rw[hg3.block k E e1,hgrow.block k E λe=>hkv e.symm,hg1.block k hk e1]
def abu(w:World)(g n:Nat):(w.drew.freeze ⟨g,0,none⟩ n).os=w.os/\(w.drew.freeze ⟨g,0,none⟩ n).tape=w.tape/\(w.drew.freeze ⟨g,0,none⟩ n).output=w.output/\w.heap.size<=(w.drew.freeze ⟨g,0,none⟩ n).heap.size/\
 ∀k,k≠g->(w.drew.freeze ⟨g,0,none⟩ n).heap[k]?=w.heap[k]?:=by
 unfold World.freeze;split
 ·exact⟨W,W,W,adp _,λ_ _=>rfl⟩
 refine⟨W,W,W,?_,λk h=>?_⟩
 ·simp only[Array.size_modify];exact adp _
 show(w.heap.modify g _)[k]?=_;rw[Array.getElem?_modify,if_neg λe=>h e.symm]
theorem Tryz.ac5(b:Nat)(p v:Value)(l:List UInt8)(w:World)(hbk:w.heap[b]?=some (.cells #[p,v] 374 (0,0)))(hown:w.ownsRow 0 5 1 v (Lib.byteCells l).length (Lib.byteCells l))(h0:l≠[]):
 Calls Tryz.prog 307 #[.pointer (some ⟨b,0,none⟩)] w λe w'=>e=.returned (.string ⟨l.toArray⟩)/\
  w'.os=w.os/\w'.tape=w.tape/\w'.output=w.output/\w.heap.size<=w'.heap.size/\∀k,k<w.heap.size->v.ownBlock≠some k->w'.heap[k]?=w.heap[k]?:=by
 have hl0:l.length≠0:=by simpa using h0
 rw[Lib.byteCells_length]at hown;obtain⟨g,cap,cur,rfl,hbg,hg,hnc,hcm,hcs,htake⟩:∃g cap cur,v=.slice (some ⟨g,0,none⟩) l.length cap/\0<=g/\w.heap[g]?=some (.cells cur 5 (0,0))/\l.length<=cap/\cap<=maxLen/\cur.size=cap*1/\cur.toList.take (l.length*1)=Lib.byteCells l:=by
  rcases hown.2 with⟨_,hz⟩|⟨g,cap,cur,hv,r⟩
  ·exact absurd hz hl0
  exact⟨g,cap,cur,hv,r⟩
 have c1:w.drew.cell? ⟨b,1,none⟩=some (.slice (some ⟨g,0,none⟩) l.length cap):=by have:w.drew.heap[b]?=some (.cells #[p,.slice (some ⟨g,0,none⟩) l.length cap] 374 (0,0)):=hbk;rw[Lib.cell_of_heap this];rfl
 have hSD:(Builtin.unsafeSliceData_ #[372] 396 #[.slice (some ⟨g,0,none⟩) l.length cap]).run Tryz.prog w.drew=.ok (.pointer<|some ⟨g,0,none⟩) w.drew:=Lib.run_unsafeSliceData_row _ _ _ _ _ _ E
 have hUS:(Builtin.unsafeString_ #[396,3] 9 #[.pointer (some ⟨g,0,none⟩),.int .i64 l.length]).run Tryz.prog w.drew=.ok (.string ⟨l.toArray⟩) (w.drew.freeze ⟨g,0,none⟩ l.length):=by refine Lib.run_unsafeString_row w.drew 396 3 9 5 Tryz.underlying396 (by kernel_rfl) g cur.size (by have hg':w.drew.heap[g]?=some (.cells cur 5 (0,0)):=hg;simp[World.shape?,hg']) l h0 E (by unfold maxLen at hcm;omega) ?_;intro j x hx;have:=hown.cells (g:=g) W j (.int .u8 x.toNat) (by simp[Lib.byteCells,hx]);exact this
 have hfr:=abu w g l.length;have mixed:Tryz.prog.follows .mixedOrders=true:=fb
 go_enter Tryz.func307,Tryz.ntmps307
 go_wp2
 go_region_o
 all_goals(go_wp2;go_ret;exact⟨W,hfr.1,hfr.2.1,hfr.2.2.1,hfr.2.2.2.1,λk _ hkv=>hfr.2.2.2.2 k λe=>hkv<|by simp[Value.ownBlock,e]⟩)
end Go.Proofs
namespace Go.Ai.Pg
open Go.Proofs Go.Ai Go.Ai.eE
def Bld(b:Nat)(l:hO):tD:=λw _ F=>∃p v,(p=.pointer none\/p=.pointer (some ⟨b,0,none⟩))/\w.heap[b]?=some (.cells #[p,v] 374 (0,0))/\w.ownsRow 0 5 1 v (Lib.byteCells l).length (Lib.byteCells l)/\v.ownBlock≠some b/\F=b::v.ownBlock.toList
def Bld.closed{b:Nat}{l:hO}{w:World}{S:Nat->Prop}{F:List Nat}(h:Bld b l w S F):tD.here (Bld b l) w S F:=by
 intro n o f _;obtain⟨p,v,k,m,e,a,rfl⟩:=h;refine⟨p,v,k,by rw[f b<|.inr I];exact m,?_,a,W⟩;refine⟨e.1,?_⟩;rcases e.2 with h|⟨g,d,c,rfl,r1,j,i⟩
 ·exact .inl h
 exact .inr ⟨g,d,c,W,r1,by rw[f g<|.inr<|by simp[Value.ownBlock]];exact j,i⟩
def Bld.new(b:Nat)(w:World)(S:Nat->Prop)(h:w.heap[b]?=some (.cells #[.pointer none,.slice none 0 0] 374)):Bld b [] w S [b]:=⟨_,_,.inl W,h,⟨W,.inl G⟩,by simp[Value.ownBlock],W⟩
def abm(b:Nat)(l s:hO)(hl:l.length+s.length<2^46):ZP Tryz.prog 306 (·=.pointer (some ⟨b,0,none⟩)) (Bld b l) (Bld b<|l++s) (aB [.s s]) (SV.bW [.i s.length,.c .nilIface]).den:=by
 rintro v rfl w S F Q V T K D z x hc;obtain⟨p,v,B,J,C,m,rfl⟩:=K w S (λ_ _=>rfl) λ_ h=>h;simp only[aB,Cells]at hc;obtain⟨y,R,F1,Z,rfl,L,_,u,rfl,rfl⟩:=hc;simp only[SV.den,Rel]at u;obtain⟨_,rfl,rfl⟩:=u;have d:(bs s).size=s.length:=by show s.toArray.size=_;simp
 refine vh.BJ (fn:=Tryz.f306) Tryz.func306 W W<|(Tryz.wrS b p v (Lib.byteCells l) (bs s) w B J C m<|by rw[Lib.byteCells_length,d];omega).mono ?_;rintro e j⟨rfl,a,k1,k2,k3,k4,k5,k6,k7,k8,k9⟩;have M:Lib.byteCells l++Lib.strCells (bs s)=Lib.byteCells (l++s):=by rw[Lib.byteCells_append];rfl
 rw[M]at k2;have q:b<j.heap.size:=by apply afC;intro h;rw[ahV E]at k1;simp at k1
 have t:Bld b (l++s) j S (b::a.ownBlock.toList):=⟨_,a,.inr W,k1,k2,k3,W⟩;have n:∀g,a.ownBlock=some g->g<j.heap.size:=by
  intro g o;rcases k2.2 with⟨rfl,-⟩|⟨X,O,N,rfl,-,r,-⟩
  ·simp[Value.ownBlock]at o
  simp only[Value.ownBlock,ada]at o;subst o;apply afC;intro h;rw[ahV E]at r;simp at r
 refine⟨_,W,S,b::a.ownBlock.toList,k5,k6,k7,k8,λk H f=>k9 k H (λe=>f<|by simp[e]) λe=>f<|by simp[e],λ_ h=>h,λ_ h=>.inl h,λc hc=>ae3 (x c hc) k8,t.closed,?_,?_,?_⟩
 ·cases A:a.ownBlock with
  |none=>simp
  |some g=>rw[A]at k3;simp at k3⊢;exactλe=>k3 e.symm
 ·intro c hc;rcases adZ.1 hc with rfl|hc
  ·exact⟨.inr I,q,(z _ I).2⟩
  have hc:a.ownBlock=some c:=by simpa using hc
  refine⟨(k4 c hc).symm.imp id λh=>by simp[h],n c hc,?_⟩;rcases k4 c hc with h|h
  ·exact(z c<|by simp[h]).2
  exactλhs=>by have:=x c hs;omega
 intro P Y;simp only[SV.den,aB,Rel,Cells];refine⟨_,W,_,_,[],[],W,W,I,?_,_,_,[],[],W,W,I,?_,W,W⟩
 ·simp[Rel,scalar,d]
 simp[Rel,scalar]
def acX:tD:=λ_ _ F=>F=[]
def abz(b:Nat)(l:hO)(o:l≠[]):ZP Tryz.prog 307 (·=.pointer (some ⟨b,0,none⟩)) (Bld b l) acX (aB []) (SV.s l).den:=by rintro v rfl w S F r x u n g y m hc;obtain⟨p,v,t,j,d,f,rfl⟩:=n w S (λ_ _=>rfl) λ_ h=>h;simp only[aB,Cells]at hc;obtain⟨rfl,-⟩:=hc;refine vh.BJ (fn:=Tryz.f307) Tryz.func307 W W<|(Tryz.ac5 b p v l w j d o).mono ?_;rintro e q⟨rfl,k5,k6,k7,k8,k9⟩;exact⟨_,W,S,[],k5,k6,k7,k8,λk i a=>k9 k i λe=>a<|by simp[e],λ_ h=>h,λ_ h=>.inl h,λc hc=>ae3 (m c hc) k8,λ_ _ _ _=>rfl,ae5,I,λ_ _=>by simp[SV.den,Rel,scalar,bs]⟩
def Pa(m:Nat):List hO:=if h:m=0 then[]else if m/10^18=0 then[decl m 1]else decl (m%10^18) 18::Pa (m/10^18)
 termination_by m
 decreasing_by exact afP (af0 h) fh
def abo:Pa 0=[]:=by rw[Pa];simp
def aaw{m:Nat}(h:m≠0)(a:m/10^18=0):Pa m=[decl m 1]:=by rw[Pa,dif_neg h,if_pos a]
def ack{m:Nat}(a:m/10^18≠0):Pa m=decl (m%10^18) 18::Pa (m/10^18):=by
 have h:m≠0:=by rintro rfl;exact a W
 rw[Pa,dif_neg h,if_neg a]
def abH(m:Nat)(h:m≠0):(Pa m).reverse.flatten=decl m 1:=by
 induction m using Nat.strongRecOn with
 |ind m c=>
  by_cases a:m/10^18=0
  ·rw[aaw h a];simp
  rw[ack a,List.reverse_cons,ah0,c _ (afP E fh) a];have hs:=CM (q:=m/10^18) E 18 (m%10^18) 1 (aeV _ fh);have e:m/10^18*10^18+m%10^18=m:=by have:=aij m (10^18);have b:(10:Nat)^18=10^18:=fh;rw[b];omega
  rw[e]at hs;rw[hs,show 1-18=0 from fb,JC E];simp
def acN{m:Nat}(h:m≠0):Pa m≠[]:=by
 by_cases a:m/10^18=0
 ·rw[aaw h a];simp
 rw[ack a];simp
def abT(m:Nat):∀(k:Nat),m<(10^18)^k->(Pa m).length<=k:=by
 induction m using Nat.strongRecOn with
 |ind m c=>
  intro k a;by_cases h:m=0
  ·subst h;rw[abo];simp
  cases k with
  |zero=>simp at a;omega
  |succ k=>
   by_cases b:m/10^18=0
   ·rw[aaw h b];simp
   rw[ack b,adX];have:=c (m/10^18) (afP E fh) k (by rw[afu]at a;exact Nat.div_lt_of_lt_mul<|by rw[aeO];exact a)
   omega
def acR:(10:Nat)^18=10^18:=fh
def acB{m:Nat}(h:m<10^18):(decl m 1).length<=18:=eI m 1 18 (by rw[acR];exact h) fh
def acg:∀j,decl 0 j=List.replicate j 48
 |0=>dp
 |j+1=>by rw[cC E,show(0:Nat)/10=0 from fb,show j+1-1=j from E,acg j,List.replicate_succ'];rfl
def abN(m:Nat):∀k,1<=k->(decl m 1).length<=k->decl m k=List.replicate (k-(decl m 1).length) 48++decl m 1:=by
 induction m using Nat.strongRecOn with
 |ind m b=>
  intro k e hl;have a:decl m 1=decl (m/10) 0++[RU<|m%10]:=cC E;rw[cC (n:=m) (k:=k) E];by_cases h:m/10=0
  ·rw[a,h,dp,acg];simp
  have d:decl (m/10) 0=decl (m/10) 1:=JC E;rw[a,d]at hl⊢;rw[aeP,aia]at hl⊢;have c:1<=(decl (m/10) 1).length:=by rw[cC E];simp
  rw[b (m/10) (afP E fh) (k-1) E E];rw[show k-1-(decl (m/10) 1).length=k-((decl (m/10) 1).length+1)from E,aeZ]
def abE:eE.ae (10^18)=[10^18]:=tr (f:=10^18) fh fh
def abn{M K:Nat}(h:(eE.ae M).length<=K):M<100000000000000000000^K:=by
 have a:=eE.cw M;have b:∀(B n:Nat),(M:Int)<(B:Int)^n->M<B^n:=λB n h=>by exact_mod_cast h
 have e:(M:Nat)<(2^64)^(eE.ae M).length:=b (2^64) _ a;have d:(2^64)^(eE.ae M).length<=(2^64)^K:=ae2 fh h;have c:(2^64)^K<=100000000000000000000^K:=agW fh K;omega
def abx{M K:Nat}(h:(eE.ae M).length<=K)(a:1<=K):(decl M 1).length<=20*K:=by
 have:=abn h;have e:100000000000000000000^K=10^(20*K):=by rw[agn]
 rw[e]at this;exact eI M 1 _ this E
def abV(a:Nm)(h:bj a){K:Nat}(hl:fV a K)(hK:K<2^36):aM Tryz.prog 265 [oG a] (.s<|cK<|nv a):=by
 have O:=eE.dU a h;obtain⟨s,w⟩:=a;cases w with
 |none=>have h: -(2^63)<=s/\s<=9223372036854775807:=h;refine bS Tryz.func265 W<|bP W W (Rg s h.1 h.2) W<|bN W W
 |some c=>
  obtain⟨f,p⟩:(s=1\/s= -1)/\9223372036854775808<=c:=h;obtain⟨M,y⟩:∃M,M=(nv ⟨s,some c⟩).natAbs:=⟨_,W⟩;have X:M=c:=by rw[y];show(s*c).natAbs=c;rcases f with rfl|rfl<;>omega
  have hl:(eE.ae M).length<=K:=by rw[y];exact hl
  rw[<-y]at O;have d:M≠0:=E;refine bS Tryz.func265 W ?_;have C:eE.ae c≠[]:=by intro e;have:=eE.ai c;rw[e]at this;simp[eE.val]at this;omega
  refine r1 W (by simp only[bo,and_true];exact C) ?_;refine bG W O W<|r0 W<|EI [(3,.u<|decide (s<0)),(4,.ints .u64 false<|eE.ae M),(5,.ints .u64 false<|eE.ae (10^18)),(6,.strs true [])] ⟨⟨W,W,.refl _⟩,⟨W,W,.refl _⟩,⟨W,W,.shr<|by rw[abE];rfl⟩,⟨W,W,.le<|show ar .nil (.strs true [])from W⟩,U⟩ ?_;refine kR (λ(m:Nat)(L:List hO)=>[(3,.u<|decide (s<0)),(4,.ints .u64 false<|eE.ae m),(5,.ints .u64 false<|eE.ae (10^18)),(6,.strs true L)]) (λm L=>L++Pa m=Pa M/\m<=M) (λm _=>m) M [] ⟨W,adp _⟩ ⟨G,G,G,G,U⟩ ?_;rintro m L⟨z,hm⟩;refine bQ W W ?_ ?_<;>intro g
  ·have g:0<m:=by
    rcases afd m with h|h
    ·subst h;have g:(0:Int)<((eE.ae 0).length:Int):=g;rw[eE.dm]at g;simp at g
    exact h
   have F:(eE.ae m).length<2^40:=by
    have:(eE.ae m).length<=(eE.ae M).length:=by apply afC;intro h;have:=eE.cE<|Nat.lt_of_not_le h;omega
    omega
   obtain⟨r,x⟩:∃r,r=m%10^18:=⟨_,W⟩;obtain⟨q,o⟩:∃q,q=m/10^18:=⟨_,W⟩;have v:r<10^18:=by rw[x];exact aeV _ fh
   have A:=acB v;have B:q<m:=by rw[o];exact afP g fh
   have j:Pa m=(if q=0 then decl r 1 else decl r 18)::Pa q:=by
    by_cases h:q=0
    ·rw[if_pos h,aaw E<|by rw[<-o];exact h,h,abo];have:m%10^18=m:=by
      rw[o]at h;exact afy E
     rw[x,this]
    rw[if_neg h,ack<|by rw[<-o];exact h,x,o]
   have Y:L.length+1<=2*K:=by
    have e:=congrArg List.length z;rw[j,aeP,adX]at e;have f:=abn hl;have p:M<(10^18)^(2*K):=by refine ae3 f ?_;rw[agn];exact agW fh K
    have:=abT M (2*K) p;omega
   refine bP W W (GN m (10^18) fh F<|by rw[abE];decide) W ?_;rw[<-o,<-x];refine rn 6 W<|cx 2 [(3,.u<|decide (s<0)),(5,.ints .u64 false<|eE.ae (10^18)),(6,.strs true L),(7,.ints .u64 false<|eE.ae q),(9,.s<|decl r 1)] True ?_ λ_=>?_
   ·refine bQ W W ?_ ?_<;>intro g1
    ·have k:0<r:=by
      rcases afd r with h|h
      ·rw[h]at g1;have g1:(0:Int)<((eE.ae 0).length:Int):=g1;rw[eE.dm]at g1;simp at g1
      exact h
     have N:=tr k E;rw[N];refine r1 W (by simp only[bo,and_true]<;>simp) ?_;refine bG W (acT r E) W<|r0 W<|gm U
    have k:r=0:=by
     rcases afd r with h|h
     ·exact h
     exact absurd (show(0:Int)<((eE.ae r).length:Int) by have:=eE.iF (n:=r) E;omega) g1
    refine r0 W ?_;rw[k];exact aN U ⟨G,G,G,G,⟨W,ar.of_eq<|congrArg SV.s<|by rw[cC E];simp[dp];rfl⟩,U⟩
   refine cx 1 [(3,.u<|decide (s<0)),(5,.ints .u64 false<|eE.ae (10^18)),(6,.strs true L),(7,.ints .u64 false<|eE.ae q),(9,.s<|if q=0 then decl r 1 else decl r 18)] True ?_ λ_=>?_
   ·refine bQ W W ?_ ?_<;>intro g1
    ·have l:¬q=0:=by
      intro h;rw[h]at g1;have g1:(0:Int)<((eE.ae 0).length:Int):=g1;rw[eE.dm]at g1;simp at g1
     refine r1 W ba<|JJ (us:=[.s [48],.i (18-(decl r 1).length:Nat)]) W W U ⟨W,congrArg SV.i E,U⟩ (acH _ E) W<|r1 W (by simp only[bo,and_true]<;>simp<;>omega) ?_;refine aN U ⟨G,G,G,G,⟨W,ar.of_eq<|congrArg SV.s ?_⟩,U⟩;rw[if_neg l,abN r 18 fh A]
    have l:q=0:=by
     rcases afd q with h|h
     ·exact h
     exact absurd (show(0:Int)<((eE.ae q).length:Int) by have:=eE.iF (n:=q) E;omega) g1
    refine bL W U ⟨G,G,G,G,⟨W,ar.of_eq<|congrArg SV.s<|by rw[if_pos l]⟩,U⟩
   refine r1 W (by simp only[bo,and_true,adX,aeg]<;>omega) ?_;refine again (q,L++[if q=0 then decl r 1 else decl r 18]) B ⟨by rw[<-z,j];simp,E⟩ ⟨G,G,G,G,U⟩
  have g:m=0:=by
   rcases afd m with h|h
   ·exact h
   exact absurd (show(0:Int)<((eE.ae m).length:Int) by have:=eE.iF (n:=m) E;omega) g
  subst g;rw[abo,afN]at z;subst z;have H:∀t,((if s<0 then[45]else[])++((Pa M).drop t).reverse.flatten).length<=20*K+1:=by
   intro t;have J:1<=K:=by have:=eE.iF (n:=M) d;omega
   have f:=abx hl J;rw[<-abH M d]at f;have p:(Pa M).reverse=((Pa M).drop t).reverse++((Pa M).take t).reverse:=by rw[<-List.reverse_append,agE]
   rw[p,ah0,aeP]at f;rw[aeP];have h3:(if s<0 then[45]else[]:hO).length<=1:=by split<;>simp
   omega
  have D:=acN d;have T:(Pa M).length<=2*K:=by
   have f:=abn hl;have p:M<(10^18)^(2*K):=by refine ae3 f ?_;rw[agn];exact agW fh K
   exact abT M (2*K) p
  have V:0<(Pa M).length:=by
   rcases afd (Pa M).length with h|h
   ·exact absurd (List.length_eq_zero_iff.1 h) D
   exact h
  refine rn 2 W<|acO (λb=>Bld b []) W W (zs:=#[.pointer none,.slice none 0 0]) (λw=>by simp[Instr.alloc,Tryz.zeroValue374,newVar,newRow];rfl) (λb w S h=>Bld.new b w S h) λb=>?_;refine cx 1 [(6,.strs true<|Pa M),(10,.pv (·=.pointer (some ⟨b,0,none⟩))),(1000000,.abs<|Bld b<|if s<0 then[45]else[])] True ?_ λ_=>?_
  ·refine bQ W W ?_ ?_<;>intro g1
   ·refine r0 W<|ab8 W W U (abm b [] [45] fh) (J':=Bld b [45]) (r:=.bW [.i 1,.c .nilIface]) W<|r0 W ?_;rw[if_pos g1];exact aN U ⟨G,G,W,U⟩
   refine r0 W ?_;rw[if_neg g1];exact aN U ⟨G,G,W,U⟩
  refine r1 W ba<|loop (λt:Nat=>[(6,.strs true<|Pa M),(10,.pv (·=.pointer (some ⟨b,0,none⟩))),(11,.i<|(t:Int)-1),(1000000,.abs<|Bld b<|(if s<0 then[45]else[])++((Pa M).drop t).reverse.flatten)]) (λt=>t<=(Pa M).length) (λt=>t) (Pa M).length (adp _)
   ⟨G,G,G,(by show SV.abs _=SV.abs _;rw[afU];simp),U⟩ ?_
  intro t ht;refine bQ W W ?_ ?_<;>intro g1
  ·obtain⟨t,rfl⟩:∃u,t=u+1:=⟨t-1,E⟩;have P:(((t+1:Nat):Int)-1).toNat=t:=E;refine r1 W (by simp only[bo,and_true,P];omega) ?_;rw[P];have Z:(Pa M).getD t []=(Pa M)[t]:=au E;have N:(Pa M).drop t=(Pa M)[t]::(Pa M).drop (t+1):=aeE E;have Q:((if s<0 then[45]else[])++((Pa M).drop<|t+1).reverse.flatten)++(Pa M)[t]=(if s<0 then[45]else[])++((Pa M).drop t).reverse.flatten:=by
    rw[N,List.reverse_cons,ah0,aeZ];simp only[List.flatten_cons,List.flatten_nil,afN]
   rw[Z];refine ab8 W W U (abm b _ (Pa M)[t] (by have:=H t;rw[<-Q,aeP]at this;omega)) (J':=Bld b<|((if s<0 then[45]else[])++((Pa M).drop<|t+1).reverse.flatten)++(Pa M)[t]) (r:=.bW [.i ((Pa M)[t].length:Int),.c .nilIface]) W ?_
   rw[Q];refine r1 W ba<|again t E E ⟨G,G,⟨W,ar.of_eq<|congrArg SV.i E⟩,W,U⟩
  have:t=0:=E;subst this;rw[afG,abH M d];have i:(if s<0 then[45]else[])++decl M 1=cK (nv ⟨s,some c⟩):=by
   unfold cK;rw[<-y];have R:nv ⟨s,some c⟩=s*c:=W;rw[R];rcases f with rfl|rfl
   ·rw[if_neg<|show¬(1:Int)<0 from E,if_neg<|show¬(1:Int)*c<0 from E];rfl
   rw[if_pos<|show(-1:Int)<0 from E,if_pos<|show(-1:Int)*c<0 from E];rfl
  rw[i];refine r0 W<|ab8 W W U (abz b _ (by rw[<-i];intro e;have:=congrArg List.length e;rw[aeP,cC E]at this;simp at this)) (J':=acX) (r:=.s<|cK<|nv ⟨s,some c⟩) W<|bN W W
def aby(a:Nm)(h:bj a){K:Nat}(hl:fV a K)(b:K<2^36):aM Tryz.prog 265 [eN a] (.s<|cK<|nv a):=(abV a h hl b).same (by simp only[aB,sF h]) W
def abS{f:Fr}{q:Rat}(h:gW f q):(f.d.w=none/\f.d.s=1)↔q.den=1:=by
 have a:=h.vd;have b:=h.d;obtain⟨n,d,w⟩:=f;cases w with
 |none=>have a:d=q.den:=a;simp;omega
 |some m=>have b:(d=1\/d= -1)/\9223372036854775808<=m:=b;have a:d*(m:Int)=q.den:=a;simp;rcases b.1 with rfl|rfl<;>omega
def wq{z:Int}{K:Nat}(h:(eE.ae z.natAbs).length<=K):(cK z).length<=20*(K+1)+1:=by
 have:=abx (M:=z.natAbs) (K:=K+1) E E;unfold cK;split
 ·rw[adX];omega
 omega
def acF(f:Fr){q:Rat}(h:gW f q){K:Nat}(hl:ri f K)(b:K<2^36):aM Tryz.prog 194 [eF f] (.s<|qt q):=by
 have a:=aby f.n h.n hl.1 b;have c:=aby f.d h.d hl.2 b;rw[h.vn]at a;rw[h.vd]at c;have n1:=wq (show(eE.ae q.num.natAbs).length<=K by rw[<-h.vn];exact hl.1);have e:=wq (show(eE.ae (q.den:Int).natAbs).length<=K by rw[<-h.vd];exact hl.2);refine bS Tryz.func194 W<|bP W W (EJ f h) W<|gb W ?_ ?_<;>intro g
 ·have g:=(abS h).1 g;refine bP W W a W<|bK W W<|ar.of_eq<|congrArg SV.s ?_;unfold qt uI fk;rw[if_pos g];simp
 have g:¬q.den=1:=λd=>g<|(abS h).2 d;refine bO W W a W<|r1 W (by simp only[bo,and_true,adX,aeg];omega) ?_;refine bH W c W<|k1 W aW (by simp only[bo,and_true,aeP,adX,aeg];omega) ?_;refine aE W<|ar.of_eq<|congrArg SV.s ?_;unfold qt uI fk;rw[if_neg g];have:cK (q.den:Int)=decl q.den 1:=by unfold cK;rw[if_neg E];rfl
 rw[this];simp
def ach{s:hO}(h:aL s=0):Dc (bV s) s.length:=by
 have e:=congrArg List.length<|fZ h;have d:=jY (bV s).num (bV s).den;have c:(decl (bV s).num.natAbs 1).length<=(cK (bV s).num).length:=by unfold cK;split<;>simp
 have b:1<=(decl (bV s).num.natAbs 1).length:=agy.2<|UE _ fh;have a:(decl (bV s).den 1).length<=(fk (bV s).den).length+1:=by
  unfold fk;split
  ·rename_i g;rw[g];exact eI 1 1 1 fh fh
  simp;omega
 unfold qt at e;exact⟨E,E⟩
structure MdF(f:Fr)(q:Rat):Prop where
 ok:gW f q
 sz:ri f 700
 n:q.num.natAbs<2^1800
 d:q.den<2^1800
def ab9(a:Nm)(c:bj a){K:Nat}(hl:fV a K)(f:K<2^36)(h:(nv a).natAbs<2^1800):aM Tryz.prog 244 [eN a] (.b false):=by
 have d:bl (nv a).natAbs<=1800:=by
  by_cases e:(nv a).natAbs=0
  ·rw[e];decide
  have:=af2 (xe e) h;have:=(Nat.pow_lt_pow_iff_right fh).1 this;omega
 refine bS Tryz.func244 W<|bP W W (Sd a c hl E) W<|bJ W 6 W (λg=>absurd g E) λ_=>?_;refine bN W W
def acy(f:Fr){q:Rat}(h:MdF f q):aM Tryz.prog 163 [eF f] (.b false):=by obtain⟨⟨k,j,i,g⟩,⟨e,d⟩,c,a⟩:=h;refine bS Tryz.func163 W<|bP W W (ab9 f.n k e fh<|by rw[i];exact c) W ?_;refine bP W W (ab9 f.d j d fh<|by rw[g,afQ];exact a) W ?_;refine bN W W
def abA{f:Fr}{q:Rat}(h:gW f q)(hs:ri f 700)(a:Sz q 60):MdF f q:=by
 have b:∀n:Nat,(Go.Ai.ae n).length<=60->n<2^1800:=λn hn=>by
  have g:=Go.Ai.cw n;have e:(10^9:Nat)^(Go.Ai.ae n).length<=(10^9)^60:=ae2 fh hn;have d:(10^9:Nat)^60<2^1800:=by decide +kernel
  have c:n<(10^9)^(Go.Ai.ae n).length:=Int.ofNat_lt.1 (by rw[agI];exact g);exact agq (ae3 c e) d
 exact⟨h,hs,b _ a.1,b _ a.2⟩
def abj{s:hO}(h:aL s=0)(hl:s.length<=27):Sz (bV s) 3:=⟨qO (k:=3)<|ad0 (ach h).1 hl,qO (k:=3)<|ad0 (ach h).2 hl⟩
def abQ{e:Int}(h: -80<=e/\e<=80):Sz (iK e) 3:=by
 have a:∀n:Nat,(2:Rat)^n=((2^n:Nat):Rat):=λn=>by rw[air];rfl
 have b:∀n:Nat,n<=80->2^n<1000000000000000000000000000:=λn hn=>af2 (ae2 fh hn) fh;have c:(Go.Ai.ae 1).length<=3:=jn fh;unfold iK;split
 ·have d:(0:Int)<((2^(-e).toNat:Nat):Int):=by have:=afe (n:=(-e).toNat) (show 0<2 from fh);omega
  rw[a];unfold Sz;rw[Rat.num_inv,Rat.den_inv,ahq,ahr,agp d,if_neg E,afQ];exact⟨c,jn<|b _ E⟩
 rw[a];unfold Sz;rw[ahq,ahr,afQ];exact⟨jn<|b _ E,c⟩
def x7(u:bT):SV:=.agg [.s u.kind,.bA true 2 default oX u.ah,.i u.out,.s u.k,.strs true u.dI]
def eRm(n:Int)(us:List bT)(ints:List Int):SV:=.agg [.i n,.bA true 5 default x7 us,.ints .i64 true ints,.i 0]
def rmB:Bool->SV->SV
 |true,x=>.box true (.box true x)
 |false,x=>.box true x
def rmP:Bool->Path
 |true=>[.deref]
 |false=>[]
def rmH(a:Bool)(n:Int)(C:Value->Prop)(ints:List Int):SV:=rmB a<|.agg [.i n,.pv C,.ints .i64 true ints,.i 0]
structure ad5(s:hO)(f:Fr)(q:Rat):Prop where
 c:aL s=0
 ok:gW f q
 sz:ri f 600
 m:MdF (QV (aac<|bV s) f) (bV s*q)
inductive Pl
 |start
 |acP (k:Nat)
 |ratio (k:Nat)
def Pl.p:Pl->Path
 |.start=>[.at 3 none]
 |.acP k=>[.at 4 none,.idx k 1]
 |.ratio k=>[.at 1 none,.idx k 2,.at 1 none]
def Pl.g(u:bT):Pl->hO
 |.start=>u.k
 |.acP k=>u.dI.getD k []
 |.ratio k=>(u.ah.getD k default).dZ
def Pl.s(u:bT)(t:hO):Pl->bT
 |.start=>{u with k:=t}
 |.acP k=>{u with dI:=u.dI.set k t}
 |.ratio k=>{u with ah:=u.ah.set k ⟨(u.ah.getD k default).sh,t⟩}
def Pl.ok(u:bT):Pl->Prop
 |.start=>True
 |.acP k=>k<u.dI.length/\u.dI.length<2^20
 |.ratio k=>k<u.ah.length/\u.ah.length<2^20
def ade{l:List bT}{i:Nat}{u:bT}{m:Pl}{t:hO}{x:SV}(h:o6 [x] [x7<|m.s u t]):o6 ((l.map x7).set i x) ((l.set i<|m.s u t).map x7):=by
 rw[afO];cases h with
 |cons h _=>exact o6.set (o6.refl _) h
def acZ{u:bT}{m:Pl}{t:hO}{x:SV}(h:x=match m with
 |.start=>.agg [.s u.kind,.bA true 2 default oX u.ah,.i u.out,.s t,.strs true u.dI]
 |.acP k=>.agg [.s u.kind,.bA true 2 default oX u.ah,.i u.out,.s u.k,.strs true<|u.dI.set k t]
 |.ratio k=>.agg [.s u.kind,.row true 2 ((u.ah.map oX).set k<|.agg [.i (u.ah.getD k default).sh,.s t]),.i u.out,.s u.k,.strs true u.dI]):o6 [x] [x7<|m.s u t]:=by
 subst h;cases m with
 |start=>exact o6.refl _
 |acP k=>exact o6.refl _
 |ratio k=>refine .cons (.agg<|.cons (.refl _)<|.cons (.row ?_)<|o6.refl _) .nil;show o6 _ (List.map oX<|List.set _ _ _);rw[afO];exact o6.refl _
def aet(a:Bool)(n:Int)(C:Value->Prop)(ints:List Int)(us:List bT)(i:Nat)(hi:i<us.length)(hl:us.length<2^20)(m:Pl)(hm:m.ok (us.getD i default))(f:Fr)(q:Rat)(h:ad5 (m.g<|us.getD i default) f q):
 lp Tryz.prog 111 [rmH a n C ints,.bA true 5 default x7 us] [.bC 1000000 0 0 (rmP a),.ptr 1000001 0 0 (.idx i 5::m.p),eF f]
  [rmH a n C ints,.bA true 5 default x7<|us.set i<|m.s (us.getD i default)<|qt<|bV (m.g<|us.getD i default)*q] (.bW []):=by
 cases a<;>cases m<;>try(obtain⟨m1,b⟩:=hm)
 all_goals
  refine sE (fn:=Tryz.f111) Tryz.func111 W W W W W<|r1 W ba<|bH W (qG h.c) W<|bO W W (Ch _ _ (dP _) h.ok (fQ h.c) h.sz fh) W<|k0 W aW<|bG W (acy _ h.m) W<|bP W W (acF _ h.m.ok h.m.sz fh) W<|r1 W ba ?_
  first
   |exact SN [(1000000,rmH false n C ints),(1000001,.bA true 5 default x7<|us.set i<|Pl.s (us.getD i default) _ _)] ⟨⟨rfl,rfl,.refl _⟩,⟨rfl,rfl,.row<|ade<|acZ rfl⟩,U⟩ rfl U ⟨⟨rfl,rfl⟩,⟨rfl,rfl⟩,U⟩
   |exact SN [(1000000,rmH true n C ints),(1000001,.bA true 5 default x7<|us.set i<|Pl.s (us.getD i default) _ _)] ⟨⟨rfl,rfl,.refl _⟩,⟨rfl,rfl,.row<|ade<|acZ rfl⟩,U⟩ rfl U ⟨⟨rfl,rfl⟩,⟨rfl,rfl⟩,U⟩
def adQ(n:Int)(ints:List Int)(us:List bT)(i:Nat)(hi:i<us.length)(hl:us.length<2^20)(k:Nat)(hm:(Pl.ratio k).ok (us.getD i default))(f:Fr)(q:Rat)(h:ad5 ((Pl.ratio k).g<|us.getD i default) f q):
 lp Tryz.prog 111 [.box true<|.box true<|eRm n us ints] [.bC 1000000 0 0 [.deref],.ptr 1000000 0 0 [.deref,.deref,.at 0 (some 3),.at 1 none,.idx i 5,.at 1 none,.idx k 2,.at 1 none],eF f]
  [.box true<|.box true<|eRm n (us.set i<|(Pl.ratio k).s (us.getD i default)<|qt<|bV ((Pl.ratio k).g<|us.getD i default)*q) ints] (.bW []):=by
 obtain⟨m1,a⟩:=hm;refine sE (fn:=Tryz.f111) Tryz.func111 W W W W W<|r1 W ba<|bH W (qG h.c) W<|bO W W (Ch _ _ (dP _) h.ok (fQ h.c) h.sz fh) W<|k0 W aW<|bG W (acy _ h.m) W<|bP W W (acF _ h.m.ok h.m.sz fh) W<|r1 W ba<|SN [(1000000,.box true<|.box true<|eRm n (us.set i<|(Pl.ratio k).s (us.getD i default) _) ints)] ⟨⟨W,W,.box<|.box<|.agg<|.cons (.refl _)<|.cons (.row<|ade<|acZ W)<|o6.refl _⟩,U⟩ W U ⟨G,U⟩
end Go.Ai.Pg
namespace Go.Ai
open Go.Proofs Go.RowKit
section
variable{R:Option Nat->Prop}{P:Program}{N:Nat}{F:St->Prop}{k:List It}
def isB(v:Value):Prop:=∃b,v=.bool b
def eq_nil{o:Oper}{t rt e:TypeId}{x:Operand}{y:SV}{sz:Nat}{X:List AV}(cm:o.op=.binOp .eql t x (.const<|.slice none 0 0) rt)(hu:P.underlying t=some (.slice e))(j:y.den=.list .shr sz X)(d:y.aG=true)(c:y.plain=true):
 mE P o [] [y,.nil] [] (.pv isB):=by
 refine tj (by simp[gE,d];rfl) (by simp[tb,c];rfl) I ?_;intro w S q l hc n a;obtain⟨v,s,C,B,rfl,u,_,g,p,r,A,z,rfl,m,_,b,rfl,rfl⟩:=hc;simp[SV.den,Rel]at b;obtain⟨rfl,-⟩:=b;rw[j]at g;obtain⟨i,f,rfl,-⟩:=g.jX;rw[cm]at a;simp[Op.operands,and_true]at a;refine⟨_,.bool i.isNone,w,?_,.inl W,S,[],Below.refl _ _,λ_ h=>h,λ_ h=>.inl h,l,by simp[SV.den,Rel,isB],ae5,I⟩;have he:=Cw 9999 hu i X.length f w;simp[execOp,cm,a,eqGuard_at_slice,binOp,Op.equal,Op.maxDepth,he]
def adS{c:Code}{K:List (Nat×SV)}{j:Nat}(A:BF K=true)(h:∀b:Bool,AK R P N F (.code c::k)<|sl<|(j,.u<|decide (b=true))::K):AK R P N F (.code c::k) (sl<|(j,.pv isB)::K):=by
 intro V q s a w x hi;have o:∀y:SV,y.plain=true->∀i,(dn (sl<|(j,y)::K) i).av.plain=true:=λy l=>rW (K:=(j,y)::K) (by simp[BF,l,A];rfl);have f:∀y:SV,(dn (sl<|(j,y)::K) j).av=y.den:=λy=>by simp[sl,fR,iI,Cl.den]
 have e:∀(y:SV)i,i≠j->(dn (sl<|(j,y)::K) i).av=(dn (sl K) i).av:=λy i h=>by simp[sl,fR,iI,h]
 obtain⟨S,D,hc,z,p,n,m,t⟩:=hi;have g:∀y:SV,y.plain=true->Rel w S y.den (tv V a j) []->Inv N V q s (dn<|sl<|(j,y)::K) a w:=by
  intro y l d;refine⟨S,λi=>if i=j then[]else D i,⟨λi=>?_,λi=>?_,λi r h b=>?_,λi b=>?_,hc.shr⟩,z,p,n,m,t⟩
  ·rw[an.aA<|o y l i];by_cases h:i=j
   ·subst h;rw[f];simpa using d
   have:=(an.aA<|o _ W i).1<|hc.rel i;rw[e _ i h]at this;rw[e y i h];simpa[h]using this
  ·by_cases h:i=j
   ·simp[h]
   simpa[h]using hc.nodup i
  ·by_cases C:i=j<;>by_cases B:r=j<;>simp[C,B];exact hc.du i r h b
  by_cases h:i=j<;>simp[h];exact hc.own i b
 have d:=(an.aA<|o _ W j).1<|hc.rel j;rw[f]at d;simp only[SV.den,Rel]at d;obtain⟨⟨b,v⟩,-⟩:=d;exact h b V q s a w x<|g (.u _) W<|by rw[v];simp[SV.den,Rel,scalar]
end
end Go.Ai
namespace Go.Ai.Pg
open Go.Proofs Go.Ai Go.Ai.eE
def aeq(l:List hO)(hl:l.length<2^40):aM Tryz.prog 193 [.strs false l] (.strs true l):=by
 refine bS Tryz.func193 W ?_;cases l with
 |cons x l=>refine r1 W (by simp only[adX]at hl;simp[bo,len];omega) ?_;exact bF W
 |nil=>
  refine Z0 8 W aW U<|ex W W W (eq_nil W Tryz.underlying48 W W W) W<|r0 W<|Yp [(4,.pv isB),(0,.strs false [])] ⟨G,G,U⟩<|adS (K:=[(0,.strs false [])]) W λb=>?_;refine gb W ?_ ?_<;>intro g
  ·refine bK W W (show ar .nil (.strs true [])from W)
  refine r1 W (by simp[bo,len])<|bF W
def aes(l:List Hi)(hl:l.length<2^40):aM Tryz.prog 192 [.bA false 2 default oX l] (.bA true 2 default oX l):=by
 refine bS Tryz.func192 W ?_;cases l with
 |cons x l=>refine r1 W (by simp only[adX]at hl;simp[bo,len];and_intros<;>first|omega|exactλ_=>rfl) ?_;exact bF W
 |nil=>
  refine Z0 8 W aW U<|ex W W W (eq_nil W Tryz.underlying46 W W W) W<|r0 W<|Yp [(4,.pv isB),(0,.bA false 2 default oX [])] ⟨G,G,U⟩<|adS (K:=[(0,.bA false 2 default oX [])]) W λb=>?_;refine gb W ?_ ?_<;>intro g
  ·refine bK W W (show ar .nil (.bA true 2 default oX [])from W)
  refine r1 W (by simp[bo,len];exact⟨λ_=>rfl,λ_=>rfl⟩) ?_;exact bF W
def aer(l:List Int)(hl:l.length<2^40):aM Tryz.prog 63 [.ints .i64 false l] (.ints .i64 true l):=by
 refine bS Tryz.func63 W ?_;cases l with
 |cons x l=>refine r1 W (by simp only[adX]at hl;simp[bo,len];omega) ?_;exact bF W
 |nil=>
  refine Z0 8 W aW U<|ex W W W (eq_nil W Tryz.underlying23 W W W) W<|r0 W<|Yp [(4,.pv isB),(0,.ints .i64 false [])] ⟨G,G,U⟩<|adS (K:=[(0,.ints .i64 false [])]) W λb=>?_;refine gb W ?_ ?_<;>intro g
  ·refine bK W W (show ar .nil (.ints .i64 true [])from W)
  refine r1 W (by simp[bo,len])<|bF W
def adN(p:gV)(hu:p.aa.length<2^20)(hi:p.ints.length<2^40)(b:∀u∈p.aa,u.ah.length<2^40/\u.dI.length<2^40):aM Tryz.prog 110 [bh p] (.box true<|eRm p.n p.aa p.ints):=by
 refine bS Tryz.func110 W<|bO W W (aer p.ints hi) W<|k0 W aW<|EI [(3,.bC 13 0 0 []),(13,.box true<|eRm p.n [] p.ints),(15,.bA false 5 default dQ p.aa),(16,.i p.aa.length),(17,.i 0)]
  ⟨kL,⟨W,W,.box<|.agg<|.cons (.refl _)<|.cons (.le<|show ar .nil (.bA true 5 default x7 [])from W)<|o6.refl _⟩,⟨W,W,.refl _⟩,⟨W,W,.refl _⟩,⟨W,W,.refl _⟩,U⟩<|ra (λi:Nat=>[(3,.bC 13 0 0 []),(13,.box true<|eRm p.n (p.aa.take i) p.ints),(15,.bA false 5 default dQ p.aa),(16,.i p.aa.length),(17,.i i)]) (λi=>i<=p.aa.length) (λi=>p.aa.length-i) 0 (adk _) ?_
 intro i hi;refine bQ W W ?_ ?_<;>intro h
 ·have a:i<p.aa.length:=E;have f:(i:Int).toNat=i:=E;obtain⟨e,c⟩:=b _<|bw (d:=default) a;refine r1 W ba ?_;rw[f];refine bH W (aes _ e) W<|bO W W (aeq _ c) W<|Z0 12 W aW U<|Y9 W W W (mE.same (Yk (P:=Tryz.prog) (y:=x7<|p.aa.getD i default) (ti:=tiU) W W W W) W W W W) W<|k1 W aW (by simp[bo,len];omega) ?_;refine vf (i+1) E E ⟨kL,⟨W,W,.box<|.agg<|.cons (.refl _)<|.cons (.row ?_)<|o6.refl _⟩,⟨W,W,.refl _⟩,⟨W,W,.refl _⟩,⟨W,W,.refl _⟩,U⟩;rw[cX,aey a,aeY,au a];exact o6.refl _
 have:p.aa.take i=p.aa:=adM E;rw[this];refine bN W W
noncomputable def adh(s:hO):Int:=aK id [aL s,if s=[48]then 6 else 0]
noncomputable def ac9(n:Int)(c:List hO):Int:=if(c.length:Int)≠n then 2 else if aK adh c≠0 then aK adh c else if c.getD 0 []≠[49]then 3 else 0
def adb(p:gV)(c:List hO)(hc:∀s∈c,ct s)(hl:c.length<2^60)(k:1<=p.n):aM Tryz.prog 108 [bh p,.strs false c] (.i<|ac9 p.n c):=by
 refine bS Tryz.func108 W<|bQ W W ?_ ?_<;>intro g
 ·refine bK W W<|ar.of_eq<|congrArg SV.i<|by unfold ac9;rw[if_pos g]
 have g:(c.length:Int)=p.n:=E;have j:ac9 p.n c=if aK adh c≠0 then aK adh c else if c.getD 0 []≠[49]then 3 else 0:=by unfold ac9;rw[if_neg E]
 rw[j];refine r0 W<|ra (λi:Nat=>[(1,.strs false c),(13,.strs false c),(14,.i c.length),(15,.i i)]) (λi=>i<=c.length/\aK adh c=aK adh (c.drop i)) (λi=>c.length-i) 0 ⟨adk _,W⟩ ?_;rintro i⟨hi,b⟩;refine bQ W W ?_ ?_<;>intro h
 ·have a:i<c.length:=E;have e:(i:Int).toNat=i:=E;rw[dA _ a]at b;have f:c.getD i []=c[i]:=au a;refine r1 W ba ?_;rw[e,f];refine bG W (wW c[i]<|hc _<|adC a) W<|bP W W (SX (decide (c[i]=[48])) 6) W<|bP W W (RG [aL c[i],if decide (c[i]=[48])then 6 else 0]<|show 2<2^60 from fh) W ?_;rw[show aK id [aL c[i],if decide (c[i]=[48])then 6 else 0]=adh c[i] by unfold adh;simp];refine bQ W W ?_ ?_<;>intro d
  ·refine bK W W<|ar.of_eq<|congrArg SV.i<|by rw[b,if_pos d,if_pos d]
  refine r1 W (by simp[bo,and_true];omega) ?_;refine gS (i+1) ⟨E,?_⟩;rw[b,if_neg d]
 rw[afo E]at b;rw[if_neg<|by rw[b];exactλh=>h W];refine r1 W (by simp only[bo,and_true];omega) ?_;refine bG W (SX (decide (c.getD 0 []≠[49])) 3) W<|bK W W<|ar.of_eq<|congrArg SV.i (by by_cases q:c.getD 0 []=[49]<;>simp_all)
noncomputable def adw(c:List hO)(i:Nat):List Fr:=(c.map λs=>aac<|bV s).take i++List.replicate (c.length-i) ⟨⟨0,none⟩,⟨0,none⟩⟩
def aeo(c:List hO)(i:Nat)(hi:i<c.length):(adw c i).set i (aac<|bV c[i])=adw c (i+1):=by unfold adw;obtain⟨m,hm⟩:∃m,c.length-i=m+1:=⟨c.length-i-1,E⟩;rw[hm,show c.length-(i+1)=m from E,agR,aif _ _<|by simp;omega];rw[aey<|by simpa using hi];simp[af3<|ago hi]
def ad7(c:List hO)(hc:∀s∈c,aL s=0)(hl:c.length<2^40):aM Tryz.prog 109 [.strs false c] (.bA true 4 f0 eF<|c.map λs=>aac<|bV s):=by
 refine bS Tryz.func109 W<|r1 W ba<|EI [(3,.bA true 4 f0 eF<|adw c 0),(9,.strs false c),(10,.i c.length),(11,.i 0)] ⟨⟨W,W,.row (by unfold adw;simp only[ahp,afS,ahm,ahf,afk];exact o6.rep (.agg<|.cons (.refl _)<|.cons (.le<|show ar .nil (.fv .u64 [])from W)<|.cons (.refl _)<|.cons (.le<|show ar .nil (.fv .u64 [])from W) .nil) c.length)⟩,⟨W,W,.refl _⟩,⟨W,W,.refl _⟩,⟨W,W,.refl _⟩,U⟩<|ra (λi:Nat=>[(3,.bA true 4 f0 eF<|adw c i),(9,.strs false c),(10,.i c.length),(11,.i i)]) (λi=>i<=c.length) (λi=>c.length-i) 0 (adk _) ?_
 intro i hi;have d:(adw c i).length=c.length:=by unfold adw;simp;omega
 refine bQ W W ?_ ?_<;>intro h
 ·have a:i<c.length:=E;have b:(i:Int).toNat=i:=E;have e:c.getD i []=c[i]:=au a;refine r1 W ba ?_;rw[b,e];refine bG W (qG<|hc _<|adC a) W<|r1 W ba<|vf (i+1) E E ⟨⟨W,W,.row ?_⟩,⟨W,W,.refl _⟩,⟨W,W,.refl _⟩,⟨W,W,.refl _⟩,U⟩;show o6 ((List.map eF<|adw c i).set (i:Int).toNat<|eF<|aac<|bV c[i]) _;rw[b,<-afO,aeo c i a];exact o6.refl _
 have:adw c i=c.map λs=>aac (bV s):=by unfold adw;rw[adM<|by simp;omega,Nat.sub_eq_zero_of_le E];simp
 rw[this];refine bN W W
def RL{α:Type}(f:Nat->α->α)(l:List α)(j:Nat):List α:=l.mapIdx λk x=>if k<j then f k x else x
section
variable{α:Type}(f:Nat->α->α)(l:List α)(j:Nat)(d:α)
def x9:(RL f l j).length=l.length:=by simp[RL]
def abC:RL f l 0=l:=by apply afz (by simp[RL]);intro i b a;simp[RL]
def KL{k:Nat}(h:j<=k):(RL f l j).getD k d=l.getD k d:=by have:¬k<j:=E;simp[adY,RL,this]
def acE(h:j<l.length):(RL f l j).set j (f j<|l.getD j d)=RL f l (j+1):=by
 rw[au h];apply afz (by simp[RL]);intro i b a;rw[List.getElem_set];simp only[RL,agv];split
 ·rename_i e;subst e;simp
 split<;>split<;>first|rfl|omega
def acY:RL f l l.length=l.mapIdx f:=by apply afz (by simp[RL]);intro i a b;simp[RL]at a⊢;omega
def ac7(h:j<l.length):(RL f l j).set j (l.getD j d)=RL f l j:=by have:=KL f l j d<|adp j;rw[<-this,au<|by rw[x9];exact h];exact List.set_getElem_self _
end
def aeH{α:Type}{a:List α}{i:Nat}(hi:i<a.length)(d x:α):(a.set i x).getD i d=x:=by rw[au<|by simpa using hi];simp
def adl{n:Int}{u:bT}(a:iQ n u)(h:u.kind=bq):2<=u.ah.length:=by have:=a.Bj;unfold jT Dh at this;rw[if_pos h]at this;omega
noncomputable def vQ(c:List hO)(i:Int):Rat:=bV<|c.getD i.toNat []
noncomputable def ac0(c:List hO)(u:bT)(k:Nat)(f:Hi):Rat:=if u.kind=bq then if k=0 then vQ c u.out/vQ c f.sh/vQ c (u.ah.getD 1 default).sh else 1 else if u.kind=jz then vQ c u.out/vQ c f.sh else(vQ c f.sh)⁻¹
noncomputable def aeA(c:List hO)(u:bT)(k:Nat)(f:Hi):Hi:=⟨f.sh,qt<|bV f.dZ*ac0 c u k f⟩
noncomputable def aeS(c:List hO)(u:bT)(_:Nat)(s:hO):hO:=qt<|bV s*vQ c u.out
noncomputable def x8(c:List hO)(u:bT)(a b:Nat):bT:=⟨u.kind,RL (aeA c u) u.ah b,u.out,qt<|bV u.k*vQ c u.out,RL (aeS c u) u.dI a⟩
noncomputable def scU(c:List hO)(_:Nat)(u:bT):bT:=⟨u.kind,u.ah.mapIdx<|aeA c u,u.out,qt<|bV u.k*vQ c u.out,u.dI.mapIdx<|aeS c u⟩
noncomputable def scP(c:List hO)(p:gV):gV:=⟨p.n,p.aa.mapIdx<|scU c,p.ints⟩
def adJ(c:List hO)(u:bT):x8 c u u.dI.length u.ah.length=scU c 0 u:=by unfold x8 scU;rw[acY,acY]
def aen{s:hO}(h:aL s=0)(hl:s.length<=14):ri (aac<|bV s) 14:=RA ⟨ad0 (ach h).1 hl,ad0 (ach h).2 hl⟩ fh
structure adP(n:Int)(c:List hO):Prop where
 len:(c.length:Int)=n
 ck:∀s∈c,aL s=0/\bV s≠0
 l:∀s∈c,s.length<=14
def adx{n:Int}{c:List hO}(h:ac9 n c=0)(hl:∀s∈c,s.length<=14):adP n c:=by
 unfold ac9 at h;split at h
 ·cases h
 rename_i i;split at h
 ·rename_i a;exact absurd h a
 rename_i a;refine⟨E,λs hs=>?_,hl⟩;have g:=dK.1 (afI.1 a) _ hs;unfold adh at g;simp only[aK,id]at g;have b:aL s=0:=by
  by_cases e:aL s=0
  ·exact e
  simp_all
 refine⟨b,λe=>?_⟩;have:=fZ b;rw[e,AL]at this;subst this;simp_all
section
variable{n:Int}{c:List hO}(h:adP n c)
include h
theorem adP.at{i:Int}(h0:0<=i)(h1:i<n):c.getD i.toNat []∈c/\aL (c.getD i.toNat [])=0/\vQ c i≠0/\(c.getD i.toNat []).length<=14/\i.toNat<c.length:=by have:=h.len;have hm:c.getD i.toNat []∈c:=bw E;exact⟨hm,(h.ck _ hm).1,(h.ck _ hm).2,h.l _ hm,E⟩
def adP.fr{i:Int}(g:0<=i)(e:i<n):(c.map λs=>aac<|bV s).getD i.toNat f0=aac (vQ c i)/\ri (aac<|vQ c i) 14/\Sz (vQ c i) 3:=by obtain⟨-,b,-,k,a⟩:=h.at g e;refine⟨?_,aen b k,abj b E⟩;rw[au<|by simpa using a,aii];unfold vQ;rw[au a]
end
def ac8{s:hO}(h:aL s=0)(hl:s.length<=14){f:Fr}{q:Rat}(a:gW f q)(hs:ri f 600)(e:Sz q 50):ad5 s f q:=by obtain⟨m1,b⟩:=tg (aac<|bV s) f (dP _) a (aen h hl) hs;exact⟨h,a,hs,abA m1 (Ja b fh)<|((abj h E).mul e).mono fh⟩
def ad4{n:Int}{c:List hO}(hc:adP n c){u:bT}(a:iQ n u){k:Nat}(p:k<u.ah.length):Sz (ac0 c u k<|u.ah.getD k default) 50:=by
 obtain⟨s,o⟩:=a.out;obtain⟨r,q,-⟩:=a.feed _<|bw (d:=(default:Hi)) p;obtain⟨-,-,g⟩:=hc.fr (i:=u.out) E o;obtain⟨-,-,b⟩:=hc.fr r q;unfold ac0;split
 ·split
  ·have t:=adl a ‹_›;obtain⟨g1,g2,-⟩:=a.feed _<|bw (d:=(default:Hi))<|show 1<u.ah.length from E;obtain⟨-,-,m⟩:=hc.fr g1 g2;exact((g.div b).div m).mono fh
  exact(abQ (e:=0) fh).mono fh
 split
 ·exact(g.div b).mono fh
 exact b.inv.mono fh
def ado(f g:Fr){p q:Rat}(k:gW f p)(i:gW g q)(m:q≠0){K L:Nat}(b:ri f K)(a:ri g L):gW (QV f<|WU g) (p/q)/\ri (QV f<|WU g) (K+L):=by obtain⟨i1,e⟩:=OQ g i m a;rw[ahi];exact tg f _ k i1 b e
def ad3(n:Int)(us:List bT)(ints:List Int):aM Tryz.prog 113 [.box false<|.agg [.i n,.bA false 5 default dQ us,.ints .i64 false ints,.i 0]] (.bW [bh ⟨n,us,ints⟩,.i 0]):=by refine bS Tryz.func113 W<|bQ W W (λg=>absurd W g) λ_=>?_;refine bN W W
noncomputable def scE(p:gV)(c:List hO):Int:=if dT p≠0 then dT p else ac9 p.n c
section
variable(p:gV)(hp:rA p)(c:List hO)(hc:∀s∈c,s.length<=14)(hl:c.length<2^40)
include hp hc hl
theorem adT(h:scE p c≠0):aM Tryz.prog 40 [bh p,.strs false c] (.bW [.agg [.i 0,.nil,.nil],.i<|scE p c]):=by
 have hcp:=zX p hp;unfold scE at*;refine bS Tryz.func40 W<|bP W W hcp W<|bQ W W ?_ ?_<;>intro g
 ·refine bK W W<|ar.of_eq<|by rw[if_pos g];rfl
 rw[if_neg g]at h⊢;refine bP W W (adb p c (λs hs=>by have:=hc s hs;unfold ct;omega) E (Og<|afI.1 g).1) W ?_;refine bQ W W (λ_=>?_) λg=>absurd h g;refine bN W W
end
section
variable(c:List hO)(u:bT)(a b:Nat)
def adH:(Pl.start).s u (qt<|bV u.k*vQ c u.out)=x8 c u 0 0:=by unfold x8;rw[abC,abC];rfl
def adB(h:a<u.dI.length):(Pl.acP a).s (x8 c u a b) (qt<|bV ((Pl.acP a).g<|x8 c u a b)*vQ c u.out)=x8 c u (a+1) b:=by unfold x8 Pl.s Pl.g;dsimp only;rw[KL _ _ _ _<|adp a,<-acE _ _ _ [] h];rfl
def adf(h:b<u.ah.length):(Pl.ratio b).s (x8 c u a b) (qt<|bV ((Pl.ratio b).g<|x8 c u a b)*ac0 c u b (u.ah.getD b default))=x8 c u a (b+1):=by unfold x8 Pl.s Pl.g;dsimp only;rw[KL _ _ _ _<|adp b,<-acE _ _ _ default h];rfl
def adI(h:b<u.ah.length)(d:aL (u.ah.getD b default).dZ=0)(e:ac0 c u b (u.ah.getD b default)=1):x8 c u a (b+1)=x8 c u a b:=by unfold x8;rw[<-acE _ _ _ default h,show aeA c u b (u.ah.getD b default)=u.ah.getD b default by unfold aeA;rw[e,agt,fZ d],ac7 _ _ _ _ h]
end
def adi(d:Bool)(n:Int)(C:Value->Prop)(ints:List Int)(us:List bT)(i:Nat)(hi:i<us.length)(hl:us.length<2^20)(u:bT)(m:Pl)(hm:m.ok u)(f:Fr)(q:Rat)(h:ad5 (m.g u) f q):
 lp Tryz.prog 111 [rmH d n C ints,.bA true 5 default x7<|us.set i u] [.bC 1000000 0 0 (rmP d),.ptr 1000001 0 0 (.idx i 5::m.p),eF f]
  [rmH d n C ints,.bA true 5 default x7<|us.set i<|m.s u<|qt<|bV (m.g u)*q] (.bW []):=by
 have e:(us.set i u).getD i default=u:=by rw[au<|by simpa using hi];simp
 have:=aet d n C ints (us.set i u) i (by simpa using hi) (by simpa using hl) m (by rw[e];exact hm) f q (by rw[e];exact h);rwa[e,List.set_set]at this
def sK(p:gV)(d:List Fr)(i:Nat):List (Nat×SV):=[(4,.box true<|.agg [.i 0,.nil,.nil]),(8,.bA false 4 f0 eF d),(38,.i p.aa.length),(39,.i i)]
def sH(p:gV)(C:Value->Prop)(e:List bT)(i:Nat)(x:bT)(f:Fr)(d:List Fr):List (Nat×SV):=(1000001,.bC 1000000 0 0 [])::(1000000,.bA true 5 default x7<|e.set i x)::(11,.ptr 1000000 0 0 [.idx i 5])::(9,rmH false p.n C p.ints)::(12,.box true<|eF f)::sK p d i
def ad8(p:gV)(hp:rA p)(h0:dT p=0)(hl:p.aa.all nB=true)(c:List hO)(hc:adP p.n c)(hf:ac9 p.n c=0):aM Tryz.prog 40 [bh p,.strs false c] (.bW [bh<|scP c p,.i 0]):=by
 have R:=zX p hp;rw[h0]at R;obtain⟨n1,n2,n3,hv⟩:=Og h0;have E2:=hc.len;have S:=adb p c (λs hs=>by have:=hc.l s hs;unfold ct;omega) E n1;rw[hf]at S;rw[aeI]at hl;have Q:∀u∈p.aa,u.ah.length<=12/\u.dI.length<=20:=λu hu=>by have:=hl u hu;unfold nB at this;simp at this;exact⟨this.1.2.1,this.1.2.2.1⟩
 refine bS Tryz.func40 W<|bP W W R W<|bQ W W (λg=>absurd W g) λ_=>?_;refine bP W W S W<|bQ W W (λg=>absurd W g) λ_=>?_;refine bP W W ((ad7 c (λs hs=>(hc.ck s hs).1) E).shr.same (q:=.bA false 4 f0 eF<|c.map λs=>aac<|bV s) W W) W<|bP W W (adN p E hp.ints λu hu=>by have:=Q u hu;omega) W ?_;refine r0 W<|aeR (d:=9) W W W W U W U ?_;obtain⟨B,o⟩:∃B,B=c.map λs=>aac (bV s):=⟨_,W⟩;rw[<-o];have t:B.length=c.length:=by rw[o];simp
 refine EI ((9,.box true<|eRm p.n (RL (scU c) p.aa 0) p.ints)::sK p B 0) (by rw[abC];exact⟨⟨W,W,.refl _⟩,⟨W,W,.refl _⟩,⟨W,W,.refl _⟩,⟨W,W,.refl _⟩,⟨W,W,.refl _⟩,U⟩) ?_;refine ra (λi:Nat=>(9,.box true<|eRm p.n (RL (scU c) p.aa i) p.ints)::sK p B i) (λi=>i<=p.aa.length) (λi=>p.aa.length-i) 0 (adk _) ?_;intro i hi;refine bQ W W ?_ ?_<;>intro g
 ·have z:i<p.aa.length:=E;have ei:(i:Int).toNat=i:=E;have hm:=bw (d:=default) z;obtain⟨u,hu⟩:∃u,u=p.aa.getD i default:=⟨_,W⟩;rw[<-hu]at hm;obtain⟨z1,z2⟩:=Q u hm;have F:=hv u hm;obtain⟨o1,o2⟩:=F.out;have e0:=ac7 (scU c) p.aa i default z;rw[<-hu]at e0;rw[<-e0];obtain⟨k,J⟩:∃k,k=RL (scU c) p.aa i:=⟨_,W⟩;rw[<-J]at e0⊢;have E1:k.length=p.aa.length:=by rw[J,x9]
  have j:∀x,(k.set i x).length=p.aa.length:=λx=>by rw[ad2,E1]
  have hW:∀x,(k.set i x).getD i default=x:=λx=>by rw[au<|by rw[j];exact z];simp
  have L:=hl u hm;unfold nB at L;simp only[adD,aeI,decide_eq_true_eq]at L;obtain⟨⟨-,-,-,l1⟩,l2,l3⟩:=L;obtain⟨a1,a2,a3,a4,a5⟩:=hc.at (i:=u.out) E o2;obtain⟨b1,N,b3⟩:=hc.fr (i:=u.out) E o2;rw[<-o]at b1;refine Z0 19 W aW (by simp only[bo,and_true,j]<;>omega) ?_;refine ad1 (r:=9) (p0:=11) (v:=.box true<|eRm p.n (k.set i u) p.ints) (q:=[.deref,.at 0 (some 3),.at 1 none]++.idx i 5::[]) (K:=(sK p B i)) W W W W (by simp only[bo,and_true,j]<;>omega) ⟨⟨W,W,.refl _⟩,⟨W,W,.refl _⟩,⟨W,W,.refl _⟩,⟨W,W,.refl _⟩,⟨W,W,.refl _⟩,U⟩ ?_;refine TC (Z:=1000000) (h:=1000001) (y:=.bA true 5 default x7<|k.set i u) (y2:=.bA true 5 default x7<|k.set i<|scU c i u) (v1:=λC=>rmH false p.n C p.ints) (v2:=λC=>rmH false p.n C p.ints) (v3:=.box true<|eRm p.n (k.set i<|scU c i u) p.ints) (K2:=(sK p B i))
   ⟨fh,fh,fh,fh,fh,fh,fh,fh,fh⟩ W W W (λ_=>rfl) W W (λ_=>rfl) W (by simp only[bo,and_true,j]<;>omega) (λ_=>rfl) W (λ_=>rfl) W (λC=>?_) ?_
  ·refine k1 W aW (by simp only[bo,and_true,j,hW,t]<;>omega) ?_;rw[hW,b1];refine ZL W W ((adi false p.n C p.ints k i E E u .start U _ _<|ac8 F.k l1 (dP _) (Ja N fh)<|b3.mono fh).same W W W W) W ?_;rw[show(Pl.start).s u (qt<|bV ((Pl.start).g u)*vQ c u.out)=x8 c u 0 0 from adH c u];have B0:(x8 c u 0 0).dI.length=u.dI.length:=x9 _ _ _;refine k1 W aW (by simp only[bo,and_true,j]<;>omega) ?_;rw[hW,B0];refine ra (λa:Nat=>(66,.i u.dI.length)::(67,.i a)::sH p C k i (x8 c u a 0) (aac<|vQ c u.out) B) (λa=>a<=u.dI.length) (λa=>u.dI.length-a) 0 (adk _) ?_;intro a ha;refine bQ W W ?_ ?_<;>intro g
   ·have T:a<u.dI.length:=E;have D:(Pl.acP a).g (x8 c u a 0)=u.dI.getD a []:=KL _ _ _ _<|adp a;have O:=bw (d:=([]:hO)) T;have Y:(x8 c u a 0).dI.length=u.dI.length:=x9 _ _ _;refine r1 W (by simp only[bo,and_true,j,hW,Y]<;>omega) ?_;refine ZL W W ((adi false p.n C p.ints k i E E (x8 c u a 0) (.acP a) ⟨E,E⟩ _ _<|by rw[D];exact ac8 (F.dI _ O) (l3 _ O) (dP _) (Ja N fh)<|b3.mono fh).same W W W W) W ?_;rw[adB c u a 0 T];refine II W<|gS (a+1) E
   have eA:a=u.dI.length:=E;subst eA;have A0:(x8 c u u.dI.length 0).ah.length=u.ah.length:=x9 _ _ _;refine r1 W (by simp only[bo,and_true,j]<;>omega) ?_;rw[hW,A0];refine ra (λb:Nat=>(84,.i u.ah.length)::(85,.i b)::sH p C k i (x8 c u u.dI.length b) (aac<|vQ c u.out) B) (λb=>b<=u.ah.length) (λb=>u.ah.length-b) 0 (adk _) ?_;intro b hb;refine bQ W W ?_ ?_<;>intro g
   ·have A:b<u.ah.length:=E;have eb:(b:Int).toNat=b:=E;have P:=bw (d:=(default:Hi)) A;obtain⟨f1,f2,f3,-⟩:=F.feed _ P;have D:(x8 c u u.dI.length b).ah.getD b default=u.ah.getD b default:=KL _ _ _ _<|adp b;have m:(x8 c u u.dI.length b).ah.length=u.ah.length:=x9 _ _ _;have hT:∀f,gW f (ac0 c u b<|u.ah.getD b default)->ri f 600->lp Tryz.prog 111 [rmH false p.n C p.ints,.bA true 5 default x7<|k.set i<|x8 c u u.dI.length b] [.bC 1000000 0 0 [],.ptr 1000001 0 0 [.idx i 5,.at 1 none,.idx b 2,.at 1 none],eF f]
     [rmH false p.n C p.ints,.bA true 5 default x7<|k.set i<|x8 c u u.dI.length<|b+1] (.bW []):=λf h1 h2=>by
     rw[<-adf c u u.dI.length b A];exact adi false p.n C p.ints k i E E (x8 c u u.dI.length b) (.ratio b) ⟨E,E⟩ _ _ (by rw[show(Pl.ratio b).g (x8 c u u.dI.length b)=(u.ah.getD b default).dZ from congrArg Hi.dZ D];exact ac8 f3 (l2 _ P) h1 h2<|ad4 hc F A)
    obtain⟨c1,c2,c3,c4,c5⟩:=hc.at f1 f2;obtain⟨X,M,d3⟩:=hc.fr f1 f2;rw[<-o]at X;refine r1 W (by simp only[bo,and_true,j,hW,m]<;>omega) ?_;rw[hW];refine aC 100 W ?_ ?_<;>intro l
    ·have l:u.kind=bq:=l;refine bQ W W ?_ ?_<;>intro k2
     ·have D1:b=0:=E;have h2:=adl F l;obtain⟨g1,g2,-⟩:=F.feed _<|bw (d:=(default:Hi))<|show 1<u.ah.length from E;have V:(x8 c u u.dI.length b).ah.getD (Int.toNat 1) default=u.ah.getD 1 default:=KL _ _ _ _ E;obtain⟨i1,i2,i3,i4,i5⟩:=hc.at g1 g2;obtain⟨j1,j2,j3⟩:=hc.fr g1 g2;rw[<-o]at j1;have H:ac0 c u b (u.ah.getD b default)=vQ c u.out/vQ c (u.ah.getD b default).sh/vQ c (u.ah.getD 1 default).sh:=by unfold ac0;rw[if_pos l,if_pos D1]
      have w:=ado _ _ (dP<|vQ c u.out) (dP<|vQ c (u.ah.getD b default).sh) c3 N M;have D2:=ado _ _ w.1 (dP<|vQ c (u.ah.getD 1 default).sh) i3 w.2 j2;refine r1 W (by simp only[bo,and_true,j,hW,m,D,t,afk]<;>omega) ?_;rw[hW,eb,D,X];refine bH W (acM _ _ (dP _) (dP _) c3 N M fh) W<|r1 W (by simp only[bo,and_true,j,hW,m,V,t]<;>omega) ?_;rw[hW,V,j1];refine bH W (acM _ _ w.1 (dP _) i3 w.2 j2 fh) W<|r0 W<|ZL W W ((hT _ (H▸D2.1)<|Ja D2.2 fh).same W W W W) W<|II W<|gS (b+1) E
     have H:ac0 c u b (u.ah.getD b default)=1:=by unfold ac0;rw[if_pos l,if_neg E]
     refine r1 W (by simp only[bo,and_true,j]<;>omega) ?_;rw[hW];refine gb W (λg=>absurd (l.symm.trans g) fh) λ_=>?_;refine r1 W (by simp only[bo,and_true,j]<;>omega) ?_;rw[hW];refine gb W (λg=>absurd (l.symm.trans g) fh) λ_=>?_;rw[<-adI c u u.dI.length b A f3 H];refine qp W<|gS (b+1) E
    have l:u.kind≠bq:=l;refine r1 W (by simp only[bo,and_true,j]<;>omega) ?_;rw[hW];refine gb W ?_ ?_<;>intro k2
    ·have k2:u.kind=jz:=k2;have H:ac0 c u b (u.ah.getD b default)=vQ c u.out/vQ c (u.ah.getD b default).sh:=by unfold ac0;rw[if_neg l,if_pos k2]
     have w:=ado _ _ (dP<|vQ c u.out) (dP<|vQ c (u.ah.getD b default).sh) c3 N M;refine r1 W (by simp only[bo,and_true,j,hW,m,D,t,afk]<;>omega) ?_;rw[hW,eb,D,X];refine bH W (acM _ _ (dP _) (dP _) c3 N M fh) W<|r0 W<|ZL W W ((hT _ (H▸w.1)<|Ja w.2 fh).same W W W W) W<|II W<|gS (b+1) E
    have k2:u.kind≠jz:=k2;have k3:u.kind=dy:=by rcases F.kind with e|e|e<;>first|exact absurd e l|exact absurd e k2|exact e
    have H:ac0 c u b (u.ah.getD b default)=(vQ c (u.ah.getD b default).sh)⁻¹ :=by unfold ac0;rw[if_neg l,if_neg k2]
    have w:=OQ _ (dP<|vQ c (u.ah.getD b default).sh) c3 M;refine r1 W (by simp only[bo,and_true,j]<;>omega) ?_;rw[hW];refine gb W (λ_=>?_) λg=>absurd k3 g;refine r1 W (by simp only[bo,and_true,j,hW,m,D,t,afk]<;>omega) ?_;rw[hW,eb,D,X];refine bH W (W7 _ (dP _) c3 M fh) W<|r0 W<|ZL W W ((hT _ (H▸w.1)<|Ja w.2 fh).same W W W W) W<|II W<|gS (b+1) E
   have eB:b=u.ah.length:=E;subst eB;refine r0 W ?_;rw[adJ];exact⟨_,W,⟨kL,⟨W,W,.refl _⟩,kL,⟨W,W,.refl _⟩,⟨W,W,.refl _⟩,⟨W,W,.refl _⟩,⟨W,W,.refl _⟩,⟨W,W,.refl _⟩,U⟩⟩
  rw[show k.set i (scU c i u)=RL (scU c) p.aa (i+1) by rw[J,hu];exact acE _ _ _ _ z];refine qp W<|gS (i+1) E
 have e:RL (scU c) p.aa i=p.aa.mapIdx (scU c):=by rw[show i=p.aa.length from E,acY]
 rw[e];refine bP W W (ad3 p.n (p.aa.mapIdx<|scU c) p.ints) W<|bN W W
def acr(a b:Int):iK (a+b)=iK a*iK b:=by
 by_cases h:0<=b
 ·have:=abg a b.toNat;rw[show a+(b.toNat:Int)=a+b from E]at this;rw[this]
  congr 1
  unfold iK;rw[if_neg E]
 have:=abg (a+b) (-b).toNat;rw[show a+b+((-b).toNat:Int)=a from E]at this;rw[this];have c:=vR (-b).toNat;rw[show iK b=((2:Rat)^(-b).toNat)⁻¹ by unfold iK;rw[if_pos E]]
 grind
def acq(a b:Int):iK (a-b)=iK a/iK b:=by
 have:=acr (a-b) b;rw[show a-b+b=a from E]at this;rw[this];have:=s8 b
 grind
def adR(N K:Nat)(d:2^N<10^(9*K))(g:1<=K){e:Int}(h:e.natAbs<=N):Sz (iK e) K:=by
 have b:∀n:Nat,(2:Rat)^n=((2^n:Nat):Rat):=λn=>by rw[air];rfl
 have a:∀n:Nat,n<=N->(Go.Ai.ae<|2^n).length<=K:=λn hn=>qO<|eI _ _ _ (af2 (ae2 fh hn) d) E;have c:=a 0 (adk _);unfold iK Sz;split
 ·have f:(0:Int)<((2^(-e).toNat:Nat):Int):=by have:=afe (n:=(-e).toNat) (show 0<2 from fh);omega
  rw[b,Rat.num_inv,Rat.den_inv,ahq,ahr,agp f,if_neg E,afQ];exact⟨c,a _ E⟩
 rw[b,ahq,ahr,afQ];exact⟨a _ E,c⟩
def aeK(e:Int)(h: -520<=e/\e<=520):∃f,aM Tryz.prog 96 [xv,.i e] (eF f)/\gW f (iK e)/\ri f 600:=by
 by_cases k: -80<=e/\e<=80
 ·obtain⟨l,a⟩:=abk e k;exact⟨_,ab7 e k,l,Ja a fh⟩
 have a:bj ⟨2,none⟩:=by unfold bj;decide
 obtain⟨pv,c⟩:=pr ⟨2,none⟩ e.natAbs a;have b:=FT e.natAbs;have d:nv (xI ⟨2,none⟩ e.natAbs)=((2^e.natAbs:Nat):Int):=by rw[pv,agI];rfl
 have o:(0:Int)<((2^e.natAbs:Nat):Int):=by have:=afe (n:=e.natAbs) (show 0<2 from fh);omega
 have j:∀n:Nat,(2:Rat)^n=((2^n:Nat):Rat):=λn=>by rw[air];rfl
 obtain⟨m1,m⟩:=BO ⟨1,none⟩ (xI ⟨2,none⟩ e.natAbs) Ga c E (dF abM<|show 2<=600 from fh)<|dF b<|show e.natAbs+1<=600 from E;refine⟨if e<0 then SO ⟨1,none⟩ (xI ⟨2,none⟩ e.natAbs)else⟨xI ⟨2,none⟩ e.natAbs,⟨1,none⟩⟩,?_,?_⟩
 ·refine bS Tryz.func96 W<|r1 W ba ?_;rw[show abP false e (0-e)=((e.natAbs:Nat):Int) by unfold abP;simp;omega];refine bG W (Ii 2) W<|bP W W (QC ⟨2,none⟩ e.natAbs a (K:=1) (by unfold fV;rw[show(nv ⟨2,none⟩).natAbs=2 from W,eE.mz (f:=2) fh fh];decide) E E) W ?_;refine bQ W W (λg=>absurd g E) λ_=>?_;refine bQ W W ?_ ?_<;>intro g
  ·rw[if_pos g];refine bO W W (Ii 1) W<|bO W W (KZ ⟨1,none⟩ (xI ⟨2,none⟩ e.natAbs) Ga c E (dF abM<|show 2<=600 from fh) (dF b<|show e.natAbs+1<=600 from E) fh) W<|Zz W<|bF W
  rw[if_neg g];refine bP W W (Fs<|xI ⟨2,none⟩ e.natAbs) W<|bN W W
 unfold iK;by_cases g:e<0
 ·rw[if_pos g,if_pos g,j,show(-e).toNat=e.natAbs from E];refine⟨?_,m⟩;rw[d,show nv ⟨1,none⟩=1 from W,ahk]at m1;rw[show((2^e.natAbs:Nat):Rat)⁻¹ =((1:Int):Rat)/(((2^e.natAbs:Nat):Int):Rat) by rw[ahi];simp];exact m1
 rw[if_neg g,if_neg g,j,show e.toNat=e.natAbs from E];exact⟨⟨c,Ga,by rw[d,ahq],by rw[ahr];rfl⟩,dF b E,dF abM fh⟩
section
variable(b:fE)(sh:List Int)(is:List (List Int))
noncomputable def geQ(i:Nat)(u:bT)(k:Nat)(f:Hi):Rat:=iK ((is.getD i []).getD k 0-sh.getD f.sh.toNat 0)*if k=0/\u.kind=bq then iK (0-b.c)else 1
noncomputable def geF(i:Nat)(u:bT)(k:Nat)(f:Hi):Hi:=⟨f.sh,qt<|bV f.dZ*geQ b sh is i u k f⟩
noncomputable def gfU(i:Nat)(u:bT):bT:={u with ah:=u.ah.mapIdx<|geF b sh is i u}
noncomputable def geT(i:Nat)(u:bT)(j:Nat)(s:hO):hO:=qt<|bV s*iK (sh.getD u.out.toNat 0-j*(is.getD i []).getD 0 0)
noncomputable def gkU(i:Nat)(u:bT):bT:=⟨u.kind,u.ah,u.out,qt<|bV u.k*iK (sh.getD u.out.toNat 0),u.dI.mapIdx<|geT sh is i u⟩
noncomputable def geU(i:Nat)(u:bT):bT:=gkU sh is i<|gfU b sh is i u
noncomputable def geP(p:gV):gV:=⟨p.n,p.aa.mapIdx<|geU b sh is,p.ints⟩
def aej(l:List bT):(l.mapIdx<|gfU b sh is).mapIdx (gkU sh is)=l.mapIdx (geU b sh is):=by apply afz I;intro i d c;simp[geU]
variable(p:gV)
noncomputable def geS(k:Nat):List bT:=p.aa.mapIdx λi u=>{u with ah:=u.ah.mapIdx λj f=>if(aag p sh is i).length+j<k then geF b sh is i u j f else f}
def aek:geS b sh is p 0=p.aa:=by
 apply afz (by simp[geS]);intro i g e;simp only[geS,agv];have:∀l:List Hi,(l.mapIdx λj f=>if(aag p sh is i).length+j<0 then geF b sh is i p.aa[i] j f else f)=l:=λl=>by apply afz I;intro k d c;simp
 rw[this]
def adU{i j N:Nat}(c:i<N)(hj:j<(p.aa.getD i default).ah.length):(aag p sh is i).length+j<(aag p sh is N).length:=by have d:=yt p sh is (show i+1<=N from c);rw[aaB,aeP,aaR]at d;omega
def aex:geS b sh is p (aag p sh is p.aa.length).length=p.aa.mapIdx (gfU b sh is):=by
 apply afz (by simp[geS]);intro i f d;have hi:i<p.aa.length:=by simpa using d
 simp only[geS,agv,gfU]
 congr 1
 apply afz I;intro k e c;have:=adU sh is p hi (j:=k) (by rw[au hi];simpa using c);simp only[agv];rw[if_pos this]
def adF{k:Nat}:∀{N:Nat},k<(aag p sh is N).length->∃i j,i<N/\j<(p.aa.getD i default).ah.length/\k=(aag p sh is i).length+j
 |0,h=>absurd h (agM k)
 |N+1,h=>by
  by_cases e:k<(aag p sh is N).length
  ·obtain⟨i,j,f,d,c⟩:=adF e;exact⟨i,j,E,d,c⟩
  rw[aaB,aeP,aaR]at h;exact⟨N,k-(aag p sh is N).length,E,E,E⟩
section
variable{i j:Nat}(hi:i<p.aa.length)(hj:j<(p.aa.getD i default).ah.length)
include hi hj
theorem adL:((geS b sh is p<|(aag p sh is i).length+j).getD i default).ah.getD j default=(p.aa.getD i default).ah.getD j default:=by
 have hl:i<(geS b sh is p<|(aag p sh is i).length+j).length:=by simpa[geS]using hi
 have e:(geS b sh is p<|(aag p sh is i).length+j).getD i default=(geS b sh is p<|(aag p sh is i).length+j)[i]:=au hl;rw[e];rw[au hi]at hj⊢;simp only[geS,agv];rw[au<|by simpa using hj,au hj];simp
def ael:(geS b sh is p<|(aag p sh is i).length+j).set i ((Pl.ratio j).s ((geS b sh is p<|(aag p sh is i).length+j).getD i default)<|qt<|bV ((p.aa.getD i default).ah.getD j default).dZ*geQ b sh is i (p.aa.getD i default) j ((p.aa.getD i default).ah.getD j default))=geS b sh is p ((aag p sh is i).length+j+1):=by
 have f:=adL b sh is p hi hj;apply afz (by simp[geS]);intro m n l;have hm:m<p.aa.length:=by simpa[geS]using l
 rw[List.getElem_set];split
 ·rename_i e;subst e;unfold Pl.s;dsimp only;rw[f];have hl:i<(geS b sh is p<|(aag p sh is i).length+j).length:=by simpa[geS]using hi
  have e:(geS b sh is p<|(aag p sh is i).length+j).getD i default=(geS b sh is p<|(aag p sh is i).length+j)[i]:=au hl;rw[e];rw[au hi]at hj⊢;simp only[geS,agv]
  congr 1
  apply afz I;intro k g d;have c:k<p.aa[i].ah.length:=by simpa using d
  rw[List.getElem_set];simp only[agv];split
  ·rename_i e;subst e;rw[if_pos E,au c];rfl
  split<;>split<;>first|rfl|omega
 rename_i e;simp only[geS,agv]
 congr 1
 apply afz I;intro k g d;have c:k<(p.aa.getD m default).ah.length:=by rw[au hm];simpa using d
 simp only[agv];have:=λh=>adU sh is p (i:=m) (N:=i) h c;have:=λh=>adU sh is p (i:=i) (N:=m) h hj;split<;>split<;>first|rfl|omega
end
end
noncomputable def mgU(sh:List Int)(is:List (List Int))(i:Nat)(u:bT)(a:Nat):bT:=⟨u.kind,u.ah,u.out,qt<|bV u.k*iK (sh.getD u.out.toNat 0),RL (geT sh is i u) u.dI a⟩
section
variable(sh:List Int)(is:List (List Int))(i:Nat)(u:bT)(a:Nat)
def aew:(Pl.start).s u (qt<|bV u.k*iK (sh.getD u.out.toNat 0))=mgU sh is i u 0:=by unfold mgU;rw[abC];rfl
def aeM:mgU sh is i u u.dI.length=gkU sh is i u:=by unfold mgU gkU;rw[acY]
def aee(h:a<u.dI.length):(Pl.acP a).s (mgU sh is i u a) (qt<|bV ((Pl.acP a).g<|mgU sh is i u a)*iK (sh.getD u.out.toNat 0-a*(is.getD i []).getD 0 0))=mgU sh is i u (a+1):=by unfold mgU Pl.s Pl.g;dsimp only;rw[KL _ _ _ _<|adp a,<-acE _ _ _ [] h];rfl
end
noncomputable def geE(p:gV)(b:fE)(sh:List Int)(is:List (List Int)):Int:=if dT p≠0 then dT p else if od b≠0 then od b else if aaA p sh is≠0 then aaA p sh is else if YF p sh is b then 30 else 0
def aez(x y:Int):aK id [x,y]=if x≠0 then x else if y≠0 then y else 0:=W
def gK(p:gV)(sh:List Int)(is:List (List Int))(i:Nat):List (Nat×SV):=[(5,.box true<|tS false sh is),(6,.box true<|.agg [.i 0,.nil,.nil]),(10,.box true xv),(96,.i p.aa.length),(97,.i i)]
section
variable(p:gV)(hp:rA p)(b:fE)(sh:List Int)(is:List (List Int))(hs:Kv sh is=true)
include hp hs
theorem adW(h:geE p b sh is≠0):aM Tryz.prog 41 [bh p,dz b,tS false sh is] (.bW [.agg [.i 0,.nil,.nil],.i<|geE p b sh is]):=by
 have hcp:=zX p hp;unfold geE at*;refine bS Tryz.func41 W<|bP W W hcp W<|bQ W W ?_ ?_<;>intro g
 ·refine bK W W<|ar.of_eq<|by rw[if_pos g];rfl
 rw[if_neg g]at h⊢;refine bO W W (Ny b) W<|bO W W (aa1 p hp sh is hs) W<|bO W W (RG [od b,aaA p sh is]<|show 2<2^60 from fh) W ?_;rw[aez];refine k0 W aW<|gb W ?_ ?_<;>intro g2
 ·refine bK W W<|ar.of_eq ?_;show SV.bW [_,.i<|if od b≠0 then od b else if aaA p sh is≠0 then aaA p sh is else 0]=_;by_cases g3:od b≠0
  ·rw[if_pos g3,if_pos g3]
  rw[if_neg g3,if_neg g3];by_cases g4:aaA p sh is≠0
  ·rw[if_pos g4,if_pos g4]
  exact absurd (by rw[if_neg g3,if_neg g4]) g2
 have hb0:od b=0:=by
  by_cases g3:od b=0
  ·exact g3
  exact absurd (λe=>g3<|by rwa[if_pos g3]at e) g2
 have hs0:aaA p sh is=0:=by
  by_cases g3:aaA p sh is=0
  ·exact g3
  exact absurd (λe=>g3<|by rwa[if_neg λg=>g hb0,if_pos g3]at e) g2
 rw[if_neg λg=>g hb0,if_neg λg=>g hs0]at h⊢;refine bP W W (aaJ p hp (Og<|afI.1 g).2.2.2 sh is (aaK hs0) b<|Ab.1 hb0) W<|bQ W W (λg4=>?_) λg4=>absurd (if_neg g4) h;refine bK W W<|ar.of_eq<|by rw[if_pos g4];rfl
def aeh(h:geE p b sh is=0)(hl:p.aa.all nB=true):aM Tryz.prog 41 [bh p,dz b,tS false sh is] (.bW [bh<|geP b sh is p,.i 0]):=by
 have T:=zX p hp;obtain⟨h0,h1,h2,h3⟩:dT p=0/\od b=0/\aaA p sh is=0/\¬YF p sh is b:=by unfold geE at h;repeat' split at h<;>simp_all
 have X:=Ny b;have N:=aa1 p hp sh is hs;rw[h0]at T;rw[h1]at X;rw[h2]at N;have hB:=Ab.1 h1;have G5:=hB.c;obtain⟨n1,n2,n3,hv⟩:=Og h0;have sv:=aaK h2;obtain⟨⟨lX,lI,L⟩,bX,bI⟩:=id sv;rw[aeI]at hl;have S:∀u∈p.aa,u.ah.length<=12/\u.dI.length<=20:=λu hu=>by have:=hl u hu;unfold nB at this;simp at this;exact⟨this.1.2.1,this.1.2.2.1⟩
 have V:=adN p E hp.ints λu hu=>by have:=S u hu;omega
 rw[<-aek b sh is p]at V;refine bS Tryz.func41 W<|bP W W T W<|bQ W W (λg=>absurd W g) λ_=>?_;refine bO W W X W<|bO W W N W<|bO W W Uw W<|k0 W aW<|gb W (λg=>absurd W g) λ_=>?_;refine bP W W (aaJ p hp hv sh is sv b hB) W<|bQ W W (λg=>absurd g h3) λ_=>?_;refine bP W W Fz W<|bP W W V W<|bP W W ((aaZ p sh is).same W W) W<|r0 W<|Bv [3,4,10,11] [3,4,10,11] (aag p sh is p.aa.length).length (aag p sh is p.aa.length).length (λk=>[eIn<|(aag p sh is p.aa.length).getD k []]) (λk=>[.box true<|bh p,.box true<|dz b,.box true xv,.box true<|.box true<|eRm p.n (geS b sh is p k) p.ints]) (λ_=>true) (λ_=>none) (.bW [])
  rfl W W W W Tryz.func196 W W W W W W (λ_ _=>rfl) (λ_=>rfl) ?_ W W (λk _ h=>rfl) (λC J hy=>aaN p hp hv sh is sv (λ_=>true) _ (.inl ⟨λ_ _=>rfl,W⟩) C J hy) ?_ ?_ ?_
 ·intro k Q z hz;simp only[adZ,afY,or_false]at hz;rcases hz with rfl|rfl|rfl|rfl<;>rfl
 ·intro k Q _;obtain⟨i,j,hi,hj,rfl⟩:=adF sh is p Q;have hq:(aag p sh is p.aa.length).getD ((aag p sh is i).length+j) []=aas p sh is i j:=by rw[adY,aaz p sh is hj _ hi];rfl
  have A:(i:Int).toNat=i:=afk i;have ej:(j:Int).toNat=j:=afk j;have hm:=bw (d:=default) hi;have o:(geS b sh is p<|(aag p sh is i).length+j).length=p.aa.length:=by simp[geS]
  have R:=adL b sh is p hi hj;have F3:=ael b sh is p hi hj;have w:((geS b sh is p<|(aag p sh is i).length+j).getD i default).ah.length=(p.aa.getD i default).ah.length:=by rw[au<|by rw[o];exact hi,au hi];simp[geS]
  have G1:eIn (aas p sh is i j)=.agg [.i i,.i j,.i<|(is.getD i []).getD j 0,.i<|sh.getD ((p.aa.getD i default).ah.getD j default).sh.toNat 0]:=W;simp only[hq,G1];have P:=bw (d:=default) hj;obtain⟨f1,f2,f3,-⟩:=(hv _ hm).feed _ P;have l:=hl _ hm;unfold nB at l;simp only[adD,aeI,decide_eq_true_eq]at l;obtain⟨⟨-,z1,-,-⟩,l2,-⟩:=l;have x1:=bI _ (bw (d:=([]:List Int))<|show i<is.length from E) _<|bw (d:=(0:Int)) (show j<(is.getD i []).length by have:=L i hi;omega);have x2:=bX _<|bw (d:=(0:Int))<|show((p.aa.getD i default).ah.getD j default).sh.toNat<sh.length from E;obtain⟨F,D⟩:=abk ((is.getD i []).getD j 0-sh.getD ((p.aa.getD i default).ah.getD j default).sh.toNat 0) E;obtain⟨q1,q2⟩:=abk (0-b.c) (by have:=hB.c;omega);have H:∀f,gW f (geQ b sh is i (p.aa.getD i default) j<|(p.aa.getD i default).ah.getD j default)->ri f 600->lp Tryz.prog 111 [.box true<|.box true<|eRm p.n (geS b sh is p<|(aag p sh is i).length+j) p.ints] [.bC 1000000 0 0 [.deref],.ptr 1000000 0 0 [.deref,.deref,.at 0 (some 3),.at 1 none,.idx i 5,.at 1 none,.idx j 2,.at 1 none],eF f]
   [.box true<|.box true<|eRm p.n (geS b sh is p<|(aag p sh is i).length+j+1) p.ints] (.bW []):=λf ok sz=>by
   have:=adQ p.n p.ints (geS b sh is p<|(aag p sh is i).length+j) i E E j ⟨E,E⟩ f _ (by
    rw[show(Pl.ratio j).g ((geS b sh is p<|(aag p sh is i).length+j).getD i default)=((p.aa.getD i default).ah.getD j default).dZ from congrArg Hi.dZ R];exact ac8 f3 (l2 _ P) ok sz (by
     unfold geQ;refine Sz.mono (K:=4+4) (Sz.mul (abQ E|>.mono fh) ?_) fh;split
     ·exact(abQ (by have:=hB.c;omega)).mono fh
     exact(abQ (e:=0) fh).mono fh))
   rwa[show(Pl.ratio j).g ((geS b sh is p<|(aag p sh is i).length+j).getD i default)=((p.aa.getD i default).ah.getD j default).dZ from congrArg Hi.dZ R,F3]at this
  generalize hu:p.aa.getD i default=u at*;generalize hf:u.ah.getD j default=f at*;refine r0 W<|rH<|qp W<|bG W (ab7 ((is.getD i []).getD j 0-sh.getD f.sh.toNat 0) E) W<|bJ W 57 W ?_ ?_<;>intro g
  ·refine qp W ?_;rw[A,hu];refine gb W ?_ ?_<;>intro g2
   ·obtain⟨m1,m2⟩:=tg _ _ F q1 D q2;have eq:geQ b sh is i u j f=iK ((is.getD i []).getD j 0-sh.getD f.sh.toNat 0)*iK (0-b.c):=by unfold geQ;rw[if_pos ⟨E,g2⟩]
    rw[eq]at H;refine qp W<|bH W (ab7 (0-b.c) (by have:=hB.c;omega)) W ?_;refine bO W W (Ch _ _ F q1 D q2 fh) W<|k1 W aW (by simp only[bo,and_true,A,o,w]<;>omega) ?_;refine ZL W W ((H _ m1<|Ja m2 fh).same W W W W) W<|k0 W aW<|zA [(1000000,.box true<|bh p),(1000001,.box true<|dz b),(1000002,.box true xv),(1000003,.box true<|.box true<|eRm p.n (geS b sh is p<|(aag p sh is i).length+j+1) p.ints)] W W ⟨⟨W,W,.refl _⟩,⟨W,W,.refl _⟩,⟨W,W,.refl _⟩,⟨W,W,.refl _⟩,U⟩ ⟨G,G,G,G,U⟩
   have eq:geQ b sh is i u j f=iK ((is.getD i []).getD j 0-sh.getD f.sh.toNat 0):=by unfold geQ;rw[if_neg λg=>g2 g.2,agt]
   rw[eq]at H;refine r1 W (by simp only[bo,and_true,A,o,w]<;>omega) ?_;refine ZL W W ((H _ F<|Ja D fh).same W W W W) W<|k0 W aW<|zA [(1000000,.box true<|bh p),(1000001,.box true<|dz b),(1000002,.box true xv),(1000003,.box true<|.box true<|eRm p.n (geS b sh is p<|(aag p sh is i).length+j+1) p.ints)] W W ⟨⟨W,W,.refl _⟩,⟨W,W,.refl _⟩,⟨W,W,.refl _⟩,⟨W,W,.refl _⟩,U⟩ ⟨G,G,G,G,U⟩
  have eq:geQ b sh is i u j f=iK ((is.getD i []).getD j 0-sh.getD f.sh.toNat 0):=by unfold geQ;rw[if_neg λe=>g E,agt]
  rw[eq]at H;refine r1 W (by simp only[bo,and_true,A,o,w]<;>omega) ?_;refine ZL W W ((H _ F<|Ja D fh).same W W W W) W<|k0 W aW<|zA [(1000000,.box true<|bh p),(1000001,.box true<|dz b),(1000002,.box true xv),(1000003,.box true<|.box true<|eRm p.n (geS b sh is p<|(aag p sh is i).length+j+1) p.ints)] W W ⟨⟨W,W,.refl _⟩,⟨W,W,.refl _⟩,⟨W,W,.refl _⟩,⟨W,W,.refl _⟩,U⟩ ⟨G,G,G,G,U⟩
 ·intro _;rw[aex];have G3:∀i,i<p.aa.length->(p.aa.mapIdx<|gfU b sh is).getD i default=gfU b sh is i (p.aa.getD i default):=λi hi=>by rw[au<|by simpa using hi,au hi];simp
  have A0:(p.aa.mapIdx<|gfU b sh is).length=p.aa.length:=I;have F4:=aej b sh is p.aa;generalize p.aa.mapIdx (gfU b sh is)=B at*;refine r0 W ?_;rw[A0];refine EI ((11,.box true<|.box true<|eRm p.n (RL (gkU sh is) B 0) p.ints)::gK p sh is 0) (by rw[abC];exact⟨⟨W,W,.refl _⟩,⟨W,W,.refl _⟩,⟨W,W,.refl _⟩,⟨W,W,.refl _⟩,⟨W,W,.refl _⟩,⟨W,W,.refl _⟩,U⟩) ?_;refine ra (λi:Nat=>(11,.box true<|.box true<|eRm p.n (RL (gkU sh is) B i) p.ints)::gK p sh is i) (λi=>i<=p.aa.length) (λi=>p.aa.length-i) 0 (adk _) ?_;intro i hi;refine bQ W W ?_ ?_<;>intro g
  ·have t:i<p.aa.length:=E;have A:(i:Int).toNat=i:=E;have hm:=bw (d:=default) t;have E2:=G3 i t;have hV:=hv _ hm;obtain⟨z1,z2⟩:=S _ hm;have l:=hl _ hm;unfold nB at l;simp only[adD,aeI,decide_eq_true_eq]at l;obtain⟨⟨-,-,-,l1⟩,-,l3⟩:=l;have Q:=hV.k;have ht:=hV.dI;have s:=hV.Bj;obtain⟨F,D⟩:=hV.out;have D1:=L i t;have G4:=bI _<|bw (d:=([]:List Int))<|show i<is.length from E;have e0:=ac7 (gkU sh is) B i default E;have e1:=acE (gkU sh is) B i default E;rw[E2]at e0 e1;obtain⟨u,hu⟩:∃u,u=gfU b sh is i (p.aa.getD i default):=⟨_,W⟩;have M:u.dI=(p.aa.getD i default).dI:=by rw[hu];rfl
   have E1:u.k=(p.aa.getD i default).k:=by rw[hu];rfl
   have D2:u.out=(p.aa.getD i default).out:=by rw[hu];rfl
   rw[<-hu]at e0 e1;rw[<-D2]at F D;rw[<-E1]at Q l1;rw[<-M]at ht l3;have F0:u.dI.length<=13/\(0<u.dI.length->0<(is.getD i []).length):=by
    rw[M,D1];unfold jT Dh xq at s;simp only[not_or,not_and]at s;obtain⟨s1,-,s3,s4⟩:=s;by_cases g1:(p.aa.getD i default).kind=dy
    ·have:=s3 g1;rw[if_neg<|by rw[g1];decide]at s1;omega
    have:=s4 g1;omega
   have x2:=bX _<|bw (d:=(0:Int))<|show u.out.toNat<sh.length from E;rw[<-e0];generalize G2:RL (gkU sh is) B i=n at*;have B0:n.length=p.aa.length:=by rw[<-G2,x9,A0]
   have m:∀x,(n.set i x).length=p.aa.length:=λx=>by rw[ad2,B0]
   have hW:∀x,(n.set i x).getD i default=x:=aeH E _;refine Z0 19 W aW (by simp only[bo,and_true,m]<;>omega) ?_;refine ad1 (r:=11) (p0:=15) (v:=.box true<|.box true<|eRm p.n (n.set i u) p.ints) (q:=[.deref,.deref,.at 0 (some 3),.at 1 none]++.idx i 5::[]) (K:=((14,.i i)::gK p sh is i)) W W W W (by simp only[bo,and_true,m]<;>omega) ⟨⟨W,W,.refl _⟩,⟨W,W,.refl _⟩,⟨W,W,.refl _⟩,⟨W,W,.refl _⟩,⟨W,W,.refl _⟩,⟨W,W,.refl _⟩,⟨W,W,.refl _⟩,U⟩ ?_;refine TC (Z:=1000000) (h:=1000001) (y:=.bA true 5 default x7<|n.set i u) (y2:=.bA true 5 default x7<|n.set i<|gkU sh is i u) (v1:=λC=>rmH true p.n C p.ints) (v2:=λC=>rmH true p.n C p.ints) (v3:=.box true<|.box true<|eRm p.n (n.set i<|gkU sh is i u) p.ints) (K2:=(gK p sh is i))
    ⟨fh,fh,fh,fh,fh,fh,fh,fh,fh⟩ W W W (λ_=>rfl) W W (λ_=>rfl) W (by simp only[bo,and_true,m]<;>omega) (λ_=>rfl) W (λ_=>rfl) W (λC=>?_) ?_
   ·obtain⟨w1,w2⟩:=abk (sh.getD u.out.toNat 0) E;refine k1 W aW (by simp only[bo,and_true,m,hW]<;>omega) ?_;rw[hW];refine bH W (ab7 (sh.getD u.out.toNat 0) E) W<|r0 W<|ZL W W ((adi true p.n C p.ints n i E E u .start U _ _<|ac8 Q l1 w1 (Ja w2 fh)<|(abQ E).mono fh).same W W W W) W ?_;rw[show(Pl.start).s u (qt<|bV ((Pl.start).g u)*iK (sh.getD u.out.toNat 0))=mgU sh is i u 0 from aew sh is i u];have F2:(mgU sh is i u 0).dI.length=u.dI.length:=x9 _ _ _;refine k1 W aW (by simp only[bo,and_true,m]<;>omega) ?_;rw[hW,F2];refine ra (λa:Nat=>(127,.i u.dI.length)::(128,.i a)::(1000001,.bC 1000000 0 0 [])::(1000000,.bA true 5 default x7<|n.set i<|mgU sh is i u a)::(15,.ptr 1000000 0 0 [.idx i 5])::(11,rmH true p.n C p.ints)::(14,.i i)::(16,.i<|sh.getD u.out.toNat 0)::gK p sh is i) (λa=>a<=u.dI.length) (λa=>u.dI.length-a) 0 (adk _) ?_;intro a ha;refine bQ W W ?_ ?_<;>intro g
    ·have Y:a<u.dI.length:=E;have eg:(Pl.acP a).g (mgU sh is i u a)=u.dI.getD a []:=KL _ _ _ _<|adp a;have O:=bw (d:=([]:hO)) Y;have F1:(mgU sh is i u a).dI.length=u.dI.length:=x9 _ _ _;have h0:=F0.2 E;have bx:=G4 _<|bw (d:=(0:Int)) h0;have p1:=afg bx.1 (show(0:Int)<=a from E);have p2:=afg bx.2 (show(0:Int)<=a from E);obtain⟨f,c1,c2,c3⟩:=aeK (sh.getD u.out.toNat 0-a*(is.getD i []).getD 0 0) E;refine r1 W (by simp only[bo,and_true,m,hW,F1,A,Int.toNat_zero]<;>omega) ?_;rw[A];refine bH W c1 W<|r0 W<|ZL W W ((adi true p.n C p.ints n i E E (mgU sh is i u a) (.acP a) ⟨E,E⟩ _ _<|by rw[eg];exact ac8 (ht _ O) (l3 _ O) c2 c3<|(adR 520 18 (by decide +kernel) fh E).mono fh).same W W W W) W ?_;rw[aee sh is i u a Y];refine II W<|gS (a+1) E
    have eA:a=u.dI.length:=E;subst eA;refine r0 W ?_;rw[aeM];exact⟨_,W,⟨kL,⟨W,W,.refl _⟩,kL,⟨W,W,.refl _⟩,⟨W,W,.refl _⟩,⟨W,W,.refl _⟩,⟨W,W,.refl _⟩,⟨W,W,.refl _⟩,⟨W,W,.refl _⟩,U⟩⟩
   rw[e1];refine qp W<|gS (i+1) E
  have e:RL (gkU sh is) B i=p.aa.mapIdx (geU b sh is):=by rw[show i=B.length from E,acY,F4]
  rw[e];refine bP W W (ad3 p.n (p.aa.mapIdx<|geU b sh is) p.ints) W<|bN W W
 intro c hp;simp at hp
end
def aeB{s:hO}:adh s=if aL s≠0 then aL s else if bV s=0 then 6 else 0:=by
 unfold adh;by_cases h:aL s=0
 ·have:s=[48]↔bV s=0:=by rw[<-FR,fZ h]
  simp[aK,h,this]
 simp[aK,h]
def aef{s:hO}(h:aL s=0):aM Tryz.prog 38 [.s s] (.u<|decide (bV s=0)):=by have:=mY<|bV s;rwa[fZ h]at this
def ady(p:gV)(c:List hO)(hc:∀s∈c,ct s)(hl:c.length<2^60)(l:1<=p.n):aM Tryz.prog 42 [bh p,.strs false c] (.i<|ac9 p.n c):=by
 refine bS Tryz.func42 W<|bQ W W ?_ ?_<;>intro g
 ·refine bK W W<|ar.of_eq<|congrArg SV.i<|by unfold ac9;rw[if_pos g]
 have k:ac9 p.n c=if aK adh c≠0 then aK adh c else if c.getD 0 []≠[49]then 3 else 0:=by unfold ac9;rw[if_neg E]
 rw[k];refine r0 W<|ra (λi:Nat=>[(1,.strs false c),(5,.i i)]) (λi=>i<=c.length/\aK adh c=aK adh (c.drop i)) (λi=>c.length-i) 0 ⟨adk _,W⟩ ?_;rintro i⟨hi,b⟩;refine bQ W W ?_ ?_<;>intro h
 ·have a:i<c.length:=E;have j:(i:Int).toNat=i:=E;rw[dA _ a,aeB]at b;refine r1 W ba ?_;rw[j,au a];refine bG W (check_sound c[i]<|hc _<|adC a) W<|Qr 2 W U<|CP 1 (λe:Int=>[(1,.strs false c),(5,.i i),(6,.i e)]) (λe=>e=if aL c[i]≠0 then aL c[i]else if bV c[i]=0 then 6 else 0) ?_ λe he=>?_
  ·refine bJ W 25 W ?_ ?_<;>intro g2
   ·refine r1 W ba ?_;rw[j,au a];refine bG W (aef g2) W<|bQ W W ?_ ?_<;>intro f
    ·refine r0 W<|il 6 (by rw[if_neg<|not_not_intro g2,if_pos f])
    refine r0 W<|meet 0 (by rw[if_neg<|not_not_intro g2,if_neg f]) ⟨G,G,⟨W,ar.of_eq<|congrArg SV.i g2⟩,U⟩
   refine r0 W<|il (aL c[i]) (by rw[if_pos g2])
  rw[<-he]at b;refine bQ W W ?_ ?_<;>intro d
  ·refine bK W W<|ar.of_eq<|congrArg SV.i<|by rw[b,if_pos d,if_pos d]
  refine r1 W (by simp[bo,and_true];omega) ?_;exact gS (i+1) ⟨E,by rw[b,if_neg d]⟩
 rw[afo E]at b;rw[if_neg<|by rw[b];exactλh=>h W];refine r1 W (by simp only[bo,and_true];omega) ?_;refine gb W ?_ ?_<;>intro g
 ·refine bK W W<|ar.of_eq<|congrArg SV.i (if_pos g).symm
 refine bK W W<|ar.of_eq<|congrArg SV.i (if_neg g).symm
def MdS(s:hO):Prop:=∃q,s=qt q/\Sz q 66
def adE{s:hO}(h:MdS s):aM Tryz.prog 119 [.s s] (.i 0):=by
 obtain⟨q,rfl,h⟩:=h;have b:∀n:Nat,(Go.Ai.ae n).length<=66->(decl n 1).length<=600:=λn hn=>by obtain⟨j,a⟩:∃j:Nat,j=600:=⟨_,W⟩;have:=eI n 1 j (ae3 (m:=10^(9*(Go.Ai.ae n).length)) (by rw[agn];exact Int.ofNat_lt.1<|by rw[agI];exact Go.Ai.cw n)<|ae2 fh E) E;omega
 have:=IH q h fh;rwa[adK.2 ⟨b _ h.1,b _ h.2⟩]at this
def adV(l:List hO)(hl:l.length<2^60)(h:∀s∈l,MdS s):aM Tryz.prog 120 [.strs false l] (.i 0):=by
 refine bS Tryz.func120 W<|r0 W<|ra (λi:Nat=>[(0,.strs false l),(3,.i i)]) (λi=>i<=l.length) (λi=>l.length-i) 0 (adk _) ?_;intro i hi;refine bQ W W ?_ ?_<;>intro g
 ·have a:i<l.length:=E;refine r1 W ba<|bG W (adE<|h _<|bw E) W<|bQ W W (λg=>absurd W g) λ_=>?_;refine r1 W (by simp[bo,and_true];omega) ?_;exact gS (i+1) E
 refine bN W W
def adq(p:gV)(hu:p.aa.length<2^40)(h:∀u∈p.aa,MdS u.k/\(∀s∈u.dI,MdS s)/\(∀f∈u.ah,MdS f.dZ)/\u.dI.length<2^40/\u.ah.length<2^40):aM Tryz.prog 44 [bh p] (.i 0):=by
 refine bS Tryz.func44 W<|r0 W<|ra (λi:Nat=>[(1,.box true<|bh p),(3,.i i)]) (λi=>i<=p.aa.length) (λi=>p.aa.length-i) 0 (adk _) ?_;intro i hi;refine bQ W W ?_ ?_<;>intro g
 ·have a:i<p.aa.length:=E;have l:(i:Int).toNat=i:=E;obtain⟨j,e,c,o,n⟩:=h _<|bw (d:=default) a;refine r1 W ba ?_;rw[l];generalize p.aa.getD i default=u at*;refine bH W (adE j) W<|bO W W (adV _ E e) W<|k1 W aW aY<|ra (λk:Nat=>[(1,.box true<|bh p),(3,.i i),(4,.box true<|dQ u),(5,.i 0),(6,.i k)]) (λk=>k<=u.ah.length) (λk=>u.ah.length-k) 0 (adk _) ?_;intro k m;refine bQ W W ?_ ?_<;>intro g
  ·have b:k<u.ah.length:=E;refine r1 W ba<|bG W (adE<|c _<|bw E) W<|r1 W (by simp[bo,and_true];omega) ?_;exact gS (k+1) E
  refine bQ W W (λg=>absurd W g) λ_=>?_;refine r1 W (by simp[bo,and_true];omega) ?_;exact gS (i+1) E
 refine bN W W
def adt(p:gV):SV:=.agg [.i p.n,.bA true 5 default x7 p.aa,.ints .i64 true p.ints]
def tiP:xk:=match Fw tt 25 with|some t=>t|none=>⟨false,0,0,.dead⟩
def aep(p:gV)(hu:p.aa.length<2^20)(hi:p.ints.length<2^40)(b:∀u∈p.aa,u.ah.length<2^40/\u.dI.length<2^40):aM Tryz.prog 118 [bh p] (adt p):=by
 refine bS Tryz.func118 W<|k1 W aW (by simp[bo,len];omega) ?_;refine EI [(1,.box true<|bh p),(2,.box true<|.agg [.i 0,.nil,.nil]),(3,.box true<|adt ⟨p.n,p.aa.take 0,p.ints⟩),(4,.i 0)]
  ⟨⟨W,W,.refl _⟩,⟨W,W,.refl _⟩,⟨W,W,.box<|.agg<|.cons (.refl _)<|.cons (.le<|show ar .nil (.bA true 5 default x7 [])from W)<|o6.refl _⟩,⟨W,W,.refl _⟩,U⟩<|ra (λi:Nat=>[(1,.box true<|bh p),(2,.box true<|.agg [.i 0,.nil,.nil]),(3,.box true<|adt ⟨p.n,p.aa.take i,p.ints⟩),(4,.i i)]) (λi=>i<=p.aa.length) (λi=>p.aa.length-i) 0 (adk _) ?_
 intro i hi;refine bQ W W ?_ ?_<;>intro h
 ·have a:i<p.aa.length:=E;have c:(i:Int).toNat=i:=E;obtain⟨f,e⟩:=b _<|bw (d:=default) a;refine Qr 34 W (by simp only[bo,and_true,len,c];exact⟨E,λ_=>rfl,λ_=>rfl,E,E,E,E⟩) ?_;refine ex W W W (mE.same (Yk (P:=Tryz.prog) (y:=x7<|p.aa.getD i default) (ti:=tiU) W W W W) W W W W) W<|r1 W (by simp[bo,len];omega) ?_;refine vf (i+1) E E ⟨⟨W,W,.refl _⟩,⟨W,W,.refl _⟩,⟨W,W,.box<|.agg<|.cons (.refl _)<|.cons (.row ?_)<|o6.refl _⟩,⟨W,W,.refl _⟩,U⟩;rw[cX,aey a,aeY,au a];exact o6.refl _
 have:p.aa.take i=p.aa:=adM E;rw[this];refine Qr 3 W U<|ex W W W (mE.same (Yk (P:=Tryz.prog) (y:=adt p) (ti:=tiP) W W W W) W W W W) W<|bN W W
def ac1{a:List bT}{i:Nat}{b u:bT}{m:Pl}{t:hO}{x:SV}(h:o6 [x] [x7<|m.s u t]):o6 (((a.set i b).map x7).set i x) ((a.set i<|m.s u t).map x7):=by have:=ade (l:=a.set i b) (i:=i) h;rwa[List.set_set]at this
section
variable{s t:hO}(hs:aL s=0)(ls:s.length<=14)(ht:aL t=0)(lt:t.length<=14)
include hs ls ht lt
theorem adG:aM Tryz.prog 26 [.s s,.s t] (.s<|qt<|bV s*bV t):=by have:=gi (bV s) (bV t) (abj hs E) (abj ht E) fh;rwa[fZ hs,fZ ht]at this
end
def aeG{q:Rat}{K:Nat}(a:Sz q K)(c:K<2^33){t:hO}(ht:aL t=0)(lt:t.length<=14)(b:bV t≠0):aM Tryz.prog 39 [.s<|qt q,.s t] (.s<|qt<|q/bV t):=by have:=O5 q (bV t) a (abj ht E) E b;rwa[fZ ht]at this
def tK(c:List hO)(i:Nat):List (Nat×SV):=[(1,.strs false c),(4,.box true<|.agg [.i 0,.nil,.nil]),(6,.i i)]
def tH(p:gV)(C:Value->Prop)(a:List bT)(i:Nat)(x:bT)(c:List hO)(o:hO):List (Nat×SV):=(1000001,.bC 1000000 0 0 [])::(1000000,.bA true 5 default x7<|a.set i x)::(7,.ptr 1000000 0 0 [.idx i 5])::(5,.box true<|.agg [.i p.n,.pv C,.ints .i64 true p.ints])::(8,.s o)::tK c i
def ad9(p:gV)(hp:rA p)(hn:p.aa.length<=110)(hv:∀u∈p.aa,iQ p.n u)(hl:p.aa.all nB=true)(c:List hO)(hc:adP p.n c):aM Tryz.prog 43 [bh p,.strs false c] (bh<|scP c p):=by
 have Y:=hc.len;rw[aeI]at hl;have M:∀u∈p.aa,u.ah.length<=12/\u.dI.length<=20:=λu hu=>by have:=hl u hu;unfold nB at this;simp at this;exact⟨this.1.2.1,this.1.2.2.1⟩
 refine bS Tryz.func43 W<|bP W W (aep p E hp.ints λu hu=>by have:=M u hu;omega) W ?_;refine r0 W<|EI ((5,.box true<|adt ⟨p.n,RL (scU c) p.aa 0,p.ints⟩)::tK c 0) (by rw[abC];exact⟨⟨W,W,.refl _⟩,⟨W,W,.refl _⟩,⟨W,W,.refl _⟩,⟨W,W,.refl _⟩,U⟩) ?_;refine ra (λi:Nat=>(5,.box true<|adt ⟨p.n,RL (scU c) p.aa i,p.ints⟩)::tK c i) (λi=>i<=p.aa.length) (λi=>p.aa.length-i) 0 (adk _) ?_;intro i hi;have A0:=x9 (scU c) p.aa i;refine bQ W W ?_ ?_<;>intro g
 ·have o:i<p.aa.length:=by have g:(i:Int)<((RL (scU c) p.aa i).length:Int):=g;omega
  have ei:(i:Int).toNat=i:=E;have hm:=bw (d:=default) o;obtain⟨u,hu⟩:∃u,u=p.aa.getD i default:=⟨_,W⟩;rw[<-hu]at hm;obtain⟨z1,z2⟩:=M u hm;have D:=hv u hm;obtain⟨o1,o2⟩:=D.out;have e0:=ac7 (scU c) p.aa i default o;rw[<-hu]at e0;have e1:=acE (scU c) p.aa i default o;rw[<-hu]at e1;rw[<-e0];generalize RL (scU c) p.aa i=m at*;have hW:∀x,(m.set i x).getD i default=x:=aeH E _;have z:=hl u hm;unfold nB at z;simp only[adD,aeI,decide_eq_true_eq]at z;obtain⟨⟨-,-,-,l1⟩,l2,l3⟩:=z;obtain⟨a1,F,a3,Q,a5⟩:=hc.at (i:=u.out) E o2;refine Qr 11 W (by simp only[bo,and_true,ad2]<;>omega) ?_;refine ad1 (r:=5) (p0:=7) (v:=.box true<|adt ⟨p.n,m.set i u,p.ints⟩) (q:=[.deref,.at 1 none]++.idx i 5::[]) (K:=(tK c i)) W W W W (by simp only[bo,and_true,ad2]<;>omega) ⟨⟨W,W,.refl _⟩,⟨W,W,.refl _⟩,⟨W,W,.refl _⟩,⟨W,W,.refl _⟩,U⟩ ?_;refine TC (Z:=1000000) (h:=1000001) (y:=.bA true 5 default x7<|m.set i u) (y2:=.bA true 5 default x7<|m.set i<|scU c i u) (v1:=λC=>.box true<|.agg [.i p.n,.pv C,.ints .i64 true p.ints]) (v2:=λC=>.box true<|.agg [.i p.n,.pv C,.ints .i64 true p.ints]) (v3:=.box true<|adt ⟨p.n,m.set i<|scU c i u,p.ints⟩) (K2:=(tK c i))
   ⟨fh,fh,fh,fh,fh,fh,fh,fh,fh⟩ W W W (λ_=>rfl) W W (λ_=>rfl) W (by simp only[bo,and_true,ad2]<;>omega) (λ_=>rfl) W (λ_=>rfl) W (λC=>?_) ?_
  ·refine r1 W (by simp only[bo,and_true,ad2,hW]<;>omega) ?_;rw[hW];refine bG W (adG D.k l1 F Q) W<|r1 W (by simp only[bo,and_true,ad2]<;>omega) ?_;rw[hW];refine EI ((9,.i 0)::tH p C m i (x8 c u 0 0) c (c.getD u.out.toNat []))
    ⟨⟨W,W,.refl _⟩,kL,⟨W,W,.row<|by rw[<-adH];exact ac1<|acZ W⟩,kL,⟨W,W,.refl _⟩,⟨W,W,.refl _⟩,⟨W,W,.refl _⟩,⟨W,W,.refl _⟩,⟨W,W,.refl _⟩,U⟩ ?_
   refine ra (λb:Nat=>((9,.i b)::tH p C m i (x8 c u 0 b) c (c.getD u.out.toNat []))) (λb=>b<=u.ah.length) (λb=>u.ah.length-b) 0 (adk _) ?_;intro b hb;have S:(b:Int).toNat=b:=E;have f:(x8 c u 0 b).ah.length=u.ah.length:=x9 _ _ _;refine r1 W (by simp only[bo,and_true,ad2]<;>omega) ?_;rw[hW];refine gb W ?_ ?_<;>intro g
   ·have k:b<u.ah.length:=by have g:(b:Int)<((x8 c u 0 b).ah.length:Int):=g;omega
    have J:=bw (d:=(default:Hi)) k;obtain⟨f1,f2,A,-⟩:=D.feed _ J;have V:=l2 _ J;have j:(x8 c u 0 b).ah.getD b default=u.ah.getD b default:=KL _ _ _ _<|adp b;have B:(Pl.ratio b).g (x8 c u 0 b)=(u.ah.getD b default).dZ:=congrArg Hi.dZ j;obtain⟨c1,P,c3,T,c5⟩:=hc.at f1 f2;refine r1 W (by simp only[bo,and_true,ad2,hW,f]<;>omega) ?_;rw[hW];refine gb W ?_ ?_<;>intro l
    ·have l:u.kind=bq:=l;refine bQ W W ?_ ?_<;>intro k2
     ·have R:b=0:=E;have h2:=adl D l;obtain⟨g1,g2,-⟩:=D.feed _<|bw (d:=(default:Hi))<|show 1<u.ah.length from E;have O:(x8 c u 0 b).ah.getD (Int.toNat 1) default=u.ah.getD 1 default:=KL _ _ _ _ E;obtain⟨i1,X,i3,i4,i5⟩:=hc.at g1 g2;have w:aM Tryz.prog 39 [.s<|qt<|bV (u.ah.getD b default).dZ*vQ c u.out,.s<|qt<|vQ c (u.ah.getD b default).sh*vQ c (u.ah.getD 1 default).sh] (.s<|qt<|bV ((Pl.ratio b).g<|x8 c u 0 b)*ac0 c u b (u.ah.getD b default)):=by
       rw[B,show bV (u.ah.getD b default).dZ*ac0 c u b (u.ah.getD b default)=bV (u.ah.getD b default).dZ*vQ c u.out/(vQ c (u.ah.getD b default).sh*vQ c (u.ah.getD 1 default).sh) by unfold ac0;rw[if_pos l,if_pos R];grind]
       exact O5 _ _ ((abj A E).mul<|abj F E) ((abj P E).mul<|abj X E) fh (λe=>by rcases Rat.mul_eq_zero.1 e with e|e<;>contradiction)
      refine r1 W (by simp only[bo,and_true,ad2,hW,f,j,afk]<;>omega) ?_;rw[hW,S,j];refine bH W (adG A V F Q) W<|r1 W (by simp only[bo,and_true,ad2,hW,f,j,O]<;>omega) ?_;rw[hW,j,O];refine bH W (adG P T X i4) W<|bO W W w W<|k1 W aW (by simp only[bo,and_true,ad2,hW,f]<;>omega) ?_;rw[hW];exact vf (b+1) E E ⟨⟨W,W,.refl _⟩,kL,⟨W,W,.row<|by rw[<-adf c u 0 b k];exact ac1<|acZ W⟩,kL,⟨W,W,.refl _⟩,⟨W,W,.refl _⟩,⟨W,W,.refl _⟩,⟨W,W,.refl _⟩,⟨W,W,.refl _⟩,U⟩
     have hq:ac0 c u b (u.ah.getD b default)=1:=by unfold ac0;rw[if_pos l,if_neg E]
     rw[<-adI c u 0 b k A hq];refine r1 W ba<|gS (b+1) E
    have l:u.kind≠bq:=l;refine bQ W W ?_ ?_<;>intro k2
    ·have k2:u.kind=jz:=k2;have w:aM Tryz.prog 39 [.s<|qt<|bV (u.ah.getD b default).dZ*vQ c u.out,.s<|c.getD (u.ah.getD b default).sh.toNat []] (.s<|qt<|bV ((Pl.ratio b).g<|x8 c u 0 b)*ac0 c u b (u.ah.getD b default)):=by
      rw[B,show bV (u.ah.getD b default).dZ*ac0 c u b (u.ah.getD b default)=bV (u.ah.getD b default).dZ*vQ c u.out/vQ c (u.ah.getD b default).sh by unfold ac0;rw[if_neg l,if_pos k2];grind]
      exact aeG ((abj A E).mul<|abj F E) fh P T c3
     refine r1 W (by simp only[bo,and_true,ad2,hW,f,j,afk]<;>omega) ?_;rw[hW,S,j];refine bH W (adG A V F Q) W<|r1 W (by simp only[bo,and_true,ad2,hW,f,j]<;>omega) ?_;rw[hW,j];refine bH W w W<|k1 W aW (by simp only[bo,and_true,ad2,hW,f]<;>omega) ?_;rw[hW];exact vf (b+1) E E ⟨⟨W,W,.refl _⟩,kL,⟨W,W,.row<|by rw[<-adf c u 0 b k];exact ac1<|acZ W⟩,kL,⟨W,W,.refl _⟩,⟨W,W,.refl _⟩,⟨W,W,.refl _⟩,⟨W,W,.refl _⟩,⟨W,W,.refl _⟩,U⟩
    have k2:u.kind≠jz:=k2;have w:aM Tryz.prog 39 [.s (u.ah.getD b default).dZ,.s<|c.getD (u.ah.getD b default).sh.toNat []] (.s<|qt<|bV ((Pl.ratio b).g<|x8 c u 0 b)*ac0 c u b (u.ah.getD b default)):=by
     have e:bV (u.ah.getD b default).dZ/vQ c (u.ah.getD b default).sh=bV (u.ah.getD b default).dZ*ac0 c u b (u.ah.getD b default):=by unfold ac0;rw[if_neg l,if_neg k2,ahi]
     rw[B,<-e];have:=aeG (abj A E) fh P T c3;rwa[fZ A]at this
    refine r1 W (by simp only[bo,and_true,ad2,hW,f,j,afk]<;>omega) ?_;rw[hW,S,j];refine bH W w W<|k1 W aW (by simp only[bo,and_true,ad2,hW,f]<;>omega) ?_;rw[hW];exact vf (b+1) E E ⟨⟨W,W,.refl _⟩,kL,⟨W,W,.row<|by rw[<-adf c u 0 b k];exact ac1<|acZ W⟩,kL,⟨W,W,.refl _⟩,⟨W,W,.refl _⟩,⟨W,W,.refl _⟩,⟨W,W,.refl _⟩,⟨W,W,.refl _⟩,U⟩
   have eB:b=u.ah.length:=by have g:¬(b:Int)<((x8 c u 0 b).ah.length:Int):=g;omega
   subst eB;refine r0 W<|ra (λa:Nat=>((11,.i a)::tH p C m i (x8 c u a u.ah.length) c (c.getD u.out.toNat []))) (λa=>a<=u.dI.length) (λa=>u.dI.length-a) 0 (adk _) ?_;intro a ha;have ea:(a:Int).toNat=a:=E;have L:(x8 c u a u.ah.length).dI.length=u.dI.length:=x9 _ _ _;refine r1 W (by simp only[bo,and_true,ad2]<;>omega) ?_;rw[hW];refine gb W ?_ ?_<;>intro g
   ·have N:a<u.dI.length:=by have g:(a:Int)<((x8 c u a u.ah.length).dI.length:Int):=g;omega
    have j:(x8 c u a u.ah.length).dI.getD a []=u.dI.getD a []:=KL _ _ _ _<|adp a;have H:=bw (d:=([]:hO)) N;have w:aM Tryz.prog 26 [.s<|u.dI.getD a [],.s<|c.getD u.out.toNat []] (.s<|qt<|bV ((Pl.acP a).g<|x8 c u a u.ah.length)*vQ c u.out):=by rw[show(Pl.acP a).g (x8 c u a u.ah.length)=_ from j];exact adG (D.dI _ H) (l3 _ H) F Q
    refine r1 W (by simp only[bo,and_true,ad2,hW,L]<;>omega) ?_;rw[hW,ea,j];refine bH W w W<|k1 W aW (by simp only[bo,and_true,ad2,hW,L]<;>omega) ?_;rw[hW];exact vf (a+1) E E ⟨⟨W,W,.refl _⟩,kL,⟨W,W,.row<|by rw[<-adB c u a u.ah.length N];exact ac1<|acZ W⟩,kL,⟨W,W,.refl _⟩,⟨W,W,.refl _⟩,⟨W,W,.refl _⟩,⟨W,W,.refl _⟩,⟨W,W,.refl _⟩,U⟩
   have eA:a=u.dI.length:=by have g:¬(a:Int)<((x8 c u a u.ah.length).dI.length:Int):=g;omega
   subst eA;refine r0 W ?_;rw[adJ];exact⟨_,W,⟨kL,⟨W,W,.refl _⟩,kL,⟨W,W,.refl _⟩,⟨W,W,.refl _⟩,⟨W,W,.refl _⟩,⟨W,W,.refl _⟩,U⟩⟩
  rw[e1];refine r1 W ba<|gS (i+1) E
 have e:RL (scU c) p.aa i=p.aa.mapIdx (scU c):=by have g:¬(i:Int)<((RL (scU c) p.aa i).length:Int):=g;rw[show i=p.aa.length from E,acY]
 rw[e];refine bN W W
end Go.Ai.Pg
