/- ScaleRanges holds of the program, under no condition. -/
import Derived.Test.YtacjimehcbbkbaaGreatDoorRZAJ
import Derived.Shelf.SlSortCmp.NoneTotal
import Derived.Shelf.SlicesG.Cmp
import Derived.Ground.SlsfProg
import Derived.Ground.SlgcProg
set_option linter.all false
set_option maxRecDepth 100000
set_option maxHeartbeats 0
open Go.Proofs Go.Ai Go.Ai.bG Go.RowKit Go.Proofs.Tryz
noncomputable section
namespace Go.Ai.Pg
def nG(m:Nat):L cq:=if h:m=0 then[]else if m/10^18=0 then[decl m 1]else decl (m%10^18) 18::nG (m/10^18)
 termination_by m
 decreasing_by exact afA (afF h) fV
def E5:nG 0=[]:=by rw[nG];simp
def yP{m:Nat}(h:m≠0)(a:m/10^18=0):nG m=[decl m 1]:=by rw[nG,dif_neg h,aas a]
def yO{m:Nat}(a:m/10^18≠0):nG m=decl (m%10^18) 18::nG (m/10^18):=by
 have h:m≠0:=by rintro rfl;exact a W
 rw[nG,dif_neg h,aaq a]
def Nk(m:Nat)(h:m≠0):(nG m).reverse.flatten=decl m 1:=by
 induction m using Nat.strongRecOn with
 |ind m c=>
  by_cases a:m/10^18=0;rw[yP h a];simp;rw[yO a,List.reverse_cons,List.flatten_append,c _ (afA E fV) a];have hs:=wV (q:=m/10^18) E 18 (m%10^18) 1 (acN _ fV);have e:m/10^18*10^18+m%10^18=m:=by have:=Nat.div_add_mod m (10^18);have b:(10:Nat)^18=10^18:=fV;rw[b];omega
  rw[e]at hs;rw[hs,show 1-18=0 from fQ,yG E];simp
def aci{m:Nat}(h:m≠0):nG m≠[]:=by by_cases a:m/10^18=0;rw[yP h a];simp;rw[yO a];simp
def Rj(m:Nat):∀(k:Nat),m<1000000000000000000^k->(nG m).length<=k:=by
 induction m using Nat.strongRecOn with
 |ind m c=>
  intro k a;by_cases h:m=0;subst h;rw[E5];simp;cases k with
  |zero=>simp at a;omega
  |succ k=>
   by_cases b:m/10^18=0;rw[yP h b];simp;rw[yO b,abo];have:=c (m/10^18) (afA E fV) k (by rw[afi]at a;exact Nat.div_lt_of_lt_mul<|by rw[aen];exact a)
   omega
def ac1:(10:Nat)^18=10^18:=fV
def ZC{m:Nat}(h:m<10^18):(decl m 1).length<=18:=dE m 1 18 (by rw[ac1];exact h) fV
def WE:∀j,decl 0 j=List.replicate j 48
 |0=>c7
 |j+1=>by rw[bC E,show(0:Nat)/10=0 from fQ,show j+1-1=j from E,WE j,List.replicate_succ'];rfl
def Pp(m:Nat):∀k,1<=k->(decl m 1).length<=k->decl m k=List.replicate (k-(decl m 1).length) 48++decl m 1:=by
 induction m using Nat.strongRecOn with
 |ind m b=>
  intro k e hl;have a:decl m 1=decl (m/10) 0++[TU<|m%10]:=bC E;rw[bC (n:=m) (k:=k) E];by_cases h:m/10=0;rw[a,h,c7,WE];simp;have d:decl (m/10) 0=decl (m/10) 1:=yG E;rw[a,d]at hl⊢;rw[acU,List.length_singleton]at hl⊢;have c:1<=(decl (m/10) 1).length:=by rw[bC E];simp
  rw[b (m/10) (afA E fV) (k-1) E E];rw[show k-1-(decl (m/10) 1).length=k-((decl (m/10) 1).length+1)from E,acT]
def MW:bG.ah (10^18)=[10^18]:=oF (f:=10^18) fV fV
def DS{M K:Nat}(h:(bG.ah M).length<=K):M<100000000000000000000^K:=by
 have a:=bG.cu M;have b:∀(B n:Nat),(M:Int)<(B:Int)^n->M<B^n:=λB n h=>by exact_mod_cast h
 have e:=b 18446744073709551616 _ a;have d:18446744073709551616^(bG.ah M).length<=18446744073709551616^K:=adi fV h;have c:18446744073709551616^K<=100000000000000000000^K:=agj fV K;omega
def Kz{M K:Nat}(h:(bG.ah M).length<=K)(a:1<=K):(decl M 1).length<=20*K:=by
 have:=DS h;have e:100000000000000000000^K=10^(20*K):=by rw[agh]
 rw[e]at this;exact dE M 1 _ this E
def RQ(a:Nm)(h:bu a){K:Nat}(hl:gj a K)(hK:K<2^36):ab 232 [pI a] (.s<|bS<|nv a):=by
 have J:=bG.dX a h;obtain⟨s,w⟩:=a;cases w with
 |none=>have h: -9223372036854775808<=s/\s<=9223372036854775807:=h;refine cp func232 W<|ck W W (Js s h.1 h.2) W<|cg W W
 |some d=>
  obtain⟨o,v⟩:(s=1\/s= -1)/\9223372036854775808<=d:=h;obtain⟨M,y⟩:∃M,M=(nv ⟨s,some d⟩).natAbs:=⟨_,W⟩;have X:M=d:=by
   rw[y];show(s*d).natAbs=d
   grind
  have hl:(bG.ah M).length<=K:=by rw[y];exact hl
  rw[<-y]at J;have f:M≠0:=E;refine cp func232 W ?_;have C:bG.ah d≠[]:=by intro e;have:=bG.bA d;rw[e]at this;simp[bG.val]at this;omega
  refine r1 W (by simp only[aj,aag];exact C) ?_;refine bW W J W<|r0 W<|sY [(3,.u<|decide (s<0)),(4,fS<|bG.ah M),(5,fS<|bG.ah 1000000000000000000),(6,.strs true [])] ⟨ak,ak,⟨W,W,.shr<|by rw[MW];rfl⟩,⟨W,W,.le<|show aw .nil (.strs true [])from W⟩,U⟩ ?_;refine lp (λ(m:Nat)(c:L cq)=>[(3,.u<|decide (s<0)),(4,fS<|bG.ah m),(5,fS<|bG.ah 1000000000000000000),(6,.strs true c)]) (λm c=>c++nG m=nG M/\m<=M) (λm _=>m) M [] ⟨W,aaU _⟩ ⟨G,G,G,G,U⟩ ?_;rintro m c⟨z,hm⟩;refine cm W W ?_ ?_<;>intro g;have g:0<m:=by rcases aeg m with h|h;subst h;have g:(0:Int)<((bG.ah 0).length:Int):=g;rw[bG.c6]at g;simp at g;exact h
  have D:(bG.ah m).length<2^40:=by
   have:(bG.ah m).length<=(bG.ah M).length:=by apply afw;intro h;have:=bG.cO<|Nat.lt_of_not_le h;omega
   omega
  obtain⟨r,H⟩:∃r,r=m%1000000000000000000:=⟨_,W⟩;obtain⟨q,x⟩:∃q,q=m/1000000000000000000:=⟨_,W⟩;have p:r<1000000000000000000:=E;have A:=ZC p;have B:q<m:=E;have j:nG m=(if q=0 then decl r 1 else decl r 18)::nG q:=by
   by_cases h:q=0;rw[aas h,yP E<|by rw[<-x];exact h,h,E5]
   grind
   rw[aaq h,yO<|by rw[<-x];exact h,H,x]
  have Y:c.length+1<=2*K:=by
   have e:=aaf List.length z;rw[j,acU,abo]at e;have o:=DS hl;have v:M<1000000000000000000^(2*K):=by refine acW o ?_;rw[agh];exact agj fV K
   have:=Rj M (2*K) v;omega
  refine ck W W (yE m 1000000000000000000 fV D<|by rw[MW];decide) W ?_;rw[<-x,<-H];refine rn 6 W<|cQ 2 [(3,.u<|decide (s<0)),(5,fS<|bG.ah 1000000000000000000),(6,.strs true c),(7,fS<|bG.ah q),(9,.s<|decl r 1)] True ?_ λ_=>?_;refine cm W W ?_ ?_<;>intro g1;have k:0<r:=by rcases aeg r with h|h;rw[h]at g1;have g1:(0:Int)<((bG.ah 0).length:Int):=g1;rw[bG.c6]at g1;simp at g1;exact h
  have O:=oF k E;rw[O];refine r1 W (by simp only[aj,aag]<;>simp) ?_;refine bW W (adX r E) W<|r0 W<|bm U;have k:r=0:=by rcases aeg r with h|h;exact h;exact aaF (show(0:Int)<((bG.ah r).length:Int) by have:=bG.gF (n:=r) E;omega) g1
  refine r0 W ?_;rw[k];exact eU U ⟨G,G,G,G,⟨W,aij SV.s<|by rw[bC E];simp[c7];rfl⟩,U⟩;refine cQ 1 [(3,.u<|decide (s<0)),(5,fS<|bG.ah 1000000000000000000),(6,.strs true c),(7,fS<|bG.ah q),(9,.s<|if q=0 then decl r 1 else decl r 18)] True ?_ λ_=>?_;refine cm W W ?_ ?_<;>intro g1;have l:¬q=0:=by intro h;rw[h]at g1;have g1:(0:Int)<((bG.ah 0).length:Int):=g1;rw[bG.c6]at g1;simp at g1
  refine r1 W bk<|Gm (us:=[.s [48],.i (18-(decl r 1).length:Nat)]) W W U ⟨W,aaf SV.i E,U⟩ (abp _ E) W<|r1 W (by simp only[aj,aag]<;>simp<;>omega) ?_;refine eU U ⟨G,G,G,G,⟨W,aij SV.s ?_⟩,U⟩;rw[aaq l,Pp r 18 fV A];have l:q=0:=by rcases aeg q with h|h;exact h;exact aaF (show(0:Int)<((bG.ah q).length:Int) by have:=bG.gF (n:=q) E;omega) g1
  refine b8 W U ⟨G,G,G,G,⟨W,aij SV.s<|by rw[aas l]⟩,U⟩;refine r1 W (by simp only[aj,aag,abo,acC]<;>omega) ?_;refine again (q,c++[if q=0 then decl r 1 else decl r 18]) B ⟨by rw[<-z,j];simp,E⟩ ⟨G,G,G,G,U⟩;have g:m=0:=by rcases aeg m with h|h;exact h;exact aaF (show(0:Int)<((bG.ah m).length:Int) by have:=bG.gF (n:=m) E;omega) g
  subst g;rw[E5,afd]at z;subst z;have V:∀t,((if s<0 then[45]else[])++((nG M).drop t).reverse.flatten).length<=20*K+1:=by
   intro t;have F:1<=K:=by have:=bG.gF (n:=M) f;omega
   have o:=Kz hl F;rw[<-Nk M f]at o;have v:(nG M).reverse=((nG M).drop t).reverse++((nG M).take t).reverse:=by simp
   grind
  have R:=aci f;have P:(nG M).length<=2*K:=by
   have o:=DS hl;have v:M<1000000000000000000^(2*K):=by refine acW o ?_;rw[agh];exact agj fV K
   exact Rj M (2*K) v
  have T:0<(nG M).length:=by grind
  refine rn 2 W<|Xj (λb=>FI b []) W W (zs:=#[.pointer none,.slice none 0 0]) (λw=>fQ) (λb w S h=>FI.new b w S h) λb=>?_;refine cQ 1 [(6,.strs true<|nG M),(10,.pv (·=.pointer (some ⟨b,0,none⟩))),(1000000,.abs<|FI b<|if s<0 then[45]else[])] True ?_ λ_=>?_;refine cm W W ?_ ?_<;>intro g1;refine r0 W<|Ht W W U (wE b [] [45] fV) (J':=FI b [45]) (r:=.bU [.i 1,.c .nilIface]) W<|r0 W ?_;rw[aas g1];exact eU U ⟨G,G,W,U⟩;refine r0 W ?_;rw[aaq g1];exact eU U ⟨G,G,W,U⟩;refine r1 W bk<|loop (λt:Nat=>[(6,.strs true<|nG M),(10,.pv (·=.pointer (some ⟨b,0,none⟩))),(11,.i<|(t:Int)-1),(1000000,.abs<|FI b<|(if s<0 then[45]else[])++((nG M).drop t).reverse.flatten)]) (λt=>t<=(nG M).length) (λt=>t) (nG M).length (aaU _)
   ⟨G,G,G,(by show SV.abs _=SV.abs _;simp),U⟩ ?_
  intro t ht;refine cm W W ?_ ?_<;>intro g1;obtain⟨t,rfl⟩:∃u,t=u+1:=⟨t-1,E⟩;have N:(((t+1:Nat):Int)-1).toNat=t:=E;refine r1 W (by simp only[aj,aag,N];omega) ?_;rw[N];have eg:(nG M).getD t []=(nG M)[t]:=az E;have O:(nG M).drop t=(nG M)[t]::(nG M).drop (t+1):=acJ E;have Z:((if s<0 then[45]else[])++((nG M).drop<|t+1).reverse.flatten)++(nG M)[t]=(if s<0 then[45]else[])++((nG M).drop t).reverse.flatten:=by grind
  rw[eg];refine Ht W W U (wE b _ (nG M)[t] (by grind)) (J':=FI b<|((if s<0 then[45]else[])++((nG M).drop<|t+1).reverse.flatten)++(nG M)[t]) (r:=.bU [.i ((nG M)[t].length:Int),.c .nilIface]) W ?_
  rw[Z];refine r1 W bk<|again t E E ⟨G,G,⟨W,aij SV.i E⟩,W,U⟩;have:t=0:=E;subst this;rw[aeW,Nk M f];have i:(if s<0 then[45]else[])++decl M 1=bS (nv ⟨s,some d⟩):=by
   unfold bS;rw[<-y];have hv:nv ⟨s,some d⟩=s*d:=W
   grind
  rw[i];refine r0 W<|Ht W W U (Bu b _ (by rw[<-i];intro e;have:=aaf List.length e;rw[acU,bC E]at this;simp at this)) (J':=acF) (r:=.s<|bS<|nv ⟨s,some d⟩) W<|cg W W
def xh(a:Nm)(h:bu a){K:Nat}(hl:gj a K)(b:K<2^36):ab 232 [eN a] (.s<|bS<|nv a):=(RQ a h hl b).same (by simp only[aB,sN h]) W
def Ra{f:Fr}{q:Rat}(h:cL f q):(f.d.w=none/\f.d.s=1)↔q.den=1:=by
 have a:=h.vd;have b:=h.d;obtain⟨n,d,w⟩:=f;cases w with
 |none=>have a:d=q.den:=a;simp;omega
 |some m=>have b:(d=1\/d= -1)/\9223372036854775808<=m:=b;have a:d*(m:Int)=q.den:=a;simp;rcases b.1 with rfl|rfl<;>omega
def jK{z:Int}{K:Nat}(h:(bG.ah z.natAbs).length<=K):(bS z).length<=20*(K+1)+1:=by have:=Kz (M:=z.natAbs) (K:=K+1) E E;unfold bS;split;rw[abo];omega;omega
def NW(f:Fr){q:Rat}(h:cL f q){K:Nat}(hl:mc f K)(b:K<2^36):ab 183 [eF f] (.s<|qt q):=by
 have a:=xh f.n h.n hl.1 b;have c:=xh f.d h.d hl.2 b;rw[h.vn]at a;rw[h.vd]at c;have n1:=jK (show(bG.ah q.num.natAbs).length<=K by rw[<-h.vn];exact hl.1);have e:=jK (show(bG.ah (q.den:Int).natAbs).length<=K by rw[<-h.vd];exact hl.2);refine cp func183 W<|ck W W (zY f h) W<|bY W ?_ ?_<;>intro g;have g:=(Ra h).1 g;refine ck W W a W<|b7 W W<|aij SV.s ?_;unfold qt vo eG;rw[aas g];simp;have g:¬q.den=1:=λd=>g<|(Ra h).2 d;refine cj W W a W<|r1 W (by simp only[aj,aag,abo,acC];omega) ?_;refine bX W c W<|k1 W aP (by simp only[aj,aag,acU,abo,acC];omega) ?_;refine aH W<|aij SV.s ?_;unfold qt vo eG;rw[aaq g];have:bS (q.den:Int)=decl q.den 1:=by unfold bS;rw[aaq E];rfl
 rw[this];simp
def YO{o:Oper}{x y:Operand}{a b:cq}{u:TypeId}(k:o.op=.binOp .neq 44 x y u):ji prog o [] [.agg [.s a,.s b],.agg [.s a,.s b]] [] (.b false):=by
 refine mN W W I ?_;intro w S m A hc j c;have g:prog.underlying 44=some (.struct<|prog.fieldsOf 44):=aP;have z:prog.stoodInHeld 44=false:=aP;have t:m=[.agg #[.string (bs a),.string<|bs b],.agg #[.string (bs a),.string<|bs b]]:=by
  simp only[aB,SV.den,Cells,Rel]at hc;obtain⟨p,M,Y,X,rfl,-,-,f,n,K,V,T,rfl,-,-,e,rfl,-⟩:=hc;have key:∀(v:Value)(F:L Nat),(∃i:Array Value,v=.agg i/\Cells w S true [.v<|.string<|bs a,.v<|.string<|bs b] i.toList F)->v=.agg #[.string (bs a),.string<|bs b]:=by rintro v F⟨⟨i⟩,rfl,h⟩;simp only[Cells,Rel]at h;obtain⟨H,m1,R,P,l,-,-,r1,D,J,O,N,C,-,-,q,B,-⟩:=h;rw[r1.2.1,C,q.2.1,B]at l;rw[l]
  rw[key p _<|by simp only[Cells,Rel];exact f,key n _<|by simp only[Cells,Rel];exact e]
 have r:j x=.agg #[.string (bs a),.string<|bs b]/\j y=.agg #[.string (bs a),.string<|bs b]:=by
  have:o.op.operands.toList=[x,y]:=by rw[k];rfl
  rw[this,t]at c;simp[acK,afu,List.cons.injEq,aag]at c;exact c
 have d:(binOp .neq 44 (.agg #[.string (bs a),.string<|bs b])<|.agg #[.string (bs a),.string<|bs b]).run prog w=.ok (.bool false) w:=by
  rw[run_neq_struct,show(10000:Nat)=9999+1 from W,run_equalIn_agg w 9999 44 _ _ g z];simp[Program.fieldsOf,underlying44]
  go_simp
 refine⟨.value<|.bool false,.bool false,w,?_,.inl W,S,[],⟨W,W,W,aaU _,λ_ _=>rfl⟩,λ_ h=>h,λ_ h=>.inl h,λb h=>A b h,by simp[SV.den,Rel,scalar],acP,I⟩;simp[execOp,k,r,run_eqGuard_agg,hm,d]
end Go.Ai.Pg
section
namespace Go.Lib
open Go.Proofs Go.Proofs.Tryz
variable{P:Program}{w:World}
def IP(t ty e:TypeId)(i:TypeInfo)(z:Value)(B:P.underlying t=some (.slice e))(hi:P.info? e=some i)(D:i.zero=some z)(s:z.cells.size=1)
 (a:i.size=1)(o:i.bytes=1)
 (v:Value)(n:Nat)(xs:L Value)(d:w.ownsRow 0 e 1 v n xs)(q:Addr)(c:Nat)(u:Value)(hu:w.cell? (q.add 0)=some u)(Z:u.oneCell'=true)
 (y:n+1<=maxLen)(C:n+1<=140737488355328):
 ∃r w',(Builtin.append_ #[t,t] ty #[v,.slice (some q) 1 c]).run P w=.ok r w'/\w'.ownsRow 0 e 1 r (n+1) (xs++[u])/\w.grownBy w' v.ownBlock/\(∀g,r.ownBlock=some g->v.ownBlock=some g\/w.heap.size<=g):=by
 have b:∀j x,[u][j]?=some x->w.cell? (q.add j)=some x:=λj x hj=>by grind
 have p:∀x∈[u],x.oneCell'=true:=by simpa using Z
 obtain⟨r,w',k1,k2,k3,-⟩:=run_append_own (P:=P) w 0 t ty e i z 1 1 B hi D a o s fV v n xs d q 1 c [u] W b p y E<|aaQ _;refine⟨r,w',k1,k2,k3,λg' f=>?_⟩;have R:xs.length=n:=by simpa using d.1
 rcases d.2 with⟨rfl,rfl⟩|⟨g,h,A,rfl,X,T,S,V,H,F⟩;have m:w.ownsRow w.heap.size e 1 (.slice none 0 0) 0 xs:=⟨d.1,.inl G⟩;obtain⟨v2,w2,J,O,-,-⟩:=run_append_own (P:=P) w w.heap.size t ty e i z 1 1 B hi D a o s fV _ 0 xs m q 1 c [u] W b p y E<|aaU _;rw[k1]at J;obtain⟨rfl,rfl⟩:=J;rcases O.2 with⟨rfl,-⟩|⟨g2,N,M,rfl,Y,-⟩;simp[Value.ownBlock]at f;simp[Value.ownBlock,aaP]at f;omega;by_cases k:n+1<=h;have K:A.size=h:=by simpa using H
 have l:=run_append_room (P:=P) w t ty e i B hi g n h A T q 1 c [u] (by rw[a];rfl) b p k (by rw[a];simp;omega);rw[k1]at l;simp[Result.ok.injEq]at l;obtain⟨rfl,-⟩:=l;left;simpa[Value.ownBlock]using f;have holds:∀j x,xs[j]?=some x->w.cell? ((⟨g,0,none⟩:Addr).add j)=some x:=d.cells (g:=g) W;have l:=run_append_grow (P:=P) w t ty e i z B hi D ⟨g,0,none⟩ n h xs fP holds q 1 c [u] (by rw[a];rfl) b E E<|growslice_fits E<|by rw[o];omega
 rw[k1]at l;simp[Result.ok.injEq]at l;obtain⟨rfl,-⟩:=l;right;simp[Value.ownBlock,aaP]at f;omega
def B3{ops:Array Oper}{rest:L Oper}{o:Oper}{a:Act}{Q:Exit->Act->World->Prop}(p:o.guard=none)(sl x:Operand)(t:TypeId)
 (D:o.op=.call {callee:=.builtin .append,args:=#[sl,x],argTypes:=#[t,t]})
 (e:TypeId)(i:TypeInfo)(z:Value)(B:P.underlying t=some (.slice e))(hi:P.info? e=some i)(y:i.zero=some z)(m:z.cells.size=1)
 (d:i.size=1)(q:i.bytes=1)
 (v:Value)(n:Nat)(l:L Value)(hs:a.eval sl=v)(k:w.ownsRow 0 e 1 v n l)(s:Addr)(c:Nat)(u:Value)(A:a.eval x=.slice (some s) 1 c)(hu:w.cell? (s.add 0)=some u)(N:u.oneCell'=true)
 (r:n+1<=maxLen)(b:n+1<=140737488355328)
 (h:∀j f,f.ownsRow 0 e 1 j (n+1) (l++[u])->w.grownBy f v.ownBlock->(∀g,j.ownBlock=some g->v.ownBlock=some g\/w.heap.size<=g)->wpList P ops Q rest (a.put o.dst j) f):wpList P ops Q (o::rest) a w:=by
 refine wpList_plain p λK F=>?_;obtain⟨j,f,C,M,J,H⟩:=IP (P:=P) (w:=w) t o.type e i z B hi y m d q v n l k s c u hu N r b;unfold Oper.wp execOp;simp[D,resolve,invoke,builtin,hs,A,C];exact F _ _<|h j f M J H
end Go.Lib
namespace Go.Proofs
open Go.Shelf Go.RowKit Go.Sort Go.Lib Go.Proofs.Tryz
theorem Tryz.wrB(b:Nat)(p v:Value)(bs:List Value)(c:UInt8)(w:World)(hp:p=.pointer none\/p=.pointer (some ⟨b,0,none⟩))(hbk:w.heap[b]?=some (.cells #[p,v] 375 (0,0)))(hown:w.ownsRow 0 5 1 v bs.length bs)(hne:v.ownBlock≠some b)(hl:bs.length<2^46):
 Calls Tryz.prog 342 #[.pointer (some ⟨b,0,none⟩),.int .u8 (c.toNat:Int)] w λe w'=>e=.returned .nilIface/\∃v',w'.heap[b]?=some (.cells #[.pointer (some ⟨b,0,none⟩),v'] 375 (0,0))/\
  w'.ownsRow 0 5 1 v' (bs.length+1) (bs++[Value.int .u8 (c.toNat:Int)])/\v'.ownBlock≠some b/\(∀g,v'.ownBlock=some g->v.ownBlock=some g\/w.heap.size<=g)/\
  w'.os=w.os/\w'.tape=w.tape/\w'.output=w.output/\w.heap.size<=w'.heap.size/\∀k,k<w.heap.size->k≠b->v.ownBlock≠some k->w'.heap[k]?=w.heap[k]?:=by
 have hib:(Tryz.prog.info? 5).map (λi=>(i.zero,i.size,i.bytes))=some (some<|.int .u8 0,1,1):=by kernel_rfl
 obtain⟨i0,hi,hz0,hz1,hz2⟩:=info_parts hib
 go_enter Tryz.func342,Tryz.ntmps342
 go_wp2_with (go_at_call 338;refine(Tryz.cc b p v bs _ hp hbk hown hne).mono ?_)
 rintro e w1⟨rfl,hbk,hown,hg1⟩;have c0:w1.cell? ⟨b,0,none⟩=some (.pointer<|some ⟨b,0,none⟩):=by rw[Lib.cell_of_heap hbk];rfl
 have c1:w1.cell? ⟨b,1,none⟩=some v:=by rw[Lib.cell_of_heap hbk];rfl
 go_wp2_with (at_builtin;refine Lib.B3 rfl _ _ 373 rfl 5 i0 (.int .u8 0) Tryz.underlying373 hi hz0 rfl hz1 hz2 _ _ _ rfl (hown.alloc _) _ _ (Value.int .u8 (c.toNat:Int)) rfl ?c5 rfl ?c3 ?c4 ?_)
 case c3=>unfold maxLen;omega
 case c4=>omega
 case c5=>show(w1.alloc<|.cells #[.int .u8 (c.toNat:Int)] 5).cell? ⟨w1.heap.size,0,none⟩=_;simp
 intro v' w2 hown' hgrow hnew;have hlt:b<w1.heap.size:=by grind
 have hga:=World.grownBy_alloc w1 (.cells #[.int .u8 (c.toNat:Int)] 5) none;have hb1:(w1.alloc<|.cells #[.int .u8 (c.toNat:Int)] 5).heap[b]?=some (.cells #[.pointer (some ⟨b,0,none⟩),v] 375 (0,0)):=by rw[hga.block b hlt<|by simp];exact hbk
 have hb2:w2.heap[b]?=some (.cells #[.pointer (some ⟨b,0,none⟩),v] 375 (0,0)):=by rw[hgrow.block b (by have:=hga.size;omega) λe=>hne e.symm];exact hb1
 have d0:w2.cell? ⟨b,0,none⟩=some (.pointer<|some ⟨b,0,none⟩):=by rw[Lib.cell_of_heap hb2];rfl
 have d1:w2.cell? ⟨b,1,none⟩=some v:=by rw[Lib.cell_of_heap hb2];rfl
 have f1:w2.frozen? ⟨b,1,none⟩=false:=Lib.frozen_of_heap hb2 1;obtain⟨ao,n',cap,rfl⟩:∃ao n' cap,v'=.slice ao n' cap:=by
  rcases hown'.2 with⟨hv,_⟩|⟨g,cap,cur,hv,_⟩
  ·exact⟨_,_,_,hv⟩
  simp_all
 go_wp2
 go_ret
 have hne':=Lib.ownBlock_ne hown' hb2 (by decide:(375:TypeId)≠5);have hg3:w2.grownBy (w2.setCell ⟨b,1,none⟩<|.slice ao n' cap) (some b):=⟨rfl,rfl,rfl,by simp[World.setCell],λk _ hk=>Below.heap_setCell _ _ _ _ λe=>hk<|by simp[e]⟩;have hs1:=hg1.size;have hs0:=hga.size;have hs2:=hgrow.size;have hs3:=hg3.size;refine⟨rfl,.slice ao n' cap,by simp[World.setCell,ag4,hb2],?_,hne',λg hg=>(hnew g hg).imp id λh=>by omega,?_,?_,?_,by omega,λk hk hkb hkv=>?_⟩
 ·exact hown'.kept (row:=some b) hg3 (Or.inr hne')
 ·exact((hg3.os.trans hgrow.os).trans hga.os).trans hg1.os
 ·exact((hg3.tape.trans hgrow.tape).trans hga.tape).trans hg1.tape
 ·exact((hg3.output.trans hgrow.output).trans hga.output).trans hg1.output
 have e1:some k≠some b:=λe=>hkb (by simpa using e);rw[hg3.block k (by omega) e1,hgrow.block k (by omega) λe=>hkv e.symm,hga.block k (by omega)<|by simp,hg1.block k hk e1]
end Go.Proofs
namespace Go.Ai.Pg
open Go.Proofs Go.Ai Go.Ai.bG Go.Proofs.Tryz
def SI(b:Nat)(l:cq)(c:UInt8)(hl:l.length+1<2^46):TN prog 342 (·=.pointer (some ⟨b,0,none⟩)) (FI b l) (FI b<|l++[c]) (aB [.n .u8 (c.toNat:Int)]) (SV.c .nilIface).den:=by
 rintro v rfl w S F N T R D u V C hc;obtain⟨p,v,s,B,t,i,rfl⟩:=D w S (λ_ _=>rfl) λ_ h=>h;obtain⟨y,O,F1,Z,rfl,H,_,q,rfl,rfl⟩:=hc;obtain⟨_,rfl,rfl⟩:=q;refine qD.lS (fn:=Tryz.f342) func342 W W<|(Tryz.wrB b p v (Lib.byteCells l) c w s B t i<|by rw[Lib.byteCells_length];omega).mono ?_;rintro e f⟨rfl,d,k1,k2,k3,k4,k5,k6,k7,k8,k9⟩;have o:Lib.byteCells l++[.int .u8 (c.toNat:Int)]=Lib.byteCells (l++[c]):=by rw[Lib.byteCells_append];rfl
 rw[o,show(Lib.byteCells l).length+1=(Lib.byteCells<|l++[c]).length by rw[<-o];simp]at k2;have A:b<f.heap.size:=by grind
 have j:FI b (l++[c]) f S (b::d.ownBlock.toList):=⟨_,d,.inr W,k1,k2,k3,W⟩;have z:∀g,d.ownBlock=some g->g<f.heap.size:=by intro g m;rcases k2.2 with⟨rfl,-⟩|⟨X,K,J,rfl,-,r,-⟩;simp[Value.ownBlock]at m;simp[Value.ownBlock,aaP]at m;grind
 refine⟨_,W,S,b::d.ownBlock.toList,k5,k6,k7,k8,λk x a=>k9 k x (λe=>a<|by simp[e]) λe=>a<|by simp[e],λ_ h=>h,λ_ h=>.inl h,λc hc=>acW (C c hc) k8,j.closed,?_,?_,?_⟩
 grind
 grind
 intro M Y;simp[SV.den,Rel];simp[scalar]
end Go.Ai.Pg
end
namespace Go.Ai.Pg
def LZ:∀(a b:L Int),fw (a++b)=fw a++fw b
 |[],b=>rfl
 |k::a,b=>by simp[fw,LZ a b]
def SU{pw:L Int}{t:Nat}(h:t<pw.length):fw (pw.take<|t+1)=fw (pw.take t)++bS pw[t]++[32]:=by rw[ace h,LZ];simp[fw]
def VL{pw:L Int}(a:∀x∈pw,0<=x/\x<2147483648):(fw pw).length<=30*pw.length:=by
 induction pw with
 |nil=>simp[fw]
 |cons x l b=>have:=b λy c=>a y (by simp[c]);have d:=a x I;have e:=Go.Ai.jK x (k:=3)<|Go.Ai.fX E;simp[fw];omega
def adO(pw:L Int)(i:pw≠[])(hl:pw.length<2^20)(c:∀x∈pw,0<=x/\x<2147483648):ab 306 [fO pw] (.s<|fw pw):=by
 refine cp func306 W<|rn 5 W<|Xj (P:=prog) (λb=>FI b []) W W (zs:=#[.pointer none,.slice none 0 0]) (λw=>fQ) (λb w S h=>FI.new b w S h) λb=>?_;refine eP W<|loop (λt:Nat=>[(6,fO pw),(7,.i pw.length),(3,.pv (·=.pointer (some ⟨b,0,none⟩))),(8,.i t),(1000000,.abs<|FI b<|fw<|pw.take t)]) (λt=>t<=pw.length) (λt=>pw.length-t) 0 (aaQ _)
  ⟨G,G,G,G,W,U⟩ ?_
 intro t g;refine cm W W ?_ ?_<;>intro g1;have e:(t:Int).toNat=t:=E;refine eP W ?_;have ev:pw.getD t 0=pw[t]'(by omega):=az E;rw[e,ev];have f:=c (pw[t]'(by omega)) I;have a:=SU (pw:=pw) (t:=t) E;have hn:=VL (pw:=pw.take<|t+1) λy d=>c y<|afB d;rw[a,acU,acU,ade]at hn;have hm:min (t+1) pw.length<=2^20:=E;simp[abo,acC]at hn;refine bW W (Js (pw[t]'(by omega)) E E) W<|Ht W W U (wE b (fw<|pw.take t) (bS<|pw[t]'(by omega)) E) (J':=FI b<|fw (pw.take t)++bS (pw[t]'(by omega))) (r:=.bU [.i (bS<|pw[t]'(by omega)).length,.c .nilIface]) W<|r0 W<|Ht W W U (SI b (fw (pw.take t)++bS (pw[t]'(by omega))) 32 (by grind)) (J':=FI b<|fw (pw.take t)++bS (pw[t]'(by omega))++[32]) (r:=.c .nilIface) W ?_;rw[<-a];refine eP W<|aM (t+1) E ⟨G,G,G,G,W,U⟩;have:t=pw.length:=E;subst this;rw[acS];refine r0 W<|Ht W W U (Bu b (fw pw)<|by cases pw<;>simp_all[fw]) (J':=acF) (r:=.s<|fw pw) W ?_;refine cg W W
def XI(w:World)(S:Nat->Prop):Rel w S (SV.agg [.i 0,.nil,.i 0,.nil,.nil]).den (.agg #[.int .i64 0,.slice none 0 0,.int .i64 0,.slice none 0 0,.slice none 0 0]) []:=⟨_,W,.int .i64 0,_,[],[],W,W,λ_=>rfl,lO,.slice none 0 0,_,[],[],W,W,λ_=>rfl,lO,.int .i64 0,_,[],[],W,W,λ_=>rfl,lO,.slice none 0 0,_,[],[],W,W,λ_=>rfl,lO,.slice none 0 0,_,[],[],W,W,λ_=>rfl,lO,W,W⟩
def aei(E:L Tm)(f:Fr)(pw:L Int){K:Nat}(g:cL f (fq f))(d:mc f K)(c:∀t∈E,t.ok/\mc t.f K)(l:K<2^32)(j:pw≠[])(hl:pw.length<2^20)(h:∀x∈pw,0<=x/\x<2147483648):
 iQ prog 235 [.mx<|lF E] [.bw 1000000 0 0 [],eF f,fO pw] [.mx<|lF<|lH f pw E] (.bU []):=by
 refine mF (fn:=Tryz.f235) func235 W W W W W<|ck W W (adO pw j hl h) W<|r0 W ?_;have a:=Mq pw E;cases hm:BH pw E with
 |some t=>rw[hm]at a;refine lk (.bU [eE t,.b true]) W W W (lV (k:=fw pw) (x:=eE t) underlying316 underlying9 a true) W<|r0 W ?_;have b:t∈E:=List.mem_of_find?_eq_some hm;refine bW W (Ey f t.f g (c t b).1 d (c t b).2<|by omega) W<|r0 W<|ex W W W (rY (k:=fw pw) (x:=eE ⟨tl f t.f,pw⟩) (.inr W) W underlying316 underlying9 W W) W ?_;rw[Hc hm];refine r0 W<|NJ [(1000000,.mx<|lF<|lH f pw E)] ⟨ak,U⟩ W (aw.refl _) ⟨G,U⟩
 |none=>rw[hm]at a;obtain⟨i,i1,e⟩:∃i,prog.info? 229=some i/\i.zero=some (.agg #[.int .i64 0,.slice none 0 0,.int .i64 0,.slice none 0 0,.slice none 0 0]):=⟨_,W,W⟩;refine lk (.bU [.agg [.i 0,.nil,.i 0,.nil,.nil],.b false]) W W W (uf (k:=fw pw) (x:=.agg [.i 0,.nil,.i 0,.nil,.nil]) underlying316 underlying9 a i1 e (λw S=>XI w S) true) W<|r0 W<|ex W W W (rY (k:=fw pw) (x:=eE ⟨f,pw⟩) (.inr W) W underlying316 underlying9 W W) W ?_;rw[Hd hm];refine r0 W<|NJ [(1000000,.mx<|lF<|lH f pw E)] ⟨ak,U⟩ W (aw.refl _) ⟨G,U⟩
def NM(E:L Tm)(done:L Nat):L Tm:=done.map λi=>E.getD i default
def Xd{E:L Tm}{done:L Nat}(hn:done.Nodup)(f:∀i∈done,i<E.length)(d:∀i,i<E.length->i∈done):(zQ<|NM E done).Perm (zQ E):=by
 have c:=(List.perm_ext_iff_of_nodup hn List.nodup_range).2 λi=>⟨λh=>afH.2<|f i h,λh=>d i<|afH.1 h⟩;have e:(List.range E.length).map (λi=>E.getD i default)=E:=by apply agd (by simp);intro i a b;simp[b]
 have:=(c.map λi=>E.getD i default).filter λt:Tm=>decide (fq t.f≠0);rw[e]at this;exact this
def FP{V:Nat}{L M:List Tm}(h:L.Perm M)(hl:∀u∈L,u.pw.length=V)(hn:(L.map (·.pw)).Nodup):mZ L=mZ M:=C7 (qM hl hn) (qM (λu hu=>hl u<|h.mem_iff.2 hu) ((h.map (·.pw)).nodup_iff.1 hn)) ((ie L).trans<|h.trans (ie M).symm)
def OD{E:L Tm}(h:(E.map (·.pw)).Nodup):((zQ E).map (·.pw)).Nodup:=h.sublist<|List.filter_sublist.map _
def YM{E:L Tm}{done:L Nat}(hn:(E.map (·.pw)).Nodup)(q:done.Nodup)(k:∀i∈done,i<E.length):(zQ<|NM E done).length<=(zQ E).length:=by
 have f:=agP.1 hn;have g:((NM E done).map (·.pw)).Nodup:=by unfold NM;rw[aer];refine ahl.2<|q.imp_of_mem λ{a b}p o j=>?_;have d:=k a p;have c:=k b o;show(E.getD a default).pw≠(E.getD b default).pw;rw[az d,az c];rcases Nat.lt_or_gt_of_ne j with h|h;have:=f a b (by simpa using d) (by simpa using c) h;simpa using this;have:=f b a (by simpa using c) (by simpa using d) h;intro e;simp_all
 have:=qU (l:=(zQ<|NM E done).map (·.pw)) (m:=(zQ E).map (·.pw)) (OD g) λx n=>by obtain⟨u,hu,rfl⟩:=abS.1 n;obtain⟨g1,g2⟩:=afZ.1 hu;obtain⟨i,hi,rfl⟩:=abS.1 g1;refine agb<|afZ.2 ⟨?_,g2⟩;simp_all
 simpa using this
def abx(A:∀{L:List Tm}{V:Nat},(∀u∈L,u.pw.length=V/\TL u.pw)->(L.map (·.pw)).Nodup->L.length<2^40->iQ prog 307 [aid L] [.bw 1000000 0 0 [],.fn (.func 308) [] []] [aid<|mZ L] (.bU []))
 (E:List Tm){K V:Nat}(v:∀t∈E,t.pw.length=V/\TL t.pw)(hn:(E.map (·.pw)).Nodup)(B:∀t∈E,t.ok/\mc t.f K)(hl:(zQ E).length<2^40):
 iQ prog 236 [.mx<|lF E] [.bw 1000000 0 0 []] [.dead] (aid<|mZ<|zQ E):=by
 refine mF (fn:=Tryz.f236) func236 W W W W W<|r0 W<|ex W W W (UY W underlying316) W<|r0 W<|ba (λdone:List Nat=>[(3,aid<|zQ<|NM E done),(7,.it (lF E) done)]) (λdone=>done.Nodup/\∀i∈done,i<E.length) (λdone=>E.length-done.length) [] ⟨by simp,by simp⟩ ?_;intro done o;refine rn 1 W<|adA W W W W W W (λi hi q=>?_) (λp=>?_)
 ·have n:i<E.length:=by simpa[lF]using hi
  have hm:=B E[i] (by simp);have c:(done++[i]).Nodup/\∀j∈done++[i],j<E.length:=⟨by rw[acH];simp;exact⟨o.1,λa z e=>q (e▸z)⟩,by simp;rintro j(h|rfl);exact o.2 j h;exact n⟩;have d:(done++[i]).length<=E.length:=by have:=qU (l:=done++[i]) (m:=List.range E.length) c.1 λj y=>afH.2<|c.2 j y;simpa using this
  have w:E.getD i default=E[i]:=az n;refine r0 W<|ex W W W (Ws (i:=i) (k:=fw E[i].pw) (x:=eE E[i]) W<|by simp[lF,n]) W<|ck W W (sE E[i].f hm.1) W<|cm W W ?_ ?_<;>intro g
  ·have C:(zQ<|NM E done).length<2^40:=by
    exact afC (YM hn o.1 o.2) hl
   refine r1 W (by simp[aj,aag,fk,abo,acC];omega) ?_;refine ko (done++[i]) (by simp at d⊢;omega) c ⟨⟨W,W,.row ?_⟩,ak,U⟩;rw[show zQ (NM E<|done++[i])=zQ (NM E done)++[E[i]] by unfold zQ NM;rw[acB,ahS,acK,w];have s:fq E[i].f≠0:=λh=>g (by rw[h];rfl);simp[s],dj,acB]
   exact mh.refl _
  refine r0 W ?_;have:zQ (NM E<|done++[i])=zQ (NM E done):=by
   unfold zQ NM;rw[acB,ahS,acK,w];have s:fq E[i].f=0:=by have g:¬¬(fq E[i].f).num.sign=0:=g;exact agX.1<|ahE.1<|agE.1 g
   simp[s]
  exact again (done++[i]) (by simp at d⊢;omega) c ⟨⟨W,by rw[this];exact aw.refl _⟩,G,U⟩
 have b:=Xd o.1 o.2 λi hi=>p i (by simpa[lF]using hi);have hm:∀u∈zQ (NM E done),u∈E:=λu hu=>(afZ.1<|b.mem_iff.1 hu).1;have c:((zQ<|NM E done).map (·.pw)).Nodup:=((b.map (·.pw)).nodup_iff).2<|OD hn;have r:(zQ<|NM E done).length<2^40:=by rw[b.length_eq];exact hl
 refine r0 W<|cr W W (A (λu hu=>v u<|hm u hu) c r) W ?_;rw[FP b (λu hu=>(v u<|hm u hu).1) c];refine r0 W<|NJ [(2,aid<|mZ<|zQ E),(1000000,.dead)] ⟨ak,ak,U⟩ W (aw.refl _) ⟨G,U⟩
def cM(f:Fr)(n:Nat):L Tm:=if fq f=0 then[]else[⟨f,List.replicate n 0⟩]
def sign_zero{q:Rat}:q.num.sign=0↔q=0:=⟨λh=>agX.1<|ahE.1 h,λh=>by rw[h];rfl⟩
def Px(f:Fr)(a:cL f (fq f))(n:Nat)(hn:0<n/\n<2^20):ab 328 [eF f,.i n] (aia<|cM f n):=by refine cp func328 W<|ck W W (sE f a) W<|cm W W ?_ ?_<;>intro g;have e:cM f n=[]:=aas<|sign_zero.1 g;rw[e];refine b7 W W W;have e:cM f n=[⟨f,List.replicate n 0⟩]:=aaq λh=>g<|sign_zero.2 h;rw[e];refine u6 W<|RY W lO
def vM(v n:Nat):L Tm:=[⟨⟨⟨1,none⟩,⟨1,none⟩⟩,(List.replicate n 0).set v 1⟩]
def NU(v n:Nat)(a:v<n)(hn:n<2^20):ab 225 [.i v,.i n] (aia<|vM v n):=by refine cp func225 W<|r1 W (by simp[aj];omega) ?_;refine bW W (f_s 1) W<|r0 W<|RY W lO
section
variable{l:L Tm}{K V:Nat}
def PwS(pw:L Int):Prop:=pw≠[]/\pw.length<2^20/\∀x∈pw,0<=x/\x<2147483648
structure rE(V K:Nat)(l:List Tm):Prop where
 tm:∀t∈l,t.ok/\mc t.f K/\PwS t.pw/\t.pw.length=V
 col:∀m,m <+:l->∀t∈ot m,t.ok/\mc t.f K
 len:l.length<2^60
 nz:(zQ<|ot l).length<2^40
def Ts(l:L Tm)(t:Tm):ot (l++[t])=lH t.f t.pw (ot l):=by unfold ot;simp
def NA{f:Fr}{pw:L Int}:∀{E:L Tm}{t:Tm},t∈lH f pw E->t.pw=pw\/∃u∈E,u.pw=t.pw
 |[],t,h=>by simp[lH]at h;subst h;exact .inl W
 |u::E,t,h=>by
  unfold lH at h;split at h
  grind
  rcases abm.1 h with rfl|h;simp;rcases NA h with h|⟨v,a,e⟩;exact .inl h
  grind
def NC(f:Fr)(pw:L Int):∀E:L Tm,(lH f pw E).length<=E.length+1
 |[]=>by simp[lH]
 |u::E=>by unfold lH;split<;>simp;exact NC f pw E
def acf:∀(l E:L Tm),(l.foldl (λE t=>lH t.f t.pw E) E).length<=E.length+l.length/\∀t∈l.foldl (λE t=>lH t.f t.pw E) E,(∃u∈l,u.pw=t.pw)\/∃u∈E,u.pw=t.pw
 |[],E=>⟨by simp,λt h=>.inr ⟨t,h,W⟩⟩
 |a::l,E=>by
  obtain⟨d,c⟩:=acf l<|lH a.f a.pw E;have:=NC a.f a.pw E;refine⟨by simp at d⊢;omega,λt b=>?_⟩;rcases c t b with⟨u,hu,e⟩|⟨u,hu,e⟩
  grind
  rcases NA hu with g|⟨v,i,g⟩;simp_all
  grind
def PS:Prop:=∀{a:L Tm}{V:Nat},(∀u∈a,u.pw.length=V/\TL u.pw)->(a.map (·.pw)).Nodup->a.length<2^40->iQ prog 307 [aid a] [.bw 1000000 0 0 [],.fn (.func 308) [] []] [aid<|mZ a] (.bU [])
def CE(c:PS)(h:rE V K l):iQ prog 236 [.mx<|lF<|ot l] [.bw 1000000 0 0 []] [.dead] (aid<|kd l):=by have hc:=acf l [];refine abx c (ot l) (K:=K) (V:=V) (λt a=>?_) (Kp.norm (V:=V) λt a=>⟨(h.tm t a).1,(h.tm t a).2.2.2⟩).nd (h.col l<|List.prefix_refl l) h.nz;rcases hc.2 t a with⟨u,hu,e⟩|⟨u,hu,-⟩;have:=h.tm u hu;rw[<-e];exact⟨this.2.2.2,this.2.2.1.2.1,λx b=>⟨(this.2.2.1.2.2 x b).1,by have:=(this.2.2.1.2.2 x b).2;omega⟩⟩;cases hu
def Fu(h:rE V K l)(b:K<2^32){m:L Tm}{t:Tm}(hm:m++[t] <+:l):
 iQ prog 235 [.mx<|lF<|ot m] [.bw 1000000 0 0 [],eF t.f,fO t.pw] [.mx<|lF<|ot<|m++[t]] (.bU []):=by
 have a:=h.tm t<|hm.subset I;rw[Ts];exact aei (ot m) t.f t.pw a.1 a.2.1 (h.col m<|(List.prefix_append _ _).trans hm) b a.2.2.1.1 a.2.2.1.2.1 a.2.2.1.2.2
def aeU(p q:L Tm):Nat->L Tm
 |0=>[]
 |1=>p
 |_=>p++q
def acz(j:PS)(p q:L Tm)(h:rE V K (p++q))(f:K<2^32):ab 294 [aia p,aia q] (aid<|kd<|p++q):=by refine cp func294 W<|r0 W<|ex W W W (sw (κ:=cq) W) W<|r0 W<|ba (λs:Nat=>[(5,.mx<|lF<|ot<|aeU p q s),(13,.row true 1 [aia p,aia q]),(14,.i 2),(15,.i s)]) (λs=>s<=2) (λs=>2-s) 0 fV ?_;intro s hs;refine cm W W ?_ ?_<;>intro g;have b:=h.len;rw[acU]at b;rcases(show s=0\/s=1 from E)with rfl|rfl;refine r1 W (by simp[aj,len])<|ba (λi:Nat=>[(5,.mx<|lF<|ot<|[]++p.take i),(13,.row true 1 [aia p,aia q]),(14,.i 2),(15,.i 0),(19,aia p),(20,.i p.length),(21,.i i)]) (λi=>i<=p.length) (λi=>p.length-i) 0 (aaQ _) ?_;intro i hi;refine cm W W ?_ ?_<;>intro g1;have a:i<p.length:=E;have d:(i:Int).toNat=i:=E;have e:p.getD i default=p[i]:=az a;have c:[]++p.take (i+1)=[]++p.take i++[p[i]]:=I;refine eP W ?_;rw[d,e];refine cr W W (Fu h f (m:=[]++p.take i) (t:=p[i])<|by grind) W ?_;rw[<-c];refine eP W<|aM (i+1) E;have:i=p.length:=E;subst this;rw[acS];refine eP W<|aM 1 E;refine r1 W (by simp[aj,len])<|ba (λi:Nat=>[(5,.mx<|lF<|ot<|p++q.take i),(13,.row true 1 [aia p,aia q]),(14,.i 2),(15,.i 1),(19,aia q),(20,.i q.length),(21,.i i)]) (λi=>i<=q.length) (λi=>q.length-i) 0 (aaQ _) ?_ (by simp only[ahq,afd];repeat(first|exact rrA|exact U|exact rfl|refine⟨?_,?_⟩));intro i hi;refine cm W W ?_ ?_<;>intro g1;have a:i<q.length:=E;have d:(i:Int).toNat=i:=E;have e:q.getD i default=q[i]:=az a;have c:p++q.take (i+1)=p++q.take i++[q[i]]:=I;refine eP W ?_;rw[d,e];refine cr W W (Fu h f (m:=p++q.take i) (t:=q[i])<|by rw[<-c];exact(List.prefix_append_right_inj p).2<|ahL _ _) W ?_;rw[<-c];refine eP W<|aM (i+1) E;have:i=q.length:=E;subst this;rw[acS];refine eP W<|aM 2 E;have:s=2:=E;subst this;refine r0 W<|cr W W (CE j h) W<|cg W W
end
def sM(a:Fr)(p:L Tm):L Tm:=p.map λt=>⟨jH t.f a,t.pw⟩
def Yj(a:Fr)(c:cL a (fq a))(p:List Tm){K L:Nat}(d:mc a L)(j:∀t∈p,t.ok/\mc t.f K)(k:K+L<2^38)(hl:p.length<2^40):ab 229 [aia p,eF a] (aid<|if fq a=0 then[]else sM a p):=by
 refine cp func229 W<|ck W W (sE a c) W<|cm W W ?_ ?_<;>intro g;rw[aas<|sign_zero.1 g];refine b7 W W W;rw[aaq λh=>g<|sign_zero.2 h];refine r0 W<|ba (λi:Nat=>[(3,.box true<|eF a),(5,aid<|sM a<|p.take i),(11,aia p),(12,.i p.length),(13,.i i)]) (λi=>i<=p.length) (λi=>p.length-i) 0 (aaQ _) ?_;intro i hi;refine cm W W ?_ ?_<;>intro g1;have b:i<p.length:=E;have l:(i:Int).toNat=i:=E;have m:p.getD i default=p[i]:=az b;have hm:=j p[i] I;refine eP W ?_;rw[l,m];refine bX W (lY p[i].f a hm.1 c hm.2 d k) W ?_;have e:(sM a<|p.take i).length<2^40:=by unfold sM;grind
 refine u6 W ?_ (by simp[aj,aag,fk,abo,acC];omega);refine ko (i+1) E E ⟨ak,⟨W,W,.row ?_⟩,ak,ak,ak,U⟩;rw[show sM a (p.take<|i+1)=sM a (p.take i)++[⟨jH p[i].f a,p[i].pw⟩] by unfold sM;rw[ace b,acB];rfl,dj,acB];exact mh.refl _;have:i=p.length:=E;subst this;rw[acS];refine cg W W
def aba{l:L Int}(h:∀x∈l,0<=x/\x<2147483648):0<=l.sum/\l.sum<=2147483648*l.length:=by
 induction l with
 |nil=>simp
 |cons x l a=>have:=a λy b=>h y (by simp[b]);have:=h x I;simp;omega
def WB(pw:L Int)(hl:pw.length<2^20)(b:∀x∈pw,0<=x/\x<2147483648):ab 295 [fO pw] (.i pw.sum):=by
 refine cp func295 W<|r0 W<|ba (λi:Nat=>[(3,.i (pw.take i).sum),(6,fO pw),(7,.i pw.length),(8,.i i)]) (λi=>i<=pw.length) (λi=>pw.length-i) 0 (aaQ _) ?_;intro i hi;refine cm W W ?_ ?_<;>intro g1;have a:i<pw.length:=E;have f:(i:Int).toNat=i:=E;have g:pw.getD i 0=pw[i]:=az a;have d:=aba (l:=pw.take i) λy c=>b y<|afB c;have h:=b pw[i] I;rw[ade]at d;have e:(pw.take<|i+1).sum=(pw.take i).sum+pw[i]:=by rw[ace a,List.sum_append];simp
 refine eP W ?_;rw[f,g,<-e];exact aM (i+1) E;have:i=pw.length:=E;subst this;rw[acS];refine cg W W
end Go.Ai.Pg
section
namespace Go.Proofs
open Go.Shelf Go.Proofs.Tryz
def Tryz.Li:Go.Shelf.Ren:=⟨λ|14=>343|20=>369|21=>370|22=>371|23=>372|24=>373|25=>374|26=>375|27=>376|46=>389|47=>390|48=>391|49=>392|50=>393|15=>344|57=>398|28=>377|29=>286|n=>n,λ|24=>229|22=>218|3=>3|25=>380|4=>4|0=>0|46=>421|45=>420|50=>299|66=>439|39=>283|55=>337|70=>443|76=>449|77=>450|53=>83|5=>5|9=>9|n=>n,λ|n=>n⟩
theorem Tryz.abz:Go.Proofs.SlLaysF0.n14 prog Tryz.Li where
 mixed:=Go.Ai.aP
 f14:=⟨ "slices.pdqsortCmpFunc[integraph/poly.Term]",by decide,func343.trans<|aaf some Go.Ai.aP⟩
 f15:=func344.trans<|aaf some Go.Ai.aP
 f20:=⟨ "slices.insertionSortCmpFunc[integraph/poly.Term]",by decide,func369.trans<|aaf some Go.Ai.aP⟩
 f21:=⟨ "slices.heapSortCmpFunc[integraph/poly.Term]",by decide,func370.trans<|aaf some Go.Ai.aP⟩
 f22:=⟨ "slices.breakPatternsCmpFunc[integraph/poly.Term]",by decide,func371.trans<|aaf some Go.Ai.aP⟩
 f23:=⟨ "slices.choosePivotCmpFunc[integraph/poly.Term]",by decide,func372.trans<|aaf some Go.Ai.aP⟩
 f24:=⟨ "slices.reverseRangeCmpFunc[integraph/poly.Term]",by decide,func373.trans<|aaf some Go.Ai.aP⟩
 f25:=⟨ "slices.partialInsertionSortCmpFunc[integraph/poly.Term]",by decide,func374.trans<|aaf some Go.Ai.aP⟩
 f26:=⟨ "slices.partitionEqualCmpFunc[integraph/poly.Term]",by decide,func375.trans<|aaf some Go.Ai.aP⟩
 f27:=⟨ "slices.partitionCmpFunc[integraph/poly.Term]",by decide,func376.trans<|aaf some Go.Ai.aP⟩
 f28:=func377.trans<|aaf some Go.Ai.aP
 f29:=func286.trans<|aaf some Go.Ai.aP
 f46:=⟨ "slices.siftDownCmpFunc[integraph/poly.Term]",by decide,func389.trans<|aaf some Go.Ai.aP⟩
 f47:=func390.trans<|aaf some Go.Ai.aP
 f48:=func391.trans<|aaf some Go.Ai.aP
 f49:=⟨ "slices.medianAdjacentCmpFunc[integraph/poly.Term]",by decide,func392.trans<|aaf some Go.Ai.aP⟩
 f50:=⟨ "slices.medianCmpFunc[integraph/poly.Term]",by decide,func393.trans<|aaf some Go.Ai.aP⟩
 f57:=⟨ "slices.order2CmpFunc[integraph/poly.Term]",by decide,func398.trans<|aaf some Go.Ai.aP⟩
 t0:=underlying0
 a0:=isAgg0
 z0:=sizeOf0
 v0:=zeroValue0
 t3:=underlying3
 a3:=isAgg3
 z3:=sizeOf3
 v3:=zeroValue3
 t4:=underlying4
 a4:=isAgg4
 z4:=sizeOf4
 v4:=zeroValue4
 t5:=underlying5
 a5:=isAgg5
 z5:=sizeOf5
 v5:=zeroValue5
 t9:=underlying9
 a9:=isAgg9
 z9:=sizeOf9
 v9:=zeroValue9
 t22:=underlying218
 a22:=isAgg218
 z22:=sizeOf218
 v22:=zeroValue218
 t25:=underlying380
 a25:=isAgg380
 z25:=sizeOf380
 v25:=zeroValue380
 t39:=underlying283
 a39:=isAgg283
 z39:=sizeOf283
 v39:=zeroValue283
 t45:=underlying420
 a45:=isAgg420
 z45:=sizeOf420
 v45:=zeroValue420
 t46:=underlying421
 a46:=isAgg421
 z46:=sizeOf421
 v46:=zeroValue421
 t50:=underlying299
 a50:=isAgg299
 z50:=sizeOf299
 v50:=zeroValue299
 t53:=underlying83
 a53:=isAgg83
 z53:=sizeOf83
 v53:=zeroValue83
 t55:=underlying337
 a55:=isAgg337
 z55:=sizeOf337
 v55:=zeroValue337
 t66:=underlying439
 a66:=isAgg439
 z66:=sizeOf439
 v66:=zeroValue439
 t70:=underlying443
 a70:=isAgg443
 z70:=sizeOf443
 v70:=zeroValue443
 t76:=underlying449
 a76:=isAgg449
 z76:=sizeOf449
 v76:=zeroValue449
 t77:=underlying450
 a77:=isAgg450
 z77:=sizeOf450
 v77:=zeroValue450
def Tryz.PA:Go.Shelf.Ren:=⟨λ|5=>340|7=>368|n=>n,λ|22=>3|3=>3|4=>4|n=>n,λ|n=>n⟩
theorem Tryz.WT:Go.Proofs.SlLaysC2.n5 prog Tryz.PA where
 mixed:=Go.Ai.aP
 f5:=⟨ "cmp.Compare[int]",by decide,func340.trans<|aaf some Go.Ai.aP⟩
 f7:=⟨ "cmp.isNaN[int]",by decide,func368.trans<|aaf some Go.Ai.aP⟩
 t3:=underlying3
 a3:=isAgg3
 z3:=sizeOf3
 v3:=zeroValue3
 t4:=underlying4
 a4:=isAgg4
 z4:=sizeOf4
 v4:=zeroValue4
 t22:=underlying3
 a22:=isAgg3
 z22:=sizeOf3
 v22:=zeroValue3
open Go.RowKit Go.Lib Go.Sort Go.Proofs.Tryz
def Tryz.adN(n:Nat)(h:n<4611686018427387904)(w:World):Calls prog 344 #[.int .u64 (n:Int)] w λe w'=>e=.returned (.int .i64 (Lib.bitLen n:Nat))/\w'=w:=by have h:=Any.bits_Len (SlLaysF0.n15.bits (P:=prog) (ρ:=Tryz.Li) {Tryz.abz with}) (n:Int) w E E;rwa[agc]at h
theorem Tryz.adb(p:Option Addr)(cap:Nat)(fv:Value)(w:World):Calls prog 307 #[.slice p 0 cap,fv] w λe w'=>e=.returned (.tuple #[])/\w'=w:=by
 have hl:=λW=>Tryz.adN 0 E W;have hp:=λW=>AnyF.pdqsortCmpFunc_none Tryz.abz p cap (Lib.bitLen 0:Nat) fv W;change∀W,Calls prog 343 _ _ _ at hp;change∀W,Calls prog 344 #[.int .u64 0] _ _ at hl
 go_enter func307,Tryz.ntmps307
 go_wp2_with (first|(go_at_call 344;refine(hl _).mono ?_;rintro e w'⟨rfl,rfl⟩)|(go_at_call 343;refine(hp _).mono ?_;rintro e w'⟨rfl,rfl⟩))
 go_end0
 exact G
theorem Tryz.ada{α:Type}[Inhabited α](enc:α->List Value)(hk:∀x,(enc x).length=5)(h1:∀x,∀v∈enc x,v.oneCell'=true)(cf:α->α->Int)(hO:SWO (ltOf cf))(fu cap:Nat)(d:Array α)(w:World)
 (hcmp:CmpLays Tryz.prog 308 #[] enc 5 cf fu 0 d.size w)(hH:HoldsK enc 5 w fu 0 d)(hblk:fu<w.heap.size)(hsz:d.size<4611686018427387904):
 Calls Tryz.prog 307 #[.slice (some ⟨fu,0,none⟩) d.size cap,.func (.func 308) #[] #[]] w λe w'=>e=.returned (.tuple #[])/\∃d' n os,PermIn 0 d.size d d'/\SortedIn (ltOf cf) 0 d.size d'/\w'=sortWorldK enc 5 w fu 0 n d' os:=by
 have hlim:Lib.bitLen d.size<4611686018427387904:=afC (Lib.bitLen_le d.size 62 (by omega)<|by omega) (by omega);have hp:=AnyQ.pdqsortCmpFunc_all Tryz.abz 5 Tryz.isAgg229 Tryz.sizeOf229 enc cf 308 #[] hO fu 0 cap d w (enters_of Tryz.func308 (by kernel_rfl) rfl) hcmp ⟨hk,h1,hH,hblk⟩ (d.size+1) 0 d.size (Lib.bitLen d.size) d w (by omega) rfl (SWK.start hH) (aaQ _) (aaU _) hsz hlim<|Or.inl rfl;have hl:=Tryz.adN d.size hsz w;have hso:=pdq_sorts (ltOf cf) hO d 0 d.size (Lib.bitLen d.size) true true (aaQ _) (aaU _)<|Or.inl rfl;generalize pdq (ltOf cf) d 0 d.size (Lib.bitLen d.size) true true=r at hp hso;change Calls Tryz.prog 343 _ _ _ at hp;have wr:IntKind.u64.wrap (d.size:Int)=d.size:=by simp[IntKind.wrap,IntKind.bits,IntKind.signed];omega
 generalize (Lib.bitLen d.size:Nat)=bl at hp hl;clear hH hcmp hk h1 hO;generalize d.size=m at*
 go_enter Tryz.func307,Tryz.ntmps307
 go_wp2_with (first|(go_at_call 344;refine hl.mono ?_;rintro e w'⟨rfl,hw⟩;subst hw)|(go_at_call 343;refine hp.mono ?_;rintro e w'⟨rfl,n,os,rfl⟩))
 go_end0
 exact⟨rfl,_,n,os,hso.1,hso.2,rfl⟩
end Go.Proofs
namespace Go.Ai.Pg
open Go.Proofs Go.Ai Go.Ai.bG Go.Sort Go.Proofs.Tryz
def HE:∀{p q:L Int},p.length=q.length->(wG q p<0↔jJ p q=true)
 |[],[],_=>by simp[wG,jJ]
 |[],_::_,h=>by cases h
 |_::_,[],h=>by cases h
 |x::p,y::q,h=>by unfold wG jJ;by_cases e:y=x;subst e;simp;exact HE (by simpa using h);rw[aas λh=>e h.symm];unfold Lib.compareInt;simp;(repeat' split)<;>omega
def uH{p q:L Int}(h:p.length=q.length):Cr p q<0↔beforeL p q=true:=by unfold Cr beforeL;by_cases e:p.sum=q.sum;rw[aaq λh=>h<|s9.2 e.symm,aaq<|by simp[e]];exact HE h;rw[aas e];unfold Lib.compareInt;simp;(repeat' split)<;>omega
def tb(w:World)(S:Nat->Prop)(t:Tm)(a:L Value):Prop:=a.length=5/\Rel w S (eE t).den (.agg a.toArray) []
def tb.XH{w:World}{S:Nat->Prop}:∀{L:List Tm}{l:List Value}{F:List Nat},du w S 5 (L.map λt=>(eE t).den) l F->F=[]/\l.length=L.length*5/\∀i(h:i<L.length),tb w S L[i] ((l.drop<|i*5).take 5)
 |[],l,F,h=>by simp at h;obtain⟨rfl,rfl⟩:=h;simp
 |t::L,l,F,h=>by
  obtain⟨y,b,g,k,rfl,rfl,hs,c,d⟩:=h;obtain⟨rfl,j,f⟩:=tb.XH d;have hn:g=[]:=Rel.aK _ c<|(cD<|eE t).trans W;subst hn;obtain⟨a,rfl,-⟩:=id c;have hl:a.toList.length=5:=hs;refine⟨W,by simp;simp at hl;have:(Value.agg a).cells=a:=W;omega,λi hi=>?_⟩;cases i with
  |zero=>
   refine⟨by simp;simp at hl;omega,?_⟩;have:List.take 5 (List.drop (0*5)<|(Value.agg a).cells.toList++b)=a.toList:=by rw[show(Value.agg a).cells=a from W,aeW,ag9<|by rw[hl];exact aaU _,acD<|by rw[hl];exact aaU _]
   rw[this];exact c
  |succ i=>
   have:=f i (by simpa using hi);have e:List.drop ((i+1)*5) ((Value.agg a).cells.toList++b)=b.drop (i*5):=by rw[show(Value.agg a).cells=a from W,show(i+1)*5=a.toList.length+i*5 from E,List.drop_length_add_append]
   rw[e];exact this
def tb.back{w:World}{S:Nat->Prop}:∀{L:List Tm}{l:List Value},l.length=L.length*5->(∀i(h:i<L.length),tb w S L[i]<|(l.drop<|i*5).take 5)->du w S 5 (L.map λt=>(eE t).den) l []
 |[],l,h,_=>by simp at h;subst h;simp[du]
 |t::L,l,h,k=>by have a:=k 0 I;refine⟨.agg (l.take 5).toArray,l.drop 5,[],[],?_,W,?_,?_,tb.back (by simp at h⊢;omega) λi hi=>?_⟩;rw[show(Value.agg (l.take 5).toArray).cells=(l.take 5).toArray from W];simp;rw[show(Value.agg (l.take 5).toArray).cells=(l.take 5).toArray from W];simp at h⊢;omega;simpa using a.2;have:=k (i+1) (by simpa using hi);rw[afQ,show 5+i*5=(i+1)*5 from E];exact this
def Df{w:World}{S:Nat->Prop}{xs:L Int}{v:Value}(h:Rel w S (fO xs).den v []):∃a c,v=.slice a xs.length c/\iO w a xs/\∀d,a=some d->xs≠[]->S d.block:=by
 simp only[SV.den,Rel,acx]at h;rcases h with⟨p,⟨d,rfl⟩,-⟩|⟨b,f,g,r,q,rfl,m,k,l,he,-⟩;have:xs=[]:=by simpa using p
 subst this;exact⟨d,0,W,λj i=>by simp at i,λ_ _ h=>aaF W h⟩;refine⟨some ⟨b,f,none⟩,g,W,λj i=>⟨_,W,?_⟩,λd e _=>by cases e;exact m⟩;obtain⟨y,A,s,B,-,-,o,n,-⟩:=du.lens 1 j (x:=.v<|.int .i64 xs[j]) he I;obtain⟨-,rfl,-⟩:=o;have:=n 0 (.int .i64 xs[j]) W;simp[af6]at this;rw[Lib.add_plain,ny W k];simp[this]
def tb.parts{w:World}{S:Nat->Prop}{t:Tm}{b:L Value}(h:tb w S t b):∃r c1 c2 c3 a c,b=[r,c1,c2,c3,.slice a t.pw.length c]/\(∀v∈b,v.oneCell'=true)/\iO w a t.pw/\∀k,a=some k->t.pw≠[]->S k.block:=by obtain⟨hl,X,e,hc⟩:=h;cases e;simp only[aB,Cells]at hc;obtain⟨i,D,F0,G0,V,f0,p,r0,g,C,F1,G1,T,M,o,r1,f,B,F2,G2,R,K,n,y,d,A,F3,Z,P,J,o3,x,u,z,s,Y,O,H,m,l,N,F⟩:=hc;have q:s=[]:=fP;subst q;obtain⟨a,c,rfl,k1,k2⟩:=Df l;refine⟨i,g,f,d,a,c,fP,?_,k1,k2⟩;have:b=[i,g,f,d,.slice a t.pw.length c]:=fP;subst this;intro v j;simp at j;rcases j with rfl|rfl|rfl|rfl|rfl;exact p U;exact o U;exact n U;exact o3 U;exact m U
def iO.sorted{α:Type}[Inhabited α]{w:World}{S:Nat->Prop}{a:Q Addr}{p:L Int}(h:iO w a p)(o:∀b,a=some b->p≠[]->S b.block){fu off:Nat}(n:¬S fu)(enc:α->L Value)(k m:Nat)(q:Array α)(os:Array Obj):iO (sortWorldK enc k w fu off m q os) a p:=λj g=>by
 obtain⟨b,l,i⟩:=h j g;have d:b.block≠fu:=λe=>n (e▸o b l (by intro e;simp[e]at g));have f:b.block<w.heap.size:=by
  apply afw;intro hh;have:(b.add j).block=b.block:=by unfold Addr.add;split<;>rfl
  simp[World.cell?,this,ago<|Nat.le_of_not_lt hh]at i
 have c:(b.add j).block=b.block:=by unfold Addr.add;split<;>rfl
 refine⟨b,l,?_⟩;unfold sortWorldK;rw[cell?_grow _ _ _<|by rw[size_putRowK,c];exact f,cell?_putRowK_other _ _ _ _ _ _ _<|by rw[c];exact d];exact i
def J2{α:Type}[Inhabited α]{w:World}{enc:α->L Value}{k fu:Nat}{cs:Array Value}(a:row? w fu=some (cs,(0,0)))(m:Nat)(d:Array α)(os:Array Obj):row? (sortWorldK enc k w fu 0 m d os) fu=some (putCells id 0 (flatK enc k d) cs,(0,0)):=by
 obtain⟨c,hh⟩:∃c,w.heap[fu]?=some (.cells cs c (0,0)):=by unfold row? at a;split at a;rename_i h;simp_all;cases a
 have b:fu<w.heap.size:=by apply afw;intro h;rw[ago E]at hh;cases hh
 unfold row? sortWorldK;rw[heap_grow_old _ _<|by rw[size_putRowK];exact b];unfold putRowK putRow mapBlock;simp[ag4,hh,onCells]
def vF{α:Type}[Inhabited α]{w:World}{enc:α->L Value}{k fu b:Nat}(c:b≠fu)(a:b<w.heap.size)(m:Nat)(d:Array α)(os:Array Obj):(sortWorldK enc k w fu 0 m d os).heap[b]?=w.heap[b]?:=by unfold sortWorldK;rw[heap_grow_old _ _<|by rw[size_putRowK];exact a];unfold putRowK putRow mapBlock;simp[ag4,Ne.symm c]
def RO{L:List Tm}{V:Nat}(c:∀u∈L,u.pw.length=V):SWO (ltOf λi j:Fin L.length=>Cr L[i].pw L[j].pw):=by
 have e:∀i j:Fin L.length,ltOf (λi j:Fin L.length=>Cr L[i].pw L[j].pw) i j=beforeL L[i].pw L[j].pw:=λi j=>by unfold ltOf;have:=uH (p:=L[i].pw) (q:=L[j].pw)<|(c _ I).trans (c _ I).symm;cases k:beforeL L[i].pw L[j].pw<;>simp_all
 refine⟨λx=>by rw[e];exact iW _,λx y z h g=>by rw[e]at *;exact im h g,λx y z h g=>?_⟩;rw[e]at*;by_cases f:L[x].pw=L[y].pw;rw[f];exact g;by_cases d:L[y].pw=L[z].pw;rw[<-d];exact h;have a:=nB ((c L[x] I).trans (c L[y] I).symm) h f;have b:=nB ((c L[y] I).trans (c L[z] I).symm) g d;cases hc:beforeL L[x].pw L[z].pw with
 |false=>rfl
 |true=>have:=im hc<|im b a;rw[iW]at this;cases this
def KL{L:List Tm}{V:Nat}(k:∀u∈L,u.pw.length=V)(hn:(L.map (·.pw)).Nodup)[Inhabited<|Fin L.length]{d d':Array (Fin L.length)}(t:d.toList=List.finRange L.length)(r:PermIn 0 L.length d d')(hs:SortedIn (ltOf λi j:Fin L.length=>Cr L[i].pw L[j].pw) 0 L.length d'):d'.toList.map (λi=>L[i])=mZ L:=by
 have m:d.size=L.length:=by rw[<-ae7,t,List.length_finRange]
 have q:d'.size=L.length:=r.1.trans m;have f:d'.toList.Perm d.toList:=by have:=r.2.2;rwa[show d'.extract 0 L.length=d' from Array.ext (by simp;omega) λi l w=>I,show d.extract 0 L.length=d from Array.ext (by simp;omega) λi l w=>I]at this
 have c:(d'.toList.map λi=>L[i]).Perm L:=by
  have:=f.map λi:Fin L.length=>L[i];rw[t]at this;have e:(List.finRange L.length).map (λi=>L[i])=L:=by apply agd I;intro i a b;simp
  rwa[e]at this
 have g:((d'.toList.map λi=>L[i]).map (·.pw)).Nodup:=((c.map (·.pw)).nodup_iff).2 hn;refine C7 ?_ (qM k hn)<|c.trans (ie L).symm;unfold Kh;rw[agP];intro i j hi s h;have p:i<d'.size:=by simpa using hi
 have o:j<d'.size:=by simpa using s
 have l:=hs i j (aaQ _) h E;rw[getElem!_pos d' i p,getElem!_pos d' j o]at l;simp[agl,Array.getElem_toList];have n:L[d'[j]].pw≠L[d'[i]].pw:=λe=>by have:=(agP.1<|List.nodup_iff_pairwise_ne.1 g) i j (by simpa using hi) (by simpa using s) h;simp[agl,Array.getElem_toList]at this;exact this e.symm
 refine nB ((k _ I).trans (k _ I).symm) ?_ n;cases v:beforeL L[d'[j]].pw L[d'[i]].pw with
 |false=>rfl
 |true=>exact aaF ((uH<|(k _ I).trans (k _ I).symm).2 v)<|of_decide_eq_false l
def X7(K:∀x y f,Calls prog 340 #[.int .i64 x,.int .i64 y] f λe w'=>e=.returned (.int .i64<|Lib.compareInt x y)/\w'=f)
 {L:List Tm}{V:Nat}(O:∀u∈L,u.pw.length=V/\TL u.pw)(hn:(L.map (·.pw)).Nodup)(h0:0<L.length){w:World}{S:Nat->Prop}{fu cap:Nat}{cs:Array Value}{F:List Nat}
 (p:row? w fu=some (cs,(0,0)))(B0:cs.size=cap*5)(F0:L.length<=cap)(hE:du w S 5 (L.map λt=>(eE t).den) (cs.toList.take<|L.length*5) F)(hb:¬S fu)(hS:∀b,S b->b<w.heap.size)
 (q:∀[Inhabited<|Fin L.length](enc:Fin L.length->List Value)(_:∀x,(enc x).length=5)(_:∀x,∀v∈enc x,v.oneCell'=true)(cf:Fin L.length->Fin L.length->Int)(_:SWO (ltOf cf))(d:Array (Fin L.length))(_:d.size=L.length)(_:CmpLays prog 308 #[] enc 5 cf fu 0 L.length w)(_:HoldsK enc 5 w fu 0 d),
   Calls prog 307 #[.slice (some ⟨fu,0,none⟩) L.length cap,.func (.func 308) #[] #[]] w λe w'=>e=.returned (.tuple #[])/\∃d' n os,PermIn 0 L.length d d'/\SortedIn (ltOf cf) 0 L.length d'/\w'=sortWorldK enc 5 w fu 0 n d' os):
 Calls prog 307 #[.slice (some ⟨fu,0,none⟩) L.length cap,.func (.func 308) #[] #[]] w λe w'=>e=.returned (.tuple #[])/\w'.os=w.os/\w'.tape=w.tape/\w'.output=w.output/\w.heap.size<=w'.heap.size/\(∀b,b<w.heap.size->b≠fu->w'.heap[b]?=w.heap[b]?)/\
  ∃cs',row? w' fu=some (cs',(0,0))/\cs'.size=cap*5/\du w' S 5 ((mZ L).map λt=>(eE t).den) (cs'.toList.take<|L.length*5) []:=by
 obtain⟨rfl,hl,E2⟩:=tb.XH hE
 haveI:Inhabited (Fin L.length):=⟨⟨0,h0⟩⟩
 let enc:Fin L.length->List Value:=λi=>((cs.toList.take<|L.length*5).drop<|i.val*5).take 5
 have g:∀i:Fin L.length,tb w S L[i] (enc i):=λi=>E2 i i.isLt
 let d:Array (Fin L.length):=(List.finRange L.length).toArray
 have N:d.size=L.length:=by simp[d]
 have Z:∀i(h:i<L.length),d[i]! =⟨i,h⟩:=λi h=>by rw[getElem!_pos d i E];simp[d]
 have l:∀(e:Array (Fin L.length))(i c:Nat),e.size=L.length->i<L.length->c<5->(flatK enc 5 e)[i*5+c]?=(enc e[i]!)[c]?:=λe i c he hi hc=>by have r:i*5+c<e.size*5:=E;have h5:(enc e[i]!).length=5:=(g _).1;rw[aev<|by simpa using r];unfold flatK;rw[Array.getElem_map,Array.getElem_range,show(i*5+c)/5=i from E,show(i*5+c)%5=c from E,getElem!_pos (enc e[i]!) c E];simp[h5,hc]
 have s:∀j,j<L.length*5->(flatK enc 5 d)[j]?=cs[j]?:=λj H=>by have:=l d (j/5) (j%5) N E E;rw[show j/5*5+j%5=j from E,Z _ E]at this;rw[this];show(((cs.toList.take<|L.length*5).drop<|j/5*5).take 5)[j%5]?=_;rw[af6,aas E,agp,af6,show j/5*5+j%5=j from E,aas H,af5]
 have C:∀{e:Array (Fin L.length)}{m os},row? (sortWorldK enc 5 w fu 0 m e os) fu=some (putCells id 0 (flatK enc 5 e) cs,(0,0)):=λ{e m os}=>J2 p m e os;obtain⟨el,hh⟩:∃el,w.heap[fu]?=some (.cells cs el (0,0)):=by unfold row? at p;split at p;rename_i h;simp at p;exact⟨_,by rw[h,p.1,p.2]⟩;cases p
 have F2:fu<w.heap.size:=by apply afw;intro h;rw[ago E]at hh;cases hh
 have E1:∀b,S b->b≠fu:=λb o e=>hb (e▸o);refine(q enc (λx=>(g x).1) (λx v T=>by obtain⟨c0,c1,c2,c3,a,c,e,k1,-⟩:=(g x).parts;exact k1 v T) (λi j=>Cr L[i].pw L[j].pw) (RO λu hu=>(O u hu).1) d N ?_ ?_).mono ?_;intro m os dk F1 x y;obtain⟨c0,c1,c2,c3,a,c,e1,-,k1,k2⟩:=(g x).parts;obtain⟨d0,d1,d2,d3,b,c',e2,-,k3,k4⟩:=(g y).parts;have B:=O L[x] I;have M:=O L[y] I;rw[M.1.trans B.1.symm]at e2;rw[e1,e2,Array.append_empty];refine(Tryz.afm K c0 c1 c2 c3 d0 d1 d2 d3 a b c c' L[x].pw L[y].pw _ B.2.1 (M.1.trans B.1.symm) (λz A=>⟨(B.2.2 z A).1,by have:=(B.2.2 z A).2;omega⟩) (λz A=>⟨(M.2.2 z A).1,by have:=(M.2.2 z A).2;omega⟩) (iO.sorted k1 k2 hb enc 5 m dk os)<|iO.sorted k3 k4 hb enc 5 m dk os).mono ?_;rintro e w'⟨rfl,n,R,rfl⟩;exact⟨W,n,R,W⟩;intro j H;have Y:j<L.length*5:=by simpa[N]using H
 have:=s j Y;rw[aev H]at this;refine⟨?_,?_⟩;rw[ny W p,getElem!_pos _ j H];simp;exact this.symm;unfold World.frozen?;simp[hh];rintro e w'⟨rfl,d',n,os,hp,hs,rfl⟩;have A0:d'.size=L.length:=hp.1.trans N;have k:=KL (λu hu=>(O u hu).1) hn (by simp[d]) hp hs;refine⟨W,W,W,W,?_,λb r X=>vF X r n d' os,_,C,?_,?_⟩;unfold sortWorldK;rw[size_grow,size_putRowK];exact Nat.le_add_right _ _;unfold putCells;simp[B0];have D:(mZ L).length=L.length:=(ie L).length_eq;refine tb.back (by rw[D];simp[putCells];omega) λi hi=>?_;have J:i<d'.size:=E;have hg:(mZ L)[i]=L[d'[i]]:=by have:(d'.toList.map λi=>L[i])[i]'(by simpa using J)=L[d'[i]]:=I;rw[<-this];congr 1;exact k.symm
 rw[hg];have he:=g d'[i];have T:((List.take (L.length*5) (putCells id 0 (flatK enc 5 d') cs).toList).drop<|i*5).take 5=enc d'[i]:=by
  apply agG;intro c;rw[af6,agp,af6];by_cases hc:c<5;rw[aas hc,aas E,af5];have hf:=l d' i c A0 E hc;rw[getElem!_pos d' i J]at hf;rw[<-hf];unfold putCells;have h1:i*5+c<cs.size:=E;have P:i*5+c<(flatK enc 5 d').size:=by rw[size_flatK];omega
  rw[Array.getElem?_mapIdx,aev h1,aev P];simp;rw[aas<|by rw[size_flatK]at P;exact P,getElem!_pos (flatK enc 5 d') (i*5+c) P];rw[aaq hc,aex<|by rw[he.1];omega]
 rw[T];exact⟨he.1,Rel.frame _ he.2 λb o=>vF (E1 b<|by simpa using o) (hS b<|by simpa using o) n d' os⟩
def A9{V:Hid}{n:List Value}{F:Nat->List Nat}{w w':World}{S:Nat->Prop}{args:List AV}{L M:List Tm}(hc:aU S V.g (both args [(aid L).den]) (a8 V n) w F)
 (d:w'.os=w.os)(t:w'.tape=w.tape)(s:w'.output=w.output)(l:w.heap.size<=w'.heap.size)(r:∀b,b<w.heap.size->b∉F 1000000->w'.heap[b]?=w.heap[b]?)(q:Rel w' S (aid M).den (V.v 1000000) (F 1000000)):
 ∃S' F',sS V w w w'/\(∀b,S b->S' b)/\(∀b,S' b->S b\/cK V w b)/\aU S' (cK V w) (both [(SV.bU []).den] [(aid M).den]) (a8 V [.tuple #[]]) w' F':=by
 refine⟨S,λi=>if i=1000000 then F 1000000 else[],⟨d,t,s,l,λk o p=>r k o λe=>p (hc.own _ k e).1⟩,λ_ h=>h,λ_ h=>.inl h,
  ⟨λi=>?_,λi=>?_,λi j f c a=>?_,λi c a=>?_,λc h=>acW (hc.shr c h) l⟩⟩
 rw[an.aC<|by rw[jW];split;rfl;split<;>rfl,jW];by_cases m:i=0;subst m;exact⟨_,W,W,W⟩;by_cases d:i=1000000;subst d;exact q;simp[m,d,Rel];split;exact hc.nodup _;simp;split at a;rw[aaq λe=>f E];simp;cases a;split at a;have:=hc.own _ c a;exact⟨.inr this.1,E,this.2.2⟩;cases a
def IH:PS:=by
 intro L V Z hn N w S H K F hl hG hc;obtain⟨x0,j,rfl⟩:∃x0 j,K=[x0,j]:=by
  match K,hl with
  |[x0,j],_=>exact⟨_,_,W⟩
 have R:=mj (i:=0) E hc W;have e1:j=.func (.func 308) #[] #[]:=by
  have m:=hc.rel 1;have n:=fe (args:=aB [.bw 1000000 0 0 [],.fn (.func 308) [] []]) (H:=aB [aid L]) (i:=1) E;obtain⟨a,c,F1,F2,h,q,o,-⟩:=m;have Y:a=#[]:=by have:=q.1;simpa using this
  have z:c=#[]:=by have:=o.1;simpa using this
  rw[Y,z]at h;exact h
 have m:=hc.rel 1000000;have n:=ew (args:=aB [.bw 1000000 0 0 [],.fn (.func 308) [] []]) (H:=aB [aid L]) (by simp[aB]) 0;rw[an.aC<|by rw[n];rfl,n]at m;have ev:a8 H [x0,j] 1000000=H.v 1000000:=by unfold a8;rw[aaq E]
 rw[ev]at m;have l:Rel w S (aid L).den (H.v 1000000) (F 1000000):=m;have r:x0=H.v 1000000:=R;clear R;subst e1;refine qD.lS (fn:=Tryz.f307) func307 W W ?_;have nil:∀p g,H.v 1000000=.slice p 0 g->L=[]->Calls prog 307 #[x0,.func (.func 308) #[] #[]] w λe s=>∃v,e=.returned v/\∃J T,sS H w w s/\(∀b,S b->J b)/\(∀b,J b->S b\/cK H w b)/\aU J (cK H w) (both [(SV.bU []).den]<|aB [aid<|mZ L]) (a8 H [v]) s T:=by intro p g X B;subst B;rw[r,X];refine(Tryz.adb p g _ w).mono ?_;rintro e s⟨rfl,rfl⟩;exact⟨_,W,A9 (L:=[]) (M:=[]) hc W W W (aaU _) (λ_ _ _=>rfl) l⟩
 have k:=l;simp only[SV.den,fl,Rel,acx]at k;rcases k with⟨h,q,o⟩|⟨fu,g,cs,T,h,q,o,h4,h5,O,t⟩;exact nil none 0 q (by simpa using h);by_cases P:L.length=0;rw[P]at h;exact nil _ _ h<|ahh.1 P;obtain⟨rfl,-⟩:=tb.XH O;have A:=(hc.own 1000000 fu<|by rw[t];simp).2.2;show Calls prog 307 #[x0,.func (.func 308) #[] #[]] w _;rw[r,h];refine(X7 (V:=V) (λx y f=>AnyG.cmp_Compare_int Tryz.WT x y f) Z hn E q h5 o O A hc.shr λC k1 k2 cf k3 d k4 k5 k6=>?_).mono ?_;have:=Tryz.ada C k1 k2 cf k3 fu g d w (by rw[k4];exact k5) k6 (by have:=(hc.own 1000000 fu<|by rw[t];simp).2.1;exact this) E
 rw[k4]at this;exact this;rintro e s⟨rfl,g1,g2,g3,g4,g5,D,g6,g7,g8⟩;refine⟨_,W,A9 (M:=mZ L) hc g1 g2 g3 g4 (λb n u=>g5 b n λe=>u<|by rw[t,e];simp) ?_⟩;simp only[SV.den,fl,Rel,acx,(ie L).length_eq];exact .inr ⟨fu,g,D,[],h,g6,o,h4,g7,g8,t⟩
end Go.Ai.Pg
end
namespace Go.Ai.Pg
def XC(t u:Tm):Tm:=⟨jH t.f u.f,List.zipWith (·+ ·) t.pw u.pw⟩
def mulM(a b:L Tm):L Tm:=a.flatMap λt=>b.map<|XC t
def Hq{a b:L Tm}{i:Nat}(h:i<a.length):mulM (a.take<|i+1) b=mulM (a.take i) b++b.map (XC a[i]):=by unfold mulM;rw[ace h,ahf];simp
def LA{a b:L Tm}{i k:Nat}(h:i<a.length):mulM (a.take i) b++(b.take k).map (XC a[i]) <+:mulM a b:=by
 have c:mulM (a.take<|i+1) b <+:mulM a b:=by
  conv=>rhs;rw[<-af3 (i+1) a]
  unfold mulM;grind
 refine List.IsPrefix.trans ?_ c;rw[Hq h];exact(List.prefix_append_right_inj _).2<|(ahL k b).map _
def adB(p q:List Tm){V K L M:Nat}(x:∀t∈p,t.ok/\mc t.f L/\PwS t.pw/\t.pw.length=V)(u:∀t∈q,t.ok/\mc t.f M/\PwS t.pw/\t.pw.length=V)(h:rE V K (mulM p q))(z:K<2^32)(y:L+M<2^38)(w:p.length<2^40)(s:q.length<2^40):
 ab 227 [aia p,aia q] (aid<|kd<|mulM p q):=by
 refine cp func227 W<|r0 W<|ex W W W (sw (κ:=cq) W) W<|r0 W<|ba (λi:Nat=>[(1,aia q),(5,.mx<|lF<|ot<|mulM (p.take i) q),(14,aia p),(15,.i p.length),(16,.i i)]) (λi=>i<=p.length) (λi=>p.length-i) 0 (aaQ _) ?_;intro i hi;refine cm W W ?_ ?_<;>intro g1;have c:i<p.length:=E;have o:(i:Int).toNat=i:=E;have B:p.getD i default=p[i]:=az c;have hm:=x p[i] I;refine r1 W (by simp only[aj,aag,o];omega) ?_;rw[o,B];refine ba (λk:Nat=>[(1,aia q),(5,.mx<|lF<|ot<|mulM (p.take i) q++(q.take k).map (XC p[i])),(7,.box true<|eE p[i]),(14,aia p),(15,.i p.length),(16,.i i),(20,aia q),(21,.i q.length),(22,.i k)]) (λk=>k<=q.length) (λk=>q.length-k) 0 (aaQ _) ?_ (by simp only[ahq,afu,afd];repeat(first|exact rrA|exact U|exact rfl|refine⟨?_,?_⟩));intro k H;refine cm W W ?_ ?_<;>intro g2;have e:k<q.length:=E;have g:(k:Int).toNat=k:=E;have l:q.getD k default=q[k]:=az e;have hn:=u q[k] I;have a:p[i].pw.length=q[k].pw.length:=hm.2.2.2.trans hn.2.2.2.symm;refine r1 W (by simp only[aj,aag,g];omega) ?_;rw[g,l];refine bW W (CS p[i].pw hm.2.2.1.1 (by have:=hm.2.2.1.2.1;omega)) W ?_;refine r0 W<|ba (λv:Nat=>[(1,aia q),(5,.mx<|lF<|ot<|mulM (p.take i) q++(q.take k).map (XC p[i])),(7,.box true<|eE p[i]),(9,.box true<|eE q[k]),(10,fR<|qE p[i].pw q[k].pw v),(14,aia p),(15,.i p.length),(16,.i i),(20,aia q),(21,.i q.length),(22,.i k),(30,fO q[k].pw),(31,.i q[k].pw.length),(32,.i v)])
  (λv=>v<=p[i].pw.length) (λv=>p[i].pw.length-v) 0 (aaQ _) ?_ (by simp only[qE,ahq,List.zipWith_nil_left,afy,aeW];repeat(first|exact rrA|exact U|exact rfl|refine⟨?_,?_⟩))
 intro v F;have j:=GB a v;refine cm W W ?_ ?_<;>intro A;have b:v<p[i].pw.length:=E;have ev:(v:Int).toNat=v:=E;have D:=hm.2.2.1.2.2 _<|aX (d:=0) b;have C:=hn.2.2.1.2.2 _<|aX (d:=0) (a▸b);have J:=hm.2.2.1.2.1;refine r1 W (by simp only[aj,aag,ev,rI a b,j];omega) ?_;rw[ev,rI a b,GA a b];exact aM (v+1) E;have ev:v=p[i].pw.length:=E;subst ev;rw[GC a];refine rn 1 W<|oQ (r:=10) (p:=[]) W W U<|ck W W (lY p[i].f q[k].f hm.1 hn.1 hm.2.1 hn.2.1 y) W<|r0 W ?_;have n:mulM (p.take i) q++(q.take<|k+1).map (XC p[i])=mulM (p.take i) q++(q.take k).map (XC p[i])++[XC p[i] q[k]]:=by rw[ace e,acB,acT];rfl
 refine cr W W (Fu h z (m:=mulM (p.take i) q++(q.take k).map (XC p[i])) (t:=XC p[i] q[k])<|by rw[<-n];exact LA c) W ?_;rw[<-n];refine r1 W bk<|aM (k+1) E;have g:k=q.length:=E;subst g;rw[acS,<-Hq c];refine r1 W bk<|aM (i+1) E;have:i=p.length:=E;subst this;rw[acS];refine r0 W<|cr W W (CE IH h) W<|cg W W
def BR(v:Nat)(t:Tm):L Tm:=if 0<t.pw.getD v 0 then[⟨jH t.f ⟨⟨t.pw.getD v 0,none⟩,⟨1,none⟩⟩,t.pw.set v<|t.pw.getD v 0-1⟩]else[]
def lZ(p:L Tm)(v:Nat):L Tm:=p.flatMap<|BR v
def HX{p:L Tm}{v i:Nat}(h:i<p.length):lZ (p.take<|i+1) v=lZ (p.take i) v++BR v p[i]:=by unfold lZ;rw[ace h,ahf];simp
def M6{p:L Tm}{v i:Nat}:lZ (p.take i) v <+:lZ p v:=by
 conv=>rhs;rw[<-af3 i p]
 unfold lZ;grind
def qZ(n:Int)(h: -(2^63)<=n/\n<=9223372036854775807):cL ⟨⟨n,none⟩,⟨1,none⟩⟩ (n:Rat):=⟨h,show -(2^63)<=(1:Int)/\(1:Int)<=9223372036854775807 from fV,by simp[nv],by simp[nv]⟩
def Zn{n:Int}(h:n.natAbs<2^64):mc ⟨⟨n,none⟩,⟨1,none⟩⟩ 1:=⟨gm<|by simpa[nv]using h,gm (m:=1) fV⟩
def Wz(p:List Tm)(v:Nat){V K L:Nat}(j:∀t∈p,t.ok/\mc t.f L/\PwS t.pw/\t.pw.length=V)(n:v<V)(h:rE V K (lZ p v))(k:K<2^32)(q:L<2^37)(g:p.length<2^40):
 ab 293 [aia p,.i v] (aid<|kd<|lZ p v):=by
 refine cp func293 W<|r0 W<|ex W W W (sw (κ:=cq) W) W<|r0 W<|ba (λi:Nat=>[(1,.i v),(5,.mx<|lF<|ot<|lZ (p.take i) v),(11,aia p),(12,.i p.length),(13,.i i)]) (λi=>i<=p.length) (λi=>p.length-i) 0 (aaQ _) ?_;intro i hi;refine cm W W ?_ ?_<;>intro g1;have a:i<p.length:=E;have c:(i:Int).toNat=i:=E;have ev:(v:Int).toNat=v:=E;have e:p.getD i default=p[i]:=az a;have hm:=j p[i] I;have l:=hm.2.2.1.2.2 _<|aX (d:=0)<|show v<p[i].pw.length from E;have o:=hm.2.2.1.2.1;refine r1 W (by simp only[aj,aag,c,ev,e];omega) ?_;rw[c,ev,e];refine bY W ?_ ?_<;>intro g2;refine ck W W (CS p[i].pw hm.2.2.1.1 E) W<|rno 11 W (by simp only[aj,aag,ev];omega) ?_;refine oQ (r:=9) (p:=[]) W W U<|cj W W (f_s<|p[i].pw.getD v 0) W<|cj W W (lY p[i].f ⟨⟨p[i].pw.getD v 0,none⟩,⟨1,none⟩⟩ hm.1 (qZ _ E).self hm.2.1 (Zn E) E) W<|r0 W ?_;rw[ev];have b:lZ (p.take<|i+1) v=lZ (p.take i) v++[⟨jH p[i].f ⟨⟨p[i].pw.getD v 0,none⟩,⟨1,none⟩⟩,p[i].pw.set v<|p[i].pw.getD v 0-1⟩]:=by rw[HX a];unfold BR;rw[aas g2]
 refine crd W W (Fu h k (m:=lZ (p.take i) v) (t:=⟨jH p[i].f ⟨⟨p[i].pw.getD v 0,none⟩,⟨1,none⟩⟩,p[i].pw.set v<|p[i].pw.getD v 0-1⟩)<|by rw[<-b];exact M6) W ?_;rw[<-b];refine u6 W<|aM (i+1) E;have:lZ (p.take<|i+1) v=lZ (p.take i) v:=by rw[HX a];unfold BR;simp_all
 refine eP W ?_;rw[<-this];exact aM (i+1) E;have:i=p.length:=E;subst this;rw[acS];refine r0 W<|cr W W (CE IH h) W<|cg W W
section
variable{K:Nat}
def Bv(n:Nat):Bool:=decide (600<(decl n 1).length)
def LK{n k:Nat}(g:k<=1800)(h:n<2^k):Bv n=false:=by have a:=dE n 1 600 (acW h<|acI (adi fV g)<|by decide +kernel) fV;unfold Bv;simp_all
def VA(a:Nm)(c:bu a)(hl:gj a K)(d:K<2^32):ab 258 [eN a] (.u<|Bv (nv a).natAbs):=by
 refine cp func258 W<|ck W W (PI a c hl E) W<|b6 W 6 W ?_ ?_<;>intro g;refine ck W W (xh a c hl E) W ?_;have b:=jK (z:=nv a) hl;refine bW W (P5 (bS<|nv a) E) W ?_;rw[jO];refine b7 W W<|aij SV.u ?_;unfold Bv;grind;have:Bv (nv a).natAbs=false:=by exact LK (show bl (nv a).natAbs<=1800 from E) (Ij _)
 rw[this];refine b7 W W W
def NK(q:Rat):Bool:=Bv q.num.natAbs||Bv q.den
def u4(q:Rat):ik q=if NK q=true then 4 else 0:=by unfold ik NK Bv;simp
def Jn(f:Fr){q:Rat}(h:cL f q)(hl:mc f K)(a:K<2^32):ab 182 [eF f] (.u<|NK q):=by obtain⟨j,i,e,d⟩:=h;have c:=VA f.n j hl.1 a;have b:=VA f.d i hl.2 a;rw[e]at c;rw[d]at b;refine cp func182 W<|ck W W c W<|r0 W<|iC 6 W ?_ ?_<;>intro g;refine b7 W W (show true=NK q by unfold NK;rw[g];rfl);refine ck W W b W<|b7 W W<|aij SV.u<|by unfold NK;rw[g];rfl
def VH(t:Tm)(h:t.ok)(hl:mc t.f K)(a:K<2^32):ab 297 [eE t] (.u<|NK<|fq t.f):=by refine cp func297 W<|ck W W (Jn t.f h hl a) W<|cg W W
def Jm(p:L Tm):Bool:=p.any λt=>NK<|fq t.f
def MF(p:L Tm):Int:=match p.findIdx? (λt=>NK<|fq t.f)with
 |some i=>(i:Int)
 |none=> -1
def VX(p:L Tm)(h:∀t∈p,t.ok/\mc t.f K)(e:K<2^32)(hl:p.length<2^40):ab 329 [aia p,.fn (.func 297) [] []] (.i<|MF p):=by
 refine cp func329 W<|r0 W<|ba (λi:Nat=>[(0,aia p),(1,.fn (.func 297) [] []),(7,.i p.length),(8,.i i)]) (λi=>i<=p.length/\∀j(b:j<p.length),j<i->NK (fq p[j].f)=false) (λi=>p.length-i) 0 ⟨aaQ _,λ_ _ h=>aaF h<|Nat.not_lt_zero _⟩ ?_;rintro i⟨hi,m⟩;refine cm W W ?_ ?_<;>intro g;have a:i<p.length:=E;have k:(i:Int).toNat=i:=E;have l:p.getD i default=p[i]:=az a;have hm:=h p[i] I;refine eP W ?_;rw[k,l];refine bW W (VH p[i] hm.1 hm.2 e) W<|nS W W W ?_ ?_<;>intro g1;refine b7 W W<|cn ?_;have:p.findIdx? (λt=>NK<|fq t.f)=some i:=List.findIdx?_eq_some_iff_getElem.2 ⟨a,g1,λj b=>fP⟩;unfold MF;rw[this];refine eP W<|aM (i+1) ⟨E,λj b d=>?_⟩
 grind
 have:p.findIdx? (λt=>NK<|fq t.f)=none:=List.findIdx?_eq_none_iff.2 λt c=>by
  obtain⟨j,b,rfl⟩:=af7 c
  grind
 refine b7 W W<|aij SV.i<|by unfold MF;rw[this]
def Tg(p:L Tm):decide (MF p>=0)=Jm p:=by
 unfold MF Jm
 grind
def VI(p:L Tm)(h:∀t∈p,t.ok/\mc t.f K)(a:K<2^32)(hl:p.length<2^40):ab 231 [aia p] (.u<|Jm p):=by
 refine cp func231 W<|r0 W ?_;have hc:ab 296 [aia p,.fn (.func 297) [] []] (.u<|Jm p):=by refine cp func296 W<|ck W W (VX p h a hl) W<|b7 W W<|aij SV.u<|Tg p
 refine bW W hc W<|cg W W
def Tp(p:L Tm):Int:=match p with
 |[]=>0
 |t::_=>t.pw.sum
def ab9(p:L Tm)(h:∀t∈p,PwS t.pw):ab 230 [aia p] (.i<|Tp p):=by refine cp func230 W<|cm W W ?_ ?_<;>intro g;have:p=[]:=ahh.1 E;subst this;refine b7 W W W;obtain⟨t,l,rfl⟩:∃t l,p=t::l:=List.exists_cons_of_ne_nil λe=>g (by rw[e];rfl);have a:=h t I;refine eP W<|bW W (WB t.pw a.2.1 a.2.2) W<|cg W W
end
def XZ(p:L Tm){K:Nat}(h:∀t∈p,t.ok/\mc t.f K/\PwS t.pw)(d:K<2^32)(hl:p.length<2^40):ab 131 [aia p] (cH true<|p.map Tm.tr):=by refine cp func131 W<|r0 W<|ba (λi:Nat=>[(3,cH true<|(p.take i).map Tm.tr),(6,aia p),(7,.i p.length),(8,.i i)]) (λi=>i<=p.length) (λi=>p.length-i) 0 (aaQ _) ?_;intro i hi;refine cm W W ?_ ?_<;>intro g;have a:i<p.length:=E;have b:(i:Int).toNat=i:=E;have c:p.getD i default=p[i]:=az a;have hm:=h p[i] I;refine eP W ?_;rw[b,c];refine bX W (NW p[i].f hm.1 hm.2.1 E) W<|cj W W (CS p[i].pw hm.2.2.1 (by have:=hm.2.2.2.1;omega)) W ?_;refine u6 W ?_ (by simp[aj,aag,fk,acx,ade,abo,acC];omega);refine aM (i+1) E ⟨⟨W,W,W,?_⟩,G,G,G,U⟩;rw[dj,ace a,acB,acB];exact kS.append (kS.refl _) ⟨.inr W,W⟩;have:i=p.length:=E;subst this;rw[acS];refine cg W W
def NV(l:L bq):L Tm:=l.map λt=>⟨db t.c,t.pw⟩
def Ud(l:L bq):(NV l).map Tm.tr=l:=by unfold NV;rw[aer];refine(adx λt _=>?_).trans<|List.map_id l;show(⟨bG.fq<|db t.c,t.pw⟩:bq)=t;rw[(bz t.c).fq]
def Yw(l:L bq){V K:Nat}(f:∀t∈l,Dc t.c 600)(h:rE V K (NV l))(j:K<2^32)(hl:l.length<2^40):ab 136 [cH false l] (aid<|kd<|NV l):=by
 refine cp func136 W<|r0 W<|ex W W W (sw (κ:=cq) W) W<|r0 W<|ba (λi:Nat=>[(3,.mx<|lF<|ot<|NV<|l.take i),(7,cH false l),(8,.i l.length),(9,.i i)]) (λi=>i<=l.length) (λi=>l.length-i) 0 (aaQ _) ?_;intro i hi;refine cm W W ?_ ?_<;>intro g;have b:i<l.length:=E;have k:(i:Int).toNat=i:=E;have n:l.getD i default=l[i]:=az b;have hm:=f l[i] I;have e:NV (l.take<|i+1)=NV (l.take i)++[⟨db l[i].c,l[i].pw⟩]:=by unfold NV;rw[ace b,acB];rfl
 have a:(⟨db l[i].c,l[i].pw⟩:Tm)∈NV l:=abS.2 ⟨l[i],I,W⟩;have d:=h.tm _ a;have o:l[i].pw.length<2^20:=d.2.2.1.2.1;refine eP W ?_;rw[k,n];refine bX W (JB l[i].c hm fV) W<|cj W W ((CS l[i].pw d.2.2.1.1 E).shr.same (q:=fO l[i].pw) W W) W<|r0 W<|crd W W (Fu h j (m:=NV<|l.take i) (t:=⟨db l[i].c,l[i].pw⟩)<|by rw[<-e];unfold NV;grind) W ?_;rw[<-e];refine u6 W<|aM (i+1) E;have:i=l.length:=E;subst this;rw[acS];refine r0 W<|cr W W (CE IH h) W<|cg W W
end Go.Ai.Pg
namespace Go.Ai
open Go.Proofs Go.RowKit Go.Proofs.Tryz
section
variable{K L:Nat}{p q:Rat}
def vt(p q:Rat):Rat:=if p<=q then p else q
def zp(b:Sz p K)(a:Sz q K):Sz (qx p q) K:=by unfold qx;split<;>assumption
def zo(b:Sz p K)(a:Sz q K):Sz (vt p q) K:=by unfold vt;split<;>assumption
def su(p q:Rat)(b:Sz p K)(a:Sz q L)(c:K+L+1<2^34):ab 155 [.s<|qt p,.s<|qt q] (.s<|qt<|vt p q):=by
 refine cp func155 W<|ck W W (ru p q b a c) W<|cm W W ?_ ?_<;>intro g;refine b7 W W<|aij (λq=>SV.s<|qt q)<|by unfold vt;rw[aas<|mR.1 g]
 refine b7 W W<|aij (λq=>SV.s<|qt q)<|by unfold vt;rw[aaq λh=>g<|mR.2 h]
def qk{q:Rat}{K:Nat}(h:Sz q K):∀n:Nat,Sz (q^n) (n*K+1)
 |0=>by rw[Rat.pow_zero];exact Sz.mono (show Sz 1 1 from⟨by simp[gX],by simp[gX]⟩) E
 |n+1=>by rw[ahn];exact((qk h n).mul h).mono (by rw[adD];omega)
def Bm(q:Rat)(n:Nat)(h:Sz q K)(hn:n<2^20)(a:(n+1)*K+1<2^34):ab 157 [.s<|qt q,.i n] (.s<|qt<|q^n):=by refine cp func157 W<|b9 W (λi:Nat=>[(0,.s<|qt q),(1,.i n),(5,.s<|qt<|q^i),(6,.i i)]) (λi=>i<=n) (λi=>n-i) 0 (aaQ _) ⟨G,G,⟨W,aij SV.s<|by rw[Rat.pow_zero];exact IW.symm⟩,G,U⟩ ?_;intro i hi;refine cm W W ?_ ?_<;>intro g;refine r0 W ?_;have b:i*K<=n*K:=acM _ E;rw[adD]at a;refine bW W (dY (q^i) q (qk h i) h E) W ?_;rw[<-ahn];refine eP W<|aM (i+1) E;have:i=n:=E;subst this;refine cg W W
def Cy:q.num.sign<0↔q<0:=by rw[afI,<-ag2,<-afP];omega
def Cx:q.num.sign>0↔0<q:=by rw[<-ag2,<-Rat.neg_neg q,<-Rat.neg_zero,Rat.neg_le_neg_iff,<-afP];simp
structure QS where
 lo:Rat
 hi:Rat
instance:Inhabited QS:=⟨⟨0,0⟩⟩
def pG(s:QS):SV:=eSp s.lo s.hi
abbrev aif:=SV.bc false 2 default pG
abbrev aii:=SV.bc true 2 default pG
structure tn(s:QS)(K:Nat):Prop where
 lo:Sz s.lo K
 hi:Sz s.hi K
def tn.mono{s:QS}(h:tn s K)(hl:K<=L):tn s L:=⟨h.lo.mono hl,h.hi.mono hl⟩
def zS(a b:QS):QS:=⟨vt (vt (a.lo*b.lo)<|a.lo*b.hi)<|vt (a.hi*b.lo)<|a.hi*b.hi,qx (qx (a.lo*b.lo)<|a.lo*b.hi)<|qx (a.hi*b.lo)<|a.hi*b.hi⟩
def Xo(a b:QS):QS:=⟨a.lo+b.lo,a.hi+b.hi⟩
def qQ(s:QS)(n:Nat):QS:=⟨if 0<n/\n%2=0/\s.lo<0/\0<s.hi then 0 else vt (s.lo^n) (s.hi^n),qx (s.lo^n)<|s.hi^n⟩
def tn.mul{a b:QS}(d:tn a K)(c:tn b L):tn (zS a b) (K+L):=⟨zo (zo (d.lo.mul c.lo)<|d.lo.mul c.hi)<|zo (d.hi.mul c.lo)<|d.hi.mul c.hi,zp (zp (d.lo.mul c.lo)<|d.lo.mul c.hi)<|zp (d.hi.mul c.lo)<|d.hi.mul c.hi⟩
def tn.add{a b:QS}(d:tn a K)(c:tn b L):tn (Xo a b) (K+L+1):=⟨d.lo.add c.lo,d.hi.add c.hi⟩
def tn.pow{a:QS}(b:tn a K)(n:Nat):tn (qQ a n) (n*K+1):=⟨by unfold qQ;split;exact pM.mono E;exact zo (qk b.lo n)<|qk b.hi n,zp (qk b.lo n)<|qk b.hi n⟩
def DG(a b:QS)(d:tn a K)(c:tn b L)(e:2*(K+L)+1<2^34):ab 72 [pG a,pG b] (pG<|zS a b):=by have p:=d.lo.mul c.lo;have q:=d.lo.mul c.hi;have r:=d.hi.mul c.lo;have s:=d.hi.mul c.hi;refine cp func72 W<|cj W W (dY a.lo b.lo d.lo c.lo E) W<|cj W W (dY a.lo b.hi d.lo c.hi E) W<|cj W W (dY a.hi b.lo d.hi c.lo E) W<|cj W W (dY a.hi b.hi d.hi c.hi E) W<|CM W<|bW W (su _ _ p q E) W<|ck W W (su _ _ r s E) W<|ck W W (su _ _ (zo p q) (zo r s) E) W<|ck W W (pc _ _ p q E) W<|ck W W (pc _ _ r s E) W<|ck W W (pc _ _ (zp p q) (zp r s) E) W<|cg W W
def FA(a b:QS)(d:tn a K)(c:tn b L)(e:K+L+1<2^34):ab 74 [pG a,pG b] (pG<|Xo a b):=by refine cp func74 W<|cj W W (rC a.lo b.lo d.lo c.lo e) W<|cj W W (rC a.hi b.hi d.hi c.hi e) W<|CM W<|bV W
def FT(s:QS)(n:Nat)(hs:tn s K)(hn:n<2^20)(k:2*((n+1)*K+1)+1<2^34):ab 73 [pG s,.i n] (pG<|qQ s n):=by
 have j:=qk hs.lo n;have g:=qk hs.hi n;have m:n*K<=(n+1)*K:=acM _ E;have l:K<=(n+1)*K:=Nat.le_mul_of_pos_left _ E;refine cp func73 W<|cj W W (Bm s.lo n hs.lo hn E) W<|cj W W (Bm s.hi n hs.hi hn E) W<|CM W<|bW W (su _ _ j g E) W<|ck W W (pc _ _ j g E) W<|r0 W ?_;have d:=kY s.lo<|hs.lo.tf E;have c:=kY s.hi<|hs.hi.tf E;have a:¬(0<n/\n%2=0/\s.lo<0/\0<s.hi)->pG (qQ s n)=eSp (vt (s.lo^n)<|s.hi^n) (qx (s.lo^n)<|s.hi^n):=λh=>by unfold qQ pG;grind
 refine aF 25 W ?_ ?_<;>intro g1;refine eP W<|aF 30 W ?_ ?_<;>intro g2;refine ck W W d W<|b6 W 36 W ?_ ?_<;>intro f;refine ck W W c W<|cm W W ?_ ?_<;>intro e;have b:pG (qQ s n)=eSp 0 (qx (s.lo^n)<|s.hi^n):=by unfold qQ pG;dsimp only;rw[aas ⟨E,E,Cy.1 f,Cx.1 e⟩]
 rw[b];refine b7 W W<|aw.of_eq<|by unfold eSp fA;rw[rX];rfl
 rw[a λh=>e<|Cx.2 h.2.2.2];refine cg W W;rw[a λh=>f<|Cy.2 h.2.2.1];refine cg W W;rw[a λh=>g2 E];refine cg W W;rw[a λh=>g1 E];refine cg W W
def j9(box:List QS)(t:bq)(v:Nat):QS:=(List.range v).foldl (λx v=>zS x<|qQ (box.getD v default) (t.pw.getD v 0).toNat) ⟨t.c,t.c⟩
def mY(box:List QS)(t:bq)(v:Nat):j9 box t (v+1)=zS (j9 box t v) (qQ (box.getD v default) (t.pw.getD v 0).toNat):=by unfold j9;rw[agO,afv];rfl
def gO(box:List QS)(p:List bq):QS:=p.foldl (λs t=>Xo s<|j9 box t box.length) ⟨0,0⟩
def uw(box:List QS)(p:List bq)(t:bq):gO box (p++[t])=Xo (gO box p) (j9 box t box.length):=by unfold gO;simp
structure acG(A B:Nat)(box:List QS)(p:List bq):Prop where
 bx:∀s∈box,tn s A
 tm:∀t∈p,Sz t.c B/\t.pw.length=box.length/\∀x∈t.pw,0<=x/\x<=12
def uO{A B:Nat}{box:List QS}{t:bq}(a:∀s∈box,tn s A)(hc:Sz t.c B)(b:∀x∈t.pw,0<=x/\x<=12):∀v,v<=box.length->tn (j9 box t v) (B+v*(12*A+1))
 |0,_=>⟨by show Sz t.c _;simp_all,by show Sz t.c _;simp_all⟩
 |v+1,h=>by
  rw[mY];have g:=uO (box:=box) a hc b v E;have f:tn (box.getD v default) A:=a _ (by grind);have e:(t.pw.getD v 0).toNat<=12:=by by_cases i:v<t.pw.length;simp_all;simp_all
  have d:=(f.pow (t.pw.getD v 0).toNat).mono (show _<=12*A+1 from afJ (acM _ e) 1);exact(g.mul d).mono (by rw[adD];omega)
def ve{A B:Nat}{box:List QS}(b:∀s∈box,tn s A):∀{p:List bq},(∀t∈p,Sz t.c B/\∀x∈t.pw,0<=x/\x<=12)->∀i,i<=p.length->tn (gO box<|p.take i) (1+i*(B+box.length*(12*A+1)+1))
 |p,h,0,_=>⟨pM.mono E,pM.mono E⟩
 |p,h,i+1,hi=>by rw[ace E,uw];have a:=h p[i] I;exact((ve b h i E).add<|uO b a.1 a.2 box.length .refl).mono (by rw[adD];omega)
def Ci(p:List bq)(box:List QS){A B:Nat}(h:acG A B box p)(hA:A<=1000)(M:B<=1000)(hl:p.length<=64)(J:box.length<=100):ab 16 [cH false p,aif box] (pG<|gO box p):=by
 have hs:∀v,v<=box.length->v*(12*A+1)<=100*12001:=λv l=>ael E E;have y:=hs box.length<|aaU _;have m:∀i,i<=p.length->i*(B+box.length*(12*A+1)+1)<=64*1202000:=λi hi=>ael E E;refine cp func16 W<|r0 W ?_;have n:ab 64 [.s [48]] (eSp 0 0):=by have:=Bn 0;rwa[rX]at this
 refine bW W n W<|r0 W<|ba (λi:Nat=>[(0,cH false p),(1,aif box),(4,.box true<|.agg [.s [],.s []]),(5,.box true<|pG<|gO box<|p.take i),(6,.i i)]) (λi=>i<=p.length) (λi=>p.length-i) 0 (aaQ _) ?_;intro i hi;refine cm W W ?_ ?_<;>intro g;have c:i<p.length:=E;have o:(i:Int).toNat=i:=E;have r:p.getD i default=p[i]:=az c;have a:=h.tm p[i] I;refine eP W ?_;rw[o,r];refine bW W (Bn p[i].c) W<|r0 W<|ba (λv:Nat=>[(0,cH false p),(1,aif box),(4,.box true<|.agg [.s [],.s []]),(5,.box true<|pG<|gO box<|p.take i),(6,.i i),(7,.box true<|pG<|j9 box p[i] v),(8,.i v)]) (λv=>v<=box.length) (λv=>box.length-v) 0 (aaQ _) ?_;intro v l;have s:=uO h.bx a.1 a.2.2 v l;have F:=hs v l;refine cm W W ?_ ?_<;>intro g1;have j:v<box.length:=E;have ev:(v:Int).toNat=v:=E;have f:box.getD v default=box[v]:=az j;have H:=a.2.2 _<|aX (d:=0)<|show v<p[i].pw.length from E;have e:=h.bx box[v] I;refine r1 W (by simp only[aj,aag,o,ev,r];omega) ?_;rw[o,ev,r,f];obtain⟨k,w⟩:∃k:Nat,p[i].pw.getD v 0=k:=⟨(p[i].pw.getD v 0).toNat,E⟩;rw[w];have b:k<=12:=E;have z:(k+1)*A<=13*1000:=ael E hA;have u:k*A<=12*1000:=ael b hA;refine bX W (FT box[v] k e E E) W<|cj W W (DG (j9 box p[i] v) (qQ box[v] k) s (e.pow k) E) W<|u6 W ?_;have C:j9 box p[i] (v+1)=zS (j9 box p[i] v) (qQ box[v] k):=by rw[mY,f,w];rfl
 rw[<-C];exact aM (v+1) E;have:v=box.length:=E;subst this;have x:=ve h.bx (λt a=>⟨(h.tm t a).1,(h.tm t a).2.2⟩) i hi;have D:=m i hi;refine ck W W (FA (gO box<|p.take i) (j9 box p[i] box.length) x s E) W ?_;rw[<-uw,<-ace c];refine eP W<|aM (i+1) E;have:i=p.length:=E;subst this;rw[acS];refine cg W W
def fE(s:QS):Int:=if ik s.lo≠0\/ik s.hi≠0 then 4 else 0
def zV(q:Rat):ik q=0\/ik q=4:=by unfold ik;split<;>simp
def OR(l:List Rat)(h:∀q∈l,Sz q K)(d:K<2^36)(hl:l.length<2^60):ab 75 [.strs false<|l.map qt] (.i<|aG ik l):=by
 refine cp func75 W<|r0 W<|ba (λi:Nat=>[(0,.strs false<|l.map qt),(3,.i i)]) (λi=>i<=l.length/\aG ik l=aG ik (l.drop i)) (λi=>l.length-i) 0 ⟨aaQ _,W⟩ ?_;rintro i⟨hi,a⟩;refine cm W W ?_ ?_<;>intro g;rw[acx]at g;have b:i<l.length:=E;have c:(i:Int).toNat=i:=E;have e:(l.map qt).getD i []=qt l[i]:=fP;rw[cP _ b]at a;refine r1 W (by simp[aj,aag,c,acx];omega) ?_;rw[c,e];refine bW W (BC l[i] (h _ I) d) W<|cm W W ?_ ?_<;>intro g1;refine r0 W ?_;have f:=zV l[i];exact aH W<|aij SV.i<|by rw[a];simp_all
 refine eP W<|aM (i+1) ⟨E,by rw[a];simp_all⟩;rw[acx]at g;refine b7 W W<|aij SV.i<|by rw[a,aew E];rfl
def Ce(s:QS)(h:tn s K)(b:K<2^36):ab 17 [pG s] (.i<|fE s):=by refine cp func17 W<|ck W W (OR [s.lo,s.hi] (by simp;exact⟨h.lo,h.hi⟩) b<|acW (show 2<3 from fV) fV) W ?_;refine b7 W W<|cn ?_;unfold fE;rcases zV s.lo with h1|h1<;>rcases zV s.hi with a|a<;>simp[aG,h1,a]
end
def Tq(n:Nat)(h:n≠0):∃c l,decl n 1=c::l/\c.toNat≠48:=by
 induction n using Nat.strongRecOn with
 |ind n a=>
  rw[bC E];by_cases b:n<10;rw[show n/10=0 from E,c7];refine⟨_,[],W,?_⟩;have:=vg (d:=n%10) E;omega;have e:decl (n/10) (1-1)=decl (n/10) 1:=by rw[bC (n:=n/10) (k:=1) E,bC (n:=n/10) (k:=1-1) E]
  obtain⟨c,l,g,f⟩:=a (n/10) E E;simp_all
def M5(n:Nat):gg (decl n 1)=true:=by unfold gg;rw[aaq λh=>Rc n fV<|ahh.1 h,aaq,lB.2<|cE _ _];rintro⟨a,f⟩;by_cases e:n=0;subst e;rw[bC E]at a;simp[c7]at a;obtain⟨c,l,d,b⟩:=Tq n e;simp_all
def WX{q:Rat}(h:Dc q 600):aQ (qt q)=0:=by
 have hs:=GR q;have f:=AH q;have c:(bM<|qt q).take (aE<|bM<|qt q)=decl q.num.natAbs 1:=fP;have i:iL (qt q)=true:=by
  unfold iL;rw[c,M5,D6];by_cases g:q.num<0;have:decl q.num.natAbs 1≠[48]:=λe=>by have:=aaf cX e;rw[gn]at this;rw[show cX [48]=0 from abI]at this;omega
  simp[this];simp[g]
 by_cases b:q.den=1;have hn:¬aE (bM<|qt q)<(bM<|qt q).length:=by rw[hs,f];unfold eG;rw[aas b];simp
 have hl:(bM<|qt q).length=(decl q.num.natAbs 1).length:=fP;unfold aQ;rw[aas i,aas<|by unfold jt;simp[hn],aaq (by rw[hl];have:=h.1;omega),aas<|by unfold nP;simp[hn]];have a:eG q.den=47::decl q.den 1:=by unfold eG;rw[aaq b]
 have d:(bM<|qt q).drop (aE (bM<|qt q)+1)=decl q.den 1:=by simp_all
 have hl:(bM<|qt q).length=(decl q.num.natAbs 1).length+((decl q.den 1).length+1):=by rw[f,a];simp
 have k:decl q.den 1≠[48]:=λe=>by have:=aaf cX e;rw[gn]at this;exact q.den_nz this
 have j:decl q.den 1≠[49]:=λe=>by have:=aaf cX e;rw[gn]at this;exact b this
 unfold aQ;rw[aas i,aas<|by unfold jt;rw[d,M5];simp[k,j],aaq (by rw[hs,hl];have:=h.1;have:=h.2;omega),aas];unfold nP;rw[c,d,gn,gn];have:q.num.natAbs.gcd q.den=1:=q.reduced;simp[this]
end Go.Ai
namespace Go.Ai.Pg
section
variable{n:Nat}{q:Rat}{t:bq}
def Eo(l:L Int)(hl:l.length<2^60):ab 233 [fO l] (.i<|aG id l):=by refine cp func233 W<|r0 W<|ba (λi:Nat=>[(5,fO l),(6,.i l.length),(7,.i i)]) (λi=>i<=l.length/\aG id l=aG id (l.drop i)) (λi=>l.length-i) 0 ⟨aaQ _,W⟩ ?_;rintro i⟨hi,a⟩;refine cm W W ?_ ?_<;>intro h;have b:i<l.length:=E;have d:(i:Int).toNat=i:=E;rw[cP _ b]at a;refine eP W<|bY W ?_ ?_<;>intro c;refine b7 W W<|cn ?_;rw[a];simp_all;refine eP W<|aM (i+1) ⟨E,?_⟩;rw[a];simp_all;refine b7 W W<|cn ?_;rw[a,aew E];rfl
def Tr(p q:L Int)(l:TL p)(o:TL q)(hl:q.length=p.length):ab 305 [fO p,fO q] (.i<|Cr p q):=by intro w S J N v hc;obtain⟨y,M,F,R,rfl,O,-,u,z,K,D,P,rfl,A,-,j,rfl,rfl⟩:=hc;have C:F=[]:=fP;have B:D=[]:=fP;subst C;subst B;obtain⟨a,c,rfl,n1,-⟩:=Df u;obtain⟨b,d,rfl,s,-⟩:=Df j;refine qD.lS (fn:=Tryz.f305) func305 W W ?_;rw[hl];refine(Tryz.aea (λx y f=>AnyG.cmp_Compare_int Tryz.WT x y f) a b c d p q w l.1 hl (λz g=>⟨(l.2 z g).1,by have:=(l.2 z g).2;omega⟩) (λz g=>⟨(o.2 z g).1,by have:=(o.2 z g).2;omega⟩) n1 s).mono ?_;rintro e H⟨rfl,k,os,rfl⟩;have r:=wY w k os;exact⟨_,W,S,[],r,λ_ h=>h,λ_ h=>.inl h,λb m=>acW (v b m) r.size,by simp[SV.den,Rel,scalar],acP,I⟩
structure TmV(n:Nat)(t:bq):Prop where
 dc:Dc t.c 600
 nz:t.c≠0
 len:t.pw.length=n
 pos:∀x∈t.pw,0<=x
 sum:t.pw.sum<=12
def C5{l:L Int}(h:∀x∈l,0<=x):∀i,i<=l.length->(l.take i).sum<=l.sum:=by
 intro i _
 conv=>rhs;rw[<-af3 i l]
 rw[List.sum_append];have:0<=(l.drop i).sum:=by
  have:∀{m:L Int},(∀x∈m,0<=x)->0<=m.sum:=by
   intro m hm
   induction m with
   |nil=>simp
   |cons x m a=>have:=a λy b=>hm y (by simp[b]);have:=hm x I;simp;omega
  grind
 omega
def TmV.le(h:TmV n t):∀x∈t.pw,0<=x/\x<=12:=λx a=>⟨h.pos x a,afD (jV h.pos x a) h.sum⟩
def TmV.pwb(h:TmV n t)(hn:n<2^20):TL t.pw:=⟨by rw[h.len];exact hn,λx a=>⟨h.pos x a,by have:=(h.le x a).2;omega⟩⟩
def wm(h:Dc q 600):(qt q).length<2^20:=by
 have b:=AH q;have a:(qt q).length<=(bM<|qt q).length+1:=by unfold bM;grind
 have c:(eG q.den).length<=(decl q.den 1).length+1:=by unfold eG;split<;>simp
 rw[b,acU]at a;have:=h.1;have:=h.2;omega
def aa7(t:bq)(h:TmV (n+1) t)(hn:n<1000):ab 304 [JP t,.i n] (.i 0):=by
 have f:=h.len;refine cp func304 W<|eP W<|bY W (λg=>aaF (show(t.pw.length:Int)=n+1 from E) g) λg=>?_;refine r0 W<|ba (λi:Nat=>[(1,.i n),(2,.box true<|JP t),(5,.i (t.pw.take i).sum),(15,fO t.pw),(16,.i t.pw.length),(17,.i i)]) (λi=>i<=t.pw.length) (λi=>t.pw.length-i) 0 (aaQ _) ?_;intro i hi;have k:=C5 h.pos i hi;have hs:=h.sum;have j:0<=(t.pw.take i).sum:=by have:=C5 (l:=t.pw.take i) (λx d=>h.pos x<|afB d) 0 (aaQ _);simpa using this
 refine cm W W ?_ ?_<;>intro g;have c:i<t.pw.length:=E;have m:(i:Int).toNat=i:=E;have e:t.pw.getD i 0=t.pw[i]:=az c;have d:=h.le t.pw[i] I;refine eP W ?_;rw[m,e];refine bY W (λg2=>aaF g2 E) λg2=>?_;have a:(t.pw.take<|i+1).sum=(t.pw.take i).sum+t.pw[i]:=by rw[KB c,e]
 have b:vr true t.pw[i] 13=t.pw[i]:=by unfold vr;simp;omega
 refine eP W ?_;rw[b,<-a];exact aM (i+1) E;have:i=t.pw.length:=E;subst this;rw[acS]at k j;rw[acS];refine cj W W (xc _ 4) W<|cj W W (vh (qt t.c) (by have:=wm h.dc;omega)) W ?_;rw[WX h.dc,aaq<|by simp;omega];refine cj W W (Eo [0,0] I) W<|CM W<|aH W W
structure NG(n:Nat)(p:List bq):Prop where
 tm:∀t∈p,TmV n t
 TP:AQ p
 len:p.length<=64
def abu(h:q≠0):qt q≠[48]:=λe=>h<|IX.1<|e.trans rX.symm
def J1(p:L bq)(h:NG (n+1) p)(hn:n<1000):ab 234 [cH false p,.i n] (.i 0):=by
 have hl:=h.len;refine cp func234 W<|cm W W (λg=>aaF g E) λg=>?_;refine r0 W<|ba (λi:Nat=>[(0,cH false p),(1,.i n),(11,cH false p),(12,.i p.length),(13,.i i)]) (λi=>i<=p.length) (λi=>p.length-i) 0 (aaQ _) ?_;intro i hi;refine cm W W ?_ ?_<;>intro g;have c:i<p.length:=E;have l:(i:Int).toNat=i:=E;have m:p.getD i default=p[i]:=az c;have b:=h.tm p[i] I;refine eP W ?_;rw[l,m];refine bX W (aa7 p[i] b hn) W<|r0 W ?_;have f:ab 224 [.u<|decide (qt p[i].c=[48]),.i 6] (.i 0):=by have:=xc (decide (qt p[i].c=[48])) 6;rwa[aaq<|by simp[abu b.nz]]at this
 refine bX W f W<|cj W W (Eo [0,0] I) W<|CM W<|aF 29 W (λ_=>?_) λg=>aaF W g;refine b6 W 33 W ?_ ?_<;>intro g1;have e:i-1<p.length:=E;have k:((i:Int)-1).toNat=i-1:=E;have a:=h.tm p[i-1] I;have d:p.getD (i-1) default=p[i-1]:=az e;refine eP W ?_;rw[k,d];have j:=agP.1 h.TP (i-1) i e c E;have hc:=(uH<|a.len.trans b.len.symm).2 j;refine bX W (Tr p[i-1].pw p[i].pw (a.pwb E) (b.pwb E)<|b.len.trans a.len.symm) W<|CM W<|bY W (λg2=>aaF g2 E) λ_=>?_;refine cm W W (λg2=>aaF W g2) λ_=>?_;refine eP W<|aM (i+1) E;refine CM W<|bY W (λg2=>aaF W g2) λ_=>?_;refine eP W<|aM (i+1) E;refine b7 W W W
end
section
variable{K:Nat}{p q:Rat}
def U8(p:L bq){n:Nat}(h:NG (n+1) p)(hn:n<25):ab 132 [cH false p,.i (n+1:Nat)] (.i 0):=by
 have b:ab 224 [.u<|decide (((n+1:Nat):Int)=0),.i 2] (.i 0):=by have:=xc (decide (((n+1:Nat):Int)=0)) 2;rwa[aaq<|by simp;omega]at this
 have a:ab 224 [.u<|decide (((n+1:Nat):Int)>25),.i 5] (.i 0):=by have:=xc (decide (((n+1:Nat):Int)>25)) 5;rwa[aaq<|by simp;omega]at this
 refine cp func132 W<|ck W W b W<|ck W W a W<|ck W W (Eo [0,0] I) W<|cm W W (λg=>aaF W g) λ_=>?_;refine eP W<|Gm (us:=[cH false p,.i n]) W W U ⟨W,aaf SV.i E,U⟩ (J1 p h E) W<|b7 W W W
def Zv(l:L jh)(h:∀s∈l,dI s.lo/\dI s.hi)(hl:l.length<2^40):ab 133 [aib l,.fn (.func 126) [] []] (.i<|aG dQ l):=by
 refine cp func133 W<|r0 W<|ba (λi:Nat=>[(1,.fn (.func 126) [] []),(8,aib l),(9,.i l.length),(10,.i i)]) (λi=>i<=l.length/\aG dQ l=aG dQ (l.drop i)) (λi=>l.length-i) 0 ⟨aaQ _,W⟩ ?_;rintro i⟨hi,b⟩;refine cm W W ?_ ?_<;>intro g;have a:i<l.length:=E;have c:(i:Int).toNat=i:=E;have d:l.getD i default=l[i]:=az a;rw[cP _ a]at b;have hs:=h l[i] I;refine eP W ?_;rw[c,d];refine bW W (Uq l[i] hs.1 hs.2) W<|cm W W ?_ ?_<;>intro g2;refine b7 W W<|aij SV.i<|by rw[b];simp_all
 refine eP W<|aM (i+1) ⟨E,by rw[b];simp_all⟩;refine b7 W W<|aij SV.i<|by rw[b,aew E];rfl
structure Sp where
 l:Fr
 h:Fr
def EI(s:Sp):SV:=.agg [.i s.l.n.s,.eI .u64<|ws s.l.n,.i s.l.d.s,.eI .u64<|ws s.l.d,.i s.h.n.s,.eI .u64<|ws s.h.n,.i s.h.d.s,.eI .u64<|ws s.h.d]
structure vz(s:Sp)(q:QS):Prop where
 l:cL s.l q.lo
 h:cL s.h q.hi
def Wj(f g:Fr)(b:cL f p)(a:cL g q)(d:Sz p K)(c:Sz q K)(h:K<2^32):ab 212 [eF f,eF g] (.i<|wW p q):=by
 have:=JK f g b a (eD b d) (eD a c) E;have e:(p.num*q.den-q.num*p.den).sign=wW p q:=by
  have m:(p.num*q.den-q.num*p.den<0)↔p<q:=by rw[Rat.lt_iff];omega
  have l:(p.num*q.den-q.num*p.den<=0)↔p<=q:=by rw[Rat.le_iff];omega
  unfold wW;have k:(p-q).num<0↔p<q:=by
   rw[show(p-q).num<0↔¬0<=(p-q).num from E,afP]
   grind
  have j:(p-q).num<=0↔p<=q:=by have:=mR (p:=p) (q:=q);unfold wW at this;grind
  grind
 rwa[e]at this
def Gv(s:Sp)(x:Fr):Sp:=⟨if bG.fq x<bG.fq s.l then x else s.l,if bG.fq s.h<bG.fq x then x else s.h⟩
def Ry(a:Fr)(l:L Fr):Sp:=l.foldl Gv ⟨a,a⟩
def CQ:wW p q<0↔p<q:=by rw[<-ag2,<-JZ];omega
def CR:wW p q>0↔q<p:=by rw[<-ag2,<-mR];omega
structure SFz(K:Nat)(s:Sp):Prop where
 l:cL s.l (bG.fq s.l)
 h:cL s.h (bG.fq s.h)
 zl:Sz (bG.fq s.l) K
 zh:Sz (bG.fq s.h) K
def aeh{s:Sp}{x:Fr}(h:SFz K s)(b:cL x (bG.fq x))(a:Sz (bG.fq x) K):SFz K (Gv s x):=by unfold Gv;constructor;dsimp only;split;exact b;exact h.l;dsimp only;split;exact b;exact h.h;dsimp only;split;exact a;exact h.zl;dsimp only;split;exact a;exact h.zh
def Xh{K:Nat}:∀{l:L Fr}{s:Sp},SFz K s->(∀x∈l,cL x (bG.fq x)/\Sz (bG.fq x) K)->SFz K (l.foldl Gv s)
 |[],_,h,_=>h
 |x::l,s,h,hl=>Xh (l:=l) (aeh h (hl x I).1 (hl x I).2) λy a=>hl y (by simp[a])
def Xf(a:Fr)(l:L Fr)(k:cL a (bG.fq a))(j:Sz (bG.fq a) K)(h:∀x∈l,cL x (bG.fq x)/\Sz (bG.fq x) K)(m:K<2^32)(hl:l.length<2^40):iQ prog 134 [.bc true 4 default eF l] [eF a,.bw 1000000 0 0 []] [.bc true 4 default eF l] (EI<|Ry a l):=by
 refine mF (fn:=Tryz.f134) func134 W W W W W<|r0 W<|ba (λi:Nat=>[(4,.box true<|.agg [.i 0,.nil,.i 0,.nil,.i 0,.nil,.i 0,.nil]),(5,.box true<|EI<|Ry a<|l.take i),(11,.bw 1000000 0 0 []),(12,.i l.length),(13,.i i),(1000000,.bc true 4 default eF l)]) (λi=>i<=l.length) (λi=>l.length-i) 0 (aaQ _) ?_;intro i hi;refine cm W W ?_ ?_<;>intro g;have f:i<l.length:=E;have n:(i:Int).toNat=i:=E;have o:l.getD i default=l[i]:=az f;have c:=h l[i] I;have e:SFz K (Ry a<|l.take i):=Xh ⟨k,k,j,j⟩ λx c=>h x<|afB c;have b:Ry a (l.take<|i+1)=Gv (Ry a<|l.take i) l[i]:=by unfold Ry;rw[ace f,afv];rfl
 refine eP W ?_;rw[n,o];generalize Ry a (l.take i)=s at e b;refine bW W (Wj l[i] s.l c.1 e.l c.2 e.zl m) W<|r0 W ?_;have d:=Wj l[i] s.h c.1 e.h c.2 e.zh m;refine bY W ?_ ?_<;>intro g1;refine ck W W d W<|cm W W ?_ ?_<;>intro g2;refine eP W ?_;rw[show Gv s l[i]=⟨l[i],l[i]⟩ by unfold Gv;rw[aas<|CQ.1 g1,aas<|CR.1 g2]]at b;refine aM (i+1) E ⟨G,⟨W,by rw[b];exact aw.refl _⟩,lO,G,G,G,U⟩;refine eP W ?_;rw[show Gv s l[i]=⟨l[i],s.h⟩ by unfold Gv;rw[aas<|CQ.1 g1,aaq λh=>g2<|CR.2 h]]at b;refine aM (i+1) E ⟨G,⟨W,by rw[b];exact aw.refl _⟩,lO,G,G,G,U⟩;refine ck W W d W<|cm W W ?_ ?_<;>intro g2;refine eP W ?_;rw[show Gv s l[i]=⟨s.l,l[i]⟩ by unfold Gv;rw[aaq λh=>g1<|CQ.2 h,aas<|CR.1 g2]]at b;refine aM (i+1) E ⟨G,⟨W,by rw[b];exact aw.refl _⟩,lO,G,G,G,U⟩;refine eP W ?_;rw[show Gv s l[i]=s by unfold Gv;rw[aaq λh=>g1<|CQ.2 h,aaq λh=>g2<|CR.2 h]]at b;refine aM (i+1) E ⟨G,⟨W,by rw[b];exact aw.refl _⟩,lO,G,G,G,U⟩;have:i=l.length:=E;subst this;rw[acS];refine r0 W<|NJ [(4,.box true<|EI<|Ry a l),(1000000,.bc true 4 default eF l)] ⟨ak,ak,U⟩ W (aw.refl _) ⟨G,U⟩
def Nv(a:Fr):ab 134 [eF a,.nil] (EI ⟨a,a⟩):=by refine cp func134 W<|r0 W<|ba (λ_:Unit=>[(4,.box true<|.agg [.i 0,.nil,.i 0,.nil,.i 0,.nil,.i 0,.nil]),(5,.box true<|EI ⟨a,a⟩),(12,.i 0),(13,.i 0)]) (λ_=>True) (λ_=>0) () U ?_;intro _ _;refine cm W W (λg=>aaF g fV) λ_=>?_;refine cg W W
end
section
variable{f:Fr}{K L:Nat}{q:Rat}
def zK(f:Fr)(n:Nat):Fr:=⟨tS f.n n,tS f.d n⟩
def Qp(h:cL f q)(n:Nat):cL (zK f n) (q^n):=by obtain⟨d,c⟩:=my f.n n h.n;obtain⟨b,a⟩:=my f.d n h.d;exact⟨c,a,by show nv (tS f.n n)=_;rw[d,h.vn,Rat.num_pow],by show nv (tS f.d n)=_;rw[b,h.vd];simp⟩
def U5(f:Fr)(n:Nat)(h:cL f q)(a:Sz q K)(b:K<=100000)(hn:n<=12):ab 237 [eF f,.i n] (eF<|zK f n):=by have hs:=eD h a;have c:K*(2*n)<=100000*24:=ael b E;refine cp func237 W<|cj W W (Ld f.n n h.n hs.1 E E) W<|cj W W (Ld f.d n h.d hs.2 E E) W<|CM W<|bV W
def Vc(s:QS):Sp:=⟨db s.lo,db s.hi⟩
def abC(s:QS)(b:Dc s.lo 600)(a:Dc s.hi 600):ab 138 [pG s] (EI<|Vc s):=by refine cp func138 W<|cj W W (JB s.lo b fV) W<|cj W W (JB s.hi a fV) W<|CM W<|bV W
def Vb(s:QS):vz (Vc s) s:=⟨bz s.lo,bz s.hi⟩
def Iv(s t:Sp):Sp:=Ry (jH s.l t.l) [jH s.l t.h,jH s.h t.l,jH s.h t.h]
def QU{c:Prop}[Decidable c]{x y:Fr}:bG.fq (if c then x else y)=if c then bG.fq x else bG.fq y:=by split<;>rfl
def vz.of{s:Sp}{q:QS}(h:SFz K s)(b:bG.fq s.l=q.lo)(a:bG.fq s.h=q.hi):vz s q:=⟨by rw[<-b];exact h.l,by rw[<-a];exact h.h⟩
def fm{g:Fr}{p:Rat}(b:cL f p)(a:cL g q):cL (jH f g) (p*q):=(qX f g b a ⟨agU _ (bG.ah (nv f.d).natAbs).length,agV _ _⟩ ⟨agU _ (bG.ah (nv g.d).natAbs).length,agV _ _⟩).1
def Nu(a:Fr)(l:List Fr)(h:∀x∈a::l,∃q,cL x q/\Sz q K)(g:K<2^32)(hl:l.length<2^40):iQ prog 134 [.bc true 4 default eF l] [eF a,.bw 1000000 0 0 []] [.bc true 4 default eF l] (EI<|Ry a l)/\SFz K (Ry a l):=by
 have d:∀x∈a::l,cL x (bG.fq x)/\Sz (bG.fq x) K:=λx c=>by obtain⟨q,e,i⟩:=h x c;rw[e.fq];exact⟨e,i⟩
 have b:=d a I;exact⟨Xf a l b.1 b.2 (λx c=>d x<|by simp[c]) g hl,Xh ⟨b.1,b.1,b.2,b.2⟩ λx c=>d x<|by simp[c]⟩
def XV(s t:Sp)(p q:QS)(hs:vz s p)(a:vz t q)(zs:tn p K)(b:tn q L)(l:K+L<2^30):ab 137 [EI s,EI t] (EI<|Iv s t)/\vz (Iv s t) (zS p q):=by
 have g:=fm hs.l a.l;have e:=fm hs.l a.h;have d:=fm hs.h a.l;have c:=fm hs.h a.h;obtain⟨k,j⟩:=Nu (jH s.l t.l) [jH s.l t.h,jH s.h t.l,jH s.h t.h] (K:=K+L) (by intro x h;simp only[abm,ae8,or_false]at h;rcases h with rfl|rfl|rfl|rfl;exact⟨_,g,zs.lo.mul b.lo⟩;exact⟨_,e,zs.lo.mul b.hi⟩;exact⟨_,d,zs.hi.mul b.lo⟩;exact⟨_,c,zs.hi.mul b.hi⟩) E (show 3<2^40 from fV)
 constructor;refine cp func137 W<|cj W W (lY s.l t.l hs.l a.l (eD hs.l zs.lo) (eD a.l b.lo) E) W<|cj W W (lY s.l t.h hs.l a.h (eD hs.l zs.lo) (eD a.h b.hi) E) W<|cj W W (lY s.h t.l hs.h a.l (eD hs.h zs.hi) (eD a.l b.lo) E) W<|cj W W (lY s.h t.h hs.h a.h (eD hs.h zs.hi) (eD a.h b.hi) E) W<|r0 W ?_;have i:iQ prog 134 [.row true 4 [eF<|jH s.l t.h,eF<|jH s.h t.l,eF<|jH s.h t.h]] [eF<|jH s.l t.l,.bw 1000000 0 0 []] [.row true 4 [eF<|jH s.l t.h,eF<|jH s.h t.l,eF<|jH s.h t.h]] (EI<|Iv s t):=k.same W W W W;refine crd W W i W<|CM W<|bV W;refine vz.of j ?_ ?_;show bG.fq (List.foldl Gv ⟨_,_⟩ _).l=_;simp only[aeC,ag5,Gv,QU,g.fq,e.fq,d.fq,c.fq,zS];unfold vt;grind;show bG.fq (List.foldl Gv ⟨_,_⟩ _).h=_;simp only[aeC,ag5,Gv,QU,g.fq,e.fq,d.fq,c.fq,zS,uZ]
 grind
def U6(s t:Sp):Sp:=⟨tl s.l t.l,tl s.h t.h⟩
def aby(s t:Sp)(p q:QS)(hs:vz s p)(a:vz t q)(zs:tn p K)(b:tn q L)(c:K+L<2^30):ab 140 [EI s,EI t] (EI<|U6 s t)/\vz (U6 s t) (Xo p q):=by constructor;refine cp func140 W<|cj W W (Ey s.l t.l hs.l a.l (eD hs.l zs.lo) (eD a.l b.lo) E) W<|cj W W (Ey s.h t.h hs.h a.h (eD hs.h zs.hi) (eD a.h b.hi) E) W<|CM W<|bV W;exact⟨JH hs.l a.l,JH hs.h a.h⟩
def YD(s:Sp)(p:QS)(n:Nat)(hs:vz s p)(zs:tn p K)(b:K<=100000)(hn:n<=12):∃r,vz r (qQ p n)/\ab 139 [EI s,.i n] (EI r):=by
 have u:=Qp hs.l n;have t:=Qp hs.h n;have j:n*K+1<=12*100000+1:=afJ (ael hn b) 1;have y:=(qk zs.lo n).mono j;have x:=(qk zs.hi n).mono j;obtain⟨m,e⟩:=Nu (zK s.l n) [zK s.h n] (K:=12*100000+1) (by grind) fV (show 1<2^40 from fV)
 have o:bG.fq (Ry (zK s.l n) [zK s.h n]).l=vt (p.lo^n) (p.hi^n):=by show bG.fq (List.foldl Gv ⟨_,_⟩ _).l=_;simp only[aeC,ag5,Gv,QU,u.fq,t.fq];unfold vt;grind
 have g:bG.fq (Ry (zK s.l n) [zK s.h n]).h=qx (p.lo^n) (p.hi^n):=by
  show bG.fq (List.foldl Gv ⟨_,_⟩ _).h=_;simp only[aeC,ag5,Gv,QU,u.fq,t.fq,uZ]
  grind
 generalize z:Ry (zK s.l n) [zK s.h n]=r at m e o g;have g1:=sE s.l hs.l;have g2:=sE s.h hs.h;have w:iQ prog 134 [.row true 4 [eF<|zK s.h n]] [eF<|zK s.l n,.bw 1000000 0 0 []] [.row true 4 [eF<|zK s.h n]] (EI r):=m.same W W W W;have start:∀{q:Sp},(0<n/\n%2=0/\p.lo<0/\0<p.hi->q=⟨⟨⟨0,none⟩,⟨1,none⟩⟩,r.h⟩)->(¬(0<n/\n%2=0/\p.lo<0/\0<p.hi)->q=r)->ab 139 [EI s,.i n] (EI q):=by intro q v a;refine cp func139 W<|cj W W (U5 s.l n hs.l zs.lo b hn) W<|cj W W (U5 s.h n hs.h zs.hi b hn) W<|r0 W<|crd W W w W<|CM W<|aF 18 W ?_ ?_<;>intro l;refine eP W<|aF 23 W ?_ ?_<;>intro k;refine ck W W g1 W<|b6 W 29 W ?_ ?_<;>intro d;refine ck W W g2 W<|cm W W ?_ ?_<;>intro c;rw[v ⟨E,E,Cy.1 d,Cx.1 c⟩];refine ck W W (f_s 0) W<|cg W W;rw[a λh=>c<|Cx.2 h.2.2.2];refine cg W W;rw[a λh=>d<|Cy.2 h.2.2.1];refine cg W W;rw[a λh=>k E];refine cg W W;rw[a λh=>l E];refine cg W W
 by_cases hc:0<n/\n%2=0/\p.lo<0/\0<p.hi;refine⟨⟨⟨⟨0,none⟩,⟨1,none⟩⟩,r.h⟩,⟨?_,?_⟩,start (λ_=>rfl) λh=>aaF hc h⟩;show cL _ (qQ p n).lo;unfold qQ;dsimp only;rw[aas hc];exact qZ 0 fV;show cL _ (qQ p n).hi;have:=e.h;rw[g]at this;exact this;refine⟨r,vz.of e ?_ g,start (λh=>aaF h hc) λ_=>rfl⟩;rw[o];unfold qQ;simp_all
def abY(s:Sp)(p:QS)(hs:vz s p)(zs:tn p K)(a:K<2^32):ab 141 [EI s] (if fE p=0 then .bU [pG p,.i 0]else .bU [.agg [.s [],.s []],.i 4]):=by
 have c:=Jn s.l hs.l (eD hs.l zs.lo) a;have b:=Jn s.h hs.h (eD hs.h zs.hi) a;have d:fE p=if NK p.lo=true\/NK p.hi=true then 4 else 0:=by unfold fE;rw[u4,u4];simp
 refine cp func141 W<|ck W W c W<|r0 W<|iC 7 W ?_ ?_<;>intro g;rw[aaq fP];refine cg W W;refine ck W W b W<|r0 W<|nS W W W ?_ ?_<;>intro g2;rw[aaq fP];refine cg W W;rw[aas fP];refine cj W W (NW s.l hs.l (eD hs.l zs.lo) E) W<|cj W W (NW s.h hs.h (eD hs.h zs.hi) E) W<|CM W<|bV W
end
section
variable{l:L Tm}{p:L bq}{K V n:Nat}
structure ix(L:List Tm)(p:List bq):Prop where
 tr:L.map Tm.tr=p
 ok:∀t∈L,t.ok
def ix.nil:ix [] []:=⟨W,I⟩
def G8(d:∀t∈l,t.ok/\t.pw.length=V)(g:l.map Tm.tr=p):ix (kd l) (fj p):=by
 have hc:=Kp.norm d;have c:∀u∈l.map Tm.tr,u.pw.length=V:=λu hu=>by obtain⟨t,a,rfl⟩:=abS.1 hu;exact(d t a).2
 have hs:=(uW (p:=[]) c I List.Pairwise.nil).1;have f:Nz (fj<|l.map Tm.tr):=DA (p:=[]) (by intro u hu;cases hu);have b:∀u∈zQ (ot l),u.pw.length=V:=λu hu=>by
  rcases(acf l []).2 u (afZ.1 hu).1 with⟨t,a,e⟩|⟨t,a,-⟩
  grind
  cases a
 refine⟨?_,λt a=>hc.ok t (afZ.1<|(ie _).mem_iff.1 a).1⟩;rw[<-g];exact Kp.aeV hc hs f (ie _) (qM b<|OD hc.nd).tr
def rE.iE(f:∀t∈l,t.ok)(h:tp V K (l.map Tm.tr))(q:0<V)(k:1<=K)(hl:l.length<2^60):rE V K l:=by have tok:∀t∈l,Cv V K t.tr:=λt d=>h.1 _<|agb d;refine⟨λt d=>?_,λm hm t d=>?_,hl,?_⟩;obtain⟨a,b,c⟩:=tok t d;refine⟨f t d,eD (f t d) c,⟨λe=>?_,b.1,λx i=>⟨(b.2 x i).1,by have:=(b.2 x i).2;omega⟩⟩,a⟩;have:t.pw.length=V:=a;simp_all;have hc:=Kp.norm (V:=V) (l:=m) λt d=>⟨f t<|hm.subset d,(tok t<|hm.subset d).1⟩;have ok:=hc.ok t d;refine⟨ok,eD ok ?_⟩;have e:Cq ((ot m).map Tm.tr) t.pw=bG.fq t.f:=JX (by rw[aer];exact hc.nd)<|agb d;rw[<-e,hc.co];by_cases g:Cq (fj<|m.map Tm.tr) t.pw=0;rw[g];exact pM.mono k;obtain⟨u,hu,-,j⟩:=uG g;rw[<-j];have:m.map Tm.tr <+:l.map Tm.tr:=hm.map _;exact((h.2 _ this).1 u hu).2.2;have o:=aaf List.length (G8 (V:=V) (λt d=>⟨f t d,(tok t d).1⟩) W).tr;have j:=(ie<|zQ<|ot l).length_eq;rw[acx]at o;have s:=h.norm.2;have r:(kd l).length=(mZ<|zQ<|ot l).length:=W;omega
def xD(h:rE V K l)(b:l.map Tm.tr=p):ix (kd l) (fj p):=G8 (λt a=>⟨(h.tm t a).1,(h.tm t a).2.2.2⟩) b
def L8{t:bq}(a:t.c≠0):∀{p:L bq},(∀u∈p,beforeL u.pw t.pw=true)->po t p=p++[t]
 |[],_=>by unfold po;rw[aaq a];rfl
 |u::p,h=>by unfold po;rw[aas<|h u I,L8 a λv b=>h v<|by simp[b]];rfl
def El:∀{l p:L bq},AQ (p++l)->Nz l->l.foldl jv p=p++l
 |[],p,_,_=>I
 |t::l,p,h,a=>by have b:=λu hu=>(List.pairwise_append.1 h).2.2 u hu t I;rw[aeC,jE,L8 (a t I) b,El fP λu hu=>a u<|by simp[hu],acT];rfl
def sj(h:AQ p)(a:Nz p):fj p=p:=El (p:=[]) h a
def NG.nz(h:NG n p):Nz p:=λt a=>(h.tm t a).nz
def NG.tok(h:NG n p)(hn:n<2^20):∀t∈p,Cv n 67 t:=λt a=>⟨(h.tm t a).len,(h.tm t a).pwb hn,(h.tm t a).dc.sz⟩
def NG.pre{m:L bq}(h:NG n p)(hm:m <+:p):NG n m:=⟨λt a=>h.tm t<|hm.subset a,List.Pairwise.sublist hm.sublist h.TP,acI hm.length_le h.len⟩
def NG.nok(h:NG n p)(hn:n<2^20):tp n 67 p:=
 ⟨h.tok hn,λm hm=>by have a:=h.pre hm;rw[sj a.TP a.nz];exact⟨a.tok hn,afC a.len fV⟩⟩
def aa5(l:L bq):∀t∈NV l,t.ok:=λt a=>by obtain⟨u,-,rfl⟩:=abS.1 a;exact(bz u.c).self
def XT(l:L bq):(NV l).length=l.length:=by unfold NV;simp
def R9(h:NG n p)(hn:n<2^20)(c:0<n):∃L,ix L p/\ab 136 [cH false p] (aid L):=by have hl:=h.len;have a:=rE.iE (aa5 p) (by rw[Ud];exact h.nok hn) c fV (by rw[XT];omega);refine⟨kd<|NV p,?_,Yw p (λt b=>(h.tm t b).dc) a fV E⟩;have:=xD a<|Ud p;rwa[sj h.TP h.nz]at this
end
def spn(q:QS):jh:=⟨qt q.lo,qt q.hi⟩
def YU(a b:QS):(zS a b).lo<=(zS a b).hi:=by simp[zS,vt,uZ];grind
def RL(box:L QS)(t:bq):∀v,(j9 box t v).lo<=(j9 box t v).hi
 |0=>Rat.le_refl
 |v+1=>by rw[mY];exact YU _ _
def Vo{a b:QS}(h:a.lo<=a.hi):zS a (qQ b 0)=a:=by
 have:qQ b 0=⟨1,1⟩:=by unfold qQ;simp[vt,uZ]
 simp[zS,vt,uZ]
 congr 1<;>grind
def ix.at{L:List Tm}{p:List bq}(h:ix L p){i:Nat}(hi:i<p.length):∃hl:i<L.length,L[i].tr=p[i]:=by
 have hl:i<L.length:=by rw[<-h.tr]at hi;simpa using hi
 refine⟨hl,?_⟩;have:(L.map Tm.tr)[i]'(by simpa using hl)=L[i].tr:=I;rw[<-this];congr 1;exact h.tr
def ix.len{L:List Tm}{p:List bq}(h:ix L p):L.length=p.length:=by rw[<-h.tr];simp
def Zt(p:L bq)(box:L QS)(f:NG box.length p)(h1:1<=box.length)(h2:box.length<=25)(hb:∀s∈box,Dc s.lo 600/\Dc s.hi 600)(he:aG dQ (box.map spn)=0){A:Nat}(hA:A<=1000)(Y:∀s∈box,tn s A):
 ab 56 [cH false p,aif box] (if fE (gO box p)=0 then .bU [pG<|gO box p,.i 0]else .bU [.agg [.s [],.s []],.i 4]):=by
 have hl:=f.len;obtain⟨a,R,M⟩:=R9 f E h1;have E2:=R.len;have d:acG A 67 box p:=⟨Y,λt b=>⟨(f.tm t b).dc.sz,(f.tm t b).len,(f.tm t b).le⟩⟩;have hs:∀v,v<=box.length->v*(12*A+1)<=25*12001:=λv y=>ael E E;have K:∀i,i<=p.length->i*(67+box.length*(12*A+1)+1)<=64*400000:=λi hi=>ael E (by have:=hs box.length<|aaU _;omega);have J:∀s∈box.map spn,dI s.lo/\dI s.hi:=λs hs=>by obtain⟨q,B,rfl⟩:=abS.1 hs;have:=hb q B;exact⟨by have:=wm this.1;show(qt q.lo).length<_;omega,by have:=wm this.2;show(qt q.hi).length<_;omega⟩
 have e1:ab 133 [aif box,.fn (.func 126) [] []] (.i 0):=by have:=Zv (box.map spn) J (by simp;omega);rw[he]at this;refine this.same ?_ W;simp only[aB,SV.den,aer];rfl
 obtain⟨m,hm⟩:∃m,box.length=m+1:=⟨box.length-1,E⟩;have e0:ab 132 [cH false p,.i box.length] (.i 0):=by rw[hm];exact U8 p (hm▸f) E
 refine cp func56 W<|ck W W e0 W<|cm W W (λg=>aaF W g) λ_=>?_;refine ck W W e1 W<|cm W W (λg=>aaF W g) λ_=>?_;refine ck W W (f_s 0) W<|ck W W (Nv ⟨⟨0,none⟩,⟨1,none⟩⟩) W<|ck W W M W<|r0 W<|ba (λz:Nat×Sp=>[(1,aif box),(4,.box true<|.agg [.s [],.s []]),(8,.box true<|EI z.2),(31,aid a),(32,.i a.length),(33,.i z.1)]) (λz=>z.1<=p.length/\vz z.2 (gO box<|p.take z.1)) (λz=>p.length-z.1) (0,⟨⟨⟨0,none⟩,⟨1,none⟩⟩,⟨⟨0,none⟩,⟨1,none⟩⟩⟩) ⟨aaQ _,⟨qZ 0 fV,qZ 0 fV⟩⟩ ?_;rintro⟨i,s⟩⟨hi,c⟩;dsimp only at hi c⊢;have D:=ve d.bx (λt b=>⟨(d.tm t b).1,(d.tm t b).2.2⟩) i hi;have z4:=K i hi;refine cm W W ?_ ?_<;>intro g;have l:i<p.length:=E;have ei:(i:Int).toNat=i:=E;obtain⟨P,et⟩:=R.at l;have eg:a.getD i default=a[i]:=az P;have b:=f.tm p[i] I;have h:a[i].pw=p[i].pw:=aaf bq.pw et;have O:=R.ok a[i] I;have V:bG.fq a[i].f=p[i].c:=aaf bq.c et;have e:cL a[i].f p[i].c:=by rw[<-V];exact O
 have B0:a[i].pw.length=box.length:=by rw[h];exact b.len
 refine eP W ?_;rw[ei,eg];refine bW W (Nv a[i].f) W<|r0 W<|ba (λz:Nat×Sp=>[(1,aif box),(4,.box true<|.agg [.s [],.s []]),(8,.box true<|EI s),(11,.box true<|EI z.2),(31,aid a),(32,.i a.length),(33,.i i),(41,fO a[i].pw),(42,.i a[i].pw.length),(43,.i z.1)]) (λz=>z.1<=box.length/\vz z.2 (j9 box p[i] z.1)) (λz=>box.length-z.1) (0,⟨a[i].f,a[i].f⟩) ⟨aaQ _,e,e⟩ ?_;rintro⟨v,x⟩⟨y,w⟩;dsimp only at y w⊢;have X:=uO d.bx b.dc.sz b.le v y;have z2:=hs v y;refine cm W W ?_ ?_<;>intro g1;have H:v<box.length:=E;have ev:(v:Int).toNat=v:=E;have u:box.getD v default=box[v]:=az H;have o:=Y box[v] I;have n:=hb box[v] I;have A0:0<=a[i].pw.getD v 0/\a[i].pw.getD v 0<=12:=by rw[h];exact b.le _<|aX (by have:=b.len;omega)
 obtain⟨k,Z⟩:∃k:Nat,a[i].pw.getD v 0=k:=⟨(a[i].pw.getD v 0).toNat,E⟩;have j:(p[i].pw.getD v 0).toNat=k:=by rw[<-h,Z];rfl
 refine eP W ?_;rw[ev,Z];refine bY W ?_ ?_<;>intro g2;refine eP W ?_;rw[ev,u];refine bX W (abC box[v] n.1 n.2) W<|r0 W ?_;obtain⟨r,hr,N⟩:=YD (Vc box[v]) box[v] k (Vb box[v]) o E E;refine bX W N W ?_;have E1:k*A<=12*1000:=ael E hA;obtain⟨T,S⟩:=XV x r (j9 box p[i] v) (qQ box[v] k) w hr X (o.pow k) E;refine cj W W T W<|u6 W<|aM (v+1,Iv x r) ⟨by dsimp only;omega,by dsimp only;rw[mY,u,j];exact S⟩;have F:k=0:=E;refine eP W<|aM (v+1,x) ⟨by dsimp only;omega,?_⟩;dsimp only;rw[mY,j,F,Vo<|RL _ _ _];exact w;have ev:v=box.length:=E;subst ev;obtain⟨T,S⟩:=aby s x (gO box<|p.take i) (j9 box p[i] box.length) c w D X E;refine ck W W T W<|eP W<|aM (i+1,U6 s x) ⟨by dsimp only;omega,?_⟩;dsimp only;rw[ace l,uw];exact S;have:i=p.length:=E;subst this;rw[acS]at c D;have C:=abY s (gO box p) c D E;refine r0 W ?_;by_cases B:fE (gO box p)=0;rw[aas B]at C⊢;refine bW W C W<|cg W W;rw[aaq B]at C⊢;refine bW W C W<|cg W W
section
variable{l:List (List Tm)}{ps:List (List bq)}{L:List Tm}{p:List bq}{K V:Nat}
def Gi(L:List Tm):SV:=aia L
structure nE(l:List (List Tm))(ps:List (List bq)):Prop where
 tr:l.map (List.map Tm.tr)=ps
 ok:∀L∈l,∀t∈L,t.ok
def nE.len(h:nE l ps):l.length=ps.length:=by rw[<-h.tr];simp
def nE.at(h:nE l ps)(i:Nat):ix (l.getD i []) (ps.getD i []):=by by_cases hi:i<l.length;rw[az hi,az<|by rw[<-h.len];exact hi];refine⟨?_,h.ok _ I⟩;have:(l.map<|List.map Tm.tr)[i]'(by simpa using hi)=l[i].map Tm.tr:=I;rw[<-this];congr 1;exact h.tr;rw[acO,aex E,acO,aex<|by rw[<-h.len];omega];exact .nil
def nE.rep(n:Nat):nE (List.replicate n []) (List.replicate n []):=⟨I,λL b t a=>fP⟩
def nE.set(h:nE l ps){i:Nat}(c:ix L p):nE (l.set i L) (ps.set i p):=
 ⟨by rw[aeE,h.tr,c.tr],λM a t b=>by rcases ahx a with a|rfl;exact h.ok M a t b;exact c.ok t b⟩
structure eh(V K:Nat)(p:List bq):Prop where
 TP:AQ p
 nz:Nz p
 tok:∀u∈p,Cv V K u
 len:p.length<2^30
def eh.nil:eh V K []:=⟨List.Pairwise.nil,(by intro u hu;cases hu),I,fV⟩
def eh.XU(h:eh V K p)(d:ix L p)(k:0<V):∀t∈L,t.ok/\mc t.f K/\PwS t.pw/\t.pw.length=V:=λt i=>by
 have hm:t.tr∈p:=by rw[<-d.tr];grind
 obtain⟨a,b,c⟩:=h.tok _ hm;have j:t.pw.length=V:=a;exact⟨d.ok t i,eD (d.ok t i) c,⟨λe=>fP,b.1,λx g=>⟨(b.2 x g).1,by have:=(b.2 x g).2;omega⟩⟩,j⟩
def PJ{a b:List Int}(h:beforeL a b=true):b.sum<=a.sum:=by unfold beforeL at h;grind
def WC(a:ix L p)(hs:AQ p):(Tp L>12)↔∃u∈p,12<u.pw.sum:=by
 rw[<-a.tr]at hs⊢;cases L with
 |nil=>simp[Tp]
 |cons t l=>show t.pw.sum>12↔_;constructor;intro h;exact⟨t.tr,I,h⟩;rintro⟨u,hu,h⟩;rcases abm.1 hu with rfl|hu;exact h;have:=PJ<|(afs.1 hs).1 u hu;have:u.pw.sum<=t.pw.sum:=this;omega
def VE(d:ix L p):Jm L=true↔∃u∈p,ik u.c≠0:=by
 rw[<-d.tr];unfold Jm;simp;constructor;rintro⟨t,a,h⟩;exact⟨t.tr,⟨t,a,W⟩,by rw[u4,aas<|show NK t.tr.c=true from h];decide⟩;rintro⟨_,⟨t,a,rfl⟩,h⟩;refine⟨t,a,?_⟩;rw[u4]at h;cases b:NK t.tr.c with
 |true=>exact b
 |false=>simp_all
def Le(l:List (List Tm))(ps:List (List bq))(h:nE l ps)(s:∀p∈ps,eh V K p)(v:0<V)(w:K<2^32)(hl:ps.length<2^40):ab 129 [.bc false 1 default Gi l] (.i<|aG js ps):=by
 have r:=h.len;refine cp func129 W<|r0 W<|ba (λi:Nat=>[(6,.bc false 1 default Gi l),(7,.i l.length),(8,.i i)]) (λi=>i<=ps.length/\aG js ps=aG js (ps.drop i)) (λi=>ps.length-i) 0 ⟨aaQ _,W⟩ ?_;rintro i⟨hi,k⟩;refine cm W W ?_ ?_<;>intro g;have f:i<ps.length:=E;have x:(i:Int).toNat=i:=E;have c:=h.at i;have b:=s ps[i] I;have d:i<l.length:=E;have y:l.getD i default=l[i]:=az d;rw[az f,az d]at c;rw[cP _ f]at k;have m:l[i].length=ps[i].length:=by rw[<-c.tr];simp
 have j:=b.XU c v;have A:=b.len;refine eP W ?_;rw[x,y];generalize l[i]=L at c m j;refine bW W (ab9 L λt a=>(j t a).2.2.1) W<|ck W W (lI (decide (Tp L>12)) 4) W<|ck W W (lI (decide ((L.length:Int)>64)) 5) W<|ck W W (VI L (K:=K) (λt a=>⟨(j t a).1,(j t a).2.1⟩) w E) W<|ck W W (lI (Jm L) 4) W<|ck W W (p7 [if decide (Tp L>12)=true then 4 else 0,if decide ((L.length:Int)>64)=true then 5 else 0,if Jm L=true then 4 else 0]<|show 3<2^60 from fV) W ?_;have e:aG id [if decide (Tp L>12)=true then(4:Int)else 0,if decide ((L.length:Int)>64)=true then 5 else 0,if Jm L=true then 4 else 0]=js ps[i]:=by have z:=WC c b.TP;have o:=VE c;unfold js;by_cases n:∃u∈ps[i],12<u.pw.sum;rw[aas n,aas<|decide_eq_true<|z.2 n];rfl;rw[aaq n,aaq fP];by_cases q:64<ps[i].length;rw[aas q,aas<|decide_eq_true E];rfl;rw[aaq q,aaq<|by simp;omega];by_cases c3:∃u∈ps[i],ik u.c≠0;rw[aas c3,aas<|o.2 c3];rfl;rw[aaq c3,aaq λh=>c3<|o.1 h];rfl
 rw[e];refine cm W W ?_ ?_<;>intro g2;refine b7 W W<|aij SV.i<|by rw[k,aas g2]
 refine eP W<|aM (i+1) ⟨E,by rw[k,aaq g2]⟩;refine b7 W W<|aij SV.i<|by rw[k,aew E];rfl
def abK(v:Nat)(b:v<1000):ab 130 [.i v] (.s<|122::bS ((v:Int)+1)):=by refine cp func130 W<|eP W<|bW W (Jc<|(v:Int)+1) W<|bW W (xh ⟨(v:Int)+1,none⟩ ⟨by grind,by grind⟩ (K:=1) (gm<|by show((v:Int)+1).natAbs<_;omega) fV) W ?_;have a:=Go.Ai.jK ((v:Int)+1) (k:=3)<|Go.Ai.fX E;refine r1 W (by simp[aj,nv];omega) ?_;exact bV W
def Ze(p:jZ)(h:AS p):ab 51 [bI p] (.bU [.i<|if dH p=0 then(aT p.aa:Int)else 0,.i<|dH p]):=by refine cp func51 W<|ck W W (qb p h) W<|cm W W ?_ ?_<;>intro g;rw[aaq g];refine cg W W;have g:=agE.1 g;rw[g];refine ck W W (JU p h) W<|cg W W
end
end Go.Ai.Pg
section
namespace Go.Ai.Pg
variable{V K:Nat}
section
variable{L M:List Tm}{p q:List bq}{c:Rat}
def eh.iE{l:List bq}(h:tp V K l):eh V K (fj l):=by have hl:=λu hu=>(h.1 u hu).1;exact⟨(uW (p:=[]) hl I List.Pairwise.nil).1,DA (p:=[]) (by intro u hu;cases hu),h.norm.1,h.norm.2⟩
def wN{α a:Type}{f g:α->List a}:∀{l:List α},(∀x∈l,f x=g x)->l.flatMap f=l.flatMap g
 |[],_=>rfl
 |x::l,h=>by rw[ahw,ahw,h x I,wN λy b=>h y<|by simp[b]]
def YV(f:ix L p)(e:ix M q):(mulM L M).map Tm.tr=jT p q/\∀t∈mulM L M,t.ok:=by constructor;rw[<-f.tr,<-e.tr];unfold mulM jT;rw[List.map_flatMap,List.flatMap_map];refine wN λt d=>?_;rw[aer,aer];refine adx λu hu=>?_;show(⟨bG.fq<|jH t.f u.f,_⟩:bq)=⟨_,_⟩;rw[(fm (f.ok t d)<|e.ok u hu).fq];rfl;intro t d;obtain⟨a,i,h⟩:=afG.1 d;obtain⟨b,g,rfl⟩:=abS.1 h;exact(fm (f.ok a i)<|e.ok b g).self
def Vr(L M:List Tm):(mulM L M).length=L.length*M.length:=pZ (λt=>I) L
def SD(b:ix L p)(a:ix M q)(e:eh V K p)(d:eh V K q)(hn:tp V K (jT p q))(f:0<V)(g:1<=K)(j:K<2^32):
 ix (kd<|mulM L M) (kv p q)/\ab 227 [aia L,aia M] (aia<|kd<|mulM L M):=by
 obtain⟨i,k⟩:=YV b a;have h:=rE.iE k (by rw[i];exact hn) f g (by rw[Vr,b.len,a.len];exact afC (ael (Nat.le_sub_one_of_lt e.len)<|Nat.le_sub_one_of_lt d.len) fV);have:=e.len;have:=d.len;exact⟨xD h i,(adB L M (e.XU b f) (d.XU a f) h j E (by rw[b.len];omega)<|by rw[a.len];omega).shr.same W W⟩
def ND(b:ix L p)(a:ix M q)(hn:tp V K (p++q))(i:0<V)(d:1<=K)(j:K<2^32)(hl:p.length+q.length<2^40):
 ix (kd<|L++M) (AM p q)/\ab 294 [aia L,aia M] (aia<|kd<|L++M):=by
 have f:(L++M).map Tm.tr=p++q:=by rw[acB,b.tr,a.tr]
 have e:=rE.iE (λt g=>by rcases ac6.1 g with h|h;exact b.ok t h;exact a.ok t h) (by rw[f];exact hn) i d (by rw[acU,b.len,a.len];omega);exact⟨xD e f,(acz IH L M e j).shr.same W W⟩
def ZA(e:ix L p)(v:Nat)(g:∀u∈p,TL u.pw):(lZ L v).map Tm.tr=oq p v/\∀t∈lZ L v,t.ok:=by
 have f:∀t∈L,0<=t.pw.getD v 0/\t.pw.getD v 0<2^31:=λt b=>by have hm:=g t.tr (by rw[<-e.tr];grind);by_cases h:v<t.pw.length;exact hm.2 _<|aX (d:=0) h;simp_all
 have key:∀t∈L,cL (jH t.f ⟨⟨t.pw.getD v 0,none⟩,⟨1,none⟩⟩) (bG.fq t.f*((t.pw.getD v 0:Int):Rat)):=λt b=>fm (e.ok t b)<|qZ _ (by have:=f t b;omega);constructor;rw[<-e.tr];unfold lZ oq;rw[List.map_flatMap,List.flatMap_map];refine wN λt b=>?_;show List.map Tm.tr (if 0<t.pw.getD v 0 then _ else _)=if 0<t.pw.getD v 0 then _ else _;split;simp only[acK];show[(⟨bG.fq<|jH t.f ⟨⟨t.pw.getD v 0,none⟩,⟨1,none⟩⟩,_⟩:bq)]=_;rw[(key t b).fq];rfl;rfl;intro t b;obtain⟨a,i,h⟩:=afG.1 b;unfold BR at h;split at h;simp at h;subst h;exact(key a i).self;cases h
def WA(L:List Tm)(v:Nat):(lZ L v).length<=L.length:=by
 induction L with
 |nil=>simp[lZ]
 |cons t l a=>
  have:lZ (t::l) v=BR v t++lZ l v:=W;rw[this];have:(BR v t).length<=1:=by unfold BR;split<;>simp
  simp;omega
def ZB(a:ix L p)(b:eh V K p)(v:Nat)(g:v<V)(hn:tp V K (oq p v))(d:1<=K)(h:K<2^32):
 ix (kd<|lZ L v) (sP p v)/\ab 293 [aia L,.i v] (aia<|kd<|lZ L v):=by
 obtain⟨f,k⟩:=ZA a v λu hu=>(b.tok u hu).2.1;have j:=WA L v;have l:=b.len;rw[a.len]at j;have e:=rE.iE k (by rw[f];exact hn) E d E;exact⟨xD e f,(Wz L v (b.XU a E) g e h E<|by rw[a.len];omega).shr.same W W⟩
def RW(hs:AQ p)(b:Nz p):jr c p=if c=0 then[]else oR c p:=by
 by_cases h:c=0;rw[aas h];have:∀(l:List bq),(∀t∈l,t.c=0)->l.foldl jv []=[]:=λl=>by
  induction l with
  |nil=>intro _;rfl
  |cons t l d=>rw[aeC,jE];unfold po;simp_all
 refine this _ λt a=>?_;unfold oR at a
 grind
 rw[aaq h];refine sj ?_ λt a=>?_;exact ahl.2 hs;obtain⟨u,hu,rfl⟩:=abS.1 a;exactλe=>(Rat.mul_eq_zero.1 e).elim h<|b u hu
def Oh(a:Fr)(L:List Tm):List Tm:=if bG.fq a=0 then[]else sM a L
def UA(d:ix L p)(e:eh V K p)(g:0<V)(a:Fr)(f:cL a c){J:Nat}(h:Sz c J)(k:J<2^30)(j:K<2^32):
 ix (Oh a L) (jr c p)/\ab 229 [aia L,eF a] (aia<|Oh a L):=by
 have l:=e.len;have i:=Yj a f.self L (eD f h) (λt b=>⟨(e.XU d g t b).1,(e.XU d g t b).2.1⟩) E (by rw[d.len];omega);refine⟨?_,i.shr.same W W⟩;unfold Oh;rw[RW e.TP e.nz,f.fq];split;exact .nil;refine⟨?_,λt b=>?_⟩;rw[<-d.tr];unfold sM oR;rw[aer,aer];refine adx λt b=>?_;show(⟨bG.fq<|jH t.f a,t.pw⟩:bq)=⟨c*bG.fq t.f,t.pw⟩;rw[(fm (d.ok t b) f).fq,Rat.mul_comm];obtain⟨u,hu,rfl⟩:=abS.1 b;exact(fm (d.ok u hu) f).self
def JV(a:Fr)(b:cL a c)(n:Nat)(hn:n<1000):ix (cM a<|n+1) (eK c n)/\ab 328 [eF a,.i (n+1:Nat)] (aia<|cM a<|n+1):=by refine⟨?_,Px a b.self (n+1) E⟩;unfold cM eK;rw[b.fq];split;exact .nil;exact⟨by simp[Tm.tr,b.fq],by simp;exact b.self⟩
def XM(v n:Nat)(b:v<=n)(hn:n<1000):ix (vM v<|n+1) (rJ v n)/\ab 225 [.i v,.i (n+1:Nat)] (aia<|vM v<|n+1):=by refine⟨?_,NU v (n+1) E E⟩;have a:=qZ 1 fV;exact⟨by simp[vM,rJ,Tm.tr,a.fq],by simp[vM];exact a.self⟩
end
end Go.Ai.Pg
end
section
namespace Go.Ai.Pg
variable{V K:Nat}
def Xp{p:L bq}(b:AQ p)(a:Nz p):AM p []=p:=by unfold AM;rw[afd];exact sj b a
def Vp(q:L bq):kv [] q=[]:=W
def ou{rs:L (L bq)}{p:L bq}(h:Z9 V K rs p):∀i,i<=rs.length->eh V K (jw rs p i)
 |0,_=>eh.iE h.d0
 |i+1,hi=>eh.iE<|h.a i E
def TH(l:List (List Tm))(L:List Tm):Nat->List Tm
 |0=>kd (lZ L 0)
 |i+1=>if kd (lZ L<|i+1)=[]then TH l L i else kd (TH l L i++kd (mulM (kd<|lZ L<|i+1)<|l.getD i []))
structure XA(V K:Nat)(rs:List (List bq))(p:List bq):Prop where
 al:Z9 V K rs p
 gp:eh V K p
 gr:∀r∈rs,eh V K r
 len:rs.length<V
def XA.d{rs:L (L bq)}{p:L bq}(h:XA V K rs p):∀i,i<=rs.length->tp V K (oq p i)
 |0,_=>h.al.d0
 |i+1,hi=>h.al.d i E
def XA.step{L:List Tm}{p:List bq}{l:List (List Tm)}{rs:List (List bq)}(g:ix L p)(hl:nE l rs)(h:XA V K rs p)(f:V<1000)(a:1<=K)(b:K<2^32):
 ∀i,i<=rs.length->ix (TH l L i) (jw rs p i)
 |0,_=>(ZB g h.gp 0 (by have:=h.len;omega) h.al.d0 a b).1
 |i+1,hi=>by have j:=XA.step g hl h f a b i E;have d:=(ZB g h.gp (i+1) (by have:=h.len;omega) (h.d (i+1) hi) a b).1;have c:=ou h.al i E;unfold TH jw;split;rename_i e;rw[e]at d;rw[<-d.tr];show ix _ (AM _<|kv [] _);rw[Vp,Xp c.TP c.nz];exact j;have hm:=SD d (hl.at i) (eh.iE<|h.d (i+1) hi) (h.gr _<|aX E) (h.al.m i E) (by have:=h.len;omega) a b;refine(ND j hm.1 (h.al.a i E) (by have:=h.len;omega) a b ?_).1;have m:=c.len;have k:=(eh.iE<|h.al.m i E).len;have k:(kv (sP p<|i+1)<|rs.getD i []).length<2^30:=k;omega
end Go.Ai.Pg
end
section
namespace Go.Ai.Pg
variable{V K:Nat}
def ad6(p:jZ)(m:Nat)(st:List Fr)(sh rt:List (List Tm))(a:jj Int):List SV:=[.i p.n,aic p.aa,fO p.ints,.i m,.bc true 4 f0 eF st,.bc true 1 default Gi sh,.bc true 1 default Gi rt,.mx a]
def MQ(p:jZ)(m:Nat)(st:List Fr)(sh rt:List (List Tm))(a:jj Int):SV:=.box true<|.agg<|ad6 p m st sh rt a
def abb(f g:Fr):Fr:=tl f ⟨jd g.n,g.d⟩
def YR{g:Fr}{q:Rat}(a:cL g q):cL ⟨jd g.n,g.d⟩ (-q):=⟨(dP g.n a.n).2,a.d,by rw[(dP g.n a.n).1,a.vn,agY],by rw[a.vd,Rat.neg_den]⟩
def X4{f g:Fr}{p q:Rat}(b:cL f p)(a:cL g q):cL (abb f g) (p-q):=by rw[ahG];exact JH b<|YR a
structure StM(st:List Fr)(sq:List Rat)(L:Nat):Prop where
 ok:∀i,cL (st.getD i f0)<|sq.getD i 0
 sz:∀i,Sz (sq.getD i 0) L
def NI(st:List Fr)(sh:List (List Tm))(u:bN):Nat->List Tm×Fr
 |0=>([],db<|bQ u.k)
 |i+1=>(kd<|(NI st sh u i).1++Oh (db<|bQ (u.ai.getD i default).dU) (sh.getD (u.ai.getD i default).sh.toNat []),abb (NI st sh u i).2<|jH (db<|bQ (u.ai.getD i default).dU)<|st.getD (u.ai.getD i default).sh.toNat f0)
def suU(m:Nat)(st:List Fr)(sh:List (List Tm))(u:bN):List Tm:=kd<|(NI st sh u u.ai.length).1++cM (NI st sh u u.ai.length).2 (m+1)
structure TJ(V K:Nat)(sh:List (List Tm))(ps:List (List bq)):Prop where
 m:nE sh ps
 g:∀p∈ps,eh V K p
def TJ.at{sh:List (List Tm)}{ps:List (List bq)}(h:TJ V K sh ps)(i:Nat):eh V K (ps.getD i []):=by by_cases hi:i<ps.length;exact h.g _<|aX hi;rw[acO,aex E];exact .nil
def ur{s:cq}(h:aQ s=0):Sz (bQ s) 67:=(Az h).sz
section
variable{L m:Nat}{st:List Fr}{sq:List Rat}{sh:List (List Tm)}{ps:List (List bq)}{u:bN}{n:Int}
variable(hV:0<V)(hV2:V<1000)(hK1:1<=K)(hK:K<2^32)(hst:StM st sq L)(hL:L<2^30)(hsh:TJ V K sh ps)(hu:iq n u)(h:FJ V K L ps sq m u)
include hV hV2 hK1 hK hst hL hsh hu h
theorem IB:∀i,i<=u.ai.length->ix (NI st sh u i).1 (gh ps sq u i).1/\cL (NI st sh u i).2 (gh ps sq u i).2/\eh V K (gh ps sq u i).1
 |0,_=>⟨.nil,bz _,.nil⟩
 |i+1,hi=>by obtain⟨a1,a2,a3⟩:=IB i E;have hf:=hu.feed (u.ai.getD i default)<|aX E;have hs:=UA (hsh.m.at (u.ai.getD i default).sh.toNat) (hsh.at _) hV (db<|bQ (u.ai.getD i default).dU) (bz _) (ur hf.2.2.1) fV hK;have h1:=a3.len;have h2:(jr (bQ (u.ai.getD i default).dU)<|ps.getD (u.ai.getD i default).sh.toNat []).length<2^30:=(h.TQ _<|aX E).norm.2;exact⟨(ND a1 hs.1 (h.sum i E) hV hK1 hK E).1,X4 a2<|fm (bz _)<|hst.ok _,eh.iE<|h.sum i E⟩
end
end Go.Ai.Pg
end
section
namespace Go.Ai.Pg
variable{V K:Nat}
def CF(l:L (L Tm)):bR (l.map λp=>(Gi p).den)=true:=oz (by intro x a;obtain⟨p,-,rfl⟩:=abS.1 a;rfl)
def Kd{wh:Bool}{L:List Tm}{p:List bq}{l:List (List Tm)}{rs:List (List bq)}(t:ix L p)(hl:nE l rs)(h:XA V K rs p)(s:V<1000)(c:1<=K)(k:K<2^32):
 xa prog 228 1 wh (.bc true 1 default Gi l) [aia L] (aia<|TH l L rs.length):=by
 have x:=hl.len;have u:=h.len;refine xa.of (sz:=1) (X:=l.map λp=>(Gi p).den) W (CF l) W I λq v o d=>?_;rw[acx]at d;refine mF (fn:=Tryz.f228) func228 W W W W W<|ck W W (ZB t h.gp 0 E h.al.d0 c k).2 W<|r0 W<|ex W W W (VF (P:=prog) W W underlying214 d) W<|r0 W<|ba (λi:Nat=>[(0,aia L),(5,aia<|TH l L i),(11,.pv (·=q)),(12,.i l.length),(13,.i i),(1000000,.abs<|JL (.list .own 1 (l.map λp=>(Gi p).den)) q v o)]) (λi=>i<=rs.length) (λi=>rs.length-i) 0 (aaQ _) ?_;intro i hi;refine cm W W ?_ ?_<;>intro g;have b:i<rs.length:=E;have B:(i:Int).toNat=i:=E;have j:i<l.length:=E;have f:=ZB t h.gp (i+1) E (h.d (i+1) b) c k;have hm:=SD f.1 (hl.at i) (eh.iE<|h.d (i+1) b) (h.gr _<|aX E) (h.al.m i b) E c k;have z:=ou h.al i hi;have w:=XA.step t hl h s c k i hi;have A:(kv (sP p<|i+1)<|rs.getD i []).length<2^30:=(eh.iE<|h.al.m i b).len;have r:=ND w hm.1 (h.al.a i b) E c k (by have:=z.len;omega);have n:l.getD i []=l[i]:=az j;rw[n]at hm r;refine r0 W<|ex W W W (O1 (P:=prog) (m:=i) W underlying214 (ey hA W) j d) W<|ldq W W (DV (y:=(Gi l[i]).den) (ey hA W) (CF l) fP W) W W<|eP W<|Gm (us:=[aia L,.i (i+1:Nat)]) W W U ⟨W,aaf SV.i E,U⟩ f.2 W ?_;have a:TH l L (i+1)=if kd (lZ L<|i+1)=[]then TH l L i else kd (TH l L i++kd (mulM (kd<|lZ L<|i+1) l[i])):=by rw[<-n];rfl
 generalize kd (lZ L<|i+1)=D at f hm r a;refine cm W W ?_ ?_<;>intro g2;rw[aaq λe=>fP]at a;refine ck W W hm.2 W<|ck W W r.2 W ?_;rw[<-a];refine eP W<|aM (i+1) E;rw[aas<|ahh.1 E]at a;rw[<-a];refine eP W<|aM (i+1) E;have:i=rs.length:=E;subst this;refine r0 W<|NJ [(4,aia<|TH l L rs.length),(1000000,.abs<|JL (.list .own 1 (l.map λp=>(Gi p).den)) q v o)] ⟨⟨W,W,.le<|aw.refl _⟩,W,U⟩ W (aw.refl _) ⟨G,U⟩
end Go.Ai.Pg
end
section
namespace Go.Ai.Pg
variable{V K:Nat}
def ab1(l:List Fr):bR (l.map λf=>(eF f).den)=true:=oz (by intro x a;obtain⟨p,-,rfl⟩:=abS.1 a;rw[cD];rfl)
def O2{o:Oper}{t e:TypeId}{x i:Operand}{ti:TI}{n:Nat}{m:Int}{b:Value}(d:o.op=.indexAddr t x i)(c:prog.underlying t=some (.slice e))(a:ct prog e=some ti)(f:0<=m)(hm:m.toNat<n)(h:Kj n b):ji prog o [] [.pv (·=b),.i m] [] (.pv (·=adr b (m.toNat*ti.size))):=by have:=O1 (P:=prog) d c a hm h;rwa[show((m.toNat:Nat):Int)=m from E]at this
abbrev xRd(p:jZ)(m:Nat)(st:List Fr)(sh rt:List (List Tm))(a:jj Int):List AV:=aB<|ad6 p m st sh rt a
section
variable{L m:Nat}{st:List Fr}{sq:List Rat}{sh:List (List Tm)}{ps:List (List bq)}{u:bN}{n:Int}
def ac5(H:0<V)(F:V<1000)(e:1<=K)(M:K<2^32)(a:StM st sq L)(hL:L<2^30)(d:TJ V K sh ps)(hu:iq n u)(h:FJ V K L ps sq m u)
 (p:jZ)(hm:m<900)(rt:List (List Tm))(O:jj Int)(A0:(st.length:Int)=n)(hl:(sh.length:Int)=n)(E1:u.ai.length<2^30):
 xa prog 291 0 true (MQ p m st sh rt O) [dZ u] (aia<|suU m st sh u):=by
 obtain⟨b1,b2,b3⟩:=IB H F e M a hL d hu h u.ai.length<|aaU _;have hc:=JV (NI st sh u u.ai.length).2 b2 m E;have B0:(eK (gh ps sq u u.ai.length).2 m).length<=1:=by unfold eK;split<;>simp
 have z:=ND b1 hc.1 h.fin H e M (by have:=b3.len;omega);refine xa.box W I λw S hd F1 o hr ho=>?_;obtain⟨b,cs,B,F',C⟩:=Kl.of (xs:=xRd p m st sh rt O) hr ho;obtain⟨z1,r,v,T⟩:=O4 (j:=4) (sz:=4) (X:=st.map λf=>(eF f).den) C W;obtain⟨z2,q,t,R⟩:=O4 (j:=5) (sz:=1) (X:=sh.map λp=>(Gi p).den) C W;rw[acx]at v t;obtain rfl:=B.e;rw[show(MQ p m st sh rt O).den=.box true (.agg<|xRd p m st sh rt O)from fQ];generalize N:JL (.box true<|.agg<|xRd p m st sh rt O) (.pointer<|some ⟨b,0,none⟩) F1 o=J;refine mF (fn:=Tryz.f291) func291 W W W W W<|ck W W (kL hu.k) W<|r0 W<|ba (λi:Nat=>[(0,.pv (·=.pointer (some ⟨b,0,none⟩))),(5,aia (NI st sh u i).1),(6,.box true<|eF (NI st sh u i).2),(14,aie u.ai),(15,.i u.ai.length),(16,.i i),(1000000,.abs J)]) (λi=>i<=u.ai.length) (λi=>u.ai.length-i) 0 (aaQ _) ?_;intro i hi;refine cm W W ?_ ?_<;>intro g;have x:i<u.ai.length:=E;have ei:(i:Int).toNat=i:=E;have P:u.ai.getD i default=u.ai[i]:=az x;have A:=hu.feed u.ai[i] I;obtain⟨a1,a2,a3⟩:=IB H F e M a hL d hu h i hi;have hs:=UA (d.m.at u.ai[i].sh.toNat) (d.at _) H (db<|bQ u.ai[i].dU) (bz _) (ur A.2.2.1) fV M;have h2:(jr (bQ u.ai[i].dU)<|ps.getD u.ai[i].sh.toNat []).length<2^30:=(h.TQ _ I).norm.2;have k:=h.sum i x;rw[P]at k;have D:=ND a1 hs.1 k H e M (by have:=a3.len;omega);have e1:(NI st sh u<|i+1).1=kd ((NI st sh u i).1++Oh (db<|bQ u.ai[i].dU) (sh.getD u.ai[i].sh.toNat [])):=by rw[<-P];rfl
 have e2:(NI st sh u<|i+1).2=abb (NI st sh u i).2 (jH (db<|bQ u.ai[i].dU)<|st.getD u.ai[i].sh.toNat f0):=by rw[<-P];rfl
 have zf:=ur A.2.2.1;have zs:=a.sz u.ai[i].sh.toNat;have om:=fm (bz<|bQ u.ai[i].dU)<|a.ok u.ai[i].sh.toNat;have zm:=zf.mul zs;have s:=h.num i hi;have l:u.ai[i].sh.toNat<sh.length:=E;have c:u.ai[i].sh.toNat<st.length:=E;have Z:sh.getD u.ai[i].sh.toNat []=sh[u.ai[i].sh.toNat]:=az l;have Y:st.getD u.ai[i].sh.toNat f0=st[u.ai[i].sh.toNat]:=az c;refine eP W ?_;rw[ei,P];refine bW W (kL A.2.2.1) W<|r0 W<|FL W W W (DD W) W<|FL W W W (En (off:=5) W W (ey hA W) fV) W<|Y2 (y:=.pv (·=z2)) W W (N▸zU B (ey hA W) W q R) W W<|r0 W<|FL W W W (O2 W underlying214 (ey hA W) A.1 l t) W<|Y2 (y:=Gi<|sh.getD u.ai[i].sh.toNat []) W W (N▸DU B q W (ey hA W) (CF sh) (by rw[afE,acL l,Z];rfl) W) W W ?_;refine cj W W hs.2 W<|cj W W D.2 W ?_;rw[<-e1];refine CM W<|r0 W<|FL W W W (DD W) W<|FL W W W (En (off:=4) W W (ey hA W) fV) W<|Y2 (y:=.pv (·=z1)) W W (N▸zU B (ey hA W) W r T) W W<|r0 W<|FL W W W (O2 W underlying168 (ey hA W) A.1 c v) W<|Y2 (y:=eF<|st.getD u.ai[i].sh.toNat f0) W W (N▸DU B r W (ey hA W) (ab1 st) (by rw[afE,acL c,Y];rfl) W) W W ?_;refine cj W W (lY (db<|bQ u.ai[i].dU) (st.getD u.ai[i].sh.toNat f0) (bz _) (a.ok _) (eD (bz _) zf) (eD (a.ok _) zs) E) W<|cj W W (ab0 (NI st sh u i).2 (jH (db<|bQ u.ai[i].dU)<|st.getD u.ai[i].sh.toNat f0) a2 om (eD a2 s) (eD om zm) E) W<|u6 W<|aM (i+1) E ⟨G,G,⟨W,by rw[e2];exact aw.refl _⟩,G,G,G,W,U⟩;have:i=u.ai.length:=E;subst this;refine r0 W<|FL W W W (DD W) W<|FL W W W (En (off:=3) W W (ey hA W) fV) W<|Y2 (y:=.i m) W W (N▸HA B (ey hA W) W W W) W W<|eP W<|TV (us:=[eF (NI st sh u u.ai.length).2,.i (m+1:Nat)]) W W U ⟨aw.refl _,aaf SV.i E,U⟩ hc.2 W<|cj W W z.2 W<|CM W<|NJ [(4,aia<|suU m st sh u),(1000000,.abs J)] ⟨ak,W,U⟩ W (aw.refl _) ⟨G,U⟩
end
end Go.Ai.Pg
end
section
namespace Go.Ai.Pg
variable{V K:Nat}
def P8(sh:L (L Tm))(u:bN):L Tm:=Oh (db<|bQ (u.ai.getD 0 default).dU)<|sh.getD (u.ai.getD 0 default).sh.toNat []
def NZ(m:Nat)(x:L Tm)(cs:L cq):L Tm:=cs.foldr (λa s=>kd<|kd (mulM s x)++cM (db<|bQ a) (m+1)) []
def tbU(m:Nat)(sh:L (L Tm))(u:bN):L Tm:=NZ m (P8 sh u) u.cW
def PF(q:Rat)(m:Nat):(eK q m).length<=1:=by unfold eK;split<;>simp
section
variable{m:Nat}{sh:L (L Tm)}{ps:L (L bq)}{u:bN}{n:Int}
def Ue(c:0<V)(e:K<2^32)(a:TJ V K sh ps)(hu:iq n u)(h:FB V K ps m u)(b:0<u.ai.length):
 (ix (P8 sh u) (nH ps u)/\ab 229 [aia<|sh.getD (u.ai.getD 0 default).sh.toNat [],eF<|db<|bQ (u.ai.getD 0 default).dU] (aia<|P8 sh u))/\eh V K (nH ps u):=by
 have hm:=aX (d:=default) b;exact⟨UA (a.m.at _) (a.at _) c _ (bz _) (ur (hu.feed _ hm).2.2.1) fV e,eh.iE h.TQ⟩
def Ix(e:0<V)(c:1<=K)(f:K<2^32)(d:TJ V K sh ps)(hu:iq n u)(h:FB V K ps m u)(g:0<u.ai.length)(hm:m<900):
 ∀k,k<=u.cW.length->ix (NZ m (P8 sh u)<|u.cW.drop<|u.cW.length-k) (j0 m (nH ps u)<|(u.cW.map bQ).drop<|u.cW.length-k)/\eh V K (j0 m (nH ps u)<|(u.cW.map bQ).drop<|u.cW.length-k)
 |0,_=>by rw[agT,aeM,aew I];exact⟨.nil,.nil⟩
 |k+1,t=>by obtain⟨s,r⟩:=Ix e c f d hu h g hm k E;obtain⟨⟨q,-⟩,p⟩:=Ue e f d hu h g;have hi:u.cW.length-(k+1)<u.cW.length:=E;have j:u.cW.length-(k+1)+1=u.cW.length-k:=E;have b:=h.mul _ hi;have a:=h.sum _ hi;rw[j]at b a;have hc:=JV (db<|bQ<|u.cW.getD (u.cW.length-(k+1)) []) (bz _) m E;have o:=SD s q r p b e c f;have i:=ND o.1 hc.1 a e c f (by have:=(eh.iE b).len;have:=PF (bQ<|u.cW.getD (u.cW.length-(k+1)) []) m;unfold kv;omega);rw[acJ hi,acJ (l:=u.cW.map bQ)<|by simpa using hi,j,agl];rw[az hi]at i a;exact⟨i.1,eh.iE a⟩
def ZE(A:0<V)(f:1<=K)(D:K<2^32)(r:TJ V K sh ps)(hu:iq n u)(h:FB V K ps m u)(M:0<u.ai.length)(hm:m<900)(ht:u.cW.length<2^20)
 (p:jZ)(i:L Fr)(rt:L (L Tm))(g:jj Int)(hl:(sh.length:Int)=n)(A0:u.ai.length<2^30):
 xa prog 292 0 true (MQ p m i sh rt g) [dZ u] (aia<|tbU m sh u):=by
 obtain⟨⟨b1,P⟩,b2⟩:=Ue A D r hu h M;have x:=hu.feed _<|aX (d:=default) M;refine xa.box W I λw S hd F1 o hr ho=>?_;obtain⟨b,cs,B,F',N⟩:=Kl.of (xs:=xRd p m i sh rt g) hr ho;obtain⟨Z,l,t,F⟩:=O4 (j:=5) (sz:=1) (X:=sh.map λp=>(Gi p).den) N W;rw[acx]at t;obtain rfl:=B.e;rw[show(MQ p m i sh rt g).den=.box true (.agg<|xRd p m i sh rt g)from fQ];generalize O:JL (.box true<|.agg<|xRd p m i sh rt g) (.pointer<|some ⟨b,0,none⟩) F1 o=J;refine mF (fn:=Tryz.f292) func292 W W W W W<|r0 W<|ex W W W (acq (C:=(·=.pointer (some ⟨b,0,none⟩))) W) W<|r0 W<|FL W W W (Qu (C:=(·=.pointer (some ⟨b,0,none⟩))) W (ey hA W) W<|by rintro _ rfl;rfl) W ?_;refine FL W W W (DD W) W<|FL W W W (En (off:=5) W W (ey hA W) fV) W<|Y2 (y:=.pv (·=Z)) W W (O▸zU B (ey hA W) W l F) W W<|eP W ?_;have q:(u.ai.getD 0 default).sh.toNat<sh.length:=E;have g:sh.getD (u.ai.getD 0 default).sh.toNat []=sh[(u.ai.getD 0 default).sh.toNat]:=az q;refine FL W W W (O2 (m:=(u.ai.getD 0 default).sh) W underlying214 (ey hA W) x.1 q t) W<|Y2 (y:=Gi<|sh.getD (u.ai.getD 0 default).sh.toNat []) W W (O▸DU B l W (ey hA W) (CF sh) fP W) W W<|eP W<|bX W (kL (s:=(u.ai.getD 0 default).dU) x.2.2.1) W<|cj W W P W<|CM W<|bW W (Fm u.cW) W<|r0 W<|sY [(1000000,.abs J),(2,.box true (.pv (·=.pointer (some ⟨b,0,none⟩)))),(5,.box true<|aia<|P8 sh u),(6,.box true<|aia []),(29,.fn (.func 314) [] [.box false<|.strs false u.cW])]
  ⟨W,ak,ak,⟨W,W,.box<|.le W⟩,ak,U⟩<|zI [1000000,6,5,2] [6,5,2] u.cW.length u.cW.length (λk=>[.i ((u.cW.length-1-k:Nat):Int),.s<|u.cW.getD (u.cW.length-1-k) []]) (λk=>[.abs J,.box true<|aia<|NZ m (P8 sh u)<|u.cW.drop<|u.cW.length-k,.box true<|aia<|P8 sh u,.box true (.pv (·=.pointer (some ⟨b,0,none⟩)))]) (λ_=>true) (λ_=>none) (.bU [])
  rfl W W W W func314 W W W W W W (λ_ _=>rfl) (λ_=>rfl) ?_ ?_ W (λ_ _ _=>rfl) (λC J hy=>BY u.cW E C J λv hv k H=>hy v hv k H λ_ _=>rfl) ?_ ?_ (λc h=>by cases h)
 intro k H z R;simp[abm,ae8,or_false]at R;rcases R with rfl|rfl|rfl|rfl<;>rfl;show[SV.abs J,.box true<|aia<|NZ m (P8 sh u)<|u.cW.drop<|u.cW.length-0,.box true<|aia<|P8 sh u,.box true (.pv (·=.pointer (some ⟨b,0,none⟩)))]=_;rw[agT,aeM];rfl;intro k H _;have hi:u.cW.length-1-k<u.cW.length:=E;have Y:u.cW.length-1-k+1=u.cW.length-k:=E;obtain⟨a1,a2⟩:=Ix A f D r hu h M hm k E;have a:=h.mul _ hi;have e:=h.sum _ hi;rw[Y]at a e;have hc:=JV (db<|bQ<|u.cW.getD (u.cW.length-1-k) []) (bz _) m E;have T:=SD a1 b1 a2 b2 a A f D;have h2:=ND T.1 hc.1 e A f D (by have:=(eh.iE a).len;have:=PF (bQ<|u.cW.getD (u.cW.length-1-k) []) m;unfold kv;omega);have e4:NZ m (P8 sh u) (u.cW.drop<|u.cW.length-(k+1))=kd (kd (mulM (NZ m (P8 sh u)<|u.cW.drop<|u.cW.length-k)<|P8 sh u)++cM (db<|bQ<|u.cW.getD (u.cW.length-1-k) []) (m+1)):=by rw[show u.cW.length-(k+1)=u.cW.length-1-k from E,acJ hi,Y,az hi];rfl
 refine r0 W<|rN<|cj W W T.2 W<|cj W W (kL<|hu.cW _<|aX hi) W<|r0 W<|FL W W W (Qu (C:=(·=.pointer (some ⟨b,0,none⟩))) W (ey hA W) W<|by rintro _ rfl;rfl) W ?_;refine FL W W W (DD W) W<|FL W W W (En (off:=3) W W (ey hA W) fV) W<|Y2 (y:=.i m) W W (O▸HA B (ey hA W) W W W) W W<|eP W<|TV (us:=[eF<|db<|bQ<|u.cW.getD (u.cW.length-1-k) [],.i (m+1:Nat)]) W W U ⟨aw.refl _,aaf SV.i E,U⟩ hc.2 W<|cj W W h2.2 W ?_;rw[<-e4];refine CM W<|yb [(1000000,.abs J),(1000001,.box true<|aia<|NZ m (P8 sh u)<|u.cW.drop<|u.cW.length-(k+1)),(1000002,.box true<|aia<|P8 sh u),(1000003,.box true (.pv (·=.pointer (some ⟨b,0,none⟩))))] W W
  ⟨W,ak,ak,ak,U⟩ ⟨G,G,G,G,U⟩
 intro _;rw[agZ,aeW];refine r0 W<|NJ [(4,aia<|tbU m sh u),(1000000,.abs J)] ⟨ak,W,U⟩ W (aw.refl _) ⟨G,U⟩
end
end Go.Ai.Pg
end
section
namespace Go.Ai.Pg
def xu(us:List bN)(n m:Nat):Nat->List (List Tm)
 |0=>(List.replicate n []).set 0 (vM 0 (m+1))
 |i+1=>if(us.getD i default).kind=bF then(xu us n m i).set (us.getD i default).out.toNat (vM (fM us<|i+1)<|m+1)else xu us n m i
def tx(us:List bN):Nat->jj Int
 |0=>[]
 |i+1=>if(us.getD i default).kind=bF then tx us i++[((i:Int),.i<|fM us i)]else tx us i
def Qh(us:List bN)(st:List Fr)(m:Nat)(sh:List (List Tm))(o:Int):List (List Tm):=
 if(us.getD o.toNat default).kind=kg then sh.set (us.getD o.toNat default).out.toNat (suU m st sh<|us.getD o.toNat default)
 else if(us.getD o.toNat default).kind=eJ then sh.set (us.getD o.toNat default).out.toNat (tbU m sh<|us.getD o.toNat default)else sh
def j5(us:List bN)(n m k:Nat):List (List Tm):=((aA us).take k).foldl (Qh us (mg n us) m)<|xu us n m us.length
def Om(sh rt:List (List Tm))(m:Nat)(u:bN):List Tm:=Oh (jH (db<|bQ (u.ai.getD 0 default).dU)<|db<|bQ (u.ai.getD 1 default).dU) (kd<|mulM (sh.getD (u.ai.getD 0 default).sh.toNat [])<|TH rt (sh.getD (u.ai.getD 1 default).sh.toNat []) m)
def Qj(us:List bN)(m:Nat)(sh rt:List (List Tm))(o:Int):List (List Tm):=if(us.getD o.toNat default).kind=bF then rt.set (fM us o.toNat) (Om sh rt m<|us.getD o.toNat default)else rt
def oS(us:List bN)(n m k:Nat):List (List Tm):=((aA us).take k).foldl (Qj us m<|j5 us n m (aA us).length)<|List.replicate m []
theorem Od{us:List bN}{n m k:Nat}(h:k<(aA us).length):j5 us n m (k+1)=Qh us (mg n us) m (j5 us n m k) (aA us)[k]:=by unfold j5;rw[ace h,afv];rfl
theorem Oi{us:List bN}{n m k:Nat}(h:k<(aA us).length):oS us n m (k+1)=Qj us m (j5 us n m (aA us).length) (oS us n m k) (aA us)[k]:=by unfold oS;rw[ace h,afv];rfl
theorem aap{a b:Int}(h:a≠b):Mk.eq a b=false:=by
 cases e:Mk.eq a b with
 |false=>rfl
 |true=>exact aaF (Mk.iff.1 e) h
theorem Mp{c:jj Int}{k:Int}(h:∀q∈c,q.1≠k):pr k c=none/\∀x,B7 k x c=c++[(k,x)]:=by
 induction c with
 |nil=>exact⟨W,λ_=>rfl⟩
 |cons q c g=>have d:=aap λe=>h q I e.symm;obtain⟨a,b⟩:=g λf i=>h f (by simp[i]);constructor;show(match Mk.eq k q.1 with|true=>some q.2|false=>pr k c)=none;rw[d];exact a;intro x;show(match Mk.eq k q.1 with|true=>(k,x)::c|false=>q::B7 k x c)=_;rw[d,b];rfl
theorem Mr{a:jj Int}{k:Int}{q:Int×SV}:pr k (a++[q])=match pr k a with|some x=>some x|none=>if k=q.1 then some q.2 else none:=by
 induction a with
 |nil=>show(match Mk.eq k q.1 with|true=>some q.2|false=>none)=_;by_cases h:k=q.1;rw[Mk.iff.2 h];simp[pr,h];rw[aap h];simp[pr,h]
 |cons p a b=>
  show(match Mk.eq k p.1 with|true=>some p.2|false=>pr k<|a++[q])=match(match Mk.eq k p.1 with|true=>some p.2|false=>pr k a)with|some x=>some x|none=>if k=q.1 then some q.2 else none
  grind
theorem CN(us:List bN):∀i,∀q∈tx us i,0<=q.1/\q.1<i
 |0,q,h=>by cases h
 |i+1,q,h=>by
  rw[tx]at h;split at h;rcases ac6.1 h with h|h;have:=CN us i q h;omega
  grind
  have:=CN us i q h;omega
theorem Q4(us:List bN):∀i,i<=us.length->(tx us i).length=fM us i
 |0,_=>rfl
 |i+1,hi=>by
  have a:=Q4 us i E;rw[tx,mH E]
  grind
theorem Q5(us:List bN){j:Nat}:∀i,j<i->pr (j:Int) (tx us i)=if(us.getD j default).kind=bF then some (.i<|fM us j)else none
 |0,h=>E
 |i+1,h=>by
  rw[tx];by_cases d:j=i;subst d;have a:pr (j:Int) (tx us j)=none:=(Mp λq c=>by have:=CN us j q c;omega).1;split;rw[Mr,a];simp;exact a;have b:=Q5 us (j:=j) i E;split;rw[Mr]
  grind
  exact b
theorem P3(v m:Nat):AQ (rJ v m)/\Nz (rJ v m):=⟨List.pairwise_singleton _ _,λt a=>by unfold rJ at a;simp_all⟩
theorem xv{A:List bq->Prop}{ps:List (List bq)}{i:Nat}{p:List bq}(h:∀q∈ps,A q)(b:A p):∀q∈ps.set i p,A q:=λq a=>by grind
theorem Of(us:List bN)(n m:Nat)(hm:m<900)(hc:∀i,fM us i<=m):∀i,nE (xu us n m i) (FK us n m i)/\∀p∈FK us n m i,AQ p/\Nz p
 |0=>⟨(nE.rep n).set (XM 0 m E E).1,xv (λq c=>by rw[(ah6.1 c).2];exact⟨List.Pairwise.nil,by intro u hu;cases hu⟩)<|P3 _ _⟩
 |i+1=>by obtain⟨a,b⟩:=Of us n m hm hc i;rw[xu,FK];split;exact⟨a.set (XM _ m (hc _) E).1,xv b<|P3 _ _⟩;exact⟨a,b⟩
theorem StM.mono{st:List Fr}{sq:List Rat}{L M:Nat}(h:StM st sq L)(a:L<=M):StM st sq M:=⟨h.ok,λi=>(h.sz i).mono a⟩
section
variable{V K L m:Nat}{st:List Fr}{sq:List Rat}{sh:List (List Tm)}{ps:List (List bq)}{u:bN}{n:Int}
theorem abc(e:0<V)(d:V<1000)(a:1<=K)(f:K<2^32)(b:StM st sq L)(i:L<2^30)(c:TJ V K sh ps)(hu:iq n u)(h:FJ V K L ps sq m u)(hm:m<900):ix (suU m st sh u) (Kf ps sq m u)/\eh V K (Kf ps sq m u):=by obtain⟨l,k,j⟩:=IB e d a f b i c hu h u.ai.length .refl;have hc:=JV (NI st sh u u.ai.length).2 k m E;have g:=PF (gh ps sq u u.ai.length).2 m;exact⟨(ND l hc.1 h.fin e a f (by have:=j.len;omega)).1,eh.iE h.fin⟩
theorem aa8(d:0<V)(b:1<=K)(e:K<2^32)(a:TJ V K sh ps)(hu:iq n u)(h:FB V K ps m u)(c:0<u.ai.length)(hm:m<900):ix (tbU m sh u) (X0 ps m u)/\eh V K (X0 ps m u):=by have:=Ix d b e a hu h c hm u.cW.length .refl;rw[agZ]at this;exact this
theorem UU{rt:List (List Tm)}{rs:List (List bq)}(o:0<V)(f:V<1000)(c:1<=K)(g:K<2^32)(a:TJ V K sh ps)(e:nE rt rs)(s:∀r∈rs,eh V K r)(b:rs.length=m)(q:m<V)(hu:iq n u)(h:FC V K ps rs u)(t:1<u.ai.length):
 ix (Om sh rt m u) (Dl ps rs u)/\eh V K (Dl ps rs u):=by
 have f0:=(hu.feed _<|aX (d:=default) (i:=0) E).2.2.1;have v:=(hu.feed _<|aX (d:=default) (i:=1) t).2.2.1;have j:XA V K rs (ps.getD (u.ai.getD 1 default).sh.toNat []):=⟨h.al,a.at _,s,E⟩;have p:=XA.step (a.m.at (u.ai.getD 1 default).sh.toNat) e j f c g rs.length .refl;have w:=ou h.al rs.length .refl;rw[b]at p;have k:=w;have l:ix (TH rt (sh.getD (u.ai.getD 1 default).sh.toNat []) m) (kn rs<|ps.getD (u.ai.getD 1 default).sh.toNat []):=by unfold kn;rw[b];exact p
 have m1:=SD (a.m.at (u.ai.getD 0 default).sh.toNat) l (a.at _) k h.mul o c g;have g1:=eh.iE h.mul;exact⟨(UA m1.1 g1 o _ (fm (bz _)<|bz _) ((ur f0).mul<|ur v) fV g).1,eh.iE h.TQ⟩
end
abbrev kR:Nat:=1012*wB+2
set_option linter.unusedSectionVars false
section
variable{us:List bN}{n m:Nat}(hd:fo us n)(hc:m=aT us)
include hd hc
theorem WM(i:Nat):fM us i<=m:=hc▸CP us i
theorem OM:m<9:=by have:=hd.mle hc;omega
theorem stM:StM (mg n us) (cw n us) 67:=by
 have a:=λu hu=>(hd.val u hu).k;have b:=v8 (n:=n) (us:=us) (A:=λq=>Sz q 67) (pM.mono fV) λu hu=>eO<|a u hu;refine⟨λi=>?_,λi=>?_⟩;by_cases h:i<n;exact(aaK a i h).1;rw[acO,aex<|by rw[y9];omega,acO,aex<|by rw[oO];omega];exact Wl;by_cases h:i<n;exact b _<|aX<|by rw[oO];exact h
 rw[acO,aex<|by rw[oO];omega];exact pM.mono fV
theorem XR{u:bN}(hu:u∈us):0<u.ai.length/\u.ai.length<2^30/\(u.kind=bF->1<u.ai.length)/\u.cW.length<2^20:=by
 have h:=(hd.val u hu).Bc;unfold j8 at h;have b:1<=Cd u/\(u.kind=bF->Cd u=2):=by unfold Cd;split<;>simp_all
 have a:vJ u<=8:=by unfold vJ;omega
 grind
theorem aaM{k:Nat}(h:k<us.length)(a:(aS us k).kind=kg):FJ (m+1) kR (1012*2+2) (gJ us n m k) (cw n us) m (aS us k):=by
 have b:k<(aA us).length:=by rw[hd.jG];exact h
 have:=(hd.read hc).add k b;unfold aS at a⊢;simp_all
theorem aaa{k:Nat}(h:k<us.length)(a:(aS us k).kind=eJ):FB (m+1) kR (gJ us n m k) m (aS us k):=by
 have b:k<(aA us).length:=by rw[hd.jG];exact h
 have:=(hd.read hc).cW k b;unfold aS at a⊢;simp_all
theorem UW{k:Nat}(h:k<us.length)(a:(aS us k).kind=bF):FC (m+1) kR (nc us n m) (fC us n m k) (aS us k):=by
 have b:k<(aA us).length:=by rw[hd.jG];exact h
 have:=(hd.read hc).adn k b;unfold aS at a⊢;simp_all
theorem KT{k:Nat}(h:k<us.length):j5 us n m (k+1)=if(aS us k).kind=kg then(j5 us n m k).set (aS us k).out.toNat (suU m (mg n us) (j5 us n m k)<|aS us k)else if(aS us k).kind=eJ then(j5 us n m k).set (aS us k).out.toNat (tbU m (j5 us n m k)<|aS us k)else j5 us n m k:=by
 have a:k<(aA us).length:=by rw[hd.jG];exact h
 rw[Od a];unfold aS;rw[az a];rfl
theorem Yd{k:Nat}(h:k<us.length):gJ us n m (k+1)=if(aS us k).kind=kg then(gJ us n m k).set (aS us k).out.toNat (Kf (gJ us n m k) (cw n us) m<|aS us k)else if(aS us k).kind=eJ then(gJ us n m k).set (aS us k).out.toNat (X0 (gJ us n m k) m<|aS us k)else gJ us n m k:=by
 have a:k<(aA us).length:=by rw[hd.jG];exact h
 rw[ov a];unfold aS;rw[az a];rfl
theorem shG:∀k,k<=us.length->TJ (m+1) kR (j5 us n m k) (gJ us n m k)
 |0,_=>by have d:=Of us n m (by have:=OM hd hc;omega) (WM hd hc) us.length;have e:=(hd.read hc).sh 0 (aaQ _);exact⟨d.1,λp c=>⟨(d.2 p c).1,(d.2 p c).2,(e p c).1,(e p c).2⟩⟩
 |k+1,i=>by have b:=shG k E;have a:k<us.length:=E;have hu:=hd.val _<|hd.mem a;have hm:=OM hd hc;obtain⟨h,-,-,-⟩:=XR hd hc<|hd.mem a;rw[KT hd hc a,Yd hd hc a];split;rename_i g;have:=abc E E fV fV ((stM hd hc).mono fV) fV b hu (aaM hd hc a g) E;exact⟨b.m.set this.1,xv b.g this.2⟩;split;rename_i f;have:=aa8 E fV fV b hu (aaa hd hc a f) h E;exact⟨b.m.set this.1,xv b.g this.2⟩;exact b
theorem K1{k:Nat}(h:k<us.length):oS us n m (k+1)=if(aS us k).kind=bF then(oS us n m k).set (fM us ((aA us).getD k 0).toNat) (Om (j5 us n m us.length) (oS us n m k) m<|aS us k)else oS us n m k:=by
 have a:k<(aA us).length:=by rw[hd.jG];exact h
 rw[Oi a,hd.jG];unfold aS;rw[az a];rfl
theorem Yq{k:Nat}(h:k<us.length):fC us n m (k+1)=if(aS us k).kind=bF then(fC us n m k).set (fM us ((aA us).getD k 0).toNat) (Dl (nc us n m) (fC us n m k)<|aS us k)else fC us n m k:=by
 have a:k<(aA us).length:=by rw[hd.jG];exact h
 rw[wi a];unfold aS;rw[az a];rfl
theorem Uy:TJ (m+1) kR (j5 us n m us.length) (nc us n m):=by have:=shG hd hc us.length .refl;unfold nc;rw[hd.jG];exact this
theorem rtG:∀k,k<=us.length->TJ (m+1) kR (oS us n m k) (fC us n m k)
 |0,_=>⟨nE.rep m,λp d=>by rw[(ah6.1 d).2];exact .nil⟩
 |k+1,f=>by have b:=rtG k E;have a:k<us.length:=E;have hu:=hd.val _<|hd.mem a;have hm:=OM hd hc;obtain⟨-,-,e,-⟩:=XR hd hc<|hd.mem a;rw[K1 hd hc a,Yq hd hc a];split;rename_i c;have:=UU E E fV fV (Uy hd hc) b.m b.g (jo us n m k) E hu (UW hd hc a c)<|e c;exact⟨b.m.set this.1,xv b.g this.2⟩;exact b
theorem IJ(k:Nat)(a:k<=us.length):(j5 us n m k).length=n:=by rw[(shG hd hc k a).m.len,jB]
theorem Ql(k:Nat)(a:k<=us.length):(oS us n m k).length=m:=by rw[(rtG hd hc k a).m.len,jo]
end
end Go.Ai.Pg
end
