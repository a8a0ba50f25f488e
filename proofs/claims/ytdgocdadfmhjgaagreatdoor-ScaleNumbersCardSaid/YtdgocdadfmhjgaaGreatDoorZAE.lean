/- Parts of the proof of ScaleNumbers (CheckBench, Exponent and Largest answer as the reference does), at every input, with no further conditions. -/
import Derived.Test.YtdgocdadfmhjgaaGreatDoorZAD
import Derived.RangeFuncLeaves
import Derived.RangeFuncFrom
set_option linter.unusedVariables false
set_option linter.unusedSimpArgs false
namespace Go.Ai
open Go.RowKit
section
variable{R:Option Nat->Prop}{P:Program}{N:Nat}{w0 w w':World}{V:Hid}{S S0 S':Nat->Prop}{σ σ' τ:St}{a:Act}{ops:Array Oper}{o:Oper}
def merge(σs:Nat->St)(kg:Nat->List Mv)(L:Nat->Bool)(s:Nat):Nat->Sl
 |0=>σs 0 s
 |k+1=>if L k=true/\s∈aN (kg k)then σs (k+1) s else merge σs kg L s k
theorem yx{σs:Nat->St}{kg:Nat->List Mv}{L:Nat->Bool}{s n j:Nat}(hr:∀k,k<n->Mv.runs (σs k) (kg k)=some (σs (k+1)))(hj:j<=n)
 (h:∀i,i<n->s∈aN (kg i)->(i<j->L i=true)/\(j<=i->L i=false)):merge σs kg L s n=σs j s:=by
 have h1:∀k,k<=j->merge σs kg L s k=σs k s:=by
  intro k
  induction k with
  |zero=>intro _;rfl
  |succ k ih=>
   intro hk;unfold merge;by_cases hs:s∈aN (kg k)
   ·rw[if_pos ⟨(h k (by omega) hs).1 (by omega),hs⟩]
   rw[if_neg (fun hh=>hs hh.2),ih (by omega),rJ (hr k (by omega)) hs]
 have h2:∀k,j<=k->k<=n->merge σs kg L s k=σs j s:=by
  intro k
  induction k with
  |zero=>intro hk _;have:j=0:=by omega
         subst this;rfl
  |succ k ih=>
   intro hk hn;by_cases MW:j=k+1
   ·subst MW;exact h1 _ (Nat.le_refl _)
   unfold merge;rw[if_neg (fun hh=>?_),ih (by omega) (by omega)];have:=(h k (by omega) hh.2).2 (by omega);rw[this]at hh;simp at hh
 exact h2 n hj (Nat.le_refl _)
theorem BN{σs:Nat->St}{kg:Nat->List Mv}{L L':Nat->Bool}{s:Nat}{j:Nat}(hL:∀i,i≠j->L' i=L i)(hs:s∉aN (kg j)):∀n,merge σs kg L' s n=merge σs kg L s n
 |0=>rfl
 |n+1=>by
  unfold merge;rw[BN hL hs n];by_cases e:n=j
  ·subst e;rw[if_neg (fun h=>hs h.2),if_neg (fun h=>hs h.2)]
  rw[hL n e]
theorem HZ{σs:Nat->St}{kg:Nat->List Mv}{L:Nat->Bool}{s n j:Nat}(hr:∀k,k<n->Mv.runs (σs k) (kg k)=some (σs (k+1)))(hj:j<=n)
 (h:∀i,i<n->s∈aN (kg i)->((i<j->L i=true)/\(j<=i->L i=false))\/pd (σs (i+1) s)=pd (σs i s))
 (hw:∀i k,i<k->k<n->s∈aN (kg i)->s∈aN (kg k)->L k=true->L i=true):pd (merge σs kg L s n)=pd (σs j s):=by
 have h1:∀k,k<=j->pd (merge σs kg L s k)=pd (σs k s):=by
  intro k
  induction k with
  |zero=>intro _;rfl
  |succ k ih=>
   intro hk;unfold merge;by_cases hc:L k=true/\s∈aN (kg k)
   ·rw[if_pos hc]
   rw[if_neg hc,ih (by omega)];by_cases hs:s∈aN (kg k)
   ·rcases h k (by omega) hs with h2|h2
    ·exact absurd ⟨h2.1 (by omega),hs⟩ hc
    exact h2.symm
   rw[rJ (hr k (by omega)) hs]
 have h3:∀k,j<=k->k<=n->(∀i,j<=i->i<k->s∈aN (kg i)->pd (σs (i+1) s)=pd (σs i s))->pd (σs k s)=pd (σs j s):=by
  intro k
  induction k with
  |zero=>intro hk _ _;have:j=0:=by omega
         subst this;rfl
  |succ k ih=>
   intro hk hn hh;by_cases MW:j=k+1
   ·subst MW;rfl
   rw[<-ih (by omega) (by omega) fun i a b=>hh i a (by omega)];by_cases hs:s∈aN (kg k)
   ·exact hh k (by omega) (by omega) hs
   rw[rJ (hr k (by omega)) hs]
 have h2:∀k,j<=k->k<=n->pd (merge σs kg L s k)=pd (σs j s):=by
  intro k
  induction k with
  |zero=>intro hk _;have:j=0:=by omega
         subst this;rfl
  |succ k ih=>
   intro hk hn;by_cases MW:j=k+1
   ·subst MW;exact h1 _ (Nat.le_refl _)
   unfold merge;by_cases hc:L k=true/\s∈aN (kg k)
   ·rw[if_pos hc];refine h3 (k+1) hk hn fun i a b hs=>?_;have hL:L i=true:=by
     by_cases e:i=k
     ·rw[e];exact hc.1
     exact hw i k (by omega) (by omega) hs hc.2 hc.1
    rcases h i (by omega) hs with h4|h4
    ·have:=h4.2 a;rw[this]at hL;simp at hL
    exact h4
   rw[if_neg hc,ih (by omega) (by omega)]
 exact h2 n hj (Nat.le_refl _)
theorem Ih{x y:List Nat×List Nat}(h:indep x y=true):(∀s∈x.2,3*s∉y.1/\s∉y.2/\(3*s+1∈y.1->3*s+2∈x.1))/\∀s∈y.2,3*s∉x.1/\(3*s+1∈x.1->3*s+2∈y.1):=by
 unfold indep at h;simp only[Bool.and_eq_true,List.all_eq_true,Bool.not_eq_true',List.contains_eq_mem,decide_eq_false_iff_not,Bool.or_eq_true,decide_eq_true_eq]at h;refine⟨fun s hs=>?_,fun s hs=>?_⟩
 ·obtain⟨⟨a,b⟩,c⟩:=h.1 s hs;exact⟨a,b,fun hh=>c.resolve_left fun g=>g hh⟩
 obtain⟨a,c⟩:=h.2 s hs;exact⟨a,fun hh=>c.resolve_left fun g=>g hh⟩
theorem Cc{P:Program}{σ σ':St}{ops:Array Oper}{o:Oper}{res:Ask}{s:Nat}{ms:List Mv}{kn:List Ob}(h:3*s+2∈gW σ ops o)(hm:dN P σ ops o res=some (ms,kn))(hr:Mv.runs σ ms=some σ'):pd (σ' s)=pd (σ s):=by
 unfold gW at h;split at h
 ·rename_i a r _;simp only[List.mem_append,List.mem_map,List.mem_singleton]at h;rcases h with(h|⟨x,_,h⟩)|h
  ·split at h
   ·simp at h
   simp only[List.mem_singleton]at h;omega
  ·omega
  omega
 simp only[List.mem_append,List.mem_map]at h;rcases h with⟨x,_,h⟩|h
 ·omega
 split at h
 ·rename_i r hp;simp only[List.mem_singleton]at h;have:s=r:=by omega
  subst this;exact Rq hp hm hr
 simp at h
structure Told(P:Program)(N:Nat)(ops:Array Oper)(σs:Nat->St)(kg:Nat->List Mv):Prop where
 flat:∀(k:Nat)(o:Oper),ops[k]?=some o->fO N o=true
 step:∀(k:Nat)(o:Oper),ops[k]?=some o->Mv.runs (σs k) (kg k)=some (σs (k+1))/\∃res kn,dN P (σs k) ops o res=some (kg k,kn)/\∀ob∈kn,ob.ok P
 low:∀(k:Nat)(o:Oper),ops[k]?=some o->∀e∈o.after,Region.binds .any e=true->e.on<k
 ord:∀(i j:Nat)(oi oj:Oper),i<j->ops[i]?=some oi->ops[j]?=some oj->((pE ops.toList []).getD j 0).testBit i=true\/
  ((∀s∈aN (kg i),3*s∉gW (σs j) ops oj/\s∉aN (kg j)/\(3*s+1∈gW (σs j) ops oj->pd (σs (i+1) s)=pd (σs i s)))/\∀s∈aN (kg j),3*s∉gW (σs i) ops oi/\(3*s+1∈gW (σs i) ops oi->pd (σs (j+1) s)=pd (σs j s)))
theorem Ht{σs:Nat->St}{kg:Nat->List Mv}(hG:iV P V w0)(T:Told P N ops σs kg){Q:Exit->Act->World->Prop}(hQ:∀a w,Inv N V w0 S0 (σs ops.size) a w->Q .normal a w):
 ∀(fuel:Nat)(listed:Array Bool)(todo:List Nat)(τ:St)(a:Act)(w:World),listed.size=ops.size->todo.length<=fuel->todo.Nodup->(∀i,i<ops.size->listed.getD i true=false->i∈todo)->
  (∀(j:Nat)(o:Oper),listed.getD j false=true->ops[j]?=some o->∀e∈o.after,Region.binds .any e=true->listed.getD e.on false=true)->
  (∀s,τ s=merge σs kg (fun i=>listed.getD i false) s ops.size)->Inv N V w0 S0 τ a w->wpAnyIn (FW V.rd) 0 P .any ops Q fuel listed a w:=by
 have hr:∀k,k<ops.size->Mv.runs (σs k) (kg k)=some (σs (k+1)):=fun k hk=>(T.step k _ (Array.getElem?_eq_getElem hk)).1;have TY:∀(listed:Array Bool)(τ:St)(a:Act)(w:World),listed.size=ops.size->(∀s,τ s=merge σs kg (fun i=>listed.getD i false) s ops.size)->Inv N V w0 S0 τ a w->
  Region.ready .any ops listed=[]->Q .normal a w:=by
  intro listed τ a w ct hτ hi ue;have iC:∀i,i<ops.size->listed.getD i false=true:=by
   intro i
   induction i using Nat.strongRecOn with
   |ind i ih=>
    intro cB;cases hl:listed.getD i false with
    |true=>rfl
    |false=>
     have:i∈Region.ready .any ops listed:=mem_ready.2 ⟨?_,ops[i],Array.getElem?_eq_getElem cB,fun e he hb=>?_⟩
     ·rw[ue]at this;simp at this
     ·simp only[Array.getD,ct,cB,dite_true]at hl⊢;exact hl
     have:=T.low i _ (Array.getElem?_eq_getElem cB) e he hb;exact ih e.on this (by omega)
  refine hQ a w ?_;have:τ=σs ops.size:=funext fun s=>by rw[hτ s,yx hr (Nat.le_refl _) (fun i hi _=>⟨fun _=>iC i hi,fun h=>by omega⟩)]
  rw[<-this];exact hi
 intro fuel
 induction fuel with
 |zero=>
  intro listed todo τ a w ct hlen AG JR B6 hτ hi;have ue:Region.ready .any ops listed=[]:=by
   cases hh:Region.ready .any ops listed with
   |nil=>rfl
   |cons j _=>
    have:j∈Region.ready .any ops listed:=by rw[hh];simp
    obtain⟨h1,o,h2,-⟩:=mem_ready.1 this;have:=JR j (Array.getElem?_eq_some_iff.1 h2).1 h1;have:todo=[]:=List.length_eq_zero_iff.1 (by omega);subst this;simp at*
  unfold wpAnyIn;exact⟨ue,TY listed τ a w ct hτ hi ue⟩
 |succ fuel ih=>
  intro listed todo τ a w ct hlen AG JR B6 hτ hi;unfold wpAnyIn;refine⟨TY listed τ a w ct hτ hi,fun j hj=>?_⟩;obtain⟨hl,o,ho,VI⟩:=mem_ready.1 hj;have R7:j<ops.size:=(Array.getElem?_eq_some_iff.1 ho).1;have hlf:listed.getD j false=false:=by simp only[Array.getD,ct,R7,dite_true]at hl⊢;exact hl
  have Iu:∀(k:Nat)(o:Oper),listed.getD k false=true->ops.toList[k]?=some o->∀e∈o.after,Region.binds .any e=true->listed.getD e.on false=true:=fun k o h1 h2=>B6 k o h1 (by simpa using h2)
  have OQ:∀s,3*s∈gW (σs j) ops o\/s∈aN (kg j)->∀i,i<ops.size->i≠j->s∈aN (kg i)->(i<j->listed.getD i false=true)/\(j<=i->listed.getD i false=false):=by
   intro s hs i cO fX hk;refine⟨fun cB=>?_,fun hle=>?_⟩
   ·rcases T.ord i j _ o cB (Array.getElem?_eq_getElem cO) ho with h|⟨h,-⟩
    ·exact jc (L:=fun k=>listed.getD k false=true) Iu j o (by simpa using ho) VI i h
    rcases hs with hs|hs
    ·exact absurd hs (h s hk).1
    exact absurd hs (h s hk).2.1
   have cB:j<i:=by omega
   rcases T.ord j i o _ cB ho (Array.getElem?_eq_getElem cO)with h|⟨h1,h2⟩
   ·cases hli:listed.getD i false with
    |false=>rfl
    |true=>have:=jc (L:=fun k=>listed.getD k false=true) Iu i _ (by rw[Array.getElem?_toList];exact Array.getElem?_eq_getElem cO) (fun e he hb=>B6 i _ hli (Array.getElem?_eq_getElem cO) e he hb) j h;rw[hlf]at this;simp at this
   rcases hs with hs|hs
   ·exact absurd hs (h2 s hk).1
   exact absurd hk (h1 s hs).2.1
  have Zj:∀s,3*s∈gW (σs j) ops o\/s∈aN (kg j)->τ s=σs j s:=by
   intro s hs;rw[hτ s];refine yx hr (by omega) fun i cO hk=>?_;by_cases fX:i=j
   ·subst fX;exact⟨fun h=>by omega,fun _=>hlf⟩
   exact OQ s hs i cO fX hk
  have hhd:∀s,3*s+1∈gW (σs j) ops o->pd (τ s)=pd (σs j s):=by
   intro s hs;rw[hτ s];refine HZ hr (by omega) (fun i cO hk=>?_) (fun i k hik qO hki hkk hlk=>?_)
   ·by_cases fX:i=j
    ·subst fX;exact .inl ⟨fun h=>by omega,fun _=>hlf⟩
    by_cases cB:i<j
    ·rcases T.ord i j _ o cB (Array.getElem?_eq_getElem cO) ho with h|⟨h,-⟩
     ·exact .inl ⟨fun _=>jc (L:=fun k=>listed.getD k false=true) Iu j o (by simpa using ho) VI i h,fun h=>by omega⟩
     exact .inr ((h s hk).2.2 hs)
    rcases T.ord j i o _ (by omega) ho (Array.getElem?_eq_getElem cO)with h|⟨-,h⟩
    ·refine .inl ⟨fun h=>by omega,fun _=>?_⟩;cases hli:listed.getD i false with
     |false=>rfl
     |true=>have:=jc (L:=fun k=>listed.getD k false=true) Iu i _ (by rw[Array.getElem?_toList];exact Array.getElem?_eq_getElem cO) (fun e he hb=>B6 i _ hli (Array.getElem?_eq_getElem cO) e he hb) j h;rw[hlf]at this;simp at this
    exact .inr ((h s hk).2 hs)
   rcases T.ord i k _ _ hik (Array.getElem?_eq_getElem (by omega)) (Array.getElem?_eq_getElem qO)with h|⟨h,-⟩
   ·exact jc (L:=fun k=>listed.getD k false=true) Iu k _ (by rw[Array.getElem?_toList];exact Array.getElem?_eq_getElem qO) (fun e he hb=>B6 k _ hlk (Array.getElem?_eq_getElem qO) e he hb) i h
   exact absurd hkk (h s hki).2.1
  obtain⟨bp,res,kn,Yz,yU⟩:=T.step j o ho;have VL:dN P τ ops o res=some (kg j,kn):=by rw[E3 (fun s hs=>Zj s (.inl hs)) hhd];exact Yz
  obtain⟨τ',r1,r2,r3⟩:=nW (kg j) (τ:=τ) (fun s hs=>Zj s (.inr hs)) bp;unfold wpOpIn;rw[ho];have key:=yj (ops:=ops) (o:=o) (K:=wpAnyIn (FW V.rd) 0 P .any ops Q fuel (listed.setIfInBounds j true)) (Q:=Q) hG hi (T.flat j o ho) VL r1 yU ?_
  ·show if _ then _ else _;split
   ·rename_i hw;rw[if_pos hw]at key;exact key
   rename_i hw;rw[if_neg hw]at key;exact⟨fun _ _=>trivial,key⟩
  intro a' w' cO;have cR:∀i,i≠j->(listed.setIfInBounds j true).getD i false=listed.getD i false:=fun i fX=>getD_set_ne false (fun e=>fX e.symm);have jk:(listed.setIfInBounds j true).getD j false=true:=by simp[Array.getD,ct,R7]
  refine ih _ (todo.erase j) τ' a' w' (by simpa using ct) ?_ (AG.erase j) (fun i VW hh=>?_) (fun k o' hk JX e he hb=>?_) (fun s=>?_) cO
  ·have:=JR j R7 hl;rw[List.length_erase_of_mem this];omega
  ·have fX:i≠j:=by
    rintro rfl;simp[Array.getD,ct,R7]at hh
   rw[List.Nodup.mem_erase_iff AG];refine⟨fX,JR i VW ?_⟩;have:=getD_set_ne (listed:=listed) true (fun e=>fX e.symm:j≠i);rw[this]at hh;exact hh
  ·by_cases hkj:k=j
   ·subst hkj;rw[ho]at JX;simp only[Option.some.injEq]at JX;subst JX;exact getD_set_true (VI e he hb)
   rw[cR k hkj]at hk;exact getD_set_true (B6 k o' hk JX e he hb)
  by_cases hs:s∈aN (kg j)
  ·rw[r2 s hs];symm;refine yx hr (by omega) fun i VW hk=>?_;by_cases fX:i=j
   ·subst fX;exact⟨fun _=>jk,fun h=>by omega⟩
   have:=OQ s (.inr hs) i VW fX hk;rw[cR i fX];exact⟨fun h=>this.1 (by omega),fun h=>this.2 (by omega)⟩
  rw[r3 s hs,hτ s];exact(BN (fun i fX=>cR i fX) hs _).symm
theorem aK.drew{B:Nat->Prop}{F:Nat->List Nat}{T:Nat->Value}(h:aK S B σ T w F):aK S B σ T {w with drawn:=w.drawn+1} F:=
 h.step (w':={w with drawn:=w.drawn+1}) (S':=S) ⟨fun _=>Nat.le_refl _,fun _=>Nat.le_refl _,fun _ _=>rfl,fun _ _ _=>⟨fun _ y hy=>⟨y,hy⟩,fun _ _=>rfl⟩⟩ (fun _ h=>h)
  (fun _=>.inl ⟨rfl,rfl,rfl,fun _ _=>rfl⟩) h.nodup h.cx h.own h.shr
theorem Inv.drew(h:Inv N V w0 S0 σ a w):Inv N V w0 S0 σ a {w with drawn:=w.drawn+1}:=by obtain⟨S,F,hc,hN,ig,jl,gw,cU⟩:=h;exact⟨S,F,hc.drew,hN,ig,jl,gw,⟨cU.os,cU.tape,cU.output,cU.size,cU.block⟩⟩
theorem Bj{id:Nat}{K:St->Prop}(hm:P.follows .mixedOrders=true)(bj:ops.toList.all (fO N)=true)(R6:lower ops.toList=true){mm:List Nat}(TS:pE ops.toList []=mm)
 (h:p8 P ops ops.toList σ [] fun Le σ'=>apart mm Le ops.size=true/\K σ'):AW R P N (.region id ops true) (fun e σ'=>e=.normal/\K σ') σ:=by
 intro V w0 S0 a w hR hi;refine wpIn_region_any hm ?_;obtain⟨σs,rs,kg,kn,R,e0,e1,⟨e2,e3⟩,e4⟩:=p8.spec _ _ _ _ h;simp only[List.reverse_nil,List.nil_append,Array.length_toList]at e1 e2 e3;have hT:Told P N ops σs kg:=by
  refine⟨fun k o ho=>?_,fun k o ho=>?_,fun k o ho e he hb=>?_,fun i j oi oj fX hoi Xg=>?_⟩
  ·exact List.all_eq_true.1 bj o (by have:=Array.mem_of_getElem? ho;simpa using this)
  ·obtain⟨h1,h2,h3,-⟩:=e4 k o (by simpa using ho);exact⟨h3,_,_,h1,h2⟩
  ·unfold lower at R6;have hk:=(Array.getElem?_eq_some_iff.1 ho).1;have:=List.all_eq_true.1 R6 k (by simpa using hk);rw[Array.getElem?_toList,ho]at this;simp only[Option.map_some,Option.getD_some,List.all_eq_true,Bool.or_eq_true,Bool.not_eq_true',decide_eq_true_eq]at this;rcases this e (by simpa using he)with h|h
   ·rw[hb]at h;simp at h
   exact h
  have hj:=(Array.getElem?_eq_some_iff.1 Xg).1;unfold apart at e2;have h1:=List.all_eq_true.1 e2 j (by simpa using hj);have h2:=List.all_eq_true.1 h1 i (by simpa using fX);obtain⟨-,-,-,r1⟩:=e4 i oi (by simpa using hoi);obtain⟨-,-,-,r2⟩:=e4 j oj (by simpa using Xg);rw[Bool.or_eq_true]at h2;rw[TS];rcases h2 with h2|h2
  ·exact .inl h2
  rw[List.getD_eq_getElem?_getD,List.getD_eq_getElem?_getD,r1,r2]at h2;obtain⟨i1,i2⟩:=Ih h2;obtain⟨p1,-,p3,-⟩:=e4 i oi (by simpa using hoi);obtain⟨u1,-,u3,-⟩:=e4 j oj (by simpa using Xg);exact .inr ⟨fun s hs=>⟨(i1 s hs).1,(i1 s hs).2.1,fun h=>Cc ((i1 s hs).2.2 h) p1 p3⟩,fun s hs=>⟨(i2 s hs).1,fun h=>Cc ((i2 s hs).2 h) u1 u3⟩⟩
 refine Ht (w0:=w0) (S0:=S0) hR.2 hT (fun a' w' cO=>⟨_,⟨rfl,e3⟩,cO.x⟩) ops.size _ (List.range ops.size) σ a _ (by simp) (by simp) List.nodup_range (fun i cO _=>by simpa using cO) (fun j o hj=>?_) (fun s=>?_) hi.drew
 ·simp[Array.getD]at hj
 have:∀n,merge σs kg (fun i=>(Array.replicate ops.size false).getD i false) s n=σs 0 s:=by
  intro n
  induction n with
  |zero=>rfl
  |succ n ih=>unfold merge;rw[if_neg (fun hh=>?_),ih];have:=hh.1;simp[Array.getD]at this
 rw[this,e0]
end
section
variable{R:Option Nat->Prop}{P:Program}{N:Nat}{w0 w w':World}{V:Hid}{S S0 S':Nat->Prop}{σ σ' τ:St}{a:Act}{Q Q':Exit->St->Prop}
theorem iI{P:Program}{b:Frame}{a:Act}{k:List Item}{cs:List Frame}{w:World}{c:Code}:step P (lone (b.atR a (.code (.scope c)::k)) cs w)=.next (lone (b.atR a (.code c::.inScope c::k)) cs w):=step_lone_go (by simp[stepG,stepG.exec,Frame.atR])
theorem AI{P:Program}{b:Frame}{a:Act}{k:List Item}{cs:List Frame}{w:World}{c:Code}:step P (lone (b.atR a (.inScope c::k)) cs w)=.next (lone (b.atR a k) cs w):=step_lone_go (by simp[stepG,stepG.exec,Frame.atR])
theorem qI{F:Fence}{n:Nat}{P:Program}{Q:Exit->Act->World->Prop}{a:Act}{w:World}{c:Code}(h:c.wpIn F n P (Exit.noGoto Q) a w):(Code.scope c).wpIn F n P Q a w:=by
 intro b k cs Xd hb hr;have h0:(lone (b.atR a (.code (.scope c)::k)) cs w).fenced P F:=fenced_calm hb hr rfl;obtain⟨e,a₁,w₁,hq,me⟩:=h b (.inScope c::k) cs Xd hb hr;cases e with
 |normal=>exact⟨.normal,a₁,w₁,hq,.head h0 iI (StepsIn.trans me (.one (fenced_calm hb hr rfl) AI))⟩
 |exit id=>
  have hx:exitTo id (.inScope c::k)=exitTo id k:=by simp[exitTo]
  exact⟨.exit id,a₁,w₁,hq,fun k' hk=>.head h0 iI (me.1 k' (by rw[hx];exact hk)),fun pc hk=>let⟨k₁,h1,h2⟩:=me.2 pc (by rw[hx];exact hk);⟨k₁,h1,.head h0 iI h2⟩⟩
 |goto l=>exact hq.elim
 |ret=>exact⟨_,a₁,w₁,hq,.of_steps (.one h0 iI) me⟩
 |panic ch=>exact⟨_,a₁,w₁,hq,.of_steps (.one h0 iI) me⟩
 |outgrown=>exact⟨_,a₁,w₁,hq,.of_steps (.one h0 iI) me⟩
theorem gP{c:Code}(h:AW R P N c Q σ)(hq:∀e σ',Q e σ'->Q' e σ'):AW R P N c Q' σ:=fun V w0 S0 a w hR hi=>wpIn_mono (h V w0 S0 a w hR hi) fun _ _ _⟨σ',h1,h2⟩=>⟨σ',hq _ _ h1,h2⟩
def XM(R:Option Nat->Prop)(P:Program)(N:Nat)(c:Code)(Q:Exit->St->Prop):Exit->St->Prop
 |.normal,σ=>AW R P N c Q σ
 |e,σ=>Q e σ
theorem P7{x y:Code}(h:AW R P N x (XM R P N y Q) σ):AW R P N (.seq x y) Q σ:=fun V w0 S0 a w hR hi=>
 wpIn_seq (wpIn_mono (h V w0 S0 a w hR hi) fun e a' w'⟨σ',h1,h2⟩=>by
  cases e with
  |normal=>exact h1.x hR h2
  |_=>exact⟨σ',h1,h2⟩)
theorem Tb(h:Q .normal σ):AW R P N .skip Q σ:=fun _ _ _ _ _ _ hi=>wpIn_skip ⟨σ,h,hi.x⟩
theorem Qa{l:Nat}(h:Q .normal σ):AW R P N (.label l) Q σ:=fun _ _ _ _ _ _ hi=>wpIn_label ⟨σ,h,hi.x⟩
theorem Td{id:Nat}(h:Q (.exit id) σ):AW R P N (.exit id) Q σ:=fun _ _ _ _ _ _ hi=>wpIn_exit ⟨σ,h,hi.x⟩
theorem WS(h:Q .ret σ):AW R P N .ret Q σ:=fun _ _ _ _ _ _ hi=>wpIn_ret ⟨σ,h,hi.x⟩
theorem D3{c:Operand}{x y:Code}{t:Bool}(hf:aE c=true)(hc:(resolve σ c).cont=some (.v (.bool t)))(h:AW R P N (if t then x else y) Q σ):AW R P N (.cond c x y) Q σ:=fun V w0 S0 a w hR hi=>wpIn_cond (t:=t) (by obtain⟨S,F,gL,-⟩:=id hi;exact cv gL c hf hc) (h V w0 S0 a w hR hi)
def FL(id:Nat)(Q:Exit->St->Prop):Exit->St->Prop
 |.exit OI,σ=>if OI=id then Q .normal σ else Q (.exit OI) σ
 |e,σ=>Q e σ
theorem Qb{id:Nat}{c:Code}(h:AW R P N c (FL id Q) σ):AW R P N (.block id c) Q σ:=fun V w0 S0 a w hR hi=>
 wpIn_block (wpIn_mono (h V w0 S0 a w hR hi) fun e a' w'⟨σ',h1,h2⟩=>by
  cases e with
  |exit OI=>simp only[Exit.inBlock,FL]at h1⊢;split<;>rename_i hh<;>simp only[hh,if_true,if_false]at h1<;>exact⟨σ',h1,h2⟩
  |_=>exact⟨σ',h1,h2⟩)
def RC(Q:Exit->St->Prop):Exit->St->Prop
 |.goto _,_=>False
 |e,σ=>Q e σ
theorem P8{c:Code}(h:AW R P N c (RC Q) σ):AW R P N (.scope c) Q σ:=fun V w0 S0 a w hR hi=>
 qI (wpIn_mono (h V w0 S0 a w hR hi) fun e a' w'⟨σ',h1,h2⟩=>by
  cases e with
  |goto l=>exact h1
  |_=>exact⟨σ',h1,h2⟩)
def UT(I:Nat->St->Prop)(n:Nat)(Q:Exit->St->Prop):Exit->St->Prop
 |.normal,σ=>∃m,m<n/\I m σ
 |e,σ=>Q e σ
theorem Tc{c:Code}(I:Nat->St->Prop){n:Nat}(h0:I n σ)(round:∀n σ,I n σ->AW R P N c (UT I n Q) σ):AW R P N (.loop c) Q σ:=by
 intro V w0 S0 a w hR hi b k cs Xd hb hr;have key:∀n σ a w,I n σ->kM N V w0 S0 σ a w->
  ∃e a' w',(∃σ',Q e σ'/\kM N V w0 S0 σ' a' w')/\ArrivesIn (Machine.fenced P (FW V.rd)) P (lone (b.atR a (.code c::.inLoop c::k)) cs w) b k cs e a' w':=by
  intro n
  induction n using Nat.strongRecOn with
  |_ n ih=>
   intro σ a w hI hi;obtain⟨e,a₁,w₁,⟨σ₁,hq,nz⟩,me⟩:=(round n σ hI).x hR hi b (.inLoop c::k) cs Xd hb hr;cases e with
   |normal=>obtain⟨m,cB,Zr⟩:=hq;obtain⟨e₂,a₂,w₂,JV,ou⟩:=ih m cB σ₁ a₁ w₁ Zr nz;exact⟨e₂,a₂,w₂,JV,.of_steps (StepsIn.trans me (.one (fenced_calm hb hr rfl) stepR_inLoop)) ou⟩
   |exit id=>exact⟨_,a₁,w₁,⟨σ₁,hq,nz⟩,.pass (x:=.inLoop c) rfl (fun _ _=>.inl (by simp)) me⟩
   |goto l=>exact⟨_,a₁,w₁,⟨σ₁,hq,nz⟩,.pass (x:=.inLoop c) rfl (fun _ _=>.inl (by simp)) me⟩
   |ret=>exact⟨_,a₁,w₁,⟨σ₁,hq,nz⟩,.pass (x:=.inLoop c) rfl (fun _ _=>.inl (by simp)) me⟩
   |panic ch=>exact⟨_,a₁,w₁,⟨σ₁,hq,nz⟩,.pass (x:=.inLoop c) rfl (fun _ _=>.inl (by simp)) me⟩
   |outgrown=>exact⟨_,a₁,w₁,⟨σ₁,hq,nz⟩,.pass (x:=.inLoop c) rfl (fun _ _=>.inl (by simp)) me⟩
 obtain⟨e,a',w',hq,me⟩:=key n σ a w h0 hi.x;exact⟨e,a',w',hq,.of_steps (.one (fenced_calm hb hr rfl) stepR_loop) me⟩
theorem Cells.get:∀{xs:List AV}{vs:List Value}{F:List Nat}(i:Nat),Cells w S false xs vs F->F=[]->match xs[i]?with|some x=>∃v,vs[i]?=some v/\Rel w S x v []|none=>True
 |[],vs,F,i,h,_=>by simp
 |x::xs,vs,F,i,h,hF=>by
  simp only[Cells]at h;obtain⟨y,l',F1,F2,rfl,rfl,h3,h4,h5⟩:=h;obtain⟨rfl,rfl⟩:=List.append_eq_nil_iff.1 hF;cases i with
  |zero=>exact⟨y,rfl,h4⟩
  |succ i=>simpa using Cells.get i h5 rfl
theorem LS{args:List AV}{vs:List Value}(hV:V.df=[])(hS:∀b,S b->b<w.heap.size)(hc:Cells w S false args vs [])(hN:vs.length<=N):
 Inv N V w S (mk (entry 0 args)) {tmps:=vs.toArray++Array.replicate (N-vs.toArray.size) undef,defers:=[]} w:=by
 refine⟨S,fun _=>[],⟨fun i=>?_,fun _=>List.nodup_nil,by simp,by simp,hS⟩,by simp;omega,hV.symm,fun _ h=>h,fun _ h=>.inl h,jF.refl _ _⟩;have hg:=Cells.get i hc rfl;have he:=nB args 0 i;simp only[Nat.zero_le,if_true,Nat.sub_zero]at he;cases hx:args[i]?with
 |none=>rw[hx]at he;rw[ai.ar (by rw[he];rfl),he];simp[Rel]
 |some x=>
  rw[hx]at he hg;obtain⟨v,hv,hr⟩:=hg;rw[ai.ar (by rw[he];exact hr.plain),he];have:tv V {tmps:=vs.toArray++Array.replicate (N-vs.toArray.size) undef,defers:=[]} i=v:=by have hi:=(List.getElem?_eq_some_iff.1 hv).1;rw[sw V _ (.inr (by simp;omega))];simp only[Array.getD_eq_getD_getElem?];rw[Array.getElem?_append_left (by simpa using hi)];simp[hv]
  rw[this];exact hr
def gC(P:Program)(σ:St):List ResultVar->Option (List AV)
 |[]=>some []
 |.tmp t::rs=>if(σ t).av.plain then match gC P σ rs with
   |some xs=>some ((σ t).av::xs)
   |none=>none
  else none
 |.cell t ty::rs=>match(σ t).av with
  |.box true x=>match bE P ty with
   |some ti=>if fits ti x then match gC P σ rs with
     |some xs=>some (x::xs)
     |none=>none
    else none
   |none=>none
  |_=>none
def iq:ResultVar->Nat
 |.tmp t=>t
 |.cell t _=>t
def dG:List ResultVar->List Nat->Bool
 |[],_=>true
 |r::rs,ts=>(!ts.contains (iq r)&&Nat.blt (iq r) 1000000)&&dG rs (iq r::ts)
def lE(xs:List AV):AV:=match xs with|[x]=>x|xs=>.bC xs
def qY(ys:Array Value):Value:=if h:ys.size=1 then ys[0]else .tuple ys
def xq(tmps:Array Value):ResultVar->Sem Value
 |.tmp t=>pure (tmps.getD t undef)
 |.cell a t=>do loadVar t (←asAddr (tmps.getD a undef))
theorem x7(fn:Func)(tmps:Array Value):results fn tmps=(do let vs←fn.results.mapM (xq tmps);pure (qY vs)):=by
 unfold results qY
 congr 1
theorem n0{F:Nat->List Nat}{B:Nat->Prop}(h:aK S B σ (tv V a) w F):∀(rs:List ResultVar)(ts:List Nat){xs:List AV},dG rs ts=true->gC P σ rs=some xs->
 ∃vs F',(rs.mapM (xq a.tmps)).run P w=.ok vs w/\Cells w S false xs vs F'/\F'.Nodup/\∀b∈F',∃i,i∉ts/\i<1000000/\b∈F i
 |[],ts,xs,_,hx=>by simp only[gC,Option.some.injEq]at hx;subst hx;exact⟨[],[],by simp,by simp[Cells],by simp,by simp⟩
 |r::rs,ts,xs,hd,hx=>by
  simp only[dG,Bool.and_eq_true,Bool.not_eq_true',List.contains_eq_mem,decide_eq_false_iff_not]at hd;have yV:iq r<1000000:=Nat.le_of_ble_eq_true (show Nat.ble (iq r+1) 1000000=true from hd.1.2)
  replace hd:iq r∉ts/\dG rs (iq r::ts)=true:=⟨hd.1.1,hd.2⟩
  have key:∃y o8 v F1,gC P σ rs=some o8/\xs=y::o8/\(xq a.tmps r).run P w=.ok v w/\Rel w S y v F1/\F1.Nodup/\∀b∈F1,b∈F (iq r):=by
   cases r with
   |tmp t=>
    simp only[gC]at hx;split at hx<;>try(simp at hx;done)
    rename_i hp;split at hx<;>try(simp at hx;done)
    rename_i o8 LY;simp only[Option.some.injEq]at hx;subst hx;have hr:=h.rel t;rw[ai.ar hp]at hr;exact⟨_,o8,tv V a t,F t,LY,rfl,by rw[sw V a (i:=t) (.inl yV)];rfl,hr,h.nodup t,fun b hb=>hb⟩
   |cell t ty=>
    simp only[gC]at hx;split at hx<;>try(simp at hx;done)
    rename_i x bQ;split at hx<;>try(simp at hx;done)
    rename_i ti ga;split at hx<;>try(simp at hx;done)
    rename_i lV;split at hx<;>try(simp at hx;done)
    rename_i o8 LY;simp only[Option.some.injEq]at hx;subst hx;have hr:=h.rel t;rw[ai.ar (by rw[bQ];rfl),bQ]at hr;simp only[Rel,if_true]at hr;obtain⟨b,cs,fz,F',z,e1,e2,e3,e4,e5,e6⟩:=hr;refine⟨x,o8,z,F',LY,rfl,?_,e3,?_,?_⟩
    ·have uV:a.tmps.getD t undef=.pointer (some ⟨b,0,none⟩):=(sw V a (i:=t) (.inl yV)).symm.trans e1;have Zi:At w ⟨b,0,none⟩ z:=⟨rfl,cs,fz,e2,fun j u hu=>by rw[Nat.zero_add,<-e4];exact hu⟩;simp only[xq,uV];simp only[Sem.run_bind];have:(asAddr (.pointer (some ⟨b,0,none⟩))).run P w=.ok ⟨b,0,none⟩ w:=rfl;rw[this];simp only[Result.andThen_ok];exact lB ga Zi (j9 lV e3)
    ·have:=h.nodup t;rw[e6]at this;exact(List.nodup_cons.1 this).2
    intro c hc;simp only[iq,e6];exact List.mem_cons_of_mem _ hc
  obtain⟨y,o8,v,F1,LY,rfl,bp,eH,AG,hF⟩:=key;obtain⟨vs,F',k1,k2,k3,k4⟩:=n0 h rs (iq r::ts) hd.2 LY;refine⟨v::vs,F1++F',?_,?_,?_,?_⟩
  ·rw[List.mapM_cons];simp only[Sem.run_bind,bp,Result.andThen_ok,k1,Sem.run_pure]
  ·simp only[Cells];exact⟨_,_,_,_,rfl,rfl,by simp,eH,k2⟩
  ·rw[List.nodup_append];refine⟨AG,k3,fun b hb c hc e=>?_⟩;subst e;obtain⟨i,hi,-,hbi⟩:=k4 b hc;exact h.cx (iq r) i (fun e=>hi (by simp[e])) b (hF b hb) hbi
  intro b hb;rcases List.mem_append.1 hb with hb|hb
  ·exact⟨iq r,hd.1,yV,hF b hb⟩
  obtain⟨i,hi,cB,hbi⟩:=k4 b hb;exact⟨i,fun hm=>hi (by simp[hm]),cB,hbi⟩
def qf(x y:AV):Prop:=∀(w:World)(S:Nat->Prop)(v:Value)(F:List Nat),Rel w S x v F->Rel w S y v F
def ry(x y:AV):Prop:=∀(w:World)(S:Nat->Prop)(v:Value)(F:List Nat),Rel w S x v F->∃F1 F2,F.Perm (F1++F2)/\∀S':Nat->Prop,(∀b,S b->S' b)->(∀b∈F2,S' b)->Rel w S' y v F1
theorem ry.of_le{x y:AV}(h:qf x y):ry x y:=fun w S v F hr=>⟨F,[],by simp,fun _ hS _=>Rel.mono hS y (h w S v F hr)⟩
theorem ry.share(x:AV):ry x x.bf:=fun w S v F hr=>⟨[],F,by simp,fun _ hS hF=>Rel.share hS x hr hF⟩
def ZJ(P:Program)(rs:List ResultVar)(r:AV):Exit->St->Prop
 |.normal,σ=>∃xs,gC P σ rs=some xs/\ry (lE xs) r
 |.ret,σ=>∃xs,gC P σ rs=some xs/\ry (lE xs) r
 |_,_=>False
theorem qg.nj{f:FuncId}{fn:Func}{vs:Array Value}{R:Value->World->Prop}(hf:P.funcs[f]?=some fn)(hb:fn.body.isNone=false)(hn:(fn.name== "runtime.NumGoroutine")=false)
 (h:Calls P f vs w fun e w'=>∃v,e=.returned v/\R v w'):qg P f vs w R:=by
 intro rd o a next Q hK
 have:(callFunc f vs).run P w=.ok (.enter f vs) w:=by
  have YI:¬fn.name= "runtime.NumGoroutine":=by simpa using hn
  have dr:¬fn.body=none:=by intro h;rw[h]at hb;simp at hb
  unfold callFunc;simp[hf,dr,YI]
 rw[this];rw[Oper.uponIn_enter];refine⟨(fun h=>by cases h),I3 ?_⟩;intro cs;obtain⟨e,w',fr,⟨v,rfl,hr⟩,h2⟩:=h cs;exact⟨_,w',fr,hK v w' hr,h2⟩
def N6:Hid:={v:=fun _=>undef,g:=fun _=>False}
theorem yv{w:World}{b:Nat}(h:bW N6 w b):w.heap.size<=b:=h.elim id False.elim
theorem jF.below{w w':World}(h:jF N6 w w'):Below w.heap.size w w':=⟨h.os,h.tape,h.output,h.size,fun k hk=>h.block k hk id⟩
def Qn(ds:List Deferred)(w w':World):Prop:=w'.os=w.os/\w'.tape=w.tape/\w'.output=w.output/\w'.heap.size=w.heap.size/\∀k,w'.heap[k]?=w.heap[k]?\/({target:=.collected k,args:=#[]}∈ds/\w.heap[k]?=some (.deferred (some []))/\w'.heap[k]?=some (.deferred none))
theorem Qn.same{V:Hid}{F:Nat->List Nat}{ds:List Deferred}{w w':World}(h:Qn ds w w')(hm:Marks V w0 w S F ds){b:Nat}(hb:S b\/∃i,b∈F i):w'.heap[b]?=w.heap[b]?:=by
 rcases h.2.2.2.2 b with e|⟨e,-,-⟩
 ·exact e
 obtain⟨D,e1,-,-,k1,k2⟩:=hm.2 _ e;simp only[Deferred.mk.injEq,Target.collected.injEq,and_true]at e1;subst e1;rcases hb with hb|⟨i,hb⟩
 ·exact absurd hb k1
 exact absurd hb (k2 i)
theorem oh{F:Fence}{n:Nat}{fn:Func}{tmps:Array Value}{R:Ending->World->Prop}:∀(ds:List Deferred)(w:World),ds.Nodup->(∀d∈ds,∃D,d={target:=.collected D,args:=#[]}/\w.heap[D]?=some (.deferred (some [])))->
 (∀w',Qn ds w w'->LeavesInM F n P fn tmps R [] .returning w')->LeavesInM F n P fn tmps R ds .returning w
 |[],w,_,_,h=>h w ⟨rfl,rfl,rfl,rfl,fun _=>.inl rfl⟩
 |d::ds,w,hn,hd,h=>by
  obtain⟨D,rfl,hD⟩:=hd d (by simp);have cB:D<w.heap.size:=(Array.getElem?_eq_some_iff.1 hD).1;refine⟨by simp,.inl ⟨D,_,rfl,run_takeDeferred hD,?_⟩⟩;have cR:∀k,k≠D->(w.putObj D (.deferred none)).heap[k]?=w.heap[k]?:=fun k hk=>World.putObj_heap_other hk;have yW:(w.putObj D (.deferred none)).heap[D]?=some (.deferred none):=World.putObj_heap_same cB;rw[List.nodup_cons]at hn;refine oh ds _ hn.2 (fun d' TZ=>?_) fun w' hw=>h w' ?_
  ·obtain⟨D',rfl,hD'⟩:=hd d' (by simp[TZ]);have:D'≠D:=by rintro rfl;exact hn.1 TZ
   exact⟨D',rfl,by rw[cR D' this];exact hD'⟩
  obtain⟨s1,s2,s3,s4,s5⟩:=hw;refine⟨s1,s2,s3,by rw[s4];simp[World.putObj],fun k=>?_⟩;by_cases hk:k=D
  ·subst hk;rcases s5 k with e|⟨e,-⟩
   ·exact .inr ⟨by simp,hD,by rw[e];exact yW⟩
   exact absurd e hn.1
  rcases s5 k with e|⟨e,e1,e2⟩
  ·exact .inl (by rw[e,cR k hk])
  exact .inr ⟨by simp[e],by rw[<-cR k hk];exact e1,e2⟩
theorem aK.shut{V:Hid}{B:Nat->Prop}{F:Nat->List Nat}{T:Nat->Value}{ds:List Deferred}(h:aK S B σ T w F)(hm:Marks V w0 w S F ds)(hs:Qn ds w w'):aK S B σ T w' F:=
 h.step (w':=w') (S':=S) ⟨fun _=>Nat.le_refl _,fun _=>Nat.le_refl _,fun _ _=>rfl,fun _ _ _=>⟨fun _ y hy=>⟨y,hy⟩,fun _ h=>hs.same hm (h.imp id fun h=>⟨_,h⟩)⟩⟩ (fun _ h=>h)
  (fun _=>.inl ⟨rfl,rfl,rfl,fun _ h=>hs.same hm (h.imp id fun h=>⟨_,h⟩)⟩) h.nodup h.cx (fun i b hb=>by rw[hs.2.2.2.1];exact h.own i b hb) (fun b hb=>by rw[hs.2.2.2.1];exact h.shr b hb)
theorem jF.shut{V:Hid}{S:Nat->Prop}{F:Nat->List Nat}{ds:List Deferred}(h:jF V w0 w)(hm:Marks V w0 w S F ds)(hs:Qn ds w w'):jF V w0 w':=by
 obtain⟨s1,s2,s3,s4,s5⟩:=hs;refine⟨s1.trans h.os,s2.trans h.tape,s3.trans h.output,by rw[s4];exact h.size,fun k hk hg=>?_⟩;rcases s5 k with e|⟨e,-⟩
 ·rw[e];exact h.block k hk hg
 obtain⟨D,e1,-,e2,-⟩:=hm.2 _ e;simp only[Deferred.mk.injEq,Target.collected.injEq,and_true]at e1;omega
theorem EF{f:FuncId}{fn:Func}{c:Code}{args:List AV}{r:AV}(hf:P.funcs[f]?=some fn)(hb:fn.body=some c)(hn:(fn.name== "runtime.NumGoroutine")=false)(hlen:args.length<=fn.ntmps)
 (hd:dG fn.results.toList []=true)(h:AW R0 P fn.ntmps c (ZJ P fn.results.toList r) (mk (entry 0 args))):Sound P f args r:=by
 intro w S vs hG hS hc;have hl:=Cells.length hc;refine qg.nj hf (by rw[hb];rfl) hn ((callsIn_wide (n:=0)).1 (callsIn_of_wp_marks hf hb trivial (wpIn_mono (h N6 w S _ w ⟨rfl,hG,fun _ _ h=>h⟩ (LS rfl hS hc (by omega))) fun e a' w1⟨σ',h1,S',F,ds,V7,hN,ig,jl,gw,tg,hm⟩=>?_)));have ig:a'.defers=ds:=by rw[ig];exact List.append_nil _
 have gen:(∃xs,gC P σ' fn.results.toList=some xs/\ry (lE xs) r)->LeavesInM Fence.wide 0 P fn a'.tmps (fun e w'=>∃v,e=.returned v/\∃S' F,Below w.heap.size w w'/\(∀b,S b->S' b)/\(∀b,S' b->S b\/w.heap.size<=b)/\(∀b,S' b->b<w'.heap.size)/\Rel w' S' r v F/\F.Nodup/\∀b∈F,w.heap.size<=b/\b<w'.heap.size/\¬S' b) a'.defers .returning w1:=by
  intro gg;rw[ig];refine oh ds w1 hm.1 (fun d hd=>by obtain⟨D,k1,k2,-⟩:=hm.2 d hd;exact⟨D,k1,k2⟩) fun w' Ed=>?_;have gL:=V7.shut hm Ed;have cU:=tg.shut hm Ed;have key:(∃xs,gC P σ' fn.results.toList=some xs/\ry (lE xs) r)->∃v,(results fn a'.tmps).run P w'=.ok v w'/\∃v',Ending.returned v=.returned v'/\
   ∃S' F,Below w.heap.size w w'/\(∀b,S b->S' b)/\(∀b,S' b->S b\/w.heap.size<=b)/\(∀b,S' b->b<w'.heap.size)/\Rel w' S' r v' F/\F.Nodup/\∀b∈F,w.heap.size<=b/\b<w'.heap.size/\¬S' b:=by
   rintro⟨xs,hx,hle⟩;obtain⟨vs,F',k1,k2,k3,k4⟩:=n0 gL _ [] hd hx;have dz:∀b∈F',w.heap.size<=b/\b<w'.heap.size/\¬S' b:=fun b hb=>by obtain⟨i,-,-,hi⟩:=k4 b hb;have:=gL.own i b hi;exact⟨yv this.1,this.2⟩
   have Ik:(results fn a'.tmps).run P w'=.ok (qY vs.toArray) w':=by rw[x7,Array.mapM_eq_mapM_toList];simp only[map_eq_pure_bind,bind_assoc,pure_bind,Sem.run_bind,k1,Result.andThen_ok,Sem.run_pure]
   obtain⟨F1,F2,hp,hq⟩:=hle w' S' (qY vs.toArray) F' (by
    generalize mC:vs.toArray=ys;have Vp:vs=ys.toList:=by rw[<-mC]
    rw[Vp]at k2;unfold qY;have hlen:=Cells.length k2;simp only[Array.length_toList]at hlen;cases xs with
    |nil=>rw[dif_neg (by simp at hlen;simp[hlen])];simp only[lE,Rel];exact⟨ys,rfl,k2⟩
    |cons x xs=>cases xs with
     |nil=>
      have h1:ys.size=1:=by simpa using hlen
      rw[dif_pos h1];simp only[Cells]at k2;obtain⟨y,l',F1,F2,e1,rfl,-,k5,rfl,rfl⟩:=k2;have:ys[0]=y:=by have:ys=#[y]:=WT e1;subst this;rfl
      rw[this];simpa[lE]using k5
     |cons x' xs=>rw[dif_neg (by simp at hlen;omega)];simp only[lE,Rel];exact⟨ys,rfl,k2⟩)
   have m1:∀b∈F1,b∈F':=fun b hb=>hp.mem_iff.2 (by simp[hb]);have m2:∀b∈F2,b∈F':=fun b hb=>hp.mem_iff.2 (by simp[hb]);have hn:=List.nodup_append.1 (hp.nodup_iff.1 k3);refine⟨_,Ik,_,rfl,fun b=>S' b\/b∈F2,F1,cU.below,fun b hb=>.inl (jl b hb),?_,?_,hq _ (fun b hb=>.inl hb) (fun b hb=>.inr hb),hn.1,fun b hb=>?_⟩
   ·rintro b(hb|hb)
    ·exact(gw b hb).imp id yv
    exact .inr (dz b (m2 b hb)).1
   ·rintro b(hb|hb)
    ·exact gL.shr b hb
    exact(dz b (m2 b hb)).2.1
   have ho:=dz b (m1 b hb);refine⟨ho.1,ho.2.1,?_⟩;rintro(h|h)
   ·exact ho.2.2 h
   exact hn.2.2 b hb b h rfl
  exact key gg
 cases e with
 |normal=>exact gen h1
 |ret=>exact gen h1
 |_=>exact h1.elim
end
def W6(P:Program)(ops:Array Oper)(σ:St)(o:Oper):Option (List Mv):=
 match dN P σ ops o (.Nl .dead)with
 |some (ms,[])=>some ms
 |_=>none
def qb{α:Type}(x:Option α)(k:α->Prop):Prop:=∃a,x=some a/\k a
theorem WX{α:Type}{x y:Option α}(k:α->Prop)(h:x=y):qb x k=qb y k:=by rw[h]
@[simp] theorem nK{α:Type}(a:α)(k:α->Prop):qb (some a) k=k a:=by simp[qb]
@[simp] theorem XF{α:Type}(k:α->Prop):qb none k=False:=by simp[qb]
def B3(σ:St)(f:bo)(aas:List bo):Option (FuncId×List AV×List Mv):=
 match f.cont with
 |some (.fn (.func g) first captured)=>if bG first&&bG captured then match fk aas with
   |some ys=>some (g,first++ys++captured,shares aas)
   |none=>none
  else none
 |_=>none
def vW(d:Option Nat)(res:AV)(sh:List Mv):Option (List Mv):=
 if !res.bh then match sh with
  |[]=>some (cw d res [])
  |[m]=>some (cw d res [m])
  |_=>none
 else some (cw d res [])
def tQ(o:Oper):Option Call:=
 match o.op with
 |.call c=>match c.callee with
  |.value _=>some c
  |_=>none
 |_=>none
def xE(c:Call):Operand:=match c.callee with|.value f=>f|_=>.global 0
def Us(P:Program)(h:FuncId×List AV×List Mv)(k:AV->Prop):Prop:=∃r,Sound P h.1 h.2.1 r/\k r
def Hj(P:Program)(ops:Array Oper)(o:Oper)(σ:St)(K:List Mv->St->Prop):Prop:=∃res ms kn σ',dN P σ ops o res=some (ms,kn)/\(∀ob∈kn,ob.ok P)/\Mv.runs σ ms=some σ'/\K ms σ'
def rp(P:Program)(ops:Array Oper):List Oper->St->(St->Prop)->Prop
 |[],σ,K=>K σ
 |o::rest,σ,K=>Hj P ops o σ fun _ σ'=>rp P ops rest σ' K
def oU(P:Program)(ops:Array Oper)(o:Oper)(σ:St)(K:List Mv->St->Prop):Prop:=
 match tQ o with
 |some c=>qb (iW σ ops o) fun b=>match b with
  |true=>qb (B3 σ (resolve σ (xE c)) (c.args.toList.map (resolve σ))) fun h=>Us P h fun r=>qb (vW o.dst r h.2.2) fun ms=>qb (Mv.runs σ ms) (K ms)
  |false=>qb (Mv.runs σ (vZ o)) (K (vZ o))
 |none=>qb (W6 P ops σ o) fun ms=>qb (Mv.runs σ ms) (K ms)
def rt(P:Program)(ops:Array Oper):List Oper->St->List (List Nat×List Nat)->(List (List Nat×List Nat)->St->Prop)->Prop
 |[],σ,acc,K=>K acc.reverse σ
 |o::rest,σ,acc,K=>Hj P ops o σ fun ms σ'=>rt P ops rest σ' ((gW σ ops o,aN ms)::acc) K
section
variable{R:Option Nat->Prop}{P:Program}{N:Nat}{ops:Array Oper}{σ:St}{o:Oper}{rest:List Oper}{K:St->Prop}
theorem N2{c:Call}{res:AV}(hc:tQ o=some c):w6 P σ o res=Ak o.dst (resolve σ (xE c)) (c.args.toList.map (resolve σ)) res:=by
 unfold tQ at hc;split at hc
 ·rename_i c' bH;split at hc
  ·rename_i f hf;simp only[Option.some.injEq]at hc;subst hc;unfold w6;cases hd:o.dst<;>simp[bH,hf,xE]
  simp at hc
 simp at hc
theorem I4{d:Option Nat}{f:bo}{aas:List bo}{res:AV}{h:FuncId×List AV×List Mv}{ms:List Mv}(h1:B3 σ f aas=some h)(h2:vW d res h.2.2=some ms):Ak d f aas res=some (ms,[(h.1,h.2.1,res)]):=by
 unfold B3 at h1;unfold Ak;split at h1
 ·rename_i g first captured hf
  rw[hf];simp only;split at h1
  ·rename_i hn;rw[if_pos hn];split at h1
   ·rename_i ys hy;simp only[Option.some.injEq]at h1;subst h1;simp only[hy];unfold vW at h2;split at h2
    ·rename_i hr;simp only[hr,if_true];split at h2
     ·rename_i hs;simp only at hs;simp only[hs];simp only[Option.some.injEq]at h2;subst h2;rfl
     ·rename_i m hs;simp only at hs;simp only[hs];simp only[Option.some.injEq]at h2;subst h2;rfl
     simp at h2
    rename_i hr;simp only[hr];simp only[Option.some.injEq]at h2;subst h2;rfl
   simp at h1
  simp at h1
 simp at h1
theorem ES:∀{rest:List Oper}{σ:St}{K:St->Prop},rp P ops rest σ K->Th P ops rest σ K
 |[],σ,K,h=>h
 |o::rest,σ,K,h=>by obtain⟨res,ms,kn,σ',h1,h2,h3,h4⟩:=h;exact⟨res,ms,kn,σ',h1,h2,h3,ES h4⟩
theorem lC{K:List Mv->St->Prop}(h:oU P ops o σ K):Hj P ops o σ K:=by
 unfold oU at h;split at h
 ·rename_i c hc;obtain⟨b,hb,h⟩:=h;cases b with
  |true=>obtain⟨hd,h1,r,hs,ms,h2,σ',h3,h4⟩:=h;refine⟨.Nl r,ms,[.call (hd.1,hd.2.1,r)],σ',?_,by simpa[Ob.ok]using hs,h3,h4⟩;unfold dN;rw[hb];simp only[kl];rw[N2 hc,I4 h1 h2];rfl
  |false=>obtain⟨σ',h3,h4⟩:=h;exact⟨.Nl .dead,_,[],σ',by unfold dN;rw[hb],by simp,h3,h4⟩
 obtain⟨ms,h1,σ',h2,h3⟩:=h;unfold W6 at h1;split at h1
 ·rename_i X9 hp;simp only[Option.some.injEq]at h1;subst h1;exact⟨.Nl .dead,_,[],σ',hp,by simp,h2,h3⟩
 simp at h1
theorem EP:∀{rest:List Oper}{σ:St}{acc:List (List Nat×List Nat)}{K:List (List Nat×List Nat)->St->Prop},rt P ops rest σ acc K->p8 P ops rest σ acc K
 |[],σ,acc,K,h=>h
 |o::rest,σ,acc,K,h=>by obtain⟨res,ms,kn,σ',h1,h2,h3,h4⟩:=h;exact⟨res,ms,kn,σ',h1,h2,h3,EP h4⟩
def qL(x:Option (List Mv))(σ:St)(K:List Mv->St->Prop):Prop:=qb x fun ms=>qb (Mv.runs σ ms) (K ms)
theorem fM(hc:tQ o=none)(hg:o.guard=none){m:Option (List Mv)}(hm:∀res,w6 P σ o res=dZ m)(K:List Mv->St->Prop):oU P ops o σ K=qL m σ K:=by simp only[oU,hc,W6,dN,iW,hg,kl,hm,qL];cases m<;>simp[dZ]
theorem jJ{K:St->Prop}:rp P ops (o::rest) σ K=Hj P ops o σ fun _ σ'=>rp P ops rest σ' K:=rfl
theorem nX{acc:List (List Nat×List Nat)}{K:List (List Nat×List Nat)->St->Prop}:rt P ops (o::rest) σ acc K=Hj P ops o σ fun ms σ'=>rt P ops rest σ' ((gW σ ops o,aN ms)::acc) K:=rfl
end
section
variable{R:Option Nat->Prop}{P:Program}{ops:Array Oper}{o:Oper}{σ:St}{K:List Mv->St->Prop}{d:Nat}{ty:TypeId}{pos:String}{cF:Array Edge}{t t':TypeId}{x y z:Operand}
theorem U4:oU P ops ⟨some d,.move x,ty,pos,cF,none⟩ σ K=qL (cm d (resolve σ x)) σ K:=fM rfl rfl (fun _=>rfl) K
theorem N4:oU P ops ⟨some d,.assign x,ty,pos,cF,none⟩ σ K=qL (cN d (resolve σ x)) σ K:=fM rfl rfl (fun _=>rfl) K
theorem U5:oU P ops ⟨some d,.load t x,ty,pos,cF,none⟩ σ K=qL (pG P d t (resolve σ x)) σ K:=fM rfl rfl (fun _=>rfl) K
theorem Rv:oU P ops ⟨none,.store t x y,ty,pos,cF,none⟩ σ K=qL (rF P t (resolve σ x) (resolve σ y)) σ K:=fM rfl rfl (fun _=>rfl) K
theorem Fk{f:Nat}:oU P ops ⟨some d,.fieldAddr t x f,ty,pos,cF,none⟩ σ K=qL (iD P d t (resolve σ x) f) σ K:=fM rfl rfl (fun _=>rfl) K
theorem Ry{f:Nat}:oU P ops ⟨some d,.field t x f,ty,pos,cF,none⟩ σ K=qL (u9 P d t (resolve σ x) f) σ K:=fM rfl rfl (fun _=>rfl) K
theorem Fj:oU P ops ⟨some d,.indexAddr t x y,ty,pos,cF,none⟩ σ K=qL (eW P d t (resolve σ x) (resolve σ y)) σ K:=fM rfl rfl (fun _=>rfl) K
theorem Rx:oU P ops ⟨some d,.index t x y,ty,pos,cF,none⟩ σ K=qL (rS P d t (resolve σ x) (resolve σ y)) σ K:=fM rfl rfl (fun _=>rfl) K
theorem Lv{i:Nat}:oU P ops ⟨some d,.extract x i,ty,pos,cF,none⟩ σ K=qL (lY d (resolve σ x) i) σ K:=fM rfl rfl (fun _=>rfl) K
theorem Lw:oU P ops ⟨some d,.convert t t' x,ty,pos,cF,none⟩ σ K=qL (zY P d t t' (resolve σ x)) σ K:=fM rfl rfl (fun _=>rfl) K
theorem Rw{l h m:Option Operand}:oU P ops ⟨some d,.slice t x l h m,ty,pos,cF,none⟩ σ K=qL (nT P d t (resolve σ x) (l.map (resolve σ)) (h.map (resolve σ)) (m.map (resolve σ))) σ K:=fM rfl rfl (fun _=>rfl) K
def S7(P:Program)(d:Nat)(op:BinOp)(t:TypeId)(a b:Option AV):Option (List Mv):=
 match a,b with
 |some a,some b=>match ke P op t a b with
  |some v=>some [.put d v]
  |none=>none
 |_,_=>none
theorem X6{op:BinOp}:oU P ops ⟨some d,.binOp op t x y t',ty,pos,cF,none⟩ σ K=qL (S7 P d op t (resolve σ x).cont (resolve σ y).cont) σ K:=
 fM rfl rfl (fun res=>by
  simp only[w6,S7];cases(resolve σ x).cont with
  |none=>rfl
  |some a=>cases(resolve σ y).cont with
   |none=>rfl
   |some b=>simp only;cases ke P op t a b<;>rfl) K
def un1(d:Nat)(op:UnOp)(a:Option AV):Option (List Mv):=
 match a with
 |some (.v a)=>match UA op a with
  |some v=>some [.put d (.v v)]
  |none=>none
 |_=>none
theorem abk{op:UnOp}:oU P ops ⟨some d,.unOp op t x,ty,pos,cF,none⟩ σ K=qL (un1 d op (resolve σ x).cont) σ K:=
 fM rfl rfl (fun res=>by
  simp only[w6,un1];cases(resolve σ x).cont with
  |none=>rfl
  |some a=>cases a with
   |v w=>simp only;cases UA op w<;>rfl
   |_=>rfl) K
def E4(d:Nat)(c:Option AV)(x y:bo):Option (List Mv):=
 match c with
 |some (.v (.bool true))=>cm d x
 |some (.v (.bool false))=>cm d y
 |_=>none
theorem U3:oU P ops ⟨some d,.pick x y z,ty,pos,cF,none⟩ σ K=qL (E4 d (resolve σ x).cont (resolve σ y) (resolve σ z)) σ K:=
 fM rfl rfl (fun res=>by
  simp only[w6,E4];cases hc:(resolve σ x).cont with
  |none=>rfl
  |some a=>cases a with
   |v w=>cases w with
    |bool b=>cases b<;>rfl
    |_=>rfl
   |_=>rfl) K
theorem Lx{b:Builtin}{aas:Array Operand}{ts:Array TypeId}:oU P ops ⟨some d,.call ⟨.builtin b,aas,ts⟩,ty,pos,cF,none⟩ σ K=qL (iF P d b ts.toList (aas.toList.map (resolve σ))) σ K:=fM rfl rfl (fun _=>rfl) K
theorem U6{dst:Option Nat}{f:Operand}{aas:Array Operand}{ts:Array TypeId}:oU P ops ⟨dst,.call ⟨.value f,aas,ts⟩,ty,pos,cF,none⟩ σ K=
 qb (B3 σ (resolve σ f) (aas.toList.map (resolve σ))) fun h=>Us P h fun r=>qL (vW dst r h.2.2) σ K:=by
 simp only[oU,tQ,iW,xE,nK,qL]
def Su(d:Nat)(x:Option (AV×List Nat))(f:AV->Option AV):Option (List Mv):=
 match x with
 |some (y,M)=>match f y with
  |some z=>some [.make M d z]
  |none=>none
 |none=>none
theorem RA:oU P ops ⟨some d,.alloc t,ty,pos,cF,none⟩ σ K=qL (match bE P t with|some ti=>some [.make [] d (.box true ti.zero)]|none=>none) σ K:=fM rfl rfl (fun res=>by simp only[w6];cases bE P t<;>rfl) K
theorem X5:oU P ops ⟨some d,.box t x,ty,pos,cF,none⟩ σ K=qL (match bE P t with|some ti=>Su d (c6 (resolve σ x)) fun y=>if fits ti y then some (.box true y)else none|none=>none) σ K:=
 fM rfl rfl (fun res=>by
  simp only[w6];cases bE P t with
  |none=>rfl
  |some ti=>
   simp only[Su];cases c6 (resolve σ x)with
   |none=>rfl
   |some p=>simp only;split<;>rfl) K
theorem C7{n:Nat}{ps:Array (Nat×Operand)}:oU P ops ⟨some d,.buildSlice t n ps,ty,pos,cF,none⟩ σ K=qL (match cG P t with
 |some e=>match bE P e with
  |some ti=>match dX (ps.toList.map fun p=>resolve σ p.2)with
   |some (ys,M)=>if(ps.toList.map (·.1)=List.range n)/\(ys.all (fits ti))/\n*ti.size<=2^24/\n<=maxLen then some [.make M d (.list .own ti.size ys)]else none
   |none=>none
  |none=>none
 |none=>none) σ K:=
 fM rfl rfl (fun res=>by
  simp only[w6];cases cG P t with
  |none=>rfl
  |some e=>simp only;cases bE P e with
   |none=>rfl
   |some ti=>simp only;cases dX (ps.toList.map fun p=>resolve σ p.2)with
    |none=>rfl
    |some q=>simp only;split<;>rfl) K
theorem Rz{ps:Array (Nat×Operand)}:oU P ops ⟨some d,.build t ps,ty,pos,cF,none⟩ σ K=qL (match bE P t with
 |some ti=>match ti.zero with
  |.agg z=>match placesOf P t with
   |some pl=>match dX (ps.toList.map fun p=>resolve σ p.2)with
    |some (ys,M)=>match pO pl z ((ps.toList.map (·.1)).zip ys)with
     |some cs=>some [.make M d (.agg cs)]
     |none=>none
    |none=>none
   |none=>none
  |_=>none
 |none=>none) σ K:=
 fM rfl rfl (fun res=>by
  simp only[w6];cases bE P t with
  |none=>rfl
  |some ti=>simp only;cases ti.zero with
   |agg z=>simp only;cases placesOf P t with
    |none=>rfl
    |some pl=>simp only;cases dX (ps.toList.map fun p=>resolve σ p.2)with
     |none=>rfl
     |some q=>simp only;cases pO pl z ((ps.toList.map (·.1)).zip q.1)<;>rfl
   |_=>rfl) K
def m1(x:Option (List Mv×List Uq)):Option (List Mv):=match x with
 |some (ms,[])=>some ms
 |_=>none
@[simp] theorem yE(x:Option (List Mv)):m1 (dZ x)=x:=by cases x<;>rfl
theorem HL(hc:tQ o=none)(hg:o.guard=none)(K:List Mv->St->Prop):oU P ops o σ K=qL (m1 (w6 P σ o .dead)) σ K:=by
 have e:W6 P ops σ o=m1 (w6 P σ o .dead):=by
  simp only[W6,dN,iW,hg,kl];cases w6 P σ o .dead with
  |none=>rfl
  |some q=>obtain⟨ms,kn⟩:=q;cases kn<;>rfl
 simp only[oU,hc,e,qL]
theorem Fh:oU P ops ⟨some d,.makeSlice t x y,ty,pos,cF,none⟩ σ K=qL (m1 (match cG P t with
 |some e=>match bE P e with
  |some ti=>match(resolve σ x).cont,(resolve σ y).cont with
   |some (.v (.int _ a)),some (.v (.int _ b))=>if 0<=a/\a<=b/\b*ti.bytes<=140737488355328/\b<=maxLen/\0<ti.size then
     some ([.make [] d (.list .own ti.size (List.replicate a.toNat ti.zero))],[])else none
   |_,_=>none
  |none=>none
 |none=>none)) σ K:=HL rfl rfl K
theorem HU:oU P ops ⟨some d,.nilCheck x,ty,pos,cF,none⟩ σ K=qL (m1 (match(resolve σ x).cont with
 |some (.box _ _)=>dZ (cm d (resolve σ x))
 |some (.fn (.func _) _ _)=>dZ (cm d (resolve σ x))
 |_=>match(resolve σ x).sl.av with
  |.ptr .. =>match(resolve σ x).addr with
   |some _=>dZ (cm d (resolve σ x))
   |none=>none
  |_=>none)) σ K:=HL rfl rfl K
theorem HV{f:Fn}{a b:Array Operand}:oU P ops ⟨some d,.makeFunc f a b,ty,pos,cF,none⟩ σ K=qL (m1 (match fk (a.toList.map (resolve σ)),fk (b.toList.map (resolve σ))with
 |some a',some c=>if(shares (a.toList.map (resolve σ)++b.toList.map (resolve σ))).isEmpty then some ([.put d (.fn f a' c)],[])else none
 |_,_=>none)) σ K:=HL rfl rfl K
theorem C6{dst:Option Nat}{op:Op}{j:Nat}{b:Bool}:oU P ops ⟨dst,op,ty,pos,cF,some (j,b)⟩ σ K=
 qb (iW σ ops ⟨dst,op,ty,pos,cF,some (j,b)⟩) fun
  |true=>oU P ops ⟨dst,op,ty,pos,cF,none⟩ σ K
  |false=>qL (some (vZ ⟨dst,op,ty,pos,cF,none⟩)) σ K:=by
 unfold oU;have e:tQ ⟨dst,op,ty,pos,cF,some (j,b)⟩=tQ ⟨dst,op,ty,pos,cF,none⟩:=rfl;have e3:(σ:St)->(res:AV)->w6 P σ ⟨dst,op,ty,pos,cF,some (j,b)⟩ res=w6 P σ ⟨dst,op,ty,pos,cF,none⟩ res:=fun _ _=>rfl;rw[e];cases tQ ⟨dst,op,ty,pos,cF,none⟩with
 |some c=>
  simp only;cases iW σ ops ⟨dst,op,ty,pos,cF,some (j,b)⟩with
  |none=>simp
  |some b=>cases b<;>simp[iW,qL,vZ]
 |none=>
  simp only[W6,dN,kl,e3];cases hw:iW σ ops ⟨dst,op,ty,pos,cF,some (j,b)⟩with
  |none=>simp
  |some b=>cases b<;>simp[iW,qL,vZ]
end
abbrev bw:=List UInt8
def bs(l:bw):ByteArray:=⟨l.toArray⟩
theorem MB(s:ByteArray):bs s.data.toList=s:=by cases s;simp[bs]
inductive SV:Type 1
 |n (k:IntKind) (a:Int)
 |b (x:Bool)
 |u (x:Bool)
 |s (x:bw)
 |c (x:Value)
 |nil
 |ints (k:IntKind) (own:Bool) (xs:List Int)
 |dH (k:IntKind) (xs:List Int)
 |strs (own:Bool) (xs:List bw)
 |bB (own:Bool) (xs:List Bool)
 |cJ (own:Bool) (sz:Nat) {α:Type} (d:α) (e:α->SV) (xs:List α)
 |row (own:Bool) (sz:Nat) (xs:List SV)
 |agg (xs:List SV)
 |bC (xs:List SV)
 |box (own:Bool) (x:SV)
 |fn (f:Fn) (first captured:List SV)
 |bg (r g1 g2:Nat) (p:Path)
 |ptr (r g1 g2:Nat) (p:Path)
 |hole
 |dead
 |pv (C:Value->Prop)
 |abs (J:World->(Nat->Prop)->List Nat->Prop)
 |dY (g:FuncId) (aW:List (Nat×Nat))
 |mp (K:Obj->Prop)
abbrev SV.i(a:Int):SV:=.n .i64 a
def ZE:List Int->Fl
 |[]=>.nil
 |_::_=>.shr
def XO:List Int->Nat
 |[]=>0
 |_::_=>1
def fl:Bool->Fl
 |true=>.own
 |false=>.shr
mutual
def SV.den:SV->AV
 |.n k a=>.v (.int k a)
 |.b x=>.v (.bool x)
 |.u x=>.v (.bool x)
 |.s x=>.v (.string (bs x))
 |.c x=>.v x
 |.nil=>.list .nil 0 []
 |.ints k own xs=>.list (fl own) 1 (xs.map fun a=>.v (.int k a))
 |.dH k xs=>.list (ZE xs) (XO xs) (xs.map fun a=>.v (.int k a))
 |.strs own xs=>.list (fl own) 1 (xs.map fun a=>.v (.string (bs a)))
 |.bB own xs=>.list (fl own) 1 (xs.map fun a=>.v (.bool a))
 |.cJ own sz _ e xs=>.list (fl own) sz (xs.map fun x=>(e x).den)
 |.row own sz xs=>.list (fl own) sz (an xs)
 |.agg xs=>.agg (an xs)
 |.bC xs=>.bC (an xs)
 |.box own x=>.box own x.den
 |.fn f a c=>.fn f (an a) (an c)
 |.bg r g1 g2 p=>.bg r g1 g2 p
 |.ptr r g1 g2 p=>.ptr r g1 g2 p
 |.hole=>.hole
 |.dead=>.dead
 |.pv C=>.pv C
 |.abs J=>.abs J
 |.dY g aW=>.dY g aW
 |.mp K=>.mp K
def an:List SV->List AV
 |[]=>[]
 |x::xs=>x.den::an xs
end
theorem bx:∀xs:List SV,an xs=xs.map SV.den
 |[]=>rfl
 |x::xs=>by simp[an,bx xs]
theorem bt(xs:List SV):(an xs).length=xs.length:=by simp[bx]
theorem gH(xs:List SV)(i:Nat):(an xs)[i]?=xs[i]?.map SV.den:=by simp[bx]
structure Pd where
 p:Prop
 b:Bool
 h:b=true->p
instance(p:Prop)[Decidable p]:CoeDep Prop p Pd:=⟨⟨p,decide p,of_decide_eq_true⟩⟩
abbrev Pd.of(p:Prop):Pd:=⟨p,false,Bool.noConfusion⟩
def ae:List Pd->Prop
 |[]=>True
 |⟨p,_,_⟩::l=>p/\ae l
def app:List Pd->List Pd->List Pd
 |[],l=>l
 |p::l,m=>p::app l m
theorem aJ:∀{l m:List Pd},ae (app l m)↔ae l/\ae m
 |[],m=>by simp[app,ae]
 |p::l,m=>by simp[app,ae,aJ (l:=l),and_assoc]
def nth{α:Type _}:List α->Nat->Option α
 |[],_=>none
 |x::_,0=>some x
 |_::l,n+1=>nth l n
theorem ko{α:Type _}:∀(l:List α)(i:Nat),nth l i=l[i]?
 |[],i=>by simp[nth]
 |x::l,0=>by simp[nth]
 |x::l,n+1=>by simp[nth,ko l n]
def len{α:Type _}:List α->Nat
 |[]=>0
 |_::l=>len l+1
theorem dA{α:Type _}:∀l:List α,len l=l.length
 |[]=>rfl
 |x::l=>by simp[len,dA l]
def Nh{α:Type _}:List α->Nat->List α
 |[],_=>[]
 |_::_,0=>[]
 |x::l,n+1=>x::Nh l n
theorem rD{α:Type _}:∀(l:List α)(n:Nat),Nh l n=l.take n
 |[],n=>by simp[Nh]
 |x::l,0=>by simp[Nh]
 |x::l,n+1=>by simp[Nh,rD l n]
def PF{α:Type _}:List α->Nat->List α
 |[],_=>[]
 |x::l,0=>x::l
 |_::l,n+1=>PF l n
theorem se{α:Type _}:∀(l:List α)(n:Nat),PF l n=l.drop n
 |[],n=>by simp[PF]
 |x::l,0=>by simp[PF]
 |x::l,n+1=>by simp[PF,se l n]
def put{α:Type _}:List α->Nat->α->List α
 |[],_,_=>[]
 |_::l,0,y=>y::l
 |x::l,n+1,y=>x::put l n y
theorem put_eq{α:Type _}:∀(l:List α)(n:Nat)(y:α),put l n y=l.set n y
 |[],n,y=>by simp[put]
 |x::l,0,y=>by simp[put]
 |x::l,n+1,y=>by simp[put,put_eq l n y]
def cat{α:Type _}:List α->List α->List α
 |[],m=>m
 |x::l,m=>x::cat l m
theorem ee{α:Type _}:∀(l m:List α),cat l m=l++m
 |[],m=>rfl
 |x::l,m=>by simp[cat,ee l m]
def eX:SV->Path->Option (List Pd×SV)
 |x,[]=>some ([],x)
 |x,s::p=>
  match s with
  |.idx i sz=>match x with
   |.ints k _ xs=>match p,Nat.beq sz 1 with
    |[],true=>some ([i<xs.length],.n k (xs.getD i 0))
    |_,_=>none
   |.strs _ xs=>match p,Nat.beq sz 1 with
    |[],true=>some ([i<xs.length],.s (xs.getD i []))
    |_,_=>none
   |.bB _ xs=>match p,Nat.beq sz 1 with
    |[],true=>some ([i<xs.length],.u (xs.getD i false))
    |_,_=>none
   |.cJ _ fe d e xs=>match Nat.beq fe sz with
    |true=>match eX (e (xs.getD i d)) p with
     |some (ob,y)=>some ((i<xs.length)::ob,y)
     |none=>none
    |false=>none
   |.row _ fe xs=>match Nat.beq fe sz with
    |true=>match nth xs i with
     |some x=>eX x p
     |none=>none
    |false=>none
   |_=>none
  |.deref=>match x with
   |.box _ x=>eX x p
   |_=>none
  |.at o none=>match x with
   |.agg xs=>match nth xs o with
    |some x=>eX x p
    |none=>none
   |_=>none
  |.at o (some n)=>match x with
   |.agg xs=>match Nat.ble (o+n) (len xs)with
    |true=>eX (.agg (Nh (PF xs o) n)) p
    |false=>none
   |_=>none
  |.bC i=>match x with
   |.bC xs=>match nth xs i with
    |some x=>eX x p
    |none=>none
   |_=>none
  |.jI .. =>none
theorem bI:∀{p:Path}{x y:SV}{ob:List Pd},eX x p=some (ob,y)->ae ob->a6 x.den p=some y.den
 |[],x,y,ob,h,_=>by simp only[eX,Option.some.injEq,Prod.mk.injEq]at h;simp[a6,h.2]
 |s::p,x,y,ob,h,hc=>by
  cases s with
  |idx i sz=>
   cases x with
   |ints k o xs=>
    cases p with
    |cons _ _=>simp[eX]at h
    |nil=>
     simp only[eX]at h;split at h<;>try simp at h
     rename_i ct;obtain⟨rfl,rfl⟩:=h;have ct:=Nat.eq_of_beq_eq_true ct;subst ct;simp only[ae,and_true]at hc;simp[SV.den,a6,List.getElem?_eq_getElem hc,List.getD_eq_getElem?_getD]
   |strs o xs=>
    cases p with
    |cons _ _=>simp[eX]at h
    |nil=>
     simp only[eX]at h;split at h<;>try simp at h
     rename_i ct;obtain⟨rfl,rfl⟩:=h;have ct:=Nat.eq_of_beq_eq_true ct;subst ct;simp only[ae,and_true]at hc;simp[SV.den,a6,List.getElem?_eq_getElem hc,List.getD_eq_getElem?_getD]
   |bB o xs=>
    cases p with
    |cons _ _=>simp[eX]at h
    |nil=>
     simp only[eX]at h;split at h<;>try simp at h
     rename_i ct;obtain⟨rfl,rfl⟩:=h;have ct:=Nat.eq_of_beq_eq_true ct;subst ct;simp only[ae,and_true]at hc;simp[SV.den,a6,List.getElem?_eq_getElem hc,List.getD_eq_getElem?_getD]
   |cJ o fe d e xs=>
    simp only[eX]at h;split at h<;>try simp at h
    rename_i ct;have ct:=Nat.eq_of_beq_eq_true ct;split at h<;>try simp at h
    rename_i c9 y' hg;obtain⟨rfl,rfl⟩:=h;simp only[ae]at hc;have:=bI hg hc.2;simp only[SV.den,a6,ct,if_true,List.getElem?_map,List.getElem?_eq_getElem hc.1,Option.map_some,Option.bind_some];simpa[List.getD_eq_getElem?_getD,List.getElem?_eq_getElem hc.1]using this
   |row o fe xs=>
    simp only[eX]at h;split at h<;>try simp at h
    rename_i ct;have ct:=Nat.eq_of_beq_eq_true ct;split at h<;>try simp at h
    rename_i x hx;have:=bI h hc;rw[ko]at hx;simp only[SV.den,a6,ct,if_true,gH,hx,Option.map_some,Option.bind_some];exact this
   |_=>simp[eX]at h
  |deref=>
   cases x with
   |box o x=>simp only[eX]at h;simp only[SV.den,a6];exact bI h hc
   |_=>simp[eX]at h
  | «at» o m=>
    cases m with
    |none=>
     cases x with
     |agg xs=>
      simp only[eX]at h;split at h<;>try simp at h
      rename_i x hx;rw[ko]at hx;simp only[SV.den,a6,gH,hx,Option.map_some,Option.bind_some];exact bI h hc
     |_=>simp[eX]at h
    |some n=>
     cases x with
     |agg xs=>
      simp only[eX]at h;split at h<;>try simp at h
      rename_i hb;have hb:=Nat.le_of_ble_eq_true hb;rw[dA]at hb;have:=bI h hc;simp only[SV.den,rD,se,bx,List.map_take,List.map_drop]at this;simp only[SV.den,a6,bt,hb,if_true];simpa[bx]using this
     |_=>simp[eX]at h
  |bC i=>
   cases x with
   |bC xs=>
    simp only[eX]at h;split at h<;>try simp at h
    rename_i x hx;rw[ko]at hx;simp only[SV.den,a6,gH,hx,Option.map_some,Option.bind_some];exact bI h hc
   |_=>simp[eX]at h
  |jI sz o n=>simp[eX]at h
def pH(a b:IntKind):Bool:=match decEq a b with
 |isTrue _=>true
 |isFalse _=>false
theorem kV{a b:IntKind}(h:pH a b=true):a=b:=by
 unfold pH at h;split at h
 ·assumption
 simp at h
def ji:SV->Path->SV->Option (List Pd×SV)
 |_,[],y=>some ([],y)
 |x,s::p,y=>
  match s with
  |.idx i sz=>match x with
   |.ints k true xs=>match p,Nat.beq sz 1,y with
    |[],true,.n k' a=>match pH k k' with
     |true=>some ([i<xs.length],.ints k true (xs.set i a))
     |false=>none
    |_,_,_=>none
   |.strs true xs=>match p,Nat.beq sz 1,y with
    |[],true,.s a=>some ([i<xs.length],.strs true (xs.set i a))
    |_,_,_=>none
   |.bB true xs=>match p,Nat.beq sz 1,y with
    |[],true,.b a=>some ([i<xs.length],.bB true (xs.set i a))
    |[],true,.u a=>some ([i<xs.length],.bB true (xs.set i a))
    |_,_,_=>none
   |.row true fe xs=>match Nat.beq fe sz with
    |true=>match nth xs i with
     |some x=>match ji x p y with
      |some (ob,x')=>some (ob,.row true fe (put xs i x'))
      |none=>none
     |none=>none
    |false=>none
   |.cJ true fe d e xs=>match Nat.beq fe sz with
    |true=>match ji (e (xs.getD i d)) p y with
     |some (ob,x')=>some ((i<xs.length)::ob,.row true fe ((xs.map e).set i x'))
     |none=>none
    |false=>none
   |_=>none
  |.deref=>match x with
   |.box true x=>match ji x p y with
    |some (ob,x')=>some (ob,.box true x')
    |none=>none
   |_=>none
  |.at o none=>match x with
   |.agg xs=>match nth xs o with
    |some x=>match ji x p y with
     |some (ob,x')=>some (ob,.agg (put xs o x'))
     |none=>none
    |none=>none
   |_=>none
  |.at o (some n)=>match x with
   |.agg xs=>match Nat.ble (o+n) (len xs)with
    |true=>match ji (.agg (Nh (PF xs o) n)) p y with
     |some (ob,.agg ys)=>match Nat.beq (len ys) n with
      |true=>some (ob,.agg (cat (Nh xs o) (cat ys (PF xs (o+n)))))
      |false=>none
     |_=>none
    |false=>none
   |_=>none
  |.bC i=>match x with
   |.bC xs=>match nth xs i with
    |some x=>match ji x p y with
     |some (ob,x')=>some (ob,.bC (put xs i x'))
     |none=>none
    |none=>none
   |_=>none
  |.jI .. =>none
theorem tD(xs:List SV)(i:Nat)(y:SV):an (xs.set i y)=(an xs).set i y.den:=by simp[bx,List.map_set]
theorem dM:∀{p:Path}{x y z:SV}{ob:List Pd},ji x p y=some (ob,z)->ae ob->c8 x.den p y.den=some z.den
 |[],x,y,z,ob,h,_=>by simp only[ji,Option.some.injEq,Prod.mk.injEq]at h;simp[c8,h.2]
 |s::p,x,y,z,ob,h,hc=>by
  cases s with
  |idx i sz=>
   cases x with
   |ints k o xs=>
    cases o<;>simp only[ji]at h<;>try(simp at h;done)
    split at h<;>try(simp at h;done)
    rename_i ct;split at h<;>try(simp at h;done)
    rename_i hk;have hk:=kV hk;subst hk;simp only[Option.some.injEq,Prod.mk.injEq]at h;obtain⟨rfl,rfl⟩:=h;have ct:=Nat.eq_of_beq_eq_true ct;subst ct;simp only[ae,and_true]at hc;simp[SV.den,c8,fl,List.getElem?_eq_getElem hc,List.map_set]
   |strs o xs=>
    cases o<;>simp only[ji]at h<;>try(simp at h;done)
    split at h<;>try(simp at h;done)
    rename_i ct;simp only[Option.some.injEq,Prod.mk.injEq]at h;obtain⟨rfl,rfl⟩:=h;have ct:=Nat.eq_of_beq_eq_true ct;subst ct;simp only[ae,and_true]at hc;simp[SV.den,c8,fl,List.getElem?_eq_getElem hc,List.map_set]
   |bB o xs=>
    cases o<;>simp only[ji]at h<;>try(simp at h;done)
    split at h<;>try(simp at h;done)
    all_goals
     rename_i ct;simp only[Option.some.injEq,Prod.mk.injEq]at h;obtain⟨rfl,rfl⟩:=h;have ct:=Nat.eq_of_beq_eq_true ct;subst ct;simp only[ae,and_true]at hc;simp[SV.den,c8,fl,List.getElem?_eq_getElem hc,List.map_set]
   |row o fe xs=>
    cases o<;>simp only[ji]at h<;>try(simp at h;done)
    split at h<;>try(simp at h;done)
    rename_i ct;have ct:=Nat.eq_of_beq_eq_true ct;split at h<;>try(simp at h;done)
    rename_i x hx;split at h<;>try(simp at h;done)
    rename_i c9 x' hs;simp only[Option.some.injEq,Prod.mk.injEq]at h;obtain⟨rfl,rfl⟩:=h;rw[ko]at hx;simp[SV.den,c8,fl,ct,gH,hx,dM hs hc,put_eq,tD]
   |cJ o fe d e xs=>
    cases o<;>simp only[ji]at h<;>try(simp at h;done)
    split at h<;>try(simp at h;done)
    rename_i ct;have ct:=Nat.eq_of_beq_eq_true ct;split at h<;>try(simp at h;done)
    rename_i c9 x' hs;simp only[Option.some.injEq,Prod.mk.injEq]at h;obtain⟨rfl,rfl⟩:=h;have hi:i<xs.length:=hc.1;have hx:=dM hs hc.2;have eg:xs.getD i d=xs[i]:=by simp[List.getD_eq_getElem?_getD,List.getElem?_eq_getElem hi]
    rw[eg]at hx;simp[SV.den,c8,fl,ct,List.getElem?_eq_getElem hi,hx,bx,List.map_set,Function.comp_def]
   |_=>simp[ji]at h
  |deref=>
   cases x with
   |box o x=>
    cases o<;>simp only[ji]at h<;>try(simp at h;done)
    split at h<;>try(simp at h;done)
    rename_i c9 x' hs;simp only[Option.some.injEq,Prod.mk.injEq]at h;obtain⟨rfl,rfl⟩:=h;simp[SV.den,c8,dM hs hc]
   |_=>simp[ji]at h
  | «at» o m=>
    cases m with
    |none=>
     cases x with
     |agg xs=>
      simp only[ji]at h;split at h<;>try(simp at h;done)
      rename_i x hx;split at h<;>try(simp at h;done)
      rename_i c9 x' hs;simp only[Option.some.injEq,Prod.mk.injEq]at h;obtain⟨rfl,rfl⟩:=h;rw[ko]at hx;simp[SV.den,c8,gH,hx,dM hs hc,put_eq,tD]
     |_=>simp[ji]at h
    |some n=>
     cases x with
     |agg xs=>
      simp only[ji]at h;split at h<;>try(simp at h;done)
      rename_i hb;have hb:=Nat.le_of_ble_eq_true hb;rw[dA]at hb;split at h<;>try(simp at h;done)
      rename_i c9 ys hs;split at h<;>try(simp at h;done)
      rename_i hl;have hl:=Nat.eq_of_beq_eq_true hl;simp only[Option.some.injEq,Prod.mk.injEq]at h;obtain⟨rfl,rfl⟩:=h;have:=dM hs hc;simp only[SV.den,rD,se,bx,List.map_take,List.map_drop]at this;rw[dA]at hl;simp[SV.den,c8,bx,hb,this,hl,ee,rD,se]
     |_=>simp[ji]at h
  |bC i=>
   cases x with
   |bC xs=>
    simp only[ji]at h;split at h<;>try(simp at h;done)
    rename_i x hx;split at h<;>try(simp at h;done)
    rename_i c9 x' hs;simp only[Option.some.injEq,Prod.mk.injEq]at h;obtain⟨rfl,rfl⟩:=h;rw[ko]at hx;simp[SV.den,c8,gH,hx,dM hs hc,put_eq,tD]
   |_=>simp[ji]at h
  |jI sz o n=>simp[ji]at h
mutual
def SV.az:SV->Bool
 |.n .. |.b _|.u _|.s _|.c _|.nil|.hole|.dead|.dH .. |.pv _=>true
 |.ints _ own _=> !own
 |.strs own _=> !own
 |.bB own _=> !own
 |.cJ own _ _ _ _=> !own
 |.row own _ _=> !own
 |.agg xs=>eV xs
 |.bC xs=>eV xs
 |.box own _=> !own
 |.fn _ a c=>match eV a with
  |true=>eV c
  |false=>false
 |.bg .. |.ptr .. |.abs _|.dY .. |.mp _=>false
def eV:List SV->Bool
 |[]=>true
 |x::xs=>match x.az with
  |true=>eV xs
  |false=>false
end
mutual
theorem bX:∀(x:SV),x.den.az=x.az
 |.n .. |.b _|.u _|.s _|.c _|.nil|.hole|.dead|.bg .. |.ptr .. |.pv _|.abs _|.dY .. |.mp _=>rfl
 |.ints _ own _|.strs own _|.bB own _|.cJ own _ _ _ _|.row own _ _=>by cases own<;>rfl
 |.dH _ xs=>by cases xs<;>rfl
 |.box own _=>by cases own<;>rfl
 |.agg xs=>by simp only[SV.den,AV.az,SV.az];exact cZ xs
 |.bC xs=>by simp only[SV.den,AV.az,SV.az];exact cZ xs
 |.fn _ a c=>by simp only[SV.den,AV.az,SV.az,cZ a,cZ c];cases eV a<;>rfl
theorem cZ:∀(xs:List SV),bG (an xs)=eV xs
 |[]=>rfl
 |x::xs=>by simp only[an,bG,eV,bX x,cZ xs];cases x.az<;>rfl
end
mutual
def SV.bf:SV->SV
 |.ints k _ xs=>.ints k false xs
 |.dH k xs=>.dH k xs
 |.strs _ xs=>.strs false xs
 |.bB _ xs=>.bB false xs
 |.cJ true sz d e xs=>.cJ false sz d (fun x=>(e x).bf) xs
 |.cJ false sz d e xs=>.cJ false sz d e xs
 |.row true sz xs=>.row false sz (lu xs)
 |.row false sz xs=>.row false sz xs
 |.agg xs=>.agg (lu xs)
 |.bC xs=>.bC (lu xs)
 |.box true x=>.box false x.bf
 |.box false x=>.box false x
 |.fn f a c=>.fn f (lu a) (lu c)
 |.n k a=>.n k a
 |.b x=>.b x
 |.u x=>.u x
 |.s x=>.s x
 |.c x=>.c x
 |.nil=>.nil
 |.bg r g1 g2 p=>.bg r g1 g2 p
 |.ptr r g1 g2 p=>.ptr r g1 g2 p
 |.hole=>.hole
 |.dead=>.dead
 |.pv C=>.pv C
 |.abs J=>.abs J
 |.dY g aW=>.dY g aW
 |.mp _=>.dead
def lu:List SV->List SV
 |[]=>[]
 |x::xs=>x.bf::lu xs
end
theorem fJ{α:Type}(f:α->AV):∀xs:List α,eU (xs.map f)=xs.map fun x=>(f x).bf
 |[]=>rfl
 |x::xs=>by simp[eU,fJ f xs]
mutual
theorem ew:∀(x:SV),x.den.bf=x.bf.den
 |.n .. |.b _|.u _|.s _|.c _|.nil|.hole|.dead|.bg .. |.ptr .. |.pv _|.abs _|.dY .. |.mp _=>rfl
 |.ints _ own xs=>by cases own<;>simp[SV.den,SV.bf,AV.bf,fl,fJ]
 |.dH _ xs=>by cases xs<;>rfl
 |.strs own xs=>by cases own<;>simp[SV.den,SV.bf,AV.bf,fl,fJ]
 |.bB own xs=>by cases own<;>simp[SV.den,SV.bf,AV.bf,fl,fJ]
 |.cJ true _ _ e xs=>by
  simp only[SV.den,SV.bf,AV.bf,fl,fJ]
  congr 1
  exact List.map_congr_left fun x _=>ew (e x)
 |.cJ false _ _ _ _=>rfl
 |.row true _ xs=>by simp only[SV.den,SV.bf,AV.bf,fl,gA xs]
 |.row false _ _=>rfl
 |.box true x=>by simp only[SV.den,SV.bf,AV.bf,ew x]
 |.box false _=>rfl
 |.agg xs=>by simp only[SV.den,SV.bf,AV.bf,gA xs]
 |.bC xs=>by simp only[SV.den,SV.bf,AV.bf,gA xs]
 |.fn _ a c=>by simp only[SV.den,SV.bf,AV.bf,gA a,gA c]
theorem gA:∀(xs:List SV),eU (an xs)=an (lu xs)
 |[]=>rfl
 |x::xs=>by simp only[an,eU,lu,ew x,gA xs]
end
mutual
def SV.bh:SV->Bool
 |.n .. |.b _|.u _|.s _|.c _|.nil|.hole|.dead|.bg .. |.ptr .. |.pv _|.abs _|.dY .. |.mp _=>true
 |.ints _ own _=>own
 |.dH .. =>false
 |.strs own _=>own
 |.bB own _=>own
 |.cJ .. =>false
 |.row true _ xs=>pB xs
 |.row false _ _=>false
 |.agg xs=>pB xs
 |.bC xs=>pB xs
 |.box true x=>x.bh
 |.box false _=>false
 |.fn _ a c=>match pB a with
  |true=>pB c
  |false=>false
def pB:List SV->Bool
 |[]=>true
 |x::xs=>match x.bh with
  |true=>pB xs
  |false=>false
end
theorem qw{xs:List AV}(h:∀x∈xs,x.bh=true):gU xs=true:=by
 induction xs with
 |nil=>rfl
 |cons x xs ih=>simp only[gU,Bool.and_eq_true];exact⟨h x (by simp),ih fun y hy=>h y (by simp[hy])⟩
mutual
theorem kS:∀(x:SV),x.bh=true->x.den.bh=true
 |.n ..,_|.b _,_|.u _,_|.s _,_|.c _,_|.nil,_|.hole,_|.dead,_|.bg ..,_|.ptr ..,_|.pv _,_|.abs _,_|.dY ..,_|.mp _,_=>rfl
 |.ints _ own xs,h=>by simp only[SV.bh]at h;subst h;simp only[SV.den,fl,AV.bh];exact qw (by simp[AV.bh])
 |.strs own xs,h=>by simp only[SV.bh]at h;subst h;simp only[SV.den,fl,AV.bh];exact qw (by simp[AV.bh])
 |.bB own xs,h=>by simp only[SV.bh]at h;subst h;simp only[SV.den,fl,AV.bh];refine qw fun x hx=>?_;obtain⟨b,-,rfl⟩:=List.mem_map.1 hx;rfl
 |.cJ ..,h=>by simp[SV.bh]at h
 |.dH ..,h=>by simp[SV.bh]at h
 |.row true _ xs,h=>by simp only[SV.bh]at h;simp only[SV.den,fl,AV.bh];exact iN xs h
 |.row false _ _,h=>by simp[SV.bh]at h
 |.box true x,h=>by simp only[SV.bh]at h;simp only[SV.den,AV.bh,Bool.true_and];exact kS x h
 |.box false _,h=>by simp[SV.bh]at h
 |.agg xs,h=>by simp only[SV.bh]at h;simp only[SV.den,AV.bh];exact iN xs h
 |.bC xs,h=>by simp only[SV.bh]at h;simp only[SV.den,AV.bh];exact iN xs h
 |.fn _ a c,h=>by
  simp only[SV.bh]at h;split at h
  ·rename_i ha;simp only[SV.den,AV.bh,Bool.and_eq_true];exact⟨iN a ha,iN c h⟩
  simp at h
theorem iN:∀(xs:List SV),pB xs=true->gU (an xs)=true
 |[],_=>rfl
 |x::xs,h=>by
  simp only[pB]at h;split at h
  ·rename_i hx;simp only[an,gU,Bool.and_eq_true];exact⟨kS x hx,iN xs h⟩
  simp at h
end
def SV.cell:SV->Bool
 |.n .. |.b _|.u _|.s _|.c _|.nil|.ints .. |.dH .. |.strs .. |.bB .. |.cJ .. |.row .. |.box .. |.fn .. |.hole=>true
 |_=>false
theorem Ae(x:SV):x.den.cell=x.cell:=by cases x<;>rfl
def SV.plain:SV->Bool
 |.bg .. |.ptr .. |.abs _|.dY .. =>false
 |_=>true
theorem cH(x:SV):x.den.plain=x.plain:=by cases x<;>rfl
def AV.ic:AV->Bool
 |.bg .. |.ptr .. |.dY .. =>false
 |_=>true
def SV.ic:SV->Bool
 |.bg .. |.ptr .. |.dY .. =>false
 |_=>true
theorem nm(x:SV):x.den.ic=x.ic:=by cases x<;>rfl
def OU(y:SV):SV:=match y.cell with
 |true=>.hole
 |false=>.dead
theorem L5(y:SV):(OU y).den=fR y.den:=by unfold OU fR;rw[Ae];cases y.cell<;>rfl
structure Cl where
 v:SV
 g1:Nat
 g2:Nat
def Cl.den(x:Cl):Sl:=⟨x.v.den,x.g1,x.g2⟩
abbrev aP:=List (Nat×Cl)
def gt:aP->Nat->Cl
 |[],_=>⟨.dead,0,0⟩
 |(d,x)::l,i=>match Nat.beq i d with
  |true=>x
  |false=>gt l i
def dn(l:aP):St:=fun i=>(gt l i).den
theorem dC(d:Nat)(x:Cl)(l:aP):dn ((d,x)::l)=fB (dn l) d x.den:=by
 funext i
 simp only[dn,gt,fB];by_cases h:i=d
 ·subst h;simp
 have:Nat.beq i d=false:=by
  cases hb:Nat.beq i d with
  |false=>rfl
  |true=>exact absurd (Nat.eq_of_beq_eq_true hb) h
 simp[this,h]
theorem cQ(l:aP)(i:Nat):(dn l i).av=(gt l i).v.den:=rfl
theorem wL(l:aP)(i:Nat):(dn l i).g1=(gt l i).g1:=rfl
theorem Kk(l:aP)(i:Nat):(dn l i).g2=(gt l i).g2:=rfl
structure SR where
 s:Option Nat
 sl:Cl
 rt:Cl
def SR.den(x:SR):bo:=⟨x.s,x.sl.den,x.rt.den⟩
def tO:Value->SV
 |.int k n=>.n k n
 |.bool b=>.b b
 |.string s=>.s s.data.toList
 |.slice none 0 0=>.nil
 |.pointer none=>.c (.pointer none)
 |.map none=>.c (.map none)
 |.nilFunc=>.c .nilFunc
 |.nilIface=>.c .nilIface
 |_=>.dead
def vA:Value->Option SV
 |.agg cs=>some (.agg (cs.toList.map tO))
 |.float .. =>none
 |.complex .. =>none
 |v=>some (tO v)
def sW:Value->Bool
 |.float .. |.complex .. =>false
 |_=>true
theorem Co{v:Value}(h:sW v=true):(tO v).den=gI v:=by
 cases v with
 |slice a l c=>
  cases a with
  |some _=>simp[tO,gI,scalar,SV.den]
  |none=>cases l<;>cases c<;>simp[tO,gI,scalar,SV.den]
 |pointer a=>cases a<;>simp[tO,gI,scalar,SV.den]
 |map a=>cases a<;>simp[tO,gI,scalar,SV.den]
 |string s=>simp[tO,gI,scalar,SV.den,MB]
 |float _ _=>simp[sW]at h
 |complex _ _ _=>simp[sW]at h
 |_=>simp[tO,gI,scalar,SV.den]
def C5:Value->Bool
 |.agg cs=>cs.toList.all sW
 |v=>sW v
theorem I1{v:Value}{x:SV}(h:vA v=some x)(ho:C5 v=true):x.den=eP v:=by
 cases v with
 |agg cs=>
  simp only[vA,Option.some.injEq]at h;subst h;simp only[SV.den,eP,bx,List.map_map]
  congr 1
  refine List.map_congr_left fun y hy=>?_;simp only[C5,List.all_eq_true]at ho;exact Co (ho y hy)
 |float _ _=>simp[vA]at h
 |complex _ _ _=>simp[vA]at h
 |_=>simp only[vA,Option.some.injEq]at h;subst h;exact Co ho
def da(l:aP):Operand->Option SR
 |.tmp t=>match gt l t with
  |⟨v,g1,g2⟩=>match v with
   |.bg r a b p=>some ⟨some t,⟨.bg r a b p,g1,g2⟩,gt l r⟩
   |.ptr r a b p=>some ⟨some t,⟨.ptr r a b p,g1,g2⟩,gt l r⟩
   |.abs _=>some ⟨none,⟨.dead,0,0⟩,⟨.dead,0,0⟩⟩
   |v=>some ⟨some t,⟨v,g1,g2⟩,⟨.dead,0,0⟩⟩
 |.const v=>match C5 v with
  |true=>match vA v with
   |some x=>some ⟨none,⟨x,0,0⟩,⟨.dead,0,0⟩⟩
   |none=>none
  |false=>none
 |.func f=>some ⟨none,⟨.fn (.func f) [] [],0,0⟩,⟨.dead,0,0⟩⟩
 |.global _=>none
theorem cD{l:aP}{x:Operand}{r:SR}(h:da l x=some r):resolve (dn l) x=r.den:=by
 cases x with
 |tmp t=>
  simp only[da]at h;simp only[resolve,bo.of,cQ];cases hv:gt l t with
  |mk v g1 g2=>rw[hv]at h;simp only at h;cases v<;>simp only[Option.some.injEq]at h<;>subst h<;>simp[SR.den,SV.den,Cl.den,dn,hv]<;>rfl
 |const v=>
  simp only[da]at h;split at h
  ·rename_i ho;split at h
   ·rename_i x hx;simp only[Option.some.injEq]at h;subst h;simp only[resolve,SR.den,Cl.den,I1 hx ho];rfl
   simp at h
  simp at h
 |func f=>simp only[da,Option.some.injEq]at h;subst h;rfl
 |global g=>simp[da]at h
def C4:Path->SV->Bool
 |[],_=>true
 |[.bC _],_=>true
 |_,y=>y.cell
theorem HT(p:Path)(y:SV):uJ p y.den=C4 p y:=by unfold uJ C4;split<;>simp_all[Ae]
def pI:Path->Bool
 |[]=>true
 |_=>false
def b8:Bool->Bool->Bool
 |true,b=>b
 |false,_=>false
def Bg:Bool->Bool->Bool
 |true,_=>true
 |false,b=>b
theorem aH{a b:Bool}:b8 a b=true↔a=true/\b=true:=by cases a<;>simp[b8]
theorem oE{a b:Bool}:Bg a b=true↔a=true\/b=true:=by cases a<;>simp[Bg]
def fg(b:Bool):Option Unit:=match b with
 |true=>some ()
 |false=>none
theorem bd{b:Bool}{u:Unit}:fg b=some u↔b=true:=by cases b<;>simp[fg]
def not':Bool->Bool
 |true=>false
 |false=>true
theorem not_iff{b:Bool}:not' b=true↔b=false:=by cases b<;>simp[not']
def ne'(a b:Nat):Bool:=not' (Nat.beq a b)
theorem ne_iff{a b:Nat}:ne' a b=true↔a≠b:=by
 unfold ne';rw[not_iff];constructor
 ·intro h e;subst e;simp at h
 intro h;cases hb:Nat.beq a b with
 |false=>rfl
 |true=>exact absurd (Nat.eq_of_beq_eq_true hb) h
theorem beq_iff{a b:Nat}:Nat.beq a b=true↔a=b:=⟨Nat.eq_of_beq_eq_true,fun h=>by subst h;simp⟩
def cz(x:SR):Option (List Pd×SV):=
 match x.sl.v with
 |.bg _ g1 g2 p=>(fg (b8 (Nat.beq x.rt.g1 g1) (Bg (KS p) (Nat.beq x.rt.g2 g2)))).bind fun _=>(eX x.rt.v p).bind fun(ob,y)=>(fg (b8 (C4 p y) y.plain)).bind fun _=>some (ob,y)
 |.ptr .. =>none
 |.hole=>none
 |.dead=>none
 |.dY .. =>none
 |y=>some ([],y)
theorem aw{x:SR}{ob:List Pd}{y:SV}(h:cz x=some (ob,y))(hc:ae ob):x.den.cont=some y.den:=by
 obtain⟨s,⟨v,g1,g2⟩,rt⟩:=x;unfold cz at h;unfold bo.cont;cases v with
 |bg r a b p=>
  simp only[Option.bind_eq_some_iff,bd,aH,oE,beq_iff,Prod.exists,Option.some.injEq,Prod.mk.injEq]at h;obtain⟨_,⟨h1,h2⟩,c9,y',hg,_,⟨h3,h4⟩,rfl,rfl⟩:=h;have hp:=bI hg hc;simp only[SR.den,Cl.den,SV.den,h1,if_true,hp,HT,cH,h3,h4,Bool.and_self];rw[if_pos];rcases h2 with h2|h2
  ·left;assumption
  exact .inr h2
 |ptr=>simp at h
 |hole=>simp at h
 |dead=>simp at h
 |dY=>simp at h
 |_=>simp only[Option.some.injEq,Prod.mk.injEq]at h;obtain⟨-,rfl⟩:=h;simp[SR.den,Cl.den,SV.den]
def rN(x:SR):Option (Nat×Nat×Nat×Path):=
 match x.sl.v with
 |.bg r g1 g2 p=>some (r,g1,g2,p)
 |.ptr .. =>none
 |_=>match x.s with
  |some s=>some (s,x.sl.g1,x.sl.g2,[])
  |none=>none
theorem lM(x:SR):x.den.place=rN x:=by obtain⟨s,⟨v,g1,g2⟩,rt⟩:=x;unfold rN bo.place;cases v<;>rfl
structure Ut where
 r:Nat
 g1:Nat
 g2:Nat
 p:Path
 v:SV
def Au(x:SR):Option (List Pd×Ut):=
 match x.sl.v with
 |.ptr r g1 g2 p=>(fg (b8 (Nat.beq x.rt.g1 g1) (Bg (flat p) (Nat.beq x.rt.g2 g2)))).bind fun _=>match x.rt with
  |⟨v,a,b⟩=>some ([],⟨r,a,b,p,v⟩)
 |.box o v=>match x.s with
  |some s=>some ([],⟨s,x.sl.g1,x.sl.g2,[.deref],.box o v⟩)
  |none=>none
 |.bg r _ _ p=>(cz x).bind fun(ob,y)=>match y with
  |.box _ _=>match x.rt with
   |⟨v,a,b⟩=>some (ob,⟨r,a,b,p++[.deref],v⟩)
  |_=>none
 |_=>none
theorem iT{x:SR}{ob:List Pd}{a:Ut}(h:Au x=some (ob,a))(hc:ae ob):x.den.addr=some (a.r,a.g1,a.g2,a.p,a.v.den):=by
 obtain⟨s,⟨v,g1,g2⟩,rt⟩:=x;unfold Au at h;cases v with
 |ptr r c d p=>simp only[Option.bind_eq_some_iff,bd,aH,oE,beq_iff,Option.some.injEq,Prod.mk.injEq]at h;obtain⟨_,⟨h1,h2⟩,rfl,rfl⟩:=h;unfold bo.addr;simp only[SR.den,Cl.den,SV.den,h1,if_true];rw[if_pos];exact h2
 |box o y=>
  simp only at h;cases s with
  |none=>simp at h
  |some s=>simp only[Option.some.injEq,Prod.mk.injEq]at h;obtain⟨-,rfl⟩:=h;rfl
 |bg r c d p=>
  simp only[Option.bind_eq_some_iff,Prod.exists]at h;obtain⟨c9,y,h1,h2⟩:=h;cases y with
  |box o y=>simp only[Option.some.injEq,Prod.mk.injEq]at h2;obtain⟨rfl,rfl⟩:=h2;have:=aw h1 hc;unfold bo.addr;simp only[SR.den,Cl.den,SV.den]at this⊢;rw[this]
  |_=>simp at h2
 |_=>simp at h
abbrev mb:=Option (List Pd×aP×List Nat)
def cn(l:aP)(m:Option (List Mv))(e:mb):Prop:=∀ob l' ks,e=some (ob,l',ks)->ae ob->∃ms,m=some ms/\Mv.runs (dn l) ms=some (dn l')/\aN ms=ks
def Lh(l:aP)(d:Nat)(y:SV):aP:=match gt l d with
 |⟨_,a,b⟩=>(d,⟨y,a+1,b⟩)::l
theorem ja(l:aP)(d:Nat)(y:SV):fB (dn l) d ⟨y.den,(dn l d).g1+1,(dn l d).g2⟩=dn (Lh l d y):=by unfold Lh;simp only[dC,Cl.den,wL,Kk]
def Step.seq{α:Type _}(s:Step)(k:Step->α):α:=match s with
 |.idx i n=>k (.idx i n)
 |.at o none=>k (.at o none)
 |.at o (some n)=>k (.at o (some n))
 |.deref=>k .deref
 |.bC i=>k (.bC i)
 |.jI a b c=>k (.jI a b c)
theorem Step.seq_eq{α:Type _}(s:Step)(k:Step->α):s.seq k=k s:=by
 cases s with
 | «at» o n=>cases n<;>rfl
 |_=>rfl
def E6{α:Type _}(p:Path)(k:Path->α):α:=match p with
 |[]=>k []
 |s::p=>s.seq fun s=>E6 p fun p=>k (s::p)
theorem E5{α:Type _}:∀(p:Path)(k:Path->α),E6 p k=k p
 |[],_=>rfl
 |s::p,k=>by simp only[E6,Step.seq_eq];exact E5 p _
def Rc{α:Type _}(y:SV)(k:SV->α):α:=match y with
 |.n a1 a2=>k (.n a1 a2)
 |.b a1=>k (.b a1)
 |.u a1=>k (.u a1)
 |.s a1=>k (.s a1)
 |.c a1=>k (.c a1)
 |.nil=>k .nil
 |.ints a1 a2 a3=>k (.ints a1 a2 a3)
 |.dH a1 a2=>k (.dH a1 a2)
 |.strs a1 a2=>k (.strs a1 a2)
 |.bB a1 a2=>k (.bB a1 a2)
 |.cJ a1 a2 a3 a4 a5=>k (.cJ a1 a2 a3 a4 a5)
 |.row a1 a2 a3=>k (.row a1 a2 a3)
 |.agg a1=>k (.agg a1)
 |.bC a1=>k (.bC a1)
 |.box a1 a2=>k (.box a1 a2)
 |.fn a1 a2 a3=>k (.fn a1 a2 a3)
 |.bg a1 a2 a3 p=>E6 p fun p=>k (.bg a1 a2 a3 p)
 |.ptr a1 a2 a3 p=>E6 p fun p=>k (.ptr a1 a2 a3 p)
 |.hole=>k .hole
 |.dead=>k .dead
 |.pv C=>k (.pv C)
 |.abs J=>k (.abs J)
 |.dY g aW=>k (.dY g aW)
 |.mp K=>k (.mp K)
theorem Jy{α:Type _}(y:SV)(k:SV->α):Rc y k=k y:=by cases y<;>simp only[Rc,E5]
def E0{α:Type _}(l:aP)(d:Nat)(y:SV)(k:aP->α):α:=Rc y fun y=>match gt l d with
 |⟨_,a,b⟩=>k ((d,⟨y,a+1,b⟩)::l)
theorem kD{α:Type _}(l:aP)(d:Nat)(y:SV)(k:aP->α):E0 l d y k=k (Lh l d y):=by simp only[E0,Jy];rfl
def cj(ob:List Pd)(l:aP)(d:Nat)(y:SV):mb:=E0 l d y fun l'=>some (ob,l',[d])
theorem bJ{l:aP}{m:Option (List Mv)}{ob:List Pd}{d:Nat}{y:SV}(h:ae ob->m=some [.put d y.den]):cn l m (cj ob l d y):=by intro c9 l' ks he hc;simp only[cj,kD,Option.some.injEq,Prod.mk.injEq]at he;obtain⟨rfl,rfl,rfl⟩:=he;exact⟨_,h hc,by simp only[Mv.runs,Mv.run,ja],rfl⟩
theorem a7{l:aP}{m:Option (List Mv)}:cn l m none:=fun _ _ _ h=>by simp at h
def Cm(l:aP):List Nat->aP
 |[]=>l
 |m::M=>match gt l m with
  |⟨_,a,b⟩=>(m,⟨.dead,a+1,b⟩)::Cm l M
theorem vy(l:aP):∀(M:List Nat)(i:Nat),dn (Cm l M) i=if i∈M then⟨.dead,(dn l i).g1+1,(dn l i).g2⟩else dn l i
 |[],i=>by simp[Cm]
 |m::M,i=>by
  simp only[Cm,dC,List.mem_cons];unfold fB;by_cases h:i=m
  ·subst h;simp[Cl.den,SV.den,dn]
  simp only[h,if_false,false_or];exact vy l M i
def JE(l:aP)(M:List Nat)(d:Nat)(y:SV):aP:=match gt l d with
 |⟨_,a,b⟩=>(d,⟨y,a+1,b⟩)::Cm l M
theorem gm(l:aP)(M:List Nat)(d:Nat)(y:SV):made (dn l) M d y.den=dn (JE l M d y):=by
 unfold JE
 funext i
 simp only[made,dC,fB];by_cases h:i=d
 ·subst h;simp[Cl.den,dn]
 simp only[h,if_false];rw[vy]
def GM{α:Type _}(l:aP):List Nat->(aP->α)->α
 |[],k=>k l
 |m::M,k=>match gt l m with
  |⟨_,a,b⟩=>GM l M fun l'=>k ((m,⟨.dead,a+1,b⟩)::l')
theorem zV{α:Type _}(l:aP):∀(M:List Nat)(k:aP->α),GM l M k=k (Cm l M)
 |[],_=>rfl
 |m::M,k=>by simp only[GM];rw[zV l M];rfl
def pF{α:Type _}(l:aP)(M:List Nat)(d:Nat)(y:SV)(k:aP->α):α:=Rc y fun y=>match gt l d with
 |⟨_,a,b⟩=>GM l M fun l'=>k ((d,⟨y,a+1,b⟩)::l')
theorem eE{α:Type _}(l:aP)(M:List Nat)(d:Nat)(y:SV)(k:aP->α):pF l M d y k=k (JE l M d y):=by simp only[pF,Jy,zV];rfl
def lO(ob:List Pd)(l:aP)(M:List Nat)(d:Nat)(y:SV):mb:=pF l M d y fun l'=>some (ob,l',d::M)
theorem iR{l:aP}{m:Option (List Mv)}{ob:List Pd}{d:Nat}{M:List Nat}{y:SV}(h:ae ob->m=some [.make M d y.den]):cn l m (lO ob l M d y):=by intro c9 l' ks he hc;simp only[lO,eE,Option.some.injEq,Prod.mk.injEq]at he;obtain⟨rfl,rfl,rfl⟩:=he;exact⟨_,h hc,by simp only[Mv.runs,Mv.run,gm],by simp[aN,Mv.keys]⟩
def po(l:aP)(r:Nat)(p:Path):Option (List Pd×aP):=
 match gt l r with
 |⟨v,a,b⟩=>(eX v p).bind fun(ob,y)=>(ji v p y.bf).bind fun(c9,v')=>some (app ob c9,(r,⟨v',a,b+1⟩)::l)
theorem jq{l l':aP}{r:Nat}{p:Path}{ob:List Pd}(h:po l r p=some (ob,l'))(hc:ae ob):Mv.run (dn l) (.share r p)=some (dn l'):=by unfold po at h;simp only[Option.bind_eq_some_iff,Prod.exists,Option.some.injEq,Prod.mk.injEq]at h;obtain⟨mw,y,h1,nk,v',h2,rfl,rfl⟩:=h;obtain⟨c1,c2⟩:=aJ.1 hc;have e1:=bI h1 c1;have e2:=dM h2 c2;simp only[Mv.run,cQ,e1,ew,e2,dC];rfl
def Bq(l:aP)(r d:Nat)(p:Path):Option (List Pd×SV×aP):=
 (fg (ne' d r)).bind fun _=>match gt l r with
 |⟨v,a,b⟩=>(eX v p).bind fun(ob,y)=>(ji v p (OU y)).bind fun(c9,v')=>match gt l d with
  |⟨_,a',b'⟩=>match pI p with
   |true=>some (app ob c9,y,(d,⟨y,a'+1,b'⟩)::(r,⟨v',a+1,b⟩)::l)
   |false=>some (app ob c9,y,(d,⟨y,a'+1,b'⟩)::(r,⟨v',a,b⟩)::l)
theorem Bp{l l':aP}{r d:Nat}{p:Path}{y:SV}{ob:List Pd}(h:Bq l r d p=some (ob,y,l'))(hc:ae ob):Mv.run (dn l) (.take r d p)=some (dn l'):=by
 unfold Bq at h;simp only[Option.bind_eq_some_iff,Prod.exists,bd,ne_iff]at h;obtain⟨_,cR,mw,y1,h1,nk,v',h2,h⟩:=h;have key:ob=app mw nk/\l'=(d,⟨y1,(gt l d).g1+1,(gt l d).g2⟩)::(r,if p=[]then⟨v',(gt l r).g1+1,(gt l r).g2⟩else⟨v',(gt l r).g1,(gt l r).g2⟩)::l:=by
  cases p with
  |nil=>simp only[pI,Option.some.injEq,Prod.mk.injEq]at h;obtain⟨rfl,rfl,rfl⟩:=h;simp
  |cons s p=>simp only[pI,Option.some.injEq,Prod.mk.injEq]at h;obtain⟨rfl,rfl,rfl⟩:=h;simp
 obtain⟨rfl,rfl⟩:=key;obtain⟨c1,c2⟩:=aJ.1 hc;have e1:=bI h1 c1;have e2:=dM h2 c2;simp only[Mv.run,cR,if_false,cQ,e1,<-L5,e2,dC];have hb:gR (dn l r) p v'.den=Cl.den (if p=[]then⟨v',(gt l r).g1+1,(gt l r).g2⟩else⟨v',(gt l r).g1,(gt l r).g2⟩):=by unfold gR;split<;>rfl
 rw[hb];rfl
def HB(l:aP)(r:Nat)(p:Path)(M:List Nat)(y:SV):mb:=
 (fg (not' (M.any (Nat.beq r)))).bind fun _=>match gt l r with
 |⟨v,a,b⟩=>(ji v p y).bind fun(ob,v')=>GM l M fun l'=>some (ob,(r,⟨v',a,b+1⟩)::l',r::M)
theorem HA{l l':aP}{r:Nat}{p:Path}{M:List Nat}{y:SV}{ob:List Pd}{ks:List Nat}(h:HB l r p M y=some (ob,l',ks))(hc:ae ob):Mv.run (dn l) (.store r p M y.den)=some (dn l')/\ks=r::M:=by
 unfold HB at h;simp only[Option.bind_eq_some_iff,Prod.exists,bd,not_iff,zV,Option.some.injEq,Prod.mk.injEq]at h;obtain⟨_,hn,mw,v',h1,rfl,rfl,rfl⟩:=h;have hm:r∉M:=by intro hm;have:M.any (Nat.beq r)=true:=List.any_eq_true.2 ⟨r,hm,by simp⟩;rw[hn]at this;simp at this
 have e1:=dM h1 hc;refine⟨?_,rfl⟩;simp only[Mv.run,hm,if_false,cQ,e1]
 congr 1
 funext i
 simp only[stored,dC,fB];by_cases h:i=r
 ·subst h;simp[Cl.den,dn]
 simp only[h,if_false];rw[vy]
def GY(d:Nat):List (Nat×Nat)->Bool
 |[]=>true
 |(r,_)::q=>b8 (ne' r d) (GY d q)
theorem vD{d:Nat}:∀{aW:List (Nat×Nat)},GY d aW=true->aW.all (fun q=>q.1 !=d)=true
 |[],_=>rfl
 |(r,a)::c,h=>by simp only[GY,aH]at h;simp only[List.all_cons,Bool.and_eq_true];exact⟨by simpa using ne_iff.1 h.1,vD h.2⟩
def pP(l:aP)(d:Nat)(x:SR):mb:=
 match x.sl.v with
 |.bg r a b p=>(fg (ne' r d)).bind fun _=>cj [] l d (.bg r a b p)
 |.ptr r a b p=>(fg (ne' r d)).bind fun _=>cj [] l d (.ptr r a b p)
 |.dY g aW=>(fg (GY d aW)).bind fun _=>cj [] l d (.dY g aW)
 |y=>match y.az with
  |true=>cj [] l d y
  |false=>match x.s with
   |some s=>(fg (ne' s d)).bind fun _=>cj [] l d (.bg s x.sl.g1 x.sl.g2 [])
   |none=>none
theorem aY{l:aP}{m:Option (List Mv)}{b:Bool}{e:mb}(h:b=true->cn l m e):cn l m ((fg b).bind fun _=>e):=by
 cases b with
 |true=>exact h rfl
 |false=>exact a7
theorem gM(l:aP)(d:Nat)(x:SR):cn l (cm d x.den) (pP l d x):=by
 obtain⟨s,⟨v,g1,g2⟩,rt⟩:=x;unfold pP;have gen:∀v:SV,v.ic=true->cn l (cm d (SR.den ⟨s,⟨v,g1,g2⟩,rt⟩)) (match v.az with
  |true=>cj [] l d v
  |false=>match s with
   |some s=>(fg (ne' s d)).bind fun _=>cj [] l d (.bg s g1 g2 [])
   |none=>none):=by
  intro v hv;have hm:cm d (SR.den ⟨s,⟨v,g1,g2⟩,rt⟩)=if v.az then some [.put d v.den]else match s with
   |some s=>if s=d then none else some [.put d (.bg s g1 g2 [])]
   |none=>none:=by
   have hp:v.den.ic=true:=by rw[nm];exact hv
   have:∀a:AV,a.ic=true->cm d ⟨s,⟨a,g1,g2⟩,rt.den⟩=if a.az then some [.put d a]else match s with
    |some s=>if s=d then none else some [.put d (.bg s g1 g2 [])]
    |none=>none:=by
    intro a ha;cases a<;>first|rfl|simp[AV.ic]at ha
   have h2:=this v.den hp;rw[bX]at h2;exact h2
  rw[hm];cases v.az with
  |true=>exact bJ fun _=>rfl
  |false=>
   cases s with
   |none=>exact a7
   |some s=>exact aY fun hb=>bJ fun _=>by simp[ne_iff.1 hb,SV.den]
 cases v with
 |bg r a b p=>exact aY fun hb=>bJ fun _=>by simp[cm,SR.den,Cl.den,SV.den,ne_iff.1 hb]
 |ptr r a b p=>exact aY fun hb=>bJ fun _=>by simp[cm,SR.den,Cl.den,SV.den,ne_iff.1 hb]
 |dY g aW=>exact aY fun hb=>bJ fun _=>by simp only[cm,SR.den,Cl.den,SV.den,vD hb,if_true]
 |_=>exact gen _ rfl
end Go.Ai
