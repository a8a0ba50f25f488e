/- Parts of the proof of ScaleCircles (CheckRefused returns the error of the reference), at every input, with no further conditions. -/
import Derived.Test.YtdgocdadfmhjgaaGreatDoorCZAD
import Derived.RangeFuncLeaves
import Derived.RangeFuncFrom
set_option linter.all false
set_option maxRecDepth 100000
set_option maxHeartbeats 0
namespace Go.Ai
open Go.RowKit
section
variable{R:Option Nat->Prop}{P:Program}{N:Nat}{w0 w w':World}{V:Hid}{S S0 S':Nat->Prop}{σ σ' τ:St}{a:Act}{ops:Array Oper}{o:Oper}
section
variable{j n s:Nat}{L:Nat->Bool}{mA:Nat->List Mv}
def merge(σs:Nat->St)(mA:Nat->List Mv)(L:Nat->Bool)(s:Nat):Nat->Sl
 |0=>σs 0 s
 |k+1=>if L k=true/\s∈aU (mA k)then σs (k+1) s else merge σs mA L s k
def Cx{σs:Nat->St}(hr:∀k,k<n->Mv.runs (σs k) (mA k)=some (σs<|k+1))(hj:j<=n)
 (h:∀i,i<n->s∈aU (mA i)->(i<j->L i=true)/\(j<=i->L i=false)):merge σs mA L s n=σs j s:=by
 have h1:∀k,k<=j->merge σs mA L s k=σs k s:=by
  intro k
  induction k with
  |zero=>intro _;rfl
  |succ k ih=>
   intro hk;unfold merge;by_cases hs:s∈aU (mA k)
   ·rw[if_pos ⟨(h k (by omega) hs).1<|by omega,hs⟩]
   rw[if_neg λhh=>hs hh.2,ih<|by omega,uW (hr k<|by omega) hs]
 have h2:∀k,j<=k->k<=n->merge σs mA L s k=σs j s:=by
  intro k
  induction k with
  |zero=>intro hk _;have:j=0:=by omega
         subst this;rfl
  |succ k ih=>
   intro hk hn;by_cases Sr:j=k+1
   ·subst Sr;simp_all
   unfold merge;rw[if_neg λhh=>?_,ih (by omega)<|by omega];have:=(h k (by omega) hh.2).2 (by omega);rw[this]at hh;simp at hh
 simp_all
def FO{σs:Nat->St}{mA:Nat->List Mv}{L L':Nat->Bool}{s:Nat}{j:Nat}(hL:∀i,i≠j->L' i=L i)(hs:s∉aU (mA j)):∀n,merge σs mA L' s n=merge σs mA L s n
 |0=>rfl
 |n+1=>by
  unfold merge;rw[FO hL hs n];by_cases e:n=j
  ·subst e;rw[if_neg λh=>hs h.2,if_neg λh=>hs h.2]
  rw[hL n e]
def MU{σs:Nat->St}(hr:∀k,k<n->Mv.runs (σs k) (mA k)=some (σs<|k+1))(hj:j<=n)
 (h:∀i,i<n->s∈aU (mA i)->((i<j->L i=true)/\(j<=i->L i=false))\/sd (σs (i+1) s)=sd (σs i s))
 (hw:∀i k,i<k->k<n->s∈aU (mA i)->s∈aU (mA k)->L k=true->L i=true):sd (merge σs mA L s n)=sd (σs j s):=by
 have h1:∀k,k<=j->sd (merge σs mA L s k)=sd (σs k s):=by
  intro k
  induction k with
  |zero=>intro _;rfl
  |succ k ih=>
   intro hk;unfold merge;by_cases hc:L k=true/\s∈aU (mA k)
   ·rw[if_pos hc]
   rw[if_neg hc,ih<|by omega];by_cases hs:s∈aU (mA k)
   ·rcases h k (by omega) hs with h2|h2
    ·exact absurd ⟨h2.1<|by omega,hs⟩ hc
    exact h2.symm
   rw[uW (hr k<|by omega) hs]
 have h3:∀k,j<=k->k<=n->(∀i,j<=i->i<k->s∈aU (mA i)->sd (σs (i+1) s)=sd (σs i s))->sd (σs k s)=sd (σs j s):=by
  intro k
  induction k with
  |zero=>intro hk _ _;have:j=0:=by omega
         subst this;rfl
  |succ k ih=>
   intro hk hn hh;by_cases Sr:j=k+1
   ·subst Sr;rfl
   rw[<-ih (by omega) (by omega) λi a b=>hh i a<|by omega];by_cases hs:s∈aU (mA k)
   ·exact hh k (by omega) (by omega) hs
   rw[uW (hr k<|by omega) hs]
 have h2:∀k,j<=k->k<=n->sd (merge σs mA L s k)=sd (σs j s):=by
  intro k
  induction k with
  |zero=>intro hk _;have:j=0:=by omega
         subst this;rfl
  |succ k ih=>
   intro hk hn;by_cases Sr:j=k+1
   ·subst Sr;simp_all
   unfold merge;by_cases hc:L k=true/\s∈aU (mA k)
   ·rw[if_pos hc];refine h3 (k+1) hk hn λi a b hs=>?_;have hL:L i=true:=by
     by_cases e:i=k
     ·rw[e];exact hc.1
     exact hw i k (by omega) (by omega) hs hc.2 hc.1
    rcases h i (by omega) hs with h4|h4
    ·have:=h4.2 a;rw[this]at hL;cases hL
    exact h4
   rw[if_neg hc,ih (by omega)<|by omega]
 simp_all
def Nd{x y:List Nat×List Nat}(h:indep x y=true):(∀s∈x.2,3*s∉y.1/\s∉y.2/\(3*s+1∈y.1->3*s+2∈x.1))/\∀s∈y.2,3*s∉x.1/\(3*s+1∈x.1->3*s+2∈y.1):=by
 unfold indep at h;simp at h;refine⟨λs hs=>?_,λs hs=>?_⟩
 ·obtain⟨⟨a,b⟩,c⟩:=h.1 s hs;exact⟨a,b,λhh=>c.resolve_left λg=>g hh⟩
 obtain⟨a,c⟩:=h.2 s hs;exact⟨a,λhh=>c.resolve_left λg=>g hh⟩
def Gj{P:Program}{σ σ':St}{ops:Array Oper}{o:Oper}{res:Ask}{ms:List Mv}{mE:List Ob}(h:3*s+2∈ix σ ops o)(hm:eP P σ ops o res=some (ms,mE))(hr:Mv.runs σ ms=some σ'):sd (σ' s)=sd (σ s):=by
 unfold ix at h;split at h
 ·rename_i a r _;simp only[ac5,ac0,agO]at h;rcases h with(h|⟨x,_,h⟩)|h
  ·split at h
   ·cases h
   simp at h;omega
  all_goals omega
 simp at h;rcases h with⟨x,_,h⟩|h
 ·omega
 split at h
 ·rename_i r hp;simp at h;have:s=r:=by omega
  subst this;exact Xo hp hm hr
 cases h
structure Told(P:Program)(N:Nat)(ops:Array Oper)(σs:Nat->St)(mA:Nat->List Mv):Prop where
 flat:∀(k:Nat)(o:Oper),ops[k]?=some o->gj N o=true
 step:∀(k:Nat)(o:Oper),ops[k]?=some o->Mv.runs (σs k) (mA k)=some (σs<|k+1)/\∃res mE,eP P (σs k) ops o res=some (mA k,mE)/\∀ob∈mE,ob.ok P
 low:∀(k:Nat)(o:Oper),ops[k]?=some o->∀e∈o.after,Region.binds .any e=true->e.on<k
 ord:∀(i j:Nat)(oi oj:Oper),i<j->ops[i]?=some oi->ops[j]?=some oj->((sO ops.toList []).getD j 0).testBit i=true\/
  ((∀s∈aU (mA i),3*s∉ix (σs j) ops oj/\s∉aU (mA j)/\(3*s+1∈ix (σs j) ops oj->sd (σs (i+1) s)=sd (σs i s)))/\∀s∈aU (mA j),3*s∉ix (σs i) ops oi/\(3*s+1∈ix (σs i) ops oi->sd (σs (j+1) s)=sd (σs j s)))
def L9{σs:Nat->St}(hG:ky P V w0)(T:Told P N ops σs mA){Q:Exit->Act->World->Prop}(hQ:∀a w,Inv N V w0 S0 (σs ops.size) a w->Q .normal a w):
 ∀(fuel:Nat)(listed:Array Bool)(todo:List Nat)(τ:St)(a:Act)(w:World),listed.size=ops.size->todo.length<=fuel->todo.Nodup->(∀i,i<ops.size->listed.getD i true=false->i∈todo)->
  (∀(j:Nat)(o:Oper),listed.getD j false=true->ops[j]?=some o->∀e∈o.after,Region.binds .any e=true->listed.getD e.on false=true)->
  (∀s,τ s=merge σs mA (λi=>listed.getD i false) s ops.size)->Inv N V w0 S0 τ a w->wpAnyIn (FW V.rd) 0 P .any ops Q fuel listed a w:=by
 have hr:∀k,k<ops.size->Mv.runs (σs k) (mA k)=some (σs<|k+1):=λk hk=>(T.step k _<|adC hk).1;have ZP:∀(listed:Array Bool)(τ:St)(a:Act)(w:World),listed.size=ops.size->(∀s,τ s=merge σs mA (λi=>listed.getD i false) s ops.size)->Inv N V w0 S0 τ a w->
  Region.ready .any ops listed=[]->Q .normal a w:=by
  intro listed τ a w cM hτ hi x8;have jj:∀i,i<ops.size->listed.getD i false=true:=by
   intro i
   induction i using Nat.strongRecOn with
   |ind i ih=>
    intro cS;cases hl:listed.getD i false with
    |true=>rfl
    |false=>
     have:i∈Region.ready .any ops listed:=mem_ready.2 ⟨?_,ops[i],adC cS,λe he hb=>?_⟩
     ·rw[x8]at this;cases this
     ·simp[Array.getD,cM,cS,dite_true]at hl⊢;exact hl
     have:=T.low i _ (adC cS) e he hb;exact ih e.on this (by omega)
  refine hQ a w ?_;have:τ=σs ops.size:=funext λs=>by rw[hτ s,Cx hr (abZ _) λi hi _=>⟨λ_=>jj i hi,λh=>by omega⟩]
  rw[<-this];exact hi
 intro fuel
 induction fuel with
 |zero=>
  intro listed todo τ a w cM hlen BF Pa Bg hτ hi;have x8:Region.ready .any ops listed=[]:=by
   cases hh:Region.ready .any ops listed with
   |nil=>rfl
   |cons j _=>
    have:j∈Region.ready .any ops listed:=by rw[hh];simp
    obtain⟨h1,o,h2,-⟩:=mem_ready.1 this;have:=Pa j (adW.1 h2).1 h1;have:todo=[]:=af4.1 (by omega);subst this;simp at*
  exact⟨x8,ZP listed τ a w cM hτ hi x8⟩
 |succ fuel ih=>
  intro listed todo τ a w cM hlen BF Pa Bg hτ hi;refine⟨ZP listed τ a w cM hτ hi,λj hj=>?_⟩;obtain⟨hl,o,ho,abG⟩:=mem_ready.1 hj;have Ye:j<ops.size:=(adW.1 ho).1;have hlf:listed.getD j false=false:=by simp[Array.getD,cM,Ye,dite_true]at hl⊢;exact hl
  have Ns:∀(k:Nat)(o:Oper),listed.getD k false=true->ops.toList[k]?=some o->∀e∈o.after,Region.binds .any e=true->listed.getD e.on false=true:=λk o h1 h2=>Bg k o h1 (by simpa using h2)
  have Uy:∀s,3*s∈ix (σs j) ops o\/s∈aU (mA j)->∀i,i<ops.size->i≠j->s∈aU (mA i)->(i<j->listed.getD i false=true)/\(j<=i->listed.getD i false=false):=by
   intro s hs i aZ gS hk;refine⟨λcS=>?_,λhle=>?_⟩
   ·rcases T.ord i j _ o cS (adC aZ) ho with h|⟨h,-⟩
    ·exact kQ (L:=λk=>listed.getD k false=true) Ns j o (by simpa using ho) abG i h
    rcases hs with hs|hs
    ·exact absurd hs (h s hk).1
    exact absurd hs (h s hk).2.1
   have cS:j<i:=by omega
   rcases T.ord j i o _ cS ho (adC aZ)with h|⟨h1,h2⟩
   ·cases hli:listed.getD i false with
    |false=>rfl
    |true=>have:=kQ (L:=λk=>listed.getD k false=true) Ns i _ (by rw[ae8];exact adC aZ) (λe he hb=>Bg i _ hli (adC aZ) e he hb) j h;rw[hlf]at this;cases this
   rcases hs with hs|hs
   ·exact absurd hs (h2 s hk).1
   exact absurd hk (h1 s hs).2.1
  have hag:∀s,3*s∈ix (σs j) ops o\/s∈aU (mA j)->τ s=σs j s:=by
   intro s hs;rw[hτ s];refine Cx hr (by omega) λi aZ hk=>?_;by_cases gS:i=j
   ·subst gS;exact⟨λh=>by omega,λ_=>hlf⟩
   exact Uy s hs i aZ gS hk
  have hhd:∀s,3*s+1∈ix (σs j) ops o->sd (τ s)=sd (σs j s):=by
   intro s hs;rw[hτ s];refine MU hr (by omega) (λi aZ hk=>?_) (λi k hik gp hki hkk hlk=>?_)
   ·by_cases gS:i=j
    ·subst gS;exact .inl ⟨λh=>by omega,λ_=>hlf⟩
    by_cases cS:i<j
    ·rcases T.ord i j _ o cS (adC aZ) ho with h|⟨h,-⟩
     ·exact .inl ⟨λ_=>kQ (L:=λk=>listed.getD k false=true) Ns j o (by simpa using ho) abG i h,λh=>by omega⟩
     exact .inr<|(h s hk).2.2 hs
    rcases T.ord j i o _ (by omega) ho (adC aZ)with h|⟨-,h⟩
    ·refine .inl ⟨λh=>by omega,λ_=>?_⟩;cases hli:listed.getD i false with
     |false=>rfl
     |true=>have:=kQ (L:=λk=>listed.getD k false=true) Ns i _ (by rw[ae8];exact adC aZ) (λe he hb=>Bg i _ hli (adC aZ) e he hb) j h;rw[hlf]at this;cases this
    exact .inr<|(h s hk).2 hs
   rcases T.ord i k _ _ hik (adC<|by omega) (adC gp)with h|⟨h,-⟩
   ·exact kQ (L:=λk=>listed.getD k false=true) Ns k _ (by rw[ae8];exact adC gp) (λe he hb=>Bg k _ hlk (adC gp) e he hb) i h
   exact absurd hkk (h s hki).2.1
  obtain⟨bL,res,mE,aeL,CT⟩:=T.step j o ho;have abJ:eP P τ ops o res=some (mA j,mE):=by rw[Jx (λs hs=>hag s<|.inl hs) hhd];exact aeL
  obtain⟨τ',r1,r2,r3⟩:=qD (mA j) (τ:=τ) (λs hs=>hag s<|.inr hs) bL;unfold wpOpIn;rw[ho];have key:=Cj (ops:=ops) (o:=o) (K:=wpAnyIn (FW V.rd) 0 P .any ops Q fuel<|listed.setIfInBounds j true) (Q:=Q) hG hi (T.flat j o ho) abJ r1 CT ?_
  ·show if _ then _ else _;split
   ·rename_i hw;rw[if_pos hw]at key;exact key
   rename_i hw;rw[if_neg hw]at key;exact⟨λ_ _=>trivial,key⟩
  intro a' w' aZ;have dc:∀i,i≠j->(listed.setIfInBounds j true).getD i false=listed.getD i false:=λi gS=>getD_set_ne false λe=>gS e.symm;have lj:(listed.setIfInBounds j true).getD j false=true:=by simp[Array.getD,cM,Ye]
  refine ih _ (todo.erase j) τ' a' w' (by simpa using cM) ?_ (BF.erase j) (λi abS hh=>?_) (λk o' hk Pk e he hb=>?_) (λs=>?_) aZ
  ·have:=Pa j Ye hl;rw[List.length_erase_of_mem this];omega
  ·have gS:i≠j:=by
    rintro rfl;simp[Array.getD,cM,Ye]at hh
   rw[List.Nodup.mem_erase_iff BF];refine⟨gS,Pa i abS ?_⟩;have:=getD_set_ne (listed:=listed) true (λe=>gS e.symm:j≠i);rw[this]at hh;exact hh
  ·by_cases hkj:k=j
   ·subst hkj;rw[ho]at Pk;cases Pk;exact getD_set_true<|abG e he hb
   rw[dc k hkj]at hk;exact getD_set_true<|Bg k o' hk Pk e he hb
  by_cases hs:s∈aU (mA j)
  ·rw[r2 s hs];symm;refine Cx hr (by omega) λi abS hk=>?_;by_cases gS:i=j
   ·subst gS;exact⟨λ_=>lj,λh=>by omega⟩
   have:=Uy s (.inr hs) i abS gS hk;rw[dc i gS];exact⟨λh=>this.1<|by omega,λh=>this.2<|by omega⟩
  rw[r3 s hs,hτ s];exact(FO (λi gS=>dc i gS) hs _).symm
def aS.drew{B:Nat->Prop}{F:Nat->List Nat}{T:Nat->Value}(h:aS S B σ T w F):aS S B σ T {w with drawn:=w.drawn+1} F:=
 h.step (w':={w with drawn:=w.drawn+1}) (S':=S) ⟨λ_=>.refl,λ_=>.refl,λ_ _=>rfl,λ_ _ _=>⟨λ_ y hy=>⟨y,hy⟩,λ_ _=>rfl⟩⟩ (λ_ h=>h)
  (λ_=>.inl ⟨rfl,rfl,rfl,λ_ _=>rfl⟩) h.nodup h.di h.own h.shr
def Inv.drew(h:Inv N V w0 S0 σ a w):Inv N V w0 S0 σ a {w with drawn:=w.drawn+1}:=by obtain⟨S,F,hc,hN,jx,jn,gD,dB⟩:=h;exact⟨S,F,hc.drew,hN,jx,jn,gD,⟨dB.os,dB.tape,dB.output,dB.size,dB.block⟩⟩
def EU{id:Nat}{K:St->Prop}(hm:P.follows .mixedOrders=true)(bt:ops.toList.all (gj N)=true)(Yc:lower ops.toList=true){mm:List Nat}(UI:sO ops.toList []=mm)
 (h:tl P ops ops.toList σ [] λQO σ'=>apart mm QO ops.size=true/\K σ'):AW R P N (.region id ops true) (λe σ'=>e=.normal/\K σ') σ:=by
 intro V w0 S0 a w hR hi;refine wpIn_region_any hm ?_;obtain⟨σs,rs,mA,mE,R,e0,e1,⟨e2,e3⟩,e4⟩:=tl.spec _ _ _ _ h;simp at e1 e2 e3;have hT:Told P N ops σs mA:=by
  refine⟨λk o ho=>?_,λk o ho=>?_,λk o ho e he hb=>?_,λi j oi oj gS hoi hoj=>?_⟩
  ·exact ade.1 bt o (by have:=Array.mem_of_getElem? ho;simpa using this)
  ·obtain⟨h1,h2,h3,-⟩:=e4 k o (by simpa using ho);exact⟨h3,_,_,h1,h2⟩
  ·unfold lower at Yc;have hk:=(adW.1 ho).1;have:=ade.1 Yc k (by simpa using hk);rw[ae8,ho]at this;simp only[ahq,Option.getD_some,ade,ag5,decide_eq_true_eq]at this;rcases this e (by simpa using he)with h|h
   ·rw[hb]at h;cases h
   exact h
  have hj:=(adW.1 hoj).1;have h1:=ade.1 e2 j (by simpa using hj);have h2:=ade.1 h1 i (by simpa using gS);obtain⟨-,-,-,r1⟩:=e4 i oi (by simpa using hoi);obtain⟨-,-,-,r2⟩:=e4 j oj (by simpa using hoj);rw[ag5]at h2;rw[UI];rcases h2 with h2|h2
  ·exact .inl h2
  rw[aca,aca,r1,r2]at h2;obtain⟨i1,i2⟩:=Nd h2;obtain⟨p1,-,p3,-⟩:=e4 i oi (by simpa using hoi);obtain⟨u1,-,u3,-⟩:=e4 j oj (by simpa using hoj);exact .inr ⟨λs hs=>⟨(i1 s hs).1,(i1 s hs).2.1,λh=>Gj ((i1 s hs).2.2 h) p1 p3⟩,λs hs=>⟨(i2 s hs).1,λh=>Gj ((i2 s hs).2 h) u1 u3⟩⟩
 refine L9 (w0:=w0) (S0:=S0) hR.2 hT (λa' w' aZ=>⟨_,⟨rfl,e3⟩,aZ.x⟩) ops.size _ (List.range ops.size) σ a _ (by simp) (by simp) List.nodup_range (λi aZ _=>by simpa using aZ) (λj o hj=>?_) (λs=>?_) hi.drew
 ·simp[Array.getD]at hj
 have:∀n,merge σs mA (λi=>(Array.replicate ops.size false).getD i false) s n=σs 0 s:=by
  intro n
  induction n with
  |zero=>rfl
  |succ n ih=>unfold merge;rw[if_neg λhh=>?_,ih];have:=hh.1;simp[Array.getD]at this
 rw[this,e0]
end
end
section
variable{R:Option Nat->Prop}{P:Program}{N:Nat}{w0 w w':World}{V:Hid}{S S0 S':Nat->Prop}{σ σ' τ:St}{a:Act}{Q Q':Exit->St->Prop}
section
variable{c:Code}{b:Frame}{f:FuncId}{ds:List Deferred}{k:List Item}{n:Nat}{F:Nat->List Nat}
def j8{P:Program}{a:Act}{cs:List Frame}{w:World}:step P (lone (b.atR a<|.code (.scope c)::k) cs w)=.next (lone (b.atR a<|.code c::.inScope c::k) cs w):=step_lone_go (by simp[stepG,stepG.exec,Frame.atR])
def Eb{P:Program}{a:Act}{cs:List Frame}{w:World}:step P (lone (b.atR a<|.inScope c::k) cs w)=.next (lone (b.atR a k) cs w):=step_lone_go (by simp[stepG,stepG.exec,Frame.atR])
def tX{F:Fence}{P:Program}{Q:Exit->Act->World->Prop}{a:Act}{w:World}(h:c.wpIn F n P (Exit.noGoto Q) a w):(Code.scope c).wpIn F n P Q a w:=by
 intro b k cs hro hb hr;have h0:(lone (b.atR a<|.code (.scope c)::k) cs w).fenced P F:=fenced_calm hb hr rfl;obtain⟨e,a₁,w₁,hq,oA⟩:=h b (.inScope c::k) cs hro hb hr;cases e with
 |normal=>exact⟨.normal,a₁,w₁,hq,.head h0 j8<|StepsIn.trans oA<|.one (fenced_calm hb hr rfl) Eb⟩
 |exit id=>
  have hx:exitTo id (.inScope c::k)=exitTo id k:=by simp[exitTo]
  exact⟨.exit id,a₁,w₁,hq,λk' hk=>.head h0 j8<|oA.1 k'<|by rw[hx];exact hk,λrH hk=>let⟨k₁,h1,h2⟩:=oA.2 rH (by rw[hx];exact hk);⟨k₁,h1,.head h0 j8 h2⟩⟩
 |goto l=>exact hq.elim
 |ret=>exact⟨_,a₁,w₁,hq,.of_steps (.one h0 j8) oA⟩
 |panic ch=>exact⟨_,a₁,w₁,hq,.of_steps (.one h0 j8) oA⟩
 |outgrown=>exact⟨_,a₁,w₁,hq,.of_steps (.one h0 j8) oA⟩
def jm(h:AW R P N c Q σ)(hq:∀e σ',Q e σ'->Q' e σ'):AW R P N c Q' σ:=λV w0 S0 a w hR hi=>wpIn_mono (h V w0 S0 a w hR hi) λ_ _ _⟨σ',h1,h2⟩=>⟨σ',hq _ _ h1,h2⟩
def adM(R:Option Nat->Prop)(P:Program)(N:Nat)(c:Code)(Q:Exit->St->Prop):Exit->St->Prop
 |.normal,σ=>AW R P N c Q σ
 |e,σ=>Q e σ
def VQ{x y:Code}(h:AW R P N x (adM R P N y Q) σ):AW R P N (.seq x y) Q σ:=λV w0 S0 a w hR hi=>
 wpIn_seq (wpIn_mono (h V w0 S0 a w hR hi) λe a' w'⟨σ',h1,h2⟩=>by
  cases e with
  |normal=>exact h1.x hR h2
  |_=>exact⟨σ',h1,h2⟩)
def Za(h:Q .normal σ):AW R P N .skip Q σ:=λ_ _ _ _ _ _ hi=>wpIn_skip ⟨σ,h,hi.x⟩
def VT{l:Nat}(h:Q .normal σ):AW R P N (.label l) Q σ:=λ_ _ _ _ _ _ hi=>wpIn_label ⟨σ,h,hi.x⟩
def Zc{id:Nat}(h:Q (.exit id) σ):AW R P N (.exit id) Q σ:=λ_ _ _ _ _ _ hi=>wpIn_exit ⟨σ,h,hi.x⟩
def acM(h:Q .ret σ):AW R P N .ret Q σ:=λ_ _ _ _ _ _ hi=>wpIn_ret ⟨σ,h,hi.x⟩
def Iw{c:Operand}{x y:Code}{t:Bool}(hf:aI c=true)(hc:(resolve σ c).cont=some (.v<|.bool t))(h:AW R P N (if t then x else y) Q σ):AW R P N (.cond c x y) Q σ:=λV w0 S0 a w hR hi=>wpIn_cond (t:=t) (by obtain⟨S,F,gw,-⟩:=id hi;exact dj gw c hf hc)<|h V w0 S0 a w hR hi
def Kk(id:Nat)(Q:Exit->St->Prop):Exit->St->Prop
 |.exit Uq,σ=>if Uq=id then Q .normal σ else Q (.exit Uq) σ
 |e,σ=>Q e σ
def VU{id:Nat}{c:Code}(h:AW R P N c (Kk id Q) σ):AW R P N (.block id c) Q σ:=λV w0 S0 a w hR hi=>
 wpIn_block (wpIn_mono (h V w0 S0 a w hR hi) λe a' w'⟨σ',h1,h2⟩=>by
  cases e with
  |exit Uq=>simp[Exit.inBlock,Kk]at h1⊢;split<;>rename_i hh<;>simp[hh]at h1<;>exact⟨σ',h1,h2⟩
  |_=>exact⟨σ',h1,h2⟩)
def XA(Q:Exit->St->Prop):Exit->St->Prop
 |.goto _,_=>False
 |e,σ=>Q e σ
def VR{c:Code}(h:AW R P N c (XA Q) σ):AW R P N (.scope c) Q σ:=λV w0 S0 a w hR hi=>
 tX (wpIn_mono (h V w0 S0 a w hR hi) λe a' w'⟨σ',h1,h2⟩=>by
  cases e with
  |goto l=>exact h1
  |_=>exact⟨σ',h1,h2⟩)
def aaO(I:Nat->St->Prop)(n:Nat)(Q:Exit->St->Prop):Exit->St->Prop
 |.normal,σ=>∃m,m<n/\I m σ
 |e,σ=>Q e σ
def Zb(I:Nat->St->Prop)(h0:I n σ)(round:∀n σ,I n σ->AW R P N c (aaO I n Q) σ):AW R P N (.loop c) Q σ:=by
 intro V w0 S0 a w hR hi b k cs hro hb hr;have key:∀n σ a w,I n σ->nk N V w0 S0 σ a w->
  ∃e a' w',(∃σ',Q e σ'/\nk N V w0 S0 σ' a' w')/\ArrivesIn (Machine.fenced P<|FW V.rd) P (lone (b.atR a<|.code c::.inLoop c::k) cs w) b k cs e a' w':=by
  intro n
  induction n using Nat.strongRecOn with
  |_ n ih=>
   intro σ a w hI hi;obtain⟨e,a₁,w₁,⟨σ₁,hq,pO⟩,oA⟩:=(round n σ hI).x hR hi b (.inLoop c::k) cs hro hb hr;cases e with
   |normal=>obtain⟨m,cS,afO⟩:=hq;obtain⟨e₂,a₂,w₂,Pf,qT⟩:=ih m cS σ₁ a₁ w₁ afO pO;exact⟨e₂,a₂,w₂,Pf,.of_steps (StepsIn.trans oA<|.one (fenced_calm hb hr rfl) stepR_inLoop) qT⟩
   |exit id=>exact⟨_,a₁,w₁,⟨σ₁,hq,pO⟩,.pass (x:=.inLoop c) rfl (λ_ _=>.inl<|by simp) oA⟩
   |goto l=>exact⟨_,a₁,w₁,⟨σ₁,hq,pO⟩,.pass (x:=.inLoop c) rfl (λ_ _=>.inl<|by simp) oA⟩
   |ret=>exact⟨_,a₁,w₁,⟨σ₁,hq,pO⟩,.pass (x:=.inLoop c) rfl (λ_ _=>.inl<|by simp) oA⟩
   |panic ch=>exact⟨_,a₁,w₁,⟨σ₁,hq,pO⟩,.pass (x:=.inLoop c) rfl (λ_ _=>.inl<|by simp) oA⟩
   |outgrown=>exact⟨_,a₁,w₁,⟨σ₁,hq,pO⟩,.pass (x:=.inLoop c) rfl (λ_ _=>.inl<|by simp) oA⟩
 obtain⟨e,a',w',hq,oA⟩:=key n σ a w h0 hi.x;exact⟨e,a',w',hq,.of_steps (.one (fenced_calm hb hr rfl) stepR_loop) oA⟩
def Cells.get:∀{xs:List AV}{vs:List Value}{F:List Nat}(i:Nat),Cells w S false xs vs F->F=[]->match xs[i]?with|some x=>∃v,vs[i]?=some v/\Rel w S x v []|none=>True
 |[],vs,F,i,h,_=>by simp
 |x::xs,vs,F,i,h,hF=>by
  obtain⟨y,l',F1,F2,rfl,rfl,h3,h4,h5⟩:=h;obtain⟨rfl,rfl⟩:=ag8.1 hF;cases i with
  |zero=>simp_all
  |succ i=>simpa using Cells.get i h5 rfl
def Rq{args:List AV}{vs:List Value}(hV:V.df=[])(hS:∀b,S b->b<w.heap.size)(hc:Cells w S false args vs [])(hN:vs.length<=N):
 Inv N V w S (mk<|entry 0 args) {tmps:=vs.toArray++Array.replicate (N-vs.toArray.size) undef,defers:=[]} w:=by
 refine⟨S,λ_=>[],⟨λi=>?_,λ_=>adn,by simp,by simp,hS⟩,by simp;omega,hV.symm,λ_ h=>h,λ_ h=>.inl h,lP.refl _ _⟩;have hg:=Cells.get i hc rfl;have he:=pQ args 0 i;simp at he;cases hx:args[i]?with
 |none=>rw[hx]at he;rw[ak.aB<|by rw[he];rfl,he];simp[Rel]
 |some x=>
  rw[hx]at he hg;obtain⟨v,hv,hr⟩:=hg;rw[ak.aB<|by rw[he];exact hr.plain,he];have:tv V {tmps:=vs.toArray++Array.replicate (N-vs.toArray.size) undef,defers:=[]} i=v:=by have hi:=(afM.1 hv).1;rw[vP V _<|.inr<|by simp;omega];simp;rw[Array.getElem?_append_left hi];simp[hv]
  rw[this];exact hr
def iP(P:Program)(σ:St):List ResultVar->Option (List AV)
 |[]=>some []
 |.tmp t::rs=>if(σ t).av.plain then match iP P σ rs with
   |some xs=>some ((σ t).av::xs)
   |none=>none
  else none
 |.cell t ty::rs=>match(σ t).av with
  |.box true x=>match bY P ty with
   |some ti=>if fits ti x then match iP P σ rs with
     |some xs=>some (x::xs)
     |none=>none
    else none
   |none=>none
  |_=>none
def jO:ResultVar->Nat
 |.tmp t=>t
 |.cell t _=>t
def eE:List ResultVar->List Nat->Bool
 |[],_=>true
 |r::rs,ts=>(!ts.contains (jO r)&&Nat.blt (jO r) 1000000)&&eE rs (jO r::ts)
def nN(xs:List AV):AV:=match xs with|[x]=>x|xs=>.bX xs
def uv(ys:Array Value):Value:=if h:ys.size=1 then ys[0]else .tuple ys
def Bu(tmps:Array Value):ResultVar->Sem Value
 |.tmp t=>pure (tmps.getD t undef)
 |.cell a t=>do loadVar t (←asAddr (tmps.getD a undef))
def B5(fn:Func)(tmps:Array Value):results fn tmps=(do let vs←fn.results.mapM (Bu tmps);pure (uv vs)):=by congr 1
def qG{F:Nat->List Nat}{B:Nat->Prop}(h:aS S B σ (tv V a) w F):∀(rs:List ResultVar)(ts:List Nat){xs:List AV},eE rs ts=true->iP P σ rs=some xs->
 ∃vs F',(rs.mapM<|Bu a.tmps).run P w=.ok vs w/\Cells w S false xs vs F'/\F'.Nodup/\∀b∈F',∃i,i∉ts/\i<1000000/\b∈F i
 |[],ts,xs,_,hx=>by simp[iP,abr]at hx;subst hx;exact⟨[],[],by simp,by simp[Cells],by simp,by simp⟩
 |r::rs,ts,xs,hd,hx=>by
  simp only[eE,acd,agq,List.contains_eq_mem,decide_eq_false_iff_not]at hd;have wX:jO r<1000000:=adk (show Nat.ble (jO r+1) 1000000=true from hd.1.2)
  replace hd:jO r∉ts/\eE rs (jO r::ts)=true:=⟨hd.1.1,hd.2⟩
  have key:∃y rY v F1,iP P σ rs=some rY/\xs=y::rY/\(Bu a.tmps r).run P w=.ok v w/\Rel w S y v F1/\F1.Nodup/\∀b∈F1,b∈F (jO r):=by
   cases r with
   |tmp t=>
    simp only[iP]at hx;split at hx<;>try(cases hx;done)
    rename_i hp;split at hx<;>try(cases hx;done)
    rename_i rY Ru;cases hx;have hr:=h.rel t;rw[ak.aB hp]at hr;exact⟨_,rY,tv V a t,F t,Ru,rfl,by rw[vP V a (i:=t)<|.inl wX];rfl,hr,h.nodup t,λb hb=>hb⟩
   |cell t ty=>
    simp[iP]at hx;split at hx<;>try(cases hx;done)
    rename_i x cC;split at hx<;>try(cases hx;done)
    rename_i ti gR;split at hx<;>try(cases hx;done)
    rename_i n8;split at hx<;>try(cases hx;done)
    rename_i rY Ru;cases hx;have hr:=h.rel t;rw[ak.aB<|by rw[cC];rfl,cC]at hr;obtain⟨b,cs,fz,F',z,e1,e2,e3,e4,e5,e6⟩:=hr;refine⟨x,rY,z,F',Ru,rfl,?_,e3,?_,?_⟩
    ·have wW:a.tmps.getD t undef=.pointer (some ⟨b,0,none⟩):=(vP V a (i:=t)<|.inl wX).symm.trans e1;have Wz:At w ⟨b,0,none⟩ z:=⟨rfl,cs,fz,e2,λj u hu=>by rw[afP,<-e4];exact hu⟩;simp only[Bu,wW];simp[Sem.run_bind];have:(asAddr<|.pointer<|some ⟨b,0,none⟩).run P w=.ok ⟨b,0,none⟩ w:=rfl;rw[this];exact kK gR Wz (kS n8 e3)
    ·have:=h.nodup t;rw[e6]at this;exact(adm.1 this).2
    intro c hc;simp only[jO,e6];exact ah1 _ hc
  obtain⟨y,rY,v,F1,Ru,rfl,bL,fK,BF,hF⟩:=key;obtain⟨vs,F',k1,k2,k3,k4⟩:=qG h rs (jO r::ts) hd.2 Ru;refine⟨v::vs,F1++F',?_,?_,?_,?_⟩
  ·rw[List.mapM_cons];simp[Sem.run_bind,bL,Result.andThen_ok,k1,Sem.run_pure]
  ·simp only[Cells];exact⟨_,_,_,_,rfl,rfl,by simp,fK,k2⟩
  ·rw[acT];refine⟨BF,k3,λb hb c hc e=>?_⟩;subst e;obtain⟨i,hi,-,hbi⟩:=k4 b hc;exact h.di (jO r) i (λe=>hi<|by simp[e]) b (hF b hb) hbi
  intro b hb;rcases ac5.1 hb with hb|hb
  ·exact⟨jO r,hd.1,wX,hF b hb⟩
  obtain⟨i,hi,cS,hbi⟩:=k4 b hb;exact⟨i,λhm=>hi<|by simp[hm],cS,hbi⟩
def tp(x y:AV):Prop:=∀(w:World)(S:Nat->Prop)(v:Value)(F:List Nat),Rel w S x v F->Rel w S y v F
def uJ(x y:AV):Prop:=∀(w:World)(S:Nat->Prop)(v:Value)(F:List Nat),Rel w S x v F->∃F1 F2,F.Perm (F1++F2)/\∀S':Nat->Prop,(∀b,S b->S' b)->(∀b∈F2,S' b)->Rel w S' y v F1
def uJ.of_le{x y:AV}(h:tp x y):uJ x y:=λw S v F hr=>⟨F,[],by simp,λ_ hS _=>Rel.mono hS y<|h w S v F hr⟩
def uJ.share(x:AV):uJ x x.bw:=λw S v F hr=>⟨[],F,by simp,λ_ hS hF=>Rel.share hS x hr hF⟩
def af8(P:Program)(rs:List ResultVar)(r:AV):Exit->St->Prop
 |.normal,σ=>∃xs,iP P σ rs=some xs/\uJ (nN xs) r
 |.ret,σ=>∃xs,iP P σ rs=some xs/\uJ (nN xs) r
 |_,_=>False
def rX.pH{fn:Func}{vs:Array Value}{R:Value->World->Prop}(hf:P.funcs[f]?=some fn)(hb:fn.body.isNone=false)(hn:(fn.name== "runtime.NumGoroutine")=false)
 (h:Calls P f vs w λe w'=>∃v,e=.returned v/\R v w'):rX P f vs w R:=by
 intro rd o a next Q hK
 have:(callFunc f vs).run P w=.ok (.enter f vs) w:=by
  have hn':¬fn.name= "runtime.NumGoroutine":=by simpa using hn
  have dO:¬fn.body=none:=by intro h;rw[h]at hb;cases hb
  unfold callFunc;simp[hf,dO,hn']
 rw[this];refine⟨(λh=>by cases h),N8 ?_⟩;intro cs;obtain⟨e,w',fr,⟨v,rfl,hr⟩,h2⟩:=h cs;exact⟨_,w',fr,hK v w' hr,h2⟩
def TK:Hid:={v:=λ_=>undef,g:=λ_=>False}
def Cv{w:World}{b:Nat}(h:cu TK w b):w.heap.size<=b:=h.elim id False.elim
def lP.below{w w':World}(h:lP TK w w'):Below w.heap.size w w':=⟨h.os,h.tape,h.output,h.size,λk hk=>h.block k hk id⟩
def V9(ds:List Deferred)(w w':World):Prop:=w'.os=w.os/\w'.tape=w.tape/\w'.output=w.output/\w'.heap.size=w.heap.size/\∀k,w'.heap[k]?=w.heap[k]?\/({target:=.collected k,args:=#[]}∈ds/\w.heap[k]?=some (.deferred<|some [])/\w'.heap[k]?=some (.deferred none))
def V9.same{V:Hid}{w w':World}(h:V9 ds w w')(hm:Marks V w0 w S F ds){b:Nat}(hb:S b\/∃i,b∈F i):w'.heap[b]?=w.heap[b]?:=by
 rcases h.2.2.2.2 b with e|⟨e,-,-⟩
 ·exact e
 obtain⟨D,e1,-,-,k1,k2⟩:=hm.2 _ e;simp at e1;rcases hb with hb|⟨i,hb⟩
 all_goals simp_all
def qR{F:Fence}{n:Nat}{fn:Func}{tmps:Array Value}{R:Ending->World->Prop}:∀(ds:List Deferred)(w:World),ds.Nodup->(∀d∈ds,∃D,d={target:=.collected D,args:=#[]}/\w.heap[D]?=some (.deferred<|some []))->
 (∀w',V9 ds w w'->LeavesInM F n P fn tmps R [] .returning w')->LeavesInM F n P fn tmps R ds .returning w
 |[],w,_,_,h=>h w ⟨rfl,rfl,rfl,rfl,λ_=>.inl rfl⟩
 |d::ds,w,hn,hd,h=>by
  obtain⟨D,rfl,hD⟩:=hd d (by simp);have cS:=(adW.1 hD).1;refine⟨by simp,.inl ⟨D,_,rfl,run_takeDeferred hD,?_⟩⟩;have dc:∀k,k≠D->(w.putObj D<|.deferred none).heap[k]?=w.heap[k]?:=λk hk=>World.putObj_heap_other hk;have uz:(w.putObj D<|.deferred none).heap[D]?=some (.deferred none):=World.putObj_heap_same cS;rw[adm]at hn;refine qR ds _ hn.2 (λd' Pu=>?_) λw' hw=>h w' ?_
  ·obtain⟨D',rfl,hD'⟩:=hd d' (by simp[Pu]);have:D'≠D:=by rintro rfl;exact hn.1 Pu
   exact⟨D',rfl,by rw[dc D' this];exact hD'⟩
  obtain⟨s1,s2,s3,s4,s5⟩:=hw;refine⟨s1,s2,s3,by rw[s4];simp,λk=>?_⟩;by_cases hk:k=D
  ·subst hk;rcases s5 k with e|⟨e,-⟩
   ·exact .inr ⟨by simp,hD,by rw[e];exact uz⟩
   simp_all
  rcases s5 k with e|⟨e,e1,e2⟩
  ·simp_all
  exact .inr ⟨by simp[e],by rw[<-dc k hk];exact e1,e2⟩
def aS.shut{V:Hid}{B:Nat->Prop}{T:Nat->Value}(h:aS S B σ T w F)(hm:Marks V w0 w S F ds)(hs:V9 ds w w'):aS S B σ T w' F:=
 h.step (w':=w') (S':=S) ⟨λ_=>.refl,λ_=>.refl,λ_ _=>rfl,λ_ _ _=>⟨λ_ y hy=>⟨y,hy⟩,λ_ h=>hs.same hm<|h.imp id λh=>⟨_,h⟩⟩⟩ (λ_ h=>h)
  (λ_=>.inl ⟨rfl,rfl,rfl,λ_ h=>hs.same hm<|h.imp id λh=>⟨_,h⟩⟩) h.nodup h.di (λi b hb=>by rw[hs.2.2.2.1];exact h.own i b hb) (λb hb=>by rw[hs.2.2.2.1];exact h.shr b hb)
def lP.shut{V:Hid}{S:Nat->Prop}(h:lP V w0 w)(hm:Marks V w0 w S F ds)(hs:V9 ds w w'):lP V w0 w':=by
 obtain⟨s1,s2,s3,s4,s5⟩:=hs;refine⟨s1.trans h.os,s2.trans h.tape,s3.trans h.output,by rw[s4];exact h.size,λk hk hg=>?_⟩;rcases s5 k with e|⟨e,-⟩
 ·rw[e];exact h.block k hk hg
 obtain⟨D,e1,-,e2,-⟩:=hm.2 _ e;simp at e1;omega
def I8{fn:Func}{args:List AV}{r:AV}(hf:P.funcs[f]?=some fn)(hb:fn.body=some c)(hn:(fn.name== "runtime.NumGoroutine")=false)(hlen:args.length<=fn.ntmps)
 (hd:eE fn.results.toList []=true)(h:AW R0 P fn.ntmps c (af8 P fn.results.toList r) (mk<|entry 0 args)):Sound P f args r:=by
 intro w S vs hG hS hc;have hl:=Cells.length hc;refine rX.pH hf (by rw[hb];rfl) hn<|(callsIn_wide (n:=0)).1<|callsIn_of_wp_marks hf hb ao<|wpIn_mono (h TK w S _ w ⟨rfl,hG,λ_ _ h=>h⟩<|Rq rfl hS hc<|by omega) λe a' w1⟨σ',h1,S',F,ds,ab1,hN,jx,jn,gD,vp,hm⟩=>?_;have jx:a'.defers=ds:=by rw[jx];exact adw _
 have gen:(∃xs,iP P σ' fn.results.toList=some xs/\uJ (nN xs) r)->LeavesInM Fence.wide 0 P fn a'.tmps (λe w'=>∃v,e=.returned v/\∃S' F,Below w.heap.size w w'/\(∀b,S b->S' b)/\(∀b,S' b->S b\/w.heap.size<=b)/\(∀b,S' b->b<w'.heap.size)/\Rel w' S' r v F/\F.Nodup/\∀b∈F,w.heap.size<=b/\b<w'.heap.size/\¬S' b) a'.defers .returning w1:=by
  intro gM;rw[jx];refine qR ds w1 hm.1 (λd hd=>by obtain⟨D,k1,k2,-⟩:=hm.2 d hd;exact⟨D,k1,k2⟩) λw' yM=>?_;have gw:=ab1.shut hm yM;have dB:=vp.shut hm yM;have key:(∃xs,iP P σ' fn.results.toList=some xs/\uJ (nN xs) r)->∃v,(results fn a'.tmps).run P w'=.ok v w'/\∃v',Ending.returned v=.returned v'/\
   ∃S' F,Below w.heap.size w w'/\(∀b,S b->S' b)/\(∀b,S' b->S b\/w.heap.size<=b)/\(∀b,S' b->b<w'.heap.size)/\Rel w' S' r v' F/\F.Nodup/\∀b∈F,w.heap.size<=b/\b<w'.heap.size/\¬S' b:=by
   rintro⟨xs,hx,hle⟩;obtain⟨vs,F',k1,k2,k3,k4⟩:=qG gw _ [] hd hx;have eQ:∀b∈F',w.heap.size<=b/\b<w'.heap.size/\¬S' b:=λb hb=>by obtain⟨i,-,-,hi⟩:=k4 b hb;have:=gw.own i b hi;exact⟨Cv this.1,this.2⟩
   have IH:(results fn a'.tmps).run P w'=.ok (uv vs.toArray) w':=by rw[B5,Array.mapM_eq_mapM_toList];simp only[map_eq_pure_bind,bind_assoc,pure_bind,Sem.run_bind,k1,Result.andThen_ok,Sem.run_pure]
   obtain⟨F1,F2,hp,hq⟩:=hle w' S' (uv vs.toArray) F' (by
    generalize oy:vs.toArray=ys;have hyl:vs=ys.toList:=by rw[<-oy]
    rw[hyl]at k2;unfold uv;have hlen:=Cells.length k2;cases xs with
    |nil=>rw[dif_neg<|by simp at hlen;simp[hlen]];exact⟨ys,rfl,k2⟩
    |cons x xs=>cases xs with
     |nil=>
      have h1:ys.size=1:=by simpa using hlen
      rw[dif_pos h1];obtain⟨y,l',F1,F2,e1,rfl,-,k5,rfl,rfl⟩:=k2;have:ys[0]=y:=by have:ys=#[y]:=acN e1;subst this;rfl
      rw[this];simpa[nN]using k5
     |cons x' xs=>rw[dif_neg<|by simp at hlen;omega];exact⟨ys,rfl,k2⟩)
   have m1:∀b∈F1,b∈F':=λb hb=>hp.mem_iff.2 (by simp[hb]);have m2:∀b∈F2,b∈F':=λb hb=>hp.mem_iff.2 (by simp[hb]);have hn:=acT.1<|hp.nodup_iff.1 k3;refine⟨_,IH,_,rfl,λb=>S' b\/b∈F2,F1,dB.below,λb hb=>.inl<|jn b hb,?_,?_,hq _ (λb hb=>.inl hb) λb hb=>.inr hb,hn.1,λb hb=>?_⟩
   ·rintro b(hb|hb)
    ·exact(gD b hb).imp id Cv
    exact .inr (eQ b<|m2 b hb).1
   ·rintro b(hb|hb)
    ·exact gw.shr b hb
    exact(eQ b<|m2 b hb).2.1
   have ho:=eQ b<|m1 b hb;refine⟨ho.1,ho.2.1,?_⟩;rintro(h|h)
   ·exact ho.2.2 h
   exact hn.2.2 b hb b h rfl
  exact key gM
 cases e with
 |normal=>exact gen h1
 |ret=>exact gen h1
 |_=>exact h1.elim
end
end
def msE(P:Program)(ops:Array Oper)(σ:St)(o:Oper):Option (List Mv):=
 match eP P σ ops o (.SW .dead)with
 |some (ms,[])=>some ms
 |_=>none
def vK{α:Type}(x:Option α)(k:α->Prop):Prop:=∃a,x=some a/\k a
@[simp] theorem qi{α:Type}(a:α)(k:α->Prop):vK (some a) k=k a:=by simp[vK]
@[simp] theorem adG{α:Type}(k:α->Prop):vK none k=False:=by simp[vK]
def Gc(σ:St)(f:bM)(aas:List bM):Option (FuncId×List AV×List Mv):=
 match f.cont with
 |some (.fn (.func g) first captured)=>if bx first&&bx captured then match gL aas with
   |some ys=>some (g,first++ys++captured,shares aas)
   |none=>none
  else none
 |_=>none
def zQ(d:Option Nat)(res:AV)(sh:List Mv):Option (List Mv):=
 if !res.bJ then match sh with
  |[]=>some (cK d res [])
  |[m]=>some (cK d res [m])
  |_=>none
 else some (cK d res [])
def xH(o:Oper):Option Call:=
 match o.op with
 |.call c=>match c.callee with
  |.value _=>some c
  |_=>none
 |_=>none
def BH(c:Call):Operand:=match c.callee with|.value f=>f|_=>.global 0
def aam(P:Program)(h:FuncId×List AV×List Mv)(k:AV->Prop):Prop:=∃r,Sound P h.1 h.2.1 r/\k r
def Jh(P:Program)(ops:Array Oper)(o:Oper)(σ:St)(K:List Mv->St->Prop):Prop:=∃res ms mE σ',eP P σ ops o res=some (ms,mE)/\(∀ob∈mE,ob.ok P)/\Mv.runs σ ms=some σ'/\K ms σ'
def rp(P:Program)(ops:Array Oper):List Oper->St->(St->Prop)->Prop
 |[],σ,K=>K σ
 |o::rest,σ,K=>Jh P ops o σ λ_ σ'=>rp P ops rest σ' K
def pA(P:Program)(ops:Array Oper)(o:Oper)(σ:St)(K:List Mv->St->Prop):Prop:=
 match xH o with
 |some c=>vK (kB σ ops o) λb=>match b with
  |true=>vK (Gc σ (resolve σ<|BH c)<|c.args.toList.map<|resolve σ) λh=>aam P h λr=>vK (zQ o.dst r h.2.2) λms=>vK (Mv.runs σ ms) (K ms)
  |false=>vK (Mv.runs σ<|zV o) (K<|zV o)
 |none=>vK (msE P ops σ o) λms=>vK (Mv.runs σ ms)<|K ms
def rt(P:Program)(ops:Array Oper):List Oper->St->List (List Nat×List Nat)->(List (List Nat×List Nat)->St->Prop)->Prop
 |[],σ,acc,K=>K acc.reverse σ
 |o::rest,σ,acc,K=>Jh P ops o σ λms σ'=>rt P ops rest σ' ((ix σ ops o,aU ms)::acc) K
section
variable{R:Option Nat->Prop}{P:Program}{N:Nat}{ops:Array Oper}{σ:St}{o:Oper}{rest:List Oper}{K:St->Prop}
def TD{c:Call}{res:AV}(hc:xH o=some c):A6 P σ o res=DQ o.dst (resolve σ<|BH c) (c.args.toList.map<|resolve σ) res:=by
 unfold xH at hc;split at hc
 ·rename_i c' bU;split at hc
  ·rename_i f hf;cases hc;unfold A6;cases hd:o.dst<;>simp[bU,hf,BH]
  cases hc
 cases hc
def N9{d:Option Nat}{f:bM}{aas:List bM}{res:AV}{h:FuncId×List AV×List Mv}{ms:List Mv}(h1:Gc σ f aas=some h)(h2:zQ d res h.2.2=some ms):DQ d f aas res=some (ms,[(h.1,h.2.1,res)]):=by
 unfold Gc at h1;unfold DQ;split at h1
 ·rename_i g first captured hf
  rw[hf];simp only;split at h1
  ·rename_i hn;rw[if_pos hn];split at h1
   ·rename_i ys hy;cases h1;simp only[hy];unfold zQ at h2;split at h2
    ·rename_i hr;simp[hr];split at h2
     ·rename_i hs;simp only at hs;simp[hs];cases h2;rfl
     ·rename_i m hs;simp only at hs;simp[hs];cases h2;rfl
     cases h2
    rename_i hr;simp[hr];cases h2;rfl
   cases h1
  cases h1
 cases h1
def Jo:∀{rest:List Oper}{σ:St}{K:St->Prop},rp P ops rest σ K->Zg P ops rest σ K
 |[],σ,K,h=>h
 |o::rest,σ,K,h=>by obtain⟨res,ms,mE,σ',h1,h2,h3,h4⟩:=h;exact⟨res,ms,mE,σ',h1,h2,h3,Jo h4⟩
def nL{K:List Mv->St->Prop}(h:pA P ops o σ K):Jh P ops o σ K:=by
 unfold pA at h;split at h
 ·rename_i c hc;obtain⟨b,hb,h⟩:=h;cases b with
  |true=>obtain⟨hd,h1,r,hs,ms,h2,σ',h3,h4⟩:=h;refine⟨.SW r,ms,[.call (hd.1,hd.2.1,r)],σ',?_,by simpa[Ob.ok]using hs,h3,h4⟩;unfold eP;rw[hb];simp[kz];rw[TD hc,N9 h1 h2];rfl
  |false=>obtain⟨σ',h3,h4⟩:=h;exact⟨.SW .dead,_,[],σ',by unfold eP;rw[hb],by simp,h3,h4⟩
 obtain⟨ms,h1,σ',h2,h3⟩:=h;unfold msE at h1;split at h1
 ·rename_i ms' hp;cases h1;exact⟨.SW .dead,_,[],σ',hp,by simp,h2,h3⟩
 cases h1
def Jk:∀{rest:List Oper}{σ:St}{acc:List (List Nat×List Nat)}{K:List (List Nat×List Nat)->St->Prop},rt P ops rest σ acc K->tl P ops rest σ acc K
 |[],σ,acc,K,h=>h
 |o::rest,σ,acc,K,h=>by obtain⟨res,ms,mE,σ',h1,h2,h3,h4⟩:=h;exact⟨res,ms,mE,σ',h1,h2,h3,Jk h4⟩
def tZ(x:Option (List Mv))(σ:St)(K:List Mv->St->Prop):Prop:=vK x λms=>vK (Mv.runs σ ms)<|K ms
def ig(hc:xH o=none)(hg:o.guard=none){m:Option (List Mv)}(hm:∀res,A6 P σ o res=fM m)(K:List Mv->St->Prop):pA P ops o σ K=tZ m σ K:=by simp[pA,hc,msE,eP,kB,hg,kz,hm,tZ];cases m<;>simp[fM]
def lS{K:St->Prop}:rp P ops (o::rest) σ K=Jh P ops o σ λ_ σ'=>rp P ops rest σ' K:=rfl
def mU{acc:List (List Nat×List Nat)}{K:List (List Nat×List Nat)->St->Prop}:rt P ops (o::rest) σ acc K=Jh P ops o σ λms σ'=>rt P ops rest σ' ((ix σ ops o,aU ms)::acc) K:=rfl
end
section
variable{R:Option Nat->Prop}{P:Program}{ops:Array Oper}{o:Oper}{σ:St}{K:List Mv->St->Prop}{d:Nat}{ty:TypeId}{pos:String}{cL:Array Edge}{t t':TypeId}{x y z:Operand}
def aa0:pA P ops ⟨some d,.move x,ty,pos,cL,none⟩ σ K=tZ (c6 d<|resolve σ x) σ K:=ig rfl rfl (λ_=>rfl) K
def TG:pA P ops ⟨some d,.assign x,ty,pos,cL,none⟩ σ K=tZ (dy d<|resolve σ x) σ K:=ig rfl rfl (λ_=>rfl) K
def aa1:pA P ops ⟨some d,.load t x,ty,pos,cL,none⟩ σ K=tZ (sP P d t<|resolve σ x) σ K:=ig rfl rfl (λ_=>rfl) K
def Xu:pA P ops ⟨none,.store t x y,ty,pos,cL,none⟩ σ K=tZ (uS P t (resolve σ x)<|resolve σ y) σ K:=ig rfl rfl (λ_=>rfl) K
def JO{f:Nat}:pA P ops ⟨some d,.fieldAddr t x f,ty,pos,cL,none⟩ σ K=tZ (jY P d t (resolve σ x) f) σ K:=ig rfl rfl (λ_=>rfl) K
def Xx{f:Nat}:pA P ops ⟨some d,.field t x f,ty,pos,cL,none⟩ σ K=tZ (yS P d t (resolve σ x) f) σ K:=ig rfl rfl (λ_=>rfl) K
def JN:pA P ops ⟨some d,.indexAddr t x y,ty,pos,cL,none⟩ σ K=tZ (gn P d t (resolve σ x)<|resolve σ y) σ K:=ig rfl rfl (λ_=>rfl) K
def Xw:pA P ops ⟨some d,.index t x y,ty,pos,cL,none⟩ σ K=tZ (vj P d t (resolve σ x)<|resolve σ y) σ K:=ig rfl rfl (λ_=>rfl) K
def Q5{i:Nat}:pA P ops ⟨some d,.extract x i,ty,pos,cL,none⟩ σ K=tZ (od d (resolve σ x) i) σ K:=ig rfl rfl (λ_=>rfl) K
def Q6:pA P ops ⟨some d,.convert t t' x,ty,pos,cL,none⟩ σ K=tZ (DC P d t t'<|resolve σ x) σ K:=ig rfl rfl (λ_=>rfl) K
def Xv{l h m:Option Operand}:pA P ops ⟨some d,.slice t x l h m,ty,pos,cL,none⟩ σ K=tZ (qA P d t (resolve σ x) (l.map<|resolve σ) (h.map<|resolve σ)<|m.map<|resolve σ) σ K:=ig rfl rfl (λ_=>rfl) K
def Y6(P:Program)(d:Nat)(op:BinOp)(t:TypeId)(a b:Option AV):Option (List Mv):=
 match a,b with
 |some a,some b=>match mw P op t a b with
  |some v=>some [.put d v]
  |none=>none
 |_,_=>none
def aeb{op:BinOp}:pA P ops ⟨some d,.binOp op t x y t',ty,pos,cL,none⟩ σ K=tZ (Y6 P d op t (resolve σ x).cont (resolve σ y).cont) σ K:=
 ig rfl rfl (λres=>by
  simp[A6,Y6];cases(resolve σ x).cont with
  |none=>rfl
  |some a=>cases(resolve σ y).cont with
   |none=>rfl
   |some b=>simp only;cases mw P op t a b<;>rfl) K
def un1(d:Nat)(op:UnOp)(a:Option AV):Option (List Mv):=
 match a with
 |some (.v a)=>match Z2 op a with
  |some v=>some [.put d<|.v v]
  |none=>none
 |_=>none
def ahW{op:UnOp}:pA P ops ⟨some d,.unOp op t x,ty,pos,cL,none⟩ σ K=tZ (un1 d op (resolve σ x).cont) σ K:=
 ig rfl rfl (λres=>by
  simp[A6,un1];cases(resolve σ x).cont with
  |none=>rfl
  |some a=>cases a with
   |v w=>simp only;cases Z2 op w<;>rfl
   |_=>rfl) K
def Jy(d:Nat)(c:Option AV)(x y:bM):Option (List Mv):=
 match c with
 |some (.v<|.bool true)=>c6 d x
 |some (.v<|.bool false)=>c6 d y
 |_=>none
def aaZ:pA P ops ⟨some d,.pick x y z,ty,pos,cL,none⟩ σ K=tZ (Jy d (resolve σ x).cont (resolve σ y)<|resolve σ z) σ K:=
 ig rfl rfl (λres=>by
  simp[A6];cases hc:(resolve σ x).cont with
  |none=>rfl
  |some a=>cases a with
   |v w=>cases w with
    |bool b=>cases b<;>rfl
    |_=>rfl
   |_=>rfl) K
def Q7{b:Builtin}{aas:Array Operand}{ts:Array TypeId}:pA P ops ⟨some d,.call ⟨.builtin b,aas,ts⟩,ty,pos,cL,none⟩ σ K=tZ (j0 P d b ts.toList<|aas.toList.map<|resolve σ) σ K:=ig rfl rfl (λ_=>rfl) K
def aa2{dst:Option Nat}{f:Operand}{aas:Array Operand}{ts:Array TypeId}:pA P ops ⟨dst,.call ⟨.value f,aas,ts⟩,ty,pos,cL,none⟩ σ K=
 vK (Gc σ (resolve σ f)<|aas.toList.map<|resolve σ) λh=>aam P h λr=>tZ (zQ dst r h.2.2) σ K:=by
 simp[pA,xH,kB,BH,tZ]
def Yz(d:Nat)(x:Option (AV×List Nat))(f:AV->Option AV):Option (List Mv):=
 match x with
 |some (y,M)=>match f y with
  |some z=>some [.make M d z]
  |none=>none
 |none=>none
def Xz:pA P ops ⟨some d,.alloc t,ty,pos,cL,none⟩ σ K=tZ (match bY P t with|some ti=>some [.make [] d<|.box true ti.zero]|none=>none) σ K:=ig rfl rfl (λres=>by simp[A6];cases bY P t<;>rfl) K
def aea:pA P ops ⟨some d,.box t x,ty,pos,cL,none⟩ σ K=tZ (match bY P t with|some ti=>Yz d (dT<|resolve σ x) λy=>if fits ti y then some (.box true y)else none|none=>none) σ K:=
 ig rfl rfl (λres=>by
  simp[A6];cases bY P t with
  |none=>rfl
  |some ti=>
   simp[Yz];cases dT (resolve σ x)with
   |none=>rfl
   |some p=>simp only;split<;>rfl) K
def Hv{n:Nat}{ps:Array (Nat×Operand)}:pA P ops ⟨some d,.buildSlice t n ps,ty,pos,cL,none⟩ σ K=tZ (match dt P t with
 |some e=>match bY P e with
  |some ti=>match fG (ps.toList.map λp=>resolve σ p.2)with
   |some (ys,M)=>if(ps.toList.map (·.1)=List.range n)/\(ys.all<|fits ti)/\n*ti.size<=2^24/\n<=maxLen then some [.make M d<|.list .own ti.size ys]else none
   |none=>none
  |none=>none
 |none=>none) σ K:=
 ig rfl rfl (λres=>by
  simp[A6];cases dt P t with
  |none=>rfl
  |some e=>simp only;cases bY P e with
   |none=>rfl
   |some ti=>simp only;cases fG (ps.toList.map λp=>resolve σ p.2)with
    |none=>rfl
    |some q=>simp only;split<;>rfl) K
def Xy{ps:Array (Nat×Operand)}:pA P ops ⟨some d,.build t ps,ty,pos,cL,none⟩ σ K=tZ (match bY P t with
 |some ti=>match ti.zero with
  |.agg z=>match placesOf P t with
   |some pl=>match fG (ps.toList.map λp=>resolve σ p.2)with
    |some (ys,M)=>match sX pl z ((ps.toList.map (·.1)).zip ys)with
     |some cs=>some [.make M d<|.agg cs]
     |none=>none
    |none=>none
   |none=>none
  |_=>none
 |none=>none) σ K:=
 ig rfl rfl (λres=>by
  simp[A6];cases bY P t with
  |none=>rfl
  |some ti=>simp only;cases ti.zero with
   |agg z=>simp only;cases placesOf P t with
    |none=>rfl
    |some pl=>simp only;cases fG (ps.toList.map λp=>resolve σ p.2)with
     |none=>rfl
     |some q=>simp only;cases sX pl z ((ps.toList.map (·.1)).zip q.1)<;>rfl
   |_=>rfl) K
def m1(x:Option (List Mv×List A2)):Option (List Mv):=match x with
 |some (ms,[])=>some ms
 |_=>none
@[simp] theorem CD(x:Option (List Mv)):m1 (fM x)=x:=by cases x<;>rfl
def Mw(hc:xH o=none)(hg:o.guard=none)(K:List Mv->St->Prop):pA P ops o σ K=tZ (m1<|A6 P σ o .dead) σ K:=by
 have e:msE P ops σ o=m1 (A6 P σ o .dead):=by
  simp[msE,eP,kB,hg,kz];cases A6 P σ o .dead with
  |none=>rfl
  |some q=>obtain⟨ms,mE⟩:=q;cases mE<;>rfl
 simp[pA,hc,e,tZ]
def JM:pA P ops ⟨some d,.makeSlice t x y,ty,pos,cL,none⟩ σ K=tZ (m1 (match dt P t with
 |some e=>match bY P e with
  |some ti=>match(resolve σ x).cont,(resolve σ y).cont with
   |some (.v<|.int _ a),some (.v<|.int _ b)=>if 0<=a/\a<=b/\b*ti.bytes<=140737488355328/\b<=maxLen/\0<ti.size then
     some ([.make [] d<|.list .own ti.size<|List.replicate a.toNat ti.zero],[])else none
   |_,_=>none
  |none=>none
 |none=>none)) σ K:=Mw rfl rfl K
def ML:pA P ops ⟨some d,.nilCheck x,ty,pos,cL,none⟩ σ K=tZ (m1 (match(resolve σ x).cont with
 |some (.box _ _)=>fM (c6 d<|resolve σ x)
 |some (.fn (.func _) _ _)=>fM (c6 d<|resolve σ x)
 |_=>match(resolve σ x).sl.av with
  |.ptr .. =>match(resolve σ x).addr with
   |some _=>fM (c6 d<|resolve σ x)
   |none=>none
  |_=>none)) σ K:=Mw rfl rfl K
def MM{f:Fn}{a b:Array Operand}:pA P ops ⟨some d,.makeFunc f a b,ty,pos,cL,none⟩ σ K=tZ (m1 (match gL (a.toList.map<|resolve σ),gL (b.toList.map<|resolve σ)with
 |some a',some c=>if(shares<|a.toList.map (resolve σ)++b.toList.map (resolve σ)).isEmpty then some ([.put d<|.fn f a' c],[])else none
 |_,_=>none)) σ K:=Mw rfl rfl K
def Hu{dst:Option Nat}{op:Op}{j:Nat}{b:Bool}:pA P ops ⟨dst,op,ty,pos,cL,some (j,b)⟩ σ K=
 vK (kB σ ops ⟨dst,op,ty,pos,cL,some (j,b)⟩) λ
  |true=>pA P ops ⟨dst,op,ty,pos,cL,none⟩ σ K
  |false=>tZ (some<|zV ⟨dst,op,ty,pos,cL,none⟩) σ K:=by
 unfold pA;have e:xH ⟨dst,op,ty,pos,cL,some (j,b)⟩=xH ⟨dst,op,ty,pos,cL,none⟩:=rfl;have e3:(σ:St)->(res:AV)->A6 P σ ⟨dst,op,ty,pos,cL,some (j,b)⟩ res=A6 P σ ⟨dst,op,ty,pos,cL,none⟩ res:=λ_ _=>rfl;rw[e];cases xH ⟨dst,op,ty,pos,cL,none⟩with
 |some c=>
  cases kB σ ops ⟨dst,op,ty,pos,cL,some (j,b)⟩with
  |none=>simp
  |some b=>cases b<;>simp[kB,tZ,zV]
 |none=>
  simp[msE,eP,kz,e3];cases hw:kB σ ops ⟨dst,op,ty,pos,cL,some (j,b)⟩with
  |none=>simp
  |some b=>cases b<;>simp[kB,tZ,zV]
end
abbrev bK:=List UInt8
def bs(l:bK):ByteArray:=⟨l.toArray⟩
def GF(s:ByteArray):bs s.data.toList=s:=by cases s;simp[bs]
inductive SV:Type 1
 |n (k:IntKind) (a:Int)
 |b (x:Bool)
 |u (x:Bool)
 |s (x:bK)
 |c (x:Value)
 |nil
 |ints (k:IntKind) (own:Bool) (xs:List Int)
 |fe (k:IntKind) (xs:List Int)
 |strs (own:Bool) (xs:List bK)
 |b9 (own:Bool) (xs:List Bool)
 |bT (own:Bool) (sz:Nat) {α:Type} (d:α) (e:α->SV) (xs:List α)
 |row (own:Bool) (sz:Nat) (xs:List SV)
 |agg (xs:List SV)
 |bX (xs:List SV)
 |box (own:Bool) (x:SV)
 |fn (f:Fn) (first captured:List SV)
 |bA (r g1 g2:Nat) (p:Path)
 |ptr (r g1 g2:Nat) (p:Path)
 |hole
 |dead
 |pv (C:Value->Prop)
 |abs (J:World->(Nat->Prop)->List Nat->Prop)
 |fI (g:FuncId) (ba:List (Nat×Nat))
 |mp (K:Obj->Prop)
abbrev SV.i(a:Int):SV:=.n .i64 a
def flm:List Int->Fl
 |[]=>.nil
 |_::_=>.shr
def szm:List Int->Nat
 |[]=>0
 |_::_=>1
def fl:Bool->Fl
 |true=>.own
 |false=>.shr
mutual
def SV.den:SV->AV
 |.n k a=>.v (.int k a)
 |.b x=>.v (.bool x)
 |.u x=>.v (.bool x)
 |.s x=>.v (.string<|bs x)
 |.c x=>.v x
 |.nil=>.list .nil 0 []
 |.ints k own xs=>.list (fl own) 1 (xs.map λa=>.v<|.int k a)
 |.fe k xs=>.list (flm xs) (szm xs) (xs.map λa=>.v<|.int k a)
 |.strs own xs=>.list (fl own) 1 (xs.map λa=>.v<|.string<|bs a)
 |.b9 own xs=>.list (fl own) 1 (xs.map λa=>.v<|.bool a)
 |.bT own sz _ e xs=>.list (fl own) sz (xs.map λx=>(e x).den)
 |.row own sz xs=>.list (fl own) sz (au xs)
 |.agg xs=>.agg (au xs)
 |.bX xs=>.bX (au xs)
 |.box own x=>.box own x.den
 |.fn f a c=>.fn f (au a) (au c)
 |.bA r g1 g2 p=>.bA r g1 g2 p
 |.ptr r g1 g2 p=>.ptr r g1 g2 p
 |.hole=>.hole
 |.dead=>.dead
 |.pv C=>.pv C
 |.abs J=>.abs J
 |.fI g ba=>.fI g ba
 |.mp K=>.mp K
def au:List SV->List AV
 |[]=>[]
 |x::xs=>x.den::au xs
end
def bV:∀xs:List SV,au xs=xs.map SV.den
 |[]=>rfl
 |x::xs=>by simp[au,bV xs]
def bq(xs:List SV):(au xs).length=xs.length:=by simp[bV]
def ja(xs:List SV)(i:Nat):(au xs)[i]?=xs[i]?.map SV.den:=by simp[bV]
structure Pd where
 p:Prop
 b:Bool
 h:b=true->p
instance(p:Prop)[Decidable p]:CoeDep Prop p Pd:=⟨⟨p,decide p,of_decide_eq_true⟩⟩
abbrev Pd.of(p:Prop):Pd:=⟨p,false,Bool.noConfusion⟩
def ag:List Pd->Prop
 |[]=>True
 |⟨p,_,_⟩::l=>p/\ag l
def app:List Pd->List Pd->List Pd
 |[],l=>l
 |p::l,m=>p::app l m
def aM:∀{l m:List Pd},ag (app l m)↔ag l/\ag m
 |[],m=>by simp[app,ag]
 |p::l,m=>by simp[app,ag,aM (l:=l),and_assoc]
def nth{α:Type _}:List α->Nat->Option α
 |[],_=>none
 |x::_,0=>some x
 |_::l,n+1=>nth l n
def mF{α:Type _}:∀(l:List α)(i:Nat),nth l i=l[i]?
 |[],i=>by simp[nth]
 |x::l,0=>by simp[nth]
 |x::l,n+1=>by simp[nth,mF l n]
def len{α:Type _}:List α->Nat
 |[]=>0
 |_::l=>len l+1
def eV{α:Type _}:∀l:List α,len l=l.length
 |[]=>rfl
 |x::l=>by simp[len,eV l]
def SL{α:Type _}:List α->Nat->List α
 |[],_=>[]
 |_::_,0=>[]
 |x::l,n+1=>x::SL l n
def uQ{α:Type _}:∀(l:List α)(n:Nat),SL l n=l.take n
 |[],n=>by simp[SL]
 |x::l,0=>by simp[SL]
 |x::l,n+1=>by simp[SL,uQ l n]
def Vt{α:Type _}:List α->Nat->List α
 |[],_=>[]
 |x::l,0=>x::l
 |_::l,n+1=>Vt l n
def vE{α:Type _}:∀(l:List α)(n:Nat),Vt l n=l.drop n
 |[],n=>by simp[Vt]
 |x::l,0=>by simp[Vt]
 |x::l,n+1=>by simp[Vt,vE l n]
def put{α:Type _}:List α->Nat->α->List α
 |[],_,_=>[]
 |_::l,0,y=>y::l
 |x::l,n+1,y=>x::put l n y
def put_eq{α:Type _}:∀(l:List α)(n:Nat)(y:α),put l n y=l.set n y
 |[],n,y=>by simp[put]
 |x::l,0,y=>by simp[put]
 |x::l,n+1,y=>by simp[put,put_eq l n y]
def cat{α:Type _}:List α->List α->List α
 |[],m=>m
 |x::l,m=>x::cat l m
def c8{α:Type _}:∀(l m:List α),cat l m=l++m
 |[],m=>rfl
 |x::l,m=>by simp[cat,c8 l m]
def gq:SV->Path->Option (List Pd×SV)
 |x,[]=>some ([],x)
 |x,s::p=>
  match s with
  |.idx i sz=>match x with
   |.ints k _ xs=>match p,Nat.beq sz 1 with
    |[],true=>some ([i<xs.length],.n k<|xs.getD i 0)
    |_,_=>none
   |.strs _ xs=>match p,Nat.beq sz 1 with
    |[],true=>some ([i<xs.length],.s<|xs.getD i [])
    |_,_=>none
   |.b9 _ xs=>match p,Nat.beq sz 1 with
    |[],true=>some ([i<xs.length],.u<|xs.getD i false)
    |_,_=>none
   |.bT _ gC d e xs=>match Nat.beq gC sz with
    |true=>match gq (e<|xs.getD i d) p with
     |some (ob,y)=>some ((i<xs.length)::ob,y)
     |none=>none
    |false=>none
   |.row _ gC xs=>match Nat.beq gC sz with
    |true=>match nth xs i with
     |some x=>gq x p
     |none=>none
    |false=>none
   |_=>none
  |.deref=>match x with
   |.box _ x=>gq x p
   |_=>none
  |.at o none=>match x with
   |.agg xs=>match nth xs o with
    |some x=>gq x p
    |none=>none
   |_=>none
  |.at o (some n)=>match x with
   |.agg xs=>match Nat.ble (o+n) (len xs)with
    |true=>gq (.agg<|SL (Vt xs o) n) p
    |false=>none
   |_=>none
  |.bX i=>match x with
   |.bX xs=>match nth xs i with
    |some x=>gq x p
    |none=>none
   |_=>none
  |.lR .. =>none
def cn:∀{p:Path}{x y:SV}{ob:List Pd},gq x p=some (ob,y)->ag ob->bg x.den p=some y.den
 |[],x,y,ob,h,_=>by simp[gq,abr,ac3]at h;simp[bg,h.2]
 |s::p,x,y,ob,h,hc=>by
  cases s with
  |idx i sz=>
   cases x with
   |ints k o xs=>
    cases p with
    |cons _ _=>simp[gq]at h
    |nil=>
     simp[gq]at h;split at h<;>try simp at h
     rename_i cM;obtain⟨rfl,rfl⟩:=h;have cM:=adi cM;subst cM;simp[ag,and_true]at hc;simp[SV.den,bg,acL hc,aca]
   |strs o xs=>
    cases p with
    |cons _ _=>simp[gq]at h
    |nil=>
     simp[gq]at h;split at h<;>try simp at h
     rename_i cM;obtain⟨rfl,rfl⟩:=h;have cM:=adi cM;subst cM;simp[ag,and_true]at hc;simp[SV.den,bg,acL hc,aca]
   |b9 o xs=>
    cases p with
    |cons _ _=>simp[gq]at h
    |nil=>
     simp[gq]at h;split at h<;>try simp at h
     rename_i cM;obtain⟨rfl,rfl⟩:=h;have cM:=adi cM;subst cM;simp[ag,and_true]at hc;simp[SV.den,bg,acL hc,aca]
   |bT o gC d e xs=>
    simp[gq]at h;split at h<;>try cases h
    rename_i cM;have cM:=adi cM;split at h<;>try simp at h
    rename_i dX y' hg;obtain⟨rfl,rfl⟩:=h;simp[ag]at hc;have:=cn hg hc.2;simp[SV.den,bg,cM,if_true,af1,acL hc.1,ahq,adI];simpa[aca,acL hc.1]using this
   |row o gC xs=>
    simp[gq]at h;split at h<;>try cases h
    rename_i cM;have cM:=adi cM;split at h<;>try cases h
    rename_i x hx;have:=cn h hc;rw[mF]at hx;simp[SV.den,bg,cM,if_true,ja,hx,ahq,adI];exact this
   |_=>simp[gq]at h
  |deref=>
   cases x with
   |box o x=>simp[gq]at h;simp[SV.den,bg];exact cn h hc
   |_=>simp[gq]at h
  | «at» o m=>
    cases m with
    |none=>
     cases x with
     |agg xs=>
      simp[gq]at h;split at h<;>try cases h
      rename_i x hx;rw[mF]at hx;simp[SV.den,bg,ja,hx,ahq,adI];exact cn h hc
     |_=>simp[gq]at h
    |some n=>
     cases x with
     |agg xs=>
      simp[gq]at h;split at h<;>try cases h
      rename_i hb;have hb:=adk hb;rw[eV]at hb;have:=cn h hc;simp[SV.den,uQ,vE,bV,aib,aht]at this;simp[SV.den,bg,bq,hb,if_true];simpa[bV]using this
     |_=>simp[gq]at h
  |bX i=>
   cases x with
   |bX xs=>
    simp only[gq]at h;split at h<;>try cases h
    rename_i x hx;rw[mF]at hx;simp only[SV.den,bg,ja,hx,ahq,adI];exact cn h hc
   |_=>simp[gq]at h
  |lR sz o n=>simp[gq]at h
def sQ(a b:IntKind):Bool:=match decEq a b with
 |isTrue _=>true
 |isFalse _=>false
def nr{a b:IntKind}(h:sQ a b=true):a=b:=by
 unfold sQ at h;split at h
 ·assumption
 cases h
def kZ:SV->Path->SV->Option (List Pd×SV)
 |_,[],y=>some ([],y)
 |x,s::p,y=>
  match s with
  |.idx i sz=>match x with
   |.ints k true xs=>match p,Nat.beq sz 1,y with
    |[],true,.n k' a=>match sQ k k' with
     |true=>some ([i<xs.length],.ints k true<|xs.set i a)
     |false=>none
    |_,_,_=>none
   |.strs true xs=>match p,Nat.beq sz 1,y with
    |[],true,.s a=>some ([i<xs.length],.strs true<|xs.set i a)
    |_,_,_=>none
   |.b9 true xs=>match p,Nat.beq sz 1,y with
    |[],true,.b a=>some ([i<xs.length],.b9 true<|xs.set i a)
    |[],true,.u a=>some ([i<xs.length],.b9 true<|xs.set i a)
    |_,_,_=>none
   |.row true gC xs=>match Nat.beq gC sz with
    |true=>match nth xs i with
     |some x=>match kZ x p y with
      |some (ob,x')=>some (ob,.row true gC<|put xs i x')
      |none=>none
     |none=>none
    |false=>none
   |.bT true gC d e xs=>match Nat.beq gC sz with
    |true=>match kZ (e<|xs.getD i d) p y with
     |some (ob,x')=>some ((i<xs.length)::ob,.row true gC<|(xs.map e).set i x')
     |none=>none
    |false=>none
   |_=>none
  |.deref=>match x with
   |.box true x=>match kZ x p y with
    |some (ob,x')=>some (ob,.box true x')
    |none=>none
   |_=>none
  |.at o none=>match x with
   |.agg xs=>match nth xs o with
    |some x=>match kZ x p y with
     |some (ob,x')=>some (ob,.agg<|put xs o x')
     |none=>none
    |none=>none
   |_=>none
  |.at o (some n)=>match x with
   |.agg xs=>match Nat.ble (o+n) (len xs)with
    |true=>match kZ (.agg<|SL (Vt xs o) n) p y with
     |some (ob,.agg ys)=>match Nat.beq (len ys) n with
      |true=>some (ob,.agg<|cat (SL xs o)<|cat ys<|Vt xs<|o+n)
      |false=>none
     |_=>none
    |false=>none
   |_=>none
  |.bX i=>match x with
   |.bX xs=>match nth xs i with
    |some x=>match kZ x p y with
     |some (ob,x')=>some (ob,.bX<|put xs i x')
     |none=>none
    |none=>none
   |_=>none
  |.lR .. =>none
def xn(xs:List SV)(i:Nat)(y:SV):au (xs.set i y)=(au xs).set i y.den:=by simp[bV]
def fm:∀{p:Path}{x y z:SV}{ob:List Pd},kZ x p y=some (ob,z)->ag ob->dW x.den p y.den=some z.den
 |[],x,y,z,ob,h,_=>by simp only[kZ,abr,ac3]at h;simp[dW,h.2]
 |s::p,x,y,z,ob,h,hc=>by
  cases s with
  |idx i sz=>
   cases x with
   |ints k o xs=>
    cases o<;>simp only[kZ]at h<;>try(simp at h;done)
    split at h<;>try(simp at h;done)
    rename_i cM;split at h<;>try(simp at h;done)
    rename_i hk;have hk:=nr hk;subst hk;cases h;have cM:=adi cM;subst cM;simp only[ag,and_true]at hc;simp[SV.den,dW,fl,acL hc,afQ]
   |strs o xs=>
    cases o<;>simp only[kZ]at h<;>try(simp at h;done)
    split at h<;>try(simp at h;done)
    rename_i cM;cases h;have cM:=adi cM;subst cM;simp only[ag,and_true]at hc;simp[SV.den,dW,fl,acL hc,afQ]
   |b9 o xs=>
    cases o<;>simp only[kZ]at h<;>try(simp at h;done)
    split at h<;>try(simp at h;done)
    all_goals
     rename_i cM;cases h;have cM:=adi cM;subst cM;simp only[ag,and_true]at hc;simp[SV.den,dW,fl,acL hc,afQ]
   |row o gC xs=>
    cases o<;>simp only[kZ]at h<;>try(simp at h;done)
    split at h<;>try(simp at h;done)
    rename_i cM;have cM:=adi cM;split at h<;>try(simp at h;done)
    rename_i x hx;split at h<;>try(simp at h;done)
    rename_i dX x' hs;cases h;rw[mF]at hx;simp[SV.den,dW,fl,cM,ja,hx,fm hs hc,put_eq,xn]
   |bT o gC d e xs=>
    cases o<;>simp only[kZ]at h<;>try(simp at h;done)
    split at h<;>try(simp at h;done)
    rename_i cM;have cM:=adi cM;split at h<;>try(simp at h;done)
    rename_i dX x' hs;cases h;have hi:i<xs.length:=hc.1;have hx:=fm hs hc.2;have eg:xs.getD i d=xs[i]:=by simp[aca,acL hi]
    rw[eg]at hx;simp[SV.den,dW,fl,cM,acL hi,hx,bV,afQ,ajy]
   |_=>simp[kZ]at h
  |deref=>
   cases x with
   |box o x=>
    cases o<;>simp only[kZ]at h<;>try(simp at h;done)
    split at h<;>try(simp at h;done)
    rename_i dX x' hs;cases h;simp[SV.den,dW,fm hs hc]
   |_=>simp[kZ]at h
  | «at» o m=>
    cases m with
    |none=>
     cases x with
     |agg xs=>
      simp only[kZ]at h;split at h<;>try(simp at h;done)
      rename_i x hx;split at h<;>try(simp at h;done)
      rename_i dX x' hs;cases h;rw[mF]at hx;simp[SV.den,dW,ja,hx,fm hs hc,put_eq,xn]
     |_=>simp[kZ]at h
    |some n=>
     cases x with
     |agg xs=>
      simp only[kZ]at h;split at h<;>try(simp at h;done)
      rename_i hb;have hb:=adk hb;rw[eV]at hb;split at h<;>try(simp at h;done)
      rename_i dX ys hs;split at h<;>try(simp at h;done)
      rename_i hl;have hl:=adi hl;cases h;have:=fm hs hc;simp only[SV.den,uQ,vE,bV,aib,aht]at this;rw[eV]at hl;simp[SV.den,dW,bV,hb,this,hl,c8,uQ,vE]
     |_=>simp[kZ]at h
  |bX i=>
   cases x with
   |bX xs=>
    simp only[kZ]at h;split at h<;>try(simp at h;done)
    rename_i x hx;split at h<;>try(simp at h;done)
    rename_i dX x' hs;cases h;rw[mF]at hx;simp[SV.den,dW,ja,hx,fm hs hc,put_eq,xn]
   |_=>simp[kZ]at h
  |lR sz o n=>simp[kZ]at h
mutual
def SV.aF:SV->Bool
 |.n .. |.b _|.u _|.s _|.c _|.nil|.hole|.dead|.fe .. |.pv _=>true
 |.ints _ own _=> !own
 |.strs own _=> !own
 |.b9 own _=> !own
 |.bT own _ _ _ _=> !own
 |.row own _ _=> !own
 |.agg xs=>gm xs
 |.bX xs=>gm xs
 |.box own _=> !own
 |.fn _ a c=>match gm a with
  |true=>gm c
  |false=>false
 |.bA .. |.ptr .. |.abs _|.fI .. |.mp _=>false
def gm:List SV->Bool
 |[]=>true
 |x::xs=>match x.aF with
  |true=>gm xs
  |false=>false
end
mutual
theorem cz:∀(x:SV),x.den.aF=x.aF
 |.n .. |.b _|.u _|.s _|.c _|.nil|.hole|.dead|.bA .. |.ptr .. |.pv _|.abs _|.fI .. |.mp _=>rfl
 |.ints _ own _|.strs own _|.b9 own _|.bT own _ _ _ _|.row own _ _=>by cases own<;>rfl
 |.fe _ xs=>by cases xs<;>rfl
 |.box own _=>by cases own<;>rfl
 |.agg xs=>by simp only[SV.den,AV.aF,SV.aF];exact dS xs
 |.bX xs=>by simp only[SV.den,AV.aF,SV.aF];exact dS xs
 |.fn _ a c=>by simp only[SV.den,AV.aF,SV.aF,dS a,dS c];cases gm a<;>rfl
theorem dS:∀(xs:List SV),bx (au xs)=gm xs
 |[]=>rfl
 |x::xs=>by simp only[au,bx,gm,cz x,dS xs];cases x.aF<;>rfl
end
mutual
def SV.bw:SV->SV
 |.ints k _ xs=>.ints k false xs
 |.fe k xs=>.fe k xs
 |.strs _ xs=>.strs false xs
 |.b9 _ xs=>.b9 false xs
 |.bT true sz d e xs=>.bT false sz d (λx=>(e x).bw) xs
 |.bT false sz d e xs=>.bT false sz d e xs
 |.row true sz xs=>.row false sz (iL xs)
 |.row false sz xs=>.row false sz xs
 |.agg xs=>.agg (iL xs)
 |.bX xs=>.bX (iL xs)
 |.box true x=>.box false x.bw
 |.box false x=>.box false x
 |.fn f a c=>.fn f (iL a) (iL c)
 |.n k a=>.n k a
 |.b x=>.b x
 |.u x=>.u x
 |.s x=>.s x
 |.c x=>.c x
 |.nil=>.nil
 |.bA r g1 g2 p=>.bA r g1 g2 p
 |.ptr r g1 g2 p=>.ptr r g1 g2 p
 |.hole=>.hole
 |.dead=>.dead
 |.pv C=>.pv C
 |.abs J=>.abs J
 |.fI g ba=>.fI g ba
 |.mp _=>.dead
def iL:List SV->List SV
 |[]=>[]
 |x::xs=>x.bw::iL xs
end
def ib{α:Type}(f:α->AV):∀xs:List α,gh (xs.map f)=xs.map λx=>(f x).bw
 |[]=>rfl
 |x::xs=>by simp[gh,ib f xs]
mutual
theorem fS:∀(x:SV),x.den.bw=x.bw.den
 |.n .. |.b _|.u _|.s _|.c _|.nil|.hole|.dead|.bA .. |.ptr .. |.pv _|.abs _|.fI .. |.mp _=>rfl
 |.ints _ own xs=>by cases own<;>simp[SV.den,SV.bw,AV.bw,fl,ib]
 |.fe _ xs=>by cases xs<;>rfl
 |.strs own xs=>by cases own<;>simp[SV.den,SV.bw,AV.bw,fl,ib]
 |.b9 own xs=>by cases own<;>simp[SV.den,SV.bw,AV.bw,fl,ib]
 |.bT true _ _ e xs=>by
  simp only[SV.den,SV.bw,AV.bw,fl,ib]
  congr 1
  exact adE λx _=>fS (e x)
 |.bT false _ _ _ _=>rfl
 |.row true _ xs=>by simp only[SV.den,SV.bw,AV.bw,fl,iK xs]
 |.row false _ _=>rfl
 |.box true x=>by simp only[SV.den,SV.bw,AV.bw,fS x]
 |.box false _=>rfl
 |.agg xs=>by simp only[SV.den,SV.bw,AV.bw,iK xs]
 |.bX xs=>by simp only[SV.den,SV.bw,AV.bw,iK xs]
 |.fn _ a c=>by simp only[SV.den,SV.bw,AV.bw,iK a,iK c]
theorem iK:∀(xs:List SV),gh (au xs)=au (iL xs)
 |[]=>rfl
 |x::xs=>by simp only[au,gh,iL,fS x,iK xs]
end
mutual
def SV.bJ:SV->Bool
 |.n .. |.b _|.u _|.s _|.c _|.nil|.hole|.dead|.bA .. |.ptr .. |.pv _|.abs _|.fI .. |.mp _=>true
 |.ints _ own _=>own
 |.fe .. =>false
 |.strs own _=>own
 |.b9 own _=>own
 |.bT .. =>false
 |.row true _ xs=>sK xs
 |.row false _ _=>false
 |.agg xs=>sK xs
 |.bX xs=>sK xs
 |.box true x=>x.bJ
 |.box false _=>false
 |.fn _ a c=>match sK a with
  |true=>sK c
  |false=>false
def sK:List SV->Bool
 |[]=>true
 |x::xs=>match x.bJ with
  |true=>sK xs
  |false=>false
end
def tJ{xs:List AV}(h:∀x∈xs,x.bJ=true):ju xs=true:=by
 induction xs with
 |nil=>rfl
 |cons x xs ih=>simp[ju];simp_all
mutual
theorem nq:∀(x:SV),x.bJ=true->x.den.bJ=true
 |.n ..,_|.b _,_|.u _,_|.s _,_|.c _,_|.nil,_|.hole,_|.dead,_|.bA ..,_|.ptr ..,_|.pv _,_|.abs _,_|.fI ..,_|.mp _,_=>rfl
 |.ints _ own xs,h=>by simp only[SV.bJ]at h;subst h;simp only[SV.den,fl,AV.bJ];exact tJ (by simp[AV.bJ])
 |.strs own xs,h=>by simp only[SV.bJ]at h;subst h;simp only[SV.den,fl,AV.bJ];exact tJ (by simp[AV.bJ])
 |.b9 own xs,h=>by simp only[SV.bJ]at h;subst h;simp only[SV.den,fl,AV.bJ];refine tJ λx hx=>?_;obtain⟨b,-,rfl⟩:=ac0.1 hx;rfl
 |.bT ..,h=>by simp[SV.bJ]at h
 |.fe ..,h=>by simp[SV.bJ]at h
 |.row true _ xs,h=>by simp only[SV.bJ]at h;simp only[SV.den,fl,AV.bJ];exact kf xs h
 |.row false _ _,h=>by simp[SV.bJ]at h
 |.box true x,h=>by simp only[SV.bJ]at h;simp only[SV.den,AV.bJ,adx];exact nq x h
 |.box false _,h=>by simp[SV.bJ]at h
 |.agg xs,h=>by simp only[SV.bJ]at h;simp only[SV.den,AV.bJ];exact kf xs h
 |.bX xs,h=>by simp only[SV.bJ]at h;simp only[SV.den,AV.bJ];exact kf xs h
 |.fn _ a c,h=>by
  simp only[SV.bJ]at h;split at h
  ·rename_i ha;simp only[SV.den,AV.bJ,acd];exact⟨kf a ha,kf c h⟩
  simp at h
theorem kf:∀(xs:List SV),sK xs=true->ju (au xs)=true
 |[],_=>rfl
 |x::xs,h=>by
  simp only[sK]at h;split at h
  ·rename_i hx;simp only[au,ju,acd];exact⟨nq x hx,kf xs h⟩
  simp at h
end
def SV.cell:SV->Bool
 |.n .. |.b _|.u _|.s _|.c _|.nil|.ints .. |.fe .. |.strs .. |.b9 .. |.bT .. |.row .. |.box .. |.fn .. |.hole=>true
 |_=>false
def DK(x:SV):x.den.cell=x.cell:=by cases x<;>rfl
def SV.plain:SV->Bool
 |.bA .. |.ptr .. |.abs _|.fI .. =>false
 |_=>true
def dh(x:SV):x.den.plain=x.plain:=by cases x<;>rfl
def AV.jF:AV->Bool
 |.bA .. |.ptr .. |.fI .. =>false
 |_=>true
def SV.jF:SV->Bool
 |.bA .. |.ptr .. |.fI .. =>false
 |_=>true
def pJ(x:SV):x.den.jF=x.jF:=by cases x<;>rfl
def UC(y:SV):SV:=match y.cell with
 |true=>.hole
 |false=>.dead
def RC(y:SV):(UC y).den=im y.den:=by unfold UC im;rw[DK];cases y.cell<;>rfl
structure Cl where
 v:SV
 g1:Nat
 g2:Nat
def Cl.den(x:Cl):Sl:=⟨x.v.den,x.g1,x.g2⟩
abbrev aV:=List<|Nat×Cl
def gt:aV->Nat->Cl
 |[],_=>⟨.dead,0,0⟩
 |(d,x)::l,i=>match Nat.beq i d with
  |true=>x
  |false=>gt l i
def dn(l:aV):St:=λi=>(gt l i).den
def eW(d:Nat)(x:Cl)(l:aV):dn ((d,x)::l)=gQ (dn l) d x.den:=by
 funext i
 simp[dn,gt,gQ];by_cases h:i=d
 ·subst h;simp
 have:Nat.beq i d=false:=by
  cases hb:Nat.beq i d with
  |false=>rfl
  |true=>simp_all
 simp[this,h]
def dq(l:aV)(i:Nat):(dn l i).av=(gt l i).v.den:=rfl
def AJ(l:aV)(i:Nat):(dn l i).g1=(gt l i).g1:=rfl
def PN(l:aV)(i:Nat):(dn l i).g2=(gt l i).g2:=rfl
structure SR where
 s:Option Nat
 sl:Cl
 rt:Cl
def SR.den(x:SR):bM:=⟨x.s,x.sl.den,x.rt.den⟩
def xF:Value->SV
 |.int k n=>.n k n
 |.bool b=>.b b
 |.string s=>.s s.data.toList
 |.slice none 0 0=>.nil
 |.pointer none=>.c (.pointer none)
 |.map none=>.c (.map none)
 |.nilFunc=>.c .nilFunc
 |.nilIface=>.c .nilIface
 |_=>.dead
def zm:Value->Option SV
 |.agg cs=>some (.agg<|cs.toList.map xF)
 |.float .. =>none
 |.complex .. =>none
 |v=>some<|xF v
def wG:Value->Bool
 |.float .. |.complex .. =>false
 |_=>true
def GA{v:Value}(h:wG v=true):(xF v).den=jb v:=by
 cases v with
 |slice a l c=>
  cases a with
  |some _=>simp[xF,jb,scalar,SV.den]
  |none=>cases l<;>cases c<;>simp[xF,jb,scalar,SV.den]
 |pointer a=>cases a<;>simp[xF,jb,scalar,SV.den]
 |map a=>cases a<;>simp[xF,jb,scalar,SV.den]
 |string s=>simp[xF,jb,scalar,SV.den,GF]
 |float _ _=>simp[wG]at h
 |complex _ _ _=>simp[wG]at h
 |_=>simp[xF,jb,scalar,SV.den]
def Hs:Value->Bool
 |.agg cs=>cs.toList.all wG
 |v=>wG v
def N6{v:Value}{x:SV}(h:zm v=some x)(ho:Hs v=true):x.den=gb v:=by
 cases v with
 |agg cs=>
  simp[zm]at h;subst h;simp[SV.den,bV]
  congr 1
  refine adE λy hy=>?_;simp only[Hs,ade]at ho;exact GA (ho y hy)
 |float _ _=>simp[zm]at h
 |complex _ _ _=>simp[zm]at h
 |_=>simp[zm]at h;subst h;exact GA ho
def dP(l:aV):Operand->Option SR
 |.tmp t=>match gt l t with
  |⟨v,g1,g2⟩=>match v with
   |.bA r a b p=>some ⟨some t,⟨.bA r a b p,g1,g2⟩,gt l r⟩
   |.ptr r a b p=>some ⟨some t,⟨.ptr r a b p,g1,g2⟩,gt l r⟩
   |.abs _=>some ⟨none,⟨.dead,0,0⟩,⟨.dead,0,0⟩⟩
   |v=>some ⟨some t,⟨v,g1,g2⟩,⟨.dead,0,0⟩⟩
 |.const v=>match Hs v with
  |true=>match zm v with
   |some x=>some ⟨none,⟨x,0,0⟩,⟨.dead,0,0⟩⟩
   |none=>none
  |false=>none
 |.func f=>some ⟨none,⟨.fn (.func f) [] [],0,0⟩,⟨.dead,0,0⟩⟩
 |.global _=>none
def cF{l:aV}{x:Operand}{r:SR}(h:dP l x=some r):resolve (dn l) x=r.den:=by
 cases x with
 |tmp t=>
  simp[dP]at h;simp[resolve,bM.of];cases hv:gt l t with
  |mk v g1 g2=>rw[hv]at h;cases v<;>simp at h<;>subst h<;>simp[dn,hv]<;>rfl
 |const v=>
  simp[dP]at h;split at h
  ·rename_i ho;split at h
   ·rename_i x hx;cases h;simp[SR.den,Cl.den,N6 hx ho];rfl
   cases h
  cases h
 |func f=>simp[dP]at h;subst h;rfl
 |global g=>simp[dP]at h
section
variable{a b:Bool}{M:List Nat}{ob:List Pd}{d r:Nat}{m:Option (List Mv)}{p:Path}{x:SR}{y:SV}{l l':aV}{α:Type _}
def Hr:Path->SV->Bool
 |[],_=>true
 |[.bX _],_=>true
 |_,y=>y.cell
def MK(p:Path)(y:SV):yC p y.den=Hr p y:=by unfold yC Hr;split<;>simp_all[DK]
def sR:Path->Bool
 |[]=>true
 |_=>false
def cW:Bool->Bool->Bool
 |true,b=>b
 |false,_=>false
def EP:Bool->Bool->Bool
 |true,_=>true
 |false,b=>b
def aN:cW a b=true↔a=true/\b=true:=by cases a<;>simp[cW]
def ru:EP a b=true↔a=true\/b=true:=by cases a<;>simp[EP]
def gF(b:Bool):Option Unit:=match b with
 |true=>some ()
 |false=>none
def bu{u:Unit}:gF b=some u↔b=true:=by cases b<;>simp[gF]
def not':Bool->Bool
 |true=>false
 |false=>true
def not_iff:not' b=true↔b=false:=by cases b<;>simp[not']
def ne'(a b:Nat):Bool:=not'<|Nat.beq a b
def ne_iff{a b:Nat}:ne' a b=true↔a≠b:=by
 unfold ne';rw[not_iff];constructor
 ·intro h e;subst e;simp at h
 intro h;cases hb:Nat.beq a b with
 |false=>rfl
 |true=>simp_all
def beq_iff{a b:Nat}:Nat.beq a b=true↔a=b:=⟨adi,λh=>by subst h;simp⟩
def cX(x:SR):Option (List Pd×SV):=
 match x.sl.v with
 |.bA _ g1 g2 p=>(gF<|cW (Nat.beq x.rt.g1 g1)<|EP (Qu p)<|Nat.beq x.rt.g2 g2).bind λ_=>(gq x.rt.v p).bind λ(ob,y)=>(gF<|cW (Hr p y) y.plain).bind λ_=>some (ob,y)
 |.ptr .. =>none
 |.hole=>none
 |.dead=>none
 |.fI .. =>none
 |y=>some ([],y)
def aE(h:cX x=some (ob,y))(hc:ag ob):x.den.cont=some y.den:=by
 obtain⟨s,⟨v,g1,g2⟩,rt⟩:=x;unfold cX at h;unfold bM.cont;cases v with
 |bA r a b p=>
  simp only[ab3,bu,aN,ru,beq_iff,afh]at h;obtain⟨_,⟨h1,h2⟩,dX,y',hg,_,⟨h3,h4⟩,rfl,rfl⟩:=h;have hp:=cn hg hc;simp only[SR.den,Cl.den,SV.den,h1,if_true,hp,MK,dh,h3,h4,aho];rw[if_pos];rcases h2 with h2|h2
  ·left;assumption
  exact .inr h2
 |ptr=>cases h
 |hole=>cases h
 |dead=>cases h
 |fI=>cases h
 |_=>cases h;simp[SR.den,Cl.den,SV.den]
def u4(x:SR):Option (Nat×Nat×Nat×Path):=
 match x.sl.v with
 |.bA r g1 g2 p=>some (r,g1,g2,p)
 |.ptr .. =>none
 |_=>match x.s with
  |some s=>some (s,x.sl.g1,x.sl.g2,[])
  |none=>none
def nU(x:SR):x.den.place=u4 x:=by obtain⟨s,⟨v,g1,g2⟩,rt⟩:=x;cases v<;>rfl
structure aan where
 r:Nat
 g1:Nat
 g2:Nat
 p:Path
 v:SV
def D0(x:SR):Option (List Pd×aan):=
 match x.sl.v with
 |.ptr r g1 g2 p=>(gF<|cW (Nat.beq x.rt.g1 g1)<|EP (flat p)<|Nat.beq x.rt.g2 g2).bind λ_=>match x.rt with
  |⟨v,a,b⟩=>some ([],⟨r,a,b,p,v⟩)
 |.box o v=>match x.s with
  |some s=>some ([],⟨s,x.sl.g1,x.sl.g2,[.deref],.box o v⟩)
  |none=>none
 |.bA r _ _ p=>(cX x).bind λ(ob,y)=>match y with
  |.box _ _=>match x.rt with
   |⟨v,a,b⟩=>some (ob,⟨r,a,b,p++[.deref],v⟩)
  |_=>none
 |_=>none
def ku{a:aan}(h:D0 x=some (ob,a))(hc:ag ob):x.den.addr=some (a.r,a.g1,a.g2,a.p,a.v.den):=by
 obtain⟨s,⟨v,g1,g2⟩,rt⟩:=x;unfold D0 at h;cases v with
 |ptr r c d p=>simp only[ab3,bu,aN,ru,ac3]at h;obtain⟨_,⟨h1,h2⟩,rfl,rfl⟩:=h;unfold bM.addr;simp only[SR.den,Cl.den,SV.den,if_true];simp_all
 |box o y=>
  cases s with
  |none=>cases h
  |some s=>cases h;rfl
 |bA r c d p=>
  simp[ab3]at h;obtain⟨dX,y,h1,h2⟩:=h;cases y with
  |box o y=>cases h2;have:=aE h1 hc;unfold bM.addr;simp[SR.den,Cl.den,SV.den]at this⊢;rw[this]
  |_=>cases h2
 |_=>cases h
abbrev ox:=Option<|List Pd×aV×List Nat
def da(l:aV)(m:Option (List Mv))(e:ox):Prop:=∀ob l' ks,e=some (ob,l',ks)->ag ob->∃ms,m=some ms/\Mv.runs (dn l) ms=some (dn l')/\aU ms=ks
def QR(l:aV)(d:Nat)(y:SV):aV:=match gt l d with
 |⟨_,a,b⟩=>(d,⟨y,a+1,b⟩)::l
def kM(l:aV)(d:Nat)(y:SV):gQ (dn l) d ⟨y.den,(dn l d).g1+1,(dn l d).g2⟩=dn (QR l d y):=by unfold QR;simp[eW,Cl.den,AJ,PN]
def Step.seq{α:Type _}(s:Step)(k:Step->α):α:=match s with
 |.idx i n=>k (.idx i n)
 |.at o none=>k (.at o none)
 |.at o (some n)=>k (.at o<|some n)
 |.deref=>k .deref
 |.bX i=>k (.bX i)
 |.lR a b c=>k<|.lR a b c
def Step.seq_eq(s:Step)(k:Step->α):s.seq k=k s:=by
 cases s with
 | «at» o n=>cases n<;>rfl
 |_=>rfl
def JA{α:Type _}(p:Path)(k:Path->α):α:=match p with
 |[]=>k []
 |s::p=>s.seq λs=>JA p λp=>k<|s::p
def Jz{α:Type _}:∀(p:Path)(k:Path->α),JA p k=k p
 |[],_=>rfl
 |s::p,k=>by simp[JA,Step.seq_eq];exact Jz p _
def W6{α:Type _}(y:SV)(k:SV->α):α:=match y with
 |.n a1 a2=>k (.n a1 a2)
 |.b a1=>k (.b a1)
 |.u a1=>k (.u a1)
 |.s a1=>k (.s a1)
 |.c a1=>k (.c a1)
 |.nil=>k .nil
 |.ints a1 a2 a3=>k (.ints a1 a2 a3)
 |.fe a1 a2=>k (.fe a1 a2)
 |.strs a1 a2=>k (.strs a1 a2)
 |.b9 a1 a2=>k (.b9 a1 a2)
 |.bT a1 a2 a3 a4 a5=>k (.bT a1 a2 a3 a4 a5)
 |.row a1 a2 a3=>k (.row a1 a2 a3)
 |.agg a1=>k (.agg a1)
 |.bX a1=>k (.bX a1)
 |.box a1 a2=>k (.box a1 a2)
 |.fn a1 a2 a3=>k (.fn a1 a2 a3)
 |.bA a1 a2 a3 p=>JA p λp=>k (.bA a1 a2 a3 p)
 |.ptr a1 a2 a3 p=>JA p λp=>k (.ptr a1 a2 a3 p)
 |.hole=>k .hole
 |.dead=>k .dead
 |.pv C=>k (.pv C)
 |.abs J=>k (.abs J)
 |.fI g ba=>k (.fI g ba)
 |.mp K=>k<|.mp K
def ON(y:SV)(k:SV->α):W6 y k=k y:=by cases y<;>simp[W6,Jz]
def Jv{α:Type _}(l:aV)(d:Nat)(y:SV)(k:aV->α):α:=W6 y λy=>match gt l d with
 |⟨_,a,b⟩=>k<|(d,⟨y,a+1,b⟩)::l
def mV(l:aV)(d:Nat)(y:SV)(k:aV->α):Jv l d y k=k (QR l d y):=by simp[Jv,ON];rfl
def cZ(ob:List Pd)(l:aV)(d:Nat)(y:SV):ox:=Jv l d y λl'=>some (ob,l',[d])
def il(h:ag ob->m=some [.put d y.den]):da l m (cZ ob l d y):=by intro dX l' ks he hc;simp[cZ,mV]at he;obtain⟨rfl,rfl,rfl⟩:=he;exact⟨_,h hc,by simp[Mv.runs,Mv.run,kM],rfl⟩
def bj:da l m none:=λ_ _ _ h=>by cases h
def Gv(l:aV):List Nat->aV
 |[]=>l
 |m::M=>match gt l m with
  |⟨_,a,b⟩=>(m,⟨.dead,a+1,b⟩)::Gv l M
def zj(l:aV):∀(M:List Nat)(i:Nat),dn (Gv l M) i=if i∈M then⟨.dead,(dn l i).g1+1,(dn l i).g2⟩else dn l i
 |[],i=>by simp[Gv]
 |m::M,i=>by
  simp[Gv,eW];unfold gQ;by_cases h:i=m
  ·subst h;simp[Cl.den,SV.den,dn]
  simp[h];exact zj l M i
def OY(l:aV)(M:List Nat)(d:Nat)(y:SV):aV:=match gt l d with
 |⟨_,a,b⟩=>(d,⟨y,a+1,b⟩)::Gv l M
def gK(l:aV)(M:List Nat)(d:Nat)(y:SV):made (dn l) M d y.den=dn (OY l M d y):=by
 unfold OY
 funext i
 simp[made,eW,gQ];by_cases h:i=d
 ·subst h;simp[Cl.den,dn]
 simp[h];rw[zj]
def Ln{α:Type _}(l:aV):List Nat->(aV->α)->α
 |[],k=>k l
 |m::M,k=>match gt l m with
  |⟨_,a,b⟩=>Ln l M λl'=>k<|(m,⟨.dead,a+1,b⟩)::l'
def Dz{α:Type _}(l:aV):∀(M:List Nat)(k:aV->α),Ln l M k=k (Gv l M)
 |[],_=>rfl
 |m::M,k=>by simp[Ln];rw[Dz l M];rfl
def rF{α:Type _}(l:aV)(M:List Nat)(d:Nat)(y:SV)(k:aV->α):α:=W6 y λy=>match gt l d with
 |⟨_,a,b⟩=>Ln l M λl'=>k<|(d,⟨y,a+1,b⟩)::l'
def fo(l:aV)(M:List Nat)(d:Nat)(y:SV)(k:aV->α):rF l M d y k=k (OY l M d y):=by simp[rF,ON,Dz];rfl
def nX(ob:List Pd)(l:aV)(M:List Nat)(d:Nat)(y:SV):ox:=rF l M d y λl'=>some (ob,l',d::M)
def kq(h:ag ob->m=some [.make M d y.den]):da l m (nX ob l M d y):=by intro dX l' ks he hc;simp[nX,fo]at he;obtain⟨rfl,rfl,rfl⟩:=he;exact⟨_,h hc,by simp[Mv.runs,Mv.run,gK],by simp[aU,Mv.keys]⟩
def sx(l:aV)(r:Nat)(p:Path):Option (List Pd×aV):=
 match gt l r with
 |⟨v,a,b⟩=>(gq v p).bind λ(ob,y)=>(kZ v p y.bw).bind λ(dX,v')=>some (app ob dX,(r,⟨v',a,b+1⟩)::l)
def lB(h:sx l r p=some (ob,l'))(hc:ag ob):Mv.run (dn l) (.share r p)=some (dn l'):=by unfold sx at h;simp[ab3]at h;obtain⟨nV,y,h1,pI,v',h2,rfl,rfl⟩:=h;obtain⟨c1,c2⟩:=aM.1 hc;have e1:=cn h1 c1;have e2:=fm h2 c2;simp[Mv.run,dq,e1,fS,e2,eW];rfl
def E6(l:aV)(r d:Nat)(p:Path):Option (List Pd×SV×aV):=
 (gF<|ne' d r).bind λ_=>match gt l r with
 |⟨v,a,b⟩=>(gq v p).bind λ(ob,y)=>(kZ v p<|UC y).bind λ(dX,v')=>match gt l d with
  |⟨_,a',b'⟩=>match sR p with
   |true=>some (app ob dX,y,(d,⟨y,a'+1,b'⟩)::(r,⟨v',a+1,b⟩)::l)
   |false=>some (app ob dX,y,(d,⟨y,a'+1,b'⟩)::(r,⟨v',a,b⟩)::l)
def E5(h:E6 l r d p=some (ob,y,l'))(hc:ag ob):Mv.run (dn l) (.take r d p)=some (dn l'):=by
 unfold E6 at h;simp only[ab3,afh,bu,ne_iff]at h;obtain⟨_,dc,nV,y1,h1,pI,v',h2,h⟩:=h;have key:ob=app nV pI/\l'=(d,⟨y1,(gt l d).g1+1,(gt l d).g2⟩)::(r,if p=[]then⟨v',(gt l r).g1+1,(gt l r).g2⟩else⟨v',(gt l r).g1,(gt l r).g2⟩)::l:=by
  cases p with
  |nil=>simp[sR]at h;obtain⟨rfl,rfl,rfl⟩:=h;simp
  |cons s p=>simp[sR]at h;obtain⟨rfl,rfl,rfl⟩:=h;simp
 obtain⟨rfl,rfl⟩:=key;obtain⟨c1,c2⟩:=aM.1 hc;have e1:=cn h1 c1;have e2:=fm h2 c2;simp[Mv.run,dc,dq,e1,<-RC,e2,eW];have hb:jr (dn l r) p v'.den=Cl.den (if p=[]then⟨v',(gt l r).g1+1,(gt l r).g2⟩else⟨v',(gt l r).g1,(gt l r).g2⟩):=by unfold jr;split<;>rfl
 rw[hb];rfl
def Mj(l:aV)(r:Nat)(p:Path)(M:List Nat)(y:SV):ox:=
 (gF<|not'<|M.any<|Nat.beq r).bind λ_=>match gt l r with
 |⟨v,a,b⟩=>(kZ v p y).bind λ(ob,v')=>Ln l M λl'=>some (ob,(r,⟨v',a,b+1⟩)::l',r::M)
def Mi{ks:List Nat}(h:Mj l r p M y=some (ob,l',ks))(hc:ag ob):Mv.run (dn l) (.store r p M y.den)=some (dn l')/\ks=r::M:=by
 unfold Mj at h;simp only[ab3,afh,bu,not_iff,Dz]at h;obtain⟨_,hn,nV,v',h1,rfl,rfl,rfl⟩:=h;have hm:r∉M:=by intro hm;have:M.any (Nat.beq r)=true:=List.any_eq_true.2 ⟨r,hm,by simp⟩;rw[hn]at this;cases this
 have e1:=fm h1 hc;simp[Mv.run,hm,dq,e1]
 funext i
 simp[stored,eW,gQ];by_cases h:i=r
 ·subst h;simp[Cl.den,dn]
 simp[h];rw[zj]
def LB(d:Nat):List (Nat×Nat)->Bool
 |[]=>true
 |(r,_)::q=>cW (ne' r d)<|LB d q
def zp{d:Nat}:∀{ba:List (Nat×Nat)},LB d ba=true->ba.all (λq=>q.1 !=d)=true
 |[],_=>rfl
 |(r,a)::c,h=>by simp[LB,aN]at h;simp only[adl,acd];exact⟨by simpa using ne_iff.1 h.1,zp h.2⟩
def sZ(l:aV)(d:Nat)(x:SR):ox:=
 match x.sl.v with
 |.bA r a b p=>(gF<|ne' r d).bind λ_=>cZ [] l d (.bA r a b p)
 |.ptr r a b p=>(gF<|ne' r d).bind λ_=>cZ [] l d (.ptr r a b p)
 |.fI g ba=>(gF<|LB d ba).bind λ_=>cZ [] l d (.fI g ba)
 |y=>match y.aF with
  |true=>cZ [] l d y
  |false=>match x.s with
   |some s=>(gF<|ne' s d).bind λ_=>cZ [] l d (.bA s x.sl.g1 x.sl.g2 [])
   |none=>none
def bd{e:ox}(h:b=true->da l m e):da l m ((gF b).bind λ_=>e):=by
 cases b with
 |true=>exact h rfl
 |false=>exact bj
def jk(l:aV)(d:Nat)(x:SR):da l (c6 d x.den) (sZ l d x):=by
 obtain⟨s,⟨v,g1,g2⟩,rt⟩:=x;have gen:∀v:SV,v.jF=true->da l (c6 d<|SR.den ⟨s,⟨v,g1,g2⟩,rt⟩) (match v.aF with
  |true=>cZ [] l d v
  |false=>match s with
   |some s=>(gF<|ne' s d).bind λ_=>cZ [] l d (.bA s g1 g2 [])
   |none=>none):=by
  intro v hv;have hm:c6 d (SR.den ⟨s,⟨v,g1,g2⟩,rt⟩)=if v.aF then some [.put d v.den]else match s with
   |some s=>if s=d then none else some [.put d<|.bA s g1 g2 []]
   |none=>none:=by
   have hp:v.den.jF=true:=by rw[pJ];exact hv
   have:∀a:AV,a.jF=true->c6 d ⟨s,⟨a,g1,g2⟩,rt.den⟩=if a.aF then some [.put d a]else match s with
    |some s=>if s=d then none else some [.put d<|.bA s g1 g2 []]
    |none=>none:=by
    intro a ha;cases a<;>first|rfl|simp[AV.jF]at ha
   have h2:=this v.den hp;rw[cz]at h2;exact h2
  rw[hm];cases v.aF with
  |true=>exact il λ_=>rfl
  |false=>
   cases s with
   |none=>exact bj
   |some s=>exact bd λhb=>il λ_=>by simp[ne_iff.1 hb,SV.den]
 cases v with
 |bA r a b p=>exact bd λhb=>il λ_=>by simp[c6,SR.den,Cl.den,SV.den,ne_iff.1 hb]
 |ptr r a b p=>exact bd λhb=>il λ_=>by simp[c6,SR.den,Cl.den,SV.den,ne_iff.1 hb]
 |fI g ba=>exact bd λhb=>il λ_=>by simp[c6,SR.den,Cl.den,SV.den,zp hb]
 |_=>exact gen _ rfl
end
inductive Ty
 |int (k:IntKind)|bool|str
 |slice (e:TypeId)
 |array (n:Nat) (e:TypeId)
 |struct (fs:List (Nat×TypeId×Nat))
 |ptr|func|other
structure xY where
 agg:Bool
 size:Nat
 bytes:Nat
 zero:SV
def xY.den(i:xY):TI:=⟨i.agg,i.size,i.bytes,i.zero.den⟩
structure TE where
 un:Ty
 ti:Option xY
def Ty.ok(P:Program)(t:TypeId):Ty->Prop
 |.int k=>P.underlying t=some (.int k)
 |.bool=>P.underlying t=some .bool
 |.str=>P.underlying t=some .string
 |.slice e=>P.underlying t=some (.slice e)
 |.array n e=>P.underlying t=some (.array n e)
 |.struct fs=>∃f,P.underlying t=some (.struct f)/\f.toList.mapM (λf=>(P.info? f.type).map λi=>(f.offset,f.type,i.size))=some fs
 |.ptr=>∃e,P.underlying t=some (.pointer e)
 |.func=>∃a b c,P.underlying t=some (.func a b c)
 |.other=>True
def TE.ok(P:Program)(t:TypeId)(e:TE):Prop:=e.un.ok P t/\∀i,e.ti=some i->bY P t=some i.den
abbrev TT:=List<|Nat×TE
def ty?:TT->TypeId->Option TE
 |[],_=>none
 |(d,x)::l,i=>match Nat.beq i d with
  |true=>some x
  |false=>ty? l i
def cq(P:Program):TT->Prop
 |[]=>True
 |(t,e)::l=>e.ok P t/\cq P l
def cq.get{P:Program}:∀{tt:TT}{t:TypeId}{e:TE},cq P tt->ty? tt t=some e->e.ok P t
 |[],_,_,_,h=>by simp[ty?]at h
 |(d,x)::l,t,e,ha,h=>by
  simp[ty?]at h;split at h
  ·rename_i hb;have:=adi hb;subst this;cases h;exact ha.1
  exact cq.get ha.2 h
def GP(tt:TT)(t:TypeId):Option xY:=(ty? tt t).bind λe=>e.ti
def E4(tt:TT)(t:TypeId):Option Ty:=(ty? tt t).bind λe=>some e.un
def slice?(tt:TT)(t:TypeId):Option TypeId:=(E4 tt t).bind λ|.slice e=>some e|_=>none
section
variable{P:Program}{tt:TT}{t:TypeId}
def j7(h:cq P tt){i:xY}(hi:GP tt t=some i):bY P t=some i.den:=by simp[GP,ab3]at hi;obtain⟨e,h1,h2⟩:=hi;exact(h.get h1).2 i h2
def l9(h:cq P tt){u:Ty}(hi:E4 tt t=some u):u.ok P t:=by simp[E4,ab3]at hi;obtain⟨e,h1,rfl⟩:=hi;exact(h.get h1).1
def vW(h:cq P tt){e:TypeId}(hi:slice? tt t=some e):P.underlying t=some (.slice e):=by simp[slice?,ab3]at hi;obtain⟨u,h1,h2⟩:=hi;have:=l9 h h1;cases u<;>cases h2;exact this
def mT(h:cq P tt){e:TypeId}(hi:slice? tt t=some e):dt P t=some e:=by simp[dt,vW h hi]
end
def mq(ti:xY):SV->Bool
 |.agg xs=>cW ti.agg (Nat.beq (len xs) ti.size)
 |y=>cW (not' ti.agg)<|cW (Nat.beq ti.size 1) y.cell
def iW(ti:xY)(y:SV)(h:mq ti y=true):fits ti.den y.den=true:=by
 cases y with
 |agg xs=>simp[mq,aN,eV]at h;simp[fits,SV.den,xY.den,h,bq]
 |_=>simp[mq,aN,not_iff]at h;simp[fits,SV.den,xY.den,h,AV.cell]<;>(try simp[SV.cell]at h)
section
variable{P:Program}{tt:TT}(hA:cq P tt)(l:aV)(d:Nat)
def aj{α:Type _}{m:Option (List Mv)}{x:Option α}{f:α->ox}(h:∀a,x=some a->da l m (f a)):da l m (x.bind f):=by
 cases x with
 |none=>exact bj
 |some a=>exact h a rfl
def IB(ob:List Pd):ox->ox
 |some (dX,l',ks)=>some (app ob dX,l',ks)
 |none=>none
def nz{m:Option (List Mv)}{ob:List Pd}{e:ox}(h:ag ob->da l m e):da l m (IB ob e):=by
 intro dX l' ks he hc;cases e with
 |none=>simp[IB]at he
 |some q=>obtain⟨rfl,rfl,rfl⟩:=he;obtain⟨c1,c2⟩:=aM.1 hc;exact h c1 _ _ _ rfl c2
def AV.ZB:AV->Bool
 |.box _ _=>true
 |_=>false
def Dh(l:aV)(d:Nat)(x:SR):ox:=
 match x.sl.v with
 |.ptr r a b p=>(gF<|ne' r d).bind λ_=>cZ [] l d (.ptr r a b p)
 |.fI g ba=>(gF<|LB d ba).bind λ_=>cZ [] l d (.fI g ba)
 |.bA r _ _ p=>(cX x).bind λ(ob,y)=>match y.aF with
  |true=>cZ ob l d y
  |false=>match p with
   |[]=>(E6 l r d []).bind λ(dX,_,l')=>some (app ob dX,l',[r,d])
   |[.bX i]=>(E6 l r d [.bX i]).bind λ(dX,_,l')=>some (app ob dX,l',[r,d])
   |p=>(gF<|ne' r d).bind λ_=>(sx l r p).bind λ(dX,l')=>Jv l' d y.bw λl2=>some (app ob dX,l2,[r,d])
 |.box b z=>match(SV.box b z).aF with
  |true=>cZ [] l d (.box b z)
  |false=>match x.s with
   |some s=>(gF<|ne' s d).bind λ_=>cZ [] l d (.bA s x.sl.g1 x.sl.g2 [])
   |none=>none
 |y=>match y.aF with
  |true=>cZ [] l d y
  |false=>match x.s with
   |some s=>(gF<|ne' s d).bind λ_=>nX [] l [s] d y
   |none=>none
def Dg(x:SR):da l (dy d x.den) (Dh l d x):=by
 obtain⟨s,⟨v,g1,g2⟩,rt⟩:=x;unfold Dh;have gen:∀v:SV,v.jF=true->v.den.ZB=false->da l (dy d<|SR.den ⟨s,⟨v,g1,g2⟩,rt⟩) (match v.aF with
  |true=>cZ [] l d v
  |false=>match s with
   |some s=>(gF<|ne' s d).bind λ_=>nX [] l [s] d v
   |none=>none):=by
  intro v hv LX;have hm:dy d (SR.den ⟨s,⟨v,g1,g2⟩,rt⟩)=if v.aF then some [.put d v.den]else match s with
   |some s=>if s=d then none else some [.make [s] d v.den]
   |none=>none:=by
   have hp:v.den.jF=true:=by rw[pJ];exact hv
   have:∀a:AV,a.jF=true->a.ZB=false->dy d ⟨s,⟨a,g1,g2⟩,rt.den⟩=if a.aF then some [.put d a]else match s with
    |some s=>if s=d then none else some [.make [s] d a]
    |none=>none:=by
    intro a ha hb;cases a<;>first|rfl|exact absurd hb (λh=>Bool.noConfusion h)|simp[AV.jF]at ha
   have h2:=this v.den hp LX;rw[cz]at h2;exact h2
  rw[hm];cases v.aF with
  |true=>exact il λ_=>rfl
  |false=>
   cases s with
   |none=>exact bj
   |some s=>exact bd λhb=>kq λ_=>by simp[ne_iff.1 hb]
 cases v with
 |bA r a b p=>
  intro ob l' ks he hc;simp[ab3,afh]at he;obtain⟨nV,y,hy,he⟩:=he;have hm:∀wZ:(SR.den ⟨s,⟨.bA r a b p,g1,g2⟩,rt⟩).cont=some y.den,dy d (SR.den ⟨s,⟨.bA r a b p,g1,g2⟩,rt⟩)=if y.aF then some [.put d y.den]else match p with
   |[]=>some [.take r d []]
   |[.bX i]=>some [.take r d [.bX i]]
   |p=>if r=d then none else some [.share r p,.put d y.den.bw]:=by
   intro wZ;unfold dy;simp[SR.den,Cl.den,SV.den]at wZ⊢;rw[wZ];simp[cz];split
   ·rfl
   split<;>simp_all
  cases hn:y.aF with
  |true=>rw[hn]at he;simp[cZ,mV,abr,ac3]at he;obtain⟨rfl,rfl,rfl⟩:=he;have:=hm<|aE hy hc;rw[hn]at this;exact⟨_,by simpa using this,by simp[Mv.runs,Mv.run,kM],rfl⟩
  |false=>
   rw[hn]at he hm;simp[mV]at he;have tk:∀p,((E6 l r d p).bind λ(x:List Pd×SV×aV)=>some (app nV x.1,x.2.2,[r,d]))=some (ob,l',ks)->ag nV/\Mv.run (dn l) (.take r d p)=some (dn l')/\ks=[r,d]:=by intro p hh;simp[ab3,afh,abr,ac3]at hh;obtain⟨pI,y2,l2,h1,rfl,rfl,rfl⟩:=hh;obtain⟨c1,c2⟩:=aM.1 hc;exact⟨c1,E5 h1 c2,rfl⟩
   have sh:∀p,((gF<|ne' r d).bind λ_=>(sx l r p).bind λ(x:List Pd×aV)=>some (app nV x.1,QR x.2 d y.bw,[r,d]))=some (ob,l',ks)->
    ag nV/\r≠d/\Mv.runs (dn l) [.share r p,.put d y.den.bw]=some (dn l')/\ks=[r,d]:=by
    intro p hh;simp only[ab3,afh,abr,ac3,bu,ne_iff]at hh;obtain⟨_,dc,pI,l2,h1,rfl,rfl,rfl⟩:=hh;obtain⟨c1,c2⟩:=aM.1 hc;refine⟨c1,dc,?_,rfl⟩;simp[Mv.runs];rw[lB h1 c2];simp[Mv.run,fS,kM]
   split at he
   ·obtain⟨c1,h2,rfl⟩:=tk [] he;have:=hm<|aE hy c1;exact⟨_,by simpa using this,by simp[Mv.runs,h2],rfl⟩
   ·obtain⟨c1,h2,rfl⟩:=tk _ he;have:=hm<|aE hy c1;exact⟨_,by simpa using this,by simp[Mv.runs,h2],rfl⟩
   rename_i hp1 Ph;obtain⟨c1,dc,h2,rfl⟩:=sh _ he;have:=hm<|aE hy c1;refine⟨_,?_,h2,rfl⟩;rw[this];simp[aeu,if_false];cases p with
   |nil=>exact(hp1 rfl).elim
   |cons st q=>cases st with
    |bX i=>cases q with
     |nil=>exact(Ph i rfl).elim
     |cons _ _=>simp[dc]
    |_=>simp[dc]
 |ptr r a b p=>exact bd λhb=>il λ_=>by simp[dy,SR.den,Cl.den,SV.den,ne_iff.1 hb]
 |fI g ba=>exact bd λhb=>il λ_=>by simp[dy,SR.den,Cl.den,SV.den,zp hb,if_true]
 |box b z=>
  have hm:dy d (SR.den ⟨s,⟨.box b z,g1,g2⟩,rt⟩)=if(SV.box b z).den.aF then some [.put d (SV.box b z).den]else match s with
   |some s=>if s=d then none else some [.put d<|.bA s g1 g2 []]
   |none=>none:=rfl
  rw[hm,cz];show da l _ (match(SV.box b z).aF with
   |true=>cZ [] l d (.box b z)
   |false=>match s with
    |some s=>(gF<|ne' s d).bind λ_=>cZ [] l d (.bA s g1 g2 [])
    |none=>none)
  cases(SV.box b z).aF with
  |true=>exact il λ_=>rfl
  |false=>
   cases s with
   |none=>exact bj
   |some s=>exact bd λhb=>il λ_=>by simp[ne_iff.1 hb,SV.den]
 |_=>exact gen _ rfl rfl
def NL(tt:TT)(l:aV)(d:Nat)(t:TypeId)(x:SR):ox:=
 (GP tt t).bind λti=>(D0 x).bind λ(ob,ad)=>(gq ad.v ad.p).bind λ(dX,y)=>(gF<|mq ti y).bind λ_=>match y.aF with
   |true=>cZ (app ob dX) l d y
   |false=>(gF<|ne' ad.r d).bind λ_=>match y.cell with
    |true=>cZ (app ob dX) l d (.bA ad.r ad.g1 ad.g2 ad.p)
    |false=>(sx l ad.r ad.p).bind λ(pI,l')=>Jv l' d y.bw λl2=>some (app (app ob dX) pI,l2,[ad.r,d])
def H6(hA:cq P tt)(l:aV)(d:Nat)(t:TypeId)(x:SR):da l (sP P d t x.den) (NL tt l d t x):=by
 intro ob l' ks he hc;unfold NL at he;simp only[ab3,afh,bu]at he;obtain⟨ti,h1,nV,ad,h2,pI,y,h3,_,h4,he⟩:=he;have base:ag nV->ag pI->sP P d t x.den=if y.aF then some [.put d y.den]else if ad.r=d then none else if y.cell then some [.put d<|.bA ad.r ad.g1 ad.g2 ad.p]else some [.share ad.r ad.p,.put d y.den.bw]:=by intro c1 c2;unfold sP;simp[j7 hA h1,ku h2 c1,cn h3 c2,iW _ _ h4,cz,DK]
 cases hn:y.aF with
 |true=>rw[hn]at he base;simp[cZ,mV,ac3]at he;obtain⟨rfl,rfl,rfl⟩:=he;obtain⟨c1,c2⟩:=aM.1 hc;exact⟨_,base c1 c2,by simp[Mv.runs,Mv.run,kM],rfl⟩
 |false=>
  rw[hn]at he base;simp only[ab3,bu,ne_iff]at he;obtain⟨_,dc,he⟩:=he;cases Bg:y.cell with
  |true=>rw[Bg]at he base;simp[cZ,mV,ac3]at he;obtain⟨rfl,rfl,rfl⟩:=he;obtain⟨c1,c2⟩:=aM.1 hc;refine⟨_,by simpa[dc]using base c1 c2,?_,rfl⟩;have:=kM l d<|.bA ad.r ad.g1 ad.g2 ad.p;rw[<-this];rfl
  |false=>rw[Bg]at he base;simp[ab3,mV,ac3]at he;obtain⟨Xt,l2,h5,rfl,rfl,rfl⟩:=he;obtain⟨c12,c3⟩:=aM.1 hc;obtain⟨c1,c2⟩:=aM.1 c12;refine⟨_,by simpa[dc]using base c1 c2,?_,rfl⟩;simp[Mv.runs];rw[lB h5 c3];simp[Mv.run,fS,kM]
def U4(s:Option Nat)(y:SV):Option (List Pd×SV×List Nat):=match y.aF with
 |true=>some ([],y,[])
 |false=>match s with
  |some s=>some ([],y,[s])
  |none=>none
def w9(x:SR):Option (List Pd×SV×List Nat):=
 match x.sl.v with
 |.bA r _ _ p=>(cX x).bind λ(ob,y)=>match y.aF with
  |true=>some (ob,y,[])
  |false=>match sR p with
   |true=>some (ob,y,[r])
   |false=>none
 |.ptr .. =>none
 |.dead=>none
 |.fI .. =>none
 |y=>U4 x.s y
def o7{x:SR}{ob:List Pd}{y:SV}{M:List Nat}(h:w9 x=some (ob,y,M))(hc:ag ob):dT x.den=some (y.den,M):=by
 obtain⟨s,⟨v,g1,g2⟩,rt⟩:=x;unfold w9 at h;have gen:∀v:SV,v.jF=true->v≠.dead->U4 s v=some (ob,y,M)->dT (SR.den ⟨s,⟨v,g1,g2⟩,rt⟩)=some (y.den,M):=by
  intro v hv hd hh;have hm:dT (SR.den ⟨s,⟨v,g1,g2⟩,rt⟩)=if v.aF then some (v.den,[])else match s with
   |some s=>some (v.den,[s])
   |none=>none:=by
   have:∀a:AV,a.jF=true->a≠.dead->dT ⟨s,⟨a,g1,g2⟩,rt.den⟩=if a.aF then some (a,[])else match s with
    |some s=>some (a,[s])
    |none=>none:=by
    intro a ha hd;cases a<;>first|rfl|exact absurd rfl hd|simp[AV.jF]at ha
   have h2:=this v.den (by rw[pJ];exact hv) (by intro e;apply hd;cases v<;>simp[SV.den]at e⊢);rw[cz]at h2;exact h2
  rw[hm];unfold U4 at hh;cases hn:v.aF with
  |true=>rw[hn]at hh;cases hh;rfl
  |false=>
   rw[hn]at hh;cases s with
   |none=>cases hh
   |some s=>cases hh;rfl
 cases v with
 |bA r a b p=>
  simp[ab3]at h;obtain⟨nV,y1,h1,h⟩:=h;unfold dT;cases hn:y1.aF with
  |true=>rw[hn]at h;cases h;have:=aE h1 hc;simp[SR.den,Cl.den,SV.den]at this⊢;simp[this,cz,hn]
  |false=>
   rw[hn]at h;cases p with
   |cons _ _=>simp[sR]at h
   |nil=>obtain⟨rfl,rfl,rfl⟩:=h;have:=aE h1 hc;simp[SR.den,Cl.den,SV.den]at this⊢;simp[this,cz,hn]
 |ptr=>cases h
 |dead=>cases h
 |fI g ba=>cases h
 |_=>exact gen _ rfl (by simp) h
def kR:List SR->Option (List Pd×List SV×List Nat)
 |[]=>some ([],[],[])
 |x::xs=>(w9 x).bind λ(ob,y,M)=>(kR xs).bind λ(dX,ys,N)=>(gF<|M.all λm=>not'<|N.any<|Nat.beq m).bind λ_=>some (app ob dX,y::ys,cat M N)
def oc:∀{xs:List SR}{ob:List Pd}{ys:List SV}{M:List Nat},kR xs=some (ob,ys,M)->ag ob->fG (xs.map SR.den)=some (au ys,M)
 |[],ob,ys,M,h,_=>by simp[kR]at h;obtain⟨-,rfl,rfl⟩:=h;rfl
 |x::xs,ob,ys,M,h,hc=>by simp only[kR,ab3,afh,bu]at h;obtain⟨nV,y,M1,h1,pI,Qm,N,h2,_,h3,rfl,rfl,rfl⟩:=h;obtain⟨c1,c2⟩:=aM.1 hc;simp only[ado,fG,o7 h1 c1,oc h2 c2,c8,au];rw[if_pos];rw[ade]at h3⊢;intro m hm;have:=h3 m hm;rw[not_iff]at this;simp;intro hmn;rw[List.any_eq_false]at this;exact this m hmn (by simp)
def H3(tt:TT)(l:aV)(t:TypeId)(a x:SR):ox:=
 (GP tt t).bind λti=>(D0 a).bind λ(ob,ad)=>(gq ad.v ad.p).bind λ(dX,y0)=>(gF<|cW (mq ti y0)<|ne' ti.size 0).bind λ_=>(w9 x).bind λ(pI,y,M)=>(gF<|mq ti y).bind λ_=>IB (app (app ob dX) pI)<|Mj l ad.r ad.p M y
def EC(hA:cq P tt)(l:aV)(t:TypeId)(a x:SR):da l (uS P t a.den x.den) (H3 tt l t a x):=by
 refine aj _ λti h1=>aj _ λ⟨ob,ad⟩h2=>aj _ λ⟨dX,y0⟩h3=>bd λh4=>aj _ λ⟨pI,y,M⟩h5=>bd λh6=>nz _ λhc=>?_;obtain⟨c12,c3⟩:=aM.1 hc;obtain⟨c1,c2⟩:=aM.1 c12;rw[aN,ne_iff]at h4;have cM:ti.den.size≠0:=h4.2;have hm:uS P t a.den x.den=some [.store ad.r ad.p M y.den]:=by unfold uS;simp[j7 hA h1,ku h2 c1,cn h3 c2,iW _ _ h4.1,o7 h5 c3,iW _ _ h6];simpa using cM
 rw[hm];intro ob l' ks he cm;obtain⟨r1,r2⟩:=Mi he cm;exact⟨_,rfl,by simp[Mv.runs,r1],by simp[aU,Mv.keys,r2]⟩
end
end Go.Ai
