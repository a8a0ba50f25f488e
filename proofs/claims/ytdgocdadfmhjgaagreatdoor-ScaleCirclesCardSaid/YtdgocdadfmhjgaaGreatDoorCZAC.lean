/- Parts of the proof of ScaleCircles (CheckRefused returns the error of the reference), at every input, with no further conditions. -/
import Derived.Test.YtdgocdadfmhjgaaGreatDoorCZAB
set_option linter.all false
set_option maxRecDepth 100000
set_option maxHeartbeats 0
namespace Go.Ai
open Go.RowKit
section
variable{P:Program}{N:Nat}{w0 w:World}{V:Hid}{S S0:Nat->Prop}{B:Nat->Prop}{σ σ':St}{a:Act}{F:Nat->List Nat}
def wg{sz:Nat}{xs:List AV}{v:Value}{F1:List Nat}(h:Rel w S (.list .nil sz xs) v F1):xs=[]/\v=.slice none 0 0/\F1=[]:=by simpa[Rel]using h
def Iy{t t' ty e e2:TypeId}{x y:Value}(ht:P.underlying t=some (.slice e))(Pc:P.underlying t'=some (.slice e2)):(Builtin.append_ #[t,t'] ty #[x,y]).run P w=(Builtin.append_ #[t,t] ty #[x,y]).run P w:=by cases x<;>simp[Builtin.append_,run_underlying ht,run_underlying Pc]
def Iz{d t ty:Nat}(h:Inv N V w0 S0 σ a w)(hd:d<N)(x y:Operand)(rG:aI x=true)(hyf:aI y=true){ms:List Mv}
 (hm:kX P d t (resolve σ x) (resolve σ y)=some ms)(hr:Mv.runs σ ms=some σ'):Good N V w0 S0 σ' a d ((Builtin.append_ #[t,t] ty #[a.eval x,a.eval y]).run P w):=by
 unfold kX at hm;split at hm
 ·rename_i e he;split at hm
  ·rename_i ti gR;split at hm
   ·cases hm
   rename_i ua;split at hm
   ·rename_i fy Qy ys hy;obtain⟨My,Pz,hm⟩:∃My,(My=[]/\bx ys=true\/∃s,My=[s]/\y=.tmp s/\(σ s).av.plain=true)/\(if(ys.isEmpty||(Qy==ti.size&&ys.all (fits ti)))&& !My.contains d then
     match(resolve σ x).cont with
     |some (.list .nil _ _)=>if(ys.length*ti.bytes)<=140737488355328/\ys.length<=maxLen then
       some [Mv.make My d<|if ys.isEmpty then .list .nil 0 []else .list .own ti.size ys]else none
     |some (.list .own Wk xs)=>if Wk=ti.size/\(xs.length+ys.length)*ti.bytes<=140737488355328/\xs.length+ys.length<=maxLen then
       match(resolve σ x).sl.av with
       |.bA r _ _ p=>if r∈My then none else some [.take r d p,.make (d::My) d<|.list .own ti.size<|xs++ys]
       |_=>match(resolve σ x).s with
        |some s=>if s∈My then none else some [.make (s::My) d<|.list .own ti.size<|xs++ys]
        |none=>none
      else none
     |_=>none
     else none)=some ms:=by
     dsimp only at hm;split at hm
     ·cases hm
     rename_i My Pz;refine⟨My,?_,hm⟩;split at Pz
     ·rename_i gu;simp only[abr]at Pz;exact .inl ⟨Pz.symm,gu⟩
     split at Pz
     ·rename_i h1 h2;split at Pz
      ·rename_i s hs;simp only[abr]at Pz;cases y with
       |tmp t'=>
        have wX:(resolve σ<|.tmp t').s=some t'/\(resolve σ<|.tmp t').sl=σ t':=by revert hs;simp only[resolve,bM.of];split<;>first|(intro _;exact ab)|(intro h;cases h)
        rw[wX.1]at hs;simp only[abr]at hs;subst hs;rw[wX.2]at h2;exact .inr ⟨t',Pz.symm,rfl,by rw[h2];rfl⟩
       |const v=>simp[resolve]at hs
       |func f=>simp[resolve]at hs
       |global g=>simp[resolve]at hs
      cases Pz
     cases Pz
    have Ur:∀S F,aS S (cu V w0) σ (tv V a) w F->∃ly Gy,cv w S Qy ys ly Gy/\(((∃ad,a.eval y=.slice ad 0 0)/\ys=[]/\ly=[])\/
     ∃ad cap,a.eval y=.slice (some ad) ys.length cap/\ad.spot=none/\∀j u,ly[j]?=some u->w.cell? (ad.add j)=some u)/\(∀b∈Gy,∃m∈My,b∈F m)/\Gy.Nodup:=by
     intro S F hc;obtain⟨Fy,e1,e2,e3,-⟩:=aQ hc y hyf hy;obtain⟨ly,Gy,q1,q2,q3,q4⟩:=e1.MZ;rcases Pz with⟨rfl,gu⟩|⟨s,rfl,rfl,iD⟩
     ·exact⟨ly,Gy,q1,q4,by rw[cv.aF Qy q1 gu];simp,by rw[cv.aF Qy q1 gu];exact adn⟩
     obtain⟨rfl,-⟩:=e3 s rfl iD;exact⟨ly,Gy,q1,q4,λb hb=>⟨s,by simp,q2 b hb⟩,q3<|hc.nodup s⟩
    split at hm
    ·rename_i iJ;simp only[acd,agq,ag5,beq_iff_eq,List.isEmpty_iff]at iJ;obtain⟨hfy,hdM⟩:=iJ;have aja:d∉My:=by simpa using hdM
     have abX:ys=[]\/Qy=ti.size:=hfy.imp id (·.1);have jj:ys.all (fits ti)=true:=by
      rcases hfy with rfl|h
      ·rfl
      exact h.2
     split at hm
     ·rename_i Wk xs hx;split at hm
      ·rename_i hb;cases hm;simp only[jf,abr]at hr;subst hr;obtain⟨S,F,hc,hN,jx,jn,gD,dB⟩:=h;obtain⟨Fx,ex,-⟩:=aQ hc x rG hx;obtain⟨rfl,-,rfl⟩:=wg ex;obtain⟨ly,Gy,q1,q2,q3,q4⟩:=Ur S F hc;obtain⟨v,w',Fv,r1,r2,r3,r4,r5,r6,r7,r8,r9⟩:=vI (P:=P) (ty:=ty) he gR ua ex q1 q2 (.inl rfl) abX jj (by simpa using q4) hc.shr (by simp)
        (λb hb=>by obtain⟨m,-,hm⟩:=q3 b hb;exact(hc.own m b hm).2.1) (by simpa using hb.1) (by simpa using hb.2)
       have C0:Below w.heap.size w w':=⟨r7,r8,r9,r5,λk hk=>r6 k hk<|by simp⟩;refine⟨v,w',r1,S,λi=>if i=d then Fv else if i∈My then[]else F i,?_,by rw[size_put];exact hN,by rw[fE];exact jx,jn,gD,dB.OE C0⟩;rw[nG<|by rw[hN];exact hd];have D7:(if ys.isEmpty then AV.list .nil 0 []else .list .own ti.size ys)=(if Fl.nil=Fl.nil/\ys=[]then AV.list .nil 0 []else .list .own ti.size ([]++ys)):=by by_cases h0:ys=[]<;>simp[h0]
       rw[D7];exact hc.make My d _ v Fv dB.new r5 (λb dO _=>r6 b dO<|by simp) r3
        (λb hb=>(r4 b hb).elim (λh=>by cases h) λh=>h.imp (q3 b) id) r2
      simp at hm
     ·rename_i Wk xs hx;split at hm
      ·rename_i hb;obtain⟨rfl,vp,Ev⟩:=hb;split at hm
       ·rename_i r g1 g2 p cC;split at hm
        ·simp at hm
        rename_i X9;cases hm;cases x with
        |const v=>simp only[resolve]at cC;have:=dJ v;rw[cC]at this;simp[AV.plain]at this
        |func f=>simp[resolve]at cC
        |global g=>simp[resolve,Sl.none]at cC
        |tmp t'=>
         have afC:(σ t').av=.bA r g1 g2 p:=by revert cC;simp only[resolve,bM.of];split<;>first|exact id|(intro h;simp[Sl.none]at h)
         obtain⟨gE,abI,abH⟩:=DD afC hx;have HJ:(σ r).av.plain=true:=by
          by_cases hp:p=[]
          ·subst hp;simp only[bg,abr]at gE;rw[gE];exact abH
          exact abI hp
         simp only[Mv.runs,Mv.run]at hr;split at hr
         ·rename_i σ1 lU;cases hr;split at lU
          ·simp at lU
          rename_i RJ;rw[gE]at lU;simp only at lU;split at lU
          ·rename_i av' hs;cases lU;obtain⟨S,F,hc,hN,jx,jn,gD,dB⟩:=h;obtain⟨L,z,Fx,F',k1,k2,k3,k4,k5,k6⟩:=hc.take r d p RJ HJ gE hs;have hz:=Iq hc afC hx k1 k2 k3;obtain⟨ly,Gy,q1,q2,q3,q4⟩:=Ur S F hc;have hq3:∀b∈Gy,∃m∈My,m≠d/\b∈F' m:=by
            intro b hb;obtain⟨m,hm,rV⟩:=q3 b hb;have Kr:m≠d:=λe=>aja (e▸hm);have hmr:m≠r:=λe=>X9 (e▸hm);exact⟨m,hm,Kr,by rw[k6 m hmr Kr];exact rV⟩
           have abL:(Fx++Gy).Nodup:=by rw[acT];refine⟨k5▸k4.nodup d,q4,λb hb c cm e=>?_⟩;subst e;obtain⟨m,-,Kr,rV⟩:=hq3 b cm;exact k4.di d m (λe=>Kr e.symm) b (k5▸hb) rV
           obtain⟨v,w',Fv,r1,r2,r3,r4,r5,r6,r7,r8,r9⟩:=vI (P:=P) (ty:=ty) he gR ua k3 q1 q2 (.inr ab) abX jj abL hc.shr
            (λb hb=>(k4.own d b (k5▸hb)).2) (λb hb=>by obtain⟨m,-,-,hm⟩:=hq3 b hb;exact(k4.own m b hm).2.1) vp Ev
           have C0:uj V w0 w w':=⟨r7,r8,r9,r5,λk hk hng=>r6 k (adv hk dB.size) λhb=>wK (k4.own d k (k5▸hb)).1 hk hng⟩;rw[hz,<-iy V a (fC rG)]at r1;refine⟨v,w',r1,S,λi=>if i=d then Fv else if i∈d::My then[]else F' i,?_,by rw[size_put];exact hN,by rw[fE];exact jx,jn,gD,dB.trans C0⟩;rw[nG<|by rw[hN];exact hd];have hT:gQ (tv V a) d v=gQ (gQ (tv V a) d z) d v:=by funext i;simp only[gQ];split<;>rfl
           rw[hT];refine k4.make (d::My) d _ v Fv dB.new r5 (λb dO rV=>?_) r3 (λb hb=>?_) r2
           ·exact r6 b dO λhb=>rV d (by simp) (k5▸hb)
           rcases r4 b hb with h|h|h
           ·exact .inl ⟨d,by simp,k5▸h⟩
           ·obtain⟨m,hm,-,rV⟩:=hq3 b h;exact .inl ⟨m,by simp[hm],rV⟩
           exact .inr h
          simp at lU
         simp at hr
       rename_i LX;split at hm
       ·rename_i s hs;split at hm
        ·simp at hm
        rename_i hsM;cases hm;simp only[jf,abr]at hr;subst hr;obtain⟨t',rfl⟩:∃t',x=.tmp t':=by cases x<;>simp[resolve]at hs;exact⟨_,rfl⟩
        have wX:(resolve σ<|.tmp t').s=some t'/\(resolve σ<|.tmp t').sl=σ t':=by revert hs;simp only[resolve,bM.of];split<;>first|(intro _;exact ab)|(intro h;simp at h)
        rw[wX.1]at hs;simp only[abr]at hs;subst hs;rw[wX.2]at LX;have iD:(σ t').av.plain=true:=by
         cases hh:(σ t').av with
         |bA r g1 g2 p=>exact absurd hh (LX r g1 g2 p)
         |ptr r g1 g2 p=>simp[resolve,bM.of,hh,bM.cont]at hx
         |abs J=>simp[resolve,bM.of,hh,bM.cont,Sl.none]at hx
         |fI g ba=>simp[resolve,bM.of,hh,bM.cont]at hx
         |_=>rfl
        obtain⟨S,F,hc,hN,jx,jn,gD,dB⟩:=h;obtain⟨Fx,ex,-,e3,-⟩:=aQ hc (.tmp t') rG hx;obtain⟨rfl,-⟩:=e3 t' rfl iD;obtain⟨ly,Gy,q1,q2,q3,q4⟩:=Ur S F hc;have hq3:∀b∈Gy,∃m∈My,m≠t'/\b∈F m:=by intro b hb;obtain⟨m,hm,rV⟩:=q3 b hb;exact⟨m,hm,λe=>hsM (e▸hm),rV⟩
        have abL:(F t'++Gy).Nodup:=by rw[acT];refine⟨hc.nodup t',q4,λb hb c cm e=>?_⟩;subst e;obtain⟨m,-,Kr,rV⟩:=hq3 b cm;exact hc.di t' m (λe=>Kr e.symm) b hb rV
        obtain⟨v,w',Fv,r1,r2,r3,r4,r5,r6,r7,r8,r9⟩:=vI (P:=P) (ty:=ty) he gR ua ex q1 q2 (.inr ab) abX jj abL hc.shr
         (λb hb=>(hc.own t' b hb).2) (λb hb=>by obtain⟨m,-,-,hm⟩:=hq3 b hb;exact(hc.own m b hm).2.1) vp Ev
        have C0:uj V w0 w w':=⟨r7,r8,r9,r5,λk hk hng=>r6 k (adv hk dB.size) λhb=>wK (hc.own t' k hb).1 hk hng⟩;refine⟨v,w',r1,S,λi=>if i=d then Fv else if i∈t'::My then[]else F i,?_,by rw[size_put];exact hN,by rw[fE];exact jx,jn,gD,dB.trans C0⟩;rw[nG<|by rw[hN];exact hd];refine hc.make (t'::My) d _ v Fv dB.new r5 (λb dO rV=>?_) r3 (λb hb=>?_) r2
        ·exact r6 b dO λhb=>rV t' (by simp) hb
        rcases r4 b hb with h|h|h
        ·exact .inl ⟨t',by simp,h⟩
        ·obtain⟨m,hm,-,rV⟩:=hq3 b h;exact .inl ⟨m,by simp[hm],rV⟩
        exact .inr h
       simp at hm
      simp at hm
     simp at hm
    simp at hm
   simp at hm
  simp at hm
 simp at hm
end
section
variable{P:Program}{N:Nat}{w0 w:World}{V:Hid}{S S0:Nat->Prop}{B:Nat->Prop}{σ σ':St}{a:Act}{F:Nat->List Nat}
section
variable{p r:Array TypeId}{b:Bool}{d:Nat}{t:TypeId}
def PK(d:Nat)(hu:P.underlying t=some .bool)(x y:Bool)(w:World):(Op.equalIn (d+1) t (.bool x)<|.bool y).run P w=.ok (x==y) w:=by simp[Op.equalIn,run_underlying hu]
def Di(d:Nat){e:TypeId}(hu:P.underlying t=some (.slice e))(x:Option Addr)(n c:Nat)(w:World):(Op.equalIn (d+1) t (.slice x n c)<|.slice none 0 0).run P w=.ok x.isNone w:=by cases x<;>simp[Op.equalIn,run_underlying hu]
def Dj(d:Nat){e:TypeId}(hu:P.underlying t=some (.pointer e))(x:Option Addr)(w:World):(Op.equalIn (d+1) t (.pointer x)<|.pointer none).run P w=.ok x.isNone w:=by cases x<;>simp[Op.equalIn,run_underlying hu]
def YH(d:Nat)(hu:P.underlying t=some (.func p r b))(f:Fn)(x y:Array Value)(w:World):(Op.equalIn (d+1) t (.func f x y) .nilFunc).run P w=.ok false w:=by simp[Op.equalIn,run_underlying hu]
def NN(d:Nat)(hu:P.underlying t=some (.func p r b))(w:World):(Op.equalIn (d+1) t .nilFunc .nilFunc).run P w=.ok true w:=by simp[Op.equalIn,run_underlying hu]
def K9(t:TypeId)(x y:Value):Op.equal t x y=Op.equalIn (9999+1) t x y:=rfl
theorem Ti{op:BinOp}{t:TypeId}{x y v:Value}(X Y:Operand)(h:yr P op t x y=some v)(w:World):
 (do eqGuard op t X Y x y;binOp op t x y:Sem Value).run P w=.ok v w:=by
 unfold yr at h;split at h
 ·rename_i k n k' m;rw[eqGuard_at_int];split at h
  ·split at h
   ·simp at h
   rename_i hb;simp only[abr]at h;subst h;simp[binOp,Op.shift,hb]
  ·split at h
   ·simp at h
   rename_i hb;simp only[abr]at h;subst h;simp[binOp,Op.shift,hb]
  split at h
  ·rename_i hk;subst hk;split at h
   ·simp only[abr]at h;subst h;simp[binOp,Op.intArith]
   ·simp only[abr]at h;subst h;simp[binOp,Op.intArith]
   ·simp only[abr]at h;subst h;simp[binOp,Op.intArith]
   ·split at h
    ·simp at h
    rename_i hb;simp only[abr]at h;subst h;simp[binOp,Op.intDiv,hb]
   ·split at h
    ·simp at h
    rename_i hb;simp only[abr]at h;subst h;simp[binOp,Op.intDiv,hb]
   ·simp only[abr]at h;subst h;simp[binOp,Op.intBits]
   ·simp only[abr]at h;subst h;simp[binOp,Op.intBits]
   ·simp only[abr]at h;subst h;simp[binOp,Op.intBits]
   ·simp only[abr]at h;subst h;simp[binOp,Op.intBits]
   ·simp only[abr]at h;subst h;simp[binOp,Op.intCmp]
   ·simp only[abr]at h;subst h;simp[binOp,Op.intCmp]
   ·simp only[abr]at h;subst h;simp[binOp,Op.intCmp]
   ·simp only[abr]at h;subst h;simp[binOp,Op.intCmp]
   ·simp only[abr]at h;subst h;simp[binOp,Op.intCmp]
   ·simp only[abr]at h;subst h;simp[binOp,Op.intCmp]
   simp at h
  simp at h
 ·rename_i s s';rw[eqGuard_at_string];split at h
  ·split at h
   ·simp at h
   rename_i hb;simp only[abr]at h;subst h;simp only[Sem.run_bind,Sem.run_pure,Result.andThen_ok,binOp,Op.stringOp,hb,if_false]
  ·simp only[abr]at h;subst h;simp[binOp,Op.stringOp]
  ·simp only[abr]at h;subst h;simp[binOp,Op.stringOp]
  ·simp only[abr]at h;subst h;simp[binOp,Op.stringOp]
  simp at h
 ·rename_i b b';rw[eqGuard_at_bool];split at h
  ·rename_i hu;split at h
   ·simp only[abr]at h;subst h;simp only[binOp,Sem.run_bind,Sem.run_pure,Result.andThen_ok,K9,PK 9999 hu]
   ·simp only[abr]at h;subst h;simp only[binOp,Sem.run_bind,Sem.run_pure,Result.andThen_ok,K9,PK 9999 hu]
   simp at h
  simp at h
 simp at h
def QG{op:BinOp}{x y:AV}{zx zy:Value}{F1 F2:List Nat}(X Y:Operand)(h:isNil P t x y=some b)(hx:Rel w S x zx F1)(hy:Rel w S y zy F2)(bU:op=.eql\/op=.neq):
 (do eqGuard op t X Y zx zy;binOp op t zx zy:Sem Value).run P w=.ok (.bool<|if op=.eql then b else !b) w:=by
 have fin:∀u,P.underlying t=some u->(eqGuard op t X Y zx zy=pure ())->((Op.equal t zx zy).run P w=.ok b w)->(∀k n,zx≠.int k n)->(∀s,zx≠.string s)->(∀k n,zx≠.float k n)->(∀k n m,zx≠.complex k n m)->
  (do eqGuard op t X Y zx zy;binOp op t zx zy:Sem Value).run P w=.ok (.bool<|if op=.eql then b else !b) w:=by
  intro u hu hg he h1 h2 h3 h4;rw[hg];rcases bU with rfl|rfl
  ·have:binOp .eql t zx zy=(do pure (.bool<|←Op.equal t zx zy)):=by
    cases zx<;>first|rfl|exact absurd rfl (h1 _ _)|exact absurd rfl (h2 _)|exact absurd rfl (h3 _ _)|exact absurd rfl<|h4 _ _ _
   simp[this,he]
  have:binOp .neq t zx zy=(do pure (.bool<|!(←Op.equal t zx zy))):=by cases zx<;>first|rfl|exact absurd rfl (h1 _ _)|exact absurd rfl (h2 _)|exact absurd rfl (h3 _ _)|exact absurd rfl<|h4 _ _ _
  simp[this,he]
 unfold isNil at h;split at h
 ·split at h
  ·rename_i f _ xs;split at h
   ·rename_i e hu;obtain⟨rfl,rfl,-⟩:=wg hy;obtain⟨ad,cap,rfl,-,h1,h2,-⟩:=hx.jV;refine fin _ hu (eqGuard_at_slice ..) ?_ (by simp) (by simp) (by simp) (by simp);cases f with
    |nil=>obtain⟨rfl,-,-⟩:=h1 rfl;cases h;exact Di 9999 hu _ _ _ w
    |shr=>
     simp only at h;split at h
     ·cases h
     rename_i dc;obtain⟨b',o',rfl⟩:=h2 (by simp) (by simpa using dc);cases h;exact Di 9999 hu _ _ _ w
    |own=>
     simp only at h;split at h
     ·cases h
     rename_i dc;obtain⟨b',o',rfl⟩:=h2 (by simp) (by simpa using dc);cases h;exact Di 9999 hu _ _ _ w
   cases h
  cases h
 ·split at h
  ·rename_i e hu;simp[Rel]at hy;obtain⟨-,rfl,-⟩:=hy;split at h
   ·cases h;simp only[Rel]at hx;obtain⟨b',cs,fz,F',z,rfl,-⟩:=hx;exact fin _ hu (eqGuard_at_pointer ..) (Dj 9999 hu _ w) (by simp) (by simp) (by simp) (by simp)
   ·cases h;simp[Rel]at hx;obtain⟨-,rfl,-⟩:=hx;exact fin _ hu (eqGuard_at_pointer ..) (Dj 9999 hu _ w) (by simp) (by simp) (by simp) (by simp)
   cases h
  cases h
 ·split at h
  ·rename_i hu;simp[Rel]at hy;obtain⟨-,rfl,-⟩:=hy;split at h
   ·cases h;simp only[Rel]at hx;obtain⟨a',c',F3,F4,rfl,-⟩:=hx;exact fin _ hu (eqGuard_at_func ..) (YH 9999 hu _ _ _ w) (by simp) (by simp) (by simp) (by simp)
   ·cases h;simp[Rel]at hx;obtain⟨-,rfl,-⟩:=hx;exact fin _ hu (eqGuard_at_nilFunc ..) (NN 9999 hu w) (by simp) (by simp) (by simp) (by simp)
   cases h
  cases h
 cases h
def Sc{t:Nat}{op:BinOp}(h:Inv N V w0 S0 σ a w)(hd:d<N)(x y:Operand)(rG:aI x=true)(hyf:aI y=true){ax ay v:AV}
 (hx:(resolve σ x).cont=some ax)(hy:(resolve σ y).cont=some ay)(hm:mw P op t ax ay=some v)(hr:Mv.runs σ [.put d v]=some σ'):
 Good N V w0 S0 σ' a d ((do eqGuard op t x y (a.eval x) (a.eval y);binOp op t (a.eval x) (a.eval y):Sem Value).run P w):=by
 have sS:∀b,isNil P t ax ay=some b->(op=.eql/\v=.v (.bool b)\/op=.neq/\v=.v (.bool !b))->Good N V w0 S0 σ' a d ((do eqGuard op t x y (a.eval x) (a.eval y);binOp op t (a.eval x) (a.eval y):Sem Value).run P w):=by intro b hb hv;have hI:=h;obtain⟨S,F,hc,-⟩:=h;obtain⟨F1,e1,-⟩:=aQ hc x rG hx;obtain⟨F2,e2,-⟩:=aQ hc y hyf hy;have bL:=QG (P:=P) (op:=op) x y hb e1 e2 (by rcases hv with h|h<;>simp[h.1]);refine eG hI hd hr bL λS' F' cm=>?_;rcases hv with⟨rfl,rfl⟩|⟨rfl,rfl⟩<;>simp[Rel,scalar]
 have ZM:MQ op (isNil P t ax ay)=some v->Good N V w0 S0 σ' a d ((do eqGuard op t x y (a.eval x) (a.eval y);binOp op t (a.eval x) (a.eval y):Sem Value).run P w):=by
  intro hm;cases hb:isNil P t ax ay with
  |none=>rw[hb]at hm;cases op<;>simp[MQ]at hm
  |some b=>
   cases op<;>simp[MQ]at hm
   ·simp_all
   simp_all
 unfold mw at hm;split at hm
 ·rename_i va;split at hm
  ·rename_i vb;split at hm
   ·rename_i v0 hs;cases hm;have hI:=h;obtain⟨S,F,hc,-⟩:=h;have e1:=dj hc x rG hx;have e2:=dj hc y hyf hy;have bL:=Ti (P:=P) x y hs w;rw[<-e1,<-e2]at bL;refine eG hI hd hr bL λS' F' cm=>?_;have X8:scalar v0=true:=by
     unfold yr at hs
     repeat' split at hs
     all_goals first|(cases hs;rfl)|cases hs
    simp[Rel,X8]
   exact ZM hm
  cases hm
 exact ZM hm
def SH{op:UnOp}(h:Inv N V w0 S0 σ a w)(hd:d<N)(x:Operand)(rG:aI x=true){vx v:Value}
 (hx:(resolve σ x).cont=some (.v vx))(hm:Z2 op vx=some v)(hr:Mv.runs σ [.put d<|.v v]=some σ'):Good N V w0 S0 σ' a d ((Op.unary op<|a.eval x).run P w):=by
 have hI:=h;obtain⟨S,F,hc,-⟩:=h;have e1:=dj hc x rG hx;refine eG (z:=v) hI hd hr ?_ λS' F' cm=>?_
 ·rw[e1];unfold Z2 at hm;split at hm<;>first|(cases hm;simp[Op.unary,Op.intArith,Op.intBits])|cases hm
 have X8:scalar v=true:=by unfold Z2 at hm;split at hm<;>first|(cases hm;rfl)|cases hm
 simp[Rel,X8]
end
end
section
variable{P:Program}{N:Nat}{w0 w:World}{V:Hid}{S S0:Nat->Prop}{B:Nat->Prop}{σ σ':St}{a:Act}{F:Nat->List Nat}
def yR(off:Nat):∀(l:List Value)(k:Nat)(cs:Array Value),off+k+l.length<=cs.size->
 ((l.zipIdx k).foldl (λcs(p:Value×Nat)=>cs.setIfInBounds (off+p.2) p.1) cs).toList=cs.toList.take (off+k)++l++cs.toList.drop (off+k+l.length)
 |[],k,cs,h=>by simp
 |v::l,k,cs,h=>by
  simp only[List.zipIdx_cons,aeK];simp[acU]at h;rw[yR off l (k+1) _<|by simp;omega];simp only[Array.toList_setIfInBounds];apply ah2;intro j;by_cases hj:j<off+k
  ·rw[acV,acV,adH<|by simp;omega,adH<|by simp;omega];rw[agn<|by omega,agn<|by omega,aiX<|by omega]
  by_cases Yf:j=off+k
  ·subst Yf;rw[acV,acV,adH<|by simp;omega,adX<|by simp;omega];simp[ac2,adu];rw[show min (off+k) cs.size=off+k by omega,agM];rw[List.getElem?_set_self<|by simp;omega];simp
  by_cases hj3:j<off+k+1+l.length
  ·rw[acV,acV,adX<|by simp;omega,adH<|by simp;omega,adX<|by simp;omega,adH<|by simp;omega];simp[ac2,ae7,adu];rw[show min (off+(k+1)) cs.size=off+k+1 by omega,show min (off+k) cs.size=off+k by omega];rw[show j-(off+k)=(j-(off+k+1))+1 by omega];simp
  rw[adX<|by simp;omega,adX<|by simp;omega];simp only[acW,ac2,ae7,adu,ago,acU];rw[aiX<|by omega]
  congr 1;omega
def GV{xs rY:List AV}{cs:Array Value}{F1 Fy:List Nat}{o n:Nat}{y:AV}{v:Value}(h:Cells w S true xs cs.toList F1)(hs:BY xs o n y=some rY)(hy:Rel w S y v Fy)(hN:(F1++Fy).Nodup):
 v.cells.size=n/\o+n<=cs.size/\∃F',Cells w S true rY (cs.toList.take o++v.cells.toList++cs.toList.drop (o+n)) F'/\F'.Nodup/\∀b∈F',b∈F1\/b∈Fy:=by
 have hlen:=Cells.length h;simp at hlen;unfold BY at hs;split at hs
 ·rename_i hon;obtain⟨A,G,rfl,c1,c2⟩:=Cells.split o h;obtain⟨Fx,B',rfl,d1,d2⟩:=Cells.split n c2;rw[agf,agf]at d2;have afx:∀ys,Cells w S true ys v.cells.toList Fy->∃F',Cells w S true (xs.take o++ys++xs.drop (o+n)) (cs.toList.take o++v.cells.toList++cs.toList.drop (o+n)) F'/\F'.Nodup/\∀b∈F',b∈A++(Fx++B')\/b∈Fy:=by
   intro ys oy;refine⟨A++Fy++B',Cells.append (Cells.append c1 oy) d2,?_,λb hb=>?_⟩
   ·rw[acT,acT,acT]at hN;rw[acT,acT];refine⟨⟨hN.1.1,hN.2.1,λa ha b hb=>hN.2.2 a (by simp[ha]) b hb⟩,hN.1.2.1.2.1,λa ha b hb e=>?_⟩;rcases ac5.1 ha with ha|ha
    ·simp_all
    exact hN.2.2 b (by simp[hb]) a ha e.symm
   simp at hb⊢;rcases hb with h|h|h<;>simp[h]
  split at hs
  ·rename_i ys;split at hs
   ·rename_i hl;cases hs;obtain⟨cy,rfl,hC⟩:=hy;have:=Cells.length hC;simp at this;exact⟨by rw[bf];omega,by omega,afx ys<|by simpa[bf]using hC⟩
   cases hs
  split at hs
  ·rename_i hna hc;simp[decide_eq_true_eq]at hc;obtain⟨rfl,hc⟩:=hc;cases hs;have h1:=hy.one hc;have h1c:=cj h1;refine⟨by rw[h1c];rfl,by omega,?_⟩;have:=afx [y] (by rw[h1c];exact⟨v,[],Fy,[],rfl,by simp,λ_=>h1,hy,rfl,rfl⟩);rw[List.set_eq_take_append_cons_drop,if_pos<|by omega];simpa using this
  cases hs
 cases hs
def AF(pl:List (Nat×Nat)):∀(is:List Nat)(ys:List AV)(vs:List Value){xs rY:List AV}{cs:Array Value}{F1 Fy:List Nat},is.length=ys.length->Cells w S true xs cs.toList F1->
 sX pl xs (is.zip ys)=some rY->Cells w S false ys vs Fy->(F1++Fy).Nodup->
 ∃cs' F',Instr.fill (pl.toArray[·]?) cs (is.zip vs)=some cs'/\Cells w S true rY cs'.toList F'/\F'.Nodup/\∀b∈F',b∈F1\/b∈Fy
 |[],ys,vs,xs,rY,cs,F1,Fy,hl,hC,hf,hy,hN=>by simp[sX]at hf;subst hf;exact⟨cs,F1,by simp[Instr.fill],hC,(acT.1 hN).1,λb hb=>.inl hb⟩
 |i::is,[],vs,xs,rY,cs,F1,Fy,hl,hC,hf,hy,hN=>by cases hl
 |i::is,y::ys,vs,xs,rY,cs,F1,Fy,hl,hC,hf,hy,hN=>by
  simp[Nat.add_right_cancel_iff]at hl;obtain⟨v,vs',Fv,Fr,rfl,rfl,-,hv,hr⟩:=hy;simp[sX]at hf;split at hf
  ·rename_i o n iD;split at hf
   ·rename_i xs1 hs;have vq:(F1++Fv).Nodup:=by
     rw[<-acV]at hN;exact(acT.1 hN).1
    obtain⟨e1,e2,F',k1,k2,k3⟩:=GV hC hs hv vq;have lj:(v.cells.zipIdx.foldl (λcs(p:Value×Nat)=>cs.setIfInBounds (o+p.2) p.1) cs).toList=cs.toList.take o++v.cells.toList++cs.toList.drop (o+n):=by have:=yR o v.cells.toList 0 cs (by simp;omega);simp only[ag6,adu,e1]at this;rw[<-this];rw[<-aiY];simp
    have hN2:(F'++Fr).Nodup:=by rw[<-acV]at hN;rw[acT]at hN⊢;refine⟨k2,hN.2.1,λb hb c hc e=>hN.2.2 b ?_ c hc e⟩;rcases k3 b hb with h|h<;>simp[h]
    obtain⟨cs',Sj,q1,q2,q3,q4⟩:=AF pl is ys vs' hl (cs:=v.cells.zipIdx.foldl (λcs(p:Value×Nat)=>cs.setIfInBounds (o+p.2) p.1) cs) (by rw[lj];exact k1) hf hr hN2;refine⟨cs',Sj,?_,q2,q3,λb hb=>?_⟩
    ·simp only[List.zip_cons_cons,Instr.fill];have:(pl.toArray[i]?)=some (o,n):=by simpa using iD
     simp[this];simp_all
    rcases q4 b hb with h|h
    ·rcases k3 b h with h|h
     ·exact .inl h
     simp_all
    simp_all
   cases hf
  cases hf
def zJ{α β γ:Type}(l:List (α×β))(f:β->γ):(l.map (·.1)).zip (l.map λp=>f p.2)=l.map λp=>(p.1,f p.2):=by
 induction l with
 |nil=>rfl
 |cons p l ih=>simp[ih]
def CB{M:List Nat}{d:Nat}{y:AV}{z:Value}{w':World}(h:Inv N V w0 S0 σ a w)(hd:d<N)(hr:Mv.runs σ [.make M d y]=some σ')(hb:Below w.heap.size w w')
 (hf:∀S F,aS S (cu V w0) σ (tv V a) w F->∃Fy,Rel w' S y z Fy/\Fy.Nodup/\∀b∈Fy,(∃m∈M,b∈F m)\/w.heap.size<=b/\b<w'.heap.size):
 Inv N V w0 S0 σ' (a.put (some d) z) w':=by
 simp[jf]at hr;subst hr;exact h.make hd hb hf
def LD{d t:Nat}(h:Inv N V w0 S0 σ a w)(hd:d<N)(ps:Array (Nat×Operand))(Rz:(ps.toList.map (·.2)).all aI=true){ti:TI}(gR:bY P t=some ti){z cs:List AV}(hz:ti.zero=.agg z)
 {pl:List (Nat×Nat)}(iD:placesOf P t=some pl){ys:List AV}{M:List Nat}(hg:fG (ps.toList.map λp=>resolve σ p.2)=some (ys,M))(hf:sX pl z ((ps.toList.map (·.1)).zip ys)=some cs)
 (hr:Mv.runs σ [.make M d<|.agg cs]=some σ'):Good N V w0 S0 σ' a d ((Instr.build t<|ps.map λ(i,x)=>(i,a.eval x)).run P w):=by
 obtain⟨i,u,zv,hi,hu,hzv,iw,o6,hzero,RL,hzc,hzf⟩:=jR gR;have hgx:fG ((ps.toList.map (·.2)).map<|resolve σ)=some (ys,M):=by rw[agN];exact hg
 have ZK:∀S F,aS S (cu V w0) σ (tv V a) w F->∃cells F',P.built t (ps.map λ(i,x)=>(i,a.eval x)).toList=some cells/\Cells w S true cs cells.toList F'/\F'.Nodup/\∀b∈F',∃m∈M,b∈F m:=by
  intro S F hc;obtain⟨Fy,g1,g2,g3⟩:=lW hc _ Rz hgx;have hzr:=gV w S zv hzf;rw[<-hzero,hz]at hzr;obtain⟨zc,rfl,hzC⟩:=hzr;have hlen:=Cells.length g1;obtain⟨cs',F',q1,q2,q3,q4⟩:=AF pl (ps.toList.map (·.1)) ys ((ps.toList.map (·.2)).map a.eval) (by simp at hlen⊢;omega) hzC hf g1 g2;refine⟨cs',F',?_,q2,q3,λb hb=>?_⟩
  ·unfold placesOf at iD;split at iD
   ·rename_i fs hfs;unfold Program.built;simp only[hi,hfs,hzv,iD];have e:(ps.map λ(i,x)=>(i,a.eval x)).toList=(ps.toList.map (·.1)).zip ((ps.toList.map (·.2)).map a.eval):=by
     have:=zJ ps.toList a.eval;simpa[ajy]using this.symm
    rw[e];exact q1
   cases iD
  rcases q4 b hb with h|h
  ·cases h
  exact g3 b h
 have hI:=h;obtain⟨S,F,hc,-⟩:=h;obtain⟨cells,F',r1,r2,r3,r4⟩:=ZK S F hc;refine⟨.agg cells,w,run_build w t _ cells r1,CB hI hd hr (.refl _ _) λS' G cm=>?_⟩;obtain⟨aj1,Sj,r1',r2',r3',r4'⟩:=ZK S' G cm;rw[r1]at r1';cases r1';refine⟨Sj,by simp only[Rel];exact⟨cells,rfl,r2'⟩,r3',λb hb=>.inl<|r4' b hb⟩
end
section
variable{P:Program}{N:Nat}{w0 w:World}{V:Hid}{S S0:Nat->Prop}{B:Nat->Prop}{σ σ':St}{a:Act}{F:Nat->List Nat}
def V7(w:World)(L:Loc):Prop:=∀a,L=.addr a->∃cs,row? w a.block=some (cs,(0,0))
def Rel.Qv:∀(p:Path){x x' y y':AV}{z:Value}{F:List Nat}{L L1:Loc},Rel w S x z F->holds w L z->V7 w L->bg x p=some y->dW x p y'=some x'->
 loc w L p=some L1->V7 w L1
 |[],x,x',y,y',z,F,L,L1,h,hL,hT,hg,hs,hl=>by simp[loc,abr]at hl;subst hl;exact hT
 |s::p,x,x',y,y',z,F,L,L1,h,hL,hT,hg,hs,hl=>by
  unfold bg at hg;split at hg
  ·rename_i f sz xs i gC;split at hg
   ·rename_i cM;subst cM;cases f with
    |nil=>simp[dW]at hs
    |shr=>simp[dW]at hs
    |own=>
     obtain⟨xi,wV,hg⟩:=ab3.1 hg;simp[dW,wV,if_true,adI,afe]at hs;obtain⟨xi',hs,rfl⟩:=hs;rcases h with⟨rfl,-,-⟩|⟨b,cap,cs,F',rfl,hr,hc,hm,iw,hE,rfl⟩
     ·cases wV
     obtain⟨yi,A0,Fx,B0,rfl,hy,hR,iV,hle,Km⟩:=cv.lens sz i hE wV;have hA:At w ⟨b,i*sz,none⟩ yi:=fi hr λj u hu=>by
      have:=iV j u hu;rw[aev]at this;split at this
      ·simpa using this
      cases this
     rw[loc,cx hL rfl<|by simp,bU,bS rfl]at hl;exact Rel.Qv p (L:=.addr ⟨b,i*sz,none⟩) hR hA (λa ha=>by cases ha;exact⟨cs,hr⟩) hg hs (by simpa using hl)
   cases hg
  ·rename_i own x0;cases own with
   |false=>simp[dW]at hs
   |true=>
    simp[dW,afe]at hs;obtain⟨x0',hs,rfl⟩:=hs;simp only[Rel,if_true]at h;obtain⟨b,cs,fz,F',z0,rfl,hr,hR,Ws,rfl,rfl⟩:=h;have hA:At w ⟨b,0,none⟩ z0:=fi hr λj u hu=>by subst Ws;simpa using hu
    rw[loc,cx hL rfl<|by simp,bU]at hl;exact Rel.Qv p (L:=.addr ⟨b,0,none⟩) hR hA (λa ha=>by cases ha;exact⟨cs,hr⟩) hg hs (by simpa using hl)
  ·rename_i xs o;obtain⟨xo,hxo,hg⟩:=ab3.1 hg;simp[dW,hxo,adI,afe]at hs;obtain⟨xo',hs,rfl⟩:=hs;simp[Rel]at h;obtain⟨cs,rfl,hC⟩:=h;obtain⟨y0,A0,Fx,B0,rfl,h1,hR,lV,Km⟩:=Cells.lens o hC hxo;have Ew:=cj<|h1 rfl;have lV:cs[o]?=some y0:=by simpa using lV
   have ko:∃L',step1 w L (.at o none)=some L'/\holds w L' y0/\V7 w L':=by
    cases L with
    |val q=>simp[holds]at hL;subst hL;exact⟨.val y0,by simp[step1,bU];simp[lV],rfl,λa ha=>by cases ha⟩
    |addr a=>
     obtain⟨Lp,Aw⟩:=hT a rfl;obtain⟨qm,cs',fz,hr,hc⟩:=hL;refine⟨_,rfl,?_,?_⟩
     ·rw[bS qm];refine fi hr λj u hu=>?_;rw[Ew]at hu
      match j,hu with
      |0,hu=>cases hu;simpa[bf]using hc o y0 (by simpa[bf]using lV)
     rw[bS qm];intro a' ha;cases ha;exact⟨Lp,Aw⟩
   obtain⟨L',e1,e2,e3⟩:=ko;rw[loc,e1]at hl;exact Rel.Qv p hR e2 e3 hg hs hl
  ·rename_i xs o n;split at hg
   ·rename_i hon;simp[dW,hon,if_true,ab3]at hs;obtain⟨rY,hs,gD⟩:=hs;simp[Rel]at h;obtain⟨cs,rfl,hC⟩:=h;obtain⟨A0,G,rfl,c1,c2⟩:=Cells.split o hC;obtain⟨Fx,B0,rfl,d1,d2⟩:=Cells.split n c2;have hR:Rel w S (.agg<|(xs.drop o).take n) (.agg<|cs.extract o<|o+n) Fx:=by
     simp only[Rel];refine⟨_,rfl,?_⟩;have:(cs.extract o<|o+n).toList=(cs.toList.drop o).take n:=by simp
     rw[this];exact d1
    have ko:∃L',step1 w L (.at o<|some n)=some L'/\holds w L' (.agg<|cs.extract o<|o+n)/\V7 w L':=by
     cases L with
     |val q=>simp[holds]at hL;subst hL;exact⟨_,rfl,rfl,λa ha=>by cases ha⟩
     |addr a=>
      obtain⟨Lp,Aw⟩:=hT a rfl;obtain⟨qm,cs',fz,hr,hc⟩:=hL;refine⟨_,rfl,?_,?_⟩
      ·rw[bS qm];refine fi hr λj u hu=>?_;rw[bf,aiQ]at hu;split at hu
       ·have:=hc (o+j) u (by rw[bf];exact hu);simpa[afc]using this
       cases hu
      rw[bS qm];intro a' ha;cases ha;exact⟨Lp,Aw⟩
    obtain⟨L',e1,e2,e3⟩:=ko;rw[loc,e1]at hl;exact Rel.Qv p hR e2 e3 hg hs hl
   cases hg
  ·rename_i xs i;obtain⟨xi,wV,hg⟩:=ab3.1 hg;simp[dW,wV,adI,afe]at hs;obtain⟨xi',hs,rfl⟩:=hs;simp[Rel]at h;obtain⟨cs,rfl,hC⟩:=h;obtain⟨y0,A0,Fx,B0,rfl,-,hR,lV,Km⟩:=Cells.lens i hC wV;have lV:cs[i]?=some y0:=by simpa using lV
   have ko:step1 w L (.bX i)=some (.val y0):=by rw[cx hL rfl<|by simp];simp[bU,lV]
   rw[loc,ko]at hl;exact Rel.Qv p (L:=.val y0) hR rfl (λa ha=>by cases ha) hg hs hl
  ·rename_i f sz xs gC o n;cases f<;>simp[dW]at hs
  cases hg
def EN{z:Value}(h:z.oneCell'=true):∀v∈z.cells.toList,v.oneCell'=true:=by rw[cj h];simp[h]
def Ji{t:TypeId}{ti:TI}(ht:bY P t=some ti){b off:Nat}{cs:Array Value}(hr:row? w b=some (cs,(0,0))){z':Value}(cM:z'.cells.size=ti.size)(h1:∀v∈z'.cells.toList,v.oneCell'=true)
 (n8:off+ti.size<=cs.size):∃w',(storeVar t ⟨b,off,none⟩ z').run P w=.ok () w'/\w'.heap.size=w.heap.size/\Below w.heap.size w w'=Below w.heap.size w w'/\(∀c,c≠b->w'.heap[c]?=w.heap[c]?)/\
   row? w' b=some ((cs.toList.take off++z'.cells.toList++cs.toList.drop (off+ti.size)).toArray,(0,0))/\w'=w.setRow b (cs.toList.take off++z'.cells.toList++cs.toList.drop (off+ti.size)).toArray:=by
 have hh:∃e,w.heap[b]?=some (.cells cs e (0,0)):=by
  unfold row? at hr;split at hr
  ·rename_i cs' e fz he;cases hr;exact⟨e,he⟩
  cases hr
 obtain⟨e,he⟩:=hh;have bL:=run_storeCells_at P b off e z'.cells.toList 0 cs w he (by simp;omega) h1;simp only[adu,cM]at bL;refine⟨_,?_,?_,rfl,λc hc=>?_,?_,rfl⟩
 ·unfold storeVar;simp only[Sem.run_bind,dE ht,Result.andThen_ok,cM,ne_eq];exact bL
 ·simp
 ·simp[World.setRow];rw[Array.getElem?_modify,if_neg<|by omega]
 have:=setRow_heap w b cs (cs.toList.take off++z'.cells.toList++cs.toList.drop (off+ti.size)).toArray e (0,0) he;simp only[row?,this]
end
section
variable{P:Program}{N:Nat}{w0 w:World}{V:Hid}{S S0:Nat->Prop}{B:Nat->Prop}{σ σ':St}{a:Act}{F:Nat->List Nat}
section
variable{y:AV}{ys:List AV}{M:List Nat}{ts:List TypeId}{d t:Nat}{z:Value}
def Io{ti:TI}{F1:List Nat}(hf:fits ti y=true)(hr:Rel w S y z F1):∀v∈z.cells.toList,v.oneCell'=true:=by
 unfold fits at hf;split at hf
 ·simp[Rel]at hr;obtain⟨cs,rfl,hC⟩:=hr;have:∀(xs:List AV)(l:List Value)(F1:List Nat),Cells w S true xs l F1->∀v∈l,v.oneCell'=true:=by
   intro xs
   induction xs with
   |nil=>intro l F1 h;simp[h.1]
   |cons x xs ih=>
    intro l F1 h;obtain⟨y,l',F1,F2,rfl,rfl,h3,h4,h5⟩:=h;intro v hv;rcases aci.1 hv with rfl|hv
    ·simp_all
    exact ih _ _ h5 v hv
  exact this _ _ _ hC
 simp at hf;exact EN<|hr.one hf.2
def I3(h:Inv N V w0 S0 σ a w)(x y:Operand)(rG:aI x=true)(hyf:aI y=true){ms:List Mv}
 (hm:uS P t (resolve σ x) (resolve σ y)=some ms)(hr:Mv.runs σ ms=some σ'):
 ∃w',(Instr.storeAt t (a.eval x)<|a.eval y).run P w=.ok () w'/\Inv N V w0 S0 σ' a w':=by
 unfold uS at hm;split at hm
 ·rename_i ti gR;split at hm
  ·rename_i r g1 g2 p av hx;split at hm
   ·rename_i y0 hg;split at hm
    ·rename_i Er;split at hm
     ·rename_i y1 M hga;split at hm
      ·rename_i KA;cases hm;obtain⟨S,F,hc,hN,jx,jn,gD,dB⟩:=h;obtain⟨-,-,rfl,-,Nr⟩:=j6 hc x rG hx;obtain⟨ad,hl,he⟩:=Nr λ_=>⟨y0,hg⟩;have hp:=wq hg hl;simp[Mv.runs,Mv.run]at hr;obtain⟨Fv,q1,q2,q3⟩:=o8 hc y hyf hga;split at hr
       ·rename_i σ1 bL;cases hr;split at bL
        ·cases bL
        rename_i X9;split at bL
        ·rename_i av' lj;cases bL;obtain⟨z,hA,⟨F1,hz⟩,hB,ko⟩:=hc.store r M p X9 hp hg lj hl q1 q2 q3;have cM:=aap (by simp[acd]at Er;exact Er.1) hz;have Uv:=aap KA q1;have aeF:V7 w (.addr ad):=by
          have hR:=hc.rel r;rw[ak.aB hp]at hR;exact Rel.Qv p (L:=.val<|tv V a r) hR rfl (λa ha=>by cases ha) hg lj hl
         obtain⟨cs,dI⟩:=aeF ad rfl;obtain⟨qm,cs',fz,ZI,iV⟩:=hA;rw[dI]at ZI;obtain⟨rfl,rfl⟩:cs=cs'/\(0,0)=fz:=by simpa using ZI
         have ua:0<ti.size:=by simp[acd,bne_iff_ne,ne_eq]at Er;omega
         have ai2:fits ti y0=true:=by simp[acd]at Er;exact Er.1
         have n8:ad.off+ti.size<=cs.size:=by have aaJ:z.cells[ti.size-1]?=some (z.cells[ti.size-1]'(by omega)):=adC _;have:=iV (ti.size-1) _ aaJ;have:=(adW.1 this).1;omega
         obtain⟨w',e1,e2,-,e3,e4,e5⟩:=Ji (P:=P) gR dI Uv (Io KA q1) n8;obtain⟨F',cm⟩:=ko (by omega) (λhz1=>by
          rcases kS ai2 hz with⟨_,_,rfl,_⟩|⟨e,_⟩
          ·simp[Value.oneCell']at hz1
          rcases kS KA q1 with⟨e',_⟩|⟨_,e'⟩
          ·simp[e]at e'
          ·exact e') w' e2 e3 (λLp NA h0=>by
          rw[dI]at h0;obtain⟨rfl,rfl⟩:cs=Lp/\(0,0)=NA:=by simpa using h0
          refine⟨_,e4,by simp[ah5,acW,ac2,afa,adu,Uv];omega,λj u hu=>?_,λk hk=>?_⟩
          ·have hj:j<ti.size:=by rw[<-Uv];exact(adW.1 hu).1
           simp only[aiS];rw[adH<|by simp;omega,adX<|by simp;omega];simp[ac2,adu];rw[show min ad.off cs.size=ad.off by omega,show ad.off+j-ad.off=j by omega];simpa using hu
          simp only[aiS];rw[Uv]at hk;rcases hk with hk|hk
          ·rw[acV,adH<|by simp;omega,agn hk];simp
          rw[adX<|by simp;omega];simp only[acW,ac2,adu,ago,Uv];rw[show min ad.off cs.size=ad.off by omega,show ad.off+ti.size+(k-(ad.off+ti.size))=k by omega];simp)
         refine⟨w',?_,S,F',cm,hN,jx,jn,gD,?_⟩
         ·have:ad=⟨ad.block,ad.off,none⟩:=by cases ad;simp only at qm;subst qm;rfl
          unfold Instr.storeAt;rw[he];simp[Instr.sureAddr];rw[this];simpa using e1
         rw[e5];exact dB.trans ⟨rfl,rfl,rfl,by simp[World.setRow],λk hk hng=>setRow_other w ad.block k _ λe=>wK hB (e▸hk) (e▸hng)⟩
        cases bL
       cases hr
      cases hm
     cases hm
    cases hm
   cases hm
  cases hm
 cases hm
def CC{e:TypeId}(h:Inv N V w0 S0 σ a w)(hd:d<N)(hr:Mv.runs σ [.make M d<|.box true y]=some σ')
 (hf:∀S F,aS S (cu V w0) σ (tv V a) w F->∃Fy,Rel w S y z Fy/\Fy.Nodup/\∀b∈Fy,∃m∈M,b∈F m):
 Inv N V w0 S0 σ' (a.put (some d)<|.pointer<|some ⟨w.heap.size,0,none⟩) (w.alloc<|.cells z.cells e):=by
 refine CB h hd hr ((Below.refl _ _).alloc .refl _) λS F hc=>?_;obtain⟨Fy,h1,h2,h3⟩:=hf S F hc;have cS:∀b∈Fy,b<w.heap.size:=λb hb=>by obtain⟨m,_,hm⟩:=h3 b hb;exact(hc.own m b hm).2.1
 refine⟨w.heap.size::Fy,?_,adm.2 ⟨λhb=>by have:=cS _ hb;omega,h2⟩,λb hb=>?_⟩
 ·simp only[Rel];exact⟨w.heap.size,z.cells,(0,0),Fy,z,rfl,oX _ _ _,Rel.frame _ h1 λb hb=>oW _ _<|by rcases hb with hb|hb;exact hc.shr b hb;exact cS b hb,rfl,rfl,rfl⟩
 rcases aci.1 hb with rfl|hb
 all_goals simp_all
def LO(h:Inv N V w0 S0 σ a w)(hd:d<N){ti:TI}(gR:bY P t=some ti)(hr:Mv.runs σ [.make [] d<|.box true ti.zero]=some σ'):
 Good N V w0 S0 σ' a d ((Instr.alloc t true<|.tuple #[]).run P w):=by
 obtain⟨z,hz,ZE,hz3,hz4⟩:=B3 gR w;refine⟨_,_,?_,CC (z:=z) (e:=t) h hd hr λS F hc=>⟨[],by rw[ZE];exact gV w S z hz4,by simp,by simp⟩⟩;simp[Instr.alloc,hz,newVar,newRow]
def R9(h:Inv N V w0 S0 σ a w)(hd:d<N)(x:Operand)(hx:aI x=true)(hg:dT (resolve σ x)=some (y,M))
 (hr:Mv.runs σ [.make M d<|.box true y]=some σ'):Good N V w0 S0 σ' a d ((Instr.box t<|a.eval x).run P w):=by
 refine⟨_,_,?_,CC (z:=a.eval x) (e:=t) h hd hr λS F hc=>o8 hc x hx hg⟩;simp[Instr.box,newVar,newRow]
def Cells.els{ti:TI}:∀{ys:List AV}{one:Bool}{vs:List Value}{F:List Nat},Cells w S one ys vs F->ys.all (fits ti)=true->cv w S ti.size ys (vs.flatMap (·.cells.toList)) F
 |[],one,vs,F,h,_=>by simp[Cells]at h;obtain⟨rfl,rfl⟩:=h;simp[cv]
 |y::ys,one,vs,F,h,hf=>by obtain⟨z,l',F1,F2,rfl,rfl,h3,h4,h5⟩:=h;simp only[adl,acd]at hf;exact⟨z,_,F1,F2,rfl,rfl,aap hf.1 h4,h4,Cells.els h5 hf.2⟩
def Dd(size:Nat):∀(vs:List Value)(k:Nat)(cs:Array Value),(∀v∈vs,v.cells.size=size)->(k+vs.length)*size<=cs.size->
 Instr.fill (λi=>some (i*size,size)) cs ((List.range' k vs.length).zip vs)=some (cs.toList.take (k*size)++vs.flatMap (·.cells.toList)++cs.toList.drop ((k+vs.length)*size)).toArray
 |[],k,cs,_,_=>by simp[Instr.fill]
 |v::vs,k,cs,h,hl=>by
  simp[acU]at hl⊢;have hv:=h v (by simp);have e1:(k+(vs.length+1))*size=k*size+size+vs.length*size:=by rw[ac7,ac7];omega
  have e2:(k+1+vs.length)*size=k*size+size+vs.length*size:=by rw[ac7,ac7];omega
  have e3:(k+1)*size=k*size+size:=by rw[ac7];omega
  simp only[List.range'_succ,List.zip_cons_cons,Instr.fill,hv,ne_eq,not_true,decide_false,ah6,decide_eq_true_eq];have lj:(v.cells.zipIdx.foldl (λcs(p:Value×Nat)=>cs.setIfInBounds (k*size+p.2) p.1) cs).toList=cs.toList.take (k*size)++v.cells.toList++cs.toList.drop (k*size+size):=by have:=yR (k*size) v.cells.toList 0 cs (by simp;omega);simp only[ag6,adu,hv]at this;rw[<-this];rw[<-aiY];simp
  have cM:(v.cells.zipIdx.foldl (λcs(p:Value×Nat)=>cs.setIfInBounds (k*size+p.2) p.1) cs).size=cs.size:=by rw[<-adu,lj];simp[hv];omega
  rw[Dd size vs (k+1) _ (λx hx=>h x<|by simp[hx])<|by rw[cM];omega,lj,e1,e2,e3];rw[ah7<|by simp[hv];omega,acR<|by simp[hv];omega,aiZ,ad3<|by simp[hv];omega];simp[acW,ac2,adu,hv,agf,ajz,afG,acV];omega
def Cells.AE{size:Nat}:∀(vs:List Value),(∀v∈vs,v.cells.size=size)->(vs.flatMap (·.cells.toList)).length=vs.length*size
 |[],_=>by simp
 |v::vs,h=>by simp[ac7,Cells.AE vs λx hx=>h x<|by simp[hx],h v<|by simp];omega
def Cells.BZ{ti:TI}:∀{ys:List AV}{one:Bool}{vs:List Value}{F:List Nat},Cells w S one ys vs F->ys.all (fits ti)=true->∀v∈vs,v.cells.size=ti.size
 |[],one,vs,F,h,_=>by simp[Cells]at h;simp[h.1]
 |y::ys,one,vs,F,h,hf=>by
  obtain⟨z,l',F1,F2,rfl,rfl,h3,h4,h5⟩:=h;simp only[adl,acd]at hf;intro v hv;rcases aci.1 hv with rfl|hv
  ·exact aap hf.1 h4
  exact Cells.BZ h5 hf.2 v hv
def FT{ti:TI}{cs:Array Value}{c:Nat}{e:TypeId}(h:Inv N V w0 S0 σ a w)(hd:d<N)(hr:Mv.runs σ [.make M d<|.list .own ti.size ys]=some σ')(se:ys.length<=c)(yb:c<=maxLen)(o5:cs.size=c*ti.size)
 (hf:∀S F,aS S (cu V w0) σ (tv V a) w F->∃Fy,cv w S ti.size ys (cs.toList.take<|ys.length*ti.size) Fy/\Fy.Nodup/\∀b∈Fy,∃m∈M,b∈F m):
 Inv N V w0 S0 σ' (a.put (some d)<|.slice (some ⟨w.heap.size,0,none⟩) ys.length c) (w.alloc<|.cells cs e):=by
 refine CB h hd hr ((Below.refl _ _).alloc .refl _) λS F hc=>?_;obtain⟨Fy,h1,h2,h3⟩:=hf S F hc;have cS:∀b∈Fy,b<w.heap.size:=λb hb=>by obtain⟨m,_,hm⟩:=h3 b hb;exact(hc.own m b hm).2.1
 refine⟨w.heap.size::Fy,?_,adm.2 ⟨λhb=>by have:=cS _ hb;omega,h2⟩,λb hb=>?_⟩
 ·simp only[Rel];exact .inr ⟨w.heap.size,c,cs,Fy,rfl,oX _ _ _,se,yb,o5,cv.frame _ _ h1 λb hb=>oW _ _<|by rcases hb with hb|hb;exact hc.shr b hb;exact cS b hb,rfl⟩
 rcases aci.1 hb with rfl|hb
 all_goals simp_all
def zq{e n:Nat}(h:Inv N V w0 S0 σ a w)(hd:d<N)(ps:Array (Nat×Operand))(Rz:(ps.toList.map (·.2)).all aI=true){ti:TI}(he:dt P t=some e)(gR:bY P e=some ti)
 (hg:fG (ps.toList.map λp=>resolve σ p.2)=some (ys,M))(hix:ps.toList.map (·.1)=List.range n)(jj:ys.all (fits ti)=true)(hn:n*ti.size<=2^24)(Kq:n<=maxLen)
   (hr:Mv.runs σ [.make M d<|.list .own ti.size ys]=some σ'):Good N V w0 S0 σ' a d ((Instr.buildSlice t n<|ps.map λ(i,x)=>(i,a.eval x)).run P w):=by
  have hgx:fG ((ps.toList.map (·.2)).map<|resolve σ)=some (ys,M):=by rw[agN];exact hg
  obtain⟨z,hz,ZE,hz3,hz4⟩:=B3 gR w;have hlen:ps.size=n:=by have:=congrArg List.length hix;simpa using this
  have hI:=h;obtain⟨S,F,hc,-⟩:=h;obtain⟨Fy,g1,g2,g3⟩:=lW hc _ Rz hgx;have cM:=Cells.BZ g1 jj;have hyl:=Cells.length g1;simp[adu]at hyl;have ah4:(ps.map λ(i,x)=>(i,a.eval x)).toList=(List.range' 0 ((ps.toList.map (·.2)).map a.eval).length).zip ((ps.toList.map (·.2)).map a.eval):=by have:=zJ ps.toList a.eval;rw[hix]at this;simp[hlen];rw[<-List.range_eq_range'];simpa[ajy]using this.symm
  have bt:=Cells.AE _ cM;simp only[acZ,adu,hlen]at bt;have mI:∀base:Array Value,base.size=n*ti.size->Instr.fill (λi=>some (i*ti.size,ti.size)) base (ps.map λ(i,x)=>(i,a.eval x)).toList=some (((ps.toList.map (·.2)).map a.eval).flatMap (·.cells.toList)).toArray:=by intro base hb;rw[ah4,Dd ti.size _ 0 base cM<|by simp[hlen,hb]];simp only[ah8,ahr,afG,acZ,adu,hlen];rw[ad3<|by simp[hb],adw]
  refine⟨.slice (some ⟨w.heap.size,0,none⟩) ys.length n,_,?_,FT (e:=e) hI hd hr (by omega) Kq (c:=n) (cs:=(((ps.toList.map (·.2)).map a.eval).flatMap (·.cells.toList)).toArray) (by simpa using bt) λS' F' cm=>?_⟩
  ·have hu:=iM he;unfold Instr.buildSlice;simp only[Sem.run_bind,run_underlying hu,Result.andThen_ok,dE gR];rw[if_neg<|by omega];by_cases h0:n*ti.size=0
   ·simp only[h0,if_true,Sem.run_bind,Sem.run_pure,Result.andThen_ok];have:=mI ((Array.range 0).map ((#[]:Array Value)[·%(#[]:Array Value).size]!)) (by simp[h0]);simp only[this];simp[newRow];omega
   simp only[h0,if_false,Sem.run_bind,hz,Sem.run_pure,Result.andThen_ok];have:=mI ((Array.range<|n*ti.size).map (z.cells[·%z.cells.size]!)) (by simp);simp only[this];simp[newRow];omega
  obtain⟨Fy',U7,U6,g3'⟩:=lW cm _ Rz hgx;refine⟨Fy',?_,U6,g3'⟩;have:=Cells.els U7 jj;rw[List.toList_toArray,acR<|by rw[bt];exact adb _<|by omega];exact this
def pM(z:Array Value):∀n,(madeCells z<|n*z.size).toList=(List.replicate n z.toList).flatten
 |0=>by simp[madeCells]
 |n+1=>by
  rw[ag7,List.flatten_cons,<-pM z n];simp[madeCells];rw[show(n+1)*z.size=z.size+n*z.size by rw[ac7];omega,List.range_add,ac9,agN]
  congr 1
  ·apply ah2;intro j;simp;by_cases hj:j<z.size
   ·rw[adC hj];simp[afb hj,hj]
   rw[adA<|by simp;omega,ag1<|by omega];rfl
  apply adE;simp
def uE{x:AV}{z:Value}{sz:Nat}(h:Rel w S x z [])(hs:z.cells.size=sz):∀n,cv w S sz (List.replicate n x) (List.replicate n z.cells.toList).flatten []
 |0=>by simp[cv]
 |n+1=>by exact⟨z,_,[],[],rfl,rfl,hs,h,uE h hs n⟩
def A9{e:Nat}(h:Inv N V w0 S0 σ a w)(hd:d<N)(l c:Operand)(hl:aI l=true)(Pv:aI c=true){ti:TI}(he:dt P t=some e)(gR:bY P e=some ti)
 {k k':IntKind}{x y:Int}(h1:(resolve σ l).cont=some (.v<|.int k x))(h2:(resolve σ c).cont=some (.v<|.int k' y))(hb:0<=x/\x<=y/\y*ti.bytes<=140737488355328/\y<=maxLen/\0<ti.size)
 (hr:Mv.runs σ [.make [] d<|.list .own ti.size<|List.replicate x.toNat ti.zero]=some σ'):Good N V w0 S0 σ' a d ((Instr.makeSlice t (a.eval l)<|a.eval c).run P w):=by
 obtain⟨z,hz,ZE,hz3,hz4⟩:=B3 gR w;obtain⟨i,u,z',hi1,RG,hi3,hi4,hi5,hi6,hi7⟩:=jR gR;have hu:=iM he;have hI:=h;obtain⟨S,F,hc,-⟩:=h;rw[dj hc l hl h1,dj hc c Pv h2];have hzz:z'=z:=by
  have:(zeroValue e).run P w=.ok z' w:=by simp[zeroValue,typeInfo,hi1,hi3]
  rw[hz]at this;simpa using this.symm
 subst hzz;have bL:=run_make (P:=P) w t e i z' hu hi1 hi3 k k' x y hb.1 hb.2.1 (by rw[<-hi5,adj];omega) (by have:=hb.2.2.2.1;simp[maxLen]at this;omega);have Kq:y.toNat<=maxLen:=by have:=hb.2.2.2.1;omega
 have cM:(madeCells z'.cells<|y.toNat*i.size).size=y.toNat*ti.size:=by rw[size_madeCells,hi4]
 refine⟨_,_,bL,?_⟩;have key:=FT (e:=e) hI hd hr (cs:=madeCells z'.cells<|y.toNat*i.size) (c:=y.toNat) (by simp;omega) Kq cM λS' F' cm=>⟨[],?_,by simp,by simp⟩
 ·simpa using key
 have fK:Rel w S' ti.zero z' []:=by rw[ZE];exact gV w S' z' hz4
 have:=uE (S:=S') (w:=w) fK hz3 x.toNat;have hy:y.toNat=x.toNat+(y.toNat-x.toNat):=by omega
 rw[<-hi4,<-hz3,pM,hy,<-List.replicate_append_replicate,List.flatten_append];rw[ah7<|by simp,acR<|by simp];exact hz3▸this
def Rj{ty:Nat}(h:Inv N V w0 S0 σ a w)(hd:d<N)(x:Operand)(hx:aI x=true){ms:List Mv}(hm:j0 P d .len (t::ts) [resolve σ x]=some ms)(hr:Mv.runs σ ms=some σ'):
 Good N V w0 S0 σ' a d ((Builtin.len_ (t::ts).toArray ty #[a.eval x]).run P w):=by
 obtain⟨S,F,hc,-⟩:=id h;simp[j0]at hm;split at hm
 ·rename_i s vo;split at hm
  ·rename_i hu;cases hm;refine eG (z:=.int .i64 s.size) h hd hr ?_ (λS F _=>by simp[Rel,scalar]);rw[dj hc x hx vo];simp[Builtin.len_,run_underlying hu,goInt]
  cases hm
 ·rename_i f sz xs vo;split at hm
  ·rename_i e hu;cases hm;refine eG (z:=.int .i64 xs.length) h hd hr ?_ (λS F _=>by simp[Rel,scalar]);obtain⟨F1,h1,-⟩:=aQ hc x hx vo;obtain⟨ad,cap,hz,-⟩:=h1.jV;rw[hz];simp[Builtin.len_,run_underlying hu,goInt]
  cases hm
 cases hm
def abP{ty:Nat}(h:Inv N V w0 S0 σ a w)(hd:d<N)(x y:Operand)(hx:aI x=true)(hy:aI y=true){ms:List Mv}(hm:j0 P d .min ts [resolve σ x,resolve σ y]=some ms)(hr:Mv.runs σ ms=some σ'):
 Good N V w0 S0 σ' a d ((Builtin.min_ ts.toArray ty #[a.eval x,a.eval y]).run P w):=by
 obtain⟨S,F,hc,-⟩:=id h;simp[j0]at hm;split at hm
 ·rename_i k u k' v h1 h2;split at hm
  ·rename_i hk;cases hm;refine eG (z:=.int k<|min u v) h hd hr ?_ (λS F _=>by simp[Rel,scalar]);rw[dj hc x hx h1,dj hc y hy h2,run_min_int2]
   congr 2
   split<;>omega
  cases hm
 cases hm
def Rf{ty:Nat}(h:Inv N V w0 S0 σ a w)(hd:d<N)(x y:Operand)(hx:aI x=true)(hy:aI y=true){ms:List Mv}(hm:j0 P d .max ts [resolve σ x,resolve σ y]=some ms)(hr:Mv.runs σ ms=some σ'):
 Good N V w0 S0 σ' a d ((Builtin.max_ ts.toArray ty #[a.eval x,a.eval y]).run P w):=by
 obtain⟨S,F,hc,-⟩:=id h;simp[j0]at hm;split at hm
 ·rename_i k u k' v h1 h2;split at hm
  ·rename_i hk;cases hm;refine eG (z:=.int k<|max u v) h hd hr ?_ (λS F _=>by simp[Rel,scalar]);rw[dj hc x hx h1,dj hc y hy h2,run_max_int2]
   congr 2
   split<;>omega
  cases hm
 cases hm
def As(h:aS S B σ (tv V a) w F):∀(xs:List Operand),xs.all aI=true->∀{ys:List AV},gL (xs.map<|resolve σ)=some ys->
 ∀{S':Nat->Prop},(∀b,S b\/(∃i,b∈F i)->S' b)->Cells w S' false ys (xs.map a.eval) []
 |[],_,ys,hl,S',_=>by simp[gL]at hl;subst hl;simp[Cells]
 |x::xs,hf,ys,hl,S',hS=>by
  simp only[adl,acd]at hf;simp[gL]at hl;split at hl
  ·rename_i y Qm h1 h2;cases hl;unfold XJ at h1;split at h1
   ·rename_i y0 vo;cases h1;obtain⟨F1,k1,k2⟩:=aQ h x hf.1 vo;exact⟨_,_,[],[],rfl,rfl,by simp,Rel.share (λb hb=>hS b<|.inl hb) _ k1 λb hb=>hS b<|.inr<|k2.1 b hb,As h xs hf.2 h2 hS⟩
   cases h1
  cases hl
end
end
section
variable{P:Program}{N:Nat}{w0 w w':World}{V:Hid}{S S0 S':Nat->Prop}{B:Nat->Prop}{σ σ':St}{a:Act}{F:Nat->List Nat}
mutual
theorem Rel.R2:∀(x:AV){y z:Value}{F F':List Nat},Rel w S x y F->Rel w S' x z F'->y.cells=z.cells->F=F'
 |.v _,y,z,F,F',h,k,_=>by simp only[Rel]at h k;rw[h.2.2,k.2.2]
 |.list .nil _ _,y,z,F,F',h,k,_=>by simp only[Rel]at h k;rw[h.2.2,k.2.2]
 |.list .shr _ _,y,z,F,F',h,k,_=>by simp only[Rel]at h k;rcases h with⟨-,-,h⟩|⟨_,_,_,_,_,_,_,_,_,_,h⟩<;>rcases k with⟨-,-,k⟩|⟨_,_,_,_,_,_,_,_,_,_,k⟩<;>rw[h,k]
 |.list .own sz xs,y,z,F,F',h,k,e=>by
  simp only[Rel]at h k;rcases h with⟨rfl,rfl,rfl⟩|⟨b,cap,cs,G,rfl,h1,-,-,-,h2,rfl⟩<;>rcases k with⟨k0,rfl,rfl⟩|⟨b',agj,cs',G',rfl,k1,-,-,-,k2,rfl⟩
  ·rfl
  ·simp[Value.cells]at e
  ·simp[Value.cells]at e
  simp[Value.cells]at e;obtain⟨rfl,rfl⟩:=e;rw[h1]at k1;simp only[abr,ac3,and_true]at k1;subst k1;rw[cv.R2 sz xs h2 k2]
 |.box own x,y,z,F,F',h,k,e=>by
  simp only[Rel]at h k;obtain⟨b,cs,fz,G,u,rfl,h1,h2,h3,h4⟩:=h;obtain⟨b',cs',fz',G',u',rfl,k1,k2,k3,k4⟩:=k;simp[Value.cells]at e;subst e;rw[h1]at k1;simp only[abr,ac3]at k1;obtain⟨rfl,rfl⟩:=k1;have:=Rel.R2 x h2 k2 (by rw[h3,k3]);cases own
  ·simp only[aeu,if_false]at h4 k4;rw[h4.2.2,k4.2.2]
  simp only[if_true]at h4 k4;rw[h4.2,k4.2,this]
 |.agg xs,y,z,F,F',h,k,e=>by simp only[Rel]at h k;obtain⟨cs,rfl,h⟩:=h;obtain⟨cs',rfl,k⟩:=k;simp only[Value.cells]at e;subst e;exact Cells.R2 xs h k
 |.bX xs,y,z,F,F',h,k,e=>by simp only[Rel]at h k;obtain⟨cs,rfl,h⟩:=h;obtain⟨cs',rfl,k⟩:=k;simp[Value.cells]at e;subst e;exact Cells.R2 xs h k
 |.fn f p q,y,z,F,F',h,k,e=>by simp only[Rel]at h k;obtain⟨a,c,F1,F2,rfl,h1,h2,rfl⟩:=h;obtain⟨a',c',zI,F2',rfl,k1,k2,rfl⟩:=k;simp[Value.cells]at e;obtain⟨rfl,rfl⟩:=e;rw[Cells.R2 p h1 k1,Cells.R2 q h2 k2]
 |.bA ..,_,_,_,_,h,_,_=>by simp[Rel]at h
 |.pv _,_,_,_,_,h,k,_=>by simp only[Rel]at h k;rw[h.2,k.2]
 |.abs _,_,_,_,_,h,_,_=>by simp[Rel]at h
 |.fI ..,_,_,_,_,h,_,_=>by simp[Rel]at h
 |.mp K,y,z,F,F',h,k,e=>by simp only[Rel]at h k;obtain⟨b,o,rfl,-,-,rfl⟩:=h;obtain⟨b',o',rfl,-,-,rfl⟩:=k;simp[Value.cells]at e;rw[e]
 |.ptr ..,_,_,_,_,h,_,_=>by simp[Rel]at h
 |.hole,y,z,F,F',h,k,_=>by simp only[Rel]at h k;rw[h.2,k.2]
 |.dead,y,z,F,F',h,k,_=>by simp only[Rel]at h k;rw[h,k]
theorem Cells.R2:∀(xs:List AV){one ahU:Bool}{l:List Value}{F F':List Nat},Cells w S one xs l F->Cells w S' ahU xs l F'->F=F'
 |[],_,_,l,F,F',h,k=>by simp only[Cells]at h k;rw[h.2,k.2]
 |x::xs,_,_,l,F,F',h,k=>by simp only[Cells]at h k;obtain⟨y,l1,F1,F2,rfl,rfl,-,h3,h4⟩:=h;obtain⟨y',Wq,zI,F2',e,rfl,-,k3,k4⟩:=k;simp only[ai0]at e;obtain⟨rfl,rfl⟩:=e;rw[Rel.R2 x h3 k3 rfl,Cells.R2 xs h4 k4]
theorem cv.R2(sz:Nat):∀(xs:List AV){l:List Value}{F F':List Nat},cv w S sz xs l F->cv w S' sz xs l F'->F=F'
 |[],l,F,F',h,k=>by simp only[cv]at h k;rw[h.2,k.2]
 |x::xs,l,F,F',h,k=>by simp only[cv]at h k;obtain⟨y,l1,F1,F2,rfl,rfl,h2,h3,h4⟩:=h;obtain⟨y',Wq,zI,F2',e,rfl,k2,k3,k4⟩:=k;obtain⟨e1,rfl⟩:=List.append_inj e (by simp[h2,k2]);rw[Rel.R2 x h3 k3<|by simpa using e1,cv.R2 sz xs h4 k4]
end
def mZ(h:aS S B σ (tv V a) w F){S1:Nat->Prop}(hS:∀b,S b->S1 b):∀(xs:List Operand),xs.all aI=true->∀{ys:List AV},gL (xs.map<|resolve σ)=some ys->
 (∀m∈shares (xs.map<|resolve σ),∃r p,m=.share r p/\∀y z L F1,bg (σ r).av p=some y->loc w (.val<|tv V a r) p=some L->holds w L z->(∀ad,L=.addr ad->z.oneCell'=true)->Rel w S y z F1->∀b∈F1,S1 b)->
 Cells w S1 false ys (xs.map a.eval) []
 |[],_,ys,hl,_=>by simp[gL]at hl;subst hl;simp[Cells]
 |x::xs,hf,ys,hl,hm=>by
  simp only[adl,acd]at hf;simp[gL]at hl;split at hl
  ·rename_i y Qm h1 h2;cases hl;unfold XJ at h1;split at h1
   ·rename_i y0 vo;cases h1;obtain⟨F1,k1,k2,-⟩:=aQ h x hf.1 vo;simp[shares,vo]at hm;have aeI:=mZ h hS xs hf.2 h2 (λm UI=>hm m (by
     split
     ·exact UI
     split<;>exact ah1 _ UI))
    refine⟨_,_,[],[],rfl,rfl,by simp,Rel.share hS _ k1 λb hb=>?_,aeI⟩;by_cases gu:y0.aF=true
    ·rw[Rel.aF _ k1 gu]at hb;cases hb
    rw[if_neg gu]at hm;split at hm
    ·rename_i r g1 g2 p hp;obtain⟨r',p',e,hm⟩:=hm _<|List.mem_cons_self ..;obtain⟨rfl,rfl⟩:=e;obtain⟨p1,-,-,-,-,-,L,l1,l2,l3⟩:=iQ h x hf.1 vo hp;exact hm _ _ L F1 p1 l1 l2 l3 k1 b hb
    obtain⟨r',p',e,-⟩:=hm _<|List.mem_cons_self ..;cases e
   cases h1
  cases hl
def Below.row{w w':World}{n:Nat}(h:Below n w w'){b:Nat}(hb:b<n):w'.heap[b]?=w.heap[b]?:=h.block b hb
def aS.after(h:aS S B σ (tv V a) w F)(hb:Below w.heap.size w w')(h1:∀b,S b->S' b)(h2:∀b,S' b->S b\/w.heap.size<=b)(h3:∀b,S' b->b<w'.heap.size):aS S' B σ (tv V a) w' F:=by
 have cS:∀b,(S b\/∃i,b∈F i)->w'.heap[b]?=w.heap[b]?:=λb dO=>Below.row hb (by rcases dO with dO|⟨i,dO⟩;exact h.shr b dO;exact(h.own i b dO).2.1);refine h.step (S':=S') ⟨λr=>.refl,λr=>.refl,λr _=>rfl,λr _ _=>⟨λp y hy=>⟨y,hy⟩,λb dO=>cS b<|dO.elim .inl λdO=>.inr ⟨r,dO⟩⟩⟩ h1
  (λi=>.inl ⟨rfl,rfl,rfl,λb dO=>cS b<|dO.elim .inl λdO=>.inr ⟨i,dO⟩⟩) h.nodup h.di (λi b dO=>?_) h3
 obtain⟨k1,k2,k3⟩:=h.own i b dO;exact⟨k1,adv k2 hb.size,λhs=>(h2 b hs).elim k3 λhh=>by omega⟩
def Inv.end{d:Option Nat}{y:AV}{z:Value}{Fy:List Nat}(hd:∀x,d=some x->x<N)(hN:a.tmps.size=N)(jx:a.defers=V.df)(hc:aS S (cu V w0) σ (tv V a) w F)
 (hb:Below w.heap.size w w')(dB:lP V w0 w)(h1:∀b,S b->S' b)(h2:∀b,S' b->S b\/w.heap.size<=b)(h3:∀b,S' b->b<w'.heap.size)
 (h4:∀b,S0 b->S b)(h5:∀b,S b->S0 b\/cu V w0 b)(hr:Rel w' S' y z Fy)(hn:Fy.Nodup)(hF:∀b∈Fy,w.heap.size<=b/\b<w'.heap.size/\¬S' b)
 (bL:Mv.runs σ (cK d y [])=some σ'):Inv N V w0 S0 σ' (a.put d z) w':=by
 have cm:=hc.after hb h1 h2 h3;have Yp:=dB.OE hb;have Yt:(∀b,S0 b->S' b)/\(∀b,S' b->S0 b\/cu V w0 b):=⟨λb hb=>h1 b<|h4 b hb,λb hb=>(h2 b hb).elim (h5 b) λh=>.inr<|dB.new b h⟩;cases d with
 |none=>simp[cK,Mv.runs]at bL;subst bL;exact⟨S',F,cm,hN,jx,Yt.1,Yt.2,Yp⟩
 |some d=>
  simp[cK,jf]at bL;subst bL;refine⟨S',λi=>if i=d then Fy else if i∈([]:List Nat)then[]else F i,?_,by rw[size_put];exact hN,by rw[fE];exact jx,Yt.1,Yt.2,Yp⟩;rw[nG<|by rw[hN];exact hd d rfl];have eQ:=λi b hb=>(hc.own i b hb).2.1;have dc:∀i,∀b∈F i,b∉Fy:=λi b hb dO=>by have:=eQ i b hb;have:=(hF b dO).1;omega
  refine cm.step (w':=w') (S':=S') ⟨λr=>?_,λr=>?_,λr rH=>?_,λr rH _=>?_⟩ (λ_ h=>h) (λi=>?_) (λi=>?_) (λi j gS b hb=>?_) (λi b hb=>?_) h3
  ·unfold made;split
   ·rename_i e;subst e;simp
   simp
  ·unfold made;split
   ·rename_i e;subst e;simp
   simp
  ·unfold made at rH;split at rH
   ·rename_i e;subst e;simp at rH
   rename_i e;rw[ai _ _ e]
  ·unfold made at rH⊢;split at rH
   ·rename_i e;subst e;simp at rH
   rename_i e;simp only[e,afH];simp_all
  ·by_cases e:i=d
   ·subst e;right;rw[ak.aB<|by unfold made;simp;exact hr.plain];simp[made,aA];exact hr
   left;simp only[made,e,if_false,afH];exact⟨ao,ai _ _ e,ao,λ_ _=>trivial⟩
  ·show(if i=d then Fy else if i∈([]:List Nat)then[]else F i).Nodup;split
   ·exact hn
   simp[if_false];exact hc.nodup i
  ·simp[if_false]at hb⊢;split at hb
   ·split
    ·omega
    exactλhj=>dc j b hj hb
   split
   ·exact dc i b hb
   exact hc.di i j gS b hb
  simp[if_false]at hb;split at hb
  ·have:=hF b hb;exact⟨dB.new b<|by omega,this.2.1,this.2.2⟩
  exact cm.own i b hb
def zW(h:aS S B σ (tv V a) w F):∀(xs:List Operand),xs.all aI=true->∀m∈shares (xs.map<|resolve σ),m=.take 0 0 []\/∃r p,m=.share r p/\(σ r).av.plain=true
 |[],_,m,hm=>by simp[shares]at hm
 |x::xs,hf,m,hm=>by
  simp only[adl,acd]at hf;have ih:=zW h xs hf.2 m;simp[shares]at hm;split at hm
  ·rename_i y vo;split at hm
   ·exact ih hm
   split at hm
   ·rename_i r g1 g2 p hp;obtain⟨-,-,-,-,-,p6,-⟩:=iQ h x hf.1 vo hp;rcases aci.1 hm with rfl|hm
    ·simp_all
    exact ih hm
   rcases aci.1 hm with rfl|hm
   ·exact .inl rfl
   exact ih hm
  rcases aci.1 hm with rfl|hm
  ·exact .inl rfl
  exact ih hm
def La(d:Option Nat)(res:AV)(ms:List Mv):cK d res ms=ms++cK d res []:=by cases d<;>simp[cK]
def zZ(σ:St):∀(l m:List Mv),Mv.runs σ (l++m)=(Mv.runs σ l).bind (Mv.runs · m)
 |[],m=>rfl
 |x::l,m=>by
  simp[Mv.runs];cases x.run σ with
  |none=>rfl
  |some σ1=>exact zZ σ1 l m
def DP{d:Option Nat}(hG:ky P V w0)(h:Inv N V w0 S0 σ a w)(hd:∀x,d=some x->x<N)(f:Operand)(hf:aI f=true)(aas:List Operand)(has:aas.all aI=true){res:AV}{ms:List Mv}{mE:List A2}
 (hm:DQ d (resolve σ f) (aas.map<|resolve σ) res=some (ms,mE))(hr:Mv.runs σ ms=some σ')(hs:∀o∈mE,Sound P o.1 o.2.1 o.2.2):
 ∃g first captured,a.eval f=.func (.func g) first captured/\rX P g (first++(aas.map a.eval).toArray++captured) w λv w'=>Inv N V w0 S0 σ' (a.put d v) w':=by
 obtain⟨S,F,hc,hN,jx,jn,gD,dB⟩:=h;unfold DQ at hm;split at hm
 ·rename_i g first captured gw
  split at hm
  ·rename_i gu;simp[acd]at gu;split at hm
   ·rename_i ys hl;obtain⟨Ff,q1,-⟩:=aQ hc f hf gw;obtain⟨af,cf,F1,F2,qe,qa,qc,-⟩:=q1;have hF1:=Cells.aF _ qa gu.1;have ZY:=Cells.aF _ qc gu.2;subst hF1 ZY;refine⟨g,af,cf,qe,?_⟩;have main:∀(S1:Nat->Prop),(∀b,S b->S1 b)->(∀b,S1 b->b<w.heap.size)->Cells w S1 false ys (aas.map a.eval) []->Sound P g (first++ys++captured) res->
     rX P g (af++(aas.map a.eval).toArray++cf) w λv w'=>∃S' F',Below w.heap.size w w'/\(∀b,S1 b->S' b)/\(∀b,S' b->S1 b\/w.heap.size<=b)/\(∀b,S' b->b<w'.heap.size)/\
      Rel w' S' res v F'/\F'.Nodup/\∀b∈F',w.heap.size<=b/\b<w'.heap.size/\¬S' b:=by
     intro S1 hS hS1 oy CT;have mI:Cells w S1 false (first++ys++captured) (af.toList++aas.map a.eval++cf.toList) ([]++[]++[]):=Cells.append (Cells.append (Cells.mono hS _ qa) oy) (Cells.mono hS _ qc)
     have:=CT w S1 _ (hG.Ke dB) hS1 (by simpa using mI);have e:(af.toList++(aas.map a.eval++cf.toList)).toArray=af++(aas.map a.eval).toArray++cf:=by simp
     rw[e]at this;exact this
    split at hm
    ·rename_i yM;split at hm
     ·rename_i sS;cases hm;have oy:=mZ hc (S1:=S) (λ_ h=>h) aas has hl (by rw[sS];simp);have:=main S (λ_ h=>h) hc.shr oy<|hs (g,first++ys++captured,res)<|by simp
      intro rd o a' next Q hK
      refine this rd o a' next Q λv w'⟨S',F',k1,k2,k3,k4,k5,k6,k7⟩=>hK v w' ?_
      exact Inv.end hd hN jx hc k1 dB k2 k3 k4 jn gD k5 k6 k7 hr
     ·rename_i m ub;cases hm;rw[La,zZ]at hr;obtain⟨σ1,lU,sc⟩:=ab3.1 hr;have abA:∃r p,m=.share r p/\(σ r).av.plain=true:=by
       rcases zW hc aas has m (by rw[ub];simp)with rfl|h
       ·simp[Mv.runs,Mv.run]at lU
       exact h
      obtain⟨r,p,rfl,iD⟩:=abA;simp[Mv.runs,Mv.run]at lU;split at lU
      ·rename_i ahx Ry;cases lU;split at Ry
       ·rename_i y hg;split at Ry
        ·rename_i av' lj;cases Ry;obtain⟨L,z,G,F',k1,k2,k3,k4,k5⟩:=hc.share r p iD hg lj;have eQ:∀b∈G,cu V w0 b:=λb hb=>(hc.own r b<|k5 b hb).1;have oy:=mZ hc (S1:=λb=>S b\/b∈G) (λ_ h=>.inl h) aas has hl (by
          rw[ub];intro m hm;simp[agO]at hm;subst hm;refine⟨r,p,rfl,λy' z' L' F1 e1 e2 e3 e4 e5 b hb=>?_⟩;rw[hg]at e1;cases e1;rw[k1]at e2;cases e2;have hz:z'=z:=by
           cases L with
           |val q=>simp[holds]at k2 e3;rw[k2,e3]
           |addr ad=>
            have ho:=e4 ad rfl;have Ya:z.oneCell'=true\/F1=[]:=by
             cases y with
             |agg xs=>simp[Rel]at e5;obtain⟨cs,rfl,-⟩:=e5;simp[Value.oneCell']at ho
             |bX xs=>simp[Rel]at e5;obtain⟨cs,rfl,-⟩:=e5;simp[Value.oneCell']at ho
             |dead=>simp[Rel]at e5;exact .inr e5
             |v x=>exact .inl (k3.one rfl)
             |list f sz xs=>exact .inl (k3.one rfl)
             |box o x=>exact .inl (k3.one rfl)
             |fn f x y=>exact .inl (k3.one rfl)
             |hole=>exact .inl (k3.one rfl)
             |bA=>simp[Rel]at e5
             |ptr=>simp[Rel]at e5
             |pv C=>simp[Rel]at e5;exact .inr e5.2
             |abs J=>simp[Rel]at e5
             |fI g ba=>simp[Rel]at e5
             |mp K=>have k3':=k3;simp only[Rel]at k3';obtain⟨b0,o0,h0,-⟩:=k3';exact .inl (by rw[h0];rfl)
            rcases Ya with Ya|Ya
            ·have e1:=At.cell k2 (cj Ya);have e2:=At.cell e3<|cj ho;rw[e1]at e2;simpa using e2.symm
            subst Ya;cases hb
          subst hz;rw[Rel.R2 _ e5 k3 rfl]at hb;exact .inr hb)
         have:=main (λb=>S b\/b∈G) (λ_ h=>.inl h) k4.shr oy<|hs (g,first++ys++captured,res)<|by simp
         intro rd o a' next Q hK
         refine this rd o a' next Q λv w'⟨S',Sj,l1,l2,l3,l4,l5,l6,l7⟩=>hK v w' ?_
         exact Inv.end hd hN jx k4 l1 dB l2 l3 l4 (λb hb=>.inl<|jn b hb) (λb hb=>hb.elim (gD b) λhb=>.inr<|eQ b hb) l5 l6 l7 sc
        cases Ry
       cases Ry
      cases lU
     cases hm
    rename_i yM;cases hm;have oy:=As hc aas has hl (S':=λb=>S b\/∃i,b∈F i) λb hb=>hb;have:=main (λb=>S b\/∃i,b∈F i) (λ_ h=>.inl h) (λb hb=>by rcases hb with hb|⟨i,hb⟩;exact hc.shr b hb;exact(hc.own i b hb).2.1) oy<|hs (g,first++ys++captured,res)<|by simp
    intro rd o a' next Q hK
    refine this rd o a' next Q λv w'⟨S',F',k1,k2,k3,k4,k5,k6,k7⟩=>hK v w' ?_
    have gM:res.bJ=true:=by simpa using yM
    have cM:=hc.shr;exact Inv.end (S':=S) hd hN jx hc k1 dB (λ_ h=>h) (λ_ h=>.inl h) (λb hb=>adv (hc.shr b hb) k1.size) jn gD (Rel.bJ res k5 gM) k6
     (λb hb=>⟨(k7 b hb).1,(k7 b hb).2.1,λhS=>by have:=hc.shr b hS;have:=(k7 b hb).1;omega⟩) hr
   cases hm
  cases hm
 cases hm
end
def gj(N:Nat)(o:Oper):Bool:=
 (match o.dst with|some d=>decide (d<N)|none=>true)&&
 match o.op with
 |.move x|.assign x|.box _ x|.nilCheck x|.unOp _ _ x|.convert _ _ x|.field _ x _|.extract x _=>aI x
 |.store _ x y=>aI x&&aI y
 |.load _ x|.fieldAddr _ x _=>aI x
 |.pick c x y=>aI c&&aI x&&aI y
 |.build _ ps|.buildSlice _ _ ps=>(ps.toList.map (·.2)).all aI
 |.binOp _ _ x y _|.makeSlice _ x y|.indexAddr _ x y|.index _ x y=>aI x&&aI y
 |.makeFunc _ p q=>p.toList.all aI&&q.toList.all aI
 |.slice _ x l h m=>aI x&&l.all aI&&h.all aI&&m.all aI&&(m.isNone||h.isSome)
 |.call c=>c.args.toList.all aI&&(match c.callee with|.value f=>aI f|_=>true)
 |.lookup _ m x _=>aI m&&aI x
 |_=>true
section
variable{P:Program}{N:Nat}{w0 w w':World}{V:Hid}{S S0 S':Nat->Prop}{B:Nat->Prop}{σ σ':St}{a:Act}{F:Nat->List Nat}{K:Act->World->Prop}{Q:Exit->Act->World->Prop}
def rR{o:Oper}{d:Nat}(hd:o.dst=some d){s:Sem Value}(he:execOp a.eval o=(do pure (.value<|←s)))(hg:Good N V w0 S0 σ' a d (s.run P w))(hK:∀a' w',Inv N V w0 S0 σ' a' w'->K a' w'):Oper.WE V.rd P o a w K Q:=by
 obtain⟨v,w',hr,hi⟩:=hg;refine gH (v:=v) (w':=w') ?_ ?_
 ·rw[he];simp[hr]
 rw[hd];simp_all
def WD{o:Oper}{d:Nat}(hd:o.dst=some d){s:Sem Value}(he:(execOp a.eval o).run P w=(s.run P w).andThen λv w'=>.ok (.value v) w')(hg:Good N V w0 S0 σ' a d (s.run P w))(hK:∀a' w',Inv N V w0 S0 σ' a' w'->K a' w'):Oper.WE V.rd P o a w K Q:=by
 obtain⟨v,w',hr,hi⟩:=hg;refine gH (v:=v) (w':=w') ?_ ?_
 ·rw[he,hr];rfl
 rw[hd];simp_all
def c5{m:Option (List Mv)}{ms:List Mv}{mE:List A2}(h:fM m=some (ms,mE)):m=some ms/\mE=[]:=by
 unfold fM at h;split at h
 ·cases h;simp_all
 cases h
def wN:∀{xs ys:List bM}{a b:List AV},gL xs=some a->gL ys=some b->gL (xs++ys)=some (a++b)
 |[],ys,a,b,h1,h2=>by simp[gL]at h1;subst h1;exact h2
 |x::xs,ys,a,b,h1,h2=>by
  simp[gL]at h1;split at h1
  ·rename_i y a' e1 e2;cases h1;simp[gL,e1,wN e2 h2]
  cases h1
def wM:∀{xs:List bM}{a:List AV},gL xs=some a->a.length=xs.length
 |[],a,h1=>by simp[gL]at h1;subst h1;rfl
 |x::xs,a,h1=>by
  simp[gL]at h1;split at h1
  ·rename_i y a' e1 e2;cases h1;simp[wM e2]
  cases h1
def p9{one:Bool}:∀{ap aq:List AV}{l m:List Value},ap.length=l.length->Cells w S one (ap++aq) (l++m) []->Cells w S one ap l []/\Cells w S one aq m []
 |[],aq,[],m,_,h=>⟨by simp[Cells],h⟩
 |[],aq,y::l,m,e,h=>by cases e
 |x::ap,aq,[],m,e,h=>by cases e
 |x::ap,aq,y::l,m,e,h=>by obtain⟨y',l',F1,F2,e1,e2,h3,h4,h5⟩:=h;obtain⟨rfl,rfl⟩:=e1;obtain⟨rfl,rfl⟩:=ag8.1 e2.symm;obtain⟨k1,k2⟩:=p9 (by simpa using e) h5;exact⟨⟨y,l,[],[],rfl,rfl,h3,h4,k1⟩,k2⟩
def acN{α:Type}{x:Array α}{a:α}(h:x.toList=[a]):x=#[a]:=by apply adK;simpa using h
def aj7{α:Type}{x:Array α}{a b:α}(h:x.toList=[a,b]):x=#[a,b]:=by apply adK;simpa using h
def Sb(h:Inv N V w0 S0 σ a w){o:Oper}{d:Nat}(hd:d<N)(eh:o.dst=some d){c:Call}(bU:o.op=.call c){b:Builtin}(hc:c.callee=.builtin b)(bt:c.args.toList.all aI=true){ms:List Mv}
 (hm:j0 P d b c.argTypes.toList (c.args.toList.map<|resolve σ)=some ms)(hr:Mv.runs σ ms=some σ')(hK:∀a' w',Inv N V w0 S0 σ' a' w'->K a' w'):Oper.WE V.rd P o a w K Q:=by
 generalize Wu:c.argTypes.toList=ts at hm;have abQ:c.argTypes=ts.toArray:=by rw[<-Wu]
 cases hl:c.args.toList with
 |nil=>rw[hl]at hm;simp[j0]at hm
 |cons x rest=>
  rw[hl]at hm bt;simp only[adl,acd]at bt;cases rest with
  |nil=>
   have eH:=acN hl;cases b<;>try(simp[j0]at hm;done)
   cases ts with
   |nil=>simp[j0]at hm
   |cons t ts=>
    refine WD (s:=Builtin.len_ c.argTypes o.type #[a.eval x]) eh ?_ ?_ hK
    ·simp[execOp,bU,Go.resolve,hc,eH,invoke,builtin]
    rw[abQ];exact Rj h hd x bt.1 hm hr
  |cons y rest=>
   simp[adl,acd]at bt;cases rest with
   |nil=>
    have eH:=aj7 hl;cases b<;>try(simp[j0]at hm;done)
    ·cases ts with
     |nil=>simp[j0]at hm
     |cons t ts=>cases ts with
      |nil=>simp[j0]at hm
      |cons t' ts=>cases ts with
       |cons _ _=>simp[j0]at hm
       |nil=>
        simp[j0,ado,afI]at hm;split at hm
        ·rename_i e2 he2;refine WD (s:=Builtin.append_ c.argTypes o.type #[a.eval x,a.eval y]) eh ?_ ?_ hK
         ·simp[execOp,bU,Go.resolve,hc,eH,invoke,builtin]
         rw[abQ];cases hte:dt P t with
         |none=>simp[kX,hte]at hm
         |some e=>rw[Iy (iM hte)<|iM he2];exact Iz h hd x y bt.1 bt.2.1 hm hr
        cases hm
    ·refine WD (s:=Builtin.max_ c.argTypes o.type #[a.eval x,a.eval y]) eh ?_ ?_ hK
     ·simp[execOp,bU,Go.resolve,hc,eH,invoke,builtin]
     rw[abQ];exact Rf h hd x y bt.1 bt.2.1 hm hr
    refine WD (s:=Builtin.min_ c.argTypes o.type #[a.eval x,a.eval y]) eh ?_ ?_ hK
    ·simp[execOp,bU,Go.resolve,hc,eH,invoke,builtin]
    rw[abQ];exact abP h hd x y bt.1 bt.2.1 hm hr
   |cons z rest=>cases b<;>simp[j0]at hm
def Q2(hG:ky P V w0)(h:Inv N V w0 S0 σ a w)(o:Oper)(bt:gj N o=true){res:AV}{ms:List Mv}{mE:List A2}(hm:A6 P σ o res=some (ms,mE))(hr:Mv.runs σ ms=some σ')
 (hs:∀o∈mE,Sound P o.1 o.2.1 o.2.2)(hK:∀a' w',Inv N V w0 S0 σ' a' w'->K a' w'):Oper.WE V.rd P o a w K Q:=by
 unfold gj at bt;rw[acd]at bt;obtain⟨hd,bt⟩:=bt;unfold A6 at hm;split at hm
 ·rename_i eh;split at hm
  ·rename_i t x y bU;rw[bU]at bt;obtain⟨jC,rfl⟩:=c5 hm;replace hm:=jC;obtain⟨w',h1,h2⟩:=I3 h x y (Bool.and_eq_true_iff.1 bt).1 (Bool.and_eq_true_iff.1 bt).2 hm hr;refine Oper.oT (by simp[bU]) ?_;have:(execOp a.eval o).run P w=.ok .skip w':=by simp[execOp,bU,h1]
   rw[this];show K (a.put o.dst undef) w';rw[eh];exact hK _ _ h2
  ·rename_i c bU;rw[bU]at bt;split at hm
   ·rename_i f hc;simp only[hc,acd]at bt;obtain⟨g,p,q,e1,e2⟩:=DP hG h (d:=none) (by simp) f bt.2 c.args.toList bt.1 hm hr hs;have hx:execOp a.eval o=callFunc g (p++(c.args.toList.map a.eval).toArray++q):=by
     have:(c.args.toList.map a.eval).toArray=c.args.map a.eval:=by apply adK;simp
     simp only[execOp,bU,Go.resolve,hc,Deferred.ofValue,e1,this];rfl
    refine Oper.oT (by simp[bU]) ?_;rw[hx];refine e2 _ o a K Q λv w' hi=>?_;rw[eh];exact hK _ _ hi
   cases hm
  cases hm
 rename_i d eh;simp only[eh,decide_eq_true_eq]at hd;split at hm
 ·rename_i x bU;rw[bU]at bt;obtain⟨jC,rfl⟩:=c5 hm;replace hm:=jC;refine gH (v:=a.eval x) (w':=w) (by simp[execOp,bU]) ?_;rw[eh];exact hK _ _ (lN h hd x bt hm hr)
 ·rename_i x bU;rw[bU]at bt;obtain⟨S,F,gw,-⟩:=id h;split at hm
  ·rename_i o1 x1 vo;obtain⟨jC,rfl⟩:=c5 hm;replace hm:=jC;obtain⟨F1,hR,-⟩:=aQ gw x bt vo;simp only[Rel]at hR;obtain⟨b,cs,fz,F',z,e1,-⟩:=hR;refine gH (v:=a.eval x) (w':=w) (by simp[execOp,bU,e1]) ?_;rw[eh];exact hK _ _ (lN h hd x bt hm hr)
  ·rename_i g p q vo;obtain⟨jC,rfl⟩:=c5 hm;replace hm:=jC;obtain⟨F1,hR,-⟩:=aQ gw x bt vo;simp only[Rel]at hR;obtain⟨p',q',F1,F2,e1,-⟩:=hR;refine gH (v:=a.eval x) (w':=w) (by simp[execOp,bU,e1]) ?_;rw[eh];exact hK _ _<|lN h hd x bt hm hr
  split at hm
  ·split at hm
   ·rename_i q hq;obtain⟨jC,rfl⟩:=c5 hm;replace hm:=jC;obtain⟨r,g1,g2,p,av⟩:=q;obtain⟨-,-,-,⟨ad,e1⟩,-⟩:=j6 gw x bt hq;refine gH (v:=a.eval x) (w':=w) (by simp[execOp,bU,e1]) ?_;rw[eh];exact hK _ _<|lN h hd x bt hm hr
   cases hm
  cases hm
 ·rename_i x bU;rw[bU]at bt;obtain⟨jC,rfl⟩:=c5 hm;replace hm:=jC;refine gH (v:=a.eval x) (w':=w) (by simp[execOp,bU]) ?_;rw[eh];exact hK _ _ (Ix h hd x bt hm hr)
 ·rename_i c x y bU;simp only[bU,acd]at bt;obtain⟨S,F,gw,-⟩:=id h;split at hm
  ·rename_i b vo;have hb:=dj gw c bt.1.1 vo;split at hm
   ·obtain⟨jC,rfl⟩:=c5 hm;replace hm:=jC;refine gH (v:=a.eval x) (w':=w) (by simp[execOp,bU,hb,asBool]) ?_;rw[eh];exact hK _ _<|lN h hd x bt.1.2 hm hr
   obtain⟨jC,rfl⟩:=c5 hm;replace hm:=jC;refine gH (v:=a.eval y) (w':=w) (by simp[execOp,bU,hb,asBool]) ?_;rw[eh];exact hK _ _<|lN h hd y bt.2 hm hr
  cases hm
 ·rename_i t bU;split at hm
  ·rename_i ti gR;cases hm;exact rR eh (by simp only[execOp,bU]) (LO h hd gR hr) hK
  cases hm
 ·rename_i t x bU;rw[bU]at bt;split at hm
  ·split at hm
   ·rename_i y M hg;split at hm
    ·cases hm;exact rR eh (by simp only[execOp,bU]) (R9 (t:=t) h hd x bt hg hr) hK
    cases hm
   cases hm
  cases hm
 ·rename_i t ps bU;rw[bU]at bt;split at hm
  ·rename_i ti gR;split at hm
   ·rename_i z hz;split at hm
    ·rename_i pl iD;split at hm
     ·rename_i ys M hg;split at hm
      ·rename_i cs hf;cases hm;exact rR eh (by simp only[execOp,bU]) (LD h hd ps bt gR hz iD hg hf hr) hK
      cases hm
     cases hm
    cases hm
   cases hm
  cases hm
 ·rename_i t n ps bU;rw[bU]at bt;split at hm
  ·rename_i e he;split at hm
   ·rename_i ti gR;split at hm
    ·rename_i ys M hg;split at hm
     ·rename_i hc;cases hm;exact rR eh (by simp only[execOp,bU]) (zq h hd ps bt he gR hg hc.1 hc.2.1 hc.2.2.1 hc.2.2.2 hr) hK
     simp at hm
    simp at hm
   simp at hm
  simp at hm
 ·rename_i t x bU;rw[bU]at bt;obtain⟨jC,rfl⟩:=c5 hm;replace hm:=jC;exact rR eh (by simp only[execOp,bU]) (MY h hd x bt hm hr) hK
 ·rename_i t x f bU;rw[bU]at bt;obtain⟨jC,rfl⟩:=c5 hm;replace hm:=jC;exact rR eh (by simp only[execOp,bU]) (Bh h hd x bt hm hr) hK
 ·rename_i t x f bU;rw[bU]at bt;obtain⟨jC,rfl⟩:=c5 hm;replace hm:=jC;exact rR eh (by simp only[execOp,bU]) (K1 h hd x bt hm hr) hK
 ·rename_i t x i bU;simp only[bU,acd]at bt;obtain⟨jC,rfl⟩:=c5 hm;replace hm:=jC;exact rR eh (by simp only[execOp,bU]) (Bc h hd x i bt.1 bt.2 hm hr) hK
 ·rename_i t x i bU;simp only[bU,acd]at bt;obtain⟨jC,rfl⟩:=c5 hm;replace hm:=jC;exact rR eh (by simp only[execOp,bU]) (Kj h hd x i bt.1 bt.2 hm hr) hK
 ·rename_i x i bU;rw[bU]at bt;obtain⟨jC,rfl⟩:=c5 hm;replace hm:=jC;exact rR eh (by simp only[execOp,bU]) (EB h hd x bt hm hr) hK
 ·rename_i op t x y t' bU;simp only[bU,acd]at bt;split at hm
  ·rename_i ax hx;split at hm
   ·rename_i ay hy;split at hm
    ·rename_i v hv;cases hm;exact rR eh (by simp only[execOp,bU]) (Sc h hd x y bt.1 bt.2 hx hy hv hr) hK
    simp at hm
   simp at hm
  simp at hm
 ·rename_i op t x bU;rw[bU]at bt;split at hm
  ·rename_i vx hx;split at hm
   ·rename_i v hv;cases hm;exact rR eh (by simp only[execOp,bU]) (SH h hd x bt hx hv hr) hK
   simp at hm
  simp at hm
 ·rename_i s t x bU;rw[bU]at bt;obtain⟨jC,rfl⟩:=c5 hm;replace hm:=jC;exact rR eh (by simp only[execOp,bU]) (N3 h hd x bt hm hr) hK
 ·rename_i t x l hh m bU;simp only[bU,acd,Option.all_eq_true,ag5,Option.isNone_iff_eq_none]at bt;obtain⟨jC,rfl⟩:=c5 hm;replace hm:=jC;exact rR eh (by simp only[execOp,bU]) (Jc h hd x l hh m bt.1.1.1.1 bt.1.1.1.2 bt.1.1.2 bt.1.2 bt.2 hm hr) hK
 ·rename_i t l c bU;simp only[bU,acd]at bt;split at hm
  ·rename_i e he;split at hm
   ·rename_i ti gR;split at hm
    ·rename_i k x k' y h1 h2;split at hm
     ·rename_i hb;cases hm;exact rR eh (by simp only[execOp,bU]) (A9 h hd l c bt.1 bt.2 he gR h1 h2 hb hr) hK
     simp at hm
    simp at hm
   simp at hm
  simp at hm
 ·rename_i f p q bU;simp only[bU,acd]at bt;split at hm
  ·rename_i ap aq hp hq;split at hm
   ·rename_i yM;cases hm;refine rR (s:=Instr.makeFunc f (p.map a.eval)<|q.map a.eval) eh (by simp only[execOp,bU]) (eG (z:=.func f (p.map a.eval)<|q.map a.eval) h hd hr rfl λS F hc=>?_) hK;have aim:shares ((p.toList++q.toList).map<|resolve σ)=[]:=by simpa using yM
    have hap:∀(x:Operand),x∈p.toList++q.toList->aI x=true:=by
     intro x hx;rcases ac5.1 hx with hx|hx
     ·exact ade.1 bt.1 x hx
     exact ade.1 bt.2 x hx
    have hl:gL ((p.toList++q.toList).map<|resolve σ)=some (ap++aq):=by rw[ac9];exact wN hp hq
    have:=mZ hc (S1:=S) (λ_ h=>h) (p.toList++q.toList) (ade.2 hap) hl (by rw[aim];simp);rw[ac9]at this;obtain⟨c1,c2⟩:=p9 (by rw[wM hp];simp) this;simp only[Rel];exact⟨_,_,[],[],rfl,by simpa using c1,by simpa using c2,rfl⟩
   simp at hm
  simp at hm
 ·rename_i c bU;rw[bU]at bt;split at hm
  ·rename_i f hc;simp only[hc,acd]at bt;obtain⟨g,p,q,e1,e2⟩:=DP hG h (d:=some d) (by simpa using hd) f bt.2 c.args.toList bt.1 hm hr hs;have hx:execOp a.eval o=callFunc g (p++(c.args.toList.map a.eval).toArray++q):=by
    have:(c.args.toList.map a.eval).toArray=c.args.map a.eval:=by apply adK;simp
    simp only[execOp,bU,Go.resolve,hc,Deferred.ofValue,e1,this];rfl
   refine Oper.oT (by simp[bU]) ?_;rw[hx];refine e2 _ o a K Q λv w' hi=>?_;rw[eh];exact hK _ _ hi
  ·rename_i b hc;obtain⟨jC,rfl⟩:=c5 hm;replace hm:=jC;simp only[hc,Bool.and_true]at bt;exact Sb h hd eh bU hc bt hm hr hK
  simp at hm
 simp at hm
end
def Mv.keys:Mv->List Nat
 |.share r _=>[r]
 |.take r n _=>[r,n]
 |.make M n _=>n::M
 |.put n _=>[n]
 |.store r _ M _=>r::M
 |.back R=>R.map (·.1)
def aU:List Mv->List Nat
 |[]=>[]
 |m::ms=>m.keys++aU ms
def AT{σ:St}:∀{R:List (Nat×AV)}{s:Nat},s∉R.map (·.1)->kr σ R s=σ s
 |[],s,_=>rfl
 |(r,y)::R,s,h=>by simp only[ado,aci,not_or]at h;simp[kr];rw[ai _ _ h.1,AT h.2]
def Mv.Fo{σ σ' τ:St}(m:Mv)(h:∀s∈m.keys,τ s=σ s)(hr:m.run σ=some σ'):∃τ',m.run τ=some τ'/\(∀s∈m.keys,τ' s=σ' s)/\∀s,s∉m.keys->τ' s=τ s:=by
 cases m with
 |share r p=>
  simp[Mv.keys,agO,forall_eq]at h;simp[Mv.run]at hr⊢;rw[h];split at hr
  ·rename_i y h1;split at hr
   ·rename_i av h2;cases hr;refine⟨_,rfl,?_,?_⟩
    ·simp[Mv.keys,aA]
    intro s hs;simp[Mv.keys,agO]at hs;exact ai _ _ hs
   cases hr
  cases hr
 |take r n p=>
  simp[Mv.keys,aci,afH,or_false,forall_eq_or_imp,forall_eq]at h;simp only[Mv.run]at hr⊢;rw[h.1];split at hr
  ·cases hr
  rename_i hnr;simp[hnr,if_false];split at hr
  ·rename_i y h1;split at hr
   ·rename_i av h2;cases hr;refine⟨_,rfl,?_,?_⟩
    ·intro s hs;simp[Mv.keys,aci,afH,or_false]at hs;rcases hs with rfl|rfl
     ·rw[ai _ _ λe=>hnr e.symm,ai _ _ λe=>hnr e.symm,aA,aA]
     rw[aA,aA,h.2]
    intro s hs;simp[Mv.keys,aci,afH,or_false,not_or]at hs;rw[ai _ _ hs.2,ai _ _ hs.1]
   cases hr
  cases hr
 |make M n y=>
  simp only[Mv.run,abr]at hr⊢;subst hr;refine⟨_,rfl,?_,?_⟩
  ·intro s hs;have hn:=h n (by simp[Mv.keys]);simp[made,hn,h s hs]
  intro s hs;simp[Mv.keys,aci,not_or]at hs;simp[made,hs.1,hs.2,if_false]
 |put n y=>
  simp only[Mv.run,abr]at hr⊢;subst hr;have hn:=h n (by simp[Mv.keys]);refine⟨_,rfl,?_,?_⟩
  ·intro s hs;simp[Mv.keys,agO]at hs;subst hs;rw[aA,aA,hn]
  intro s hs;simp[Mv.keys,agO]at hs;exact ai _ _ hs
 |store r p M y=>
  have rH:=h r (by simp[Mv.keys]);simp only[Mv.run]at hr⊢;rw[rH];split at hr
  ·cases hr
  rename_i X9;simp[X9,if_false];split at hr
  ·rename_i av h1;cases hr;refine⟨_,rfl,?_,?_⟩
   ·intro s hs;simp[stored,rH,h s hs]
   intro s hs;simp[Mv.keys,aci,not_or]at hs;simp[stored,hs.1,hs.2,if_false]
  cases hr
 |back R=>
  simp only[Mv.run,abr]at hr⊢;subst hr;simp only[Mv.keys]at h⊢;refine⟨_,rfl,?_,λs hs=>AT hs⟩;have:∀(R':List (Nat×AV)),(∀s∈R'.map (·.1),τ s=σ s)->∀s∈R'.map (·.1),kr τ R' s=kr σ R' s:=by
   intro R'
   induction R' with
   |nil=>intro _ s hs;cases hs
   |cons q R' ih=>
    intro hq s hs;obtain⟨r,y⟩:=q;simp only[ado,aci,forall_eq_or_imp]at hq hs;simp[kr];by_cases e:s=r
    ·subst e;rw[aA,aA,hq.1]
    rw[ai _ _ e,ai _ _ e];exact ih hq.2 s<|hs.resolve_left e
  exact this R h
def qD:∀(ms:List Mv){σ σ' τ:St},(∀s∈aU ms,τ s=σ s)->Mv.runs σ ms=some σ'->∃τ',Mv.runs τ ms=some τ'/\(∀s∈aU ms,τ' s=σ' s)/\∀s,s∉aU ms->τ' s=τ s
 |[],σ,σ',τ,h,hr=>by simp[Mv.runs]at hr;exact⟨τ,rfl,by simp[aU],λ_ _=>rfl⟩
 |m::ms,σ,σ',τ,h,hr=>by
  simp[Mv.runs]at hr⊢;split at hr
  ·rename_i σ1 h1;obtain⟨τ1,k1,k2,k3⟩:=m.Fo (τ:=τ) (λs hs=>h s<|by simp[aU,hs]) h1;obtain⟨ahx,e1,e2,e3⟩:=m.Fo (σ:=σ) (τ:=σ) (λs hs=>rfl) h1;rw[h1]at e1;cases e1;have hag:=λs hs=>by
    by_cases hm:s∈m.keys
    ·exact k2 s hm
    rw[k3 s hm,e3 s hm,h s hs]
   obtain⟨τ',q1,q2,q3⟩:=qD ms (σ:=σ1) (τ:=τ1) (λs hs=>hag s<|by simp[aU,hs]) hr;obtain⟨σ2,p1,p2,p3⟩:=qD ms (σ:=σ1) (τ:=σ1) (λs hs=>rfl) hr;rw[hr]at p1;cases p1;rw[k1];refine⟨τ',q1,λs hs=>?_,λs hs=>?_⟩
   ·by_cases hm:s∈aU ms
    ·exact q2 s hm
    rw[q3 s hm,p3 s hm,hag s hs]
   simp[aU]at hs;rw[q3 s hs.2,k3 s hs.1]
  cases hr
def uW{ms:List Mv}{σ σ':St}(h:Mv.runs σ ms=some σ'){s:Nat}(hs:s∉aU ms):σ' s=σ s:=by obtain⟨τ',q1,-,q3⟩:=qD ms (σ:=σ) (τ:=σ) (λ_ _=>rfl) h;rw[h]at q1;cases q1;exact q3 s hs
def roots(σ:St)(t:Nat):List Nat:=
 match(σ t).av with
 |.bA r _ _ _=>[t,r]
 |.ptr r _ _ _=>[t,r]
 |.fI _ ba=>t::ba.map (·.1)
 |_=>[t]
def rM(σ:St):Operand->List Nat
 |.tmp t=>roots σ t
 |_=>[]
def resolve_congr{σ τ:St}(x:Operand)(h:∀s∈rM σ x,τ s=σ s):resolve τ x=resolve σ x:=by
 cases x with
 |tmp t=>
  have ht:=h t (by simp[rM,roots];split<;>simp);simp[resolve,bM.of,ht];cases cC:(σ t).av with
  |bA r g1 g2 p=>simp only;rw[h r<|by simp only[rM,roots,cC];simp]
  |ptr r g1 g2 p=>simp only;rw[h r<|by simp only[rM,roots,cC];simp]
  |_=>rfl
 |_=>rfl
end Go.Ai
