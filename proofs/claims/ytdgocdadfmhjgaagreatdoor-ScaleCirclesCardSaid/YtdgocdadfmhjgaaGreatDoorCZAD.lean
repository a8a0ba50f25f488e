/- Parts of the proof of ScaleCircles (CheckRefused returns the error of the reference), at every input, with no further conditions. -/
import Derived.Test.YtdgocdadfmhjgaaGreatDoorCZAC
import Derived.RangeFuncSeq
set_option linter.all false
set_option maxRecDepth 100000
set_option maxHeartbeats 0
namespace Go.Ai
open Go.RowKit
def mk:List (Nat×Sl)->St
 |[]=>λ_=>⟨.dead,0,0⟩
 |(d,x)::l=>λi=>if i=d then x else mk l i
def entry:Nat->List AV->List (Nat×Sl)
 |_,[]=>[]
 |k,x::xs=>(k,⟨x,0,0⟩)::entry (k+1) xs
def pQ:∀(xs:List AV)(k i:Nat),mk (entry k xs) i=if k<=i then(match xs[i-k]?with|some x=>⟨x,0,0⟩|none=>⟨.dead,0,0⟩)else⟨.dead,0,0⟩
 |[],k,i=>by simp[entry,mk]
 |x::xs,k,i=>by
  simp[entry,mk];rw[pQ xs (k+1) i];by_cases h:i=k
  ·subst h;simp
  simp[h];by_cases h2:k<=i
  ·have h3:k+1<=i:=by omega
   simp[h2,h3];rw[show i-k=(i-(k+1))+1 by omega,List.getElem?_cons_succ]
  have h3:¬k+1<=i:=by omega
  simp[h2,h3]
def yH:∀(l m:List (Nat×Sl))(i:Nat),i∉l.map (·.1)->mk (l++m) i=mk m i
 |[],m,i,_=>rfl
 |(d,x)::l,m,i,h=>by simp only[ado,aci,not_or]at h;simp[mk,h.1];exact yH l m i h.2
def sM:∀(l m:List (Nat×Sl))(i:Nat),i∈l.map (·.1)->mk (l++m) i=mk l i
 |[],m,i,h=>by cases h
 |(d,x)::l,m,i,h=>by
  simp only[ado,aci]at h;simp[mk];by_cases e:i=d
  ·simp[e]
  simp[e];exact sM l m i<|h.resolve_left e
def ri:∀(xs:List AV)(k i:Nat),i∈(entry k xs).map (·.1)↔k<=i/\i<k+xs.length
 |[],k,i=>by simp[entry]
 |x::xs,k,i=>by simp[entry,ri xs (k+1) i];omega
def both(args H:List AV):St:=mk<|entry 0 args++entry 1000000 H
def gG{args H:List AV}{i:Nat}(h:i<1000000):both args H i=match args[i]?with|some x=>⟨x,0,0⟩|none=>⟨.dead,0,0⟩:=by
 unfold both;by_cases hi:i<args.length
 ·rw[sM _ _ _<|(ri args 0 i).2 ⟨by omega,by omega⟩,pQ];simp
 rw[yH _ _ _ (λhh=>by have:=(ri args 0 i).1 hh;omega),pQ,if_neg<|by omega,adA<|by omega]
def fJ{args H:List AV}(ha:args.length<=1000000)(k:Nat):both args H (1000000+k)=match H[k]?with|some x=>⟨x,0,0⟩|none=>⟨.dead,0,0⟩:=by unfold both;rw[yH _ _ _ (λhh=>by have:=(ri args 0 _).1 hh;omega),pQ];simp
def Oe{args H:List AV}:∀i,(both args H i).g1=0/\(both args H i).g2=0:=by
 intro i;have:∀(l:List (Nat×Sl)),(∀q∈l,q.2.g1=0/\q.2.g2=0)->(mk l i).g1=0/\(mk l i).g2=0:=by
  intro l
  induction l with
  |nil=>intro _;simp[mk]
  |cons q l ih=>
   intro h;simp only[aci,forall_eq_or_imp]at h;simp[mk];split
   ·exact h.1
   exact ih h.2
 refine this _ λq hq=>?_;have hh:∀(xs:List AV)(k:Nat),∀q∈entry k xs,q.2.g1=0/\q.2.g2=0:=by
  intro xs
  induction xs with
  |nil=>intro k q hq;simp[entry]at hq
  |cons x xs ih=>
   intro k q hq;simp[entry]at hq;rcases hq with rfl|hq
   ·simp_all
   exact ih _ q hq
 rcases ac5.1 hq with hq|hq
 all_goals exact hh _ _ q hq
def aX(V:Hid)(vs:List Value):Nat->Value:=λi=>if i<1000000 then vs.getD i undef else V.v i
def IE(P:Program)(f:FuncId)(H args H':List AV)(r:AV):Prop:=
 ∀(w:World)(S:Nat->Prop)(V:Hid)(vs:List Value)(F:Nat->List Nat),vs.length=args.length->ky P V w->aS S V.g (both args H) (aX V vs) w F->
  rX P f vs.toArray w λv w'=>∃S' F',uj V w w w'/\(∀b,S b->S' b)/\(∀b,S' b->S b\/cu V w b)/\aS S' (cu V w) (both [r] H') (aX V [v]) w' F'
abbrev pk:=World->(Nat->Prop)->List Nat->Prop
def pk.here(J:pk)(w:World)(S:Nat->Prop)(F:List Nat):Prop:=∀w' S',(∀b,S b\/b∈F->w'.heap[b]?=w.heap[b]?)->(∀b,S b->S' b)->J w' S' F
def Yields(P:Program)(J J':pk)(x:List AV)(b:Bool)(v:Value):Prop:=
 ∃l,v=.func (.yield l) #[] #[]/\∀(rd:Option Nat)(w:World)(S:Nat->Prop)(F:List Nat)(vs:List Value),Laid P w->AX P (·∈F)->J.here w S F->F.Nodup->(∀c∈F,c<w.heap.size/\¬S c)->(∀c,S c->c<w.heap.size)->Cells w S false x vs []->
  YieldAt (FW rd) 0 P l vs.toArray w λe w'=>e=.returned (.bool b)/\∃S' F',w'.os=w.os/\w'.tape=w.tape/\w'.output=w.output/\w.heap.size<=w'.heap.size/\(∀k,k<w.heap.size->k∉F->w'.heap[k]?=w.heap[k]?)/\
   (∀c,S c->S' c)/\(∀c,S' c->S c\/w.heap.size<=c\/c∈F)/\(∀c,S' c->c<w'.heap.size)/\J'.here w' S' F'/\F'.Nodup/\∀c∈F',(w.heap.size<=c\/c∈F)/\c<w'.heap.size/\¬S' c
def We(P:Program)(g:FuncId)(C:Value->Prop)(J J':pk)(x:List AV)(r:AV):Prop:=
 ∀(v:Value),C v->∀(w:World)(S:Nat->Prop)(F:List Nat)(vs:List Value),Laid P w->AX P (·∈F)->J.here w S F->F.Nodup->(∀c∈F,c<w.heap.size/\¬S c)->(∀c,S c->c<w.heap.size)->Cells w S false x vs []->
  rX P g (v::vs).toArray w λy w'=>∃S' F',w'.os=w.os/\w'.tape=w.tape/\w'.output=w.output/\w.heap.size<=w'.heap.size/\(∀k,k<w.heap.size->k∉F->w'.heap[k]?=w.heap[k]?)/\
   (∀c,S c->S' c)/\(∀c,S' c->S c\/w.heap.size<=c\/c∈F)/\(∀c,S' c->c<w'.heap.size)/\J'.here w' S' F'/\F'.Nodup/\(∀c∈F',(w.heap.size<=c\/c∈F)/\c<w'.heap.size/\¬S' c)/\∀w2 S2,Rel w2 S2 r y []
def Looks(P:Program)(t:TypeId)(ok:Bool)(K:Obj->Prop)(k y:AV):Prop:=∀(w:World)(S:Nat->Prop)(b:Nat)(o:Obj)(vk:Value),w.heap[b]?=some o->K o->Rel w S k vk []->∃v,(Instr.lookup t (.map<|some b) vk ok).run P w=.ok v w/\Rel w S y v []
def Query(P:Program)(g:FuncId)(sz:Nat)(X ys:List AV)(r:AV):Prop:=
 ∀(w:World)(S:Nat->Prop)(hd:Value)(vs:List Value)(F1:List Nat),Laid P w->AX P (·∈F1)->Rel w S (.list .own sz X) hd F1->F1.Nodup->(∀b∈F1,b<w.heap.size/\¬S b)->(∀b,S b->b<w.heap.size)->Cells w S false ys vs []->
  rX P g (hd::vs).toArray w λv w'=>∃S' F,Below w.heap.size w w'/\(∀b,S b->S' b)/\(∀b,S' b->S b\/w.heap.size<=b)/\(∀b,S' b->b<w'.heap.size)/\Rel w' S' r v F/\F.Nodup/\∀b∈F,w.heap.size<=b/\b<w'.heap.size/\¬S' b
def Qh(P:Program)(t:TypeId)(C:Value->Prop)(J:pk)(y:AV):Prop:=∀(w:World)(S:Nat->Prop)(F:List Nat)(v:Value),J.here w S F->C v->∃z,(Instr.loadAt t v).run P w=.ok z w/\Rel w S y z []
def Ext(P:Program)(o:Oper)(vs:Array Value)(w:World)(R:Value->World->Prop):Prop:=∀ρ:Operand->Value,o.op.operands.toList.map ρ=vs.toList->∃nx v w',(execOp ρ o).run P w=.ok nx w'/\(nx=.value v\/(nx=.skip/\o.dst=none))/\R v w'
def Ext.mono{P:Program}{o:Oper}{vs:Array Value}{w:World}{R R':Value->World->Prop}(h1:∀v w',R v w'->R' v w')(h:Ext P o vs w R):Ext P o vs w R':=λρ hρ=>by obtain⟨nx,v,w',k1,k2,k3⟩:=h ρ hρ;exact⟨nx,v,w',k1,k2,h1 v w' k3⟩
def Wh(P:Program)(o:Oper)(H args H':List AV)(r:AV):Prop:=
 ∀(w:World)(S:Nat->Prop)(V:Hid)(vs:List Value)(F:Nat->List Nat),vs.length=args.length->aS S V.g (both args H) (aX V vs) w F->
  Ext P o vs.toArray w λv w'=>∃S' F',uj V w w w'/\(∀b,S b->S' b)/\(∀b,S' b->S b\/cu V w b)/\aS S' (cu V w) (both [r] H') (aX V [v]) w' F'
inductive Ob
 |call (o:A2)
 |refs (g:FuncId) (H args out:List AV) (r:AV)
 |Sx (C:Value->Prop) (J J':pk) (x:List AV) (b:Bool)
 |Wo (t:TypeId) (ok:Bool) (K:Obj->Prop) (k y:AV)
 |ext (o:Oper) (H args out:List AV) (r:AV)
 |TR (g:FuncId) (C:Value->Prop) (J J':pk) (x:List AV) (r:AV)
 |Ts (g:FuncId) (sz:Nat) (X ys:List AV) (r:AV)
 |Sn (t:TypeId) (C:Value->Prop) (J:pk) (y:AV)
def Ob.ok(P:Program):Ob->Prop
 |.call o=>Sound P o.1 o.2.1 o.2.2
 |.refs g H args out r=>IE P g H args out r
 |.Sx C J J' x b=>∀v,C v->Yields P J J' x b v
 |.Wo t ok K k y=>Looks P t ok K k y
 |.ext o H args out r=>Wh P o H args out r
 |.TR g C J J' x r=>We P g C J J' x r
 |.Ts g sz X ys r=>Query P g sz X ys r
 |.Sn t C J y=>Qh P t C J y
def rD(x:bM):Option (Nat×AV):=
 match x.sl.av with
 |.bA r _ _ _=>some (r,x.rt.av)
 |.ptr r _ _ _=>some (r,x.rt.av)
 |y=>if y.aF then none else match x.s with
  |some s=>some (s,y)
  |none=>none
def iG:List (Nat×AV)->Nat->Option Nat
 |[],_=>none
 |(r,_)::R,s=>if r=s then some 0 else match iG R s with
  |some k=>some (k+1)
  |none=>none
def du:List (Nat×AV)->List bM->List (Nat×AV)
 |R,[]=>R
 |R,x::xs=>match rD x with
  |some (r,y)=>match iG R r with
   |some _=>du R xs
   |none=>du (R++[(r,y)]) xs
  |none=>du R xs
def uh(R:List (Nat×AV))(x:bM):Option AV:=
 match x.sl.av with
 |.bA r g1 g2 p=>match iG R r with
  |some k=>if x.rt.g1=g1 then if kl p=true\/x.rt.g2=g2 then some (.bA (1000000+k) 0 0 p)else none else none
  |none=>none
 |.ptr r g1 g2 p=>match iG R r with
  |some k=>if x.rt.g1=g1 then if flat p=true\/x.rt.g2=g2 then some (.ptr (1000000+k) 0 0 p)else none else none
  |none=>none
 |y=>if y.aF then some y else match x.s with
  |some s=>match iG R s with
   |some k=>some (.bA (1000000+k) 0 0 [])
   |none=>none
  |none=>none
def rP(R:List (Nat×AV)):List bM->Option (List AV)
 |[]=>some []
 |x::xs=>match uh R x,rP R xs with
  |some y,some ys=>some (y::ys)
  |_,_=>none
def oz:List (Nat×AV)->List AV->List (Nat×AV)
 |[],_=>[]
 |(r,_)::R,ys=>match ys with
  |[]=>[]
  |y::ys=>(r,y)::oz R ys
def JX:List (Nat×AV)->Option Nat->Bool
 |_,none=>false
 |[],_=>false
 |(r,_)::R,some d=>if r=d then true else JX R (some d)
def nT:List AV->Bool
 |[]=>true
 |x::xs=>x.plain&&nT xs
def uI(d:Option Nat)(f:bM)(aas:List bM)(out:List AV)(r:AV):Option (List Mv×List Ob):=
 match f.cont with
 |some (.fn (.func g) first captured)=>if bx first&&bx captured then match rP (du [] aas) aas with
   |some ys=>if nT ((du [] aas).map (·.2))&&nT out&&decide ((du [] aas).length=out.length)&&r.plain&& !JX (du [] aas) d&&decide (first.length+ys.length+captured.length<=1000000)then
     some (cK d r [.back<|oz (du [] aas) out],[.refs g ((du [] aas).map (·.2)) (first++ys++captured) out r])else none
   |none=>none
  else none
 |_=>none
section
variable{P:Program}{N:Nat}{w0 w w':World}{V:Hid}{S S0 S':Nat->Prop}{B:Nat->Prop}{σ σ' σ0:St}{T0:Nat->Value}{a:Act}{F:Nat->List Nat}{R:List (Nat×AV)}
def pF:∀{R:List (Nat×AV)}{s k:Nat},iG R s=some k->(R.map (·.1))[k]?=some s
 |[],s,k,h=>by simp[iG]at h
 |(r,y)::R,s,k,h=>by
  simp[iG]at h;split at h
  ·rename_i e;simp at h;subst h e;rfl
  split at h
  ·rename_i k' hk;cases h;simpa using pF hk
  cases h
def pG:∀{R:List (Nat×AV)}{s:Nat},iG R s=none->s∉R.map (·.1)
 |[],s,h=>by simp
 |(r,y)::R,s,h=>by
  simp[iG]at h;split at h
  ·cases h
  rename_i e;split at h
  ·cases h
  rename_i hk;simp only[ado,aci,not_or];exact⟨λe'=>e e'.symm,pG hk⟩
def Hh:∀{R:List (Nat×AV)}{k s:Nat},(R.map (·.1)).Nodup->(R.map (·.1))[k]?=some s->iG R s=some k
 |[],k,s,_,h=>by cases h
 |(r,y)::R,k,s,hn,h=>by
  simp only[ado,adm]at hn;simp[iG];cases k with
  |zero=>cases h;simp
  |succ k=>have hm:s∈R.map (·.1):=agr h;rw[if_neg λe=>hn.1<|by rw[e];exact hm,Hh hn.2 h]
def QI(_:aS S B σ (tv V a) w F)(x:Operand){r:Nat}{y:AV}(hr:rD (resolve σ x)=some (r,y)):y=(σ r).av:=by
 cases x with
 |const v=>
  have h2:=dJ v;simp[rD,resolve]at hr;split at hr
  ·rename_i e;rw[e]at h2;simp[AV.plain]at h2
  ·rename_i e;rw[e]at h2;simp[AV.plain]at h2
  simp at hr
 |func f=>simp[rD,resolve]at hr
 |global g=>simp[rD,resolve,Sl.none]at hr
 |tmp t=>
  simp[resolve]at hr;cases cC:(σ t).av with
  |bA r' g1 g2 p=>simp[bM.of,cC,rD]at hr;obtain⟨rfl,rfl⟩:=hr;rfl
  |ptr r' g1 g2 p=>simp[bM.of,cC,rD]at hr;obtain⟨rfl,rfl⟩:=hr;rfl
  |abs J=>simp[bM.of,cC,rD,Sl.none]at hr
  |_=>
   all_goals
    simp only[bM.of,cC,rD]at hr;split at hr
    ·cases hr
    cases hr;exact cC.symm
def oI(h:aS S B σ (tv V a) w F):∀(xs:List Operand){R:List (Nat×AV)},(∀q∈R,q.2=(σ q.1).av)->(R.map (·.1)).Nodup->
 (∀q∈du R (xs.map<|resolve σ),q.2=(σ q.1).av)/\((du R<|xs.map<|resolve σ).map (·.1)).Nodup
 |[],R,h1,h2=>⟨h1,h2⟩
 |x::xs,R,h1,h2=>by
  simp only[ado,du];split
  ·rename_i r y hr;have hv:=QI h x hr;split
   ·exact oI h xs h1 h2
   rename_i hp;refine oI h xs (λq hq=>?_) ?_
   ·rcases ac5.1 hq with hq|hq
    ·exact h1 q hq
    simp at hq;subst hq;exact hv
   simp only[ac9,acT];refine⟨h2,by simp,λx hx y hy e=>?_⟩;simp at hy;subst hy e;exact pG hp hx
  exact oI h xs h1 h2
def ArgRel(w:World)(S:Nat->Prop)(σ:St)(T:Nat->Value)(y:AV)(v:Value):Prop:=
 match y with
 |.bA r g1 g2 p=>g1<=(σ r).g1/\g2<=(σ r).g2/\((σ r).g1=g1->(kl p=true\/(σ r).g2=g2)->(kl p=false->∃y,bg (σ r).av p=some y)->
   ∃L,loc w (.val<|T r) p=some L/\holds w L v/\∀ad,L=.addr ad->v.oneCell'=true)
 |.ptr r g1 g2 p=>g1<=(σ r).g1/\g2<=(σ r).g2/\(∃ad,v=.pointer (some ad))/\((σ r).g1=g1->(flat p=true\/(σ r).g2=g2)->(flat p=false->∃y,bg (σ r).av p=some y)->
   ∃ad,loc w (.val<|T r) p=some (.addr ad)/\v=.pointer (some ad))
 |av=>Rel w S av v []
def ArgRel.slot{T:Nat->Value}{y:AV}{v:Value}{i:Nat}(h:ArgRel w S σ T y v)(h1:(σ i).av=y)(h2:T i=v):ak w S σ T i []:=by unfold ak;unfold ArgRel at h;subst h1 h2;cases hh:(σ i).av<;>rw[hh]at h<;>first|exact⟨rfl,h⟩|exact h|(simp[Rel]at h)
def ArgRel.yD{T:Nat->Value}{y:AV}{v:Value}(h:Rel w S y v []):ArgRel w S σ T y v:=by have:=h.plain;cases y<;>simp[AV.plain]at this<;>exact h
def cO(w:World)(S:Nat->Prop)(σ:St)(T:Nat->Value):List AV->List Value->Prop
 |[],vs=>vs=[]
 |y::ys,vs=>∃v vs',vs=v::vs'/\ArgRel w S σ T y v/\cO w S σ T ys vs'
def cO.append{T:Nat->Value}:∀{ys zs:List AV}{us vs:List Value},cO w S σ T ys us->cO w S σ T zs vs->cO w S σ T (ys++zs) (us++vs)
 |[],zs,us,vs,h,k=>by simp[cO]at h;subst h;simpa using k
 |y::ys,zs,us,vs,h,k=>by obtain⟨v,us',rfl,h1,h2⟩:=h;exact⟨v,_,rfl,h1,cO.append h2 k⟩
def cO.length{T:Nat->Value}:∀{ys:List AV}{us:List Value},cO w S σ T ys us->us.length=ys.length
 |[],us,h=>by simp[cO]at h;simp[h]
 |y::ys,us,h=>by obtain⟨v,us',rfl,h1,h2⟩:=h;simp[cO.length h2]
def cO.get{T:Nat->Value}:∀{ys:List AV}{us:List Value}(i:Nat){y:AV},cO w S σ T ys us->ys[i]?=some y->ArgRel w S σ T y (us.getD i undef)
 |[],us,i,y,h,hy=>by cases hy
 |y0::ys,us,i,y,h,hy=>by
  obtain⟨v,us',rfl,h1,h2⟩:=h;cases i with
  |zero=>cases hy;simpa using h1
  |succ i=>simpa using cO.get i h2 hy
def cO.sH{T:Nat->Value}:∀{ys:List AV}{us:List Value}{F:List Nat},Cells w S false ys us F->F=[]->cO w S σ T ys us
 |[],us,F,h,_=>by simp[Cells]at h;exact h.1
 |y::ys,us,F,h,hF=>by obtain⟨v,l',F1,F2,rfl,rfl,-,h4,h5⟩:=h;obtain⟨rfl,rfl⟩:=ag8.1 hF;exact⟨v,l',rfl,.yD h4,cO.sH h5 rfl⟩
def Sf(h:aS S B σ (tv V a) w F)(hR:∀r k,iG R r=some k->σ0 (1000000+k)=⟨(σ r).av,0,0⟩/\T0 (1000000+k)=tv V a r)(x:Operand)(hx:aI x=true){y:AV}
 (ha:uh R (resolve σ x)=some y):ArgRel w S σ0 T0 y (a.eval x):=by
 cases x with
 |const v=>
  have h1:=jG v;have h2:=dJ v;have:y=gb v:=by
   simp[uh,resolve]at ha;split at ha
   ·rename_i e;rw[e]at h2;simp[AV.plain]at h2
   ·rename_i e;rw[e]at h2;simp[AV.plain]at h2
   simp[h1,if_true,abr]at ha;exact ha.symm
  subst this;exact .yD (gV w S v hx)
 |func f=>simp[uh,resolve,AV.aF,bx]at ha;subst ha;refine .yD ?_;simp only[Rel,Act.eval];exact⟨#[],#[],[],[],rfl,by simp[Cells],by simp[Cells],rfl⟩
 |global g=>simp[uh,resolve,Sl.none,AV.aF]at ha;subst ha;exact .yD (by simp[Rel])
 |tmp t=>
  rw[iy V a<|fC hx];have ht:=h.rel t;simp[resolve]at ha;cases cC:(σ t).av with
  |bA r g1 g2 p=>
   simp[bM.of,cC,uh]at ha;unfold ak at ht;rw[cC]at ht;simp only at ht;split at ha
   ·rename_i k hk;obtain⟨e1,e2⟩:=hR r k hk;split at ha
    ·rename_i c1;split at ha
     ·rename_i c2;cases ha;unfold ArgRel;simp only[e1,e2];exact⟨abZ _,abZ _,λ_ _=>ht.2.2.2 c1 c2⟩
     cases ha
    cases ha
   cases ha
  |ptr r g1 g2 p=>
   simp[bM.of,cC,uh]at ha;unfold ak at ht;rw[cC]at ht;simp only at ht;split at ha
   ·rename_i k hk;obtain⟨e1,e2⟩:=hR r k hk;split at ha
    ·rename_i c1;split at ha
     ·rename_i c2;cases ha;unfold ArgRel;simp only[e1,e2];exact⟨abZ _,abZ _,ht.2.2.2.1,λ_ _=>ht.2.2.2.2 c1 c2⟩
     cases ha
    cases ha
   cases ha
  |abs J=>simp[bM.of,cC,uh,Sl.none,AV.aF,if_true,abr]at ha;subst ha;exact .yD (by simp[Rel])
  |fI g ba=>
   simp[bM.of,cC,uh,AV.aF,aeu,if_false]at ha;split at ha
   ·rename_i k hk;obtain⟨e1,e2⟩:=hR t k hk;cases ha;unfold ArgRel;simp only[e1,e2];exact⟨abC _,abC _,λ_ _ _=>⟨_,rfl,rfl,by simp⟩⟩
   cases ha
  |_=>
   all_goals
    have iD:(σ t).av.plain=true:=by rw[cC];rfl
    rw[ak.aB iD]at ht;have Yr:(if(σ t).av.aF then some (σ t).av else match iG R t with|some k=>some (AV.bA (1000000+k) 0 0 [])|none=>none)=some y:=by simpa only[bM.of,cC,uh]using ha
    split at Yr
    ·rename_i gu;cases Yr;rw[Rel.aF _ ht gu]at ht;exact .yD ht
    split at Yr
    ·rename_i k hk;obtain⟨e1,e2⟩:=hR t k hk;cases Yr;unfold ArgRel;simp only[e1,e2];exact⟨abZ _,abZ _,λ_ _ _=>⟨.val _,rfl,rfl,by simp⟩⟩
    cases Yr
def DV(h:aS S B σ (tv V a) w F)(hR:∀r k,iG R r=some k->σ0 (1000000+k)=⟨(σ r).av,0,0⟩/\T0 (1000000+k)=tv V a r):∀(xs:List Operand),xs.all aI=true->∀{ys:List AV},
 rP R (xs.map<|resolve σ)=some ys->cO w S σ0 T0 ys (xs.map a.eval)
 |[],_,ys,ha=>by simp[rP]at ha;subst ha;rfl
 |x::xs,hf,ys,ha=>by
  simp only[adl,acd]at hf;simp[rP]at ha;split at ha
  ·rename_i y Qm h1 h2;cases ha;exact⟨_,_,rfl,Sf h hR x hf.1 h1,DV h hR xs hf.2 h2⟩
  cases ha
def GI{σ:St}:∀{R:List (Nat×AV)}{out:List AV}(i:Nat),R.length=out.length->
 kr σ (oz R out) i=match iG R i with|some k=>⟨out.getD k .dead,(σ i).g1,(σ i).g2+1⟩|none=>σ i
 |[],out,i,h=>by simp[oz,kr,iG]
 |(r,y)::R,[],i,h=>by cases h
 |(r,y)::R,z::out,i,h=>by
  simp at h;simp[oz,kr,iG];by_cases e:r=i
  ·subst e;simp[aA]
  rw[ai _ _ λe'=>e e'.symm,GI i h];simp[e];cases iG R i<;>simp
def qH:∀{xs:List AV}{k:Nat}{x:AV},nT xs=true->xs[k]?=some x->x.plain=true
 |[],k,x,_,h=>by cases h
 |y::xs,k,x,hp,h=>by
  simp[nT]at hp;cases k with
  |zero=>cases h;exact hp.1
  |succ k=>exact qH hp.2 h
def aS.T4{d:Nat}{T:Nat->Value}{y:AV}{z:Value}{Fy:List Nat}(h:aS S B σ T w F)(hr:Rel w S y z Fy)(hn:Fy.Nodup)(hF:∀b∈Fy,B b/\b<w.heap.size/\¬S b)(dc:∀i,∀b∈F i,b∉Fy):
 aS S B (made σ [] d y) (gQ T d z) w (λi=>if i=d then Fy else F i):=by
 refine h.step (w':=w) (S':=S) ⟨λr=>?_,λr=>?_,λr rH=>?_,λr rH _=>?_⟩ (λ_ h=>h) (λi=>?_) (λi=>?_) (λi j gS b hb=>?_) (λi b hb=>?_) h.shr
 ·unfold made;split
  ·rename_i e;subst e;simp
  simp
 ·unfold made;split
  ·rename_i e;subst e;simp
  simp
 ·unfold made at rH;split at rH
  ·rename_i e;subst e;simp at rH
  rename_i e;rw[ai _ _ e]
 ·unfold made at rH⊢;split at rH
  ·rename_i e;subst e;simp at rH
  rename_i e;simp_all
 ·by_cases e:i=d
  ·subst e;right;rw[ak.aB<|by unfold made;simp;exact hr.plain];simp[made,aA];exact hr
  left;simp only[made,e,if_false,afH];exact⟨ao,ai _ _ e,ao,λ_ _=>trivial⟩
 ·show(if i=d then Fy else F i).Nodup;split
  ·exact hn
  exact h.nodup i
 ·replace hb:b∈if i=d then Fy else F i:=hb
  split at hb
  ·split
   ·omega
   exactλhj=>dc j b hj hb
  split
  ·exact dc i b hb
  exact h.di i j gS b hb
 replace hb:b∈if i=d then Fy else F i:=hb
 split at hb
 ·exact hF b hb
 exact h.own i b hb
def FQ:∀{R:List (Nat×AV)}{d:Nat},JX R (some d)=false->iG R d=none
 |[],d,_=>rfl
 |(r,y)::R,d,h=>by
  simp only[JX]at h;split at h
  ·cases h
  rename_i e;simp[iG,e,FQ h]
def CI{D:Array Value->World->(Value->World->Prop)->Prop}(aeW:∀(vs:Array Value)(w:World)(R R':Value->World->Prop),(∀v w',R v w'->R' v w')->D vs w R->D vs w R')
 {d:Option Nat}(hG:ky P V w0)(h:Inv N V w0 S0 σ a w)(hd:∀x,d=some x->x<N)(aas:List Operand)(has:aas.all aI=true){first ys captured out:List AV}{r:AV}{af cf:Array Value}
 (hq:∀S F,aS S (cu V w0) σ (tv V a) w F->Cells w S false first af.toList []/\Cells w S false captured cf.toList [])
 (oy:rP (du []<|aas.map<|resolve σ) (aas.map<|resolve σ)=some ys)
 (iJ:(nT ((du []<|aas.map<|resolve σ).map (·.2))&&nT out&&decide ((du []<|aas.map<|resolve σ).length=out.length)&&r.plain&& !JX (du []<|aas.map<|resolve σ) d&&decide (first.length+ys.length+captured.length<=1000000))=true)
 (hr:Mv.runs σ (cK d r [.back<|oz (du []<|aas.map<|resolve σ) out])=some σ')
 (hsd:∀(w:World)(S:Nat->Prop)(V:Hid)(vs:List Value)(F:Nat->List Nat),vs.length=(first++ys++captured).length->ky P V w->aS S V.g (both (first++ys++captured) ((du []<|aas.map<|resolve σ).map (·.2))) (aX V vs) w F->
   D vs.toArray w λv w'=>∃S' F',uj V w w w'/\(∀b,S b->S' b)/\(∀b,S' b->S b\/cu V w b)/\aS S' (cu V w) (both [r] out) (aX V [v]) w' F'):
 D (af++(aas.map a.eval).toArray++cf) w λv w'=>Inv N V w0 S0 σ' (a.put d v) w':=by
 obtain⟨S,F,hc,hN,jx,jn,gD,dB⟩:=h;simp[acd,decide_eq_true_eq,agq]at iJ;obtain⟨⟨⟨⟨⟨p1,p2⟩,p3⟩,hpr⟩,p4⟩,p5⟩:=iJ;obtain⟨v1,v2⟩:=oI hc aas (R:=[]) (by simp) (by simp);generalize hRe:du [] (aas.map<|resolve σ)=R at*;obtain⟨qa,qc⟩:=hq S F hc;obtain⟨ex,hex⟩:∃ex:List Nat,ex=R.map (·.1):=⟨_,rfl⟩;obtain⟨V',ZU⟩:∃V':Hid,V'={v:=λi=>tv V a<|ex.getD (i-1000000) 0,g:=λb=>∃r∈ex,b∈F r}:=⟨_,rfl⟩;have hlen:(R.map (·.2)).length=ex.length:=by rw[hex];simp
 have wW:∀(k:Nat)(y:AV),(R.map (·.2))[k]?=some y->∃r,ex[k]?=some r/\y=(σ r).av/\y.plain=true:=by intro k y hy;have iD:=qH p1 hy;simp only[af1,afe]at hy;obtain⟨q,hq,rfl⟩:=hy;exact⟨q.1,by rw[hex];simp[hq],v1 q<|agr hq,iD⟩
 obtain⟨vs,XZ⟩:∃vs,vs=af.toList++aas.map a.eval++cf.toList:=⟨_,rfl⟩;obtain⟨args,eH⟩:∃args,args=first++ys++captured:=⟨_,rfl⟩
 have IK:args.length<=1000000:=by rw[eH];simp;omega
 have hR:∀(r k:Nat),iG R r=some k->both args (R.map (·.2)) (1000000+k)=⟨(σ r).av,0,0⟩/\aX V' vs (1000000+k)=tv V a r:=by
  intro r k hk;have gp:=pF hk;rw[<-hex]at gp;have cS:k<(R.map (·.2)).length:=by rw[hlen];exact(afM.1 gp).1
  obtain⟨r',e1,e2,-⟩:=wW k _<|acL cS;rw[gp]at e1;cases e1;refine⟨by rw[fJ IK,acL cS];simp[e2],?_⟩;simp[aX,ZU];rw[if_neg<|by omega];simp[gp]
 have hA:cO w S (both args (R.map (·.2))) (aX V' vs) args vs:=by rw[eH,XZ];rw[eH]at hR;rw[XZ]at hR;exact((cO.sH qa rfl).append<|DV hc hR aas has oy).append<|cO.sH qc rfl
 have Az:aS S V'.g (both args (R.map (·.2))) (aX V' vs) w (λi=>if i<1000000 then[]else match ex[i-1000000]?with|some r=>F r|none=>[]):=by
  refine⟨λi=>?_,λi=>?_,λi j gS b hb=>?_,λi b hb=>?_,hc.shr⟩
  ·by_cases hi:i<1000000
   ·simp[hi,if_true];have hb:=gG (args:=args) (H:=R.map (·.2)) hi;cases hx:args[i]?with
    |none=>rw[hx]at hb;rw[ak.aB<|by rw[hb];rfl,hb];simp[Rel]
    |some y=>rw[hx]at hb;refine(hA.get i hx).slot (by rw[hb]) ?_;simp[aX,hi,if_true]
   obtain⟨k,rfl⟩:∃k,i=1000000+k:=⟨i-1000000,by omega⟩;simp[hi,if_false,ahs];have hb:=fJ (H:=R.map (·.2)) IK k;cases hx:(R.map (·.2))[k]?with
   |none=>
    rw[hx]at hb;rw[ak.aB<|by rw[hb];rfl,hb];have:ex[k]?=none:=by rw[List.getElem?_eq_none_iff]at hx⊢;omega
    simp[Rel,this]
   |some y=>rw[hx]at hb;obtain⟨r',e1,rfl,iD⟩:=wW k y hx;have IH:=hc.rel r';rw[ak.aB iD]at IH;rw[ak.aB<|by rw[hb];exact iD,hb];simp[e1,aX,ZU];rw[if_neg<|by omega];simpa[e1]using IH
  ·show(if i<1000000 then[]else match ex[i-1000000]?with|some r=>F r|none=>[]).Nodup;split
   ·simp
   split
   ·exact hc.nodup _
   simp
  ·replace hb:b∈if i<1000000 then[]else match ex[i-1000000]?with|some r=>F r|none=>[]:=hb
   show b∉if j<1000000 then[]else match ex[j-1000000]?with|some r=>F r|none=>[]
   split at hb
   ·cases hb
   rename_i hi;split at hb
   ·rename_i r1 h1;split
    ·simp
    rename_i hj;split
    ·rename_i r2 h2;refine hc.di r1 r2 (λe=>gS ?_) b hb;subst e;have g1:=Hh v2 (by rw[<-hex];exact h1);have g2:=Hh v2 (by rw[<-hex];exact h2);rw[g1]at g2;simp[abr]at g2;omega
    simp
   cases hb
  replace hb:b∈if i<1000000 then[]else match ex[i-1000000]?with|some r=>F r|none=>[]:=hb
  split at hb
  ·cases hb
  split at hb
  ·rename_i r1 h1;rw[ZU];exact⟨⟨r1,agr h1,hb⟩,(hc.own r1 b hb).2⟩
  cases hb
 rw[<-eH]at hsd;have hG':ky P V' w:=⟨hG.Ke dB,hG.cu.mono λb hb=>by rw[ZU]at hb;obtain⟨r,-,hr⟩:=hb;exact(hc.own r b hr).1⟩;have:=hsd w S V' vs _ (by rw[cO.length hA]) hG' Az;have e:vs.toArray=af++(aas.map a.eval).toArray++cf:=by apply adK;simp[XZ]
 rw[e]at this;refine aeW _ _ _ _ (λv w'⟨S',Sj,eR,k1,k2,cm⟩=>?_) this;have hg:∀b,V'.g b↔∃r∈ex,b∈F r:=λb=>by rw[ZU]
 have hmn:∀b,cu V' w b->w.heap.size<=b\/∃r∈ex,b∈F r:=λb hb=>hb.imp id (hg b).1;have UJ:∀b,cu V' w b->cu V w0 b:=λb hb=>(hmn b hb).elim (λh=>dB.new b h) λ⟨r,_,hr⟩=>(hc.own r b hr).1;have dI:∀b,b<w.heap.size->¬V'.g b->w'.heap[b]?=w.heap[b]?:=λb h1 h2=>eR.block b h1 h2;have ZV:∀b,S b->w'.heap[b]?=w.heap[b]?:=λb hb=>dI b (hc.shr b hb) (λhgb=>by obtain⟨r,-,hr⟩:=(hg b).1 hgb;exact(hc.own r b hr).2.2 hb);have ZX:∀i,iG R i=none->∀b∈F i,w'.heap[b]?=w.heap[b]?:=λi hi b hb=>dI b (hc.own i b hb).2.1 (λhgb=>by obtain⟨r,lU,sc⟩:=(hg b).1 hgb;exact hc.di i r (λe=>pG hi<|by subst e;rw[<-hex];exact lU) b hb sc)
 have ace:∀i,∀b∈Sj i,(w.heap.size<=b\/∃r∈ex,b∈F r)/\cu V w0 b/\b<w'.heap.size/\¬S' b:=λi b hb=>by have:=cm.own i b hb;exact⟨hmn b this.1,UJ b this.1,this.2⟩
 have UE:∀i,iG R i=none->∀j,∀b∈F i,b∉Sj j:=λi hi j b hb dO=>by
  rcases(ace j b dO).1 with UG|⟨r,lU,sc⟩
  ·have:=(hc.own i b hb).2.1;omega
  exact hc.di i r (λe=>pG hi<|by subst e;rw[<-hex];exact lU) b hb sc
 have ae6:∀{i j k:Nat},iG R i=some k->iG R j=some k->i=j:=λhi hj=>by have a1:=pF hi;have a2:=pF hj;rw[a1]at a2;simpa using a2
 have aeX:aS S' (cu V w0) (kr σ<|oz R out) (tv V a) w' (λi=>match iG R i with|some k=>Sj (1000000+k)|none=>F i):=by
  have gE:∀i,kr σ (oz R out) i=match iG R i with|some k=>⟨out.getD k .dead,(σ i).g1,(σ i).g2+1⟩|none=>σ i:=λi=>GI i p3
  refine hc.step (w':=w') (S':=S') ⟨λi=>?_,λi=>?_,λi _=>rfl,λi hi1 RG=>?_⟩ k1 (λi=>?_) (λi=>?_) (λi j gS b hb=>?_) (λi b hb=>?_) cm.shr
  ·rw[gE];split<;>simp
  ·rw[gE];split<;>simp
  ·rw[gE]at RG⊢;split at RG
   ·simp at RG
   rename_i hp;exact⟨λp y hy=>⟨y,hy⟩,λb hb=>hb.elim (ZV b)<|ZX i hp b⟩
  ·cases hp:iG R i with
   |none=>left;rw[gE,hp];exact⟨rfl,rfl,rfl,λb hb=>hb.elim (ZV b)<|ZX i hp b⟩
   |some k=>
    right;have hk:=pF hp;rw[<-hex]at hk;have RE:k<out.length:=by have:=(afM.1 hk).1;rw[hex]at this;simp at this;omega
    have fK:=cm.rel<|1000000+k;have hb:=fJ (args:=[r]) (H:=out) (by simp) k;rw[acL RE]at hb;have iD:=qH p2<|acL RE;rw[ak.aB<|by rw[hb];exact iD,hb]at fK;have cC:(kr σ (oz R out) i).av=out[k]:=by rw[gE,hp];simp[RE]
    rw[ak.aB<|by rw[cC];exact iD,cC];have Wt:aX V' [v] (1000000+k)=tv V a i:=by simp[aX,ZU];rw[if_neg<|by omega];simp[hk]
    rw[Wt]at fK;exact fK
  ·show(match iG R i with|some k=>Sj (1000000+k)|none=>F i).Nodup;split
   ·exact cm.nodup _
   exact hc.nodup i
  ·replace hb:b∈match iG R i with|some k=>Sj (1000000+k)|none=>F i:=hb
   show b∉match iG R j with|some k=>Sj (1000000+k)|none=>F j
   split at hb
   ·rename_i k hk;split
    ·rename_i k2 Pq;refine cm.di _ _ (λe=>gS ?_) b hb;have:k=k2:=by omega
     subst this;exact ae6 hk Pq
    rename_i hj;exactλdO=>UE j hj _ b dO hb
   rename_i hi;split
   ·exact UE i hi _ b hb
   exact hc.di i j gS b hb
  replace hb:b∈match iG R i with|some k=>Sj (1000000+k)|none=>F i:=hb
  split at hb
  ·exact(ace _ b hb).2
  rename_i hi;have ho:=hc.own i b hb;refine⟨ho.1,adv ho.2.1 eR.size,λZW=>?_⟩;rcases k2 b ZW with hS|hm
  ·exact ho.2.2 hS
  rcases hmn b hm with UG|⟨r,lU,sc⟩
  ·omega
  exact hc.di i r (λe=>pG hi<|by subst e;rw[<-hex];exact lU) b hb sc
 have Ga:lP V w0 w':=dB.trans ⟨eR.os,eR.tape,eR.output,eR.size,λk hk D9=>eR.block k (adv hk dB.size) (λhgk=>by obtain⟨r,-,hr⟩:=(hg k).1 hgk;exact wK (hc.own r k hr).1 hk D9)⟩
 have Yt:(∀b,S0 b->S' b)/\(∀b,S' b->S0 b\/cu V w0 b):=⟨λb hb=>k1 b<|jn b hb,λb hb=>(k2 b hb).elim (gD b) λh=>.inr<|UJ b h⟩;have bL:Mv.runs (kr σ<|oz R out) (cK d r [])=some σ':=by rw[La]at hr;simpa[Mv.runs,Mv.run]using hr
 cases d with
 |none=>simp[cK,Mv.runs,abr]at bL;subst bL;exact⟨S',_,aeX,hN,jx,Yt.1,Yt.2,Ga⟩
 |some d=>
  simp[cK,afG,jf,abr]at bL;subst bL;have hdn:=FQ p4;have fK:=cm.rel 0;have ab6:=gG (args:=[r]) (H:=out) (i:=0) (by omega);simp[aia]at ab6;rw[ak.aB<|by rw[ab6];exact hpr,ab6]at fK;have:=aeX.T4 (d:=d) fK (cm.nodup 0) (λb hb=>(ace 0 b hb).2) (λi b hb=>by
   replace hb:b∈match iG R i with|some k=>Sj (1000000+k)|none=>F i:=hb
   split at hb
   ·exact cm.di _ _ (by omega) b hb
   rename_i hi;exact UE i hi 0 b hb)
  rw[<-nG (by rw[hN];exact hd d rfl)]at this;exact⟨S',_,this,by rw[size_put];exact hN,by rw[fE];exact jx,Yt.1,Yt.2,Ga⟩
def AQ{d:Option Nat}(hG:ky P V w0)(h:Inv N V w0 S0 σ a w)(hd:∀x,d=some x->x<N)(f:Operand)(hf:aI f=true)(aas:List Operand)(has:aas.all aI=true){out:List AV}{r:AV}{ms:List Mv}{mE:List Ob}
 (hm:uI d (resolve σ f) (aas.map<|resolve σ) out r=some (ms,mE))(hr:Mv.runs σ ms=some σ')(hs:∀o∈mE,o.ok P):
 ∃g first captured,a.eval f=.func (.func g) first captured/\rX P g (first++(aas.map a.eval).toArray++captured) w λv w'=>Inv N V w0 S0 σ' (a.put d v) w':=by
 have hI:=h;obtain⟨S,F,hc,hN,jx,jn,gD,dB⟩:=h;unfold uI at hm;split at hm<;>try(cases hm)
 rename_i g first captured gw
 split at hm<;>try(cases hm)
 rename_i gu;simp at gu;split at hm<;>try(cases hm)
 rename_i ys oy;split at hm<;>try(cases hm;done)
 rename_i iJ;cases hm;obtain⟨Ff,q1,-⟩:=aQ hc f hf gw;obtain⟨af,cf,F1,F2,qe,-,-,-⟩:=q1;refine⟨g,af,cf,qe,?_⟩;refine CI (D:=rX P g) (λvs w R R' h1 h2 rd o a next Q hK=>h2 rd o a next Q λv w' hR=>hK v w'<|h1 v w' hR) hG hI hd aas has (λS F hc=>?_) oy iJ hr (hs (.refs g ((du []<|aas.map<|resolve σ).map (·.2)) (first++ys++captured) out r)<|by simp);obtain⟨Ff,q1,-⟩:=aQ hc f hf gw;obtain⟨af',cf',F1,F2,qe',qa,qc,-⟩:=q1;rw[qe]at qe';obtain⟨rfl,rfl⟩:=qe';have hF1:=Cells.aF _ qa gu.1;have ZY:=Cells.aF _ qc gu.2;subst hF1 ZY;exact⟨qa,qc⟩
def bM.gen(x:bM):Nat:=match x.sl.av with|.bA .. =>x.rt.g2|_=>x.sl.g2
def SB(P:Program)(d:Nat)(t:TypeId)(x:bM)(lo hi:Option bM):Option (List Mv):=
 match P.underlying t with
 |some (.slice e)=>match bY P e with
  |some ti=>match x.cont with
   |some (.list .own sz xs)=>match nf lo 0,nf hi xs.length with
    |some l,some h=>if sz=ti.size/\l<h/\h<=xs.length then match x.place with
      |some (r,g1,_,p)=>if r=d then none else some [.put d<|.bA r g1 x.gen<|p++[.lR sz l<|h-l]]
      |none=>none
     else none
    |_,_=>none
   |_=>none
  |none=>none
 |_=>none
def RP(x:Operand){r g1 g2:Nat}{p:Path}{y:AV}(hc:(resolve σ x).cont=some y)(hp:(resolve σ x).place=some (r,g1,g2,p)):bM.gen (resolve σ x)=(σ r).g2:=by
 cases x with
 |const v=>simp[resolve,bM.place]at hp;have h2:=dJ v;split at hp<;>simp_all[AV.plain]
 |func f=>simp[resolve,bM.place]at hp
 |global g=>simp[resolve,bM.place,Sl.none]at hp
 |tmp t=>
  simp[resolve]at hp⊢;cases cC:(σ t).av with
  |bA r' U7 U6 p'=>simp[bM.of,cC,bM.place]at hp⊢;obtain⟨rfl,rfl,rfl,rfl⟩:=hp;simp[bM.gen,cC]
  |ptr=>simp[bM.of,cC,bM.place]at hp
  |abs=>simp[bM.of,cC,bM.place,Sl.none]at hp
  |fI=>simp[resolve,bM.of,cC,bM.cont]at hc
  |_=>
   all_goals
    simp[bM.of,cC,bM.place]at hp⊢;obtain⟨rfl,rfl,rfl,rfl⟩:=hp;simp[bM.gen,cC]
def Ma{d t:Nat}(h:Inv N V w0 S0 σ a w)(hd:d<N)(x:Operand)(lo hi:Option Operand)(rG:aI x=true)(lV:∀o,lo=some o->aI o=true)(ya:∀o,hi=some o->aI o=true)
 {ms:List Mv}(hm:SB P d t (resolve σ x) (lo.map<|resolve σ) (hi.map<|resolve σ)=some ms)(hr:Mv.runs σ ms=some σ'):
 Good N V w0 S0 σ' a d ((Instr.sliceAt t (a.eval x) (lo.map a.eval) (hi.map a.eval) none).run P w):=by
 unfold SB at hm;split at hm<;>try(cases hm;done)
 rename_i e hu;split at hm<;>try(cases hm;done)
 rename_i ti gR;split at hm<;>try(cases hm;done)
 rename_i sz xs hx;split at hm<;>try(cases hm;done)
 rename_i l h' h1 h2;split at hm<;>try(cases hm;done)
 rename_i iJ;obtain⟨rfl,se,yb⟩:=iJ;split at hm<;>try(cases hm;done)
 rename_i r g1 g2 p hp;split at hm<;>try(cases hm;done)
 rename_i x8;cases hm;simp[Mv.bR,abr]at hr;subst hr;have afg:=RP x hx hp;have hI:=h;obtain⟨S,F,gw,-⟩:=h;obtain⟨F1,e1,-⟩:=aQ gw x rG hx;obtain⟨ad,cap,hz,jX,sS,LW⟩:=e1.jV;obtain⟨b,off,rfl⟩:=LW.1 (by simp) (λe=>by subst e;simp at yb;omega);have hb:=jS (P:=P) gw true (len:=xs.length) (cap:=cap) lo hi none lV ya (by simp) h1 h2 rfl (by omega) (by omega) (abZ _)<|.inl rfl;have bL:(Instr.sliceAt t (a.eval x) (lo.map a.eval) (hi.map a.eval) none).run P w=.ok (.slice (some<|(⟨b,off,none⟩:Addr).add<|l*ti.size) (h'-l)<|cap-l) w:=by
  rw[hz];simp[aiW]at hb;have:cap≠l:=by omega
  simp[Instr.sliceAt,run_underlying hu,Instr.slice,hb,dE gR,this]
 refine⟨_,w,bL,hI.put hd λS' F' cm=>?_⟩;obtain⟨q1,q2,q3,q4,q5,q6,L,q7,q8,q9⟩:=iQ cm x rG hx hp;unfold ak;simp only[aA,ai _ _ x8];refine⟨ao,q4,by omega,λ_ _ _=>⟨.val<|.slice (some<|(⟨b,off,none⟩:Addr).add<|l*ti.size) (h'-l)<|cap-l,?_,rfl,by simp⟩⟩;rw[ik,q7];simp[adI,loc];rw[hz]at q8;rw[cx q8 rfl<|by simp];rfl
inductive Ask
 |SW (r:AV)
 |refs (out:List AV) (r:AV)
 |lR
 |Sx (J':pk) (b:Bool)
 |mkc
 |fI (out:List AV) (r:AV)
 |Wo (y:AV)
 |ext (out:List AV) (r:AV)
 |TR (J':pk) (r:AV)
 |Ts (r:AV)
 |Sn (y:AV)
def O0(d:Option Nat)(aas:List bM)(out:List AV)(r:AV):Option (List Mv×List AV×List AV):=
 match rP (du [] aas) aas with
 |some ys=>if(nT ((du [] aas).map (·.2))&&nT out&&decide ((du [] aas).length=out.length)&&r.plain&& !JX (du [] aas) d&&decide (([]:List AV).length+ys.length+([]:List AV).length<=1000000))=true then
   some (cK d r [.back<|oz (du [] aas) out],(du [] aas).map (·.2),ys)else none
 |none=>none
def slotsOf:List Operand->Option (List Nat)
 |[]=>some []
 |.tmp t::l=>match slotsOf l with
  |some ts=>some (t::ts)
  |none=>none
 |_::_=>none
def rL:List bM->Option (List AV)
 |[]=>some []
 |x::xs=>match x.cont with
  |some y=>if y.aF then match rL xs with
   |some ys=>some (y::ys)
   |none=>none
   else none
  |none=>none
def PH(op:Op):Bool:=op.operands.toList.all aI&&(match op with
 |.move _=>false
 |.call ⟨.builtin .append,_,_⟩=>false
 |_=>true)
def sd(x:Sl):Sl:=match x.av with
 |.box o (.list f sz _)=>⟨.box o<|.list f sz [],x.g1,x.g2⟩
 |_=>x
def MI:AV->Bool
 |.box _ (.list .own _ _)=>true
 |_=>false
def rC(σ:St)(a:Nat):Option (Nat×Nat):=match(σ a).av with
 |.bA r g1 _ p=>if p=[]/\MI (σ r).av=true/\(σ r).g1=g1 then some (a,r)else none
 |x=>if MI x=true then some (a,a)else none
def vT(σ:St):Op->Option (Nat×Nat)
 |.load _ (.tmp a)=>rC σ a
 |_=>none
def rW(σ:St)(op:Op):Bool:=match PH op with
 |true=>match vT σ op with
  |some _=>false
  |none=>true
 |false=>false
def YF{σ:St}{op:Op}(h:rW σ op=true):PH op=true/\vT σ op=none:=by
 unfold rW at h;split at h
 ·rename_i e;split at h
  ·cases h
  rename_i e2;exact⟨e,e2⟩
 cases h
def kz(P:Program)(σ:St)(o:Oper):Ask->Option (List Mv×List Ob)
 |.mkc=>match o.dst with
  |some d=>match o.op with
   |.makeFunc (.func g) first ba=>match first.toList with
    |[]=>match slotsOf ba.toList with
     |some ts=>if ts.all (λt=>t !=d)=true then some ([.put d<|.fI g<|ts.map λt=>(t,(σ t).g1)],[])else none
     |none=>none
    |_::_=>none
   |_=>none
  |none=>none
 |.fI out r=>match o.op with
  |.call c=>match c.callee with
   |.value (.tmp t)=>match(σ t).av with
    |.fI g ba=>if ba.all (λq=>decide (q.1<1000000)&&(σ q.1).av.plain&&(σ q.1).g1==q.2)=true then uI o.dst (resolve σ<|.func g) (c.args.toList.map (resolve σ)++ba.map λq=>resolve σ<|.tmp q.1) out r else none
    |_=>none
   |_=>none
  |_=>none
 |.ext out r=>if rW σ o.op=true then match O0 o.dst (o.op.operands.toList.map<|resolve σ) out r with
   |some (ms,H,ys)=>some (ms,[.ext o H ys out r])
   |none=>none
  else none
 |.TR J' r=>match o.op with
  |.call c=>match c.callee with
   |.value f=>match c.args.toList with
    |[]=>none
    |x::xs=>match(resolve σ x).sl.av with
     |.pv C=>match(resolve σ f).cont with
      |some (.fn (.func g) [] [])=>match(σ 1000000).av with
       |.abs J=>match rL (xs.map<|resolve σ)with
        |some ys=>some (cK o.dst r [.back [(1000000,.abs J')]],[.TR g C J J' ys r])
        |none=>none
       |_=>none
      |_=>none
     |_=>none
   |_=>none
  |_=>none
 |.Ts r=>match o.op with
  |.call c=>match c.callee with
   |.value f=>match c.args.toList with
    |[]=>none
    |x::xs=>match(resolve σ f).cont with
     |some (.fn (.func g) [] [])=>match(resolve σ x).cont with
      |some (.list .own sz X)=>match rL (xs.map<|resolve σ)with
       |some ys=>if bx X=true then some (cK o.dst r [],[.Ts g sz X ys r])else none
       |none=>none
      |_=>none
     |_=>none
   |_=>none
  |_=>none
 |.Sn y=>match o.op with
  |.load t x=>match(resolve σ x).sl.av with
   |.pv C=>match(σ 1000000).av with
    |.abs J=>if y.aF=true then some (cK o.dst y [],[.Sn t C J y])else none
    |_=>none
   |_=>none
  |_=>none
 |.Wo y=>match o.op with
  |.lookup t m x ok=>match(resolve σ m).cont,(resolve σ x).cont with
   |some (.mp K),some k=>if k.aF&&y.aF then some (cK o.dst y [],[.Wo t ok K k y])else none
   |_,_=>none
  |_=>none
 |.SW r=>match A6 P σ o r with
  |some (ms,mE)=>some (ms,mE.map .call)
  |none=>none
 |.refs out r=>match o.op with
  |.call c=>match c.callee with
   |.value f=>uI o.dst (resolve σ f) (c.args.toList.map<|resolve σ) out r
   |_=>none
  |_=>none
 |.lR=>match o.dst with
  |some d=>match o.op with
   |.slice t x l h m=>match m with
    |none=>match SB P d t (resolve σ x) (l.map<|resolve σ) (h.map<|resolve σ)with
     |some ms=>some (ms,[])
     |none=>none
    |some _=>none
   |_=>none
  |none=>none
 |.Sx J' b=>match o.op with
  |.call c=>match c.callee with
   |.value f=>match(resolve σ f).sl.av with
    |.pv C=>match(σ 1000000).av with
     |.abs J=>match rL (c.args.toList.map<|resolve σ)with
      |some ys=>some (cK o.dst (.v<|.bool b) [.back [(1000000,.abs J')]],[.Sx C J J' ys b])
      |none=>none
     |_=>none
    |_=>none
   |_=>none
  |_=>none
def oQ(h:aS S B σ (tv V a) w F):∀(xs:List Operand){ys:List AV},xs.all aI=true->rL (xs.map<|resolve σ)=some ys->Cells w S false ys (xs.map a.eval) []
 |[],ys,_,h2=>by simp[rL]at h2;subst h2;simp[Cells]
 |x::xs,ys,h1,h2=>by
  simp only[adl,acd]at h1;simp[rL]at h2;split at h2<;>try(cases h2)
  rename_i y hy;split at h2<;>try(cases h2)
  rename_i hn;split at h2<;>try(cases h2;done)
  rename_i Qm oy;cases h2;obtain⟨F1,e1,-⟩:=aQ h x h1.1 hy;rw[Rel.aF _ e1 hn]at e1;exact⟨_,_,[],[],rfl,rfl,by simp,e1,oQ h xs h1.2 oy⟩
def vV:∀{xs:List Operand}{ts:List Nat},slotsOf xs=some ts->xs.all aI=true->xs.map a.eval=ts.map λt=>tv V a t
 |[],ts,h,_=>by simp[slotsOf]at h;subst h;rfl
 |.tmp t::xs,ts,h,hf=>by
  simp only[adl,acd]at hf;simp[slotsOf]at h;split at h<;>try(cases h;done)
  rename_i ts' h1;cases h;simp only[ado];rw[iy V a<|fC hf.1,vV h1 hf.2]
 |.const _::_,ts,h,_=>by simp[slotsOf]at h
 |.func _::_,ts,h,_=>by simp[slotsOf]at h
 |.global _::_,ts,h,_=>by simp[slotsOf]at h
def Inv.yielded{J J':pk}{w':World}{S':Nat->Prop}{F':List Nat}(hc:aS S (cu V w0) σ (tv V a) w F)(ha:a.tmps.size=N)(jx:a.defers=V.df)(jn:∀b,S0 b->S b)(gD:∀b,S b->S0 b\/cu V w0 b)(dB:lP V w0 w)
 (hJ:(σ 1000000).av=.abs J)(k1:w'.os=w.os)(k2:w'.tape=w.tape)(k3:w'.output=w.output)(k4:w.heap.size<=w'.heap.size)(k5:∀k,k<w.heap.size->k∉F 1000000->w'.heap[k]?=w.heap[k]?)
 (k6:∀c,S c->S' c)(k7:∀c,S' c->S c\/w.heap.size<=c\/c∈F 1000000)(k8:∀c,S' c->c<w'.heap.size)(k9:J'.here w' S' F')(k10:F'.Nodup)(Wr:∀c∈F',(w.heap.size<=c\/c∈F 1000000)/\c<w'.heap.size/\¬S' c):
 Inv N V w0 S0 (kr σ [(1000000,.abs J')]) a w':=by
 have cM:=dB.size;have hσ:kr σ [(1000000,.abs J')]=gQ σ 1000000 ⟨.abs J',(σ 1000000).g1,(σ 1000000).g2+1⟩:=rfl;rw[hσ];have Ax:∀c,(w.heap.size<=c\/c∈F 1000000)->cu V w0 c:=λc Pv=>Pv.elim (λh=>.inl<|acX cM h) λh=>(hc.own _ c h).1;have Eo:∀i,i≠1000000->∀b∈F i,b<w.heap.size/\b∉F 1000000:=λi hi b hb=>⟨(hc.own i b hb).2.1,hc.di i 1000000 hi b hb⟩;have Py:∀b,S b->b<w.heap.size/\b∉F 1000000:=λb hb=>⟨hc.shr b hb,λh=>(hc.own _ b h).2.2 hb⟩;refine⟨S',gQ F 1000000 F',?_,ha,jx,λb hb=>k6 b<|jn b hb,λb hb=>?_,?_⟩
 ·refine hc.step (w':=w') (T':=tv V a) ⟨λr=>?_,λr=>?_,λ_ _=>rfl,λr e1 e2=>?_⟩ k6 (λi=>?_) (λi=>?_) (λi j gS b hb=>?_) (λi b hb=>?_) k8
  ·by_cases hr:r=1000000
   ·subst hr;exact .refl
   rw[ai _ _ hr];exact .refl
  ·by_cases hr:r=1000000
   ·subst hr;exact ag9 _
   rw[ai _ _ hr];exact .refl
  ·by_cases hr:r=1000000
   ·subst hr;rw[aA]at e2;simp at e2
   rw[ai _ _ hr];exact⟨λp y hy=>⟨y,hy⟩,λb hb=>by rcases hb with hb|hb;exact k5 b (Py b hb).1 (Py b hb).2;exact k5 b (Eo r hr b hb).1 (Eo r hr b hb).2⟩
  ·by_cases hi:i=1000000
   ·subst hi;right;exact k9
   left;rw[ai _ _ hi,ai _ _ hi];exact⟨rfl,rfl,rfl,λb hb=>by rcases hb with hb|hb;exact k5 b (Py b hb).1 (Py b hb).2;exact k5 b (Eo i hi b hb).1 (Eo i hi b hb).2⟩
  ·by_cases hi:i=1000000
   ·subst hi;exact k10
   rw[ai _ _ hi];exact hc.nodup i
  ·by_cases hi:i=1000000
   ·subst hi;rw[ai _ _ λe=>gS e.symm];intro IJ;have:=Eo j (λe=>gS e.symm) b IJ;rcases(Wr b hb).1 with h|h
    ·omega
    exact this.2 h
   rw[ai _ _ hi]at hb;by_cases hj:j=1000000
   ·subst hj;intro IJ;have:=Eo i hi b hb;rcases(Wr b IJ).1 with h|h
    ·omega
    exact this.2 h
   rw[ai _ _ hj];exact hc.di i j gS b hb
  by_cases hi:i=1000000
  ·subst hi;exact⟨Ax b (Wr b hb).1,(Wr b hb).2⟩
  rw[ai _ _ hi]at hb;have ho:=hc.own i b hb;refine⟨ho.1,adv ho.2.1 k4,λh=>?_⟩;rcases k7 b h with h|h|h
  ·exact ho.2.2 h
  ·omega
  exact(Eo i hi b hb).2 h
 ·rcases k7 b hb with h|h
  ·exact gD b h
  simp_all
 refine⟨k1.trans dB.os,k2.trans dB.tape,k3.trans dB.output,acX cM k4,λk hk hg=>?_⟩;rw[k5 k (adv hk cM) λh=>?_]
 ·exact dB.block k hk hg
 rcases(hc.own _ k h).1 with h|h
 ·omega
 exact hg h
def Q0{K:Act->World->Prop}{Q:Exit->Act->World->Prop}(hG:ky P V w0)(h:Inv N V w0 S0 σ a w)(o:Oper)(bt:gj N o=true){res:Ask}{ms:List Mv}{mE:List Ob}(hm:kz P σ o res=some (ms,mE))(hr:Mv.runs σ ms=some σ')
 (hs:∀o∈mE,o.ok P)(hK:∀a' w',Inv N V w0 S0 σ' a' w'->K a' w'):Oper.WE V.rd P o a w K Q:=by
 cases res with
 |SW r=>
  simp only[kz]at hm;split at hm
  ·rename_i ms' amc h1;cases hm;exact Q2 hG h o bt h1 hr (λob hob=>hs (.call ob)<|List.mem_map_of_mem hob) hK
  simp at hm
 |refs out r=>
  simp only[kz]at hm;split at hm<;>try(simp at hm;done)
  rename_i c bU;split at hm<;>try(simp at hm;done)
  rename_i f hc;unfold gj at bt;rw[acd,bU]at bt;obtain⟨hd,bt⟩:=bt;simp only[hc,acd]at bt;obtain⟨g,p,q,e1,e2⟩:=AQ hG h (d:=o.dst) (λx hx=>by rw[hx]at hd;simpa using hd) f bt.2 c.args.toList bt.1 hm hr hs;have hx:execOp a.eval o=callFunc g (p++(c.args.toList.map a.eval).toArray++q):=by
   have:(c.args.toList.map a.eval).toArray=c.args.map a.eval:=by apply adK;simp
   simp only[execOp,bU,Go.resolve,hc,Deferred.ofValue,e1,this];rfl
  refine Oper.oT (by simp[bU]) ?_;rw[hx];exact e2 _ o a K Q λv w' hi=>hK _ _ hi
 |lR=>
  simp only[kz]at hm;split at hm<;>try(simp at hm;done)
  rename_i d eh;split at hm<;>try(simp at hm;done)
  rename_i t x l hh m bU;split at hm<;>try(simp at hm;done)
  split at hm<;>try(simp at hm;done)
  rename_i ms' hw;cases hm;unfold gj at bt;rw[acd,bU]at bt;obtain⟨hd,bt⟩:=bt;simp only[eh,decide_eq_true_eq]at hd;simp only[acd,Option.all_eq_true,ag5,Option.isNone_iff_eq_none]at bt;exact rR eh (by simp only[execOp,bU];rfl) (Ma h hd x l hh bt.1.1.1.1 bt.1.1.1.2 bt.1.1.2 hw hr) hK
 |Sx J' b=>
  simp only[kz]at hm;split at hm<;>try(simp at hm;done)
  rename_i c bU;split at hm<;>try(simp at hm;done)
  rename_i f hc;split at hm<;>try(simp at hm;done)
  rename_i C hC;split at hm<;>try(simp at hm;done)
  rename_i J hJ;split at hm<;>try(simp at hm;done)
  rename_i ys oy;cases hm;unfold gj at bt;rw[acd,bU]at bt;obtain⟨hd,bt⟩:=bt;simp only[hc,acd]at bt;obtain⟨S,F,gw,ha,jx,jn,gD,dB⟩:=h;have wZ:(resolve σ f).cont=some (.pv C):=by unfold bM.cont;rw[hC]
  obtain⟨F1,e1,-⟩:=aQ gw f bt.2 wZ;simp only[Rel]at e1;have eH:=oQ gw c.args.toList bt.1 oy;obtain⟨l,hv,hy⟩:=hs (.Sx C J J' ys b) (by simp) _ e1.1;have gM:pk.here J w S (F 1000000):=by have:=gw.rel 1000000;unfold ak at this;rw[hJ]at this;exact this
  obtain⟨fn,tmps,assign,body,q1,q2⟩:=hy V.rd w S (F 1000000) _ (hG.Ke dB) (hG.cu.mono λb hb=>(gw.own _ b hb).1) gM (gw.nodup _) (λb hb=>(gw.own _ b hb).2) gw.shr eH;have hx:(execOp a.eval o).run P w=.ok (.round l fn tmps assign body) w:=by
   have:(c.args.toList.map a.eval).toArray=c.args.map a.eval:=by apply adK;simp
   rw[this]at q1;simp only[execOp,bU,Go.resolve,hc,Deferred.ofValue,hv];simp only[Sem.run_bind,Sem.run_pure,Result.andThen_ok];have e2:invoke (.fn (.yield l) #[]) (#[]++Array.map a.eval c.args)=Instr.yield l (Array.map a.eval c.args):=by simp[invoke]
   rw[e2];exact q1
  refine Oper.oT (by simp[bU]) ?_;rw[hx,Oper.uponIn_round];refine⟨(λh=>by cases h),q2.mono ?_⟩;rintro e w'⟨rfl,S',F',k1,k2,k3,k4,k5,k6,k7,k8,k9,k10,Wr⟩;have hi:=Inv.yielded (J':=J') gw ha jx jn gD dB hJ k1 k2 k3 k4 k5 k6 k7 k8 k9 k10 Wr;show K (a.put o.dst<|.bool b) w';cases eh:o.dst with
  |none=>rw[eh]at hr;simp only[cK,Mv.runs,Mv.run,abr]at hr;subst hr;exact hK _ _ hi
  |some d=>rw[eh]at hr hd;simp only[cK,agL,afG,Mv.runs,Mv.run]at hr;cases hr;refine hK _ _ (hi.make (M:=[]) (by simpa using hd) (Below.refl _ _) λS F _=>⟨[],by simp[Rel,scalar],by simp,by simp⟩)
 |TR J' r=>
  simp only[kz]at hm;split at hm<;>try(simp at hm;done)
  rename_i c bU;split at hm<;>try(simp at hm;done)
  rename_i f hc;split at hm<;>try(simp at hm;done)
  rename_i x xs eH;split at hm<;>try(simp at hm;done)
  rename_i C hC;split at hm<;>try(simp at hm;done)
  rename_i g hf;split at hm<;>try(simp at hm;done)
  rename_i J hJ;split at hm<;>try(simp at hm;done)
  rename_i ys oy;cases hm;unfold gj at bt;rw[acd,bU]at bt;obtain⟨hd,bt⟩:=bt;simp only[hc,eH,adl,acd]at bt;obtain⟨S,F,gw,ha,jx,jn,gD,dB⟩:=h;have wZ:(resolve σ x).cont=some (.pv C):=by unfold bM.cont;rw[hC]
  obtain⟨F1,e1,-⟩:=aQ gw x bt.1.1 wZ;simp only[Rel]at e1;have mI:=oQ gw xs bt.1.2 oy;obtain⟨Ff,q1,-⟩:=aQ gw f bt.2 hf;simp only[Rel]at q1;obtain⟨af,cf,G1,G2,qe,qa,qc,-⟩:=q1;have haf:af=#[]:=by simp only[Cells]at qa;apply adK;simpa using qa.1
  have ab2:cf=#[]:=by simp only[Cells]at qc;apply adK;simpa using qc.1
  subst haf ab2;have gM:pk.here J w S (F 1000000):=by have:=gw.rel 1000000;unfold ak at this;rw[hJ]at this;exact this
  have Ay:=hs (.TR g C J J' ys r) (by simp) _ e1.1 w S (F 1000000) _ (hG.Ke dB) (hG.cu.mono λb hb=>(gw.own _ b hb).1) gM (gw.nodup _) (λb hb=>(gw.own _ b hb).2) gw.shr mI;have hx:execOp a.eval o=callFunc g (a.eval x::xs.map a.eval).toArray:=by
   have:(c.args.toList.map a.eval).toArray=c.args.map a.eval:=by apply adK;simp
   rw[eH,ado]at this;simp only[execOp,bU,Go.resolve,hc,Deferred.ofValue,qe,this];simp[invoke]
  refine Oper.oT (by simp[bU]) ?_;rw[hx];refine Ay _ o a K Q λv w' hq=>?_;obtain⟨S',F',k1,k2,k3,k4,k5,k6,k7,k8,k9,k10,Wr,k12⟩:=hq;have hi:=Inv.yielded (J':=J') gw ha jx jn gD dB hJ k1 k2 k3 k4 k5 k6 k7 k8 k9 k10 Wr;show K (a.put o.dst v) w';cases eh:o.dst with
  |none=>rw[eh]at hr;simp only[cK,Mv.runs,Mv.run,abr]at hr;subst hr;exact hK _ _ hi
  |some d=>rw[eh]at hr hd;simp only[cK,agL,afG,Mv.runs,Mv.run]at hr;cases hr;refine hK _ _ (hi.make (M:=[]) (by simpa using hd) (Below.refl _ _) λS F _=>⟨[],k12 _ _,by simp,by simp⟩)
 |mkc=>
  simp only[kz]at hm;split at hm<;>try(simp at hm;done)
  rename_i d eh;split at hm<;>try(simp at hm;done)
  rename_i g first ba bU
  split at hm<;>try(simp at hm;done)
  rename_i Er;split at hm<;>try(simp at hm;done)
  rename_i ts Wu;split at hm<;>try(simp at hm;done)
  rename_i dc;cases hm;have HM:∀t∈ts,t≠d:=by simpa using dc
  unfold gj at bt;rw[acd,bU]at bt;obtain⟨hd,bt⟩:=bt;simp only[eh,decide_eq_true_eq]at hd;simp only[acd]at bt;refine rR (s:=Instr.makeFunc (.func g) (first.map a.eval)<|ba.map a.eval) eh (by simp only[execOp,bU]) ?_ hK;simp only[Mv.bR,abr]at hr;subst hr;have e1:first.map a.eval=#[]:=by apply adK;simp[Er]
  have e2:ba.map a.eval=(ts.map λt=>tv V a t).toArray:=by apply adK;rw[Array.toList_map,vV (V:=V) Wu bt.2]
  refine⟨.func (.func g) #[] (ts.map λt=>tv V a t).toArray,w,by rw[e1,e2];rfl,h.put hd λS F hc=>?_⟩;unfold ak;simp only[aA];refine⟨ao,λq hq=>?_,λ_=>?_⟩
  ·obtain⟨t,ht,rfl⟩:=ac0.1 hq;rw[ai _ _<|HM t ht];exact abZ _
  rw[agN]
  congr 2
  exact adE λt ht=>by simp only[Function.comp];rw[ai _ _<|HM t ht]
 |fI out r=>
  simp only[kz]at hm;split at hm<;>try(simp at hm;done)
  rename_i c bU;split at hm<;>try(simp at hm;done)
  rename_i t hc;split at hm<;>try(simp at hm;done)
  rename_i g ba cC;split at hm<;>try(simp at hm;done)
  rename_i jX;unfold gj at bt;rw[acd,bU]at bt;obtain⟨hd,bt⟩:=bt;simp only[hc,acd]at bt;simp only[ade,acd,decide_eq_true_eq,beq_iff_eq]at jX;have wW:a.eval (.tmp t)=.func (.func g) #[] (ba.map λq=>tv V a q.1).toArray:=by obtain⟨S,F,gw,-⟩:=h;rw[iy V a<|fC bt.2];have:=gw.rel t;unfold ak at this;rw[cC]at this;exact this.2.2 λq hq=>(jX q hq).2
  have jj:(c.args.toList++ba.map λq=>Operand.tmp q.1).all aI=true:=by rw[List.all_append,bt.1,adx,ade];intro x hx;obtain⟨q,hq,rfl⟩:=ac0.1 hx;simpa[aI]using(jX q hq).1.1
  have hm2:uI o.dst (resolve σ<|.func g) ((c.args.toList++ba.map λq=>Operand.tmp q.1).map<|resolve σ) out r=some (ms,mE):=by rw[ac9,agN];exact hm
  obtain⟨g',p,q,e1,e2⟩:=AQ hG h (d:=o.dst) (λx hx=>by rw[hx]at hd;simpa using hd) (.func g) rfl _ jj hm2 hr hs;have YK:g=g'/\#[]=p/\#[]=q:=by have:Value.func (.func g) #[] #[]=.func (.func g') p q:=e1;simpa using this
  obtain⟨rfl,rfl,rfl⟩:=YK;have hcv:ba.map (λq=>a.eval<|.tmp q.1)=ba.map λq=>tv V a q.1:=adE λq hq=>iy V a (jX q hq).1.1;have hx:execOp a.eval o=callFunc g (#[]++((c.args.toList++ba.map λq=>Operand.tmp q.1).map a.eval).toArray++#[]):=by
   have e3:((c.args.toList++ba.map λq=>Operand.tmp q.1).map a.eval).toArray=c.args.map a.eval++(ba.map λq=>tv V a q.1).toArray:=by apply adK;rw[ac9,agN];simp only[Array.toList_append,Array.toList_map];rw[<-hcv];rfl
   rw[e3];simp only[execOp,bU,Go.resolve,hc,Deferred.ofValue,wW];simp[invoke]
  refine Oper.oT (by simp[bU]) ?_;rw[hx];exact e2 _ o a K Q λv w' hi=>hK _ _ hi
 |ext out r=>
  simp only[kz]at hm;split at hm<;>try(simp at hm;done)
  rename_i jj
  replace jj:=(acd _ _▸(YF jj).1:_/\_).1
  split at hm<;>try(simp at hm;done)
  rename_i ms' H ys hl;cases hm;unfold O0 at hl;split at hl<;>try(simp at hl;done)
  rename_i Qm oy;split at hl<;>try(simp at hl;done)
  rename_i iJ;simp only[abr,ac3]at hl;obtain⟨rfl,rfl,rfl⟩:=hl;have hd:∀x,o.dst=some x->x<N:=by unfold gj at bt;rw[acd]at bt;intro x hx;have:=bt.1;rw[hx]at this;simpa using this
  have hE:=CI (D:=Ext P o) (λvs w R R' h1 h2=>Ext.mono h1 h2) (first:=[]) (captured:=[]) (af:=#[]) (cf:=#[]) hG h hd o.op.operands.toList jj (λS F hc=>by simp[Cells]) oy iJ hr (by have:=hs (.ext o ((du []<|o.op.operands.toList.map<|resolve σ).map (·.2)) Qm out r) (by simp);rw[afG,adw];exactλw S V vs F hl _ hc=>this w S V vs F hl hc)
  obtain⟨nx,v,w',k1,k2,k3⟩:=hE a.eval (by simp);rcases k2 with rfl|⟨rfl,eh⟩
  ·exact gH k1<|hK _ _ k3
  refine Oper.oT (λc hc=>?_) (by rw[k1,Oper.uponIn_skip];rw[eh]at k3⊢;exact hK _ _ k3);simp only[execOp,hc]at k1;cases hz:(Go.resolve a.eval c o.type).run P w<;>simp[hz]at k1
 |Wo y=>
  simp only[kz]at hm;split at hm<;>try(simp at hm;done)
  rename_i t m x ok bU;split at hm<;>try(simp at hm;done)
  rename_i K0 k h1 h2;split at hm<;>try(simp at hm;done)
  rename_i gu;simp only[acd]at gu;simp only[abr,ac3]at hm;obtain⟨rfl,rfl⟩:=hm;unfold gj at bt;rw[acd,bU]at bt;obtain⟨hd,bt⟩:=bt;simp only[acd]at bt;obtain⟨v,hv⟩:∃v,(Instr.lookup t (a.eval m) (a.eval x) ok).run P w=.ok v w:=by obtain⟨S,F,gw,-⟩:=h;obtain⟨F1,e1,-⟩:=aQ gw m bt.1 h1;obtain⟨F2,e2,-⟩:=aQ gw x bt.2 h2;rw[Rel.aF _ e2 gu.1]at e2;simp only[Rel]at e1;obtain⟨b,o',k1,k2,k3,-⟩:=e1;obtain⟨v,hv,-⟩:=hs (.Wo t ok K0 k y) (by simp) w S b o' _ k2 k3 e2;exact⟨v,by rw[k1];exact hv⟩
  have fK:∀S F,aS S (cu V w0) σ (tv V a) w F->Rel w S y v []:=by intro S F gw;obtain⟨F1,e1,-⟩:=aQ gw m bt.1 h1;obtain⟨F2,e2,-⟩:=aQ gw x bt.2 h2;rw[Rel.aF _ e2 gu.1]at e2;simp only[Rel]at e1;obtain⟨b,o',k1,k2,k3,-⟩:=e1;obtain⟨v',hv',rH⟩:=hs (.Wo t ok K0 k y) (by simp) w S b o' _ k2 k3 e2;rw[k1,hv']at hv;simp only[Result.ok.injEq]at hv;rw[<-hv.1];exact rH
  refine gH (v:=v) (w':=w) ?_ ?_
  ·simp only[execOp,bU];simp[hv]
  cases eh:o.dst with
  |none=>rw[eh]at hr;simp only[cK,Mv.runs,abr]at hr;subst hr;exact hK _ _ h
  |some d=>rw[eh]at hr hd;simp only[cK,afG,jf,abr]at hr;subst hr;exact hK _ _ (h.make (M:=[]) (by simpa using hd) (Below.refl _ _) λS F gw=>⟨[],fK S F gw,by simp,by simp⟩)
 |Ts r=>
  simp only[kz]at hm;split at hm<;>try(simp at hm;done)
  rename_i c bU;split at hm<;>try(simp at hm;done)
  rename_i f hc;split at hm<;>try(simp at hm;done)
  rename_i x xs eH;split at hm<;>try(simp at hm;done)
  rename_i g hf;split at hm<;>try(simp at hm;done)
  rename_i sz X hx;split at hm<;>try(simp at hm;done)
  rename_i ys oy;split at hm<;>try(simp at hm;done)
  rename_i gu;simp only[abr,ac3]at hm;obtain⟨rfl,rfl⟩:=hm;unfold gj at bt;rw[acd,bU]at bt;obtain⟨hd,bt⟩:=bt;simp only[hc,eH,adl,acd]at bt;obtain⟨S,F,gw,ha,jx,jn,gD,dB⟩:=h;obtain⟨F1,e1,e2,-⟩:=aQ gw x bt.1.1 hx;have hn:F1.Nodup:=by
   simp only[Rel]at e1;rcases e1 with⟨-,-,rfl⟩|⟨b,cap,cs,F',-,-,-,-,-,k,rfl⟩
   ·exact adn
   rw[cv.aF _ k gu];simp
  have mI:=oQ gw xs bt.1.2 oy;obtain⟨Ff,q1,-⟩:=aQ gw f bt.2 hf;simp only[Rel]at q1;obtain⟨af,cf,G1,G2,qe,qa,qc,-⟩:=q1;have haf:af=#[]:=by simp only[Cells]at qa;apply adK;simpa using qa.1
  have ab2:cf=#[]:=by simp only[Cells]at qc;apply adK;simpa using qc.1
  subst haf ab2;have Ay:=hs (.Ts g sz X ys r) (by simp) w S (a.eval x) _ F1 (hG.Ke dB) (hG.cu.mono λb hb=>by obtain⟨i,hi⟩:=e2 b hb;exact(gw.own i b hi).1) e1 hn (λb hb=>by obtain⟨i,hi⟩:=e2 b hb;exact(gw.own i b hi).2) gw.shr mI;have hex:execOp a.eval o=callFunc g (a.eval x::xs.map a.eval).toArray:=by
   have:(c.args.toList.map a.eval).toArray=c.args.map a.eval:=by apply adK;simp
   rw[eH,ado]at this;simp only[execOp,bU,Go.resolve,hc,Deferred.ofValue,qe,this];simp[invoke]
  refine Oper.oT (by simp[bU]) ?_;rw[hex];refine Ay _ o a K Q λv w' hq=>?_;obtain⟨S',F',k1,k2,k3,k4,k5,k6,k7⟩:=hq;exact hK _ _ (Inv.end (λy hy=>by rw[hy]at hd;simpa using hd) ha jx gw k1 dB k2 k3 k4 jn gD k5 k6 k7 hr)
 |Sn y=>
  simp only[kz]at hm;split at hm<;>try(simp at hm;done)
  rename_i t x bU;split at hm<;>try(simp at hm;done)
  rename_i C hC;split at hm<;>try(simp at hm;done)
  rename_i J hJ;split at hm<;>try(simp at hm;done)
  simp only[abr,ac3]at hm;obtain⟨rfl,rfl⟩:=hm;unfold gj at bt;rw[acd,bU]at bt;obtain⟨hd,bt⟩:=bt;have wZ:(resolve σ x).cont=some (.pv C):=by unfold bM.cont;rw[hC]
  have gM:∀S F,aS S (cu V w0) σ (tv V a) w F->C (a.eval x)/\pk.here J w S (F 1000000):=λS F gw=>by obtain⟨F1,e1,-⟩:=aQ gw x bt wZ;simp only[Rel]at e1;have:=gw.rel 1000000;unfold ak at this;rw[hJ]at this;exact⟨e1.1,this⟩
  obtain⟨v,hv⟩:∃v,(Instr.loadAt t<|a.eval x).run P w=.ok v w:=by obtain⟨S,F,gw,-⟩:=h;obtain⟨k1,k2⟩:=gM S F gw;obtain⟨v,hv,-⟩:=hs (.Sn t C J y) (by simp) w S _ _ k2 k1;exact⟨v,hv⟩
  have fK:∀S F,aS S (cu V w0) σ (tv V a) w F->Rel w S y v []:=by intro S F gw;obtain⟨k1,k2⟩:=gM S F gw;obtain⟨v',hv',rH⟩:=hs (.Sn t C J y) (by simp) w S _ _ k2 k1;rw[hv']at hv;simp only[Result.ok.injEq]at hv;rw[<-hv.1];exact rH
  refine gH (v:=v) (w':=w) ?_ ?_
  ·simp only[execOp,bU];simp[hv]
  cases eh:o.dst with
  |none=>rw[eh]at hr;simp only[cK,Mv.runs,abr]at hr;subst hr;exact hK _ _ h
  |some d=>rw[eh]at hr hd;simp only[cK,afG,jf,abr]at hr;subst hr;exact hK _ _<|h.make (M:=[]) (by simpa using hd) (Below.refl _ _) λS F gw=>⟨[],fK S F gw,by simp,by simp⟩
end
def kB(σ:St)(ops:Array Oper)(o:Oper):Option Bool:=
 match o.guard with
 |none=>some true
 |some (j,want)=>match(ops[j]?).bind (·.dst)with
  |some d=>match Nat.blt d 1000000 with
   |true=>match(σ d).av with
    |.v (.bool b)=>some (b==want)
    |.bX []=>some false
    |_=>none
   |false=>none
  |none=>none
def zV(o:Oper):List Mv:=match o.dst with|some d=>[.put d<|.bX []]|none=>[]
def eP(P:Program)(σ:St)(ops:Array Oper)(o:Oper)(res:Ask):Option (List Mv×List Ob):=
 match kB σ ops o with
 |some true=>kz P σ o res
 |some false=>some (zV o,[])
 |none=>none
def pvK(r:bM):List Nat:=
 match r.sl.av with
 |.pv _=>[1000000]
 |_=>[]
def HX(σ:St):Op->List Nat
 |.move (.tmp t)=>[t]
 |op=>op.operands.toList.flatMap<|rM σ
def KN(ops:Array Oper)(o:Oper):List Nat:=match o.guard with
 |some (j,_)=>((ops[j]?).bind (·.dst)).toList
 |none=>[]
def xc(σ:St)(ops:Array Oper)(o:Oper):List Nat:=
 HX σ o.op++KN ops o++(match o.op with
  |.call c=>match c.callee with
   |.value f=>pvK (resolve σ f)++(match c.args.toList with
     |x::_=>pvK (resolve σ x)
     |[]=>[])
   |_=>[]
  |.load _ x=>pvK (resolve σ x)
  |_=>[])
def Tv(σ:St)(o:Oper):Option Nat:=match o.op with
 |.call ⟨.builtin .append,args,_⟩=>match args.toList with
  |[.tmp t,_]=>match(σ t).av with
   |.bA r _ _ (.deref::.idx _ _::_)=>match(resolve σ<|.tmp t).cont with
    |some (.list .own _ _)=>match o.dst with
     |some d=>if d=r then none else some r
     |none=>none
    |_=>none
   |_=>none
  |_=>none
 |_=>none
def ix(σ:St)(ops:Array Oper)(o:Oper):List Nat:=match vT σ o.op with
 |some (a,r)=>(if a=r then[]else[3*a])++(KN ops o).map (3* ·)++[3*r+1]
 |none=>(xc σ ops o).map (3* ·)++(match Tv σ o with
  |some r=>[3*r+2]
  |none=>[])
section
variable{P:Program}{N:Nat}{w0 w w':World}{V:Hid}{S S0 S':Nat->Prop}{B:Nat->Prop}{σ σ' τ:St}{a:Act}{F:Nat->List Nat}{K:Act->World->Prop}{Q:Exit->Act->World->Prop}{ops:Array Oper}{o:Oper}
def Q3{res:AV}(h:∀x∈o.op.operands.toList,resolve τ x=resolve σ x):A6 P τ o res=A6 P σ o res:=by
 have m1:∀(l:List Operand),(∀x∈l,resolve τ x=resolve σ x)->l.map (resolve τ)=l.map (resolve σ):=λl hl=>adE hl;have m2:∀(l:Option Operand),(∀x∈l,resolve τ x=resolve σ x)->l.map (resolve τ)=l.map (resolve σ):=λl hl=>by cases l<;>simp_all
 cases hd:o.dst with
 |none=>
  simp[A6,hd];cases bU:o.op<;>simp only[bU,Op.operands]at h⊢
  case store t a x=>simp at h;rw[h.1,h.2]
  case call c=>cases hc:c.callee<;>simp only[hc,Call.operands]at h⊢;simp at h;rw[h.1,m1 c.args.toList<|by simpa using h.2]
 |some d=>
  simp[A6,hd];cases bU:o.op<;>simp only[bU,Op.operands]at h⊢
  case slice t x l hh m=>simp at h;rw[h.1,m2 l λy hy=>h.2 y<|.inl hy,m2 hh λy hy=>h.2 y<|.inr<|.inl hy,m2 m λy hy=>h.2 y<|.inr<|.inr hy]
  case makeFunc f p q=>simp at h;rw[m1 p.toList λy hy=>h y<|.inl<|by simpa using hy,m1 q.toList λy hy=>h y<|.inr<|by simpa using hy]
  case build t ps=>simp at h;have:(ps.toList.map λp=>resolve τ p.2)=ps.toList.map λp=>resolve σ p.2:=adE λp hp=>h p.2 p.1 (by simpa using hp);rw[this]
  case buildSlice t n ps=>simp at h;have:(ps.toList.map λp=>resolve τ p.2)=ps.toList.map λp=>resolve σ p.2:=adE λp hp=>h p.2 p.1 (by simpa using hp);rw[this]
  case call c=>
   cases hc:c.callee<;>simp only[hc,Call.operands]at h⊢
   ·simp at h;rw[h.1,m1 c.args.toList<|by simpa using h.2]
   simp at h;rw[m1 c.args.toList<|by simpa using h]
  all_goals(first|rfl|(simp at h;simp[h]))
def zU:∀{xs:List Operand}{ts:List Nat},slotsOf xs=some ts->∀t∈ts,Operand.tmp t∈xs
 |[],ts,h,t,ht=>by simp[slotsOf]at h;subst h;cases ht
 |.tmp u::xs,ts,h,t,ht=>by
  simp[slotsOf]at h;split at h<;>try(cases h;done)
  rename_i ts' h1;cases h;rcases aci.1 ht with rfl|ht
  ·simp
  exact ah1 _ (zU h1 t ht)
 |.const _::_,ts,h,_,_=>by simp[slotsOf]at h
 |.func _::_,ts,h,_,_=>by simp[slotsOf]at h
 |.global _::_,ts,h,_,_=>by simp[slotsOf]at h
def Ja{a:Nat}(hz:∀s∈roots σ a,τ s=σ s):rC τ a=rC σ a:=by
 have ha:=hz a (by unfold roots;split<;>simp);unfold rC;rw[ha];cases cC:(σ a).av with
 |bA r g1 g2 p=>have hr:=hz r (by unfold roots;rw[cC];simp);simp[hr]
 |_=>rfl
def I9{op:Op}(hz:∀x∈op.operands.toList,∀s∈rM σ x,τ s=σ s):vT τ op=vT σ op:=by
 unfold vT;split
 ·rename_i t a;exact Ja λs hs=>hz (.tmp a) (by simp[Op.operands]) s hs
 rfl
def Q1{res:Ask}(hz:∀x∈o.op.operands.toList,∀s∈rM σ x,τ s=σ s)(h:∀x∈o.op.operands.toList,resolve τ x=resolve σ x)(hy:∀c f C,o.op=.call c->c.callee=.value f->(resolve σ f).sl.av=.pv C->τ 1000000=σ 1000000)
 (Rt:∀c f x xs C,o.op=.call c->c.callee=.value f->c.args.toList=x::xs->(resolve σ x).sl.av=.pv C->τ 1000000=σ 1000000)
 (hy3:∀t x C,o.op=.load t x->(resolve σ x).sl.av=.pv C->τ 1000000=σ 1000000):kz P τ o res=kz P σ o res:=by
 cases res with
 |SW r=>simp only[kz,Q3 h]
 |refs out r=>
  have m1:∀(l:List Operand),(∀x∈l,resolve τ x=resolve σ x)->l.map (resolve τ)=l.map (resolve σ):=λl hl=>adE hl;simp only[kz];cases bU:o.op<;>simp only[bU,Op.operands]at h⊢
  case call c=>cases hc:c.callee<;>simp only[hc,Call.operands]at h⊢;simp at h;rw[h.1,m1 c.args.toList<|by simpa using h.2]
 |lR=>
  have m2:∀(l:Option Operand),(∀x∈l,resolve τ x=resolve σ x)->l.map (resolve τ)=l.map (resolve σ):=λl hl=>by cases l<;>simp_all
  simp only[kz];cases o.dst with
  |none=>rfl
  |some d=>
   cases bU:o.op<;>simp only[bU,Op.operands]at h⊢
   case slice t x l hh m=>simp at h;rw[h.1,m2 l λy hy=>h.2 y<|.inl hy,m2 hh λy hy=>h.2 y<|.inr<|.inl hy]
 |Sx J' b=>
  have m1:∀(l:List Operand),(∀x∈l,resolve τ x=resolve σ x)->l.map (resolve τ)=l.map (resolve σ):=λl hl=>adE hl;simp only[kz];cases bU:o.op<;>simp only[bU,Op.operands]at h⊢
  case call c=>
   cases hc:c.callee<;>simp only[hc,Call.operands]at h⊢
   case value f=>
    simp at h;rw[h.1,m1 c.args.toList<|by simpa using h.2];cases hC:(resolve σ f).sl.av<;>simp only
    case pv C=>rw[hy c f C bU hc hC]
 |mkc=>
  simp only[kz];cases o.dst with
  |none=>rfl
  |some d=>
   cases bU:o.op<;>simp only[bU,Op.operands]at hz⊢
   case makeFunc f p q=>
    cases f<;>simp only;cases p.toList<;>simp only;cases hs:slotsOf q.toList<;>simp only;rename_i g ts;have:(ts.map λt=>(t,(τ t).g1))=ts.map λt=>(t,(σ t).g1):=adE λt ht=>by have:=zU hs t ht;rw[hz (.tmp t) (by simp;right;simpa using this) t<|by simp only[rM,roots];split<;>simp]
    rw[this]
 |fI out r=>
  simp only[kz];cases bU:o.op<;>simp only[bU,Op.operands]at hz h⊢
  case call c=>
   cases hc:c.callee<;>simp only[hc,Call.operands]at hz h⊢
   case value f=>
    cases f with
    |tmp t=>
     have et:τ t=σ t:=hz (.tmp t) (by simp) t (by simp only[rM,roots];split<;>simp);simp only[et];cases cC:(σ t).av<;>simp only
     case fI g ba=>
      have eq:∀q∈ba,τ q.1=σ q.1:=λq hq=>hz (.tmp t) (by simp) q.1 (by simp only[rM,roots,cC];simp only[aci,ac0];exact .inr ⟨q,hq,rfl⟩);have e1:ba.all (λq=>decide (q.1<1000000)&&(τ q.1).av.plain&&(τ q.1).g1==q.2)=ba.all (λq=>decide (q.1<1000000)&&(σ q.1).av.plain&&(σ q.1).g1==q.2):=by rw[Bool.eq_iff_iff,ade,ade];exact⟨λk q hq=>by have:=k q hq;rwa[eq q hq]at this,λk q hq=>by have:=k q hq;rwa[eq q hq]⟩
      rw[e1];split
      ·rename_i Pv;simp only[ade,acd]at Pv;have m1:c.args.toList.map (resolve τ)=c.args.toList.map (resolve σ):=adE λx hx=>h x (by simp;right;simpa using hx);have m2:(ba.map λq=>resolve τ<|.tmp q.1)=ba.map λq=>resolve σ (.tmp q.1):=adE λq hq=>by
        refine resolve_congr _ λs hs=>?_;have iD:=(Pv q hq).1.2;have:s=q.1:=by
         simp only[rM,roots]at hs;split at hs
         ·rename_i e;rw[e]at iD;simp[AV.plain]at iD
         ·rename_i e;rw[e]at iD;simp[AV.plain]at iD
         ·rename_i e;rw[e]at iD;simp[AV.plain]at iD
         simpa using hs
        rw[this];exact eq q hq
       rw[m1,m2];rfl
      rfl
    |_=>rfl
 |TR J' r=>
  have m1:∀(l:List Operand),(∀x∈l,resolve τ x=resolve σ x)->l.map (resolve τ)=l.map (resolve σ):=λl hl=>adE hl;simp only[kz];cases bU:o.op<;>simp only[bU,Op.operands]at h⊢
  case call c=>
   cases hc:c.callee<;>simp only[hc,Call.operands]at h⊢
   case value f=>
    simp at h;cases eH:c.args.toList with
    |nil=>rfl
    |cons x xs=>
     have hx:∀y∈x::xs,resolve τ y=resolve σ y:=λy hy=>h.2 y (by rw[<-eH]at hy;simpa using hy);simp only[h.1,hx x<|by simp,m1 xs λy hy=>hx y<|by simp[hy]];cases hC:(resolve σ x).sl.av<;>simp only
     case pv C=>rw[Rt c f x xs C bU hc eH hC]
 |Ts r=>
  have m1:∀(l:List Operand),(∀x∈l,resolve τ x=resolve σ x)->l.map (resolve τ)=l.map (resolve σ):=λl hl=>adE hl;simp only[kz];cases bU:o.op<;>simp only[bU,Op.operands]at h⊢
  case call c=>
   cases hc:c.callee<;>simp only[hc,Call.operands]at h⊢
   case value f=>
    simp at h;cases eH:c.args.toList with
    |nil=>rfl
    |cons x xs=>have hx:∀y∈x::xs,resolve τ y=resolve σ y:=λy hy=>h.2 y (by rw[<-eH]at hy;simpa using hy);simp only[h.1,hx x<|by simp,m1 xs λy hy=>hx y<|by simp[hy]]
 |Sn y=>
  simp only[kz];cases bU:o.op<;>simp only[bU,Op.operands]at h⊢
  case load t x=>
   simp at h;rw[h];cases hC:(resolve σ x).sl.av<;>simp only
   case pv C=>rw[hy3 t x C bU hC]
 |ext out r=>
  have m1:o.op.operands.toList.map (resolve τ)=o.op.operands.toList.map (resolve σ):=adE h;have m2:rW τ o.op=rW σ o.op:=by unfold rW;rw[I9 hz]
  simp only[kz,m1,m2]
 |Wo y=>
  simp only[kz];cases bU:o.op<;>simp only[bU,Op.operands]at h⊢
  case lookup t m x ok=>simp at h;rw[h.1,h.2]
def Hy{t d:Nat}(h:τ t=σ t):c6 d (resolve τ<|.tmp t)=c6 d (resolve σ<|.tmp t):=by simp[resolve,bM.of,h];cases(σ t).av<;>rfl
def TC{res:Ask}{t:Nat}(ho:o.op=.move (.tmp t))(h:τ t=σ t):kz P τ o res=kz P σ o res:=by
 have e:∀d,c6 d (resolve τ<|.tmp t)=c6 d (resolve σ<|.tmp t):=λd=>Hy h;cases res with
 |SW r=>
  simp[kz,A6,ho];cases o.dst with
  |none=>rfl
  |some d=>simp[e]
 |ext out r=>simp[kz,ho,rW,PH]
 |_=>simp[kz,ho]
def zL(h:∀s∈KN ops o,τ s=σ s):kB τ ops o=kB σ ops o:=by
 unfold kB;split
 ·rfl
 rename_i j want hg;cases hd:(ops[j]?).bind (·.dst)with
 |none=>rfl
 |some d=>simp only;rw[h d<|by unfold KN;simp[hg,hd]]
def Hj{res:Ask}(h:∀s∈xc σ ops o,τ s=σ s):eP P τ ops o res=eP P σ ops o res:=by
 have h1:kz P τ o res=kz P σ o res:=by
  by_cases hm:∃t,o.op=.move (.tmp t)
  ·obtain⟨t,ht⟩:=hm;exact TC ht<|h t<|by unfold xc;rw[ht];simp[HX]
  have ef:HX σ o.op=o.op.operands.toList.flatMap (rM σ):=by
   unfold HX;split
   ·rename_i t ht;simp_all
   rfl
  exact Q1 (λx hx s hs=>h s (by
   unfold xc;rw[ef,ac5,ac5,adL];exact .inl<|.inl ⟨x,hx,hs⟩)) (λx hx=>resolve_congr x λs hs=>h s (by
   unfold xc;rw[ef,ac5,ac5,adL];exact .inl<|.inl ⟨x,hx,hs⟩)) (λc f C e1 e2 e3=>h _ (by
   unfold xc;rw[e1];simp[e2,pvK,e3])) (λc f x xs C e1 e2 e3 e4=>h _ (by
   unfold xc;rw[e1];simp[e2,pvK,e3,e4])) (λt x C e1 e2=>h _ (by
   unfold xc;rw[e1];simp[pvK,e2]))
 unfold eP;rw[zL λs hs=>h s<|by unfold xc;rw[ac5,ac5];exact .inl<|.inr hs,h1]
def JB{x:AV}(h:MI x=true):∃o sz xs,x=.box o (.list .own sz xs):=by
 unfold MI at h;split at h
 ·simp_all
 cases h
def Pt{x y:Sl}{o:Bool}{sz:Nat}{xs:List AV}(hx:x.av=.box o (.list .own sz xs))(h:sd y=sd x):(∃ys,y.av=.box o (.list .own sz ys))/\y.g1=x.g1/\y.g2=x.g2:=by
 have e1:sd x=⟨.box o<|.list .own sz [],x.g1,x.g2⟩:=by unfold sd;rw[hx]
 rw[e1]at h;unfold sd at h;split at h
 ·rename_i o' f' gC ys e;simp at h;simp_all
 rename_i dc;simp_all
def vc{d t a r:Nat}(hs:rC σ a=some (a,r))(ha:a≠r->τ a=σ a)(hr:sd (τ r)=sd (σ r)):sP P d t (resolve τ<|.tmp a)=sP P d t (resolve σ<|.tmp a)/\rC τ a=some (a,r):=by
 have bt:∀(ti:TI)(f:Fl)(sz:Nat)(xs ys:List AV),fits ti (.list f sz xs)=fits ti (.list f sz ys):=λ_ _ _ _ _=>rfl;unfold rC at hs;split at hs
 ·rename_i r' g1 g2 p cC;split at hs
  ·rename_i hc;obtain⟨rfl,hb,hg⟩:=hc;simp[true_and]at hs;subst hs;obtain⟨o,sz,xs,hx⟩:=JB hb;obtain⟨⟨ys,hy⟩,q1,q2⟩:=Pt hx hr;have dc:a≠r':=by rintro rfl;rw[hx]at cC;cases cC
   have hta:=ha dc;constructor
   ·unfold sP;cases gR:bY P t with
    |none=>rfl
    |some ti=>simp[resolve,bM.of,hta,cC,bM.addr,bM.cont,hx,hy,q1,q2,hg,Qu,bg,yC,AV.plain,AV.aF,AV.cell,bt ti .own sz ys xs,if_true]
   unfold rC;rw[hta,cC];simp[hy,q1,hg,MI,if_true]
  cases hs
 rename_i x dc;split at hs
 ·rename_i hb;simp[true_and]at hs;subst hs;obtain⟨o,sz,xs,hx⟩:=JB hb;obtain⟨⟨ys,hy⟩,q1,q2⟩:=Pt hx hr;constructor
  ·unfold sP;cases gR:bY P t with
   |none=>rfl
   |some ti=>simp[resolve,bM.of,hx,hy,bM.addr,q1,q2,bg,AV.aF,AV.cell,bt ti .own sz ys xs,if_true]
  unfold rC;rw[hy];simp[MI]
 cases hs
def Jx{res:Ask}(h1:∀s,3*s∈ix σ ops o->τ s=σ s)(h2:∀r,3*r+1∈ix σ ops o->sd (τ r)=sd (σ r)):eP P τ ops o res=eP P σ ops o res:=by
 cases hs:vT σ o.op with
 |none=>refine Hj λs Nk=>h1 s ?_;unfold ix;rw[hs];exact List.mem_append_left _ (ac0.2 ⟨s,Nk,rfl⟩)
 |some q=>
  obtain⟨a,r⟩:=q;have hf:ix σ ops o=(if a=r then[]else[3*a])++(KN ops o).map (3* ·)++[3*r+1]:=by unfold ix;rw[hs]
  have hs0:=hs;unfold vT at hs;split at hs
  ·rename_i t a' bU;have e:a'=a:=by
    unfold rC at hs;split at hs<;>split at hs<;>simp at hs<;>exact hs.1
   subst e;have ha:a'≠r->τ a'=σ a':=λdc=>h1 a' (by rw[hf,if_neg dc];simp);have hr:sd (τ r)=sd (σ r):=h2 r (by rw[hf];simp);have hw:kB τ ops o=kB σ ops o:=zL λs Nk=>h1 s (by rw[hf];simp only[ac5,ac0];exact .inl<|.inr ⟨s,Nk,rfl⟩);have hx:kz P τ o res=kz P σ o res:=by
    cases res with
    |SW r'=>
     simp[kz,A6,bU];cases o.dst with
     |none=>rfl
     |some d=>simp[(vc (P:=P) (d:=d) (t:=t) hs ha hr).1]
    |ext out r'=>
     have k1:rW σ o.op=false:=by unfold rW;rw[hs0];split<;>rfl
     have k2:vT τ o.op=some (a',r):=by rw[bU];exact(vc (P:=P) (d:=0) (t:=t) hs ha hr).2
     have k3:rW τ o.op=false:=by unfold rW;rw[k2];split<;>rfl
     simp only[kz,k1,k3];rfl
    |Sn y=>
     have gen:∀ρ:St,rC ρ a'=some (a',r)->kz P ρ o (.Sn y)=none:=by
      intro ρ hρ;have hn:∀C,(resolve ρ<|.tmp a').sl.av≠.pv C:=by
       intro C hC;have e:(ρ a').av=.pv C:=by simp[resolve,bM.of]at hC;split at hC<;>first|exact hC|(simp[Sl.none]at hC)
       unfold rC at hρ;rw[e]at hρ;simp[MI]at hρ
      simp[kz,bU]
     rw[gen σ hs,gen τ (vc (P:=P) (d:=0) (t:=t) hs ha hr).2]
    |_=>simp[kz,bU]
   unfold eP;rw[hw,hx]
  cases hs
def LN{d t r g1 g2:Nat}{p:Path}{x y:bM}{ms:List Mv}{sz:Nat}{xs:List AV}(h:kX P d t x y=some ms)(cC:x.sl.av=.bA r g1 g2 p)(hc:x.cont=some (.list .own sz xs)):
 ∃My z,ms=[.take r d p,.make (d::My) d z]/\r∉My:=by
 unfold kX at h;split at h<;>try(cases h)
 split at h<;>try(cases h)
 split at h<;>try(cases h)
 split at h<;>try(cases h)
 simp only at h;split at h<;>try(cases h)
 rename_i My Pz;split at h<;>try(cases h)
 rw[hc]at h;simp only[cC]at h;split at h<;>try(cases h)
 split at h<;>try(cases h;done)
 rename_i hr;simp at h;exact⟨My,_,h.symm,hr⟩
def S9{i sz:Nat}{p:Path}{h x av:AV}(hs:dW x (.deref::.idx i sz::p) h=some av):∃xs ys,x=.box true (.list .own sz xs)/\av=.box true (.list .own sz ys):=by
 cases x with
 |box o X=>
  cases o with
  |false=>simp[dW]at hs
  |true=>
   simp[dW]at hs;obtain⟨X',h1,rfl⟩:=hs;cases X with
   |list f gC xs=>
    cases f with
    |own=>
     simp only at h1;split at h1
     ·rename_i e;simp[ab3]at h1;obtain⟨_,_,_,_,rfl⟩:=h1;simp_all
     cases h1
    |_=>simp at h1
   |_=>simp at h1
 |_=>simp[dW]at hs
def Qw{r d i sz:Nat}{p:Path}{M:List Nat}{z:AV}(dc:d≠r)(hM:r∉M)(hr:Mv.runs σ [.take r d<|.deref::.idx i sz::p,.make (d::M) d z]=some σ'):sd (σ' r)=sd (σ r):=by
 simp[Mv.runs,Mv.run]at hr;rw[if_neg dc]at hr;split at hr<;>try(cases hr;done)
 rename_i σ1 h1;split at h1<;>try(cases h1)
 rename_i y hg;split at h1<;>try(cases h1;done)
 rename_i av hs;simp at h1 hr;subst h1;subst hr;have e1:made (gQ (gQ σ r<|jr (σ r) (.deref::.idx i sz::p) av) d ⟨y,(σ d).g1+1,(σ d).g2⟩) (d::M) d z r=jr (σ r) (.deref::.idx i sz::p) av:=by
  have h2:r∉d::M:=by simp;exact⟨λe=>dc e.symm,hM⟩
  simp[made,h2];rw[if_neg λe=>dc e.symm,ai _ _ λe=>dc e.symm,aA]
 rw[e1];have e2:jr (σ r) (.deref::.idx i sz::p) av=⟨av,(σ r).g1,(σ r).g2⟩:=by unfold jr;rw[if_neg<|by simp]
 rw[e2];obtain⟨xs,ys,hx,rfl⟩:=S9 hs;unfold sd;rw[hx]
def Xo{res:Ask}{r:Nat}{ms:List Mv}{mE:List Ob}(hp:Tv σ o=some r)(hm:eP P σ ops o res=some (ms,mE))(hr:Mv.runs σ ms=some σ'):sd (σ' r)=sd (σ r):=by
 unfold Tv at hp;split at hp<;>try(cases hp)
 rename_i args ts bU;split at hp<;>try(cases hp)
 rename_i t y eH;split at hp<;>try(cases hp)
 rename_i r' g1 g2 i sz p cC;split at hp<;>try(cases hp)
 rename_i gC xs hc;split at hp<;>try(cases hp)
 rename_i d hd;split at hp<;>try(cases hp;done)
 rename_i dc;simp at hp;subst hp;unfold eP at hm;split at hm<;>try(cases hm;done)
 ·have mn:∃My z,ms=[.take r' d<|.deref::.idx i sz::p,.make (d::My) d z]/\r'∉My:=by
   cases res with
   |SW q=>
    simp[kz,A6,hd,bU,eH,afI]at hm;cases hb:j0 P d .append ts.toList [resolve σ<|.tmp t,resolve σ y]with
    |none=>rw[hb]at hm;simp[fM]at hm
    |some ms'=>
     rw[hb]at hm;obtain⟨rfl,-⟩:=hm;cases Wu:ts.toList with
     |nil=>rw[Wu]at hb;simp[j0]at hb
     |cons t1 l=>
      cases l with
      |nil=>rw[Wu]at hb;simp[j0]at hb
      |cons t2 l=>
       cases l with
       |cons _ _=>rw[Wu]at hb;simp[j0]at hb
       |nil=>
        rw[Wu]at hb;simp[j0]at hb;split at hb<;>try(cases hb)
        exact LN (g1:=g1) (g2:=g2) hb (by simp[resolve,bM.of,cC]) hc
   |ext out q=>
    have k:rW σ o.op=false:=by unfold rW PH;rw[bU];simp
    simp[kz,k]at hm
   |_=>simp[kz,bU,hd]at hm
  obtain⟨My,z,rfl,hM⟩:=mn;exact Qw dc hM hr
 cases hm;simp[zV,hd,Mv.bR]at hr;subst hr;rw[ai _ _ λe=>dc e.symm]
def zK(h:aS S B σ (tv V a) w F){b:Bool}(hw:kB σ ops o=some b):Region.wanted o (yielded ops a.tmps)=b:=by
 unfold kB at hw;unfold Region.wanted;split at hw
 ·rename_i hg;rw[hg];simpa using hw
 rename_i j want hg;rw[hg];simp only;split at hw
 ·rename_i d hd;unfold yielded;rw[hd];simp;have hr:=h.rel d;split at hw<;>try(cases hw)
  rename_i Yn;have Yn:=adk (show Nat.ble (d+1) 1000000=true from Yn);split at hw
  ·rename_i b' cC;rw[ak.aB<|by rw[cC];rfl,cC]at hr;have Wt:=hr.2.1;have:a.tmps[d]?=some (.bool b'):=by
    rw[vP V a<|.inl Yn]at Wt;by_cases cS:d<a.tmps.size
    ·rw[adC cS];simp[cS]at Wt;rw[Wt]
    simp[cS,undef]at Wt
   rw[this];simpa using hw
  ·rename_i cC;rw[ak.aB<|by rw[cC];rfl,cC]at hr;obtain⟨cs,e,o5,-⟩:=hr;have Wt:tv V a d=.tuple #[]:=by rw[e];simpa using o5
   cases hw;rw[vP V a<|.inl Yn]at Wt;by_cases cS:d<a.tmps.size
   ·rw[adC cS];simp[cS]at Wt;rw[Wt];simp
   rw[ag1<|Nat.le_of_not_lt cS];simp
  cases hw
 cases hw
def Cj(hG:ky P V w0)(h:Inv N V w0 S0 σ a w)(bt:gj N o=true){res:Ask}{ms:List Mv}{mE:List Ob}(hm:eP P σ ops o res=some (ms,mE))(hr:Mv.runs σ ms=some σ')
 (hs:∀o∈mE,o.ok P)(hK:∀a' w',Inv N V w0 S0 σ' a' w'->K a' w'):
 if Region.wanted o (yielded ops a.tmps)then Oper.WE V.rd P o a w K Q else K (a.put o.dst undef) w:=by
 obtain⟨S,F,hc,-⟩:=id h;unfold eP at hm;split at hm
 ·rename_i hw;rw[zK hc hw];exact Q0 hG h o bt hm hr hs hK
 ·rename_i hw;rw[zK hc hw];cases hm;unfold zV at hr;split at hr
  ·rename_i d hd;rw[hd];have hdN:d<N:=by
    unfold gj at bt;rw[acd,hd]at bt;simpa using bt.1
   simp[Mv.bR]at hr;subst hr;exact hK _ _ (h.iH hdN λS F _=>by simp[Rel,Cells,undef])
  rename_i hd;rw[hd];simp[Mv.runs]at hr;subst hr;exact hK _ _ h
 cases hm
end
section
variable{a:Act}{V:Hid}{N:Nat}{S0:Nat->Prop}{σ:St}{w w0:World}
def Marks(_V:Hid)(w0 w:World)(S:Nat->Prop)(F:Nat->List Nat)(ds:List Deferred):Prop:=ds.Nodup/\∀d∈ds,∃D,d={target:=.collected D,args:=#[]}/\w.heap[D]?=some (.deferred<|some [])/\w0.heap.size<=D/\¬S D/\∀i,D∉F i
def nk(N:Nat)(V:Hid)(w0:World)(S0:Nat->Prop)(σ:St)(a:Act)(w:World):Prop:=∃S F ds,aS S (cu V w0) σ (tv V a) w F/\a.tmps.size=N/\a.defers=ds++V.df/\(∀b,S0 b->S b)/\(∀b,S b->S0 b\/cu V w0 b)/\lP V w0 w/\Marks V w0 w S F ds
def Inv.x(h:Inv N V w0 S0 σ a w):nk N V w0 S0 σ a w:=by obtain⟨S,F,h1,h2,h3,h4,h5,h6⟩:=h;exact⟨S,F,[],h1,h2,h3,h4,h5,h6,adn,by simp⟩
def R0:Option Nat->Prop:=λr=>r=none
def R1:Option Nat->Prop:=λ_=>True
def AW(R:Option Nat->Prop)(P:Program)(N:Nat)(c:Code)(Q:Exit->St->Prop)(σ:St):Prop:=∀(V:Hid)(w0:World)(S0:Nat->Prop)(a:Act)(w:World),R V.rd/\ky P V w0->Inv N V w0 S0 σ a w->c.wpIn (FW V.rd) 0 P (λe a' w'=>∃σ',Q e σ'/\nk N V w0 S0 σ' a' w') a w
def Hid.VY(V:Hid)(F:Nat->List Nat)(ds:List Deferred):Hid:={v:=V.v,g:=λb=>∃i,b∈F i,rd:=V.rd,df:=ds}
def AW.x{R:Option Nat->Prop}{P:Program}{c:Code}{Q:Exit->St->Prop}(h:AW R P N c Q σ)(hR:R V.rd/\ky P V w0)(hi:nk N V w0 S0 σ a w):
 c.wpIn (FW V.rd) 0 P (λe a' w'=>∃σ',Q e σ'/\nk N V w0 S0 σ' a' w') a w:=by
 obtain⟨S,F,ds,hc,hN,jx,jn,gD,dB,hm0,hm⟩:=hi;have cM:=dB.size;have ZR:∀b,cu (V.VY F<|ds++V.df) w b->cu V w0 b:=by
  rintro b(hb|⟨i,hb⟩)
  ·exact .inl<|acX cM hb
  exact(hc.own i b hb).1
 have cS:∀d∈ds,∀D,d={target:=.collected D,args:=#[]}->D<w.heap.size/\¬S D/\(∀i,D∉F i)/\w.heap[D]?=some (.deferred<|some [])/\w0.heap.size<=D:=by intro d hd D e;obtain⟨D',e',k1,k2,k4,k5⟩:=hm d hd;rw[e]at e';simp at e';subst e';exact⟨(adW.1 k1).1,k4,k5,k1,k2⟩
 have gu:∀D,D<w.heap.size->(∀i,D∉F i)->¬cu (V.VY F<|ds++V.df) w D:=by
  rintro D h1 h3(hb|⟨i,hb⟩)
  ·omega
  exact h3 i hb
 refine wpIn_mono (h (V.VY F<|ds++V.df) w S a w ⟨hR.1,hR.2.Ke dB,hR.2.cu.mono λb⟨i,hb⟩=>(hc.own i b hb).1⟩ ⟨S,F,⟨hc.rel,hc.nodup,hc.di,λi b hb=>⟨.inr ⟨i,hb⟩,(hc.own i b hb).2⟩,hc.shr⟩,hN,jx,λ_ h=>h,λ_ h=>.inl h,lP.refl _ _⟩) ?_;rintro e a' w'⟨σ',hq,S',F',ds',kc,kN,kdf,XO,ks2,kb0,km0,km⟩;refine⟨σ',hq,S',F',ds'++ds,⟨kc.rel,kc.nodup,kc.di,λi b hb=>⟨ZR b (kc.own i b hb).1,(kc.own i b hb).2⟩,kc.shr⟩,kN,by rw[kdf,acV];rfl,λb hb=>XO b<|jn b hb,λb hb=>?_,?_,?_,?_⟩
 ·rcases ks2 b hb with hb|hb
  ·exact gD b hb
  simp_all
 ·refine⟨kb0.os.trans dB.os,kb0.tape.trans dB.tape,kb0.output.trans dB.output,acX cM kb0.size,λk hk hg=>?_⟩;rw[kb0.block k (adv hk cM) ?_]
  ·exact dB.block k hk hg
  rintro⟨i,hb⟩;rcases(hc.own i k hb).1 with h|h
  ·omega
  exact hg h
 ·refine acT.2 ⟨km0,hm0,λx hx y hy e=>?_⟩;subst e;obtain⟨D,e1,-,k2,-⟩:=km x hx;have:=(cS x hy D e1).1;omega
 intro d hd;rcases ac5.1 hd with hd|hd
 ·obtain⟨D,e1,k1,k2,k4,k5⟩:=km d hd;exact⟨D,e1,k1,acX cM k2,k4,k5⟩
 obtain⟨D,e1,-⟩:=hm d hd;obtain⟨l1,l3,l4,l5,l6⟩:=cS d hd D e1;have hn:=gu D l1 l4;refine⟨D,e1,?_,l6,λh=>?_,λi h=>hn (kc.own i D h).1⟩
 ·rw[kb0.block D l1 λh=>hn<|.inr h];exact l5
 rcases ks2 D h with h|h
 ·exact l3 h
 exact hn h
def Zg(P:Program)(ops:Array Oper):List Oper->St->(St->Prop)->Prop
 |[],σ,K=>K σ
 |o::rest,σ,K=>∃res ms mE σ',eP P σ ops o res=some (ms,mE)/\(∀ob∈mE,ob.ok P)/\Mv.runs σ ms=some σ'/\Zg P ops rest σ' K
def tl(P:Program)(ops:Array Oper):List Oper->St->List (List Nat×List Nat)->(List (List Nat×List Nat)->St->Prop)->Prop
 |[],σ,acc,K=>K acc.reverse σ
 |o::rest,σ,acc,K=>∃res ms mE σ',eP P σ ops o res=some (ms,mE)/\(∀ob∈mE,ob.ok P)/\Mv.runs σ ms=some σ'/\
   tl P ops rest σ' ((ix σ ops o,aU ms)::acc) K
def Cz(ms:List Nat)(o:Oper):Nat:=o.after.toList.foldl (λm e=>if Region.binds .any e then m|||(ms.getD e.on 0)|||(1<<<e.on)else m) 0
def sO:List Oper->List Nat->List Nat
 |[],ms=>ms
 |o::rest,ms=>sO rest<|ms++[Cz ms o]
def indep(x y:List Nat×List Nat):Bool:=(x.2.all λs=> !y.1.contains (3*s)&& !y.2.contains s&&(!y.1.contains (3*s+1)||x.1.contains (3*s+2)))&&(y.2.all λs=> !x.1.contains (3*s)&&(!x.1.contains (3*s+1)||y.1.contains (3*s+2)))
def lower(ops:List Oper):Bool:=(List.range ops.length).all λj=>((ops[j]?).map λo=>o.after.toList.all λe=> !Region.binds .any e||decide (e.on<j)).getD true
def apart(ms:List Nat)(QO:List (List Nat×List Nat))(n:Nat):Bool:=(List.range n).all λj=>(List.range j).all λi=>(ms.getD j 0).testBit i||indep (QO.getD i ([],[])) (QO.getD j ([],[]))
end
section
variable{R:Option Nat->Prop}{P:Program}{N:Nat}{w0 w w':World}{V:Hid}{S S0 S':Nat->Prop}{B:Nat->Prop}{σ σ' τ:St}{a:Act}{F:Nat->List Nat}{ops:Array Oper}{o:Oper}
def ET{id:Nat}{K:St->Prop}(bt:ops.toList.all (gj N)=true)(h:Zg P ops ops.toList σ K):AW R P N (.region id ops false) (λe σ'=>e=.normal/\K σ') σ:=by
 intro V w0 S0 a w hR hi;refine wpIn_region_list ?_;have:∀(l:List Oper)(σ:St)(a:Act)(w:World),l.all (gj N)=true->Zg P ops l σ K->Inv N V w0 S0 σ a w->
  wpListIn (FW V.rd) 0 P ops (λe a' w'=>∃σ',(e=.normal/\K σ')/\nk N V w0 S0 σ' a' w') l a w:=by
  intro l
  induction l with
  |nil=>intro σ a w _ hs hi;exact⟨σ,⟨rfl,hs⟩,hi.x⟩
  |cons o l ih=>
   intro σ a w hf hs hi;simp only[adl,acd]at hf;obtain⟨res,ms,mE,σ',h1,h2,h3,h4⟩:=hs;have:=Cj (ops:=ops) (K:=wpListIn (FW V.rd) 0 P ops (λe a' w'=>∃σ',(e=.normal/\K σ')/\nk N V w0 S0 σ' a' w') l) (Q:=λe a' w'=>∃σ',(e=.normal/\K σ')/\nk N V w0 S0 σ' a' w') hR.2 hi hf.1 h1 h3 h2 λa' w' aZ=>ih σ' a' w' hf.2 h4 aZ;unfold wpListIn;split
   ·rename_i hw;rw[if_pos hw]at this;exact this
   rename_i hw;rw[if_neg hw]at this;exact⟨λ_ _=>trivial,this⟩
 exact this _ σ a w bt h hi
def tl.spec:∀(l:List Oper)(σ:St)(acc:List (List Nat×List Nat))(K:List (List Nat×List Nat)->St->Prop),tl P ops l σ acc K->
 ∃(σs:Nat->St)(rs:Nat->Ask)(mA:Nat->List Mv)(mE:Nat->List Ob)(R:List (List Nat×List Nat)),σs 0=σ/\R.length=l.length/\K (acc.reverse++R) (σs l.length)/\
  ∀k o,l[k]?=some o->eP P (σs k) ops o (rs k)=some (mA k,mE k)/\(∀ob∈mE k,ob.ok P)/\Mv.runs (σs k) (mA k)=some (σs<|k+1)/\R[k]?=some (ix (σs k) ops o,aU<|mA k)
 |[],σ,acc,K,h=>⟨λ_=>σ,λ_=>.SW .dead,λ_=>[],λ_=>[],[],rfl,rfl,by simpa[tl]using h,by simp⟩
 |o::l,σ,acc,K,h=>by
  obtain⟨res,ms,ob,σ',h1,h2,h3,h4⟩:=h;obtain⟨σs,rs,mA,mE,R,e0,e1,e2,e3⟩:=tl.spec l σ' _ K h4;refine⟨λk=>match k with|0=>σ|k+1=>σs k,λk=>match k with|0=>res|k+1=>rs k,λk=>match k with|0=>ms|k+1=>mA k,λk=>match k with|0=>ob|k+1=>mE k,(ix σ ops o,aU ms)::R,rfl,by simp[e1],by simpa using e2,?_⟩;intro k o' hk;cases k with
  |zero=>simp at hk;subst hk;exact⟨h1,h2,by simp only;rw[e0];exact h3,rfl⟩
  |succ k=>exact e3 k o' hk
def qN:∀(l:List Oper)(ms:List Nat),∃r,sO l ms=ms++r/\r.length=l.length
 |[],ms=>⟨[],by simp[sO],rfl⟩
 |o::l,ms=>by obtain⟨r,h1,h2⟩:=qN l<|ms++[Cz ms o];exact⟨Cz ms o::r,by simp[sO,h1],by simp[h2]⟩
def FR:∀(l:List Oper)(ms:List Nat)(k:Nat)(o:Oper),l[k]?=some o->(sO l ms)[ms.length+k]?=some (Cz ((sO l ms).take<|ms.length+k) o)
 |[],ms,k,o,h=>by cases h
 |o::l,ms,0,o',h=>by simp at h;subst h;obtain⟨r,h1,h2⟩:=qN l<|ms++[Cz ms o];simp[sO,h1]
 |o::l,ms,k+1,o',h=>by have:=FR l (ms++[Cz ms o]) k o' h;simp at this;rw[show ms.length+(k+1)=ms.length+1+k by omega];exact this
def Rg{ms:List Nat}{i:Nat}(h:(Cz ms o).testBit i=true):∃e∈o.after,Region.binds .any e=true/\(i=e.on\/(ms.getD e.on 0).testBit i=true):=by
 have gen:∀(l:List Edge)(m:Nat),(l.foldl (λm e=>if Region.binds .any e then m|||(ms.getD e.on 0)|||(1<<<e.on)else m) m).testBit i=true->
  m.testBit i=true\/∃e∈l,Region.binds .any e=true/\(i=e.on\/(ms.getD e.on 0).testBit i=true):=by
  intro l
  induction l with
  |nil=>intro m h;exact .inl h
  |cons e l ih=>
   intro m h;rw[aeK]at h;rcases ih _ h with h|⟨e',h1,h2⟩
   ·split at h
    ·rename_i hb;rw[Nat.testBit_or,Nat.testBit_or,ag5,ag5]at h;rcases h with(h|h)|h
     ·exact .inl h
     ·simp_all
     refine .inr ⟨e,by simp,hb,.inl ?_⟩;rw[Nat.one_shiftLeft,Nat.testBit_two_pow]at h;simp_all
    exact .inl h
   exact .inr ⟨e',by simp[h1],h2⟩
 rcases gen _ 0 h with h|⟨e,h1,h2⟩
 ·simp at h
 exact⟨e,by simpa using h1,h2⟩
def kQ{l:List Oper}{L:Nat->Prop}(hL:∀j o,L j->l[j]?=some o->∀e∈o.after,Region.binds .any e=true->L e.on):
 ∀(j:Nat)(o:Oper),l[j]?=some o->(∀e∈o.after,Region.binds .any e=true->L e.on)->∀i,((sO l []).getD j 0).testBit i=true->L i:=by
 intro j
 induction j using Nat.strongRecOn with
 |ind j ih=>
  intro o ho hp i hi;have hg:=FR l [] j o ho;simp at hg;rw[aca,hg]at hi;obtain⟨e,h1,h2,h3⟩:=Rg hi;rcases h3 with rfl|h3
  ·simp_all
  rw[aca,aev]at h3;split at h3
  ·rename_i cS;have hjl:=(afM.1 ho).1;have hel:e.on<l.length:=by omega
   refine ih e.on cS _ (acL hel) (λe' Yl dO=>hL e.on _ (hp e h1 h2) (acL hel) e' Yl dO) i ?_;rw[aca];exact h3
  simp at h3
end
end Go.Ai
