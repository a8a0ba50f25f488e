/- Parts of the proof of ScaleKeeps (as AIM.md's row tells), at every input, with no further conditions. -/
import Derived.Test.YtpoaaoihkhdijaaGreatDoorKZAC
import Derived.RangeFuncSeq
set_option linter.all false
set_option maxRecDepth 100000
set_option maxHeartbeats 0
namespace Go.Ai
open Go.RowKit
def mk:List (Nat×Sl)->St
 |[]=>λ_=>⟨.dead,0,0⟩
 |(d,x)::l=>λi=>if i=d then x else mk l i
def entry:Nat->List AV->List (Nat×Sl)
 |_,[]=>[]
 |k,x::xs=>(k,⟨x,0,0⟩)::entry (k+1) xs
def pF:∀(xs:List AV)(k i:Nat),mk (entry k xs) i=if k<=i then(match xs[i-k]?with|some x=>⟨x,0,0⟩|none=>⟨.dead,0,0⟩)else⟨.dead,0,0⟩
 |[],k,i=>by simp[entry,mk]
 |x::xs,k,i=>by
  simp[entry,mk];rw[pF xs (k+1) i];by_cases h:i=k
  ·subst h;simp
  simp[h];by_cases c:k<=i
  ·have b:k+1<=i:=E;simp[c,b];rw[show i-k=(i-(k+1))+1 from E,List.getElem?_cons_succ]
  have b:¬k+1<=i:=E;simp[c,b]
def xW:∀(l m:List (Nat×Sl))(i:Nat),i∉l.map (·.1)->mk (l++m) i=mk m i
 |[],m,i,_=>rfl
 |(d,x)::l,m,i,h=>by simp only[ab8,abz,not_or]at h;simp[mk,h.1];exact xW l m i h.2
def sg:∀(l m:List (Nat×Sl))(i:Nat),i∈l.map (·.1)->mk (l++m) i=mk l i
 |[],m,i,h=>by cases h
 |(d,x)::l,m,i,h=>by
  simp only[ab8,abz]at h;simp[mk];by_cases e:i=d
  ·simp[e]
  simp[e];exact sg l m i<|h.resolve_left e
def qM:∀(xs:List AV)(k i:Nat),i∈(entry k xs).map (·.1)↔k<=i/\i<k+xs.length
 |[],k,i=>by simp[entry]
 |x::xs,k,i=>by simp[entry,qM xs (k+1) i];omega
def both(args H:List AV):St:=mk<|entry 0 args++entry 1000000 H
def gM{args H:List AV}{i:Nat}(h:i<1000000):both args H i=match args[i]?with|some x=>⟨x,0,0⟩|none=>⟨.dead,0,0⟩:=by
 unfold both;by_cases hi:i<args.length
 ·rw[sg _ _ _<|(qM args 0 i).2 ⟨E,E⟩,pF];simp
 rw[xW _ _ _ (λhh=>by have:=(qM args 0 i).1 hh;omega),pF,if_neg E,aci E]
def fT{args H:List AV}(b:args.length<=1000000)(k:Nat):both args H (1000000+k)=match H[k]?with|some x=>⟨x,0,0⟩|none=>⟨.dead,0,0⟩:=by unfold both;rw[xW _ _ _ (λhh=>by have:=(qM args 0 _).1 hh;omega),pF];simp
def LP{args H:List AV}:∀i,(both args H i).g1=0/\(both args H i).g2=0:=by
 intro i;have:∀(l:List (Nat×Sl)),(∀q∈l,q.2.g1=0/\q.2.g2=0)->(mk l i).g1=0/\(mk l i).g2=0:=by
  intro l
  induction l with
  |nil=>intro _;simp[mk]
  |cons q l d=>
   intro h;simp only[abz,forall_eq_or_imp]at h;simp[mk];split
   ·exact h.1
   exact d h.2
 refine this _ λq b=>?_;have hh:∀(c:List AV)(k:Nat),∀q∈entry k c,q.2.g1=0/\q.2.g2=0:=by
  intro c
  induction c with
  |nil=>intro k q b;simp[entry]at b
  |cons x c d=>
   intro k q b;simp[entry]at b;rcases b with rfl|b
   ·simp_all
   exact d _ q b
 rcases abJ.1 b with b|b
 all_goals exact hh _ _ q b
def bg(V:Hid)(b:List Value):Nat->Value:=λi=>if i<1000000 then b.getD i undef else V.v i
def Hh(P:Program)(f:FuncId)(H args d:List AV)(r:AV):Prop:=
 ∀(w:World)(S:Nat->Prop)(V:Hid)(c:List Value)(F:Nat->List Nat),c.length=args.length->kx P V w->aT S V.g (both args H) (bg V c) w F->
  vh P f c.toArray w λv w'=>∃S' e,tV V w w w'/\(∀b,S b->S' b)/\(∀b,S' b->S b\/cQ V w b)/\aT S' (cQ V w) (both [r] d) (bg V [v]) w' e
abbrev tD:=World->(Nat->Prop)->List Nat->Prop
def tD.here(J:tD)(w:World)(S:Nat->Prop)(F:List Nat):Prop:=∀w' S',(∀b,S b\/b∈F->w'.heap[b]?=w.heap[b]?)->(∀b,S b->S' b)->J w' S' F
def Yields(P:Program)(J J':tD)(x:List AV)(b:Bool)(v:Value):Prop:=
 ∃l,v=.func (.yield l) #[] #[]/\∀(rd:Option Nat)(w:World)(S:Nat->Prop)(F:List Nat)(f:List Value),Laid P w->Af P (·∈F)->J.here w S F->F.Nodup->(∀c∈F,c<w.heap.size/\¬S c)->(∀c,S c->c<w.heap.size)->Cells w S false x f []->
  YieldAt (FW rd) 0 P l f.toArray w λe w'=>e=.returned (.bool b)/\∃S' d,w'.os=w.os/\w'.tape=w.tape/\w'.output=w.output/\w.heap.size<=w'.heap.size/\(∀k,k<w.heap.size->k∉F->w'.heap[k]?=w.heap[k]?)/\
   (∀c,S c->S' c)/\(∀c,S' c->S c\/w.heap.size<=c\/c∈F)/\(∀c,S' c->c<w'.heap.size)/\J'.here w' S' d/\d.Nodup/\∀c∈d,(w.heap.size<=c\/c∈F)/\c<w'.heap.size/\¬S' c
def ZP(P:Program)(g:FuncId)(C:Value->Prop)(J J':tD)(x:List AV)(r:AV):Prop:=
 ∀(v:Value),C v->∀(w:World)(S:Nat->Prop)(F:List Nat)(d:List Value),Laid P w->Af P (·∈F)->J.here w S F->F.Nodup->(∀c∈F,c<w.heap.size/\¬S c)->(∀c,S c->c<w.heap.size)->Cells w S false x d []->
  vh P g (v::d).toArray w λy w'=>∃S' b,w'.os=w.os/\w'.tape=w.tape/\w'.output=w.output/\w.heap.size<=w'.heap.size/\(∀k,k<w.heap.size->k∉F->w'.heap[k]?=w.heap[k]?)/\
   (∀c,S c->S' c)/\(∀c,S' c->S c\/w.heap.size<=c\/c∈F)/\(∀c,S' c->c<w'.heap.size)/\J'.here w' S' b/\b.Nodup/\(∀c∈b,(w.heap.size<=c\/c∈F)/\c<w'.heap.size/\¬S' c)/\∀e f,Rel e f r y []
def Looks(P:Program)(t:TypeId)(ok:Bool)(K:Obj->Prop)(k y:AV):Prop:=∀(w:World)(S:Nat->Prop)(b:Nat)(o:Obj)(c:Value),w.heap[b]?=some o->K o->Rel w S k c []->∃v,(Instr.lookup t (.map<|some b) c ok).run P w=.ok v w/\Rel w S y v []
def Query(P:Program)(g:FuncId)(sz:Nat)(X ys:List AV)(r:AV):Prop:=
 ∀(w:World)(S:Nat->Prop)(e:Value)(d:List Value)(c:List Nat),Laid P w->Af P (·∈c)->Rel w S (.list .own sz X) e c->c.Nodup->(∀b∈c,b<w.heap.size/\¬S b)->(∀b,S b->b<w.heap.size)->Cells w S false ys d []->
  vh P g (e::d).toArray w λv w'=>∃S' F,Below w.heap.size w w'/\(∀b,S b->S' b)/\(∀b,S' b->S b\/w.heap.size<=b)/\(∀b,S' b->b<w'.heap.size)/\Rel w' S' r v F/\F.Nodup/\∀b∈F,w.heap.size<=b/\b<w'.heap.size/\¬S' b
def NC(P:Program)(t:TypeId)(C:Value->Prop)(J:tD)(y:AV):Prop:=∀(w:World)(S:Nat->Prop)(F:List Nat)(v:Value),J.here w S F->C v->∃z,(Instr.loadAt t v).run P w=.ok z w/\Rel w S y z []
def Ext(P:Program)(o:Oper)(d:Array Value)(w:World)(R:Value->World->Prop):Prop:=∀c:Operand->Value,o.op.operands.toList.map c=d.toList->∃b v w',(execOp c o).run P w=.ok b w'/\(b=.value v\/(b=.skip/\o.dst=none))/\R v w'
def Ext.mono{P:Program}{o:Oper}{c:Array Value}{w:World}{R d:Value->World->Prop}(g:∀v w',R v w'->d v w')(h:Ext P o c w R):Ext P o c w d:=λe b=>by obtain⟨f,v,w',k1,k2,k3⟩:=h e b;exact⟨f,v,w',k1,k2,g v w' k3⟩
def SI(P:Program)(o:Oper)(H args d:List AV)(r:AV):Prop:=
 ∀(w:World)(S:Nat->Prop)(V:Hid)(c:List Value)(F:Nat->List Nat),c.length=args.length->aT S V.g (both args H) (bg V c) w F->
  Ext P o c.toArray w λv w'=>∃S' e,tV V w w w'/\(∀b,S b->S' b)/\(∀b,S' b->S b\/cQ V w b)/\aT S' (cQ V w) (both [r] d) (bg V [v]) w' e
inductive Ob
 |call (o:VZ)
 |refs (g:FuncId) (H args out:List AV) (r:AV)
 |PC (C:Value->Prop) (J J':tD) (x:List AV) (b:Bool)
 |SP (t:TypeId) (ok:Bool) (K:Obj->Prop) (k y:AV)
 |ext (o:Oper) (H args out:List AV) (r:AV)
 |WL (g:FuncId) (C:Value->Prop) (J J':tD) (x:List AV) (r:AV)
 |Qy (g:FuncId) (sz:Nat) (X ys:List AV) (r:AV)
 |PA (t:TypeId) (C:Value->Prop) (J:tD) (y:AV)
def Ob.ok(P:Program):Ob->Prop
 |.call o=>Sound P o.1 o.2.1 o.2.2
 |.refs g H args out r=>Hh P g H args out r
 |.PC C J J' x b=>∀v,C v->Yields P J J' x b v
 |.SP t ok K k y=>Looks P t ok K k y
 |.ext o H args out r=>SI P o H args out r
 |.WL g C J J' x r=>ZP P g C J J' x r
 |.Qy g sz X ys r=>Query P g sz X ys r
 |.PA t C J y=>NC P t C J y
def qX(x:bY):Option (Nat×AV):=
 match x.sl.av with
 |.bC r _ _ _=>some (r,x.rt.av)
 |.ptr r _ _ _=>some (r,x.rt.av)
 |y=>if y.aG then none else match x.s with
  |some s=>some (s,y)
  |none=>none
def iP:List (Nat×AV)->Nat->Option Nat
 |[],_=>none
 |(r,_)::R,s=>if r=s then some 0 else match iP R s with
  |some k=>some (k+1)
  |none=>none
def dD:List (Nat×AV)->List bY->List (Nat×AV)
 |R,[]=>R
 |R,x::xs=>match qX x with
  |some (r,y)=>match iP R r with
   |some _=>dD R xs
   |none=>dD (R++[(r,y)]) xs
  |none=>dD R xs
def tU(R:List (Nat×AV))(x:bY):Option AV:=
 match x.sl.av with
 |.bC r g1 g2 p=>match iP R r with
  |some k=>if x.rt.g1=g1 then if kh p=true\/x.rt.g2=g2 then some (.bC (1000000+k) 0 0 p)else none else none
  |none=>none
 |.ptr r g1 g2 p=>match iP R r with
  |some k=>if x.rt.g1=g1 then if flat p=true\/x.rt.g2=g2 then some (.ptr (1000000+k) 0 0 p)else none else none
  |none=>none
 |y=>if y.aG then some y else match x.s with
  |some s=>match iP R s with
   |some k=>some (.bC (1000000+k) 0 0 [])
   |none=>none
  |none=>none
def sP(R:List (Nat×AV)):List bY->Option (List AV)
 |[]=>some []
 |x::xs=>match tU R x,sP R xs with
  |some y,some ys=>some (y::ys)
  |_,_=>none
def oh:List (Nat×AV)->List AV->List (Nat×AV)
 |[],_=>[]
 |(r,_)::R,ys=>match ys with
  |[]=>[]
  |y::ys=>(r,y)::oh R ys
def Iv:List (Nat×AV)->Option Nat->Bool
 |_,none=>false
 |[],_=>false
 |(r,_)::R,some d=>if r=d then true else Iv R (some d)
def nP:List AV->Bool
 |[]=>true
 |x::xs=>x.plain&&nP xs
def uo(d:Option Nat)(f:bY)(asx:List bY)(out:List AV)(r:AV):Option (List Mv×List Ob):=
 match f.cont with
 |some (.fn (.func g) first b)=>if bU first&&bU b then match sP (dD [] asx) asx with
   |some c=>if nP ((dD [] asx).map (·.2))&&nP out&&decide ((dD [] asx).length=out.length)&&r.plain&& !Iv (dD [] asx) d&&decide (first.length+c.length+b.length<=1000000)then
     some (dk d r [.back<|oh (dD [] asx) out],[.refs g ((dD [] asx).map (·.2)) (first++c++b) out r])else none
   |none=>none
  else none
 |_=>none
section
variable{P:Program}{N:Nat}{w0 w w':World}{V:Hid}{S S0 S':Nat->Prop}{B:Nat->Prop}{σ σ' σ0:St}{T0:Nat->Value}{a:Act}{F:Nat->List Nat}{R:List (Nat×AV)}
def px:∀{R:List (Nat×AV)}{s k:Nat},iP R s=some k->(R.map (·.1))[k]?=some s
 |[],s,k,h=>by simp[iP]at h
 |(r,y)::R,s,k,h=>by
  simp[iP]at h;split at h
  ·rename_i e;simp at h;subst h e;rfl
  split at h
  ·rename_i c b;cases h;simpa using px b
  cases h
def py:∀{R:List (Nat×AV)}{s:Nat},iP R s=none->s∉R.map (·.1)
 |[],s,h=>I
 |(r,y)::R,s,h=>by
  simp[iP]at h;split at h
  ·cases h
  rename_i e;split at h
  ·cases h
  rename_i b;simp only[ab8,abz,not_or];exact⟨λe'=>e e'.symm,py b⟩
def FU:∀{R:List (Nat×AV)}{k s:Nat},(R.map (·.1)).Nodup->(R.map (·.1))[k]?=some s->iP R s=some k
 |[],k,s,_,h=>by cases h
 |(r,y)::R,k,s,hn,h=>by
  simp only[ab8,acb]at hn;simp[iP];cases k with
  |zero=>cases h;simp
  |succ k=>have hm:s∈R.map (·.1):=adD h;rw[if_neg λe=>hn.1<|by rw[e];exact hm,FU hn.2 h]
def N3(_:aT S B σ (tv V a) w F)(x:Operand){r:Nat}{y:AV}(b:qX (resolve σ x)=some (r,y)):y=(σ r).av:=by
 cases x with
 |const v=>
  have d:=dN v;simp[qX,resolve]at b;split at b
  ·rename_i e;rw[e]at d;simp[AV.plain]at d
  ·rename_i e;rw[e]at d;simp[AV.plain]at d
  simp at b
 |func f=>simp[qX,resolve]at b
 |global g=>simp[qX,resolve,Sl.none]at b
 |tmp t=>
  simp[resolve]at b;cases c:(σ t).av with
  |bC h g1 g2 p=>simp[bY.of,c,qX]at b;obtain⟨rfl,rfl⟩:=b;rfl
  |ptr h g1 g2 p=>simp[bY.of,c,qX]at b;obtain⟨rfl,rfl⟩:=b;rfl
  |abs J=>simp[bY.of,c,qX,Sl.none]at b
  |_=>
   all_goals
    simp only[bY.of,c,qX]at b;split at b
    ·cases b
    cases b;exact c.symm
def ox(h:aT S B σ (tv V a) w F):∀(xs:List Operand){R:List (Nat×AV)},(∀q∈R,q.2=(σ q.1).av)->(R.map (·.1)).Nodup->
 (∀q∈dD R (xs.map<|resolve σ),q.2=(σ q.1).av)/\((dD R<|xs.map<|resolve σ).map (·.1)).Nodup
 |[],R,d,c=>⟨d,c⟩
 |x::xs,R,d,c=>by
  simp only[ab8,dD];split
  ·rename_i r y j;have i:=N3 h x j;split
   ·exact ox h xs d c
   rename_i k;refine ox h xs (λq b=>?_) ?_
   ·rcases abJ.1 b with b|b
    ·exact d q b
    simp at b;subst b;exact i
   simp only[abQ,abC];refine⟨c,I,λx g y f e=>?_⟩;simp at f;subst f e;exact py k g
  exact ox h xs d c
def ArgRel(w:World)(S:Nat->Prop)(σ:St)(T:Nat->Value)(y:AV)(v:Value):Prop:=
 match y with
 |.bC r g1 g2 p=>g1<=(σ r).g1/\g2<=(σ r).g2/\((σ r).g1=g1->(kh p=true\/(σ r).g2=g2)->(kh p=false->∃y,bp (σ r).av p=some y)->
   ∃L,loc w (.val<|T r) p=some L/\holds w L v/\∀b,L=.addr b->v.oneCell'=true)
 |.ptr r g1 g2 p=>g1<=(σ r).g1/\g2<=(σ r).g2/\(∃b,v=.pointer (some b))/\((σ r).g1=g1->(flat p=true\/(σ r).g2=g2)->(flat p=false->∃y,bp (σ r).av p=some y)->
   ∃b,loc w (.val<|T r) p=some (.addr b)/\v=.pointer (some b))
 |av=>Rel w S av v []
def ArgRel.slot{T:Nat->Value}{y:AV}{v:Value}{i:Nat}(h:ArgRel w S σ T y v)(c:(σ i).av=y)(b:T i=v):an w S σ T i []:=by unfold an;unfold ArgRel at h;subst c b;cases hh:(σ i).av<;>rw[hh]at h<;>first|exact⟨rfl,h⟩|exact h|(simp[Rel]at h)
def ArgRel.BI{T:Nat->Value}{y:AV}{v:Value}(h:Rel w S y v []):ArgRel w S σ T y v:=by have:=h.plain;cases y<;>simp[AV.plain]at this<;>exact h
def dB(w:World)(S:Nat->Prop)(σ:St)(T:Nat->Value):List AV->List Value->Prop
 |[],c=>c=[]
 |y::ys,c=>∃v b,c=v::b/\ArgRel w S σ T y v/\dB w S σ T ys b
def dB.append{T:Nat->Value}:∀{ys b:List AV}{us c:List Value},dB w S σ T ys us->dB w S σ T b c->dB w S σ T (ys++b) (us++c)
 |[],b,us,c,h,k=>by simp[dB]at h;subst h;simpa using k
 |y::ys,b,us,c,h,k=>by obtain⟨v,d,rfl,f,e⟩:=h;exact⟨v,_,W,f,dB.append e k⟩
def dB.length{T:Nat->Value}:∀{ys:List AV}{us:List Value},dB w S σ T ys us->us.length=ys.length
 |[],us,h=>by simp[dB]at h;simp[h]
 |y::ys,us,h=>by obtain⟨v,b,rfl,d,c⟩:=h;simp[dB.length c]
def dB.get{T:Nat->Value}:∀{ys:List AV}{us:List Value}(i:Nat){y:AV},dB w S σ T ys us->ys[i]?=some y->ArgRel w S σ T y (us.getD i undef)
 |[],us,i,y,h,b=>by cases b
 |f::ys,us,i,y,h,b=>by
  obtain⟨v,c,rfl,e,d⟩:=h;cases i with
  |zero=>cases b;simpa using e
  |succ i=>simpa using dB.get i d b
def dB.rZ{T:Nat->Value}:∀{ys:List AV}{us:List Value}{F:List Nat},Cells w S false ys us F->F=[]->dB w S σ T ys us
 |[],us,F,h,_=>by simp[Cells]at h;exact h.1
 |y::ys,us,F,h,c=>by obtain⟨v,b,g,f,rfl,rfl,-,e,d⟩:=h;obtain⟨rfl,rfl⟩:=ad2.1 c;exact⟨v,b,W,.BI e,dB.rZ d W⟩
def Pr(h:aT S B σ (tv V a) w F)(n:∀r k,iP R r=some k->σ0 (1000000+k)=⟨(σ r).av,0,0⟩/\T0 (1000000+k)=tv V a r)(x:Operand)(A:aJ x=true){y:AV}
 (b:tU R (resolve σ x)=some y):ArgRel w S σ0 T0 y (a.eval x):=by
 cases x with
 |const v=>
  have D:=oQ v;have o:=dN v;have:y=gL v:=by
   simp[tU,resolve]at b;split at b
   ·rename_i e;rw[e]at o;simp[AV.plain]at o
   ·rename_i e;rw[e]at o;simp[AV.plain]at o
   simp[D,if_true,aaw]at b;exact b.symm
  subst this;exact .BI (gZ w S v A)
 |func f=>simp[tU,resolve,AV.aG,bU]at b;subst b;exact⟨#[],#[],[],[],W,by simp[Cells],by simp[Cells],W⟩
 |global g=>simp[tU,resolve,Sl.none,AV.aG]at b;subst b;exact .BI (by simp[Rel])
 |tmp t=>
  rw[iE V a<|fN A];have d:=h.rel t;simp[resolve]at b;cases c:(σ t).av with
  |bC r g1 g2 p=>
   simp[bY.of,c,tU]at b;unfold an at d;rw[c]at d;split at b
   ·rename_i k j;obtain⟨m,l⟩:=n r k j;split at b
    ·rename_i z;split at b
     ·rename_i u;cases b;unfold ArgRel;simp only[m,l];exact⟨abq _,abq _,λ_ _=>d.2.2.2 z u⟩
     cases b
    cases b
   cases b
  |ptr r g1 g2 p=>
   simp[bY.of,c,tU]at b;unfold an at d;rw[c]at d;simp only at d;split at b
   ·rename_i k j;obtain⟨m,l⟩:=n r k j;split at b
    ·rename_i z;split at b
     ·rename_i u;cases b;unfold ArgRel;simp only[m,l];exact⟨abq _,abq _,d.2.2.2.1,λ_ _=>d.2.2.2.2 z u⟩
     cases b
    cases b
   cases b
  |abs J=>simp[bY.of,c,tU,Sl.none,AV.aG,if_true,aaw]at b;subst b;exact .BI (by simp[Rel])
  |fS g C=>
   simp[bY.of,c,tU,AV.aG,acQ,if_false]at b;split at b
   ·rename_i k j;obtain⟨m,l⟩:=n t k j;cases b;unfold ArgRel;simp only[m,l];exact⟨aaM _,aaM _,λ_ _ _=>⟨_,W,W,I⟩⟩
   cases b
  |_=>
   all_goals
    have q:(σ t).av.plain=true:=by rw[c];rfl
    rw[an.aA q]at d;have i:(if(σ t).av.aG then some (σ t).av else match iP R t with|some k=>some (AV.bC (1000000+k) 0 0 [])|none=>none)=some y:=by simpa only[bY.of,c,tU]using b
    split at i
    ·rename_i s;cases i;rw[Rel.aG _ d s]at d;exact .BI d
    split at i
    ·rename_i k j;obtain⟨m,l⟩:=n t k j;cases i;unfold ArgRel;simp only[m,l];exact⟨abq _,abq _,λ_ _ _=>⟨.val _,W,W,I⟩⟩
    cases i
def C8(h:aT S B σ (tv V a) w F)(d:∀r k,iP R r=some k->σ0 (1000000+k)=⟨(σ r).av,0,0⟩/\T0 (1000000+k)=tv V a r):∀(xs:List Operand),xs.all aJ=true->∀{ys:List AV},
 sP R (xs.map<|resolve σ)=some ys->dB w S σ0 T0 ys (xs.map a.eval)
 |[],_,ys,b=>by simp[sP]at b;subst b;rfl
 |x::xs,c,ys,b=>by
  simp only[ab7,aby]at c;simp[sP]at b;split at b
  ·rename_i y e g f;cases b;exact⟨_,_,W,Pr h d x c.1 g,C8 h d xs c.2 f⟩
  cases b
def Fo{σ:St}:∀{R:List (Nat×AV)}{out:List AV}(i:Nat),R.length=out.length->
 lh σ (oh R out) i=match iP R i with|some k=>⟨out.getD k .dead,(σ i).g1,(σ i).g2+1⟩|none=>σ i
 |[],out,i,h=>by simp[oh,lh,iP]
 |(r,y)::R,[],i,h=>by cases h
 |(r,y)::R,z::out,i,h=>by
  simp at h;simp[oh,lh,iP];by_cases e:r=i
  ·subst e;simp[aH]
  rw[ao _ _ λe'=>e e'.symm,Fo i h];simp[e];cases iP R i<;>simp
def qu:∀{xs:List AV}{k:Nat}{x:AV},nP xs=true->xs[k]?=some x->x.plain=true
 |[],k,x,_,h=>by cases h
 |y::xs,k,x,b,h=>by
  simp[nP]at b;cases k with
  |zero=>cases h;exact b.1
  |succ k=>exact qu b.2 h
def aT.Q3{d:Nat}{T:Nat->Value}{y:AV}{z:Value}{g:List Nat}(h:aT S B σ T w F)(m:Rel w S y z g)(hn:g.Nodup)(o:∀b∈g,B b/\b<w.heap.size/\¬S b)(k:∀i,∀b∈F i,b∉g):
 aT S B (made σ [] d y) (iI T d z) w (λi=>if i=d then g else F i):=by
 refine h.step (w':=w) (S':=S) ⟨λr=>?_,λr=>?_,λr c=>?_,λr c _=>?_⟩ (λ_ h=>h) (λi=>?_) (λi=>?_) (λi j l b f=>?_) (λi b f=>?_) h.shr
 ·unfold made;split
  ·rename_i e;subst e;simp
  simp
 ·unfold made;split
  ·rename_i e;subst e;simp
  simp
 ·unfold made at c;split at c
  ·rename_i e;subst e;simp at c
  rename_i e;rw[ao _ _ e]
 ·unfold made at c⊢;split at c
  ·rename_i e;subst e;simp at c
  rename_i e;simp_all
 ·by_cases e:i=d
  ·subst e;right;rw[an.aA<|by unfold made;simp;exact m.plain];simp[made,aH];exact m
  left;simp only[made,e,if_false,acG];exact⟨U,ao _ _ e,U,λ_ _=>trivial⟩
 ·show(if i=d then g else F i).Nodup;split
  ·exact hn
  exact h.nodup i
 ·replace f:b∈if i=d then g else F i:=f
  split at f
  ·split
   ·omega
   exactλn=>k j b n f
  split
  ·exact k i b f
  exact h.du i j l b f
 replace f:b∈if i=d then g else F i:=f
 split at f
 ·exact o b f
 exact h.own i b f
def EA:∀{R:List (Nat×AV)}{d:Nat},Iv R (some d)=false->iP R d=none
 |[],d,_=>rfl
 |(r,y)::R,d,h=>by
  simp only[Iv]at h;split at h
  ·cases h
  rename_i e;simp[iP,e,EA h]
def B1{D:Array Value->World->(Value->World->Prop)->Prop}(G1:∀(t:Array Value)(w:World)(R R':Value->World->Prop),(∀v w',R v w'->R' v w')->D t w R->D t w R')
 {d:Option Nat}(hG:kx P V w0)(h:Inv N V w0 S0 σ a w)(hd:∀x,d=some x->x<N)(asx:List Operand)(has:asx.all aJ=true){first ys captured out:List AV}{r:AV}{af cf:Array Value}
 (hq:∀S F,aT S (cQ V w0) σ (tv V a) w F->Cells w S false first af.toList []/\Cells w S false captured cf.toList [])
 (S2:sP (dD []<|asx.map<|resolve σ) (asx.map<|resolve σ)=some ys)
 (T:(nP ((dD []<|asx.map<|resolve σ).map (·.2))&&nP out&&decide ((dD []<|asx.map<|resolve σ).length=out.length)&&r.plain&& !Iv (dD []<|asx.map<|resolve σ) d&&decide (first.length+ys.length+captured.length<=1000000))=true)
 (hr:Mv.runs σ (dk d r [.back<|oh (dD []<|asx.map<|resolve σ) out])=some σ')
 (K0:∀(w:World)(S:Nat->Prop)(V:Hid)(t:List Value)(F:Nat->List Nat),t.length=(first++ys++captured).length->kx P V w->aT S V.g (both (first++ys++captured) ((dD []<|asx.map<|resolve σ).map (·.2))) (bg V t) w F->
   D t.toArray w λv w'=>∃S' F',tV V w w w'/\(∀b,S b->S' b)/\(∀b,S' b->S b\/cQ V w b)/\aT S' (cQ V w) (both [r] out) (bg V [v]) w' F'):
 D (af++(asx.map a.eval).toArray++cf) w λv w'=>Inv N V w0 S0 σ' (a.put d v) w':=by
 obtain⟨S,F,hc,hN,P0,V2,V0,E2⟩:=h;simp[aby,decide_eq_true_eq,ado]at T;obtain⟨⟨⟨⟨⟨p1,p2⟩,p3⟩,W1⟩,p4⟩,p5⟩:=T;obtain⟨v1,v2⟩:=ox hc asx (R:=[]) I I;generalize hRe:dD [] (asx.map<|resolve σ)=R at*;obtain⟨qa,qc⟩:=hq S F hc;obtain⟨ex,f⟩:∃ex:List Nat,ex=R.map (·.1):=⟨_,W⟩;obtain⟨L,K⟩:∃L:Hid,L={v:=λi=>tv V a<|ex.getD (i-1000000) 0,g:=λb=>∃r∈ex,b∈F r}:=⟨_,W⟩;have M2:(R.map (·.2)).length=ex.length:=by rw[f];simp
 have F1:∀(k:Nat)(y:AV),(R.map (·.2))[k]?=some y->∃r,ex[k]?=some r/\y=(σ r).av/\y.plain=true:=by intro k y hy;have z:=qu p1 hy;simp only[adb,acW]at hy;obtain⟨q,hq,rfl⟩:=hy;exact⟨q.1,by rw[f];simp[hq],v1 q<|adD hq,z⟩
 obtain⟨t,F4⟩:∃t,t=af.toList++asx.map a.eval++cf.toList:=⟨_,W⟩;obtain⟨args,m⟩:∃args,args=first++ys++captured:=⟨_,W⟩
 have S1:args.length<=1000000:=by rw[m];simp;omega
 have hR:∀(r k:Nat),iP R r=some k->both args (R.map (·.2)) (1000000+k)=⟨(σ r).av,0,0⟩/\bg L t (1000000+k)=tv V a r:=by
  intro r k hk;have B0:=px hk;rw[<-f]at B0;have M1:k<(R.map (·.2)).length:=by rw[M2];exact(acU.1 B0).1
  obtain⟨r',e1,e2,-⟩:=F1 k _<|abA M1;rw[B0]at e1;cases e1;refine⟨by rw[fT S1,abA M1];simp[e2],?_⟩;simp[bg,K];rw[if_neg E];simp[B0]
 have hA:dB w S (both args (R.map (·.2))) (bg L t) args t:=by rw[m,F4];rw[m]at hR;rw[F4]at hR;exact((dB.rZ qa W).append<|C8 hc hR asx has S2).append<|dB.rZ qc W
 have H1:aT S L.g (both args (R.map (·.2))) (bg L t) w (λi=>if i<1000000 then[]else match ex[i-1000000]?with|some r=>F r|none=>[]):=by
  refine⟨λi=>?_,λi=>?_,λi j E1 b c=>?_,λi b c=>?_,hc.shr⟩
  ·by_cases hi:i<1000000
   ·simp[hi,if_true];have c:=gM (args:=args) (H:=R.map (·.2)) hi;cases hx:args[i]?with
    |none=>rw[hx]at c;rw[an.aA<|by rw[c];rfl,c];simp[Rel]
    |some y=>rw[hx]at c;refine(hA.get i hx).slot (by rw[c]) ?_;simp[bg,hi,if_true]
   obtain⟨k,rfl⟩:∃k,i=1000000+k:=⟨i-1000000,E⟩;simp[hi,if_false,ad3];have c:=fT (H:=R.map (·.2)) S1 k;cases hx:(R.map (·.2))[k]?with
   |none=>
    rw[hx]at c;rw[an.aA<|by rw[c];rfl,c];have:ex[k]?=none:=by rw[List.getElem?_eq_none_iff]at hx⊢;omega
    simp[Rel,this]
   |some y=>rw[hx]at c;obtain⟨r',e1,rfl,z⟩:=F1 k y hx;have K2:=hc.rel r';rw[an.aA z]at K2;rw[an.aA<|by rw[c];exact z,c];simp[e1,bg,K];rw[if_neg E];simpa[e1]using K2
  ·show(if i<1000000 then[]else match ex[i-1000000]?with|some r=>F r|none=>[]).Nodup;split
   ·simp
   split
   ·exact hc.nodup _
   simp
  ·replace c:b∈if i<1000000 then[]else match ex[i-1000000]?with|some r=>F r|none=>[]:=c
   show b∉if j<1000000 then[]else match ex[j-1000000]?with|some r=>F r|none=>[]
   split at c
   ·cases c
   rename_i hi;split at c
   ·rename_i r1 h1;split
    ·simp
    rename_i hj;split
    ·rename_i r2 h2;refine hc.du r1 r2 (λe=>E1 ?_) b c;subst e;have g1:=FU v2 (by rw[<-f];exact h1);have g2:=FU v2 (by rw[<-f];exact h2);rw[g1]at g2;simp[aaw]at g2;omega
    simp
   cases c
  replace c:b∈if i<1000000 then[]else match ex[i-1000000]?with|some r=>F r|none=>[]:=c
  split at c
  ·cases c
  split at c
  ·rename_i r1 h1;rw[K];exact⟨⟨r1,adD h1,c⟩,(hc.own r1 b c).2⟩
  cases c
 rw[<-m]at K0;have hG':kx P L w:=⟨hG.Ar E2,hG.cQ.mono λb c=>by rw[K]at c;obtain⟨r,-,hr⟩:=c;exact(hc.own r b hr).1⟩;have:=K0 w S L t _ (by rw[dB.length hA]) hG' H1;have e:t.toArray=af++(asx.map a.eval).toArray++cf:=by apply acw;simp[F4]
 rw[e]at this;refine G1 _ _ _ _ (λv w'⟨S',s,u,k1,k2,o⟩=>?_) this;have hg:∀b,L.g b↔∃r∈ex,b∈F r:=λb=>by rw[K]
 have G2:∀b,cQ L w b->w.heap.size<=b\/∃r∈ex,b∈F r:=λb c=>c.imp id (hg b).1;have J:∀b,cQ L w b->cQ V w0 b:=λb c=>(G2 b c).elim (λh=>E2.new b h) λ⟨r,_,hr⟩=>(hc.own r b hr).1;have F2:∀b,b<w.heap.size->¬L.g b->w'.heap[b]?=w.heap[b]?:=λb h1 h2=>u.block b h1 h2;have Y:∀b,S b->w'.heap[b]?=w.heap[b]?:=λb c=>F2 b (hc.shr b c) (λG6=>by obtain⟨r,-,hr⟩:=(hg b).1 G6;exact(hc.own r b hr).2.2 c);have Z:∀i,iP R i=none->∀b∈F i,w'.heap[b]?=w.heap[b]?:=λi hi b c=>F2 b (hc.own i b c).2.1 (λG6=>by obtain⟨r,O,M⟩:=(hg b).1 G6;exact hc.du i r (λe=>py hi<|by subst e;rw[<-f];exact O) b c M)
 have A0:∀i,∀b∈s i,(w.heap.size<=b\/∃r∈ex,b∈F r)/\cQ V w0 b/\b<w'.heap.size/\¬S' b:=λi b c=>by have:=o.own i b c;exact⟨G2 b this.1,J b this.1,this.2⟩
 have A:∀i,iP R i=none->∀j,∀b∈F i,b∉s j:=λi hi j b c H2=>by
  rcases(A0 j b H2).1 with L0|⟨r,O,M⟩
  ·have:=(hc.own i b c).2.1;omega
  exact hc.du i r (λe=>py hi<|by subst e;rw[<-f];exact O) b c M
 have G4:∀{i j k:Nat},iP R i=some k->iP R j=some k->i=j:=λhi hj=>by have a1:=px hi;have a2:=px hj;rw[a1]at a2;simpa using a2
 have F3:aT S' (cQ V w0) (lh σ<|oh R out) (tv V a) w' (λi=>match iP R i with|some k=>s (1000000+k)|none=>F i):=by
  have n:∀i,lh σ (oh R out) i=match iP R i with|some k=>⟨out.getD k .dead,(σ i).g1,(σ i).g2+1⟩|none=>σ i:=λi=>Fo i p3
  refine hc.step (w':=w') (S':=S') ⟨λi=>?_,λi=>?_,λi _=>rfl,λi hi1 G5=>?_⟩ k1 (λi=>?_) (λi=>?_) (λi j E1 b c=>?_) (λi b c=>?_) o.shr
  ·rw[n];split<;>simp
  ·rw[n];split<;>simp
  ·rw[n]at G5⊢;split at G5
   ·simp at G5
   rename_i hp;exact⟨λp y hy=>⟨y,hy⟩,λb c=>c.elim (Y b)<|Z i hp b⟩
  ·cases hp:iP R i with
   |none=>left;rw[n,hp];exact⟨W,W,W,λb c=>c.elim (Y b)<|Z i hp b⟩
   |some k=>
    right;have hk:=px hp;rw[<-f]at hk;have G3:k<out.length:=by have:=(acU.1 hk).1;rw[f]at this;simp at this;omega
    have l:=o.rel<|1000000+k;have c:=fT (args:=[r]) (H:=out) I k;rw[abA G3]at c;have z:=qu p2<|abA G3;rw[an.aA<|by rw[c];exact z,c]at l;have P1:(lh σ (oh R out) i).av=out[k]:=by rw[n,hp];simp[G3]
    rw[an.aA<|by rw[P1];exact z,P1];have S4:bg L [v] (1000000+k)=tv V a i:=by simp[bg,K];rw[if_neg E];simp[hk]
    rw[S4]at l;exact l
  ·show(match iP R i with|some k=>s (1000000+k)|none=>F i).Nodup;split
   ·exact o.nodup _
   exact hc.nodup i
  ·replace c:b∈match iP R i with|some k=>s (1000000+k)|none=>F i:=c
   show b∉match iP R j with|some k=>s (1000000+k)|none=>F j
   split at c
   ·rename_i k hk;split
    ·rename_i k2 X2;refine o.du _ _ (λe=>E1 ?_) b c;have:k=k2:=E;subst this;exact G4 hk X2
    rename_i hj;exactλH2=>A j hj _ b H2 c
   rename_i hi;split
   ·exact A i hi _ b c
   exact hc.du i j E1 b c
  replace c:b∈match iP R i with|some k=>s (1000000+k)|none=>F i:=c
  split at c
  ·exact(A0 _ b c).2
  rename_i hi;have ho:=hc.own i b c;refine⟨ho.1,acg ho.2.1 u.size,λhS'=>?_⟩;rcases k2 b hS' with hS|hm
  ·exact ho.2.2 hS
  rcases G2 b hm with L0|⟨r,O,M⟩
  ·omega
  exact hc.du i r (λe=>py hi<|by subst e;rw[<-f];exact O) b c M
 have Q:lW V w0 w':=E2.trans ⟨u.os,u.tape,u.output,u.size,λk hk hg'=>u.block k (acg hk E2.size) (λhgk=>by obtain⟨r,-,hr⟩:=(hg k).1 hgk;exact wc (hc.own r k hr).1 hk hg')⟩
 have F0:(∀b,S0 b->S' b)/\(∀b,S' b->S0 b\/cQ V w0 b):=⟨λb c=>k1 b<|V2 b c,λb c=>(k2 b c).elim (V0 b) λh=>.inr<|J b h⟩;have C:Mv.runs (lh σ<|oh R out) (dk d r [])=some σ':=by rw[Jp]at hr;simpa[Mv.runs,Mv.run]using hr
 cases d with
 |none=>simp[dk,Mv.runs,aaw]at C;subst C;exact⟨S',_,F3,hN,P0,F0.1,F0.2,Q⟩
 |some d=>
  simp[dk,ac4,jl,aaw]at C;subst C;have hdn:=EA p4;have l:=o.rel 0;have X:=gM (args:=[r]) (H:=out) (i:=0) E;simp[aeO]at X;rw[an.aA<|by rw[X];exact W1,X]at l;have:=F3.Q3 (d:=d) l (o.nodup 0) (λb c=>(A0 0 b c).2) (λi b c=>by
   replace c:b∈match iP R i with|some k=>s (1000000+k)|none=>F i:=c
   split at c
   ·exact o.du _ _ E b c
   rename_i hi;exact A i hi 0 b c)
  rw[<-oK (by rw[hN];exact hd d W)]at this;exact⟨S',_,this,by rw[size_put];exact hN,by rw[gG];exact P0,F0.1,F0.2,Q⟩
def zZ{d:Option Nat}(X:kx P V w0)(h:Inv N V w0 S0 σ a w)(K:∀x,d=some x->x<N)(f:Operand)(y:aJ f=true)(asx:List Operand)(m:asx.all aJ=true){out:List AV}{r:AV}{u:List Mv}{i:List Ob}
 (hm:uo d (resolve σ f) (asx.map<|resolve σ) out r=some (u,i))(H:Mv.runs σ u=some σ')(hs:∀o∈i,o.ok P):
 ∃g first captured,a.eval f=.func (.func g) first captured/\vh P g (first++(asx.map a.eval).toArray++captured) w λv w'=>Inv N V w0 S0 σ' (a.put d v) w':=by
 have T:=h;obtain⟨S,F,hc,hN,J,C,A,L⟩:=h;unfold uo at hm;split at hm<;>try(cases hm)
 rename_i g first captured j
 split at hm<;>try(cases hm)
 rename_i b;simp at b;split at hm<;>try(cases hm)
 rename_i z l;split at hm<;>try(cases hm;done)
 rename_i c;cases hm;obtain⟨Ff,k,-⟩:=aQ hc f y j;obtain⟨af,cf,F1,F2,q,-,-,-⟩:=k;refine⟨g,af,cf,q,?_⟩;refine B1 (D:=vh P g) (λvs w R R' Z Y rd o a next Q O=>Y rd o a next Q λv w' M=>O v w'<|Z v w' M) X T K asx m (λS F hc=>?_) l c H (hs (.refs g ((dD []<|asx.map<|resolve σ).map (·.2)) (first++z++captured) out r) I);obtain⟨Ff,k,-⟩:=aQ hc f y j;obtain⟨B0,A0,F1,F2,e,t,s,-⟩:=k;rw[q]at e;obtain⟨rfl,rfl⟩:=e;have p:=Cells.aG _ t b.1;have n:=Cells.aG _ s b.2;subst p n;exact⟨t,s⟩
def bY.gen(x:bY):Nat:=match x.sl.av with|.bC .. =>x.rt.g2|_=>x.sl.g2
def PF(P:Program)(d:Nat)(t:TypeId)(x:bY)(lo hi:Option bY):Option (List Mv):=
 match P.underlying t with
 |some (.slice e)=>match cu P e with
  |some ti=>match x.cont with
   |some (.list .own sz b)=>match mZ lo 0,mZ hi b.length with
    |some l,some h=>if sz=ti.size/\l<h/\h<=b.length then match x.place with
      |some (r,g1,_,p)=>if r=d then none else some [.put d<|.bC r g1 x.gen<|p++[.lZ sz l<|h-l]]
      |none=>none
     else none
    |_,_=>none
   |_=>none
  |none=>none
 |_=>none
def OV(x:Operand){r g1 g2:Nat}{p:Path}{y:AV}(hc:(resolve σ x).cont=some y)(c:(resolve σ x).place=some (r,g1,g2,p)):bY.gen (resolve σ x)=(σ r).g2:=by
 cases x with
 |const v=>simp[resolve,bY.place]at c;have j:=dN v;split at c<;>simp_all[AV.plain]
 |func f=>simp[resolve,bY.place]at c
 |global g=>simp[resolve,bY.place,Sl.none]at c
 |tmp t=>
  simp[resolve]at c⊢;cases b:(σ t).av with
  |bC h e d i=>simp[bY.of,b,bY.place]at c⊢;obtain⟨rfl,rfl,rfl,rfl⟩:=c;simp[bY.gen,b]
  |ptr=>simp[bY.of,b,bY.place]at c
  |abs=>simp[bY.of,b,bY.place,Sl.none]at c
  |fS=>simp[resolve,bY.of,b,bY.cont]at hc
  |_=>
   all_goals
    simp[bY.of,b,bY.place]at c⊢;obtain⟨rfl,rfl,rfl,rfl⟩:=c;simp[bY.gen,b]
def Ke{d t:Nat}(h:Inv N V w0 S0 σ a w)(Z:d<N)(x:Operand)(lo hi:Option Operand)(g:aJ x=true)(s:∀o,lo=some o->aJ o=true)(u:∀o,hi=some o->aJ o=true)
 {A:List Mv}(hm:PF P d t (resolve σ x) (lo.map<|resolve σ) (hi.map<|resolve σ)=some A)(D:Mv.runs σ A=some σ'):
 Good N V w0 S0 σ' a d ((Instr.sliceAt t (a.eval x) (lo.map a.eval) (hi.map a.eval) none).run P w):=by
 unfold PF at hm;split at hm<;>try(cases hm)
 rename_i e hu;split at hm<;>try(cases hm)
 rename_i ti m;split at hm<;>try(cases hm)
 rename_i sz T k;split at hm<;>try(cases hm)
 rename_i l Q h1 h2;split at hm<;>try(cases hm)
 rename_i c;obtain⟨rfl,A0,v⟩:=c;split at hm<;>try(cases hm)
 rename_i r g1 g2 p H;split at hm<;>try(cases hm;done)
 rename_i n;cases hm;simp[Mv.cg]at D;subst D;have K:=OV x k H;have hI:=h;obtain⟨S,F,j,-⟩:=h;obtain⟨F1,e1,-⟩:=aQ j x g k;obtain⟨ad,cap,C,M,J,q⟩:=e1.jX;obtain⟨b,f,rfl⟩:=q.1 I (λe=>by subst e;simp at v;omega);have O:=jU (P:=P) j true (len:=T.length) (cap:=cap) lo hi none s u I h1 h2 W E E (abq _)<|.inl W;have i:(Instr.sliceAt t (a.eval x) (lo.map a.eval) (hi.map a.eval) none).run P w=.ok (.slice (some<|(⟨b,f,none⟩:Addr).add<|l*ti.size) (Q-l)<|cap-l) w:=by rw[C];simp at O;have:cap≠l:=E;simp[Instr.sliceAt,run_underlying hu,Instr.slice,O,dJ m,this]
 refine⟨_,w,i,hI.put Z λS' F' y=>?_⟩;obtain⟨q1,q2,q3,Y,q5,q6,L,X,z,q9⟩:=jb y x g k H;unfold an;simp only[aH,ao _ _ n];refine⟨U,Y,E,λ_ _ _=>⟨.val<|.slice (some<|(⟨b,f,none⟩:Addr).add<|l*ti.size) (Q-l)<|cap-l,?_,W,I⟩⟩;rw[iq,X];simp[acv,loc];rw[C]at z;rw[cN z W I];rfl
inductive Ask
 |PZ (r:AV)
 |refs (out:List AV) (r:AV)
 |lZ
 |PC (J':tD) (b:Bool)
 |Y7
 |fS (out:List AV) (r:AV)
 |SP (y:AV)
 |ext (out:List AV) (r:AV)
 |WL (J':tD) (r:AV)
 |Qy (r:AV)
 |PA (y:AV)
def ME(d:Option Nat)(asx:List bY)(out:List AV)(r:AV):Option (List Mv×List AV×List AV):=
 match sP (dD [] asx) asx with
 |some b=>if(nP ((dD [] asx).map (·.2))&&nP out&&decide ((dD [] asx).length=out.length)&&r.plain&& !Iv (dD [] asx) d&&decide (([]:List AV).length+b.length+([]:List AV).length<=1000000))=true then
   some (dk d r [.back<|oh (dD [] asx) out],(dD [] asx).map (·.2),b)else none
 |none=>none
def slotsOf:List Operand->Option (List Nat)
 |[]=>some []
 |.tmp t::l=>match slotsOf l with
  |some b=>some (t::b)
  |none=>none
 |_::_=>none
def sy:List bY->Option (List AV)
 |[]=>some []
 |x::xs=>match x.cont with
  |some y=>if y.aG then match sy xs with
   |some ys=>some (y::ys)
   |none=>none
   else none
  |none=>none
def MZ(op:Op):Bool:=op.operands.toList.all aJ&&(match op with
 |.move _=>false
 |.call ⟨.builtin .append,_,_⟩=>false
 |_=>true)
def rC(x:Sl):Sl:=match x.av with
 |.box o (.list f sz _)=>⟨.box o<|.list f sz [],x.g1,x.g2⟩
 |_=>x
def KN:AV->Bool
 |.box _ (.list .own _ _)=>true
 |_=>false
def qW(σ:St)(a:Nat):Option (Nat×Nat):=match(σ a).av with
 |.bC r g1 _ p=>if p=[]/\KN (σ r).av=true/\(σ r).g1=g1 then some (a,r)else none
 |x=>if KN x=true then some (a,a)else none
def vu(σ:St):Op->Option (Nat×Nat)
 |.load _ (.tmp a)=>qW σ a
 |_=>none
def rq(σ:St)(op:Op):Bool:=match MZ op with
 |true=>match vu σ op with
  |some _=>false
  |none=>true
 |false=>false
def Ux{σ:St}{op:Op}(h:rq σ op=true):MZ op=true/\vu σ op=none:=by
 unfold rq at h;split at h
 ·rename_i e;split at h
  ·cases h
  rename_i b;exact⟨e,b⟩
 cases h
def lv(P:Program)(σ:St)(o:Oper):Ask->Option (List Mv×List Ob)
 |.Y7=>match o.dst with
  |some d=>match o.op with
   |.makeFunc (.func g) first e=>match first.toList with
    |[]=>match slotsOf e.toList with
     |some n=>if n.all (λt=>t !=d)=true then some ([.put d<|.fS g<|n.map λt=>(t,(σ t).g1)],[])else none
     |none=>none
    |_::_=>none
   |_=>none
  |none=>none
 |.fS out r=>match o.op with
  |.call c=>match c.callee with
   |.value (.tmp t)=>match(σ t).av with
    |.fS g e=>if e.all (λq=>decide (q.1<1000000)&&(σ q.1).av.plain&&(σ q.1).g1==q.2)=true then uo o.dst (resolve σ<|.func g) (c.args.toList.map (resolve σ)++e.map λq=>resolve σ<|.tmp q.1) out r else none
    |_=>none
   |_=>none
  |_=>none
 |.ext out r=>if rq σ o.op=true then match ME o.dst (o.op.operands.toList.map<|resolve σ) out r with
   |some (i,H,ys)=>some (i,[.ext o H ys out r])
   |none=>none
  else none
 |.WL J' r=>match o.op with
  |.call c=>match c.callee with
   |.value f=>match c.args.toList with
    |[]=>none
    |x::xs=>match(resolve σ x).sl.av with
     |.pv C=>match(resolve σ f).cont with
      |some (.fn (.func g) [] [])=>match(σ 1000000).av with
       |.abs J=>match sy (xs.map<|resolve σ)with
        |some ys=>some (dk o.dst r [.back [(1000000,.abs J')]],[.WL g C J J' ys r])
        |none=>none
       |_=>none
      |_=>none
     |_=>none
   |_=>none
  |_=>none
 |.Qy r=>match o.op with
  |.call c=>match c.callee with
   |.value f=>match c.args.toList with
    |[]=>none
    |x::xs=>match(resolve σ f).cont with
     |some (.fn (.func g) [] [])=>match(resolve σ x).cont with
      |some (.list .own sz X)=>match sy (xs.map<|resolve σ)with
       |some ys=>if bU X=true then some (dk o.dst r [],[.Qy g sz X ys r])else none
       |none=>none
      |_=>none
     |_=>none
   |_=>none
  |_=>none
 |.PA y=>match o.op with
  |.load t x=>match(resolve σ x).sl.av with
   |.pv C=>match(σ 1000000).av with
    |.abs J=>if y.aG=true then some (dk o.dst y [],[.PA t C J y])else none
    |_=>none
   |_=>none
  |_=>none
 |.SP y=>match o.op with
  |.lookup t m x ok=>match(resolve σ m).cont,(resolve σ x).cont with
   |some (.mp K),some k=>if k.aG&&y.aG then some (dk o.dst y [],[.SP t ok K k y])else none
   |_,_=>none
  |_=>none
 |.PZ r=>match Al P σ o r with
  |some (i,j)=>some (i,j.map .call)
  |none=>none
 |.refs out r=>match o.op with
  |.call c=>match c.callee with
   |.value f=>uo o.dst (resolve σ f) (c.args.toList.map<|resolve σ) out r
   |_=>none
  |_=>none
 |.lZ=>match o.dst with
  |some d=>match o.op with
   |.slice t x l h m=>match m with
    |none=>match PF P d t (resolve σ x) (l.map<|resolve σ) (h.map<|resolve σ)with
     |some i=>some (i,[])
     |none=>none
    |some _=>none
   |_=>none
  |none=>none
 |.PC J' b=>match o.op with
  |.call c=>match c.callee with
   |.value f=>match(resolve σ f).sl.av with
    |.pv C=>match(σ 1000000).av with
     |.abs J=>match sy (c.args.toList.map<|resolve σ)with
      |some ys=>some (dk o.dst (.v<|.bool b) [.back [(1000000,.abs J')]],[.PC C J J' ys b])
      |none=>none
     |_=>none
    |_=>none
   |_=>none
  |_=>none
def oF(h:aT S B σ (tv V a) w F):∀(xs:List Operand){ys:List AV},xs.all aJ=true->sy (xs.map<|resolve σ)=some ys->Cells w S false ys (xs.map a.eval) []
 |[],ys,_,b=>by simp[sy]at b;subst b;simp[Cells]
 |x::xs,ys,d,b=>by
  simp only[ab7,aby]at d;simp[sy]at b;split at b<;>try(cases b)
  rename_i y g;split at b<;>try(cases b)
  rename_i hn;split at b<;>try(cases b;done)
  rename_i f c;cases b;obtain⟨i,e,-⟩:=aQ h x d.1 g;rw[Rel.aG _ e hn]at e;exact⟨_,_,[],[],W,W,I,e,oF h xs d.2 c⟩
def vz:∀{xs:List Operand}{b:List Nat},slotsOf xs=some b->xs.all aJ=true->xs.map a.eval=b.map λt=>tv V a t
 |[],b,h,_=>by simp[slotsOf]at h;subst h;rfl
 |.tmp t::xs,b,h,c=>by
  simp only[ab7,aby]at c;simp[slotsOf]at h;split at h<;>try(cases h;done)
  rename_i d e;cases h;simp only[ab8];rw[iE V a<|fN c.1,vz e c.2]
 |.const _::_,b,h,_=>by simp[slotsOf]at h
 |.func _::_,b,h,_=>by simp[slotsOf]at h
 |.global _::_,b,h,_=>by simp[slotsOf]at h
def Inv.yielded{J J':tD}{w':World}{S':Nat->Prop}{F':List Nat}(hc:aT S (cQ V w0) σ (tv V a) w F)(M:a.tmps.size=N)(z:a.defers=V.df)(v:∀b,S0 b->S b)(u:∀b,S b->S0 b\/cQ V w0 b)(l:lW V w0 w)
 (O:(σ 1000000).av=.abs J)(k1:w'.os=w.os)(k2:w'.tape=w.tape)(k3:w'.output=w.output)(k4:w.heap.size<=w'.heap.size)(k5:∀k,k<w.heap.size->k∉F 1000000->w'.heap[k]?=w.heap[k]?)
 (k6:∀c,S c->S' c)(k7:∀c,S' c->S c\/w.heap.size<=c\/c∈F 1000000)(k8:∀c,S' c->c<w'.heap.size)(k9:J'.here w' S' F')(WS:F'.Nodup)(SS:∀c∈F',(w.heap.size<=c\/c∈F 1000000)/\c<w'.heap.size/\¬S' c):
 Inv N V w0 S0 (lh σ [(1000000,.abs J')]) a w':=by
 have n:=l.size;have t:lh σ [(1000000,.abs J')]=iI σ 1000000 ⟨.abs J',(σ 1000000).g1,(σ 1000000).g2+1⟩:=W;rw[t];have o:∀c,(w.heap.size<=c\/c∈F 1000000)->cQ V w0 c:=λc A=>A.elim (λh=>.inl<|abI n h) λh=>(hc.own _ c h).1;have f:∀i,i≠1000000->∀b∈F i,b<w.heap.size/\b∉F 1000000:=λi hi b d=>⟨(hc.own i b d).2.1,hc.du i 1000000 hi b d⟩;have g:∀b,S b->b<w.heap.size/\b∉F 1000000:=λb d=>⟨hc.shr b d,λh=>(hc.own _ b h).2.2 d⟩;refine⟨S',iI F 1000000 F',?_,M,z,λb d=>k6 b<|v b d,λb d=>?_,?_⟩
 ·refine hc.step (w':=w') (T':=tv V a) ⟨λr=>?_,λr=>?_,λ_ _=>rfl,λr Q K=>?_⟩ k6 (λi=>?_) (λi=>?_) (λi j q b d=>?_) (λi b d=>?_) k8
  ·by_cases m:r=1000000
   ·subst m;exact .refl
   rw[ao _ _ m];exact .refl
  ·by_cases m:r=1000000
   ·subst m;exact ad4 _
   rw[ao _ _ m];exact .refl
  ·by_cases m:r=1000000
   ·subst m;rw[aH]at K;simp at K
   rw[ao _ _ m];exact⟨λp y L=>⟨y,L⟩,λb d=>by rcases d with d|d;exact k5 b (g b d).1 (g b d).2;exact k5 b (f r m b d).1 (f r m b d).2⟩
  ·by_cases hi:i=1000000
   ·subst hi;right;exact k9
   left;rw[ao _ _ hi,ao _ _ hi];exact⟨W,W,W,λb d=>by rcases d with d|d;exact k5 b (g b d).1 (g b d).2;exact k5 b (f i hi b d).1 (f i hi b d).2⟩
  ·by_cases hi:i=1000000
   ·subst hi;exact WS
   rw[ao _ _ hi];exact hc.nodup i
  ·by_cases hi:i=1000000
   ·subst hi;rw[ao _ _ λe=>q e.symm];intro s;have:=f j (λe=>q e.symm) b s;rcases(SS b d).1 with h|h
    ·omega
    exact this.2 h
   rw[ao _ _ hi]at d;by_cases D:j=1000000
   ·subst D;intro s;have:=f i hi b d;rcases(SS b s).1 with h|h
    ·omega
    exact this.2 h
   rw[ao _ _ D];exact hc.du i j q b d
  by_cases hi:i=1000000
  ·subst hi;exact⟨o b (SS b d).1,(SS b d).2⟩
  rw[ao _ _ hi]at d;have x:=hc.own i b d;refine⟨x.1,acg x.2.1 k4,λh=>?_⟩;rcases k7 b h with h|h|h
  ·exact x.2.2 h
  ·omega
  exact(f i hi b d).2 h
 ·rcases k7 b d with h|h
  ·exact u b h
  simp_all
 refine⟨k1.trans l.os,k2.trans l.tape,k3.trans l.output,abI n k4,λk C H=>?_⟩;rw[k5 k (acg C n) λh=>?_]
 ·exact l.block k C H
 rcases(hc.own _ k h).1 with h|h
 ·omega
 exact H h
def Om{K:Act->World->Prop}{Q:Exit->Act->World->Prop}(hG:kx P V w0)(h:Inv N V w0 S0 σ a w)(o:Oper)(j:gD N o=true){S2:Ask}{ms:List Mv}{L0:List Ob}(hm:lv P σ o S2=some (ms,L0))(A:Mv.runs σ ms=some σ')
 (hs:∀o∈L0,o.ok P)(hK:∀a' w',Inv N V w0 S0 σ' a' w'->K a' w'):Oper.Vg V.rd P o a w K Q:=by
 cases S2 with
 |PZ r=>
  simp only[lv]at hm;split at hm
  ·rename_i S4 obs' h1;cases hm;exact Oo hG h o j h1 A (λob X2=>hs (.call ob)<|List.mem_map_of_mem X2) hK
  simp at hm
 |refs out r=>
  simp only[lv]at hm;split at hm<;>try(simp at hm;done)
  rename_i c cm;split at hm<;>try(simp at hm;done)
  rename_i f hc;unfold gD at j;rw[aby,cm]at j;obtain⟨O,j⟩:=j;simp only[hc,aby]at j;obtain⟨g,p,q,T,e2⟩:=zZ hG h (d:=o.dst) (λx hx=>by rw[hx]at O;simpa using O) f j.2 c.args.toList j.1 hm A hs;have hx:execOp a.eval o=callFunc g (p++(c.args.toList.map a.eval).toArray++q):=by
   have:(c.args.toList.map a.eval).toArray=c.args.map a.eval:=by apply acw;simp
   simp only[execOp,cm,Go.resolve,hc,Deferred.ofValue,T,this];rfl
  refine Oper.oJ (by simp[cm]) ?_;rw[hx];exact e2 _ o a K Q λv w' hi=>hK _ _ hi
 |lZ=>
  simp only[lv]at hm;split at hm<;>try(simp at hm;done)
  rename_i d u;split at hm<;>try(simp at hm;done)
  rename_i t x l hh m cm;split at hm<;>try(simp at hm;done)
  split at hm<;>try(simp at hm;done)
  rename_i S4 hw;cases hm;unfold gD at j;rw[aby,cm]at j;obtain⟨O,j⟩:=j;simp only[u,decide_eq_true_eq]at O;simp only[aby,Option.all_eq_true,adY,Option.isNone_iff_eq_none]at j;exact rj u (by simp only[execOp,cm];rfl) (Ke h O x l hh j.1.1.1.1 j.1.1.1.2 j.1.1.2 hw A) hK
 |PC J' b=>
  simp only[lv]at hm;split at hm<;>try(simp at hm;done)
  rename_i c cm;split at hm<;>try(simp at hm;done)
  rename_i f hc;split at hm<;>try(simp at hm;done)
  rename_i C hC;split at hm<;>try(simp at hm;done)
  rename_i J hJ;split at hm<;>try(simp at hm;done)
  rename_i ys E2;cases hm;unfold gD at j;rw[aby,cm]at j;obtain⟨O,j⟩:=j;simp only[hc,aby]at j;obtain⟨S,F,n,ha,G6,G3,F4,B0⟩:=h;have Y:(resolve σ f).cont=some (.pv C):=by unfold bY.cont;rw[hC]
  obtain⟨F1,T,-⟩:=aQ n f j.2 Y;simp only[Rel]at T;have L:=oF n c.args.toList j.1 E2;obtain⟨l,hv,hy⟩:=hs (.PC C J J' ys b) I _ T.1;have Z:tD.here J w S (F 1000000):=by have:=n.rel 1000000;unfold an at this;rw[hJ]at this;exact this
  obtain⟨fn,S1,H2,body,q1,q2⟩:=hy V.rd w S (F 1000000) _ (hG.Ar B0) (hG.cQ.mono λb hb=>(n.own _ b hb).1) Z (n.nodup _) (λb hb=>(n.own _ b hb).2) n.shr L;have hx:(execOp a.eval o).run P w=.ok (.round l fn S1 H2 body) w:=by
   have:(c.args.toList.map a.eval).toArray=c.args.map a.eval:=by apply acw;simp
   rw[this]at q1;simp only[execOp,cm,Go.resolve,hc,Deferred.ofValue,hv];simp only[Sem.run_bind,Sem.run_pure,Result.andThen_ok];have e2:invoke (.fn (.yield l) #[]) (#[]++Array.map a.eval c.args)=Instr.yield l (Array.map a.eval c.args):=by simp[invoke]
   rw[e2];exact q1
  refine Oper.oJ (by simp[cm]) ?_;rw[hx,Oper.uponIn_round];refine⟨(λh=>by cases h),q2.mono ?_⟩;rintro e w'⟨rfl,S',F',k1,k2,k3,k4,k5,k6,k7,k8,k9,WS,SS⟩;have hi:=Inv.yielded (J':=J') n ha G6 G3 F4 B0 hJ k1 k2 k3 k4 k5 k6 k7 k8 k9 WS SS;show K (a.put o.dst<|.bool b) w';cases u:o.dst with
  |none=>rw[u]at A;simp only[dk,Mv.runs,Mv.run,aaw]at A;subst A;exact hK _ _ hi
  |some d=>rw[u]at A O;simp only[dk,adM,ac4,Mv.runs,Mv.run]at A;cases A;refine hK _ _ (hi.make (M:=[]) (by simpa using O) (Below.refl _ _) λS F _=>⟨[],by simp[Rel,scalar],I,I⟩)
 |WL J' r=>
  simp only[lv]at hm;split at hm<;>try(simp at hm;done)
  rename_i c cm;split at hm<;>try(simp at hm;done)
  rename_i f hc;split at hm<;>try(simp at hm;done)
  rename_i x xs L;split at hm<;>try(simp at hm;done)
  rename_i C hC;split at hm<;>try(simp at hm;done)
  rename_i g hf;split at hm<;>try(simp at hm;done)
  rename_i J hJ;split at hm<;>try(simp at hm;done)
  rename_i ys E2;cases hm;unfold gD at j;rw[aby,cm]at j;obtain⟨O,j⟩:=j;simp only[hc,L,ab7,aby]at j;obtain⟨S,F,n,ha,G6,G3,F4,B0⟩:=h;have Y:(resolve σ x).cont=some (.pv C):=by unfold bY.cont;rw[hC]
  obtain⟨F1,T,-⟩:=aQ n x j.1.1 Y;simp only[Rel]at T;have A0:=oF n xs j.1.2 E2;obtain⟨Ff,q1,-⟩:=aQ n f j.2 hf;simp only[Rel]at q1;obtain⟨af,cf,G1,G2,qe,qa,qc,-⟩:=q1;have P1:af=#[]:=by simp only[Cells]at qa;apply acw;simpa using qa.1
  have H1:cf=#[]:=by simp only[Cells]at qc;apply acw;simpa using qc.1
  subst P1 H1;have Z:tD.here J w S (F 1000000):=by have:=n.rel 1000000;unfold an at this;rw[hJ]at this;exact this
  have F0:=hs (.WL g C J J' ys r) I _ T.1 w S (F 1000000) _ (hG.Ar B0) (hG.cQ.mono λb hb=>(n.own _ b hb).1) Z (n.nodup _) (λb hb=>(n.own _ b hb).2) n.shr A0;have hx:execOp a.eval o=callFunc g (a.eval x::xs.map a.eval).toArray:=by
   have:(c.args.toList.map a.eval).toArray=c.args.map a.eval:=by apply acw;simp
   rw[L,ab8]at this;simp only[execOp,cm,Go.resolve,hc,Deferred.ofValue,qe,this];simp[invoke]
  refine Oper.oJ (by simp[cm]) ?_;rw[hx];refine F0 _ o a K Q λv w' hq=>?_;obtain⟨S',F',k1,k2,k3,k4,k5,k6,k7,k8,k9,WS,SS,Zy⟩:=hq;have hi:=Inv.yielded (J':=J') n ha G6 G3 F4 B0 hJ k1 k2 k3 k4 k5 k6 k7 k8 k9 WS SS;show K (a.put o.dst v) w';cases u:o.dst with
  |none=>rw[u]at A;simp only[dk,Mv.runs,Mv.run,aaw]at A;subst A;exact hK _ _ hi
  |some d=>rw[u]at A O;simp only[dk,adM,ac4,Mv.runs,Mv.run]at A;cases A;refine hK _ _ (hi.make (M:=[]) (by simpa using O) (Below.refl _ _) λS F _=>⟨[],Zy _ _,I,I⟩)
 |Y7=>
  simp only[lv]at hm;split at hm<;>try(simp at hm;done)
  rename_i d u;split at hm<;>try(simp at hm;done)
  rename_i g first z cm
  split at hm<;>try(simp at hm;done)
  rename_i hf0;split at hm<;>try(simp at hm;done)
  rename_i ts W1;split at hm<;>try(simp at hm;done)
  rename_i hne;cases hm;have K2:∀t∈ts,t≠d:=by simpa using hne
  unfold gD at j;rw[aby,cm]at j;obtain⟨O,j⟩:=j;simp only[u,decide_eq_true_eq]at O;simp only[aby]at j;refine rj (s:=Instr.makeFunc (.func g) (first.map a.eval)<|z.map a.eval) u (by simp only[execOp,cm]) ?_ hK;simp only[Mv.cg,aaw]at A;subst A;have T:first.map a.eval=#[]:=by apply acw;simp[hf0]
  have e2:z.map a.eval=(ts.map λt=>tv V a t).toArray:=by apply acw;rw[Array.toList_map,vz (V:=V) W1 j.2]
  refine⟨.func (.func g) #[] (ts.map λt=>tv V a t).toArray,w,by rw[T,e2];rfl,h.put O λS F hc=>?_⟩;unfold an;simp only[aH];refine⟨U,λq hq=>?_,λ_=>?_⟩
  ·obtain⟨t,ht,rfl⟩:=abF.1 hq;rw[ao _ _<|K2 t ht];exact abq _
  rw[adA]
  congr 2
  exact acr λt ht=>by simp only[Function.comp];rw[ao _ _<|K2 t ht]
 |fS out r=>
  simp only[lv]at hm;split at hm<;>try(simp at hm;done)
  rename_i c cm;split at hm<;>try(simp at hm;done)
  rename_i t hc;split at hm<;>try(simp at hm;done)
  rename_i g z hav;split at hm<;>try(simp at hm;done)
  rename_i F3;unfold gD at j;rw[aby,cm]at j;obtain⟨O,j⟩:=j;simp only[hc,aby]at j;simp only[abN,aby,decide_eq_true_eq,beq_iff_eq]at F3;have V0:a.eval (.tmp t)=.func (.func g) #[] (z.map λq=>tv V a q.1).toArray:=by obtain⟨S,F,n,-⟩:=h;rw[iE V a<|fN j.2];have:=n.rel t;unfold an at this;rw[hav]at this;exact this.2.2 λq hq=>(F3 q hq).2
  have E1:(c.args.toList++z.map λq=>Operand.tmp q.1).all aJ=true:=by rw[List.all_append,j.1,ab3,abN];intro x hx;obtain⟨q,hq,rfl⟩:=abF.1 hx;simpa[aJ]using(F3 q hq).1.1
  have hm2:uo o.dst (resolve σ<|.func g) ((c.args.toList++z.map λq=>Operand.tmp q.1).map<|resolve σ) out r=some (ms,L0):=by rw[abQ,adA];exact hm
  obtain⟨g',p,q,T,e2⟩:=zZ hG h (d:=o.dst) (λx hx=>by rw[hx]at O;simpa using O) (.func g) W _ E1 hm2 A hs;have e1':g=g'/\#[]=p/\#[]=q:=by have:Value.func (.func g) #[] #[]=.func (.func g') p q:=T;simpa using this
  obtain⟨rfl,rfl,rfl⟩:=e1';have hcv:z.map (λq=>a.eval<|.tmp q.1)=z.map λq=>tv V a q.1:=acr λq hq=>iE V a (F3 q hq).1.1;have hx:execOp a.eval o=callFunc g (#[]++((c.args.toList++z.map λq=>Operand.tmp q.1).map a.eval).toArray++#[]):=by
   have e3:((c.args.toList++z.map λq=>Operand.tmp q.1).map a.eval).toArray=c.args.map a.eval++(z.map λq=>tv V a q.1).toArray:=by apply acw;rw[abQ,adA];simp only[Array.toList_append,Array.toList_map];rw[<-hcv];rfl
   rw[e3];simp only[execOp,cm,Go.resolve,hc,Deferred.ofValue,V0];simp[invoke]
  refine Oper.oJ (by simp[cm]) ?_;rw[hx];exact e2 _ o a K Q λv w' hi=>hK _ _ hi
 |ext out r=>
  simp only[lv]at hm;split at hm<;>try(simp at hm;done)
  rename_i E1
  replace E1:=(aby _ _▸(Ux E1).1:_/\_).1
  split at hm<;>try(simp at hm;done)
  rename_i S4 H ys hl;cases hm;unfold ME at hl;split at hl<;>try(simp at hl;done)
  rename_i V2 E2;split at hl<;>try(simp at hl;done)
  rename_i P0;simp only[aaw,abY]at hl;obtain⟨rfl,rfl,rfl⟩:=hl;have O:∀x,o.dst=some x->x<N:=by unfold gD at j;rw[aby]at j;intro x hx;have:=j.1;rw[hx]at this;simpa using this
  have hE:=B1 (D:=Ext P o) (λvs w R R' h1 h2=>Ext.mono h1 h2) (first:=[]) (captured:=[]) (af:=#[]) (cf:=#[]) hG h O o.op.operands.toList E1 (λS F hc=>by simp[Cells]) E2 P0 A (by have:=hs (.ext o ((dD []<|o.op.operands.toList.map<|resolve σ).map (·.2)) V2 out r) I;rw[ac4,acj];exactλw S V vs F hl _ hc=>this w S V vs F hl hc)
  obtain⟨nx,v,w',k1,k2,k3⟩:=hE a.eval I;rcases k2 with rfl|⟨rfl,u⟩
  ·exact iy k1<|hK _ _ k3
  refine Oper.oJ (λc hc=>?_) (by rw[k1,Oper.uponIn_skip];rw[u]at k3⊢;exact hK _ _ k3);simp only[execOp,hc]at k1;cases hz:(Go.resolve a.eval c o.type).run P w<;>simp[hz]at k1
 |SP y=>
  simp only[lv]at hm;split at hm<;>try(simp at hm;done)
  rename_i t m x ok cm;split at hm<;>try(simp at hm;done)
  rename_i K0 k h1 h2;split at hm<;>try(simp at hm;done)
  rename_i G5;simp only[aby]at G5;cases hm;unfold gD at j;rw[aby,cm]at j;obtain⟨O,j⟩:=j;simp only[aby]at j;obtain⟨v,hv⟩:∃v,(Instr.lookup t (a.eval m) (a.eval x) ok).run P w=.ok v w:=by obtain⟨S,F,n,-⟩:=h;obtain⟨F1,T,-⟩:=aQ n m j.1 h1;obtain⟨F2,e2,-⟩:=aQ n x j.2 h2;rw[Rel.aG _ e2 G5.1]at e2;simp only[Rel]at T;obtain⟨b,o',k1,k2,k3,-⟩:=T;obtain⟨v,hv,-⟩:=hs (.SP t ok K0 k y) I w S b o' _ k2 k3 e2;exact⟨v,by rw[k1];exact hv⟩
  have G4:∀S F,aT S (cQ V w0) σ (tv V a) w F->Rel w S y v []:=by intro S F n;obtain⟨F1,T,-⟩:=aQ n m j.1 h1;obtain⟨F2,e2,-⟩:=aQ n x j.2 h2;rw[Rel.aG _ e2 G5.1]at e2;simp only[Rel]at T;obtain⟨b,o',k1,k2,k3,-⟩:=T;obtain⟨v',M1,M2⟩:=hs (.SP t ok K0 k y) I w S b o' _ k2 k3 e2;rw[k1,M1]at hv;simp only[Result.ok.injEq]at hv;rw[<-hv.1];exact M2
  refine iy (v:=v) (w':=w) ?_ ?_
  ·simp only[execOp,cm];simp[hv]
  cases u:o.dst with
  |none=>rw[u]at A;simp only[dk,Mv.runs,aaw]at A;subst A;exact hK _ _ h
  |some d=>rw[u]at A O;simp only[dk,ac4,jl,aaw]at A;subst A;exact hK _ _ (h.make (M:=[]) (by simpa using O) (Below.refl _ _) λS F n=>⟨[],G4 S F n,I,I⟩)
 |Qy r=>
  simp only[lv]at hm;split at hm<;>try(simp at hm;done)
  rename_i c cm;split at hm<;>try(simp at hm;done)
  rename_i f hc;split at hm<;>try(simp at hm;done)
  rename_i x xs L;split at hm<;>try(simp at hm;done)
  rename_i g hf;split at hm<;>try(simp at hm;done)
  rename_i sz X hx;split at hm<;>try(simp at hm;done)
  rename_i ys E2;split at hm<;>try(simp at hm;done)
  rename_i G5;cases hm;unfold gD at j;rw[aby,cm]at j;obtain⟨O,j⟩:=j;simp only[hc,L,ab7,aby]at j;obtain⟨S,F,n,ha,G6,G3,F4,B0⟩:=h;obtain⟨F1,T,e2,-⟩:=aQ n x j.1.1 hx;have hn:F1.Nodup:=by
   simp only[Rel]at T;rcases T with⟨-,-,rfl⟩|⟨b,cap,cs,F',-,-,-,-,-,k,rfl⟩
   ·exact acd
   rw[c7.aG _ k G5];simp
  have A0:=oF n xs j.1.2 E2;obtain⟨Ff,q1,-⟩:=aQ n f j.2 hf;simp only[Rel]at q1;obtain⟨af,cf,G1,G2,qe,qa,qc,-⟩:=q1;have P1:af=#[]:=by simp only[Cells]at qa;apply acw;simpa using qa.1
  have H1:cf=#[]:=by simp only[Cells]at qc;apply acw;simpa using qc.1
  subst P1 H1;have F0:=hs (.Qy g sz X ys r) I w S (a.eval x) _ F1 (hG.Ar B0) (hG.cQ.mono λb hb=>by obtain⟨i,hi⟩:=e2 b hb;exact(n.own i b hi).1) T hn (λb hb=>by obtain⟨i,hi⟩:=e2 b hb;exact(n.own i b hi).2) n.shr A0;have hex:execOp a.eval o=callFunc g (a.eval x::xs.map a.eval).toArray:=by
   have:(c.args.toList.map a.eval).toArray=c.args.map a.eval:=by apply acw;simp
   rw[L,ab8]at this;simp only[execOp,cm,Go.resolve,hc,Deferred.ofValue,qe,this];simp[invoke]
  refine Oper.oJ (by simp[cm]) ?_;rw[hex];refine F0 _ o a K Q λv w' hq=>?_;obtain⟨S',F',k1,k2,k3,k4,k5,k6,k7⟩:=hq;exact hK _ _ (Inv.end (λy hy=>by rw[hy]at O;simpa using O) ha G6 n k1 B0 k2 k3 k4 G3 F4 k5 k6 k7 A)
 |PA y=>
  simp only[lv]at hm;split at hm<;>try(simp at hm;done)
  rename_i t x cm;split at hm<;>try(simp at hm;done)
  rename_i C hC;split at hm<;>try(simp at hm;done)
  rename_i J hJ;split at hm<;>try(simp at hm;done)
  cases hm;unfold gD at j;rw[aby,cm]at j;obtain⟨O,j⟩:=j;have Y:(resolve σ x).cont=some (.pv C):=by unfold bY.cont;rw[hC]
  have Z:∀S F,aT S (cQ V w0) σ (tv V a) w F->C (a.eval x)/\tD.here J w S (F 1000000):=λS F n=>by obtain⟨F1,T,-⟩:=aQ n x j Y;simp only[Rel]at T;have:=n.rel 1000000;unfold an at this;rw[hJ]at this;exact⟨T.1,this⟩
  obtain⟨v,hv⟩:∃v,(Instr.loadAt t<|a.eval x).run P w=.ok v w:=by obtain⟨S,F,n,-⟩:=h;obtain⟨k1,k2⟩:=Z S F n;obtain⟨v,hv,-⟩:=hs (.PA t C J y) I w S _ _ k2 k1;exact⟨v,hv⟩
  have G4:∀S F,aT S (cQ V w0) σ (tv V a) w F->Rel w S y v []:=by intro S F n;obtain⟨k1,k2⟩:=Z S F n;obtain⟨v',M1,M2⟩:=hs (.PA t C J y) I w S _ _ k2 k1;rw[M1]at hv;simp only[Result.ok.injEq]at hv;rw[<-hv.1];exact M2
  refine iy (v:=v) (w':=w) ?_ ?_
  ·simp only[execOp,cm];simp[hv]
  cases u:o.dst with
  |none=>rw[u]at A;simp only[dk,Mv.runs,aaw]at A;subst A;exact hK _ _ h
  |some d=>rw[u]at A O;simp only[dk,ac4,jl,aaw]at A;subst A;exact hK _ _<|h.make (M:=[]) (by simpa using O) (Below.refl _ _) λS F n=>⟨[],G4 S F n,I,I⟩
end
def kB(σ:St)(ops:Array Oper)(o:Oper):Option Bool:=
 match o.guard with
 |none=>some true
 |some (j,c)=>match(ops[j]?).bind (·.dst)with
  |some d=>match Nat.blt d 1000000 with
   |true=>match(σ d).av with
    |.v (.bool b)=>some (b==c)
    |.bW []=>some false
    |_=>none
   |false=>none
  |none=>none
def yZ(o:Oper):List Mv:=match o.dst with|some d=>[.put d<|.bW []]|none=>[]
def fu(P:Program)(σ:St)(ops:Array Oper)(o:Oper)(b:Ask):Option (List Mv×List Ob):=
 match kB σ ops o with
 |some true=>lv P σ o b
 |some false=>some (yZ o,[])
 |none=>none
def XD(r:bY):List Nat:=
 match r.sl.av with
 |.pv _=>[1000000]
 |_=>[]
def GF(σ:St):Op->List Nat
 |.move (.tmp t)=>[t]
 |op=>op.operands.toList.flatMap<|re σ
def I4(ops:Array Oper)(o:Oper):List Nat:=match o.guard with
 |some (j,_)=>((ops[j]?).bind (·.dst)).toList
 |none=>[]
def wH(σ:St)(ops:Array Oper)(o:Oper):List Nat:=
 GF σ o.op++I4 ops o++(match o.op with
  |.call c=>match c.callee with
   |.value f=>XD (resolve σ f)++(match c.args.toList with
     |x::_=>XD (resolve σ x)
     |[]=>[])
   |_=>[]
  |.load _ x=>XD (resolve σ x)
  |_=>[])
def QB(σ:St)(o:Oper):Option Nat:=match o.op with
 |.call ⟨.builtin .append,b,_⟩=>match b.toList with
  |[.tmp t,_]=>match(σ t).av with
   |.bC r _ _ (.deref::.idx _ _::_)=>match(resolve σ<|.tmp t).cont with
    |some (.list .own _ _)=>match o.dst with
     |some d=>if d=r then none else some r
     |none=>none
    |_=>none
   |_=>none
  |_=>none
 |_=>none
def iD(σ:St)(ops:Array Oper)(o:Oper):List Nat:=match vu σ o.op with
 |some (a,r)=>(if a=r then[]else[3*a])++(I4 ops o).map (3* ·)++[3*r+1]
 |none=>(wH σ ops o).map (3* ·)++(match QB σ o with
  |some r=>[3*r+2]
  |none=>[])
section
variable{P:Program}{N:Nat}{w0 w w':World}{V:Hid}{S S0 S':Nat->Prop}{B:Nat->Prop}{σ σ' τ:St}{a:Act}{F:Nat->List Nat}{K:Act->World->Prop}{Q:Exit->Act->World->Prop}{ops:Array Oper}{o:Oper}
def Oq{e:AV}(h:∀x∈o.op.operands.toList,resolve τ x=resolve σ x):Al P τ o e=Al P σ o e:=by
 have m1:∀(l:List Operand),(∀x∈l,resolve τ x=resolve σ x)->l.map (resolve τ)=l.map (resolve σ):=λl hl=>acr hl;have i:∀(l:Option Operand),(∀x∈l,resolve τ x=resolve σ x)->l.map (resolve τ)=l.map (resolve σ):=λl hl=>by cases l<;>simp_all
 cases k:o.dst with
 |none=>
  simp[Al,k];cases cm:o.op<;>simp only[cm,Op.operands]at h⊢
  case store t a x=>simp at h;rw[h.1,h.2]
  case call c=>cases hc:c.callee<;>simp only[hc,Call.operands]at h⊢;simp at h;rw[h.1,m1 c.args.toList<|by simpa using h.2]
 |some d=>
  simp[Al,k];cases cm:o.op<;>simp only[cm,Op.operands]at h⊢
  case slice t x l hh m=>simp at h;rw[h.1,i l λy b=>h.2 y<|.inl b,i hh λy b=>h.2 y<|.inr<|.inl b,i m λy b=>h.2 y<|.inr<|.inr b]
  case makeFunc f p q=>simp at h;rw[m1 p.toList λy b=>h y<|.inl<|by simpa using b,m1 q.toList λy b=>h y<|.inr<|by simpa using b]
  case build t g=>simp at h;have:(g.toList.map λp=>resolve τ p.2)=g.toList.map λp=>resolve σ p.2:=acr λp j=>h p.2 p.1 (by simpa using j);rw[this]
  case buildSlice t n g=>simp at h;have:(g.toList.map λp=>resolve τ p.2)=g.toList.map λp=>resolve σ p.2:=acr λp j=>h p.2 p.1 (by simpa using j);rw[this]
  case call c=>
   cases hc:c.callee<;>simp only[hc,Call.operands]at h⊢
   ·simp at h;rw[h.1,m1 c.args.toList<|by simpa using h.2]
   simp at h;rw[m1 c.args.toList<|by simpa using h]
  all_goals(first|rfl|(simp at h;simp[h]))
def yY:∀{xs:List Operand}{b:List Nat},slotsOf xs=some b->∀t∈b,Operand.tmp t∈xs
 |[],b,h,t,c=>by simp[slotsOf]at h;subst h;cases c
 |.tmp u::xs,b,h,t,c=>by
  simp[slotsOf]at h;split at h<;>try(cases h;done)
  rename_i d e;cases h;rcases abz.1 c with rfl|c
  ·simp
  exact acR _ (yY e t c)
 |.const _::_,b,h,_,_=>by simp[slotsOf]at h
 |.func _::_,b,h,_,_=>by simp[slotsOf]at h
 |.global _::_,b,h,_,_=>by simp[slotsOf]at h
def HG{a:Nat}(c:∀s∈roots σ a,τ s=σ s):qW τ a=qW σ a:=by
 have e:=c a (by unfold roots;split<;>simp);unfold qW;rw[e];cases b:(σ a).av with
 |bC r g1 g2 p=>have d:=c r (by unfold roots;rw[b];simp);simp[d]
 |_=>rfl
def HF{op:Op}(b:∀x∈op.operands.toList,∀s∈re σ x,τ s=σ s):vu τ op=vu σ op:=by
 unfold vu;split
 ·rename_i t a;exact HG λs hs=>b (.tmp a) (by simp[Op.operands]) s hs
 rfl
def On{z:Ask}(A:∀x∈o.op.operands.toList,∀s∈re σ x,τ s=σ s)(h:∀x∈o.op.operands.toList,resolve τ x=resolve σ x)(n:∀c f C,o.op=.call c->c.callee=.value f->(resolve σ f).sl.av=.pv C->τ 1000000=σ 1000000)
 (O:∀c f x xs C,o.op=.call c->c.callee=.value f->c.args.toList=x::xs->(resolve σ x).sl.av=.pv C->τ 1000000=σ 1000000)
 (M:∀t x C,o.op=.load t x->(resolve σ x).sl.av=.pv C->τ 1000000=σ 1000000):lv P τ o z=lv P σ o z:=by
 cases z with
 |PZ r=>simp only[lv,Oq h]
 |refs out r=>
  have m1:∀(l:List Operand),(∀x∈l,resolve τ x=resolve σ x)->l.map (resolve τ)=l.map (resolve σ):=λl hl=>acr hl;simp only[lv];cases cm:o.op<;>simp only[cm,Op.operands]at h⊢
  case call c=>cases hc:c.callee<;>simp only[hc,Call.operands]at h⊢;simp at h;rw[h.1,m1 c.args.toList<|by simpa using h.2]
 |lZ=>
  have H:∀(l:Option Operand),(∀x∈l,resolve τ x=resolve σ x)->l.map (resolve τ)=l.map (resolve σ):=λl hl=>by cases l<;>simp_all
  simp only[lv];cases o.dst with
  |none=>rfl
  |some d=>
   cases cm:o.op<;>simp only[cm,Op.operands]at h⊢
   case slice t x l hh m=>simp at h;rw[h.1,H l λy n=>h.2 y<|.inl n,H hh λy n=>h.2 y<|.inr<|.inl n]
 |PC J' b=>
  have m1:∀(l:List Operand),(∀x∈l,resolve τ x=resolve σ x)->l.map (resolve τ)=l.map (resolve σ):=λl hl=>acr hl;simp only[lv];cases cm:o.op<;>simp only[cm,Op.operands]at h⊢
  case call c=>
   cases hc:c.callee<;>simp only[hc,Call.operands]at h⊢
   case value f=>
    simp at h;rw[h.1,m1 c.args.toList<|by simpa using h.2];cases L:(resolve σ f).sl.av<;>simp only
    case pv C=>rw[n c f C cm hc L]
 |Y7=>
  simp only[lv];cases o.dst with
  |none=>rfl
  |some d=>
   cases cm:o.op<;>simp only[cm,Op.operands]at A⊢
   case makeFunc f p q=>
    cases f<;>simp only;cases p.toList<;>simp only;cases hs:slotsOf q.toList<;>simp only;rename_i g T;have:(T.map λt=>(t,(τ t).g1))=T.map λt=>(t,(σ t).g1):=acr λt X=>by have:=yY hs t X;rw[A (.tmp t) (by simp;right;simpa using this) t<|by simp only[re,roots];split<;>simp]
    rw[this]
 |fS out r=>
  simp only[lv];cases cm:o.op<;>simp only[cm,Op.operands]at A h⊢
  case call c=>
   cases hc:c.callee<;>simp only[hc,Call.operands]at A h⊢
   case value f=>
    cases f with
    |tmp t=>
     have Y:τ t=σ t:=A (.tmp t) I t (by simp only[re,roots];split<;>simp);simp only[Y];cases R:(σ t).av<;>simp only
     case fS g j=>
      have eq:∀q∈j,τ q.1=σ q.1:=λq v=>A (.tmp t) I q.1 (by simp only[re,roots,R];simp only[abz,abF];exact .inr ⟨q,v,W⟩);have Z:j.all (λq=>decide (q.1<1000000)&&(τ q.1).av.plain&&(τ q.1).g1==q.2)=j.all (λq=>decide (q.1<1000000)&&(σ q.1).av.plain&&(σ q.1).g1==q.2):=by rw[aeP,abN,abN];exact⟨λk q v=>by have:=k q v;rwa[eq q v]at this,λk q v=>by have:=k q v;rwa[eq q v]⟩
      rw[Z];split
      ·rename_i J;simp only[abN,aby]at J;have m1:c.args.toList.map (resolve τ)=c.args.toList.map (resolve σ):=acr λx D=>h x (by simp;right;simpa using D);have H:(j.map λq=>resolve τ<|.tmp q.1)=j.map λq=>resolve σ (.tmp q.1):=acr λq v=>by
        refine resolve_congr _ λs hs=>?_;have u:=(J q v).1.2;have:s=q.1:=by
         simp only[re,roots]at hs;split at hs
         ·rename_i e;rw[e]at u;simp[AV.plain]at u
         ·rename_i e;rw[e]at u;simp[AV.plain]at u
         ·rename_i e;rw[e]at u;simp[AV.plain]at u
         simpa using hs
        rw[this];exact eq q v
       rw[m1,H];rfl
      rfl
    |_=>rfl
 |WL J' r=>
  have m1:∀(l:List Operand),(∀x∈l,resolve τ x=resolve σ x)->l.map (resolve τ)=l.map (resolve σ):=λl hl=>acr hl;simp only[lv];cases cm:o.op<;>simp only[cm,Op.operands]at h⊢
  case call c=>
   cases hc:c.callee<;>simp only[hc,Call.operands]at h⊢
   case value f=>
    simp at h;cases i:c.args.toList with
    |nil=>rfl
    |cons x xs=>
     have D:∀y∈x::xs,resolve τ y=resolve σ y:=λy n=>h.2 y (by rw[<-i]at n;simpa using n);simp only[h.1,D x I,m1 xs λy n=>D y<|by simp[n]];cases L:(resolve σ x).sl.av<;>simp only
     case pv C=>rw[O c f x xs C cm hc i L]
 |Qy r=>
  have m1:∀(l:List Operand),(∀x∈l,resolve τ x=resolve σ x)->l.map (resolve τ)=l.map (resolve σ):=λl hl=>acr hl;simp only[lv];cases cm:o.op<;>simp only[cm,Op.operands]at h⊢
  case call c=>
   cases hc:c.callee<;>simp only[hc,Call.operands]at h⊢
   case value f=>
    simp at h;cases i:c.args.toList with
    |nil=>rfl
    |cons x xs=>have D:∀y∈x::xs,resolve τ y=resolve σ y:=λy n=>h.2 y (by rw[<-i]at n;simpa using n);simp only[h.1,D x I,m1 xs λy n=>D y<|by simp[n]]
 |PA y=>
  simp only[lv];cases cm:o.op<;>simp only[cm,Op.operands]at h⊢
  case load t x=>
   simp at h;rw[h];cases L:(resolve σ x).sl.av<;>simp only
   case pv C=>rw[M t x C cm L]
 |ext out r=>
  have m1:o.op.operands.toList.map (resolve τ)=o.op.operands.toList.map (resolve σ):=acr h;have H:rq τ o.op=rq σ o.op:=by unfold rq;rw[HF A]
  simp only[lv,m1,H]
 |SP y=>
  simp only[lv];cases cm:o.op<;>simp only[cm,Op.operands]at h⊢
  case lookup t m x ok=>simp at h;rw[h.1,h.2]
def Gi{t d:Nat}(h:τ t=σ t):dc d (resolve τ<|.tmp t)=dc d (resolve σ<|.tmp t):=by simp[resolve,bY.of,h];cases(σ t).av<;>rfl
def QI{b:Ask}{t:Nat}(c:o.op=.move (.tmp t))(h:τ t=σ t):lv P τ o b=lv P σ o b:=by
 have e:∀d,dc d (resolve τ<|.tmp t)=dc d (resolve σ<|.tmp t):=λd=>Gi h;cases b with
 |PZ r=>
  simp[lv,Al,c];cases o.dst with
  |none=>rfl
  |some d=>simp[e]
 |ext out r=>simp[lv,c,rq,MZ]
 |_=>simp[lv,c]
def yQ(h:∀s∈I4 ops o,τ s=σ s):kB τ ops o=kB σ ops o:=by
 unfold kB;split
 ·rfl
 rename_i j b c;cases e:(ops[j]?).bind (·.dst)with
 |none=>rfl
 |some d=>simp only;rw[h d<|by unfold I4;simp[c,e]]
def FX{b:Ask}(h:∀s∈wH σ ops o,τ s=σ s):fu P τ ops o b=fu P σ ops o b:=by
 have l:lv P τ o b=lv P σ o b:=by
  by_cases hm:∃t,o.op=.move (.tmp t)
  ·obtain⟨t,i⟩:=hm;exact QI i<|h t<|by unfold wH;rw[i];simp[GF]
  have k:GF σ o.op=o.op.operands.toList.flatMap (re σ):=by
   unfold GF;split
   ·rename_i t i;simp_all
   rfl
  exact On (λx g s hs=>h s (by
   unfold wH;rw[k,abJ,abJ,ab1];exact .inl<|.inl ⟨x,g,hs⟩)) (λx g=>resolve_congr x λs hs=>h s (by
   unfold wH;rw[k,abJ,abJ,ab1];exact .inl<|.inl ⟨x,g,hs⟩)) (λc f C e d j=>h _ (by
   unfold wH;rw[e];simp[d,XD,j])) (λc f x n C e d j m=>h _ (by
   unfold wH;rw[e];simp[d,XD,j,m])) (λt x C e d=>h _ (by
   unfold wH;rw[e];simp[XD,d]))
 unfold fu;rw[yQ λs hs=>h s<|by unfold wH;rw[abJ,abJ];exact .inl<|.inr hs,l]
def H8{x:AV}(h:KN x=true):∃o sz xs,x=.box o (.list .own sz xs):=by
 unfold KN at h;split at h
 ·simp_all
 cases h
def MR{x y:Sl}{o:Bool}{sz:Nat}{xs:List AV}(c:x.av=.box o (.list .own sz xs))(h:rC y=rC x):(∃ys,y.av=.box o (.list .own sz ys))/\y.g1=x.g1/\y.g2=x.g2:=by
 have f:rC x=⟨.box o<|.list .own sz [],x.g1,x.g2⟩:=by unfold rC;rw[c]
 rw[f]at h;unfold rC at h;split at h
 ·rename_i g i b ys e;simp at h;simp_all
 rename_i d;simp_all
def uP{d t a r:Nat}(hs:qW σ a=some (a,r))(y:a≠r->τ a=σ a)(s:rC (τ r)=rC (σ r)):sn P d t (resolve τ<|.tmp a)=sn P d t (resolve σ<|.tmp a)/\qW τ a=some (a,r):=by
 have k:∀(ti:TI)(f:Fl)(sz:Nat)(g e:List AV),fits ti (.list f sz g)=fits ti (.list f sz e):=λ_ _ _ _ _=>rfl;unfold qW at hs;split at hs
 ·rename_i v g1 g2 p b;split at hs
  ·rename_i hc;obtain⟨rfl,q,u⟩:=hc;simp[true_and]at hs;subst hs;obtain⟨o,sz,g,c⟩:=H8 q;obtain⟨⟨e,h⟩,l,m⟩:=MR c s;have j:a≠v:=by rintro rfl;rw[c]at b;cases b
   have i:=y j;constructor
   ·unfold sn;cases n:cu P t with
    |none=>rfl
    |some ti=>simp[resolve,bY.of,i,b,bY.addr,bY.cont,c,h,l,m,u,NP,bp,xM,AV.plain,AV.aG,AV.cell,k ti .own sz e g,if_true]
   unfold qW;rw[i,b];simp[h,l,u,KN,if_true]
  cases hs
 rename_i x j;split at hs
 ·rename_i q;simp[true_and]at hs;subst hs;obtain⟨o,sz,g,c⟩:=H8 q;obtain⟨⟨e,h⟩,l,m⟩:=MR c s;constructor
  ·unfold sn;cases n:cu P t with
   |none=>rfl
   |some ti=>simp[resolve,bY.of,c,h,bY.addr,l,m,bp,AV.aG,AV.cell,k ti .own sz e g,if_true]
  unfold qW;rw[h];simp[KN]
 cases hs
def H5{b:Ask}(p:∀s,3*s∈iD σ ops o->τ s=σ s)(z:∀r,3*r+1∈iD σ ops o->rC (τ r)=rC (σ r)):fu P τ ops o b=fu P σ ops o b:=by
 cases hs:vu σ o.op with
 |none=>refine FX λs g=>p s ?_;unfold iD;rw[hs];exact List.mem_append_left _ (abF.2 ⟨s,g,W⟩)
 |some q=>
  obtain⟨a,r⟩:=q;have m:iD σ ops o=(if a=r then[]else[3*a])++(I4 ops o).map (3* ·)++[3*r+1]:=by unfold iD;rw[hs]
  have j:=hs;unfold vu at hs;split at hs
  ·rename_i t c cm;have e:c=a:=by
    unfold qW at hs;split at hs<;>split at hs<;>simp at hs<;>exact hs.1
   subst e;have n:c≠r->τ c=σ c:=λl=>p c (by rw[m,if_neg l];simp);have k:rC (τ r)=rC (σ r):=z r (by rw[m];simp);have x:kB τ ops o=kB σ ops o:=yQ λs g=>p s (by rw[m];simp only[abJ,abF];exact .inl<|.inr ⟨s,g,W⟩);have v:lv P τ o b=lv P σ o b:=by
    cases b with
    |PZ u=>
     simp[lv,Al,cm];cases o.dst with
     |none=>rfl
     |some d=>simp[(uP (P:=P) (d:=d) (t:=t) hs n k).1]
    |ext out u=>
     have k1:rq σ o.op=false:=by unfold rq;rw[j];split<;>rfl
     have k2:vu τ o.op=some (c,r):=by rw[cm];exact(uP (P:=P) (d:=0) (t:=t) hs n k).2
     have k3:rq τ o.op=false:=by unfold rq;rw[k2];split<;>rfl
     simp only[lv,k1,k3];rfl
    |PA y=>
     have gen:∀h:St,qW h c=some (c,r)->lv P h o (.PA y)=none:=by
      intro h f;have hn:∀C,(resolve h<|.tmp c).sl.av≠.pv C:=by
       intro C i;have e:(h c).av=.pv C:=by simp[resolve,bY.of]at i;split at i<;>first|exact i|(simp[Sl.none]at i)
       unfold qW at f;rw[e]at f;simp[KN]at f
      simp[lv,cm]
     rw[gen σ hs,gen τ (uP (P:=P) (d:=0) (t:=t) hs n k).2]
    |_=>simp[lv,cm]
   unfold fu;rw[x,v]
  cases hs
def J3{d t r g1 g2:Nat}{p:Path}{x y:bY}{e:List Mv}{sz:Nat}{xs:List AV}(h:lj P d t x y=some e)(c:x.sl.av=.bC r g1 g2 p)(hc:x.cont=some (.list .own sz xs)):
 ∃b z,e=[.take r d p,.make (d::b) d z]/\r∉b:=by
 unfold lj at h;split at h<;>try(cases h)
 split at h<;>try(cases h)
 split at h<;>try(cases h)
 split at h<;>try(cases h)
 simp only at h;split at h<;>try(cases h)
 rename_i b g;split at h<;>try(cases h)
 rw[hc]at h;simp only[c]at h;split at h<;>try(cases h)
 split at h<;>try(cases h;done)
 rename_i f;simp at h;exact⟨b,_,h.symm,f⟩
def Qa{i sz:Nat}{p:Path}{h x av:AV}(hs:eJ x (.deref::.idx i sz::p) h=some av):∃xs ys,x=.box true (.list .own sz xs)/\av=.box true (.list .own sz ys):=by
 cases x with
 |box o X=>
  cases o with
  |false=>simp[eJ]at hs
  |true=>
   simp[eJ]at hs;obtain⟨d,b,rfl⟩:=hs;cases X with
   |list f c xs=>
    cases f with
    |own=>
     simp only at b;split at b
     ·rename_i e;simp[abr]at b;obtain⟨_,_,_,_,rfl⟩:=b;simp_all
     cases b
    |_=>simp at b
   |_=>simp at b
 |_=>simp[eJ]at hs
def NR{r d i sz:Nat}{p:Path}{M:List Nat}{z:AV}(b:d≠r)(j:r∉M)(c:Mv.runs σ [.take r d<|.deref::.idx i sz::p,.make (d::M) d z]=some σ'):rC (σ' r)=rC (σ r):=by
 simp[Mv.runs,Mv.run]at c;rw[if_neg b]at c;split at c<;>try(cases c;done)
 rename_i g f;split at f<;>try(cases f)
 rename_i y s;split at f<;>try(cases f;done)
 rename_i av hs;simp at f c;subst f;subst c;have m:made (iI (iI σ r<|ju (σ r) (.deref::.idx i sz::p) av) d ⟨y,(σ d).g1+1,(σ d).g2⟩) (d::M) d z r=ju (σ r) (.deref::.idx i sz::p) av:=by
  have k:r∉d::M:=by simp;exact⟨λe=>b e.symm,j⟩
  simp[made,k];rw[if_neg λe=>b e.symm,ao _ _ λe=>b e.symm,aH]
 rw[m];have l:ju (σ r) (.deref::.idx i sz::p) av=⟨av,(σ r).g1,(σ r).g2⟩:=by unfold ju;rw[if_neg I]
 rw[l];obtain⟨q,n,h,rfl⟩:=Qa hs;unfold rC;rw[h]
def TO{h:Ask}{r:Nat}{n:List Mv}{m:List Ob}(b:QB σ o=some r)(hm:fu P σ ops o h=some (n,m))(s:Mv.runs σ n=some σ'):rC (σ' r)=rC (σ r):=by
 unfold QB at b;split at b<;>try(cases b)
 rename_i H C cm;split at b<;>try(cases b)
 rename_i t y g;split at b<;>try(cases b)
 rename_i D g1 g2 i sz p x;split at b<;>try(cases b)
 rename_i J O hc;split at b<;>try(cases b)
 rename_i d v;split at b<;>try(cases b;done)
 rename_i j;simp at b;subst b;unfold fu at hm;split at hm<;>try(cases hm;done)
 ·have u:∃A z,n=[.take D d<|.deref::.idx i sz::p,.make (d::A) d z]/\D∉A:=by
   cases h with
   |PZ q=>
    simp[lv,Al,v,cm,g,acX]at hm;cases c:kz P d .append C.toList [resolve σ<|.tmp t,resolve σ y]with
    |none=>rw[c]at hm;simp[gj]at hm
    |some L=>
     rw[c]at hm;obtain⟨rfl,-⟩:=hm;cases f:C.toList with
     |nil=>rw[f]at c;simp[kz]at c
     |cons T l=>
      cases l with
      |nil=>rw[f]at c;simp[kz]at c
      |cons R l=>
       cases l with
       |cons _ _=>rw[f]at c;simp[kz]at c
       |nil=>
        rw[f]at c;simp[kz]at c;split at c<;>try(cases c)
        exact J3 (g1:=g1) (g2:=g2) c (by simp[resolve,bY.of,x]) hc
   |ext out q=>
    have k:rq σ o.op=false:=by unfold rq MZ;rw[cm];simp
    simp[lv,k]at hm
   |_=>simp[lv,cm,v]at hm
  obtain⟨A,z,rfl,M⟩:=u;exact NR j M s
 cases hm;simp[yZ,v,Mv.cg]at s;subst s;rw[ao _ _ λe=>j e.symm]
def yP(h:aT S B σ (tv V a) w F){b:Bool}(g:kB σ ops o=some b):Region.wanted o (yielded ops a.tmps)=b:=by
 unfold kB at g;unfold Region.wanted;split at g
 ·rename_i m;rw[m];simpa using g
 rename_i j p m;rw[m];simp only;split at g
 ·rename_i d q;unfold yielded;rw[q];simp;have l:=h.rel d;split at g<;>try(cases g)
  rename_i k;have k:=ab6 (show Nat.ble (d+1) 1000000=true from k);split at g
  ·rename_i r i;rw[an.aA<|by rw[i];rfl,i]at l;have c:=l.2.1;have:a.tmps[d]?=some (.bool r):=by
    rw[vp V a<|.inl k]at c;by_cases f:d<a.tmps.size
    ·rw[aco f];simp[f]at c;rw[c]
    simp[f,undef]at c
   rw[this];simpa using g
  ·rename_i i;rw[an.aA<|by rw[i];rfl,i]at l;obtain⟨s,e,n,-⟩:=l;have c:tv V a d=.tuple #[]:=by rw[e];simpa using n
   cases g;rw[vp V a<|.inl k]at c;by_cases f:d<a.tmps.size
   ·rw[aco f];simp[f]at c;rw[c];simp
   rw[adW<|Nat.le_of_not_lt f];simp
  cases g
 cases g
def BD(n:kx P V w0)(h:Inv N V w0 S0 σ a w)(b:gD N o=true){g:Ask}{l:List Mv}{e:List Ob}(hm:fu P σ ops o g=some (l,e))(c:Mv.runs σ l=some σ')
 (hs:∀o∈e,o.ok P)(k:∀m w',Inv N V w0 S0 σ' m w'->K m w'):
 if Region.wanted o (yielded ops a.tmps)then Oper.Vg V.rd P o a w K Q else K (a.put o.dst undef) w:=by
 obtain⟨S,F,hc,-⟩:=id h;unfold fu at hm;split at hm
 ·rename_i i;rw[yP hc i];exact Om n h o b hm c hs k
 ·rename_i i;rw[yP hc i];cases hm;unfold yZ at c;split at c
  ·rename_i d f;rw[f];have j:d<N:=by
    unfold gD at b;rw[aby,f]at b;simpa using b.1
   simp[Mv.cg]at c;subst c;exact k _ _ (h.iS j λS F _=>by simp[Rel,Cells,undef])
  rename_i f;rw[f];simp[Mv.runs]at c;subst c;exact k _ _ h
 cases hm
end
section
variable{a:Act}{V:Hid}{N:Nat}{S0:Nat->Prop}{σ:St}{w w0:World}
def Marks(_V:Hid)(w0 w:World)(S:Nat->Prop)(F:Nat->List Nat)(b:List Deferred):Prop:=b.Nodup/\∀d∈b,∃D,d={target:=.collected D,args:=#[]}/\w.heap[D]?=some (.deferred<|some [])/\w0.heap.size<=D/\¬S D/\∀i,D∉F i
def o5(N:Nat)(V:Hid)(w0:World)(S0:Nat->Prop)(σ:St)(a:Act)(w:World):Prop:=∃S F c,aT S (cQ V w0) σ (tv V a) w F/\a.tmps.size=N/\a.defers=c++V.df/\(∀b,S0 b->S b)/\(∀b,S b->S0 b\/cQ V w0 b)/\lW V w0 w/\Marks V w0 w S F c
def Inv.x(h:Inv N V w0 S0 σ a w):o5 N V w0 S0 σ a w:=by obtain⟨S,F,g,f,e,d,c,b⟩:=h;exact⟨S,F,[],g,f,e,d,c,b,acd,I⟩
def R0:Option Nat->Prop:=λr=>r=none
def R1:Option Nat->Prop:=λ_=>True
def AW(R:Option Nat->Prop)(P:Program)(N:Nat)(c:Code)(Q:Exit->St->Prop)(σ:St):Prop:=∀(V:Hid)(w0:World)(S0:Nat->Prop)(a:Act)(w:World),R V.rd/\kx P V w0->Inv N V w0 S0 σ a w->c.wpIn (FW V.rd) 0 P (λe b w'=>∃σ',Q e σ'/\o5 N V w0 S0 σ' b w') a w
def Hid.Su(V:Hid)(F:Nat->List Nat)(c:List Deferred):Hid:={v:=V.v,g:=λb=>∃i,b∈F i,rd:=V.rd,df:=c}
def AW.x{R:Option Nat->Prop}{P:Program}{c:Code}{Q:Exit->St->Prop}(h:AW R P N c Q σ)(L:R V.rd/\kx P V w0)(hi:o5 N V w0 S0 σ a w):
 c.wpIn (FW V.rd) 0 P (λe a' w'=>∃σ',Q e σ'/\o5 N V w0 S0 σ' a' w') a w:=by
 obtain⟨S,F,t,hc,hN,K,C,A,j,J,hm⟩:=hi;have l:=j.size;have p:∀b,cQ (V.Su F<|t++V.df) w b->cQ V w0 b:=by
  rintro b(f|⟨i,f⟩)
  ·exact .inl<|abI l f
  exact(hc.own i b f).1
 have s:∀d∈t,∀D,d={target:=.collected D,args:=#[]}->D<w.heap.size/\¬S D/\(∀i,D∉F i)/\w.heap[D]?=some (.deferred<|some [])/\w0.heap.size<=D:=by intro d m D e;obtain⟨D',M,k1,k2,k4,k5⟩:=hm d m;rw[e]at M;simp at M;subst M;exact⟨(acA.1 k1).1,k4,k5,k1,k2⟩
 have H:∀D,D<w.heap.size->(∀i,D∉F i)->¬cQ (V.Su F<|t++V.df) w D:=by
  rintro D h1 h3(f|⟨i,f⟩)
  ·omega
  exact h3 i f
 refine wpIn_mono (h (V.Su F<|t++V.df) w S a w ⟨L.1,L.2.Ar j,L.2.cQ.mono λb⟨i,f⟩=>(hc.own i b f).1⟩ ⟨S,F,⟨hc.rel,hc.nodup,hc.du,λi b f=>⟨.inr ⟨i,f⟩,(hc.own i b f).2⟩,hc.shr⟩,hN,K,λ_ h=>h,λ_ h=>.inl h,lW.refl _ _⟩) ?_;rintro e a' w'⟨σ',hq,S',F',O,n,kN,z,u,r,g,v,X⟩;refine⟨σ',hq,S',F',O++t,⟨n.rel,n.nodup,n.du,λi b f=>⟨p b (n.own i b f).1,(n.own i b f).2⟩,n.shr⟩,kN,by rw[z,abG];rfl,λb f=>u b<|C b f,λb f=>?_,?_,?_,?_⟩
 ·rcases r b f with f|f
  ·exact A b f
  simp_all
 ·refine⟨g.os.trans j.os,g.tape.trans j.tape,g.output.trans j.output,abI l g.size,λk Y Z=>?_⟩;rw[g.block k (acg Y l) ?_]
  ·exact j.block k Y Z
  rintro⟨i,f⟩;rcases(hc.own i k f).1 with h|h
  ·omega
  exact Z h
 ·refine abC.2 ⟨v,J,λx hx y hy e=>?_⟩;subst e;obtain⟨D,q,-,k2,-⟩:=X x hx;have:=(s x hy D q).1;omega
 intro d m;rcases abJ.1 m with m|m
 ·obtain⟨D,q,k1,k2,k4,k5⟩:=X d m;exact⟨D,q,k1,abI l k2,k4,k5⟩
 obtain⟨D,q,-⟩:=hm d m;obtain⟨T,l3,l4,l5,l6⟩:=s d m D q;have hn:=H D T l4;refine⟨D,q,?_,l6,λh=>?_,λi h=>hn (n.own i D h).1⟩
 ·rw[g.block D T λh=>hn<|.inr h];exact l5
 rcases r D h with h|h
 ·exact l3 h
 exact hn h
def Vb(P:Program)(ops:Array Oper):List Oper->St->(St->Prop)->Prop
 |[],σ,K=>K σ
 |o::rest,σ,K=>∃c d b σ',fu P σ ops o c=some (d,b)/\(∀e∈b,e.ok P)/\Mv.runs σ d=some σ'/\Vb P ops rest σ' K
def sQ(P:Program)(ops:Array Oper):List Oper->St->List (List Nat×List Nat)->(List (List Nat×List Nat)->St->Prop)->Prop
 |[],σ,b,K=>K b.reverse σ
 |o::rest,σ,b,K=>∃d e c σ',fu P σ ops o d=some (e,c)/\(∀f∈c,f.ok P)/\Mv.runs σ e=some σ'/\
   sQ P ops rest σ' ((iD σ ops o,bc e)::b) K
def BS(b:List Nat)(o:Oper):Nat:=o.after.toList.foldl (λm e=>if Region.binds .any e then m|||(b.getD e.on 0)|||(1<<<e.on)else m) 0
def aam:List Oper->List Nat->List Nat
 |[],b=>b
 |o::rest,b=>aam rest<|b++[BS b o]
def indep(x y:List Nat×List Nat):Bool:=(x.2.all λs=> !y.1.contains (3*s)&& !y.2.contains s&&(!y.1.contains (3*s+1)||x.1.contains (3*s+2)))&&(y.2.all λs=> !x.1.contains (3*s)&&(!x.1.contains (3*s+1)||y.1.contains (3*s+2)))
def lower(ops:List Oper):Bool:=(List.range ops.length).all λj=>((ops[j]?).map λo=>o.after.toList.all λe=> !Region.binds .any e||decide (e.on<j)).getD true
def apart(c:List Nat)(b:List (List Nat×List Nat))(n:Nat):Bool:=(List.range n).all λj=>(List.range j).all λi=>(c.getD j 0).testBit i||indep (b.getD i ([],[])) (b.getD j ([],[]))
end
section
variable{R:Option Nat->Prop}{P:Program}{N:Nat}{w0 w w':World}{V:Hid}{S S0 S':Nat->Prop}{B:Nat->Prop}{σ σ' τ:St}{a:Act}{F:Nat->List Nat}{ops:Array Oper}{o:Oper}
def DQ{id:Nat}{K:St->Prop}(f:ops.toList.all (gD N)=true)(h:Vb P ops ops.toList σ K):AW R P N (.region id ops false) (λe σ'=>e=.normal/\K σ') σ:=by
 intro V w0 S0 a w m hi;refine wpIn_region_list ?_;have:∀(l:List Oper)(σ:St)(a:Act)(w:World),l.all (gD N)=true->Vb P ops l σ K->Inv N V w0 S0 σ a w->
  wpListIn (FW V.rd) 0 P ops (λe b w'=>∃σ',(e=.normal/\K σ')/\o5 N V w0 S0 σ' b w') l a w:=by
  intro l
  induction l with
  |nil=>intro σ a w _ hs hi;exact⟨σ,⟨W,hs⟩,hi.x⟩
  |cons o l k=>
   intro σ a w g hs hi;simp only[ab7,aby]at g;obtain⟨i,s,j,σ',r,q,p,n⟩:=hs;have:=BD (ops:=ops) (K:=wpListIn (FW V.rd) 0 P ops (λe b w'=>∃σ',(e=.normal/\K σ')/\o5 N V w0 S0 σ' b w') l) (Q:=λe b w'=>∃σ',(e=.normal/\K σ')/\o5 N V w0 S0 σ' b w') m.2 hi g.1 r p q λb w' d=>k σ' b w' g.2 n d;unfold wpListIn;split
   ·rename_i c;rw[if_pos c]at this;exact this
   rename_i c;rw[if_neg c]at this;exact⟨λ_ _=>trivial,this⟩
 exact this _ σ a w f h hi
def sQ.spec:∀(l:List Oper)(σ:St)(e:List (List Nat×List Nat))(K:List (List Nat×List Nat)->St->Prop),sQ P ops l σ e K->
 ∃(b:Nat->St)(rs:Nat->Ask)(c:Nat->List Mv)(d:Nat->List Ob)(R:List (List Nat×List Nat)),b 0=σ/\R.length=l.length/\K (e.reverse++R) (b l.length)/\
  ∀k o,l[k]?=some o->fu P (b k) ops o (rs k)=some (c k,d k)/\(∀g∈d k,g.ok P)/\Mv.runs (b k) (c k)=some (b<|k+1)/\R[k]?=some (iD (b k) ops o,bc<|c k)
 |[],σ,e,K,h=>⟨λ_=>σ,λ_=>.PZ .dead,λ_=>[],λ_=>[],[],W,W,by simpa[sQ]using h,I⟩
 |o::l,σ,e,K,h=>by
  obtain⟨f,j,g,σ',r,q,p,n⟩:=h;obtain⟨b,rs,c,d,R,v,u,t,s⟩:=sQ.spec l σ' _ K n;refine⟨λk=>match k with|0=>σ|k+1=>b k,λk=>match k with|0=>f|k+1=>rs k,λk=>match k with|0=>j|k+1=>c k,λk=>match k with|0=>g|k+1=>d k,(iD σ ops o,bc j)::R,W,by simp[u],by simpa using t,?_⟩;intro k m i;cases k with
  |zero=>simp at i;subst i;exact⟨r,q,by simp only;rw[v];exact p,W⟩
  |succ k=>exact s k m i
def wg:∀(l:List Oper)(b:List Nat),∃r,aam l b=b++r/\r.length=l.length
 |[],b=>⟨[],by simp[aam],W⟩
 |o::l,b=>by obtain⟨r,d,c⟩:=wg l<|b++[BS b o];exact⟨BS b o::r,by simp[aam,d],by simp[c]⟩
def EB:∀(l:List Oper)(b:List Nat)(k:Nat)(o:Oper),l[k]?=some o->(aam l b)[b.length+k]?=some (BS ((aam l b).take<|b.length+k) o)
 |[],b,k,o,h=>by cases h
 |o::l,b,0,o',h=>by simp at h;subst h;obtain⟨r,c,d⟩:=wg l<|b++[BS b o];simp[aam,c]
 |o::l,b,k+1,o',h=>by have:=EB l (b++[BS b o]) k o' h;simp at this;rw[show b.length+(k+1)=b.length+1+k from E];exact this
def OF{b:List Nat}{i:Nat}(h:(BS b o).testBit i=true):∃e∈o.after,Region.binds .any e=true/\(i=e.on\/(b.getD e.on 0).testBit i=true):=by
 have gen:∀(l:List Edge)(m:Nat),(l.foldl (λm e=>if Region.binds .any e then m|||(b.getD e.on 0)|||(1<<<e.on)else m) m).testBit i=true->
  m.testBit i=true\/∃e∈l,Region.binds .any e=true/\(i=e.on\/(b.getD e.on 0).testBit i=true):=by
  intro l
  induction l with
  |nil=>intro m h;exact .inl h
  |cons e l f=>
   intro m h;rw[acK]at h;rcases f _ h with h|⟨j,d,c⟩
   ·split at h
    ·rename_i g;rw[Nat.testBit_or,Nat.testBit_or,adY,adY]at h;rcases h with(h|h)|h
     ·exact .inl h
     ·simp_all
     refine .inr ⟨e,I,g,.inl ?_⟩;rw[Nat.one_shiftLeft,Nat.testBit_two_pow]at h;simp_all
    exact .inl h
   exact .inr ⟨j,by simp[d],c⟩
 rcases gen _ 0 h with h|⟨e,d,c⟩
 ·simp at h
 exact⟨e,by simpa using d,c⟩
def kQ{l:List Oper}{L:Nat->Prop}(q:∀j o,L j->l[j]?=some o->∀e∈o.after,Region.binds .any e=true->L e.on):
 ∀(j:Nat)(o:Oper),l[j]?=some o->(∀e∈o.after,Region.binds .any e=true->L e.on)->∀i,((aam l []).getD j 0).testBit i=true->L i:=by
 intro j
 induction j using Nat.strongRecOn with
 |ind j m=>
  intro o h n i hi;have k:=EB l [] j o h;simp at k;rw[abx,k]at hi;obtain⟨e,s,r,b⟩:=OF hi;rcases b with rfl|b
  ·simp_all
  rw[abx,acE]at b;split at b
  ·rename_i d;have p:=(acU.1 h).1;have c:e.on<l.length:=E;refine m e.on d _ (abA c) (λt f g=>q e.on _ (n e s r) (abA c) t f g) i ?_;rw[abx];exact b
  simp at b
end
section
variable{R:Option Nat->Prop}{P:Program}{N:Nat}{w0 w w':World}{V:Hid}{S S0 S':Nat->Prop}{σ σ' τ:St}{a:Act}{ops:Array Oper}{o:Oper}
section
variable{j n s:Nat}{L:Nat->Bool}{mss:Nat->List Mv}
def merge(b:Nat->St)(mss:Nat->List Mv)(L:Nat->Bool)(s:Nat):Nat->Sl
 |0=>b 0 s
 |k+1=>if L k=true/\s∈bc (mss k)then b (k+1) s else merge b mss L s k
def BQ{b:Nat->St}(f:∀k,k<n->Mv.runs (b k) (mss k)=some (b<|k+1))(g:j<=n)
 (h:∀i,i<n->s∈bc (mss i)->(i<j->L i=true)/\(j<=i->L i=false)):merge b mss L s n=b j s:=by
 have m:∀k,k<=j->merge b mss L s k=b k s:=by
  intro k
  induction k with
  |zero=>intro _;rfl
  |succ k c=>
   intro e;unfold merge;by_cases hs:s∈bc (mss k)
   ·rw[if_pos ⟨(h k E hs).1 E,hs⟩]
   rw[if_neg λhh=>hs hh.2,c E,uG (f k E) hs]
 have l:∀k,j<=k->k<=n->merge b mss L s k=b j s:=by
  intro k
  induction k with
  |zero=>intro e _;have:j=0:=E;subst this;rfl
  |succ k c=>
   intro e hn;by_cases d:j=k+1
   ·subst d;simp_all
   unfold merge;rw[if_neg λhh=>?_,c E E];have:=(h k E hh.2).2 E;rw[this]at hh;simp at hh
 simp_all
def Ey{b:Nat->St}{mss:Nat->List Mv}{L d:Nat->Bool}{s:Nat}{j:Nat}(c:∀i,i≠j->d i=L i)(hs:s∉bc (mss j)):∀n,merge b mss d s n=merge b mss L s n
 |0=>rfl
 |n+1=>by
  unfold merge;rw[Ey c hs n];by_cases e:n=j
  ·subst e;rw[if_neg λh=>hs h.2,if_neg λh=>hs h.2]
  rw[c n e]
def KX{c:Nat->St}(p:∀k,k<n->Mv.runs (c k) (mss k)=some (c<|k+1))(u:j<=n)
 (h:∀i,i<n->s∈bc (mss i)->((i<j->L i=true)/\(j<=i->L i=false))\/rC (c (i+1) s)=rC (c i s))
 (r:∀i k,i<k->k<n->s∈bc (mss i)->s∈bc (mss k)->L k=true->L i=true):rC (merge c mss L s n)=rC (c j s):=by
 have v:∀k,k<=j->rC (merge c mss L s k)=rC (c k s):=by
  intro k
  induction k with
  |zero=>intro _;rfl
  |succ k f=>
   intro g;unfold merge;by_cases hc:L k=true/\s∈bc (mss k)
   ·rw[if_pos hc]
   rw[if_neg hc,f E];by_cases hs:s∈bc (mss k)
   ·rcases h k E hs with l|l
    ·exact absurd ⟨l.1 E,hs⟩ hc
    exact l.symm
   rw[uG (p k E) hs]
 have t:∀k,j<=k->k<=n->(∀i,j<=i->i<k->s∈bc (mss i)->rC (c (i+1) s)=rC (c i s))->rC (c k s)=rC (c j s):=by
  intro k
  induction k with
  |zero=>intro g _ _;have:j=0:=E;subst this;rfl
  |succ k f=>
   intro g hn hh;by_cases d:j=k+1
   ·subst d;rfl
   rw[<-f E E λi a b=>hh i a E];by_cases hs:s∈bc (mss k)
   ·exact hh k E E hs
   rw[uG (p k E) hs]
 have l:∀k,j<=k->k<=n->rC (merge c mss L s k)=rC (c j s):=by
  intro k
  induction k with
  |zero=>intro g _;have:j=0:=E;subst this;rfl
  |succ k f=>
   intro g hn;by_cases d:j=k+1
   ·subst d;simp_all
   unfold merge;by_cases hc:L k=true/\s∈bc (mss k)
   ·rw[if_pos hc];refine t (k+1) g hn λi a b hs=>?_;have q:L i=true:=by
     by_cases e:i=k
     ·rw[e];exact hc.1
     exact r i k E E hs hc.2 hc.1
    rcases h i E hs with m|m
    ·have:=m.2 a;rw[this]at q;cases q
    exact m
   rw[if_neg hc,f E E]
 simp_all
def Le{x y:List Nat×List Nat}(h:indep x y=true):(∀s∈x.2,3*s∉y.1/\s∉y.2/\(3*s+1∈y.1->3*s+2∈x.1))/\∀s∈y.2,3*s∉x.1/\(3*s+1∈x.1->3*s+2∈y.1):=by
 unfold indep at h;simp at h;refine⟨λs hs=>?_,λs hs=>?_⟩
 ·obtain⟨⟨a,b⟩,c⟩:=h.1 s hs;exact⟨a,b,λhh=>c.resolve_left λg=>g hh⟩
 obtain⟨a,c⟩:=h.2 s hs;exact⟨a,λhh=>c.resolve_left λg=>g hh⟩
def ES{P:Program}{σ σ':St}{ops:Array Oper}{o:Oper}{b:Ask}{d:List Mv}{c:List Ob}(h:3*s+2∈iD σ ops o)(hm:fu P σ ops o b=some (d,c))(e:Mv.runs σ d=some σ'):rC (σ' s)=rC (σ s):=by
 unfold iD at h;split at h
 ·rename_i a r _;simp only[abJ,abF,adC]at h;rcases h with(h|⟨x,_,h⟩)|h
  ·split at h
   ·cases h
   simp at h;omega
  all_goals omega
 simp at h;rcases h with⟨x,_,h⟩|h
 ·omega
 split at h
 ·rename_i r f;simp at h;have:s=r:=E;subst this;exact TO f hm e
 cases h
structure Told(P:Program)(N:Nat)(ops:Array Oper)(σs:Nat->St)(mss:Nat->List Mv):Prop where
 flat:∀(k:Nat)(o:Oper),ops[k]?=some o->gD N o=true
 step:∀(k:Nat)(o:Oper),ops[k]?=some o->Mv.runs (σs k) (mss k)=some (σs<|k+1)/\∃res obs,fu P (σs k) ops o res=some (mss k,obs)/\∀ob∈obs,ob.ok P
 low:∀(k:Nat)(o:Oper),ops[k]?=some o->∀e∈o.after,Region.binds .any e=true->e.on<k
 ord:∀(i j:Nat)(oi oj:Oper),i<j->ops[i]?=some oi->ops[j]?=some oj->((aam ops.toList []).getD j 0).testBit i=true\/
  ((∀s∈bc (mss i),3*s∉iD (σs j) ops oj/\s∉bc (mss j)/\(3*s+1∈iD (σs j) ops oj->rC (σs (i+1) s)=rC (σs i s)))/\∀s∈bc (mss j),3*s∉iD (σs i) ops oi/\(3*s+1∈iD (σs i) ops oi->rC (σs (j+1) s)=rC (σs j s)))
def Kd{d:Nat->St}(hG:kx P V w0)(T:Told P N ops d mss){Q:Exit->Act->World->Prop}(hQ:∀a w,Inv N V w0 S0 (d ops.size) a w->Q .normal a w):
 ∀(g:Nat)(listed:Array Bool)(f:List Nat)(τ:St)(a:Act)(w:World),listed.size=ops.size->f.length<=g->f.Nodup->(∀i,i<ops.size->listed.getD i true=false->i∈f)->
  (∀(j:Nat)(o:Oper),listed.getD j false=true->ops[j]?=some o->∀e∈o.after,Region.binds .any e=true->listed.getD e.on false=true)->
  (∀s,τ s=merge d mss (λi=>listed.getD i false) s ops.size)->Inv N V w0 S0 τ a w->wpAnyIn (FW V.rd) 0 P .any ops Q g listed a w:=by
 have hr:∀k,k<ops.size->Mv.runs (d k) (mss k)=some (d<|k+1):=λk t=>(T.step k _<|aco t).1;have B:∀(listed:Array Bool)(τ:St)(a:Act)(w:World),listed.size=ops.size->(∀s,τ s=merge d mss (λi=>listed.getD i false) s ops.size)->Inv N V w0 S0 τ a w->
  Region.ready .any ops listed=[]->Q .normal a w:=by
  intro listed τ a w m q hi H;have F2:∀i,i<ops.size->listed.getD i false=true:=by
   intro i
   induction i using Nat.strongRecOn with
   |ind i ih=>
    intro p;cases hl:listed.getD i false with
    |true=>rfl
    |false=>
     have:i∈Region.ready .any ops listed:=mem_ready.2 ⟨?_,ops[i],aco p,λe he C=>?_⟩
     ·rw[H]at this;cases this
     ·simp[Array.getD,m,p,dite_true]at hl⊢;exact hl
     have:=T.low i _ (aco p) e he C;exact ih e.on this E
  refine hQ a w ?_;have:τ=d ops.size:=funext λs=>by rw[q s,BQ hr (abq _) λi hi _=>⟨λ_=>F2 i hi,λh=>E⟩]
  rw[<-this];exact hi
 intro g
 induction g with
 |zero=>
  intro listed f τ a w m F0 Z l x q hi;have H:Region.ready .any ops listed=[]:=by
   cases hh:Region.ready .any ops listed with
   |nil=>rfl
   |cons j _=>
    have:j∈Region.ready .any ops listed:=by rw[hh];simp
    obtain⟨h1,o,h2,-⟩:=mem_ready.1 this;have:=l j (acA.1 h2).1 h1;have:f=[]:=adp.1 E;subst this;simp at*
  exact⟨H,B listed τ a w m q hi H⟩
 |succ g ih=>
  intro listed f τ a w m F0 Z l x q hi;refine⟨B listed τ a w m q hi,λj hj=>?_⟩;obtain⟨hl,o,z,y⟩:=mem_ready.1 hj;have v:j<ops.size:=(acA.1 z).1;have M:listed.getD j false=false:=by simp[Array.getD,m,v,dite_true]at hl⊢;exact hl
  have r:∀(k:Nat)(o:Oper),listed.getD k false=true->ops.toList[k]?=some o->∀e∈o.after,Region.binds .any e=true->listed.getD e.on false=true:=λk o h1 h2=>x k o h1 (by simpa using h2)
  have u:∀s,3*s∈iD (d j) ops o\/s∈bc (mss j)->∀i,i<ops.size->i≠j->s∈bc (mss i)->(i<j->listed.getD i false=true)/\(j<=i->listed.getD i false=false):=by
   intro s hs i c b t;refine⟨λp=>?_,λH2=>?_⟩
   ·rcases T.ord i j _ o p (aco c) z with h|⟨h,-⟩
    ·exact kQ (L:=λk=>listed.getD k false=true) r j o (by simpa using z) y i h
    rcases hs with hs|hs
    ·exact absurd hs (h s t).1
    exact absurd hs (h s t).2.1
   have p:j<i:=E;rcases T.ord j i o _ p z (aco c)with h|⟨h1,h2⟩
   ·cases A0:listed.getD i false with
    |false=>rfl
    |true=>have:=kQ (L:=λk=>listed.getD k false=true) r i _ (by rw[acS];exact aco c) (λe he C=>x i _ A0 (aco c) e he C) j h;rw[M]at this;cases this
   rcases hs with hs|hs
   ·exact absurd hs (h2 s t).1
   exact absurd t (h1 s hs).2.1
  have F3:∀s,3*s∈iD (d j) ops o\/s∈bc (mss j)->τ s=d j s:=by
   intro s hs;rw[q s];refine BQ hr E λi c t=>?_;by_cases b:i=j
   ·subst b;exact⟨λh=>E,λ_=>M⟩
   exact u s hs i c b t
  have H1:∀s,3*s+1∈iD (d j) ops o->rC (τ s)=rC (d j s):=by
   intro s hs;rw[q s];refine KX hr E (λi c t=>?_) (λi k G6 B0 G5 G4 G3=>?_)
   ·by_cases b:i=j
    ·subst b;exact .inl ⟨λh=>E,λ_=>M⟩
    by_cases p:i<j
    ·rcases T.ord i j _ o p (aco c) z with h|⟨h,-⟩
     ·exact .inl ⟨λ_=>kQ (L:=λk=>listed.getD k false=true) r j o (by simpa using z) y i h,λh=>E⟩
     exact .inr<|(h s t).2.2 hs
    rcases T.ord j i o _ E z (aco c)with h|⟨-,h⟩
    ·refine .inl ⟨λh=>E,λ_=>?_⟩;cases A0:listed.getD i false with
     |false=>rfl
     |true=>have:=kQ (L:=λk=>listed.getD k false=true) r i _ (by rw[acS];exact aco c) (λe he C=>x i _ A0 (aco c) e he C) j h;rw[M]at this;cases this
    exact .inr<|(h s t).2 hs
   rcases T.ord i k _ _ G6 (aco E) (aco B0)with h|⟨h,-⟩
   ·exact kQ (L:=λk=>listed.getD k false=true) r k _ (by rw[acS];exact aco B0) (λe he C=>x k _ G3 (aco B0) e he C) i h
   exact absurd G4 (h s G5).2.1
  obtain⟨E2,G1,G2,O,F⟩:=T.step j o z;have J:fu P τ ops o G1=some (mss j,G2):=by rw[H5 (λs hs=>F3 s<|.inl hs) H1];exact O
  obtain⟨F4,r1,r2,r3⟩:=qj (mss j) (τ:=τ) (λs hs=>F3 s<|.inr hs) E2;unfold wpOpIn;rw[z];have D:=BD (ops:=ops) (o:=o) (K:=wpAnyIn (FW V.rd) 0 P .any ops Q g<|listed.setIfInBounds j true) (Q:=Q) hG hi (T.flat j o z) J r1 F ?_
  ·show if _ then _ else _;split
   ·rename_i hw;rw[if_pos hw]at D;exact D
   rename_i hw;rw[if_neg hw]at D;exact⟨λ_ _=>trivial,D⟩
  intro a' w' c;have Y:∀i,i≠j->(listed.setIfInBounds j true).getD i false=listed.getD i false:=λi b=>getD_set_ne false λe=>b e.symm;have E1:(listed.setIfInBounds j true).getD j false=true:=by simp[Array.getD,m,v]
  refine ih _ (f.erase j) F4 a' w' (by simpa using m) ?_ (Z.erase j) (λi A hh=>?_) (λk o' t X e he C=>?_) (λs=>?_) c
  ·have:=l j v hl;rw[List.length_erase_of_mem this];omega
  ·have b:i≠j:=by
    rintro rfl;simp[Array.getD,m,v]at hh
   rw[List.Nodup.mem_erase_iff Z];refine⟨b,l i A ?_⟩;have:=getD_set_ne (listed:=listed) true (λe=>b e.symm:j≠i);rw[this]at hh;exact hh
  ·by_cases F1:k=j
   ·subst F1;rw[z]at X;cases X;exact getD_set_true<|y e he C
   rw[Y k F1]at t;exact getD_set_true<|x k o' t X e he C
  by_cases hs:s∈bc (mss j)
  ·rw[r2 s hs];symm;refine BQ hr E λi A t=>?_;by_cases b:i=j
   ·subst b;exact⟨λ_=>E1,λh=>E⟩
   have:=u s (.inr hs) i A b t;rw[Y i b];exact⟨λh=>this.1 E,λh=>this.2 E⟩
  rw[r3 s hs,q s];exact(Ey (λi b=>Y i b) hs _).symm
def aT.drew{B:Nat->Prop}{F:Nat->List Nat}{T:Nat->Value}(h:aT S B σ T w F):aT S B σ T {w with drawn:=w.drawn+1} F:=
 h.step (w':={w with drawn:=w.drawn+1}) (S':=S) ⟨λ_=>.refl,λ_=>.refl,λ_ _=>rfl,λ_ _ _=>⟨λ_ y b=>⟨y,b⟩,λ_ _=>rfl⟩⟩ (λ_ h=>h)
  (λ_=>.inl ⟨W,W,W,λ_ _=>rfl⟩) h.nodup h.du h.own h.shr
def Inv.drew(h:Inv N V w0 S0 σ a w):Inv N V w0 S0 σ a {w with drawn:=w.drawn+1}:=by obtain⟨S,F,hc,f,e,d,c,b⟩:=h;exact⟨S,F,hc.drew,f,e,d,c,⟨b.os,b.tape,b.output,b.size,b.block⟩⟩
def DR{id:Nat}{K:St->Prop}(hm:P.follows .mixedOrders=true)(v:ops.toList.all (gD N)=true)(c:lower ops.toList=true){A:List Nat}(r:aam ops.toList []=A)
 (h:sQ P ops ops.toList σ [] λm σ'=>apart A m ops.size=true/\K σ'):AW R P N (.region id ops true) (λe σ'=>e=.normal/\K σ') σ:=by
 intro V w0 S0 a w hR hi;refine wpIn_region_any hm ?_;obtain⟨d,rs,mss,Q,R,e0,e1,⟨D,C⟩,q⟩:=sQ.spec _ _ _ _ h;simp at e1 D C;have Z:Told P N ops d mss:=by
  refine⟨λk o l=>?_,λk o l=>?_,λk o l e he Y=>?_,λi j z y u p f=>?_⟩
  ·exact abN.1 v o (by have:=Array.mem_of_getElem? l;simpa using this)
  ·obtain⟨x,b,h3,-⟩:=q k o (by simpa using l);exact⟨h3,_,_,x,b⟩
  ·unfold lower at c;have X:=(acA.1 l).1;have:=abN.1 c k (by simpa using X);rw[acS,l]at this;simp only[aeq,Option.getD_some,abN,adY,decide_eq_true_eq]at this;rcases this e (by simpa using he)with h|h
   ·rw[Y]at h;cases h
   exact h
  have t:=(acA.1 f).1;have x:=abN.1 D j (by simpa using t);have b:=abN.1 x i (by simpa using u);obtain⟨-,-,-,r1⟩:=q i z (by simpa using p);obtain⟨-,-,-,J⟩:=q j y (by simpa using f);rw[adY]at b;rw[r];rcases b with b|b
  ·exact .inl b
  rw[abx,abx,r1,J]at b;obtain⟨i1,B⟩:=Le b;obtain⟨O,-,M,-⟩:=q i z (by simpa using p);obtain⟨H,-,F,-⟩:=q j y (by simpa using f);exact .inr ⟨λs hs=>⟨(i1 s hs).1,(i1 s hs).2.1,λh=>ES ((i1 s hs).2.2 h) O M⟩,λs hs=>⟨(B s hs).1,λh=>ES ((B s hs).2 h) H F⟩⟩
 refine Kd (w0:=w0) (S0:=S0) hR.2 Z (λa' w' g=>⟨_,⟨W,C⟩,g.x⟩) ops.size _ (List.range ops.size) σ a _ I I List.nodup_range (λi g _=>by simpa using g) (λj o t=>?_) (λs=>?_) hi.drew
 ·simp[Array.getD]at t
 have:∀n,merge d mss (λi=>(Array.replicate ops.size false).getD i false) s n=d 0 s:=by
  intro n
  induction n with
  |zero=>rfl
  |succ n T=>unfold merge;rw[if_neg λhh=>?_,T];have:=hh.1;simp[Array.getD]at this
 rw[this,e0]
end
end
end Go.Ai
