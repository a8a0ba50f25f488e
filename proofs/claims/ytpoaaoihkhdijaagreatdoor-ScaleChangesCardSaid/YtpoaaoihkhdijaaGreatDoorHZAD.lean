/- Parts of the proof of ScaleChanges (as AIM.md's row tells), at every input, with no further conditions. -/
import Derived.Test.YtpoaaoihkhdijaaGreatDoorHZAC
import Derived.RangeFuncSeq
set_option linter.all false
set_option maxRecDepth 100000
set_option maxHeartbeats 0
namespace Go.Ai
open Go.RowKit
def mk:List (Nat×Sl)->St
 |[]=>λ_=>⟨.dead,0,0⟩
 |(d,x)::l=>λi=>if i=d then x else mk l i
def entry:Nat->List AV->List (Nat×Sl)
 |_,[]=>[]
 |k,x::xs=>(k,⟨x,0,0⟩)::entry (k+1) xs
def pF:∀(xs:List AV)(k i:Nat),mk (entry k xs) i=if k<=i then(match xs[i-k]?with|some x=>⟨x,0,0⟩|none=>⟨.dead,0,0⟩)else⟨.dead,0,0⟩
 |[],k,i=>by simp[entry,mk]
 |x::xs,k,i=>by
  simp[entry,mk];rw[pF xs (k+1) i]
  grind
def xW:∀(l m:List (Nat×Sl))(i:Nat),i∉l.map (·.1)->mk (l++m) i=mk m i
 |[],m,i,_=>rfl
 |(d,x)::l,m,i,h=>by simp only[afc,adZ,not_or]at h;simp[mk,h.1];exact xW l m i h.2
def sg:∀(l m:List (Nat×Sl))(i:Nat),i∈l.map (·.1)->mk (l++m) i=mk l i
 |[],m,i,h=>by cases h
 |(d,x)::l,m,i,h=>by
  simp only[afc,adZ]at h;simp[mk];by_cases e:i=d
  ·simp[e]
  simp[e];exact sg l m i<|h.resolve_left e
def qM:∀(xs:List AV)(k i:Nat),i∈(entry k xs).map (·.1)↔k<=i/\i<k+xs.length
 |[],k,i=>by simp[entry]
 |x::xs,k,i=>by simp[entry,qM xs (k+1) i];omega
def both(args H:List AV):St:=mk<|entry 0 args++entry 1000000 H
def gM{args H:List AV}{i:Nat}(h:i<1000000):both args H i=match args[i]?with|some x=>⟨x,0,0⟩|none=>⟨.dead,0,0⟩:=by
 unfold both;by_cases hi:i<args.length
 ·rw[sg _ _ _<|(qM args 0 i).2 ⟨E,E⟩,pF];simp
 rw[xW _ _ _ (λhh=>by have:=(qM args 0 i).1 hh;omega),pF,if_neg E,afL E]
def fT{args H:List AV}(b:args.length<=1000000)(k:Nat):both args H (1000000+k)=match H[k]?with|some x=>⟨x,0,0⟩|none=>⟨.dead,0,0⟩:=by unfold both;rw[xW _ _ _ (λhh=>by have:=(qM args 0 _).1 hh;omega),pF];simp
def LP{args H:List AV}:∀i,(both args H i).g1=0/\(both args H i).g2=0:=by
 intro i;have:∀(l:List (Nat×Sl)),(∀q∈l,q.2.g1=0/\q.2.g2=0)->(mk l i).g1=0/\(mk l i).g2=0:=by
  intro l
  induction l with
  |nil=>intro _;simp[mk]
  |cons q l d=>
   intro h;simp only[adZ,forall_eq_or_imp]at h;simp[mk]
   grind
 refine this _ λq c=>?_;have hh:∀(b:List AV)(k:Nat),∀q∈entry k b,q.2.g1=0/\q.2.g2=0:=by
  intro b
  induction b with
  |nil=>intro k q c;simp[entry]at c
  |cons x b d=>
   intro k q c;simp[entry]at c
   grind
 grind
def bg(V:Hid)(b:List Value):Nat->Value:=λi=>if i<1000000 then b.getD i undef else V.v i
def Hh(P:Program)(f:FuncId)(H args d:List AV)(r:AV):Prop:=
 ∀(w:World)(S:Nat->Prop)(V:Hid)(c:List Value)(F:Nat->List Nat),c.length=args.length->kx P V w->aT S V.g (both args H) (bg V c) w F->
  vh P f c.toArray w λv w'=>∃S' e,tV V w w w'/\(∀b,S b->S' b)/\(∀b,S' b->S b\/cQ V w b)/\aT S' (cQ V w) (both [r] d) (bg V [v]) w' e
abbrev tD:=World->(Nat->Prop)->List Nat->Prop
def tD.here(J:tD)(w:World)(S:Nat->Prop)(F:List Nat):Prop:=∀w' S',(∀b,S b\/b∈F->w'.heap[b]?=w.heap[b]?)->(∀b,S b->S' b)->J w' S' F
def Yields(P:Program)(J J':tD)(x:List AV)(b:Bool)(v:Value):Prop:=
 ∃l,v=.func (.yield l) #[] #[]/\∀(rd:Option Nat)(w:World)(S:Nat->Prop)(F:List Nat)(f:List Value),Laid P w->Af P (·∈F)->J.here w S F->F.Nodup->(∀c∈F,c<w.heap.size/\¬S c)->(∀c,S c->c<w.heap.size)->Cells w S false x f []->
  YieldAt (FW rd) 0 P l f.toArray w λe w'=>e=.returned (.bool b)/\∃S' d,w'.os=w.os/\w'.tape=w.tape/\w'.output=w.output/\w.heap.size<=w'.heap.size/\(∀k,k<w.heap.size->k∉F->w'.heap[k]?=w.heap[k]?)/\
   (∀c,S c->S' c)/\(∀c,S' c->S c\/w.heap.size<=c\/c∈F)/\(∀c,S' c->c<w'.heap.size)/\J'.here w' S' d/\d.Nodup/\∀c∈d,(w.heap.size<=c\/c∈F)/\c<w'.heap.size/\¬S' c
def ZP(P:Program)(g:FuncId)(C:Value->Prop)(J J':tD)(x:List AV)(r:AV):Prop:=
 ∀(v:Value),C v->∀(w:World)(S:Nat->Prop)(F:List Nat)(d:List Value),Laid P w->Af P (·∈F)->J.here w S F->F.Nodup->(∀c∈F,c<w.heap.size/\¬S c)->(∀c,S c->c<w.heap.size)->Cells w S false x d []->
  vh P g (v::d).toArray w λy w'=>∃S' b,w'.os=w.os/\w'.tape=w.tape/\w'.output=w.output/\w.heap.size<=w'.heap.size/\(∀k,k<w.heap.size->k∉F->w'.heap[k]?=w.heap[k]?)/\
   (∀c,S c->S' c)/\(∀c,S' c->S c\/w.heap.size<=c\/c∈F)/\(∀c,S' c->c<w'.heap.size)/\J'.here w' S' b/\b.Nodup/\(∀c∈b,(w.heap.size<=c\/c∈F)/\c<w'.heap.size/\¬S' c)/\∀e f,Rel e f r y []
def Looks(P:Program)(t:TypeId)(ok:Bool)(K:Obj->Prop)(k y:AV):Prop:=∀(w:World)(S:Nat->Prop)(b:Nat)(o:Obj)(c:Value),w.heap[b]?=some o->K o->Rel w S k c []->∃v,(Instr.lookup t (.map<|some b) c ok).run P w=.ok v w/\Rel w S y v []
def Query(P:Program)(g:FuncId)(sz:Nat)(X ys:List AV)(r:AV):Prop:=
 ∀(w:World)(S:Nat->Prop)(e:Value)(d:List Value)(c:List Nat),Laid P w->Af P (·∈c)->Rel w S (.list .own sz X) e c->c.Nodup->(∀b∈c,b<w.heap.size/\¬S b)->(∀b,S b->b<w.heap.size)->Cells w S false ys d []->
  vh P g (e::d).toArray w λv w'=>∃S' F,Below w.heap.size w w'/\(∀b,S b->S' b)/\(∀b,S' b->S b\/w.heap.size<=b)/\(∀b,S' b->b<w'.heap.size)/\Rel w' S' r v F/\F.Nodup/\∀b∈F,w.heap.size<=b/\b<w'.heap.size/\¬S' b
def NC(P:Program)(t:TypeId)(C:Value->Prop)(J:tD)(y:AV):Prop:=∀(w:World)(S:Nat->Prop)(F:List Nat)(v:Value),J.here w S F->C v->∃z,(Instr.loadAt t v).run P w=.ok z w/\Rel w S y z []
def Ext(P:Program)(o:Oper)(d:Array Value)(w:World)(R:Value->World->Prop):Prop:=∀c:Operand->Value,o.op.operands.toList.map c=d.toList->∃b v w',(execOp c o).run P w=.ok b w'/\(b=.value v\/(b=.skip/\o.dst=none))/\R v w'
def Ext.mono{P:Program}{o:Oper}{c:Array Value}{w:World}{R d:Value->World->Prop}(g:∀v w',R v w'->d v w')(h:Ext P o c w R):Ext P o c w d:=λe b=>by
 obtain⟨f,v,w',k1,k2,k3⟩:=h e b
 grind
def SI(P:Program)(o:Oper)(H args d:List AV)(r:AV):Prop:=
 ∀(w:World)(S:Nat->Prop)(V:Hid)(c:List Value)(F:Nat->List Nat),c.length=args.length->aT S V.g (both args H) (bg V c) w F->
  Ext P o c.toArray w λv w'=>∃S' e,tV V w w w'/\(∀b,S b->S' b)/\(∀b,S' b->S b\/cQ V w b)/\aT S' (cQ V w) (both [r] d) (bg V [v]) w' e
inductive Ob
 |call (o:VZ)
 |refs (g:FuncId) (H args out:List AV) (r:AV)
 |PC (C:Value->Prop) (J J':tD) (x:List AV) (b:Bool)
 |SP (t:TypeId) (ok:Bool) (K:Obj->Prop) (k y:AV)
 |ext (o:Oper) (H args out:List AV) (r:AV)
 |WL (g:FuncId) (C:Value->Prop) (J J':tD) (x:List AV) (r:AV)
 |Qy (g:FuncId) (sz:Nat) (X ys:List AV) (r:AV)
 |PA (t:TypeId) (C:Value->Prop) (J:tD) (y:AV)
def Ob.ok(P:Program):Ob->Prop
 |.call o=>Sound P o.1 o.2.1 o.2.2
 |.refs g H args out r=>Hh P g H args out r
 |.PC C J J' x b=>∀v,C v->Yields P J J' x b v
 |.SP t ok K k y=>Looks P t ok K k y
 |.ext o H args out r=>SI P o H args out r
 |.WL g C J J' x r=>ZP P g C J J' x r
 |.Qy g sz X ys r=>Query P g sz X ys r
 |.PA t C J y=>NC P t C J y
def qX(x:bY):Option (Nat×AV):=
 match x.sl.av with
 |.bC r _ _ _=>some (r,x.rt.av)
 |.ptr r _ _ _=>some (r,x.rt.av)
 |y=>if y.aG then none else match x.s with
  |some s=>some (s,y)
  |none=>none
def iP:List (Nat×AV)->Nat->Option Nat
 |[],_=>none
 |(r,_)::R,s=>if r=s then some 0 else match iP R s with
  |some k=>some (k+1)
  |none=>none
def dD:List (Nat×AV)->List bY->List (Nat×AV)
 |R,[]=>R
 |R,x::xs=>match qX x with
  |some (r,y)=>match iP R r with
   |some _=>dD R xs
   |none=>dD (R++[(r,y)]) xs
  |none=>dD R xs
def tU(R:List (Nat×AV))(x:bY):Option AV:=
 match x.sl.av with
 |.bC r g1 g2 p=>match iP R r with
  |some k=>if x.rt.g1=g1 then if kh p=true\/x.rt.g2=g2 then some (.bC (1000000+k) 0 0 p)else none else none
  |none=>none
 |.ptr r g1 g2 p=>match iP R r with
  |some k=>if x.rt.g1=g1 then if flat p=true\/x.rt.g2=g2 then some (.ptr (1000000+k) 0 0 p)else none else none
  |none=>none
 |y=>if y.aG then some y else match x.s with
  |some s=>match iP R s with
   |some k=>some (.bC (1000000+k) 0 0 [])
   |none=>none
  |none=>none
def sP(R:List (Nat×AV)):List bY->Option (List AV)
 |[]=>some []
 |x::xs=>match tU R x,sP R xs with
  |some y,some ys=>some (y::ys)
  |_,_=>none
def oh:List (Nat×AV)->List AV->List (Nat×AV)
 |[],_=>[]
 |(r,_)::R,ys=>match ys with
  |[]=>[]
  |y::ys=>(r,y)::oh R ys
def Iv:List (Nat×AV)->Option Nat->Bool
 |_,none=>false
 |[],_=>false
 |(r,_)::R,some d=>if r=d then true else Iv R (some d)
def nP:List AV->Bool
 |[]=>true
 |x::xs=>x.plain&&nP xs
def uo(d:Option Nat)(f:bY)(asx:List bY)(out:List AV)(r:AV):Option (List Mv×List Ob):=
 match f.cont with
 |some (.fn (.func g) first b)=>if bU first&&bU b then match sP (dD [] asx) asx with
   |some c=>if nP ((dD [] asx).map (·.2))&&nP out&&decide ((dD [] asx).length=out.length)&&r.plain&& !Iv (dD [] asx) d&&decide (first.length+c.length+b.length<=1000000)then
     some (gF d r [.back<|oh (dD [] asx) out],[.refs g ((dD [] asx).map (·.2)) (first++c++b) out r])else none
   |none=>none
  else none
 |_=>none
section
variable{P:Program}{N:Nat}{w0 w w':World}{V:Hid}{S S0 S':Nat->Prop}{B:Nat->Prop}{σ σ' σ0:St}{T0:Nat->Value}{a:Act}{F:Nat->List Nat}{R:List (Nat×AV)}
def px:∀{R:List (Nat×AV)}{s k:Nat},iP R s=some k->(R.map (·.1))[k]?=some s
 |[],s,k,h=>by simp[iP]at h
 |(r,y)::R,s,k,h=>by
  simp[iP]at h;split at h
  ·grind
  split at h
  ·rename_i c b;cases h;simpa using px b
  cases h
def py:∀{R:List (Nat×AV)}{s:Nat},iP R s=none->s∉R.map (·.1)
 |[],s,h=>I
 |(r,y)::R,s,h=>by
  simp[iP]at h;split at h
  ·cases h
  rename_i e;split at h
  ·cases h
  rename_i b;simp only[afc,adZ,not_or];exact⟨λe'=>e e'.symm,py b⟩
def FU:∀{R:List (Nat×AV)}{k s:Nat},(R.map (·.1)).Nodup->(R.map (·.1))[k]?=some s->iP R s=some k
 |[],k,s,_,h=>by cases h
 |(r,y)::R,k,s,hn,h=>by
  simp only[afc,afv]at hn;simp[iP];cases k with
  |zero=>cases h;simp
  |succ k=>have hm:s∈R.map (·.1):=ah1 h;rw[if_neg λe=>hn.1<|by rw[e];exact hm,FU hn.2 h]
def N3(_:aT S B σ (tv V a) w F)(x:Operand){r:Nat}{y:AV}(b:qX (resolve σ x)=some (r,y)):y=(σ r).av:=by
 cases x with
 |const v=>
  have d:=dN v;simp[qX,resolve]at b;split at b
  ·rename_i e;rw[e]at d;simp[AV.plain]at d
  ·rename_i e;rw[e]at d;simp[AV.plain]at d
  simp at b
 |func f=>simp[qX,resolve]at b
 |global g=>simp[qX,resolve,Sl.none]at b
 |tmp t=>
  simp[resolve]at b;cases c:(σ t).av with
  |bC h g1 g2 p=>simp[bY.of,c,qX]at b;grind
  |ptr h g1 g2 p=>simp[bY.of,c,qX]at b;grind
  |abs J=>simp[bY.of,c,qX,Sl.none]at b
  |_=>
   all_goals
    simp only[bY.of,c,qX]at b;split at b
    ·cases b
    cases b;exact c.symm
def ox(h:aT S B σ (tv V a) w F):∀(xs:List Operand){R:List (Nat×AV)},(∀q∈R,q.2=(σ q.1).av)->(R.map (·.1)).Nodup->
 (∀q∈dD R (xs.map<|resolve σ),q.2=(σ q.1).av)/\((dD R<|xs.map<|resolve σ).map (·.1)).Nodup
 |[],R,c,b=>⟨c,b⟩
 |x::xs,R,c,b=>by
  simp only[afc,dD];split
  ·rename_i r y g;have j:=N3 h x g;split
   ·exact ox h xs c b
   rename_i i;refine ox h xs (λq k=>?_) ?_
   ·grind
   simp only[aeY,aeJ];refine⟨b,I,λx f y d e=>?_⟩;simp at d;subst d e;exact py i f
  exact ox h xs c b
def ArgRel(w:World)(S:Nat->Prop)(σ:St)(T:Nat->Value)(y:AV)(v:Value):Prop:=
 match y with
 |.bC r g1 g2 p=>g1<=(σ r).g1/\g2<=(σ r).g2/\((σ r).g1=g1->(kh p=true\/(σ r).g2=g2)->(kh p=false->∃y,bp (σ r).av p=some y)->
   ∃L,loc w (.val<|T r) p=some L/\holds w L v/\∀b,L=.addr b->v.oneCell'=true)
 |.ptr r g1 g2 p=>g1<=(σ r).g1/\g2<=(σ r).g2/\(∃b,v=.pointer (some b))/\((σ r).g1=g1->(flat p=true\/(σ r).g2=g2)->(flat p=false->∃y,bp (σ r).av p=some y)->
   ∃b,loc w (.val<|T r) p=some (.addr b)/\v=.pointer (some b))
 |av=>Rel w S av v []
def ArgRel.slot{T:Nat->Value}{y:AV}{v:Value}{i:Nat}(h:ArgRel w S σ T y v)(c:(σ i).av=y)(b:T i=v):an w S σ T i []:=by unfold an;unfold ArgRel at h;subst c b;cases hh:(σ i).av<;>rw[hh]at h<;>first|exact⟨rfl,h⟩|exact h|(simp[Rel]at h)
def ArgRel.BI{T:Nat->Value}{y:AV}{v:Value}(h:Rel w S y v []):ArgRel w S σ T y v:=by have:=h.plain;cases y<;>simp[AV.plain]at this<;>exact h
def dB(w:World)(S:Nat->Prop)(σ:St)(T:Nat->Value):List AV->List Value->Prop
 |[],c=>c=[]
 |y::ys,c=>∃v b,c=v::b/\ArgRel w S σ T y v/\dB w S σ T ys b
def dB.append{T:Nat->Value}:∀{ys zs:List AV}{us b:List Value},dB w S σ T ys us->dB w S σ T zs b->dB w S σ T (ys++zs) (us++b)
 |[],zs,us,b,h,k=>by simp[dB]at h;subst h;simpa using k
 |y::ys,zs,us,b,h,k=>by obtain⟨v,c,rfl,e,d⟩:=h;exact⟨v,_,W,e,dB.append d k⟩
def dB.length{T:Nat->Value}:∀{ys:List AV}{us:List Value},dB w S σ T ys us->us.length=ys.length
 |[],us,h=>by simp[dB]at h;simp[h]
 |y::ys,us,h=>by obtain⟨v,b,rfl,d,c⟩:=h;simp[dB.length c]
def dB.get{T:Nat->Value}:∀{ys:List AV}{us:List Value}(i:Nat){y:AV},dB w S σ T ys us->ys[i]?=some y->ArgRel w S σ T y (us.getD i undef)
 |[],us,i,y,h,b=>by cases b
 |e::ys,us,i,y,h,b=>by
  obtain⟨v,c,rfl,f,d⟩:=h;cases i with
  |zero=>simp_all
  |succ i=>simpa using dB.get i d b
def dB.rZ{T:Nat->Value}:∀{ys:List AV}{us:List Value}{F:List Nat},Cells w S false ys us F->F=[]->dB w S σ T ys us
 |[],us,F,h,_=>by simp[Cells]at h;exact h.1
 |y::ys,us,F,h,b=>by obtain⟨v,l',f,e,rfl,rfl,-,d,c⟩:=h;obtain⟨rfl,rfl⟩:=agS.1 b;exact⟨v,l',W,.BI d,dB.rZ c W⟩
def Pr(h:aT S B σ (tv V a) w F)(n:∀r k,iP R r=some k->σ0 (1000000+k)=⟨(σ r).av,0,0⟩/\T0 (1000000+k)=tv V a r)(x:Operand)(u:aJ x=true){y:AV}
 (b:tU R (resolve σ x)=some y):ArgRel w S σ0 T0 y (a.eval x):=by
 cases x with
 |const v=>
  have D:=oQ v;have o:=dN v;have:y=gL v:=by
   simp[tU,resolve]at b;split at b
   ·rename_i e;rw[e]at o;simp[AV.plain]at o
   ·rename_i e;rw[e]at o;simp[AV.plain]at o
   simp_all
  subst this;exact .BI (gZ w S v u)
 |func f=>simp[tU,resolve,AV.aG,bU]at b;subst b;exact⟨#[],#[],[],[],W,by simp[Cells],by simp[Cells],W⟩
 |global g=>simp[tU,resolve,Sl.none,AV.aG]at b;subst b;rfl
 |tmp t=>
  rw[iE V a<|fN u];have i:=h.rel t;simp[resolve]at b;cases c:(σ t).av with
  |bC r g1 g2 p=>
   simp[bY.of,c,tU]at b;unfold an at i;rw[c]at i;split at b
   ·rename_i k j;obtain⟨m,l⟩:=n r k j;split at b
    ·rename_i C;split at b
     ·rename_i A;cases b;unfold ArgRel;simp_all
     cases b
    cases b
   cases b
  |ptr r g1 g2 p=>
   simp[bY.of,c,tU]at b;unfold an at i;rw[c]at i;simp only at i;split at b
   ·rename_i k j;obtain⟨m,l⟩:=n r k j;split at b
    ·rename_i C;split at b
     ·rename_i A;cases b;unfold ArgRel;simp_all
     cases b
    cases b
   cases b
  |abs J=>simp[bY.of,c,tU,Sl.none,AV.aG,if_true,ada]at b;subst b;rfl
  |fS g z=>
   simp[bY.of,c,tU,AV.aG,agw,if_false]at b;split at b
   ·rename_i k j;obtain⟨m,l⟩:=n t k j;cases b;unfold ArgRel;simp only[m,l];exact⟨adk _,adk _,λ_ _ _=>⟨_,W,W,I⟩⟩
   cases b
  |_=>
   all_goals
    have q:(σ t).av.plain=true:=by rw[c];rfl
    rw[an.aA q]at i;have d:(if(σ t).av.aG then some (σ t).av else match iP R t with|some k=>some (AV.bC (1000000+k) 0 0 [])|none=>none)=some y:=by simpa only[bY.of,c,tU]using b
    split at d
    ·rename_i s;cases d;rw[Rel.aG _ i s]at i;exact .BI i
    split at d
    ·rename_i k j;obtain⟨m,l⟩:=n t k j;cases d;unfold ArgRel;simp only[m,l];exact⟨adp _,adp _,λ_ _ _=>⟨.val _,W,W,I⟩⟩
    cases d
def C8(h:aT S B σ (tv V a) w F)(d:∀r k,iP R r=some k->σ0 (1000000+k)=⟨(σ r).av,0,0⟩/\T0 (1000000+k)=tv V a r):∀(xs:List Operand),xs.all aJ=true->∀{ys:List AV},
 sP R (xs.map<|resolve σ)=some ys->dB w S σ0 T0 ys (xs.map a.eval)
 |[],_,ys,b=>by simp[sP]at b;subst b;rfl
 |x::xs,c,ys,b=>by
  simp only[ae6,adD]at c;simp[sP]at b;split at b
  ·rename_i y e g f;cases b;exact⟨_,_,W,Pr h d x c.1 g,C8 h d xs c.2 f⟩
  cases b
def Fo{σ:St}:∀{R:List (Nat×AV)}{out:List AV}(i:Nat),R.length=out.length->
 lh σ (oh R out) i=match iP R i with|some k=>⟨out.getD k .dead,(σ i).g1,(σ i).g2+1⟩|none=>σ i
 |[],out,i,h=>fb
 |(r,y)::R,[],i,h=>by cases h
 |(r,y)::R,z::out,i,h=>by
  simp at h;simp[oh,lh,iP];by_cases e:r=i
  ·subst e;simp[aH]
  rw[b6 _ _ λe'=>e e'.symm,Fo i h]
  grind
def qu:∀{xs:List AV}{k:Nat}{x:AV},nP xs=true->xs[k]?=some x->x.plain=true
 |[],k,x,_,h=>by cases h
 |y::xs,k,x,b,h=>by
  simp[nP]at b;cases k with
  |zero=>cases h;exact b.1
  |succ k=>exact qu b.2 h
def aT.Q3{d:Nat}{T:Nat->Value}{y:AV}{z:Value}{g:List Nat}(h:aT S B σ T w F)(m:Rel w S y z g)(hn:g.Nodup)(n:∀b∈g,B b/\b<w.heap.size/\¬S b)(k:∀i,∀b∈F i,b∉g):
 aT S B (made σ [] d y) (iI T d z) w (λi=>if i=d then g else F i):=by
 refine h.step (w':=w) (S':=S) ⟨λr=>?_,λr=>?_,λr f=>?_,λr f _=>?_⟩ (λ_ h=>h) (λi=>?_) (λi=>?_) (λi j l b c=>?_) (λi b c=>?_) h.shr
 ·unfold made
  grind
 ·unfold made
  grind
 ·unfold made at f;split at f
  ·simp_all
  rename_i e;rw[b6 _ _ e]
 ·unfold made at f⊢
  grind
 ·by_cases e:i=d
  ·subst e;right;rw[an.aA<|by unfold made;simp;exact m.plain];simp[made,aH];exact m
  left;simp only[made,e,if_false,afY];exact⟨U,b6 _ _ e,U,λ_ _=>trivial⟩
 ·show(if i=d then g else F i).Nodup;split
  ·exact hn
  exact h.nodup i
 ·replace c:b∈if i=d then g else F i:=c
  split at c
  ·grind
  split
  ·exact k i b c
  exact h.du i j l b c
 replace c:b∈if i=d then g else F i:=c
 split at c
 ·exact n b c
 exact h.own i b c
def EA:∀{R:List (Nat×AV)}{d:Nat},Iv R (some d)=false->iP R d=none
 |[],d,_=>rfl
 |(r,y)::R,d,h=>by
  simp only[Iv]at h;split at h
  ·cases h
  rename_i e;simp[iP,e,EA h]
def B1{D:Array Value->World->(Value->World->Prop)->Prop}(D1:∀(n:Array Value)(w:World)(R R':Value->World->Prop),(∀v w',R v w'->R' v w')->D n w R->D n w R')
 {d:Option Nat}(hG:kx P V w0)(h:Inv N V w0 S0 σ a w)(hd:∀x,d=some x->x<N)(asx:List Operand)(P1:asx.all aJ=true){first ys captured out:List AV}{r:AV}{af cf:Array Value}
 (hq:∀S F,aT S (cQ V w0) σ (tv V a) w F->Cells w S false first af.toList []/\Cells w S false captured cf.toList [])
 (G6:sP (dD []<|asx.map<|resolve σ) (asx.map<|resolve σ)=some ys)
 (J:(nP ((dD []<|asx.map<|resolve σ).map (·.2))&&nP out&&decide ((dD []<|asx.map<|resolve σ).length=out.length)&&r.plain&& !Iv (dD []<|asx.map<|resolve σ) d&&decide (first.length+ys.length+captured.length<=1000000))=true)
 (M:Mv.runs σ (gF d r [.back<|oh (dD []<|asx.map<|resolve σ) out])=some σ')
 (F0:∀(w:World)(S:Nat->Prop)(V:Hid)(n:List Value)(F:Nat->List Nat),n.length=(first++ys++captured).length->kx P V w->aT S V.g (both (first++ys++captured) ((dD []<|asx.map<|resolve σ).map (·.2))) (bg V n) w F->
   D n.toArray w λv w'=>∃S' F',tV V w w w'/\(∀b,S b->S' b)/\(∀b,S' b->S b\/cQ V w b)/\aT S' (cQ V w) (both [r] out) (bg V [v]) w' F'):
 D (af++(asx.map a.eval).toArray++cf) w λv w'=>Inv N V w0 S0 σ' (a.put d v) w':=by
 obtain⟨S,F,hc,hN,G3,H2,H1,T⟩:=h;simp[adD,decide_eq_true_eq,af9]at J;obtain⟨⟨⟨⟨⟨p1,p2⟩,p3⟩,K2⟩,p4⟩,p5⟩:=J;obtain⟨v1,v2⟩:=ox hc asx (R:=[]) I I;generalize hRe:dD [] (asx.map<|resolve σ)=R at*;obtain⟨qa,qc⟩:=hq S F hc;obtain⟨ex,C⟩:∃ex:List Nat,ex=R.map (·.1):=⟨_,W⟩;obtain⟨u,t⟩:∃u:Hid,u={v:=λi=>tv V a<|ex.getD (i-1000000) 0,g:=λb=>∃r∈ex,b∈F r}:=⟨_,W⟩;have V0:(R.map (·.2)).length=ex.length:=by rw[C];simp
 have Y:∀(k:Nat)(y:AV),(R.map (·.2))[k]?=some y->∃r,ex[k]?=some r/\y=(σ r).av/\y.plain=true:=by
  intro k y hy;have s:=qu p1 hy;simp only[agb,afE]at hy
  grind
 obtain⟨n,E2⟩:∃n,n=af.toList++asx.map a.eval++cf.toList:=⟨_,W⟩;obtain⟨args,f⟩:∃args,args=first++ys++captured:=⟨_,W⟩
 have G5:args.length<=1000000:=by rw[f];simp;omega
 have hR:∀(r k:Nat),iP R r=some k->both args (R.map (·.2)) (1000000+k)=⟨(σ r).av,0,0⟩/\bg u n (1000000+k)=tv V a r:=by
  intro r k hk;have G2:=px hk;rw[<-C]at G2;have F4:k<(R.map (·.2)).length:=by grind
  obtain⟨r',e1,e2,-⟩:=Y k _<|aeF F4;rw[G2]at e1;cases e1;refine⟨by rw[fT G5,aeF F4];simp[e2],?_⟩;simp[bg,t]
  grind
 have hA:dB w S (both args (R.map (·.2))) (bg u n) args n:=by rw[f,E2];rw[f]at hR;rw[E2]at hR;exact((dB.rZ qa W).append<|C8 hc hR asx P1 G6).append<|dB.rZ qc W
 have E1:aT S u.g (both args (R.map (·.2))) (bg u n) w (λi=>if i<1000000 then[]else match ex[i-1000000]?with|some r=>F r|none=>[]):=by
  refine⟨λi=>?_,λi=>?_,λi j Q b c=>?_,λi b c=>?_,hc.shr⟩
  ·by_cases hi:i<1000000
   ·simp[hi,if_true];have c:=gM (args:=args) (H:=R.map (·.2)) hi;cases hx:args[i]?with
    |none=>rw[hx]at c;rw[an.aA<|by rw[c];rfl,c];simp[Rel]
    |some y=>rw[hx]at c;refine(hA.get i hx).slot (by rw[c]) ?_;simp[bg,hi,if_true]
   obtain⟨k,rfl⟩:∃k,i=1000000+k:=⟨i-1000000,E⟩;simp[hi,if_false,ag9];have c:=fT (H:=R.map (·.2)) G5 k;cases hx:(R.map (·.2))[k]?with
   |none=>rw[hx]at c;rw[an.aA<|by rw[c];rfl,c];have:ex[k]?=none:=eW;simp[Rel,this]
   |some y=>
    rw[hx]at c;obtain⟨r',e1,rfl,s⟩:=Y k y hx;have K0:=hc.rel r';rw[an.aA s]at K0;rw[an.aA<|by rw[c];exact s,c];simp[e1,bg,t]
    grind
  ·show(if i<1000000 then[]else match ex[i-1000000]?with|some r=>F r|none=>[]).Nodup;split
   ·simp
   split
   ·exact hc.nodup _
   simp
  ·replace c:b∈if i<1000000 then[]else match ex[i-1000000]?with|some r=>F r|none=>[]:=c
   show b∉if j<1000000 then[]else match ex[j-1000000]?with|some r=>F r|none=>[]
   split at c
   ·cases c
   rename_i hi;split at c
   ·rename_i r1 h1;split
    ·simp
    rename_i hj;split
    ·rename_i r2 h2;refine hc.du r1 r2 (λe=>Q ?_) b c;subst e;have g1:=FU v2 (by rw[<-C];exact h1);have g2:=FU v2 (by rw[<-C];exact h2)
     grind
    simp
   cases c
  replace c:b∈if i<1000000 then[]else match ex[i-1000000]?with|some r=>F r|none=>[]:=c
  split at c
  ·cases c
  split at c
  ·rename_i r1 h1;rw[t];exact⟨⟨r1,ah1 h1,c⟩,(hc.own r1 b c).2⟩
  cases c
 rw[<-f]at F0;have S4:kx P u w:=⟨hG.Ar T,hG.cQ.mono λb c=>by rw[t]at c;obtain⟨r,-,M⟩:=c;exact(hc.own r b M).1⟩;have:=F0 w S u n _ (by rw[dB.length hA]) S4 E1;have e:n.toArray=af++(asx.map a.eval).toArray++cf:=by grind
 rw[e]at this;refine D1 _ _ _ _ (λv w'⟨S',m,o,k1,k2,l⟩=>?_) this;have hg:∀b,u.g b↔∃r∈ex,b∈F r:=λb=>by rw[t]
 have F3:∀b,cQ u w b->w.heap.size<=b\/∃r∈ex,b∈F r:=λb c=>c.imp id (hg b).1;have O:∀b,cQ u w b->cQ V w0 b:=λb c=>(F3 b c).elim (λh=>T.new b h) λ⟨r,_,M⟩=>(hc.own r b M).1;have Z:∀b,b<w.heap.size->¬u.g b->w'.heap[b]?=w.heap[b]?:=λb h1 h2=>o.block b h1 h2;have S1:∀b,S b->w'.heap[b]?=w.heap[b]?:=λb c=>Z b (hc.shr b c) (λD2=>by obtain⟨r,-,M⟩:=(hg b).1 D2;exact(hc.own r b M).2.2 c);have U1:∀i,iP R i=none->∀b∈F i,w'.heap[b]?=w.heap[b]?:=λi hi b c=>Z b (hc.own i b c).2.1 (λD2=>by obtain⟨r,F1,z⟩:=(hg b).1 D2;exact hc.du i r (λe=>py hi<|by grind) b c z)
 have L:∀i,∀b∈m i,(w.heap.size<=b\/∃r∈ex,b∈F r)/\cQ V w0 b/\b<w'.heap.size/\¬S' b:=λi b c=>by
  have:=l.own i b c
  grind
 have B0:∀i,iP R i=none->∀j,∀b∈F i,b∉m j:=λi hi j b c P0=>by
  rcases(L j b P0).1 with F2|⟨r,F1,z⟩
  ·grind
  exact hc.du i r (λe=>py hi<|by grind) b c z
 have L0:∀{i j k:Nat},iP R i=some k->iP R j=some k->i=j:=λhi hj=>by
  have a1:=px hi;have a2:=px hj
  grind
 have A0:aT S' (cQ V w0) (lh σ<|oh R out) (tv V a) w' (λi=>match iP R i with|some k=>m (1000000+k)|none=>F i):=by
  have V2:∀i,lh σ (oh R out) i=match iP R i with|some k=>⟨out.getD k .dead,(σ i).g1,(σ i).g2+1⟩|none=>σ i:=λi=>Fo i p3
  refine hc.step (w':=w') (S':=S') ⟨λi=>?_,λi=>?_,λi _=>rfl,λi hi1 hi2=>?_⟩ k1 (λi=>?_) (λi=>?_) (λi j Q b c=>?_) (λi b c=>?_) l.shr
  ·grind
  ·grind
  ·grind
  ·cases hp:iP R i with
   |none=>grind
   |some k=>
    right;have hk:=px hp;rw[<-C]at hk;have G1:k<out.length:=by grind
    have q:=l.rel<|1000000+k;have c:=fT (args:=[r]) (H:=out) I k;rw[aeF G1]at c;have s:=qu p2<|aeF G1;rw[an.aA<|by rw[c];exact s,c]at q;have G4:(lh σ (oh R out) i).av=out[k]:=by grind
    rw[an.aA<|by rw[G4];exact s,G4];have W1:bg u [v] (1000000+k)=tv V a i:=by
     simp[bg,t]
     grind
    grind
  ·show(match iP R i with|some k=>m (1000000+k)|none=>F i).Nodup;split
   ·exact l.nodup _
   exact hc.nodup i
  ·replace c:b∈match iP R i with|some k=>m (1000000+k)|none=>F i:=c
   show b∉match iP R j with|some k=>m (1000000+k)|none=>F j
   split at c
   ·rename_i k hk;split
    ·rename_i k2 X2;refine l.du _ _ (λe=>Q ?_) b c
     grind
    grind
   rename_i hi;split
   ·exact B0 i hi _ b c
   exact hc.du i j Q b c
  replace c:b∈match iP R i with|some k=>m (1000000+k)|none=>F i:=c
  split at c
  ·exact(L _ b c).2
  rename_i hi;have ho:=hc.own i b c;refine⟨ho.1,ae3 ho.2.1 o.size,λS2=>?_⟩;rcases k2 b S2 with hS|hm
  ·exact ho.2.2 hS
  rcases F3 b hm with F2|⟨r,F1,z⟩
  ·omega
  exact hc.du i r (λe=>py hi<|by grind) b c z
 have A:lW V w0 w':=T.trans ⟨o.os,o.tape,o.output,o.size,λk hk M2=>o.block k (ae3 hk T.size) (λM1=>by obtain⟨r,-,M⟩:=(hg k).1 M1;exact wc (hc.own r k M).1 hk M2)⟩
 have X:(∀b,S0 b->S' b)/\(∀b,S' b->S0 b\/cQ V w0 b):=⟨λb c=>k1 b<|H2 b c,λb c=>(k2 b c).elim (H1 b) λh=>.inr<|O b h⟩;have p:Mv.runs (lh σ<|oh R out) (gF d r [])=some σ':=by rw[Jp]at M;simpa[Mv.runs,Mv.run]using M
 cases d with
 |none=>simp[gF,Mv.runs,ada]at p;subst p;exact⟨S',_,A0,hN,G3,X.1,X.2,A⟩
 |some d=>
  simp[gF,afS,jl,ada]at p;subst p;have hdn:=EA p4;have q:=l.rel 0;have K:=gM (args:=[r]) (H:=out) (i:=0) E;simp[ahz]at K;rw[an.aA<|by rw[K];exact K2,K]at q;have:=A0.Q3 (d:=d) q (l.nodup 0) (λb c=>(L 0 b c).2) (λi b c=>by
   replace c:b∈match iP R i with|some k=>m (1000000+k)|none=>F i:=c
   split at c
   ·exact l.du _ _ E b c
   grind)
  rw[<-oK (by rw[hN];exact hd d W)]at this;exact⟨S',_,this,by rw[size_put];exact hN,by rw[gG];exact G3,X.1,X.2,A⟩
def zZ{d:Option Nat}(O:kx P V w0)(h:Inv N V w0 S0 σ a w)(H:∀x,d=some x->x<N)(f:Operand)(q:aJ f=true)(asx:List Operand)(m:asx.all aJ=true){out:List AV}{r:AV}{p:List Mv}{i:List Ob}
 (hm:uo d (resolve σ f) (asx.map<|resolve σ) out r=some (p,i))(A:Mv.runs σ p=some σ')(hs:∀o∈i,o.ok P):
 ∃g first captured,a.eval f=.func (.func g) first captured/\vh P g (first++(asx.map a.eval).toArray++captured) w λv w'=>Inv N V w0 S0 σ' (a.put d v) w':=by
 have M:=h;obtain⟨S,F,hc,hN,C,z,y,J⟩:=h;unfold uo at hm;split at hm<;>try(cases hm)
 rename_i g first captured j
 split at hm<;>try(cases hm)
 rename_i b;simp at b;split at hm<;>try(cases hm)
 rename_i s l;split at hm<;>try(cases hm;done)
 rename_i c;cases hm;obtain⟨Ff,k,-⟩:=aQ hc f q j;obtain⟨af,cf,F1,F2,n,-,-,-⟩:=k;refine⟨g,af,cf,n,?_⟩;refine B1 (D:=vh P g) (λvs w R R' Z Y rd o a next Q L=>Y rd o a next Q λv w' K=>L v w'<|Z v w' K) O M H asx m (λS F hc=>?_) l c A (hs (.refs g ((dD []<|asx.map<|resolve σ).map (·.2)) (first++s++captured) out r) I);obtain⟨Ff,k,-⟩:=aQ hc f q j;obtain⟨B0,A0,F1,F2,e,u,t,-⟩:=k;rw[n]at e;obtain⟨rfl,rfl⟩:=e;have X:=Cells.aG _ u b.1;have T:=Cells.aG _ t b.2;simp_all
def bY.gen(x:bY):Nat:=match x.sl.av with|.bC .. =>x.rt.g2|_=>x.sl.g2
def PF(P:Program)(d:Nat)(t:TypeId)(x:bY)(lo hi:Option bY):Option (List Mv):=
 match P.underlying t with
 |some (.slice e)=>match cu P e with
  |some ti=>match x.cont with
   |some (.list .own sz b)=>match mZ lo 0,mZ hi b.length with
    |some l,some h=>if sz=ti.size/\l<h/\h<=b.length then match x.place with
      |some (r,g1,_,p)=>if r=d then none else some [.put d<|.bC r g1 x.gen<|p++[.lZ sz l<|h-l]]
      |none=>none
     else none
    |_,_=>none
   |_=>none
  |none=>none
 |_=>none
def OV(x:Operand){r g1 g2:Nat}{p:Path}{y:AV}(hc:(resolve σ x).cont=some y)(c:(resolve σ x).place=some (r,g1,g2,p)):bY.gen (resolve σ x)=(σ r).g2:=by
 cases x with
 |const v=>simp[resolve,bY.place]at c;have j:=dN v;split at c<;>simp_all[AV.plain]
 |func f=>simp[resolve,bY.place]at c
 |global g=>simp[resolve,bY.place,Sl.none]at c
 |tmp t=>
  simp[resolve]at c⊢;cases b:(σ t).av with
  |bC h e d i=>simp[bY.of,b,bY.place]at c⊢;obtain⟨rfl,rfl,rfl,rfl⟩:=c;simp[bY.gen,b]
  |ptr=>simp[bY.of,b,bY.place]at c
  |abs=>simp[bY.of,b,bY.place,Sl.none]at c
  |fS=>simp[resolve,bY.of,b,bY.cont]at hc
  |_=>
   all_goals
    simp[bY.of,b,bY.place]at c⊢;obtain⟨rfl,rfl,rfl,rfl⟩:=c;simp[bY.gen,b]
def Ke{d t:Nat}(h:Inv N V w0 S0 σ a w)(Y:d<N)(x:Operand)(lo hi:Option Operand)(g:aJ x=true)(s:∀o,lo=some o->aJ o=true)(u:∀o,hi=some o->aJ o=true)
 {z:List Mv}(hm:PF P d t (resolve σ x) (lo.map<|resolve σ) (hi.map<|resolve σ)=some z)(C:Mv.runs σ z=some σ'):
 Good N V w0 S0 σ' a d ((Instr.sliceAt t (a.eval x) (lo.map a.eval) (hi.map a.eval) none).run P w):=by
 unfold PF at hm;split at hm<;>try(cases hm)
 rename_i e hu;split at hm<;>try(cases hm)
 rename_i ti m;split at hm<;>try(cases hm)
 rename_i sz Q k;split at hm<;>try(cases hm)
 rename_i l O h1 h2;split at hm<;>try(cases hm)
 rename_i c;obtain⟨rfl,A0,Z⟩:=c;split at hm<;>try(cases hm)
 rename_i r g1 g2 p D;split at hm<;>try(cases hm;done)
 rename_i n;cases hm;simp[Mv.cg]at C;subst C;have J:=OV x k D;have hI:=h;obtain⟨S,F,j,-⟩:=h;obtain⟨F1,e1,-⟩:=aQ j x g k;obtain⟨ad,cap,A,K,H,q⟩:=e1.jX;obtain⟨b,f,rfl⟩:=q.1 I λe=>eW;have M:=jU (P:=P) j true (len:=Q.length) (cap:=cap) lo hi none s u I h1 h2 W E E (adp _)<|.inl W;have i:(Instr.sliceAt t (a.eval x) (lo.map a.eval) (hi.map a.eval) none).run P w=.ok (.slice (some<|(⟨b,f,none⟩:Addr).add<|l*ti.size) (O-l)<|cap-l) w:=by rw[A];simp at M;have:cap≠l:=E;simp[Instr.sliceAt,run_underlying hu,Instr.slice,M,dJ m,this]
 refine⟨_,w,i,hI.put Y λS' F' v=>?_⟩;obtain⟨q1,q2,q3,X,q5,q6,L,T,y,q9⟩:=jb v x g k D;unfold an;simp only[aH,b6 _ _ n];refine⟨U,X,E,λ_ _ _=>⟨.val<|.slice (some<|(⟨b,f,none⟩:Addr).add<|l*ti.size) (O-l)<|cap-l,?_,W,I⟩⟩;rw[iq,T];simp[afp,loc];rw[A]at y;rw[cN y W I];rfl
inductive Ask
 |PZ (r:AV)
 |refs (out:List AV) (r:AV)
 |lZ
 |PC (J':tD) (b:Bool)
 |Y7
 |fS (out:List AV) (r:AV)
 |SP (y:AV)
 |ext (out:List AV) (r:AV)
 |WL (J':tD) (r:AV)
 |Qy (r:AV)
 |PA (y:AV)
def ME(d:Option Nat)(asx:List bY)(out:List AV)(r:AV):Option (List Mv×List AV×List AV):=
 match sP (dD [] asx) asx with
 |some b=>if(nP ((dD [] asx).map (·.2))&&nP out&&decide ((dD [] asx).length=out.length)&&r.plain&& !Iv (dD [] asx) d&&decide (([]:List AV).length+b.length+([]:List AV).length<=1000000))=true then
   some (gF d r [.back<|oh (dD [] asx) out],(dD [] asx).map (·.2),b)else none
 |none=>none
def slotsOf:List Operand->Option (List Nat)
 |[]=>some []
 |.tmp t::l=>match slotsOf l with
  |some b=>some (t::b)
  |none=>none
 |_::_=>none
def sy:List bY->Option (List AV)
 |[]=>some []
 |x::xs=>match x.cont with
  |some y=>if y.aG then match sy xs with
   |some ys=>some (y::ys)
   |none=>none
   else none
  |none=>none
def MZ(op:Op):Bool:=op.operands.toList.all aJ&&(match op with
 |.move _=>false
 |.call ⟨.builtin .append,_,_⟩=>false
 |_=>true)
def rC(x:Sl):Sl:=match x.av with
 |.box o (.list f sz _)=>⟨.box o<|.list f sz [],x.g1,x.g2⟩
 |_=>x
def KN:AV->Bool
 |.box _ (.list .own _ _)=>true
 |_=>false
def qW(σ:St)(a:Nat):Option (Nat×Nat):=match(σ a).av with
 |.bC r g1 _ p=>if p=[]/\KN (σ r).av=true/\(σ r).g1=g1 then some (a,r)else none
 |x=>if KN x=true then some (a,a)else none
def vu(σ:St):Op->Option (Nat×Nat)
 |.load _ (.tmp a)=>qW σ a
 |_=>none
def rq(σ:St)(op:Op):Bool:=match MZ op with
 |true=>match vu σ op with
  |some _=>false
  |none=>true
 |false=>false
def Ux{σ:St}{op:Op}(h:rq σ op=true):MZ op=true/\vu σ op=none:=by
 unfold rq at h
 grind
def lv(P:Program)(σ:St)(o:Oper):Ask->Option (List Mv×List Ob)
 |.Y7=>match o.dst with
  |some d=>match o.op with
   |.makeFunc (.func g) first e=>match first.toList with
    |[]=>match slotsOf e.toList with
     |some n=>if n.all (λt=>t !=d)=true then some ([.put d<|.fS g<|n.map λt=>(t,(σ t).g1)],[])else none
     |none=>none
    |_::_=>none
   |_=>none
  |none=>none
 |.fS out r=>match o.op with
  |.call c=>match c.callee with
   |.value (.tmp t)=>match(σ t).av with
    |.fS g e=>if e.all (λq=>decide (q.1<1000000)&&(σ q.1).av.plain&&(σ q.1).g1==q.2)=true then uo o.dst (resolve σ<|.func g) (c.args.toList.map (resolve σ)++e.map λq=>resolve σ<|.tmp q.1) out r else none
    |_=>none
   |_=>none
  |_=>none
 |.ext out r=>if rq σ o.op=true then match ME o.dst (o.op.operands.toList.map<|resolve σ) out r with
   |some (i,H,ys)=>some (i,[.ext o H ys out r])
   |none=>none
  else none
 |.WL J' r=>match o.op with
  |.call c=>match c.callee with
   |.value f=>match c.args.toList with
    |[]=>none
    |x::xs=>match(resolve σ x).sl.av with
     |.pv C=>match(resolve σ f).cont with
      |some (.fn (.func g) [] [])=>match(σ 1000000).av with
       |.abs J=>match sy (xs.map<|resolve σ)with
        |some ys=>some (gF o.dst r [.back [(1000000,.abs J')]],[.WL g C J J' ys r])
        |none=>none
       |_=>none
      |_=>none
     |_=>none
   |_=>none
  |_=>none
 |.Qy r=>match o.op with
  |.call c=>match c.callee with
   |.value f=>match c.args.toList with
    |[]=>none
    |x::xs=>match(resolve σ f).cont with
     |some (.fn (.func g) [] [])=>match(resolve σ x).cont with
      |some (.list .own sz X)=>match sy (xs.map<|resolve σ)with
       |some ys=>if bU X=true then some (gF o.dst r [],[.Qy g sz X ys r])else none
       |none=>none
      |_=>none
     |_=>none
   |_=>none
  |_=>none
 |.PA y=>match o.op with
  |.load t x=>match(resolve σ x).sl.av with
   |.pv C=>match(σ 1000000).av with
    |.abs J=>if y.aG=true then some (gF o.dst y [],[.PA t C J y])else none
    |_=>none
   |_=>none
  |_=>none
 |.SP y=>match o.op with
  |.lookup t m x ok=>match(resolve σ m).cont,(resolve σ x).cont with
   |some (.mp K),some k=>if k.aG&&y.aG then some (gF o.dst y [],[.SP t ok K k y])else none
   |_,_=>none
  |_=>none
 |.PZ r=>match Al P σ o r with
  |some (i,j)=>some (i,j.map .call)
  |none=>none
 |.refs out r=>match o.op with
  |.call c=>match c.callee with
   |.value f=>uo o.dst (resolve σ f) (c.args.toList.map<|resolve σ) out r
   |_=>none
  |_=>none
 |.lZ=>match o.dst with
  |some d=>match o.op with
   |.slice t x l h m=>match m with
    |none=>match PF P d t (resolve σ x) (l.map<|resolve σ) (h.map<|resolve σ)with
     |some i=>some (i,[])
     |none=>none
    |some _=>none
   |_=>none
  |none=>none
 |.PC J' b=>match o.op with
  |.call c=>match c.callee with
   |.value f=>match(resolve σ f).sl.av with
    |.pv C=>match(σ 1000000).av with
     |.abs J=>match sy (c.args.toList.map<|resolve σ)with
      |some ys=>some (gF o.dst (.v<|.bool b) [.back [(1000000,.abs J')]],[.PC C J J' ys b])
      |none=>none
     |_=>none
    |_=>none
   |_=>none
  |_=>none
def oF(h:aT S B σ (tv V a) w F):∀(xs:List Operand){ys:List AV},xs.all aJ=true->sy (xs.map<|resolve σ)=some ys->Cells w S false ys (xs.map a.eval) []
 |[],ys,_,b=>by simp[sy]at b;subst b;simp[Cells]
 |x::xs,ys,d,b=>by
  simp only[ae6,adD]at d;simp[sy]at b;split at b<;>try(cases b)
  rename_i y g;split at b<;>try(cases b)
  rename_i hn;split at b<;>try(cases b;done)
  rename_i f c;cases b;obtain⟨i,e,-⟩:=aQ h x d.1 g;rw[Rel.aG _ e hn]at e;exact⟨_,_,[],[],W,W,I,e,oF h xs d.2 c⟩
def vz:∀{xs:List Operand}{b:List Nat},slotsOf xs=some b->xs.all aJ=true->xs.map a.eval=b.map λt=>tv V a t
 |[],b,h,_=>by simp[slotsOf]at h;subst h;rfl
 |.tmp t::xs,b,h,c=>by
  simp only[ae6,adD]at c;simp[slotsOf]at h;split at h<;>try(cases h;done)
  rename_i d e;cases h;simp only[afc];rw[iE V a<|fN c.1,vz e c.2]
 |.const _::_,b,h,_=>by simp[slotsOf]at h
 |.func _::_,b,h,_=>by simp[slotsOf]at h
 |.global _::_,b,h,_=>by simp[slotsOf]at h
def Inv.yielded{J J':tD}{w':World}{S':Nat->Prop}{F':List Nat}(hc:aT S (cQ V w0) σ (tv V a) w F)(D:a.tmps.size=N)(t:a.defers=V.df)(s:∀b,S0 b->S b)(C:∀b,S b->S0 b\/cQ V w0 b)(f:lW V w0 w)
 (K:(σ 1000000).av=.abs J)(k1:w'.os=w.os)(k2:w'.tape=w.tape)(k3:w'.output=w.output)(k4:w.heap.size<=w'.heap.size)(k5:∀k,k<w.heap.size->k∉F 1000000->w'.heap[k]?=w.heap[k]?)
 (k6:∀c,S c->S' c)(k7:∀c,S' c->S c\/w.heap.size<=c\/c∈F 1000000)(k8:∀c,S' c->c<w'.heap.size)(k9:J'.here w' S' F')(WS:F'.Nodup)(SS:∀c∈F',(w.heap.size<=c\/c∈F 1000000)/\c<w'.heap.size/\¬S' c):
 Inv N V w0 S0 (lh σ [(1000000,.abs J')]) a w':=by
 have m:=f.size;have q:lh σ [(1000000,.abs J')]=iI σ 1000000 ⟨.abs J',(σ 1000000).g1,(σ 1000000).g2+1⟩:=W;rw[q];have n:∀c,(w.heap.size<=c\/c∈F 1000000)->cQ V w0 c:=λc u=>u.elim (λh=>.inl<|ad0 m h) λh=>(hc.own _ c h).1;have l:∀i,i≠1000000->∀b∈F i,b<w.heap.size/\b∉F 1000000:=λi hi b d=>⟨(hc.own i b d).2.1,hc.du i 1000000 hi b d⟩;have v:∀b,S b->b<w.heap.size/\b∉F 1000000:=λb d=>⟨hc.shr b d,λh=>(hc.own _ b h).2.2 d⟩;refine⟨S',iI F 1000000 F',?_,D,t,λb d=>k6 b<|s b d,λb d=>?_,?_⟩
 ·refine hc.step (w':=w') (T':=tv V a) ⟨λr=>?_,λr=>?_,λ_ _=>rfl,λr L A=>?_⟩ k6 (λi=>?_) (λi=>?_) (λi j o b d=>?_) (λi b d=>?_) k8
  ·by_cases g:r=1000000
   ·subst g;exact .refl
   rw[b6 _ _ g];exact .refl
  ·by_cases g:r=1000000
   ·subst g;exact agT _
   rw[b6 _ _ g];exact .refl
  ·by_cases g:r=1000000
   ·subst g;rw[aH]at A;simp at A
   rw[b6 _ _ g]
   grind
  ·by_cases hi:i=1000000
   ·subst hi;right;exact k9
   left;rw[b6 _ _ hi,b6 _ _ hi]
   grind
  ·by_cases hi:i=1000000
   ·subst hi;exact WS
   rw[b6 _ _ hi];exact hc.nodup i
  ·by_cases hi:i=1000000
   ·subst hi;rw[b6 _ _ λe=>o e.symm];intro p;have:=l j (λe=>o e.symm) b p;rcases(SS b d).1 with h|h
    ·omega
    exact this.2 h
   rw[b6 _ _ hi]at d;by_cases y:j=1000000
   ·subst y;intro p;have:=l i hi b d;rcases(SS b p).1 with h|h
    ·omega
    exact this.2 h
   rw[b6 _ _ y];exact hc.du i j o b d
  by_cases hi:i=1000000
  ·subst hi;exact⟨n b (SS b d).1,(SS b d).2⟩
  rw[b6 _ _ hi]at d;have H:=hc.own i b d
  grind
 ·grind
 refine⟨k1.trans f.os,k2.trans f.tape,k3.trans f.output,ad0 m k4,λk x z=>?_⟩;rw[k5 k (ae3 x m) λh=>?_]
 ·exact f.block k x z
 rcases(hc.own _ k h).1 with h|h
 ·omega
 exact z h
def Om{K:Act->World->Prop}{Q:Exit->Act->World->Prop}(hG:kx P V w0)(h:Inv N V w0 S0 σ a w)(o:Oper)(j:gD N o=true){M2:Ask}{ms:List Mv}{H2:List Ob}(hm:lv P σ o M2=some (ms,H2))(A:Mv.runs σ ms=some σ')
 (hs:∀o∈H2,o.ok P)(hK:∀a' w',Inv N V w0 S0 σ' a' w'->K a' w'):Oper.Vg V.rd P o a w K Q:=by
 cases M2 with
 |PZ r=>
  simp only[lv]at hm;split at hm
  ·rename_i P0 obs' h1;cases hm;exact Oo hG h o j h1 A (λob V0=>hs (.call ob)<|List.mem_map_of_mem V0) hK
  simp at hm
 |refs out r=>
  simp only[lv]at hm;split at hm<;>try(simp at hm;done)
  rename_i c cm;split at hm<;>try(simp at hm;done)
  rename_i f hc;unfold gD at j;rw[adD,cm]at j;obtain⟨Y,j⟩:=j;simp only[hc,adD]at j;obtain⟨g,p,q,O,e2⟩:=zZ hG h (d:=o.dst) (λx hx=>eW) f j.2 c.args.toList j.1 hm A hs;have hx:execOp a.eval o=callFunc g (p++(c.args.toList.map a.eval).toArray++q):=by
   have:(c.args.toList.map a.eval).toArray=c.args.map a.eval:=by apply aga;simp
   simp only[execOp,cm,Go.resolve,hc,Deferred.ofValue,O,this];rfl
  refine Oper.oJ (by simp[cm]) ?_;rw[hx];exact e2 _ o a K Q λv w' hi=>hK _ _ hi
 |lZ=>
  simp only[lv]at hm;split at hm<;>try(simp at hm;done)
  rename_i d u;split at hm<;>try(simp at hm;done)
  rename_i t x l hh m cm;split at hm<;>try(simp at hm;done)
  split at hm<;>try(simp at hm;done)
  rename_i P0 hw;cases hm;unfold gD at j;rw[adD,cm]at j;obtain⟨Y,j⟩:=j;simp only[u,decide_eq_true_eq]at Y;simp only[adD,Option.all_eq_true,ag8,Option.isNone_iff_eq_none]at j;exact rj u (by simp only[execOp,cm];rfl) (Ke h Y x l hh j.1.1.1.1 j.1.1.1.2 j.1.1.2 hw A) hK
 |PC J' b=>
  simp only[lv]at hm;split at hm<;>try(simp at hm;done)
  rename_i c cm;split at hm<;>try(simp at hm;done)
  rename_i f hc;split at hm<;>try(simp at hm;done)
  rename_i C hC;split at hm<;>try(simp at hm;done)
  rename_i J hJ;split at hm<;>try(simp at hm;done)
  rename_i ys D2;cases hm;unfold gD at j;rw[adD,cm]at j;obtain⟨Y,j⟩:=j;simp only[hc,adD]at j;obtain⟨S,F,n,ha,G3,F0,E2,B0⟩:=h;have T:(resolve σ f).cont=some (.pv C):=by unfold bY.cont;rw[hC]
  obtain⟨F1,O,-⟩:=aQ n f j.2 T;simp only[Rel]at O;have L:=oF n c.args.toList j.1 D2;obtain⟨l,hv,hy⟩:=hs (.PC C J J' ys b) I _ O.1;have Z:tD.here J w S (F 1000000):=by have:=n.rel 1000000;unfold an at this;rw[hJ]at this;exact this
  obtain⟨fn,M1,G6,body,q1,q2⟩:=hy V.rd w S (F 1000000) _ (hG.Ar B0) (hG.cQ.mono λb hb=>(n.own _ b hb).1) Z (n.nodup _) (λb hb=>(n.own _ b hb).2) n.shr L;have hx:(execOp a.eval o).run P w=.ok (.round l fn M1 G6 body) w:=by
   have:(c.args.toList.map a.eval).toArray=c.args.map a.eval:=by apply aga;simp
   rw[this]at q1;simp only[execOp,cm,Go.resolve,hc,Deferred.ofValue,hv];simp only[Sem.run_bind,Sem.run_pure,Result.andThen_ok];have e2:invoke (.fn (.yield l) #[]) (#[]++Array.map a.eval c.args)=Instr.yield l (Array.map a.eval c.args):=by simp[invoke]
   rw[e2];exact q1
  refine Oper.oJ (by simp[cm]) ?_;rw[hx,Oper.uponIn_round];refine⟨(λh=>by cases h),q2.mono ?_⟩;rintro e w'⟨rfl,S',F',k1,k2,k3,k4,k5,k6,k7,k8,k9,WS,SS⟩;have hi:=Inv.yielded (J':=J') n ha G3 F0 E2 B0 hJ k1 k2 k3 k4 k5 k6 k7 k8 k9 WS SS;show K (a.put o.dst<|.bool b) w';cases u:o.dst with
  |none=>rw[u]at A;simp only[gF,Mv.runs,Mv.run,ada]at A;subst A;exact hK _ _ hi
  |some d=>rw[u]at A Y;simp only[gF,agx,afS,Mv.runs,Mv.run]at A;cases A;refine hK _ _ (hi.make (M:=[]) (by simpa using Y) (Below.refl _ _) λS F _=>⟨[],by simp[Rel,scalar],I,I⟩)
 |WL J' r=>
  simp only[lv]at hm;split at hm<;>try(simp at hm;done)
  rename_i c cm;split at hm<;>try(simp at hm;done)
  rename_i f hc;split at hm<;>try(simp at hm;done)
  rename_i x xs L;split at hm<;>try(simp at hm;done)
  rename_i C hC;split at hm<;>try(simp at hm;done)
  rename_i g hf;split at hm<;>try(simp at hm;done)
  rename_i J hJ;split at hm<;>try(simp at hm;done)
  rename_i ys D2;cases hm;unfold gD at j;rw[adD,cm]at j;obtain⟨Y,j⟩:=j;simp only[hc,L,ae6,adD]at j;obtain⟨S,F,n,ha,G3,F0,E2,B0⟩:=h;have T:(resolve σ x).cont=some (.pv C):=by unfold bY.cont;rw[hC]
  obtain⟨F1,O,-⟩:=aQ n x j.1.1 T;simp only[Rel]at O;have A0:=oF n xs j.1.2 D2;obtain⟨Ff,q1,-⟩:=aQ n f j.2 hf;simp only[Rel]at q1;obtain⟨af,cf,G1,G2,qe,qa,qc,-⟩:=q1;have L0:af=#[]:=by simp only[Cells]at qa;simp_all
  have G4:cf=#[]:=by simp only[Cells]at qc;simp_all
  subst L0 G4;have Z:tD.here J w S (F 1000000):=by have:=n.rel 1000000;unfold an at this;rw[hJ]at this;exact this
  have E1:=hs (.WL g C J J' ys r) I _ O.1 w S (F 1000000) _ (hG.Ar B0) (hG.cQ.mono λb hb=>(n.own _ b hb).1) Z (n.nodup _) (λb hb=>(n.own _ b hb).2) n.shr A0;have hx:execOp a.eval o=callFunc g (a.eval x::xs.map a.eval).toArray:=by
   have:(c.args.toList.map a.eval).toArray=c.args.map a.eval:=by apply aga;simp
   rw[L,afc]at this;simp only[execOp,cm,Go.resolve,hc,Deferred.ofValue,qe,this];simp[invoke]
  refine Oper.oJ (by simp[cm]) ?_;rw[hx];refine E1 _ o a K Q λv w' hq=>?_;obtain⟨S',F',k1,k2,k3,k4,k5,k6,k7,k8,k9,WS,SS,Zy⟩:=hq;have hi:=Inv.yielded (J':=J') n ha G3 F0 E2 B0 hJ k1 k2 k3 k4 k5 k6 k7 k8 k9 WS SS;show K (a.put o.dst v) w';cases u:o.dst with
  |none=>rw[u]at A;simp only[gF,Mv.runs,Mv.run,ada]at A;subst A;exact hK _ _ hi
  |some d=>rw[u]at A Y;simp only[gF,agx,afS,Mv.runs,Mv.run]at A;cases A;refine hK _ _ (hi.make (M:=[]) (by simpa using Y) (Below.refl _ _) λS F _=>⟨[],Zy _ _,I,I⟩)
 |Y7=>
  simp only[lv]at hm;split at hm<;>try(simp at hm;done)
  rename_i d u;split at hm<;>try(simp at hm;done)
  rename_i g first z cm
  split at hm<;>try(simp at hm;done)
  rename_i hf0;split at hm<;>try(simp at hm;done)
  rename_i ts S4;split at hm<;>try(simp at hm;done)
  rename_i V2;cases hm;have H1:∀t∈ts,t≠d:=by simpa using V2
  unfold gD at j;rw[adD,cm]at j;obtain⟨Y,j⟩:=j;simp only[u,decide_eq_true_eq]at Y;simp only[adD]at j;refine rj (s:=Instr.makeFunc (.func g) (first.map a.eval)<|z.map a.eval) u (by simp only[execOp,cm]) ?_ hK;simp only[Mv.cg,ada]at A;subst A;have O:first.map a.eval=#[]:=eW;have e2:z.map a.eval=(ts.map λt=>tv V a t).toArray:=by apply aga;rw[Array.toList_map,vz (V:=V) S4 j.2]
  refine⟨.func (.func g) #[] (ts.map λt=>tv V a t).toArray,w,by rw[O,e2];rfl,h.put Y λS F hc=>?_⟩;unfold an;simp only[aH];refine⟨U,λq hq=>?_,λ_=>?_⟩
  ·obtain⟨t,ht,rfl⟩:=aeN.1 hq;rw[b6 _ _<|H1 t ht];exact adp _
  rw[agz]
  congr 2
  exact afq λt ht=>by simp only[Function.comp];rw[b6 _ _<|H1 t ht]
 |fS out r=>
  simp only[lv]at hm;split at hm<;>try(simp at hm;done)
  rename_i c cm;split at hm<;>try(simp at hm;done)
  rename_i t hc;split at hm<;>try(simp at hm;done)
  rename_i g z hav;split at hm<;>try(simp at hm;done)
  rename_i G5;unfold gD at j;rw[adD,cm]at j;obtain⟨Y,j⟩:=j;simp only[hc,adD]at j;simp only[aeI,adD,decide_eq_true_eq,beq_iff_eq]at G5;have P1:a.eval (.tmp t)=.func (.func g) #[] (z.map λq=>tv V a q.1).toArray:=by
   obtain⟨S,F,n,-⟩:=h;rw[iE V a<|fN j.2];have:=n.rel t;unfold an at this
   grind
  have D1:(c.args.toList++z.map λq=>Operand.tmp q.1).all aJ=true:=by rw[List.all_append,j.1,afa,aeI];intro x hx;obtain⟨q,hq,rfl⟩:=aeN.1 hx;simpa[aJ]using(G5 q hq).1.1
  have W1:uo o.dst (resolve σ<|.func g) ((c.args.toList++z.map λq=>Operand.tmp q.1).map<|resolve σ) out r=some (ms,H2):=by rw[aeY,agz];exact hm
  obtain⟨g',p,q,O,e2⟩:=zZ hG h (d:=o.dst) (λx hx=>eW) (.func g) W _ D1 W1 A hs;have e1':g=g'/\#[]=p/\#[]=q:=by have:Value.func (.func g) #[] #[]=.func (.func g') p q:=O;simpa using this
  obtain⟨rfl,rfl,rfl⟩:=e1';have hcv:z.map (λq=>a.eval<|.tmp q.1)=z.map λq=>tv V a q.1:=afq λq hq=>iE V a (G5 q hq).1.1;have hx:execOp a.eval o=callFunc g (#[]++((c.args.toList++z.map λq=>Operand.tmp q.1).map a.eval).toArray++#[]):=by
   have e3:((c.args.toList++z.map λq=>Operand.tmp q.1).map a.eval).toArray=c.args.map a.eval++(z.map λq=>tv V a q.1).toArray:=by apply aga;rw[aeY,agz];simp only[Array.toList_append,Array.toList_map];rw[<-hcv];rfl
   rw[e3];simp only[execOp,cm,Go.resolve,hc,Deferred.ofValue,P1];simp[invoke]
  refine Oper.oJ (by simp[cm]) ?_;rw[hx];exact e2 _ o a K Q λv w' hi=>hK _ _ hi
 |ext out r=>
  simp only[lv]at hm;split at hm<;>try(simp at hm;done)
  rename_i D1
  replace D1:=(adD _ _▸(Ux D1).1:_/\_).1
  split at hm<;>try(simp at hm;done)
  rename_i P0 H ys hl;cases hm;unfold ME at hl;split at hl<;>try(simp at hl;done)
  rename_i S1 D2;split at hl<;>try(simp at hl;done)
  rename_i K2;simp only[ada,ae0]at hl;obtain⟨rfl,rfl,rfl⟩:=hl;have Y:∀x,o.dst=some x->x<N:=by
   unfold gD at j
   grind
  have hE:=B1 (D:=Ext P o) (λvs w R R' h1 h2=>Ext.mono h1 h2) (first:=[]) (captured:=[]) (af:=#[]) (cf:=#[]) hG h Y o.op.operands.toList D1 (λS F hc=>by simp[Cells]) D2 K2 A (by have:=hs (.ext o ((dD []<|o.op.operands.toList.map<|resolve σ).map (·.2)) S1 out r) I;rw[afS,afN];exactλw S V vs F hl _ hc=>this w S V vs F hl hc)
  obtain⟨nx,v,w',k1,k2,k3⟩:=hE a.eval I;rcases k2 with rfl|⟨rfl,u⟩
  ·exact iy k1<|hK _ _ k3
  refine Oper.oJ (λc hc=>?_) (by rw[k1,Oper.uponIn_skip];rw[u]at k3⊢;exact hK _ _ k3);simp only[execOp,hc]at k1;cases hz:(Go.resolve a.eval c o.type).run P w<;>simp[hz]at k1
 |SP y=>
  simp only[lv]at hm;split at hm<;>try(simp at hm;done)
  rename_i t m x ok cm;split at hm<;>try(simp at hm;done)
  rename_i K0 k h1 h2;split at hm<;>try(simp at hm;done)
  rename_i F4;simp only[adD]at F4;cases hm;unfold gD at j;rw[adD,cm]at j;obtain⟨Y,j⟩:=j;simp only[adD]at j;obtain⟨v,hv⟩:∃v,(Instr.lookup t (a.eval m) (a.eval x) ok).run P w=.ok v w:=by obtain⟨S,F,n,-⟩:=h;obtain⟨F1,O,-⟩:=aQ n m j.1 h1;obtain⟨F2,e2,-⟩:=aQ n x j.2 h2;rw[Rel.aG _ e2 F4.1]at e2;simp only[Rel]at O;obtain⟨b,o',k1,k2,k3,-⟩:=O;obtain⟨v,hv,-⟩:=hs (.SP t ok K0 k y) I w S b o' _ k2 k3 e2;simp_all
  have F3:∀S F,aT S (cQ V w0) σ (tv V a) w F->Rel w S y v []:=by intro S F n;obtain⟨F1,O,-⟩:=aQ n m j.1 h1;obtain⟨F2,e2,-⟩:=aQ n x j.2 h2;rw[Rel.aG _ e2 F4.1]at e2;simp only[Rel]at O;obtain⟨b,o',k1,k2,k3,-⟩:=O;obtain⟨v',S2,U1⟩:=hs (.SP t ok K0 k y) I w S b o' _ k2 k3 e2;simp_all
  refine iy (v:=v) (w':=w) ?_ ?_
  ·simp only[execOp,cm];simp[hv]
  cases u:o.dst with
  |none=>rw[u]at A;simp only[gF,Mv.runs,ada]at A;subst A;exact hK _ _ h
  |some d=>rw[u]at A Y;simp only[gF,afS,jl,ada]at A;subst A;exact hK _ _ (h.make (M:=[]) (by simpa using Y) (Below.refl _ _) λS F n=>⟨[],F3 S F n,I,I⟩)
 |Qy r=>
  simp only[lv]at hm;split at hm<;>try(simp at hm;done)
  rename_i c cm;split at hm<;>try(simp at hm;done)
  rename_i f hc;split at hm<;>try(simp at hm;done)
  rename_i x xs L;split at hm<;>try(simp at hm;done)
  rename_i g hf;split at hm<;>try(simp at hm;done)
  rename_i sz X hx;split at hm<;>try(simp at hm;done)
  rename_i ys D2;split at hm<;>try(simp at hm;done)
  rename_i F4;cases hm;unfold gD at j;rw[adD,cm]at j;obtain⟨Y,j⟩:=j;simp only[hc,L,ae6,adD]at j;obtain⟨S,F,n,ha,G3,F0,E2,B0⟩:=h;obtain⟨F1,O,e2,-⟩:=aQ n x j.1.1 hx;have hn:F1.Nodup:=by
   simp only[Rel]at O;rcases O with⟨-,-,rfl⟩|⟨b,cap,cs,F',-,-,-,-,-,k,rfl⟩
   ·exact ae5
   rw[c7.aG _ k F4];simp
  have A0:=oF n xs j.1.2 D2;obtain⟨Ff,q1,-⟩:=aQ n f j.2 hf;simp only[Rel]at q1;obtain⟨af,cf,G1,G2,qe,qa,qc,-⟩:=q1;have L0:af=#[]:=by simp only[Cells]at qa;simp_all
  have G4:cf=#[]:=by simp only[Cells]at qc;simp_all
  subst L0 G4;have E1:=hs (.Qy g sz X ys r) I w S (a.eval x) _ F1 (hG.Ar B0) (hG.cQ.mono λb hb=>by obtain⟨i,hi⟩:=e2 b hb;exact(n.own i b hi).1) O hn (λb hb=>by obtain⟨i,hi⟩:=e2 b hb;exact(n.own i b hi).2) n.shr A0;have X2:execOp a.eval o=callFunc g (a.eval x::xs.map a.eval).toArray:=by
   have:(c.args.toList.map a.eval).toArray=c.args.map a.eval:=by apply aga;simp
   rw[L,afc]at this;simp only[execOp,cm,Go.resolve,hc,Deferred.ofValue,qe,this];simp[invoke]
  refine Oper.oJ (by simp[cm]) ?_;rw[X2];refine E1 _ o a K Q λv w' hq=>?_;obtain⟨S',F',k1,k2,k3,k4,k5,k6,k7⟩:=hq;exact hK _ _ (Inv.end (λy hy=>eW) ha G3 n k1 B0 k2 k3 k4 F0 E2 k5 k6 k7 A)
 |PA y=>
  simp only[lv]at hm;split at hm<;>try(simp at hm;done)
  rename_i t x cm;split at hm<;>try(simp at hm;done)
  rename_i C hC;split at hm<;>try(simp at hm;done)
  rename_i J hJ;split at hm<;>try(simp at hm;done)
  cases hm;unfold gD at j;rw[adD,cm]at j;obtain⟨Y,j⟩:=j;have T:(resolve σ x).cont=some (.pv C):=by unfold bY.cont;rw[hC]
  have Z:∀S F,aT S (cQ V w0) σ (tv V a) w F->C (a.eval x)/\tD.here J w S (F 1000000):=λS F n=>by obtain⟨F1,O,-⟩:=aQ n x j T;simp only[Rel]at O;have:=n.rel 1000000;unfold an at this;rw[hJ]at this;exact⟨O.1,this⟩
  obtain⟨v,hv⟩:∃v,(Instr.loadAt t<|a.eval x).run P w=.ok v w:=by obtain⟨S,F,n,-⟩:=h;obtain⟨k1,k2⟩:=Z S F n;obtain⟨v,hv,-⟩:=hs (.PA t C J y) I w S _ _ k2 k1;exact⟨v,hv⟩
  have F3:∀S F,aT S (cQ V w0) σ (tv V a) w F->Rel w S y v []:=by intro S F n;obtain⟨k1,k2⟩:=Z S F n;obtain⟨v',S2,U1⟩:=hs (.PA t C J y) I w S _ _ k2 k1;simp_all
  refine iy (v:=v) (w':=w) ?_ ?_
  ·simp only[execOp,cm];simp[hv]
  cases u:o.dst with
  |none=>rw[u]at A;simp only[gF,Mv.runs,ada]at A;subst A;exact hK _ _ h
  |some d=>rw[u]at A Y;simp only[gF,afS,jl,ada]at A;subst A;exact hK _ _<|h.make (M:=[]) (by simpa using Y) (Below.refl _ _) λS F n=>⟨[],F3 S F n,I,I⟩
end
def kB(σ:St)(ops:Array Oper)(o:Oper):Option Bool:=
 match o.guard with
 |none=>some true
 |some (j,c)=>match(ops[j]?).bind (·.dst)with
  |some d=>match Nat.blt d 1000000 with
   |true=>match(σ d).av with
    |.v (.bool b)=>some (b==c)
    |.bW []=>some false
    |_=>none
   |false=>none
  |none=>none
def yZ(o:Oper):List Mv:=match o.dst with|some d=>[.put d<|.bW []]|none=>[]
def fu(P:Program)(σ:St)(ops:Array Oper)(o:Oper)(b:Ask):Option (List Mv×List Ob):=
 match kB σ ops o with
 |some true=>lv P σ o b
 |some false=>some (yZ o,[])
 |none=>none
def XD(r:bY):List Nat:=
 match r.sl.av with
 |.pv _=>[1000000]
 |_=>[]
def GF(σ:St):Op->List Nat
 |.move (.tmp t)=>[t]
 |op=>op.operands.toList.flatMap<|re σ
def I4(ops:Array Oper)(o:Oper):List Nat:=match o.guard with
 |some (j,_)=>((ops[j]?).bind (·.dst)).toList
 |none=>[]
def wH(σ:St)(ops:Array Oper)(o:Oper):List Nat:=
 GF σ o.op++I4 ops o++(match o.op with
  |.call c=>match c.callee with
   |.value f=>XD (resolve σ f)++(match c.args.toList with
     |x::_=>XD (resolve σ x)
     |[]=>[])
   |_=>[]
  |.load _ x=>XD (resolve σ x)
  |_=>[])
def QB(σ:St)(o:Oper):Option Nat:=match o.op with
 |.call ⟨.builtin .append,b,_⟩=>match b.toList with
  |[.tmp t,_]=>match(σ t).av with
   |.bC r _ _ (.deref::.idx _ _::_)=>match(resolve σ<|.tmp t).cont with
    |some (.list .own _ _)=>match o.dst with
     |some d=>if d=r then none else some r
     |none=>none
    |_=>none
   |_=>none
  |_=>none
 |_=>none
def iD(σ:St)(ops:Array Oper)(o:Oper):List Nat:=match vu σ o.op with
 |some (a,r)=>(if a=r then[]else[3*a])++(I4 ops o).map (3* ·)++[3*r+1]
 |none=>(wH σ ops o).map (3* ·)++(match QB σ o with
  |some r=>[3*r+2]
  |none=>[])
section
variable{P:Program}{N:Nat}{w0 w w':World}{V:Hid}{S S0 S':Nat->Prop}{B:Nat->Prop}{σ σ' τ:St}{a:Act}{F:Nat->List Nat}{K:Act->World->Prop}{Q:Exit->Act->World->Prop}{ops:Array Oper}{o:Oper}
def Oq{b:AV}(h:∀x∈o.op.operands.toList,resolve τ x=resolve σ x):Al P τ o b=Al P σ o b:=by
 have m1:∀(l:List Operand),(∀x∈l,resolve τ x=resolve σ x)->l.map (resolve τ)=l.map (resolve σ):=λl hl=>afq hl;have j:∀(l:Option Operand),(∀x∈l,resolve τ x=resolve σ x)->l.map (resolve τ)=l.map (resolve σ):=λl hl=>by cases l<;>simp_all
 cases i:o.dst with
 |none=>
  simp[Al,i];cases cm:o.op<;>simp only[cm,Op.operands]at h⊢
  case store t a x=>simp_all
  case call c=>
   cases hc:c.callee<;>simp only[hc,Call.operands]at h⊢
   grind
 |some d=>
  simp[Al,i];cases cm:o.op<;>simp only[cm,Op.operands]at h⊢
  case slice t x l hh m=>simp_all
  case makeFunc f p q=>grind
  case build t e=>simp at h;have:(e.toList.map λp=>resolve τ p.2)=e.toList.map λp=>resolve σ p.2:=afq λp g=>h p.2 p.1 (by simpa using g);rw[this]
  case buildSlice t n e=>simp at h;have:(e.toList.map λp=>resolve τ p.2)=e.toList.map λp=>resolve σ p.2:=afq λp g=>h p.2 p.1 (by simpa using g);rw[this]
  case call c=>
   cases hc:c.callee<;>simp only[hc,Call.operands]at h⊢
   ·grind
   grind
  all_goals(first|rfl|(simp at h;simp[h]))
def yY:∀{xs:List Operand}{b:List Nat},slotsOf xs=some b->∀t∈b,Operand.tmp t∈xs
 |[],b,h,t,c=>by simp[slotsOf]at h;subst h;cases c
 |.tmp u::xs,b,h,t,c=>by
  simp[slotsOf]at h;split at h<;>try(cases h;done)
  rename_i d e;cases h;rcases adZ.1 c with rfl|c
  ·simp
  exact List.mem_cons_of_mem _ (yY e t c)
 |.const _::_,b,h,_,_=>by simp[slotsOf]at h
 |.func _::_,b,h,_,_=>by simp[slotsOf]at h
 |.global _::_,b,h,_,_=>by simp[slotsOf]at h
def HG{a:Nat}(c:∀s∈roots σ a,τ s=σ s):qW τ a=qW σ a:=by
 have e:=c a (by unfold roots;split<;>simp);unfold qW;rw[e];cases b:(σ a).av with
 |bC r g1 g2 p=>have d:=c r (by unfold roots;rw[b];simp);simp[d]
 |_=>rfl
def HF{op:Op}(b:∀x∈op.operands.toList,∀s∈re σ x,τ s=σ s):vu τ op=vu σ op:=by
 unfold vu;split
 ·rename_i t a;exact HG λs hs=>b (.tmp a) (by simp[Op.operands]) s hs
 rfl
def On{k:Ask}(m:∀x∈o.op.operands.toList,∀s∈re σ x,τ s=σ s)(h:∀x∈o.op.operands.toList,resolve τ x=resolve σ x)(u:∀c f C,o.op=.call c->c.callee=.value f->(resolve σ f).sl.av=.pv C->τ 1000000=σ 1000000)
 (M:∀c f x xs C,o.op=.call c->c.callee=.value f->c.args.toList=x::xs->(resolve σ x).sl.av=.pv C->τ 1000000=σ 1000000)
 (L:∀t x C,o.op=.load t x->(resolve σ x).sl.av=.pv C->τ 1000000=σ 1000000):lv P τ o k=lv P σ o k:=by
 cases k with
 |PZ r=>simp only[lv,Oq h]
 |refs out r=>
  have m1:∀(l:List Operand),(∀x∈l,resolve τ x=resolve σ x)->l.map (resolve τ)=l.map (resolve σ):=λl hl=>afq hl;simp only[lv];cases cm:o.op<;>simp only[cm,Op.operands]at h⊢
  case call c=>
   cases hc:c.callee<;>simp only[hc,Call.operands]at h⊢
   grind
 |lZ=>
  have A:∀(l:Option Operand),(∀x∈l,resolve τ x=resolve σ x)->l.map (resolve τ)=l.map (resolve σ):=λl hl=>by cases l<;>simp_all
  simp only[lv];cases o.dst with
  |none=>rfl
  |some d=>cases cm:o.op<;>simp only[cm,Op.operands]at h⊢;simp_all
 |PC X b=>
  have m1:∀(l:List Operand),(∀x∈l,resolve τ x=resolve σ x)->l.map (resolve τ)=l.map (resolve σ):=λl hl=>afq hl;simp only[lv];cases cm:o.op<;>simp only[cm,Op.operands]at h⊢
  case call c=>
   cases hc:c.callee<;>simp only[hc,Call.operands]at h⊢
   case value f=>
    simp at h;rw[h.1,m1 c.args.toList<|by simpa using h.2]
    grind
 |Y7=>
  simp only[lv];cases o.dst with
  |none=>rfl
  |some d=>
   cases cm:o.op<;>simp only[cm,Op.operands]at m⊢
   case makeFunc f p q=>
    cases f<;>simp only;cases p.toList<;>simp only;cases hs:slotsOf q.toList<;>simp only;rename_i g H;have:(H.map λt=>(t,(τ t).g1))=H.map λt=>(t,(σ t).g1):=afq λt O=>by have:=yY hs t O;rw[m (.tmp t) eW t<|by simp only[re,roots];split<;>simp]
    rw[this]
 |fS out r=>
  simp only[lv];cases cm:o.op<;>simp only[cm,Op.operands]at m h⊢
  case call c=>
   cases hc:c.callee<;>simp only[hc,Call.operands]at m h⊢
   case value f=>
    cases f with
    |tmp t=>
     have R:τ t=σ t:=m (.tmp t) I t (by simp only[re,roots];split<;>simp);simp only[R];cases D:(σ t).av<;>simp only
     case fS g i=>
      have eq:∀q∈i,τ q.1=σ q.1:=λq J=>m (.tmp t) I q.1 (by simp only[re,roots,D];grind);have T:i.all (λq=>decide (q.1<1000000)&&(τ q.1).av.plain&&(τ q.1).g1==q.2)=i.all (λq=>decide (q.1<1000000)&&(σ q.1).av.plain&&(σ q.1).g1==q.2):=by grind
      rw[T];split
      ·rename_i z;simp only[aeI,adD]at z;have m1:c.args.toList.map (resolve τ)=c.args.toList.map (resolve σ):=afq λx v=>h x eW;have A:(i.map λq=>resolve τ<|.tmp q.1)=i.map λq=>resolve σ (.tmp q.1):=afq λq J=>by
        refine resolve_congr _ λs hs=>?_;have j:=(z q J).1.2;have:s=q.1:=by
         simp only[re,roots]at hs;split at hs
         ·rename_i e;rw[e]at j;simp[AV.plain]at j
         ·rename_i e;rw[e]at j;simp[AV.plain]at j
         ·rename_i e;rw[e]at j;simp[AV.plain]at j
         simpa using hs
        grind
       rw[m1,A];rfl
      rfl
    |_=>rfl
 |WL X r=>
  have m1:∀(l:List Operand),(∀x∈l,resolve τ x=resolve σ x)->l.map (resolve τ)=l.map (resolve σ):=λl hl=>afq hl;simp only[lv];cases cm:o.op<;>simp only[cm,Op.operands]at h⊢
  case call c=>
   cases hc:c.callee<;>simp only[hc,Call.operands]at h⊢
   case value f=>
    simp at h;cases n:c.args.toList with
    |nil=>rfl
    |cons x xs=>
     have v:∀y∈x::xs,resolve τ y=resolve σ y:=λy u=>h.2 y (by grind);simp only[h.1,v x I,m1 xs λy u=>v y<|by simp[u]]
     grind
 |Qy r=>
  have m1:∀(l:List Operand),(∀x∈l,resolve τ x=resolve σ x)->l.map (resolve τ)=l.map (resolve σ):=λl hl=>afq hl;simp only[lv];cases cm:o.op<;>simp only[cm,Op.operands]at h⊢
  case call c=>
   cases hc:c.callee<;>simp only[hc,Call.operands]at h⊢
   case value f=>
    simp at h;cases n:c.args.toList with
    |nil=>rfl
    |cons x xs=>have v:∀y∈x::xs,resolve τ y=resolve σ y:=λy u=>h.2 y (by grind);simp only[h.1,v x I,m1 xs λy u=>v y<|by simp[u]]
 |PA y=>
  simp only[lv];cases cm:o.op<;>simp only[cm,Op.operands]at h⊢
  grind
 |ext out r=>
  have m1:o.op.operands.toList.map (resolve τ)=o.op.operands.toList.map (resolve σ):=afq h;have A:rq τ o.op=rq σ o.op:=by unfold rq;rw[HF m]
  simp only[lv,m1,A]
 |SP y=>simp only[lv];cases cm:o.op<;>simp only[cm,Op.operands]at h⊢;simp_all
def Gi{t d:Nat}(h:τ t=σ t):dc d (resolve τ<|.tmp t)=dc d (resolve σ<|.tmp t):=by simp[resolve,bY.of,h];cases(σ t).av<;>rfl
def QI{b:Ask}{t:Nat}(c:o.op=.move (.tmp t))(h:τ t=σ t):lv P τ o b=lv P σ o b:=by
 have e:∀d,dc d (resolve τ<|.tmp t)=dc d (resolve σ<|.tmp t):=λd=>Gi h;cases b with
 |PZ r=>simp[lv,Al,c];simp_all
 |ext out r=>simp[lv,c,rq,MZ]
 |_=>simp[lv,c]
def yQ(h:∀s∈I4 ops o,τ s=σ s):kB τ ops o=kB σ ops o:=by
 unfold kB;split
 ·rfl
 rename_i j b c;cases e:(ops[j]?).bind (·.dst)with
 |none=>rfl
 |some d=>simp only;rw[h d<|by unfold I4;simp[c,e]]
def FX{b:Ask}(h:∀s∈wH σ ops o,τ s=σ s):fu P τ ops o b=fu P σ ops o b:=by
 have k:lv P τ o b=lv P σ o b:=by
  by_cases hm:∃t,o.op=.move (.tmp t)
  ·obtain⟨t,i⟩:=hm;exact QI i<|h t<|by unfold wH;rw[i];simp[GF]
  have n:GF σ o.op=o.op.operands.toList.flatMap (re σ):=by unfold GF;simp_all
  exact On (λx j s hs=>h s (by
   unfold wH;grind)) (λx j=>resolve_congr x λs hs=>h s (by
   unfold wH;grind)) (λc f C e d g=>h _ (by
   unfold wH;rw[e];simp[d,XD,g])) (λc f x m C e d g l=>h _ (by
   unfold wH;rw[e];simp[d,XD,g,l])) (λt x C e d=>h _ (by
   unfold wH;rw[e];simp[XD,d]))
 unfold fu;rw[yQ λs hs=>h s<|by unfold wH;simp_all,k]
def H8{x:AV}(h:KN x=true):∃o sz xs,x=.box o (.list .own sz xs):=by
 unfold KN at h
 grind
def MR{x y:Sl}{o:Bool}{sz:Nat}{xs:List AV}(b:x.av=.box o (.list .own sz xs))(h:rC y=rC x):(∃ys,y.av=.box o (.list .own sz ys))/\y.g1=x.g1/\y.g2=x.g2:=by
 have c:rC x=⟨.box o<|.list .own sz [],x.g1,x.g2⟩:=by unfold rC;rw[b]
 rw[c]at h;unfold rC at h
 grind
def uP{d t a r:Nat}(hs:qW σ a=some (a,r))(y:a≠r->τ a=σ a)(s:rC (τ r)=rC (σ r)):sn P d t (resolve τ<|.tmp a)=sn P d t (resolve σ<|.tmp a)/\qW τ a=some (a,r):=by
 have j:∀(ti:TI)(f:Fl)(sz:Nat)(c b:List AV),fits ti (.list f sz c)=fits ti (.list f sz b):=λ_ _ _ _ _=>rfl;unfold qW at hs;split at hs
 ·rename_i v g1 g2 p k;split at hs
  ·rename_i hc;obtain⟨rfl,q,u⟩:=hc;simp[true_and]at hs;subst hs;obtain⟨o,sz,c,g⟩:=H8 q;obtain⟨⟨b,e⟩,l,m⟩:=MR g s;have i:a≠v:=by grind
   have h:=y i;constructor
   ·unfold sn;cases n:cu P t with
    |none=>rfl
    |some ti=>simp[resolve,bY.of,h,k,bY.addr,bY.cont,g,e,l,m,u,NP,bp,xM,AV.plain,AV.aG,AV.cell,j ti .own sz b c,if_true]
   unfold qW;rw[h,k];simp[e,l,u,KN,if_true]
  cases hs
 rename_i x i;split at hs
 ·rename_i q;simp[true_and]at hs;subst hs;obtain⟨o,sz,c,g⟩:=H8 q;obtain⟨⟨b,e⟩,l,m⟩:=MR g s;constructor
  ·unfold sn;cases n:cu P t with
   |none=>rfl
   |some ti=>simp[resolve,bY.of,g,e,bY.addr,l,m,bp,AV.aG,AV.cell,j ti .own sz b c,if_true]
  unfold qW;rw[e];simp[KN]
 cases hs
def H5{b:Ask}(m:∀s,3*s∈iD σ ops o->τ s=σ s)(z:∀r,3*r+1∈iD σ ops o->rC (τ r)=rC (σ r)):fu P τ ops o b=fu P σ ops o b:=by
 cases hs:vu σ o.op with
 |none=>
  refine FX λs j=>m s ?_;unfold iD
  grind
 |some q=>
  obtain⟨a,r⟩:=q;have x:iD σ ops o=(if a=r then[]else[3*a])++(I4 ops o).map (3* ·)++[3*r+1]:=by unfold iD;rw[hs]
  have i:=hs;unfold vu at hs;split at hs
  ·rename_i t c cm;have e:c=a:=by
    unfold qW at hs
    grind
   subst e;have l:c≠r->τ c=σ c:=λv=>m c eW;have k:rC (τ r)=rC (σ r):=z r (by rw[x];simp);have u:kB τ ops o=kB σ ops o:=yQ λs j=>m s (by grind);have p:lv P τ o b=lv P σ o b:=by
    cases b with
    |PZ n=>
     simp[lv,Al,cm];cases o.dst with
     |none=>rfl
     |some d=>simp[(uP (P:=P) (d:=d) (t:=t) hs l k).1]
    |ext out n=>
     have k1:rq σ o.op=false:=by unfold rq;rw[i];split<;>rfl
     have k2:vu τ o.op=some (c,r):=by rw[cm];exact(uP (P:=P) (d:=0) (t:=t) hs l k).2
     have k3:rq τ o.op=false:=by unfold rq;rw[k2];split<;>rfl
     simp only[lv,k1,k3];rfl
    |PA y=>
     have gen:∀g:St,qW g c=some (c,r)->lv P g o (.PA y)=none:=by
      intro g f;have hn:∀C,(resolve g<|.tmp c).sl.av≠.pv C:=by
       intro C h;have e:(g c).av=.pv C:=by simp[resolve,bY.of]at h;split at h<;>first|exact h|(simp[Sl.none]at h)
       unfold qW at f;rw[e]at f;simp[KN]at f
      simp[lv,cm]
     rw[gen σ hs,gen τ (uP (P:=P) (d:=0) (t:=t) hs l k).2]
    |_=>simp[lv,cm]
   unfold fu;rw[u,p]
  cases hs
def J3{d t r g1 g2:Nat}{p:Path}{x y:bY}{b:List Mv}{sz:Nat}{xs:List AV}(h:lj P d t x y=some b)(e:x.sl.av=.bC r g1 g2 p)(hc:x.cont=some (.list .own sz xs)):
 ∃c z,b=[.take r d p,.make (d::c) d z]/\r∉c:=by
 unfold lj at h;split at h<;>try(cases h)
 split at h<;>try(cases h)
 grind
def Qa{i sz:Nat}{p:Path}{h x av:AV}(hs:eJ x (.deref::.idx i sz::p) h=some av):∃xs ys,x=.box true (.list .own sz xs)/\av=.box true (.list .own sz ys):=by
 cases x with
 |box o X=>
  cases o with
  |false=>simp[eJ]at hs
  |true=>
   simp[eJ]at hs;obtain⟨d,b,rfl⟩:=hs;cases X with
   |list f c xs=>
    cases f with
    |own=>
     simp only at b;split at b
     ·rename_i e;simp[ads]at b
      grind
     cases b
    |_=>simp at b
   |_=>simp at b
 |_=>simp[eJ]at hs
def NR{r d i sz:Nat}{p:Path}{M:List Nat}{z:AV}(b:d≠r)(s:r∉M)(c:Mv.runs σ [.take r d<|.deref::.idx i sz::p,.make (d::M) d z]=some σ'):rC (σ' r)=rC (σ r):=by
 simp[Mv.runs,Mv.run]at c;rw[if_neg b]at c;split at c<;>try(cases c;done)
 rename_i g f;split at f<;>try(cases f)
 rename_i y q;split at f<;>try(cases f;done)
 rename_i av hs;simp at f c;subst f;subst c;have l:made (iI (iI σ r<|ju (σ r) (.deref::.idx i sz::p) av) d ⟨y,(σ d).g1+1,(σ d).g2⟩) (d::M) d z r=ju (σ r) (.deref::.idx i sz::p) av:=by
  have j:r∉d::M:=by grind
  simp[made,j];rw[if_neg λe=>b e.symm,b6 _ _ λe=>b e.symm,aH]
 rw[l];have k:ju (σ r) (.deref::.idx i sz::p) av=⟨av,(σ r).g1,(σ r).g2⟩:=fb;rw[k];obtain⟨n,m,h,rfl⟩:=Qa hs;unfold rC;rw[h]
def TO{h:Ask}{r:Nat}{n:List Mv}{m:List Ob}(b:QB σ o=some r)(hm:fu P σ ops o h=some (n,m))(s:Mv.runs σ n=some σ'):rC (σ' r)=rC (σ r):=by
 unfold QB at b;split at b<;>try(cases b)
 rename_i H C cm;split at b<;>try(cases b)
 rename_i t y g;split at b<;>try(cases b)
 rename_i D g1 g2 i sz p x;split at b<;>try(cases b)
 rename_i J O hc;split at b<;>try(cases b)
 rename_i d v;split at b<;>try(cases b;done)
 rename_i j;simp at b;subst b;unfold fu at hm;split at hm<;>try(cases hm;done)
 ·have u:∃A z,n=[.take D d<|.deref::.idx i sz::p,.make (d::A) d z]/\D∉A:=by
   cases h with
   |PZ q=>
    simp[lv,Al,v,cm,g,afZ]at hm;cases c:kz P d .append C.toList [resolve σ<|.tmp t,resolve σ y]with
    |none=>rw[c]at hm;simp[gj]at hm
    |some L=>
     rw[c]at hm;obtain⟨rfl,-⟩:=hm;cases f:C.toList with
     |nil=>rw[f]at c;simp[kz]at c
     |cons T l=>
      cases l with
      |nil=>rw[f]at c;simp[kz]at c
      |cons R l=>
       cases l with
       |cons _ _=>rw[f]at c;simp[kz]at c
       |nil=>
        rw[f]at c;simp[kz]at c;split at c<;>try(cases c)
        exact J3 (g1:=g1) (g2:=g2) c (by simp[resolve,bY.of,x]) hc
   |ext out q=>
    have k:rq σ o.op=false:=by unfold rq MZ;rw[cm];simp
    simp[lv,k]at hm
   |_=>simp[lv,cm,v]at hm
  obtain⟨A,z,rfl,M⟩:=u;exact NR j M s
 cases hm;simp[yZ,v,Mv.cg]at s;subst s;rw[b6 _ _ λe=>j e.symm]
def yP(h:aT S B σ (tv V a) w F){b:Bool}(f:kB σ ops o=some b):Region.wanted o (yielded ops a.tmps)=b:=by
 unfold kB at f;unfold Region.wanted;split at f
 ·simp_all
 rename_i j n p;rw[p];simp only;split at f
 ·rename_i d q;unfold yielded;rw[q];simp;have l:=h.rel d;split at f<;>try(cases f)
  rename_i i;have i:=ae4 (show Nat.ble (d+1) 1000000=true from i);split at f
  ·rename_i r c;rw[an.aA<|by rw[c];rfl,c]at l;have g:=l.2.1;have:a.tmps[d]?=some (.bool r):=by
    rw[vp V a<|.inl i]at g;by_cases k:d<a.tmps.size
    ·simp_all
    simp[k,undef]at g
   simp_all
  ·rename_i c;rw[an.aA<|by rw[c];rfl,c]at l;obtain⟨s,e,m,-⟩:=l;have g:tv V a d=.tuple #[]:=by rw[e];simpa using m
   cases f;rw[vp V a<|.inl i]at g;by_cases k:d<a.tmps.size
   ·simp_all
   simp_all
  cases f
 cases f
def BD(n:kx P V w0)(h:Inv N V w0 S0 σ a w)(e:gD N o=true){f:Ask}{l:List Mv}{c:List Ob}(hm:fu P σ ops o f=some (l,c))(b:Mv.runs σ l=some σ')
 (hs:∀o∈c,o.ok P)(k:∀m w',Inv N V w0 S0 σ' m w'->K m w'):
 if Region.wanted o (yielded ops a.tmps)then Oper.Vg V.rd P o a w K Q else K (a.put o.dst undef) w:=by
 obtain⟨S,F,hc,-⟩:=id h;unfold fu at hm;split at hm
 ·rename_i g;rw[yP hc g];exact Om n h o e hm b hs k
 ·rename_i g;rw[yP hc g];cases hm;unfold yZ at b;split at b
  ·rename_i d j;rw[j];have i:d<N:=by
    unfold gD at e;simp_all
   simp[Mv.cg]at b;subst b;exact k _ _ (h.iS i λS F _=>by simp[Rel,Cells,undef])
  rename_i j;rw[j];simp[Mv.runs]at b;subst b;exact k _ _ h
 cases hm
end
section
variable{a:Act}{V:Hid}{N:Nat}{S0:Nat->Prop}{σ:St}{w w0:World}
def Marks(_V:Hid)(w0 w:World)(S:Nat->Prop)(F:Nat->List Nat)(b:List Deferred):Prop:=b.Nodup/\∀d∈b,∃D,d={target:=.collected D,args:=#[]}/\w.heap[D]?=some (.deferred<|some [])/\w0.heap.size<=D/\¬S D/\∀i,D∉F i
def o5(N:Nat)(V:Hid)(w0:World)(S0:Nat->Prop)(σ:St)(a:Act)(w:World):Prop:=∃S F c,aT S (cQ V w0) σ (tv V a) w F/\a.tmps.size=N/\a.defers=c++V.df/\(∀b,S0 b->S b)/\(∀b,S b->S0 b\/cQ V w0 b)/\lW V w0 w/\Marks V w0 w S F c
def Inv.x(h:Inv N V w0 S0 σ a w):o5 N V w0 S0 σ a w:=by obtain⟨S,F,g,f,e,d,c,b⟩:=h;exact⟨S,F,[],g,f,e,d,c,b,ae5,I⟩
def R0:Option Nat->Prop:=λr=>r=none
def R1:Option Nat->Prop:=λ_=>True
def AW(R:Option Nat->Prop)(P:Program)(N:Nat)(c:Code)(Q:Exit->St->Prop)(σ:St):Prop:=∀(V:Hid)(w0:World)(S0:Nat->Prop)(a:Act)(w:World),R V.rd/\kx P V w0->Inv N V w0 S0 σ a w->c.wpIn (FW V.rd) 0 P (λe b w'=>∃σ',Q e σ'/\o5 N V w0 S0 σ' b w') a w
def Hid.Su(V:Hid)(F:Nat->List Nat)(c:List Deferred):Hid:={v:=V.v,g:=λb=>∃i,b∈F i,rd:=V.rd,df:=c}
def AW.x{R:Option Nat->Prop}{P:Program}{c:Code}{Q:Exit->St->Prop}(h:AW R P N c Q σ)(z:R V.rd/\kx P V w0)(hi:o5 N V w0 S0 σ a w):
 c.wpIn (FW V.rd) 0 P (λe L w'=>∃σ',Q e σ'/\o5 N V w0 S0 σ' L w') a w:=by
 obtain⟨S,F,q,hc,hN,y,t,A0,j,B0,hm⟩:=hi;have m:=j.size;have n:∀b,cQ (V.Su F<|q++V.df) w b->cQ V w0 b:=by
  rintro b(f|⟨i,f⟩)
  ·exact .inl<|ad0 m f
  exact(hc.own i b f).1
 have v:∀d∈q,∀D,d={target:=.collected D,args:=#[]}->D<w.heap.size/\¬S D/\(∀i,D∉F i)/\w.heap[D]?=some (.deferred<|some [])/\w0.heap.size<=D:=by grind
 have u:∀D,D<w.heap.size->(∀i,D∉F i)->¬cQ (V.Su F<|q++V.df) w D:=by
  rintro D h1 h3(f|⟨i,f⟩)
  ·omega
  exact h3 i f
 refine wpIn_mono (h (V.Su F<|q++V.df) w S a w ⟨z.1,z.2.Ar j,z.2.cQ.mono λb⟨i,f⟩=>(hc.own i b f).1⟩ ⟨S,F,⟨hc.rel,hc.nodup,hc.du,λi b f=>⟨.inr ⟨i,f⟩,(hc.own i b f).2⟩,hc.shr⟩,hN,y,λ_ h=>h,λ_ h=>.inl h,lW.refl _ _⟩) ?_;rintro e L w'⟨σ',hq,S',F',A,l,Z,s,r,X,g,Y,km⟩;refine⟨σ',hq,S',F',A++q,⟨l.rel,l.nodup,l.du,λi b f=>⟨n b (l.own i b f).1,(l.own i b f).2⟩,l.shr⟩,Z,by rw[s,aeZ];rfl,λb f=>r b<|t b f,λb f=>?_,?_,?_,?_⟩
 ·grind
 ·refine⟨g.os.trans j.os,g.tape.trans j.tape,g.output.trans j.output,ad0 m g.size,λk H J=>?_⟩;rw[g.block k (ae3 H m) ?_]
  ·exact j.block k H J
  rintro⟨i,f⟩;rcases(hc.own i k f).1 with h|h
  ·omega
  exact J h
 ·grind
 intro d p;rcases afR.1 p with p|p
 ·grind
 obtain⟨D,K,-⟩:=hm d p;obtain⟨C,l3,T,O,M⟩:=v d p D K;have hn:=u D C T;refine⟨D,K,?_,M,λh=>?_,λi h=>hn (l.own i D h).1⟩
 ·rw[g.block D C λh=>hn<|.inr h];exact O
 grind
def Vb(P:Program)(ops:Array Oper):List Oper->St->(St->Prop)->Prop
 |[],σ,K=>K σ
 |o::rest,σ,K=>∃c d b σ',fu P σ ops o c=some (d,b)/\(∀e∈b,e.ok P)/\Mv.runs σ d=some σ'/\Vb P ops rest σ' K
def sQ(P:Program)(ops:Array Oper):List Oper->St->List (List Nat×List Nat)->(List (List Nat×List Nat)->St->Prop)->Prop
 |[],σ,b,K=>K b.reverse σ
 |o::rest,σ,b,K=>∃d e c σ',fu P σ ops o d=some (e,c)/\(∀f∈c,f.ok P)/\Mv.runs σ e=some σ'/\
   sQ P ops rest σ' ((iD σ ops o,bc e)::b) K
def BS(b:List Nat)(o:Oper):Nat:=o.after.toList.foldl (λm e=>if Region.binds .any e then m|||(b.getD e.on 0)|||(1<<<e.on)else m) 0
def aam:List Oper->List Nat->List Nat
 |[],b=>b
 |o::rest,b=>aam rest<|b++[BS b o]
def indep(x y:List Nat×List Nat):Bool:=(x.2.all λs=> !y.1.contains (3*s)&& !y.2.contains s&&(!y.1.contains (3*s+1)||x.1.contains (3*s+2)))&&(y.2.all λs=> !x.1.contains (3*s)&&(!x.1.contains (3*s+1)||y.1.contains (3*s+2)))
def lower(ops:List Oper):Bool:=(List.range ops.length).all λj=>((ops[j]?).map λo=>o.after.toList.all λe=> !Region.binds .any e||decide (e.on<j)).getD true
def apart(c:List Nat)(b:List (List Nat×List Nat))(n:Nat):Bool:=(List.range n).all λj=>(List.range j).all λi=>(c.getD j 0).testBit i||indep (b.getD i ([],[])) (b.getD j ([],[]))
end
section
variable{R:Option Nat->Prop}{P:Program}{N:Nat}{w0 w w':World}{V:Hid}{S S0 S':Nat->Prop}{B:Nat->Prop}{σ σ' τ:St}{a:Act}{F:Nat->List Nat}{ops:Array Oper}{o:Oper}
def DQ{id:Nat}{K:St->Prop}(k:ops.toList.all (gD N)=true)(h:Vb P ops ops.toList σ K):AW R P N (.region id ops false) (λe σ'=>e=.normal/\K σ') σ:=by
 intro V w0 S0 a w m hi;refine wpIn_region_list ?_;have:∀(l:List Oper)(σ:St)(a:Act)(w:World),l.all (gD N)=true->Vb P ops l σ K->Inv N V w0 S0 σ a w->
  wpListIn (FW V.rd) 0 P ops (λe b w'=>∃σ',(e=.normal/\K σ')/\o5 N V w0 S0 σ' b w') l a w:=by
  intro l
  induction l with
  |nil=>intro σ a w _ hs hi;exact⟨σ,⟨W,hs⟩,hi.x⟩
  |cons o l j=>
   intro σ a w f hs hi;simp only[ae6,adD]at f;obtain⟨g,s,i,σ',r,q,p,n⟩:=hs;have:=BD (ops:=ops) (K:=wpListIn (FW V.rd) 0 P ops (λe b w'=>∃σ',(e=.normal/\K σ')/\o5 N V w0 S0 σ' b w') l) (Q:=λe b w'=>∃σ',(e=.normal/\K σ')/\o5 N V w0 S0 σ' b w') m.2 hi f.1 r p q λb w' d=>j σ' b w' f.2 n d;unfold wpListIn;split
   ·rename_i c;rw[if_pos c]at this;exact this
   rename_i c;rw[if_neg c]at this;exact⟨λ_ _=>trivial,this⟩
 grind
def sQ.spec:∀(l:List Oper)(σ:St)(e:List (List Nat×List Nat))(K:List (List Nat×List Nat)->St->Prop),sQ P ops l σ e K->
 ∃(b:Nat->St)(rs:Nat->Ask)(c:Nat->List Mv)(d:Nat->List Ob)(R:List (List Nat×List Nat)),b 0=σ/\R.length=l.length/\K (e.reverse++R) (b l.length)/\
  ∀k o,l[k]?=some o->fu P (b k) ops o (rs k)=some (c k,d k)/\(∀g∈d k,g.ok P)/\Mv.runs (b k) (c k)=some (b<|k+1)/\R[k]?=some (iD (b k) ops o,bc<|c k)
 |[],σ,e,K,h=>⟨λ_=>σ,λ_=>.PZ .dead,λ_=>[],λ_=>[],[],W,W,by simpa[sQ]using h,I⟩
 |o::l,σ,e,K,h=>by
  obtain⟨f,i,g,σ',r,q,p,j⟩:=h;obtain⟨b,rs,c,d,R,t,n,m,s⟩:=sQ.spec l σ' _ K j;refine⟨λk=>match k with|0=>σ|k+1=>b k,λk=>match k with|0=>f|k+1=>rs k,λk=>match k with|0=>i|k+1=>c k,λk=>match k with|0=>g|k+1=>d k,(iD σ ops o,bc i)::R,W,by simp[n],by simpa using m,?_⟩
  grind
def wg:∀(l:List Oper)(b:List Nat),∃r,aam l b=b++r/\r.length=l.length
 |[],b=>⟨[],by simp[aam],W⟩
 |o::l,b=>by obtain⟨r,d,c⟩:=wg l<|b++[BS b o];exact⟨BS b o::r,by simp[aam,d],by simp[c]⟩
def EB:∀(l:List Oper)(b:List Nat)(k:Nat)(o:Oper),l[k]?=some o->(aam l b)[b.length+k]?=some (BS ((aam l b).take<|b.length+k) o)
 |[],b,k,o,h=>by cases h
 |o::l,b,0,o',h=>by simp at h;subst h;obtain⟨r,c,d⟩:=wg l<|b++[BS b o];simp[aam,c]
 |o::l,b,k+1,o',h=>by have:=EB l (b++[BS b o]) k o' h;simp at this;rw[show b.length+(k+1)=b.length+1+k from E];exact this
def OF{b:List Nat}{i:Nat}(h:(BS b o).testBit i=true):∃e∈o.after,Region.binds .any e=true/\(i=e.on\/(b.getD e.on 0).testBit i=true):=by
 have gen:∀(l:List Edge)(m:Nat),(l.foldl (λm e=>if Region.binds .any e then m|||(b.getD e.on 0)|||(1<<<e.on)else m) m).testBit i=true->
  m.testBit i=true\/∃e∈l,Region.binds .any e=true/\(i=e.on\/(b.getD e.on 0).testBit i=true):=by
  intro l
  induction l with
  |nil=>intro m h;exact .inl h
  |cons e l c=>
   intro m h;rw[afT]at h;rcases c _ h with h|⟨j,g,f⟩
   ·split at h
    ·rename_i d;rw[Nat.testBit_or,Nat.testBit_or,ag8,ag8]at h;rcases h with(h|h)|h
     ·exact .inl h
     ·simp_all
     refine .inr ⟨e,I,d,.inl ?_⟩;rw[Nat.one_shiftLeft,Nat.testBit_two_pow]at h;simp_all
    exact .inl h
   grind
 rcases gen _ 0 h with h|⟨e,g,f⟩
 ·simp at h
 grind
def kQ{l:List Oper}{L:Nat->Prop}(q:∀j o,L j->l[j]?=some o->∀e∈o.after,Region.binds .any e=true->L e.on):
 ∀(j:Nat)(o:Oper),l[j]?=some o->(∀e∈o.after,Region.binds .any e=true->L e.on)->∀i,((aam l []).getD j 0).testBit i=true->L i:=by
 intro j
 induction j using Nat.strongRecOn with
 |ind j m=>
  intro o h n i hi;have k:=EB l [] j o h;simp at k;rw[adY,k]at hi;obtain⟨e,s,r,c⟩:=OF hi;rcases c with rfl|c
  ·simp_all
  rw[adY,ahW]at c;split at c
  ·rename_i d;have p:=(agj.1 h).1;have b:e.on<l.length:=E;refine m e.on d _ (aeF b) (λt f g=>q e.on _ (n e s r) (aeF b) t f g) i ?_;simp_all
  simp at c
end
section
variable{R:Option Nat->Prop}{P:Program}{N:Nat}{w0 w w':World}{V:Hid}{S S0 S':Nat->Prop}{σ σ' τ:St}{a:Act}{ops:Array Oper}{o:Oper}
section
variable{j n s:Nat}{L:Nat->Bool}{mss:Nat->List Mv}
def merge(b:Nat->St)(mss:Nat->List Mv)(L:Nat->Bool)(s:Nat):Nat->Sl
 |0=>b 0 s
 |k+1=>if L k=true/\s∈bc (mss k)then b (k+1) s else merge b mss L s k
def BQ{b:Nat->St}(e:∀k,k<n->Mv.runs (b k) (mss k)=some (b<|k+1))(g:j<=n)
 (h:∀i,i<n->s∈bc (mss i)->(i<j->L i=true)/\(j<=i->L i=false)):merge b mss L s n=b j s:=by
 have m:∀k,k<=j->merge b mss L s k=b k s:=by
  intro k
  induction k with
  |zero=>intro _;rfl
  |succ k d=>
   intro f;unfold merge;by_cases hs:s∈bc (mss k)
   ·grind
   rw[if_neg λhh=>hs hh.2,d E,uG (e k E) hs]
 have l:∀k,j<=k->k<=n->merge b mss L s k=b j s:=by
  intro k
  induction k with
  |zero=>simp_all
  |succ k d=>
   intro f hn;by_cases c:j=k+1
   ·subst c;simp_all
   unfold merge
   grind
 simp_all
def Ey{b:Nat->St}{mss:Nat->List Mv}{L c:Nat->Bool}{s:Nat}{j:Nat}(d:∀i,i≠j->c i=L i)(hs:s∉bc (mss j)):∀n,merge b mss c s n=merge b mss L s n
 |0=>rfl
 |n+1=>by
  unfold merge;rw[Ey d hs n]
  grind
def KX{c:Nat->St}(f:∀k,k<n->Mv.runs (c k) (mss k)=some (c<|k+1))(m:j<=n)
 (h:∀i,i<n->s∈bc (mss i)->((i<j->L i=true)/\(j<=i->L i=false))\/rC (c (i+1) s)=rC (c i s))
 (l:∀i k,i<k->k<n->s∈bc (mss i)->s∈bc (mss k)->L k=true->L i=true):rC (merge c mss L s n)=rC (c j s):=by
 have r:∀k,k<=j->rC (merge c mss L s k)=rC (c k s):=by
  intro k
  induction k with
  |zero=>intro _;rfl
  |succ k e=>
   intro g;unfold merge;by_cases hc:L k=true/\s∈bc (mss k)
   ·rw[if_pos hc]
   rw[if_neg hc,e E];by_cases hs:s∈bc (mss k)
   ·grind
   rw[uG (f k E) hs]
 have p:∀k,j<=k->k<=n->(∀i,j<=i->i<k->s∈bc (mss i)->rC (c (i+1) s)=rC (c i s))->rC (c k s)=rC (c j s):=by
  intro k
  induction k with
  |zero=>simp_all
  |succ k e=>
   intro g hn hh;by_cases d:j=k+1
   ·subst d;rfl
   rw[<-e E E λi a b=>hh i a E];by_cases hs:s∈bc (mss k)
   ·grind
   rw[uG (f k E) hs]
 have q:∀k,j<=k->k<=n->rC (merge c mss L s k)=rC (c j s):=by
  intro k
  induction k with
  |zero=>simp_all
  |succ k e=>
   intro g hn;by_cases d:j=k+1
   ·subst d;simp_all
   unfold merge
   grind
 simp_all
def Le{x y:List Nat×List Nat}(h:indep x y=true):(∀s∈x.2,3*s∉y.1/\s∉y.2/\(3*s+1∈y.1->3*s+2∈x.1))/\∀s∈y.2,3*s∉x.1/\(3*s+1∈x.1->3*s+2∈y.1):=by
 unfold indep at h
 grind
def ES{P:Program}{σ σ':St}{ops:Array Oper}{o:Oper}{b:Ask}{d:List Mv}{c:List Ob}(h:3*s+2∈iD σ ops o)(hm:fu P σ ops o b=some (d,c))(e:Mv.runs σ d=some σ'):rC (σ' s)=rC (σ s):=by
 unfold iD at h;split at h
 ·grind
 simp at h;rcases h with⟨x,_,h⟩|h
 ·omega
 split at h
 ·rename_i r f;simp at h;have:s=r:=E;subst this;exact TO f hm e
 cases h
structure Told(P:Program)(N:Nat)(ops:Array Oper)(σs:Nat->St)(mss:Nat->List Mv):Prop where
 flat:∀(k:Nat)(o:Oper),ops[k]?=some o->gD N o=true
 step:∀(k:Nat)(o:Oper),ops[k]?=some o->Mv.runs (σs k) (mss k)=some (σs<|k+1)/\∃res obs,fu P (σs k) ops o res=some (mss k,obs)/\∀ob∈obs,ob.ok P
 low:∀(k:Nat)(o:Oper),ops[k]?=some o->∀e∈o.after,Region.binds .any e=true->e.on<k
 ord:∀(i j:Nat)(oi oj:Oper),i<j->ops[i]?=some oi->ops[j]?=some oj->((aam ops.toList []).getD j 0).testBit i=true\/
  ((∀s∈bc (mss i),3*s∉iD (σs j) ops oj/\s∉bc (mss j)/\(3*s+1∈iD (σs j) ops oj->rC (σs (i+1) s)=rC (σs i s)))/\∀s∈bc (mss j),3*s∉iD (σs i) ops oi/\(3*s+1∈iD (σs i) ops oi->rC (σs (j+1) s)=rC (σs j s)))
def Kd{c:Nat->St}(hG:kx P V w0)(T:Told P N ops c mss){Q:Exit->Act->World->Prop}(hQ:∀a w,Inv N V w0 S0 (c ops.size) a w->Q .normal a w):
 ∀(g:Nat)(b:Array Bool)(f:List Nat)(τ:St)(a:Act)(w:World),b.size=ops.size->f.length<=g->f.Nodup->(∀i,i<ops.size->b.getD i true=false->i∈f)->
  (∀(j:Nat)(o:Oper),b.getD j false=true->ops[j]?=some o->∀e∈o.after,Region.binds .any e=true->b.getD e.on false=true)->
  (∀s,τ s=merge c mss (λi=>b.getD i false) s ops.size)->Inv N V w0 S0 τ a w->wpAnyIn (FW V.rd) 0 P .any ops Q g b a w:=by
 have hr:∀k,k<ops.size->Mv.runs (c k) (mss k)=some (c<|k+1):=λk J=>(T.step k _<|afM J).1;have t:∀(b:Array Bool)(τ:St)(a:Act)(w:World),b.size=ops.size->(∀s,τ s=merge c mss (λi=>b.getD i false) s ops.size)->Inv N V w0 S0 τ a w->
  Region.ready .any ops b=[]->Q .normal a w:=by
  intro b τ a w q l hi D;have A0:∀i,i<ops.size->b.getD i false=true:=by
   intro i
   induction i using Nat.strongRecOn with
   |ind i ih=>
    intro m;cases hl:b.getD i false with
    |true=>rfl
    |false=>
     have:i∈Region.ready .any ops b:=mem_ready.2 ⟨?_,ops[i],afM m,λe he B=>?_⟩
     ·simp_all
     ·simp_all
     have:=T.low i _ (afM m) e he B
     grind
  refine hQ a w ?_;have:τ=c ops.size:=funext λs=>by rw[l s,BQ hr (adp _) λi hi _=>⟨λ_=>A0 i hi,λh=>E⟩]
  rw[<-this];exact hi
 intro g
 induction g with
 |zero=>
  intro b f τ a w q X O C u l hi;have D:Region.ready .any ops b=[]:=by
   cases hh:Region.ready .any ops b with
   |nil=>rfl
   |cons j _=>
    have:j∈Region.ready .any ops b:=by rw[hh];simp
    obtain⟨h1,o,h2,-⟩:=mem_ready.1 this
    grind
  exact⟨D,t b τ a w q l hi D⟩
 |succ g ih=>
  intro b f τ a w q X O C u l hi;refine⟨t b τ a w q l hi,λj hj=>?_⟩;obtain⟨hl,o,v,A⟩:=mem_ready.1 hj;have G1:j<ops.size:=(af8.1 v).1;have G3:b.getD j false=false:=eW;have p:∀(k:Nat)(o:Oper),b.getD k false=true->ops.toList[k]?=some o->∀e∈o.after,Region.binds .any e=true->b.getD e.on false=true:=λk o h1 h2=>u k o h1 (by simpa using h2)
  have D1:∀s,3*s∈iD (c j) ops o\/s∈bc (mss j)->∀i,i<ops.size->i≠j->s∈bc (mss i)->(i<j->b.getD i false=true)/\(j<=i->b.getD i false=false):=by
   intro s hs i d r J;refine⟨λm=>?_,λG4=>?_⟩
   ·rcases T.ord i j _ o m (afM d) v with h|⟨h,-⟩
    ·exact kQ (L:=λk=>b.getD k false=true) p j o (by simpa using v) A i h
    simp_all
   have m:j<i:=E;rcases T.ord j i o _ m v (afM d)with h|⟨h1,h2⟩
   ·cases H:b.getD i false with
    |false=>rfl
    |true=>have:=kQ (L:=λk=>b.getD k false=true) p i _ I (λe he B=>u i _ H (afM d) e he B) j h;simp_all
   simp_all
  have B0:∀s,3*s∈iD (c j) ops o\/s∈bc (mss j)->τ s=c j s:=by
   intro s hs;rw[l s];refine BQ hr E λi d J=>?_
   grind
  have F3:∀s,3*s+1∈iD (c j) ops o->rC (τ s)=rC (c j s):=by
   intro s hs;rw[l s];refine KX hr E (λi d J=>?_) (λi k F2 Y H1 G5 F1=>?_)
   ·by_cases r:i=j
    ·simp_all
    by_cases m:i<j
    ·rcases T.ord i j _ o m (afM d) v with h|⟨h,-⟩
     ·exact .inl ⟨λ_=>kQ (L:=λk=>b.getD k false=true) p j o (by simpa using v) A i h,λh=>E⟩
     simp_all
    rcases T.ord j i o _ E v (afM d)with h|⟨-,h⟩
    ·refine .inl ⟨λh=>E,λ_=>?_⟩;cases H:b.getD i false with
     |false=>rfl
     |true=>have:=kQ (L:=λk=>b.getD k false=true) p i _ I (λe he B=>u i _ H (afM d) e he B) j h;simp_all
    simp_all
   rcases T.ord i k _ _ F2 (afM E) (afM Y)with h|⟨h,-⟩
   ·exact kQ (L:=λk=>b.getD k false=true) p k _ I (λe he B=>u k _ F1 (afM Y) e he B) i h
   simp_all
  obtain⟨M,E1,E2,F,y⟩:=T.step j o v;have z:fu P τ ops o E1=some (mss j,E2):=by rw[H5 (λs hs=>B0 s<|.inl hs) F3];exact F
  obtain⟨D2,r1,r2,r3⟩:=qj (mss j) (τ:=τ) (λs hs=>B0 s<|.inr hs) M;unfold wpOpIn;rw[v];have x:=BD (ops:=ops) (o:=o) (K:=wpAnyIn (FW V.rd) 0 P .any ops Q g<|b.setIfInBounds j true) (Q:=Q) hG hi (T.flat j o v) z r1 y ?_
  ·show if _ then _ else _;split
   ·rename_i hw;rw[if_pos hw]at x;exact x
   rename_i hw;rw[if_neg hw]at x;exact⟨λ_ _=>trivial,x⟩
  intro a' w' d;have F0:∀i,i≠j->(b.setIfInBounds j true).getD i false=b.getD i false:=λi r=>getD_set_ne false λe=>r e.symm;have F4:(b.setIfInBounds j true).getD j false=true:=eW;refine ih _ (f.erase j) D2 a' w' (by simpa using q) ?_ (O.erase j) (λi Z hh=>?_) (λk o' J G2 e he B=>?_) (λs=>?_) d
  ·simp_all
  ·grind
  ·by_cases G6:k=j
   ·grind
   grind
  by_cases hs:s∈bc (mss j)
  ·rw[r2 s hs];symm;refine BQ hr E λi Z J=>?_
   grind
  rw[r3 s hs,l s];exact(Ey (λi r=>F0 i r) hs _).symm
def aT.drew{B:Nat->Prop}{F:Nat->List Nat}{T:Nat->Value}(h:aT S B σ T w F):aT S B σ T {w with drawn:=w.drawn+1} F:=
 h.step (w':={w with drawn:=w.drawn+1}) (S':=S) ⟨λ_=>.refl,λ_=>.refl,λ_ _=>rfl,λ_ _ _=>⟨λ_ y b=>⟨y,b⟩,λ_ _=>rfl⟩⟩ (λ_ h=>h)
  (λ_=>.inl ⟨W,W,W,λ_ _=>rfl⟩) h.nodup h.du h.own h.shr
def Inv.drew(h:Inv N V w0 S0 σ a w):Inv N V w0 S0 σ a {w with drawn:=w.drawn+1}:=by obtain⟨S,F,hc,f,e,d,c,b⟩:=h;exact⟨S,F,hc.drew,f,e,d,c,⟨b.os,b.tape,b.output,b.size,b.block⟩⟩
def DR{id:Nat}{K:St->Prop}(hm:P.follows .mixedOrders=true)(T:ops.toList.all (gD N)=true)(b:lower ops.toList=true){y:List Nat}(r:aam ops.toList []=y)
 (h:sQ P ops ops.toList σ [] λl σ'=>apart y l ops.size=true/\K σ'):AW R P N (.region id ops true) (λe σ'=>e=.normal/\K σ') σ:=by
 intro V w0 S0 a w Y hi;refine wpIn_region_any hm ?_;obtain⟨c,rs,mss,M,R,e0,e1,⟨B,A⟩,p⟩:=sQ.spec _ _ _ _ h;simp at e1 B A;have X:Told P N ops c mss:=by
  refine⟨λk o q=>?_,λk o q=>?_,λk o q e he hb=>?_,λi j x v u m d=>?_⟩
  ·grind
  ·grind
  ·unfold lower at b;have Q:=(af8.1 q).1;have:=aeI.1 b k (by simpa using Q)
   grind
  have t:=(af8.1 d).1;have Z:=aeI.1 B j (by simpa using t);have g:=aeI.1 Z i (by simpa using u);obtain⟨-,-,-,r1⟩:=p i x (by simpa using m);obtain⟨-,-,-,F⟩:=p j v (by simpa using d);rw[ag8]at g;rw[r];rcases g with g|g
  ·exact .inl g
  rw[adY,adY,r1,F]at g;obtain⟨i1,z⟩:=Le g;obtain⟨J,-,H,-⟩:=p i x (by simpa using m);obtain⟨D,-,C,-⟩:=p j v (by simpa using d);exact .inr ⟨λs hs=>⟨(i1 s hs).1,(i1 s hs).2.1,λh=>ES ((i1 s hs).2.2 h) J H⟩,λs hs=>⟨(z s hs).1,λh=>ES ((z s hs).2 h) D C⟩⟩
 refine Kd (w0:=w0) (S0:=S0) Y.2 X (λa' w' f=>⟨_,⟨W,A⟩,f.x⟩) ops.size _ (List.range ops.size) σ a _ I I List.nodup_range (λi f _=>by simpa using f) (λj o t=>?_) (λs=>?_) hi.drew
 ·simp[Array.getD]at t
 have:∀n,merge c mss (λi=>(Array.replicate ops.size false).getD i false) s n=c 0 s:=by
  intro n
  induction n with
  |zero=>rfl
  |succ n O=>unfold merge;rw[if_neg λhh=>?_,O];have:=hh.1;simp[Array.getD]at this
 rw[this,e0]
end
end
end Go.Ai
