/- ScaleRanges holds of the program, under no condition. -/
import Derived.Test.YtacjimehcbbkbaaGreatDoorRZAB
import Derived.RangeFuncSeq
import Derived.RangeFuncLeaves
import Derived.RangeFuncFrom
set_option linter.all false
set_option maxRecDepth 100000
set_option maxHeartbeats 0
namespace Go.Ai
open Go.RowKit
def mk:L (Nat×Sl)->St
 |[]=>λ_=>⟨.dead,0,0⟩
 |(d,x)::l=>λi=>if i=d then x else mk l i
def entry:Nat->L AV->L (Nat×Sl)
 |_,[]=>[]
 |k,x::xs=>(k,⟨x,0,0⟩)::entry (k+1) xs
def rb:∀(xs:L AV)(k i:Nat),mk (entry k xs) i=if k<=i then(match xs[i-k]?with|some x=>⟨x,0,0⟩|none=>⟨.dead,0,0⟩)else⟨.dead,0,0⟩
 |[],k,i=>by simp[entry,mk]
 |x::xs,k,i=>by
  simp[entry,mk];rw[rb xs (k+1) i]
  grind
def zT:∀(l m:L (Nat×Sl))(i:Nat),i∉l.map (·.1)->mk (l++m) i=mk m i
 |[],m,i,_=>rfl
 |(d,x)::l,m,i,h=>by simp only[acK,abm,not_or]at h;simp[mk,h.1];exact zT l m i h.2
def uc:∀(l m:L (Nat×Sl))(i:Nat),i∈l.map (·.1)->mk (l++m) i=mk l i
 |[],m,i,h=>by cases h
 |(d,x)::l,m,i,h=>by simp only[acK,abm]at h;simp[mk];by_cases e:i=d;simp[e];simp[e];exact uc l m i<|h.resolve_left e
def sL:∀(xs:L AV)(k i:Nat),i∈(entry k xs).map (·.1)↔k<=i/\i<k+xs.length
 |[],k,i=>by simp[entry]
 |x::xs,k,i=>by simp[entry,sL xs (k+1) i];omega
def both(args H:L AV):St:=mk<|entry 0 args++entry 1000000 H
def fe{args H:L AV}{i:Nat}(h:i<1000000):both args H i=match args[i]?with|some x=>⟨x,0,0⟩|none=>⟨.dead,0,0⟩:=by unfold both;by_cases hi:i<args.length;rw[uc _ _ _<|(sL args 0 i).2 ⟨E,E⟩,rb];simp;rw[zT _ _ _ (λhh=>by have:=(sL args 0 i).1 hh;omega),rb,aaq E,aex E]
def ew{args H:L AV}(b:args.length<=1000000)(k:Nat):both args H (1000000+k)=match H[k]?with|some x=>⟨x,0,0⟩|none=>⟨.dead,0,0⟩:=by unfold both;rw[zT _ _ _ (λhh=>by have:=(sL args 0 _).1 hh;omega),rb];simp
def PH{args H:L AV}:∀i,(both args H i).g1=0/\(both args H i).g2=0:=by
 intro i;have:∀(l:L (Nat×Sl)),(∀q∈l,q.2.g1=0/\q.2.g2=0)->(mk l i).g1=0/\(mk l i).g2=0:=by
  intro l
  induction l with
  |nil=>intro _;simp[mk]
  |cons q l d=>
   intro h;simp only[abm,forall_eq_or_imp]at h;simp[mk]
   grind
 refine this _ λq c=>?_;have hh:∀(b:L AV)(k:Nat),∀q∈entry k b,q.2.g1=0/\q.2.g2=0:=by
  intro b
  induction b with
  |nil=>intro k q c;simp[entry]at c
  |cons x b d=>
   intro k q c;simp[entry]at c
   grind
 grind
def a8(V:Hid)(b:L Value):Nat->Value:=λi=>if i<1000000 then b.getD i undef else V.v i
def Ki(P:Program)(f:FuncId)(H args d:L AV)(r:AV):Prop:=
 ∀(w:World)(S:Nat->Prop)(V:Hid)(c:L Value)(F:Nat->L Nat),c.length=args.length->lE P V w->aU S V.g (both args H) (a8 V c) w F->
  qD P f c.toArray w λv w'=>∃S' e,sS V w w w'/\(∀b,S b->S' b)/\(∀b,S' b->S b\/cK V w b)/\aU S' (cK V w) (both [r] d) (a8 V [v]) w' e
abbrev qg:=World->(Nat->Prop)->L Nat->Prop
def qg.here(J:qg)(w:World)(S:Nat->Prop)(F:L Nat):Prop:=∀w' S',(∀b,S b\/b∈F->w'.heap[b]?=w.heap[b]?)->(∀b,S b->S' b)->J w' S' F
def Yields(P:Program)(J J':qg)(x:L AV)(b:Bool)(v:Value):Prop:=
 ∃l,v=.func (.yield l) #[] #[]/\∀(rd:Q Nat)(w:World)(S:Nat->Prop)(F:L Nat)(f:L Value),Laid P w->B2 P (·∈F)->J.here w S F->F.Nodup->(∀c∈F,c<w.heap.size/\¬S c)->(∀c,S c->c<w.heap.size)->Cells w S false x f []->
  YieldAt (FW rd) 0 P l f.toArray w λe w'=>e=.returned (.bool b)/\∃S' d,w'.os=w.os/\w'.tape=w.tape/\w'.output=w.output/\w.heap.size<=w'.heap.size/\(∀k,k<w.heap.size->k∉F->w'.heap[k]?=w.heap[k]?)/\
   (∀c,S c->S' c)/\(∀c,S' c->S c\/w.heap.size<=c\/c∈F)/\(∀c,S' c->c<w'.heap.size)/\J'.here w' S' d/\d.Nodup/\∀c∈d,(w.heap.size<=c\/c∈F)/\c<w'.heap.size/\¬S' c
def TN(P:Program)(g:FuncId)(C:Value->Prop)(J J':qg)(x:L AV)(r:AV):Prop:=
 ∀(v:Value),C v->∀(w:World)(S:Nat->Prop)(F:L Nat)(d:L Value),Laid P w->B2 P (·∈F)->J.here w S F->F.Nodup->(∀c∈F,c<w.heap.size/\¬S c)->(∀c,S c->c<w.heap.size)->Cells w S false x d []->
  qD P g (v::d).toArray w λy w'=>∃S' b,w'.os=w.os/\w'.tape=w.tape/\w'.output=w.output/\w.heap.size<=w'.heap.size/\(∀k,k<w.heap.size->k∉F->w'.heap[k]?=w.heap[k]?)/\
   (∀c,S c->S' c)/\(∀c,S' c->S c\/w.heap.size<=c\/c∈F)/\(∀c,S' c->c<w'.heap.size)/\J'.here w' S' b/\b.Nodup/\(∀c∈b,(w.heap.size<=c\/c∈F)/\c<w'.heap.size/\¬S' c)/\∀e f,Rel e f r y []
def Looks(P:Program)(t:TypeId)(ok:Bool)(J:World->(Nat->Prop)->Value->Prop)(k y:AV):Prop:=∀(w:World)(S:Nat->Prop)(m b:Value),J w S m->Rel w S k b []->∃v,(Instr.lookup t m b ok).run P w=.ok v w/\Rel w S y v []
def ins{α:Type _}:Nat->α->L α->L α
 |0,x,l=>x::l
 |_+1,x,[]=>[x]
 |k+1,x,y::l=>y::ins k x l
def pick{α:Type _}:Nat->L α->Q (α×L α)
 |_,[]=>none
 |0,x::l=>some (x,l)
 |k+1,y::l=>match pick k l with
  |some (x,q)=>some (x,y::q)
  |none=>none
def Lh{α:Type _}:∀{k:Nat}{l:L α}{x:α}{q:L α},pick k l=some (x,q)->ins k x q=l
 |0,[],x,q,h=>by cases h
 |_+1,[],x,q,h=>by cases h
 |0,y::l,x,q,h=>by cases h;rfl
 |k+1,y::l,x,q,h=>by simp only[pick]at h;split at h<;>cases h;rename_i b;simp only[ins,Lh b]
def QG{α b:Type _}(f:α->b):∀{k:Nat}{x:α}{q:L α},(ins k x q).map f=ins k (f x) (q.map f)
 |0,x,q=>rfl
 |_+1,x,[]=>rfl
 |k+1,x,y::q=>by simp only[ins,acK,QG f (k:=k)]
def Dx{α:Type _}:∀{k:Nat}{l:L α}{x:α}{q:L α},pick k l=some (x,q)->x∈l/\∀y∈q,y∈l
 |0,[],x,q,h=>by cases h
 |_+1,[],x,q,h=>by cases h
 |0,y::l,x,q,h=>by cases h;simp_all
 |k+1,y::l,x,q,h=>by simp only[pick]at h;split at h<;>cases h;rename_i b;have:=Dx b;simp_all
def Query(P:Program)(g:FuncId)(k:Nat)(x:AV)(ys:L AV)(r:AV):Prop:=
 ∀(w:World)(S:Nat->Prop)(e:Value)(d:L Value)(c:L Nat),Laid P w->B2 P (·∈c)->Rel w S x e c->c.Nodup->(∀b∈c,b<w.heap.size/\¬S b)->(∀b,S b->b<w.heap.size)->Cells w S false ys d []->
  qD P g (ins k e d).toArray w λv w'=>∃S' F,Below w.heap.size w w'/\(∀b,S b->S' b)/\(∀b,S' b->S b\/w.heap.size<=b)/\(∀b,S' b->b<w'.heap.size)/\Rel w' S' r v F/\F.Nodup/\∀b∈F,w.heap.size<=b/\b<w'.heap.size/\¬S' b
def Qn(y s:AV):Bool:=match s with
 |.bw _ _ _ []=>true
 |_=>match y with
  |.list .own _ X=>bR X
  |_=>false
def vQ(P:Program)(t:TypeId)(C:Value->Prop)(J:qg)(y:AV):Prop:=∀(w:World)(S:Nat->Prop)(F:L Nat)(v:Value),J.here w S F->C v->∃z,(Instr.loadAt t v).run P w=.ok z w/\Rel w S y z []
def Obs(P:Program)(o:Oper)(K:World->(Nat->Prop)->Value->Prop)(y:AV):Prop:=∀(w:World)(S:Nat->Prop)(m:Value)(b:Operand->Value),K w S m->o.op.operands.toList.map b=[m]->∃v,(execOp b o).run P w=.ok (.value v) w/\Rel w S y v []
def Ext(P:Program)(o:Oper)(d:Array Value)(w:World)(R:Value->World->Prop):Prop:=∀c:Operand->Value,o.op.operands.toList.map c=d.toList->∃b v w',(execOp c o).run P w=.ok b w'/\(b=.value v\/(b=.skip/\o.dst=none))/\R v w'
def Ext.mono{P:Program}{o:Oper}{c:Array Value}{w:World}{R d:Value->World->Prop}(g:∀v w',R v w'->d v w')(h:Ext P o c w R):Ext P o c w d:=λe b=>by
 obtain⟨f,v,w',k1,k2,k3⟩:=h e b
 grind
def Xy(P:Program)(o:Oper)(H args d:L AV)(r:AV):Prop:=
 ∀(w:World)(S:Nat->Prop)(V:Hid)(c:L Value)(F:Nat->L Nat),c.length=args.length->aU S V.g (both args H) (a8 V c) w F->
  Ext P o c.toArray w λv w'=>∃S' e,sS V w w w'/\(∀b,S b->S' b)/\(∀b,S' b->S b\/cK V w b)/\aU S' (cK V w) (both [r] d) (a8 V [v]) w' e
inductive Ob
 |call (o:Obl)
 |refs (g:FuncId) (H args out:List AV) (r:AV)
 |TX (C:Value->Prop) (J J':qg) (x:List AV) (b:Bool)
 |XE (t:TypeId) (ok:Bool) (K:World->(Nat->Prop)->Value->Prop) (k y:AV)
 |ext (o:Oper) (H args out:List AV) (r:AV)
 |Vs (g:FuncId) (C:Value->Prop) (J J':qg) (x:List AV) (r:AV)
 |U1 (g:FuncId) (k:Nat) (x:AV) (ys:List AV) (r:AV)
 |TS (t:TypeId) (C:Value->Prop) (J:qg) (y:AV)
 |kG (o:Oper) (K:World->(Nat->Prop)->Value->Prop) (y:AV)
def Ob.ok(P:Program):Ob->Prop
 |.call o=>Sound P o.1 o.2.1 o.2.2
 |.refs g H args out r=>Ki P g H args out r
 |.TX C J J' x b=>∀v,C v->Yields P J J' x b v
 |.XE t ok K k y=>Looks P t ok K k y
 |.ext o H args out r=>Xy P o H args out r
 |.Vs g C J J' x r=>TN P g C J J' x r
 |.U1 g k x ys r=>Query P g k x ys r
 |.TS t C J y=>vQ P t C J y
 |.kG o K y=>Obs P o K y
def sW(x:cx):Q (Nat×AV):=
 match x.sl.av with
 |.bw r _ _ _=>some (r,x.rt.av)
 |.ptr r _ _ _=>some (r,x.rt.av)
 |y=>if y.aK then none else match x.s with
  |some s=>some (s,y)
  |none=>none
def jD:L (Nat×AV)->Nat->Q Nat
 |[],_=>none
 |(r,_)::R,s=>if r=s then some 0 else match jD R s with
  |some k=>some (k+1)
  |none=>none
def dR:L (Nat×AV)->L cx->L (Nat×AV)
 |R,[]=>R
 |R,x::xs=>match sW x with
  |some (r,y)=>match jD R r with
   |some _=>dR R xs
   |none=>dR (R++[(r,y)]) xs
  |none=>dR R xs
def vy(R:L (Nat×AV))(x:cx):Q AV:=
 match x.sl.av with
 |.bw r g1 g2 p=>match jD R r with
  |some k=>if x.rt.g1=g1 then if lu p=true\/x.rt.g2=g2 then some (.bw (1000000+k) 0 0 p)else none else none
  |none=>none
 |.ptr r g1 g2 p=>match jD R r with
  |some k=>if x.rt.g1=g1 then if flat p=true\/x.rt.g2=g2 then some (.ptr (1000000+k) 0 0 p)else none else none
  |none=>none
 |y=>if y.aK then some y else match x.s with
  |some s=>match jD R s with
   |some k=>some (.bw (1000000+k) 0 0 [])
   |none=>none
  |none=>none
def uI(R:L (Nat×AV)):L cx->Q (L AV)
 |[]=>some []
 |x::xs=>match vy R x,uI R xs with
  |some y,some ys=>some (y::ys)
  |_,_=>none
def qi:L (Nat×AV)->L AV->L (Nat×AV)
 |[],_=>[]
 |(r,_)::R,ys=>match ys with
  |[]=>[]
  |y::ys=>(r,y)::qi R ys
def LF:L (Nat×AV)->Q Nat->Bool
 |_,none=>false
 |[],_=>false
 |(r,_)::R,some d=>if r=d then true else LF R (some d)
def o6:L AV->Bool
 |[]=>true
 |x::xs=>x.plain&&o6 xs
def vP(d:Q Nat)(f:cx)(asx:L cx)(out:L AV)(r:AV):Q (L Mv×L Ob):=
 match f.cont with
 |some (.fn (.func g) first b)=>if bR first&&bR b then match uI (dR [] asx) asx with
   |some c=>if o6 ((dR [] asx).map (·.2))&&o6 out&&decide ((dR [] asx).length=out.length)&&r.plain&& !LF (dR [] asx) d&&decide (first.length+c.length+b.length<=1000000)then
     some (dz d r [.back<|qi (dR [] asx) out],[.refs g ((dR [] asx).map (·.2)) (first++c++b) out r])else none
   |none=>none
  else none
 |_=>none
section
variable{P:Program}{N:Nat}{w0 w w':World}{V:Hid}{S S0 S':Nat->Prop}{B:Nat->Prop}{σ σ' σ0:St}{T0:Nat->Value}{a:Act}{F:Nat->L Nat}{R:L (Nat×AV)}
def qS:∀{R:L (Nat×AV)}{s k:Nat},jD R s=some k->(R.map (·.1))[k]?=some s
 |[],s,k,h=>by simp[jD]at h
 |(r,y)::R,s,k,h=>by
  simp[jD]at h;split at h
  grind
  split at h;rename_i c b;cases h;simpa using qS b;cases h
def qT:∀{R:L (Nat×AV)}{s:Nat},jD R s=none->s∉R.map (·.1)
 |[],s,h=>I
 |(r,y)::R,s,h=>by simp[jD]at h;split at h;cases h;rename_i e;split at h;cases h;rename_i b;simp only[acK,abm,not_or];exact⟨λe'=>e e'.symm,qT b⟩
def I0:∀{R:L (Nat×AV)}{k s:Nat},(R.map (·.1)).Nodup->(R.map (·.1))[k]?=some s->jD R s=some k
 |[],k,s,_,h=>by cases h
 |(r,y)::R,k,s,hn,h=>by
  simp only[acK,ad2]at hn;simp[jD];cases k with
  |zero=>cases h;simp
  |succ k=>have hm:s∈R.map (·.1):=aha h;rw[aaq λe=>hn.1<|by rw[e];exact hm,I0 hn.2 h]
def R2(_:aU S B σ (tv V a) w F)(x:Operand){r:Nat}{y:AV}(b:sW (resolve σ x)=some (r,y)):y=(σ r).av:=by
 cases x with
 |const v=>have d:=eV v;simp[sW,resolve]at b;split at b;rename_i e;rw[e]at d;simp[AV.plain]at d;rename_i e;rw[e]at d;simp[AV.plain]at d;simp at b
 |func f=>simp[sW,resolve]at b
 |global g=>simp[sW,resolve,Sl.none]at b
 |tmp t=>
  simp[resolve]at b;cases c:(σ t).av with
  |bw h g1 g2 p=>simp[cx.of,c,sW]at b;grind
  |ptr h g1 g2 p=>simp[cx.of,c,sW]at b;grind
  |abs J=>simp[cx.of,c,sW,Sl.none]at b
  |_=>
   all_goals
    simp only[cx.of,c,sW]at b;split at b;cases b;cases b;exact c.symm
def pQ(h:aU S B σ (tv V a) w F):∀(xs:L Operand){R:L (Nat×AV)},(∀q∈R,q.2=(σ q.1).av)->(R.map (·.1)).Nodup->
 (∀q∈dR R (xs.map<|resolve σ),q.2=(σ q.1).av)/\((dR R<|xs.map<|resolve σ).map (·.1)).Nodup
 |[],R,c,b=>⟨c,b⟩
 |x::xs,R,c,b=>by
  simp only[acK,dR];split;rename_i r y g;have j:=R2 h x g;split;exact pQ h xs c b;rename_i i;refine pQ h xs (λq k=>?_) ?_
  grind
  simp only[acB,acH];refine⟨b,I,λx f y d e=>?_⟩;simp at d;subst d e;exact qT i f;exact pQ h xs c b
def ArgRel(w:World)(S:Nat->Prop)(σ:St)(T:Nat->Value)(y:AV)(v:Value):Prop:=
 match y with
 |.bw r g1 g2 p=>g1<=(σ r).g1/\g2<=(σ r).g2/\((σ r).g1=g1->(lu p=true\/(σ r).g2=g2)->(lu p=false->∃y,bH (σ r).av p=some y)->
   ∃b,loc w (.val<|T r) p=some b/\holds w b v/\∀c,b=.addr c->v.oneCell'=true)
 |.ptr r g1 g2 p=>g1<=(σ r).g1/\g2<=(σ r).g2/\(∃c,v=.pointer (some c))/\((σ r).g1=g1->(flat p=true\/(σ r).g2=g2)->(flat p=false->∃y,bH (σ r).av p=some y)->
   ∃c,loc w (.val<|T r) p=some (.addr c)/\v=.pointer (some c))
 |av=>Rel w S av v []
def ArgRel.slot{T:Nat->Value}{y:AV}{v:Value}{i:Nat}(h:ArgRel w S σ T y v)(c:(σ i).av=y)(b:T i=v):an w S σ T i []:=by unfold an;unfold ArgRel at h;subst c b;cases hh:(σ i).av<;>rw[hh]at h<;>first|exact⟨rfl,h⟩|exact h|(simp[Rel]at h)
def ArgRel.OA{T:Nat->Value}{y:AV}{v:Value}(h:Rel w S y v []):ArgRel w S σ T y v:=by have:=h.plain;cases y<;>simp[AV.plain]at this<;>exact h
def dN(w:World)(S:Nat->Prop)(σ:St)(T:Nat->Value):L AV->L Value->Prop
 |[],c=>c=[]
 |y::ys,c=>∃v b,c=v::b/\ArgRel w S σ T y v/\dN w S σ T ys b
def dN.append{T:Nat->Value}:∀{ys zs:L AV}{us b:L Value},dN w S σ T ys us->dN w S σ T zs b->dN w S σ T (ys++zs) (us++b)
 |[],zs,us,b,h,k=>by simp[dN]at h;subst h;simpa using k
 |y::ys,zs,us,b,h,k=>by obtain⟨v,c,rfl,e,d⟩:=h;exact⟨v,_,W,e,dN.append d k⟩
def dN.length{T:Nat->Value}:∀{ys:L AV}{us:L Value},dN w S σ T ys us->us.length=ys.length
 |[],us,h=>by simp[dN]at h;simp[h]
 |y::ys,us,h=>by obtain⟨v,b,rfl,d,c⟩:=h;simp[dN.length c]
def dN.get{T:Nat->Value}:∀{ys:L AV}{us:L Value}(i:Nat){y:AV},dN w S σ T ys us->ys[i]?=some y->ArgRel w S σ T y (us.getD i undef)
 |[],us,i,y,h,b=>by cases b
 |e::ys,us,i,y,h,b=>by
  obtain⟨v,c,rfl,f,d⟩:=h;cases i with
  |zero=>simp_all
  |succ i=>simpa using dN.get i d b
def dN.tX{T:Nat->Value}:∀{ys:L AV}{us:L Value}{F:L Nat},Cells w S false ys us F->F=[]->dN w S σ T ys us
 |[],us,F,h,_=>by simp[Cells]at h;exact h.1
 |y::ys,us,F,h,c=>by obtain⟨v,b,g,f,rfl,rfl,-,e,d⟩:=h;obtain⟨rfl,rfl⟩:=aga.1 c;exact⟨v,b,W,.OA e,dN.tX d W⟩
def TG(h:aU S B σ (tv V a) w F)(n:∀r k,jD R r=some k->σ0 (1000000+k)=⟨(σ r).av,0,0⟩/\T0 (1000000+k)=tv V a r)(x:Operand)(u:aO x=true){y:AV}
 (b:vy R (resolve σ x)=some y):ArgRel w S σ0 T0 y (a.eval x):=by
 cases x with
 |const v=>
  have D:=vH v;have o:=eV v;have:y=gH v:=by simp[vy,resolve]at b;split at b;rename_i e;rw[e]at o;simp[AV.plain]at o;rename_i e;rw[e]at o;simp[AV.plain]at o;simp_all
  subst this;exact .OA (iS w S v u)
 |func f=>simp[vy,resolve,AV.aK,bR]at b;subst b;exact⟨#[],#[],[],[],W,by simp[Cells],by simp[Cells],W⟩
 |global g=>simp[vy,resolve,Sl.none,AV.aK]at b;subst b;rfl
 |tmp t=>
  rw[gW V a<|gD u];have i:=h.rel t;simp[resolve]at b;cases c:(σ t).av with
  |bw r g1 g2 p=>simp[cx.of,c,vy]at b;unfold an at i;rw[c]at i;split at b;rename_i k j;obtain⟨m,l⟩:=n r k j;split at b;rename_i C;split at b;rename_i A;cases b;unfold ArgRel;simp_all;cases b;cases b;cases b
  |ptr r g1 g2 p=>simp[cx.of,c,vy]at b;unfold an at i;rw[c]at i;simp only at i;split at b;rename_i k j;obtain⟨m,l⟩:=n r k j;split at b;rename_i C;split at b;rename_i A;cases b;unfold ArgRel;simp_all;cases b;cases b;cases b
  |abs J=>simp[cx.of,c,vy,Sl.none,AV.aK,if_true,aaP]at b;subst b;rfl
  |gI g z=>simp[cx.of,c,vy,AV.aK,agq,if_false]at b;split at b;rename_i k j;obtain⟨m,l⟩:=n t k j;cases b;unfold ArgRel;simp only[m,l];exact⟨aaQ _,aaQ _,λ_ _ _=>⟨_,W,W,I⟩⟩;cases b
  |_=>
   all_goals
    have q:(σ t).av.plain=true:=by rw[c];rfl
    rw[an.aC q]at i;have d:(if(σ t).av.aK then some (σ t).av else match jD R t with|some k=>some (AV.bw (1000000+k) 0 0 [])|none=>none)=some y:=by simpa only[cx.of,c,vy]using b
    split at d;rename_i s;cases d;rw[Rel.aK _ i s]at i;exact .OA i;split at d;rename_i k j;obtain⟨m,l⟩:=n t k j;cases d;unfold ArgRel;simp only[m,l];exact⟨aaU _,aaU _,λ_ _ _=>⟨.val _,W,W,I⟩⟩;cases d
def Fp(h:aU S B σ (tv V a) w F)(d:∀r k,jD R r=some k->σ0 (1000000+k)=⟨(σ r).av,0,0⟩/\T0 (1000000+k)=tv V a r):∀(xs:L Operand),xs.all aO=true->∀{ys:L AV},
 uI R (xs.map<|resolve σ)=some ys->dN w S σ0 T0 ys (xs.map a.eval)
 |[],_,ys,b=>by simp[uI]at b;subst b;rfl
 |x::xs,c,ys,b=>by simp only[ac4,abi]at c;simp[uI]at b;split at b;rename_i y e g f;cases b;exact⟨_,_,W,TG h d x c.1 g,Fp h d xs c.2 f⟩;cases b
def Ik{σ:St}:∀{R:L (Nat×AV)}{out:L AV}(i:Nat),R.length=out.length->
 l9 σ (qi R out) i=match jD R i with|some k=>⟨out.getD k .dead,(σ i).g1,(σ i).g2+1⟩|none=>σ i
 |[],out,i,h=>fQ
 |(r,y)::R,[],i,h=>by cases h
 |(r,y)::R,z::out,i,h=>by
  simp at h;simp[qi,l9,jD];by_cases e:r=i;subst e;simp[aI];rw[ar _ _ λe'=>e e'.symm,Ik i h]
  grind
def se:∀{xs:L AV}{k:Nat}{x:AV},o6 xs=true->xs[k]?=some x->x.plain=true
 |[],k,x,_,h=>by cases h
 |y::xs,k,x,b,h=>by
  simp[o6]at b;cases k with
  |zero=>cases h;exact b.1
  |succ k=>exact se b.2 h
def aU.Vz{d:Nat}{T:Nat->Value}{y:AV}{z:Value}{g:L Nat}(h:aU S B σ T w F)(m:Rel w S y z g)(hn:g.Nodup)(n:∀b∈g,B b/\b<w.heap.size/\¬S b)(k:∀i,∀b∈F i,b∉g):
 aU S B (made σ [] d y) (iy T d z) w (λi=>if i=d then g else F i):=by
 refine h.step (w':=w) (S':=S) ⟨λr=>?_,λr=>?_,λr f=>?_,λr f _=>?_⟩ (λ_ h=>h) (λi=>?_) (λi=>?_) (λi j l b c=>?_) (λi b c=>?_) h.shr;unfold made
 grind
 unfold made
 grind
 unfold made at f;split at f;simp_all;rename_i e;rw[ar _ _ e];unfold made at f⊢
 grind
 by_cases e:i=d;subst e;right;rw[an.aC<|by unfold made;simp;exact m.plain];simp[made,aI];exact m;left;simp only[made,e,if_false,ae8];exact⟨U,ar _ _ e,U,λ_ _=>trivial⟩;show(if i=d then g else F i).Nodup;split;exact hn;exact h.nodup i
 replace c:b∈if i=d then g else F i:=c
 split at c
 grind
 split;exact k i b c;exact h.di i j l b c
 replace c:b∈if i=d then g else F i:=c
 split at c;exact n b c;exact h.own i b c
def Hw:∀{R:L (Nat×AV)}{d:Nat},LF R (some d)=false->jD R d=none
 |[],d,_=>rfl
 |(r,y)::R,d,h=>by simp only[LF]at h;split at h;cases h;rename_i e;simp[jD,e,Hw h]
def DZ{D:Array Value->World->(Value->World->Prop)->Prop}(F0:∀(n:Array Value)(w:World)(R R':Value->World->Prop),(∀v w',R v w'->R' v w')->D n w R->D n w R')
 {d:Q Nat}(hG:lE P V w0)(h:Inv N V w0 S0 σ a w)(hd:∀x,d=some x->x<N)(asx:L Operand)(P0:asx.all aO=true){first ys captured out:L AV}{r:AV}{af cf:Array Value}
 (hq:∀S F,aU S (cK V w0) σ (tv V a) w F->Cells w S false first af.toList []/\Cells w S false captured cf.toList [])
 (H3:uI (dR []<|asx.map<|resolve σ) (asx.map<|resolve σ)=some ys)
 (J:(o6 ((dR []<|asx.map<|resolve σ).map (·.2))&&o6 out&&decide ((dR []<|asx.map<|resolve σ).length=out.length)&&r.plain&& !LF (dR []<|asx.map<|resolve σ) d&&decide (first.length+ys.length+captured.length<=1000000))=true)
 (O:Mv.runs σ (dz d r [.back<|qi (dR []<|asx.map<|resolve σ) out])=some σ')
 (F4:∀(w:World)(S:Nat->Prop)(V:Hid)(n:L Value)(F:Nat->L Nat),n.length=(first++ys++captured).length->lE P V w->aU S V.g (both (first++ys++captured) ((dR []<|asx.map<|resolve σ).map (·.2))) (a8 V n) w F->
   D n.toArray w λv w'=>∃S' F',sS V w w w'/\(∀b,S b->S' b)/\(∀b,S' b->S b\/cK V w b)/\aU S' (cK V w) (both [r] out) (a8 V [v]) w' F'):
 D (af++(asx.map a.eval).toArray++cf) w λv w'=>Inv N V w0 S0 σ' (a.put d v) w':=by
 obtain⟨S,F,hc,hN,G6,H5,H4,Y⟩:=h;simp[abi,decide_eq_true_eq,af8]at J;obtain⟨⟨⟨⟨⟨p1,p2⟩,p3⟩,K0⟩,p4⟩,p5⟩:=J;obtain⟨v1,v2⟩:=pQ hc asx (R:=[]) I I;generalize hRe:dR [] (asx.map<|resolve σ)=R at*;obtain⟨qa,qc⟩:=hq S F hc;obtain⟨ex,C⟩:∃ex:L Nat,ex=R.map (·.1):=⟨_,W⟩;obtain⟨u,t⟩:∃u:Hid,u={v:=λi=>tv V a<|ex.getD (i-1000000) 0,g:=λb=>∃r∈ex,b∈F r}:=⟨_,W⟩;have V0:(R.map (·.2)).length=ex.length:=by rw[C];simp
 have A0:∀(k:Nat)(y:AV),(R.map (·.2))[k]?=some y->∃r,ex[k]?=some r/\y=(σ r).av/\y.plain=true:=by
  intro k y hy;have s:=se p1 hy;simp only[afE,aeT]at hy
  grind
 obtain⟨n,F3⟩:∃n,n=af.toList++asx.map a.eval++cf.toList:=⟨_,W⟩;obtain⟨args,f⟩:∃args,args=first++ys++captured:=⟨_,W⟩
 have H2:args.length<=1000000:=by rw[f];simp;omega
 have hR:∀(r k:Nat),jD R r=some k->both args (R.map (·.2)) (1000000+k)=⟨(σ r).av,0,0⟩/\a8 u n (1000000+k)=tv V a r:=by
  intro r k hk;have G5:=qS hk;rw[<-C]at G5;have G3:k<(R.map (·.2)).length:=by grind
  obtain⟨r',e1,e2,-⟩:=A0 k _<|acL G3;rw[G5]at e1;cases e1;refine⟨by rw[ew H2,acL G3];simp[e2],?_⟩;simp[a8,t]
  grind
 have hA:dN w S (both args (R.map (·.2))) (a8 u n) args n:=by rw[f,F3];rw[f]at hR;rw[F3]at hR;exact((dN.tX qa W).append<|Fp hc hR asx P0 H3).append<|dN.tX qc W
 have F2:aU S u.g (both args (R.map (·.2))) (a8 u n) w (λi=>if i<1000000 then[]else match ex[i-1000000]?with|some r=>F r|none=>[]):=by
  refine⟨λi=>?_,λi=>?_,λi j X b c=>?_,λi b c=>?_,hc.shr⟩;by_cases hi:i<1000000;simp[hi,if_true];have c:=fe (args:=args) (H:=R.map (·.2)) hi;cases hx:args[i]?with
  |none=>rw[hx]at c;rw[an.aC<|by rw[c];rfl,c];simp[Rel]
  |some y=>rw[hx]at c;refine(hA.get i hx).slot (by rw[c]) ?_;simp[a8,hi,if_true]
  ·obtain⟨k,rfl⟩:∃k,i=1000000+k:=⟨i-1000000,E⟩;simp[hi,if_false,ahX];have c:=ew (H:=R.map (·.2)) H2 k;cases hx:(R.map (·.2))[k]?with
   |none=>rw[hx]at c;rw[an.aC<|by rw[c];rfl,c];have:ex[k]?=none:=fP;simp[Rel,this]
   |some y=>
    rw[hx]at c;obtain⟨r',e1,rfl,s⟩:=A0 k y hx;have H6:=hc.rel r';rw[an.aC s]at H6;rw[an.aC<|by rw[c];exact s,c];simp[e1,a8,t]
    grind
  show(if i<1000000 then[]else match ex[i-1000000]?with|some r=>F r|none=>[]).Nodup;split;simp;split;exact hc.nodup _;simp
  replace c:b∈if i<1000000 then[]else match ex[i-1000000]?with|some r=>F r|none=>[]:=c
  show b∉if j<1000000 then[]else match ex[j-1000000]?with|some r=>F r|none=>[]
  split at c;cases c;rename_i hi;split at c;rename_i r1 h1;split;simp;rename_i hj;split;rename_i r2 h2;refine hc.di r1 r2 (λe=>X ?_) b c;subst e;have g1:=I0 v2 (by rw[<-C];exact h1);have g2:=I0 v2 (by rw[<-C];exact h2)
  grind
  simp;cases c
  replace c:b∈if i<1000000 then[]else match ex[i-1000000]?with|some r=>F r|none=>[]:=c
  split at c;cases c;split at c;rename_i r1 h1;rw[t];exact⟨⟨r1,aha h1,c⟩,(hc.own r1 b c).2⟩;cases c
 rw[<-f]at F4;have S2:lE P u w:=⟨hG.L3 Y,hG.cK.mono λb c=>by rw[t]at c;obtain⟨r,-,O⟩:=c;exact(hc.own r b O).1⟩;have:=F4 w S u n _ (by rw[dN.length hA]) S2 F2;have e:n.toArray=af++(asx.map a.eval).toArray++cf:=by grind
 rw[e]at this;refine F0 _ _ _ _ (λv w'⟨S',m,o,k1,k2,l⟩=>?_) this;have hg:∀b,u.g b↔∃r∈ex,b∈F r:=λb=>by rw[t]
 have G2:∀b,cK u w b->w.heap.size<=b\/∃r∈ex,b∈F r:=λb c=>c.imp id (hg b).1;have T:∀b,cK u w b->cK V w0 b:=λb c=>(G2 b c).elim (λh=>Y.new b h) λ⟨r,_,O⟩=>(hc.own r b O).1;have B0:∀b,b<w.heap.size->¬u.g b->w'.heap[b]?=w.heap[b]?:=λb h1 h2=>o.block b h1 h2;have P1:∀b,S b->w'.heap[b]?=w.heap[b]?:=λb c=>B0 b (hc.shr b c) (λF1=>by obtain⟨r,-,O⟩:=(hg b).1 F1;exact(hc.own r b O).2.2 c);have S4:∀i,jD R i=none->∀b∈F i,w'.heap[b]?=w.heap[b]?:=λi hi b c=>B0 b (hc.own i b c).2.1 (λF1=>by obtain⟨r,G0,z⟩:=(hg b).1 F1;exact hc.di i r (λe=>qT hi<|by grind) b c z)
 have M:∀i,∀b∈m i,(w.heap.size<=b\/∃r∈ex,b∈F r)/\cK V w0 b/\b<w'.heap.size/\¬S' b:=λi b c=>by
  have:=l.own i b c
  grind
 have E2:∀i,jD R i=none->∀j,∀b∈F i,b∉m j:=λi hi j b c M2=>by
  rcases(M j b M2).1 with G1|⟨r,G0,z⟩
  grind
  exact hc.di i r (λe=>qT hi<|by grind) b c z
 have K2:∀{i j k:Nat},jD R i=some k->jD R j=some k->i=j:=λhi hj=>by
  have a1:=qS hi;have a2:=qS hj
  grind
 have E1:aU S' (cK V w0) (l9 σ<|qi R out) (tv V a) w' (λi=>match jD R i with|some k=>m (1000000+k)|none=>F i):=by
  have V1:∀i,l9 σ (qi R out) i=match jD R i with|some k=>⟨out.getD k .dead,(σ i).g1,(σ i).g2+1⟩|none=>σ i:=λi=>Ik i p3
  refine hc.step (w':=w') (S':=S') ⟨λi=>?_,λi=>?_,λi _=>rfl,λi hi1 X2=>?_⟩ k1 (λi=>?_) (λi=>?_) (λi j X b c=>?_) (λi b c=>?_) l.shr
  grind
  grind
  grind
  cases hp:jD R i with
  |none=>grind
  |some k=>
   right;have hk:=qS hp;rw[<-C]at hk;have G4:k<out.length:=by grind
   have q:=l.rel<|1000000+k;have c:=ew (args:=[r]) (H:=out) I k;rw[acL G4]at c;have s:=se p2<|acL G4;rw[an.aC<|by rw[c];exact s,c]at q;have H1:(l9 σ (qi R out) i).av=out[k]:=by grind
   rw[an.aC<|by rw[H1];exact s,H1];have V2:a8 u [v] (1000000+k)=tv V a i:=by
    simp[a8,t]
    grind
   grind
  ·show(match jD R i with|some k=>m (1000000+k)|none=>F i).Nodup;split;exact l.nodup _;exact hc.nodup i
  replace c:b∈match jD R i with|some k=>m (1000000+k)|none=>F i:=c
  show b∉match jD R j with|some k=>m (1000000+k)|none=>F j
  split at c;rename_i k hk;split;rename_i k2 W1;refine l.di _ _ (λe=>X ?_) b c
  grind
  grind
  rename_i hi;split;exact E2 i hi _ b c;exact hc.di i j X b c
  replace c:b∈match jD R i with|some k=>m (1000000+k)|none=>F i:=c
  split at c;exact(M _ b c).2;rename_i hi;have ho:=hc.own i b c;refine⟨ho.1,acW ho.2.1 o.size,λS1=>?_⟩;rcases k2 b S1 with hS|hm;exact ho.2.2 hS;rcases G2 b hm with G1|⟨r,G0,z⟩;omega;exact hc.di i r (λe=>qT hi<|by grind) b c z
 have A:mb V w0 w':=Y.trans ⟨o.os,o.tape,o.output,o.size,λk hk M1=>o.block k (acW hk Y.size) (λL0=>by obtain⟨r,-,O⟩:=(hg k).1 L0;exact yd (hc.own r k O).1 hk M1)⟩
 have Z:(∀b,S0 b->S' b)/\(∀b,S' b->S0 b\/cK V w0 b):=⟨λb c=>k1 b<|H5 b c,λb c=>(k2 b c).elim (H4 b) λh=>.inr<|T b h⟩;have p:Mv.runs (l9 σ<|qi R out) (dz d r [])=some σ':=by rw[MP]at O;simpa[Mv.runs,Mv.run]using O
 cases d with
 |none=>simp[dz,Mv.runs,aaP]at p;subst p;exact⟨S',_,E1,hN,G6,Z.1,Z.2,A⟩
 |some d=>
  simp[dz,afy,iD,aaP]at p;subst p;have hdn:=Hw p4;have q:=l.rel 0;have K:=fe (args:=[r]) (H:=out) (i:=0) E;simp[ahb]at K;rw[an.aC<|by rw[K];exact K0,K]at q;have:=E1.Vz (d:=d) q (l.nodup 0) (λb c=>(M 0 b c).2) (λi b c=>by
   replace c:b∈match jD R i with|some k=>m (1000000+k)|none=>F i:=c
   split at c;exact l.di _ _ E b c
   grind)
  rw[<-lL (by rw[hN];exact hd d W)]at this;exact⟨S',_,this,by rw[size_put];exact hN,by rw[eQ];exact G6,Z.1,Z.2,A⟩
def BV{d:Q Nat}(T:lE P V w0)(h:Inv N V w0 S0 σ a w)(H:∀x,d=some x->x<N)(f:Operand)(q:aO f=true)(asx:L Operand)(m:asx.all aO=true){out:L AV}{r:AV}{p:L Mv}{kG:L Ob}
 (hm:vP d (resolve σ f) (asx.map<|resolve σ) out r=some (p,kG))(A:Mv.runs σ p=some σ')(hs:∀o∈kG,o.ok P):
 ∃g first captured,a.eval f=.func (.func g) first captured/\qD P g (first++(asx.map a.eval).toArray++captured) w λv w'=>Inv N V w0 S0 σ' (a.put d v) w':=by
 have O:=h;obtain⟨S,F,hc,hN,C,z,y,J⟩:=h;unfold vP at hm;split at hm<;>try(cases hm)
 rename_i g first captured j
 split at hm<;>try(cases hm)
 rename_i c;simp at c;split at hm<;>try(cases hm)
 rename_i s l;split at hm<;>try(cases hm;done)
 rename_i e;cases hm;obtain⟨Ff,k,-⟩:=aV hc f q j;obtain⟨af,cf,F1,F2,n,-,-,-⟩:=k;refine⟨g,af,cf,n,?_⟩;refine DZ (D:=qD P g) (λvs w R R' h1 Z rd o a next b M=>Z rd o a next b λv w' K=>M v w'<|h1 v w' K) T O H asx m (λS F hc=>?_) l e A (hs (.refs g ((dR []<|asx.map<|resolve σ).map (·.2)) (first++s++captured) out r) I);obtain⟨Ff,k,-⟩:=aV hc f q j;obtain⟨B0,A0,F1,F2,i,u,t,-⟩:=k;rw[n]at i;obtain⟨rfl,rfl⟩:=i;have Y:=Cells.aK _ u c.1;have X:=Cells.aK _ t c.2;simp_all
def cx.gen(x:cx):Nat:=match x.sl.av with|.bw .. =>x.rt.g2|_=>x.sl.g2
def T4(P:Program)(d:Nat)(t:TypeId)(x:cx)(lo hi:Q cx):Q (L Mv):=
 match P.underlying t with
 |some (.slice e)=>match ct P e with
  |some ti=>match x.cont with
   |some (.list .own sz b)=>match od lo 0,od hi b.length with
    |some l,some h=>if sz=ti.size/\l<h/\h<=b.length then match x.place with
      |some (r,g1,_,p)=>if r=d then none else some [.put d<|.bw r g1 x.gen<|p++[.nF sz l<|h-l]]
      |none=>none
     else none
    |_,_=>none
   |_=>none
  |none=>none
 |_=>none
def Tc(x:Operand){r g1 g2:Nat}{p:Path}{y:AV}(hc:(resolve σ x).cont=some y)(c:(resolve σ x).place=some (r,g1,g2,p)):cx.gen (resolve σ x)=(σ r).g2:=by
 cases x with
 |const v=>simp[resolve,cx.place]at c;have j:=eV v;split at c<;>simp_all[AV.plain]
 |func f=>simp[resolve,cx.place]at c
 |global g=>simp[resolve,cx.place,Sl.none]at c
 |tmp t=>
  simp[resolve]at c⊢;cases b:(σ t).av with
  |bw h e d i=>simp[cx.of,b,cx.place]at c⊢;obtain⟨rfl,rfl,rfl,rfl⟩:=c;simp[cx.gen,b]
  |ptr=>simp[cx.of,b,cx.place]at c
  |abs=>simp[cx.of,b,cx.place,Sl.none]at c
  |gI=>simp[resolve,cx.of,b,cx.cont]at hc
  |_=>
   all_goals
    simp[cx.of,b,cx.place]at c⊢;obtain⟨rfl,rfl,rfl,rfl⟩:=c;simp[cx.gen,b]
def NQ{d t:Nat}(h:Inv N V w0 S0 σ a w)(hd:d<N)(x:Operand)(lo hi:Q Operand)(i:aO x=true)(u:∀o,lo=some o->aO o=true)(v:∀o,hi=some o->aO o=true)
 {A:L Mv}(hm:T4 P d t (resolve σ x) (lo.map<|resolve σ) (hi.map<|resolve σ)=some A)(D:Mv.runs σ A=some σ'):
 Good N V w0 S0 σ' a d ((Instr.sliceAt t (a.eval x) (lo.map a.eval) (hi.map a.eval) none).run P w):=by
 unfold T4 at hm;split at hm<;>try(cases hm)
 rename_i e hu;split at hm<;>try(cases hm)
 rename_i ti n;split at hm<;>try(cases hm)
 rename_i sz X m;split at hm<;>try(cases hm)
 rename_i l T h1 h2;split at hm<;>try(cases hm)
 rename_i f;obtain⟨rfl,B0,A0⟩:=f;split at hm<;>try(cases hm)
 rename_i r g1 g2 p H;split at hm<;>try(cases hm;done)
 rename_i q;cases hm;simp[Mv.cG]at D;subst D;have K:=Tc x m H;have hI:=h;obtain⟨S,F,k,-⟩:=h;obtain⟨F1,e1,-⟩:=aV k x i m;obtain⟨ad,cap,C,M,J,s⟩:=e1.kJ;obtain⟨b,g,rfl⟩:=s.1 I λe=>fP;have O:=kD (P:=P) k true (len:=X.length) (cap:=cap) lo hi none u v I h1 h2 W E E (aaU _)<|.inl W;have j:(Instr.sliceAt t (a.eval x) (lo.map a.eval) (hi.map a.eval) none).run P w=.ok (.slice (some<|(⟨b,g,none⟩:Addr).add<|l*ti.size) (T-l)<|cap-l) w:=by rw[C];simp at O;have:cap≠l:=E;simp[Instr.sliceAt,run_underlying hu,Instr.slice,O,dM n,this]
 refine⟨_,w,j,hI.put hd λS' F' y=>?_⟩;obtain⟨q1,q2,q3,Z,q5,q6,c,Y,z,q9⟩:=jF y x i m H;unfold an;simp only[aI,ar _ _ q];refine⟨U,Z,E,λ_ _ _=>⟨.val<|.slice (some<|(⟨b,g,none⟩:Addr).add<|l*ti.size) (T-l)<|cap-l,?_,W,I⟩⟩;rw[je,Y];simp[aeu,loc];rw[C]at z;rw[de z W I];rfl
inductive Ask
 |Uo (r:AV)
 |refs (out:List AV) (r:AV)
 |nF
 |TX (J':qg) (b:Bool)
 |mkc
 |gI (out:List AV) (r:AV)
 |XE (y:AV)
 |ext (out:List AV) (r:AV)
 |Vs (J':qg) (r:AV)
 |U1 (k:Nat) (r:AV)
 |TS (y:AV)
 |kG (y:AV)
def Qw(d:Q Nat)(asx:L cx)(out:L AV)(r:AV):Q (L Mv×L AV×L AV):=
 match uI (dR [] asx) asx with
 |some b=>if(o6 ((dR [] asx).map (·.2))&&o6 out&&decide ((dR [] asx).length=out.length)&&r.plain&& !LF (dR [] asx) d&&decide (([]:L AV).length+b.length+([]:L AV).length<=1000000))=true then
   some (dz d r [.back<|qi (dR [] asx) out],(dR [] asx).map (·.2),b)else none
 |none=>none
def slotsOf:L Operand->Q (L Nat)
 |[]=>some []
 |.tmp t::l=>match slotsOf l with
  |some b=>some (t::b)
  |none=>none
 |_::_=>none
def s6:L cx->Q (L AV)
 |[]=>some []
 |x::xs=>match x.cont with
  |some y=>if y.aK then match s6 xs with
   |some ys=>some (y::ys)
   |none=>none
   else none
  |none=>none
def QW(op:Op):Bool:=op.operands.toList.all aO&&(match op with
 |.move _=>false
 |.call ⟨.builtin .append,_,_⟩=>false
 |_=>true)
def tw(x:Sl):Sl:=match x.av with
 |.box o (.list f sz _)=>⟨.box o<|.list f sz [],x.g1,x.g2⟩
 |_=>x
def Ox:AV->Bool
 |.box _ (.list .own _ _)=>true
 |_=>false
def sU(σ:St)(a:Nat):Q (Nat×Nat):=match(σ a).av with
 |.bw r g1 _ p=>if p=[]/\Ox (σ r).av=true/\(σ r).g1=g1 then some (a,r)else none
 |x=>if Ox x=true then some (a,a)else none
def xl(σ:St):Op->Q (Nat×Nat)
 |.load _ (.tmp a)=>sU σ a
 |_=>none
def tg(σ:St)(op:Op):Bool:=match QW op with
 |true=>match xl σ op with
  |some _=>false
  |none=>true
 |false=>false
def Zr{σ:St}{op:Op}(h:tg σ op=true):QW op=true/\xl σ op=none:=by
 unfold tg at h
 grind
def kF(P:Program)(σ:St)(o:Oper):Ask->Q (L Mv×L Ob)
 |.mkc=>match o.dst with
  |some d=>match o.op with
   |.makeFunc (.func g) first e=>match first.toList with
    |[]=>match slotsOf e.toList with
     |some j=>if j.all (λt=>t !=d)=true then some ([.put d<|.gI g<|j.map λt=>(t,(σ t).g1)],[])else none
     |none=>none
    |_::_=>none
   |_=>none
  |none=>none
 |.gI out r=>match o.op with
  |.call c=>match c.callee with
   |.value (.tmp t)=>match(σ t).av with
    |.gI g e=>if e.all (λq=>decide (q.1<1000000)&&(σ q.1).av.plain&&(σ q.1).g1==q.2)=true then vP o.dst (resolve σ<|.func g) (c.args.toList.map (resolve σ)++e.map λq=>resolve σ<|.tmp q.1) out r else none
    |_=>none
   |_=>none
  |_=>none
 |.ext out r=>if tg σ o.op=true then match Qw o.dst (o.op.operands.toList.map<|resolve σ) out r with
   |some (i,H,ys)=>some (i,[.ext o H ys out r])
   |none=>none
  else none
 |.Vs J' r=>match o.op with
  |.call c=>match c.callee with
   |.value f=>match c.args.toList with
    |[]=>none
    |x::xs=>match(resolve σ x).sl.av with
     |.pv C=>match(resolve σ f).cont with
      |some (.fn (.func g) [] [])=>match(σ 1000000).av with
       |.abs J=>match s6 (xs.map<|resolve σ)with
        |some ys=>some (dz o.dst r [.back [(1000000,.abs J')]],[.Vs g C J J' ys r])
        |none=>none
       |_=>none
      |_=>none
     |_=>none
   |_=>none
  |_=>none
 |.U1 k r=>match o.op with
  |.call c=>match c.callee with
   |.value f=>match pick k c.args.toList with
    |none=>none
    |some (x,xs)=>match(resolve σ f).cont with
     |some (.fn (.func g) [] [])=>match(resolve σ x).cont with
      |some y=>match s6 (xs.map<|resolve σ)with
       |some ys=>if Qn y (resolve σ x).sl.av=true then some (dz o.dst r [],[.U1 g k y ys r])else none
       |none=>none
      |none=>none
     |_=>none
   |_=>none
  |_=>none
 |.kG y=>match o.op with
  |.call c=>match c.callee with
   |.builtin _=>match c.args.toList with
    |[x]=>match(resolve σ x).cont with
     |some (.ob K)=>if y.aK=true then some (dz o.dst y [],[.kG o K y])else none
     |_=>none
    |_=>none
   |_=>none
  |_=>none
 |.TS y=>match o.op with
  |.load t x=>match(resolve σ x).sl.av with
   |.pv C=>match(σ 1000000).av with
    |.abs J=>if y.aK=true then some (dz o.dst y [],[.TS t C J y])else none
    |_=>none
   |_=>none
  |_=>none
 |.XE y=>match o.op with
  |.lookup t m x ok=>match(resolve σ m).cont,(resolve σ x).cont with
   |some (.ob K),some k=>if k.aK&&y.aK then some (dz o.dst y [],[.XE t ok K k y])else none
   |_,_=>none
  |_=>none
 |.Uo r=>match B8 P σ o r with
  |some (i,kG)=>some (i,kG.map .call)
  |none=>none
 |.refs out r=>match o.op with
  |.call c=>match c.callee with
   |.value f=>vP o.dst (resolve σ f) (c.args.toList.map<|resolve σ) out r
   |_=>none
  |_=>none
 |.nF=>match o.dst with
  |some d=>match o.op with
   |.slice t x l h m=>match m with
    |none=>match T4 P d t (resolve σ x) (l.map<|resolve σ) (h.map<|resolve σ)with
     |some i=>some (i,[])
     |none=>none
    |some _=>none
   |_=>none
  |none=>none
 |.TX J' b=>match o.op with
  |.call c=>match c.callee with
   |.value f=>match(resolve σ f).sl.av with
    |.pv C=>match(σ 1000000).av with
     |.abs J=>match s6 (c.args.toList.map<|resolve σ)with
      |some ys=>some (dz o.dst (.v<|.bool b) [.back [(1000000,.abs J')]],[.TX C J J' ys b])
      |none=>none
     |_=>none
    |_=>none
   |_=>none
  |_=>none
def pY(h:aU S B σ (tv V a) w F):∀(xs:L Operand){ys:L AV},xs.all aO=true->s6 (xs.map<|resolve σ)=some ys->Cells w S false ys (xs.map a.eval) []
 |[],ys,_,b=>by simp[s6]at b;subst b;simp[Cells]
 |x::xs,ys,d,b=>by
  simp only[ac4,abi]at d;simp[s6]at b;split at b<;>try(cases b)
  rename_i y g;split at b<;>try(cases b)
  rename_i hn;split at b<;>try(cases b;done)
  rename_i f c;cases b;obtain⟨i,e,-⟩:=aV h x d.1 g;rw[Rel.aK _ e hn]at e;exact⟨_,_,[],[],W,W,I,e,pY h xs d.2 c⟩
def xp:∀{xs:L Operand}{b:L Nat},slotsOf xs=some b->xs.all aO=true->xs.map a.eval=b.map λt=>tv V a t
 |[],b,h,_=>by simp[slotsOf]at h;subst h;rfl
 |.tmp t::xs,b,h,c=>by
  simp only[ac4,abi]at c;simp[slotsOf]at h;split at h<;>try(cases h;done)
  rename_i d e;cases h;simp only[acK];rw[gW V a<|gD c.1,xp e c.2]
 |.const _::_,b,h,_=>by simp[slotsOf]at h
 |.func _::_,b,h,_=>by simp[slotsOf]at h
 |.global _::_,b,h,_=>by simp[slotsOf]at h
def Inv.yielded{J J':qg}{w':World}{S':Nat->Prop}{F':L Nat}(hc:aU S (cK V w0) σ (tv V a) w F)(D:a.tmps.size=N)(t:a.defers=V.df)(s:∀b,S0 b->S b)(C:∀b,S b->S0 b\/cK V w0 b)(f:mb V w0 w)
 (K:(σ 1000000).av=.abs J)(k1:w'.os=w.os)(k2:w'.tape=w.tape)(k3:w'.output=w.output)(k4:w.heap.size<=w'.heap.size)(k5:∀k,k<w.heap.size->k∉F 1000000->w'.heap[k]?=w.heap[k]?)
 (k6:∀c,S c->S' c)(k7:∀c,S' c->S c\/w.heap.size<=c\/c∈F 1000000)(k8:∀c,S' c->c<w'.heap.size)(k9:J'.here w' S' F')(k10:F'.Nodup)(XF:∀c∈F',(w.heap.size<=c\/c∈F 1000000)/\c<w'.heap.size/\¬S' c):
 Inv N V w0 S0 (l9 σ [(1000000,.abs J')]) a w':=by
 have m:=f.size;have q:l9 σ [(1000000,.abs J')]=iy σ 1000000 ⟨.abs J',(σ 1000000).g1,(σ 1000000).g2+1⟩:=W;rw[q];have n:∀c,(w.heap.size<=c\/c∈F 1000000)->cK V w0 c:=λc u=>u.elim (λh=>.inl<|acI m h) λh=>(hc.own _ c h).1;have l:∀i,i≠1000000->∀b∈F i,b<w.heap.size/\b∉F 1000000:=λi hi b d=>⟨(hc.own i b d).2.1,hc.di i 1000000 hi b d⟩;have v:∀b,S b->b<w.heap.size/\b∉F 1000000:=λb d=>⟨hc.shr b d,λh=>(hc.own _ b h).2.2 d⟩;refine⟨S',iy F 1000000 F',?_,D,t,λb d=>k6 b<|s b d,λb d=>?_,?_⟩;refine hc.step (w':=w') (T':=tv V a) ⟨λr=>?_,λr=>?_,λ_ _=>rfl,λr M A=>?_⟩ k6 (λi=>?_) (λi=>?_) (λi j o b d=>?_) (λi b d=>?_) k8;by_cases g:r=1000000;subst g;exact .refl;rw[ar _ _ g];exact .refl;by_cases g:r=1000000;subst g;exact agt _;rw[ar _ _ g];exact .refl;by_cases g:r=1000000;subst g;rw[aI]at A;simp at A;rw[ar _ _ g]
 grind
 by_cases hi:i=1000000;subst hi;right;exact k9;left;rw[ar _ _ hi,ar _ _ hi]
 grind
 by_cases hi:i=1000000;subst hi;exact k10;rw[ar _ _ hi];exact hc.nodup i;by_cases hi:i=1000000;subst hi;rw[ar _ _ λe=>o e.symm];intro p;have:=l j (λe=>o e.symm) b p;rcases(XF b d).1 with h|h;omega;exact this.2 h;rw[ar _ _ hi]at d;by_cases y:j=1000000;subst y;intro p;have:=l i hi b d;rcases(XF b p).1 with h|h;omega;exact this.2 h;rw[ar _ _ y];exact hc.di i j o b d;by_cases hi:i=1000000;subst hi;exact⟨n b (XF b d).1,(XF b d).2⟩;rw[ar _ _ hi]at d;have H:=hc.own i b d
 grind
 grind
 refine⟨k1.trans f.os,k2.trans f.tape,k3.trans f.output,acI m k4,λk x z=>?_⟩;rw[k5 k (acW x m) λh=>?_];exact f.block k x z;rcases(hc.own _ k h).1 with h|h;omega;exact z h
def Sq{K:Act->World->Prop}{Q:Exit->Act->World->Prop}(hG:lE P V w0)(h:Inv N V w0 S0 σ a w)(o:Oper)(j:gM N o=true){P0:Ask}{ms:L Mv}{kG:L Ob}(hm:kF P σ o P0=some (ms,kG))(O:Mv.runs σ ms=some σ')
 (hs:∀o∈kG,o.ok P)(hK:∀a' w',Inv N V w0 S0 σ' a' w'->K a' w'):Oper.T3 V.rd P o a w K Q:=by
 cases P0 with
 |Uo r=>simp only[kF]at hm;split at hm;rename_i P1 obs' h1;cases hm;exact Ss hG h o j h1 O (λob V0=>hs (.call ob)<|agb V0) hK;simp at hm
 |refs out r=>
  simp only[kF]at hm;split at hm<;>try(simp at hm;done)
  rename_i c cF;split at hm<;>try(simp at hm;done)
  rename_i f hc;unfold gM at j;rw[abi,cF]at j;obtain⟨hd,j⟩:=j;simp only[hc,abi]at j;obtain⟨g,p,q,Z,e2⟩:=BV hG h (d:=o.dst) (λx hx=>fP) f j.2 c.args.toList j.1 hm O hs;have hx:execOp a.eval o=callFunc g (p++(c.args.toList.map a.eval).toArray++q):=by
   have:(c.args.toList.map a.eval).toArray=c.args.map a.eval:=by apply afN;simp
   simp only[execOp,cF,Go.resolve,hc,Deferred.ofValue,Z,this];rfl
  refine Oper.qj (by simp[cF]) ?_;rw[hx];exact e2 _ o a K Q λv w' hi=>hK _ _ hi
 |nF=>
  simp only[kF]at hm;split at hm<;>try(simp at hm;done)
  rename_i d u;split at hm<;>try(simp at hm;done)
  rename_i t x l hh m cF;split at hm<;>try(simp at hm;done)
  split at hm<;>try(simp at hm;done)
  rename_i P1 hw;cases hm;unfold gM at j;rw[abi,cF]at j;obtain⟨hd,j⟩:=j;simp only[u,decide_eq_true_eq]at hd;simp only[abi,Option.all_eq_true,agK,Option.isNone_iff_eq_none]at j;exact tc u (by simp only[execOp,cF];rfl) (NQ h hd x l hh j.1.1.1.1 j.1.1.1.2 j.1.1.2 hw O) hK
 |TX J' b=>
  simp only[kF]at hm;split at hm<;>try(simp at hm;done)
  rename_i c cF;split at hm<;>try(simp at hm;done)
  rename_i f hc;split at hm<;>try(simp at hm;done)
  rename_i C hC;split at hm<;>try(simp at hm;done)
  rename_i J hJ;split at hm<;>try(simp at hm;done)
  rename_i ys G0;cases hm;unfold gM at j;rw[abi,cF]at j;obtain⟨hd,j⟩:=j;simp only[hc,abi]at j;obtain⟨S,F,n,ha,H1,G6,G5,F4⟩:=h;have B0:(resolve σ f).cont=some (.pv C):=by unfold cx.cont;rw[hC]
  obtain⟨F1,Z,-⟩:=aV n f j.2 B0;simp only[Rel]at Z;have A:=pY n c.args.toList j.1 G0;obtain⟨l,hv,hy⟩:=hs (.TX C J J' ys b) I _ Z.1;have E2:qg.here J w S (F 1000000):=by have:=n.rel 1000000;unfold an at this;rw[hJ]at this;exact this
  obtain⟨fn,M2,H5,body,q1,q2⟩:=hy V.rd w S (F 1000000) _ (hG.L3 F4) (hG.cK.mono λb hb=>(n.own _ b hb).1) E2 (n.nodup _) (λb hb=>(n.own _ b hb).2) n.shr A;have hx:(execOp a.eval o).run P w=.ok (.round l fn M2 H5 body) w:=by
   have:(c.args.toList.map a.eval).toArray=c.args.map a.eval:=by apply afN;simp
   rw[this]at q1;simp only[execOp,cF,Go.resolve,hc,Deferred.ofValue,hv];simp only[Sem.run_bind,Sem.run_pure,Result.andThen_ok];have e2:invoke (.fn (.yield l) #[]) (#[]++Array.map a.eval c.args)=Instr.yield l (Array.map a.eval c.args):=by simp[invoke]
   rw[e2];exact q1
  refine Oper.qj (by simp[cF]) ?_;rw[hx,Oper.uponIn_round];refine⟨(λh=>by cases h),q2.mono ?_⟩;rintro e w'⟨rfl,S',F',k1,k2,k3,k4,k5,k6,k7,k8,k9,k10,XF⟩;have hi:=Inv.yielded (J':=J') n ha H1 G6 G5 F4 hJ k1 k2 k3 k4 k5 k6 k7 k8 k9 k10 XF;show K (a.put o.dst<|.bool b) w';cases u:o.dst with
  |none=>rw[u]at O;simp only[dz,Mv.runs,Mv.run,aaP]at O;subst O;exact hK _ _ hi
  |some d=>rw[u]at O hd;simp only[dz,agr,afy,Mv.runs,Mv.run]at O;cases O;refine hK _ _ (hi.make (M:=[]) (by simpa using hd) (Below.refl _ _) λS F _=>⟨[],by simp[Rel,scalar],I,I⟩)
 |Vs J' r=>
  simp only[kF]at hm;split at hm<;>try(simp at hm;done)
  rename_i c cF;split at hm<;>try(simp at hm;done)
  rename_i f hc;split at hm<;>try(simp at hm;done)
  rename_i x xs A;split at hm<;>try(simp at hm;done)
  rename_i C hC;split at hm<;>try(simp at hm;done)
  rename_i g hf;split at hm<;>try(simp at hm;done)
  rename_i J hJ;split at hm<;>try(simp at hm;done)
  rename_i ys G0;cases hm;unfold gM at j;rw[abi,cF]at j;obtain⟨hd,j⟩:=j;simp only[hc,A,ac4,abi]at j;obtain⟨S,F,n,ha,H1,G6,G5,F4⟩:=h;have B0:(resolve σ x).cont=some (.pv C):=by unfold cx.cont;rw[hC]
  obtain⟨F1,Z,-⟩:=aV n x j.1.1 B0;simp only[Rel]at Z;have F0:=pY n xs j.1.2 G0;obtain⟨Ff,q1,-⟩:=aV n f j.2 hf;simp only[Rel]at q1;obtain⟨af,cf,G1,G2,qe,qa,qc,-⟩:=q1;have M1:af=#[]:=by simp only[Cells]at qa;simp_all
  have H2:cf=#[]:=by simp only[Cells]at qc;simp_all
  subst M1 H2;have E2:qg.here J w S (F 1000000):=by have:=n.rel 1000000;unfold an at this;rw[hJ]at this;exact this
  have G3:=hs (.Vs g C J J' ys r) I _ Z.1 w S (F 1000000) _ (hG.L3 F4) (hG.cK.mono λb hb=>(n.own _ b hb).1) E2 (n.nodup _) (λb hb=>(n.own _ b hb).2) n.shr F0;have hx:execOp a.eval o=callFunc g (a.eval x::xs.map a.eval).toArray:=by
   have:(c.args.toList.map a.eval).toArray=c.args.map a.eval:=by apply afN;simp
   rw[A,acK]at this;simp only[execOp,cF,Go.resolve,hc,Deferred.ofValue,qe,this];simp[invoke]
  refine Oper.qj (by simp[cF]) ?_;rw[hx];refine G3 _ o a K Q λv w' hq=>?_;obtain⟨S',F',k1,k2,k3,k4,k5,k6,k7,k8,k9,k10,XF,k12⟩:=hq;have hi:=Inv.yielded (J':=J') n ha H1 G6 G5 F4 hJ k1 k2 k3 k4 k5 k6 k7 k8 k9 k10 XF;show K (a.put o.dst v) w';cases u:o.dst with
  |none=>rw[u]at O;simp only[dz,Mv.runs,Mv.run,aaP]at O;subst O;exact hK _ _ hi
  |some d=>rw[u]at O hd;simp only[dz,agr,afy,Mv.runs,Mv.run]at O;cases O;refine hK _ _ (hi.make (M:=[]) (by simpa using hd) (Below.refl _ _) λS F _=>⟨[],k12 _ _,I,I⟩)
 |mkc=>
  simp only[kF]at hm;split at hm<;>try(simp at hm;done)
  rename_i d u;split at hm<;>try(simp at hm;done)
  rename_i g first T cF
  split at hm<;>try(simp at hm;done)
  rename_i hf0;split at hm<;>try(simp at hm;done)
  rename_i ts S4;split at hm<;>try(simp at hm;done)
  rename_i V1;cases hm;have K2:∀t∈ts,t≠d:=by simpa using V1
  unfold gM at j;rw[abi,cF]at j;obtain⟨hd,j⟩:=j;simp only[u,decide_eq_true_eq]at hd;simp only[abi]at j;refine tc (s:=Instr.makeFunc (.func g) (first.map a.eval)<|T.map a.eval) u (by simp only[execOp,cF]) ?_ hK;simp only[Mv.cG,aaP]at O;subst O;have Z:first.map a.eval=#[]:=fP;have e2:T.map a.eval=(ts.map λt=>tv V a t).toArray:=by apply afN;rw[Array.toList_map,xp (V:=V) S4 j.2]
  refine⟨.func (.func g) #[] (ts.map λt=>tv V a t).toArray,w,by rw[Z,e2];rfl,h.put hd λS F hc=>?_⟩;unfold an;simp only[aI];refine⟨U,λq hq=>?_,λ_=>?_⟩;obtain⟨t,ht,rfl⟩:=abS.1 hq;rw[ar _ _<|K2 t ht];exact aaU _;rw[aer]
  congr 2
  exact adx λt ht=>by simp only[Function.comp];rw[ar _ _<|K2 t ht]
 |gI out r=>
  simp only[kF]at hm;split at hm<;>try(simp at hm;done)
  rename_i c cF;split at hm<;>try(simp at hm;done)
  rename_i t hc;split at hm<;>try(simp at hm;done)
  rename_i g T hav;split at hm<;>try(simp at hm;done)
  rename_i H3;unfold gM at j;rw[abi,cF]at j;obtain⟨hd,j⟩:=j;simp only[hc,abi]at j;simp only[acZ,abi,decide_eq_true_eq,beq_iff_eq]at H3;have S1:a.eval (.tmp t)=.func (.func g) #[] (T.map λq=>tv V a q.1).toArray:=by
   obtain⟨S,F,n,-⟩:=h;rw[gW V a<|gD j.2];have:=n.rel t;unfold an at this
   grind
  have Y:(c.args.toList++T.map λq=>Operand.tmp q.1).all aO=true:=by rw[List.all_append,j.1,aeD,acZ];intro x hx;obtain⟨q,hq,rfl⟩:=abS.1 hx;simpa[aO]using(H3 q hq).1.1
  have V2:vP o.dst (resolve σ<|.func g) ((c.args.toList++T.map λq=>Operand.tmp q.1).map<|resolve σ) out r=some (ms,kG):=by rw[acB,aer];exact hm
  obtain⟨g',p,q,Z,e2⟩:=BV hG h (d:=o.dst) (λx hx=>fP) (.func g) W _ Y V2 O hs;have e1':g=g'/\#[]=p/\#[]=q:=by have:Value.func (.func g) #[] #[]=.func (.func g') p q:=Z;simpa using this
  obtain⟨rfl,rfl,rfl⟩:=e1';have X2:T.map (λq=>a.eval<|.tmp q.1)=T.map λq=>tv V a q.1:=adx λq hq=>gW V a (H3 q hq).1.1;have hx:execOp a.eval o=callFunc g (#[]++((c.args.toList++T.map λq=>Operand.tmp q.1).map a.eval).toArray++#[]):=by
   have e3:((c.args.toList++T.map λq=>Operand.tmp q.1).map a.eval).toArray=c.args.map a.eval++(T.map λq=>tv V a q.1).toArray:=by apply afN;rw[acB,aer];simp only[Array.toList_append,Array.toList_map];rw[<-X2];rfl
   rw[e3];simp only[execOp,cF,Go.resolve,hc,Deferred.ofValue,S1];simp[invoke]
  refine Oper.qj (by simp[cF]) ?_;rw[hx];exact e2 _ o a K Q λv w' hi=>hK _ _ hi
 |ext out r=>
  simp only[kF]at hm;split at hm<;>try(simp at hm;done)
  rename_i Y
  replace Y:=(abi _ _▸(Zr Y).1:_/\_).1
  split at hm<;>try(simp at hm;done)
  rename_i P1 H ys hl;cases hm;unfold Qw at hl;split at hl<;>try(simp at hl;done)
  rename_i S2 G0;split at hl<;>try(simp at hl;done)
  rename_i L0;simp only[aaP,acQ]at hl;obtain⟨rfl,rfl,rfl⟩:=hl;have hd:∀x,o.dst=some x->x<N:=by
   unfold gM at j
   grind
  have hE:=DZ (D:=Ext P o) (λvs w R R' h1 h2=>Ext.mono h1 h2) (first:=[]) (captured:=[]) (af:=#[]) (cf:=#[]) hG h hd o.op.operands.toList Y (λS F hc=>by simp[Cells]) G0 L0 O (by have:=hs (.ext o ((dR []<|o.op.operands.toList.map<|resolve σ).map (·.2)) S2 out r) I;rw[afy,afd];exactλw S V vs F hl _ hc=>this w S V vs F hl hc)
  obtain⟨nx,v,w',k1,k2,k3⟩:=hE a.eval I;rcases k2 with rfl|⟨rfl,u⟩;exact fK k1<|hK _ _ k3;refine Oper.qj (λc hc=>?_) (by rw[k1,Oper.uponIn_skip];rw[u]at k3⊢;exact hK _ _ k3);simp only[execOp,hc]at k1;cases hz:(Go.resolve a.eval c o.type).run P w<;>simp[hz]at k1
 |XE y=>
  simp only[kF]at hm;split at hm<;>try(simp at hm;done)
  rename_i t m x ok cF;split at hm<;>try(simp at hm;done)
  rename_i K0 k h1 h2;split at hm<;>try(simp at hm;done)
  rename_i E1;simp only[abi]at E1;cases hm;unfold gM at j;rw[abi,cF]at j;obtain⟨hd,j⟩:=j;simp only[abi]at j;obtain⟨v,hv⟩:∃v,(Instr.lookup t (a.eval m) (a.eval x) ok).run P w=.ok v w:=by obtain⟨S,F,n,-⟩:=h;obtain⟨F1,Z,-⟩:=aV n m j.1 h1;obtain⟨F2,e2,-⟩:=aV n x j.2 h2;rw[Rel.aK _ e2 E1.1]at e2;obtain⟨v,hv,-⟩:=hs (.XE t ok K0 k y) I w S _ _ (Z.2.2 w S (λ_ _=>rfl) λ_ h=>h) e2;exact⟨v,hv⟩
  have F3:∀S F,aU S (cK V w0) σ (tv V a) w F->Rel w S y v []:=by intro S F n;obtain⟨F1,Z,-⟩:=aV n m j.1 h1;obtain⟨F2,e2,-⟩:=aV n x j.2 h2;rw[Rel.aK _ e2 E1.1]at e2;obtain⟨v',G4,H4⟩:=hs (.XE t ok K0 k y) I w S _ _ (Z.2.2 w S (λ_ _=>rfl) λ_ h=>h) e2;rw[hv]at G4;cases G4;exact H4
  refine fK (v:=v) (w':=w) ?_ ?_;simp only[execOp,cF];simp[hv];cases u:o.dst with
  |none=>rw[u]at O;simp only[dz,Mv.runs,aaP]at O;subst O;exact hK _ _ h
  |some d=>rw[u]at O hd;simp only[dz,afy,iD,aaP]at O;subst O;exact hK _ _ (h.make (M:=[]) (by simpa using hd) (Below.refl _ _) λS F n=>⟨[],F3 S F n,I,I⟩)
 |kG y=>
  simp only[kF]at hm;split at hm<;>try(simp at hm;done)
  rename_i c cF;split at hm<;>try(simp at hm;done)
  rename_i b hc;split at hm<;>try(simp at hm;done)
  rename_i x A;split at hm<;>try(simp at hm;done)
  rename_i K0 h1;split at hm<;>try(simp at hm;done)
  rename_i E1;cases hm;unfold gM at j;rw[abi,cF]at j;obtain⟨hd,j⟩:=j;have hx:aO x=true:=by
   simp only[hc,A,ac4,agu,abi]at j
   grind
  have H6:o.op.operands.toList.map a.eval=[a.eval x]:=by rw[cF];simp[Op.operands,Call.operands,hc,A]
  obtain⟨v,hv⟩:∃v,(execOp a.eval o).run P w=.ok (.value v) w:=by obtain⟨S,F,n,-⟩:=h;obtain⟨F1,Z,-⟩:=aV n x hx h1;obtain⟨v,hv,-⟩:=hs (.kG o K0 y) I w S _ a.eval (Z.2.2 w S (λ_ _=>rfl) λ_ h=>h) H6;exact⟨v,hv⟩
  have F3:∀S F,aU S (cK V w0) σ (tv V a) w F->Rel w S y v []:=by intro S F n;obtain⟨F1,Z,-⟩:=aV n x hx h1;obtain⟨v',G4,H4⟩:=hs (.kG o K0 y) I w S _ a.eval (Z.2.2 w S (λ_ _=>rfl) λ_ h=>h) H6;rw[hv]at G4;cases G4;exact H4
  refine fK (v:=v) (w':=w) hv ?_;cases u:o.dst with
  |none=>rw[u]at O;simp only[dz,Mv.runs,aaP]at O;subst O;exact hK _ _ h
  |some d=>rw[u]at O hd;simp only[dz,afy,iD,aaP]at O;subst O;exact hK _ _ (h.make (M:=[]) (by simpa using hd) (Below.refl _ _) λS F n=>⟨[],F3 S F n,I,I⟩)
 |U1 k r=>
  simp only[kF]at hm;split at hm<;>try(simp at hm;done)
  rename_i c cF;split at hm<;>try(simp at hm;done)
  rename_i f hc;split at hm<;>try(simp at hm;done)
  rename_i x xs A;split at hm<;>try(simp at hm;done)
  rename_i g hf;split at hm<;>try(simp at hm;done)
  rename_i y hx;split at hm<;>try(simp at hm;done)
  rename_i ys G0;split at hm<;>try(simp at hm;done)
  rename_i E1;cases hm;unfold gM at j;rw[abi,cF]at j;obtain⟨hd,j⟩:=j;simp only[hc,abi]at j;have Y:=acZ.1 j.1;obtain⟨p1,p2⟩:=Dx A;obtain⟨S,F,n,ha,H1,G6,G5,F4⟩:=h;obtain⟨F1,Z,e2,-,e4⟩:=aV n x (Y x p1) hx;have hn:F1.Nodup:=by
   unfold Qn at E1;split at E1;rename_i r' g1 g2 A0;cases x with
   |tmp t=>
    have ht:(σ t).av=.bw r' g1 g2 []:=by have e:(cx.of σ t).sl.av=.bw r' g1 g2 []:=A0;unfold cx.of at e;split at e<;>first|exact e|(simp[Sl.none]at e)
    rw[(e4 t r' g1 g2 W ht).1];exact n.nodup _
   |const v=>exfalso;have hs:(resolve σ<|.const v).sl.av=gH v:=W;rw[hs]at A0;unfold gH kl at A0;split at A0;cases A0;split at A0;cases A0;split at A0<;>cases A0
   |func g'=>cases A0
   |global g'=>cases A0
   ·split at E1
    ·rename_i sz X _;simp only[Rel]at Z;rcases Z with⟨-,-,rfl⟩|⟨b,cap,cs,F',-,-,-,-,-,k,rfl⟩;exact acP;rw[du.aK _ k E1];simp
    cases E1
  have F0:=pY n xs (acZ.2 λz hz=>Y z<|p2 z hz) G0;obtain⟨Ff,q1,-⟩:=aV n f j.2 hf;simp only[Rel]at q1;obtain⟨af,cf,G1,G2,qe,qa,qc,-⟩:=q1;have M1:af=#[]:=by simp only[Cells]at qa;simp_all
  have H2:cf=#[]:=by simp only[Cells]at qc;simp_all
  subst M1 H2;have G3:=hs (.U1 g k y ys r) I w S (a.eval x) _ F1 (hG.L3 F4) (hG.cK.mono λb hb=>by obtain⟨i,hi⟩:=e2 b hb;exact(n.own i b hi).1) Z hn (λb hb=>by obtain⟨i,hi⟩:=e2 b hb;exact(n.own i b hi).2) n.shr F0;have W1:execOp a.eval o=callFunc g (ins k (a.eval x)<|xs.map a.eval).toArray:=by
   have:(c.args.toList.map a.eval).toArray=c.args.map a.eval:=by apply afN;simp
   rw[<-Lh A,QG]at this;simp only[execOp,cF,Go.resolve,hc,Deferred.ofValue,qe,this];simp[invoke]
  refine Oper.qj (by simp[cF]) ?_;rw[W1];refine G3 _ o a K Q λv w' hq=>?_;obtain⟨S',F',k1,k2,k3,k4,k5,k6,k7⟩:=hq;exact hK _ _ (Inv.end (λy hy=>fP) ha H1 n k1 F4 k2 k3 k4 G6 G5 k5 k6 k7 O)
 |TS y=>
  simp only[kF]at hm;split at hm<;>try(simp at hm;done)
  rename_i t x cF;split at hm<;>try(simp at hm;done)
  rename_i C hC;split at hm<;>try(simp at hm;done)
  rename_i J hJ;split at hm<;>try(simp at hm;done)
  cases hm;unfold gM at j;rw[abi,cF]at j;obtain⟨hd,j⟩:=j;have B0:(resolve σ x).cont=some (.pv C):=by unfold cx.cont;rw[hC]
  have E2:∀S F,aU S (cK V w0) σ (tv V a) w F->C (a.eval x)/\qg.here J w S (F 1000000):=λS F n=>by obtain⟨F1,Z,-⟩:=aV n x j B0;simp only[Rel]at Z;have:=n.rel 1000000;unfold an at this;rw[hJ]at this;exact⟨Z.1,this⟩
  obtain⟨v,hv⟩:∃v,(Instr.loadAt t<|a.eval x).run P w=.ok v w:=by obtain⟨S,F,n,-⟩:=h;obtain⟨k1,k2⟩:=E2 S F n;obtain⟨v,hv,-⟩:=hs (.TS t C J y) I w S _ _ k2 k1;exact⟨v,hv⟩
  have F3:∀S F,aU S (cK V w0) σ (tv V a) w F->Rel w S y v []:=by intro S F n;obtain⟨k1,k2⟩:=E2 S F n;obtain⟨v',G4,H4⟩:=hs (.TS t C J y) I w S _ _ k2 k1;simp_all
  refine fK (v:=v) (w':=w) ?_ ?_;simp only[execOp,cF];simp[hv];cases u:o.dst with
  |none=>rw[u]at O;simp only[dz,Mv.runs,aaP]at O;subst O;exact hK _ _ h
  |some d=>rw[u]at O hd;simp only[dz,afy,iD,aaP]at O;subst O;exact hK _ _<|h.make (M:=[]) (by simpa using hd) (Below.refl _ _) λS F n=>⟨[],F3 S F n,I,I⟩
end
def lJ(σ:St)(ops:Array Oper)(o:Oper):Option Bool:=
 match o.guard with
 |none=>some true
 |some (j,c)=>match(ops[j]?).bind (·.dst)with
  |some d=>match Nat.blt d 1000000 with
   |true=>match(σ d).av with
    |.v (.bool b)=>some (b==c)
    |.bU []=>some false
    |_=>none
   |false=>none
  |none=>none
def Bb(o:Oper):L Mv:=match o.dst with|some d=>[.put d<|.bU []]|none=>[]
def fD(P:Program)(σ:St)(ops:Array Oper)(o:Oper)(b:Ask):Option (L Mv×L Ob):=
 match lJ σ ops o with
 |some true=>kF P σ o b
 |some false=>some (Bb o,[])
 |none=>none
def pvK(r:cx):L Nat:=
 match r.sl.av with
 |.pv _=>[1000000]
 |_=>[]
def JI(σ:St):Op->L Nat
 |.move (.tmp t)=>[t]
 |op=>op.operands.toList.flatMap<|s7 σ
def Mo(ops:Array Oper)(o:Oper):L Nat:=match o.guard with
 |some (j,_)=>((ops[j]?).bind (·.dst)).toList
 |none=>[]
def yv(σ:St)(ops:Array Oper)(o:Oper):L Nat:=
 JI σ o.op++Mo ops o++(match o.op with
  |.call c=>match c.callee with
   |.value f=>pvK (resolve σ f)++(match c.args.toList with
     |x::_=>pvK (resolve σ x)
     |[]=>[])
   |_=>[]
  |.load _ x=>pvK (resolve σ x)
  |_=>[])
def U4(σ:St)(o:Oper):Option Nat:=match o.op with
 |.call ⟨.builtin .append,b,_⟩=>match b.toList with
  |[.tmp t,_]=>match(σ t).av with
   |.bw r _ _ (.deref::.idx _ _::_)=>match(resolve σ<|.tmp t).cont with
    |some (.list .own _ _)=>match o.dst with
     |some d=>if d=r then none else some r
     |none=>none
    |_=>none
   |_=>none
  |_=>none
 |_=>none
def iP(σ:St)(ops:Array Oper)(o:Oper):L Nat:=match xl σ o.op with
 |some (a,r)=>(if a=r then[]else[3*a])++(Mo ops o).map (3* ·)++[3*r+1]
 |none=>(yv σ ops o).map (3* ·)++(match U4 σ o with
  |some r=>[3*r+2]
  |none=>[])
section
variable{P:Program}{N:Nat}{w0 w w':World}{V:Hid}{S S0 S':Nat->Prop}{B:Nat->Prop}{σ σ' τ:St}{a:Act}{F:Nat->L Nat}{K:Act->World->Prop}{Q:Exit->Act->World->Prop}{ops:Array Oper}{o:Oper}
def Su{b:AV}(h:∀x∈o.op.operands.toList,resolve τ x=resolve σ x):B8 P τ o b=B8 P σ o b:=by
 have m1:∀(l:L Operand),(∀x∈l,resolve τ x=resolve σ x)->l.map (resolve τ)=l.map (resolve σ):=λl hl=>adx hl;have j:∀(l:Option Operand),(∀x∈l,resolve τ x=resolve σ x)->l.map (resolve τ)=l.map (resolve σ):=λl hl=>by cases l<;>simp_all
 cases i:o.dst with
 |none=>
  simp[B8,i];cases cF:o.op<;>simp only[cF,Op.operands]at h⊢
  case store t a x=>simp_all
  case call c=>
   cases hc:c.callee<;>simp only[hc,Call.operands]at h⊢
   grind
 |some d=>
  simp[B8,i];cases cF:o.op<;>simp only[cF,Op.operands]at h⊢
  case slice t x l hh m=>simp_all
  case makeFunc f p q=>grind
  case build t e=>simp at h;have:(e.toList.map λp=>resolve τ p.2)=e.toList.map λp=>resolve σ p.2:=adx λp g=>h p.2 p.1 (by simpa using g);rw[this]
  case buildSlice t n e=>simp at h;have:(e.toList.map λp=>resolve τ p.2)=e.toList.map λp=>resolve σ p.2:=adx λp g=>h p.2 p.1 (by simpa using g);rw[this]
  case call c=>
   cases hc:c.callee<;>simp only[hc,Call.operands]at h⊢
   grind
   grind
  all_goals(first|rfl|(simp at h;simp[h]))
def Ba:∀{xs:L Operand}{b:L Nat},slotsOf xs=some b->∀t∈b,Operand.tmp t∈xs
 |[],b,h,t,c=>by simp[slotsOf]at h;subst h;cases c
 |.tmp u::xs,b,h,t,c=>by
  simp[slotsOf]at h;split at h<;>try(cases h;done)
  rename_i d e;cases h;rcases abm.1 c with rfl|c;simp;exact List.mem_cons_of_mem _ (Ba e t c)
 |.const _::_,b,h,_,_=>by simp[slotsOf]at h
 |.func _::_,b,h,_,_=>by simp[slotsOf]at h
 |.global _::_,b,h,_,_=>by simp[slotsOf]at h
def KN{a:Nat}(c:∀s∈roots σ a,τ s=σ s):sU τ a=sU σ a:=by
 have e:=c a (by unfold roots;split<;>simp);unfold sU;rw[e];cases b:(σ a).av with
 |bw r g1 g2 p=>have d:=c r (by unfold roots;rw[b];simp);simp[d]
 |_=>rfl
def KM{op:Op}(b:∀x∈op.operands.toList,∀s∈s7 σ x,τ s=σ s):xl τ op=xl σ op:=by unfold xl;split;rename_i t a;exact KN λs hs=>b (.tmp a) (by simp[Op.operands]) s hs;rfl
def Sr{u:Ask}(v:∀x∈o.op.operands.toList,∀s∈s7 σ x,τ s=σ s)(h:∀x∈o.op.operands.toList,resolve τ x=resolve σ x)(z:∀c f C,o.op=.call c->c.callee=.value f->(resolve σ f).sl.av=.pv C->τ 1000000=σ 1000000)
 (X:∀c f x xs C,o.op=.call c->c.callee=.value f->c.args.toList=x::xs->(resolve σ x).sl.av=.pv C->τ 1000000=σ 1000000)
 (T:∀t x C,o.op=.load t x->(resolve σ x).sl.av=.pv C->τ 1000000=σ 1000000):kF P τ o u=kF P σ o u:=by
 cases u with
 |Uo r=>simp only[kF,Su h]
 |refs out r=>
  have m1:∀(l:L Operand),(∀x∈l,resolve τ x=resolve σ x)->l.map (resolve τ)=l.map (resolve σ):=λl hl=>adx hl;simp only[kF];cases cF:o.op<;>simp only[cF,Op.operands]at h⊢
  case call c=>
   cases hc:c.callee<;>simp only[hc,Call.operands]at h⊢
   grind
 |nF=>
  have D:∀(l:Option Operand),(∀x∈l,resolve τ x=resolve σ x)->l.map (resolve τ)=l.map (resolve σ):=λl hl=>by cases l<;>simp_all
  simp only[kF];cases o.dst with
  |none=>rfl
  |some d=>cases cF:o.op<;>simp only[cF,Op.operands]at h⊢;simp_all
 |TX J' b=>
  have m1:∀(l:L Operand),(∀x∈l,resolve τ x=resolve σ x)->l.map (resolve τ)=l.map (resolve σ):=λl hl=>adx hl;simp only[kF];cases cF:o.op<;>simp only[cF,Op.operands]at h⊢
  case call c=>
   cases hc:c.callee<;>simp only[hc,Call.operands]at h⊢
   case value f=>
    simp at h;rw[h.1,m1 c.args.toList<|by simpa using h.2]
    grind
 |mkc=>
  simp only[kF];cases o.dst with
  |none=>rfl
  |some d=>
   cases cF:o.op<;>simp only[cF,Op.operands]at v⊢
   case makeFunc f p q=>
    cases f<;>simp only;cases p.toList<;>simp only;cases hs:slotsOf q.toList<;>simp only;rename_i g J;have:(J.map λt=>(t,(τ t).g1))=J.map λt=>(t,(σ t).g1):=adx λt Y=>by have:=Ba hs t Y;rw[v (.tmp t) fP t<|by simp only[s7,roots];split<;>simp]
    rw[this]
 |gI out r=>
  simp only[kF];cases cF:o.op<;>simp only[cF,Op.operands]at v h⊢
  case call c=>
   cases hc:c.callee<;>simp only[hc,Call.operands]at v h⊢
   case value f=>
    cases f with
    |tmp t=>
     have Z:τ t=σ t:=v (.tmp t) I t (by simp only[s7,roots];split<;>simp);simp only[Z];cases H:(σ t).av<;>simp only
     case gI g i=>
      have eq:∀q∈i,τ q.1=σ q.1:=λq M=>v (.tmp t) I q.1 (by simp only[s7,roots,H];grind);have e1:i.all (λq=>decide (q.1<1000000)&&(τ q.1).av.plain&&(τ q.1).g1==q.2)=i.all (λq=>decide (q.1<1000000)&&(σ q.1).av.plain&&(σ q.1).g1==q.2):=by grind
      rw[e1];split;rename_i A;simp only[acZ,abi]at A;have m1:c.args.toList.map (resolve τ)=c.args.toList.map (resolve σ):=adx λx n=>h x fP;have D:(i.map λq=>resolve τ<|.tmp q.1)=i.map λq=>resolve σ (.tmp q.1):=adx λq M=>by
       refine resolve_congr _ λs hs=>?_;have j:=(A q M).1.2;have:s=q.1:=by simp only[s7,roots]at hs;split at hs;rename_i e;rw[e]at j;simp[AV.plain]at j;rename_i e;rw[e]at j;simp[AV.plain]at j;rename_i e;rw[e]at j;simp[AV.plain]at j;simpa using hs
       grind
      rw[m1,D];rfl;rfl
    |_=>rfl
 |Vs J' r=>
  have m1:∀(l:L Operand),(∀x∈l,resolve τ x=resolve σ x)->l.map (resolve τ)=l.map (resolve σ):=λl hl=>adx hl;simp only[kF];cases cF:o.op<;>simp only[cF,Op.operands]at h⊢
  case call c=>
   cases hc:c.callee<;>simp only[hc,Call.operands]at h⊢
   case value f=>
    simp at h;cases m:c.args.toList with
    |nil=>rfl
    |cons x xs=>
     have n:∀y∈x::xs,resolve τ y=resolve σ y:=λy z=>h.2 y (by grind);simp only[h.1,n x I,m1 xs λy z=>n y<|by simp[z]]
     grind
 |U1 k r=>
  have m1:∀(l:L Operand),(∀x∈l,resolve τ x=resolve σ x)->l.map (resolve τ)=l.map (resolve σ):=λl hl=>adx hl;simp only[kF];cases cF:o.op<;>simp only[cF,Op.operands]at h⊢
  case call c=>
   cases hc:c.callee<;>simp only[hc,Call.operands]at h⊢
   case value f=>
    simp at h;cases m:pick k c.args.toList with
    |none=>rfl
    |some q=>obtain⟨x,xs⟩:=q;obtain⟨R,O⟩:=Dx m;have n:∀y∈c.args.toList,resolve τ y=resolve σ y:=λy z=>h.2 y (by grind);simp only[h.1,n x R,m1 xs λy z=>n y<|O y z]
 |kG y=>
  simp only[kF];cases cF:o.op<;>simp only[cF,Op.operands]at h⊢
  case call c=>
   cases hc:c.callee<;>simp only[hc,Call.operands]at h⊢
   case builtin b=>split;rename_i x n;rw[h x<|by simp[<-Array.mem_toList_iff,n]];rfl
 |TS y=>
  simp only[kF];cases cF:o.op<;>simp only[cF,Op.operands]at h⊢
  grind
 |ext out r=>
  have m1:o.op.operands.toList.map (resolve τ)=o.op.operands.toList.map (resolve σ):=adx h;have D:tg τ o.op=tg σ o.op:=by unfold tg;rw[KM v]
  simp only[kF,m1,D]
 |XE y=>simp only[kF];cases cF:o.op<;>simp only[cF,Op.operands]at h⊢;simp_all
def Ji{t d:Nat}(h:τ t=σ t):dD d (resolve τ<|.tmp t)=dD d (resolve σ<|.tmp t):=by simp[resolve,cx.of,h];cases(σ t).av<;>rfl
def Vd{b:Ask}{t:Nat}(c:o.op=.move (.tmp t))(h:τ t=σ t):kF P τ o b=kF P σ o b:=by
 have e:∀d,dD d (resolve τ<|.tmp t)=dD d (resolve σ<|.tmp t):=λd=>Ji h;cases b with
 |Uo r=>simp[kF,B8,c];simp_all
 |ext out r=>simp[kF,c,tg,QW]
 |_=>simp[kF,c]
def A1(h:∀s∈Mo ops o,τ s=σ s):lJ τ ops o=lJ σ ops o:=by
 unfold lJ;split;rfl;rename_i j b c;cases e:(ops[j]?).bind (·.dst)with
 |none=>rfl
 |some d=>simp only;rw[h d<|by unfold Mo;simp[c,e]]
def I2{b:Ask}(h:∀s∈yv σ ops o,τ s=σ s):fD P τ ops o b=fD P σ ops o b:=by
 have k:kF P τ o b=kF P σ o b:=by
  by_cases hm:∃t,o.op=.move (.tmp t);obtain⟨t,i⟩:=hm;exact Vd i<|h t<|by unfold yv;rw[i];simp[JI]
  have n:JI σ o.op=o.op.operands.toList.flatMap (s7 σ):=by unfold JI;simp_all
  exact Sr (λx j s hs=>h s (by
   unfold yv;grind)) (λx j=>resolve_congr x λs hs=>h s (by
   unfold yv;grind)) (λc f C e d g=>h _ (by
   unfold yv;rw[e];simp[d,pvK,g])) (λc f x m C e d g l=>h _ (by
   unfold yv;rw[e];simp[d,pvK,g,l])) (λt x C e d=>h _ (by
   unfold yv;rw[e];simp[pvK,d]))
 unfold fD;rw[A1 λs hs=>h s<|by unfold yv;simp_all,k]
def Ll{x:AV}(h:Ox x=true):∃o sz xs,x=.box o (.list .own sz xs):=by
 unfold Ox at h
 grind
def QO{x y:Sl}{o:Bool}{sz:Nat}{xs:L AV}(b:x.av=.box o (.list .own sz xs))(h:tw y=tw x):(∃ys,y.av=.box o (.list .own sz ys))/\y.g1=x.g1/\y.g2=x.g2:=by
 have c:tw x=⟨.box o<|.list .own sz [],x.g1,x.g2⟩:=by unfold tw;rw[b]
 rw[c]at h;unfold tw at h
 grind
def wF{d t a r:Nat}(hs:sU σ a=some (a,r))(y:a≠r->τ a=σ a)(s:tw (τ r)=tw (σ r)):ug P d t (resolve τ<|.tmp a)=ug P d t (resolve σ<|.tmp a)/\sU τ a=some (a,r):=by
 have j:∀(ti:TI)(f:Fl)(sz:Nat)(c b:L AV),fits ti (.list f sz c)=fits ti (.list f sz b):=λ_ _ _ _ _=>rfl;unfold sU at hs;split at hs;rename_i v g1 g2 p k;split at hs;rename_i hc;obtain⟨rfl,q,u⟩:=hc;simp[true_and]at hs;subst hs;obtain⟨o,sz,c,g⟩:=Ll q;obtain⟨⟨b,e⟩,l,m⟩:=QO g s;have i:a≠v:=by grind
 have h:=y i;constructor;unfold ug;cases n:ct P t with
 |none=>rfl
 |some ti=>simp[resolve,cx.of,h,k,cx.addr,cx.cont,g,e,l,m,u,RJ,bH,zP,AV.plain,AV.aK,AV.cell,j ti .own sz b c,if_true]
 ·unfold sU;rw[h,k];simp[e,l,u,Ox,if_true]
 cases hs;rename_i x i;split at hs;rename_i q;simp[true_and]at hs;subst hs;obtain⟨o,sz,c,g⟩:=Ll q;obtain⟨⟨b,e⟩,l,m⟩:=QO g s;constructor;unfold ug;cases n:ct P t with
 |none=>rfl
 |some ti=>simp[resolve,cx.of,g,e,cx.addr,l,m,bH,AV.aK,AV.cell,j ti .own sz b c,if_true]
 ·unfold sU;rw[e];simp[Ox]
 cases hs
def Lg{b:Ask}(m:∀s,3*s∈iP σ ops o->τ s=σ s)(z:∀r,3*r+1∈iP σ ops o->tw (τ r)=tw (σ r)):fD P τ ops o b=fD P σ ops o b:=by
 cases hs:xl σ o.op with
 |none=>
  refine I2 λs j=>m s ?_;unfold iP
  grind
 |some q=>
  obtain⟨a,r⟩:=q;have x:iP σ ops o=(if a=r then[]else[3*a])++(Mo ops o).map (3* ·)++[3*r+1]:=by unfold iP;rw[hs]
  have i:=hs;unfold xl at hs;split at hs;rename_i t c cF;have e:c=a:=by
   unfold sU at hs
   grind
  subst e;have l:c≠r->τ c=σ c:=λv=>m c fP;have k:tw (τ r)=tw (σ r):=z r (by rw[x];simp);have u:lJ τ ops o=lJ σ ops o:=A1 λs j=>m s (by grind);have p:kF P τ o b=kF P σ o b:=by
   cases b with
   |Uo n=>
    simp[kF,B8,cF];cases o.dst with
    |none=>rfl
    |some d=>simp[(wF (P:=P) (d:=d) (t:=t) hs l k).1]
   |ext out n=>
    have k1:tg σ o.op=false:=by unfold tg;rw[i];split<;>rfl
    have k2:xl τ o.op=some (c,r):=by rw[cF];exact(wF (P:=P) (d:=0) (t:=t) hs l k).2
    have k3:tg τ o.op=false:=by unfold tg;rw[k2];split<;>rfl
    simp only[kF,k1,k3];rfl
   |TS y=>
    have gen:∀g:St,sU g c=some (c,r)->kF P g o (.TS y)=none:=by
     intro g f;have hn:∀C,(resolve g<|.tmp c).sl.av≠.pv C:=by
      intro C h;have e:(g c).av=.pv C:=by simp[resolve,cx.of]at h;split at h<;>first|exact h|(simp[Sl.none]at h)
      unfold sU at f;rw[e]at f;simp[Ox]at f
     simp[kF,cF]
    rw[gen σ hs,gen τ (wF (P:=P) (d:=0) (t:=t) hs l k).2]
   |_=>simp[kF,cF]
  unfold fD;rw[u,p];cases hs
def Nw{d t r g1 g2:Nat}{p:Path}{x y:cx}{b:L Mv}{sz:Nat}{xs:L AV}(h:ma P d t x y=some b)(e:x.sl.av=.bw r g1 g2 p)(hc:x.cont=some (.list .own sz xs)):
 ∃c z,b=[.take r d p,.make (d::c) d z]/\r∉c:=by
 unfold ma at h;split at h<;>try(cases h)
 split at h<;>try(cases h)
 grind
def Uz{i sz:Nat}{p:Path}{h x av:AV}(hs:ff x (.deref::.idx i sz::p) h=some av):∃xs ys,x=.box true (.list .own sz xs)/\av=.box true (.list .own sz ys):=by
 cases x with
 |box o X=>
  cases o with
  |false=>simp[ff]at hs
  |true=>
   simp[ff]at hs;obtain⟨d,b,rfl⟩:=hs;cases X with
   |list f c xs=>
    cases f with
    |own=>
     simp only at b;split at b;rename_i e;simp[aaV]at b
     grind
     cases b
    |_=>simp at b
   |_=>simp at b
 |_=>simp[ff]at hs
def RM{r d i sz:Nat}{p:Path}{M:L Nat}{z:AV}(b:d≠r)(s:r∉M)(c:Mv.runs σ [.take r d<|.deref::.idx i sz::p,.make (d::M) d z]=some σ'):tw (σ' r)=tw (σ r):=by
 simp[Mv.runs,Mv.run]at c;rw[aaq b]at c;split at c<;>try(cases c;done)
 rename_i g f;split at f<;>try(cases f)
 rename_i y q;split at f<;>try(cases f;done)
 rename_i av hs;simp at f c;subst f;subst c;have l:made (iy (iy σ r<|kC (σ r) (.deref::.idx i sz::p) av) d ⟨y,(σ d).g1+1,(σ d).g2⟩) (d::M) d z r=kC (σ r) (.deref::.idx i sz::p) av:=by
  have j:r∉d::M:=by grind
  simp[made,j];rw[aaq λe=>b e.symm,ar _ _ λe=>b e.symm,aI]
 rw[l];have k:kC (σ r) (.deref::.idx i sz::p) av=⟨av,(σ r).g1,(σ r).g2⟩:=fQ;rw[k];obtain⟨n,m,h,rfl⟩:=Uz hs;unfold tw;rw[h]
def YB{h:Ask}{r:Nat}{m:L Mv}{kG:L Ob}(b:U4 σ o=some r)(hm:fD P σ ops o h=some (m,kG))(n:Mv.runs σ m=some σ'):tw (σ' r)=tw (σ r):=by
 unfold U4 at b;split at b<;>try(cases b)
 rename_i D A cF;split at b<;>try(cases b)
 rename_i t y f;split at b<;>try(cases b)
 rename_i C g1 g2 i sz p v;split at b<;>try(cases b)
 rename_i H O hc;split at b<;>try(cases b)
 rename_i d u;split at b<;>try(cases b;done)
 rename_i j;simp at b;subst b;unfold fD at hm;split at hm<;>try(cases hm;done)
 have s:∃x z,m=[.take C d<|.deref::.idx i sz::p,.make (d::x) d z]/\C∉x:=by
  cases h with
  |Uo q=>
   simp[kF,B8,u,cF,f,afu]at hm;cases c:lG P d .append A.toList [resolve σ<|.tmp t,resolve σ y]with
   |none=>rw[c]at hm;simp[gS]at hm
   |some J=>
    rw[c]at hm;obtain⟨rfl,-⟩:=hm;cases g:A.toList with
    |nil=>rw[g]at c;simp[lG]at c
    |cons T l=>
     cases l with
     |nil=>rw[g]at c;simp[lG]at c
     |cons R l=>
      cases l with
      |cons _ _=>rw[g]at c;simp[lG]at c
      |nil=>
       rw[g]at c;simp[lG]at c;split at c<;>try(cases c)
       exact Nw (g1:=g1) (g2:=g2) c (by simp[resolve,cx.of,v]) hc
  |ext out q=>
   have k:tg σ o.op=false:=by unfold tg QW;rw[cF];simp
   simp[kF,k]at hm
  |kG q=>simp[kF,cF,f]at hm
  |_=>simp[kF,cF,u]at hm
 obtain⟨x,z,rfl,M⟩:=s;exact RM j M n;cases hm;simp[Bb,u,Mv.cG]at n;subst n;rw[ar _ _ λe=>j e.symm]
def AZ(h:aU S B σ (tv V a) w F){b:Bool}(f:lJ σ ops o=some b):Region.wanted o (yielded ops a.tmps)=b:=by
 unfold lJ at f;unfold Region.wanted;split at f;simp_all;rename_i j n p;rw[p];simp only;split at f;rename_i d q;unfold yielded;rw[q];simp;have l:=h.rel d;split at f<;>try(cases f)
 rename_i i;have i:=acR (show Nat.ble (d+1) 1000000=true from i);split at f;rename_i r c;rw[an.aC<|by rw[c];rfl,c]at l;have g:=l.2.1;have:a.tmps[d]?=some (.bool r):=by rw[xf V a<|.inl i]at g;by_cases k:d<a.tmps.size;simp_all;simp[k,undef]at g
 simp_all;rename_i c;rw[an.aC<|by rw[c];rfl,c]at l;obtain⟨s,e,m,-⟩:=l;have g:tv V a d=.tuple #[]:=by rw[e];simpa using m
 cases f;rw[xf V a<|.inl i]at g;by_cases k:d<a.tmps.size;simp_all;simp_all;cases f;cases f
def Du(m:lE P V w0)(h:Inv N V w0 S0 σ a w)(c:gM N o=true){e:Ask}{k:L Mv}{kG:L Ob}(hm:fD P σ ops o e=some (k,kG))(b:Mv.runs σ k=some σ')
 (hs:∀o∈kG,o.ok P)(j:∀l w',Inv N V w0 S0 σ' l w'->K l w'):
 if Region.wanted o (yielded ops a.tmps)then Oper.T3 V.rd P o a w K Q else K (a.put o.dst undef) w:=by
 obtain⟨S,F,hc,-⟩:=id h;unfold fD at hm;split at hm;rename_i f;rw[AZ hc f];exact Sq m h o c hm b hs j;rename_i f;rw[AZ hc f];cases hm;unfold Bb at b;split at b;rename_i d i;rw[i];have g:d<N:=by unfold gM at c;simp_all
 simp[Mv.cG]at b;subst b;exact j _ _ (h.ju g λS F _=>by simp[Rel,Cells,undef]);rename_i i;rw[i];simp[Mv.runs]at b;subst b;exact j _ _ h;cases hm
end
section
variable{a:Act}{V:Hid}{N:Nat}{S0:Nat->Prop}{σ:St}{w w0:World}
def Marks(_V:Hid)(w0 w:World)(S:Nat->Prop)(F:Nat->L Nat)(b:L Deferred):Prop:=b.Nodup/\∀d∈b,∃D,d={target:=.collected D,args:=#[]}/\w.heap[D]?=some (.deferred<|some [])/\w0.heap.size<=D/\¬S D/\∀i,D∉F i
def kV(N:Nat)(V:Hid)(w0:World)(S0:Nat->Prop)(σ:St)(a:Act)(w:World):Prop:=∃S F c,aU S (cK V w0) σ (tv V a) w F/\a.tmps.size=N/\a.defers=c++V.df/\(∀b,S0 b->S b)/\(∀b,S b->S0 b\/cK V w0 b)/\mb V w0 w/\Marks V w0 w S F c
def Inv.x(h:Inv N V w0 S0 σ a w):kV N V w0 S0 σ a w:=by obtain⟨S,F,g,f,e,d,c,b⟩:=h;exact⟨S,F,[],g,f,e,d,c,b,acP,I⟩
def R0:Q Nat->Prop:=λr=>r=none
def R1:Q Nat->Prop:=λ_=>True
def AW(R:Option Nat->Prop)(P:Program)(N:Nat)(c:Code)(Q:Exit->St->Prop)(σ:St):Prop:=∀(V:Hid)(w0:World)(S0:Nat->Prop)(a:Act)(w:World),R V.rd/\lE P V w0->Inv N V w0 S0 σ a w->c.wpIn (FW V.rd) 0 P (λe b w'=>∃σ',Q e σ'/\kV N V w0 S0 σ' b w') a w
def Hid.Xi(V:Hid)(F:Nat->L Nat)(c:L Deferred):Hid:={v:=V.v,g:=λb=>∃i,b∈F i,rd:=V.rd,df:=c}
def AW.x{R:Option Nat->Prop}{P:Program}{c:Code}{Q:Exit->St->Prop}(h:AW R P N c Q σ)(z:R V.rd/\lE P V w0)(hi:kV N V w0 S0 σ a w):
 c.wpIn (FW V.rd) 0 P (λe M w'=>∃σ',Q e σ'/\kV N V w0 S0 σ' M w') a w:=by
 obtain⟨S,F,q,hc,hN,y,t,A0,j,B0,hm⟩:=hi;have m:=j.size;have n:∀b,cK (V.Xi F<|q++V.df) w b->cK V w0 b:=by rintro b(f|⟨i,f⟩);exact .inl<|acI m f;exact(hc.own i b f).1
 have v:∀d∈q,∀D,d={target:=.collected D,args:=#[]}->D<w.heap.size/\¬S D/\(∀i,D∉F i)/\w.heap[D]?=some (.deferred<|some [])/\w0.heap.size<=D:=by grind
 have u:∀D,D<w.heap.size->(∀i,D∉F i)->¬cK (V.Xi F<|q++V.df) w D:=by rintro D h1 h3(f|⟨i,f⟩);omega;exact h3 i f
 refine wpIn_mono (h (V.Xi F<|q++V.df) w S a w ⟨z.1,z.2.L3 j,z.2.cK.mono λb⟨i,f⟩=>(hc.own i b f).1⟩ ⟨S,F,⟨hc.rel,hc.nodup,hc.di,λi b f=>⟨.inr ⟨i,f⟩,(hc.own i b f).2⟩,hc.shr⟩,hN,y,λ_ h=>h,λ_ h=>.inl h,mb.refl _ _⟩) ?_;rintro e M w'⟨σ',hq,S',F',A,l,kN,s,r,Y,g,Z,km⟩;refine⟨σ',hq,S',F',A++q,⟨l.rel,l.nodup,l.di,λi b f=>⟨n b (l.own i b f).1,(l.own i b f).2⟩,l.shr⟩,kN,by rw[s,acT];rfl,λb f=>r b<|t b f,λb f=>?_,?_,?_,?_⟩
 grind
 refine⟨g.os.trans j.os,g.tape.trans j.tape,g.output.trans j.output,acI m g.size,λk H J=>?_⟩;rw[g.block k (acW H m) ?_];exact j.block k H J;rintro⟨i,f⟩;rcases(hc.own i k f).1 with h|h;omega;exact J h
 grind
 intro d p;rcases ac6.1 p with p|p
 grind
 obtain⟨D,K,-⟩:=hm d p;obtain⟨C,l3,X,T,O⟩:=v d p D K;have hn:=u D C X;refine⟨D,K,?_,O,λh=>?_,λi h=>hn (l.own i D h).1⟩;rw[g.block D C λh=>hn<|.inr h];exact T
 grind
def Z5(P:Program)(ops:Array Oper):L Oper->St->(St->Prop)->Prop
 |[],σ,K=>K σ
 |o::rest,σ,K=>∃b c kG σ',fD P σ ops o b=some (c,kG)/\(∀ob∈kG,ob.ok P)/\Mv.runs σ c=some σ'/\Z5 P ops rest σ' K
def uK(P:Program)(ops:Array Oper):L Oper->St->L (L Nat×L Nat)->(L (L Nat×L Nat)->St->Prop)->Prop
 |[],σ,b,K=>K b.reverse σ
 |o::rest,σ,b,K=>∃c d kG σ',fD P σ ops o c=some (d,kG)/\(∀ob∈kG,ob.ok P)/\Mv.runs σ d=some σ'/\
   uK P ops rest σ' ((iP σ ops o,bp d)::b) K
def DP(b:L Nat)(o:Oper):Nat:=o.after.toList.foldl (λm e=>if Region.binds .any e then m|||(b.getD e.on 0)|||(1<<<e.on)else m) 0
def ue:L Oper->L Nat->L Nat
 |[],b=>b
 |o::rest,b=>ue rest<|b++[DP b o]
def indep(x y:L Nat×L Nat):Bool:=(x.2.all λs=> !y.1.contains (3*s)&& !y.2.contains s&&(!y.1.contains (3*s+1)||x.1.contains (3*s+2)))&&(y.2.all λs=> !x.1.contains (3*s)&&(!x.1.contains (3*s+1)||y.1.contains (3*s+2)))
def lower(ops:L Oper):Bool:=(List.range ops.length).all λj=>((ops[j]?).map λo=>o.after.toList.all λe=> !Region.binds .any e||decide (e.on<j)).getD true
def apart(c:L Nat)(b:L (L Nat×L Nat))(n:Nat):Bool:=(List.range n).all λj=>(List.range j).all λi=>(c.getD j 0).testBit i||indep (b.getD i ([],[])) (b.getD j ([],[]))
end
section
variable{R:Q Nat->Prop}{P:Program}{N:Nat}{w0 w w':World}{V:Hid}{S S0 S':Nat->Prop}{B:Nat->Prop}{σ σ' τ:St}{a:Act}{F:Nat->L Nat}{ops:Array Oper}{o:Oper}
def Gt{id:Nat}{K:St->Prop}(j:ops.toList.all (gM N)=true)(h:Z5 P ops ops.toList σ K):AW R P N (.region id ops false) (λe σ'=>e=.normal/\K σ') σ:=by
 intro V w0 S0 a w k hi;refine wpIn_region_list ?_;have:∀(l:L Oper)(σ:St)(a:Act)(w:World),l.all (gM N)=true->Z5 P ops l σ K->Inv N V w0 S0 σ a w->
  wpListIn (FW V.rd) 0 P ops (λe b w'=>∃σ',(e=.normal/\K σ')/\kV N V w0 S0 σ' b w') l a w:=by
  intro l
  induction l with
  |nil=>intro σ a w _ hs hi;exact⟨σ,⟨W,hs⟩,hi.x⟩
  |cons o l i=>intro σ a w f hs hi;simp only[ac4,abi]at f;obtain⟨g,r,kG,σ',q,p,n,m⟩:=hs;have:=Du (ops:=ops) (K:=wpListIn (FW V.rd) 0 P ops (λe b w'=>∃σ',(e=.normal/\K σ')/\kV N V w0 S0 σ' b w') l) (Q:=λe b w'=>∃σ',(e=.normal/\K σ')/\kV N V w0 S0 σ' b w') k.2 hi f.1 q n p λb w' d=>i σ' b w' f.2 m d;unfold wpListIn;split;rename_i c;rw[aas c]at this;exact this;rename_i c;rw[aaq c]at this;exact⟨λ_ _=>trivial,this⟩
 grind
def uK.spec:∀(l:L Oper)(σ:St)(d:L (L Nat×L Nat))(K:L (L Nat×L Nat)->St->Prop),uK P ops l σ d K->
 ∃(b:Nat->St)(rs:Nat->Ask)(c:Nat->L Mv)(kG:Nat->L Ob)(R:L (L Nat×L Nat)),b 0=σ/\R.length=l.length/\K (d.reverse++R) (b l.length)/\
  ∀k o,l[k]?=some o->fD P (b k) ops o (rs k)=some (c k,kG k)/\(∀ob∈kG k,ob.ok P)/\Mv.runs (b k) (c k)=some (b<|k+1)/\R[k]?=some (iP (b k) ops o,bp<|c k)
 |[],σ,d,K,h=>⟨λ_=>σ,λ_=>.Uo .dead,λ_=>[],λ_=>[],[],W,W,by simpa[uK]using h,I⟩
 |o::l,σ,d,K,h=>by
  obtain⟨e,f,ob,σ',p,n,m,g⟩:=h;obtain⟨b,rs,c,kG,R,r,j,i,q⟩:=uK.spec l σ' _ K g;refine⟨λk=>match k with|0=>σ|k+1=>b k,λk=>match k with|0=>e|k+1=>rs k,λk=>match k with|0=>f|k+1=>c k,λk=>match k with|0=>ob|k+1=>kG k,(iP σ ops o,bp f)::R,W,by simp[j],by simpa using i,?_⟩
  grind
def yf:∀(l:L Oper)(b:L Nat),∃r,ue l b=b++r/\r.length=l.length
 |[],b=>⟨[],by simp[ue],W⟩
 |o::l,b=>by obtain⟨r,d,c⟩:=yf l<|b++[DP b o];exact⟨DP b o::r,by simp[ue,d],by simp[c]⟩
def Hx:∀(l:L Oper)(b:L Nat)(k:Nat)(o:Oper),l[k]?=some o->(ue l b)[b.length+k]?=some (DP ((ue l b).take<|b.length+k) o)
 |[],b,k,o,h=>by cases h
 |o::l,b,0,o',h=>by simp at h;subst h;obtain⟨r,c,d⟩:=yf l<|b++[DP b o];simp[ue,c]
 |o::l,b,k+1,o',h=>by have:=Hx l (b++[DP b o]) k o' h;simp at this;rw[show b.length+(k+1)=b.length+1+k from E];exact this
def SL{b:L Nat}{i:Nat}(h:(DP b o).testBit i=true):∃e∈o.after,Region.binds .any e=true/\(i=e.on\/(b.getD e.on 0).testBit i=true):=by
 have gen:∀(l:L Edge)(m:Nat),(l.foldl (λm e=>if Region.binds .any e then m|||(b.getD e.on 0)|||(1<<<e.on)else m) m).testBit i=true->
  m.testBit i=true\/∃e∈l,Region.binds .any e=true/\(i=e.on\/(b.getD e.on 0).testBit i=true):=by
  intro l
  induction l with
  |nil=>intro m h;exact .inl h
  |cons e l c=>
   intro m h;rw[aeC]at h;rcases c _ h with h|⟨j,g,f⟩;split at h;rename_i d;rw[Nat.testBit_or,Nat.testBit_or,agK,agK]at h;rcases h with(h|h)|h;exact .inl h;simp_all;refine .inr ⟨e,I,d,.inl ?_⟩;rw[Nat.one_shiftLeft,Nat.testBit_two_pow]at h;simp_all;exact .inl h
   grind
 rcases gen _ 0 h with h|⟨e,g,f⟩;simp at h
 grind
def lU{l:List Oper}{L:Nat->Prop}(q:∀j o,L j->l[j]?=some o->∀e∈o.after,Region.binds .any e=true->L e.on):
 ∀(j:Nat)(o:Oper),l[j]?=some o->(∀e∈o.after,Region.binds .any e=true->L e.on)->∀i,((ue l []).getD j 0).testBit i=true->L i:=by
 intro j
 induction j using Nat.strongRecOn with
 |ind j m=>intro o h n i hi;have k:=Hx l [] j o h;simp at k;rw[acO,k]at hi;obtain⟨e,s,r,c⟩:=SL hi;rcases c with rfl|c;simp_all;rw[acO,af6]at c;split at c;rename_i d;have p:=(agn.1 h).1;have b:e.on<l.length:=E;refine m e.on d _ (acL b) (λt f g=>q e.on _ (n e s r) (acL b) t f g) i ?_;simp_all;simp at c
end
section
variable{R:Q Nat->Prop}{P:Program}{N:Nat}{w0 w w':World}{V:Hid}{S S0 S':Nat->Prop}{σ σ' τ:St}{a:Act}{ops:Array Oper}{o:Oper}
section
variable{j n s:Nat}{L:Nat->Bool}{mss:Nat->List Mv}
def merge(b:Nat->St)(mss:Nat->List Mv)(L:Nat->Bool)(s:Nat):Nat->Sl
 |0=>b 0 s
 |k+1=>if L k=true/\s∈bp (mss k)then b (k+1) s else merge b mss L s k
def DN{b:Nat->St}(e:∀k,k<n->Mv.runs (b k) (mss k)=some (b<|k+1))(g:j<=n)
 (h:∀i,i<n->s∈bp (mss i)->(i<j->L i=true)/\(j<=i->L i=false)):merge b mss L s n=b j s:=by
 have m:∀k,k<=j->merge b mss L s k=b k s:=by
  intro k
  induction k with
  |zero=>intro _;rfl
  |succ k d=>
   intro f;unfold merge;by_cases hs:s∈bp (mss k)
   grind
   rw[aaq λhh=>hs hh.2,d E,wg (e k E) hs]
 have l:∀k,j<=k->k<=n->merge b mss L s k=b j s:=by
  intro k
  induction k with
  |zero=>simp_all
  |succ k d=>
   intro f hn;by_cases c:j=k+1;subst c;simp_all;unfold merge
   grind
 simp_all
def Hu{b:Nat->St}{mss:Nat->List Mv}{L c:Nat->Bool}{s:Nat}{j:Nat}(d:∀i,i≠j->c i=L i)(hs:s∉bp (mss j)):∀n,merge b mss c s n=merge b mss L s n
 |0=>rfl
 |n+1=>by
  unfold merge;rw[Hu d hs n]
  grind
def OK{c:Nat->St}(f:∀k,k<n->Mv.runs (c k) (mss k)=some (c<|k+1))(m:j<=n)
 (h:∀i,i<n->s∈bp (mss i)->((i<j->L i=true)/\(j<=i->L i=false))\/tw (c (i+1) s)=tw (c i s))
 (l:∀i k,i<k->k<n->s∈bp (mss i)->s∈bp (mss k)->L k=true->L i=true):tw (merge c mss L s n)=tw (c j s):=by
 have r:∀k,k<=j->tw (merge c mss L s k)=tw (c k s):=by
  intro k
  induction k with
  |zero=>intro _;rfl
  |succ k e=>
   intro g;unfold merge;by_cases hc:L k=true/\s∈bp (mss k);rw[aas hc];rw[aaq hc,e E];by_cases hs:s∈bp (mss k)
   grind
   rw[wg (f k E) hs]
 have p:∀k,j<=k->k<=n->(∀i,j<=i->i<k->s∈bp (mss i)->tw (c (i+1) s)=tw (c i s))->tw (c k s)=tw (c j s):=by
  intro k
  induction k with
  |zero=>simp_all
  |succ k e=>
   intro g hn hh;by_cases d:j=k+1;subst d;rfl;rw[<-e E E λi a b=>hh i a E];by_cases hs:s∈bp (mss k)
   grind
   rw[wg (f k E) hs]
 have q:∀k,j<=k->k<=n->tw (merge c mss L s k)=tw (c j s):=by
  intro k
  induction k with
  |zero=>simp_all
  |succ k e=>
   intro g hn;by_cases d:j=k+1;subst d;simp_all;unfold merge
   grind
 simp_all
def O0{x y:List Nat×List Nat}(h:indep x y=true):(∀s∈x.2,3*s∉y.1/\s∉y.2/\(3*s+1∈y.1->3*s+2∈x.1))/\∀s∈y.2,3*s∉x.1/\(3*s+1∈x.1->3*s+2∈y.1):=by
 unfold indep at h
 grind
def HN{P:Program}{σ σ':St}{ops:Array Oper}{o:Oper}{b:Ask}{c:List Mv}{kG:List Ob}(h:3*s+2∈iP σ ops o)(hm:fD P σ ops o b=some (c,kG))(d:Mv.runs σ c=some σ'):tw (σ' s)=tw (σ s):=by
 unfold iP at h;split at h
 grind
 simp at h;rcases h with⟨x,_,h⟩|h;omega;split at h;rename_i r e;simp at h;have:s=r:=E;subst this;exact YB e hm d;cases h
structure Told(P:Program)(N:Nat)(ops:Array Oper)(σs:Nat->St)(mss:Nat->List Mv):Prop where
 flat:∀(k:Nat)(o:Oper),ops[k]?=some o->gM N o=true
 step:∀(k:Nat)(o:Oper),ops[k]?=some o->Mv.runs (σs k) (mss k)=some (σs<|k+1)/\∃res kG,fD P (σs k) ops o res=some (mss k,kG)/\∀ob∈kG,ob.ok P
 low:∀(k:Nat)(o:Oper),ops[k]?=some o->∀e∈o.after,Region.binds .any e=true->e.on<k
 ord:∀(i j:Nat)(oi oj:Oper),i<j->ops[i]?=some oi->ops[j]?=some oj->((ue ops.toList []).getD j 0).testBit i=true\/
  ((∀s∈bp (mss i),3*s∉iP (σs j) ops oj/\s∉bp (mss j)/\(3*s+1∈iP (σs j) ops oj->tw (σs (i+1) s)=tw (σs i s)))/\∀s∈bp (mss j),3*s∉iP (σs i) ops oi/\(3*s+1∈iP (σs i) ops oi->tw (σs (j+1) s)=tw (σs j s)))
def NP{c:Nat->St}(hG:lE P V w0)(T:Told P N ops c mss){Q:Exit->Act->World->Prop}(hQ:∀a w,Inv N V w0 S0 (c ops.size) a w->Q .normal a w):
 ∀(g:Nat)(b:Array Bool)(f:List Nat)(τ:St)(a:Act)(w:World),b.size=ops.size->f.length<=g->f.Nodup->(∀i,i<ops.size->b.getD i true=false->i∈f)->
  (∀(j:Nat)(o:Oper),b.getD j false=true->ops[j]?=some o->∀e∈o.after,Region.binds .any e=true->b.getD e.on false=true)->
  (∀s,τ s=merge c mss (λi=>b.getD i false) s ops.size)->Inv N V w0 S0 τ a w->wpAnyIn (FW V.rd) 0 P .any ops Q g b a w:=by
 have hr:∀k,k<ops.size->Mv.runs (c k) (mss k)=some (c<|k+1):=λk H=>(T.step k _<|aev H).1;have t:∀(b:Array Bool)(τ:St)(a:Act)(w:World),b.size=ops.size->(∀s,τ s=merge c mss (λi=>b.getD i false) s ops.size)->Inv N V w0 S0 τ a w->
  Region.ready .any ops b=[]->Q .normal a w:=by
  intro b τ a w q l hi C;have Z:∀i,i<ops.size->b.getD i false=true:=by
   intro i
   induction i using Nat.strongRecOn with
   |ind i ih=>
    intro m;cases hl:b.getD i false with
    |true=>rfl
    |false=>
     have:i∈Region.ready .any ops b:=mem_ready.2 ⟨?_,ops[i],aev m,λe he A=>?_⟩;simp_all;simp_all;have:=T.low i _ (aev m) e he A
     grind
  refine hQ a w ?_;have:τ=c ops.size:=funext λs=>by rw[l s,DN hr (aaU _) λi hi _=>⟨λ_=>Z i hi,λh=>E⟩]
  rw[<-this];exact hi
 intro g
 induction g with
 |zero=>
  intro b f τ a w q O M B u l hi;have C:Region.ready .any ops b=[]:=by
   cases hh:Region.ready .any ops b with
   |nil=>rfl
   |cons j _=>
    have:j∈Region.ready .any ops b:=by rw[hh];simp
    obtain⟨h1,o,h2,-⟩:=mem_ready.1 this
    grind
  exact⟨C,t b τ a w q l hi C⟩
 |succ g ih=>
  intro b f τ a w q O M B u l hi;refine⟨t b τ a w q l hi,λj hj=>?_⟩;obtain⟨hl,o,v,z⟩:=mem_ready.1 hj;have G0:j<ops.size:=(afR.1 v).1;have G2:b.getD j false=false:=fP;have p:∀(k:Nat)(o:Oper),b.getD k false=true->ops.toList[k]?=some o->∀e∈o.after,Region.binds .any e=true->b.getD e.on false=true:=λk o h1 h2=>u k o h1 (by simpa using h2)
  have B0:∀s,3*s∈iP (c j) ops o\/s∈bp (mss j)->∀i,i<ops.size->i≠j->s∈bp (mss i)->(i<j->b.getD i false=true)/\(j<=i->b.getD i false=false):=by
   intro s hs i d r H;refine⟨λm=>?_,λG3=>?_⟩;rcases T.ord i j _ o m (aev d) v with h|⟨h,-⟩;exact lU (L:=λk=>b.getD k false=true) p j o (by simpa using v) z i h;simp_all;have m:j<i:=E;rcases T.ord j i o _ m v (aev d)with h|⟨h1,h2⟩;cases F:b.getD i false with
   |false=>rfl
   |true=>have:=lU (L:=λk=>b.getD k false=true) p i _ I (λe he A=>u i _ F (aev d) e he A) j h;simp_all
   simp_all
  have A0:∀s,3*s∈iP (c j) ops o\/s∈bp (mss j)->τ s=c j s:=by
   intro s hs;rw[l s];refine DN hr E λi d H=>?_
   grind
  have F3:∀s,3*s+1∈iP (c j) ops o->tw (τ s)=tw (c j s):=by
   intro s hs;rw[l s];refine OK hr E (λi d H=>?_) λi k F2 X G6 G4 F1=>?_;by_cases r:i=j;simp_all;by_cases m:i<j;rcases T.ord i j _ o m (aev d) v with h|⟨h,-⟩;exact .inl ⟨λ_=>lU (L:=λk=>b.getD k false=true) p j o (by simpa using v) z i h,λh=>E⟩;simp_all;rcases T.ord j i o _ E v (aev d)with h|⟨-,h⟩;refine .inl ⟨λh=>E,λ_=>?_⟩;cases F:b.getD i false with
   |false=>rfl
   |true=>have:=lU (L:=λk=>b.getD k false=true) p i _ I (λe he A=>u i _ F (aev d) e he A) j h;simp_all
   simp_all;rcases T.ord i k _ _ F2 (aev E) (aev X)with h|⟨h,-⟩;exact lU (L:=λk=>b.getD k false=true) p k _ I (λe he A=>u k _ F1 (aev X) e he A) i h;simp_all
  obtain⟨J,E2,kG,D,x⟩:=T.step j o v;have y:fD P τ ops o E2=some (mss j,kG):=by rw[Lg (λs hs=>A0 s<|.inl hs) F3];exact D
  obtain⟨E1,r1,r2,r3⟩:=rS (mss j) (τ:=τ) (λs hs=>A0 s<|.inr hs) J;unfold wpOpIn;rw[v];have key:=Du (ops:=ops) (o:=o) (K:=wpAnyIn (FW V.rd) 0 P .any ops Q g<|b.setIfInBounds j true) (Q:=Q) hG hi (T.flat j o v) y r1 x ?_;show if _ then _ else _;split;rename_i hw;rw[aas hw]at key;exact key;rename_i hw;rw[aaq hw]at key;exact⟨λ_ _=>trivial,key⟩;intro a' w' d;have F0:∀i,i≠j->(b.setIfInBounds j true).getD i false=b.getD i false:=λi r=>getD_set_ne false λe=>r e.symm;have F4:(b.setIfInBounds j true).getD j false=true:=fP;refine ih _ (f.erase j) E1 a' w' (by simpa using q) ?_ (M.erase j) (λi Y hh=>?_) (λk o' H G1 e he A=>?_) (λs=>?_) d;simp_all
  grind
  by_cases G5:k=j
  grind
  grind
  by_cases hs:s∈bp (mss j);rw[r2 s hs];symm;refine DN hr E λi Y H=>?_
  grind
  rw[r3 s hs,l s];exact(Hu (λi r=>F0 i r) hs _).symm
def aU.drew{B:Nat->Prop}{F:Nat->List Nat}{T:Nat->Value}(h:aU S B σ T w F):aU S B σ T {w with drawn:=w.drawn+1} F:=
 h.step (w':={w with drawn:=w.drawn+1}) (S':=S) ⟨λ_=>.refl,λ_=>.refl,λ_ _=>rfl,λ_ _ _=>⟨λ_ y b=>⟨y,b⟩,λ_ _=>rfl⟩⟩ (λ_ h=>h)
  (λ_=>.inl ⟨W,W,W,λ_ _=>rfl⟩) h.nodup h.di h.own h.shr
def Inv.drew(h:Inv N V w0 S0 σ a w):Inv N V w0 S0 σ a {w with drawn:=w.drawn+1}:=by obtain⟨S,F,hc,f,e,d,c,b⟩:=h;exact⟨S,F,hc.drew,f,e,d,c,⟨b.os,b.tape,b.output,b.size,b.block⟩⟩
def Gu{id:Nat}{K:St->Prop}(hm:P.follows .mixedOrders=true)(T:ops.toList.all (gM N)=true)(b:lower ops.toList=true){y:List Nat}(r:ue ops.toList []=y)
 (h:uK P ops ops.toList σ [] λl σ'=>apart y l ops.size=true/\K σ'):AW R P N (.region id ops true) (λe σ'=>e=.normal/\K σ') σ:=by
 intro V w0 S0 a w Y hi;refine wpIn_region_any hm ?_;obtain⟨c,rs,mss,kG,R,e0,e1,⟨B,A⟩,p⟩:=uK.spec _ _ _ _ h;simp at e1 B A;have X:Told P N ops c mss:=by
  refine⟨λk o q=>?_,λk o q=>?_,λk o q e he hb=>?_,λi j x v u m d=>?_⟩
  grind
  grind
  unfold lower at b;have O:=(afR.1 q).1;have:=acZ.1 b k (by simpa using O)
  grind
  have t:=(afR.1 d).1;have Z:=acZ.1 B j (by simpa using t);have g:=acZ.1 Z i (by simpa using u);obtain⟨-,-,-,r1⟩:=p i x (by simpa using m);obtain⟨-,-,-,F⟩:=p j v (by simpa using d);rw[agK]at g;rw[r];rcases g with g|g;exact .inl g;rw[acO,acO,r1,F]at g;obtain⟨i1,z⟩:=O0 g;obtain⟨J,-,H,-⟩:=p i x (by simpa using m);obtain⟨D,-,C,-⟩:=p j v (by simpa using d);exact .inr ⟨λs hs=>⟨(i1 s hs).1,(i1 s hs).2.1,λh=>HN ((i1 s hs).2.2 h) J H⟩,λs hs=>⟨(z s hs).1,λh=>HN ((z s hs).2 h) D C⟩⟩
 refine NP (w0:=w0) (S0:=S0) Y.2 X (λa' w' f=>⟨_,⟨W,A⟩,f.x⟩) ops.size _ (List.range ops.size) σ a _ I I List.nodup_range (λi f _=>by simpa using f) (λj o t=>?_) (λs=>?_) hi.drew;simp[Array.getD]at t;have:∀n,merge c mss (λi=>(Array.replicate ops.size false).getD i false) s n=c 0 s:=by
  intro n
  induction n with
  |zero=>rfl
  |succ n M=>unfold merge;rw[aaq λhh=>?_,M];have:=hh.1;simp[Array.getD]at this
 rw[this,e0]
end
end
section
variable{R:Option Nat->Prop}{P:Program}{N:Nat}{w0 w w':World}{V:Hid}{S S0 S':Nat->Prop}{σ σ' τ:St}{a:Act}{Q Q':Exit->St->Prop}
section
variable{c:Code}{b:Frame}{f:FuncId}{ds:L Deferred}{k:L Item}{n:Nat}{F:Nat->L Nat}
def kW{P:Program}{a:Act}{cs:L Frame}{w:World}:step P (lone (b.atR a<|.code (.scope c)::k) cs w)=.next (lone (b.atR a<|.code c::.inScope c::k) cs w):=step_lone_go fQ
def FN{P:Program}{a:Act}{cs:L Frame}{w:World}:step P (lone (b.atR a<|.inScope c::k) cs w)=.next (lone (b.atR a k) cs w):=step_lone_go fQ
def vm{F:Fence}{P:Program}{Q:Exit->Act->World->Prop}{a:Act}{w:World}(h:c.wpIn F n P (Exit.noGoto Q) a w):(Code.scope c).wpIn F n P Q a w:=by
 intro b k v p t r;have m:(lone (b.atR a<|.code (.scope c)::k) v w).fenced P F:=fenced_calm t r W;obtain⟨e,i,g,j,d⟩:=h b (.inScope c::k) v p t r;cases e with
 |normal=>exact⟨.normal,i,g,j,.head m kW<|StepsIn.trans d<|.one (fenced_calm t r W) FN⟩
 |exit id=>
  have u:exitTo id (.inScope c::k)=exitTo id k:=by simp[exitTo]
  exact⟨.exit id,i,g,j,λx s=>.head m kW<|d.1 x<|by rw[u];exact s,λq s=>let⟨o,z,y⟩:=d.2 q (by rw[u];exact s);⟨o,z,.head m kW y⟩⟩
 |goto l=>exact j.elim
 |ret=>exact⟨_,i,g,j,.of_steps (.one m kW) d⟩
 |panic A=>exact⟨_,i,g,j,.of_steps (.one m kW) d⟩
 |outgrown=>exact⟨_,i,g,j,.of_steps (.one m kW) d⟩
def jY(h:AW R P N c Q σ)(d:∀e σ',Q e σ'->Q' e σ'):AW R P N c Q' σ:=λV w0 S0 a w g hi=>wpIn_mono (h V w0 S0 a w g hi) λ_ _ _⟨σ',j,i⟩=>⟨σ',d _ _ j,i⟩
def ac0(R:Option Nat->Prop)(P:Program)(N:Nat)(c:Code)(Q:Exit->St->Prop):Exit->St->Prop
 |.normal,σ=>AW R P N c Q σ
 |e,σ=>Q e σ
def W6{x y:Code}(h:AW R P N x (ac0 R P N y Q) σ):AW R P N (.seq x y) Q σ:=λV w0 S0 a w d hi=>
 wpIn_seq (wpIn_mono (h V w0 S0 a w d hi) λe j w'⟨σ',i,g⟩=>by
  cases e with
  |normal=>exact i.x d g
  |_=>exact⟨σ',i,g⟩)
def Z0(h:Q .normal σ):AW R P N .skip Q σ:=λ_ _ _ _ _ _ hi=>wpIn_skip ⟨σ,h,hi.x⟩
def W9{l:Nat}(h:Q .normal σ):AW R P N (.label l) Q σ:=λ_ _ _ _ _ _ hi=>wpIn_label ⟨σ,h,hi.x⟩
def Z2{id:Nat}(h:Q (.exit id) σ):AW R P N (.exit id) Q σ:=λ_ _ _ _ _ _ hi=>wpIn_exit ⟨σ,h,hi.x⟩
def acw(h:Q .ret σ):AW R P N .ret Q σ:=λ_ _ _ _ _ _ hi=>wpIn_ret ⟨σ,h,hi.x⟩
def J8{c:Operand}{x y:Code}{t:Bool}(e:aO c=true)(hc:(resolve σ c).cont=some (.v<|.bool t))(h:AW R P N (if t then x else y) Q σ):AW R P N (.cond c x y) Q σ:=λV w0 S0 a w g hi=>wpIn_cond (t:=t) (by obtain⟨S,F,d,-⟩:=id hi;exact dJ d c e hc)<|h V w0 S0 a w g hi
def Mb(id:Nat)(Q:Exit->St->Prop):Exit->St->Prop
 |.exit d,σ=>if d=id then Q .normal σ else Q (.exit d) σ
 |e,σ=>Q e σ
def Xa{id:Nat}{c:Code}(h:AW R P N c (Mb id Q) σ):AW R P N (.block id c) Q σ:=λV w0 S0 a w i hi=>
 wpIn_block (wpIn_mono (h V w0 S0 a w i hi) λe l w'⟨σ',d,j⟩=>by
  cases e with
  |exit g=>
   simp[Exit.inBlock,Mb]at d⊢
   grind
  |_=>exact⟨σ',d,j⟩)
def YN(Q:Exit->St->Prop):Exit->St->Prop
 |.goto _,_=>False
 |e,σ=>Q e σ
def W7{c:Code}(h:AW R P N c (YN Q) σ):AW R P N (.scope c) Q σ:=λV w0 S0 a w g hi=>
 vm (wpIn_mono (h V w0 S0 a w g hi) λe j w'⟨σ',d,i⟩=>by
  cases e with
  |goto l=>exact d
  |_=>exact⟨σ',d,i⟩)
def abn(d:Nat->St->Prop)(n:Nat)(Q:Exit->St->Prop):Exit->St->Prop
 |.normal,σ=>∃m,m<n/\d m σ
 |e,σ=>Q e σ
def Z1(d:Nat->St->Prop)(M:d n σ)(round:∀n σ,d n σ->AW R P N c (abn d n Q) σ):AW R P N (.loop c) Q σ:=by
 intro V w0 S0 a w J hi b k D z C A;have key:∀n σ a w,d n σ->kV N V w0 S0 σ a w->
  ∃e y w',(∃σ',Q e σ'/\kV N V w0 S0 σ' y w')/\ArrivesIn (Machine.fenced P<|FW V.rd) P (lone (b.atR a<|.code c::.inLoop c::k) D w) b k D e y w':=by
  intro n
  induction n using Nat.strongRecOn with
  |_ n H=>
   intro σ a w K hi;obtain⟨e,o,j,⟨g,q,h⟩,i⟩:=(round n σ K).x J hi b (.inLoop c::k) D z C A;cases e with
   |normal=>obtain⟨m,B,s⟩:=q;obtain⟨u,v,t,r,p⟩:=H m B g o j s h;exact⟨u,v,t,r,.of_steps (StepsIn.trans i<|.one (fenced_calm C A W) stepR_inLoop) p⟩
   |exit id=>exact⟨_,o,j,⟨g,q,h⟩,.pass (x:=.inLoop c) W (λ_ _=>.inl I) i⟩
   |goto l=>exact⟨_,o,j,⟨g,q,h⟩,.pass (x:=.inLoop c) W (λ_ _=>.inl I) i⟩
   |ret=>exact⟨_,o,j,⟨g,q,h⟩,.pass (x:=.inLoop c) W (λ_ _=>.inl I) i⟩
   |panic O=>exact⟨_,o,j,⟨g,q,h⟩,.pass (x:=.inLoop c) W (λ_ _=>.inl I) i⟩
   |outgrown=>exact⟨_,o,j,⟨g,q,h⟩,.pass (x:=.inLoop c) W (λ_ _=>.inl I) i⟩
 obtain⟨e,y,w',q,i⟩:=key n σ a w M hi.x;exact⟨e,y,w',q,.of_steps (.one (fenced_calm C A W) stepR_loop) i⟩
def Cells.get:∀{xs:L AV}{d:L Value}{F:L Nat}(i:Nat),Cells w S false xs d F->F=[]->match xs[i]?with|some x=>∃v,d[i]?=some v/\Rel w S x v []|none=>True
 |[],d,F,i,h,_=>I
 |x::xs,d,F,i,h,e=>by
  obtain⟨y,j,p,o,rfl,rfl,m,l,g⟩:=h;obtain⟨rfl,rfl⟩:=aga.1 e;cases i with
  |zero=>simp_all
  |succ i=>simpa using Cells.get i g W
def S6{args:L AV}{d:L Value}(m:V.df=[])(o:∀b,S b->b<w.heap.size)(hc:Cells w S false args d [])(p:d.length<=N):
 Inv N V w S (mk<|entry 0 args) {tmps:=d.toArray++Array.replicate (N-d.toArray.size) undef,defers:=[]} w:=by
 refine⟨S,λ_=>[],⟨λi=>?_,λ_=>acP,I,I,o⟩,by simp;omega,m.symm,λ_ h=>h,λ_ h=>.inl h,mb.refl _ _⟩;have j:=Cells.get i hc W;have he:=rb args 0 i;simp at he;cases e:args[i]?with
 |none=>rw[e]at he;rw[an.aC<|by rw[he];rfl,he];simp[Rel]
 |some x=>
  rw[e]at he j;obtain⟨v,l,g⟩:=j;rw[an.aC<|by rw[he];exact g.plain,he];have:tv V {tmps:=d.toArray++Array.replicate (N-d.toArray.size) undef,defers:=[]} i=v:=by
   have hi:=(agn.1 l).1;rw[xf V _<|.inr<|by simp;omega];simp
   grind
  rw[this];exact g
def jC(P:Program)(σ:St):L ResultVar->Option (L AV)
 |[]=>some []
 |.tmp t::rs=>if(σ t).av.plain then match jC P σ rs with
   |some xs=>some ((σ t).av::xs)
   |none=>none
  else none
 |.cell t ty::rs=>match(σ t).av with
  |.box true x=>match ct P ty with
   |some ti=>if fits ti x then match jC P σ rs with
     |some xs=>some (x::xs)
     |none=>none
    else none
   |none=>none
  |_=>none
def lQ:ResultVar->Nat
 |.tmp t=>t
 |.cell t _=>t
def fh:L ResultVar->L Nat->Bool
 |[],_=>true
 |r::rs,d=>(!d.contains (lQ r)&&Nat.blt (lQ r) 1000000)&&fh rs (lQ r::d)
def tN(xs:L AV):AV:=match xs with|[x]=>x|xs=>.bU xs
def xZ(ys:Array Value):Value:=if h:ys.size=1 then ys[0]else .tuple ys
def CC(d:Array Value):ResultVar->Sem Value
 |.tmp t=>pure (d.getD t undef)
 |.cell a t=>do loadVar t (←asAddr (d.getD a undef))
def De(fn:Func)(d:Array Value):results fn d=(do let e←fn.results.mapM (CC d);pure (xZ e)):=by congr 1
def rV{F:Nat->L Nat}{B:Nat->Prop}(h:aU S B σ (tv V a) w F):∀(rs:L ResultVar)(m:L Nat){xs:L AV},fh rs m=true->jC P σ rs=some xs->
 ∃H F',(rs.mapM<|CC a.tmps).run P w=.ok H w/\Cells w S false xs H F'/\F'.Nodup/\∀b∈F',∃i,i∉m/\i<1000000/\b∈F i
 |[],m,xs,_,d=>by simp[jC,aaP]at d;subst d;exact⟨[],[],I,by simp[Cells],I,I⟩
 |r::rs,m,xs,o,d=>by
  simp only[fh,abi,af8,List.contains_eq_mem,decide_eq_false_iff_not]at o;have q:lQ r<1000000:=acR (show Nat.ble (lQ r+1) 1000000=true from o.1.2)
  replace o:lQ r∉m/\fh rs (lQ r::m)=true:=⟨o.1.1,o.2⟩
  have key:∃y g v D,jC P σ rs=some g/\xs=y::g/\(CC a.tmps r).run P w=.ok v w/\Rel w S y v D/\D.Nodup/\∀b∈D,b∈F (lQ r):=by
   cases r with
   |tmp t=>
    simp only[jC]at d;split at d<;>try(cases d;done)
    rename_i hp;split at d<;>try(cases d;done)
    rename_i g l;cases d;have s:=h.rel t;rw[an.aC hp]at s;exact⟨_,g,tv V a t,F t,l,W,by rw[xf V a (i:=t)<|.inl q];rfl,s,h.nodup t,λb O=>O⟩
   |cell t ty=>
    simp[jC]at d;split at d<;>try(cases d;done)
    rename_i x C;split at d<;>try(cases d;done)
    rename_i ti J;split at d<;>try(cases d;done)
    rename_i A;split at d<;>try(cases d;done)
    rename_i g l;cases d;have s:=h.rel t;rw[an.aC<|by rw[C];rfl,C]at s;obtain⟨b,cs,fz,F',z,e1,e2,Z,e4,e5,e6⟩:=s;refine⟨x,g,z,F',l,W,?_,Z,?_,?_⟩;have p:a.tmps.getD t undef=.pointer (some ⟨b,0,none⟩):=(xf V a (i:=t)<|.inl q).symm.trans e1;have T:At w ⟨b,0,none⟩ z:=⟨W,cs,fz,e2,λj u hu=>fP⟩;simp only[CC,p];simp[Sem.run_bind];have:(asAddr<|.pointer<|some ⟨b,0,none⟩).run P w=.ok ⟨b,0,none⟩ w:=W;rw[this];exact gw J T<|ky A Z;have:=h.nodup t;simp_all;intro c hc;simp only[lQ,e6];simp_all
  obtain⟨y,g,v,D,l,rfl,X,Y,K,hF⟩:=key;obtain⟨H,F',k1,k2,k3,k4⟩:=rV h rs (lQ r::m) o.2 l;refine⟨v::H,D++F',?_,?_,?_,?_⟩;simp_all;simp only[Cells]
  grind
  rw[acH];refine⟨K,k3,λb O c hc e=>?_⟩;subst e;obtain⟨i,hi,-,M⟩:=k4 b hc;exact h.di (lQ r) i (λe=>hi<|by simp[e]) b (hF b O) M
  grind
def uN(x y:AV):Prop:=∀(w:World)(S:Nat->Prop)(v:Value)(F:L Nat),Rel w S x v F->Rel w S y v F
def w9(x y:AV):Prop:=∀(w:World)(S:Nat->Prop)(v:Value)(F:L Nat),Rel w S x v F->∃e d,F.Perm (e++d)/\∀S':Nat->Prop,(∀b,S b->S' b)->(∀b∈d,S' b)->Rel w S' y v e
def w9.of_le{x y:AV}(h:uN x y):w9 x y:=λw S v F d=>⟨F,[],I,λ_ e _=>Rel.mono e y<|h w S v F d⟩
def w9.share(x:AV):w9 x x.cC:=λw S v F d=>⟨[],F,I,λ_ e g=>Rel.share e x d g⟩
def ad4(P:Program)(rs:L ResultVar)(r:AV):Exit->St->Prop
 |.normal,σ=>∃xs,jC P σ rs=some xs/\w9 (tN xs) r
 |.ret,σ=>∃xs,jC P σ rs=some xs/\w9 (tN xs) r
 |_,_=>False
def qD.lS{fn:Func}{d:Array Value}{R:Value->World->Prop}(j:P.funcs[f]?=some fn)(p:fn.body.isNone=false)(hn:(fn.name== "runtime.NumGoroutine")=false)
 (h:Calls P f d w λe w'=>∃v,e=.returned v/\R v w'):qD P f d w R:=by
 intro rd o a next Q q
 have:(callFunc f d).run P w=.ok (.enter f d) w:=by
  have g:¬fn.name= "runtime.NumGoroutine":=by simpa using hn
  have i:¬fn.body=none:=by grind
  unfold callFunc;simp[j,i,g]
 rw[this];refine⟨(λh=>by cases h),PC ?_⟩;intro l;obtain⟨e,w',s,⟨v,rfl,m⟩,r⟩:=h l
 grind
def Vj:Hid:={v:=λ_=>undef,g:=λ_=>False}
def DM{w:World}{b:Nat}(h:cK Vj w b):w.heap.size<=b:=h.elim id False.elim
def mb.below{w w':World}(h:mb Vj w w'):Below w.heap.size w w':=⟨h.os,h.tape,h.output,h.size,λk d=>h.block k d id⟩
def Xt(ds:L Deferred)(w w':World):Prop:=w'.os=w.os/\w'.tape=w.tape/\w'.output=w.output/\w'.heap.size=w.heap.size/\∀k,w'.heap[k]?=w.heap[k]?\/({target:=.collected k,args:=#[]}∈ds/\w.heap[k]?=some (.deferred<|some [])/\w'.heap[k]?=some (.deferred none))
def Xt.same{V:Hid}{w w':World}(h:Xt ds w w')(hm:Marks V w0 w S F ds){b:Nat}(d:S b\/∃i,b∈F i):w'.heap[b]?=w.heap[b]?:=by rcases h.2.2.2.2 b with e|⟨e,-,-⟩;exact e;obtain⟨D,g,-,-,k1,k2⟩:=hm.2 _ e;simp_all
def sB{F:Fence}{n:Nat}{fn:Func}{e:Array Value}{R:Ending->World->Prop}:∀(ds:L Deferred)(w:World),ds.Nodup->(∀d∈ds,∃D,d={target:=.collected D,args:=#[]}/\w.heap[D]?=some (.deferred<|some []))->
 (∀w',Xt ds w w'->LeavesInM F n P fn e R [] .returning w')->LeavesInM F n P fn e R ds .returning w
 |[],w,_,_,h=>h w ⟨W,W,W,W,λ_=>.inl W⟩
 |d::ds,w,hn,u,h=>by
  obtain⟨D,rfl,j⟩:=u d I;have i:=(afR.1 j).1;refine⟨I,.inl ⟨D,_,W,run_takeDeferred j,?_⟩⟩;have r:∀k,k≠D->(w.putObj D<|.deferred none).heap[k]?=w.heap[k]?:=λk s=>World.putObj_heap_other s;have g:(w.putObj D<|.deferred none).heap[D]?=some (.deferred none):=World.putObj_heap_same i;rw[ad2]at hn;refine sB ds _ hn.2 (λx t=>?_) λw' q=>h w' ?_
  grind
  obtain⟨p,o,m,l,v⟩:=q;refine⟨p,o,m,by rw[l];simp,λk=>?_⟩
  grind
def aU.shut{V:Hid}{B:Nat->Prop}{T:Nat->Value}(h:aU S B σ T w F)(hm:Marks V w0 w S F ds)(hs:Xt ds w w'):aU S B σ T w' F:=
 h.step (w':=w') (S':=S) ⟨λ_=>.refl,λ_=>.refl,λ_ _=>rfl,λ_ _ _=>⟨λ_ y e=>⟨y,e⟩,λ_ h=>hs.same hm<|h.imp id λh=>⟨_,h⟩⟩⟩ (λ_ h=>h)
  (λ_=>.inl ⟨W,W,W,λ_ h=>hs.same hm<|h.imp id λh=>⟨_,h⟩⟩) h.nodup h.di (λi b d=>by rw[hs.2.2.2.1];exact h.own i b d) (λb d=>by rw[hs.2.2.2.1];exact h.shr b d)
def mb.shut{V:Hid}{S:Nat->Prop}(h:mb V w0 w)(hm:Marks V w0 w S F ds)(hs:Xt ds w w'):mb V w0 w':=by obtain⟨l,j,i,g,d⟩:=hs;refine⟨l.trans h.os,j.trans h.tape,i.trans h.output,by rw[g];exact h.size,λk m o=>?_⟩;rcases d k with e|⟨e,-⟩;rw[e];exact h.block k m o;obtain⟨D,p,-,q,-⟩:=hm.2 _ e;simp at p;omega
def KK{fn:Func}{args:L AV}{r:AV}(hf:P.funcs[f]?=some fn)(g:fn.body=some c)(hn:(fn.name== "runtime.NumGoroutine")=false)(j:args.length<=fn.ntmps)
 (X:fh fn.results.toList []=true)(h:AW R0 P fn.ntmps c (ad4 P fn.results.toList r) (mk<|entry 0 args)):Sound P f args r:=by
 intro w S q hG hS hc;have hl:=Cells.length hc;refine qD.lS hf (by rw[g];rfl) hn<|(callsIn_wide (n:=0)).1<|callsIn_of_wp_marks hf g U<|wpIn_mono (h Vj w S _ w ⟨W,hG,λ_ _ h=>h⟩<|S6 W hS hc E) λe A w1⟨σ',z,S',F,ds,u,hN,m,K,J,Y,hm⟩=>?_;have m:A.defers=ds:=by rw[m];exact afd _
 have gen:(∃l,jC P σ' fn.results.toList=some l/\w9 (tN l) r)->LeavesInM Fence.wide 0 P fn A.tmps (λe w'=>∃v,e=.returned v/\∃S' F,Below w.heap.size w w'/\(∀b,S b->S' b)/\(∀b,S' b->S b\/w.heap.size<=b)/\(∀b,S' b->b<w'.heap.size)/\Rel w' S' r v F/\F.Nodup/\∀b∈F,w.heap.size<=b/\b<w'.heap.size/\¬S' b) A.defers .returning w1:=by
  intro t;rw[m];refine sB ds w1 hm.1 (λd X=>by obtain⟨D,k1,k2,-⟩:=hm.2 d X;exact⟨D,k1,k2⟩) λw' s=>?_;have o:=u.shut hm s;have Z:=Y.shut hm s;have key:(∃l,jC P σ' fn.results.toList=some l/\w9 (tN l) r)->∃v,(results fn A.tmps).run P w'=.ok v w'/\∃v',Ending.returned v=.returned v'/\
   ∃S' F,Below w.heap.size w w'/\(∀b,S b->S' b)/\(∀b,S' b->S b\/w.heap.size<=b)/\(∀b,S' b->b<w'.heap.size)/\Rel w' S' r v' F/\F.Nodup/\∀b∈F,w.heap.size<=b/\b<w'.heap.size/\¬S' b:=by
   rintro⟨l,hx,T⟩;obtain⟨q,B,k1,k2,k3,k4⟩:=rV o _ [] X hx;have A0:∀b∈B,w.heap.size<=b/\b<w'.heap.size/\¬S' b:=λb g=>by obtain⟨i,-,-,hi⟩:=k4 b g;have:=o.own i b hi;exact⟨DM this.1,this.2⟩
   have M:(results fn A.tmps).run P w'=.ok (xZ q.toArray) w':=by rw[De,Array.mapM_eq_mapM_toList];simp_all
   obtain⟨F1,F2,O,hq⟩:=T w' S' (xZ q.toArray) B (by
    generalize C:q.toArray=p;have H:q=p.toList:=by rw[<-C]
    rw[H]at k2;unfold xZ;have j:=Cells.length k2;cases l with
    |nil=>rw[dif_neg fP];exact⟨p,W,k2⟩
    |cons x l=>cases l with
     |nil=>
      have z:p.size=1:=by simpa using j
      rw[dif_pos z];obtain⟨y,l',F1,F2,e1,rfl,-,k5,rfl,rfl⟩:=k2;have:p[0]=y:=by grind
      rw[this];simpa[tN]using k5
     |cons x' l=>rw[dif_neg<|by simp at j;omega];exact⟨p,W,k2⟩)
   have m1:∀b∈F1,b∈B:=λb g=>O.mem_iff.2 (by simp[g]);have m2:∀b∈F2,b∈B:=λb g=>O.mem_iff.2 (by simp[g]);have hn:=acH.1<|O.nodup_iff.1 k3;refine⟨_,M,_,W,λb=>S' b\/b∈F2,F1,Z.below,λb g=>.inl<|K b g,?_,?_,hq _ (λb g=>.inl g) λb g=>.inr g,hn.1,λb g=>?_⟩;rintro b(g|g);exact(J b g).imp id DM;simp_all;rintro b(g|g);exact o.shr b g;simp_all
   grind
  exact key t
 cases e with
 |normal=>exact gen z
 |ret=>exact gen z
 |_=>exact z.elim
end
end
def msE(P:Program)(ops:Array Oper)(σ:St)(o:Oper):Q (L Mv):=
 match fD P σ ops o (.Uo .dead)with
 |some (a,[])=>some a
 |_=>none
def w7{α:Type}(x:Q α)(k:α->Prop):Prop:=∃a,x=some a/\k a
@[simp] theorem TM{α:Type}(a:α)(k:α->Prop):w7 (some a) k=k a:=by simp[w7]
@[simp] theorem acV{α:Type}(k:α->Prop):w7 none k=False:=by simp[w7]
def HI(σ:St)(f:cx)(asx:L cx):Q (FuncId×L AV×L Mv):=
 match f.cont with
 |some (.fn (.func g) first a)=>if bR first&&bR a then match iH asx with
   |some b=>some (g,first++b++a,shares asx)
   |none=>none
  else none
 |_=>none
def A5(d:Q Nat)(a:AV)(sh:L Mv):Q (L Mv):=
 if !a.da then match sh with
  |[]=>some (dz d a [])
  |[m]=>some (dz d a [m])
  |_=>none
 else some (dz d a [])
def yT(o:Oper):Q Call:=
 match o.op with
 |.call c=>match c.callee with
  |.value _=>some c
  |_=>none
 |_=>none
def CT(c:Call):Operand:=match c.callee with|.value f=>f|_=>.global 0
def aaR(P:Program)(h:FuncId×L AV×L Mv)(k:AV->Prop):Prop:=∃r,Sound P h.1 h.2.1 r/\k r
def KV(P:Program)(ops:Array Oper)(o:Oper)(σ:St)(K:L Mv->St->Prop):Prop:=∃b c kG a,fD P σ ops o b=some (c,kG)/\(∀ob∈kG,ob.ok P)/\Mv.runs σ c=some a/\K c a
def rp(P:Program)(ops:Array Oper):L Oper->St->(St->Prop)->Prop
 |[],σ,K=>K σ
 |o::rest,σ,K=>KV P ops o σ λ_ a=>rp P ops rest a K
def qO(P:Program)(ops:Array Oper)(o:Oper)(σ:St)(K:L Mv->St->Prop):Prop:=
 match yT o with
 |some c=>w7 (lJ σ ops o) λb=>match b with
  |true=>w7 (HI σ (resolve σ<|CT c)<|c.args.toList.map<|resolve σ) λh=>aaR P h λr=>w7 (A5 o.dst r h.2.2) λa=>w7 (Mv.runs σ a) (K a)
  |false=>w7 (Mv.runs σ<|Bb o) (K<|Bb o)
 |none=>w7 (msE P ops σ o) λa=>w7 (Mv.runs σ a)<|K a
def rt(P:Program)(ops:Array Oper):L Oper->St->L (L Nat×L Nat)->(L (L Nat×L Nat)->St->Prop)->Prop
 |[],σ,a,K=>K a.reverse σ
 |o::rest,σ,a,K=>KV P ops o σ λc b=>rt P ops rest b ((iP σ ops o,bp c)::a) K
section
variable{R:Q Nat->Prop}{P:Program}{N:Nat}{ops:Array Oper}{σ:St}{o:Oper}{rest:L Oper}{K:St->Prop}
def Ve{c:Call}{a:AV}(hc:yT o=some c):B8 P σ o a=Fh o.dst (resolve σ<|CT c) (c.args.toList.map<|resolve σ) a:=by unfold yT at hc;split at hc;rename_i g cF;split at hc;rename_i f b;cases hc;unfold B8;cases e:o.dst<;>simp[cF,b,CT];cases hc;cases hc
def PD{d:Q Nat}{f:cx}{asx:L cx}{b:AV}{h:FuncId×L AV×L Mv}{e:L Mv}(a:HI σ f asx=some h)(k:A5 d b h.2.2=some e):Fh d f asx b=some (e,[(h.1,h.2.1,b)]):=by
 unfold HI at a;unfold Fh;split at a;rename_i g first c j
 rw[j];simp only;split at a;rename_i hn;rw[aas hn];split at a;rename_i l i;cases a;simp only[i];unfold A5 at k
 grind
 cases a;cases a;cases a
def K5:∀{rest:L Oper}{σ:St}{K:St->Prop},rp P ops rest σ K->Z5 P ops rest σ K
 |[],σ,K,h=>h
 |o::rest,σ,K,h=>by obtain⟨b,c,kG,a,i,g,f,e⟩:=h;exact⟨b,c,kG,a,i,g,f,K5 e⟩
def oT{K:L Mv->St->Prop}(h:qO P ops o σ K):KV P ops o σ K:=by
 unfold qO at h;split at h;rename_i c hc;obtain⟨b,l,h⟩:=h;cases b with
 |true=>obtain⟨k,e,r,hs,j,i,a,f,g⟩:=h;refine⟨.Uo r,j,[.call (k.1,k.2.1,r)],a,?_,by simpa[Ob.ok]using hs,f,g⟩;unfold fD;rw[l];simp[kF];rw[Ve hc,PD e i];rfl
 |false=>obtain⟨a,f,g⟩:=h;exact⟨.Uo .dead,_,[],a,by unfold fD;rw[l],I,f,g⟩
 ·obtain⟨j,e,a,i,f⟩:=h;unfold msE at e;split at e;rename_i m n;cases e;exact⟨.Uo .dead,_,[],a,n,I,i,f⟩;cases e
def KY:∀{rest:L Oper}{σ:St}{a:L (L Nat×L Nat)}{K:L (L Nat×L Nat)->St->Prop},rt P ops rest σ a K->uK P ops rest σ a K
 |[],σ,a,K,h=>h
 |o::rest,σ,a,K,h=>by obtain⟨c,e,kG,b,j,i,g,f⟩:=h;exact⟨c,e,kG,b,j,i,g,KY f⟩
def vq(x:Q (L Mv))(σ:St)(K:L Mv->St->Prop):Prop:=w7 x λa=>w7 (Mv.runs σ a)<|K a
def jb(hc:yT o=none)(b:o.guard=none){m:Q (L Mv)}(hm:∀a,B8 P σ o a=gS m)(K:L Mv->St->Prop):qO P ops o σ K=vq m σ K:=by simp[qO,hc,msE,fD,lJ,b,kF,hm,vq];cases m<;>simp[gS]
end
section
variable{R:Q Nat->Prop}{P:Program}{ops:Array Oper}{o:Oper}{σ:St}{K:L Mv->St->Prop}{d:Nat}{ty:TypeId}{pos:String}{aft:Array Edge}{t t':TypeId}{x y z:Operand}
def abF:qO P ops ⟨some d,.move x,ty,pos,aft,none⟩ σ K=vq (dD d<|resolve σ x) σ K:=jb W W (λ_=>rfl) K
def Vf:qO P ops ⟨some d,.assign x,ty,pos,aft,none⟩ σ K=vq (dT d<|resolve σ x) σ K:=jb W W (λ_=>rfl) K
def abG:qO P ops ⟨some d,.load t x,ty,pos,aft,none⟩ σ K=vq (ug P d t<|resolve σ x) σ K:=jb W W (λ_=>rfl) K
def YG:qO P ops ⟨none,.store t x y,ty,pos,aft,none⟩ σ K=vq (v7 P t (resolve σ x)<|resolve σ y) σ K:=jb W W (λ_=>rfl) K
def Lw{f:Nat}:qO P ops ⟨some d,.fieldAddr t x f,ty,pos,aft,none⟩ σ K=vq (kM P d t (resolve σ x) f) σ K:=jb W W (λ_=>rfl) K
def YJ{f:Nat}:qO P ops ⟨some d,.field t x f,ty,pos,aft,none⟩ σ K=vq (Al P d t (resolve σ x) f) σ K:=jb W W (λ_=>rfl) K
def Lv:qO P ops ⟨some d,.indexAddr t x y,ty,pos,aft,none⟩ σ K=vq (il P d t (resolve σ x)<|resolve σ y) σ K:=jb W W (λ_=>rfl) K
def YI:qO P ops ⟨some d,.index t x y,ty,pos,aft,none⟩ σ K=vq (wJ P d t (resolve σ x)<|resolve σ y) σ K:=jb W W (λ_=>rfl) K
def Sw{i:Nat}:qO P ops ⟨some d,.extract x i,ty,pos,aft,none⟩ σ K=vq (py d (resolve σ x) i) σ K:=jb W W (λ_=>rfl) K
def Sx:qO P ops ⟨some d,.convert t t' x,ty,pos,aft,none⟩ σ K=vq (EY P d t t'<|resolve σ x) σ K:=jb W W (λ_=>rfl) K
def YH{l h m:Q Operand}:qO P ops ⟨some d,.slice t x l h m,ty,pos,aft,none⟩ σ K=vq (rQ P d t (resolve σ x) (l.map<|resolve σ) (h.map<|resolve σ)<|m.map<|resolve σ) σ K:=jb W W (λ_=>rfl) K
def ZW(P:Program)(d:Nat)(op:BinOp)(t:TypeId)(a b:Q AV):Q (L Mv):=
 match a,b with
 |some a,some b=>match nA P op t a b with
  |some v=>some [.put d v]
  |none=>none
 |_,_=>none
def adw{op:BinOp}:qO P ops ⟨some d,.binOp op t x y t',ty,pos,aft,none⟩ σ K=vq (ZW P d op t (resolve σ x).cont (resolve σ y).cont) σ K:=
 jb W W (λc=>by
  simp[B8,ZW];cases(resolve σ x).cont with
  |none=>rfl
  |some a=>cases(resolve σ y).cont with
   |none=>rfl
   |some b=>simp only;cases nA P op t a b<;>rfl) K
def un1(d:Nat)(op:UnOp)(a:Q AV):Q (L Mv):=
 match a with
 |some (.v a)=>match uno op a with
  |some v=>some [.put d<|.v v]
  |none=>none
 |_=>none
def aeZ{op:UnOp}:qO P ops ⟨some d,.unOp op t x,ty,pos,aft,none⟩ σ K=vq (un1 d op (resolve σ x).cont) σ K:=
 jb W W (λb=>by
  simp[B8,un1];cases(resolve σ x).cont with
  |none=>rfl
  |some a=>cases a with
   |v w=>simp only;cases uno op w<;>rfl
   |_=>rfl) K
def aal(d:Nat)(c:Q AV)(x y:cx):Q (L Mv):=
 match c with
 |some (.v<|.bool true)=>dD d x
 |some (.v<|.bool false)=>dD d y
 |_=>none
def abE:qO P ops ⟨some d,.pick x y z,ty,pos,aft,none⟩ σ K=vq (aal d (resolve σ x).cont (resolve σ y)<|resolve σ z) σ K:=
 jb W W (λc=>by
  simp[B8];cases hc:(resolve σ x).cont with
  |none=>rfl
  |some a=>cases a with
   |v w=>cases w with
    |bool b=>cases b<;>rfl
    |_=>rfl
   |_=>rfl) K
def Sy{b:Builtin}{asx:Array Operand}{a:Array TypeId}:qO P ops ⟨some d,.call ⟨.builtin b,asx,a⟩,ty,pos,aft,none⟩ σ K=vq (lG P d b a.toList<|asx.toList.map<|resolve σ) σ K:=jb W W (λ_=>rfl) K
def abH{a:Q Nat}{f:Operand}{asx:Array Operand}{b:Array TypeId}:qO P ops ⟨a,.call ⟨.value f,asx,b⟩,ty,pos,aft,none⟩ σ K=
 w7 (HI σ (resolve σ f)<|asx.toList.map<|resolve σ) λh=>aaR P h λr=>vq (A5 a r h.2.2) σ K:=by
 simp[qO,yT,lJ,CT,vq]
def Zk(d:Nat)(x:Q (AV×L Nat))(f:AV->Q AV):Q (L Mv):=
 match x with
 |some (y,M)=>match f y with
  |some z=>some [.make M d z]
  |none=>none
 |none=>none
def YL:qO P ops ⟨some d,.alloc t,ty,pos,aft,none⟩ σ K=vq (match ct P t with|some ti=>some [.make [] d<|.box true ti.zero]|none=>none) σ K:=jb W W (λa=>by simp[B8];cases ct P t<;>rfl) K
def adv:qO P ops ⟨some d,.box t x,ty,pos,aft,none⟩ σ K=vq (match ct P t with|some ti=>Zk d (eX<|resolve σ x) λy=>if fits ti y then some (.box true y)else none|none=>none) σ K:=
 jb W W (λa=>by
  simp[B8];cases ct P t with
  |none=>rfl
  |some ti=>
   simp[Zk];cases eX (resolve σ x)with
   |none=>rfl
   |some p=>simp only;split<;>rfl) K
def Jf{n:Nat}{a:Array (Nat×Operand)}:qO P ops ⟨some d,.buildSlice t n a,ty,pos,aft,none⟩ σ K=vq (match dO P t with
 |some e=>match ct P e with
  |some ti=>match gU (a.toList.map λp=>resolve σ p.2)with
   |some (ys,M)=>if(a.toList.map (·.1)=List.range n)/\(ys.all<|fits ti)/\n*ti.size<=2^24/\n<=maxLen then some [.make M d<|.list .own ti.size ys]else none
   |none=>none
  |none=>none
 |none=>none) σ K:=
 jb W W (λb=>by
  simp[B8];cases dO P t with
  |none=>rfl
  |some e=>simp only;cases ct P e with
   |none=>rfl
   |some ti=>simp only;cases gU (a.toList.map λp=>resolve σ p.2)with
    |none=>rfl
    |some q=>simp only;split<;>rfl) K
def YK{a:Array (Nat×Operand)}:qO P ops ⟨some d,.build t a,ty,pos,aft,none⟩ σ K=vq (match ct P t with
 |some ti=>match ti.zero with
  |.agg z=>match placesOf P t with
   |some b=>match gU (a.toList.map λp=>resolve σ p.2)with
    |some (ys,M)=>match uq b z ((a.toList.map (·.1)).zip ys)with
     |some cs=>some [.make M d<|.agg cs]
     |none=>none
    |none=>none
   |none=>none
  |_=>none
 |none=>none) σ K:=
 jb W W (λc=>by
  simp[B8];cases ct P t with
  |none=>rfl
  |some ti=>simp only;cases ti.zero with
   |agg z=>simp only;cases placesOf P t with
    |none=>rfl
    |some b=>simp only;cases gU (a.toList.map λp=>resolve σ p.2)with
     |none=>rfl
     |some q=>simp only;cases uq b z ((a.toList.map (·.1)).zip q.1)<;>rfl
   |_=>rfl) K
def m1(x:Q (L Mv×L Obl)):Q (L Mv):=match x with
 |some (a,[])=>some a
 |_=>none
@[simp] theorem adF(x:Option (List Mv)):m1 (gS x)=x:=by cases x<;>rfl
def Oj(hc:yT o=none)(a:o.guard=none)(K:L Mv->St->Prop):qO P ops o σ K=vq (m1<|B8 P σ o .dead) σ K:=by
 have e:msE P ops σ o=m1 (B8 P σ o .dead):=by
  simp[msE,fD,lJ,a,kF];cases B8 P σ o .dead with
  |none=>rfl
  |some q=>obtain⟨b,kG⟩:=q;cases kG<;>rfl
 simp[qO,hc,e,vq]
def Lu:qO P ops ⟨some d,.makeSlice t x y,ty,pos,aft,none⟩ σ K=vq (m1 (match dO P t with
 |some e=>match ct P e with
  |some ti=>match(resolve σ x).cont,(resolve σ y).cont with
   |some (.v<|.int _ a),some (.v<|.int _ b)=>if 0<=a/\a<=b/\b*ti.bytes<=140737488355328/\b<=maxLen/\0<ti.size then
     some ([.make [] d<|.list .own ti.size<|List.replicate a.toNat ti.zero],[])else none
   |_,_=>none
  |none=>none
 |none=>none)) σ K:=Oj W W K
def OB:qO P ops ⟨some d,.nilCheck x,ty,pos,aft,none⟩ σ K=vq (m1 (match(resolve σ x).cont with
 |some (.box _ _)=>gS (dD d<|resolve σ x)
 |some (.fn (.func _) _ _)=>gS (dD d<|resolve σ x)
 |_=>match(resolve σ x).sl.av with
  |.ptr .. =>match(resolve σ x).addr with
   |some _=>gS (dD d<|resolve σ x)
   |none=>none
  |_=>none)) σ K:=Oj W W K
def OC{f:Fn}{a b:Array Operand}:qO P ops ⟨some d,.makeFunc f a b,ty,pos,aft,none⟩ σ K=vq (m1 (match iH (a.toList.map<|resolve σ),iH (b.toList.map<|resolve σ)with
 |some e,some c=>if(shares<|a.toList.map (resolve σ)++b.toList.map (resolve σ)).isEmpty then some ([.put d<|.fn f e c],[])else none
 |_,_=>none)) σ K:=Oj W W K
def Je{a:Q Nat}{op:Op}{j:Nat}{b:Bool}:qO P ops ⟨a,op,ty,pos,aft,some (j,b)⟩ σ K=
 w7 (lJ σ ops ⟨a,op,ty,pos,aft,some (j,b)⟩) λ
  |true=>qO P ops ⟨a,op,ty,pos,aft,none⟩ σ K
  |false=>vq (some<|Bb ⟨a,op,ty,pos,aft,none⟩) σ K:=by
 unfold qO;have e:yT ⟨a,op,ty,pos,aft,some (j,b)⟩=yT ⟨a,op,ty,pos,aft,none⟩:=W;have g:(σ:St)->(f:AV)->B8 P σ ⟨a,op,ty,pos,aft,some (j,b)⟩ f=B8 P σ ⟨a,op,ty,pos,aft,none⟩ f:=λ_ _=>rfl;rw[e];cases yT ⟨a,op,ty,pos,aft,none⟩with
 |some c=>
  cases lJ σ ops ⟨a,op,ty,pos,aft,some (j,b)⟩with
  |none=>simp
  |some b=>cases b<;>simp[lJ,vq,Bb]
 |none=>
  simp[msE,fD,kF,g];cases h:lJ σ ops ⟨a,op,ty,pos,aft,some (j,b)⟩with
  |none=>simp
  |some b=>cases b<;>simp[lJ,vq,Bb]
end
abbrev cq:=L UInt8
def bs(l:cq):ByteArray:=⟨l.toArray⟩
def Tw(s:ByteArray):bs s.data.toList=s:=by cases s;simp[bs]
inductive SV:Type 1
 |n (k:IntKind) (a:Int)
 |b (x:Bool)
 |u (x:Bool)
 |s (x:cq)
 |c (x:Value)
 |nil
 |ints (k:IntKind) (own:Bool) (xs:List Int)
 |eI (k:IntKind) (xs:List Int)
 |strs (own:Bool) (xs:List cq)
 |cR (own:Bool) (xs:List Bool)
 |bc (own:Bool) (sz:Nat) {α:Type} (d:α) (e:α->SV) (xs:List α)
 |row (own:Bool) (sz:Nat) (xs:List SV)
 |agg (xs:List SV)
 |bU (xs:List SV)
 |box (own:Bool) (x:SV)
 |fn (f:Fn) (first captured:List SV)
 |bw (r g1 g2:Nat) (p:Path)
 |ptr (r g1 g2:Nat) (p:Path)
 |hole
 |dead
 |pv (C:Value->Prop)
 |abs (J:World->(Nat->Prop)->List Nat->Prop)
 |gI (g:FuncId) (caps:List (Nat×Nat))
 |ob (J:World->(Nat->Prop)->Value->Prop)
abbrev SV.i(a:Int):SV:=.n .i64 a
def flm:L Int->Fl
 |[]=>.nil
 |_::_=>.shr
def szm:L Int->Nat
 |[]=>0
 |_::_=>1
def fl:Bool->Fl
 |true=>.own
 |false=>.shr
mutual
def SV.den:SV->AV
 |.n k a=>.v (.int k a)
 |.b x=>.v (.bool x)
 |.u x=>.v (.bool x)
 |.s x=>.v (.string<|bs x)
 |.c x=>.v x
 |.nil=>.list .nil 0 []
 |.ints k own xs=>.list (fl own) 1 (xs.map λa=>.v<|.int k a)
 |.eI k xs=>.list (flm xs) (szm xs) (xs.map λa=>.v<|.int k a)
 |.strs own xs=>.list (fl own) 1 (xs.map λa=>.v<|.string<|bs a)
 |.cR own xs=>.list (fl own) 1 (xs.map λa=>.v<|.bool a)
 |.bc own sz _ e xs=>.list (fl own) sz (xs.map λx=>(e x).den)
 |.row own sz xs=>.list (fl own) sz (aB xs)
 |.agg xs=>.agg (aB xs)
 |.bU xs=>.bU (aB xs)
 |.box own x=>.box own x.den
 |.fn f a c=>.fn f (aB a) (aB c)
 |.bw r g1 g2 p=>.bw r g1 g2 p
 |.ptr r g1 g2 p=>.ptr r g1 g2 p
 |.hole=>.hole
 |.dead=>.dead
 |.pv C=>.pv C
 |.abs J=>.abs J
 |.gI g d=>.gI g d
 |.ob J=>.ob J
def aB:List SV->List AV
 |[]=>[]
 |x::xs=>x.den::aB xs
end
def cJ:∀xs:L SV,aB xs=xs.map SV.den
 |[]=>rfl
 |x::xs=>by simp[aB,cJ xs]
def bP(xs:L SV):(aB xs).length=xs.length:=by simp[cJ]
def jm(xs:L SV)(i:Nat):(aB xs)[i]?=xs[i]?.map SV.den:=by simp[cJ]
structure Pd where
 p:Prop
 b:Bool
 h:b=true->p
instance(p:Prop)[Decidable p]:CoeDep Prop p Pd:=⟨⟨p,decide p,of_decide_eq_true⟩⟩
abbrev Pd.of(p:Prop):Pd:=⟨p,false,Bool.noConfusion⟩
def aj:L Pd->Prop
 |[]=>True
 |⟨p,_,_⟩::l=>p/\aj l
def app:L Pd->L Pd->L Pd
 |[],l=>l
 |p::l,m=>p::app l m
def aY:∀{l m:L Pd},aj (app l m)↔aj l/\aj m
 |[],m=>by simp[app,aj]
 |p::l,m=>by simp[app,aj,aY (l:=l),and_assoc]
def nth{α:Type _}:L α->Nat->Q α
 |[],_=>none
 |x::_,0=>some x
 |_::l,n+1=>nth l n
def nJ{α:Type _}:∀(l:L α)(i:Nat),nth l i=l[i]?
 |[],i=>by simp[nth]
 |x::l,0=>by simp[nth]
 |x::l,n+1=>by simp[nth,nJ l n]
def len{α:Type _}:L α->Nat
 |[]=>0
 |_::l=>len l+1
def fk{α:Type _}:∀l:L α,len l=l.length
 |[]=>rfl
 |x::l=>by simp[len,fk l]
def Uf{α:Type _}:L α->Nat->L α
 |[],_=>[]
 |_::_,0=>[]
 |x::l,n+1=>x::Uf l n
def vY{α:Type _}:∀(l:L α)(n:Nat),Uf l n=l.take n
 |[],n=>by simp[Uf]
 |x::l,0=>by simp[Uf]
 |x::l,n+1=>by simp[Uf,vY l n]
def Wy{α:Type _}:L α->Nat->L α
 |[],_=>[]
 |x::l,0=>x::l
 |_::l,n+1=>Wy l n
def wT{α:Type _}:∀(l:L α)(n:Nat),Wy l n=l.drop n
 |[],n=>by simp[Wy]
 |x::l,0=>by simp[Wy]
 |x::l,n+1=>by simp[Wy,wT l n]
def put{α:Type _}:L α->Nat->α->L α
 |[],_,_=>[]
 |_::l,0,y=>y::l
 |x::l,n+1,y=>x::put l n y
def put_eq{α:Type _}:∀(l:L α)(n:Nat)(y:α),put l n y=l.set n y
 |[],n,y=>by simp[put]
 |x::l,0,y=>by simp[put]
 |x::l,n+1,y=>by simp[put,put_eq l n y]
def cat{α:Type _}:L α->L α->L α
 |[],m=>m
 |x::l,m=>x::cat l m
def dj{α:Type _}:∀(l m:L α),cat l m=l++m
 |[],m=>rfl
 |x::l,m=>by simp[cat,dj l m]
def iv:SV->Path->Q (L Pd×SV)
 |x,[]=>some ([],x)
 |x,s::p=>
  match s with
  |.idx i sz=>match x with
   |.ints k _ xs=>match p,Nat.beq sz 1 with
    |[],true=>some ([i<xs.length],.n k<|xs.getD i 0)
    |_,_=>none
   |.strs _ xs=>match p,Nat.beq sz 1 with
    |[],true=>some ([i<xs.length],.s<|xs.getD i [])
    |_,_=>none
   |.cR _ xs=>match p,Nat.beq sz 1 with
    |[],true=>some ([i<xs.length],.u<|xs.getD i false)
    |_,_=>none
   |.bc _ a d e xs=>match Nat.beq a sz with
    |true=>match iv (e<|xs.getD i d) p with
     |some (ob,y)=>some ((i<xs.length)::ob,y)
     |none=>none
    |false=>none
   |.row _ a xs=>match Nat.beq a sz with
    |true=>match nth xs i with
     |some x=>iv x p
     |none=>none
    |false=>none
   |_=>none
  |.deref=>match x with
   |.box _ x=>iv x p
   |_=>none
  |.at o none=>match x with
   |.agg xs=>match nth xs o with
    |some x=>iv x p
    |none=>none
   |_=>none
  |.at o (some n)=>match x with
   |.agg xs=>match Nat.ble (o+n) (len xs)with
    |true=>iv (.agg<|Uf (Wy xs o) n) p
    |false=>none
   |_=>none
  |.bU i=>match x with
   |.bU xs=>match nth xs i with
    |some x=>iv x p
    |none=>none
   |_=>none
  |.nF .. =>none
def cY:∀{p:Path}{x y:SV}{ob:L Pd},iv x p=some (ob,y)->aj ob->bH x.den p=some y.den
 |[],x,y,ob,h,_=>by simp[iv,aaP,acQ]at h;simp[bH,h.2]
 |s::p,x,y,ob,h,hc=>by
  cases s with
  |idx i sz=>
   cases x with
   |ints k o xs=>
    cases p with
    |cons _ _=>simp[iv]at h
    |nil=>
     simp[iv]at h;split at h<;>try simp at h
     rename_i a;obtain⟨rfl,rfl⟩:=h;have a:=ac2 a;subst a;simp[aj,aag]at hc;simp[SV.den,bH,acL hc,acO]
   |strs o xs=>
    cases p with
    |cons _ _=>simp[iv]at h
    |nil=>
     simp[iv]at h;split at h<;>try simp at h
     rename_i a;obtain⟨rfl,rfl⟩:=h;have a:=ac2 a;subst a;simp[aj,aag]at hc;simp[SV.den,bH,acL hc,acO]
   |cR o xs=>
    cases p with
    |cons _ _=>simp[iv]at h
    |nil=>
     simp[iv]at h;split at h<;>try simp at h
     rename_i a;obtain⟨rfl,rfl⟩:=h;have a:=ac2 a;subst a;simp[aj,aag]at hc;simp[SV.den,bH,acL hc,acO]
   |bc o f d e xs=>
    simp[iv]at h;split at h<;>try cases h
    rename_i a;have a:=ac2 a;split at h<;>try simp at h
    rename_i g l j;obtain⟨rfl,rfl⟩:=h;simp[aj]at hc;have:=cY j hc.2;simp[SV.den,bH,a,if_true,afE,acL hc.1,ag6,aeu];simp_all
   |row o f xs=>
    simp[iv]at h;split at h<;>try cases h
    rename_i a;have a:=ac2 a;split at h<;>try cases h
    rename_i x b;have:=cY h hc;rw[nJ]at b;simp[SV.den,bH,a,if_true,jm,b,ag6,aeu];exact this
   |_=>simp[iv]at h
  |deref=>
   cases x with
   |box o x=>simp[iv]at h;simp[SV.den,bH];exact cY h hc
   |_=>simp[iv]at h
  | «at» o m=>
    cases m with
    |none=>
     cases x with
     |agg xs=>
      simp[iv]at h;split at h<;>try cases h
      rename_i x b;rw[nJ]at b;simp[SV.den,bH,jm,b,ag6,aeu];exact cY h hc
     |_=>simp[iv]at h
    |some n=>
     cases x with
     |agg xs=>
      simp[iv]at h;split at h<;>try cases h
      rename_i c;have c:=acR c;rw[fk]at c;have:=cY h hc;simp[SV.den,vY,wT,cJ,ahc,agM]at this;simp[SV.den,bH,bP,c,if_true];simpa[cJ]using this
     |_=>simp[iv]at h
  |bU i=>
   cases x with
   |bU xs=>
    simp only[iv]at h;split at h<;>try cases h
    rename_i x b;rw[nJ]at b;simp only[SV.den,bH,jm,b,ag6,aeu];exact cY h hc
   |_=>simp[iv]at h
  |nF sz o n=>simp[iv]at h
def uj(a b:IntKind):Bool:=match decEq a b with
 |isTrue _=>true
 |isFalse _=>false
def oA{a b:IntKind}(h:uj a b=true):a=b:=by
 unfold uj at h;split at h
 assumption
 cases h
def me:SV->Path->SV->Q (L Pd×SV)
 |_,[],y=>some ([],y)
 |x,s::p,y=>
  match s with
  |.idx i sz=>match x with
   |.ints k true xs=>match p,Nat.beq sz 1,y with
    |[],true,.n g a=>match uj k g with
     |true=>some ([i<xs.length],.ints k true<|xs.set i a)
     |false=>none
    |_,_,_=>none
   |.strs true xs=>match p,Nat.beq sz 1,y with
    |[],true,.s a=>some ([i<xs.length],.strs true<|xs.set i a)
    |_,_,_=>none
   |.cR true xs=>match p,Nat.beq sz 1,y with
    |[],true,.b a=>some ([i<xs.length],.cR true<|xs.set i a)
    |[],true,.u a=>some ([i<xs.length],.cR true<|xs.set i a)
    |_,_,_=>none
   |.row true c xs=>match Nat.beq c sz with
    |true=>match nth xs i with
     |some x=>match me x p y with
      |some (ob,f)=>some (ob,.row true c<|put xs i f)
      |none=>none
     |none=>none
    |false=>none
   |.bc true c d e xs=>match Nat.beq c sz with
    |true=>match me (e<|xs.getD i d) p y with
     |some (ob,f)=>some ((i<xs.length)::ob,.row true c<|(xs.map e).set i f)
     |none=>none
    |false=>none
   |_=>none
  |.deref=>match x with
   |.box true x=>match me x p y with
    |some (ob,f)=>some (ob,.box true f)
    |none=>none
   |_=>none
  |.at o none=>match x with
   |.agg xs=>match nth xs o with
    |some x=>match me x p y with
     |some (ob,f)=>some (ob,.agg<|put xs o f)
     |none=>none
    |none=>none
   |_=>none
  |.at o (some n)=>match x with
   |.agg xs=>match Nat.ble (o+n) (len xs)with
    |true=>match me (.agg<|Uf (Wy xs o) n) p y with
     |some (ob,.agg ys)=>match Nat.beq (len ys) n with
      |true=>some (ob,.agg<|cat (Uf xs o)<|cat ys<|Wy xs<|o+n)
      |false=>none
     |_=>none
    |false=>none
   |_=>none
  |.bU i=>match x with
   |.bU xs=>match nth xs i with
    |some x=>match me x p y with
     |some (ob,f)=>some (ob,.bU<|put xs i f)
     |none=>none
    |none=>none
   |_=>none
  |.nF .. =>none
def yF(xs:L SV)(i:Nat)(y:SV):aB (xs.set i y)=(aB xs).set i y.den:=by simp[cJ]
def gu:∀{p:Path}{x y z:SV}{ob:L Pd},me x p y=some (ob,z)->aj ob->ff x.den p y.den=some z.den
 |[],x,y,z,ob,h,_=>by simp only[me,aaP,acQ]at h;simp[ff,h.2]
 |s::p,x,y,z,ob,h,hc=>by
  cases s with
  |idx i sz=>
   cases x with
   |ints k o xs=>
    cases o<;>simp only[me]at h<;>try(cases h;done)
    split at h<;>try(cases h;done)
    rename_i a;split at h<;>try(cases h;done)
    rename_i l;have l:=oA l;subst l;cases h;have a:=ac2 a;subst a;simp only[aj,aag]at hc;simp[SV.den,ff,fl,acL hc,aeE]
   |strs o xs=>
    cases o<;>simp only[me]at h<;>try(cases h;done)
    split at h<;>try(cases h;done)
    rename_i a;cases h;have a:=ac2 a;subst a;simp only[aj,aag]at hc;simp[SV.den,ff,fl,acL hc,aeE]
   |cR o xs=>
    cases o<;>simp only[me]at h<;>try(cases h;done)
    split at h<;>try(cases h;done)
    all_goals
     rename_i a;cases h;have a:=ac2 a;subst a;simp only[aj,aag]at hc;simp[SV.den,ff,fl,acL hc,aeE]
   |row o j xs=>
    cases o<;>simp only[me]at h<;>try(simp at h;done)
    split at h<;>try(simp at h;done)
    rename_i a;have a:=ac2 a;split at h<;>try(simp at h;done)
    rename_i x c;split at h<;>try(simp at h;done)
    rename_i b f hs;cases h;rw[nJ]at c;simp[SV.den,ff,fl,a,jm,c,gu hs hc,put_eq,yF]
   |bc o j d e xs=>
    cases o<;>simp only[me]at h<;>try(simp at h;done)
    split at h<;>try(simp at h;done)
    rename_i a;have a:=ac2 a;split at h<;>try(simp at h;done)
    rename_i b f hs;cases h;have hi:i<xs.length:=hc.1;have c:=gu hs hc.2;have q:xs.getD i d=xs[i]:=fP;rw[q]at c;simp[SV.den,ff,fl,a,acL hi,c,cJ,aeE,Function.comp_def]
   |_=>simp[me]at h
  |deref=>
   cases x with
   |box o x=>
    cases o<;>simp only[me]at h<;>try(simp at h;done)
    split at h<;>try(simp at h;done)
    rename_i b f hs;cases h;simp[SV.den,ff,gu hs hc]
   |_=>simp[me]at h
  | «at» o m=>
    cases m with
    |none=>
     cases x with
     |agg xs=>
      simp only[me]at h;split at h<;>try(simp at h;done)
      rename_i x c;split at h<;>try(simp at h;done)
      rename_i b f hs;cases h;rw[nJ]at c;simp[SV.den,ff,jm,c,gu hs hc,put_eq,yF]
     |_=>simp[me]at h
    |some n=>
     cases x with
     |agg xs=>
      simp only[me]at h;split at h<;>try(simp at h;done)
      rename_i g;have g:=acR g;rw[fk]at g;split at h<;>try(simp at h;done)
      rename_i b r hs;split at h<;>try(simp at h;done)
      rename_i hl;have hl:=ac2 hl;cases h;have:=gu hs hc;simp only[SV.den,vY,wT,cJ,ahc,agM]at this;rw[fk]at hl;simp[SV.den,ff,cJ,g,this,hl,dj,vY,wT]
     |_=>simp[me]at h
  |bU i=>
   cases x with
   |bU xs=>
    simp only[me]at h;split at h<;>try(simp at h;done)
    rename_i x c;split at h<;>try(simp at h;done)
    rename_i b f hs;cases h;rw[nJ]at c;simp[SV.den,ff,jm,c,gu hs hc,put_eq,yF]
   |_=>simp[me]at h
  |nF sz o n=>simp[me]at h
mutual
def SV.aK:SV->Bool
 |.n .. |.b _|.u _|.s _|.c _|.nil|.hole|.dead|.eI .. |.pv _=>true
 |.ints _ own _=> !own
 |.strs own _=> !own
 |.cR own _=> !own
 |.bc own _ _ _ _=> !own
 |.row own _ _=> !own
 |.agg xs=>ij xs
 |.bU xs=>ij xs
 |.box own _=> !own
 |.fn _ a c=>match ij a with
  |true=>ij c
  |false=>false
 |.bw .. |.ptr .. |.abs _|.gI .. |.ob _=>false
def ij:List SV->Bool
 |[]=>true
 |x::xs=>match x.aK with
  |true=>ij xs
  |false=>false
end
mutual
theorem cD:∀(x:SV),x.den.aK=x.aK
 |.n .. |.b _|.u _|.s _|.c _|.nil|.hole|.dead|.bw .. |.ptr .. |.pv _|.abs _|.gI .. |.ob _=>rfl
 |.ints _ own _|.strs own _|.cR own _|.bc own _ _ _ _|.row own _ _=>by cases own<;>rfl
 |.eI _ xs=>by cases xs<;>rfl
 |.box own _=>by cases own<;>rfl
 |.agg xs=>by simp[SV.aK];exact eH xs
 |.bU xs=>by simp[SV.aK];exact eH xs
 |.fn _ a c=>by simp[SV.den,AV.aK,SV.aK,eH a,eH c];cases ij a<;>rfl
theorem eH:∀(xs:List SV),bR (aB xs)=ij xs
 |[]=>rfl
 |x::xs=>by simp[aB,bR,ij,cD x,eH xs];cases x.aK<;>rfl
end
mutual
def SV.cC:SV->SV
 |.ints k _ xs=>.ints k false xs
 |.eI k xs=>.eI k xs
 |.strs _ xs=>.strs false xs
 |.cR _ xs=>.cR false xs
 |.bc true sz d e xs=>.bc false sz d (λx=>(e x).cC) xs
 |.bc false sz d e xs=>.bc false sz d e xs
 |.row true sz xs=>.row false sz (jz xs)
 |.row false sz xs=>.row false sz xs
 |.agg xs=>.agg (jz xs)
 |.bU xs=>.bU (jz xs)
 |.box true x=>.box false x.cC
 |.box false x=>.box false x
 |.fn f a c=>.fn f (jz a) (jz c)
 |.n k a=>.n k a
 |.b x=>.b x
 |.u x=>.u x
 |.s x=>.s x
 |.c x=>.c x
 |.nil=>.nil
 |.bw r g1 g2 p=>.bw r g1 g2 p
 |.ptr r g1 g2 p=>.ptr r g1 g2 p
 |.hole=>.hole
 |.dead=>.dead
 |.pv C=>.pv C
 |.abs J=>.abs J
 |.gI g h=>.gI g h
 |.ob _=>.dead
def jz:List SV->List SV
 |[]=>[]
 |x::xs=>x.cC::jz xs
end
def iY{α:Type}(f:α->AV):∀xs:L α,iZ (xs.map f)=xs.map λx=>(f x).cC
 |[]=>rfl
 |x::xs=>by simp[iZ,iY f xs]
mutual
theorem gP:∀(x:SV),x.den.cC=x.cC.den
 |.n .. |.b _|.u _|.s _|.c _|.nil|.hole|.dead|.bw .. |.ptr .. |.pv _|.abs _|.gI .. |.ob _=>rfl
 |.ints _ own xs=>by cases own<;>simp[SV.den,SV.cC,AV.cC,fl,iY]
 |.eI _ xs=>by cases xs<;>rfl
 |.strs own xs=>by cases own<;>simp[SV.den,SV.cC,AV.cC,fl,iY]
 |.cR own xs=>by cases own<;>simp[SV.den,SV.cC,AV.cC,fl,iY]
 |.bc true _ _ e xs=>by
  simp[SV.den,AV.cC,fl,iY]
  congr 1
  exact adx λx _=>gP (e x)
 |.bc false _ _ _ _=>rfl
 |.row true _ xs=>by simp[SV.den,SV.cC,AV.cC,fl,jy xs]
 |.row false _ _=>rfl
 |.box true x=>by simp[SV.den,SV.cC,AV.cC,gP x]
 |.box false _=>rfl
 |.agg xs=>by simp[SV.den,SV.cC,AV.cC,jy xs]
 |.bU xs=>by simp[SV.den,SV.cC,AV.cC,jy xs]
 |.fn _ a c=>by simp[SV.den,SV.cC,AV.cC,jy a,jy c]
theorem jy:∀(xs:List SV),iZ (aB xs)=aB (jz xs)
 |[]=>rfl
 |x::xs=>by simp[aB,iZ,jz,gP x,jy xs]
end
mutual
def SV.da:SV->Bool
 |.n .. |.b _|.u _|.s _|.c _|.nil|.hole|.dead|.bw .. |.ptr .. |.pv _|.abs _|.gI .. =>true
 |.ints _ own _=>own
 |.eI .. |.ob _=>false
 |.strs own _=>own
 |.cR own _=>own
 |.bc .. =>false
 |.row true _ xs=>ua xs
 |.row false _ _=>false
 |.agg xs=>ua xs
 |.bU xs=>ua xs
 |.box true x=>x.da
 |.box false _=>false
 |.fn _ a c=>match ua a with
  |true=>ua c
  |false=>false
def ua:List SV->Bool
 |[]=>true
 |x::xs=>match x.da with
  |true=>ua xs
  |false=>false
end
def uX{xs:L AV}(h:∀x∈xs,x.da=true):ke xs=true:=by
 induction xs with
 |nil=>rfl
 |cons x xs a=>simp[ke];simp_all
mutual
theorem oy:∀(x:SV),x.da=true->x.den.da=true
 |.n ..,_|.b _,_|.u _,_|.s _,_|.c _,_|.nil,_|.hole,_|.dead,_|.bw ..,_|.ptr ..,_|.pv _,_|.abs _,_|.gI ..,_=>rfl
 |.ob _,h=>by cases h
 |.ints _ own xs,h=>by simp[SV.da]at h;subst h;simp[SV.den];exact uX (by simp[AV.da])
 |.strs own xs,h=>by simp[SV.da]at h;subst h;simp[SV.den];exact uX (by simp[AV.da])
 |.cR own xs,h=>by simp[SV.da]at h;subst h;refine uX λx d=>?_;obtain⟨b,-,rfl⟩:=abS.1 d;rfl
 |.bc ..,h=>by simp[SV.da]at h
 |.eI ..,h=>by simp[SV.da]at h
 |.row true _ xs,h=>by simp[SV.da]at h;exact lj xs h
 |.row false _ _,h=>by simp[SV.da]at h
 |.box true x,h=>by simp[SV.da]at h;exact oy x h
 |.box false _,h=>by simp[SV.da]at h
 |.agg xs,h=>by simp[SV.da]at h;exact lj xs h
 |.bU xs,h=>by simp[SV.da]at h;exact lj xs h
 |.fn _ a c,h=>by simp[SV.da]at h;split at h;rename_i e;simp[SV.den,AV.da];exact⟨lj a e,lj c h⟩;cases h
theorem lj:∀(xs:List SV),ua xs=true->ke (aB xs)=true
 |[],_=>rfl
 |x::xs,h=>by simp[ua]at h;split at h;rename_i d;simp[aB,ke];exact⟨oy x d,lj xs h⟩;cases h
end
def SV.cell:SV->Bool
 |.n .. |.b _|.u _|.s _|.c _|.nil|.ints .. |.eI .. |.strs .. |.cR .. |.bc .. |.row .. |.box .. |.fn .. |.hole|.ob _=>true
 |_=>false
def E8(x:SV):x.den.cell=x.cell:=by cases x<;>rfl
def SV.plain:SV->Bool
 |.bw .. |.ptr .. |.abs _|.gI .. =>false
 |_=>true
def cU(x:SV):x.den.plain=x.plain:=by cases x<;>rfl
def AV.ig:AV->Bool
 |.bw .. |.ptr .. |.gI .. =>false
 |_=>true
def SV.ig:SV->Bool
 |.bw .. |.ptr .. |.gI .. =>false
 |_=>true
def nh(x:SV):x.den.ig=x.ig:=by cases x<;>rfl
def V4(y:SV):SV:=match y.cell with
 |true=>.hole
 |false=>.dead
def S9(y:SV):(V4 y).den=jf y.den:=by unfold V4 jf;rw[E8];cases y.cell<;>rfl
structure Cl where
 v:SV
 g1:Nat
 g2:Nat
def Cl.den(x:Cl):Sl:=⟨x.v.den,x.g1,x.g2⟩
abbrev a7:=L<|Nat×Cl
def gt:a7->Nat->Cl
 |[],_=>⟨.dead,0,0⟩
 |(d,x)::l,i=>match Nat.beq i d with
  |true=>x
  |false=>gt l i
def dn(l:a7):St:=λi=>(gt l i).den
def fb(d:Nat)(x:Cl)(l:a7):dn ((d,x)::l)=iy (dn l) d x.den:=by
 funext i
 simp[dn,gt,iy];by_cases h:i=d;subst h;simp;have:Nat.beq i d=false:=by
  cases a:Nat.beq i d with
  |false=>rfl
  |true=>simp_all
 simp[this,h]
def ee(l:a7)(i:Nat):(dn l i).av=(gt l i).v.den:=W
def BN(l:a7)(i:Nat):(dn l i).g1=(gt l i).g1:=W
def Q8(l:a7)(i:Nat):(dn l i).g2=(gt l i).g2:=W
structure SR where
 s:Option Nat
 sl:Cl
 rt:Cl
def SR.den(x:SR):cx:=⟨x.s,x.sl.den,x.rt.den⟩
def E9:Value->SV
 |.int k n=>.n k n
 |.bool b=>.b b
 |.string s=>.s s.data.toList
 |.slice none 0 0=>.nil
 |.pointer none=>.c (.pointer none)
 |.map none=>.c (.map none)
 |.nilFunc=>.c .nilFunc
 |.nilIface=>.c .nilIface
 |_=>.dead
def AA:Value->Q SV
 |.agg cs=>some (.agg<|cs.toList.map E9)
 |.float .. =>none
 |.complex .. =>none
 |v=>some<|E9 v
def x6:Value->Bool
 |.float .. |.complex .. =>false
 |_=>true
def Ia{v:Value}(h:x6 v=true):(E9 v).den=kl v:=by
 cases v with
 |slice a l c=>
  cases a with
  |some _=>rfl
  |none=>cases l<;>cases c<;>simp[E9,kl,scalar,SV.den]
 |pointer a=>cases a<;>simp[E9,kl,scalar,SV.den]
 |map a=>cases a<;>simp[E9,kl,scalar,SV.den]
 |string s=>rfl
 |float _ _=>simp[x6]at h
 |complex _ _ _=>simp[x6]at h
 |_=>simp[E9,kl,scalar,SV.den]
def Jb:Value->Bool
 |.agg cs=>cs.toList.all x6
 |v=>x6 v
def Py{v:Value}{x:SV}(h:AA v=some x)(a:Jb v=true):x.den=gH v:=by
 cases v with
 |agg c=>
  simp[AA]at h;subst h;simp[SV.den,cJ]
  congr 1
  refine adx λy b=>?_;simp only[Jb,acZ]at a;exact Ia (a y b)
 |float _ _=>simp[AA]at h
 |complex _ _ _=>simp[AA]at h
 |_=>simp[AA]at h;subst h;exact Ia a
def eB(l:a7):Operand->Q SR
 |.tmp t=>match gt l t with
  |⟨v,g1,g2⟩=>match v with
   |.bw r a b p=>some ⟨some t,⟨.bw r a b p,g1,g2⟩,gt l r⟩
   |.ptr r a b p=>some ⟨some t,⟨.ptr r a b p,g1,g2⟩,gt l r⟩
   |.abs _=>some ⟨none,⟨.dead,0,0⟩,⟨.dead,0,0⟩⟩
   |v=>some ⟨some t,⟨v,g1,g2⟩,⟨.dead,0,0⟩⟩
 |.const v=>match Jb v with
  |true=>match AA v with
   |some x=>some ⟨none,⟨x,0,0⟩,⟨.dead,0,0⟩⟩
   |none=>none
  |false=>none
 |.func f=>some ⟨none,⟨.fn (.func f) [] [],0,0⟩,⟨.dead,0,0⟩⟩
 |.global _=>none
def cS{l:a7}{x:Operand}{r:SR}(h:eB l x=some r):resolve (dn l) x=r.den:=by
 cases x with
 |tmp t=>
  simp[eB]at h;simp[resolve,cx.of];cases a:gt l t with
  |mk v g1 g2=>rw[a]at h;cases v<;>simp at h<;>subst h<;>simp[dn,a]<;>rfl
 |const v=>simp[eB]at h;split at h;rename_i c;split at h;rename_i x b;cases h;simp[SR.den,Cl.den,Py b c];rfl;cases h;cases h
 |func f=>simp[eB]at h;subst h;rfl
 |global g=>simp[eB]at h
end Go.Ai
