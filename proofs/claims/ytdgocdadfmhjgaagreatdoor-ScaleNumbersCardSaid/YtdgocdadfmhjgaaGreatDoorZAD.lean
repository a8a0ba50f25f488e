/- Parts of the proof of ScaleNumbers (CheckBench, Exponent and Largest answer as the reference does), at every input, with no further conditions. -/
import Derived.Test.YtdgocdadfmhjgaaGreatDoorZAC
import Derived.RangeFuncSeq
set_option linter.unusedVariables false
set_option linter.unusedSimpArgs false
namespace Go.Ai
open Go.RowKit
def Mv.keys:Mv->List Nat
 |.share r _=>[r]
 |.take r n _=>[r,n]
 |.make M n _=>n::M
 |.put n _=>[n]
 |.store r _ M _=>r::M
 |.back R=>R.map (·.1)
def aN:List Mv->List Nat
 |[]=>[]
 |m::ms=>m.keys++aN ms
theorem wV{σ:St}:∀{R:List (Nat×AV)}{s:Nat},s∉R.map (·.1)->iS σ R s=σ s
 |[],s,_=>rfl
 |(r,y)::R,s,h=>by simp only[List.map_cons,List.mem_cons,not_or]at h;simp only[iS];rw[ab _ _ h.1,wV h.2]
theorem Mv.BA{σ σ' τ:St}(m:Mv)(h:∀s∈m.keys,τ s=σ s)(hr:m.run σ=some σ'):∃τ',m.run τ=some τ'/\(∀s∈m.keys,τ' s=σ' s)/\∀s,s∉m.keys->τ' s=τ s:=by
 cases m with
 |share r p=>
  simp only[Mv.keys,List.mem_singleton,forall_eq]at h;simp only[Mv.run]at hr⊢;rw[h];split at hr
  ·rename_i y h1;split at hr
   ·rename_i av h2;simp only[Option.some.injEq]at hr;subst hr;refine⟨_,rfl,?_,?_⟩
    ·simp[Mv.keys,ak]
    intro s hs;simp only[Mv.keys,List.mem_singleton]at hs;exact ab _ _ hs
   simp at hr
  simp at hr
 |take r n p=>
  simp only[Mv.keys,List.mem_cons,List.not_mem_nil,or_false,forall_eq_or_imp,forall_eq]at h;simp only[Mv.run]at hr⊢;rw[h.1];split at hr
  ·simp at hr
  rename_i hnr;simp only[hnr,if_false];split at hr
  ·rename_i y h1;split at hr
   ·rename_i av h2;simp only[Option.some.injEq]at hr;subst hr;refine⟨_,rfl,?_,?_⟩
    ·intro s hs;simp only[Mv.keys,List.mem_cons,List.not_mem_nil,or_false]at hs;rcases hs with rfl|rfl
     ·rw[ab _ _ (fun e=>hnr e.symm),ab _ _ (fun e=>hnr e.symm),ak,ak]
     rw[ak,ak,h.2]
    intro s hs;simp only[Mv.keys,List.mem_cons,List.not_mem_nil,or_false,not_or]at hs;rw[ab _ _ hs.2,ab _ _ hs.1]
   simp at hr
  simp at hr
 |make M n y=>
  simp only[Mv.run,Option.some.injEq]at hr⊢;subst hr;refine⟨_,rfl,?_,?_⟩
  ·intro s hs;have hn:=h n (by simp[Mv.keys]);simp only[made,hn,h s hs]
  intro s hs;simp only[Mv.keys,List.mem_cons,not_or]at hs;simp only[made,hs.1,hs.2,if_false]
 |put n y=>
  simp only[Mv.run,Option.some.injEq]at hr⊢;subst hr;have hn:=h n (by simp[Mv.keys]);refine⟨_,rfl,?_,?_⟩
  ·intro s hs;simp only[Mv.keys,List.mem_singleton]at hs;subst hs;rw[ak,ak,hn]
  intro s hs;simp only[Mv.keys,List.mem_singleton]at hs;exact ab _ _ hs
 |store r p M y=>
  have pc:=h r (by simp[Mv.keys]);simp only[Mv.run]at hr⊢;rw[pc];split at hr
  ·simp at hr
  rename_i R4;simp only[R4,if_false];split at hr
  ·rename_i av h1;simp only[Option.some.injEq]at hr;subst hr;refine⟨_,rfl,?_,?_⟩
   ·intro s hs;simp only[stored,pc,h s hs]
   intro s hs;simp only[Mv.keys,List.mem_cons,not_or]at hs;simp only[stored,hs.1,hs.2,if_false]
  simp at hr
 |back R=>
  simp only[Mv.run,Option.some.injEq]at hr⊢;subst hr;simp only[Mv.keys]at h⊢;refine⟨_,rfl,?_,fun s hs=>wV hs⟩;have:∀(R':List (Nat×AV)),(∀s∈R'.map (·.1),τ s=σ s)->∀s∈R'.map (·.1),iS τ R' s=iS σ R' s:=by
   intro R'
   induction R' with
   |nil=>intro _ s hs;simp at hs
   |cons q R' ih=>
    intro hq s hs;obtain⟨r,y⟩:=q;simp only[List.map_cons,List.mem_cons,forall_eq_or_imp]at hq hs;simp only[iS];by_cases e:s=r
    ·subst e;rw[ak,ak,hq.1]
    rw[ab _ _ e,ab _ _ e];exact ih hq.2 s (hs.resolve_left e)
  exact this R h
theorem nW:∀(ms:List Mv){σ σ' τ:St},(∀s∈aN ms,τ s=σ s)->Mv.runs σ ms=some σ'->∃τ',Mv.runs τ ms=some τ'/\(∀s∈aN ms,τ' s=σ' s)/\∀s,s∉aN ms->τ' s=τ s
 |[],σ,σ',τ,h,hr=>by simp only[Mv.runs,Option.some.injEq]at hr;subst hr;exact⟨τ,rfl,by simp[aN],fun _ _=>rfl⟩
 |m::ms,σ,σ',τ,h,hr=>by
  simp only[Mv.runs]at hr⊢;split at hr
  ·rename_i σ1 h1;obtain⟨τ1,k1,k2,k3⟩:=m.BA (τ:=τ) (fun s hs=>h s (by simp[aN,hs])) h1;obtain⟨aa2,e1,e2,e3⟩:=m.BA (σ:=σ) (τ:=σ) (fun s hs=>rfl) h1;rw[h1]at e1;simp only[Option.some.injEq]at e1;subst e1;have Zj:∀s,s∈aN (m::ms)->τ1 s=σ1 s:=fun s hs=>by
    by_cases hm:s∈m.keys
    ·exact k2 s hm
    rw[k3 s hm,e3 s hm,h s hs]
   obtain⟨τ',q1,q2,q3⟩:=nW ms (σ:=σ1) (τ:=τ1) (fun s hs=>Zj s (by simp[aN,hs])) hr;obtain⟨σ2,p1,p2,p3⟩:=nW ms (σ:=σ1) (τ:=σ1) (fun s hs=>rfl) hr;rw[hr]at p1;simp only[Option.some.injEq]at p1;subst p1;rw[k1];refine⟨τ',q1,fun s hs=>?_,fun s hs=>?_⟩
   ·by_cases hm:s∈aN ms
    ·exact q2 s hm
    rw[q3 s hm,p3 s hm,Zj s hs]
   simp only[aN,List.mem_append,not_or]at hs;rw[q3 s hs.2,k3 s hs.1]
  simp at hr
theorem rJ{ms:List Mv}{σ σ':St}(h:Mv.runs σ ms=some σ'){s:Nat}(hs:s∉aN ms):σ' s=σ s:=by obtain⟨τ',q1,-,q3⟩:=nW ms (σ:=σ) (τ:=σ) (fun _ _=>rfl) h;rw[h]at q1;simp only[Option.some.injEq]at q1;subst q1;exact q3 s hs
def roots(σ:St)(t:Nat):List Nat:=
 match(σ t).av with
 |.bg r _ _ _=>[t,r]
 |.ptr r _ _ _=>[t,r]
 |.dY _ aW=>t::aW.map (·.1)
 |_=>[t]
def oO(σ:St):Operand->List Nat
 |.tmp t=>roots σ t
 |_=>[]
theorem resolve_congr{σ τ:St}(x:Operand)(h:∀s∈oO σ x,τ s=σ s):resolve τ x=resolve σ x:=by
 cases x with
 |tmp t=>
  have ht:τ t=σ t:=h t (by simp only[oO,roots];split<;>simp);simp only[resolve,bo.of,ht];cases bQ:(σ t).av with
  |bg r g1 g2 p=>simp only;rw[h r (by simp only[oO,roots,bQ];simp)]
  |ptr r g1 g2 p=>simp only;rw[h r (by simp only[oO,roots,bQ];simp)]
  |_=>rfl
 |_=>rfl
def mk:List (Nat×Sl)->St
 |[]=>fun _=>⟨.dead,0,0⟩
 |(d,x)::l=>fun i=>if i=d then x else mk l i
def entry:Nat->List AV->List (Nat×Sl)
 |_,[]=>[]
 |k,x::xs=>(k,⟨x,0,0⟩)::entry (k+1) xs
theorem nB:∀(xs:List AV)(k i:Nat),mk (entry k xs) i=if k<=i then(match xs[i-k]?with|some x=>⟨x,0,0⟩|none=>⟨.dead,0,0⟩)else⟨.dead,0,0⟩
 |[],k,i=>by simp[entry,mk]
 |x::xs,k,i=>by
  simp only[entry,mk];rw[nB xs (k+1) i];by_cases h:i=k
  ·subst h;simp
  simp only[h,if_false];by_cases h2:k<=i
  ·have h3:k+1<=i:=by omega
   simp only[h2,h3,if_true];rw[show i-k=(i-(k+1))+1 by omega,List.getElem?_cons_succ]
  have h3:¬k+1<=i:=by omega
  simp only[h2,h3,if_false]
theorem uP:∀(l m:List (Nat×Sl))(i:Nat),i∉l.map (·.1)->mk (l++m) i=mk m i
 |[],m,i,_=>rfl
 |(d,x)::l,m,i,h=>by simp only[List.map_cons,List.mem_cons,not_or]at h;simp only[List.cons_append,mk,h.1,if_false];exact uP l m i h.2
theorem pD:∀(l m:List (Nat×Sl))(i:Nat),i∈l.map (·.1)->mk (l++m) i=mk l i
 |[],m,i,h=>by simp at h
 |(d,x)::l,m,i,h=>by
  simp only[List.map_cons,List.mem_cons]at h;simp only[List.cons_append,mk];by_cases e:i=d
  ·simp[e]
  simp only[e,if_false];exact pD l m i (h.resolve_left e)
theorem oC:∀(xs:List AV)(k i:Nat),i∈(entry k xs).map (·.1)↔k<=i/\i<k+xs.length
 |[],k,i=>by simp[entry]
 |x::xs,k,i=>by simp only[entry,List.map_cons,List.mem_cons,oC xs (k+1) i,List.length_cons];omega
def both(args H:List AV):St:=mk (entry 0 args++entry 1000000 H)
theorem gu{args H:List AV}{i:Nat}(h:i<1000000):both args H i=match args[i]?with|some x=>⟨x,0,0⟩|none=>⟨.dead,0,0⟩:=by
 unfold both;by_cases hi:i<args.length
 ·rw[pD _ _ _ ((oC args 0 i).2 ⟨by omega,by omega⟩),nB];simp
 rw[uP _ _ _ (fun hh=>by have:=(oC args 0 i).1 hh;omega),nB,if_neg (by omega),List.getElem?_eq_none (by omega)]
theorem fW{args H:List AV}(ha:args.length<=1000000)(k:Nat):both args H (1000000+k)=match H[k]?with|some x=>⟨x,0,0⟩|none=>⟨.dead,0,0⟩:=by unfold both;rw[uP _ _ _ (fun hh=>by have:=(oC args 0 _).1 hh;omega),nB,if_pos (by omega)];simp
theorem I8{args H:List AV}:∀i,(both args H i).g1=0/\(both args H i).g2=0:=by
 intro i;have:∀(l:List (Nat×Sl)),(∀q∈l,q.2.g1=0/\q.2.g2=0)->(mk l i).g1=0/\(mk l i).g2=0:=by
  intro l
  induction l with
  |nil=>intro _;simp[mk]
  |cons q l ih=>
   intro h;obtain⟨d,x⟩:=q;simp only[List.mem_cons,forall_eq_or_imp]at h;simp only[mk];split
   ·exact h.1
   exact ih h.2
 refine this _ fun q hq=>?_;have hh:∀(xs:List AV)(k:Nat),∀q∈entry k xs,q.2.g1=0/\q.2.g2=0:=by
  intro xs
  induction xs with
  |nil=>intro k q hq;simp[entry]at hq
  |cons x xs ih=>
   intro k q hq;simp only[entry,List.mem_cons]at hq;rcases hq with rfl|hq
   ·exact⟨rfl,rfl⟩
   exact ih _ q hq
 rcases List.mem_append.1 hq with hq|hq
 ·exact hh _ _ q hq
 exact hh _ _ q hq
def aS(V:Hid)(vs:List Value):Nat->Value:=fun i=>if i<1000000 then vs.getD i undef else V.v i
def Eb(P:Program)(f:FuncId)(H args H':List AV)(r:AV):Prop:=
 ∀(w:World)(S:Nat->Prop)(V:Hid)(vs:List Value)(F:Nat->List Nat),vs.length=args.length->iV P V w->aK S V.g (both args H) (aS V vs) w F->
  qg P f vs.toArray w fun v w'=>∃S' F',qS V w w w'/\(∀b,S b->S' b)/\(∀b,S' b->S b\/bW V w b)/\aK S' (bW V w) (both [r] H') (aS V [v]) w' F'
abbrev o7:=World->(Nat->Prop)->List Nat->Prop
def o7.here(J:o7)(w:World)(S:Nat->Prop)(F:List Nat):Prop:=∀w' S',(∀b,S b\/b∈F->w'.heap[b]?=w.heap[b]?)->(∀b,S b->S' b)->J w' S' F
def Yields(P:Program)(J J':o7)(x:List AV)(b:Bool)(v:Value):Prop:=
 ∃l,v=.func (.yield l) #[] #[]/\∀(rd:Option Nat)(w:World)(S:Nat->Prop)(F:List Nat)(vs:List Value),Laid P w->Ax P (·∈F)->J.here w S F->F.Nodup->(∀c∈F,c<w.heap.size/\¬S c)->(∀c,S c->c<w.heap.size)->Cells w S false x vs []->
  YieldAt (FW rd) 0 P l vs.toArray w fun e w'=>e=.returned (.bool b)/\∃S' F',w'.os=w.os/\w'.tape=w.tape/\w'.output=w.output/\w.heap.size<=w'.heap.size/\(∀k,k<w.heap.size->k∉F->w'.heap[k]?=w.heap[k]?)/\
   (∀c,S c->S' c)/\(∀c,S' c->S c\/w.heap.size<=c\/c∈F)/\(∀c,S' c->c<w'.heap.size)/\J'.here w' S' F'/\F'.Nodup/\∀c∈F',(w.heap.size<=c\/c∈F)/\c<w'.heap.size/\¬S' c
def Qp(P:Program)(g:FuncId)(C:Value->Prop)(J J':o7)(x:List AV)(r:AV):Prop:=
 ∀(v:Value),C v->∀(w:World)(S:Nat->Prop)(F:List Nat)(vs:List Value),Laid P w->Ax P (·∈F)->J.here w S F->F.Nodup->(∀c∈F,c<w.heap.size/\¬S c)->(∀c,S c->c<w.heap.size)->Cells w S false x vs []->
  qg P g (v::vs).toArray w fun y w'=>∃S' F',w'.os=w.os/\w'.tape=w.tape/\w'.output=w.output/\w.heap.size<=w'.heap.size/\(∀k,k<w.heap.size->k∉F->w'.heap[k]?=w.heap[k]?)/\
   (∀c,S c->S' c)/\(∀c,S' c->S c\/w.heap.size<=c\/c∈F)/\(∀c,S' c->c<w'.heap.size)/\J'.here w' S' F'/\F'.Nodup/\(∀c∈F',(w.heap.size<=c\/c∈F)/\c<w'.heap.size/\¬S' c)/\∀w2 S2,Rel w2 S2 r y []
def Looks(P:Program)(t:TypeId)(ok:Bool)(K:Obj->Prop)(k y:AV):Prop:=∀(w:World)(S:Nat->Prop)(b:Nat)(o:Obj)(vk:Value),w.heap[b]?=some o->K o->Rel w S k vk []->∃v,(Instr.lookup t (.map (some b)) vk ok).run P w=.ok v w/\Rel w S y v []
def Ext(P:Program)(o:Oper)(vs:Array Value)(w:World)(R:Value->World->Prop):Prop:=∀ρ:Operand->Value,o.op.operands.toList.map ρ=vs.toList->∃nx v w',(execOp ρ o).run P w=.ok nx w'/\(nx=.value v\/(nx=.skip/\o.dst=none))/\R v w'
theorem Ext.mono{P:Program}{o:Oper}{vs:Array Value}{w:World}{R R':Value->World->Prop}(h1:∀v w',R v w'->R' v w')(h:Ext P o vs w R):Ext P o vs w R':=fun ρ hρ=>by obtain⟨nx,v,w',k1,k2,k3⟩:=h ρ hρ;exact⟨nx,v,w',k1,k2,h1 v w' k3⟩
def Qr(P:Program)(o:Oper)(H args H':List AV)(r:AV):Prop:=
 ∀(w:World)(S:Nat->Prop)(V:Hid)(vs:List Value)(F:Nat->List Nat),vs.length=args.length->aK S V.g (both args H) (aS V vs) w F->
  Ext P o vs.toArray w fun v w'=>∃S' F',qS V w w w'/\(∀b,S b->S' b)/\(∀b,S' b->S b\/bW V w b)/\aK S' (bW V w) (both [r] H') (aS V [v]) w' F'
inductive Ob
 |call (o:Uq)
 |refs (g:FuncId) (H args out:List AV) (r:AV)
 |M4 (C:Value->Prop) (J J':o7) (x:List AV) (b:Bool)
 |Qw (t:TypeId) (ok:Bool) (K:Obj->Prop) (k y:AV)
 |ext (o:Oper) (H args out:List AV) (r:AV)
 |Oa (g:FuncId) (C:Value->Prop) (J J':o7) (x:List AV) (r:AV)
def Ob.ok(P:Program):Ob->Prop
 |.call o=>Sound P o.1 o.2.1 o.2.2
 |.refs g H args out r=>Eb P g H args out r
 |.M4 C J J' x b=>∀v,C v->Yields P J J' x b v
 |.Qw t ok K k y=>Looks P t ok K k y
 |.ext o H args out r=>Qr P o H args out r
 |.Oa g C J J' x r=>Qp P g C J J' x r
def oJ(x:bo):Option (Nat×AV):=
 match x.sl.av with
 |.bg r _ _ _=>some (r,x.rt.av)
 |.ptr r _ _ _=>some (r,x.rt.av)
 |y=>if y.az then none else match x.s with
  |some s=>some (s,y)
  |none=>none
def gn:List (Nat×AV)->Nat->Option Nat
 |[],_=>none
 |(r,_)::R,s=>if r=s then some 0 else match gn R s with
  |some k=>some (k+1)
  |none=>none
def cL:List (Nat×AV)->List bo->List (Nat×AV)
 |R,[]=>R
 |R,x::xs=>match oJ x with
  |some (r,y)=>match gn R r with
   |some _=>cL R xs
   |none=>cL (R++[(r,y)]) xs
  |none=>cL R xs
def qR(R:List (Nat×AV))(x:bo):Option AV:=
 match x.sl.av with
 |.bg r g1 g2 p=>match gn R r with
  |some k=>if x.rt.g1=g1 then if iP p=true\/x.rt.g2=g2 then some (.bg (1000000+k) 0 0 p)else none else none
  |none=>none
 |.ptr r g1 g2 p=>match gn R r with
  |some k=>if x.rt.g1=g1 then if flat p=true\/x.rt.g2=g2 then some (.ptr (1000000+k) 0 0 p)else none else none
  |none=>none
 |y=>if y.az then some y else match x.s with
  |some s=>match gn R s with
   |some k=>some (.bg (1000000+k) 0 0 [])
   |none=>none
  |none=>none
def oS(R:List (Nat×AV)):List bo->Option (List AV)
 |[]=>some []
 |x::xs=>match qR R x,oS R xs with
  |some y,some ys=>some (y::ys)
  |_,_=>none
def mc:List (Nat×AV)->List AV->List (Nat×AV)
 |[],_=>[]
 |(r,_)::R,ys=>match ys with
  |[]=>[]
  |y::ys=>(r,y)::mc R ys
def Ft:List (Nat×AV)->Option Nat->Bool
 |_,none=>false
 |[],_=>false
 |(r,_)::R,some d=>if r=d then true else Ft R (some d)
def lL:List AV->Bool
 |[]=>true
 |x::xs=>x.plain&&lL xs
def rr(d:Option Nat)(f:bo)(aas:List bo)(out:List AV)(r:AV):Option (List Mv×List Ob):=
 match f.cont with
 |some (.fn (.func g) first captured)=>if bG first&&bG captured then match oS (cL [] aas) aas with
   |some ys=>if lL ((cL [] aas).map (·.2))&&lL out&&decide ((cL [] aas).length=out.length)&&r.plain&& !Ft (cL [] aas) d&&decide (first.length+ys.length+captured.length<=1000000)then
     some (cw d r [.back (mc (cL [] aas) out)],[.refs g ((cL [] aas).map (·.2)) (first++ys++captured) out r])else none
   |none=>none
  else none
 |_=>none
section
variable{P:Program}{N:Nat}{w0 w w':World}{V:Hid}{S S0 S':Nat->Prop}{B:Nat->Prop}{σ σ' σ0:St}{T0:Nat->Value}{a:Act}{F:Nat->List Nat}{R:List (Nat×AV)}
theorem nh:∀{R:List (Nat×AV)}{s k:Nat},gn R s=some k->(R.map (·.1))[k]?=some s
 |[],s,k,h=>by simp[gn]at h
 |(r,y)::R,s,k,h=>by
  simp only[gn]at h;split at h
  ·rename_i e;simp only[Option.some.injEq]at h;subst h e;rfl
  split at h
  ·rename_i k' hk;simp only[Option.some.injEq]at h;subst h;simpa using nh hk
  simp at h
theorem ni:∀{R:List (Nat×AV)}{s:Nat},gn R s=none->s∉R.map (·.1)
 |[],s,h=>by simp
 |(r,y)::R,s,h=>by
  simp only[gn]at h;split at h
  ·simp at h
  rename_i e;split at h
  ·simp at h
  rename_i hk;simp only[List.map_cons,List.mem_cons,not_or];exact⟨fun e'=>e e'.symm,ni hk⟩
theorem CV:∀{R:List (Nat×AV)}{k s:Nat},(R.map (·.1)).Nodup->(R.map (·.1))[k]?=some s->gn R s=some k
 |[],k,s,_,h=>by simp at h
 |(r,y)::R,k,s,hn,h=>by
  simp only[List.map_cons,List.nodup_cons]at hn;simp only[gn];cases k with
  |zero=>simp at h;subst h;simp
  |succ k=>simp only[List.map_cons,List.getElem?_cons_succ]at h;have hm:s∈R.map (·.1):=List.mem_of_getElem? h;rw[if_neg (fun e=>hn.1 (by rw[e];exact hm)),CV hn.2 h]
theorem K8(_:aK S B σ (tv V a) w F)(x:Operand){r:Nat}{y:AV}(hr:oJ (resolve σ x)=some (r,y)):y=(σ r).av:=by
 cases x with
 |const v=>
  have h1:=ie v;have h2:=cV v;simp only[oJ,resolve]at hr;split at hr
  ·rename_i e;rw[e]at h2;simp[AV.plain]at h2
  ·rename_i e;rw[e]at h2;simp[AV.plain]at h2
  simp[h1]at hr
 |func f=>simp[oJ,resolve,AV.az,bG]at hr
 |global g=>simp[oJ,resolve,Sl.none,AV.az]at hr
 |tmp t=>
  simp only[resolve]at hr;cases bQ:(σ t).av with
  |bg r' g1 g2 p=>simp only[bo.of,bQ,oJ,Option.some.injEq,Prod.mk.injEq]at hr;obtain⟨rfl,rfl⟩:=hr;rfl
  |ptr r' g1 g2 p=>simp only[bo.of,bQ,oJ,Option.some.injEq,Prod.mk.injEq]at hr;obtain⟨rfl,rfl⟩:=hr;rfl
  |abs J=>simp[bo.of,bQ,oJ,Sl.none,AV.az]at hr
  |_=>
   all_goals
    simp only[bo.of,bQ,oJ]at hr;split at hr
    ·simp at hr
    simp only[Option.some.injEq,Prod.mk.injEq]at hr;obtain⟨rfl,rfl⟩:=hr;exact bQ.symm
theorem mq(h:aK S B σ (tv V a) w F):∀(xs:List Operand){R:List (Nat×AV)},(∀q∈R,q.2=(σ q.1).av)->(R.map (·.1)).Nodup->
 (∀q∈cL R (xs.map (resolve σ)),q.2=(σ q.1).av)/\((cL R (xs.map (resolve σ))).map (·.1)).Nodup
 |[],R,h1,h2=>⟨h1,h2⟩
 |x::xs,R,h1,h2=>by
  simp only[List.map_cons,cL];split
  ·rename_i r y hr;have hv:=K8 h x hr;split
   ·exact mq h xs h1 h2
   rename_i hp;refine mq h xs (fun q hq=>?_) ?_
   ·rcases List.mem_append.1 hq with hq|hq
    ·exact h1 q hq
    simp only[List.mem_singleton]at hq;subst hq;exact hv
   simp only[List.map_append,List.map_cons,List.map_nil,List.nodup_append];refine⟨h2,by simp,fun x hx y hy e=>?_⟩;simp only[List.mem_singleton]at hy;subst hy e;exact ni hp hx
  exact mq h xs h1 h2
def ArgRel(w:World)(S:Nat->Prop)(σ:St)(T:Nat->Value)(y:AV)(v:Value):Prop:=
 match y with
 |.bg r g1 g2 p=>g1<=(σ r).g1/\g2<=(σ r).g2/\((σ r).g1=g1->(iP p=true\/(σ r).g2=g2)->(iP p=false->∃y,a6 (σ r).av p=some y)->
   ∃L,loc w (.val (T r)) p=some L/\holds w L v/\∀ad,L=.addr ad->v.oneCell'=true)
 |.ptr r g1 g2 p=>g1<=(σ r).g1/\g2<=(σ r).g2/\(∃ad,v=.pointer (some ad))/\((σ r).g1=g1->(flat p=true\/(σ r).g2=g2)->(flat p=false->∃y,a6 (σ r).av p=some y)->
   ∃ad,loc w (.val (T r)) p=some (.addr ad)/\v=.pointer (some ad))
 |av=>Rel w S av v []
theorem ArgRel.slot{T:Nat->Value}{y:AV}{v:Value}{i:Nat}(h:ArgRel w S σ T y v)(h1:(σ i).av=y)(h2:T i=v):ai w S σ T i []:=by unfold ai;unfold ArgRel at h;subst h1 h2;cases hh:(σ i).av<;>rw[hh]at h<;>first|exact⟨rfl,h⟩|exact h|(simp[Rel]at h)
theorem ArgRel.uK{T:Nat->Value}{y:AV}{v:Value}(h:Rel w S y v []):ArgRel w S σ T y v:=by unfold ArgRel;have:=h.plain;cases y<;>simp[AV.plain]at this<;>exact h
def cE(w:World)(S:Nat->Prop)(σ:St)(T:Nat->Value):List AV->List Value->Prop
 |[],vs=>vs=[]
 |y::ys,vs=>∃v W2,vs=v::W2/\ArgRel w S σ T y v/\cE w S σ T ys W2
theorem cE.append{T:Nat->Value}:∀{ys zs:List AV}{us vs:List Value},cE w S σ T ys us->cE w S σ T zs vs->cE w S σ T (ys++zs) (us++vs)
 |[],zs,us,vs,h,k=>by simp only[cE]at h;subst h;simpa using k
 |y::ys,zs,us,vs,h,k=>by simp only[cE]at h;obtain⟨v,us',rfl,h1,h2⟩:=h;simp only[List.cons_append,cE];exact⟨v,_,rfl,h1,cE.append h2 k⟩
theorem cE.length{T:Nat->Value}:∀{ys:List AV}{us:List Value},cE w S σ T ys us->us.length=ys.length
 |[],us,h=>by simp only[cE]at h;simp[h]
 |y::ys,us,h=>by simp only[cE]at h;obtain⟨v,us',rfl,h1,h2⟩:=h;simp[cE.length h2]
theorem cE.get{T:Nat->Value}:∀{ys:List AV}{us:List Value}(i:Nat){y:AV},cE w S σ T ys us->ys[i]?=some y->ArgRel w S σ T y (us.getD i undef)
 |[],us,i,y,h,hy=>by simp at hy
 |y0::ys,us,i,y,h,hy=>by
  simp only[cE]at h;obtain⟨v,us',rfl,h1,h2⟩:=h;cases i with
  |zero=>simp at hy;subst hy;simpa using h1
  |succ i=>simp only[List.getElem?_cons_succ]at hy;simpa using cE.get i h2 hy
theorem cE.yo{T:Nat->Value}:∀{ys:List AV}{us:List Value}{F:List Nat},Cells w S false ys us F->F=[]->cE w S σ T ys us
 |[],us,F,h,_=>by simp only[Cells]at h;exact h.1
 |y::ys,us,F,h,hF=>by simp only[Cells]at h;obtain⟨v,l',F1,F2,rfl,rfl,-,h4,h5⟩:=h;obtain⟨rfl,rfl⟩:=List.append_eq_nil_iff.1 hF;exact⟨v,l',rfl,.uK h4,cE.yo h5 rfl⟩
theorem MJ(h:aK S B σ (tv V a) w F)(hR:∀r k,gn R r=some k->σ0 (1000000+k)=⟨(σ r).av,0,0⟩/\T0 (1000000+k)=tv V a r)(x:Operand)(hx:aE x=true){y:AV}
 (ha:qR R (resolve σ x)=some y):ArgRel w S σ0 T0 y (a.eval x):=by
 cases x with
 |const v=>
  have h1:=ie v;have h2:=cV v;have:y=eP v:=by
   simp only[qR,resolve]at ha;split at ha
   ·rename_i e;rw[e]at h2;simp[AV.plain]at h2
   ·rename_i e;rw[e]at h2;simp[AV.plain]at h2
   simp only[h1,if_true,Option.some.injEq]at ha;exact ha.symm
  subst this;exact .uK (fE w S v hx)
 |func f=>simp[qR,resolve,AV.az,bG]at ha;subst ha;refine .uK ?_;simp only[Rel,Act.eval];exact⟨#[],#[],[],[],rfl,by simp[Cells],by simp[Cells],rfl⟩
 |global g=>simp[qR,resolve,Sl.none,AV.az]at ha;subst ha;exact .uK (by simp[Rel])
 |tmp t=>
  rw[gh V a (dT hx)];have ht:=h.rel t;simp only[resolve]at ha;cases bQ:(σ t).av with
  |bg r g1 g2 p=>
   simp only[bo.of,bQ,qR]at ha;unfold ai at ht;rw[bQ]at ht;simp only at ht;split at ha
   ·rename_i k hk;obtain⟨e1,e2⟩:=hR r k hk;split at ha
    ·rename_i c1;split at ha
     ·rename_i c2;simp only[Option.some.injEq]at ha;subst ha;unfold ArgRel;simp only[e1,e2];exact⟨Nat.le_refl _,Nat.le_refl _,fun _ _=>ht.2.2.2 c1 c2⟩
     simp at ha
    simp at ha
   simp at ha
  |ptr r g1 g2 p=>
   simp only[bo.of,bQ,qR]at ha;unfold ai at ht;rw[bQ]at ht;simp only at ht;split at ha
   ·rename_i k hk;obtain⟨e1,e2⟩:=hR r k hk;split at ha
    ·rename_i c1;split at ha
     ·rename_i c2;simp only[Option.some.injEq]at ha;subst ha;unfold ArgRel;simp only[e1,e2];exact⟨Nat.le_refl _,Nat.le_refl _,ht.2.2.2.1,fun _ _=>ht.2.2.2.2 c1 c2⟩
     simp at ha
    simp at ha
   simp at ha
  |abs J=>simp only[bo.of,bQ,qR,Sl.none,AV.az,if_true,Option.some.injEq]at ha;subst ha;exact .uK (by simp[Rel])
  |dY g aW=>
   simp only[bo.of,bQ,qR,AV.az,Bool.false_eq_true,if_false]at ha;split at ha
   ·rename_i k hk;obtain⟨e1,e2⟩:=hR t k hk;simp only[Option.some.injEq]at ha;subst ha;unfold ArgRel;simp only[e1,e2];exact⟨Nat.zero_le _,Nat.zero_le _,fun _ _ _=>⟨_,rfl,rfl,by simp⟩⟩
   simp at ha
  |_=>
   all_goals
    have gJ:(σ t).av.plain=true:=by rw[bQ];rfl
    rw[ai.ar gJ]at ht;have Sk:(if(σ t).av.az then some (σ t).av else match gn R t with|some k=>some (AV.bg (1000000+k) 0 0 [])|none=>none)=some y:=by simpa only[bo.of,bQ,qR]using ha
    split at Sk
    ·rename_i fS;simp only[Option.some.injEq]at Sk;subst Sk;rw[Rel.az _ ht fS]at ht;exact .uK ht
    split at Sk
    ·rename_i k hk;obtain⟨e1,e2⟩:=hR t k hk;simp only[Option.some.injEq]at Sk;subst Sk;unfold ArgRel;simp only[e1,e2];exact⟨Nat.le_refl _,Nat.le_refl _,fun _ _ _=>⟨.val _,rfl,rfl,by simp⟩⟩
    simp at Sk
theorem Ap(h:aK S B σ (tv V a) w F)(hR:∀r k,gn R r=some k->σ0 (1000000+k)=⟨(σ r).av,0,0⟩/\T0 (1000000+k)=tv V a r):∀(xs:List Operand),xs.all aE=true->∀{ys:List AV},
 oS R (xs.map (resolve σ))=some ys->cE w S σ0 T0 ys (xs.map a.eval)
 |[],_,ys,ha=>by simp only[List.map_nil,oS,Option.some.injEq]at ha;subst ha;rfl
 |x::xs,hf,ys,ha=>by
  simp only[List.all_cons,Bool.and_eq_true]at hf;simp only[List.map_cons,oS]at ha;split at ha
  ·rename_i y KL h1 h2;simp only[Option.some.injEq]at ha;subst ha;exact⟨_,_,rfl,MJ h hR x hf.1 h1,Ap h hR xs hf.2 h2⟩
  simp at ha
theorem Cu{σ:St}:∀{R:List (Nat×AV)}{out:List AV}(i:Nat),R.length=out.length->
 iS σ (mc R out) i=match gn R i with|some k=>⟨out.getD k .dead,(σ i).g1,(σ i).g2+1⟩|none=>σ i
 |[],out,i,h=>by simp[mc,iS,gn]
 |(r,y)::R,[],i,h=>by simp at h
 |(r,y)::R,z::out,i,h=>by
  simp only[List.length_cons,Nat.add_right_cancel_iff]at h;simp only[mc,iS,gn];by_cases e:r=i
  ·subst e;simp[ak]
  rw[ab _ _ (fun e'=>e e'.symm),Cu i h];simp only[e,if_false];cases gn R i<;>simp
theorem n5:∀{xs:List AV}{k:Nat}{x:AV},lL xs=true->xs[k]?=some x->x.plain=true
 |[],k,x,_,h=>by simp at h
 |y::xs,k,x,hp,h=>by
  simp only[lL,Bool.and_eq_true]at hp;cases k with
  |zero=>simp at h;subst h;exact hp.1
  |succ k=>exact n5 hp.2 (by simpa using h)
theorem aK.Oj{d:Nat}{T:Nat->Value}{y:AV}{z:Value}{Fy:List Nat}(h:aK S B σ T w F)(hr:Rel w S y z Fy)(hn:Fy.Nodup)(hF:∀b∈Fy,B b/\b<w.heap.size/\¬S b)(cR:∀i,∀b∈F i,b∉Fy):
 aK S B (made σ [] d y) (fB T d z) w (fun i=>if i=d then Fy else F i):=by
 refine h.step (w':=w) (S':=S) ⟨fun r=>?_,fun r=>?_,fun r pc=>?_,fun r pc _=>?_⟩ (fun _ h=>h) (fun i=>?_) (fun i=>?_) (fun i j fX b hb=>?_) (fun i b hb=>?_) h.shr
 ·unfold made;split
  ·rename_i e;subst e;simp
  simp
 ·unfold made;split
  ·rename_i e;subst e;simp
  simp
 ·unfold made at pc;split at pc
  ·rename_i e;subst e;simp at pc
  rename_i e;rw[ab _ _ e]
 ·unfold made at pc⊢;split at pc
  ·rename_i e;subst e;simp at pc
  rename_i e;simp only[e,if_false,List.not_mem_nil];exact⟨fun p y hy=>⟨y,hy⟩,fun _ _=>trivial⟩
 ·by_cases e:i=d
  ·subst e;right;rw[ai.ar (by unfold made;simp only[if_true];exact hr.plain)];simp only[made,if_true,ak];exact hr
  left;simp only[made,e,if_false,List.not_mem_nil];exact⟨trivial,ab _ _ e,trivial,fun _ _=>trivial⟩
 ·show(if i=d then Fy else F i).Nodup;split
  ·exact hn
  exact h.nodup i
 ·replace hb:b∈if i=d then Fy else F i:=hb
  show b∉if j=d then Fy else F j;split at hb
  ·split
   ·omega
   exact fun hj=>cR j b hj hb
  split
  ·exact cR i b hb
  exact h.cx i j fX b hb
 replace hb:b∈if i=d then Fy else F i:=hb
 split at hb
 ·exact hF b hb
 exact h.own i b hb
theorem BP:∀{R:List (Nat×AV)}{d:Nat},Ft R (some d)=false->gn R d=none
 |[],d,_=>rfl
 |(r,y)::R,d,h=>by
  simp only[Ft]at h;split at h
  ·simp at h
  rename_i e;simp only[gn,e,if_false,BP h]
theorem yM{D:Array Value->World->(Value->World->Prop)->Prop}(YJ:∀(vs:Array Value)(w:World)(R R':Value->World->Prop),(∀v w',R v w'->R' v w')->D vs w R->D vs w R')
 {d:Option Nat}(hG:iV P V w0)(h:Inv N V w0 S0 σ a w)(hd:∀x,d=some x->x<N)(aas:List Operand)(has:aas.all aE=true){first ys captured out:List AV}{r:AV}{af cf:Array Value}
 (hq:∀S F,aK S (bW V w0) σ (tv V a) w F->Cells w S false first af.toList []/\Cells w S false captured cf.toList [])
 (mC:oS (cL [] (aas.map (resolve σ))) (aas.map (resolve σ))=some ys)
 (gr:(lL ((cL [] (aas.map (resolve σ))).map (·.2))&&lL out&&decide ((cL [] (aas.map (resolve σ))).length=out.length)&&r.plain&& !Ft (cL [] (aas.map (resolve σ))) d&&decide (first.length+ys.length+captured.length<=1000000))=true)
 (hr:Mv.runs σ (cw d r [.back (mc (cL [] (aas.map (resolve σ))) out)])=some σ')
 (hsd:∀(w:World)(S:Nat->Prop)(V:Hid)(vs:List Value)(F:Nat->List Nat),vs.length=(first++ys++captured).length->iV P V w->aK S V.g (both (first++ys++captured) ((cL [] (aas.map (resolve σ))).map (·.2))) (aS V vs) w F->
   D vs.toArray w fun v w'=>∃S' F',qS V w w w'/\(∀b,S b->S' b)/\(∀b,S' b->S b\/bW V w b)/\aK S' (bW V w) (both [r] out) (aS V [v]) w' F'):
 D (af++(aas.map a.eval).toArray++cf) w fun v w'=>Inv N V w0 S0 σ' (a.put d v) w':=by
 obtain⟨S,F,hc,hN,ig,jl,gw,cU⟩:=h;simp only[Bool.and_eq_true,decide_eq_true_eq,Bool.not_eq_true']at gr;obtain⟨⟨⟨⟨⟨p1,p2⟩,p3⟩,hpr⟩,p4⟩,p5⟩:=gr;obtain⟨v1,v2⟩:=mq hc aas (R:=[]) (by simp) (by simp);generalize hRe:cL [] (aas.map (resolve σ))=R at*;obtain⟨qa,qc⟩:=hq S F hc;obtain⟨ex,hex⟩:∃ex:List Nat,ex=R.map (·.1):=⟨_,rfl⟩;obtain⟨V',T7⟩:∃V':Hid,V'={v:=fun i=>tv V a (ex.getD (i-1000000) 0),g:=fun b=>∃r∈ex,b∈F r}:=⟨_,rfl⟩;have hlen:(R.map (·.2)).length=ex.length:=by rw[hex];simp
 have uV:∀(k:Nat)(y:AV),(R.map (·.2))[k]?=some y->∃r,ex[k]?=some r/\y=(σ r).av/\y.plain=true:=by intro k y hy;have gJ:=n5 p1 hy;simp only[List.getElem?_map,Option.map_eq_some_iff]at hy;obtain⟨q,hq,rfl⟩:=hy;exact⟨q.1,by rw[hex];simp[hq],v1 q (List.mem_of_getElem? hq),gJ⟩
 obtain⟨vs,RX⟩:∃vs,vs=af.toList++aas.map a.eval++cf.toList:=⟨_,rfl⟩;obtain⟨args,fb⟩:∃args,args=first++ys++captured:=⟨_,rfl⟩
 have Wd:args.length<=1000000:=by rw[fb];simp;omega
 have hR:∀(r k:Nat),gn R r=some k->both args (R.map (·.2)) (1000000+k)=⟨(σ r).av,0,0⟩/\aS V' vs (1000000+k)=tv V a r:=by
  intro r k hk;have qO:=nh hk;rw[<-hex]at qO;have cB:k<(R.map (·.2)).length:=by rw[hlen];exact(List.getElem?_eq_some_iff.1 qO).1
  obtain⟨r',e1,e2,-⟩:=uV k _ (List.getElem?_eq_getElem cB);rw[qO]at e1;simp only[Option.some.injEq]at e1;subst e1;refine⟨by rw[fW Wd,List.getElem?_eq_getElem cB];simp only[e2],?_⟩;simp only[aS,T7];rw[if_neg (by omega)];simp[qO]
 have hA:cE w S (both args (R.map (·.2))) (aS V' vs) args vs:=by rw[fb,RX];rw[fb]at hR;rw[RX]at hR;exact((cE.yo qa rfl).append (Ap hc hR aas has mC)).append (cE.yo qc rfl)
 have B5:aK S V'.g (both args (R.map (·.2))) (aS V' vs) w (fun i=>if i<1000000 then[]else match ex[i-1000000]?with|some r=>F r|none=>[]):=by
  refine⟨fun i=>?_,fun i=>?_,fun i j fX b hb=>?_,fun i b hb=>?_,hc.shr⟩
  ·by_cases hi:i<1000000
   ·simp only[hi,if_true];have hb:=gu (args:=args) (H:=R.map (·.2)) hi;cases hx:args[i]?with
    |none=>rw[hx]at hb;rw[ai.ar (by rw[hb];rfl),hb];simp[Rel]
    |some y=>rw[hx]at hb;refine(hA.get i hx).slot (by rw[hb]) ?_;simp only[aS,hi,if_true]
   obtain⟨k,rfl⟩:∃k,i=1000000+k:=⟨i-1000000,by omega⟩;simp only[hi,if_false,Nat.add_sub_cancel_left];have hb:=fW (H:=R.map (·.2)) Wd k;cases hx:(R.map (·.2))[k]?with
   |none=>
    rw[hx]at hb;rw[ai.ar (by rw[hb];rfl),hb];have:ex[k]?=none:=by rw[List.getElem?_eq_none_iff]at hx⊢;omega
    simp[Rel,this]
   |some y=>rw[hx]at hb;obtain⟨r',e1,rfl,gJ⟩:=uV k y hx;have Ik:=hc.rel r';rw[ai.ar gJ]at Ik;rw[ai.ar (by rw[hb];exact gJ),hb];simp only[e1,aS,T7];rw[if_neg (by omega)];simpa[e1]using Ik
  ·show(if i<1000000 then[]else match ex[i-1000000]?with|some r=>F r|none=>[]).Nodup;split
   ·simp
   split
   ·exact hc.nodup _
   simp
  ·replace hb:b∈if i<1000000 then[]else match ex[i-1000000]?with|some r=>F r|none=>[]:=hb
   show b∉if j<1000000 then[]else match ex[j-1000000]?with|some r=>F r|none=>[]
   split at hb
   ·simp at hb
   rename_i hi;split at hb
   ·rename_i r1 h1;split
    ·simp
    rename_i hj;split
    ·rename_i r2 h2;refine hc.cx r1 r2 (fun e=>fX ?_) b hb;subst e;have g1:=CV v2 (by rw[<-hex];exact h1);have g2:=CV v2 (by rw[<-hex];exact h2);rw[g1]at g2;simp only[Option.some.injEq]at g2;omega
    simp
   simp at hb
  replace hb:b∈if i<1000000 then[]else match ex[i-1000000]?with|some r=>F r|none=>[]:=hb
  split at hb
  ·simp at hb
  split at hb
  ·rename_i r1 h1;rw[T7];exact⟨⟨r1,List.mem_of_getElem? h1,hb⟩,(hc.own r1 b hb).2⟩
  simp at hb
 rw[<-fb]at hsd;have hG':iV P V' w:=⟨hG.H8 cU,hG.bW.mono fun b hb=>by rw[T7]at hb;obtain⟨r,-,hr⟩:=hb;exact(hc.own r b hr).1⟩;have:=hsd w S V' vs _ (by rw[cE.length hA]) hG' B5;have e:vs.toArray=af++(aas.map a.eval).toArray++cf:=by apply Array.ext';simp[RX]
 rw[e]at this;refine YJ _ _ _ _ (fun v w'⟨S',MN,ny,k1,k2,bT⟩=>?_) this;have hg:∀b,V'.g b↔∃r∈ex,b∈F r:=fun b=>by rw[T7]
 have Xi:∀b,bW V' w b->w.heap.size<=b\/∃r∈ex,b∈F r:=fun b hb=>hb.imp id (hg b).1;have O0:∀b,bW V' w b->bW V w0 b:=fun b hb=>(Xi b hb).elim (fun h=>cU.new b h) (fun⟨r,_,hr⟩=>(hc.own r b hr).1);have c5:∀b,b<w.heap.size->¬V'.g b->w'.heap[b]?=w.heap[b]?:=fun b h1 h2=>ny.block b h1 h2;have T8:∀b,S b->w'.heap[b]?=w.heap[b]?:=fun b hb=>c5 b (hc.shr b hb) (fun hgb=>by obtain⟨r,-,hr⟩:=(hg b).1 hgb;exact(hc.own r b hr).2.2 hb);have T9:∀i,gn R i=none->∀b∈F i,w'.heap[b]?=w.heap[b]?:=fun i hi b hb=>c5 b (hc.own i b hb).2.1 (fun hgb=>by obtain⟨r,mU,xA⟩:=(hg b).1 hgb;exact hc.cx i r (fun e=>ni hi (by subst e;rw[<-hex];exact mU)) b hb xA)
 have Wi:∀i,∀b∈MN i,(w.heap.size<=b\/∃r∈ex,b∈F r)/\bW V w0 b/\b<w'.heap.size/\¬S' b:=fun i b hb=>by have:=bT.own i b hb;exact⟨Xi b this.1,O0 b this.1,this.2⟩
 have OW:∀i,gn R i=none->∀j,∀b∈F i,b∉MN j:=fun i hi j b hb dr=>by
  rcases(Wi j b dr).1 with OY|⟨r,mU,xA⟩
  ·have:=(hc.own i b hb).2.1;omega
  exact hc.cx i r (fun e=>ni hi (by subst e;rw[<-hex];exact mU)) b hb xA
 have YT:∀{i j k:Nat},gn R i=some k->gn R j=some k->i=j:=fun hi hj=>by have a1:=nh hi;have a2:=nh hj;rw[a1]at a2;simpa using a2
 have YK:aK S' (bW V w0) (iS σ (mc R out)) (tv V a) w' (fun i=>match gn R i with|some k=>MN (1000000+k)|none=>F i):=by
  have jm:∀i,iS σ (mc R out) i=match gn R i with|some k=>⟨out.getD k .dead,(σ i).g1,(σ i).g2+1⟩|none=>σ i:=fun i=>Cu i p3
  refine hc.step (w':=w') (S':=S') ⟨fun i=>?_,fun i=>?_,fun i _=>rfl,fun i hi1 Mb=>?_⟩ k1 (fun i=>?_) (fun i=>?_) (fun i j fX b hb=>?_) (fun i b hb=>?_) bT.shr
  ·rw[jm];split<;>simp
  ·rw[jm];split<;>simp
  ·rw[jm]at Mb⊢;split at Mb
   ·simp at Mb
   rename_i hp;exact⟨fun p y hy=>⟨y,hy⟩,fun b hb=>hb.elim (T8 b) (T9 i hp b)⟩
  ·cases hp:gn R i with
   |none=>left;rw[jm,hp];exact⟨rfl,rfl,rfl,fun b hb=>hb.elim (T8 b) (T9 i hp b)⟩
   |some k=>
    right;have hk:=nh hp;rw[<-hex]at hk;have MV:k<out.length:=by have:=(List.getElem?_eq_some_iff.1 hk).1;rw[hex]at this;simp at this;omega
    have eH:=bT.rel (1000000+k);have hb:=fW (args:=[r]) (H:=out) (by simp) k;rw[List.getElem?_eq_getElem MV]at hb;have gJ:=n5 p2 (List.getElem?_eq_getElem MV);rw[ai.ar (by rw[hb];exact gJ),hb]at eH;have bQ:(iS σ (mc R out) i).av=out[k]:=by rw[jm,hp];simp[MV]
    rw[ai.ar (by rw[bQ];exact gJ),bQ];have QB:aS V' [v] (1000000+k)=tv V a i:=by simp only[aS,T7];rw[if_neg (by omega)];simp[hk]
    rw[QB]at eH;exact eH
  ·show(match gn R i with|some k=>MN (1000000+k)|none=>F i).Nodup;split
   ·exact bT.nodup _
   exact hc.nodup i
  ·replace hb:b∈match gn R i with|some k=>MN (1000000+k)|none=>F i:=hb
   show b∉match gn R j with|some k=>MN (1000000+k)|none=>F j
   split at hb
   ·rename_i k hk;split
    ·rename_i k2 O2;refine bT.cx _ _ (fun e=>fX ?_) b hb;have:k=k2:=by omega
     subst this;exact YT hk O2
    rename_i hj;exact fun dr=>OW j hj _ b dr hb
   rename_i hi;split
   ·exact OW i hi _ b hb
   exact hc.cx i j fX b hb
  replace hb:b∈match gn R i with|some k=>MN (1000000+k)|none=>F i:=hb
  split at hb
  ·exact(Wi _ b hb).2
  rename_i hi;have ho:=hc.own i b hb;refine⟨ho.1,Nat.lt_of_lt_of_le ho.2.1 ny.size,fun Xu=>?_⟩;rcases k2 b Xu with hS|hm
  ·exact ho.2.2 hS
  rcases Xi b hm with OY|⟨r,mU,xA⟩
  ·omega
  exact hc.cx i r (fun e=>ni hi (by subst e;rw[<-hex];exact mU)) b hb xA
 have B1:jF V w0 w':=cU.trans ⟨ny.os,ny.tape,ny.output,ny.size,fun k hk J1=>ny.block k (Nat.lt_of_lt_of_le hk cU.size) (fun VZ=>by obtain⟨r,-,hr⟩:=(hg k).1 VZ;exact s6 (hc.own r k hr).1 hk J1)⟩
 have Sn:(∀b,S0 b->S' b)/\(∀b,S' b->S0 b\/bW V w0 b):=⟨fun b hb=>k1 b (jl b hb),fun b hb=>(k2 b hb).elim (gw b) (fun h=>.inr (O0 b h))⟩;have bp:Mv.runs (iS σ (mc R out)) (cw d r [])=some σ':=by rw[Gz]at hr;simpa[Mv.runs,Mv.run]using hr
 cases d with
 |none=>simp only[cw,Mv.runs,Option.some.injEq]at bp;subst bp;exact⟨S',_,YK,hN,ig,Sn.1,Sn.2,B1⟩
 |some d=>
  simp only[cw,List.nil_append,iJ,Option.some.injEq]at bp;subst bp;have Y8:=BP p4;have eH:=bT.rel 0;have Wb:=gu (args:=[r]) (H:=out) (i:=0) (by omega);simp only[List.getElem?_cons_zero]at Wb;rw[ai.ar (by rw[Wb];exact hpr),Wb]at eH;have:=YK.Oj (d:=d) eH (bT.nodup 0) (fun b hb=>(Wi 0 b hb).2) (fun i b hb=>by
   replace hb:b∈match gn R i with|some k=>MN (1000000+k)|none=>F i:=hb
   split at hb
   ·exact bT.cx _ _ (by omega) b hb
   rename_i hi;exact OW i hi 0 b hb)
  rw[<-ll (by rw[hN];exact hd d rfl)]at this;exact⟨S',_,this,by rw[size_put];exact hN,by rw[dV];exact ig,Sn.1,Sn.2,B1⟩
theorem wR{d:Option Nat}(hG:iV P V w0)(h:Inv N V w0 S0 σ a w)(hd:∀x,d=some x->x<N)(f:Operand)(hf:aE f=true)(aas:List Operand)(has:aas.all aE=true){out:List AV}{r:AV}{ms:List Mv}{kn:List Ob}
 (hm:rr d (resolve σ f) (aas.map (resolve σ)) out r=some (ms,kn))(hr:Mv.runs σ ms=some σ')(hs:∀o∈kn,o.ok P):
 ∃g first captured,a.eval f=.func (.func g) first captured/\qg P g (first++(aas.map a.eval).toArray++captured) w fun v w'=>Inv N V w0 S0 σ' (a.put d v) w':=by
 have hI:=h;obtain⟨S,F,hc,hN,ig,jl,gw,cU⟩:=h;unfold rr at hm;split at hm<;>try(simp at hm;done)
 rename_i g first captured gL
 split at hm<;>try(simp at hm;done)
 rename_i fS;simp only[Bool.and_eq_true]at fS;split at hm<;>try(simp at hm;done)
 rename_i ys mC;split at hm<;>try(simp at hm;done)
 rename_i gr;simp only[Option.some.injEq,Prod.mk.injEq]at hm;obtain⟨rfl,rfl⟩:=hm;obtain⟨Ff,q1,-⟩:=aM hc f hf gL;simp only[Rel]at q1;obtain⟨af,cf,F1,F2,qe,-,-,-⟩:=q1;refine⟨g,af,cf,qe,?_⟩;refine yM (D:=qg P g) (fun vs w R R' h1 h2 rd o a next Q hK=>h2 rd o a next Q fun v w' hR=>hK v w' (h1 v w' hR)) hG hI hd aas has (fun S F hc=>?_) mC gr hr (hs (.refs g ((cL [] (aas.map (resolve σ))).map (·.2)) (first++ys++captured) out r) (by simp));obtain⟨Ff,q1,-⟩:=aM hc f hf gL;simp only[Rel]at q1;obtain⟨af',cf',F1,F2,qe',qa,qc,-⟩:=q1;rw[qe]at qe';simp only[Value.func.injEq,true_and]at qe';obtain⟨rfl,rfl⟩:=qe';have Xx:=Cells.az _ qa fS.1;have Ua:=Cells.az _ qc fS.2;subst Xx Ua;exact⟨qa,qc⟩
def bo.gen(x:bo):Nat:=match x.sl.av with|.bg .. =>x.rt.g2|_=>x.sl.g2
def M7(P:Program)(d:Nat)(t:TypeId)(x:bo)(lo hi:Option bo):Option (List Mv):=
 match P.underlying t with
 |some (.slice e)=>match bE P e with
  |some ti=>match x.cont with
   |some (.list .own sz xs)=>match kG lo 0,kG hi xs.length with
    |some l,some h=>if sz=ti.size/\l<h/\h<=xs.length then match x.place with
      |some (r,g1,_,p)=>if r=d then none else some [.put d (.bg r g1 x.gen (p++[.jI sz l (h-l)]))]
      |none=>none
     else none
    |_,_=>none
   |_=>none
  |none=>none
 |_=>none
theorem Mj(x:Operand){r g1 g2:Nat}{p:Path}{y:AV}(hc:(resolve σ x).cont=some y)(hp:(resolve σ x).place=some (r,g1,g2,p)):bo.gen (resolve σ x)=(σ r).g2:=by
 cases x with
 |const v=>simp only[resolve,bo.place]at hp;have h2:=cV v;split at hp<;>simp_all[AV.plain]
 |func f=>simp[resolve,bo.place]at hp
 |global g=>simp[resolve,bo.place,Sl.none]at hp
 |tmp t=>
  simp only[resolve]at hp⊢;cases bQ:(σ t).av with
  |bg r' Pl Pk p'=>simp only[bo.of,bQ,bo.place,Option.some.injEq,Prod.mk.injEq]at hp⊢;obtain⟨rfl,rfl,rfl,rfl⟩:=hp;simp only[bo.gen,bQ]
  |ptr=>simp[bo.of,bQ,bo.place]at hp
  |abs=>simp[bo.of,bQ,bo.place,Sl.none]at hp
  |dY=>simp[resolve,bo.of,bQ,bo.cont]at hc
  |_=>
   all_goals
    simp only[bo.of,bQ,bo.place,Option.some.injEq,Prod.mk.injEq]at hp⊢;obtain⟨rfl,rfl,rfl,rfl⟩:=hp;simp only[bo.gen,bQ]
theorem Hu{d t:Nat}(h:Inv N V w0 S0 σ a w)(hd:d<N)(x:Operand)(lo hi:Option Operand)(oL:aE x=true)(kh:∀o,lo=some o->aE o=true)(uf:∀o,hi=some o->aE o=true)
 {ms:List Mv}(hm:M7 P d t (resolve σ x) (lo.map (resolve σ)) (hi.map (resolve σ))=some ms)(hr:Mv.runs σ ms=some σ'):
 Good N V w0 S0 σ' a d ((Instr.sliceAt t (a.eval x) (lo.map a.eval) (hi.map a.eval) none).run P w):=by
 unfold M7 at hm;split at hm<;>try(simp at hm;done)
 rename_i e hu;split at hm<;>try(simp at hm;done)
 rename_i ti ga;split at hm<;>try(simp at hm;done)
 rename_i sz xs hx;split at hm<;>try(simp at hm;done)
 rename_i l h' h1 h2;split at hm<;>try(simp at hm;done)
 rename_i gr;obtain⟨rfl,AH,ug⟩:=gr;split at hm<;>try(simp at hm;done)
 rename_i r g1 g2 p hp;split at hm<;>try(simp at hm;done)
 rename_i ue;simp only[Option.some.injEq]at hm;subst hm;simp only[Mv.bu,Option.some.injEq]at hr;subst hr;have YZ:=Mj x hx hp;have hI:=h;obtain⟨S,F,gL,-⟩:=h;obtain⟨F1,e1,-⟩:=aM gL x oL hx;obtain⟨ad,cap,hz,iB,uX,Im⟩:=e1.iz;obtain⟨b,off,rfl⟩:=Im.1 (by simp) (fun e=>by subst e;simp at ug;omega);have hb:=ix (P:=P) gL true (len:=xs.length) (cap:=cap) lo hi none kh uf (by simp) h1 h2 rfl (by omega) (by omega) (Nat.le_refl _) (.inl rfl);have bp:(Instr.sliceAt t (a.eval x) (lo.map a.eval) (hi.map a.eval) none).run P w=.ok (.slice (some ((⟨b,off,none⟩:Addr).add (l*ti.size))) (h'-l) (cap-l)) w:=by
  rw[hz];simp only[Option.map_none]at hb;have:cap≠l:=by omega
  simp[Instr.sliceAt,run_underlying hu,Instr.slice,hb,cY ga,this]
 refine⟨_,w,bp,hI.put hd fun S' F' bT=>?_⟩;obtain⟨q1,q2,q3,q4,q5,q6,L,q7,q8,q9⟩:=gD bT x oL hx hp;unfold ai;simp only[ak,ab _ _ ue];refine⟨trivial,q4,by omega,fun _ _ _=>⟨.val (.slice (some ((⟨b,off,none⟩:Addr).add (l*ti.size))) (h'-l) (cap-l)),?_,rfl,by simp⟩⟩;rw[fP,q7];simp only[Option.bind_some,loc];rw[hz]at q8;rw[bO q8 rfl (by simp)];rfl
inductive Ask
 |Nl (r:AV)
 |refs (out:List AV) (r:AV)
 |jI
 |M4 (J':o7) (b:Bool)
 |mkc
 |dY (out:List AV) (r:AV)
 |Qw (y:AV)
 |ext (out:List AV) (r:AV)
 |Oa (J':o7) (r:AV)
def JH(d:Option Nat)(aas:List bo)(out:List AV)(r:AV):Option (List Mv×List AV×List AV):=
 match oS (cL [] aas) aas with
 |some ys=>if(lL ((cL [] aas).map (·.2))&&lL out&&decide ((cL [] aas).length=out.length)&&r.plain&& !Ft (cL [] aas) d&&decide (([]:List AV).length+ys.length+([]:List AV).length<=1000000))=true then
   some (cw d r [.back (mc (cL [] aas) out)],(cL [] aas).map (·.2),ys)else none
 |none=>none
def slotsOf:List Operand->Option (List Nat)
 |[]=>some []
 |.tmp t::l=>match slotsOf l with
  |some ts=>some (t::ts)
  |none=>none
 |_::_=>none
def rk:List bo->Option (List AV)
 |[]=>some []
 |x::xs=>match x.cont with
  |some y=>if y.az then match rk xs with
   |some ys=>some (y::ys)
   |none=>none
   else none
  |none=>none
def Kd(op:Op):Bool:=op.operands.toList.all aE&&(match op with
 |.move _=>false
 |.call ⟨.builtin .append,_,_⟩=>false
 |_=>true)
def pd(x:Sl):Sl:=match x.av with
 |.box o (.list f sz _)=>⟨.box o (.list f sz []),x.g1,x.g2⟩
 |_=>x
def Ln:AV->Bool
 |.box _ (.list .own _ _)=>true
 |_=>false
def qU(σ:St)(a:Nat):Option (Nat×Nat):=match(σ a).av with
 |.bg r g1 _ p=>if p=[]/\Ln (σ r).av=true/\(σ r).g1=g1 then some (a,r)else none
 |x=>if Ln x=true then some (a,a)else none
def sB(σ:St):Op->Option (Nat×Nat)
 |.load _ (.tmp a)=>qU σ a
 |_=>none
def oZ(σ:St)(op:Op):Bool:=match Kd op with
 |true=>match sB σ op with
  |some _=>false
  |none=>true
 |false=>false
theorem SB{σ:St}{op:Op}(h:oZ σ op=true):Kd op=true/\sB σ op=none:=by
 unfold oZ at h;split at h
 ·rename_i e;split at h
  ·simp at h
  rename_i e2;exact⟨e,e2⟩
 simp at h
def kl(P:Program)(σ:St)(o:Oper):Ask->Option (List Mv×List Ob)
 |.mkc=>match o.dst with
  |some d=>match o.op with
   |.makeFunc (.func g) first aW=>match first.toList with
    |[]=>match slotsOf aW.toList with
     |some ts=>if ts.all (fun t=>t !=d)=true then some ([.put d (.dY g (ts.map fun t=>(t,(σ t).g1)))],[])else none
     |none=>none
    |_::_=>none
   |_=>none
  |none=>none
 |.dY out r=>match o.op with
  |.call c=>match c.callee with
   |.value (.tmp t)=>match(σ t).av with
    |.dY g aW=>if aW.all (fun q=>decide (q.1<1000000)&&(σ q.1).av.plain&&(σ q.1).g1==q.2)=true then rr o.dst (resolve σ (.func g)) (c.args.toList.map (resolve σ)++aW.map fun q=>resolve σ (.tmp q.1)) out r else none
    |_=>none
   |_=>none
  |_=>none
 |.ext out r=>if oZ σ o.op=true then match JH o.dst (o.op.operands.toList.map (resolve σ)) out r with
   |some (ms,H,ys)=>some (ms,[.ext o H ys out r])
   |none=>none
  else none
 |.Oa J' r=>match o.op with
  |.call c=>match c.callee with
   |.value f=>match c.args.toList with
    |[]=>none
    |x::xs=>match(resolve σ x).sl.av with
     |.pv C=>match(resolve σ f).cont with
      |some (.fn (.func g) [] [])=>match(σ 1000000).av with
       |.abs J=>match rk (xs.map (resolve σ))with
        |some ys=>some (cw o.dst r [.back [(1000000,.abs J')]],[.Oa g C J J' ys r])
        |none=>none
       |_=>none
      |_=>none
     |_=>none
   |_=>none
  |_=>none
 |.Qw y=>match o.op with
  |.lookup t m x ok=>match(resolve σ m).cont,(resolve σ x).cont with
   |some (.mp K),some k=>if k.az&&y.az then some (cw o.dst y [],[.Qw t ok K k y])else none
   |_,_=>none
  |_=>none
 |.Nl r=>match w6 P σ o r with
  |some (ms,kn)=>some (ms,kn.map .call)
  |none=>none
 |.refs out r=>match o.op with
  |.call c=>match c.callee with
   |.value f=>rr o.dst (resolve σ f) (c.args.toList.map (resolve σ)) out r
   |_=>none
  |_=>none
 |.jI=>match o.dst with
  |some d=>match o.op with
   |.slice t x l h m=>match m with
    |none=>match M7 P d t (resolve σ x) (l.map (resolve σ)) (h.map (resolve σ))with
     |some ms=>some (ms,[])
     |none=>none
    |some _=>none
   |_=>none
  |none=>none
 |.M4 J' b=>match o.op with
  |.call c=>match c.callee with
   |.value f=>match(resolve σ f).sl.av with
    |.pv C=>match(σ 1000000).av with
     |.abs J=>match rk (c.args.toList.map (resolve σ))with
      |some ys=>some (cw o.dst (.v (.bool b)) [.back [(1000000,.abs J')]],[.M4 C J J' ys b])
      |none=>none
     |_=>none
    |_=>none
   |_=>none
  |_=>none
theorem pN(h:aK S B σ (tv V a) w F):∀(xs:List Operand){ys:List AV},xs.all aE=true->rk (xs.map (resolve σ))=some ys->Cells w S false ys (xs.map a.eval) []
 |[],ys,_,h2=>by simp only[List.map_nil,rk,Option.some.injEq]at h2;subst h2;simp[Cells]
 |x::xs,ys,h1,h2=>by
  simp only[List.all_cons,Bool.and_eq_true]at h1;simp only[List.map_cons,rk]at h2;split at h2<;>try(simp at h2;done)
  rename_i y hy;split at h2<;>try(simp at h2;done)
  rename_i hn;split at h2<;>try(simp at h2;done)
  rename_i KL mC;simp only[Option.some.injEq]at h2;subst h2;obtain⟨F1,e1,-⟩:=aM h x h1.1 hy;rw[Rel.az _ e1 hn]at e1;simp only[List.map_cons,Cells];exact⟨_,_,[],[],rfl,rfl,by simp,e1,pN h xs h1.2 mC⟩
theorem sD:∀{xs:List Operand}{ts:List Nat},slotsOf xs=some ts->xs.all aE=true->xs.map a.eval=ts.map fun t=>tv V a t
 |[],ts,h,_=>by simp only[slotsOf,Option.some.injEq]at h;subst h;rfl
 |.tmp t::xs,ts,h,hf=>by
  simp only[List.all_cons,Bool.and_eq_true]at hf;simp only[slotsOf]at h;split at h<;>try(simp at h;done)
  rename_i ts' h1;simp only[Option.some.injEq]at h;subst h;simp only[List.map_cons];rw[gh V a (dT hf.1),sD h1 hf.2]
 |.const _::_,ts,h,_=>by simp[slotsOf]at h
 |.func _::_,ts,h,_=>by simp[slotsOf]at h
 |.global _::_,ts,h,_=>by simp[slotsOf]at h
theorem Inv.yielded{J J':o7}{w':World}{S':Nat->Prop}{F':List Nat}(hc:aK S (bW V w0) σ (tv V a) w F)(ha:a.tmps.size=N)(ig:a.defers=V.df)(jl:∀b,S0 b->S b)(gw:∀b,S b->S0 b\/bW V w0 b)(cU:jF V w0 w)
 (hJ:(σ 1000000).av=.abs J)(k1:w'.os=w.os)(k2:w'.tape=w.tape)(k3:w'.output=w.output)(k4:w.heap.size<=w'.heap.size)(k5:∀k,k<w.heap.size->k∉F 1000000->w'.heap[k]?=w.heap[k]?)
 (k6:∀c,S c->S' c)(k7:∀c,S' c->S c\/w.heap.size<=c\/c∈F 1000000)(k8:∀c,S' c->c<w'.heap.size)(k9:J'.here w' S' F')(Vf:F'.Nodup)(Qz:∀c∈F',(w.heap.size<=c\/c∈F 1000000)/\c<w'.heap.size/\¬S' c):
 Inv N V w0 S0 (iS σ [(1000000,.abs J')]) a w':=by
 have ct:=cU.size;have hσ:iS σ [(1000000,.abs J')]=fB σ 1000000 ⟨.abs J',(σ 1000000).g1,(σ 1000000).g2+1⟩:=rfl;rw[hσ];have wE:∀c,(w.heap.size<=c\/c∈F 1000000)->bW V w0 c:=fun c Pa=>Pa.elim (fun h=>.inl (Nat.le_trans ct h)) fun h=>(hc.own _ c h).1;have AT:∀i,i≠1000000->∀b∈F i,b<w.heap.size/\b∉F 1000000:=fun i hi b hb=>⟨(hc.own i b hb).2.1,hc.cx i 1000000 hi b hb⟩;have J6:∀b,S b->b<w.heap.size/\b∉F 1000000:=fun b hb=>⟨hc.shr b hb,fun h=>(hc.own _ b h).2.2 hb⟩;refine⟨S',fB F 1000000 F',?_,ha,ig,fun b hb=>k6 b (jl b hb),fun b hb=>?_,?_⟩
 ·refine hc.step (w':=w') (T':=tv V a) ⟨fun r=>?_,fun r=>?_,fun _ _=>rfl,fun r e1 e2=>?_⟩ k6 (fun i=>?_) (fun i=>?_) (fun i j fX b hb=>?_) (fun i b hb=>?_) k8
  ·by_cases hr:r=1000000
   ·subst hr;rw[ak];exact Nat.le_refl _
   rw[ab _ _ hr];exact Nat.le_refl _
  ·by_cases hr:r=1000000
   ·subst hr;rw[ak];exact Nat.le_succ _
   rw[ab _ _ hr];exact Nat.le_refl _
  ·by_cases hr:r=1000000
   ·subst hr;rw[ak]at e2;simp at e2
   rw[ab _ _ hr];exact⟨fun p y hy=>⟨y,hy⟩,fun b hb=>by rcases hb with hb|hb;exact k5 b (J6 b hb).1 (J6 b hb).2;exact k5 b (AT r hr b hb).1 (AT r hr b hb).2⟩
  ·by_cases hi:i=1000000
   ·subst hi;right;unfold ai;rw[ak,ak];exact k9
   left;rw[ab _ _ hi,ab _ _ hi];exact⟨rfl,rfl,rfl,fun b hb=>by rcases hb with hb|hb;exact k5 b (J6 b hb).1 (J6 b hb).2;exact k5 b (AT i hi b hb).1 (AT i hi b hb).2⟩
  ·by_cases hi:i=1000000
   ·subst hi;rw[ak];exact Vf
   rw[ab _ _ hi];exact hc.nodup i
  ·by_cases hi:i=1000000
   ·subst hi;rw[ak]at hb;rw[ab _ _ (fun e=>fX e.symm)];intro Eg;have:=AT j (fun e=>fX e.symm) b Eg;rcases(Qz b hb).1 with h|h
    ·omega
    exact this.2 h
   rw[ab _ _ hi]at hb;by_cases hj:j=1000000
   ·subst hj;rw[ak];intro Eg;have:=AT i hi b hb;rcases(Qz b Eg).1 with h|h
    ·omega
    exact this.2 h
   rw[ab _ _ hj];exact hc.cx i j fX b hb
  by_cases hi:i=1000000
  ·subst hi;rw[ak]at hb;exact⟨wE b (Qz b hb).1,(Qz b hb).2⟩
  rw[ab _ _ hi]at hb;have ho:=hc.own i b hb;refine⟨ho.1,Nat.lt_of_lt_of_le ho.2.1 k4,fun h=>?_⟩;rcases k7 b h with h|h|h
  ·exact ho.2.2 h
  ·omega
  exact(AT i hi b hb).2 h
 ·rcases k7 b hb with h|h
  ·exact gw b h
  exact .inr (wE b h)
 refine⟨k1.trans cU.os,k2.trans cU.tape,k3.trans cU.output,Nat.le_trans ct k4,fun k hk hg=>?_⟩;rw[k5 k (Nat.lt_of_lt_of_le hk ct) (fun h=>?_)]
 ·exact cU.block k hk hg
 rcases(hc.own _ k h).1 with h|h
 ·omega
 exact hg h
theorem Lp{K:Act->World->Prop}{Q:Exit->Act->World->Prop}(hG:iV P V w0)(h:Inv N V w0 S0 σ a w)(o:Oper)(bj:fO N o=true){res:Ask}{ms:List Mv}{kn:List Ob}(hm:kl P σ o res=some (ms,kn))(hr:Mv.runs σ ms=some σ')
 (hs:∀o∈kn,o.ok P)(hK:∀a' w',Inv N V w0 S0 σ' a' w'->K a' w'):Oper.QO V.rd P o a w K Q:=by
 cases res with
 |Nl r=>
  simp only[kl]at hm;split at hm
  ·rename_i X9 afc h1;simp only[Option.some.injEq,Prod.mk.injEq]at hm;obtain⟨rfl,rfl⟩:=hm;exact Ls hG h o bj h1 hr (fun ob hob=>hs (.call ob) (List.mem_map_of_mem hob)) hK
  simp at hm
 |refs out r=>
  simp only[kl]at hm;split at hm<;>try(simp at hm;done)
  rename_i c bH;split at hm<;>try(simp at hm;done)
  rename_i f hc;unfold fO at bj;rw[Bool.and_eq_true,bH]at bj;obtain⟨hd,bj⟩:=bj;simp only[hc,Bool.and_eq_true]at bj;obtain⟨g,p,q,e1,e2⟩:=wR hG h (d:=o.dst) (fun x hx=>by rw[hx]at hd;simpa using hd) f bj.2 c.args.toList bj.1 hm hr hs;have hx:execOp a.eval o=callFunc g (p++(c.args.toList.map a.eval).toArray++q):=by
   have:(c.args.toList.map a.eval).toArray=c.args.map a.eval:=by apply Array.ext';simp
   simp only[execOp,bH,Go.resolve,hc,Deferred.ofValue,e1,this];rfl
  refine Oper.nO (by simp[bH]) ?_;rw[hx];exact e2 _ o a K Q fun v w' hi=>hK _ _ hi
 |jI=>
  simp only[kl]at hm;split at hm<;>try(simp at hm;done)
  rename_i d dy;split at hm<;>try(simp at hm;done)
  rename_i t x l hh m bH;split at hm<;>try(simp at hm;done)
  split at hm<;>try(simp at hm;done)
  rename_i X9 hw;simp only[Option.some.injEq,Prod.mk.injEq]at hm;obtain⟨rfl,rfl⟩:=hm;unfold fO at bj;rw[Bool.and_eq_true,bH]at bj;obtain⟨hd,bj⟩:=bj;simp only[dy,decide_eq_true_eq]at hd;simp only[Bool.and_eq_true,Option.all_eq_true,Bool.or_eq_true,Option.isNone_iff_eq_none]at bj;exact oT dy (by simp only[execOp,bH];rfl) (Hu h hd x l hh bj.1.1.1.1 bj.1.1.1.2 bj.1.1.2 hw hr) hK
 |M4 J' b=>
  simp only[kl]at hm;split at hm<;>try(simp at hm;done)
  rename_i c bH;split at hm<;>try(simp at hm;done)
  rename_i f hc;split at hm<;>try(simp at hm;done)
  rename_i C hC;split at hm<;>try(simp at hm;done)
  rename_i J hJ;split at hm<;>try(simp at hm;done)
  rename_i ys mC;simp only[Option.some.injEq,Prod.mk.injEq]at hm;obtain⟨rfl,rfl⟩:=hm;unfold fO at bj;rw[Bool.and_eq_true,bH]at bj;obtain⟨hd,bj⟩:=bj;simp only[hc,Bool.and_eq_true]at bj;obtain⟨S,F,gL,ha,ig,jl,gw,cU⟩:=h;have za:(resolve σ f).cont=some (.pv C):=by unfold bo.cont;rw[hC]
  obtain⟨F1,e1,-⟩:=aM gL f bj.2 za;simp only[Rel]at e1;have fb:=pN gL c.args.toList bj.1 mC;obtain⟨l,hv,hy⟩:=hs (.M4 C J J' ys b) (by simp) _ e1.1;have gg:o7.here J w S (F 1000000):=by have:=gL.rel 1000000;unfold ai at this;rw[hJ]at this;exact this
  obtain⟨fn,tmps,assign,body,q1,q2⟩:=hy V.rd w S (F 1000000) _ (hG.H8 cU) (hG.bW.mono fun b hb=>(gL.own _ b hb).1) gg (gL.nodup _) (fun b hb=>(gL.own _ b hb).2) gL.shr fb;have hx:(execOp a.eval o).run P w=.ok (.round l fn tmps assign body) w:=by
   have:(c.args.toList.map a.eval).toArray=c.args.map a.eval:=by apply Array.ext';simp
   rw[this]at q1;simp only[execOp,bH,Go.resolve,hc,Deferred.ofValue,hv];simp only[Sem.run_bind,Sem.run_pure,Result.andThen_ok];have e2:invoke (.fn (.yield l) #[]) (#[]++Array.map a.eval c.args)=Instr.yield l (Array.map a.eval c.args):=by simp[invoke]
   rw[e2];exact q1
  refine Oper.nO (by simp[bH]) ?_;rw[hx,Oper.uponIn_round];refine⟨(fun h=>by cases h),q2.mono ?_⟩;rintro e w'⟨rfl,S',F',k1,k2,k3,k4,k5,k6,k7,k8,k9,Vf,Qz⟩;have hi:=Inv.yielded (J':=J') gL ha ig jl gw cU hJ k1 k2 k3 k4 k5 k6 k7 k8 k9 Vf Qz;show K (a.put o.dst (.bool b)) w';cases dy:o.dst with
  |none=>rw[dy]at hr;simp only[cw,Mv.runs,Mv.run,Option.some.injEq]at hr;subst hr;exact hK _ _ hi
  |some d=>rw[dy]at hr hd;simp only[cw,List.cons_append,List.nil_append,Mv.runs,Mv.run]at hr;simp only[Option.some.injEq]at hr;subst hr;refine hK _ _ (hi.make (M:=[]) (by simpa using hd) (Below.refl _ _) fun S F _=>⟨[],by simp[Rel,scalar],by simp,by simp⟩)
 |Oa J' r=>
  simp only[kl]at hm;split at hm<;>try(simp at hm;done)
  rename_i c bH;split at hm<;>try(simp at hm;done)
  rename_i f hc;split at hm<;>try(simp at hm;done)
  rename_i x xs fb;split at hm<;>try(simp at hm;done)
  rename_i C hC;split at hm<;>try(simp at hm;done)
  rename_i g hf;split at hm<;>try(simp at hm;done)
  rename_i J hJ;split at hm<;>try(simp at hm;done)
  rename_i ys mC;simp only[Option.some.injEq,Prod.mk.injEq]at hm;obtain⟨rfl,rfl⟩:=hm;unfold fO at bj;rw[Bool.and_eq_true,bH]at bj;obtain⟨hd,bj⟩:=bj;simp only[hc,fb,List.all_cons,Bool.and_eq_true]at bj;obtain⟨S,F,gL,ha,ig,jl,gw,cU⟩:=h;have za:(resolve σ x).cont=some (.pv C):=by unfold bo.cont;rw[hC]
  obtain⟨F1,e1,-⟩:=aM gL x bj.1.1 za;simp only[Rel]at e1;have mL:=pN gL xs bj.1.2 mC;obtain⟨Ff,q1,-⟩:=aM gL f bj.2 hf;simp only[Rel]at q1;obtain⟨af,cf,G1,G2,qe,qa,qc,-⟩:=q1;have haf:af=#[]:=by simp only[Cells]at qa;apply Array.ext';simpa using qa.1
  have acv:cf=#[]:=by simp only[Cells]at qc;apply Array.ext';simpa using qc.1
  subst haf acv;have gg:o7.here J w S (F 1000000):=by have:=gL.rel 1000000;unfold ai at this;rw[hJ]at this;exact this
  have J2:=hs (.Oa g C J J' ys r) (by simp) _ e1.1 w S (F 1000000) _ (hG.H8 cU) (hG.bW.mono fun b hb=>(gL.own _ b hb).1) gg (gL.nodup _) (fun b hb=>(gL.own _ b hb).2) gL.shr mL;have hx:execOp a.eval o=callFunc g (a.eval x::xs.map a.eval).toArray:=by
   have:(c.args.toList.map a.eval).toArray=c.args.map a.eval:=by apply Array.ext';simp
   rw[fb,List.map_cons]at this;simp only[execOp,bH,Go.resolve,hc,Deferred.ofValue,qe,this];simp[invoke]
  refine Oper.nO (by simp[bH]) ?_;rw[hx];refine J2 _ o a K Q fun v w' hq=>?_;obtain⟨S',F',k1,k2,k3,k4,k5,k6,k7,k8,k9,Vf,Qz,k12⟩:=hq;have hi:=Inv.yielded (J':=J') gL ha ig jl gw cU hJ k1 k2 k3 k4 k5 k6 k7 k8 k9 Vf Qz;show K (a.put o.dst v) w';cases dy:o.dst with
  |none=>rw[dy]at hr;simp only[cw,Mv.runs,Mv.run,Option.some.injEq]at hr;subst hr;exact hK _ _ hi
  |some d=>rw[dy]at hr hd;simp only[cw,List.cons_append,List.nil_append,Mv.runs,Mv.run]at hr;simp only[Option.some.injEq]at hr;subst hr;refine hK _ _ (hi.make (M:=[]) (by simpa using hd) (Below.refl _ _) fun S F _=>⟨[],k12 _ _,by simp,by simp⟩)
 |mkc=>
  simp only[kl]at hm;split at hm<;>try(simp at hm;done)
  rename_i d dy;split at hm<;>try(simp at hm;done)
  rename_i g first aW bH
  split at hm<;>try(simp at hm;done)
  rename_i Sc;split at hm<;>try(simp at hm;done)
  rename_i ts TN;split at hm<;>try(simp at hm;done)
  rename_i cR;simp only[Option.some.injEq,Prod.mk.injEq]at hm;obtain⟨rfl,rfl⟩:=hm;have Dp:∀t∈ts,t≠d:=by simpa using cR
  unfold fO at bj;rw[Bool.and_eq_true,bH]at bj;obtain⟨hd,bj⟩:=bj;simp only[dy,decide_eq_true_eq]at hd;simp only[Bool.and_eq_true]at bj;refine oT (s:=Instr.makeFunc (.func g) (first.map a.eval) (aW.map a.eval)) dy (by simp only[execOp,bH]) ?_ hK;simp only[Mv.bu,Option.some.injEq]at hr;subst hr;have e1:first.map a.eval=#[]:=by apply Array.ext';simp[Sc]
  have e2:aW.map a.eval=(ts.map fun t=>tv V a t).toArray:=by apply Array.ext';rw[Array.toList_map,sD (V:=V) TN bj.2]
  refine⟨.func (.func g) #[] (ts.map fun t=>tv V a t).toArray,w,by rw[e1,e2];rfl,h.put hd fun S F hc=>?_⟩;unfold ai;simp only[ak];refine⟨trivial,fun q hq=>?_,fun _=>?_⟩
  ·obtain⟨t,ht,rfl⟩:=List.mem_map.1 hq;rw[ab _ _ (Dp t ht)];exact Nat.le_refl _
  rw[List.map_map]
  congr 2
  exact List.map_congr_left fun t ht=>by simp only[Function.comp];rw[ab _ _ (Dp t ht)]
 |dY out r=>
  simp only[kl]at hm;split at hm<;>try(simp at hm;done)
  rename_i c bH;split at hm<;>try(simp at hm;done)
  rename_i t hc;split at hm<;>try(simp at hm;done)
  rename_i g aW bQ;split at hm<;>try(simp at hm;done)
  rename_i iB;unfold fO at bj;rw[Bool.and_eq_true,bH]at bj;obtain⟨hd,bj⟩:=bj;simp only[hc,Bool.and_eq_true]at bj;simp only[List.all_eq_true,Bool.and_eq_true,decide_eq_true_eq,beq_iff_eq]at iB;have uV:a.eval (.tmp t)=.func (.func g) #[] (aW.map fun q=>tv V a q.1).toArray:=by obtain⟨S,F,gL,-⟩:=h;rw[gh V a (dT bj.2)];have:=gL.rel t;unfold ai at this;rw[bQ]at this;exact this.2.2 fun q hq=>(iB q hq).2
  have iC:(c.args.toList++aW.map fun q=>Operand.tmp q.1).all aE=true:=by rw[List.all_append,bj.1,Bool.true_and,List.all_eq_true];intro x hx;obtain⟨q,hq,rfl⟩:=List.mem_map.1 hx;simpa[aE]using(iB q hq).1.1
  have hm2:rr o.dst (resolve σ (.func g)) ((c.args.toList++aW.map fun q=>Operand.tmp q.1).map (resolve σ)) out r=some (ms,kn):=by rw[List.map_append,List.map_map];exact hm
  obtain⟨g',p,q,e1,e2⟩:=wR hG h (d:=o.dst) (fun x hx=>by rw[hx]at hd;simpa using hd) (.func g) rfl _ iC hm2 hr hs;have SF:g=g'/\#[]=p/\#[]=q:=by have:Value.func (.func g) #[] #[]=.func (.func g') p q:=e1;simpa using this
  obtain⟨rfl,rfl,rfl⟩:=SF;have hcv:aW.map (fun q=>a.eval (.tmp q.1))=aW.map fun q=>tv V a q.1:=List.map_congr_left fun q hq=>gh V a (iB q hq).1.1;have hx:execOp a.eval o=callFunc g (#[]++((c.args.toList++aW.map fun q=>Operand.tmp q.1).map a.eval).toArray++#[]):=by
   have e3:((c.args.toList++aW.map fun q=>Operand.tmp q.1).map a.eval).toArray=c.args.map a.eval++(aW.map fun q=>tv V a q.1).toArray:=by apply Array.ext';rw[List.map_append,List.map_map];simp only[Array.toList_append,Array.toList_map];rw[<-hcv];rfl
   rw[e3];simp only[execOp,bH,Go.resolve,hc,Deferred.ofValue,uV];simp[invoke]
  refine Oper.nO (by simp[bH]) ?_;rw[hx];exact e2 _ o a K Q fun v w' hi=>hK _ _ hi
 |ext out r=>
  simp only[kl]at hm;split at hm<;>try(simp at hm;done)
  rename_i iC
  replace iC:=(Bool.and_eq_true _ _▸(SB iC).1:_/\_).1
  split at hm<;>try(simp at hm;done)
  rename_i X9 H ys hl;simp only[Option.some.injEq,Prod.mk.injEq]at hm;obtain⟨rfl,rfl⟩:=hm;unfold JH at hl;split at hl<;>try(simp at hl;done)
  rename_i KL mC;split at hl<;>try(simp at hl;done)
  rename_i gr;simp only[Option.some.injEq,Prod.mk.injEq]at hl;obtain⟨rfl,rfl,rfl⟩:=hl;have hd:∀x,o.dst=some x->x<N:=by unfold fO at bj;rw[Bool.and_eq_true]at bj;intro x hx;have:=bj.1;rw[hx]at this;simpa using this
  have hE:=yM (D:=Ext P o) (fun vs w R R' h1 h2=>Ext.mono h1 h2) (first:=[]) (captured:=[]) (af:=#[]) (cf:=#[]) hG h hd o.op.operands.toList iC (fun S F hc=>by simp[Cells]) mC gr hr (by have:=hs (.ext o ((cL [] (o.op.operands.toList.map (resolve σ))).map (·.2)) KL out r) (by simp);rw[List.nil_append,List.append_nil];exact fun w S V vs F hl _ hc=>this w S V vs F hl hc)
  obtain⟨nx,v,w',k1,k2,k3⟩:=hE a.eval (by simp);rcases k2 with rfl|⟨rfl,dy⟩
  ·exact fY k1 (hK _ _ k3)
  refine Oper.nO (fun c hc=>?_) (by rw[k1,Oper.uponIn_skip];rw[dy]at k3⊢;exact hK _ _ k3);simp only[execOp,hc]at k1;cases hz:(Go.resolve a.eval c o.type).run P w<;>simp[hz]at k1
 |Qw y=>
  simp only[kl]at hm;split at hm<;>try(simp at hm;done)
  rename_i t m x ok bH;split at hm<;>try(simp at hm;done)
  rename_i K0 k h1 h2;split at hm<;>try(simp at hm;done)
  rename_i fS;simp only[Bool.and_eq_true]at fS;simp only[Option.some.injEq,Prod.mk.injEq]at hm;obtain⟨rfl,rfl⟩:=hm;unfold fO at bj;rw[Bool.and_eq_true,bH]at bj;obtain⟨hd,bj⟩:=bj;simp only[Bool.and_eq_true]at bj;obtain⟨v,hv⟩:∃v,(Instr.lookup t (a.eval m) (a.eval x) ok).run P w=.ok v w:=by obtain⟨S,F,gL,-⟩:=h;obtain⟨F1,e1,-⟩:=aM gL m bj.1 h1;obtain⟨F2,e2,-⟩:=aM gL x bj.2 h2;rw[Rel.az _ e2 fS.1]at e2;simp only[Rel]at e1;obtain⟨b,o',k1,k2,k3,-⟩:=e1;obtain⟨v,hv,-⟩:=hs (.Qw t ok K0 k y) (by simp) w S b o' _ k2 k3 e2;exact⟨v,by rw[k1];exact hv⟩
  have eH:∀S F,aK S (bW V w0) σ (tv V a) w F->Rel w S y v []:=by intro S F gL;obtain⟨F1,e1,-⟩:=aM gL m bj.1 h1;obtain⟨F2,e2,-⟩:=aM gL x bj.2 h2;rw[Rel.az _ e2 fS.1]at e2;simp only[Rel]at e1;obtain⟨b,o',k1,k2,k3,-⟩:=e1;obtain⟨v',Vx,pc⟩:=hs (.Qw t ok K0 k y) (by simp) w S b o' _ k2 k3 e2;rw[k1,Vx]at hv;simp only[Result.ok.injEq]at hv;rw[<-hv.1];exact pc
  refine fY (v:=v) (w':=w) ?_ ?_
  ·simp only[execOp,bH];simp[hv]
  cases dy:o.dst with
  |none=>rw[dy]at hr;simp only[cw,Mv.runs,Option.some.injEq]at hr;subst hr;exact hK _ _ h
  |some d=>rw[dy]at hr hd;simp only[cw,List.nil_append,iJ,Option.some.injEq]at hr;subst hr;exact hK _ _ (h.make (M:=[]) (by simpa using hd) (Below.refl _ _) fun S F gL=>⟨[],eH S F gL,by simp,by simp⟩)
end
def iW(σ:St)(ops:Array Oper)(o:Oper):Option Bool:=
 match o.guard with
 |none=>some true
 |some (j,want)=>match(ops[j]?).bind (·.dst)with
  |some d=>match Nat.blt d 1000000 with
   |true=>match(σ d).av with
    |.v (.bool b)=>some (b==want)
    |.bC []=>some false
    |_=>none
   |false=>none
  |none=>none
def vZ(o:Oper):List Mv:=match o.dst with|some d=>[.put d (.bC [])]|none=>[]
def dN(P:Program)(σ:St)(ops:Array Oper)(o:Oper)(res:Ask):Option (List Mv×List Ob):=
 match iW σ ops o with
 |some true=>kl P σ o res
 |some false=>some (vZ o,[])
 |none=>none
def pvK(r:bo):List Nat:=
 match r.sl.av with
 |.pv _=>[1000000]
 |_=>[]
def DD(σ:St):Op->List Nat
 |.move (.tmp t)=>[t]
 |op=>op.operands.toList.flatMap (oO σ)
def Gc(ops:Array Oper)(o:Oper):List Nat:=match o.guard with
 |some (j,_)=>((ops[j]?).bind (·.dst)).toList
 |none=>[]
def wH(σ:St)(ops:Array Oper)(o:Oper):List Nat:=
 DD σ o.op++Gc ops o++(match o.op with
  |.call c=>match c.callee with
   |.value f=>pvK (resolve σ f)++(match c.args.toList with
     |x::_=>pvK (resolve σ x)
     |[]=>[])
   |_=>[]
  |_=>[])
def NU(σ:St)(o:Oper):Option Nat:=match o.op with
 |.call ⟨.builtin .append,args,_⟩=>match args.toList with
  |[.tmp t,_]=>match(σ t).av with
   |.bg r _ _ (.deref::.idx _ _::_)=>match(resolve σ (.tmp t)).cont with
    |some (.list .own _ _)=>match o.dst with
     |some d=>if d=r then none else some r
     |none=>none
    |_=>none
   |_=>none
  |_=>none
 |_=>none
def gW(σ:St)(ops:Array Oper)(o:Oper):List Nat:=match sB σ o.op with
 |some (a,r)=>(if a=r then[]else[3*a])++(Gc ops o).map (3* ·)++[3*r+1]
 |none=>(wH σ ops o).map (3* ·)++(match NU σ o with
  |some r=>[3*r+2]
  |none=>[])
section
variable{P:Program}{N:Nat}{w0 w w':World}{V:Hid}{S S0 S':Nat->Prop}{B:Nat->Prop}{σ σ' τ:St}{a:Act}{F:Nat->List Nat}{K:Act->World->Prop}{Q:Exit->Act->World->Prop}{ops:Array Oper}{o:Oper}
theorem Lt{res:AV}(h:∀x∈o.op.operands.toList,resolve τ x=resolve σ x):w6 P τ o res=w6 P σ o res:=by
 have m1:∀(l:List Operand),(∀x∈l,resolve τ x=resolve σ x)->l.map (resolve τ)=l.map (resolve σ):=fun l hl=>List.map_congr_left hl;have m2:∀(l:Option Operand),(∀x∈l,resolve τ x=resolve σ x)->l.map (resolve τ)=l.map (resolve σ):=fun l hl=>by cases l<;>simp_all
 cases hd:o.dst with
 |none=>
  simp only[w6,hd];cases bH:o.op<;>simp only[bH,Op.operands]at h⊢
  case store t a x=>simp at h;rw[h.1,h.2]
  case call c=>cases hc:c.callee<;>simp only[hc,Call.operands]at h⊢;simp at h;rw[h.1,m1 c.args.toList (by simpa using h.2)]
 |some d=>
  simp only[w6,hd];cases bH:o.op<;>simp only[bH,Op.operands]at h⊢
  case slice t x l hh m=>simp at h;rw[h.1,m2 l (fun y hy=>h.2 y (.inl hy)),m2 hh (fun y hy=>h.2 y (.inr (.inl hy))),m2 m (fun y hy=>h.2 y (.inr (.inr hy)))]
  case makeFunc f p q=>simp at h;rw[m1 p.toList (fun y hy=>h y (.inl (by simpa using hy))),m1 q.toList (fun y hy=>h y (.inr (by simpa using hy)))]
  case build t ps=>simp at h;have:(ps.toList.map fun p=>resolve τ p.2)=ps.toList.map fun p=>resolve σ p.2:=List.map_congr_left fun p hp=>h p.2 p.1 (by simpa using hp);rw[this]
  case buildSlice t n ps=>simp at h;have:(ps.toList.map fun p=>resolve τ p.2)=ps.toList.map fun p=>resolve σ p.2:=List.map_congr_left fun p hp=>h p.2 p.1 (by simpa using hp);rw[this]
  case call c=>
   cases hc:c.callee<;>simp only[hc,Call.operands]at h⊢
   ·simp at h;rw[h.1,m1 c.args.toList (by simpa using h.2)]
   simp at h;rw[m1 c.args.toList (by simpa using h)]
  all_goals(first|rfl|(simp at h;simp only[h]))
theorem vY:∀{xs:List Operand}{ts:List Nat},slotsOf xs=some ts->∀t∈ts,Operand.tmp t∈xs
 |[],ts,h,t,ht=>by simp only[slotsOf,Option.some.injEq]at h;subst h;simp at ht
 |.tmp u::xs,ts,h,t,ht=>by
  simp only[slotsOf]at h;split at h<;>try(simp at h;done)
  rename_i ts' h1;simp only[Option.some.injEq]at h;subst h;rcases List.mem_cons.1 ht with rfl|ht
  ·simp
  exact List.mem_cons_of_mem _ (vY h1 t ht)
 |.const _::_,ts,h,_,_=>by simp[slotsOf]at h
 |.func _::_,ts,h,_,_=>by simp[slotsOf]at h
 |.global _::_,ts,h,_,_=>by simp[slotsOf]at h
theorem EH{a:Nat}(hz:∀s∈roots σ a,τ s=σ s):qU τ a=qU σ a:=by
 have ha:τ a=σ a:=hz a (by unfold roots;split<;>simp);unfold qU;rw[ha];cases bQ:(σ a).av with
 |bg r g1 g2 p=>have hr:τ r=σ r:=hz r (by unfold roots;rw[bQ];simp);simp only[hr]
 |_=>rfl
theorem EG{op:Op}(hz:∀x∈op.operands.toList,∀s∈oO σ x,τ s=σ s):sB τ op=sB σ op:=by
 unfold sB;split
 ·rename_i t a;exact EH fun s hs=>hz (.tmp a) (by simp[Op.operands]) s hs
 rfl
theorem Lr{res:Ask}(hz:∀x∈o.op.operands.toList,∀s∈oO σ x,τ s=σ s)(h:∀x∈o.op.operands.toList,resolve τ x=resolve σ x)(hy:∀c f C,o.op=.call c->c.callee=.value f->(resolve σ f).sl.av=.pv C->τ 1000000=σ 1000000)
 (LX:∀c f x xs C,o.op=.call c->c.callee=.value f->c.args.toList=x::xs->(resolve σ x).sl.av=.pv C->τ 1000000=σ 1000000):kl P τ o res=kl P σ o res:=by
 cases res with
 |Nl r=>simp only[kl,Lt h]
 |refs out r=>
  have m1:∀(l:List Operand),(∀x∈l,resolve τ x=resolve σ x)->l.map (resolve τ)=l.map (resolve σ):=fun l hl=>List.map_congr_left hl;simp only[kl];cases bH:o.op<;>simp only[bH,Op.operands]at h⊢
  case call c=>cases hc:c.callee<;>simp only[hc,Call.operands]at h⊢;simp at h;rw[h.1,m1 c.args.toList (by simpa using h.2)]
 |jI=>
  have m2:∀(l:Option Operand),(∀x∈l,resolve τ x=resolve σ x)->l.map (resolve τ)=l.map (resolve σ):=fun l hl=>by cases l<;>simp_all
  simp only[kl];cases o.dst with
  |none=>rfl
  |some d=>
   cases bH:o.op<;>simp only[bH,Op.operands]at h⊢
   case slice t x l hh m=>simp at h;rw[h.1,m2 l (fun y hy=>h.2 y (.inl hy)),m2 hh (fun y hy=>h.2 y (.inr (.inl hy)))]
 |M4 J' b=>
  have m1:∀(l:List Operand),(∀x∈l,resolve τ x=resolve σ x)->l.map (resolve τ)=l.map (resolve σ):=fun l hl=>List.map_congr_left hl;simp only[kl];cases bH:o.op<;>simp only[bH,Op.operands]at h⊢
  case call c=>
   cases hc:c.callee<;>simp only[hc,Call.operands]at h⊢
   case value f=>
    simp at h;rw[h.1,m1 c.args.toList (by simpa using h.2)];cases hC:(resolve σ f).sl.av<;>simp only
    case pv C=>rw[hy c f C bH hc hC]
 |mkc=>
  simp only[kl];cases o.dst with
  |none=>rfl
  |some d=>
   cases bH:o.op<;>simp only[bH,Op.operands]at hz⊢
   case makeFunc f p q=>
    cases f<;>simp only;cases p.toList<;>simp only;cases hs:slotsOf q.toList<;>simp only;rename_i g ts;have:(ts.map fun t=>(t,(τ t).g1))=ts.map fun t=>(t,(σ t).g1):=List.map_congr_left fun t ht=>by have:=vY hs t ht;rw[hz (.tmp t) (by simp;right;simpa using this) t (by simp only[oO,roots];split<;>simp)]
    rw[this]
 |dY out r=>
  simp only[kl];cases bH:o.op<;>simp only[bH,Op.operands]at hz h⊢
  case call c=>
   cases hc:c.callee<;>simp only[hc,Call.operands]at hz h⊢
   case value f=>
    cases f with
    |tmp t=>
     have et:τ t=σ t:=hz (.tmp t) (by simp) t (by simp only[oO,roots];split<;>simp);simp only[et];cases bQ:(σ t).av<;>simp only
     case dY g aW=>
      have eq:∀q∈aW,τ q.1=σ q.1:=fun q hq=>hz (.tmp t) (by simp) q.1 (by simp only[oO,roots,bQ];simp only[List.mem_cons,List.mem_map];exact .inr ⟨q,hq,rfl⟩);have e1:aW.all (fun q=>decide (q.1<1000000)&&(τ q.1).av.plain&&(τ q.1).g1==q.2)=aW.all (fun q=>decide (q.1<1000000)&&(σ q.1).av.plain&&(σ q.1).g1==q.2):=by rw[Bool.eq_iff_iff,List.all_eq_true,List.all_eq_true];exact⟨fun k q hq=>by have:=k q hq;rwa[eq q hq]at this,fun k q hq=>by have:=k q hq;rwa[eq q hq]⟩
      rw[e1];split
      ·rename_i Pa;simp only[List.all_eq_true,Bool.and_eq_true]at Pa;have m1:c.args.toList.map (resolve τ)=c.args.toList.map (resolve σ):=List.map_congr_left fun x hx=>h x (by simp;right;simpa using hx);have m2:(aW.map fun q=>resolve τ (.tmp q.1))=aW.map fun q=>resolve σ (.tmp q.1):=List.map_congr_left fun q hq=>by
        refine resolve_congr _ fun s hs=>?_;have gJ:=(Pa q hq).1.2;have:s=q.1:=by
         simp only[oO,roots]at hs;split at hs
         ·rename_i e;rw[e]at gJ;simp[AV.plain]at gJ
         ·rename_i e;rw[e]at gJ;simp[AV.plain]at gJ
         ·rename_i e;rw[e]at gJ;simp[AV.plain]at gJ
         simpa using hs
        rw[this];exact eq q hq
       rw[m1,m2];rfl
      rfl
    |_=>rfl
 |Oa J' r=>
  have m1:∀(l:List Operand),(∀x∈l,resolve τ x=resolve σ x)->l.map (resolve τ)=l.map (resolve σ):=fun l hl=>List.map_congr_left hl;simp only[kl];cases bH:o.op<;>simp only[bH,Op.operands]at h⊢
  case call c=>
   cases hc:c.callee<;>simp only[hc,Call.operands]at h⊢
   case value f=>
    simp at h;cases fb:c.args.toList with
    |nil=>rfl
    |cons x xs=>
     have hx:∀y∈x::xs,resolve τ y=resolve σ y:=fun y hy=>h.2 y (by rw[<-fb]at hy;simpa using hy);simp only[h.1,hx x (by simp),m1 xs (fun y hy=>hx y (by simp[hy]))];cases hC:(resolve σ x).sl.av<;>simp only
     case pv C=>rw[LX c f x xs C bH hc fb hC]
 |ext out r=>
  have m1:o.op.operands.toList.map (resolve τ)=o.op.operands.toList.map (resolve σ):=List.map_congr_left h;have m2:oZ τ o.op=oZ σ o.op:=by unfold oZ;rw[EG hz]
  simp only[kl,m1,m2]
 |Qw y=>
  simp only[kl];cases bH:o.op<;>simp only[bH,Op.operands]at h⊢
  case lookup t m x ok=>simp at h;rw[h.1,h.2]
theorem Da{t d:Nat}(h:τ t=σ t):cm d (resolve τ (.tmp t))=cm d (resolve σ (.tmp t)):=by simp only[resolve,bo.of,h];cases(σ t).av<;>rfl
theorem N1{res:Ask}{t:Nat}(ho:o.op=.move (.tmp t))(h:τ t=σ t):kl P τ o res=kl P σ o res:=by
 have e:∀d,cm d (resolve τ (.tmp t))=cm d (resolve σ (.tmp t)):=fun d=>Da h;cases res with
 |Nl r=>
  simp only[kl,w6,ho];cases o.dst with
  |none=>rfl
  |some d=>simp only[e]
 |ext out r=>simp[kl,ho,oZ,Kd]
 |_=>
  simp only[kl,ho]
  try(cases o.dst<;>rfl)
theorem vT(h:∀s∈Gc ops o,τ s=σ s):iW τ ops o=iW σ ops o:=by
 unfold iW;split
 ·rfl
 rename_i j want hg;cases hd:(ops[j]?).bind (·.dst)with
 |none=>rfl
 |some d=>simp only;rw[h d (by unfold Gc;simp[hg,hd])]
theorem CW{res:Ask}(h:∀s∈wH σ ops o,τ s=σ s):dN P τ ops o res=dN P σ ops o res:=by
 have h1:kl P τ o res=kl P σ o res:=by
  by_cases hm:∃t,o.op=.move (.tmp t)
  ·obtain⟨t,ht⟩:=hm;exact N1 ht (h t (by unfold wH;rw[ht];simp[DD]))
  have ef:DD σ o.op=o.op.operands.toList.flatMap (oO σ):=by
   unfold DD;split
   ·rename_i t ht;exact absurd ⟨t,ht⟩ hm
   rfl
  exact Lr (fun x hx s hs=>h s (by
   unfold wH;rw[ef,List.mem_append,List.mem_append,List.mem_flatMap];exact .inl (.inl ⟨x,hx,hs⟩))) (fun x hx=>resolve_congr x fun s hs=>h s (by
   unfold wH;rw[ef,List.mem_append,List.mem_append,List.mem_flatMap];exact .inl (.inl ⟨x,hx,hs⟩))) (fun c f C e1 e2 e3=>h _ (by
   unfold wH;rw[List.mem_append,e1];right;simp[e2,pvK,e3])) (fun c f x xs C e1 e2 e3 e4=>h _ (by
   unfold wH;rw[List.mem_append,e1];right;simp[e2,pvK,e3,e4]))
 unfold dN;rw[vT fun s hs=>h s (by unfold wH;rw[List.mem_append,List.mem_append];exact .inl (.inr hs)),h1]
theorem E7{x:AV}(h:Ln x=true):∃o sz xs,x=.box o (.list .own sz xs):=by
 unfold Ln at h;split at h
 ·exact⟨_,_,_,rfl⟩
 simp at h
theorem J3{x y:Sl}{o:Bool}{sz:Nat}{xs:List AV}(hx:x.av=.box o (.list .own sz xs))(h:pd y=pd x):(∃ys,y.av=.box o (.list .own sz ys))/\y.g1=x.g1/\y.g2=x.g2:=by
 have e1:pd x=⟨.box o (.list .own sz []),x.g1,x.g2⟩:=by unfold pd;rw[hx]
 rw[e1]at h;unfold pd at h;split at h
 ·rename_i o' f' fe ys e;simp only[Sl.mk.injEq,AV.box.injEq,AV.list.injEq,and_true]at h;obtain⟨⟨rfl,rfl,rfl⟩,h2,h3⟩:=h;exact⟨⟨_,e⟩,h2,h3⟩
 rename_i cR;rw[h]at cR;exact absurd rfl (cR _ _ _ _)
theorem yH{d t a r:Nat}(hs:qU σ a=some (a,r))(ha:a≠r->τ a=σ a)(hr:pd (τ r)=pd (σ r)):pG P d t (resolve τ (.tmp a))=pG P d t (resolve σ (.tmp a))/\qU τ a=some (a,r):=by
 have bj:∀(ti:TI)(f:Fl)(sz:Nat)(xs ys:List AV),fits ti (.list f sz xs)=fits ti (.list f sz ys):=fun _ _ _ _ _=>rfl;unfold qU at hs;split at hs
 ·rename_i r' g1 g2 p bQ;split at hs
  ·rename_i hc;obtain⟨rfl,hb,hg⟩:=hc;simp only[Option.some.injEq,Prod.mk.injEq,true_and]at hs;subst hs;obtain⟨o,sz,xs,hx⟩:=E7 hb;obtain⟨⟨ys,hy⟩,q1,q2⟩:=J3 hx hr;have cR:a≠r':=by rintro rfl;rw[hx]at bQ;simp at bQ
   have hta:=ha cR;refine⟨?_,?_⟩
   ·unfold pG;cases ga:bE P t with
    |none=>rfl
    |some ti=>simp only[resolve,bo.of,hta,bQ,bo.addr,bo.cont,hx,hy,q1,q2,hg,if_true,KS,a6,uJ,AV.plain,Bool.true_and,Bool.true_or,true_or,List.nil_append,AV.az,AV.cell,bj ti .own sz ys xs,Bool.false_eq_true,if_false,if_true]
   unfold qU;rw[hta,bQ];simp only[hy,q1,hg,Ln,and_self,if_true]
  simp at hs
 rename_i x cR;split at hs
 ·rename_i hb;simp only[Option.some.injEq,Prod.mk.injEq,true_and]at hs;subst hs;obtain⟨o,sz,xs,hx⟩:=E7 hb;obtain⟨⟨ys,hy⟩,q1,q2⟩:=J3 hx hr;refine⟨?_,?_⟩
  ·unfold pG;cases ga:bE P t with
   |none=>rfl
   |some ti=>simp only[resolve,bo.of,hx,hy,bo.addr,q1,q2,a6,AV.az,AV.cell,bj ti .own sz ys xs,Bool.false_eq_true,if_false,if_true]
  unfold qU;rw[hy];simp only[Ln,if_true]
 simp at hs
theorem E3{res:Ask}(h1:∀s,3*s∈gW σ ops o->τ s=σ s)(h2:∀r,3*r+1∈gW σ ops o->pd (τ r)=pd (σ r)):dN P τ ops o res=dN P σ ops o res:=by
 cases hs:sB σ o.op with
 |none=>refine CW fun s ON=>h1 s ?_;unfold gW;rw[hs];exact List.mem_append_left _ (List.mem_map.2 ⟨s,ON,rfl⟩)
 |some q=>
  obtain⟨a,r⟩:=q;have hf:gW σ ops o=(if a=r then[]else[3*a])++(Gc ops o).map (3* ·)++[3*r+1]:=by unfold gW;rw[hs]
  have VE:=hs;unfold sB at hs;split at hs
  ·rename_i t a' bH;have e:a'=a:=by
    unfold qU at hs;split at hs<;>split at hs<;>simp at hs<;>exact hs.1
   subst e;have ha:a'≠r->τ a'=σ a':=fun cR=>h1 a' (by rw[hf,if_neg cR];simp);have hr:pd (τ r)=pd (σ r):=h2 r (by rw[hf];simp);have hw:iW τ ops o=iW σ ops o:=vT fun s ON=>h1 s (by rw[hf];simp only[List.mem_append,List.mem_map];exact .inl (.inr ⟨s,ON,rfl⟩));have hx:kl P τ o res=kl P σ o res:=by
    cases res with
    |Nl r'=>
     simp only[kl,w6,bH];cases o.dst with
     |none=>rfl
     |some d=>simp only[(yH (P:=P) (d:=d) (t:=t) hs ha hr).1]
    |ext out r'=>
     have k1:oZ σ o.op=false:=by unfold oZ;rw[VE];split<;>rfl
     have k2:sB τ o.op=some (a',r):=by rw[bH];exact(yH (P:=P) (d:=0) (t:=t) hs ha hr).2
     have k3:oZ τ o.op=false:=by unfold oZ;rw[k2];split<;>rfl
     simp only[kl,k1,k3];rfl
    |_=>
     simp only[kl,bH]
     try(cases o.dst<;>rfl)
   unfold dN;rw[hw,hx]
  simp at hs
theorem Hd{d t r g1 g2:Nat}{p:Path}{x y:bo}{ms:List Mv}{sz:Nat}{xs:List AV}(h:jh P d t x y=some ms)(bQ:x.sl.av=.bg r g1 g2 p)(hc:x.cont=some (.list .own sz xs)):
 ∃My z,ms=[.take r d p,.make (d::My) d z]/\r∉My:=by
 unfold jh at h;split at h<;>try(simp at h;done)
 split at h<;>try(simp at h;done)
 split at h<;>try(simp at h;done)
 split at h<;>try(simp at h;done)
 simp only at h;split at h<;>try(simp at h;done)
 rename_i My J7;split at h<;>try(simp at h;done)
 rw[hc]at h;simp only[bQ]at h;split at h<;>try(simp at h;done)
 split at h<;>try(simp at h;done)
 rename_i hr;simp only[Option.some.injEq]at h;exact⟨My,_,h.symm,hr⟩
theorem Nv{i sz:Nat}{p:Path}{h x av:AV}(hs:c8 x (.deref::.idx i sz::p) h=some av):∃xs ys,x=.box true (.list .own sz xs)/\av=.box true (.list .own sz ys):=by
 cases x with
 |box o X=>
  cases o with
  |false=>simp[c8]at hs
  |true=>
   simp only[c8,Option.map_eq_some_iff]at hs;obtain⟨X',h1,rfl⟩:=hs;cases X with
   |list f fe xs=>
    cases f with
    |own=>
     simp only[c8]at h1;split at h1
     ·rename_i e;subst e;simp only[Option.bind_eq_some_iff,Option.map_eq_some_iff]at h1;obtain⟨_,_,_,_,rfl⟩:=h1;exact⟨_,_,rfl,rfl⟩
     simp at h1
    |_=>simp[c8]at h1
   |_=>simp[c8]at h1
 |_=>simp[c8]at hs
theorem KU{r d i sz:Nat}{p:Path}{M:List Nat}{z:AV}(cR:d≠r)(hM:r∉M)(hr:Mv.runs σ [.take r d (.deref::.idx i sz::p),.make (d::M) d z]=some σ'):pd (σ' r)=pd (σ r):=by
 simp only[Mv.runs,Mv.run]at hr;rw[if_neg cR]at hr;split at hr<;>try(simp at hr;done)
 rename_i σ1 h1;split at h1<;>try(simp at h1;done)
 rename_i y hg;split at h1<;>try(simp at h1;done)
 rename_i av hs;simp only[Option.some.injEq]at h1 hr;subst h1;subst hr;have e1:made (fB (fB σ r (gR (σ r) (.deref::.idx i sz::p) av)) d ⟨y,(σ d).g1+1,(σ d).g2⟩) (d::M) d z r=gR (σ r) (.deref::.idx i sz::p) av:=by
  have h2:r∉d::M:=by simp only[List.mem_cons,not_or];exact⟨fun e=>cR e.symm,hM⟩
  simp only[made,fun e=>cR (Eq.symm e),h2,if_false];rw[if_neg (fun e=>cR e.symm),ab _ _ (fun e=>cR e.symm),ak]
 rw[e1];have e2:gR (σ r) (.deref::.idx i sz::p) av=⟨av,(σ r).g1,(σ r).g2⟩:=by unfold gR;rw[if_neg (by simp)]
 rw[e2];obtain⟨xs,ys,hx,rfl⟩:=Nv hs;unfold pd;rw[hx]
theorem Rq{res:Ask}{r:Nat}{ms:List Mv}{kn:List Ob}(hp:NU σ o=some r)(hm:dN P σ ops o res=some (ms,kn))(hr:Mv.runs σ ms=some σ'):pd (σ' r)=pd (σ r):=by
 unfold NU at hp;split at hp<;>try(simp at hp;done)
 rename_i args ts bH;split at hp<;>try(simp at hp;done)
 rename_i t y fb;split at hp<;>try(simp at hp;done)
 rename_i r' g1 g2 i sz p bQ;split at hp<;>try(simp at hp;done)
 rename_i fe xs hc;split at hp<;>try(simp at hp;done)
 rename_i d hd;split at hp<;>try(simp at hp;done)
 rename_i cR;simp only[Option.some.injEq]at hp;subst hp;unfold dN at hm;split at hm<;>try(simp at hm;done)
 ·have kr:∃My z,ms=[.take r' d (.deref::.idx i sz::p),.make (d::My) d z]/\r'∉My:=by
   cases res with
   |Nl q=>
    simp only[kl,w6,hd,bH,fb,List.map_cons,List.map_nil]at hm;cases hb:iF P d .append ts.toList [resolve σ (.tmp t),resolve σ y]with
    |none=>rw[hb]at hm;simp[dZ]at hm
    |some X9=>
     rw[hb]at hm;simp only[dZ,Option.some.injEq,Prod.mk.injEq]at hm;obtain⟨rfl,-⟩:=hm;cases TN:ts.toList with
     |nil=>rw[TN]at hb;simp[iF]at hb
     |cons t1 l=>
      cases l with
      |nil=>rw[TN]at hb;simp[iF]at hb
      |cons t2 l=>
       cases l with
       |cons _ _=>rw[TN]at hb;simp[iF]at hb
       |nil=>
        rw[TN]at hb;simp only[iF]at hb;split at hb<;>try(simp at hb;done)
        exact Hd (g1:=g1) (g2:=g2) hb (by simp only[resolve,bo.of,bQ]) hc
   |ext out q=>
    have k:oZ σ o.op=false:=by unfold oZ Kd;rw[bH];simp
    simp[kl,k]at hm
   |_=>simp[kl,bH,hd]at hm
  obtain⟨My,z,rfl,hM⟩:=kr;exact KU cR hM hr
 simp only[Option.some.injEq,Prod.mk.injEq]at hm;obtain⟨rfl,-⟩:=hm;simp only[vZ,hd,Mv.bu,Option.some.injEq]at hr;subst hr;rw[ab _ _ (fun e=>cR e.symm)]
theorem vS(h:aK S B σ (tv V a) w F){b:Bool}(hw:iW σ ops o=some b):Region.wanted o (yielded ops a.tmps)=b:=by
 unfold iW at hw;unfold Region.wanted;split at hw
 ·rename_i hg;rw[hg];simpa using hw
 rename_i j want hg;rw[hg];simp only;split at hw
 ·rename_i d hd;unfold yielded;rw[hd];simp only[Option.bind_some];have hr:=h.rel d;split at hw<;>try(simp at hw;done)
  rename_i Sf;have Sf:d<1000000:=Nat.le_of_ble_eq_true (show Nat.ble (d+1) 1000000=true from Sf);split at hw
  ·rename_i b' bQ;rw[ai.ar (by rw[bQ];rfl),bQ]at hr;simp only[Rel]at hr;have QB:tv V a d=.bool b':=hr.2.1;have:a.tmps[d]?=some (.bool b'):=by
    rw[sw V a (.inl Sf)]at QB;by_cases cB:d<a.tmps.size
    ·rw[Array.getElem?_eq_getElem cB];simp[Array.getD,cB]at QB;rw[QB]
    simp[Array.getD,cB,undef]at QB
   rw[this];simp only[Option.some.injEq]at hw;simpa using hw
  ·rename_i bQ;rw[ai.ar (by rw[bQ];rfl),bQ]at hr;simp only[Rel,Cells]at hr;obtain⟨cs,e,pL,-⟩:=hr;have QB:tv V a d=.tuple #[]:=by rw[e];congr 1;apply Array.ext';simpa using pL
   simp only[Option.some.injEq]at hw;subst hw;rw[sw V a (.inl Sf)]at QB;by_cases cB:d<a.tmps.size
   ·rw[Array.getElem?_eq_getElem cB];simp[Array.getD,cB]at QB;rw[QB];simp
   rw[Array.getElem?_eq_none (Nat.le_of_not_lt cB)];simp
  simp at hw
 simp at hw
theorem yj(hG:iV P V w0)(h:Inv N V w0 S0 σ a w)(bj:fO N o=true){res:Ask}{ms:List Mv}{kn:List Ob}(hm:dN P σ ops o res=some (ms,kn))(hr:Mv.runs σ ms=some σ')
 (hs:∀o∈kn,o.ok P)(hK:∀a' w',Inv N V w0 S0 σ' a' w'->K a' w'):
 if Region.wanted o (yielded ops a.tmps)then Oper.QO V.rd P o a w K Q else K (a.put o.dst undef) w:=by
 obtain⟨S,F,hc,-⟩:=id h;unfold dN at hm;split at hm
 ·rename_i hw;rw[vS hc hw];exact Lp hG h o bj hm hr hs hK
 ·rename_i hw;rw[vS hc hw];simp only[Option.some.injEq,Prod.mk.injEq]at hm;obtain⟨rfl,rfl⟩:=hm;simp only[Bool.false_eq_true,if_false];unfold vZ at hr;split at hr
  ·rename_i d hd;rw[hd];have hdN:d<N:=by
    unfold fO at bj;rw[Bool.and_eq_true,hd]at bj;simpa using bj.1
   simp only[Mv.bu,Option.some.injEq]at hr;subst hr;exact hK _ _ (h.gp hdN fun S F _=>by simp[Rel,Cells,undef])
  rename_i hd;rw[hd];simp only[Mv.runs,Option.some.injEq]at hr;subst hr;exact hK _ _ h
 simp at hm
end
def Marks(_V:Hid)(w0 w:World)(S:Nat->Prop)(F:Nat->List Nat)(ds:List Deferred):Prop:=ds.Nodup/\∀d∈ds,∃D,d={target:=.collected D,args:=#[]}/\w.heap[D]?=some (.deferred (some []))/\w0.heap.size<=D/\¬S D/\∀i,D∉F i
def kM(N:Nat)(V:Hid)(w0:World)(S0:Nat->Prop)(σ:St)(a:Act)(w:World):Prop:=∃S F ds,aK S (bW V w0) σ (tv V a) w F/\a.tmps.size=N/\a.defers=ds++V.df/\(∀b,S0 b->S b)/\(∀b,S b->S0 b\/bW V w0 b)/\jF V w0 w/\Marks V w0 w S F ds
theorem Inv.x{N:Nat}{V:Hid}{w0 w:World}{S0:Nat->Prop}{σ:St}{a:Act}(h:Inv N V w0 S0 σ a w):kM N V w0 S0 σ a w:=by obtain⟨S,F,h1,h2,h3,h4,h5,h6⟩:=h;exact⟨S,F,[],h1,h2,by simpa using h3,h4,h5,h6,List.nodup_nil,by simp⟩
def R0:Option Nat->Prop:=fun r=>r=none
def R1:Option Nat->Prop:=fun _=>True
def AW(R:Option Nat->Prop)(P:Program)(N:Nat)(c:Code)(Q:Exit->St->Prop)(σ:St):Prop:=∀(V:Hid)(w0:World)(S0:Nat->Prop)(a:Act)(w:World),R V.rd/\iV P V w0->Inv N V w0 S0 σ a w->c.wpIn (FW V.rd) 0 P (fun e a' w'=>∃σ',Q e σ'/\kM N V w0 S0 σ' a' w') a w
def Hid.Qf(V:Hid)(F:Nat->List Nat)(ds:List Deferred):Hid:={v:=V.v,g:=fun b=>∃i,b∈F i,rd:=V.rd,df:=ds}
theorem AW.x{R:Option Nat->Prop}{P:Program}{N:Nat}{c:Code}{Q:Exit->St->Prop}{σ:St}(h:AW R P N c Q σ){V:Hid}{w0:World}{S0:Nat->Prop}{a:Act}{w:World}(hR:R V.rd/\iV P V w0)(hi:kM N V w0 S0 σ a w):
 c.wpIn (FW V.rd) 0 P (fun e a' w'=>∃σ',Q e σ'/\kM N V w0 S0 σ' a' w') a w:=by
 obtain⟨S,F,ds,hc,hN,ig,jl,gw,cU,hm0,hm⟩:=hi;have ct:=cU.size;have T4:∀b,bW (V.Qf F (ds++V.df)) w b->bW V w0 b:=by
  rintro b(hb|⟨i,hb⟩)
  ·exact .inl (Nat.le_trans ct hb)
  exact(hc.own i b hb).1
 have cB:∀d∈ds,∀D,d={target:=.collected D,args:=#[]}->D<w.heap.size/\¬S D/\(∀i,D∉F i)/\w.heap[D]?=some (.deferred (some []))/\w0.heap.size<=D:=by intro d hd D e;obtain⟨D',e',k1,k2,k4,k5⟩:=hm d hd;rw[e]at e';simp only[Deferred.mk.injEq,Target.collected.injEq,and_true]at e';subst e';exact⟨(Array.getElem?_eq_some_iff.1 k1).1,k4,k5,k1,k2⟩
 have fS:∀D,D<w.heap.size->(∀i,D∉F i)->¬bW (V.Qf F (ds++V.df)) w D:=by
  rintro D h1 h3(hb|⟨i,hb⟩)
  ·omega
  exact h3 i hb
 refine wpIn_mono (h (V.Qf F (ds++V.df)) w S a w ⟨hR.1,hR.2.H8 cU,hR.2.bW.mono fun b⟨i,hb⟩=>(hc.own i b hb).1⟩ ⟨S,F,⟨hc.rel,hc.nodup,hc.cx,fun i b hb=>⟨.inr ⟨i,hb⟩,(hc.own i b hb).2⟩,hc.shr⟩,hN,ig,fun _ h=>h,fun _ h=>.inl h,jF.refl _ _⟩) ?_;rintro e a' w'⟨σ',hq,S',F',ds',kc,kN,kdf,RL,ks2,W8,km0,km⟩;refine⟨σ',hq,S',F',ds'++ds,⟨kc.rel,kc.nodup,kc.cx,fun i b hb=>⟨T4 b (kc.own i b hb).1,(kc.own i b hb).2⟩,kc.shr⟩,kN,by rw[kdf,List.append_assoc];rfl,fun b hb=>RL b (jl b hb),fun b hb=>?_,?_,?_,?_⟩
 ·rcases ks2 b hb with hb|hb
  ·exact gw b hb
  exact .inr (T4 b hb)
 ·refine⟨W8.os.trans cU.os,W8.tape.trans cU.tape,W8.output.trans cU.output,Nat.le_trans ct W8.size,fun k hk hg=>?_⟩;rw[W8.block k (Nat.lt_of_lt_of_le hk ct) ?_]
  ·exact cU.block k hk hg
  rintro⟨i,hb⟩;rcases(hc.own i k hb).1 with h|h
  ·omega
  exact hg h
 ·refine List.nodup_append.2 ⟨km0,hm0,fun x hx y hy e=>?_⟩;subst e;obtain⟨D,e1,-,k2,-⟩:=km x hx;have:=(cB x hy D e1).1;omega
 intro d hd;rcases List.mem_append.1 hd with hd|hd
 ·obtain⟨D,e1,k1,k2,k4,k5⟩:=km d hd;exact⟨D,e1,k1,Nat.le_trans ct k2,k4,k5⟩
 obtain⟨D,e1,-⟩:=hm d hd;obtain⟨l1,l3,l4,l5,l6⟩:=cB d hd D e1;have hn:=fS D l1 l4;refine⟨D,e1,?_,l6,fun h=>?_,fun i h=>hn (kc.own i D h).1⟩
 ·rw[W8.block D l1 (fun h=>hn (.inr h))];exact l5
 rcases ks2 D h with h|h
 ·exact l3 h
 exact hn h
def Th(P:Program)(ops:Array Oper):List Oper->St->(St->Prop)->Prop
 |[],σ,K=>K σ
 |o::rest,σ,K=>∃res ms kn σ',dN P σ ops o res=some (ms,kn)/\(∀ob∈kn,ob.ok P)/\Mv.runs σ ms=some σ'/\Th P ops rest σ' K
def p8(P:Program)(ops:Array Oper):List Oper->St->List (List Nat×List Nat)->(List (List Nat×List Nat)->St->Prop)->Prop
 |[],σ,acc,K=>K acc.reverse σ
 |o::rest,σ,acc,K=>∃res ms kn σ',dN P σ ops o res=some (ms,kn)/\(∀ob∈kn,ob.ok P)/\Mv.runs σ ms=some σ'/\
   p8 P ops rest σ' ((gW σ ops o,aN ms)::acc) K
def yA(ms:List Nat)(o:Oper):Nat:=o.after.toList.foldl (fun m e=>if Region.binds .any e then m|||(ms.getD e.on 0)|||(1<<<e.on)else m) 0
def pE:List Oper->List Nat->List Nat
 |[],ms=>ms
 |o::rest,ms=>pE rest (ms++[yA ms o])
def indep(x y:List Nat×List Nat):Bool:=(x.2.all fun s=> !y.1.contains (3*s)&& !y.2.contains s&&(!y.1.contains (3*s+1)||x.1.contains (3*s+2)))&&(y.2.all fun s=> !x.1.contains (3*s)&&(!x.1.contains (3*s+1)||y.1.contains (3*s+2)))
def lower(ops:List Oper):Bool:=(List.range ops.length).all fun j=>((ops[j]?).map fun o=>o.after.toList.all fun e=> !Region.binds .any e||decide (e.on<j)).getD true
def apart(ms:List Nat)(Le:List (List Nat×List Nat))(n:Nat):Bool:=(List.range n).all fun j=>(List.range j).all fun i=>(ms.getD j 0).testBit i||indep (Le.getD i ([],[])) (Le.getD j ([],[]))
section
variable{R:Option Nat->Prop}{P:Program}{N:Nat}{w0 w w':World}{V:Hid}{S S0 S':Nat->Prop}{B:Nat->Prop}{σ σ' τ:St}{a:Act}{F:Nat->List Nat}{ops:Array Oper}{o:Oper}
theorem Bi{id:Nat}{K:St->Prop}(bj:ops.toList.all (fO N)=true)(h:Th P ops ops.toList σ K):AW R P N (.region id ops false) (fun e σ'=>e=.normal/\K σ') σ:=by
 intro V w0 S0 a w hR hi;refine wpIn_region_list ?_;have:∀(l:List Oper)(σ:St)(a:Act)(w:World),l.all (fO N)=true->Th P ops l σ K->Inv N V w0 S0 σ a w->
  wpListIn (FW V.rd) 0 P ops (fun e a' w'=>∃σ',(e=.normal/\K σ')/\kM N V w0 S0 σ' a' w') l a w:=by
  intro l
  induction l with
  |nil=>intro σ a w _ hs hi;exact⟨σ,⟨rfl,hs⟩,hi.x⟩
  |cons o l ih=>
   intro σ a w hf hs hi;simp only[List.all_cons,Bool.and_eq_true]at hf;obtain⟨res,ms,kn,σ',h1,h2,h3,h4⟩:=hs;have:=yj (ops:=ops) (K:=wpListIn (FW V.rd) 0 P ops (fun e a' w'=>∃σ',(e=.normal/\K σ')/\kM N V w0 S0 σ' a' w') l) (Q:=fun e a' w'=>∃σ',(e=.normal/\K σ')/\kM N V w0 S0 σ' a' w') hR.2 hi hf.1 h1 h3 h2 fun a' w' cO=>ih σ' a' w' hf.2 h4 cO;unfold wpListIn;split
   ·rename_i hw;rw[if_pos hw]at this;exact this
   rename_i hw;rw[if_neg hw]at this;exact⟨fun _ _=>trivial,this⟩
 exact this _ σ a w bj h hi
theorem p8.spec:∀(l:List Oper)(σ:St)(acc:List (List Nat×List Nat))(K:List (List Nat×List Nat)->St->Prop),p8 P ops l σ acc K->
 ∃(σs:Nat->St)(rs:Nat->Ask)(kg:Nat->List Mv)(kn:Nat->List Ob)(R:List (List Nat×List Nat)),σs 0=σ/\R.length=l.length/\K (acc.reverse++R) (σs l.length)/\
  ∀k o,l[k]?=some o->dN P (σs k) ops o (rs k)=some (kg k,kn k)/\(∀ob∈kn k,ob.ok P)/\Mv.runs (σs k) (kg k)=some (σs (k+1))/\R[k]?=some (gW (σs k) ops o,aN (kg k))
 |[],σ,acc,K,h=>⟨fun _=>σ,fun _=>.Nl .dead,fun _=>[],fun _=>[],[],rfl,rfl,by simpa[p8]using h,by simp⟩
 |o::l,σ,acc,K,h=>by
  obtain⟨res,ms,ob,σ',h1,h2,h3,h4⟩:=h;obtain⟨σs,rs,kg,kn,R,e0,e1,e2,e3⟩:=p8.spec l σ' _ K h4;refine⟨fun k=>match k with|0=>σ|k+1=>σs k,fun k=>match k with|0=>res|k+1=>rs k,fun k=>match k with|0=>ms|k+1=>kg k,fun k=>match k with|0=>ob|k+1=>kn k,(gW σ ops o,aN ms)::R,rfl,by simp[e1],by simpa using e2,?_⟩;intro k o' hk;cases k with
  |zero=>simp only[List.getElem?_cons_zero,Option.some.injEq]at hk;subst hk;exact⟨h1,h2,by simp only;rw[e0];exact h3,rfl⟩
  |succ k=>simp only[List.getElem?_cons_succ]at hk⊢;exact e3 k o' hk
theorem oc:∀(l:List Oper)(ms:List Nat),∃r,pE l ms=ms++r/\r.length=l.length
 |[],ms=>⟨[],by simp[pE],rfl⟩
 |o::l,ms=>by obtain⟨r,h1,h2⟩:=oc l (ms++[yA ms o]);exact⟨yA ms o::r,by simp[pE,h1],by simp[h2]⟩
theorem BQ:∀(l:List Oper)(ms:List Nat)(k:Nat)(o:Oper),l[k]?=some o->(pE l ms)[ms.length+k]?=some (yA ((pE l ms).take (ms.length+k)) o)
 |[],ms,k,o,h=>by simp at h
 |o::l,ms,0,o',h=>by simp only[List.getElem?_cons_zero,Option.some.injEq]at h;subst h;obtain⟨r,h1,h2⟩:=oc l (ms++[yA ms o]);simp[pE,h1]
 |o::l,ms,k+1,o',h=>by simp only[List.getElem?_cons_succ]at h;have:=BQ l (ms++[yA ms o]) k o' h;simp only[List.length_append,List.length_singleton]at this;rw[show ms.length+(k+1)=ms.length+1+k by omega];exact this
theorem LI{ms:List Nat}{i:Nat}(h:(yA ms o).testBit i=true):∃e∈o.after,Region.binds .any e=true/\(i=e.on\/(ms.getD e.on 0).testBit i=true):=by
 have gen:∀(l:List Edge)(m:Nat),(l.foldl (fun m e=>if Region.binds .any e then m|||(ms.getD e.on 0)|||(1<<<e.on)else m) m).testBit i=true->
  m.testBit i=true\/∃e∈l,Region.binds .any e=true/\(i=e.on\/(ms.getD e.on 0).testBit i=true):=by
  intro l
  induction l with
  |nil=>intro m h;exact .inl h
  |cons e l ih=>
   intro m h;rw[List.foldl_cons]at h;rcases ih _ h with h|⟨e',h1,h2⟩
   ·split at h
    ·rename_i hb;rw[Nat.testBit_or,Nat.testBit_or,Bool.or_eq_true,Bool.or_eq_true]at h;rcases h with(h|h)|h
     ·exact .inl h
     ·exact .inr ⟨e,by simp,hb,.inr h⟩
     refine .inr ⟨e,by simp,hb,.inl ?_⟩;rw[Nat.one_shiftLeft,Nat.testBit_two_pow]at h;exact(of_decide_eq_true h).symm
    exact .inl h
   exact .inr ⟨e',by simp[h1],h2⟩
 rcases gen _ 0 h with h|⟨e,h1,h2⟩
 ·simp at h
 exact⟨e,by simpa using h1,h2⟩
theorem jc{l:List Oper}{L:Nat->Prop}(hL:∀j o,L j->l[j]?=some o->∀e∈o.after,Region.binds .any e=true->L e.on):
 ∀(j:Nat)(o:Oper),l[j]?=some o->(∀e∈o.after,Region.binds .any e=true->L e.on)->∀i,((pE l []).getD j 0).testBit i=true->L i:=by
 intro j
 induction j using Nat.strongRecOn with
 |ind j ih=>
  intro o ho hp i hi;have hg:=BQ l [] j o ho;simp only[List.length_nil,Nat.zero_add]at hg;rw[List.getD_eq_getElem?_getD,hg]at hi;obtain⟨e,h1,h2,h3⟩:=LI hi;rcases h3 with rfl|h3
  ·exact hp e h1 h2
  rw[List.getD_eq_getElem?_getD,List.getElem?_take]at h3;split at h3
  ·rename_i cB;obtain⟨r,r1,r2⟩:=oc l [];simp only[List.nil_append]at r1;have hjl:j<l.length:=(List.getElem?_eq_some_iff.1 ho).1;have hel:e.on<l.length:=by omega
   refine ih e.on cB _ (List.getElem?_eq_getElem hel) (fun e' he' dr=>hL e.on _ (hp e h1 h2) (List.getElem?_eq_getElem hel) e' he' dr) i ?_;rw[List.getD_eq_getElem?_getD];exact h3
  simp at h3
end
end Go.Ai
