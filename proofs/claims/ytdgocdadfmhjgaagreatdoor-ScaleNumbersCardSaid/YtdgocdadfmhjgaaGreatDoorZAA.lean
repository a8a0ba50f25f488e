/- Parts of the proof of ScaleNumbers (CheckBench, Exponent and Largest answer as the reference does), at every input, with no further conditions. -/
import Derived.WalkKit
import Derived.Lib.LaidTab
import Derived.Lib.ItoaNum
import Derived.TacticsIn
import Derived.OrdersIn
set_option linter.unusedVariables false
set_option linter.unusedSimpArgs false
namespace Go.Ai
open Go.RowKit
inductive Fl|nil|shr|own
 deriving DecidableEq
inductive Step
 |idx (i sz:Nat)
 |at(o:Nat) (n:Option Nat)
 |deref
 |bC (i:Nat)
 |jI (sz o n:Nat)
 deriving DecidableEq
abbrev Path:=List Step
inductive AV
 |v (x:Value)
 |list (f:Fl) (sz:Nat) (xs:List AV)
 |box (own:Bool) (x:AV)
 |agg (xs:List AV)
 |bC (xs:List AV)
 |fn (f:Fn) (first captured:List AV)
 |bg (r g1 g2:Nat) (p:Path)
 |ptr (r g1 g2:Nat) (p:Path)
 |hole
 |dead
 |pv (C:Value->Prop)
 |abs (J:World->(Nat->Prop)->List Nat->Prop)
 |dY (g:FuncId) (aW:List (Nat×Nat))
 |mp (K:Obj->Prop)
instance:Inhabited AV:=⟨.dead⟩
def scalar:Value->Bool
 |.bool _|.int .. |.float .. |.complex .. |.string _|.pointer none|.map none|.nilFunc|.nilIface=>true
 |_=>false
def row?(w:World)(b:Nat):Option (Array Value×(Nat×Nat)):=
 match w.heap[b]?with
 |some (.cells cs _ fz)=>some (cs,fz)
 |_=>none
theorem kj{w w':World}{b:Nat}(h:w'.heap[b]?=w.heap[b]?):row? w' b=row? w b:=by unfold row?;rw[h]
mutual
def Rel(w:World)(S:Nat->Prop):AV->Value->List Nat->Prop
 |.v x,y,F=>scalar x=true/\y=x/\F=[]
 |.list f sz xs,y,F=>
  match f with
  |.nil=>xs=[]/\y=.slice none 0 0/\F=[]
  |.shr=>(xs=[]/\y=.slice none 0 0/\F=[])\/∃b off cap cs fz,y=.slice (some ⟨b,off,none⟩) xs.length cap/\S b/\row? w b=some (cs,fz)/\xs.length<=cap/\
    bU w S sz xs ((cs.toList.drop off).take (xs.length*sz)) []/\F=[]
  |.own=>(xs=[]/\y=.slice none 0 0/\F=[])\/∃b cap cs F',y=.slice (some ⟨b,0,none⟩) xs.length cap/\row? w b=some (cs,(0,0))/\xs.length<=cap/\cap<=maxLen/\
    cs.size=cap*sz/\bU w S sz xs (cs.toList.take (xs.length*sz)) F'/\F=b::F'
 |.box own x,y,F=>∃b cs fz F' z,y=.pointer (some ⟨b,0,none⟩)/\row? w b=some (cs,fz)/\Rel w S x z F'/\z.cells=cs/\
   (if own then fz=(0,0)/\F=b::F' else S b/\F'=[]/\F=[])
 |.agg xs,y,F=>∃cs,y=.agg cs/\Cells w S true xs cs.toList F
 |.bC xs,y,F=>∃cs,y=.tuple cs/\Cells w S false xs cs.toList F
 |.fn f first captured,y,F=>∃a c F1 F2,y=.func f a c/\Cells w S false first a.toList F1/\Cells w S false captured c.toList F2/\F=F1++F2
 |.bg ..,_,_=>False
 |.ptr ..,_,_=>False
 |.hole,y,F=>y.oneCell'=true/\F=[]
 |.dead,_,F=>F=[]
 |.pv C,y,F=>C y/\F=[]
 |.abs _,_,_=>False
 |.dY ..,_,_=>False
 |.mp K,y,F=>∃b o,y=.map (some b)/\w.heap[b]?=some o/\K o/\F=[b]
def Cells(w:World)(S:Nat->Prop)(one:Bool):List AV->List Value->List Nat->Prop
 |[],l,F=>l=[]/\F=[]
 |x::xs,l,F=>∃y l' F1 F2,l=y::l'/\F=F1++F2/\(one=true->y.oneCell'=true)/\Rel w S x y F1/\Cells w S one xs l' F2
def bU(w:World)(S:Nat->Prop)(sz:Nat):List AV->List Value->List Nat->Prop
 |[],l,F=>l=[]/\F=[]
 |x::xs,l,F=>∃y l' F1 F2,l=y.cells.toList++l'/\F=F1++F2/\y.cells.size=sz/\Rel w S x y F1/\bU w S sz xs l' F2
end
section
variable{w w':World}{S S':Nat->Prop}
mutual
theorem Rel.frame:∀(av:AV){y:Value}{F:List Nat},Rel w S av y F->(∀b,S b\/b∈F->w'.heap[b]?=w.heap[b]?)->Rel w' S av y F
 |.v x,y,F,h,_=>by simpa[Rel]using h
 |.list .nil sz xs,y,F,h,_=>by simpa[Rel]using h
 |.list .shr sz xs,y,F,h,k=>by
  simp only[Rel]at h⊢;rcases h with h|⟨b,off,cap,cs,fz,h1,h2,h3,h4,h5,h6⟩
  ·exact .inl h
  exact .inr ⟨b,off,cap,cs,fz,h1,h2,(kj (k b (.inl h2))).trans h3,h4,bU.frame sz xs h5 (fun b hb=>k b (.inl (by simpa using hb))),h6⟩
 |.list .own sz xs,y,F,h,k=>by
  simp only[Rel]at h⊢;rcases h with h|⟨b,cap,cs,F',h1,h2,h3,h4,h5,h6,rfl⟩
  ·exact .inl h
  exact .inr ⟨b,cap,cs,F',h1,(kj (k b (.inr (by simp)))).trans h2,h3,h4,h5,bU.frame sz xs h6 (fun b hb=>k b (hb.imp id (by simp;exact .inr))),rfl⟩
 |.box own x,y,F,h,k=>by
  simp only[Rel]at h⊢;obtain⟨b,cs,fz,F',z,h1,h2,h3,h4,h5⟩:=h;cases own
  ·simp only[Bool.false_eq_true,if_false]at h5;obtain⟨hS,rfl,rfl⟩:=h5;exact⟨b,cs,fz,[],z,h1,(kj (k b (.inl hS))).trans h2,Rel.frame x h3 (fun b hb=>k b (.inl (by simpa using hb))),h4,by simp[hS]⟩
  simp only[if_true]at h5;obtain⟨rfl,rfl⟩:=h5;exact⟨b,cs,_,F',z,h1,(kj (k b (.inr (by simp)))).trans h2,Rel.frame x h3 (fun b hb=>k b (hb.imp id (by simp;exact .inr))),h4,by simp⟩
 |.agg xs,y,F,h,k=>by simp only[Rel]at h⊢;obtain⟨cs,h1,h2⟩:=h;exact⟨cs,h1,Cells.frame xs h2 k⟩
 |.bC xs,y,F,h,k=>by simp only[Rel]at h⊢;obtain⟨cs,h1,h2⟩:=h;exact⟨cs,h1,Cells.frame xs h2 k⟩
 |.fn f first captured,y,F,h,k=>by simp only[Rel]at h⊢;obtain⟨a,c,F1,F2,h1,h2,h3,rfl⟩:=h;exact⟨a,c,F1,F2,h1,Cells.frame first h2 (fun b hb=>k b (hb.imp id (by simp;exact .inl))),Cells.frame captured h3 (fun b hb=>k b (hb.imp id (by simp;exact .inr))),rfl⟩
 |.bg ..,_,_,h,_=>by simp[Rel]at h
 |.ptr ..,_,_,h,_=>by simp[Rel]at h
 |.hole,_,_,h,_=>by simpa[Rel]using h
 |.dead,_,_,h,_=>by simpa[Rel]using h
 |.pv _,_,_,h,_=>by simpa[Rel]using h
 |.abs _,_,_,h,_=>by simp[Rel]at h
 |.dY ..,_,_,h,_=>by simp[Rel]at h
 |.mp K,y,F,h,k=>by simp only[Rel]at h⊢;obtain⟨b,o,h1,h2,h3,rfl⟩:=h;exact⟨b,o,h1,(k b (.inr (by simp))).trans h2,h3,rfl⟩
theorem Cells.frame:∀(xs:List AV){one:Bool}{l:List Value}{F:List Nat},Cells w S one xs l F->(∀b,S b\/b∈F->w'.heap[b]?=w.heap[b]?)->Cells w' S one xs l F
 |[],one,l,F,h,_=>by simpa[Cells]using h
 |x::xs,one,l,F,h,k=>by simp only[Cells]at h⊢;obtain⟨y,l',F1,F2,h1,rfl,h2,h3,h4⟩:=h;exact⟨y,l',F1,F2,h1,rfl,h2,Rel.frame x h3 (fun b hb=>k b (hb.imp id (by simp;exact .inl))),Cells.frame xs h4 (fun b hb=>k b (hb.imp id (by simp;exact .inr)))⟩
theorem bU.frame(sz:Nat):∀(xs:List AV){l:List Value}{F:List Nat},bU w S sz xs l F->(∀b,S b\/b∈F->w'.heap[b]?=w.heap[b]?)->bU w' S sz xs l F
 |[],l,F,h,_=>by simpa[bU]using h
 |x::xs,l,F,h,k=>by simp only[bU]at h⊢;obtain⟨y,l',F1,F2,h1,rfl,h2,h3,h4⟩:=h;exact⟨y,l',F1,F2,h1,rfl,h2,Rel.frame x h3 (fun b hb=>k b (hb.imp id (by simp;exact .inl))),bU.frame sz xs h4 (fun b hb=>k b (hb.imp id (by simp;exact .inr)))⟩
end
mutual
theorem Rel.mono(hS:∀b,S b->S' b):∀(av:AV){y:Value}{F:List Nat},Rel w S av y F->Rel w S' av y F
 |.v x,y,F,h=>by simpa[Rel]using h
 |.list .nil sz xs,y,F,h=>by simpa[Rel]using h
 |.list .shr sz xs,y,F,h=>by
  simp only[Rel]at h⊢;rcases h with h|⟨b,off,cap,cs,fz,h1,h2,h3,h4,h5,h6⟩
  ·exact .inl h
  exact .inr ⟨b,off,cap,cs,fz,h1,hS b h2,h3,h4,bU.mono hS sz xs h5,h6⟩
 |.list .own sz xs,y,F,h=>by
  simp only[Rel]at h⊢;rcases h with h|⟨b,cap,cs,F',h1,h2,h3,h4,h5,h6,h7⟩
  ·exact .inl h
  exact .inr ⟨b,cap,cs,F',h1,h2,h3,h4,h5,bU.mono hS sz xs h6,h7⟩
 |.box own x,y,F,h=>by
  simp only[Rel]at h⊢;obtain⟨b,cs,fz,F',z,h1,h2,h3,h4,h5⟩:=h;refine⟨b,cs,fz,F',z,h1,h2,Rel.mono hS x h3,h4,?_⟩;cases own
  ·simp only[Bool.false_eq_true,if_false]at h5⊢;exact⟨hS b h5.1,h5.2⟩
  simpa using h5
 |.agg xs,y,F,h=>by simp only[Rel]at h⊢;obtain⟨cs,h1,h2⟩:=h;exact⟨cs,h1,Cells.mono hS xs h2⟩
 |.bC xs,y,F,h=>by simp only[Rel]at h⊢;obtain⟨cs,h1,h2⟩:=h;exact⟨cs,h1,Cells.mono hS xs h2⟩
 |.fn f first captured,y,F,h=>by simp only[Rel]at h⊢;obtain⟨a,c,F1,F2,h1,h2,h3,h4⟩:=h;exact⟨a,c,F1,F2,h1,Cells.mono hS first h2,Cells.mono hS captured h3,h4⟩
 |.bg ..,_,_,h=>by simp[Rel]at h
 |.ptr ..,_,_,h=>by simp[Rel]at h
 |.hole,_,_,h=>by simpa[Rel]using h
 |.dead,_,_,h=>by simpa[Rel]using h
 |.pv _,_,_,h=>by simpa[Rel]using h
 |.abs _,_,_,h=>by simp[Rel]at h
 |.dY ..,_,_,h=>by simp[Rel]at h
 |.mp _,y,F,h=>by simpa[Rel]using h
theorem Cells.mono(hS:∀b,S b->S' b):∀(xs:List AV){one:Bool}{l:List Value}{F:List Nat},Cells w S one xs l F->Cells w S' one xs l F
 |[],one,l,F,h=>by simpa[Cells]using h
 |x::xs,one,l,F,h=>by simp only[Cells]at h⊢;obtain⟨y,l',F1,F2,h1,h2,h3,h4,h5⟩:=h;exact⟨y,l',F1,F2,h1,h2,h3,Rel.mono hS x h4,Cells.mono hS xs h5⟩
theorem bU.mono(hS:∀b,S b->S' b)(sz:Nat):∀(xs:List AV){l:List Value}{F:List Nat},bU w S sz xs l F->bU w S' sz xs l F
 |[],l,F,h=>by simpa[bU]using h
 |x::xs,l,F,h=>by simp only[bU]at h⊢;obtain⟨y,l',F1,F2,h1,h2,h3,h4,h5⟩:=h;exact⟨y,l',F1,F2,h1,h2,h3,Rel.mono hS x h4,bU.mono hS sz xs h5⟩
end
end
mutual
def AV.bf:AV->AV
 |.list .own sz xs=>.list .shr sz (eU xs)
 |.list .nil sz xs=>.list .nil sz xs
 |.list .shr sz xs=>.list .shr sz xs
 |.box true x=>.box false x.bf
 |.box false x=>.box false x
 |.agg xs=>.agg (eU xs)
 |.bC xs=>.bC (eU xs)
 |.fn f a c=>.fn f (eU a) (eU c)
 |.v x=>.v x
 |.bg r g1 g2 p=>.bg r g1 g2 p
 |.ptr r g1 g2 p=>.ptr r g1 g2 p
 |.hole=>.hole
 |.dead=>.dead
 |.pv C=>.pv C
 |.abs J=>.abs J
 |.dY g aW=>.dY g aW
 |.mp _=>.dead
def eU:List AV->List AV
 |[]=>[]
 |x::xs=>x.bf::eU xs
end
theorem ib:∀xs:List AV,(eU xs).length=xs.length
 |[]=>rfl
 |x::xs=>by simp[eU,ib xs]
section
variable{w:World}{S S':Nat->Prop}
mutual
theorem Rel.share(hS:∀b,S b->S' b):∀(av:AV){y:Value}{F:List Nat},Rel w S av y F->(∀b∈F,S' b)->Rel w S' av.bf y []
 |.v x,y,F,h,_=>by simp only[Rel,AV.bf]at h⊢;exact⟨h.1,h.2.1,trivial⟩
 |.list .nil sz xs,y,F,h,_=>by simp only[Rel,AV.bf]at h⊢;exact⟨h.1,h.2.1,trivial⟩
 |.list .shr sz xs,y,F,h,_=>by
  simp only[Rel,AV.bf]at h⊢;rcases h with h|⟨b,off,cap,cs,fz,h1,h2,h3,h4,h5,h6⟩
  ·exact .inl ⟨h.1,h.2.1,trivial⟩
  exact .inr ⟨b,off,cap,cs,fz,h1,hS b h2,h3,h4,bU.mono hS sz xs h5,trivial⟩
 |.list .own sz xs,y,F,h,k=>by
  simp only[Rel,AV.bf]at h⊢;rcases h with⟨rfl,h,-⟩|⟨b,cap,cs,F',h1,h2,h3,h4,h5,h6,rfl⟩
  ·exact .inl ⟨rfl,h,trivial⟩
  refine .inr ⟨b,0,cap,cs,(0,0),by rw[ib];exact h1,k b (by simp),h2,by rw[ib];exact h3,?_,trivial⟩;rw[ib];exact bU.share hS sz xs h6 (fun b hb=>k b (by simp[hb]))
 |.box own x,y,F,h,k=>by
  simp only[Rel]at h;obtain⟨b,cs,fz,F',z,h1,h2,h3,h4,h5⟩:=h;cases own
  ·simp only[Bool.false_eq_true,if_false]at h5;obtain⟨hb,rfl,rfl⟩:=h5;simp only[Rel,AV.bf];exact⟨b,cs,fz,[],z,h1,h2,Rel.mono hS x h3,h4,by simp[hS b hb]⟩
  simp only[if_true]at h5;obtain⟨rfl,rfl⟩:=h5;simp only[Rel,AV.bf];exact⟨b,cs,_,[],z,h1,h2,Rel.share hS x h3 (fun b hb=>k b (by simp[hb])),h4,by simp[k b (by simp)]⟩
 |.agg xs,y,F,h,k=>by simp only[Rel,AV.bf]at h⊢;obtain⟨cs,h1,h2⟩:=h;exact⟨cs,h1,Cells.share hS xs h2 k⟩
 |.bC xs,y,F,h,k=>by simp only[Rel,AV.bf]at h⊢;obtain⟨cs,h1,h2⟩:=h;exact⟨cs,h1,Cells.share hS xs h2 k⟩
 |.fn f first captured,y,F,h,k=>by simp only[Rel,AV.bf]at h⊢;obtain⟨a,c,F1,F2,h1,h2,h3,rfl⟩:=h;exact⟨a,c,[],[],h1,Cells.share hS first h2 (fun b hb=>k b (by simp[hb])),Cells.share hS captured h3 (fun b hb=>k b (by simp[hb])),rfl⟩
 |.bg ..,_,_,h,_=>by simp[Rel]at h
 |.ptr ..,_,_,h,_=>by simp[Rel]at h
 |.hole,_,_,h,_=>by simp only[Rel,AV.bf]at h⊢;exact⟨h.1,trivial⟩
 |.dead,_,_,h,_=>by simp[Rel,AV.bf]
 |.pv _,_,_,h,_=>by simp only[Rel,AV.bf]at h⊢;exact⟨h.1,trivial⟩
 |.abs _,_,_,h,_=>by simp[Rel]at h
 |.dY ..,_,_,h,_=>by simp[Rel]at h
 |.mp _,_,_,_,_=>by simp[Rel,AV.bf]
theorem Cells.share(hS:∀b,S b->S' b):∀(xs:List AV){one:Bool}{l:List Value}{F:List Nat},Cells w S one xs l F->(∀b∈F,S' b)->Cells w S' one (eU xs) l []
 |[],one,l,F,h,_=>by simpa[Cells,eU]using h.1
 |x::xs,one,l,F,h,k=>by simp only[Cells,eU]at h⊢;obtain⟨y,l',F1,F2,h1,rfl,h3,h4,h5⟩:=h;exact⟨y,l',[],[],h1,rfl,h3,Rel.share hS x h4 (fun b hb=>k b (by simp[hb])),Cells.share hS xs h5 (fun b hb=>k b (by simp[hb]))⟩
theorem bU.share(hS:∀b,S b->S' b)(sz:Nat):∀(xs:List AV){l:List Value}{F:List Nat},bU w S sz xs l F->(∀b∈F,S' b)->bU w S' sz (eU xs) l []
 |[],l,F,h,_=>by simpa[bU,eU]using h.1
 |x::xs,l,F,h,k=>by simp only[bU,eU]at h⊢;obtain⟨y,l',F1,F2,h1,rfl,h3,h4,h5⟩:=h;exact⟨y,l',[],[],h1,rfl,h3,Rel.share hS x h4 (fun b hb=>k b (by simp[hb])),bU.share hS sz xs h5 (fun b hb=>k b (by simp[hb]))⟩
end
end
end Go.Ai
namespace Go.Ai
inductive Loc
 |val (y:Value)
 |addr (a:Addr)
def bH:Value->Step->Option Loc
 |.pointer (some a),.deref=>some (.addr a)
 |.slice (some a) _ _,.idx i sz=>some (.addr (a.add (i*sz)))
 |.tuple vs,.bC i=>vs[i]?.map .val
 |.slice (some a) _ c,.jI sz o n=>some (.val (.slice (some (a.add (o*sz))) n (c-o)))
 |.agg cs,.at o none=>cs[o]?.map .val
 |.agg cs,.at o (some n)=>some (.val (.agg (cs.extract o (o+n))))
 |_,_=>none
def step1(w:World):Loc->Step->Option Loc
 |.val y,s=>bH y s
 |.addr a,.at o _=>some (.addr (a.add o))
 |.addr a,s=>(w.cell? a).bind (bH · s)
def loc(w:World):Loc->Path->Option Loc
 |L,[]=>some L
 |L,s::p=>(step1 w L s).bind (loc w · p)
def a6:AV->Path->Option AV
 |x,[]=>some x
 |x,s::p=>
  match x,s with
  |.list _ sz xs,.idx i fe=>if sz=fe then xs[i]?.bind (a6 · p)else none
  |.box _ x,.deref=>a6 x p
  |.agg xs,.at o none=>xs[o]?.bind (a6 · p)
  |.agg xs,.at o (some n)=>if o+n<=xs.length then a6 (.agg ((xs.drop o).take n)) p else none
  |.bC xs,.bC i=>xs[i]?.bind (a6 · p)
  |.list _ sz xs,.jI fe o n=>if sz=fe/\0<n/\o+n<=xs.length then a6 .dead p else none
  |_,_=>none
def c8:AV->Path->AV->Option AV
 |_,[],y=>some y
 |x,s::p,y=>
  match x,s with
  |.list .own sz xs,.idx i fe=>if sz=fe then xs[i]?.bind fun x=>(c8 x p y).map fun x'=>.list .own sz (xs.set i x')else none
  |.box true x,.deref=>(c8 x p y).map fun x'=>.box true x'
  |.agg xs,.at o none=>xs[o]?.bind fun x=>(c8 x p y).map fun x'=>.agg (xs.set o x')
  |.agg xs,.at o (some n)=>if o+n<=xs.length then(c8 (.agg ((xs.drop o).take n)) p y).bind fun
    |.agg ys=>if ys.length=n then some (.agg (xs.take o++ys++xs.drop (o+n)))else none
    |_=>none
   else none
  |.bC xs,.bC i=>xs[i]?.bind fun x=>(c8 x p y).map fun x'=>.bC (xs.set i x')
  |_,_=>none
def At(w:World)(a:Addr)(z:Value):Prop:=a.spot=none/\∃cs fz,row? w a.block=some (cs,fz)/\∀j u,z.cells[j]?=some u->cs[a.off+j]?=some u
def holds(w:World):Loc->Value->Prop
 |.val y,z=>z=y
 |.addr a,z=>At w a z
section
variable{w w':World}{S S':Nat->Prop}
theorem Cells.length:∀{xs:List AV}{one:Bool}{l:List Value}{F:List Nat},Cells w S one xs l F->l.length=xs.length
 |[],one,l,F,h=>by simp only[Cells]at h;simp[h.1]
 |x::xs,one,l,F,h=>by simp only[Cells]at h;obtain⟨y,l',F1,F2,rfl,rfl,h3,h4,h5⟩:=h;simp[Cells.length h5]
theorem bU.length(sz:Nat):∀{xs:List AV}{l:List Value}{F:List Nat},bU w S sz xs l F->l.length=xs.length*sz
 |[],l,F,h=>by simp only[bU]at h;simp[h.1]
 |x::xs,l,F,h=>by simp only[bU]at h;obtain⟨y,l',F1,F2,rfl,rfl,h3,h4,h5⟩:=h;simp[bU.length sz h5,Nat.add_mul,h3];omega
theorem Cells.lens:∀{xs:List AV}{one:Bool}{l:List Value}{F:List Nat}(o:Nat){x:AV},Cells w S one xs l F->xs[o]?=some x->
 ∃y A Fx B,F=A++Fx++B/\(one=true->y.oneCell'=true)/\Rel w S x y Fx/\l[o]?=some y/\
  ∀(w':World)(S':Nat->Prop)(x':AV)(y':Value)(Ec:List Nat),(∀b,S b->S' b)->(one=true->y'.oneCell'=true)->
   (∀b,S b\/b∈A\/b∈B->w'.heap[b]?=w.heap[b]?)->Rel w' S' x' y' Ec->Cells w' S' one (xs.set o x') (l.set o y') (A++Ec++B)
 |[],one,l,F,o,x,h,hx=>by simp at hx
 |x0::xs,one,l,F,0,x,h,hx=>by simp only[Cells]at h;obtain⟨y,l',F1,F2,rfl,rfl,h3,h4,h5⟩:=h;simp only[List.getElem?_cons_zero,Option.some.injEq]at hx;subst hx;refine⟨y,[],F1,F2,by simp,h3,h4,by simp,fun w' S' x' y' Ec hS h1 k hr=>?_⟩;simp only[List.set_cons_zero,Cells,List.nil_append];exact⟨y',l',Ec,F2,rfl,rfl,h1,hr,Cells.mono hS _ (Cells.frame xs h5 fun b hb=>k b (hb.imp id .inr))⟩
 |x0::xs,one,l,F,o+1,x,h,hx=>by
  simp only[Cells]at h;obtain⟨y,l',F1,F2,rfl,rfl,h3,h4,h5⟩:=h;simp only[List.getElem?_cons_succ]at hx;obtain⟨z,A,Fx,B,rfl,g2,g3,g4,g5⟩:=Cells.lens o h5 hx;refine⟨z,F1++A,Fx,B,by simp,g2,g3,by simpa using g4,fun w' S' x' y' Ec hS h1 k hr=>?_⟩;simp only[List.set_cons_succ,Cells];exact⟨y,_,F1,A++Ec++B,rfl,by simp,h3,Rel.mono hS _ (Rel.frame x0 h4 fun b hb=>k b (hb.imp id (fun h=>.inl (by simp[h])))),
   g5 w' S' x' y' Ec hS h1 (fun b hb=>k b (by rcases hb with h|h|h<;>simp[h])) hr⟩
theorem Cells.append:∀{xs ys:List AV}{one:Bool}{l m:List Value}{F G:List Nat},Cells w S one xs l F->Cells w S one ys m G->Cells w S one (xs++ys) (l++m) (F++G)
 |[],ys,one,l,m,F,G,h,k=>by simp only[Cells]at h;obtain⟨rfl,rfl⟩:=h;simpa using k
 |x::xs,ys,one,l,m,F,G,h,k=>by simp only[Cells,List.cons_append]at h⊢;obtain⟨y,l',F1,F2,rfl,rfl,h3,h4,h5⟩:=h;exact⟨y,l'++m,F1,F2++G,by simp,by simp,h3,h4,Cells.append h5 k⟩
theorem Cells.split:∀(n:Nat){xs:List AV}{one:Bool}{l:List Value}{F:List Nat},Cells w S one xs l F->
 ∃F1 F2,F=F1++F2/\Cells w S one (xs.take n) (l.take n) F1/\Cells w S one (xs.drop n) (l.drop n) F2
 |0,xs,one,l,F,h=>⟨[],F,by simp,by simp[Cells],by simpa using h⟩
 |n+1,[],one,l,F,h=>by simp only[Cells]at h;obtain⟨rfl,rfl⟩:=h;exact⟨[],[],by simp,by simp[Cells],by simp[Cells]⟩
 |n+1,x::xs,one,l,F,h=>by simp only[Cells]at h;obtain⟨y,l',F1,F2,rfl,rfl,h3,h4,h5⟩:=h;obtain⟨G1,G2,rfl,k1,k2⟩:=Cells.split n h5;refine⟨F1++G1,G2,by simp,?_,by simpa using k2⟩;simp only[List.take_succ_cons,Cells];exact⟨y,_,F1,G1,rfl,rfl,h3,h4,k1⟩
theorem bU.append(sz:Nat):∀{xs ys:List AV}{l m:List Value}{F G:List Nat},bU w S sz xs l F->bU w S sz ys m G->bU w S sz (xs++ys) (l++m) (F++G)
 |[],ys,l,m,F,G,h,k=>by simp only[bU]at h;obtain⟨rfl,rfl⟩:=h;simpa using k
 |x::xs,ys,l,m,F,G,h,k=>by simp only[bU,List.cons_append]at h⊢;obtain⟨y,l',F1,F2,rfl,rfl,h3,h4,h5⟩:=h;exact⟨y,l'++m,F1,F2++G,by simp,by simp,h3,h4,bU.append sz h5 k⟩
theorem bU.split(sz:Nat):∀(n:Nat){xs:List AV}{l:List Value}{F:List Nat},bU w S sz xs l F->
 ∃F1 F2,F=F1++F2/\bU w S sz (xs.take n) (l.take (n*sz)) F1/\bU w S sz (xs.drop n) (l.drop (n*sz)) F2
 |0,xs,l,F,h=>⟨[],F,by simp,by simp[bU],by simpa using h⟩
 |n+1,[],l,F,h=>by simp only[bU]at h;obtain⟨rfl,rfl⟩:=h;exact⟨[],[],by simp,by simp[bU],by simp[bU]⟩
 |n+1,x::xs,l,F,h=>by
  simp only[bU]at h;obtain⟨y,l',F1,F2,rfl,rfl,h3,h4,h5⟩:=h;obtain⟨G1,G2,rfl,k1,k2⟩:=bU.split sz n h5;have e:(n+1)*sz=y.cells.toList.length+n*sz:=by simp[h3,Nat.add_mul];omega
  refine⟨F1++G1,G2,by simp,?_,?_⟩
  ·simp only[List.take_succ_cons,bU];exact⟨y,_,F1,G1,by rw[e,List.take_length_add_append],rfl,h3,h4,k1⟩
  rw[e,List.drop_length_add_append];simpa using k2
theorem bU.lens(sz:Nat){xs:List AV}{l:List Value}{F:List Nat}(i:Nat){x:AV}(h:bU w S sz xs l F)(hx:xs[i]?=some x):
 ∃y A Fx B,F=A++Fx++B/\y.cells.size=sz/\Rel w S x y Fx/\(∀j u,y.cells[j]?=some u->l[i*sz+j]?=some u)/\i*sz+sz<=l.length/\
  ∀(w':World)(S':Nat->Prop)(x':AV)(y':Value)(Ec:List Nat),(∀b,S b->S' b)->y'.cells.size=sz->
   (∀b,S b\/b∈A\/b∈B->w'.heap[b]?=w.heap[b]?)->Rel w' S' x' y' Ec->
   bU w' S' sz (xs.set i x') (l.take (i*sz)++y'.cells.toList++l.drop (i*sz+sz)) (A++Ec++B):=by
 obtain⟨A,G,rfl,h1,h2⟩:=bU.split sz i h;have cB:i<xs.length:=(List.getElem?_eq_some_iff.1 hx).1;have te:xs[i]=x:=(List.getElem?_eq_some_iff.1 hx).2;rw[List.drop_eq_getElem_cons cB,te]at h2;simp only[bU]at h2;obtain⟨y,l',Fx,B,e1,rfl,h4,h5,h6⟩:=h2;have hl:=bU.length sz h;have hlen:i*sz+sz<=l.length:=by have:(i+1)*sz<=xs.length*sz:=Nat.mul_le_mul_right _ cB;rw[Nat.add_mul]at this;omega
 have mC:y.cells.toList.length=sz:=by simpa using h4
 have e2:l.drop (i*sz+sz)=l':=by rw[<-List.drop_drop,e1,<-mC,List.drop_left]
 refine⟨y,A,Fx,B,by simp,h4,h5,fun j u hu=>?_,hlen,fun w' S' x' y' Ec hS hs k hr=>?_⟩
 ·have hj:j<y.cells.toList.length:=by simpa using(Array.getElem?_eq_some_iff.1 hu).1
  have:l[i*sz+j]?=(l.drop (i*sz))[j]?:=by simp
  rw[this,e1,List.getElem?_append_left hj];simpa using hu
 rw[e2];have jk:xs.set i x'=xs.take i++(x'::xs.drop (i+1)):=by rw[List.set_eq_take_append_cons_drop,if_pos cB]
 rw[jk,List.append_assoc,List.append_assoc];refine bU.append sz (bU.mono hS sz _ (bU.frame sz _ h1 fun b hb=>k b (hb.imp id .inl))) ?_;simp only[bU];exact⟨y',l',Ec,B,rfl,rfl,hs,hr,bU.mono hS sz _ (bU.frame sz _ h6 fun b hb=>k b (hb.imp id .inr))⟩
end
theorem bF{a:Addr}(h:a.spot=none)(n:Nat):a.add n=⟨a.block,a.off+n,none⟩:=by cases a with|mk b o s=>simp at h;subst h;unfold Addr.add;split<;>simp_all
theorem p7{w:World}{a:Addr}(h:a.spot=none){cs:Array Value}{fz:Nat×Nat}(hr:row? w a.block=some (cs,fz)):w.cell? a=cs[a.off]?:=by
 unfold row? at hr;unfold World.cell?;split at hr
 ·rename_i c e f hc;rw[hc];simp only[Option.some.injEq,Prod.mk.injEq]at hr;simp[h,hr.1]
 simp at hr
theorem bS{y:Value}(h:y.oneCell'=true):y.cells=#[y]:=by cases y<;>simp_all[Value.oneCell',Value.cells]
theorem aZ(cs:Array Value):(Value.agg cs).cells=cs:=rfl
theorem At.cell{w:World}{a:Addr}{z:Value}(h:At w a z)(h1:z.cells=#[z]):w.cell? a=some z:=by obtain⟨hs,cs,fz,hr,hc⟩:=h;rw[p7 hs hr];have:=hc 0 z (by simp[h1]);simpa using this
def Chg(w w':World)(a:Addr)(z:Value):Prop:=
 ∀cs fz,row? w a.block=some (cs,fz)->∃cs',row? w' a.block=some (cs',fz)/\cs'.size=cs.size/\(∀j u,z.cells[j]?=some u->cs'[a.off+j]?=some u)/\
  ∀k,k<a.off\/a.off+z.cells.size<=k->cs'[k]?=cs[k]?
section
variable{w:World}{S:Nat->Prop}
theorem bO{L:Loc}{z:Value}(h:holds w L z)(h1:z.cells=#[z]){s:Step}(hs:∀o n,s≠.at o n):step1 w L s=bH z s:=by
 cases L with
 |val y=>simp only[holds]at h;subst h;rfl
 |addr a=>
  cases s with
  | «at» o n=>exact absurd rfl (hs o n)
  |_=>simp[step1,At.cell h h1]
theorem dK{b off:Nat}{cs:Array Value}{fz:Nat×Nat}{z:Value}(hr:row? w b=some (cs,fz))(h:∀j u,z.cells[j]?=some u->cs[off+j]?=some u):At w ⟨b,off,none⟩ z:=⟨rfl,cs,fz,hr,h⟩
theorem At.same{w w':World}{a:Addr}{z:Value}(h:At w a z)(hr:w'.heap[a.block]?=w.heap[a.block]?):At w' a z:=by obtain⟨hs,cs,fz,h1,h2⟩:=h;exact⟨hs,cs,fz,(kj hr).trans h1,h2⟩
def Same(w w':World)(L:Loc):Prop:=∀a,L=.addr a->w'.heap[a.block]?=w.heap[a.block]?
theorem holds.same{w w':World}{L:Loc}{z:Value}(h:holds w L z)(hs:Same w w' L):holds w' L z:=by
 cases L with
 |val y=>exact h
 |addr a=>exact At.same h (hs a rfl)
theorem Same.val{w w':World}(y:Value):Same w w' (.val y):=fun _ h=>by cases h
theorem Same.addr{w w':World}{a:Addr}(h:w'.heap[a.block]?=w.heap[a.block]?):Same w w' (.addr a):=fun _ e=>by cases e;exact h
theorem Rel.step{s:Step}{p:Path}{x:AV}{z:Value}{F:List Nat}{L:Loc}{y:AV}(h:Rel w S x z F)(hL:holds w L z)(hg:a6 x (s::p)=some y):
 ∃L' x' z' F',step1 w L s=some L'/\holds w L' z'/\Rel w S x' z' F'/\a6 x' p=some y/\(∀b∈F',b∈F)/\
  ∀w',Same w w' L->(∀b,S b\/b∈F->w'.heap[b]?=w.heap[b]?)->step1 w' L s=some L'/\Same w w' L':=by
 unfold a6 at hg;split at hg
 ·rename_i f sz xs i fe;split at hg
  ·rename_i ct;subst ct;obtain⟨xi,te,hg⟩:=Option.bind_eq_some_iff.1 hg;cases f with
   |nil=>simp only[Rel]at h;rw[h.1]at te;simp at te
   |shr=>
    simp only[Rel]at h;rcases h with⟨rfl,-,-⟩|⟨b,off,cap,cs,fz,rfl,hS,hr,hc,hE,rfl⟩
    ·simp at te
    obtain⟨yi,A,Fx,B,hF,hy,hR,je,hle,-⟩:=bU.lens sz i hE te;have hA:At w ((⟨b,off,none⟩:Addr).add (i*sz)) yi:=by
     rw[bF rfl];refine dK hr fun j u hu=>?_;have:=je j u hu;rw[List.getElem?_take]at this;split at this
     ·simpa[Nat.add_assoc]using this
     simp at this
    have Zs:Fx=[]:=by have:=congrArg List.length hF;simp at this;exact List.eq_nil_of_length_eq_zero (by omega)
    refine⟨.addr _,xi,yi,Fx,by rw[bO hL rfl (by simp)];rfl,hA,hR,hg,fun b hb=>by rw[Zs]at hb;simp at hb,fun w' Mg c5=>?_⟩;exact⟨by rw[bO (hL.same Mg) rfl (by simp)];rfl,.addr (by rw[bF rfl];exact c5 b (.inl hS))⟩
   |own=>
    simp only[Rel]at h;rcases h with⟨rfl,-,-⟩|⟨b,cap,cs,F',rfl,hr,hc,hm,gb,hE,rfl⟩
    ·simp at te
    obtain⟨yi,A,Fx,B,rfl,hy,hR,je,hle,-⟩:=bU.lens sz i hE te;have hA:At w ((⟨b,0,none⟩:Addr).add (i*sz)) yi:=by
     rw[bF rfl];refine dK hr fun j u hu=>?_;have:=je j u hu;rw[List.getElem?_take]at this;split at this
     ·simpa[Nat.add_assoc]using this
     simp at this
    refine⟨.addr _,xi,yi,Fx,by rw[bO hL rfl (by simp)];rfl,hA,hR,hg,fun b hb=>by simp[hb],fun w' Mg c5=>?_⟩;exact⟨by rw[bO (hL.same Mg) rfl (by simp)];rfl,.addr (by rw[bF rfl];exact c5 b (.inr (by simp)))⟩
  simp at hg
 ·rename_i own x0;simp only[Rel]at h;obtain⟨b,cs,fz,F',z0,rfl,hr,hR,hz,h5⟩:=h;have hA:At w ⟨b,0,none⟩ z0:=dK hr fun j u hu=>by subst hz;simpa using hu
  refine⟨.addr _,x0,z0,F',by rw[bO hL rfl (by simp)];rfl,hA,hR,hg,fun c hc=>?_,fun w' Mg c5=>?_⟩
  ·cases own
   ·simp only[Bool.false_eq_true,if_false]at h5;rw[h5.2.1]at hc;simp at hc
   simp only[if_true]at h5;rw[h5.2];exact List.mem_cons_of_mem _ hc
  refine⟨by rw[bO (hL.same Mg) rfl (by simp)];rfl,.addr (c5 b ?_)⟩;cases own
  ·simp only[Bool.false_eq_true,if_false]at h5;exact .inl h5.1
  simp only[if_true]at h5;rw[h5.2];exact .inr (by simp)
 ·rename_i xs o;obtain⟨xo,Vq,hg⟩:=Option.bind_eq_some_iff.1 hg;simp only[Rel]at h;obtain⟨cs,rfl,hC⟩:=h;obtain⟨y0,A,Fx,B,rfl,h1,hR,hl,-⟩:=Cells.lens o hC Vq;have Ei:=bS (h1 rfl);have kh:cs[o]?=some y0:=by simpa using hl
  cases L with
  |val q=>simp only[holds]at hL;subst hL;exact⟨.val y0,xo,y0,Fx,by simp[step1,bH,kh],rfl,hR,hg,fun b hb=>by simp[hb],fun w' _ _=>⟨by simp[step1,bH,kh],.val _⟩⟩
  |addr a=>
   have Zi:∀w0,At w0 a (.agg cs)->At w0 (a.add o) y0:=by
    rintro w0⟨hs,cs',fz,hr,hc⟩;rw[bF hs];refine dK hr fun j u hu=>?_;rw[Ei]at hu
    match j,hu with
    |0,hu=>simp at hu;subst hu;simpa[aZ]using hc o y0 (by simpa[aZ]using kh)
   exact⟨_,xo,y0,Fx,rfl,Zi w hL,hR,hg,fun b hb=>by simp[hb],fun w' Mg _=>⟨rfl,.addr (by rw[bF hL.1];exact Mg a rfl)⟩⟩
 ·rename_i xs o n;split at hg
  ·rename_i YC;simp only[Rel]at h;obtain⟨cs,rfl,hC⟩:=h;obtain⟨A,G,rfl,c1,c2⟩:=Cells.split o hC;obtain⟨Fx,B,rfl,d1,d2⟩:=Cells.split n c2;have hR:Rel w S (.agg ((xs.drop o).take n)) (.agg (cs.extract o (o+n))) Fx:=by
    simp only[Rel];refine⟨_,rfl,?_⟩;have:(cs.extract o (o+n)).toList=(cs.toList.drop o).take n:=by simp
    rw[this];exact d1
   cases L with
   |val q=>simp only[holds]at hL;subst hL;exact⟨_,_,_,Fx,rfl,rfl,hR,hg,fun b hb=>by simp[hb],fun w' _ _=>⟨rfl,.val _⟩⟩
   |addr a=>
    have Zi:∀w0,At w0 a (.agg cs)->At w0 (a.add o) (.agg (cs.extract o (o+n))):=by
     rintro w0⟨hs,cs',fz,hr,hc⟩;rw[bF hs];refine dK hr fun j u hu=>?_;rw[aZ,Array.getElem?_extract]at hu;split at hu
     ·have:=hc (o+j) u (by rw[aZ];exact hu);simpa[Nat.add_assoc]using this
     simp at hu
    exact⟨_,_,_,Fx,rfl,Zi w hL,hR,hg,fun b hb=>by simp[hb],fun w' Mg _=>⟨rfl,.addr (by rw[bF hL.1];exact Mg a rfl)⟩⟩
  simp at hg
 ·rename_i xs i;obtain⟨xi,te,hg⟩:=Option.bind_eq_some_iff.1 hg;simp only[Rel]at h;obtain⟨cs,rfl,hC⟩:=h;obtain⟨y0,A,Fx,B,rfl,-,hR,hl,-⟩:=Cells.lens i hC te;have kh:cs[i]?=some y0:=by simpa using hl
  exact⟨.val y0,xi,y0,Fx,by rw[bO hL rfl (by simp)];simp[bH,kh],rfl,hR,hg,fun b hb=>by simp[hb],
   fun w' Mg _=>⟨by rw[bO (hL.same Mg) rfl (by simp)];simp[bH,kh],.val _⟩⟩
 ·rename_i f sz xs fe o n;split at hg
  ·rename_i hc;obtain⟨rfl,h0,h1⟩:=hc;have hz:∃ad len cap,z=.slice (some ad) len cap:=by
    cases f with
    |nil=>simp only[Rel]at h;rw[h.1]at h1;simp at h1;omega
    |shr=>
     simp only[Rel]at h;rcases h with⟨rfl,-,-⟩|⟨b,off,cap,cs,fz,rfl,-⟩
     ·simp at h1;omega
     exact⟨_,_,_,rfl⟩
    |own=>
     simp only[Rel]at h;rcases h with⟨rfl,-,-⟩|⟨b,cap,cs,F',rfl,-⟩
     ·simp at h1;omega
     exact⟨_,_,_,rfl⟩
   obtain⟨ad,len,cap,rfl⟩:=hz;exact⟨.val _,.dead,_,[],by rw[bO hL rfl (by simp)];rfl,rfl,by simp[Rel],hg,by simp,fun w' Mg _=>⟨by rw[bO (hL.same Mg) rfl (by simp)];rfl,.val _⟩⟩
  simp at hg
 simp at hg
theorem Rel.read:∀(p:Path){x:AV}{z:Value}{F:List Nat}{L:Loc}{y:AV},Rel w S x z F->holds w L z->a6 x p=some y->
 ∃L1 z1 F1,loc w L p=some L1/\holds w L1 z1/\Rel w S y z1 F1/\(∀b∈F1,b∈F)/\
  ∀w',Same w w' L->(∀b,S b\/b∈F->w'.heap[b]?=w.heap[b]?)->loc w' L p=some L1/\Same w w' L1
 |[],x,z,F,L,y,h,hL,hg=>by simp only[a6,Option.some.injEq]at hg;subst hg;exact⟨L,z,F,rfl,hL,h,fun _ h=>h,fun w' h _=>⟨rfl,h⟩⟩
 |s::p,x,z,F,L,y,h,hL,hg=>by obtain⟨L',x',z',F',e1,e2,e3,e4,e5,e6⟩:=Rel.step h hL hg;obtain⟨L1,z1,F1,k1,k2,k3,k4,k5⟩:=Rel.read p e3 e2 e4;refine⟨L1,z1,F1,by rw[loc,e1];exact k1,k2,k3,fun b hb=>e5 b (k4 b hb),fun w' RV c5=>?_⟩;obtain⟨g1,g2⟩:=e6 w' RV c5;obtain⟨g3,g4⟩:=k5 w' g2 (fun b hb=>c5 b (hb.imp id (e5 b)));exact⟨by rw[loc,g1];exact g3,g4⟩
end
section
variable{w:World}{S:Nat->Prop}
def Loc.iu:Loc->Option Nat
 |.val _=>none
 |.addr a=>some a.block
def WW(L:Loc)(z:Value)(A:List Nat):Loc->Value->Prop
 |.val _,_=>True
 |.addr ad,z1=>ad.block∈A\/∃a,L=.addr a/\ad.block=a.block/\a.off<=ad.off/\ad.off+z1.cells.size<=a.off+z.cells.size
def Up(w w':World)(L1:Loc)(z1 Cx:Value):Prop:=
 match L1 with
 |.val _=>Cx=z1
 |.addr ad=>Chg w w' ad Cx
def uc(w':World)(z:Value):Loc->Value->Prop
 |.val _,z'=>z'=z
 |.addr a,z'=>At w' a z'
theorem HD{l y:List Value}{k sz n:Nat}(hl:k+sz<=l.length)(hy:y.length=sz){cs':List Value}(hlen:cs'.length=l.length)
 (h1:∀j,j<sz->cs'[k+j]?=y[j]?)(h2:∀j,j<k\/k+sz<=j->cs'[j]?=l[j]?):cs'=l.take k++y++l.drop (k+sz):=by
 apply List.ext_getElem?;intro j;by_cases hj:j<k
 ·rw[h2 j (.inl hj),List.append_assoc,List.getElem?_append_left (by simp;omega),List.getElem?_take_of_lt hj]
 by_cases Xk:j<k+sz
 ·have e:j=k+(j-k):=by omega
  rw[e,h1 (j-k) (by omega),List.append_assoc,List.getElem?_append_right (by simp;omega),List.getElem?_append_left (by simp;omega)]
  congr 1
  simp;omega
 rw[h2 j (.inr (by omega)),List.getElem?_append_right (by simp;omega)];simp only[List.length_append,List.length_take,List.getElem?_drop,hy]
 congr 1
 omega
theorem Rel.fB:∀(p:Path){x x' y y':AV}{z:Value}{F:List Nat}{L:Loc},Rel w S x z F->holds w L z->a6 x p=some y->c8 x p y'=some x'->
 F.Nodup->(∀b∈F,¬S b)->(∀b,L.iu=some b->¬S b/\b∉F)->
 ∃L1 z1 A F1 B,loc w L p=some L1/\holds w L1 z1/\Rel w S y z1 F1/\F=A++F1++B/\WW L z A L1 z1/\
  ∀(w':World)(S':Nat->Prop)(Cx:Value)(vQ:List Nat),(∀b,S b->S' b)->Cx.cells.size=z1.cells.size->(z1.oneCell'=true->Cx.oneCell'=true)->
   (∀b,(S b\/b∈A\/b∈B\/L.iu=some b)->L1.iu≠some b->w'.heap[b]?=w.heap[b]?)->Up w w' L1 z1 Cx->Rel w' S' y' Cx vQ->
   ∃z',Rel w' S' x' z' (A++vQ++B)/\z'.cells.size=z.cells.size/\(z.oneCell'=true->z'.oneCell'=true)/\uc w' z L z'
 |[],x,x',y,y',z,F,L,h,hL,hg,hs,_,_,_=>by
  simp only[a6,c8,Option.some.injEq]at hg hs;subst hg hs;refine⟨L,z,[],F,[],rfl,hL,h,by simp,?_,fun w' S' Cx vQ hS hz h1 c5 ht hr=>⟨Cx,by simpa using hr,hz,h1,?_⟩⟩
  ·cases L with
   |val q=>trivial
   |addr a=>exact .inr ⟨a,rfl,rfl,Nat.le_refl _,Nat.le_refl _⟩
  cases L with
  |val q=>exact ht
  |addr a=>obtain⟨nM,cs,fz,xB,hc⟩:=hL;obtain⟨cs',e1,e2,e3,e4⟩:=ht cs fz xB;exact⟨nM,cs',fz,e1,e3⟩
 |s::p,x,x',y,y',z,F,L,h,hL,hg,hs,hN,Pe,Pc=>by
  unfold a6 at hg;split at hg
  ·rename_i f sz xs i fe;split at hg
   ·rename_i ct;subst ct;cases f with
    |nil=>simp[c8]at hs
    |shr=>simp[c8]at hs
    |own=>
     obtain⟨xi,te,hg⟩:=Option.bind_eq_some_iff.1 hg;simp only[c8,te,if_true,Option.bind_some,Option.map_eq_some_iff]at hs;obtain⟨XH,hs,rfl⟩:=hs;simp only[Rel]at h;rcases h with⟨rfl,-,-⟩|⟨b,cap,cs,F',rfl,hr,hc,hm,gb,hE,rfl⟩
     ·simp at te
     obtain⟨yi,A0,Fx,B0,rfl,hy,hR,je,hle,FN⟩:=bU.lens sz i hE te;have hA:At w ⟨b,i*sz,none⟩ yi:=dK hr fun j u hu=>by
      have:=je j u hu;rw[List.getElem?_take]at this;split at this
      ·simpa using this
      simp at this
     have Yk:i<xs.length:=(List.getElem?_eq_some_iff.1 te).1;have hEl:=bU.length sz hE;simp only[List.length_take,Array.length_toList]at hEl hle;have uh:=List.nodup_cons.1 hN;simp only[List.mem_append,not_or]at uh;have Wh:Fx.Nodup:=by have:=uh.2;rw[List.nodup_append,List.nodup_append]at this;exact this.1.2.1
     obtain⟨L1,z1,A,F1,B,k1,k2,k3,rfl,k5,k6⟩:=Rel.fB p (L:=.addr ⟨b,i*sz,none⟩) hR hA hg hs Wh
      (fun c bT=>Pe c (by simp[bT])) (fun c bT=>by simp[Loc.iu]at bT;subst bT;exact⟨Pe _ (by simp),uh.1.1.2⟩)
     refine⟨L1,z1,b::(A0++A),F1,B++B0,?_,k2,k3,by simp,?_,fun w' S' Cx vQ hS hz h1 c5 ht pc=>?_⟩
     ·rw[loc,bO hL rfl (by simp),bH,bF rfl];simpa using k1
     ·cases L1 with
      |val q=>trivial
      |addr ad=>
       rcases k5 with k5|⟨a,ha,k5,_⟩
       ·exact .inl (by simp[k5])
       cases ha;exact .inl (by simp[k5])
     have OO:∀c,(S c\/c∈A\/c∈B\/Loc.iu (.addr ⟨b,i*sz,none⟩)=some c)->L1.iu≠some c->w'.heap[c]?=w.heap[c]?:=fun c bT cR=>c5 c (by rcases bT with h|h|h|h<;>simp[Loc.iu]at h⊢ <;>simp[h]) cR
     obtain⟨z',j1,j2,j3,j4⟩:=k6 w' S' Cx vQ hS hz h1 OO ht pc;have V9:∃cs',row? w' b=some (cs',(0,0))/\cs'.size=cs.size/\∀k,k<i*sz\/i*sz+sz<=k->cs'[k]?=cs[k]?:=by
      by_cases hb:L1.iu=some b
      ·cases L1 with
       |val q=>simp[Loc.iu]at hb
       |addr ad=>
        simp only[Loc.iu,Option.some.injEq]at hb;rcases k5 with k5|⟨a,ha,k5,k7,k8⟩
        ·exact absurd (hb▸k5) (fun fC=>uh.1.1.2 (by simp[fC]))
        cases ha;obtain⟨cs',e1,e2,e3,e4⟩:=ht cs (0,0) (by rw[hb];exact hr);refine⟨cs',by rw[<-hb];exact e1,e2,fun k hk=>e4 k ?_⟩;simp only at k7 k8;rw[hy]at k8;rw[hz];omega
      exact⟨cs,(kj (c5 b (by simp) hb)).trans hr,rfl,fun _ _=>rfl⟩
     obtain⟨cs',r1,r2,r3⟩:=V9;have Wj:At w' ⟨b,i*sz,none⟩ z':=j4;obtain⟨-,M0,Pm,rx,rT⟩:=Wj;simp only at rx rT;rw[r1]at rx;obtain⟨rfl,rfl⟩:cs'=M0/\(0,0)=Pm:=by simpa using rx
     have acV:=FN w' S' XH z' (A++vQ++B) hS (by rw[j2,hy]) (fun c bT=>c5 c (by
      rcases bT with h|h|h
      ·exact .inl h
      ·exact .inr (.inl (by simp[h]))
      exact .inr (.inr (.inl (by simp[h])))) (fun nN=>by
      cases L1 with
      |val q=>simp[Loc.iu]at nN
      |addr ad=>
       simp only[Loc.iu,Option.some.injEq]at nN;have FQ:c∈b::A:=by
        rcases k5 with k5|⟨a,ha,k5,_⟩
        ·simp[<-nN,k5]
        cases ha;simp only at k5;simp[<-nN,k5]
       rcases bT with h|h|h
       ·refine(Pe c ?_) h;rcases List.mem_cons.1 FQ with e|e<;>simp[e]
       ·rcases List.mem_cons.1 FQ with e|e
        ·subst e;exact uh.1.1.1 h
        have:=uh.2;rw[List.nodup_append,List.nodup_append]at this;exact this.1.2.2 c h c (by simp[e]) rfl
       rcases List.mem_cons.1 FQ with e|e
       ·subst e;exact uh.1.2 h
       have:=uh.2;rw[List.nodup_append]at this;exact this.2.2 c (by simp[e]) c h rfl)) j1
     refine⟨_,?_,rfl,fun h=>h,?_⟩
     ·simp only[Rel];refine .inr ⟨b,cap,cs',A0++(A++vQ++B)++B0,by rw[List.length_set],r1,by rw[List.length_set];exact hc,hm,by rw[r2];exact gb,?_,by simp⟩;rw[List.length_set];have e:cs'.toList.take (xs.length*sz)=(cs.toList.take (xs.length*sz)).take (i*sz)++z'.cells.toList++(cs.toList.take (xs.length*sz)).drop (i*sz+sz):=by
       refine HD (n:=0) (by simp;omega) (by simp[j2,hy]) (by simp[r2]) (fun j hj=>?_) (fun j hj=>?_)
       ·rw[List.getElem?_take_of_lt (by omega)];have QE:j<z'.cells.size:=by rw[j2,hy];exact hj
        have:=rT j z'.cells[j] (by simp[QE]);simp only[Array.getElem?_toList];rw[this];simp[QE]
       simp only[List.getElem?_take,Array.getElem?_toList];split
       ·exact r3 j hj
       rfl
      rw[e];exact acV
     cases L with
     |val q=>rfl
     |addr a=>
      obtain⟨nM,GO,IB,xB,Me⟩:=hL;have Sj:a.block∉b::(A0++(A++F1++B)++B0):=(Pc a.block rfl).2;refine⟨nM,GO,IB,(kj (c5 a.block (by simp[Loc.iu]) (fun nN=>?_))).trans xB,Me⟩;cases L1 with
      |val q=>simp[Loc.iu]at nN
      |addr ad=>
       simp only[Loc.iu,Option.some.injEq]at nN;rcases k5 with k5|⟨a',ha,k5,_⟩
       ·exact Sj (by simp[<-nN,k5])
       cases ha;simp only at k5;exact Sj (by simp[<-nN,k5])
   simp at hg
  ·rename_i own x0;cases own with
   |false=>simp[c8]at hs
   |true=>
    simp only[c8,Option.map_eq_some_iff]at hs;obtain⟨x0',hs,rfl⟩:=hs;simp only[Rel,if_true]at h;obtain⟨b,cs,fz,F',z0,rfl,hr,hR,QA,rfl,rfl⟩:=h;have hA:At w ⟨b,0,none⟩ z0:=dK hr fun j u hu=>by subst QA;simpa using hu
    have uh:=List.nodup_cons.1 hN;obtain⟨L1,z1,A,F1,B,k1,k2,k3,rfl,k5,k6⟩:=Rel.fB p (L:=.addr ⟨b,0,none⟩) hR hA hg hs uh.2
     (fun c bT=>Pe c (by simp[bT])) (fun c bT=>by simp[Loc.iu]at bT;subst bT;exact⟨Pe _ (by simp),uh.1⟩)
    refine⟨L1,z1,b::A,F1,B,?_,k2,k3,by simp,?_,fun w' S' Cx vQ hS hz h1 c5 ht pc=>?_⟩
    ·rw[loc,bO hL rfl (by simp),bH];simpa using k1
    ·cases L1 with
     |val q=>trivial
     |addr ad=>
      rcases k5 with k5|⟨a,ha,k5,_⟩
      ·exact .inl (by simp[k5])
      cases ha;exact .inl (by simp[k5])
    have OO:∀c,(S c\/c∈A\/c∈B\/Loc.iu (.addr ⟨b,0,none⟩)=some c)->L1.iu≠some c->w'.heap[c]?=w.heap[c]?:=fun c bT cR=>c5 c (by rcases bT with h|h|h|h<;>simp[Loc.iu]at h⊢ <;>simp[h]) cR
    obtain⟨z',j1,j2,j3,j4⟩:=k6 w' S' Cx vQ hS hz h1 OO ht pc;have V9:∃cs',row? w' b=some (cs',(0,0))/\cs'.size=cs.size:=by
     by_cases hb:L1.iu=some b
     ·cases L1 with
      |val q=>simp[Loc.iu]at hb
      |addr ad=>simp only[Loc.iu,Option.some.injEq]at hb;obtain⟨cs',e1,e2,e3,e4⟩:=ht cs (0,0) (by rw[hb];exact hr);exact⟨cs',by rw[<-hb];exact e1,e2⟩
     exact⟨cs,(kj (c5 b (by simp) hb)).trans hr,rfl⟩
    obtain⟨cs',r1,r2⟩:=V9;have Wj:At w' ⟨b,0,none⟩ z':=j4;obtain⟨-,M0,Pm,rx,rT⟩:=Wj;simp only at rx rT;rw[r1]at rx;obtain⟨rfl,rfl⟩:cs'=M0/\(0,0)=Pm:=by simpa using rx
    refine⟨_,?_,rfl,fun h=>h,?_⟩
    ·simp only[Rel,if_true];refine⟨b,cs',(0,0),A++vQ++B,z',rfl,r1,j1,?_,rfl,by simp⟩;apply Array.ext_getElem?;intro j;by_cases hj:j<z'.cells.size
     ·have:=rT j z'.cells[j] (by simp[hj]);simp only[Nat.zero_add]at this;rw[this];simp[hj]
     have Xk:¬j<cs'.size:=by rw[r2,<-QA,<-j2];exact hj
     simp[hj,Xk]
    cases L with
    |val q=>rfl
    |addr a=>
     obtain⟨nM,GO,IB,xB,Me⟩:=hL;have Sj:a.block∉b::(A++F1++B):=(Pc a.block rfl).2;refine⟨nM,GO,IB,(kj (c5 a.block (by simp[Loc.iu]) (fun nN=>?_))).trans xB,Me⟩;cases L1 with
     |val q=>simp[Loc.iu]at nN
     |addr ad=>
      simp only[Loc.iu,Option.some.injEq]at nN;rcases k5 with k5|⟨a',ha,k5,_⟩
      ·exact Sj (by simp[<-nN,k5])
      cases ha;simp only at k5;exact Sj (by simp[<-nN,k5])
  ·rename_i xs o;obtain⟨xo,Vq,hg⟩:=Option.bind_eq_some_iff.1 hg;simp only[c8,Vq,Option.bind_some,Option.map_eq_some_iff]at hs;obtain⟨xo',hs,rfl⟩:=hs;simp only[Rel]at h;obtain⟨cs,rfl,hC⟩:=h;obtain⟨y0,A0,Fx,B0,rfl,h1,hR,hl,FN⟩:=Cells.lens o hC Vq;have Ei:=bS (h1 rfl);have kh:cs[o]?=some y0:=by simpa using hl
   have j7:∃L',step1 w L (.at o none)=some L'/\holds w L' y0/\L'.iu=L.iu/\(∀a,L=.addr a->L'=.addr ⟨a.block,a.off+o,none⟩)/\∀q,L=.val q->L'=.val y0:=by
    cases L with
    |val q=>simp only[holds]at hL;subst hL;exact⟨.val y0,by simp only[step1,bH];simp[kh],rfl,rfl,by simp,by simp⟩
    |addr a=>
     obtain⟨nM,cs',fz,hr,hc⟩:=hL;refine⟨_,rfl,?_,by rw[bF nM];rfl,fun a' ha=>by cases ha;rw[bF nM],by simp⟩;rw[bF nM];refine dK hr fun j u hu=>?_;rw[Ei]at hu
     match j,hu with
     |0,hu=>simp at hu;subst hu;simpa[aZ]using hc o y0 (by simpa[aZ]using kh)
   obtain⟨L',e1,e2,e3,e4,e5⟩:=j7;have Wh:Fx.Nodup:=by rw[List.nodup_append,List.nodup_append]at hN;exact hN.1.2.1
   obtain⟨L1,z1,A,F1,B,k1,k2,k3,rfl,k5,k6⟩:=Rel.fB p hR e2 hg hs Wh (fun c bT=>Pe c (by simp[bT]))
    (fun c bT=>by rw[e3]at bT;exact⟨(Pc c bT).1,fun hm=>(Pc c bT).2 (by simp[hm])⟩)
   have hW:∀ad,L1=.addr ad->ad.block∈A\/∃a,L=.addr a/\ad.block=a.block/\a.off+o<=ad.off/\ad.off+z1.cells.size<=a.off+o+1:=by
    intro ad Zk;subst Zk;rcases k5 with k5|⟨a',ha,g1,g2,g3⟩
    ·exact .inl k5
    cases B7:L with
    |val q=>rw[e5 q B7]at ha;cases ha
    |addr a=>rw[e4 a B7]at ha;cases ha;exact .inr ⟨a,rfl,g1,g2,by rw[Ei]at g3;simpa using g3⟩
   refine⟨L1,z1,A0++A,F1,B++B0,by rw[loc,e1];exact k1,k2,k3,by simp,?_,fun w' S' Cx vQ hS hz Zy c5 ht pc=>?_⟩
   ·cases th:L1 with
    |val q=>trivial
    |addr ad=>
     rcases hW ad th with k|⟨a,g1,g2,g3,g4⟩
     ·exact .inl (by simp[k])
     refine .inr ⟨a,g1,g2,by omega,?_⟩;have:o<cs.size:=(Array.getElem?_eq_some_iff.1 kh).1;rw[aZ];omega
   obtain⟨z',j1,j2,j3,j4⟩:=k6 w' S' Cx vQ hS hz Zy (fun c bT cR=>c5 c (by
    rcases bT with h|h|h|h
    ·exact .inl h
    ·exact .inr (.inl (by simp[h]))
    ·exact .inr (.inr (.inl (by simp[h])))
    exact .inr (.inr (.inr (by rw[e3]at h;exact h)))) cR) ht pc
   have J8:=FN w' S' xo' z' (A++vQ++B) hS (fun _=>j3 (h1 rfl)) (fun c bT=>c5 c (by
    rcases bT with h|h|h
    ·exact .inl h
    ·exact .inr (.inl (by simp[h]))
    exact .inr (.inr (.inl (by simp[h])))) (fun nN=>by
    cases th:L1 with
    |val q=>rw[th]at nN;simp[Loc.iu]at nN
    |addr ad=>
     rw[th]at nN;simp only[Loc.iu,Option.some.injEq]at nN;rcases hW ad th with k|⟨a,g1,g2,-⟩
     ·rw[nN]at k;rcases bT with h|h|h
      ·exact Pe c (by simp[k]) h
      ·rw[List.nodup_append,List.nodup_append]at hN;exact hN.1.2.2 c h c (by simp[k]) rfl
      rw[List.nodup_append]at hN;exact hN.2.2 c (by simp[k]) c h rfl
     have:=Pc c (by rw[g1,<-nN,g2];rfl);rcases bT with h|h|h
     ·exact this.1 h
     ·exact this.2 (by simp[h])
     exact this.2 (by simp[h]))) j1
   refine⟨.agg (cs.setIfInBounds o z'),?_,by simp[aZ],fun h=>by simp[Value.oneCell']at h,?_⟩
   ·simp only[Rel];exact⟨_,rfl,by simpa using J8⟩
   cases B7:L with
   |val q=>
    rw[e5 q B7]at j4;simp only[uc]at j4⊢;subst j4
    congr 1
    apply Array.ext_getElem?;intro j;rw[Array.getElem?_setIfInBounds];split
    ·rename_i hj;subst hj;split
     ·exact kh.symm
     rename_i hh;rw[Array.getElem?_eq_none (by omega)]
    rfl
   |addr a=>
    rw[e4 a B7]at j4;rw[B7]at hL c5;obtain⟨nM,GO,IB,xB,Me⟩:=hL;obtain⟨-,M0,Pm,rx,rT⟩:=j4;simp only at rx rT;have Vn:=bS (j3 (h1 rfl));refine⟨nM,M0,Pm,rx,fun j u hu=>?_⟩;rw[aZ,Array.getElem?_setIfInBounds]at hu;split at hu
    ·rename_i hj;subst hj;split at hu
     ·simp only[Option.some.injEq]at hu;subst hu;have:=rT 0 z' (by rw[Vn];rfl);simpa using this
     simp at hu
    rename_i hj;have hold:=Me j u (by rw[aZ];exact hu);by_cases hb:L1.iu=some a.block
    ·cases th:L1 with
     |val q=>rw[th]at hb;simp[Loc.iu]at hb
     |addr ad=>
      rw[th]at hb ht;simp only[Loc.iu,Option.some.injEq]at hb;rcases hW ad th with k|⟨a',g1,g2,g3,g4⟩
      ·exact absurd (by simp[hb▸k]) ((Pc a.block (by rw[B7];rfl)).2)
      rw[B7]at g1;cases g1;obtain⟨cs',q1,q2,q3,q4⟩:=ht GO IB (by rw[hb];exact xB);rw[hb,rx]at q1;obtain⟨rfl,rfl⟩:M0=cs'/\Pm=IB:=by simpa using q1
      rw[q4 _ (by rw[hz];omega)];exact hold
    have:=kj (c5 a.block (by simp[Loc.iu]) hb);rw[rx,xB]at this;obtain⟨rfl,rfl⟩:M0=GO/\Pm=IB:=by simpa using this
    exact hold
  ·rename_i xs o n;split at hg
   ·rename_i YC;simp only[c8,YC,if_true,Option.bind_eq_some_iff]at hs;obtain⟨o8,hs,gw⟩:=hs;simp only[Rel]at h;obtain⟨cs,rfl,hC⟩:=h;obtain⟨A0,G,rfl,c1,c2⟩:=Cells.split o hC;obtain⟨Fx,B0,rfl,d1,d2⟩:=Cells.split n c2;rw[List.drop_drop,List.drop_drop]at d2;have hlen:=Cells.length hC;have ad6:cs.size=xs.length:=by simpa using hlen
    have hR:Rel w S (.agg ((xs.drop o).take n)) (.agg (cs.extract o (o+n))) Fx:=by
     simp only[Rel];refine⟨_,rfl,?_⟩;have:(cs.extract o (o+n)).toList=(cs.toList.drop o).take n:=by simp
     rw[this];exact d1
    have ct:(Value.agg (cs.extract o (o+n))).cells.size=n:=by rw[aZ];simp;omega
    have j7:∃L',step1 w L (.at o (some n))=some L'/\holds w L' (.agg (cs.extract o (o+n)))/\L'.iu=L.iu/\(∀a,L=.addr a->L'=.addr ⟨a.block,a.off+o,none⟩)/\
     ∀q,L=.val q->L'=.val (.agg (cs.extract o (o+n))):=by
     cases L with
     |val q=>simp only[holds]at hL;subst hL;exact⟨_,rfl,rfl,rfl,by simp,by simp⟩
     |addr a=>
      obtain⟨nM,cs',fz,hr,hc⟩:=hL;refine⟨_,rfl,?_,by rw[bF nM];rfl,fun a' ha=>by cases ha;rw[bF nM],by simp⟩;rw[bF nM];refine dK hr fun j u hu=>?_;rw[aZ,Array.getElem?_extract]at hu;split at hu
      ·have:=hc (o+j) u (by rw[aZ];exact hu);simpa[Nat.add_assoc]using this
      simp at hu
    obtain⟨L',e1,e2,e3,e4,e5⟩:=j7;have Wh:Fx.Nodup:=by rw[List.nodup_append,List.nodup_append]at hN;exact hN.2.1.1
    obtain⟨L1,z1,A,F1,B,k1,k2,k3,rfl,k5,k6⟩:=Rel.fB p hR e2 hg hs Wh (fun c bT=>Pe c (by simp[bT]))
     (fun c bT=>by rw[e3]at bT;exact⟨(Pc c bT).1,fun hm=>(Pc c bT).2 (by simp[hm])⟩)
    have hW:∀ad,L1=.addr ad->ad.block∈A\/∃a,L=.addr a/\ad.block=a.block/\a.off+o<=ad.off/\ad.off+z1.cells.size<=a.off+o+n:=by
     intro ad Zk;subst Zk;rcases k5 with k5|⟨a',ha,g1,g2,g3⟩
     ·exact .inl k5
     cases B7:L with
     |val q=>rw[e5 q B7]at ha;cases ha
     |addr a=>rw[e4 a B7]at ha;cases ha;exact .inr ⟨a,rfl,g1,g2,by rw[ct]at g3;exact g3⟩
    refine⟨L1,z1,A0++A,F1,B++B0,by rw[loc,e1];exact k1,k2,k3,by simp,?_,fun w' S' Cx vQ hS hz Zy c5 ht pc=>?_⟩
    ·cases th:L1 with
     |val q=>trivial
     |addr ad=>
      rcases hW ad th with k|⟨a,g1,g2,g3,g4⟩
      ·exact .inl (by simp[k])
      refine .inr ⟨a,g1,g2,by omega,?_⟩;rw[aZ];omega
    obtain⟨z',j1,j2,j3,j4⟩:=k6 w' S' Cx vQ hS hz Zy (fun c bT cR=>c5 c (by
     rcases bT with h|h|h|h
     ·exact .inl h
     ·exact .inr (.inl (by simp[h]))
     ·exact .inr (.inr (.inl (by simp[h])))
     exact .inr (.inr (.inr (by rw[e3]at h;exact h)))) cR) ht pc
    split at gw
    ·rename_i ys;split at gw
     ·rename_i mC;simp only[Option.some.injEq]at gw;subst gw;simp only[Rel]at j1;obtain⟨cs1,rfl,hC1⟩:=j1;have Zb:cs1.size=n:=by rw[ct,aZ]at j2;exact j2
      have OS:∀c,(S c\/c∈A0\/c∈B0)->w'.heap[c]?=w.heap[c]?:=fun c bT=>c5 c (by
       rcases bT with h|h|h
       ·exact .inl h
       ·exact .inr (.inl (by simp[h]))
       exact .inr (.inr (.inl (by simp[h])))) (fun nN=>by
       cases th:L1 with
       |val q=>rw[th]at nN;simp[Loc.iu]at nN
       |addr ad=>
        rw[th]at nN;simp only[Loc.iu,Option.some.injEq]at nN;rcases hW ad th with k|⟨a,g1,g2,-⟩
        ·rw[nN]at k;rcases bT with h|h|h
         ·exact Pe c (by simp[k]) h
         ·rw[List.nodup_append]at hN;exact hN.2.2 c h c (by simp[k]) rfl
         rw[List.nodup_append,List.nodup_append]at hN;exact hN.2.1.2.2 c (by simp[k]) c h rfl
        have:=Pc c (by rw[g1,<-nN,g2];rfl);rcases bT with h|h|h
        ·exact this.1 h
        ·exact this.2 (by simp[h])
        exact this.2 (by simp[h]))
      have iC:Cells w' S' true (xs.take o++ys++xs.drop (o+n)) (cs.toList.take o++cs1.toList++cs.toList.drop (o+n)) (A0++(A++vQ++B)++B0):=
       Cells.append (Cells.append (Cells.mono hS _ (Cells.frame _ c1 fun c bT=>OS c (bT.imp id .inl))) hC1)
        (Cells.mono hS _ (Cells.frame _ d2 fun c bT=>OS c (bT.imp id .inr)))
      refine⟨.agg (cs.toList.take o++cs1.toList++cs.toList.drop (o+n)).toArray,?_,?_,fun h=>by simp[Value.oneCell']at h,?_⟩
      ·simp only[Rel];exact⟨_,rfl,by simpa using iC⟩
      ·rw[aZ,aZ];simp;omega
      cases B7:L with
      |val q=>
       rw[e5 q B7]at j4;simp only[uc,Value.agg.injEq]at j4⊢;subst j4;apply Array.ext_getElem?;intro j;simp only[List.getElem?_toArray];by_cases hj:j<o
       ·rw[List.append_assoc,List.getElem?_append_left (by simp;omega),List.getElem?_take_of_lt hj];simp
       by_cases Xk:j<o+n
       ·rw[List.append_assoc,List.getElem?_append_right (by simp;omega),List.getElem?_append_left (by simp;omega)];simp only[Array.getElem?_toList,Array.getElem?_extract,List.length_take,Array.length_toList];rw[if_pos (by omega)]
        congr 1;omega
       rw[List.getElem?_append_right (by simp;omega)];simp only[List.getElem?_drop,Array.getElem?_toList,List.length_append,List.length_take,Array.length_toList,Zb]
       congr 1;omega
      |addr a=>
       rw[e4 a B7]at j4;rw[B7]at hL c5;obtain⟨nM,GO,IB,xB,Me⟩:=hL;obtain⟨-,M0,Pm,rx,rT⟩:=j4;simp only at rx rT;refine⟨nM,M0,Pm,rx,fun j u hu=>?_⟩;rw[aZ]at hu;simp only[List.getElem?_toArray]at hu;have Il:∀j u,(j<o\/o+n<=j)->cs[j]?=some u->M0[a.off+j]?=some u:=by
        intro j u hj hu;have hold:=Me j u (by rw[aZ];exact hu);by_cases hb:L1.iu=some a.block
        ·cases th:L1 with
         |val q=>rw[th]at hb;simp[Loc.iu]at hb
         |addr ad=>
          rw[th]at hb ht;simp only[Loc.iu,Option.some.injEq]at hb;rcases hW ad th with k|⟨a',g1,g2,g3,g4⟩
          ·exact absurd (by simp[hb▸k]) ((Pc a.block (by rw[B7];rfl)).2)
          rw[B7]at g1;cases g1;obtain⟨cs',q1,q2,q3,q4⟩:=ht GO IB (by rw[hb];exact xB);rw[hb,rx]at q1;obtain⟨rfl,rfl⟩:M0=cs'/\Pm=IB:=by simpa using q1
          rw[q4 _ (by rw[hz];omega)];exact hold
        have:=kj (c5 a.block (by simp[Loc.iu]) hb);rw[rx,xB]at this;obtain⟨rfl,rfl⟩:M0=GO/\Pm=IB:=by simpa using this
        exact hold
       by_cases hj:j<o
       ·rw[List.append_assoc,List.getElem?_append_left (by simp;omega),List.getElem?_take_of_lt hj]at hu;exact Il j u (.inl hj) (by simpa using hu)
       by_cases Xk:j<o+n
       ·rw[List.append_assoc,List.getElem?_append_right (by simp;omega),List.getElem?_append_left (by simp;omega)]at hu;simp only[Array.getElem?_toList,List.length_take,Array.length_toList]at hu;have:=rT (j-min o cs.size) u (by rw[aZ];exact hu);rw[<-this];congr 1;omega
       rw[List.getElem?_append_right (by simp;omega)]at hu;simp only[List.getElem?_drop,Array.getElem?_toList,List.length_append,List.length_take,Array.length_toList,Zb]at hu;refine Il j u (.inr (by omega)) ?_;rw[<-hu];congr 1;omega
     simp at gw
    simp at gw
   simp at hg
  ·rename_i xs i;obtain⟨xi,te,hg⟩:=Option.bind_eq_some_iff.1 hg;simp only[c8,te,Option.bind_some,Option.map_eq_some_iff]at hs;obtain⟨XH,hs,rfl⟩:=hs;simp only[Rel]at h;obtain⟨cs,rfl,hC⟩:=h;obtain⟨y0,A0,Fx,B0,rfl,-,hR,hl,FN⟩:=Cells.lens i hC te;have kh:cs[i]?=some y0:=by simpa using hl
   have j7:step1 w L (.bC i)=some (.val y0):=by rw[bO hL rfl (by simp)];simp[bH,kh]
   have Wh:Fx.Nodup:=by rw[List.nodup_append,List.nodup_append]at hN;exact hN.1.2.1
   obtain⟨L1,z1,A,F1,B,k1,k2,k3,rfl,k5,k6⟩:=Rel.fB p (L:=.val y0) hR rfl hg hs Wh (fun c bT=>Pe c (by simp[bT])) (by simp[Loc.iu]);have hW:∀ad,L1=.addr ad->ad.block∈A:=by
    intro ad Zk;subst Zk;rcases k5 with k5|⟨a',ha,_⟩
    ·exact k5
    cases ha
   refine⟨L1,z1,A0++A,F1,B++B0,by rw[loc,j7];exact k1,k2,k3,by simp,?_,fun w' S' Cx vQ hS hz Zy c5 ht pc=>?_⟩
   ·cases th:L1 with
    |val q=>trivial
    |addr ad=>exact .inl (by simp[hW ad th])
   obtain⟨z',j1,j2,j3,j4⟩:=k6 w' S' Cx vQ hS hz Zy (fun c bT cR=>c5 c (by
    rcases bT with h|h|h|h
    ·exact .inl h
    ·exact .inr (.inl (by simp[h]))
    ·exact .inr (.inr (.inl (by simp[h])))
    simp[Loc.iu]at h) cR) ht pc
   simp only[uc]at j4;subst j4;have J8:=FN w' S' XH z' (A++vQ++B) hS (by simp) (fun c bT=>c5 c (by
    rcases bT with h|h|h
    ·exact .inl h
    ·exact .inr (.inl (by simp[h]))
    exact .inr (.inr (.inl (by simp[h])))) (fun nN=>by
    cases th:L1 with
    |val q=>rw[th]at nN;simp[Loc.iu]at nN
    |addr ad=>
     rw[th]at nN;simp only[Loc.iu,Option.some.injEq]at nN;have k:=hW ad th;rw[nN]at k;rcases bT with h|h|h
     ·exact Pe c (by simp[k]) h
     ·rw[List.nodup_append,List.nodup_append]at hN;exact hN.1.2.2 c h c (by simp[k]) rfl
     rw[List.nodup_append]at hN;exact hN.2.2 c (by simp[k]) c h rfl)) j1
   refine⟨.tuple cs,?_,rfl,fun h=>h,?_⟩
   ·simp only[Rel];refine⟨cs,rfl,?_⟩;have:cs.toList.set i z'=cs.toList:=by
     apply List.ext_getElem?;intro j;rw[List.getElem?_set];split
     ·rename_i hj;subst hj;split
      ·exact hl.symm
      rename_i hh;rw[List.getElem?_eq_none (by omega)]
     rfl
    rw[this]at J8;simpa using J8
   cases B7:L with
   |val q=>rfl
   |addr a=>
    rw[B7]at hL c5;obtain⟨nM,GO,IB,xB,Me⟩:=hL;refine⟨nM,GO,IB,(kj (c5 a.block (by simp[Loc.iu]) (fun nN=>?_))).trans xB,Me⟩;cases th:L1 with
    |val q=>rw[th]at nN;simp[Loc.iu]at nN
    |addr ad=>rw[th]at nN;simp only[Loc.iu,Option.some.injEq]at nN;have k:=hW ad th;rw[nN]at k;exact(Pc a.block (by rw[B7];rfl)).2 (by simp[k])
  ·rename_i f sz xs fe o n;cases f<;>simp[c8]at hs
  simp at hg
end
structure Sl where
 av:AV
 g1:Nat
 g2:Nat
instance:Inhabited Sl:=⟨⟨.dead,0,0⟩⟩
abbrev St:=Nat->Sl
def fB{α:Type}(f:Nat->α)(i:Nat)(x:α):Nat->α:=fun j=>if j=i then x else f j
theorem ak{α:Type}(f:Nat->α)(i:Nat)(x:α):fB f i x i=x:=by simp[fB]
theorem ab{α:Type}(f:Nat->α){i j:Nat}(x:α)(h:j≠i):fB f i x j=f j:=by simp[fB,h]
def flat:Path->Bool
 |[]=>false
 |_::p=>p.all fun|.at .. =>true|_=>false
def iP:Path->Bool
 |[]=>true
 |[.jI ..]=>true
 |[.bC _]=>true
 |_=>false
def KS:Path->Bool
 |[]=>true
 |[.bC _]=>true
 |_=>false
theorem CA{p:Path}{q:Prop}(h:KS p=true\/q):iP p=true\/q:=h.imp (fun h=>by
 unfold KS at h;split at h
 ·rfl
 ·rfl
 simp at h) id
theorem BS{w w':World}{p:Path}(h:iP p=true)(z:Value):loc w (.val z) p=loc w' (.val z) p:=by
 unfold iP at h;split at h
 ·rfl
 ·simp only[loc,step1]
 ·simp only[loc,step1]
 simp at h
theorem BU{w:World}{p:Path}(h:iP p=true){z:Value}{L:Loc}(hl:loc w (.val z) p=some L):∃u,L=.val u:=by
 unfold iP at h;split at h
 ·simp only[loc,Option.some.injEq]at hl;exact⟨z,hl.symm⟩
 ·simp only[loc,step1]at hl;cases z<;>simp[bH]at hl;rename_i a n c;cases a<;>simp at hl;exact⟨_,hl.symm⟩
 ·simp only[loc,step1]at hl;cases z<;>simp[bH]at hl;obtain⟨u,-,hu⟩:=hl;exact⟨_,hu.symm⟩
 simp at h
theorem Dd{w w':World}:∀(p:Path)(a:Addr),(p.all fun|.at .. =>true|_=>false)=true->loc w (.addr a) p=loc w' (.addr a) p
 |[],a,_=>rfl
 |.at o n::p,a,h=>by simp only[loc,step1,Option.bind_some];exact Dd p _ (by simpa using h)
 |.idx .. ::p,a,h=>by simp at h
 |.deref::p,a,h=>by simp at h
 |.bC .. ::p,a,h=>by simp at h
 |.jI .. ::p,a,h=>by simp at h
theorem wq{w w':World}:∀(p:Path)(z:Value),(p.all fun|.at .. =>true|_=>false)=true->loc w (.val z) p=loc w' (.val z) p
 |[],z,_=>rfl
 |.at o n::p,z,h=>by
  simp only[loc,step1];have hp:(p.all fun|.at .. =>true|_=>false)=true:=by simpa using h
  cases hh:bH z (.at o n)with
  |none=>rfl
  |some L=>
   cases L with
   |val y=>exact wq p y hp
   |addr a=>exact Dd p a hp
 |.idx .. ::p,a,h=>by simp at h
 |.deref::p,a,h=>by simp at h
 |.bC .. ::p,a,h=>by simp at h
 |.jI .. ::p,a,h=>by simp at h
theorem FB{w w':World}{p:Path}(h:flat p=true)(z:Value):loc w (.val z) p=loc w' (.val z) p:=by
 cases p with
 |nil=>rfl
 |cons s p=>
  simp only[flat]at h;simp only[loc,step1];cases hh:bH z s with
  |none=>rfl
  |some L=>
   cases L with
   |val y=>exact wq p y h
   |addr a=>exact Dd p a h
def ai(w:World)(S:Nat->Prop)(σ:St)(T:Nat->Value)(i:Nat)(F:List Nat):Prop:=
 match(σ i).av with
 |.bg r g1 g2 p=>F=[]/\g1<=(σ r).g1/\g2<=(σ r).g2/\((σ r).g1=g1->(iP p=true\/(σ r).g2=g2)->(iP p=false->∃y,a6 (σ r).av p=some y)->
   ∃L,loc w (.val (T r)) p=some L/\holds w L (T i)/\∀ad,L=.addr ad->(T i).oneCell'=true)
 |.ptr r g1 g2 p=>F=[]/\g1<=(σ r).g1/\g2<=(σ r).g2/\(∃ad,T i=.pointer (some ad))/\((σ r).g1=g1->(flat p=true\/(σ r).g2=g2)->(flat p=false->∃y,a6 (σ r).av p=some y)->
   ∃ad,loc w (.val (T r)) p=some (.addr ad)/\T i=.pointer (some ad))
 |.abs J=>∀w' S',(∀b,S b\/b∈F->w'.heap[b]?=w.heap[b]?)->(∀b,S b->S' b)->J w' S' F
 |.dY g aW=>F=[]/\(∀q∈aW,q.2<=(σ q.1).g1)/\((∀q∈aW,(σ q.1).g1=q.2)->T i=.func (.func g) #[] (aW.map fun q=>T q.1).toArray)
 |av=>Rel w S av (T i) F
def AV.plain:AV->Bool
 |.bg .. |.ptr .. |.abs .. |.dY .. =>false
 |_=>true
theorem ai.ar{w:World}{S:Nat->Prop}{σ:St}{T:Nat->Value}{i:Nat}{F:List Nat}(hp:(σ i).av.plain=true):ai w S σ T i F↔Rel w S (σ i).av (T i) F:=by
 unfold ai;split
 ·rename_i h;rw[h]at hp;simp[AV.plain]at hp
 ·rename_i h;rw[h]at hp;simp[AV.plain]at hp
 ·rename_i h;rw[h]at hp;simp[AV.plain]at hp
 ·rename_i h;rw[h]at hp;simp[AV.plain]at hp
 rfl
theorem Rel.plain{w:World}{S:Nat->Prop}{av:AV}{y:Value}{F:List Nat}(h:Rel w S av y F):av.plain=true:=by cases av<;>simp_all[Rel,AV.plain]
structure aK(S:Nat->Prop)(B:Nat->Prop)(σ:St)(T:Nat->Value)(w:World)(F:Nat->List Nat):Prop where
 rel:∀i,ai w S σ T i (F i)
 nodup:∀i,(F i).Nodup
 cx:∀i j,i≠j->∀b∈F i,b∉F j
 own:∀i,∀b∈F i,B b/\b<w.heap.size/\¬S b
 shr:∀b,S b->b<w.heap.size
structure Z6(S:Nat->Prop)(σ σ':St)(T T':Nat->Value)(w w':World)(F:Nat->List Nat):Prop where
 g1:∀r,(σ r).g1<=(σ' r).g1
 g2:∀r,(σ r).g2<=(σ' r).g2
 val:∀r,(σ' r).g1=(σ r).g1->T' r=T r
 ins:∀r,(σ' r).g1=(σ r).g1->(σ' r).g2=(σ r).g2->(∀p y,a6 (σ' r).av p=some y->∃y',a6 (σ r).av p=some y')/\∀b,S b\/b∈F r->w'.heap[b]?=w.heap[b]?
theorem ai.goes{w w':World}{S S':Nat->Prop}{σ σ':St}{T T':Nat->Value}{F:Nat->List Nat}{i:Nat}(hc:∀i,ai w S σ T i (F i))(hg:Z6 S σ σ' T T' w w' F)
 (hS:∀b,S b->S' b)(bQ:(σ' i).av=(σ i).av)(hT:T' i=T i)(c5:∀b,S b\/b∈F i->w'.heap[b]?=w.heap[b]?):ai w' S' σ' T' i (F i):=by
 have h:=hc i;unfold ai at h⊢;rw[bQ];split
 ·rename_i r g1 g2 p hv;rw[hv]at h;simp only at h;obtain⟨h1,h2,h3,h4⟩:=h;refine⟨h1,Nat.le_trans h2 (hg.g1 r),Nat.le_trans h3 (hg.g2 r),fun k1 k2 k3=>?_⟩;have e1:(σ r).g1=g1:=Nat.le_antisymm (by have:=hg.g1 r;omega) h2;have SF:(σ' r).g1=(σ r).g1:=by omega
  by_cases hp:iP p=true
  ·obtain⟨L,l1,l2,l5⟩:=h4 e1 (.inl hp) (fun h=>by rw[hp]at h;simp at h);obtain⟨u,rfl⟩:=BU hp l1;refine⟨_,by rw[hg.val r SF,<-BS (w:=w) hp];exact l1,?_,by simp⟩;simpa[holds,hT]using l2
  have k2':(σ' r).g2=g2:=k2.resolve_left hp;have e2:(σ r).g2=g2:=Nat.le_antisymm (by have:=hg.g2 r;omega) h3;obtain⟨y',AF⟩:=k3 (by simpa using hp);obtain⟨j1,j2⟩:=hg.ins r SF (by omega);obtain⟨y,hy⟩:=j1 p y' AF;obtain⟨L,l1,l2,l5⟩:=h4 e1 (.inr e2) fun _=>⟨y,hy⟩;have hr:=hc r;have gJ:(σ r).av.plain=true:=by
   cases p with
   |nil=>exact absurd rfl hp
   |cons s p=>cases hh:(σ r).av<;>simp[AV.plain]<;>(rw[hh]at hy;simp[a6]at hy)
  rw[ai.ar gJ]at hr;obtain⟨L1,z1,F1,r1,r2,r3,r4,r5⟩:=Rel.read p (L:=.val (T r)) hr rfl hy;rw[r1]at l1;simp only[Option.some.injEq]at l1;subst l1;obtain⟨q1,q2⟩:=r5 w' (.val _) j2;exact⟨L1,by rw[hg.val r SF];exact q1,by rw[hT];exact l2.same q2,by rw[hT];exact l5⟩
 ·rename_i r g1 g2 p hv;rw[hv]at h;simp only at h;obtain⟨h1,h2,h3,h5,h4⟩:=h;refine⟨h1,Nat.le_trans h2 (hg.g1 r),Nat.le_trans h3 (hg.g2 r),by rw[hT];exact h5,fun k1 k2 k3=>?_⟩;have e1:(σ r).g1=g1:=Nat.le_antisymm (by have:=hg.g1 r;omega) h2;have SF:(σ' r).g1=(σ r).g1:=by omega
  by_cases hp:flat p=true
  ·obtain⟨ad,l1,l2⟩:=h4 e1 (.inl hp) (fun h=>by rw[hp]at h;simp at h);exact⟨ad,by rw[hg.val r SF,<-FB (w:=w) hp];exact l1,by rw[hT];exact l2⟩
  have k2':(σ' r).g2=g2:=k2.resolve_left hp;have e2:(σ r).g2=g2:=Nat.le_antisymm (by have:=hg.g2 r;omega) h3;obtain⟨y',AF⟩:=k3 (by simpa using hp);obtain⟨j1,j2⟩:=hg.ins r SF (by omega);obtain⟨y,hy⟩:=j1 p y' AF;obtain⟨ad,l1,l2⟩:=h4 e1 (.inr e2) fun _=>⟨y,hy⟩;have hr:=hc r;cases p with
  |nil=>simp[loc]at l1
  |cons s p=>
   have gJ:(σ r).av.plain=true:=by cases hh:(σ r).av<;>simp[AV.plain]<;>(rw[hh]at hy;simp[a6]at hy)
   rw[ai.ar gJ]at hr;obtain⟨L1,z1,F1,r1,r2,r3,r4,r5⟩:=Rel.read (s::p) (L:=.val (T r)) hr rfl hy;rw[r1]at l1;simp only[Option.some.injEq]at l1;subst l1;exact⟨ad,by rw[hg.val r SF];exact(r5 w' (.val _) j2).1,by rw[hT];exact l2⟩
 ·rename_i J hv;rw[hv]at h;exact fun w2 S2 k1 k2=>h w2 S2 (fun b hb=>(k1 b (hb.imp (hS b) id)).trans (c5 b hb)) (fun b hb=>k2 b (hS b hb))
 ·rename_i g aW hv;rw[hv]at h;simp only at h;obtain⟨h1,h2,h3⟩:=h;refine⟨h1,fun q hq=>Nat.le_trans (h2 q hq) (hg.g1 _),fun k1=>?_⟩;have e1:∀q∈aW,(σ q.1).g1=q.2:=fun q hq=>Nat.le_antisymm (by have:=hg.g1 q.1;rw[k1 q hq]at this;exact this) (h2 q hq);rw[hT,h3 e1]
  congr 2
  exact List.map_congr_left fun q hq=>(hg.val q.1 (by rw[k1 q hq,e1 q hq])).symm
 rename_i h1 h2 h3 h4;have gJ:(σ i).av.plain=true:=by
  cases hh:(σ i).av with
  |bg r g1 g2 p=>exact absurd hh (h1 r g1 g2 p)
  |ptr r g1 g2 p=>exact absurd hh (h2 r g1 g2 p)
  |abs J=>exact absurd hh (h3 J)
  |dY g aW=>exact absurd hh (h4 g aW)
  |_=>rfl
 have h':=hc i;rw[ai.ar gJ]at h';rw[hT];exact Rel.mono hS _ (Rel.frame _ h' c5)
section
variable{S S':Nat->Prop}{B:Nat->Prop}{σ:St}{T:Nat->Value}{w w':World}{F:Nat->List Nat}
theorem aK.step(h:aK S B σ T w F){σ':St}{T':Nat->Value}{F':Nat->List Nat}(hg:Z6 S σ σ' T T' w w' F)(hS:∀b,S b->S' b)
 (hs:∀i,((σ' i).av=(σ i).av/\T' i=T i/\F' i=F i/\∀b,S b\/b∈F i->w'.heap[b]?=w.heap[b]?)\/ai w' S' σ' T' i (F' i))
 (hn:∀i,(F' i).Nodup)(hd:∀i j,i≠j->∀b∈F' i,b∉F' j)(ho:∀i,∀b∈F' i,B b/\b<w'.heap.size/\¬S' b)(Ed:∀b,S' b->b<w'.heap.size):
 aK S' B σ' T' w' F' where
 rel i:=by
  rcases hs i with⟨h1,h2,h3,h4⟩|h1
  ·rw[h3];exact ai.goes h.rel hg hS h1 h2 h4
  exact h1
 nodup:=hn
 cx:=hd
 own:=ho
 shr:=Ed
theorem aK.put(h:aK S B σ T w F)(d:Nat)(av:AV)(z:Value)(eH:ai w S (fB σ d ⟨av,(σ d).g1+1,(σ d).g2⟩) (fB T d z) d []):
 aK S B (fB σ d ⟨av,(σ d).g1+1,(σ d).g2⟩) (fB T d z) w (fB F d []):=by
 refine h.step (w':=w) (S':=S) ⟨fun r=>?_,fun r=>?_,fun r hr=>?_,fun r hr _=>?_⟩ (fun _ h=>h) (fun i=>?_) (fun i=>?_) (fun i j fX b hb=>?_) (fun i b hb=>?_) h.shr
 ·by_cases e:r=d
  ·subst e;rw[ak];simp
  rw[ab _ _ e];exact Nat.le_refl _
 ·by_cases e:r=d
  ·subst e;rw[ak];simp
  rw[ab _ _ e];exact Nat.le_refl _
 ·by_cases e:r=d
  ·subst e;rw[ak]at hr;simp at hr
  rw[ab _ _ e]
 ·by_cases e:r=d
  ·subst e;rw[ak]at hr;simp at hr
  rw[ab _ _ e];exact⟨fun p y hy=>⟨y,hy⟩,fun _ _=>rfl⟩
 ·by_cases e:i=d
  ·subst e;right;rw[ak];exact eH
  left;rw[ab _ _ e,ab _ _ e,ab _ _ e];exact⟨rfl,rfl,rfl,fun _ _=>rfl⟩
 ·by_cases e:i=d
  ·subst e;rw[ak];exact List.nodup_nil
  rw[ab _ _ e];exact h.nodup i
 ·by_cases e:i=d
  ·subst e;rw[ak]at hb;simp at hb
  rw[ab _ _ e]at hb;by_cases e':j=d
  ·subst e';rw[ak];simp
  rw[ab _ _ e'];exact h.cx i j fX b hb
 by_cases e:i=d
 ·subst e;rw[ak]at hb;simp at hb
 rw[ab _ _ e]at hb;exact h.own i b hb
def made(σ:St)(M:List Nat)(n:Nat)(y:AV):St:=fun i=>if i=n then⟨y,(σ n).g1+1,(σ n).g2⟩else if i∈M then⟨.dead,(σ i).g1+1,(σ i).g2⟩else σ i
theorem aK.make(h:aK S B σ T w F)(M:List Nat)(n:Nat)(y:AV)(z:Value)(Fy:List Nat)(hB:∀b,w.heap.size<=b->B b)(gb:w.heap.size<=w'.heap.size)
 (c5:∀b,b<w.heap.size->(∀m∈M,b∉F m)->w'.heap[b]?=w.heap[b]?)(hFy:Fy.Nodup)(B2:∀b∈Fy,(∃m∈M,b∈F m)\/w.heap.size<=b/\b<w'.heap.size)
 (eH:Rel w' S y z Fy):aK S B (made σ M n y) (fB T n z) w' (fun i=>if i=n then Fy else if i∈M then[]else F i):=by
 have cB:∀i b,b∈F i->b<w.heap.size:=fun i b hb=>(h.own i b hb).2.1;have Xu:∀b,S b->w'.heap[b]?=w.heap[b]?:=fun b hb=>c5 b (h.shr b hb) (fun m _ oY=>(h.own m b oY).2.2 hb);have hF':∀i,i∉M->∀b∈F i,w'.heap[b]?=w.heap[b]?:=fun i hi b hb=>c5 b (cB i b hb) (fun m hm oY=>h.cx i m (fun e=>hi (e▸hm)) b hb oY);have hy:∀i,i∉M->∀b∈F i,b∉Fy:=fun i hi b hb hbF=>by
  rcases B2 b hbF with⟨m,hm,oY⟩|⟨h1,_⟩
  ·exact h.cx i m (fun e=>hi (e▸hm)) b hb oY
  have:=cB i b hb;omega
 refine h.step (w':=w') (S':=S) ⟨fun r=>?_,fun r=>?_,fun r hr=>?_,fun r hr _=>?_⟩ (fun _ h=>h) (fun i=>?_) (fun i=>?_) (fun i j fX b hb=>?_) (fun i b hb=>?_)
  (fun b hb=>Nat.lt_of_lt_of_le (h.shr b hb) gb)
 ·unfold made;split
  ·rename_i e;subst e;simp
  split<;>simp
 ·unfold made;split
  ·rename_i e;subst e;simp
  split<;>simp
 ·unfold made at hr;split at hr
  ·rename_i e;subst e;simp at hr
  rename_i e;exact ab _ _ e
 ·unfold made at hr⊢;split at hr
  ·rename_i e;subst e;simp at hr
  rename_i e;split at hr
  ·simp at hr
  rename_i e2;rw[if_neg e,if_neg e2];exact⟨fun p y hy=>⟨y,hy⟩,fun b hb=>hb.elim (Xu b) (hF' r e2 b)⟩
 ·by_cases e:i=n
  ·subst e;right;rw[ai.ar (by simp only[made,if_true];exact eH.plain)];simp only[made,if_true,ak];exact eH
  by_cases e2:i∈M
  ·right;rw[ai.ar (by simp[made,e,e2,AV.plain])];simp[made,e,e2,Rel]
  left;simp only[made,e,e2,if_false,ab _ _ e,true_and];exact fun b hb=>hb.elim (Xu b) (hF' i e2 b)
 ·by_cases e:i=n
  ·simp only[e,if_true];exact hFy
  by_cases e2:i∈M
  ·simp[e,e2]
  simp only[e,e2,if_false];exact h.nodup i
 ·by_cases e:i=n
  ·simp only[e,if_true]at hb;have hj:j≠n:=fun e'=>fX (e.trans e'.symm);simp only[hj,if_false];by_cases e2:j∈M
   ·simp[e2]
   simp only[e2,if_false];exact fun Eg=>hy j e2 b Eg hb
  simp only[e,if_false]at hb;by_cases e2:i∈M
  ·simp[e2]at hb
  simp only[e2,if_false]at hb;by_cases e3:j=n
  ·simp only[e3,if_true];exact hy i e2 b hb
  simp only[e3,if_false];by_cases e4:j∈M
  ·simp[e4]
  simp only[e4,if_false];exact h.cx i j fX b hb
 by_cases e:i=n
 ·simp only[e,if_true]at hb;rcases B2 b hb with⟨m,hm,oY⟩|⟨h1,h2⟩
  ·exact⟨(h.own m b oY).1,Nat.lt_of_lt_of_le (cB m b oY) gb,(h.own m b oY).2.2⟩
  exact⟨hB b h1,h2,fun Zp=>by have:=h.shr b Zp;omega⟩
 simp only[e,if_false]at hb;by_cases e2:i∈M
 ·simp[e2]at hb
 simp only[e2,if_false]at hb;exact⟨(h.own i b hb).1,Nat.lt_of_lt_of_le (cB i b hb) gb,(h.own i b hb).2.2⟩
theorem PY{ad:Addr}{z:Value}(h:At w ad z):Chg w w ad z:=by intro cs fz hr;obtain⟨_,cs',fz',pc,hc⟩:=h;rw[hr]at pc;simp only[Option.some.injEq,Prod.mk.injEq]at pc;obtain⟨rfl,rfl⟩:=pc;exact⟨cs,hr,rfl,hc,fun _ _=>rfl⟩
theorem nR{L:Loc}{z:Value}(h:holds w L z):Up w w L z z:=by
 cases L with
 |val y=>rfl
 |addr a=>exact PY h
def AV.cell:AV->Bool
 |.v _|.list .. |.box .. |.fn .. |.hole=>true
 |_=>false
theorem Rel.one{av:AV}{y:Value}{F:List Nat}(h:Rel w S av y F)(hc:av.cell=true):y.oneCell'=true:=by
 cases av with
 |v x=>simp only[Rel]at h;obtain⟨h1,rfl,-⟩:=h;cases y<;>simp_all[scalar,Value.oneCell']
 |list f sz xs=>
  cases f with
  |nil=>simp only[Rel]at h;rw[h.2.1];rfl
  |shr=>simp only[Rel]at h;rcases h with⟨-,h1,-⟩|⟨b,off,cap,cs,fz,h1,-⟩<;>rw[h1]<;>rfl
  |own=>simp only[Rel]at h;rcases h with⟨-,h1,-⟩|⟨b,cap,cs,F',h1,-⟩<;>rw[h1]<;>rfl
 |box own x=>simp only[Rel]at h;obtain⟨b,cs,fz,F',z,h1,-⟩:=h;rw[h1];rfl
 |fn f a c=>simp only[Rel]at h;obtain⟨a',c',F1,F2,h1,-⟩:=h;rw[h1];rfl
 |hole=>simp only[Rel]at h;exact h.1
 |_=>simp[AV.cell]at hc
def fR(y:AV):AV:=if y.cell then .hole else .dead
theorem Rel.fR{y:AV}{z:Value}{F1:List Nat}(h:Rel w S y z F1):Rel w S (fR y) z []:=by
 unfold Ai.fR;split
 ·rename_i hc;simp only[Rel];exact⟨h.one hc,trivial⟩
 simp[Rel]
def Sub(x' x:AV):Prop:=∀(p:Path)(y':AV),a6 x' p=some y'->∃y,a6 x p=some y
theorem CE:∀(p:Path){o8 xs:List AV},o8.length=xs.length->(∀(i:Nat)(a' a:AV),o8[i]?=some a'->xs[i]?=some a->Sub a' a)->∀y':AV,a6 (.agg o8) p=some y'->∃y,a6 (.agg xs) p=some y
 |[],o8,xs,_,_,y',_=>⟨_,rfl⟩
 |.at o none::p,o8,xs,hl,he,y',h=>by
  simp only[a6,Option.bind_eq_some_iff]at h⊢;obtain⟨a',h1,h2⟩:=h;have cB:o<xs.length:=by rw[<-hl];exact(List.getElem?_eq_some_iff.1 h1).1
  obtain⟨y,hy⟩:=he o a' _ h1 (List.getElem?_eq_getElem cB) p y' h2;exact⟨y,_,List.getElem?_eq_getElem cB,hy⟩
 |.at o (some n)::p,o8,xs,hl,he,y',h=>by
  simp only[a6]at h⊢;rw[hl]at h;split at h
  ·rename_i hle;rw[if_pos hle];refine CE p (by simp[hl]) (fun i a' a h1 h2=>?_) y' h;rw[List.getElem?_take]at h1 h2;split at h1
   ·rename_i FQ;rw[if_pos FQ,List.getElem?_drop]at h2;rw[List.getElem?_drop]at h1;exact he _ a' a h1 h2
   simp at h1
  simp at h
 |.idx .. ::p,o8,xs,_,_,y',h=>by simp[a6]at h
 |.deref::p,o8,xs,_,_,y',h=>by simp[a6]at h
 |.bC .. ::p,o8,xs,_,_,y',h=>by simp[a6]at h
 |.jI .. ::p,o8,xs,_,_,y',h=>by simp[a6]at h
theorem CD{xs:List AV}{i:Nat}{x x1:AV}(hx:xs[i]?=some x)(h:Sub x1 x):∀(j:Nat)(a' a:AV),(xs.set i x1)[j]?=some a'->xs[j]?=some a->Sub a' a:=by
 intro j a' a h1 h2;rw[List.getElem?_set]at h1;split at h1
 ·rename_i e;subst e;split at h1
  ·simp only[Option.some.injEq]at h1;subst h1;rw[hx]at h2;simp only[Option.some.injEq]at h2;subst h2;exact h
  simp at h1
 rw[h1]at h2;simp only[Option.some.injEq]at h2;subst h2;exact fun p y hy=>⟨y,hy⟩
theorem Ey{o8 xs:List AV}(hl:o8.length=xs.length)(he:∀(i:Nat)(a' a:AV),o8[i]?=some a'->xs[i]?=some a->Sub a' a){i:Nat}{p:Path}{y':AV}(h:o8[i]?.bind (a6 · p)=some y'):∃y,xs[i]?.bind (a6 · p)=some y:=by
 simp only[Option.bind_eq_some_iff]at h⊢;obtain⟨a',h1,h2⟩:=h;have cB:i<xs.length:=by rw[<-hl];exact(List.getElem?_eq_some_iff.1 h1).1
 obtain⟨y,hy⟩:=he i a' _ h1 (List.getElem?_eq_getElem cB) p y' h2;exact⟨y,_,List.getElem?_eq_getElem cB,hy⟩
theorem qj:∀(q:Path){x y h x':AV},a6 x q=some y->Sub h y->c8 x q h=some x'->Sub x' x
 |[],x,y,h,x',h1,h2,h3=>by simp only[a6,Option.some.injEq]at h1;simp only[c8,Option.some.injEq]at h3;subst h1;subst h3;exact h2
 |s::q,x,y,h,x',h1,h2,h3=>by
  intro p y' hp;cases p with
  |nil=>exact⟨_,rfl⟩
  |cons t p=>
   unfold c8 at h3;split at h3
   ·rename_i sz xs i fe;split at h3
    ·rename_i e;subst e;simp only[Option.bind_eq_some_iff,Option.map_eq_some_iff]at h3;obtain⟨x0,e1,x1,e2,rfl⟩:=h3;simp only[a6,if_true,e1,Option.bind_some]at h1;have he:=CD e1 (qj q h1 h2 e2);cases t with
     |idx j W4=>
      simp only[a6]at hp⊢;split at hp
      ·rename_i e;rw[if_pos e];exact Ey (by simp) he hp
      simp at hp
     |jI a b c=>simp only[a6,List.length_set]at hp⊢;exact⟨_,hp⟩
     |_=>simp[a6]at hp
    simp at h3
   ·simp only[Option.map_eq_some_iff]at h3;obtain⟨x1,e2,rfl⟩:=h3;simp only[a6]at h1;cases t with
    |deref=>simp only[a6]at hp⊢;exact qj q h1 h2 e2 p y' hp
    |_=>simp[a6]at hp
   ·rename_i xs o;simp only[Option.bind_eq_some_iff,Option.map_eq_some_iff]at h3;obtain⟨x0,e1,x1,e2,rfl⟩:=h3;simp only[a6,e1,Option.bind_some]at h1;exact CE (t::p) (by simp) (CD e1 (qj q h1 h2 e2)) y' hp
   ·rename_i xs o n;split at h3
    ·rename_i hle;simp only[Option.bind_eq_some_iff]at h3;obtain⟨z,e1,e2⟩:=h3;split at e2
     ·rename_i ys;split at e2
      ·rename_i hn;simp only[Option.some.injEq]at e2;subst e2;simp only[a6,if_pos hle]at h1;have AS:=qj q h1 h2 e1;have hlen:(xs.take o++ys++xs.drop (o+n)).length=xs.length:=by simp;omega
       refine CE (t::p) hlen (fun i a' a g1 g2=>?_) y' hp;by_cases c1:i<o
       ·rw[List.append_assoc,List.getElem?_append_left (by simp;omega),List.getElem?_take,if_pos c1,g2]at g1;simp only[Option.some.injEq]at g1;subst g1;exact fun p y hy=>⟨y,hy⟩
       by_cases c2:i<o+n
       ·rw[List.append_assoc,List.getElem?_append_right (by simp;omega),List.getElem?_append_left (by simp;omega)]at g1;have ho:(xs.take o).length=o:=by simp;omega
        rw[ho]at g1;intro p2 y2 LX;obtain⟨y3,hy3⟩:=AS (.at (i-o) none::p2) y2 (by simp only[a6,g1,Option.bind_some];exact LX);simp only[a6,List.getElem?_take,List.getElem?_drop]at hy3;rw[if_pos (by omega),show o+(i-o)=i by omega,g2]at hy3;exact⟨y3,hy3⟩
       rw[List.getElem?_append_right (by simp;omega),List.getElem?_drop]at g1;have ho:(xs.take o++ys).length=o+n:=by simp;omega
       rw[ho,show o+n+(i-(o+n))=i by omega,g2]at g1;simp only[Option.some.injEq]at g1;subst g1;exact fun p y hy=>⟨y,hy⟩
      simp at e2
     simp at e2
    simp at h3
   ·rename_i xs i;simp only[Option.bind_eq_some_iff,Option.map_eq_some_iff]at h3;obtain⟨x0,e1,x1,e2,rfl⟩:=h3;simp only[a6,e1,Option.bind_some]at h1;have he:=CD e1 (qj q h1 h2 e2);cases t with
    |bC j=>simp only[a6]at hp⊢;exact Ey (by simp) he hp
    |_=>simp[a6]at hp
   simp at h3
theorem Nj(y:AV):Sub (fR y) y:=by
 intro p y' h;cases p with
 |nil=>exact⟨_,rfl⟩
 |cons s p=>unfold fR at h;split at h<;>(cases s<;>simp[a6]at h)
def gR(s:Sl)(p:Path)(av:AV):Sl:=if p=[]then⟨av,s.g1+1,s.g2⟩else⟨av,s.g1,s.g2⟩
theorem um(s:Sl)(p:Path)(av:AV):(gR s p av).av=av:=by unfold gR;split<;>rfl
theorem KR(s:Sl)(p:Path)(av:AV):s.g1<=(gR s p av).g1:=by unfold gR;split<;>simp
theorem KQ(s:Sl)(p:Path)(av:AV):s.g2<=(gR s p av).g2:=by unfold gR;split<;>simp
theorem aK.take(h:aK S B σ T w F)(r n:Nat)(p:Path){y av':AV}(hrn:n≠r)(hp:(σ r).av.plain=true)(hg:a6 (σ r).av p=some y)(hs:c8 (σ r).av p (fR y)=some av'):
 ∃L z F1 F',loc w (.val (T r)) p=some L/\holds w L z/\Rel w S y z F1/\
  aK S B (fB (fB σ r (gR (σ r) p av')) n ⟨y,(σ n).g1+1,(σ n).g2⟩) (fB T n z) w F'/\F' n=F1/\∀m,m≠r->m≠n->F' m=F m:=by
 have hr:=h.rel r;rw[ai.ar hp]at hr;obtain⟨L,z,A,F1,B',k1,k2,k3,k4,k5,k6⟩:=Rel.fB p (L:=.val (T r)) hr rfl hg hs (h.nodup r) (fun b hb=>(h.own r b hb).2.2) (by simp[Loc.iu]);obtain⟨z',j1,-,-,j4⟩:=k6 w S z [] (fun _ h=>h) rfl (fun h=>h) (fun _ _ _=>rfl) (nR k2) k3.fR;simp only[uc]at j4;subst j4;have hN:=h.nodup r;rw[k4,List.nodup_append,List.nodup_append]at hN;have fC:∀b,b∈A++[]++B'->b∈F r:=fun b hb=>by rw[k4];simp at hb⊢;rcases hb with h|h<;>simp[h]
 have oM:∀b,b∈F1->b∈F r:=fun b hb=>by rw[k4];simp[hb]
 refine⟨L,z,F1,fun i=>if i=n then F1 else if i=r then A++[]++B' else F i,k1,k2,k3,?_,by simp,fun m h1 h2=>by simp[h1,h2]⟩;refine h.step (w':=w) (S':=S) ⟨fun i=>?_,fun i=>?_,fun i hi=>?_,fun i hi Mb=>?_⟩ (fun _ h=>h) (fun i=>?_) (fun i=>?_) (fun i j fX b hb=>?_) (fun i b hb=>?_) h.shr
 ·by_cases e:i=n
  ·subst e;rw[ak];simp
  rw[ab _ _ e];by_cases e2:i=r
  ·subst e2;rw[ak];exact KR _ _ _
  rw[ab _ _ e2];exact Nat.le_refl _
 ·by_cases e:i=n
  ·subst e;rw[ak];simp
  rw[ab _ _ e];by_cases e2:i=r
  ·subst e2;rw[ak];exact KQ _ _ _
  rw[ab _ _ e2];exact Nat.le_refl _
 ·by_cases e:i=n
  ·subst e;rw[ak]at hi;simp at hi
  exact ab _ _ e
 ·by_cases e:i=n
  ·subst e;rw[ak]at hi;simp at hi
  rw[ab _ _ e]at hi Mb⊢;by_cases e2:i=r
  ·subst e2;rw[ak,um];exact⟨qj p hg (Nj y) hs,fun _ _=>rfl⟩
  rw[ab _ _ e2];exact⟨fun p y hy=>⟨y,hy⟩,fun _ _=>rfl⟩
 ·by_cases e:i=n
  ·subst e;right;rw[ai.ar (by rw[ak];exact k3.plain)];simp only[ak,if_true];exact k3
  by_cases e2:i=r
  ·subst e2;right;have:(fB (fB σ i (gR (σ i) p av')) n ⟨y,(σ n).g1+1,(σ n).g2⟩ i).av=av':=by rw[ab _ _ e,ak,um]
   rw[ai.ar (by rw[this];exact j1.plain),this,ab _ _ e];simp only[e,if_false,if_true];exact j1
  left;simp only[ab _ _ e,ab _ _ e2,e,e2,if_false,true_and];exact fun _ _=>trivial
 ·by_cases e:i=n
  ·simp only[e,if_true];exact hN.1.2.1
  by_cases e2:i=r
  ·simp only[e,if_false];rw[if_pos e2];rw[List.append_nil,List.nodup_append];exact⟨hN.1.1,hN.2.1,fun a ha b hb=>hN.2.2 a (by simp[ha]) b hb⟩
  simp only[e,e2,if_false];exact h.nodup i
 ·have xb:∀b,b∈F1->b∉A++[]++B':=fun b hb dr=>by
   simp at dr;rcases dr with h|h
   ·exact hN.1.2.2 b h b hb rfl
   exact hN.2.2 b (by simp[hb]) b h rfl
  by_cases e:i=n
  ·simp only[e,if_true]at hb;have hj:j≠n:=fun e'=>fX (e.trans e'.symm);simp only[hj,if_false];by_cases e2:j=r
   ·rw[if_pos e2];exact xb b hb
   rw[if_neg e2];exact fun Eg=>h.cx j r e2 b Eg (oM b hb)
  simp only[e,if_false]at hb;by_cases e2:i=r
  ·rw[if_pos e2]at hb;by_cases e3:j=n
   ·simp only[e3,if_true];exact fun dr=>xb b dr hb
   simp only[e3,if_false];rw[if_neg (fun e'=>fX (e2.trans e'.symm))];exact fun Eg=>h.cx j r (fun e'=>fX (e2.trans e'.symm)) b Eg (fC b hb)
  rw[if_neg e2]at hb;by_cases e3:j=n
  ·simp only[e3,if_true];exact fun dr=>h.cx i r e2 b hb (oM b dr)
  simp only[e3,if_false];by_cases e4:j=r
  ·rw[if_pos e4];exact fun dr=>h.cx i r e2 b hb (fC b dr)
  rw[if_neg e4];exact h.cx i j fX b hb
 by_cases e:i=n
 ·simp only[e,if_true]at hb;exact h.own r b (oM b hb)
 simp only[e,if_false]at hb;by_cases e2:i=r
 ·rw[if_pos e2]at hb;exact h.own r b (fC b hb)
 rw[if_neg e2]at hb;exact h.own i b hb
theorem aK.share(h:aK S B σ T w F)(r:Nat)(p:Path){y av':AV}(hp:(σ r).av.plain=true)(hg:a6 (σ r).av p=some y)(hs:c8 (σ r).av p y.bf=some av'):
 ∃(L:Loc)(z:Value)(F1:List Nat)(F':Nat->List Nat),loc w (.val (T r)) p=some L/\holds w L z/\Rel w S y z F1/\
  aK (fun b=>S b\/b∈F1) B (fB σ r ⟨av',(σ r).g1,(σ r).g2+1⟩) T w F'/\(∀b∈F1,b∈F r):=by
 have hr:=h.rel r;rw[ai.ar hp]at hr;obtain⟨L,z,A,F1,B',k1,k2,k3,k4,k5,k6⟩:=Rel.fB p (L:=.val (T r)) hr rfl hg hs (h.nodup r) (fun b hb=>(h.own r b hb).2.2) (by simp[Loc.iu]);have oM:∀b,b∈F1->b∈F r:=fun b hb=>by rw[k4];simp[hb]
 obtain⟨z',j1,-,-,j4⟩:=k6 w (fun b=>S b\/b∈F1) z [] (fun _ h=>.inl h) rfl (fun h=>h) (fun _ _ _=>rfl) (nR k2) (Rel.share (fun _ h=>.inl h) _ k3 (fun b hb=>.inr hb));simp only[uc]at j4;subst j4;have hN:=h.nodup r;rw[k4,List.nodup_append,List.nodup_append]at hN;have fC:∀b,b∈A++[]++B'->b∈F r:=fun b hb=>by rw[k4];simp at hb⊢;rcases hb with h|h<;>simp[h]
 have xb:∀b,b∈F1->b∉A++[]++B':=fun b hb dr=>by
  simp at dr;rcases dr with h|h
  ·exact hN.1.2.2 b h b hb rfl
  exact hN.2.2 b (by simp[hb]) b h rfl
 refine⟨L,z,F1,fun i=>if i=r then A++[]++B' else F i,k1,k2,k3,?_,oM⟩;refine h.step (w':=w) (S':=fun b=>S b\/b∈F1) (F':=fun i=>if i=r then A++[]++B' else F i) ⟨fun i=>?_,fun i=>?_,fun i hi=>rfl,fun i hi Mb=>?_⟩ (fun _ h=>.inl h) (fun i=>?_) (fun i=>?_) (fun i j fX b hb=>?_) (fun i b hb=>?_) (fun b(hb:S b\/b∈F1)=>?_)
 ·by_cases e:i=r
  ·subst e;rw[ak];exact Nat.le_refl _
  rw[ab _ _ e];exact Nat.le_refl _
 ·by_cases e:i=r
  ·subst e;rw[ak];simp
  rw[ab _ _ e];exact Nat.le_refl _
 ·by_cases e:i=r
  ·subst e;rw[ak]at Mb;simp at Mb
  rw[ab _ _ e];exact⟨fun p y hy=>⟨y,hy⟩,fun _ _=>rfl⟩
 ·by_cases e:i=r
  ·subst e;right;rw[ai.ar (by rw[ak];exact j1.plain),ak];simp only[if_true];exact j1
  left;simp only[ab _ _ e,e,if_false,true_and];exact fun _ _=>trivial
 ·by_cases e:i=r
  ·simp only[e,if_true];rw[List.append_nil,List.nodup_append];exact⟨hN.1.1,hN.2.1,fun a ha b hb=>hN.2.2 a (by simp[ha]) b hb⟩
  simp only[e,if_false];exact h.nodup i
 ·by_cases e:i=r
  ·simp only[e,if_true]at hb;rw[if_neg (fun e'=>fX (e.trans e'.symm))];exact fun Eg=>h.cx j r (fun e'=>fX (e.trans e'.symm)) b Eg (fC b hb)
  simp only[e,if_false]at hb;by_cases e2:j=r
  ·rw[if_pos e2];exact fun dr=>h.cx i r e b hb (fC b dr)
  rw[if_neg e2];exact h.cx i j fX b hb
 ·by_cases e:i=r
  ·simp only[e,if_true]at hb;obtain⟨o1,o2,o3⟩:=h.own r b (fC b hb);exact⟨o1,o2,fun hh=>hh.elim o3 (fun h1=>xb b h1 hb)⟩
  simp only[e,if_false]at hb;obtain⟨o1,o2,o3⟩:=h.own i b hb;exact⟨o1,o2,fun hh=>hh.elim o3 (fun h1=>h.cx i r e b hb (oM b h1))⟩
 rcases hb with hb|hb
 ·exact h.shr b hb
 exact(h.own r b (oM b hb)).2.1
def stored(σ:St)(r:Nat)(M:List Nat)(av:AV):St:=fun i=>if i=r then⟨av,(σ r).g1,(σ r).g2+1⟩else if i∈M then⟨.dead,(σ i).g1+1,(σ i).g2⟩else σ i
theorem aK.store(h:aK S B σ T w F)(r:Nat)(M:List Nat)(p:Path){y y' av':AV}{z':Value}{Fv:List Nat}{ad:Addr}(R4:r∉M)(hp:(σ r).av.plain=true)
 (hg:a6 (σ r).av p=some y)(hs:c8 (σ r).av p y'=some av')(hl:loc w (.val (T r)) p=some (.addr ad))
 (hv:Rel w S y' z' Fv)(hFv:Fv.Nodup)(B2:∀b∈Fv,∃m∈M,b∈F m):
 ∃z,At w ad z/\(∃F1,Rel w S y z F1)/\B ad.block/\(z'.cells.size=z.cells.size->(z.oneCell'=true->z'.oneCell'=true)->
  ∀w',w'.heap.size=w.heap.size->(∀b,b≠ad.block->w'.heap[b]?=w.heap[b]?)->Chg w w' ad z'->
   ∃F',aK S B (stored σ r M av') T w' F'):=by
 have hr:=h.rel r;rw[ai.ar hp]at hr;obtain⟨L,z,A,F1,B',k1,k2,k3,k4,k5,k6⟩:=Rel.fB p (L:=.val (T r)) hr rfl hg hs (h.nodup r) (fun b hb=>(h.own r b hb).2.2) (by simp[Loc.iu]);rw[k1]at hl;simp only[Option.some.injEq]at hl;subst hl;have hA:ad.block∈A:=by
  rcases k5 with k5|⟨a,ha,_⟩
  ·exact k5
  cases ha
 have Si:ad.block∈F r:=by rw[k4];simp[hA]
 have hvr:∀b∈Fv,b∉F r:=fun b hb=>by obtain⟨m,hm,oY⟩:=B2 b hb;exact h.cx m r (fun e=>R4 (e▸hm)) b oY
 have hvo:∀i,i∉M->∀b∈Fv,b∉F i:=fun i hi b hb=>by obtain⟨m,hm,oY⟩:=B2 b hb;exact h.cx m i (fun e=>hi (e▸hm)) b oY
 refine⟨z,k2,⟨F1,k3⟩,(h.own r _ Si).1,fun ct h1 w' gb c5 hch=>?_⟩;have cR:∀i,i≠r->∀b∈F i,b≠ad.block:=fun i hi b hb e=>h.cx i r hi b hb (e▸Si);have Wg:∀b,S b->b≠ad.block:=fun b hb e=>(h.own r _ Si).2.2 (e▸hb);have Vx:Rel w' S y' z' Fv:=Rel.frame _ hv fun b hb=>c5 b (hb.elim (Wg b) (fun hb e=>hvr b hb (e▸Si)));obtain⟨zz,j1,-,-,j4⟩:=k6 w' S z' Fv (fun _ h=>h) ct h1 (fun b _ hb=>c5 b (by simpa[Loc.iu,eq_comm]using hb)) hch Vx;simp only[uc]at j4;subst j4;have hN:=h.nodup r;rw[k4,List.nodup_append,List.nodup_append]at hN;have fC:∀b,b∈A++Fv++B'->b∈F r\/b∈Fv:=fun b hb=>by rw[k4];simp at hb⊢;rcases hb with h|h|h<;>simp[h]
 have hmA:∀b,b∈A\/b∈B'->b∈F r:=fun b hb=>by rw[k4];simp;rcases hb with h|h<;>simp[h]
 refine⟨fun i=>if i=r then A++Fv++B' else if i∈M then[]else F i,?_⟩;refine h.step (w':=w') (S':=S) ⟨fun i=>?_,fun i=>?_,fun i hi=>rfl,fun i hi Mb=>?_⟩ (fun _ h=>h) (fun i=>?_) (fun i=>?_) (fun i j fX b hb=>?_) (fun i b hb=>?_) (fun b hb=>by rw[gb];exact h.shr b hb)
 ·unfold stored;split
  ·rename_i e;subst e;exact Nat.le_refl _
  split<;>simp
 ·unfold stored;split
  ·rename_i e;subst e;simp
  split<;>simp
 ·unfold stored at hi Mb⊢;split at hi
  ·rename_i e;subst e;simp at Mb
  rename_i e;split at hi
  ·simp at hi
  rename_i e2;rw[if_neg e,if_neg e2];exact⟨fun p y hy=>⟨y,hy⟩,fun b hb=>c5 b (hb.elim (Wg b) (cR i e b))⟩
 ·by_cases e:i=r
  ·subst e;right;have:(stored σ i M av' i).av=av':=by simp[stored]
   rw[ai.ar (by rw[this];exact j1.plain),this];simp only[if_true];exact j1
  by_cases e2:i∈M
  ·right;have:(stored σ r M av' i).av=.dead:=by simp[stored,e,e2]
   rw[ai.ar (by rw[this];rfl),this];simp[e,e2,Rel]
  left;simp only[stored,e,e2,if_false,true_and];exact fun b hb=>c5 b (hb.elim (Wg b) (cR i e b))
 ·by_cases e:i=r
  ·rw[if_pos e];rw[List.nodup_append,List.nodup_append];refine⟨⟨hN.1.1,hFv,fun a ha b hb e=>hvr b hb (e▸hmA a (.inl ha))⟩,hN.2.1,fun a ha b hb e=>?_⟩;rcases List.mem_append.1 ha with ha|ha
   ·exact hN.2.2 a (by simp[ha]) b hb e
   exact hvr a ha (e▸hmA b (.inr hb))
  by_cases e2:i∈M
  ·simp[e,e2]
  simp only[e,e2,if_false];exact h.nodup i
 ·by_cases e:i=r
  ·rw[if_pos e]at hb;have hj:j≠r:=fun e'=>fX (e.trans e'.symm);rw[if_neg hj];by_cases e2:j∈M
   ·simp[e2]
   simp only[e2,if_false];intro Eg;rcases fC b hb with dr|dr
   ·exact h.cx j r hj b Eg dr
   exact hvo j e2 b dr Eg
  rw[if_neg e]at hb;by_cases e2:i∈M
  ·simp[e2]at hb
  simp only[e2,if_false]at hb;by_cases e3:j=r
  ·rw[if_pos e3];intro Eg;rcases fC b Eg with dr|dr
   ·exact h.cx i r e b hb dr
   exact hvo i e2 b dr hb
  rw[if_neg e3];by_cases e4:j∈M
  ·simp[e4]
  simp only[e4,if_false];exact h.cx i j fX b hb
 rw[gb];by_cases e:i=r
 ·rw[if_pos e]at hb;rcases fC b hb with dr|dr
  ·exact h.own r b dr
  obtain⟨m,hm,oY⟩:=B2 b dr;exact h.own m b oY
 rw[if_neg e]at hb;by_cases e2:i∈M
 ·simp[e2]at hb
 simp only[e2,if_false]at hb;exact h.own i b hb
end
mutual
def AV.az:AV->Bool
 |.list .own _ _=>false
 |.list .nil _ _=>true
 |.list .shr _ _=>true
 |.box own _=> !own
 |.agg xs=>bG xs
 |.bC xs=>bG xs
 |.fn _ a c=>bG a&&bG c
 |.v _=>true
 |.bg .. =>false
 |.ptr .. =>false
 |.hole=>true
 |.dead=>true
 |.pv _=>true
 |.abs _=>false
 |.dY .. =>false
 |.mp _=>false
def bG:List AV->Bool
 |[]=>true
 |x::xs=>x.az&&bG xs
end
mutual
def AV.refs:AV->Bool
 |.list .nil _ _=>false
 |.list .own _ _=>true
 |.list .shr _ _=>true
 |.box _ _=>true
 |.agg xs=>NL xs
 |.bC xs=>NL xs
 |.fn .. =>true
 |.v _=>false
 |.bg .. =>true
 |.ptr .. =>true
 |.hole=>true
 |.dead=>true
 |.pv _=>true
 |.abs _=>true
 |.dY .. =>true
 |.mp _=>true
def NL:List AV->Bool
 |[]=>false
 |x::xs=>x.refs||NL xs
end
mutual
def AV.bh:AV->Bool
 |.list .nil _ _=>true
 |.list .own _ xs=>gU xs
 |.list .shr _ _=>false
 |.box own x=>own&&x.bh
 |.agg xs=>gU xs
 |.bC xs=>gU xs
 |.fn _ a c=>gU a&&gU c
 |.v _=>true
 |.bg .. =>true
 |.ptr .. =>true
 |.hole=>true
 |.dead=>true
 |.pv _=>true
 |.abs _=>true
 |.dY .. =>true
 |.mp _=>true
def gU:List AV->Bool
 |[]=>true
 |x::xs=>x.bh&&gU xs
end
section
variable{w:World}{S S':Nat->Prop}
mutual
theorem Rel.bh:∀(av:AV){y:Value}{F:List Nat},Rel w S av y F->av.bh=true->Rel w S' av y F
 |.v x,y,F,h,_=>by simpa[Rel]using h
 |.list .nil sz xs,y,F,h,_=>by simpa[Rel]using h
 |.list .shr sz xs,y,F,h,k=>by simp[AV.bh]at k
 |.list .own sz xs,y,F,h,k=>by
  simp only[Rel]at h⊢;rcases h with h|⟨b,cap,cs,F',h1,h2,h3,h4,h5,h6,h7⟩
  ·exact .inl h
  exact .inr ⟨b,cap,cs,F',h1,h2,h3,h4,h5,bU.bh sz xs h6 (by simpa[AV.bh]using k),h7⟩
 |.box true x,y,F,h,k=>by simp only[Rel,if_true]at h⊢;obtain⟨b,cs,fz,F',z,h1,h2,h3,h4,h5⟩:=h;exact⟨b,cs,fz,F',z,h1,h2,Rel.bh x h3 (by simpa[AV.bh]using k),h4,h5⟩
 |.box false x,y,F,h,k=>by simp[AV.bh]at k
 |.agg xs,y,F,h,k=>by simp only[Rel]at h⊢;obtain⟨cs,h1,h2⟩:=h;exact⟨cs,h1,Cells.bh xs h2 (by simpa[AV.bh]using k)⟩
 |.bC xs,y,F,h,k=>by simp only[Rel]at h⊢;obtain⟨cs,h1,h2⟩:=h;exact⟨cs,h1,Cells.bh xs h2 (by simpa[AV.bh]using k)⟩
 |.fn f a c,y,F,h,k=>by simp only[Rel]at h⊢;simp only[AV.bh,Bool.and_eq_true]at k;obtain⟨a',c',F1,F2,h1,h2,h3,h4⟩:=h;exact⟨a',c',F1,F2,h1,Cells.bh a h2 k.1,Cells.bh c h3 k.2,h4⟩
 |.bg ..,y,F,h,_=>by simp[Rel]at h
 |.ptr ..,y,F,h,_=>by simp[Rel]at h
 |.hole,y,F,h,_=>by simpa[Rel]using h
 |.dead,y,F,h,_=>by simpa[Rel]using h
 |.pv _,y,F,h,_=>by simpa[Rel]using h
 |.abs _,y,F,h,_=>by simp[Rel]at h
 |.dY ..,y,F,h,_=>by simp[Rel]at h
 |.mp _,y,F,h,_=>by simpa[Rel]using h
theorem Cells.bh:∀(xs:List AV){one:Bool}{l:List Value}{F:List Nat},Cells w S one xs l F->gU xs=true->Cells w S' one xs l F
 |[],one,l,F,h,_=>by simpa[Cells]using h
 |x::xs,one,l,F,h,k=>by simp only[Cells]at h⊢;simp only[gU,Bool.and_eq_true]at k;obtain⟨y,l',F1,F2,h1,h2,h3,h4,h5⟩:=h;exact⟨y,l',F1,F2,h1,h2,h3,Rel.bh x h4 k.1,Cells.bh xs h5 k.2⟩
theorem bU.bh(sz:Nat):∀(xs:List AV){l:List Value}{F:List Nat},bU w S sz xs l F->gU xs=true->bU w S' sz xs l F
 |[],l,F,h,_=>by simpa[bU]using h
 |x::xs,l,F,h,k=>by simp only[bU]at h⊢;simp only[gU,Bool.and_eq_true]at k;obtain⟨y,l',F1,F2,h1,h2,h3,h4,h5⟩:=h;exact⟨y,l',F1,F2,h1,h2,h3,Rel.bh x h4 k.1,bU.bh sz xs h5 k.2⟩
end
mutual
theorem Rel.az:∀(av:AV){y:Value}{F:List Nat},Rel w S av y F->av.az=true->F=[]
 |.v x,y,F,h,_=>by simp only[Rel]at h;exact h.2.2
 |.list .nil sz xs,y,F,h,_=>by simp only[Rel]at h;exact h.2.2
 |.list .shr sz xs,y,F,h,_=>by simp only[Rel]at h;rcases h with⟨-,-,h6⟩|⟨b,off,cap,cs,fz,h1,h2,h3,h4,h5,h6⟩<;>exact h6
 |.list .own sz xs,y,F,h,k=>by simp[AV.az]at k
 |.box own x,y,F,h,k=>by simp only[AV.az,Bool.not_eq_true']at k;subst k;simp only[Rel]at h;obtain⟨b,cs,fz,F',z,h1,h2,h3,h4,h5⟩:=h;simp only[Bool.false_eq_true,if_false]at h5;exact h5.2.2
 |.agg xs,y,F,h,k=>by simp only[Rel]at h;obtain⟨cs,h1,h2⟩:=h;exact Cells.az xs h2 (by simpa[AV.az]using k)
 |.bC xs,y,F,h,k=>by simp only[Rel]at h;obtain⟨cs,h1,h2⟩:=h;exact Cells.az xs h2 (by simpa[AV.az]using k)
 |.fn f a c,y,F,h,k=>by simp only[AV.az,Bool.and_eq_true]at k;simp only[Rel]at h;obtain⟨a',c',F1,F2,h1,h2,h3,rfl⟩:=h;rw[Cells.az a h2 k.1,Cells.az c h3 k.2];rfl
 |.bg ..,_,_,h,_=>by simp[Rel]at h
 |.ptr ..,_,_,h,_=>by simp[Rel]at h
 |.hole,_,_,h,_=>by simp only[Rel]at h;exact h.2
 |.dead,_,_,h,_=>by simpa[Rel]using h
 |.pv _,_,_,h,_=>by simp only[Rel]at h;exact h.2
 |.abs _,_,_,h,_=>by simp[Rel]at h
 |.dY ..,_,_,h,_=>by simp[Rel]at h
 |.mp _,_,_,_,k=>by simp[AV.az]at k
theorem Cells.az:∀(xs:List AV){one:Bool}{l:List Value}{F:List Nat},Cells w S one xs l F->bG xs=true->F=[]
 |[],one,l,F,h,_=>by simp only[Cells]at h;exact h.2
 |x::xs,one,l,F,h,k=>by simp only[bG,Bool.and_eq_true]at k;simp only[Cells]at h;obtain⟨y,l',F1,F2,h1,rfl,h2,h3,h4⟩:=h;rw[Rel.az x h3 k.1,Cells.az xs h4 k.2];rfl
end
end
inductive Mv
 |share (r:Nat) (p:Path)
 |take (r n:Nat) (p:Path)
 |make (M:List Nat) (n:Nat) (y:AV)
 |put (n:Nat) (y:AV)
 |store (r:Nat) (p:Path) (M:List Nat) (y:AV)
 |back (R:List (Nat×AV))
def iS(σ:St):List (Nat×AV)->St
 |[]=>σ
 |(r,y)::R=>fB (iS σ R) r ⟨y,(σ r).g1,(σ r).g2+1⟩
def Mv.run(σ:St):Mv->Option St
 |.share r p=>match a6 (σ r).av p with
  |some y=>match c8 (σ r).av p y.bf with
   |some av=>some (fB σ r ⟨av,(σ r).g1,(σ r).g2+1⟩)
   |none=>none
  |none=>none
 |.take r n p=>if n=r then none else match a6 (σ r).av p with
  |some y=>match c8 (σ r).av p (fR y)with
   |some av=>some (fB (fB σ r (gR (σ r) p av)) n ⟨y,(σ n).g1+1,(σ n).g2⟩)
   |none=>none
  |none=>none
 |.make M n y=>some (made σ M n y)
 |.put n y=>some (fB σ n ⟨y,(σ n).g1+1,(σ n).g2⟩)
 |.store r p M y=>if r∈M then none else match c8 (σ r).av p y with
  |some av=>some (stored σ r M av)
  |none=>none
 |.back R=>some (iS σ R)
def Mv.runs(σ:St):List Mv->Option St
 |[]=>some σ
 |m::ms=>match m.run σ with
  |some σ=>Mv.runs σ ms
  |none=>none
end Go.Ai
