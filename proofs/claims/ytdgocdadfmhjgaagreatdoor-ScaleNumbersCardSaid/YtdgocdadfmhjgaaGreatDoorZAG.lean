/- Parts of the proof of ScaleNumbers (CheckBench, Exponent and Largest answer as the reference does), at every input, with no further conditions. -/
import Derived.Test.YtdgocdadfmhjgaaGreatDoorZAF
set_option linter.unusedVariables false
set_option linter.unusedSimpArgs false
namespace Go.Ai
open Go.RowKit
theorem qf.refl(x:AV):qf x x:=fun _ _ _ _ h=>h
mutual
def au:SV->SV->Prop
 |.nil,y=>match y with
  |.nil=>True
  |.ints _ _ xs=>xs=[]
  |.dH _ xs=>xs=[]
  |.strs _ xs=>xs=[]
  |.bB _ xs=>xs=[]
  |.cJ _ _ _ _ xs=>xs=[]
  |_=>False
 |.agg xs,y=>match y with
  |.agg ys=>Bk xs ys
  |_=>False
 |.bC xs,y=>match y with
  |.bC ys=>Bk xs ys
  |_=>False
 |.n k a,y=>SV.n k a=y
 |.b a,y=>match y with
  |.b c=>a=c
  |.u c=>a=c
  |_=>False
 |.u a,y=>match y with
  |.b c=>a=c
  |.u c=>a=c
  |_=>False
 |.s a,y=>SV.s a=y
 |.c a,y=>SV.c a=y
 |.ints k o xs,y=>SV.ints k o xs=y
 |.dH k xs,y=>match y with
  |.ints k' false ys=>k=k'/\xs=ys
  |y=>SV.dH k xs=y
 |.strs o xs,y=>SV.strs o xs=y
 |.bB o xs,y=>SV.bB o xs=y
 |.cJ o sz d e xs,y=>SV.cJ o sz d e xs=y
 |.row o sz xs,y=>match y with
  |.row o' fe ys=>o=o'/\sz=fe/\xs=ys
  |.cJ o' fe _ e ys=>o=o'/\sz=fe/\xs=ys.map e
  |_=>False
 |.box o x,y=>SV.box o x=y
 |.fn f a c,y=>SV.fn f a c=y
 |.bg r a b p,y=>SV.bg r a b p=y
 |.ptr r a b p,y=>SV.ptr r a b p=y
 |.hole,y=>SV.hole=y
 |.dead,y=>SV.dead=y
 |.pv C,y=>SV.pv C=y
 |.abs J,y=>SV.abs J=y
 |.dY g aW,y=>SV.dY g aW=y
 |.mp K,y=>SV.mp K=y
def Bk:List SV->List SV->Prop
 |[],ys=>match ys with
  |[]=>True
  |_::_=>False
 |x::xs,ys=>match ys with
  |y::ys=>au x y/\Bk xs ys
  |[]=>False
end
theorem JI{sz fe:Nat}{o:Bool}:qf (.list .nil sz []) (.list (fl o) fe []):=by
 intro w S v F h;simp only[Rel]at h;cases o
 ·simp only[fl,Rel];left;exact⟨trivial,h.2.1,h.2.2⟩
 simp only[fl,Rel];left;exact⟨trivial,h.2.1,h.2.2⟩
mutual
theorem au.den:∀{x y:SV},au x y->qf x.den y.den
 |.nil,y,h=>by
  cases y<;>simp only[au]at h
  case nil=>exact qf.refl _
  case dH=>subst h;exact fun w S v F h=>by simpa[SV.den,ZE,XO,Rel]using h
  all_goals(subst h;exact JI)
 |.agg xs,y,h=>by cases y<;>simp only[au]at h;intro w S v F hr;simp only[SV.den,Rel]at hr⊢;obtain⟨cs,h1,h2⟩:=hr;exact⟨cs,h1,Bk.cells h h2⟩
 |.bC xs,y,h=>by cases y<;>simp only[au]at h;intro w S v F hr;simp only[SV.den,Rel]at hr⊢;obtain⟨cs,h1,h2⟩:=hr;exact⟨cs,h1,Bk.cells h h2⟩
 |.n k a,y,h=>by simp only[au]at h;subst h;exact qf.refl _
 |.b a,y,h=>by cases y<;>simp only[au]at h<;>(subst h;exact qf.refl _)
 |.u a,y,h=>by cases y<;>simp only[au]at h<;>(subst h;exact qf.refl _)
 |.s a,y,h=>by simp only[au]at h;subst h;exact qf.refl _
 |.c a,y,h=>by simp only[au]at h;subst h;exact qf.refl _
 |.ints k o xs,y,h=>by simp only[au]at h;subst h;exact qf.refl _
 |.dH k xs,y,h=>by
  unfold au at h;split at h
  ·obtain⟨rfl,rfl⟩:=h;cases xs with
   |nil=>exact JI (o:=false)
   |cons x xs=>exact qf.refl _
  subst h;exact qf.refl _
 |.strs o xs,y,h=>by simp only[au]at h;subst h;exact qf.refl _
 |.bB o xs,y,h=>by simp only[au]at h;subst h;exact qf.refl _
 |.cJ o sz d e xs,y,h=>by simp only[au]at h;subst h;exact qf.refl _
 |.row o sz xs,y,h=>by
  cases y<;>simp only[au]at h
  ·obtain⟨rfl,rfl,rfl⟩:=h;rename_i e ys;have:(SV.row o sz (ys.map e)).den=(SV.cJ o sz ‹_› e ys).den:=by simp[SV.den,bx]
   rw[this];exact qf.refl _
  obtain⟨rfl,rfl,rfl⟩:=h;exact qf.refl _
 |.box o x,y,h=>by simp only[au]at h;subst h;exact qf.refl _
 |.fn f a c,y,h=>by simp only[au]at h;subst h;exact qf.refl _
 |.bg r a b p,y,h=>by simp only[au]at h;subst h;exact qf.refl _
 |.ptr r a b p,y,h=>by simp only[au]at h;subst h;exact qf.refl _
 |.hole,y,h=>by simp only[au]at h;subst h;exact qf.refl _
 |.dead,y,h=>by simp only[au]at h;subst h;exact qf.refl _
 |.pv _,y,h=>by simp only[au]at h;subst h;exact qf.refl _
 |.abs _,y,h=>by simp only[au]at h;subst h;exact qf.refl _
 |.dY _ _,y,h=>by simp only[au]at h;subst h;exact qf.refl _
 |.mp _,y,h=>by simp only[au]at h;subst h;exact qf.refl _
theorem Bk.cells:∀{xs ys:List SV},Bk xs ys->∀{w:World}{S:Nat->Prop}{one:Bool}{l:List Value}{F:List Nat},Cells w S one (an xs) l F->Cells w S one (an ys) l F
 |[],ys,h,w,S,one,l,F,hc=>by cases ys<;>simp only[Bk]at h;exact hc
 |x::xs,ys,h,w,S,one,l,F,hc=>by
  cases ys with
  |nil=>simp only[Bk]at h
  |cons y ys=>simp only[Bk]at h;simp only[an,Cells]at hc⊢;obtain⟨v,l',F1,F2,h1,h2,h3,h4,h5⟩:=hc;exact⟨v,l',F1,F2,h1,h2,h3,au.den h.1 _ _ _ _ h4,Bk.cells h.2 h5⟩
end
mutual
theorem au.refl:∀x:SV,au x x
 |.nil=>trivial
 |.agg xs=>by simp only[au];exact Bk.refl xs
 |.bC xs=>by simp only[au];exact Bk.refl xs
 |.n .. |.b _|.u _|.s _|.c _|.ints .. |.dH .. |.strs .. |.bB .. |.cJ .. |.box .. |.fn .. |.bg .. |.ptr .. |.hole|.dead|.pv _|.abs _|.dY .. |.mp _=>rfl
 |.row .. =>⟨rfl,rfl,rfl⟩
theorem Bk.refl:∀xs:List SV,Bk xs xs
 |[]=>trivial
 |x::xs=>by simp only[Bk];exact⟨au.refl x,Bk.refl xs⟩
end
theorem au.of_eq{x y:SV}(h:x=y):au x y:=h▸au.refl x
def aO(P:Program)(f:FuncId)(args:List SV)(r:SV):Prop:=Sound P f (an args) r.den
theorem aO.same{P:Program}{f:FuncId}{aas bs:List SV}{r q:SV}(h:aO P f aas r)(e:an aas=an bs)(e':r.den=q.den):aO P f bs q:=by unfold aO at *;rw[<-e,<-e'];exact h
theorem aO.XI{P:Program}{f:FuncId}{aas bs:List SV}{r:SV}(h:aO P f bs r)(hl:Bk aas bs):aO P f aas r:=fun w S vs hG hS hc=>h w S vs hG hS (Bk.cells hl hc)
def zJ:Nat->List SV->aP
 |_,[]=>[]
 |k,x::xs=>(k,⟨x,0,0⟩)::zJ (k+1) xs
theorem zI:∀(k:Nat)(xs:List SV),dn (zJ k xs)=mk (entry k (an xs))
 |_,[]=>rfl
 |k,x::xs=>by
  funext i
  simp only[zJ,dC,an,entry,mk,fB,zI (k+1) xs];rfl
def gQ(tt:TT)(l:aP):List ResultVar->Option (List SV)
 |[]=>some []
 |.tmp t::rs=>match(gt l t).v.plain with
  |true=>match gQ tt l rs with
   |some xs=>some ((gt l t).v::xs)
   |none=>none
  |false=>none
 |.cell t ty::rs=>match(gt l t).v with
  |.box true x=>match CB tt ty with
   |some ti=>match kb ti x with
    |true=>match gQ tt l rs with
     |some xs=>some (x::xs)
     |none=>none
    |false=>none
   |none=>none
  |_=>none
theorem kR{P:Program}{tt:TT}(hA:bK P tt){l:aP}:∀{rs:List ResultVar}{xs:List SV},gQ tt l rs=some xs->gC P (dn l) rs=some (an xs)
 |[],xs,h=>by simp only[gQ,Option.some.injEq]at h;subst h;rfl
 |.cell t ty::rs,xs,h=>by
  simp only[gQ]at h;split at h<;>try(simp at h;done)
  rename_i x hv;split at h<;>try(simp at h;done)
  rename_i ti ga;split at h<;>try(simp at h;done)
  rename_i lV;split at h<;>try(simp at h;done)
  rename_i ys mC;simp only[Option.some.injEq]at h;subst h;have bQ:(dn l t).av=.box true x.den:=by rw[cQ,hv];rfl
  simp only[gC,bQ,jn hA ga,gF _ _ lV,if_true,kR hA mC,an]
 |.tmp t::rs,xs,h=>by
  simp only[gQ]at h;split at h<;>try(simp at h;done)
  rename_i hp;split at h<;>try(simp at h;done)
  rename_i ys mC;simp only[Option.some.injEq]at h;subst h;have:(dn l t).av.plain=true:=by rw[cQ,cH];exact hp
  simp only[gC,this,if_true,kR hA mC,an];rfl
def x6(xs:List SV):SV:=match xs with|[x]=>x|xs=>.bC xs
theorem sM(xs:List SV):lE (an xs)=(x6 xs).den:=by
 match xs with
 |[]=>rfl
 |[x]=>rfl
 |x::y::xs=>rfl
def Ti(P:Program)(rs:List ResultVar)(r:SV)(σ:St):Prop:=∃xs,gC P σ rs=some xs/\ry (lE xs) r.den
section
variable{R:Option Nat->Prop}{P:Program}{N:Nat}{F:St->Prop}{k:List It}{l:aP}{tt:TT}
theorem enter{f:FuncId}{fn:Func}{c:Code}{args:List SV}{r:SV}(hf:P.funcs[f]?=some fn)(hb:fn.body=some c)(hn:(fn.name== "runtime.NumGoroutine")=false)(hlen:Nat.ble (len args) fn.ntmps=true)
 (hd:dG fn.results.toList []=true)(h:AK R0 P fn.ntmps (Ti P fn.results.toList r) [.code c] (zJ 0 args)):aO P f args r:=by
 refine EF hf hb hn (by rw[bt,<-dA];exact Nat.le_of_ble_eq_true hlen) hd ?_;rw[<-zI];exact gP (h:AW R0 P fn.ntmps c (eh R0 P fn.ntmps (Ti P fn.results.toList r) []) (dn (zJ 0 args))) fun e σ' h=>by cases e<;>exact h
theorem ret(hA:bK P tt){rs:List ResultVar}{r:SV}{xs:List SV}(h:gQ tt l rs=some xs)(hr:au (x6 xs) r):AK R P N (Ti P rs r) [] l:=by refine⟨_,kR hA h,?_⟩;rw[sM];exact ry.of_le hr.den
theorem XV(hA:bK P tt){rs:List ResultVar}{r:SV}{xs:List SV}(h:gQ tt l rs=some xs)(hr:au (x6 xs).bf r):AK R P N (Ti P rs r) [] l:=by refine⟨_,kR hA h,?_⟩;rw[sM];intro w S v F hv;refine⟨[],F,by simp,fun S' hS hF=>hr.den _ _ _ _ ?_⟩;rw[<-ew];exact Rel.share hS _ hv hF
theorem go(hA:bK P tt)(hm:P.follows .mixedOrders=true)(raw:List Nat){ob:List Pd}{qs:List Bool}{k':List It}{l':aP}(h:run tt raw N 100000 k l [] []=(ob,qs,k',l'))(hq:kv qs=true)(ho:ae ob)(hk:AK R P N F k' l'):AK R P N F k l:=(kQ hA hm h ho hq).2.2 hk
theorem branch{c:Operand}{t e:Code}{x:SR}{b:Bool}{ob:List Pd}(hf:aE c=true)(h:da l c=some x)(hx:cz x=some (ob,.u b))(ho:ae ob)(h1:b=true->AK R P N F (.code t::k) l)(h2:b=false->AK R P N F (.code e::k) l):
 AK R P N F (.code (.cond c t e)::k) l:=by
 refine D3 (t:=b) hf (by rw[cD h];exact aw hx ho) ?_;cases b
 ·exact h2 rfl
 exact h1 rfl
theorem S5{c:Operand}{t e:Code}{x:SR}{p:Prop}[Decidable p]{ob:List Pd}(hf:aE c=true)(h:da l c=some x)(hx:cz x=some (ob,.u (decide p)))(ho:ae ob)(h1:p->AK R P N F (.code t::k) l)(h2:¬p->AK R P N F (.code e::k) l):
 AK R P N F (.code (.cond c t e)::k) l:=
 branch hf h hx ho (fun h=>h1 (of_decide_eq_true h)) (fun h=>h2 (of_decide_eq_false h))
theorem known{d:Nat}{b c:Bool}(h:(gt l d).v=.u b)(hb:b=c):dn ((d,⟨.b c,(gt l d).g1,(gt l d).g2⟩)::l)=dn l:=by
 subst hb;rw[dC]
 funext i
 unfold fB;split
 ·rename_i e;subst e;simp only[Cl.den,dn,h];rfl
 rfl
theorem gS(d:Nat){b:Bool}(h:(gt l d).v=.u b)(h1:b=true->AK R P N F k ((d,⟨.b true,(gt l d).g1,(gt l d).g2⟩)::l))(h2:b=false->AK R P N F k ((d,⟨.b false,(gt l d).g1,(gt l d).g2⟩)::l)):AK R P N F k l:=by
 cases b
 ·have:=h2 rfl;unfold AK at this;rw[known h rfl]at this;exact this
 have:=h1 rfl;unfold AK at this;rw[known h rfl]at this;exact this
theorem aB(d:Nat){p:Prop}[Decidable p](h:(gt l d).v=.u (decide p))(h1:p->AK R P N F k ((d,⟨.b true,(gt l d).g1,(gt l d).g2⟩)::l))(h2:¬p->AK R P N F k ((d,⟨.b false,(gt l d).g1,(gt l d).g2⟩)::l)):AK R P N F k l:=gS d h (fun h=>h1 (of_decide_eq_true h)) (fun h=>h2 (of_decide_eq_false h))
mutual
def SV.im:SV->List Pd×Bool
 |.cJ true _ _ e _=>([.of (∀x,(e x).bh=true)],true)
 |.cJ false _ _ _ _=>([],false)
 |.ints _ o _=>([],o)
 |.dH _ xs=>([xs≠[]],false)
 |.strs o _=>([],o)
 |.bB o _=>([],o)
 |.row false _ _=>([],false)
 |.row true _ xs=>iZ xs
 |.box false _=>([],false)
 |.box true x=>x.im
 |.agg xs=>iZ xs
 |.bC xs=>iZ xs
 |.fn _ a c=>match iZ a,iZ c with
  |(ob,b),(c9,b')=>(wi ob c9,b8 b b')
 |_=>([],true)
def iZ:List SV->List Pd×Bool
 |[]=>([],true)
 |x::xs=>match x.im,iZ xs with
  |(ob,b),(c9,b')=>(wi ob c9,b8 b b')
end
theorem G9(a b:Bool):b8 a b=(a&&b):=by cases a<;>rfl
mutual
theorem pn:∀{x:SV},ae x.im.1->x.den.bh=x.im.2
 |.n ..,_|.b _,_|.u _,_|.s _,_|.c _,_|.nil,_|.hole,_|.dead,_|.bg ..,_|.ptr ..,_|.pv _,_|.abs _,_|.dY ..,_|.mp _,_=>rfl
 |.ints k true xs,_=>kS (.ints k true xs) rfl
 |.ints k false xs,_=>rfl
 |.dH k xs,h=>by
  have h:xs≠[]:=h.1;cases xs with
  |nil=>exact absurd rfl h
  |cons=>rfl
 |.strs true xs,_=>kS (.strs true xs) rfl
 |.strs false xs,_=>rfl
 |.bB true xs,_=>kS (.bB true xs) rfl
 |.bB false xs,_=>rfl
 |.cJ true sz d e xs,h=>by simp only[SV.im]at h⊢;simp only[SV.den,fl,AV.bh];refine qw fun y hy=>?_;obtain⟨z,-,rfl⟩:=List.mem_map.1 hy;exact kS _ (h.1 z)
 |.cJ false ..,_=>rfl
 |.row true sz xs,h=>by simp only[SV.im]at h⊢;simp only[SV.den,fl,AV.bh];exact gK h
 |.row false ..,_=>rfl
 |.box true x,h=>by simp only[SV.im]at h⊢;simp only[SV.den,AV.bh,Bool.true_and];exact pn h
 |.box false _,_=>rfl
 |.agg xs,h=>by simp only[SV.im]at h⊢;simp only[SV.den,AV.bh];exact gK h
 |.bC xs,h=>by simp only[SV.im]at h⊢;simp only[SV.den,AV.bh];exact gK h
 |.fn f a c,h=>by simp only[SV.im]at h⊢;obtain⟨h1,h2⟩:=nG.1 h;simp only[SV.den,AV.bh,gK h1,gK h2,G9]
theorem gK:∀{xs:List SV},ae (iZ xs).1->gU (an xs)=(iZ xs).2
 |[],_=>rfl
 |x::xs,h=>by simp only[iZ]at h⊢;obtain⟨h1,h2⟩:=nG.1 h;simp only[an,gU,pn h1,gK h2,G9]
end
structure ub where
 g:FuncId
 aas:List SV
 sh:List (Nat×Path)
def ri(l:aP)(f:Operand)(aas:List Operand):Option (List Pd×ub):=
 (da l f).bind fun f=>(cz f).bind fun(ob,v)=>match v with
   |.fn (.func g) first captured=>(fg (b8 (eV first) (eV captured))).bind fun _=>(ir l aas).bind fun xs=>(rQ xs).bind fun(mw,ys)=>(qi xs).bind fun(nk,sh)=>some (wi ob (wi mw nk),⟨g,cat first (cat ys captured),sh⟩)
   |_=>none
theorem Md{f:Operand}{aas:List Operand}{ob:List Pd}{h:ub}(hh:ri l f aas=some (ob,h))(hc:ae ob):
 B3 (dn l) (resolve (dn l) f) (aas.map (resolve (dn l)))=some (h.g,an h.aas,h.sh.map fun m=>.share m.1 m.2):=by
 simp only[ri,Option.bind_eq_some_iff,Prod.exists]at hh;obtain⟨x,h1,ob0,v,h2,h3⟩:=hh;cases v<;>try(simp at h3;done)
 rename_i fn first captured
 cases fn<;>try(simp at h3;done)
 rename_i g;simp only[Option.bind_eq_some_iff,bd,aH,Prod.exists,Option.some.injEq,Prod.mk.injEq]at h3;obtain⟨_,⟨h4,h5⟩,xs,h6,mw,ys,h7,nk,sh,h8,rfl,rfl⟩:=h3;obtain⟨c0,c⟩:=nG.1 hc;obtain⟨c1,c2⟩:=nG.1 c;have hf:x.den.cont=some (.fn (.func g) (an first) (an captured)):=aw h2 c0;unfold B3;rw[cD h1,hf];simp only[cZ,h4,h5,Bool.and_self,if_true,dF l h6,oe h7 c1,mo h8 c2,ee];simp[bx]
def jV(l:aP)(dst:Option Nat)(r:SV)(sh:List (Nat×Path)):mb:=
 match sh with
 |[]=>A9 [] l [] dst r
 |(m,p)::sh=>match r.im with
  |(ob,b)=>match b with
  |true=>A9 ob l [] dst r
  |false=>match sh with
   |[]=>(po l m p).bind fun(c9,l')=>A9 (wi ob c9) l' [m] dst r
   |_=>none
 where A9 (ob:List Pd) (l:aP) (ks:List Nat):Option Nat->SV->mb
  |none,_=>some (ob,l,ks)
  |some d,r=>pF l [] d r fun l'=>some (ob,l',cat ks [d])
theorem Ev{dst:Option Nat}{r:SV}{sh:List (Nat×Path)}{ob:List Pd}{l':aP}{ks:List Nat}(h:jV l dst r sh=some (ob,l',ks))(hc:ae ob):
 ∃ms,vW dst r.den (sh.map fun m=>.share m.1 m.2)=some ms/\Mv.runs (dn l) ms=some (dn l')/\aN ms=ks:=by
 have plain:∀{mw:List Pd},jV.A9 mw l [] dst r=some (ob,l',ks)->∃ms,some (cw dst r.den [])=some ms/\Mv.runs (dn l) ms=some (dn l')/\aN ms=ks:=by
  intro mw h;cases dst with
  |none=>simp only[jV.A9,eE,Option.some.injEq,Prod.mk.injEq]at h;obtain⟨-,rfl,rfl⟩:=h;exact⟨_,rfl,rfl,rfl⟩
  |some d=>simp only[jV.A9,eE,Option.some.injEq,Prod.mk.injEq]at h;obtain⟨-,rfl,rfl⟩:=h;exact⟨_,rfl,by simp only[cw,List.nil_append,Mv.runs,Mv.run,gm],by simp[cw,aN,Mv.keys,cat]⟩
 unfold jV at h;cases sh with
 |nil=>simp only at h;have:=plain h;unfold vW;cases r.den.bh<;>simpa using this
 |cons m sh=>
  obtain⟨m,p⟩:=m;simp only at h;obtain⟨mw,b,h1⟩:∃mw b,r.im=(mw,b):=⟨_,_,rfl⟩;have xc:ae mw->r.den.bh=b:=fun hc=>by have:=pn (x:=r) (by rw[h1];exact hc);rw[this,h1]
  rw[h1]at h;have h2:=h;cases b with
  |true=>
   simp only at h2;have e:mw=ob:=by cases dst<;>simp only[jV.A9,eE,Option.some.injEq,Prod.mk.injEq]at h2<;>exact h2.1
   subst e;have:=plain h2;unfold vW;rw[xc hc];simpa using this
  |false=>
   cases sh with
   |cons _ _=>simp at h2
   |nil=>
    simp only[Option.bind_eq_some_iff,Prod.exists]at h2;obtain⟨nk,l2,h3,h4⟩:=h2;have e:wi mw nk=ob:=by cases dst<;>simp only[jV.A9,eE,Option.some.injEq,Prod.mk.injEq]at h4<;>exact h4.1
    subst e;obtain⟨c1,c2⟩:=nG.1 hc;unfold vW;rw[xc c1];simp only[Bool.not_false,if_true,List.map_cons,List.map_nil];refine⟨_,rfl,?_⟩;cases dst with
    |none=>simp only[jV.A9,eE,Option.some.injEq,Prod.mk.injEq]at h4;obtain⟨-,rfl,rfl⟩:=h4;simp only[cw,Mv.runs];rw[jq h3 c2];exact⟨rfl,rfl⟩
    |some d=>simp only[jV.A9,eE,Option.some.injEq,Prod.mk.injEq]at h4;obtain⟨-,rfl,rfl⟩:=h4;simp only[cw,List.cons_append,List.nil_append,Mv.runs];rw[jq h3 c2];exact⟨by simp only[Mv.run,gm],by simp[aN,Mv.keys,cat]⟩
theorem DY{all:Array Oper}{dst:Option Nat}{f:Operand}{aas ts:Array _}{ty:TypeId}{pos:String}{cF:Array Edge}{g:Option (Nat×Bool)}{K:List Mv->St->Prop}{ob c9:List Pd}{h:ub}{r:SV}{l':aP}{ks:List Nat}
 (hg:cK l all.toList g=some true)(hh:ri l f aas.toList=some (ob,h))(ho:ae ob)(hs:aO P h.g h.aas r)(ht:jV l dst r h.sh=some (c9,l',ks))(JX:ae c9)(hk:∀ms,aN ms=ks->K ms (dn l')):
 oU P all ⟨dst,.call ⟨.value f,aas,ts⟩,ty,pos,cF,g⟩ (dn l) K:=by
 have key:oU P all ⟨dst,.call ⟨.value f,aas,ts⟩,ty,pos,cF,none⟩ (dn l) K:=by rw[U6,Md hh ho,nK];refine⟨r.den,hs,?_⟩;obtain⟨ms,h1,h2,h3⟩:=Ev ht JX;simp only[h1,qL,nK];exact⟨dn l',h2,hk ms h3⟩
 cases g with
 |none=>exact key
 |some q=>obtain⟨j,b⟩:=q;rw[C6,dc (o:=⟨dst,.call ⟨.value f,aas,ts⟩,ty,pos,cF,some (j,b)⟩) hg];simpa using key
theorem call{all:Array Oper}{rest:List Oper}{dst:Option Nat}{f:Operand}{aas ts:Array _}{ty:TypeId}{pos:String}{cF:Array Edge}{g:Option (Nat×Bool)}{ob c9:List Pd}{h:ub}{r:SV}{l':aP}{ks:List Nat}
 (hg:cK l all.toList g=some true)(hh:ri l f aas.toList=some (ob,h))(ho:ae ob)(hs:aO P h.g h.aas r)(ht:jV l dst r h.sh=some (c9,l',ks))(JX:ae c9)(hk:AK R P N F (.ops all rest::k) l'):
 AK R P N F (.ops all (⟨dst,.call ⟨.value f,aas,ts⟩,ty,pos,cF,g⟩::rest)::k) l:=by
 show rp P _ _ _ _;rw[jJ];exact lC (DY hg hh ho hs ht JX fun ms _=>hk)
theorem P3{all:Array Oper}{mm:List Nat}{acc:List (List Nat×List Nat)}{rest:List Oper}{dst:Option Nat}{f:Operand}{aas ts:Array _}{ty:TypeId}{pos:String}{cF:Array Edge}{g:Option (Nat×Bool)}{ob c9:List Pd}{h:ub}{r:SV}{l':aP}{ks:List Nat}
 (hg:cK l all.toList g=some true)(hh:ri l f aas.toList=some (ob,h))(ho:ae ob)(hs:aO P h.g h.aas r)(ht:jV l dst r h.sh=some (c9,l',ks))(JX:ae c9)
 (hk:AK R P N F (.o4 all mm rest ((gW (dn l) all ⟨dst,.call ⟨.value f,aas,ts⟩,ty,pos,cF,g⟩,ks)::acc)::k) l'):
 AK R P N F (.o4 all mm (⟨dst,.call ⟨.value f,aas,ts⟩,ty,pos,cF,g⟩::rest) acc::k) l:=by
 show rt P _ _ _ _ _;rw[nX];exact lC (DY hg hh ho hs ht JX fun ms kr=>by rw[kr];exact hk)
def sl:List (Nat×SV)->aP
 |[]=>[]
 |(i,x)::r=>(i,⟨x,0,0⟩)::sl r
def ShS(x y:SV):Prop:=y=x\/y=x.bf
def qT:List SV->List SV->Prop
 |[],ys=>ys=[]
 |x::xs,ys=>match ys with
  |[]=>False
  |y::ys=>ShS x y/\qT xs ys
theorem qT.refl:∀xs:List SV,qT xs xs
 |[]=>rfl
 |_::xs=>⟨.inl rfl,qT.refl xs⟩
def XG(x y:SV):Prop:=match x with
 |.row o sz xs=>match y with
  |.cJ o' fe _ e ys=>o=o'/\sz=fe/\qT xs (ys.map e)
  |y=>au (.row o sz xs) y
 |x=>au x y
theorem zK{w:World}{S:Nat->Prop}{sz:Nat}:∀{xs ys:List SV}{l:List Value}{F:List Nat},qT xs ys->bU w S sz (an xs) l F->
 ∃F1 F2,F.Perm (F1++F2)/\∀S':Nat->Prop,(∀b,S b->S' b)->(∀b∈F2,S' b)->bU w S' sz (an ys) l F1
 |[],ys,l,F,h,k=>by simp only[qT]at h;subst h;simp only[an,bU]at k⊢;exact⟨[],[],by rw[k.2];simp,fun _ _ _=>⟨k.1,rfl⟩⟩
 |x::xs,ys,l,F,h,k=>by
  cases ys with
  |nil=>exact h.elim
  |cons y ys=>
   simp only[an,bU]at k⊢;obtain⟨v,l',G1,G2,rfl,rfl,h3,h4,h5⟩:=k;obtain⟨F1,F2,hp,hr⟩:=zK h.2 h5;rcases h.1 with rfl|rfl
   ·refine⟨G1++F1,F2,by rw[List.append_assoc];exact List.Perm.append_left _ hp,fun S' hS hF=>?_⟩;exact⟨v,l',G1,F1,rfl,rfl,h3,Rel.mono hS _ h4,hr S' hS hF⟩
   refine⟨F1,G1++F2,?_,fun S' hS hF=>?_⟩
   ·refine(List.Perm.append_left _ hp).trans ?_;rw[<-List.append_assoc,<-List.append_assoc];exact List.Perm.append_right _ List.perm_append_comm
   refine⟨v,l',[],F1,rfl,rfl,h3,?_,hr S' hS fun b hb=>hF b (by simp[hb])⟩;rw[<-ew];exact Rel.share hS _ h4 fun b hb=>hF b (by simp[hb])
theorem XG.den{x y:SV}(h:XG x y):ry x.den y.den:=by
 cases x
 case row o sz xs=>
  cases y
  case cJ o' fe α d e ys=>
   obtain⟨rfl,rfl,h⟩:o=o'/\sz=fe/\qT xs (ys.map e):=h;have e2:(SV.cJ o sz d e ys).den=.list (fl o) sz (an (ys.map e)):=by simp[SV.den,bx]
   have hlen:(an xs).length=(an (ys.map e)).length:=by
    have:∀{us vs:List SV},qT us vs->us.length=vs.length:=by
     intro us
     induction us with
     |nil=>intro vs h;simp only[qT]at h;subst h;rfl
     |cons u us ih=>
      intro vs h;cases vs with
      |nil=>exact h.elim
      |cons v vs=>simp[ih h.2]
    simp only[bx,List.length_map]at*;simpa using this h
   rw[e2];intro w S v F hr;cases o
   ·simp only[SV.den,fl,Rel]at hr⊢;rcases hr with⟨h1,h2,h3⟩|⟨b,off,cap,cs,fz,h1,h2,h3,h4,h5,h6⟩
    ·refine⟨[],[],by rw[h3];simp,fun S' hS _=>.inl ⟨?_,h2,rfl⟩⟩;rw[h1]at hlen;exact List.length_eq_zero_iff.1 hlen.symm
    obtain⟨F1,F2,hp,hq⟩:=zK h h5;have hn:F1++F2=[]:=hp.symm.eq_nil;simp only[List.append_eq_nil_iff]at hn;obtain⟨rfl,rfl⟩:=hn;rw[hlen]at h1 h4;refine⟨[],[],by rw[h6];simp,fun S' hS _=>.inr ⟨b,off,cap,cs,fz,h1,hS b h2,h3,h4,?_,rfl⟩⟩;rw[<-hlen];exact hq S' hS (by simp)
   simp only[SV.den,fl,Rel]at hr⊢;rcases hr with⟨h1,h2,h3⟩|⟨b,cap,cs,F',h1,h2,h3,h4,h5,h6,rfl⟩
   ·refine⟨[],[],by rw[h3];simp,fun S' hS _=>.inl ⟨?_,h2,rfl⟩⟩;rw[h1]at hlen;exact List.length_eq_zero_iff.1 hlen.symm
   obtain⟨F1,F2,hp,hq⟩:=zK h h6;rw[hlen]at h1 h3;refine⟨b::F1,F2,List.Perm.cons b hp,fun S' hS hF=>.inr ⟨b,cap,cs,F1,h1,h2,h3,h4,h5,?_,rfl⟩⟩;rw[<-hlen];exact hq S' hS hF
  all_goals exact ry.of_le (au.den h)
 all_goals exact ry.of_le (au.den h)
theorem Eo{G1 G2 E1 E2 F1 F2:List Nat}(h:G1.Perm (E1++E2))(k:G2.Perm (F1++F2)):(G1++G2).Perm ((E1++F1)++(E2++F2)):=by refine(List.Perm.append h k).trans ?_;rw[List.append_assoc,List.append_assoc];refine List.Perm.append_left _ ?_;rw[<-List.append_assoc,<-List.append_assoc];exact List.Perm.append_right _ List.perm_append_comm
theorem Ep{o:Bool}{sz:Nat}{xs ys:List AV}(hlen:xs.length=ys.length)(Y6:∀{w:World}{S:Nat->Prop}{l:List Value}{F:List Nat},bU w S sz xs l F->
 ∃F1 F2,F.Perm (F1++F2)/\∀S':Nat->Prop,(∀b,S b->S' b)->(∀b∈F2,S' b)->bU w S' sz ys l F1):ry (.list (fl o) sz xs) (.list (fl o) sz ys):=by
 intro w S v F hr;cases o
 ·simp only[fl,Rel]at hr⊢;rcases hr with⟨h1,h2,h3⟩|⟨b,off,cap,cs,fz,h1,h2,h3,h4,h5,h6⟩
  ·refine⟨[],[],by rw[h3];simp,fun S' hS _=>.inl ⟨?_,h2,rfl⟩⟩;rw[h1]at hlen;exact List.length_eq_zero_iff.1 hlen.symm
  obtain⟨F1,F2,hp,hq⟩:=Y6 h5;have hn:F1++F2=[]:=hp.symm.eq_nil;simp only[List.append_eq_nil_iff]at hn;obtain⟨rfl,rfl⟩:=hn;rw[hlen]at h1 h4;refine⟨[],[],by rw[h6];simp,fun S' hS _=>.inr ⟨b,off,cap,cs,fz,h1,hS b h2,h3,h4,?_,rfl⟩⟩;rw[<-hlen];exact hq S' hS (by simp)
 simp only[fl,Rel]at hr⊢;rcases hr with⟨h1,h2,h3⟩|⟨b,cap,cs,F',h1,h2,h3,h4,h5,h6,rfl⟩
 ·refine⟨[],[],by rw[h3];simp,fun S' hS _=>.inl ⟨?_,h2,rfl⟩⟩;rw[h1]at hlen;exact List.length_eq_zero_iff.1 hlen.symm
 obtain⟨F1,F2,hp,hq⟩:=Y6 h6;rw[hlen]at h1 h3;refine⟨b::F1,F2,List.Perm.cons b hp,fun S' hS hF=>.inr ⟨b,cap,cs,F1,h1,h2,h3,h4,h5,?_,rfl⟩⟩;rw[<-hlen];exact hq S' hS hF
mutual
inductive Az:SV->SV->Prop
 |le {x y:SV}:au x y->Az x y
 |shr {x y:SV}:y=x.bf->Az x y
 |row {o:Bool} {sz:Nat} {α:Type} {d:α} {e:α->SV} {xs:List SV} {ys:List α}:ss xs (ys.map e)->Az (.row o sz xs) (.cJ o sz d e ys)
 |cJ {o:Bool} {sz:Nat} {α β:Type} {d:α} {e:α->SV} {d':β} {e':β->SV} {xs:List α} {ys:List β}:ss (xs.map e) (ys.map e')->Az (.cJ o sz d e xs) (.cJ o sz d' e' ys)
 |agg {xs ys:List SV}:ss xs ys->Az (.agg xs) (.agg ys)
 |bC {xs ys:List SV}:ss xs ys->Az (.bC xs) (.bC ys)
 |box {o:Bool} {x y:SV}:Az x y->Az (.box o x) (.box o y)
inductive ss:List SV->List SV->Prop
 |nil:ss [] []
 |cons {x y:SV} {xs ys:List SV}:Az x y->ss xs ys->ss (x::xs) (y::ys)
end
theorem Az.refl(x:SV):Az x x:=.le (au.refl x)
theorem ss.refl:∀xs:List SV,ss xs xs
 |[]=>.nil
 |x::xs=>.cons (Az.refl x) (ss.refl xs)
theorem ss.len:∀{xs ys:List SV},ss xs ys->(an xs).length=(an ys).length
 |[],_,h=>by cases h;rfl
 |x::xs,_,h=>by
  cases h with
  |cons h1 h2=>simp only[an,List.length_cons,ss.len h2]
theorem ss.rep{x y:SV}(h:Az x y):∀n,ss (List.replicate n x) (List.replicate n y)
 |0=>.nil
 |n+1=>.cons h (ss.rep h n)
mutual
theorem Az.den:∀{x y:SV},Az x y->ry x.den y.den
 |_,_,.le h=>ry.of_le (au.den h)
 |x,_,.shr h=>by subst h;rw[<-ew];exact ry.share _
 |_,_,.row (o:=o) (sz:=sz) (d:=d) (e:=e) (xs:=xs) (ys:=ys) h=>by
  have e2:(SV.cJ o sz d e ys).den=.list (fl o) sz (an (ys.map e)):=by simp[SV.den,bx]
  rw[e2];exact Ep (o:=o) (sz:=sz) (ss.len h) fun k=>ss.XC h k
 |_,_,.cJ (o:=o) (sz:=sz) (d:=d) (e:=e) (d':=d') (e':=e') (xs:=xs) (ys:=ys) h=>by
  have e2:(SV.cJ o sz d' e' ys).den=.list (fl o) sz (an (ys.map e')):=by simp[SV.den,bx]
  have e1:(SV.cJ o sz d e xs).den=.list (fl o) sz (an (xs.map e)):=by simp[SV.den,bx]
  rw[e2,e1];exact Ep (o:=o) (sz:=sz) (ss.len h) fun k=>ss.XC h k
 |_,_,.agg h=>by intro w S v F hr;simp only[SV.den,Rel]at hr⊢;obtain⟨cs,h1,h2⟩:=hr;obtain⟨F1,F2,hp,hq⟩:=ss.cells h h2;exact⟨F1,F2,hp,fun S' hS hF=>⟨cs,h1,hq S' hS hF⟩⟩
 |_,_,.bC h=>by intro w S v F hr;simp only[SV.den,Rel]at hr⊢;obtain⟨cs,h1,h2⟩:=hr;obtain⟨F1,F2,hp,hq⟩:=ss.cells h h2;exact⟨F1,F2,hp,fun S' hS hF=>⟨cs,h1,hq S' hS hF⟩⟩
 |_,_,.box (o:=o) h=>by
  intro w S v F hr;simp only[SV.den,Rel]at hr⊢;obtain⟨b,cs,fz,F',z,h1,h2,h3,h4,h5⟩:=hr;obtain⟨F1,F2,hp,hq⟩:=Az.den h w S z F' h3;cases o with
  |true=>simp only[if_true]at h5⊢;obtain⟨h5,rfl⟩:=h5;exact⟨b::F1,F2,List.Perm.cons b hp,fun S' hS hF=>⟨b,cs,fz,F1,z,h1,h2,hq S' hS hF,h4,h5,rfl⟩⟩
  |false=>simp only[Bool.false_eq_true,if_false]at h5⊢;obtain⟨h5,rfl,rfl⟩:=h5;have hn:F1++F2=[]:=hp.symm.eq_nil;simp only[List.append_eq_nil_iff]at hn;obtain⟨rfl,rfl⟩:=hn;exact⟨[],[],by simp,fun S' hS hF=>⟨b,cs,fz,[],z,h1,h2,hq S' hS hF,h4,hS b h5,rfl,rfl⟩⟩
theorem ss.XC:∀{xs ys:List SV},ss xs ys->∀{w:World}{S:Nat->Prop}{sz:Nat}{l:List Value}{F:List Nat},bU w S sz (an xs) l F->
 ∃F1 F2,F.Perm (F1++F2)/\∀S':Nat->Prop,(∀b,S b->S' b)->(∀b∈F2,S' b)->bU w S' sz (an ys) l F1
 |_,_,.nil=>fun k=>by simp only[an,bU]at k⊢;exact⟨[],[],by rw[k.2];simp,fun _ _ _=>⟨k.1,rfl⟩⟩
 |_,_,.cons h1 h2=>fun k=>by simp only[an,bU]at k⊢;obtain⟨v,l',G1,G2,rfl,rfl,h3,h4,h5⟩:=k;obtain⟨F1,F2,hp,hr⟩:=ss.XC h2 h5;obtain⟨E1,E2,ep,er⟩:=Az.den h1 _ _ _ _ h4;exact⟨E1++F1,E2++F2,Eo ep hp,fun S' hS hF=>⟨v,l',E1,F1,rfl,rfl,h3,er S' hS fun b hb=>hF b (by simp[hb]),hr S' hS fun b hb=>hF b (by simp[hb])⟩⟩
theorem ss.cells:∀{xs ys:List SV},ss xs ys->∀{w:World}{S:Nat->Prop}{one:Bool}{l:List Value}{F:List Nat},Cells w S one (an xs) l F->
 ∃F1 F2,F.Perm (F1++F2)/\∀S':Nat->Prop,(∀b,S b->S' b)->(∀b∈F2,S' b)->Cells w S' one (an ys) l F1
 |_,_,.nil=>fun k=>by simp only[an,Cells]at k⊢;exact⟨[],[],by rw[k.2];simp,fun _ _ _=>⟨k.1,rfl⟩⟩
 |_,_,.cons h1 h2=>fun k=>by simp only[an,Cells]at k⊢;obtain⟨v,l',G1,G2,rfl,rfl,h3,h4,h5⟩:=k;obtain⟨F1,F2,hp,hr⟩:=ss.cells h2 h5;obtain⟨E1,E2,ep,er⟩:=Az.den h1 _ _ _ _ h4;exact⟨E1++F1,E2++F2,Eo ep hp,fun S' hS hF=>⟨v,l',E1,F1,rfl,rfl,h3,er S' hS fun b hb=>hF b (by simp[hb]),hr S' hS fun b hb=>hF b (by simp[hb])⟩⟩
end
def okB(l _m:aP)(b:Bool)(r g2:Nat)(p:Path):Bool:=Bg b (b8 (Nat.beq (gt l r).g2 g2) (match eX (gt l r).v p with|some ([],_)=>true|_=>false))
theorem Fc{l m:aP}{b:Bool}{r g2:Nat}{p:Path}(h:okB l m b r g2 p=true):(b=true\/(gt l r).g2=g2)/\(b=false->∃y,a6 (gt l r).v.den p=some y):=by
 unfold okB at h;cases b with
 |true=>exact⟨.inl rfl,fun h=>by simp at h⟩
 |false=>
  have h:b8 (Nat.beq (gt l r).g2 g2) (match eX (gt l r).v p with|some ([],_)=>true|_=>false)=true:=h;cases hb:Nat.beq (gt l r).g2 g2 with
  |false=>rw[hb]at h;cases h
  |true=>
   rw[hb]at h;have h:(match eX (gt l r).v p with|some ([],_)=>true|_=>false)=true:=h;refine⟨.inr (Nat.eq_of_beq_eq_true hb),fun _=>?_⟩;split at h
   ·rename_i y hy;exact⟨_,bI hy trivial⟩
   cases h
def tP:List (Nat×Nat)->List (Nat×Nat)
 |[]=>[]
 |(r,_)::q=>(r,0)::tP q
def Cp(l:aP):List (Nat×Nat)->Bool
 |[]=>true
 |(r,a)::q=>b8 (Nat.beq (gt l r).g1 a) (Cp l q)
theorem Ah{l:aP}:∀{aW:List (Nat×Nat)},Cp l aW=true->∀q∈aW,(gt l q.1).g1=q.2
 |[],_,q,hq=>by simp at hq
 |(r,a)::c,h,q,hq=>by
  simp only[Cp,aH]at h;rcases List.mem_cons.1 hq with rfl|hq
  ·exact Nat.eq_of_beq_eq_true h.1
  exact Ah h.2 q hq
theorem Cq:∀{aW:List (Nat×Nat)},∀q∈tP aW,q.2=0
 |[],q,hq=>by simp[tP]at hq
 |(r,a)::c,q,hq=>by
  simp only[tP]at hq;rcases List.mem_cons.1 hq with rfl|hq
  ·rfl
  exact Cq q hq
theorem Cr{α:Type}(f:Nat->α):∀aW:List (Nat×Nat),(tP aW).map (fun q=>f q.1)=aW.map fun q=>f q.1
 |[]=>rfl
 |(r,a)::c=>by simp only[tP,List.map_cons,Cr f c]
def p9(l m:aP)(x y:SV):Prop:=match x with
 |.bg r a g2 p=>y=.bg r 0 0 p/\okB l m (iP p) r g2 p=true/\(gt l r).g1=a
 |.ptr r a g2 p=>y=.ptr r 0 0 p/\okB l m (flat p) r g2 p=true/\(gt l r).g1=a
 |.abs J=>y=.abs J
 |.dY g aW=>y=.dY g (tP aW)/\Cp l aW=true
 |_=>False
def Tk(l m:aP)(x y:SV):Prop:=match x with
 |.bg r a g2 p=>y=.bg r 0 0 p/\okB l m (iP p) r g2 p=true/\(gt l r).g1=a
 |.ptr r a g2 p=>y=.ptr r 0 0 p/\okB l m (flat p) r g2 p=true/\(gt l r).g1=a
 |.abs J=>y=.abs J
 |.dY g aW=>y=.dY g (tP aW)/\Cp l aW=true
 |x=>x.plain=true/\XG x y
def Hh(l m:aP):List (Nat×SV)->Prop
 |[]=>True
 |(i,y)::r=>Tk l m (gt l i).v y/\Hh l m r
abbrev Fits(l:aP)(l':List (Nat×SV)):Prop:=Hh l (sl l') l'
theorem au.plain{x y:SV}(h:au x y)(hp:x.plain=true):y.plain=true:=by
 cases x
 case dH=>
  unfold au at h;split at h
  ·rfl
  subst h;exact hp
 all_goals simp only[au]at h
 all_goals first|(subst h;exact hp)|(cases y<;>first|rfl|exact h.elim)
theorem XG.plain{x y:SV}(h:XG x y)(hp:x.plain=true):y.plain=true:=by
 unfold XG at h;split at h
 ·split at h
  ·rfl
  exact h.plain hp
 exact h.plain hp
def vP(l m:aP):List (Nat×SV)->Prop
 |[]=>True
 |(i,y)::r=>(((gt l i).v.plain=true/\y.plain=true/\ry (gt l i).v.den y.den)\/p9 l m (gt l i).v y)/\vP l m r
abbrev rA(l:aP)(l':List (Nat×SV)):Prop:=vP l (sl l') l'
theorem zm{m:aP}:∀{l':List (Nat×SV)},vP l m l'->∀i,(gt (sl l') i).v=.dead\/((gt l i).v.plain=true/\(gt (sl l') i).v.plain=true/\ry (gt l i).v.den (gt (sl l') i).v.den)\/p9 l m (gt l i).v (gt (sl l') i).v
 |[],_,i=>.inl rfl
 |(j,y)::r,h,i=>by
  simp only[sl,gt];split
  ·rename_i hb;have:=Nat.eq_of_beq_eq_true hb;subst this;exact .inr h.1
  exact zm h.2 i
theorem Ce{l':List (Nat×SV)}(h:rA l l')(i:Nat):(gt (sl l') i).v=.dead\/((gt l i).v.plain=true/\(gt (sl l') i).v.plain=true/\ry (gt l i).v.den (gt (sl l') i).v.den)\/p9 l (sl l') (gt l i).v (gt (sl l') i).v:=zm h i
theorem Tk.Es{l m:aP}{x y:SV}(h:Tk l m x y):(x.plain=true/\y.plain=true/\ry x.den y.den)\/p9 l m x y:=by
 unfold Tk at h;split at h
 ·exact .inr h
 ·exact .inr h
 ·exact .inr h
 ·exact .inr h
 exact .inl ⟨h.1,h.2.plain h.1,h.2.den⟩
theorem Hh.Es{l m:aP}:∀{l':List (Nat×SV)},Hh l m l'->vP l m l'
 |[],_=>trivial
 |(_,_)::_,h=>⟨h.1.Es,Hh.Es h.2⟩
def Tj(l m:aP)(x y:SV):Prop:=match x with
 |.bg r a g2 p=>y=.bg r 0 0 p/\okB l m (iP p) r g2 p=true/\(gt l r).g1=a
 |.ptr r a g2 p=>y=.ptr r 0 0 p/\okB l m (flat p) r g2 p=true/\(gt l r).g1=a
 |.abs J=>y=.abs J
 |.dY g aW=>y=.dY g (tP aW)/\Cp l aW=true
 |x=>x.plain=true/\y.plain=true/\Az x y
def AA(l m:aP):List (Nat×SV)->Prop
 |[]=>True
 |(i,y)::r=>Tj l m (gt l i).v y/\AA l m r
abbrev AD(l:aP)(l':List (Nat×SV)):Prop:=AA l (sl l') l'
theorem Tj.Es{l m:aP}{x y:SV}(h:Tj l m x y):(x.plain=true/\y.plain=true/\ry x.den y.den)\/p9 l m x y:=by
 unfold Tj at h;split at h
 ·exact .inr h
 ·exact .inr h
 ·exact .inr h
 ·exact .inr h
 exact .inl ⟨h.1,h.2.1,h.2.2.den⟩
theorem AA.Es{l m:aP}:∀{l':List (Nat×SV)},AA l m l'->vP l m l'
 |[],_=>trivial
 |(_,_)::_,h=>⟨h.1.Es,AA.Es h.2⟩
theorem Dj{V:Hid}{w0 w:World}{S0:Nat->Prop}{a:Act}{l':List (Nat×SV)}(hf:rA l l')(h:Inv N V w0 S0 (dn l) a w):Inv N V w0 S0 (dn (sl l')) a w:=by
 obtain⟨S,F,hc,hN,ig,jl,gw,cU⟩:=h
 let D:Nat->Bool:=fun i=>match(gt (sl l') i).v with|.dead=>true|.bg .. =>true|.ptr .. =>true|.dY .. =>true|_=>false
 have hD:∀i,D i=true->(gt (sl l') i).v=.dead\/p9 l (sl l') (gt l i).v (gt (sl l') i).v:=by
  intro i hi;rcases Ce hf i with h|h|h
  ·exact .inl h
  ·simp only[D]at hi;have:=h.2.1;cases hv:(gt (sl l') i).v<;>rw[hv]at hi this<;>first|exact .inl rfl|(simp[SV.plain]at this;done)|(simp at hi;done)
  exact .inr h
 have MX:∀i,D i=false->((gt l i).v.plain=true/\(gt (sl l') i).v.plain=true/\ry (gt l i).v.den (gt (sl l') i).v.den)\/∃J,(gt l i).v=.abs J/\(gt (sl l') i).v=.abs J:=by
  intro i hi;rcases Ce hf i with h|h|h
  ·simp[D,h]at hi
  ·exact .inl h
  unfold p9 at h;split at h
  ·exfalso;simp[D,h.1]at hi
  ·exfalso;simp[D,h.1]at hi
  ·rename_i J hJ;exact .inr ⟨J,hJ,h⟩
  ·exfalso;simp[D,h.1]at hi
  exact h.elim
 have hch:∀i,∃p:List Nat×List Nat,(D i=true->p=([],[]))/\(D i=false->(F i).Perm (p.1++p.2)/\∀S':Nat->Prop,(∀b,S b->S' b)->(∀b∈p.2,S' b)->ai w S' (dn (sl l')) (tv V a) i p.1):=by
  intro i;cases hi:D i with
  |true=>exact⟨([],[]),fun _=>rfl,fun h=>by simp at h⟩
  |false=>
   rcases MX i hi with⟨h1,h3,h2⟩|⟨J,h1,h2⟩
   ·have hr:=hc.rel i;rw[ai.ar (by rw[cQ,cH];exact h1)]at hr;obtain⟨F1,F2,hp,hq⟩:=h2 _ _ _ _ hr;refine⟨(F1,F2),fun h=>by simp at h,fun _=>⟨hp,fun S' k1 k2=>?_⟩⟩;rw[ai.ar (by rw[cQ,cH];exact h3)];rw[cQ];exact hq S' k1 k2
   refine⟨(F i,[]),fun h=>by simp at h,fun _=>⟨by simp,fun S' k1 _=>?_⟩⟩;have hr:=hc.rel i;unfold ai at hr⊢;rw[cQ,h1]at hr;rw[cQ,h2];exact fun w2 S2 q1 q2=>hr w2 S2 (fun b hb=>q1 b (hb.imp (k1 b) id)) (fun b hb=>q2 b (k1 b hb))
 obtain⟨f,QG⟩:=Classical.axiomOfChoice hch;have m1:∀i b,b∈(f i).1->D i=false/\b∈F i:=by
  intro i b hb;cases hi:D i with
  |true=>rw[(QG i).1 hi]at hb;simp at hb
  |false=>exact⟨rfl,((QG i).2 hi).1.mem_iff.2 (by simp[hb])⟩
 have m2:∀i b,b∈(f i).2->D i=false/\b∈F i:=by
  intro i b hb;cases hi:D i with
  |true=>rw[(QG i).1 hi]at hb;simp at hb
  |false=>exact⟨rfl,((QG i).2 hi).1.mem_iff.2 (by simp[hb])⟩
 refine⟨fun b=>S b\/∃i,b∈(f i).2,fun i=>(f i).1,⟨fun i=>?_,fun i=>?_,fun i j fX b hb=>?_,fun i b hb=>?_,fun b hb=>?_⟩,hN,ig,fun b hb=>.inl (jl b hb),fun b hb=>?_,cU⟩
 ·cases hi:D i with
  |true=>
   rcases hD i hi with e|e
   ·rw[ai.ar (by rw[cQ,e];rfl)];rw[cQ,e,(QG i).1 hi];simp[SV.den,Rel]
   rw[(QG i).1 hi];have hr:=hc.rel i;unfold p9 at e;split at e
   ·rename_i r a1 b1 p hx;obtain⟨e1,e2,e3⟩:=e;unfold ai at hr⊢;rw[cQ,hx]at hr;rw[cQ,e1];simp only[SV.den]at hr⊢;obtain⟨k1,k2⟩:=Fc e2;exact⟨trivial,Nat.zero_le _,Nat.zero_le _,fun _ _ _=>hr.2.2.2 e3 k1 fun h=>by rw[cQ];exact k2 h⟩
   ·rename_i r a1 b1 p hx;obtain⟨e1,e2,e3⟩:=e;unfold ai at hr⊢;rw[cQ,hx]at hr;rw[cQ,e1];simp only[SV.den]at hr⊢;obtain⟨k1,k2⟩:=Fc e2;exact⟨trivial,Nat.zero_le _,Nat.zero_le _,hr.2.2.2.1,fun _ _ _=>hr.2.2.2.2 e3 k1 fun h=>by rw[cQ];exact k2 h⟩
   ·rename_i J hJ;simp only[D,e]at hi;simp at hi
   ·rename_i g aW hx;obtain⟨e1,e2⟩:=e;unfold ai at hr⊢;rw[cQ,hx]at hr;rw[cQ,e1];simp only[SV.den]at hr⊢;refine⟨trivial,fun q hq=>by rw[Cq q hq];exact Nat.zero_le _,fun _=>?_⟩;rw[hr.2.2 (fun q hq=>Ah e2 q hq)]
    congr 2
    exact(Cr (tv V a) aW).symm
   exact e.elim
  |false=>exact((QG i).2 hi).2 _ (fun b hb=>.inl hb) fun b hb=>.inr ⟨i,hb⟩
 ·show(f i).1.Nodup;cases hi:D i with
  |true=>rw[(QG i).1 hi];simp
  |false=>exact(List.nodup_append.1 (((QG i).2 hi).1.nodup_iff.1 (hc.nodup i))).1
 ·intro dr;exact hc.cx i j fX b (m1 i b hb).2 (m1 j b dr).2
 ·have ho:=hc.own i b (m1 i b hb).2;refine⟨ho.1,ho.2.1,?_⟩;rintro(h|⟨j,hj⟩)
  ·exact ho.2.2 h
  by_cases fX:i=j
  ·subst fX;have hn:=List.nodup_append.1 (((QG i).2 (m1 i b hb).1).1.nodup_iff.1 (hc.nodup i));exact hn.2.2 b hb b hj rfl
  exact hc.cx i j fX b (m1 i b hb).2 (m2 j b hj).2
 ·rcases hb with hb|⟨i,hb⟩
  ·exact hc.shr b hb
  exact(hc.own i b (m2 i b hb).2).2.1
 rcases hb with hb|⟨i,hb⟩
 ·exact gw b hb
 exact .inr (hc.own i b (m2 i b hb).2).1
theorem vH{c:Code}{Q:Exit->St->Prop}{l':List (Nat×SV)}(hf:rA l l')(h:AW R P N c Q (dn (sl l'))):AW R P N c Q (dn l):=fun V w0 S0 a w hR hi=>h V w0 S0 a w hR (Dj hf hi)
theorem Yd{c:Code}(l':List (Nat×SV))(hf:Fits l l')(h:AK R P N F (.code c::k) (sl l')):AK R P N F (.code c::k) l:=vH hf.Es h
theorem JL{c:Code}(l':List (Nat×SV))(hf:AD l l')(h:AK R P N F (.code c::k) (sl l')):AK R P N F (.code c::k) l:=vH hf.Es h
def AE{β:Type}(I:β->List (Nat×SV))(A:β->Prop)(μ:β->Nat)(y:β)(σ:St):Prop:=∃l',σ=dn l'/\∃z,μ z<μ y/\A z/\rA l' (I z)
theorem loop{β:Type}(I:β->List (Nat×SV))(A:β->Prop)(μ:β->Nat)(x:β){c:Code}(hx:A x)(hf:Fits l (I x))(hr:∀y,A y->AK R P N F (.code c::.inv (AE I A μ y)::k) (sl (I y))):AK R P N F (.code (.loop c)::k) l:=by
 refine Tc (fun n σ=>∃y,μ y=n/\A y/\∃l',σ=dn l'/\rA l' (I y)) (n:=μ x) ⟨x,rfl,hx,l,rfl,hf.Es⟩ ?_;rintro n σ⟨y,rfl,hy,l1,rfl,TX⟩;refine gP (vH TX (hr y hy:AW R P N c (eh R P N F (.inv (AE I A μ y)::k)) (dn (sl (I y))))) fun e σ' h=>?_;cases e with
 |normal=>obtain⟨l2,rfl,z,h1,h2,h3⟩:=h;exact⟨μ z,h1,z,rfl,h2,l2,rfl,h3⟩
 |_=>exact h
theorem again{β:Type}{I:β->List (Nat×SV)}{A:β->Prop}{μ:β->Nat}{y:β}(z:β)(h1:μ z<μ y)(h2:A z)(h3:Fits l (I z)):AK R P N F (.inv (AE I A μ y)::k) l:=⟨l,rfl,z,h1,h2,h3.Es⟩
theorem WV{β:Type}{I:β->List (Nat×SV)}{A:β->Prop}{μ:β->Nat}{y:β}(z:β)(h1:μ z<μ y)(h2:A z)(h3:AD l (I z)):AK R P N F (.inv (AE I A μ y)::k) l:=⟨l,rfl,z,h1,h2,h3.Es⟩
def Ay{β:Type}(I:β->List (Nat×SV))(A:β->Prop)(σ:St):Prop:=∃l',σ=dn l'/\∃z,A z/\rA l' (I z)
theorem cut{β:Type}(I:β->List (Nat×SV))(A:β->Prop){c d:Code}(h1:AK R P N F (.code c::.inv (Ay I A)::.code d::k) l)(h2:∀z,A z->AK R P N F (.code d::k) (sl (I z))):AK R P N F (.code c::.code d::k) l:=by
 refine gP (h1:AW R P N c (eh R P N F (.inv (Ay I A)::.code d::k)) (dn l)) fun e σ' h=>?_;cases e with
 |normal=>obtain⟨l2,rfl,z,h3,h4⟩:=h;exact vH h4 (h2 z h3)
 |_=>exact h
theorem meet{β:Type}{I:β->List (Nat×SV)}{A:β->Prop}(z:β)(h2:A z)(h3:Fits l (I z)):AK R P N F (.inv (Ay I A)::k) l:=⟨l,rfl,z,h2,h3.Es⟩
end
section
variable{R:Option Nat->Prop}{P:Program}{N:Nat}{F:St->Prop}{k:List It}{l:aP}
theorem lP{β1 β2:Type}(I:β1->β2->List (Nat×SV))(A:β1->β2->Prop)(μ:β1->β2->Nat)(x1:β1)(x2:β2){cc:Code}(hx:A x1 x2)(hf:Fits l (I x1 x2))
 (hr:∀a b,A a b->AK R P N F (.code cc::.inv (AE (fun t:β1×β2=>I t.1 t.2) (fun t:β1×β2=>A t.1 t.2) (fun t:β1×β2=>μ t.1 t.2) (a,b))::k) (sl (I a b))):AK R P N F (.code (.loop cc)::k) l:=
 loop (fun t:β1×β2=>I t.1 t.2) (fun t:β1×β2=>A t.1 t.2) (fun t:β1×β2=>μ t.1 t.2) (x1,x2) hx hf fun y hy=>hr y.1 y.2 hy
theorem adb{β1 β2:Type}(I:β1->β2->List (Nat×SV))(A:β1->β2->Prop){cc dd:Code}(h1:AK R P N F (.code cc::.inv (Ay (fun t:β1×β2=>I t.1 t.2) (fun t:β1×β2=>A t.1 t.2))::.code dd::k) l)(h2:∀a b,A a b->AK R P N F (.code dd::k) (sl (I a b))):AK R P N F (.code cc::.code dd::k) l:=cut (fun t:β1×β2=>I t.1 t.2) (fun t:β1×β2=>A t.1 t.2) h1 fun y hy=>h2 y.1 y.2 hy
theorem mA{β1 β2 β3:Type}(I:β1->β2->β3->List (Nat×SV))(A:β1->β2->β3->Prop)(μ:β1->β2->β3->Nat)(x1:β1)(x2:β2)(x3:β3){cc:Code}(hx:A x1 x2 x3)(hf:Fits l (I x1 x2 x3))
 (hr:∀a b c,A a b c->AK R P N F (.code cc::.inv (AE (fun t:β1×β2×β3=>I t.1 t.2.1 t.2.2) (fun t:β1×β2×β3=>A t.1 t.2.1 t.2.2) (fun t:β1×β2×β3=>μ t.1 t.2.1 t.2.2) (a,b,c))::k) (sl (I a b c))):AK R P N F (.code (.loop cc)::k) l:=
 loop (fun t:β1×β2×β3=>I t.1 t.2.1 t.2.2) (fun t:β1×β2×β3=>A t.1 t.2.1 t.2.2) (fun t:β1×β2×β3=>μ t.1 t.2.1 t.2.2) (x1,x2,x3) hx hf fun y hy=>hr y.1 y.2.1 y.2.2 hy
theorem Ya{β1 β2 β3 β4:Type}(I:β1->β2->β3->β4->List (Nat×SV))(A:β1->β2->β3->β4->Prop)(μ:β1->β2->β3->β4->Nat)(x1:β1)(x2:β2)(x3:β3)(x4:β4){cc:Code}(hx:A x1 x2 x3 x4)(hf:Fits l (I x1 x2 x3 x4))
 (hr:∀a b c d,A a b c d->AK R P N F (.code cc::.inv (AE (fun t:β1×β2×β3×β4=>I t.1 t.2.1 t.2.2.1 t.2.2.2) (fun t:β1×β2×β3×β4=>A t.1 t.2.1 t.2.2.1 t.2.2.2) (fun t:β1×β2×β3×β4=>μ t.1 t.2.1 t.2.2.1 t.2.2.2) (a,b,c,d))::k) (sl (I a b c d))):AK R P N F (.code (.loop cc)::k) l:=
 loop (fun t:β1×β2×β3×β4=>I t.1 t.2.1 t.2.2.1 t.2.2.2) (fun t:β1×β2×β3×β4=>A t.1 t.2.1 t.2.2.1 t.2.2.2) (fun t:β1×β2×β3×β4=>μ t.1 t.2.1 t.2.2.1 t.2.2.2) (x1,x2,x3,x4) hx hf fun y hy=>hr y.1 y.2.1 y.2.2.1 y.2.2.2 hy
theorem Wz(I:List (Nat×SV))(A:Prop){cc dd:Code}(h1:AK R P N F (.code cc::.inv (Ay (fun _:Unit=>I) fun _=>A)::.code dd::k) l)(h2:A->AK R P N F (.code dd::k) (sl I)):AK R P N F (.code cc::.code dd::k) l:=cut _ _ h1 fun _ h=>h2 h
theorem aQ{I:List (Nat×SV)}{A:Prop}(h2:A)(h3:Fits l I):AK R P N F (.inv (Ay (fun _:Unit=>I) fun _=>A)::k) l:=meet () h2 h3
end
end Go.Ai
namespace Go.Ai
section
variable{R:Option Nat->Prop}{P:Program}{N:Nat}{F:St->Prop}{k:List It}{l:aP}
theorem lJ{β:Type}(I:β->List (Nat×SV))(A:β->Prop){d:Code}(h2:∀z,A z->AK R P N F (.code d::k) (sl (I z))):∀(cs:List Code)(e:Exit)(σ:St),eh R P N F (cs.map .code++.inv (Ay I A)::.code d::k) e σ->eh R P N F (cs.map .code++.code d::k) e σ
 |[],e,σ,h=>by
  cases e with
  |normal=>obtain⟨l2,rfl,z,h3,h4⟩:=h;exact vH h4 (h2 z h3)
  |_=>exact h
 |c::cs,e,σ,h=>by
  cases e with
  |normal=>exact gP (h:AW R P N c (eh R P N F (cs.map .code++.inv (Ay I A)::.code d::k)) σ) fun e σ' h=>lJ I A h2 cs e σ' h
  |ret=>exact lJ I A h2 cs .ret σ h
  |exit id=>exact lJ I A h2 cs (.exit id) σ h
  |goto id=>exact lJ I A h2 cs (.goto id) σ h
  |panic v=>exact lJ I A h2 cs (.panic v) σ h
  |outgrown=>exact lJ I A h2 cs .outgrown σ h
def jR:Nat->Code->List Code×Code
 |n+1,.seq a b=>(a::(jR n b).1,(jR n b).2)
 |_,c=>([],c)
theorem yh:∀(n:Nat)(c:Code)(σ:St),eh R P N F ((jR n c).1.map .code++.code (jR n c).2::k) .normal σ->eh R P N F (.code c::k) .normal σ
 |0,c,σ,h=>h
 |n+1,.seq a b,σ,h=>by
  refine P7 (gP (h:AW R P N a (eh R P N F ((jR n b).1.map .code++.code (jR n b).2::k)) σ) fun e σ' h=>?_);have hk:∀(cs:List Code)(d:Code)(e:Exit),(e=.normal->False)->eh R P N F (cs.map .code++.code d::k) e σ'->eh R P N F k e σ':=by
   intro cs
   induction cs with
   |nil=>intro d e he h;cases e<;>first|exact absurd rfl he|exact h
   |cons c cs ih=>intro d e he h;exact ih d e he (by cases e<;>first|exact absurd rfl he|exact h)
  cases e with
  |normal=>exact yh n b σ' h
  |ret=>exact hk _ _ _ (by simp) h
  |exit id=>exact hk _ _ _ (by simp) h
  |goto id=>exact hk _ _ _ (by simp) h
  |panic v=>exact hk _ _ _ (by simp) h
  |outgrown=>exact hk _ _ _ (by simp) h
 |_+1,.skip,σ,h|_+1,.label _,σ,h|_+1,.region ..,σ,h|_+1,.block ..,σ,h|_+1,.scope ..,σ,h
 |_+1,.exit ..,σ,h|_+1,.ret,σ,h|_+1,.cond ..,σ,h|_+1,.loop ..,σ,h|_+1,.goto ..,σ,h|_+1,.rangeFunc ..,σ,h|_+1,.refuse ..,σ,h=>h
theorem PJ{β:Type}(n:Nat)(I:β->List (Nat×SV))(A:β->Prop){c:Code}(h1:AK R P N F ((jR n c).1.map .code++.inv (Ay I A)::.code (jR n c).2::k) l)(h2:∀z,A z->AK R P N F (.code (jR n c).2::k) (sl (I z))):AK R P N F (.code c::k) l:=yh n c _ (lJ I A h2 _ _ _ h1)
theorem cg(n:Nat)(I:List (Nat×SV))(A:Prop){c:Code}(h1:AK R P N F ((jR n c).1.map .code++.inv (Ay (fun _:Unit=>I) fun _=>A)::.code (jR n c).2::k) l)(h2:A->AK R P N F (.code (jR n c).2::k) (sl I)):AK R P N F (.code c::k) l:=PJ n _ _ h1 fun _ h=>h2 h
theorem wO{β1 β2:Type}(n:Nat)(I:β1->β2->List (Nat×SV))(A:β1->β2->Prop){c:Code}(h1:AK R P N F ((jR n c).1.map .code++.inv (Ay (fun t:β1×β2=>I t.1 t.2) (fun t:β1×β2=>A t.1 t.2))::.code (jR n c).2::k) l)(h2:∀a b,A a b->AK R P N F (.code (jR n c).2::k) (sl (I a b))):AK R P N F (.code c::k) l:=PJ n _ _ h1 fun y h=>h2 y.1 y.2 h
end
end Go.Ai
namespace Go.Ai
open Go.RowKit
section
variable{R:Option Nat->Prop}{P:Program}{N:Nat}{V:Hid}{w w0:World}{S S0:Nat->Prop}
theorem QW{vs:List Value}(hN:N<=1000000)(hl:vs.length<=N):tv V {tmps:=vs.toArray++Array.replicate (N-vs.toArray.size) undef,defers:=[]}=aS V vs:=by
 funext i
 simp only[tv,aS];have hs:(vs.toArray++Array.replicate (N-vs.toArray.size) undef).size=N:=by simp;omega
 rw[hs];by_cases hi:i<1000000
 ·simp only[hi,true_or,if_true];simp only[Array.getD_eq_getD_getElem?,List.getD_eq_getElem?_getD];by_cases h:i<vs.length
  ·rw[Array.getElem?_append_left (by simpa using h)];simp
  rw[List.getElem?_eq_none (by omega),Array.getElem?_append_right (by simp;omega)];simp only[Array.getElem?_replicate];split<;>simp
 have:¬i<N:=by omega
 simp only[hi,this,or_self,if_false]
theorem Lu{xs:List AV}{vs:List Value}{F:List Nat}(h:Cells w S false xs vs F):Rel w S (lE xs) (qY vs.toArray) F:=by
 generalize mC:vs.toArray=ys;have Vp:vs=ys.toList:=by rw[<-mC]
 rw[Vp]at h;unfold qY;have hlen:=Cells.length h;simp only[Array.length_toList]at hlen;cases xs with
 |nil=>rw[dif_neg (by simp at hlen;simp[hlen])];simp only[lE,Rel];exact⟨ys,rfl,h⟩
 |cons x xs=>cases xs with
  |nil=>
   have h1:ys.size=1:=by simpa using hlen
   rw[dif_pos h1];simp only[Cells]at h;obtain⟨y,l',F1,F2,e1,rfl,-,k5,rfl,rfl⟩:=h;have:ys[0]=y:=by have:ys=#[y]:=WT e1;subst this;rfl
   rw[this];simpa[lE]using k5
  |cons x' xs=>rw[dif_neg (by simp at hlen;omega)];simp only[lE,Rel];exact⟨ys,rfl,h⟩
def ac9(Q:St->Prop):Exit->St->Prop
 |.normal,σ=>Q σ
 |.ret,σ=>Q σ
 |_,_=>False
theorem CI{f:FuncId}{fn:Func}{c:Code}{H args H':List AV}{r:AV}{Q:St->Prop}(hf:P.funcs[f]?=some fn)(hb:fn.body=some c)(hn:(fn.name== "runtime.NumGoroutine")=false)(hlen:args.length<=fn.ntmps)(hN:fn.ntmps<=1000000)
 (hd:dG fn.results.toList []=true)(h:AW R0 P fn.ntmps c (ac9 Q) (both args H))
 (hQ:∀σ,Q σ->∀V w0 S0 a w,Inv fn.ntmps V w0 S0 σ a w->∃σ2,Inv fn.ntmps V w0 S0 σ2 a w/\(∃xs,gC P σ2 fn.results.toList=some xs/\ry (lE xs) r)/\∀(k:Nat)(y:AV),H'[k]?=some y->(σ2 (1000000+k)).av=y/\y.ic=true):
 Eb P f H args H' r:=by
 intro w S V vs F hl hG hc;obtain⟨V0,Eh⟩:∃V0:Hid,V0={v:=V.v,g:=V.g}:=⟨_,rfl⟩;have ev:V0.v=V.v:=by rw[Eh]
 have eg:V0.g=V.g:=by rw[Eh]
 have em:bW V0 w=bW V w:=by unfold bW;rw[eg]
 have hinv:Inv fn.ntmps V0 w S (both args H) {tmps:=vs.toArray++Array.replicate (fn.ntmps-vs.toArray.size) undef,defers:=[]} w:=by
  refine⟨S,F,?_,by simp;omega,by rw[Eh],fun _ h=>h,fun _ h=>.inl h,jF.refl _ _⟩;rw[QW hN (by omega),em];have e2:aS V0 vs=aS V vs:=by unfold aS;rw[ev]
  rw[e2];exact⟨hc.rel,hc.nodup,hc.cx,fun i b hb=>⟨.inr (hc.own i b hb).1,(hc.own i b hb).2⟩,hc.shr⟩
 have ue:V0.rd=none:=by rw[Eh]
 have hh:=h V0 w S _ w ⟨by rw[Eh];rfl,hG.laid,by rw[eg];exact hG.apart⟩ hinv;rw[ue]at hh;refine qg.nj hf (by rw[hb];rfl) hn ((callsIn_wide (n:=0)).1 (callsIn_of_wp_marks hf hb trivial (wpIn_mono hh fun e a' w1⟨σ',h1,S1,F1,ds,V7,Dt,acq,abN,abM,tg,hm⟩=>?_)));have ig:a'.defers=ds:=by rw[acq,Eh];exact List.append_nil _
 have gen:Q σ'->LeavesInM Fence.wide 0 P fn a'.tmps (fun e w'=>∃v',e=.returned v'/\∃S' F',qS V w w w'/\(∀b,S b->S' b)/\(∀b,S' b->S b\/bW V w b)/\aK S' (bW V w) (both [r] H') (aS V [v']) w' F') a'.defers .returning w1:=by
  intro Xe;rw[ig];refine oh ds w1 hm.1 (fun d hd=>by obtain⟨D,k1,k2,-⟩:=hm.2 d hd;exact⟨D,k1,k2⟩) fun w' Ed=>?_;have hi:Inv fn.ntmps {v:=V.v,g:=V.g,df:=ds} w S σ' a' w':=by have k1:=V7.shut hm Ed;have k2:=tg.shut hm Ed;subst Eh;exact⟨S1,F1,k1,Dt,ig,abN,abM,⟨k2.os,k2.tape,k2.output,k2.size,k2.block⟩⟩
  have key:Q σ'->∃v,(results fn a'.tmps).run P w'=.ok v w'/\∃v',Ending.returned v=.returned v'/\
   ∃S' F',qS V w w w'/\(∀b,S b->S' b)/\(∀b,S' b->S b\/bW V w b)/\aK S' (bW V w) (both [r] H') (aS V [v']) w' F':=by
   intro hq;obtain⟨σ2,⟨S',F,gL,hNN,ig,jl,gw,cU⟩,⟨xs,hx,hle⟩,hH⟩:=hQ σ' hq _ w S a' w' hi;obtain⟨vs,F',k1,k2,k3,k4⟩:=n0 gL _ [] hd hx;have dz:∀b∈F',bW V w b/\b<w'.heap.size/\¬S' b:=fun b hb=>by obtain⟨i,-,-,hi⟩:=k4 b hb;exact gL.own i b hi
   have Ik:(results fn a'.tmps).run P w'=.ok (qY vs.toArray) w':=by rw[x7,Array.mapM_eq_mapM_toList];simp only[map_eq_pure_bind,bind_assoc,pure_bind,Sem.run_bind,k1,Result.andThen_ok,Sem.run_pure]
   obtain⟨F1,F2,hp,hq⟩:=hle w' S' (qY vs.toArray) F' (Lu k2);have m1:∀b∈F1,b∈F':=fun b hb=>hp.mem_iff.2 (by simp[hb]);have m2:∀b∈F2,b∈F':=fun b hb=>hp.mem_iff.2 (by simp[hb]);have hn:=List.nodup_append.1 (hp.nodup_iff.1 k3);have cR:∀k,∀b∈F (1000000+k),b∉F':=fun k b hb dr=>by obtain⟨i,-,cB,hi⟩:=k4 b dr;exact gL.cx (1000000+k) i (by omega) b hb hi
   have hr:=hq (fun b=>S' b\/b∈F2) (fun b hb=>.inl hb) (fun b hb=>.inr hb);refine⟨_,Ik,_,rfl,fun b=>S' b\/b∈F2,fun i=>if i=0 then F1 else if 1000000<=i/\i-1000000<H'.length then F i else[],⟨cU.os,cU.tape,cU.output,cU.size,cU.block⟩,fun b hb=>.inl (jl b hb),?_,?_⟩
   ·rintro b(hb|hb)
    ·exact gw b hb
    exact .inr (dz b (m2 b hb)).1
   have R3:∀b,S' b\/b∈F2->b<w'.heap.size:=by
    rintro b(hb|hb)
    ·exact gL.shr b hb
    exact(dz b (m2 b hb)).2.1
   refine⟨fun i=>?_,fun i=>?_,fun i j fX b hb=>?_,fun i b hb=>?_,R3⟩
   ·by_cases h0:i=0
    ·subst h0;simp only[if_true];have cU:=gu (args:=[r]) (H:=H') (i:=0) (by omega);simp only[List.getElem?_cons_zero]at cU;rw[ai.ar (by rw[cU];exact hr.plain),cU];simpa[aS]using hr
    by_cases h1:i<1000000
    ·have tg:=gu (args:=[r]) (H:=H') h1;rw[List.getElem?_eq_none (by simp;omega)]at tg;rw[ai.ar (by rw[tg];rfl),tg];have:¬(1000000<=i/\i-1000000<H'.length):=by omega
     simp only[h0,this,if_false,Rel]
    obtain⟨k,rfl⟩:∃k,i=1000000+k:=⟨i-1000000,by omega⟩;have tg:=fW (args:=[r]) (H:=H') (by simp) k;by_cases hk:k<H'.length
    ·rw[List.getElem?_eq_getElem hk]at tg;obtain⟨e1,e2⟩:=hH k _ (List.getElem?_eq_getElem hk);have eH:=gL.rel (1000000+k);have AH:1000000<=1000000+k/\1000000+k-1000000<H'.length:=by omega
     simp only[h0,if_false,AH,and_self,if_true];have ht:tv V a' (1000000+k)=aS V [qY vs.toArray] (1000000+k):=by simp only[tv,aS];rw[if_neg (by omega),if_neg (by omega)]
     generalize H'[k]=y at*;cases y with
     |abs J=>unfold ai at eH⊢;rw[e1]at eH;rw[tg];exact fun w2 S2 q1 q2=>eH w2 S2 (fun b hb=>q1 b (hb.imp .inl id)) fun b hb=>q2 b (.inl hb)
     |bg _ _ _ _=>simp[AV.ic]at e2
     |ptr _ _ _ _=>simp[AV.ic]at e2
     |dY _ _=>simp[AV.ic]at e2
     |_=>rw[ai.ar (by rw[e1];rfl),e1]at eH;rw[ai.ar (by rw[tg];rfl),tg,<-ht];exact Rel.mono (fun b hb=>.inl hb) _ eH
    rw[List.getElem?_eq_none (by omega)]at tg;rw[ai.ar (by rw[tg];rfl),tg];have:¬(1000000<=1000000+k/\1000000+k-1000000<H'.length):=by omega
    simp only[h0,this,if_false,Rel]
   ·show(if i=0 then F1 else if 1000000<=i/\i-1000000<H'.length then F i else[]).Nodup;split
    ·exact hn.1
    split
    ·exact gL.nodup i
    simp
   ·replace hb:b∈if i=0 then F1 else if 1000000<=i/\i-1000000<H'.length then F i else[]:=hb
    show b∉if j=0 then F1 else if 1000000<=j/\j-1000000<H'.length then F j else[];split at hb
    ·split
     ·omega
     split
     ·rename_i hj;intro dr;have e:j=1000000+(j-1000000):=by omega
      rw[e]at dr;exact cR _ b dr (m1 b hb)
     simp
    split at hb
    ·rename_i hi;split
     ·intro dr;have e:i=1000000+(i-1000000):=by omega
      rw[e]at hb;exact cR _ b hb (m1 b dr)
     split
     ·exact gL.cx i j fX b hb
     simp
    simp at hb
   replace hb:b∈if i=0 then F1 else if 1000000<=i/\i-1000000<H'.length then F i else[]:=hb
   split at hb
   ·have ho:=dz b (m1 b hb);refine⟨ho.1,ho.2.1,?_⟩;rintro(h|h)
    ·exact ho.2.2 h
    exact hn.2.2 b hb b h rfl
   split at hb
   ·rename_i hi;have ho:=gL.own i b hb;refine⟨ho.1,ho.2.1,?_⟩;rintro(h|h)
    ·exact ho.2.2 h
    have e:i=1000000+(i-1000000):=by omega
    rw[e]at hb;exact cR _ b hb (m2 b h)
   simp at hb
  exact key Xe
 cases e with
 |normal=>exact gen h1
 |ret=>exact gen h1
 |_=>exact h1.elim
def jH(P:Program)(f:FuncId)(H args H':List SV)(r:SV):Prop:=Eb P f (an H) (an args) (an H') r.den
theorem jH.same{P:Program}{f:FuncId}{H H2 aas bs G G2:List SV}{r q:SV}(h:jH P f H aas G r)(e1:an H=an H2)(e2:an aas=an bs)(e3:an G=an G2)(e4:r.den=q.den):jH P f H2 bs G2 q:=by unfold jH at *;rw[<-e1,<-e2,<-e3,<-e4];exact h
theorem Cg:∀(k:Nat)(xs:List SV)(m:aP)(L:List (Nat×Sl)),dn m=mk L->dn (cat (zJ k xs) m)=mk (entry k (an xs)++L)
 |_,[],m,L,h=>h
 |k,x::xs,m,L,h=>by
  funext i
  simp only[zJ,cat,dC,an,entry,List.cons_append,mk,fB,Cg (k+1) xs m L h];rfl
def PD(args H:List SV):aP:=cat (zJ 0 args) (zJ 1000000 H)
theorem PC(args H:List SV):dn (PD args H)=both (an args) (an H):=Cg 0 args _ _ (zI 1000000 H)
def Dq(l:aP):Nat->List SV->Prop
 |_,[]=>True
 |k,y::ys=>((gt l k).v=y/\y.plain=true)/\Dq l (k+1) ys
theorem FU{l:aP}:∀{ys:List SV}{k:Nat}(j:Nat){y:AV},Dq l k ys->(an ys)[j]?=some y->(dn l (k+j)).av=y/\y.plain=true
 |[],k,j,y,_,h=>by simp[an]at h
 |x::ys,k,j,y,hh,h=>by
  cases j with
  |zero=>simp only[an,List.getElem?_cons_zero,Option.some.injEq]at h;subst h;exact⟨by rw[cQ,Nat.add_zero,hh.1.1],by rw[cH];exact hh.1.2⟩
  |succ j=>simp only[an,List.getElem?_cons_succ]at h;have:=FU j hh.2 h;rw[show k+1+j=k+(j+1) by omega]at this;exact this
def Ma(l:aP):Nat->List SV->Prop
 |_,[]=>True
 |k,y::ys=>((gt l k).v=y/\y.ic=true)/\Ma l (k+1) ys
theorem FT{l:aP}:∀{ys:List SV}{k:Nat}(j:Nat){y:AV},Ma l k ys->(an ys)[j]?=some y->(dn l (k+j)).av=y/\y.ic=true
 |[],k,j,y,_,h=>by simp[an]at h
 |x::ys,k,j,y,hh,h=>by
  cases j with
  |zero=>simp only[an,List.getElem?_cons_zero,Option.some.injEq]at h;subst h;exact⟨by rw[cQ,Nat.add_zero,hh.1.1],by rw[nm];exact hh.1.2⟩
  |succ j=>simp only[an,List.getElem?_cons_succ]at h;have:=FT j hh.2 h;rw[show k+1+j=k+(j+1) by omega]at this;exact this
theorem Dq.n{l:aP}:∀{ys:List SV}{k:Nat},Dq l k ys->Ma l k ys
 |[],_,_=>trivial
 |y::ys,k,h=>⟨⟨h.1.1,by have:=h.1.2;cases y<;>first|rfl|(simp[SV.plain]at this)⟩,Dq.n h.2⟩
def Qo(P:Program)(rs:List ResultVar)(r:SV)(H':List SV)(σ:St):Prop:=∃l l',σ=dn l/\rA l l'/\(∃xs,gC P (dn (sl l')) rs=some xs/\ry (lE xs) r.den)/\Ma (sl l') 1000000 H'
variable{tt:TT}{F:St->Prop}{k:List It}{l:aP}
theorem vo{f:FuncId}{fn:Func}{c:Code}{H args H':List SV}{r:SV}(hf:P.funcs[f]?=some fn)(hb:fn.body=some c)(hn:(fn.name== "runtime.NumGoroutine")=false)(hlen:Nat.ble (len args) fn.ntmps=true)(hN:Nat.ble fn.ntmps 1000000=true)
 (hd:dG fn.results.toList []=true)(h:AK R0 P fn.ntmps (Qo P fn.results.toList r H') [.code c] (PD args H)):jH P f H args H' r:=by
 refine CI (Q:=Qo P fn.results.toList r H') hf hb hn (by rw[bt,<-dA];exact Nat.le_of_ble_eq_true hlen) (Nat.le_of_ble_eq_true hN) hd ?_ ?_
 ·rw[<-PC];exact gP (h:AW R0 P fn.ntmps c (eh R0 P fn.ntmps (Qo P fn.results.toList r H') []) (dn (PD args H))) fun e σ' h=>by cases e<;>exact h
 rintro σ⟨l,l',rfl,h1,h2,h3⟩V w0 S0 a w hi;exact⟨dn (sl l'),Dj h1 hi,h2,fun k y hy=>FT k h3 hy⟩
theorem abe(hA:bK P tt){rs:List ResultVar}{r:SV}{H':List SV}{xs:List SV}(l':List (Nat×SV))(hf:AD l l')(h:gQ tt (sl l') rs=some xs)(hr:au (x6 xs) r)(hh:Ma (sl l') 1000000 H'):
 AK R P N (Qo P rs r H') [] l:=by
 refine⟨l,l',rfl,hf.Es,⟨_,kR hA h,?_⟩,hh⟩;rw[sM];exact ry.of_le hr.den
def EV(x:SR):Option (Nat×SV):=
 match x.sl.v with
 |.bg r _ _ _=>some (r,x.rt.v)
 |.ptr r _ _ _=>some (r,x.rt.v)
 |y=>match y.az with
  |true=>none
  |false=>match x.s with
   |some s=>some (s,y)
   |none=>none
def gX:List (Nat×SV)->List (Nat×AV)
 |[]=>[]
 |(r,y)::R=>(r,y.den)::gX R
def AM:List (Nat×SV)->Nat->Option Nat
 |[],_=>none
 |(r,_)::R,s=>match Nat.beq r s with
  |true=>some 0
  |false=>match AM R s with
   |some k=>some (k+1)
   |none=>none
theorem ng:∀(R:List (Nat×SV))(s:Nat),gn (gX R) s=AM R s
 |[],s=>rfl
 |(r,y)::R,s=>by
  simp only[gX,gn,AM,ng R s];cases h:Nat.beq r s with
  |true=>simp[Nat.eq_of_beq_eq_true h]
  |false=>rw[if_neg (fun e=>by subst e;simp at h)];cases AM R s<;>rfl
theorem EW{x:bo}(h:x.sl.av.ic=true):oJ x=if x.sl.av.az then none else x.s.map fun s=>(s,x.sl.av):=by unfold oJ;cases hh:x.sl.av<;>rw[hh]at h<;>first|(simp[AV.ic]at h;done)|(dsimp only;split<;>first|rfl|(cases x.s<;>rfl))
theorem EU{x:SR}(h:x.sl.v.ic=true):EV x=if x.sl.v.az then none else x.s.map fun s=>(s,x.sl.v):=by unfold EV;cases hh:x.sl.v<;>rw[hh]at h<;>first|(simp[SV.ic]at h;done)|(dsimp only;split<;>rename_i hb<;>simp only[hb,if_true,if_false,Bool.false_eq_true]<;>first|rfl|(cases x.s<;>rfl))
theorem K7(x:SR):oJ x.den=(EV x).map fun q=>(q.1,q.2.den):=by
 cases hp:x.sl.v.ic with
 |true=>
  rw[EU hp,EW (x:=x.den) (by rw[<-hp,<-nm];rfl)];have e:x.den.sl.av=x.sl.v.den:=rfl;have e2:x.den.s=x.s:=rfl;rw[e,e2,bX];split
  ·rfl
  cases x.s<;>rfl
 |false=>obtain⟨s,⟨v,g1,g2⟩,rt⟩:=x;cases v<;>first|(simp[SV.ic]at hp;done)|rfl|(cases s<;>rfl)
def de:List (Nat×SV)->List SR->List (Nat×SV)
 |R,[]=>R
 |R,x::xs=>match EV x with
  |some (r,y)=>match AM R r with
   |some _=>de R xs
   |none=>de (cat R [(r,y)]) xs
  |none=>de R xs
theorem GK:∀(R:List (Nat×SV))(r:Nat)(y:SV),gX (cat R [(r,y)])=gX R++[(r,y.den)]
 |[],r,y=>rfl
 |(s,z)::R,r,y=>by simp only[cat,gX,List.cons_append,GK R r y]
theorem js:∀(R:List (Nat×SV))(xs:List SR),cL (gX R) (xs.map SR.den)=gX (de R xs)
 |R,[]=>rfl
 |R,x::xs=>by
  simp only[List.map_cons,cL,de,K7];cases EV x with
  |none=>exact js R xs
  |some q=>
   obtain⟨r,y⟩:=q;simp only[Option.map_some,ng];cases AM R r with
   |some k=>exact js R xs
   |none=>simp only;rw[<-GK];exact js _ xs
def Jb(R:List (Nat×SV))(x:SR):Option SV:=
 match x.sl.v with
 |.bg r g1 g2 p=>match AM R r with
  |some k=>match b8 (Nat.beq x.rt.g1 g1) (Bg (iP p) (Nat.beq x.rt.g2 g2))with
   |true=>some (.bg (1000000+k) 0 0 p)
   |false=>none
  |none=>none
 |.ptr r g1 g2 p=>match AM R r with
  |some k=>match b8 (Nat.beq x.rt.g1 g1) (Bg (flat p) (Nat.beq x.rt.g2 g2))with
   |true=>some (.ptr (1000000+k) 0 0 p)
   |false=>none
  |none=>none
 |y=>match y.az with
  |true=>some y
  |false=>match x.s with
   |some s=>match AM R s with
    |some k=>some (.bg (1000000+k) 0 0 [])
    |none=>none
   |none=>none
theorem Jc{R:List (Nat×AV)}{x:bo}(h:x.sl.av.ic=true):qR R x=if x.sl.av.az then some x.sl.av else match x.s with
 |some s=>match gn R s with
  |some k=>some (.bg (1000000+k) 0 0 [])
  |none=>none
 |none=>none:=by
 unfold qR;cases hh:x.sl.av<;>rw[hh]at h<;>first|(simp[AV.ic]at h;done)|rfl
theorem Ja{R:List (Nat×SV)}{x:SR}(h:x.sl.v.ic=true):Jb R x=match x.sl.v.az with
 |true=>some x.sl.v
 |false=>match x.s with
  |some s=>match AM R s with
   |some k=>some (.bg (1000000+k) 0 0 [])
   |none=>none
  |none=>none:=by
 unfold Jb;cases hh:x.sl.v<;>rw[hh]at h<;>first|(simp[SV.ic]at h;done)|rfl
theorem Qe{R:List (Nat×SV)}{x:SR}{y:SV}(h:Jb R x=some y):qR (gX R) x.den=some y.den:=by
 cases hp:x.sl.v.ic with
 |true=>
  rw[Ja hp]at h;rw[Jc (x:=x.den) (by rw[<-hp,<-nm];rfl)];have e:x.den.sl.av=x.sl.v.den:=rfl;have e2:x.den.s=x.s:=rfl;rw[e,e2,bX];split at h
  ·rename_i hb;simp only[Option.some.injEq]at h;subst h;rw[if_pos hb]
  rename_i hb;rw[if_neg (by rw[hb];simp)];split at h<;>try(simp at h;done)
  rename_i s hs;split at h<;>try(simp at h;done)
  rename_i k hk;simp only[Option.some.injEq]at h;subst h;simp only[hs,ng,hk,SV.den]
 |false=>
  obtain⟨s,⟨v,g1,g2⟩,rt⟩:=x;cases v with
  |bg r a b p=>
   simp only[Jb]at h;simp only[qR,SR.den,Cl.den,SV.den,ng];split at h<;>try(simp at h;done)
   split at h<;>try(simp at h;done)
   rename_i hb;simp only[aH,oE,beq_iff]at hb;simp only[Option.some.injEq]at h;subst h;simp_all[SV.den]
  |ptr r a b p=>
   simp only[Jb]at h;simp only[qR,SR.den,Cl.den,SV.den,ng];split at h<;>try(simp at h;done)
   split at h<;>try(simp at h;done)
   rename_i hb;simp only[aH,oE,beq_iff]at hb;simp only[Option.some.injEq]at h;subst h;simp_all[SV.den]
  |dY g aW=>
   simp only[Jb,SV.az]at h;simp only[qR,SR.den,Cl.den,SV.den,ng,AV.az,Bool.false_eq_true,if_false];cases s<;>simp only at h<;>try(simp at h;done)
   split at h<;>try(simp at h;done)
   rename_i hk;simp only[Option.some.injEq]at h;subst h;simp only[hk,SV.den]
  |_=>simp[SV.ic]at hp
def Aq(R:List (Nat×SV)):List SR->Option (List SV)
 |[]=>some []
 |x::xs=>match Jb R x with
  |some y=>match Aq R xs with
   |some ys=>some (y::ys)
   |none=>none
  |none=>none
theorem qH{R:List (Nat×SV)}:∀{xs:List SR}{ys:List SV},Aq R xs=some ys->oS (gX R) (xs.map SR.den)=some (an ys)
 |[],ys,h=>by simp only[Aq,Option.some.injEq]at h;subst h;rfl
 |x::xs,ys,h=>by
  simp only[Aq]at h;split at h<;>try(simp at h;done)
  rename_i y hy;split at h<;>try(simp at h;done)
  rename_i KL mC;simp only[Option.some.injEq]at h;subst h;simp only[List.map_cons,oS,Qe hy,qH mC,an]
def jo:List (Nat×SV)->List SV
 |[]=>[]
 |(_,y)::R=>y::jo R
theorem sC:∀(R:List (Nat×SV)),(gX R).map (·.2)=an (jo R)
 |[]=>rfl
 |(r,y)::R=>by simp only[gX,List.map_cons,jo,an,sC R]
def Ml:List (Nat×SV)->List Nat
 |[]=>[]
 |(r,_)::R=>r::Ml R
def qq:List SV->Bool
 |[]=>true
 |x::xs=>match x.plain with
  |true=>qq xs
  |false=>false
theorem fF:∀(xs:List SV),qq xs=true->lL (an xs)=true
 |[],_=>rfl
 |x::xs,h=>by
  simp only[qq]at h;split at h<;>try(simp at h;done)
  rename_i hx;simp only[an,lL,cH,hx,fF xs h,Bool.and_self]
def RH:List (Nat×SV)->Option Nat->Bool
 |_,none=>false
 |[],_=>false
 |(r,_)::R,some d=>match Nat.beq r d with
  |true=>true
  |false=>RH R (some d)
theorem s7:∀(R:List (Nat×SV))(d:Option Nat),RH R d=false->Ft (gX R) d=false
 |[],d,h=>by cases d<;>rfl
 |(r,y)::R,none,h=>rfl
 |(r,y)::R,some d,h=>by
  simp only[RH]at h;split at h<;>try(simp at h;done)
  rename_i hb;simp only[gX,Ft];rw[if_neg (fun e=>by subst e;simp at hb),s7 R (some d) h]
structure jG where
 g:FuncId
 aas:List SV
 R:List (Nat×SV)
def pK(l:aP)(f:Operand)(aas:List Operand):Option (List Pd×jG):=
 (da l f).bind fun f=>(cz f).bind fun(ob,v)=>match v with
   |.fn (.func g) first captured=>(fg (b8 (eV first) (eV captured))).bind fun _=>(ir l aas).bind fun xs=>match de [] xs with
    |R=>(Aq R xs).bind fun ys=>(fg (Nat.ble (len first+len ys+len captured) 1000000)).bind fun _=>some (ob,⟨g,cat first (cat ys captured),R⟩)
   |_=>none
def nJ(l:aP):List (Nat×SV)->List SV->aP
 |[],_=>l
 |(r,_)::R,ys=>match ys with
  |[]=>l
  |y::ys=>match gt l r with
   |⟨_,a,b⟩=>(r,⟨y,a,b+1⟩)::nJ l R ys
theorem gO(l:aP):∀(R:List (Nat×SV))(ys:List SV),iS (dn l) (mc (gX R) (an ys))=dn (nJ l R ys)
 |[],ys=>rfl
 |(r,z)::R,[]=>rfl
 |(r,z)::R,y::ys=>by simp only[gX,an,mc,iS,nJ,dC,gO l R ys,Cl.den,wL,Kk]
def fL(l:aP)(dst:Option Nat)(R:List (Nat×SV))(out:List SV)(r:SV):Option (aP×List Nat):=
 match b8 (Nat.beq (len R) (len out)) (b8 (qq (jo R)) (b8 (qq out) (b8 r.plain (not' (RH R dst)))))with
 |false=>none
 |true=>match dst with
  |none=>some (nJ l R out,Ml R)
  |some d=>pF (nJ l R out) [] d r fun l'=>some (l',cat (Ml R) [d])
theorem lS:∀(R:List (Nat×SV))(ys:List SV),len R=len ys->(mc (gX R) (an ys)).map (·.1)=Ml R
 |[],ys,_=>by cases ys<;>rfl
 |(r,z)::R,[],h=>by simp[dA]at h
 |(r,z)::R,y::ys,h=>by simp only[dA,List.length_cons,Nat.add_right_cancel_iff]at h;simp only[gX,an,mc,List.map_cons,Ml];rw[lS R ys (by simpa[dA]using h)]
theorem zT(R:List (Nat×SV)):(gX R).length=R.length:=by
 induction R with
 |nil=>rfl
 |cons q R ih=>obtain⟨r,y⟩:=q;simp[gX,ih]
theorem WJ{dst:Option Nat}{f:Operand}{aas:List Operand}{ob:List Pd}{h:jG}{out:List SV}{r:SV}{l':aP}{ks:List Nat}(hh:pK l f aas=some (ob,h))(ho:ae ob)(ht:fL l dst h.R out r=some (l',ks)):
 ∃ms,Ai.rr dst (resolve (dn l) f) (aas.map (resolve (dn l))) (an out) r.den=some (ms,[.refs h.g (an (jo h.R)) (an h.aas) (an out) r.den])/\Mv.runs (dn l) ms=some (dn l')/\aN ms=ks:=by
 simp only[pK,Option.bind_eq_some_iff,Prod.exists]at hh;obtain⟨x,h1,ob0,v,h2,h3⟩:=hh;cases v<;>try(simp at h3;done)
 rename_i fn first captured
 cases fn<;>try(simp at h3;done)
 rename_i g;simp only[Option.bind_eq_some_iff,bd,aH,Option.some.injEq,Prod.mk.injEq]at h3;obtain⟨_,⟨h4,h5⟩,xs,h6,ys,h7,_,h8,rfl,rfl⟩:=h3;have hf:x.den.cont=some (.fn (.func g) (an first) (an captured)):=aw h2 ho;simp only[fL]at ht;split at ht<;>try(simp at ht;done)
 rename_i hb;simp only[aH,beq_iff,not_iff]at hb;obtain⟨b1,b2,b3,b4,b5⟩:=hb;have e1:cL [] (aas.map (resolve (dn l)))=gX (de [] xs):=by rw[dF l h6];exact js [] xs
 have e2:oS (gX (de [] xs)) (aas.map (resolve (dn l)))=some (an ys):=by rw[dF l h6];exact qH h7
 have F5:Ai.rr dst (resolve (dn l) f) (aas.map (resolve (dn l))) (an out) r.den=some (cw dst r.den [.back (mc (gX (de [] xs)) (an out))],[.refs g (an (jo (de [] xs))) (an (cat first (cat ys captured))) (an out) r.den]):=by
  unfold Ai.rr;rw[cD h1,hf];simp only[cZ,h4,h5,Bool.and_self,if_true,e1,e2,sC];rw[if_pos]
  ·simp[ee,bx]
  simp only[fF _ b2,fF _ b3,cH,b4,s7 _ _ b5,zT,bt,Bool.not_false,Bool.and_self,Bool.and_true,Bool.true_and,Bool.and_eq_true,decide_eq_true_eq];have:=Nat.le_of_ble_eq_true h8;simp only[dA]at this b1;exact⟨b1,this⟩
 refine⟨_,F5,?_⟩;cases dst with
 |none=>simp only[Option.some.injEq,Prod.mk.injEq]at ht;obtain⟨rfl,rfl⟩:=ht;exact⟨by simp only[cw,Mv.runs,Mv.run,gO],by simp only[cw,aN,Mv.keys,List.append_nil];exact lS _ _ b1⟩
 |some d=>simp only[eE,Option.some.injEq,Prod.mk.injEq]at ht;obtain⟨rfl,rfl⟩:=ht;exact⟨by simp only[cw,List.cons_append,List.nil_append,Mv.runs,Mv.run,gO,gm],by simp only[cw,List.cons_append,List.nil_append,aN,Mv.keys,List.append_nil,ee];rw[lS _ _ b1]⟩
theorem CM{all:Array Oper}{dst:Option Nat}{f:Operand}{aas ts:Array _}{ty:TypeId}{pos:String}{cF:Array Edge}{g:Option (Nat×Bool)}{K:List Mv->St->Prop}{ob:List Pd}{h:jG}{out:List SV}{r:SV}{l':aP}{ks:List Nat}
 (hg:cK l all.toList g=some true)(hh:pK l f aas.toList=some (ob,h))(ho:ae ob)(hs:jH P h.g (jo h.R) h.aas out r)(ht:fL l dst h.R out r=some (l',ks))(hk:∀ms,aN ms=ks->K ms (dn l')):
 Hj P all ⟨dst,.call ⟨.value f,aas,ts⟩,ty,pos,cF,g⟩ (dn l) K:=by
 obtain⟨ms,h1,h2,h3⟩:=WJ hh ho ht;refine⟨.refs (an out) r.den,ms,[.refs h.g (an (jo h.R)) (an h.aas) (an out) r.den],dn l',?_,?_,h2,hk ms h3⟩
 ·unfold dN;rw[dc (o:=⟨dst,.call ⟨.value f,aas,ts⟩,ty,pos,cF,g⟩) hg];simp only[kl];exact h1
 simp only[List.mem_singleton,forall_eq,Ob.ok];exact hs
theorem MA{all:Array Oper}{rest:List Oper}{dst:Option Nat}{f:Operand}{aas ts:Array _}{ty:TypeId}{pos:String}{cF:Array Edge}{g:Option (Nat×Bool)}{ob:List Pd}{h:jG}{out:List SV}{r:SV}{l':aP}{ks:List Nat}
 (hg:cK l all.toList g=some true)(hh:pK l f aas.toList=some (ob,h))(ho:ae ob)(hs:jH P h.g (jo h.R) h.aas out r)(ht:fL l dst h.R out r=some (l',ks))(hk:AK R P N F (.ops all rest::k) l'):
 AK R P N F (.ops all (⟨dst,.call ⟨.value f,aas,ts⟩,ty,pos,cF,g⟩::rest)::k) l:=by
 show rp P _ _ _ _;rw[jJ];exact CM hg hh ho hs ht fun ms _=>hk
theorem I5{all:Array Oper}{mm:List Nat}{acc:List (List Nat×List Nat)}{rest:List Oper}{dst:Option Nat}{f:Operand}{aas ts:Array _}{ty:TypeId}{pos:String}{cF:Array Edge}{g:Option (Nat×Bool)}{ob:List Pd}{h:jG}{out:List SV}{r:SV}{l':aP}{ks:List Nat}
 (hg:cK l all.toList g=some true)(hh:pK l f aas.toList=some (ob,h))(ho:ae ob)(hs:jH P h.g (jo h.R) h.aas out r)(ht:fL l dst h.R out r=some (l',ks))
 (hk:AK R P N F (.o4 all mm rest ((gW (dn l) all ⟨dst,.call ⟨.value f,aas,ts⟩,ty,pos,cF,g⟩,ks)::acc)::k) l'):
 AK R P N F (.o4 all mm (⟨dst,.call ⟨.value f,aas,ts⟩,ty,pos,cF,g⟩::rest) acc::k) l:=by
 show rt P _ _ _ _ _;rw[nX];exact CM hg hh ho hs ht fun ms kr=>by rw[kr];exact hk
def Px(tt:TT)(l:aP)(d:Nat)(t:TypeId)(x:SR)(lo hi:Option SR):mb:=
 (slice? tt t).bind fun e=>(CB tt e).bind fun ti=>(cz x).bind fun(ob,v)=>(ns v).bind fun(sz,n)=>(fg (b8 (gT v) (Nat.beq sz ti.size))).bind fun _=>(zW 0 0 v).bind fun _=>
   (mS lo 0).bind fun(mw,a)=>(mS hi n).bind fun(nk,b)=>(rN x).bind fun(r,g1,_,p)=>(fg (ne' r d)).bind fun _=>cj ((a<b)::(b<=n)::app ob (app mw nk)) l d (.bg r g1 (match x.sl.v with|.bg .. =>x.rt.g2|_=>x.sl.g2) (p++[.jI sz a (b-a)]))
theorem Gs(hA:bK P tt)(d:Nat)(t:TypeId)(x:SR)(lo hi:Option SR):cn l (M7 P d t x.den (lo.map SR.den) (hi.map SR.den)) (Px tt l d t x lo hi):=by
 unfold Px;refine ag _ fun e h1=>ag _ fun ti h2=>ag _ fun⟨ob,v⟩h3=>ag _ fun⟨sz,n⟩h4=>aY fun h5=>ag _ fun z h6=>ag _ fun⟨mw,a⟩h7=>ag _ fun⟨nk,b⟩h8=>ag _ fun⟨r,g1,g2,p⟩h9=>aY fun Sp=>KD _ _ fun c=>?_
 obtain⟨k1,k2,c⟩:=c;obtain⟨c0,c⟩:=aJ.1 c;obtain⟨c1,c2⟩:=aJ.1 c;rw[aH,beq_iff]at h5;obtain⟨f,X,e1,e2⟩:=jy h4;obtain⟨W4,X2,q1,-⟩:=GN h6;rw[e1]at q1;simp only[AV.list.injEq]at q1;obtain⟨rfl,rfl,rfl⟩:=q1;have hc:=aw h3 c0;rw[e1,h5.1]at hc;have hb:=db h8 c2;rw[<-e2]at hb;have ct:sz=ti.den.size:=h5.2;have YZ:bo.gen x.den=match x.sl.v with|.bg .. =>x.rt.g2|_=>x.sl.g2:=by obtain⟨s,⟨v,g1,g2⟩,rt⟩:=x;cases v<;>rfl
 unfold M7;simp only[sE hA h1,jn hA h2,hc,fl,db h7 c1,hb,lM,h9,YZ];rw[if_pos ⟨ct,k1,by rw[e2];exact k2⟩,if_neg (ne_iff.1 Sp)]
def ve(tt:TT)(l:aP)(d:Nat)(t:TypeId)(x:Operand)(a b:Option Operand):mb:=(da l x).bind fun x=>(ev.C2 l a).bind fun a=>(ev.C2 l b).bind fun b=>Px tt l d t x a b
theorem NA(hA:bK P tt){all:Array Oper}{d:Nat}{t:TypeId}{x:Operand}{lo hi:Option Operand}{ty:TypeId}{pos:String}{cF:Array Edge}{g:Option (Nat×Bool)}{K:List Mv->St->Prop}{ob:List Pd}{l':aP}{ks:List Nat}
 (hg:cK l all.toList g=some true)(h:ve tt l d t x lo hi=some (ob,l',ks))(ho:ae ob)(hk:∀ms,aN ms=ks->K ms (dn l')):
 Hj P all ⟨some d,.slice t x lo hi none,ty,pos,cF,g⟩ (dn l) K:=by
 simp only[ve,Option.bind_eq_some_iff]at h;obtain⟨x',h1,a',h2,b',h3,h4⟩:=h;obtain⟨ms,m1,m2,m3⟩:=Gs hA d t x' a' b' ob l' ks h4 ho;refine⟨.jI,ms,[],dn l',?_,by simp,m2,hk ms m3⟩;unfold dN;rw[dc (o:=⟨some d,.slice t x lo hi none,ty,pos,cF,g⟩) hg];simp only[kl,cD h1,yn h2,yn h3,m1]
theorem aa4(hA:bK P tt){all:Array Oper}{rest:List Oper}{d:Nat}{t:TypeId}{x:Operand}{lo hi:Option Operand}{ty:TypeId}{pos:String}{cF:Array Edge}{g:Option (Nat×Bool)}{ob:List Pd}{l':aP}{ks:List Nat}
 (hg:cK l all.toList g=some true)(h:ve tt l d t x lo hi=some (ob,l',ks))(ho:ae ob)(hk:AK R P N F (.ops all rest::k) l'):
 AK R P N F (.ops all (⟨some d,.slice t x lo hi none,ty,pos,cF,g⟩::rest)::k) l:=by
 show rp P _ _ _ _;rw[jJ];exact NA hA hg h ho fun ms _=>hk
theorem nV{c:Code}{r:Nat}{p:Path}{ob:List Pd}{l':aP}(hp:(gt l r).v.plain=true)(h:po l r p=some (ob,l'))(ho:ae ob)(hk:AK R P N F (.code c::k) l'):AK R P N F (.code c::k) l:=by
 intro V w0 S0 a w hR hi;refine hk V w0 S0 a w hR ?_;have hr:=jq h ho;simp only[Mv.run]at hr;split at hr
 ·rename_i y hg;split at hr
  ·rename_i av' hs;simp only[Option.some.injEq]at hr;rw[<-hr];obtain⟨S,F,hc,hN,ig,jl,gw,cU⟩:=hi;obtain⟨L,z,F1,F',k1,k2,k3,k4,k5⟩:=hc.share r p (by rw[cQ,cH];exact hp) hg hs;have dz:∀b∈F1,bW V w0 b:=fun b hb=>(hc.own r b (k5 b hb)).1;exact⟨_,_,k4,hN,ig,fun b hb=>.inl (jl b hb),fun b hb=>hb.elim (gw b) (fun hb=>.inr (dz b hb)),cU⟩
  simp at hr
 simp at hr
end
section
variable{R:Option Nat->Prop}{P:Program}{N:Nat}{F:St->Prop}{k:List It}{l:aP}
def u5:List SR->Option (List Pd×List SV)
 |[]=>some ([],[])
 |x::xs=>(cz x).bind fun(ob,y)=>(fg y.az).bind fun _=>(u5 xs).bind fun(c9,ys)=>some (app ob c9,y::ys)
theorem rV:∀{xs:List SR}{ob:List Pd}{ys:List SV},u5 xs=some (ob,ys)->ae ob->rk (xs.map SR.den)=some (an ys)
 |[],ob,ys,h,_=>by simp only[u5,Option.some.injEq,Prod.mk.injEq]at h;obtain⟨rfl,rfl⟩:=h;rfl
 |x::xs,ob,ys,h,hc=>by simp only[u5,Option.bind_eq_some_iff,bd,Prod.exists,Option.some.injEq,Prod.mk.injEq]at h;obtain⟨mw,y,h1,_,h2,nk,KL,h3,rfl,rfl⟩:=h;obtain⟨c1,c2⟩:=aJ.1 hc;simp only[List.map_cons,rk,aw h1 c1,bX,h2,if_true,rV h3 c2,an]
structure Hg where
 C:Value->Prop
 J:o7
 aas:List SV
def FY(l:aP)(f:Operand)(aas:List Operand):Option (List Pd×Hg):=
 (da l f).bind fun x=>match x.sl.v with
   |.pv C=>match(gt l 1000000).v with
    |.abs J=>(ir l aas).bind fun xs=>(u5 xs).bind fun(ob,ys)=>some (ob,⟨C,J,ys⟩)
    |_=>none
   |_=>none
def Br(l:aP)(dst:Option Nat)(J':o7)(b:Bool):Option (aP×List Nat):=
 match dst with
 |none=>some (nJ l [(1000000,.dead)] [.abs J'],[1000000])
 |some d=>pF (nJ l [(1000000,.dead)] [.abs J']) [] d (.u b) fun l'=>some (l',[1000000,d])
theorem Nz{all:Array Oper}{dst:Option Nat}{f:Operand}{aas ts:Array _}{ty:TypeId}{pos:String}{cF:Array Edge}{g:Option (Nat×Bool)}{K:List Mv->St->Prop}{ob:List Pd}{h:Hg}{J':o7}{b:Bool}{l':aP}{ks:List Nat}
 (hg:cK l all.toList g=some true)(hh:FY l f aas.toList=some (ob,h))(ho:ae ob)(hs:∀v,h.C v->Yields P h.J J' (an h.aas) b v)(ht:Br l dst J' b=some (l',ks))(hk:∀ms,aN ms=ks->K ms (dn l')):
 Hj P all ⟨dst,.call ⟨.value f,aas,ts⟩,ty,pos,cF,g⟩ (dn l) K:=by
 simp only[FY,Option.bind_eq_some_iff]at hh;obtain⟨x,h1,h2⟩:=hh;split at h2<;>try(simp at h2;done)
 rename_i C hC;split at h2<;>try(simp at h2;done)
 rename_i J hJ;simp only[Option.bind_eq_some_iff,Prod.exists,Option.some.injEq,Prod.mk.injEq]at h2;obtain⟨xs,h3,c9,ys,h4,rfl,rfl⟩:=h2;have e1:(resolve (dn l) f).sl.av=.pv C:=by rw[cD h1];show x.sl.v.den=_;rw[hC];rfl
 have e2:(dn l 1000000).av=.abs J:=by rw[cQ,hJ];rfl
 have e3:rk (aas.toList.map (resolve (dn l)))=some (an ys):=by rw[dF l h3];exact rV h4 ho
 have hb:iS (dn l) [(1000000,.abs J')]=dn (nJ l [(1000000,.dead)] [.abs J']):=gO l [(1000000,.dead)] [.abs J'];have VN:kl P (dn l) ⟨dst,.call ⟨.value f,aas,ts⟩,ty,pos,cF,g⟩ (.M4 J' b)=some (cw dst (.v (.bool b)) [.back [(1000000,.abs J')]],[.M4 C J J' (an ys) b]):=by simp only[kl,e1,e2,e3]
 have kr:Mv.runs (dn l) (cw dst (.v (.bool b)) [.back [(1000000,.abs J')]])=some (dn l')/\aN (cw dst (.v (.bool b)) [.back [(1000000,AV.abs J')]])=ks:=by
  cases dst with
  |none=>simp only[Br,Option.some.injEq,Prod.mk.injEq]at ht;obtain⟨rfl,rfl⟩:=ht;exact⟨by simp only[cw,Mv.runs,Mv.run,hb],by simp[cw,aN,Mv.keys]⟩
  |some d=>simp only[Br,eE,Option.some.injEq,Prod.mk.injEq]at ht;obtain⟨rfl,rfl⟩:=ht;refine⟨?_,by simp[cw,aN,Mv.keys]⟩;have:=gm (nJ l [(1000000,.dead)] [.abs J']) [] d (.u b);simp only[cw,List.cons_append,List.nil_append,Mv.runs,Mv.run,hb];exact congrArg some this
 refine⟨.M4 J' b,_,[.M4 C J J' (an ys) b],dn l',?_,?_,kr.1,hk _ kr.2⟩
 ·unfold dN;rw[dc (o:=⟨dst,.call ⟨.value f,aas,ts⟩,ty,pos,cF,g⟩) hg];exact VN
 simp only[List.mem_singleton,forall_eq,Ob.ok];exact hs
theorem Uv{all:Array Oper}{rest:List Oper}{dst:Option Nat}{f:Operand}{aas ts:Array _}{ty:TypeId}{pos:String}{cF:Array Edge}{g:Option (Nat×Bool)}{ob:List Pd}{h:Hg}{J':o7}{b:Bool}{l':aP}{ks:List Nat}
 (hg:cK l all.toList g=some true)(hh:FY l f aas.toList=some (ob,h))(ho:ae ob)(hs:∀v,h.C v->Yields P h.J J' (an h.aas) b v)(ht:Br l dst J' b=some (l',ks))(hk:AK R P N F (.ops all rest::k) l'):
 AK R P N F (.ops all (⟨dst,.call ⟨.value f,aas,ts⟩,ty,pos,cF,g⟩::rest)::k) l:=by
 show rp P _ _ _ _;rw[jJ];exact Nz hg hh ho hs ht fun ms _=>hk
theorem M5{all:Array Oper}{mm:List Nat}{acc:List (List Nat×List Nat)}{rest:List Oper}{dst:Option Nat}{f:Operand}{aas ts:Array _}{ty:TypeId}{pos:String}{cF:Array Edge}{g:Option (Nat×Bool)}{ob:List Pd}{h:Hg}{J':o7}{b:Bool}{l':aP}{ks:List Nat}
 (hg:cK l all.toList g=some true)(hh:FY l f aas.toList=some (ob,h))(ho:ae ob)(hs:∀v,h.C v->Yields P h.J J' (an h.aas) b v)(ht:Br l dst J' b=some (l',ks))
 (hk:AK R P N F (.o4 all mm rest ((gW (dn l) all ⟨dst,.call ⟨.value f,aas,ts⟩,ty,pos,cF,g⟩,ks)::acc)::k) l'):
 AK R P N F (.o4 all mm (⟨dst,.call ⟨.value f,aas,ts⟩,ty,pos,cF,g⟩::rest) acc::k) l:=by
 show rt P _ _ _ _ _;rw[nX];exact Nz hg hh ho hs ht fun ms kr=>by rw[kr];exact hk
structure Qq where
 g:FuncId
 C:Value->Prop
 J:o7
 aas:List SV
def O7(l:aP)(f:Operand)(aas:List Operand):Option (List Pd×Qq):=
 match aas with
 |[]=>none
 |x::xs=>(da l x).bind fun z=>match z.sl.v with
  |.pv C=>(da l f).bind fun q=>(cz q).bind fun(ob0,y)=>match y with
   |.fn (.func g) [] []=>match(gt l 1000000).v with
    |.abs J=>(ir l xs).bind fun us=>(u5 us).bind fun(ob,ys)=>some (app ob0 ob,⟨g,C,J,ys⟩)
    |_=>none
   |_=>none
  |_=>none
def Js(l:aP)(dst:Option Nat)(J':o7)(r:SV):Option (aP×List Nat):=
 match dst with
 |none=>some (nJ l [(1000000,.dead)] [.abs J'],[1000000])
 |some d=>pF (nJ l [(1000000,.dead)] [.abs J']) [] d r fun l'=>some (l',[1000000,d])
theorem UR{all:Array Oper}{dst:Option Nat}{f:Operand}{aas ts:Array _}{ty:TypeId}{pos:String}{cF:Array Edge}{g:Option (Nat×Bool)}{K:List Mv->St->Prop}{ob:List Pd}{h:Qq}{J':o7}{r:SV}{l':aP}{ks:List Nat}
 (hg:cK l all.toList g=some true)(hh:O7 l f aas.toList=some (ob,h))(ho:ae ob)(hs:Qp P h.g h.C h.J J' (an h.aas) r.den)(ht:Js l dst J' r=some (l',ks))(hk:∀ms,aN ms=ks->K ms (dn l')):
 Hj P all ⟨dst,.call ⟨.value f,aas,ts⟩,ty,pos,cF,g⟩ (dn l) K:=by
 unfold O7 at hh;split at hh<;>try(simp at hh;done)
 rename_i x xs fb;simp only[Option.bind_eq_some_iff]at hh;obtain⟨z,h1,h2⟩:=hh;split at h2<;>try(simp at h2;done)
 rename_i C hC;simp only[Option.bind_eq_some_iff,Prod.exists]at h2;obtain⟨q,h5,ob0,y,h6,h2⟩:=h2;split at h2<;>try(simp at h2;done)
 rename_i gf;split at h2<;>try(simp at h2;done)
 rename_i J hJ;simp only[Option.bind_eq_some_iff,Prod.exists,Option.some.injEq,Prod.mk.injEq]at h2;obtain⟨us,h3,c9,ys,h4,rfl,rfl⟩:=h2;obtain⟨c1,c2⟩:=aJ.1 ho;have e1:(resolve (dn l) x).sl.av=.pv C:=by rw[cD h1];show z.sl.v.den=_;rw[hC];rfl
 have e2:(dn l 1000000).av=.abs J:=by rw[cQ,hJ];rfl
 have e3:rk (xs.map (resolve (dn l)))=some (an ys):=by rw[dF l h3];exact rV h4 c2
 have e4:(resolve (dn l) f).cont=some (.fn (.func gf) [] []):=by rw[cD h5];exact aw h6 c1
 have hb:iS (dn l) [(1000000,.abs J')]=dn (nJ l [(1000000,.dead)] [.abs J']):=gO l [(1000000,.dead)] [.abs J'];have VN:kl P (dn l) ⟨dst,.call ⟨.value f,aas,ts⟩,ty,pos,cF,g⟩ (.Oa J' r.den)=some (cw dst r.den [.back [(1000000,.abs J')]],[.Oa gf C J J' (an ys) r.den]):=by simp only[kl,fb,e1,e2,e3,e4]
 have kr:Mv.runs (dn l) (cw dst r.den [.back [(1000000,.abs J')]])=some (dn l')/\aN (cw dst r.den [.back [(1000000,AV.abs J')]])=ks:=by
  cases dst with
  |none=>simp only[Js,Option.some.injEq,Prod.mk.injEq]at ht;obtain⟨rfl,rfl⟩:=ht;exact⟨by simp only[cw,Mv.runs,Mv.run,hb],by simp[cw,aN,Mv.keys]⟩
  |some d=>simp only[Js,eE,Option.some.injEq,Prod.mk.injEq]at ht;obtain⟨rfl,rfl⟩:=ht;refine⟨?_,by simp[cw,aN,Mv.keys]⟩;have:=gm (nJ l [(1000000,.dead)] [.abs J']) [] d r;simp only[cw,List.cons_append,List.nil_append,Mv.runs,Mv.run,hb];exact congrArg some this
 refine⟨.Oa J' r.den,_,[.Oa gf C J J' (an ys) r.den],dn l',?_,?_,kr.1,hk _ kr.2⟩
 ·unfold dN;rw[dc (o:=⟨dst,.call ⟨.value f,aas,ts⟩,ty,pos,cF,g⟩) hg];exact VN
 simp only[List.mem_singleton,forall_eq,Ob.ok];exact hs
theorem Og{all:Array Oper}{rest:List Oper}{dst:Option Nat}{f:Operand}{aas ts:Array _}{ty:TypeId}{pos:String}{cF:Array Edge}{g:Option (Nat×Bool)}{ob:List Pd}{h:Qq}{J':o7}{r:SV}{l':aP}{ks:List Nat}
 (hg:cK l all.toList g=some true)(hh:O7 l f aas.toList=some (ob,h))(ho:ae ob)(hs:Qp P h.g h.C h.J J' (an h.aas) r.den)(ht:Js l dst J' r=some (l',ks))(hk:AK R P N F (.ops all rest::k) l'):
 AK R P N F (.ops all (⟨dst,.call ⟨.value f,aas,ts⟩,ty,pos,cF,g⟩::rest)::k) l:=by
 show rp P _ _ _ _;rw[jJ];exact UR hg hh ho hs ht fun ms _=>hk
end
theorem jZ{f:Nat->List Nat}:∀n,((List.range n).flatMap f).Nodup↔(∀j,j<n->(f j).Nodup)/\∀i j,i<n->j<n->i≠j->∀c∈f i,c∉f j
 |0=>by simp
 |n+1=>by
  rw[List.range_succ,List.flatMap_append,List.nodup_append,jZ n];have e:[n].flatMap f=f n:=by simp
  rw[e];constructor
  ·rintro⟨⟨h1,h2⟩,h3,h4⟩;have hx:∀j,j<n->∀c∈f j,c∉f n:=fun j hj c hc bT=>h4 c (List.mem_flatMap.2 ⟨j,List.mem_range.2 hj,hc⟩) c bT rfl;refine⟨fun j hj=>?_,fun i j hi hj fX c hc bT=>?_⟩
   ·rcases Nat.lt_or_ge j n with h|h
    ·exact h1 j h
    have:j=n:=by omega
    subst this;exact h3
   rcases Nat.lt_or_ge i n with h|h<;>rcases Nat.lt_or_ge j n with h'|h'
   ·exact h2 i j h h' fX c hc bT
   ·have:j=n:=by omega
    subst this;exact hx i h c hc bT
   ·have:i=n:=by omega
    subst this;exact hx j h' c bT hc
   omega
  rintro⟨h1,h2⟩;refine⟨⟨fun j hj=>h1 j (by omega),fun i j hi hj fX=>h2 i j (by omega) (by omega) fX⟩,h1 n (by omega),fun c hc c' bT e=>?_⟩;subst e;obtain⟨j,hj,hcj⟩:=List.mem_flatMap.1 hc;have:=List.mem_range.1 hj;exact h2 j n (by omega) (by omega) (by omega) c hcj bT
def qK(fn:FuncId)(tmps:Array Value)(ps:Array Tmp)(assign body:Code)(D:Nat)(pe:Option Code):Loop:={state:=if pe.isNone then .ready else .done,pending:=pe,fn,tmps,params:=ps,assign,body,defers:=D}
def Jr(cs:List (AV×Value))(ex:List Nat)(T:Nat->Value)(l D:Nat)(r:Option Code->Loop)(pe:Option Code)(y:List AV):o7:=fun w S F=>
 ∃FF:Nat->List Nat,F.Perm (D::l::(List.range ex.length).flatMap FF)/\(∀(j:Nat)(v:AV),y[j]?=some v->j<ex.length->Rel w S v (T (ex.getD j 0)) (FF j))/\
  (∀q∈cs,Rel w S q.1 q.2 [])/\w.heap[l]?=some (.loop (r pe))/\w.heap[D]?=some (.deferred (some []))
theorem Jr.closed{cs:List (AV×Value)}{ex:List Nat}{T:Nat->Value}{l D:Nat}{r:Option Code->Loop}{pe:Option Code}{y:List AV}{w:World}{S:Nat->Prop}{F:List Nat}(h:Jr cs ex T l D r pe y w S F):o7.here (Jr cs ex T l D r pe y) w S F:=by
 intro w' S' h1 h2;obtain⟨FF,hp,hr,pL,hl,hD⟩:=h;have hm:∀c,c∈F↔c∈D::l::(List.range ex.length).flatMap FF:=fun c=>hp.mem_iff;refine⟨FF,hp,fun j v hv hj=>?_,fun q hq=>Rel.mono h2 _ (Rel.frame _ (pL q hq) fun b hb=>h1 b (.inl (by simpa using hb))),?_,?_⟩
 ·refine Rel.mono h2 _ (Rel.frame _ (hr j v hv hj) fun b hb=>h1 b (hb.imp id fun hb=>(hm b).2 ?_));simp only[List.mem_cons,List.mem_flatMap,List.mem_range];exact .inr (.inr ⟨j,hj,hb⟩)
 ·rw[h1 l (.inr ((hm l).2 (by simp)))];exact hl
 rw[h1 D (.inr ((hm D).2 (by simp)))];exact hD
def ZK(y':List AV)(b:Bool)(jump:Option Code):Exit->St->Prop:=fun e σ=>
 (match e with
   |.normal=>b=true/\jump=none
   |.ret=>b=false/\jump=some .ret
   |.exit id=>b=false/\jump=some (.exit id)
   |_=>False)/\∀(j:Nat)(v:AV),y'[j]?=some v->(σ (1000000+j)).av=v/\v.plain=true
section
variable{P:Program}{N:Nat}
theorem aK.UD{S B:Nat->Prop}{σ:St}{T:Nat->Value}{w w':World}{F:Nat->List Nat}(h:aK S B σ T w F)(hs:w'.heap.size=w.heap.size)(hr:∀b,(S b\/∃i,b∈F i)->w'.heap[b]?=w.heap[b]?):aK S B σ T w' F:=
 h.step (w':=w') (S':=S) ⟨fun _=>Nat.le_refl _,fun _=>Nat.le_refl _,fun _ _=>rfl,fun _ _ _=>⟨fun _ y hy=>⟨y,hy⟩,fun b hb=>hr b (hb.imp id fun hb=>⟨_,hb⟩)⟩⟩ (fun _ h=>h)
  (fun i=>.inl ⟨rfl,rfl,rfl,fun b hb=>hr b (hb.imp id fun hb=>⟨i,hb⟩)⟩) h.nodup h.cx (fun i b hb=>by rw[hs];exact h.own i b hb) (fun b hb=>by rw[hs];exact h.shr b hb)
theorem CP(hN:N<=1000000){fn:FuncId}{tmps:Array Value}{ps:Array Tmp}{assign body:Code}{l D:Nat}{cs:List (AV×Value)}{ex:List Nat}{T:Nat->Value}{y y' x:List AV}{b:Bool}{jump:Option Code}{σB:St}
 (ht:tmps.size=N)(hx:x.length=ps.size)(AF:y'.length=ex.length)
 (Ii:∀(w:World)(S:Nat->Prop)(FF:Nat->List Nat)(vs:List Value)(V:Hid),(∀q∈cs,Rel w S q.1 q.2 [])->(∀(j:Nat)(v:AV),y[j]?=some v->j<ex.length->Rel w S v (T (ex.getD j 0)) (FF j))->
   (∀j,j<ex.length->(FF j).Nodup)->(∀i j,i<ex.length->j<ex.length->i≠j->∀c∈FF i,c∉FF j)->(∀j,j<ex.length->∀c∈FF j,c<w.heap.size/\¬S c)->(∀c,S c->c<w.heap.size)->Cells w S false x vs []->
   V.v=(fun i=>T (ex.getD (i-1000000) 0))->(∀j,j<ex.length->∀c∈FF j,V.g c)->
   aK S (bW V w) σB (tv V {tmps:=(ps.zip vs.toArray).foldl (fun tmps(t,a)=>tmps.setIfInBounds t a) tmps,defers:=[]}) w (fun i=>if 1000000<=i/\i-1000000<ex.length then FF (i-1000000)else[]))
 (FZ:AW R1 P N assign (fun e σ1=>e=.normal/\AW R1 P N body (ZK y' b jump) σ1) σB):
 Yields P (Jr cs ex T l D (qK fn tmps ps assign body D) none y) (Jr cs ex T l D (qK fn tmps ps assign body D) jump y') x b (.func (.yield l) #[] #[]):=by
 refine⟨l,rfl,fun rd w S F vs hLd hNT hJ AG hF hS fb=>?_⟩;obtain⟨FF,hp,eH,pL,hl,hD⟩:=hJ w S (fun _ _=>rfl) (fun _ h=>h);have hm:∀c,c∈F↔c∈D::l::(List.range ex.length).flatMap FF:=fun c=>hp.mem_iff;have VS:=hp.nodup_iff.1 AG;obtain⟨hD1,VR⟩:=List.nodup_cons.1 VS;obtain⟨YS,VQ⟩:=List.nodup_cons.1 VR;have YR:l≠D:=fun e=>hD1 (by simp[e]);have FQ:∀j,j<ex.length->∀c∈FF j,c∈(List.range ex.length).flatMap FF:=fun j hj c hc=>List.mem_flatMap.2 ⟨j,List.mem_range.2 hj,hc⟩;have YQ:l∈F:=(hm l).2 (by simp);have hDF:D∈F:=(hm D).2 (by simp);have hFF:∀j,j<ex.length->∀c∈FF j,c∈F:=fun j hj c hc=>(hm c).2 (by simp only[List.mem_cons];exact .inr (.inr (FQ j hj c hc)));have Dk:=Cells.length fb;refine⟨_,_,_,_,run_yield hl (by show vs.toArray.size=ps.size;simp;omega),roundIn_of_wpIn trivial ?_⟩;obtain⟨a1,QH⟩:∃a1:Act,a1={tmps:=(ps.zip vs.toArray).foldl (fun tmps(t,a)=>tmps.setIfInBounds t a) tmps,defers:=[]}:=⟨_,rfl⟩;obtain⟨VB,QI⟩:∃VB:Hid,VB={v:=fun i=>T (ex.getD (i-1000000) 0),g:=fun c=>∃j,j<ex.length/\c∈FF j,rd:=some l,df:=[]}:=⟨_,rfl⟩;have hg:∀c,VB.g c->c∈F/\c∈(List.range ex.length).flatMap FF:=by rw[QI];rintro c⟨j,hj,hc⟩;exact⟨hFF j hj c hc,FQ j hj c hc⟩
 have R9:¬VB.g l:=fun h=>YS (hg l h).2;have hgD:¬VB.g D:=fun h=>hD1 (by simp[(hg D h).2]);obtain⟨OX,O9⟩:=(jZ ex.length).1 VQ;have B5:=Ii w S FF vs VB pL eH OX O9 (fun j hj c hc=>hF c (hFF j hj c hc)) hS fb (by rw[QI]) (fun j hj c hc=>by rw[QI];exact⟨j,hj,hc⟩);rw[<-QH]at B5;have abF:a1.tmps.size=N:=by
  rw[QH];show((ps.zip vs.toArray).foldl (fun tmps(t,a)=>tmps.setIfInBounds t a) tmps).size=N;rw[<-ht];have:∀(q:List (Tmp×Value))(t:Array Value),(q.foldl (fun tmps p=>tmps.setIfInBounds p.1 p.2) t).size=t.size:=by
   intro q
   induction q with
   |nil=>intro t;rfl
   |cons p q ih=>intro t;simp only[List.foldl_cons];rw[ih];simp
  rw[<-Array.foldl_toList];exact this _ tmps
 have hinv:Inv N VB w S σB a1 w:=⟨S,_,B5,abF,by rw[QH,QI],fun _ h=>h,fun _ h=>.inl h,jF.refl _ _⟩;have ue:VB.rd=some l:=by rw[QI]
 have hA:=FZ VB w S a1 w ⟨trivial,hLd,hNT.mono fun b hb=>(hg b hb).1⟩ hinv;rw[ue,QH]at hA;refine wpIn_mono hA ?_;rintro e a2 w2⟨σ1,⟨rfl,h1⟩,S2,F2,ds2,ug,Xv,agK,jl,gw,O2,hm2⟩;have VU:l<w.heap.size:=(Array.getElem?_eq_some_iff.1 hl).1;have hDw:D<w.heap.size:=(Array.getElem?_eq_some_iff.1 hD).1;have fS:∀c,c<w.heap.size->¬VB.g c->¬bW VB w c:=fun c h h' hh=>hh.elim (fun hh=>by omega) h';have Ir:w2.heap[l]?=some (.loop (qK fn tmps ps assign body D none)):=by rw[O2.block l VU R9];exact hl
 have YO:¬S2 l:=fun h=>(gw l h).elim (hF l YQ).2 (fS l VU R9);have ab3:∀i,l∉F2 i:=fun i h=>fS l VU R9 (ug.own i l h).1;have abZ:l<w2.heap.size:=(Array.getElem?_eq_some_iff.1 Ir).1;refine⟨_,run_beginRound Ir (by simp[qK]),?_⟩;obtain⟨w3,Vs⟩:∃w3,w3=w2.putObj l (.loop {qK fn tmps ps assign body D none with state:=.busy}):=⟨_,rfl⟩;rw[<-Vs];have h3s:w3.heap.size=w2.heap.size:=by rw[Vs];simp[World.putObj]
 have h3o:∀k,k≠l->w3.heap[k]?=w2.heap[k]?:=fun k hk=>by rw[Vs];exact World.putObj_heap_other hk
 have h3l:w3.heap[l]?=some (.loop {qK fn tmps ps assign body D none with state:=.busy}):=by rw[Vs];exact World.putObj_heap_same abZ
 have Ef:=ug.UD h3s (fun b hb=>h3o b (fun e=>by subst e;exact hb.elim YO fun⟨i,hi⟩=>ab3 i hi));obtain⟨V2,Xt⟩:∃V2,V2=VB.Qf F2 a2.defers:=⟨_,rfl⟩;have YY:Inv N V2 w3 S2 σ1 a2 w3:=by rw[Xt];exact⟨S2,F2,⟨Ef.rel,Ef.nodup,Ef.cx,fun i b hb=>⟨.inr ⟨i,hb⟩,(Ef.own i b hb).2⟩,Ef.shr⟩,Xv,rfl,fun _ h=>h,fun _ h=>.inl h,jF.refl _ _⟩
 have V1:∀c,V2.g c->VB.g c\/w.heap.size<=c:=by rw[Xt];rintro c⟨i,h⟩;exact(ug.own i c h).1.symm
 have af3:=O2.size;have L8:∀c,c<w.heap.size->¬VB.g c->¬bW V2 w3 c:=by
  intro c h h' hh;rcases hh with hh|hh
  ·omega
  rcases V1 c hh with hh|hh
  ·exact h' hh
  omega
 have abO:V2.rd=some l:=by rw[Xt];exact ue
 have hL3:iV P V2 w3:=by
  have hLB:iV P VB w:=⟨hLd,hNT.mono fun b hb=>(hg b hb).1⟩;refine⟨(hLB.H8 O2).same fun g hn _=>h3o g fun e=>hNT g hn (by subst e;exact YQ),fun g hn hb=>?_⟩;rcases V1 g hb with hb|hb
  ·exact hLB.apart g hn hb
  have:=hLd.lt hn;omega
 have hB:=h1 V2 w3 S2 a2 w3 ⟨trivial,hL3⟩ YY;rw[abO]at hB;refine wpIn_mono hB ?_;rintro e a3 w4⟨σ2,⟨he,LX⟩,S4,F4,ds4,V8,hN4,agJ,hs3,hs4,Xj,hm4⟩;have af2:=Xj.size;have hl4:w4.heap[l]?=some (.loop {qK fn tmps ps assign body D none with state:=.busy}):=by rw[Xj.block l (by omega) (fun h=>L8 l VU R9 (.inr h))];exact h3l
 have abY:l<w4.heap.size:=(Array.getElem?_eq_some_iff.1 hl4).1;have YN:¬S4 l:=fun h=>(hs4 l h).elim YO (L8 l VU R9);have YP:∀i,l∉F4 i:=fun i h=>L8 l VU R9 (V8.own i l h).1;have acY:¬S2 D:=fun h=>(gw D h).elim (hF D hDF).2 (fS D hDw hgD);have acX:¬S4 D:=fun h=>(hs4 D h).elim acY (L8 D hDw hgD);have acZ:∀i,D∉F4 i:=fun i h=>L8 D hDw hgD (V8.own i D h).1;obtain⟨w5,Vr⟩:∃w5,w5=w4.putObj l (.loop (qK fn tmps ps assign body D jump)):=⟨_,rfl⟩;have h5s:w5.heap.size=w4.heap.size:=by rw[Vr];simp[World.putObj]
 have h5o:∀k,k≠l->w5.heap[k]?=w4.heap[k]?:=fun k hk=>by rw[Vr];exact World.putObj_heap_other hk
 have h5l:w5.heap[l]?=some (.loop (qK fn tmps ps assign body D jump)):=by rw[Vr];exact World.putObj_heap_same abY
 have hold:∀k,k<w.heap.size->¬VB.g k->k≠l->w5.heap[k]?=w.heap[k]?:=by intro k hk VZ MV;rw[h5o k MV,Xj.block k (by omega) (fun h=>L8 k hk VZ (.inr h)),h3o k MV,O2.block k hk VZ]
 have xa:(Instr.endRound l jump).run P w4=.ok (.bool jump.isNone) w5:=by rw[run_endRound jump hl4,Vr];rfl
 have OP:∃S' F',w5.os=w.os/\w5.tape=w.tape/\w5.output=w.output/\w.heap.size<=w5.heap.size/\(∀k,k<w.heap.size->k∉F->w5.heap[k]?=w.heap[k]?)/\
  (∀c,S c->S' c)/\(∀c,S' c->S c\/w.heap.size<=c\/c∈F)/\(∀c,S' c->c<w5.heap.size)/\o7.here (Jr cs ex T l D (qK fn tmps ps assign body D) jump y') w5 S' F'/\F'.Nodup/\∀c∈F',(w.heap.size<=c\/c∈F)/\c<w5.heap.size/\¬S' c:=by
  have wE:∀c,bW V2 w3 c->w.heap.size<=c\/c∈F:=by
   rintro c(h|h)
   ·exact .inl (by omega)
   rcases V1 c h with h|h
   ·exact .inr (hg c h).1
   exact .inl h
  refine⟨S4,D::l::(List.range ex.length).flatMap (fun j=>F4 (1000000+j)),?_,?_,?_,by omega,fun k hk VV=>hold k hk (fun h=>VV (hg k h).1) (fun e=>VV (by rw[e];exact YQ)),fun c hc=>hs3 c (jl c hc),fun c hc=>?_,fun c hc=>?_,Jr.closed ⟨fun j=>F4 (1000000+j),List.Perm.refl _,fun j v hv hj=>?_,fun q hq=>?_,h5l,?_⟩,?_,?_⟩
  ·rw[Vr];show w4.os=_;rw[Xj.os,Vs];exact O2.os
  ·rw[Vr];show w4.tape=_;rw[Xj.tape,Vs];exact O2.tape
  ·rw[Vr];show w4.output=_;rw[Xj.output,Vs];exact O2.output
  ·rcases hs4 c hc with h|h
   ·rcases gw c h with h|h
    ·exact .inl h
    rcases h with h|h
    ·exact .inr (.inl h)
    exact .inr (.inr (hg c h).1)
   exact .inr (wE c h)
  ·rw[h5s];exact V8.shr c hc
  ·obtain⟨e1,e2⟩:=LX j v hv;have hr:=V8.rel (1000000+j);rw[ai.ar (by rw[e1];exact e2),e1]at hr;have hT:tv V2 a3 (1000000+j)=T (ex.getD j 0):=by
    unfold tv;rw[if_neg (by omega),Xt];show VB.v (1000000+j)=_;rw[QI];show T (ex.getD (1000000+j-1000000) 0)=_;rw[Nat.add_sub_cancel_left]
   rw[hT]at hr;exact Rel.frame _ hr fun b hb=>h5o b (fun e=>by subst e;exact hb.elim YN (YP _))
  ·refine Rel.mono (fun c hc=>hs3 c (jl c hc)) _ (Rel.frame _ (pL q hq) fun b hb=>?_);have hb:S b:=by simpa using hb
   exact hold b (hS b hb) (fun h=>(hF b (hg b h).1).2 hb) (fun e=>by subst e;exact(hF _ YQ).2 hb)
  ·rw[hold D hDw hgD (fun e=>YR e.symm)];exact hD
  ·refine List.nodup_cons.2 ⟨fun h=>?_,List.nodup_cons.2 ⟨fun h=>?_,(jZ _).2 ⟨fun j _=>V8.nodup _,fun i j _ _ fX=>V8.cx _ _ (by omega)⟩⟩⟩
   ·rcases List.mem_cons.1 h with h|h
    ·exact YR h.symm
    obtain⟨j,-,hj⟩:=List.mem_flatMap.1 h;exact acZ _ hj
   obtain⟨j,-,hj⟩:=List.mem_flatMap.1 h;exact YP _ hj
  intro c hc;rcases List.mem_cons.1 hc with rfl|hc
  ·exact⟨.inr hDF,by omega,acX⟩
  rcases List.mem_cons.1 hc with rfl|hc
  ·exact⟨.inr YQ,by omega,YN⟩
  obtain⟨j,-,hj⟩:=List.mem_flatMap.1 hc;have ho:=V8.own _ c hj;exact⟨wE c ho.1,by rw[h5s];exact ho.2.1,ho.2.2⟩
 cases e with
 |normal=>obtain⟨rfl,rfl⟩:=he;exact⟨_,_,xa,rfl,OP⟩
 |ret=>obtain⟨rfl,rfl⟩:=he;exact⟨_,_,xa,rfl,OP⟩
 |exit id=>obtain⟨rfl,rfl⟩:=he;exact⟨_,_,xa,rfl,OP⟩
 |_=>exact he.elim
end
end Go.Ai
