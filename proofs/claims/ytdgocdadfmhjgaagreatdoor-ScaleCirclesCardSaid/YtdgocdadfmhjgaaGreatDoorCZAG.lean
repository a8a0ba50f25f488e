/- Parts of the proof of ScaleCircles (CheckRefused returns the error of the reference), at every input, with no further conditions. -/
import Derived.Test.YtdgocdadfmhjgaaGreatDoorCZAF
set_option linter.all false
set_option maxRecDepth 100000
set_option maxHeartbeats 0
namespace Go.Ai
open Go.RowKit
def tp.refl(x:AV):tp x x:=λ_ _ _ _ h=>h
mutual
def an:SV->SV->Prop
 |.nil,y=>match y with
  |.nil=>True
  |.ints _ _ xs=>xs=[]
  |.fe _ xs=>xs=[]
  |.strs _ xs=>xs=[]
  |.b9 _ xs=>xs=[]
  |.bT _ _ _ _ xs=>xs=[]
  |_=>False
 |.agg xs,y=>match y with
  |.agg ys=>EW xs ys
  |_=>False
 |.bX xs,y=>match y with
  |.bX ys=>EW xs ys
  |_=>False
 |.n k a,y=>SV.n k a=y
 |.b a,y=>match y with
  |.b c=>a=c
  |.u c=>a=c
  |_=>False
 |.u a,y=>match y with
  |.b c=>a=c
  |.u c=>a=c
  |_=>False
 |.s a,y=>SV.s a=y
 |.c a,y=>SV.c a=y
 |.ints k o xs,y=>SV.ints k o xs=y
 |.fe k xs,y=>match y with
  |.ints k' false ys=>k=k'/\xs=ys
  |y=>SV.fe k xs=y
 |.strs o xs,y=>SV.strs o xs=y
 |.b9 o xs,y=>SV.b9 o xs=y
 |.bT o sz d e xs,y=>SV.bT o sz d e xs=y
 |.row o sz xs,y=>match y with
  |.row o' gC ys=>o=o'/\sz=gC/\xs=ys
  |.bT o' gC _ e ys=>o=o'/\sz=gC/\xs=ys.map e
  |_=>False
 |.box o x,y=>SV.box o x=y
 |.fn f a c,y=>SV.fn f a c=y
 |.bA r a b p,y=>SV.bA r a b p=y
 |.ptr r a b p,y=>SV.ptr r a b p=y
 |.hole,y=>SV.hole=y
 |.dead,y=>SV.dead=y
 |.pv C,y=>SV.pv C=y
 |.abs J,y=>SV.abs J=y
 |.fI g ba,y=>SV.fI g ba=y
 |.mp K,y=>SV.mp K=y
def EW:List SV->List SV->Prop
 |[],ys=>match ys with
  |[]=>True
  |_::_=>False
 |x::xs,ys=>match ys with
  |y::ys=>an x y/\EW xs ys
  |[]=>False
end
def O1{sz gC:Nat}{o:Bool}:tp (.list .nil sz []) (.list (fl o) gC []):=by
 intro w S v F h;cases o
 ·simp only[Rel];left;exact⟨ao,⟨none,h.2.1⟩,h.2.2⟩
 simp only[Rel];left;exact⟨ao,h.2.1,h.2.2⟩
mutual
theorem an.den:∀{x y:SV},an x y->tp x.den y.den
 |.nil,y,h=>by
  cases y<;>simp only[an]at h
  case nil=>exact tp.refl _
  case fe=>subst h;exactλw S v F h=>by simpa[SV.den,flm,szm,Rel]using h
  all_goals(subst h;exact O1)
 |.agg xs,y,h=>by cases y<;>simp only[an]at h;intro w S v F hr;simp only[SV.den,Rel]at hr⊢;obtain⟨cs,h1,h2⟩:=hr;exact⟨cs,h1,EW.cells h h2⟩
 |.bX xs,y,h=>by cases y<;>simp only[an]at h;intro w S v F hr;simp only[SV.den,Rel]at hr⊢;obtain⟨cs,h1,h2⟩:=hr;exact⟨cs,h1,EW.cells h h2⟩
 |.n k a,y,h=>by simp only[an]at h;subst h;exact tp.refl _
 |.b a,y,h=>by cases y<;>simp only[an]at h<;>(subst h;exact tp.refl _)
 |.u a,y,h=>by cases y<;>simp only[an]at h<;>(subst h;exact tp.refl _)
 |.s a,y,h=>by simp only[an]at h;subst h;exact tp.refl _
 |.c a,y,h=>by simp only[an]at h;subst h;exact tp.refl _
 |.ints k o xs,y,h=>by simp only[an]at h;subst h;exact tp.refl _
 |.fe k xs,y,h=>by
  unfold an at h;split at h
  ·obtain⟨rfl,rfl⟩:=h;cases xs with
   |nil=>exact O1 (o:=false)
   |cons x xs=>exact tp.refl _
  subst h;exact tp.refl _
 |.strs o xs,y,h=>by simp only[an]at h;subst h;exact tp.refl _
 |.b9 o xs,y,h=>by simp only[an]at h;subst h;exact tp.refl _
 |.bT o sz d e xs,y,h=>by simp only[an]at h;subst h;exact tp.refl _
 |.row o sz xs,y,h=>by
  cases y<;>simp only[an]at h
  ·obtain⟨rfl,rfl,rfl⟩:=h;rename_i e ys;have:(SV.row o sz<|ys.map e).den=(SV.bT o sz ‹_› e ys).den:=by simp[SV.den,bV]
   rw[this];exact tp.refl _
  obtain⟨rfl,rfl,rfl⟩:=h;exact tp.refl _
 |.box o x,y,h=>by simp only[an]at h;subst h;exact tp.refl _
 |.fn f a c,y,h=>by simp only[an]at h;subst h;exact tp.refl _
 |.bA r a b p,y,h=>by simp only[an]at h;subst h;exact tp.refl _
 |.ptr r a b p,y,h=>by simp only[an]at h;subst h;exact tp.refl _
 |.hole,y,h=>by simp only[an]at h;subst h;exact tp.refl _
 |.dead,y,h=>by simp only[an]at h;subst h;exact tp.refl _
 |.pv _,y,h=>by simp only[an]at h;subst h;exact tp.refl _
 |.abs _,y,h=>by simp only[an]at h;subst h;exact tp.refl _
 |.fI _ _,y,h=>by simp only[an]at h;subst h;exact tp.refl _
 |.mp _,y,h=>by simp only[an]at h;subst h;exact tp.refl _
theorem EW.cells:∀{xs ys:List SV},EW xs ys->∀{w:World}{S:Nat->Prop}{one:Bool}{l:List Value}{F:List Nat},Cells w S one (au xs) l F->Cells w S one (au ys) l F
 |[],ys,h,w,S,one,l,F,hc=>by cases ys<;>simp only[EW]at h;exact hc
 |x::xs,ys,h,w,S,one,l,F,hc=>by
  cases ys with
  |nil=>simp only[EW]at h
  |cons y ys=>simp only[EW]at h;simp only[au,Cells]at hc⊢;obtain⟨v,l',F1,F2,h1,h2,h3,h4,h5⟩:=hc;exact⟨v,l',F1,F2,h1,h2,h3,an.den h.1 _ _ _ _ h4,EW.cells h.2 h5⟩
end
mutual
theorem an.refl:∀x:SV,an x x
 |.nil=>trivial
 |.agg xs=>by simp only[an];exact EW.refl xs
 |.bX xs=>by simp only[an];exact EW.refl xs
 |.n .. |.b _|.u _|.s _|.c _|.ints .. |.fe .. |.strs .. |.b9 .. |.bT .. |.box .. |.fn .. |.bA .. |.ptr .. |.hole|.dead|.pv _|.abs _|.fI .. |.mp _=>rfl
 |.row .. =>kL
theorem EW.refl:∀xs:List SV,EW xs xs
 |[]=>trivial
 |x::xs=>by simp only[EW];exact⟨an.refl x,EW.refl xs⟩
end
def an.of_eq{x y:SV}(h:x=y):an x y:=h▸an.refl x
def aL(P:Program)(f:FuncId)(args:List SV)(r:SV):Prop:=Sound P f (au args) r.den
def aL.same{P:Program}{f:FuncId}{aas bs:List SV}{r q:SV}(h:aL P f aas r)(e:au aas=au bs)(e':r.den=q.den):aL P f bs q:=by unfold aL at *;rw[<-e,<-e'];exact h
def aL.adJ{P:Program}{f:FuncId}{aas bs:List SV}{r:SV}(h:aL P f bs r)(hl:EW aas bs):aL P f aas r:=λw S vs hG hS hc=>h w S vs hG hS<|EW.cells hl hc
def Bl:Nat->List SV->aV
 |_,[]=>[]
 |k,x::xs=>(k,⟨x,0,0⟩)::Bl (k+1) xs
def Dk:∀(k:Nat)(xs:List SV),dn (Bl k xs)=mk (entry k<|au xs)
 |_,[]=>rfl
 |k,x::xs=>by simp[Bl,eW,Dk (k+1) xs];rfl
def iO(tt:TT)(l:aV):List ResultVar->Option (List SV)
 |[]=>some []
 |.tmp t::rs=>match(gt l t).v.plain with
  |true=>match iO tt l rs with
   |some xs=>some ((gt l t).v::xs)
   |none=>none
  |false=>none
 |.cell t ty::rs=>match(gt l t).v with
  |.box true x=>match GP tt ty with
   |some ti=>match mq ti x with
    |true=>match iO tt l rs with
     |some xs=>some (x::xs)
     |none=>none
    |false=>none
   |none=>none
  |_=>none
def np{P:Program}{tt:TT}(hA:cq P tt){l:aV}:∀{rs:List ResultVar}{xs:List SV},iO tt l rs=some xs->iP P (dn l) rs=some (au xs)
 |[],xs,h=>by simp[iO]at h;subst h;rfl
 |.cell t ty::rs,xs,h=>by
  simp[iO]at h;split at h<;>try(cases h)
  rename_i x hv;split at h<;>try(cases h)
  rename_i ti gR;split at h<;>try(cases h)
  rename_i n8;split at h<;>try(cases h;done)
  rename_i ys oy;cases h;have cC:(dn l t).av=.box true x.den:=by rw[dq,hv];rfl
  simp[iP,cC,j7 hA gR,iW _ _ n8,np hA oy,au]
 |.tmp t::rs,xs,h=>by
  simp[iO]at h;split at h<;>try(cases h)
  rename_i hp;split at h<;>try(cases h;done)
  rename_i ys oy;cases h;have:(dn l t).av.plain=true:=by rw[dq,dh];exact hp
  simp[iP,this,np hA oy];rfl
def A5(xs:List SV):SV:=match xs with|[x]=>x|xs=>.bX xs
def wc(xs:List SV):nN (au xs)=(A5 xs).den:=by
 match xs with
 |[]=>rfl
 |[x]=>rfl
 |x::y::xs=>rfl
def Wb(P:Program)(rs:List ResultVar)(r:SV)(σ:St):Prop:=∃xs,iP P σ rs=some xs/\uJ (nN xs) r.den
section
variable{R:Option Nat->Prop}{P:Program}{N:Nat}{F:St->Prop}{k:List It}{l:aV}{tt:TT}
def enter{f:FuncId}{fn:Func}{c:Code}{args:List SV}{r:SV}(hf:P.funcs[f]?=some fn)(hb:fn.body=some c)(hn:(fn.name== "runtime.NumGoroutine")=false)(hlen:Nat.ble (len args) fn.ntmps=true)
 (hd:eE fn.results.toList []=true)(h:AK R0 P fn.ntmps (Wb P fn.results.toList r) [.code c] (Bl 0 args)):aL P f args r:=by
 refine I8 hf hb hn (by rw[bq,<-eV];exact adk hlen) hd ?_;rw[<-Dk];exact jm (h:AW R0 P fn.ntmps c (fR R0 P fn.ntmps (Wb P fn.results.toList r) []) (dn<|Bl 0 args)) λe σ' h=>by cases e<;>exact h
def ret(hA:cq P tt){rs:List ResultVar}{r:SV}{xs:List SV}(h:iO tt l rs=some xs)(hr:an (A5 xs) r):AK R P N (Wb P rs r) [] l:=by refine⟨_,np hA h,?_⟩;rw[wc];exact uJ.of_le hr.den
def adY(hA:cq P tt){rs:List ResultVar}{r:SV}{xs:List SV}(h:iO tt l rs=some xs)(hr:an (A5 xs).bw r):AK R P N (Wb P rs r) [] l:=by refine⟨_,np hA h,?_⟩;rw[wc];intro w S v F hv;refine⟨[],F,by simp,λS' hS hF=>hr.den _ _ _ _ ?_⟩;rw[<-fS];exact Rel.share hS _ hv hF
def uO:∀xs ys:List SV,iL (cat xs ys)=cat (iL xs) (iL ys)
 |[],_=>rfl
 |x::xs,ys=>by simp[cat,iL,uO xs ys]
def nI{α:Type}{e:α->SV}(h:∀x,(e x).bw=e x):∀xs:List α,iL (xs.map e)=xs.map e
 |[]=>rfl
 |x::xs=>by simp[iL,h x,nI h xs]
def go(hA:cq P tt)(hm:P.follows .mixedOrders=true)(raw:List Nat){ob:List Pd}{qs:List Bool}{k':List It}{l':aV}(h:run tt raw N 100000 k l [] []=(ob,qs,k',l'))(hq:mL qs=true)(ho:ag ob)(hk:AK R P N F k' l'):AK R P N F k l:=(nn hA hm h ho hq).2.2 hk
def branch{c:Operand}{t e:Code}{x:SR}{b:Bool}{ob:List Pd}(hf:aI c=true)(h:dP l c=some x)(hx:cX x=some (ob,.u b))(ho:ag ob)(h1:b=true->AK R P N F (.code t::k) l)(h2:b=false->AK R P N F (.code e::k) l):
 AK R P N F (.code (.cond c t e)::k) l:=by
 refine Iw (t:=b) hf (by rw[cF h];exact aE hx ho) ?_;cases b
 ·exact h2 rfl
 exact h1 rfl
def Y4{c:Operand}{t e:Code}{x:SR}{p:Prop}[Decidable p]{ob:List Pd}(hf:aI c=true)(h:dP l c=some x)(hx:cX x=some (ob,.u<|decide p))(ho:ag ob)(h1:p->AK R P N F (.code t::k) l)(h2:¬p->AK R P N F (.code e::k) l):
 AK R P N F (.code (.cond c t e)::k) l:=
 branch hf h hx ho (λh=>h1<|of_decide_eq_true h) λh=>h2<|of_decide_eq_false h
def known{d:Nat}{b c:Bool}(h:(gt l d).v=.u b)(hb:b=c):dn ((d,⟨.b c,(gt l d).g1,(gt l d).g2⟩)::l)=dn l:=by
 subst hb;rw[eW]
 funext i
 unfold gQ;split
 ·rename_i e;subst e;simp[Cl.den,dn,h];rfl
 rfl
def iF(d:Nat){b:Bool}(h:(gt l d).v=.u b)(h1:b=true->AK R P N F k ((d,⟨.b true,(gt l d).g1,(gt l d).g2⟩)::l))(h2:b=false->AK R P N F k ((d,⟨.b false,(gt l d).g1,(gt l d).g2⟩)::l)):AK R P N F k l:=by
 cases b
 ·have:=h2 rfl;unfold AK at this;rw[known h rfl]at this;exact this
 have:=h1 rfl;unfold AK at this;rw[known h rfl]at this;exact this
def aC(d:Nat){p:Prop}[Decidable p](h:(gt l d).v=.u (decide p))(h1:p->AK R P N F k ((d,⟨.b true,(gt l d).g1,(gt l d).g2⟩)::l))(h2:¬p->AK R P N F k ((d,⟨.b false,(gt l d).g1,(gt l d).g2⟩)::l)):AK R P N F k l:=iF d h (λh=>h1<|of_decide_eq_true h) λh=>h2<|of_decide_eq_false h
mutual
def SV.jN:SV->List Pd×Bool
 |.bT true _ _ e _=>([.of<|∀x,(e x).bJ=true],true)
 |.bT false _ _ _ _=>([],false)
 |.ints _ o _=>([],o)
 |.fe _ xs=>([xs≠[]],false)
 |.strs o _=>([],o)
 |.b9 o _=>([],o)
 |.row false _ _=>([],false)
 |.row true _ xs=>kF xs
 |.box false _=>([],false)
 |.box true x=>x.jN
 |.agg xs=>kF xs
 |.bX xs=>kF xs
 |.fn _ a c=>match kF a,kF c with
  |(ob,b),(dX,b')=>(Aj ob dX,cW b b')
 |_=>([],true)
def kF:List SV->List Pd×Bool
 |[]=>([],true)
 |x::xs=>match x.jN,kF xs with
  |(ob,b),(dX,b')=>(Aj ob dX,cW b b')
end
def LJ(a b:Bool):cW a b=(a&&b):=by cases a<;>rfl
mutual
theorem sw:∀{x:SV},ag x.jN.1->x.den.bJ=x.jN.2
 |.n ..,_|.b _,_|.u _,_|.s _,_|.c _,_|.nil,_|.hole,_|.dead,_|.bA ..,_|.ptr ..,_|.pv _,_|.abs _,_|.fI ..,_|.mp _,_=>rfl
 |.ints k true xs,_=>nq (.ints k true xs) rfl
 |.ints k false xs,_=>rfl
 |.fe k xs,h=>by
  have h:xs≠[]:=h.1;cases xs with
  |nil=>exact absurd rfl h
  |cons=>rfl
 |.strs true xs,_=>nq (.strs true xs) rfl
 |.strs false xs,_=>rfl
 |.b9 true xs,_=>nq (.b9 true xs) rfl
 |.b9 false xs,_=>rfl
 |.bT true sz d e xs,h=>by simp only[SV.jN]at h⊢;simp only[SV.den,fl,AV.bJ];refine tJ λy hy=>?_;obtain⟨z,-,rfl⟩:=ac0.1 hy;exact nq _ (h.1 z)
 |.bT false ..,_=>rfl
 |.row true sz xs,h=>by simp only[SV.jN]at h⊢;simp only[SV.den,fl,AV.bJ];exact je h
 |.row false ..,_=>rfl
 |.box true x,h=>by simp only[SV.jN]at h⊢;simp only[SV.den,AV.bJ,adx];exact sw h
 |.box false _,_=>rfl
 |.agg xs,h=>by simp only[SV.jN]at h⊢;simp only[SV.den,AV.bJ];exact je h
 |.bX xs,h=>by simp only[SV.jN]at h⊢;simp only[SV.den,AV.bJ];exact je h
 |.fn f a c,h=>by simp only[SV.jN]at h⊢;obtain⟨h1,h2⟩:=p8.1 h;simp only[SV.den,AV.bJ,je h1,je h2,LJ]
theorem je:∀{xs:List SV},ag (kF xs).1->ju (au xs)=(kF xs).2
 |[],_=>rfl
 |x::xs,h=>by simp only[kF]at h⊢;obtain⟨h1,h2⟩:=p8.1 h;simp only[au,ju,sw h1,je h2,LJ]
end
structure tq where
 g:FuncId
 aas:List SV
 sh:List (Nat×Path)
def rJ(l:aV)(f:Operand)(aas:List Operand):Option (List Pd×tq):=
 (dP l f).bind λf=>(cX f).bind λ(ob,v)=>match v with
   |.fn (.func g) first captured=>(gF<|cW (gm first)<|gm captured).bind λ_=>(jg l aas).bind λxs=>(vf xs).bind λ(nV,ys)=>(tw xs).bind λ(pI,sh)=>some (Aj ob<|Aj nV pI,⟨g,cat first<|cat ys captured,sh⟩)
   |_=>none
def RI{f:Operand}{aas:List Operand}{ob:List Pd}{h:tq}(hh:rJ l f aas=some (ob,h))(hc:ag ob):
 Gc (dn l) (resolve (dn l) f) (aas.map<|resolve<|dn l)=some (h.g,au h.aas,h.sh.map λm=>.share m.1 m.2):=by
 simp[rJ,ab3]at hh;obtain⟨x,h1,ob0,v,h2,h3⟩:=hh;cases v<;>try(cases h3)
 rename_i fn first captured
 cases fn<;>try(cases h3)
 rename_i g;simp only[ab3,bu,aN,afh]at h3;obtain⟨_,⟨h4,h5⟩,xs,h6,nV,ys,h7,pI,sh,h8,rfl,rfl⟩:=h3;obtain⟨c0,c⟩:=p8.1 hc;obtain⟨c1,c2⟩:=p8.1 c;have hf:x.den.cont=some (.fn (.func g) (au first)<|au captured):=aE h2 c0;unfold Gc;rw[cF h1,hf];simp[dS,h4,h5,eD l h6,qQ h7 c1,oG h8 c2,c8];simp[bV]
def kD(l:aV)(dst:Option Nat)(r:SV)(sh:List (Nat×Path)):ox:=
 match sh with
 |[]=>EI [] l [] dst r
 |(m,p)::sh=>match r.jN with
  |(ob,b)=>match b with
  |true=>EI ob l [] dst r
  |false=>match sh with
   |[]=>(sx l m p).bind λ(dX,l')=>EI (Aj ob dX) l' [m] dst r
   |_=>none
 where EI (ob:List Pd) (l:aV) (ks:List Nat):Option Nat->SV->ox
  |none,_=>some (ob,l,ks)
  |some d,r=>rF l [] d r λl'=>some (ob,l',cat ks [d])
def IZ{dst:Option Nat}{r:SV}{sh:List (Nat×Path)}{ob:List Pd}{l':aV}{ks:List Nat}(h:kD l dst r sh=some (ob,l',ks))(hc:ag ob):
 ∃ms,zQ dst r.den (sh.map λm=>.share m.1 m.2)=some ms/\Mv.runs (dn l) ms=some (dn l')/\aU ms=ks:=by
 have plain:∀{nV:List Pd},kD.EI nV l [] dst r=some (ob,l',ks)->∃ms,some (cK dst r.den [])=some ms/\Mv.runs (dn l) ms=some (dn l')/\aU ms=ks:=by
  intro nV h;cases dst with
  |none=>simp[kD.EI,ac3]at h;obtain⟨-,rfl,rfl⟩:=h;exact⟨_,rfl,rfl,rfl⟩
  |some d=>simp[kD.EI,fo,ac3]at h;obtain⟨-,rfl,rfl⟩:=h;exact⟨_,rfl,by simp[cK,Mv.runs,Mv.run,gK],by simp[cK,aU,Mv.keys,cat]⟩
 unfold kD at h;cases sh with
 |nil=>have:=plain h;unfold zQ;cases r.den.bJ<;>simpa using this
 |cons m sh=>
  obtain⟨nV,b,h1⟩:∃nV b,r.jN=(nV,b):=⟨_,_,rfl⟩;have Bf:ag nV->r.den.bJ=b:=λhc=>by have:=sw (x:=r) (by rw[h1];exact hc);rw[this,h1]
  rw[h1]at h;have h2:=h;cases b with
  |true=>
   have e:nV=ob:=by cases dst<;>simp[kD.EI,fo,ac3]at h2<;>exact h2.1
   subst e;have:=plain h2;unfold zQ;rw[Bf hc];simpa using this
  |false=>
   cases sh with
   |cons _ _=>cases h2
   |nil=>
    simp[ab3]at h2;obtain⟨pI,l2,h3,h4⟩:=h2;have e:Aj nV pI=ob:=by cases dst<;>simp[kD.EI,fo,ac3]at h4<;>exact h4.1
    subst e;obtain⟨c1,c2⟩:=p8.1 hc;unfold zQ;rw[Bf c1];cases dst with
    |none=>simp only[kD.EI,ac3]at h4;obtain⟨-,rfl,rfl⟩:=h4;simp[cK,Mv.runs];rw[lB h3 c2];exact ab
    |some d=>simp only[kD.EI,fo,ac3]at h4;obtain⟨-,rfl,rfl⟩:=h4;simp[cK,Mv.runs];rw[lB h3 c2];exact⟨by simp[Mv.run,gK],by simp[aU,Mv.keys,cat]⟩
def Ip{all:Array Oper}{dst:Option Nat}{f:Operand}{aas ts:Array _}{ty:TypeId}{pos:String}{cL:Array Edge}{g:Option (Nat×Bool)}{K:List Mv->St->Prop}{ob dX:List Pd}{h:tq}{r:SV}{l':aV}{ks:List Nat}
 (hg:cP l all.toList g=some true)(hh:rJ l f aas.toList=some (ob,h))(ho:ag ob)(hs:aL P h.g h.aas r)(ht:kD l dst r h.sh=some (dX,l',ks))(Pk:ag dX)(hk:∀ms,aU ms=ks->K ms (dn l')):
 pA P all ⟨dst,.call ⟨.value f,aas,ts⟩,ty,pos,cL,g⟩ (dn l) K:=by
 have key:pA P all ⟨dst,.call ⟨.value f,aas,ts⟩,ty,pos,cL,none⟩ (dn l) K:=by rw[aa2,RI hh ho,qi];refine⟨r.den,hs,?_⟩;obtain⟨ms,h1,h2,h3⟩:=IZ ht Pk;simp[tZ];simp_all
 cases g with
 |none=>exact key
 |some q=>obtain⟨j,b⟩:=q;rw[Hu,dC (o:=⟨dst,.call ⟨.value f,aas,ts⟩,ty,pos,cL,some (j,b)⟩) hg];simpa using key
def call{all:Array Oper}{rest:List Oper}{dst:Option Nat}{f:Operand}{aas ts:Array _}{ty:TypeId}{pos:String}{cL:Array Edge}{g:Option (Nat×Bool)}{ob dX:List Pd}{h:tq}{r:SV}{l':aV}{ks:List Nat}
 (hg:cP l all.toList g=some true)(hh:rJ l f aas.toList=some (ob,h))(ho:ag ob)(hs:aL P h.g h.aas r)(ht:kD l dst r h.sh=some (dX,l',ks))(Pk:ag dX)(hk:AK R P N F (.ops all rest::k) l'):
 AK R P N F (.ops all (⟨dst,.call ⟨.value f,aas,ts⟩,ty,pos,cL,g⟩::rest)::k) l:=by
 exact nL<|Ip hg hh ho hs ht Pk λms _=>hk
def VM{all:Array Oper}{mm:List Nat}{acc:List (List Nat×List Nat)}{rest:List Oper}{dst:Option Nat}{f:Operand}{aas ts:Array _}{ty:TypeId}{pos:String}{cL:Array Edge}{g:Option (Nat×Bool)}{ob dX:List Pd}{h:tq}{r:SV}{l':aV}{ks:List Nat}
 (hg:cP l all.toList g=some true)(hh:rJ l f aas.toList=some (ob,h))(ho:ag ob)(hs:aL P h.g h.aas r)(ht:kD l dst r h.sh=some (dX,l',ks))(Pk:ag dX)
 (hk:AK R P N F (.og all mm rest ((ix (dn l) all ⟨dst,.call ⟨.value f,aas,ts⟩,ty,pos,cL,g⟩,ks)::acc)::k) l'):
 AK R P N F (.og all mm (⟨dst,.call ⟨.value f,aas,ts⟩,ty,pos,cL,g⟩::rest) acc::k) l:=by
 exact nL (Ip hg hh ho hs ht Pk λms mn=>by rw[mn];exact hk)
def sl:List (Nat×SV)->aV
 |[]=>[]
 |(i,x)::r=>(i,⟨x,0,0⟩)::sl r
def ShS(x y:SV):Prop:=y=x\/y=x.bw
def jd:List SV->List SV->Prop
 |[],ys=>ys=[]
 |x::xs,ys=>match ys with
  |[]=>False
  |y::ys=>ShS x y/\jd xs ys
def jd.refl:∀xs:List SV,jd xs xs
 |[]=>rfl
 |_::xs=>⟨.inl rfl,jd.refl xs⟩
def jd.append:∀{xs ys us vs:List SV},jd xs ys->jd us vs->jd (xs++us) (ys++vs)
 |[],ys,us,vs,h,k=>by simp[jd]at h;subst h;exact k
 |x::xs,ys,us,vs,h,k=>by
  cases ys with
  |nil=>exact h.elim
  |cons y ys=>exact⟨h.1,jd.append h.2 k⟩
def LeT(x y:SV):Prop:=match x with
 |.row o sz xs=>match y with
  |.bT o' gC _ e ys=>o=o'/\sz=gC/\jd xs (ys.map e)
  |y=>an (.row o sz xs) y
 |x=>an x y
def Dl{w:World}{S:Nat->Prop}{sz:Nat}:∀{xs ys:List SV}{l:List Value}{F:List Nat},jd xs ys->cv w S sz (au xs) l F->
 ∃F1 F2,F.Perm (F1++F2)/\∀S':Nat->Prop,(∀b,S b->S' b)->(∀b∈F2,S' b)->cv w S' sz (au ys) l F1
 |[],ys,l,F,h,k=>by simp[jd]at h;subst h;exact⟨[],[],by rw[k.2];simp,λ_ _ _=>⟨k.1,rfl⟩⟩
 |x::xs,ys,l,F,h,k=>by
  cases ys with
  |nil=>exact h.elim
  |cons y ys=>
   obtain⟨v,l',G1,G2,rfl,rfl,h3,h4,h5⟩:=k;obtain⟨F1,F2,hp,hr⟩:=Dl h.2 h5;rcases h.1 with rfl|rfl
   ·refine⟨G1++F1,F2,by rw[acV];exact List.Perm.append_left _ hp,λS' hS hF=>?_⟩;exact⟨v,l',G1,F1,rfl,rfl,h3,Rel.mono hS _ h4,hr S' hS hF⟩
   refine⟨F1,G1++F2,?_,λS' hS hF=>?_⟩
   ·refine(List.Perm.append_left _ hp).trans ?_;rw[<-acV,<-acV];exact List.Perm.append_right _ List.perm_append_comm
   refine⟨v,l',[],F1,rfl,rfl,h3,?_,hr S' hS λb hb=>hF b<|by simp[hb]⟩;rw[<-fS];exact Rel.share hS _ h4 λb hb=>hF b (by simp[hb])
def LeT.den{x y:SV}(h:LeT x y):uJ x.den y.den:=by
 cases x
 case row o sz xs=>
  cases y
  case bT o' gC α d e ys=>
   obtain⟨rfl,rfl,h⟩:=h;have e2:(SV.bT o sz d e ys).den=.list (fl o) sz (au<|ys.map e):=by simp[SV.den,bV]
   have hlen:(au xs).length=(au<|ys.map e).length:=by
    have:∀{us vs:List SV},jd us vs->us.length=vs.length:=by
     intro us
     induction us with
     |nil=>intro vs h;subst h;rfl
     |cons u us ih=>
      intro vs h;cases vs with
      |nil=>exact h.elim
      |cons v vs=>simp[ih h.2]
    simp[bV]at*;simpa using this h
   rw[e2];intro w S v F hr;cases o
   ·simp only[Rel]at hr⊢;rcases hr with⟨h1,h2,h3⟩|⟨b,off,cap,cs,fz,h1,h2,h3,h4,h5,h6⟩
    ·refine⟨[],[],by rw[h3];simp,λS' hS _=>.inl ⟨?_,h2,rfl⟩⟩;rw[h1]at hlen;exact af4.1 hlen.symm
    obtain⟨F1,F2,hp,hq⟩:=Dl h h5;have hn:=hp.symm.eq_nil;simp at hn;obtain⟨rfl,rfl⟩:=hn;rw[hlen]at h1 h4;refine⟨[],[],by rw[h6];simp,λS' hS _=>.inr ⟨b,off,cap,cs,fz,h1,hS b h2,h3,h4,?_,rfl⟩⟩;simp_all
   simp only[Rel]at hr⊢;rcases hr with⟨h1,h2,h3⟩|⟨b,cap,cs,F',h1,h2,h3,h4,h5,h6,rfl⟩
   ·refine⟨[],[],by rw[h3];simp,λS' hS _=>.inl ⟨?_,h2,rfl⟩⟩;rw[h1]at hlen;exact af4.1 hlen.symm
   obtain⟨F1,F2,hp,hq⟩:=Dl h h6;rw[hlen]at h1 h3;refine⟨b::F1,F2,List.Perm.cons b hp,λS' hS hF=>.inr ⟨b,cap,cs,F1,h1,h2,h3,h4,h5,?_,rfl⟩⟩;simp_all
  all_goals exact uJ.of_le<|an.den h
 all_goals exact uJ.of_le<|an.den h
def IV{G1 G2 E1 E2 F1 F2:List Nat}(h:G1.Perm (E1++E2))(k:G2.Perm (F1++F2)):(G1++G2).Perm ((E1++F1)++(E2++F2)):=by refine(List.Perm.append h k).trans ?_;rw[acV,acV];refine List.Perm.append_left _ ?_;rw[<-acV,<-acV];exact List.Perm.append_right _ List.perm_append_comm
def IW{o:Bool}{sz:Nat}{xs ys:List AV}(hlen:xs.length=ys.length)(afo:∀{w:World}{S:Nat->Prop}{l:List Value}{F:List Nat},cv w S sz xs l F->
 ∃F1 F2,F.Perm (F1++F2)/\∀S':Nat->Prop,(∀b,S b->S' b)->(∀b∈F2,S' b)->cv w S' sz ys l F1):uJ (.list (fl o) sz xs) (.list (fl o) sz ys):=by
 intro w S v F hr;cases o
 ·simp only[Rel]at hr⊢;rcases hr with⟨h1,h2,h3⟩|⟨b,off,cap,cs,fz,h1,h2,h3,h4,h5,h6⟩
  ·refine⟨[],[],by rw[h3];simp,λS' hS _=>.inl ⟨?_,h2,rfl⟩⟩;rw[h1]at hlen;exact af4.1 hlen.symm
  obtain⟨F1,F2,hp,hq⟩:=afo h5;have hn:=hp.symm.eq_nil;simp at hn;rw[hlen]at h1 h4;refine⟨[],[],by rw[h6];simp,λS' hS _=>.inr ⟨b,off,cap,cs,fz,h1,hS b h2,h3,h4,?_,rfl⟩⟩;simp_all
 simp only[Rel]at hr⊢;rcases hr with⟨h1,h2,h3⟩|⟨b,cap,cs,F',h1,h2,h3,h4,h5,h6,rfl⟩
 ·refine⟨[],[],by rw[h3];simp,λS' hS _=>.inl ⟨?_,h2,rfl⟩⟩;rw[h1]at hlen;exact af4.1 hlen.symm
 obtain⟨F1,F2,hp,hq⟩:=afo h6;rw[hlen]at h1 h3;refine⟨b::F1,F2,List.Perm.cons b hp,λS' hS hF=>.inr ⟨b,cap,cs,F1,h1,h2,h3,h4,h5,?_,rfl⟩⟩;simp_all
mutual
inductive D3:SV->SV->Prop
 |le {x y:SV}:an x y->D3 x y
 |shr {x y:SV}:y=x.bw->D3 x y
 |row {o:Bool} {sz:Nat} {α:Type} {d:α} {e:α->SV} {xs:List SV} {ys:List α}:qp xs (ys.map e)->D3 (.row o sz xs) (.bT o sz d e ys)
 |bT {o:Bool} {sz:Nat} {α β:Type} {d:α} {e:α->SV} {d':β} {e':β->SV} {xs:List α} {ys:List β}:qp (xs.map e) (ys.map e')->D3 (.bT o sz d e xs) (.bT o sz d' e' ys)
 |agg {xs ys:List SV}:qp xs ys->D3 (.agg xs) (.agg ys)
 |bX {xs ys:List SV}:qp xs ys->D3 (.bX xs) (.bX ys)
 |box {o:Bool} {x y:SV}:D3 x y->D3 (.box o x) (.box o y)
inductive qp:List SV->List SV->Prop
 |nil:qp [] []
 |cons {x y:SV} {xs ys:List SV}:D3 x y->qp xs ys->qp (x::xs) (y::ys)
end
def D3.refl(x:SV):D3 x x:=.le<|an.refl x
def qp.refl:∀xs:List SV,qp xs xs
 |[]=>.nil
 |x::xs=>.cons (D3.refl x)<|qp.refl xs
def qp.len:∀{xs ys:List SV},qp xs ys->(au xs).length=(au ys).length
 |[],_,h=>by cases h;rfl
 |x::xs,_,h=>by
  cases h with
  |cons h1 h2=>simp[au,qp.len h2]
def qp.rep{x y:SV}(h:D3 x y):∀n,qp (List.replicate n x) (List.replicate n y)
 |0=>.nil
 |n+1=>.cons h<|qp.rep h n
mutual
theorem D3.den:∀{x y:SV},D3 x y->uJ x.den y.den
 |_,_,.le h=>uJ.of_le (an.den h)
 |x,_,.shr h=>by subst h;rw[<-fS];exact uJ.share _
 |_,_,.row (o:=o) (sz:=sz) (d:=d) (e:=e) (xs:=xs) (ys:=ys) h=>by
  have e2:(SV.bT o sz d e ys).den=.list (fl o) sz (au<|ys.map e):=by simp[SV.den,bV]
  rw[e2];exact IW (o:=o) (sz:=sz) (qp.len h) λk=>qp.els h k
 |_,_,.bT (o:=o) (sz:=sz) (d:=d) (e:=e) (d':=d') (e':=e') (xs:=xs) (ys:=ys) h=>by
  have e2:(SV.bT o sz d' e' ys).den=.list (fl o) sz (au<|ys.map e'):=by simp[SV.den,bV]
  have e1:(SV.bT o sz d e xs).den=.list (fl o) sz (au<|xs.map e):=by simp[SV.den,bV]
  rw[e2,e1];exact IW (o:=o) (sz:=sz) (qp.len h) λk=>qp.els h k
 |_,_,.agg h=>by intro w S v F hr;simp only[SV.den,Rel]at hr⊢;obtain⟨cs,h1,h2⟩:=hr;obtain⟨F1,F2,hp,hq⟩:=qp.cells h h2;exact⟨F1,F2,hp,λS' hS hF=>⟨cs,h1,hq S' hS hF⟩⟩
 |_,_,.bX h=>by intro w S v F hr;simp only[SV.den,Rel]at hr⊢;obtain⟨cs,h1,h2⟩:=hr;obtain⟨F1,F2,hp,hq⟩:=qp.cells h h2;exact⟨F1,F2,hp,λS' hS hF=>⟨cs,h1,hq S' hS hF⟩⟩
 |_,_,.box (o:=o) h=>by
  intro w S v F hr;simp only[SV.den,Rel]at hr⊢;obtain⟨b,cs,fz,F',z,h1,h2,h3,h4,h5⟩:=hr;obtain⟨F1,F2,hp,hq⟩:=D3.den h w S z F' h3;cases o with
  |true=>simp only[if_true]at h5⊢;obtain⟨h5,rfl⟩:=h5;exact⟨b::F1,F2,List.Perm.cons b hp,λS' hS hF=>⟨b,cs,fz,F1,z,h1,h2,hq S' hS hF,h4,h5,rfl⟩⟩
  |false=>simp only[aeu,if_false]at h5⊢;obtain⟨h5,rfl,rfl⟩:=h5;have hn:F1++F2=[]:=hp.symm.eq_nil;simp only[ag8]at hn;obtain⟨rfl,rfl⟩:=hn;exact⟨[],[],by simp,λS' hS hF=>⟨b,cs,fz,[],z,h1,h2,hq S' hS hF,h4,hS b h5,rfl,rfl⟩⟩
theorem qp.els:∀{xs ys:List SV},qp xs ys->∀{w:World}{S:Nat->Prop}{sz:Nat}{l:List Value}{F:List Nat},cv w S sz (au xs) l F->
 ∃F1 F2,F.Perm (F1++F2)/\∀S':Nat->Prop,(∀b,S b->S' b)->(∀b∈F2,S' b)->cv w S' sz (au ys) l F1
 |_,_,.nil=>λk=>by simp only[au,cv]at k⊢;exact⟨[],[],by rw[k.2];simp,λ_ _ _=>⟨k.1,rfl⟩⟩
 |_,_,.cons h1 h2=>λk=>by simp only[au,cv]at k⊢;obtain⟨v,l',G1,G2,rfl,rfl,h3,h4,h5⟩:=k;obtain⟨F1,F2,hp,hr⟩:=qp.els h2 h5;obtain⟨E1,E2,ep,er⟩:=D3.den h1 _ _ _ _ h4;exact⟨E1++F1,E2++F2,IV ep hp,λS' hS hF=>⟨v,l',E1,F1,rfl,rfl,h3,er S' hS λb hb=>hF b<|by simp[hb],hr S' hS λb hb=>hF b<|by simp[hb]⟩⟩
theorem qp.cells:∀{xs ys:List SV},qp xs ys->∀{w:World}{S:Nat->Prop}{one:Bool}{l:List Value}{F:List Nat},Cells w S one (au xs) l F->
 ∃F1 F2,F.Perm (F1++F2)/\∀S':Nat->Prop,(∀b,S b->S' b)->(∀b∈F2,S' b)->Cells w S' one (au ys) l F1
 |_,_,.nil=>λk=>by simp only[au,Cells]at k⊢;exact⟨[],[],by rw[k.2];simp,λ_ _ _=>⟨k.1,rfl⟩⟩
 |_,_,.cons h1 h2=>λk=>by simp only[au,Cells]at k⊢;obtain⟨v,l',G1,G2,rfl,rfl,h3,h4,h5⟩:=k;obtain⟨F1,F2,hp,hr⟩:=qp.cells h2 h5;obtain⟨E1,E2,ep,er⟩:=D3.den h1 _ _ _ _ h4;exact⟨E1++F1,E2++F2,IV ep hp,λS' hS hF=>⟨v,l',E1,F1,rfl,rfl,h3,er S' hS λb hb=>hF b<|by simp[hb],hr S' hS λb hb=>hF b<|by simp[hb]⟩⟩
end
def okB(l _m:aV)(b:Bool)(r g2:Nat)(p:Path):Bool:=EP b<|cW (Nat.beq (gt l r).g2 g2)<|match gq (gt l r).v p with|some ([],_)=>true|_=>false
def JI{l m:aV}{b:Bool}{r g2:Nat}{p:Path}(h:okB l m b r g2 p=true):(b=true\/(gt l r).g2=g2)/\(b=false->∃y,bg (gt l r).v.den p=some y):=by
 cases b with
 |true=>simp_all
 |false=>
  have h:cW (Nat.beq (gt l r).g2 g2) (match gq (gt l r).v p with|some ([],_)=>true|_=>false)=true:=h;cases hb:Nat.beq (gt l r).g2 g2 with
  |false=>rw[hb]at h;cases h
  |true=>
   rw[hb]at h;refine⟨.inr<|adi hb,λ_=>?_⟩;split at h
   ·rename_i y hy;exact⟨_,cn hy ao⟩
   cases h
def xG:List (Nat×Nat)->List (Nat×Nat)
 |[]=>[]
 |(r,_)::q=>(r,0)::xG q
def GB(l:aV):List (Nat×Nat)->Bool
 |[]=>true
 |(r,a)::q=>cW (Nat.beq (gt l r).g1 a)<|GB l q
def DO{l:aV}:∀{ba:List (Nat×Nat)},GB l ba=true->∀q∈ba,(gt l q.1).g1=q.2
 |[],_,q,hq=>by cases hq
 |(r,a)::c,h,q,hq=>by
  simp[GB,aN]at h;rcases aci.1 hq with rfl|hq
  ·simp_all
  exact DO h.2 q hq
def GC:∀{ba:List (Nat×Nat)},∀q∈xG ba,q.2=0
 |[],q,hq=>by simp[xG]at hq
 |(r,a)::c,q,hq=>by
  rcases aci.1 hq with rfl|hq
  ·rfl
  exact GC q hq
def GD{α:Type}(f:Nat->α):∀ba:List (Nat×Nat),(xG ba).map (λq=>f q.1)=ba.map λq=>f q.1
 |[]=>rfl
 |(r,a)::c=>by simp[xG,GD f c]
def tn(l m:aV)(x y:SV):Prop:=match x with
 |.bA r a g2 p=>y=.bA r 0 0 p/\okB l m (kl p) r g2 p=true/\(gt l r).g1=a
 |.ptr r a g2 p=>y=.ptr r 0 0 p/\okB l m (flat p) r g2 p=true/\(gt l r).g1=a
 |.abs J=>y=.abs J
 |.fI g ba=>y=.fI g (xG ba)/\GB l ba=true
 |_=>False
def Zi(l m:aV)(x y:SV):Prop:=match x with
 |.bA r a g2 p=>y=.bA r 0 0 p/\okB l m (kl p) r g2 p=true/\(gt l r).g1=a
 |.ptr r a g2 p=>y=.ptr r 0 0 p/\okB l m (flat p) r g2 p=true/\(gt l r).g1=a
 |.abs J=>y=.abs J
 |.fI g ba=>y=.fI g (xG ba)/\GB l ba=true
 |x=>x.plain=true/\LeT x y
def LR(l m:aV):List (Nat×SV)->Prop
 |[]=>True
 |(i,y)::r=>Zi l m (gt l i).v y/\LR l m r
abbrev Fits(l:aV)(l':List (Nat×SV)):Prop:=LR l (sl l') l'
def an.plain{x y:SV}(h:an x y)(hp:x.plain=true):y.plain=true:=by
 cases x
 case fe=>
  unfold an at h;split at h
  ·rfl
  subst h;exact hp
 all_goals first|(subst h;exact hp)|(cases y<;>first|rfl|exact h.elim)
def LeT.plain{x y:SV}(h:LeT x y)(hp:x.plain=true):y.plain=true:=by
 unfold LeT at h;split at h
 ·split at h
  ·rfl
  exact h.plain hp
 exact h.plain hp
def zH(l m:aV):List (Nat×SV)->Prop
 |[]=>True
 |(i,y)::r=>(((gt l i).v.plain=true/\y.plain=true/\uJ (gt l i).v.den y.den)\/tn l m (gt l i).v y)/\zH l m r
abbrev uK(l:aV)(l':List (Nat×SV)):Prop:=zH l (sl l') l'
def C6{m:aV}:∀{l':List (Nat×SV)},zH l m l'->∀i,(gt (sl l') i).v=.dead\/((gt l i).v.plain=true/\(gt (sl l') i).v.plain=true/\uJ (gt l i).v.den (gt (sl l') i).v.den)\/tn l m (gt l i).v (gt (sl l') i).v
 |[],_,i=>.inl rfl
 |(j,y)::r,h,i=>by
  simp[sl,gt];split
  ·rename_i hb;have:=adi hb;subst this;exact .inr h.1
  exact C6 h.2 i
def Gl{l':List (Nat×SV)}(h:uK l l')(i:Nat):(gt (sl l') i).v=.dead\/((gt l i).v.plain=true/\(gt (sl l') i).v.plain=true/\uJ (gt l i).v.den (gt (sl l') i).v.den)\/tn l (sl l') (gt l i).v (gt (sl l') i).v:=C6 h i
def Zi.IG{l m:aV}{x y:SV}(h:Zi l m x y):(x.plain=true/\y.plain=true/\uJ x.den y.den)\/tn l m x y:=by
 unfold Zi at h;split at h
 ·exact .inr h
 ·exact .inr h
 ·exact .inr h
 ·exact .inr h
 exact .inl ⟨h.1,h.2.plain h.1,h.2.den⟩
def LR.IG{l m:aV}:∀{l':List (Nat×SV)},LR l m l'->zH l m l'
 |[],_=>trivial
 |(_,_)::_,h=>⟨h.1.IG,LR.IG h.2⟩
def Zh(l m:aV)(x y:SV):Prop:=match x with
 |.bA r a g2 p=>y=.bA r 0 0 p/\okB l m (kl p) r g2 p=true/\(gt l r).g1=a
 |.ptr r a g2 p=>y=.ptr r 0 0 p/\okB l m (flat p) r g2 p=true/\(gt l r).g1=a
 |.abs J=>y=.abs J
 |.fI g ba=>y=.fI g (xG ba)/\GB l ba=true
 |x=>x.plain=true/\y.plain=true/\D3 x y
def D4(l m:aV):List (Nat×SV)->Prop
 |[]=>True
 |(i,y)::r=>Zh l m (gt l i).v y/\D4 l m r
abbrev AZ(l:aV)(l':List (Nat×SV)):Prop:=D4 l (sl l') l'
def Zh.IG{l m:aV}{x y:SV}(h:Zh l m x y):(x.plain=true/\y.plain=true/\uJ x.den y.den)\/tn l m x y:=by
 unfold Zh at h;split at h
 ·exact .inr h
 ·exact .inr h
 ·exact .inr h
 ·exact .inr h
 exact .inl ⟨h.1,h.2.1,h.2.2.den⟩
def D4.IG{l m:aV}:∀{l':List (Nat×SV)},D4 l m l'->zH l m l'
 |[],_=>trivial
 |(_,_)::_,h=>⟨h.1.IG,D4.IG h.2⟩
def HH{V:Hid}{w0 w:World}{S0:Nat->Prop}{a:Act}{l':List (Nat×SV)}(hf:uK l l')(h:Inv N V w0 S0 (dn l) a w):Inv N V w0 S0 (dn<|sl l') a w:=by
 obtain⟨S,F,hc,hN,jx,jn,gD,dB⟩:=h
 let D:Nat->Bool:=λi=>match(gt (sl l') i).v with|.dead=>true|.bA .. =>true|.ptr .. =>true|.fI .. =>true|_=>false
 have hD:∀i,D i=true->(gt (sl l') i).v=.dead\/tn l (sl l') (gt l i).v (gt (sl l') i).v:=by
  intro i hi;rcases Gl hf i with h|h|h
  ·exact .inl h
  ·simp[D]at hi;have:=h.2.1;cases hv:(gt (sl l') i).v<;>rw[hv]at hi this<;>first|exact .inl rfl|(simp[SV.plain]at this;done)|(cases hi;done)
  exact .inr h
 have Su:∀i,D i=false->((gt l i).v.plain=true/\(gt (sl l') i).v.plain=true/\uJ (gt l i).v.den (gt (sl l') i).v.den)\/∃J,(gt l i).v=.abs J/\(gt (sl l') i).v=.abs J:=by
  intro i hi;rcases Gl hf i with h|h|h
  ·simp[D,h]at hi
  ·exact .inl h
  unfold tn at h;split at h
  ·exfalso;simp[D,h.1]at hi
  ·exfalso;simp[D,h.1]at hi
  ·rename_i J hJ;exact .inr ⟨J,hJ,h⟩
  ·exfalso;simp[D,h.1]at hi
  exact h.elim
 have hch:∀i,∃p:List Nat×List Nat,(D i=true->p=([],[]))/\(D i=false->(F i).Perm (p.1++p.2)/\∀S':Nat->Prop,(∀b,S b->S' b)->(∀b∈p.2,S' b)->ak w S' (dn<|sl l') (tv V a) i p.1):=by
  intro i;cases hi:D i with
  |true=>exact⟨([],[]),λ_=>rfl,λh=>by simp at h⟩
  |false=>
   rcases Su i hi with⟨h1,h3,h2⟩|⟨J,h1,h2⟩
   ·have hr:=hc.rel i;rw[ak.aB<|by rw[dq,dh];exact h1]at hr;obtain⟨F1,F2,hp,hq⟩:=h2 _ _ _ _ hr;refine⟨(F1,F2),λh=>by simp at h,λ_=>⟨hp,λS' k1 k2=>?_⟩⟩;rw[ak.aB<|by rw[dq,dh];exact h3];exact hq S' k1 k2
   refine⟨(F i,[]),λh=>by simp at h,λ_=>⟨by simp,λS' k1 _=>?_⟩⟩;have hr:=hc.rel i;unfold ak at hr⊢;rw[dq,h1]at hr;rw[dq,h2];exactλw2 S2 q1 q2=>hr w2 S2 (λb hb=>q1 b<|hb.imp (k1 b) id) λb hb=>q2 b<|k1 b hb
 obtain⟨f,Wx⟩:=Classical.axiomOfChoice hch;have m1:∀i b,b∈(f i).1->D i=false/\b∈F i:=by
  intro i b hb;cases hi:D i with
  |true=>rw[(Wx i).1 hi]at hb;cases hb
  |false=>exact⟨rfl,((Wx i).2 hi).1.mem_iff.2<|by simp[hb]⟩
 have m2:∀i b,b∈(f i).2->D i=false/\b∈F i:=by
  intro i b hb;cases hi:D i with
  |true=>rw[(Wx i).1 hi]at hb;cases hb
  |false=>exact⟨rfl,((Wx i).2 hi).1.mem_iff.2<|by simp[hb]⟩
 refine⟨λb=>S b\/∃i,b∈(f i).2,λi=>(f i).1,⟨λi=>?_,λi=>?_,λi j gS b hb=>?_,λi b hb=>?_,λb hb=>?_⟩,hN,jx,λb hb=>.inl<|jn b hb,λb hb=>?_,dB⟩
 ·cases hi:D i with
  |true=>
   rcases hD i hi with e|e
   ·rw[ak.aB<|by rw[dq,e];rfl];rw[dq,e,(Wx i).1 hi];simp[SV.den,Rel]
   rw[(Wx i).1 hi];have hr:=hc.rel i;unfold tn at e;split at e
   ·rename_i r a1 b1 p hx;obtain⟨e1,e2,e3⟩:=e;unfold ak at hr⊢;rw[dq,hx]at hr;rw[dq,e1];simp only[SV.den]at hr⊢;obtain⟨k1,k2⟩:=JI e2;exact⟨ao,abC _,abC _,λ_ _ _=>hr.2.2.2 e3 k1 λh=>by rw[dq];exact k2 h⟩
   ·rename_i r a1 b1 p hx;obtain⟨e1,e2,e3⟩:=e;unfold ak at hr⊢;rw[dq,hx]at hr;rw[dq,e1];simp only[SV.den]at hr⊢;obtain⟨k1,k2⟩:=JI e2;exact⟨ao,abC _,abC _,hr.2.2.2.1,λ_ _ _=>hr.2.2.2.2 e3 k1 λh=>by rw[dq];exact k2 h⟩
   ·rename_i J hJ;simp only[D,e]at hi;cases hi
   ·rename_i g ba hx;obtain⟨e1,e2⟩:=e;unfold ak at hr⊢;rw[dq,hx]at hr;rw[dq,e1];simp only[SV.den]at hr⊢;refine⟨ao,λq hq=>by rw[GC q hq];exact abC _,λ_=>?_⟩;rw[hr.2.2 λq hq=>DO e2 q hq]
    congr 2
    exact(GD (tv V a) ba).symm
   exact e.elim
  |false=>exact((Wx i).2 hi).2 _ (λb hb=>.inl hb) λb hb=>.inr ⟨i,hb⟩
 ·show(f i).1.Nodup;cases hi:D i with
  |true=>rw[(Wx i).1 hi];simp
  |false=>exact(acT.1<|((Wx i).2 hi).1.nodup_iff.1<|hc.nodup i).1
 ·intro dO;exact hc.di i j gS b (m1 i b hb).2 (m1 j b dO).2
 ·have ho:=hc.own i b (m1 i b hb).2;refine⟨ho.1,ho.2.1,?_⟩;rintro(h|⟨j,hj⟩)
  ·exact ho.2.2 h
  by_cases gS:i=j
  ·subst gS;have hn:=acT.1<|((Wx i).2 (m1 i b hb).1).1.nodup_iff.1<|hc.nodup i;exact hn.2.2 b hb b hj rfl
  exact hc.di i j gS b (m1 i b hb).2 (m2 j b hj).2
 ·rcases hb with hb|⟨i,hb⟩
  ·exact hc.shr b hb
  exact(hc.own i b (m2 i b hb).2).2.1
 rcases hb with hb|⟨i,hb⟩
 ·exact gD b hb
 exact .inr (hc.own i b (m2 i b hb).2).1
def zw{c:Code}{Q:Exit->St->Prop}{l':List (Nat×SV)}(hf:uK l l')(h:AW R P N c Q (dn<|sl l')):AW R P N c Q (dn l):=λV w0 S0 a w hR hi=>h V w0 S0 a w hR<|HH hf hi
def aeo{c:Code}(l':List (Nat×SV))(hf:Fits l l')(h:AK R P N F (.code c::k) (sl l')):AK R P N F (.code c::k) l:=zw hf.IG h
def Kd{c:Code}(l':List (Nat×SV))(hf:AZ l l')(h:AK R P N F (.code c::k) (sl l')):AK R P N F (.code c::k) l:=zw hf.IG h
def D5{β:Type}(I:β->List (Nat×SV))(A:β->Prop)(μ:β->Nat)(y:β)(σ:St):Prop:=∃l',σ=dn l'/\∃z,μ z<μ y/\A z/\uK l' (I z)
def loop{β:Type}(I:β->List (Nat×SV))(A:β->Prop)(μ:β->Nat)(x:β){c:Code}(hx:A x)(hf:Fits l (I x))(hr:∀y,A y->AK R P N F (.code c::.inv (D5 I A μ y)::k) (sl<|I y)):AK R P N F (.code (.loop c)::k) l:=by
 refine Zb (λn σ=>∃y,μ y=n/\A y/\∃l',σ=dn l'/\uK l' (I y)) (n:=μ x) ⟨x,rfl,hx,l,rfl,hf.IG⟩ ?_;rintro n σ⟨y,rfl,hy,l1,rfl,KA⟩;refine jm (zw KA (hr y hy:AW R P N c (fR R P N F<|.inv (D5 I A μ y)::k) (dn<|sl<|I y))) λe σ' h=>?_;cases e with
 |normal=>obtain⟨l2,rfl,z,h1,h2,h3⟩:=h;exact⟨μ z,h1,z,rfl,h2,l2,rfl,h3⟩
 |_=>exact h
def again{β:Type}{I:β->List (Nat×SV)}{A:β->Prop}{μ:β->Nat}{y:β}(z:β)(h1:μ z<μ y)(h2:A z)(h3:Fits l (I z)):AK R P N F (.inv (D5 I A μ y)::k) l:=⟨l,rfl,z,h1,h2,h3.IG⟩
def DZ{β:Type}{I:β->List (Nat×SV)}{A:β->Prop}{μ:β->Nat}{y:β}(z:β)(h1:μ z<μ y)(h2:A z)(h3:AZ l (I z)):AK R P N F (.inv (D5 I A μ y)::k) l:=⟨l,rfl,z,h1,h2,h3.IG⟩
def Bq{β:Type}(I:β->List (Nat×SV))(A:β->Prop)(σ:St):Prop:=∃l',σ=dn l'/\∃z,A z/\uK l' (I z)
def cut{β:Type}(I:β->List (Nat×SV))(A:β->Prop){c d:Code}(h1:AK R P N F (.code c::.inv (Bq I A)::.code d::k) l)(h2:∀z,A z->AK R P N F (.code d::k) (sl<|I z)):AK R P N F (.code c::.code d::k) l:=by
 refine jm (h1:AW R P N c (fR R P N F<|.inv (Bq I A)::.code d::k) (dn l)) λe σ' h=>?_;cases e with
 |normal=>obtain⟨l2,rfl,z,h3,h4⟩:=h;exact zw h4 (h2 z h3)
 |_=>exact h
def meet{β:Type}{I:β->List (Nat×SV)}{A:β->Prop}(z:β)(h2:A z)(h3:Fits l (I z)):AK R P N F (.inv (Bq I A)::k) l:=⟨l,rfl,z,h2,h3.IG⟩
def aeg{β:Type}{I:β->List (Nat×SV)}{A:β->Prop}(z:β)(h2:A z)(h3:AZ l (I z)):AK R P N F (.inv (Bq I A)::k) l:=⟨l,rfl,z,h2,h3.IG⟩
end
section
variable{R:Option Nat->Prop}{P:Program}{N:Nat}{F:St->Prop}{k:List It}{l:aV}
section
variable{dd:Code}{β1 β2 β3:Type}
def kh(I:β1->β2->List (Nat×SV))(A:β1->β2->Prop)(μ:β1->β2->Nat)(x1:β1)(x2:β2){cc:Code}(hx:A x1 x2)(hf:Fits l (I x1 x2))
 (hr:∀a b,A a b->AK R P N F (.code cc::.inv (D5 (λt:β1×β2=>I t.1 t.2) (λt:β1×β2=>A t.1 t.2) (λt:β1×β2=>μ t.1 t.2) (a,b))::k) (sl<|I a b)):AK R P N F (.code (.loop cc)::k) l:=
 loop (λt:β1×β2=>I t.1 t.2) (λt:β1×β2=>A t.1 t.2) (λt:β1×β2=>μ t.1 t.2) (x1,x2) hx hf λy hy=>hr y.1 y.2 hy
def ajX(I:β1->β2->List (Nat×SV))(A:β1->β2->Prop){cc:Code}(h1:AK R P N F (.code cc::.inv (Bq (λt:β1×β2=>I t.1 t.2) λt:β1×β2=>A t.1 t.2)::.code dd::k) l)(h2:∀a b,A a b->AK R P N F (.code dd::k) (sl<|I a b)):AK R P N F (.code cc::.code dd::k) l:=cut (λt:β1×β2=>I t.1 t.2) (λt:β1×β2=>A t.1 t.2) h1 λy hy=>h2 y.1 y.2 hy
def oN(I:β1->β2->β3->List (Nat×SV))(A:β1->β2->β3->Prop)(μ:β1->β2->β3->Nat)(x1:β1)(x2:β2)(x3:β3){cc:Code}(hx:A x1 x2 x3)(hf:Fits l (I x1 x2 x3))
 (hr:∀a b c,A a b c->AK R P N F (.code cc::.inv (D5 (λt:β1×β2×β3=>I t.1 t.2.1 t.2.2) (λt:β1×β2×β3=>A t.1 t.2.1 t.2.2) (λt:β1×β2×β3=>μ t.1 t.2.1 t.2.2) (a,b,c))::k) (sl<|I a b c)):AK R P N F (.code (.loop cc)::k) l:=
 loop (λt:β1×β2×β3=>I t.1 t.2.1 t.2.2) (λt:β1×β2×β3=>A t.1 t.2.1 t.2.2) (λt:β1×β2×β3=>μ t.1 t.2.1 t.2.2) (x1,x2,x3) hx hf λy hy=>hr y.1 y.2.1 y.2.2 hy
def aeh{β4:Type}(I:β1->β2->β3->β4->List (Nat×SV))(A:β1->β2->β3->β4->Prop)(μ:β1->β2->β3->β4->Nat)(x1:β1)(x2:β2)(x3:β3)(x4:β4){cc:Code}(hx:A x1 x2 x3 x4)(hf:Fits l (I x1 x2 x3 x4))
 (hr:∀a b c d,A a b c d->AK R P N F (.code cc::.inv (D5 (λt:β1×β2×β3×β4=>I t.1 t.2.1 t.2.2.1 t.2.2.2) (λt:β1×β2×β3×β4=>A t.1 t.2.1 t.2.2.1 t.2.2.2) (λt:β1×β2×β3×β4=>μ t.1 t.2.1 t.2.2.1 t.2.2.2) (a,b,c,d))::k) (sl<|I a b c d)):AK R P N F (.code (.loop cc)::k) l:=
 loop (λt:β1×β2×β3×β4=>I t.1 t.2.1 t.2.2.1 t.2.2.2) (λt:β1×β2×β3×β4=>A t.1 t.2.1 t.2.2.1 t.2.2.2) (λt:β1×β2×β3×β4=>μ t.1 t.2.1 t.2.2.1 t.2.2.2) (x1,x2,x3,x4) hx hf λy hy=>hr y.1 y.2.1 y.2.2.1 y.2.2.2 hy
def acx(I:List (Nat×SV))(A:Prop){cc:Code}(h1:AK R P N F (.code cc::.inv (Bq (λ_:Unit=>I) λ_=>A)::.code dd::k) l)(h2:A->AK R P N F (.code dd::k) (sl I)):AK R P N F (.code cc::.code dd::k) l:=cut _ _ h1 λ_ h=>h2 h
def aP{I:List (Nat×SV)}{A:Prop}(h2:A)(h3:Fits l I):AK R P N F (.inv (Bq (λ_:Unit=>I) λ_=>A)::k) l:=meet () h2 h3
end
end
section
variable{R:Option Nat->Prop}{P:Program}{N:Nat}{F:St->Prop}{k:List It}{l:aV}
def nR{β:Type}(I:β->List (Nat×SV))(A:β->Prop){d:Code}(h2:∀z,A z->AK R P N F (.code d::k) (sl<|I z)):∀(cs:List Code)(e:Exit)(σ:St),fR R P N F (cs.map .code++.inv (Bq I A)::.code d::k) e σ->fR R P N F (cs.map .code++.code d::k) e σ
 |[],e,σ,h=>by
  cases e with
  |normal=>obtain⟨l2,rfl,z,h3,h4⟩:=h;exact zw h4 (h2 z h3)
  |_=>exact h
 |c::cs,e,σ,h=>by
  cases e with
  |normal=>exact jm (h:AW R P N c (fR R P N F<|cs.map .code++.inv (Bq I A)::.code d::k) σ) λe σ' h=>nR I A h2 cs e σ' h
  |ret=>exact nR I A h2 cs .ret σ h
  |exit id=>exact nR I A h2 cs (.exit id) σ h
  |goto id=>exact nR I A h2 cs (.goto id) σ h
  |panic v=>exact nR I A h2 cs (.panic v) σ h
  |outgrown=>exact nR I A h2 cs .outgrown σ h
def l8:Nat->Code->List Code×Code
 |n+1,.seq a b=>(a::(l8 n b).1,(l8 n b).2)
 |_,c=>([],c)
def Ci:∀(n:Nat)(c:Code)(σ:St),fR R P N F ((l8 n c).1.map .code++.code (l8 n c).2::k) .normal σ->fR R P N F (.code c::k) .normal σ
 |0,c,σ,h=>h
 |n+1,.seq a b,σ,h=>by
  refine VQ<|jm (h:AW R P N a (fR R P N F<|(l8 n b).1.map .code++.code (l8 n b).2::k) σ) λe σ' h=>?_;have hk:∀(cs:List Code)(d:Code)(e:Exit),(e=.normal->False)->fR R P N F (cs.map .code++.code d::k) e σ'->fR R P N F k e σ':=by
   intro cs
   induction cs with
   |nil=>intro d e he h;cases e<;>first|exact absurd rfl he|exact h
   |cons c cs ih=>intro d e he h;exact ih d e he (by cases e<;>first|exact absurd rfl he|exact h)
  cases e with
  |normal=>exact Ci n b σ' h
  |ret=>exact hk _ _ _ (by simp) h
  |exit id=>exact hk _ _ _ (by simp) h
  |goto id=>exact hk _ _ _ (by simp) h
  |panic v=>exact hk _ _ _ (by simp) h
  |outgrown=>exact hk _ _ _ (by simp) h
 |_+1,.skip,σ,h|_+1,.label _,σ,h|_+1,.region ..,σ,h|_+1,.block ..,σ,h|_+1,.scope ..,σ,h
 |_+1,.exit ..,σ,h|_+1,.ret,σ,h|_+1,.cond ..,σ,h|_+1,.loop ..,σ,h|_+1,.goto ..,σ,h|_+1,.rangeFunc ..,σ,h|_+1,.refuse ..,σ,h=>h
def EM{β:Type}(n:Nat)(I:β->List (Nat×SV))(A:β->Prop){c:Code}(h1:AK R P N F ((l8 n c).1.map .code++.inv (Bq I A)::.code (l8 n c).2::k) l)(h2:∀z,A z->AK R P N F (.code (l8 n c).2::k) (sl<|I z)):AK R P N F (.code c::k) l:=Ci n c _ (nR I A h2 _ _ _ h1)
def b8(n:Nat)(I:List (Nat×SV))(A:Prop){c:Code}(h1:AK R P N F ((l8 n c).1.map .code++.inv (Bq (λ_:Unit=>I) λ_=>A)::.code (l8 n c).2::k) l)(h2:A->AK R P N F (.code (l8 n c).2::k) (sl I)):AK R P N F (.code c::k) l:=EM n _ _ h1 λ_ h=>h2 h
def xr{β1 β2:Type}(n:Nat)(I:β1->β2->List (Nat×SV))(A:β1->β2->Prop){c:Code}(h1:AK R P N F ((l8 n c).1.map .code++.inv (Bq (λt:β1×β2=>I t.1 t.2) λt:β1×β2=>A t.1 t.2)::.code (l8 n c).2::k) l)(h2:∀a b,A a b->AK R P N F (.code (l8 n c).2::k) (sl<|I a b)):AK R P N F (.code c::k) l:=EM n _ _ h1 λy h=>h2 y.1 y.2 h
end
section
variable{R:Option Nat->Prop}{P:Program}{N:Nat}{V:Hid}{w w0:World}{S S0:Nat->Prop}
def WO{vs:List Value}(hN:N<=1000000)(hl:vs.length<=N):tv V {tmps:=vs.toArray++Array.replicate (N-vs.toArray.size) undef,defers:=[]}=aX V vs:=by
 funext i
 simp only[tv,aX];have hs:(vs.toArray++Array.replicate (N-vs.toArray.size) undef).size=N:=by simp;omega
 rw[hs];by_cases hi:i<1000000
 ·simp only[hi];simp;by_cases h:i<vs.length
  ·rw[Array.getElem?_append_left h];simp
  rw[adA<|by omega,Array.getElem?_append_right<|by simp;omega];simp[Array.getElem?_replicate];split<;>simp
 have:¬i<N:=by omega
 simp[hi,this]
def Q4{xs:List AV}{vs:List Value}{F:List Nat}(h:Cells w S false xs vs F):Rel w S (nN xs) (uv vs.toArray) F:=by
 generalize oy:vs.toArray=ys;have hyl:vs=ys.toList:=by rw[<-oy]
 rw[hyl]at h;unfold uv;have hlen:=Cells.length h;cases xs with
 |nil=>rw[dif_neg<|by simp at hlen;simp[hlen]];exact⟨ys,rfl,h⟩
 |cons x xs=>cases xs with
  |nil=>
   have h1:ys.size=1:=hlen;rw[dif_pos h1];obtain⟨y,l',F1,F2,e1,rfl,-,k5,rfl,rfl⟩:=h;have:ys[0]=y:=by have:=acN e1;subst this;rfl
   rw[this];simpa[nN]using k5
  |cons x' xs=>rw[dif_neg<|by simp at hlen;omega];exact⟨ys,rfl,h⟩
def ajS(Q:St->Prop):Exit->St->Prop
 |.normal,σ=>Q σ
 |.ret,σ=>Q σ
 |_,_=>False
def GY{f:FuncId}{fn:Func}{c:Code}{H args H':List AV}{r:AV}{Q:St->Prop}(hf:P.funcs[f]?=some fn)(hb:fn.body=some c)(hn:(fn.name== "runtime.NumGoroutine")=false)(hlen:args.length<=fn.ntmps)(hN:fn.ntmps<=1000000)
 (hd:eE fn.results.toList []=true)(h:AW R0 P fn.ntmps c (ajS Q) (both args H))
 (hQ:∀σ,Q σ->∀V w0 S0 a w,Inv fn.ntmps V w0 S0 σ a w->∃σ2,Inv fn.ntmps V w0 S0 σ2 a w/\(∃xs,iP P σ2 fn.results.toList=some xs/\uJ (nN xs) r)/\∀(k:Nat)(y:AV),H'[k]?=some y->(σ2<|1000000+k).av=y/\y.jF=true):
 IE P f H args H' r:=by
 intro w S V vs F hl hG hc;obtain⟨V0,IL⟩:∃V0:Hid,V0={v:=V.v,g:=V.g}:=⟨_,rfl⟩;have ev:V0.v=V.v:=by rw[IL]
 have eg:V0.g=V.g:=by rw[IL]
 have em:cu V0 w=cu V w:=by unfold cu;rw[eg]
 have hinv:Inv fn.ntmps V0 w S (both args H) {tmps:=vs.toArray++Array.replicate (fn.ntmps-vs.toArray.size) undef,defers:=[]} w:=by
  refine⟨S,F,?_,by simp;omega,by rw[IL],λ_ h=>h,λ_ h=>.inl h,lP.refl _ _⟩;rw[WO hN<|by omega,em];have e2:aX V0 vs=aX V vs:=by unfold aX;rw[ev]
  rw[e2];exact⟨hc.rel,hc.nodup,hc.di,λi b hb=>⟨.inr (hc.own i b hb).1,(hc.own i b hb).2⟩,hc.shr⟩
 have x8:V0.rd=none:=by rw[IL]
 have hh:=h V0 w S _ w ⟨by rw[IL];rfl,hG.laid,by rw[eg];exact hG.apart⟩ hinv;rw[x8]at hh;refine rX.pH hf (by rw[hb];rfl) hn<|(callsIn_wide (n:=0)).1<|callsIn_of_wp_marks hf hb ao<|wpIn_mono hh λe a' w1⟨σ',h1,S1,F1,ds,ab1,vq,ai8,air,aiq,vp,hm⟩=>?_;have jx:a'.defers=ds:=by rw[ai8,IL];exact adw _
 have gen:Q σ'->LeavesInM Fence.wide 0 P fn a'.tmps (λe w'=>∃v',e=.returned v'/\∃S' F',uj V w w w'/\(∀b,S b->S' b)/\(∀b,S' b->S b\/cu V w b)/\aS S' (cu V w) (both [r] H') (aX V [v']) w' F') a'.defers .returning w1:=by
  intro hq0;rw[jx];refine qR ds w1 hm.1 (λd hd=>by obtain⟨D,k1,k2,-⟩:=hm.2 d hd;exact⟨D,k1,k2⟩) λw' yM=>?_;have hi:Inv fn.ntmps {v:=V.v,g:=V.g,df:=ds} w S σ' a' w':=by have k1:=ab1.shut hm yM;have k2:=vp.shut hm yM;subst IL;exact⟨S1,F1,k1,vq,jx,air,aiq,⟨k2.os,k2.tape,k2.output,k2.size,k2.block⟩⟩
  have key:Q σ'->∃v,(results fn a'.tmps).run P w'=.ok v w'/\∃v',Ending.returned v=.returned v'/\
   ∃S' F',uj V w w w'/\(∀b,S b->S' b)/\(∀b,S' b->S b\/cu V w b)/\aS S' (cu V w) (both [r] H') (aX V [v']) w' F':=by
   intro hq;obtain⟨σ2,⟨S',F,gw,hNN,jx,jn,gD,dB⟩,⟨xs,hx,hle⟩,hH⟩:=hQ σ' hq _ w S a' w' hi;obtain⟨vs,F',k1,k2,k3,k4⟩:=qG gw _ [] hd hx;have eQ:∀b∈F',cu V w b/\b<w'.heap.size/\¬S' b:=λb hb=>by obtain⟨i,-,-,hi⟩:=k4 b hb;exact gw.own i b hi
   have IH:(results fn a'.tmps).run P w'=.ok (uv vs.toArray) w':=by rw[B5,Array.mapM_eq_mapM_toList];simp only[map_eq_pure_bind,bind_assoc,pure_bind,Sem.run_bind,k1,Result.andThen_ok,Sem.run_pure]
   obtain⟨F1,F2,hp,hq⟩:=hle w' S' (uv vs.toArray) F'<|Q4 k2;have m1:∀b∈F1,b∈F':=λb hb=>hp.mem_iff.2 (by simp[hb]);have m2:∀b∈F2,b∈F':=λb hb=>hp.mem_iff.2 (by simp[hb]);have hn:=acT.1<|hp.nodup_iff.1 k3;have dc:∀k,∀b∈F (1000000+k),b∉F':=λk b hb dO=>by obtain⟨i,-,cS,hi⟩:=k4 b dO;exact gw.di (1000000+k) i (by omega) b hb hi
   have hr:=hq (λb=>S' b\/b∈F2) (λb hb=>.inl hb) λb hb=>.inr hb;refine⟨_,IH,_,rfl,λb=>S' b\/b∈F2,λi=>if i=0 then F1 else if 1000000<=i/\i-1000000<H'.length then F i else[],⟨dB.os,dB.tape,dB.output,dB.size,dB.block⟩,λb hb=>.inl<|jn b hb,?_,?_⟩
   ·rintro b(hb|hb)
    ·exact gD b hb
    exact .inr (eQ b<|m2 b hb).1
   have X7:∀b,S' b\/b∈F2->b<w'.heap.size:=by
    rintro b(hb|hb)
    ·exact gw.shr b hb
    exact(eQ b<|m2 b hb).2.1
   refine⟨λi=>?_,λi=>?_,λi j gS b hb=>?_,λi b hb=>?_,X7⟩
   ·by_cases h0:i=0
    ·subst h0;simp[if_true];have dB:=gG (args:=[r]) (H:=H') (i:=0) (by omega);simp[aia]at dB;rw[ak.aB<|by rw[dB];exact hr.plain,dB];simpa[aX]using hr
    by_cases h1:i<1000000
    ·have vp:=gG (args:=[r]) (H:=H') h1;rw[adA<|by simp;omega]at vp;rw[ak.aB<|by rw[vp];rfl,vp];have:¬(1000000<=i/\i-1000000<H'.length):=by omega
     simp[h0,this,if_false,Rel]
    obtain⟨k,rfl⟩:∃k,i=1000000+k:=⟨i-1000000,by omega⟩;have vp:=fJ (args:=[r]) (H:=H') (by simp) k;by_cases hk:k<H'.length
    ·rw[acL hk]at vp;obtain⟨e1,e2⟩:=hH k _<|acL hk;have fK:=gw.rel<|1000000+k;have se:1000000<=1000000+k/\1000000+k-1000000<H'.length:=by omega
     simp only[h0,if_false,se,and_self,if_true];have ht:tv V a' (1000000+k)=aX V [uv vs.toArray] (1000000+k):=by simp[tv,aX];rw[if_neg<|by omega,if_neg<|by omega]
     generalize H'[k]=y at*;cases y with
     |abs J=>unfold ak at fK⊢;rw[e1]at fK;rw[vp];exactλw2 S2 q1 q2=>fK w2 S2 (λb hb=>q1 b<|hb.imp .inl id) λb hb=>q2 b (.inl hb)
     |bA _ _ _ _=>simp[AV.jF]at e2
     |ptr _ _ _ _=>simp[AV.jF]at e2
     |fI _ _=>simp[AV.jF]at e2
     |_=>rw[ak.aB<|by rw[e1];rfl,e1]at fK;rw[ak.aB<|by rw[vp];rfl,vp,<-ht];exact Rel.mono (λb hb=>.inl hb) _ fK
    rw[adA<|by omega]at vp;rw[ak.aB<|by rw[vp];rfl,vp];have:¬(1000000<=1000000+k/\1000000+k-1000000<H'.length):=by omega
    simp only[h0,this,if_false,Rel]
   ·show(if i=0 then F1 else if 1000000<=i/\i-1000000<H'.length then F i else[]).Nodup;split
    ·exact hn.1
    split
    ·exact gw.nodup i
    simp
   ·replace hb:b∈if i=0 then F1 else if 1000000<=i/\i-1000000<H'.length then F i else[]:=hb
    show b∉if j=0 then F1 else if 1000000<=j/\j-1000000<H'.length then F j else[];split at hb
    ·split
     ·omega
     split
     ·rename_i hj;intro dO;have e:j=1000000+(j-1000000):=by omega
      rw[e]at dO;exact dc _ b dO<|m1 b hb
     simp
    split at hb
    ·rename_i hi;split
     ·intro dO;have e:i=1000000+(i-1000000):=by omega
      rw[e]at hb;exact dc _ b hb<|m1 b dO
     split
     ·exact gw.di i j gS b hb
     simp
    cases hb
   replace hb:b∈if i=0 then F1 else if 1000000<=i/\i-1000000<H'.length then F i else[]:=hb
   split at hb
   ·have ho:=eQ b (m1 b hb);refine⟨ho.1,ho.2.1,?_⟩;rintro(h|h)
    ·exact ho.2.2 h
    exact hn.2.2 b hb b h rfl
   split at hb
   ·rename_i hi;have ho:=gw.own i b hb;refine⟨ho.1,ho.2.1,?_⟩;rintro(h|h)
    ·exact ho.2.2 h
    have e:i=1000000+(i-1000000):=by omega
    rw[e]at hb;exact dc _ b hb<|m2 b h
   cases hb
  exact key hq0
 cases e with
 |normal=>exact gen h1
 |ret=>exact gen h1
 |_=>exact h1.elim
def lp(P:Program)(f:FuncId)(H args H':List SV)(r:SV):Prop:=IE P f (au H) (au args) (au H') r.den
def lp.same{P:Program}{f:FuncId}{H H2 aas bs G G2:List SV}{r q:SV}(h:lp P f H aas G r)(e1:au H=au H2)(e2:au aas=au bs)(e3:au G=au G2)(e4:r.den=q.den):lp P f H2 bs G2 q:=by unfold lp at *;rw[<-e1,<-e2,<-e3,<-e4];exact h
def Gn:∀(k:Nat)(xs:List SV)(m:aV)(L:List (Nat×Sl)),dn m=mk L->dn (cat (Bl k xs) m)=mk (entry k (au xs)++L)
 |_,[],m,L,h=>h
 |k,x::xs,m,L,h=>by simp[Bl,cat,eW,Gn (k+1) xs m L h];rfl
def Vq(args H:List SV):aV:=cat (Bl 0 args)<|Bl 1000000 H
def Vp(args H:List SV):dn (Vq args H)=both (au args) (au H):=Gn 0 args _ _<|Dk 1000000 H
def HN(l:aV):Nat->List SV->Prop
 |_,[]=>True
 |k,y::ys=>((gt l k).v=y/\y.plain=true)/\HN l (k+1) ys
def Kw{l:aV}:∀{ys:List SV}{k:Nat}(j:Nat){y:AV},HN l k ys->(au ys)[j]?=some y->(dn l<|k+j).av=y/\y.plain=true
 |[],k,j,y,_,h=>by simp[au]at h
 |x::ys,k,j,y,hh,h=>by
  cases j with
  |zero=>simp[au]at h;subst h;exact⟨by rw[dq,ag6,hh.1.1],by rw[dh];exact hh.1.2⟩
  |succ j=>have:=Kw j hh.2 h;rw[show k+1+j=k+(j+1) by omega]at this;exact this
def RF(l:aV):Nat->List SV->Prop
 |_,[]=>True
 |k,y::ys=>((gt l k).v=y/\y.jF=true)/\RF l (k+1) ys
def Kv{l:aV}:∀{ys:List SV}{k:Nat}(j:Nat){y:AV},RF l k ys->(au ys)[j]?=some y->(dn l<|k+j).av=y/\y.jF=true
 |[],k,j,y,_,h=>by simp[au]at h
 |x::ys,k,j,y,hh,h=>by
  cases j with
  |zero=>simp[au]at h;subst h;exact⟨by rw[dq,ag6,hh.1.1],by rw[pJ];exact hh.1.2⟩
  |succ j=>have:=Kv j hh.2 h;rw[show k+1+j=k+(j+1) by omega]at this;exact this
def HN.n{l:aV}:∀{ys:List SV}{k:Nat},HN l k ys->RF l k ys
 |[],_,_=>trivial
 |y::ys,k,h=>⟨⟨h.1.1,by have:=h.1.2;cases y<;>first|rfl|(simp[SV.plain]at this)⟩,HN.n h.2⟩
def Wa(P:Program)(rs:List ResultVar)(r:SV)(H':List SV)(σ:St):Prop:=∃l l',σ=dn l/\uK l l'/\(∃xs,iP P (dn<|sl l') rs=some xs/\uJ (nN xs) r.den)/\RF (sl l') 1000000 H'
variable{tt:TT}{F:St->Prop}{k:List It}{l:aV}
def vD{f:FuncId}{fn:Func}{c:Code}{H args H':List SV}{r:SV}(hf:P.funcs[f]?=some fn)(hb:fn.body=some c)(hn:(fn.name== "runtime.NumGoroutine")=false)(hlen:Nat.ble (len args) fn.ntmps=true)(hN:Nat.ble fn.ntmps 1000000=true)
 (hd:eE fn.results.toList []=true)(h:AK R0 P fn.ntmps (Wa P fn.results.toList r H') [.code c] (Vq args H)):lp P f H args H' r:=by
 refine GY (Q:=Wa P fn.results.toList r H') hf hb hn (by rw[bq,<-eV];exact adk hlen) (adk hN) hd ?_ ?_
 ·rw[<-Vp];exact jm (h:AW R0 P fn.ntmps c (fR R0 P fn.ntmps (Wa P fn.results.toList r H') []) (dn<|Vq args H)) λe σ' h=>by cases e<;>exact h
 rintro σ⟨l,l',rfl,h1,h2,h3⟩V w0 S0 a w hi;exact⟨dn<|sl l',HH h1 hi,h2,λk y hy=>Kv k h3 hy⟩
def ahP(hA:cq P tt){rs:List ResultVar}{r:SV}{H':List SV}{xs:List SV}(l':List (Nat×SV))(hf:AZ l l')(h:iO tt (sl l') rs=some xs)(hr:an (A5 xs) r)(hh:RF (sl l') 1000000 H'):
 AK R P N (Wa P rs r H') [] l:=by
 refine⟨l,l',rfl,hf.IG,⟨_,np hA h,?_⟩,hh⟩;rw[wc];exact uJ.of_le hr.den
def Jq(x:SR):Option (Nat×SV):=
 match x.sl.v with
 |.bA r _ _ _=>some (r,x.rt.v)
 |.ptr r _ _ _=>some (r,x.rt.v)
 |y=>match y.aF with
  |true=>none
  |false=>match x.s with
   |some s=>some (s,y)
   |none=>none
def jz:List (Nat×SV)->List (Nat×AV)
 |[]=>[]
 |(r,y)::R=>(r,y.den)::jz R
def Ef:List (Nat×SV)->Nat->Option Nat
 |[],_=>none
 |(r,_)::R,s=>match Nat.beq r s with
  |true=>some 0
  |false=>match Ef R s with
   |some k=>some (k+1)
   |none=>none
def pE:∀(R:List (Nat×SV))(s:Nat),iG (jz R) s=Ef R s
 |[],s=>rfl
 |(r,y)::R,s=>by
  simp[jz,iG,Ef,pE R s];cases h:Nat.beq r s with
  |true=>simp[adi h]
  |false=>rw[if_neg λe=>by subst e;simp at h];cases Ef R s<;>rfl
def Js{x:bM}(h:x.sl.av.jF=true):rD x=if x.sl.av.aF then none else x.s.map λs=>(s,x.sl.av):=by unfold rD;cases hh:x.sl.av<;>rw[hh]at h<;>first|(simp[AV.jF]at h;done)|(dsimp only;split<;>first|rfl|(cases x.s<;>rfl))
def Jp{x:SR}(h:x.sl.v.jF=true):Jq x=if x.sl.v.aF then none else x.s.map λs=>(s,x.sl.v):=by unfold Jq;cases hh:x.sl.v<;>rw[hh]at h<;>first|(simp[SV.jF]at h;done)|(dsimp only;split<;>rename_i hb<;>simp[hb]<;>first|rfl|(cases x.s<;>rfl))
def QH(x:SR):rD x.den=(Jq x).map λq=>(q.1,q.2.den):=by
 cases hp:x.sl.v.jF with
 |true=>
  rw[Jp hp,Js (x:=x.den)<|by rw[<-hp,<-pJ];rfl];have e:x.den.sl.av=x.sl.v.den:=rfl;have e2:x.den.s=x.s:=rfl;rw[e,e2,cz];split
  ·rfl
  cases x.s<;>rfl
 |false=>obtain⟨s,⟨v,g1,g2⟩,rt⟩:=x;cases v<;>first|(simp[SV.jF]at hp;done)|rfl|(cases s<;>rfl)
def eC:List (Nat×SV)->List SR->List (Nat×SV)
 |R,[]=>R
 |R,x::xs=>match Jq x with
  |some (r,y)=>match Ef R r with
   |some _=>eC R xs
   |none=>eC (cat R [(r,y)]) xs
  |none=>eC R xs
def Lm:∀(R:List (Nat×SV))(r:Nat)(y:SV),jz (cat R [(r,y)])=jz R++[(r,y.den)]
 |[],r,y=>rfl
 |(s,z)::R,r,y=>by simp[cat,jz,Lm R r y]
def lE:∀(R:List (Nat×SV))(xs:List SR),du (jz R) (xs.map SR.den)=jz (eC R xs)
 |R,[]=>rfl
 |R,x::xs=>by
  simp[du,eC,QH];cases Jq x with
  |none=>exact lE R xs
  |some q=>
   obtain⟨r,y⟩:=q;simp[pE];cases Ef R r with
   |some k=>exact lE R xs
   |none=>rw[<-Lm];exact lE _ xs
def Oh(R:List (Nat×SV))(x:SR):Option SV:=
 match x.sl.v with
 |.bA r g1 g2 p=>match Ef R r with
  |some k=>match cW (Nat.beq x.rt.g1 g1) (EP (kl p)<|Nat.beq x.rt.g2 g2)with
   |true=>some (.bA (1000000+k) 0 0 p)
   |false=>none
  |none=>none
 |.ptr r g1 g2 p=>match Ef R r with
  |some k=>match cW (Nat.beq x.rt.g1 g1) (EP (flat p)<|Nat.beq x.rt.g2 g2)with
   |true=>some (.ptr (1000000+k) 0 0 p)
   |false=>none
  |none=>none
 |y=>match y.aF with
  |true=>some y
  |false=>match x.s with
   |some s=>match Ef R s with
    |some k=>some (.bA (1000000+k) 0 0 [])
    |none=>none
   |none=>none
def Oi{R:List (Nat×AV)}{x:bM}(h:x.sl.av.jF=true):uh R x=if x.sl.av.aF then some x.sl.av else match x.s with
 |some s=>match iG R s with
  |some k=>some (.bA (1000000+k) 0 0 [])
  |none=>none
 |none=>none:=by
 unfold uh;cases hh:x.sl.av<;>rw[hh]at h<;>first|(simp[AV.jF]at h;done)|rfl
def Og{R:List (Nat×SV)}{x:SR}(h:x.sl.v.jF=true):Oh R x=match x.sl.v.aF with
 |true=>some x.sl.v
 |false=>match x.s with
  |some s=>match Ef R s with
   |some k=>some (.bA (1000000+k) 0 0 [])
   |none=>none
  |none=>none:=by
 unfold Oh;cases hh:x.sl.v<;>rw[hh]at h<;>first|(simp[SV.jF]at h)|rfl
def VX{R:List (Nat×SV)}{x:SR}{y:SV}(h:Oh R x=some y):uh (jz R) x.den=some y.den:=by
 cases hp:x.sl.v.jF with
 |true=>
  rw[Og hp]at h;rw[Oi (x:=x.den)<|by rw[<-hp,<-pJ];rfl];have e:x.den.sl.av=x.sl.v.den:=rfl;have e2:x.den.s=x.s:=rfl;rw[e,e2,cz];split at h
  ·rename_i hb;cases h;rw[if_pos hb]
  rename_i hb;rw[if_neg<|by rw[hb];simp];split at h<;>try(cases h)
  rename_i s hs;split at h<;>try(cases h;done)
  rename_i k hk;cases h;simp[pE,hk,SV.den]
 |false=>
  obtain⟨s,⟨v,g1,g2⟩,rt⟩:=x;cases v with
  |bA r a b p=>
   simp[Oh]at h;simp[uh,SR.den,Cl.den,pE];split at h<;>try(cases h)
   split at h<;>try(cases h;done)
   rename_i hb;simp[aN,ru]at hb;cases h;simp_all[SV.den]
  |ptr r a b p=>
   simp[Oh]at h;simp[uh,SR.den,Cl.den,pE];split at h<;>try(cases h)
   split at h<;>try(cases h;done)
   rename_i hb;simp[aN,ru]at hb;cases h;simp_all[SV.den]
  |fI g ba=>
   simp[Oh,SV.aF]at h;simp[uh,SR.den,Cl.den,SV.den,pE,AV.aF,aeu,if_false];cases s<;>simp only at h<;>try(cases h)
   split at h<;>try(cases h;done)
   rename_i hk;cases h;simp[hk,SV.den]
  |_=>simp[SV.jF]at hp
def DW(R:List (Nat×SV)):List SR->Option (List SV)
 |[]=>some []
 |x::xs=>match Oh R x with
  |some y=>match DW R xs with
   |some ys=>some (y::ys)
   |none=>none
  |none=>none
def tW{R:List (Nat×SV)}:∀{xs:List SR}{ys:List SV},DW R xs=some ys->rP (jz R) (xs.map SR.den)=some (au ys)
 |[],ys,h=>by simp[DW]at h;subst h;rfl
 |x::xs,ys,h=>by
  simp[DW]at h;split at h<;>try(cases h)
  rename_i y hy;split at h<;>try(cases h;done)
  rename_i Qm oy;cases h;simp[rP,VX hy,tW oy,au]
def lv:List (Nat×SV)->List SV
 |[]=>[]
 |(_,y)::R=>y::lv R
def vU:∀(R:List (Nat×SV)),(jz R).map (·.2)=au (lv R)
 |[]=>rfl
 |(r,y)::R=>by simp[jz,lv,au,vU R]
def RR:List (Nat×SV)->List Nat
 |[]=>[]
 |(r,_)::R=>r::RR R
def aai:List SV->Bool
 |[]=>true
 |x::xs=>match x.plain with
  |true=>aai xs
  |false=>false
def gW:∀(xs:List SV),aai xs=true->nT (au xs)=true
 |[],_=>rfl
 |x::xs,h=>by
  simp[aai]at h;split at h<;>try(cases h)
  rename_i hx;simp[au,nT,dh,hx,gW xs h]
def XF:List (Nat×SV)->Option Nat->Bool
 |_,none=>false
 |[],_=>false
 |(r,_)::R,some d=>match Nat.beq r d with
  |true=>true
  |false=>XF R<|some d
def wL:∀(R:List (Nat×SV))(d:Option Nat),XF R d=false->JX (jz R) d=false
 |[],d,h=>by cases d<;>rfl
 |(r,y)::R,none,h=>rfl
 |(r,y)::R,some d,h=>by
  simp[XF]at h;split at h<;>try(cases h)
  rename_i hb;simp only[jz,JX];rw[if_neg λe=>by subst e;simp at hb,wL R (some d) h]
structure lQ where
 g:FuncId
 aas:List SV
 R:List (Nat×SV)
def sT(l:aV)(f:Operand)(aas:List Operand):Option (List Pd×lQ):=
 (dP l f).bind λf=>(cX f).bind λ(ob,v)=>match v with
   |.fn (.func g) first captured=>(gF<|cW (gm first)<|gm captured).bind λ_=>(jg l aas).bind λxs=>match eC [] xs with
    |R=>(DW R xs).bind λys=>(gF<|Nat.ble (len first+len ys+len captured) 1000000).bind λ_=>some (ob,⟨g,cat first<|cat ys captured,R⟩)
   |_=>none
def qg(l:aV):List (Nat×SV)->List SV->aV
 |[],_=>l
 |(r,_)::R,ys=>match ys with
  |[]=>l
  |y::ys=>match gt l r with
   |⟨_,a,b⟩=>(r,⟨y,a,b+1⟩)::qg l R ys
def jl(l:aV):∀(R:List (Nat×SV))(ys:List SV),kr (dn l) (oz (jz R)<|au ys)=dn (qg l R ys)
 |[],ys=>rfl
 |(r,z)::R,[]=>rfl
 |(r,z)::R,y::ys=>by simp[jz,au,oz,kr,qg,eW,jl l R ys,Cl.den,AJ,PN]
def ic(l:aV)(dst:Option Nat)(R:List (Nat×SV))(out:List SV)(r:SV):Option (aV×List Nat):=
 match cW (Nat.beq (len R)<|len out) (cW (aai<|lv R)<|cW (aai out)<|cW r.plain<|not'<|XF R dst)with
 |false=>none
 |true=>match dst with
  |none=>some (qg l R out,RR R)
  |some d=>rF (qg l R out) [] d r λl'=>some (l',cat (RR R) [d])
def nZ:∀(R:List (Nat×SV))(ys:List SV),len R=len ys->(oz (jz R)<|au ys).map (·.1)=RR R
 |[],ys,_=>by cases ys<;>rfl
 |(r,z)::R,[],h=>by simp[eV]at h
 |(r,z)::R,y::ys,h=>by simp[jz,au,oz,RR];rw[nZ R ys<|by simpa[eV]using h]
def Dy(R:List (Nat×SV)):(jz R).length=R.length:=by
 induction R with
 |nil=>rfl
 |cons q R ih=>obtain⟨r,y⟩:=q;simp[jz,ih]
def acE{dst:Option Nat}{f:Operand}{aas:List Operand}{ob:List Pd}{h:lQ}{out:List SV}{r:SV}{l':aV}{ks:List Nat}(hh:sT l f aas=some (ob,h))(ho:ag ob)(ht:ic l dst h.R out r=some (l',ks)):
 ∃ms,Ai.uI dst (resolve (dn l) f) (aas.map<|resolve<|dn l) (au out) r.den=some (ms,[.refs h.g (au<|lv h.R) (au h.aas) (au out) r.den])/\Mv.runs (dn l) ms=some (dn l')/\aU ms=ks:=by
 simp[sT,ab3]at hh;obtain⟨x,h1,ob0,v,h2,h3⟩:=hh;cases v<;>try(cases h3)
 rename_i fn first captured
 cases fn<;>try(cases h3)
 rename_i g;simp only[ab3,bu,aN,ac3]at h3;obtain⟨_,⟨h4,h5⟩,xs,h6,ys,h7,_,h8,rfl,rfl⟩:=h3;have hf:x.den.cont=some (.fn (.func g) (au first)<|au captured):=aE h2 ho;simp[ic]at ht;split at ht<;>try(cases ht)
 rename_i hb;simp[aN,not_iff]at hb;obtain⟨b1,b2,b3,b4,b5⟩:=hb;have e1:du [] (aas.map<|resolve<|dn l)=jz (eC [] xs):=by rw[eD l h6];exact lE [] xs
 have e2:rP (jz<|eC [] xs) (aas.map<|resolve<|dn l)=some (au ys):=by rw[eD l h6];exact tW h7
 have KF:Ai.uI dst (resolve (dn l) f) (aas.map<|resolve<|dn l) (au out) r.den=some (cK dst r.den [.back<|oz (jz<|eC [] xs)<|au out],[.refs g (au<|lv<|eC [] xs) (au<|cat first<|cat ys captured) (au out) r.den]):=by
  unfold Ai.uI;rw[cF h1,hf];simp only[dS,h4,h5,aho,if_true,e1,e2,vU];rw[if_pos]
  ·simp[c8,bV]
  simp[gW _ b2,gW _ b3,dh,b4,wL _ _ b5,Dy,bq,Bool.not_false,aho,Bool.and_true,adx,acd,decide_eq_true_eq];have:=adk h8;simp[eV]at this b1;exact⟨b1,this⟩
 refine⟨_,KF,?_⟩;cases dst with
 |none=>cases ht;exact⟨by simp[cK,Mv.runs,Mv.run,jl],by simp[cK,aU,Mv.keys,adw];exact nZ _ _ b1⟩
 |some d=>simp[fo,abr,ac3]at ht;obtain⟨rfl,rfl⟩:=ht;exact⟨by simp[cK,agL,afG,Mv.runs,Mv.run,jl,gK],by simp[cK,agL,afG,aU,Mv.keys,adw,c8];rw[nZ _ _ b1]⟩
def Ha{all:Array Oper}{dst:Option Nat}{f:Operand}{aas ts:Array _}{ty:TypeId}{pos:String}{cL:Array Edge}{g:Option (Nat×Bool)}{K:List Mv->St->Prop}{ob:List Pd}{h:lQ}{out:List SV}{r:SV}{l':aV}{ks:List Nat}
 (hg:cP l all.toList g=some true)(hh:sT l f aas.toList=some (ob,h))(ho:ag ob)(hs:lp P h.g (lv h.R) h.aas out r)(ht:ic l dst h.R out r=some (l',ks))(hk:∀ms,aU ms=ks->K ms (dn l')):
 Jh P all ⟨dst,.call ⟨.value f,aas,ts⟩,ty,pos,cL,g⟩ (dn l) K:=by
 obtain⟨ms,h1,h2,h3⟩:=acE hh ho ht;refine⟨.refs (au out) r.den,ms,[.refs h.g (au<|lv h.R) (au h.aas) (au out) r.den],dn l',?_,?_,h2,hk ms h3⟩
 ·unfold eP;rw[dC (o:=⟨dst,.call ⟨.value f,aas,ts⟩,ty,pos,cL,g⟩) hg];exact h1
 simp;exact hs
def R7{all:Array Oper}{rest:List Oper}{dst:Option Nat}{f:Operand}{aas ts:Array _}{ty:TypeId}{pos:String}{cL:Array Edge}{g:Option (Nat×Bool)}{ob:List Pd}{h:lQ}{out:List SV}{r:SV}{l':aV}{ks:List Nat}
 (hg:cP l all.toList g=some true)(hh:sT l f aas.toList=some (ob,h))(ho:ag ob)(hs:lp P h.g (lv h.R) h.aas out r)(ht:ic l dst h.R out r=some (l',ks))(hk:AK R P N F (.ops all rest::k) l'):
 AK R P N F (.ops all (⟨dst,.call ⟨.value f,aas,ts⟩,ty,pos,cL,g⟩::rest)::k) l:=by
 exact Ha hg hh ho hs ht λms _=>hk
def Oa{all:Array Oper}{mm:List Nat}{acc:List (List Nat×List Nat)}{rest:List Oper}{dst:Option Nat}{f:Operand}{aas ts:Array _}{ty:TypeId}{pos:String}{cL:Array Edge}{g:Option (Nat×Bool)}{ob:List Pd}{h:lQ}{out:List SV}{r:SV}{l':aV}{ks:List Nat}
 (hg:cP l all.toList g=some true)(hh:sT l f aas.toList=some (ob,h))(ho:ag ob)(hs:lp P h.g (lv h.R) h.aas out r)(ht:ic l dst h.R out r=some (l',ks))
 (hk:AK R P N F (.og all mm rest ((ix (dn l) all ⟨dst,.call ⟨.value f,aas,ts⟩,ty,pos,cL,g⟩,ks)::acc)::k) l'):
 AK R P N F (.og all mm (⟨dst,.call ⟨.value f,aas,ts⟩,ty,pos,cL,g⟩::rest) acc::k) l:=by
 exact Ha hg hh ho hs ht λms mn=>by rw[mn];exact hk
def Vk(tt:TT)(l:aV)(d:Nat)(t:TypeId)(x:SR)(lo hi:Option SR):ox:=
 (slice? tt t).bind λe=>(GP tt e).bind λti=>(cX x).bind λ(ob,v)=>(pN v).bind λ(sz,n)=>(gF<|cW (jt v)<|Nat.beq sz ti.size).bind λ_=>(DA 0 0 v).bind λ_=>
   (pg lo 0).bind λ(nV,a)=>(pg hi n).bind λ(pI,b)=>(u4 x).bind λ(r,g1,_,p)=>(gF<|ne' r d).bind λ_=>cZ ((a<b)::(b<=n)::app ob (app nV pI)) l d (.bA r g1 (match x.sl.v with|.bA .. =>x.rt.g2|_=>x.sl.g2)<|p++[.lR sz a<|b-a])
def K4(hA:cq P tt)(d:Nat)(t:TypeId)(x:SR)(lo hi:Option SR):da l (SB P d t x.den (lo.map SR.den)<|hi.map SR.den) (Vk tt l d t x lo hi):=by
 refine aj _ λe h1=>aj _ λti h2=>aj _ λ⟨ob,v⟩h3=>aj _ λ⟨sz,n⟩h4=>bd λh5=>aj _ λz h6=>aj _ λ⟨nV,a⟩h7=>aj _ λ⟨pI,b⟩h8=>aj _ λ⟨r,g1,g2,p⟩h9=>bd λYv=>Qa _ _ λc=>?_
 obtain⟨k1,k2,c⟩:=c;obtain⟨c0,c⟩:=aM.1 c;obtain⟨c1,c2⟩:=aM.1 c;rw[aN,beq_iff]at h5;obtain⟨f,X,e1,e2⟩:=lJ h4;obtain⟨sz2,X2,q1,-⟩:=abn h6;rw[e1]at q1;obtain⟨rfl,rfl,rfl⟩:=q1;have hc:=aE h3 c0;rw[e1,h5.1]at hc;have hb:=eB h8 c2;rw[<-e2]at hb;have cM:=h5.2;have afg:bM.gen x.den=match x.sl.v with|.bA .. =>x.rt.g2|_=>x.sl.g2:=by obtain⟨s,⟨v,g1,g2⟩,rt⟩:=x;cases v<;>rfl
 unfold SB;simp only[vW hA h1,j7 hA h2,hc,fl,eB h7 c1,hb,nU,h9,afg];rw[if_pos ⟨cM,k1,by rw[e2];exact k2⟩,if_neg<|ne_iff.1 Yv]
def yV(tt:TT)(l:aV)(d:Nat)(t:TypeId)(x:Operand)(a b:Option Operand):ox:=(dP l x).bind λx=>(ev.Hp l a).bind λa=>(ev.Hp l b).bind λb=>Vk tt l d t x a b
def Te(hA:cq P tt){all:Array Oper}{d:Nat}{t:TypeId}{x:Operand}{lo hi:Option Operand}{ty:TypeId}{pos:String}{cL:Array Edge}{g:Option (Nat×Bool)}{K:List Mv->St->Prop}{ob:List Pd}{l':aV}{ks:List Nat}
 (hg:cP l all.toList g=some true)(h:yV tt l d t x lo hi=some (ob,l',ks))(ho:ag ob)(hk:∀ms,aU ms=ks->K ms (dn l')):
 Jh P all ⟨some d,.slice t x lo hi none,ty,pos,cL,g⟩ (dn l) K:=by
 simp[yV,ab3]at h;obtain⟨x',h1,a',h2,b',h3,h4⟩:=h;obtain⟨ms,m1,m2,m3⟩:=K4 hA d t x' a' b' ob l' ks h4 ho;refine⟨.lR,ms,[],dn l',?_,by simp,m2,hk ms m3⟩;unfold eP;rw[dC (o:=⟨some d,.slice t x lo hi none,ty,pos,cL,g⟩) hg];simp[kz,cF h1,Co h2,Co h3,m1]
def ahz(hA:cq P tt){all:Array Oper}{rest:List Oper}{d:Nat}{t:TypeId}{x:Operand}{lo hi:Option Operand}{ty:TypeId}{pos:String}{cL:Array Edge}{g:Option (Nat×Bool)}{ob:List Pd}{l':aV}{ks:List Nat}
 (hg:cP l all.toList g=some true)(h:yV tt l d t x lo hi=some (ob,l',ks))(ho:ag ob)(hk:AK R P N F (.ops all rest::k) l'):
 AK R P N F (.ops all (⟨some d,.slice t x lo hi none,ty,pos,cL,g⟩::rest)::k) l:=by
 exact Te hA hg h ho λms _=>hk
def qB{c:Code}{r:Nat}{p:Path}{ob:List Pd}{l':aV}(hp:(gt l r).v.plain=true)(h:sx l r p=some (ob,l'))(ho:ag ob)(hk:AK R P N F (.code c::k) l'):AK R P N F (.code c::k) l:=by
 intro V w0 S0 a w hR hi;refine hk V w0 S0 a w hR ?_;have hr:=lB h ho;simp[Mv.run]at hr;split at hr
 ·rename_i y hg;split at hr
  ·rename_i av' hs;simp at hr;rw[<-hr];obtain⟨S,F,hc,hN,jx,jn,gD,dB⟩:=hi;obtain⟨L,z,F1,F',k1,k2,k3,k4,k5⟩:=hc.share r p (by rw[dq,dh];exact hp) hg hs;have eQ:=λb hb=>(hc.own r b<|k5 b hb).1;exact⟨_,_,k4,hN,jx,λb hb=>.inl<|jn b hb,λb hb=>hb.elim (gD b) λhb=>.inr<|eQ b hb,dB⟩
  cases hr
 cases hr
end
section
variable{R:Option Nat->Prop}{P:Program}{N:Nat}{F:St->Prop}{k:List It}{l:aV}
section
variable{cL:Array Edge}{ts:Array _}{b:Bool}{ks:List Nat}{ob:List Pd}{f:Operand}{g:Option (Nat×Bool)}{J':pk}{l':aV}
def vt:List SR->Option (List Pd×List SV)
 |[]=>some ([],[])
 |x::xs=>(cX x).bind λ(ob,y)=>(gF y.aF).bind λ_=>(vt xs).bind λ(dX,ys)=>some (app ob dX,y::ys)
def qX:∀{xs:List SR}{ob:List Pd}{ys:List SV},vt xs=some (ob,ys)->ag ob->rL (xs.map SR.den)=some (au ys)
 |[],ob,ys,h,_=>by simp[vt]at h;obtain⟨rfl,rfl⟩:=h;rfl
 |x::xs,ob,ys,h,hc=>by simp only[vt,ab3,bu,afh]at h;obtain⟨nV,y,h1,_,h2,pI,Qm,h3,rfl,rfl⟩:=h;obtain⟨c1,c2⟩:=aM.1 hc;simp[rL,aE h1 c1,cz,h2,qX h3 c2,au]
structure LQ where
 C:Value->Prop
 J:pk
 aas:List SV
def KC(l:aV)(f:Operand)(aas:List Operand):Option (List Pd×LQ):=
 (dP l f).bind λx=>match x.sl.v with
   |.pv C=>match(gt l 1000000).v with
    |.abs J=>(jg l aas).bind λxs=>(vt xs).bind λ(ob,ys)=>some (ob,⟨C,J,ys⟩)
    |_=>none
   |_=>none
def E7(l:aV)(dst:Option Nat)(J':pk)(b:Bool):Option (aV×List Nat):=
 match dst with
 |none=>some (qg l [(1000000,.dead)] [.abs J'],[1000000])
 |some d=>rF (qg l [(1000000,.dead)] [.abs J']) [] d (.u b) λl'=>some (l',[1000000,d])
def Td{all:Array Oper}{dst:Option Nat}{aas:Array _}{ty:TypeId}{pos:String}{K:List Mv->St->Prop}{h:LQ}
 (hg:cP l all.toList g=some true)(hh:KC l f aas.toList=some (ob,h))(ho:ag ob)(hs:∀v,h.C v->Yields P h.J J' (au h.aas) b v)(ht:E7 l dst J' b=some (l',ks))(hk:∀ms,aU ms=ks->K ms (dn l')):
 Jh P all ⟨dst,.call ⟨.value f,aas,ts⟩,ty,pos,cL,g⟩ (dn l) K:=by
 simp[KC,ab3]at hh;obtain⟨x,h1,h2⟩:=hh;split at h2<;>try(cases h2)
 rename_i C hC;split at h2<;>try(cases h2)
 rename_i J hJ;simp[ab3,ac3]at h2;obtain⟨xs,h3,dX,ys,h4,rfl,rfl⟩:=h2;have e1:(resolve (dn l) f).sl.av=.pv C:=by rw[cF h1];show x.sl.v.den=_;rw[hC];rfl
 have e2:(dn l 1000000).av=.abs J:=by rw[dq,hJ];rfl
 have e3:rL (aas.toList.map<|resolve<|dn l)=some (au ys):=by rw[eD l h3];exact qX h4 ho
 have hb:kr (dn l) [(1000000,.abs J')]=dn (qg l [(1000000,.dead)] [.abs J']):=jl l [(1000000,.dead)] [.abs J'];have UB:kz P (dn l) ⟨dst,.call ⟨.value f,aas,ts⟩,ty,pos,cL,g⟩ (.Sx J' b)=some (cK dst (.v<|.bool b) [.back [(1000000,.abs J')]],[.Sx C J J' (au ys) b]):=by simp[kz,e1,e2,e3]
 have mn:Mv.runs (dn l) (cK dst (.v<|.bool b) [.back [(1000000,.abs J')]])=some (dn l')/\aU (cK dst (.v<|.bool b) [.back [(1000000,AV.abs J')]])=ks:=by
  cases dst with
  |none=>obtain⟨rfl,rfl⟩:=ht;exact⟨by simp[cK,Mv.runs,Mv.run,hb],by simp[cK,aU,Mv.keys]⟩
  |some d=>obtain⟨rfl,rfl⟩:=ht;refine⟨?_,by simp[cK,aU,Mv.keys]⟩;have:=gK (qg l [(1000000,.dead)] [.abs J']) [] d<|.u b;simp only[cK,agL,Mv.runs,Mv.run,hb];exact congrArg some this
 refine⟨.Sx J' b,_,[.Sx C J J' (au ys) b],dn l',?_,?_,mn.1,hk _ mn.2⟩
 ·unfold eP;rw[dC (o:=⟨dst,.call ⟨.value f,aas,ts⟩,ty,pos,cL,g⟩) hg];exact UB
 simp[Ob.ok];exact hs
def aao{all:Array Oper}{rest:List Oper}{dst:Option Nat}{aas:Array _}{ty:TypeId}{pos:String}{h:LQ}
 (hg:cP l all.toList g=some true)(hh:KC l f aas.toList=some (ob,h))(ho:ag ob)(hs:∀v,h.C v->Yields P h.J J' (au h.aas) b v)(ht:E7 l dst J' b=some (l',ks))(hk:AK R P N F (.ops all rest::k) l'):
 AK R P N F (.ops all (⟨dst,.call ⟨.value f,aas,ts⟩,ty,pos,cL,g⟩::rest)::k) l:=by
 exact Td hg hh ho hs ht λms _=>hk
def Sy{all:Array Oper}{mm:List Nat}{acc:List (List Nat×List Nat)}{rest:List Oper}{dst:Option Nat}{aas:Array _}{ty:TypeId}{pos:String}{h:LQ}
 (hg:cP l all.toList g=some true)(hh:KC l f aas.toList=some (ob,h))(ho:ag ob)(hs:∀v,h.C v->Yields P h.J J' (au h.aas) b v)(ht:E7 l dst J' b=some (l',ks))
 (hk:AK R P N F (.og all mm rest ((ix (dn l) all ⟨dst,.call ⟨.value f,aas,ts⟩,ty,pos,cL,g⟩,ks)::acc)::k) l'):
 AK R P N F (.og all mm (⟨dst,.call ⟨.value f,aas,ts⟩,ty,pos,cL,g⟩::rest) acc::k) l:=by
 exact Td hg hh ho hs ht λms mn=>by rw[mn];exact hk
end
end
def mg{f:Nat->List Nat}:∀n,((List.range n).flatMap f).Nodup↔(∀j,j<n->(f j).Nodup)/\∀i j,i<n->j<n->i≠j->∀c∈f i,c∉f j
 |0=>by simp
 |n+1=>by
  rw[ai1,ai4,acT,mg n];have e:[n].flatMap f=f n:=by simp
  rw[e];constructor
  ·rintro⟨⟨h1,h2⟩,h3,h4⟩;have hx:=λj hj c hc cm=>h4 c (adL.2 ⟨j,ae5.2 hj,hc⟩) c cm rfl;refine⟨λj hj=>?_,λi j hi hj gS c hc cm=>?_⟩
   ·rcases ac1 j n with h|h
    ·exact h1 j h
    have:j=n:=by omega
    subst this;exact h3
   rcases ac1 i n with h|h<;>rcases ac1 j n with h'|h'
   ·exact h2 i j h h' gS c hc cm
   ·have:j=n:=by omega
    subst this;exact hx i h c hc cm
   ·have:i=n:=by omega
    subst this;exact hx j h' c cm hc
   omega
  rintro⟨h1,h2⟩;refine⟨⟨λj hj=>h1 j<|by omega,λi j hi hj gS=>h2 i j (by omega) (by omega) gS⟩,h1 n<|by omega,λc hc c' cm e=>?_⟩;subst e;obtain⟨j,hj,hcj⟩:=adL.1 hc;have:=ae5.1 hj;exact h2 j n (by omega) (by omega) (by omega) c hcj cm
def tY(fn:FuncId)(tmps:Array Value)(ps:Array Tmp)(assign body:Code)(D:Nat)(pe:Option Code):Loop:={state:=if pe.isNone then .ready else .done,pending:=pe,fn,tmps,params:=ps,assign,body,defers:=D}
def Jr(cs:List (AV×Value))(ex:List Nat)(T:Nat->Value)(l D:Nat)(r:Option Code->Loop)(pe:Option Code)(y:List AV):pk:=λw S F=>
 ∃FF:Nat->List Nat,F.Perm (D::l::(List.range ex.length).flatMap FF)/\(∀(j:Nat)(v:AV),y[j]?=some v->j<ex.length->Rel w S v (T<|ex.getD j 0) (FF j))/\
  (∀q∈cs,Rel w S q.1 q.2 [])/\w.heap[l]?=some (.loop<|r pe)/\w.heap[D]?=some (.deferred<|some [])
def Jr.closed{cs:List (AV×Value)}{ex:List Nat}{T:Nat->Value}{l D:Nat}{r:Option Code->Loop}{pe:Option Code}{y:List AV}{w:World}{S:Nat->Prop}{F:List Nat}(h:Jr cs ex T l D r pe y w S F):pk.here (Jr cs ex T l D r pe y) w S F:=by
 intro w' S' h1 h2;obtain⟨FF,hp,hr,o5,hl,hD⟩:=h;have hm:∀c,c∈F↔c∈D::l::(List.range ex.length).flatMap FF:=λc=>hp.mem_iff;refine⟨FF,hp,λj v hv hj=>?_,λq hq=>Rel.mono h2 _<|Rel.frame _ (o5 q hq) λb hb=>h1 b<|.inl<|by simpa using hb,?_,?_⟩
 ·refine Rel.mono h2 _ (Rel.frame _ (hr j v hv hj) λb hb=>h1 b<|hb.imp id λhb=>(hm b).2 ?_);simp;exact .inr (.inr ⟨j,hj,hb⟩)
 ·rw[h1 l<|.inr<|(hm l).2<|by simp];exact hl
 rw[h1 D<|.inr<|(hm D).2<|by simp];exact hD
def af9(y':List AV)(b:Bool)(jump:Option Code):Exit->St->Prop:=λe σ=>
 (match e with
   |.normal=>b=true/\jump=none
   |.ret=>b=false/\jump=some .ret
   |.exit id=>b=false/\jump=some (.exit id)
   |_=>False)/\∀(j:Nat)(v:AV),y'[j]?=some v->(σ<|1000000+j).av=v/\v.plain=true
section
variable{P:Program}{N:Nat}
def aS.aay{S B:Nat->Prop}{σ:St}{T:Nat->Value}{w w':World}{F:Nat->List Nat}(h:aS S B σ T w F)(hs:w'.heap.size=w.heap.size)(hr:∀b,(S b\/∃i,b∈F i)->w'.heap[b]?=w.heap[b]?):aS S B σ T w' F:=
 h.step (w':=w') (S':=S) ⟨λ_=>.refl,λ_=>.refl,λ_ _=>rfl,λ_ _ _=>⟨λ_ y hy=>⟨y,hy⟩,λb hb=>hr b<|hb.imp id λhb=>⟨_,hb⟩⟩⟩ (λ_ h=>h)
  (λi=>.inl ⟨rfl,rfl,rfl,λb hb=>hr b<|hb.imp id λhb=>⟨i,hb⟩⟩) h.nodup h.di (λi b hb=>by rw[hs];exact h.own i b hb) (λb hb=>by rw[hs];exact h.shr b hb)
def Hc(hN:N<=1000000){fn:FuncId}{tmps:Array Value}{ps:Array Tmp}{assign body:Code}{l D:Nat}{cs:List (AV×Value)}{ex:List Nat}{T:Nat->Value}{y y' x:List AV}{b:Bool}{jump:Option Code}{σB:St}
 (ht:tmps.size=N)(hx:x.length=ps.size)(D7:y'.length=ex.length)
 (Nh:∀(w:World)(S:Nat->Prop)(FF:Nat->List Nat)(vs:List Value)(V:Hid),(∀q∈cs,Rel w S q.1 q.2 [])->(∀(j:Nat)(v:AV),y[j]?=some v->j<ex.length->Rel w S v (T<|ex.getD j 0) (FF j))->
   (∀j,j<ex.length->(FF j).Nodup)->(∀i j,i<ex.length->j<ex.length->i≠j->∀c∈FF i,c∉FF j)->(∀j,j<ex.length->∀c∈FF j,c<w.heap.size/\¬S c)->(∀c,S c->c<w.heap.size)->Cells w S false x vs []->
   V.v=(λi=>T<|ex.getD (i-1000000) 0)->(∀j,j<ex.length->∀c∈FF j,V.g c)->
   aS S (cu V w) σB (tv V {tmps:=(ps.zip vs.toArray).foldl (λtmps(t,a)=>tmps.setIfInBounds t a) tmps,defers:=[]}) w λi=>if 1000000<=i/\i-1000000<ex.length then FF (i-1000000)else[])
 (KE:AW R1 P N assign (λe σ1=>e=.normal/\AW R1 P N body (af9 y' b jump) σ1) σB):
 Yields P (Jr cs ex T l D (tY fn tmps ps assign body D) none y) (Jr cs ex T l D (tY fn tmps ps assign body D) jump y') x b (.func (.yield l) #[] #[]):=by
 refine⟨l,rfl,λrd w S F vs hLd hNT hJ BF hF hS eH=>?_⟩;obtain⟨FF,hp,fK,o5,hl,hD⟩:=hJ w S (λ_ _=>rfl) λ_ h=>h;have hm:∀c,c∈F↔c∈D::l::(List.range ex.length).flatMap FF:=λc=>hp.mem_iff;have abO:=hp.nodup_iff.1 BF;obtain⟨hD1,abN⟩:=adm.1 abO;obtain⟨Yd,abM⟩:=adm.1 abN;have hlD:l≠D:=λe=>hD1 (by simp[e]);have Ks:∀j,j<ex.length->∀c∈FF j,c∈(List.range ex.length).flatMap FF:=λj hj c hc=>adL.2 ⟨j,ae5.2 hj,hc⟩;have hlF:l∈F:=(hm l).2 (by simp);have hDF:D∈F:=(hm D).2 (by simp);have hFF:∀j,j<ex.length->∀c∈FF j,c∈F:=λj hj c hc=>(hm c).2 (by simp only[aci];exact .inr<|.inr<|Ks j hj c hc);have Ek:=Cells.length eH;refine⟨_,_,_,_,run_yield hl<|by show vs.toArray.size=ps.size;simp;omega,roundIn_of_wpIn ao ?_⟩;obtain⟨a1,KH⟩:∃a1:Act,a1={tmps:=(ps.zip vs.toArray).foldl (λtmps(t,a)=>tmps.setIfInBounds t a) tmps,defers:=[]}:=⟨_,rfl⟩;obtain⟨VB,WA⟩:∃VB:Hid,VB={v:=λi=>T<|ex.getD (i-1000000) 0,g:=λc=>∃j,j<ex.length/\c∈FF j,rd:=some l,df:=[]}:=⟨_,rfl⟩;have hg:∀c,VB.g c->c∈F/\c∈(List.range ex.length).flatMap FF:=by rw[WA];rintro c⟨j,hj,hc⟩;exact⟨hFF j hj c hc,Ks j hj c hc⟩
 have Yh:¬VB.g l:=λh=>Yd (hg l h).2;have hgD:¬VB.g D:=λh=>hD1 (by simp[(hg D h).2]);obtain⟨UF,UX⟩:=(mg ex.length).1 abM;have Az:=Nh w S FF vs VB o5 fK UF UX (λj hj c hc=>hF c<|hFF j hj c hc) hS eH (by rw[WA]) (λj hj c hc=>by rw[WA];exact⟨j,hj,hc⟩);rw[<-KH]at Az;have aij:a1.tmps.size=N:=by
  rw[KH];rw[<-ht];have:∀(q:List (Tmp×Value))(t:Array Value),(q.foldl (λtmps p=>tmps.setIfInBounds p.1 p.2) t).size=t.size:=by
   intro q
   induction q with
   |nil=>intro t;rfl
   |cons p q ih=>intro t;simp[aeK];rw[ih];simp
  rw[<-aiY];exact this _ tmps
 have hinv:Inv N VB w S σB a1 w:=⟨S,_,Az,aij,by rw[KH,WA],λ_ h=>h,λ_ h=>.inl h,lP.refl _ _⟩;have x8:VB.rd=some l:=by rw[WA]
 have hA:=KE VB w S a1 w ⟨ao,hLd,hNT.mono λb hb=>(hg b hb).1⟩ hinv;rw[x8,KH]at hA;refine wpIn_mono hA ?_;rintro e a2 w2⟨σ1,⟨rfl,h1⟩,S2,F2,ds2,yb,hN2,anZ,jn,gD,Pq,hm2⟩;have hlw:l<w.heap.size:=(adW.1 hl).1;have hDw:D<w.heap.size:=(adW.1 hD).1;have gu:∀c,c<w.heap.size->¬VB.g c->¬cu VB w c:=λc h h' hh=>hh.elim (λhh=>by omega) h';have II:w2.heap[l]?=some (.loop<|tY fn tmps ps assign body D none):=by rw[Pq.block l hlw Yh];exact hl
 have ae2:¬S2 l:=λh=>(gD l h).elim (hF l hlF).2<|gu l hlw Yh;have aiL:∀i,l∉F2 i:=λi h=>gu l hlw Yh (yb.own i l h).1;have aiH:l<w2.heap.size:=(adW.1 II).1;refine⟨_,run_beginRound II<|by simp[tY],?_⟩;obtain⟨w3,hw3⟩:∃w3,w3=w2.putObj l (.loop {tY fn tmps ps assign body D none with state:=.busy}):=⟨_,rfl⟩;rw[<-hw3];have h3s:w3.heap.size=w2.heap.size:=by rw[hw3];simp[World.putObj]
 have h3o:∀k,k≠l->w3.heap[k]?=w2.heap[k]?:=λk hk=>by rw[hw3];exact World.putObj_heap_other hk
 have h3l:w3.heap[l]?=some (.loop {tY fn tmps ps assign body D none with state:=.busy}):=by rw[hw3];exact World.putObj_heap_same aiH
 have Eu:=yb.aay h3s λb hb=>h3o b λe=>by subst e;exact hb.elim ae2 λ⟨i,hi⟩=>aiL i hi
 obtain⟨V2,hV2⟩:∃V2,V2=VB.VY F2 a2.defers:=⟨_,rfl⟩;have hi3:Inv N V2 w3 S2 σ1 a2 w3:=by rw[hV2];exact⟨S2,F2,⟨Eu.rel,Eu.nodup,Eu.di,λi b hb=>⟨.inr ⟨i,hb⟩,(Eu.own i b hb).2⟩,Eu.shr⟩,hN2,rfl,λ_ h=>h,λ_ h=>.inl h,lP.refl _ _⟩
 have hg2:∀c,V2.g c->VB.g c\/w.heap.size<=c:=by rw[hV2];rintro c⟨i,h⟩;exact(yb.own i c h).1.symm
 have anb:=Pq.size;have RD:∀c,c<w.heap.size->¬VB.g c->¬cu V2 w3 c:=by
  intro c h h' hh;rcases hh with hh|hh
  ·omega
  rcases hg2 c hh with hh|hh
  ·exact h' hh
  omega
 have ais:V2.rd=some l:=by rw[hV2];exact x8
 have hL3:ky P V2 w3:=by
  have hLB:ky P VB w:=⟨hLd,hNT.mono λb hb=>(hg b hb).1⟩;refine⟨(hLB.Ke Pq).same λg hn _=>h3o g λe=>hNT g hn<|by subst e;exact hlF,λg hn hb=>?_⟩;rcases hg2 g hb with hb|hb
  ·exact hLB.apart g hn hb
  have:=hLd.lt hn;omega
 have hB:=h1 V2 w3 S2 a2 w3 ⟨ao,hL3⟩ hi3;rw[ais]at hB;refine wpIn_mono hB ?_;rintro e a3 w4⟨σ2,⟨he,Rt⟩,S4,F4,ds4,hc4,hN4,anY,hs3,hs4,hk4,hm4⟩;have ana:=hk4.size;have hl4:w4.heap[l]?=some (.loop {tY fn tmps ps assign body D none with state:=.busy}):=by rw[hk4.block l (by omega) λh=>RD l hlw Yh<|.inr h];exact h3l
 have aiG:l<w4.heap.size:=(adW.1 hl4).1;have ae1:¬S4 l:=λh=>(hs4 l h).elim ae2<|RD l hlw Yh;have ae3:∀i,l∉F4 i:=λi h=>RD l hlw Yh (hc4.own i l h).1;have ajG:¬S2 D:=λh=>(gD D h).elim (hF D hDF).2<|gu D hDw hgD;have ajF:¬S4 D:=λh=>(hs4 D h).elim ajG<|RD D hDw hgD;have ajH:∀i,D∉F4 i:=λi h=>RD D hDw hgD (hc4.own i D h).1;obtain⟨w5,hw5⟩:∃w5,w5=w4.putObj l (.loop<|tY fn tmps ps assign body D jump):=⟨_,rfl⟩;have h5s:w5.heap.size=w4.heap.size:=by rw[hw5];simp[World.putObj]
 have h5o:∀k,k≠l->w5.heap[k]?=w4.heap[k]?:=λk hk=>by rw[hw5];exact World.putObj_heap_other hk
 have h5l:w5.heap[l]?=some (.loop<|tY fn tmps ps assign body D jump):=by rw[hw5];exact World.putObj_heap_same aiG
 have hold:∀k,k<w.heap.size->¬VB.g k->k≠l->w5.heap[k]?=w.heap[k]?:=by intro k hk hgk RE;rw[h5o k RE,hk4.block k (by omega) λh=>RD k hk hgk<|.inr h,h3o k RE,Pq.block k hk hgk]
 have Bd:(Instr.endRound l jump).run P w4=.ok (.bool jump.isNone) w5:=by rw[run_endRound jump hl4,hw5];rfl
 have Ux:∃S' F',w5.os=w.os/\w5.tape=w.tape/\w5.output=w.output/\w.heap.size<=w5.heap.size/\(∀k,k<w.heap.size->k∉F->w5.heap[k]?=w.heap[k]?)/\
  (∀c,S c->S' c)/\(∀c,S' c->S c\/w.heap.size<=c\/c∈F)/\(∀c,S' c->c<w5.heap.size)/\pk.here (Jr cs ex T l D (tY fn tmps ps assign body D) jump y') w5 S' F'/\F'.Nodup/\∀c∈F',(w.heap.size<=c\/c∈F)/\c<w5.heap.size/\¬S' c:=by
  have Ax:∀c,cu V2 w3 c->w.heap.size<=c\/c∈F:=by
   rintro c(h|h)
   ·exact .inl (by omega)
   rcases hg2 c h with h|h
   ·exact .inr (hg c h).1
   exact .inl h
  refine⟨S4,D::l::(List.range ex.length).flatMap λj=>F4<|1000000+j,?_,?_,?_,by omega,λk hk hkF=>hold k hk (λh=>hkF (hg k h).1) λe=>hkF<|by rw[e];exact hlF,λc hc=>hs3 c<|jn c hc,λc hc=>?_,λc hc=>?_,Jr.closed ⟨λj=>F4<|1000000+j,List.Perm.refl _,λj v hv hj=>?_,λq hq=>?_,h5l,?_⟩,?_,?_⟩
  ·rw[hw5];show w4.os=_;rw[hk4.os,hw3];exact Pq.os
  ·rw[hw5];show w4.tape=_;rw[hk4.tape,hw3];exact Pq.tape
  ·rw[hw5];show w4.output=_;rw[hk4.output,hw3];exact Pq.output
  ·rcases hs4 c hc with h|h
   ·rcases gD c h with h|h
    ·exact .inl h
    rcases h with h|h
    ·exact .inr<|.inl h
    exact .inr<|.inr (hg c h).1
   exact .inr (Ax c h)
  ·rw[h5s];exact hc4.shr c hc
  ·obtain⟨e1,e2⟩:=Rt j v hv;have hr:=hc4.rel<|1000000+j;rw[ak.aB<|by rw[e1];exact e2,e1]at hr;have hT:tv V2 a3 (1000000+j)=T (ex.getD j 0):=by
    unfold tv;rw[if_neg<|by omega,hV2];show VB.v (1000000+j)=_;rw[WA];show T (ex.getD (1000000+j-1000000) 0)=_;rw[ahs]
   rw[hT]at hr;exact Rel.frame _ hr λb hb=>h5o b (λe=>by subst e;exact hb.elim ae1<|ae3 _)
  ·refine Rel.mono (λc hc=>hs3 c<|jn c hc) _ (Rel.frame _ (o5 q hq) λb hb=>?_);have hb:S b:=by simpa using hb
   exact hold b (hS b hb) (λh=>(hF b (hg b h).1).2 hb) (λe=>by subst e;exact(hF _ hlF).2 hb)
  ·rw[hold D hDw hgD λe=>hlD e.symm];exact hD
  ·refine adm.2 ⟨λh=>?_,adm.2 ⟨λh=>?_,(mg _).2 ⟨λj _=>hc4.nodup _,λi j _ _ gS=>hc4.di _ _<|by omega⟩⟩⟩
   ·rcases aci.1 h with h|h
    ·exact hlD h.symm
    obtain⟨j,-,hj⟩:=adL.1 h;exact ajH _ hj
   obtain⟨j,-,hj⟩:=adL.1 h;exact ae3 _ hj
  intro c hc;rcases aci.1 hc with rfl|hc
  ·exact⟨.inr hDF,by omega,ajF⟩
  rcases aci.1 hc with rfl|hc
  ·exact⟨.inr hlF,by omega,ae1⟩
  obtain⟨j,-,hj⟩:=adL.1 hc;have ho:=hc4.own _ c hj;exact⟨Ax c ho.1,by rw[h5s];exact ho.2.1,ho.2.2⟩
 cases e with
 |normal=>obtain⟨rfl,rfl⟩:=he;exact⟨_,_,Bd,rfl,Ux⟩
 |ret=>obtain⟨rfl,rfl⟩:=he;exact⟨_,_,Bd,rfl,Ux⟩
 |exit id=>obtain⟨rfl,rfl⟩:=he;exact⟨_,_,Bd,rfl,Ux⟩
 |_=>exact he.elim
end
end Go.Ai
