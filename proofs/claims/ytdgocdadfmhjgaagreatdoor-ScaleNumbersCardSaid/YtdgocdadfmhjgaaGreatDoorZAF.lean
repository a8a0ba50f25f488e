/- Parts of the proof of ScaleNumbers (CheckBench, Exponent and Largest answer as the reference does), at every input, with no further conditions. -/
import Derived.Test.YtdgocdadfmhjgaaGreatDoorZAE
set_option linter.unusedVariables false
set_option linter.unusedSimpArgs false
namespace Go.Ai
open Go.RowKit
inductive Ty
 |int (k:IntKind)|bool|str
 |slice (e:TypeId)
 |array (n:Nat) (e:TypeId)
 |struct (fs:List (Nat×TypeId×Nat))
 |ptr|func|other
structure ua where
 agg:Bool
 size:Nat
 bytes:Nat
 zero:SV
def ua.den(i:ua):TI:=⟨i.agg,i.size,i.bytes,i.zero.den⟩
structure TE where
 un:Ty
 ti:Option ua
def Ty.ok(P:Program)(t:TypeId):Ty->Prop
 |.int k=>P.underlying t=some (.int k)
 |.bool=>P.underlying t=some .bool
 |.str=>P.underlying t=some .string
 |.slice e=>P.underlying t=some (.slice e)
 |.array n e=>P.underlying t=some (.array n e)
 |.struct fs=>∃f,P.underlying t=some (.struct f)/\f.toList.mapM (fun f=>(P.info? f.type).map fun i=>(f.offset,f.type,i.size))=some fs
 |.ptr=>∃e,P.underlying t=some (.pointer e)
 |.func=>∃a b c,P.underlying t=some (.func a b c)
 |.other=>True
def TE.ok(P:Program)(t:TypeId)(e:TE):Prop:=e.un.ok P t/\∀i,e.ti=some i->bE P t=some i.den
abbrev TT:=List (Nat×TE)
def W3:TT->TypeId->Option TE
 |[],_=>none
 |(d,x)::l,i=>match Nat.beq i d with
  |true=>some x
  |false=>W3 l i
def bK(P:Program):TT->Prop
 |[]=>True
 |(t,e)::l=>e.ok P t/\bK P l
theorem bK.get{P:Program}:∀{tt:TT}{t:TypeId}{e:TE},bK P tt->W3 tt t=some e->e.ok P t
 |[],_,_,_,h=>by simp[W3]at h
 |(d,x)::l,t,e,ha,h=>by
  simp only[W3]at h;split at h
  ·rename_i hb;have:=Nat.eq_of_beq_eq_true hb;subst this;simp only[Option.some.injEq]at h;subst h;exact ha.1
  exact bK.get ha.2 h
def CB(tt:TT)(t:TypeId):Option ua:=(W3 tt t).bind fun e=>e.ti
def Bo(tt:TT)(t:TypeId):Option Ty:=(W3 tt t).bind fun e=>some e.un
def slice?(tt:TT)(t:TypeId):Option TypeId:=(Bo tt t).bind fun|.slice e=>some e|_=>none
section
variable{P:Program}{tt:TT}{t:TypeId}
theorem jn(h:bK P tt){i:ua}(hi:CB tt t=some i):bE P t=some i.den:=by simp only[CB,Option.bind_eq_some_iff]at hi;obtain⟨e,h1,h2⟩:=hi;exact(h.get h1).2 i h2
theorem jS(h:bK P tt){u:Ty}(hi:Bo tt t=some u):u.ok P t:=by simp only[Bo,Option.bind_eq_some_iff,Option.some.injEq]at hi;obtain⟨e,h1,rfl⟩:=hi;exact(h.get h1).1
theorem sE(h:bK P tt){e:TypeId}(hi:slice? tt t=some e):P.underlying t=some (.slice e):=by simp only[slice?,Option.bind_eq_some_iff]at hi;obtain⟨u,h1,h2⟩:=hi;have:=jS h h1;cases u<;>simp at h2;subst h2;exact this
theorem kC(h:bK P tt){e:TypeId}(hi:slice? tt t=some e):cG P t=some e:=by simp[cG,sE h hi]
end
def kb(ti:ua):SV->Bool
 |.agg xs=>b8 ti.agg (Nat.beq (len xs) ti.size)
 |y=>b8 (not' ti.agg) (b8 (Nat.beq ti.size 1) y.cell)
theorem gF(ti:ua)(y:SV)(h:kb ti y=true):fits ti.den y.den=true:=by
 cases y with
 |agg xs=>simp only[kb,aH,beq_iff,dA]at h;simp[fits,SV.den,ua.den,h,bt]
 |_=>simp only[kb,aH,beq_iff,not_iff]at h;simp[fits,SV.den,ua.den,h,AV.cell]<;>(try simp[SV.cell]at h)
section
variable{P:Program}{tt:TT}(hA:bK P tt)(l:aP)(d:Nat)
theorem ag{α:Type _}{m:Option (List Mv)}{x:Option α}{f:α->mb}(h:∀a,x=some a->cn l m (f a)):cn l m (x.bind f):=by
 cases x with
 |none=>exact a7
 |some a=>exact h a rfl
def D8(ob:List Pd):mb->mb
 |some (c9,l',ks)=>some (app ob c9,l',ks)
 |none=>none
theorem kY{m:Option (List Mv)}{ob:List Pd}{e:mb}(h:ae ob->cn l m e):cn l m (D8 ob e):=by
 intro c9 l' ks he hc;cases e with
 |none=>simp[D8]at he
 |some q=>obtain⟨a,b,c⟩:=q;simp only[D8,Option.some.injEq,Prod.mk.injEq]at he;obtain⟨rfl,rfl,rfl⟩:=he;obtain⟨c1,c2⟩:=aJ.1 hc;exact h c1 _ _ _ rfl c2
def AV.TG:AV->Bool
 |.box _ _=>true
 |_=>false
def zE(l:aP)(d:Nat)(x:SR):mb:=
 match x.sl.v with
 |.ptr r a b p=>(fg (ne' r d)).bind fun _=>cj [] l d (.ptr r a b p)
 |.dY g aW=>(fg (GY d aW)).bind fun _=>cj [] l d (.dY g aW)
 |.bg r _ _ p=>(cz x).bind fun(ob,y)=>match y.az with
  |true=>cj ob l d y
  |false=>match p with
   |[]=>(Bq l r d []).bind fun(c9,_,l')=>some (app ob c9,l',[r,d])
   |[.bC i]=>(Bq l r d [.bC i]).bind fun(c9,_,l')=>some (app ob c9,l',[r,d])
   |p=>(fg (ne' r d)).bind fun _=>(po l r p).bind fun(c9,l')=>E0 l' d y.bf fun l2=>some (app ob c9,l2,[r,d])
 |.box b z=>match(SV.box b z).az with
  |true=>cj [] l d (.box b z)
  |false=>match x.s with
   |some s=>(fg (ne' s d)).bind fun _=>cj [] l d (.bg s x.sl.g1 x.sl.g2 [])
   |none=>none
 |y=>match y.az with
  |true=>cj [] l d y
  |false=>match x.s with
   |some s=>(fg (ne' s d)).bind fun _=>lO [] l [s] d y
   |none=>none
theorem zD(x:SR):cn l (cN d x.den) (zE l d x):=by
 obtain⟨s,⟨v,g1,g2⟩,rt⟩:=x;unfold zE;have gen:∀v:SV,v.ic=true->v.den.TG=false->cn l (cN d (SR.den ⟨s,⟨v,g1,g2⟩,rt⟩)) (match v.az with
  |true=>cj [] l d v
  |false=>match s with
   |some s=>(fg (ne' s d)).bind fun _=>lO [] l [s] d v
   |none=>none):=by
  intro v hv Io;have hm:cN d (SR.den ⟨s,⟨v,g1,g2⟩,rt⟩)=if v.az then some [.put d v.den]else match s with
   |some s=>if s=d then none else some [.make [s] d v.den]
   |none=>none:=by
   have hp:v.den.ic=true:=by rw[nm];exact hv
   have:∀a:AV,a.ic=true->a.TG=false->cN d ⟨s,⟨a,g1,g2⟩,rt.den⟩=if a.az then some [.put d a]else match s with
    |some s=>if s=d then none else some [.make [s] d a]
    |none=>none:=by
    intro a ha hb;cases a<;>first|rfl|exact absurd hb (fun h=>Bool.noConfusion h)|simp[AV.ic]at ha
   have h2:=this v.den hp Io;rw[bX]at h2;exact h2
  rw[hm];cases v.az with
  |true=>exact bJ fun _=>rfl
  |false=>
   cases s with
   |none=>exact a7
   |some s=>exact aY fun hb=>iR fun _=>by simp[ne_iff.1 hb]
 cases v with
 |bg r a b p=>
  intro ob l' ks he hc;simp only[Option.bind_eq_some_iff,Prod.exists]at he;obtain⟨mw,y,hy,he⟩:=he;have hm:∀za:(SR.den ⟨s,⟨.bg r a b p,g1,g2⟩,rt⟩).cont=some y.den,cN d (SR.den ⟨s,⟨.bg r a b p,g1,g2⟩,rt⟩)=if y.az then some [.put d y.den]else match p with
   |[]=>some [.take r d []]
   |[.bC i]=>some [.take r d [.bC i]]
   |p=>if r=d then none else some [.share r p,.put d y.den.bf]:=by
   intro za;unfold cN;simp only[SR.den,Cl.den,SV.den]at za⊢;rw[za];simp only[bX];split
   ·rfl
   split<;>simp_all
  cases hn:y.az with
  |true=>rw[hn]at he;simp only[cj,kD,Option.some.injEq,Prod.mk.injEq]at he;obtain⟨rfl,rfl,rfl⟩:=he;have:=hm (aw hy hc);rw[hn]at this;exact⟨_,by simpa using this,by simp only[Mv.runs,Mv.run,ja],rfl⟩
  |false=>
   rw[hn]at he hm;simp only[kD]at he;have tk:∀p,((Bq l r d p).bind fun(x:List Pd×SV×aP)=>some (app mw x.1,x.2.2,[r,d]))=some (ob,l',ks)->ae mw/\Mv.run (dn l) (.take r d p)=some (dn l')/\ks=[r,d]:=by intro p hh;simp only[Option.bind_eq_some_iff,Prod.exists,Option.some.injEq,Prod.mk.injEq]at hh;obtain⟨nk,y2,l2,h1,rfl,rfl,rfl⟩:=hh;obtain⟨c1,c2⟩:=aJ.1 hc;exact⟨c1,Bp h1 c2,rfl⟩
   have sh:∀p,((fg (ne' r d)).bind fun _=>(po l r p).bind fun(x:List Pd×aP)=>some (app mw x.1,Lh x.2 d y.bf,[r,d]))=some (ob,l',ks)->
    ae mw/\r≠d/\Mv.runs (dn l) [.share r p,.put d y.den.bf]=some (dn l')/\ks=[r,d]:=by
    intro p hh;simp only[Option.bind_eq_some_iff,Prod.exists,Option.some.injEq,Prod.mk.injEq,bd,ne_iff]at hh;obtain⟨_,cR,nk,l2,h1,rfl,rfl,rfl⟩:=hh;obtain⟨c1,c2⟩:=aJ.1 hc;refine⟨c1,cR,?_,rfl⟩;simp only[Mv.runs];rw[jq h1 c2];simp only[Mv.run,ew,ja]
   split at he
   ·obtain⟨c1,h2,rfl⟩:=tk [] he;have:=hm (aw hy c1);exact⟨_,by simpa using this,by simp only[Mv.runs,h2],rfl⟩
   ·obtain⟨c1,h2,rfl⟩:=tk _ he;have:=hm (aw hy c1);exact⟨_,by simpa using this,by simp only[Mv.runs,h2],rfl⟩
   rename_i hp1 JW;obtain⟨c1,cR,h2,rfl⟩:=sh _ he;have:=hm (aw hy c1);refine⟨_,?_,h2,rfl⟩;rw[this];simp only[Bool.false_eq_true,if_false];cases p with
   |nil=>exact(hp1 rfl).elim
   |cons st q=>cases st with
    |bC i=>cases q with
     |nil=>exact(JW i rfl).elim
     |cons _ _=>simp[cR]
    |_=>simp[cR]
 |ptr r a b p=>exact aY fun hb=>bJ fun _=>by simp[cN,SR.den,Cl.den,SV.den,ne_iff.1 hb]
 |dY g aW=>exact aY fun hb=>bJ fun _=>by simp only[cN,SR.den,Cl.den,SV.den,vD hb,if_true]
 |box b z=>
  have hm:cN d (SR.den ⟨s,⟨.box b z,g1,g2⟩,rt⟩)=if(SV.box b z).den.az then some [.put d (SV.box b z).den]else match s with
   |some s=>if s=d then none else some [.put d (.bg s g1 g2 [])]
   |none=>none:=rfl
  rw[hm,bX];show cn l _ (match(SV.box b z).az with
   |true=>cj [] l d (.box b z)
   |false=>match s with
    |some s=>(fg (ne' s d)).bind fun _=>cj [] l d (.bg s g1 g2 [])
    |none=>none)
  cases(SV.box b z).az with
  |true=>exact bJ fun _=>rfl
  |false=>
   cases s with
   |none=>exact a7
   |some s=>exact aY fun hb=>bJ fun _=>by simp[ne_iff.1 hb,SV.den]
 |_=>exact gen _ rfl rfl
def IH(tt:TT)(l:aP)(d:Nat)(t:TypeId)(x:SR):mb:=
 (CB tt t).bind fun ti=>(Au x).bind fun(ob,ad)=>(eX ad.v ad.p).bind fun(c9,y)=>(fg (kb ti y)).bind fun _=>match y.az with
   |true=>cj (app ob c9) l d y
   |false=>(fg (ne' ad.r d)).bind fun _=>match y.cell with
    |true=>cj (app ob c9) l d (.bg ad.r ad.g1 ad.g2 ad.p)
    |false=>(po l ad.r ad.p).bind fun(nk,l')=>E0 l' d y.bf fun l2=>some (app (app ob c9) nk,l2,[ad.r,d])
theorem DM(hA:bK P tt)(l:aP)(d:Nat)(t:TypeId)(x:SR):cn l (pG P d t x.den) (IH tt l d t x):=by
 intro ob l' ks he hc;unfold IH at he;simp only[Option.bind_eq_some_iff,Prod.exists,bd]at he;obtain⟨ti,h1,mw,ad,h2,nk,y,h3,_,h4,he⟩:=he;have base:ae mw->ae nk->pG P d t x.den=if y.az then some [.put d y.den]else if ad.r=d then none else if y.cell then some [.put d (.bg ad.r ad.g1 ad.g2 ad.p)]else some [.share ad.r ad.p,.put d y.den.bf]:=by intro c1 c2;unfold pG;simp only[jn hA h1,iT h2 c1,bI h3 c2,gF _ _ h4,if_true,bX,Ae]
 cases hn:y.az with
 |true=>rw[hn]at he base;simp only[cj,kD,Option.some.injEq,Prod.mk.injEq]at he;obtain⟨rfl,rfl,rfl⟩:=he;obtain⟨c1,c2⟩:=aJ.1 hc;exact⟨_,by simpa using base c1 c2,by simp only[Mv.runs,Mv.run,ja],rfl⟩
 |false=>
  rw[hn]at he base;simp only[Option.bind_eq_some_iff,bd,ne_iff]at he;obtain⟨_,cR,he⟩:=he;cases B6:y.cell with
  |true=>rw[B6]at he base;simp only[cj,kD,Option.some.injEq,Prod.mk.injEq]at he;obtain⟨rfl,rfl,rfl⟩:=he;obtain⟨c1,c2⟩:=aJ.1 hc;refine⟨_,by simpa[cR]using base c1 c2,?_,rfl⟩;have:=ja l d (.bg ad.r ad.g1 ad.g2 ad.p);simp only[Mv.runs,Mv.run];rw[<-this];rfl
  |false=>rw[B6]at he base;simp only[Option.bind_eq_some_iff,Prod.exists,kD,Option.some.injEq,Prod.mk.injEq]at he;obtain⟨Ru,l2,h5,rfl,rfl,rfl⟩:=he;obtain⟨ZU,c3⟩:=aJ.1 hc;obtain⟨c1,c2⟩:=aJ.1 ZU;refine⟨_,by simpa[cR]using base c1 c2,?_,rfl⟩;simp only[Mv.runs];rw[jq h5 c3];simp only[Mv.run,ew,ja]
def Ph(s:Option Nat)(y:SV):Option (List Pd×SV×List Nat):=match y.az with
 |true=>some ([],y,[])
 |false=>match s with
  |some s=>some ([],y,[s])
  |none=>none
def tl(x:SR):Option (List Pd×SV×List Nat):=
 match x.sl.v with
 |.bg r _ _ p=>(cz x).bind fun(ob,y)=>match y.az with
  |true=>some (ob,y,[])
  |false=>match pI p with
   |true=>some (ob,y,[r])
   |false=>none
 |.ptr .. =>none
 |.dead=>none
 |.dY .. =>none
 |y=>Ph x.s y
theorem mN{x:SR}{ob:List Pd}{y:SV}{M:List Nat}(h:tl x=some (ob,y,M))(hc:ae ob):c6 x.den=some (y.den,M):=by
 obtain⟨s,⟨v,g1,g2⟩,rt⟩:=x;unfold tl at h;have gen:∀v:SV,v.ic=true->v≠.dead->Ph s v=some (ob,y,M)->c6 (SR.den ⟨s,⟨v,g1,g2⟩,rt⟩)=some (y.den,M):=by
  intro v hv hd hh;have hm:c6 (SR.den ⟨s,⟨v,g1,g2⟩,rt⟩)=if v.az then some (v.den,[])else match s with
   |some s=>some (v.den,[s])
   |none=>none:=by
   have:∀a:AV,a.ic=true->a≠.dead->c6 ⟨s,⟨a,g1,g2⟩,rt.den⟩=if a.az then some (a,[])else match s with
    |some s=>some (a,[s])
    |none=>none:=by
    intro a ha hd;cases a<;>first|rfl|exact absurd rfl hd|simp[AV.ic]at ha
   have h2:=this v.den (by rw[nm];exact hv) (by intro e;apply hd;cases v<;>simp[SV.den]at e⊢);rw[bX]at h2;exact h2
  rw[hm];unfold Ph at hh;cases hn:v.az with
  |true=>rw[hn]at hh;simp only[Option.some.injEq,Prod.mk.injEq]at hh;obtain⟨-,rfl,rfl⟩:=hh;rfl
  |false=>
   rw[hn]at hh;cases s with
   |none=>simp at hh
   |some s=>simp only[Option.some.injEq,Prod.mk.injEq]at hh;obtain⟨-,rfl,rfl⟩:=hh;rfl
 cases v with
 |bg r a b p=>
  simp only[Option.bind_eq_some_iff,Prod.exists]at h;obtain⟨mw,y1,h1,h⟩:=h;unfold c6;cases hn:y1.az with
  |true=>rw[hn]at h;simp only[Option.some.injEq,Prod.mk.injEq]at h;obtain⟨rfl,rfl,rfl⟩:=h;have:=aw h1 hc;simp only[SR.den,Cl.den,SV.den]at this⊢;simp[this,bX,hn]
  |false=>
   rw[hn]at h;cases p with
   |cons _ _=>simp[pI]at h
   |nil=>simp only[pI,Option.some.injEq,Prod.mk.injEq]at h;obtain⟨rfl,rfl,rfl⟩:=h;have:=aw h1 hc;simp only[SR.den,Cl.den,SV.den]at this⊢;simp[this,bX,hn]
 |ptr=>simp at h
 |dead=>simp at h
 |dY g aW=>simp at h
 |_=>exact gen _ rfl (by simp) h
def jf:List SR->Option (List Pd×List SV×List Nat)
 |[]=>some ([],[],[])
 |x::xs=>(tl x).bind fun(ob,y,M)=>(jf xs).bind fun(c9,ys,N)=>(fg (M.all fun m=>not' (N.any (Nat.beq m)))).bind fun _=>some (app ob c9,y::ys,cat M N)
theorem lX:∀{xs:List SR}{ob:List Pd}{ys:List SV}{M:List Nat},jf xs=some (ob,ys,M)->ae ob->dX (xs.map SR.den)=some (an ys,M)
 |[],ob,ys,M,h,_=>by simp only[jf,Option.some.injEq,Prod.mk.injEq]at h;obtain⟨-,rfl,rfl⟩:=h;rfl
 |x::xs,ob,ys,M,h,hc=>by simp only[jf,Option.bind_eq_some_iff,Prod.exists,bd,Option.some.injEq,Prod.mk.injEq]at h;obtain⟨mw,y,M1,h1,nk,KL,N,h2,_,h3,rfl,rfl,rfl⟩:=h;obtain⟨c1,c2⟩:=aJ.1 hc;simp only[List.map_cons,dX,mN h1 c1,lX h2 c2,ee,an];rw[if_pos];rw[List.all_eq_true]at h3⊢;intro m hm;have:=h3 m hm;rw[not_iff]at this;simp only[Bool.not_eq_true',List.contains_eq_mem,decide_eq_false_iff_not];intro Xi;rw[List.any_eq_false]at this;exact this m Xi (by simp)
def DI(tt:TT)(l:aP)(t:TypeId)(a x:SR):mb:=
 (CB tt t).bind fun ti=>(Au a).bind fun(ob,ad)=>(eX ad.v ad.p).bind fun(c9,y0)=>(fg (b8 (kb ti y0) (ne' ti.size 0))).bind fun _=>(tl x).bind fun(nk,y,M)=>(fg (kb ti y)).bind fun _=>D8 (app (app ob c9) nk) (HB l ad.r ad.p M y)
theorem A3(hA:bK P tt)(l:aP)(t:TypeId)(a x:SR):cn l (rF P t a.den x.den) (DI tt l t a x):=by
 unfold DI;refine ag _ fun ti h1=>ag _ fun⟨ob,ad⟩h2=>ag _ fun⟨c9,y0⟩h3=>aY fun h4=>ag _ fun⟨nk,y,M⟩h5=>aY fun h6=>kY _ fun hc=>?_;obtain⟨ZU,c3⟩:=aJ.1 hc;obtain⟨c1,c2⟩:=aJ.1 ZU;rw[aH,ne_iff]at h4;have ct:ti.den.size≠0:=h4.2;have hm:rF P t a.den x.den=some [.store ad.r ad.p M y.den]:=by unfold rF;simp only[jn hA h1,iT h2 c1,bI h3 c2,gF _ _ h4.1,mN h5 c3,gF _ _ h6,if_true,Bool.true_and];rw[if_pos];simpa using ct
 rw[hm];intro ob l' ks he bT;obtain⟨r1,r2⟩:=HA he bT;exact⟨_,rfl,by simp only[Mv.runs,r1],by simp[aN,Mv.keys,r2]⟩
end
theorem Fw{α β:Type}{g:α->Option β}:∀{l:List α}{r:List β},l.mapM g=some r->∀(i:Nat)(y:β),r[i]?=some y->∃x,l[i]?=some x/\g x=some y
 |[],r,h,i,y,hy=>by simp at h;subst h;simp at hy
 |x::l,r,h,i,y,hy=>by
  simp only[List.mapM_cons,Option.bind_eq_bind,Option.bind_eq_some_iff]at h;obtain⟨b,h1,bs,h2,h3⟩:=h;simp at h3;subst h3;cases i with
  |zero=>simp at hy;subst hy;exact⟨x,rfl,h1⟩
  |succ i=>simpa using Fw h2 i y (by simpa using hy)
theorem mapM_map{α β γ:Type}{g:α->Option β}{k:β->γ}:∀{l:List α}{r:List β},l.mapM g=some r->l.mapM (fun x=>(g x).map k)=some (r.map k)
 |[],r,h=>by simp at h;subst h;simp
 |x::l,r,h=>by simp only[List.mapM_cons,Option.bind_eq_bind,Option.bind_eq_some_iff]at h;obtain⟨b,h1,bs,h2,h3⟩:=h;simp at h3;subst h3;simp only[List.mapM_cons,h1,Option.map_some,Option.bind_eq_bind,Option.bind_some,mapM_map (k:=k) h2];rfl
def DF(tt:TT)(t:TypeId)(f:Nat):Option (Nat×TypeId):=(Bo tt t).bind fun|.struct fs=>(nth fs f).bind fun(o,ft,_)=>some (o,ft)|_=>none
theorem zA{P:Program}{tt:TT}(hA:bK P tt){t:TypeId}{f o ft:Nat}(h:DF tt t f=some (o,ft)):qC P t f=some (o,ft):=by
 simp only[DF,Option.bind_eq_some_iff]at h;obtain⟨u,h1,h2⟩:=h;cases u<;>simp only[Option.bind_eq_some_iff,Prod.exists]at h2<;>try(simp at h2;done)
 rename_i fs;obtain⟨o',ft',sz,h2,h3⟩:=h2;simp only[Option.some.injEq,Prod.mk.injEq]at h3;obtain⟨rfl,rfl⟩:=h3;obtain⟨fa,h4,h5⟩:=jS hA h1;rw[ko]at h2;obtain⟨x,h6,h7⟩:=Fw h5 _ _ h2;simp only[qC,h4];rw[Array.getElem?_toList]at h6;rw[h6];simp only[Option.map_eq_some_iff,Prod.mk.injEq]at h7;obtain⟨i,-,rfl,rfl,-⟩:=h7;rfl
def CY(tt:TT)(t:TypeId):Option (List (Nat×Nat)):=(Bo tt t).bind fun|.struct fs=>some (fs.map fun(o,_,n)=>(o,n))|_=>none
theorem Lk{P:Program}{tt:TT}(hA:bK P tt){t:TypeId}{pl:List (Nat×Nat)}(h:CY tt t=some pl):placesOf P t=some pl:=by
 simp only[CY,Option.bind_eq_some_iff]at h;obtain⟨u,h1,h2⟩:=h;cases u<;>simp only[Option.some.injEq]at h2<;>try(simp at h2;done)
 rename_i fs;subst h2;obtain⟨fa,h4,h5⟩:=jS hA h1;simp only[placesOf,h4];have:=mapM_map (k:=fun(x:Nat×TypeId×Nat)=>(x.1,x.2.2)) h5;rw[<-this]
 congr 1
 funext f
 cases P.info? f.type<;>rfl
def Qd(ti:ua)(o:Nat):Step:=match ti.agg with
 |true=>.at o (some ti.size)
 |false=>.at o none
theorem tX(ti:ua)(o:Nat):fv ti.den o=Qd ti o:=by unfold fv Qd ua.den;cases ti.agg<;>rfl
section
variable{P:Program}{tt:TT}(hA:bK P tt)(l:aP)(d:Nat)
theorem sR{m:Option (List Mv)}{ob:List Pd}{r g1 g2:Nat}{p:Path}(h:ae ob->m=some [.put d (.ptr r g1 g2 p)]):cn l m (cj ob l d (.ptr r g1 g2 p)):=bJ fun hc=>by simpa[SV.den]using h hc
theorem KD{m:Option (List Mv)}{ob:List Pd}{r g1 g2:Nat}{p:Path}(h:ae ob->m=some [.put d (.bg r g1 g2 p)]):cn l m (cj ob l d (.bg r g1 g2 p)):=bJ fun hc=>by simpa[SV.den]using h hc
def pT(tt:TT)(l:aP)(d:Nat)(t:TypeId)(x:SR)(f:Nat):mb:=
 (DF tt t f).bind fun(o,ft)=>(CB tt ft).bind fun ti=>(Au x).bind fun(ob,ad)=>(fg (b8 (ne' ad.r d) (ne' ti.size 0))).bind fun _=>match flat (ad.p++[Qd ti o])with
   |true=>cj ob l d (.ptr ad.r ad.g1 ad.g2 (ad.p++[Qd ti o]))
   |false=>(eX ad.v (ad.p++[Qd ti o])).bind fun(c9,_)=>cj (app ob c9) l d (.ptr ad.r ad.g1 ad.g2 (ad.p++[Qd ti o]))
theorem tw(hA:bK P tt)(l:aP)(d:Nat)(t:TypeId)(x:SR)(f:Nat):cn l (iD P d t x.den f) (pT tt l d t x f):=by
 unfold pT;refine ag _ fun⟨o,ft⟩h1=>ag _ fun ti h2=>ag _ fun⟨ob,ad⟩h3=>aY fun h4=>?_;rw[aH,ne_iff,ne_iff]at h4;have ct:ti.den.size≠0:=h4.2;cases hf:flat (ad.p++[Qd ti o])with
 |true=>refine sR _ _ fun c=>?_;unfold iD;simp only[zA hA h1,jn hA h2,iT h3 c,h4.1,ct,if_false,tX,hf,if_true]
 |false=>refine ag _ fun⟨c9,y⟩h5=>sR _ _ fun c=>?_;obtain⟨c1,c2⟩:=aJ.1 c;unfold iD;simp only[zA hA h1,jn hA h2,iT h3 c1,h4.1,ct,if_false,tX,hf,Bool.false_eq_true,bI h5 c2]
def DO(tt:TT)(l:aP)(d:Nat)(t:TypeId)(x:SR)(f:Nat):mb:=(DF tt t f).bind fun(o,ft)=>(CB tt ft).bind fun ti=>(cz x).bind fun(ob,v)=>(eX v [Qd ti o]).bind fun(c9,y)=>(fg y.az).bind fun _=>cj (app ob c9) l d y
theorem A6(hA:bK P tt)(l:aP)(d:Nat)(t:TypeId)(x:SR)(f:Nat):cn l (u9 P d t x.den f) (DO tt l d t x f):=by unfold DO;refine ag _ fun⟨o,ft⟩h1=>ag _ fun ti h2=>ag _ fun⟨ob,v⟩h3=>ag _ fun⟨c9,y⟩h4=>aY fun h5=>bJ fun c=>?_;obtain⟨c1,c2⟩:=aJ.1 c;unfold u9;simp only[zA hA h1,jn hA h2,aw h3 c1,tX,bI h4 c2,bX,h5,if_true]
def ns:SV->Option (Nat×Nat)
 |.nil=>some (0,0)
 |.ints _ _ xs=>some (1,xs.length)
 |.strs _ xs=>some (1,xs.length)
 |.bB _ xs=>some (1,xs.length)
 |.cJ _ sz _ _ xs=>some (sz,xs.length)
 |.row _ sz xs=>some (sz,len xs)
 |_=>none
theorem jy{y:SV}{sz n:Nat}(h:ns y=some (sz,n)):∃f X,y.den=.list f sz X/\X.length=n:=by
 cases y<;>simp only[ns,Option.some.injEq,Prod.mk.injEq]at h<;>try(simp at h;done)
 all_goals(obtain⟨rfl,rfl⟩:=h;exact⟨_,_,rfl,by simp[bt,dA]⟩)
def KO:SV->Option (Nat×Nat×Nat×Path×Nat×Nat×Nat)
 |.bg r g1 g2 p=>match Bn p with
  |some (q,sz,o,n)=>some (r,g1,g2,q,sz,o,n)
  |none=>none
 |_=>none
def H7:SV->Bool
 |.bg _ _ _ p=>iP p
 |_=>false
theorem KN{x:SR}(h:KO x.sl.v=none):x.den.jI=none:=by
 obtain⟨s,⟨v,g1,g2⟩,rt⟩:=x;unfold bo.jI;cases v<;>simp only[SR.den,Cl.den,SV.den];simp only[KO]at h;split at h
 ·simp at h
 rename_i hu;simp only[hu]
theorem KM{x:SR}{r g1 g2 sz o n fe k:Nat}{q:Path}{ob:List Pd}{y:SV}(h:KO x.sl.v=some (r,g1,g2,q,sz,o,n))(h1:x.rt.g1=g1)(h2:H7 x.sl.v=true\/x.rt.g2=g2)
 (hg:eX x.rt.v q=some (ob,y))(hc:ae ob)(hl:ns y=some (fe,k))(e:sz=fe)(hn:0<n)(ho:o+n<=k):x.den.jI=some (r,g1,x.rt.g2,q,sz,o,n):=by
 obtain⟨s,⟨v,a,b⟩,rt⟩:=x;obtain⟨f,X,e1,e2⟩:=jy hl;have hp:=bI hg hc;rw[e1]at hp;unfold bo.jI;cases v<;>simp only[KO]at h<;>try(simp at h;done)
 split at h<;>try(simp at h;done)
 rename_i hu;simp only[Option.some.injEq,Prod.mk.injEq]at h;obtain⟨rfl,rfl,rfl,rfl,rfl,rfl,rfl⟩:=h;simp only[H7]at h1 h2;simp only[SR.den,Cl.den,SV.den,hu,h1,if_true,hp];rw[if_pos h2,if_pos ⟨e,hn,by omega⟩]
def vh(tt:TT)(l:aP)(d:Nat)(t:TypeId)(x i:SR):mb:=
 (cz i).bind fun(ob,v)=>match v with
   |.n _ n=>(slice? tt t).bind fun e=>(CB tt e).bind fun ti=>match KO x.sl.v with
    |some (r,g1,g2,q,sz,o,m)=>(fg (b8 (Nat.beq x.rt.g1 g1) (Bg (H7 x.sl.v) (Nat.beq x.rt.g2 g2)))).bind fun _=>(eX x.rt.v q).bind fun(c9,y)=>(ns y).bind fun(fe,k)=>(fg (b8 (Nat.beq sz fe) (Nat.beq sz ti.size))).bind fun _=>(fg (ne' r d)).bind fun _=>cj ((0<=n)::(n<m)::(0<m)::(o+m<=k)::app ob c9) l d (.ptr r g1 x.rt.g2 (q++[.idx (o+n.toNat) sz]))
    |none=>(cz x).bind fun(c9,y)=>(ns y).bind fun(sz,k)=>(fg (Nat.beq sz ti.size)).bind fun _=>(rN x).bind fun(r,g1,g2,p)=>
    (fg (ne' r d)).bind fun _=>cj ((0<=n)::(n<k)::app ob c9) l d (.ptr r g1 g2 (p++[.idx n.toNat sz]))
   |_=>none
theorem xe(hA:bK P tt)(l:aP)(d:Nat)(t:TypeId)(x i:SR):cn l (eW P d t x.den i.den) (vh tt l d t x i):=by
 unfold vh;refine ag _ fun⟨ob,v⟩h1=>?_;cases v<;>try exact a7
 rename_i k n;refine ag _ fun e h2=>ag _ fun ti h3=>?_;cases hwp:KO x.sl.v with
 |some wp=>obtain⟨r,g1,g2,q,sz,o,m⟩:=wp;refine aY fun h4=>ag _ fun⟨c9,y⟩h5=>ag _ fun⟨fe,k'⟩h6=>aY fun h7=>aY fun h8=>sR _ _ fun c=>?_;simp only[ae]at c;obtain⟨a1,a2,a3,a4,c⟩:=c;obtain⟨c1,c2⟩:=aJ.1 c;rw[aH,oE,beq_iff,beq_iff]at h4;rw[aH,beq_iff,beq_iff]at h7;have hw:=KM hwp h4.1 h4.2 h5 c2 h6 h7.1 a3 a4;have AH:i.den.cont=some (.v (.int k n)):=aw h1 c1;have e3:sz=ti.den.size:=h7.2;unfold eW;simp only[AH,sE hA h2,jn hA h3,hw];rw[if_pos ⟨e3,a1,a2⟩];simp only[ne_iff.1 h8,if_false]
 |none=>
 have hwn:=KN hwp;refine ag _ fun⟨c9,y⟩h4=>ag _ fun⟨sz,m⟩h5=>aY fun h6=>ag _ fun⟨r,g1,g2,p⟩h7=>aY fun h8=>sR _ _ fun c=>?_;simp only[ae]at c;obtain⟨a1,a2,c⟩:=c;obtain⟨c1,c2⟩:=aJ.1 c;obtain⟨f,X,e1,e2⟩:=jy h5;have e3:sz=ti.den.size:=beq_iff.1 h6;unfold eW;have AH:i.den.cont=some (.v (.int k n)):=aw h1 c1;have ug:=aw h4 c2;rw[e1]at ug;simp only[AH,sE hA h2,jn hA h3,hwn,ug];rw[if_pos ⟨e3,a1,by rw[e2];exact a2⟩];simp only[lM,h7,ne_iff.1 h8,if_false]
def sc(tt:TT)(l:aP)(d:Nat)(len:Nat)(e:TypeId)(x i:SR):mb:=
 (cz i).bind fun(ob,v)=>match v with
   |.n _ n=>(CB tt e).bind fun ti=>(Au x).bind fun(c9,ad)=>(fg (ne' ad.r d)).bind fun _=>(eX ad.v (ad.p++[Qd ti (n.toNat*ti.size)])).bind fun(N3,_)=>cj ((0<=n)::(n<len)::app ob (app c9 N3)) l d (.ptr ad.r ad.g1 ad.g2 (ad.p++[Qd ti (n.toNat*ti.size)]))
   |_=>none
theorem vj(hA:bK P tt)(l:aP)(d:Nat)(t:TypeId){len:Nat}{e:TypeId}(hu:Bo tt t=some (.array len e))(x i:SR):cn l (eW P d t x.den i.den) (sc tt l d len e x i):=by
 unfold sc;refine ag _ fun⟨ob,v⟩h1=>?_;cases v<;>try exact a7
 rename_i k n;refine ag _ fun ti h2=>ag _ fun⟨c9,ad⟩h3=>aY fun h4=>ag _ fun⟨N3,y⟩h5=>sR _ _ fun c=>?_;simp only[ae]at c;obtain⟨a1,a2,c⟩:=c;obtain⟨c1,c2⟩:=aJ.1 c;obtain⟨c2,c3⟩:=aJ.1 c2;have AH:i.den.cont=some (.v (.int k n)):=aw h1 c1;have hU:P.underlying t=some (.array len e):=jS hA hu;unfold eW;simp only[AH,hU,jn hA h2,iT h3 c2];have Zx:=ne_iff.1 h4;have hg:=bI h5 c3;have hs:ti.den.size=ti.size:=rfl;rw[if_pos ⟨a1,a2,Zx⟩];simp only[tX,hs,hg]
def pS(tt:TT)(l:aP)(d:Nat)(t:TypeId)(x i:SR):mb:=
 match Bo tt t with
 |some (.array len e)=>sc tt l d len e x i
 |_=>vh tt l d t x i
theorem tr(hA:bK P tt)(l:aP)(d:Nat)(t:TypeId)(x i:SR):cn l (eW P d t x.den i.den) (pS tt l d t x i):=by
 unfold pS;split
 ·rename_i h;exact vj hA l d t h x i
 exact xe hA l d t x i
theorem WL(x:bw)(i:Nat):(bs x)[i]?=x[i]?:=by
 by_cases h:i<x.length
 ·rw[List.getElem?_eq_getElem h];have h':i<(bs x).size:=h;rw[getElem?_pos (bs x) i h'];rfl
 rw[List.getElem?_eq_none (by omega)];have h':¬i<(bs x).size:=h;rw[getElem?_neg (bs x) i h']
def DN(tt:TT)(l:aP)(d:Nat)(t:TypeId)(x i:SR):mb:=
 (cz i).bind fun(ob,v)=>match v with
   |.n _ n=>(Bo tt t).bind fun u=>match u with
    |.str=>(cz x).bind fun(c9,y)=>match y with
     |.s s=>cj ((0<=n)::(n<s.length)::app ob c9) l d (.n .u8 (s.getD n.toNat 0).toNat)
     |_=>none
    |.array len e=>(CB tt e).bind fun ti=>(cz x).bind fun(c9,v)=>(eX v [Qd ti (n.toNat*ti.size)]).bind fun(N3,y)=>(fg y.az).bind fun _=>cj ((0<=n)::(n<len)::app ob (app c9 N3)) l d y
    |_=>none
   |_=>none
theorem A5(hA:bK P tt)(l:aP)(d:Nat)(t:TypeId)(x i:SR):cn l (rS P d t x.den i.den) (DN tt l d t x i):=by
 unfold DN;refine ag _ fun⟨ob,v⟩h1=>?_;cases v<;>try exact a7
 rename_i k n;refine ag _ fun u h2=>?_;cases u<;>try exact a7
 case array len e=>refine ag _ fun ti h3=>ag _ fun⟨c9,v⟩h4=>ag _ fun⟨N3,y⟩h5=>aY fun h6=>bJ fun c=>?_;simp only[ae]at c;obtain⟨a1,a2,c⟩:=c;obtain⟨c1,c2⟩:=aJ.1 c;obtain⟨c2,c3⟩:=aJ.1 c2;have AH:i.den.cont=some (.v (.int k n)):=aw h1 c1;have hU:P.underlying t=some (.array len e):=jS hA h2;have hs:ti.den.size=ti.size:=rfl;unfold rS;simp only[AH,hU,jn hA h3,aw h4 c2];rw[if_pos ⟨a1,a2⟩];simp only[tX,hs,bI h5 c3,bX,h6,if_true]
 refine ag _ fun⟨c9,y⟩h3=>?_;cases y<;>try exact a7
 rename_i s;refine bJ fun c=>?_;simp only[ae]at c;obtain⟨a1,a2,c⟩:=c;obtain⟨c1,c2⟩:=aJ.1 c;have AH:i.den.cont=some (.v (.int k n)):=aw h1 c1;have ug:x.den.cont=some (.v (.string (bs s))):=aw h3 c2;have hu:P.underlying t=some .string:=jS hA h2;have cB:n.toNat<s.length:=by omega
 unfold rS;simp only[AH,hu,ug,a1,if_true,WL,List.getElem?_eq_getElem cB,SV.den];simp[List.getD_eq_getElem?_getD,List.getElem?_eq_getElem cB]
def vm(l:aP)(d:Nat)(x:SR)(i:Nat):mb:=
 (cz x).bind fun(ob,v)=>match v with
   |.bC xs=>(nth xs i).bind fun y=>match y.az with
    |true=>cj ob l d y
    |false=>(rN x).bind fun(r,g1,g2,p)=>(fg (b8 (ne' r d) (pI p))).bind fun _=>cj ob l d (.bg r g1 g2 [.bC i])
   |_=>none
theorem xf(x:SR)(i:Nat):cn l (lY d x.den i) (vm l d x i):=by
 unfold vm;refine ag _ fun⟨ob,v⟩h1=>?_;cases v<;>try exact a7
 rename_i xs;refine ag _ fun y h2=>?_;rw[ko]at h2;cases hn:y.az with
 |true=>refine bJ fun c=>?_;unfold lY;have hc:x.den.cont=some (.bC (an xs)):=aw h1 c;simp only[hc,gH,h2,Option.map_some,bX,hn,if_true]
 |false=>
  refine ag _ fun⟨r,g1,g2,p⟩h3=>aY fun h4=>KD _ _ fun c=>?_;rw[aH,ne_iff]at h4;have hp:p=[]:=by cases p<;>simp_all[pI]
  subst hp;unfold lY;have hc:x.den.cont=some (.bC (an xs)):=aw h1 c;simp only[hc,gH,h2,Option.map_some,bX,hn,Bool.false_eq_true,if_false,lM,h3];simp[h4.1]
def Wp(a:Int):Prop:= -9223372036854775808<=a/\a<=9223372036854775807
theorem mV{a:Int}(h:Wp a):IntKind.i64.wrap a=a:=by obtain⟨h1,h2⟩:=h;exact IntWalk.i64_in a ⟨h1,h2⟩
def num(raw:Bool)(k:IntKind)(a:Int):List Pd×SV:=match raw,k with
 |false,.i64=>([-9223372036854775808<=a,a<=9223372036854775807],.n .i64 a)
 |_,k=>([],.n k (k.wrap a))
theorem sX{raw:Bool}{k:IntKind}{a:Int}(h:ae (num raw k a).1):(num raw k a).2.den=.v (.int k (k.wrap a)):=by
 unfold num at h⊢;split
 ·simp only[ae,and_true]at h;simp[SV.den,mV (a:=a) h]
 rfl
def PN(tt:TT)(raw:Bool)(l:aP)(d:Nat)(s t:TypeId)(x:SR):mb:=
 (Bo tt s).bind fun u=>(Bo tt t).bind fun u'=>(cz x).bind fun(ob,v)=>match v with
   |.n _ n=>match u,u' with
    |.int _,.int k=>match num raw k n with
     |(c9,y)=>cj (app ob c9) l d y
    |_,_=>none
   |.s x=>match u,u' with
    |.str,.str=>cj ob l d (.s x)
    |_,_=>none
   |_=>none
theorem GP(hA:bK P tt)(l:aP)(d:Nat)(raw:Bool)(s t:TypeId)(x:SR):cn l (zY P d s t x.den) (PN tt raw l d s t x):=by
 unfold PN;refine ag _ fun u h1=>ag _ fun u' h2=>ag _ fun⟨ob,v⟩h3=>?_;cases v<;>try exact a7
 ·rename_i k n;cases u<;>try exact a7
  cases u'<;>try exact a7
  rename_i k1 k2;have e1:P.underlying s=some (.int k1):=jS hA h1;have e2:P.underlying t=some (.int k2):=jS hA h2;simp only;refine bJ fun c=>?_;obtain⟨c1,c2⟩:=aJ.1 c;have hc:x.den.cont=some (.v (.int k n)):=aw h3 c1;simp only[zY,e1,e2,hc,sX c2]
 rename_i y;cases u<;>try exact a7
 cases u'<;>try exact a7
 have e1:P.underlying s=some .string:=jS hA h1;have e2:P.underlying t=some .string:=jS hA h2;refine bJ fun c=>?_;have hc:x.den.cont=some (.v (.string (bs y))):=aw h3 c;simp only[zY,e1,e2,hc,SV.den]
end
theorem Et(b:ByteArray):∀(n i:Nat)(r:List UInt8),b.size-i=n->ByteArray.toList.loop b i r=r.reverse++b.data.toList.drop i:=by
 intro n
 induction n with
 |zero=>
  intro i r h;unfold ByteArray.toList.loop;have:¬i<b.size:=by omega
  rw[if_neg this];have hb:b.data.toList.length=b.size:=rfl;rw[List.drop_eq_nil_of_le (by omega)];simp
 |succ n ih=>
  intro i r h;unfold ByteArray.toList.loop;have h1:i<b.size:=by omega
  rw[if_pos h1,ih (i+1) _ (by omega)];have h2:i<b.data.toList.length:=h1;rw[List.drop_eq_getElem_cons h2];have:b.get! i=b.data.toList[i]:=by unfold ByteArray.get!;simp[getElem!_pos b.data i h1]
  rw[this];simp
theorem toList_data(b:ByteArray):b.toList=b.data.toList:=by unfold ByteArray.toList;rw[Et b _ 0 [] rfl];simp
theorem KC(x:bw):(bs x).toList=x:=by rw[toList_data];simp[bs]
theorem tR(x:bw):(bs x).size=x.length:=by simp[bs,ByteArray.size]
theorem MC(x y:bw):bs (x++y)=bs x++bs y:=by apply ByteArray.ext;simp[bs]
theorem I6(x:bw)(l h:Nat):bs ((x.take h).drop l)=(bs x).extract l h:=by apply ByteArray.ext;apply Array.ext';simp only[bs,ByteArray.data_extract,Array.toList_extract,List.extract_eq_take_drop];rw[List.drop_take]
def Vj(raw:Bool)(op:BinOp)(k:IntKind)(a b:Int):Option (List Pd×SV):=
 match op with
 |.add=>some (num raw k (a+b))
 |.sub=>some (num raw k (a-b))
 |.mul=>some (num raw k (a*b))
 |.quo=>match raw,k with
  |false,.i64=>some ([0<=a,a<=9223372036854775807,0<b],.n .i64 (a/b))
  |_,k=>some ([b≠0],.n k (k.wrap (a.tdiv b)))
 |.rem=>match raw with
  |false=>some ([0<=a,0<b],.n k (a%b))
  |true=>some ([b≠0],.n k (a.tmod b))
 |.and=>some ([],.n k (k.wrap (BitVec.ofInt k.bits a&&&BitVec.ofInt k.bits b).toNat))
 |.or=>some ([],.n k (k.wrap (BitVec.ofInt k.bits a|||BitVec.ofInt k.bits b).toNat))
 |.xor=>some ([],.n k (k.wrap (BitVec.ofInt k.bits a^^^BitVec.ofInt k.bits b).toNat))
 |.andNot=>some ([],.n k (k.wrap (BitVec.ofInt k.bits a&&& ~~~ BitVec.ofInt k.bits b).toNat))
 |.eql=>some ([],.u (decide (a=b)))
 |.neq=>some ([],.u (decide (¬a=b)))
 |.lss=>some ([],.u (decide (a<b)))
 |.leq=>some ([],.u (decide (a<=b)))
 |.gtr=>some ([],.u (decide (b<a)))
 |.geq=>some ([],.u (decide (b<=a)))
 |_=>none
def HI(op:BinOp)(k:IntKind)(a b:Int):Option (List Pd×SV):=
 match op with
 |.shl=>some ([0<=b],.n k (k.wrap (a*2^min b.toNat k.bits)))
 |.shr=>some ([0<=b],.n k (a.fdiv (2^min b.toNat k.bits)))
 |_=>none
def UI(op:BinOp)(a b:bw):Option (List Pd×SV):=
 match op with
 |.add=>some ([((a.length+b.length:Nat):Int)<=9223372036854775807],.s (a++b))
 |.eql=>some ([],.u (decide (a=b)))
 |.neq=>some ([],.u (decide (¬a=b)))
 |.lss=>some ([],.u (Op.bytesLess a b))
 |_=>none
def Al(op:BinOp)(a b:Bool):Option (List Pd×SV):=
 match op with
 |.eql=>some ([],.u (decide (a=b)))
 |.neq=>some ([],.u (decide (¬a=b)))
 |_=>none
def isBool:Option Ty->Bool
 |some .bool=>true
 |_=>false
def Dh:BinOp->Bool
 |.shl=>true
 |.shr=>true
 |_=>false
def asBool(op:BinOp)(b:Bool):Option SV:=
 match op with
 |.eql=>some (.b b)
 |.neq=>some (.b (not' b))
 |_=>none
def No:SV->Option Pd
 |.ints _ _ xs=>some (xs≠[])
 |.strs _ xs=>some (xs≠[])
 |.bB _ xs=>some (xs≠[])
 |.cJ _ _ _ _ xs=>some (xs≠[])
 |.row _ _ (_::_)=>some True
 |_=>none
def U7(tt:TT)(op:BinOp)(t:TypeId)(x y:SV):Option (List Pd×SV):=
 match y with
 |.nil=>match Bo tt t with
  |some (.slice _)=>match x with
   |.nil=>match asBool op true with
    |some z=>some ([],z)
    |none=>none
   |.dH _ xs=>match op with
    |.eql=>some ([],.u (decide (xs=[])))
    |.neq=>some ([],.u (decide (xs≠[])))
    |_=>none
   |x=>match No x with
    |some p=>match asBool op false with
     |some z=>some ([p],z)
     |none=>none
    |none=>none
  |_=>none
 |.c (.pointer none)=>match Bo tt t with
  |some .ptr=>match x with
   |.box _ _=>match asBool op false with
    |some z=>some ([],z)
    |none=>none
   |.c (.pointer none)=>match asBool op true with
    |some z=>some ([],z)
    |none=>none
   |_=>none
  |_=>none
 |.c .nilFunc=>match Bo tt t with
  |some .func=>match x with
   |.fn _ _ _=>match asBool op false with
    |some z=>some ([],z)
    |none=>none
   |.c .nilFunc=>match asBool op true with
    |some z=>some ([],z)
    |none=>none
   |_=>none
  |_=>none
 |_=>none
def WO(tt:TT)(raw:Bool)(op:BinOp)(t:TypeId)(x y:SV):Option (List Pd×SV):=
 match x,y with
 |.n k a,.n k' b=>match Dh op with
  |true=>HI op k a b
  |false=>match pH k k' with
   |true=>Vj raw op k a b
   |false=>none
 |.s a,.s b=>UI op a b
 |.b a,.b b=>match isBool (Bo tt t)with
  |true=>Al op a b
  |false=>none
 |.u a,.b b=>match isBool (Bo tt t)with
  |true=>Al op a b
  |false=>none
 |.b a,.u b=>match isBool (Bo tt t)with
  |true=>Al op a b
  |false=>none
 |.u a,.u b=>match isBool (Bo tt t)with
  |true=>Al op a b
  |false=>none
 |x,y=>U7 tt op t x y
section
variable{P:Program}{tt:TT}(hA:bK P tt)
theorem IT(a b:Int):(a==b)=decide (a=b):=by by_cases h:a=b<;>simp[h]
theorem OB{raw:Bool}{op:BinOp}{k:IntKind}{a b:Int}{ob:List Pd}{y:SV}(t:TypeId)(hs:Dh op=false)(h:Vj raw op k a b=some (ob,y))(hc:ae ob):
 ke P op t (.v (.int k a)) (.v (.int k b))=some y.den:=by
 have key:∃v,uz P op t (.int k a) (.int k b)=some v/\AV.v v=y.den:=by
  unfold uz;cases op<;>simp only[Vj,Option.some.injEq,Dh]at h hs⊢ <;>try(simp at h;done)
  all_goals try(simp at hs;done)
  case add=>obtain⟨rfl,rfl⟩:=Prod.mk.inj h;exact⟨_,if_pos trivial,(sX hc).symm⟩
  case sub=>obtain⟨rfl,rfl⟩:=Prod.mk.inj h;exact⟨_,if_pos trivial,(sX hc).symm⟩
  case mul=>obtain⟨rfl,rfl⟩:=Prod.mk.inj h;exact⟨_,if_pos trivial,(sX hc).symm⟩
  case quo=>
   split at h
   ·simp only[Option.some.injEq,Prod.mk.injEq]at h;obtain⟨rfl,rfl⟩:=h;obtain⟨c1,c2,c3,-⟩:=hc;have hb:b≠0:=by omega
    have e:a.tdiv b=a/b:=Int.tdiv_eq_ediv_of_nonneg c1;have h1:0<=a/b:=Int.ediv_nonneg c1 (by omega);have h2:a/b<=a:=Int.ediv_le_self _ c1;have hw:IntKind.i64.wrap (a/b)=a/b:=mV ⟨by omega,by omega⟩;refine⟨.int .i64 (a/b),?_,rfl⟩;simp[hb,e,hw]
   simp only[Option.some.injEq,Prod.mk.injEq]at h;obtain⟨rfl,rfl⟩:=h;exact⟨_,by simp[hc.1],rfl⟩
  case rem=>
   split at h
   ·simp only[Option.some.injEq,Prod.mk.injEq]at h;obtain⟨rfl,rfl⟩:=h;obtain⟨c1,c2,-⟩:=hc;have hb:b≠0:=by omega
    have e:a.tmod b=a%b:=Int.tmod_eq_emod_of_nonneg c1;exact⟨.int k (a%b),by simp[hb,e],rfl⟩
   simp only[Option.some.injEq,Prod.mk.injEq]at h;obtain⟨rfl,rfl⟩:=h;exact⟨_,by simp[hc.1],rfl⟩
  all_goals
   obtain⟨rfl,rfl⟩:=Prod.mk.inj h;refine⟨_,if_pos trivial,?_⟩
   first
    |rfl
    |(simp only[SV.den,IT,bne];by_cases e:a=b<;>simp[e])
 obtain⟨v,h1,h2⟩:=key;simp only[ke,h1,h2]
theorem HH{op:BinOp}{k k':IntKind}{a b:Int}{ob:List Pd}{y:SV}(t:TypeId)(h:HI op k a b=some (ob,y))(hc:ae ob):
 ke P op t (.v (.int k a)) (.v (.int k' b))=some y.den:=by
 cases op<;>simp only[HI]at h<;>try(simp at h;done)
 all_goals
  simp only[Option.some.injEq,Prod.mk.injEq]at h;obtain⟨rfl,rfl⟩:=h;simp only[ae,and_true]at hc;have:¬b<0:=by omega
  simp[ke,uz,this,SV.den]
theorem Nk{op:BinOp}{a b:bw}{ob:List Pd}{y:SV}(t:TypeId)(h:UI op a b=some (ob,y))(hc:ae ob):
 ke P op t (.v (.string (bs a))) (.v (.string (bs b)))=some y.den:=by
 cases op<;>simp only[UI]at h<;>try(simp at h;done)
 all_goals
  simp only[Option.some.injEq,Prod.mk.injEq]at h;obtain⟨rfl,rfl⟩:=h
 case add=>
  simp only[ae,and_true]at hc;have:¬(((bs a).size+(bs b).size:Nat):Int)>IntKind.i64.max:=by
   rw[tR,tR];have:IntKind.i64.max=9223372036854775807:=by decide
   omega
  simp only[ke,uz,this,if_false,SV.den,MC]
 case lss=>simp[ke,uz,SV.den,KC]
 all_goals
  simp only[ke,uz,SV.den,KC];by_cases e:a=b<;>simp[e]
theorem ME{op:BinOp}{a b:Bool}{ob:List Pd}{y:SV}{t:TypeId}(hu:P.underlying t=some .bool)(h:Al op a b=some (ob,y)):
 ke P op t (.v (.bool a)) (.v (.bool b))=some y.den:=by
 cases op<;>simp only[Al]at h<;>try(simp at h;done)
 all_goals
  simp only[Option.some.injEq,Prod.mk.injEq]at h;obtain⟨rfl,rfl⟩:=h;cases a<;>cases b<;>simp[ke,uz,hu,SV.den]
theorem jE{op:BinOp}{b:Bool}{z:SV}(h:asBool op b=some z):HW op (some b)=some z.den:=by
 cases op<;>simp only[asBool]at h<;>try(simp at h;done)
 all_goals
  simp only[Option.some.injEq]at h;subst h;cases b<;>rfl
theorem Uc(o:Bool):fl o≠.nil:=by cases o<;>simp[fl]
theorem K4{x:SV}{p:Pd}(h:No x=some p)(hp:p.p):∃f sz X,x.den=.list f sz X/\f≠.nil/\X.isEmpty=false:=by
 cases x<;>simp only[No,Option.some.injEq]at h<;>try(simp at h;done)
 case row o sz xs=>
  cases xs with
  |nil=>simp at h
  |cons x xs=>exact⟨_,_,_,rfl,Uc _,rfl⟩
 all_goals
  subst h;refine⟨_,_,_,rfl,Uc _,?_⟩;simpa using hp
theorem N7(hA:bK P tt){op:BinOp}{t:TypeId}{x y z:SV}{ob:List Pd}(h:U7 tt op t x y=some (ob,z))(hc:ae ob):ke P op t x.den y.den=some z.den:=by
 unfold U7 at h;split at h<;>try(simp at h;done)
 ·split at h<;>try(simp at h;done)
  rename_i e hu;have hu:P.underlying t=some (.slice e):=jS hA hu;split at h
  ·split at h<;>try(simp at h;done)
   rename_i z' hz;simp only[Option.some.injEq,Prod.mk.injEq]at h;obtain⟨-,rfl⟩:=h;have:=jE hz;simpa[ke,isNil,SV.den,hu]using this
  ·rename_i xs;cases op<;>simp only[Option.some.injEq,Prod.mk.injEq]at h<;>try(simp at h;done)
   all_goals
    obtain⟨-,rfl⟩:=h;cases xs<;>simp[ke,isNil,SV.den,ZE,XO,hu,HW]
  split at h<;>try(simp at h;done)
  rename_i p hp;split at h<;>try(simp at h;done)
  rename_i z' hz;simp only[Option.some.injEq,Prod.mk.injEq]at h;obtain⟨rfl,rfl⟩:=h;simp only[ae,and_true]at hc;have:=jE hz;obtain⟨f,sz,X,e1,e2,e3⟩:=K4 hp hc;rw[e1];cases f with
  |nil=>exact absurd rfl e2
  |shr=>simpa[ke,isNil,SV.den,hu,e3]using this
  |own=>simpa[ke,isNil,SV.den,hu,e3]using this
 ·split at h<;>try(simp at h;done)
  rename_i hu;obtain⟨e,hu⟩:∃e,P.underlying t=some (.pointer e):=jS hA hu;split at h<;>try(simp at h;done)
  ·split at h<;>try(simp at h;done)
   rename_i z' hz;simp only[Option.some.injEq,Prod.mk.injEq]at h;obtain⟨-,rfl⟩:=h;have:=jE hz;simpa[ke,isNil,SV.den,hu]using this
  split at h<;>try(simp at h;done)
  rename_i z' hz;simp only[Option.some.injEq,Prod.mk.injEq]at h;obtain⟨-,rfl⟩:=h;have:=jE hz;simpa[ke,uz,isNil,SV.den,hu]using this
 split at h<;>try(simp at h;done)
 rename_i hu;obtain⟨a,b,c,hu⟩:∃a b c,P.underlying t=some (.func a b c):=jS hA hu;split at h<;>try(simp at h;done)
 ·split at h<;>try(simp at h;done)
  rename_i z' hz;simp only[Option.some.injEq,Prod.mk.injEq]at h;obtain⟨-,rfl⟩:=h;have:=jE hz;simpa[ke,isNil,SV.den,hu]using this
 split at h<;>try(simp at h;done)
 rename_i z' hz;simp only[Option.some.injEq,Prod.mk.injEq]at h;obtain⟨-,rfl⟩:=h;have:=jE hz;simpa[ke,uz,isNil,SV.den,hu]using this
theorem P5(hA:bK P tt){raw:Bool}{op:BinOp}{t:TypeId}{x y z:SV}{ob:List Pd}(h:WO tt raw op t x y=some (ob,z))(hc:ae ob):ke P op t x.den y.den=some z.den:=by
 have J4:∀a b:Bool,(match isBool (Bo tt t)with
  |true=>Al op a b
  |false=>none)=some (ob,z)->ke P op t (.v (.bool a)) (.v (.bool b))=some z.den:=by
  intro a b h;split at h<;>try(simp at h;done)
  rename_i hb;have hu:P.underlying t=some .bool:=by
   unfold isBool at hb;split at hb
   ·rename_i hu;exact jS hA hu
   simp at hb
  exact ME hu h
 unfold WO at h;split at h
 ·split at h
  ·exact HH t h hc
  rename_i hs;split at h<;>try(simp at h;done)
  rename_i hk;have:=kV hk;subst this;exact OB t hs h hc
 ·exact Nk t h hc
 ·exact J4 _ _ h
 ·exact J4 _ _ h
 ·exact J4 _ _ h
 ·exact J4 _ _ h
 exact N7 hA h hc
def Uz(raw:Bool)(op:UnOp)(x:SV):Option (List Pd×SV):=
 match op,x with
 |.neg,.n k n=>some (num raw k (0-n))
 |.xor,.n k n=>some ([],.n k (k.wrap (BitVec.ofInt k.bits (if k.signed then -1 else k.max)^^^BitVec.ofInt k.bits n).toNat))
 |.not,.b b=>some ([],.b (not' b))
 |.not,.u b=>some ([],.u (!b))
 |_,_=>none
theorem Nc{raw:Bool}{op:UnOp}{x y:SV}{ob:List Pd}(h:Uz raw op x=some (ob,y))(hc:ae ob):∃v w,x.den=.v v/\UA op v=some w/\y.den=.v w:=by
 unfold Uz at h;split at h<;>try(simp at h;done)
 ·simp only[Option.some.injEq]at h;obtain⟨rfl,rfl⟩:=Prod.mk.inj h;exact⟨_,_,rfl,rfl,sX hc⟩
 ·simp only[Option.some.injEq,Prod.mk.injEq]at h;obtain⟨rfl,rfl⟩:=h;exact⟨_,_,rfl,rfl,rfl⟩
 ·simp only[Option.some.injEq,Prod.mk.injEq]at h;obtain⟨rfl,rfl⟩:=h;rename_i b;refine⟨_,_,rfl,rfl,?_⟩;cases b<;>rfl
 simp only[Option.some.injEq,Prod.mk.injEq]at h;obtain⟨rfl,rfl⟩:=h;exact⟨_,_,rfl,rfl,rfl⟩
def PB(tt:TT)(raw:Bool)(l:aP)(d:Nat)(op:BinOp)(t:TypeId)(x y:SR):mb:=(cz x).bind fun(ob,a)=>(cz y).bind fun(c9,b)=>(WO tt raw op t a b).bind fun(nk,z)=>cj (app nk (app ob c9)) l d z
theorem Gw(hA:bK P tt)(raw:Bool)(l:aP)(d:Nat)(op:BinOp)(t:TypeId)(x y:SR):cn l (S7 P d op t x.den.cont y.den.cont) (PB tt raw l d op t x y):=by unfold PB;refine ag _ fun⟨ob,a⟩h1=>ag _ fun⟨c9,b⟩h2=>ag _ fun⟨nk,z⟩h3=>bJ fun c=>?_;obtain⟨c3,ZU⟩:=aJ.1 c;obtain⟨c1,c2⟩:=aJ.1 ZU;simp only[S7,aw h1 c1,aw h2 c2,P5 hA h3 c3]
def Wt(raw:Bool)(l:aP)(d:Nat)(op:UnOp)(x:SR):mb:=(cz x).bind fun(ob,a)=>(Uz raw op a).bind fun(c9,z)=>cj (app c9 ob) l d z
theorem IF(raw:Bool)(l:aP)(d:Nat)(op:UnOp)(x:SR):cn l (un1 d op x.den.cont) (Wt raw l d op x):=by unfold Wt;refine ag _ fun⟨ob,a⟩h1=>ag _ fun⟨c9,z⟩h2=>bJ fun c=>?_;obtain⟨c2,c1⟩:=aJ.1 c;obtain⟨v,w,e1,e2,e3⟩:=Nc h2 c2;have:=aw h1 c1;rw[e1]at this;simp only[un1,this,e2,e3]
def IG(l:aP)(d:Nat)(c x y:SR):mb:=
 (cz c).bind fun(ob,a)=>match a with
   |.b true=>D8 ob (pP l d x)
   |.b false=>D8 ob (pP l d y)
   |_=>none
theorem DK(l:aP)(d:Nat)(c x y:SR):cn l (E4 d c.den.cont x.den y.den) (IG l d c x y):=by
 unfold IG;refine ag _ fun⟨ob,a⟩h1=>?_;cases a<;>try exact a7
 rename_i b;cases b
 ·refine kY _ fun c1=>?_;have:c.den.cont=some (.v (.bool false)):=aw h1 c1;simp only[E4,this];exact gM l d y
 refine kY _ fun c1=>?_;have:c.den.cont=some (.v (.bool true)):=aw h1 c1;simp only[E4,this];exact gM l d x
end
section
variable{P:Program}{tt:TT}(hA:bK P tt)(l:aP)(d:Nat)
def II(l:aP)(d:Nat)(u:Ty)(ob:List Pd)(v:SV):mb:=(ns v).bind fun(_,n)=>match u with
 |.slice _=>cj ob l d (.n .i64 n)
 |_=>none
def Py(tt:TT)(l:aP)(d:Nat)(t:TypeId)(x:SR):mb:=
 (cz x).bind fun(ob,v)=>(Bo tt t).bind fun u=>match v with
   |.s s=>match u with
    |.str=>cj ob l d (.n .i64 s.length)
    |_=>none
   |v=>II l d u ob v
theorem Gu(hA:bK P tt)(l:aP)(d:Nat)(t:TypeId)(ts:List TypeId)(x:SR):cn l (iF P d .len (t::ts) [x.den]) (Py tt l d t x):=by
 unfold Py;refine ag _ fun⟨ob,v⟩h1=>ag _ fun u h2=>?_;have gen:∀v,cz x=some (ob,v)->cn l (iF P d .len (t::ts) [x.den]) (II l d u ob v):=by
  intro v h1;unfold II;refine ag _ fun⟨sz,n⟩h3=>?_;cases u<;>try exact a7
  rename_i e;refine bJ fun c=>?_;obtain⟨f,X,e1,e2⟩:=jy h3;have hc:=aw h1 c;rw[e1]at hc;have hu:P.underlying t=some (.slice e):=jS hA h2;simp only[iF,hc,hu,e2,SV.den]
 cases v with
 |s s=>
  cases u<;>try exact a7
  refine bJ fun c=>?_;have hc:x.den.cont=some (.v (.string (bs s))):=aw h1 c;have hu:P.underlying t=some .string:=jS hA h2;simp only[iF,hc,hu,tR,SV.den]
 |_=>exact gen _ h1
def qM(op:Bool)(a b:Int):Int:=match op with
 |true=>min a b
 |false=>max a b
def Kf(op:Bool)(l:aP)(d:Nat)(x y:SR):mb:=
 (cz x).bind fun(ob,a)=>(cz y).bind fun(c9,b)=>match a,b with
   |.n k a,.n k' b=>(fg (pH k k')).bind fun _=>cj (app ob c9) l d (.n k (qM op a b))
   |_,_=>none
theorem wK(op:Bool)(ts:List TypeId)(x y:SR):cn l (iF P d (if op then .min else .max) ts [x.den,y.den]) (Kf op l d x y):=by
 unfold Kf;refine ag _ fun⟨ob,a⟩h1=>ag _ fun⟨c9,b⟩h2=>?_;cases a<;>try exact a7
 cases b<;>try exact a7
 rename_i k a k' b;refine aY fun h3=>bJ fun c=>?_;have:=kV h3;subst this;obtain⟨c1,c2⟩:=aJ.1 c;have e1:x.den.cont=some (.v (.int k a)):=aw h1 c1;have e2:y.den.cont=some (.v (.int k b)):=aw h2 c2;cases op
 ·simp only[Bool.false_eq_true,if_false,iF,e1,e2,if_true,SV.den,qM]
 simp only[if_true,iF,e1,e2,SV.den,qM]
def IL(ti:ua):SV->Option (List Pd×Bool)
 |.ints .. =>(fg (b8 (not' ti.agg) (Nat.beq ti.size 1))).bind fun _=>some ([],true)
 |.strs .. =>(fg (b8 (not' ti.agg) (Nat.beq ti.size 1))).bind fun _=>some ([],true)
 |.bB .. =>(fg (b8 (not' ti.agg) (Nat.beq ti.size 1))).bind fun _=>some ([],true)
 |.row _ sz xs=>(fg (b8 (Nat.beq sz ti.size) (xs.all (kb ti)))).bind fun _=>some ([],eV xs)
 |.cJ _ sz _ e _=>(fg (Nat.beq sz ti.size)).bind fun _=>some ([.of (∀x,kb ti (e x)=true),.of (∀x,(e x).az=true)],true)
 |_=>none
def gT:SV->Bool
 |.ints _ o _=>o
 |.strs o _=>o
 |.bB o _=>o
 |.row o _ _=>o
 |.cJ o _ _ _ _=>o
 |_=>false
theorem uO{xs:List AV}(h:∀x∈xs,x.az=true):bG xs=true:=by
 induction xs with
 |nil=>rfl
 |cons x xs ih=>simp only[bG,Bool.and_eq_true];exact⟨h x (by simp),ih fun y hy=>h y (by simp[hy])⟩
theorem IK{ti:ua}{y:SV}{ob:List Pd}{no:Bool}(h:IL ti y=some (ob,no))(hc:ae ob):
 ∃X,y.den=.list (fl (gT y)) ti.size X/\X.all (fits ti.den)=true/\bG X=no:=by
 unfold IL at h;cases y<;>simp only[Option.bind_eq_some_iff,bd,aH,not_iff,beq_iff,Option.some.injEq,Prod.mk.injEq]at h<;>try(simp at h;done)
 case row o sz xs=>obtain⟨_,⟨rfl,h2⟩,rfl,rfl⟩:=h;refine⟨an xs,rfl,?_,cZ xs⟩;rw[List.all_eq_true]at h2⊢;intro x hx;rw[bx]at hx;obtain⟨y,hy,rfl⟩:=List.mem_map.1 hx;exact gF ti y (h2 y hy)
 case cJ o sz α dd e xs=>
  obtain⟨_,rfl,rfl,rfl⟩:=h;obtain⟨c1,c2,-⟩:=hc;refine⟨_,rfl,?_,uO ?_⟩
  ·rw[List.all_eq_true];intro x hx;obtain⟨y,hy,rfl⟩:=List.mem_map.1 hx;exact gF ti _ (c1 y)
  intro x hx;obtain⟨y,hy,rfl⟩:=List.mem_map.1 hx;rw[bX];exact c2 y
 all_goals
  obtain⟨_,⟨h1,h2⟩,rfl,rfl⟩:=h;refine⟨_,by rw[SV.den,h2];rfl,?_,uO ?_⟩
  ·rw[List.all_eq_true];intro x hx;obtain⟨y,hy,rfl⟩:=List.mem_map.1 hx;simp[fits,ua.den,h1,h2,AV.cell]
  intro x hx;obtain⟨y,hy,rfl⟩:=List.mem_map.1 hx;rfl
def SY:SV->SV->Option (List Pd×SV)
 |.nil,.ints k _ ys=>some ([ys≠[]],.ints k true ys)
 |.nil,.strs _ ys=>some ([ys≠[]],.strs true ys)
 |.nil,.bB _ ys=>some ([ys≠[]],.bB true ys)
 |.nil,.cJ _ sz d e ys=>some ([ys≠[]],.cJ true sz d e ys)
 |.nil,.row _ sz (y::ys)=>some ([],.row true sz (y::ys))
 |.ints k true xs,.ints k' _ ys=>(fg (pH k k')).bind fun _=>some ([],.ints k true (xs++ys))
 |.strs true xs,.strs _ ys=>some ([],.strs true (xs++ys))
 |.bB true xs,.bB _ ys=>some ([],.bB true (xs++ys))
 |.row true sz xs,.row _ _ ys=>some ([],.row true sz (cat xs ys))
 |.row true sz [],.ints k _ ys=>(fg (Nat.beq sz 1)).bind fun _=>some ([],.ints k true ys)
 |.row true sz [],.strs _ ys=>(fg (Nat.beq sz 1)).bind fun _=>some ([],.strs true ys)
 |.row true sz [],.bB _ ys=>(fg (Nat.beq sz 1)).bind fun _=>some ([],.bB true ys)
 |.row true sz [],.cJ _ fe d e ys=>(fg (Nat.beq sz fe)).bind fun _=>some ([],.cJ true fe d e ys)
 |.row true sz (x::xs),.cJ _ _ _ e ys=>some ([],.row true sz (cat (x::xs) (ys.map e)))
 |.cJ true sz _ e xs,.row _ _ ys=>some ([],.row true sz (cat (xs.map e) ys))
 |.cJ true sz _ e xs,.cJ _ _ _ e' ys=>some ([],.row true sz (cat (xs.map e) (ys.map e')))
 |_,_=>none
theorem P2{a b z:SV}{ob:List Pd}{f:Fl}{sz:Nat}{Y:List AV}(h:SY a b=some (ob,z))(hc:ae ob)(hb:b.den=.list f sz Y):
 (a=.nil/\Y.isEmpty=false/\z.den=.list .own sz Y)\/(a≠.nil/\∃fe X,a.den=.list .own fe X/\z.den=.list .own fe (X++Y)):=by
 unfold SY at h;split at h
 all_goals try(simp at h;done)
 all_goals simp only[SV.den,AV.list.injEq]at hb
 all_goals obtain⟨rfl,rfl,rfl⟩:=hb
 all_goals simp only[Option.bind_eq_some_iff,bd,Option.some.injEq,Prod.mk.injEq]at h
 ·obtain⟨rfl,rfl⟩:=h;left;refine⟨rfl,?_,rfl⟩;simpa[ae]using hc
 ·obtain⟨rfl,rfl⟩:=h;left;refine⟨rfl,?_,rfl⟩;simpa[ae]using hc
 ·obtain⟨rfl,rfl⟩:=h;left;refine⟨rfl,?_,rfl⟩;simpa[ae]using hc
 ·obtain⟨rfl,rfl⟩:=h;left;refine⟨rfl,?_,rfl⟩;simpa[ae]using hc
 ·obtain⟨rfl,rfl⟩:=h;left;exact⟨rfl,rfl,rfl⟩
 ·obtain⟨_,hk,rfl,rfl⟩:=h;have:=kV hk;subst this;right;exact⟨by simp,_,_,rfl,by simp[SV.den,fl]⟩
 ·obtain⟨rfl,rfl⟩:=h;right;exact⟨by simp,_,_,rfl,by simp[SV.den,fl]⟩
 ·obtain⟨rfl,rfl⟩:=h;right;exact⟨by simp,_,_,rfl,by simp[SV.den,fl]⟩
 ·obtain⟨rfl,rfl⟩:=h;right;exact⟨by simp,_,_,rfl,by simp[SV.den,fl,ee,bx]⟩
 ·obtain⟨_,hb,rfl,rfl⟩:=h;rw[beq_iff]at hb;subst hb;right;exact⟨by simp,_,_,rfl,by simp[SV.den,fl,an]⟩
 ·obtain⟨_,hb,rfl,rfl⟩:=h;rw[beq_iff]at hb;subst hb;right;exact⟨by simp,_,_,rfl,by simp[SV.den,fl,an]⟩
 ·obtain⟨_,hb,rfl,rfl⟩:=h;rw[beq_iff]at hb;subst hb;right;exact⟨by simp,_,_,rfl,by simp[SV.den,fl,an]⟩
 ·obtain⟨_,hb,rfl,rfl⟩:=h;rw[beq_iff]at hb;subst hb;right;exact⟨by simp,_,_,rfl,by simp[SV.den,fl,an]⟩
 ·obtain⟨rfl,rfl⟩:=h;right;exact⟨by simp,_,_,rfl,by simp[SV.den,fl,ee,bx]⟩
 ·obtain⟨rfl,rfl⟩:=h;right;exact⟨by simp,_,_,rfl,by simp[SV.den,fl,ee,bx]⟩
 obtain⟨rfl,rfl⟩:=h;right;exact⟨by simp,_,_,rfl,by simp[SV.den,fl,ee,bx];rfl⟩
def Ar(My:List Nat)(d:Nat)(x:bo)(ti:TI)(ys:List AV):Option (List Mv):=
 match x.cont with
 |some (.list .nil _ _)=>if(ys.length*ti.bytes)<=140737488355328/\ys.length<=maxLen then
   some [.make My d (if ys.isEmpty then .list .nil 0 []else .list .own ti.size ys)]else none
 |some (.list .own Qt xs)=>if Qt=ti.size/\(xs.length+ys.length)*ti.bytes<=140737488355328/\xs.length+ys.length<=maxLen then
   match x.sl.av with
   |.bg r _ _ p=>if r∈My then none else some [.take r d p,.make (d::My) d (.list .own ti.size (xs++ys))]
   |_=>match x.s with
    |some s=>if s∈My then none else some [.make (s::My) d (.list .own ti.size (xs++ys))]
    |none=>none
  else none
 |_=>none
theorem D7{P:Program}{d:Nat}{t e:TypeId}{x y:bo}{ti:TI}{f:Fl}{sz:Nat}{ys:List AV}{My:List Nat}(h1:cG P t=some e)(h2:bE P e=some ti)(h3:ti.size≠0)
 (h4:y.cont=some (.list f sz ys))(h5:(bG ys=true/\My=[])\/(bG ys=false/\f=.own/\(∃a b c,y.sl.av=.list a b c)/\∃s,y.s=some s/\My=[s]))
 (h6:((ys.isEmpty||(sz==ti.size&&ys.all (fits ti)))&& !My.contains d)=true):jh P d t x y=Ar My d x ti ys:=by
 unfold jh;simp only[h1,h2,h3,if_false,h4];rcases h5 with⟨h5,rfl⟩|⟨h5,rfl,⟨a,b,c,h7⟩,s,h8,rfl⟩
 ·simp only[h5,if_true,h6];rfl
 simp only[h5,Bool.false_eq_true,if_false,h7,h8,h6,if_true];rfl
def myS(no:Bool)(y:SR):Option (List Nat):=match no with
 |true=>some []
 |false=>match y.sl.v with
  |.row true _ _=>match y.s with
   |some s=>some [s]
   |none=>none
  |_=>none
def Db(d:Nat)(M:List Nat):Bool:=M.any (Nat.beq d)
theorem mem_iff{d:Nat}{M:List Nat}:Db d M=true↔d∈M:=by
 unfold Db;rw[List.any_eq_true];constructor
 ·rintro⟨x,hx,h⟩;rw[beq_iff]at h;subst h;exact hx
 intro h;exact⟨d,h,by simp⟩
def Pz(l:aP)(d:Nat)(x:SR)(a:SV)(My:List Nat)(ob:List Pd)(z:SV):mb:=
 match a with
 |.nil=>lO ob l My d z
 |_=>match x.sl.v with
  |.bg r _ _ p=>(fg (not' (Db r My))).bind fun _=>(Bq l r d p).bind fun(c9,_,l')=>pF l' (d::My) d z fun l2=>some (app ob c9,l2,cat [r,d] (d::d::My))
  |_=>match x.s with
   |some s=>(fg (not' (Db s My))).bind fun _=>lO ob l (s::My) d z
   |none=>none
def jA(tt:TT)(l:aP)(d:Nat)(t:TypeId)(x y:SR)(z?:SV->SV->Option (List Pd×SV)):mb:=
 (slice? tt t).bind fun e=>(CB tt e).bind fun ti=>(cz x).bind fun(ob,a)=>(cz y).bind fun(c9,b)=>match ti with
   |⟨g,n,bytes,zero⟩=>(fg (b8 (ne' n 0) (ne' bytes 0))).bind fun _=>(IL ⟨g,n,bytes,zero⟩ b).bind fun(nk,no)=>(myS no y).bind fun My=>(fg (not' (Db d My))).bind fun _=>
    (z? a b).bind fun(Ru,z)=>(ns a).bind fun(sz,k1)=>(ns b).bind fun(_,k2)=>(fg (Bg (yR a) (Nat.beq sz n))).bind fun _=>Pz l d x a My (((k1+k2)*bytes<=140737488355328)::app ob (app c9 (app nk Ru))) z
 where yR:SV->Bool
  |.nil=>true
  |_=>false
theorem yQ{a:SV}:jA.yR a=true↔a=.nil:=by cases a<;>simp[jA.yR]
theorem xg(hA:bK P tt)(l:aP)(d:Nat)(t:TypeId)(x y:SR)(z?:SV->SV->Option (List Pd×SV))
 (hz:∀a b ob z f sz Y,z? a b=some (ob,z)->ae ob->b.den=.list f sz Y->(a=.nil/\Y.isEmpty=false/\z.den=.list .own sz Y)\/(a≠.nil/\∃fe X,a.den=.list .own fe X/\z.den=.list .own fe (X++Y))):
 cn l (jh P d t x.den y.den) (jA tt l d t x y z?):=by
 unfold jA;refine ag _ fun e h1=>ag _ fun ti h2=>ag _ fun⟨ob,a⟩h3=>ag _ fun⟨c9,b⟩h4=>?_;obtain⟨g,n,bytes,zero⟩:=ti;simp only;refine aY fun h5=>ag _ fun⟨nk,no⟩h6=>ag _ fun My h7=>aY fun h8=>ag _ fun⟨Ru,z⟩h9=>ag _ fun⟨sz,k1⟩Sp=>ag _ fun⟨W4,k2⟩ZA=>aY fun h12=>?_;rw[aH,ne_iff,ne_iff]at h5;rw[not_iff]at h8;have hdM:d∉My:=by intro hm;rw[mem_iff.2 hm]at h8;simp at h8
 have ga:=jn hA h2;have base:ae (((k1+k2)*bytes<=140737488355328)::app ob (app c9 (app nk Ru)))->
  (a=.nil/\jh P d t x.den y.den=some [.make My d z.den])\/
  (a≠.nil/\jh P d t x.den y.den=match x.den.sl.av with
    |.bg r _ _ p=>if r∈My then none else some [.take r d p,.make (d::My) d z.den]
    |_=>match x.den.s with
     |some s=>if s∈My then none else some [.make (s::My) d z.den]
     |none=>none):=by
  intro c;obtain⟨cb,c⟩:=c;obtain⟨c1,c⟩:=aJ.1 c;obtain⟨c2,c⟩:=aJ.1 c;obtain⟨c3,c4⟩:=aJ.1 c;obtain⟨Y,e1,e2,e3⟩:=IK h6 c3;have hx:=aw h3 c1;have hy:=aw h4 c2;rw[e1]at hy;have JY:Y.length=k2:=by obtain⟨f,X,q1,q2⟩:=jy ZA;rw[e1]at q1;simp only[AV.list.injEq]at q1;obtain⟨-,-,rfl⟩:=q1;exact q2
  have J7:(bG Y=true/\My=[])\/(bG Y=false/\fl (gT b)=.own/\(∃a b c,y.den.sl.av=.list a b c)/\∃s,y.den.s=some s/\My=[s]):=by
   rw[e3];unfold myS at h7;cases no with
   |true=>left;simp only[Option.some.injEq]at h7;exact⟨rfl,h7.symm⟩
   |false=>
    right;simp only at h7;split at h7<;>try(simp at h7;done)
    rename_i fe rs hv;split at h7<;>try(simp at h7;done)
    rename_i s hs;simp only[Option.some.injEq]at h7;have hb:b=.row true fe rs:=by unfold cz at h4;rw[hv]at h4;simp only[Option.some.injEq,Prod.mk.injEq]at h4;exact h4.2.symm
    subst hb;have bQ:y.den.sl.av=.list .own fe (an rs):=by show y.sl.v.den=.list .own fe (an rs);rw[hv];rfl
    exact⟨rfl,rfl,⟨_,_,_,bQ⟩,s,hs,h7.symm⟩
  have mM:0<bytes:=Nat.pos_of_ne_zero h5.2;have Iq:k1+k2<=maxLen:=by have:(k1+k2)*1<=(k1+k2)*bytes:=Nat.mul_le_mul_left _ mM;unfold maxLen;omega
  have TZ:(!My.contains d)=true:=by simpa using hdM
  have gr:((Y.isEmpty||(({agg:=g,size:=n,bytes:=bytes,zero:=zero}:ua).size==(ua.den ⟨g,n,bytes,zero⟩).size&&Y.all (fits (ua.den ⟨g,n,bytes,zero⟩))))&& !My.contains d)=true:=by rw[TZ,e2];simp[ua.den]
  have OZ:(ua.den ⟨g,n,bytes,zero⟩).size≠0:=h5.1;have hbs:(ua.den ⟨g,n,bytes,zero⟩).bytes=bytes:=rfl;rw[D7 (kC hA h1) ga OZ hy J7 gr];unfold Ar;rw[hx];rcases hz a b Ru z _ _ _ h9 c4 e1 with⟨rfl,z1,z2⟩|⟨z0,fe,X,z1,z2⟩
  ·left;refine⟨rfl,?_⟩;simp only[ns,Option.some.injEq,Prod.mk.injEq]at Sp;have YU:k1=0:=Sp.2.symm;subst YU;simp only[SV.den];rw[if_pos ⟨by rw[hbs,JY];simpa using cb,by rw[JY];omega⟩];simp only[z1,Bool.false_eq_true,if_false,z2];rfl
  right;refine⟨z0,?_⟩;rw[z1,z2];have JZ:X.length=k1/\fe=sz:=by obtain⟨f,X',q1,q2⟩:=jy Sp;rw[z1]at q1;simp only[AV.list.injEq]at q1;obtain⟨-,rfl,rfl⟩:=q1;exact⟨q2,rfl⟩
  have ct:sz=n:=by rw[oE,beq_iff,yQ]at h12;exact h12.resolve_left z0
  have Y7:(ua.den ⟨g,n,bytes,zero⟩).size=n:=rfl;simp only;rw[if_pos ⟨by rw[JZ.2,ct,Y7],by rw[hbs,JZ.1,JY];exact cb,by rw[JZ.1,JY];exact Iq⟩];rw[Y7,<-ct,<-JZ.2]
 unfold Pz;split
 ·refine iR fun c=>?_;rcases base c with⟨-,h⟩|⟨h,-⟩
  ·exact h
  exact absurd rfl h
 rename_i Im;split
 ·rename_i r g1 g2 p hv;refine aY fun So=>?_;rw[not_iff]at So;have R4:r∉My:=by intro hm;rw[mem_iff.2 hm]at So;simp at So
  refine ag _ fun⟨ob4,y4,l4⟩h14=>?_;intro obx lx ks he hc;simp only[eE,Option.some.injEq,Prod.mk.injEq]at he;obtain⟨rfl,rfl,rfl⟩:=he;obtain⟨ca,cb⟩:=aJ.1 hc;rcases base ca with⟨h,-⟩|⟨-,h⟩
  ·exact absurd h Im
  have yV:x.den.sl.av=.bg r g1 g2 p:=by show x.sl.v.den=_;rw[hv];rfl
  rw[yV]at h;simp only[R4,if_false]at h;refine⟨_,h,?_,by simp[aN,Mv.keys,cat]⟩;simp only[Mv.runs];rw[Bp h14 cb];simp only[Mv.run,gm]
 rename_i hv;split
 ·rename_i s hs;refine aY fun So=>iR fun c=>?_;rw[not_iff]at So;have hsM:s∉My:=by intro hm;rw[mem_iff.2 hm]at So;simp at So
  rcases base c with⟨h,-⟩|⟨-,h⟩
  ·exact absurd h Im
  have yV:∀r g1 g2 p,x.den.sl.av≠.bg r g1 g2 p:=by intro r g1 g2 p hh;have:x.sl.v.den=.bg r g1 g2 p:=hh;cases hvv:x.sl.v<;>rw[hvv]at this<;>simp[SV.den]at this;obtain⟨rfl,rfl,rfl,rfl⟩:=this;exact hv _ _ _ _ hvv
  have ON:x.den.s=some s:=hs;rw[h];split
  ·rename_i hh;exact absurd hh (yV _ _ _ _)
  rw[ON];simp[hsM]
 exact a7
end
section
variable{P:Program}{tt:TT}(hA:bK P tt)(l:aP)(d:Nat)
def mS(x:Option SR)(DS:Nat):Option (List Pd×Nat):=match x with
 |none=>some ([],DS)
 |some x=>(cz x).bind fun(ob,v)=>match v with
  |.n _ n=>some ((0<=n)::ob,n.toNat)
  |_=>none
theorem db{x:Option SR}{DS n:Nat}{ob:List Pd}(h:mS x DS=some (ob,n))(hc:ae ob):kG (x.map SR.den) DS=some n:=by
 cases x with
 |none=>simp only[mS,Option.some.injEq,Prod.mk.injEq]at h;simp[kG,h.2]
 |some x=>
  simp only[mS,Option.bind_eq_some_iff,Prod.exists]at h;obtain⟨mw,v,h1,h2⟩:=h;cases v<;>simp only[Option.some.injEq,Prod.mk.injEq]at h2<;>try(simp at h2;done)
  rename_i k a;obtain⟨rfl,rfl⟩:=h2;have:x.den.cont=some (.v (.int k a)):=aw h1 hc.2;simp[kG,this,hc.1]
def zW(lo hi:Nat):SV->Option SV
 |.ints k _ xs=>some (.ints k false ((xs.drop lo).take (hi-lo)))
 |.strs _ xs=>some (.strs false ((xs.drop lo).take (hi-lo)))
 |.bB _ xs=>some (.bB false ((xs.drop lo).take (hi-lo)))
 |.cJ false sz d e xs=>some (.cJ false sz d e ((xs.drop lo).take (hi-lo)))
 |.cJ true sz d e xs=>some (.cJ false sz d (fun x=>(e x).bf) ((xs.drop lo).take (hi-lo)))
 |.row false sz xs=>some (.row false sz (Nh (PF xs lo) (hi-lo)))
 |.row true sz xs=>some (.row false sz (lu (Nh (PF xs lo) (hi-lo))))
 |_=>none
theorem uo:∀xs:List SV,lu xs=xs.map SV.bf
 |[]=>rfl
 |x::xs=>by simp only[lu,List.map_cons,uo xs]
theorem GN{y z:SV}{lo hi:Nat}(h:zW lo hi y=some z):∃sz X,y.den=.list (fl (gT y)) sz X/\z.den=.list .shr sz (((if gT y then eU X else X).drop lo).take (hi-lo)):=by
 cases y with
 |ints k o xs=>simp only[zW,Option.some.injEq]at h;subst h;cases o<;>exact⟨_,_,rfl,by simp[SV.den,fl,gT,fJ,List.map_take,List.map_drop,AV.bf]⟩
 |strs o xs=>simp only[zW,Option.some.injEq]at h;subst h;cases o<;>exact⟨_,_,rfl,by simp[SV.den,fl,gT,fJ,List.map_take,List.map_drop,AV.bf]⟩
 |bB o xs=>simp only[zW,Option.some.injEq]at h;subst h;cases o<;>exact⟨_,_,rfl,by simp[SV.den,fl,gT,fJ,List.map_take,List.map_drop,AV.bf]⟩
 |cJ o sz dd e xs=>
  cases o
  ·simp only[zW,Option.some.injEq]at h;subst h;exact⟨_,_,rfl,by simp[SV.den,fl,gT,List.map_take,List.map_drop]⟩
  simp only[zW,Option.some.injEq]at h;subst h;exact⟨_,_,rfl,by simp[SV.den,fl,gT,fJ,List.map_take,List.map_drop,ew]⟩
 |row o sz xs=>
  cases o
  ·simp only[zW,Option.some.injEq]at h;subst h;exact⟨_,_,rfl,by simp[SV.den,fl,gT,bx,rD,se,List.map_take,List.map_drop]⟩
  simp only[zW,Option.some.injEq]at h;subst h;exact⟨_,_,rfl,by rw[SV.den,fl,gT,if_pos rfl,gA,uo,bx,bx,rD,se];simp only[List.map_take,List.map_drop,uo]⟩
 |_=>simp[zW]at h
def Gt(l:aP)(d:Nat)(ti:ua)(x:SR)(y:SV)(ob:List Pd)(lo hi mx:Nat):mb:=
 match jA.yR y with
 |true=>cj ((lo<=hi)::(hi<=mx)::(mx<=0)::ob) l d .nil
 |false=>(ns y).bind fun(sz,n)=>(fg (Nat.beq sz ti.size)).bind fun _=>(zW lo hi y).bind fun z=>match gT y with
  |false=>cj ((lo<=hi)::(hi<=mx)::(mx<=n)::ob) l d z
  |true=>(rN x).bind fun(r,_,_,p)=>(fg (ne' r d)).bind fun _=>(po l r p).bind fun(c9,l')=>E0 l' d z fun l2=>some ((lo<=hi)::(hi<=mx)::(mx<=n)::app ob c9,l2,[r,d])
def DJ(tt:TT)(l:aP)(d:Nat)(t:TypeId)(x:SR)(lo hi mx:Option SR):mb:=
 (Bo tt t).bind fun u=>(cz x).bind fun(ob,v)=>match u with
   |.str=>match v with
    |.s s=>match mx with
     |none=>(mS lo 0).bind fun(mw,a)=>(mS hi s.length).bind fun(nk,b)=>cj ((a<=b)::(b<=s.length)::app ob (app mw nk)) l d (.s ((s.take b).drop a))
     |some _=>none
    |_=>none
   |.slice e=>(CB tt e).bind fun ti=>(ns v).bind fun(_,n)=>(mS lo 0).bind fun(mw,a)=>(mS hi n).bind fun(nk,b)=>(mS mx b).bind fun(Ru,m)=>Gt l d ti x v (app ob (app mw (app nk Ru))) a b m
   |_=>none
theorem A4(hA:bK P tt)(l:aP)(d:Nat)(t:TypeId)(x:SR)(lo hi mx:Option SR):cn l (nT P d t x.den (lo.map SR.den) (hi.map SR.den) (mx.map SR.den)) (DJ tt l d t x lo hi mx):=by
 unfold DJ;refine ag _ fun u h1=>ag _ fun⟨ob,v⟩h2=>?_;have hu:=jS hA h1;cases u<;>try exact a7
 ·cases v<;>try exact a7
  rename_i s;cases mx with
  |some _=>exact a7
  |none=>refine ag _ fun⟨mw,a⟩h3=>ag _ fun⟨nk,b⟩h4=>bJ fun c=>?_;obtain⟨k1,k2,c⟩:=c;obtain⟨c1,c⟩:=aJ.1 c;obtain⟨c2,c3⟩:=aJ.1 c;have hc:x.den.cont=some (.v (.string (bs s))):=aw h2 c1;have hu:P.underlying t=some .string:=hu;have hb:=db h4 c3;rw[<-tR]at hb;unfold nT;simp only[hu,hc,Option.map_none,db h3 c2,hb];rw[if_pos ⟨k1,by rw[tR];exact k2⟩,SV.den,I6]
 rename_i e;refine ag _ fun ti h3=>ag _ fun⟨sz,n⟩h4=>ag _ fun⟨mw,a⟩h5=>ag _ fun⟨nk,b⟩h6=>ag _ fun⟨Ru,m⟩h7=>?_;have hu:P.underlying t=some (.slice e):=hu;have ga:=jn hA h3;obtain⟨f,X,e1,e2⟩:=jy h4;unfold Gt;cases uX:jA.yR v
 rotate_left
 ·have:=yQ.1 uX;subst this;refine bJ fun c=>?_;obtain⟨k1,k2,k3,c⟩:=c;obtain⟨c0,c⟩:=aJ.1 c;obtain⟨c1,c⟩:=aJ.1 c;obtain⟨c2,c3⟩:=aJ.1 c;simp only[ns,Option.some.injEq,Prod.mk.injEq]at h4;obtain⟨rfl,rfl⟩:=h4;have hc:x.den.cont=some (.list .nil 0 []):=aw h2 c0;unfold nT;simp only[hu,ga,hc,List.length_nil,db h5 c1,db h6 c2,db h7 c3];rw[if_pos ⟨k1,k2,k3⟩];rfl
 refine ag _ fun⟨fe,n'⟩h8=>?_;rw[h4]at h8;simp only[Option.some.injEq,Prod.mk.injEq]at h8;obtain⟨rfl,rfl⟩:=h8;refine aY fun h9=>ag _ fun z Sp=>?_;have ct:sz=ti.den.size:=beq_iff.1 h9;obtain⟨W4,X2,q1,q2⟩:=GN Sp;rw[e1]at q1;simp only[AV.list.injEq]at q1;obtain⟨rfl,rfl,rfl⟩:=q1;have base:ae (app ob (app mw (app nk Ru)))->a<=b->b<=m->m<=n->nT P d t x.den (lo.map SR.den) (hi.map SR.den) (mx.map SR.den)=match gT v with
  |false=>some [.put d (.list .shr sz ((X.drop a).take (b-a)))]
  |true=>match x.den.place with
   |some (r,_,_,p)=>if r=d then none else some [.share r p,.put d (.list .shr sz (((eU X).drop a).take (b-a)))]
   |none=>none:=by
  intro c k1 k2 k3;obtain⟨c0,c⟩:=aJ.1 c;obtain⟨c1,c⟩:=aJ.1 c;obtain⟨c2,c3⟩:=aJ.1 c;have hc:=aw h2 c0;rw[e1]at hc;have hb:=db h6 c2;rw[<-e2]at hb;unfold nT;simp only[hu,ga,hc,db h5 c1,hb,db h7 c3];rw[if_pos ⟨k1,k2,by rw[e2];exact k3⟩];cases ho:gT v
  ·simp only[fl];rw[if_pos ct]
  simp only[fl];rw[if_pos ct];rfl
 cases ho:gT v with
 |false=>refine bJ fun c=>?_;obtain⟨k1,k2,k3,c⟩:=c;rw[base c k1 k2 k3,ho,q2,ho];simp
 |true=>refine ag _ fun⟨r,g1,g2,p⟩ZA=>aY fun h12=>ag _ fun⟨c9,l'⟩So=>?_;intro obx lx ks he rT;simp only[kD,Option.some.injEq,Prod.mk.injEq]at he;obtain⟨rfl,rfl,rfl⟩:=he;obtain⟨k1,k2,k3,c⟩:=rT;obtain⟨c,cs⟩:=aJ.1 c;have hb:=base c k1 k2 k3;rw[ho]at hb q2;simp only[lM,ZA,ne_iff.1 h12,if_false]at hb;simp only[if_true]at q2;refine⟨_,hb,?_,rfl⟩;simp only[Mv.runs];rw[jq So cs];simp only[Mv.run];rw[<-q2,ja]
def DQ(tt:TT)(l:aP)(d:Nat)(t:TypeId):mb:=(CB tt t).bind fun ti=>match ti with|⟨_,_,_,z⟩=>lO [] l [] d (.box true z)
theorem A8(hA:bK P tt)(l:aP)(d:Nat)(t:TypeId):cn l (match bE P t with|some ti=>some [.make [] d (.box true ti.zero)]|none=>none) (DQ tt l d t):=by unfold DQ;refine ag _ fun ti h=>?_;obtain⟨a,b,c,z⟩:=ti;refine iR fun _=>?_;rw[jn hA h];rfl
def PA(tt:TT)(l:aP)(d:Nat)(t:TypeId)(x:SR):mb:=(CB tt t).bind fun ti=>(tl x).bind fun(ob,y,M)=>(fg (kb ti y)).bind fun _=>lO ob l M d (.box true y)
theorem Gv(hA:bK P tt)(l:aP)(d:Nat)(t:TypeId)(x:SR):cn l (match bE P t with|some ti=>Su d (c6 x.den) fun y=>if fits ti y then some (.box true y)else none|none=>none) (PA tt l d t x):=by unfold PA;refine ag _ fun ti h1=>ag _ fun⟨ob,y,M⟩h2=>aY fun h3=>iR fun c=>?_;rw[jn hA h1];simp only[mN h2 c,Su,gF _ _ h3,if_true,SV.den]
def sL(k:IntKind):List SV->Option (List Int)
 |[]=>some []
 |.n k' a::r=>(fg (pH k k')).bind fun _=>(sL k r).bind fun aas=>some (a::aas)
 |_::_=>none
theorem wc{k:IntKind}:∀{xs:List SV}{aas:List Int},sL k xs=some aas->an xs=aas.map fun a=>.v (.int k a)
 |[],aas,h=>by simp only[sL,Option.some.injEq]at h;subst h;rfl
 |x::r,aas,h=>by
  cases x<;>simp only[sL,Option.bind_eq_some_iff,bd,Option.some.injEq]at h<;>try(simp at h;done)
  obtain⟨_,hk,ZX,h1,rfl⟩:=h;have:=kV hk;subst this;simp[an,SV.den,wc h1]
def sK:List SV->Option (List bw)
 |[]=>some []
 |.s a::r=>(sK r).bind fun aas=>some (a::aas)
 |_::_=>none
theorem wb:∀{xs:List SV}{aas:List bw},sK xs=some aas->an xs=aas.map fun a=>.v (.string (bs a))
 |[],aas,h=>by simp only[sK,Option.some.injEq]at h;subst h;rfl
 |x::r,aas,h=>by
  cases x<;>simp only[sK,Option.bind_eq_some_iff,Option.some.injEq]at h<;>try(simp at h;done)
  obtain⟨ZX,h1,rfl⟩:=h;simp[an,SV.den,wb h1]
def lD:List SV->Option (List Bool)
 |[]=>some []
 |.b a::r=>(lD r).bind fun aas=>some (a::aas)
 |.u a::r=>(lD r).bind fun aas=>some (a::aas)
 |_::_=>none
theorem nY:∀{xs:List SV}{aas:List Bool},lD xs=some aas->an xs=aas.map fun a=>.v (.bool a)
 |[],aas,h=>by simp only[lD,Option.some.injEq]at h;subst h;rfl
 |x::r,aas,h=>by
  cases x<;>simp only[lD,Option.bind_eq_some_iff,Option.some.injEq]at h<;>try(simp at h;done)
  all_goals
   obtain⟨ZX,h1,rfl⟩:=h;simp[an,SV.den,nY h1]
def Oe(sz:Nat)(xs:List SV):Option SV:=match xs with
 |.n k a::r=>(fg (Nat.beq sz 1)).bind fun _=>(sL k (.n k a::r)).bind fun aas=>some (.ints k true aas)
 |.s a::r=>(fg (Nat.beq sz 1)).bind fun _=>(sK (.s a::r)).bind fun aas=>some (.strs true aas)
 |.b a::r=>(fg (Nat.beq sz 1)).bind fun _=>(lD (.b a::r)).bind fun aas=>some (.bB true aas)
 |.u a::r=>(fg (Nat.beq sz 1)).bind fun _=>(lD (.u a::r)).bind fun aas=>some (.bB true aas)
 |xs=>some (.row true sz xs)
theorem LD{sz:Nat}{xs:List SV}{y:SV}(h:Oe sz xs=some y):y.den=.list .own sz (an xs):=by
 unfold Oe at h;split at h
 ·simp only[Option.bind_eq_some_iff,bd,beq_iff,Option.some.injEq]at h;obtain⟨_,rfl,aas,h1,rfl⟩:=h;rw[wc h1];rfl
 ·simp only[Option.bind_eq_some_iff,bd,beq_iff,Option.some.injEq]at h;obtain⟨_,rfl,aas,h1,rfl⟩:=h;rw[wb h1];rfl
 ·simp only[Option.bind_eq_some_iff,bd,beq_iff,Option.some.injEq]at h;obtain⟨_,rfl,aas,h1,rfl⟩:=h;rw[nY h1];rfl
 ·simp only[Option.bind_eq_some_iff,bd,beq_iff,Option.some.injEq]at h;obtain⟨_,rfl,aas,h1,rfl⟩:=h;rw[nY h1];rfl
 simp only[Option.some.injEq]at h;subst h;rfl
def idxs:List (Nat×Operand)->Nat->Bool
 |[],_=>true
 |(i,_)::r,k=>match Nat.beq i k with
  |true=>idxs r (k+1)
  |false=>false
theorem JQ:∀{ps:List (Nat×Operand)}{k:Nat},idxs ps k=true->ps.map (·.1)=List.range' k ps.length
 |[],_,_=>rfl
 |(i,x)::r,k,h=>by
  simp only[idxs]at h;split at h
  ·rename_i hb;have:=Nat.eq_of_beq_eq_true hb;subst this;simp[List.range'_succ,JQ h]
  simp at h
def nZ(l:aP):List (Nat×Operand)->Option (List SR)
 |[]=>some []
 |(_,x)::r=>(da l x).bind fun y=>(nZ l r).bind fun ys=>some (y::ys)
theorem rK:∀{ps:List (Nat×Operand)}{xs:List SR},nZ l ps=some xs->ps.map (fun p=>resolve (dn l) p.2)=xs.map SR.den
 |[],xs,h=>by simp only[nZ,Option.some.injEq]at h;subst h;rfl
 |(i,x)::r,xs,h=>by simp only[nZ,Option.bind_eq_some_iff,Option.some.injEq]at h;obtain⟨y,h1,ys,h2,rfl⟩:=h;simp[cD h1,rK h2]
def ir(l:aP):List Operand->Option (List SR)
 |[]=>some []
 |x::r=>(da l x).bind fun y=>(ir l r).bind fun ys=>some (y::ys)
theorem dF:∀{ps:List Operand}{xs:List SR},ir l ps=some xs->ps.map (resolve (dn l))=xs.map SR.den
 |[],xs,h=>by simp only[ir,Option.some.injEq]at h;subst h;rfl
 |x::r,xs,h=>by simp only[ir,Option.bind_eq_some_iff,Option.some.injEq]at h;obtain⟨y,h1,ys,h2,rfl⟩:=h;simp[cD h1,dF h2]
def oB(tt:TT)(l:aP)(d:Nat)(t:TypeId)(n:Nat)(ps:List (Nat×Operand)):mb:=
 (slice? tt t).bind fun e=>(CB tt e).bind fun ti=>(nZ l ps).bind fun xs=>(jf xs).bind fun(ob,ys,M)=>(fg (b8 (b8 (idxs ps 0) (Nat.beq n (len ps))) (b8 (ys.all (kb ti)) (Nat.ble (n*ti.size) 16777216)))).bind fun _=>(fg (Nat.ble n 16777216)).bind fun _=>(Oe ti.size ys).bind fun y=>lO ob l M d y
theorem sd(hA:bK P tt)(l:aP)(d:Nat)(t:TypeId)(n:Nat)(ps:Array (Nat×Operand)):cn l (match cG P t with
 |some e=>match bE P e with
  |some ti=>match dX (ps.toList.map fun p=>resolve (dn l) p.2)with
   |some (ys,M)=>if(ps.toList.map (·.1)=List.range n)/\(ys.all (fits ti))/\n*ti.size<=2^24/\n<=maxLen then some [.make M d (.list .own ti.size ys)]else none
   |none=>none
  |none=>none
 |none=>none) (oB tt l d t n ps.toList):=by
 unfold oB;refine ag _ fun e h1=>ag _ fun ti h2=>ag _ fun xs h3=>ag _ fun⟨ob,ys,M⟩h4=>aY fun h5=>aY fun h6=>ag _ fun y h7=>iR fun c=>?_;simp only[aH,beq_iff,dA]at h5;obtain⟨⟨a1,a2⟩,a3,a4⟩:=h5;have hi:=JQ a1;simp only[kC hA h1,jn hA h2,rK l h3,lX h4 c];have iC:(an ys).all (fits ti.den)=true:=by rw[List.all_eq_true]at a3⊢;intro x hx;rw[bx]at hx;obtain⟨y,hy,rfl⟩:=List.mem_map.1 hx;exact gF ti y (a3 y hy)
 have hn:n<=maxLen:=by have:=Nat.le_of_ble_eq_true h6;unfold maxLen;omega
 rw[if_pos ⟨by rw[hi,a2,List.range_eq_range'],iC,Nat.le_of_ble_eq_true a4,hn⟩,LD h7];rfl
def CG(cs:List SV)(o n:Nat)(y:SV):Option (List SV):=
 (fg (Nat.ble (o+n) (len cs))).bind fun _=>match y with
   |.agg ys=>(fg (Nat.beq (len ys) n)).bind fun _=>some (cat (Nh cs o) (cat ys (PF cs (o+n))))
   |y=>(fg (b8 (Nat.beq n 1) y.cell)).bind fun _=>some (put cs o y)
theorem EE{cs zs:List SV}{o n:Nat}{y:SV}(h:CG cs o n y=some zs):xX (an cs) o n y.den=some (an zs):=by
 simp only[CG,Option.bind_eq_some_iff,bd]at h;obtain⟨_,h1,h⟩:=h;have h1:=Nat.le_of_ble_eq_true h1;rw[dA]at h1;unfold xX;rw[if_pos (by rw[bt];exact h1)];cases y with
 |agg ys=>simp only[Option.bind_eq_some_iff,bd,beq_iff,dA,Option.some.injEq]at h;obtain⟨_,h2,rfl⟩:=h;simp only[SV.den,bt,h2,if_true,ee,rD,se,bx,List.map_append,List.map_take,List.map_drop,List.append_assoc,List.length_map]
 |_=>
  simp only[Option.bind_eq_some_iff,bd,aH,beq_iff,Option.some.injEq]at h;obtain⟨_,⟨h2,h3⟩,rfl⟩:=h
  first
   |(simp only[SV.den,h2,AV.cell,put_eq,tD];rfl)
   |(simp[SV.cell]at h3)
def zu(pl:List (Nat×Nat)):List SV->List (Nat×Operand)->List SV->Option (List SV)
 |cs,[],_=>some cs
 |cs,(i,_)::r,y::ys=>(nth pl i).bind fun(o,n)=>(CG cs o n y).bind fun cs=>zu pl cs r ys
 |_,_,_=>none
theorem zr{pl:List (Nat×Nat)}:∀{ps:List (Nat×Operand)}{cs ys zs:List SV},ys.length=ps.length->zu pl cs ps ys=some zs->pO pl (an cs) ((ps.map (·.1)).zip (an ys))=some (an zs)
 |[],cs,ys,zs,hl,h=>by simp only[zu,Option.some.injEq]at h;subst h;rfl
 |(i,x)::r,cs,[],zs,hl,h=>by simp at hl
 |(i,x)::r,cs,y::ys,zs,hl,h=>by simp only[zu,Option.bind_eq_some_iff,Prod.exists]at h;obtain⟨o,n,h1,cs',h2,h3⟩:=h;rw[ko]at h1;simp only[List.map_cons,an,List.zip_cons_cons,pO,h1,EE h2];exact zr (by simpa using hl) h3
def DP(tt:TT)(l:aP)(d:Nat)(t:TypeId)(ps:List (Nat×Operand)):mb:=
 (CB tt t).bind fun ti=>match ti with
   |⟨_,_,_,z⟩=>match z with
    |.agg z=>(CY tt t).bind fun pl=>(nZ l ps).bind fun xs=>(jf xs).bind fun(ob,ys,M)=>(zu pl z ps ys).bind fun cs=>lO ob l M d (.agg cs)
    |_=>none
theorem oN:∀{xs:List SR}{ob:List Pd}{ys:List SV}{M:List Nat},jf xs=some (ob,ys,M)->ys.length=xs.length
 |[],ob,ys,M,h=>by simp only[jf,Option.some.injEq,Prod.mk.injEq]at h;simp[<-h.2.1]
 |x::xs,ob,ys,M,h=>by simp only[jf,Option.bind_eq_some_iff,Prod.exists,bd,Option.some.injEq,Prod.mk.injEq]at h;obtain⟨mw,y,M1,h1,nk,KL,N,h2,_,h3,rfl,rfl,rfl⟩:=h;simp[oN h2]
theorem qX:∀{ps:List (Nat×Operand)}{xs:List SR},nZ l ps=some xs->xs.length=ps.length
 |[],xs,h=>by simp only[nZ,Option.some.injEq]at h;subst h;rfl
 |(i,x)::r,xs,h=>by simp only[nZ,Option.bind_eq_some_iff,Option.some.injEq]at h;obtain⟨y,h1,ys,h2,rfl⟩:=h;simp[qX h2]
theorem A7(hA:bK P tt)(l:aP)(d:Nat)(t:TypeId)(ps:Array (Nat×Operand)):cn l (match bE P t with
 |some ti=>match ti.zero with
  |.agg z=>match placesOf P t with
   |some pl=>match dX (ps.toList.map fun p=>resolve (dn l) p.2)with
    |some (ys,M)=>match pO pl z ((ps.toList.map (·.1)).zip ys)with
     |some cs=>some [.make M d (.agg cs)]
     |none=>none
    |none=>none
   |none=>none
  |_=>none
 |none=>none) (DP tt l d t ps.toList):=by
 unfold DP;refine ag _ fun ti h1=>?_;obtain⟨a,b,c,z⟩:=ti;cases z<;>try exact a7
 rename_i z;refine ag _ fun pl h2=>ag _ fun xs h3=>ag _ fun⟨ob,ys,M⟩h4=>ag _ fun cs h5=>iR fun c=>?_;have hz:(ua.den ⟨a,b,‹_›,.agg z⟩).zero=.agg (an z):=rfl;simp only[jn hA h1,hz,Lk hA h2,rK l h3,lX h4 c,zr (by rw[oN h4,qX l h3]) h5,SV.den]
def Hs(sz:Nat)(z:SV)(n:Nat):Option SV:=match z with
 |.n k a=>(fg (Nat.beq sz 1)).bind fun _=>some (.ints k true (List.replicate n a))
 |.s a=>(fg (Nat.beq sz 1)).bind fun _=>some (.strs true (List.replicate n a))
 |.b a=>(fg (Nat.beq sz 1)).bind fun _=>some (.bB true (List.replicate n a))
 |z=>some (.row true sz (List.replicate n z))
theorem Hr{sz n:Nat}{z y:SV}(h:Hs sz z n=some y):y.den=.list .own sz (List.replicate n z.den):=by
 unfold Hs at h;split at h
 ·simp only[Option.bind_eq_some_iff,bd,beq_iff,Option.some.injEq]at h;obtain⟨_,rfl,rfl⟩:=h;simp[SV.den,fl]
 ·simp only[Option.bind_eq_some_iff,bd,beq_iff,Option.some.injEq]at h;obtain⟨_,rfl,rfl⟩:=h;simp[SV.den,fl]
 ·simp only[Option.bind_eq_some_iff,bd,beq_iff,Option.some.injEq]at h;obtain⟨_,rfl,rfl⟩:=h;simp[SV.den,fl]
 simp only[Option.some.injEq]at h;subst h;simp[SV.den,fl,bx]
def pQ(tt:TT)(l:aP)(d:Nat)(t:TypeId)(x y:SR):mb:=
 (slice? tt t).bind fun e=>(CB tt e).bind fun ti=>match ti with
   |⟨_,sz,bytes,z⟩=>(cz x).bind fun(ob,a)=>(cz y).bind fun(c9,b)=>match a,b with
    |.n _ a,.n _ b=>(fg (ne' sz 0)).bind fun _=>(Hs sz z a.toNat).bind fun r=>lO ((0<=a)::(a<=b)::(b*bytes<=140737488355328)::(b<=9223372036854775807)::app ob c9) l [] d r
    |_,_=>none
theorem tq(hA:bK P tt)(l:aP)(d:Nat)(t:TypeId)(x y:SR):cn l (m1 (match cG P t with
 |some e=>match bE P e with
  |some ti=>match x.den.cont,y.den.cont with
   |some (.v (.int _ a)),some (.v (.int _ b))=>if 0<=a/\a<=b/\b*ti.bytes<=140737488355328/\b<=maxLen/\0<ti.size then
     some ([.make [] d (.list .own ti.size (List.replicate a.toNat ti.zero))],[])else none
   |_,_=>none
  |none=>none
 |none=>none)) (pQ tt l d t x y):=by
 unfold pQ;refine ag _ fun e h1=>ag _ fun ti h2=>?_;obtain⟨g,sz,bytes,z⟩:=ti;refine ag _ fun⟨ob,a⟩h3=>ag _ fun⟨c9,b⟩h4=>?_;cases a<;>try exact a7
 cases b<;>try exact a7
 rename_i k a k' b;refine aY fun h5=>ag _ fun r h6=>iR fun c=>?_;obtain⟨a1,a2,a3,a4,c⟩:=c;obtain⟨c1,c2⟩:=aJ.1 c;have e1:x.den.cont=some (.v (.int k a)):=aw h3 c1;have e2:y.den.cont=some (.v (.int k' b)):=aw h4 c2;have Ip:((maxLen:Nat):Int)=9223372036854775807:=by decide
 simp only[kC hA h1,jn hA h2,e1,e2];rw[if_pos ⟨a1,a2,a3,by rw[Ip];exact a4,Nat.pos_of_ne_zero (ne_iff.1 h5)⟩,Hr h6];rfl
def OA:SV->Bool
 |.ptr .. =>true
 |_=>false
def rY(l:aP)(d:Nat)(x:SR):mb:=match OA x.sl.v with
 |true=>(Au x).bind fun(ob,_)=>D8 ob (pP l d x)
 |false=>(cz x).bind fun(ob,v)=>match v with
  |.box _ _=>D8 ob (pP l d x)
  |.fn (.func _) _ _=>D8 ob (pP l d x)
  |_=>none
theorem vf(x:SR):cn l (m1 (match x.den.cont with
 |some (.box _ _)=>dZ (cm d x.den)
 |some (.fn (.func _) _ _)=>dZ (cm d x.den)
 |_=>match x.den.sl.av with
  |.ptr .. =>match x.den.addr with
   |some _=>dZ (cm d x.den)
   |none=>none
  |_=>none)) (rY l d x):=by
 unfold rY;cases hp:OA x.sl.v
 ·refine ag _ fun⟨ob,v⟩h1=>?_;cases v<;>try exact a7
  ·refine kY _ fun c=>?_;rename_i o y;have:x.den.cont=some (.box o y.den):=aw h1 c;simp only[this,yE];exact gM l d x
  rename_i f a b;cases f<;>try exact a7
  refine kY _ fun c=>?_;have:x.den.cont=some (.fn (.func _) (an a) (an b)):=aw h1 c;simp only[this,yE];exact gM l d x
 refine ag _ fun⟨ob,ad⟩h1=>kY _ fun c=>?_;obtain⟨r,g1,g2,p,hv⟩:∃r g1 g2 p,x.sl.v=.ptr r g1 g2 p:=by cases hv:x.sl.v<;>rw[hv]at hp<;>simp[OA]at hp;exact⟨_,_,_,_,rfl⟩
 have bQ:x.den.sl.av=.ptr r g1 g2 p:=by show x.sl.v.den=_;rw[hv];rfl
 have hc:x.den.cont=none:=by unfold bo.cont;rw[bQ]
 simp only[hc,bQ,iT h1 c,yE];exact gM l d x
def rQ:List SR->Option (List Pd×List SV)
 |[]=>some ([],[])
 |x::xs=>(cz x).bind fun(ob,y)=>(rQ xs).bind fun(c9,ys)=>some (app ob c9,y.bf::ys)
theorem oe:∀{xs:List SR}{ob:List Pd}{ys:List SV},rQ xs=some (ob,ys)->ae ob->fk (xs.map SR.den)=some (an ys)
 |[],ob,ys,h,_=>by simp only[rQ,Option.some.injEq,Prod.mk.injEq]at h;obtain⟨-,rfl⟩:=h;rfl
 |x::xs,ob,ys,h,hc=>by simp only[rQ,Option.bind_eq_some_iff,Prod.exists,Option.some.injEq,Prod.mk.injEq]at h;obtain⟨mw,y,h1,nk,KL,h2,rfl,rfl⟩:=h;obtain⟨c1,c2⟩:=aJ.1 hc;simp only[List.map_cons,fk,RK,aw h1 c1,oe h2 c2,an,ew]
def qi:List SR->Option (List Pd×List (Nat×Path))
 |[]=>some ([],[])
 |x::xs=>(cz x).bind fun(ob,y)=>(qi xs).bind fun(c9,ms)=>match y.az with
  |true=>some (app ob c9,ms)
  |false=>(rN x).bind fun(r,_,_,p)=>some (app ob c9,(r,p)::ms)
theorem mo:∀{xs:List SR}{ob:List Pd}{ms:List (Nat×Path)},qi xs=some (ob,ms)->ae ob->shares (xs.map SR.den)=ms.map fun m=>.share m.1 m.2
 |[],ob,ms,h,_=>by simp only[qi,Option.some.injEq,Prod.mk.injEq]at h;obtain⟨-,rfl⟩:=h;rfl
 |x::xs,ob,ms,h,hc=>by
  simp only[qi,Option.bind_eq_some_iff,Prod.exists]at h;obtain⟨mw,y,h1,nk,X9,h2,h3⟩:=h;cases hn:y.az with
  |true=>rw[hn]at h3;simp only[Option.some.injEq,Prod.mk.injEq]at h3;obtain⟨rfl,rfl⟩:=h3;obtain⟨c1,c2⟩:=aJ.1 hc;simp only[List.map_cons,shares,aw h1 c1,bX,hn,if_true];exact mo h2 c2
  |false=>rw[hn]at h3;simp only[Option.bind_eq_some_iff,Prod.exists,Option.some.injEq,Prod.mk.injEq]at h3;obtain⟨r,g1,g2,p,h4,rfl,rfl⟩:=h3;obtain⟨c1,c2⟩:=aJ.1 hc;simp only[List.map_cons,shares,aw h1 c1,bX,hn,Bool.false_eq_true,if_false,lM,h4,mo h2 c2]
def rZ(l:aP)(d:Nat)(f:Fn)(a b:List Operand):mb:=
 (ir l a).bind fun xs=>(ir l b).bind fun ys=>(rQ xs).bind fun(ob,aas)=>(rQ ys).bind fun(c9,cs)=>(qi (xs++ys)).bind fun(nk,ms)=>match ms with
   |[]=>cj (app ob (app c9 nk)) l d (.fn f aas cs)
   |_=>none
theorem vg(f:Fn)(a b:Array Operand):cn l (m1 (match fk (a.toList.map (resolve (dn l))),fk (b.toList.map (resolve (dn l)))with
 |some a',some c=>if(shares (a.toList.map (resolve (dn l))++b.toList.map (resolve (dn l)))).isEmpty then some ([.put d (.fn f a' c)],[])else none
 |_,_=>none)) (rZ l d f a.toList b.toList):=by
 unfold rZ;refine ag _ fun xs h1=>ag _ fun ys h2=>ag _ fun⟨ob,aas⟩h3=>ag _ fun⟨c9,cs⟩h4=>ag _ fun⟨nk,ms⟩h5=>?_;cases ms<;>try exact a7
 refine bJ fun c=>?_;obtain⟨c1,c⟩:=aJ.1 c;obtain⟨c2,c3⟩:=aJ.1 c;have hs:=mo h5 c3;rw[List.map_append]at hs;simp only[dF l h1,dF l h2,oe h3 c1,oe h4 c2,hs];rfl
end
def ev(tt:TT)(raw:List Nat)(l:aP)(dst:Option Nat)(op:Op):mb:=
 match dst with
 |none=>match op with
  |.store t a x=>(da l a).bind fun a=>(da l x).bind fun x=>DI tt l t a x
  |_=>none
 |some d=>match op with
  |.move x=>(da l x).bind fun x=>pP l d x
  |.assign x=>(da l x).bind fun x=>zE l d x
  |.load t x=>(da l x).bind fun x=>IH tt l d t x
  |.fieldAddr t x f=>(da l x).bind fun x=>pT tt l d t x f
  |.field t x f=>(da l x).bind fun x=>DO tt l d t x f
  |.indexAddr t x i=>(da l x).bind fun x=>(da l i).bind fun i=>pS tt l d t x i
  |.index t x i=>(da l x).bind fun x=>(da l i).bind fun i=>DN tt l d t x i
  |.extract x i=>(da l x).bind fun x=>vm l d x i
  |.convert s t x=>(da l x).bind fun x=>PN tt (Db d raw) l d s t x
  |.slice t x a b c=>(da l x).bind fun x=>(C2 l a).bind fun a=>(C2 l b).bind fun b=>(C2 l c).bind fun c=>DJ tt l d t x a b c
  |.binOp op t x y _=>(da l x).bind fun x=>(da l y).bind fun y=>PB tt (Db d raw) l d op t x y
  |.unOp op _ x=>(da l x).bind fun x=>Wt (Db d raw) l d op x
  |.pick c x y=>(da l c).bind fun c=>(da l x).bind fun x=>(da l y).bind fun y=>IG l d c x y
  |.alloc t=>DQ tt l d t
  |.box t x=>(da l x).bind fun x=>PA tt l d t x
  |.build t ps=>DP tt l d t ps.toList
  |.buildSlice t n ps=>oB tt l d t n ps.toList
  |.makeSlice t x y=>(da l x).bind fun x=>(da l y).bind fun y=>pQ tt l d t x y
  |.nilCheck x=>(da l x).bind fun x=>rY l d x
  |.makeFunc f a b=>rZ l d f a.toList b.toList
  |.call ⟨.builtin b,aas,ts⟩=>match b,ts.toList,aas.toList with
   |.len,t::_,[x]=>(da l x).bind fun x=>Py tt l d t x
   |.append,[t,t'],[x,y]=>(slice? tt t').bind fun _=>(da l x).bind fun x=>(da l y).bind fun y=>jA tt l d t x y SY
   |.min,_,[x,y]=>(da l x).bind fun x=>(da l y).bind fun y=>Kf true l d x y
   |.max,_,[x,y]=>(da l x).bind fun x=>(da l y).bind fun y=>Kf false l d x y
   |_,_,_=>none
  |_=>none
 where C2 (l:aP):Option Operand->Option (Option SR)
  |none=>some none
  |some x=>(da l x).bind fun x=>some (some x)
theorem yn{l:aP}{x:Option Operand}{y:Option SR}(h:ev.C2 l x=some y):x.map (resolve (dn l))=y.map SR.den:=by
 cases x with
 |none=>simp only[ev.C2,Option.some.injEq]at h;subst h;rfl
 |some x=>simp only[ev.C2,Option.bind_eq_some_iff,Option.some.injEq]at h;obtain⟨z,h1,rfl⟩:=h;simp[cD h1]
section
variable{R:Option Nat->Prop}{P:Program}{tt:TT}(hA:bK P tt)
theorem bm{l:aP}{x:Operand}{m:Option (List Mv)}{f:SR->mb}(h:∀y:SR,resolve (dn l) x=y.den->cn l m (f y)):cn l m ((da l x).bind f):=ag _ fun y hy=>h y (cD hy)
theorem zN{l:aP}{x:Option Operand}{m:Option (List Mv)}{f:Option SR->mb}(h:∀y:Option SR,x.map (resolve (dn l))=y.map SR.den->cn l m (f y)):cn l m ((ev.C2 l x).bind f):=ag _ fun y hy=>h y (yn hy)
theorem Uf(hA:bK P tt){raw:List Nat}{l l':aP}{dst:Option Nat}{op:Op}{ty:TypeId}{pos:String}{cF:Array Edge}{ops:Array Oper}{K:List Mv->St->Prop}{ob:List Pd}{ks:List Nat}
 (h:ev tt raw l dst op=some (ob,l',ks))(hc:ae ob)(hk:∀ms,aN ms=ks->K ms (dn l')):oU P ops ⟨dst,op,ty,pos,cF,none⟩ (dn l) K:=by
 have fin:∀{m:Option (List Mv)}{e:mb},cn l m e->e=some (ob,l',ks)->qL m (dn l) K:=by intro m e hd he;obtain⟨ms,rfl,h2,h3⟩:=hd _ _ _ he hc;exact⟨ms,rfl,dn l',h2,hk ms h3⟩
 cases dst with
 |none=>
  cases op<;>simp only[ev]at h<;>try(simp at h;done)
  rw[Rv];exact fin (bm fun a ha=>bm fun x hx=>by rw[ha,hx];exact A3 hA l _ a x) h
 |some d=>
  cases op<;>simp only[ev]at h<;>try(simp at h;done)
  case move=>rw[U4];exact fin (bm fun a ha=>by rw[ha];exact gM l d a) h
  case assign=>rw[N4];exact fin (bm fun a ha=>by rw[ha];exact zD l d a) h
  case load=>rw[U5];exact fin (bm fun a ha=>by rw[ha];exact DM hA l d _ a) h
  case fieldAddr=>rw[Fk];exact fin (bm fun a ha=>by rw[ha];exact tw hA l d _ a _) h
  case field=>rw[Ry];exact fin (bm fun a ha=>by rw[ha];exact A6 hA l d _ a _) h
  case indexAddr=>rw[Fj];exact fin (bm fun a ha=>bm fun b hb=>by rw[ha,hb];exact tr hA l d _ a b) h
  case index=>rw[Rx];exact fin (bm fun a ha=>bm fun b hb=>by rw[ha,hb];exact A5 hA l d _ a b) h
  case extract=>rw[Lv];exact fin (bm fun a ha=>by rw[ha];exact xf l d a _) h
  case convert=>rw[Lw];exact fin (bm fun a ha=>by rw[ha];exact GP hA l d _ _ _ a) h
  case slice=>rw[Rw];exact fin (bm fun a ha=>zN fun b hb=>zN fun c hc=>zN fun e he=>by rw[ha,hb,hc,he];exact A4 hA l d _ a b c e) h
  case binOp=>rw[X6];exact fin (bm fun a ha=>bm fun b hb=>by rw[ha,hb];exact Gw hA _ l d _ _ a b) h
  case unOp=>rw[abk];exact fin (bm fun a ha=>by rw[ha];exact IF _ l d _ a) h
  case pick=>rw[U3];exact fin (bm fun a ha=>bm fun b hb=>bm fun c hc=>by rw[ha,hb,hc];exact DK l d a b c) h
  case alloc=>rw[RA];exact fin (A8 hA l d _) h
  case box=>rw[X5];exact fin (bm fun a ha=>by rw[ha];exact Gv hA l d _ a) h
  case build=>rw[Rz];exact fin (A7 hA l d _ _) h
  case buildSlice=>rw[C7];exact fin (sd hA l d _ _ _) h
  case makeSlice=>rw[Fh];exact fin (bm fun a ha=>bm fun b hb=>by rw[ha,hb];exact tq hA l d _ a b) h
  case nilCheck=>rw[HU];exact fin (bm fun a ha=>by rw[ha];exact vf l d a) h
  case makeFunc=>rw[HV];exact fin (vg l d _ _ _) h
  case call c=>
   obtain⟨callee,aas,ts⟩:=c;cases callee<;>simp only at h<;>try(simp at h;done)
   rename_i b;rw[Lx];split at h<;>try(simp at h;done)
   ·rename_i t r x e1 e2;rw[e1,e2];exact fin (bm fun a ha=>by simp only[List.map_cons,List.map_nil,ha];exact Gu hA l d _ _ a) h
   ·rename_i t t' x y e1 e2;rw[e1,e2];refine fin (ag _ fun e2 he2=>bm fun a ha=>bm fun b dr=>?_) h;simp only[List.map_cons,List.map_nil,ha,dr,iF,kC hA he2];exact xg hA l d _ a b SY fun _ _ _ _ _ _ _ q1 q2 q3=>P2 q1 q2 q3
   ·rename_i x y e2;rw[e2];refine fin (bm fun a ha=>bm fun b dr=>?_) h;simp only[List.map_cons,List.map_nil,ha,dr];exact wK l d true _ a b
   rename_i x y e2;rw[e2];refine fin (bm fun a ha=>bm fun b dr=>?_) h;simp only[List.map_cons,List.map_nil,ha,dr];exact wK l d false _ a b
end
inductive It
 |code (c:Code)
 |iu (id:Nat)
 |UO
 |ops (all:Array Oper) (rest:List Oper)
 |o4 (all:Array Oper) (mm:List Nat) (rest:List Oper) (acc:List (List Nat×List Nat))
 |inv (I:St->Prop)
def eh(R:Option Nat->Prop)(P:Program)(N:Nat)(F:St->Prop):List It->Exit->St->Prop
 |[],e,σ=>match e with
  |.normal=>F σ
  |.ret=>F σ
  |_=>False
 |.code c::k,e,σ=>match e with
  |.normal=>AW R P N c (eh R P N F k) σ
  |e=>eh R P N F k e σ
 |.iu id::k,e,σ=>match e with
  |.exit OI=>if OI=id then eh R P N F k .normal σ else eh R P N F k (.exit OI) σ
  |e=>eh R P N F k e σ
 |.UO::k,e,σ=>match e with
  |.goto _=>False
  |e=>eh R P N F k e σ
 |.ops all rest::k,e,σ=>match e with
  |.normal=>rp P all rest σ (eh R P N F k .normal)
  |e=>eh R P N F k e σ
 |.o4 all mm rest acc::k,e,σ=>match e with
  |.normal=>rt P all rest σ acc fun Le σ'=>apart mm Le all.size=true/\eh R P N F k .normal σ'
  |e=>eh R P N F k e σ
 |.inv I::k,e,σ=>match e with
  |.normal=>I σ
  |e=>eh R P N F k e σ
def AK(R:Option Nat->Prop)(P:Program)(N:Nat)(F:St->Prop)(k:List It)(l:aP):Prop:=eh R P N F k .normal (dn l)
section
variable{R:Option Nat->Prop}{P:Program}{N:Nat}{F:St->Prop}{k:List It}{l:aP}{σ:St}
theorem jX:∀(k:List It),eh R P N F k .ret σ=F σ
 |[]=>rfl
 |.code c::k=>jX k
 |.iu id::k=>jX k
 |.UO::k=>jX k
 |.ops .. ::k=>jX k
 |.o4 .. ::k=>jX k
 |.inv _::k=>jX k
def zC(id:Nat):List It->Option (List It)
 |[]=>none
 |.iu OI::k=>match Nat.beq id OI with
  |true=>some k
  |false=>zC id k
 |_::k=>zC id k
theorem Li{id:Nat}:∀{k k':List It},zC id k=some k'->eh R P N F k' .normal σ->eh R P N F k (.exit id) σ:=by
 intro k
 induction k with
 |nil=>intro k' h _;simp[zC]at h
 |cons x k ih=>
  intro k' h hp;cases x with
  |iu OI=>
   simp only[zC]at h;simp only[eh];split at h
   ·rename_i hb;simp only[Option.some.injEq]at h;subst h;rw[if_pos (Nat.eq_of_beq_eq_true hb)];exact hp
   rename_i hb;have:id≠OI:=by intro e;subst e;simp at hb
   rw[if_neg this];exact ih h hp
  |_=>simp only[zC]at h;exact ih h hp
theorem D9{a b:Code}(h:AK R P N F (.code a::.code b::k) l):AK R P N F (.code (.seq a b)::k) l:=P7 (gP (h:AW R P N a (eh R P N F (.code b::k)) (dn l)) fun e σ' h=>by cases e<;>exact h)
theorem Qh{id:Nat}{c:Code}(h:AK R P N F (.code c::.iu id::k) l):AK R P N F (.code (.block id c)::k) l:=Qb (gP (h:AW R P N c (eh R P N F (.iu id::k)) (dn l)) fun e σ' h=>by cases e<;>exact h)
theorem Qg{c:Code}(h:AK R P N F (.code c::.UO::k) l):AK R P N F (.code (.scope c)::k) l:=P8 (gP (h:AW R P N c (eh R P N F (.UO::k)) (dn l)) fun e σ' h=>by cases e<;>exact h)
def cK(l:aP)(all:List Oper):Option (Nat×Bool)->Option Bool
 |none=>some true
 |some (j,b)=>match nth all j with
  |some o=>match o.dst with
   |some d=>match Nat.blt d 1000000 with
    |true=>match(gt l d).v with
     |.b true=>some b
     |.b false=>some (not' b)
     |.bC []=>some false
     |_=>none
    |false=>none
   |none=>none
  |none=>none
theorem dc{all:Array Oper}{o:Oper}{b:Bool}(h:cK l all.toList o.guard=some b):iW (dn l) all o=some b:=by
 unfold iW;cases hg:o.guard with
 |none=>rw[hg]at h;simpa[cK]using h
 |some q=>
  obtain⟨j,want⟩:=q;rw[hg]at h;simp only[cK]at h;split at h<;>try(simp at h;done)
  rename_i oj Xg;rw[ko,Array.getElem?_toList]at Xg;split at h<;>try(simp at h;done)
  rename_i d hd;simp only[Xg,Option.bind_some,hd,cQ];split at h<;>try(simp at h;done)
  rename_i Sf;rw[Sf];simp only;split at h<;>try(simp at h;done)
  ·rename_i hv;rw[hv];simpa[SV.den]using h
  ·rename_i hv;rw[hv];simp only[SV.den];cases want<;>simp_all[not']
  rename_i hv;rw[hv];simpa[SV.den,an]using h
def Nr(l:aP):Option Nat->aP×List Nat
 |some d=>E0 l d (.bC []) fun l'=>(l',[d])
 |none=>(l,[])
def EC(tt:TT)(raw:List Nat)(all:List Oper)(l:aP)(o:Oper):mb:=
 match o with
 |⟨dst,op,_,_,_,g⟩=>match cK l all g with
  |some true=>ev tt raw l dst op
  |some false=>match Nr l dst with
   |(l',ks)=>some ([],l',ks)
  |none=>none
theorem sA{tt:TT}(hA:bK P tt){raw:List Nat}{all:Array Oper}{o:Oper}{l':aP}{ob:List Pd}{ks:List Nat}{K:List Mv->St->Prop}(h:EC tt raw all.toList l o=some (ob,l',ks))(hc:ae ob)
 (hk:∀ms,aN ms=ks->K ms (dn l')):oU P all o (dn l) K:=by
 obtain⟨dst,op,ty,pos,cF,g⟩:=o;unfold EC at h;simp only at h;split at h<;>try(simp at h;done)
 ·rename_i hw;cases g with
  |none=>exact Uf hA h hc hk
  |some q=>obtain⟨j,b⟩:=q;rw[C6];rw[dc (o:=⟨dst,op,ty,pos,cF,some (j,b)⟩) hw];simp only[nK];exact Uf hA h hc hk
 rename_i hw;cases g with
 |none=>simp[cK]at hw
 |some q=>
  obtain⟨j,b⟩:=q;rw[C6];rw[dc (o:=⟨dst,op,ty,pos,cF,some (j,b)⟩) hw];simp only[nK];cases dst with
  |none=>simp only[Nr,Option.some.injEq,Prod.mk.injEq]at h;obtain⟨-,rfl,rfl⟩:=h;exact⟨[],rfl,dn l,rfl,hk _ rfl⟩
  |some d=>simp only[Nr,kD,Option.some.injEq,Prod.mk.injEq]at h;obtain⟨-,rfl,rfl⟩:=h;refine⟨[.put d (.bC [])],rfl,dn (Lh l d (.bC [])),?_,hk _ rfl⟩;have:=ja l d (.bC []);simp only[Mv.runs,Mv.run];rw[<-this];rfl
abbrev Z0:=Option (List Pd×List It×aP)
def Bu(tt:TT)(raw:List Nat)(N:Nat)(k:List It)(l:aP):Z0:=
 match k with
 |[]=>none
 |.code c::k=>match c with
  |.seq a b=>some ([],.code a::.code b::k,l)
  |.skip=>some ([],k,l)
  |.label _=>some ([],k,l)
  |.region _ all false=>match all.toList.all (fO N)with
   |true=>some ([],.ops all all.toList::k,l)
   |false=>none
  |.region _ all true=>match all.toList.all (fO N),lower all.toList with
   |true,true=>some ([],.o4 all (pE all.toList []) all.toList []::k,l)
   |_,_=>none
  |.block id c=>some ([],.code c::.iu id::k,l)
  |.scope c=>some ([],.code c::.UO::k,l)
  |.exit id=>match zC id k with
   |some k=>some ([],k,l)
   |none=>none
  |.ret=>some ([],[],l)
  |.cond c t e=>match aE c with
   |true=>(da l c).bind fun x=>(cz x).bind fun(ob,v)=>match v with
    |.b true=>some (ob,.code t::k,l)
    |.b false=>some (ob,.code e::k,l)
    |_=>none
   |false=>none
  |_=>none
 |.iu _::k=>some ([],k,l)
 |.UO::k=>some ([],k,l)
 |.ops all []::k=>some ([],k,l)
 |.ops all (o::rest)::k=>match EC tt raw all.toList l o with
  |some (ob,l',_)=>some (ob,.ops all rest::k,l')
  |none=>none
 |.o4 _ _ [] _::_=>none
 |.o4 all mm (o::rest) acc::k=>match EC tt raw all.toList l o with
  |some (ob,l',ks)=>some (ob,.o4 all mm rest ((gW (dn l) all o,ks)::acc)::k,l')
  |none=>none
 |.inv _::_=>none
theorem nS{tt:TT}(hA:bK P tt)(hm:P.follows .mixedOrders=true){raw:List Nat}{k k':List It}{l l':aP}{ob:List Pd}(h:Bu tt raw N k l=some (ob,k',l'))(hc:ae ob)(hk:AK R P N F k' l'):AK R P N F k l:=by
 unfold Bu at h;split at h
 ·simp at h
 ·rename_i c k;split at h<;>try(simp at h;done)
  ·simp only[Option.some.injEq,Prod.mk.injEq]at h;obtain⟨-,rfl,rfl⟩:=h;exact D9 hk
  ·simp only[Option.some.injEq,Prod.mk.injEq]at h;obtain⟨-,rfl,rfl⟩:=h;exact Tb hk
  ·simp only[Option.some.injEq,Prod.mk.injEq]at h;obtain⟨-,rfl,rfl⟩:=h;exact Qa hk
  ·split at h<;>try(simp at h;done)
   rename_i bj;simp only[Option.some.injEq,Prod.mk.injEq]at h;obtain⟨-,rfl,rfl⟩:=h;exact gP (Bi (K:=eh R P N F k .normal) bj (ES hk)) fun e σ'⟨he,h⟩=>by subst he;exact h
  ·split at h<;>try(simp at h;done)
   rename_i bj R6;simp only[Option.some.injEq,Prod.mk.injEq]at h;obtain⟨-,rfl,rfl⟩:=h;exact gP (Bj (K:=eh R P N F k .normal) hm bj R6 rfl (EP hk)) fun e σ'⟨he,h⟩=>by subst he;exact h
  ·simp only[Option.some.injEq,Prod.mk.injEq]at h;obtain⟨-,rfl,rfl⟩:=h;exact Qh hk
  ·simp only[Option.some.injEq,Prod.mk.injEq]at h;obtain⟨-,rfl,rfl⟩:=h;exact Qg hk
  ·split at h<;>try(simp at h;done)
   rename_i k2 he;simp only[Option.some.injEq,Prod.mk.injEq]at h;obtain⟨-,rfl,rfl⟩:=h;exact Td (Li he hk)
  ·simp only[Option.some.injEq,Prod.mk.injEq]at h;obtain⟨-,rfl,rfl⟩:=h;refine WS ?_;rw[jX];exact hk
  split at h<;>try(simp at h;done)
  rename_i c t e bj;simp only[Option.bind_eq_some_iff,Prod.exists]at h;obtain⟨x,h1,mw,v,h2,h3⟩:=h;split at h3<;>try(simp at h3;done)
  ·simp only[Option.some.injEq,Prod.mk.injEq]at h3;obtain⟨rfl,rfl,rfl⟩:=h3;exact D3 (t:=true) bj (by rw[cD h1];exact aw h2 hc) hk
  simp only[Option.some.injEq,Prod.mk.injEq]at h3;obtain⟨rfl,rfl,rfl⟩:=h3;exact D3 (t:=false) bj (by rw[cD h1];exact aw h2 hc) hk
 ·simp only[Option.some.injEq,Prod.mk.injEq]at h;obtain⟨-,rfl,rfl⟩:=h;exact hk
 ·simp only[Option.some.injEq,Prod.mk.injEq]at h;obtain⟨-,rfl,rfl⟩:=h;exact hk
 ·simp only[Option.some.injEq,Prod.mk.injEq]at h;obtain⟨-,rfl,rfl⟩:=h;exact hk
 ·split at h<;>try(simp at h;done)
  rename_i mw l1 ks hs;simp only[Option.some.injEq,Prod.mk.injEq]at h;obtain⟨rfl,rfl,rfl⟩:=h;show rp P _ _ _ _;rw[jJ];exact lC (sA hA hs hc fun ms _=>hk)
 ·simp at h
 ·split at h<;>try(simp at h;done)
  rename_i mw l1 ks hs;simp only[Option.some.injEq,Prod.mk.injEq]at h;obtain⟨rfl,rfl,rfl⟩:=h;refine lC (sA hA hs hc fun ms kr=>?_);rw[kr];exact hk
 simp at h
def UZ{α:Type _}:List Pd->List Pd->(List Pd->α)->α
 |[],acc,k=>k acc
 |p::q,acc,k=>UZ q (p::acc) k
theorem JB{α:Type _}:∀(a b:List Pd),∃c,(∀k:List Pd->α,UZ a b k=k c)/\(ae c↔ae a/\ae b)
 |[],b=>⟨b,fun _=>rfl,by simp[ae]⟩
 |p::a,b=>by
  obtain⟨c,h1,h2⟩:=JB (α:=α) a (p::b);refine⟨c,h1,?_⟩;rw[h2];simp only[ae];constructor
  ·rintro⟨x,y,z⟩;exact⟨⟨y,x⟩,z⟩
  rintro⟨⟨x,y⟩,z⟩;exact⟨y,x,z⟩
def wi:List Pd->List Pd->List Pd
 |[],l=>l
 |p::m,l=>app (p::m) l
theorem nG{a b:List Pd}:ae (wi a b)↔ae a/\ae b:=by
 cases a with
 |nil=>simp[wi,ae]
 |cons p m=>exact aJ
def kv:List Bool->Bool
 |[]=>true
 |b::l=>match b with
  |true=>kv l
  |false=>false
theorem PX{b:Bool}{l:List Bool}:kv (b::l)=true↔b=true/\kv l=true:=by cases b<;>simp[kv]
def drawn:List It->Option (Bool×List It)
 |.o4 all mm [] acc::k=>some (apart mm acc.reverse all.size,k)
 |_=>none
theorem GB{k k':List It}{b:Bool}(h:drawn k=some (b,k'))(hb:b=true)(hk:AK R P N F k' l):AK R P N F k l:=by
 unfold drawn at h;split at h<;>try(simp at h;done)
 simp only[Option.some.injEq,Prod.mk.injEq]at h;obtain⟨rfl,rfl⟩:=h;exact⟨hb,hk⟩
def run(tt:TT)(raw:List Nat)(N:Nat):Nat->List It->aP->List Pd->List Bool->List Pd×List Bool×List It×aP
 |0,k,l,acc,qs=>(acc,qs,k,l)
 |n+1,k,l,acc,qs=>match drawn k with
  |some (b,k')=>run tt raw N n k' l acc (b::qs)
  |none=>match Bu tt raw N k l with
   |some (ob,k',l')=>UZ ob acc fun acc=>run tt raw N n k' l' acc qs
   |none=>(acc,qs,k,l)
theorem kQ{tt:TT}(hA:bK P tt)(hm:P.follows .mixedOrders=true){raw:List Nat}:∀{n:Nat}{k k':List It}{l l':aP}{acc ob:List Pd}{qs qs':List Bool},run tt raw N n k l acc qs=(ob,qs',k',l')->ae ob->kv qs'=true->
 ae acc/\kv qs=true/\(AK R P N F k' l'->AK R P N F k l)
 |0,k,k',l,l',acc,ob,qs,qs',h,hc,hq=>by simp only[run,Prod.mk.injEq]at h;obtain⟨rfl,rfl,rfl,rfl⟩:=h;exact⟨hc,hq,id⟩
 |n+1,k,k',l,l',acc,ob,qs,qs',h,hc,hq=>by
  simp only[run]at h;split at h
  ·rename_i b k1 hd;obtain⟨h1,h2,h3⟩:=kQ hA hm h hc hq;rw[PX]at h2;exact⟨h1,h2.2,fun hk=>GB hd h2.1 (h3 hk)⟩
  split at h
  ·rename_i mw k1 l1 hs;obtain⟨c,e1,e2⟩:=JB (α:=List Pd×List Bool×List It×aP) mw acc;rw[e1]at h;obtain⟨h1,h2,h3⟩:=kQ hA hm h hc hq;obtain⟨h4,h5⟩:=e2.1 h1;exact⟨h5,h2,fun hk=>nS hA hm hs h4 (h3 hk)⟩
  simp only[Prod.mk.injEq]at h;obtain⟨rfl,rfl,rfl,rfl⟩:=h;exact⟨hc,hq,id⟩
end
end Go.Ai
