/- ScaleRanges holds of the program, under no condition. -/
import Derived.Test.YtacjimehcbbkbaaGreatDoorRZAC
set_option linter.all false
set_option maxRecDepth 100000
set_option maxHeartbeats 0
namespace Go.Ai
open Go.RowKit
section
variable{a b:Bool}{M:L Nat}{d r:Nat}{m:Q (L Mv)}{p:Path}{x:SR}{y:SV}{l l':a7}{α:Type _}
def Ja:Path->SV->Bool
 |[],_=>true
 |[.bU _],_=>true
 |_,y=>y.cell
def Oz(p:Path)(y:SV):zP p y.den=Ja p y:=by unfold zP Ja;split<;>simp_all[E8]
def wI:Path->Bool
 |[]=>true
 |_=>false
def dt:Bool->Bool->Bool
 |true,b=>b
 |false,_=>false
def Gr:Bool->Bool->Bool
 |true,_=>true
 |false,b=>b
def aW:dt a b=true↔a=true/\b=true:=by cases a<;>simp[dt]
def sR:Gr a b=true↔a=true\/b=true:=by cases a<;>simp[Gr]
def iz(b:Bool):Q Unit:=match b with
 |true=>some ()
 |false=>none
def bT{u:Unit}:iz b=some u↔b=true:=by cases b<;>simp[iz]
def not':Bool->Bool
 |true=>false
 |false=>true
def not_iff:not' b=true↔b=false:=by cases b<;>simp[not']
def ne'(a b:Nat):Bool:=not'<|Nat.beq a b
def ne_iff{a b:Nat}:ne' a b=true↔a≠b:=by
 unfold ne';rw[not_iff];constructor;intro h e;subst e;simp at h;intro h;cases c:Nat.beq a b with
 |false=>rfl
 |true=>simp_all
def beq_iff{a b:Nat}:Nat.beq a b=true↔a=b:=⟨ac2,λh=>by subst h;simp⟩
def dq(x:SR):Q (L Pd×SV):=
 match x.sl.v with
 |.bw _ g1 g2 p=>(iz<|dt (Nat.beq x.rt.g1 g1)<|Gr (RJ p)<|Nat.beq x.rt.g2 g2).bind λ_=>(iv x.rt.v p).bind λ(ob,y)=>(iz<|dt (Ja p y) y.plain).bind λ_=>some (ob,y)
 |.ptr .. =>none
 |.hole=>none
 |.dead=>none
 |.gI .. =>none
 |y=>some ([],y)
def aJ{ob:L Pd}(h:dq x=some (ob,y))(hc:aj ob):x.den.cont=some y.den:=by
 obtain⟨s,⟨v,g1,g2⟩,rt⟩:=x;unfold dq at h;unfold cx.cont;cases v with
 |bw r a b p=>simp only[aaV,bT,aW,sR,beq_iff,afh]at h;obtain⟨_,⟨j,n⟩,c,k,f,_,⟨i,g⟩,rfl,rfl⟩:=h;have e:=cY f hc;simp only[SR.den,Cl.den,SV.den,j,if_true,e,Oz,cU,i,g,agJ];simp_all
 |ptr=>cases h
 |hole=>cases h
 |dead=>cases h
 |gI=>cases h
 |_=>cases h;simp[SR.den,Cl.den,SV.den]
def zL(x:SR):Q (Nat×Nat×Nat×Path):=
 match x.sl.v with
 |.bw r g1 g2 p=>some (r,g1,g2,p)
 |.ptr .. =>none
 |_=>match x.s with
  |some s=>some (s,x.sl.g1,x.sl.g2,[])
  |none=>none
def o7(x:SR):x.den.place=zL x:=by obtain⟨s,⟨v,g1,g2⟩,rt⟩:=x;cases v<;>rfl
structure aaS where
 r:Nat
 g1:Nat
 g2:Nat
 p:Path
 v:SV
def Ft(x:SR):Q (L Pd×aaS):=
 match x.sl.v with
 |.ptr r g1 g2 p=>(iz<|dt (Nat.beq x.rt.g1 g1)<|Gr (flat p)<|Nat.beq x.rt.g2 g2).bind λ_=>match x.rt with
  |⟨v,a,b⟩=>some ([],⟨r,a,b,p,v⟩)
 |.box o v=>match x.s with
  |some s=>some ([],⟨s,x.sl.g1,x.sl.g2,[.deref],.box o v⟩)
  |none=>none
 |.bw r _ _ p=>(dq x).bind λ(ob,y)=>match y with
  |.box _ _=>match x.rt with
   |⟨v,a,b⟩=>some (ob,⟨r,a,b,p++[.deref],v⟩)
  |_=>none
 |_=>none
def lC{ob:L Pd}{a:aaS}(h:Ft x=some (ob,a))(hc:aj ob):x.den.addr=some (a.r,a.g1,a.g2,a.p,a.v.den):=by
 obtain⟨s,⟨v,g1,g2⟩,rt⟩:=x;unfold Ft at h;cases v with
 |ptr r c d p=>simp only[aaV,bT,aW,sR,acQ]at h;obtain⟨_,⟨f,e⟩,rfl,rfl⟩:=h;unfold cx.addr;simp only[SR.den,Cl.den,SV.den,if_true];simp_all
 |box o y=>
  cases s with
  |none=>cases h
  |some s=>cases h;rfl
 |bw r c d p=>
  simp[aaV]at h;obtain⟨g,y,f,e⟩:=h;cases y with
  |box o y=>cases e;have:=aJ f hc;unfold cx.addr;simp[SR.den,Cl.den,SV.den]at this⊢;rw[this]
  |_=>cases e
 |_=>cases h
abbrev pF:=Q<|L Pd×a7×L Nat
def dF(l:a7)(m:Q (L Mv))(e:pF):Prop:=∀ob l' f,e=some (ob,l',f)->aj ob->∃c,m=some c/\Mv.runs (dn l) c=some (dn l')/\bp c=f
def Sd(l:a7)(d:Nat)(y:SV):a7:=match gt l d with
 |⟨_,a,b⟩=>(d,⟨y,a+1,b⟩)::l
def lR(l:a7)(d:Nat)(y:SV):iy (dn l) d ⟨y.den,(dn l d).g1+1,(dn l d).g2⟩=dn (Sd l d y):=by unfold Sd;simp[fb,Cl.den,BN,Q8]
def Step.seq{α:Type _}(s:Step)(k:Step->α):α:=match s with
 |.idx i n=>k (.idx i n)
 |.at o none=>k (.at o none)
 |.at o (some n)=>k (.at o<|some n)
 |.deref=>k .deref
 |.bU i=>k (.bU i)
 |.nF a b c=>k<|.nF a b c
def Step.seq_eq(s:Step)(k:Step->α):s.seq k=k s:=by
 cases s with
 | «at» o n=>cases n<;>rfl
 |_=>rfl
def Lk{α:Type _}(p:Path)(k:Path->α):α:=match p with
 |[]=>k []
 |s::p=>s.seq λs=>Lk p λp=>k<|s::p
def Lj{α:Type _}:∀(p:Path)(k:Path->α),Lk p k=k p
 |[],_=>rfl
 |s::p,k=>by simp[Lk,Step.seq_eq];exact Lj p _
def Yh{α:Type _}(y:SV)(k:SV->α):α:=match y with
 |.n c e=>k (.n c e)
 |.b c=>k (.b c)
 |.u c=>k (.u c)
 |.s c=>k (.s c)
 |.c c=>k (.c c)
 |.nil=>k .nil
 |.ints c e f=>k (.ints c e f)
 |.eI c e=>k (.eI c e)
 |.strs c e=>k (.strs c e)
 |.cR c e=>k (.cR c e)
 |.bc c e f j i=>k (.bc c e f j i)
 |.row c e f=>k (.row c e f)
 |.agg c=>k (.agg c)
 |.bU c=>k (.bU c)
 |.box c e=>k (.box c e)
 |.fn c e f=>k (.fn c e f)
 |.bw c e f p=>Lk p λp=>k (.bw c e f p)
 |.ptr c e f p=>Lk p λp=>k (.ptr c e f p)
 |.hole=>k .hole
 |.dead=>k .dead
 |.pv C=>k (.pv C)
 |.abs J=>k (.abs J)
 |.gI g h=>k (.gI g h)
 |.ob J=>k<|.ob J
def Qi(y:SV)(k:SV->α):Yh y k=k y:=by cases y<;>simp[Yh,Lj]
def Lc{α:Type _}(l:a7)(d:Nat)(y:SV)(k:a7->α):α:=Yh y λy=>match gt l d with
 |⟨_,a,b⟩=>k<|(d,⟨y,a+1,b⟩)::l
def rZ(l:a7)(d:Nat)(y:SV)(k:a7->α):Lc l d y k=k (Sd l d y):=by simp[Lc,Qi];rfl
def dB(ob:L Pd)(l:a7)(d:Nat)(y:SV):pF:=Lc l d y λl'=>some (ob,l',[d])
def cZ{ob:L Pd}(h:aj ob->m=some [.put d y.den]):dF l m (dB ob l d y):=by intro c l' e he hc;simp[dB,rZ]at he;obtain⟨rfl,rfl,rfl⟩:=he;exact⟨_,h hc,by simp[Mv.runs,Mv.run,lR],W⟩
def bJ:dF l m none:=λ_ _ _ h=>by cases h
def H8(l:a7):L Nat->a7
 |[]=>l
 |m::M=>match gt l m with
  |⟨_,a,b⟩=>(m,⟨.dead,a+1,b⟩)::H8 l M
def Ay(l:a7):∀(M:L Nat)(i:Nat),dn (H8 l M) i=if i∈M then⟨.dead,(dn l i).g1+1,(dn l i).g2⟩else dn l i
 |[],i=>by simp[H8]
 |m::M,i=>by simp[H8,fb];unfold iy;by_cases h:i=m;subst h;simp[Cl.den,SV.den,dn];simp[h];exact Ay l M i
def LJ(l:a7)(M:L Nat)(d:Nat)(y:SV):a7:=match gt l d with
 |⟨_,a,b⟩=>(d,⟨y,a+1,b⟩)::H8 l M
def gQ(l:a7)(M:L Nat)(d:Nat)(y:SV):made (dn l) M d y.den=dn (LJ l M d y):=by
 unfold LJ
 funext i
 simp[made,fb,iy];by_cases h:i=d;subst h;simp[Cl.den,dn];simp[h];rw[Ay]
def Na{α:Type _}(l:a7):L Nat->(a7->α)->α
 |[],k=>k l
 |m::M,k=>match gt l m with
  |⟨_,a,b⟩=>Na l M λl'=>k<|(m,⟨.dead,a+1,b⟩)::l'
def EV{α:Type _}(l:a7):∀(M:L Nat)(k:a7->α),Na l M k=k (H8 l M)
 |[],_=>rfl
 |m::M,k=>by simp[Na];rw[EV l M];rfl
def nk{α:Type _}(l:a7)(M:L Nat)(d:Nat)(y:SV)(k:a7->α):α:=Yh y λy=>match gt l d with
 |⟨_,a,b⟩=>Na l M λl'=>k<|(d,⟨y,a+1,b⟩)::l'
def iG(l:a7)(M:L Nat)(d:Nat)(y:SV)(k:a7->α):nk l M d y k=k (LJ l M d y):=by simp[nk,Qi,EV];rfl
def pd(ob:L Pd)(l:a7)(M:L Nat)(d:Nat)(y:SV):pF:=nk l M d y λl'=>some (ob,l',d::M)
def lz{ob:L Pd}(h:aj ob->m=some [.make M d y.den]):dF l m (pd ob l M d y):=by intro c l' e he hc;simp[pd,iG]at he;obtain⟨rfl,rfl,rfl⟩:=he;exact⟨_,h hc,by simp[Mv.runs,Mv.run,gQ],by simp[bp,Mv.keys]⟩
def tE(l:a7)(r:Nat)(p:Path):Q (L Pd×a7):=
 match gt l r with
 |⟨v,a,b⟩=>(iv v p).bind λ(ob,y)=>(me v p y.cC).bind λ(c,e)=>some (app ob c,(r,⟨e,a,b+1⟩)::l)
def mr{ob:L Pd}(h:tE l r p=some (ob,l'))(hc:aj ob):Mv.run (dn l) (.share r p)=some (dn l'):=by unfold tE at h;simp[aaV]at h;obtain⟨e,y,g,c,o,f,rfl,rfl⟩:=h;obtain⟨n,k⟩:=aY.1 hc;have j:=cY g n;have i:=gu f k;simp[Mv.run,ee,j,gP,i,fb];rfl
def GL(l:a7)(r d:Nat)(p:Path):Q (L Pd×SV×a7):=
 (iz<|ne' d r).bind λ_=>match gt l r with
 |⟨v,a,b⟩=>(iv v p).bind λ(ob,y)=>(me v p<|V4 y).bind λ(c,e)=>match gt l d with
  |⟨_,g,f⟩=>match wI p with
   |true=>some (app ob c,y,(d,⟨y,g+1,f⟩)::(r,⟨e,a+1,b⟩)::l)
   |false=>some (app ob c,y,(d,⟨y,g+1,f⟩)::(r,⟨e,a,b⟩)::l)
def GK{ob:L Pd}(h:GL l r d p=some (ob,y,l'))(hc:aj ob):Mv.run (dn l) (.take r d p)=some (dn l'):=by
 unfold GL at h;simp only[aaV,afh,bT,ne_iff]at h;obtain⟨_,g,f,i,n,e,c,k,h⟩:=h;have key:ob=app f e/\l'=(d,⟨i,(gt l d).g1+1,(gt l d).g2⟩)::(r,if p=[]then⟨c,(gt l r).g1+1,(gt l r).g2⟩else⟨c,(gt l r).g1,(gt l r).g2⟩)::l:=by
  cases p with
  |nil=>simp[wI]at h;grind
  |cons s p=>simp[wI]at h;grind
 obtain⟨rfl,rfl⟩:=key;obtain⟨u,t⟩:=aY.1 hc;have q:=cY n u;have o:=gu k t;simp[Mv.run,g,ee,q,<-S9,o,fb];have j:kC (dn l r) p c.den=Cl.den (if p=[]then⟨c,(gt l r).g1+1,(gt l r).g2⟩else⟨c,(gt l r).g1,(gt l r).g2⟩):=by unfold kC;split<;>rfl
 rw[j];rfl
def N4(l:a7)(r:Nat)(p:Path)(M:L Nat)(y:SV):pF:=
 (iz<|not'<|M.any<|Nat.beq r).bind λ_=>match gt l r with
 |⟨v,a,b⟩=>(me v p y).bind λ(ob,c)=>Na l M λl'=>some (ob,(r,⟨c,a,b+1⟩)::l',r::M)
def N3{ob:L Pd}{c:L Nat}(h:N4 l r p M y=some (ob,l',c))(hc:aj ob):Mv.run (dn l) (.store r p M y.den)=some (dn l')/\c=r::M:=by
 unfold N4 at h;simp only[aaV,afh,bT,not_iff,EV]at h;obtain⟨_,hn,e,j,f,rfl,rfl,rfl⟩:=h;have hm:r∉M:=by intro hm;have:M.any (Nat.beq r)=true:=List.any_eq_true.2 ⟨r,hm,I⟩;simp_all
 have g:=gu f hc;simp[Mv.run,hm,ee,g]
 funext i
 simp[stored,fb,iy];by_cases h:i=r;subst h;simp[Cl.den,dn];simp[h];rw[Ay]
def Np(d:Nat):L (Nat×Nat)->Bool
 |[]=>true
 |(r,_)::q=>dt (ne' r d)<|Np d q
def AE{d:Nat}:∀{e:L (Nat×Nat)},Np d e=true->e.all (λq=>q.1 !=d)=true
 |[],_=>rfl
 |(r,a)::c,h=>by simp[Np,aW]at h;simp only[ac4,abi];exact⟨by simpa using ne_iff.1 h.1,AE h.2⟩
def wQ(l:a7)(d:Nat)(x:SR):pF:=
 match x.sl.v with
 |.bw r a b p=>(iz<|ne' r d).bind λ_=>dB [] l d (.bw r a b p)
 |.ptr r a b p=>(iz<|ne' r d).bind λ_=>dB [] l d (.ptr r a b p)
 |.gI g c=>(iz<|Np d c).bind λ_=>dB [] l d (.gI g c)
 |y=>match y.aK with
  |true=>dB [] l d y
  |false=>match x.s with
   |some s=>(iz<|ne' s d).bind λ_=>dB [] l d (.bw s x.sl.g1 x.sl.g2 [])
   |none=>none
def bB{e:pF}(h:b=true->dF l m e):dF l m ((iz b).bind λ_=>e):=by
 cases b with
 |true=>exact h W
 |false=>exact bJ
def jU(l:a7)(d:Nat)(x:SR):dF l (dD d x.den) (wQ l d x):=by
 obtain⟨s,⟨v,g1,g2⟩,rt⟩:=x;have gen:∀v:SV,v.ig=true->dF l (dD d<|SR.den ⟨s,⟨v,g1,g2⟩,rt⟩) (match v.aK with
  |true=>dB [] l d v
  |false=>match s with
   |some s=>(iz<|ne' s d).bind λ_=>dB [] l d (.bw s g1 g2 [])
   |none=>none):=by
  intro v h;have hm:dD d (SR.den ⟨s,⟨v,g1,g2⟩,rt⟩)=if v.aK then some [.put d v.den]else match s with
   |some s=>if s=d then none else some [.put d<|.bw s g1 g2 []]
   |none=>none:=by
   have i:v.den.ig=true:=by rw[nh];exact h
   have:∀a:AV,a.ig=true->dD d ⟨s,⟨a,g1,g2⟩,rt.den⟩=if a.aK then some [.put d a]else match s with
    |some s=>if s=d then none else some [.put d<|.bw s g1 g2 []]
    |none=>none:=by
    intro a j;cases a<;>first|rfl|simp[AV.ig]at j
   have e:=this v.den i;rw[cD]at e;exact e
  rw[hm];cases v.aK with
  |true=>exact cZ λ_=>rfl
  |false=>
   cases s with
   |none=>exact bJ
   |some s=>exact bB λc=>cZ λ_=>by simp[ne_iff.1 c,SV.den]
 cases v with
 |bw r a b p=>exact bB λc=>cZ λ_=>by simp[dD,SR.den,Cl.den,SV.den,ne_iff.1 c]
 |ptr r a b p=>exact bB λc=>cZ λ_=>by simp[dD,SR.den,Cl.den,SV.den,ne_iff.1 c]
 |gI g f=>exact bB λc=>cZ λ_=>by simp[dD,SR.den,Cl.den,SV.den,AE c]
 |_=>exact gen _ W
end
inductive Ty
 |int (k:IntKind)|bool|str
 |slice (e:TypeId)
 |array (n:Nat) (e:TypeId)
 |struct (fs:List (Nat×TypeId×Nat))
 |ptr|func|other
structure zj where
 agg:Bool
 size:Nat
 bytes:Nat
 zero:SV
def zj.den(i:zj):TI:=⟨i.agg,i.size,i.bytes,i.zero.den⟩
structure TE where
 un:Ty
 ti:Option zj
def Ty.ok(P:Program)(t:TypeId):Ty->Prop
 |.int k=>P.underlying t=some (.int k)
 |.bool=>P.underlying t=some .bool
 |.str=>P.underlying t=some .string
 |.slice e=>P.underlying t=some (.slice e)
 |.array n e=>P.underlying t=some (.array n e)
 |.struct g=>∃f,P.underlying t=some (.struct f)/\f.toList.mapM (λf=>(P.info? f.type).map λi=>(f.offset,f.type,i.size))=some g
 |.ptr=>∃e,P.underlying t=some (.pointer e)
 |.func=>∃a b c,P.underlying t=some (.func a b c)
 |.other=>True
def TE.ok(P:Program)(t:TypeId)(e:TE):Prop:=e.un.ok P t/\∀i,e.ti=some i->ct P t=some i.den
abbrev TT:=L<|Nat×TE
def ty?:TT->TypeId->Q TE
 |[],_=>none
 |(d,x)::l,i=>match Nat.beq i d with
  |true=>some x
  |false=>ty? l i
def c8(P:Program):TT->Prop
 |[]=>True
 |(t,e)::l=>e.ok P t/\c8 P l
def c8.get{P:Program}:∀{tt:TT}{t:TypeId}{e:TE},c8 P tt->ty? tt t=some e->e.ok P t
 |[],_,_,_,h=>by simp[ty?]at h
 |(d,x)::l,t,e,a,h=>by simp[ty?]at h;split at h;rename_i b;have:=ac2 b;subst this;cases h;exact a.1;exact c8.get a.2 h
def Iw(tt:TT)(t:TypeId):Q zj:=(ty? tt t).bind λe=>e.ti
def GI(tt:TT)(t:TypeId):Q Ty:=(ty? tt t).bind λe=>some e.un
def slice?(tt:TT)(t:TypeId):Q TypeId:=(GI tt t).bind λ|.slice e=>some e|_=>none
section
variable{P:Program}{tt:TT}{t:TypeId}
def ey(h:c8 P tt){i:zj}(hi:Iw tt t=some i):ct P t=some i.den:=by simp[Iw,aaV]at hi;obtain⟨e,b,a⟩:=hi;exact(h.get b).2 i a
def mV(h:c8 P tt){u:Ty}(hi:GI tt t=some u):u.ok P t:=by simp[GI,aaV]at hi;obtain⟨e,a,rfl⟩:=hi;exact(h.get a).1
def xq(h:c8 P tt){e:TypeId}(hi:slice? tt t=some e):P.underlying t=some (.slice e):=by simp[slice?,aaV]at hi;obtain⟨u,b,a⟩:=hi;have:=mV h b;cases u<;>cases a;exact this
def nV(h:c8 P tt){e:TypeId}(hi:slice? tt t=some e):dO P t=some e:=by simp[dO,xq h hi]
end
def ns(ti:zj):SV->Bool
 |.agg xs=>dt ti.agg (Nat.beq (len xs) ti.size)
 |y=>dt (not' ti.agg)<|dt (Nat.beq ti.size 1) y.cell
def jL(ti:zj)(y:SV)(h:ns ti y=true):fits ti.den y.den=true:=by
 cases y with
 |agg a=>simp[ns,aW,fk]at h;simp[fits,SV.den,zj.den,h,bP]
 |_=>simp[ns,aW,not_iff]at h;simp[fits,SV.den,zj.den,h,AV.cell]<;>(try simp[SV.cell]at h)
section
variable{P:Program}{tt:TT}(hA:c8 P tt)(l:a7)(d:Nat)
def au{α:Type _}{m:Q (L Mv)}{x:Q α}{f:α->pF}(h:∀a,x=some a->dF l m (f a)):dF l m (x.bind f):=by
 cases x with
 |none=>exact bJ
 |some a=>exact h a W
def Nx(ob:L Pd):pF->pF
 |some (a,b,c)=>some (app ob a,b,c)
 |none=>none
def oE{m:Q (L Mv)}{ob:L Pd}{e:pF}(h:aj ob->dF l m e):dF l m (Nx ob e):=by
 intro a f g he hc;cases e with
 |none=>simp[Nx]at he
 |some q=>obtain⟨rfl,rfl,rfl⟩:=he;obtain⟨c,b⟩:=aY.1 hc;exact h c _ _ _ W b
def AV.aat:AV->Bool
 |.box _ _=>true
 |_=>false
def ED(l:a7)(d:Nat)(x:SR):pF:=
 match x.sl.v with
 |.ptr r a b p=>(iz<|ne' r d).bind λ_=>dB [] l d (.ptr r a b p)
 |.gI g e=>(iz<|Np d e).bind λ_=>dB [] l d (.gI g e)
 |.bw r _ _ p=>(dq x).bind λ(ob,y)=>match y.aK with
  |true=>dB ob l d y
  |false=>match p with
   |[]=>(GL l r d []).bind λ(c,_,f)=>some (app ob c,f,[r,d])
   |[.bU i]=>(GL l r d [.bU i]).bind λ(c,_,f)=>some (app ob c,f,[r,d])
   |p=>(iz<|ne' r d).bind λ_=>(tE l r p).bind λ(c,f)=>Lc f d y.cC λh=>some (app ob c,h,[r,d])
 |.box b z=>match(SV.box b z).aK with
  |true=>dB [] l d (.box b z)
  |false=>match x.s with
   |some s=>(iz<|ne' s d).bind λ_=>dB [] l d (.bw s x.sl.g1 x.sl.g2 [])
   |none=>none
 |y=>match y.aK with
  |true=>dB [] l d y
  |false=>match x.s with
   |some s=>(iz<|ne' s d).bind λ_=>pd [] l [s] d y
   |none=>none
def EC(x:SR):dF l (dT d x.den) (ED l d x):=by
 obtain⟨s,⟨v,g1,g2⟩,rt⟩:=x;unfold ED;have gen:∀v:SV,v.ig=true->v.den.aat=false->dF l (dT d<|SR.den ⟨s,⟨v,g1,g2⟩,rt⟩) (match v.aK with
  |true=>dB [] l d v
  |false=>match s with
   |some s=>(iz<|ne' s d).bind λ_=>pd [] l [s] d v
   |none=>none):=by
  intro v H w;have hm:dT d (SR.den ⟨s,⟨v,g1,g2⟩,rt⟩)=if v.aK then some [.put d v.den]else match s with
   |some s=>if s=d then none else some [.make [s] d v.den]
   |none=>none:=by
   have M:v.den.ig=true:=by rw[nh];exact H
   have:∀a:AV,a.ig=true->a.aat=false->dT d ⟨s,⟨a,g1,g2⟩,rt.den⟩=if a.aK then some [.put d a]else match s with
    |some s=>if s=d then none else some [.make [s] d a]
    |none=>none:=by
    intro a N f;cases a<;>first|rfl|exact aaF f (λh=>Bool.noConfusion h)|simp[AV.ig]at N
   have k:=this v.den M w;rw[cD]at k;exact k
  rw[hm];cases v.aK with
  |true=>exact cZ λ_=>rfl
  |false=>
   cases s with
   |none=>exact bJ
   |some s=>exact bB λf=>lz λ_=>by simp[ne_iff.1 f]
 cases v with
 |bw r a b p=>
  intro ob n o he hc;simp[aaV,afh]at he;obtain⟨e,y,q,he⟩:=he;have hm:∀c:(SR.den ⟨s,⟨.bw r a b p,g1,g2⟩,rt⟩).cont=some y.den,dT d (SR.den ⟨s,⟨.bw r a b p,g1,g2⟩,rt⟩)=if y.aK then some [.put d y.den]else match p with
   |[]=>some [.take r d []]
   |[.bU i]=>some [.take r d [.bU i]]
   |p=>if r=d then none else some [.share r p,.put d y.den.cC]:=by
   intro c;unfold dT;simp[SR.den,Cl.den,SV.den]at c⊢;rw[c];simp[cD]
   grind
  cases hn:y.aK with
  |true=>rw[hn]at he;simp[dB,rZ,aaP,acQ]at he;obtain⟨rfl,rfl,rfl⟩:=he;have:=hm<|aJ q hc;rw[hn]at this;exact⟨_,by simpa using this,by simp[Mv.runs,Mv.run,lR],W⟩
  |false=>
   rw[hn]at he hm;simp[rZ]at he;have C:∀p,((GL l r d p).bind λ(x:L Pd×SV×a7)=>some (app e x.1,x.2.2,[r,d]))=some (ob,n,o)->aj e/\Mv.run (dn l) (.take r d p)=some (dn n)/\o=[r,d]:=by intro p hh;simp[aaV,afh,aaP,acQ]at hh;obtain⟨u,O,F,A,rfl,rfl,rfl⟩:=hh;obtain⟨j,B⟩:=aY.1 hc;exact⟨j,GK A B,W⟩
   have sh:∀p,((iz<|ne' r d).bind λ_=>(tE l r p).bind λ(x:L Pd×a7)=>some (app e x.1,Sd x.2 d y.cC,[r,d]))=some (ob,n,o)->
    aj e/\r≠d/\Mv.runs (dn l) [.share r p,.put d y.den.cC]=some (dn n)/\o=[r,d]:=by
    intro p hh;simp only[aaV,afh,aaP,acQ,bT,ne_iff]at hh;obtain⟨_,m,u,F,A,rfl,rfl,rfl⟩:=hh;obtain⟨j,B⟩:=aY.1 hc;refine⟨j,m,?_,W⟩;simp[Mv.runs];rw[mr A B];simp[Mv.run,gP,lR]
   split at he;obtain⟨j,k,rfl⟩:=C [] he;have:=hm<|aJ q j;exact⟨_,by simpa using this,by simp[Mv.runs,k],W⟩;obtain⟨j,k,rfl⟩:=C _ he;have:=hm<|aJ q j;exact⟨_,by simpa using this,by simp[Mv.runs,k],W⟩;rename_i K J;obtain⟨j,m,k,rfl⟩:=sh _ he;have:=hm<|aJ q j;refine⟨_,?_,k,W⟩;simp_all
 |ptr r a b p=>exact bB λf=>cZ λ_=>by simp[dT,SR.den,Cl.den,SV.den,ne_iff.1 f]
 |gI g D=>exact bB λf=>cZ λ_=>by simp[dT,SR.den,Cl.den,SV.den,AE f,if_true]
 |box b z=>
  have hm:dT d (SR.den ⟨s,⟨.box b z,g1,g2⟩,rt⟩)=if(SV.box b z).den.aK then some [.put d (SV.box b z).den]else match s with
   |some s=>if s=d then none else some [.put d<|.bw s g1 g2 []]
   |none=>none:=W
  rw[hm,cD];show dF l _ (match(SV.box b z).aK with
   |true=>dB [] l d (.box b z)
   |false=>match s with
    |some s=>(iz<|ne' s d).bind λ_=>dB [] l d (.bw s g1 g2 [])
    |none=>none)
  cases(SV.box b z).aK with
  |true=>exact cZ λ_=>rfl
  |false=>
   cases s with
   |none=>exact bJ
   |some s=>exact bB λf=>cZ λ_=>by simp[ne_iff.1 f,SV.den]
 |_=>exact gen _ W W
def Pc(tt:TT)(l:a7)(d:Nat)(t:TypeId)(x:SR):pF:=
 (Iw tt t).bind λti=>(Ft x).bind λ(ob,a)=>(iv a.v a.p).bind λ(b,y)=>(iz<|ns ti y).bind λ_=>match y.aK with
   |true=>dB (app ob b) l d y
   |false=>(iz<|ne' a.r d).bind λ_=>match y.cell with
    |true=>dB (app ob b) l d (.bw a.r a.g1 a.g2 a.p)
    |false=>(tE l a.r a.p).bind λ(c,f)=>Lc f d y.cC λe=>some (app (app ob b) c,e,[a.r,d])
def JO(hA:c8 P tt)(l:a7)(d:Nat)(t:TypeId)(x:SR):dF l (ug P d t x.den) (Pc tt l d t x):=by
 intro ob r s he hc;unfold Pc at he;simp only[aaV,afh,bT]at he;obtain⟨ti,p,h,a,o,g,y,n,_,m,he⟩:=he;have base:aj h->aj g->ug P d t x.den=if y.aK then some [.put d y.den]else if a.r=d then none else if y.cell then some [.put d<|.bw a.r a.g1 a.g2 a.p]else some [.share a.r a.p,.put d y.den.cC]:=by intro c b;unfold ug;simp[ey hA p,lC o c,cY n b,jL _ _ m,cD,E8]
 cases hn:y.aK with
 |true=>rw[hn]at he base;simp[dB,rZ,acQ]at he;obtain⟨rfl,rfl,rfl⟩:=he;obtain⟨c,b⟩:=aY.1 hc;exact⟨_,base c b,by simp[Mv.runs,Mv.run,lR],W⟩
 |false=>
  rw[hn]at he base;simp only[aaV,bT,ne_iff]at he;obtain⟨_,e,he⟩:=he;cases f:y.cell with
  |true=>rw[f]at he base;simp[dB,rZ,acQ]at he;obtain⟨rfl,rfl,rfl⟩:=he;obtain⟨c,b⟩:=aY.1 hc;refine⟨_,by simpa[e]using base c b,?_,W⟩;have:=lR l d<|.bw a.r a.g1 a.g2 a.p;rw[<-this];rfl
  |false=>rw[f]at he base;simp[aaV,rZ,acQ]at he;obtain⟨j,q,k,rfl,rfl,rfl⟩:=he;obtain⟨i,c3⟩:=aY.1 hc;obtain⟨c,b⟩:=aY.1 i;refine⟨_,by simpa[e]using base c b,?_,W⟩;simp[Mv.runs];rw[mr k c3];simp[Mv.run,gP,lR]
def V9(s:Q Nat)(y:SV):Q (L Pd×SV×L Nat):=match y.aK with
 |true=>some ([],y,[])
 |false=>match s with
  |some s=>some ([],y,[s])
  |none=>none
def yr(x:SR):Q (L Pd×SV×L Nat):=
 match x.sl.v with
 |.bw r _ _ p=>(dq x).bind λ(ob,y)=>match y.aK with
  |true=>some (ob,y,[])
  |false=>match wI p with
   |true=>some (ob,y,[r])
   |false=>none
 |.ptr .. =>none
 |.dead=>none
 |.gI .. =>none
 |y=>V9 x.s y
def qy{x:SR}{ob:L Pd}{y:SV}{M:L Nat}(h:yr x=some (ob,y,M))(hc:aj ob):eX x.den=some (y.den,M):=by
 obtain⟨s,⟨v,g1,g2⟩,rt⟩:=x;unfold yr at h;have gen:∀v:SV,v.ig=true->v≠.dead->V9 s v=some (ob,y,M)->eX (SR.den ⟨s,⟨v,g1,g2⟩,rt⟩)=some (y.den,M):=by
  intro v n c hh;have hm:eX (SR.den ⟨s,⟨v,g1,g2⟩,rt⟩)=if v.aK then some (v.den,[])else match s with
   |some s=>some (v.den,[s])
   |none=>none:=by
   have:∀a:AV,a.ig=true->a≠.dead->eX ⟨s,⟨a,g1,g2⟩,rt.den⟩=if a.aK then some (a,[])else match s with
    |some s=>some (a,[s])
    |none=>none:=by
    intro a o c;cases a<;>first|rfl|exact aaF rfl c|simp[AV.ig]at o
   have f:=this v.den (by rw[nh];exact n) (by intro e;apply c;cases v<;>simp[SV.den]at e⊢);rw[cD]at f;exact f
  rw[hm];unfold V9 at hh
  grind
 cases v with
 |bw r a b p=>
  simp[aaV]at h;obtain⟨m,k,i,h⟩:=h;unfold eX;cases hn:k.aK with
  |true=>rw[hn]at h;cases h;have:=aJ i hc;simp[SR.den,Cl.den,SV.den]at this⊢;simp[this,cD,hn]
  |false=>
   rw[hn]at h;cases p with
   |cons _ _=>simp[wI]at h
   |nil=>obtain⟨rfl,rfl,rfl⟩:=h;have:=aJ i hc;simp[SR.den,Cl.den,SV.den]at this⊢;simp[this,cD,hn]
 |ptr=>cases h
 |dead=>cases h
 |gI g j=>cases h
 |_=>exact gen _ W I h
def lX:L SR->Q (L Pd×L SV×L Nat)
 |[]=>some ([],[],[])
 |x::xs=>(yr x).bind λ(ob,y,M)=>(lX xs).bind λ(a,ys,N)=>(iz<|M.all λm=>not'<|N.any<|Nat.beq m).bind λ_=>some (app ob a,y::ys,cat M N)
def px:∀{xs:L SR}{ob:L Pd}{ys:L SV}{M:L Nat},lX xs=some (ob,ys,M)->aj ob->gU (xs.map SR.den)=some (aB ys,M)
 |[],ob,ys,M,h,_=>by simp[lX]at h;obtain⟨-,rfl,rfl⟩:=h;rfl
 |x::xs,ob,ys,M,h,hc=>by simp only[lX,aaV,afh,bT]at h;obtain⟨f,y,n,i,e,c,N,g,_,b,rfl,rfl,rfl⟩:=h;obtain⟨k,j⟩:=aY.1 hc;simp only[acK,gU,qy i k,px g j,dj,aB];rw[aas];rw[acZ]at b⊢;intro m hm;have:=b m hm;rw[not_iff]at this;simp;intro a;rw[List.any_eq_false]at this;exact this m a I
def QY(tt:TT)(l:a7)(t:TypeId)(a x:SR):pF:=
 (Iw tt t).bind λti=>(Ft a).bind λ(ob,b)=>(iv b.v b.p).bind λ(e,f)=>(iz<|dt (ns ti f)<|ne' ti.size 0).bind λ_=>(yr x).bind λ(c,y,M)=>(iz<|ns ti y).bind λ_=>Nx (app (app ob e) c)<|N4 l b.r b.p M y
def Gb(hA:c8 P tt)(l:a7)(t:TypeId)(a x:SR):dF l (v7 P t a.den x.den) (QY tt l t a x):=by
 refine au _ λti p=>au _ λ⟨ob,g⟩o=>au _ λ⟨j,s⟩n=>bB λe=>au _ λ⟨i,y,M⟩m=>bB λk=>oE _ λhc=>?_;obtain⟨f,c3⟩:=aY.1 hc;obtain⟨r,q⟩:=aY.1 f;rw[aW,ne_iff]at e;have b:ti.den.size≠0:=e.2;have hm:v7 P t a.den x.den=some [.store g.r g.p M y.den]:=by unfold v7;simp[ey hA p,lC o r,cY n q,jL _ _ e.1,qy m c3,jL _ _ k];simpa using b
 rw[hm];intro ob u v he c;obtain⟨r1,h⟩:=N3 he c;exact⟨_,W,by simp[Mv.runs,r1],by simp[bp,Mv.keys,h]⟩
end
def LI{α c:Type}{g:α->Q c}:∀{l:L α}{r:L c},l.mapM g=some r->∀(i:Nat)(y:c),r[i]?=some y->∃x,l[i]?=some x/\g x=some y
 |[],r,h,i,y,a=>by cases h;cases a
 |x::l,r,h,i,y,a=>by
  simp[aaV]at h;obtain⟨b,j,bs,f,e⟩:=h;cases e;cases i with
  |zero=>cases a;simp_all
  |succ i=>simpa using LI f i y a
def mapM_map{α a c:Type}{g:α->Q a}{k:a->c}:∀{l:L α}{r:L a},l.mapM g=some r->l.mapM (λx=>(g x).map k)=some (r.map k)
 |[],r,h=>by cases h;simp
 |x::l,r,h=>by simp[aaV]at h;obtain⟨b,i,bs,f,e⟩:=h;cases e;simp only[List.mapM_cons,i,mapM_map (k:=k) f];rfl
def JJ(tt:TT)(t:TypeId)(f:Nat):Q (Nat×TypeId):=(GI tt t).bind λ|.struct b=>(nth b f).bind λ(o,a,_)=>some (o,a)|_=>none
def Ew{P:Program}{tt:TT}(hA:c8 P tt){t:TypeId}{f o c:Nat}(h:JJ tt t f=some (o,c)):p8 P t f=some (o,c):=by
 simp[JJ,aaV]at h;obtain⟨u,k,a⟩:=h;cases u<;>simp only[aaV,afh]at a<;>try(cases a;done)
 obtain⟨n,m,sz,a,j⟩:=a;cases j;obtain⟨p,i,g⟩:=mV hA k;rw[nJ]at a;obtain⟨x,b,e⟩:=LI g _ _ a;simp[p8,i];rw[af5]at b;rw[b];simp at e
 grind
def I4(tt:TT)(t:TypeId):Q (L<|Nat×Nat):=(GI tt t).bind λ|.struct a=>some (a.map λ(o,_,n)=>(o,n))|_=>none
def Sh{P:Program}{tt:TT}(hA:c8 P tt){t:TypeId}{b:L (Nat×Nat)}(h:I4 tt t=some b):placesOf P t=some b:=by
 simp[I4,aaV]at h;obtain⟨u,g,a⟩:=h;cases u<;>simp at a<;>try(cases a;done)
 subst a;obtain⟨i,e,c⟩:=mV hA g;simp[placesOf,e];have:=mapM_map (k:=λ(x:Nat×TypeId×Nat)=>(x.1,x.2.2)) c;rw[<-this]
 congr 1
 funext f
 cases P.info? f.type<;>rfl
def Xc(ti:zj)(o:Nat):Step:=match ti.agg with
 |true=>.at o (some ti.size)
 |false=>.at o none
def zb(ti:zj)(o:Nat):jP ti.den o=Xc ti o:=by unfold Xc zj.den;cases ti.agg<;>rfl
section
variable{P:Program}{tt:TT}(hA:c8 P tt)(l:a7)(d:Nat)
def xJ{m:Q (L Mv)}{ob:L Pd}{r g1 g2:Nat}{p:Path}(h:aj ob->m=some [.put d<|.ptr r g1 g2 p]):dF l m (dB ob l d<|.ptr r g1 g2 p):=cZ λhc=>by simpa[SV.den]using h hc
def Rr{m:Q (L Mv)}{ob:L Pd}{r g1 g2:Nat}{p:Path}(h:aj ob->m=some [.put d<|.bw r g1 g2 p]):dF l m (dB ob l d<|.bw r g1 g2 p):=cZ λhc=>by simpa[SV.den]using h hc
def BL(tt:TT)(l:a7)(d:Nat)(t:TypeId)(x:SR)(f:Nat):pF:=
 (JJ tt t f).bind λ(o,c)=>(Iw tt c).bind λti=>(Ft x).bind λ(ob,a)=>(iz<|dt (ne' a.r d)<|ne' ti.size 0).bind λ_=>match flat (a.p++[Xc ti o])with
   |true=>dB ob l d (.ptr a.r a.g1 a.g2<|a.p++[Xc ti o])
   |false=>(iv a.v<|a.p++[Xc ti o]).bind λ(b,_)=>dB (app ob b) l d<|.ptr a.r a.g1 a.g2<|a.p++[Xc ti o]
def yA(hA:c8 P tt)(l:a7)(d:Nat)(t:TypeId)(x:SR)(f:Nat):dF l (kM P d t x.den f) (BL tt l d t x f):=by
 refine au _ λ⟨o,q⟩h=>au _ λti g=>au _ λ⟨ob,p⟩e=>bB λb=>?_;rw[aW,ne_iff,ne_iff]at b;have a:ti.den.size≠0:=b.2;cases j:flat (p.p++[Xc ti o])with
 |true=>refine xJ _ _ λc=>?_;unfold kM;simp[Ew hA h,ey hA g,lC e c,b.1,a,zb,j]
 |false=>refine au _ λ⟨i,y⟩k=>xJ _ _ λc=>?_;obtain⟨n,m⟩:=aY.1 c;unfold kM;simp[Ew hA h,ey hA g,lC e n,b.1,a,zb,cY k m]
def Q1(tt:TT)(l:a7)(d:Nat)(t:TypeId)(x:SR)(f:Nat):pF:=(JJ tt t f).bind λ(o,b)=>(Iw tt b).bind λti=>(dq x).bind λ(ob,v)=>(iv v [Xc ti o]).bind λ(a,y)=>(iz y.aK).bind λ_=>dB (app ob a) l d y
def Ge(hA:c8 P tt)(l:a7)(d:Nat)(t:TypeId)(x:SR)(f:Nat):dF l (Al P d t x.den f) (Q1 tt l d t x f):=by refine au _ λ⟨o,m⟩i=>au _ λti h=>au _ λ⟨ob,v⟩g=>au _ λ⟨a,y⟩e=>bB λb=>cZ λc=>?_;obtain⟨k,j⟩:=aY.1 c;unfold Al;simp[Ew hA i,ey hA h,aJ g k,zb,cY e j,cD,b]
def uh:SV->Q (Nat×Nat)
 |.nil=>some (0,0)
 |.ints _ _ xs=>some (1,xs.length)
 |.strs _ xs=>some (1,xs.length)
 |.cR _ xs=>some (1,xs.length)
 |.bc _ sz _ _ xs=>some (sz,xs.length)
 |.row _ sz xs=>some (sz,len xs)
 |_=>none
def mC{y:SV}{sz n:Nat}(h:uh y=some (sz,n)):∃f X,y.den=.list f sz X/\X.length=n:=by
 cases y<;>try(cases h;done)
 all_goals(obtain⟨rfl,rfl⟩:=h;exact⟨_,_,W,by simp[bP,fk]⟩)
def RE:SV->Q (Nat×Nat×Nat×Path×Nat×Nat×Nat)
 |.bw r g1 g2 p=>match GG p with
  |some (q,sz,o,n)=>some (r,g1,g2,q,sz,o,n)
  |none=>none
 |_=>none
def OP:SV->Bool
 |.bw _ _ _ p=>lu p
 |_=>false
def RD{x:SR}(h:RE x.sl.v=none):x.den.nF=none:=by
 obtain⟨s,⟨v,g1,g2⟩,rt⟩:=x;unfold cx.nF;cases v<;>simp[SR.den,Cl.den,SV.den];simp[RE]at h
 grind
def RC{x:SR}{r g1 g2 sz o n c k:Nat}{q:Path}{ob:L Pd}{y:SV}(h:RE x.sl.v=some (r,g1,g2,q,sz,o,n))(i:x.rt.g1=g1)(m:OP x.sl.v=true\/x.rt.g2=g2)
 (j:iv x.rt.v q=some (ob,y))(hc:aj ob)(hl:uh y=some (c,k))(e:sz=c)(hn:0<n)(t:o+n<=k):x.den.nF=some (r,g1,x.rt.g2,q,sz,o,n):=by
 obtain⟨s,⟨v,a,b⟩,rt⟩:=x;obtain⟨f,X,p,u⟩:=mC hl;have g:=cY j hc;rw[p]at g;unfold cx.nF;cases v<;>simp[RE]at h<;>try(cases h)
 split at h<;>try(cases h;done)
 rename_i hu;cases h;simp[OP]at i m;simp only[SR.den,Cl.den,SV.den,hu,i,if_true,g];simp_all
def HQ(tt:TT)(l:a7)(d:Nat)(t:TypeId)(x i:SR):pF:=
 (dq i).bind λ(ob,v)=>match v with
   |.n _ n=>(slice? tt t).bind λe=>(Iw tt e).bind λti=>match RE x.sl.v with
    |some (r,g1,g2,q,sz,o,m)=>(iz<|dt (Nat.beq x.rt.g1 g1)<|Gr (OP x.sl.v)<|Nat.beq x.rt.g2 g2).bind λ_=>(iv x.rt.v q).bind λ(a,y)=>(uh y).bind λ(b,k)=>(iz<|dt (Nat.beq sz b)<|Nat.beq sz ti.size).bind λ_=>(iz<|ne' r d).bind λ_=>dB ((0<=n)::(n<m)::(0<m)::(o+m<=k)::app ob a) l d (.ptr r g1 x.rt.g2<|q++[.idx (o+n.toNat) sz])
    |none=>(dq x).bind λ(a,y)=>(uh y).bind λ(sz,k)=>(iz<|Nat.beq sz ti.size).bind λ_=>(zL x).bind λ(r,g1,g2,p)=>
    (iz<|ne' r d).bind λ_=>dB ((0<=n)::(n<k)::app ob a) l d (.ptr r g1 g2<|p++[.idx n.toNat sz])
   |_=>none
def Cj(hA:c8 P tt)(l:a7)(d:Nat)(t:TypeId)(x i:SR):dF l (il P d t x.den i.den) (HQ tt l d t x i):=by
 refine au _ λ⟨ob,v⟩J=>?_;cases v<;>try exact bJ
 rename_i k n;refine au _ λe H=>au _ λti F=>?_;cases b:RE x.sl.v with
 |some wp=>refine bB λj=>au _ λ⟨o,y⟩w=>au _ λ⟨K,T⟩u=>bB λh=>bB λs=>xJ _ _ λc=>?_;obtain⟨D,C,S,R,c⟩:=c;obtain⟨B,A⟩:=aY.1 c;rw[aW,sR,beq_iff,beq_iff]at j;rw[aW,beq_iff,beq_iff]at h;have M:=RC b j.1 j.2 w A u h.1 S R;have a:i.den.cont=some (.v<|.int k n):=aJ J B;have z:=h.2;unfold il;simp only[a,xq hA H,ey hA F,M];rw[aas ⟨z,D,C⟩];simp[ne_iff.1 s]
 |none=>
 have q:=RD b;refine au _ λ⟨o,y⟩j=>au _ λ⟨sz,m⟩w=>bB λu=>au _ λ⟨r,g1,g2,p⟩h=>bB λs=>xJ _ _ λc=>?_;obtain⟨D,C,c⟩:=c;obtain⟨B,A⟩:=aY.1 c;obtain⟨f,X,O,N⟩:=mC w;have z:=beq_iff.1 u;unfold il;have a:i.den.cont=some (.v<|.int k n):=aJ J B;have g:=aJ j A;rw[O]at g;simp only[a,xq hA H,ey hA F,q,g];rw[aas ⟨z,D,by rw[N];exact C⟩];simp[o7,h,ne_iff.1 s]
def EB(tt:TT)(l:a7)(d:Nat)(len:Nat)(e:TypeId)(x i:SR):pF:=
 (dq i).bind λ(ob,v)=>match v with
   |.n _ n=>(Iw tt e).bind λti=>(Ft x).bind λ(c,a)=>(iz<|ne' a.r d).bind λ_=>(iv a.v<|a.p++[Xc ti<|n.toNat*ti.size]).bind λ(b,_)=>dB ((0<=n)::(n<len)::app ob (app c b)) l d (.ptr a.r a.g1 a.g2<|a.p++[Xc ti<|n.toNat*ti.size])
   |_=>none
def Ar(hA:c8 P tt)(l:a7)(d:Nat)(t:TypeId){len:Nat}{e:TypeId}(hu:GI tt t=some (.array len e))(x i:SR):dF l (il P d t x.den i.den) (EB tt l d len e x i):=by
 refine au _ λ⟨ob,v⟩s=>?_;cases v<;>try exact bJ
 rename_i k n;refine au _ λti r=>au _ λ⟨h,A⟩q=>bB λp=>au _ λ⟨g,y⟩o=>xJ _ _ λc=>?_;obtain⟨z,w,c⟩:=c;obtain⟨u,f⟩:=aY.1 c;obtain⟨f,c3⟩:=aY.1 f;have a:i.den.cont=some (.v<|.int k n):=aJ s u;have m:P.underlying t=some (.array len e):=mV hA hu;unfold il;simp only[a,m,ey hA r,lC q f];have b:=ne_iff.1 p;have j:=cY o c3;have hs:ti.den.size=ti.size:=W;rw[aas ⟨z,w,b⟩];simp[zb,hs,j]
def ux(tt:TT)(l:a7)(d:Nat)(t:TypeId)(x i:SR):pF:=
 match GI tt t with
 |some (.array len e)=>EB tt l d len e x i
 |_=>HQ tt l d t x i
def yz(hA:c8 P tt)(l:a7)(d:Nat)(t:TypeId)(x i:SR):dF l (il P d t x.den i.den) (ux tt l d t x i):=by unfold ux;split;rename_i h;exact Ar hA l d t h x i;exact Cj hA l d t x i
def aco(x:cq)(i:Nat):(bs x)[i]?=x[i]?:=by by_cases h:i<x.length;rw[acL h];have a:=h;rw[getElem?_pos (bs x) i a];rfl;rw[aex E];have a:=h;rw[getElem?_neg (bs x) i a]
def Q0(tt:TT)(l:a7)(d:Nat)(t:TypeId)(x i:SR):pF:=
 (dq i).bind λ(ob,v)=>match v with
   |.n _ n=>(GI tt t).bind λu=>match u with
    |.str=>(dq x).bind λ(a,y)=>match y with
     |.s s=>dB ((0<=n)::(n<s.length)::app ob a) l d (.n .u8 (s.getD n.toNat 0).toNat)
     |_=>none
    |.array len e=>(Iw tt e).bind λti=>(dq x).bind λ(a,v)=>(iv v [Xc ti<|n.toNat*ti.size]).bind λ(b,y)=>(iz y.aK).bind λ_=>dB ((0<=n)::(n<len)::app ob (app a b)) l d y
    |_=>none
   |_=>none
def Gd(hA:c8 P tt)(l:a7)(d:Nat)(t:TypeId)(x i:SR):dF l (wJ P d t x.den i.den) (Q0 tt l d t x i):=by
 refine au _ λ⟨ob,v⟩q=>?_;cases v<;>try exact bJ
 rename_i k n;refine au _ λu p=>?_;cases u<;>try exact bJ
 case array len e=>refine au _ λti h=>au _ λ⟨f,v⟩C=>au _ λ⟨o,y⟩B=>bB λA=>cZ λc=>?_;obtain⟨m,r,c⟩:=c;obtain⟨j,b⟩:=aY.1 c;obtain⟨b,c3⟩:=aY.1 b;have a:i.den.cont=some (.v<|.int k n):=aJ q j;have z:P.underlying t=some (.array len e):=mV hA p;have hs:ti.den.size=ti.size:=W;unfold wJ;simp only[a,z,ey hA h,aJ C b];rw[aas ⟨m,r⟩];simp[zb,hs,cY B c3,cD,A]
 refine au _ λ⟨f,y⟩h=>?_;cases y<;>try exact bJ
 rename_i s;refine cZ λc=>?_;obtain⟨m,r,c⟩:=c;obtain⟨j,b⟩:=aY.1 c;have a:=aJ q j;have g:=aJ h b;have hu:P.underlying t=some .string:=mV hA p;have w:n.toNat<s.length:=E;unfold wJ;simp[a,hu,g,m,aco,SV.den];simp_all
def HR(l:a7)(d:Nat)(x:SR)(i:Nat):pF:=
 (dq x).bind λ(ob,v)=>match v with
   |.bU a=>(nth a i).bind λy=>match y.aK with
    |true=>dB ob l d y
    |false=>(zL x).bind λ(r,g1,g2,p)=>(iz<|dt (ne' r d)<|wI p).bind λ_=>dB ob l d (.bw r g1 g2 [.bU i])
   |_=>none
def Ck(x:SR)(i:Nat):dF l (py d x.den i) (HR l d x i):=by
 refine au _ λ⟨ob,v⟩f=>?_;cases v<;>try exact bJ
 rename_i b;refine au _ λy a=>?_;rw[nJ]at a;cases hn:y.aK with
 |true=>refine cZ λc=>?_;unfold py;have hc:x.den.cont=some (.bU<|aB b):=aJ f c;simp[hc,jm,a,cD,hn]
 |false=>
  refine au _ λ⟨r,g1,g2,p⟩h=>bB λe=>Rr _ _ λc=>?_;rw[aW,ne_iff]at e;have g:p=[]:=by cases p<;>simp_all[wI]
  subst g;unfold py;have hc:x.den.cont=some (.bU<|aB b):=aJ f c;simp[hc,jm,a,cD,hn,o7,h];simp[e.1]
def ab3(a:Int):Prop:= -(2^63)<=a/\a<=9223372036854775807
def qF{a:Int}(h:ab3 a):IntKind.i64.wrap a=a:=by obtain⟨c,b⟩:=h;exact IntWalk.i64_in a ⟨c,b⟩
def num(b:Bool)(k:IntKind)(a:Int):L Pd×SV:=match b,k with
 |false,.i64=>([-(2^63)<=a,a<=9223372036854775807],.n .i64 a)
 |_,k=>([],.n k<|k.wrap a)
def x9{b:Bool}{k:IntKind}{a:Int}(h:aj (num b k a).1):(num b k a).2.den=.v (.int k<|k.wrap a):=by unfold num at h⊢;split;simp[aj]at h;simp[SV.den,qF (a:=a) h];rfl
def aaH(tt:TT)(a:Bool)(l:a7)(d:Nat)(s t:TypeId)(x:SR):pF:=
 (GI tt s).bind λu=>(GI tt t).bind λc=>(dq x).bind λ(ob,v)=>match v with
   |.n _ n=>match u,c with
    |.int _,.int k=>match num a k n with
     |(b,y)=>dB (app ob b) l d y
    |_,_=>none
   |.s x=>match u,c with
    |.str,.str=>dB ob l d (.s x)
    |_,_=>none
   |_=>none
def Nc(hA:c8 P tt)(l:a7)(d:Nat)(a:Bool)(s t:TypeId)(x:SR):dF l (EY P d s t x.den) (aaH tt a l d s t x):=by
 refine au _ λu i=>au _ λf h=>au _ λ⟨ob,v⟩g=>?_;cases v<;>try exact bJ
 rename_i k n;cases u<;>try exact bJ
 cases f<;>try exact bJ
 rename_i k1 k2;have e:P.underlying s=some (.int k1):=mV hA i;have b:P.underlying t=some (.int k2):=mV hA h;simp only;refine cZ λc=>?_;obtain⟨m,j⟩:=aY.1 c;have hc:x.den.cont=some (.v<|.int k n):=aJ g m;simp[EY,e,b,hc,x9 j];rename_i y;cases u<;>try exact bJ
 cases f<;>try exact bJ
 have e:P.underlying s=some .string:=mV hA i;have b:P.underlying t=some .string:=mV hA h;refine cZ λc=>?_;have hc:=aJ g c;simp[EY,e,b,hc,SV.den]
end
def Ky(b:ByteArray):∀(n i:Nat)(r:L UInt8),b.size-i=n->ByteArray.toList.loop b i r=r.reverse++b.data.toList.drop i:=by
 intro n
 induction n with
 |zero=>intro i r h;unfold ByteArray.toList.loop;have:¬i<b.size:=E;rw[aaq this];simp_all
 |succ n a=>
  intro i r h;unfold ByteArray.toList.loop;have d:i<b.size:=E;rw[a (i+1) _ E];have c:=d;rw[acJ c];have:b.get! i=b.data.toList[i]:=by unfold ByteArray.get!;simp_all
  simp_all
def toList_data(b:ByteArray):b.toList=b.data.toList:=by unfold ByteArray.toList;rw[Ky b _ 0 [] W];simp
def Rq(x:cq):(bs x).toList=x:=by rw[toList_data];simp[bs]
def yU(x:cq):(bs x).size=x.length:=fQ
def Tx(x y:cq):bs (x++y)=bs x++bs y:=by rfl
def PG(x:cq)(l h:Nat):bs ((x.take h).drop l)=(bs x).extract l h:=by apply ByteArray.ext;simp[bs];rw[List.drop_take]
def abV(c:Bool)(op:BinOp)(k:IntKind)(a b:Int):Q (L Pd×SV):=
 match op with
 |.add=>some (num c k<|a+b)
 |.sub=>some (num c k<|a-b)
 |.mul=>some (num c k<|a*b)
 |.quo=>match c,k with
  |false,.i64=>some ([0<=a,a<=9223372036854775807,0<b],.n .i64<|a/b)
  |_,k=>some ([b≠0],.n k<|k.wrap<|a.tdiv b)
 |.rem=>match c with
  |false=>some ([0<=a,0<b],.n k<|a%b)
  |true=>some ([b≠0],.n k<|a.tmod b)
 |.and=>some ([],.n k<|k.wrap (BitVec.ofInt k.bits a&&&BitVec.ofInt k.bits b).toNat)
 |.or=>some ([],.n k<|k.wrap (BitVec.ofInt k.bits a|||BitVec.ofInt k.bits b).toNat)
 |.xor=>some ([],.n k<|k.wrap (BitVec.ofInt k.bits a^^^BitVec.ofInt k.bits b).toNat)
 |.andNot=>some ([],.n k<|k.wrap (BitVec.ofInt k.bits a&&& ~~~ BitVec.ofInt k.bits b).toNat)
 |.eql=>some ([],.u<|decide (a=b))
 |.neq=>some ([],.u<|decide (¬a=b))
 |.lss=>some ([],.u<|decide (a<b))
 |.leq=>some ([],.u<|decide (a<=b))
 |.gtr=>some ([],.u<|decide (b<a))
 |.geq=>some ([],.u<|decide (b<=a))
 |_=>none
def Ux(op:BinOp)(k:IntKind)(a b:Int):Q (L Pd×SV):=
 match op with
 |.shl=>some ([0<=b],.n k<|k.wrap<|a*2^min b.toNat k.bits)
 |.shr=>some ([0<=b],.n k<|a.fdiv<|2^min b.toNat k.bits)
 |_=>none
def ac7(op:BinOp)(a b:cq):Q (L Pd×SV):=
 match op with
 |.add=>some ([((a.length+b.length:Nat):Int)<=9223372036854775807],.s<|a++b)
 |.eql=>some ([],.u<|decide (a=b))
 |.neq=>some ([],.u<|decide (¬a=b))
 |.lss=>some ([],.u<|Op.bytesLess a b)
 |_=>none
def Ih(op:BinOp)(a b:Bool):Q (L Pd×SV):=
 match op with
 |.eql=>some ([],.u<|decide (a=b))
 |.neq=>some ([],.u<|decide (¬a=b))
 |_=>none
def isBool:Q Ty->Bool
 |some .bool=>true
 |_=>false
def QE:BinOp->Bool
 |.shl=>true
 |.shr=>true
 |_=>false
def asBool(op:BinOp)(b:Bool):Q SV:=
 match op with
 |.eql=>some (.b b)
 |.neq=>some (.b<|not' b)
 |_=>none
def Ur:SV->Q Pd
 |.ints _ _ xs=>some (xs≠[])
 |.strs _ xs=>some (xs≠[])
 |.cR _ xs=>some (xs≠[])
 |.bc _ _ _ _ xs=>some (xs≠[])
 |.row _ _ (_::_)=>some True
 |_=>none
def abJ(tt:TT)(op:BinOp)(t:TypeId)(x y:SV):Q (L Pd×SV):=
 match y with
 |.nil=>match GI tt t with
  |some (.slice _)=>match x with
   |.nil=>match asBool op true with
    |some z=>some ([],z)
    |none=>none
   |.eI _ a=>match op with
    |.eql=>some ([],.u<|decide (a=[]))
    |.neq=>some ([],.u<|decide (a≠[]))
    |_=>none
   |x=>match Ur x with
    |some p=>match asBool op false with
     |some z=>some ([p],z)
     |none=>none
    |none=>none
  |_=>none
 |.c (.pointer none)=>match GI tt t with
  |some .ptr=>match x with
   |.box _ _=>match asBool op false with
    |some z=>some ([],z)
    |none=>none
   |.c (.pointer none)=>match asBool op true with
    |some z=>some ([],z)
    |none=>none
   |_=>none
  |_=>none
 |.c .nilFunc=>match GI tt t with
  |some .func=>match x with
   |.fn _ _ _=>match asBool op false with
    |some z=>some ([],z)
    |none=>none
   |.c .nilFunc=>match asBool op true with
    |some z=>some ([],z)
    |none=>none
   |_=>none
  |_=>none
 |_=>none
def acu(tt:TT)(c:Bool)(op:BinOp)(t:TypeId)(x y:SV):Q (L Pd×SV):=
 match x,y with
 |.n k a,.n d b=>match QE op with
  |true=>Ux op k a b
  |false=>match uj k d with
   |true=>abV c op k a b
   |false=>none
 |.s a,.s b=>ac7 op a b
 |.b a,.b b=>match isBool (GI tt t)with
  |true=>Ih op a b
  |false=>none
 |.u a,.b b=>match isBool (GI tt t)with
  |true=>Ih op a b
  |false=>none
 |.b a,.u b=>match isBool (GI tt t)with
  |true=>Ih op a b
  |false=>none
 |.u a,.u b=>match isBool (GI tt t)with
  |true=>Ih op a b
  |false=>none
 |x,y=>abJ tt op t x y
section
variable{P:Program}{tt:TT}(hA:c8 P tt)
def VT{d:Bool}{op:BinOp}{k:IntKind}{a b:Int}{ob:L Pd}{y:SV}(t:TypeId)(hs:QE op=false)(h:abV d op k a b=some (ob,y))(hc:aj ob):
 nA P op t (.v<|.int k a) (.v<|.int k b)=some y.den:=by
 have key:∃v,zB P op t (.int k a) (.int k b)=some v/\AV.v v=y.den:=by
  unfold zB;cases op<;>simp only[abV,aaP]at h hs⊢ <;>try(cases h;done)
  case add=>obtain⟨rfl,rfl⟩:=ahd h;exact⟨_,aas U,(x9 hc).symm⟩
  case sub=>obtain⟨rfl,rfl⟩:=ahd h;exact⟨_,aas U,(x9 hc).symm⟩
  case mul=>obtain⟨rfl,rfl⟩:=ahd h;exact⟨_,aas U,(x9 hc).symm⟩
  case quo=>split at h;cases h;obtain⟨c,l,c3,-⟩:=hc;have f:b≠0:=E;have e:a.tdiv b=a/b:=ahe c;have i:0<=a/b:=agN c E;have g:a/b<=a:=Int.ediv_le_self _ c;have j:IntKind.i64.wrap (a/b)=a/b:=qF ⟨E,E⟩;refine⟨.int .i64<|a/b,?_,W⟩;simp[f,e,j];cases h;exact⟨_,by simp[hc.1],W⟩
  case rem=>split at h;cases h;obtain⟨c,l,-⟩:=hc;have f:b≠0:=E;have e:a.tmod b=a%b:=Int.tmod_eq_emod_of_nonneg c;exact⟨.int k<|a%b,by simp[f,e],W⟩;cases h;exact⟨_,by simp[hc.1],W⟩
  all_goals
   obtain⟨rfl,rfl⟩:=ahd h
   first
    |rfl
    |(simp only[SV.den,bne];by_cases e:a=b<;>simp[e])
 obtain⟨v,i,g⟩:=key;simp[nA,i,g]
def Oc{op:BinOp}{k c:IntKind}{a b:Int}{ob:L Pd}{y:SV}(t:TypeId)(h:Ux op k a b=some (ob,y))(hc:aj ob):
 nA P op t (.v<|.int k a) (.v<|.int c b)=some y.den:=by
 cases op<;>try(cases h;done)
 all_goals
  cases h;simp[aj]at hc;have:¬b<0:=E;simp[nA,zB,this,SV.den]
def Um{op:BinOp}{a b:cq}{ob:L Pd}{y:SV}(t:TypeId)(h:ac7 op a b=some (ob,y))(hc:aj ob):
 nA P op t (.v<|.string<|bs a) (.v<|.string<|bs b)=some y.den:=by
 cases op<;>try(cases h;done)
 all_goals
  cases h
 case add=>
  simp[aj]at hc;have:¬(((bs a).size+(bs b).size:Nat):Int)>IntKind.i64.max:=by rw[yU,yU];simp_all
  simp only[nA,zB,this,if_false,SV.den,Tx]
 case lss=>simp[nA,zB,SV.den,Rq]
 all_goals
  simp[nA,zB,SV.den,Rq]
  grind
def TA{op:BinOp}{a b:Bool}{ob:L Pd}{y:SV}{t:TypeId}(hu:P.underlying t=some .bool)(h:Ih op a b=some (ob,y)):
 nA P op t (.v<|.bool a) (.v<|.bool b)=some y.den:=by
 cases op<;>try(cases h;done)
 all_goals
  cases h;cases a<;>simp[nA,zB,hu,SV.den]
def mI{op:BinOp}{b:Bool}{z:SV}(h:asBool op b=some z):OH op (some b)=some z.den:=by
 cases op<;>try(cases h;done)
 all_goals
  cases h;cases b<;>rfl
def aay(o:Bool):fl o≠.nil:=by cases o<;>simp[fl]
def RU{x:SV}{p:Pd}(h:Ur x=some p)(b:p.p):∃f sz X,x.den=.list f sz X/\f≠.nil/\X.isEmpty=false:=by
 cases x<;>simp[Ur]at h<;>try(cases h;done)
 case row o sz a=>
  cases a with
  |nil=>cases h
  |cons x a=>exact⟨_,_,_,W,aay _,W⟩
 all_goals
  subst h;refine⟨_,_,_,W,aay _,?_⟩;simpa using b
def Vk(hA:c8 P tt){op:BinOp}{t:TypeId}{x y z:SV}{ob:L Pd}(h:abJ tt op t x y=some (ob,z))(hc:aj ob):nA P op t x.den y.den=some z.den:=by
 unfold abJ at h;split at h<;>try(cases h;done)
 ·split at h<;>try(cases h;done)
  rename_i e hu;have hu:P.underlying t=some (.slice e):=mV hA hu;split at h
  ·split at h<;>try(cases h;done)
   rename_i g d;cases h;have:=mI d;simpa[nA,isNil,SV.den,hu]using this
  ·rename_i j;cases op<;>simp[aaP,acQ]at h<;>try(cases h;done)
   all_goals
    obtain⟨-,rfl⟩:=h;cases j<;>simp[nA,isNil,SV.den,flm,szm,hu,OH]
  split at h<;>try(cases h;done)
  rename_i p k;split at h<;>try(cases h;done)
  rename_i g d;cases h;simp[aj,aag]at hc;have:=mI d;obtain⟨f,sz,X,m,l,i⟩:=RU k hc;rw[m];cases f with
  |nil=>exact aaF W l
  |shr=>simpa[nA,isNil,SV.den,hu,i]using this
  |own=>simpa[nA,isNil,SV.den,hu,i]using this
 ·split at h<;>try(cases h;done)
  rename_i hu;obtain⟨e,hu⟩:∃e,P.underlying t=some (.pointer e):=mV hA hu;split at h<;>try(cases h;done)
  ·split at h<;>try(cases h;done)
   rename_i g d;cases h;have:=mI d;simpa[nA,isNil,SV.den,hu]using this
  split at h<;>try(cases h;done)
  rename_i g d;cases h;have:=mI d;simpa[nA,zB,isNil,SV.den,hu]using this
 split at h<;>try(cases h;done)
 rename_i hu;obtain⟨a,b,c,hu⟩:∃a b c,P.underlying t=some (.func a b c):=mV hA hu;split at h<;>try(cases h;done)
 ·split at h<;>try(cases h;done)
  rename_i g d;cases h;have:=mI d;simpa[nA,isNil,SV.den,hu]using this
 split at h<;>try(cases h;done)
 rename_i g d;cases h;have:=mI d;simpa[nA,zB,isNil,SV.den,hu]using this
def W4(hA:c8 P tt){d:Bool}{op:BinOp}{t:TypeId}{x y z:SV}{ob:L Pd}(h:acu tt d op t x y=some (ob,z))(hc:aj ob):nA P op t x.den y.den=some z.den:=by
 have c:∀a b:Bool,(match isBool (GI tt t)with
  |true=>Ih op a b
  |false=>none)=some (ob,z)->nA P op t (.v<|.bool a) (.v<|.bool b)=some z.den:=by
  intro a b h;split at h<;>try(cases h)
  rename_i e;have hu:P.underlying t=some .bool:=by unfold isBool at e;split at e;rename_i hu;exact mV hA hu;cases e
  exact TA hu h
 unfold acu at h;split at h;split at h;exact Oc t h hc;rename_i hs;split at h<;>try(cases h)
 rename_i f;have:=oA f;subst this;exact VT t hs h hc;exact Um t h hc;exact c _ _ h;exact c _ _ h;exact c _ _ h;exact c _ _ h;exact Vk hA h hc
def aaY(a:Bool)(op:UnOp)(x:SV):Q (L Pd×SV):=
 match op,x with
 |.neg,.n k n=>some (num a k<|0-n)
 |.xor,.n k n=>some ([],.n k<|k.wrap (BitVec.ofInt k.bits (if k.signed then -1 else k.max)^^^BitVec.ofInt k.bits n).toNat)
 |.not,.b b=>some ([],.b<|not' b)
 |.not,.u b=>some ([],.u<|!b)
 |_,_=>none
def T9{a:Bool}{op:UnOp}{x y:SV}{ob:L Pd}(h:aaY a op x=some (ob,y))(hc:aj ob):∃v w,x.den=.v v/\uno op v=some w/\y.den=.v w:=by
 unfold aaY at h;split at h<;>try(cases h;done)
 simp only[aaP]at h;obtain⟨rfl,rfl⟩:=ahd h;exact⟨_,_,W,W,x9 hc⟩;cases h;exact⟨_,_,W,W,W⟩;cases h;rename_i b;refine⟨_,_,W,W,?_⟩;cases b<;>rfl;cases h;exact⟨_,_,W,W,W⟩
def aaE(tt:TT)(c:Bool)(l:a7)(d:Nat)(op:BinOp)(t:TypeId)(x y:SR):pF:=(dq x).bind λ(ob,a)=>(dq y).bind λ(f,b)=>(acu tt c op t a b).bind λ(e,z)=>dB (app e<|app ob f) l d z
def MN(hA:c8 P tt)(e:Bool)(l:a7)(d:Nat)(op:BinOp)(t:TypeId)(x y:SR):dF l (ZW P d op t x.den.cont y.den.cont) (aaE tt e l d op t x y):=by refine au _ λ⟨ob,a⟩k=>au _ λ⟨h,b⟩j=>au _ λ⟨g,z⟩i=>cZ λc=>?_;obtain⟨c3,f⟩:=aY.1 c;obtain⟨n,m⟩:=aY.1 f;simp[ZW,aJ k n,aJ j m,W4 hA i c3]
def ad3(b:Bool)(l:a7)(d:Nat)(op:UnOp)(x:SR):pF:=(dq x).bind λ(ob,a)=>(aaY b op a).bind λ(c,z)=>dB (app c ob) l d z
def Pb(b:Bool)(l:a7)(d:Nat)(op:UnOp)(x:SR):dF l (un1 d op x.den.cont) (ad3 b l d op x):=by refine au _ λ⟨ob,a⟩g=>au _ λ⟨e,z⟩f=>cZ λc=>?_;obtain⟨k,m⟩:=aY.1 c;obtain⟨v,w,j,i,h⟩:=T9 f k;have:=aJ g m;rw[j]at this;simp[un1,this,i,h]
def Wo(l:a7)(d:Nat)(c x y:SR):pF:=
 (dq c).bind λ(ob,a)=>match a with
   |.b true=>Nx ob (wQ l d x)
   |.b false=>Nx ob (wQ l d y)
   |_=>none
def JN(l:a7)(d:Nat)(c x y:SR):dF l (aal d c.den.cont x.den y.den) (Wo l d c x y):=by
 refine au _ λ⟨ob,a⟩f=>?_;cases a<;>try exact bJ
 rename_i b;cases b;refine oE _ λe=>?_;have:=aJ f e;simp[this];exact jU l d y;refine oE _ λe=>?_;have:=aJ f e;simp[this];exact jU l d x
end
section
variable{P:Program}{tt:TT}(hA:c8 P tt)(l:a7)(d:Nat)
def Wq(l:a7)(d:Nat)(u:Ty)(ob:L Pd)(v:SV):pF:=(uh v).bind λ(_,n)=>match u with
 |.slice _=>dB ob l d (.n .i64 n)
 |_=>none
def aaC(tt:TT)(l:a7)(d:Nat)(t:TypeId)(x:SR):pF:=
 (dq x).bind λ(ob,v)=>(GI tt t).bind λu=>match v with
   |.s s=>match u with
    |.str=>dB ob l d (.n .i64 s.length)
    |_=>none
   |v=>Wq l d u ob v
def ML(hA:c8 P tt)(l:a7)(d:Nat)(t:TypeId)(b:L TypeId)(x:SR):dF l (lG P d .len (t::b) [x.den]) (aaC tt l d t x):=by
 refine au _ λ⟨ob,v⟩a=>au _ λu g=>?_;have gen:∀v,dq x=some (ob,v)->dF l (lG P d .len (t::b) [x.den]) (Wq l d u ob v):=by
  intro v a;refine au _ λ⟨sz,n⟩h=>?_;cases u<;>try exact bJ
  rename_i e;refine cZ λc=>?_;obtain⟨f,X,j,i⟩:=mC h;have hc:=aJ a c;rw[j]at hc;have hu:P.underlying t=some (.slice e):=mV hA g;simp[lG,hc,hu,i,SV.den]
 cases v with
 |s s=>
  cases u<;>try exact bJ
  refine cZ λc=>?_;have hc:=aJ a c;have hu:P.underlying t=some .string:=mV hA g;simp[lG,hc,hu,yU,SV.den]
 |_=>exact gen _ a
def vr(op:Bool)(a b:Int):Int:=match op with
 |true=>min a b
 |false=>max a b
def Wp(op:Bool)(l:a7)(d:Nat)(x y:SR):pF:=
 (dq x).bind λ(ob,a)=>(dq y).bind λ(c,b)=>match a,b with
   |.n k a,.n e b=>(iz<|uj k e).bind λ_=>dB (app ob c) l d (.n k<|vr op a b)
   |_,_=>none
def BJ(op:Bool)(e:L TypeId)(x y:SR):dF l (lG P d (if op then .min else .max) e [x.den,y.den]) (Wp op l d x y):=by
 refine au _ λ⟨ob,a⟩i=>au _ λ⟨f,b⟩h=>?_;cases a<;>try exact bJ
 cases b<;>try exact bJ
 refine bB λg=>cZ λc=>?_;have:=oA g;subst this;obtain⟨n,m⟩:=aY.1 c;have k:=aJ i n;have j:=aJ h m;cases op
 all_goals simp[lG,k,j,SV.den,vr]
def Ph(ti:zj):SV->Q (L Pd×Bool)
 |.ints .. =>(iz<|dt (not' ti.agg)<|Nat.beq ti.size 1).bind λ_=>some ([],true)
 |.strs .. =>(iz<|dt (not' ti.agg)<|Nat.beq ti.size 1).bind λ_=>some ([],true)
 |.cR .. =>(iz<|dt (not' ti.agg)<|Nat.beq ti.size 1).bind λ_=>some ([],true)
 |.row _ sz xs=>(iz<|dt (Nat.beq sz ti.size)<|xs.all<|ns ti).bind λ_=>some ([],ij xs)
 |.bc _ sz _ e _=>(iz<|Nat.beq sz ti.size).bind λ_=>some ([.of<|∀x,ns ti (e x)=true,.of<|∀x,(e x).aK=true],true)
 |_=>none
def mA:SV->Bool
 |.ints _ o _=>o
 |.strs o _=>o
 |.cR o _=>o
 |.row o _ _=>o
 |.bc o _ _ _ _=>o
 |_=>false
def oz{xs:L AV}(h:∀x∈xs,x.aK=true):bR xs=true:=by
 induction xs with
 |nil=>rfl
 |cons x xs a=>simp[bR];simp_all
def Pf{ti:zj}{y:SV}{ob:L Pd}{g:Bool}(h:Ph ti y=some (ob,g))(hc:aj ob):
 ∃X,y.den=.list (fl<|mA y) ti.size X/\X.all (fits ti.den)=true/\bR X=g:=by
 unfold Ph at h;cases y<;>simp only[aaV,bT,aW,not_iff,beq_iff]at h<;>try(cases h;done)
 case row o sz f=>obtain⟨_,⟨rfl,c⟩,rfl,rfl⟩:=h;refine⟨aB f,W,?_,eH f⟩;rw[acZ]at c⊢;intro x a;rw[cJ]at a;obtain⟨y,b,rfl⟩:=abS.1 a;exact jL ti y<|c y b
 case bc o sz m n e f=>obtain⟨_,rfl,rfl,rfl⟩:=h;obtain⟨k,j,-⟩:=hc;refine⟨_,W,?_,oz ?_⟩;rw[acZ];intro x a;obtain⟨y,b,rfl⟩:=abS.1 a;exact jL ti _<|k y;intro x a;obtain⟨y,b,rfl⟩:=abS.1 a;rw[cD];exact j y
 all_goals
  obtain⟨_,⟨i,c⟩,rfl,rfl⟩:=h;refine⟨_,by rw[c];rfl,?_,oz ?_⟩;rw[acZ];intro x a;obtain⟨y,b,rfl⟩:=abS.1 a;simp[fits,zj.den,i,c,AV.cell];intro x a;obtain⟨y,b,rfl⟩:=abS.1 a;rfl
def ZR:SV->SV->Q (L Pd×SV)
 |.nil,.ints k _ ys=>some ([ys≠[]],.ints k true ys)
 |.nil,.strs _ ys=>some ([ys≠[]],.strs true ys)
 |.nil,.cR _ ys=>some ([ys≠[]],.cR true ys)
 |.nil,.bc _ sz d e ys=>some ([ys≠[]],.bc true sz d e ys)
 |.nil,.row _ sz (y::ys)=>some ([],.row true sz<|y::ys)
 |.ints k true xs,.ints b _ ys=>(iz<|uj k b).bind λ_=>some ([],.ints k true<|xs++ys)
 |.strs true xs,.strs _ ys=>some ([],.strs true<|xs++ys)
 |.cR true xs,.cR _ ys=>some ([],.cR true<|xs++ys)
 |.row true sz xs,.row _ _ ys=>some ([],.row true sz<|cat xs ys)
 |.row true sz [],.ints k _ ys=>(iz<|Nat.beq sz 1).bind λ_=>some ([],.ints k true ys)
 |.row true sz [],.strs _ ys=>(iz<|Nat.beq sz 1).bind λ_=>some ([],.strs true ys)
 |.row true sz [],.cR _ ys=>(iz<|Nat.beq sz 1).bind λ_=>some ([],.cR true ys)
 |.row true sz [],.bc _ a d e ys=>(iz<|Nat.beq sz a).bind λ_=>some ([],.bc true a d e ys)
 |.row true sz (x::xs),.bc _ _ _ e ys=>some ([],.row true sz<|cat (x::xs)<|ys.map e)
 |.bc true sz _ e xs,.row _ _ ys=>some ([],.row true sz<|cat (xs.map e) ys)
 |.bc true sz _ e xs,.bc _ _ _ e' ys=>some ([],.row true sz<|cat (xs.map e)<|ys.map e')
 |_,_=>none
def W0{a b z:SV}{ob:L Pd}{f:Fl}{sz:Nat}{Y:L AV}(h:ZR a b=some (ob,z))(hc:aj ob)(c:b.den=.list f sz Y):
 (a=.nil/\Y.isEmpty=false/\z.den=.list .own sz Y)\/(a≠.nil/\∃e X,a.den=.list .own e X/\z.den=.list .own e (X++Y)):=by
 unfold ZR at h;split at h
 all_goals try(cases h;done)
 all_goals obtain⟨rfl,rfl,rfl⟩:=c
 all_goals simp only[aaV,bT,aaP]at h
 obtain⟨rfl,rfl⟩:=h;left;refine⟨W,?_,W⟩;simpa[aj]using hc;obtain⟨rfl,rfl⟩:=h;left;refine⟨W,?_,W⟩;simpa[aj]using hc;obtain⟨rfl,rfl⟩:=h;left;refine⟨W,?_,W⟩;simpa[aj]using hc;obtain⟨rfl,rfl⟩:=h;left;refine⟨W,?_,W⟩;simpa[aj]using hc;obtain⟨rfl,rfl⟩:=h;left;exact lO;obtain⟨_,g,rfl,rfl⟩:=h;have:=oA g;subst this;right;exact⟨I,_,_,W,by simp[SV.den,fl]⟩;obtain⟨rfl,rfl⟩:=h;right;exact⟨I,_,_,W,by simp[SV.den,fl]⟩;obtain⟨rfl,rfl⟩:=h;right;exact⟨I,_,_,W,by simp[SV.den,fl]⟩;obtain⟨rfl,rfl⟩:=h;right;exact⟨I,_,_,W,by simp[SV.den,fl,dj,cJ]⟩;obtain⟨_,c,rfl,rfl⟩:=h;rw[beq_iff]at c;subst c;right;exact⟨I,_,_,W,by simp[SV.den,fl,aB]⟩;obtain⟨_,c,rfl,rfl⟩:=h;rw[beq_iff]at c;subst c;right;exact⟨I,_,_,W,by simp[SV.den,fl,aB]⟩;obtain⟨_,c,rfl,rfl⟩:=h;rw[beq_iff]at c;subst c;right;exact⟨I,_,_,W,by simp[SV.den,fl,aB]⟩;obtain⟨_,c,rfl,rfl⟩:=h;rw[beq_iff]at c;subst c;right;exact⟨I,_,_,W,by simp[SV.den,fl,aB]⟩;obtain⟨rfl,rfl⟩:=h;right;exact⟨I,_,_,W,by simp[SV.den,fl,dj,cJ]⟩;obtain⟨rfl,rfl⟩:=h;right;exact⟨I,_,_,W,by simp[SV.den,fl,dj,cJ]⟩;obtain⟨rfl,rfl⟩:=h;right;exact⟨I,_,_,W,by simp[SV.den,fl,dj,cJ];rfl⟩
def Fs(a:L Nat)(d:Nat)(x:cx)(ti:TI)(ys:L AV):Q (L Mv):=
 match x.cont with
 |some (.list .nil _ _)=>if(ys.length*ti.bytes)<=140737488355328/\ys.length<=maxLen then
   some [.make a d<|if ys.isEmpty then .list .nil 0 []else .list .own ti.size ys]else none
 |some (.list .own c b)=>if c=ti.size/\(b.length+ys.length)*ti.bytes<=140737488355328/\b.length+ys.length<=maxLen then
   match x.sl.av with
   |.bw r _ _ p=>if r∈a then none else some [.take r d p,.make (d::a) d<|.list .own ti.size<|b++ys]
   |_=>match x.s with
    |some s=>if s∈a then none else some [.make (s::a) d<|.list .own ti.size<|b++ys]
    |none=>none
  else none
 |_=>none
def Kc{P:Program}{d:Nat}{t e:TypeId}{x y:cx}{ti:TI}{f:Fl}{sz:Nat}{ys:L AV}{h:L Nat}(p:dO P t=some e)(o:ct P e=some ti)(n:ti.size≠0)
 (m:y.cont=some (.list f sz ys))(g:(bR ys=true/\h=[])\/(bR ys=false/\f=.own/\(∃a b c,y.sl.av=.list a b c)/\∃s,y.s=some s/\h=[s]))
 (i:((ys.isEmpty||(sz==ti.size&&ys.all (fits ti)))&& !h.contains d)=true):ma P d t x y=Fs h d x ti ys:=by
 unfold ma;simp only[p,o,n,m];rcases g with⟨g,rfl⟩|⟨g,rfl,⟨a,b,c,k⟩,s,j,rfl⟩;simp only[g,if_true,i];rfl;simp only[g,agq,if_false,k,j,i];rfl
def myS(a:Bool)(y:SR):Q (L Nat):=match a with
 |true=>some []
 |false=>match y.sl.v with
  |.row true _ _=>match y.s with
   |some s=>some [s]
   |none=>none
  |_=>none
def Jk(d:Nat)(M:L Nat):Bool:=M.any<|Nat.beq d
def mem_iff{d:Nat}{M:L Nat}:Jk d M=true↔d∈M:=by unfold Jk;simp
def Wr(l:a7)(d:Nat)(x:SR)(a:SV)(b:L Nat)(ob:L Pd)(z:SV):pF:=
 match a with
 |.nil=>pd ob l b d z
 |_=>match x.sl.v with
  |.bw r _ _ p=>(iz<|not'<|Jk r b).bind λ_=>(GL l r d p).bind λ(c,_,f)=>nk f (d::b) d z λe=>some (app ob c,e,cat [r,d]<|d::d::b)
  |_=>match x.s with
   |some s=>(iz<|not'<|Jk s b).bind λ_=>pd ob l (s::b) d z
   |none=>none
def oD(tt:TT)(l:a7)(d:Nat)(t:TypeId)(x y:SR)(j:SV->SV->Q (L Pd×SV)):pF:=
 (slice? tt t).bind λe=>(Iw tt e).bind λti=>(dq x).bind λ(ob,a)=>(dq y).bind λ(h,b)=>match ti with
   |⟨g,n,bytes,zero⟩=>(iz<|dt (ne' n 0)<|ne' bytes 0).bind λ_=>(Ph ⟨g,n,bytes,zero⟩ b).bind λ(f,k)=>(myS k y).bind λi=>(iz<|not'<|Jk d i).bind λ_=>
    (j a b).bind λ(c,z)=>(uh a).bind λ(sz,k1)=>(uh b).bind λ(_,k2)=>(iz<|Gr (D5 a)<|Nat.beq sz n).bind λ_=>Wr l d x a i (((k1+k2)*bytes<=140737488355328)::app ob (app h<|app f c)) z
 where D5:SV->Bool
  |.nil=>true
  |_=>false
def D4{a:SV}:oD.D5 a=true↔a=.nil:=by cases a<;>simp[oD.D5]
def Cm(hA:c8 P tt)(l:a7)(d:Nat)(t:TypeId)(x y:SR)(z?:SV->SV->Q (L Pd×SV))
 (hz:∀a b ob z f sz Y,z? a b=some (ob,z)->aj ob->b.den=.list f sz Y->(a=.nil/\Y.isEmpty=false/\z.den=.list .own sz Y)\/(a≠.nil/\∃i X,a.den=.list .own i X/\z.den=.list .own i (X++Y))):
 dF l (ma P d t x.den y.den) (oD tt l d t x y z?):=by
 refine au _ λe h1=>au _ λti h2=>au _ λ⟨ob,a⟩h3=>au _ λ⟨D,b⟩h4=>?_;obtain⟨g,n,bytes,zero⟩:=ti;refine bB λZ=>au _ λ⟨C,no⟩h6=>au _ λk o=>bB λh8=>au _ λ⟨v,z⟩h9=>au _ λ⟨sz,k1⟩u=>au _ λ⟨F1,k2⟩E1=>bB λB0=>?_;rw[aW,ne_iff,ne_iff]at Z;have R:d∉k:=by intro hm;rw[mem_iff.2 hm]at h8;cases h8
 have H:=ey hA h2;have base:aj (((k1+k2)*bytes<=140737488355328)::app ob (app D<|app C v))->
  (a=.nil/\ma P d t x.den y.den=some [.make k d z.den])\/
  (a≠.nil/\ma P d t x.den y.den=match x.den.sl.av with
    |.bw r _ _ p=>if r∈k then none else some [.take r d p,.make (d::k) d z.den]
    |_=>match x.den.s with
     |some s=>if s∈k then none else some [.make (s::k) d z.den]
     |none=>none):=by
  intro c;obtain⟨cb,c⟩:=c;obtain⟨c1,c⟩:=aY.1 c;obtain⟨c2,c⟩:=aY.1 c;obtain⟨c3,c4⟩:=aY.1 c;obtain⟨Y,e1,e2,e3⟩:=Pf h6 c3;have hx:=aJ h3 c1;have hy:=aJ h4 c2;rw[e1]at hy;have M:Y.length=k2:=by obtain⟨f,X,q1,q2⟩:=mC E1;simp_all
  have V:(bR Y=true/\k=[])\/(bR Y=false/\fl (mA b)=.own/\(∃a b c,y.den.sl.av=.list a b c)/\∃s,y.den.s=some s/\k=[s]):=by
   rw[e3];unfold myS at o;cases no with
   |true=>simp_all
   |false=>
    right;simp only at o;split at o<;>try(cases o;done)
    rename_i i rs B;split at o<;>try(cases o;done)
    rename_i s hs;simp[aaP]at o;have hb:b=.row true i rs:=by unfold dq at h4;simp_all
    subst hb;have T:y.den.sl.av=.list .own i (aB rs):=by show y.sl.v.den=.list .own i (aB rs);rw[B];rfl
    exact⟨W,W,⟨_,_,_,T⟩,s,hs,o.symm⟩
  have m:0<bytes:=afF Z.2;have E2:k1+k2<=maxLen:=by have:(k1+k2)*1<=(k1+k2)*bytes:=aey _ m;unfold maxLen;omega
  have S:(!k.contains d)=true:=by simpa using R
  have q:((Y.isEmpty||(({agg:=g,size:=n,bytes:=bytes,zero:=zero}:zj).size==(zj.den ⟨g,n,bytes,zero⟩).size&&Y.all (fits<|zj.den ⟨g,n,bytes,zero⟩)))&& !k.contains d)=true:=by rw[S,e2];simp[zj.den]
  have K:(zj.den ⟨g,n,bytes,zero⟩).size≠0:=Z.1;have G2:(zj.den ⟨g,n,bytes,zero⟩).bytes=bytes:=W;rw[Kc (nV hA h1) H K hy V q];unfold Fs;rw[hx];rcases hz a b v z _ _ _ h9 c4 e1 with⟨rfl,z1,z2⟩|⟨z0,i,X,z1,z2⟩;left;refine⟨W,?_⟩;simp[uh,aaP,acQ]at u;have O:k1=0:=u.2.symm;subst O;simp only[SV.den]
  grind
  right;refine⟨z0,?_⟩;rw[z1,z2];have N:X.length=k1/\i=sz:=by obtain⟨f,X',q1,q2⟩:=mC u;simp_all
  have F4:sz=n:=by rw[sR,beq_iff,D4]at B0;simp_all
  have F0:(zj.den ⟨g,n,bytes,zero⟩).size=n:=W;simp_all
 unfold Wr;split;refine lz λc=>?_;simp_all;rename_i A;split;rename_i r g1 g2 p B;refine bB λj=>?_;rw[not_iff]at j;have J:r∉k:=by intro hm;rw[mem_iff.2 hm]at j;cases j
 refine au _ λ⟨F3,y4,l4⟩A0=>?_;intro F2 lx ks he hc;simp[iG,aaP,acQ]at he;obtain⟨rfl,rfl,rfl⟩:=he;obtain⟨ca,cb⟩:=aY.1 hc;rcases base ca with⟨h,-⟩|⟨-,h⟩;exact aaF h A;have w:x.den.sl.av=.bw r g1 g2 p:=by show x.sl.v.den=_;rw[B];rfl
 rw[w]at h;simp[J,if_false]at h;refine⟨_,h,?_,by simp[bp,Mv.keys,cat]⟩;simp[Mv.runs];rw[GK A0 cb];simp[Mv.run,gQ];rename_i B;split;rename_i s hs;refine bB λj=>lz λc=>?_;rw[not_iff]at j;have G0:s∉k:=by intro hm;rw[mem_iff.2 hm]at j;cases j
 rcases base c with⟨h,-⟩|⟨-,h⟩;exact aaF h A;have w:∀r g1 g2 p,x.den.sl.av≠.bw r g1 g2 p:=by
  intro r g1 g2 p hh;have:x.sl.v.den=.bw r g1 g2 p:=hh;cases F:x.sl.v<;>rw[F]at this<;>simp[SV.den]at this
  grind
 have G1:x.den.s=some s:=hs;simp_all;exact bJ
end
section
variable{P:Program}{tt:TT}(hA:c8 P tt)(l:a7)(d:Nat)
def qB(x:Q SR)(a:Nat):Q (L Pd×Nat):=match x with
 |none=>some ([],a)
 |some x=>(dq x).bind λ(ob,v)=>match v with
  |.n _ n=>some ((0<=n)::ob,n.toNat)
  |_=>none
def fc{x:Q SR}{b n:Nat}{ob:L Pd}(h:qB x b=some (ob,n))(hc:aj ob):od (x.map SR.den) b=some n:=by
 cases x with
 |none=>simp[qB]at h;simp[od,h.2]
 |some x=>
  simp[qB,aaV]at h;obtain⟨e,v,f,c⟩:=h;cases v<;>try(cases c;done)
  rename_i k a;obtain⟨rfl,rfl⟩:=c;have:x.den.cont=some (.v<|.int k a):=aJ f hc.2;simp[od,this,hc.1]
def EW(lo hi:Nat):SV->Q SV
 |.ints k _ xs=>some (.ints k false<|(xs.drop lo).take<|hi-lo)
 |.strs _ xs=>some (.strs false<|(xs.drop lo).take<|hi-lo)
 |.cR _ xs=>some (.cR false<|(xs.drop lo).take<|hi-lo)
 |.bc false sz d e xs=>some (.bc false sz d e<|(xs.drop lo).take<|hi-lo)
 |.bc true sz d e xs=>some (.bc false sz d (λx=>(e x).cC)<|(xs.drop lo).take<|hi-lo)
 |.row false sz xs=>some (.row false sz<|Uf (Wy xs lo)<|hi-lo)
 |.row true sz xs=>some (.row false sz<|jz<|Uf (Wy xs lo)<|hi-lo)
 |_=>none
def GJ:∀xs:L SV,jz xs=xs.map SV.cC
 |[]=>rfl
 |x::xs=>by simp[jz,GJ xs]
def Nb{y z:SV}{lo hi:Nat}(h:EW lo hi y=some z):∃sz X,y.den=.list (fl<|mA y) sz X/\z.den=.list .shr sz (((if mA y then iZ X else X).drop lo).take<|hi-lo):=by
 cases y with
 |ints k o a=>simp[EW]at h;subst h;cases o<;>exact⟨_,_,W,by simp[SV.den,fl,iY,AV.cC]⟩
 |strs o a=>simp[EW]at h;subst h;cases o<;>exact⟨_,_,W,by simp[SV.den,fl,iY,AV.cC]⟩
 |cR o a=>simp[EW]at h;subst h;cases o<;>exact⟨_,_,W,by simp[SV.den,fl,iY,AV.cC]⟩
 |bc o sz b e a=>cases o;simp[EW]at h;subst h;exact⟨_,_,W,by simp[SV.den,fl,mA,agM]⟩;simp[EW]at h;subst h;exact⟨_,_,W,by simp[SV.den,fl,mA,iY,gP]⟩
 |row o sz a=>cases o;simp[EW]at h;subst h;exact⟨_,_,W,by simp[SV.den,fl,mA,cJ,vY,wT,agM]⟩;simp[EW]at h;subst h;exact⟨_,_,W,by rw[SV.den,fl,mA,jy,cJ,cJ,vY,wT];simp[GJ]⟩
 |_=>simp[EW]at h
def MK(l:a7)(d:Nat)(ti:zj)(x:SR)(y:SV)(ob:L Pd)(lo hi mx:Nat):pF:=
 match oD.D5 y with
 |true=>dB ((lo<=hi)::(hi<=mx)::(mx<=0)::ob) l d .nil
 |false=>(uh y).bind λ(sz,n)=>(iz<|Nat.beq sz ti.size).bind λ_=>(EW lo hi y).bind λz=>match mA y with
  |false=>dB ((lo<=hi)::(hi<=mx)::(mx<=n)::ob) l d z
  |true=>(zL x).bind λ(r,_,_,p)=>(iz<|ne' r d).bind λ_=>(tE l r p).bind λ(a,c)=>Lc c d z λb=>some ((lo<=hi)::(hi<=mx)::(mx<=n)::app ob a,b,[r,d])
def QZ(tt:TT)(l:a7)(d:Nat)(t:TypeId)(x:SR)(lo hi mx:Q SR):pF:=
 (GI tt t).bind λu=>(dq x).bind λ(ob,v)=>match u with
   |.str=>match v with
    |.s s=>match mx with
     |none=>(qB lo 0).bind λ(f,a)=>(qB hi s.length).bind λ(c,b)=>dB ((a<=b)::(b<=s.length)::app ob (app f c)) l d (.s<|(s.take b).drop a)
     |some _=>none
    |_=>none
   |.slice e=>(Iw tt e).bind λti=>(uh v).bind λ(_,n)=>(qB lo 0).bind λ(f,a)=>(qB hi n).bind λ(c,b)=>(qB mx b).bind λ(g,m)=>MK l d ti x v (app ob<|app f<|app c g) a b m
   |_=>none
def Gc(hA:c8 P tt)(l:a7)(d:Nat)(t:TypeId)(x:SR)(lo hi mx:Q SR):dF l (rQ P d t x.den (lo.map SR.den) (hi.map SR.den)<|mx.map SR.den) (QZ tt l d t x lo hi mx):=by
 refine au _ λu h1=>au _ λ⟨ob,v⟩F=>?_;have hu:=mV hA h1;cases u<;>try exact bJ
 cases v<;>try exact bJ
 rename_i s;cases mx with
 |some _=>exact bJ
 |none=>refine au _ λ⟨i,a⟩D=>au _ λ⟨h,b⟩q=>cZ λc=>?_;obtain⟨k1,k2,c⟩:=c;obtain⟨y,c⟩:=aY.1 c;obtain⟨w,c3⟩:=aY.1 c;have hc:x.den.cont=some (.v<|.string<|bs s):=aJ F y;have hu:P.underlying t=some .string:=hu;have g:=fc q c3;rw[<-yU]at g;unfold rQ;simp only[hu,hc,Option.map_none,fc D w,g];rw[aas ⟨k1,by rw[yU];exact k2⟩,SV.den,PG]
 ·rename_i e;refine au _ λti D=>au _ λ⟨sz,n⟩q=>au _ λ⟨i,a⟩Y=>au _ λ⟨h,b⟩V=>au _ λ⟨B,m⟩T=>?_;have hu:P.underlying t=some (.slice e):=hu;have j:=ey hA D;obtain⟨f,X,e1,Z⟩:=mC q;unfold MK;cases o:oD.D5 v
  rotate_left
  have:=D4.1 o;subst this;refine cZ λc=>?_;obtain⟨k1,k2,k3,c⟩:=c;obtain⟨N,c⟩:=aY.1 c;obtain⟨y,c⟩:=aY.1 c;obtain⟨w,c3⟩:=aY.1 c;obtain⟨rfl,rfl⟩:=q;have hc:x.den.cont=some (.list .nil 0 []):=aJ F N;unfold rQ;simp only[hu,j,hc,acC,fc Y y,fc V w,fc T c3];rw[aas ⟨k1,k2,k3⟩];rfl;refine au _ λ⟨B0,n'⟩S=>?_;rw[q]at S;cases S;refine bB λh9=>au _ λz M=>?_;have k:sz=ti.den.size:=beq_iff.1 h9;obtain⟨A0,X2,O,A⟩:=Nb M;rw[e1]at O;obtain⟨rfl,rfl,rfl⟩:=O;have base:aj (app ob<|app i<|app h B)->a<=b->b<=m->m<=n->rQ P d t x.den (lo.map SR.den) (hi.map SR.den) (mx.map SR.den)=match mA v with
   |false=>some [.put d<|.list .shr sz<|(X.drop a).take<|b-a]
   |true=>match x.den.place with
    |some (r,_,_,p)=>if r=d then none else some [.share r p,.put d<|.list .shr sz<|((iZ X).drop a).take<|b-a]
    |none=>none:=by
   intro c k1 k2 k3;obtain⟨N,c⟩:=aY.1 c;obtain⟨y,c⟩:=aY.1 c;obtain⟨w,c3⟩:=aY.1 c;have hc:=aJ F N;rw[e1]at hc;have g:=fc V w;rw[<-Z]at g;unfold rQ;simp[hu,j,hc,fc Y y,g,fc T c3];rw[aas ⟨k1,k2,by rw[Z];exact k3⟩];cases R:mA v;simp only[fl];rw[aas k];simp[fl];rw[aas k];rfl
  cases R:mA v with
  |false=>refine cZ λc=>?_;obtain⟨k1,k2,k3,c⟩:=c;simp_all
  |true=>refine au _ λ⟨r,g1,g2,p⟩K=>bB λJ=>au _ λ⟨E2,l'⟩H=>?_;intro E1 lx ks he C;simp[rZ,aaP,acQ]at he;obtain⟨rfl,rfl,rfl⟩:=he;obtain⟨k1,k2,k3,c⟩:=C;obtain⟨c,cs⟩:=aY.1 c;have g:=base c k1 k2 k3;rw[R]at g A;simp[o7,K,ne_iff.1 J,if_false]at g;simp[if_true]at A;refine⟨_,g,?_,W⟩;simp[Mv.runs];rw[mr H cs];simp[Mv.run];rw[<-A,lR]
def Q3(tt:TT)(l:a7)(d:Nat)(t:TypeId):pF:=(Iw tt t).bind λti=>match ti with|⟨_,_,_,z⟩=>pd [] l [] d<|.box true z
def Gg(hA:c8 P tt)(l:a7)(d:Nat)(t:TypeId):dF l (match ct P t with|some ti=>some [.make [] d<|.box true ti.zero]|none=>none) (Q3 tt l d t):=by refine au _ λti h=>?_;refine lz λ_=>?_;rw[ey hA h];rfl
def aaD(tt:TT)(l:a7)(d:Nat)(t:TypeId)(x:SR):pF:=(Iw tt t).bind λti=>(yr x).bind λ(ob,y,M)=>(iz<|ns ti y).bind λ_=>pd ob l M d<|.box true y
def MM(hA:c8 P tt)(l:a7)(d:Nat)(t:TypeId)(x:SR):dF l (match ct P t with|some ti=>Zk d (eX x.den) λy=>if fits ti y then some (.box true y)else none|none=>none) (aaD tt l d t x):=by refine au _ λti e=>au _ λ⟨ob,y,M⟩b=>bB λa=>lz λc=>?_;rw[ey hA e];simp[qy b c,Zk,jL _ _ a,SV.den]
def xz(k:IntKind):L SV->Q (L Int)
 |[]=>some []
 |.n b a::r=>(iz<|uj k b).bind λ_=>(xz k r).bind λasx=>some (a::asx)
 |_::_=>none
def Bh{k:IntKind}:∀{xs:L SV}{asx:L Int},xz k xs=some asx->aB xs=asx.map λa=>.v (.int k a)
 |[],asx,h=>by simp[xz]at h;subst h;rfl
 |x::r,asx,h=>by
  cases x<;>simp only[xz,aaV,bT,aaP]at h<;>try(cases h;done)
  obtain⟨_,b,e,c,rfl⟩:=h;have:=oA b;subst this;simp[aB,SV.den,Bh c]
def xy:L SV->Q (L cq)
 |[]=>some []
 |.s a::r=>(xy r).bind λasx=>some (a::asx)
 |_::_=>none
def Bg:∀{xs:L SV}{asx:L cq},xy xs=some asx->aB xs=asx.map λa=>.v (.string<|bs a)
 |[],asx,h=>by simp[xy]at h;subst h;rfl
 |x::r,asx,h=>by
  cases x<;>simp[xy,aaV]at h<;>try(cases h;done)
  obtain⟨c,b,rfl⟩:=h;simp[aB,SV.den,Bg b]
def oU:L SV->Q (L Bool)
 |[]=>some []
 |.b a::r=>(oU r).bind λasx=>some (a::asx)
 |.u a::r=>(oU r).bind λasx=>some (a::asx)
 |_::_=>none
def rT:∀{xs:L SV}{asx:L Bool},oU xs=some asx->aB xs=asx.map λa=>.v (.bool a)
 |[],asx,h=>by simp[oU]at h;subst h;rfl
 |x::r,asx,h=>by
  cases x<;>simp[oU,aaV]at h<;>try(cases h;done)
  all_goals
   obtain⟨c,b,rfl⟩:=h;simp[aB,SV.den,rT b]
def Vv(sz:Nat)(xs:L SV):Q SV:=match xs with
 |.n k a::r=>(iz<|Nat.beq sz 1).bind λ_=>(xz k<|.n k a::r).bind λasx=>some (.ints k true asx)
 |.s a::r=>(iz<|Nat.beq sz 1).bind λ_=>(xy<|.s a::r).bind λasx=>some (.strs true asx)
 |.b a::r=>(iz<|Nat.beq sz 1).bind λ_=>(oU<|.b a::r).bind λasx=>some (.cR true asx)
 |.u a::r=>(iz<|Nat.beq sz 1).bind λ_=>(oU<|.u a::r).bind λasx=>some (.cR true asx)
 |xs=>some<|.row true sz xs
def SF{sz:Nat}{xs:L SV}{y:SV}(h:Vv sz xs=some y):y.den=.list .own sz (aB xs):=by unfold Vv at h;split at h;simp only[aaV,bT,beq_iff,aaP]at h;obtain⟨_,rfl,asx,a,rfl⟩:=h;rw[Bh a];rfl;simp only[aaV,bT,beq_iff,aaP]at h;obtain⟨_,rfl,asx,a,rfl⟩:=h;rw[Bg a];rfl;simp only[aaV,bT,beq_iff,aaP]at h;obtain⟨_,rfl,asx,a,rfl⟩:=h;rw[rT a];rfl;simp only[aaV,bT,beq_iff,aaP]at h;obtain⟨_,rfl,asx,a,rfl⟩:=h;rw[rT a];rfl;cases h;rfl
def idxs:L (Nat×Operand)->Nat->Bool
 |[],_=>true
 |(i,_)::r,k=>match Nat.beq i k with
  |true=>idxs r (k+1)
  |false=>false
def QK:∀{a:L (Nat×Operand)}{k:Nat},idxs a k=true->a.map (·.1)=List.range' k a.length
 |[],_,_=>rfl
 |(i,x)::r,k,h=>by simp[idxs]at h;split at h;rename_i b;have:=ac2 b;subst this;simp[List.range'_succ,QK h];cases h
def rU(l:a7):L (Nat×Operand)->Q (L SR)
 |[]=>some []
 |(_,x)::r=>(eB l x).bind λy=>(rU l r).bind λys=>some<|y::ys
def wk:∀{a:L (Nat×Operand)}{xs:L SR},rU l a=some xs->a.map (λp=>resolve (dn l) p.2)=xs.map SR.den
 |[],xs,h=>by simp[rU]at h;subst h;rfl
 |(i,x)::r,xs,h=>by simp[rU,aaV]at h;obtain⟨y,c,ys,b,rfl⟩:=h;simp[cS c,wk b]
def jR(l:a7):L Operand->Q (L SR)
 |[]=>some []
 |x::r=>(eB l x).bind λy=>(jR l r).bind λys=>some<|y::ys
def fg:∀{a:L Operand}{xs:L SR},jR l a=some xs->a.map (resolve<|dn l)=xs.map SR.den
 |[],xs,h=>by simp[jR]at h;subst h;rfl
 |x::r,xs,h=>by simp[jR,aaV]at h;obtain⟨y,c,ys,b,rfl⟩:=h;simp[cS c,fg b]
def yB(tt:TT)(l:a7)(d:Nat)(t:TypeId)(n:Nat)(a:L (Nat×Operand)):pF:=
 (slice? tt t).bind λe=>(Iw tt e).bind λti=>(rU l a).bind λc=>(lX c).bind λ(ob,b,M)=>(iz<|dt (dt (idxs a 0)<|Nat.beq n<|len a)<|dt (b.all<|ns ti)<|Nat.ble (n*ti.size) 16777216).bind λ_=>(iz<|Nat.ble n 16777216).bind λ_=>(Vv ti.size b).bind λy=>pd ob l M d y
def wR(hA:c8 P tt)(l:a7)(d:Nat)(t:TypeId)(n:Nat)(b:Array (Nat×Operand)):dF l (match dO P t with
 |some e=>match ct P e with
  |some ti=>match gU (b.toList.map λp=>resolve (dn l) p.2)with
   |some (ys,M)=>if(b.toList.map (·.1)=List.range n)/\(ys.all<|fits ti)/\n*ti.size<=2^24/\n<=maxLen then some [.make M d<|.list .own ti.size ys]else none
   |none=>none
  |none=>none
 |none=>none) (yB tt l d t n b.toList):=by
 refine au _ λe r=>au _ λti q=>au _ λw o=>au _ λ⟨ob,ys,M⟩m=>bB λg=>bB λk=>au _ λy j=>lz λc=>?_;simp only[aW,beq_iff,fk]at g;obtain⟨⟨v,u⟩,h,s⟩:=g;have hi:=QK v;simp only[nV hA r,ey hA q,wk l o,px m c];have a:(aB ys).all (fits ti.den)=true:=by rw[acZ]at h⊢;intro x f;rw[cJ]at f;obtain⟨y,i,rfl⟩:=abS.1 f;exact jL ti y<|h y i
 have hn:n<=maxLen:=by have:=acR k;unfold maxLen;omega
 rw[aas ⟨by rw[hi,u,List.range_eq_range'],a,acR s,hn⟩,SF j];rfl
def IE(cs:L SV)(o n:Nat)(y:SV):Q (L SV):=
 (iz<|Nat.ble (o+n)<|len cs).bind λ_=>match y with
   |.agg a=>(iz<|Nat.beq (len a) n).bind λ_=>some (cat (Uf cs o)<|cat a<|Wy cs<|o+n)
   |y=>(iz<|dt (Nat.beq n 1) y.cell).bind λ_=>some<|put cs o y
def KJ{cs zs:L SV}{o n:Nat}{y:SV}(h:IE cs o n y=some zs):C8 (aB cs) o n y.den=some (aB zs):=by
 simp only[IE,aaV,bT]at h;obtain⟨_,a,h⟩:=h;have a:=acR a;rw[fk]at a;unfold C8;rw[aas<|by rw[bP];exact a];cases y with
 |agg e=>simp only[aaV,bT,beq_iff,fk,aaP]at h;obtain⟨_,b,rfl⟩:=h;simp[SV.den,b,dj,vY,wT,cJ,acx]
 |_=>
  simp only[aaV,bT,aW,beq_iff,aaP]at h;obtain⟨_,⟨b,c⟩,rfl⟩:=h
  first
   |(simp[b,put_eq,yF];rfl)
   |(simp[SV.cell]at c)
def Eu(a:L (Nat×Nat)):L SV->L (Nat×Operand)->L SV->Q (L SV)
 |cs,[],_=>some cs
 |cs,(i,_)::r,y::ys=>(nth a i).bind λ(o,n)=>(IE cs o n y).bind λcs=>Eu a cs r ys
 |_,_,_=>none
def Et{b:L (Nat×Nat)}:∀{a:L (Nat×Operand)}{cs ys zs:L SV},ys.length=a.length->Eu b cs a ys=some zs->uq b (aB cs) ((a.map (·.1)).zip<|aB ys)=some (aB zs)
 |[],cs,ys,zs,hl,h=>by simp[Eu]at h;subst h;rfl
 |(i,x)::r,cs,[],zs,hl,h=>by cases hl
 |(i,x)::r,cs,y::ys,zs,hl,h=>by simp[Eu,aaV]at h;obtain⟨o,n,c,cs',f,e⟩:=h;rw[nJ]at c;simp[aB,uq,c,KJ f];exact Et (by simpa using hl) e
def Q2(tt:TT)(l:a7)(d:Nat)(t:TypeId)(a:L (Nat×Operand)):pF:=
 (Iw tt t).bind λti=>match ti with
   |⟨_,_,_,z⟩=>match z with
    |.agg z=>(I4 tt t).bind λe=>(rU l a).bind λc=>(lX c).bind λ(ob,b,M)=>(Eu e z a b).bind λf=>pd ob l M d (.agg f)
    |_=>none
def sZ:∀{xs:L SR}{ob:L Pd}{ys:L SV}{M:L Nat},lX xs=some (ob,ys,M)->ys.length=xs.length
 |[],ob,ys,M,h=>by simp[lX]at h;simp[<-h.2.1]
 |x::xs,ob,ys,M,h=>by simp[lX,aaV]at h;obtain⟨c,y,i,g,b,a,N,e,_,f,rfl,rfl,rfl⟩:=h;simp[sZ e]
def vE:∀{a:L (Nat×Operand)}{xs:L SR},rU l a=some xs->xs.length=a.length
 |[],xs,h=>by simp[rU]at h;subst h;rfl
 |(i,x)::r,xs,h=>by simp[rU,aaV]at h;obtain⟨y,c,ys,b,rfl⟩:=h;simp[vE b]
def Gf(hA:c8 P tt)(l:a7)(d:Nat)(t:TypeId)(e:Array (Nat×Operand)):dF l (match ct P t with
 |some ti=>match ti.zero with
  |.agg z=>match placesOf P t with
   |some f=>match gU (e.toList.map λp=>resolve (dn l) p.2)with
    |some (ys,M)=>match uq f z ((e.toList.map (·.1)).zip ys)with
     |some cs=>some [.make M d<|.agg cs]
     |none=>none
    |none=>none
   |none=>none
  |_=>none
 |none=>none) (Q2 tt l d t e.toList):=by
 refine au _ λti m=>?_;obtain⟨a,b,c,z⟩:=ti;cases z<;>try exact bJ
 rename_i z;refine au _ λf k=>au _ λn h=>au _ λ⟨ob,ys,M⟩g=>au _ λcs j=>lz λc=>?_;have i:(zj.den ⟨a,b,‹_›,.agg z⟩).zero=.agg (aB z):=W;simp[ey hA m,i,Sh hA k,wk l h,px g c,Et (by rw[sZ g,vE l h]) j,SV.den]
def NO(sz:Nat)(z:SV)(n:Nat):Q SV:=match z with
 |.n k a=>(iz<|Nat.beq sz 1).bind λ_=>some (.ints k true<|List.replicate n a)
 |.s a=>(iz<|Nat.beq sz 1).bind λ_=>some (.strs true<|List.replicate n a)
 |.b a=>(iz<|Nat.beq sz 1).bind λ_=>some (.cR true<|List.replicate n a)
 |z=>some<|.row true sz<|List.replicate n z
def NN{sz n:Nat}{z y:SV}(h:NO sz z n=some y):y.den=.list .own sz (List.replicate n z.den):=by unfold NO at h;split at h;simp only[aaV,bT,beq_iff,aaP]at h;obtain⟨_,rfl,rfl⟩:=h;simp[SV.den,fl];simp only[aaV,bT,beq_iff,aaP]at h;obtain⟨_,rfl,rfl⟩:=h;simp[SV.den,fl];simp only[aaV,bT,beq_iff,aaP]at h;obtain⟨_,rfl,rfl⟩:=h;simp[SV.den,fl];cases h;simp[SV.den,fl,cJ]
def BK(tt:TT)(l:a7)(d:Nat)(t:TypeId)(x y:SR):pF:=
 (slice? tt t).bind λe=>(Iw tt e).bind λti=>match ti with
   |⟨_,sz,bytes,z⟩=>(dq x).bind λ(ob,a)=>(dq y).bind λ(c,b)=>match a,b with
    |.n _ a,.n _ b=>(iz<|ne' sz 0).bind λ_=>(NO sz z a.toNat).bind λr=>pd ((0<=a)::(a<=b)::(b*bytes<=140737488355328)::(b<=9223372036854775807)::app ob c) l [] d r
    |_,_=>none
def yx(hA:c8 P tt)(l:a7)(d:Nat)(t:TypeId)(x y:SR):dF l (m1 (match dO P t with
 |some e=>match ct P e with
  |some ti=>match x.den.cont,y.den.cont with
   |some (.v<|.int _ a),some (.v<|.int _ b)=>if 0<=a/\a<=b/\b*ti.bytes<=140737488355328/\b<=maxLen/\0<ti.size then
     some ([.make [] d<|.list .own ti.size<|List.replicate a.toNat ti.zero],[])else none
   |_,_=>none
  |none=>none
 |none=>none)) (BK tt l d t x y):=by
 refine au _ λe p=>au _ λti o=>?_;refine au _ λ⟨ob,a⟩n=>au _ λ⟨g,b⟩m=>?_;cases a<;>try exact bJ
 cases b<;>try exact bJ
 rename_i k a h b;refine bB λj=>au _ λr i=>lz λc=>?_;obtain⟨C,B,A,z,c⟩:=c;obtain⟨w,u⟩:=aY.1 c;have s:x.den.cont=some (.v<|.int k a):=aJ n w;have q:y.den.cont=some (.v<|.int h b):=aJ m u;have f:((maxLen:Nat):Int)=9223372036854775807:=fV;simp only[nV hA p,ey hA o,s,q];rw[aas ⟨C,B,A,by rw[f];exact z,afF<|ne_iff.1 j⟩,NN i];rfl
def VS:SV->Bool
 |.ptr .. =>true
 |_=>false
def wP(l:a7)(d:Nat)(x:SR):pF:=match VS x.sl.v with
 |true=>(Ft x).bind λ(ob,_)=>Nx ob (wQ l d x)
 |false=>(dq x).bind λ(ob,v)=>match v with
  |.box _ _=>Nx ob (wQ l d x)
  |.fn (.func _) _ _=>Nx ob (wQ l d x)
  |_=>none
def Ap(x:SR):dF l (m1 (match x.den.cont with
 |some (.box _ _)=>gS (dD d x.den)
 |some (.fn (.func _) _ _)=>gS (dD d x.den)
 |_=>match x.den.sl.av with
  |.ptr .. =>match x.den.addr with
   |some _=>gS (dD d x.den)
   |none=>none
  |_=>none)) (wP l d x):=by
 unfold wP;cases i:VS x.sl.v;refine au _ λ⟨ob,v⟩g=>?_;cases v<;>try exact bJ
 refine oE _ λc=>?_;rename_i o y;have:x.den.cont=some (.box o y.den):=aJ g c;simp[this];exact jU l d x;rename_i f a b;cases f<;>try exact bJ
 refine oE _ λc=>?_;have:x.den.cont=some (.fn (.func _) (aB a)<|aB b):=aJ g c;simp[this];exact jU l d x;refine au _ λ⟨ob,j⟩g=>oE _ λc=>?_;obtain⟨r,g1,g2,p,h⟩:∃r g1 g2 p,x.sl.v=.ptr r g1 g2 p:=by cases h:x.sl.v<;>rw[h]at i<;>simp[VS]at i;simp_all
 have e:x.den.sl.av=.ptr r g1 g2 p:=by show x.sl.v.den=_;rw[h];rfl
 have hc:x.den.cont=none:=by unfold cx.cont;rw[e]
 simp[hc,e,lC g c];exact jU l d x
def wH:L SR->Q (L Pd×L SV)
 |[]=>some ([],[])
 |x::xs=>(dq x).bind λ(ob,y)=>(wH xs).bind λ(a,ys)=>some (app ob a,y.cC::ys)
def sA:∀{xs:L SR}{ob:L Pd}{ys:L SV},wH xs=some (ob,ys)->aj ob->iH (xs.map SR.den)=some (aB ys)
 |[],ob,ys,h,_=>by simp[wH]at h;obtain⟨-,rfl⟩:=h;rfl
 |x::xs,ob,ys,h,hc=>by simp[wH,aaV]at h;obtain⟨c,y,f,b,a,e,rfl,rfl⟩:=h;obtain⟨i,g⟩:=aY.1 hc;simp[iH,Y1,aJ f i,sA e g,aB,gP]
def uP:L SR->Q (L Pd×L (Nat×Path))
 |[]=>some ([],[])
 |x::xs=>(dq x).bind λ(ob,y)=>(uP xs).bind λ(a,b)=>match y.aK with
  |true=>some (app ob a,b)
  |false=>(zL x).bind λ(r,_,_,p)=>some (app ob a,(r,p)::b)
def pN:∀{xs:L SR}{ob:L Pd}{b:L (Nat×Path)},uP xs=some (ob,b)->aj ob->shares (xs.map SR.den)=b.map λm=>.share m.1 m.2
 |[],ob,b,h,_=>by simp[uP]at h;obtain⟨-,rfl⟩:=h;rfl
 |x::xs,ob,b,h,hc=>by
  simp[uP,aaV]at h;obtain⟨j,y,g,i,k,f,a⟩:=h;cases hn:y.aK with
  |true=>rw[hn]at a;cases a;obtain⟨e,c⟩:=aY.1 hc;simp[shares,aJ g e,cD,hn];exact pN f c
  |false=>rw[hn]at a;simp[aaV]at a;obtain⟨r,g1,g2,p,n,rfl,rfl⟩:=a;obtain⟨e,c⟩:=aY.1 hc;simp[shares,aJ g e,cD,hn,o7,n,pN f c]
def EA(l:a7)(d:Nat)(f:Fn)(a b:L Operand):pF:=
 (jR l a).bind λh=>(jR l b).bind λg=>(wH h).bind λ(ob,asx)=>(wH g).bind λ(e,j)=>(uP<|h++g).bind λ(c,i)=>match i with
   |[]=>dB (app ob<|app e c) l d (.fn f asx j)
   |_=>none
def Aq(f:Fn)(a b:Array Operand):dF l (m1 (match iH (a.toList.map<|resolve<|dn l),iH (b.toList.map<|resolve<|dn l)with
 |some q,some c=>if(shares<|a.toList.map (resolve<|dn l)++b.toList.map (resolve<|dn l)).isEmpty then some ([.put d<|.fn f q c],[])else none
 |_,_=>none)) (EA l d f a.toList b.toList):=by
 refine au _ λs n=>au _ λr m=>au _ λ⟨ob,asx⟩k=>au _ λ⟨g,t⟩j=>au _ λ⟨e,h⟩i=>?_;cases h<;>try exact bJ
 refine cZ λc=>?_;obtain⟨p,c⟩:=aY.1 c;obtain⟨o,c3⟩:=aY.1 c;have hs:=pN i c3;rw[acB]at hs;simp[fg l n,fg l m,sA k p,sA j o,hs];rfl
end
def ev(tt:TT)(e:L Nat)(l:a7)(h:Q Nat)(op:Op):pF:=
 match h with
 |none=>match op with
  |.store t a x=>(eB l a).bind λa=>(eB l x).bind λx=>QY tt l t a x
  |_=>none
 |some d=>match op with
  |.move x=>(eB l x).bind λx=>wQ l d x
  |.assign x=>(eB l x).bind λx=>ED l d x
  |.load t x=>(eB l x).bind λx=>Pc tt l d t x
  |.fieldAddr t x f=>(eB l x).bind λx=>BL tt l d t x f
  |.field t x f=>(eB l x).bind λx=>Q1 tt l d t x f
  |.indexAddr t x i=>(eB l x).bind λx=>(eB l i).bind λi=>ux tt l d t x i
  |.index t x i=>(eB l x).bind λx=>(eB l i).bind λi=>Q0 tt l d t x i
  |.extract x i=>(eB l x).bind λx=>HR l d x i
  |.convert s t x=>(eB l x).bind λx=>aaH tt (Jk d e) l d s t x
  |.slice t x a b c=>(eB l x).bind λx=>(I8 l a).bind λa=>(I8 l b).bind λb=>(I8 l c).bind λc=>QZ tt l d t x a b c
  |.binOp op t x y _=>(eB l x).bind λx=>(eB l y).bind λy=>aaE tt (Jk d e) l d op t x y
  |.unOp op _ x=>(eB l x).bind λx=>ad3 (Jk d e) l d op x
  |.pick c x y=>(eB l c).bind λc=>(eB l x).bind λx=>(eB l y).bind λy=>Wo l d c x y
  |.alloc t=>Q3 tt l d t
  |.box t x=>(eB l x).bind λx=>aaD tt l d t x
  |.build t g=>Q2 tt l d t g.toList
  |.buildSlice t n g=>yB tt l d t n g.toList
  |.makeSlice t x y=>(eB l x).bind λx=>(eB l y).bind λy=>BK tt l d t x y
  |.nilCheck x=>(eB l x).bind λx=>wP l d x
  |.makeFunc f a b=>EA l d f a.toList b.toList
  |.call ⟨.builtin b,asx,j⟩=>match b,j.toList,asx.toList with
   |.len,t::_,[x]=>(eB l x).bind λx=>aaC tt l d t x
   |.append,[t,m],[x,y]=>(slice? tt m).bind λ_=>(eB l x).bind λx=>(eB l y).bind λy=>oD tt l d t x y ZR
   |.min,_,[x,y]=>(eB l x).bind λx=>(eB l y).bind λy=>Wp true l d x y
   |.max,_,[x,y]=>(eB l x).bind λx=>(eB l y).bind λy=>Wp false l d x y
   |_,_,_=>none
  |_=>none
 where I8 (l:a7):Q Operand->Q (Q SR)
  |none=>some none
  |some x=>(eB l x).bind λx=>some<|some x
def Dz{l:a7}{x:Q Operand}{y:Q SR}(h:ev.I8 l x=some y):x.map (resolve<|dn l)=y.map SR.den:=by
 cases x with
 |none=>simp[ev.I8]at h;subst h;rfl
 |some x=>simp[ev.I8,aaV]at h;obtain⟨z,a,rfl⟩:=h;simp[cS a]
section
variable{R:Q Nat->Prop}{P:Program}{tt:TT}(hA:c8 P tt)
def cz{l:a7}{x:Operand}{m:Q (L Mv)}{f:SR->pF}(h:∀y:SR,resolve (dn l) x=y.den->dF l m (f y)):dF l m ((eB l x).bind f):=au _ λy a=>h y<|cS a
def EL{l:a7}{x:Q Operand}{m:Q (L Mv)}{f:Q SR->pF}(h:∀y:Q SR,x.map (resolve<|dn l)=y.map SR.den->dF l m (f y)):dF l m ((ev.I8 l x).bind f):=au _ λy a=>h y<|Dz a
def aaA(hA:c8 P tt){s:L Nat}{l q:a7}{o:Q Nat}{op:Op}{ty:TypeId}{pos:String}{z:Array Edge}{ops:Array Oper}{K:L Mv->St->Prop}{ob:L Pd}{u:L Nat}
 (h:ev tt s l o op=some (ob,q,u))(hc:aj ob)(H:∀p,bp p=u->K p (dn q)):qO P ops ⟨o,op,ty,pos,z,none⟩ (dn l) K:=by
 have fin:∀{m:Q (L Mv)}{e:pF},dF l m e->e=some (ob,q,u)->vq m (dn l) K:=by intro m e J he;obtain⟨p,rfl,O,M⟩:=J _ _ _ he hc;exact⟨p,W,dn q,O,H p M⟩
 cases o with
 |none=>
  cases op<;>simp[ev]at h<;>try(cases h;done)
  rw[YG];exact fin (cz λa f=>cz λx D=>by rw[f,D];exact Gb hA l _ a x) h
 |some d=>
  cases op<;>simp[ev]at h<;>try(cases h;done)
  case move=>rw[abF];exact fin (cz λa f=>by rw[f];exact jU l d a) h
  case assign=>rw[Vf];exact fin (cz λa f=>by rw[f];exact EC l d a) h
  case load=>rw[abG];exact fin (cz λa f=>by rw[f];exact JO hA l d _ a) h
  case fieldAddr=>rw[Lw];exact fin (cz λa f=>by rw[f];exact yA hA l d _ a _) h
  case field=>rw[YJ];exact fin (cz λa f=>by rw[f];exact Ge hA l d _ a _) h
  case indexAddr=>rw[Lv];exact fin (cz λa f=>cz λb i=>by rw[f,i];exact yz hA l d _ a b) h
  case index=>rw[YI];exact fin (cz λa f=>cz λb i=>by rw[f,i];exact Gd hA l d _ a b) h
  case extract=>rw[Sw];exact fin (cz λa f=>by rw[f];exact Ck l d a _) h
  case convert=>rw[Sx];exact fin (cz λa f=>by rw[f];exact Nc hA l d _ _ _ a) h
  case slice=>rw[YH];exact fin (cz λa f=>EL λb i=>EL λc hc=>EL λe he=>by rw[f,i,hc,he];exact Gc hA l d _ a b c e) h
  case binOp=>rw[adw];exact fin (cz λa f=>cz λb i=>by rw[f,i];exact MN hA _ l d _ _ a b) h
  case unOp=>rw[aeZ];exact fin (cz λa f=>by rw[f];exact Pb _ l d _ a) h
  case pick=>rw[abE];exact fin (cz λa f=>cz λb i=>cz λc hc=>by rw[f,i,hc];exact JN l d a b c) h
  case alloc=>rw[YL];exact fin (Gg hA l d _) h
  case box=>rw[adv];exact fin (cz λa f=>by rw[f];exact MM hA l d _ a) h
  case build=>rw[YK];exact fin (Gf hA l d _ _) h
  case buildSlice=>rw[Jf];exact fin (wR hA l d _ _ _) h
  case makeSlice=>rw[Lu];exact fin (cz λa f=>cz λb i=>by rw[f,i];exact yx hA l d _ a b) h
  case nilCheck=>rw[OB];exact fin (cz λa f=>by rw[f];exact Ap l d a) h
  case makeFunc=>rw[OC];exact fin (Aq l d _ _ _) h
  case call c=>
   obtain⟨j,asx,S⟩:=c;cases j<;>simp only at h<;>try(cases h;done)
   rw[Sy];split at h<;>try(cases h;done)
   rename_i t r x w n;rw[w,n];exact fin (cz λa f=>by simp[acK,afu,f];exact ML hA l d _ _ a) h;rename_i t T x y w n;rw[w,n];refine fin (au _ λn v=>cz λa f=>cz λb g=>?_) h;simp[acK,afu,f,g,lG,nV hA v];exact Cm hA l d _ a b ZR λ_ _ _ _ _ _ _ C B A=>W0 C B A;rename_i x y n;rw[n];refine fin (cz λa f=>cz λb g=>?_) h;simp[acK,afu,f,g];exact BJ l d true _ a b;rename_i x y n;rw[n];refine fin (cz λa f=>cz λb g=>?_) h;simp[acK,afu,f,g];exact BJ l d false _ a b
end
inductive It
 |code (c:Code)
 |fu (id:Nat)
 |scp
 |ops (all:Array Oper) (rest:List Oper)
 |nu (all:Array Oper) (mm:List Nat) (rest:List Oper) (acc:List (List Nat×List Nat))
 |inv (I:St->Prop)
def gK(R:Q Nat->Prop)(P:Program)(N:Nat)(F:St->Prop):L It->Exit->St->Prop
 |[],e,σ=>match e with
  |.normal=>F σ
  |.ret=>F σ
  |_=>False
 |.code c::k,e,σ=>match e with
  |.normal=>AW R P N c (gK R P N F k) σ
  |e=>gK R P N F k e σ
 |.fu id::k,e,σ=>match e with
  |.exit d=>if d=id then gK R P N F k .normal σ else gK R P N F k (.exit d) σ
  |e=>gK R P N F k e σ
 |.scp::k,e,σ=>match e with
  |.goto _=>False
  |e=>gK R P N F k e σ
 |.ops all rest::k,e,σ=>match e with
  |.normal=>rp P all rest σ (gK R P N F k .normal)
  |e=>gK R P N F k e σ
 |.nu all h rest g::k,e,σ=>match e with
  |.normal=>rt P all rest σ g λb f=>apart h b all.size=true/\gK R P N F k .normal f
  |e=>gK R P N F k e σ
 |.inv a::k,e,σ=>match e with
  |.normal=>a σ
  |e=>gK R P N F k e σ
def AK(R:Q Nat->Prop)(P:Program)(N:Nat)(F:St->Prop)(k:L It)(l:a7):Prop:=gK R P N F k .normal<|dn l
section
variable{R:Q Nat->Prop}{P:Program}{N:Nat}{F:St->Prop}{k:L It}{l:a7}{σ:St}
def nf:∀(k:L It),gK R P N F k .ret σ=F σ
 |[]=>rfl
 |.code c::k=>nf k
 |.fu id::k=>nf k
 |.scp::k=>nf k
 |.ops .. ::k=>nf k
 |.nu .. ::k=>nf k
 |.inv _::k=>nf k
def Ez(id:Nat):L It->Q (L It)
 |[]=>none
 |.fu a::k=>match Nat.beq id a with
  |true=>some k
  |false=>Ez id k
 |_::k=>Ez id k
def Sf{id:Nat}:∀{k a:L It},Ez id k=some a->gK R P N F a .normal σ->gK R P N F k (.exit id) σ:=by
 intro k
 induction k with
 |nil=>intro a h _;simp[Ez]at h
 |cons x k c=>
  intro a h d;cases x with
  |fu b=>
   simp[Ez]at h;simp[gK];split at h;simp_all;rename_i f;have:id≠b:=by intro e;subst e;simp at f
   simp_all
  |_=>simp[Ez]at h;exact c h d
def Ke{a b:Code}(h:AK R P N F (.code a::.code b::k) l):AK R P N F (.code (.seq a b)::k) l:=W6 (jY (h:AW R P N a (gK R P N F<|.code b::k) (dn l)) λe c h=>by cases e<;>exact h)
def Xl{id:Nat}{c:Code}(h:AK R P N F (.code c::.fu id::k) l):AK R P N F (.code (.block id c)::k) l:=Xa (jY (h:AW R P N c (gK R P N F<|.fu id::k) (dn l)) λe a h=>by cases e<;>exact h)
def Xk{c:Code}(h:AK R P N F (.code c::.scp::k) l):AK R P N F (.code (.scope c)::k) l:=W7 (jY (h:AW R P N c (gK R P N F<|.scp::k) (dn l)) λe a h=>by cases e<;>exact h)
def cN(l:a7)(all:L Oper):Q (Nat×Bool)->Q Bool
 |none=>some true
 |some (j,b)=>match nth all j with
  |some o=>match o.dst with
   |some d=>match Nat.blt d 1000000 with
    |true=>match(gt l d).v with
     |.b true=>some b
     |.b false=>some (not' b)
     |.bU []=>some false
     |_=>none
    |false=>none
   |none=>none
  |none=>none
def dL{all:Array Oper}{o:Oper}{b:Bool}(h:cN l all.toList o.guard=some b):lJ (dn l) all o=some b:=by
 unfold lJ;cases g:o.guard with
 |none=>rw[g]at h;simpa[cN]using h
 |some q=>
  obtain⟨j,a⟩:=q;rw[g]at h;simp[cN]at h;split at h<;>try(cases h)
  rename_i m e;rw[nJ,af5]at e;split at h<;>try(cases h)
  rename_i d i;simp[e,i,ee];split at h<;>try(cases h)
  rename_i f;rw[f];split at h<;>try(cases h)
  rename_i c;rw[c];simpa[SV.den]using h;rename_i c;rw[c];simp[SV.den];cases a<;>simp_all[not'];rename_i c;rw[c];rfl
def adf(l:a7):Q Nat->a7×L Nat
 |some d=>Lc l d (.bU []) λa=>(a,[d])
 |none=>(l,[])
def KH(tt:TT)(b:L Nat)(all:L Oper)(l:a7)(o:Oper):pF:=
 match o with
 |⟨a,c,_,_,_,g⟩=>match cN l all g with
  |some true=>ev tt b l a c
  |some false=>match adf l a with
   |(d,e)=>some ([],d,e)
  |none=>none
def xj{tt:TT}(hA:c8 P tt){i:L Nat}{all:Array Oper}{o:Oper}{r:a7}{ob:L Pd}{s:L Nat}{K:L Mv->St->Prop}(h:KH tt i all.toList l o=some (ob,r,s))(hc:aj ob)
 (f:∀p,bp p=s->K p (dn r)):qO P all o (dn l) K:=by
 obtain⟨a,n,m,pos,c,g⟩:=o;unfold KH at h;simp only at h;split at h<;>try(cases h;done)
 rename_i e;cases g with
 |none=>exact aaA hA h hc f
 |some q=>obtain⟨j,b⟩:=q;rw[Je];rw[dL (o:=⟨a,n,m,pos,c,some (j,b)⟩) e];simp;exact aaA hA h hc f
 ·rename_i e;cases g with
  |none=>simp[cN]at e
  |some q=>
   obtain⟨j,b⟩:=q;rw[Je];rw[dL (o:=⟨a,n,m,pos,c,some (j,b)⟩) e];simp;cases a with
   |none=>obtain⟨-,rfl,rfl⟩:=h;exact⟨[],W,dn l,W,f _ W⟩
   |some d=>obtain⟨-,rfl,rfl⟩:=h;refine⟨[.put d<|.bU []],W,dn<|Sd l d<|.bU [],?_,f _ W⟩;have:=lR l d<|.bU [];rw[<-this];rfl
abbrev aek:=Q<|L Pd×L It×a7
def GP(tt:TT)(f:L Nat)(N:Nat)(k:L It)(l:a7):aek:=
 match k with
 |[]=>none
 |.code c::k=>match c with
  |.seq a b=>some ([],.code a::.code b::k,l)
  |.skip=>some ([],k,l)
  |.label _=>some ([],k,l)
  |.region _ all false=>match all.toList.all (gM N)with
   |true=>some ([],.ops all all.toList::k,l)
   |false=>none
  |.region _ all true=>match all.toList.all (gM N),lower all.toList with
   |true,true=>some ([],.nu all (ue all.toList []) all.toList []::k,l)
   |_,_=>none
  |.block id c=>some ([],.code c::.fu id::k,l)
  |.scope c=>some ([],.code c::.scp::k,l)
  |.exit id=>match Ez id k with
   |some k=>some ([],k,l)
   |none=>none
  |.ret=>some ([],[],l)
  |.cond c t e=>match aO c with
   |true=>(eB l c).bind λx=>(dq x).bind λ(ob,v)=>match v with
    |.b true=>some (ob,.code t::k,l)
    |.b false=>some (ob,.code e::k,l)
    |_=>none
   |false=>none
  |_=>none
 |.fu _::k=>some ([],k,l)
 |.scp::k=>some ([],k,l)
 |.ops all []::k=>some ([],k,l)
 |.ops all (o::d)::k=>match KH tt f all.toList l o with
  |some (ob,g,_)=>some (ob,.ops all d::k,g)
  |none=>none
 |.nu _ _ [] _::_=>none
 |.nu all i (o::d) h::k=>match KH tt f all.toList l o with
  |some (ob,g,j)=>some (ob,.nu all i d ((iP (dn l) all o,j)::h)::k,g)
  |none=>none
 |.inv _::_=>none
def rP{tt:TT}(hA:c8 P tt)(hm:P.follows .mixedOrders=true){j:L Nat}{k o:L It}{l n:a7}{ob:L Pd}(h:GP tt j N k l=some (ob,o,n))(hc:aj ob)(a:AK R P N F o n):AK R P N F k l:=by
 unfold GP at h;split at h;cases h
 ·rename_i c k;split at h<;>try(cases h;done)
  cases h;exact Ke a;cases h;exact Z0 a;cases h;exact W9 a
  ·split at h<;>try(cases h;done)
   rename_i b;cases h;exact jY (Gt (K:=gK R P N F k .normal) b<|K5 a) λe i⟨he,h⟩=>by subst he;exact h
  ·split at h<;>try(cases h;done)
   rename_i b f;cases h;exact jY (Gu (K:=gK R P N F k .normal) hm b f W<|KY a) λe i⟨he,h⟩=>by subst he;exact h
  cases h;exact Xl a;cases h;exact Xk a
  ·split at h<;>try(cases h;done)
   rename_i k2 he;cases h;exact Z2<|Sf he a
  cases h;refine acw ?_;rw[nf];exact a;split at h<;>try(cases h;done)
  rename_i c t e b;simp[aaV,afh]at h;obtain⟨x,q,d,v,p,g⟩:=h;split at g<;>try(cases g;done)
  cases g;exact J8 (t:=true) b (by rw[cS q];exact aJ p hc) a;cases g;exact J8 (t:=false) b (by rw[cS q];exact aJ p hc) a
 cases h;exact a;cases h;exact a;cases h;exact a
 ·split at h<;>try(cases h;done)
  rename_i d s u hs;cases h;show rp P _ _ _ _;exact oT<|xj hA hs hc λr _=>a
 cases h
 ·split at h<;>try(cases h;done)
  rename_i d s u hs;cases h;refine oT<|xj hA hs hc λr m=>?_;rw[m];exact a
 cases h
def abw{α:Type _}:L Pd->L Pd->(L Pd->α)->α
 |[],a,k=>k a
 |p::q,a,k=>abw q (p::a) k
def Qo{α:Type _}:∀(a b:L Pd),∃c,(∀k:L Pd->α,abw a b k=k c)/\(aj c↔aj a/\aj b)
 |[],b=>⟨b,λ_=>rfl,by simp[aj]⟩
 |p::a,b=>by obtain⟨c,e,d⟩:=Qo (α:=α) a<|p::b;refine⟨c,e,?_⟩;rw[d];constructor;rintro⟨x,y,z⟩;exact⟨⟨y,x⟩,z⟩;rintro⟨⟨x,y⟩,z⟩;exact⟨y,x,z⟩
def Bp:L Pd->L Pd->L Pd
 |[],l=>l
 |p::m,l=>app (p::m) l
def rr{a b:L Pd}:aj (Bp a b)↔aj a/\aj b:=by
 cases a with
 |nil=>simp[Bp,aj]
 |cons p m=>exact aY
def nG:L Bool->Bool
 |[]=>true
 |b::l=>match b with
  |true=>nG l
  |false=>false
def WU{b:Bool}{l:L Bool}:nG (b::l)=true↔b=true/\nG l=true:=by cases b<;>simp[nG]
def drawn:L It->Q (Bool×L It)
 |.nu all b [] a::k=>some (apart b a.reverse all.size,k)
 |_=>none
def MT{k a:L It}{b:Bool}(h:drawn k=some (b,a))(d:b=true)(c:AK R P N F a l):AK R P N F k l:=by
 unfold drawn at h;split at h<;>try(cases h;done)
 cases h;exact⟨d,c⟩
def run(tt:TT)(c:L Nat)(N:Nat):Nat->L It->a7->L Pd->L Bool->L Pd×L Bool×L It×a7
 |0,k,l,a,qs=>(a,qs,k,l)
 |n+1,k,l,a,qs=>match drawn k with
  |some (b,d)=>run tt c N n d l a (b::qs)
  |none=>match GP tt c N k l with
   |some (ob,d,e)=>abw ob a λa=>run tt c N n d e a qs
   |none=>(a,qs,k,l)
def ow{tt:TT}(hA:c8 P tt)(hm:P.follows .mixedOrders=true){i:L Nat}:∀{n:Nat}{k g:L It}{l f:a7}{a ob:L Pd}{qs d:L Bool},run tt i N n k l a qs=(ob,d,g,f)->aj ob->nG d=true->
 aj a/\nG qs=true/\(AK R P N F g f->AK R P N F k l)
 |0,k,g,l,f,a,ob,qs,d,h,hc,m=>by simp[run]at h;simp_all
 |n+1,k,g,l,f,a,ob,qs,d,h,hc,m=>by simp[run]at h;split at h;rename_i b k1 r;obtain⟨q,e,p⟩:=ow hA hm h hc m;rw[WU]at e;exact⟨q,e.2,λo=>MT r e.1<|p o⟩;split at h;rename_i j k1 w hs;obtain⟨c,v,u⟩:=Qo (α:=L Pd×L Bool×L It×a7) j a;rw[v]at h;obtain⟨q,e,p⟩:=ow hA hm h hc m;obtain⟨t,s⟩:=u.1 q;exact⟨s,e,λo=>rP hA hm hs t<|p o⟩;simp_all
end
def uN.refl(x:AV):uN x x:=λ_ _ _ _ h=>h
mutual
def aw:SV->SV->Prop
 |.nil,y=>match y with
  |.nil=>True
  |.ints _ _ xs=>xs=[]
  |.eI _ xs=>xs=[]
  |.strs _ xs=>xs=[]
  |.cR _ xs=>xs=[]
  |.bc _ _ _ _ xs=>xs=[]
  |_=>False
 |.agg xs,y=>match y with
  |.agg ys=>Gx xs ys
  |_=>False
 |.bU xs,y=>match y with
  |.bU ys=>Gx xs ys
  |_=>False
 |.n k a,y=>SV.n k a=y
 |.b a,y=>match y with
  |.b c=>a=c
  |.u c=>a=c
  |_=>False
 |.u a,y=>match y with
  |.b c=>a=c
  |.u c=>a=c
  |_=>False
 |.s a,y=>SV.s a=y
 |.c a,y=>SV.c a=y
 |.ints k o xs,y=>SV.ints k o xs=y
 |.eI k xs,y=>match y with
  |.ints j false ys=>k=j/\xs=ys
  |y=>SV.eI k xs=y
 |.strs o xs,y=>SV.strs o xs=y
 |.cR o xs,y=>SV.cR o xs=y
 |.bc o sz d e xs,y=>SV.bc o sz d e xs=y
 |.row o sz xs,y=>match y with
  |.row o' h ys=>o=o'/\sz=h/\xs=ys
  |.bc o' h _ e ys=>o=o'/\sz=h/\xs=ys.map e
  |_=>False
 |.box o x,y=>SV.box o x=y
 |.fn f a c,y=>SV.fn f a c=y
 |.bw r a b p,y=>SV.bw r a b p=y
 |.ptr r a b p,y=>SV.ptr r a b p=y
 |.hole,y=>SV.hole=y
 |.dead,y=>SV.dead=y
 |.pv C,y=>SV.pv C=y
 |.abs J,y=>SV.abs J=y
 |.gI g i,y=>SV.gI g i=y
 |.ob J,y=>SV.ob J=y
def Gx:List SV->List SV->Prop
 |[],ys=>match ys with
  |[]=>True
  |_::_=>False
 |x::xs,ys=>match ys with
  |y::ys=>aw x y/\Gx xs ys
  |[]=>False
end
def Qx{sz a:Nat}{o:Bool}:uN (.list .nil sz []) (.list (fl o) a []):=by intro w S v F h;cases o;simp only[Rel];left;exact⟨U,⟨none,h.2.1⟩,h.2.2⟩;simp only[Rel];left;exact⟨U,h.2.1,h.2.2⟩
mutual
theorem aw.den:∀{x y:SV},aw x y->uN x.den y.den
 |.nil,y,h=>by
  cases y<;>simp[aw]at h
  case nil=>exact uN.refl _
  case eI=>subst h;exactλw S v F h=>by simpa[SV.den,flm,szm,Rel]using h
  all_goals(subst h;exact Qx)
 |.agg xs,y,h=>by cases y<;>simp[aw]at h;intro w S v F m;obtain⟨cs,j,i⟩:=m;exact⟨cs,j,Gx.cells h i⟩
 |.bU xs,y,h=>by cases y<;>simp[aw]at h;intro w S v F m;simp[SV.den,Rel]at m⊢;obtain⟨cs,j,i⟩:=m;exact⟨cs,j,Gx.cells h i⟩
 |.n k a,y,h=>by simp[aw]at h;subst h;exact uN.refl _
 |.b a,y,h=>by cases y<;>simp[aw]at h<;>(subst h;exact uN.refl _)
 |.u a,y,h=>by cases y<;>simp[aw]at h<;>(subst h;exact uN.refl _)
 |.s a,y,h=>by simp[aw]at h;subst h;exact uN.refl _
 |.c a,y,h=>by simp[aw]at h;subst h;exact uN.refl _
 |.ints k o xs,y,h=>by simp[aw]at h;subst h;exact uN.refl _
 |.eI k xs,y,h=>by
  unfold aw at h;split at h;obtain⟨rfl,rfl⟩:=h;cases xs with
  |nil=>exact Qx (o:=false)
  |cons x xs=>exact uN.refl _
  ·subst h;exact uN.refl _
 |.strs o xs,y,h=>by simp[aw]at h;subst h;exact uN.refl _
 |.cR o xs,y,h=>by simp[aw]at h;subst h;exact uN.refl _
 |.bc o sz d e xs,y,h=>by simp[aw]at h;subst h;exact uN.refl _
 |.row o sz xs,y,h=>by
  cases y<;>simp[aw]at h;obtain⟨rfl,rfl,rfl⟩:=h;rename_i e g;have:(SV.row o sz<|g.map e).den=(SV.bc o sz ‹_› e g).den:=by simp[SV.den,cJ]
  rw[this];exact uN.refl _;obtain⟨rfl,rfl,rfl⟩:=h;exact uN.refl _
 |.box o x,y,h=>by simp[aw]at h;subst h;exact uN.refl _
 |.fn f a c,y,h=>by simp[aw]at h;subst h;exact uN.refl _
 |.bw r a b p,y,h=>by simp[aw]at h;subst h;exact uN.refl _
 |.ptr r a b p,y,h=>by simp[aw]at h;subst h;exact uN.refl _
 |.hole,y,h=>by simp[aw]at h;subst h;exact uN.refl _
 |.dead,y,h=>by simp[aw]at h;subst h;exact uN.refl _
 |.pv _,y,h=>by simp[aw]at h;subst h;exact uN.refl _
 |.abs _,y,h=>by simp[aw]at h;subst h;exact uN.refl _
 |.gI _ _,y,h=>by simp[aw]at h;subst h;exact uN.refl _
 |.ob _,y,h=>by simp[aw]at h;subst h;exact uN.refl _
theorem Gx.cells:∀{xs g:List SV},Gx xs g->∀{w:World}{S:Nat->Prop}{one:Bool}{l:List Value}{F:List Nat},Cells w S one (aB xs) l F->Cells w S one (aB g) l F
 |[],g,h,w,S,one,l,F,hc=>by cases g<;>simp[Gx]at h;exact hc
 |x::xs,g,h,w,S,one,l,F,hc=>by
  cases g with
  |nil=>simp[Gx]at h
  |cons y g=>simp[Gx]at h;simp[aB,Cells]at hc⊢;obtain⟨v,n,z,u,j,i,t,s,q⟩:=hc;exact⟨v,n,z,u,j,i,t,aw.den h.1 _ _ _ _ s,Gx.cells h.2 q⟩
end
mutual
theorem aw.refl:∀x:SV,aw x x
 |.nil=>trivial
 |.agg xs=>by simp[aw];exact Gx.refl xs
 |.bU xs=>by simp[aw];exact Gx.refl xs
 |.n .. |.b _|.u _|.s _|.c _|.ints .. |.eI .. |.strs .. |.cR .. |.bc .. |.box .. |.fn .. |.bw .. |.ptr .. |.hole|.dead|.pv _|.abs _|.gI .. |.ob _=>rfl
 |.row .. =>lO
theorem Gx.refl:∀xs:List SV,Gx xs xs
 |[]=>trivial
 |x::xs=>by simp[Gx];exact⟨aw.refl x,Gx.refl xs⟩
end
def aw.of_eq{x y:SV}(h:x=y):aw x y:=h▸aw.refl x
def aN(P:Program)(f:FuncId)(args:L SV)(r:SV):Prop:=Sound P f (aB args) r.den
def aN.same{P:Program}{f:FuncId}{asx bs:L SV}{r q:SV}(h:aN P f asx r)(e:aB asx=aB bs)(e':r.den=q.den):aN P f bs q:=by unfold aN at *;rw[<-e,<-e'];exact h
def aN.acY{P:Program}{f:FuncId}{asx bs:L SV}{r:SV}(h:aN P f bs r)(hl:Gx asx bs):aN P f asx r:=λw S a c b hc=>h w S a c b<|Gx.cells hl hc
def Cn:Nat->L SV->a7
 |_,[]=>[]
 |k,x::xs=>(k,⟨x,0,0⟩)::Cn (k+1) xs
def EG:∀(k:Nat)(xs:L SV),dn (Cn k xs)=mk (entry k<|aB xs)
 |_,[]=>rfl
 |k,x::xs=>by simp[Cn,fb,EG (k+1) xs];rfl
def jl(tt:TT)(l:a7):L ResultVar->Q (L SV)
 |[]=>some []
 |.tmp t::rs=>match(gt l t).v.plain with
  |true=>match jl tt l rs with
   |some xs=>some ((gt l t).v::xs)
   |none=>none
  |false=>none
 |.cell t ty::rs=>match(gt l t).v with
  |.box true x=>match Iw tt ty with
   |some ti=>match ns ti x with
    |true=>match jl tt l rs with
     |some xs=>some (x::xs)
     |none=>none
    |false=>none
   |none=>none
  |_=>none
def ox{P:Program}{tt:TT}(hA:c8 P tt){l:a7}:∀{rs:L ResultVar}{xs:L SV},jl tt l rs=some xs->jC P (dn l) rs=some (aB xs)
 |[],xs,h=>by simp[jl]at h;subst h;rfl
 |.cell t ty::rs,xs,h=>by
  simp[jl]at h;split at h<;>try(cases h)
  rename_i x e;split at h<;>try(cases h)
  rename_i ti c;split at h<;>try(cases h)
  rename_i b;split at h<;>try(cases h;done)
  rename_i ys a;cases h;have d:(dn l t).av=.box true x.den:=by rw[ee,e];rfl
  simp[jC,d,ey hA c,jL _ _ b,ox hA a,aB]
 |.tmp t::rs,xs,h=>by
  simp[jl]at h;split at h<;>try(cases h)
  rename_i f;split at h<;>try(cases h;done)
  rename_i ys a;cases h;have:(dn l t).av.plain=true:=by rw[ee,cU];exact f
  simp[jC,this,ox hA a];rfl
def xB(xs:L SV):SV:=match xs with|[x]=>x|xs=>.bU xs
def xA(xs:L SV):tN (aB xs)=(xB xs).den:=by
 match xs with
 |[]=>rfl
 |[x]=>rfl
 |x::y::xs=>rfl
def TK(P:Program)(rs:L ResultVar)(r:SV)(σ:St):Prop:=∃a,jC P σ rs=some a/\w9 (tN a) r.den
section
variable{R:Q Nat->Prop}{P:Program}{N:Nat}{F:St->Prop}{k:L It}{l:a7}{tt:TT}
def enter{f:FuncId}{fn:Func}{c:Code}{args:L SV}{r:SV}(d:P.funcs[f]?=some fn)(i:fn.body=some c)(hn:(fn.name== "runtime.NumGoroutine")=false)(a:Nat.ble (len args) fn.ntmps=true)
 (g:fh fn.results.toList []=true)(h:AK R0 P fn.ntmps (TK P fn.results.toList r) [.code c] (Cn 0 args)):aN P f args r:=by
 refine KK d i hn (by rw[bP,<-fk];simp_all) g ?_;rw[<-EG];exact jY (h:AW R0 P fn.ntmps c (gK R0 P fn.ntmps (TK P fn.results.toList r) []) (dn<|Cn 0 args)) λe b h=>by cases e<;>exact h
def ret(hA:c8 P tt){rs:L ResultVar}{r:SV}{xs:L SV}(h:jl tt l rs=some xs)(a:aw (xB xs) r):AK R P N (TK P rs r) [] l:=by refine⟨_,ox hA h,?_⟩;rw[xA];exact w9.of_le a.den
def adj(hA:c8 P tt){rs:L ResultVar}{r:SV}{xs:L SV}(h:jl tt l rs=some xs)(b:aw (xB xs).cC r):AK R P N (TK P rs r) [] l:=by refine⟨_,ox hA h,?_⟩;rw[xA];intro w S v F a;refine⟨[],F,I,λe c d=>b.den _ _ _ _ ?_⟩;rw[<-gP];exact Rel.share c _ a d
def vW:∀xs ys:L SV,jz (cat xs ys)=cat (jz xs) (jz ys)
 |[],_=>rfl
 |x::xs,ys=>by simp[cat,jz,vW xs ys]
def oM{α:Type}{e:α->SV}(h:∀x,(e x).cC=e x):∀xs:L α,jz (xs.map e)=xs.map e
 |[]=>rfl
 |x::xs=>by simp[jz,h x,oM h xs]
def go(hA:c8 P tt)(hm:P.follows .mixedOrders=true)(a:L Nat){ob:L Pd}{qs:L Bool}{c:L It}{b:a7}(h:run tt a N 100000 k l [] []=(ob,qs,c,b))(d:nG qs=true)(e:aj ob)(f:AK R P N F c b):AK R P N F k l:=(ow hA hm h e d).2.2 f
def branch{c:Operand}{t e:Code}{x:SR}{b:Bool}{ob:L Pd}(f:aO c=true)(h:eB l c=some x)(a:dq x=some (ob,.u b))(d:aj ob)(i:b=true->AK R P N F (.code t::k) l)(g:b=false->AK R P N F (.code e::k) l):
 AK R P N F (.code (.cond c t e)::k) l:=by
 refine J8 (t:=b) f (by rw[cS h];exact aJ a d) ?_;cases b;exact g W;exact i W
def ZT{c:Operand}{t e:Code}{x:SR}{p:Prop}[Decidable p]{ob:L Pd}(d:aO c=true)(h:eB l c=some x)(a:dq x=some (ob,.u<|decide p))(b:aj ob)(g:p->AK R P N F (.code t::k) l)(f:¬p->AK R P N F (.code e::k) l):
 AK R P N F (.code (.cond c t e)::k) l:=
 branch d h a b (λh=>g<|of_decide_eq_true h) λh=>f<|of_decide_eq_false h
def known{d:Nat}{b c:Bool}(h:(gt l d).v=.u b)(a:b=c):dn ((d,⟨.b c,(gt l d).g1,(gt l d).g2⟩)::l)=dn l:=by
 subst a;rw[fb]
 funext i
 unfold iy;split;rename_i e;subst e;simp[Cl.den,dn,h];rfl;rfl
def iC(d:Nat){b:Bool}(h:(gt l d).v=.u b)(c:b=true->AK R P N F k ((d,⟨.b true,(gt l d).g1,(gt l d).g2⟩)::l))(a:b=false->AK R P N F k ((d,⟨.b false,(gt l d).g1,(gt l d).g2⟩)::l)):AK R P N F k l:=by cases b;have:=a W;unfold AK at this;rw[known h W]at this;exact this;have:=c W;unfold AK at this;rw[known h W]at this;exact this
def aF(d:Nat){p:Prop}[Decidable p](h:(gt l d).v=.u (decide p))(c:p->AK R P N F k ((d,⟨.b true,(gt l d).g1,(gt l d).g2⟩)::l))(a:¬p->AK R P N F k ((d,⟨.b false,(gt l d).g1,(gt l d).g2⟩)::l)):AK R P N F k l:=iC d h (λh=>c<|of_decide_eq_true h) λh=>a<|of_decide_eq_false h
mutual
def SV.lN:SV->List Pd×Bool
 |.bc true _ _ e _=>([.of<|∀x,(e x).da=true],true)
 |.bc false _ _ _ _=>([],false)
 |.ints _ o _=>([],o)
 |.eI _ xs=>([xs≠[]],false)
 |.strs o _=>([],o)
 |.cR o _=>([],o)
 |.row false _ _|.ob _=>([],false)
 |.row true _ xs=>lM xs
 |.box false _=>([],false)
 |.box true x=>x.lN
 |.agg xs=>lM xs
 |.bU xs=>lM xs
 |.fn _ a c=>match lM a,lM c with
  |(ob,b),(d,f)=>(Bp ob d,dt b f)
 |_=>([],true)
def lM:List SV->List Pd×Bool
 |[]=>([],true)
 |x::xs=>match x.lN,lM xs with
  |(ob,b),(d,f)=>(Bp ob d,dt b f)
end
def Ns(a b:Bool):dt a b=(a&&b):=by cases a<;>rfl
mutual
theorem tD:∀{x:SV},aj x.lN.1->x.den.da=x.lN.2
 |.n ..,_|.b _,_|.u _,_|.s _,_|.c _,_|.nil,_|.hole,_|.dead,_|.bw ..,_|.ptr ..,_|.pv _,_|.abs _,_|.gI ..,_|.ob _,_=>rfl
 |.ints k true xs,_=>oy (.ints k true xs) W
 |.ints k false xs,_=>rfl
 |.eI k xs,h=>by
  have h:=h.1;cases xs with
  |nil=>simp_all
  |cons=>rfl
 |.strs true xs,_=>oy (.strs true xs) W
 |.strs false xs,_=>rfl
 |.cR true xs,_=>oy (.cR true xs) W
 |.cR false xs,_=>rfl
 |.bc true sz d e xs,h=>by refine uX λy j=>?_;obtain⟨z,-,rfl⟩:=abS.1 j;exact oy _ (h.1 z)
 |.bc false ..,_=>rfl
 |.row true sz xs,h=>by simp[SV.lN]at h⊢;exact jQ h
 |.row false ..,_=>rfl
 |.box true x,h=>by simp[SV.lN]at h⊢;simp[SV.den];exact tD h
 |.box false _,_=>rfl
 |.agg xs,h=>by simp[SV.lN]at h⊢;exact jQ h
 |.bU xs,h=>by simp[SV.lN]at h⊢;exact jQ h
 |.fn f a c,h=>by simp[SV.lN]at h⊢;obtain⟨i,g⟩:=rr.1 h;simp[SV.den,AV.da,jQ i,jQ g,Ns]
theorem jQ:∀{xs:List SV},aj (lM xs).1->ke (aB xs)=(lM xs).2
 |[],_=>rfl
 |x::xs,h=>by simp[lM]at h⊢;obtain⟨i,g⟩:=rr.1 h;simp[aB,ke,tD i,jQ g,Ns]
end
structure rG where
 g:FuncId
 asx:List SV
 sh:List (Nat×Path)
def pX(l:a7)(f:Operand)(asx:L Operand):Q (L Pd×rG):=
 (eB l f).bind λf=>(dq f).bind λ(ob,v)=>match v with
   |.fn (.func g) first a=>(iz<|dt (ij first)<|ij a).bind λ_=>(jR l asx).bind λd=>(wH d).bind λ(c,e)=>(uP d).bind λ(b,sh)=>some (Bp ob<|Bp c b,⟨g,cat first<|cat e a,sh⟩)
   |_=>none
def Ta{f:Operand}{asx:L Operand}{ob:L Pd}{h:rG}(hh:pX l f asx=some (ob,h))(hc:aj ob):
 HI (dn l) (resolve (dn l) f) (asx.map<|resolve<|dn l)=some (h.g,aB h.asx,h.sh.map λm=>.share m.1 m.2):=by
 simp[pX,aaV]at hh;obtain⟨x,t,i,v,s,b⟩:=hh;cases v<;>try(cases b)
 rename_i fn first a
 cases fn<;>try(cases b)
 rename_i g;simp only[aaV,bT,aW,afh]at b;obtain⟨_,⟨r,q⟩,A,p,e,z,o,d,sh,n,rfl,rfl⟩:=b;obtain⟨y,c⟩:=rr.1 hc;obtain⟨w,u⟩:=rr.1 c;have j:x.den.cont=some (.fn (.func g) (aB first)<|aB a):=aJ s y;unfold HI;rw[cS t,j];simp[eH,r,q,fg l p,sA o w,pN n u,dj];simp[cJ]
def kr(l:a7)(a:Q Nat)(r:SV)(sh:L (Nat×Path)):pF:=
 match sh with
 |[]=>Gh [] l [] a r
 |(m,p)::sh=>match r.lN with
  |(ob,b)=>match b with
  |true=>Gh ob l [] a r
  |false=>match sh with
   |[]=>(tE l m p).bind λ(c,e)=>Gh (Bp ob c) e [m] a r
   |_=>none
 where Gh (ob:L Pd) (l:a7) (f:L Nat):Q Nat->SV->pF
  |none,_=>some (ob,l,f)
  |some d,r=>nk l [] d r λe=>some (ob,e,cat f [d])
def KA{c:Q Nat}{r:SV}{sh:L (Nat×Path)}{ob:L Pd}{n:a7}{o:L Nat}(h:kr l c r sh=some (ob,n,o))(hc:aj ob):
 ∃f,A5 c r.den (sh.map λm=>.share m.1 m.2)=some f/\Mv.runs (dn l) f=some (dn n)/\bp f=o:=by
 have plain:∀{a:L Pd},kr.Gh a l [] c r=some (ob,n,o)->∃f,some (dz c r.den [])=some f/\Mv.runs (dn l) f=some (dn n)/\bp f=o:=by
  intro a h;cases c with
  |none=>simp[kr.Gh]at h;obtain⟨-,rfl,rfl⟩:=h;exact⟨_,W,W,W⟩
  |some d=>simp[kr.Gh,iG]at h;obtain⟨-,rfl,rfl⟩:=h;exact⟨_,W,by simp[dz,Mv.runs,Mv.run,gQ],fQ⟩
 unfold kr at h;cases sh with
 |nil=>have:=plain h;unfold A5;simp_all
 |cons m sh=>
  obtain⟨a,b,q⟩:∃a b,r.lN=(a,b):=⟨_,_,W⟩;have j:aj a->r.den.da=b:=λhc=>by have:=tD (x:=r) (by rw[q];exact hc);rw[this,q]
  rw[q]at h;have i:=h;cases b with
  |true=>
   have e:a=ob:=by cases c<;>simp[kr.Gh,iG]at i<;>exact i.1
   subst e;have:=plain i;unfold A5;simp_all
  |false=>
   cases sh with
   |cons _ _=>cases i
   |nil=>
    simp[aaV]at i;obtain⟨p,v,s,g⟩:=i;have e:Bp a p=ob:=by cases c<;>simp[kr.Gh,iG]at g<;>exact g.1
    subst e;obtain⟨u,t⟩:=rr.1 hc;unfold A5;rw[j u];cases c with
    |none=>simp only[kr.Gh]at g;obtain⟨-,rfl,rfl⟩:=g;simp[dz,Mv.runs];rw[mr s t];exact G
    |some d=>simp only[kr.Gh,iG]at g;obtain⟨-,rfl,rfl⟩:=g;simp[dz,Mv.runs];rw[mr s t];exact⟨by simp[Mv.run,gQ],fQ⟩
def J4{all:Array Oper}{a:Q Nat}{f:Operand}{asx e:Array _}{ty:TypeId}{pos:String}{c:Array Edge}{g:Q (Nat×Bool)}{K:L Mv->St->Prop}{ob d:L Pd}{h:rG}{r:SV}{n:a7}{p:L Nat}
 (u:cN l all.toList g=some true)(hh:pX l f asx.toList=some (ob,h))(t:aj ob)(hs:aN P h.g h.asx r)(s:kr l a r h.sh=some (d,n,p))(m:aj d)(v:∀i,bp i=p->K i (dn n)):
 qO P all ⟨a,.call ⟨.value f,asx,e⟩,ty,pos,c,g⟩ (dn l) K:=by
 have key:qO P all ⟨a,.call ⟨.value f,asx,e⟩,ty,pos,c,none⟩ (dn l) K:=by rw[abH,Ta hh t,TM];refine⟨r.den,hs,?_⟩;obtain⟨i,y,x,w⟩:=KA s m;simp[vq];simp_all
 cases g with
 |none=>exact key
 |some q=>obtain⟨j,b⟩:=q;rw[Je,dL (o:=⟨a,.call ⟨.value f,asx,e⟩,ty,pos,c,some (j,b)⟩) u];simpa using key
def call{all:Array Oper}{rest:L Oper}{b:Q Nat}{f:Operand}{asx i:Array _}{ty:TypeId}{pos:String}{d:Array Edge}{g:Q (Nat×Bool)}{ob a:L Pd}{h:rG}{r:SV}{e:a7}{j:L Nat}
 (p:cN l all.toList g=some true)(hh:pX l f asx.toList=some (ob,h))(n:aj ob)(hs:aN P h.g h.asx r)(m:kr l b r h.sh=some (a,e,j))(c:aj a)(o:AK R P N F (.ops all rest::k) e):
 AK R P N F (.ops all (⟨b,.call ⟨.value f,asx,i⟩,ty,pos,d,g⟩::rest)::k) l:=by
 exact oT<|J4 p hh n hs m c λq _=>o
def W2{all:Array Oper}{m:L Nat}{d:L (L Nat×L Nat)}{rest:L Oper}{a:Q Nat}{f:Operand}{asx j:Array _}{ty:TypeId}{pos:String}{c:Array Edge}{g:Q (Nat×Bool)}{ob b:L Pd}{h:rG}{r:SV}{n:a7}{o:L Nat}
 (t:cN l all.toList g=some true)(hh:pX l f asx.toList=some (ob,h))(q:aj ob)(hs:aN P h.g h.asx r)(p:kr l a r h.sh=some (b,n,o))(e:aj b)
 (s:AK R P N F (.nu all m rest ((iP (dn l) all ⟨a,.call ⟨.value f,asx,j⟩,ty,pos,c,g⟩,o)::d)::k) n):
 AK R P N F (.nu all m (⟨a,.call ⟨.value f,asx,j⟩,ty,pos,c,g⟩::rest) d::k) l:=by
 exact oT (J4 t hh q hs p e λu i=>by rw[i];exact s)
def sl:L (Nat×SV)->a7
 |[]=>[]
 |(i,x)::r=>(i,⟨x,0,0⟩)::sl r
def ShS(x y:SV):Prop:=y=x\/y=x.cC
def kS:L SV->L SV->Prop
 |[],ys=>ys=[]
 |x::xs,ys=>match ys with
  |[]=>False
  |y::ys=>ShS x y/\kS xs ys
def kS.refl:∀xs:L SV,kS xs xs
 |[]=>rfl
 |_::xs=>⟨.inl W,kS.refl xs⟩
def kS.append:∀{xs ys us a:L SV},kS xs ys->kS us a->kS (xs++us) (ys++a)
 |[],ys,us,a,h,k=>by simp[kS]at h;subst h;exact k
 |x::xs,ys,us,a,h,k=>by
  cases ys with
  |nil=>exact h.elim
  |cons y ys=>exact⟨h.1,kS.append h.2 k⟩
def LeT(x y:SV):Prop:=match x with
 |.row o sz b=>match y with
  |.bc d a _ e c=>o=d/\sz=a/\kS b (c.map e)
  |y=>aw (.row o sz b) y
 |x=>aw x y
def EH{w:World}{S:Nat->Prop}{sz:Nat}:∀{xs ys:L SV}{l:L Value}{F:L Nat},kS xs ys->du w S sz (aB xs) l F->
 ∃a d,F.Perm (a++d)/\∀S':Nat->Prop,(∀b,S b->S' b)->(∀b∈d,S' b)->du w S' sz (aB ys) l a
 |[],ys,l,F,h,k=>by simp[kS]at h;subst h;exact⟨[],[],by rw[k.2];simp,λ_ _ _=>⟨k.1,W⟩⟩
 |x::xs,ys,l,F,h,k=>by
  cases ys with
  |nil=>exact h.elim
  |cons y ys=>
   obtain⟨v,i,g,q,rfl,rfl,n,m,o⟩:=k;obtain⟨a,d,p,j⟩:=EH h.2 o;rcases h.1 with rfl|rfl;refine⟨g++a,d,by grind,λS' c e=>?_⟩;exact⟨v,i,g,a,W,W,n,Rel.mono c _ m,j S' c e⟩;refine⟨a,g++d,?_,λS' c e=>?_⟩
   grind
   refine⟨v,i,[],a,W,W,n,?_,j S' c λb f=>e b<|by simp[f]⟩;rw[<-gP];exact Rel.share c _ m λb f=>e b (by simp[f])
def LeT.den{x y:SV}(h:LeT x y):w9 x.den y.den:=by
 cases x
 case row o sz J=>
  cases y
  case bc Y K X d e r=>
   obtain⟨rfl,rfl,h⟩:=h;have V:(SV.bc o sz d e r).den=.list (fl o) sz (aB<|r.map e):=by simp[SV.den,cJ]
   have a:(aB J).length=(aB<|r.map e).length:=by
    have:∀{m j:L SV},kS m j->m.length=j.length:=by
     intro m
     induction m with
     |nil=>intro j h;subst h;rfl
     |cons u m M=>
      intro j h;cases j with
      |nil=>exact h.elim
      |cons v j=>simp[M h.2]
    simp[cJ]at*;simpa using this h
   rw[V];intro w S v F n;cases o;simp only[Rel]at n⊢;rcases n with⟨g,f,c⟩|⟨b,s,i,B,T,g,f,c,q,A,z⟩;refine⟨[],[],by rw[c];simp,λC p _=>.inl ⟨?_,f,W⟩⟩
   grind
   obtain⟨D,H,t,O⟩:=EH h A;have hn:=t.symm.eq_nil;rw[a]at g q;refine⟨[],[],by rw[z];simp,λC p _=>.inr ⟨b,s,i,B,T,g,p b f,c,q,?_,W⟩⟩;simp_all;simp only[Rel]at n⊢;rcases n with⟨g,f,c⟩|⟨b,i,B,F',g,f,c,q,A,z,rfl⟩;refine⟨[],[],by rw[c];simp,λC p _=>.inl ⟨?_,f,W⟩⟩
   grind
   obtain⟨D,H,t,O⟩:=EH h z;rw[a]at g c;refine⟨b::D,H,List.Perm.cons b t,λC p Z=>.inr ⟨b,i,B,D,g,f,c,q,A,?_,W⟩⟩;simp_all
  all_goals exact w9.of_le<|aw.den h
 all_goals exact w9.of_le<|aw.den h
def Kv{b a f e d c:L Nat}(h:b.Perm (f++e))(k:a.Perm (d++c)):(b++a).Perm ((f++d)++(e++c)):=by grind
def Kw{o:Bool}{sz:Nat}{xs ys:L AV}(a:xs.length=ys.length)(c:∀{w:World}{S:Nat->Prop}{l:L Value}{F:L Nat},du w S sz xs l F->
 ∃h i,F.Perm (h++i)/\∀S':Nat->Prop,(∀b,S b->S' b)->(∀b∈i,S' b)->du w S' sz ys l h):w9 (.list (fl o) sz xs) (.list (fl o) sz ys):=by
 intro w S v F j;cases o;simp only[Rel]at j⊢;rcases j with⟨f,e,d⟩|⟨b,p,g,s,x,f,e,d,n,r,q⟩;refine⟨[],[],by rw[d];simp,λS' m _=>.inl ⟨?_,e,W⟩⟩
 grind
 obtain⟨h,i,t,u⟩:=c r;rw[a]at f n;refine⟨[],[],by rw[q];simp,λS' m _=>.inr ⟨b,p,g,s,x,f,m b e,d,n,?_,W⟩⟩;simp_all;simp only[Rel]at j⊢;rcases j with⟨f,e,d⟩|⟨b,g,s,z,f,e,d,n,r,q,rfl⟩;refine⟨[],[],by rw[d];simp,λS' m _=>.inl ⟨?_,e,W⟩⟩
 grind
 obtain⟨h,i,t,u⟩:=c q;rw[a]at f d;refine⟨b::h,i,List.Perm.cons b t,λS' m y=>.inr ⟨b,g,s,h,f,e,d,n,r,?_,W⟩⟩;simp_all
mutual
inductive FE:SV->SV->Prop
 |le {x y:SV}:aw x y->FE x y
 |shr {x y:SV}:y=x.cC->FE x y
 |row {o:Bool} {sz:Nat} {α:Type} {d:α} {e:α->SV} {xs:List SV} {ys:List α}:mh xs (ys.map e)->FE (.row o sz xs) (.bc o sz d e ys)
 |bc {o:Bool} {sz:Nat} {α a:Type} {d:α} {e:α->SV} {d':a} {e':a->SV} {xs:List α} {ys:List a}:mh (xs.map e) (ys.map e')->FE (.bc o sz d e xs) (.bc o sz d' e' ys)
 |agg {xs ys:List SV}:mh xs ys->FE (.agg xs) (.agg ys)
 |bU {xs ys:List SV}:mh xs ys->FE (.bU xs) (.bU ys)
 |box {o:Bool} {x y:SV}:FE x y->FE (.box o x) (.box o y)
inductive mh:List SV->List SV->Prop
 |nil:mh [] []
 |cons {x y:SV} {xs ys:List SV}:FE x y->mh xs ys->mh (x::xs) (y::ys)
end
def FE.refl(x:SV):FE x x:=.le<|aw.refl x
def mh.refl:∀xs:L SV,mh xs xs
 |[]=>.nil
 |x::xs=>.cons (FE.refl x)<|mh.refl xs
def mh.len:∀{xs ys:L SV},mh xs ys->(aB xs).length=(aB ys).length
 |[],_,h=>by cases h;rfl
 |x::xs,_,h=>by
  cases h with
  |cons b a=>simp[aB,mh.len a]
def mh.rep{x y:SV}(h:FE x y):∀n,mh (List.replicate n x) (List.replicate n y)
 |0=>.nil
 |n+1=>.cons h<|mh.rep h n
mutual
theorem FE.den:∀{x y:SV},FE x y->w9 x.den y.den
 |_,_,.le h=>w9.of_le (aw.den h)
 |x,_,.shr h=>by subst h;rw[<-gP];exact w9.share _
 |_,_,.row (o:=o) (sz:=sz) (d:=d) (e:=e) (xs:=xs) (ys:=ys) h=>by
  have J:(SV.bc o sz d e ys).den=.list (fl o) sz (aB<|ys.map e):=by simp[SV.den,cJ]
  rw[J];exact Kw (o:=o) (sz:=sz) (mh.len h) λk=>mh.XH h k
 |_,_,.bc (o:=o) (sz:=sz) (d:=d) (e:=e) (d':=d') (e':=e') (xs:=xs) (ys:=ys) h=>by
  have J:(SV.bc o sz d' e' ys).den=.list (fl o) sz (aB<|ys.map e'):=by simp[SV.den,cJ]
  have O:(SV.bc o sz d e xs).den=.list (fl o) sz (aB<|xs.map e):=by simp[SV.den,cJ]
  rw[J,O];exact Kw (o:=o) (sz:=sz) (mh.len h) λk=>mh.XH h k
 |_,_,.agg h=>by intro w S v F q;obtain⟨u,p,n⟩:=q;obtain⟨c,f,j,s⟩:=mh.cells h n;exact⟨c,f,j,λa g i=>⟨u,p,s a g i⟩⟩
 |_,_,.bU h=>by intro w S v F q;obtain⟨u,p,n⟩:=q;obtain⟨c,f,j,s⟩:=mh.cells h n;exact⟨c,f,j,λa g i=>⟨u,p,s a g i⟩⟩
 |_,_,.box (o:=o) h=>by
  intro w S v F q;obtain⟨b,u,M,X,z,p,n,A,t,m⟩:=q;obtain⟨c,f,j,s⟩:=FE.den h w S z X A;cases o with
  |true=>obtain⟨m,rfl⟩:=m;exact⟨b::c,f,List.Perm.cons b j,λa g i=>⟨b,u,M,c,z,p,n,s a g i,t,m,W⟩⟩
  |false=>obtain⟨m,rfl,rfl⟩:=m;have hn:c++f=[]:=j.symm.eq_nil;simp[aga]at hn;obtain⟨rfl,rfl⟩:=hn;exact⟨[],[],I,λa g i=>⟨b,u,M,[],z,p,n,s a g i,t,g b m,W,W⟩⟩
theorem mh.XH:∀{xs ys:List SV},mh xs ys->∀{w:World}{S:Nat->Prop}{sz:Nat}{l:List Value}{F:List Nat},du w S sz (aB xs) l F->
 ∃c f,F.Perm (c++f)/\∀a:Nat->Prop,(∀b,S b->a b)->(∀b∈f,a b)->du w a sz (aB ys) l c
 |_,_,.nil=>λk=>by exact⟨[],[],by rw[k.2];simp,λ_ _ _=>⟨k.1,W⟩⟩
 |_,_,.cons p n=>λk=>by simp only[aB,du]at k⊢;obtain⟨v,C,V,T,rfl,rfl,A,t,m⟩:=k;obtain⟨c,f,j,q⟩:=mh.XH n m;obtain⟨B,K,H,D⟩:=FE.den p _ _ _ _ t;exact⟨B++c,K++f,Kv H j,λa g i=>⟨v,C,B,c,W,W,A,D a g λb r=>i b<|by simp[r],q a g λb r=>i b<|by simp[r]⟩⟩
theorem mh.cells:∀{xs ys:List SV},mh xs ys->∀{w:World}{S:Nat->Prop}{one:Bool}{l:List Value}{F:List Nat},Cells w S one (aB xs) l F->
 ∃c f,F.Perm (c++f)/\∀a:Nat->Prop,(∀b,S b->a b)->(∀b∈f,a b)->Cells w a one (aB ys) l c
 |_,_,.nil=>λk=>by simp[aB,Cells]at k⊢;exact⟨[],[],by rw[k.2];simp,λ_ _ _=>⟨k.1,W⟩⟩
 |_,_,.cons p n=>λk=>by simp only[aB,Cells]at k⊢;obtain⟨v,C,V,T,rfl,rfl,A,t,m⟩:=k;obtain⟨c,f,j,q⟩:=mh.cells n m;obtain⟨B,K,H,D⟩:=FE.den p _ _ _ _ t;exact⟨B++c,K++f,Kv H j,λa g i=>⟨v,C,B,c,W,W,A,D a g λb r=>i b<|by simp[r],q a g λb r=>i b<|by simp[r]⟩⟩
end
def okB(l:a7)(b:Bool)(r g2:Nat)(p:Path):Bool:=Gr b<|dt (Nat.beq (gt l r).g2 g2)<|match iv (gt l r).v p with|some ([],_)=>true|_=>false
def OkP(l:a7)(b:Bool)(r g2:Nat)(p:Path):Prop:=(b=true\/(gt l r).g2=g2)/\(b=false->∃y,bH (gt l r).v.den p=some y)
def x7{l:a7}{b:Bool}{r g2:Nat}{p:Path}(h:okB l b r g2 p=true):OkP l b r g2 p:=by
 cases b with
 |true=>exact⟨.inl W,λh=>by cases h⟩
 |false=>
  have h:dt (Nat.beq (gt l r).g2 g2) (match iv (gt l r).v p with|some ([],_)=>true|_=>false)=true:=h;cases a:Nat.beq (gt l r).g2 g2 with
  |false=>rw[a]at h;cases h
  |true=>rw[a]at h;refine⟨.inr<|ac2 a,λ_=>?_⟩;split at h;rename_i y c;exact⟨_,cY c U⟩;cases h
def BU:L (Nat×Nat)->L (Nat×Nat)
 |[]=>[]
 |(r,_)::q=>(r,0)::BU q
def Ib(l:a7):L (Nat×Nat)->Bool
 |[]=>true
 |(r,a)::q=>dt (Nat.beq (gt l r).g1 a)<|Ib l q
def Fe{l:a7}:∀{b:L (Nat×Nat)},Ib l b=true->∀q∈b,(gt l q.1).g1=q.2
 |[],_,q,d=>by cases d
 |(r,a)::c,h,q,d=>by simp[Ib,aW]at h;rcases abm.1 d with rfl|d;simp_all;exact Fe h.2 q d
def Ic:∀{d:L (Nat×Nat)},∀q∈BU d,q.2=0
 |[],q,b=>by simp[BU]at b
 |(r,a)::c,q,b=>by rcases abm.1 b with rfl|b;rfl;exact Ic q b
def Ie{α:Type}(f:Nat->α):∀b:L (Nat×Nat),(BU b).map (λq=>f q.1)=b.map λq=>f q.1
 |[]=>rfl
 |(r,a)::c=>by simp[BU,Ie f c]
def w6(l:a7)(x y:SV):Prop:=match x with
 |.bw r a g2 p=>y=.bw r 0 0 p/\OkP l (lu p) r g2 p/\(gt l r).g1=a
 |.ptr r a g2 p=>y=.ptr r 0 0 p/\OkP l (flat p) r g2 p/\(gt l r).g1=a
 |.abs J=>y=.abs J
 |.gI g b=>y=.gI g (BU b)/\Ib l b=true
 |_=>False
def Z7(l:a7)(x y:SV):Prop:=match x with
 |.bw r a g2 p=>y=.bw r 0 0 p/\okB l (lu p) r g2 p=true/\(gt l r).g1=a
 |.ptr r a g2 p=>y=.ptr r 0 0 p/\okB l (flat p) r g2 p=true/\(gt l r).g1=a
 |.abs J=>y=.abs J
 |.gI g b=>y=.gI g (BU b)/\Ib l b=true
 |x=>x.plain=true/\LeT x y
def Fits(l:a7):L (Nat×SV)->Prop
 |[]=>True
 |(i,y)::r=>Z7 l (gt l i).v y/\Fits l r
def aw.plain{x y:SV}(h:aw x y)(a:x.plain=true):y.plain=true:=by
 cases x
 case eI=>unfold aw at h;split at h;rfl;subst h;exact a
 all_goals first|(subst h;exact a)|(cases y<;>first|rfl|exact h.elim)
def LeT.plain{x y:SV}(h:LeT x y)(a:x.plain=true):y.plain=true:=by unfold LeT at h;split at h;split at h;rfl;exact h.plain a;exact h.plain a
def qh(l:a7):L (Nat×SV)->Prop
 |[]=>True
 |(i,y)::r=>(((gt l i).v.plain=true/\y.plain=true/\w9 (gt l i).v.den y.den)\/w6 l (gt l i).v y)/\qh l r
def Ak:∀{a:L (Nat×SV)},qh l a->∀i,(gt (sl a) i).v=.dead\/((gt l i).v.plain=true/\(gt (sl a) i).v.plain=true/\w9 (gt l i).v.den (gt (sl a) i).v.den)\/w6 l (gt l i).v (gt (sl a) i).v
 |[],_,i=>.inl W
 |(j,y)::r,h,i=>by simp[sl,gt];split;rename_i b;have:=ac2 b;subst this;exact .inr h.1;exact Ak h.2 i
def Z7.Km{l:a7}{x y:SV}(h:Z7 l x y):(x.plain=true/\y.plain=true/\w9 x.den y.den)\/w6 l x y:=by unfold Z7 at h;split at h;exact .inr ⟨h.1,x7 h.2.1,h.2.2⟩;exact .inr ⟨h.1,x7 h.2.1,h.2.2⟩;exact .inr h;exact .inr h;exact .inl ⟨h.1,h.2.plain h.1,h.2.den⟩
def Fits.Km{l:a7}:∀{a:L (Nat×SV)},Fits l a->qh l a
 |[],_=>trivial
 |(_,_)::_,h=>⟨h.1.Km,Fits.Km h.2⟩
def Z6(l:a7)(x y:SV):Prop:=match x with
 |.bw r a g2 p=>y=.bw r 0 0 p/\okB l (lu p) r g2 p=true/\(gt l r).g1=a
 |.ptr r a g2 p=>y=.ptr r 0 0 p/\okB l (flat p) r g2 p=true/\(gt l r).g1=a
 |.abs J=>y=.abs J
 |.gI g b=>y=.gI g (BU b)/\Ib l b=true
 |x=>x.plain=true/\y.plain=true/\FE x y
def ta(l:a7):L (Nat×SV)->Prop
 |[]=>True
 |(i,y)::r=>Z6 l (gt l i).v y/\ta l r
def Z6.Km{l:a7}{x y:SV}(h:Z6 l x y):(x.plain=true/\y.plain=true/\w9 x.den y.den)\/w6 l x y:=by unfold Z6 at h;split at h;exact .inr ⟨h.1,x7 h.2.1,h.2.2⟩;exact .inr ⟨h.1,x7 h.2.1,h.2.2⟩;exact .inr h;exact .inr h;exact .inl ⟨h.1,h.2.1,h.2.2.den⟩
def ta.Km{l:a7}:∀{a:L (Nat×SV)},ta l a->qh l a
 |[],_=>trivial
 |(_,_)::_,h=>⟨h.1.Km,ta.Km h.2⟩
def Ju{V:Hid}{w0 w:World}{S0:Nat->Prop}{a:Act}{n:L (Nat×SV)}(hf:qh l n)(h:Inv N V w0 S0 (dn l) a w):Inv N V w0 S0 (dn<|sl n) a w:=by
 obtain⟨S,F,hc,hN,H,B,A,M⟩:=h
 let D:Nat->Bool:=λi=>match(gt (sl n) i).v with|.dead=>true|.bw .. =>true|.ptr .. =>true|.gI .. =>true|_=>false
 have hD:∀i,D i=true->(gt (sl n) i).v=.dead\/w6 l (gt l i).v (gt (sl n) i).v:=by
  intro i hi;rcases Ak hf i with h|h|h;exact .inl h
  ·simp[D]at hi;have:=h.2.1;cases hv:(gt (sl n) i).v<;>rw[hv]at hi this<;>first|exact .inl rfl|(simp[SV.plain]at this;done)|(cases hi;done)
  exact .inr h
 have T:∀i,D i=false->((gt l i).v.plain=true/\(gt (sl n) i).v.plain=true/\w9 (gt l i).v.den (gt (sl n) i).v.den)\/∃J,(gt l i).v=.abs J/\(gt (sl n) i).v=.abs J:=by
  intro i hi;rcases Ak hf i with h|h|h;simp[D,h]at hi;exact .inl h;unfold w6 at h
  grind
 have K:∀i,∃p:L Nat×L Nat,(D i=true->p=([],[]))/\(D i=false->(F i).Perm (p.1++p.2)/\∀s:Nat->Prop,(∀b,S b->s b)->(∀b∈p.2,s b)->an w s (dn<|sl n) (tv V a) i p.1):=by
  intro i;cases hi:D i with
  |true=>simp
  |false=>rcases T i hi with⟨Y,h3,X⟩|⟨J,Y,X⟩;have d:=hc.rel i;rw[an.aC<|by rw[ee,cU];exact Y]at d;obtain⟨F1,F2,hp,u⟩:=X _ _ _ _ d;refine⟨(F1,F2),λh=>by simp at h,λ_=>⟨hp,λs k1 k2=>?_⟩⟩;rw[an.aC<|by rw[ee,cU];exact h3];exact u s k1 k2;refine⟨(F i,[]),λh=>by simp at h,λ_=>⟨I,λs k1 _=>?_⟩⟩;have d:=hc.rel i;unfold an at d⊢;rw[ee,Y]at d;rw[ee,X];exactλw2 S2 q1 q2=>d w2 S2 (λb c=>q1 b<|c.imp (k1 b) id) λb c=>q2 b<|k1 b c
 obtain⟨f,m⟩:=Classical.axiomOfChoice K;have m1:∀i b,b∈(f i).1->D i=false/\b∈F i:=by grind
 have z:∀i b,b∈(f i).2->D i=false/\b∈F i:=by grind
 refine⟨λb=>S b\/∃i,b∈(f i).2,λi=>(f i).1,⟨λi=>?_,λi=>?_,λi j o b c=>?_,λi b c=>?_,λb c=>?_⟩,hN,H,λb c=>.inl<|B b c,λb c=>?_,M⟩;cases hi:D i with
 |true=>
  rcases hD i hi with e|e;rw[an.aC<|by rw[ee,e];rfl];rw[ee,e,(m i).1 hi];simp[SV.den,Rel];rw[(m i).1 hi];have d:=hc.rel i;unfold w6 at e;split at e;rename_i r a1 b1 p t;obtain⟨x,v,Z⟩:=e;unfold an at d⊢;rw[ee,t]at d;rw[ee,x];simp only[SV.den]at d⊢;obtain⟨k1,k2⟩:=v;exact⟨U,aaQ _,aaQ _,λ_ _ _=>d.2.2.2 Z k1 λh=>by rw[ee];exact k2 h⟩;rename_i r a1 b1 p t;obtain⟨x,v,Z⟩:=e;unfold an at d⊢;rw[ee,t]at d;rw[ee,x];simp only[SV.den]at d⊢;obtain⟨k1,k2⟩:=v;exact⟨U,aaQ _,aaQ _,d.2.2.2.1,λ_ _ _=>d.2.2.2.2 Z k1 λh=>by rw[ee];exact k2 h⟩
  grind
  rename_i g y t;obtain⟨x,v⟩:=e;unfold an at d⊢;rw[ee,t]at d;rw[ee,x];simp only[SV.den]at d⊢;refine⟨U,λq u=>by rw[Ic q u];exact aaQ _,λ_=>?_⟩;rw[d.2.2 λq u=>Fe v q u]
  congr 2
  exact(Ie (tv V a) y).symm;exact e.elim
 |false=>grind
 ·show(f i).1.Nodup;cases hi:D i with
  |true=>rw[(m i).1 hi];simp
  |false=>exact(acH.1<|((m i).2 hi).1.nodup_iff.1<|hc.nodup i).1
 intro O;exact hc.di i j o b (m1 i b c).2 (m1 j b O).2;have C:=hc.own i b (m1 i b c).2;refine⟨C.1,C.2.1,?_⟩;rintro(h|⟨j,hj⟩);exact C.2.2 h;by_cases o:i=j;subst o;have hn:=acH.1<|((m i).2 (m1 i b c).1).1.nodup_iff.1<|hc.nodup i
 grind
 exact hc.di i j o b (m1 i b c).2 (z j b hj).2;rcases c with c|⟨i,c⟩;exact hc.shr b c;exact(hc.own i b (z i b c).2).2.1;rcases c with c|⟨i,c⟩;exact A b c;exact .inr (hc.own i b (z i b c).2).1
def AJ{c:Code}{Q:Exit->St->Prop}{b:L (Nat×SV)}(e:qh l b)(h:AW R P N c Q (dn<|sl b)):AW R P N c Q (dn l):=λV d g a w f hi=>h V d g a w f<|Ju e hi
def adP{c:Code}(a:L (Nat×SV))(b:Fits l a)(h:AK R P N F (.code c::k) (sl a)):AK R P N F (.code c::k) l:=AJ b.Km h
def sY{c:Code}(a:L (Nat×SV))(b:ta l a)(h:AK R P N F (.code c::k) (sl a)):AK R P N F (.code c::k) l:=AJ b.Km h
def vR{b:Type}(a:b->L (Nat×SV))(A:b->Prop)(c:b->Nat)(y:b)(σ:St):Prop:=∃d,σ=dn d/\∃z,c z<c y/\A z/\qh d (a z)
def loop{d:Type}(a:d->L (Nat×SV))(A:d->Prop)(b:d->Nat)(x:d){c:Code}(p:A x)(r:Fits l (a x))(q:∀y,A y->AK R P N F (.code c::.inv (vR a A b y)::k) (sl<|a y)):AK R P N F (.code (.loop c)::k) l:=by
 refine Z1 (λn g=>∃y,b y=n/\A y/\∃i,g=dn i/\qh i (a y)) (n:=b x) ⟨x,W,p,l,W,r.Km⟩ ?_;rintro n g⟨y,rfl,o,v,rfl,f⟩;refine jY (AJ f (q y o:AW R P N c (gK R P N F<|.inv (vR a A b y)::k) (dn<|sl<|a y))) λe j h=>?_;cases e with
 |normal=>obtain⟨m,rfl,z,u,t,s⟩:=h;exact⟨b z,u,z,W,t,m,W,s⟩
 |_=>exact h
def again{b:Type}{a:b->L (Nat×SV)}{A:b->Prop}{c:b->Nat}{y:b}(z:b)(f:c z<c y)(e:A z)(d:Fits l (a z)):AK R P N F (.inv (vR a A c y)::k) l:=⟨l,W,z,f,e,d.Km⟩
def ko{b:Type}{a:b->L (Nat×SV)}{A:b->Prop}{c:b->Nat}{y:b}(z:b)(f:c z<c y)(e:A z)(d:ta l (a z)):AK R P N F (.inv (vR a A c y)::k) l:=⟨l,W,z,f,e,d.Km⟩
def w8{b:Type}(a:b->L (Nat×SV))(A:b->Prop)(σ:St):Prop:=∃c,σ=dn c/\∃z,A z/\qh c (a z)
def cut{b:Type}(a:b->L (Nat×SV))(A:b->Prop){c d:Code}(m:AK R P N F (.code c::.inv (w8 a A)::.code d::k) l)(j:∀z,A z->AK R P N F (.code d::k) (sl<|a z)):AK R P N F (.code c::.code d::k) l:=by
 refine jY (m:AW R P N c (gK R P N F<|.inv (w8 a A)::.code d::k) (dn l)) λe f h=>?_;cases e with
 |normal=>obtain⟨n,rfl,z,i,g⟩:=h;exact AJ g (j z i)
 |_=>exact h
def meet{b:Type}{a:b->L (Nat×SV)}{A:b->Prop}(z:b)(d:A z)(c:Fits l (a z)):AK R P N F (.inv (w8 a A)::k) l:=⟨l,W,z,d,c.Km⟩
def adE{b:Type}{a:b->L (Nat×SV)}{A:b->Prop}(z:b)(d:A z)(c:ta l (a z)):AK R P N F (.inv (w8 a A)::k) l:=⟨l,W,z,d,c.Km⟩
end
section
variable{R:Q Nat->Prop}{P:Program}{N:Nat}{F:St->Prop}{k:L It}{l:a7}
section
variable{dd:Code}{β1 β2 β3:Type}
def lp(c:β1->β2->L (Nat×SV))(A:β1->β2->Prop)(f:β1->β2->Nat)(e:β1)(d:β2){cc:Code}(h:A e d)(j:Fits l (c e d))
 (i:∀a b,A a b->AK R P N F (.code cc::.inv (vR (λt:β1×β2=>c t.1 t.2) (λt:β1×β2=>A t.1 t.2) (λt:β1×β2=>f t.1 t.2) (a,b))::k) (sl<|c a b)):AK R P N F (.code (.loop cc)::k) l:=
 loop (λt:β1×β2=>c t.1 t.2) (λt:β1×β2=>A t.1 t.2) (λt:β1×β2=>f t.1 t.2) (e,d) h j λy g=>i y.1 y.2 g
def afk(c:β1->β2->L (Nat×SV))(A:β1->β2->Prop){cc:Code}(f:AK R P N F (.code cc::.inv (w8 (λt:β1×β2=>c t.1 t.2) λt:β1×β2=>A t.1 t.2)::.code dd::k) l)(e:∀a b,A a b->AK R P N F (.code dd::k) (sl<|c a b)):AK R P N F (.code cc::.code dd::k) l:=cut (λt:β1×β2=>c t.1 t.2) (λt:β1×β2=>A t.1 t.2) f λy d=>e y.1 y.2 d
def pV(d:β1->β2->β3->L (Nat×SV))(A:β1->β2->β3->Prop)(h:β1->β2->β3->Nat)(g:β1)(f:β2)(e:β3){cc:Code}(j:A g f e)(n:Fits l (d g f e))
 (m:∀a b c,A a b c->AK R P N F (.code cc::.inv (vR (λt:β1×β2×β3=>d t.1 t.2.1 t.2.2) (λt:β1×β2×β3=>A t.1 t.2.1 t.2.2) (λt:β1×β2×β3=>h t.1 t.2.1 t.2.2) (a,b,c))::k) (sl<|d a b c)):AK R P N F (.code (.loop cc)::k) l:=
 loop (λt:β1×β2×β3=>d t.1 t.2.1 t.2.2) (λt:β1×β2×β3=>A t.1 t.2.1 t.2.2) (λt:β1×β2×β3=>h t.1 t.2.1 t.2.2) (g,f,e) j n λy i=>m y.1 y.2.1 y.2.2 i
def adG{f:Type}(e:β1->β2->β3->f->L (Nat×SV))(A:β1->β2->β3->f->Prop)(m:β1->β2->β3->f->Nat)(j:β1)(i:β2)(h:β3)(g:f){cc:Code}(o:A j i h g)(q:Fits l (e j i h g))
 (p:∀a b c d,A a b c d->AK R P N F (.code cc::.inv (vR (λt:β1×β2×β3×f=>e t.1 t.2.1 t.2.2.1 t.2.2.2) (λt:β1×β2×β3×f=>A t.1 t.2.1 t.2.2.1 t.2.2.2) (λt:β1×β2×β3×f=>m t.1 t.2.1 t.2.2.1 t.2.2.2) (a,b,c,d))::k) (sl<|e a b c d)):AK R P N F (.code (.loop cc)::k) l:=
 loop (λt:β1×β2×β3×f=>e t.1 t.2.1 t.2.2.1 t.2.2.2) (λt:β1×β2×β3×f=>A t.1 t.2.1 t.2.2.1 t.2.2.2) (λt:β1×β2×β3×f=>m t.1 t.2.1 t.2.2.1 t.2.2.2) (j,i,h,g) o q λy n=>p y.1 y.2.1 y.2.2.1 y.2.2.2 n
def acd(a:L (Nat×SV))(A:Prop){cc:Code}(c:AK R P N F (.code cc::.inv (w8 (λ_:Unit=>a) λ_=>A)::.code dd::k) l)(b:A->AK R P N F (.code dd::k) (sl a)):AK R P N F (.code cc::.code dd::k) l:=cut _ _ c λ_ h=>b h
def eU{a:L (Nat×SV)}{A:Prop}(c:A)(b:Fits l a):AK R P N F (.inv (w8 (λ_:Unit=>a) λ_=>A)::k) l:=meet () c b
end
end
section
variable{R:Q Nat->Prop}{P:Program}{N:Nat}{F:St->Prop}{k:L It}{l:a7}
def oZ{g:Type}(a:g->L (Nat×SV))(A:g->Prop){d:Code}(b:∀z,A z->AK R P N F (.code d::k) (sl<|a z)):∀(cs:L Code)(e:Exit)(σ:St),gK R P N F (cs.map .code++.inv (w8 a A)::.code d::k) e σ->gK R P N F (cs.map .code++.code d::k) e σ
 |[],e,σ,h=>by
  cases e with
  |normal=>obtain⟨m,rfl,z,j,i⟩:=h;exact AJ i (b z j)
  |_=>exact h
 |c::cs,e,σ,h=>by
  cases e with
  |normal=>exact jY (h:AW R P N c (gK R P N F<|cs.map .code++.inv (w8 a A)::.code d::k) σ) λe f h=>oZ a A b cs e f h
  |ret=>exact oZ a A b cs .ret σ h
  |exit id=>exact oZ a A b cs (.exit id) σ h
  |goto id=>exact oZ a A b cs (.goto id) σ h
  |panic v=>exact oZ a A b cs (.panic v) σ h
  |outgrown=>exact oZ a A b cs .outgrown σ h
def mU:Nat->Code->L Code×Code
 |n+1,.seq a b=>(a::(mU n b).1,(mU n b).2)
 |_,c=>([],c)
def Dt:∀(n:Nat)(c:Code)(σ:St),gK R P N F ((mU n c).1.map .code++.code (mU n c).2::k) .normal σ->gK R P N F (.code c::k) .normal σ
 |0,c,σ,h=>h
 |n+1,.seq a b,σ,h=>by
  refine W6<|jY (h:AW R P N a (gK R P N F<|(mU n b).1.map .code++.code (mU n b).2::k) σ) λe f h=>?_;have g:∀(cs:L Code)(d:Code)(e:Exit),(e=.normal->False)->gK R P N F (cs.map .code++.code d::k) e f->gK R P N F k e f:=by
   intro cs
   induction cs with
   |nil=>intro d e he h;cases e<;>first|exact aaF rfl he|exact h
   |cons c cs i=>intro d e he h;exact i d e he (by cases e<;>first|exact aaF rfl he|exact h)
  cases e with
  |normal=>exact Dt n b f h
  |ret=>exact g _ _ _ I h
  |exit id=>exact g _ _ _ I h
  |goto id=>exact g _ _ _ I h
  |panic v=>exact g _ _ _ I h
  |outgrown=>exact g _ _ _ I h
 |_+1,.skip,σ,h|_+1,.label _,σ,h|_+1,.region ..,σ,h|_+1,.block ..,σ,h|_+1,.scope ..,σ,h
 |_+1,.exit ..,σ,h|_+1,.ret,σ,h|_+1,.cond ..,σ,h|_+1,.loop ..,σ,h|_+1,.goto ..,σ,h|_+1,.rangeFunc ..,σ,h|_+1,.refuse ..,σ,h=>h
def Cp{b:Type}(n:Nat)(a:b->L (Nat×SV))(A:b->Prop){c:Code}(e:AK R P N F ((mU n c).1.map .code++.inv (w8 a A)::.code (mU n c).2::k) l)(d:∀z,A z->AK R P N F (.code (mU n c).2::k) (sl<|a z)):AK R P N F (.code c::k) l:=Dt n c _ (oZ a A d _ _ _ e)
def cQ(n:Nat)(a:L (Nat×SV))(A:Prop){c:Code}(d:AK R P N F ((mU n c).1.map .code++.inv (w8 (λ_:Unit=>a) λ_=>A)::.code (mU n c).2::k) l)(b:A->AK R P N F (.code (mU n c).2::k) (sl a)):AK R P N F (.code c::k) l:=Cp n _ _ d λ_ h=>b h
def yI{f e:Type}(n:Nat)(d:f->e->L (Nat×SV))(A:f->e->Prop){c:Code}(i:AK R P N F ((mU n c).1.map .code++.inv (w8 (λt:f×e=>d t.1 t.2) λt:f×e=>A t.1 t.2)::.code (mU n c).2::k) l)(g:∀a b,A a b->AK R P N F (.code (mU n c).2::k) (sl<|d a b)):AK R P N F (.code c::k) l:=Cp n _ _ i λy h=>g y.1 y.2 h
end
end Go.Ai
