/- Parts of the proof of ScaleChanges (as AIM.md's row tells), at every input, with no further conditions. -/
import Derived.Test.YtpoaaoihkhdijaaGreatDoorHZAG
import Derived.MapKept
import Derived.Test.YtpoaaoihkhdijaaGreatDoorProg
set_option linter.all false
set_option maxRecDepth 100000
set_option maxHeartbeats 0
namespace Go.Ai
open Go.RowKit
section
variable{P:Program}{w:World}{S:Nat->Prop}
section
variable{ts:Array TypeId}{V:Hid}{X Y:List AV}{vs:List Value}{b i n:Nat}{F:Nat->List Nat}{o:Oper}{d s:Operand}{t:TypeId}{w':World}
def HQ{ty e:TypeId}{ti:TI}(l:ts[0]?=some t)(hu:P.underlying t=some (.slice e))(h:cu P e=some ti){off m1 c1 n2 c2:Nat}{a:Addr}{cs:Array Value}{us:List Value}
 (m:row? w b=some (cs,(0,0)))(hn:Nat.min n2 m1=n)(f:us.length=n*ti.size)(g:∀j v,us[j]?=some v->w.cell? (a.add j)=some v)(q:∀u∈us,u.oneCell'=true)(k:off+n*ti.size<=cs.size):
 (Builtin.copy_ ts ty #[.slice (some ⟨b,off,none⟩) m1 c1,.slice (some a) n2 c2]).run P w=.ok (.int .i64 n) (w.setRow b (cs.toList.take off++us++cs.toList.drop (off+n*ti.size)).toArray):=by
 have hh:∃e,w.heap[b]?=some (.cells cs e (0,0)):=by
  unfold row? at m
  grind
 obtain⟨r,he⟩:=hh;have c:=run_storeCells_at P b off r us 0 cs w he (by simp;omega) q;simp[f]at c;have p:=run_firstCells_some (P:=P) w ti.size n a n2 c2 us f g;simp[Builtin.copy_,l,run_underlying hu,dJ h,Builtin.lenOf,hn,p,c,goInt]
def setRow_other(b:Nat)(cs:Array Value){c:Nat}(h:c≠b):(w.setRow b cs).heap[c]?=w.heap[c]?:=by
 simp[World.setRow]
 grind
def Kz{cs:Array Value}(cs':Array Value)(a:row? w b=some (cs,(0,0))):row? (w.setRow b cs') b=some (cs',(0,0)):=by
 have hh:∃e,w.heap[b]?=some (.cells cs e (0,0)):=by
  unfold row? at a
  grind
 obtain⟨c,he⟩:=hh;have:=setRow_heap w b cs cs' c (0,0) he;simp[row?,this]
def AY(r x:AV):∀i,(both [r] [x] i).av=if i=0 then r else if i=1000000 then x else .dead:=by
 intro i;by_cases hi:i<1000000
 ·rw[gM hi]
  grind
 obtain⟨j,rfl⟩:∃j,i=1000000+j:=⟨i-1000000,E⟩;rw[fT I]
 grind
def copied{args:List AV}{sz:Nat}{p:List AV}{cap:Nat}{cs cs':Array Value}{n:Int}(K:args.length<=1000000)(hc:aT S V.g (both args [.list .own sz X]) (bg V vs) w F)
 (D:V.v 1000000=.slice (some ⟨b,0,none⟩) X.length cap)(y:row? w b=some (cs,(0,0)))(B:F 1000000=[b])(l:X.length<=cap/\cap<=maxLen)(r:cs'.size=cap*sz)(f:p.length=X.length)
 (C:c7 (w.setRow b cs') S sz p (cs'.toList.take<|X.length*sz) []):
 ∃S' F',tV V w w (w.setRow b cs')/\(∀b,S b->S' b)/\(∀b,S' b->S b\/cQ V w b)/\aT S' (cQ V w) (both [.v<|.int .i64 n] [.list .own sz p]) (bg V [.int .i64 n]) (w.setRow b cs') F':=by
 have a:=hc.own 1000000 b (by rw[B];simp);have q:(w.setRow b cs').heap.size=w.heap.size:=I;refine⟨S,λi=>if i=1000000 then[b]else[],⟨W,W,W,E,λk H J=>setRow_other b cs' λe=>eW⟩,λ_ h=>h,λ_ h=>.inl h,
  ⟨λi=>?_,λi=>?_,λi j z c m=>?_,λi c m=>?_,λc h=>by rw[q];exact hc.shr c h⟩⟩
 ·rw[an.aA<|by rw[AY];split;rfl;split<;>rfl,AY];by_cases x:i=0
  ·subst x;exact kL
  by_cases u:i=1000000
  ·subst u;have A:bg V [.int .i64 n] 1000000=.slice (some ⟨b,0,none⟩) p.length cap:=by
    unfold bg;simp_all
   rw[A];exact .inr ⟨b,cap,cs',[],W,Kz cs' y,by rw[f];exact l.1,l.2,r,by rw[f];exact C,W⟩
  simp[x,u,Rel]
 ·split<;>simp
 ·grind
 split at m
 ·simp at m;subst m;exact⟨.inr a.1,E,a.2.2⟩
 cases m
def Na{sz off cap:Nat}{cs:Array Value}{us:List Value}(j:c7 w' S sz X (cs.toList.take<|X.length*sz) [])(hY:c7 w' S sz (Y.take n) us [])(hn:(Y.take n).length=n)(c:off+n<=X.length)(f:cs.size=cap*sz)(a:X.length<=cap):
 c7 w' S sz (X.take off++Y.take n++X.drop (off+n)) ((cs.toList.take (off*sz)++us++cs.toList.drop (off*sz+n*sz)).take<|X.length*sz) []:=by
 have p:us.length=n*sz:=by have:=c7.length sz hY;simp_all
 have hc:cs.toList.length=cap*sz:=f;have m1:X.length*sz<=cap*sz:=aeX _ a;have m:(off+n)*sz<=X.length*sz:=aeX _ c;have k:off*sz+n*sz=(off+n)*sz:=(ae9 _ _ _).symm;have h:=c7.sub sz 0 off j E;have g:=c7.sub sz (off+n) (X.length-(off+n)) j E;simp at h;rw[ahX,af3 E]at h;rw[adM (l:=X.drop<|off+n) I]at g;have q:((cs.toList.take<|X.length*sz).drop<|(off+n)*sz).take ((X.length-(off+n))*sz)=(cs.toList.drop<|(off+n)*sz).take ((X.length-(off+n))*sz):=by
  rw[List.drop_take,ahX,af3]
  grind
 rw[q]at g;have e:(cs.toList.take (off*sz)++us++cs.toList.drop (off*sz+n*sz)).take (X.length*sz)=cs.toList.take (off*sz)++us++(cs.toList.drop<|(off+n)*sz).take ((X.length-(off+n))*sz):=by
  have hl:(cs.toList.take (off*sz)++us).length=(off+n)*sz:=by grind
  rw[List.take_append,adM<|by rw[hl];exact m,hl,k,Nat.sub_mul]
 rw[e];have:=(h.append sz hY).append sz g;simpa using this
def IV{args:List AV}{sz:Nat}(l:args.length<=1000000)(hc:aT S V.g (both args [.list .own sz X]) (bg V vs) w F)(x:X≠[])(a:bU X=true):
 ∃b cap cs,V.v 1000000=.slice (some ⟨b,0,none⟩) X.length cap/\row? w b=some (cs,(0,0))/\F 1000000=[b]/\X.length<=cap/\cap<=maxLen/\cs.size=cap*sz/\c7 w S sz X (cs.toList.take<|X.length*sz) []/\¬S b:=by
 have e:=hc.rel 1000000;have f:=fT (args:=args) (H:=[.list .own sz X]) l 0;rw[an.aA<|by rw[f];rfl,f]at e;rcases e with⟨h,-⟩|⟨b,cap,cs,y,u,r,q,p,m,k,j⟩
 ·simp_all
 have c:=c7.aG sz k a;subst c;exact⟨b,cap,cs,u,r,j,q,p,m,k,(hc.own 1000000 b<|by rw[j];simp).2.2⟩
def EV{a:Operand->Value}(e:o.op=.call ⟨.builtin .copy,#[d,s],ts⟩)(c:o.op.operands.toList.map a=vs){v:Value}(h:∀x y,vs=[x,y]->(Builtin.copy_ ts o.type #[x,y]).run P w=.ok v w'):
 (execOp a o).run P w=.ok (.value v) w':=by
 have:=h (a d) (a s) (by rw[<-c,e];rfl);simp[execOp,e,Go.resolve,invoke,builtin,this]
def Mb{args:List AV}{sz cap c m:Nat}(hi:i<1000000)(hc:aT S V.g (both args [.list .own sz X]) (bg V vs) w F)(l:V.v 1000000=.slice (some ⟨b,0,none⟩) n cap)
 (p:args[i]?=some (.bC 1000000 0 0 [.lZ sz c m]))(j:args.length<=1000000)(q:0<m/\c+m<=X.length):vs.getD i undef=.slice (some ⟨b,c*sz,none⟩) m (cap-c):=by
 have f:bg V vs 1000000=V.v 1000000:=fb;have hs:=hc.rel i;have k:=gM (args:=args) (H:=[.list .own sz X]) hi;rw[p]at k;unfold an at hs;rw[k]at hs;obtain⟨-,-,-,h⟩:=hs;obtain⟨L,k1,k2,-⟩:=h (LP _).1 (.inr (LP _).2) λ_=>by have a:=fT (args:=args) (H:=[.list .own sz X]) j 0;simp at a;rw[a];simp only[bp];simp_all
 rw[f,l]at k1;simp[loc,step1,Go.Ai.cm]at k1;subst k1;have e:bg V vs i=vs.getD i undef:=by unfold bg;rw[if_pos hi]
 rw[e]at k2;rw[k2,Addr.add_lit];simp
def xr{args:List AV}{x:AV}(hi:i<1000000)(hc:aT S V.g (both args [x]) (bg V vs) w F)
 (f:args[i]?=some (.bC 1000000 0 0 [])):vs.getD i undef=V.v 1000000:=by
 have a:bg V vs 1000000=V.v 1000000:=fb;have hs:=hc.rel i;have c:=gM (args:=args) (H:=[x]) hi;rw[f]at c;unfold an at hs;rw[c]at hs;obtain⟨-,-,-,h⟩:=hs;obtain⟨L,k1,k2,-⟩:=h (LP _).1 (.inl W) λh=>by simp[kh]at h
 simp[loc]at k1;subst k1;have e:bg V vs i=vs.getD i undef:=by unfold bg;rw[if_pos hi]
 rw[e]at k2;rw[k2,a]
def Nq{off:Nat}{cs:Array Value}{a:Nat×Nat}(c:row? w b=some (cs,a)){us:List Value}(h:∀j v,us[j]?=some v->cs.toList[off+j]?=some v)(j:Nat)(v:Value)(f:us[j]?=some v):w.cell? ((⟨b,off,none⟩:Addr).add j)=some v:=by
 have hh:∃e,w.heap[b]?=some (.cells cs e a):=by
  unfold row? at c
  grind
 obtain⟨e,he⟩:=hh;rw[Addr.add_lit];simp[World.cell?,he];simp_all
def E8{e:TypeId}{ti:TI}(R:o.op=.call ⟨.builtin .copy,#[d,s],ts⟩)(Q:ts[0]?=some t)(hu:P.underlying t=some (.slice e))(H:cu P e=some ti){sz:Nat}(k:sz=ti.size)
 (hX:X≠[])(K:bU X=true)(L:X.all (fits ti)=true){off m1 m2:Nat}(hn:Nat.min m2 m1=n)(h1:off+m1<=X.length)(h2:m2<=X.length)(g1:0<m1)(g2:0<m2):
   SI P o [.list .own sz X] [.bC 1000000 0 0 [.lZ sz off m1],.bC 1000000 0 0 [.lZ sz 0 m2]] [.list .own sz<|X.take off++X.take n++X.drop (off+n)] (.v<|.int .i64 n):=by
  intro w S V vs F hl hc ρ A;obtain⟨b,f,l,B,J,hF,g,p,r,N,M⟩:=IV I hc hX K;have T:n<=m1/\n<=m2:=by grind
  obtain⟨x,y,rfl⟩:∃x y,vs=[x,y]:=by
   match vs,hl with
   |[x,y],_=>exact⟨x,y,W⟩
  have hx:x=.slice (some ⟨b,off*sz,none⟩) m1 (f-off):=Mb (i:=0) E hc B W I ⟨g1,h1⟩;have hy:y=.slice (some ⟨b,0*sz,none⟩) m2 (f-0):=Mb (i:=1) E hc B W I ⟨g2,E⟩;have Z:l.toList.length=f*sz:=by simpa using r
  have q2:(off+n)*sz<=f*sz:=aeX _ E;have q3:(off+n)*sz=off*sz+n*sz:=ae9 _ _ _;have q4:n*sz<=X.length*sz:=aeX _ E;obtain⟨us,O⟩:∃us,us=l.toList.take (n*sz):=⟨_,W⟩;have C:us.length=n*sz:=by grind
  have z:c7 w S sz (X.take n) us []:=by
   have:=c7.sub sz 0 n N E
   grind
  have m:=HQ (P:=P) (w:=w) (ty:=o.type) Q hu H (m1:=m1) (c1:=f-off) (n2:=m2) (c2:=f-0) (a:=⟨b,0*sz,none⟩) (off:=off*sz) (us:=us) J hn (by rw[<-k];exact C) (by
   refine Nq J λj v hj=>?_
   grind) (by
   intro u D;refine c7.one sz k z ?_ u D
   grind) eW
  rw[<-k]at m;refine⟨_,.int .i64 n,_,EV R A λx' y' e=>?_,.inl W,copied I hc B J hF ⟨g,p⟩ (cs':=(l.toList.take (off*sz)++us++l.toList.drop (off*sz+n*sz)).toArray) ?_ ?_ ?_⟩
  ·simp_all
  ·grind
  ·grind
  have q:∀c,S c\/c∈([]:List Nat)->(w.setRow b (l.toList.take (off*sz)++us++l.toList.drop (off*sz+n*sz)).toArray).heap[c]?=w.heap[c]?:=by
   rintro c(h|h)
   ·exact setRow_other b _ λe=>M (e▸h)
   cases h
  exact Na (c7.frame sz _ N q) (c7.frame sz _ z q) (by simp;omega) E r g
def Nh{e:TypeId}{ti:TI}(ho:o.op=.call ⟨.builtin .copy,#[d,s],ts⟩)(ht:ts[0]?=some t)(hu:P.underlying t=some (.slice e))(N:cu P e=some ti){sz:Nat}(p:sz=ti.size)
 (hX:X≠[])(O:bU X=true)(hY:Y≠[])(Q:Y.all (fits ti)=true)(hn:Nat.min Y.length X.length=n):
   SI P o [.list .own sz X] [.bC 1000000 0 0 [],.list .shr sz Y] [.list .own sz<|Y.take n++X.drop n] (.v<|.int .i64 n):=by
  intro w S V vs F hl hc ρ J;obtain⟨b,g,f,Z,hr,hF,m,A,C,hE,R⟩:=IV I hc hX O;have B0:n<=Y.length/\n<=X.length:=by grind
  obtain⟨x,y,rfl⟩:∃x y,vs=[x,y]:=by
   match vs,hl with
   |[x,y],_=>exact⟨x,y,W⟩
  have hx:x=.slice (some ⟨b,0,none⟩) X.length g:=(xr (i:=0) E hc W).trans Z;have q:=hc.rel 1;have r:=gM (args:=[.bC 1000000 0 0 [],.list .shr sz Y]) (H:=[.list .own sz X]) (i:=1) E;simp[List.getElem?_cons_succ,ahz]at r;rw[an.aA<|by rw[r];rfl,r]at q;have K:bg V [x,y] 1=y:=W;rw[K]at q;rcases q with⟨h,-⟩|⟨b2,k,D,T,D2,h3,h4,h5,h6,h7,h8⟩
  ·exact absurd h hY
  have D1:f.toList.length=g*sz:=by simpa using C
  have q1:n*sz<=g*sz:=aeX _ E;have q4:n*sz<=Y.length*sz:=aeX _ E;obtain⟨us,A0⟩:∃us,us=(T.toList.drop k).take (n*sz):=⟨_,W⟩;have z:c7 w S sz (Y.take n) us []:=by
   have:=c7.sub sz 0 n h7 E
   grind
  have L:us.length=n*sz:=by have:=c7.length sz z;simp_all
  have l:=HQ (P:=P) (w:=w) (ty:=o.type) ht hu N (m1:=X.length) (c1:=g) (n2:=Y.length) (c2:=D) (a:=⟨b2,k,none⟩) (off:=0) (us:=us) hr hn (by rw[<-p];exact L) (by
   refine Nq h5 λj v hj=>?_
   grind) (by
   intro u M;refine c7.one sz p z ?_ u M
   grind) eW
  rw[<-p]at l;have e0:Y.take n++X.drop n=X.take 0++Y.take n++X.drop (0+n):=I;have e1:f.toList.take 0++us++f.toList.drop (0+n*sz)=f.toList.take (0*sz)++us++f.toList.drop (0*sz+n*sz):=I;rw[e1]at l;refine⟨_,.int .i64 n,_,EV ho J λx' y' e=>?_,.inl W,copied I hc Z hr hF ⟨m,A⟩ (cs':=(f.toList.take (0*sz)++us++f.toList.drop (0*sz+n*sz)).toArray) ?_ ?_ ?_⟩
  ·simp_all
  ·simp_all
  ·simp_all
  have B:∀c,S c\/c∈([]:List Nat)->(w.setRow b (f.toList.take (0*sz)++us++f.toList.drop (0*sz+n*sz)).toArray).heap[c]?=w.heap[c]?:=by
   rintro c(h|h)
   ·exact setRow_other b _ λe=>R (e▸h)
   cases h
  rw[e0];exact Na (c7.frame sz _ hE B) (c7.frame sz _ z B) (by simp;omega) E C m
end
end
def nG{a:Machine->Prop}{P:Program}{m s t:Machine}(h:StepsIn a P m t)(hs:step P m=.next s)(b:m≠t):StepsIn a P s t:=by
 cases h with
 |refl=>simp_all
 |head c e d=>simp_all
def uZ{id:Nat}:∀{k a:List Item},exitTo id k=some a->a.length<=k.length
 |[],a,h=>by simp[exitTo]at h
 |x::k,a,h=>by
  cases x with
  |inBlock b=>
   simp[exitTo]at h;split at h
   ·cases h;simp
   have:=uZ h;simp;omega
  |_=>simp[exitTo]at h;have:=uZ h;simp;omega
def Wh:Exit->Bool
 |.normal|.exit _|.ret=>true
 |_=>false
def Yf(Q:Exit->St->Prop)(K:St->Prop):Exit->St->Prop
 |.normal,σ=>K σ
 |e,σ=>Q e σ
section
variable{R:Option Nat->Prop}{P:Program}{N:Nat}{F:St->Prop}{k:List It}{l:aU}{σ:St}
def Pq{c:Code}{Q:Exit->St->Prop}(Z:∀e σ,Q e σ->Wh e=true)(h:AW R P N c (Yf Q λS=>AW R P N (.loop c) Q S) σ):AW R P N (.loop c) Q σ:=by
 intro V X S0 a w T hi b k q C O M;obtain⟨e,j,i,⟨f,v,g⟩,m⟩:=h V X S0 a w T hi b (.inLoop c::k) q C O M;have first:∀{e L z},ArrivesIn (Machine.fenced P<|FW V.rd) P (lone (b.atR a<|.code c::.inLoop c::k) q w) b k q e L z->ArrivesIn (Machine.fenced P<|FW V.rd) P (lone (b.atR a<|.code (.loop c)::k) q w) b k q e L z:=λh=>.of_steps (.one (fenced_calm O M W) stepR_loop) h
 cases e with
 |normal=>
  obtain⟨s,K,y,⟨t,p,u⟩,d⟩:=AW.x (v:AW R P N (.loop c) Q f) T g b k q C O M;refine⟨s,K,y,⟨t,p,u⟩,first<|.of_steps m<|.of_steps (.one (fenced_calm O M W) stepR_inLoop) ?_⟩;have o:step P (lone (b.atR j<|.code (.loop c)::k) q i)=.next (lone (b.atR j<|.code c::.inLoop c::k) q i):=stepR_loop;have r:∀{B:List Item}{L:Act}{z:World},lone (b.atR j<|.code (.loop c)::k) q i=lone (b.atR L B) q z->.code (.loop c)::k=B:=by intro B L z hh;simp[lone,Frame.atR,Frame.mk.injEq]at hh;simp_all
  have Y:=Z _ _ p;cases s with
  |normal=>refine nG d o λhh=>?_;have:=congrArg List.length<|r hh;simp at this
  |exit id=>
   refine⟨λB D=>nG (d.1 B D) o λhh=>?_,λJ h2=>?_⟩
   ·have e1:=congrArg List.length (r hh);have e2:=uZ D;simp at e1;omega
   obtain⟨n,h3,H⟩:=d.2 J h2;refine⟨n,h3,nG H o λhh=>?_⟩
   grind
  |ret=>
   refine⟨λJ=>?_,λJ=>?_⟩
   ·obtain⟨A,H⟩:=d.1 J;refine⟨A,nG H o λhh=>?_⟩;simp[lone,Frame.atR]at hh
   obtain⟨n,H⟩:=d.2 J;refine⟨n,nG H o λhh=>?_⟩
   grind
  |_=>simp[Wh]at Y
 |exit id=>exact⟨_,j,i,⟨f,v,g⟩,first<|.pass (x:=.inLoop c) W (λ_ _=>.inl I) m⟩
 |goto l=>exact⟨_,j,i,⟨f,v,g⟩,first<|.pass (x:=.inLoop c) W (λ_ _=>.inl I) m⟩
 |ret=>exact⟨_,j,i,⟨f,v,g⟩,first<|.pass (x:=.inLoop c) W (λ_ _=>.inl I) m⟩
 |panic ch=>exact⟨_,j,i,⟨f,v,g⟩,first<|.pass (x:=.inLoop c) W (λ_ _=>.inl I) m⟩
 |outgrown=>exact⟨_,j,i,⟨f,v,g⟩,first<|.pass (x:=.inLoop c) W (λ_ _=>.inl I) m⟩
def lM:∀{k:List It}{e:Exit}{σ:St},iR R P N F k e σ->Wh e=true
 |[],e,σ,h=>by cases e<;>first|rfl|exact h.elim
 |.code c::k,e,σ,h=>by cases e<;>first|rfl|exact lM (k:=k) h
 |.jS id::k,e,σ,h=>by cases e<;>first|rfl|exact lM (k:=k) h
 |.Wp::k,e,σ,h=>by cases e<;>first|rfl|exact h.elim|exact lM (k:=k) h
 |.ops all b::k,e,σ,h=>by cases e<;>first|rfl|exact lM (k:=k) h
 |.ng all f b d::k,e,σ,h=>by cases e<;>first|rfl|exact lM (k:=k) h
 |.inv a::k,e,σ,h=>by cases e<;>first|rfl|exact lM (k:=k) h
def gR{c:Code}(h:AK R P N F (.code c::.code (.loop c)::k) l):AK R P N F (.code (.loop c)::k) l:=by refine Pq (λe σ h=>lM h)<|jr (h:AW R P N c (iR R P N F<|.code (.loop c)::k) (dn l)) λe a h=>?_;cases e<;>exact h
end
def GW:List Pd->Bool
 |[]=>true
 |⟨_,b,_⟩::l=>match b with
  |true=>GW l
  |false=>false
def aP:∀{l:List Pd},GW l=true->bo l
 |[],_=>trivial
 |⟨p,b,h⟩::l,hc=>by
  cases b with
  |true=>exact⟨h W,aP hc⟩
  |false=>cases hc
def oW{α:Type _}(n:Nat)(k:Nat->α):α:=match n with
 |0=>k 0
 |m+1=>k<|Nat.succ m
def qH{α:Type _}(n:Nat)(k:Nat->α):oW n k=k n:=by cases n<;>rfl
def RC{α:Type _}(a:Int)(k:Int->α):α:=match a with
 |.ofNat n=>oW n λn=>k (.ofNat n)
 |.negSucc n=>oW n λn=>k<|.negSucc n
def GC{α:Type _}(a:Int)(k:Int->α):RC a k=k a:=by cases a<;>simp[RC,qH]
def Dw{α:Type _}(b:Bool)(k:Bool->α):α:=match b with
 |true=>k true
 |false=>k false
def nf{α:Type _}(b:Bool)(k:Bool->α):Dw b k=k b:=by cases b<;>rfl
def Jc{α:Type _}:List Int->(List Int->α)->α
 |[],k=>k []
 |x::xs,k=>RC x λx=>Jc xs λxs=>k<|x::xs
def Ce{α:Type _}:∀(l:List Int)(k:List Int->α),Jc l k=k l
 |[],k=>rfl
 |x::xs,k=>by simp[Jc,GC,Ce xs]
def RF{α:Type _}:hO->(hO->α)->α
 |[],k=>k []
 |x::xs,k=>oW x.toNat λn=>RF xs λxs=>k<|UInt8.ofNat n::xs
def GD{α:Type _}:∀(l:hO)(k:hO->α),RF l k=k l
 |[],k=>rfl
 |x::xs,k=>by simp[RF,qH,GD xs]
def MW{α:Type _}:List hO->(List hO->α)->α
 |[],k=>k []
 |x::xs,k=>RF x λx=>MW xs λxs=>k<|x::xs
def Jd{α:Type _}:∀(l:List hO)(k:List hO->α),MW l k=k l
 |[],k=>rfl
 |x::xs,k=>by simp[MW,GD,Jd xs]
def MX{α:Type _}:List Bool->(List Bool->α)->α
 |[],k=>k []
 |x::xs,k=>Dw x λx=>MX xs λxs=>k<|x::xs
def Je{α:Type _}:∀(l:List Bool)(k:List Bool->α),MX l k=k l
 |[],k=>rfl
 |x::xs,k=>by simp[MX,nf,Je xs]
def GB{α:Type _}:Path->(Path->α)->α
 |[],k=>k []
 |x::xs,k=>match x with
  |.idx i sz=>oW i λi=>oW sz λsz=>GB xs λxs=>k (.idx i sz::xs)
  |.at o n=>GB xs λxs=>k (.at o n::xs)
  |.deref=>GB xs λxs=>k (.deref::xs)
  |.bW i=>GB xs λxs=>k (.bW i::xs)
  |.lZ a b c=>oW a λa=>oW b λb=>oW c λc=>GB xs λxs=>k<|.lZ a b c::xs
def GA{α:Type _}:∀(l:Path)(k:Path->α),GB l k=k l
 |[],k=>rfl
 |x::xs,k=>by cases x<;>simp[GB,qH,GA xs]
def RE{α:Type _}{a:Type}(g:a->(SV->α)->α):List a->(List SV->α)->α
 |[],f=>f []
 |x::xs,f=>g x λx=>RE g xs λxs=>f<|x::xs
mutual
def lY{α:Type _}:SV->(SV->α)->α
 |.n k a,f=>RC a λa=>f (.n k a)
 |.b x,f=>Dw x λx=>f (.b x)
 |.u x,f=>Dw x λx=>f (.b x)
 |.s x,f=>RF x λx=>f (.s x)
 |.c x,f=>f (.c x)
 |.nil,f=>f .nil
 |.ints k o xs,f=>Dw o λo=>Jc xs λxs=>f (.ints k o xs)
 |.fv k xs,f=>match xs with
  |[]=>f .nil
  |x::xs=>RC x λx=>Jc xs λxs=>f (.ints k false<|x::xs)
 |.strs o xs,f=>Dw o λo=>MW xs λxs=>f (.strs o xs)
 |.cz o xs,f=>Dw o λo=>MX xs λxs=>f (.cz o xs)
 |.bA o sz _ e xs,f=>Dw o λo=>RE (λx=>lY<|e x) xs λxs=>f (.row o sz xs)
 |.row o sz xs,f=>Dw o λo=>Dv xs λxs=>f (.row o sz xs)
 |.agg xs,f=>Dv xs λxs=>f (.agg xs)
 |.bW xs,f=>Dv xs λxs=>f (.bW xs)
 |.box o x,f=>Dw o λo=>lY x λx=>f (.box o x)
 |.fn g a c,f=>Dv a λa=>Dv c λc=>f (.fn g a c)
 |.bC r a b p,f=>oW a λa=>oW b λb=>GB p λp=>f (.bC r a b p)
 |.ptr r a b p,f=>oW a λa=>oW b λb=>GB p λp=>f (.ptr r a b p)
 |.hole,f=>f .hole
 |.dead,f=>f .dead
 |.pv C,f=>f (.pv C)
 |.abs J,f=>f (.abs J)
 |.fS g d,f=>f (.fS g d)
 |.mp K,f=>f<|.mp K
def Dv{α:Type _}:List SV->(List SV->α)->α
 |[],f=>f []
 |x::xs,f=>lY x λx=>Dv xs λxs=>f<|x::xs
end
def ER{α:Type _}{a:Type}{g:a->(SV->α)->α}{e:a->SV}(h:∀x k,∃y,y.den=(e x).den/\g x k=k y):∀(l:List a)(k:List SV->α),∃ys,aB ys=aB (l.map e)/\RE g l k=k ys
 |[],k=>⟨[],W,W⟩
 |x::xs,k=>by obtain⟨y,f,d⟩:=h x λy=>RE g xs λxs=>k<|y::xs;obtain⟨ys,c,b⟩:=ER h xs λxs=>k<|y::xs;exact⟨y::ys,by simp[aB,f,c],by simp[RE,d,b]⟩
mutual
theorem tl{α:Type _}:∀(x:SV)(k:SV->α),∃y,y.den=x.den/\lY x k=k y
 |.n k a,f=>⟨.n k a,W,by simp[lY,GC]⟩
 |.b x,f=>⟨.b x,W,by simp[lY,nf]⟩
 |.u x,f=>⟨.b x,W,by simp[lY,nf]⟩
 |.s x,f=>⟨.s x,W,by simp[lY,GD]⟩
 |.c x,f=>⟨.c x,W,W⟩
 |.nil,f=>⟨.nil,W,W⟩
 |.ints k o xs,f=>⟨.ints k o xs,W,by simp[lY,nf,Ce]⟩
 |.fv k xs,f=>by
  cases xs with
  |nil=>exact⟨.nil,W,W⟩
  |cons x xs=>exact⟨.ints k false<|x::xs,W,by simp[lY,GC,Ce]⟩
 |.strs o xs,f=>⟨.strs o xs,W,by simp[lY,nf,Jd]⟩
 |.cz o xs,f=>⟨.cz o xs,W,by simp[lY,nf,Je]⟩
 |.bA o sz _ e xs,f=>by obtain⟨ys,h,d⟩:=ER (g:=λx=>lY<|e x) (λx k=>tl (e x) k) xs λxs=>f<|.row o sz xs;exact⟨.row o sz ys,by simp only[SV.den,h,cn,agz];rfl,by simp[lY,nf,d]⟩
 |.row o sz xs,f=>by obtain⟨ys,h,d⟩:=nr xs λxs=>f<|.row o sz xs;exact⟨.row o sz ys,by simp[SV.den,h],by simp[lY,nf,d]⟩
 |.agg xs,f=>by obtain⟨ys,h,d⟩:=nr xs λxs=>f<|.agg xs;exact⟨.agg ys,by simp[SV.den,h],by simp[lY,d]⟩
 |.bW xs,f=>by obtain⟨ys,h,d⟩:=nr xs λxs=>f<|.bW xs;exact⟨.bW ys,by simp[SV.den,h],by simp[lY,d]⟩
 |.box o x,f=>by obtain⟨y,h,d⟩:=tl x λx=>f<|.box o x;exact⟨.box o y,by simp[SV.den,h],by simp[lY,nf,d]⟩
 |.fn g a c,f=>by obtain⟨ys,h,d⟩:=nr a λa=>Dv c λc=>f<|.fn g a c;obtain⟨m,l,j⟩:=nr c λc=>f<|.fn g ys c;exact⟨.fn g ys m,by simp[SV.den,h,l],by simp[lY,d,j]⟩
 |.bC r a b p,f=>⟨.bC r a b p,W,by simp[lY,qH,GA]⟩
 |.ptr r a b p,f=>⟨.ptr r a b p,W,by simp[lY,qH,GA]⟩
 |.hole,f=>⟨.hole,W,W⟩
 |.dead,f=>⟨.dead,W,W⟩
 |.pv C,f=>⟨.pv C,W,W⟩
 |.abs J,f=>⟨.abs J,W,W⟩
 |.fS g i,f=>⟨.fS g i,W,W⟩
 |.mp K,f=>⟨.mp K,W,W⟩
theorem nr{α:Type _}:∀(x:List SV)(k:List SV->α),∃y,aB y=aB x/\Dv x k=k y
 |[],k=>⟨[],W,W⟩
 |x::xs,k=>by obtain⟨y,h,d⟩:=tl x λy=>Dv xs λxs=>k<|y::xs;obtain⟨ys,l,j⟩:=nr xs λxs=>k<|y::xs;exact⟨y::ys,by simp[aB,h,l],by simp[Dv,d,j]⟩
end
def O8{α:Type _}(d:Nat):aU->(aU->α)->α
 |[],k=>k []
 |(e,x)::l,k=>match Nat.beq d e with
  |true=>k l
  |false=>O8 d l λl'=>k<|(e,x)::l'
def E5{α:Type _}(d:Nat):∀(l:aU)(k:aU->α),∃l',(∀i,i≠d->gt l' i=gt l i)/\O8 d l k=k l'
 |[],k=>⟨[],λ_ _=>rfl,W⟩
 |(e,x)::l,k=>by
  cases a:Nat.beq d e with
  |true=>
   have:=afb a;subst this;refine⟨l,λi hi=>?_,by simp[O8]⟩;have:Nat.beq i d=false:=by
    cases a:Nat.beq i d with
    |false=>rfl
    |true=>simp_all
   simp[gt,this]
  |false=>
   obtain⟨l',c,b⟩:=E5 d l λl'=>k<|(e,x)::l';refine⟨(e,x)::l',λi hi=>?_,by simp[O8,a,b]⟩;simp[gt];cases Nat.beq i e with
   |true=>rfl
   |false=>exact c i hi
def RD{α:Type _}:Nat->aU->(aU->α)->α
 |0,l,k=>k l
 |n+1,l,k=>match l with
  |[]=>k []
  |(d,x)::l=>match x with
   |⟨v,a,b⟩=>RD n l λl=>O8 d l λl=>lY v λv=>oW a λa=>oW b λb=>k<|(d,⟨v,a,b⟩)::l
def yc{α:Type _}:∀(n:Nat)(l:aU)(k:aU->α),∃l',dn l'=dn l/\RD n l k=k l'
 |0,l,k=>⟨l,W,W⟩
 |n+1,[],k=>⟨[],W,W⟩
 |n+1,(d,⟨v,a,b⟩)::l,k=>by
  obtain⟨e,o,m⟩:=yc n l λl=>O8 d l λl=>lY v λv=>oW a λa=>oW b λb=>k<|(d,⟨v,a,b⟩)::l;obtain⟨c,j,h⟩:=E5 d e λl=>lY v λv=>oW a λa=>oW b λb=>k<|(d,⟨v,a,b⟩)::l;obtain⟨y,g,f⟩:=tl v λv=>oW a λa=>oW b λb=>k<|(d,⟨v,a,b⟩)::c;refine⟨(d,⟨y,a,b⟩)::c,?_,by show RD n l _=_;rw[m,h,f,qH,qH]⟩;rw[fR,fR,<-o]
  funext i
  unfold iI;by_cases hi:i=d
  ·simp[hi,Cl.den,g]
  simp[hi,dn,j i hi]
abbrev pW:=FuncId->List SV->Option SV
structure FnI where
 nt:Nat
 body:Code
 rs:List ResultVar
def Uv(P:Program)(g:FuncId):Option FnI:=match nth P.funcs.toList g with
 |some fn=>match fn.body with
  |some c=>some ⟨fn.ntmps,c,fn.results.toList⟩
  |none=>none
 |none=>none
def Ie(fn:Func):Bool:=eX (not'<|fn.name== "runtime.NumGoroutine")<|eG fn.results.toList []
abbrev Ex:=Nat->List It->aU->List It×aU
def Th(ex:Ex)(P:Program)(tt:TT)(T:pW)(g:FuncId)(asx:List SV):Option SV:=
 match T g asx with
 |some r=>some r
 |none=>match Uv P g with
  |some ⟨nt,c,rs⟩=>match Nat.ble (len asx) nt with
   |true=>match ex nt [.code c] (Ay 0 asx)with
    |(k,l)=>match k with
     |[]=>match iB tt l rs with
      |some a=>some (vK a)
      |none=>none
     |_::_=>none
   |false=>none
  |none=>none
def J2(l:aU):Nat->Nat->Option (List SV)
 |_,0=>some []
 |k,n+1=>match gt l k with
  |⟨v,_,_⟩=>match v.plain with
   |true=>match J2 l (k+1) n with
    |some a=>some (v::a)
    |none=>none
   |false=>none
def Qu(ex:Ex)(P:Program)(tt:TT)(g:FuncId)(asx H:List SV):Option (List SV×SV):=
 match Uv P g with
 |some ⟨nt,c,rs⟩=>match eX (Nat.ble (len asx) nt) (Nat.ble nt 1000000)with
  |true=>match ex nt [.code c] (RO asx H)with
   |(k,l)=>match k with
    |[]=>match iB tt l rs,J2 l 1000000 (len H)with
     |some b,some a=>some (a,vK b)
     |_,_=>none
    |_::_=>none
  |false=>none
 |none=>none
def XT(ex:Ex)(P:Program)(tt:TT)(T:pW)(B:List Nat)(l:aU)(b:Option Nat)(f:Operand)(asx:List Operand):Option (aU×List Nat):=
 match oE l f asx with
 |some (d,⟨g,c,sh⟩)=>match eX (not'<|Gk g B) (GW d)with
  |true=>match Th ex P tt T g c with
   |some r=>match jE l b r sh with
    |some (a,e,h)=>match GW a with
     |true=>some (e,h)
     |false=>none
    |none=>none
   |none=>none
  |false=>none
 |none=>none
def TH(ex:Ex)(P:Program)(tt:TT)(l:aU)(a:Option Nat):aaj->Option (aU×List Nat)
 |⟨g,xs,R⟩=>match Qu ex P tt g xs (lD R)with
  |some (out,r)=>ij l a R out r
  |none=>none
def VQ(ex:Ex)(P:Program)(tt:TT)(T:pW)(B:List Nat)(l:aU)(a:Option Nat)(f:Operand)(asx:List Operand):Option (aU×List Nat):=
 match XT ex P tt T B l a f asx with
 |some y=>some y
 |none=>match sw l f asx with
  |some (b,h)=>match GW b with
   |true=>TH ex P tt l a h
   |false=>none
  |none=>match Cb l f asx with
   |some h=>TH ex P tt l a h
   |none=>none
def HC(tt:TT)(a:List Nat)(all:List Oper)(l:aU)(o:Oper):Option (aU×List Nat):=
 match HB tt a all l o with
 |some (b,c,d)=>match GW b with
  |true=>some (c,d)
  |false=>none
 |none=>none
def FG(ex:Ex)(P:Program)(tt:TT)(T:pW)(B:List Nat)(all:List Oper)(l:aU)(o:Oper):Option (aU×List Nat):=
 match o with
 |⟨a,op,e,pos,c,g⟩=>match cV l all g with
  |some true=>match op with
   |.call ⟨.value f,asx,_⟩=>VQ ex P tt T B l a f asx.toList
   |.makeFunc (.func h) first b=>match a with
    |some d=>QY l d h first.toList b.toList
    |none=>none
   |op=>match a with
    |some d=>HC tt [d] all l ⟨some d,op,e,pos,c,g⟩
    |none=>none
  |_=>none
def UB(ex:Ex)(P:Program)(tt:TT)(T:pW)(B:List Nat)(all:List Oper)(l:aU)(o:Oper):Option (aU×List Nat):=
 match HC tt [] all l o with
 |some (a,b)=>RD (len b) a λa=>some (a,b)
 |none=>match FG ex P tt T B all l o with
  |some (a,b)=>RD (len b) a λa=>some (a,b)
  |none=>none
def Zh:Code->Option Code
 |.loop c=>some c
 |_=>none
def exec(P:Program)(tt:TT)(T:pW)(B:List Nat):Nat->Ex
 |0,_,k,l=>(k,l)
 |n+1,N,k,l=>match k with
  |[]=>([],l)
  |i::k0=>match i with
   |.ops all (o::rest)=>match UB (exec P tt T B n) P tt T B all.toList l o with
    |some (l',_)=>exec P tt T B n N (.ops all rest::k0) l'
    |none=>(.ops all (o::rest)::k0,l)
   |.ng all b (o::rest) a=>match UB (exec P tt T B n) P tt T B all.toList l o with
    |some (l',f)=>exec P tt T B n N (.ng all b rest ((iD (dn l) all o,f)::a)::k0) l'
    |none=>(.ng all b (o::rest) a::k0,l)
   |.ng all b [] a=>match apart b a.reverse all.size with
    |true=>exec P tt T B n N k0 l
    |false=>(.ng all b [] a::k0,l)
   |.code c=>match Zh c with
    |some g=>exec P tt T B n N (.code g::.code c::k0) l
    |none=>match D5 tt [] N (.code c::k0) l with
     |some (d,e,l')=>match GW d with
      |true=>exec P tt T B n N e l'
      |false=>(.code c::k0,l)
     |none=>(.code c::k0,l)
   |i=>match D5 tt [] N (i::k0) l with
    |some (d,e,l')=>match GW d with
     |true=>exec P tt T B n N e l'
     |false=>(i::k0,l)
    |none=>(i::k0,l)
section
variable{P:Program}{tt:TT}{T:pW}{B:List Nat}
def ET(hW:P.funcs.toList.all Ie=true){g:FuncId}{nt:Nat}{c:Code}{rs:List ResultVar}(h:Uv P g=some ⟨nt,c,rs⟩):
 ∃fn,P.funcs[g]?=some fn/\fn.body=some c/\fn.ntmps=nt/\fn.results.toList=rs/\(fn.name== "runtime.NumGoroutine")=false/\eG fn.results.toList []=true:=by
 unfold Uv at h;split at h<;>try(cases h)
 rename_i fn b;split at h<;>try(cases h;done)
 rename_i e hc;obtain⟨rfl,rfl,rfl⟩:=h;rw[mI]at b;have a:=ah1 b;have d:=aeI.1 hW fn a;simp only[Ie,aO,not_iff]at d;simp_all
def YY(P:Program)(ex:Ex):Prop:=∀(N:Nat)(R:Option Nat->Prop)(F:St->Prop)(k:List It)(l:aU),AK R P N F (ex N k l).1 (ex N k l).2->AK R P N F k l
def Bc(hA:cH P tt)(hW:P.funcs.toList.all Ie=true)(s:∀g asx r,T g asx=some r->aM P g asx r){ex:Ex}(f:YY P ex){g:FuncId}{asx:List SV}{r:SV}(h:Th ex P tt T g asx=some r):aM P g asx r:=by
 unfold Th at h;split at h
 ·rename_i p q;simp_all
 split at h<;>try(cases h)
 rename_i nt c rs j;split at h<;>try(cases h)
 rename_i a;obtain⟨b,i,e⟩:∃b i,ex nt [.code c] (Ay 0 asx)=(b,i):=⟨_,_,W⟩;rw[e]at h;cases b with
 |cons _ _=>cases h
 |nil=>
  simp only at h;split at h<;>try(cases h;done)
  rename_i o d;cases h;obtain⟨fn,n,m,rfl,rfl,l,k⟩:=ET hW j;refine enter n m l a k<|f _ _ _ _ _ ?_;rw[e];exact ret hA d<|ar.refl _
def XU(l:aU):List Nat->List (Nat×SV)
 |[]=>[]
 |i::q=>(i,(gt l i).v)::XU l q
def FI(l:aU):∀{q:List Nat}{i:Nat},i∈q->(gt (sl<|XU l q) i).v=(gt l i).v
 |[],i,h=>by cases h
 |j::q,i,h=>by
  simp[XU,sl,gt];cases a:Nat.beq i j with
  |true=>simp_all
  |false=>
   refine FI l ?_;rcases adZ.1 h with rfl|h
   ·simp_all
   exact h
def HK{l:aU}:∀{q:List Nat},(∀i∈q,(gt l i).v.plain=true)->ur l (XU l q)
 |[],_=>trivial
 |i::q,h=>⟨.inl ⟨h i I,h i I,uq.of_le<|sS.refl _⟩,HK λj a=>h j<|by simp[a]⟩
def Pz:List ResultVar->List Nat
 |[]=>[]
 |.tmp t::rs=>t::Pz rs
 |.cell t _::rs=>t::Pz rs
def rR{l m:aU}:∀{rs:List ResultVar},(∀i∈Pz rs,(gt m i).v=(gt l i).v)->iB tt m rs=iB tt l rs
 |[],_=>rfl
 |.tmp t::rs,h=>by simp[iB,h t<|by simp[Pz],rR (rs:=rs) λi hi=>h i<|by simp[Pz,hi]]
 |.cell t a::rs,h=>by simp[iB,h t<|by simp[Pz],rR (rs:=rs) λi hi=>h i<|by simp[Pz,hi]]
def rQ{l:aU}:∀{rs:List ResultVar}{xs:List SV},iB tt l rs=some xs->∀i∈Pz rs,(gt l i).v.plain=true
 |[],xs,h,i,hi=>by simp[Pz]at hi
 |.tmp t::rs,xs,h,i,hi=>by
  simp[iB]at h;split at h<;>try(cases h)
  rename_i c;split at h<;>try(cases h)
  rename_i ys a;simp[Pz]at hi;rcases hi with rfl|hi
  ·exact c
  exact rQ a i hi
 |.cell t ty::rs,xs,h,i,hi=>by
  simp[iB]at h;split at h<;>try(cases h)
  rename_i x b;split at h<;>try(cases h)
  split at h<;>try(cases h)
  split at h<;>try(cases h)
  rename_i ys a;simp[Pz]at hi;rcases hi with rfl|hi
  ·rw[b];rfl
  exact rQ a i hi
def C7{l:aU}:∀{n k:Nat}{ys:List SV},J2 l k n=some ys->(∀i,k<=i->i<k+n->(gt l i).v.plain=true)/\∀{m:aU},(∀i,k<=i->i<k+n->(gt m i).v=(gt l i).v)->Gt m k ys
 |0,k,ys,h=>by simp[J2]at h;subst h;exact⟨λi d b=>E,λ_=>trivial⟩
 |n+1,k,ys,h=>by
  simp[J2]at h;split at h<;>try(cases h)
  rename_i c;split at h<;>try(cases h;done)
  rename_i e a;cases h;obtain⟨d,b⟩:=C7 a;refine⟨λi k1 k2=>?_,λ{m}hm=>⟨⟨hm k E E,c⟩,b λi k1 k2=>hm i E E⟩⟩
  grind
def Bs(hA:cH P tt)(hW:P.funcs.toList.all Ie=true){ex:Ex}(l:YY P ex){g:FuncId}{asx H out:List SV}{r:SV}(h:Qu ex P tt g asx H=some (out,r)):lp P g H asx out r:=by
 unfold Qu at h;split at h<;>try(cases h)
 rename_i nt c rs o;split at h<;>try(cases h)
 rename_i a;rw[aO]at a;obtain⟨j,b,e⟩:∃j b,ex nt [.code c] (RO asx H)=(j,b):=⟨_,_,W⟩;rw[e]at h;cases j with
 |cons _ _=>cases h
 |nil=>
  simp only at h;split at h<;>try(cases h;done)
  rename_i m v d k;cases h;obtain⟨fn,u,t,rfl,rfl,s,p⟩:=ET hW o;obtain⟨w,n⟩:=C7 k;refine sE u t s a.1 a.2 p<|l _ _ _ _ _ ?_;rw[e]
  let q:=Pz fn.results.toList++List.range' 1000000 (len H)
  have f:∀i,1000000<=i->i<1000000+len H->i∈q:=λi k1 k2=>afR.2<|.inr eW;refine⟨b,XU b q,W,HK λi hi=>?_,⟨aB m,?_,?_⟩,(n λi k1 k2=>FI b<|f i k1 k2).n⟩
  ·rcases afR.1 hi with hi|hi
   ·exact rQ d i hi
   simp_all
  ·refine nk hA ?_;rw[rR λi hi=>FI b<|afR.2<|.inl hi];exact d
  rw[vJ];exact uq.of_le<|sS.refl _
def Dl(hA:cH P tt)(hW:P.funcs.toList.all Ie=true)(F:∀g asx r,T g asx=some r->aM P g asx r){ex:Ex}(j:YY P ex){all:Array Oper}{l l':aU}{o:Oper}{c:List Nat}{K:List Mv->St->Prop}
 (h:FG ex P tt T B all.toList l o=some (l',c))(i:∀x,bc x=c->K x (dn l')):Mo P all o (dn l) K:=by
 obtain⟨k,n,v,pos,m,g⟩:=o;unfold FG at h;simp only at h;split at h<;>try(cases h)
 rename_i p;have plain:∀{d:Nat}{n:Op},HC tt [d] all.toList l ⟨some d,n,v,pos,m,g⟩=some (l',c)->Mo P all ⟨some d,n,v,pos,m,g⟩ (dn l) K:=by
  intro d n h;unfold HC at h;split at h<;>try(cases h)
  rename_i w C s hs;split at h<;>try(cases h;done)
  rename_i hc;cases h;exact nI<|vr hA hs (aP hc) i
 have refs:∀{b:aaj},TH ex P tt l k b=some (l',c)->∃out r,lp P b.g (lD b.R) b.asx out r/\ij l k b.R out r=some (l',c):=by
  intro b hh;unfold TH at hh;cases e:Qu ex P tt b.g b.asx (lD b.R)with
  |none=>simp[e]at hh
  |some q=>obtain⟨out,r⟩:=q;simp[e]at hh;exact⟨out,r,Bs hA hW j e,hh⟩
 split at h
 ·rename_i f asx J;unfold VQ at h;split at h
  ·rename_i y a;cases h;unfold XT at a;split at a<;>try(cases a)
   rename_i w L H sh hh;split at a<;>try(cases a)
   rename_i z;rw[aO]at z;split at a<;>try(cases a)
   rename_i r e;split at a<;>try(cases a)
   rename_i A C s D;split at a<;>try(cases a;done)
   rename_i hc;cases a;exact nI<|GY p hh (aP z.2) (Bc hA hW F j e) D (aP hc) i
  split at h
  ·rename_i w b hh;split at h<;>try(cases h)
   rename_i hc;obtain⟨out,r,u,t⟩:=refs h;exact FN p hh (aP hc) u t i
  split at h<;>try(cases h)
  rename_i b hh;obtain⟨out,r,u,t⟩:=refs h;exact Qj p hh u t i
 ·split at h<;>try(cases h)
  exact Qh p h i
 grind
def CE(hA:cH P tt)(hW:P.funcs.toList.all Ie=true)(q:∀g asx r,T g asx=some r->aM P g asx r){ex:Ex}(f:YY P ex){all:Array Oper}{l l':aU}{o:Oper}{k:List Nat}{K:List Mv->St->Prop}
 (h:UB ex P tt T B all.toList l o=some (l',k))(m:∀c,bc c=k->K c (dn l')):Mo P all o (dn l) K:=by
 unfold UB at h;split at h
 ·rename_i d a hs;obtain⟨n,j,i⟩:=yc (len a) d λl'=>some (l',a);rw[i]at h;cases h;unfold HC at hs;split at hs<;>try(cases hs)
  rename_i s t p e;split at hs<;>try(cases hs;done)
  rename_i hc;cases hs;exact nI (vr hA e (aP hc) λc b=>j▸m c b)
 split at h<;>try(cases h)
 rename_i d a hs;obtain⟨n,j,i⟩:=yc (len a) d λl'=>some (l',a);rw[i]at h;cases h;exact Dl hA hW q f hs λc b=>j▸m c b
def V9{c a:Code}(h:Zh c=some a):c=.loop a:=by cases c<;>simp[Zh]at h;subst h;rfl
def qL(hA:cH P tt)(hm:P.follows .mixedOrders=true)(hW:P.funcs.toList.all Ie=true)(q:∀g asx r,T g asx=some r->aM P g asx r):∀n:Nat,YY P (exec P tt T B n)
 |0,N,R,F,k,l,h=>h
 |n+1,N,R,F,k,l,h=>by
  have d:=qL hA hm hW q n;have z:∀(i:It)(k0:List It)(b:List It×aU),(match D5 tt [] N (i::k0) l with
   |some (t,u,f)=>match GW t with
    |true=>exec P tt T B n N u f
    |false=>(i::k0,l)
   |none=>(i::k0,l))=b->AK R P N F b.1 b.2->AK R P N F (i::k0) l:=by
   intro i k0 b a m;split at a
   ·rename_i t u f hs;split at a
    ·rename_i hc;subst a;exact qg hA hm hs (aP hc)<|d _ _ _ _ _ m
    subst a;exact m
   subst a;exact m
  obtain⟨b,a⟩:∃b,exec P tt T B (n+1) N k l=b:=⟨_,W⟩;rw[a]at h;unfold exec at a;split at a
  ·subst a;exact h
  rename_i i k0;split at a
  ·rename_i all o e;split at a
   ·rename_i f x p;subst a;exact CE hA hW q d p λv _=>d _ _ _ _ _ h
   subst a;exact h
  ·rename_i all w o e s;split at a
   ·rename_i f x p;subst a;refine CE hA hW q d p λv j=>?_;rw[j];exact d _ _ _ _ _ h
   subst a;exact h
  ·rename_i all w s;split at a
   ·rename_i y;subst a;exact⟨y,d _ _ _ _ _ h⟩
   subst a;exact h
  ·rename_i c;split at a
   ·rename_i A hu;have:=V9 hu;subst this;subst a;exact gR<|d _ _ _ _ _ h
   simp_all
  simp_all
end
mutual
def rF:SV->Option Value
 |.n k a=>some (.int k a)
 |.b x=>some (.bool x)
 |.u x=>some (.bool x)
 |.s x=>some (.string<|bs x)
 |.c v=>match scalar v with
  |true=>some v
  |false=>none
 |.fn f a c=>match a,c with
  |[],[]=>some (.func f #[] #[])
  |_,_=>none
 |.agg xs=>match Ho xs with
  |some d=>some (.agg d.toArray)
  |none=>none
 |_=>none
def Ho:List SV->Option (List Value)
 |[]=>some []
 |x::xs=>match rF x,Ho xs,x.cell with
  |some v,some d,true=>some (v::d)
  |_,_,_=>none
end
def R9{x:SV}{v:Value}(h:rF x=some v)(hc:x.cell=true):v.oneCell'=true:=by
 cases x<;>simp[rF]at h<;>try(cases h;done)
 case c w=>
  split at h<;>try(cases h;done)
  rename_i hs;simp at h;subst h;cases w<;>simp[scalar]at hs<;>rfl
 case fn f a c=>
  split at h<;>try(cases h;done)
  cases h;rfl
 case agg b=>simp[SV.cell]at hc
 all_goals(subst h;rfl)
section
variable{w:World}{S:Nat->Prop}
mutual
theorem vo:∀{x:SV}{v:Value},rF x=some v->Rel w S x.den v []/\∀{y F},Rel w S x.den y F->y=v/\F=[]
 |.n k a,v,h=>by simp[rF,ada]at h;subst h;exact⟨kL,λh=>⟨h.2.1,h.2.2⟩⟩
 |.b x,v,h=>by simp[rF,ada]at h;subst h;exact⟨kL,λh=>⟨h.2.1,h.2.2⟩⟩
 |.u x,v,h=>by simp[rF,ada]at h;subst h;exact⟨kL,λh=>⟨h.2.1,h.2.2⟩⟩
 |.s x,v,h=>by simp[rF,ada]at h;subst h;exact⟨kL,λh=>⟨h.2.1,h.2.2⟩⟩
 |.c x,v,h=>by
  simp[rF]at h;split at h<;>try(cases h;done)
  rename_i hs;cases h;exact⟨⟨hs,W,W⟩,λh=>⟨h.2.1,h.2.2⟩⟩
 |.fn f a c,v,h=>by
  simp[rF]at h;split at h<;>try(cases h;done)
  cases h;refine⟨?_,λ{y F}h=>?_⟩
  ·simp only[SV.den,aB,Rel,Cells];exact⟨#[],#[],[],[],W,G,G,W⟩
  simp only[SV.den,aB,Rel,Cells]at h;obtain⟨a,c,C,B,rfl,⟨l,rfl⟩,⟨j,rfl⟩,rfl⟩:=h;have A:a=#[]:=by cases a;simp_all
  have z:c=#[]:=by cases c;simp_all
  subst A z;exact G
 |.agg i,v,h=>by
  simp[rF]at h;split at h<;>try(cases h;done)
  rename_i g d;cases h;obtain⟨l,j⟩:=DW d;refine⟨?_,λ{y F}h=>?_⟩
  ·simp only[SV.den,Rel];exact⟨_,W,l⟩
  simp[SV.den,Rel]at h;obtain⟨H,rfl,hc⟩:=h;obtain⟨e,rfl⟩:=j hc;rw[<-e];exact G
 |.nil,_,h|.ints ..,_,h|.fv ..,_,h|.strs ..,_,h|.cz ..,_,h|.bA ..,_,h|.row ..,_,h|.bW _,_,h|.box ..,_,h|.bC ..,_,h|.ptr ..,_,h|.hole,_,h|.dead,_,h|.pv _,_,h|.abs _,_,h|.fS ..,_,h|.mp _,_,h=>by simp[rF]at h
theorem DW:∀{i:List SV}{g:List Value},Ho i=some g->Cells w S true (aB i) g []/\∀{m F},Cells w S true (aB i) m F->m=g/\F=[]
 |[],g,h=>by simp[Ho,ada]at h;subst h;exact⟨G,λh=>h⟩
 |x::i,g,h=>by
  simp[Ho]at h;split at h<;>try(cases h;done)
  rename_i v o p d hc;cases h;obtain⟨l,j⟩:=vo p;obtain⟨r,q⟩:=DW d;refine⟨⟨v,o,[],[],W,W,λ_=>R9 p hc,l,r⟩,λ{m F}h=>?_⟩;obtain⟨y,D,C,B,rfl,rfl,_,k1,k2⟩:=h;obtain⟨rfl,rfl⟩:=j k1;obtain⟨rfl,rfl⟩:=q k2;exact G
end
end
abbrev AF:=List<|hO×Value
def BU(b:AF)(o:Obj):Prop:=∃a c,o=.map a c/\a.toList.map (λe=>(e.key,e.val))=b.map λq=>(.string<|bs q.1,q.2)
def rK(a b:hO):Bool:=match decEq a b with
 |isTrue _=>true
 |isFalse _=>false
def sT{a b:hO}:rK a b=true↔a=b:=by unfold rK;split<;>simp_all
def tN(k:hO):AF->Option Value
 |[]=>none
 |(a,v)::b=>match rK k a with
  |true=>some v
  |false=>tN k b
def zo(k:hO)(v:Value):AF->AF
 |[]=>[(k,v)]
 |(a,u)::b=>match rK k a with
  |true=>(k,v)::b
  |false=>(a,u)::zo k v b
def Xm{a b:hO}(h:bs a=bs b):a=b:=by have:=congrArg (λx:ByteArray=>x.data.toList) h;simpa[bs]using this
def LO(a b:hO):(bs a==bs b)=rK a b:=by
 cases h:rK a b with
 |true=>exact(MapKept.bytes_beq _ _).2 (congrArg bs<|sT.1 h)
 |false=>
  cases c:(bs a==bs b)with
  |false=>rfl
  |true=>rw[sT.2<|Xm<|(MapKept.bytes_beq _ _).1 c]at h;cases h
def qJ{k:hO}:∀{c:AF}{a:List MapEntry}{i:Nat},a.map (λe=>(e.key,e.val))=c.map (λq=>(.string<|bs q.1,q.2))->tN k c=none->Instr.findNow .string (.string<|bs k) a i=some none
 |[],a,i,h,_=>by
  have:a=[]:=by simpa using h
  subst this;rfl
 |(d,u)::c,[],i,h,_=>by cases h
 |(d,u)::c,m::a,i,h,b=>by
  simp at h;obtain⟨⟨g,j⟩,f⟩:=h;simp[tN]at b;cases he:rK k d with
  |true=>simp[he]at b
  |false=>simp[he]at b;simp[Instr.findNow,g,Instr.sameNow,LO,he];exact qJ f b
def qI{k:hO}{v:Value}:∀{c:AF}{b:List MapEntry}{i:Nat},b.map (λe=>(e.key,e.val))=c.map (λq=>(.string<|bs q.1,q.2))->tN k c=some v->
 ∃j:Nat,Instr.findNow .string (.string<|bs k) b i=some (some (i+j,v))/\∃m,b[j]?=some m/\m.key=.string (bs k)/\∀u,(b.modify j λe=>{e with key:=.string<|bs k,val:=u}).map (λe=>(e.key,e.val))=(zo k u c).map λq=>(.string<|bs q.1,q.2)
 |[],b,i,h,a=>by simp[tN]at a
 |(f,u)::c,[],i,h,_=>by cases h
 |(f,u)::c,m::b,i,h,a=>by
  simp at h;obtain⟨⟨d,l⟩,g⟩:=h;simp[tN]at a;cases he:rK k f with
  |true=>simp[he]at a;have o:=sT.1 he;refine⟨0,by simp[Instr.findNow,d,Instr.sameNow,LO,he,l,a],m,W,by rw[d,o],λu=>?_⟩;simp[zo,he,g]
  |false=>
   simp[he]at a;obtain⟨j,k1,n,k2,k3,k4⟩:=qI (i:=i+1) g a;refine⟨j+1,?_,n,k2,k3,λu=>?_⟩
   ·simp[Instr.findNow,d,Instr.sameNow,LO,he];rw[k1,agN,Nat.add_comm 1 j]
   simp[zo,he,d,l,k4 u]
section
variable{P:Program}{w:World}{S:Nat->Prop}{t key elem:TypeId}
def gq{h:AF}{k:hO}{v:Value}{x:SV}(e:P.underlying t=some (.map key elem))(d:P.underlying key=some .string)(p:tN k h=some v)(l:rF x=some v)(ok:Bool):
 Looks P t ok (BU h) (.v<|.string<|bs k) (if ok then SV.bW [x,.b true]else x).den:=by
 intro w S b o q f n m;obtain⟨r,c,rfl,hm⟩:=n;obtain⟨_,rfl,_⟩:=m;obtain⟨j,g,-⟩:=qI (i:=0) hm p;have a:=(vo (w:=w) (S:=S) l).1;cases ok with
 |true=>
  refine⟨.tuple #[v,.bool true],?_,?_⟩
  ·simp[Instr.lookup,run_underlying e,MapKept.run_getObj_map f,MapKept.run_checkKey d (k:=.string<|bs k) U,MapKept.run_findKey d g]
  simp;exact⟨_,W,v,_,[],[],W,W,I,a,.bool true,_,[],[],W,W,I,kL,W,W⟩
 |false=>refine⟨v,?_,a⟩;simp[Instr.lookup,run_underlying e,MapKept.run_getObj_map f,MapKept.run_checkKey d (k:=.string<|bs k) U,MapKept.run_findKey d g]
def K1{j:AF}{k:hO}{v:Value}{x:SV}{i:TypeInfo}(f:P.underlying t=some (.map key elem))(e:P.underlying key=some .string)(q:tN k j=none)(hi:P.info? elem=some i)(l:i.zero=some v)(m:rF x=some v)(ok:Bool):
 Looks P t ok (BU j) (.v<|.string<|bs k) (if ok then SV.bW [x,.b false]else x).den:=by
 intro w S b o r g p n;obtain⟨s,c,rfl,hm⟩:=p;obtain⟨_,rfl,_⟩:=n;have h:=qJ (i:=0) hm q;have a:=(vo (w:=w) (S:=S) m).1;have d:(zeroValue elem).run P w=.ok v w:=by simp[zeroValue,typeInfo,hi,l]
 cases ok with
 |true=>
  refine⟨.tuple #[v,.bool false],?_,?_⟩
  ·simp[Instr.lookup,run_underlying f,MapKept.run_getObj_map g,MapKept.run_checkKey e (k:=.string<|bs k) U,MapKept.run_findKey e h,d]
  simp;exact⟨_,W,v,_,[],[],W,W,I,a,.bool false,_,[],[],W,W,I,kL,W,W⟩
 |false=>refine⟨v,?_,a⟩;simp[Instr.lookup,run_underlying f,MapKept.run_getObj_map g,MapKept.run_checkKey e (k:=.string<|bs k) U,MapKept.run_findKey e h,d]
def Iz{o:Oper}(i:o.op=.makeMap t none):mE P o [] [] [] (.mp<|BU []):=by
 refine tj W W I ?_;intro w S m f hc l g;have a:(Instr.makeMap t none).run P w=.ok (.map<|some w.heap.size) (w.alloc<|.map #[] 0):=by simp[Instr.makeMap]
 have e:=MapKept.heap_alloc w<|.map #[] 0;have c:(w.alloc<|.map #[] 0).heap.size=w.heap.size+1:=by show(w.heap.push _).size=_;simp
 refine⟨.value<|.map<|some w.heap.size,.map<|some w.heap.size,w.alloc<|.map #[] 0,by simp[execOp,i,a],.inl W,S,[w.heap.size],⟨W,W,W,E,λk j=>e.2 k j⟩,λb h=>h,λb h=>.inl h,λb h=>by rw[c];have:=f b h;omega,?_,I,?_⟩
 ·simp[SV.den];exact⟨_,_,W,e.1,⟨#[],0,W,W⟩,W⟩
 intro b d;simp at d;subst d;exact⟨.refl,E,λh=>by have:=f _ h;omega⟩
def Jb{V:Hid}{a:List Value}{F:Nat->List Nat}{args H:List SV}{i:Nat}{x:SV}{v:Value}(hi:i<1000000)(hc:aT S V.g (both (aB args)<|aB H) (bg V a) w F)(h:args[i]?=some x)(d:rF x=some v):a.getD i undef=v:=by
 have b:=hc.rel i;have c:=gM (args:=aB args) (H:=aB H) hi;rw[ji,h]at c;have f:x.den.plain=true:=by rw[dj];cases x<;>simp[rF]at d<;>rfl
 rw[an.aA<|by rw[c];exact f,c]at b;have e:bg V a i=a.getD i undef:=by unfold bg;rw[if_pos hi]
 rw[e]at b;exact((vo d).2 b).1
def Un{V:Hid}{d:List Value}{F:Nat->List Nat}{args:List AV}{K:Obj->Prop}(e:args.length<=1000000)(hc:aT S V.g (both args [.mp K]) (bg V d) w F):
 ∃b o,V.v 1000000=.map (some b)/\w.heap[b]?=some o/\K o/\F 1000000=[b]:=by
 have a:=hc.rel 1000000;have c:=fT (args:=args) (H:=[.mp K]) e 0;rw[an.aA<|by rw[c];rfl,c]at a;exact a
def mapped{V:Hid}{q:List Value}{F:Nat->List Nat}{args:List AV}{K p:Obj->Prop}{b:Nat}{o o':Obj}{v:Value}(hc:aT S V.g (both args [.mp K]) (bg V q) w F)
 (r:V.v 1000000=.map (some b))(d:w.heap[b]?=some o)(y:F 1000000=[b])(x:p o'):
 ∃S' F',tV V w w {w with heap:=w.heap.setIfInBounds b o'}/\(∀b,S b->S' b)/\(∀b,S' b->S b\/cQ V w b)/\aT S' (cQ V w) (both [.dead] [.mp p]) (bg V [v]) {w with heap:=w.heap.setIfInBounds b o'} F':=by
 have a:=hc.own 1000000 b (by rw[y];simp);have l:=MapKept.heap_set (o':=o') d;have f:(w.heap.setIfInBounds b o').size=w.heap.size:=I;refine⟨S,λi=>if i=1000000 then[b]else[],⟨W,W,W,by show _<=(w.heap.setIfInBounds b o').size;omega,λk A s=>l.2 k λe=>by subst e;exact s a.1⟩,λ_ h=>h,λ_ h=>.inl h,
  ⟨λi=>?_,λi=>?_,λi j m c d=>?_,λi c d=>?_,λc h=>by show c<(w.heap.setIfInBounds b o').size;rw[f];exact hc.shr c h⟩⟩
 ·rw[an.aA<|by rw[AY];split;rfl;split<;>rfl,AY];by_cases z:i=0
  ·subst z;simp[Rel]
  by_cases n:i=1000000
  ·subst n;have u:bg V [v] 1000000=.map (some b):=by unfold bg;rw[if_neg E,r]
   exact⟨b,o',u,l.1,x,W⟩
  simp[n,Rel]
 ·split<;>simp
 ·split at d
  ·rename_i hi;rw[if_neg λe=>m E];simp
  cases d
 split at d
 ·simp at d;subst d;exact⟨.inr a.1,by show _<(w.heap.setIfInBounds c o').size;rw[f];exact a.2.1,a.2.2⟩
 cases d
def Eh{k:hO}{v:Value}:∀{a:AF},tN k a=none->zo k v a=a++[(k,v)]
 |[],_=>rfl
 |(b,u)::a,h=>by
  simp[tN]at h;cases he:rK k b with
  |true=>simp[he]at h
  |false=>simp[he]at h;simp[zo,he,Eh h]
def s9{o:Oper}{h:AF}{k:hO}{x:SV}{v:Value}{a b c:Operand}(f:o.op=.insert t a b c\/o.op=.mapUpdate t a b c)(Q:o.dst=none)(N:P.underlying t=some (.map key elem))(y:P.underlying key=some .string)(C:rF x=some v):
 mE P o [.mp<|BU h] [.bC 1000000 0 0 [],.s k,x] [.mp<|BU<|zo k v h] .dead:=by
 intro w S V L F hl hc q l;obtain⟨m,om,M,hm,R,T⟩:=Un (by simp[aB]) hc;obtain⟨B,cl,rfl,g⟩:=R;obtain⟨x0,A,z,rfl⟩:∃x0 A z,L=[x0,A,z]:=by
  match L,hl with
  |[x0,A,z],_=>simp_all
 have e0:=(xr (i:=0) E hc W).trans M;have e1:=Jb (args:=[.bC 1000000 0 0 [],.s k,x]) (H:=[.mp<|BU h]) (i:=1) E hc W W;have e2:=Jb (args:=[.bC 1000000 0 0 [],.s k,x]) (H:=[.mp<|BU h]) (i:=2) E hc W C;have p:q a=.map (some m)/\q b=.string (bs k)/\q c=v:=by
  have:o.op.operands.toList=[a,b,c]:=by rcases f with f|f<;>rw[f]<;>rfl
  rw[this]at l;simp[and_true]at l;simp_all
 have key:∃r,BU (zo k v h) r/\(Instr.mapUpdate t (.map<|some m) (.string<|bs k) v).run P w=.ok () {w with heap:=w.heap.setIfInBounds m r}:=by
  cases J:tN k h with
  |none=>
   have K:=qJ (i:=0) g J;refine⟨.map (B.push {key:=.string<|bs k,val:=v,born:=cl})<|cl+1,⟨_,_,W,?_⟩,?_⟩
   ·rw[Eh J];simp[g]
   simp[Instr.mapUpdate,run_underlying N,MapKept.run_getObj_map hm,MapKept.run_checkKey y (k:=.string<|bs k) U,MapKept.run_findKey y K,MapKept.run_setObj_map _ hm]
  |some u=>
   obtain⟨j,K,e,Z,Y,X⟩:=qI (i:=0) g J;have O:B[j]?=some e:=by simpa using Z
   refine⟨.map (B.modify j λe=>{e with key:=.string<|bs k,val:=v}) cl,⟨_,_,W,?_⟩,?_⟩
   ·rw[<-X v];simp
   simp[Instr.mapUpdate,run_underlying N,MapKept.run_getObj_map hm,MapKept.run_checkKey y (k:=.string<|bs k) U,MapKept.run_findKey y K,O,Y,MapKept.run_keyThatStays (d:=.string) (k:=.string<|bs k) U,MapKept.run_setObj_map _ hm]
 obtain⟨r,D,n⟩:=key;have C:(execOp q o).run P w=.ok .skip {w with heap:=w.heap.setIfInBounds m r}:=by rcases f with f|f<;>simp[execOp,f,p,n]
 exact⟨_,.nilIface,_,C,.inr ⟨W,Q⟩,mapped hc M hm T D⟩
end
section
variable{R:Option Nat->Prop}{P:Program}{tt:TT}{N:Nat}{F:St->Prop}{k:List It}{l:aU}
def Ze(hA:cH P tt){all:Array Oper}{i:List Nat}{b:List (List Nat×List Nat)}{rest:List Oper}{d:Nat}{t:TypeId}{x:Operand}{lo hi:Option Operand}{ty:TypeId}{pos:String}{a:Array Edge}{g:Option (Nat×Bool)}{f:List Pd}{l':aU}{j:List Nat}
 (p:cV l all.toList g=some true)(h:yh tt l d t x lo hi=some (f,l',j))(m:bo f)
 (n:AK R P N F (.ng all i rest ((iD (dn l) all ⟨some d,.slice t x lo hi none,ty,pos,a,g⟩,j)::b)::k) l'):
 AK R P N F (.ng all i (⟨some d,.slice t x lo hi none,ty,pos,a,g⟩::rest) b::k) l:=by
 exact Qg hA p h m λq c=>by rw[c];exact n
end
section
variable{P:Program}{o:Oper}{ts:Array TypeId}{t e:TypeId}{ti:TI}{d s:Operand}
def IM{k:IntKind}{ti:TI}(c:ti.agg=false)(f:ti.size=1)(xs:List Int):(xs.map λa=>AV.v<|.int k a).all (fits ti)=true:=by rw[aeI];intro x b;obtain⟨y,-,rfl⟩:=aeN.1 b;simp[fits,c,f,AV.cell]
def ML{k:IntKind}(xs:List Int):bU (xs.map λa=>AV.v<|.int k a)=true:=by refine te λx b=>?_;obtain⟨y,-,rfl⟩:=aeN.1 b;rfl
def RW{k:IntKind}(m:o.op=.call ⟨.builtin .copy,#[d,s],ts⟩)(j:ts[0]?=some t)(hu:P.underlying t=some (.slice e))(b:cu P e=some ti)(p:ti.agg=false)(c:ti.size=1){xs ys:List Int}(g:xs≠[])(f:ys≠[]){n:Nat}(hn:Nat.min ys.length xs.length=n):
 mE P o [.ints k true xs] [.bC 1000000 0 0 [],.ints k false ys] [.ints k true<|ys.take n++xs.drop n] (.i n):=by
 have h:=Nh (P:=P) m j hu b (sz:=1) c.symm (X:=xs.map λa=>.v<|.int k a) (Y:=ys.map λa=>.v<|.int k a) (by simpa using g) (ML xs) (by simpa using f) (IM p c ys) (n:=n) (by simpa using hn);rw[<-ahA,<-aha,<-aeY]at h;exact h
def LF{k:IntKind}(j:o.op=.call ⟨.builtin .copy,#[d,s],ts⟩)(g:ts[0]?=some t)(hu:P.underlying t=some (.slice e))(b:cu P e=some ti)(m:ti.agg=false)(c:ti.size=1){xs:List Int}(f:xs≠[]){off m1 m2 n:Nat}(hn:Nat.min m2 m1=n)(k1:off+m1<=xs.length)(k2:m2<=xs.length)(g1:0<m1)(g2:0<m2):
 mE P o [.ints k true xs] [.bC 1000000 0 0 [.lZ 1 off m1],.bC 1000000 0 0 [.lZ 1 0 m2]] [.ints k true<|xs.take off++xs.take n++xs.drop (off+n)] (.i n):=by
 have h:=E8 (P:=P) j g hu b (sz:=1) c.symm (X:=xs.map λa=>.v<|.int k a) (by simpa using f) (ML xs) (IM m c xs) (off:=off) (m1:=m1) (m2:=m2) (n:=n) hn (by simpa using k1) (by simpa using k2) g1 g2;rw[<-ahA,<-ahA,<-aha,<-aeY,<-aeY]at h;exact h
def RV{ti':xk}(m:o.op=.call ⟨.builtin .copy,#[d,s],ts⟩)(j:ts[0]?=some t)(hu:P.underlying t=some (.slice e))(f:cu P e=some ti'.den){xs ys:List SV}(b:xs≠[])(c:ys≠[])(g:gE xs=true)(p:∀y∈ys,my ti' y=true){n:Nat}(hn:Nat.min ys.length xs.length=n):
 mE P o [.row true ti'.size xs] [.bC 1000000 0 0 [],.row false ti'.size ys] [.row true ti'.size<|ys.take n++xs.drop n] (.i n):=by
 have a:(aB ys).all (fits ti'.den)=true:=by rw[aeI];intro x b;rw[cn]at b;obtain⟨y,c,rfl⟩:=aeN.1 b;exact je ti' y<|p y c
 have h:=Nh (P:=P) m j hu f (sz:=ti'.size) W (X:=aB xs) (Y:=aB ys) (by cases xs;exact absurd W b;simp[aB]) (by rw[dV];exact g) (by cases ys;exact absurd W c;simp[aB]) a (n:=n) (by simpa only[bB]using hn);have e:(aB ys).take n++(aB xs).drop n=aB (ys.take n++xs.drop n):=by simp[cn]
 rw[e]at h;exact h
def LD{ti':xk}(m:o.op=.call ⟨.builtin .copy,#[d,s],ts⟩)(j:ts[0]?=some t)(hu:P.underlying t=some (.slice e))(c:cu P e=some ti'.den){xs:List SV}(b:xs≠[])(f:gE xs=true)(p:∀y∈xs,my ti' y=true){off m1 m2 n:Nat}(hn:Nat.min m2 m1=n)(k1:off+m1<=xs.length)(k2:m2<=xs.length)(g1:0<m1)(g2:0<m2):
 mE P o [.row true ti'.size xs] [.bC 1000000 0 0 [.lZ ti'.size off m1],.bC 1000000 0 0 [.lZ ti'.size 0 m2]] [.row true ti'.size<|xs.take off++xs.take n++xs.drop (off+n)] (.i n):=by
 have a:(aB xs).all (fits ti'.den)=true:=by rw[aeI];intro x b;rw[cn]at b;obtain⟨y,g,rfl⟩:=aeN.1 b;exact je ti' y<|p y g
 have h:=E8 (P:=P) m j hu c (sz:=ti'.size) W (X:=aB xs) (by cases xs;exact absurd W b;simp[aB]) (by rw[dV];exact f) a (off:=off) (m1:=m1) (m2:=m2) (n:=n) hn (by simpa only[bB]using k1) (by simpa only[bB]using k2) g1 g2;have e:(aB xs).take off++(aB xs).take n++(aB xs).drop (off+n)=aB (xs.take off++xs.take n++xs.drop (off+n)):=by simp[cn]
 rw[e]at h;exact h
end
def aT.ac2{S B:Nat->Prop}{σ:St}{T:Nat->Value}{w:World}{F:Nat->List Nat}(h:aT S B σ T w F){J:tD}{Fb:List Nat}(hn:Fb.Nodup)(o:∀b∈Fb,B b/\b<w.heap.size/\¬S b)(c:∀i,i≠1000000->∀b∈F i,b∉Fb)(p:J.here w S Fb):
 aT S B (iI σ 1000000 ⟨.abs J,(σ 1000000).g1+1,(σ 1000000).g2⟩) T w (iI F 1000000 Fb):=by
 refine h.step (w':=w) (S':=S) (T':=T) ⟨λr=>?_,λr=>?_,λ_ _=>rfl,λr n q=>?_⟩ (λ_ h=>h) (λi=>?_) (λi=>?_) (λi j f b d=>?_) (λi b d=>?_) h.shr
 ·by_cases a:r=1000000
  ·subst a;exact agT _
  rw[b6 _ _ a];exact .refl
 ·by_cases a:r=1000000
  ·subst a;exact .refl
  rw[b6 _ _ a];exact .refl
 ·by_cases a:r=1000000
  ·subst a;rw[aH]at n;simp at n
  rw[b6 _ _ a];simp_all
 ·by_cases hi:i=1000000
  ·subst hi;right;exact p
  left;rw[b6 _ _ hi,b6 _ _ hi];simp_all
 ·by_cases hi:i=1000000
  ·subst hi;exact hn
  rw[b6 _ _ hi];exact h.nodup i
 ·by_cases hi:i=1000000
  ·subst hi;rw[b6 _ _ λe=>f e.symm];exactλg=>c j (λe=>f e.symm) b g d
  rw[b6 _ _ hi]at d;by_cases m:j=1000000
  ·subst m;exact c i hi b d
  rw[b6 _ _ m];exact h.du i j f b d
 by_cases hi:i=1000000
 ·subst hi;exact o b d
 rw[b6 _ _ hi]at d;exact h.own i b d
section
variable{R:Option Nat->Prop}{P:Program}{N:Nat}{F:St->Prop}{k:List It}{l:aU}
def acO{id d:Nat}{T ty:TypeId}{pos:String}{q:Array Edge}{zs:Array Value}(J:Nat->tD)(B:Nat.ble (d+1) N=true)(s:Nat.ble (d+1) 1000000=true)
 (r:∀w,(Instr.alloc T true<|.tuple #[]).run P w=.ok (.pointer<|some ⟨w.heap.size,0,none⟩) (w.alloc<|.cells zs T))
 (hJ:∀b w S,w.heap[b]?=some (.cells zs T)->J b w S [b])
 (hk:∀b,AK R P N F k ((1000000,⟨.abs<|J b,(gt l 1000000).g1+1,(gt l 1000000).g2⟩)::(d,⟨.pv (·=.pointer (some ⟨b,0,none⟩)),(gt l d).g1+1,(gt l d).g2⟩)::l)):
 AK R P N F (.code (.region id #[⟨some d,.alloc T,ty,pos,q,none⟩] false)::k) l:=by
 have B:=ae4 B;have s:=ae4 s;have z:(1000000:Nat)≠d:=E;intro V t L a w hR hi;refine wpIn_region_list ?_;obtain⟨b,hb⟩:∃b,b=w.heap.size:=⟨_,W⟩;obtain⟨v,M⟩:∃v:Value,v=.pointer (some ⟨b,0,none⟩):=⟨_,W⟩;obtain⟨w',m⟩:∃w',w'=w.alloc (.cells zs T):=⟨_,W⟩;have f:Below w.heap.size w w':=by rw[m];exact(Below.refl _ _).alloc .refl _
 have B0:w'.heap[b]?=some (.cells zs T):=by rw[m,hb];exact World.alloc_heap_new w _
 have A0:w'.heap.size=w.heap.size+1:=eW;have u:o5 N V t L (dn ((1000000,⟨.abs<|J b,(gt l 1000000).g1+1,(gt l 1000000).g2⟩)::(d,⟨.pv (·=.pointer (some ⟨b,0,none⟩)),(gt l d).g1+1,(gt l d).g2⟩)::l)) (a.put (some d) v) w':=by
  refine Inv.x ?_;obtain⟨S,Fr,hc,O,A,y,x,p⟩:=hi;have X:=hc.make (w':=w') [] d (.pv (·=v)) v [] p.new f.size (λb H _=>f.block b H) ae5 I (by simp[Rel]);have Q:=X.ac2 (J:=J b) (Fb:=[b]) I (λc D=>by
   simp at D;exact⟨p.new _ E,E,λh=>by have:=hc.shr _ h;omega⟩) (λi _ c j C=>by
   simp at C;split at j
   ·cases j
   rw[if_neg I]at j;have:=(hc.own i c j).2.1;omega) λY S2 X _=>hJ b Y S2 eW
  rw[<-oK (V:=V) (by rw[O];exact B)]at Q;have e:dn ((1000000,⟨.abs<|J b,(gt l 1000000).g1+1,(gt l 1000000).g2⟩)::(d,⟨.pv (·=.pointer (some ⟨b,0,none⟩)),(gt l d).g1+1,(gt l d).g2⟩)::l)
   =iI (made (dn l) [] d (.pv (·=v))) 1000000 ⟨.abs<|J b,(made (dn l) [] d (.pv (·=v)) 1000000).g1+1,(made (dn l) [] d (.pv (·=v)) 1000000).g2⟩:=by
   simp[fR]
   funext i
   by_cases o:i=1000000
   ·subst o;simp[made,if_neg z];rfl
   rw[b6 _ _ o,b6 _ _ o];by_cases hid:i=d
   ·subst hid;rw[aH,M];simp[made];rfl
   rw[b6 _ _ hid];simp[made,hid]
  rw[e];exact⟨S,_,Q,by rw[size_put];exact O,by rw[gG];exact A,y,x,p.PO f⟩
 unfold wpListIn;have n:Oper.Vg V.rd P ⟨some d,.alloc T,ty,pos,q,none⟩ a w (wpListIn (FW V.rd) 0 P #[⟨some d,.alloc T,ty,pos,q,none⟩] (λe K w'=>∃g,iR R P N F k e g/\o5 N V t L g K w') []) (λe K w'=>∃g,iR R P N F k e g/\o5 N V t L g K w'):=by refine iy (v:=v) (w':=w') (by simp[execOp,r,M,m])<|wpListIn_nil ⟨_,hk b,u⟩
 split
 ·exact n
 rename_i Z;exact absurd W Z
end
section
variable{P:Program}{w:World}{S:Nat->Prop}
def JL(x:AV)(c:Value)(a:List Nat)(o:Nat->Option Obj):tD:=λw S F=>F=a/\Rel w S x c a/\∀b∈a,w.heap[b]?=o b
def JL.Mw{x:AV}{a:Value}{b F:List Nat}{o:Nat->Option Obj}(h:(JL x a b o).here w S F):JL x a b o w S F:=h w S (λ_ _=>rfl) λ_ h=>h
def Pw(n:Nat)(c:Value):Prop:=(n=0/\c=.slice none 0 0)\/∃b a,c=.slice (some ⟨b,0,none⟩) n a/\n<=a/\a<=maxLen
def Pw.of{sz:Nat}{X:List AV}{c:Value}{F:List Nat}(h:Rel w S (.list .own sz X) c F):Pw X.length c:=by
 rcases h with⟨rfl,rfl,-⟩|⟨b,a,f,g,rfl,-,e,d,-⟩
 ·exact .inl G
 exact .inr ⟨b,a,W,e,d⟩
def L7(P:Program)(g:FuncId)(v:SV)(ys:List SV)(r:SV):Prop:=∃sz X,v.den=.list .own sz X/\bU X=true/\Query P g sz X (aB ys) r.den
def L7.of{g:FuncId}{v r:SV}{ys:List SV}{sz:Nat}{X:List AV}(hv:v.den=.list .own sz X)(hn:bU X=true)(hp:r.plain=true)(hl:ys.length+1<=1000000)
 (h:∀d n o,Pw X.length d->lp P g [.abs<|JL (.list .own sz X) d n o] (.pv (·=d)::ys) [.abs<|JL (.list .own sz X) d n o] r):L7 P g v ys r:=by
 refine⟨sz,X,hv,hn,?_⟩;intro w S d u n hG hT hr B0 hF hS hc;have A:u.length=ys.length:=by have:=dB.length (σ:=λ_=>⟨.dead,0,0⟩) (T:=λ_=>undef)<|dB.rZ hc W;rw[this,bB]
 obtain⟨o,ho⟩:∃o:Nat->Option Obj,o=λb=>w.heap[b]?:=⟨_,W⟩;obtain⟨J,hJ⟩:∃J,J=JL (.list .own sz X) d n o:=⟨_,W⟩;obtain⟨V,Z⟩:∃V:Hid,V={v:=λ_=>undef,g:=λb=>b∈n}:=⟨_,W⟩;have C:(aB (.pv (·=d)::ys)).length<=1000000:=by rw[bB];simpa using hl
 have q:J.here w S n:=by intro D K k1 k2;rw[hJ];exact⟨W,Rel.mono k2 _<|hr.frame _ k1,λb c=>eW⟩
 have Y:both (aB (.pv (·=d)::ys)) (aB [.abs J]) 1000000=⟨.abs J,0,0⟩:=fT C 0;have t:aT S V.g (both (aB (.pv (·=d)::ys))<|aB [.abs J]) (bg V<|d::u) w (λi=>if i=1000000 then n else[]):=by
  refine⟨λi=>?_,λi=>?_,λi j D1 b c=>?_,λi b c=>?_,hS⟩
  ·by_cases hi:i<1000000
   ·have M:i≠1000000:=E;simp[M,if_false];have c:=gM (args:=aB (.pv (·=d)::ys)) (H:=aB [.abs J]) hi;cases L:(aB (.pv (·=d)::ys))[i]?with
    |none=>rw[L]at c;rw[an.aA<|by rw[c];rfl,c];simp[Rel]
    |some y=>
     rw[L]at c;have hA:dB w S (both (aB (.pv (·=d)::ys))<|aB [.abs J]) (bg V<|d::u) (aB (.pv (·=d)::ys)) (d::u):=dB.rZ (F:=[]) (by simp only[aB,Cells];exact⟨d,u,[],[],W,W,I,by simp[SV.den,Rel],hc⟩) W
     refine(hA.get i L).slot (by rw[c]) ?_;simp[bg,hi,if_true]
   by_cases e:i=1000000
   ·subst e;unfold an;rw[Y];exact q
   simp[e,if_false];obtain⟨k,rfl⟩:∃k,i=1000000+(k+1):=⟨i-1000001,E⟩;have c:both (aB (.pv (·=d)::ys)) (aB [.abs J]) (1000000+(k+1))=⟨.dead,0,0⟩:=by rw[fT C,afL<|by simp[aB]]
   rw[an.aA<|by rw[c];rfl,c];simp[Rel]
  ·grind
  ·grind
  simp_all
 have p:=h d n o<|Pw.of hr;rw[<-hJ]at p;have s:=p w S V (d::u) _ (by simp[bB,A]) ⟨hG,by rw[Z];exact hT⟩ t;intro rd op a next Q hK
 refine s rd op a next Q λv' D⟨K,F',m,k1,k2,f⟩=>hK v' D ?_
 have O:both (aB [r]) (aB [.abs J]) 1000000=⟨.abs J,0,0⟩:=fT (by simp[aB]) 0;have hj:=f.rel 1000000;unfold an at hj;have D2:both [r.den] (aB [SV.abs J]) 1000000=⟨.abs J,0,0⟩:=O;have B:tD.here J D K (F' 1000000):=hj;rw[hJ]at B;obtain⟨q1,-,q3⟩:=JL.Mw B;have A0:∀b∈n,¬K b:=λb c=>(f.own 1000000 b<|by rw[q1];exact c).2.2;have z:∀b,b<w.heap.size->D.heap[b]?=w.heap[b]?:=λb c=>by
  by_cases e:b∈n
  ·rw[q3 b e,ho]
  exact m.block b c (by rw[Z];exact e)
 have hm:∀b,cQ V w b->w.heap.size<=b\/b∈n:=λb c=>c.imp id (λh=>by rw[Z]at h;exact h);have h0:=gM (args:=[r.den]) (H:=aB [SV.abs J]) (i:=0) E;simp[ahz]at h0;have x:=f.rel 0;rw[an.aA<|by rw[h0,dj];exact hp,h0]at x;refine⟨K,F' 0,⟨m.os,m.tape,m.output,m.size,z⟩,k1,λb c=>?_,f.shr,x,f.nodup 0,λb c=>?_⟩
 ·grind
 obtain⟨p1,p2,p3⟩:=f.own 0 b c;refine⟨?_,p2,p3⟩;rcases hm b p1 with h|h
 ·exact h
 exact absurd (by rw[q1];exact h)<|f.du 0 1000000 E b c
end
section
variable{R:Option Nat->Prop}{P:Program}{N:Nat}{F:St->Prop}{k:List It}{l:aU}
structure ND where
 g:FuncId
 v:SV
 asx:List SV
def MQ(l:aU)(f:Operand)(asx:List Operand):Option (List Pd×ND):=
 match asx with
 |[]=>none
 |x::d=>(dW l x).bind λz=>(c6 z).bind λ(a,v)=>(dW l f).bind λq=>(c6 q).bind λ(b,y)=>match y with
  |.fn (.func g) [] []=>(jQ l d).bind λe=>(yb e).bind λ(h,c)=>some (app a<|app b h,⟨g,v,c⟩)
  |_=>none
def Ba(l:aU)(a:Option Nat)(r:SV):Option (aU×List Nat):=
 match a with
 |none=>some (l,[])
 |some d=>aan l [] d r λb=>some (b,[d])
def yT{a:Option Nat}{r:SV}{l':aU}{c:List Nat}(b:Ba l a r=some (l',c)):Mv.runs (dn l) (gF a r.den [])=some (dn l')/\bc (gF a r.den [])=c:=by
 cases a with
 |none=>obtain⟨rfl,rfl⟩:=b;exact G
 |some d=>simp[Ba,jd]at b;obtain⟨rfl,rfl⟩:=b;refine⟨?_,fb⟩;have:=iL l [] d r;exact congrArg some this
def Wq{all:Array Oper}{a:Option Nat}{f:Operand}{asx j:Array _}{ty:TypeId}{pos:String}{d:Array Edge}{g:Option (Nat×Bool)}{K:List Mv->St->Prop}{p:List Pd}{h:ND}{r:SV}{l':aU}{t:List Nat}
 (O:cV l all.toList g=some true)(hh:MQ l f asx.toList=some (p,h))(L:bo p)(hs:L7 P h.g h.v h.asx r)(H:Ba l a r=some (l',t))(M:∀s,bc s=t->K s (dn l')):
 Mo P all ⟨a,.call ⟨.value f,asx,j⟩,ty,pos,d,g⟩ (dn l) K:=by
 unfold MQ at hh;split at hh<;>try(cases hh)
 rename_i x u c;simp[ads]at hh;obtain⟨z,h1,A,v,Z,q,T,B,y,Q,b⟩:=hh;split at b<;>try(cases b)
 rename_i m;simp[ads,ae0]at b;obtain⟨us,Y,C,i,V,rfl,rfl⟩:=b;obtain⟨c1,n⟩:=aS.1 L;obtain⟨n,c3⟩:=aS.1 n;obtain⟨sz,X,e0,hn,J⟩:=hs;have e1:(resolve (dn l) x).cont=some (.list .own sz X):=by rw[c8 h1,aF Z c1];simp_all
 have e3:sy (u.map<|resolve<|dn l)=some (aB i):=by rw[fo l Y];exact uX V c3
 have e4:(resolve (dn l) f).cont=some (.fn (.func m) [] []):=by rw[c8 T];exact aF Q n
 have e:lv P (dn l) ⟨a,.call ⟨.value f,asx,j⟩,ty,pos,d,g⟩ (.Qy r.den)=some (gF a r.den [],[.Qy m sz X (aB i) r.den]):=by simp[lv,c,e1,e3,e4,hn]
 obtain⟨m1,D⟩:=yT H;refine⟨.Qy r.den,_,[.Qy m sz X (aB i) r.den],dn l',?_,?_,m1,M _ D⟩
 ·unfold fu;rw[dS (o:=⟨a,.call ⟨.value f,asx,j⟩,ty,pos,d,g⟩) O];exact e
 simp[Ob.ok];exact J
def Wu{all:Array Oper}{j:List Nat}{c:List (List Nat×List Nat)}{rest:List Oper}{a:Option Nat}{f:Operand}{asx e:Array _}{ty:TypeId}{pos:String}{b:Array Edge}{g:Option (Nat×Bool)}{i:List Pd}{h:ND}{r:SV}{l':aU}{m:List Nat}
 (q:cV l all.toList g=some true)(hh:MQ l f asx.toList=some (i,h))(o:bo i)(hs:L7 P h.g h.v h.asx r)(n:Ba l a r=some (l',m))
 (p:AK R P N F (.ng all j rest ((iD (dn l) all ⟨a,.call ⟨.value f,asx,e⟩,ty,pos,b,g⟩,m)::c)::k) l'):
 AK R P N F (.ng all j (⟨a,.call ⟨.value f,asx,e⟩,ty,pos,b,g⟩::rest) c::k) l:=by
 exact Wq q hh o hs n λs d=>by rw[d];exact p
structure SH where
 C:Value->Prop
 J:tD
def Rq(l:aU)(x:Operand):Option SH:=
 (dW l x).bind λz=>match z.sl.v with
   |.pv C=>match(gt l 1000000).v with
    |.abs J=>some ⟨C,J⟩
    |_=>none
   |_=>none
def Yl{all:Array Oper}{e:List Nat}{d:List (List Nat×List Nat)}{rest:List Oper}{a:Option Nat}{t:TypeId}{x:Operand}{ty:TypeId}{pos:String}{b:Array Edge}{g:Option (Nat×Bool)}{h:SH}{y:SV}{l':aU}{f:List Nat}
 (p:cV l all.toList g=some true)(hh:Rq l x=some h)(hs:NC P t h.C h.J y.den)(j:y.aG=true)(m:Ba l a y=some (l',f))
 (n:AK R P N F (.ng all e rest ((iD (dn l) all ⟨a,.load t x,ty,pos,b,g⟩,f)::d)::k) l'):
 AK R P N F (.ng all e (⟨a,.load t x,ty,pos,b,g⟩::rest) d::k) l:=by
 simp[Rq,ads]at hh;obtain⟨z,s,c⟩:=hh;split at c<;>try(cases c)
 rename_i C r;split at c<;>try(cases c;done)
 rename_i J q;cases c;have v:(resolve (dn l) x).sl.av=.pv C:=by rw[c8 s];show z.sl.v.den=_;rw[r];rfl
 have u:(dn l 1000000).av=.abs J:=by rw[dL,q];rfl
 obtain⟨m1,i⟩:=yT m;refine⟨.PA y.den,_,[.PA t C J y.den],dn l',?_,?_,m1,by dsimp only;rw[i];exact n⟩
 ·unfold fu;rw[dS (o:=⟨a,.load t x,ty,pos,b,g⟩) p];simp[lv,v,u,cO,j]
 simp;exact hs
end
section
variable{P:Program}{w:World}{S:Nat->Prop}{o:Oper}{x i:Operand}{t e:TypeId}{ti:TI}{n m sz:Nat}{hd:Value}{X:List AV}
def YP(hd:Value)(o:Nat):Value:=match hd with
 |.slice (some a) _ _=>.pointer (some<|a.add o)
 |_=>undef
def WQ{c:Array TypeId}(f:o.op=.call ⟨.builtin .len,#[x],c⟩)(d:c.toList=[t])(q:P.underlying t=some (.slice e))(h:Pw n hd):mE P o [] [.pv (·=hd)] [] (.i n):=by
 refine tj W W I ?_;intro w S u r hc j l;obtain⟨k,v,z,y,rfl,-,-,⟨rfl,-⟩,rfl,-⟩:=hc;have p:j x=k:=by
  have:o.op.operands.toList=[x]:=by rw[f];rfl
  simp_all
 have a:c=#[t]:=aga (by simpa using d);refine⟨.value<|.int .i64 n,.int .i64 n,w,?_,.inl W,S,[],⟨W,W,W,adp _,λ_ _=>rfl⟩,λ_ h=>h,λ_ h=>.inl h,λb h=>r b h,by simp[SV.den,Rel,scalar],ae5,I⟩;rcases h with⟨rfl,g⟩|⟨b,s,g,-,-⟩<;>simp[execOp,f,Go.resolve,p,invoke,builtin,a,Builtin.len_,run_underlying q,goInt,g]
def WX(d:o.op=.indexAddr t x i)(k:P.underlying t=some (.slice e))(a:cu P e=some ti)(hm:m<n)(h:Pw n hd):mE P o [] [.pv (·=hd),.i m] [] (.pv (·=YP hd (m*ti.size))):=by
 refine tj W W I ?_;intro w S q l hc c g;obtain⟨f,u,B,A,rfl,-,-,⟨rfl,-⟩,r,s,z,y,rfl,-,-,⟨-,rfl,-⟩,rfl,-⟩:=hc;obtain⟨j,hi⟩:c x=f/\c i=.int .i64 m:=by
  have:o.op.operands.toList=[x,i]:=by rw[d];rfl
  simp_all
 rcases h with⟨rfl,v⟩|⟨b,p,rfl,-,-⟩
 ·omega
 refine⟨.value<|.pointer<|some<|(⟨b,0,none⟩:Addr).add<|m*ti.size,_,w,?_,.inl W,S,[],⟨W,W,W,.refl,λ_ _=>rfl⟩,λ_ h=>h,λ_ h=>.inl h,λb h=>l b h,by simp[SV.den,Rel,YP],ae5,I⟩;simp[execOp,d,j,hi,Instr.indexAt,asIntOf,run_underlying k,hm,dJ a]
def KT{y:AV}{m:Nat}:∀{X:List AV},bU X=true->X[m]?=some y->y.aG=true:=by
 induction m with
 |zero=>intro X b a;cases X with
  |nil=>cases a
  |cons z X=>simp at a;subst a;simp[bU]at b;exact b.1
 |succ m c=>intro X b a;cases X with
  |nil=>cases a
  |cons z X=>simp[bU]at b;exact c b.2 a
def Q4{N:List Nat}{p:Nat->Option Obj}{y:AV}(d:cu P t=some ti)(D:bU X=true)(c:X[m]?=some y)(C:fits ti y=true):NC P t (·=YP hd (m*sz)) (JL (.list .own sz X) hd N p) y:=by
 intro w S F v H q;subst q;obtain⟨-,r,-⟩:=JL.Mw H;have g:=(agj.1 c).1;rcases r with⟨rfl,-,-⟩|⟨b,l,M,Z,rfl,K,V,T,R,J,-⟩
 ·cases g
 obtain⟨z,A,Y,B,-,O,a,h,s,-⟩:=c7.lens sz m J c;have f:=KT D c;rw[Rel.aG _ a f]at a;refine⟨z,?_,a⟩;have k:At w ⟨b,m*sz,none⟩ z:=⟨W,M,(0,0),K,λj u Q=>by grind⟩
 have L:YP (.slice (some ⟨b,0,none⟩) X.length l) (m*sz)=.pointer (some ⟨b,m*sz,none⟩):=by
  have e:(⟨b,0,none⟩:Addr).add (m*sz)=⟨b,m*sz,none⟩:=by rw[cj W];simp
  simp[YP,e]
 rw[L];exact kK d k<|kW C a
end
end Go.Ai
namespace Go.Ai
open Go.Proofs Go.RowKit
abbrev tI(k:IntKind)(b:Nat):TE:=⟨.int k,some ⟨false,1,b,.n k 0⟩⟩
abbrev tL(e:TypeId):TE:=⟨.slice e,some ⟨false,1,24,.nil⟩⟩
abbrev tG(f:List (Nat×TypeId×Nat))(s b:Nat)(z:List SV):TE:=⟨.struct f,some ⟨true,s,b,.agg z⟩⟩
abbrev tF:TE:=⟨.func,some ⟨false,1,8,.c .nilFunc⟩⟩
abbrev tP:TE:=⟨.ptr,some ⟨false,1,8,.c<|.pointer none⟩⟩
abbrev tO:TE:=⟨.other,none⟩
def tt:TT:=[(0,tO),
 (1,tF),
 (2,tI .i64 8),
 (3,tI .i64 8),
 (4,⟨.bool,some ⟨false,1,1,.b false⟩⟩),
 (5,tI .u8 1),
 (6,tI .u8 1),
 (7,tG [(0,2,1),(1,3,1),(2,4,1),(3,6,1)] 4 24 [.n .i64 0,.n .i64 0,.b false,.n .u8 0]),
 (8,tG [(0,2,1),(1,3,1),(2,4,1),(3,6,1)] 4 24 [.n .i64 0,.n .i64 0,.b false,.n .u8 0]),
 (9,⟨.str,some ⟨false,1,16,.s []⟩⟩),
 (10,⟨.str,some ⟨false,1,16,.s []⟩⟩),
 (11,⟨.str,some ⟨false,1,16,.s []⟩⟩),
 (20,tO),
 (22,tL 50),
 (23,tL 3),
 (25,tG [(0,3,1),(1,22,1),(2,23,1)] 3 56 [.n .i64 0,.nil,.nil]),
 (26,tL 64),
 (28,tG [(0,3,1),(1,3,1),(2,3,1),(3,3,1)] 4 32 [.n .i64 0,.n .i64 0,.n .i64 0,.n .i64 0]),
 (30,tG [(0,26,1),(1,28,4)] 5 56 [.nil,.n .i64 0,.n .i64 0,.n .i64 0,.n .i64 0]),
 (31,tL 23),
 (33,tG [(0,23,1),(1,31,1)] 2 48 [.nil,.nil]),
 (40,tI .i64 8),
 (41,tO),
 (43,tO),
 (46,tL 70),
 (47,⟨.str,some ⟨false,1,16,.s []⟩⟩),
 (48,tL 47),
 (50,tG [(0,9,1),(1,46,1),(2,3,1),(3,47,1),(4,48,1)] 5 88 [.s [],.nil,.n .i64 0,.s [],.nil]),
 (52,tO),
 (55,tO),
 (58,tL 135),
 (61,tI .u16 2),
 (64,tG [(0,47,1),(1,47,1)] 2 32 [.s [],.s []]),
 (70,tG [(0,3,1),(1,47,1)] 2 24 [.n .i64 0,.s []]),
 (72,tL 48),
 (73,tO),
 (75,tO),
 (77,tO),
 (86,tG [(0,48,1),(1,28,4),(5,33,2)] 7 104 [.nil,.n .i64 0,.n .i64 0,.n .i64 0,.n .i64 0,.nil,.nil]),
 (87,tO),
 (99,tL 9),
 (100,tL 108),
 (102,tG [(0,99,1),(1,100,1),(2,26,1)] 3 72 [.nil,.nil,.nil]),
 (103,tO),
 (107,tL 218),
 (108,tL 218),
 (113,tL 120),
 (114,tO),
 (116,tO),
 (120,tG [(0,3,1),(1,3,1),(2,3,1)] 3 24 [.n .i64 0,.n .i64 0,.n .i64 0]),
 (122,tP),
 (123,tO),
 (128,tG [(0,25,3),(3,26,1),(4,28,4),(8,23,1),(9,31,1)] 10 160 [.n .i64 0,.nil,.nil,.nil,.n .i64 0,.n .i64 0,.n .i64 0,.n .i64 0,.nil,.nil]),
 (129,tO),
 (132,tO),
 (135,tG [(0,3,1),(1,3,1),(2,3,1)] 3 24 [.n .i64 0,.n .i64 0,.n .i64 0]),
 (138,tO),
 (141,tF),
 (146,tG [(0,4,1),(1,23,1)] 2 32 [.b false,.nil]),
 (150,tO),
 (152,tO),
 (159,tL 161),
 (161,tL 171),
 (164,tL 311),
 (166,tG [(0,3,1),(1,164,1)] 2 32 [.n .i64 0,.nil]),
 (168,⟨.array 81 166,some ⟨true,162,2592,.agg [.n .i64 0,.nil,.n .i64 0,.nil,.n .i64 0,.nil,.n .i64 0,.nil,.n .i64 0,.nil,.n .i64 0,.nil,.n .i64 0,.nil,.n .i64 0,.nil,.n .i64 0,.nil,.n .i64 0,.nil,.n .i64 0,.nil,.n .i64 0,.nil,.n .i64 0,.nil,.n .i64 0,.nil,.n .i64 0,.nil,.n .i64 0,.nil,.n .i64 0,.nil,.n .i64 0,.nil,.n .i64 0,.nil,.n .i64 0,.nil,.n .i64 0,.nil,.n .i64 0,.nil,.n .i64 0,.nil,.n .i64 0,.nil,.n .i64 0,.nil,.n .i64 0,.nil,.n .i64 0,.nil,.n .i64 0,.nil,.n .i64 0,.nil,.n .i64 0,.nil,.n .i64 0,.nil,.n .i64 0,.nil,.n .i64 0,.nil,.n .i64 0,.nil,.n .i64 0,.nil,.n .i64 0,.nil,.n .i64 0,.nil,.n .i64 0,.nil,.n .i64 0,.nil,.n .i64 0,.nil,.n .i64 0,.nil,.n .i64 0,.nil,.n .i64 0,.nil,.n .i64 0,.nil,.n .i64 0,.nil,.n .i64 0,.nil,.n .i64 0,.nil,.n .i64 0,.nil,.n .i64 0,.nil,.n .i64 0,.nil,.n .i64 0,.nil,.n .i64 0,.nil,.n .i64 0,.nil,.n .i64 0,.nil,.n .i64 0,.nil,.n .i64 0,.nil,.n .i64 0,.nil,.n .i64 0,.nil,.n .i64 0,.nil,.n .i64 0,.nil,.n .i64 0,.nil,.n .i64 0,.nil,.n .i64 0,.nil,.n .i64 0,.nil,.n .i64 0,.nil,.n .i64 0,.nil,.n .i64 0,.nil,.n .i64 0,.nil,.n .i64 0,.nil,.n .i64 0,.nil,.n .i64 0,.nil,.n .i64 0,.nil,.n .i64 0,.nil,.n .i64 0,.nil,.n .i64 0,.nil,.n .i64 0,.nil,.n .i64 0,.nil,.n .i64 0,.nil,.n .i64 0,.nil,.n .i64 0,.nil,.n .i64 0,.nil]⟩⟩),
 (171,tG [(0,166,2),(2,166,2)] 4 64 [.n .i64 0,.nil,.n .i64 0,.nil]),
 (184,tP),
 (187,tG [(0,25,3),(3,40,1)] 4 64 [.n .i64 0,.nil,.nil,.n .i64 0]),
 (188,tP),
 (190,tP),
 (191,tP),
 (196,tF),
 (197,tF),
 (200,tG [(0,3,1),(1,3,1),(2,3,1),(3,3,1)] 4 32 [.n .i64 0,.n .i64 0,.n .i64 0,.n .i64 0]),
 (206,tO),
 (208,tO),
 (218,tG [(0,47,1),(1,23,1)] 2 40 [.s [],.nil]),
 (221,tF),
 (223,tO),
 (225,tI .u64 8),
 (226,tO),
 (231,tO),
 (233,tF),
 (235,tG [(0,233,1)] 1 8 [.c .nilFunc]),
 (237,tG [(0,50,5),(5,23,1),(6,3,1),(7,28,4)] 11 152 [.s [],.nil,.n .i64 0,.s [],.nil,.nil,.n .i64 0,.n .i64 0,.n .i64 0,.n .i64 0,.n .i64 0]),
 (239,tL 40),
 (249,tF),
 (255,tO),
 (259,tF),
 (270,tF),
 (272,tF),
 (273,tP),
 (276,tL 281),
 (277,tO),
 (279,tG [(0,25,3),(3,3,1),(4,161,1),(5,276,1),(6,276,1),(7,277,1)] 8 144 [.n .i64 0,.nil,.nil,.n .i64 0,.nil,.nil,.nil,.c<|.map none]),
 (281,tL 291),
 (287,tG [(0,171,4),(4,171,4)] 8 128 [.n .i64 0,.nil,.n .i64 0,.nil,.n .i64 0,.nil,.n .i64 0,.nil]),
 (291,tG [(0,171,4),(4,23,1)] 5 88 [.n .i64 0,.nil,.n .i64 0,.nil,.nil]),
 (301,tO),
 (303,tO),
 (308,tI .u32 4),
 (309,tO),
 (311,tI .u64 8),
 (312,tO),
 (315,tO),
 (321,tO),
 (329,tO),
 (330,tO),
 (333,tF),
 (335,tG [(0,3,1),(1,3,1),(2,259,1),(3,333,1)] 4 32 [.n .i64 0,.n .i64 0,.c .nilFunc,.c .nilFunc]),
 (336,tO),
 (337,tO),
 (339,tL 4),
 (340,tF),
 (341,tF),
 (343,tF),
 (345,tF),
 (346,tF),
 (355,tO),
 (358,tO),
 (366,tF),
 (367,tO),
 (371,tP),
 (372,tL 5),
 (374,tG [(0,371,1),(1,372,1)] 2 32 [.c<|.pointer none,.nil]),
 (378,tF),
 (381,tO),
 (383,tF),
 (386,tI .i64 8),
 (387,tO),
 (389,tP),
 (396,tP),
 (403,tO),
 (407,tG [(0,9,1),(1,9,1),(2,329,1)] 3 48 [.s [],.s [],.c .nilIface])]
def hA:cH Tryz.prog tt:=by
 unfold tt
 repeat refine⟨⟨by first|exact rfl|exact⟨_,rfl⟩|exact⟨_,rfl,rfl⟩|exact⟨_,_,_,rfl⟩|exact U,λi h=>by cases h<;>rfl⟩,?_⟩
 exact U
def hm:Tryz.prog.follows .mixedOrders=true:=fb
section
variable{R:Option Nat->Prop}{N:Nat}{F:St->Prop}{k:List It}{l:aU}
def r0{a:List It}{l':aU}(h:run tt [] N 100000 k l [] []=([],[],a,l'))(b:AK R Tryz.prog N F a l'):AK R Tryz.prog N F k l:=go hA hm [] h W U b
def r1{a:List Pd}{b:List It}{l':aU}(h:run tt [] N 100000 k l [] []=(a,[],b,l'))(c:bo a)(d:AK R Tryz.prog N F b l'):AK R Tryz.prog N F k l:=go hA hm [] h W c d
def k0{qs:List Bool}{a:List It}{l':aU}(h:run tt [] N 100000 k l [] []=([],qs,a,l'))(b:Pa qs=true)(c:AK R Tryz.prog N F a l'):AK R Tryz.prog N F k l:=go hA hm [] h b U c
def k1{a:List Pd}{qs:List Bool}{b:List It}{l':aU}(h:run tt [] N 100000 k l [] []=(a,qs,b,l'))(c:Pa qs=true)(d:bo a)(e:AK R Tryz.prog N F b l'):AK R Tryz.prog N F k l:=go hA hm [] h c d e
def kw(a:List Nat){b:List Pd}{qs:List Bool}{c:List It}{l':aU}(h:run tt a N 100000 k l [] []=(b,qs,c,l'))(d:Pa qs=true)(e:bo b)(f:AK R Tryz.prog N F c l'):AK R Tryz.prog N F k l:=go hA hm a h d e f
def Qr{b:List It}{l':aU}(m:Nat){a:List Pd}(h:run tt [] N m k l [] []=(a,[],b,l'))(c:bo a)(d:AK R Tryz.prog N F b l'):AK R Tryz.prog N F k l:=(nj hA hm h c W).2.2 d
def br{c:Operand}{t e:Code}{x:SR}{p:Prop}[Decidable p](b:aJ c=true)(h:dW l c=some x)(a:c6 x=some ([],.u<|decide p))(f:p->AK R Tryz.prog N F (.code t::k) l)(d:¬p->AK R Tryz.prog N F (.code e::k) l):AK R Tryz.prog N F (.code (.cond c t e)::k) l:=UY b h a U f d
def ni{c:Operand}{t e:Code}{x:SR}{b:Bool}(d:aJ c=true)(h:dW l c=some x)(a:c6 x=some ([],.u b))(g:b=true->AK R Tryz.prog N F (.code t::k) l)(f:b=false->AK R Tryz.prog N F (.code e::k) l):AK R Tryz.prog N F (.code (.cond c t e)::k) l:=branch d h a U g f
def cl{all:Array Oper}{rest:List Oper}{a:Option Nat}{f:Operand}{xs c:Array _}{ty:TypeId}{pos:String}{b:Array Edge}{g:Option (Nat×Bool)}{h:pX}{r:SV}{l':aU}{d:List Nat}
 (j:cV l all.toList g=some true)(hh:oE l f xs.toList=some ([],h))(hs:aM Tryz.prog h.g h.asx r)(e:jE l a r h.sh=some ([],l',d))(i:AK R Tryz.prog N F (.ops all rest::k) l'):
 AK R Tryz.prog N F (.ops all (⟨a,.call ⟨.value f,xs,c⟩,ty,pos,b,g⟩::rest)::k) l:=call j hh U hs e U i
def cd{all:Array Oper}{e:List Nat}{c:List (List Nat×List Nat)}{rest:List Oper}{a:Option Nat}{f:Operand}{xs d:Array _}{ty:TypeId}{pos:String}{b:Array Edge}{g:Option (Nat×Bool)}{h:pX}{r:SV}{l':aU}{i:List Nat}
 (n:cV l all.toList g=some true)(hh:oE l f xs.toList=some ([],h))(hs:aM Tryz.prog h.g h.asx r)(j:jE l a r h.sh=some ([],l',i))
 (m:AK R Tryz.prog N F (.ng all e rest ((iD (dn l) all ⟨a,.call ⟨.value f,xs,d⟩,ty,pos,b,g⟩,i)::c)::k) l'):
 AK R Tryz.prog N F (.ng all e (⟨a,.call ⟨.value f,xs,d⟩,ty,pos,b,g⟩::rest) c::k) l:=Sb n hh U hs j U m
def JJ{all:Array Oper}{rest:List Oper}{a:Option Nat}{f:Operand}{xs d:Array _}{ty:TypeId}{pos:String}{b:Array Edge}{g:Option (Nat×Bool)}{h:pX}{r:SV}{l':aU}{e:List Nat}{us:List SV}{c:List Pd}
 (n:cV l all.toList g=some true)(hh:oE l f xs.toList=some (c,h))(j:bo c)(hl:DT h.asx us)(hs:aM Tryz.prog h.g us r)(i:jE l a r h.sh=some ([],l',e))(m:AK R Tryz.prog N F (.ops all rest::k) l'):
 AK R Tryz.prog N F (.ops all (⟨a,.call ⟨.value f,xs,d⟩,ty,pos,b,g⟩::rest)::k) l:=call n hh j (hs.XM hl) i U m
def VP{all:Array Oper}{i:List Nat}{c:List (List Nat×List Nat)}{rest:List Oper}{a:Option Nat}{f:Operand}{xs d:Array _}{ty:TypeId}{pos:String}{b:Array Edge}{g:Option (Nat×Bool)}{h:pX}{r:SV}{l':aU}{j:List Nat}{us:List SV}{e:List Pd}
 (p:cV l all.toList g=some true)(hh:oE l f xs.toList=some (e,h))(n:bo e)(hl:DT h.asx us)(hs:aM Tryz.prog h.g us r)(m:jE l a r h.sh=some ([],l',j))
 (o:AK R Tryz.prog N F (.ng all i rest ((iD (dn l) all ⟨a,.call ⟨.value f,xs,d⟩,ty,pos,b,g⟩,j)::c)::k) l'):
 AK R Tryz.prog N F (.ng all i (⟨a,.call ⟨.value f,xs,d⟩,ty,pos,b,g⟩::rest) c::k) l:=Sb p hh n (hs.XM hl) m U o
def TA{rs:List ResultVar}{r:SV}{xs:List SV}(h:iB tt l rs=some xs)(a:ar (vK xs).b9 r):AK R Tryz.prog N (Pu Tryz.prog rs r) [] l:=X0 hA h a
def aE{rs:List ResultVar}{r:SV}{xs:List SV}(h:iB tt l rs=some xs)(a:ar (vK xs) r):AK R Tryz.prog N (Pu Tryz.prog rs r) [] l:=ret hA h a
def SN{rs:List ResultVar}{r:SV}{a:List SV}{xs:List SV}(l':List (Nat×SV))(c:Aj l l')(h:iB tt (sl l') rs=some xs)(b:ar (vK xs) r)(hh:OS (sl l') 1000000 a):AK R Tryz.prog N (SE Tryz.prog rs r a) [] l:=Zq hA l' c h b hh
def cr{all:Array Oper}{rest:List Oper}{a:Option Nat}{f:Operand}{xs c:Array _}{ty:TypeId}{pos:String}{b:Array Edge}{g:Option (Nat×Bool)}{h:aaj}{out:List SV}{r:SV}{l':aU}{d:List Nat}
 (j:cV l all.toList g=some true)(hh:sw l f xs.toList=some ([],h))(hs:lp Tryz.prog h.g (lD h.R) h.asx out r)(e:ij l a h.R out r=some (l',d))(i:AK R Tryz.prog N F (.ops all rest::k) l'):
 AK R Tryz.prog N F (.ops all (⟨a,.call ⟨.value f,xs,c⟩,ty,pos,b,g⟩::rest)::k) l:=Pe j hh U hs e i
def ZL{all:Array Oper}{e:List Nat}{c:List (List Nat×List Nat)}{rest:List Oper}{a:Option Nat}{f:Operand}{xs d:Array _}{ty:TypeId}{pos:String}{b:Array Edge}{g:Option (Nat×Bool)}{h:aaj}{out:List SV}{r:SV}{l':aU}{i:List Nat}
 (n:cV l all.toList g=some true)(hh:sw l f xs.toList=some ([],h))(hs:lp Tryz.prog h.g (lD h.R) h.asx out r)(j:ij l a h.R out r=some (l',i))
 (m:AK R Tryz.prog N F (.ng all e rest ((iD (dn l) all ⟨a,.call ⟨.value f,xs,d⟩,ty,pos,b,g⟩,i)::c)::k) l'):
 AK R Tryz.prog N F (.ng all e (⟨a,.call ⟨.value f,xs,d⟩,ty,pos,b,g⟩::rest) c::k) l:=LM n hh U hs j m
def wn{all:Array Oper}{rest:List Oper}{d:Nat}{t:TypeId}{x:Operand}{lo hi:Option Operand}{ty:TypeId}{pos:String}{a:Array Edge}{g:Option (Nat×Bool)}{b:List Pd}{l':aU}{c:List Nat}
 (i:cV l all.toList g=some true)(h:yh tt l d t x lo hi=some (b,l',c))(e:bo b)(f:AK R Tryz.prog N F (.ops all rest::k) l'):
 AK R Tryz.prog N F (.ops all (⟨some d,.slice t x lo hi none,ty,pos,a,g⟩::rest)::k) l:=Zd hA i h e f
def Y1{all:Array Oper}{e:List Nat}{b:List (List Nat×List Nat)}{rest:List Oper}{d:Nat}{t:TypeId}{x:Operand}{lo hi:Option Operand}{ty:TypeId}{pos:String}{a:Array Edge}{g:Option (Nat×Bool)}{c:List Pd}{l':aU}{f:List Nat}
 (m:cV l all.toList g=some true)(h:yh tt l d t x lo hi=some (c,l',f))(i:bo c)
 (j:AK R Tryz.prog N F (.ng all e rest ((iD (dn l) all ⟨some d,.slice t x lo hi none,ty,pos,a,g⟩,f)::b)::k) l'):
 AK R Tryz.prog N F (.ng all e (⟨some d,.slice t x lo hi none,ty,pos,a,g⟩::rest) b::k) l:=Ze hA m h i j
def mkf{all:Array Oper}{rest:List Oper}{d:Nat}{c:FuncId}{first a:Array Operand}{ty:TypeId}{pos:String}{b:Array Edge}{g:Option (Nat×Bool)}{l':aU}{e:List Nat}
 (i:cV l all.toList g=some true)(h:QY l d c first.toList a.toList=some (l',e))(f:AK R Tryz.prog N F (.ops all rest::k) l'):
 AK R Tryz.prog N F (.ops all (⟨some d,.makeFunc (.func c) first a,ty,pos,b,g⟩::rest)::k) l:=Zv i h f
def cc{all:Array Oper}{rest:List Oper}{a:Option Nat}{f:Operand}{xs c:Array _}{ty:TypeId}{pos:String}{b:Array Edge}{g:Option (Nat×Bool)}{h:aaj}{out:List SV}{r:SV}{l':aU}{d:List Nat}
 (j:cV l all.toList g=some true)(hh:Cb l f xs.toList=some h)(hs:lp Tryz.prog h.g (lD h.R) h.asx out r)(e:ij l a h.R out r=some (l',d))(i:AK R Tryz.prog N F (.ops all rest::k) l'):
 AK R Tryz.prog N F (.ops all (⟨a,.call ⟨.value f,xs,c⟩,ty,pos,b,g⟩::rest)::k) l:=ZM j hh hs e i
def SQ{all:Array Oper}{e:List Nat}{c:List (List Nat×List Nat)}{rest:List Oper}{d:Nat}{t:TypeId}{m x:Operand}{a:Bool}{ty:TypeId}{pos:String}{b:Array Edge}{g:Option (Nat×Bool)}{h:(Obj->Prop)×SV}{l':aU}{f:List Nat}(y:SV)
 (o:cV l all.toList g=some true)(hh:Gu l m x=some h)(i:y.aG=true)(hs:Looks Tryz.prog t a h.1 h.2.den y.den)(j:aan l [] d y (λl'=>some (l',[d]))=some (l',f))
 (n:AK R Tryz.prog N F (.ng all e rest ((iD (dn l) all ⟨some d,.lookup t m x a,ty,pos,b,g⟩,f)::c)::k) l'):
 AK R Tryz.prog N F (.ng all e (⟨some d,.lookup t m x a,ty,pos,b,g⟩::rest) c::k) l:=Zw y o hh i hs j n
def yk{all:Array Oper}{rest:List Oper}{a:Option Nat}{f:Operand}{xs e:Array _}{ty:TypeId}{pos:String}{c:Array Edge}{g:Option (Nat×Bool)}{d:List Pd}{h:J7}{J':tD}{b:Bool}{l':aU}{i:List Nat}
 (o:cV l all.toList g=some true)(hh:IZ l f xs.toList=some (d,h))(m:bo d)(hs:∀v,h.C v->Yields Tryz.prog h.J J' (aB h.asx) b v)(j:Mf l a J' b=some (l',i))(n:AK R Tryz.prog N F (.ops all rest::k) l'):
 AK R Tryz.prog N F (.ops all (⟨a,.call ⟨.value f,xs,e⟩,ty,pos,c,g⟩::rest)::k) l:=V4 o hh m hs j n
def ex{all:Array Oper}{rest:List Oper}{o:Oper}{h:yM}{out:List SV}{r:SV}{l':aU}{b:List Nat}
 (e:cV l all.toList o.guard=some true)(a:rq (dn l) o.op=true)(hh:aaY l o.op.operands.toList=some h)(hs:mE Tryz.prog o (lD h.R) h.asx out r)(c:ij l o.dst h.R out r=some (l',b))(d:AK R Tryz.prog N F (.ops all rest::k) l'):
 AK R Tryz.prog N F (.ops all (o::rest)::k) l:=ZE e a hh hs c d
def Y9{all:Array Oper}{c:List Nat}{a:List (List Nat×List Nat)}{rest:List Oper}{o:Oper}{h:yM}{out:List SV}{r:SV}{l':aU}{d:List Nat}
 (g:cV l all.toList o.guard=some true)(b:rq (dn l) o.op=true)(hh:aaY l o.op.operands.toList=some h)(hs:mE Tryz.prog o (lD h.R) h.asx out r)(e:ij l o.dst h.R out r=some (l',d))
 (f:AK R Tryz.prog N F (.ng all c rest ((iD (dn l) all o,d)::a)::k) l'):
 AK R Tryz.prog N F (.ng all c (o::rest) a::k) l:=ZF g b hh hs e f
def cqd{all:Array Oper}{e:List Nat}{c:List (List Nat×List Nat)}{rest:List Oper}{a:Option Nat}{f:Operand}{xs d:Array _}{ty:TypeId}{pos:String}{b:Array Edge}{g:Option (Nat×Bool)}{h:ND}{r:SV}{l':aU}{i:List Nat}
 (n:cV l all.toList g=some true)(hh:MQ l f xs.toList=some ([],h))(hs:L7 Tryz.prog h.g h.v h.asx r)(j:Ba l a r=some (l',i))
 (m:AK R Tryz.prog N F (.ng all e rest ((iD (dn l) all ⟨a,.call ⟨.value f,xs,d⟩,ty,pos,b,g⟩,i)::c)::k) l'):
 AK R Tryz.prog N F (.ng all e (⟨a,.call ⟨.value f,xs,d⟩,ty,pos,b,g⟩::rest) c::k) l:=Wu n hh U hs j m
def ldj{all:Array Oper}{d:List Nat}{c:List (List Nat×List Nat)}{rest:List Oper}{a:Option Nat}{t:TypeId}{x:Operand}{ty:TypeId}{pos:String}{b:Array Edge}{g:Option (Nat×Bool)}{h:SH}{y:SV}{l':aU}{e:List Nat}
 (m:cV l all.toList g=some true)(hh:Rq l x=some h)(hs:NC Tryz.prog t h.C h.J y.den)(f:y.aG=true)(i:Ba l a y=some (l',e))
 (j:AK R Tryz.prog N F (.ng all d rest ((iD (dn l) all ⟨a,.load t x,ty,pos,b,g⟩,e)::c)::k) l'):
 AK R Tryz.prog N F (.ng all d (⟨a,.load t x,ty,pos,b,g⟩::rest) c::k) l:=Yl m hh hs f i j
def bS{N:Nat}{f:FuncId}{fn:Func}{c:Code}{args:List SV}{r:SV}(b:Tryz.prog.funcs[f]?=some fn)(a:(fn.body,fn.ntmps,fn.name== "runtime.NumGoroutine",Nat.ble (len args) fn.ntmps,eG fn.results.toList [])=(some c,N,false,true,true))
 (h:AK R0 Tryz.prog N (Pu Tryz.prog fn.results.toList r) [.code c] (Ay 0 args)):aM Tryz.prog f args r:=by
 simp only[ae0]at a;obtain⟨j,d,i,g,e⟩:=a;subst d;exact enter b j i g e h
def gb{c:Operand}{t e:Code}{x:SR}{p:Prop}[Decidable p](a:(aJ c,dW l c,c6 x)=(true,some x,some ([],.u<|decide p)))(d:p->AK R Tryz.prog N F (.code t::k) l)(b:¬p->AK R Tryz.prog N F (.code e::k) l):AK R Tryz.prog N F (.code (.cond c t e)::k) l:=by simp only[ae0]at a;exact br a.1 a.2.1 a.2.2 d b
def bG{all:Array Oper}{rest:List Oper}{a:Option Nat}{f:Operand}{xs d:Array _}{ty:TypeId}{pos:String}{c:Array Edge}{g:Option (Nat×Bool)}{h:pX}{r:SV}{l':aU}{e:List Nat}
 (b:(cV l all.toList g,oE l f xs.toList)=(some true,some ([],h)))(hs:aM Tryz.prog h.g h.asx r)(i:jE l a r h.sh=some ([],l',e))(j:AK R Tryz.prog N F (.ops all rest::k) l'):
 AK R Tryz.prog N F (.ops all (⟨a,.call ⟨.value f,xs,d⟩,ty,pos,c,g⟩::rest)::k) l:=by simp only[ae0]at b;exact cl b.1 b.2 hs i j
def bH{all:Array Oper}{i:List Nat}{c:List (List Nat×List Nat)}{rest:List Oper}{a:Option Nat}{f:Operand}{xs e:Array _}{ty:TypeId}{pos:String}{b:Array Edge}{g:Option (Nat×Bool)}{h:pX}{r:SV}{l':aU}{j:List Nat}
 (d:(cV l all.toList g,oE l f xs.toList)=(some true,some ([],h)))(hs:aM Tryz.prog h.g h.asx r)(m:jE l a r h.sh=some ([],l',j))
 (n:AK R Tryz.prog N F (.ng all i rest ((iD (dn l) all ⟨a,.call ⟨.value f,xs,e⟩,ty,pos,b,g⟩,j)::c)::k) l'):
 AK R Tryz.prog N F (.ng all i (⟨a,.call ⟨.value f,xs,e⟩,ty,pos,b,g⟩::rest) c::k) l:=by simp only[ae0]at d;exact cd d.1 d.2 hs m n
def bF{rs:List ResultVar}{r:SV}{xs:List SV}(h:(iB tt l rs,vK xs)=(some xs,r)):AK R Tryz.prog N (Pu Tryz.prog rs r) [] l:=by simp only[ae0]at h;exact aE h.1<|.of_eq h.2
def bR{a b:Int}(h:a=b):ar (.i a) (.i b):=.of_eq<|congrArg SV.i h
def bQ{c:Operand}{t e:Code}{x:SR}{p:Prop}[Decidable p]{a:List It}{l':aU}(h:run tt [] N 100000 k l [] []=([],[],.code (.cond c t e)::a,l'))(f:(aJ c,dW l' c,c6 x)=(true,some x,some ([],.u<|decide p)))(d:p->AK R Tryz.prog N F (.code t::a) l')(b:¬p->AK R Tryz.prog N F (.code e::a) l'):AK R Tryz.prog N F k l:=r0 h<|gb f d b
def bP{all:Array Oper}{rest:List Oper}{a:Option Nat}{f:Operand}{xs i:Array _}{ty:TypeId}{pos:String}{d:Array Edge}{g:Option (Nat×Bool)}{c:pX}{r:SV}{b l':aU}{j:List Nat}{e:List It}(h:run tt [] N 100000 k l [] []=([],[],.ops all (⟨a,.call ⟨.value f,xs,i⟩,ty,pos,d,g⟩::rest)::e,b))
 (o:(cV b all.toList g,oE b f xs.toList)=(some true,some ([],c)))(hs:aM Tryz.prog c.g c.asx r)(m:jE b a r c.sh=some ([],l',j))(n:AK R Tryz.prog N F (.ops all rest::e) l'):
 AK R Tryz.prog N F k l:=r0 h<|bG o hs m n
def bO{all:Array Oper}{j:List Nat}{d:List (List Nat×List Nat)}{rest:List Oper}{a:Option Nat}{f:Operand}{xs i:Array _}{ty:TypeId}{pos:String}{c:Array Edge}{g:Option (Nat×Bool)}{e:pX}{r:SV}{b l':aU}{m:List Nat}{n:List It}(h:run tt [] N 100000 k l [] []=([],[],.ng all j (⟨a,.call ⟨.value f,xs,i⟩,ty,pos,c,g⟩::rest) d::n,b))
 (q:(cV b all.toList g,oE b f xs.toList)=(some true,some ([],e)))(hs:aM Tryz.prog e.g e.asx r)(o:jE b a r e.sh=some ([],l',m))
 (p:AK R Tryz.prog N F (.ng all j rest ((iD (dn b) all ⟨a,.call ⟨.value f,xs,i⟩,ty,pos,c,g⟩,m)::d)::n) l'):AK R Tryz.prog N F k l:=r0 h<|bH q hs o p
def bK{rs:List ResultVar}{r:SV}{xs:List SV}{l':aU}(h:run tt [] N 100000 k l [] []=([],[],[],l'))(b:iB tt l' rs=some xs)(a:ar (vK xs) r):AK R Tryz.prog N (Pu Tryz.prog rs r) k l:=r0 h<|aE b a
def bL{a:List (Nat×SV)}{A:Prop}{l':aU}{b:List It}(h:run tt [] N 100000 k l [] []=([],[],.inv (yL (λ_:Unit=>a) λ_=>A)::b,l'))(d:A)(c:Fits l' a):AK R Tryz.prog N F k l:=r0 h<|aN d c
def bJ{l':aU}{a:List It}(h:run tt [] N 100000 k l [] []=([],[],a,l'))(d:Nat){p:Prop}[Decidable p](f:(gt l' d).v=.u (decide p))(e:p->AK R Tryz.prog N F a ((d,⟨.b true,(gt l' d).g1,(gt l' d).g2⟩)::l'))(c:¬p->AK R Tryz.prog N F a ((d,⟨.b false,(gt l' d).g1,(gt l' d).g2⟩)::l')):AK R Tryz.prog N F k l:=r0 h<|aC d f e c
def bM{l':aU}{e:List It}{c:Code}(h:run tt [] N 100000 k l [] []=([],[],.code (.loop c)::e,l')){b:Type}(a:b->List (Nat×SV))(A:b->Prop)(d:b->Nat)(x:b)(f:A x)(i:Fits l' (a x))(g:∀y,A y->AK R Tryz.prog N F (.code c::.inv (uv a A d y)::e) (sl<|a y)):AK R Tryz.prog N F k l:=r0 h<|loop a A d x f i g
def bN{rs:List ResultVar}{r:SV}{xs:List SV}{l':aU}(h:run tt [] N 100000 k l [] []=([],[],[],l'))(a:(iB tt l' rs,vK xs)=(some xs,r)):AK R Tryz.prog N (Pu Tryz.prog rs r) k l:=r0 h<|bF a
def ZW{α c:Sort _}{a:α}{b:c}:a=a/\b=b:=G
def qp{a:List Pd}{b:List It}{l':aU}(h:run tt [] N 100000 k l [] []=(a,[],b,l'))(d:AK R Tryz.prog N F b l')(c:bo a:=by simp only[bo,and_true,afk]<;>omega):AK R Tryz.prog N F k l:=r1 h c d
def Zz{qs:List Bool}{a:List It}{l':aU}(h:run tt [] N 100000 k l [] []=([],qs,a,l'))(c:AK R Tryz.prog N F a l')(b:Pa qs=true:=by kernel_rfl):AK R Tryz.prog N F k l:=k0 h b c
def II{a:List Pd}{qs:List Bool}{b:List It}{l':aU}(h:run tt [] N 100000 k l [] []=(a,qs,b,l'))(e:AK R Tryz.prog N F b l')(d:bo a:=by simp only[bo,and_true,afk]<;>omega)(c:Pa qs=true:=by kernel_rfl):AK R Tryz.prog N F k l:=k1 h c d e
def gS{b:Type}{a:b->List (Nat×SV)}{A:b->Prop}{c:b->Nat}{y:b}(z:b)(e:A z)(d:Fits l (a z):=by repeat' first|exact ZW|exact U|exact rfl|refine⟨?_,?_⟩)(f:c z<c y:=by(try dsimp only);omega):AK R Tryz.prog N F (.inv (uv a A c y)::k) l:=again z f e d
def ra{b:Type}(a:b->List (Nat×SV))(A:b->Prop)(d:b->Nat)(x:b){c:Code}(e:A x)(f:∀y,A y->AK R Tryz.prog N F (.code c::.inv (uv a A d y)::k) (sl<|a y))(g:Fits l (a x):=by repeat' first|exact ZW|exact U|exact rfl|refine⟨?_,?_⟩):AK R Tryz.prog N F (.code (.loop c)::k) l:=loop a A d x e g f
def il{b:Type}{a:b->List (Nat×SV)}{A:b->Prop}(z:b)(d:A z)(c:Fits l (a z):=by repeat' first|exact ZW|exact U|exact rfl|refine⟨?_,?_⟩):AK R Tryz.prog N F (.inv (yL a A)::k) l:=meet z d c
def gm{a:List (Nat×SV)}{A:Prop}(c:A)(b:Fits l a:=by repeat' first|exact ZW|exact U|exact rfl|refine⟨?_,?_⟩):AK R Tryz.prog N F (.inv (yL (λ_:Unit=>a) λ_=>A)::k) l:=aN c b
def ba{p:Prop}(h:p:=by simp only[bo,and_true]<;>omega):p:=h
def a8{p:Prop}(h:p:=by simp only[bo,and_true]):p:=h
def a7{p:Prop}(h:p:=by simp[bo,and_true]<;>omega):p:=h
def aZ{p:Prop}(h:p:=by simp[bo,and_true]):p:=h
def aY{p:Prop}(h:p:=by simp[bo]):p:=h
def aX{p:Prop}(h:p:=by simp[bo]<;>omega):p:=h
def aW{p:Prop}(h:p:=by kernel_rfl):p:=h
end
section
variable{l:List Int}{m n:Nat}
def B9:Nat:=1000000000
def ae(n:Nat):List Int:=if h:n=0 then[]else((n%B9:Nat):Int)::ae (n/B9)
 termination_by n
 decreasing_by exact afP (af0 h) fh
def val:List Int->Int
 |[]=>0
 |d::l=>d+1000000000*val l
def gX(l:List Int):Prop:=∀d∈l,0<=d/\d<1000000000
def dm:ae 0=[]:=by rw[ae];simp
def ai(n:Nat):val (ae n)=n:=by
 induction n using Nat.strongRecOn with
 |_ n b=>
  rw[ae];split
  ·rename_i h;subst h;rfl
  rename_i h;have a:n/B9<n:=afP (af0 h) fh;simp[val,b _ a];unfold B9;omega
def eC(n:Nat):gX (ae n):=by
 induction n using Nat.strongRecOn with
 |_ n c=>
  rw[ae];split
  ·intro d a;cases a
  rename_i h;have b:n/B9<n:=afP (af0 h) fh;intro d a;rcases adZ.1 a with rfl|a
  ·unfold B9;omega
  exact c _ b d a
def bm:∀{l:List Int},gX l->0<=val l
 |[],_=>by simp[val]
 |d::l,h=>by have c:=h d I;have b:=bm (l:=l) λx a=>h x (by simp[a]);simp[val];omega
def eO(l:List Int)(d:Int):val (l++[d])=val l+d*1000000000^l.length:=by
 induction l with
 |nil=>simp[val]
 |cons x l a=>simp[val,a,ae1];grind
def ic:∀{l:List Int},gX l->val l<1000000000^l.length
 |[],_=>by simp[val]
 |d::l,h=>by have c:=h d I;have b:=ic (l:=l) λx a=>h x (by simp[a]);simp[val];omega
def sJ:∀{l:List Int},gX l->l.getLast?≠some 0->ae (val l).toNat=l
 |[],_,_=>by simp[val,dm]
 |d::l,h,e=>by
  have p:=h d I;have hl:gX l:=λx f=>h x (by simp[f]);have o:=bm hl;have b:l.getLast?≠some 0:=by grind
  have a:=sJ hl b;have c:(val<|d::l).toNat≠0:=by
   simp only[val];intro q;have i:d=0:=E;have g:val l=0:=E;cases l with
   |nil=>subst i;simp at e
   |cons x l=>rw[g]at a;simp[dm]at a
  rw[ae,dif_neg c];have k:(((val<|d::l).toNat%B9:Nat):Int)=d:=by simp[val];unfold B9;omega
  have j:(val<|d::l).toNat/B9=(val l).toNat:=by simp[val];unfold B9;omega
  rw[k,j,a]
def tw(h:gX l)(a:l.getLast?≠some 0)(b:val l=n):l=ae n:=by have:=sJ h a;simp_all
def pJ(n:Nat):(ae n).getLast?≠some 0:=by
 induction n using Nat.strongRecOn with
 |_ n c=>
  rw[ae];split
  ·simp
  rename_i h;have b:n/B9<n:=afP (af0 h) fh;have:=c _ b;cases hl:ae (n/B9)with
  |nil=>intro he;have a:=ai<|n/B9;rw[hl]at a;simp[val]at a;simp at he;unfold B9 at he a;omega
  |cons x l=>simp_all
def aI(l:List Int)(i:Nat):val (l.take<|i+1)=val (l.take i)+l.getD i 0*1000000000^i:=by
 by_cases h:i<l.length
 ·rw[aey h,eO]
  grind
 rw[adM E,adM E];simp_all
def bf(h:gX l)(i:Nat):0<=l.getD i 0/\l.getD i 0<1000000000:=by
 by_cases hi:i<l.length
 ·have:=h l[i] (adC hi);simp_all
 simp_all
def jg{d:Int}(h:gX l)(b:0<=d/\d<1000000000):gX (l++[d]):=by
 intro x a;rcases afR.1 a with a|a
 ·exact h x a
 simp_all
def B3(h:gX l)(a:l=[]\/1000000000^(l.length-1)<=val l):l.getLast?≠some 0:=by
 rcases aiv l with rfl|⟨l,d,rfl⟩
 ·simp
 rw[aiw]at*;rcases a with a|a
 ·simp at a
 simp;rintro rfl;rw[eO]at a;have:=ic (l:=l) λx b=>h x (by simp[b]);simp at a;omega
def dE(n:Nat):(0:Int)<1000000000^n:=Int.pow_pos fh
def qF(h:gX l)(hl:l.getLast?≠some 0):l=[]\/1000000000^(l.length-1)<=val l:=by
 rcases aiv l with rfl|⟨l,d,rfl⟩
 ·exact .inl W
 right;rw[aiw]at*;rw[eO];have e:=bm (l:=l) λx a=>h x (by simp[a]);have c:=h d I;simp at hl;simp;have b:=dE l.length;have:1*1000000000^l.length<=d*1000000000^l.length:=af4 E E;omega
def gw(n:Nat):ae n=[]\/(1000000000:Int)^((ae n).length-1)<=n:=by have:=qF (eC n)<|pJ n;rwa[ai]at this
def cW:List Int->List Int
 |[]=>[]
 |d::l=>match cW l with
  |[]=>if d=0 then[]else[d]
  |x::r=>d::x::r
def mg:∀l:List Int,cW (l++[0])=cW l
 |[]=>by simp[cW]
 |d::l=>by simp[cW,mg l]
def nD:∀{l:List Int},l.getLast?≠some 0->cW l=l
 |[],_=>rfl
 |[d],h=>by simp at h;simp[cW,h]
 |d::x::l,h=>by have:=nD (l:=x::l) h;rw[cW,this]
def ux{w:List Int}(hn:n+1=w.length)(h:w.getD n 0=0):cW (w.take n)=cW w:=by
 have e:w=w.take n++[0]:=by
  have a:n<w.length:=E;have c:w[n]=0:=eW;have b:=aey a
  grind
 conv=>rhs;rw[e,mg]
def o8:∀l:List Int,val (cW l)=val l
 |[]=>rfl
 |d::l=>by
  have a:=o8 l;simp[cW];split
  ·rename_i h;rw[h]at a;simp[val]at a⊢;split
   ·rename_i b;simp[val];omega
   simp[val];omega
  rename_i x r h;rw[h]at a;simp[val]at a⊢;omega
def ee(h:gX l):cW l=ae (val l).toNat:=by
 have e:gX (cW l)/\(cW l).getLast?≠some 0:=by
  induction l with
  |nil=>exact⟨h,by simp[cW]⟩
  |cons d l f=>
   obtain⟨i1,b⟩:=f λx c=>h x (by simp[c]);have g:=h d I;simp[cW];split
   ·split
    ·simp_all
    rename_i i;exact⟨λx c=>eW,by simpa using i⟩
   rename_i x r he;rw[he]at i1 b;exact⟨λy a=>by
    rcases adZ.1 a with rfl|a
    ·exact g
    exact i1 y a,b⟩
 rw[tw e.1 e.2 (n:=(val l).toNat) (by rw[o8];have:=bm h;omega)]
def vq:∀l:List Int,(cW l).length<=l.length
 |[]=>by simp[cW]
 |d::l=>by
  have:=vq l;simp[cW]
  grind
def gN(l:List Int)(k:Nat):val l=val (l.take k)+1000000000^(l.take k).length*val (l.drop k):=by
 induction l generalizing k with
 |nil=>simp[val]
 |cons d l a=>
  cases k with
  |zero=>simp[val]
  |succ k=>simp[val];grind
def gA(h:gX l)(k:Nat):gX (l.take k):=λx a=>h x<|agA a
def n7(h:gX l)(k:Nat):gX (l.drop k):=λx a=>h x<|agd a
def cw(n:Nat):(n:Int)<1000000000^(ae n).length:=by have:=ic<|eC n;rwa[ai]at this
def iF(h:n≠0):0<(ae n).length:=by rw[ae,dif_neg h];simp
def im{a b:Nat}(h:a<=b):(1000000000:Int)^a<=1000000000^b:=by obtain⟨k,rfl⟩:=Nat.exists_eq_add_of_le h;rw[af1];have c:=dE a;have d:=dE k;have:=afg (show(1:Int)<=1000000000^k from E)<|afh c;omega
def cE(h:(ae m).length<(ae n).length):m<n:=by
 have c:=cw m;rcases gw n with a|a
 ·rw[a]at h;cases h
 have b:(1000000000:Int)^(ae m).length<=1000000000^((ae n).length-1):=im E;omega
def oc(m n:Nat):Int:=if m<n then -1 else if n<m then 1 else 0
def mv{k:Nat}(j:k<(ae m).length)(hl:(ae m).length=(ae n).length)(f:(ae m).drop (k+1)=(ae n).drop (k+1))(h:(ae m).getD k 0<(ae n).getD k 0):m<n:=by
 have a:=gN (ae m)<|k+1;have b:=gN (ae n)<|k+1;rw[ai,aI]at a b;rw[f]at a;have e:((ae m).take<|k+1).length=k+1:=by simp;omega
 have d:((ae n).take<|k+1).length=k+1:=by simp;omega
 rw[e]at a;rw[d]at b;have g:=ic<|gA (eC m) k;have o:=bm<|gA (eC n) k;have c:((ae m).take k).length=k:=by simp;omega
 rw[c]at g;have i:=dE k;have:((ae m).getD k 0+1)*1000000000^k<=(ae n).getD k 0*1000000000^k:=af4 E E
 grind
def kC:∀{l:List Int}{j:Nat}(y:Int),j<l.length->val (l.set j y)=val l+(y-l.getD j 0)*1000000000^j
 |[],j,y,h=>by cases h
 |d::l,0,y,_=>by simp[val];omega
 |d::l,j+1,y,h=>by have:=kC (l:=l) (j:=j) y (by simpa using h);simp[val];grind
def eM(h:gX l){j:Nat}{y:Int}(b:0<=y/\y<1000000000):gX (l.set j y):=by
 intro x a;rcases ah4 a with a|a
 ·exact h x a
 subst a;exact b
def cv(l:List Int)(j k:Nat)(y:Int):(l.set j y).getD k 0=if j=k/\k<l.length then y else l.getD k 0:=by grind
def iH(n:Nat):val (List.replicate n 0)=0:=by
 induction n with
 |zero=>rfl
 |succ n a=>simp[agR,val,a]
def fw(n:Nat):gX (List.replicate n 0):=λx a=>eW
def fK(n k:Nat):(List.replicate n (0:Int)).getD k 0=0:=by grind
end
end Go.Ai
