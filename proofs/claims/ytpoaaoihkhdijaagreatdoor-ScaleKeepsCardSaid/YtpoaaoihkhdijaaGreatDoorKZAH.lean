/- Parts of the proof of ScaleKeeps (as AIM.md's row tells), at every input, with no further conditions. -/
import Derived.Test.YtpoaaoihkhdijaaGreatDoorKZAG
import Derived.MapKept
import Derived.Test.YtpoaaoihkhdijaaGreatDoorProg
set_option linter.all false
set_option maxRecDepth 100000
set_option maxHeartbeats 0
namespace Go.Ai
open Go.RowKit
section
variable{P:Program}{w:World}{S:Nat->Prop}
section
variable{ts:Array TypeId}{V:Hid}{X Y:List AV}{vs:List Value}{b i n:Nat}{F:Nat->List Nat}{o:Oper}{d s:Operand}{t:TypeId}{w':World}
def HQ{ty e:TypeId}{ti:TI}(m:ts[0]?=some t)(hu:P.underlying t=some (.slice e))(k:cu P e=some ti){off m1 c1 n2 c2:Nat}{a:Addr}{cs:Array Value}{us:List Value}
 (h:row? w b=some (cs,(0,0)))(hn:Nat.min n2 m1=n)(f:us.length=n*ti.size)(g:∀j v,us[j]?=some v->w.cell? (a.add j)=some v)(q:∀u∈us,u.oneCell'=true)(l:off+n*ti.size<=cs.size):
 (Builtin.copy_ ts ty #[.slice (some ⟨b,off,none⟩) m1 c1,.slice (some a) n2 c2]).run P w=.ok (.int .i64 n) (w.setRow b (cs.toList.take off++us++cs.toList.drop (off+n*ti.size)).toArray):=by
 have hh:∃e,w.heap[b]?=some (.cells cs e (0,0)):=by
  unfold row? at h;split at h
  ·rename_i x e y he;cases h;exact⟨e,he⟩
  cases h
 obtain⟨r,he⟩:=hh;have c:=run_storeCells_at P b off r us 0 cs w he (by simp;omega) q;simp[f]at c;have p:=run_firstCells_some (P:=P) w ti.size n a n2 c2 us f g;simp[Builtin.copy_,m,run_underlying hu,dJ k,Builtin.lenOf,hn,p,c,goInt]
def setRow_other(b:Nat)(cs:Array Value){c:Nat}(h:c≠b):(w.setRow b cs).heap[c]?=w.heap[c]?:=by simp[World.setRow];rw[Array.getElem?_modify,if_neg E]
def Kz{cs:Array Value}(cs':Array Value)(a:row? w b=some (cs,(0,0))):row? (w.setRow b cs') b=some (cs',(0,0)):=by
 have hh:∃e,w.heap[b]?=some (.cells cs e (0,0)):=by
  unfold row? at a;split at a
  ·rename_i cs' e f he;cases a;exact⟨e,he⟩
  cases a
 obtain⟨c,he⟩:=hh;have:=setRow_heap w b cs cs' c (0,0) he;simp[row?,this]
def AY(r x:AV):∀i,(both [r] [x] i).av=if i=0 then r else if i=1000000 then x else .dead:=by
 intro i;by_cases hi:i<1000000
 ·rw[gM hi];cases i with
  |zero=>rfl
  |succ i=>have:¬(i+1=1000000):=E;simp[this]
 obtain⟨j,rfl⟩:∃j,i=1000000+j:=⟨i-1000000,E⟩;rw[fT I];cases j with
 |zero=>simp
 |succ j=>simp
def copied{args:List AV}{sz:Nat}{q:List AV}{cap:Nat}{cs cs':Array Value}{n:Int}(K:args.length<=1000000)(hc:aT S V.g (both args [.list .own sz X]) (bg V vs) w F)
 (z:V.v 1000000=.slice (some ⟨b,0,none⟩) X.length cap)(A:row? w b=some (cs,(0,0)))(D:F 1000000=[b])(l:X.length<=cap/\cap<=maxLen)(u:cs'.size=cap*sz)(f:q.length=X.length)
 (H:c7 (w.setRow b cs') S sz q (cs'.toList.take<|X.length*sz) []):
 ∃S' F',tV V w w (w.setRow b cs')/\(∀b,S b->S' b)/\(∀b,S' b->S b\/cQ V w b)/\aT S' (cQ V w) (both [.v<|.int .i64 n] [.list .own sz q]) (bg V [.int .i64 n]) (w.setRow b cs') F':=by
 have a:=hc.own 1000000 b (by rw[D];simp);have p:(w.setRow b cs').heap.size=w.heap.size:=I;refine⟨S,λi=>if i=1000000 then[b]else[],⟨W,W,W,E,λk J B=>setRow_other b cs' λe=>by subst e;exact B a.1⟩,λ_ h=>h,λ_ h=>.inl h,
  ⟨λi=>?_,λi=>?_,λi j r c m=>?_,λi c m=>?_,λc h=>by rw[p];exact hc.shr c h⟩⟩
 ·rw[an.aA<|by rw[AY];split;rfl;split<;>rfl,AY];by_cases y:i=0
  ·subst y;exact kL
  by_cases x:i=1000000
  ·subst x;have C:bg V [.int .i64 n] 1000000=.slice (some ⟨b,0,none⟩) q.length cap:=by
    unfold bg;rw[if_neg E,z,f]
   rw[C];exact .inr ⟨b,cap,cs',[],W,Kz cs' A,by rw[f];exact l.1,l.2,u,by rw[f];exact H,W⟩
  simp[y,x,Rel]
 ·split<;>simp
 ·split at m
  ·rename_i hi;rw[if_neg λe=>r E];simp
  cases m
 split at m
 ·simp at m;subst m;exact⟨.inr a.1,by rw[p];exact a.2.1,a.2.2⟩
 cases m
def Na{sz off cap:Nat}{cs:Array Value}{us:List Value}(j:c7 w' S sz X (cs.toList.take<|X.length*sz) [])(hY:c7 w' S sz (Y.take n) us [])(hn:(Y.take n).length=n)(c:off+n<=X.length)(f:cs.size=cap*sz)(a:X.length<=cap):
 c7 w' S sz (X.take off++Y.take n++X.drop (off+n)) ((cs.toList.take (off*sz)++us++cs.toList.drop (off*sz+n*sz)).take<|X.length*sz) []:=by
 have p:us.length=n*sz:=by have:=c7.length sz hY;rw[hn]at this;exact this
 have hc:cs.toList.length=cap*sz:=f;have m1:X.length*sz<=cap*sz:=abT _ a;have m:(off+n)*sz<=X.length*sz:=abT _ c;have k:off*sz+n*sz=(off+n)*sz:=(abP _ _ _).symm;have h:=c7.sub sz 0 off j E;have g:=c7.sub sz (off+n) (X.length-(off+n)) j E;simp at h;rw[aep,acP E]at h;rw[abB (l:=X.drop<|off+n) I]at g;have q:((cs.toList.take<|X.length*sz).drop<|(off+n)*sz).take ((X.length-(off+n))*sz)=(cs.toList.drop<|(off+n)*sz).take ((X.length-(off+n))*sz):=by rw[List.drop_take,aep,acP];rw[Nat.sub_mul];exact .refl
 rw[q]at g;have e:(cs.toList.take (off*sz)++us++cs.toList.drop (off*sz+n*sz)).take (X.length*sz)=cs.toList.take (off*sz)++us++(cs.toList.drop<|(off+n)*sz).take ((X.length-(off+n))*sz):=by
  have hl:(cs.toList.take (off*sz)++us).length=(off+n)*sz:=by rw[abE,abH];omega
  rw[List.take_append,abB<|by rw[hl];exact m,hl,k,Nat.sub_mul]
 rw[e];have:=(h.append sz hY).append sz g;simpa using this
def IV{args:List AV}{sz:Nat}(l:args.length<=1000000)(hc:aT S V.g (both args [.list .own sz X]) (bg V vs) w F)(x:X≠[])(a:bU X=true):
 ∃b cap cs,V.v 1000000=.slice (some ⟨b,0,none⟩) X.length cap/\row? w b=some (cs,(0,0))/\F 1000000=[b]/\X.length<=cap/\cap<=maxLen/\cs.size=cap*sz/\c7 w S sz X (cs.toList.take<|X.length*sz) []/\¬S b:=by
 have e:=hc.rel 1000000;have f:=fT (args:=args) (H:=[.list .own sz X]) l 0;rw[an.aA<|by rw[f];rfl,f]at e;rcases e with⟨h,-⟩|⟨b,cap,cs,y,u,r,q,p,m,k,j⟩
 ·simp_all
 have c:=c7.aG sz k a;subst c;exact⟨b,cap,cs,u,r,j,q,p,m,k,(hc.own 1000000 b<|by rw[j];simp).2.2⟩
def EV{a:Operand->Value}(e:o.op=.call ⟨.builtin .copy,#[d,s],ts⟩)(c:o.op.operands.toList.map a=vs){v:Value}(h:∀x y,vs=[x,y]->(Builtin.copy_ ts o.type #[x,y]).run P w=.ok v w'):
 (execOp a o).run P w=.ok (.value v) w':=by
 have:=h (a d) (a s) (by rw[<-c,e];simp[Op.operands,Call.operands]);simp[execOp,e,Go.resolve,invoke,builtin,this]
def Mb{args:List AV}{sz cap c m:Nat}(hi:i<1000000)(hc:aT S V.g (both args [.list .own sz X]) (bg V vs) w F)(p:V.v 1000000=.slice (some ⟨b,0,none⟩) n cap)
 (q:args[i]?=some (.bC 1000000 0 0 [.lZ sz c m]))(j:args.length<=1000000)(l:0<m/\c+m<=X.length):vs.getD i undef=.slice (some ⟨b,c*sz,none⟩) m (cap-c):=by
 have f:bg V vs 1000000=V.v 1000000:=by unfold bg;rw[if_neg E]
 have hs:=hc.rel i;have k:=gM (args:=args) (H:=[.list .own sz X]) hi;rw[q]at k;unfold an at hs;rw[k]at hs;obtain⟨-,-,-,h⟩:=hs;obtain⟨L,k1,k2,-⟩:=h (LP _).1 (.inr (LP _).2) λ_=>by have a:=fT (args:=args) (H:=[.list .own sz X]) j 0;simp at a;rw[a];simp only[bp];rw[if_pos ⟨U,l⟩];exact⟨_,W⟩
 rw[f,p]at k1;simp[loc,step1,Go.Ai.cm]at k1;subst k1;have e:bg V vs i=vs.getD i undef:=by unfold bg;rw[if_pos hi]
 rw[e]at k2;rw[k2,Addr.add_lit];simp
def xr{args:List AV}{x:AV}(hi:i<1000000)(hc:aT S V.g (both args [x]) (bg V vs) w F)
 (f:args[i]?=some (.bC 1000000 0 0 [])):vs.getD i undef=V.v 1000000:=by
 have a:bg V vs 1000000=V.v 1000000:=by unfold bg;rw[if_neg E]
 have hs:=hc.rel i;have c:=gM (args:=args) (H:=[x]) hi;rw[f]at c;unfold an at hs;rw[c]at hs;obtain⟨-,-,-,h⟩:=hs;obtain⟨L,k1,k2,-⟩:=h (LP _).1 (.inl W) λh=>by simp[kh]at h
 simp[loc]at k1;subst k1;have e:bg V vs i=vs.getD i undef:=by unfold bg;rw[if_pos hi]
 rw[e]at k2;rw[k2,a]
def Nq{off:Nat}{cs:Array Value}{c:Nat×Nat}(a:row? w b=some (cs,c)){us:List Value}(h:∀j v,us[j]?=some v->cs.toList[off+j]?=some v)(j:Nat)(v:Value)(f:us[j]?=some v):w.cell? ((⟨b,off,none⟩:Addr).add j)=some v:=by
 have hh:∃e,w.heap[b]?=some (.cells cs e c):=by
  unfold row? at a;split at a
  ·rename_i g e c he;cases a;exact⟨e,he⟩
  cases a
 obtain⟨e,he⟩:=hh;rw[Addr.add_lit];simp[World.cell?,he];have:=h j v f;simpa using this
def E8{e:TypeId}{ti:TI}(ho:o.op=.call ⟨.builtin .copy,#[d,s],ts⟩)(ht:ts[0]?=some t)(hu:P.underlying t=some (.slice e))(N:cu P e=some ti){sz:Nat}(k:sz=ti.size)
 (hX:X≠[])(Q:bU X=true)(g:X.all (fits ti)=true){off m1 m2:Nat}(hn:Nat.min m2 m1=n)(h1:off+m1<=X.length)(h2:m2<=X.length)(g1:0<m1)(g2:0<m2):
   SI P o [.list .own sz X] [.bC 1000000 0 0 [.lZ sz off m1],.bC 1000000 0 0 [.lZ sz 0 m2]] [.list .own sz<|X.take off++X.take n++X.drop (off+n)] (.v<|.int .i64 n):=by
  intro w S V vs F hl hc ρ K;obtain⟨b,f,r,L,O,hF,m,B,q,T,R⟩:=IV I hc hX Q;have A0:n<=m1/\n<=m2:=by have h3:min m2 m1=n:=hn;omega
  obtain⟨x,y,rfl⟩:∃x y,vs=[x,y]:=by
   match vs,hl with
   |[x,y],_=>exact⟨x,y,W⟩
  have hx:x=.slice (some ⟨b,off*sz,none⟩) m1 (f-off):=Mb (i:=0) E hc L W I ⟨g1,h1⟩;have hy:y=.slice (some ⟨b,0*sz,none⟩) m2 (f-0):=Mb (i:=1) E hc L W I ⟨g2,E⟩;have H:r.toList.length=f*sz:=by simpa using q
  have q2:(off+n)*sz<=f*sz:=abT _ E;have q3:(off+n)*sz=off*sz+n*sz:=abP _ _ _;have Z:n*sz<=X.length*sz:=abT _ E;obtain⟨us,p⟩:∃us,us=r.toList.take (n*sz):=⟨_,W⟩;have A:us.length=n*sz:=by rw[p,abH,H];omega
  have J:c7 w S sz (X.take n) us []:=by have:=c7.sub sz 0 n T E;simp[acL,aer]at this;rw[aep,acP Z]at this;rw[p];exact this
  have l:=HQ (P:=P) (w:=w) (ty:=o.type) ht hu N (m1:=m1) (c1:=f-off) (n2:=m2) (c2:=f-0) (a:=⟨b,0*sz,none⟩) (off:=off*sz) (us:=us) O hn (by rw[<-k];exact A) (by
   refine Nq O λj v C=>?_;rw[p]at C;rw[acE]at C;split at C
   ·simpa using C
   ·cases C) (by
   intro u M;refine c7.one sz k J ?_ u M;rw[abN]at g⊢;exactλz hz=>g z<|adq hz) (by rw[<-k];have:r.size=f*sz:=q;omega)
  rw[<-k]at l;refine⟨_,.int .i64 n,_,EV ho K λx' y' e=>?_,.inl W,copied I hc L O hF ⟨m,B⟩ (cs':=(r.toList.take (off*sz)++us++r.toList.drop (off*sz+n*sz)).toArray) ?_ ?_ ?_⟩
  ·simp[afo,and_true]at e;obtain⟨rfl,rfl⟩:=e;rw[hx,hy];exact l
  ·simp only[aeM,abE,abH,acB,A,H];omega
  ·simp[abE,abH,acB];omega
  have D:∀c,S c\/c∈([]:List Nat)->(w.setRow b (r.toList.take (off*sz)++us++r.toList.drop (off*sz+n*sz)).toArray).heap[c]?=w.heap[c]?:=by
   rintro c(h|h)
   ·exact setRow_other b _ λe=>R (e▸h)
   cases h
  exact Na (c7.frame sz _ T D) (c7.frame sz _ J D) (by simp;omega) E q m
def Nh{e:TypeId}{ti:TI}(ho:o.op=.call ⟨.builtin .copy,#[d,s],ts⟩)(ht:ts[0]?=some t)(hu:P.underlying t=some (.slice e))(T:cu P e=some ti){sz:Nat}(m:sz=ti.size)
 (hX:X≠[])(Z:bU X=true)(hY:Y≠[])(g:Y.all (fits ti)=true)(hn:Nat.min Y.length X.length=n):
   SI P o [.list .own sz X] [.bC 1000000 0 0 [],.list .shr sz Y] [.list .own sz<|Y.take n++X.drop n] (.v<|.int .i64 n):=by
  intro w S V vs F hl hc ρ O;obtain⟨b,k,l,hv,hr,hF,q,K,A,hE,E1⟩:=IV I hc hX Z;have A0:n<=Y.length/\n<=X.length:=by have h3:min Y.length X.length=n:=hn;omega
  obtain⟨x,y,rfl⟩:∃x y,vs=[x,y]:=by
   match vs,hl with
   |[x,y],_=>exact⟨x,y,W⟩
  have hx:x=.slice (some ⟨b,0,none⟩) X.length k:=(xr (i:=0) E hc W).trans hv;have r:=hc.rel 1;have B:=gM (args:=[.bC 1000000 0 0 [],.list .shr sz Y]) (H:=[.list .own sz X]) (i:=1) E;simp[List.getElem?_cons_succ,aeO]at B;rw[an.aA<|by rw[B];rfl,B]at r;have Q:bg V [x,y] 1=y:=W;rw[Q]at r;rcases r with⟨h,-⟩|⟨b2,p,N,E2,F0,h3,h4,h5,h6,h7,h8⟩
  ·exact absurd h hY
  have B0:l.toList.length=k*sz:=by simpa using A
  have q1:n*sz<=k*sz:=abT _ E;have q4:n*sz<=Y.length*sz:=abT _ E;obtain⟨us,D⟩:∃us,us=(E2.toList.drop p).take (n*sz):=⟨_,W⟩;have C:c7 w S sz (Y.take n) us []:=by have:=c7.sub sz 0 n h7 E;simp[acL,aer]at this;rw[aep,acP q4]at this;rw[D];exact this
  have J:us.length=n*sz:=by have:=c7.length sz C;rw[this,abH,acP A0.1]
  have f:=HQ (P:=P) (w:=w) (ty:=o.type) ht hu T (m1:=X.length) (c1:=k) (n2:=Y.length) (c2:=N) (a:=⟨b2,p,none⟩) (off:=0) (us:=us) hr hn (by rw[<-m];exact J) (by
   refine Nq h5 λj v L=>?_;rw[D,acE]at L;split at L
   ·rw[ada]at L;exact L
   ·cases L) (by
   intro u R;refine c7.one sz m C ?_ u R;rw[abN]at g⊢;exactλz hz=>g z<|adq hz) (by rw[<-m];have:l.size=k*sz:=A;omega)
  rw[<-m]at f;have e0:Y.take n++X.drop n=X.take 0++Y.take n++X.drop (0+n):=I;have e1:l.toList.take 0++us++l.toList.drop (0+n*sz)=l.toList.take (0*sz)++us++l.toList.drop (0*sz+n*sz):=I;rw[e1]at f;refine⟨_,.int .i64 n,_,EV ho O λx' y' e=>?_,.inl W,copied I hc hv hr hF ⟨q,K⟩ (cs':=(l.toList.take (0*sz)++us++l.toList.drop (0*sz+n*sz)).toArray) ?_ ?_ ?_⟩
  ·simp[afo,and_true]at e;obtain⟨rfl,rfl⟩:=e;rw[hx,h3];exact f
  ·simp[aeM,abE,abH,acB,J,B0];omega
  ·simp[abE,abH,acB];omega
  have M:∀c,S c\/c∈([]:List Nat)->(w.setRow b (l.toList.take (0*sz)++us++l.toList.drop (0*sz+n*sz)).toArray).heap[c]?=w.heap[c]?:=by
   rintro c(h|h)
   ·exact setRow_other b _ λe=>E1 (e▸h)
   cases h
  rw[e0];exact Na (c7.frame sz _ hE M) (c7.frame sz _ C M) (by simp;omega) E A q
end
end
def nG{a:Machine->Prop}{P:Program}{m s t:Machine}(h:StepsIn a P m t)(hs:step P m=.next s)(c:m≠t):StepsIn a P s t:=by
 cases h with
 |refl=>simp_all
 |head e b d=>rw[hs]at b;cases b;exact d
def uZ{id:Nat}:∀{k a:List Item},exitTo id k=some a->a.length<=k.length
 |[],a,h=>by simp[exitTo]at h
 |x::k,a,h=>by
  cases x with
  |inBlock b=>
   simp[exitTo]at h;split at h
   ·cases h;simp
   have:=uZ h;simp;omega
  |_=>simp[exitTo]at h;have:=uZ h;simp;omega
def Wh:Exit->Bool
 |.normal|.exit _|.ret=>true
 |_=>false
def Yf(Q:Exit->St->Prop)(K:St->Prop):Exit->St->Prop
 |.normal,σ=>K σ
 |e,σ=>Q e σ
section
variable{R:Option Nat->Prop}{P:Program}{N:Nat}{F:St->Prop}{k:List It}{l:aU}{σ:St}
def Pq{c:Code}{Q:Exit->St->Prop}(Z:∀e σ,Q e σ->Wh e=true)(h:AW R P N c (Yf Q λS=>AW R P N (.loop c) Q S) σ):AW R P N (.loop c) Q σ:=by
 intro V X S0 a w T hi b k r C O M;obtain⟨e,j,i,⟨f,v,g⟩,m⟩:=h V X S0 a w T hi b (.inLoop c::k) r C O M;have first:∀{e L z},ArrivesIn (Machine.fenced P<|FW V.rd) P (lone (b.atR a<|.code c::.inLoop c::k) r w) b k r e L z->ArrivesIn (Machine.fenced P<|FW V.rd) P (lone (b.atR a<|.code (.loop c)::k) r w) b k r e L z:=λh=>.of_steps (.one (fenced_calm O M W) stepR_loop) h
 cases e with
 |normal=>
  obtain⟨s,K,y,⟨t,q,u⟩,d⟩:=AW.x (v:AW R P N (.loop c) Q f) T g b k r C O M;refine⟨s,K,y,⟨t,q,u⟩,first<|.of_steps m<|.of_steps (.one (fenced_calm O M W) stepR_inLoop) ?_⟩;have p:step P (lone (b.atR j<|.code (.loop c)::k) r i)=.next (lone (b.atR j<|.code c::.inLoop c::k) r i):=stepR_loop;have n:∀{B:List Item}{L:Act}{z:World},lone (b.atR j<|.code (.loop c)::k) r i=lone (b.atR L B) r z->.code (.loop c)::k=B:=by intro B L z hh;simp[lone,Frame.atR,Frame.mk.injEq]at hh;simp_all
  have Y:=Z _ _ q;cases s with
  |normal=>refine nG d p λhh=>?_;have:=congrArg List.length<|n hh;simp at this
  |exit id=>
   refine⟨λB D=>nG (d.1 B D) p λhh=>?_,λJ h2=>?_⟩
   ·have e1:=congrArg List.length (n hh);have e2:=uZ D;simp at e1;omega
   obtain⟨o,h3,H⟩:=d.2 J h2;refine⟨o,h3,nG H p λhh=>?_⟩;have:=n hh;cases this
  |ret=>
   refine⟨λJ=>?_,λJ=>?_⟩
   ·obtain⟨A,H⟩:=d.1 J;refine⟨A,nG H p λhh=>?_⟩;simp[lone,Frame.atR]at hh
   obtain⟨o,H⟩:=d.2 J;refine⟨o,nG H p λhh=>?_⟩;have:=n hh;cases this
  |_=>simp[Wh]at Y
 |exit id=>exact⟨_,j,i,⟨f,v,g⟩,first<|.pass (x:=.inLoop c) W (λ_ _=>.inl I) m⟩
 |goto l=>exact⟨_,j,i,⟨f,v,g⟩,first<|.pass (x:=.inLoop c) W (λ_ _=>.inl I) m⟩
 |ret=>exact⟨_,j,i,⟨f,v,g⟩,first<|.pass (x:=.inLoop c) W (λ_ _=>.inl I) m⟩
 |panic ch=>exact⟨_,j,i,⟨f,v,g⟩,first<|.pass (x:=.inLoop c) W (λ_ _=>.inl I) m⟩
 |outgrown=>exact⟨_,j,i,⟨f,v,g⟩,first<|.pass (x:=.inLoop c) W (λ_ _=>.inl I) m⟩
def lM:∀{k:List It}{e:Exit}{σ:St},iR R P N F k e σ->Wh e=true
 |[],e,σ,h=>by cases e<;>first|rfl|exact h.elim
 |.code c::k,e,σ,h=>by cases e<;>first|rfl|exact lM (k:=k) h
 |.jS id::k,e,σ,h=>by cases e<;>first|rfl|exact lM (k:=k) h
 |.Wp::k,e,σ,h=>by cases e<;>first|rfl|exact h.elim|exact lM (k:=k) h
 |.ops all b::k,e,σ,h=>by cases e<;>first|rfl|exact lM (k:=k) h
 |.ng all f b d::k,e,σ,h=>by cases e<;>first|rfl|exact lM (k:=k) h
 |.inv a::k,e,σ,h=>by cases e<;>first|rfl|exact lM (k:=k) h
def gR{c:Code}(h:AK R P N F (.code c::.code (.loop c)::k) l):AK R P N F (.code (.loop c)::k) l:=by refine Pq (λe σ h=>lM h)<|jr (h:AW R P N c (iR R P N F<|.code (.loop c)::k) (dn l)) λe a h=>?_;cases e<;>exact h
end
def GW:List Pd->Bool
 |[]=>true
 |⟨_,b,_⟩::l=>match b with
  |true=>GW l
  |false=>false
def aP:∀{l:List Pd},GW l=true->ag l
 |[],_=>trivial
 |⟨p,b,h⟩::l,hc=>by
  cases b with
  |true=>exact⟨h W,aP hc⟩
  |false=>cases hc
def oW{α:Type _}(n:Nat)(k:Nat->α):α:=match n with
 |0=>k 0
 |m+1=>k<|Nat.succ m
def qH{α:Type _}(n:Nat)(k:Nat->α):oW n k=k n:=by cases n<;>rfl
def RC{α:Type _}(a:Int)(k:Int->α):α:=match a with
 |.ofNat n=>oW n λn=>k (.ofNat n)
 |.negSucc n=>oW n λn=>k<|.negSucc n
def GC{α:Type _}(a:Int)(k:Int->α):RC a k=k a:=by cases a<;>simp[RC,qH]
def Dw{α:Type _}(b:Bool)(k:Bool->α):α:=match b with
 |true=>k true
 |false=>k false
def nf{α:Type _}(b:Bool)(k:Bool->α):Dw b k=k b:=by cases b<;>rfl
def Jc{α:Type _}:List Int->(List Int->α)->α
 |[],k=>k []
 |x::xs,k=>RC x λx=>Jc xs λxs=>k<|x::xs
def Ce{α:Type _}:∀(l:List Int)(k:List Int->α),Jc l k=k l
 |[],k=>rfl
 |x::xs,k=>by simp[Jc,GC,Ce xs]
def RF{α:Type _}:ck->(ck->α)->α
 |[],k=>k []
 |x::xs,k=>oW x.toNat λn=>RF xs λxs=>k<|UInt8.ofNat n::xs
def GD{α:Type _}:∀(l:ck)(k:ck->α),RF l k=k l
 |[],k=>rfl
 |x::xs,k=>by simp[RF,qH,GD xs]
def MW{α:Type _}:List ck->(List ck->α)->α
 |[],k=>k []
 |x::xs,k=>RF x λx=>MW xs λxs=>k<|x::xs
def Jd{α:Type _}:∀(l:List ck)(k:List ck->α),MW l k=k l
 |[],k=>rfl
 |x::xs,k=>by simp[MW,GD,Jd xs]
def MX{α:Type _}:List Bool->(List Bool->α)->α
 |[],k=>k []
 |x::xs,k=>Dw x λx=>MX xs λxs=>k<|x::xs
def Je{α:Type _}:∀(l:List Bool)(k:List Bool->α),MX l k=k l
 |[],k=>rfl
 |x::xs,k=>by simp[MX,nf,Je xs]
def GB{α:Type _}:Path->(Path->α)->α
 |[],k=>k []
 |x::xs,k=>match x with
  |.idx i sz=>oW i λi=>oW sz λsz=>GB xs λxs=>k (.idx i sz::xs)
  |.at o n=>GB xs λxs=>k (.at o n::xs)
  |.deref=>GB xs λxs=>k (.deref::xs)
  |.bW i=>GB xs λxs=>k (.bW i::xs)
  |.lZ a b c=>oW a λa=>oW b λb=>oW c λc=>GB xs λxs=>k<|.lZ a b c::xs
def GA{α:Type _}:∀(l:Path)(k:Path->α),GB l k=k l
 |[],k=>rfl
 |x::xs,k=>by cases x<;>simp[GB,qH,GA xs]
def RE{α:Type _}{a:Type}(g:a->(SV->α)->α):List a->(List SV->α)->α
 |[],f=>f []
 |x::xs,f=>g x λx=>RE g xs λxs=>f<|x::xs
mutual
def nd{α:Type _}:SV->(SV->α)->α
 |.n k a,f=>RC a λa=>f (.n k a)
 |.b x,f=>Dw x λx=>f (.b x)
 |.u x,f=>Dw x λx=>f (.b x)
 |.s x,f=>RF x λx=>f (.s x)
 |.c x,f=>f (.c x)
 |.nil,f=>f .nil
 |.ints k o xs,f=>Dw o λo=>Jc xs λxs=>f (.ints k o xs)
 |.fv k xs,f=>match xs with
  |[]=>f .nil
  |x::xs=>RC x λx=>Jc xs λxs=>f (.ints k false<|x::xs)
 |.strs o xs,f=>Dw o λo=>MW xs λxs=>f (.strs o xs)
 |.cz o xs,f=>Dw o λo=>MX xs λxs=>f (.cz o xs)
 |.bA o sz _ e xs,f=>Dw o λo=>RE (λx=>nd<|e x) xs λxs=>f (.row o sz xs)
 |.row o sz xs,f=>Dw o λo=>Dv xs λxs=>f (.row o sz xs)
 |.agg xs,f=>Dv xs λxs=>f (.agg xs)
 |.bW xs,f=>Dv xs λxs=>f (.bW xs)
 |.box o x,f=>Dw o λo=>nd x λx=>f (.box o x)
 |.fn g a c,f=>Dv a λa=>Dv c λc=>f (.fn g a c)
 |.bC r a b p,f=>oW a λa=>oW b λb=>GB p λp=>f (.bC r a b p)
 |.ptr r a b p,f=>oW a λa=>oW b λb=>GB p λp=>f (.ptr r a b p)
 |.hole,f=>f .hole
 |.dead,f=>f .dead
 |.pv C,f=>f (.pv C)
 |.abs J,f=>f (.abs J)
 |.fS g d,f=>f (.fS g d)
 |.mp K,f=>f<|.mp K
def Dv{α:Type _}:List SV->(List SV->α)->α
 |[],f=>f []
 |x::xs,f=>nd x λx=>Dv xs λxs=>f<|x::xs
end
def ER{α:Type _}{a:Type}{g:a->(SV->α)->α}{e:a->SV}(h:∀x k,∃y,y.den=(e x).den/\g x k=k y):∀(l:List a)(k:List SV->α),∃ys,aB ys=aB (l.map e)/\RE g l k=k ys
 |[],k=>⟨[],W,W⟩
 |x::xs,k=>by obtain⟨y,f,d⟩:=h x λy=>RE g xs λxs=>k<|y::xs;obtain⟨ys,c,b⟩:=ER h xs λxs=>k<|y::xs;exact⟨y::ys,by simp[aB,f,c],by simp[RE,d,b]⟩
mutual
theorem tl{α:Type _}:∀(x:SV)(k:SV->α),∃y,y.den=x.den/\nd x k=k y
 |.n k a,f=>⟨.n k a,W,by simp[nd,GC]⟩
 |.b x,f=>⟨.b x,W,by simp[nd,nf]⟩
 |.u x,f=>⟨.b x,W,by simp[nd,nf]⟩
 |.s x,f=>⟨.s x,W,by simp[nd,GD]⟩
 |.c x,f=>⟨.c x,W,W⟩
 |.nil,f=>⟨.nil,W,W⟩
 |.ints k o xs,f=>⟨.ints k o xs,W,by simp[nd,nf,Ce]⟩
 |.fv k xs,f=>by
  cases xs with
  |nil=>exact⟨.nil,W,W⟩
  |cons x xs=>exact⟨.ints k false<|x::xs,W,by simp[nd,GC,Ce]⟩
 |.strs o xs,f=>⟨.strs o xs,W,by simp[nd,nf,Jd]⟩
 |.cz o xs,f=>⟨.cz o xs,W,by simp[nd,nf,Je]⟩
 |.bA o sz _ e xs,f=>by obtain⟨ys,h,d⟩:=ER (g:=λx=>nd<|e x) (λx k=>tl (e x) k) xs λxs=>f<|.row o sz xs;exact⟨.row o sz ys,by simp only[SV.den,h,cn,adA];rfl,by simp[nd,nf,d]⟩
 |.row o sz xs,f=>by obtain⟨ys,h,d⟩:=nr xs λxs=>f<|.row o sz xs;exact⟨.row o sz ys,by simp[SV.den,h],by simp[nd,nf,d]⟩
 |.agg xs,f=>by obtain⟨ys,h,d⟩:=nr xs λxs=>f<|.agg xs;exact⟨.agg ys,by simp[SV.den,h],by simp[nd,d]⟩
 |.bW xs,f=>by obtain⟨ys,h,d⟩:=nr xs λxs=>f<|.bW xs;exact⟨.bW ys,by simp[SV.den,h],by simp[nd,d]⟩
 |.box o x,f=>by obtain⟨y,h,d⟩:=tl x λx=>f<|.box o x;exact⟨.box o y,by simp[SV.den,h],by simp[nd,nf,d]⟩
 |.fn g a c,f=>by obtain⟨ys,h,d⟩:=nr a λa=>Dv c λc=>f<|.fn g a c;obtain⟨m,l,j⟩:=nr c λc=>f<|.fn g ys c;exact⟨.fn g ys m,by simp[SV.den,h,l],by simp[nd,d,j]⟩
 |.bC r a b p,f=>⟨.bC r a b p,W,by simp[nd,qH,GA]⟩
 |.ptr r a b p,f=>⟨.ptr r a b p,W,by simp[nd,qH,GA]⟩
 |.hole,f=>⟨.hole,W,W⟩
 |.dead,f=>⟨.dead,W,W⟩
 |.pv C,f=>⟨.pv C,W,W⟩
 |.abs J,f=>⟨.abs J,W,W⟩
 |.fS g i,f=>⟨.fS g i,W,W⟩
 |.mp K,f=>⟨.mp K,W,W⟩
theorem nr{α:Type _}:∀(x:List SV)(k:List SV->α),∃y,aB y=aB x/\Dv x k=k y
 |[],k=>⟨[],W,W⟩
 |x::xs,k=>by obtain⟨y,h,d⟩:=tl x λy=>Dv xs λxs=>k<|y::xs;obtain⟨ys,l,j⟩:=nr xs λxs=>k<|y::xs;exact⟨y::ys,by simp[aB,h,l],by simp[Dv,d,j]⟩
end
def O8{α:Type _}(d:Nat):aU->(aU->α)->α
 |[],k=>k []
 |(e,x)::l,k=>match Nat.beq d e with
  |true=>k l
  |false=>O8 d l λa=>k<|(e,x)::a
def E5{α:Type _}(d:Nat):∀(l:aU)(k:aU->α),∃a,(∀i,i≠d->gt a i=gt l i)/\O8 d l k=k a
 |[],k=>⟨[],λ_ _=>rfl,W⟩
 |(e,x)::l,k=>by
  cases b:Nat.beq d e with
  |true=>
   have:=abZ b;subst this;refine⟨l,λi hi=>?_,by simp[O8]⟩;have:Nat.beq i d=false:=by
    cases b:Nat.beq i d with
    |false=>rfl
    |true=>simp_all
   simp[gt,this]
  |false=>
   obtain⟨a,f,c⟩:=E5 d l λa=>k<|(e,x)::a;refine⟨(e,x)::a,λi hi=>?_,by simp[O8,b,c]⟩;simp[gt];cases Nat.beq i e with
   |true=>rfl
   |false=>exact f i hi
def RD{α:Type _}:Nat->aU->(aU->α)->α
 |0,l,k=>k l
 |n+1,l,k=>match l with
  |[]=>k []
  |(d,x)::l=>match x with
   |⟨v,a,b⟩=>RD n l λl=>O8 d l λl=>nd v λv=>oW a λa=>oW b λb=>k<|(d,⟨v,a,b⟩)::l
def yc{α:Type _}:∀(n:Nat)(l:aU)(k:aU->α),∃e,dn e=dn l/\RD n l k=k e
 |0,l,k=>⟨l,W,W⟩
 |n+1,[],k=>⟨[],W,W⟩
 |n+1,(d,⟨v,a,b⟩)::l,k=>by
  obtain⟨f,p,o⟩:=yc n l λl=>O8 d l λl=>nd v λv=>oW a λa=>oW b λb=>k<|(d,⟨v,a,b⟩)::l;obtain⟨c,m,j⟩:=E5 d f λl=>nd v λv=>oW a λa=>oW b λb=>k<|(d,⟨v,a,b⟩)::l;obtain⟨y,h,g⟩:=tl v λv=>oW a λa=>oW b λb=>k<|(d,⟨v,a,b⟩)::c;refine⟨(d,⟨y,a,b⟩)::c,?_,by show RD n l _=_;rw[o,j,g,qH,qH]⟩;rw[fR,fR,<-p]
  funext i
  unfold iI;by_cases hi:i=d
  ·simp[hi,Cl.den,h]
  simp[hi,dn,m i hi]
abbrev pW:=FuncId->List SV->Option SV
structure FnI where
 nt:Nat
 body:Code
 rs:List ResultVar
def Uv(P:Program)(g:FuncId):Option FnI:=match nth P.funcs.toList g with
 |some fn=>match fn.body with
  |some c=>some ⟨fn.ntmps,c,fn.results.toList⟩
  |none=>none
 |none=>none
def Ie(fn:Func):Bool:=eX (not'<|fn.name== "runtime.NumGoroutine")<|eG fn.results.toList []
abbrev Ex:=Nat->List It->aU->List It×aU
def Th(ex:Ex)(P:Program)(tt:TT)(T:pW)(g:FuncId)(asx:List SV):Option SV:=
 match T g asx with
 |some r=>some r
 |none=>match Uv P g with
  |some ⟨nt,c,rs⟩=>match Nat.ble (len asx) nt with
   |true=>match ex nt [.code c] (Ay 0 asx)with
    |(k,l)=>match k with
     |[]=>match iB tt l rs with
      |some a=>some (vK a)
      |none=>none
     |_::_=>none
   |false=>none
  |none=>none
def J2(l:aU):Nat->Nat->Option (List SV)
 |_,0=>some []
 |k,n+1=>match gt l k with
  |⟨v,_,_⟩=>match v.plain with
   |true=>match J2 l (k+1) n with
    |some a=>some (v::a)
    |none=>none
   |false=>none
def Qu(ex:Ex)(P:Program)(tt:TT)(g:FuncId)(asx H:List SV):Option (List SV×SV):=
 match Uv P g with
 |some ⟨nt,c,rs⟩=>match eX (Nat.ble (len asx) nt) (Nat.ble nt 1000000)with
  |true=>match ex nt [.code c] (RO asx H)with
   |(k,l)=>match k with
    |[]=>match iB tt l rs,J2 l 1000000 (len H)with
     |some b,some a=>some (a,vK b)
     |_,_=>none
    |_::_=>none
  |false=>none
 |none=>none
def XT(ex:Ex)(P:Program)(tt:TT)(T:pW)(B:List Nat)(l:aU)(b:Option Nat)(f:Operand)(asx:List Operand):Option (aU×List Nat):=
 match oE l f asx with
 |some (d,⟨g,c,sh⟩)=>match eX (not'<|Gk g B) (GW d)with
  |true=>match Th ex P tt T g c with
   |some r=>match jE l b r sh with
    |some (a,e,h)=>match GW a with
     |true=>some (e,h)
     |false=>none
    |none=>none
   |none=>none
  |false=>none
 |none=>none
def TH(ex:Ex)(P:Program)(tt:TT)(l:aU)(a:Option Nat):aaj->Option (aU×List Nat)
 |⟨g,xs,R⟩=>match Qu ex P tt g xs (lD R)with
  |some (out,r)=>ij l a R out r
  |none=>none
def VQ(ex:Ex)(P:Program)(tt:TT)(T:pW)(B:List Nat)(l:aU)(a:Option Nat)(f:Operand)(asx:List Operand):Option (aU×List Nat):=
 match XT ex P tt T B l a f asx with
 |some y=>some y
 |none=>match sw l f asx with
  |some (b,h)=>match GW b with
   |true=>TH ex P tt l a h
   |false=>none
  |none=>match Cb l f asx with
   |some h=>TH ex P tt l a h
   |none=>none
def HC(tt:TT)(a:List Nat)(all:List Oper)(l:aU)(o:Oper):Option (aU×List Nat):=
 match HB tt a all l o with
 |some (b,c,d)=>match GW b with
  |true=>some (c,d)
  |false=>none
 |none=>none
def FG(ex:Ex)(P:Program)(tt:TT)(T:pW)(B:List Nat)(all:List Oper)(l:aU)(o:Oper):Option (aU×List Nat):=
 match o with
 |⟨a,op,e,pos,c,g⟩=>match cV l all g with
  |some true=>match op with
   |.call ⟨.value f,asx,_⟩=>VQ ex P tt T B l a f asx.toList
   |.makeFunc (.func h) first b=>match a with
    |some d=>QY l d h first.toList b.toList
    |none=>none
   |op=>match a with
    |some d=>HC tt [d] all l ⟨some d,op,e,pos,c,g⟩
    |none=>none
  |_=>none
def UB(ex:Ex)(P:Program)(tt:TT)(T:pW)(B:List Nat)(all:List Oper)(l:aU)(o:Oper):Option (aU×List Nat):=
 match HC tt [] all l o with
 |some (a,b)=>RD (len b) a λa=>some (a,b)
 |none=>match FG ex P tt T B all l o with
  |some (a,b)=>RD (len b) a λa=>some (a,b)
  |none=>none
def Zh:Code->Option Code
 |.loop c=>some c
 |_=>none
def exec(P:Program)(tt:TT)(T:pW)(B:List Nat):Nat->Ex
 |0,_,k,l=>(k,l)
 |n+1,N,k,l=>match k with
  |[]=>([],l)
  |i::k0=>match i with
   |.ops all (o::rest)=>match UB (exec P tt T B n) P tt T B all.toList l o with
    |some (b,_)=>exec P tt T B n N (.ops all rest::k0) b
    |none=>(.ops all (o::rest)::k0,l)
   |.ng all d (o::rest) a=>match UB (exec P tt T B n) P tt T B all.toList l o with
    |some (b,g)=>exec P tt T B n N (.ng all d rest ((iD (dn l) all o,g)::a)::k0) b
    |none=>(.ng all d (o::rest) a::k0,l)
   |.ng all d [] a=>match apart d a.reverse all.size with
    |true=>exec P tt T B n N k0 l
    |false=>(.ng all d [] a::k0,l)
   |.code c=>match Zh c with
    |some h=>exec P tt T B n N (.code h::.code c::k0) l
    |none=>match D5 tt [] N (.code c::k0) l with
     |some (e,f,b)=>match GW e with
      |true=>exec P tt T B n N f b
      |false=>(.code c::k0,l)
     |none=>(.code c::k0,l)
   |i=>match D5 tt [] N (i::k0) l with
    |some (e,f,b)=>match GW e with
     |true=>exec P tt T B n N f b
     |false=>(i::k0,l)
    |none=>(i::k0,l)
section
variable{P:Program}{tt:TT}{T:pW}{B:List Nat}
def ET(hW:P.funcs.toList.all Ie=true){g:FuncId}{nt:Nat}{c:Code}{rs:List ResultVar}(h:Uv P g=some ⟨nt,c,rs⟩):
 ∃fn,P.funcs[g]?=some fn/\fn.body=some c/\fn.ntmps=nt/\fn.results.toList=rs/\(fn.name== "runtime.NumGoroutine")=false/\eG fn.results.toList []=true:=by
 unfold Uv at h;split at h<;>try(cases h)
 rename_i fn a;split at h<;>try(cases h;done)
 rename_i e hc;obtain⟨rfl,rfl,rfl⟩:=h;rw[mI]at a;have b:=adD a;have d:=abN.1 hW fn b;simp only[Ie,aO,not_iff]at d;exact⟨fn,by rw[<-acS];exact a,hc,W,W,d.1,d.2⟩
def YY(P:Program)(ex:Ex):Prop:=∀(N:Nat)(R:Option Nat->Prop)(F:St->Prop)(k:List It)(l:aU),AK R P N F (ex N k l).1 (ex N k l).2->AK R P N F k l
def Bc(hA:cH P tt)(hW:P.funcs.toList.all Ie=true)(s:∀g asx r,T g asx=some r->aM P g asx r){ex:Ex}(f:YY P ex){g:FuncId}{asx:List SV}{r:SV}(h:Th ex P tt T g asx=some r):aM P g asx r:=by
 unfold Th at h;split at h
 ·rename_i p q;simp_all
 split at h<;>try(cases h)
 rename_i nt c rs j;split at h<;>try(cases h)
 rename_i a;obtain⟨b,i,e⟩:∃b i,ex nt [.code c] (Ay 0 asx)=(b,i):=⟨_,_,W⟩;rw[e]at h;cases b with
 |cons _ _=>cases h
 |nil=>
  simp only at h;split at h<;>try(cases h;done)
  rename_i o d;cases h;obtain⟨fn,n,m,rfl,rfl,l,k⟩:=ET hW j;refine enter n m l a k<|f _ _ _ _ _ ?_;rw[e];exact ret hA d<|ar.refl _
def XU(l:aU):List Nat->List (Nat×SV)
 |[]=>[]
 |i::q=>(i,(gt l i).v)::XU l q
def FI(l:aU):∀{q:List Nat}{i:Nat},i∈q->(gt (sl<|XU l q) i).v=(gt l i).v
 |[],i,h=>by cases h
 |j::q,i,h=>by
  simp[XU,sl,gt];cases a:Nat.beq i j with
  |true=>have:=abZ a;subst this;rfl
  |false=>
   refine FI l ?_;rcases abz.1 h with rfl|h
   ·rw[Nat.beq_refl]at a;cases a
   exact h
def HK{l m:aU}:∀{q:List Nat},(∀i∈q,(gt l i).v.plain=true)->yN l m (XU l q)
 |[],_=>trivial
 |i::q,h=>⟨.inl ⟨h i I,h i I,uq.of_le<|sS.refl _⟩,HK λj a=>h j<|by simp[a]⟩
def Pz:List ResultVar->List Nat
 |[]=>[]
 |.tmp t::rs=>t::Pz rs
 |.cell t _::rs=>t::Pz rs
def rR{l m:aU}:∀{rs:List ResultVar},(∀i∈Pz rs,(gt m i).v=(gt l i).v)->iB tt m rs=iB tt l rs
 |[],_=>rfl
 |.tmp t::rs,h=>by simp[iB,h t<|by simp[Pz],rR (rs:=rs) λi hi=>h i<|by simp[Pz,hi]]
 |.cell t a::rs,h=>by simp[iB,h t<|by simp[Pz],rR (rs:=rs) λi hi=>h i<|by simp[Pz,hi]]
def rQ{l:aU}:∀{rs:List ResultVar}{xs:List SV},iB tt l rs=some xs->∀i∈Pz rs,(gt l i).v.plain=true
 |[],xs,h,i,hi=>by simp[Pz]at hi
 |.tmp t::rs,xs,h,i,hi=>by
  simp[iB]at h;split at h<;>try(cases h)
  rename_i c;split at h<;>try(cases h)
  rename_i ys a;simp[Pz]at hi;rcases hi with rfl|hi
  ·exact c
  exact rQ a i hi
 |.cell t ty::rs,xs,h,i,hi=>by
  simp[iB]at h;split at h<;>try(cases h)
  rename_i x b;split at h<;>try(cases h)
  split at h<;>try(cases h)
  split at h<;>try(cases h)
  rename_i ys a;simp[Pz]at hi;rcases hi with rfl|hi
  ·rw[b];rfl
  exact rQ a i hi
def C7{l:aU}:∀{n k:Nat}{ys:List SV},J2 l k n=some ys->(∀i,k<=i->i<k+n->(gt l i).v.plain=true)/\∀{m:aU},(∀i,k<=i->i<k+n->(gt m i).v=(gt l i).v)->Gt m k ys
 |0,k,ys,h=>by simp[J2]at h;subst h;exact⟨λi d c=>E,λ_=>trivial⟩
 |n+1,k,ys,h=>by
  simp[J2]at h;split at h<;>try(cases h)
  rename_i b;split at h<;>try(cases h;done)
  rename_i f a;cases h;obtain⟨d,c⟩:=C7 a;refine⟨λi k1 k2=>?_,λ{m}hm=>⟨⟨hm k E E,b⟩,c λi k1 k2=>hm i E E⟩⟩;by_cases e:i=k
  ·subst e;exact b
  exact d i E E
def Bs(hA:cH P tt)(hW:P.funcs.toList.all Ie=true){ex:Ex}(l:YY P ex){g:FuncId}{asx H out:List SV}{r:SV}(h:Qu ex P tt g asx H=some (out,r)):lp P g H asx out r:=by
 unfold Qu at h;split at h<;>try(cases h)
 rename_i nt c rs o;split at h<;>try(cases h)
 rename_i a;rw[aO]at a;obtain⟨j,b,e⟩:∃j b,ex nt [.code c] (RO asx H)=(j,b):=⟨_,_,W⟩;rw[e]at h;cases j with
 |cons _ _=>cases h
 |nil=>
  simp only at h;split at h<;>try(cases h;done)
  rename_i m v d k;cases h;obtain⟨fn,u,t,rfl,rfl,s,p⟩:=ET hW o;obtain⟨w,n⟩:=C7 k;refine sE u t s a.1 a.2 p<|l _ _ _ _ _ ?_;rw[e]
  let q:=Pz fn.results.toList++List.range' 1000000 (len H)
  have f:∀i,1000000<=i->i<1000000+len H->i∈q:=λi k1 k2=>abJ.2<|.inr<|by rw[afr];omega
  refine⟨b,XU b q,W,HK λi hi=>?_,⟨aB m,?_,?_⟩,(n λi k1 k2=>FI b<|f i k1 k2).n⟩
  ·rcases abJ.1 hi with hi|hi
   ·exact rQ d i hi
   rw[afr]at hi;simp_all
  ·refine nk hA ?_;rw[rR λi hi=>FI b<|abJ.2<|.inl hi];exact d
  rw[vJ];exact uq.of_le<|sS.refl _
def Dl(hA:cH P tt)(hW:P.funcs.toList.all Ie=true)(H:∀g asx r,T g asx=some r->aM P g asx r){ex:Ex}(k:YY P ex){all:Array Oper}{l c:aU}{o:Oper}{e:List Nat}{K:List Mv->St->Prop}
 (h:FG ex P tt T B all.toList l o=some (c,e))(j:∀z,bc z=e->K z (dn c)):Mo P all o (dn l) K:=by
 obtain⟨m,p,w,pos,n,g⟩:=o;unfold FG at h;simp only at h;split at h<;>try(cases h)
 rename_i s;have plain:∀{d:Nat}{p:Op},HC tt [d] all.toList l ⟨some d,p,w,pos,n,g⟩=some (c,e)->Mo P all ⟨some d,p,w,pos,n,g⟩ (dn l) K:=by
  intro d p h;unfold HC at h;split at h<;>try(cases h)
  rename_i x D t hs;split at h<;>try(cases h;done)
  rename_i hc;cases h;exact nI<|vr hA hs (aP hc) j
 have refs:∀{b:aaj},TH ex P tt l m b=some (c,e)->∃out r,lp P b.g (lD b.R) b.asx out r/\ij l m b.R out r=some (c,e):=by
  intro b hh;unfold TH at hh;cases i:Qu ex P tt b.g b.asx (lD b.R)with
  |none=>simp[i]at hh
  |some q=>obtain⟨out,r⟩:=q;simp[i]at hh;exact⟨out,r,Bs hA hW k i,hh⟩
 split at h
 ·rename_i f asx L;unfold VQ at h;split at h
  ·rename_i y a;cases h;unfold XT at a;split at a<;>try(cases a)
   rename_i x M J sh hh;split at a<;>try(cases a)
   rename_i A;rw[aO]at A;split at a<;>try(cases a)
   rename_i r i;split at a<;>try(cases a)
   rename_i C D t F;split at a<;>try(cases a;done)
   rename_i hc;cases a;exact nI<|GY s hh (aP A.2) (Bc hA hW H k i) F (aP hc) j
  split at h
  ·rename_i x b hh;split at h<;>try(cases h)
   rename_i hc;obtain⟨out,r,v,u⟩:=refs h;exact FN s hh (aP hc) v u j
  split at h<;>try(cases h)
  rename_i b hh;obtain⟨out,r,v,u⟩:=refs h;exact Qj s hh v u j
 ·split at h<;>try(cases h)
  exact Qh s h j
 split at h<;>try(cases h)
 exact plain h
def CE(hA:cH P tt)(hW:P.funcs.toList.all Ie=true)(s:∀g asx r,T g asx=some r->aM P g asx r){ex:Ex}(i:YY P ex){all:Array Oper}{l d:aU}{o:Oper}{m:List Nat}{K:List Mv->St->Prop}
 (h:UB ex P tt T B all.toList l o=some (d,m))(n:∀c,bc c=m->K c (dn d)):Mo P all o (dn l) K:=by
 unfold UB at h;split at h
 ·rename_i e a hs;obtain⟨p,k,j⟩:=yc (len a) e λd=>some (d,a);rw[j]at h;cases h;unfold HC at hs;split at hs<;>try(cases hs)
  rename_i t u q f;split at hs<;>try(cases hs;done)
  rename_i hc;cases hs;exact nI (vr hA f (aP hc) λc b=>k▸n c b)
 split at h<;>try(cases h)
 rename_i e a hs;obtain⟨p,k,j⟩:=yc (len a) e λd=>some (d,a);rw[j]at h;cases h;exact Dl hA hW s i hs λc b=>k▸n c b
def V9{c a:Code}(h:Zh c=some a):c=.loop a:=by cases c<;>simp[Zh]at h;subst h;rfl
def qL(hA:cH P tt)(hm:P.follows .mixedOrders=true)(hW:P.funcs.toList.all Ie=true)(q:∀g asx r,T g asx=some r->aM P g asx r):∀n:Nat,YY P (exec P tt T B n)
 |0,N,R,F,k,l,h=>h
 |n+1,N,R,F,k,l,h=>by
  have d:=qL hA hm hW q n;have z:∀(i:It)(k0:List It)(b:List It×aU),(match D5 tt [] N (i::k0) l with
   |some (t,u,f)=>match GW t with
    |true=>exec P tt T B n N u f
    |false=>(i::k0,l)
   |none=>(i::k0,l))=b->AK R P N F b.1 b.2->AK R P N F (i::k0) l:=by
   intro i k0 b a m;split at a
   ·rename_i t u f hs;split at a
    ·rename_i hc;subst a;exact qg hA hm hs (aP hc)<|d _ _ _ _ _ m
    subst a;exact m
   subst a;exact m
  obtain⟨b,a⟩:∃b,exec P tt T B (n+1) N k l=b:=⟨_,W⟩;rw[a]at h;unfold exec at a;split at a
  ·subst a;exact h
  rename_i i k0;split at a
  ·rename_i all o e;split at a
   ·rename_i f x p;subst a;exact CE hA hW q d p λv _=>d _ _ _ _ _ h
   subst a;exact h
  ·rename_i all w o e s;split at a
   ·rename_i f x p;subst a;refine CE hA hW q d p λv j=>?_;rw[j];exact d _ _ _ _ _ h
   subst a;exact h
  ·rename_i all w s;split at a
   ·rename_i y;subst a;exact⟨y,d _ _ _ _ _ h⟩
   subst a;exact h
  ·rename_i c;split at a
   ·rename_i A hu;have:=V9 hu;subst this;subst a;exact gR<|d _ _ _ _ _ h
   simp_all
  simp_all
end
mutual
def rF:SV->Option Value
 |.n k a=>some (.int k a)
 |.b x=>some (.bool x)
 |.u x=>some (.bool x)
 |.s x=>some (.string<|bs x)
 |.c v=>match scalar v with
  |true=>some v
  |false=>none
 |.fn f a c=>match a,c with
  |[],[]=>some (.func f #[] #[])
  |_,_=>none
 |.agg xs=>match Ho xs with
  |some d=>some (.agg d.toArray)
  |none=>none
 |_=>none
def Ho:List SV->Option (List Value)
 |[]=>some []
 |x::xs=>match rF x,Ho xs,x.cell with
  |some v,some d,true=>some (v::d)
  |_,_,_=>none
end
def R9{x:SV}{v:Value}(h:rF x=some v)(hc:x.cell=true):v.oneCell'=true:=by
 cases x<;>simp[rF]at h<;>try(cases h;done)
 case c w=>
  split at h<;>try(cases h;done)
  rename_i hs;simp at h;subst h;cases w<;>simp[scalar]at hs<;>rfl
 case fn f a c=>
  split at h<;>try(cases h;done)
  cases h;rfl
 case agg b=>simp[SV.cell]at hc
 all_goals(subst h;rfl)
section
variable{w:World}{S:Nat->Prop}
mutual
theorem vo:∀{x:SV}{v:Value},rF x=some v->Rel w S x.den v []/\∀{y F},Rel w S x.den y F->y=v/\F=[]
 |.n k a,v,h=>by simp[rF,aaw]at h;subst h;exact⟨kL,λh=>⟨h.2.1,h.2.2⟩⟩
 |.b x,v,h=>by simp[rF,aaw]at h;subst h;exact⟨kL,λh=>⟨h.2.1,h.2.2⟩⟩
 |.u x,v,h=>by simp[rF,aaw]at h;subst h;exact⟨kL,λh=>⟨h.2.1,h.2.2⟩⟩
 |.s x,v,h=>by simp[rF,aaw]at h;subst h;exact⟨kL,λh=>⟨h.2.1,h.2.2⟩⟩
 |.c x,v,h=>by
  simp[rF]at h;split at h<;>try(cases h;done)
  rename_i hs;cases h;exact⟨⟨hs,W,W⟩,λh=>⟨h.2.1,h.2.2⟩⟩
 |.fn f a c,v,h=>by
  simp[rF]at h;split at h<;>try(cases h;done)
  cases h;refine⟨?_,λ{y F}h=>?_⟩
  ·simp only[SV.den,aB,Rel,Cells];exact⟨#[],#[],[],[],W,G,G,W⟩
  simp only[SV.den,aB,Rel,Cells]at h;obtain⟨a,c,C,B,rfl,⟨l,rfl⟩,⟨j,rfl⟩,rfl⟩:=h;have A:a=#[]:=by cases a;simp_all
  have z:c=#[]:=by cases c;simp_all
  subst A z;exact G
 |.agg i,v,h=>by
  simp[rF]at h;split at h<;>try(cases h;done)
  rename_i g d;cases h;obtain⟨l,j⟩:=DW d;refine⟨?_,λ{y F}h=>?_⟩
  ·simp only[SV.den,Rel];exact⟨_,W,l⟩
  simp[SV.den,Rel]at h;obtain⟨H,rfl,hc⟩:=h;obtain⟨e,rfl⟩:=j hc;rw[<-e];exact G
 |.nil,_,h|.ints ..,_,h|.fv ..,_,h|.strs ..,_,h|.cz ..,_,h|.bA ..,_,h|.row ..,_,h|.bW _,_,h|.box ..,_,h|.bC ..,_,h|.ptr ..,_,h|.hole,_,h|.dead,_,h|.pv _,_,h|.abs _,_,h|.fS ..,_,h|.mp _,_,h=>by simp[rF]at h
theorem DW:∀{i:List SV}{g:List Value},Ho i=some g->Cells w S true (aB i) g []/\∀{m F},Cells w S true (aB i) m F->m=g/\F=[]
 |[],g,h=>by simp[Ho,aaw]at h;subst h;exact⟨G,λh=>h⟩
 |x::i,g,h=>by
  simp[Ho]at h;split at h<;>try(cases h;done)
  rename_i v o p d hc;cases h;obtain⟨l,j⟩:=vo p;obtain⟨r,q⟩:=DW d;refine⟨⟨v,o,[],[],W,W,λ_=>R9 p hc,l,r⟩,λ{m F}h=>?_⟩;obtain⟨y,D,C,B,rfl,rfl,_,k1,k2⟩:=h;obtain⟨rfl,rfl⟩:=j k1;obtain⟨rfl,rfl⟩:=q k2;exact G
end
end
abbrev AF:=List<|ck×Value
def BU(b:AF)(o:Obj):Prop:=∃a c,o=.map a c/\a.toList.map (λe=>(e.key,e.val))=b.map λq=>(.string<|bs q.1,q.2)
def rK(a b:ck):Bool:=match decEq a b with
 |isTrue _=>true
 |isFalse _=>false
def sT{a b:ck}:rK a b=true↔a=b:=by unfold rK;split<;>simp_all
def tN(k:ck):AF->Option Value
 |[]=>none
 |(a,v)::b=>match rK k a with
  |true=>some v
  |false=>tN k b
def zo(k:ck)(v:Value):AF->AF
 |[]=>[(k,v)]
 |(a,u)::b=>match rK k a with
  |true=>(k,v)::b
  |false=>(a,u)::zo k v b
def Xm{a b:ck}(h:bs a=bs b):a=b:=by have:=congrArg (λx:ByteArray=>x.data.toList) h;simpa[bs]using this
def LO(a b:ck):(bs a==bs b)=rK a b:=by
 cases h:rK a b with
 |true=>exact(MapKept.bytes_beq _ _).2 (congrArg bs<|sT.1 h)
 |false=>
  cases c:(bs a==bs b)with
  |false=>rfl
  |true=>rw[sT.2<|Xm<|(MapKept.bytes_beq _ _).1 c]at h;cases h
def qJ{k:ck}:∀{c:AF}{a:List MapEntry}{i:Nat},a.map (λe=>(e.key,e.val))=c.map (λq=>(.string<|bs q.1,q.2))->tN k c=none->Instr.findNow .string (.string<|bs k) a i=some none
 |[],a,i,h,_=>by
  have:a=[]:=by simpa using h
  subst this;rfl
 |(d,u)::c,[],i,h,_=>by cases h
 |(d,u)::c,m::a,i,h,b=>by
  simp at h;obtain⟨⟨g,j⟩,f⟩:=h;simp[tN]at b;cases he:rK k d with
  |true=>simp[he]at b
  |false=>simp[he]at b;simp[Instr.findNow,g,Instr.sameNow,LO,he];exact qJ f b
def qI{k:ck}{v:Value}:∀{c:AF}{b:List MapEntry}{i:Nat},b.map (λe=>(e.key,e.val))=c.map (λq=>(.string<|bs q.1,q.2))->tN k c=some v->
 ∃j:Nat,Instr.findNow .string (.string<|bs k) b i=some (some (i+j,v))/\∃m,b[j]?=some m/\m.key=.string (bs k)/\∀u,(b.modify j λe=>{e with key:=.string<|bs k,val:=u}).map (λe=>(e.key,e.val))=(zo k u c).map λq=>(.string<|bs q.1,q.2)
 |[],b,i,h,a=>by simp[tN]at a
 |(f,u)::c,[],i,h,_=>by cases h
 |(f,u)::c,m::b,i,h,a=>by
  simp at h;obtain⟨⟨d,l⟩,g⟩:=h;simp[tN]at a;cases he:rK k f with
  |true=>simp[he]at a;have o:=sT.1 he;refine⟨0,by simp[Instr.findNow,d,Instr.sameNow,LO,he,l,a],m,W,by rw[d,o],λu=>?_⟩;simp[zo,he,g]
  |false=>
   simp[he]at a;obtain⟨j,k1,n,k2,k3,k4⟩:=qI (i:=i+1) g a;refine⟨j+1,?_,n,k2,k3,λu=>?_⟩
   ·simp[Instr.findNow,d,Instr.sameNow,LO,he];rw[k1,acV,aeT 1 j]
   simp[zo,he,d,l,k4 u]
section
variable{P:Program}{w:World}{S:Nat->Prop}{t key elem:TypeId}
def gq{h:AF}{k:ck}{v:Value}{x:SV}(e:P.underlying t=some (.map key elem))(d:P.underlying key=some .string)(p:tN k h=some v)(l:rF x=some v)(ok:Bool):
 Looks P t ok (BU h) (.v<|.string<|bs k) (if ok then SV.bW [x,.b true]else x).den:=by
 intro w S b o q f n m;obtain⟨r,c,rfl,hm⟩:=n;obtain⟨_,rfl,_⟩:=m;obtain⟨j,g,-⟩:=qI (i:=0) hm p;have a:=(vo (w:=w) (S:=S) l).1;cases ok with
 |true=>
  refine⟨.tuple #[v,.bool true],?_,?_⟩
  ·simp[Instr.lookup,run_underlying e,MapKept.run_getObj_map f,MapKept.run_checkKey d (k:=.string<|bs k) U,MapKept.run_findKey d g]
  simp;exact⟨_,W,v,_,[],[],W,W,I,a,.bool true,_,[],[],W,W,I,kL,W,W⟩
 |false=>refine⟨v,?_,a⟩;simp[Instr.lookup,run_underlying e,MapKept.run_getObj_map f,MapKept.run_checkKey d (k:=.string<|bs k) U,MapKept.run_findKey d g]
def K1{j:AF}{k:ck}{v:Value}{x:SV}{i:TypeInfo}(f:P.underlying t=some (.map key elem))(e:P.underlying key=some .string)(q:tN k j=none)(hi:P.info? elem=some i)(l:i.zero=some v)(m:rF x=some v)(ok:Bool):
 Looks P t ok (BU j) (.v<|.string<|bs k) (if ok then SV.bW [x,.b false]else x).den:=by
 intro w S b o r g p n;obtain⟨s,c,rfl,hm⟩:=p;obtain⟨_,rfl,_⟩:=n;have h:=qJ (i:=0) hm q;have a:=(vo (w:=w) (S:=S) m).1;have d:(zeroValue elem).run P w=.ok v w:=by simp[zeroValue,typeInfo,hi,l]
 cases ok with
 |true=>
  refine⟨.tuple #[v,.bool false],?_,?_⟩
  ·simp[Instr.lookup,run_underlying f,MapKept.run_getObj_map g,MapKept.run_checkKey e (k:=.string<|bs k) U,MapKept.run_findKey e h,d]
  simp;exact⟨_,W,v,_,[],[],W,W,I,a,.bool false,_,[],[],W,W,I,kL,W,W⟩
 |false=>refine⟨v,?_,a⟩;simp[Instr.lookup,run_underlying f,MapKept.run_getObj_map g,MapKept.run_checkKey e (k:=.string<|bs k) U,MapKept.run_findKey e h,d]
def Iz{o:Oper}(i:o.op=.makeMap t none):mE P o [] [] [] (.mp<|BU []):=by
 refine tj W W I ?_;intro w S m f hc l g;have a:(Instr.makeMap t none).run P w=.ok (.map<|some w.heap.size) (w.alloc<|.map #[] 0):=by simp[Instr.makeMap]
 have e:=MapKept.heap_alloc w<|.map #[] 0;have c:(w.alloc<|.map #[] 0).heap.size=w.heap.size+1:=by show(w.heap.push _).size=_;simp
 refine⟨.value<|.map<|some w.heap.size,.map<|some w.heap.size,w.alloc<|.map #[] 0,by simp[execOp,i,a],.inl W,S,[w.heap.size],⟨W,W,W,E,λk j=>e.2 k j⟩,λb h=>h,λb h=>.inl h,λb h=>by rw[c];have:=f b h;omega,?_,I,?_⟩
 ·simp[SV.den];exact⟨_,_,W,e.1,⟨#[],0,W,W⟩,W⟩
 intro b d;simp at d;subst d;exact⟨.refl,E,λh=>by have:=f _ h;omega⟩
def Jb{V:Hid}{a:List Value}{F:Nat->List Nat}{args H:List SV}{i:Nat}{x:SV}{v:Value}(hi:i<1000000)(hc:aT S V.g (both (aB args)<|aB H) (bg V a) w F)(h:args[i]?=some x)(d:rF x=some v):a.getD i undef=v:=by
 have b:=hc.rel i;have c:=gM (args:=aB args) (H:=aB H) hi;rw[ji,h]at c;have f:x.den.plain=true:=by rw[dj];cases x<;>simp[rF]at d<;>rfl
 rw[an.aA<|by rw[c];exact f,c]at b;have e:bg V a i=a.getD i undef:=by unfold bg;rw[if_pos hi]
 rw[e]at b;exact((vo d).2 b).1
def Un{V:Hid}{d:List Value}{F:Nat->List Nat}{args:List AV}{K:Obj->Prop}(e:args.length<=1000000)(hc:aT S V.g (both args [.mp K]) (bg V d) w F):
 ∃b o,V.v 1000000=.map (some b)/\w.heap[b]?=some o/\K o/\F 1000000=[b]:=by
 have a:=hc.rel 1000000;have c:=fT (args:=args) (H:=[.mp K]) e 0;rw[an.aA<|by rw[c];rfl,c]at a;exact a
def mapped{V:Hid}{q:List Value}{F:Nat->List Nat}{args:List AV}{K p:Obj->Prop}{b:Nat}{o o':Obj}{v:Value}(hc:aT S V.g (both args [.mp K]) (bg V q) w F)
 (r:V.v 1000000=.map (some b))(d:w.heap[b]?=some o)(y:F 1000000=[b])(x:p o'):
 ∃S' F',tV V w w {w with heap:=w.heap.setIfInBounds b o'}/\(∀b,S b->S' b)/\(∀b,S' b->S b\/cQ V w b)/\aT S' (cQ V w) (both [.dead] [.mp p]) (bg V [v]) {w with heap:=w.heap.setIfInBounds b o'} F':=by
 have a:=hc.own 1000000 b (by rw[y];simp);have l:=MapKept.heap_set (o':=o') d;have f:(w.heap.setIfInBounds b o').size=w.heap.size:=I;refine⟨S,λi=>if i=1000000 then[b]else[],⟨W,W,W,by show _<=(w.heap.setIfInBounds b o').size;omega,λk A s=>l.2 k λe=>by subst e;exact s a.1⟩,λ_ h=>h,λ_ h=>.inl h,
  ⟨λi=>?_,λi=>?_,λi j m c d=>?_,λi c d=>?_,λc h=>by show c<(w.heap.setIfInBounds b o').size;rw[f];exact hc.shr c h⟩⟩
 ·rw[an.aA<|by rw[AY];split;rfl;split<;>rfl,AY];by_cases z:i=0
  ·subst z;simp[Rel]
  by_cases n:i=1000000
  ·subst n;have u:bg V [v] 1000000=.map (some b):=by unfold bg;rw[if_neg E,r]
   exact⟨b,o',u,l.1,x,W⟩
  simp[n,Rel]
 ·split<;>simp
 ·split at d
  ·rename_i hi;rw[if_neg λe=>m E];simp
  cases d
 split at d
 ·simp at d;subst d;exact⟨.inr a.1,by show _<(w.heap.setIfInBounds c o').size;rw[f];exact a.2.1,a.2.2⟩
 cases d
def Eh{k:ck}{v:Value}:∀{a:AF},tN k a=none->zo k v a=a++[(k,v)]
 |[],_=>rfl
 |(b,u)::a,h=>by
  simp[tN]at h;cases he:rK k b with
  |true=>simp[he]at h
  |false=>simp[he]at h;simp[zo,he,Eh h]
def s9{o:Oper}{h:AF}{k:ck}{x:SV}{v:Value}{a b c:Operand}(f:o.op=.insert t a b c\/o.op=.mapUpdate t a b c)(Q:o.dst=none)(N:P.underlying t=some (.map key elem))(y:P.underlying key=some .string)(C:rF x=some v):
 mE P o [.mp<|BU h] [.bC 1000000 0 0 [],.s k,x] [.mp<|BU<|zo k v h] .dead:=by
 intro w S V L F hl hc q l;obtain⟨m,om,M,hm,R,T⟩:=Un (by simp[aB]) hc;obtain⟨B,cl,rfl,g⟩:=R;obtain⟨x0,A,z,rfl⟩:∃x0 A z,L=[x0,A,z]:=by
  match L,hl with
  |[x0,A,z],_=>simp_all
 have e0:=(xr (i:=0) E hc W).trans M;have e1:=Jb (args:=[.bC 1000000 0 0 [],.s k,x]) (H:=[.mp<|BU h]) (i:=1) E hc W W;have e2:=Jb (args:=[.bC 1000000 0 0 [],.s k,x]) (H:=[.mp<|BU h]) (i:=2) E hc W C;have p:q a=.map (some m)/\q b=.string (bs k)/\q c=v:=by
  have:o.op.operands.toList=[a,b,c]:=by rcases f with f|f<;>rw[f]<;>rfl
  rw[this]at l;simp[and_true]at l;simp_all
 have key:∃r,BU (zo k v h) r/\(Instr.mapUpdate t (.map<|some m) (.string<|bs k) v).run P w=.ok () {w with heap:=w.heap.setIfInBounds m r}:=by
  cases J:tN k h with
  |none=>
   have K:=qJ (i:=0) g J;refine⟨.map (B.push {key:=.string<|bs k,val:=v,born:=cl})<|cl+1,⟨_,_,W,?_⟩,?_⟩
   ·rw[Eh J];simp[g]
   simp[Instr.mapUpdate,run_underlying N,MapKept.run_getObj_map hm,MapKept.run_checkKey y (k:=.string<|bs k) U,MapKept.run_findKey y K,MapKept.run_setObj_map _ hm]
  |some u=>
   obtain⟨j,K,e,Z,Y,X⟩:=qI (i:=0) g J;have O:B[j]?=some e:=by simpa using Z
   refine⟨.map (B.modify j λe=>{e with key:=.string<|bs k,val:=v}) cl,⟨_,_,W,?_⟩,?_⟩
   ·rw[<-X v];simp
   simp[Instr.mapUpdate,run_underlying N,MapKept.run_getObj_map hm,MapKept.run_checkKey y (k:=.string<|bs k) U,MapKept.run_findKey y K,O,Y,MapKept.run_keyThatStays (d:=.string) (k:=.string<|bs k) U,MapKept.run_setObj_map _ hm]
 obtain⟨r,D,n⟩:=key;have C:(execOp q o).run P w=.ok .skip {w with heap:=w.heap.setIfInBounds m r}:=by rcases f with f|f<;>simp[execOp,f,p,n]
 exact⟨_,.nilIface,_,C,.inr ⟨W,Q⟩,mapped hc M hm T D⟩
end
section
variable{R:Option Nat->Prop}{P:Program}{tt:TT}{N:Nat}{F:St->Prop}{k:List It}{l:aU}
def Ze(hA:cH P tt){all:Array Oper}{i:List Nat}{b:List (List Nat×List Nat)}{rest:List Oper}{d:Nat}{t:TypeId}{x:Operand}{lo hi:Option Operand}{ty:TypeId}{pos:String}{a:Array Edge}{g:Option (Nat×Bool)}{f:List Pd}{j:aU}{m:List Nat}
 (q:cV l all.toList g=some true)(h:yh tt l d t x lo hi=some (f,j,m))(n:ag f)
 (p:AK R P N F (.ng all i rest ((iD (dn l) all ⟨some d,.slice t x lo hi none,ty,pos,a,g⟩,m)::b)::k) j):
 AK R P N F (.ng all i (⟨some d,.slice t x lo hi none,ty,pos,a,g⟩::rest) b::k) l:=by
 exact Qg hA q h n λr c=>by rw[c];exact p
end
section
variable{P:Program}{o:Oper}{ts:Array TypeId}{t e:TypeId}{ti:TI}{d s:Operand}
def IM{k:IntKind}{ti:TI}(c:ti.agg=false)(f:ti.size=1)(xs:List Int):(xs.map λa=>AV.v<|.int k a).all (fits ti)=true:=by rw[abN];intro x b;obtain⟨y,-,rfl⟩:=abF.1 b;simp[fits,c,f,AV.cell]
def ML{k:IntKind}(xs:List Int):bU (xs.map λa=>AV.v<|.int k a)=true:=by refine te λx b=>?_;obtain⟨y,-,rfl⟩:=abF.1 b;rfl
def RW{k:IntKind}(m:o.op=.call ⟨.builtin .copy,#[d,s],ts⟩)(j:ts[0]?=some t)(hu:P.underlying t=some (.slice e))(b:cu P e=some ti)(p:ti.agg=false)(c:ti.size=1){xs ys:List Int}(g:xs≠[])(f:ys≠[]){n:Nat}(hn:Nat.min ys.length xs.length=n):
 mE P o [.ints k true xs] [.bC 1000000 0 0 [],.ints k false ys] [.ints k true<|ys.take n++xs.drop n] (.i n):=by
 have h:=Nh (P:=P) m j hu b (sz:=1) c.symm (X:=xs.map λa=>.v<|.int k a) (Y:=ys.map λa=>.v<|.int k a) (by simpa using g) (ML xs) (by simpa using f) (IM p c ys) (n:=n) (by simpa using hn);rw[<-aeQ,<-aet,<-abQ]at h;exact h
def LF{k:IntKind}(j:o.op=.call ⟨.builtin .copy,#[d,s],ts⟩)(g:ts[0]?=some t)(hu:P.underlying t=some (.slice e))(b:cu P e=some ti)(m:ti.agg=false)(c:ti.size=1){xs:List Int}(f:xs≠[]){off m1 m2 n:Nat}(hn:Nat.min m2 m1=n)(k1:off+m1<=xs.length)(k2:m2<=xs.length)(g1:0<m1)(g2:0<m2):
 mE P o [.ints k true xs] [.bC 1000000 0 0 [.lZ 1 off m1],.bC 1000000 0 0 [.lZ 1 0 m2]] [.ints k true<|xs.take off++xs.take n++xs.drop (off+n)] (.i n):=by
 have h:=E8 (P:=P) j g hu b (sz:=1) c.symm (X:=xs.map λa=>.v<|.int k a) (by simpa using f) (ML xs) (IM m c xs) (off:=off) (m1:=m1) (m2:=m2) (n:=n) hn (by simpa using k1) (by simpa using k2) g1 g2;rw[<-aeQ,<-aeQ,<-aet,<-abQ,<-abQ]at h;exact h
def RV{ti':xk}(m:o.op=.call ⟨.builtin .copy,#[d,s],ts⟩)(j:ts[0]?=some t)(hu:P.underlying t=some (.slice e))(f:cu P e=some ti'.den){xs ys:List SV}(b:xs≠[])(c:ys≠[])(g:gE xs=true)(p:∀y∈ys,my ti' y=true){n:Nat}(hn:Nat.min ys.length xs.length=n):
 mE P o [.row true ti'.size xs] [.bC 1000000 0 0 [],.row false ti'.size ys] [.row true ti'.size<|ys.take n++xs.drop n] (.i n):=by
 have a:(aB ys).all (fits ti'.den)=true:=by rw[abN];intro x b;rw[cn]at b;obtain⟨y,c,rfl⟩:=abF.1 b;exact je ti' y<|p y c
 have h:=Nh (P:=P) m j hu f (sz:=ti'.size) W (X:=aB xs) (Y:=aB ys) (by cases xs;exact absurd W b;simp[aB]) (by rw[dV];exact g) (by cases ys;exact absurd W c;simp[aB]) a (n:=n) (by simpa only[bB]using hn);have e:(aB ys).take n++(aB xs).drop n=aB (ys.take n++xs.drop n):=by simp[cn]
 rw[e]at h;exact h
def LD{ti':xk}(m:o.op=.call ⟨.builtin .copy,#[d,s],ts⟩)(j:ts[0]?=some t)(hu:P.underlying t=some (.slice e))(c:cu P e=some ti'.den){xs:List SV}(b:xs≠[])(f:gE xs=true)(p:∀y∈xs,my ti' y=true){off m1 m2 n:Nat}(hn:Nat.min m2 m1=n)(k1:off+m1<=xs.length)(k2:m2<=xs.length)(g1:0<m1)(g2:0<m2):
 mE P o [.row true ti'.size xs] [.bC 1000000 0 0 [.lZ ti'.size off m1],.bC 1000000 0 0 [.lZ ti'.size 0 m2]] [.row true ti'.size<|xs.take off++xs.take n++xs.drop (off+n)] (.i n):=by
 have a:(aB xs).all (fits ti'.den)=true:=by rw[abN];intro x b;rw[cn]at b;obtain⟨y,g,rfl⟩:=abF.1 b;exact je ti' y<|p y g
 have h:=E8 (P:=P) m j hu c (sz:=ti'.size) W (X:=aB xs) (by cases xs;exact absurd W b;simp[aB]) (by rw[dV];exact f) a (off:=off) (m1:=m1) (m2:=m2) (n:=n) hn (by simpa only[bB]using k1) (by simpa only[bB]using k2) g1 g2;have e:(aB xs).take off++(aB xs).take n++(aB xs).drop (off+n)=aB (xs.take off++xs.take n++xs.drop (off+n)):=by simp[cn]
 rw[e]at h;exact h
end
section
variable{P:Program}{w:World}{S:Nat->Prop}
def JL(x:AV)(c:Value)(a:List Nat)(o:Nat->Option Obj):tD:=λw S F=>F=a/\Rel w S x c a/\∀b∈a,w.heap[b]?=o b
def JL.Mw{x:AV}{a:Value}{b F:List Nat}{o:Nat->Option Obj}(h:(JL x a b o).here w S F):JL x a b o w S F:=h w S (λ_ _=>rfl) λ_ h=>h
def Pw(n:Nat)(c:Value):Prop:=(n=0/\c=.slice none 0 0)\/∃b a,c=.slice (some ⟨b,0,none⟩) n a/\n<=a/\a<=maxLen
def Pw.of{sz:Nat}{X:List AV}{c:Value}{F:List Nat}(h:Rel w S (.list .own sz X) c F):Pw X.length c:=by
 rcases h with⟨rfl,rfl,-⟩|⟨b,a,f,g,rfl,-,e,d,-⟩
 ·exact .inl G
 exact .inr ⟨b,a,W,e,d⟩
def L7(P:Program)(g:FuncId)(v:SV)(ys:List SV)(r:SV):Prop:=∃sz X,v.den=.list .own sz X/\bU X=true/\Query P g sz X (aB ys) r.den
def L7.of{g:FuncId}{v r:SV}{ys:List SV}{sz:Nat}{X:List AV}(hv:v.den=.list .own sz X)(hn:bU X=true)(hp:r.plain=true)(hl:ys.length+1<=1000000)
 (h:∀d m o,Pw X.length d->lp P g [.abs<|JL (.list .own sz X) d m o] (.pv (·=d)::ys) [.abs<|JL (.list .own sz X) d m o] r):L7 P g v ys r:=by
 refine⟨sz,X,hv,hn,?_⟩;intro w S d u m hG hT hr Z hF hS hc;have B:u.length=ys.length:=by have:=dB.length (σ:=λ_=>⟨.dead,0,0⟩) (T:=λ_=>undef)<|dB.rZ hc W;rw[this,bB]
 obtain⟨o,ho⟩:∃o:Nat->Option Obj,o=λb=>w.heap[b]?:=⟨_,W⟩;obtain⟨J,hJ⟩:∃J,J=JL (.list .own sz X) d m o:=⟨_,W⟩;obtain⟨V,L⟩:∃V:Hid,V={v:=λ_=>undef,g:=λb=>b∈m}:=⟨_,W⟩;have D:(aB (.pv (·=d)::ys)).length<=1000000:=by rw[bB];simpa using hl
 have q:J.here w S m:=by intro K M k1 k2;rw[hJ];exact⟨W,Rel.mono k2 _<|hr.frame _ k1,λb c=>by rw[ho];exact k1 b<|.inr c⟩
 have B0:both (aB (.pv (·=d)::ys)) (aB [.abs J]) 1000000=⟨.abs J,0,0⟩:=fT D 0;have t:aT S V.g (both (aB (.pv (·=d)::ys))<|aB [.abs J]) (bg V<|d::u) w (λi=>if i=1000000 then m else[]):=by
  refine⟨λi=>?_,λi=>?_,λi j E1 b c=>?_,λi b c=>?_,hS⟩
  ·by_cases hi:i<1000000
   ·have Y:i≠1000000:=E;simp[Y,if_false];have c:=gM (args:=aB (.pv (·=d)::ys)) (H:=aB [.abs J]) hi;cases O:(aB (.pv (·=d)::ys))[i]?with
    |none=>rw[O]at c;rw[an.aA<|by rw[c];rfl,c];simp[Rel]
    |some y=>
     rw[O]at c;have hA:dB w S (both (aB (.pv (·=d)::ys))<|aB [.abs J]) (bg V<|d::u) (aB (.pv (·=d)::ys)) (d::u):=dB.rZ (F:=[]) (by simp only[aB,Cells];exact⟨d,u,[],[],W,W,I,by simp[SV.den,Rel],hc⟩) W
     refine(hA.get i O).slot (by rw[c]) ?_;simp[bg,hi,if_true]
   by_cases e:i=1000000
   ·subst e;unfold an;rw[B0];exact q
   simp[e,if_false];obtain⟨k,rfl⟩:∃k,i=1000000+(k+1):=⟨i-1000001,E⟩;have c:both (aB (.pv (·=d)::ys)) (aB [.abs J]) (1000000+(k+1))=⟨.dead,0,0⟩:=by rw[fT D,aci<|by simp[aB]]
   rw[an.aA<|by rw[c];rfl,c];simp[Rel]
  ·show(if i=1000000 then m else[]).Nodup;split
   ·exact Z
   exact acd
  ·replace c:b∈if i=1000000 then m else[]:=c
   split at c
   ·rw[if_neg E];simp
   cases c
  replace c:b∈if i=1000000 then m else[]:=c
  split at c
  ·rw[L];exact⟨c,hF b c⟩
  cases c
 have p:=h d m o<|Pw.of hr;rw[<-hJ]at p;have s:=p w S V (d::u) _ (by simp[bB,B]) ⟨hG,by rw[L];exact hT⟩ t;intro rd op a next Q hK
 refine s rd op a next Q λv' K⟨M,F',n,k1,k2,f⟩=>hK v' K ?_
 have A0:both (aB [r]) (aB [.abs J]) 1000000=⟨.abs J,0,0⟩:=fT (by simp[aB]) 0;have hj:=f.rel 1000000;unfold an at hj;have E2:both [r.den] (aB [SV.abs J]) 1000000=⟨.abs J,0,0⟩:=A0;have C:tD.here J K M (F' 1000000):=hj;rw[hJ]at C;obtain⟨q1,-,q3⟩:=JL.Mw C;have A:∀b∈m,¬M b:=λb c=>(f.own 1000000 b<|by rw[q1];exact c).2.2;have z:∀b,b<w.heap.size->K.heap[b]?=w.heap[b]?:=λb c=>by
  by_cases e:b∈m
  ·rw[q3 b e,ho]
  exact n.block b c (by rw[L];exact e)
 have hm:∀b,cQ V w b->w.heap.size<=b\/b∈m:=λb c=>c.imp id (λh=>by rw[L]at h;exact h);have h0:=gM (args:=[r.den]) (H:=aB [SV.abs J]) (i:=0) E;simp[aeO]at h0;have x:=f.rel 0;rw[an.aA<|by rw[h0,dj];exact hp,h0]at x;refine⟨M,F' 0,⟨n.os,n.tape,n.output,n.size,z⟩,k1,λb c=>?_,f.shr,x,f.nodup 0,λb c=>?_⟩
 ·rcases k2 b c with h|h
  ·exact .inl h
  rcases hm b h with h|h
  ·exact .inr h
  exact absurd c<|A b h
 obtain⟨p1,p2,p3⟩:=f.own 0 b c;refine⟨?_,p2,p3⟩;rcases hm b p1 with h|h
 ·exact h
 exact absurd (by rw[q1];exact h)<|f.du 0 1000000 E b c
end
section
variable{R:Option Nat->Prop}{P:Program}{N:Nat}{F:St->Prop}{k:List It}{l:aU}
structure ND where
 g:FuncId
 v:SV
 asx:List SV
def MQ(l:aU)(f:Operand)(asx:List Operand):Option (List Pd×ND):=
 match asx with
 |[]=>none
 |x::d=>(dW l x).bind λz=>(c6 z).bind λ(a,v)=>(dW l f).bind λq=>(c6 q).bind λ(b,y)=>match y with
  |.fn (.func g) [] []=>(jQ l d).bind λe=>(yb e).bind λ(h,c)=>some (app a<|app b h,⟨g,v,c⟩)
  |_=>none
def Ba(l:aU)(a:Option Nat)(r:SV):Option (aU×List Nat):=
 match a with
 |none=>some (l,[])
 |some d=>aan l [] d r λb=>some (b,[d])
def yT{a:Option Nat}{r:SV}{c:aU}{e:List Nat}(b:Ba l a r=some (c,e)):Mv.runs (dn l) (dk a r.den [])=some (dn c)/\bc (dk a r.den [])=e:=by
 cases a with
 |none=>obtain⟨rfl,rfl⟩:=b;exact G
 |some d=>simp[Ba,jd]at b;obtain⟨rfl,rfl⟩:=b;refine⟨?_,by simp[dk,bc,Mv.keys]⟩;have:=iL l [] d r;exact congrArg some this
def Wq{all:Array Oper}{a:Option Nat}{f:Operand}{asx j:Array _}{ty:TypeId}{pos:String}{d:Array Edge}{g:Option (Nat×Bool)}{K:List Mv->St->Prop}{s:List Pd}{h:ND}{r:SV}{m:aU}{u:List Nat}
 (Q:cV l all.toList g=some true)(hh:MQ l f asx.toList=some (s,h))(M:ag s)(hs:L7 P h.g h.v h.asx r)(J:Ba l a r=some (m,u))(O:∀t,bc t=u->K t (dn m)):
 Mo P all ⟨a,.call ⟨.value f,asx,j⟩,ty,pos,d,g⟩ (dn l) K:=by
 unfold MQ at hh;split at hh<;>try(cases hh)
 rename_i x A c;simp[abr]at hh;obtain⟨z,h1,B,v,h2,q,V,C,y,T,b⟩:=hh;split at b<;>try(cases b)
 rename_i n;simp[abr,abY]at b;obtain⟨us,Z,D,i,Y,rfl,rfl⟩:=b;obtain⟨c1,p⟩:=aS.1 M;obtain⟨p,c3⟩:=aS.1 p;obtain⟨sz,X,e0,hn,L⟩:=hs;have e1:(resolve (dn l) x).cont=some (.list .own sz X):=by rw[c8 h1,aF h2 c1];simp_all
 have e3:sy (A.map<|resolve<|dn l)=some (aB i):=by rw[fo l Z];exact uX Y c3
 have e4:(resolve (dn l) f).cont=some (.fn (.func n) [] []):=by rw[c8 V];exact aF T p
 have e:lv P (dn l) ⟨a,.call ⟨.value f,asx,j⟩,ty,pos,d,g⟩ (.Qy r.den)=some (dk a r.den [],[.Qy n sz X (aB i) r.den]):=by simp[lv,c,e1,e3,e4,hn]
 obtain⟨m1,H⟩:=yT J;refine⟨.Qy r.den,_,[.Qy n sz X (aB i) r.den],dn m,?_,?_,m1,O _ H⟩
 ·unfold fu;rw[dS (o:=⟨a,.call ⟨.value f,asx,j⟩,ty,pos,d,g⟩) Q];exact e
 simp[Ob.ok];exact L
def Wu{all:Array Oper}{j:List Nat}{c:List (List Nat×List Nat)}{rest:List Oper}{a:Option Nat}{f:Operand}{asx e:Array _}{ty:TypeId}{pos:String}{b:Array Edge}{g:Option (Nat×Bool)}{i:List Pd}{h:ND}{r:SV}{m:aU}{n:List Nat}
 (s:cV l all.toList g=some true)(hh:MQ l f asx.toList=some (i,h))(p:ag i)(hs:L7 P h.g h.v h.asx r)(o:Ba l a r=some (m,n))
 (q:AK R P N F (.ng all j rest ((iD (dn l) all ⟨a,.call ⟨.value f,asx,e⟩,ty,pos,b,g⟩,n)::c)::k) m):
 AK R P N F (.ng all j (⟨a,.call ⟨.value f,asx,e⟩,ty,pos,b,g⟩::rest) c::k) l:=by
 exact Wq s hh p hs o λt d=>by rw[d];exact q
structure SH where
 C:Value->Prop
 J:tD
def Rq(l:aU)(x:Operand):Option SH:=
 (dW l x).bind λz=>match z.sl.v with
   |.pv C=>match(gt l 1000000).v with
    |.abs J=>some ⟨C,J⟩
    |_=>none
   |_=>none
def Yl{all:Array Oper}{f:List Nat}{d:List (List Nat×List Nat)}{rest:List Oper}{a:Option Nat}{t:TypeId}{x:Operand}{ty:TypeId}{pos:String}{b:Array Edge}{g:Option (Nat×Bool)}{h:SH}{y:SV}{e:aU}{i:List Nat}
 (q:cV l all.toList g=some true)(hh:Rq l x=some h)(hs:NC P t h.C h.J y.den)(m:y.aG=true)(n:Ba l a y=some (e,i))
 (p:AK R P N F (.ng all f rest ((iD (dn l) all ⟨a,.load t x,ty,pos,b,g⟩,i)::d)::k) e):
 AK R P N F (.ng all f (⟨a,.load t x,ty,pos,b,g⟩::rest) d::k) l:=by
 simp[Rq,abr]at hh;obtain⟨z,u,c⟩:=hh;split at c<;>try(cases c)
 rename_i C s;split at c<;>try(cases c;done)
 rename_i J r;cases c;have A:(resolve (dn l) x).sl.av=.pv C:=by rw[c8 u];show z.sl.v.den=_;rw[s];rfl
 have v:(dn l 1000000).av=.abs J:=by rw[dL,r];rfl
 obtain⟨m1,j⟩:=yT n;refine⟨.PA y.den,_,[.PA t C J y.den],dn e,?_,?_,m1,by dsimp only;rw[j];exact p⟩
 ·unfold fu;rw[dS (o:=⟨a,.load t x,ty,pos,b,g⟩) q];simp[lv,A,v,cO,m]
 simp;exact hs
end
section
variable{P:Program}{w:World}{S:Nat->Prop}{o:Oper}{x i:Operand}{t e:TypeId}{ti:TI}{n m sz:Nat}{hd:Value}{X:List AV}
def YP(hd:Value)(o:Nat):Value:=match hd with
 |.slice (some a) _ _=>.pointer (some<|a.add o)
 |_=>undef
def WQ{d:Array TypeId}(g:o.op=.call ⟨.builtin .len,#[x],d⟩)(f:d.toList=[t])(q:P.underlying t=some (.slice e))(h:Pw n hd):mE P o [] [.pv (·=hd)] [] (.i n):=by
 refine tj W W I ?_;intro w S u r hc k a;obtain⟨l,v,z,y,rfl,-,-,⟨rfl,-⟩,rfl,-⟩:=hc;have p:k x=l:=by
  have:o.op.operands.toList=[x]:=by rw[g];rfl
  rw[this]at a;simpa using a
 have c:d=#[t]:=acw (by simpa using f);refine⟨.value<|.int .i64 n,.int .i64 n,w,?_,.inl W,S,[],⟨W,W,W,abq _,λ_ _=>rfl⟩,λ_ h=>h,λ_ h=>.inl h,λb h=>r b h,by simp[SV.den,Rel,scalar],acd,I⟩;rcases h with⟨rfl,j⟩|⟨b,s,j,-,-⟩<;>simp[execOp,g,Go.resolve,p,invoke,builtin,c,Builtin.len_,run_underlying q,goInt,j]
def WX(f:o.op=.indexAddr t x i)(k:P.underlying t=some (.slice e))(c:cu P e=some ti)(hm:m<n)(h:Pw n hd):mE P o [] [.pv (·=hd),.i m] [] (.pv (·=YP hd (m*ti.size))):=by
 refine tj W W I ?_;intro w S q l hc d a;obtain⟨g,u,B,A,rfl,-,-,⟨rfl,-⟩,r,s,z,y,rfl,-,-,⟨-,rfl,-⟩,rfl,-⟩:=hc;obtain⟨j,hi⟩:d x=g/\d i=.int .i64 m:=by
  have:o.op.operands.toList=[x,i]:=by rw[f];rfl
  rw[this]at a;simpa using a
 rcases h with⟨rfl,v⟩|⟨b,p,rfl,-,-⟩
 ·omega
 refine⟨.value<|.pointer<|some<|(⟨b,0,none⟩:Addr).add<|m*ti.size,_,w,?_,.inl W,S,[],⟨W,W,W,.refl,λ_ _=>rfl⟩,λ_ h=>h,λ_ h=>.inl h,λb h=>l b h,by simp[SV.den,Rel,YP],acd,I⟩;simp[execOp,f,j,hi,Instr.indexAt,asIntOf,run_underlying k,hm,dJ c]
def KT{y:AV}{m:Nat}:∀{X:List AV},bU X=true->X[m]?=some y->y.aG=true:=by
 induction m with
 |zero=>intro X b a;cases X with
  |nil=>cases a
  |cons z X=>simp at a;subst a;simp[bU]at b;exact b.1
 |succ m c=>intro X b a;cases X with
  |nil=>cases a
  |cons z X=>simp[bU]at b;exact c b.2 a
def Q4{O:List Nat}{p:Nat->Option Obj}{y:AV}(f:cu P t=some ti)(H:bU X=true)(d:X[m]?=some y)(D:fits ti y=true):NC P t (·=YP hd (m*sz)) (JL (.list .own sz X) hd O p) y:=by
 intro w S F v J q;subst q;obtain⟨-,r,-⟩:=JL.Mw J;have h:=(acU.1 d).1;rcases r with⟨rfl,-,-⟩|⟨b,l,N,Z,rfl,L,V,T,R,K,-⟩
 ·cases h
 obtain⟨z,A,Y,B,-,Q,c,a,s,-⟩:=c7.lens sz m K d;have g:=KT H d;rw[Rel.aG _ c g]at c;refine⟨z,?_,c⟩;have k:At w ⟨b,m*sz,none⟩ z:=⟨W,N,(0,0),L,λj u C=>by
  have:=a j u C;rw[acE]at this;split at this
  ·simpa using this
  simp at this⟩
 have M:YP (.slice (some ⟨b,0,none⟩) X.length l) (m*sz)=.pointer (some ⟨b,m*sz,none⟩):=by
  have e:(⟨b,0,none⟩:Addr).add (m*sz)=⟨b,m*sz,none⟩:=by rw[cj W];simp
  simp[YP,e]
 rw[M];exact kK f k<|kW D c
end
end Go.Ai
namespace Go.Ai
open Go.Proofs Go.RowKit
abbrev tI(k:IntKind)(b:Nat):TE:=⟨.int k,some ⟨false,1,b,.n k 0⟩⟩
abbrev tL(e:TypeId):TE:=⟨.slice e,some ⟨false,1,24,.nil⟩⟩
abbrev tG(f:List (Nat×TypeId×Nat))(s b:Nat)(z:List SV):TE:=⟨.struct f,some ⟨true,s,b,.agg z⟩⟩
abbrev tF:TE:=⟨.func,some ⟨false,1,8,.c .nilFunc⟩⟩
abbrev tP:TE:=⟨.ptr,some ⟨false,1,8,.c<|.pointer none⟩⟩
abbrev tO:TE:=⟨.other,none⟩
def tt:TT:=[(0,tO),
 (1,tF),
 (2,tI .i64 8),
 (3,tI .i64 8),
 (4,⟨.bool,some ⟨false,1,1,.b false⟩⟩),
 (5,tI .u8 1),
 (6,tI .u8 1),
 (7,tG [(0,2,1),(1,3,1),(2,4,1),(3,6,1)] 4 24 [.n .i64 0,.n .i64 0,.b false,.n .u8 0]),
 (8,tG [(0,2,1),(1,3,1),(2,4,1),(3,6,1)] 4 24 [.n .i64 0,.n .i64 0,.b false,.n .u8 0]),
 (9,⟨.str,some ⟨false,1,16,.s []⟩⟩),
 (10,⟨.str,some ⟨false,1,16,.s []⟩⟩),
 (11,⟨.str,some ⟨false,1,16,.s []⟩⟩),
 (12,tI .u64 8),
 (20,tO),
 (21,tI .i32 4),
 (22,tL 50),
 (23,tL 3),
 (25,tG [(0,3,1),(1,22,1),(2,23,1)] 3 56 [.n .i64 0,.nil,.nil]),
 (26,tL 64),
 (28,tG [(0,3,1),(1,3,1),(2,3,1),(3,3,1)] 4 32 [.n .i64 0,.n .i64 0,.n .i64 0,.n .i64 0]),
 (30,tG [(0,26,1),(1,28,4)] 5 56 [.nil,.n .i64 0,.n .i64 0,.n .i64 0,.n .i64 0]),
 (31,tL 23),
 (33,tG [(0,23,1),(1,31,1)] 2 48 [.nil,.nil]),
 (40,tI .i64 8),
 (41,tO),
 (43,tO),
 (46,tL 70),
 (47,⟨.str,some ⟨false,1,16,.s []⟩⟩),
 (48,tL 47),
 (50,tG [(0,9,1),(1,46,1),(2,3,1),(3,47,1),(4,48,1)] 5 88 [.s [],.nil,.n .i64 0,.s [],.nil]),
 (52,tO),
 (55,tO),
 (58,tL 135),
 (61,tI .u16 2),
 (64,tG [(0,47,1),(1,47,1)] 2 32 [.s [],.s []]),
 (70,tG [(0,3,1),(1,47,1)] 2 24 [.n .i64 0,.s []]),
 (72,tL 48),
 (73,tO),
 (75,tO),
 (77,tO),
 (86,tG [(0,48,1),(1,28,4),(5,33,2)] 7 104 [.nil,.n .i64 0,.n .i64 0,.n .i64 0,.n .i64 0,.nil,.nil]),
 (87,tO),
 (99,tL 9),
 (100,tL 108),
 (102,tG [(0,99,1),(1,100,1),(2,26,1)] 3 72 [.nil,.nil,.nil]),
 (103,tO),
 (107,tL 218),
 (108,tL 218),
 (113,tL 120),
 (114,tO),
 (116,tO),
 (120,tG [(0,3,1),(1,3,1),(2,3,1)] 3 24 [.n .i64 0,.n .i64 0,.n .i64 0]),
 (122,tP),
 (123,tO),
 (128,tG [(0,25,3),(3,26,1),(4,28,4),(8,23,1),(9,31,1)] 10 160 [.n .i64 0,.nil,.nil,.nil,.n .i64 0,.n .i64 0,.n .i64 0,.n .i64 0,.nil,.nil]),
 (129,tO),
 (132,tO),
 (135,tG [(0,3,1),(1,3,1),(2,3,1)] 3 24 [.n .i64 0,.n .i64 0,.n .i64 0]),
 (138,tO),
 (141,tF),
 (146,tG [(0,4,1),(1,23,1)] 2 32 [.b false,.nil]),
 (150,tO),
 (152,tO),
 (159,tL 161),
 (161,tL 171),
 (164,tL 311),
 (166,tG [(0,3,1),(1,164,1)] 2 32 [.n .i64 0,.nil]),
 (168,⟨.array 81 166,some ⟨true,162,2592,.agg [.n .i64 0,.nil,.n .i64 0,.nil,.n .i64 0,.nil,.n .i64 0,.nil,.n .i64 0,.nil,.n .i64 0,.nil,.n .i64 0,.nil,.n .i64 0,.nil,.n .i64 0,.nil,.n .i64 0,.nil,.n .i64 0,.nil,.n .i64 0,.nil,.n .i64 0,.nil,.n .i64 0,.nil,.n .i64 0,.nil,.n .i64 0,.nil,.n .i64 0,.nil,.n .i64 0,.nil,.n .i64 0,.nil,.n .i64 0,.nil,.n .i64 0,.nil,.n .i64 0,.nil,.n .i64 0,.nil,.n .i64 0,.nil,.n .i64 0,.nil,.n .i64 0,.nil,.n .i64 0,.nil,.n .i64 0,.nil,.n .i64 0,.nil,.n .i64 0,.nil,.n .i64 0,.nil,.n .i64 0,.nil,.n .i64 0,.nil,.n .i64 0,.nil,.n .i64 0,.nil,.n .i64 0,.nil,.n .i64 0,.nil,.n .i64 0,.nil,.n .i64 0,.nil,.n .i64 0,.nil,.n .i64 0,.nil,.n .i64 0,.nil,.n .i64 0,.nil,.n .i64 0,.nil,.n .i64 0,.nil,.n .i64 0,.nil,.n .i64 0,.nil,.n .i64 0,.nil,.n .i64 0,.nil,.n .i64 0,.nil,.n .i64 0,.nil,.n .i64 0,.nil,.n .i64 0,.nil,.n .i64 0,.nil,.n .i64 0,.nil,.n .i64 0,.nil,.n .i64 0,.nil,.n .i64 0,.nil,.n .i64 0,.nil,.n .i64 0,.nil,.n .i64 0,.nil,.n .i64 0,.nil,.n .i64 0,.nil,.n .i64 0,.nil,.n .i64 0,.nil,.n .i64 0,.nil,.n .i64 0,.nil,.n .i64 0,.nil,.n .i64 0,.nil,.n .i64 0,.nil,.n .i64 0,.nil,.n .i64 0,.nil,.n .i64 0,.nil,.n .i64 0,.nil,.n .i64 0,.nil,.n .i64 0,.nil,.n .i64 0,.nil,.n .i64 0,.nil,.n .i64 0,.nil,.n .i64 0,.nil,.n .i64 0,.nil]⟩⟩),
 (171,tG [(0,166,2),(2,166,2)] 4 64 [.n .i64 0,.nil,.n .i64 0,.nil]),
 (184,tP),
 (187,tG [(0,25,3),(3,40,1)] 4 64 [.n .i64 0,.nil,.nil,.n .i64 0]),
 (188,tP),
 (190,tP),
 (191,tP),
 (196,tF),
 (197,tF),
 (200,tG [(0,3,1),(1,3,1),(2,3,1),(3,3,1)] 4 32 [.n .i64 0,.n .i64 0,.n .i64 0,.n .i64 0]),
 (206,tO),
 (208,tO),
 (218,tG [(0,47,1),(1,23,1)] 2 40 [.s [],.nil]),
 (221,tF),
 (223,tO),
 (225,tI .u64 8),
 (226,tO),
 (231,tO),
 (233,tF),
 (235,tG [(0,233,1)] 1 8 [.c .nilFunc]),
 (237,tG [(0,50,5),(5,23,1),(6,3,1),(7,28,4)] 11 152 [.s [],.nil,.n .i64 0,.s [],.nil,.nil,.n .i64 0,.n .i64 0,.n .i64 0,.n .i64 0,.n .i64 0]),
 (239,tL 40),
 (249,tF),
 (255,tO),
 (259,tF),
 (270,tF),
 (272,tF),
 (273,tP),
 (276,tL 281),
 (277,tO),
 (279,tG [(0,25,3),(3,3,1),(4,161,1),(5,276,1),(6,276,1),(7,277,1)] 8 144 [.n .i64 0,.nil,.nil,.n .i64 0,.nil,.nil,.nil,.c<|.map none]),
 (280,tL 291),
 (281,tL 291),
 (287,tG [(0,171,4),(4,171,4)] 8 128 [.n .i64 0,.nil,.n .i64 0,.nil,.n .i64 0,.nil,.n .i64 0,.nil]),
 (291,tG [(0,171,4),(4,23,1)] 5 88 [.n .i64 0,.nil,.n .i64 0,.nil,.nil]),
 (301,tO),
 (303,tO),
 (308,tI .u32 4),
 (309,tO),
 (311,tI .u64 8),
 (312,tO),
 (315,tO),
 (321,tO),
 (329,tO),
 (330,tO),
 (333,tF),
 (335,tG [(0,3,1),(1,3,1),(2,259,1),(3,333,1)] 4 32 [.n .i64 0,.n .i64 0,.c .nilFunc,.c .nilFunc]),
 (336,tO),
 (337,tO),
 (339,tL 4),
 (340,tF),
 (341,tF),
 (343,tF),
 (345,tF),
 (346,tF),
 (355,tO),
 (358,tO),
 (366,tF),
 (367,tO),
 (371,tP),
 (372,tL 5),
 (374,tG [(0,371,1),(1,372,1)] 2 32 [.c<|.pointer none,.nil]),
 (378,tF),
 (381,tO),
 (383,tF),
 (386,tI .i64 8),
 (387,tO),
 (389,tP),
 (396,tP),
 (403,tO),
 (407,tG [(0,9,1),(1,9,1),(2,329,1)] 3 48 [.s [],.s [],.c .nilIface]),
 (410,⟨.array 24 5,some ⟨true,24,24,.agg [.n .u8 0,.n .u8 0,.n .u8 0,.n .u8 0,.n .u8 0,.n .u8 0,.n .u8 0,.n .u8 0,.n .u8 0,.n .u8 0,.n .u8 0,.n .u8 0,.n .u8 0,.n .u8 0,.n .u8 0,.n .u8 0,.n .u8 0,.n .u8 0,.n .u8 0,.n .u8 0,.n .u8 0,.n .u8 0,.n .u8 0,.n .u8 0]⟩⟩),
 (412,tO),
 (414,tO),
 (417,tI .i64 8),
 (418,tO),
 (425,tP),
 (427,tG [(0,9,1)] 1 16 [.s []]),
 (429,⟨.array 20 311,some ⟨true,20,160,.agg [.n .u64 0,.n .u64 0,.n .u64 0,.n .u64 0,.n .u64 0,.n .u64 0,.n .u64 0,.n .u64 0,.n .u64 0,.n .u64 0,.n .u64 0,.n .u64 0,.n .u64 0,.n .u64 0,.n .u64 0,.n .u64 0,.n .u64 0,.n .u64 0,.n .u64 0,.n .u64 0]⟩⟩),
 (430,⟨.array 65 5,some ⟨true,65,65,.agg [.n .u8 0,.n .u8 0,.n .u8 0,.n .u8 0,.n .u8 0,.n .u8 0,.n .u8 0,.n .u8 0,.n .u8 0,.n .u8 0,.n .u8 0,.n .u8 0,.n .u8 0,.n .u8 0,.n .u8 0,.n .u8 0,.n .u8 0,.n .u8 0,.n .u8 0,.n .u8 0,.n .u8 0,.n .u8 0,.n .u8 0,.n .u8 0,.n .u8 0,.n .u8 0,.n .u8 0,.n .u8 0,.n .u8 0,.n .u8 0,.n .u8 0,.n .u8 0,.n .u8 0,.n .u8 0,.n .u8 0,.n .u8 0,.n .u8 0,.n .u8 0,.n .u8 0,.n .u8 0,.n .u8 0,.n .u8 0,.n .u8 0,.n .u8 0,.n .u8 0,.n .u8 0,.n .u8 0,.n .u8 0,.n .u8 0,.n .u8 0,.n .u8 0,.n .u8 0,.n .u8 0,.n .u8 0,.n .u8 0,.n .u8 0,.n .u8 0,.n .u8 0,.n .u8 0,.n .u8 0,.n .u8 0,.n .u8 0,.n .u8 0,.n .u8 0,.n .u8 0]⟩⟩),
 (432,tI .u64 8),
 (436,tP),
 (438,tP),
 (439,tO),
 (441,⟨.array 32 5,some ⟨true,32,32,.agg [.n .u8 0,.n .u8 0,.n .u8 0,.n .u8 0,.n .u8 0,.n .u8 0,.n .u8 0,.n .u8 0,.n .u8 0,.n .u8 0,.n .u8 0,.n .u8 0,.n .u8 0,.n .u8 0,.n .u8 0,.n .u8 0,.n .u8 0,.n .u8 0,.n .u8 0,.n .u8 0,.n .u8 0,.n .u8 0,.n .u8 0,.n .u8 0,.n .u8 0,.n .u8 0,.n .u8 0,.n .u8 0,.n .u8 0,.n .u8 0,.n .u8 0,.n .u8 0]⟩⟩),
 (442,⟨.array 64 5,some ⟨true,64,64,.agg [.n .u8 0,.n .u8 0,.n .u8 0,.n .u8 0,.n .u8 0,.n .u8 0,.n .u8 0,.n .u8 0,.n .u8 0,.n .u8 0,.n .u8 0,.n .u8 0,.n .u8 0,.n .u8 0,.n .u8 0,.n .u8 0,.n .u8 0,.n .u8 0,.n .u8 0,.n .u8 0,.n .u8 0,.n .u8 0,.n .u8 0,.n .u8 0,.n .u8 0,.n .u8 0,.n .u8 0,.n .u8 0,.n .u8 0,.n .u8 0,.n .u8 0,.n .u8 0,.n .u8 0,.n .u8 0,.n .u8 0,.n .u8 0,.n .u8 0,.n .u8 0,.n .u8 0,.n .u8 0,.n .u8 0,.n .u8 0,.n .u8 0,.n .u8 0,.n .u8 0,.n .u8 0,.n .u8 0,.n .u8 0,.n .u8 0,.n .u8 0,.n .u8 0,.n .u8 0,.n .u8 0,.n .u8 0,.n .u8 0,.n .u8 0,.n .u8 0,.n .u8 0,.n .u8 0,.n .u8 0,.n .u8 0,.n .u8 0,.n .u8 0,.n .u8 0]⟩⟩)]
def hA:cH Tryz.prog tt:=by
 unfold tt
 repeat refine⟨⟨by first|exact rfl|exact⟨_,rfl⟩|exact⟨_,rfl,rfl⟩|exact⟨_,_,_,rfl⟩|exact U,λi h=>by cases h<;>rfl⟩,?_⟩
 exact U
def hm:Tryz.prog.follows .mixedOrders=true:=fb
section
variable{R:Option Nat->Prop}{N:Nat}{F:St->Prop}{k:List It}{l:aU}
def r0{b:List It}{a:aU}(h:run tt [] N 100000 k l [] []=([],[],b,a))(c:AK R Tryz.prog N F b a):AK R Tryz.prog N F k l:=go hA hm [] h W U c
def r1{a:List Pd}{c:List It}{b:aU}(h:run tt [] N 100000 k l [] []=(a,[],c,b))(d:ag a)(e:AK R Tryz.prog N F c b):AK R Tryz.prog N F k l:=go hA hm [] h W d e
def k0{qs:List Bool}{b:List It}{a:aU}(h:run tt [] N 100000 k l [] []=([],qs,b,a))(c:Pa qs=true)(d:AK R Tryz.prog N F b a):AK R Tryz.prog N F k l:=go hA hm [] h c U d
def k1{a:List Pd}{qs:List Bool}{c:List It}{b:aU}(h:run tt [] N 100000 k l [] []=(a,qs,c,b))(d:Pa qs=true)(e:ag a)(f:AK R Tryz.prog N F c b):AK R Tryz.prog N F k l:=go hA hm [] h d e f
def kw(a:List Nat){b:List Pd}{qs:List Bool}{d:List It}{c:aU}(h:run tt a N 100000 k l [] []=(b,qs,d,c))(e:Pa qs=true)(f:ag b)(g:AK R Tryz.prog N F d c):AK R Tryz.prog N F k l:=go hA hm a h e f g
def Qr{c:List It}{b:aU}(m:Nat){a:List Pd}(h:run tt [] N m k l [] []=(a,[],c,b))(d:ag a)(e:AK R Tryz.prog N F c b):AK R Tryz.prog N F k l:=(nj hA hm h d W).2.2 e
def br{c:Operand}{t e:Code}{x:SR}{p:Prop}[Decidable p](b:aJ c=true)(h:dW l c=some x)(a:c6 x=some ([],.u<|decide p))(f:p->AK R Tryz.prog N F (.code t::k) l)(d:¬p->AK R Tryz.prog N F (.code e::k) l):AK R Tryz.prog N F (.code (.cond c t e)::k) l:=UY b h a U f d
def ni{c:Operand}{t e:Code}{x:SR}{b:Bool}(d:aJ c=true)(h:dW l c=some x)(a:c6 x=some ([],.u b))(g:b=true->AK R Tryz.prog N F (.code t::k) l)(f:b=false->AK R Tryz.prog N F (.code e::k) l):AK R Tryz.prog N F (.code (.cond c t e)::k) l:=branch d h a U g f
def cl{all:Array Oper}{rest:List Oper}{a:Option Nat}{f:Operand}{xs d:Array _}{ty:TypeId}{pos:String}{b:Array Edge}{g:Option (Nat×Bool)}{h:pX}{r:SV}{c:aU}{e:List Nat}
 (m:cV l all.toList g=some true)(hh:oE l f xs.toList=some ([],h))(hs:aM Tryz.prog h.g h.asx r)(i:jE l a r h.sh=some ([],c,e))(j:AK R Tryz.prog N F (.ops all rest::k) c):
 AK R Tryz.prog N F (.ops all (⟨a,.call ⟨.value f,xs,d⟩,ty,pos,b,g⟩::rest)::k) l:=call m hh U hs i U j
def cd{all:Array Oper}{e:List Nat}{c:List (List Nat×List Nat)}{rest:List Oper}{a:Option Nat}{f:Operand}{xs d:Array _}{ty:TypeId}{pos:String}{b:Array Edge}{g:Option (Nat×Bool)}{h:pX}{r:SV}{i:aU}{j:List Nat}
 (o:cV l all.toList g=some true)(hh:oE l f xs.toList=some ([],h))(hs:aM Tryz.prog h.g h.asx r)(m:jE l a r h.sh=some ([],i,j))
 (n:AK R Tryz.prog N F (.ng all e rest ((iD (dn l) all ⟨a,.call ⟨.value f,xs,d⟩,ty,pos,b,g⟩,j)::c)::k) i):
 AK R Tryz.prog N F (.ng all e (⟨a,.call ⟨.value f,xs,d⟩,ty,pos,b,g⟩::rest) c::k) l:=Sb o hh U hs m U n
def JJ{all:Array Oper}{rest:List Oper}{a:Option Nat}{f:Operand}{xs e:Array _}{ty:TypeId}{pos:String}{b:Array Edge}{g:Option (Nat×Bool)}{h:pX}{r:SV}{d:aU}{i:List Nat}{us:List SV}{c:List Pd}
 (o:cV l all.toList g=some true)(hh:oE l f xs.toList=some (c,h))(m:ag c)(hl:DT h.asx us)(hs:aM Tryz.prog h.g us r)(j:jE l a r h.sh=some ([],d,i))(n:AK R Tryz.prog N F (.ops all rest::k) d):
 AK R Tryz.prog N F (.ops all (⟨a,.call ⟨.value f,xs,e⟩,ty,pos,b,g⟩::rest)::k) l:=call o hh m (hs.XM hl) j U n
def VP{all:Array Oper}{i:List Nat}{c:List (List Nat×List Nat)}{rest:List Oper}{a:Option Nat}{f:Operand}{xs d:Array _}{ty:TypeId}{pos:String}{b:Array Edge}{g:Option (Nat×Bool)}{h:pX}{r:SV}{j:aU}{m:List Nat}{us:List SV}{e:List Pd}
 (q:cV l all.toList g=some true)(hh:oE l f xs.toList=some (e,h))(o:ag e)(hl:DT h.asx us)(hs:aM Tryz.prog h.g us r)(n:jE l a r h.sh=some ([],j,m))
 (p:AK R Tryz.prog N F (.ng all i rest ((iD (dn l) all ⟨a,.call ⟨.value f,xs,d⟩,ty,pos,b,g⟩,m)::c)::k) j):
 AK R Tryz.prog N F (.ng all i (⟨a,.call ⟨.value f,xs,d⟩,ty,pos,b,g⟩::rest) c::k) l:=Sb q hh o (hs.XM hl) n U p
def TA{rs:List ResultVar}{r:SV}{xs:List SV}(h:iB tt l rs=some xs)(a:ar (vK xs).b9 r):AK R Tryz.prog N (Pu Tryz.prog rs r) [] l:=X0 hA h a
def aE{rs:List ResultVar}{r:SV}{xs:List SV}(h:iB tt l rs=some xs)(a:ar (vK xs) r):AK R Tryz.prog N (Pu Tryz.prog rs r) [] l:=ret hA h a
def SN{rs:List ResultVar}{r:SV}{b:List SV}{xs:List SV}(a:List (Nat×SV))(d:Aj l a)(h:iB tt (sl a) rs=some xs)(c:ar (vK xs) r)(hh:OS (sl a) 1000000 b):AK R Tryz.prog N (SE Tryz.prog rs r b) [] l:=Zq hA a d h c hh
def cr{all:Array Oper}{rest:List Oper}{a:Option Nat}{f:Operand}{xs d:Array _}{ty:TypeId}{pos:String}{b:Array Edge}{g:Option (Nat×Bool)}{h:aaj}{out:List SV}{r:SV}{c:aU}{e:List Nat}
 (m:cV l all.toList g=some true)(hh:sw l f xs.toList=some ([],h))(hs:lp Tryz.prog h.g (lD h.R) h.asx out r)(i:ij l a h.R out r=some (c,e))(j:AK R Tryz.prog N F (.ops all rest::k) c):
 AK R Tryz.prog N F (.ops all (⟨a,.call ⟨.value f,xs,d⟩,ty,pos,b,g⟩::rest)::k) l:=Pe m hh U hs i j
def ZL{all:Array Oper}{e:List Nat}{c:List (List Nat×List Nat)}{rest:List Oper}{a:Option Nat}{f:Operand}{xs d:Array _}{ty:TypeId}{pos:String}{b:Array Edge}{g:Option (Nat×Bool)}{h:aaj}{out:List SV}{r:SV}{i:aU}{j:List Nat}
 (o:cV l all.toList g=some true)(hh:sw l f xs.toList=some ([],h))(hs:lp Tryz.prog h.g (lD h.R) h.asx out r)(m:ij l a h.R out r=some (i,j))
 (n:AK R Tryz.prog N F (.ng all e rest ((iD (dn l) all ⟨a,.call ⟨.value f,xs,d⟩,ty,pos,b,g⟩,j)::c)::k) i):
 AK R Tryz.prog N F (.ng all e (⟨a,.call ⟨.value f,xs,d⟩,ty,pos,b,g⟩::rest) c::k) l:=LM o hh U hs m n
def wn{all:Array Oper}{rest:List Oper}{d:Nat}{t:TypeId}{x:Operand}{lo hi:Option Operand}{ty:TypeId}{pos:String}{a:Array Edge}{g:Option (Nat×Bool)}{b:List Pd}{c:aU}{e:List Nat}
 (j:cV l all.toList g=some true)(h:yh tt l d t x lo hi=some (b,c,e))(f:ag b)(i:AK R Tryz.prog N F (.ops all rest::k) c):
 AK R Tryz.prog N F (.ops all (⟨some d,.slice t x lo hi none,ty,pos,a,g⟩::rest)::k) l:=Zd hA j h f i
def Y1{all:Array Oper}{e:List Nat}{b:List (List Nat×List Nat)}{rest:List Oper}{d:Nat}{t:TypeId}{x:Operand}{lo hi:Option Operand}{ty:TypeId}{pos:String}{a:Array Edge}{g:Option (Nat×Bool)}{c:List Pd}{f:aU}{i:List Nat}
 (n:cV l all.toList g=some true)(h:yh tt l d t x lo hi=some (c,f,i))(j:ag c)
 (m:AK R Tryz.prog N F (.ng all e rest ((iD (dn l) all ⟨some d,.slice t x lo hi none,ty,pos,a,g⟩,i)::b)::k) f):
 AK R Tryz.prog N F (.ng all e (⟨some d,.slice t x lo hi none,ty,pos,a,g⟩::rest) b::k) l:=Ze hA n h j m
def mkf{all:Array Oper}{rest:List Oper}{d:Nat}{e:FuncId}{first a:Array Operand}{ty:TypeId}{pos:String}{b:Array Edge}{g:Option (Nat×Bool)}{c:aU}{f:List Nat}
 (j:cV l all.toList g=some true)(h:QY l d e first.toList a.toList=some (c,f))(i:AK R Tryz.prog N F (.ops all rest::k) c):
 AK R Tryz.prog N F (.ops all (⟨some d,.makeFunc (.func e) first a,ty,pos,b,g⟩::rest)::k) l:=Zv j h i
def cc{all:Array Oper}{rest:List Oper}{a:Option Nat}{f:Operand}{xs d:Array _}{ty:TypeId}{pos:String}{b:Array Edge}{g:Option (Nat×Bool)}{h:aaj}{out:List SV}{r:SV}{c:aU}{e:List Nat}
 (m:cV l all.toList g=some true)(hh:Cb l f xs.toList=some h)(hs:lp Tryz.prog h.g (lD h.R) h.asx out r)(i:ij l a h.R out r=some (c,e))(j:AK R Tryz.prog N F (.ops all rest::k) c):
 AK R Tryz.prog N F (.ops all (⟨a,.call ⟨.value f,xs,d⟩,ty,pos,b,g⟩::rest)::k) l:=ZM m hh hs i j
def SQ{all:Array Oper}{f:List Nat}{c:List (List Nat×List Nat)}{rest:List Oper}{d:Nat}{t:TypeId}{m x:Operand}{a:Bool}{ty:TypeId}{pos:String}{b:Array Edge}{g:Option (Nat×Bool)}{h:(Obj->Prop)×SV}{e:aU}{i:List Nat}(y:SV)
 (p:cV l all.toList g=some true)(hh:Gu l m x=some h)(j:y.aG=true)(hs:Looks Tryz.prog t a h.1 h.2.den y.den)(n:aan l [] d y (λe=>some (e,[d]))=some (e,i))
 (o:AK R Tryz.prog N F (.ng all f rest ((iD (dn l) all ⟨some d,.lookup t m x a,ty,pos,b,g⟩,i)::c)::k) e):
 AK R Tryz.prog N F (.ng all f (⟨some d,.lookup t m x a,ty,pos,b,g⟩::rest) c::k) l:=Zw y p hh j hs n o
def yk{all:Array Oper}{rest:List Oper}{a:Option Nat}{f:Operand}{xs i:Array _}{ty:TypeId}{pos:String}{c:Array Edge}{g:Option (Nat×Bool)}{d:List Pd}{h:J7}{J':tD}{b:Bool}{e:aU}{j:List Nat}
 (p:cV l all.toList g=some true)(hh:IZ l f xs.toList=some (d,h))(n:ag d)(hs:∀v,h.C v->Yields Tryz.prog h.J J' (aB h.asx) b v)(m:Mf l a J' b=some (e,j))(o:AK R Tryz.prog N F (.ops all rest::k) e):
 AK R Tryz.prog N F (.ops all (⟨a,.call ⟨.value f,xs,i⟩,ty,pos,c,g⟩::rest)::k) l:=V4 p hh n hs m o
def ex{all:Array Oper}{rest:List Oper}{o:Oper}{h:yM}{out:List SV}{r:SV}{b:aU}{c:List Nat}
 (f:cV l all.toList o.guard=some true)(a:rq (dn l) o.op=true)(hh:x9 l o.op.operands.toList=some h)(hs:mE Tryz.prog o (lD h.R) h.asx out r)(d:ij l o.dst h.R out r=some (b,c))(e:AK R Tryz.prog N F (.ops all rest::k) b):
 AK R Tryz.prog N F (.ops all (o::rest)::k) l:=ZE f a hh hs d e
def Y9{all:Array Oper}{c:List Nat}{a:List (List Nat×List Nat)}{rest:List Oper}{o:Oper}{h:yM}{out:List SV}{r:SV}{d:aU}{e:List Nat}
 (i:cV l all.toList o.guard=some true)(b:rq (dn l) o.op=true)(hh:x9 l o.op.operands.toList=some h)(hs:mE Tryz.prog o (lD h.R) h.asx out r)(f:ij l o.dst h.R out r=some (d,e))
 (g:AK R Tryz.prog N F (.ng all c rest ((iD (dn l) all o,e)::a)::k) d):
 AK R Tryz.prog N F (.ng all c (o::rest) a::k) l:=ZF i b hh hs f g
def cqd{all:Array Oper}{e:List Nat}{c:List (List Nat×List Nat)}{rest:List Oper}{a:Option Nat}{f:Operand}{xs d:Array _}{ty:TypeId}{pos:String}{b:Array Edge}{g:Option (Nat×Bool)}{h:ND}{r:SV}{i:aU}{j:List Nat}
 (o:cV l all.toList g=some true)(hh:MQ l f xs.toList=some ([],h))(hs:L7 Tryz.prog h.g h.v h.asx r)(m:Ba l a r=some (i,j))
 (n:AK R Tryz.prog N F (.ng all e rest ((iD (dn l) all ⟨a,.call ⟨.value f,xs,d⟩,ty,pos,b,g⟩,j)::c)::k) i):
 AK R Tryz.prog N F (.ng all e (⟨a,.call ⟨.value f,xs,d⟩,ty,pos,b,g⟩::rest) c::k) l:=Wu o hh U hs m n
def ldj{all:Array Oper}{d:List Nat}{c:List (List Nat×List Nat)}{rest:List Oper}{a:Option Nat}{t:TypeId}{x:Operand}{ty:TypeId}{pos:String}{b:Array Edge}{g:Option (Nat×Bool)}{h:SH}{y:SV}{e:aU}{f:List Nat}
 (n:cV l all.toList g=some true)(hh:Rq l x=some h)(hs:NC Tryz.prog t h.C h.J y.den)(i:y.aG=true)(j:Ba l a y=some (e,f))
 (m:AK R Tryz.prog N F (.ng all d rest ((iD (dn l) all ⟨a,.load t x,ty,pos,b,g⟩,f)::c)::k) e):
 AK R Tryz.prog N F (.ng all d (⟨a,.load t x,ty,pos,b,g⟩::rest) c::k) l:=Yl n hh hs i j m
def bS{N:Nat}{f:FuncId}{fn:Func}{c:Code}{args:List SV}{r:SV}(b:Tryz.prog.funcs[f]?=some fn)(a:(fn.body,fn.ntmps,fn.name== "runtime.NumGoroutine",Nat.ble (len args) fn.ntmps,eG fn.results.toList [])=(some c,N,false,true,true))
 (h:AK R0 Tryz.prog N (Pu Tryz.prog fn.results.toList r) [.code c] (Ay 0 args)):aM Tryz.prog f args r:=by
 simp only[abY]at a;obtain⟨j,d,i,g,e⟩:=a;subst d;exact enter b j i g e h
def gg{c:Operand}{t e:Code}{x:SR}{p:Prop}[Decidable p](a:(aJ c,dW l c,c6 x)=(true,some x,some ([],.u<|decide p)))(d:p->AK R Tryz.prog N F (.code t::k) l)(b:¬p->AK R Tryz.prog N F (.code e::k) l):AK R Tryz.prog N F (.code (.cond c t e)::k) l:=by simp only[abY]at a;exact br a.1 a.2.1 a.2.2 d b
def bG{all:Array Oper}{rest:List Oper}{a:Option Nat}{f:Operand}{xs e:Array _}{ty:TypeId}{pos:String}{c:Array Edge}{g:Option (Nat×Bool)}{h:pX}{r:SV}{d:aU}{i:List Nat}
 (b:(cV l all.toList g,oE l f xs.toList)=(some true,some ([],h)))(hs:aM Tryz.prog h.g h.asx r)(j:jE l a r h.sh=some ([],d,i))(m:AK R Tryz.prog N F (.ops all rest::k) d):
 AK R Tryz.prog N F (.ops all (⟨a,.call ⟨.value f,xs,e⟩,ty,pos,c,g⟩::rest)::k) l:=by simp only[abY]at b;exact cl b.1 b.2 hs j m
def bH{all:Array Oper}{i:List Nat}{c:List (List Nat×List Nat)}{rest:List Oper}{a:Option Nat}{f:Operand}{xs e:Array _}{ty:TypeId}{pos:String}{b:Array Edge}{g:Option (Nat×Bool)}{h:pX}{r:SV}{j:aU}{m:List Nat}
 (d:(cV l all.toList g,oE l f xs.toList)=(some true,some ([],h)))(hs:aM Tryz.prog h.g h.asx r)(n:jE l a r h.sh=some ([],j,m))
 (o:AK R Tryz.prog N F (.ng all i rest ((iD (dn l) all ⟨a,.call ⟨.value f,xs,e⟩,ty,pos,b,g⟩,m)::c)::k) j):
 AK R Tryz.prog N F (.ng all i (⟨a,.call ⟨.value f,xs,e⟩,ty,pos,b,g⟩::rest) c::k) l:=by simp only[abY]at d;exact cd d.1 d.2 hs n o
def bF{rs:List ResultVar}{r:SV}{xs:List SV}(h:(iB tt l rs,vK xs)=(some xs,r)):AK R Tryz.prog N (Pu Tryz.prog rs r) [] l:=by simp only[abY]at h;exact aE h.1<|.of_eq h.2
def bR{a b:Int}(h:a=b):ar (.i a) (.i b):=.of_eq<|congrArg SV.i h
def bQ{c:Operand}{t e:Code}{x:SR}{p:Prop}[Decidable p]{b:List It}{a:aU}(h:run tt [] N 100000 k l [] []=([],[],.code (.cond c t e)::b,a))(g:(aJ c,dW a c,c6 x)=(true,some x,some ([],.u<|decide p)))(f:p->AK R Tryz.prog N F (.code t::b) a)(d:¬p->AK R Tryz.prog N F (.code e::b) a):AK R Tryz.prog N F k l:=r0 h<|gg g f d
def bP{all:Array Oper}{rest:List Oper}{a:Option Nat}{f:Operand}{xs j:Array _}{ty:TypeId}{pos:String}{d:Array Edge}{g:Option (Nat×Bool)}{c:pX}{r:SV}{b e:aU}{m:List Nat}{i:List It}(h:run tt [] N 100000 k l [] []=([],[],.ops all (⟨a,.call ⟨.value f,xs,j⟩,ty,pos,d,g⟩::rest)::i,b))
 (p:(cV b all.toList g,oE b f xs.toList)=(some true,some ([],c)))(hs:aM Tryz.prog c.g c.asx r)(n:jE b a r c.sh=some ([],e,m))(o:AK R Tryz.prog N F (.ops all rest::i) e):
 AK R Tryz.prog N F k l:=r0 h<|bG p hs n o
def bO{all:Array Oper}{j:List Nat}{d:List (List Nat×List Nat)}{rest:List Oper}{a:Option Nat}{f:Operand}{xs i:Array _}{ty:TypeId}{pos:String}{c:Array Edge}{g:Option (Nat×Bool)}{e:pX}{r:SV}{b m:aU}{n:List Nat}{o:List It}(h:run tt [] N 100000 k l [] []=([],[],.ng all j (⟨a,.call ⟨.value f,xs,i⟩,ty,pos,c,g⟩::rest) d::o,b))
 (s:(cV b all.toList g,oE b f xs.toList)=(some true,some ([],e)))(hs:aM Tryz.prog e.g e.asx r)(p:jE b a r e.sh=some ([],m,n))
 (q:AK R Tryz.prog N F (.ng all j rest ((iD (dn b) all ⟨a,.call ⟨.value f,xs,i⟩,ty,pos,c,g⟩,n)::d)::o) m):AK R Tryz.prog N F k l:=r0 h<|bH s hs p q
def bK{rs:List ResultVar}{r:SV}{xs:List SV}{a:aU}(h:run tt [] N 100000 k l [] []=([],[],[],a))(c:iB tt a rs=some xs)(b:ar (vK xs) r):AK R Tryz.prog N (Pu Tryz.prog rs r) k l:=r0 h<|aE c b
def bL{a:List (Nat×SV)}{A:Prop}{b:aU}{c:List It}(h:run tt [] N 100000 k l [] []=([],[],.inv (yL (λ_:Unit=>a) λ_=>A)::c,b))(e:A)(d:Fits b a):AK R Tryz.prog N F k l:=r0 h<|aN e d
def bJ{a:aU}{c:List It}(h:run tt [] N 100000 k l [] []=([],[],c,a))(d:Nat){p:Prop}[Decidable p](g:(gt a d).v=.u (decide p))(f:p->AK R Tryz.prog N F c ((d,⟨.b true,(gt a d).g1,(gt a d).g2⟩)::a))(e:¬p->AK R Tryz.prog N F c ((d,⟨.b false,(gt a d).g1,(gt a d).g2⟩)::a)):AK R Tryz.prog N F k l:=r0 h<|aC d g f e
def bM{e:aU}{f:List It}{c:Code}(h:run tt [] N 100000 k l [] []=([],[],.code (.loop c)::f,e)){b:Type}(a:b->List (Nat×SV))(A:b->Prop)(d:b->Nat)(x:b)(g:A x)(j:Fits e (a x))(i:∀y,A y->AK R Tryz.prog N F (.code c::.inv (uv a A d y)::f) (sl<|a y)):AK R Tryz.prog N F k l:=r0 h<|loop a A d x g j i
def bN{rs:List ResultVar}{r:SV}{xs:List SV}{a:aU}(h:run tt [] N 100000 k l [] []=([],[],[],a))(b:(iB tt a rs,vK xs)=(some xs,r)):AK R Tryz.prog N (Pu Tryz.prog rs r) k l:=r0 h<|bF b
def ZW{α c:Sort _}{a:α}{b:c}:a=a/\b=b:=G
def qp{a:List Pd}{c:List It}{b:aU}(h:run tt [] N 100000 k l [] []=(a,[],c,b))(e:AK R Tryz.prog N F c b)(d:ag a:=by simp only[ag,and_true,ab4]<;>omega):AK R Tryz.prog N F k l:=r1 h d e
def Zz{qs:List Bool}{b:List It}{a:aU}(h:run tt [] N 100000 k l [] []=([],qs,b,a))(d:AK R Tryz.prog N F b a)(c:Pa qs=true:=by kernel_rfl):AK R Tryz.prog N F k l:=k0 h c d
def II{a:List Pd}{qs:List Bool}{c:List It}{b:aU}(h:run tt [] N 100000 k l [] []=(a,qs,c,b))(f:AK R Tryz.prog N F c b)(e:ag a:=by simp only[ag,and_true,ab4]<;>omega)(d:Pa qs=true:=by kernel_rfl):AK R Tryz.prog N F k l:=k1 h d e f
def gS{b:Type}{a:b->List (Nat×SV)}{A:b->Prop}{c:b->Nat}{y:b}(z:b)(e:A z)(d:Fits l (a z):=by repeat' first|exact ZW|exact U|refine⟨?_,?_⟩)(f:c z<c y:=by(try dsimp only);omega):AK R Tryz.prog N F (.inv (uv a A c y)::k) l:=again z f e d
def ra{b:Type}(a:b->List (Nat×SV))(A:b->Prop)(d:b->Nat)(x:b){c:Code}(e:A x)(f:∀y,A y->AK R Tryz.prog N F (.code c::.inv (uv a A d y)::k) (sl<|a y))(g:Fits l (a x):=by repeat' first|exact ZW|exact U|refine⟨?_,?_⟩):AK R Tryz.prog N F (.code (.loop c)::k) l:=loop a A d x e g f
def ba{p:Prop}(h:p:=by simp only[ag,and_true]<;>omega):p:=h
def a8{p:Prop}(h:p:=by simp only[ag,and_true]):p:=h
def a7{p:Prop}(h:p:=by simp[ag,and_true]<;>omega):p:=h
def aZ{p:Prop}(h:p:=by simp[ag,and_true]):p:=h
def aY{p:Prop}(h:p:=by simp[ag]):p:=h
def aX{p:Prop}(h:p:=by simp[ag]<;>omega):p:=h
def aW{p:Prop}(h:p:=by kernel_rfl):p:=h
end
section
variable{l:List Int}{m n:Nat}
def B9:Nat:=1000000000
def ae(n:Nat):List Int:=if h:n=0 then[]else((n%B9:Nat):Int)::ae (n/B9)
 termination_by n
 decreasing_by exact ac5 (adf h) fh
def val:List Int->Int
 |[]=>0
 |d::l=>d+1000000000*val l
def yt(l:List Int):Prop:=∀d∈l,0<=d/\d<1000000000
def dm:ae 0=[]:=by rw[ae];simp
def ai(n:Nat):val (ae n)=n:=by
 induction n using Nat.strongRecOn with
 |_ n b=>
  rw[ae];split
  ·rename_i h;subst h;rfl
  rename_i h;have a:n/B9<n:=ac5 (adf h) fh;simp[val,b _ a];unfold B9;omega
def bx(n:Nat):yt (ae n):=by
 induction n using Nat.strongRecOn with
 |_ n c=>
  rw[ae];split
  ·intro d a;cases a
  rename_i h;have b:n/B9<n:=ac5 (adf h) fh;intro d a;rcases abz.1 a with rfl|a
  ·unfold B9;omega
  exact c _ b d a
def bm:∀{l:List Int},yt l->0<=val l
 |[],_=>by simp[val]
 |d::l,h=>by have c:=h d I;have b:=bm (l:=l) λx a=>h x (by simp[a]);simp[val];omega
def eO(l:List Int)(d:Int):val (l++[d])=val l+d*1000000000^l.length:=by
 induction l with
 |nil=>simp[val]
 |cons x l a=>simp[val,a,abV];rw[aev];simp only[Int.add_assoc];congr 2;rw[<-abX,ab0 1000000000,abX,ab0 1000000000]
def ic:∀{l:List Int},yt l->val l<1000000000^l.length
 |[],_=>by simp[val]
 |d::l,h=>by have c:=h d I;have b:=ic (l:=l) λx a=>h x (by simp[a]);simp[val];omega
def sJ:∀{l:List Int},yt l->l.getLast?≠some 0->ae (val l).toNat=l
 |[],_,_=>by simp[val,dm]
 |d::l,h,e=>by
  have p:=h d I;have hl:yt l:=λx f=>h x (by simp[f]);have o:=bm hl;have b:l.getLast?≠some 0:=by
   cases l with
   |nil=>simp
   |cons x l=>simpa using e
  have a:=sJ hl b;have c:(val<|d::l).toNat≠0:=by
   simp only[val];intro q;have i:d=0:=E;have g:val l=0:=E;cases l with
   |nil=>subst i;simp at e
   |cons x l=>rw[g]at a;simp[dm]at a
  rw[ae,dif_neg c];have k:(((val<|d::l).toNat%B9:Nat):Int)=d:=by simp[val];unfold B9;omega
  have j:(val<|d::l).toNat/B9=(val l).toNat:=by simp[val];unfold B9;omega
  rw[k,j,a]
def tw(h:yt l)(a:l.getLast?≠some 0)(b:val l=n):l=ae n:=by have:=sJ h a;rw[b]at this;simpa using this.symm
def pJ(n:Nat):(ae n).getLast?≠some 0:=by
 induction n using Nat.strongRecOn with
 |_ n c=>
  rw[ae];split
  ·simp
  rename_i h;have b:n/B9<n:=ac5 (adf h) fh;have:=c _ b;cases hl:ae (n/B9)with
  |nil=>intro he;have a:=ai<|n/B9;rw[hl]at a;simp[val]at a;simp at he;unfold B9 at he a;omega
  |cons x l=>rw[hl]at this;simpa using this
def aI(l:List Int)(i:Nat):val (l.take<|i+1)=val (l.take i)+l.getD i 0*1000000000^i:=by
 by_cases h:i<l.length
 ·rw[abR h,eO];simp[abA h,acP<|ads h]
 rw[abB E,abB E];simp[aci<|show l.length<=i from E]
def bf(h:yt l)(i:Nat):0<=l.getD i 0/\l.getD i 0<1000000000:=by
 by_cases hi:i<l.length
 ·have:=h l[i] (abw hi);simpa[abA hi]using this
 simp[aci<|show l.length<=i from E]
def jg{d:Int}(h:yt l)(b:0<=d/\d<1000000000):yt (l++[d]):=by
 intro x a;rcases abJ.1 a with a|a
 ·exact h x a
 simp at a;subst a;exact b
def B3(h:yt l)(a:l=[]\/1000000000^(l.length-1)<=val l):l.getLast?≠some 0:=by
 rcases afG l with rfl|⟨l,d,rfl⟩
 ·simp
 rw[afH]at*;rcases a with a|a
 ·simp at a
 simp;rintro rfl;rw[eO]at a;have:=ic (l:=l) λx b=>h x (by simp[b]);simp at a;omega
def dE(n:Nat):(0:Int)<1000000000^n:=aew fh
def qF(h:yt l)(hl:l.getLast?≠some 0):l=[]\/1000000000^(l.length-1)<=val l:=by
 rcases afG l with rfl|⟨l,d,rfl⟩
 ·exact .inl W
 right;rw[afH]at*;rw[eO];have e:=bm (l:=l) λx a=>h x (by simp[a]);have c:=h d I;simp at hl;simp;have b:=dE l.length;have:1*1000000000^l.length<=d*1000000000^l.length:=ac6 E E;omega
def gw(n:Nat):ae n=[]\/(1000000000:Int)^((ae n).length-1)<=n:=by have:=qF (bx n)<|pJ n;rwa[ai]at this
def cW:List Int->List Int
 |[]=>[]
 |d::l=>match cW l with
  |[]=>if d=0 then[]else[d]
  |x::r=>d::x::r
def mg:∀l:List Int,cW (l++[0])=cW l
 |[]=>by simp[cW]
 |d::l=>by simp[cW,mg l]
def nD:∀{l:List Int},l.getLast?≠some 0->cW l=l
 |[],_=>rfl
 |[d],h=>by simp at h;simp[cW,h]
 |d::x::l,h=>by have:=nD (l:=x::l) h;rw[cW,this]
def ux{w:List Int}(hn:n+1=w.length)(h:w.getD n 0=0):cW (w.take n)=cW w:=by
 have e:w=w.take n++[0]:=by
  have b:n<w.length:=E;have c:w[n]=0:=by simpa[abA b]using h
  have a:=abR b;rw[abB E,c]at a;exact a
 conv=>rhs;rw[e,mg]
def o8:∀l:List Int,val (cW l)=val l
 |[]=>rfl
 |d::l=>by
  have a:=o8 l;simp[cW];split
  ·rename_i h;rw[h]at a;simp[val]at a⊢;split
   ·rename_i b;simp[val];omega
   simp[val];omega
  rename_i x r h;rw[h]at a;simp[val]at a⊢;omega
def ee(h:yt l):cW l=ae (val l).toNat:=by
 have f:yt (cW l)/\(cW l).getLast?≠some 0:=by
  induction l with
  |nil=>exact⟨h,by simp[cW]⟩
  |cons d l g=>
   obtain⟨i1,c⟩:=g λx a=>h x (by simp[a]);have e:=h d I;simp[cW];split
   ·split
    ·simp_all
    rename_i i;exact⟨λx a=>by simp at a;subst a;exact e,by simpa using i⟩
   rename_i x r he;rw[he]at i1 c;exact⟨λy b=>by
    rcases abz.1 b with rfl|b
    ·exact e
    exact i1 y b,c⟩
 rw[tw f.1 f.2 (n:=(val l).toNat) (by rw[o8];have:=bm h;omega)]
def vq:∀l:List Int,(cW l).length<=l.length
 |[]=>by simp[cW]
 |d::l=>by
  have:=vq l;simp[cW];split
  ·split<;>simp
  rename_i x r h;rw[h]at this;simpa using this
def gN(l:List Int)(k:Nat):val l=val (l.take k)+1000000000^(l.take k).length*val (l.drop k):=by
 induction l generalizing k with
 |nil=>simp[val]
 |cons d l a=>
  cases k with
  |zero=>simp[val]
  |succ k=>simp[val];grind
def sj(h:yt l)(k:Nat):yt (l.take k):=λx a=>h x<|adq a
def n7(h:yt l)(k:Nat):yt (l.drop k):=λx a=>h x<|adg a
def cw(n:Nat):(n:Int)<1000000000^(ae n).length:=by have:=ic<|bx n;rwa[ai]at this
def iF(h:n≠0):0<(ae n).length:=by rw[ae,dif_neg h];simp
def im{a b:Nat}(h:a<=b):(1000000000:Int)^a<=1000000000^b:=by obtain⟨k,rfl⟩:=Nat.exists_eq_add_of_le h;rw[acZ];have c:=dE a;have d:=dE k;have:=acC (show(1:Int)<=1000000000^k from E)<|aca c;omega
def cE(h:(ae m).length<(ae n).length):m<n:=by
 have c:=cw m;rcases gw n with a|a
 ·rw[a]at h;cases h
 have b:(1000000000:Int)^(ae m).length<=1000000000^((ae n).length-1):=im E;omega
def oc(m n:Nat):Int:=if m<n then -1 else if n<m then 1 else 0
def mv{k:Nat}(j:k<(ae m).length)(hl:(ae m).length=(ae n).length)(f:(ae m).drop (k+1)=(ae n).drop (k+1))(h:(ae m).getD k 0<(ae n).getD k 0):m<n:=by
 have a:=gN (ae m)<|k+1;have b:=gN (ae n)<|k+1;rw[ai,aI]at a b;rw[f]at a;have e:((ae m).take<|k+1).length=k+1:=by simp;omega
 have d:((ae n).take<|k+1).length=k+1:=by simp;omega
 rw[e]at a;rw[d]at b;have g:=ic<|sj (bx m) k;have o:=bm<|sj (bx n) k;have c:((ae m).take k).length=k:=by simp;omega
 rw[c]at g;have i:=dE k;have:((ae m).getD k 0+1)*1000000000^k<=(ae n).getD k 0*1000000000^k:=ac6 E E;rw[abU]at this;omega
def kC:∀{l:List Int}{j:Nat}(y:Int),j<l.length->val (l.set j y)=val l+(y-l.getD j 0)*1000000000^j
 |[],j,y,h=>by cases h
 |d::l,0,y,_=>by simp[val];omega
 |d::l,j+1,y,h=>by have:=kC (l:=l) (j:=j) y (by simpa using h);simp[val];grind
def eM(h:yt l){j:Nat}{y:Int}(b:0<=y/\y<1000000000):yt (l.set j y):=by
 intro x a;rcases aeU a with a|a
 ·exact h x a
 subst a;exact b
def cv(l:List Int)(j k:Nat)(y:Int):(l.set j y).getD k 0=if j=k/\k<l.length then y else l.getD k 0:=by
 by_cases h:j=k
 ·subst h;by_cases a:j<l.length
  all_goals simp[a]
 simp[h]
def iH(n:Nat):val (List.replicate n 0)=0:=by
 induction n with
 |zero=>rfl
 |succ n a=>simp[ad1,val,a]
def fw(n:Nat):yt (List.replicate n 0):=λx a=>by rw[ad7 a];omega
def fK(n k:Nat):(List.replicate n (0:Int)).getD k 0=0:=by simp[adO];split<;>rfl
end
end Go.Ai
