/- Parts of the proof of ScaleBest (Best returns the greatest set-up, and Refuse a circle that the reference accepts, if there is none; or the errors of the reference), at every input, with no further conditions. -/
import Derived.Test.YtpoaaoihkhdijaaGreatDoorBZAO
import Derived.Deep.Slices
import Derived.ChangeArms
import Derived.ChangeStays
import Derived.ChangeBook
set_option linter.all false
set_option maxRecDepth 100000
set_option maxHeartbeats 0
section
namespace Go.Ai
open Go.Proofs Go.RowKit
variable{P:Program}{w:World}{S:Nat->Prop}
section
variable{o:Oper}{a:Operand}{t:TypeId}
def Fh{args H:List AV}(d:args.length=1)(c:H.length=1){i:Nat}(a:i≠0)(b:i≠1000000):both args H i=⟨.dead,0,0⟩:=by
 by_cases h:i<1000000
 ·rw[gM h,ab1 E]
 obtain⟨k,rfl⟩:∃k,i=1000000+k:=⟨i-1000000,E⟩;rw[fT E,ab1 E]
def OH{y:AV}{ti:TI}(v:o.op=.load t a)(p:cu P t=some ti)(j:fits ti y=true):
 SI P o [.box true y] [.bC 1000000 0 0 []] [.box true<|ir y] y:=by
 intro w S V s F hl hc r f;obtain⟨x0,rfl⟩:∃x0,s=[x0]:=by
  match s,hl with
  |[x0],_=>exact⟨x0,W⟩
 have d:=fT (args:=[.bC 1000000 0 0 []]) (H:=[.box true y]) I 0;simp[aeu]at d;have Y:x0=V.v 1000000:=xr (i:=0) E hc W;have A:bg V [x0] 1000000=V.v 1000000:=by unfold bg;rw[if_neg E]
 obtain⟨L,z,F1,Z,k1,k2,k3,c,T,R⟩:=hc.take 1000000 0 [.deref] (y:=y) (av':=.box true<|ir y) E (by rw[d];rfl) (by rw[d];rfl) (by rw[d];rfl);have u:=hc.rel 1000000;rw[an.aA<|by rw[d];rfl,A]at u;obtain⟨b,cs,fz,F2,z2,B,-⟩:=u;rw[A,B]at k1;simp[loc,step1,cm]at k1;subst k1;have Q:r a=.pointer (some ⟨b,0,none⟩):=by
  have X:o.op.operands.toList=[a]:=by rw[v];rfl
  rw[X]at f;simp[and_true]at f;rw[f,Y,B]
 have g:(Instr.loadAt t<|r a).run P w=.ok z w:=by simp[Q,Result.andThen_ok];exact kK p k2<|kW j k3
 have n:bg V [z] 0=z:=by unfold bg;rw[if_pos E];rfl
 have K:bg V [z] 1000000=V.v 1000000:=by unfold bg;rw[if_neg E]
 have l:both [y] [.box true<|ir y] 0=⟨y,0,0⟩:=by rw[gM E];rfl
 have M:=fT (args:=[y]) (H:=[.box true<|ir y]) I 0;refine⟨.value z,z,w,by simp[execOp,v,g],.inl W,S,Z,⟨W,W,W,aax _,λ_ _ _=>rfl⟩,λ_ h=>h,λ_ h=>.inl h,?_⟩;refine⟨λi=>?_,c.nodup,c.du,λi b N=>?_,c.shr⟩
 ·by_cases e:i=0
  ·subst e;have:=c.rel 0;rw[an.aA<|by rw[aH];exact k3.plain]at this;rw[an.aA<|by rw[l];exact k3.plain,l,n];simpa[aH]using this
  by_cases m:i=1000000
  ·subst m;have:=c.rel 1000000;have q:(1000000:Nat)≠0:=E;have O:(iI (iI (both [.bC 1000000 0 0 []] [.box true y]) 1000000 (ju (both [.bC 1000000 0 0 []] [.box true y] 1000000) [.deref]<|.box true<|ir y)) 0 ⟨y,((both [.bC 1000000 0 0 []] [.box true y]) 0).g1+1,((both [.bC 1000000 0 0 []] [.box true y]) 0).g2⟩ 1000000).av=.box true (ir y):=by
    rw[ao _ _ q,aH,xt]
   exact this
  have:=c.rel i;have x:=Fh (args:=[.bC 1000000 0 0 []]) (H:=[.box true y]) W W e m;have k:=Fh (args:=[y]) (H:=[.box true<|ir y]) W W e m;rw[an.aA<|by rw[ao _ _ e,ao _ _ m,x];rfl,ao _ _ e,ao _ _ m,x]at this;rw[an.aA<|by rw[k];rfl,k];exact this
 obtain⟨J,D,C⟩:=c.own i b N;exact⟨.inr J,D,C⟩
def Yk{y:SV}{ti:xk}(d:o.op=.load t a)(c:cu P t=some ti.den)(b:my ti y=true)(hc:y.den.cell=false):mE P o [.box true y] [.bC 1000000 0 0 []] [.box true .dead] y:=by
 have h:=OH (P:=P) (y:=y.den) d c (by rw[je];exact b);have e:ir y.den=.dead:=by unfold ir;rw[hc];rfl
 rw[e]at h;exact h
end
end Go.Ai
end
namespace Go.Ai.Pg
open Go.Proofs Go.Ai Go.Ai.eE
def Z0{R:Option Nat->Prop}{N:Nat}{F:St->Prop}{k:List It}{l:aU}{c:List It}{b:aU}(m:Nat){a:List Pd}{qs:List Bool}(h:run tt [] N m k l [] []=(a,qs,c,b))(d:Go.Ai.Pa qs=true)(e:ag a)(f:AK R Tryz.prog N F c b):AK R Tryz.prog N F k l:=(nj hA hm h e d).2.2 f
def Z2(o:Bool):SV:=.row o 2 [.agg [.i 1,.s [49]],.agg [.i 0,.s [49]]]
def UM:aM Tryz.prog 63 [.ints .i64 false [1]] (.ints .i64 true [1]):=iA gU (B:=[]) aW
def UN:aM Tryz.prog 192 [Z2 false] (Z2 true):=iA gU (B:=[]) aW
def UL:aM Tryz.prog 193 [.nil] .nil:=iA gU (B:=[]) aW
def XZ(a b c:ck):SV:=.agg [.i 2,.row true 5 [.agg [.s bq,.row true 2 [.agg [.i 1,.s a],.agg [.i 0,.s b]],.i 1,.s c,.nil]],.ints .i64 true [1],.i 0]
def gF:SV:=.agg [.s bq,.row true 2 [.agg [.i 1,.s [49]],.agg [.i 0,.s [49]]],.i 1,.s [49],.nil]
def ik:xk:=match Fw tt 50 with|some t=>t|none=>⟨false,0,0,.dead⟩
def RX:aM Tryz.prog 110 [xN] (.box true<|XZ [49] [49] [49]):=by refine bS Tryz.func110 W<|bO W W UM W<|k0 W aW<|gR<|bQ W W (λ_=>?_) λg=>absurd fh g;refine r1 W (aP W)<|bH W UN W<|bO W W UL W<|Z0 12 W aW U<|Y9 W W W (mE.same (Yk (P:=Tryz.prog) (y:=gF) (ti:=ik) W W W W) W W W W) W<|RP gU (B:=[]) aW
end Go.Ai.Pg
namespace Go.Ai
open Go.Proofs Go.RowKit
section
variable{R:Option Nat->Prop}{P:Program}{N:Nat}{V:Hid}{w0 w:World}{S0:Nat->Prop}{a:Act}{base:St}{r p0 Z h:Nat}{Q s:Path}
section
variable{y:AV}{L:Loc}{i sz':Nat}{s':Path}{v:Value}
def SM(base:St)(r p0:Nat)(av:AV)(q:Path):St:=iI (iI base r ⟨av,0,0⟩) p0 ⟨.ptr r 0 0 q,0,0⟩
def vD(base:St)(r p0 Z h:Nat)(av y:AV)(s:Path):St:=iI (iI (iI (iI base r ⟨av,0,0⟩) p0 ⟨.ptr Z 0 0 s,0,0⟩) Z ⟨y,0,0⟩) h ⟨.bC Z 0 0 [],0,0⟩
def Hid.A4(V:Hid)(Z h:Nat)(v:Value):Hid:={V with v:=iI (iI V.v Z v) h v}
structure Names(N r p0 Z h:Nat):Prop where
 n:N<=1000000
 z:1000000<=Z
 hh:1000000<=h
 rp:r≠p0
 rz:r≠Z
 rh:r≠h
 pz:p0≠Z
 ph:p0≠h
 zh:Z≠h
def Ht(hn:Names N r p0 Z h)(c:a.tmps.size=N)(v:Value):tv (V.A4 Z h v) a=iI (iI (tv V a) Z v) h v:=by
 have g:=hn.n;have f:=hn.z;have d:=hn.hh
 funext i
 unfold tv Hid.A4 iI;simp only;by_cases e:i=h
 ·subst e;rw[if_neg E,if_pos W,if_pos W]
 by_cases b:i=Z
 ·subst b;rw[if_neg E];simp
 simp[e,b]
def Qd{av:AV}:vD base r p0 Z h av y s h=⟨.bC Z 0 0 [],0,0⟩:=by unfold vD;rw[aH]
def uF(hn:Names N r p0 Z h){av:AV}:vD base r p0 Z h av y s Z=⟨y,0,0⟩:=by unfold vD;rw[ao _ _ hn.zh,aH]
def Qc(hn:Names N r p0 Z h){av:AV}:vD base r p0 Z h av y s p0=⟨.ptr Z 0 0 s,0,0⟩:=by unfold vD;rw[ao _ _ hn.ph,ao _ _ hn.pz,aH]
def FL(hn:Names N r p0 Z h){av:AV}:vD base r p0 Z h av y s r=⟨av,0,0⟩:=by unfold vD;rw[ao _ _ hn.rh,ao _ _ hn.rz,ao _ _ hn.rp,aH]
def FM{av:AV}(e:i≠r)(d:i≠p0)(c:i≠Z)(b:i≠h):vD base r p0 Z h av y s i=base i:=by unfold vD;rw[ao _ _ b,ao _ _ c,ao _ _ d,ao _ _ e]
def Vk{av:AV}:SM base r p0 av Q p0=⟨.ptr r 0 0 Q,0,0⟩:=by unfold SM;rw[aH]
def Ea(b:r≠p0){av:AV}:SM base r p0 av Q r=⟨av,0,0⟩:=by unfold SM;rw[ao _ _ b,aH]
def Eb{av:AV}(c:i≠r)(b:i≠p0):SM base r p0 av Q i=base i:=by unfold SM;rw[ao _ _ b,ao _ _ c]
def IA{x:Loc}{sz:Nat}(hl:loc w x Q=some L)(hh:holds w L v)(hc:v.cells=#[v]):loc w x (Q++.idx i sz::s')=loc w (.val v) (.idx i sz::s'):=by rw[iq,hl];simp[loc];rw[cN hh hc I];rfl
def Rp{z b:Value}(d:holds w L z)(c:holds w L b)(c1:z.cells=#[z])(c2:b.cells=#[b]):z=b:=by
 cases L with
 |val q=>simp[holds]at d c;rw[d,c]
 |addr g=>have f:=At.cell d c1;have e:=At.cell c c2;rw[f]at e;simpa using e
def N5{sz:Nat}{xs:List AV}{t:AV}{av1:(Value->Prop)->AV}(hn:Names N r p0 Z h)(c:∀i,(base i).av.plain=true)(G3:(base Z).av=.dead)(Y:(base h).av=.dead)(hp:t.plain=true)
 (hg:bp t Q=some (.list .own sz xs))(hs:∀C,eJ t Q (.pv C)=some (av1 C))(F3:∃u,bp t (Q++.idx i sz'::s')=some u)
 (hi:o5 N V w0 S0 (SM base r p0 t<|Q++.idx i sz'::s') a w):∃v,o5 N (V.A4 Z h v) w0 S0 (vD base r p0 Z h (av1 (·=v)) (.list .own sz xs)<|.idx i sz'::s') a w:=by
 obtain⟨S,F,ds,hc,hN,F4,E1,B0,p,hm⟩:=hi;have hr:=hc.rel r;rw[an.aA<|by rw[Ea hn.rp];exact hp,Ea hn.rp]at hr;obtain⟨L0,v,Fv,l1,l2,l3,-⟩:=Rel.read Q (L:=.val<|tv V a r) hr W hg;have c1:v.cells=#[v]:=cD<|l3.one W;obtain⟨L,z,A,F1,B,k1,k2,k3,k4,k5,k6⟩:=Rel.iI Q (L:=.val<|tv V a r) hr W hg (hs (·=v)) (hc.nodup r) (λb c=>(hc.own r b c).2.2) (by simp[Loc.jS]);rw[l1]at k1;cases k1;have ez:z=v:=Rp k2 l2 (cD<|k3.one W) c1;subst ez;obtain⟨z',j1,-,-,j4⟩:=k6 w S z [] (λ_ h=>h) W (λh=>h) (λ_ _ _=>rfl) (qb k2) (by simp[Rel]);simp[xn]at j4;subst j4;have m:=hc.nodup r;rw[k4,abm,abm]at m;have o:∀b,b∈A++[]++B->b∈F r:=λb c=>by rw[k4];simp at c⊢;rcases c with h|h<;>simp[h]
 have f:∀b,b∈F1->b∈F r:=λb c=>by rw[k4];simp[c]
 have K:∀b,b∈F1->b∉A++[]++B:=λb c l=>by
  simp at l;rcases l with h|h
  ·exact m.1.2.2 b h b c W
  exact m.2.2 b (by simp[c]) b h W
 have G2:F h=[]:=by have:=hc.rel h;rw[an.aA<|by rw[Eb (λe=>hn.rh e.symm) λe=>hn.ph e.symm,Y];rfl,Eb (λe=>hn.rh e.symm) λe=>hn.ph e.symm,Y]at this;simpa[Rel]using this
 have n:=hc.rel p0;unfold an at n;rw[Vk]at n;simp only[Ea hn.rp]at n;obtain⟨G1,-,-,F0,E2⟩:=n;obtain⟨ad,q1,q2⟩:=E2 U (.inr U) λ_=>F3;rw[IA l1 k2 c1]at q1;have hT:=Ht (V:=V) (a:=a) hn hN z;refine⟨z,S,λi=>if i=r then A++[]++B else if i=Z then F1 else F i,ds,⟨λj=>?_,λj=>?_,λj k O b c=>?_,λj b c=>?_,hc.shr⟩,hN,F4,E1,B0,⟨p.os,p.tape,p.output,p.size,p.block⟩,hm.1,λd hd=>?_⟩
 ·rw[hT];by_cases X:j=h
  ·subst X;unfold an;rw[Qd];simp only[uF hn,aH];rw[if_neg λe=>hn.rh e.symm,if_neg λe=>hn.zh e.symm];exact⟨G2,aax _,aax _,λ_ _ _=>⟨.val z,by rw[ao _ _ hn.zh,aH];rfl,W,I⟩⟩
  by_cases H:j=Z
  ·subst H;rw[an.aA<|by rw[uF hn];rfl,uF hn,if_neg λe=>hn.rz e.symm,if_pos W,ao _ _ hn.zh,aH];exact k3
  by_cases T:j=p0
  ·subst T;unfold an;rw[Qc hn];simp only[uF hn];rw[if_neg λe=>hn.rp e.symm,if_neg hn.pz,ao _ _ hn.ph,ao _ _ hn.pz];exact⟨G1,aax _,aax _,F0,λ_ _ _=>⟨ad,by rw[ao _ _ hn.zh,aH];exact q1,q2⟩⟩
  by_cases M:j=r
  ·subst M;rw[an.aA<|by rw[FL hn];exact j1.plain,FL hn,if_pos W,ao _ _ hn.rh,ao _ _ hn.rz];exact j1
  have x:=hc.rel j;rw[an.aA<|by rw[Eb M T];exact c j,Eb M T]at x;rw[an.aA<|by rw[FM M T H X];exact c j,FM M T H X,if_neg M,if_neg H,ao _ _ X,ao _ _ H];exact x
 ·by_cases e:j=r
  ·simp only[e,if_true];rw[abY,abm];exact⟨m.1.1,m.2.1,λa ha b c=>m.2.2 a (by simp[ha]) b c⟩
  simp[e,if_false];by_cases H:j=Z
  ·simp[H,if_true];exact m.1.2.1
  simp[H,if_false];exact hc.nodup j
 ·by_cases q:j=r
  ·simp only[q,if_true]at c;have hk:k≠r:=λe=>O<|q.trans e.symm;simp[hk,if_false];by_cases J:k=Z
   ·simp[J,if_true];exactλl=>K b l c
   simp[J,if_false];exact hc.du r k (λe=>hk e.symm) b<|o b c
  simp[q,if_false]at c;by_cases g:j=Z
  ·simp[g,if_true]at c;by_cases J:k=r
   ·simp only[J,if_true];exact K b c
   have F2:k≠Z:=λe=>O<|g.trans e.symm;simp[J,F2,if_false];exact hc.du r k (λe=>J e.symm) b<|f b c
  simp[g,if_false]at c;by_cases J:k=r
  ·simp only[J,if_true];exactλl=>hc.du j r q b c<|o b l
  simp[J,if_false];by_cases A0:k=Z
  ·simp[A0,if_true];exactλl=>hc.du j r q b c<|f b l
  simp[A0,if_false];exact hc.du j k O b c
 ·by_cases q:j=r
  ·simp only[q,if_true]at c;exact hc.own r b<|o b c
  simp[q,if_false]at c;by_cases g:j=Z
  ·simp[g,if_true]at c;exact hc.own r b<|f b c
  simp[g,if_false]at c;exact hc.own j b c
 obtain⟨D,X,H,T,M,e5⟩:=hm.2 d hd;refine⟨D,X,H,T,M,λj x=>?_⟩;by_cases q:j=r
 ·simp only[q,if_true]at x;exact e5 r<|o D x
 simp[q,if_false]at x;by_cases g:j=Z
 ·simp[g,if_true]at x;exact e5 r<|f D x
 simp[g,if_false]at x;exact e5 j x
def KC{sz:Nat}{ys:List AV}{u av3:AV}(hn:Names N r p0 Z h)(c:∀i,(base i).av.plain=true)(F3:(base Z).av=.dead)(F4:(base h).av=.dead)(hp:u.plain=true)
 (hg:bp u Q=some (.pv (·=v)))(hs:eJ u Q (.list .own sz ys)=some av3)(F0:flat (.idx i sz'::s')=true)
 (hi:o5 N (V.A4 Z h v) w0 S0 (vD base r p0 Z h u (.list .own sz ys)<|.idx i sz'::s') a w):o5 N V w0 S0 (SM base r p0 av3<|Q++.idx i sz'::s') a w:=by
 obtain⟨S,F,ds,hc,hN,F2,B0,A0,n,hm⟩:=hi;have hT:=Ht (V:=V) (a:=a) hn hN v;rw[hT]at hc;have hr:=hc.rel r;rw[an.aA<|by rw[FL hn];exact hp,FL hn,ao _ _ hn.rh,ao _ _ hn.rz]at hr;have Y:=hc.rel Z;rw[an.aA<|by rw[uF hn];rfl,uF hn,ao _ _ hn.zh,aH]at Y;have c1:v.cells=#[v]:=cD<|Y.one W;obtain⟨L,z,A,F1,B,k1,k2,k3,k4,k5,k6⟩:=Rel.iI Q (L:=.val<|tv V a r) hr W hg hs (hc.nodup r) (λb c=>(hc.own r b c).2.2) (by simp[Loc.jS]);obtain⟨ez,eF⟩:=k3;subst ez;subst eF;obtain⟨z',j1,-,-,j4⟩:=k6 w S z (F Z) (λ_ h=>h) W (λh=>h) (λ_ _ _=>rfl) (qb k2) Y;simp[xn]at j4;subst j4;have t:=hc.nodup r;rw[k4,abY,abm]at t;have m:∀b,b∈A++F Z++B->b∈F r\/b∈F Z:=λb c=>by rw[k4];simp at c⊢;rcases c with h|h|h<;>simp[h]
 have M:∀b,b∈F Z->b∉F r:=λb c=>hc.du Z r (λe=>hn.rz e.symm) b c;have E2:(A++F Z++B).Nodup:=by
  rw[abm,abm];refine⟨⟨t.1,hc.nodup Z,λa C b c e=>?_⟩,t.2.1,λa C b c e=>?_⟩
  ·subst e;exact M a c (by rw[k4];simp[C])
  subst e;rcases abu.1 C with C|C
  ·exact t.2.2 a C a c W
  exact M a C (by rw[k4];simp[c])
 have G3:F h=[]:=by have:=hc.rel h;unfold an at this;rw[Qd]at this;exact this.1
 have l:=hc.rel p0;unfold an at l;rw[Qc hn]at l;simp only[uF hn]at l;obtain⟨G2,-,-,O,E1⟩:=l;obtain⟨ad,q1,q2⟩:=E1 U (.inr U) λhh=>by rw[F0]at hh;cases hh
 rw[ao _ _ hn.zh,aH]at q1;rw[ao _ _ hn.ph,ao _ _ hn.pz]at q2 O;refine⟨S,λi=>if i=r then A++F Z++B else if i=Z then[]else F i,ds,⟨λj=>?_,λj=>?_,λj k T b c=>?_,λj b c=>?_,hc.shr⟩,hN,F2,B0,A0,⟨n.os,n.tape,n.output,n.size,n.block⟩,hm.1,λd hd=>?_⟩
 ·by_cases H:j=p0
  ·subst H;unfold an;rw[Vk];simp only[Ea hn.rp];rw[if_neg λe=>hn.rp e.symm,if_neg hn.pz];exact⟨G2,aax _,aax _,O,λ_ _ _=>⟨ad,by rw[IA k1 k2 c1];exact q1,q2⟩⟩
  by_cases x:j=r
  ·subst x;rw[an.aA<|by rw[Ea hn.rp];exact j1.plain,Ea hn.rp,if_pos W];exact j1
  rw[an.aA<|by rw[Eb x H];exact c j,Eb x H,if_neg x];by_cases q:j=Z
  ·subst q;rw[F3,if_pos W];simp[Rel]
  rw[if_neg q];by_cases K:j=h
  ·subst K;rw[F4,G3];simp[Rel]
  have o:=hc.rel j;rw[an.aA<|by rw[FM x H q K];exact c j,FM x H q K,ao _ _ K,ao _ _ q]at o;exact o
 ·by_cases e:j=r
  ·simp only[e,if_true];exact E2
  simp[e,if_false];by_cases q:j=Z
  ·simp only[q,if_true];exact abS
  simp[q,if_false];exact hc.nodup j
 ·by_cases p:j=r
  ·simp only[p,if_true]at c;have hk:k≠r:=λe=>T<|p.trans e.symm;simp only[hk,if_false];by_cases J:k=Z
   ·simp only[J,if_true];simp
   simp[J,if_false];rcases m b c with g|g
   ·exact hc.du r k (λe=>hk e.symm) b g
   exact hc.du Z k (λe=>J e.symm) b g
  simp only[p,if_false]at c;by_cases f:j=Z
  ·simp only[f,if_true]at c;cases c
  simp[f,if_false]at c;by_cases J:k=r
  ·simp only[J,if_true];intro G1;rcases m b G1 with g|g
   ·exact hc.du j r p b c g
   exact hc.du j Z f b c g
  simp only[J,if_false];by_cases X:k=Z
  ·simp only[X,if_true];simp
  simp[X,if_false];exact hc.du j k T b c
 ·by_cases p:j=r
  ·simp only[p,if_true]at c;rcases m b c with g|g
   ·exact hc.own r b g
   exact hc.own Z b g
  simp only[p,if_false]at c;by_cases f:j=Z
  ·simp only[f,if_true]at c;cases c
  simp[f,if_false]at c;exact hc.own j b c
 obtain⟨D,K,q,H,x,e5⟩:=hm.2 d hd;refine⟨D,K,q,H,x,λj o=>?_⟩;by_cases p:j=r
 ·simp only[p,if_true]at o;rcases m D o with g|g
  ·exact e5 r g
  exact e5 Z g
 simp only[p,if_false]at o;by_cases f:j=Z
 ·simp only[f,if_true]at o;cases o
 simp[f,if_false]at o;exact e5 j o
end
end
section
variable{R:Option Nat->Prop}{P:Program}{N:Nat}{F:St->Prop}{k:List It}{l:aU}
section
variable{K:List (Nat×SV)}{Z h p0 r:Nat}{v y:SV}
def BF:List (Nat×SV)->Bool
 |[]=>true
 |(_,x)::r=>c5 x.plain<|BF r
def BK(z:Nat):List (Nat×SV)->Bool
 |[]=>true
 |(i,_)::r=>c5 (ne' i z)<|BK z r
def rW:∀{K:List (Nat×SV)},BF K=true->∀i,(dn (sl K) i).av.plain=true
 |[],_,i=>rfl
 |(j,x)::K,h,i=>by
  simp[BF,aO]at h;simp[sl,fR];by_cases e:i=j
  ·subst e;rw[aH];simp[Cl.den,dj];exact h.1
  rw[ao _ _ e];exact rW h.2 i
def nR{z:Nat}:∀{K:List (Nat×SV)},BK z K=true->(dn (sl K) z).av=.dead
 |[],_=>rfl
 |(j,x)::K,h=>by simp[BK,aO,ne_iff]at h;simp[sl,fR];rw[ao _ _ λe=>h.1 e.symm];exact nR h.2
def Rn(r p0:Nat)(v:SV)(q:Path)(K:List (Nat×SV)):List (Nat×SV):=(p0,.ptr r 0 0 q)::(r,v)::K
def Ej(r p0 Z h:Nat)(v y:SV)(s:Path)(K:List (Nat×SV)):List (Nat×SV):=(h,.bC Z 0 0 [])::(Z,y)::(p0,.ptr Z 0 0 s)::(r,v)::K
def MN{q:Path}:dn (sl<|Rn r p0 v q K)=SM (dn<|sl K) r p0 v.den q:=by simp[Rn,sl,fR,SM,Cl.den,SV.den]
def H9{s:Path}:dn (sl<|Ej r p0 Z h v y s K)=vD (dn<|sl K) r p0 Z h v.den y.den s:=by simp[Ej,sl,fR,vD,Cl.den,SV.den]
def Xz(L:List (Nat×SV))(σ:St):Prop:=∃l,σ=dn l/\Aj l L
def TC{c:Code}{g K2:List (Nat×SV)}{Q f:Path}{i b:Nat}{j v3 y2:SV}{v1 v2:(Value->Prop)->SV}{sz t:Nat}{xs ys:List AV}{u:SV}
 (hn:Names N r p0 Z h)(q:c5 (BF g) (c5 (BK Z g)<|BK h g)=true)(p:c5 (BF K2) (c5 (BK Z K2)<|BK h K2)=true)(A:j.plain=true)(z:∀C,(v2 C).plain=true)
 (Y:gJ j Q=some ([],y))(M:y.den=.list .own sz xs)(hs:∀C,lu j Q (.pv C)=some ([],v1 C))(H:gJ j (Q++.idx i b::f)=some ([],u))
 (B:∀C,gJ (v2 C) Q=some ([],.pv C))(m:y2.den=.list .own t ys)(x:∀C,lu (v2 C) Q y2=some ([],v3))(D:flat (.idx i b::f)=true)
 (hc:∀C,AK R P N (λ_=>False) [.code c,.inv<|Xz<|Ej r p0 Z h (v2 C) y2 (.idx i b::f) K2]<|sl<|Ej r p0 Z h (v1 C) y (.idx i b::f) g)
 (X:AK R P N F k (sl<|Rn r p0 v3 (Q++.idx i b::f) K2)):AK R P N F (.code c::k) (sl<|Rn r p0 j (Q++.idx i b::f) g):=by
 rw[aO,aO]at q p;intro V w0 S0 a w L hi;rw[MN]at hi;obtain⟨v,T⟩:=N5 (av1:=λC=>(v1 C).den) hn (rW q.1) (nR q.2.1) (nR q.2.2) (by rw[dj];exact A) (by rw[cF Y U,M]) (λC=>fG (hs C) U) ⟨_,cF H U⟩ hi.x;have d:=hc (·=v);have d:AW R P N c (iR R P N (λ_=>False) [.inv (Xz (Ej r p0 Z h (v2 (·=v)) y2 (.idx i b::f) K2))]) (dn (sl (Ej r p0 Z h (v1 (·=v)) y (.idx i b::f) g))):=d;rw[H9,M]at d;have J:R (V.A4 Z h v).rd/\kx P (V.A4 Z h v) w0:=⟨L.1,⟨L.2.laid,L.2.apart⟩⟩;have S:=d.x (V:=V.A4 Z h v) (w0:=w0) (S0:=S0) (a:=a) (w:=w) J T;refine wpIn_mono S λe a' w'⟨s,he,O⟩=>?_;cases e with
 |normal=>obtain⟨l2,rfl,hf⟩:=(he:Xz _ s);have o:=O.fit hf.Hj;rw[H9,m]at o;have n:=KC (av3:=v3.den) hn (rW p.1) (nR p.2.1) (nR p.2.2) (by rw[dj];exact z _) (cF (B _) U) (by rw[<-m];exact fG (x _) U) D o;rw[<-MN]at n;exact⟨_,X,n⟩
 |_=>exact(he:False).elim
end
end
end Go.Ai
namespace Go.Ai.Pg
open Go.Proofs Go.Ai Go.Ai.eE
def U2:aM Tryz.prog 114 [dz pE] (.i 0):=iA gU (B:=[]) aW
def Tp:aM Tryz.prog 94 [xN,xS] (.i 0):=(Ml.same (bs:=[bh fJ,xS]) W W).tW<|.cons Gh<|.cons (.refl _) .nil
def Uw:aM Tryz.prog 75 [.ints .i64 false [0,0]] (.i 0):=iA gU (B:=[]) aW
def JI:aM Tryz.prog 115 [xN,xS,dz pE] (.b false):=(zW.same (bs:=[bh fJ,xS,dz pE]) W W).tW<|.cons Gh<|.cons (.refl _)<|.cons (.refl _) .nil
def S3:aM Tryz.prog 116 [xN,xS] (.fn (.func 196) [] [.box false xQ,.box false xS]):=(Ft.same (bs:=[bh fJ,xS]) W W).tW<|.cons Gh<|.cons (.refl _) .nil
def Ya:aM Tryz.prog 96 [xv,.i<|-3] (fq 1 8):=iA gU (B:=[]) aW
def T6:aM Tryz.prog 98 [fq 1 16,fq 1 8] (fq 1 128):=iA gU (B:=[]) aW
def xE:ck:=[49,47,49,50,56]
def Qe:ck:=[49,47,52]
def Vm:Nat->SV
 |0=>XZ [49] [49] [49]
 |1=>XZ xE [49] [49]
 |_=>XZ xE Qe [49]
def Qn{T:pW}(a:∀g xs r,T g xs=some r->aM Tryz.prog g xs r){B:List Nat}{g:FuncId}{xs H out:List SV}{r:SV}(h:Qu (exec Tryz.prog tt T B 100000) Tryz.prog tt g xs H=some (out,r)):lp Tryz.prog g H xs out r:=Bs hA hW (qL (B:=B) hA hm hW a 100000) h
def pR(k:Nat):Path:=[.deref,.deref,.at 0 (some 3),.at 1 none,.idx 0 5,.at 1 none,.idx k 2,.at 1 none]
def Td:lp Tryz.prog 111 [.box true<|.box true<|Vm 0] [.bC 1000000 0 0 [.deref],.ptr 1000000 0 0 (pR 0),fq 1 128] [.box true<|.box true<|Vm 1] (.bW []):=Qn gU (B:=[]) aW
def Tc:lp Tryz.prog 111 [.box true<|.box true<|Vm 1] [.bC 1000000 0 0 [.deref],.ptr 1000000 0 0 (pR 1),fq 1 4] [.box true<|.box true<|Vm 2] (.bW []):=Qn gU (B:=[]) aW
def Y2(a:ck):SV:=.row true 5 [.agg [.s bq,.row true 2 [.agg [.i 1,.s xE],.agg [.i 0,.s Qe]],.i 1,.s a,.nil]]
def Y4(C:Value->Prop):SV:=.box true<|.box true<|.agg [.i 2,.pv C,.ints .i64 true [1],.i 0]
def Zt:aM Tryz.prog 96 [xv,.i 6] (fq 64 1):=iA gU (B:=[]) aW
def Tb(C:Value->Prop):lp Tryz.prog 111 [Y4 C,Y2 [49]] [.bC 1000000 0 0 [.deref],.ptr 1000001 0 0 [.idx 0 5,.at 3 none],fq 64 1] [Y4 C,Y2 [54,52]] (.bW []):=Qn gU (B:=[]) aW
def pU:Path:=[.deref,.deref,.at 0 (some 3),.at 1 none]
def kU:List (Nat×SV):=[(6,.box true<|.agg [.i 0,.nil,.nil]),(10,.box true xv),(16,.i 6),(96,.i 1),(97,.i 0)]
theorem I8:aM Tryz.prog 41 [xN,dz pE,xS] (.bW [.agg [.i 2,.row false 5 [.agg [.s bq,.row false 2 [.agg [.i 1,.s xE],.agg [.i 0,.s Qe]],.i 1,.s [54,52],.nil]],.ints .i64 false [1]],.i 0]):=by
 refine enter (fn:=Tryz.f41) Tryz.func41 W W W W ?_;refine r0 W ?_;refine cl W W QD W ?_;refine r0 W ?_;refine br W W W (fun g=>absurd W g) (fun _=>?_);refine r0 W ?_;refine cd W W U2 W ?_;refine r0 W ?_;refine cd W W Tp W ?_;refine r0 W ?_;refine cd W W Uw W ?_;refine k0 W aW ?_;refine br W W W (fun g=>absurd W g) (fun _=>?_);refine r0 W ?_;refine cl W W JI W ?_;refine r0 W ?_;refine cl W W Fz W ?_;refine r0 W ?_;refine cl W W RX W ?_;refine r0 W ?_;refine cl W W S3 W ?_;refine r0 W ?_;refine Bv [3,4,10,11] [3,4,10,11] 2 2 (fun k=>[xV k]) (fun k=>[.box true xN,.box true (dz pE),.box true xv,.box true (.box true (Vm k))]) (fun _=>true) (fun _=>none) (.bW [])
  rfl W W W W Tryz.func196 W W W W W W (fun _ _=>rfl) (fun _=>rfl) ?_ W W (fun k _ h=>rfl) (fun C J d=>A6 C J fun v e k a=>d v e k a fun _ _=>rfl) ?_ ?_ ?_
 ·intro k a z b;simp only[abh,acz,or_false]at b;rcases b with rfl|rfl|rfl|rfl<;>rfl
 ·intro k a _
  match k,a with
  |0,_=>refine r0 W ?_;refine rH ?_;refine r1 W (aP W) ?_;refine cl W W Vs W ?_;refine r0 W ?_;refine aC 57 W (fun _=>?_) (fun g=>absurd W g);refine r1 W (aP W) ?_;refine br W W W (fun _=>?_) (fun g=>absurd W g);refine r1 W (aP W) ?_;refine cd W W Ya W ?_;refine r0 W ?_;refine cd W W T6 W ?_;refine k1 W aW (aP W) ?_;refine ZL W W (Td.same W W W W) W ?_;refine k0 W aW ?_;exact zA [(1000000,.box true xN),(1000001,.box true (dz pE)),(1000002,.box true xv),(1000003,.box true (.box true (Vm 1)))] W W ⟨⟨W,W,.refl _⟩,⟨W,W,.refl _⟩,⟨W,W,.refl _⟩,⟨W,W,.refl _⟩,trivial⟩ ⟨⟨W,W⟩,⟨W,W⟩,⟨W,W⟩,⟨W,W⟩,trivial⟩
  |1,_=>refine r0 W ?_;refine rH ?_;refine r1 W (aP W) ?_;refine cl W W Vt W ?_;refine r0 W ?_;refine aC 57 W (fun g=>absurd g fh) (fun _=>?_);refine r1 W (aP W) ?_;refine ZL W W (Tc.same W W W W) W ?_;refine k0 W aW ?_;exact zA [(1000000,.box true xN),(1000001,.box true (dz pE)),(1000002,.box true xv),(1000003,.box true (.box true (Vm 2)))] W W ⟨⟨W,W,.refl _⟩,⟨W,W,.refl _⟩,⟨W,W,.refl _⟩,⟨W,W,.refl _⟩,trivial⟩ ⟨⟨W,W⟩,⟨W,W⟩,⟨W,W⟩,⟨W,W⟩,trivial⟩
 ·intro _;refine r0 W ?_;refine gR ?_;refine r0 W ?_;refine br W W W (fun _=>?_) (fun g=>absurd fh g);refine Z0 32 W aW (aP W) ?_;refine EI (Rn 11 15 (.box true (.box true (Vm 2))) (pU++.idx 0 5::[]) kU) ⟨⟨W,W,W⟩,⟨W,W,.refl _⟩,⟨W,W,.refl _⟩,⟨W,W,.refl _⟩,⟨W,W,.refl _⟩,⟨W,W,.refl _⟩,⟨W,W,.refl _⟩,trivial⟩ ?_;refine TC (Z:=1000000) (h:=1000001) (y:=Y2 [49]) (y2:=Y2 [54,52]) (v1:=Y4) (v2:=Y4) (v3:=.box true (.box true (XZ xE Qe [54,52]))) (K2:=kU)
   ⟨fh,fh,fh,fh,fh,fh,fh,fh,fh⟩ W W W (fun _=>rfl) W W (fun _=>rfl) W (fun _=>rfl) W (fun _=>rfl) W (fun C=>?_) ?_
  ·refine r0 W ?_;refine cd W W Zt W ?_;refine r0 W ?_;refine ZL W W ((Tb C).same W W W W) W ?_;refine k0 W aW ?_;exact⟨_,W,⟨⟨W,W,W⟩,⟨W,W,.refl _⟩,⟨W,W,W⟩,⟨W,W,.refl _⟩,⟨W,W,.refl _⟩,⟨W,W,.refl _⟩,⟨W,W,.refl _⟩,⟨W,W,.refl _⟩,⟨W,W,.refl _⟩,trivial⟩⟩
  exact RP gU (B:=[]) aW
 intro c f;simp at f
def H0:aM Tryz.prog 30 [xN,xS] (.bW [.row true 1 [.strs true [[49,47,49,54],[49,47,52]]],.i 0]):=iA Fq (B:=[]) aW
def Mi:aM Tryz.prog 32 [xN,xR,dz pE,xS] (.bW [.strs true [[49],[50]],.i 0]):=iA Fq (B:=[]) aW
def Tq:aM Tryz.prog 17 [xN,xR,dz pE,xS] (.i 0):=iA Fq (B:=[]) aW
def Sf:aM Tryz.prog 15 [xN,xR,dz pE] (.bW [xS,.i 0]):=iA Fq (B:=[]) aW
def Xr:aM Tryz.prog 15 [xN,xR,dz tR] (.bW [.agg [.nil,.nil],.i 24]):=iA Fq (B:=[]) aW
def RI:aM Tryz.prog 59 [.s [57,47,49,48]] (.bW [.i<|-1,.i 0]):=iA Fq (B:=[]) aW
def Uq:SV:=.bW [.agg [.i 2,.row false 5 [.agg [.s bq,.row false 2 [.agg [.i 1,.s xE],.agg [.i 0,.s Qe]],.i 1,.s [54,52],.nil]],.ints .i64 false [1]],.i 0]
def L2:List yK:=[rk 16 [xN,xR,dz pE]<|.bW [.ints .i64 false [9,7],.row false 1 [.ints .i64 false [2,9]],.i 0],rk 58 [xN,xR,dz pE]<|.bW [Za,.i 0],rk 15 [xN,xR,dz pE]<|.bW [xS,.i 0],rk 15 [xN,xR,dz tR]<|.bW [.agg [.nil,.nil],.i 24],
 rk 30 [xN,xS] (.bW [.row true 1 [.strs true [[49,47,49,54],[49,47,52]]],.i 0]),rk 32 [xN,xR,dz pE,xS]<|.bW [.strs true [[49],[50]],.i 0],rk 41 [xN,dz pE,xS] Uq,rk 59 [.s [57,47,49,48]]<|.bW [.i<|-1,.i 0],
 rk 17 [xN,xR,dz pE,xS] (.i 0),rk 23 [xN,xR,dz tR,.ints .i64 false [7,6]]<|.i 0]
def T2:pW:=BX L2
def YV:Vf Tryz.prog L2:=⟨IC,Ni,Sf,Xr,H0,Mi,I8,RI,Tq,N9,U⟩
def YQ:∀g xs r,T2 g xs=some r->aM Tryz.prog g xs r:=λ_ _ _ h=>oC YV h
def Rs:aM Tryz.prog 57 [] (.agg [.i 2,.row true 5 [.agg [.s [105,110,116,101,103,114,97,116,111,114],.row true 2 [.agg [.i 1,.s [49]],.agg [.i 0,.s [49]]],.i 1,.s [49],.nil]],.ints .i64 true [1]]):=iA gU (B:=[]) aW
def Tt:aM Tryz.prog 60 [.ints .i64 false [9,7],.ints .i64 false [9,7]] (.b true):=iA gU (B:=[]) aW
def Tu:aM Tryz.prog 60 [.ints .i64 false [2,9],.ints .i64 false [2,9]] (.b true):=iA gU (B:=[]) aW
def T5{o:Oper}{x y:Operand}{a b c:Int}{u:TypeId}(n:o.op=.binOp .neq 120 x y u):mE Tryz.prog o [] [.agg [.i a,.i b,.i c],.agg [.i a,.i b,.i c]] [] (.b false):=by
 refine tj W W I ?_;intro w S q D hc m d;have k:Tryz.prog.underlying 120=some (.struct<|Tryz.prog.fieldsOf 120):=aW;have C:Tryz.prog.stoodInHeld 120=false:=aW;have B:q=[.agg #[.int .i64 a,.int .i64 b,.int .i64 c],.agg #[.int .i64 a,.int .i64 b,.int .i64 c]]:=by
  simp only[aB,SV.den,Cells,Rel]at hc;obtain⟨s,R,F1,F2,rfl,-,-,j,r,Q,F3,F4,rfl,-,-,g,rfl,-⟩:=hc;have e:∀(v:Value)(F:List Nat),(∃l:Array Value,v=.agg l/\Cells w S true [.v<|.int .i64 a,.v<|.int .i64 b,.v<|.int .i64 c] l.toList F)->v=.agg #[.int .i64 a,.int .i64 b,.int .i64 c]:=by rintro v F⟨⟨l⟩,rfl,h⟩;simp only[Cells,Rel]at h;obtain⟨N,m1,G1,Z,p,-,-,r1,M,P,Y,X,K,-,-,z,L,O,V,T,J,-,-,t,H,-⟩:=h;rw[r1.2.1,K,z.2.1,J,t.2.1,H]at p;rw[p]
  rw[e s _<|by simp only[Cells,Rel];exact j,e r _<|by simp only[Cells,Rel];exact g]
 have A:m x=.agg #[.int .i64 a,.int .i64 b,.int .i64 c]/\m y=.agg #[.int .i64 a,.int .i64 b,.int .i64 c]:=by
  have:o.op.operands.toList=[x,y]:=by rw[n];rfl
  rw[this,B]at d;simp[abI,acA,aeZ,and_true]at d;exact d
 have f:(binOp .neq 120 (.agg #[.int .i64 a,.int .i64 b,.int .i64 c])<|.agg #[.int .i64 a,.int .i64 b,.int .i64 c]).run Tryz.prog w=.ok (.bool false) w:=by
  rw[run_neq_struct,show(10000:Nat)=9999+1 from W,run_equalIn_agg w 9999 120 _ _ k C];simp[Program.fieldsOf,Tryz.underlying120]
  go_simp
 refine⟨.value<|.bool false,.bool false,w,?_,.inl W,S,[],⟨W,W,W,aax _,λ_ _=>rfl⟩,λ_ h=>h,λ_ h=>.inl h,λb h=>D b h,by simp[SV.den,Rel,scalar],abS,I⟩;simp[execOp,n,A,run_eqGuard_agg,hm,f]
def R5(p:gV)(rs:List fD)(b:fE):O9 p rs b=gm p rs b:=by
 unfold O9 gm mH;by_cases h:dT p=0
 ·rw[if_neg<|not_not_intro h,if_neg<|not_not_intro h]
 rw[if_pos h,if_pos h,if_pos h]
def UI{us:List bT}{n:Nat}(e:n<=100)(d:∀u∈us,iQ n u)(rs:List fD)(b:fE):(iv n us rs b).length<=200+24*us.length:=by
 have h:∀i,(hi:i<us.length)->(ry ((n+eR us i:Nat):Int) rs b<|us.getD i default).length<=24:=by
  intro i hi;have hu:=d _<|aaY hi;rw[au hi];unfold ry;split
  ·simp[CU]
  split
  ·rename_i g;have:=cS (f:=qR rs b us[i]) (c:=3) (λk=>by simp[qR]) us[i].ah.length;have:=(hu.add g).2.1;omega
  split
  ·simp[GS]
  simp
 have a:∀i,i<=us.length->(jM n us rs b i).length<=200+24*i:=by
  intro i
  induction i with
  |zero=>have:=cS (f:=yw rs b) (c:=2) (λk=>by simp[yw]) n;simp only[jM,kZ,List.range_zero,List.flatMap_nil,abY];omega
  |succ i j=>intro hi;have:=h i E;rw[oa,abn];omega
 exact a _ .refl
def YH{us:List bT}{n:Int}{m:Nat}{rs:List fD}{b:fE}(l:∀u∈us,iQ n u)(e:Vc n rs)(hl:rs.length<2^40)(h:∀u∈us,u.ah.length<2^40)(o:J9 b)(hn:n=m):SK (iv m us rs b):=by
 intro c hc;have q:=e.len;have p:=λu hu k a=>(jo rs b u k (l u hu) a e hl (h u hu) o).2;obtain⟨w,v,t,r⟩:=o;unfold iv jM kZ at hc;rw[abu,abQ,abQ]at hc;rcases hc with⟨s,hs,hc⟩|⟨j,d,hc⟩
 ·have hs:=abO.1 hs;have:=(xC rs b s E hl e.val ⟨w,v,t,r⟩).2;simp[yw,or_false]at hc;rcases hc with rfl|rfl<;>dsimp only<;>omega
 have d:=abO.1 d;rw[au d]at hc;have hu:=l _<|aaY d;have a:=p _<|aaY d;unfold ry at hc;split at hc
 ·rename_i g;have x:=(hu.int g).1;have i:=a 0 E;have i1:=a 1 E;simp[CU,or_false]at hc;rcases hc with rfl|rfl|rfl|rfl|rfl|rfl|rfl<;>dsimp only<;>omega
 split at hc
 ·rw[abQ]at hc;obtain⟨k,f,hc⟩:=hc;have i:=a k<|abO.1 f;simp[qR,or_false]at hc;rcases hc with rfl|rfl|rfl<;>dsimp only<;>omega
 split at hc
 ·rename_i g;have y:=(hu.table g).1;have i:=a 0 E;simp[GS,or_false]at hc;rcases hc with rfl|rfl|rfl|rfl<;>dsimp only<;>omega
 cases hc
end Go.Ai.Pg
namespace Go.Ai.Pg
open Go.Proofs Go.Ai
def tx(us:List bT){i:Nat}:∀{j:Nat},i<=j->eR us i<=eR us j
 |0,h=>by rw[Nat.le_zero.1 h];exact aax _
 |j+1,h=>by
  by_cases e:i=j+1
  ·rw[e];exact aax _
  refine abq (tx us (j:=j) E) ?_;by_cases g:j<us.length
  ·rw[kp g];omega
  unfold eR;rw[abk (E:us.length<=j),abk (E:us.length<=j+1)];exact aax _
def CT(us:List bT){t:Nat}:∀{i:Nat},i<=us.length->t<eR us i->∃j,∃h:j<us.length,us[j].kind=dy/\eR us j=t
 |0,_,h=>absurd h (Nat.not_lt_zero _)
 |i+1,hi,h=>by
  by_cases g:t<eR us i
  ·exact CT us E g
  rw[kp E]at h;have a:us[i].kind=dy:=aca λe=>by rw[if_neg e]at h;exact g h
  rw[if_pos a]at h;exact⟨i,E,a,E⟩
def YG{us:List bT}{n:Int}{m:Nat}{rs:List fD}{b:fE}(h:∀u∈us,iQ n u)(l:Vc n rs)(hl:rs.length<2^40)(f:∀u∈us,u.ah.length<2^40)(r:J9 b)(hn:n=m):CW (iv m us rs b) (m+eR us us.length):=by
 refine⟨YH h l hl f r hn,λc hc=>?_,λk q=>?_,λk q=>?_⟩
 ·unfold iv jM kZ at hc;rw[abu,abQ,abQ]at hc;rcases hc with⟨s,hs,hc⟩|⟨j,a,hc⟩
  ·have hs:=abO.1 hs;simp only[yw,abh,acz,or_false]at hc;rcases hc with rfl|rfl<;>dsimp only<;>omega
  have a:=abO.1 a;rw[au a]at hc;have hu:=h _<|aaY a;have z:=hu.out;have x:=kp a;have w:=tx us (i:=j+1) (j:=us.length) a;have o:∀k,k<us[j].ah.length->0<=(us[j].ah.getD k default).sh/\(us[j].ah.getD k default).sh<n:=λk q=>by have:=hu.feed _<|bw (d:=default) q;exact⟨this.1,this.2.1⟩
  unfold ry at hc;split at hc
  ·rename_i g;have A:=(hu.int g).1;have v:=o 0 E;have i1:=o 1 E;simp only[CU,abh,acz,or_false]at hc;rcases hc with rfl|rfl|rfl|rfl|rfl|rfl|rfl<;>dsimp only<;>omega
  split at hc
  ·rw[abQ]at hc;obtain⟨k,p,hc⟩:=hc;have v:=o k<|abO.1 p;simp only[qR,abh,acz,or_false]at hc;rcases hc with rfl|rfl|rfl<;>dsimp only<;>omega
  split at hc
  ·rename_i g;rw[if_pos g]at x;have B:=(hu.table g).1;have v:=o 0 E;simp only[GS,abh,acz,or_false]at hc;rcases hc with rfl|rfl|rfl|rfl<;>dsimp only<;>omega
  simp at hc
 ·unfold iv jM kZ;by_cases g:k<m
  ·exact⟨_,abu.2<|.inl<|abQ.2 ⟨k,abO.2 g,ad5 ..⟩,W,W,(xC rs b k (by have:=l.len;omega) hl l.val r).2.2⟩
  obtain⟨j,a,e,y⟩:=CT us (t:=k-m) (aax _) E;refine⟨⟨((m+eR us j:Nat):Int),-1,tM rs b us[j] 0⟩,abu.2<|.inr<|abQ.2 ⟨j,abO.2 a,?_⟩,?_,W,?_⟩
  ·rw[au a];unfold ry;rw[if_neg<|by rw[e];decide,if_neg<|by rw[e];decide,if_pos e];exact ad5 ..
  ·dsimp only;omega
  have hm:=aaY a;exact(jo rs b us[j] 0 (h _ hm) (by have:=(h _ hm).table e;omega) l hl (f _ hm) r).2.2
 unfold iv jM kZ;by_cases g:k<m
 ·exact⟨_,abu.2<|.inl<|abQ.2 ⟨k,abO.2 g,adC _<|ad5 ..⟩,W,W,W⟩
 obtain⟨j,a,e,y⟩:=CT us (t:=k-m) (aax _) E;refine⟨⟨-1,((m+eR us j:Nat):Int),40⟩,abu.2<|.inr<|abQ.2 ⟨j,abO.2 a,?_⟩,W,?_,W⟩
 ·rw[au a];unfold ry;rw[if_neg<|by rw[e];decide,if_neg<|by rw[e];decide,if_pos e];exact adC _<|ad5 ..
 dsimp only;omega
end Go.Ai.Pg
namespace Go.Ai.Pg
open Go.Proofs Go.Ai Go.Ai.eE
def mr(p:gV):Nat:=p.n.toNat+eR p.aa p.aa.length
noncomputable def fU(p:gV)(rs:List fD)(b:fE):List iV:=iv p.n.toNat p.aa rs b
def GU{p:gV}(h:rA p){rs:List fD}(hl:rs.length<2^40){b:fE}(v:YU p rs b):CW (fU p rs b) (mr p)/\(fU p rs b).length<2^20/\mr p<2^10:=by
 have hn:p.n=(p.n.toNat:Int):=by have:=v.n1;omega
 have:=v.n;have hu:=v.aa;have hc:=qQ p.aa p.aa.length;have a:(iv p.n.toNat p.aa rs b).length<=200+24*p.aa.length:=UI E (λu hu=>by rw[<-hn];exact v.val u hu) rs b;exact⟨YG v.val v.rg hl (λu hu=>(h.unit u hu).ah) v.bn hn,by unfold fU;omega,by unfold mr;omega⟩
def UK(l:List Int)(a:l≠[])(hl:l.length<2^40):aM Tryz.prog 63 [.ints .i64 false l] (.ints .i64 true l):=by
 cases l with
 |nil=>exact absurd W a
 |cons x l=>refine bS Tryz.func63 W<|r1 W (by simp only[abl]at hl;simp[ag,len];omega) ?_;exact bF W
def Bi(p:gV)(h:rA p)(rs:List fD)(a:∀s∈rs,ct s.lo/\ct s.hi)(hl:rs.length<2^40)(b:fE)(he:gm p rs b≠0):
 aM Tryz.prog 62 [bh p,.bA false 2 default dX rs,dz b] (.bW [.c<|.pointer none,.nil,.nil,.i<|gm p rs b]):=by
 refine bS Tryz.func62 W<|bP W W (QH p h rs a hl b he) W<|bQ W W (λ_=>?_) λg=>absurd he g;refine bN W W
def Bh(p:gV)(h:rA p)(rs:List fD)(j:∀s∈rs,ct s.lo/\ct s.hi)(hl:rs.length<2^40)(b:fE)(he:gm p rs b=0):
 aM Tryz.prog 62 [bh p,.bA false 2 default dX rs,dz b] (.bW [.box false<|CA p rs b (lF rs b)<|lS rs b p.aa,if(cq (fU p rs b)<|mr p).l= -1 then .ints .i64 true (cq (fU p rs b)<|mr p).v else .nil,if(cq (fU p rs b)<|mr p).l= -1 then .nil else .ints .i64 true (mA (fU p rs b)<|mr p),.i 0]):=by
 have v:=nm he;have hn:p.n=(p.n.toNat:Int):=by have:=v.n1;omega
 obtain⟨f,e,d⟩:=GU h hl v;have a:=TF (fU p rs b) (mr p) f e d;have c:=qP p h p.n.toNat hn (by have:=v.n;omega) v.aa v.val rs b v.rg v.bn;rw[show iv p.n.toNat p.aa rs b=fU p rs b from W,show p.n.toNat+eR p.aa p.aa.length=mr p from W]at c;have c:aM Tryz.prog 72 [.box false<|CA p rs b (lF rs b)<|lS rs b p.aa] (.bW [.bA false 3 default iU<|fU p rs b,.i (mr p:Nat)]):=c.shr.same W W;generalize fU p rs b=k at*;refine bS Tryz.func62 W<|bP W W (F9 p h rs j hl b he) W<|bQ W W (λg=>absurd W g) λ_=>?_;refine bP W W c W<|r0 W ?_;unfold TG at a;by_cases g:(cq k<|mr p).l= -1
 ·rw[if_pos g]at a;rw[if_pos g,if_pos g];refine bG W a W<|bN W W
 rw[if_neg g]at a;rw[if_neg g,if_neg g];refine bG W a W<|bN W W
noncomputable def PB(rs:List fD)(b:fE)(xs:List Int)(u:bT)(t:Int):List Int:=if u.kind=bq then[tM rs b u 0,xs.getD u.out.toNat 0-tM rs b u 0+b.c]else if u.kind=dy then[t]else List.replicate u.ah.length (xs.getD u.out.toNat 0)
noncomputable def nc(p:gV)(rs:List fD)(b:fE)(v:List Int)(i:Nat):List (List Int):=(List.range i).map λj=>PB rs b ((v.drop 1).take p.n.toNat) (p.aa.getD j default)<|v.getD (p.n.toNat+1+eR p.aa j) 0
def tS(o:Bool)(xs:List Int)(is:List (List Int)):SV:=.agg [.ints .i64 o xs,.bA o 1 [] (SV.ints .i64 o) is]
def Sh(p:gV)(h:rA p)(rs:List fD)(a:∀s∈rs,ct s.lo/\ct s.hi)(hl:rs.length<2^40)(b:fE)(he:gm p rs b≠0):
 aM Tryz.prog 15 [bh p,.bA false 2 default dX rs,dz b] (.bW [.agg [.nil,.nil],.i<|gm p rs b]):=by
 refine bS Tryz.func15 W<|bP W W (Bi p h rs a hl b he) W<|bQ W W (λ_=>?_) λg=>absurd he g;refine bN W W
def U1(p:gV)(h:rA p)(rs:List fD)(c:∀s∈rs,ct s.lo/\ct s.hi)(hl:rs.length<2^40)(b:fE)(he:gm p rs b=0)(a:(cq (fU p rs b)<|mr p).l≠ -1):
 aM Tryz.prog 15 [bh p,.bA false 2 default dX rs,dz b] (.bW [.agg [.nil,.nil],.i 24]):=by
 have hs:=Bh p h rs c hl b he;rw[if_neg a,if_neg a]at hs;obtain⟨x,l,d⟩:∃x l,mA (fU p rs b) (mr p)=x::l:=by
  cases e:mA (fU p rs b) (mr p)with
  |nil=>unfold mA pP at e;simp at e
  |cons x l=>exact⟨x,l,W⟩
 rw[d]at hs;refine bS Tryz.func15 W<|bP W W hs W<|bQ W W (λg=>absurd W g) λ_=>?_;refine r1 W aY<|bF W
noncomputable def Si(p:gV)(rs:List fD)(b:fE)(V X:List Int)(j:Nat):List (Nat×SV):=
 [(3,.box true<|bh p),(5,.box true<|dz b),(6,.box true<|.agg [.nil,.nil]),(8,.box false<|CA p rs b (lF rs b)<|lS rs b p.aa),(9,.ints .i64 false V),(12,.box true<|tS true X<|nc p rs b V j),(13,.i<|p.n+1+eR p.aa j),
  (45,.bA false 5 default dQ p.aa),(46,.i p.aa.length),(47,.i j)]
def EM(p:gV)(rs:List fD)(b:fE)(V:List Int){j:Nat}(h:j<p.aa.length):nc p rs b V (j+1)=nc p rs b V j++[PB rs b ((V.drop 1).take p.n.toNat) p.aa[j]<|V.getD (p.n.toNat+1+eR p.aa j) 0]:=by unfold nc;rw[ade,abv,List.map_singleton,au h]
def Xs(p:gV)(h:rA p)(rs:List fD)(Z:∀s∈rs,ct s.lo/\ct s.hi)(hl:rs.length<2^40)(b:fE)(he:gm p rs b=0)(A:(cq (fU p rs b)<|mr p).l= -1):
 aM Tryz.prog 15 [bh p,.bA false 2 default dX rs,dz b] (.bW [tS false (((cq (fU p rs b)<|mr p).v.drop 1).take p.n.toNat)<|nc p rs b (cq (fU p rs b)<|mr p).v p.aa.length,.i 0]):=by
 have hs:=Bh p h rs Z hl b he;have v:=nm he;obtain⟨z,w2,w3⟩:=GU h hl v;rw[if_pos A,if_pos A]at hs;have hV:(cq (fU p rs b)<|mr p).v.length=mr p+1:=(vE z).v;have E1:=v.n1;have hn:=v.n;have K:=v.aa;have B0:p.n.toNat<=mr p:=Nat.le_add_right _ _;have D:∀k,k<=mr p-> -40<=(cq (fU p rs b)<|mr p).v.getD k 0/\(cq (fU p rs b)<|mr p).v.getD k 0<=40:=λk B=>Kt z (sW z A) B;generalize (cq (fU p rs b)<|mr p).v=V at*;obtain⟨X,x⟩:∃X,X=(V.drop 1).take p.n.toNat:=⟨_,W⟩;have J:X.length=p.n.toNat:=by rw[x,abw,acx];omega
 rw[<-x];refine bS Tryz.func15 W<|bP W W hs W<|bQ W W (λg=>absurd W g) λ_=>?_;refine Qr 1 W U<|oN (r:=9) (p:=[]) W W U<|r1 W ba ?_;rw[show(p.n+1).toNat-Int.toNat 1=p.n.toNat by rw[show Int.toNat 1=1 from W];omega,show Int.toNat 1=1 from W,<-x];refine bG W (UK X (λe=>by rw[e]at J;simp at J;omega) E) W ?_;refine r1 W ba ?_;have Y:Ah (.box true<|.agg [.ints .i64 true X,.nil]) (.box true<|tS true X<|nc p rs b V 0):=.box<|.agg<|.cons (.refl _)<|.cons (.le<|show ar .nil (.bA true 1 [] (SV.ints .i64 true) [])from W) .nil;refine EI (Si p rs b V X 0) ⟨⟨W,W,.refl _⟩,⟨W,W,.refl _⟩,⟨W,W,.refl _⟩,⟨W,W,.refl _⟩,⟨W,W,.refl _⟩,⟨W,W,Y⟩,⟨W,W,.le<|ar.of_eq<|congrArg SV.i<|by simp[eR]⟩,⟨W,W,.refl _⟩,⟨W,W,.refl _⟩,⟨W,W,.refl _⟩,U⟩<|loop (Si p rs b V X) (λj=>j<=p.aa.length) (λj=>p.aa.length-j) 0 (aaM _) ⟨G,G,G,G,G,G,G,G,G,G,U⟩ ?_;intro j hj;unfold Si;refine bQ W W ?_ ?_<;>intro g2
 ·have a:j<p.aa.length:=E;have y:(j:Int).toNat=j:=E;have t:p.aa[j]∈p.aa:=aaY a;have Q:p.aa.getD j default=p.aa[j]:=au a;have hu:=v.val _ t;have w:=(h.unit _ t).ah;have o:=kp a;have N:=tx p.aa (i:=j+1) (j:=p.aa.length) a;have O:=qQ p.aa p.aa.length;have c:=EM p rs b V a;have d:(lS rs b p.aa).getD j []=ky rs b p.aa[j]:=by unfold lS;rw[au<|by simpa using a];simp
  have E2:(lS rs b p.aa).length=p.aa.length:=by simp[lS]
  rw[<-x]at c;have L:=hu.out;generalize A0:p.aa[j]=u at*;refine Qr 3 W U<|cx 4 [(3,.box true<|bh p),(5,.box true<|dz b),(6,.box true<|.agg [.nil,.nil]),(8,.box false<|CA p rs b (lF rs b)<|lS rs b p.aa),(9,.ints .i64 false V),(12,.box true<|tS true X<|nc p rs b V j),(13,.i<|p.n+1+eR p.aa (j+1)),
   (45,.bA false 5 default dQ p.aa),(46,.i p.aa.length),(47,.i j),(17,.ints .i64 true<|PB rs b X u<|V.getD (p.n.toNat+1+eR p.aa j) 0)] True ?_ λ_=>?_
  ·have eo:(u.out:Int).toNat<X.length:=E;have F1: -40<=X.getD u.out.toNat 0/\X.getD u.out.toNat 0<=40:=by
    rw[x,abg,acQ E,acS,<-abg];exact D _ E
   have C:∀k,k<u.ah.length-> -40000<=tM rs b u k/\tM rs b u k<=40:=λk B=>(jo rs b u k hu B v.rg hl w v.bn).2;have F:1<=u.ah.length/\u.ah.length<=8:=by
    rcases hu.kind with e|e|e
    ·have:=(hu.int e).1;omega
    ·have:=hu.add e;omega
    have:=(hu.table e).1;omega
   have F0:=v.bn.c;have M:mr p=p.n.toNat+eR p.aa p.aa.length:=W;refine r1 W (by simp only[ag,and_true,y,Q]<;>omega) ?_;rw[y,Q];refine bG W (po _ _ F.1 E) W<|bQ W W ?_ ?_<;>intro m
   ·have m:u.kind=bq:=m;have P:=(hu.int m).1;have i0:=C 0 E;have il:(ky rs b u).length=2:=by rw[IN];exact P
    have q:(ky rs b u).getD 0 0=tM rs b u 0:=sv _ _ _ E;have H:Int.toNat 0=0:=W;have S:Int.toNat 1=1:=W;rw[show List.replicate u.ah.length (X.getD u.out.toNat 0)=[X.getD u.out.toNat 0,X.getD u.out.toNat 0] by rw[P];rfl];refine k1 W aW (by simp only[ag,and_true,y,d,H,S,List.set_cons_zero,aeM,q,abl,abo]<;>omega) ?_;refine aN U ⟨G,G,G,G,G,G,⟨W,bR ?_⟩,G,G,G,⟨W,ar.of_eq<|congrArg (SV.ints .i64 true) ?_⟩,U⟩
    ·rw[o,if_neg<|by rw[m];decide];rfl
    unfold PB;rw[if_pos m,y,d,H,q];rfl
   refine bQ W W ?_ ?_<;>intro f
   ·have f:u.kind=dy:=f;rw[if_pos f]at o;have R:(p.n+1+(eR p.aa j:Int)).toNat=p.n.toNat+1+eR p.aa j:=E;have f1:=(hu.table f).1;rw[show List.replicate u.ah.length (X.getD u.out.toNat 0)=[X.getD u.out.toNat 0] by rw[f1];rfl];refine r1 W (by simp only[ag,and_true,R,abl,abo]<;>omega) ?_;refine aN U ⟨G,G,G,G,G,G,⟨W,bR ?_⟩,G,G,G,⟨W,ar.of_eq<|congrArg (SV.ints .i64 true) ?_⟩,U⟩
    ·omega
    unfold PB;rw[if_neg<|by rw[f];decide,if_pos f,R];rfl
   have m:¬u.kind=bq:=m;have f:¬u.kind=dy:=f;refine bL W U ⟨G,G,G,G,G,G,⟨W,bR ?_⟩,G,G,G,⟨W,ar.of_eq<|congrArg (SV.ints .i64 true) ?_⟩,U⟩
   ·rw[o,if_neg f];rfl
   unfold PB;rw[if_neg m,if_neg f]
  have T:(nc p rs b V j).length=j:=by simp[nc]
  refine r1 W (by simp[ag,len,T]<;>omega) ?_;refine vf (j+1) E E ⟨⟨W,W,.refl _⟩,⟨W,W,.refl _⟩,⟨W,W,.refl _⟩,⟨W,W,.refl _⟩,⟨W,W,.refl _⟩,⟨W,W,.box<|.agg<|.cons (.refl _)<|.cons (.row ?_) .nil⟩,⟨W,W,.refl _⟩,⟨W,W,.refl _⟩,⟨W,W,.refl _⟩,⟨W,W,.refl _⟩,U⟩;rw[c,cX,abv];exact o6.refl _
 have:j=p.aa.length:=E;subst this;refine k0 W aW<|bF W
end Go.Ai.Pg
namespace Go.Ai.Pg
open Go.Proofs Go.Ai
structure Tm(cs:List iV)(n T:Nat)(s:Rx)(τ:Nat->Nat):Prop where
 a:∀k,τ k<=T
 b:∀k,1<=τ k->k<=n/\∃i,i<cs.length/\ga s.b k=i/\nl (cs.getD i default)=k/\ga s.v (nt<|cs.getD i default)+(cs.getD i default).dH<=ga s.v k/\
  (τ k<τ (nt<|cs.getD i default)\/nt (cs.getD i default)=k->ga s.v (nt<|cs.getD i default)+(cs.getD i default).dH<ga s.v k)
 i:∀j k,1<=τ j->τ j=τ k->j=k
 l:s.l= -1\/∃k,s.l=(k:Nat)/\1<=τ k
 m:∀k≤n,0<=ga s.b k->1<=τ k
section
variable{cs:List iV}{n T:Nat}{s:Rx}{τ:Nat->Nat}
def Tm.step(h:Tm cs n T s τ)(hc:CW cs n)(q:pZ n s){j:Nat}(r:j<cs.length):∃o,Tm cs n (T+1) (gO s j<|cs.getD j default) o:=by
 obtain⟨J,H,B,F,-,-⟩:=hc.at<|iC (j:=j) r;obtain⟨l,d,hi,hl,hm⟩:=h;unfold gO;by_cases g:nH s (cs.getD j default)
 ·rw[if_pos g];have m:=λk=>kV (x:=s.v) (i:=nl<|cs.getD j default) (by have:=q.v;omega) (ga s.v (nt<|cs.getD j default)+(cs.getD j default).dH) k;have t:=λk=>kV (x:=s.b) (i:=nl<|cs.getD j default) (by have:=q.b;omega) (j:Int) k;obtain⟨g1,g2⟩:=g;refine⟨λk=>if k=nl (cs.getD j default)then T+1 else τ k,λk=>?_,λk f=>?_,λx y c b=>?_,.inr ⟨nl<|cs.getD j default,B.symm,by rw[if_pos W];omega⟩,λk f d=>?_⟩
  ·have:=l k;split<;>omega
  ·dsimp only at f⊢;rw[t,m];by_cases e:k=nl (cs.getD j default)
   ·rw[if_pos e,if_pos e,if_pos e];refine⟨E,j,r,W,e.symm,?_,λc=>?_⟩
    ·rw[m];split
     ·rename_i a;rw[<-a]at g2;omega
     omega
    rw[m];split
    ·rename_i a;rw[<-a]at g2;omega
    rename_i a;rw[if_neg a]at c;have:=l<|nt<|cs.getD j default;rcases c with c|c
    ·omega
    exact absurd (c.trans e) a
   rw[if_neg e]at f⊢;rw[if_neg e,if_neg e];obtain⟨A,i,z,w,v,p,u⟩:=d k f;refine⟨A,i,z,w,v,?_,?_⟩
   ·rw[m];split
    ·rename_i a;rw[a]at p;omega
    exact p
   rw[m];split
   ·rename_i a;rw[a]at p;intro _;omega
   exact u
  ·have D:=l x;have C:=l y;split at c
   ·rename_i e;rw[if_pos e]at b;split at b
    ·rename_i a;rw[e,a]
    omega
   rename_i e;rw[if_neg e]at b;split at b
   ·omega
   exact hi x y c b
  dsimp only at d⊢;rw[t]at d;split
  ·omega
  rename_i e;rw[if_neg e]at d;exact hm k f d
 rw[if_neg g];exact⟨τ,λk=>by have:=l k;omega,d,hi,hl,hm⟩
def Tm.to(hc:CW cs n)(b:pZ n s)(h:Tm cs n T s τ):∀j≤cs.length,∃a,Tm cs n (T+j) (iT cs s j) a
 |0,_=>⟨τ,h⟩
 |j+1,d=>by obtain⟨a,c⟩:=Tm.to hc b h j E;exact c.step hc (b.to hc j E).1 E
def Tm.run(hc:CW cs n):∀(k:Nat){T:Nat}{s:Rx}{τ:Nat->Nat},pZ n s->Tm cs n T s τ->∃T' a,Tm cs n T' (js cs k s) a
 |0,T,s,τ,_,h=>⟨T,τ,h⟩
 |k+1,T,s,τ,b,h=>by
  obtain⟨a,c⟩:=Tm.to (s:={s with l:= -1}) hc ⟨b.v,b.b,b.z,b.f⟩ ⟨h.a,h.b,h.i,.inl W,h.m⟩ _<|aax _;unfold js;split
  ·exact⟨_,a,c⟩
  exact Tm.run hc k (b.round hc).1 c
def Qk(hc:CW cs n):∃T τ,Tm cs n T (cq cs n) τ:=
 Tm.run (T:=0) (τ:=λ_=>0) hc (n+2) (zb n) ⟨λ_=>aax _,λk b=>absurd b E,λj k c=>absurd c E,.inl W,λk b a=>by unfold Py ga at a;rw[au<|by simp;omega]at a;simp at a⟩
def Aa(cs:List iV)(b:List Int)(k:Nat):Nat->Int
 |0=>0
 |m+1=>Aa cs b k m+(xp cs b<|b7 cs b k m).dH
def Sc(h:Tm cs n T s τ){k:Nat}(a:∀m,1<=τ (b7 cs s.b k m)):∀m,ga s.v (b7 cs s.b k m)+Aa cs s.b k m<=ga s.v k/\(ga s.v (b7 cs s.b k m)+Aa cs s.b k m<ga s.v k\/m<=τ k-τ (b7 cs s.b k m)/\τ (b7 cs s.b k m)<=τ k)
 |0=>⟨by show ga s.v k+0<=_;omega,.inr ⟨aaM _,aax _⟩⟩
 |m+1=>by
  obtain⟨p,o⟩:=Sc h a m;obtain⟨-,i,t,l,r,q,j⟩:=h.b _<|a m;have hn:=a<|m+1;have e:b7 cs s.b k (m+1)=nt (xp cs s.b<|b7 cs s.b k m):=W;have c:xp cs s.b (b7 cs s.b k m)=cs.getD i default:=by unfold xp;rw[l,abZ]
  have f:Aa cs s.b k (m+1)=Aa cs s.b k m+(cs.getD i default).dH:=by show _+(xp cs s.b<|b7 cs s.b k m).dH=_;rw[c]
  rw[c]at e;rw[f,e];rw[e]at hn;refine⟨E,?_⟩;by_cases g:τ (b7 cs s.b k m)<τ (nt<|cs.getD i default)\/nt (cs.getD i default)=b7 cs s.b k m
  ·have:=j g;omega
  have d:τ (nt<|cs.getD i default)≠τ (b7 cs s.b k m):=λe=>g<|.inr<|h.i _ _ hn e;omega
def N1(h:Tm cs n T s τ){k p:Nat}(a:∀m,1<=τ (b7 cs s.b k m))(c:1<=p)(he:b7 cs s.b k p=k):Aa cs s.b k p<0:=by have:=Sc h a p;rw[he]at this;omega
end
def JK(cs:List iV)(b:List Int)(stop:Nat):∀(f a:Nat),(∃p,1<=p/\p<=f/\b7 cs b a p=stop)->∃q,1<=q/\q<=f/\b7 cs b a q=stop/\pP cs b stop f a=(List.range q).map λm=>ga b (b7 cs b a m)
 |0,_,⟨p,j,i,_⟩=>E
 |f+1,a,⟨p,j,i,c⟩=>by
  unfold pP;by_cases e:nt (xp cs b a)=stop
  ·rw[if_pos e];exact⟨1,aax _,E,e,W⟩
  rw[if_neg e];have n:p≠1:=λh=>e (by rw[h]at c;exact c);obtain⟨q,l,k,d,g⟩:=JK cs b stop f (nt<|xp cs b a) ⟨p-1,E,E,by rw[sX,show p-1+1=p from E];exact c⟩;rw[sX]at d;refine⟨q+1,E,E,d,?_⟩;rw[g,List.range_succ_eq_map,abI,ac9];simp only[aeX,sX];rfl
def Tg(l:List Int):l.reverse.sum=l.sum:=by
 induction l with
 |nil=>rfl
 |cons x l a=>simp only[List.reverse_cons,aeO,adl,aeP,a];omega
def JV(cs:List iV)(b:List Int)(k:Nat):∀q,w8 cs ((List.range q).map λm=>ga b<|b7 cs b k m)=Aa cs b k q
 |0=>rfl
 |q+1=>by have:=JV cs b k q;unfold w8 at*;rw[ade,abv,abv,aeO,this];simp only[abI,acA,adl,aeP,Int.add_zero];rfl
def Fe{cs:List iV}{b:List Int}{k:Nat}(hl:∀m,(DM cs<|ga b<|b7 cs b k m).less=(b7 cs b k m:Int)-1/\(DM cs<|ga b<|b7 cs b k m).qf=(b7 cs b k (m+1):Int)-1):
 ∀(q:Nat)(p:Int),(DM cs p).less=(b7 cs b k q:Int)-1->JS cs p ((List.range q).map λm=>ga b<|b7 cs b k m).reverse
 |0,_,_=>trivial
 |q+1,p,a=>by rw[ade,abv,List.reverse_append];exact⟨(hl q).2.trans a.symm,Fe hl q _ (hl q).1⟩
def UO{cs:List iV}{n:Nat}(hc:CW cs n)(hn:n<=200)(hl:(cq cs n).l≠ -1):Nn cs (mA cs n)=0/\mA cs n≠[]:=by
 obtain⟨k,N,A,p,K,J,L⟩:=Fm hc hl;obtain⟨T,D,B⟩:=Qk hc;have M:∀m,1<=D (b7 cs (cq cs n).b k m):=λm=>by obtain⟨w,i,-,s,-⟩:=A m;exact B.m _ w E
 unfold mA;rw[N,abZ];generalize v:(cq cs n).b=b at*;have r:∀m,∃i,i<cs.length/\ga b (b7 cs b k m)=(i:Int)/\(DM cs<|ga b<|b7 cs b k m).less=(b7 cs b k m:Int)-1/\(DM cs<|ga b<|b7 cs b k m).qf=(b7 cs b k (m+1):Int)-1:=λm=>by
  obtain⟨w,i,t,s,Q⟩:=A m;obtain⟨X,V,S,R,-,-⟩:=hc.at<|iC (j:=i) t;have e:DM cs (ga b<|b7 cs b k m)=cs.getD i default:=by unfold DM;rw[s,abZ]
  have O:b7 cs b k (m+1)=nt (cs.getD i default):=by show nt (xp cs b _)=_;unfold xp;rw[s,abZ]
  rw[O,e];exact⟨i,t,s,E,E⟩
 obtain⟨q,H,P,y,F⟩:=JK cs b (b7 cs b k<|n+1) (n+1) (b7 cs b k<|n+1) ⟨p,K,J,by rw[rO];exact L⟩;rw[F];have g:∀m,b7 cs b (b7 cs b k<|n+1) m=b7 cs b k (n+1+m):=rO cs b k<|n+1;generalize hs:b7 cs b k (n+1)=d at*;have a:∀m,∃i,i<cs.length/\ga b (b7 cs b d m)=(i:Int)/\(DM cs<|ga b<|b7 cs b d m).less=(b7 cs b d m:Int)-1/\(DM cs<|ga b<|b7 cs b d m).qf=(b7 cs b d (m+1):Int)-1:=λm=>by rw[g,g];exact r<|n+1+m
 have C:Aa cs b d q<0:=by have:=N1 (k:=d) (p:=q) B (λm=>by rw[v,g];exact M _) H (by rw[v];exact y);rwa[v]at this
 have c:(((List.range q).map λm=>ga b<|b7 cs b d m).reverse).length=q:=I;have u:((List.range q).map λm=>ga b<|b7 cs b d m).reverse≠[]:=λe=>by rw[e]at c;simp at c;omega
 have o:(((List.range q).map λm=>ga b<|b7 cs b d m).reverse).getD (q-1) 0=ga b d:=by rw[au<|by rw[c];omega,List.getElem_reverse,afe,List.getElem_range];simp only[abt,aeR];rw[show q-1-(q-1)=0 from E];rfl
 refine⟨?_,u⟩;unfold Nn;rw[c,if_neg E,if_neg E,if_neg ?_,if_neg<|not_not_intro ?_,if_neg ?_]
 ·unfold w8;rw[List.map_reverse,Tg];have:=JV cs b d q;unfold w8 at this;rw[this];omega
 ·rw[o];refine Fe (λm=>by obtain⟨i,-,-,h⟩:=a m;exact h) q _ ?_;rw[y];obtain⟨i,-,-,h,-⟩:=a 0;exact h
 rintro⟨x,z,f⟩;rw[List.mem_reverse,abr]at z;obtain⟨m,-,rfl⟩:=z;obtain⟨i,w,t,-⟩:=a m;unfold J0 at f;simp only[decide_eq_true_eq]at f;rw[t]at f;omega
def Y8(cs:List iV)(n:Nat):SV:=if(cq cs n).l= -1 then .bW [.ints .i64 true (cq cs n).v.tail,.b true]else .bW [.nil,.b false]
def AT(V:List Int)(i:Nat):V.tail.getD i 0=ga V (i+1):=by cases V<;>simp[ga]
def PR(V:List Int)(i:Nat)(a:Int):V.tail.set i a=(V.set (i+1) a).tail:=by cases V<;>rfl
def W0(n:Nat):Rx:=⟨0::List.replicate n 40,List.replicate (n+1)<|-1,-1⟩
section
variable{cs:List iV}{n:Nat}{s:Rx}{y z:Nat->Int}
def Gw{k:Nat}(a:k<=n):ga (W0 n).v k=if k=0 then 0 else 40:=by
 cases k with
 |zero=>rfl
 |succ k=>show(List.replicate n (40:Int)).getD k 0=_;rw[au<|by simp;omega];simp
def Rt(n:Nat):pZ n (W0 n):=by refine⟨by simp[W0],by simp[W0],abM _,λk a=>?_⟩;rw[Gw a];split<;>decide
def Ru(hc:CW cs n)(a:Dj cs y):Lo n y (W0 n):=λk b=>by
 rw[Gw b];split
 ·rename_i e;rw[e,a.1];decide
 exact(Kt hc a b).2
def Ye(n:Nat)(z:Nat->Int)(s:Rx):Nf n z s<=n+1:=by
 have:∀(m:Nat),((List.range m).map λk=>if ga s.v k=z k then 0 else 1).sum<=m:=by
  intro m
  induction m with
  |zero=>simp
  |succ m a=>rw[ade,abv,aeO];simp only[abI,acA,adl,aeP];split<;>omega
 exact this<|n+1
def WZ(hc:CW cs n)(e:pZ n s)(h:∀c∈cs,¬nH s c)(d:∀y,Dj cs y->Lo n y s):(cq cs n).l= -1/\s.v=(cq cs n).v:=by have hs:=Mp hc e h d;obtain⟨f,o⟩:=NZ hc hs;have m:=d _<|sW hc f;have p:=(vE hc).v;have k:=e.v;refine⟨f,adM E λi a b=>?_⟩;have j:=o i E;have g:=m i E;unfold ga at j g;rw[au a,au b]at j g;omega
end
def Lf(cs:List iV)(n:Nat)(hc:CW cs n)(hl:cs.length<2^20)(hn:n<2^10):aM Tryz.prog 67 [.bA false 3 default iU cs,.i n] (Y8 cs n):=by
 have no:(∀y,¬Dj cs y)->Y8 cs n=.bW [.nil,.b false]:=λh=>if_neg λe=>h _<|sW hc e;refine bS Tryz.func67 W<|bM W (λi:Nat=>[(0,.bA false 3 default iU cs),(1,.i n),(6,.ints .i64 true<|List.replicate i 40),(7,.i i)]) (λi=>i<=n) (λi=>n-i) 0 (aaM _) ⟨G,G,G,G,U⟩ ?_;intro i hi;refine bQ W W ?_ ?_<;>intro g
 ·refine r1 W (by simp only[ag,and_true,acE,adj]<;>omega) ?_;exact again (i+1) E E ⟨G,G,⟨W,ar.of_eq<|congrArg (SV.ints .i64 true) afn.symm⟩,G,U⟩
 have ei:i=n:=E;subst ei;refine bM W (λz:Rx×Nat=>[(0,.bA false 3 default iU cs),(1,.i i),(6,.ints .i64 true z.1.v.tail),(8,.i z.2)])
  (λz=>z.2<=i+2/\pZ i z.1/\(∀y,Dj cs y->Lo i y z.1)/\ga z.1.v 0=0/\(∀k≤i,ga z.1.v k<=40)/\VX cs i (z.2*cs.length) z.1/\(∀y,Dj cs y->(js cs (i+2-z.2) z.1).l= -1)/\(z.2=0\/z.1.l≠ -1)) (λz=>i+2-z.2) (W0 i,0)
  ⟨aaM _,Rt i,λy b=>Ru hc b,W,λk d=>by rw[Gw d];split<;>decide,?_,λy b=>?_,.inl W⟩ ⟨G,G,G,G,U⟩ ?_
 ·have:=Rt i;refine⟨this.v,this.b,λk d=>⟨?_,this.f k d⟩⟩;rw[Gw d];split<;>omega
 ·obtain⟨z,hz⟩:=QR hc _ y b (aax _);exact Bn hc hz (i+2) (Rt i) (Ru hc hz.1)<|Nat.lt_succ_of_le<|Ye i z<|W0 i
 rintro⟨s,r⟩⟨hr,A,B,h0,C,P,f,O⟩;dsimp only at hr A B h0 C P f O⊢;refine r1 W ba<|bI W ?_ ?_<;>intro g2
 ·have J:pZ i {s with l:= -1}:=⟨A.v,A.b,A.z,A.f⟩;refine bM W (λj:Nat=>[(0,.bA false 3 default iU cs),(1,.i i),(6,.ints .i64 true (iT cs {s with l:= -1} j).v.tail),(8,.i r),(9,.u<|decide ((iT cs {s with l:= -1} j).l≠ -1)),(10,.i j)])
   (λj=>j<=cs.length/\VX cs i (r*cs.length+j) (iT cs {s with l:= -1} j)/\ga (iT cs {s with l:= -1} j).v 0=0) (λj=>cs.length-j) 0 ⟨aaM _,⟨P.v,P.b,P.f⟩,h0⟩
   ⟨G,G,G,G,⟨W,show false=decide (_≠_) by simp[iT]⟩,G,U⟩ ?_
  rintro j⟨hj,a,H⟩;refine bQ W W ?_ ?_<;>intro g3
  ·have T:j<cs.length:=E;have m:(j:Int).toNat=j:=E;obtain⟨c,t⟩:∃c,c=cs.getD j default:=⟨_,W⟩;have hm:=iC (cs:=cs) T;have K:=a.step hc j hm;have p:iT cs {s with l:= -1} (j+1)=gO (iT cs {s with l:= -1} j) j (cs.getD j default):=W;have N:∀y,Dj cs y->Lo i y (iT cs {s with l:= -1} j):=λy b=>Lo.to (s:={s with l:= -1}) (B y b) J hc b j hj;have hf:=λk d=>ack ((pZ.to J hc j hj).2 k d)<|C k d;rw[<-t]at K hm p;obtain⟨a1,Z,a3,a4,a5,a6⟩:=hc.at hm;have ai:=hc.i _ hm;have hM:r*cs.length<=1026*cs.length:=abB _ E;generalize r*cs.length=M at*;generalize iT cs {s with l:= -1} j=q at*;have b1:=a.f _ a1;have b2:=a.f _ Z;have hT:M+j<2^31:=E;have f2:=hf _ Z;have R:q.v.tail.length=i:=by rw[List.length_tail,a.v];omega
   have o:nH q c↔ga q.v (nt c)+c.dH<ga q.v (nl c):=⟨λh=>h.2,λh=>⟨E,h⟩⟩;refine Qr 3 W U<|cx 2 [(0,.bA false 3 default iU cs),(1,.i i),(6,.ints .i64 true q.v.tail),(8,.i r),(9,.u<|decide (q.l≠ -1)),(10,.i j),(11,.i<|ga q.v (nt c)+c.dH)] True ?_ λ_=>?_
   ·refine r1 W (by simp only[ag,and_true,m]<;>omega) ?_;rw[m,<-t];refine bI W ?_ ?_<;>intro u
    ·have v:c.qf.toNat+1=nt c:=E;have F:=AT q.v c.qf.toNat;rw[v]at F;refine r1 W (by simp only[ag,and_true,m,<-t,R,F]<;>omega) ?_;rw[m,<-t,F];exact aN U ⟨G,G,G,G,G,G,⟨W,ar.of_eq<|congrArg SV.i E⟩,U⟩
    have v:nt c=0:=E;refine bL W U ⟨G,G,G,G,G,G,⟨W,ar.of_eq<|congrArg SV.i<|by rw[v];omega⟩,U⟩
   have Ar:¬nH q c->iT cs {s with l:= -1} (j+1)=q:=λh=>p.trans<|if_neg h;refine r1 W (by simp only[ag,and_true,m]<;>omega) ?_;rw[m,<-t];refine bI W ?_ ?_<;>intro u
   ·have v:nl c=0:=E;rw[v,H]at o;refine bQ W W ?_ ?_<;>intro D
    ·rw[no λy b=>?_]
     ·refine bN W W
     have Q:=b.2 c hm;have V:=N y b _ Z;rw[v,b.1]at Q;omega
    have:=Ar λh=>D<|o.1 h;refine r1 W ba<|again (j+1) E ⟨E,by rw[this];exact⟨a.v,a.b,λk d=>by have:=a.f k d;omega⟩,by rw[this];exact H⟩ ⟨G,G,⟨W,by rw[this];exact ar.refl _⟩,G,⟨W,by rw[this];exact ar.refl _⟩,G,U⟩
   have v:c.less.toNat+1=nl c:=E;have F:=AT q.v c.less.toNat;rw[v]at F;refine r1 W (by simp only[ag,and_true,m,<-t,R]<;>omega) ?_;rw[m,<-t,F];refine bI W ?_ ?_<;>intro D
   ·have S:=p.trans (if_pos<|o.2 D);have hg:=kV (x:=q.v) (i:=nl c) (by have:=a.v;omega) (ga q.v (nt c)+c.dH) 0;refine k1 W aW (by simp only[ag,and_true,m,<-t,R]<;>omega) ?_;rw[m,<-t,PR,v];refine again (j+1) E ⟨E,by rw[p];exact K,?_⟩ ⟨G,G,⟨W,by rw[S];exact ar.refl _⟩,G,⟨W,show true=decide _ by rw[S];symm;exact decide_eq_true<|by dsimp only;omega⟩,G,U⟩;rw[S];dsimp only;rw[hg,if_neg E];exact H
   have:=Ar λh=>D<|o.1 h;refine r1 W ba<|again (j+1) E ⟨E,by rw[this];exact⟨a.v,a.b,λk d=>by have:=a.f k d;omega⟩,by rw[this];exact H⟩ ⟨G,G,⟨W,by rw[this];exact ar.refl _⟩,G,⟨W,by rw[this];exact ar.refl _⟩,G,U⟩
  have Y:j=cs.length:=E;subst Y;have w:=A.round hc;have L:∀y,Dj cs y->Lo i y (dY cs s):=λy b=>(B y b).round A hc b;refine r0 W<|ni W W W ?_ ?_<;>intro X
  ·have e:(dY cs s).l= -1:=by simpa[dY]using X
   obtain⟨q1,q2⟩:=WZ hc w.1 (Bp hc e) L;rw[show Y8 cs i=_ from if_pos q1,<-q2];refine bN W W
  have e:(dY cs s).l≠ -1:=by simpa[dY]using X
  refine r1 W ba<|again (dY cs s,r+1) (by dsimp only;omega) ⟨by dsimp only;omega,w.1,L,H,λk d=>ack (w.2 k d)<|C k d,by dsimp only;rw[aby,aem];exact a,λy b=>?_,.inr e⟩ ⟨G,G,G,G,U⟩;have:=f y b;rw[show i+2-r=i+1-r+1 from E]at this;unfold js at this;rw[if_neg e]at this;dsimp only;rw[show i+2-(r+1)=i+1-r from E];exact this
 rw[no λy b=>?_]
 ·refine bN W W
 have Q:=f y b;rw[show i+2-r=0 from E]at Q;rcases O with V|V
 ·omega
 exact V Q
end Go.Ai.Pg
namespace Go.Ai.Pg
open Go.Proofs Go.Ai Go.Ai.eE
def Kv(sh:List Int)(is:List (List Int)):Bool:=is.all (λl=>decide (l.length<=12))&&decide (sh.length<=110/\is.length<=110)
def Zx(p:gV)(sh:List Int)(is:List (List Int)):Prop:=(sh.length:Int)=p.n/\is.length=p.aa.length/\∀i<p.aa.length,(is.getD i []).length=(p.aa.getD i default).ah.length
instance(p:gV)(sh:List Int)(is:List (List Int)):Decidable (Zx p sh is):=inferInstanceAs<|Decidable<|_/\_
def cfU(b:fE)(sh:List Int)(u:bT)(l:List Int):Bool:=if u.kind=jz then l.any λk=>decide (k≠sh.getD u.out.toNat 0)else if u.kind=bq then decide (l.getD 0 0+l.getD 1 0-b.c≠sh.getD u.out.toNat 0)else false
def YF(p:gV)(sh:List Int)(is:List (List Int))(b:fE):Prop:=∃j<p.aa.length,cfU b sh (p.aa.getD j default) (is.getD j [])=true
instance(p:gV)(sh:List Int)(is:List (List Int))(b:fE):Decidable (YF p sh is b):=inferInstanceAs<|Decidable<|∃j,j<p.aa.length/\_
end Go.Ai.Pg
namespace Go.Ai.Pg
open Go.Proofs Go.Ai
def V5{V:List Int}{m:Nat}(a:m+1<=V.length){s:Nat}(hs:s<m):((V.drop 1).take m).getD s 0=ga V (s+1):=by unfold ga;rw[abg,acQ hs,acS,<-abg,aey]
def LQ{p:gV}{rs:List fD}{b:fE}(v:YU p rs b){V:List Int}(c:p.n.toNat+1<=V.length):Kv ((V.drop 1).take p.n.toNat) (nc p rs b V p.aa.length)=true:=by
 have:=v.n;have:=v.aa;unfold Kv;rw[abi,abD,decide_eq_true_eq];refine⟨λl hl=>decide_eq_true ?_,by rw[abw];omega,by simp[nc];omega⟩;unfold nc at hl;rw[abr]at hl;obtain⟨j,a,rfl⟩:=hl;have hu:=v.val _<|bw (d:=default)<|abO.1 a;generalize p.aa.getD j default=u at*;unfold PB;split
 ·simp
 split
 ·simp
 rename_i g1 g2;have:=hu.add<|(hu.kind.resolve_left g1).resolve_right g2;rw[acE];omega
end Go.Ai.Pg
namespace Go.Ai.Pg
open Go.Proofs Go.Ai Go.Ai.eE
def TZ(p:gV)(h:rA p)(g:1<=p.n)(f:p.n<=100):aM Tryz.prog 68 [bh p] (.i (mr p:Nat)):=by
 have c:=h.aa;refine bS Tryz.func68 W<|bM W (λi:Nat=>[(1,.box true<|bh p),(3,.i<|p.n+eR p.aa i),(4,.i i)]) (λi=>i<=p.aa.length) (λi=>p.aa.length-i) 0 (aaM _) ⟨G,⟨W,ar.of_eq<|congrArg SV.i<|by simp[eR]⟩,G,U⟩ ?_;intro i hi;have d:=qQ p.aa i;refine bQ W W ?_ ?_<;>intro g1
 ·have a:i<p.aa.length:=E;have b:(i:Int).toNat=i:=E;have hs:=kp a;have e:p.aa.getD i default=p.aa[i]:=au a;refine qp W ?_;rw[b,e];refine bI W ?_ ?_<;>intro g2
  ·have g2:p.aa[i].kind=dy:=g2;rw[if_pos g2]at hs;refine qp W<|again (i+1) E E ⟨G,⟨W,ar.of_eq<|congrArg SV.i E⟩,G,U⟩
  have g2:¬p.aa[i].kind=dy:=g2;rw[if_neg g2]at hs;refine qp W<|again (i+1) E E ⟨G,⟨W,ar.of_eq<|congrArg SV.i E⟩,G,U⟩
 have b:i=p.aa.length:=E;subst b;refine bK W W<|ar.of_eq<|congrArg SV.i<|by unfold mr;omega
def W4(p:gV)(h:rA p)(rs:List fD)(hl:rs.length<2^40)(b:fE)(v:YU p rs b)(V:List Int)(Y:V.length=mr p+1)(w:∀k,k<=mr p-> -40<=ga V k/\ga V k<=40):
 aM Tryz.prog 69 [bh p,.bA false 2 default dX rs,dz b,.ints .i64 false V.tail] (tS false ((V.drop 1).take p.n.toNat)<|nc p rs b V p.aa.length):=by
 have L:=h.aa;have M:=v.n1;have hn:=v.n;have x:=v.aa;have O:=v.bn.c;have A:mr p=p.n.toNat+eR p.aa p.aa.length:=W;have r:V.tail.length=mr p:=by rw[List.length_tail];omega
 have d:=λ(k:Nat)(B:k<p.n.toNat)=>V5 (V:=V) (m:=p.n.toNat) E B;refine bS Tryz.func69 W<|r1 W (by simp[ag,and_true,len]<;>omega) ?_;have J:V.tail.take p.n.toNat=(V.drop 1).take p.n.toNat:=by rw[List.drop_one]
 have K:∀j,(nc p rs b V j).length=j:=λj=>by simp[nc]
 obtain⟨X,D⟩:∃X,X=(V.drop 1).take p.n.toNat:=⟨_,W⟩;rw[<-D]at J d⊢;have s:Ah (.box true<|.agg [.ints .i64 true<|V.tail.take p.n.toNat,.nil]) (.box true<|tS true X<|nc p rs b V 0):=.box<|.agg<|.cons (.le<|ar.of_eq<|congrArg (SV.ints .i64 true) J)<|.cons (.le<|show ar .nil (.bA true 1 [] (SV.ints .i64 true) [])from W) .nil;refine EI [(1,.bA false 2 default dX rs),(3,.ints .i64 false V.tail),(4,.box true<|bh p),(6,.box true<|dz b),(8,.box true<|.agg [.nil,.nil]),(9,.box true<|tS true X<|nc p rs b V 0),(10,.i<|p.n+eR p.aa 0),(11,.i 0)]
  ⟨⟨W,W,.refl _⟩,⟨W,W,.refl _⟩,⟨W,W,.refl _⟩,⟨W,W,.refl _⟩,⟨W,W,.refl _⟩,⟨W,W,s⟩,⟨W,W,.le<|ar.of_eq<|congrArg SV.i<|by simp[eR]⟩,⟨W,W,.refl _⟩,U⟩<|loop (λj:Nat=>[(1,.bA false 2 default dX rs),(3,.ints .i64 false V.tail),(4,.box true<|bh p),(6,.box true<|dz b),(8,.box true<|.agg [.nil,.nil]),(9,.box true<|tS true X<|nc p rs b V j),(10,.i<|p.n+eR p.aa j),(11,.i j)]) (λj=>j<=p.aa.length) (λj=>p.aa.length-j) 0 (aaM _)
  ⟨G,G,G,G,G,G,G,G,U⟩ ?_
 intro j T;refine bQ W W ?_ ?_<;>intro g1
 ·have c:j<p.aa.length:=E;have H:(j:Int).toNat=j:=E;have o:p.aa[j]∈p.aa:=aaY c;have P:p.aa.getD j default=p.aa[j]:=au c;have hu:=v.val _ o;have q:=(h.unit _ o).ah;have g:=kp c;have C:=tx p.aa (i:=j+1) (j:=p.aa.length) c;have N:=qQ p.aa p.aa.length;have f:nc p rs b V (j+1)=nc p rs b V j++[PB rs b X p.aa[j]<|V.getD (p.n.toNat+1+eR p.aa j) 0]:=by
   have:=EM p rs b V c;rwa[<-D]at this
  have y:=hu.out;generalize p.aa[j]=u at*;have z:u.out.toNat<p.n.toNat:=E;have l:V.tail.getD u.out.toNat 0=X.getD u.out.toNat 0:=(AT V _).trans (d _ z).symm;have t:=w (u.out.toNat+1) E;rw[<-d _ z]at t;refine r1 W (by simp only[ag,and_true,H]<;>omega) ?_;rw[H,P];refine loop (λk:Nat=>[(1,.bA false 2 default dX rs),(3,.ints .i64 false V.tail),(4,.box true<|bh p),(6,.box true<|dz b),(8,.box true<|.agg [.nil,.nil]),(9,.box true<|tS true X<|nc p rs b V j),(10,.i<|p.n+eR p.aa j),(11,.i j),(12,.box true<|dQ u),(13,.ints .i64 true<|List.replicate k<|X.getD u.out.toNat 0),(14,.i k)]) (λk=>k<=u.ah.length) (λk=>u.ah.length-k) 0 (aaM _)
   ⟨G,G,G,G,G,G,G,G,G,G,G,U⟩ ?_
  intro k B;refine bQ W W ?_ ?_<;>intro g2
  ·refine r1 W (by simp only[ag,and_true,acE,adj,r]<;>omega) ?_;exact again (k+1) E E ⟨G,G,G,G,G,G,G,G,G,⟨W,ar.of_eq<|congrArg (SV.ints .i64 true)<|by rw[l];exact afn.symm⟩,G,U⟩
  have Q:k=u.ah.length:=E;subst Q;refine Qr 1 W U<|cx 2 [(1,.bA false 2 default dX rs),(3,.ints .i64 false V.tail),(4,.box true<|bh p),(6,.box true<|dz b),(8,.box true<|.agg [.nil,.nil]),(9,.box true<|tS true X<|nc p rs b V j),(10,.i<|p.n+eR p.aa (j+1)),(11,.i j),(13,.ints .i64 true<|PB rs b X u<|V.getD (p.n.toNat+1+eR p.aa j) 0)] True ?_ λ_=>?_
  ·refine bQ W W ?_ ?_<;>intro e
   ·have e:u.kind=bq:=e;have Z:=(hu.int e).1;obtain⟨S,c2,c3⟩:=jo rs b u 0 hu E v.rg hl q v.bn;refine bP W W S W<|k1 W aW (by simp only[ag,and_true,r,l]<;>omega) ?_;rw[l];refine bI W (λa=>absurd (e.symm.trans a) fh) λa=>?_;refine bL W U ⟨G,G,G,G,G,G,⟨W,bR ?_⟩,G,⟨W,ar.of_eq<|congrArg (SV.ints .i64 true) ?_⟩,U⟩
    ·rw[g,if_neg<|by rw[e];decide];rfl
    unfold PB;rw[if_pos e]
   have e:¬u.kind=bq:=e;refine bQ W W ?_ ?_<;>intro a
   ·have a:u.kind=dy:=a;rw[if_pos a]at g;have F:(p.n+(eR p.aa j:Int)).toNat=p.n.toNat+eR p.aa j:=E;have R:=AT V<|p.n.toNat+eR p.aa j;refine r1 W (by simp only[ag,and_true,F,r]<;>omega) ?_;refine aN U ⟨G,G,G,G,G,G,⟨W,bR ?_⟩,G,⟨W,ar.of_eq<|congrArg (SV.ints .i64 true) ?_⟩,U⟩
    ·omega
    unfold PB;rw[if_neg e,if_pos a,F,R];show[V.getD _ 0]=_;rw[show p.n.toNat+eR p.aa j+1=p.n.toNat+1+eR p.aa j from E]
   have a:¬u.kind=dy:=a;refine bL W U ⟨G,G,G,G,G,G,⟨W,bR ?_⟩,G,⟨W,ar.of_eq<|congrArg (SV.ints .i64 true) ?_⟩,U⟩
   ·rw[g,if_neg a];rfl
   unfold PB;rw[if_neg e,if_neg a]
  have:=K j;refine r1 W (by simp[ag,len,this]<;>omega) ?_;refine vf (j+1) E E ⟨⟨W,W,.refl _⟩,⟨W,W,.refl _⟩,⟨W,W,.refl _⟩,⟨W,W,.refl _⟩,⟨W,W,.refl _⟩,⟨W,W,.box<|.agg<|.cons (.refl _)<|.cons (.row ?_) .nil⟩,⟨W,W,.refl _⟩,⟨W,W,.refl _⟩,U⟩;rw[f,cX,abv];exact o6.refl _
 have:j=p.aa.length:=E;subst this;refine bN W W
def Xt(p:gV)(h:rA p)(rs:List fD)(hl:rs.length<2^40)(b:fE)(v:YU p rs b):
 aM Tryz.prog 20 [bh p,.bA false 2 default dX rs,dz b] (if(cq (fU p rs b)<|mr p).l= -1 then .bW [tS false (((cq (fU p rs b)<|mr p).v.drop 1).take p.n.toNat)<|nc p rs b (cq (fU p rs b)<|mr p).v p.aa.length,.b true]else .bW [.agg [.nil,.nil],.b false]):=by
 obtain⟨d,i,f⟩:=GU h hl v;have e:=v.n1;have hn:=v.n;have c:=pO p h p.n.toNat E E v.aa v.val rs b v.rg v.bn;rw[show iv p.n.toNat p.aa rs b=fU p rs b from W]at c;have c:aM Tryz.prog 22 [bh p,.bA false 2 default dX rs,dz b] (.bA false 3 default iU<|fU p rs b):=c.shr.same W W;have a:=Lf (fU p rs b) (mr p) d i f;refine bS Tryz.func20 W<|bO W W c W<|bO W W (TZ p h e hn) W<|r0 W ?_;unfold Y8 at a;by_cases g:(cq (fU p rs b)<|mr p).l= -1
 ·have m:=W4 p h rs hl b v (cq (fU p rs b)<|mr p).v (vE d).v λk j=>Kt d (sW d g) j;rw[if_pos g]at a⊢;have a:aM Tryz.prog 67 [.bA false 3 default iU<|fU p rs b,.i (mr p:Nat)] (.bW [.ints .i64 false (cq (fU p rs b)<|mr p).v.tail,.b true]):=a.shr.same W W;generalize (cq (fU p rs b)<|mr p).v=V at*;refine bH W a W<|k0 W aW<|bG W m W<|bN W W
 rw[if_neg g]at a⊢;refine bH W a W<|k0 W aW<|bF W
def Bl(a:List Int)(h:a.length<2^60):aM Tryz.prog 60 [.ints .i64 false a,.ints .i64 false a] (.b true):=(rN a a h).same W (by rw[decide_eq_true W];rfl)
def Qb(a:List Int)(is:List (List Int))(f:a.length<2^60)(j:is.length<2^60)(e:∀l∈is,l.length<2^60):aM Tryz.prog 19 [tS false a is,tS false a is] (.b true):=by
 refine bS Tryz.func19 W<|bP W W (Bl a f) W<|bQ W W (λg=>absurd W g) λ_=>?_;refine r0 W<|ra (λi:Nat=>[(2,.box true<|tS false a is),(3,.box true<|tS false a is),(5,.i i)]) (λi=>i<=is.length) (λi=>is.length-i) 0 (aaM _) ?_;intro i hi;refine bQ W W ?_ ?_<;>intro g1
 ·have c:i<is.length:=E;have h:(i:Int).toNat=i:=E;refine qp W ?_;rw[h];refine bH W (Bl _<|e _<|bw (d:=[]) c) W<|II W<|gS (i+1) E
 refine bK W W W
def HN:aM Tryz.prog 19 [.agg [.nil,.nil],.agg [.nil,.nil]] (.b true):=by have k1:Ah (.agg [.nil,.nil]) (tS false [] []):=.agg<|.cons (.le<|show ar .nil (.ints .i64 false [])from W)<|.cons (.le<|show ar .nil (.bA false 1 [] (SV.ints .i64 false) [])from W) .nil;exact(Qb [] [] fh fh λl h=>by cases h).tW<|.cons k1<|.cons k1 .nil
def KD(p:gV)(h:rA p)(rs:List fD)(a:∀s∈rs,ct s.lo/\ct s.hi)(hl:rs.length<2^40)(b:fE)(he:gm p rs b≠0):
 aM Tryz.prog 18 [bh p,.bA false 2 default dX rs,dz b] (.bW [.nil,.i<|gm p rs b]):=by
 refine bS Tryz.func18 W<|bP W W (Bi p h rs a hl b he) W<|bQ W W (λ_=>?_) λg=>absurd he g;refine bN W W
def Qs(p:gV)(h:rA p)(rs:List fD)(c:∀s∈rs,ct s.lo/\ct s.hi)(hl:rs.length<2^40)(b:fE)(he:gm p rs b=0):
 aM Tryz.prog 18 [bh p,.bA false 2 default dX rs,dz b] (if(cq (fU p rs b)<|mr p).l= -1 then .bW [.nil,.i 7]else .bW [.ints .i64 true<|mA (fU p rs b)<|mr p,.i 0]):=by
 have hs:=Bh p h rs c hl b he;by_cases a:(cq (fU p rs b)<|mr p).l= -1
 ·rw[if_pos a,if_pos a]at hs;rw[if_pos a];refine bS Tryz.func18 W<|bP W W hs W<|bQ W W (λg=>absurd W g) λ_=>?_;refine bN W W
 rw[if_neg a,if_neg a]at hs;rw[if_neg a];obtain⟨x,l,d⟩:∃x l,mA (fU p rs b) (mr p)=x::l:=by
  cases e:mA (fU p rs b) (mr p)with
  |nil=>unfold mA pP at e;simp at e
  |cons x l=>exact⟨x,l,W⟩
 rw[d]at hs⊢;refine bS Tryz.func18 W<|bP W W hs W<|bQ W W (λg=>absurd W g) λ_=>?_;refine r1 W aY<|bF W
def Sg(f:aM Tryz.prog 14 [] (.b true))(p:gV)(H:Zb p)(rs:List fD)(b:fE)(z:rs.length<=9223372036854775807)(y:∀s∈rs,s.lo.length<=9223372036854775807/\s.hi.length<=9223372036854775807):
 aM Tryz.prog 4 [bh p,Jq rs b] (.b true):=by
 refine bS Tryz.func4 W<|bP W W (Ub p H) W<|r0 W<|iN 15 W ?_ ?_<;>intro g1
 ·refine bP W W f W<|bN W W
 have k:qC p=true:=QL g1;refine bP W W (W9 rs z y) W<|r0 W<|ni W W W ?_ ?_<;>intro g2
 ·refine bP W W f W<|bN W W
 have n:MY rs=true:=QL g2;obtain⟨A,w⟩:BE p/\p.aa.all nB=true:=by unfold qC at k;rw[abi,abi,decide_eq_true_eq]at k;exact⟨k.1,k.2.1⟩
 have j:=IE A w;obtain⟨d,c⟩:(∀s∈rs,ct s.lo/\ct s.hi)/\rs.length<2^40:=by unfold MY at n;simp only[abi,abD,decide_eq_true_eq,yX]at n;refine⟨λs hs=>?_,E⟩;have:=n.1 s hs;unfold ct;omega
 have e:=Pb p rs b j d c;rw[R5]at e;by_cases he:gm p rs b=0
 ·have v:=nm he;obtain⟨u,L,K⟩:=GU j c v;have i:=Qs p j rs d c b he;have m:=Xt p j rs c b v;have D:=(vE u).v;have J:=v.n1;have hn:=v.n;rw[he]at e;by_cases q:(cq (fU p rs b)<|mr p).l= -1
  ·have o:=LQ v (b:=b) (rs:=rs) (V:=(cq (fU p rs b)<|mr p).v) (by rw[D];unfold mr;omega);have F:=Xs p j rs d c b he q;rw[if_pos q]at i m;generalize nc p rs b (cq (fU p rs b)<|mr p).v p.aa.length=a at*;generalize ((cq (fU p rs b)<|mr p).v.drop 1).take p.n.toNat=X at*;unfold Kv at o;simp only[abi,abD,decide_eq_true_eq]at o;have x:=Qb X a E E (λl h=>by have:=o.1 l h;omega);refine bP W W F W<|bP W W i W<|bP W W e W<|bQ W W (λg=>absurd W g) λ_=>?_;refine bP W W m W<|bJ W 78 W (λ_=>?_) λg=>absurd W g;refine bP W W x W<|bJ W 87 W (λ_=>?_) λg=>absurd W g;refine bJ W 92 W (λ_=>?_) λg=>absurd W g;refine bP W W f W<|bN W W
  have F:=U1 p j rs d c b he q;have r:=pO p j p.n.toNat E E v.aa v.val rs b v.rg v.bn;rw[show iv p.n.toNat p.aa rs b=fU p rs b from W]at r;obtain⟨B,-⟩:=UO u (by have:=v.aa;have:=qQ p.aa p.aa.length;unfold mr;omega) q;have t:=GV (fU p rs b) (mA (fU p rs b)<|mr p) u.b E (by unfold mA;rw[List.length_reverse];exact ac4 (yx _ _ _ _ _) E)
  rw[B]at t;rw[if_neg q]at i m;generalize mA (fU p rs b) (mr p)=C at*;generalize fU p rs b=M at*;refine bP W W F W<|bP W W i W<|bP W W e W<|bQ W W (λg=>absurd W g) λ_=>?_;refine bP W W m W<|bJ W 97 W (λ_=>?_) λg=>absurd W g;refine bP W W HN W<|bJ W 106 W (λ_=>?_) λg=>absurd W g;refine bP W W r W<|bP W W t W<|bJ W 117 W (λ_=>?_) λg=>absurd W g;refine bP W W f W<|bN W W
 refine bP W W (Sh p j rs d c b he) W<|bP W W (KD p j rs d c b he) W<|bP W W e W<|bQ W W (λ_=>?_) λg=>absurd he g;refine bJ W 48 W (λ_=>?_) λg=>absurd W g;refine bJ W 53 W (λ_=>?_) λg=>absurd W g;refine bP W W HN W<|bJ W 63 W (λ_=>?_) λg=>absurd W g;refine bP W W f W<|bN W W
def U4:aM Tryz.prog 14 [] (.b true):=by
 refine bS Tryz.func14 W<|bP W W Rs W<|bP W W (IC.same W W) W<|bP W W (Ni.same W W) W<|bP W W (Sf.same W W) W<|bP W W (H0.same W W) W<|bP W W (Mi.same W W) W<|bP W W (I8.same W W) W<|bP W W (RI.same W W) W<|r1 W (aP W)<|aC 87 W (λg=>absurd g fh) λ_=>?_;refine r1 W (aP W)<|aC 91 W (λg=>absurd g fh) λ_=>?_;refine r1 W (aP W)<|bG W (Tt.same W W) W<|r1 W (aP W) ?_
 first
  |refine aC 102 rfl (λg=>absurd g fh) (λ_=>?_)
  |refine aC 97 rfl (λg=>absurd g fh) (λ_=>?_)
  |refine aC 110 rfl (λg=>absurd g fh) (λ_=>?_)
  |refine aC 115 rfl (λg=>absurd g fh) λ_=>?_
 refine r1 W (aP W)<|bG W (Tu.same W W) W<|r1 W (aP W) ?_
 first
  |refine aC 115 rfl (λg=>absurd g fh) (λ_=>?_)
  |refine aC 110 rfl (λg=>absurd g fh) λ_=>?_
 refine r1 W (aP W)<|ex W W W (mE.same (T5 (a:=1) (b:=0) (c:=3) W) W W W W) W<|RP YQ (B:=[]) aW
end Go.Ai.Pg
namespace Go.Ai
open Go.Proofs Go.RowKit
section
variable{P:Program}
section
variable{α:Type}{t:TypeId}{G:α->Prop}{E:α->SV}
def gH(P:Program)(t:TypeId)(E:α->SV)(G:α->Prop):Prop:=
 ∀{H:Type}{enc:TypeId×Value->H}{w:World}{fuel:Nat}{cs:List Value}{x:DataW H×List MemPlace},DataW.trod enc P w 0 (λ_=>true) true fuel t cs=some x->
  ∃(a:α)(v:Value),G a/\cs=[v]/\v.oneCell'=true/\∀S:Nat->Prop,(∀b,b<w.heap.size->S b)->Rel w S (E a).den v []
def SG(P:Program)(t:TypeId)(sz:Nat)(E:α->SV)(G:α->Prop):Prop:=
 ∀{H:Type}{enc:TypeId×Value->H}{w:World}{fuel:Nat}{cs:List Value}{x:DataW H×List MemPlace},DataW.trod enc P w 0 (λ_=>true) true fuel t cs=some x->
  ∃(a:α)(v:Value),G a/\cs=v.cells.toList/\v.cells.size=sz/\∀S:Nat->Prop,(∀b,b<w.heap.size->S b)->Rel w S (E a).den v []
def gH.wide(h:gH P t E G):SG P t 1 E G:=λc=>by obtain⟨a,v,f,e,b,d⟩:=h c;exact⟨a,v,f,by rw[cD b];exact e,by rw[cD b];rfl,d⟩
def gH.map{b:Type}{d:b->SV}{c:b->Prop}(f:α->b)(he:∀a,(d<|f a).den=(E a).den)(g:∀a,G a->c (f a))(h:gH P t E G):gH P t d c:=λe=>by obtain⟨a,v,m,l,k,j⟩:=h e;exact⟨f a,v,g a m,l,k,λS i=>by rw[he];exact j S i⟩
def Ol(b:P.underlying t=some (.int .i64)):gH P t (λn:Int=>.i n) λ_=>True:=λa=>by obtain⟨n,rfl,-,-⟩:=DataW.trod_int b a;exact⟨n,_,U,W,W,λS c=>by simp[SV.den,Rel,scalar]⟩
def El(b:P.underlying t=some .string):gH P t (λs:ck=>.s s) λs=>s.length<=9223372036854775807:=λa=>by obtain⟨s,rfl,-,hs⟩:=DataW.trod_string b a;refine⟨s.data.toList,_,?_,W,W,λS c=>by simp[SV.den,Rel,scalar,Fg]⟩;show s.data.toList.length<=_;rw[abW];exact hs
def RQ{w:World}{S:Nat->Prop}{sz:Nat}{cs:Array Value}:∀(X:List AV)(off:Nat),off+X.length*sz<=cs.size->(∀i(hi:i<X.length),∃v:Value,v.cells.size=sz/\(∀j,j<sz->cs[off+i*sz+j]?=v.cells[j]?)/\Rel w S X[i] v [])->
 c7 w S sz X ((cs.toList.drop off).take<|X.length*sz) []
 |[],off,_,_=>by simp[c7]
 |x::X,off,b,h=>by
  rw[abl,aby]at b;obtain⟨v,g,f,d⟩:=h 0 (by simp);have c:=RQ (w:=w) (S:=S) (sz:=sz) (cs:=cs) X (off+sz) (by omega) λi hi=>by obtain⟨v,k1,k2,k3⟩:=h (i+1) (by simpa using hi);refine⟨v,k1,λj a=>?_,k3⟩;rw[<-k2 j a];congr 1;rw[aby];omega
  refine⟨v,_,[],[],?_,W,g,d,c⟩;have e:(x::X).length*sz=sz+X.length*sz:=by rw[abl,aby];omega
  rw[e,List.take_add,ac6]
  congr 1
  apply aep;intro j;rw[acm];split
  ·rename_i a;have:=f j a;simpa using this
  rename_i a;simp;omega
def mo{e:TypeId}{sz:Nat}(d:α)(O:P.underlying t=some (.slice e))(hc:P.cellsOf e=sz)(C:0<sz)(h:SG P e sz E G):
 gH P t (λl:List α=>.bA false sz d E l) λl=>l.length<=9223372036854775807/\∀a∈l,G a:=λ{H enc w fuel cs x}N=>by
 rcases Deep.open_slice O N with⟨rfl,-⟩|⟨a,len,Y,m,n,D,Pl,rfl,-,hl,hm,F,-,k⟩
 ·exact⟨[],_,⟨by simp,by simp⟩,W,W,λS A=>by simp[SV.den,Rel,fl]⟩
 subst F;by_cases T:m=0
 ·subst T;have:len=0:=by omega
  subst this;exact⟨[],_,⟨by simp,by simp⟩,W,W,λS A=>by simp[SV.den,Rel,fl]⟩
 rw[hc]at k;have cell:∀i,i<m->∀j,j<sz->∃u,w.cell? ((a.add<|i*sz).add j)=some u:=λi hi j s=>by obtain⟨z,k1,-⟩:=k i hi;obtain⟨-,k2,k3⟩:=World.cells?_some k1;exact⟨z[j],by rw[k3 j s];exact abj<|by omega⟩
 obtain⟨Z,g⟩:=cell 0 (by omega) 0 C;have X:(a.add<|0*sz).add 0=a:=by simp[Addr.add]
 rw[X]at g;obtain⟨b,c,q⟩:=a;have r:∃(row:Array Value)(B:TypeId)(o:Nat×Nat),w.heap[b]?=some (.cells row B o)/\q=none:=by
  unfold World.cell? at g;split at g
  ·rename_i row B o hh;split at g
   ·cases g
   rename_i hs;exact⟨row,B,o,hh,by simpa using hs⟩
  cases g
 obtain⟨row,B,o,hh,rfl⟩:=r;have K:row? w b=some (row,o):=zf hh;have Q:b<w.heap.size:=by have:=(acg.1 hh).1;exact this
 have y:∀i,i<m->∀j,j<sz->w.cell? (((⟨b,c,none⟩:Addr).add<|i*sz).add j)=row[c+i*sz+j]?:=λi hi j s=>by rw[Deep.add_add,cj W,pS W K];show row[c+(i*sz+j)]?=_;rw[acF]
 have M:c+m*sz<=row.size:=by
  obtain⟨u,hu⟩:=cell (m-1) (by omega) (sz-1) (by omega);rw[y (m-1) (by omega) (sz-1)<|by omega]at hu;have h1:=(acg.1 hu).1;have e1:m*sz=(m-1)*sz+sz:=by
   have:m=(m-1)+1:=by omega
   conv=>lhs;rw[this,aby,aem]
  omega
 haveI:Inhabited α:=⟨d⟩
 obtain⟨f,L⟩:=Deep.choose_lt (α:=α) (n:=len) (p:=λi a=>G a/\∃v:Value,v.cells.size=sz/\(∀j,j<sz->row[c+i*sz+j]?=v.cells[j]?)/\∀S:Nat->Prop,(∀b,b<w.heap.size->S b)->Rel w S (E a).den v []) λi hi=>by obtain⟨z,k1,k2⟩:=k i (by omega);obtain⟨-,k3,k4⟩:=World.cells?_some k1;obtain⟨a,v,g1,rfl,J,V⟩:=h k2;refine⟨a,g1,v,J,λj s=>?_,V⟩;rw[<-y i (by omega) j s,k4 j s,acC]
 refine⟨(List.range len).map f,_,⟨by simp[abt,aeR];simp[maxLen]at hm;omega,λa R=>?_⟩,W,W,λS A=>?_⟩
 ·obtain⟨i,hi,rfl⟩:=abr.1 R;exact(L i<|abO.1 hi).1
 simp only[SV.den,fl,Rel];refine .inr ⟨b,c,m,row,o,by simp,A b Q,K,by simpa using hl,?_,U⟩;refine RQ _ c ?_ λi hi=>?_
 ·simp[abt,aeR];have:len*sz<=m*sz:=abB _ hl;omega
 simp[abt,aeR]at hi;obtain⟨-,v,g1,g2,J⟩:=L i hi;exact⟨v,g1,g2,by simpa using J S A⟩
def qU(P:Program)(t:TypeId)(sz:Nat)(E:α->SV)(G:α->Prop):Prop:=
 ∀{H:Type}{enc:TypeId×Value->H}{w:World}{fuel:Nat}{cs:List Value}{x:DataW H×List MemPlace},DataW.trod enc P w 0 (λ_=>true) true fuel t cs=some x->
  ∃a:α,G a/\cs.length=sz/\∀S:Nat->Prop,(∀b,b<w.heap.size->S b)->Rel w S (E a).den (.agg cs.toArray) []
def qU.wide{sz:Nat}(h:qU P t sz E G):SG P t sz E G:=λ{H enc w fuel cs x}b=>by obtain⟨a,e,d,c⟩:=h b;exact⟨a,.agg cs.toArray,e,by simp[Value.cells],by simpa[Value.cells]using d,c⟩
end
section
variable{H:Type}{enc:TypeId×Value->H}{w:World}{fuel:Nat}{cs:List Value}{x:DataW H×List MemPlace}{t:TypeId}{fs:Array Field}
def jf(j:P.underlying t=some (.struct fs))(g:DataW.trod enc P w 0 (λ_=>true) true fuel t cs=some x){i:Nat}{f:Field}(c:fs[i]?=some f)(hc:P.cellsOf f.type=1){α:Type}{E:α->SV}{G:α->Prop}(h:gH P f.type E G):
 ∃(a:α)(v:Value),G a/\cs[f.offset]?=some v/\v.oneCell'=true/\∀S:Nat->Prop,(∀b,b<w.heap.size->S b)->Rel w S (E a).den v []:=by
 obtain⟨e,n,-,-,-,hl,hh⟩:=DataW.trod_struct j g;have hi:i<e.length:=by rw[hl];exact(acg.1 c).1
 have d:=hh i f c;rw[abj hi,hc]at d;obtain⟨a,v,p,o,m,k⟩:=h d;refine⟨a,v,p,?_,m,k⟩;have:=congrArg (λl:List Value=>l[0]?) o;simpa using this
def W8(j:P.underlying t=some (.struct fs))(g:DataW.trod enc P w 0 (λ_=>true) true fuel t cs=some x){i:Nat}{f:Field}(c:fs[i]?=some f){sz:Nat}(hc:P.cellsOf f.type=sz){α:Type}{E:α->SV}{G:α->Prop}(h:qU P f.type sz E G):
 ∃a:α,G a/\((cs.drop f.offset).take sz).length=sz/\∀S:Nat->Prop,(∀b,b<w.heap.size->S b)->Rel w S (E a).den (.agg ((cs.drop f.offset).take sz).toArray) []:=by
 obtain⟨e,n,-,-,-,hl,hh⟩:=DataW.trod_struct j g;have hi:i<e.length:=by rw[hl];exact(acg.1 c).1
 have d:=hh i f c;rw[abj hi,hc]at d;exact h d
def lB(b:P.underlying t=some (.struct fs))(a:DataW.trod enc P w 0 (λ_=>true) true fuel t cs=some x):cs.length=P.cellsOf t:=by obtain⟨c,n,-,-,h,-⟩:=DataW.trod_struct b a;exact h
end
def dM{w:World}{S:Nat->Prop}{one:Bool}{x:AV}{v:Value}{xs:List AV}{a:List Value}(d:v.oneCell'=true)(c:Rel w S x v [])(b:Cells w S one xs a []):Cells w S one (x::xs) (v::a) []:=by simp only[Cells];exact⟨v,a,[],[],W,W,λ_=>d,c,b⟩
def sO{w:World}{S:Nat->Prop}{one:Bool}:Cells w S one [] [] []:=by simp[Cells]
def s6{w:World}{S:Nat->Prop}{xs:List AV}{a:List Value}(h:Cells w S true xs a []):Rel w S (.agg xs) (.agg a.toArray) []:=by simp[Rel];simp_all
def zm{H:Type}{enc:TypeId×Value->H}{a f:World}{t:TypeId}(hl:laidOutB P=true)(g:P.readableRec t=true)(j:t<P.types.size)(k:Below a.heap.size a f){n:Nat}{cs:List Value}{x:DataW H×List MemPlace}
 (h:DataW.trod enc P a 0 (λ_=>true) true n t cs=some x):DataW.trod enc P f 0 (λb=>decide (b<a.heap.size)) true n t cs=some x:=
 have c:=DataW.trod_lt n t cs x h
 DataW.trod_stays (kids_book hl g) (book_sized g) (λh=>by cases h) ⟨j,book_self t⟩ h
  (λp d=>by
    have e:=k.block p.block<|c p d;cases p with
    |cell b i=>simp[World.sameAt,World.cell?];rw[show f.heap[b]?=a.heap[b]?from e]
    |map b=>exact e)
  λp d=>by simpa using c p d
end
section
variable{α:Type}{l:List α}{a b c d:α}
def No:Tryz.prog.cellsOf 70=2:=aW
def Np:Tryz.prog.cellsOf 50=5:=aW
def UU:Tryz.prog.cellsOf 25=3:=aW
def JN:Tryz.prog.cellsOf 64=2:=aW
def JO:Tryz.prog.cellsOf 28=4:=aW
def UT:Tryz.prog.cellsOf 30=5:=aW
def c3:Tryz.prog.cellsOf 3=1:=aW
def c9:Tryz.prog.cellsOf 9=1:=aW
def YN:Tryz.prog.cellsOf 47=1:=aW
def c45:Tryz.prog.cellsOf 46=1:=aW
def c47:Tryz.prog.cellsOf 48=1:=aW
def c22:Tryz.prog.cellsOf 22=1:=aW
def c23:Tryz.prog.cellsOf 23=1:=aW
def c26:Tryz.prog.cellsOf 26=1:=aW
abbrev Ag{α:Type}(l:List α):Prop:=l.length<=9223372036854775807
def Vw(h:l.length=2)(f:l[0]?=some a)(e:l[1]?=some b):l=[a,b]:=by
 match l,h with
 |[x,y],_=>simp at f e;rw[f,e]
def Yo(h:l.length=3)(g:l[0]?=some a)(f:l[1]?=some b)(e:l[2]?=some c):l=[a,b,c]:=by
 match l,h with
 |[x,y,z],_=>simp at g f e;rw[g,f,e]
def Yn(h:l.length=4)(i:l[0]?=some a)(g:l[1]?=some b)(f:l[2]?=some c)(e:l[3]?=some d):l=[a,b,c,d]:=by
 match l,h with
 |[x,y,z,u],_=>simp at i g f e;rw[i,g,f,e]
def Ym{e:α}(h:l.length=5)(k:l[0]?=some a)(j:l[1]?=some b)(i:l[2]?=some c)(g:l[3]?=some d)(f:l[4]?=some e):l=[a,b,c,d,e]:=by
 match l,h with
 |[x,y,z,u,v],_=>simp at k j i g f;rw[k,j,i,g,f]
def o3:gH Tryz.prog 3 (λn:Int=>.i n) λ_=>True:=Ol Tryz.underlying3
def Yd:gH Tryz.prog 47 (λs:ck=>.s s) Ag:=El Tryz.underlying47
def o9:gH Tryz.prog 9 (λs:ck=>.s s) Ag:=El Tryz.underlying9
def iu:qU Tryz.prog 70 2 oX λf=>Ag f.dZ:=λ{H m w h r x}e=>by obtain⟨a,q,-,o,k,r0⟩:=jf Tryz.underlying70 e (i:=0) W c3 o3;obtain⟨b,p,g1,n,j,r1⟩:=jf Tryz.underlying70 e (i:=1) W YN Yd;have hl:=(lB Tryz.underlying70 e).trans No;obtain rfl:=Vw hl o n;exact⟨⟨a,b⟩,g1,hl,λS g=>s6<|dM k (r0 S g)<|dM j (r1 S g) sO⟩
def lL:qU Tryz.prog 64 2 dX λs=>Ag s.lo/\Ag s.hi:=λ{H m w g r x}e=>by obtain⟨a,q,k,o,j,r0⟩:=jf Tryz.underlying64 e (i:=0) W YN Yd;obtain⟨b,p,g1,n,h,r1⟩:=jf Tryz.underlying64 e (i:=1) W YN Yd;have hl:=(lB Tryz.underlying64 e).trans JN;obtain rfl:=Vw hl o n;exact⟨⟨a,b⟩,⟨k,g1⟩,hl,λS f=>s6<|dM j (r0 S f)<|dM h (r1 S f) sO⟩
def yt:qU Tryz.prog 28 4 dz λ_=>True:=λ{H p w g A x}e=>by obtain⟨a,z,-,t,o,r0⟩:=jf Tryz.underlying28 e (i:=0) W c3 o3;obtain⟨b,y,-,s,n,r1⟩:=jf Tryz.underlying28 e (i:=1) W c3 o3;obtain⟨c,v,-,r,m,j⟩:=jf Tryz.underlying28 e (i:=2) W c3 o3;obtain⟨d,u,-,q,k,h⟩:=jf Tryz.underlying28 e (i:=3) W c3 o3;have hl:=(lB Tryz.underlying28 e).trans JO;obtain rfl:=Yn hl t s r q;exact⟨⟨a,b,c,d⟩,U,hl,λS f=>s6<|dM o (r0 S f)<|dM n (r1 S f)<|dM m (j S f)<|dM k (h S f) sO⟩
def si:gH Tryz.prog 46 (λl=>.bA false 2 default oX l) λl=>Ag l/\∀f∈l,Ag f.dZ:=mo default Tryz.underlying46 No fh iu.wide
def ov:gH Tryz.prog 48 (λl=>.strs false l) λl=>Ag l/\∀c∈l,Ag c:=gH.map id (λ_=>rfl) (λ_ h=>h)<|mo [] Tryz.underlying48 YN fh<|gH.wide Yd
def o23:gH Tryz.prog 23 (λl=>.ints .i64 false l) λl=>Ag l:=gH.map id (λ_=>rfl) (λ_ h=>h.1)<|mo 0 Tryz.underlying23 c3 fh<|gH.wide o3
def I2:gH Tryz.prog 26 (λl=>.bA false 2 default dX l) λl=>Ag l/\∀s∈l,Ag s.lo/\Ag s.hi:=mo default Tryz.underlying26 JN fh lL.wide
structure Z9(u:bT):Prop where
 kind:Ag u.kind
 ah:Ag u.ah
 dI:Ag u.dI
 k:Ag u.k
 dZ:∀f∈u.ah,Ag f.dZ
 Kj:∀c∈u.dI,Ag c
def lY:qU Tryz.prog 50 5 dQ Z9:=λ{H v w j M x}f=>by obtain⟨a,L,u,C,s,r0⟩:=jf Tryz.underlying50 f (i:=0) W c9 o9;obtain⟨b,K,g1,B,r,r1⟩:=jf Tryz.underlying50 f (i:=1) W c45 si;obtain⟨c,J,-,A,q,n⟩:=jf Tryz.underlying50 f (i:=2) W c3 o3;obtain⟨d,F,t,z,p,m⟩:=jf Tryz.underlying50 f (i:=3) W YN Yd;obtain⟨e,D,h,y,o,k⟩:=jf Tryz.underlying50 f (i:=4) W c47 ov;have hl:=(lB Tryz.underlying50 f).trans Np;obtain rfl:=Ym hl C B A z y;exact⟨⟨a,b,c,d,e⟩,⟨u,g1.1,h.1,t,g1.2,h.2⟩,hl,λS g=>s6<|dM s (r0 S g)<|dM r (r1 S g)<|dM q (n S g)<|dM p (m S g)<|dM o (k S g) sO⟩
def o22:gH Tryz.prog 22 (λl=>.bA false 5 default dQ l) λl=>Ag l/\∀u∈l,Z9 u:=mo default Tryz.underlying22 Np fh lY.wide
def o25:qU Tryz.prog 25 3 bh Zb:=λ{H n w g v x}e=>by
 obtain⟨a,t,-,q,m,r0⟩:=jf Tryz.underlying25 e (i:=0) W c3 o3;obtain⟨b,s,g1,p,k,r1⟩:=jf Tryz.underlying25 e (i:=1) W c22 o22;obtain⟨c,r,g2,o,j,h⟩:=jf Tryz.underlying25 e (i:=2) W c23 o23;have hl:=(lB Tryz.underlying25 e).trans UU;obtain rfl:=Yo hl q p o;exact⟨⟨a,b,c⟩,⟨g1.1,g2,λu hu=>(g1.2 u hu).kind,λu hu=>(g1.2 u hu).ah,λu hu=>(g1.2 u hu).dI,λu hu=>(g1.2 u hu).k,λu hu=>(g1.2 u hu).dZ,λu hu=>(g1.2 u hu).Kj⟩,hl,
  λS f=>s6<|dM m (r0 S f)<|dM k (r1 S f)<|dM j (h S f) sO⟩
def sj:qU Tryz.prog 30 5 (λa:List fD×fE=>Jq a.1 a.2) λa=>Ag a.1/\∀s∈a.1,Ag s.lo/\Ag s.hi:=λ{H r w k v x}h=>by
 obtain⟨l,n,q,t,o,r0⟩:=jf Tryz.underlying30 h (i:=0) W c26 I2;obtain⟨b,-,C,r1⟩:=W8 Tryz.underlying30 h (i:=1) W JO yt;have hl:=(lB Tryz.underlying30 h).trans UT;refine⟨(l,b),q,hl,λS j=>?_⟩
 match v,hl with
 |[m,B,A,z,y],_=>
  have e:m=n:=by simpa using t
  subst e;have p:=r1 S j;obtain⟨u,g,f⟩:=p;simp at g;subst g;exact s6<|dM o (r0 S j) f
end
end Go.Ai
