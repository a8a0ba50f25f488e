/- Parts of the proof of ScaleKeeps (as AIM.md's row tells), at every input, with no further conditions. -/
import Derived.Test.YtpoaaoihkhdijaaGreatDoorKZAO
set_option linter.all false
set_option maxRecDepth 100000
set_option maxHeartbeats 0
namespace Go.Ai
open Go.Proofs Go.RowKit
section
variable{R:Option Nat->Prop}{P:Program}{N:Nat}{V:Hid}{w0 w:World}{S0:Nat->Prop}{a:Act}{base:St}{r p0 Z h:Nat}{Q s:Path}
section
variable{y:AV}{L:Loc}{i sz':Nat}{s':Path}{v:Value}
def SM(base:St)(r p0:Nat)(av:AV)(q:Path):St:=iI (iI base r ⟨av,0,0⟩) p0 ⟨.ptr r 0 0 q,0,0⟩
def vD(base:St)(r p0 Z h:Nat)(av y:AV)(s:Path):St:=iI (iI (iI (iI base r ⟨av,0,0⟩) p0 ⟨.ptr Z 0 0 s,0,0⟩) Z ⟨y,0,0⟩) h ⟨.bC Z 0 0 [],0,0⟩
def Hid.A4(V:Hid)(Z h:Nat)(v:Value):Hid:={V with v:=iI (iI V.v Z v) h v}
structure Names(N r p0 Z h:Nat):Prop where
 n:N<=1000000
 z:1000000<=Z
 hh:1000000<=h
 rp:r≠p0
 rz:r≠Z
 rh:r≠h
 pz:p0≠Z
 ph:p0≠h
 zh:Z≠h
def Ht(hn:Names N r p0 Z h)(c:a.tmps.size=N)(v:Value):tv (V.A4 Z h v) a=iI (iI (tv V a) Z v) h v:=by
 have g:=hn.n;have f:=hn.z;have d:=hn.hh
 funext i
 unfold tv Hid.A4 iI;simp only;by_cases e:i=h
 ·subst e;rw[if_neg E,if_pos W,if_pos W]
 by_cases b:i=Z
 ·subst b;rw[if_neg E];simp
 simp[e,b]
def Qd{av:AV}:vD base r p0 Z h av y s h=⟨.bC Z 0 0 [],0,0⟩:=by unfold vD;rw[aH]
def uF(hn:Names N r p0 Z h){av:AV}:vD base r p0 Z h av y s Z=⟨y,0,0⟩:=by unfold vD;rw[ao _ _ hn.zh,aH]
def Qc(hn:Names N r p0 Z h){av:AV}:vD base r p0 Z h av y s p0=⟨.ptr Z 0 0 s,0,0⟩:=by unfold vD;rw[ao _ _ hn.ph,ao _ _ hn.pz,aH]
def FL(hn:Names N r p0 Z h){av:AV}:vD base r p0 Z h av y s r=⟨av,0,0⟩:=by unfold vD;rw[ao _ _ hn.rh,ao _ _ hn.rz,ao _ _ hn.rp,aH]
def FM{av:AV}(e:i≠r)(d:i≠p0)(c:i≠Z)(b:i≠h):vD base r p0 Z h av y s i=base i:=by unfold vD;rw[ao _ _ b,ao _ _ c,ao _ _ d,ao _ _ e]
def Vk{av:AV}:SM base r p0 av Q p0=⟨.ptr r 0 0 Q,0,0⟩:=by unfold SM;rw[aH]
def Ea(b:r≠p0){av:AV}:SM base r p0 av Q r=⟨av,0,0⟩:=by unfold SM;rw[ao _ _ b,aH]
def Eb{av:AV}(c:i≠r)(b:i≠p0):SM base r p0 av Q i=base i:=by unfold SM;rw[ao _ _ b,ao _ _ c]
def IA{x:Loc}{sz:Nat}(hl:loc w x Q=some L)(hh:holds w L v)(hc:v.cells=#[v]):loc w x (Q++.idx i sz::s')=loc w (.val v) (.idx i sz::s'):=by rw[iq,hl];simp[loc];rw[cN hh hc I];rfl
def Rp{z b:Value}(d:holds w L z)(c:holds w L b)(c1:z.cells=#[z])(c2:b.cells=#[b]):z=b:=by
 cases L with
 |val q=>simp[holds]at d c;rw[d,c]
 |addr g=>have f:=At.cell d c1;have e:=At.cell c c2;rw[f]at e;simpa using e
def N5{sz:Nat}{xs:List AV}{t:AV}{av1:(Value->Prop)->AV}(hn:Names N r p0 Z h)(c:∀i,(base i).av.plain=true)(G3:(base Z).av=.dead)(Y:(base h).av=.dead)(hp:t.plain=true)
 (hg:bp t Q=some (.list .own sz xs))(hs:∀C,eJ t Q (.pv C)=some (av1 C))(F3:∃u,bp t (Q++.idx i sz'::s')=some u)
 (hi:o5 N V w0 S0 (SM base r p0 t<|Q++.idx i sz'::s') a w):∃v,o5 N (V.A4 Z h v) w0 S0 (vD base r p0 Z h (av1 (·=v)) (.list .own sz xs)<|.idx i sz'::s') a w:=by
 obtain⟨S,F,ds,hc,hN,F4,E1,B0,p,hm⟩:=hi;have hr:=hc.rel r;rw[an.aA<|by rw[Ea hn.rp];exact hp,Ea hn.rp]at hr;obtain⟨L0,v,Fv,l1,l2,l3,-⟩:=Rel.read Q (L:=.val<|tv V a r) hr W hg;have c1:v.cells=#[v]:=cD<|l3.one W;obtain⟨L,z,A,F1,B,k1,k2,k3,k4,k5,k6⟩:=Rel.iI Q (L:=.val<|tv V a r) hr W hg (hs (·=v)) (hc.nodup r) (λb c=>(hc.own r b c).2.2) (by simp[Loc.jS]);rw[l1]at k1;cases k1;have ez:z=v:=Rp k2 l2 (cD<|k3.one W) c1;subst ez;obtain⟨z',j1,-,-,j4⟩:=k6 w S z [] (λ_ h=>h) W (λh=>h) (λ_ _ _=>rfl) (qb k2) (by simp[Rel]);simp[xn]at j4;subst j4;have m:=hc.nodup r;rw[k4,abC,abC]at m;have o:∀b,b∈A++[]++B->b∈F r:=λb c=>by rw[k4];simp at c⊢;rcases c with h|h<;>simp[h]
 have f:∀b,b∈F1->b∈F r:=λb c=>by rw[k4];simp[c]
 have K:∀b,b∈F1->b∉A++[]++B:=λb c l=>by
  simp at l;rcases l with h|h
  ·exact m.1.2.2 b h b c W
  exact m.2.2 b (by simp[c]) b h W
 have G2:F h=[]:=by have:=hc.rel h;rw[an.aA<|by rw[Eb (λe=>hn.rh e.symm) λe=>hn.ph e.symm,Y];rfl,Eb (λe=>hn.rh e.symm) λe=>hn.ph e.symm,Y]at this;simpa[Rel]using this
 have n:=hc.rel p0;unfold an at n;rw[Vk]at n;simp only[Ea hn.rp]at n;obtain⟨G1,-,-,F0,E2⟩:=n;obtain⟨ad,q1,q2⟩:=E2 U (.inr U) λ_=>F3;rw[IA l1 k2 c1]at q1;have hT:=Ht (V:=V) (a:=a) hn hN z;refine⟨z,S,λi=>if i=r then A++[]++B else if i=Z then F1 else F i,ds,⟨λj=>?_,λj=>?_,λj k O b c=>?_,λj b c=>?_,hc.shr⟩,hN,F4,E1,B0,⟨p.os,p.tape,p.output,p.size,p.block⟩,hm.1,λd hd=>?_⟩
 ·rw[hT];by_cases X:j=h
  ·subst X;unfold an;rw[Qd];simp only[uF hn,aH];rw[if_neg λe=>hn.rh e.symm,if_neg λe=>hn.zh e.symm];exact⟨G2,abq _,abq _,λ_ _ _=>⟨.val z,by rw[ao _ _ hn.zh,aH];rfl,W,I⟩⟩
  by_cases H:j=Z
  ·subst H;rw[an.aA<|by rw[uF hn];rfl,uF hn,if_neg λe=>hn.rz e.symm,if_pos W,ao _ _ hn.zh,aH];exact k3
  by_cases T:j=p0
  ·subst T;unfold an;rw[Qc hn];simp only[uF hn];rw[if_neg λe=>hn.rp e.symm,if_neg hn.pz,ao _ _ hn.ph,ao _ _ hn.pz];exact⟨G1,abq _,abq _,F0,λ_ _ _=>⟨ad,by rw[ao _ _ hn.zh,aH];exact q1,q2⟩⟩
  by_cases M:j=r
  ·subst M;rw[an.aA<|by rw[FL hn];exact j1.plain,FL hn,if_pos W,ao _ _ hn.rh,ao _ _ hn.rz];exact j1
  have x:=hc.rel j;rw[an.aA<|by rw[Eb M T];exact c j,Eb M T]at x;rw[an.aA<|by rw[FM M T H X];exact c j,FM M T H X,if_neg M,if_neg H,ao _ _ X,ao _ _ H];exact x
 ·by_cases e:j=r
  ·simp only[e,if_true];rw[acj,abC];exact⟨m.1.1,m.2.1,λa ha b c=>m.2.2 a (by simp[ha]) b c⟩
  simp[e,if_false];by_cases H:j=Z
  ·simp[H,if_true];exact m.1.2.1
  simp[H,if_false];exact hc.nodup j
 ·by_cases q:j=r
  ·simp only[q,if_true]at c;have hk:k≠r:=λe=>O<|q.trans e.symm;simp[hk,if_false];by_cases J:k=Z
   ·simp[J,if_true];exactλl=>K b l c
   simp[J,if_false];exact hc.du r k (λe=>hk e.symm) b<|o b c
  simp[q,if_false]at c;by_cases g:j=Z
  ·simp[g,if_true]at c;by_cases J:k=r
   ·simp only[J,if_true];exact K b c
   have F2:k≠Z:=λe=>O<|g.trans e.symm;simp[J,F2,if_false];exact hc.du r k (λe=>J e.symm) b<|f b c
  simp[g,if_false]at c;by_cases J:k=r
  ·simp only[J,if_true];exactλl=>hc.du j r q b c<|o b l
  simp[J,if_false];by_cases A0:k=Z
  ·simp[A0,if_true];exactλl=>hc.du j r q b c<|f b l
  simp[A0,if_false];exact hc.du j k O b c
 ·by_cases q:j=r
  ·simp only[q,if_true]at c;exact hc.own r b<|o b c
  simp[q,if_false]at c;by_cases g:j=Z
  ·simp[g,if_true]at c;exact hc.own r b<|f b c
  simp[g,if_false]at c;exact hc.own j b c
 obtain⟨D,X,H,T,M,e5⟩:=hm.2 d hd;refine⟨D,X,H,T,M,λj x=>?_⟩;by_cases q:j=r
 ·simp only[q,if_true]at x;exact e5 r<|o D x
 simp[q,if_false]at x;by_cases g:j=Z
 ·simp[g,if_true]at x;exact e5 r<|f D x
 simp[g,if_false]at x;exact e5 j x
def KC{sz:Nat}{ys:List AV}{u av3:AV}(hn:Names N r p0 Z h)(c:∀i,(base i).av.plain=true)(F3:(base Z).av=.dead)(F4:(base h).av=.dead)(hp:u.plain=true)
 (hg:bp u Q=some (.pv (·=v)))(hs:eJ u Q (.list .own sz ys)=some av3)(F0:flat (.idx i sz'::s')=true)
 (hi:o5 N (V.A4 Z h v) w0 S0 (vD base r p0 Z h u (.list .own sz ys)<|.idx i sz'::s') a w):o5 N V w0 S0 (SM base r p0 av3<|Q++.idx i sz'::s') a w:=by
 obtain⟨S,F,ds,hc,hN,F2,B0,A0,n,hm⟩:=hi;have hT:=Ht (V:=V) (a:=a) hn hN v;rw[hT]at hc;have hr:=hc.rel r;rw[an.aA<|by rw[FL hn];exact hp,FL hn,ao _ _ hn.rh,ao _ _ hn.rz]at hr;have Y:=hc.rel Z;rw[an.aA<|by rw[uF hn];rfl,uF hn,ao _ _ hn.zh,aH]at Y;have c1:v.cells=#[v]:=cD<|Y.one W;obtain⟨L,z,A,F1,B,k1,k2,k3,k4,k5,k6⟩:=Rel.iI Q (L:=.val<|tv V a r) hr W hg hs (hc.nodup r) (λb c=>(hc.own r b c).2.2) (by simp[Loc.jS]);obtain⟨ez,eF⟩:=k3;subst ez;subst eF;obtain⟨z',j1,-,-,j4⟩:=k6 w S z (F Z) (λ_ h=>h) W (λh=>h) (λ_ _ _=>rfl) (qb k2) Y;simp[xn]at j4;subst j4;have t:=hc.nodup r;rw[k4,acj,abC]at t;have m:∀b,b∈A++F Z++B->b∈F r\/b∈F Z:=λb c=>by rw[k4];simp at c⊢;rcases c with h|h|h<;>simp[h]
 have M:∀b,b∈F Z->b∉F r:=λb c=>hc.du Z r (λe=>hn.rz e.symm) b c;have E2:(A++F Z++B).Nodup:=by
  rw[abC,abC];refine⟨⟨t.1,hc.nodup Z,λa C b c e=>?_⟩,t.2.1,λa C b c e=>?_⟩
  ·subst e;exact M a c (by rw[k4];simp[C])
  subst e;rcases abJ.1 C with C|C
  ·exact t.2.2 a C a c W
  exact M a C (by rw[k4];simp[c])
 have G3:F h=[]:=by have:=hc.rel h;unfold an at this;rw[Qd]at this;exact this.1
 have l:=hc.rel p0;unfold an at l;rw[Qc hn]at l;simp only[uF hn]at l;obtain⟨G2,-,-,O,E1⟩:=l;obtain⟨ad,q1,q2⟩:=E1 U (.inr U) λhh=>by rw[F0]at hh;cases hh
 rw[ao _ _ hn.zh,aH]at q1;rw[ao _ _ hn.ph,ao _ _ hn.pz]at q2 O;refine⟨S,λi=>if i=r then A++F Z++B else if i=Z then[]else F i,ds,⟨λj=>?_,λj=>?_,λj k T b c=>?_,λj b c=>?_,hc.shr⟩,hN,F2,B0,A0,⟨n.os,n.tape,n.output,n.size,n.block⟩,hm.1,λd hd=>?_⟩
 ·by_cases H:j=p0
  ·subst H;unfold an;rw[Vk];simp only[Ea hn.rp];rw[if_neg λe=>hn.rp e.symm,if_neg hn.pz];exact⟨G2,abq _,abq _,O,λ_ _ _=>⟨ad,by rw[IA k1 k2 c1];exact q1,q2⟩⟩
  by_cases x:j=r
  ·subst x;rw[an.aA<|by rw[Ea hn.rp];exact j1.plain,Ea hn.rp,if_pos W];exact j1
  rw[an.aA<|by rw[Eb x H];exact c j,Eb x H,if_neg x];by_cases q:j=Z
  ·subst q;rw[F3,if_pos W];simp[Rel]
  rw[if_neg q];by_cases K:j=h
  ·subst K;rw[F4,G3];simp[Rel]
  have o:=hc.rel j;rw[an.aA<|by rw[FM x H q K];exact c j,FM x H q K,ao _ _ K,ao _ _ q]at o;exact o
 ·by_cases e:j=r
  ·simp only[e,if_true];exact E2
  simp[e,if_false];by_cases q:j=Z
  ·simp only[q,if_true];exact acd
  simp[q,if_false];exact hc.nodup j
 ·by_cases p:j=r
  ·simp only[p,if_true]at c;have hk:k≠r:=λe=>T<|p.trans e.symm;simp only[hk,if_false];by_cases J:k=Z
   ·simp only[J,if_true];simp
   simp[J,if_false];rcases m b c with g|g
   ·exact hc.du r k (λe=>hk e.symm) b g
   exact hc.du Z k (λe=>J e.symm) b g
  simp only[p,if_false]at c;by_cases f:j=Z
  ·simp only[f,if_true]at c;cases c
  simp[f,if_false]at c;by_cases J:k=r
  ·simp only[J,if_true];intro G1;rcases m b G1 with g|g
   ·exact hc.du j r p b c g
   exact hc.du j Z f b c g
  simp only[J,if_false];by_cases X:k=Z
  ·simp only[X,if_true];simp
  simp[X,if_false];exact hc.du j k T b c
 ·by_cases p:j=r
  ·simp only[p,if_true]at c;rcases m b c with g|g
   ·exact hc.own r b g
   exact hc.own Z b g
  simp only[p,if_false]at c;by_cases f:j=Z
  ·simp only[f,if_true]at c;cases c
  simp[f,if_false]at c;exact hc.own j b c
 obtain⟨D,K,q,H,x,e5⟩:=hm.2 d hd;refine⟨D,K,q,H,x,λj o=>?_⟩;by_cases p:j=r
 ·simp only[p,if_true]at o;rcases m D o with g|g
  ·exact e5 r g
  exact e5 Z g
 simp only[p,if_false]at o;by_cases f:j=Z
 ·simp only[f,if_true]at o;cases o
 simp[f,if_false]at o;exact e5 j o
end
end
section
variable{R:Option Nat->Prop}{P:Program}{N:Nat}{F:St->Prop}{k:List It}{l:aU}
section
variable{K:List (Nat×SV)}{Z h p0 r:Nat}{v y:SV}
def BF:List (Nat×SV)->Bool
 |[]=>true
 |(_,x)::r=>eX x.plain<|BF r
def BK(z:Nat):List (Nat×SV)->Bool
 |[]=>true
 |(i,_)::r=>eX (ne' i z)<|BK z r
def rW:∀{K:List (Nat×SV)},BF K=true->∀i,(dn (sl K) i).av.plain=true
 |[],_,i=>rfl
 |(j,x)::K,h,i=>by
  simp[BF,aO]at h;simp[sl,fR];by_cases e:i=j
  ·subst e;rw[aH];simp[Cl.den,dj];exact h.1
  rw[ao _ _ e];exact rW h.2 i
def nR{z:Nat}:∀{K:List (Nat×SV)},BK z K=true->(dn (sl K) z).av=.dead
 |[],_=>rfl
 |(j,x)::K,h=>by simp[BK,aO,ne_iff]at h;simp[sl,fR];rw[ao _ _ λe=>h.1 e.symm];exact nR h.2
def Rn(r p0:Nat)(v:SV)(q:Path)(K:List (Nat×SV)):List (Nat×SV):=(p0,.ptr r 0 0 q)::(r,v)::K
def Ej(r p0 Z h:Nat)(v y:SV)(s:Path)(K:List (Nat×SV)):List (Nat×SV):=(h,.bC Z 0 0 [])::(Z,y)::(p0,.ptr Z 0 0 s)::(r,v)::K
def MN{q:Path}:dn (sl<|Rn r p0 v q K)=SM (dn<|sl K) r p0 v.den q:=by simp[Rn,sl,fR,SM,Cl.den,SV.den]
def H9{s:Path}:dn (sl<|Ej r p0 Z h v y s K)=vD (dn<|sl K) r p0 Z h v.den y.den s:=by simp[Ej,sl,fR,vD,Cl.den,SV.den]
def Xz(L:List (Nat×SV))(σ:St):Prop:=∃l,σ=dn l/\Aj l L
def TC{c:Code}{g K2:List (Nat×SV)}{Q f:Path}{i b:Nat}{j v3 y2:SV}{v1 v2:(Value->Prop)->SV}{sz t:Nat}{xs ys:List AV}{u:SV}
 (hn:Names N r p0 Z h)(q:eX (BF g) (eX (BK Z g)<|BK h g)=true)(p:eX (BF K2) (eX (BK Z K2)<|BK h K2)=true)(A:j.plain=true)(z:∀C,(v2 C).plain=true)
 (Y:gJ j Q=some ([],y))(M:y.den=.list .own sz xs)(hs:∀C,lu j Q (.pv C)=some ([],v1 C))(H:gJ j (Q++.idx i b::f)=some ([],u))
 (B:∀C,gJ (v2 C) Q=some ([],.pv C))(m:y2.den=.list .own t ys)(x:∀C,lu (v2 C) Q y2=some ([],v3))(D:flat (.idx i b::f)=true)
 (hc:∀C,AK R P N (λ_=>False) [.code c,.inv<|Xz<|Ej r p0 Z h (v2 C) y2 (.idx i b::f) K2]<|sl<|Ej r p0 Z h (v1 C) y (.idx i b::f) g)
 (X:AK R P N F k (sl<|Rn r p0 v3 (Q++.idx i b::f) K2)):AK R P N F (.code c::k) (sl<|Rn r p0 j (Q++.idx i b::f) g):=by
 rw[aO,aO]at q p;intro V w0 S0 a w L hi;rw[MN]at hi;obtain⟨v,T⟩:=N5 (av1:=λC=>(v1 C).den) hn (rW q.1) (nR q.2.1) (nR q.2.2) (by rw[dj];exact A) (by rw[cF Y U,M]) (λC=>fG (hs C) U) ⟨_,cF H U⟩ hi.x;have d:=hc (·=v);have d:AW R P N c (iR R P N (λ_=>False) [.inv (Xz (Ej r p0 Z h (v2 (·=v)) y2 (.idx i b::f) K2))]) (dn (sl (Ej r p0 Z h (v1 (·=v)) y (.idx i b::f) g))):=d;rw[H9,M]at d;have J:R (V.A4 Z h v).rd/\kx P (V.A4 Z h v) w0:=⟨L.1,⟨L.2.laid,L.2.apart⟩⟩;have S:=d.x (V:=V.A4 Z h v) (w0:=w0) (S0:=S0) (a:=a) (w:=w) J T;refine wpIn_mono S λe a' w'⟨s,he,O⟩=>?_;cases e with
 |normal=>obtain⟨l2,rfl,hf⟩:=(he:Xz _ s);have o:=O.fit hf.Hj;rw[H9,m]at o;have n:=KC (av3:=v3.den) hn (rW p.1) (nR p.2.1) (nR p.2.2) (by rw[dj];exact z _) (cF (B _) U) (by rw[<-m];exact fG (x _) U) D o;rw[<-MN]at n;exact⟨_,X,n⟩
 |_=>exact(he:False).elim
end
end
end Go.Ai
namespace Go.Ai.Pg
open Go.Proofs Go.Ai Go.Ai.eE
def U2:aM Tryz.prog 114 [dz pE] (.i 0):=iA gU (B:=[]) aW
def Tp:aM Tryz.prog 94 [xN,xS] (.i 0):=(Ml.same (bs:=[bh fJ,xS]) W W).tW<|.cons Gh<|.cons (.refl _) .nil
def Uw:aM Tryz.prog 75 [.ints .i64 false [0,0]] (.i 0):=iA gU (B:=[]) aW
def JI:aM Tryz.prog 115 [xN,xS,dz pE] (.b false):=(zW.same (bs:=[bh fJ,xS,dz pE]) W W).tW<|.cons Gh<|.cons (.refl _)<|.cons (.refl _) .nil
def S3:aM Tryz.prog 116 [xN,xS] (.fn (.func 196) [] [.box false xQ,.box false xS]):=(Ft.same (bs:=[bh fJ,xS]) W W).tW<|.cons Gh<|.cons (.refl _) .nil
def Ya:aM Tryz.prog 96 [xv,.i<|-3] (fq 1 8):=iA gU (B:=[]) aW
def T6:aM Tryz.prog 98 [fq 1 16,fq 1 8] (fq 1 128):=iA gU (B:=[]) aW
def xE:ck:=[49,47,49,50,56]
def Qe:ck:=[49,47,52]
def Vm:Nat->SV
 |0=>XZ [49] [49] [49]
 |1=>XZ xE [49] [49]
 |_=>XZ xE Qe [49]
def Qn{T:pW}(a:∀g xs r,T g xs=some r->aM Tryz.prog g xs r){B:List Nat}{g:FuncId}{xs H out:List SV}{r:SV}(h:Qu (exec Tryz.prog tt T B 100000) Tryz.prog tt g xs H=some (out,r)):lp Tryz.prog g H xs out r:=Bs hA hW (qL (B:=B) hA hm hW a 100000) h
def pR(k:Nat):Path:=[.deref,.deref,.at 0 (some 3),.at 1 none,.idx 0 5,.at 1 none,.idx k 2,.at 1 none]
def Td:lp Tryz.prog 111 [.box true<|.box true<|Vm 0] [.bC 1000000 0 0 [.deref],.ptr 1000000 0 0 (pR 0),fq 1 128] [.box true<|.box true<|Vm 1] (.bW []):=Qn gU (B:=[]) aW
def Tc:lp Tryz.prog 111 [.box true<|.box true<|Vm 1] [.bC 1000000 0 0 [.deref],.ptr 1000000 0 0 (pR 1),fq 1 4] [.box true<|.box true<|Vm 2] (.bW []):=Qn gU (B:=[]) aW
def Y2(a:ck):SV:=.row true 5 [.agg [.s bq,.row true 2 [.agg [.i 1,.s xE],.agg [.i 0,.s Qe]],.i 1,.s a,.nil]]
def Y4(C:Value->Prop):SV:=.box true<|.box true<|.agg [.i 2,.pv C,.ints .i64 true [1],.i 0]
def Zt:aM Tryz.prog 96 [xv,.i 6] (fq 64 1):=iA gU (B:=[]) aW
def Tb(C:Value->Prop):lp Tryz.prog 111 [Y4 C,Y2 [49]] [.bC 1000000 0 0 [.deref],.ptr 1000001 0 0 [.idx 0 5,.at 3 none],fq 64 1] [Y4 C,Y2 [54,52]] (.bW []):=Qn gU (B:=[]) aW
def pU:Path:=[.deref,.deref,.at 0 (some 3),.at 1 none]
def kU:List (Nat×SV):=[(6,.box true<|.agg [.i 0,.nil,.nil]),(10,.box true xv),(16,.i 6),(96,.i 1),(97,.i 0)]
theorem I8:aM Tryz.prog 41 [xN,dz pE,xS] (.bW [.agg [.i 2,.row false 5 [.agg [.s bq,.row false 2 [.agg [.i 1,.s xE],.agg [.i 0,.s Qe]],.i 1,.s [54,52],.nil]],.ints .i64 false [1]],.i 0]):=by
 refine enter (fn:=Tryz.f41) Tryz.func41 W W W W ?_;refine r0 W ?_;refine cl W W QD W ?_;refine r0 W ?_;refine br W W W (fun g=>absurd W g) (fun _=>?_);refine r0 W ?_;refine cd W W U2 W ?_;refine r0 W ?_;refine cd W W Tp W ?_;refine r0 W ?_;refine cd W W Uw W ?_;refine k0 W aW ?_;refine br W W W (fun g=>absurd W g) (fun _=>?_);refine r0 W ?_;refine cl W W JI W ?_;refine r0 W ?_;refine cl W W Fz W ?_;refine r0 W ?_;refine cl W W RX W ?_;refine r0 W ?_;refine cl W W S3 W ?_;refine r0 W ?_;refine Bv [3,4,10,11] [3,4,10,11] 2 2 (fun k=>[xV k]) (fun k=>[.box true xN,.box true (dz pE),.box true xv,.box true (.box true (Vm k))]) (fun _=>true) (fun _=>none) (.bW [])
  rfl W W W W Tryz.func196 W W W W W W (fun _ _=>rfl) (fun _=>rfl) ?_ W W (fun k _ h=>rfl) (fun C J d=>A6 C J fun v e k a=>d v e k a fun _ _=>rfl) ?_ ?_ ?_
 ·intro k a z b;simp only[abz,acG,or_false]at b;rcases b with rfl|rfl|rfl|rfl<;>rfl
 ·intro k a _
  match k,a with
  |0,_=>refine r0 W ?_;refine rH ?_;refine r1 W (aP W) ?_;refine cl W W Vs W ?_;refine r0 W ?_;refine aC 57 W (fun _=>?_) (fun g=>absurd W g);refine r1 W (aP W) ?_;refine br W W W (fun _=>?_) (fun g=>absurd W g);refine r1 W (aP W) ?_;refine cd W W Ya W ?_;refine r0 W ?_;refine cd W W T6 W ?_;refine k1 W aW (aP W) ?_;refine ZL W W (Td.same W W W W) W ?_;refine k0 W aW ?_;exact zA [(1000000,.box true xN),(1000001,.box true (dz pE)),(1000002,.box true xv),(1000003,.box true (.box true (Vm 1)))] W W ⟨⟨W,W,.refl _⟩,⟨W,W,.refl _⟩,⟨W,W,.refl _⟩,⟨W,W,.refl _⟩,trivial⟩ ⟨⟨W,W⟩,⟨W,W⟩,⟨W,W⟩,⟨W,W⟩,trivial⟩
  |1,_=>refine r0 W ?_;refine rH ?_;refine r1 W (aP W) ?_;refine cl W W Vt W ?_;refine r0 W ?_;refine aC 57 W (fun g=>absurd g fh) (fun _=>?_);refine r1 W (aP W) ?_;refine ZL W W (Tc.same W W W W) W ?_;refine k0 W aW ?_;exact zA [(1000000,.box true xN),(1000001,.box true (dz pE)),(1000002,.box true xv),(1000003,.box true (.box true (Vm 2)))] W W ⟨⟨W,W,.refl _⟩,⟨W,W,.refl _⟩,⟨W,W,.refl _⟩,⟨W,W,.refl _⟩,trivial⟩ ⟨⟨W,W⟩,⟨W,W⟩,⟨W,W⟩,⟨W,W⟩,trivial⟩
 ·intro _;refine r0 W ?_;refine gR ?_;refine r0 W ?_;refine br W W W (fun _=>?_) (fun g=>absurd fh g);refine Z0 32 W aW (aP W) ?_;refine EI (Rn 11 15 (.box true (.box true (Vm 2))) (pU++.idx 0 5::[]) kU) ⟨⟨W,W,W⟩,⟨W,W,.refl _⟩,⟨W,W,.refl _⟩,⟨W,W,.refl _⟩,⟨W,W,.refl _⟩,⟨W,W,.refl _⟩,⟨W,W,.refl _⟩,trivial⟩ ?_;refine TC (Z:=1000000) (h:=1000001) (y:=Y2 [49]) (y2:=Y2 [54,52]) (v1:=Y4) (v2:=Y4) (v3:=.box true (.box true (XZ xE Qe [54,52]))) (K2:=kU)
   ⟨fh,fh,fh,fh,fh,fh,fh,fh,fh⟩ W W W (fun _=>rfl) W W (fun _=>rfl) W (fun _=>rfl) W (fun _=>rfl) W (fun C=>?_) ?_
  ·refine r0 W ?_;refine cd W W Zt W ?_;refine r0 W ?_;refine ZL W W ((Tb C).same W W W W) W ?_;refine k0 W aW ?_;exact⟨_,W,⟨⟨W,W,W⟩,⟨W,W,.refl _⟩,⟨W,W,W⟩,⟨W,W,.refl _⟩,⟨W,W,.refl _⟩,⟨W,W,.refl _⟩,⟨W,W,.refl _⟩,⟨W,W,.refl _⟩,⟨W,W,.refl _⟩,trivial⟩⟩
  exact RP gU (B:=[]) aW
 intro c f;simp at f
def H0:aM Tryz.prog 30 [xN,xS] (.bW [.row true 1 [.strs true [[49,47,49,54],[49,47,52]]],.i 0]):=iA Fq (B:=[]) aW
def Mi:aM Tryz.prog 32 [xN,xR,dz pE,xS] (.bW [.strs true [[49],[50]],.i 0]):=iA Fq (B:=[]) aW
def Tq:aM Tryz.prog 17 [xN,xR,dz pE,xS] (.i 0):=iA Fq (B:=[]) aW
def Sf:aM Tryz.prog 15 [xN,xR,dz pE] (.bW [xS,.i 0]):=iA Fq (B:=[]) aW
def Xr:aM Tryz.prog 15 [xN,xR,dz tR] (.bW [.agg [.nil,.nil],.i 24]):=iA Fq (B:=[]) aW
def RI:aM Tryz.prog 59 [.s [57,47,49,48]] (.bW [.i<|-1,.i 0]):=iA Fq (B:=[]) aW
def Uq:SV:=.bW [.agg [.i 2,.row false 5 [.agg [.s bq,.row false 2 [.agg [.i 1,.s xE],.agg [.i 0,.s Qe]],.i 1,.s [54,52],.nil]],.ints .i64 false [1]],.i 0]
def L2:List yK:=[rk 16 [xN,xR,dz pE]<|.bW [.ints .i64 false [9,7],.row false 1 [.ints .i64 false [2,9]],.i 0],rk 58 [xN,xR,dz pE]<|.bW [Za,.i 0],rk 15 [xN,xR,dz pE]<|.bW [xS,.i 0],rk 15 [xN,xR,dz tR]<|.bW [.agg [.nil,.nil],.i 24],
 rk 30 [xN,xS] (.bW [.row true 1 [.strs true [[49,47,49,54],[49,47,52]]],.i 0]),rk 32 [xN,xR,dz pE,xS]<|.bW [.strs true [[49],[50]],.i 0],rk 41 [xN,dz pE,xS] Uq,rk 59 [.s [57,47,49,48]]<|.bW [.i<|-1,.i 0],
 rk 17 [xN,xR,dz pE,xS] (.i 0),rk 23 [xN,xR,dz tR,.ints .i64 false [7,6]]<|.i 0]
def T2:pW:=BX L2
def YV:Vf Tryz.prog L2:=⟨IC,Ni,Sf,Xr,H0,Mi,I8,RI,Tq,N9,U⟩
def YQ:∀g xs r,T2 g xs=some r->aM Tryz.prog g xs r:=λ_ _ _ h=>oC YV h
def Rs:aM Tryz.prog 57 [] (.agg [.i 2,.row true 5 [.agg [.s [105,110,116,101,103,114,97,116,111,114],.row true 2 [.agg [.i 1,.s [49]],.agg [.i 0,.s [49]]],.i 1,.s [49],.nil]],.ints .i64 true [1]]):=iA gU (B:=[]) aW
def Tt:aM Tryz.prog 60 [.ints .i64 false [9,7],.ints .i64 false [9,7]] (.b true):=iA gU (B:=[]) aW
def Tu:aM Tryz.prog 60 [.ints .i64 false [2,9],.ints .i64 false [2,9]] (.b true):=iA gU (B:=[]) aW
def T5{o:Oper}{x y:Operand}{a b c:Int}{u:TypeId}(n:o.op=.binOp .neq 120 x y u):mE Tryz.prog o [] [.agg [.i a,.i b,.i c],.agg [.i a,.i b,.i c]] [] (.b false):=by
 refine tj W W I ?_;intro w S q D hc m d;have k:Tryz.prog.underlying 120=some (.struct<|Tryz.prog.fieldsOf 120):=aW;have C:Tryz.prog.stoodInHeld 120=false:=aW;have B:q=[.agg #[.int .i64 a,.int .i64 b,.int .i64 c],.agg #[.int .i64 a,.int .i64 b,.int .i64 c]]:=by
  simp only[aB,SV.den,Cells,Rel]at hc;obtain⟨s,R,F1,F2,rfl,-,-,j,r,Q,F3,F4,rfl,-,-,g,rfl,-⟩:=hc;have e:∀(v:Value)(F:List Nat),(∃l:Array Value,v=.agg l/\Cells w S true [.v<|.int .i64 a,.v<|.int .i64 b,.v<|.int .i64 c] l.toList F)->v=.agg #[.int .i64 a,.int .i64 b,.int .i64 c]:=by rintro v F⟨⟨l⟩,rfl,h⟩;simp only[Cells,Rel]at h;obtain⟨N,m1,G1,Z,p,-,-,r1,M,P,Y,X,K,-,-,z,L,O,V,T,J,-,-,t,H,-⟩:=h;rw[r1.2.1,K,z.2.1,J,t.2.1,H]at p;rw[p]
  rw[e s _<|by simp only[Cells,Rel];exact j,e r _<|by simp only[Cells,Rel];exact g]
 have A:m x=.agg #[.int .i64 a,.int .i64 b,.int .i64 c]/\m y=.agg #[.int .i64 a,.int .i64 b,.int .i64 c]:=by
  have:o.op.operands.toList=[x,y]:=by rw[n];rfl
  rw[this,B]at d;simp[ab8,acX,afo,and_true]at d;exact d
 have f:(binOp .neq 120 (.agg #[.int .i64 a,.int .i64 b,.int .i64 c])<|.agg #[.int .i64 a,.int .i64 b,.int .i64 c]).run Tryz.prog w=.ok (.bool false) w:=by
  rw[run_neq_struct,show(10000:Nat)=9999+1 from W,run_equalIn_agg w 9999 120 _ _ k C];simp[Program.fieldsOf,Tryz.underlying120]
  go_simp
 refine⟨.value<|.bool false,.bool false,w,?_,.inl W,S,[],⟨W,W,W,abq _,λ_ _=>rfl⟩,λ_ h=>h,λ_ h=>.inl h,λb h=>D b h,by simp[SV.den,Rel,scalar],acd,I⟩;simp[execOp,n,A,run_eqGuard_agg,hm,f]
def R5(p:gV)(rs:List fD)(b:fE):O9 p rs b=gm p rs b:=by
 unfold O9 gm mH;by_cases h:dT p=0
 ·rw[if_neg<|not_not_intro h,if_neg<|not_not_intro h]
 rw[if_pos h,if_pos h,if_pos h]
def UI{us:List bT}{n:Nat}(e:n<=100)(d:∀u∈us,iQ n u)(rs:List fD)(b:fE):(iv n us rs b).length<=200+24*us.length:=by
 have h:∀i,(hi:i<us.length)->(ry ((n+eR us i:Nat):Int) rs b<|us.getD i default).length<=24:=by
  intro i hi;have hu:=d _<|abw hi;rw[au hi];unfold ry;split
  ·simp[CU]
  split
  ·rename_i g;have:=cS (f:=qR rs b us[i]) (c:=3) (λk=>by simp[qR]) us[i].ah.length;have:=(hu.add g).2.1;omega
  split
  ·simp[GS]
  simp
 have a:∀i,i<=us.length->(jM n us rs b i).length<=200+24*i:=by
  intro i
  induction i with
  |zero=>have:=cS (f:=yw rs b) (c:=2) (λk=>by simp[yw]) n;simp only[jM,kZ,List.range_zero,List.flatMap_nil,acj];omega
  |succ i j=>intro hi;have:=h i E;rw[oa,abE];omega
 exact a _ .refl
def YH{us:List bT}{n:Int}{m:Nat}{rs:List fD}{b:fE}(l:∀u∈us,iQ n u)(e:Vc n rs)(hl:rs.length<2^40)(h:∀u∈us,u.ah.length<2^40)(o:J9 b)(hn:n=m):SK (iv m us rs b):=by
 intro c hc;have q:=e.len;have p:=λu hu k a=>(jo rs b u k (l u hu) a e hl (h u hu) o).2;obtain⟨w,v,t,r⟩:=o;unfold iv jM kZ at hc;rw[abJ,ab1,ab1]at hc;rcases hc with⟨s,hs,hc⟩|⟨j,d,hc⟩
 ·have hs:=ab9.1 hs;have:=(xC rs b s E hl e.val ⟨w,v,t,r⟩).2;simp[yw,or_false]at hc;rcases hc with rfl|rfl<;>dsimp only<;>omega
 have d:=ab9.1 d;rw[au d]at hc;have hu:=l _<|abw d;have a:=p _<|abw d;unfold ry at hc;split at hc
 ·rename_i g;have x:=(hu.int g).1;have i:=a 0 E;have i1:=a 1 E;simp[CU,or_false]at hc;rcases hc with rfl|rfl|rfl|rfl|rfl|rfl|rfl<;>dsimp only<;>omega
 split at hc
 ·rw[ab1]at hc;obtain⟨k,f,hc⟩:=hc;have i:=a k<|ab9.1 f;simp[qR,or_false]at hc;rcases hc with rfl|rfl|rfl<;>dsimp only<;>omega
 split at hc
 ·rename_i g;have y:=(hu.table g).1;have i:=a 0 E;simp[GS,or_false]at hc;rcases hc with rfl|rfl|rfl|rfl<;>dsimp only<;>omega
 cases hc
end Go.Ai.Pg
namespace Go.Ai.Pg
open Go.Proofs Go.Ai
def tx(us:List bT){i:Nat}:∀{j:Nat},i<=j->eR us i<=eR us j
 |0,h=>by rw[Nat.le_zero.1 h];exact abq _
 |j+1,h=>by
  by_cases e:i=j+1
  ·rw[e];exact abq _
  refine abI (tx us (j:=j) E) ?_;by_cases g:j<us.length
  ·rw[kp g];omega
  unfold eR;rw[abB (E:us.length<=j),abB (E:us.length<=j+1)];exact abq _
def CT(us:List bT){t:Nat}:∀{i:Nat},i<=us.length->t<eR us i->∃j,∃h:j<us.length,us[j].kind=dy/\eR us j=t
 |0,_,h=>absurd h (adn _)
 |i+1,hi,h=>by
  by_cases g:t<eR us i
  ·exact CT us E g
  rw[kp E]at h;have a:us[i].kind=dy:=acF λe=>by rw[if_neg e]at h;exact g h
  rw[if_pos a]at h;exact⟨i,E,a,E⟩
def YG{us:List bT}{n:Int}{m:Nat}{rs:List fD}{b:fE}(h:∀u∈us,iQ n u)(l:Vc n rs)(hl:rs.length<2^40)(f:∀u∈us,u.ah.length<2^40)(r:J9 b)(hn:n=m):CW (iv m us rs b) (m+eR us us.length):=by
 refine⟨YH h l hl f r hn,λc hc=>?_,λk q=>?_,λk q=>?_⟩
 ·unfold iv jM kZ at hc;rw[abJ,ab1,ab1]at hc;rcases hc with⟨s,hs,hc⟩|⟨j,a,hc⟩
  ·have hs:=ab9.1 hs;simp only[yw,abz,acG,or_false]at hc;rcases hc with rfl|rfl<;>dsimp only<;>omega
  have a:=ab9.1 a;rw[au a]at hc;have hu:=h _<|abw a;have z:=hu.out;have x:=kp a;have w:=tx us (i:=j+1) (j:=us.length) a;have o:∀k,k<us[j].ah.length->0<=(us[j].ah.getD k default).sh/\(us[j].ah.getD k default).sh<n:=λk q=>by have:=hu.feed _<|bw (d:=default) q;exact⟨this.1,this.2.1⟩
  unfold ry at hc;split at hc
  ·rename_i g;have A:=(hu.int g).1;have v:=o 0 E;have i1:=o 1 E;simp only[CU,abz,acG,or_false]at hc;rcases hc with rfl|rfl|rfl|rfl|rfl|rfl|rfl<;>dsimp only<;>omega
  split at hc
  ·rw[ab1]at hc;obtain⟨k,p,hc⟩:=hc;have v:=o k<|ab9.1 p;simp only[qR,abz,acG,or_false]at hc;rcases hc with rfl|rfl|rfl<;>dsimp only<;>omega
  split at hc
  ·rename_i g;rw[if_pos g]at x;have B:=(hu.table g).1;have v:=o 0 E;simp only[GS,abz,acG,or_false]at hc;rcases hc with rfl|rfl|rfl|rfl<;>dsimp only<;>omega
  simp at hc
 ·unfold iv jM kZ;by_cases g:k<m
  ·exact⟨_,abJ.2<|.inl<|ab1.2 ⟨k,ab9.2 g,adB ..⟩,W,W,(xC rs b k (by have:=l.len;omega) hl l.val r).2.2⟩
  obtain⟨j,a,e,y⟩:=CT us (t:=k-m) (abq _) E;refine⟨⟨((m+eR us j:Nat):Int),-1,tM rs b us[j] 0⟩,abJ.2<|.inr<|ab1.2 ⟨j,ab9.2 a,?_⟩,?_,W,?_⟩
  ·rw[au a];unfold ry;rw[if_neg<|by rw[e];decide,if_neg<|by rw[e];decide,if_pos e];exact adB ..
  ·dsimp only;omega
  have hm:=abw a;exact(jo rs b us[j] 0 (h _ hm) (by have:=(h _ hm).table e;omega) l hl (f _ hm) r).2.2
 unfold iv jM kZ;by_cases g:k<m
 ·exact⟨_,abJ.2<|.inl<|ab1.2 ⟨k,ab9.2 g,acR _<|adB ..⟩,W,W,W⟩
 obtain⟨j,a,e,y⟩:=CT us (t:=k-m) (abq _) E;refine⟨⟨-1,((m+eR us j:Nat):Int),40⟩,abJ.2<|.inr<|ab1.2 ⟨j,ab9.2 a,?_⟩,W,?_,W⟩
 ·rw[au a];unfold ry;rw[if_neg<|by rw[e];decide,if_neg<|by rw[e];decide,if_pos e];exact acR _<|adB ..
 dsimp only;omega
end Go.Ai.Pg
namespace Go.Ai.Pg
open Go.Proofs Go.Ai Go.Ai.eE
def mr(p:gV):Nat:=p.n.toNat+eR p.aa p.aa.length
noncomputable def fU(p:gV)(rs:List fD)(b:fE):List iV:=iv p.n.toNat p.aa rs b
def GU{p:gV}(h:rA p){rs:List fD}(hl:rs.length<2^40){b:fE}(v:YU p rs b):CW (fU p rs b) (mr p)/\(fU p rs b).length<2^20/\mr p<2^10:=by
 have hn:p.n=(p.n.toNat:Int):=by have:=v.n1;omega
 have:=v.n;have hu:=v.aa;have hc:=qQ p.aa p.aa.length;have a:(iv p.n.toNat p.aa rs b).length<=200+24*p.aa.length:=UI E (λu hu=>by rw[<-hn];exact v.val u hu) rs b;exact⟨YG v.val v.rg hl (λu hu=>(h.unit u hu).ah) v.bn hn,by unfold fU;omega,by unfold mr;omega⟩
def UK(l:List Int)(a:l≠[])(hl:l.length<2^40):aM Tryz.prog 63 [.ints .i64 false l] (.ints .i64 true l):=by
 cases l with
 |nil=>exact absurd W a
 |cons x l=>refine bS Tryz.func63 W<|r1 W (by simp only[abD]at hl;simp[ag,len];omega) ?_;exact bF W
def Bh(p:gV)(h:rA p)(rs:List fD)(j:∀s∈rs,ct s.lo/\ct s.hi)(hl:rs.length<2^40)(b:fE)(he:gm p rs b=0):
 aM Tryz.prog 62 [bh p,.bA false 2 default dX rs,dz b] (.bW [.box false<|CA p rs b (lF rs b)<|lS rs b p.aa,if(cq (fU p rs b)<|mr p).l= -1 then .ints .i64 true (cq (fU p rs b)<|mr p).v else .nil,if(cq (fU p rs b)<|mr p).l= -1 then .nil else .ints .i64 true (mA (fU p rs b)<|mr p),.i 0]):=by
 have v:=nm he;have hn:p.n=(p.n.toNat:Int):=by have:=v.n1;omega
 obtain⟨f,e,d⟩:=GU h hl v;have a:=TF (fU p rs b) (mr p) f e d;have c:=qP p h p.n.toNat hn (by have:=v.n;omega) v.aa v.val rs b v.rg v.bn;rw[show iv p.n.toNat p.aa rs b=fU p rs b from W,show p.n.toNat+eR p.aa p.aa.length=mr p from W]at c;have c:aM Tryz.prog 72 [.box false<|CA p rs b (lF rs b)<|lS rs b p.aa] (.bW [.bA false 3 default iU<|fU p rs b,.i (mr p:Nat)]):=c.shr.same W W;generalize fU p rs b=k at*;refine bS Tryz.func62 W<|bP W W (F9 p h rs j hl b he) W<|bQ W W (λg=>absurd W g) λ_=>?_;refine bP W W c W<|r0 W ?_;unfold TG at a;by_cases g:(cq k<|mr p).l= -1
 ·rw[if_pos g]at a;rw[if_pos g,if_pos g];refine bG W a W<|bN W W
 rw[if_neg g]at a;rw[if_neg g,if_neg g];refine bG W a W<|bN W W
noncomputable def PB(rs:List fD)(b:fE)(xs:List Int)(u:bT)(t:Int):List Int:=if u.kind=bq then[tM rs b u 0,xs.getD u.out.toNat 0-tM rs b u 0+b.c]else if u.kind=dy then[t]else List.replicate u.ah.length (xs.getD u.out.toNat 0)
noncomputable def nc(p:gV)(rs:List fD)(b:fE)(v:List Int)(i:Nat):List (List Int):=(List.range i).map λj=>PB rs b ((v.drop 1).take p.n.toNat) (p.aa.getD j default)<|v.getD (p.n.toNat+1+eR p.aa j) 0
def tS(o:Bool)(xs:List Int)(is:List (List Int)):SV:=.agg [.ints .i64 o xs,.bA o 1 [] (SV.ints .i64 o) is]
def U1(p:gV)(h:rA p)(rs:List fD)(c:∀s∈rs,ct s.lo/\ct s.hi)(hl:rs.length<2^40)(b:fE)(he:gm p rs b=0)(a:(cq (fU p rs b)<|mr p).l≠ -1):
 aM Tryz.prog 15 [bh p,.bA false 2 default dX rs,dz b] (.bW [.agg [.nil,.nil],.i 24]):=by
 have hs:=Bh p h rs c hl b he;rw[if_neg a,if_neg a]at hs;obtain⟨x,l,d⟩:∃x l,mA (fU p rs b) (mr p)=x::l:=by
  cases e:mA (fU p rs b) (mr p)with
  |nil=>unfold mA pP at e;simp at e
  |cons x l=>exact⟨x,l,W⟩
 rw[d]at hs;refine bS Tryz.func15 W<|bP W W hs W<|bQ W W (λg=>absurd W g) λ_=>?_;refine r1 W aY<|bF W
noncomputable def Si(p:gV)(rs:List fD)(b:fE)(V X:List Int)(j:Nat):List (Nat×SV):=
 [(3,.box true<|bh p),(5,.box true<|dz b),(6,.box true<|.agg [.nil,.nil]),(8,.box false<|CA p rs b (lF rs b)<|lS rs b p.aa),(9,.ints .i64 false V),(12,.box true<|tS true X<|nc p rs b V j),(13,.i<|p.n+1+eR p.aa j),
  (45,.bA false 5 default dQ p.aa),(46,.i p.aa.length),(47,.i j)]
def EM(p:gV)(rs:List fD)(b:fE)(V:List Int){j:Nat}(h:j<p.aa.length):nc p rs b V (j+1)=nc p rs b V j++[PB rs b ((V.drop 1).take p.n.toNat) p.aa[j]<|V.getD (p.n.toNat+1+eR p.aa j) 0]:=by unfold nc;rw[ad6,abQ,List.map_singleton,au h]
def Xs(p:gV)(h:rA p)(rs:List fD)(Z:∀s∈rs,ct s.lo/\ct s.hi)(hl:rs.length<2^40)(b:fE)(he:gm p rs b=0)(A:(cq (fU p rs b)<|mr p).l= -1):
 aM Tryz.prog 15 [bh p,.bA false 2 default dX rs,dz b] (.bW [tS false (((cq (fU p rs b)<|mr p).v.drop 1).take p.n.toNat)<|nc p rs b (cq (fU p rs b)<|mr p).v p.aa.length,.i 0]):=by
 have hs:=Bh p h rs Z hl b he;have v:=nm he;obtain⟨z,w2,w3⟩:=GU h hl v;rw[if_pos A,if_pos A]at hs;have hV:(cq (fU p rs b)<|mr p).v.length=mr p+1:=(vE z).v;have E1:=v.n1;have hn:=v.n;have K:=v.aa;have B0:p.n.toNat<=mr p:=aeu _ _;have D:∀k,k<=mr p-> -40<=(cq (fU p rs b)<|mr p).v.getD k 0/\(cq (fU p rs b)<|mr p).v.getD k 0<=40:=λk B=>Kt z (sW z A) B;generalize (cq (fU p rs b)<|mr p).v=V at*;obtain⟨X,x⟩:∃X,X=(V.drop 1).take p.n.toNat:=⟨_,W⟩;have J:X.length=p.n.toNat:=by rw[x,abH,acB];omega
 rw[<-x];refine bS Tryz.func15 W<|bP W W hs W<|bQ W W (λg=>absurd W g) λ_=>?_;refine Qr 1 W U<|oN (r:=9) (p:=[]) W W U<|r1 W ba ?_;rw[show(p.n+1).toNat-Int.toNat 1=p.n.toNat by rw[show Int.toNat 1=1 from W];omega,show Int.toNat 1=1 from W,<-x];refine bG W (UK X (λe=>by rw[e]at J;simp at J;omega) E) W ?_;refine r1 W ba ?_;have Y:Ah (.box true<|.agg [.ints .i64 true X,.nil]) (.box true<|tS true X<|nc p rs b V 0):=.box<|.agg<|.cons (.refl _)<|.cons (.le<|show ar .nil (.bA true 1 [] (SV.ints .i64 true) [])from W) .nil;refine EI (Si p rs b V X 0) ⟨⟨W,W,.refl _⟩,⟨W,W,.refl _⟩,⟨W,W,.refl _⟩,⟨W,W,.refl _⟩,⟨W,W,.refl _⟩,⟨W,W,Y⟩,⟨W,W,.le<|ar.of_eq<|congrArg SV.i<|by simp[eR]⟩,⟨W,W,.refl _⟩,⟨W,W,.refl _⟩,⟨W,W,.refl _⟩,U⟩<|loop (Si p rs b V X) (λj=>j<=p.aa.length) (λj=>p.aa.length-j) 0 (aaM _) ⟨G,G,G,G,G,G,G,G,G,G,U⟩ ?_;intro j hj;unfold Si;refine bQ W W ?_ ?_<;>intro g2
 ·have a:j<p.aa.length:=E;have y:(j:Int).toNat=j:=E;have t:p.aa[j]∈p.aa:=abw a;have Q:p.aa.getD j default=p.aa[j]:=au a;have hu:=v.val _ t;have w:=(h.unit _ t).ah;have o:=kp a;have N:=tx p.aa (i:=j+1) (j:=p.aa.length) a;have O:=qQ p.aa p.aa.length;have c:=EM p rs b V a;have d:(lS rs b p.aa).getD j []=ky rs b p.aa[j]:=by unfold lS;rw[au<|by simpa using a];simp
  have E2:(lS rs b p.aa).length=p.aa.length:=by simp[lS]
  rw[<-x]at c;have L:=hu.out;generalize A0:p.aa[j]=u at*;refine Qr 3 W U<|cx 4 [(3,.box true<|bh p),(5,.box true<|dz b),(6,.box true<|.agg [.nil,.nil]),(8,.box false<|CA p rs b (lF rs b)<|lS rs b p.aa),(9,.ints .i64 false V),(12,.box true<|tS true X<|nc p rs b V j),(13,.i<|p.n+1+eR p.aa (j+1)),
   (45,.bA false 5 default dQ p.aa),(46,.i p.aa.length),(47,.i j),(17,.ints .i64 true<|PB rs b X u<|V.getD (p.n.toNat+1+eR p.aa j) 0)] True ?_ λ_=>?_
  ·have eo:(u.out:Int).toNat<X.length:=E;have F1: -40<=X.getD u.out.toNat 0/\X.getD u.out.toNat 0<=40:=by
    rw[x,abx,ac8 E,ada,<-abx];exact D _ E
   have C:∀k,k<u.ah.length-> -40000<=tM rs b u k/\tM rs b u k<=40:=λk B=>(jo rs b u k hu B v.rg hl w v.bn).2;have F:1<=u.ah.length/\u.ah.length<=8:=by
    rcases hu.kind with e|e|e
    ·have:=(hu.int e).1;omega
    ·have:=hu.add e;omega
    have:=(hu.table e).1;omega
   have F0:=v.bn.c;have M:mr p=p.n.toNat+eR p.aa p.aa.length:=W;refine r1 W (by simp only[ag,and_true,y,Q]<;>omega) ?_;rw[y,Q];refine bG W (po _ _ F.1 E) W<|bQ W W ?_ ?_<;>intro m
   ·have m:u.kind=bq:=m;have P:=(hu.int m).1;have i0:=C 0 E;have il:(ky rs b u).length=2:=by rw[IN];exact P
    have q:(ky rs b u).getD 0 0=tM rs b u 0:=sv _ _ _ E;have H:Int.toNat 0=0:=W;have S:Int.toNat 1=1:=W;rw[show List.replicate u.ah.length (X.getD u.out.toNat 0)=[X.getD u.out.toNat 0,X.getD u.out.toNat 0] by rw[P];rfl];refine k1 W aW (by simp only[ag,and_true,y,d,H,S,List.set_cons_zero,afd,q,abD,abK]<;>omega) ?_;refine aN U ⟨G,G,G,G,G,G,⟨W,bR ?_⟩,G,G,G,⟨W,ar.of_eq<|congrArg (SV.ints .i64 true) ?_⟩,U⟩
    ·rw[o,if_neg<|by rw[m];decide];rfl
    unfold PB;rw[if_pos m,y,d,H,q];rfl
   refine bQ W W ?_ ?_<;>intro f
   ·have f:u.kind=dy:=f;rw[if_pos f]at o;have R:(p.n+1+(eR p.aa j:Int)).toNat=p.n.toNat+1+eR p.aa j:=E;have f1:=(hu.table f).1;rw[show List.replicate u.ah.length (X.getD u.out.toNat 0)=[X.getD u.out.toNat 0] by rw[f1];rfl];refine r1 W (by simp only[ag,and_true,R,abD,abK]<;>omega) ?_;refine aN U ⟨G,G,G,G,G,G,⟨W,bR ?_⟩,G,G,G,⟨W,ar.of_eq<|congrArg (SV.ints .i64 true) ?_⟩,U⟩
    ·omega
    unfold PB;rw[if_neg<|by rw[f];decide,if_pos f,R];rfl
   have m:¬u.kind=bq:=m;have f:¬u.kind=dy:=f;refine bL W U ⟨G,G,G,G,G,G,⟨W,bR ?_⟩,G,G,G,⟨W,ar.of_eq<|congrArg (SV.ints .i64 true) ?_⟩,U⟩
   ·rw[o,if_neg f];rfl
   unfold PB;rw[if_neg m,if_neg f]
  have T:(nc p rs b V j).length=j:=by simp[nc]
  refine r1 W (by simp[ag,len,T]<;>omega) ?_;refine vf (j+1) E E ⟨⟨W,W,.refl _⟩,⟨W,W,.refl _⟩,⟨W,W,.refl _⟩,⟨W,W,.refl _⟩,⟨W,W,.refl _⟩,⟨W,W,.box<|.agg<|.cons (.refl _)<|.cons (.row ?_) .nil⟩,⟨W,W,.refl _⟩,⟨W,W,.refl _⟩,⟨W,W,.refl _⟩,⟨W,W,.refl _⟩,U⟩;rw[c,cX,abQ];exact o6.refl _
 have:j=p.aa.length:=E;subst this;refine k0 W aW<|bF W
def Kv(sh:List Int)(is:List (List Int)):Bool:=is.all (λl=>decide (l.length<=12))&&decide (sh.length<=110/\is.length<=110)
def inR(e:Int):Bool:=decide (-40<=e/\e<=40)
def Zx(p:gV)(sh:List Int)(is:List (List Int)):Prop:=(sh.length:Int)=p.n/\is.length=p.aa.length/\∀i<p.aa.length,(is.getD i []).length=(p.aa.getD i default).ah.length
instance(p:gV)(sh:List Int)(is:List (List Int)):Decidable (Zx p sh is):=inferInstanceAs<|Decidable<|_/\_
def aat(sh:List Int)(is:List (List Int)):Bool:=sh.all inR&&is.all λl=>l.all inR
def aaA(p:gV)(sh:List Int)(is:List (List Int)):Int:=if Zx p sh is then if aat sh is=true then 0 else 3 else 2
def aar{α:Type}(f:α->Bool){l:List α}{i:Nat}(h:i<l.length):(l.drop i).all f=(f l[i]&&(l.drop<|i+1).all f):=by rw[abO h,ab7]
def aav(p:gV)(B:rA p)(sh:List Int)(is:List (List Int))(hs:Kv sh is=true):aM Tryz.prog 13 [bh p,tS false sh is] (.i<|aaA p sh is):=by
 have D:=B.aa;unfold Kv at hs;simp only[aby,abN,decide_eq_true_eq]at hs;obtain⟨q,F,H⟩:=hs;unfold aaA;have v:¬Zx p sh is->SV.i 2=SV.i (if Zx p sh is then if aat sh is=true then 0 else 3 else 2):=λh=>by rw[if_neg h]
 refine bS Tryz.func13 W<|cx 2 [(2,.box true<|bh p),(3,.box true<|tS false sh is)] ((sh.length:Int)=p.n/\is.length=p.aa.length) ?_ λJ=>?_
 ·refine bJ W 15 W ?_ ?_<;>intro g
  ·refine bK W W<|ar.of_eq<|v λh=>g h.1
  refine bQ W W ?_ ?_<;>intro g2
  ·refine bK W W<|ar.of_eq<|v λh=>g2<|by rw[h.2.1]
  refine bL W ⟨adm.1 g,E⟩ ⟨G,G,U⟩
 obtain⟨hn,hu⟩:=J;refine r0 W<|ra (λi:Nat=>[(2,.box true<|bh p),(3,.box true<|tS false sh is),(5,.i i)]) (λi=>i<=p.aa.length/\∀k<i,(is.getD k []).length=(p.aa.getD k default).ah.length) (λi=>p.aa.length-i) 0 ⟨aaM _,λk y=>absurd y<|adn k⟩ ?_;rintro i⟨hi,n⟩;refine bQ W W ?_ ?_<;>intro g1
 ·have a:i<p.aa.length:=E;have f:(i:Int).toNat=i:=E;have:=q _<|bw (d:=[])<|show i<is.length from E;have:=(B.unit _<|bw (d:=default) a).ah;refine II W ?_;rw[f];refine gg W ?_ ?_<;>intro g2
  ·refine bK W W<|ar.of_eq<|v λh=>g2<|by rw[h.2.2 i a]
  refine qp W<|gS (i+1) ⟨E,λk y=>?_⟩;by_cases e:k=i
  ·rw[e];omega
  exact n k E
 have x:Zx p sh is:=⟨hn,hu,λi hi=>n i E⟩;rw[if_pos x];have t:¬aat sh is=true->SV.i 3=SV.i (if aat sh is=true then 0 else 3):=λh=>by rw[if_neg h]
 refine r0 W<|ra (λi:Nat=>[(2,.box true<|bh p),(3,.box true<|tS false sh is),(6,.i i)]) (λi=>i<=sh.length/\sh.all inR=(sh.drop i).all inR) (λi=>sh.length-i) 0 ⟨aaM _,W⟩ ?_;rintro i⟨hi,n⟩;refine bQ W W ?_ ?_<;>intro g2
 ·have a:i<sh.length:=E;have f:(i:Int).toNat=i:=E;have m:sh.getD i 0=sh[i]:=au a;rw[aar _ a]at n;have c:inR sh[i]=false->¬aat sh is=true:=λh=>by unfold aat;rw[n,h];simp
  refine qp W ?_;rw[f,m];refine aC 58 W ?_ ?_<;>intro A
  ·refine bK W W<|ar.of_eq<|t<|c<|decide_eq_false E
  refine qp W ?_;rw[f,m];refine gg W ?_ ?_<;>intro z
  ·refine bK W W<|ar.of_eq<|t<|c<|decide_eq_false E
  refine qp W<|gS (i+1) ⟨E,by rw[n,show inR sh[i]=true from decide_eq_true E,ab3]⟩
 have w:sh.all inR=true:=by rw[n,ab5 E];rfl
 have r:aat sh is=is.all λl=>l.all inR:=by unfold aat;rw[w,ab3]
 refine r0 W<|ra (λi:Nat=>[(2,.box true<|bh p),(3,.box true<|tS false sh is),(7,.i i)]) (λi=>i<=is.length/\(is.all λl=>l.all inR)=(is.drop i).all λl=>l.all inR) (λi=>is.length-i) 0 ⟨aaM _,W⟩ ?_;rintro i⟨hi,b⟩;refine bQ W W ?_ ?_<;>intro A
 ·have a:i<is.length:=E;have f:(i:Int).toNat=i:=E;have m:is.getD i []=is[i]:=au a;have C:=q _<|abw a;rw[aar _ a]at b;refine r0 W<|ra (λk:Nat=>[(2,.box true<|bh p),(3,.box true<|tS false sh is),(7,.i i),(8,.i k)]) (λk=>k<=is[i].length/\is[i].all inR=(is[i].drop k).all inR) (λk=>is[i].length-k) 0 ⟨aaM _,W⟩ ?_;rintro k⟨y,j⟩;refine qp W ?_;rw[f,m];refine gg W ?_ ?_<;>intro z
  ·have o:k<is[i].length:=E;have u:(k:Int).toNat=k:=E;have s:is[i].getD k 0=is[i][k]:=au o;rw[aar _ o]at j;have c:inR is[i][k]=false->¬aat sh is=true:=λh=>by rw[r,b,j,h];simp
   refine r1 W (by simp only[ag,and_true,f,u,m]<;>omega) ?_;rw[f,m,u,s];refine aC 92 W ?_ ?_<;>intro L
   ·refine bK W W<|ar.of_eq<|t<|c<|decide_eq_false E
   refine r1 W (by simp only[ag,and_true,f,u,m]<;>omega) ?_;rw[f,m,u,s];refine gg W ?_ ?_<;>intro K
   ·refine bK W W<|ar.of_eq<|t<|c<|decide_eq_false E
   refine qp W<|gS (k+1) ⟨E,by rw[j,show inR is[i][k]=true from decide_eq_true E,ab3]⟩
  rw[show is[i].all inR=true by rw[j,ab5 E];rfl,ab3]at b;refine qp W<|gS (i+1) ⟨E,b⟩
 rw[if_pos<|by rw[r,b,ab5 E];rfl];refine bN W W
def abb(e:Int):aM Tryz.prog 165 [.i e] (.u<|!inR e):=by refine bS Tryz.func165 W<|bP W W (xK e (-40) 40) W<|bK W W<|ar.of_eq<|congrArg SV.u ?_;unfold inR;rw[<-decide_not,decide_eq_decide];omega
def aaS(l:List Int)(hl:l.length<2^60):aM Tryz.prog 148 [.ints .i64 false l,.fn (.func 165) [] []] (.i<|rf (λe=> !inR e) l 0):=by
 refine bS Tryz.func148 W<|bM W (λi:Nat=>[(0,.ints .i64 false l),(1,.fn (.func 165) [] []),(7,.i l.length),(8,.i i)]) (λi=>i<=l.length/\rf (λe=> !inR e) l 0=rf (λe=> !inR e) (l.drop i) i) (λi=>l.length-i) 0 ⟨aaM _,W⟩ ⟨G,G,G,G,U⟩ ?_;rintro i⟨hi,b⟩;refine bQ W W ?_ ?_<;>intro h
 ·have a:i<l.length:=E;have d:(i:Int).toNat=i:=E;rw[Cm _ a]at b;refine r1 W (by simp only[ag,and_true,d];omega) ?_;refine bG W (abb _) W ?_;rw[d,au a];refine r0 W<|ni W W W ?_ ?_<;>intro c
  ·refine bK W W<|bR ?_;rw[b,if_pos c]
  refine r1 W (by simp only[ag,and_true];omega) ?_;refine again (i+1) E ⟨E,?_⟩ ⟨G,G,G,G,U⟩;rw[b,if_neg<|by rw[c];simp]
 refine bK W W<|bR ?_;rw[b,acs E];rfl
def aaH(l:List Int)(hl:l.length<2^60):aM Tryz.prog 73 [.ints .i64 false l,.fn (.func 165) [] []] (.u<|!l.all inR):=by refine bS Tryz.func73 W<|bP W W (aaS l hl) W<|bK W W<|ar.of_eq<|congrArg SV.u ?_;rw[aeP,decide_eq_true_eq,qK _ _ _<|ab2 0];simp
def aa1(p:gV)(s:rA p)(sh:List Int)(is:List (List Int))(hs:Kv sh is=true):aM Tryz.prog 94 [bh p,tS false sh is] (.i<|aaA p sh is):=by
 have u:=s.aa;unfold Kv at hs;simp only[aby,abN,decide_eq_true_eq]at hs;obtain⟨j,v,w⟩:=hs;unfold aaA;have o:¬Zx p sh is->SV.i 2=SV.i (if Zx p sh is then if aat sh is=true then 0 else 3 else 2):=λh=>by rw[if_neg h]
 refine bS Tryz.func94 W<|cx 2 [(2,.box true<|bh p),(3,.box true<|tS false sh is)] ((sh.length:Int)=p.n/\is.length=p.aa.length) ?_ λy=>?_
 ·refine bJ W 15 W ?_ ?_<;>intro g
  ·refine bK W W<|ar.of_eq<|o λh=>g h.1
  refine bQ W W ?_ ?_<;>intro g2
  ·refine bK W W<|ar.of_eq<|o λh=>g2<|by rw[h.2.1]
  refine bL W ⟨adm.1 g,E⟩ ⟨G,G,U⟩
 obtain⟨hn,hu⟩:=y;refine bM W (λi:Nat=>[(2,.box true<|bh p),(3,.box true<|tS false sh is),(25,.bA false 5 default dQ p.aa),(26,.i p.aa.length),(27,.i i)]) (λi=>i<=p.aa.length/\∀k<i,(is.getD k []).length=(p.aa.getD k default).ah.length) (λi=>p.aa.length-i) 0 ⟨aaM _,λk t=>absurd t<|adn k⟩ ⟨G,G,G,G,G,U⟩ ?_;rintro i⟨hi,b⟩;refine bQ W W ?_ ?_<;>intro g1
 ·have a:i<p.aa.length:=E;have n:(i:Int).toNat=i:=E;have:=j _<|bw (d:=[])<|show i<is.length from E;have:=(s.unit _<|bw (d:=default) a).ah;refine k1 W aW (by simp only[ag,and_true,n]<;>omega) ?_;rw[n];refine gg W ?_ ?_<;>intro g2
  ·refine bK W W<|ar.of_eq<|o λh=>g2<|by rw[h.2.2 i a]
  refine r1 W ba<|again (i+1) E ⟨E,λk t=>?_⟩ ⟨G,G,G,G,G,U⟩;by_cases e:k=i
  ·rw[e];omega
  exact b k E
 have q:Zx p sh is:=⟨hn,hu,λi hi=>b i E⟩;rw[if_pos q];obtain⟨L,f⟩:∃L,L=sh::is:=⟨_,W⟩;have r:aat sh is=L.all λl=>l.all inR:=by rw[f];rfl
 have A:L.length=is.length+1:=by rw[f];rfl
 rw[r];refine r1 W (by simp only[ag,and_true];exact⟨λ_=>rfl,λ_=>rfl,by simp only[len];omega⟩) ?_;refine loop (λi:Nat=>[(48,.bA true 1 [] (SV.ints .i64 false) L),(49,.i L.length),(50,.i i)]) (λi=>i<=L.length/\(L.all λl=>l.all inR)=(L.drop i).all λl=>l.all inR) (λi=>L.length-i) 0 ⟨aaM _,W⟩ ⟨⟨W,W,W,by rw[cX,f];exact jC.refl _⟩,⟨W,bR ?_⟩,G,U⟩ ?_
 ·rw[cX,f];simp[fH]
 rintro i⟨hi,b⟩;refine bQ W W ?_ ?_<;>intro g2
 ·have a:i<L.length:=E;have n:(i:Int).toNat=i:=E;have z:L.getD i []=L[i]:=au a;have c:L[i].length<2^60:=by
   have:=abw a;generalize L[i]=x at this;rw[f]at this;rcases abz.1 this with rfl|h
   ·omega
   have:=j _ h;omega
  rw[aar _ a]at b;refine r1 W (by simp only[ag,and_true,n]<;>omega) ?_;rw[n,z];refine bG W (aaH _ c) W<|r0 W<|ni W W W ?_ ?_<;>intro m
  ·refine r0 W ?_;rw[if_neg<|by rw[b];simp only[ado]at m;rw[m];simp];exact bF W
  refine r1 W ba<|again (i+1) E ⟨E,by simp only[Bool.not_eq_false']at m;rw[b,m,ab3]⟩ ⟨G,G,G,U⟩
 rw[if_pos<|by rw[b,ab5 E];rfl];refine bN W W
section
variable{g:FuncId}{P:Int->Bool}{c:SV}
def aaT(f:∀k,aM Tryz.prog g [.i k,.box false c]<|.u<|P k)(l:List Int)(hl:l.length<2^60):aM Tryz.prog 148 [.ints .i64 false l,.fn (.func g) [] [.box false c]] (.i<|rf P l 0):=by
 refine bS Tryz.func148 W<|bM W (λi:Nat=>[(0,.ints .i64 false l),(1,.fn (.func g) [] [.box false c]),(7,.i l.length),(8,.i i)]) (λi=>i<=l.length/\rf P l 0=rf P (l.drop i) i) (λi=>l.length-i) 0 ⟨aaM _,W⟩ ⟨G,G,G,G,U⟩ ?_;rintro i⟨hi,b⟩;refine bQ W W ?_ ?_<;>intro h
 ·have a:i<l.length:=E;have e:(i:Int).toNat=i:=E;rw[Cm _ a]at b;refine r1 W (by simp only[ag,and_true,e];omega) ?_;refine bG W (f _) W ?_;rw[e,au a];refine r0 W<|ni W W W ?_ ?_<;>intro d
  ·refine bK W W<|bR ?_;rw[b,if_pos d]
  refine r1 W (by simp only[ag,and_true];omega) ?_;refine again (i+1) E ⟨E,?_⟩ ⟨G,G,G,G,U⟩;rw[b,if_neg<|by rw[d];simp]
 refine bK W W<|bR ?_;rw[b,acs E];rfl
def aaI(a:∀k,aM Tryz.prog g [.i k,.box false c]<|.u<|P k)(l:List Int)(hl:l.length<2^60):aM Tryz.prog 73 [.ints .i64 false l,.fn (.func g) [] [.box false c]] (.u<|l.any P):=by refine bS Tryz.func73 W<|bP W W (aaT a l hl) W<|bK W W<|ar.of_eq<|congrArg SV.u ?_;rw[aeP,decide_eq_true_eq,qK _ _ _<|ab2 0,afp]
def aa3(k o:Int):aM Tryz.prog 195 [.i k,.box false<|.i o] (.u<|decide (k≠o)):=by refine bS Tryz.func195 W<|bN W W
def cfU(b:fE)(sh:List Int)(u:bT)(l:List Int):Bool:=if u.kind=jz then l.any λk=>decide (k≠sh.getD u.out.toNat 0)else if u.kind=bq then decide (l.getD 0 0+l.getD 1 0-b.c≠sh.getD u.out.toNat 0)else false
def YF(p:gV)(sh:List Int)(is:List (List Int))(b:fE):Prop:=∃j<p.aa.length,cfU b sh (p.aa.getD j default) (is.getD j [])=true
instance(p:gV)(sh:List Int)(is:List (List Int))(b:fE):Decidable (YF p sh is b):=inferInstanceAs<|Decidable<|∃j,j<p.aa.length/\_
structure StV(p:gV)(sh:List Int)(is:List (List Int)):Prop where
 len:Zx p sh is
 sh:∀e∈sh,-40<=e/\e<=40
 is:∀l∈is,∀e∈l,-40<=e/\e<=40
def aaK{p:gV}{sh:List Int}{is:List (List Int)}(h:aaA p sh is=0):StV p sh is:=by
 unfold aaA at h;split at h
 ·split at h
  ·rename_i b a;unfold aat inR at a;simp only[aby,abN,decide_eq_true_eq]at a;exact⟨b,a.1,a.2⟩
  simp at h
 simp at h
def aaJ(p:gV)(B:rA p)(M:∀u∈p.aa,iQ p.n u)(sh:List Int)(is:List (List Int))(hs:StV p sh is)(b:fE)(S:J9 b):aM Tryz.prog 115 [bh p,tS false sh is,dz b] (.u<|decide (YF p sh is b)):=by
 obtain⟨⟨hn,Q,y⟩,v,x⟩:=hs;have N:=B.aa;have R:=S.c;refine bS Tryz.func115 W<|bM W (λi:Nat=>[(3,.box true<|bh p),(4,.box true<|tS false sh is),(5,.box true<|dz b),(12,.bA false 5 default dQ p.aa),(13,.i p.aa.length),(14,.i i)]) (λi=>i<=p.aa.length/\∀k<i,¬cfU b sh (p.aa.getD k default) (is.getD k [])=true) (λi=>p.aa.length-i) 0 ⟨aaM _,λk D=>absurd D<|adn k⟩ ⟨G,G,G,G,G,G,U⟩ ?_;rintro i⟨hi,H⟩;refine bQ W W ?_ ?_<;>intro g1
 ·have q:i<p.aa.length:=E;have J:(i:Int).toNat=i:=E;have t:=bw (d:=(default:bT)) q;have hu:=M _ t;have A:=(B.unit _ t).ah;have w:=bw (d:=([]:List Int)) (show i<is.length from E);have F:=y i q;have o:=x _ w;have a:cfU b sh (p.aa.getD i default) (is.getD i [])=true->decide (YF p sh is b)=true:=λh=>decide_eq_true ⟨i,q,h⟩;have m:¬cfU b sh (p.aa.getD i default) (is.getD i [])=true->∀k<i+1,¬cfU b sh (p.aa.getD k default) (is.getD k [])=true:=λh k D=>by
   by_cases e:k=i
   ·rw[e];exact h
   exact H k E
  have C:=hu.out;have O: -40<=sh.getD (p.aa.getD i default).out.toNat 0/\sh.getD (p.aa.getD i default).out.toNat 0<=40:=v _<|bw E;refine k1 W aW (by simp only[ag,and_true,J]<;>omega) ?_;rw[J];generalize p.aa.getD i default=u at*;generalize is.getD i []=l at*;unfold cfU at a m;refine gg W ?_ ?_<;>intro s
  ·have s:u.kind=jz:=s;rw[if_pos s]at a m;refine oN (r:=9) (p:=[]) W W U<|bP W W (aaI (λk=>aa3 k _) l E) W<|r0 W<|ni W W W ?_ ?_<;>intro f
   ·refine bK W W (show true=_ from(a f).symm)
   refine r1 W ba<|again (i+1) E ⟨E,m<|by rw[f];simp⟩ ⟨G,G,G,G,G,G,U⟩
  have s:¬u.kind=jz:=s;rw[if_neg s]at a m;refine bQ W W ?_ ?_<;>intro f
  ·have f:u.kind=bq:=f;rw[if_pos f]at a m;have X:=(hu.int f).1;have T:=o _<|bw (d:=(0:Int))<|show 0<l.length from E;have i1:=o _<|bw (d:=(0:Int))<|show 1<l.length from E;have L:Int.toNat 0=0:=W;have K:Int.toNat 1=1:=W;refine k1 W aW (by simp only[ag,and_true,L,K]<;>omega) ?_;refine gg W ?_ ?_<;>intro z
   ·refine bK W W (show true=_ from(a<|decide_eq_true z).symm)
   refine r1 W ba<|again (i+1) E ⟨E,m λh=>z<|of_decide_eq_true h⟩ ⟨G,G,G,G,G,G,U⟩
  have f:¬u.kind=bq:=f;rw[if_neg f]at a m;refine r1 W ba<|again (i+1) E ⟨E,m I⟩ ⟨G,G,G,G,G,G,U⟩
 refine bK W W (show false=_ from(decide_eq_false λ⟨j,V,h⟩=>H j E h).symm)
end
def aas(p:gV)(sh:List Int)(is:List (List Int))(i k:Nat):List Int:=[i,k,(is.getD i []).getD k 0,sh.getD ((p.aa.getD i default).ah.getD k default).sh.toNat 0]
def aaO(p:gV)(sh:List Int)(is:List (List Int))(i:Nat):List (List Int):=(List.range (p.aa.getD i default).ah.length).map<|aas p sh is i
def aag(p:gV)(sh:List Int)(is:List (List Int))(i:Nat):List (List Int):=(List.range i).flatMap<|aaO p sh is
def eIn(q:List Int):SV:=.agg [.i<|q.getD 0 0,.i<|q.getD 1 0,.i<|q.getD 2 0,.i<|q.getD 3 0]
def aaB(p:gV)(sh:List Int)(is:List (List Int))(i:Nat):aag p sh is (i+1)=aag p sh is i++aaO p sh is i:=iM _ _
def aaR(p:gV)(sh:List Int)(is:List (List Int))(i:Nat):(aaO p sh is i).length=(p.aa.getD i default).ah.length:=by simp[aaO]
def aaz(p:gV)(sh:List Int)(is:List (List Int)){i k:Nat}(a:k<(p.aa.getD i default).ah.length):∀N,i<N->(aag p sh is N)[(aag p sh is i).length+k]?=some (aas p sh is i k)
 |0,h=>absurd h (adn i)
 |N+1,h=>by
  rw[aaB];by_cases e:i=N
  ·subst e;rw[acu<|aeu _ _,ad3];unfold aaO;rw[adb,ae5 a];rfl
  have b:=aaz p sh is a N E;rw[acn (acU.1 b).1];exact b
def aaZ(p:gV)(sh:List Int)(is:List (List Int)):aM Tryz.prog 116 [bh p,tS false sh is] (.fn (.func 196) [] [.box false<|bh p,.box false<|tS false sh is]):=by
 refine bS Tryz.func116 W<|cx 1 [(2,.box true<|bh p),(3,.box true<|tS false sh is)] True ?_ λ_=>?_
 ·refine bL W U ⟨G,G,U⟩
 refine oN (r:=2) (p:=[]) W W U<|oN (r:=3) (p:=[]) W W U<|bN W W
def aaN(p:gV)(O:rA p)(F:∀u∈p.aa,iQ p.n u)(sh:List Int)(is:List (List Int))(hs:StV p sh is)(f:Nat->Bool)(m:Nat)
 (hm:(∀j<(aag p sh is p.aa.length).length,f j=true)/\m=(aag p sh is p.aa.length).length\/∃q,q<(aag p sh is p.aa.length).length/\f q=false/\(∀j<q,f j=true)/\m=q+1)
 (C:Value->Prop)(J:Nat->tD)(T:∀v,C v->∀k,k<(aag p sh is p.aa.length).length->(∀j,j<k->f j=true)->Yields Tryz.prog (J k) (J<|k+1) (aB [eIn<|(aag p sh is p.aa.length).getD k []]) (f k) v):
 lp Tryz.prog 196 [.abs<|J 0] [.pv C,.box false<|bh p,.box false<|tS false sh is] [.abs<|J m] (.bW []):=by
 obtain⟨⟨hn,Z,L⟩,X,Y⟩:=hs;have V:=O.aa;refine sE (fn:=Tryz.f196) Tryz.func196 W W W W W<|bM W (λi:Nat=>[(0,.pv C),(1,.box false<|bh p),(2,.box false<|tS false sh is),(9,.bA false 5 default dQ p.aa),(10,.i p.aa.length),(11,.i i),(1000000,.abs<|J (aag p sh is i).length)]) (λi=>i<=p.aa.length/\∀j<(aag p sh is i).length,f j=true) (λi=>p.aa.length-i) 0 ⟨aaM _,λk A=>absurd A<|adn k⟩ ⟨G,G,G,G,G,G,W,U⟩ ?_;rintro i⟨hi,Q⟩;refine bQ W W ?_ ?_<;>intro g1
 ·have o:i<p.aa.length:=E;have B:(i:Int).toNat=i:=E;have s:=bw (d:=(default:bT)) o;have hu:=F _ s;have M:=(O.unit _ s).ah;have P:=L i o;have y:=λk(A:k<(p.aa.getD i default).ah.length)=>aaz p sh is A p.aa.length o;have H:=aaB p sh is i;have K:=aaR p sh is i;have D:∀k,aas p sh is i k=[(i:Int),(k:Int),(is.getD i []).getD k 0,sh.getD ((p.aa.getD i default).ah.getD k default).sh.toNat 0]:=λ_=>rfl;refine r1 W (by simp only[ag,and_true,B]<;>omega) ?_;rw[B];generalize p.aa.getD i default=u at*;generalize R:is.getD i []=l at*;refine loop (λk:Nat=>[(0,.pv C),(1,.box false<|bh p),(2,.box false<|tS false sh is),(9,.bA false 5 default dQ p.aa),(10,.i p.aa.length),(11,.i i),(4,.i i),(17,.bA false 2 default oX u.ah),(18,.i u.ah.length),(19,.i k),(1000000,.abs<|J<|(aag p sh is i).length+k)]) (λk=>k<=u.ah.length/\∀j<(aag p sh is i).length+k,f j=true) (λk=>u.ah.length-k) 0 ⟨aaM _,Q⟩ ⟨G,G,G,G,G,G,G,G,G,G,W,U⟩ ?_;rintro k⟨A,c⟩;refine bQ W W ?_ ?_<;>intro g2
  ·have x:k<u.ah.length:=E;have S:(k:Int).toNat=k:=E;have A0:=hu.feed _<|bw (d:=default) x;have N:=y k x;have w:=(acU.1 N).1;have t:(aag p sh is p.aa.length).getD ((aag p sh is i).length+k) []=aas p sh is i k:=by rw[abx,N];rfl
   rw[D]at t;refine r1 W (by simp only[ag,and_true,B,S,R]<;>omega) ?_;rw[B,R,S];have b:=λv F=>T v F _ w c;rw[t]at b;cases a:f ((aag p sh is i).length+k)with
   |true=>
    rw[a]at b;refine PD W W U b W<|k0 W aW<|ni W W W (λg=>absurd g fh) λ_=>?_;refine r1 W ba<|again (k+1) E ⟨E,λj hj=>?_⟩ ⟨G,G,G,G,G,G,G,G,G,G,W,U⟩;by_cases e:j=(aag p sh is i).length+k
    ·rw[e];exact a
    exact c j E
   |false=>
    rw[a]at b;have em:m=(aag p sh is i).length+k+1:=by
     rcases hm with⟨r,-⟩|⟨q,r,z,h3,h4⟩
     ·rw[r _ w]at a;cases a
     have a1:¬q<(aag p sh is i).length+k:=λh=>by rw[c q h]at z;cases z
     have a2:¬(aag p sh is i).length+k<q:=λh=>by rw[h3 _ h]at a;cases a
     omega
    subst em;refine PD W W U b W<|k0 W aW<|ni W W W (λ_=>?_) λg=>absurd g fh;refine r0 W<|SN [(1000000,.abs<|J<|(aag p sh is i).length+k+1)] ⟨W,U⟩ W U ⟨G,U⟩
  have e:k=u.ah.length:=E;subst e;have e2:(aag p sh is<|i+1).length=(aag p sh is i).length+u.ah.length:=by rw[H,abE,K]
  refine r1 W ba ?_;rw[<-e2]at c⊢;exact again (i+1) E ⟨E,c⟩ ⟨G,G,G,G,G,G,W,U⟩
 have e:i=p.aa.length:=E;subst e;have em:m=(aag p sh is p.aa.length).length:=by
  rcases hm with⟨-,r⟩|⟨q,r,z,-,-⟩
  ·exact r
  rw[Q q r]at z;cases z
 subst em;refine r0 W<|SN [(1000000,.abs<|J (aag p sh is p.aa.length).length)] ⟨W,U⟩ W U ⟨G,U⟩
def aah(f:List Int->Bool)(V:List (List Int)):Nat->Bool
 |0=>false
 |k+1=>aah f V k||f (V.getD k [])
def aaq{f:List Int->Bool}{V:List (List Int)}:∀{k:Nat},(∀j<k,f (V.getD j [])=false)->aah f V k=false
 |0,_=>rfl
 |k+1,h=>by unfold aah;rw[aaq λj a=>h j E,h k E];rfl
def aao{f:List Int->Bool}{V:List (List Int)}{j:Nat}(h:f (V.getD j [])=true):∀{k:Nat},j<k->aah f V k=true
 |0,a=>absurd a (adn j)
 |k+1,a=>by
  unfold aah;by_cases e:j=k
  ·rw[<-e,h,Bool.or_true]
  rw[aao h E,Bool.true_or]
def aaG(f:Nat->Bool):∀n,(∀j<n,f j=true)\/∃q,q<n/\f q=false/\∀j<q,f j=true
 |0=>.inl λj a=>absurd a (adn j)
 |n+1=>by
  rcases aaG f n with h|⟨q,d,c,b⟩
  ·cases e:f n with
   |true=>
    refine .inl λj a=>?_;by_cases g:j=n
    ·rw[g];exact e
    exact h j E
   |false=>exact .inr ⟨n,adh n,e,h⟩
  exact .inr ⟨q,E,c,b⟩
def aaQ{p:gV}{sh:List Int}{is:List (List Int)}{k N:Nat}(a:k<(aag p sh is N).length):∃i j,i<N/\j<(p.aa.getD i default).ah.length/\(aag p sh is N).getD k []=aas p sh is i j:=by have:=bw (d:=([]:List Int)) a;unfold aag at this⊢;rw[ab1]at this;obtain⟨i,hi,h⟩:=this;unfold aaO at h;rw[abF]at h;obtain⟨j,b,h⟩:=h;exact⟨i,j,ab9.1 hi,ab9.1 b,h.symm⟩
noncomputable def ovB(p:gV)(rs:List fD)(b:fE)(q:List Int):Bool:=decide (((lS rs b p.aa).getD (q.getD 0 0).toNat []).getD (q.getD 1 0).toNat 0<q.getD 2 0)
noncomputable def frB(p:gV)(rs:List fD)(b:fE)(q:List Int):Bool:= !ovB p rs b q&&decide (q.getD 2 0-q.getD 3 0< -b.g\/b.g<q.getD 2 0-q.getD 3 0)
def ovS(rs:List fD)(b:fE)(sh:List Int):Prop:=∃i<sh.length,(lF rs b).getD i 0<sh.getD i 0
noncomputable instance(rs:List fD)(b:fE)(sh:List Int):Decidable (ovS rs b sh):=inferInstanceAs<|Decidable<|∃i,i<sh.length/\_
noncomputable def aaE(p:gV)(rs:List fD)(b:fE)(sh:List Int)(is:List (List Int)):Int:=
 if aaA p sh is≠0 then aaA p sh is else if ovS rs b sh then 4 else if aah (ovB p rs b) (aag p sh is p.aa.length) (aag p sh is p.aa.length).length=true then 4 else
 if YF p sh is b then 30 else if aah (frB p rs b) (aag p sh is p.aa.length) (aag p sh is p.aa.length).length=true then 24 else 0
noncomputable def aaX(p:gV)(rs:List fD)(b:fE)(V:List (List Int))(k:Nat):List SV:=[.box true<|.box false<|CA p rs b (lF rs b)<|lS rs b p.aa,.box true<|.u<|aah (frB p rs b) V k,.box true<|.i<|if aah (ovB p rs b) V k=true then 4 else 0]
def abd(p:gV)(A:rA p)(rs:List fD)(b:fE)(v:YU p rs b)(hl:rs.length<2^40)(sh:List Int)(is:List (List Int))(hs:Kv sh is=true):
 aM Tryz.prog 66 [.box false<|CA p rs b (lF rs b)<|lS rs b p.aa,tS false sh is] (.i<|aaE p rs b sh is):=by
 unfold aaE;have u:=(aa1 p A sh is hs);refine bS Tryz.func66 W<|bO W W (u.same W W) W<|k0 W aW<|gg W ?_ ?_<;>intro g
 ·rw[if_pos g];refine bN W W
 have n:=aaK<|adm.1 g;have hv:=n;obtain⟨⟨hn,E2,Q⟩,N,O⟩:=hv;rw[if_neg g];have B0:(lF rs b).length=rs.length:=by simp[lF]
 have E1:=v.rg.len;refine bM W (λi:Nat=>[(2,.box true<|.box false<|CA p rs b (lF rs b)<|lS rs b p.aa),(3,.box true<|tS false sh is),(4,.box true<|.i 0),(20,.ints .i64 false sh),(21,.i sh.length),(22,.i i)]) (λi=>i<=sh.length/\∀k<i,¬(lF rs b).getD k 0<sh.getD k 0) (λi=>sh.length-i) 0 ⟨aaM _,λk B=>absurd B<|adn k⟩ ⟨G,G,G,G,G,G,U⟩ ?_;rintro i⟨hi,hf⟩;refine bQ W W ?_ ?_<;>intro g1
 ·have P:i<sh.length:=E;have s:(i:Int).toNat=i:=E;refine r1 W (by simp only[ag,and_true,s]<;>omega) ?_;rw[s];refine gg W ?_ ?_<;>intro g2
  ·rw[if_pos ⟨i,P,g2⟩];refine bN W W
  refine r1 W ba<|again (i+1) E ⟨E,λk B=>?_⟩ ⟨G,G,G,G,G,G,U⟩;by_cases e:k=i
  ·rw[e];exact g2
  exact hf k E
 rw[if_neg λ⟨k,S,L⟩=>hf k E L];refine bO W W ((aaZ p sh is).same W W) W<|k0 W aW ?_;have A0:=A.aa;obtain⟨V,K⟩:∃V,V=aag p sh is p.aa.length:=⟨_,W⟩;rw[<-K];obtain⟨m,hm,w⟩:∃m,((∀j<V.length,(!ovB p rs b (V.getD j []))=true)/\m=V.length\/∃q,q<V.length/\(!ovB p rs b (V.getD q []))=false/\(∀j<q,(!ovB p rs b (V.getD j []))=true)/\m=q+1)/\
  ((aah (ovB p rs b) V m=false/\m=V.length)\/(aah (ovB p rs b) V m=true/\aah (ovB p rs b) V V.length=true)):=by
  rcases aaG (λj=> !ovB p rs b (V.getD j [])) V.length with h|⟨q,S,L,h3⟩
  ·exact⟨_,.inl ⟨h,W⟩,.inl ⟨aaq λj o=>by simpa using h j o,W⟩⟩
  have H:ovB p rs b (V.getD q [])=true:=by simpa using L
  exact⟨q+1,.inr ⟨q,S,L,h3,W⟩,.inr ⟨aao H<|adh q,aao H S⟩⟩
 refine EI [(2,.box true<|.box false<|CA p rs b (lF rs b)<|lS rs b p.aa),(3,.box true<|tS false sh is),(4,.box true<|.i 0),(8,.box true<|.u false),(42,.fn (.func 196) [] [.box false<|bh p,.box false<|tS false sh is])]
  ⟨⟨W,W,.refl _⟩,⟨W,W,.refl _⟩,⟨W,W,.refl _⟩,⟨W,W,.box<|.le<|show ar (.b false) (.u false)from W⟩,⟨W,W,.refl _⟩,U⟩<|Bv [2,8,4] [2,8,4] V.length m (λk=>[eIn<|V.getD k []]) (aaX p rs b V) (λk=> !ovB p rs b (V.getD k [])) (λk=>if aah (ovB p rs b) V k=true then some .ret else none) (.bW [])
  rfl W W W W Tryz.func196 W W W W W W (λ_ _=>rfl) (λ_=>rfl) ?_ W W (λk _ h=>?_) (λC J X=>?_) ?_ ?_ ?_
 ·intro k B z M;unfold aaX at M;simp only[abz,acG,or_false]at M;rcases M with rfl|rfl|rfl<;>rfl
 ·rw[aaq λj o=>by have:=h j o;simpa using this];rfl
 ·rw[K]at hm X;exact aaN p A v.val sh is n (λk=> !ovB p rs b ((aag p sh is p.aa.length).getD k [])) m hm C J X
 ·intro k B H;have f:aah (ovB p rs b) V k=false:=aaq λj o=>by simpa using H j o
  obtain⟨i,j,hi,o,D⟩:=aaQ (by rw[<-K];exact B);rw[<-K]at D;have t:=bw (d:=(default:bT)) hi;have hu:=v.val _ t;have Y:=(A.unit _ t).ah;have Z:=Q i hi;have F0:=hu.feed _<|bw (d:=default) o;have s:(i:Int).toNat=i:=ab4 i;have T:(j:Int).toNat=j:=ab4 j;have R:(lS rs b p.aa).getD i []=ky rs b (p.aa.getD i default):=by unfold lS;rw[au<|by simpa using hi,au hi];simp
  have F2:(lS rs b p.aa).length=p.aa.length:=by simp[lS]
  have F1:(ky rs b<|p.aa.getD i default).length=(p.aa.getD i default).ah.length:=IN _ _ _;have x1:=O _ (bw (d:=([]:List Int))<|show i<is.length from E) _<|bw (d:=(0:Int))<|show j<(is.getD i []).length from E;have x2:=N _<|bw (d:=(0:Int))<|show((p.aa.getD i default).ah.getD j default).sh.toNat<sh.length from E;have ov:ovB p rs b (V.getD k [])=decide ((ky rs b<|p.aa.getD i default).getD j 0<(is.getD i []).getD j 0):=by rw[D];show decide (((lS rs b p.aa).getD (i:Int).toNat []).getD (j:Int).toNat 0<_)=_;rw[s,T,R];rfl
  have fr:frB p rs b (V.getD k [])=(!ovB p rs b (V.getD k [])&&decide ((is.getD i []).getD j 0-sh.getD ((p.aa.getD i default).ah.getD j default).sh.toNat 0< -b.g\/b.g<(is.getD i []).getD j 0-sh.getD ((p.aa.getD i default).ah.getD j default).sh.toNat 0)):=by rw[D];rfl
  have hg:=v.bn.g;have o1:aah (ovB p rs b) V (k+1)=ovB p rs b (V.getD k []):=by show(aah _ V k||_)=_;rw[f,ad0]
  have o2:aah (frB p rs b) V (k+1)=(aah (frB p rs b) V k||frB p rs b (V.getD k [])):=W;unfold aaX;rw[f,o1,o2,fr,ov,D];rw[show eIn (aas p sh is i j)=.agg [.i i,.i j,.i<|(is.getD i []).getD j 0,.i<|sh.getD ((p.aa.getD i default).ah.getD j default).sh.toNat 0]from W];generalize (is.getD i []).getD j 0=x at*;generalize sh.getD ((p.aa.getD i default).ah.getD j default).sh.toNat 0=y at*;generalize aah (frB p rs b) V k=F at*;refine r0 W<|rH<|k1 W aW (by simp only[ag,and_true,s,T,R]<;>omega) ?_;rw[s,T,R];refine gg W ?_ ?_<;>intro g2
  ·rw[decide_eq_true g2,aeZ,Bool.false_and,Bool.or_false];refine r0 W<|XS [(1000000,.box true<|.box false<|CA p rs b (lF rs b)<|lS rs b p.aa),(1000001,.box true<|.u F),(1000002,.box true<|.i 4)] W W ⟨⟨W,W,.refl _⟩,⟨W,W,.refl _⟩,⟨W,W,.refl _⟩,U⟩ ⟨G,G,G,U⟩
  rw[decide_eq_false g2,Bool.not_false,ab3];refine r0 W<|iN 60 W ?_ ?_<;>intro r
  ·have r:F=true:=by simpa using r
   refine k0 W aW<|zA [(1000000,.box true<|.box false<|CA p rs b (lF rs b)<|lS rs b p.aa),(1000001,.box true<|.u<|F||decide (x-y< -b.g\/b.g<x-y)),(1000002,.box true<|.i 0)] W W ⟨⟨W,W,.refl _⟩,⟨W,W,.box<|.le ?_⟩,⟨W,W,.refl _⟩,U⟩ ⟨G,G,G,U⟩;exact show true=_ by rw[r];rfl
  have r:F=false:=by simpa using r
  refine r1 W ba<|bH W (xK _ _ _) W<|k0 W aW<|zA [(1000000,.box true<|.box false<|CA p rs b (lF rs b)<|lS rs b p.aa),(1000001,.box true<|.u<|F||decide (x-y< -b.g\/b.g<x-y)),(1000002,.box true<|.i 0)] W W ⟨⟨W,W,.refl _⟩,⟨W,W,.box<|.le ?_⟩,⟨W,W,.refl _⟩,U⟩ ⟨G,G,G,U⟩;exact ar.of_eq (congrArg SV.u<|by rw[r,ad0,Int.zero_sub])
 ·intro a;have f:aah (ovB p rs b) V m=false/\m=V.length:=by
   rcases w with h|⟨h,-⟩
   ·exact h
   rw[if_pos h]at a;cases a
  obtain⟨f,rfl⟩:=f;rw[if_neg<|by rw[f];simp];unfold aaX;rw[f];refine bO W W ((aaJ p A v.val sh is n b v.bn).same W W) W<|bO W W (SX _ 30) W<|bO W W (SX _ 24) W<|bO W W (RG _ I) W<|k0 W aW<|aE W<|bR ?_;by_cases g1:YF p sh is b
  ·simp[aK,g1]
  cases g2:aah (frB p rs b) V V.length<;>simp[aK,g1]
 intro c a;have l:aah (ovB p rs b) V m=true/\aah (ovB p rs b) V V.length=true:=by
  rcases w with⟨h,-⟩|h
  ·rw[if_neg<|by rw[h];simp]at a;cases a
  exact h
 rw[if_pos l.1]at a;rw[if_pos l.2];unfold aaX;rw[if_pos l.1];refine⟨(Option.some.inj a).symm,?_⟩;exact bF W
def aa2(p:gV)(h:rA p)(rs:List fD)(a:∀s∈rs,ct s.lo/\ct s.hi)(hl:rs.length<2^40)(b:fE)(he:gm p rs b=0)(sh:List Int)(is:List (List Int))(hs:Kv sh is=true):
 aM Tryz.prog 17 [bh p,.bA false 2 default dX rs,dz b,tS false sh is] (.i<|aaE p rs b sh is):=by
 refine bS Tryz.func17 W<|bP W W (F9 p h rs a hl b he) W<|bQ W W (λg=>absurd W g) λ_=>?_;refine bP W W ((abd p h rs b (nm he) hl sh is hs).same W W) W<|bN W W
structure aa8(p:gV)(rs:List fD)(b:fE)(sh:List Int)(is:List (List Int)):Prop where
 v:StV p sh is
 s:∀i<sh.length,sh.getD i 0<=(lF rs b).getD i 0
 i:∀i,i<p.aa.length->∀k,k<(p.aa.getD i default).ah.length->(is.getD i []).getD k 0<=tM rs b (p.aa.getD i default) k/\
  -b.g<=(is.getD i []).getD k 0-sh.getD ((p.aa.getD i default).ah.getD k default).sh.toNat 0/\(is.getD i []).getD k 0-sh.getD ((p.aa.getD i default).ah.getD k default).sh.toNat 0<=b.g
 c:¬YF p sh is b
end Go.Ai.Pg
section
namespace Go.Ai.Pg
open Go.Proofs Go.Ai
def aal{p:gV}{rs:List fD}{b:fE}{c:iV}:c∈fU p rs b↔(∃s,s<p.n.toNat/\c∈yw rs b s)\/∃j,j<p.aa.length/\c∈ry ((p.n.toNat+eR p.aa j:Nat):Int) rs b (p.aa.getD j default):=by unfold fU iv jM kZ;rw[abJ,ab1,ab1];simp only[ab9]
end Go.Ai.Pg
end
namespace Go.Ai.Pg
open Go.Proofs Go.Ai
section
variable{b:fE}{V:List Int}{p:gV}
def aa5{rs:List fD}{y:Nat->Int}(a:Dj (fU p rs b) y){j:Nat}(d:j<p.aa.length){c:iV}(hc:c∈ry ((p.n.toNat+eR p.aa j:Nat):Int) rs b (p.aa.getD j default)):y (nl c)<=y (nt c)+c.dH:=a.2 c<|aal.2<|.inr ⟨j,d,hc⟩
def V5{m:Nat}(a:m+1<=V.length){s:Nat}(hs:s<m):((V.drop 1).take m).getD s 0=ga V (s+1):=by unfold ga;rw[abx,ac8 hs,ada,<-abx,aeT]
def LQ{rs:List fD}(v:YU p rs b)(c:p.n.toNat+1<=V.length):Kv ((V.drop 1).take p.n.toNat) (nc p rs b V p.aa.length)=true:=by
 have:=v.n;have:=v.aa;unfold Kv;rw[aby,abN,decide_eq_true_eq];refine⟨λl hl=>decide_eq_true ?_,by rw[abH];omega,by simp[nc];omega⟩;unfold nc at hl;rw[abF]at hl;obtain⟨j,a,rfl⟩:=hl;have hu:=v.val _<|bw (d:=default)<|ab9.1 a;generalize p.aa.getD j default=u at*;unfold PB;split
 ·simp
 split
 ·simp
 rename_i g1 g2;have:=hu.add<|(hu.kind.resolve_left g1).resolve_right g2;rw[ac2];omega
def aaL{rs:List fD}(v:YU p rs b)(hl:rs.length<2^40)(o:rA p)(O:V.length=mr p+1)(m:Dj (fU p rs b) (ga V)):aaA p ((V.drop 1).take p.n.toNat) (nc p rs b V p.aa.length)=0:=by
 obtain⟨z,-,-⟩:=GU o hl v;have t:=λk D=>Kt z m (k:=k) D;have n1:=v.n1;have C:p.n.toNat<=mr p:=aeu _ _;have x:mr p=p.n.toNat+eR p.aa p.aa.length:=W;have h:(nc p rs b V p.aa.length).length=p.aa.length:=by simp[nc]
 have y:∀j,j<p.aa.length->(nc p rs b V p.aa.length).getD j []=PB rs b ((V.drop 1).take p.n.toNat) (p.aa.getD j default) (V.getD (p.n.toNat+1+eR p.aa j) 0):=λj a=>by rw[au<|by rw[h];exact a];unfold nc;rw[aei,List.getElem_range]
 have q:Zx p ((V.drop 1).take p.n.toNat) (nc p rs b V p.aa.length):=⟨by rw[abH,acB];omega,h,λj a=>by
  have hu:=v.val _<|bw (d:=default) a;rw[y j a];generalize p.aa.getD j default=u at*;unfold PB;split
  ·rename_i g;rw[(hu.int g).1];rfl
  split
  ·rename_i g;rw[(hu.table g).1];rfl
  rw[ac2]⟩
 unfold aaA;rw[if_pos q,if_pos ?_];unfold aat inR;rw[aby,abN,abN];refine⟨λe he=>?_,λl r=>?_⟩
 ·obtain⟨s,hs,rfl⟩:=adz he;rw[abH,acB]at hs;rw[<-au (d:=(0:Int)),V5 E E];have:=t (s+1) E;exact decide_eq_true this
 obtain⟨j,a,rfl⟩:=adz r;rw[h]at a;rw[<-au (d:=([]:List Int)) (by rw[h];exact a),y j a,abN];have hu:=v.val _<|bw (d:=default) a;have hh:=λc hc=>aa5 m a (c:=c) hc;have B:=t<|p.n.toNat+1+eR p.aa j;have F:=tx p.aa (i:=j+1) (j:=p.aa.length) a;have f:=kp a;rw[<-au (d:=(default:bT)) a]at f;have A:=λw=>(jo rs b (p.aa.getD j default) 0 hu w v.rg hl (o.unit _<|bw (d:=default) a).ah v.bn).2;have i1:=λw=>(jo rs b (p.aa.getD j default) 1 hu w v.rg hl (o.unit _<|bw (d:=default) a).ah v.bn).2;have N:=hu.out;have ex:((V.drop 1).take p.n.toNat).getD (p.aa.getD j default).out.toNat 0=ga V ((p.aa.getD j default).out+1).toNat:=by rw[V5 E E];congr 1;omega
 have M:=t ((p.aa.getD j default).out+1).toNat E;have H:ga V ((-1:Int)+1).toNat=0:=m.1;generalize p.aa.getD j default=u at*;intro e he;refine decide_eq_true ?_;unfold PB at he;unfold ry at hh;rw[ex]at he;split at he
 ·rename_i g;rw[if_pos g]at hh;have P:=(hu.int g).1;have R:=A E;have Q:=i1 E;have L:=hh _<|adB ..;have K:=hh _<|acR _<|acR _<|acR _<|adB ..;have J:=hh _<|acR _<|acR _<|acR _<|acR _<|adB ..;simp only[nl,nt,H]at L K J;simp only[abz,acG,or_false]at he;rcases he with rfl|rfl<;>omega
 split at he
 ·rename_i g;rw[if_pos g]at f;rw[adC]at he;subst he;exact B E
 rw[ad7 he];exact M
end
def abo{p:gV}{rs:List fD}{b:fE}{sh:List Int}{is:List (List Int)}(f:aa8 p rs b sh is)(hs:aaA p sh is=0):aaE p rs b sh is=0:=by
 have d:∀j,j<(aag p sh is p.aa.length).length->ovB p rs b ((aag p sh is p.aa.length).getD j [])=false/\frB p rs b ((aag p sh is p.aa.length).getD j [])=false:=λj a=>by
  obtain⟨i,k,hi,g,e⟩:=aaQ a;obtain⟨q,o,n⟩:=f.i i hi k g;rw[e];have l:(lS rs b p.aa).getD i []=ky rs b (p.aa.getD i default):=by unfold lS;rw[au<|by simpa using hi,au hi];simp
  have c:ovB p rs b (aas p sh is i k)=false:=by show decide (((lS rs b p.aa).getD (i:Int).toNat []).getD (k:Int).toNat 0<_)=_;rw[ab4,ab4,l,sv _ _ _ g];exact decide_eq_false<|aeH.2 q
  refine⟨c,?_⟩;unfold frB;rw[c,Bool.not_false,ab3];exact decide_eq_false λh=>h.elim (λh=>aeH.2 o h) λh=>aeH.2 n h
 unfold aaE;rw[if_neg<|not_not_intro hs,if_neg (by rintro⟨i,m,r⟩;have:=f.s i m;omega),aaq λj a=>(d j a).1,if_neg fh,if_neg f.c,aaq λj a=>(d j a).2,if_neg fh]
def abm{p:gV}{rs:List fD}{b:fE}(v:YU p rs b)(hl:rs.length<2^40)(F:rA p){V:List Int}(J:V.length=mr p+1)(l:Dj (fU p rs b) (ga V)):
 aa8 p rs b ((V.drop 1).take p.n.toNat) (nc p rs b V p.aa.length):=by
 have n1:=v.n1;have M:=v.rg.len;have H:p.n.toNat<=mr p:=aeu _ _;have z:ga V ((-1:Int)+1).toNat=0:=l.1;have x:∀a:Int,0<=a->a<p.n->((V.drop 1).take p.n.toNat).getD a.toNat 0=ga V (a+1).toNat:=λa B w=>by rw[V5 E E,show(a+1).toNat=a.toNat+1 from E]
 have C:∀j,j<p.aa.length->(nc p rs b V p.aa.length).getD j []=PB rs b ((V.drop 1).take p.n.toNat) (p.aa.getD j default) (V.getD (p.n.toNat+1+eR p.aa j) 0):=λj r=>by rw[au<|by simpa[nc]using r];unfold nc;rw[aei,List.getElem_range]
 refine⟨aaK<|aaL v hl F J l,λs hs=>?_,λi hi k q=>?_,?_⟩
 ·rw[abH,acB]at hs;have B:=l.2 ⟨s,-1,Px rs b s⟩<|aal.2<|.inl ⟨s,E,by simp[yw]⟩;have w:=x s E E;rw[ab4]at w;simp only[nl,nt,z]at B;rw[Tn rs b E,w];omega
 ·have hu:=v.val _ (bw (d:=default) hi);have hc:=λc h=>aa5 (c:=c) l hi h;have y:=x _ (by have:=hu.out.1;omega) hu.out.2;have A:=hu.feed _<|bw (d:=default) q;have D:=x _ A.1 A.2.1;rw[C i hi,D];generalize o:V.getD (p.n.toNat+1+eR p.aa i) 0=t;have o:ga V ((((p.n.toNat+eR p.aa i:Nat):Int))+1).toNat=t:=by rw[<-o];unfold ga;congr 1;omega
  generalize p.aa.getD i default=u at*;unfold PB;rcases hu.kind with e|e|e
  ·have N:=(hu.int e).1;have m:ry ((p.n.toNat+eR p.aa i:Nat):Int) rs b u=CU rs b u:=if_pos e;rw[m]at hc;rw[if_pos e,y];have g:=hc ⟨(u.ah.getD 0 default).sh,-1,tM rs b u 0+b.g⟩ (by simp[CU]);have f:=hc ⟨-1,(u.ah.getD 0 default).sh,b.g-tM rs b u 0⟩ (by simp[CU]);have c3:=hc ⟨u.out,-1,tM rs b u 1+tM rs b u 0-b.c⟩ (by simp[CU]);have L:=hc ⟨u.out,(u.ah.getD 1 default).sh,b.g+tM rs b u 0-b.c⟩ (by simp[CU]);have K:=hc ⟨(u.ah.getD 1 default).sh,u.out,b.g-tM rs b u 0+b.c⟩ (by simp[CU]);simp only[nl,nt,z]at g f c3 L K;by_cases k0:k=0
   ·subst k0;show tM rs b u 0<=_/\ -b.g<=tM rs b u 0-_/\tM rs b u 0-_<=b.g;omega
   obtain rfl:k=1:=E;show _-tM rs b u 0+b.c<=_/\ -b.g<=_-tM rs b u 0+b.c-_/\_-tM rs b u 0+b.c-_<=b.g;omega
  ·have m:ry ((p.n.toNat+eR p.aa i:Nat):Int) rs b u=(List.range u.ah.length).flatMap (qR rs b u):=by unfold ry;rw[if_neg<|by rw[e];decide,if_pos e]
   rw[m]at hc;have hm:∀c∈qR rs b u k,ga V (nl c)<=ga V (nt c)+c.dH:=λc h=>hc c<|ab1.2 ⟨k,ab9.2 q,h⟩;rw[if_neg<|by rw[e];decide,if_neg<|by rw[e];decide,y,au<|by simpa using q,List.getElem_replicate];have g:=hm ⟨u.out,-1,tM rs b u k⟩ (by simp[qR]);have f:=hm ⟨u.out,(u.ah.getD k default).sh,b.g⟩ (by simp[qR]);have c3:=hm ⟨(u.ah.getD k default).sh,u.out,b.g⟩ (by simp[qR]);simp only[nl,nt,z]at g f c3;omega
  have O:=(hu.table e).1;obtain rfl:k=0:=E;have m:ry ((p.n.toNat+eR p.aa i:Nat):Int) rs b u=GS ((p.n.toNat+eR p.aa i:Nat):Int) rs b u:=by unfold ry;rw[if_neg<|by rw[e];decide,if_neg<|by rw[e];decide,if_pos e]
  rw[m]at hc;rw[if_neg<|by rw[e];decide,if_pos e];have g:=hc ⟨((p.n.toNat+eR p.aa i:Nat):Int),-1,tM rs b u 0⟩ (by simp[GS]);have f:=hc ⟨((p.n.toNat+eR p.aa i:Nat):Int),(u.ah.getD 0 default).sh,b.g⟩ (by simp[GS]);have c3:=hc ⟨(u.ah.getD 0 default).sh,((p.n.toNat+eR p.aa i:Nat):Int),b.g⟩ (by simp[GS]);simp only[nl,nt,z,o]at g f c3;show t<=_/\ -b.g<=t-_/\t-_<=b.g;omega
 rintro⟨j,r,hc⟩;rw[C j r]at hc;generalize p.aa.getD j default=u at*;unfold cfU PB at hc;split at hc
 ·rename_i e;rw[if_neg<|by rw[e];decide,if_neg<|by rw[e];decide]at hc;simp at hc
 split at hc
 ·rename_i e;rw[decide_eq_true_eq]at hc;exact hc (by show tM rs b u 0+(_-tM rs b u 0+b.c)-b.c=_;omega)
 cases hc
end Go.Ai.Pg
namespace Go.Ai.Pg
open Go.Proofs Go.Ai Go.Ai.eE
section
variable{m:Int}{a:Rat}{s:fD}
def abi(h:0<=a){e:Int}(he:e<=mK a m):iK e*a<=iK m:=by
 by_cases b:a=0
 ·rw[b,Rat.mul_zero];exact acq<|s8 m
 unfold mK at he;rw[if_neg b]at he;obtain⟨f,c,-⟩:=M0 (q:=iK m/a) (by have i:=BZ h b m;exact Int.not_le.1 λg=>absurd (adJ.1<|show 0<=(-(iK m/a)).num by rw[aee];omega)<|by grind);rw[jJ c]at he;have d:=Rat.mul_le_mul_of_nonneg_right (ac7 (nM<|show e<=f from E) c.1) h;rwa[Rat.div_mul_cancel b]at d
def abg(h:XJ s)(c:bV s.lo<=a)(b:a<=bV s.hi):mD a<=Gm s:=by rw[WO h,xj];split<;>split<;>grind
def abp(a:Rat):mD (-a)=mD a:=by rw[xj,xj];split<;>split<;>grind
def aaY(r a:Rat):mD (r*a)=mD r*mD a:=by
 by_cases h:r<0
 ·rw[show mD r= -r by rw[xj,if_pos h],<-abp,<-Rat.neg_mul,adx<|-r,SA<|by grind]
 rw[show mD r=r by rw[xj,if_neg h],adx r,SA<|by grind]
def abu(h:XJ s)(c:bV s.lo<=a)(b:a<=bV s.hi){e:Int}(he:e<=mK (Gm s) m):mD (iK e*a)<=iK m:=by rw[adx,SA<|acq<|s8 e];exact ac7 (adw (abg h c b)<|acq<|s8 e)<|abi (uQ s) he
def abv(h:XJ s){r:Rat}(c:bV s.lo<=a)(b:a<=bV s.hi){e:Int}(he:e<=mK (mD<|r*Gm s) m):mD (iK e*(r*a))<=iK m:=by rw[adx,SA<|acq<|s8 e];refine ac7 (adw ?_<|acq<|s8 e)<|abi (oI _) he;rw[aaY,aaY];refine adw ?_<|oI r;rw[show mD (Gm s)=Gm s by rw[xj,if_neg<|afc.2<|uQ s]];exact abg h c b
def abt{lo hi:Rat}(h:lo<=hi){n:Int}(f:0<=n)(e:n<=7):lo<=lo+Rat.divInt n 7*(hi-lo)/\lo+Rat.divInt n 7*(hi-lo)<=hi:=by
 have b:0<=hi-lo:=by grind
 have d:0<=Rat.divInt n 7:=(Rat.divInt_nonneg_iff_of_pos_right fh).2 f;have c:Rat.divInt n 7<=1:=by
  rw[ae0];have:(n:Rat)<=((7:Int):Rat):=aeG.2 e
  grind
 have i:=Rat.mul_nonneg d b;have g:=Rat.mul_le_mul_of_nonneg_right c b;rw[Rat.one_mul]at g;constructor<;>grind
def aa7(a:Rat)(m:Int){K:Nat}(hs:Sz a K)(d:K<=1000)(hm:0<=m/\m<=40)(h:mD a<=iK m):aM Tryz.prog 28 [.s<|qt a,.i m] (.b true):=by
 have c:=(Sz.iK m).mono (L:=100) E;have hc:CV (mD a) (iK m)<=0:=aeH.1 λg=>by have e:=Rat.le_antisymm h<|(Nk _ _).1<|aca g;rw[e]at g;unfold CV at g;rw[Rat.sub_self]at g;exact absurd g fh
 have:aM Tryz.prog 28 [.s<|qt a,.i m] (.u true):=by refine bS Tryz.func28 W<|bP W W (pV a<|hs.tQ E) W<|bP W W (rU m E) W<|bP W W (tA (mD a) (iK m) hs.mD c E) W<|bK W W<|ar.of_eq<|congrArg SV.u<|decide_eq_true hc
 exact this.same W W
end
end Go.Ai.Pg
namespace Go.Ai.Pg
open Go.Proofs Go.Ai
structure Tm(cs:List iV)(n T:Nat)(s:Rx)(τ:Nat->Nat):Prop where
 a:∀k,τ k<=T
 b:∀k,1<=τ k->k<=n/\∃i,i<cs.length/\ga s.b k=i/\nl (cs.getD i default)=k/\ga s.v (nt<|cs.getD i default)+(cs.getD i default).dH<=ga s.v k/\
  (τ k<τ (nt<|cs.getD i default)\/nt (cs.getD i default)=k->ga s.v (nt<|cs.getD i default)+(cs.getD i default).dH<ga s.v k)
 i:∀j k,1<=τ j->τ j=τ k->j=k
 l:s.l= -1\/∃k,s.l=(k:Nat)/\1<=τ k
 m:∀k≤n,0<=ga s.b k->1<=τ k
section
variable{cs:List iV}{n T:Nat}{s:Rx}{τ:Nat->Nat}
def Tm.step(h:Tm cs n T s τ)(hc:CW cs n)(q:pZ n s){j:Nat}(r:j<cs.length):∃o,Tm cs n (T+1) (gO s j<|cs.getD j default) o:=by
 obtain⟨J,H,B,F,-,-⟩:=hc.at<|iC (j:=j) r;obtain⟨l,d,hi,hl,hm⟩:=h;unfold gO;by_cases g:nH s (cs.getD j default)
 ·rw[if_pos g];have m:=λk=>kV (x:=s.v) (i:=nl<|cs.getD j default) (by have:=q.v;omega) (ga s.v (nt<|cs.getD j default)+(cs.getD j default).dH) k;have t:=λk=>kV (x:=s.b) (i:=nl<|cs.getD j default) (by have:=q.b;omega) (j:Int) k;obtain⟨g1,g2⟩:=g;refine⟨λk=>if k=nl (cs.getD j default)then T+1 else τ k,λk=>?_,λk f=>?_,λx y c b=>?_,.inr ⟨nl<|cs.getD j default,B.symm,by rw[if_pos W];omega⟩,λk f d=>?_⟩
  ·have:=l k;split<;>omega
  ·dsimp only at f⊢;rw[t,m];by_cases e:k=nl (cs.getD j default)
   ·rw[if_pos e,if_pos e,if_pos e];refine⟨E,j,r,W,e.symm,?_,λc=>?_⟩
    ·rw[m];split
     ·rename_i a;rw[<-a]at g2;omega
     omega
    rw[m];split
    ·rename_i a;rw[<-a]at g2;omega
    rename_i a;rw[if_neg a]at c;have:=l<|nt<|cs.getD j default;rcases c with c|c
    ·omega
    exact absurd (c.trans e) a
   rw[if_neg e]at f⊢;rw[if_neg e,if_neg e];obtain⟨A,i,z,w,v,p,u⟩:=d k f;refine⟨A,i,z,w,v,?_,?_⟩
   ·rw[m];split
    ·rename_i a;rw[a]at p;omega
    exact p
   rw[m];split
   ·rename_i a;rw[a]at p;intro _;omega
   exact u
  ·have D:=l x;have C:=l y;split at c
   ·rename_i e;rw[if_pos e]at b;split at b
    ·rename_i a;rw[e,a]
    omega
   rename_i e;rw[if_neg e]at b;split at b
   ·omega
   exact hi x y c b
  dsimp only at d⊢;rw[t]at d;split
  ·omega
  rename_i e;rw[if_neg e]at d;exact hm k f d
 rw[if_neg g];exact⟨τ,λk=>by have:=l k;omega,d,hi,hl,hm⟩
def Tm.to(hc:CW cs n)(b:pZ n s)(h:Tm cs n T s τ):∀j≤cs.length,∃a,Tm cs n (T+j) (iT cs s j) a
 |0,_=>⟨τ,h⟩
 |j+1,d=>by obtain⟨a,c⟩:=Tm.to hc b h j E;exact c.step hc (b.to hc j E).1 E
def Tm.run(hc:CW cs n):∀(k:Nat){T:Nat}{s:Rx}{τ:Nat->Nat},pZ n s->Tm cs n T s τ->∃T' a,Tm cs n T' (js cs k s) a
 |0,T,s,τ,_,h=>⟨T,τ,h⟩
 |k+1,T,s,τ,b,h=>by
  obtain⟨a,c⟩:=Tm.to (s:={s with l:= -1}) hc ⟨b.v,b.b,b.z,b.f⟩ ⟨h.a,h.b,h.i,.inl W,h.m⟩ _<|abq _;unfold js;split
  ·exact⟨_,a,c⟩
  exact Tm.run hc k (b.round hc).1 c
def Qk(hc:CW cs n):∃T τ,Tm cs n T (cq cs n) τ:=
 Tm.run (T:=0) (τ:=λ_=>0) hc (n+2) (zb n) ⟨λ_=>abq _,λk b=>absurd b E,λj k c=>absurd c E,.inl W,λk b a=>by unfold Py ga at a;rw[au<|by simp;omega]at a;simp at a⟩
def Aa(cs:List iV)(b:List Int)(k:Nat):Nat->Int
 |0=>0
 |m+1=>Aa cs b k m+(xp cs b<|b7 cs b k m).dH
def Sc(h:Tm cs n T s τ){k:Nat}(a:∀m,1<=τ (b7 cs s.b k m)):∀m,ga s.v (b7 cs s.b k m)+Aa cs s.b k m<=ga s.v k/\(ga s.v (b7 cs s.b k m)+Aa cs s.b k m<ga s.v k\/m<=τ k-τ (b7 cs s.b k m)/\τ (b7 cs s.b k m)<=τ k)
 |0=>⟨by show ga s.v k+0<=_;omega,.inr ⟨aaM _,abq _⟩⟩
 |m+1=>by
  obtain⟨p,o⟩:=Sc h a m;obtain⟨-,i,t,l,r,q,j⟩:=h.b _<|a m;have hn:=a<|m+1;have e:b7 cs s.b k (m+1)=nt (xp cs s.b<|b7 cs s.b k m):=W;have c:xp cs s.b (b7 cs s.b k m)=cs.getD i default:=by unfold xp;rw[l,ab4]
  have f:Aa cs s.b k (m+1)=Aa cs s.b k m+(cs.getD i default).dH:=by show _+(xp cs s.b<|b7 cs s.b k m).dH=_;rw[c]
  rw[c]at e;rw[f,e];rw[e]at hn;refine⟨E,?_⟩;by_cases g:τ (b7 cs s.b k m)<τ (nt<|cs.getD i default)\/nt (cs.getD i default)=b7 cs s.b k m
  ·have:=j g;omega
  have d:τ (nt<|cs.getD i default)≠τ (b7 cs s.b k m):=λe=>g<|.inr<|h.i _ _ hn e;omega
def N1(h:Tm cs n T s τ){k p:Nat}(a:∀m,1<=τ (b7 cs s.b k m))(c:1<=p)(he:b7 cs s.b k p=k):Aa cs s.b k p<0:=by have:=Sc h a p;rw[he]at this;omega
end
def JK(cs:List iV)(b:List Int)(stop:Nat):∀(f a:Nat),(∃p,1<=p/\p<=f/\b7 cs b a p=stop)->∃q,1<=q/\q<=f/\b7 cs b a q=stop/\pP cs b stop f a=(List.range q).map λm=>ga b (b7 cs b a m)
 |0,_,⟨p,j,i,_⟩=>E
 |f+1,a,⟨p,j,i,c⟩=>by
  unfold pP;by_cases e:nt (xp cs b a)=stop
  ·rw[if_pos e];exact⟨1,abq _,E,e,W⟩
  rw[if_neg e];have n:p≠1:=λh=>e (by rw[h]at c;exact c);obtain⟨q,l,k,d,g⟩:=JK cs b stop f (nt<|xp cs b a) ⟨p-1,E,E,by rw[sX,show p-1+1=p from E];exact c⟩;rw[sX]at d;refine⟨q+1,E,E,d,?_⟩;rw[g,List.range_succ_eq_map,ab8,adA];simp only[afm,sX];rfl
def Tg(l:List Int):l.reverse.sum=l.sum:=by
 induction l with
 |nil=>rfl
 |cons x l a=>simp only[List.reverse_cons,List.sum_append,ae2,List.sum_nil,a];omega
def JV(cs:List iV)(b:List Int)(k:Nat):∀q,w8 cs ((List.range q).map λm=>ga b<|b7 cs b k m)=Aa cs b k q
 |0=>rfl
 |q+1=>by have:=JV cs b k q;unfold w8 at*;rw[ad6,abQ,abQ,List.sum_append,this];simp only[ab8,acX,ae2,List.sum_nil,Int.add_zero];rfl
def Fe{cs:List iV}{b:List Int}{k:Nat}(hl:∀m,(DM cs<|ga b<|b7 cs b k m).less=(b7 cs b k m:Int)-1/\(DM cs<|ga b<|b7 cs b k m).qf=(b7 cs b k (m+1):Int)-1):
 ∀(q:Nat)(p:Int),(DM cs p).less=(b7 cs b k q:Int)-1->JS cs p ((List.range q).map λm=>ga b<|b7 cs b k m).reverse
 |0,_,_=>trivial
 |q+1,p,a=>by rw[ad6,abQ,List.reverse_append];exact⟨(hl q).2.trans a.symm,Fe hl q _ (hl q).1⟩
def UO{cs:List iV}{n:Nat}(hc:CW cs n)(hn:n<=200)(hl:(cq cs n).l≠ -1):Nn cs (mA cs n)=0/\mA cs n≠[]:=by
 obtain⟨k,N,A,p,K,J,L⟩:=Fm hc hl;obtain⟨T,D,B⟩:=Qk hc;have M:∀m,1<=D (b7 cs (cq cs n).b k m):=λm=>by obtain⟨w,i,-,s,-⟩:=A m;exact B.m _ w E
 unfold mA;rw[N,ab4];generalize v:(cq cs n).b=b at*;have r:∀m,∃i,i<cs.length/\ga b (b7 cs b k m)=(i:Int)/\(DM cs<|ga b<|b7 cs b k m).less=(b7 cs b k m:Int)-1/\(DM cs<|ga b<|b7 cs b k m).qf=(b7 cs b k (m+1):Int)-1:=λm=>by
  obtain⟨w,i,t,s,Q⟩:=A m;obtain⟨X,V,S,R,-,-⟩:=hc.at<|iC (j:=i) t;have e:DM cs (ga b<|b7 cs b k m)=cs.getD i default:=by unfold DM;rw[s,ab4]
  have O:b7 cs b k (m+1)=nt (cs.getD i default):=by show nt (xp cs b _)=_;unfold xp;rw[s,ab4]
  rw[O,e];exact⟨i,t,s,E,E⟩
 obtain⟨q,H,P,y,F⟩:=JK cs b (b7 cs b k<|n+1) (n+1) (b7 cs b k<|n+1) ⟨p,K,J,by rw[rO];exact L⟩;rw[F];have g:∀m,b7 cs b (b7 cs b k<|n+1) m=b7 cs b k (n+1+m):=rO cs b k<|n+1;generalize hs:b7 cs b k (n+1)=d at*;have a:∀m,∃i,i<cs.length/\ga b (b7 cs b d m)=(i:Int)/\(DM cs<|ga b<|b7 cs b d m).less=(b7 cs b d m:Int)-1/\(DM cs<|ga b<|b7 cs b d m).qf=(b7 cs b d (m+1):Int)-1:=λm=>by rw[g,g];exact r<|n+1+m
 have C:Aa cs b d q<0:=by have:=N1 (k:=d) (p:=q) B (λm=>by rw[v,g];exact M _) H (by rw[v];exact y);rwa[v]at this
 have c:(((List.range q).map λm=>ga b<|b7 cs b d m).reverse).length=q:=I;have u:((List.range q).map λm=>ga b<|b7 cs b d m).reverse≠[]:=λe=>by rw[e]at c;simp at c;omega
 have o:(((List.range q).map λm=>ga b<|b7 cs b d m).reverse).getD (q-1) 0=ga b d:=by rw[au<|by rw[c];omega,List.getElem_reverse,aei,List.getElem_range];simp only[abL,afg];rw[show q-1-(q-1)=0 from E];rfl
 refine⟨?_,u⟩;unfold Nn;rw[c,if_neg E,if_neg E,if_neg ?_,if_neg<|not_not_intro ?_,if_neg ?_]
 ·unfold w8;rw[List.map_reverse,Tg];have:=JV cs b d q;unfold w8 at this;rw[this];omega
 ·rw[o];refine Fe (λm=>by obtain⟨i,-,-,h⟩:=a m;exact h) q _ ?_;rw[y];obtain⟨i,-,-,h,-⟩:=a 0;exact h
 rintro⟨x,z,f⟩;rw[List.mem_reverse,abF]at z;obtain⟨m,-,rfl⟩:=z;obtain⟨i,w,t,-⟩:=a m;unfold J0 at f;simp only[decide_eq_true_eq]at f;rw[t]at f;omega
end Go.Ai.Pg
namespace Go.Ai.Pg
open Go.Proofs Go.Ai Go.Ai.eE
def Qs(p:gV)(h:rA p)(rs:List fD)(c:∀s∈rs,ct s.lo/\ct s.hi)(hl:rs.length<2^40)(b:fE)(he:gm p rs b=0):
 aM Tryz.prog 18 [bh p,.bA false 2 default dX rs,dz b] (if(cq (fU p rs b)<|mr p).l= -1 then .bW [.nil,.i 7]else .bW [.ints .i64 true<|mA (fU p rs b)<|mr p,.i 0]):=by
 have hs:=Bh p h rs c hl b he;by_cases a:(cq (fU p rs b)<|mr p).l= -1
 ·rw[if_pos a,if_pos a]at hs;rw[if_pos a];refine bS Tryz.func18 W<|bP W W hs W<|bQ W W (λg=>absurd W g) λ_=>?_;refine bN W W
 rw[if_neg a,if_neg a]at hs;rw[if_neg a];obtain⟨x,l,d⟩:∃x l,mA (fU p rs b) (mr p)=x::l:=by
  cases e:mA (fU p rs b) (mr p)with
  |nil=>unfold mA pP at e;simp at e
  |cons x l=>exact⟨x,l,W⟩
 rw[d]at hs⊢;refine bS Tryz.func18 W<|bP W W hs W<|bQ W W (λg=>absurd W g) λ_=>?_;refine r1 W aY<|bF W
def abk(H:aM Tryz.prog 14 [] (.b true))(p:gV)(hz:Zb p)(rs:List fD)(b:fE)(K2:rs.length<=9223372036854775807)(K0:∀s∈rs,s.lo.length<=9223372036854775807/\s.hi.length<=9223372036854775807)(w:Int)(hw:0<=w/\w<65536):
 aM Tryz.prog 5 [bh p,Jq rs b,.n .u16 w] (.b true):=by
 refine bS Tryz.func5 W<|cx 2 [(2,.n .u16 w),(3,.box true<|bh p),(4,.box true<|Jq rs b)] (qC p=true/\MY rs=true/\gm p rs b=0) ?_ λhA=>?_
 ·refine bP W W (Ub p hz) W<|r0 W<|iN 27 W ?_ ?_<;>intro g1
  ·refine bP W W H W<|bN W W
  have o:qC p=true:=QL g1;refine bP W W (W9 rs K2 K0) W<|r0 W<|iN 33 W ?_ ?_<;>intro g2
  ·refine bP W W H W<|bN W W
  have t:MY rs=true:=QL g2;obtain⟨T,S⟩:BE p/\p.aa.all nB=true:=by unfold qC at o;rw[aby,aby,decide_eq_true_eq]at o;exact⟨o.1,o.2.1⟩
  have B:=IE T S;obtain⟨x,l⟩:(∀s∈rs,ct s.lo/\ct s.hi)/\rs.length<2^40:=by unfold MY at t;simp only[aby,abN,decide_eq_true_eq,yX]at t;refine⟨λs hs=>?_,E⟩;have:=t.1 s hs;unfold ct;omega
  refine bP W W (Pb p rs b B x l) W ?_;rw[R5];refine bQ W W ?_ ?_<;>intro g4
  ·refine bP W W H W<|bN W W
  refine bL W ⟨o,t,adm.1 g4⟩ ⟨G,G,G,U⟩
 obtain⟨o,t,he⟩:=hA;obtain⟨T,S⟩:BE p/\p.aa.all nB=true:=by unfold qC at o;rw[aby,aby,decide_eq_true_eq]at o;exact⟨o.1,o.2.1⟩
 have B:=IE T S;obtain⟨x,l⟩:(∀s∈rs,ct s.lo/\ct s.hi)/\rs.length<2^40:=by unfold MY at t;simp only[aby,abN,decide_eq_true_eq,yX]at t;refine⟨λs hs=>?_,E⟩;have:=t.1 s hs;unfold ct;omega
 have v:=nm he;obtain⟨w1,w2,w3⟩:=GU B l v;have Z:=(vE w1).v;have V0:=v.n1;have hn:=v.n;have B0:=Qs p B rs x l b he;have S4:=v.rg.len;by_cases hr:(cq (fU p rs b)<|mr p).l= -1
 ·have hB:=Xs p B rs x l b he hr;have O:=sW w1 hr;have G1:=LQ v (b:=b) (rs:=rs) (V:=(cq (fU p rs b)<|mr p).v) (by rw[Z];unfold mr;omega);have G2:=aaL v l B Z O;have F4:=abm v l B Z O;have S0:=abo F4 G2;have P:=aav p B _ _ G1;have Q:=aa2 p B rs x l b he _ _ G1;rw[G2]at P;rw[S0]at Q;generalize nc p rs b (cq (fU p rs b)<|mr p).v p.aa.length=c at*;generalize ((cq (fU p rs b)<|mr p).v.drop 1).take p.n.toNat=X at*;obtain⟨⟨⟨lX,lI,G4⟩,bX,bI⟩,fX,fI,fC⟩:=F4;refine bP W W hB W<|bQ W W (λg=>absurd W g) λ_=>?_;refine bP W W P W<|bJ W 83 W (λg=>absurd W g) λ_=>?_;refine bP W W Q W<|bQ W W (λg=>absurd W g) λ_=>?_;refine bM W (λz:List Rat=>[(2,.n .u16 w),(3,.box true<|bh p),(7,.box true<|tS false X c),(11,.box true<|dz b),(12,.strs true<|z.map qt),(96,.bA false 2 default dX rs),(97,.i rs.length),(98,.i z.length)])
   (λz=>z.length<=rs.length/\∀j,j<z.length->bV (rs.getD j default).lo<=z.getD j 0/\z.getD j 0<=bV (rs.getD j default).hi/\Sz (z.getD j 0) 206) (λz=>rs.length-z.length) [] ⟨aaM _,λj hj=>absurd hj<|adn j⟩ ⟨G,G,G,G,G,G,G,G,U⟩ ?_
  rintro z⟨G5,A0⟩;refine bQ W W ?_ ?_<;>intro g1
  ·have q:z.length<rs.length:=E;have D:(z.length:Int).toNat=z.length:=E;have hs:=v.sp _<|bw (d:=default) q;obtain⟨⟨c1,c2⟩,F2⟩:=hs;have hN:0<=w.fdiv (2^min ((z.length:Int)%13).toNat IntKind.u16.bits)/\w.fdiv (2^min ((z.length:Int)%13).toNat IntKind.u16.bits)<=65536:=by
    rw[ae9 _<|aca<|aew fh];exact⟨ad5 hw.1<|aca<|aew fh,acI (Int.ediv_le_self _ hw.1) E⟩
   refine r1 W (by simp only[ag,and_true,D];omega) ?_;rw[D];generalize w.fdiv (2^min ((z.length:Int)%13).toNat IntKind.u16.bits)=N at*;have A:=fi c1;have y:=fi c2;have M:=D3 (bV (rs.getD z.length default).hi) (bV (rs.getD z.length default).lo) y A fh;rw[fZ c1,fZ c2]at M;have ht:Sz (Rat.divInt (N%8) 7) 3:=xw fh (jn E)<|jn fh;have E2:=gi _ _ ht (y.sub A) fh;have R:=yG _ _ A (ht.mul<|y.sub A) fh;rw[fZ c1]at R;have ha:=A.add<|ht.mul<|y.sub A;obtain⟨q1,q2⟩:=abt F2 (n:=N%8) E E;refine bG W (Ih (N%8) 7 fh E fh) W<|bO W W M W<|bO W W E2 W<|bO W W R W ?_;generalize bV (rs.getD z.length default).lo+Rat.divInt (N%8) 7*(bV (rs.getD z.length default).hi-bV (rs.getD z.length default).lo)=a at*;have hx:=bX _<|bw (d:=(0:Int))<|show z.length<X.length from E;have hk:=fX z.length E;rw[Tn rs b q]at hk;have L0:=gi _ _ (Sz.iK<|X.getD z.length 0) ha E;refine k1 W aW (by simp only[ag,and_true,D,abL,abD,abK]<;>omega) ?_;rw[D];refine bH W (rU _ E) W<|bO W W L0 W<|bO W W (aa7 _ b.s ((Sz.iK<|X.getD z.length 0).mul ha) E v.bn.s<|abu ⟨⟨c1,c2⟩,F2⟩ q1 q2 hk) W<|k1 W aW (by simp only[ag,and_true,D]<;>omega) ?_;refine again (z++[a]) (by rw[abE,adt];omega) ⟨by rw[abE,adt];omega,λj hj=>?_⟩ ⟨G,G,G,G,⟨W,ar.of_eq<|congrArg (SV.strs true)<|by rw[abQ];rfl⟩,G,G,⟨W,ar.of_eq<|congrArg SV.i<|by rw[abE];rfl⟩,U⟩;rw[abE,adt]at hj;by_cases ej:j=z.length
   ·rw[ej,show(z++[a]).getD z.length 0=a from I];exact⟨q1,q2,ha.mono E⟩
   rw[show(z++[a]).getD j 0=z.getD j 0 by rw[abx,acn E,<-abx]];exact A0 j E
  have G5:z.length=rs.length:=E;have gA:∀j,j<z.length->(z.map qt).getD j []=qt (z.getD j 0):=λj hj=>by rw[au<|by simpa using hj,au hj,aei]
  refine bM W (λi:Nat=>[(3,.box true<|bh p),(7,.box true<|tS false X c),(11,.box true<|dz b),(12,.strs true<|z.map qt),(138,.bA false 5 default dQ p.aa),(139,.i p.aa.length),(140,.i i)]) (λi=>i<=p.aa.length) (λi=>p.aa.length-i) 0 (aaM _) ⟨G,G,G,G,G,G,G,U⟩ ?_;intro i hi;have G6:=v.aa;refine bQ W W ?_ ?_<;>intro g2
  ·have q:i<p.aa.length:=E;have D:(i:Int).toNat=i:=E;have hu:=v.val _<|bw (d:=default) q;have V2:=(B.unit _<|bw (d:=default) q).ah;have G3:=fI i q;have S2:=G4 i q;have K:=bI _<|bw (d:=([]:List Int))<|show i<c.length from E;have J:¬cfU b X (p.aa.getD i default) (c.getD i [])=true:=λe=>fC ⟨i,q,e⟩;refine r1 W (by simp only[ag,and_true,D]<;>omega) ?_;rw[D];generalize p.aa.getD i default=u at*;obtain⟨L,eL⟩:∃L,L=c.getD i []:=⟨_,W⟩;rw[<-eL]at G3 S2 K J;have ho:=hu.out;refine loop (λk:Nat=>[(3,.box true<|bh p),(7,.box true<|tS false X c),(11,.box true<|dz b),(12,.strs true<|z.map qt),(138,.bA false 5 default dQ p.aa),(139,.i p.aa.length),(140,.i i),(17,.i i),(18,.box true<|dQ u),(146,.bA false 2 default oX u.ah),(147,.i u.ah.length),(148,.i k)]) (λk=>k<=u.ah.length) (λk=>u.ah.length-k) 0 (aaM _)
    ⟨G,G,G,G,G,G,G,G,G,G,G,G,U⟩ ?_
   intro k hk;refine bQ W W ?_ ?_<;>intro g3
   ·have F3:k<u.ah.length:=E;have ek:(k:Int).toNat=k:=E;have hf:=hu.feed _<|bw (d:=default) F3;obtain⟨i1,i2,i3⟩:=G3 k F3;have bn:=K _<|bw (d:=(0:Int))<|show k<L.length from E;have M1:=bw (d:=(0:Int)) (show k<L.length from E);have H1:(u.ah.getD k default).sh.toNat<X.length:=E;have bs:=bX _<|bw (d:=(0:Int)) H1;have F:=A0 (u.ah.getD k default).sh.toNat E;have H2:=v.sp _<|bw (d:=default)<|show(u.ah.getD k default).sh.toNat<rs.length from E;refine Qr 3 W U<|cx 4 [(3,.box true<|bh p),(7,.box true<|tS false X c),(11,.box true<|dz b),(12,.strs true<|z.map qt),(138,.bA false 5 default dQ p.aa),(139,.i p.aa.length),(140,.i i),(17,.i i),(18,.box true<|dQ u),(146,.bA false 2 default oX u.ah),(147,.i u.ah.length),(148,.i k),(20,.box true<|oX<|u.ah.getD k default),(21,.i<|L.getD k 0),(22,.i<|if u.kind=bq/\k=0 then b.d else b.s)] True ?_ λ_=>?_
    ·refine r1 W (by simp only[ag,and_true,D,ek,<-eL]<;>omega) ?_;rw[D,ek,<-eL];refine aC 166 W ?_ ?_<;>intro h1
     ·have h1:u.kind=bq:=h1;refine bQ W W ?_ ?_<;>intro h2
      ·refine bL W U ⟨G,G,G,G,G,G,G,G,G,G,G,G,G,G,⟨W,ar.of_eq<|congrArg SV.i (if_pos ⟨h1,E⟩).symm⟩,U⟩
      refine bL W U ⟨G,G,G,G,G,G,G,G,G,G,G,G,G,G,⟨W,ar.of_eq<|congrArg SV.i (if_neg λh=>h2 E).symm⟩,U⟩
     refine bL W U ⟨G,G,G,G,G,G,G,G,G,G,G,G,G,G,⟨W,ar.of_eq<|congrArg SV.i (if_neg λh=>h1 h.1).symm⟩,U⟩
    have ki:=abv H2 F.1 F.2.1 (r:=bV (u.ah.getD k default).dZ) (m:=if u.kind=bq/\k=0 then b.d else b.s) (e:=L.getD k 0) i1;have F0:0<=(if u.kind=bq/\k=0 then b.d else b.s)/\(if u.kind=bq/\k=0 then b.d else b.s)<=40:=by split;exact v.bn.d;exact v.bn.s
    have X2:=v.bn.g;generalize (if u.kind=bq/\k=0 then b.d else b.s)=dH at*;generalize u.ah.getD k default=f at*;generalize L.getD k 0=n at*;have P0:=gA f.sh.toNat E;have Y:=fi hf.2.2.1;have F1:=gi (bV f.dZ) (z.getD f.sh.toNat 0) Y F.2.2 fh;rw[fZ hf.2.2.1]at F1;have M2:=gi (iK n) _ (Sz.iK n) (Y.mul F.2.2) E;refine r1 W ba<|bH W (rU n E) W<|r1 W (by simp only[ag,and_true,abL]<;>omega) ?_;rw[P0];refine bH W F1 W<|bO W W M2 W<|bO W W (aa7 _ dH ((Sz.iK n).mul<|Y.mul F.2.2) E F0 ki) W<|bJ W 200 W (λh=>absurd h E) λ_=>?_;refine r1 W ba<|aC 207 W (λh=>absurd h E) λ_=>?_;refine bJ W 211 W ?_ ?_<;>intro h
    ·have h:u.kind=jz:=h;have hn:n=X.getD u.out.toNat 0:=acF λe=>J (by unfold cfU;rw[if_pos h,afp];exact⟨n,M1,decide_eq_true e⟩);refine k1 W aW ba<|gg W (λe=>absurd hn e) λ_=>?_;refine r1 W ba<|again (k+1) E E ⟨G,G,G,G,G,G,G,G,G,G,G,G,U⟩
    refine k1 W aW ba<|again (k+1) E E ⟨G,G,G,G,G,G,G,G,G,G,G,G,U⟩
   refine bJ W 226 W ?_ ?_<;>intro h
   ·have h:u.kind=bq:=h;have f2:=(hu.int h).1;have z0:Int.toNat 0=0:=W;have z1:Int.toNat 1=1:=W;have hX:=bX _<|bw (d:=(0:Int))<|show u.out.toNat<X.length from E;have h0:=K _<|bw (d:=(0:Int))<|show 0<L.length from E;have h1:=K _<|bw (d:=(0:Int))<|show 1<L.length from E;have hbc:=v.bn.c;unfold cfU at J;rw[if_neg<|by rw[h];decide,if_pos h,decide_eq_true_eq]at J;refine k1 W aW (by simp only[ag,and_true,D,<-eL,z0,z1]<;>omega) ?_;rw[D,<-eL,z0,z1];refine gg W (λe=>absurd e<|not_not_intro E) λ_=>?_;refine r1 W ba<|again (i+1) E E ⟨G,G,G,G,G,G,G,U⟩
   refine k1 W aW ba<|again (i+1) E E ⟨G,G,G,G,G,G,G,U⟩
  refine bP W W H W<|bN W W
 have hB:=U1 p B rs x l b he hr;obtain⟨S1,W1⟩:=UO w1 (by have:=v.aa;have:=qQ p.aa p.aa.length;unfold mr;omega) hr;have P1:(mA (fU p rs b)<|mr p).length<2^60:=by unfold mA;rw[List.length_reverse];exact adu (yx _ _ _ _ _) E
 have E1:=abj p B rs x l b he (fU p rs b) W w1.b E (mA (fU p rs b)<|mr p) P1;rw[S1]at E1;rw[if_neg hr]at B0;generalize mA (fU p rs b) (mr p)=C at*;refine bP W W hB W<|bQ W W (λ_=>?_) λg=>absurd fh g;refine bP W W B0 W<|bJ W 62 W (λ_=>?_) λg=>absurd W g;refine bJ W 66 W (λ_=>?_) λg=>absurd W g;refine bP W W E1 W<|bJ W 76 W (λ_=>?_) λg=>absurd W g;refine bP W W H W<|bN W W
def U4:aM Tryz.prog 14 [] (.b true):=by
 refine bS Tryz.func14 W<|bP W W Rs W<|bP W W (IC.same W W) W<|bP W W (Ni.same W W) W<|bP W W (Sf.same W W) W<|bP W W (H0.same W W) W<|bP W W (Mi.same W W) W<|bP W W (I8.same W W) W<|bP W W (RI.same W W) W<|r1 W (aP W)<|aC 87 W (λg=>absurd g fh) λ_=>?_;refine r1 W (aP W)<|aC 91 W (λg=>absurd g fh) λ_=>?_;refine r1 W (aP W)<|bG W (Tt.same W W) W<|r1 W (aP W) ?_
 first
  |refine aC 102 rfl (λg=>absurd g fh) (λ_=>?_)
  |refine aC 97 rfl (λg=>absurd g fh) (λ_=>?_)
  |refine aC 110 rfl (λg=>absurd g fh) (λ_=>?_)
  |refine aC 115 rfl (λg=>absurd g fh) λ_=>?_
 refine r1 W (aP W)<|bG W (Tu.same W W) W<|r1 W (aP W) ?_
 first
  |refine aC 115 rfl (λg=>absurd g fh) (λ_=>?_)
  |refine aC 110 rfl (λg=>absurd g fh) λ_=>?_
 refine r1 W (aP W)<|ex W W W (mE.same (T5 (a:=1) (b:=0) (c:=3) W) W W W W) W<|RP YQ (B:=[]) aW
end Go.Ai.Pg
