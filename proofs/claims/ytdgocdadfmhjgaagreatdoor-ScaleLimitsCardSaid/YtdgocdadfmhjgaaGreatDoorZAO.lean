/- Parts of the proof of ScaleLimits (Limits and Conditions return the results or the errors of the reference), at every input, with no further conditions. -/
import Derived.Test.YtdgocdadfmhjgaaGreatDoorZAN
import Derived.Laws.StandIn
set_option linter.all false
set_option maxRecDepth 100000
set_option maxHeartbeats 0
namespace Go.Ai.cY
open Go.Proofs Go.Ai
theorem xl(A B:Nat)(hB:0<B)(hA:(ae A).length<2^40)(hBl:(ae B).length<2^40):
 aL Tryz.prog 202 [.ints .u64 false<|ae A,.ints .u64 false<|ae B] (.bX [.ints .u64 false<|ae<|A/B,.ints .u64 false<|ae<|A%B]):=by
 have dB:=eI (n:=B) (by omega);refine bE Tryz.func202 rfl<|r0 rfl<|bF rfl (oo A B (by omega)<|by omega) rfl<|r0 rfl<|bH rfl (λh=>?_) (λh=>?_)
 ·have cS:A<B:=by unfold ou at h;split at h<;>omega
  refine r0 rfl<|aG rfl ⟨?_,an.of_eq<|congrArg (SV.ints .u64 false) ?_,ao⟩
  ·rw[adA cS,cD];exact(rfl:([]:List Int)=[])
  rw[adL cS]
 have Kx:B<=A:=by unfold ou at h;split at h<;>omega
 have hlen:=length_le Kx;refine r0 rfl<|bH rfl (λh1=>?_) (λh1=>?_)
 ·have Yd:(ae B).length=1:=by omega
  have hA0:0<(ae A).length:=eI (by omega);have hBW:B<18446744073709551616:=by have:=lX B;rw[Yd]at this;simpa using this
  have eA:(((ae A).length:Nat):Int).toNat=(ae A).length:=by omega
  have hbd:(ae B).getD 0 0=B:=by rw[lM hB hBW];rfl
  refine r1 rfl (by simp only[ag,and_true]<;>omega) ?_;refine loop (λk:Nat=>[(0,.ints .u64 false<|ae A),(1,.ints .u64 false<|ae B),(6,.ints .u64 true<|fx (ae A).length<|A/18446744073709551616^k/B*18446744073709551616^k),(7,.n .u64 (A/18446744073709551616^k%B:Nat)),(8,.i<|(k:Int)-1)])
   (λk=>k<=(ae A).length) (λk=>k) (ae A).length (aav _) ⟨ab,ab,⟨rfl,an.of_eq<|congrArg (SV.ints .u64 true) ?_⟩,⟨rfl,an.of_eq<|congrArg (SV.n .u64) ?_⟩,ab,ao⟩ ?_
  ·rw[eA,adA<|lX A,Nat.zero_div,aht,HQ]
  ·rw[adA<|lX A,Nat.zero_mod];rfl
  intro k hk;refine r0 rfl<|bH rfl (λh=>?_) (λh=>?_)
  ·obtain⟨j,rfl⟩:∃j,k=j+1:=⟨k-1,by omega⟩;have ej:(((j+1:Nat):Int)-1).toNat=j:=by omega
   have hx:(ae A).getD j 0=((A/18446744073709551616^j%18446744073709551616:Nat):Int):=by rw[PQ A];exact xb (by omega)
   have hr:=ab9 (A/18446744073709551616^(j+1)) hB;refine k1 rfl (by kernel_rfl) ?_ ?_
   ·simp only[ag,and_true,ej]<;>omega
   have hd:=Lh hr<|ab9 (A/18446744073709551616^j)<|show 0<18446744073709551616 by decide
   refine dk (us:=[.n .u64 (A/18446744073709551616^(j+1)%B:Nat),.n .u64 (A/18446744073709551616^j%18446744073709551616:Nat),.n .u64 B]) rfl rfl ao ⟨rfl,congrArg (SV.n .u64)<|by rw[ej,hx],congrArg (SV.n .u64) hbd,ao⟩
    (AL _ _ B hr hBW<|ab9 _<|by decide) rfl<|k1 rfl (by kernel_rfl) ?_ ?_
   ·simp only[ag,and_true,ej,fA]<;>omega
   refine again j (by omega) (by omega) ⟨ab,ab,⟨rfl,an.of_eq<|congrArg (SV.ints .u64 true) ?_⟩,⟨rfl,an.of_eq<|congrArg (SV.n .u64) ?_⟩,⟨rfl,an.of_eq<|congrArg (SV.n .i64) ?_⟩,ao⟩
   ·rw[ej];exact Tt hB (by omega) rfl
   ·rw[<-(yB _ _ B hB).2,<-Du]
   omega
  have hk0:k=0:=by omega
  subst hk0;rw[Nat.pow_zero,Nat.div_one,Nat.mul_one];have hm:=ab9 A hB;refine r0 rfl<|bF rfl (dm (fx (ae A).length<|A/B)<|by rw[fA];omega) rfl ?_;refine r0 rfl<|Il (us:=[.ints .u64 false [((A%B:Nat):Int)]]) rfl rfl ao ⟨an.of_eq rfl,ao⟩ (dm [((A%B:Nat):Int)]<|by simp) rfl<|r0 rfl<|aG rfl ⟨an.of_eq<|congrArg (SV.ints .u64 false) ?_,an.of_eq<|congrArg (SV.ints .u64 false) ?_,ao⟩
  ·exact xa<|afS (agf _ _)<|lX A
  rw[dV λd hd=>by simp at hd;omega];generalize A%B=r;simp[val]
 obtain⟨x,hx,hxW⟩:=mo B<|(ae B).length-1;obtain⟨s,hs⟩:∃s,s=64-bl x:=⟨_,rfl⟩;obtain⟨n1,n2,n3,n4⟩:=SJ hB hx hs;have es:(64:Int)-(bl x:Int)=(s:Int):=by omega
 have L3:(((ae B).length:Int)-1).toNat=(ae B).length-1:=by omega
 have II:(ae B).length=(ae B).length-2+2:=by omega
 obtain⟨V,hV⟩:∃V,V=B*2^s:=⟨_,rfl⟩;obtain⟨X,hX⟩:∃X,X=A*2^s:=⟨_,rfl⟩;have Ph:0<2^s:=adg (by decide);have WA:X/V=A/B/\X%V=A%B*2^s:=by rw[hX,hV];exact⟨aiv _ _ Ph,aiw _ _ _⟩
 rw[<-hV]at n3 n4;have Px:(ae V).length=(ae B).length:=by
  have:=Le (X:=V) (L:=(ae B).length-1) (by have:=A1<|(ae B).length-1;generalize 18446744073709551616^((ae B).length-1)=Q at*;omega) (by rw[show(ae B).length-1+1=(ae B).length by omega];exact n4)
  omega
 have afJ:9223372036854775808<=(ae V).getD ((ae V).length-1) 0:=by
  rw[Px];have e:=xb (m:=(ae B).length) (v:=V) (j:=(ae B).length-1) (by omega);rw[<-Px,<-PQ,Px]at e;rw[e];have hq:=A1<|(ae B).length-1;have h1:9223372036854775808<=V/18446744073709551616^((ae B).length-1):=by rw[aiX hq];exact n3
  have h2:V/18446744073709551616^((ae B).length-1)<18446744073709551616:=by rw[adw hq,abU,<-acZ];rw[Nat.succ_eq_add_one,show(ae B).length-1+1=(ae B).length by omega];exact n4
  generalize V/18446744073709551616^((ae B).length-1)=t at*;omega
 have IL:0<V:=by rw[hV];exact ag9 hB Ph
 have htk:X/18446744073709551616^((ae A).length-(ae B).length+1)<V:=by
  rw[adw<|A1 _];have h1:X<18446744073709551616^(ae A).length*2^s:=by rw[hX];exact Nat.mul_lt_mul_of_pos_right (lX A) Ph
  have h2:18446744073709551616^(ae A).length=18446744073709551616^((ae B).length-1)*18446744073709551616^((ae A).length-(ae B).length+1):=by rw[<-aef];congr 1;omega
  have h3:2^s<=9223372036854775808:=by have:=ada (show 0<2 by decide) (show s<=63 by omega);exact this
  have h4:2^s*18446744073709551616^((ae B).length-1)<=V:=abC (abY _ h3) n3;have h5:=abY (18446744073709551616^((ae A).length-(ae B).length+1)) h4;have h6:18446744073709551616^(ae A).length*2^s=2^s*18446744073709551616^((ae B).length-1)*18446744073709551616^((ae A).length-(ae B).length+1):=by rw[h2,abU,<-ac9]
  rw[h6]at h1;exact ac3 h1 h5
 refine r1 rfl (by simp only[ag,and_true,L3]<;>omega) ?_;refine Il (us:=[.n .u64 x]) rfl rfl ao ⟨congrArg (SV.n .u64)<|by rw[L3,hx],ao⟩ (CJ x hxW) rfl ?_;rw[es];refine r0 rfl<|bF rfl (uo B s n1 hBl) rfl<|r0 rfl<|bF rfl (dm (fx ((ae B).length+1)<|B*2^s)<|by rw[fA];omega) rfl ?_;rw[<-hV,xa (show V<18446744073709551616^((ae B).length+1) by rw[acZ];generalize 18446744073709551616^(ae B).length=Q at*;omega)]
 refine r0 rfl<|bF rfl (uo A s n1 hA) rfl ?_;rw[<-hX];refine r1 rfl (by simp only[ag,and_true]<;>omega) ?_;rw[Px];have c1:(((ae A).length:Int)-((ae B).length:Int)+1).toNat=(ae A).length-(ae B).length+1:=by omega
 refine loop (λk:Nat=>[(9,.i s),(10,.ints .u64 false<|ae V),(11,.ints .u64 true<|fx ((ae A).length+1)<|uk X V k),(12,.i (ae B).length),(13,.ints .u64 true<|fx ((ae A).length-(ae B).length+1)<|X/18446744073709551616^k/V*18446744073709551616^k),(14,.i<|(k:Int)-1)])
  (λk=>k<=(ae A).length-(ae B).length+1) (λk=>k) ((ae A).length-(ae B).length+1) (aav _) ⟨ab,ab,⟨rfl,an.of_eq<|congrArg (SV.ints .u64 true) ?_⟩,ab,⟨rfl,an.of_eq<|congrArg (SV.ints .u64 true) ?_⟩,⟨rfl,an.of_eq<|congrArg (SV.n .i64) ?_⟩,ao⟩ ?_
 ·rw[aaw htk]
 ·rw[c1,adA htk,aht,HQ]
 ·omega
 intro k hk;refine r0 rfl<|bH rfl (λh=>?_) (λh=>?_)
 ·obtain⟨j,rfl⟩:∃j,k=j+1:=⟨k-1,by omega⟩;have ej:(((j+1:Nat):Int)-1)=(j:Int):=by omega
  rw[ej];refine rno 12 rfl (by simp only[ag,and_true]<;>omega) ?_;refine wn rfl rfl ?_ ?_
  ·simp only[ag,app,and_true,fA]<;>omega
  refine r0 rfl<|cr rfl rfl (lp.same (Dt X V ((ae A).length+1) j (by omega) afJ (by omega)<|by omega) rfl ?_ rfl rfl) rfl ?_
  ·show au [_,_]=au [SV.bA 1000000 0 0 [Step.lR 1 (j:Int).toNat<|((j:Int)+((ae B).length:Int)+1).toNat-(j:Int).toNat],SV.ints IntKind.u64 false<|ae V];rw[show(((j:Int)+((ae B).length:Int)+1).toNat-(j:Int).toNat)=(ae V).length+1 by omega,afc]
  refine r1 rfl (by simp only[ag,and_true,fA]<;>omega) ?_;refine again j (by omega) (by omega) ⟨ab,ab,ab,ab,⟨rfl,an.of_eq<|congrArg (SV.ints .u64 true) ?_⟩,ab,ao⟩;rw[afc];exact Tt IL (by omega) rfl
 have hk0:k=0:=by omega
 subst hk0;rw[Nat.pow_zero,Nat.div_one,Nat.mul_one,WM,WA.1,WA.2];have hRB:=ab9 A hB;refine r0 rfl<|loop (λk:Nat=>[(9,.i s),(11,.ints .u64 true<|fx ((ae A).length+1)<|sk (A%B) s k),(12,.i (ae B).length),(13,.ints .u64 true<|fx ((ae A).length-(ae B).length+1)<|A/B),(96,.i (ae B).length),(97,.i k)])
  (λk=>k<=(ae B).length) (λk=>(ae B).length-k) 0 (aaJ _) ⟨ab,⟨rfl,an.of_eq<|congrArg (SV.ints .u64 true)<|by rw[W0]⟩,ab,ab,ab,ab,ao⟩ ?_
 intro k hk;have ek:(k:Int).toNat=k:=by omega
 refine r0 rfl<|bH rfl (λh=>?_) (λh=>?_)
 ·obtain⟨x,hx⟩:∃x,x=A%B*2^s/18446744073709551616^k%18446744073709551616:=⟨_,rfl⟩;obtain⟨y,hy⟩:∃y,y=A%B*2^s/18446744073709551616^(k+1)%18446744073709551616:=⟨_,rfl⟩;obtain⟨d1,d2,d3⟩:=Jf n1 hx hy;have gx:(fx ((ae A).length+1)<|sk (A%B) s k).getD k 0=x:=by rw[xb<|by omega,S6,<-hx]
  have gy:(fx ((ae A).length+1)<|sk (A%B) s k).getD (k+1) 0=y:=by rw[xb<|by omega,OK,<-hy]
  refine r1 rfl (by simp only[ag,app,and_true,fA]<;>omega) ?_;have X7:((x:Nat):Int).fdiv (2^min ((s:Nat):Int).toNat IntKind.u64.bits)=((x/2^s:Nat):Int):=W3 x s (by omega);refine aC 109 rfl (λh=>?_) (λh=>?_)
  ·refine r1 rfl (by simp only[ag,app,and_true]<;>omega) ?_;refine bH rfl (λh2=>?_) (λh2=>?_)
   ·have Em:((64:Int)-(s:Int))=((64-s:Nat):Int):=by omega
    refine k1 rfl (by kernel_rfl) (by simp only[ag,app,and_true,adF,fA]<;>omega) ?_;refine again (k+1) (by omega) (by omega) ⟨ab,⟨rfl,an.of_eq<|congrArg (SV.ints .u64 true) ?_⟩,ab,ab,ab,ab,ao⟩;have g2:((fx ((ae A).length+1)<|sk (A%B) s k).set k ((x/2^s:Nat):Int)).getD (k+1) 0=y:=by rw[getD_set_ne<|by omega,gy]
    rw[ek,gx,X7,uB<|by rw[fA];omega,show((k:Int)+1).toNat=k+1 by omega,g2,Em,S8 y (64-s)<|by omega,d3,ad6 (y%2^s) (x/2^s) (64-s) (by rw[<-d3,d1];exact ab9 _<|by decide) d2,List.set_set];exact OJ (by omega) (by rw[<-d3,d1])
   rw[adF,fA]at h2;exact absurd (by omega) h2
  have hs0:s=0:=by omega
  refine r1 rfl (by simp only[ag,app,and_true]<;>omega) ?_;refine again (k+1) (by omega) (by omega) ⟨ab,⟨rfl,an.of_eq<|congrArg (SV.ints .u64 true) ?_⟩,ab,ab,ab,ab,ao⟩;rw[ek,gx,X7];refine OJ (by omega) ?_;rw[hx,hs0];simp
 have hk:k=(ae B).length:=by omega
 subst hk;refine k1 rfl (by kernel_rfl) (by simp only[ag,app,and_true,fA]<;>omega) ?_;have t1:cQ (fx ((ae A).length-(ae B).length+1)<|A/B)=ae (A/B):=by apply xa;rw[<-WA.1,adw IL,abU];rw[adw<|A1 _]at htk;exact htk
 have t2:cQ ((fx ((ae A).length+1)<|sk (A%B) s (ae B).length).take (ae B).length)=ae (A%B):=by rw[YB<|by omega,afZ];exact xa<|agn hRB<|lX B
 refine bG rfl (dm _<|by rw[fA];omega) rfl ?_;rw[t1];refine k1 rfl (by kernel_rfl) (by simp only[ag,app,and_true,fA]<;>omega) ?_;refine dk (us:=[.ints .u64 false<|(fx ((ae A).length+1)<|sk (A%B) s (ae B).length).take (ae B).length]) rfl rfl ao ⟨an.of_eq<|congrArg (SV.ints .u64 false) ?_,ao⟩ (dm _<|by rw[abP,fA];omega) rfl ?_
 ·simp
 rw[t2];refine k0 rfl (by kernel_rfl)<|aG rfl ⟨an.of_eq rfl,an.of_eq rfl,ao⟩
def i1:Nm:=⟨1,none⟩
def NS(a b:Nm):Nm×Nm:=
 if a.w=none/\b.w=none/\a.s≠ -9223372036854775808 then(⟨a.s/b.s,none⟩,⟨a.s%b.s,none⟩)
 else if a.s<0/\(nv a).natAbs%(nv b).natAbs≠0 then(I2 (rZ (decide (a.s<0))<|(nv a).natAbs/(nv b).natAbs) i1,xW (rZ (decide (a.s<0))<|(nv a).natAbs%(nv b).natAbs) b)
 else(rZ (decide (a.s<0))<|(nv a).natAbs/(nv b).natAbs,rZ (decide (a.s<0))<|(nv a).natAbs%(nv b).natAbs)
def ZD:a8 i1:=⟨by decide,by decide⟩
def aet:nv i1=1:=rfl
def ZC{K:Nat}(h:1<=K):fj i1 K:=abC (gJ<|by decide) h
def pV{a b q r:Int}(hb:0<b)(h:q*b+r=a)(h0:0<=r)(h1:r<b):a/b=q/\a%b=r:=by
 have e:a=r+b*q:=by rw[acT];omega
 subst e;rw[Int.add_mul_ediv_left _ _<|by omega,Int.add_mul_emod_self_left,Int.ediv_eq_zero_of_lt h0 h1,Int.emod_eq_of_lt h0 h1];exact⟨by omega,rfl⟩
def xk(a b:Nm)(ha:a8 a)(hb:a8 b)(h0:0<nv b):(nv (NS a b).1=nv a/nv b/\a8 (NS a b).1)/\(nv (NS a b).2=nv a%nv b/\a8 (NS a b).2):=by
 have va:=iI a ha;have vb:=iI b hb;have hN:0<(nv b).natAbs:=by omega
 have Gd:=aev (nv a).natAbs (nv b).natAbs;have Kq:=ab9 (nv a).natAbs hN;have hc:((nv b).natAbs:Int)=nv b:=by omega
 have anV:(((nv a).natAbs%(nv b).natAbs:Nat):Int)+nv b*(((nv a).natAbs/(nv b).natAbs:Nat):Int)=((nv a).natAbs:Int):=by have:=congrArg (Nat.cast:Nat->Int) Gd;rw[agB,acW,hc]at this;exact this
 unfold NS;split
 ·rename_i g;obtain⟨s,w⟩:=a;obtain⟨t,v⟩:=b;obtain⟨rfl,rfl,g3⟩:w=none/\v=none/\s≠_:=g;have hs: -9223372036854775808<=s/\s<=9223372036854775807:=ha;have ht: -9223372036854775808<=t/\t<=9223372036854775807:=hb;have h0:0<t:=h0;have h1:=af7 s (show t≠0 by omega);have h2:=agc s h0;refine⟨⟨rfl,?_⟩,⟨rfl,?_⟩⟩
  ·show -9223372036854775808<=s/t/\s/t<=9223372036854775807;constructor
   ·have:s<=s/t\/0<=s/t:=by
     rcases aec s 0 with g|g
     ·left;have:=af6 s t;have h4:s/t<0:=Int.ediv_neg_of_neg_of_pos g h0;have h5:t*(s/t)<=1*(s/t):=Int.mul_le_mul_of_nonpos_right (by omega) (by omega);have h6:=Int.le_ediv_of_mul_le h0 (show s*t<=s by
       have h7: -s*1<= -s*t:=adq (show 1<=t by omega) (show 0<= -s by omega);rw[ahl s t]at h7;omega)
      exact h6
     right;exact ag6 g (by omega)
    omega
   have:s/t<=s\/s/t<=0:=by
    rcases aec s 0 with g|g
    ·right;have:=Int.ediv_neg_of_neg_of_pos g h0;omega
    left;exact Int.ediv_le_self _ g
   omega
  show -9223372036854775808<=s%t/\s%t<=9223372036854775807;omega
 have qv:=mY (decide (a.s<0))<|(nv a).natAbs/(nv b).natAbs;have qo:=o4 (decide (a.s<0))<|(nv a).natAbs/(nv b).natAbs;have rv:=mY (decide (a.s<0))<|(nv a).natAbs%(nv b).natAbs;have ro:=o4 (decide (a.s<0))<|(nv a).natAbs%(nv b).natAbs;generalize rZ (decide (a.s<0)) ((nv a).natAbs/(nv b).natAbs)=Q at*;generalize rZ (decide (a.s<0)) ((nv a).natAbs%(nv b).natAbs)=R at*;generalize (nv a).natAbs/(nv b).natAbs=q at*;generalize (nv a).natAbs%(nv b).natAbs=r at*;split
 ·rename_i g;obtain⟨g1,g2⟩:=g;obtain⟨e1,e2⟩:=yn Q i1 qo ZD;obtain⟨e3,e4⟩:=kv R b ro hb;rw[if_pos<|by simpa using g1]at qv rv;have rU:nv a<0:=va.1.1 g1;have:=pV (a:=nv a) (b:=nv b) (q:= -(q:Int)-1) (r:= -(r:Int)+nv b) h0 (by rw[adv,ahl,ae4,acT];omega) (by omega) (by omega);rw[aet]at e1;exact⟨⟨by dsimp only;rw[this.1];omega,e2⟩,⟨by dsimp only;rw[this.2];omega,e4⟩⟩
 rename_i g;by_cases g1:a.s<0
 ·have g2:r=0:=by
   rcases ac2 r with e|e
   ·exact e
   exact absurd ⟨g1,by omega⟩ g
  rw[if_pos<|by simpa using g1]at qv rv;have rU:nv a<0:=va.1.1 g1;subst g2;have:=pV (a:=nv a) (b:=nv b) (q:= -(q:Int)) (r:=0) h0 (by rw[ahl,acT];omega) (by omega) (by omega);exact⟨⟨by dsimp only;rw[this.1];omega,qo⟩,⟨by dsimp only;rw[this.2];omega,ro⟩⟩
 rw[if_neg<|by simpa using g1]at qv rv;have LW:0<=nv a:=by
  rcases aec (nv a) 0 with e|e
  ·exact absurd (va.1.2 e) g1
  exact e
 have:=pV (a:=nv a) (b:=nv b) (q:=(q:Int)) (r:=r) h0 (by rw[acT];omega) (by omega) (by omega);exact⟨⟨by dsimp only;rw[this.1];omega,qo⟩,⟨by dsimp only;rw[this.2];omega,ro⟩⟩
def Me{a b:Int}(hb:0<b):(a.tmod b<0->a/b=a.tdiv b-1/\a%b=a.tmod b+b)/\(0<=a.tmod b->a/b=a.tdiv b/\a%b=a.tmod b)/\ -b<a.tmod b/\a.tmod b<b/\a.natAbs/b.natAbs=(a.tdiv b).natAbs:=by
 have key:a.tdiv b*b+a.tmod b=a/\ -b<a.tmod b/\a.tmod b<b/\a.natAbs/b.natAbs=(a.tdiv b).natAbs:=by
  rcases aec a 0 with g|g
  ·obtain⟨n,rfl⟩:∃n:Nat,a= -(n:Int):=⟨a.natAbs,by omega⟩;obtain⟨m,rfl⟩:∃m:Nat,b=(m:Int):=⟨b.natAbs,by omega⟩;rw[Int.neg_tdiv,Int.neg_tmod,afP<|by omega,ahD<|by omega,<-ah6,<-Int.natCast_emod,ahl,<-acW];have h1:=Nat.div_add_mod n m;have h2:=ab9 n (show 0<m by omega);rw[abU]at h1;refine⟨by omega,by omega,by omega,?_⟩;rw[aha,aha];rfl
  obtain⟨n,rfl⟩:∃n:Nat,a=(n:Int):=⟨a.natAbs,by omega⟩;obtain⟨m,rfl⟩:∃m:Nat,b=(m:Int):=⟨b.natAbs,by omega⟩;rw[afP<|by omega,ahD<|by omega,<-ah6,<-Int.natCast_emod,<-acW];have h1:=Nat.div_add_mod n m;have h2:=ab9 n (show 0<m by omega);rw[abU]at h1;exact⟨by omega,by omega,by omega,rfl⟩
 obtain⟨k1,k2,k3,k4⟩:=key;refine⟨λh=>?_,λh=>?_,k2,k3,k4⟩
 ·exact pV hb (by rw[adv,ae4];omega) (by omega) (by omega)
 exact pV hb k1 h k3
def Ds(a b:Nm)(ha:a8 a)(hb:a8 b)(h0:0<nv b){K:Nat}(la:fj a K)(lb:fj b K)(hK:K<2^38):
 aL Tryz.prog 190 [eN a,eN b] (.bX [eN (NS a b).1,eN (NS a b).2]):=by
 have na:=uM ha;have nb:=uM hb;have va:=iI a ha;have vb:=iI b hb;have hN:0<(nv b).natAbs:=by omega
 have pa:=Hm a ha;have pb:=Hm b hb;have hd:=xl (nv a).natAbs (nv b).natAbs hN (by have:(ae (nv a).natAbs).length<=K:=la;omega) (by have:(ae (nv b).natAbs).length<=K:=lb;omega);have lq:(ae<|(nv a).natAbs/(nv b).natAbs).length<=K:=abC (lK _ _) la;have lr:(ae<|(nv a).natAbs%(nv b).natAbs).length<=K:=abC (length_le<|Nat.mod_le _ _) la;refine bE Tryz.func190 rfl<|b8 2 [(2,.box true<|eN a),(3,.box true<|eN b),(4,.box true<|.agg [.i 0,.nil]),(5,.box true<|.agg [.i 0,.nil])] (¬(a.w=none/\b.w=none/\a.s≠ -9223372036854775808)) ?_ λhg=>?_
 ·refine r0 rfl<|aC 19 rfl (λg1=>?_) (λg1=>?_)
  ·refine r0 rfl<|aC 24 rfl (λg2=>?_) (λg2=>?_)
   ·have ea:=na.1 g1;have eb:=nb.1 g2;refine r0 rfl<|bH rfl (λg3=>?_) (λg3=>?_)
    ·have g3:a.s≠ -9223372036854775808:=g3;have Gd:NS a b=(⟨a.s/b.s,none⟩,⟨a.s%b.s,none⟩):=by unfold NS;rw[if_pos ⟨ea,eb,g3⟩]
     rw[Gd];have hs: -9223372036854775808<=a.s/\a.s<=9223372036854775807:=by unfold a8 at ha;rw[ea]at ha;exact ha
     have ht: -9223372036854775808<=b.s/\b.s<=9223372036854775807:=by unfold a8 at hb;rw[eb]at hb;exact hb
     have hbs:0<b.s:=by rw[<-vb.2 eb];exact h0
     refine kw [33,38] rfl (by kernel_rfl) ?_ ?_
     ·simp only[ag,and_true];omega
     obtain⟨f1,f2,f3,f4,f5⟩:=Me (a:=a.s) hbs;have hql:(a.s.tdiv b.s).natAbs<=a.s.natAbs:=by rw[<-f5];exact agf _ _
     have hqb: -9223372036854775808<a.s.tdiv b.s/\a.s.tdiv b.s<=9223372036854775807:=by omega
     have hw:IntKind.i64.wrap (a.s.tdiv b.s)=a.s.tdiv b.s:=by rw[Uu];omega
     rw[hw];refine bH rfl (λh=>?_) (λh=>?_)
     ·obtain⟨e1,e2⟩:=f1 h;refine k1 rfl (by kernel_rfl) (by simp only[ag,and_true]<;>omega) ?_;refine aG rfl ⟨⟨an.of_eq<|congrArg SV.i e1.symm,rfl,ao⟩,⟨an.of_eq<|congrArg SV.i e2.symm,rfl,ao⟩,ao⟩
     obtain⟨e1,e2⟩:=f2 (by omega);refine k1 rfl (by kernel_rfl) (by simp only[ag,and_true]<;>omega) ?_;refine aG rfl ⟨⟨an.of_eq<|congrArg SV.i e1.symm,rfl,ao⟩,⟨an.of_eq<|congrArg SV.i e2.symm,rfl,ao⟩,ao⟩
    have g3:¬a.s≠ -9223372036854775808:=g3;refine r0 rfl<|aP (λg=>g3 g.2.2) ⟨ab,ab,ab,ab,ao⟩
   refine r0 rfl<|aP (λg=>g2<|nb.2 g.2.1) ⟨ab,ab,ab,ab,ao⟩
  refine r0 rfl<|aP (λg=>g1<|na.2 g.1) ⟨ab,ab,ab,ab,ao⟩
 unfold NS;rw[if_neg hg];have an1:decide (a.s<0)=decide (nv a<0):=by rw[decide_eq_decide];exact va.1
 have qv:=mY (decide (a.s<0))<|(nv a).natAbs/(nv b).natAbs;have qo:=o4 (decide (a.s<0))<|(nv a).natAbs/(nv b).natAbs;have rv:=mY (decide (a.s<0))<|(nv a).natAbs%(nv b).natAbs;have ro:=o4 (decide (a.s<0))<|(nv a).natAbs%(nv b).natAbs;have m1:=T3 (decide (a.s<0)) ((nv a).natAbs/(nv b).natAbs) (by omega);have m2:=T3 (decide (a.s<0)) ((nv a).natAbs%(nv b).natAbs) (by omega);have IH:nv (rZ (decide (a.s<0))<|(nv a).natAbs%(nv b).natAbs)<0↔(a.s<0/\(nv a).natAbs%(nv b).natAbs≠0):=by
  rw[rv];by_cases g:a.s<0
  ·rw[if_pos<|by simpa using g];constructor
   ·intro h;exact⟨g,by omega⟩
   rintro⟨-,h⟩;omega
  rw[if_neg<|by simpa using g];constructor
  ·intro h;omega
  rintro⟨h,-⟩;exact absurd h g
 have sq:fj (rZ (decide (a.s<0))<|(nv a).natAbs/(nv b).natAbs) (K+1):=by
  unfold fj;rw[qv];have e:(if decide (a.s<0)=true then -(((nv a).natAbs/(nv b).natAbs:Nat):Int)else(((nv a).natAbs/(nv b).natAbs:Nat):Int)).natAbs=(nv a).natAbs/(nv b).natAbs:=by generalize (nv a).natAbs/(nv b).natAbs=z;split<;>omega
  rw[e];omega
 have sr:fj (rZ (decide (a.s<0))<|(nv a).natAbs%(nv b).natAbs) (K+1):=by
  unfold fj;rw[rv];have e:(if decide (a.s<0)=true then -(((nv a).natAbs%(nv b).natAbs:Nat):Int)else(((nv a).natAbs%(nv b).natAbs:Nat):Int)).natAbs=(nv a).natAbs%(nv b).natAbs:=by generalize (nv a).natAbs%(nv b).natAbs=z;split<;>omega
  rw[e];omega
 refine r0 rfl<|bF rfl pa rfl<|r0 rfl<|bF rfl pb rfl<|r0 rfl<|bF rfl hd rfl<|r0 rfl<|bF rfl m1 rfl<|r0 rfl<|bF rfl m2 rfl<|r0 rfl ?_;have hsg:=yq _ ro;have Em:=Zl _ i1 qo ZD sq (ZC<|by omega) (by omega);have Nu:=Qg _ b ro hb sr (abC lb<|agM _) (by omega);generalize rZ (decide (a.s<0)) ((nv a).natAbs/(nv b).natAbs)=Q at*;generalize rZ (decide (a.s<0)) ((nv a).natAbs%(nv b).natAbs)=R at*;refine bF rfl hsg rfl<|r0 rfl<|bH rfl (λh=>?_) (λh=>?_)
 ·have h:(nv R).sign<0:=h;rw[if_pos<|IH.1<|afa.1 h];refine r0 rfl<|bG rfl (JK 1) rfl<|r0 rfl<|bG rfl Em rfl<|r0 rfl<|bG rfl Nu rfl<|k0 rfl (by kernel_rfl)<|bB rfl
 have h:¬(nv R).sign<0:=h;rw[if_neg λg=>h<|afa.2<|IH.2 g];refine k0 rfl (by kernel_rfl)<|bB rfl
section
variable{K:Nat}{a:Nm}
def dw{L:Nat}(h:fj a K)(hl:K<=L):fj a L:=abC h hl
def yF{b:Nm}(h:(nv b).natAbs<=(nv a).natAbs)(ha:fj a K):fj b K:=abC (length_le h) ha
def Ee(a b:Nm):Nm:=if nv b<0 then(NS (iS a)<|iS b).1 else(NS a b).1
def yw(a b:Nm)(ha:a8 a)(hb:a8 b)(h0:nv b≠0)(hd:nv b∣nv a):nv (Ee a b)=nv a/nv b/\a8 (Ee a b):=by
 unfold Ee;split
 ·rename_i g;obtain⟨e1,e2⟩:=dN a ha;obtain⟨e3,e4⟩:=dN b hb;obtain⟨⟨f1,f2⟩,-⟩:=xk (iS a) (iS b) e2 e4 (by omega);refine⟨?_,f2⟩;rw[f1,e1,e3];obtain⟨c,hc⟩:=hd;rw[hc,<-ahl,Int.mul_ediv_cancel_left _<|by omega,Int.mul_ediv_cancel_left _ h0]
 exact(xk a b ha hb<|by omega).1
def Zu(a b:Nm)(ha:a8 a)(hb:a8 b)(h0:nv b≠0)(la:fj a K)(lb:fj b K)(hK:K<2^38):aL Tryz.prog 225 [eN a,eN b] (eN<|Ee a b):=by
 have hs:=yq b hb;have hna:=FI a ha la (by omega);have LX:=FI b hb lb (by omega);obtain⟨e1,e2⟩:=dN a ha;obtain⟨e3,e4⟩:=dN b hb;unfold Ee;refine bE Tryz.func225 rfl<|r0 rfl<|bF rfl hs rfl<|r0 rfl<|bH rfl (λh=>?_) (λh=>?_)
 ·have h:(nv b).sign<0:=h;have h:=afa.1 h;have Gd:=Ds (iS a) (iS b) e2 e4 (by omega) (oL ha la) (oL hb lb) hK;rw[if_pos h];refine r0 rfl<|bG rfl hna rfl<|r0 rfl<|bG rfl LX rfl<|k0 rfl (by kernel_rfl)<|bF rfl Gd rfl<|r0 rfl<|bB rfl
 have h:¬(nv b).sign<0:=h;have h:¬nv b<0:=λg=>h<|afa.2 g;have Gd:=Ds a b ha hb (by omega) la lb hK;rw[if_neg h];refine r0 rfl<|bF rfl Gd rfl<|r0 rfl<|bB rfl
def uC:Nat->Nm->Nm->Nm
 |0,a,_=>a
 |k+1,a,b=>if nv b=0 then a else uC k b (NS a b).2
def Nz(k:Nat)(a b:Nm)(h:nv b=0):uC k a b=a:=by
 cases k with
 |zero=>rfl
 |succ k=>unfold uC;rw[if_pos h]
def C1:∀(k:Nat)(a b:Nm){K:Nat},a8 a->a8 b->0<=nv a->0<=nv b->(nv b).natAbs<=k->fj a K->fj b K->nv (uC k a b)=(Int.gcd (nv a) (nv b):Nat)/\a8 (uC k a b)/\fj (uC k a b) K
 |0,a,b,K,ha,hb,na,nb,hk,la,lb=>by
  have:nv b=0:=by omega
  refine⟨?_,ha,la⟩;show nv a=_;rw[this,Int.gcd_zero_right];omega
 |k+1,a,b,K,ha,hb,na,nb,hk,la,lb=>by
  unfold uC;split
  ·rename_i h;refine⟨?_,ha,la⟩;rw[h,Int.gcd_zero_right];omega
  rename_i h;obtain⟨-,e1,e2⟩:=xk a b ha hb (by omega);have h1:=af7 (nv a) h;have h2:=agc (nv a) (show 0<nv b by omega);obtain⟨f1,f2,f3⟩:=C1 k b (NS a b).2 hb e2 nb (by omega) (by omega) lb<|yF (a:=b) (by omega) lb;refine⟨?_,f2,f3⟩;rw[f1,e1]
  congr 1
  rw[Int.gcd_comm<|nv a,ahd,ahd];obtain⟨x,hx⟩:∃x:Nat,nv a=x:=⟨(nv a).toNat,by omega⟩;obtain⟨y,hy⟩:∃y:Nat,nv b=y:=⟨(nv b).toNat,by omega⟩;rw[hx,hy,<-Int.natCast_emod,afE,afE,afE];rw[agR y<|x%y,<-Nat.gcd_rec]
def oB(a b:Nm):Nm:=uC (nv b).natAbs (zD a)<|zD b
def BJ(h:a8 a)(l:fj a K):fj (zD a) K:=by unfold fj at *;rw[(nC a h).1];exact l
def yP(a b:Nm)(ha:a8 a)(hb:a8 b)(la:fj a K)(lb:fj b K):nv (oB a b)=(Int.gcd (nv a) (nv b):Nat)/\a8 (oB a b)/\fj (oB a b) K:=by obtain⟨e1,e2⟩:=nC a ha;obtain⟨e3,e4⟩:=nC b hb;have:=C1 (nv b).natAbs (zD a) (zD b) e2 e4 (by omega) (by omega) (by omega) (BJ ha la)<|BJ hb lb;refine⟨?_,this.2⟩;rw[oB,this.1,e1,e3];rw[ahd,ahd,afE,afE]
def ZZ(a b:Nm)(ha:a8 a)(hb:a8 b)(la:fj a K)(lb:fj b K)(hK:K<2^38):aL Tryz.prog 108 [eN a,eN b] (eN<|oB a b):=by
 have hA:=aaf a ha la (by omega);have hB:=aaf b hb lb (by omega);obtain⟨e1,e2⟩:=nC a ha;obtain⟨e3,e4⟩:=nC b hb;refine bE Tryz.func108 rfl<|r0 rfl<|bG rfl hA rfl<|r0 rfl<|bG rfl hB rfl<|k0 rfl (by kernel_rfl)<|oN (λ(k:Nat)(x y:Nm)=>[(2,.box true<|eN x),(3,.box true<|eN y),(4,.box true<|.agg [.i 0,.nil])])
  (λk x y=>a8 x/\a8 y/\0<=nv x/\0<=nv y/\fj x K/\fj y K/\(nv y).natAbs<=k/\uC k x y=oB a b) (λk _ _=>k) (nv b).natAbs (zD a) (zD b)
  ⟨e2,e4,by omega,by omega,BJ ha la,BJ hb lb,by omega,rfl⟩ ⟨ab,ab,ab,ao⟩ ?_
 rintro k x y⟨hx,hy,x0,y0,lx,ly,hk,hG⟩;have hs:=yq y hy;refine r0 rfl<|bF rfl hs rfl<|r0 rfl<|bH rfl (λh=>?_) (λh=>?_)
 ·have h:(nv y).sign≠0:=h;have F9:nv y≠0:=λg=>h (by rw[g];rfl);obtain⟨k',rfl⟩:∃k',k=k'+1:=⟨k-1,by omega⟩;obtain⟨-,f1,f2⟩:=xk x y hx hy (by omega);have h1:=af7 (nv x) F9;have h2:=agc (nv x) (show 0<nv y by omega);have Gd:=Ds x y hx hy (by omega) lx ly hK;unfold uC at hG;rw[if_neg F9]at hG;refine r0 rfl<|bF rfl Gd rfl<|k0 rfl (by kernel_rfl)<|again (k',y,(NS x y).2) (by dsimp only;omega) ⟨hy,f2,y0,by dsimp only;omega,ly,yF (a:=y) (by dsimp only;omega) ly,by dsimp only;omega,hG⟩ ⟨ab,ab,ab,ao⟩
 have h:¬(nv y).sign≠0:=h;have F9:nv y=0:=aiB.1 (by omega);rw[Nz _ _ _ F9]at hG;rw[<-hG];refine r0 rfl<|bB rfl
end
def OS{a b:Nm}(ha:a8 a)(hb:a8 b)(h0:nv b≠0)(hd:nv b∣nv a){K:Nat}(la:fj a K):fj (Ee a b) K:=by refine yF ?_ la;rw[(yw a b ha hb h0 hd).1];exact Int.natAbs_ediv_le_natAbs _ _
def Zy(n d:Nm):Fr:=if d.w=none/\d.s=1 then⟨n,d⟩else⟨Ee n<|oB n d,Ee d<|oB n d⟩
def Wm(n d:Nm):Fr:=if nv d<0 then Zy (iS n) (iS d)else Zy n d
def rQ(f:Fr)(K:Nat):Prop:=fj f.n K/\fj f.d K
def KT{f:Fr}{K L:Nat}(h:rQ f K)(hl:K<=L):rQ f L:=⟨dw h.1 hl,dw h.2 hl⟩
def JT(n d:Nm)(hn:a8 n)(hd:a8 d)(h0:0<nv d){K:Nat}(ln:fj n K)(ld:fj d K):gT (Zy n d) (Rat.divInt (nv n)<|nv d)/\rQ (Zy n d) K:=by
 have vm:=Rat.num_divInt (nv n)<|nv d;have Bf:=Rat.den_divInt (nv n)<|nv d;rw[agd h0,ae4]at vm;rw[if_neg<|by omega]at Bf;unfold Zy;split
 ·rename_i g;have hv:=(iI d hd).2 g.1;rw[g.2]at hv;refine⟨⟨hn,hd,?_,?_⟩,ln,ld⟩
  ·rw[vm,hv];simp
  rw[Bf,hv];simp
 obtain⟨g1,g2,g3⟩:=yP n d hn hd ln ld;have UN:nv (oB n d)≠0:=by rw[g1];have:=Int.gcd_pos_of_ne_zero_right (nv n) (show nv d≠0 by omega);omega
 have hdn:nv (oB n d)∣nv n:=by rw[g1];exact Int.gcd_dvd_left ..
 have hdd:nv (oB n d)∣nv d:=by rw[g1];exact Int.gcd_dvd_right ..
 obtain⟨q1,q2⟩:=yw n (oB n d) hn g2 UN hdn;obtain⟨q3,q4⟩:=yw d (oB n d) hd g2 UN hdd;refine⟨⟨q2,q4,?_,?_⟩,OS hn g2 UN hdn ln,OS hd g2 UN hdd ld⟩
 ·show nv (Ee n<|oB n d)=_;rw[q1,g1,vm,Int.gcd_comm]
 show nv (Ee d<|oB n d)=_;rw[q3,g1,Bf,Int.gcd_comm,ah6]
 congr 1;omega
def Cu(n d:Nm)(hn:a8 n)(hd:a8 d)(h0:nv d≠0){K:Nat}(ln:fj n K)(ld:fj d K):gT (Wm n d) (Rat.divInt (nv n)<|nv d)/\rQ (Wm n d) K:=by
 unfold Wm;split
 ·rename_i g;obtain⟨e1,e2⟩:=dN n hn;obtain⟨e3,e4⟩:=dN d hd;have:=JT (iS n) (iS d) e2 e4 (by omega) (oL hn ln)<|oL hd ld;rw[e1,e3,Rat.neg_divInt_neg]at this;exact this
 exact JT n d hn hd (by omega) ln ld
def MW(n d:Nm)(hn:a8 n)(hd:a8 d)(h0:nv d≠0){K:Nat}(ln:fj n K)(ld:fj d K)(hK:K<2^38):aL Tryz.prog 153 [eN n,eN d] (eF<|Wm n d):=by
 have hs:=yq d hd;have LW:=FI n hn ln (by omega);have BF:=FI d hd ld (by omega);obtain⟨e1,e2⟩:=dN n hn;obtain⟨e3,e4⟩:=dN d hd;refine bE Tryz.func153 rfl<|xr 2 (λ(x y:Nm)=>[(2,.box true<|eN x),(3,.box true<|eN y),(4,.box true<|.agg [.i 0,.nil,.i 0,.nil])]) (λx y=>a8 x/\a8 y/\0<nv y/\fj x K/\fj y K/\Zy x y=Wm n d) ?_ ?_
 ·refine r0 rfl<|bF rfl hs rfl<|r0 rfl<|bH rfl (λh=>?_) (λh=>?_)
  ·have h:(nv d).sign<0:=h;have h:=afa.1 h;refine r0 rfl<|bG rfl LW rfl<|r0 rfl<|bG rfl BF rfl<|k0 rfl (by kernel_rfl)<|meet (iS n,iS d) ⟨e2,e4,by dsimp only;omega,oL hn ln,oL hd ld,by unfold Wm;rw[if_pos h]⟩ ⟨ab,ab,ab,ao⟩
  have h:¬(nv d).sign<0:=h;have h:¬nv d<0:=λg=>h<|afa.2 g;refine r0 rfl<|meet (n,d) ⟨hn,hd,by dsimp only;omega,ln,ld,by unfold Wm;rw[if_neg h]⟩ ⟨ab,ab,ab,ao⟩
 rintro x y⟨hx,hy,y0,lx,ly,hG⟩;rw[<-hG];have wy:=uM hy;have hg:=ZZ x y hx hy lx ly hK;obtain⟨g1,g2,g3⟩:=yP x y hx hy lx ly;have UN:nv (oB x y)≠0:=by rw[g1];have:=Int.gcd_pos_of_ne_zero_right (nv x) (show nv y≠0 by omega);omega
 have q1:=Zu x (oB x y) hx g2 UN lx g3 hK;have q2:=Zu y (oB x y) hy g2 UN ly g3 hK;refine b8 1 [(2,.box true<|eN x),(3,.box true<|eN y),(4,.box true<|.agg [.i 0,.nil,.i 0,.nil])] (¬(y.w=none/\y.s=1)) ?_ λhc=>?_
 ·refine r0 rfl<|aC 16 rfl (λg=>?_) (λg=>?_)
  ·refine r0 rfl<|bH rfl (λh=>?_) (λh=>?_)
   ·have h:y.s=1:=h;unfold Zy;rw[if_pos ⟨wy.1 g,h⟩];refine r0 rfl<|bB rfl
   have h:¬y.s=1:=h;refine r0 rfl<|aP (λq=>h q.2) ⟨ab,ab,ab,ao⟩
  refine r0 rfl<|aP (λq=>g<|wy.2 q.1) ⟨ab,ab,ab,ao⟩
 unfold Zy;rw[if_neg hc];refine r0 rfl<|bF rfl hg rfl<|r0 rfl<|bG rfl q1 rfl<|r0 rfl<|bG rfl q2 rfl<|k0 rfl (by kernel_rfl)<|bB rfl
section
variable{f:Fr}{K L:Nat}{p q:Rat}
def KY(h:gT f q):0<nv f.d:=by rw[h.vd];have:=q.den_pos;omega
def F6(f:Fr)(h:gT f q):aL Tryz.prog 122 [eF f] (.u<|decide (f.d.w=none/\f.d.s=1)):=by
 have wd:=uM h.d;refine bE Tryz.func122 rfl<|r0 rfl<|aC 7 rfl (λg=>?_) (λg=>?_)
 ·refine r0 rfl<|aG rfl<|an.of_eq<|congrArg SV.u ?_;simp_all
 refine r0 rfl<|aG rfl<|(decide_eq_false λh=>g<|wd.2 h.1).symm
def NG(f g:Fr)(hf:gT f p)(hg:gT g q)(lf:rQ f K)(lg:rQ g L)(hK:K+L<2^38):aL Tryz.prog 121 [eF f,eF g] (.i (p.num*q.den-q.num*p.den).sign):=by have m1:=rE f.n g.d hf.n hg.d lf.1 lg.2 (by omega);have m2:=rE g.n f.d hg.n hf.d lg.1 lf.2 (by omega);obtain⟨e1,e2⟩:=cB f.n g.d hf.n hg.d;obtain⟨e3,e4⟩:=cB g.n f.d hg.n hf.d;have hc:=VE _ _ e2 e4 (fV hf.n hg.d lf.1 lg.2) (dw (fV hg.n hf.d lg.1 lf.2)<|by omega) (show K+L<2^39 by omega);rw[e1,e3,hf.vn,hf.vd,hg.vn,hg.vd]at hc;refine bE Tryz.func121 rfl<|r0 rfl<|bG rfl m1 rfl<|r0 rfl<|bG rfl m2 rfl<|bG rfl hc rfl<|k0 rfl (by kernel_rfl)<|bB rfl
def I0(p q:Rat):(p.num*q.den-q.num*p.den).sign=if p<q then -1 else if q<p then 1 else 0:=by
 have h1:=Rat.lt_iff p q;have h2:=Rat.lt_iff q p;split
 ·rename_i h;exact ahe (by have:=h1.1 h;omega)
 split
 ·rename_i h;exact agd (by have:=h2.1 h;omega)
 rename_i g h;have:p.num*q.den-q.num*p.den=0:=by have a:¬(p.num*q.den<q.num*p.den):=λx=>g<|h1.2 x;have b:¬(q.num*p.den<p.num*q.den):=λx=>h<|h2.2 x;omega
 rw[this];rfl
def YC(f g:Fr)(hf:gT f p)(hg:gT g q)(lf:rQ f K)(lg:rQ g L)(hK:K+L<2^38):aL Tryz.prog 165 [eF f,eF g] (.u<|decide (p=q)):=by
 have hc:=NG f g hf hg lf lg hK;have e:=I0 p q;refine bE Tryz.func165 rfl<|r0 rfl<|bF rfl hc rfl<|r0 rfl<|aG rfl<|an.of_eq<|congrArg SV.u ?_;rw[decide_eq_decide,e];constructor
 ·intro h;split at h
  ·omega
  split at h
  ·omega
  rename_i a b;exact Rat.le_antisymm (Rat.not_lt.1 b)<|Rat.not_lt.1 a
 rintro rfl;rw[if_neg<|Rat.lt_irrefl,if_neg<|Rat.lt_irrefl]
def TQ(f g:Fr):Fr:=Wm (jw f.n g.n)<|jw f.d g.d
def tM(f g:Fr)(hf:gT f p)(hg:gT g q)(lf:rQ f K)(lg:rQ g L):gT (TQ f g) (p*q)/\rQ (TQ f g) (K+L):=by obtain⟨e1,e2⟩:=cB f.n g.n hf.n hg.n;obtain⟨e3,e4⟩:=cB f.d g.d hf.d hg.d;have h0:=ae7 (KY hf)<|KY hg;have:=Cu (jw f.n g.n) (jw f.d g.d) e2 e4 (by omega) (fV hf.n hg.n lf.1 lg.1)<|fV hf.d hg.d lf.2 lg.2;rw[e1,e3,hf.vn,hf.vd,hg.vn,hg.vd,qL]at this;exact this
def C5(f g:Fr)(hf:gT f p)(hg:gT g q)(lf:rQ f K)(lg:rQ g L)(hK:K+L<2^38):aL Tryz.prog 88 [eF f,eF g] (eF<|TQ f g):=by have m1:=rE f.n g.n hf.n hg.n lf.1 lg.1 (by omega);have m2:=rE f.d g.d hf.d hg.d lf.2 lg.2 (by omega);obtain⟨e1,e2⟩:=cB f.n g.n hf.n hg.n;obtain⟨e3,e4⟩:=cB f.d g.d hf.d hg.d;have h0:=ae7 (KY hf)<|KY hg;have hm:=MW _ _ e2 e4 (by omega) (fV hf.n hg.n lf.1 lg.1) (fV hf.d hg.d lf.2 lg.2) (by omega);refine bE Tryz.func88 rfl<|r0 rfl<|bG rfl m1 rfl<|r0 rfl<|bG rfl m2 rfl<|bG rfl hm rfl<|k0 rfl (by kernel_rfl)<|bB rfl
def abg(f:Fr):Fr:=Wm f.d f.n
def Rr(f:Fr)(hf:gT f p)(h0:p≠0)(lf:rQ f K):gT (abg f) p⁻¹ /\rQ (abg f) K:=by
 have hn:nv f.n≠0:=by rw[hf.vn];simp_all
 have:=Cu f.d f.n hf.d hf.n hn lf.2 lf.1;rw[hf.vn,hf.vd,<-Rat.inv_def]at this;exact this
def acm(f:Fr)(hf:gT f p)(h0:p≠0)(lf:rQ f K)(hK:K<2^38):aL Tryz.prog 154 [eF f] (eF<|abg f):=by
 have hn:nv f.n≠0:=by rw[hf.vn];simp_all
 have hm:=MW f.d f.n hf.d hf.n hn lf.2 lf.1 hK;refine bE Tryz.func154 rfl<|r0 rfl<|bF rfl hm rfl<|r0 rfl<|bB rfl
def XU(f:Fr):Prop:=f.d.w=none/\f.d.s=1
instance(f:Fr):Decidable (XU f):=by unfold XU;infer_instance
def O5(hf:gT f p)(h:XU f):p.den=1:=by have:=(iI f.d hf.d).2 h.1;rw[h.2,hf.vd]at this;omega
def Ol(f g:Fr):Fr:=if XU f/\XU g then⟨xW f.n g.n,⟨1,none⟩⟩else Wm (xW (jw f.n g.d)<|jw g.n f.d) (jw f.d g.d)
def Sh(f g:Fr)(hf:gT f p)(hg:gT g q)(lf:rQ f K)(lg:rQ g L):gT (Ol f g) (p+q)/\rQ (Ol f g) (K+L+1):=by
 unfold Ol;split
 ·rename_i h;obtain⟨e1,e2⟩:=kv f.n g.n hf.n hg.n;have d1:=O5 hf h.1;have d2:=O5 hg h.2;have hs:=ow p q;rw[d1,d2]at hs;have hn:=Rat.num_divInt (p.num*(1:Nat)+q.num*(1:Nat))<|((1:Nat):Int)*((1:Nat):Int);have hd:=Rat.den_divInt (p.num*(1:Nat)+q.num*(1:Nat))<|((1:Nat):Int)*((1:Nat):Int);rw[hs]at hn hd;refine⟨⟨e2,Hq,?_,?_⟩,?_,?_⟩
  ·show nv (xW f.n g.n)=_;rw[e1,hf.vn,hg.vn,hn];simp
  ·show(1:Int)=_;rw[hd];simp
  ·exact dw (ID hf.n hg.n (dw lf.1<|show K<=K+L by omega)<|dw lg.1<|show L<=K+L by omega) (by omega)
  exact ZC (by omega)
 obtain⟨e1,e2⟩:=cB f.n g.d hf.n hg.d;obtain⟨e3,e4⟩:=cB g.n f.d hg.n hf.d;obtain⟨e5,e6⟩:=cB f.d g.d hf.d hg.d;obtain⟨e7,e8⟩:=kv _ _ e2 e4;have h0:=ae7 (KY hf)<|KY hg;have:=Cu _ _ e8 e6 (by omega) (ID e2 e4 (fV hf.n hg.d lf.1 lg.2)<|dw (fV hg.n hf.d lg.1 lf.2)<|show L+K<=K+L by omega)<|dw (fV hf.d hg.d lf.2 lg.2)<|agM _;rw[e7,e1,e3,e5,hf.vn,hf.vd,hg.vn,hg.vd,ow]at this;exact this
def acp(f g:Fr)(hf:gT f p)(hg:gT g q)(lf:rQ f K)(lg:rQ g L)(hK:K+L<2^37):aL Tryz.prog 233 [eF f,eF g] (eF<|Ol f g):=by
 have w1:=F6 f hf;have w2:=F6 g hg;have a1:=Qg f.n g.n hf.n hg.n (dw lf.1<|show K<=K+L by omega) (dw lg.1<|show L<=K+L by omega) (by omega);have m1:=rE f.n g.d hf.n hg.d lf.1 lg.2 (by omega);have m2:=rE g.n f.d hg.n hf.d lg.1 lf.2 (by omega);have m3:=rE f.d g.d hf.d hg.d lf.2 lg.2 (by omega);obtain⟨e1,e2⟩:=cB f.n g.d hf.n hg.d;obtain⟨e3,e4⟩:=cB g.n f.d hg.n hf.d;obtain⟨e5,e6⟩:=cB f.d g.d hf.d hg.d;obtain⟨e7,e8⟩:=kv _ _ e2 e4;have h0:=ae7 (KY hf)<|KY hg;have a2:=Qg _ _ e2 e4 (fV hf.n hg.d lf.1 lg.2) (dw (fV hg.n hf.d lg.1 lf.2)<|show L+K<=K+L by omega) (by omega);have mk:=MW _ _ e8 e6 (by omega) (ID e2 e4 (fV hf.n hg.d lf.1 lg.2)<|dw (fV hg.n hf.d lg.1 lf.2)<|show L+K<=K+L by omega) (dw (fV hf.d hg.d lf.2 lg.2)<|agM _) (by omega);refine bE Tryz.func233 rfl<|b8 2 [(2,.box true<|eF f),(3,.box true<|eF g),(4,.box true<|.agg [.i 0,.nil,.i 0,.nil])] (¬(XU f/\XU g)) ?_ λhc=>?_
 ·refine r0 rfl<|bF rfl w1 rfl<|r0 rfl<|aC 7 rfl (λh1=>?_) (λh1=>?_)
  ·refine r0 rfl<|bF rfl w2 rfl<|r0 rfl<|bH rfl (λh2=>?_) (λh2=>?_)
   ·have hw:XU f/\XU g:=⟨h1,h2⟩;unfold Ol;rw[if_pos hw];refine r0 rfl<|bF rfl a1 rfl<|r0 rfl<|bF rfl (GM _) rfl<|r0 rfl<|bB rfl
   refine r0 rfl<|aP (λh=>h2 h.2) ⟨ab,ab,ab,ao⟩
  refine r0 rfl<|aP (λh=>h1 h.1) ⟨ab,ab,ab,ao⟩
 unfold Ol;rw[if_neg hc];refine r0 rfl<|bG rfl m1 rfl<|r0 rfl<|bG rfl m2 rfl<|r0 rfl<|bG rfl a2 rfl<|r0 rfl<|bG rfl m3 rfl<|r0 rfl<|bG rfl mk rfl<|k0 rfl (by kernel_rfl)<|bB rfl
end
end Go.Ai.cY
namespace Go.Ai.Pg
open Go.Proofs Go.Ai Go.Ai.cY
def find_congr{α:Type}{p q:α->Bool}:∀{l:List α},(∀x∈l,p x=q x)->l.find? p=l.find? q
 |[],_=>rfl
 |x::l,h=>by rw[List.find?_cons,List.find?_cons,h x<|by simp,find_congr λy hy=>h y<|by simp[hy]]
def C8:∀(s:bK)(n:Nat),(List.range' n s.length).find? (λi=>(s.getD (i-n) 0)==47)=if ar s<s.length then some (n+ar s)else none
 |[],n=>by simp
 |c::t,n=>by
  rw[abn,List.range'_succ,List.find?_cons];simp only[afM,ah1,ar];by_cases h:c=47
  ·simp[h]
  have hb:(c==47)=false:=by simpa using h
  simp only[hb,h,if_false];have e:(List.range' (n+1) t.length).find? (λi=>((c::t).getD (i-n) 0)==47)=(List.range' (n+1) t.length).find? (λi=>(t.getD (i-(n+1)) 0)==47):=by refine find_congr ?_;intro i hi;have:=(aip.1 hi).1;rw[show i-n=(i-(n+1))+1 by omega,ahT]
  rw[e,C8 t<|n+1];by_cases g:ar t<t.length
  ·rw[if_pos g,if_pos<|by omega];congr 1;omega
  rw[if_neg g,if_neg<|by omega]
def S3(s:bK):Int:=if ar s<s.length then ar s else -1
def C7(s:bK):firstIdx (bs s) 47=S3 s:=by
 unfold firstIdx S3;have e:(List.range (bs s).size).find? (λi=>(bs s)[i]! ==47)=(List.range' 0 s.length).find? (λi=>(s.getD (i-0) 0)==47):=by
  have cM:(bs s).size=s.length:=rfl;rw[List.range_eq_range'];refine find_congr ?_;intro i hi;have aZ:i<s.length:=by have:=(aip.1 hi).2;omega
  have:(bs s)[i]! =s.getD i 0:=by have h2:=aZ;rw[getElem!_pos (bs s) i h2,aw aZ];rfl
  rw[this];rfl
 rw[e,C8 s 0];split
 ·rename_i i hi;split at hi
  ·simp only[aaq]at hi;rw[if_pos<|by assumption,<-hi];simp
  cases hi
 rename_i hi;split at hi
 ·cases hi
 rw[if_neg<|by assumption]
def CR(s:bK):aL Tryz.prog 283 [.s s,.n .u8 47] (.i<|S3 s):=by
 intro w S vs _ hS hc;obtain⟨y,l',F1,F2,rfl,hF,_,hr,y2,l2,F3,F4,rfl,ZY,_,sc,rfl,rfl⟩:=hc;obtain⟨_,rfl,rfl⟩:=hr;obtain⟨_,rfl,rfl⟩:=sc;have bL:(callFunc 283 #[.string (bs s),.int .u8 47]).run Tryz.prog w=.ok (.value<|.int .i64<|S3 s) w:=by refine(run_callFunc_indexByte (fn:=Tryz.f283) Tryz.func283 (by kernel_rfl) (by kernel_rfl) (by kernel_rfl) (by kernel_rfl) _ w).trans ?_;rw[run_indexByte_string];simp only[Result.andThen];have:(47:Int).toNat.toUInt8=47:=rfl;rw[this,C7]
 intro rd o a next Q hK
 rw[bL];exact hK _ _ ⟨S,[],Go.RowKit.Below.refl _ _,λ_ h=>h,λ_ h=>.inl h,hS,by simp[SV.den,Rel,scalar],acX,by simp⟩
def abi(s:bK):aL Tryz.prog 261 [.s s,.n .u8 47] (.i<|S3 s):=by refine bE Tryz.func261 rfl<|r0 rfl<|bF rfl (CR s) rfl<|r0 rfl<|bB rfl
def XW(s:bK):aL Tryz.prog 234 [.s s,.s [47]] (.i<|S3 s):=by
 refine bE Tryz.func234 rfl<|r0 rfl<|aC 19 rfl (λh=>absurd h<|by decide) λ_=>?_;refine r0 rfl<|bH rfl (λh=>?_) (λ_=>?_)
 ·have h:=h;subst h;refine r0 rfl<|bB rfl
 refine r0 rfl<|bH rfl (λ_=>?_) λh=>absurd rfl h;refine r1 rfl (by simp[ag]<;>decide) ?_;refine bF rfl (abi s) rfl<|r0 rfl<|bB rfl
def F7{s:bK}(h:isNeg s=true):1<=s.length/\bm s=s.drop 1:=by unfold bm;rw[if_pos h];unfold isNeg at h;simp at h;exact⟨h.1,rfl⟩
def SZ{s:bK}:0<=S3 s↔ar s<s.length:=by unfold S3;split<;>omega
def acv(s:bK)(hl:s.length<2^60):aL Tryz.prog 186 [.s s,.s [47]] (.bX [.s<|s.take<|ar s,.s<|s.drop<|ar s+1,.u<|decide (ar s<s.length)]):=by
 refine bE Tryz.func186 rfl<|r0 rfl<|bF rfl (XW s) rfl<|r0 rfl<|bH rfl (λh=>?_) (λh=>?_)
 ·have h1:=SZ.1 h;have e:S3 s=ar s:=by unfold S3;rw[if_pos h1]
  rw[e];refine k1 rfl (by kernel_rfl) (by simp[ag,abr]<;>omega) ?_;refine aG rfl ⟨an.of_eq<|congrArg SV.s ?_,an.of_eq<|congrArg SV.s ?_,(decide_eq_true h1).symm,ao⟩
  ·simp
  have e2:((ar s:Int)+(([47]:bK).length:Nat)).toNat=ar s+1:=by simp
  rw[e2,abm .refl]
 have h1:¬ar s<s.length:=λg=>h<|SZ.2 g;refine r0 rfl<|aG rfl ⟨an.of_eq<|congrArg SV.s ?_,an.of_eq<|congrArg SV.s ?_,(decide_eq_false h1).symm,ao⟩
 ·rw[abm<|by omega]
 rw[adu<|by omega]
def aaa(s:bK)(hl:s.length<2^60):aL Tryz.prog 105 [.s s,.s [47]] (.bX [.s<|s.take<|ar s,.s<|s.drop<|ar s+1,.u<|decide (ar s<s.length)]):=by refine bE Tryz.func105 rfl<|r0 rfl<|bF rfl (acv s hl) rfl<|r0 rfl<|bB rfl
def Cf(s:bK)(hl:s.length<2^60):aL Tryz.prog 235 [.s s,.s [45]] (.u<|isNeg s):=by
 refine bE Tryz.func235 rfl<|r0 rfl<|aC 10 rfl (λh=>?_) (λh=>?_)
 ·have h:1<=s.length:=by have h:((1:Nat):Int)<=s.length:=h;omega
  refine r1 rfl (by simp[ag,abr]<;>omega) ?_;refine aG rfl<|an.of_eq<|congrArg SV.u ?_
  match s,h with
  |c::t,_=>unfold isNeg;simp[true_and];exact⟨λh=>by rw[h];rfl,λh=>ahb.1 h⟩
 have h:¬((1:Nat):Int)<=s.length:=h;refine r0 rfl<|aG rfl<|(decide_eq_false λhh=>h<|by omega).symm
def YQ(s:bK)(hl:s.length<2^60):aL Tryz.prog 187 [.s s,.s [45]] (.bX [.s<|bm s,.u<|isNeg s]):=by
 refine bE Tryz.func187 rfl<|r0 rfl<|bF rfl (Cf s hl) rfl<|r0 rfl<|nB rfl rfl rfl (λh=>?_) (λh=>?_)
 ·have hn:isNeg s=false:=by simpa using h
  refine r0 rfl<|aG rfl ⟨an.of_eq<|congrArg SV.s ?_,hn.symm,ao⟩;unfold bm;rw[hn];rfl
 have hn:isNeg s=true:=by simpa using h
 obtain⟨g1,g2⟩:=F7 hn;refine r1 rfl (by simp[ag]<;>omega) ?_;refine aG rfl ⟨an.of_eq<|congrArg SV.s ?_,hn.symm,ao⟩;rw[g2];show(s.take s.length).drop 1=_;rw[abm .refl]
def acw(s:bK)(hl:s.length<2^60):aL Tryz.prog 106 [.s s,.s [45]] (.bX [.s<|bm s,.u<|isNeg s]):=by refine bE Tryz.func106 rfl<|r0 rfl<|bF rfl (YQ s hl) rfl<|r0 rfl<|bB rfl
def ab7(s:bK)(hl:s.length<2^60):aL Tryz.prog 191 [.s s,.s [45]] (.u<|isNeg s):=by refine bE Tryz.func191 rfl<|r0 rfl<|bF rfl (Cf s hl) rfl<|r0 rfl<|bB rfl
def SI(s:bK)(hl:s.length<2^60):aL Tryz.prog 236 [.s s,.s [45]] (.s<|bm s):=by
 refine bE Tryz.func236 rfl<|r0 rfl<|bF rfl (Cf s hl) rfl<|nB rfl rfl rfl (λh=>?_) (λh=>?_)
 ·obtain⟨g1,g2⟩:=F7 h;refine r1 rfl (by simp[ag]<;>omega) ?_;refine aG rfl<|an.of_eq<|congrArg SV.s ?_;rw[g2];show(s.take s.length).drop 1=_;rw[abm .refl]
 refine r0 rfl<|aG rfl<|an.of_eq<|congrArg SV.s ?_;unfold bm;rw[h];rfl
def WQ(s:bK)(hl:s.length<2^60):aL Tryz.prog 192 [.s s,.s [45]] (.s<|bm s):=by refine bE Tryz.func192 rfl<|r0 rfl<|bF rfl (SI s hl) rfl<|r0 rfl<|bB rfl
def Lj(s:bK):Bool:=lZ s&& !decide (s=[])
def YM(s:bK)(hl:s.length<2^60):aL Tryz.prog 188 [.s s] (.u<|Lj s):=by
 refine bE Tryz.func188 rfl<|r0 rfl<|loop (λi:Nat=>[(0,.s s),(5,.i s.length),(6,.i i)]) (λi=>i<=s.length/\∀k,k<i->48<=(s.getD k 0).toNat/\(s.getD k 0).toNat<=57) (λi=>s.length-i) 0 ⟨aaJ _,λk h=>by omega⟩ ⟨ab,ab,ab,ao⟩ ?_;rintro i⟨hi,hb⟩;refine r0 rfl<|bH rfl (λh=>?_) (λh=>?_)
 ·have aZ:i<s.length:=by omega
  have ei:(i:Int).toNat=i:=by omega
  have bad:¬(48<=(s.getD i 0).toNat/\(s.getD i 0).toNat<=57)->false=Lj s:=by
   intro hn;symm;unfold Lj;rw[Bool.and_eq_false_iff];left;rw[Bool.eq_false_iff];intro ht;have:=my.1 ht s[i]<|aaY aZ;have e:s.getD i 0=s[i]:=by simp[abc,abl aZ]
   rw[<-e]at this;exact hn this
  refine r1 rfl (by simp only[ag,and_true,ei];omega) ?_;refine aC 13 rfl (λh1=>?_) (λh1=>?_)
  ·rw[ei]at h1;refine r0 rfl<|aG rfl<|bad<|by omega
  rw[ei]at h1;refine r1 rfl (by simp only[ag,and_true,ei];omega) ?_;refine bH rfl (λh2=>?_) (λh2=>?_)
  ·rw[ei]at h2;refine r0 rfl<|aG rfl<|bad<|by omega
  rw[ei]at h2;refine r1 rfl (by simp only[ag,and_true];omega) ?_;refine again (i+1) (by omega) ⟨by omega,λk hk=>?_⟩ ⟨ab,ab,ab,ao⟩;rcases abF k i with g|g
  ·exact hb k g
  rw[show k=i by omega];omega
 have jj:lZ s=true:=by
  rw[my];intro c hc;obtain⟨k,hk,rfl⟩:=ag3 hc;have e:s.getD k 0=s[k]:=by simp[abc,abl hk]
  rw[<-e];exact hb k (by omega)
 refine r0 rfl<|aG rfl<|an.of_eq<|congrArg SV.u ?_;unfold Lj;rw[jj,ac8];exact decide_not
def Mb(s:bK)(hl:s.length<2^60):aL Tryz.prog 107 [.s s] (.u<|fD s):=by
 refine bE Tryz.func107 rfl<|r0 rfl<|bF rfl (YM s hl) rfl<|r0 rfl<|iF 5 rfl (λh=>?_) (λh=>?_)
 ·have h:Lj s=true:=h;unfold Lj at h;simp only[abe,afL,decide_eq_false_iff_not]at h;have hp:=agH.2 h.2;refine r0 rfl<|aC 8 rfl (λg=>?_) (λg=>?_)
  ·have g:s=[48]:=g;subst g;refine r0 rfl<|aG rfl (show true=fD [48] by decide)
  have g:¬s=[48]:=g;refine r1 rfl (by simp only[ag,and_true]<;>omega) ?_;refine aG rfl<|an.of_eq<|congrArg SV.u ?_;unfold fD;rw[if_neg<|by omega,h.1];by_cases k:(s.getD 0 0).toNat=48
  ·have h1:1<s.length:=by
    match s,hp with
    |[c],_=>exact absurd (congrArg (λx=>[x])<|ahb.1<|show c.toNat=(48:UInt8).toNat by simpa using k) g
    |_::_::_,_=>simp
   rw[if_pos ⟨h1,k⟩];exact decide_eq_false λhh=>hh (by show((s.getD (Int.toNat 0) 0).toNat:Int)=48;have:Int.toNat 0=0:=rfl;rw[this];omega)
  rw[if_neg λhh=>k hh.2];exact decide_eq_true λhh=>k (by have hh:((s.getD (Int.toNat 0) 0).toNat:Int)=48:=hh;have:Int.toNat 0=0:=rfl;rw[this]at hh;omega)
 have h:Lj s=false:=h;refine r0 rfl<|aG rfl ?_;show false=fD s;unfold Lj at h;unfold fD;rw[Bool.and_eq_false_iff]at h;rcases h with h|h
 ·rw[h];split;rfl;split<;>rfl
 simp only[Bool.not_eq_false',decide_eq_true_eq]at h;subst h;rfl
def Ze(s:bK)(hs:db s)(h0:0<s.length)(hl:s.length<=18):aL Tryz.prog 237 [.s s] (.bX [.i<|ct s,.c .nilIface]):=by
 refine bE Tryz.func237 rfl<|r0 rfl<|aC 25 rfl (λ_=>?_) λh=>absurd (show(0:Int)<s.length by omega) h;refine r0 rfl<|bH rfl (λ_=>?_) λh=>absurd (show(s.length:Int)<19 by omega) h;have CZ:48<=(s.getD 0 0).toNat/\(s.getD 0 0).toNat<=57:=by
  have hm:s.getD 0 0∈s:=by simp[abc,abl h0]
  exact hs _ hm
 have e0:(0:Int).toNat=0:=rfl;refine r1 rfl (by simp only[ag,and_true]<;>omega) ?_;refine aC 35 rfl (λh=>absurd h<|by rw[e0];omega) λ_=>?_;refine r1 rfl (by simp only[ag,and_true]<;>omega) ?_;refine bH rfl (λh=>absurd h<|by rw[e0];omega) λ_=>?_;refine r0 rfl<|ex rfl rfl rfl (N4 s rfl rfl rfl rfl) rfl<|r0 rfl ?_;have KG:(s.map λc=>(c.toNat:Int)).length=s.length:=by simp
 refine loop (λi:Nat=>[(5,.s s),(6,.i<|ct<|s.take i),(47,.ints .u8 false<|s.map λc=>(c.toNat:Int)),(48,.i s.length),(49,.i i)]) (λi=>i<=s.length) (λi=>s.length-i) 0 (by omega) ⟨ab,ab,ab,⟨rfl,an.of_eq<|congrArg SV.i<|by rw[KG]⟩,ab,ao⟩ ?_;intro i hi;refine r0 rfl<|bH rfl (λh=>?_) (λh=>?_)
 ·have aZ:i<s.length:=by omega
  have ei:(i:Int).toNat=i:=by omega
  have hc:(s.map λc=>(c.toNat:Int)).getD i 0=(s[i].toNat:Int):=by rw[aw<|by omega];simp
  have hd:=hs s[i]<|aaY aZ;have hv:=lT (s:=s.take i) λc hc=>hs c<|afs hc;have hp:10^(s.take i).length<=10^17:=ada (by decide) (by simp;omega);refine r1 rfl (by simp only[ag,and_true,ei,hc,KG];omega) ?_;have hw:IntKind.u8.wrap ((s[i].toNat:Int)-48)=(s[i].toNat:Int)-48:=by have e:IntKind.u8.wrap ((s[i].toNat:Int)-48)=((s[i].toNat:Int)-48)%256:=rfl;rw[e];omega
  refine bH rfl (λh=>absurd h<|by rw[ei,hc,hw];omega) λ_=>?_;refine r1 rfl (by simp only[ag,and_true,ei,hc,hw];omega) ?_;refine again (i+1) (by omega) (by omega) ⟨ab,⟨rfl,bC ?_⟩,ab,ab,ab,ao⟩;rw[ei,hc,hw,abZ aZ,aaj];omega
 have:i=s.length:=by omega
 subst this;refine r1 rfl (by simp only[ag,and_true]<;>omega) ?_;refine bH rfl (λh=>absurd h<|by rw[e0];omega) λ_=>?_;refine r0 rfl<|aG rfl ⟨bC ?_,rfl,ao⟩;rw[abm<|aav _]
def VV(s:bK)(hs:db s)(h0:0<s.length)(hl:s.length<=18):aL Tryz.prog 193 [.s s] (.bX [.i<|ct s,.c .nilIface]):=by refine bE Tryz.func193 rfl<|r0 rfl<|bF rfl (Ze s hs h0 hl) rfl<|r0 rfl<|ex rfl rfl rfl (XB rfl rfl) rfl<|r0 rfl<|bB rfl
section
variable{a:Nm}{s t:bK}
def BA{L:Nat}(h:(nv a).natAbs<10^L):fj a L:=by
 unfold fj;rcases ac2 (nv a).natAbs with h0|h0
 ·rw[h0,cY.cD];simp
 have h1:=PO h0;have h2:(10:Nat)^L<=18446744073709551616^L:=aiN (by decide) L;have h3:=afS h1<|ac3 h h2;have h4:=(Nat.pow_lt_pow_iff_right<|by decide).1 h3;omega
def aep{R:Option Nat->Prop}{N:Nat}{F:St->Prop}{k:List It}{l:aV}{c:Code}(l':List (Nat×SV))(hf:uK l l')(h:AK R Tryz.prog N F (.code c::k) (sl l')):AK R Tryz.prog N F (.code c::k) l:=zw hf h
def TX(a b:Nat):sN true (a:Int) (b:Int)=((min a b:Nat):Int):=by simp[sN];omega
def rdStep(t:bK)(a:Nm):Nm:=xW (jw a<|yx ⟨10,none⟩<|min 18 t.length) ⟨ct<|t.take 18,none⟩
def Ca:Nat->bK->Nm->Nm
 |0,_,a=>a
 |k+1,t,a=>if t.length=0 then a else Ca k (t.drop 18) (rdStep t a)
def kb(s:bK):Nm:=if isNeg s then iS (Ca (bm s).length (bm s) ⟨0,none⟩)else Ca (bm s).length (bm s) ⟨0,none⟩
def Md:a8 ⟨10,none⟩:=show(-9223372036854775808:Int)<=10/\(10:Int)<=9223372036854775807 by decide
def Oy:a8 ⟨0,none⟩:=show(-9223372036854775808:Int)<=0/\(0:Int)<=9223372036854775807 by decide
def Jb{n:Nat}(h:n<10^18):a8 ⟨n,none⟩:=show(-9223372036854775808:Int)<=n/\(n:Int)<=9223372036854775807 by omega
def yj(h:db t):ct (t.take 18)<10^18:=by have h1:=lT (s:=t.take 18) λc hc=>h c<|afs hc;exact ac3 h1<|ada (by decide)<|by simp;omega
def Af(h:db t)(ha:a8 a):nv (rdStep t a)=nv a*10^min 18 t.length+ct (t.take 18)/\a8 (rdStep t a):=by obtain⟨p1,p2⟩:=pC ⟨10,none⟩ (min 18 t.length) Md;obtain⟨m1,m2⟩:=cB a (yx ⟨10,none⟩<|min 18 t.length) ha p2;obtain⟨s1,s2⟩:=kv _ ⟨ct<|t.take 18,none⟩ m2<|Jb<|yj h;refine⟨?_,s2⟩;unfold rdStep;rw[s1,m1,p1];rfl
def AU(h:db t)(n:Nat):db (t.drop n):=λc hc=>h c<|ae0 hc
def Ft:∀(k:Nat)(t:bK)(a:Nm),db t->t.length<=k->a8 a->nv (Ca k t a)=nv a*10^t.length+ct t/\a8 (Ca k t a)
 |0,t,a,h,hk,ha=>by have:t=[]:=ah8 (by omega);subst this;refine⟨?_,ha⟩;show nv a=nv a*10^0+((ct []:Nat):Int);have:ct []=0:=rfl;rw[this];simp
 |k+1,t,a,h,hk,ha=>by
  rw[Ca];split
  ·rename_i h0;have:=ah8 h0;subst this;refine⟨?_,ha⟩;have:ct []=0:=rfl;rw[this];simp
  obtain⟨e1,e2⟩:=Af h ha;obtain⟨g1,g2⟩:=Ft k (t.drop 18) (rdStep t a) (AU h 18) (by simp;omega) e2;have hs:=sJ (t.take 18)<|t.drop 18;rw[agS]at hs;rw[hs];have hl:min 18 t.length+(t.drop 18).length=t.length:=by simp;omega
  grind
def nO(h:db (bm s)):nv (kb s)=CM s/\a8 (kb s):=by
 obtain⟨e1,e2⟩:=Ft (bm s).length (bm s) ⟨0,none⟩ h .refl Oy;have e1:nv (Ca (bm s).length (bm s) ⟨0,none⟩)=ct (bm s):=by rw[e1];show(0:Int)*_+_=_;rw[Int.zero_mul,Int.zero_add]
 unfold kb CM;by_cases g:isNeg s=true
 ·rw[if_pos g,g];obtain⟨n1,n2⟩:=dN _ e2;exact⟨by rw[n1,e1];rfl,n2⟩
 have g:isNeg s=false:=by simpa using g
 rw[g];exact⟨e1,e2⟩
def wh(h:db (bm s)):fj (kb s) (bm s).length:=by
 refine BA ?_;rw[(nO h).1];have:=lT h;unfold CM;cases isNeg s
 ·show((ct (bm s):Nat):Int).natAbs<_;simpa using this
 show(-((ct (bm s):Nat):Int)).natAbs<_;simpa using this
def B8(s:bK)(h:db (bm s))(hl:s.length<2^20):aL Tryz.prog 109 [.s s] (eN<|kb s):=by
 have KG:=xJ s;refine bE Tryz.func109 rfl<|r0 rfl<|bF rfl (ab7 s<|by omega) rfl<|r0 rfl<|bF rfl (WQ s<|by omega) rfl<|r0 rfl<|aep [(0,.s<|bm s),(2,.box true<|.agg [.i 0,.nil]),(3,.u<|isNeg s),(4,.box true<|eN ⟨0,none⟩)] ⟨.inl ⟨rfl,rfl,uJ.of_le<|tp.refl _⟩,.inl ⟨rfl,rfl,uJ.of_le<|tp.refl _⟩,.inl ⟨rfl,rfl,uJ.of_le<|tp.refl _⟩,.inl ⟨rfl,rfl,uJ.of_le<|tp.refl _⟩,ao⟩<|kh (λ(t:bK)(a:Nm)=>[(0,.s t),(2,.box true<|.agg [.i 0,.nil]),(3,.u<|isNeg s),(4,.box true<|eN a)])
  (λt a=>db t/\a8 a/\(∃m,Ca m t a=Ca (bm s).length (bm s) ⟨0,none⟩/\t.length<=m)/\t.length<=(bm s).length/\nv a*10^t.length+ct t=ct (bm s)/\0<=nv a) (λt _=>t.length) (bm s) ⟨0,none⟩ ?_ ?_ ?_
 ·exact⟨h,Oy,⟨_,rfl,aav _⟩,aav _,by show(0:Int)*_+_=_;rw[Int.zero_mul,Int.zero_add],ac0 0⟩
 ·exact⟨ab,ab,ab,ab,ao⟩
 rintro t a⟨h1,h2,⟨m,h3,h4⟩,h5,h6,h7⟩;have ha:fj a (bm s).length:=by
  refine BA ?_;have hv:=lT h;have hp:(1:Int)<=10^t.length:=by have:0<10^t.length:=adg (show 0<10 by decide);exact_mod_cast this
  have hm:nv a<=nv a*10^t.length:=by have:=adq hp h7;rwa[afQ]at this
  have hc:(ct (bm s):Int)<((10^(bm s).length:Nat):Int):=by exact_mod_cast hv
  generalize (10^(bm s).length:Nat)=X at hc⊢;omega
 refine r0 rfl<|bH rfl (λg=>?_) (λg=>?_)
 ·have g:0<t.length:=by omega
  have em:((min 18 t.length:Nat):Int)=min 18 (t.length:Int):=by omega
  have et:t.take (min 18 t.length)=t.take 18:=by
   rcases Nat.le_total 18 t.length with k|k
   ·rw[adD k]
   rw[Nat.min_eq_right k,abm<|aav _,abm k]
  have e5:=TX 18 t.length;have e6:(((min 18 t.length:Nat):Int)).toNat=min 18 t.length:=by omega
  refine r1 rfl ?_ ?_
  ·have e5:sN true 18 (t.length:Int)=((min 18 t.length:Nat):Int):=e5;simp[ag,and_true,e5];omega
  have eS:List.drop 0 (List.take (sN true 18 (t.length:Int)).toNat t)=t.take 18:=by have e5:sN true 18 (t.length:Int)=((min 18 t.length:Nat):Int):=e5;rw[e5,e6,et,adz]
  refine Il (us:=[.s<|t.take 18]) rfl rfl ao ⟨congrArg SV.s eS,ao⟩ (VV (t.take 18) (λc hc=>h1 c<|afs hc) (by simp;omega)<|by simp;omega) rfl ?_;refine r0 rfl<|bG rfl (JK 10) rfl<|r0 rfl ?_;have aiz:fj ⟨10,none⟩ 1:=gJ (m:=10) (by decide);obtain⟨p1,p2⟩:=pC ⟨10,none⟩ (min 18 t.length) Md;refine dk (us:=[eN ⟨10,none⟩,.i ((min 18 t.length:Nat):Int)]) rfl rfl ao ⟨an.refl _,congrArg SV.i e5,ao⟩ (Tw ⟨10,none⟩ (min 18 t.length) Md aiz (by omega)<|by omega) rfl<|r0 rfl ?_;have Rz:fj (yx ⟨10,none⟩<|min 18 t.length) 19:=by refine BA ?_;rw[p1];have:nv ⟨10,none⟩=10:=rfl;rw[this,Int.natAbs_pow];exact Nat.pow_lt_pow_right (by decide) (by omega)
  refine bG rfl (rE a _ h2 p2 ha Rz<|by omega) rfl<|r0 rfl<|bG rfl (JK _) rfl<|r0 rfl ?_;obtain⟨m1,m2⟩:=cB a _ h2 p2;have mn:=fV h2 p2 ha Rz;have hns:fj ⟨ct<|t.take 18,none⟩ 18:=BA (by show((ct (t.take 18):Nat):Int).natAbs<_;have:=yj h1;omega);refine bG rfl (Qg _ _ m2 (Jb<|yj h1) mn (dw hns<|by omega)<|by omega) rfl ?_;obtain⟨q1,q2⟩:=Af h1 h2;have e5':(sN true 18 (t.length:Int)).toNat=min 18 t.length:=by have e5:sN true 18 (t.length:Int)=((min 18 t.length:Nat):Int):=e5;rw[e5,e6]
  have ed:(t.take t.length).drop (sN true 18 (t.length:Int)).toNat=t.drop 18:=by
   rw[abm<|aav _,e5'];rcases Nat.le_total 18 t.length with k|k
   ·rw[adD k]
   rw[Nat.min_eq_right k,adu<|aav _,adu k]
  refine k1 rfl (by kernel_rfl) ?_ ?_
  ·have e5:sN true 18 (t.length:Int)=((min 18 t.length:Nat):Int):=e5;simp[ag,and_true,e5];omega
  refine again (t.drop 18,rdStep t a) (by dsimp only;rw[adK];omega) ⟨AU h1 18,q2,?_,by dsimp only;rw[adK];omega,?_,?_⟩ ⟨⟨rfl,an.of_eq<|congrArg SV.s ed⟩,ab,ab,ab,ao⟩
  ·match m,h3,h4 with
   |0,_,h4=>omega
   |m+1,h3,h4=>refine⟨m,?_,by dsimp only;rw[adK];omega⟩;rw[Ca,if_neg<|by omega]at h3;exact h3
  ·dsimp only;rw[q1,<-h6];have hs:=sJ (t.take 18)<|t.drop 18;rw[agS]at hs;rw[hs];have II:min 18 t.length+(t.drop 18).length=t.length:=by simp;omega
   have:(10:Int)^t.length=10^min 18 t.length*10^(t.drop 18).length:=by rw[<-ad3,II]
   rw[this]
   push_cast
   grind
  dsimp only;rw[q1];have:(0:Int)<=nv a*10^min 18 t.length:=ado h7<|ac4<|Int.pow_pos<|by decide
  omega
 have ht:t=[]:=ah8 (by omega);subst ht;have Ep:a=Ca (bm s).length (bm s) ⟨0,none⟩:=by rw[<-h3];cases m<;>rfl
 refine r0 rfl<|nB rfl rfl rfl (λg2=>?_) (λg2=>?_)
 ·refine r0 rfl<|bF rfl (FI a h2 ha<|by omega) rfl<|r0 rfl<|aG rfl<|an.of_eq ?_;unfold kb;rw[if_pos g2,<-Ep];rfl
 refine r0 rfl<|aG rfl<|an.of_eq ?_;unfold kb;rw[if_neg<|by rw[g2];simp,<-Ep];rfl
end
def tQ(l:List Int)(hl:l.length<2^60):aL Tryz.prog 155 [.ints .i64 false l] (.i<|aK id l):=by
 refine bE Tryz.func155 rfl<|r0 rfl<|loop (λi:Nat=>[(5,.ints .i64 false l),(6,.i l.length),(7,.i i)]) (λi=>i<=l.length/\aK id l=aK id (l.drop i)) (λi=>l.length-i) 0 ⟨aaJ _,rfl⟩ ⟨ab,ab,ab,ao⟩ ?_;rintro i⟨hi,hf⟩;refine r0 rfl<|bH rfl (λh=>?_) (λh=>?_)
 ·have aZ:i<l.length:=by omega
  have ei:(i:Int).toNat=i:=by omega
  rw[dp _ aZ]at hf;refine r1 rfl (by simp only[ag,and_true,ei];omega) ?_;refine bH rfl (λh2=>?_) (λh2=>?_)
  ·rw[ei,aw aZ]at h2;refine r0 rfl<|aG rfl<|bC ?_;rw[ei,aw aZ,hf];exact(if_pos<|show id l[i]≠0 from h2).symm
  rw[ei,aw aZ]at h2;refine r1 rfl (by simp only[ag,and_true];omega) ?_;refine again (i+1) (by omega) ⟨by omega,?_⟩ ⟨ab,ab,ab,ao⟩;rw[hf];exact if_neg (show¬id l[i]≠0 from h2)
 refine r0 rfl<|aG rfl<|bC ?_;rw[hf,adu<|by omega];rfl
def nD(b:Bool)(e:Int):aL Tryz.prog 156 [.u b,.i e] (.i<|if b then e else 0):=by
 refine bE Tryz.func156 rfl<|r0 rfl<|nB rfl rfl rfl (λh=>?_) (λh=>?_)
 ·refine r0 rfl<|aG rfl<|bC ?_;rw[h];rfl
 refine r0 rfl<|aG rfl<|bC ?_;rw[h];rfl
def lC(n k:Int):Bool:=decide (0<=k/\k<n)
def yJ(p:kx)(k:Int):aL Tryz.prog 159 [bh p,.i k] (.u<|lC p.n k):=by
 refine bE Tryz.func159 rfl<|r0 rfl<|aC 7 rfl (λh=>?_) (λh=>?_)
 ·refine r0 rfl<|aG rfl<|an.of_eq<|congrArg SV.u ?_;unfold lC;rw[decide_eq_decide];exact⟨λg=>⟨h,g⟩,λg=>g.2⟩
 refine r0 rfl<|aG rfl (show false=lC p.n k from(decide_eq_false λg=>h g.1).symm)
def YR(p:kx)(h:ye p):aL Tryz.prog 160 [bh p] (.i<|c7 p.aa):=by
 have hl:=h.aa;refine bE Tryz.func160 rfl<|r0 rfl<|loop (λi:Nat=>[(3,.i<|(p.aa.take i).countP λu=>decide (u.kind=bo)),(7,.bT false 5 default dM p.aa),(8,.i p.aa.length),(9,.i i)]) (λi=>i<=p.aa.length) (λi=>p.aa.length-i) 0 (aaJ _) ⟨ab,ab,ab,ab,ao⟩ ?_;intro i hi;have hc:((p.aa.take i).countP λu=>decide (u.kind=bo))<=i:=abC ago (by simp;omega);refine r0 rfl<|bH rfl (λh1=>?_) (λh1=>?_)
 ·have aZ:i<p.aa.length:=by omega
  have ei:(i:Int).toNat=i:=by omega
  have eg:p.aa.getD i default=p.aa[i]:=aw aZ;have hs:((p.aa.take<|i+1).countP λu=>decide (u.kind=bo))=((p.aa.take i).countP λu=>decide (u.kind=bo))+(if p.aa[i].kind=bo then 1 else 0):=by rw[abZ aZ,agV,aiP];by_cases g:p.aa[i].kind=bo<;>simp[g]
  refine r1 rfl (by simp only[ag,and_true,ei];omega) ?_;refine bH rfl (λh2=>?_) (λh2=>?_)
  ·rw[ei,eg]at h2;have h2:p.aa[i].kind=bo:=h2;rw[if_pos h2]at hs;refine r1 rfl (by simp only[ag,and_true];omega) ?_;refine again (i+1) (by omega) (by omega) ⟨⟨rfl,bC ?_⟩,ab,ab,ab,ao⟩;rw[hs];rfl
  rw[ei,eg]at h2;have h2:¬p.aa[i].kind=bo:=h2;rw[if_neg h2]at hs;refine r1 rfl (by simp only[ag,and_true];omega) ?_;refine again (i+1) (by omega) (by omega) ⟨⟨rfl,bC ?_⟩,ab,ab,ab,ao⟩;rw[hs];rfl
 refine r0 rfl<|aG rfl<|bC ?_;unfold c7;rw[abm<|by omega]
def Qr(p:kx)(k:Int):aL Tryz.prog 158 [.i k,.box false<|bh p] (.u<|!lC p.n k):=by refine bE Tryz.func158 rfl<|r0 rfl<|bF rfl (yJ p k) rfl<|r0 rfl<|bB rfl
def rN{α:Type}(f:α->Bool):List α->Int->Int
 |[],_=> -1
 |x::l,i=>if f x then i else rN f l (i+1)
def C9{α:Type}(f:α->Bool){l:List α}{i:Nat}(h:i<l.length):rN f (l.drop i) i=if f l[i]then(i:Int)else rN f (l.drop<|i+1) ((i+1:Nat):Int):=by rw[abV h];rfl
def rb{α:Type}(f:α->Bool):∀(l:List α)(i:Int),0<=i->(0<=rN f l i↔∃x∈l,f x=true)
 |[],i,_=>by simp[rN]
 |x::l,i,hi=>by
  unfold rN;by_cases h:f x=true
  ·rw[if_pos h];simp[h,hi]
  rw[if_neg h,rb f l (i+1)<|by omega];simp[h]
def Up(p:kx)(l:List Int)(hl:l.length<2^60):aL Tryz.prog 102 [.ints .i64 false l,.fn (.func 158) [] [.box false<|bh p]] (.i<|rN (λk=> !lC p.n k) l 0):=by
 refine bE Tryz.func102 rfl<|r0 rfl<|loop (λi:Nat=>[(0,.ints .i64 false l),(1,.fn (.func 158) [] [.box false<|bh p]),(7,.i l.length),(8,.i i)]) (λi=>i<=l.length/\rN (λk=> !lC p.n k) l 0=rN (λk=> !lC p.n k) (l.drop i) i) (λi=>l.length-i) 0 ⟨aaJ _,rfl⟩ ⟨ab,ab,ab,ab,ao⟩ ?_;rintro i⟨hi,hf⟩;refine r0 rfl<|bH rfl (λh=>?_) (λh=>?_)
 ·have aZ:i<l.length:=by omega
  have ei:(i:Int).toNat=i:=by omega
  rw[C9 _ aZ]at hf;refine r1 rfl (by simp only[ag,and_true,ei];omega) ?_;refine bF rfl (Qr p _) rfl ?_;rw[ei,aw aZ];refine r0 rfl<|nB rfl rfl rfl (λh2=>?_) (λh2=>?_)
  ·refine r0 rfl<|aG rfl<|bC ?_;rw[hf,if_pos h2]
  refine r1 rfl (by simp only[ag,and_true];omega) ?_;refine again (i+1) (by omega) ⟨by omega,?_⟩ ⟨ab,ab,ab,ab,ao⟩;rw[hf,if_neg<|by rw[h2];simp]
 refine r0 rfl<|aG rfl<|bC ?_;rw[hf,adu<|by omega];rfl
def Ls(p:kx)(l:List Int)(hl:l.length<2^60):aL Tryz.prog 46 [.ints .i64 false l,.fn (.func 158) [] [.box false<|bh p]] (.u<|decide (∃k∈l,k<0\/p.n<=k)):=by refine bE Tryz.func46 rfl<|r0 rfl<|bF rfl (Up p l hl) rfl<|r0 rfl<|aG rfl<|an.of_eq<|congrArg SV.u ?_;rw[decide_eq_decide,rb _ _ _<|ac0 0];refine exists_congr λk=>and_congr Iff.rfl ?_;unfold lC;simp only[afL,decide_eq_false_iff_not];omega
def Uo(l:List Int)(v:Int)(hl:l.length<2^60):aL Tryz.prog 258 [.ints .i64 false l,.i v] (.i<|rN (λk=>decide (v=k)) l 0):=by
 refine bE Tryz.func258 rfl<|r0 rfl<|loop (λi:Nat=>[(0,.ints .i64 false l),(1,.i v),(7,.i l.length),(8,.i i)]) (λi=>i<=l.length/\rN (λk=>decide (v=k)) l 0=rN (λk=>decide (v=k)) (l.drop i) i) (λi=>l.length-i) 0 ⟨aaJ _,rfl⟩ ⟨ab,ab,ab,ab,ao⟩ ?_;rintro i⟨hi,hf⟩;refine r0 rfl<|bH rfl (λh=>?_) (λh=>?_)
 ·have aZ:i<l.length:=by omega
  have ei:(i:Int).toNat=i:=by omega
  rw[C9 _ aZ]at hf;refine r1 rfl (by simp only[ag,and_true,ei];omega) ?_;refine bH rfl (λh2=>?_) (λh2=>?_)
  ·rw[ei,aw aZ]at h2;refine r0 rfl<|aG rfl<|bC ?_;rw[hf,if_pos<|decide_eq_true h2]
  rw[ei,aw aZ]at h2;refine r1 rfl (by simp only[ag,and_true];omega) ?_;refine again (i+1) (by omega) ⟨by omega,?_⟩ ⟨ab,ab,ab,ab,ao⟩;rw[hf,if_neg<|by simpa using h2]
 refine r0 rfl<|aG rfl<|bC ?_;rw[hf,adu<|by omega];rfl
def N5(l:List Int)(v:Int)(hl:l.length<2^60):aL Tryz.prog 227 [.ints .i64 false l,.i v] (.u<|decide (v∈l)):=by refine bE Tryz.func227 rfl<|r0 rfl<|bF rfl (Uo l v hl) rfl<|r0 rfl<|aG rfl<|an.of_eq<|congrArg SV.u ?_;rw[decide_eq_decide,rb _ _ _<|ac0 0];simp
def Ra(s:bK):isNeg (s.take<|ar s)=isNeg s/\bm (s.take<|ar s)=(bm s).take (ar<|bm s)/\s.drop (ar s+1)=(bm s).drop (ar (bm s)+1)/\(ar s<s.length↔ar (bm s)<(bm s).length)/\ar s=(if isNeg s then 1 else 0)+ar (bm s)/\s.length=(if isNeg s then 1 else 0)+(bm s).length:=by
 by_cases h:isNeg s=true
 ·have hs:=GH s;rw[if_pos h]at hs;generalize bm s=b at hs⊢;subst hs;have e:ar ([45]++b)=ar b+1:=by simp[ar]
  rw[e,if_pos h];refine⟨?_,?_,?_,?_,?_,?_⟩
  ·rw[h];simp[isNeg]
  ·have hn:isNeg (([45]++b).take<|ar b+1)=true:=by simp[isNeg]
   unfold bm;rw[if_pos hn];simp
  ·simp
  ·simp
  ·omega
  simp;omega
 have hb:bm s=s:=by unfold bm;rw[if_neg h]
 have hf:isNeg s=false:=by simpa using h
 rw[hb,if_neg h];have hn:isNeg (s.take<|ar s)=false:=by
  unfold isNeg at hf⊢;simp only[decide_eq_false_iff_not]at hf⊢;rintro⟨h1,h2⟩;have hl:0<ar s/\0<s.length:=by simp at h1;omega
  have e:(s.take<|ar s).getD 0 0=s.getD 0 0:=by rw[abc,abc,adt,if_pos hl.1]
  simp_all
 refine⟨by rw[hn,hf],?_,rfl,Iff.rfl,by omega,by omega⟩;unfold bm;rw[hn];rfl
def gcd_one{a:Nm}(h:a8 a):(ws a=[]/\a.s=1)↔nv a=1:=by
 rw[uM h];obtain⟨s,w⟩:=a;cases w with
 |none=>simp[nv]
 |some m=>
  obtain⟨h1,h2⟩:=h;simp[nv];rcases h1 with h1|h1
  ·have h1:=h1;subst h1;omega
  have h1:=h1;subst h1;omega
def xB(s:bK)(hl:s.length<2^45):aL Tryz.prog 55 [.s s] (.i<|aJ s):=by
 obtain⟨p1,p2,p3,p4,p5,p6⟩:=Ra s;have hle:=nm<|bm s;refine bE Tryz.func55 rfl<|r0 rfl<|bF rfl (aaa s<|by omega) rfl<|r0 rfl<|bF rfl (acw (s.take<|ar s)<|by simp;omega) rfl ?_;refine rn 6 rfl ?_;rw[p1,p2,p3,show decide (ar s<s.length)=decide (ar (bm s)<(bm s).length)from decide_eq_decide.2 p4];obtain⟨Z,hZ⟩:∃Z,Z=(bm s).take (ar<|bm s):=⟨_,rfl⟩;obtain⟨D,hD⟩:∃D,D=(bm s).drop (ar (bm s)+1):=⟨_,rfl⟩;have hZl:Z.length=ar (bm s):=by rw[hZ,abP];omega
 have hDl:D.length=(bm s).length-(ar (bm s)+1):=by rw[hD,adK]
 have KG:=xJ s;have hU:ir s=(fD Z&& !(isNeg s&&decide (Z=[48]))):=by rw[hZ];rfl
 have hV:jB s=(!decide (ar (bm s)<(bm s).length)||(fD D&& !decide (D=[48])&& !decide (D=[49]))):=by rw[hD];rfl
 have hG:pf s=(!decide (ar (bm s)<(bm s).length)||decide (Nat.gcd (ct Z) (ct D)=1)):=by rw[hZ,hD];rfl
 rw[<-hZ,<-hD];obtain⟨fr,Ky⟩:∃fr,fr=decide (ar (bm s)<(bm s).length):=⟨_,rfl⟩;have hN:aJ s=if ir s then(if jB s then(if 600<Z.length\/600<D.length then 4 else if pf s then 0 else 1)else 1)else 1:=by
  unfold aJ;have:(600<ar (bm s)\/ar (bm s)+601<(bm s).length)↔(600<Z.length\/600<D.length):=by omega
  simp only[this]
 rw[<-Ky]at hV hG⊢;rw[hN];refine b8 1 [(4,.s D),(5,.u fr),(6,.s Z)] (ir s=true/\jB s=true) ?_ ?_
 ·have one:¬(ir s=true/\jB s=true)->(1:Int)=if ir s then(if jB s then(if 600<Z.length\/600<D.length then 4 else if pf s then 0 else 1)else 1)else 1:=by
   intro hn;by_cases a:ir s=true
   ·rw[if_pos a,if_neg λb=>hn ⟨a,b⟩]
   rw[if_neg a]
  refine r0 rfl<|bF rfl (Mb Z<|by omega) rfl<|r0 rfl<|iF 24 rfl (λh=>?_) (λh=>?_)
  ·have h:fD Z=false:=by simpa using h
   refine r0 rfl<|aG rfl<|an.of_eq<|congrArg SV.i<|one λ⟨a,_⟩=>by rw[hU,h]at a;simp at a
  have h:fD Z=true:=by simpa using h
  refine r0 rfl<|iF 26 rfl (λg=>?_) (λg=>?_)
  ·have hU2:ir s= !decide (Z=[48]):=by rw[hU,h,g];simp
   refine r0 rfl<|aC 31 rfl (λg2=>?_) (λg2=>?_)
   ·have g2:Z=[48]:=g2;refine r0 rfl<|aG rfl<|an.of_eq<|congrArg SV.i<|one λ⟨a,_⟩=>by rw[hU2,g2]at a;simp at a
   have g2:¬Z=[48]:=g2;have hU3:ir s=true:=by rw[hU2];simp[g2]
   refine r0 rfl<|iF 33 rfl (λf1=>?_) (λf1=>?_)
   ·have U0:jB s=(fD D&& !decide (D=[48])&& !decide (D=[49])):=by rw[hV,f1];simp
    refine r0 rfl<|bF rfl (Mb D<|by omega) rfl<|r0 rfl<|iF 37 rfl (λf2=>?_) (λf2=>?_)
    ·have f2:fD D=false:=by simpa using f2
     refine r0 rfl<|aG rfl<|an.of_eq<|congrArg SV.i<|one λ⟨_,a⟩=>by rw[U0,f2]at a;simp at a
    have f2:fD D=true:=by simpa using f2
    refine r0 rfl<|aC 41 rfl (λf3=>?_) (λf3=>?_)
    ·have f3:D=[48]:=f3;refine r0 rfl<|aG rfl<|an.of_eq<|congrArg SV.i<|one λ⟨_,a⟩=>by rw[U0,f3]at a;simp at a
    have f3:¬D=[48]:=f3;refine r0 rfl<|bH rfl (λf4=>?_) (λf4=>?_)
    ·have f4:D=[49]:=f4;refine r0 rfl<|aG rfl<|an.of_eq<|congrArg SV.i<|one λ⟨_,a⟩=>by rw[U0,f4]at a;simp at a
    have f4:¬D=[49]:=f4;refine r0 rfl<|aP ⟨hU3,by rw[U0,f2];simp[f3,f4]⟩ ⟨ab,ab,ab,ao⟩
   refine r0 rfl<|aP ⟨hU3,by rw[hV,f1];rfl⟩ ⟨ab,ab,ab,ao⟩
  have hU3:ir s=true:=by rw[hU,h,g];simp
  refine r0 rfl<|iF 33 rfl (λf1=>?_) (λf1=>?_)
  ·have U0:jB s=(fD D&& !decide (D=[48])&& !decide (D=[49])):=by rw[hV,f1];simp
   refine r0 rfl<|bF rfl (Mb D<|by omega) rfl<|r0 rfl<|iF 37 rfl (λf2=>?_) (λf2=>?_)
   ·have f2:fD D=false:=by simpa using f2
    refine r0 rfl<|aG rfl<|an.of_eq<|congrArg SV.i<|one λ⟨_,a⟩=>by rw[U0,f2]at a;simp at a
   have f2:fD D=true:=by simpa using f2
   refine r0 rfl<|aC 41 rfl (λf3=>?_) (λf3=>?_)
   ·have f3:D=[48]:=f3;refine r0 rfl<|aG rfl<|an.of_eq<|congrArg SV.i<|one λ⟨_,a⟩=>by rw[U0,f3]at a;simp at a
   have f3:¬D=[48]:=f3;refine r0 rfl<|bH rfl (λf4=>?_) (λf4=>?_)
   ·have f4:D=[49]:=f4;refine r0 rfl<|aG rfl<|an.of_eq<|congrArg SV.i<|one λ⟨_,a⟩=>by rw[U0,f4]at a;simp at a
   have f4:¬D=[49]:=f4;refine r0 rfl<|aP ⟨hU3,by rw[U0,f2];simp[f3,f4]⟩ ⟨ab,ab,ab,ao⟩
  refine r0 rfl<|aP ⟨hU3,by rw[hV,f1];rfl⟩ ⟨ab,ab,ab,ao⟩
 rintro⟨u1,v1⟩;rw[if_pos u1,if_pos v1];have hZd:db Z:=by rw[hU,abe]at u1;exact(nA u1.1).1
 refine r0 rfl<|aC 50 rfl (λg=>?_) (λg=>?_)
 ·have g:600<Z.length:=by omega
  refine r0 rfl<|aG rfl<|bC ?_;rw[if_pos<|.inl g]
 have g:¬600<Z.length:=by omega
 refine r0 rfl<|bH rfl (λg2=>?_) (λg2=>?_)
 ·have g2:600<D.length:=by omega
  refine r0 rfl<|aG rfl<|bC ?_;rw[if_pos<|.inr g2]
 have g2:¬600<D.length:=by omega
 rw[if_neg λh=>h.elim g g2];refine r0 rfl<|nB rfl rfl rfl (λf1=>?_) (λf1=>?_)
 ·have hDd:db D:=by
   rw[hV,f1]at v1;simp only[aiJ,ahq,abe]at v1;exact(nA v1.1.1).1
  have bZ:=xK hZd;have bD:=xK hDd;obtain⟨z1,z2⟩:=nO (s:=Z) (by rw[bZ];exact hZd);obtain⟨d1,d2⟩:=nO (s:=D) (by rw[bD];exact hDd);have zs:=wh (s:=Z) (by rw[bZ];exact hZd);have ds:=wh (s:=D) (by rw[bD];exact hDd);rw[bZ]at zs;rw[bD]at ds;have zs:=dw zs (show Z.length<=600 by omega);have ds:=dw ds (show D.length<=600 by omega);obtain⟨c1,c2,c3⟩:=yP _ _ z2 d2 zs ds;refine r0 rfl<|bF rfl (B8 Z (by rw[bZ];exact hZd)<|by omega) rfl ?_;refine r0 rfl<|bF rfl (B8 D (by rw[bD];exact hDd)<|by omega) rfl ?_;refine r0 rfl<|bF rfl (ZZ _ _ z2 d2 zs ds<|by omega) rfl<|r0 rfl<|bF rfl (WZ _) rfl ?_;have ub:=gcd_one c2;have hGG:pf s=true↔nv (oB (kb Z)<|kb D)=1:=by rw[hG,f1,c1,z1,d1,wR hZd,wR hDd];simp only[aiJ,ahq,decide_eq_true_eq];show _↔((Int.gcd ((ct Z:Nat):Int) ((ct D:Nat):Int):Nat):Int)=1;rw[Int.gcd_natCast_natCast];omega
  refine r0 rfl<|iF 67 rfl (λe1=>?_) (λe1=>?_)
  ·have e1:¬ws (oB (kb Z)<|kb D)=[]:=by simpa using e1
   refine r0 rfl<|aG rfl<|bC ?_;rw[if_neg λhh=>e1 (ub.2<|hGG.1 hh).1]
  have e1:ws (oB (kb Z)<|kb D)=[]:=by simpa using e1
  refine r0 rfl<|bH rfl (λe2=>?_) (λe2=>?_)
  ·refine r0 rfl<|aG rfl<|bC ?_;rw[if_neg λhh=>e2 (ub.2<|hGG.1 hh).2]
  have e2:(oB (kb Z)<|kb D).s=1:=ahg.1 e2;refine r0 rfl<|aG rfl<|bC ?_;rw[if_pos<|hGG.2<|ub.1 ⟨e1,e2⟩]
 refine r0 rfl<|aG rfl<|bC ?_;rw[hG,f1];rfl
def jL(z:Int):bm (ck z)=decl z.natAbs 1:=by
 have:=Qb z 1;have e:uY z 1=ck z:=by unfold uY fb;simp
 rw[e]at this;rw[this];simp[fb]
def n5(z:Int):isNeg (ck z)=decide (z<0):=by
 have:=yK z 1;have e:uY z 1=ck z:=by unfold uY fb;simp
 rwa[e]at this
def Nb(z:Int):CM (ck z)=z:=by
 unfold CM;rw[jL,n5,ke];by_cases h:z<0
 ·rw[decide_eq_true h];show -((z.natAbs:Nat):Int)=z;omega
 rw[decide_eq_false h];show((z.natAbs:Nat):Int)=z;omega
def fX(q:Rat):Fr:=⟨kb<|ck q.num,if q.den=1 then⟨1,none⟩else kb (decl q.den 1)⟩
def xL(n:Nat):bm (decl n 1)=decl n 1:=xK<|cw n 1
def dL(q:Rat):gT (fX q) q:=by
 obtain⟨a1,a2⟩:=nO (s:=ck q.num) (by rw[jL];exact cw _ 1);obtain⟨b1,b2⟩:=nO (s:=decl q.den 1) (by rw[xL];exact cw _ 1);rw[Nb]at a1;rw[wR<|cw _ 1,ke]at b1;refine⟨a2,?_,a1,?_⟩
 ·show a8 (if q.den=1 then(⟨1,none⟩:Nm)else kb (decl q.den 1));split
  ·exact Hq
  exact b2
 show nv (if q.den=1 then(⟨1,none⟩:Nm)else kb (decl q.den 1))=q.den;split
 ·rename_i h;rw[h];rfl
 exact b1
def Vb{q:Rat}{n:Nat}(h:Dc q n)(hn:1<=n):rQ (fX q) n:=by
 have a:=wh (s:=ck q.num) (by rw[jL];exact cw _ 1);have b:=wh (s:=decl q.den 1) (by rw[xL];exact cw _ 1);rw[jL]at a;rw[xL]at b;refine⟨dw a h.1,?_⟩;show fj (if q.den=1 then(⟨1,none⟩:Nm)else kb (decl q.den 1)) n;split
 ·exact dw (gJ (m:=1)<|by decide) hn
 exact dw b h.2
def ach(q:Rat){n:Nat}(hd:Dc q n)(hn:n<2^19):aL Tryz.prog 56 [.s<|qt q] (eF<|fX q):=by
 have l1:(ck q.num).length<=n+1:=by
  have:=jL q.num;have h2:(ck q.num).length<=(bm<|ck q.num).length+1:=by unfold bm;split<;>simp<;>omega
  rw[this]at h2;have:=hd.1;omega
 have l2:=hd.2;have hlen:(qt q).length<=2*n+2:=by
  unfold qt uY fb;split
  ·simp;omega
  simp;omega
 have hs:ar (qt q)=(ck q.num).length:=lz _ _;refine bE Tryz.func56 rfl<|r0 rfl<|bF rfl (aaa (qt q)<|by omega) rfl ?_;have et:(qt q).take (ar<|qt q)=ck q.num:=by rw[hs];exact ss _ _
 rw[et];refine r0 rfl<|nB rfl rfl rfl (λh=>?_) (λh=>?_)
 ·have h1:q.den=1:=by
   by_cases g:q.den=1
   ·exact g
   exfalso;have h:¬ar (qt q)<(qt q).length:=by simpa using h
   apply h;rw[hs];unfold qt uY;rw[nJ g];simp
  refine r0 rfl<|bF rfl (B8 (ck q.num) (by rw[jL];exact cw _ 1)<|by omega) rfl ?_;refine r0 rfl<|bF rfl (cY.GM _) rfl<|r0 rfl<|aG rfl<|an.of_eq ?_;unfold fX;rw[if_pos h1];rfl
 have h1:q.den≠1:=by
  intro g;have h:ar (qt q)<(qt q).length:=by simpa using h
  rw[hs]at h;unfold qt uY fb at h;rw[if_pos g]at h;simp at h
 have ed:(qt q).drop (ar (qt q)+1)=decl q.den 1:=by rw[hs];exact s9 _ _ h1
 rw[ed];refine r0 rfl<|bF rfl (B8 (ck q.num) (by rw[jL];exact cw _ 1)<|by omega) rfl ?_;refine r0 rfl<|bF rfl (B8 (decl q.den 1) (by rw[xL];exact cw _ 1)<|by omega) rfl ?_;refine r0 rfl<|aG rfl<|an.of_eq ?_;unfold fX;rw[if_neg h1];rfl
def qW{s:bK}(h:aJ s=0):aL Tryz.prog 56 [.s s] (eF<|fX<|bI s):=by have:=ach (bI s) (NZ h) (by decide);rwa[fO h]at this
def fH{s:bK}(h:aJ s=0):rQ (fX<|bI s) 600:=Vb (NZ h) (by decide)
def acu(xs:List bK)(hx:∀s∈xs,cR s)(hl:xs.length<2^60):aL Tryz.prog 200 [.strs false xs,.fn (.func 55) [] []] (.i<|aK aJ xs):=by
 refine bE Tryz.func200 rfl<|r0 rfl<|loop (λi:Nat=>[(1,.fn (.func 55) [] []),(8,.strs false xs),(9,.i xs.length),(10,.i i)]) (λi=>i<=xs.length/\aK aJ xs=aK aJ (xs.drop i)) (λi=>xs.length-i) 0 ⟨aaJ _,rfl⟩ ⟨ab,ab,ab,ab,ao⟩ ?_;rintro i⟨hi,hf⟩;refine r0 rfl<|bH rfl (λh=>?_) (λh=>?_)
 ·have aZ:i<xs.length:=by omega
  have ei:(i:Int).toNat=i:=by omega
  rw[dp _ aZ]at hf;have eg:xs.getD (i:Int).toNat []=xs[i]:=by rw[ei];exact aw aZ
  refine r1 rfl (by simp[ag,ei];omega) ?_;refine Il (us:=[.s xs[i]]) rfl rfl ao ⟨congrArg SV.s eg,ao⟩ (xB xs[i]<|hx _<|aaY aZ) rfl<|r0 rfl<|bH rfl (λh2=>?_) (λh2=>?_)
  ·refine r0 rfl<|aG rfl<|bC ?_;rw[hf,if_pos h2]
  refine r1 rfl (by simp[ag,and_true];omega) ?_;refine again (i+1) (by omega) ⟨by omega,?_⟩ ⟨ab,ab,ab,ab,ao⟩;rw[hf,if_neg h2]
 refine r0 rfl<|aG rfl<|bC ?_;rw[hf,adu<|by omega];rfl
def VI(xs:List bK)(hx:∀s∈xs,cR s)(hl:xs.length<2^60):aL Tryz.prog 119 [.strs false xs] (.i<|aK aJ xs):=by refine bE Tryz.func119 rfl<|r0 rfl<|bF rfl (acu xs hx hl) rfl<|r0 rfl<|bB rfl
def WH(b:Bool)(e:Int):aL Tryz.prog 120 [.u b,.i e] (.i<|if b then e else 0):=by
 refine bE Tryz.func120 rfl<|r0 rfl<|nB rfl rfl rfl (λh=>?_) (λh=>?_)
 ·refine r0 rfl<|aG rfl<|bC ?_;rw[h];rfl
 refine r0 rfl<|aG rfl<|bC ?_;rw[h];rfl
def aaD(s:hO)(h1:cR s.lo)(h2:cR s.hi):aL Tryz.prog 59 [fP s] (.i<|iu s):=by
 refine bE Tryz.func59 rfl<|r0 rfl<|bF rfl (VI [s.lo,s.hi] (λx hx=>by simp at hx;rcases hx with rfl|rfl<;>assumption)<|by simp) rfl ?_;have hf:aK aJ [s.lo,s.hi]=if aJ s.lo≠0 then aJ s.lo else if aJ s.hi≠0 then aJ s.hi else 0:=rfl;rw[hf];refine r0 rfl<|bH rfl (λh=>?_) (λh=>?_)
 ·refine r0 rfl<|aG rfl<|bC ?_;unfold iu;by_cases a:aJ s.lo≠0
  ·rw[if_pos a,if_pos a]
  rw[if_neg a]at h;by_cases b:aJ s.hi≠0
  ·rw[if_pos b,if_pos b]
  rw[if_neg b]at h;exact absurd rfl h
 have lV:aJ s.lo=0:=by apply adC;intro a;apply h;rw[if_pos a];exact a
 have ya:aJ s.hi=0:=by apply adC;intro b;apply h;rw[if_neg λa=>a lV,if_pos b];exact b
 have qm:iu s=if 0<DF (bI s.lo) (bI s.hi)then 11 else 0:=by unfold iu;rw[if_neg λa=>a lV,if_neg λa=>a ya]
 refine r0 rfl<|bG rfl (qW lV) rfl<|r0 rfl<|bG rfl (qW ya) rfl<|bG rfl (NG _ _ (dL _) (dL _) (fH lV) (fH ya)<|by decide) rfl<|r0 rfl<|bG rfl (WH _ 11) rfl<|k0 rfl (by kernel_rfl)<|aG rfl<|bC ?_;rw[qm,I0];have hc:=tV (p:=bI s.lo) (q:=bI s.hi);by_cases g1:bI s.lo<=bI s.hi
 ·rw[if_neg (show¬0<DF (bI s.lo) (bI s.hi) by have:=hc.2 g1;omega)];have:¬bI s.hi<bI s.lo:=Rat.not_lt.2 g1;rw[if_neg this];split<;>simp
 rw[if_pos<|show 0<DF (bI s.lo) (bI s.hi)from Int.not_le.1 λh=>g1<|hc.1 h];have g2:bI s.hi<bI s.lo:=ah3.1 g1;have g3:¬bI s.lo<bI s.hi:=λh=>g1<|adB h;rw[if_neg g3,if_pos g2];simp
def T9(a b:Int)(f:Nat)(p:SV):SV:=.agg [.i a,.i b,.fn (.func f) [] [],p]
def kI:SV:=T9 2 2 255 (.c .nilFunc)
def kA:SV:=T9 1 8 254 (.fn (.func 256) [] [])
def kT:SV:=T9 1 1 254 (.fn (.func 257) [] [])
def wP(a b:Int)(f:Nat)(p:Value):Value:=.agg #[.int .i64 a,.int .i64 b,.func (.func f) #[] #[],p]
def F5:Br:=[(bo,wP 2 2 255 .nilFunc),(jJ,wP 1 8 254 (.func (.func 256) #[] #[])),(dQ,wP 1 1 254 (.func (.func 257) #[] #[]))]
def O2:aL Tryz.prog 226 [] (.mp<|CA F5):=by refine bE Tryz.func226 rfl<|r0 rfl<|ex rfl rfl rfl (J1 rfl) rfl<|r0 rfl<|ex rfl rfl rfl (tE (k:=bo) (v:=wP 2 2 255 .nilFunc) (x:=kI) (.inl rfl) rfl Tryz.underlying297 Tryz.underlying9 rfl) rfl<|r0 rfl<|ex rfl rfl rfl (tE (k:=jJ) (v:=wP 1 8 254 (.func (.func 256) #[] #[])) (x:=kA) (.inl rfl) rfl Tryz.underlying297 Tryz.underlying9 rfl) rfl<|r0 rfl<|ex rfl rfl rfl (tE (k:=dQ) (v:=wP 1 1 254 (.func (.func 257) #[] #[])) (x:=kT) (.inl rfl) rfl Tryz.underlying297 Tryz.underlying9 rfl) rfl<|r0 rfl<|bB rfl
def KP:uc bo F5=some (wP 2 2 255 .nilFunc):=rfl
def KQ:uc jJ F5=some (wP 1 8 254 (.func (.func 256) #[] #[])):=rfl
def KO:uc dQ F5=some (wP 1 1 254 (.func (.func 257) #[] #[])):=rfl
def RO{k:bK}(h1:k≠bo)(h2:k≠jJ)(h3:k≠dQ):uc k F5=none:=by
 have e:∀{a b:bK},a≠b->sv a b=false:=by
  intro a b h;cases hh:sv a b with
  |false=>rfl
  |true=>exact absurd (tr.1 hh) h
 simp[F5,uc,e h1,e h2,e h3]
def Lx(p:kx)(u:bO)(hu:UOk u):aL Tryz.prog 157 [bh p,dM u] (.i<|fL p.n u):=by
 have Rw:=hu.ah;have X4:=hu.dD;refine bE Tryz.func157 rfl<|b8 6 [(2,.box true<|bh p),(3,.box true<|dM u)] ((u.kind=bo\/u.kind=jJ\/u.kind=dQ)/\¬jQ u (D6 u) (x9 u)) ?_ ?_
 ·refine r0 rfl<|bG rfl O2 rfl<|r0 rfl ?_;have hw:(u.kind=bo\/u.kind=jJ\/u.kind=dQ)->jQ u (D6 u) (x9 u)->2=fL p.n u:=by
   intro hk hh;unfold fL;rw[if_neg λh=>hk.elim h.1 λk=>k.elim h.2.1 h.2.2,if_pos hh]
  by_cases h1:u.kind=bo
  ·have hl:D6 u=2:=by unfold D6;rw[if_pos h1]
   have hh:x9 u=2:=by unfold x9;rw[if_pos h1]
   have Yb:¬u.kind=dQ:=by rw[h1];decide
   refine Wp (.bX [kI,.b true]) rfl rfl rfl (fW (k:=u.kind) (x:=kI) Tryz.underlying297 Tryz.underlying9 (by rw[h1];exact KP) rfl true) rfl ?_;refine k0 rfl (by kernel_rfl)<|bH rfl (λh=>absurd h Yb) λ_=>?_;refine r0 rfl<|aC 47 rfl (λh3=>?_) (λh3=>?_)
   ·refine r0 rfl<|aG rfl<|an.of_eq<|congrArg SV.i<|hw (.inl h1) ?_;rw[hl,hh];exact .inl h3
   refine r0 rfl<|aC 55 rfl (λh4=>?_) (λh4=>?_)
   ·refine r0 rfl<|aG rfl<|an.of_eq<|congrArg SV.i<|hw (.inl h1) ?_;rw[hl,hh];exact .inr<|.inl h4
   refine r0 rfl<|nB rfl rfl rfl (λh5=>?_) (λh5=>?_)
   ·refine r0 rfl<|aG rfl<|an.of_eq<|congrArg SV.i<|hw (.inl h1) ?_;have h5:¬(u.dD.length:Int)=0:=by simpa using h5
    exact .inr<|.inr<|.inr ⟨Yb,by omega⟩
   have h5:(u.dD.length:Int)=0:=by simpa using h5
   refine r0 rfl<|aP ⟨.inl h1,?_⟩ ⟨ab,ab,ao⟩;rw[hl,hh];rintro(q|q|q|q)
   ·exact h3 q
   ·exact h4 q
   ·exact Yb q.1
   omega
  by_cases h1:u.kind=jJ
  ·rename_i h0;have hl:D6 u=1:=by unfold D6;rw[if_neg h0]
   have hh:x9 u=8:=by unfold x9;rw[if_neg h0,if_pos h1]
   have Yb:¬u.kind=dQ:=by rw[h1];decide
   refine Wp (.bX [kA,.b true]) rfl rfl rfl (fW (k:=u.kind) (x:=kA) Tryz.underlying297 Tryz.underlying9 (by rw[h1];exact KQ) rfl true) rfl ?_;refine k0 rfl (by kernel_rfl)<|bH rfl (λh=>absurd h Yb) λ_=>?_;refine r0 rfl<|aC 47 rfl (λh3=>?_) (λh3=>?_)
   ·refine r0 rfl<|aG rfl<|an.of_eq<|congrArg SV.i<|hw (.inr<|.inl h1) ?_;rw[hl,hh];exact .inl h3
   refine r0 rfl<|aC 55 rfl (λh4=>?_) (λh4=>?_)
   ·refine r0 rfl<|aG rfl<|an.of_eq<|congrArg SV.i<|hw (.inr<|.inl h1) ?_;rw[hl,hh];exact .inr<|.inl h4
   refine r0 rfl<|nB rfl rfl rfl (λh5=>?_) (λh5=>?_)
   ·refine r0 rfl<|aG rfl<|an.of_eq<|congrArg SV.i<|hw (.inr<|.inl h1) ?_;have h5:¬(u.dD.length:Int)=0:=by simpa using h5
    exact .inr<|.inr<|.inr ⟨Yb,by omega⟩
   have h5:(u.dD.length:Int)=0:=by simpa using h5
   refine r0 rfl<|aP ⟨.inr<|.inl h1,?_⟩ ⟨ab,ab,ao⟩;rw[hl,hh];rintro(q|q|q|q)
   ·exact h3 q
   ·exact h4 q
   ·exact Yb q.1
   omega
  rename_i h0;by_cases h2:u.kind=dQ
  ·have hl:D6 u=1:=by unfold D6;rw[if_neg h0]
   have hh:x9 u=1:=by unfold x9;rw[if_neg h0,if_neg h1]
   refine Wp (.bX [kT,.b true]) rfl rfl rfl (fW (k:=u.kind) (x:=kT) Tryz.underlying297 Tryz.underlying9 (by rw[h2];exact KO) rfl true) rfl ?_;refine k0 rfl (by kernel_rfl)<|bH rfl (λ_=>?_) λh=>absurd h2 h;refine r0 rfl<|aC 35 rfl (λg1=>?_) (λg1=>?_)
   ·refine r0 rfl<|aC 47 rfl (λh3=>?_) (λh3=>?_)
    ·refine r0 rfl<|aG rfl<|an.of_eq<|congrArg SV.i<|hw (.inr<|.inr h2) ?_;rw[hl,hh];exact .inl h3
    refine r0 rfl<|aC 55 rfl (λh4=>?_) (λh4=>?_)
    ·refine r0 rfl<|aG rfl<|an.of_eq<|congrArg SV.i<|hw (.inr<|.inr h2) ?_;rw[hl,hh];exact .inr<|.inl h4
    refine r0 rfl<|nB rfl rfl rfl (λh5=>?_) (λh5=>?_)
    ·have h5:¬(u.dD.length:Int)<=13:=by simpa using h5
     refine r0 rfl<|aG rfl<|an.of_eq<|congrArg SV.i<|hw (.inr<|.inr h2)<|.inr<|.inr<|.inl ⟨h2,by omega⟩
    have h5:(u.dD.length:Int)<=13:=by simpa using h5
    refine r0 rfl<|aP ⟨.inr<|.inr h2,?_⟩ ⟨ab,ab,ao⟩;rw[hl,hh];rintro(q|q|q|q)
    ·exact h3 q
    ·exact h4 q
    ·have:=q.2;omega
    exact q.1 h2
   refine r0 rfl ?_;have ab5:jQ u (D6 u) (x9 u):=.inr<|.inr<|.inl ⟨h2,by omega⟩;refine aC 47 rfl (λh3=>?_) (λh3=>?_)
   ·refine r0 rfl<|aG rfl<|an.of_eq<|congrArg SV.i<|hw (.inr<|.inr h2) ab5
   refine r0 rfl<|aC 55 rfl (λh4=>?_) (λh4=>?_)
   ·refine r0 rfl<|aG rfl<|an.of_eq<|congrArg SV.i<|hw (.inr<|.inr h2) ab5
   refine r0 rfl<|aG rfl<|an.of_eq<|congrArg SV.i<|hw (.inr<|.inr h2) ab5
  obtain⟨i,i1,i2⟩:∃i,Tryz.prog.info? 295=some i/\i.zero=some (.agg #[.int .i64 0,.int .i64 0,.nilFunc,.nilFunc]):=⟨_,rfl,rfl⟩;refine Wp (.bX [.agg [.i 0,.i 0,.c .nilFunc,.c .nilFunc],.b false]) rfl rfl rfl (MX (k:=u.kind) (x:=.agg [.i 0,.i 0,.c .nilFunc,.c .nilFunc]) Tryz.underlying297 Tryz.underlying9 (RO h0 h1 h2) i1 i2 rfl true) rfl<|k0 rfl (by kernel_rfl)<|aG rfl<|an.of_eq<|congrArg SV.i<|by unfold fL;rw[if_pos ⟨h0,h1,h2⟩]
 rintro⟨hk,hw⟩;have vq:fL p.n u=if aK (fY p.n) u.ah≠0 then aK (fY p.n) u.ah
  else if u.out<1\/p.n<=u.out then 10
  else if aJ u.k≠0 then aJ u.k else aK aJ u.dD:=by
  unfold fL;rw[if_neg λh=>hk.elim h.1 λk=>k.elim h.2.1 h.2.2,if_neg hw]
 refine b8 1 [(2,.box true<|bh p),(3,.box true<|dM u)] (aK (fY p.n) u.ah=0) ?_ λhz=>?_
 ·refine r0 rfl<|loop (λi:Nat=>[(2,.box true<|bh p),(3,.box true<|dM u),(60,.bT false 2 default pd u.ah),(61,.i u.ah.length),(62,.i i)]) (λi=>i<=u.ah.length/\aK (fY p.n) u.ah=aK (fY p.n) (u.ah.drop i)) (λi=>u.ah.length-i) 0 ⟨aaJ _,rfl⟩ ⟨ab,ab,ab,ab,ab,ao⟩ ?_;rintro i⟨hi,hf⟩;refine r0 rfl<|bH rfl (λh1=>?_) (λh1=>?_)
  ·have aZ:i<u.ah.length:=by omega
   have ei:(i:Int).toNat=i:=by omega
   have eg:u.ah.getD i default=u.ah[i]:=aw aZ;rw[dp _ aZ]at hf;have ab0:=hu.dU _<|aaY aZ;refine r1 rfl (by simp only[ag,and_true,ei];omega) ?_;rw[ei,eg];generalize u.ah[i]=f at*;refine bG rfl (yJ p _) rfl<|r0 rfl<|bG rfl (nD _ 10) rfl<|r0 rfl<|bG rfl (xB f.dU ab0) rfl<|r0 rfl<|bG rfl (nD _ 6) rfl<|r0 rfl<|bG rfl (tQ _<|by simp) rfl<|k0 rfl (by kernel_rfl) ?_;have he:aK id [if !lC p.n f.sh then(10:Int)else 0,aJ f.dU,if decide (f.dU=[48])then 6 else 0]=fY p.n f:=by
    unfold fY lC;by_cases a:f.sh<0\/p.n<=f.sh
    ·rw[if_pos a,decide_eq_false<|by omega];rfl
    rw[if_neg a,decide_eq_true<|by omega];by_cases b:aJ f.dU≠0
    ·rw[if_pos b];simp[aK,b]
    rw[if_neg b];have b:aJ f.dU=0:=by simpa using b
    have:f.dU=[48]↔bI f.dU=0:=by have:=Hf (q:=bI f.dU);rwa[fO b]at this
    by_cases c:bI f.dU=0
    ·rw[if_pos c,decide_eq_true<|this.2 c];simp[aK,b]
    rw[if_neg c,decide_eq_false λh=>c<|this.1 h];simp[aK,b]
   rw[show aK id [if !lC p.n f.sh then(10:Int)else 0,aJ f.dU,if decide (f.dU=[48])then 6 else 0]=fY p.n f from he];refine bH rfl (λh2=>?_) (λh2=>?_)
   ·refine r0 rfl<|aG rfl<|bC ?_;rw[if_pos h2]at hf;rw[vq,if_pos<|by rw[hf];exact h2,hf]
   refine r1 rfl (by simp only[ag,and_true];omega) ?_;refine again (i+1) (by omega) ⟨by omega,?_⟩ ⟨ab,ab,ab,ab,ab,ao⟩;rw[hf,if_neg h2]
  refine r0 rfl<|aP ?_ ⟨ab,ab,ao⟩;rw[hf,adu<|by omega];rfl
 rw[if_neg<|by rw[hz];simp]at vq;have hk:=hu.k;refine b8 1 [(3,.box true<|dM u)] (fL p.n u=aK aJ u.dD) ?_ λhN2=>?_
 ·refine r0 rfl<|aC 88 rfl (λh1=>?_) (λh1=>?_)
  ·refine r0 rfl<|bG rfl (nD true 10) rfl<|r0 rfl<|bG rfl (xB u.k hk) rfl<|r0 rfl<|bG rfl (tQ _<|by simp) rfl<|k0 rfl (by kernel_rfl)<|bH rfl (λh2=>?_) λh2=>absurd (by simp[aK]) h2;refine r0 rfl<|aG rfl<|bC ?_;rw[vq,if_pos<|show u.out<1\/p.n<=u.out from .inl<|by omega];simp[aK]
  refine r0 rfl<|bG rfl (yJ p _) rfl<|r0 rfl<|bG rfl (nD _ 10) rfl<|r0 rfl<|bG rfl (xB u.k hk) rfl<|r0 rfl<|bG rfl (tQ _<|by simp) rfl<|k0 rfl (by kernel_rfl) ?_;have he:aK id [if !lC p.n u.out then(10:Int)else 0,aJ u.k]=if u.out<1\/p.n<=u.out then 10 else if aJ u.k≠0 then aJ u.k else 0:=by
   unfold lC;by_cases a:u.out<1\/p.n<=u.out
   ·rw[if_pos a,decide_eq_false<|by omega];rfl
   rw[if_neg a,decide_eq_true<|by omega];by_cases b:aJ u.k≠0
   ·rw[if_pos b];simp[aK,b]
   rw[if_neg b];simp at b;simp[aK,b]
  rw[he];refine bH rfl (λh2=>?_) (λh2=>?_)
  ·refine r0 rfl<|aG rfl<|bC ?_;rw[vq];by_cases a:u.out<1\/p.n<=u.out
   ·rw[if_pos a,if_pos a]
   rw[if_neg a]at h2;rw[if_neg a,if_neg a];by_cases b:aJ u.k≠0
   ·rw[if_pos b,if_pos b]
   rw[if_neg b]at h2;exact absurd rfl h2
  refine r0 rfl<|aP ?_ ⟨ab,ao⟩;rw[vq];by_cases a:u.out<1\/p.n<=u.out
  ·rw[if_pos a]at h2;simp at h2
  rw[if_neg a]at h2⊢;by_cases b:aJ u.k≠0
  ·rw[if_pos b]at h2;exact absurd b h2
  rw[if_neg b]
 refine r0 rfl<|loop (λi:Nat=>[(3,.box true<|dM u),(105,.strs false u.dD),(106,.i u.dD.length),(107,.i i)]) (λi=>i<=u.dD.length/\aK aJ u.dD=aK aJ (u.dD.drop i)) (λi=>u.dD.length-i) 0 ⟨aaJ _,rfl⟩ ⟨ab,ab,ab,ab,ao⟩ ?_;rintro i⟨hi,hf⟩;refine r0 rfl<|bH rfl (λh1=>?_) (λh1=>?_)
 ·have aZ:i<u.dD.length:=by omega
  have ei:(i:Int).toNat=i:=by omega
  rw[dp _ aZ]at hf;refine r1 rfl (by simp only[ag,and_true,ei];omega) ?_;refine Il (us:=[.s u.dD[i]]) rfl rfl ao ⟨congrArg SV.s<|by rw[ei];exact aw aZ,ao⟩ (xB u.dD[i]<|hu.Mf _<|aaY aZ) rfl ?_;refine r0 rfl<|bH rfl (λh2=>?_) (λh2=>?_)
  ·refine r0 rfl<|aG rfl<|bC ?_;rw[hN2,hf,if_pos h2]
  refine r1 rfl (by simp only[ag,and_true];omega) ?_;refine again (i+1) (by omega) ⟨by omega,?_⟩ ⟨ab,ab,ab,ab,ao⟩;rw[hf,if_neg h2]
 refine r0 rfl<|aG rfl<|bC ?_;rw[hN2,hf,adu<|by omega];rfl
def Cr(x y:Nat)(hx:x<18446744073709551616)(hy:y<18446744073709551616):aL Tryz.prog 104 [.n .u64 x,.n .u64 y] (.bX [.n .u64 (x*y/18446744073709551616:Nat),.n .u64 (x*y%18446744073709551616:Nat)]):=by refine bE Tryz.func104 rfl<|r0 rfl<|bF rfl (kg x y hx hy) rfl<|r0 rfl<|bB rfl
def Jt{α:Type _}(x z:α){m r k:Nat}(hk:k<=m)(hr:k<=r):(List.replicate m x++List.replicate r z).take m++(List.replicate m x++List.replicate r z).take k++(List.replicate m x++List.replicate r z).drop (m+k)=List.replicate (m+k) x++List.replicate (r-k) z:=by
 rw[List.take_append,List.take_append,ahs];simp only[afb,List.take_replicate,List.drop_replicate,Nat.min_self,afM,adD hk];have e1:m-(m+k)=0:=by omega
 have e2:k-m=0:=by omega
 have e3:m+k-m=k:=by omega
 simp only[e1,e2,e3,List.replicate_zero,aew,ac7,Nat.zero_min];rw[List.replicate_append_replicate]
def Fs(x:Int)(n:Nat)(h0:1<=n)(hn:n<2^20):aL Tryz.prog 52 [.ints .i64 false [x],.i n] (.ints .i64 true<|List.replicate n x):=by
 refine bE Tryz.func52 rfl<|r0 rfl<|bH rfl (λh=>by omega) λh=>?_;refine kw [15,17] rfl rfl ao<|Il (us:=[.n .u64 (1:Nat),.n .u64 n]) rfl rfl ao ⟨rfl,congrArg (SV.n .u64)<|wr<|by omega,ao⟩ (Cr 1 n (by decide)<|by omega) rfl ?_;rw[afG,adA (by omega:n<18446744073709551616),adL (by omega:n<18446744073709551616)];refine r0 rfl<|aC 23 rfl (λh=>by omega) λh=>?_;refine r0 rfl<|bH rfl (λh=>by omega) λh=>?_;refine r1 rfl (by simp[ag,and_true]<;>omega) ?_;refine ex rfl rfl rfl (Vy (P:=Tryz.prog) (ti:=⟨false,1,8,.v<|.int .i64 0⟩) rfl rfl Tryz.underlying23 rfl rfl rfl (by simp;omega) (by simp) (n:=1)<|by rw[afb,afc];exact adD h0) rfl ?_;refine r0 rfl<|loop (λm:Nat=>[(7,.ints .i64 true<|List.replicate m x++List.replicate (n-m) 0),(8,.i m)]) (λm=>1<=m/\m<=n) (λm=>n-m) 1 ⟨aav _,h0⟩ ⟨⟨rfl,an.of_eq<|congrArg (SV.ints .i64 true)<|by rw[List.drop_replicate,afc];rfl⟩,ab,ao⟩ ?_;rintro m⟨h1,h2⟩;have hlen:(List.replicate m x++List.replicate (n-m) (0:Int)).length=n:=by rw[abq,afb,afb];omega
 refine r0 rfl<|bH rfl (λh3=>?_) (λh3=>?_)
 ·have h3:m<n:=by rw[hlen]at h3;omega
  refine rno 6 rfl ao<|wnd rfl rfl ?_ ?_
  ·simp[ag,app,and_true,hlen];omega
  refine rno 2 rfl ao<|wnd rfl rfl ?_ ?_
  ·simp[ag,app,and_true,hlen];omega
  have dc:List.replicate m x++List.replicate (n-m) (0:Int)≠[]:=λe=>by rw[e]at hlen;simp at hlen;omega
  refine exd rfl rfl rfl (ll.same (N2 (P:=Tryz.prog) (ti:=⟨false,1,8,.v<|.int .i64 0⟩) (k:=.i64) (xs:=List.replicate m x++List.replicate (n-m) (0:Int)) rfl rfl Tryz.underlying23 rfl rfl rfl dc (off:=m) (m1:=n-m) (m2:=m) (n:=min m<|n-m) rfl (by rw[hlen];omega) (by rw[hlen];omega) (by omega)<|by omega) rfl ?_ rfl rfl) rfl ?_
  ·show au [_,_]=au [SV.bA 1000000 0 0 [Step.lR 1 (m:Int).toNat<|(List.replicate m x++List.replicate (n-m) (0:Int)).length-(m:Int).toNat],SV.bA 1000000 0 0 [Step.lR 1 0 ((m:Int).toNat-0)]];rw[hlen,afc,ahL]
  refine k1 rfl (by kernel_rfl) (by simp[ag,and_true]<;>omega) ?_;rw[Jt x 0 (Nat.min_le_left _ _)<|Nat.min_le_right _ _];refine again (m+min m (n-m)) (by omega) (by omega) ⟨⟨rfl,an.of_eq<|congrArg (SV.ints .i64 true) ?_⟩,⟨rfl,bC ?_⟩,ao⟩
  ·congr 2;omega
  omega
 have h3:n<=m:=by rw[hlen]at h3;omega
 refine r0 rfl<|aG rfl<|an.of_eq<|congrArg (SV.ints .i64 true) ?_;have:m=n:=by omega
 subst this;rw[afM];simp
def zF:SV:=.agg [.i 0,.nil,.i 0,.nil]
def tiF:xY:=⟨true,4,64,zF⟩
def tA{x:SV}(h:x.aF=true):∀n,gm (List.replicate n x)=true
 |0=>rfl
 |n+1=>by simp[af1,gm,h];exact tA h n
def Tl{x:SV}(h:x.aF=true)(m n:Nat):gm (List.replicate m x++List.replicate n zF)=true:=by
 induction m with
 |zero=>simpa using tA (by decide) n
 |succ m ih=>simp[af1,gm,h];exact ih
def Tm{x:SV}(h:mq tiF x=true)(m n:Nat):∀y∈List.replicate m x++List.replicate n zF,mq tiF y=true:=by
 intro y hy;rcases abR.1 hy with hy|hy
 ·rw[(List.mem_replicate.1 hy).2];exact h
 rw[(List.mem_replicate.1 hy).2];rfl
def QK(x:SV)(hf:mq tiF x=true)(gu:x.aF=true)(n:Nat)(h0:1<=n)(hn:n<2^20):aL Tryz.prog 230 [.row false 4 [x],.i n] (.row true 4 (List.replicate n x)):=by
 refine bE Tryz.func230 rfl<|r0 rfl<|bH rfl (λh=>by omega) λh=>?_;refine kw [15,17] rfl rfl ao<|Il (us:=[.n .u64 (1:Nat),.n .u64 n]) rfl rfl ao ⟨rfl,congrArg (SV.n .u64)<|wr<|by omega,ao⟩ (Cr 1 n (by decide)<|by omega) rfl ?_;rw[afG,adA (by omega:n<18446744073709551616),adL (by omega:n<18446744073709551616)];refine r0 rfl<|aC 23 rfl (λh=>by omega) λh=>?_;refine r0 rfl<|bH rfl (λh=>by omega) λh=>?_;refine r1 rfl (by simp[ag,and_true]<;>omega) ?_;refine ex rfl rfl rfl (Vx (P:=Tryz.prog) (ti':=tiF) rfl rfl Tryz.underlying149 rfl (by simp;omega) (by simp) (tA (by decide) _) (by simpa using hf) (n:=1)<|by rw[afb,afc];exact adD h0) rfl ?_;refine r0 rfl<|loop (λm:Nat=>[(7,.row true 4 (List.replicate m x++List.replicate (n-m) zF)),(8,.i m)]) (λm=>1<=m/\m<=n) (λm=>n-m) 1 ⟨aav _,h0⟩ ⟨⟨rfl,an.of_eq<|congrArg (SV.row true 4)<|by rw[List.drop_replicate,afc];rfl⟩,ab,ao⟩ ?_;rintro m⟨h1,h2⟩;have hlen:(List.replicate m x++List.replicate (n-m) zF).length=n:=by rw[abq,afb,afb];omega
 refine r0 rfl<|bH rfl (λh3=>?_) (λh3=>?_)
 ·have h3:m<n:=by rw[eV,hlen]at h3;omega
  refine rno 6 rfl ao<|wnd rfl rfl ?_ ?_
  ·simp[ag,app,and_true,eV,hlen];omega
  refine rno 2 rfl ao<|wnd rfl rfl ?_ ?_
  ·simp[ag,app,and_true,eV,hlen];omega
  have dc:List.replicate m x++List.replicate (n-m) zF≠[]:=λe=>by rw[e]at hlen;simp at hlen;omega
  refine exd rfl rfl rfl (ll.same (N1 (P:=Tryz.prog) (ti':=tiF) (xs:=List.replicate m x++List.replicate (n-m) zF) rfl rfl Tryz.underlying149 rfl dc (Tl gu _ _) (Tm hf _ _) (off:=m) (m1:=n-m) (m2:=m) (n:=min m<|n-m) rfl (by rw[hlen];omega) (by rw[hlen];omega) (by omega)<|by omega) rfl ?_ rfl rfl) rfl ?_
  ·show au [_,_]=au [SV.bA 1000000 0 0 [Step.lR 4 (m:Int).toNat<|len (List.replicate m x++List.replicate (n-m) zF)-(m:Int).toNat],SV.bA 1000000 0 0 [Step.lR 4 0 ((m:Int).toNat-0)]];rw[eV,hlen,afc,ahL];rfl
  refine k1 rfl (by kernel_rfl) (by simp[ag,and_true]<;>omega) ?_;rw[Jt x zF (Nat.min_le_left _ _)<|Nat.min_le_right _ _];refine again (m+min m (n-m)) (by omega) (by omega) ⟨⟨rfl,an.of_eq<|congrArg (SV.row true 4) ?_⟩,⟨rfl,bC ?_⟩,ao⟩
  ·congr 2;omega
  omega
 have h3:n<=m:=by rw[eV,hlen]at h3;omega
 refine r0 rfl<|aG rfl<|an.of_eq<|congrArg (SV.row true 4) ?_;have:m=n:=by omega
 subst this;rw[afM];simp
end Go.Ai.Pg
