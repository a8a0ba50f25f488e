/- Parts of the proof of ScaleCircles (CheckRefused returns the error of the reference), at every input, with no further conditions. -/
import Derived.Test.YtdgocdadfmhjgaaGreatDoorCZAI
set_option linter.all false
set_option maxRecDepth 100000
set_option maxHeartbeats 0
namespace Go.Ai
open Go.Proofs Go.RowKit
def RZ{U V:Int}{n:Nat}(hU:U<1000000000*V)(hV:V<1000000000^n):U<1000000000^(n+1):=by omega
theorem mK(m n:Nat)(h1:(ae m).length<2^36)(h2:(ae n).length<2^36)(No:n≠0):aL Tryz.prog 127 [.ints .i64 false<|ae m,.ints .i64 false<|ae n] (.bX [.ints .i64 false<|ae<|m/n,.ints .i64 false<|ae<|m%n]):=by
 refine bE Tryz.func127 rfl<|r0 rfl<|bF rfl (mQ m n (by omega)<|by omega) rfl<|r0 rfl<|bH rfl (λh=>?_) (λh=>?_)
 ·have cS:m<n:=by
   unfold ou at h;split at h
   ·assumption
   split at h<;>omega
  refine r0 rfl<|aG rfl ⟨?_,an.of_eq<|congrArg (SV.ints .i64 false) ?_,ao⟩
  ·show ae (m/n)=[];rw[aeS cS,cD]
  rw[afb cS]
 have Kx:n<=m:=by
  unfold ou at h;rcases ac1 m n with h'|h'
  ·rw[if_pos h']at h;omega
  exact h'
 have hnp:=eI No;have hlb:(ae n).length<=(ae m).length:=by
  rcases ac1 (ae m).length (ae n).length with h'|h'
  ·have:=b6 h';omega
  exact h'
 refine r0 rfl<|bH rfl (λh3=>?_) (λh3=>?_)
 ·have hs:ae n=[(n:Int)]/\n<1000000000:=by
   have e:=bc n;have hl:(ae n).length=1:=by omega
   obtain⟨d,hd⟩:=List.length_eq_one_iff.1 hl;have:=bk n d (by rw[hd];simp);rw[hd]at e;simp only[val]at e;rw[hd];exact⟨by congr 1;omega,by omega⟩
  have hg:(ae n).getD (0:Int).toNat 0=(n:Int):=by rw[hs.1];rfl
  refine r1 rfl (by simp only[ag,and_true];omega) ?_;refine bF rfl (by rw[hg];exact tb m n (by omega) (by omega) hs.2) rfl ?_;refine r0 rfl<|bF rfl (dm _<|by simp) rfl<|r0 rfl<|aG rfl ⟨an.refl _,an.of_eq<|congrArg (SV.ints .i64 false) ?_,ao⟩;have cS:m%n<n:=adg _ (by omega);rw[dV λd hd=>by simp at hd;omega];have e:(val [((m%n:Nat):Int)]).toNat=m%n:=by simp only[val];omega
  rw[e]
 have II:2<=(ae n).length:=by omega
 have et:(((ae n).length:Int)-1).toNat=(ae n).length-1:=by omega
 have hbt:=a7 (bk n)<|(ae n).length-1;refine r1 rfl (by simp only[ag,and_true,et];omega) ?_;rw[et];have hF0:0<=1000000000/((ae n).getD ((ae n).length-1) 0+1):=ahu (by omega) (by omega);obtain⟨Fn,hFn⟩:=Int.eq_ofNat_of_zero_le hF0;obtain⟨f1,f2,f3,f4⟩:=Q9 II hFn.symm;have hFd:=mu (f:=Fn) (by omega) (by omega);have hFl:(ae Fn).length<2^40:=by rw[hFd];simp
 rw[hFn];refine bF rfl (by rw[<-hFd];exact mG n Fn (by omega) hFl) rfl ?_;refine r0 rfl<|bF rfl (by rw[<-hFd];exact mG m Fn (by omega) hFl) rfl ?_;have hla:(ae<|m*Fn).length<=(ae m).length+1:=by
  have g1:=bQ m;rcases fZ (m*Fn)with g2|g2
  ·rw[g2];simp
  rcases ac1 ((ae m).length+1) (ae<|m*Fn).length with h'|h'
  ·have:=ij (show(ae m).length+1<=(ae<|m*Fn).length-1 by omega);rw[adf]at this;have e:((m*Fn:Nat):Int)<=m*500000000:=by rw[adB];exact aec (by omega) (by omega)
   omega
  exact h'
 refine r1 rfl (by simp only[ag,and_true,len,f3];omega) ?_;have Ek:=f3;generalize hV:ae (n*Fn)=v at*;have dv:gU v:=hV▸bk _;have vv:val v=((n*Fn:Nat):Int):=by rw[<-hV,bc]
 have akC:0<val v:=by rw[vv];have:0<n*Fn:=ahD (by omega) (by omega);omega
 have ah9:val v<1000000000^(ae n).length:=by have:=ia dv;rwa[Ek]at this
 generalize LX:(ae n).length=nb at*;generalize hlm:(ae m).length=la at*;refine loop (λw:List Int=>[(0,.ints .i64 false<|ae m),(8,.ints .i64 false [(Fn:Int)]),(9,.ints .i64 false v),(10,.i nb),(11,.ints .i64 true w)]) (λw=>gU w/\val w=((m*Fn:Nat):Int)/\w.length<=la+1) (λw=>la+1-w.length) (ae<|m*Fn)
  ⟨bk _,bc _,hla⟩ ⟨ab,ab,ab,⟨rfl,an.of_eq<|congrArg SV.i<|by rw[Ek]⟩,ab,ao⟩ ?_
 rintro w⟨wd,wv,wl⟩;refine r1 rfl (by simp only[ag,and_true];omega) ?_;refine bH rfl (λh4=>?_) (λh4=>?_)
 ·rw[hlm]at h4;refine r1 rfl (by simp only[ag,and_true,acU,acY];omega) ?_;refine again (w++[0]) ?_ ⟨iY wd<|by omega,by rw[eM,wv];simp,by simp;omega⟩ ⟨ab,ab,ab,ab,ab,ao⟩;simp;omega
 rw[hlm]at h4;have hwl:w.length=la+1:=by omega
 have el1:((w.length:Int)-(nb:Int)).toNat=la+1-nb:=by omega
 have el2:((w.length:Int)-(nb:Int)-1)=((la+1-nb:Nat):Int)-1:=by omega
 refine r1 rfl (by simp only[ag,and_true,hwl];omega) ?_;refine oN (λ(i:Nat)(u q:List Int)=>[(8,.ints .i64 false [(Fn:Int)]),(9,.ints .i64 false v),(10,.i nb),(11,.ints .i64 true u),(12,.ints .i64 true q),(13,.i<|(i:Int)-1)])
  (λi u q=>gU u/\u.length=la+1/\gU q/\q.length=la+1-nb/\i<=la+1-nb/\val (u.drop i)<val v/\((m*Fn:Nat):Int)=val u+val v*val (q.drop i)*1000000000^i)
  (λi _ _=>i) (la+1-nb) w (List.replicate (la+1-nb) 0) ⟨wd,hwl,ff _,by simp,abZ _,?_,?_⟩
  ⟨ab,ab,ab,ab,⟨rfl,an.of_eq<|congrArg (SV.ints .i64 true)<|by rw[el1]⟩,⟨rfl,an.of_eq<|congrArg SV.i el2⟩,ao⟩ ?_
 ·have e:=gI w (la+1-nb);have l:(w.take<|la+1-nb).length=la+1-nb:=by simp;omega
  rw[l,wv]at e;have e0:=aY<|aaq wd<|la+1-nb;have g1:=bQ m;rw[hlm]at g1;have g2:(1000000000:Int)^(nb-1)<=n:=by
   rcases fZ n with g|g
   ·rw[g]at LX;simp at LX;omega
   rw[LX]at g;exact g
  have p1:=cG<|la+1-nb;have e2:(1000000000:Int)^la=1000000000^(la+1-nb)*1000000000^(nb-1):=by rw[<-afq];congr 1;omega
  have e3:((m*Fn:Nat):Int)<1000000000^(la+1-nb)*val v:=by
   rw[vv,adB,adB];have a1:(m:Int)*Fn<1000000000^la*Fn:=Int.mul_lt_mul_of_pos_right g1 (by omega);have a2:(1000000000:Int)^la*Fn<=1000000000^(la+1-nb)*(n*Fn):=by rw[e2,adh];exact aec (fU g2<|by omega) (by omega)
   omega
  have:1000000000^(la+1-nb)*val (w.drop<|la+1-nb)<1000000000^(la+1-nb)*val v:=by omega
  exact Int.lt_of_mul_lt_mul_left this (by omega)
 ·rw[wv,adt<|by simp];simp[val]
 rintro i u q⟨ud,ul,qd,ql,hi,cS,heq⟩;rcases i with _|j
 ·refine r0 rfl<|bH rfl (λh5=>absurd h5<|by omega) λ_=>?_;have enb:(nb:Int).toNat=nb:=by omega
  simp only[aeP,ahd,agB]at cS heq;have X5:=aY ud;have hq0:=aY qd;have hq:val q=((m/n:Nat):Int):=by
   have e1:(m*Fn)/(n*Fn)=m/n:=ai9 _ _ (by omega);have e2:((m*Fn:Nat):Int)/((n*Fn:Nat):Int)=val q:=by rw[heq,<-vv,Int.add_mul_ediv_left _ _<|by omega,Int.ediv_eq_zero_of_lt X5 cS];omega
   rw[<-e2,<-e1];simp
  have hr:val u=(((m%n)*Fn:Nat):Int):=by
   have e1:(m*Fn)%(n*Fn)=(m%n)*Fn:=ajb _ _ _;have e2:((m*Fn:Nat):Int)%((n*Fn:Nat):Int)=val u:=by rw[heq,<-vv,Int.add_mul_emod_self_left,Int.emod_eq_of_lt X5 cS]
   rw[<-e2,<-e1];simp
  have hut:val (u.take nb)=(((m%n)*Fn:Nat):Int):=by
   have e:=gI u nb;have l:(u.take nb).length=nb:=by simp;omega
   rw[l]at e;have a1:=aY<|aaq ud nb;have a2:=aY<|oh ud nb;have a3:1000000000^nb*val (u.drop nb)<1000000000^nb*1:=by omega
   have a4:=Int.lt_of_mul_lt_mul_left a3<|ads<|cG nb;have a5:val (u.drop nb)=0:=by omega
   rw[a5]at e;omega
  refine r1 rfl (by simp only[ag,and_true,enb,ul];omega) ?_;refine bG rfl (dm _<|by simp;omega) rfl ?_;have etr:cQ (((u.drop 0).take<|(nb:Int).toNat-0))=ae ((m%n)*Fn):=by rw[aeP,enb,ain,dV<|aaq ud _,hut];rfl
  rw[etr];refine r1 rfl (by simp only[ag,and_true,acU,acY];omega) ?_;have hlr:(ae<|(m%n)*Fn).length<2^40:=by
   rw[<-etr];have a1:=vQ<|((u.drop 0).take<|(nb:Int).toNat-0);have a2:(((u.drop 0).take<|(nb:Int).toNat-0)).length<=nb:=by simp;omega
   omega
  refine bG rfl (tb ((m%n)*Fn) Fn hlr (by omega)<|by omega) rfl<|k0 rfl (by kernel_rfl)<|bF rfl (dm _<|by omega) rfl<|r0 rfl<|aG rfl ⟨an.of_eq<|congrArg (SV.ints .i64 false) ?_,an.of_eq<|congrArg (SV.ints .i64 false) ?_,ao⟩
  ·rw[dV qd,hq];rfl
  rw[ajc _<|by omega]
 have hjl:j+nb<la+1:=by omega
 have ej:(((j+1:Nat):Int)-1)=(j:Int):=by omega
 have hu:=gg (w:=u) (j:=j) (by omega);have huj:=a7 ud j;have hUV:val (u.drop j)<1000000000*val v:=by omega
 have hU0:=aY<|oh ud j;have ya:val (u.drop<|j+nb+1)=0:=by
  have e:=qq (w:=u) (j:=j) (n:=nb) (by omega);have lo:=qu (w:=u) (j:=j) (n:=nb) (by omega) λk _ _=>a7 ud k;have d1:=a7 ud<|j+nb;have d2:=aY<|oh ud<|j+nb+1;have d3:=RZ hUV ah9;have d4:=adT d1.1<|ads<|cG nb;have d5:1000000000^(nb+1)*val (u.drop<|j+nb+1)<1000000000^(nb+1)*1:=by omega
  have:=Int.lt_of_mul_lt_mul_left d5<|ads<|cG _;omega
 have abT:=KJ u v j nb ud dv Ek II (by omega) (by omega) f4;have hT:val (u.drop j)<((cV ((u.getD (j+nb) 0*1000000000+u.getD (j+nb-1) 0)/v.getD (nb-1) 0).toNat ((u.getD (j+nb) 0*1000000000+u.getD (j+nb-1) 0)/v.getD (nb-1) 0) ((u.getD (j+nb) 0*1000000000+u.getD (j+nb-1) 0)%v.getD (nb-1) 0) (v.getD (nb-1) 0) (v.getD (nb-2) 0)<|u.getD (j+nb-2) 0)+1)*val v/\
  ((cV ((u.getD (j+nb) 0*1000000000+u.getD (j+nb-1) 0)/v.getD (nb-1) 0).toNat ((u.getD (j+nb) 0*1000000000+u.getD (j+nb-1) 0)/v.getD (nb-1) 0) ((u.getD (j+nb) 0*1000000000+u.getD (j+nb-1) 0)%v.getD (nb-1) 0) (v.getD (nb-1) 0) (v.getD (nb-2) 0)<|u.getD (j+nb-2) 0)-1)*val v<=val (u.drop j)/\
  0<=cV ((u.getD (j+nb) 0*1000000000+u.getD (j+nb-1) 0)/v.getD (nb-1) 0).toNat ((u.getD (j+nb) 0*1000000000+u.getD (j+nb-1) 0)/v.getD (nb-1) 0) ((u.getD (j+nb) 0*1000000000+u.getD (j+nb-1) 0)%v.getD (nb-1) 0) (v.getD (nb-1) 0) (v.getD (nb-2) 0) (u.getD (j+nb-2) 0):=by
  obtain⟨c,rfl⟩:∃c,nb=c+2:=⟨nb-2,by omega⟩;have tv:=qq (w:=v) (j:=0) (n:=c) (by omega);have tv1:=gg (w:=v) (j:=0+c+1) (by omega);have tv2:v.drop (0+c+1+1)=[]:=adt (by omega);have ao:=qu (w:=v) (j:=0) (n:=c) (by omega) λk _ _=>a7 dv k;have tu:=qq (w:=u) (j:=j) (n:=c) (by omega);have tu1:=gg (w:=u) (j:=j+c+1) (by omega);have tu2:=gg (w:=u) (j:=j+c+1+1) (by omega);have tul:=qu (w:=u) (j:=j) (n:=c) (by omega) λk _ _=>a7 ud k;rw[tv2]at tv1;simp only[val,afP,aeP]at tv tv1 ao;rw[tv1]at tv;have hh:val (u.drop<|j+c+1+1+1)=0:=ya;rw[hh]at tu2;rw[tu2]at tu1;rw[tu1]at tu;have g0:=a7 dv c;have g1:=a7 dv<|c+1;have g2:=a7 ud<|j+c;have g3:=a7 ud<|j+c+1;have g4:=a7 ud<|j+c+1+1;have x1:c+2-1=c+1:=by omega
  have x2:c+2-2=c:=by omega
  have x3:j+(c+2)=j+c+1+1:=by omega
  have x4:j+(c+2)-1=j+c+1:=by omega
  have x5:j+(c+2)-2=j+c:=by omega
  rw[x1]at f4;rw[x1,x2,x4,x5,x3];generalize v.getD (c+1) 0=v1 at*;generalize v.getD c 0=v2 at*;generalize u.getD (j+c) 0=u3 at*;generalize u.getD (j+c+1) 0=u2 at*;generalize u.getD (j+c+1+1) 0=u1 at*;rw[adf]at tv tu;have hP:=cG c;have q0:0<=(u1*1000000000+u2)/v1:=ahu (by omega) (by omega);have q1:=agQ (u1*1000000000+u2) (show v1≠0 by omega);have q2:=agR (u1*1000000000+u2) (show 0<v1 by omega);have q3:=aha (u1*1000000000+u2) v1;generalize (1000000000:Int)^c=P at*;have ZU:val v=v1*(1000000000*P)+v2*P+val (v.take c):=by rw[tv];grind
  have hU':val (u.drop j)=(u1*1000000000+u2)*(1000000000*P)+u3*P+val ((u.drop j).take c):=by rw[tu];grind
  have:=sU hP (by omega) g0 g2 ao tul ZU hU' hUV ((u1*1000000000+u2)/v1).toNat ((u1*1000000000+u2)/v1) ((u1*1000000000+u2)%v1) rfl q0 q1 (by rw[adj];omega) ?_
  ·exact⟨this.1,this.2.1,this.2.2.1⟩
  have a1:(u1*1000000000+u2)+1<=((u1*1000000000+u2)/v1+1)*v1:=by have e:v1*((u1*1000000000+u2)/v1)=(u1*1000000000+u2)/v1*v1:=adj _ _;rw[ada];omega
  have a2:=fU a1 (show 0<=1000000000*P by omega);have a3:u3*P+val ((u.drop j).take c)<1000000000*P:=by have:=fU (show u3+1<=1000000000 by omega) (show 0<=P by omega);rw[ada]at this;omega
  have a4:0<=v2*P:=adT g0.1 (by omega);have a5:((u1*1000000000+u2)/v1+1)*(v1*(1000000000*P))<=((u1*1000000000+u2)/v1+1)*val v:=aec (by omega) (by omega);rw[adh]at a2;rw[ada (u1*1000000000+u2) 1]at a2;omega
 generalize hTd:cV ((u.getD (j+nb) 0*1000000000+u.getD (j+nb-1) 0)/v.getD (nb-1) 0).toNat ((u.getD (j+nb) 0*1000000000+u.getD (j+nb-1) 0)/v.getD (nb-1) 0) ((u.getD (j+nb) 0*1000000000+u.getD (j+nb-1) 0)%v.getD (nb-1) 0) (v.getD (nb-1) 0) (v.getD (nb-2) 0) (u.getD (j+nb-2) 0)=T at*;obtain⟨hT1,hT2,hT0⟩:=hT;have hTB:T<=1000000000:=by
  have:(T-1)*val v<1000000000*val v:=by omega
  have:=ahc this (by omega);omega
 refine aeo [(8,.ints .i64 false [(Fn:Int)]),(9,.ints .i64 false v),(10,.i nb),(11,.ints .i64 true u),(12,.ints .i64 true q),(13,.i j)] ⟨ab,ab,ab,ab,ab,⟨rfl,an.of_eq<|congrArg SV.i ej⟩,ao⟩<|r0 rfl<|bH rfl (λ_=>?_) λh5=>absurd (show(0:Int)<=j by omega) h5;refine r0 rfl<|bF rfl abT rfl<|r0 rfl ?_;have WC:∀k:Nat,((k:Int)+(j:Int)).toNat=j+k:=λk=>by omega
 have ejn:((j:Int)+(nb:Int)).toNat=j+nb:=by omega
 refine oN (λ(k:Nat)(w:List Int)(c:Int)=>[(8,.ints .i64 false [(Fn:Int)]),(9,.ints .i64 false v),(10,.i nb),(11,.ints .i64 true w),(12,.ints .i64 true q),(13,.i j),(14,.i T),(15,.i c),(16,.i k)])
  (λk w c=>gU w/\w.length=la+1/\0<=c/\c<=T+1/\val (w.drop j)=val (u.drop j)-T*val (v.take k)+c*1000000000^k/\w.take j=u.take j/\k<=nb/\∀k',j+k<=k'->w.getD k' 0=u.getD k' 0)
  (λk _ _=>nb-k) 0 u 0 ⟨ud,ul,by omega,by omega,by simp[val],rfl,by omega,λ_ _=>rfl⟩ ⟨ab,ab,ab,ab,ab,ab,ab,ab,ab,ao⟩ ?_
 rintro k w c⟨wd',Zk,c0,c1,hv',Pc,gp,uz⟩;refine r0 rfl<|bH rfl (λh5=>?_) (λh5=>?_)
 ·have ek:(k:Int).toNat=k:=by omega
  have g1:=a7 dv k;have g2:=a7 wd'<|j+k;generalize hx:v.getD k 0=x at*;generalize hy:w.getD (j+k) 0=y at*;have p0:0<=T*x:=adT hT0 g1.1;have p1:T*x<=T*999999999:=aec (by omega) hT0;have q4:=aha (T*x+c) 1000000000;have q5:=agQ (T*x+c) (show(1000000000:Int)≠0 by decide);have q6:=agR (T*x+c) (show(0:Int)<1000000000 by decide);refine r1 rfl (by simp only[ag,and_true,ek,WC,hx,hy,Zk,Ek];omega) ?_;have step:∀(z c':Int),z=y-(T*x+c)%1000000000+(c'-(T*x+c)/1000000000)*1000000000->val ((w.set (j+k) z).drop j)=val (u.drop j)-T*val (v.take<|k+1)+c'*1000000000^(k+1):=by
   intro z c' hz;rw[mR (by omega)<|by omega,hy,hv',aH,hx,adf,show j+k-j=k by omega];generalize (1000000000:Int)^k=B at*;generalize (T*x+c)/1000000000=a at*;generalize (T*x+c)%1000000000=b at*
   grind
  refine bH rfl (λh6=>?_) (λh6=>?_)
  ·simp only[ek,WC,hx,hy]at h6;refine r1 rfl (by simp only[ag,and_true,ek,WC,hx,hy,Zk,Ek];omega) ?_;refine again (k+1,w.set (j+k)<|y-(T*x+c)%1000000000+1000000000,(T*x+c)/1000000000+1) ?_
    ⟨eK wd'<|by omega,by simpa using Zk,by dsimp only;omega,by dsimp only;omega,step _ ((T*x+c)/1000000000+1)<|by omega,by dsimp only;rw[eJ<|by omega];exact Pc,by dsimp only;omega,λk' gp=>by dsimp only at gp⊢;rw[b7,if_neg<|by omega];exact uz k'<|by omega⟩
    ⟨ab,ab,ab,⟨rfl,an.of_eq<|congrArg (SV.ints .i64 true)<|by simp only[ek,WC,hx,hy]⟩,ab,ab,ab,⟨rfl,an.of_eq<|congrArg SV.i<|by simp only[ek,hx]⟩,ab,ao⟩
   dsimp only;omega
  simp only[ek,WC,hx,hy]at h6;refine r1 rfl (by simp only[ag,and_true,ek,WC,hx,hy,Zk,Ek];omega) ?_;refine again (k+1,w.set (j+k)<|y-(T*x+c)%1000000000,(T*x+c)/1000000000) ?_
   ⟨eK wd'<|by omega,by simpa using Zk,by dsimp only;omega,by dsimp only;omega,step _ ((T*x+c)/1000000000)<|by omega,by dsimp only;rw[eJ<|by omega];exact Pc,by dsimp only;omega,λk' gp=>by dsimp only at gp⊢;rw[b7,if_neg<|by omega];exact uz k'<|by omega⟩
   ⟨ab,ab,ab,⟨rfl,an.of_eq<|congrArg (SV.ints .i64 true)<|by simp only[ek,WC,hx,hy]⟩,ab,ab,ab,⟨rfl,an.of_eq<|congrArg SV.i<|by simp only[ek,hx]⟩,ab,ao⟩
  dsimp only;omega
 have hk:k=nb:=by omega
 subst hk;rw[acR<|by omega]at hv';have g2:=a7 ud<|j+k;have F9:=uz (j+k) (by omega);generalize hy:u.getD (j+k) 0=y at*;have lj:(w.set (j+k)<|y-c).getD (j+k) 0=y-c:=by rw[b7,if_pos ⟨rfl,by omega⟩]
 refine r1 rfl (by simp only[ag,and_true,ejn,F9,lj,Zk,ae7];omega) ?_;simp only[ejn,F9];have Rv:val ((w.set (j+k)<|y-c).drop j)=val (u.drop j)-T*val v:=by
  rw[mR (by omega)<|by omega,F9,hv',show j+k-j=k by omega];generalize (1000000000:Int)^k=B at*
  grind
 have aiV:val ((w.set (j+k)<|y-c).drop<|j+k+1)=0:=by
  rw[<-ya]
  congr 1
  refine zN (by simp;omega) λk' gp=>?_;rw[b7,if_neg<|by omega];exact uz k' (by omega)
 have akZ:=qu (w:=w.set (j+k)<|y-c) (j:=j) (n:=k) (by simp;omega) (λk' _ _=>by rw[b7,if_neg<|by omega];exact a7 wd' k');have aeD:=qq (w:=w.set (j+k)<|y-c) (j:=j) (n:=k) (by simp;omega);rw[lj,aiV]at aeD;have hpk:=cG k;refine ajX (λ(T':Int)(w':List Int)=>[(8,.ints .i64 false [(Fn:Int)]),(9,.ints .i64 false v),(10,.i k),(11,.ints .i64 true w'),(12,.ints .i64 true q),(13,.i j),(14,.i T')])
  (λT' w'=>gU w'/\w'.length=la+1/\w'.take j=u.take j/\val (w'.drop j)=val (u.drop j)-T'*val v/\0<=T'/\val (w'.drop j)<val v) ?_ ?_
 ·refine bH rfl (λh6=>?_) (λh6=>?_)
  ·simp only[lj]at h6;have rU:val (u.drop j)-T*val v<0:=by
    have:(y-c)*1000000000^k<=(-1)*1000000000^k:=fU (by omega) (by omega);omega
   have aol:1<=T:=by
    rcases afs T 1 with h|h
    ·have:T=0:=by omega
     subst this;omega
    exact h
   refine r1 rfl (by simp only[ag,and_true];omega) ?_;refine oN (λ(i:Nat)(z:List Int)(b:Int)=>[(8,.ints .i64 false [(Fn:Int)]),(9,.ints .i64 false v),(10,.i k),(11,.ints .i64 true z),(12,.ints .i64 true q),(13,.i j),(14,.i<|T-1),(19,.i b),(20,.i i)])
    (λi z b=>(∀p,p≠j+k->0<=z.getD p 0/\z.getD p 0<1000000000)/\z.length=la+1/\0<=b/\b<=1/\val (z.drop j)+b*1000000000^i=val (u.drop j)-T*val v+val (v.take i)/\z.take j=u.take j/\i<=k/\z.getD (j+k) 0=y-c/\∀p,j+k<p->z.getD p 0=u.getD p 0)
    (λi _ _=>k-i) 0 (w.set (j+k)<|y-c) 0
    ⟨λp hp=>by rw[b7,if_neg<|by omega];exact a7 wd' p,by simpa using Zk,by omega,by omega,by simp[val,Rv],by rw[eJ<|by omega];exact Pc,by omega,lj,λp hp=>by rw[b7,if_neg<|by omega];exact uz p<|by omega⟩
    ⟨ab,ab,ab,ab,ab,ab,ab,ab,ab,ao⟩ ?_
   rintro i z b⟨zd,zl,b0,b1,zv,zt,zi,zy,zs⟩;refine r0 rfl<|bH rfl (λh7=>?_) (λh7=>?_)
   ·have ei:(i:Int).toNat=i:=by omega
    have g3:=a7 dv i;have g4:=zd (j+i) (by omega);generalize hx:v.getD i 0=x at*;generalize hz:z.getD (j+i) 0=z0 at*;refine k1 rfl (by kernel_rfl) (by simp only[ag,and_true,ei,WC,hx,hz,zl,Ek];omega) ?_;refine again (i+1,z.set (j+i)<|(z0+x+b)%1000000000,(z0+x+b)/1000000000) ?_
     ⟨λp hp=>?_,by simpa using zl,by dsimp only;omega,by dsimp only;omega,?_,by dsimp only;rw[eJ<|by omega];exact zt,by dsimp only;omega,by dsimp only;rw[b7,if_neg<|by omega];exact zy,λp hp=>by dsimp only;rw[b7,if_neg<|by omega];exact zs p hp⟩
     ⟨ab,ab,ab,⟨rfl,an.of_eq<|congrArg (SV.ints .i64 true)<|by simp only[ei,WC,hx,hz]⟩,ab,ab,ab,⟨rfl,an.of_eq<|congrArg SV.i<|by simp only[ei,WC,hx,hz]⟩,ab,ao⟩
    ·dsimp only;omega
    ·dsimp only;rw[b7];split
     ·omega
     exact zd p hp
    dsimp only;rw[mR (by omega)<|by omega,hz,aH,hx,adf,show j+i-j=i by omega];have q4:=aha (z0+x+b) 1000000000;generalize (1000000000:Int)^i=B at*;generalize (z0+x+b)/1000000000=a at*;generalize (z0+x+b)%1000000000=e at*
    grind
   have hik:i=k:=by omega
   subst hik;rw[acR<|by omega]at zv;refine r1 rfl (by simp only[ag,and_true,ejn,zy,zl];omega) ?_;have ZE:val ((z.set (j+i)<|y-c+b).drop j)=val (u.drop j)-(T-1)*val v:=by
    rw[mR (by omega)<|by omega,zy,show j+i-j=i by omega,aew];generalize (1000000000:Int)^i=B at*
    grind
   have aeH:(z.set (j+i)<|y-c+b).getD (j+i) 0=y-c+b:=by rw[b7,if_pos ⟨rfl,by omega⟩]
   have aiU:val ((z.set (j+i)<|y-c+b).drop<|j+i+1)=0:=by
    rw[<-ya]
    congr 1
    refine zN (by simp;omega) λk' gp=>?_;rw[b7,if_neg<|by omega];exact zs k' (by omega)
   have akY:=qu (w:=z.set (j+i)<|y-c+b) (j:=j) (n:=i) (by simp;omega) (λk' _ _=>by rw[b7,if_neg<|by omega];exact zd k'<|by omega);have aeC:=qq (w:=z.set (j+i)<|y-c+b) (j:=j) (n:=i) (by simp;omega);rw[aeH,aiU]at aeC;have hR1:val (u.drop j)-(T-1)*val v<val v:=by rw[aew];omega
   have hyc:y-c+b=0:=by
    rcases afs (y-c+b) 0 with h|h
    ·have:(y-c+b)*1000000000^i<=(-1)*1000000000^i:=fU (by omega) (by omega);omega
    rcases afs 0 (y-c+b)with h'|h'
    ·have:1*1000000000^i<=(y-c+b)*1000000000^i:=fU (by omega) (by omega);omega
    omega
   refine meet (T-1,z.set (j+i)<|y-c+b) ⟨Li λp hp=>?_,by simpa using zl,by dsimp only;rw[eJ<|by omega];exact zt,ZE,by dsimp only;omega,by dsimp only;omega⟩
    ⟨ab,ab,ab,⟨rfl,an.of_eq<|congrArg (SV.ints .i64 true)<|by simp only[ejn,zy]⟩,ab,ab,ab,ao⟩
   dsimp only;rw[b7];split
   ·omega
   exact zd p (by simp at hp;omega)
  simp only[lj]at h6;refine r0 rfl ?_;have LW:0<=val (u.drop j)-T*val v:=by have:0<=(y-c)*1000000000^k:=adT (by omega) (by omega);omega
  refine meet (T,w.set (j+k)<|y-c) ⟨eK wd'<|by omega,by simpa using Zk,by dsimp only;rw[eJ<|by omega];exact Pc,Rv,hT0,?_⟩
   ⟨ab,ab,ab,ab,ab,ab,ab,ao⟩
  dsimp only;rw[ada]at hT1;omega
 rintro T' w'⟨wd2,wl2,wt2,wv2,wT0,ahy⟩;have wn:=aY<|oh wd2 j;have wTB:T'<1000000000:=by
  have:T'*val v<1000000000*val v:=by omega
  exact ahc this (by omega)
 refine r1 rfl (by simp only[ag,and_true,ql];omega) ?_;have EJ:(j:Int).toNat=j:=by omega
 refine again (j,w',q.set j T') (ahb _) ⟨wd2,wl2,eK qd ⟨wT0,wTB⟩,by simpa using ql,by dsimp only;omega,ahy,?_⟩
  ⟨ab,ab,ab,ab,⟨rfl,an.of_eq<|congrArg (SV.ints .i64 true)<|by rw[EJ]⟩,ab,ao⟩
 dsimp only;have e1:=gI u j;have e2:=gI w' j;have l1:(u.take j).length=j:=by simp;omega
 have l2:(w'.take j).length=j:=by simp;omega
 rw[l1]at e1;rw[l2,wt2,wv2]at e2;rw[heq,e1,e2];have e3:val ((q.set j T').drop j)=T'+1000000000*val (q.drop<|j+1):=by rw[gg<|by simp;omega,b7,if_pos ⟨rfl,by omega⟩,List.drop_set_of_lt<|ahb j]
 rw[e3,adf];generalize (1000000000:Int)^j=B at*
 grind
def jZ(z:Int):SV:=.agg [.u<|decide (z<0),.ints .i64 false<|ae z.natAbs]
def Bs(b:Bool)(x:Int):Int:=if b then -x else x
def IM(z:Int):Prop:=(ae z.natAbs).length<2^34
def ni(n:Nat):0<(ae n).length↔n≠0:=by
 constructor
 ·rintro h rfl;simp[cD]at h
 exact eI
def vY(b:Bool)(xs:List Int)(hx:gU xs)(hl:xs.length<2^60):aL Tryz.prog 181 [.u b,.ints .i64 false xs] (jZ<|Bs b<|val xs):=by
 have h0:=aY hx;have hn:(Bs b<|val xs).natAbs=(val xs).toNat:=by unfold Bs;split<;>omega
 have ht:=dV hx;refine bE Tryz.func181 rfl<|r0 rfl<|bF rfl (dm _<|by omega) rfl<|r0 rfl<|iF 8 rfl (λh=>?_) (λh=>?_)
 ·refine r0 rfl<|aG rfl ⟨?_,an.of_eq<|congrArg (SV.ints .i64 false)<|by rw[ht,hn],ao⟩;show decide _=decide _;rw[ht];have:=ni (val xs).toNat;simp[Bs,h,decide_eq_decide];omega
 refine r0 rfl<|aG rfl ⟨?_,an.of_eq<|congrArg (SV.ints .i64 false)<|by rw[ht,hn],ao⟩;show false=decide _;simp only[Bs,h,aeu,if_false];symm;simp_all
def fc(b:Bool)(n:Nat)(hl:(ae n).length<2^60):aL Tryz.prog 181 [.u b,.ints .i64 false<|ae n] (jZ<|Bs b n):=by have:=vY b (ae n) (bk n) hl;rwa[bc]at this
def Ao(z:Int)(h:IM z):aL Tryz.prog 179 [jZ z] (jZ<|-z):=by unfold IM at h;refine bE Tryz.func179 rfl<|r0 rfl<|bF rfl (fc _ _<|by omega) rfl<|r0 rfl<|aG rfl<|an.of_eq<|congrArg jZ ?_;unfold Bs;by_cases hz:z<0<;>simp<;>omega
def nY{m n K:Nat}(h1:(ae m).length<=K)(h2:(ae n).length<=K):(ae<|m+n).length<=K+1:=by
 rcases fZ (m+n)with g|g
 ·rw[g];simp
 have g1:=bQ m;have g2:=bQ n;have p1:=ij h1;have p2:=ij h2;rcases ac1 (K+1) (ae<|m+n).length with h|h
 ·have p3:=ij (show K+1<=(ae<|m+n).length-1 by omega);omega
 omega
def MH(x y:Int)(hx:IM x)(hy:IM y):aL Tryz.prog 212 [jZ x,jZ y] (jZ<|x+y):=by
 unfold IM at hx hy;have Nu:∀m n:Nat,(ae m).length<2^34->(ae n).length<2^34->(ae<|m+n).length<2^60:=by intro m n h1 h2;have:=nY (K:=max (ae m).length (ae n).length) (Nat.le_max_left _ _)<|Nat.le_max_right _ _;omega
 refine bE Tryz.func212 rfl<|r0 rfl<|bH rfl (λh=>?_) (λh=>?_)
 ·refine r0 rfl<|bG rfl (Bo _ _ (by omega)<|by omega) rfl<|bG rfl (fc _ _<|Nu _ _ hx hy) rfl<|k0 rfl (by kernel_rfl)<|aG rfl<|an.of_eq<|congrArg jZ ?_;unfold Bs;by_cases h1:x<0<;>by_cases h2:y<0<;>simp[h1,h2]at h⊢ <;>omega
 refine r0 rfl<|bF rfl (mQ _ _ (by omega)<|by omega) rfl<|r0 rfl<|bH rfl (λh3=>?_) (λh3=>?_)
 ·have hle:y.natAbs<=x.natAbs:=by unfold ou at h3;split at h3<;>omega
  refine r0 rfl<|bG rfl (rB _ _ (by omega) hle) rfl<|r0 rfl ?_;have hlen:(ae<|x.natAbs-y.natAbs).length<2^60:=by
   rcases ac1 (ae x.natAbs).length (ae<|x.natAbs-y.natAbs).length with g|g
   ·have:=b6 g;omega
   omega
  refine bG rfl (fc _ _ hlen) rfl<|k0 rfl (by kernel_rfl)<|aG rfl<|an.of_eq<|congrArg jZ ?_;unfold Bs;by_cases h1:x<0<;>by_cases h2:y<0<;>simp[h1,h2]at h⊢ <;>omega
 have hle:x.natAbs<=y.natAbs:=by
  unfold ou at h3;split at h3
  ·omega
  split at h3<;>omega
 refine r0 rfl<|bG rfl (rB _ _ (by omega) hle) rfl<|r0 rfl ?_;have hlen:(ae<|y.natAbs-x.natAbs).length<2^60:=by
  rcases ac1 (ae y.natAbs).length (ae<|y.natAbs-x.natAbs).length with g|g
  ·have:=b6 g;omega
  omega
 refine bG rfl (fc _ _ hlen) rfl<|k0 rfl (by kernel_rfl)<|aG rfl<|an.of_eq<|congrArg jZ ?_;unfold Bs;by_cases h1:x<0<;>by_cases h2:y<0<;>simp[h1,h2]at h⊢ <;>omega
def dK(m n:Nat):(ae<|m*n).length<=(ae m).length+(ae n).length:=by
 rcases fZ (m*n)with g|g
 ·rw[g];simp
 have g1:=bQ m;have g2:=bQ n;rcases ac1 ((ae m).length+(ae n).length) (ae<|m*n).length with h|h
 ·have p3:=ij (show(ae m).length+(ae n).length<=(ae<|m*n).length-1 by omega);rw[afq]at p3;have a1:(m:Int)*n<=1000000000^(ae m).length*n:=fU (by omega) (by omega);have a2:(1000000000:Int)^(ae m).length*n<1000000000^(ae m).length*1000000000^(ae n).length:=Int.mul_lt_mul_of_pos_left g2<|cG _;omega
 exact h
def mb(x y:Int)(hx:IM x)(hy:IM y):aL Tryz.prog 101 [jZ x,jZ y] (jZ<|x*y):=by
 unfold IM at hx hy;refine bE Tryz.func101 rfl<|r0 rfl<|bG rfl (mG _ _ (by omega)<|by omega) rfl ?_;have hl:=dK x.natAbs y.natAbs;refine bG rfl (fc _ _<|by omega) rfl<|k0 rfl (by kernel_rfl)<|aG rfl<|an.of_eq<|congrArg jZ ?_;rw[<-afU];unfold Bs;rcases ahe x 0 with h1|h1|h1<;>rcases ahe y 0 with h2|h2|h2
 ·have:0<x*y:=Int.mul_pos_of_neg_of_neg h1 h2;simp[h2];omega
 ·subst h2;simp
 ·have:x*y<0:=Int.mul_neg_of_neg_of_pos h1 h2;simp[show¬y<0 by omega];omega
 ·subst h1;simp
 ·subst h1;simp
 ·subst h1;simp
 ·have:x*y<0:=Int.mul_neg_of_pos_of_neg h1 h2;simp[h2];omega
 ·subst h2;simp
 have:0<x*y:=afV h1 h2;simp[show¬y<0 by omega];omega
def xw(m n:Nat)(h1:(ae m).length<2^36)(h2:(ae n).length<2^36):aL Tryz.prog 65 [.ints .i64 false<|ae m,.ints .i64 false<|ae n] (.ints .i64 false<|ae<|Nat.gcd m n):=by
 refine bE Tryz.func65 rfl<|r0 rfl<|kh (λ(a b:Nat)=>[(0,.ints .i64 false<|ae a),(1,.ints .i64 false<|ae b)]) (λa b=>Nat.gcd a b=Nat.gcd m n/\(ae a).length<2^36/\(ae b).length<2^36) (λ_ b=>b) m n ⟨rfl,h1,h2⟩ ⟨ab,ab,ao⟩ ?_;rintro a b⟨hg,ha,hb⟩;refine r0 rfl<|bH rfl (λh=>?_) (λh=>?_)
 ·have dB:=(ni b).1 (by omega);have cS:a%b<b:=adg _ (by omega);refine r0 rfl<|bF rfl (mK a b ha hb dB) rfl<|r0 rfl<|again (b,a%b) cS ⟨?_,hb,?_⟩ ⟨ab,ab,ao⟩
  ·dsimp only;rw[<-hg,ahf a b,Nat.gcd_rec b a,ahf]
  dsimp only;rcases ac1 (ae b).length (ae<|a%b).length with g|g
  ·have:=b6 g;omega
  omega
 have dB:b=0:=by
  rcases adp b with h'|h'
  ·exact h'
  have:=eI (show b≠0 by omega);omega
 subst dB;refine r0 rfl<|aG rfl<|an.of_eq<|congrArg (SV.ints .i64 false) ?_;rw[<-hg,Nat.gcd_zero_right]
def ji{m:Nat}(h:m<1000000000000000000000000000):(ae m).length<=3:=by
 rcases fZ m with g|g
 ·rw[g];simp
 rcases ac1 3 (ae m).length with h'|h'
 ·have:=ij (show 3<=(ae m).length-1 by omega);omega
 exact h'
def eX(n:Int)(h: -9223372036854775808<n/\n<=9223372036854775807):aL Tryz.prog 126 [.i n] (jZ n):=by
 refine bE Tryz.func126 rfl<|r0 rfl<|kh (λ(x:Int)(w:List Int)=>[(0,.i x),(2,.box true<|.agg [.b false,.nil]),(3,.ints .i64 true w),(4,.u<|decide (n<0))])
  (λx w=>gU w/\w++ae x.natAbs=ae n.natAbs/\(n<0->x<=0)/\(0<=n->0<=x)/\x.natAbs<=n.natAbs) (λx _=>x.natAbs) n [] ⟨by simp[gU],by simp,λh=>by omega,λh=>h,abZ _⟩ ⟨ab,ab,ab,ab,ao⟩ ?_
 rintro x w⟨wd,wv,hx1,So,hx3⟩;have hwl:w.length<=3:=by have:=ji (m:=n.natAbs) (by omega);rw[<-wv]at this;simp at this;omega
 refine r0 rfl<|bH rfl (λh1=>?_) (λh1=>?_)
 ·have ht:x.tdiv 1000000000=(if x<0 then -((x.natAbs/1000000000:Nat):Int)else((x.natAbs/1000000000:Nat):Int)):=by
   split
   ·rename_i rU;have:x= -(x.natAbs:Int):=by omega
    rw[this,Int.neg_tdiv,ags<|by omega];simp
   have:x=(x.natAbs:Int):=by omega
   rw[this,ags<|by omega];simp
  have hm:x.tmod 1000000000=(if x<0 then -((x.natAbs%1000000000:Nat):Int)else((x.natAbs%1000000000:Nat):Int)):=by
   split
   ·rename_i rU;have:x= -(x.natAbs:Int):=by omega
    rw[this,Int.neg_tmod,aie<|by omega];simp
   have:x=(x.natAbs:Int):=by omega
   rw[this,aie<|by omega];simp
  have afr:ae x.natAbs=((x.natAbs%1000000000:Nat):Int)::ae (x.natAbs/1000000000):=by
   conv=>lhs;rw[ae]
   rw[dif_neg<|by omega];rfl
  have hq:x.natAbs/1000000000<x.natAbs:=afK (by omega) (by decide);have hr:x.natAbs%1000000000<1000000000:=adg _ (by decide);have aex:IntKind.i64.wrap (x.tdiv 1000000000)=x.tdiv 1000000000:=po ⟨by rw[ht];split<;>omega,by rw[ht];split<;>omega⟩;refine kw [11,21] rfl rfl (by simp only[ag,and_true];omega) ?_;refine bH rfl (λh2=>?_) (λh2=>?_)
  ·have rU:x<0:=by
    rcases afs x 0 with h'|h'
    ·exact h'
    rw[hm,if_neg<|by omega]at h2;omega
   rw[hm,if_pos rU]at h2;refine kw [21] rfl rfl (by simp[ag,and_true,len,hm,if_pos rU,acU,acY];omega) ?_;refine again (x.tdiv 1000000000,w++[((x.natAbs%1000000000:Nat):Int)]) ?_ ⟨iY wd<|by omega,?_,?_,?_,?_⟩
    ⟨⟨rfl,an.of_eq<|congrArg SV.i aex⟩,ab,⟨rfl,an.of_eq<|congrArg (SV.ints .i64 true)<|by rw[hm,if_pos rU];congr 2;omega⟩,ab,ao⟩
   all_goals dsimp only;rw[ht,if_pos rU]
   ·omega
   ·rw[acV,ahE,agE,<-wv,afr];rfl
   ·intro;omega
   ·intro;omega
   omega
  have ua:x.tmod 1000000000=((x.natAbs%1000000000:Nat):Int):=by
   rw[hm];split
   ·rename_i rU;rw[hm,if_pos rU]at h2;omega
   rfl
  refine kw [21] rfl rfl (by simp[ag,and_true,len,ua,acU,acY];omega) ?_;refine again (x.tdiv 1000000000,w++[((x.natAbs%1000000000:Nat):Int)]) ?_ ⟨iY wd<|by omega,?_,?_,?_,?_⟩
   ⟨⟨rfl,an.of_eq<|congrArg SV.i aex⟩,ab,⟨rfl,an.of_eq<|congrArg (SV.ints .i64 true)<|by rw[ua]⟩,ab,ao⟩
  all_goals dsimp only;rw[ht]
  ·split<;>omega
  ·have:(if x<0 then -((x.natAbs/1000000000:Nat):Int)else((x.natAbs/1000000000:Nat):Int)).natAbs=x.natAbs/1000000000:=by split<;>omega
   rw[acV,this,<-wv,afr];rfl
  ·intro;split<;>omega
  ·intro;split<;>omega
  split<;>omega
 have:x=0:=by omega
 subst this;have hw:w=ae n.natAbs:=by rw[<-wv];simp[cD]
 refine r0 rfl<|bF rfl (by rw[hw];exact fc _ _<|by rw[<-hw];omega) rfl ?_;refine r0 rfl<|aG rfl<|an.of_eq<|congrArg jZ ?_;unfold Bs;by_cases hn:n<0<;>simp[hn]<;>omega
def Sv(d:Nat):UInt8:=UInt8.ofNat<|48+d
def decl(n k:Nat):bK:=if h:n=0/\k=0 then[]else decl (n/10) (k-1)++[Sv<|n%10]
 termination_by n+k
 decreasing_by
  rcases adp n with h0|h0
  ·subst h0;omega
  have:=afK h0 (show 1<10 by decide);omega
def cE:decl 0 0=[]:=by rw[decl];simp
def bp{n k:Nat}(h:¬(n=0/\k=0)):decl n k=decl (n/10) (k-1)++[Sv<|n%10]:=by rw[decl];simp[h]
def vG{q:Nat}(hq:0<q):∀(j r k:Nat),r<10^j->decl (q*10^j+r) k=decl q (k-j)++decl r j
 |0,r,k,h=>by
  have:r=0:=by simpa using h
  subst this;simp[cE]
 |j+1,r,k,h=>by
  have h1:¬(q*10^(j+1)+r=0/\k=0):=by
   have:0<q*10^(j+1):=ahD hq<|afS<|by simp
   omega
  rw[bp h1,bp (n:=r) (k:=j+1)<|by omega];have e1:(q*10^(j+1)+r)/10=q*10^j+r/10:=by rw[ady,<-adz];omega
  have e2:(q*10^(j+1)+r)%10=r%10:=by rw[ady,<-adz];omega
  rw[e1,e2,vG hq j (r/10) (k-1)<|by rw[ady]at h;omega,acV]
  congr 2
  omega
def dA:∀(n k j:Nat),n<10^j->k<=j->(decl n k).length<=j:=by
 intro n k j
 induction j generalizing n k with
 |zero=>intro h1 h2;have:n=0/\k=0:=by omega
        rw[this.1,this.2,cE];simp
 |succ j ih=>
  intro h1 h2;by_cases h:n=0/\k=0
  ·rw[h.1,h.2,cE];simp
  rw[bp h];have:=ih (n/10) (k-1) (by rw[ady]at h1;omega) (by omega);simp;omega
def ct(s:bK):Nat:=s.foldl (λn c=>10*n+(c.toNat-48)) 0
def db(s:bK):Prop:=∀c∈s,48<=c.toNat/\c.toNat<=57
def aaj(s:bK)(c:UInt8):ct (s++[c])=10*ct s+(c.toNat-48):=by simp[ct]
def qJ:∀(t:bK)(a:Nat),t.foldl (λn c=>10*n+(c.toNat-48)) a=a*10^t.length+ct t
 |[],a=>by simp[ct]
 |c::t,a=>by have h1:=qJ t<|10*a+(c.toNat-48);have h2:=qJ t<|10*0+(c.toNat-48);simp[ct]at h1 h2⊢;rw[h2];grind
def sJ(s t:bK):ct (s++t)=ct s*10^t.length+ct t:=by
 conv=>lhs;rw[ct,afW]
 exact qJ t<|ct s
def Q8(c:UInt8)(t:bK):ct (c::t)=(c.toNat-48)*10^t.length+ct t:=by
 have:=qJ t<|c.toNat-48
 conv=>lhs;rw[ct]
 simpa using this
def lT:∀{s:bK},db s->ct s<10^s.length
 |[],_=>by simp[ct]
 |c::t,h=>by have h1:=lT (s:=t) λx hx=>h x (by simp[hx]);have h2:=h c (by simp);rw[Q8,acU];have h3:(c.toNat-48)*10^t.length<=9*10^t.length:=adb _ (by omega);omega
def zk{d:Nat}(h:d<10):(Sv d).toNat=48+d:=by unfold Sv;rw[UInt8.toNat_ofNat'];omega
def cw:∀n k,db (decl n k):=by
 intro n k
 induction hm:n+k using Nat.strongRecOn generalizing n k with
 |_ m ih=>
  by_cases h:n=0/\k=0
  ·rw[h.1,h.2,cE];intro c hc;cases hc
  rw[bp h];have cS:n/10+(k-1)<m:=by
   rcases adp n with h0|h0
   ·subst h0;omega
   have:=afK h0 (show 1<10 by decide);omega
  intro c hc;rcases ac5.1 hc with hc|hc
  ·exact ih _ cS (n/10) (k-1) rfl c hc
  simp at hc;subst hc;rw[zk<|adg _<|by decide];omega
def ke:∀n k,ct (decl n k)=n:=by
 intro n k
 induction hm:n+k using Nat.strongRecOn generalizing n k with
 |_ m ih=>
  by_cases h:n=0/\k=0
  ·rw[h.1,h.2,cE];rfl
  rw[bp h];have cS:n/10+(k-1)<m:=by
   rcases adp n with h0|h0
   ·subst h0;omega
   have:=afK h0 (show 1<10 by decide);omega
  rw[aaj,ih _ cS (n/10) (k-1) rfl,zk<|adg _<|by decide];omega
def ck(z:Int):bK:=if z<0 then 45::decl z.natAbs 1 else decl z.natAbs 1
def ar:bK->Nat
 |[]=>0
 |c::t=>if c=47 then 0 else ar t+1
def nm:∀s:bK,ar s<=s.length
 |[]=>by simp[ar]
 |c::t=>by have:=nm t;simp[ar];split<;>simp;omega
def um:∀{s:bK}{i:Nat},i<ar s->s.getD i 0≠47
 |[],i,h=>by simp[ar]at h
 |c::t,i,h=>by
  simp[ar]at h;split at h
  ·omega
  rename_i hc;cases i with
  |zero=>simpa using hc
  |succ i=>simpa using um (s:=t) (i:=i) (by omega)
def yp:∀{s:bK},ar s<s.length->s.getD (ar s) 0=47
 |[],h=>by cases h
 |c::t,h=>by
  simp[ar]at h⊢;split at h
  ·rename_i hc;rw[if_pos hc];simpa using hc
  rename_i hc;rw[if_neg hc];have:=yp (s:=t) (by simpa using h);simpa using this
def YO(n:Nat){k:Nat}(h:0<k):decl n k≠[]:=by rw[bp<|by omega];simp
def Vw:∀d:Nat,d<10->((([48,49,50,51,52,53,54,55,56,57]:bK).take<|d+1).drop d)=[Sv d]:=by decide
def lY(n k:Nat)(hn:n<9223372036854775808)(hk:k<1000):aL Tryz.prog 178 [.i n,.i k] (.s<|decl n k):=by
 have hlen:(decl n k).length<=max k 19:=dA n k _ (adv (show n<10^19 by omega)<|adD (by decide)<|Nat.le_max_right _ _)<|Nat.le_max_left _ _;refine bE Tryz.func178 rfl<|r0 rfl<|kh (λ(a:Nat)(s:bK)=>[(0,.i a),(1,.i k),(5,.s s)]) (λa s=>a<=n/\decl n k=decl a (k-s.length)++s) (λa s=>a+(k-s.length)) n [] ⟨abZ _,by simp⟩ ⟨ab,ab,ab,ao⟩ ?_;rintro a s⟨ha,hs⟩;have wX:s.length<1001:=by rw[hs]at hlen;simp at hlen;omega
 refine IC (acx [(0,.i a),(1,.i k),(5,.s s)] (0<a\/s.length<k) ?_ λhc=>?_)
 ·refine r0 rfl<|aC 8 rfl (λh=>?_) (λh=>?_)
  ·refine r0 rfl<|aP (by omega) ⟨ab,ab,ab,ao⟩
  refine r0 rfl<|bH rfl (λh2=>?_) (λh2=>?_)
  ·refine r0 rfl<|aP (by omega) ⟨ab,ab,ab,ao⟩
  refine r0 rfl<|aG rfl<|an.of_eq<|congrArg SV.s ?_;have h1:a=0:=by omega
  have h3:k-s.length=0:=by omega
  rw[hs,h1,h3,cE];rfl
 have hd:a%10<10:=adg _ (by decide);have e1:(((a:Int)%10).toNat)=a%10:=by omega
 have e2:(((a:Int)%10+1).toNat)=a%10+1:=by omega
 have hds:=Vw (a%10) hd;refine r1 rfl ?_ ?_
 ·simp only[ag,and_true,e1,e2,hds];simp[acU,acY];omega
 simp only[e1,e2,hds];have hq:a/10<a\/a=0:=by omega
 refine again (a/10,Sv (a%10)::s) ?_ ⟨by dsimp only;omega,?_⟩ ⟨ab,ab,ab,ao⟩
 ·dsimp only[List.length_cons];omega
 dsimp only;rw[hs,bp (n:=a)<|by omega,acV]
 congr 1
def oD(s:bK)(hs:db s)(hl:s.length<=18):aL Tryz.prog 176 [.s s] (.i<|ct s):=by
 refine bE Tryz.func176 rfl<|r0 rfl<|loop (λi:Nat=>[(0,.s s),(3,.i<|ct<|s.take i),(4,.i i)]) (λi=>i<=s.length) (λi=>s.length-i) 0 (by omega) ⟨ab,ab,ab,ao⟩ ?_;intro i hi;refine r0 rfl<|bH rfl (λh=>?_) (λh=>?_)
 ·have aZ:i<s.length:=by omega
  have ei:(i:Int).toNat=i:=by omega
  have hc:s.getD i 0=s[i]:=by simp[acL aZ]
  have hd:=hs s[i]<|ab9 aZ;have hv:=lT (s:=s.take i) λc hc=>hs c<|af5 hc;have hp:10^(s.take i).length<=10^17:=adD (by decide) (by simp;omega);refine r1 rfl (by simp only[ag,and_true,ei,hc];omega) ?_;refine again (i+1) (by omega) (by omega) ⟨ab,⟨rfl,bC ?_⟩,ab,ao⟩;rw[ei,hc,ac6 aZ,aaj];omega
 have:i=s.length:=by omega
 subst this;refine r0 rfl<|aG rfl<|bC ?_;rw[acR<|abZ _]
def j9(s:bK)(hl:s.length<2^60):aL Tryz.prog 62 [.s s] (.i<|ar s):=by
 have wX:=nm s;refine bE Tryz.func62 rfl<|r0 rfl<|loop (λi:Nat=>[(0,.s s),(3,.i i)]) (λi=>i<=ar s) (λi=>s.length-i) 0 (by omega) ⟨ab,ab,ao⟩ ?_;intro i hi;refine r0 rfl<|bH rfl (λh=>?_) (λh=>?_)
 ·have ei:(i:Int).toNat=i:=by omega
  refine r1 rfl (by simp[ag,ei];omega) ?_;refine bH rfl (λh2=>?_) (λh2=>?_)
  ·rw[ei]at h2;refine r0 rfl<|aG rfl<|bC ?_;rcases ac1 i (ar s)with h3|h3
   ·have:=um h3;exact absurd (ahH.1<|show(s.getD i 0).toNat=(47:UInt8).toNat by simpa using ahL h2) this
   have:i=ar s:=by omega
   rw[this]
  rw[ei]at h2;have:i<ar s:=by
   rcases ac1 i (ar s)with h3|h3
   ·exact h3
   have h4:i=ar s:=by omega
   have:=yp (s:=s) (by omega);rw[<-h4]at this;rw[this]at h2;simp_all
  refine r1 rfl (by simp[ag];omega) ?_;exact again (i+1) (by omega) (by omega) ⟨ab,ab,ao⟩
 refine r0 rfl<|aG rfl<|bC ?_;omega
def RQ(a b:Nat):aL Tryz.prog 177 [.i a,.i b] (.i<|Nat.gcd a b):=by
 refine bE Tryz.func177 rfl<|r0 rfl<|kh (λ(x y:Nat)=>[(0,.i x),(1,.i y)]) (λx y=>Nat.gcd x y=Nat.gcd a b) (λ_ y=>y) a b rfl ⟨ab,ab,ao⟩ ?_;rintro x y hg;refine r0 rfl<|bH rfl (λh=>?_) (λh=>?_)
 ·refine k1 rfl (by kernel_rfl) (by simp[ag];omega) ?_;refine again (y,x%y) (adg _<|by omega) ?_ ⟨ab,ab,ao⟩;rw[<-hg,ahf x y,Nat.gcd_rec y x,ahf]
 have:y=0:=by omega
 subst this;refine r0 rfl<|aG rfl<|bC ?_;rw[<-hg,Nat.gcd_zero_right]
def xp{q:Nat}(h:0<q):decl q 0=decl q 1:=by rw[bp<|by omega,bp (n:=q) (k:=1)<|by omega]
def Lb{n j:Nat}(h:j<(ae n).length):0<val ((ae n).drop j):=by
 have h1:((ae n).drop j).getLast?≠some 0:=by rw[List.getLast?_drop,if_neg<|by omega];exact pW n
 rcases qU (oh (bk n) j) h1 with g|g
 ·have:=congrArg List.length g;simp at this;omega
 have:=cG<|((ae n).drop j).length-1;omega
def wo(k:Nat):(1000000000:Int)^k=((10^(9*k):Nat):Int):=by rw[aio];simp
def Dp(n j:Nat)(hj:j<(ae n).length):(decl (val<|(ae n).drop j).toNat 1).length<=9*(ae n).length:=by have h1:=ia<|oh (bk n) j;have h0:=aY<|oh (bk n) j;rw[wo]at h1;have h2:10^(9*((ae n).drop j).length)<=10^(9*(ae n).length):=adD (by decide) (by simp;omega);exact dA _ _ _ (by omega) (by omega)
def uP(z:Int)(h:(ae z.natAbs).length<2^44):aL Tryz.prog 180 [jZ z] (.s<|ck z):=by
 refine bE Tryz.func180 rfl<|r0 rfl<|bH rfl (λh1=>?_) (λh1=>?_)
 ·refine r0 rfl<|aG rfl<|an.of_eq<|congrArg SV.s ?_;have:z=0:=by
   have:=ni z.natAbs;omega
  subst this;simp[ck,bp,cE];rfl
 have hL:0<(ae z.natAbs).length:=by omega
 have hd:=a7 (bk z.natAbs)<|(ae z.natAbs).length-1;have hv:val ((ae z.natAbs).drop<|(ae z.natAbs).length-1)=(ae z.natAbs).getD ((ae z.natAbs).length-1) 0:=by rw[gg<|by omega,adt<|by omega];simp[val]
 have hp:=Lb (n:=z.natAbs) (j:=(ae z.natAbs).length-1) (by omega);have ei:(((ae z.natAbs).length:Int)-1).toNat=(ae z.natAbs).length-1:=by omega
 refine r1 rfl (by simp[ag,and_true];omega) ?_;obtain⟨m,hm⟩:∃m:Nat,(ae z.natAbs).getD ((ae z.natAbs).length-1) 0=m:=⟨_,(ah3 hd.1).symm⟩;have jC:(ae z.natAbs).getD (((ae z.natAbs).length:Int)-1).toNat 0=m:=by rw[ei];exact hm
 have es:(SV.i<|(ae z.natAbs).getD (((ae z.natAbs).length:Int)-1).toNat 0)=SV.i (m:Int):=by rw[jC]
 refine cl rfl (by rw[jC];rfl) (lY m 1 (by omega)<|by omega) rfl ?_;refine r1 rfl (by simp[ag,and_true];omega) ?_;refine loop (λj:Nat=>[(1,.box true<|jZ z),(2,.s []),(3,.s<|decl (val<|(ae z.natAbs).drop j).toNat 1),(4,.i<|(j:Int)-1)]) (λj=>j<(ae z.natAbs).length) (λj=>j) ((ae z.natAbs).length-1) (by omega) ⟨ab,ab,⟨rfl,an.of_eq<|congrArg SV.s<|by rw[hv,hm];rfl⟩,⟨rfl,an.of_eq<|congrArg SV.i<|by omega⟩,ao⟩ ?_;intro j hj;refine r0 rfl<|bH rfl (λh2=>?_) (λh2=>?_)
 ·have ej:((j:Int)-1).toNat=j-1:=by omega
  have hd:=a7 (bk z.natAbs)<|j-1;obtain⟨m,hm⟩:∃m:Nat,(ae z.natAbs).getD (j-1) 0=m:=⟨_,(ah3 hd.1).symm⟩;have jC:(ae z.natAbs).getD ((j:Int)-1).toNat 0=m:=by rw[ej];exact hm
  have hl:=Dp z.natAbs j hj;have II:=Dp z.natAbs (j-1) (by omega);have hp:=Lb hj;have qm:decl (val<|(ae z.natAbs).drop<|j-1).toNat 1=decl (val<|(ae z.natAbs).drop j).toNat 1++decl m 9:=by
   rw[gg<|by omega,show j-1+1=j by omega,hm];have e:((m:Int)+1000000000*val ((ae z.natAbs).drop j)).toNat=(val<|(ae z.natAbs).drop j).toNat*10^9+m:=by omega
   rw[e,vG (by omega) 9 m 1 (by omega),show 1-9=0 from rfl,xp<|by omega]
  refine r1 rfl (by simp[ag,and_true];omega) ?_;refine cl rfl (by rw[jC];rfl) (lY m 9 (by omega)<|by omega) rfl ?_;refine r1 rfl (by simp[ag,and_true,len];rw[qm]at II;simp[acW]at II;omega) ?_;exact again (j-1) (by omega) (by omega) ⟨ab,ab,⟨rfl,an.of_eq<|congrArg SV.s qm.symm⟩,⟨rfl,an.of_eq<|congrArg SV.i<|by omega⟩,ao⟩
 have:j=0:=by omega
 subst this;have e:(val<|(ae z.natAbs).drop 0).toNat=z.natAbs:=by rw[aeP,bc];omega
 have hl:=Dp z.natAbs 0 hj;refine r0 rfl<|nB rfl rfl rfl (λh3=>?_) (λh3=>?_)
 ·refine r1 rfl (by simp only[ag,and_true,len,acU,acY];omega) ?_;refine aG rfl<|an.of_eq<|congrArg SV.s ?_;rw[e];unfold ck;rw[if_pos<|by simpa using h3];rfl
 refine r0 rfl<|aG rfl<|an.of_eq<|congrArg SV.s ?_;rw[e];unfold ck;rw[if_neg<|by simpa using h3]
def isNeg(s:bK):Bool:=decide (0<s.length/\(s.getD 0 0).toNat=45)
def bm(s:bK):bK:=if isNeg s then s.drop 1 else s
def CM(s:bK):Int:=Bs (isNeg s)<|ct<|bm s
def xJ(s:bK):(bm s).length<=s.length:=by unfold bm;split<;>simp
def Al(s:bK)(hs:db (bm s))(hl:s.length<2^46):aL Tryz.prog 125 [.s s] (jZ<|CM s):=by
 have KG:=xJ s;refine bE Tryz.func125 rfl<|b8 3 [(0,.s<|bm s),(2,.box true<|.agg [.b false,.nil]),(3,.u<|isNeg s)] True ?_ λ_=>?_
 ·refine r0 rfl<|aC 8 rfl (λh=>?_) (λh=>?_)
  ·refine r1 rfl (by simp[ag,and_true];omega) ?_;refine bH rfl (λh2=>?_) (λh2=>?_)
   ·have hn:isNeg s=true:=by unfold isNeg;exact decide_eq_true ⟨by omega,by simpa using ahL h2⟩
    refine r1 rfl (by simp[ag,and_true];omega) ?_;refine aP ao ⟨⟨rfl,an.of_eq<|congrArg SV.s<|by simp[bm,hn]⟩,ab,⟨rfl,an.of_eq<|congrArg SV.u<|(decide_eq_true h2).trans hn.symm⟩,ao⟩
   have hn:isNeg s=false:=by unfold isNeg;exact decide_eq_false λhh=>h2 (by rw[show(s.getD (0:Int).toNat 0).toNat=45 from hh.2];rfl)
   refine r0 rfl<|aP ao ⟨⟨rfl,an.of_eq<|congrArg SV.s<|by simp[bm,hn]⟩,ab,⟨rfl,an.of_eq<|congrArg SV.u<|(decide_eq_false h2).trans hn.symm⟩,ao⟩
  have hn:isNeg s=false:=by unfold isNeg;exact decide_eq_false λhh=>by omega
  refine r0 rfl<|aP ao ⟨⟨rfl,an.of_eq<|congrArg SV.s<|by unfold bm;rw[hn];rfl⟩,ab,⟨rfl,hn.symm⟩,ao⟩
 refine r0 rfl<|kh (λ(t:bK)(w:List Int)=>[(0,.s t),(2,.box true<|.agg [.b false,.nil]),(3,.u<|isNeg s),(4,.ints .i64 true w)])
  (λt w=>db t/\gU w/\val w+1000000000^w.length*ct t=ct (bm s)/\t.length+9*w.length<2^46) (λt _=>t.length) (bm s) [] ⟨hs,by simp[gU],by simp[val],by simp;omega⟩ ⟨ab,ab,ab,ab,ao⟩ ?_
 rintro t w⟨ht,hw,hv,hlen⟩;refine r0 rfl<|bH rfl (λh2=>?_) (λh2=>?_)
 ·have et:((t.length:Int)-9).toNat=t.length-9:=by omega
  refine r1 rfl (by simp[ag,and_true];omega) ?_;have RJ:db (t.drop<|t.length-9):=λc hc=>ht c<|afT hc;have cS:=lT RJ;have hll:(t.drop<|t.length-9).length=9:=by simp;omega
  rw[hll]at cS;have aji:ct t=ct (t.take<|t.length-9)*10^9+ct (t.drop<|t.length-9):=by
   conv=>lhs;rw[<-ahg (t.length-9) t,sJ]
   rw[hll]
  refine cl rfl (by rw[et,adF];rfl) (oD _ RJ<|by omega) rfl ?_;refine r1 rfl (by simp[ag,and_true,len,acU,acY];omega) ?_;refine again (t.take<|t.length-9,w++[(ct (t.drop<|t.length-9):Int)]) ?_ ⟨λc hc=>ht c<|af5 hc,iY hw<|by omega,?_,?_⟩ ⟨⟨rfl,an.of_eq<|congrArg SV.s<|by rw[et];rfl⟩,ab,ab,ab,ao⟩
  ·dsimp only;simp;omega
  ·have ZS:(ct t:Int)=(ct (t.take<|t.length-9):Int)*1000000000+(ct (t.drop<|t.length-9):Int):=by omega
   dsimp only;rw[<-hv,eM,ZS,acW,ajf,adf];clear hs hl hv hlen cS aji ZS RJ ht KG
   grind
  dsimp only;rw[ac2,acW,ajf];omega
 have cS:=lT ht;have:10^t.length<=10^9:=adD (by decide) (by omega);refine r0 rfl<|bF rfl (oD t ht<|by omega) rfl<|r1 rfl (by simp[ag,and_true,len,acU,acY];omega) ?_;refine bF rfl (vY (isNeg s) (w++[(ct t:Int)]) (iY hw<|by omega)<|by simp;omega) rfl ?_;refine r0 rfl<|aG rfl<|an.of_eq<|congrArg jZ ?_;unfold CM;rw[<-hv,eM,adj]
def wT(z:Int){k:Nat}(h:(ae z.natAbs).length<=k):(ck z).length<=9*k+2:=by have h1:=bQ z.natAbs;rw[wo]at h1;have h2:10^(9*(ae z.natAbs).length)<=10^(9*k):=adD (by decide) (by omega);have:=dA z.natAbs 1 (9*k+1) (by omega) (by omega);unfold ck;split<;>simp<;>omega
def n5(z:Int):isNeg (ck z)=decide (z<0):=by
 unfold ck isNeg;split
 ·rename_i h;simp[h]
 rename_i h;have hd:=cw z.natAbs 1;simp only[h,decide_false,decide_eq_false_iff_not];rintro⟨h1,h2⟩;have hm:(decl z.natAbs 1).getD 0 0∈decl z.natAbs 1:=by rw[aca,acL h1];simp
 have:=hd _ hm;omega
def jL(z:Int):bm (ck z)=decl z.natAbs 1:=by unfold bm;rw[n5];by_cases h:z<0<;>simp[h,ck]
def yI(z:Int):CM (ck z)=z:=by unfold CM;rw[n5,jL,ke];unfold Bs;by_cases h:z<0<;>simp<;>omega
def qI(z:Int)(h:(ae z.natAbs).length<2^42):aL Tryz.prog 125 [.s<|ck z] (jZ z):=by
 have:=Al (ck z) (by rw[jL];exact cw _ _)<|agF (wT z<|af6 h)<|by decide
 rwa[yI]at this
section
variable{d k:Nat}{q:Rat}{s t:bK}
def fb(d:Nat):bK:=if d=1 then[]else 47::decl d 1
def uY(n:Int)(d:Nat):bK:=ck n++fb d
def qt(q:Rat):bK:=uY q.num q.den
def oV:∀{s:bK}(t:bK),(∀c∈s,c≠47)->ar (s++t)=s.length+ar t
 |[],t,_=>by simp
 |c::s,t,h=>by have:=oV (s:=s) t λx hx=>h x (by simp[hx]);simp[ar,if_neg<|h c<|by simp];omega
def zA(h:db s):∀c∈s,c≠47:=by rintro c hc rfl;have:=(h _ hc).1;simp_all
def XR(z:Int):∀c∈ck z,c≠47:=by
 intro c hc;unfold ck at hc;split at hc
 ·rcases aci.1 hc with rfl|hc
  ·decide
  exact zA (cw _ _) c hc
 exact zA (cw _ _) c hc
def vX(d:Nat):ar (fb d)=0:=by unfold fb;split<;>simp[ar]
def lz(n:Int)(d:Nat):ar (uY n d)=(ck n).length:=by unfold uY;rw[oV _<|XR n,vX];omega
def Kf(z:Int):0<(ck z).length:=by
 have:=ag4.2<|YO z.natAbs (k:=1)<|by decide
 unfold ck;split<;>simp<;>omega
def w8(h:0<s.length):(s++t).getD 0 0=s.getD 0 0:=by simp[adH h]
def HG(h:0<s.length):isNeg (s++t)=isNeg s:=by unfold isNeg;rw[w8 h];simp[h];omega
def yK(n:Int)(d:Nat):isNeg (uY n d)=decide (n<0):=by unfold uY;rw[HG<|Kf n,n5]
def Qb(n:Int)(d:Nat):bm (uY n d)=decl n.natAbs 1++fb d:=by unfold bm;rw[yK];by_cases h:n<0<;>simp[h,uY,ck]
def ss(n:Int)(d:Nat):(uY n d).take (ck n).length=ck n:=by unfold uY;simp
def s9(n:Int)(d:Nat)(h:d≠1):(uY n d).drop ((ck n).length+1)=decl d 1:=by unfold uY fb;rw[if_neg h];simp
def jW(n:Int)(d:Nat):(uY n d).length=(ck n).length+(fb d).length:=by unfold uY;simp
def fk:(fb d).length=0↔d=1:=by unfold fb;split<;>simp[*]
def Ug{a b:Int}(h:ck a=ck b):a=b:=by rw[<-yI a,h,yI]
def Xg{n m:Int}{e:Nat}(h:uY n d=uY m e):n=m/\d=e:=by
 have h1:=lz n d;rw[h,lz]at h1;have h2:=ss n d;rw[h,<-h1,ss]at h2;refine⟨(Ug h2).symm,?_⟩;have h3:=congrArg List.length h;rw[jW,jW]at h3;by_cases hd:d=1
 ·have:=fk.2 hd;have:=fk.1 (show(fb e).length=0 by omega);omega
 have he:e≠1:=by intro he;have:=fk.2 he;exact hd<|fk.1<|by omega
 have h4:=s9 n d hd;rw[h,<-h1,s9 m e he]at h4;have:=congrArg ct h4;rw[ke,ke]at this;simp_all
def ME{p:Rat}:qt p=qt q↔p=q:=by
 constructor
 ·intro h;have:=Xg h;exact Rat.ext this.1 this.2
 rintro rfl;rfl
def p7(n:Nat)(h:(ae n).length<=k):(decl n 1).length<=9*k+1:=by have h1:=bQ n;rw[wo]at h1;have h2:10^(9*(ae n).length)<=10^(9*k):=adD (by decide) (by omega);exact dA n 1 (9*k+1) (by omega) (by omega)
def Qx(d:Nat)(h:(ae d).length<=k):(fb d).length<=9*k+2:=by have:=p7 d h;unfold fb;split<;>simp<;>omega
def EX(q:Rat):Prop:=(ae q.num.natAbs).length<2^40/\(ae q.den).length<2^40
def Cc(h:EX q):(qt q).length<2^45:=by have h1:=wT q.num<|af6 h.1;have h2:=Qx q.den<|af6 h.2;unfold qt;rw[jW];omega
def iz:ae 1=[1]:=mu (f:=1) (by decide) (by decide)
def dF(q:Rat)(h:EX q):aL Tryz.prog 64 [.s<|qt q] (.bX [jZ q.num,jZ q.den]):=by
 have hl:=Cc h;have h1:=h.1;have h2:=h.2;have es:ar (qt q)=(ck q.num).length:=lz _ _;have agb:(qt q).length=(ck q.num).length+(fb q.den).length:=jW _ _;refine bE Tryz.func64 rfl<|r0 rfl<|bF rfl (j9 (qt q)<|by omega) rfl<|r0 rfl<|bH rfl (λh3=>?_) (λh3=>?_)
 ·have hd:q.den=1:=fk.1 (by omega);have et:qt q=ck q.num:=by unfold qt uY;rw[hd];simp[fb]
  refine r0 rfl<|cl rfl (by rw[et];rfl) (qI q.num<|by omega) rfl ?_;refine bF rfl (eX 1 (by decide)) rfl<|r0 rfl<|aG rfl<|an.of_eq<|congrArg SV.bX ?_;rw[hd];rfl
 have hd:q.den≠1:=λhd=>by have:=fk.2 hd;omega
 have CZ:=q.den_nz;have e1:((ar (qt q):Nat):Int).toNat=(ck q.num).length:=by omega
 have e2:(((ar (qt q):Nat):Int)+1).toNat=(ck q.num).length+1:=by omega
 have hp:0<(fb q.den).length:=by
  rcases adp (fb q.den).length with g|g
  ·exact absurd (fk.1 g) hd
  exact g
 have e3:(qt q).take (ck q.num).length=ck q.num:=ss _ _;have e4:(qt q).drop ((ck q.num).length+1)=decl q.den 1:=s9 _ _ hd;refine r1 rfl (by simp[ag,and_true];omega) ?_;refine cd rfl (by rw[e1,e3];rfl) (qI q.num<|by omega) rfl ?_;refine r1 rfl (by simp[ag,and_true];omega) ?_;have e5:ck (q.den:Int)=decl q.den 1:=by unfold ck;rw[if_neg<|by omega];rfl
 have aeM:=qI (q.den:Int) (by show(ae q.den).length<_;omega);rw[e5]at aeM;refine cd rfl (by rw[e2,adF,e4];rfl) aeM rfl ?_;refine k0 rfl (by kernel_rfl)<|bB rfl
end
def C3{n d:Int}(hd:0<d):(Rat.divInt n d).num=Bs (decide (n<0)) ((n.natAbs/Nat.gcd n.natAbs d.natAbs:Nat):Int):=by
 rw[Rat.num_divInt,agS hd];have e:d.gcd n=Nat.gcd n.natAbs d.natAbs:=by rw[ahN,ahf]
 rw[e];unfold Bs;by_cases h:n<0
 ·simp[h];have e2:n= -(n.natAbs:Int):=by omega
  have hg:(Nat.gcd n.natAbs d.natAbs:Int)∣(n.natAbs:Int):=Int.ofNat_dvd.2<|Nat.gcd_dvd_left _ _
  conv=>lhs;rw[e2]
  rw[Int.neg_ediv_of_dvd<|by simpa using hg];simp
 simp[h];have e2:n=(n.natAbs:Int):=by omega
 conv=>lhs;rw[e2]
 simp
def C4{n d:Int}(hd:0<d):(Rat.divInt n d).den=d.natAbs/Nat.gcd n.natAbs d.natAbs:=by rw[Rat.den_divInt,if_neg<|by omega,ahN,ahf]
def lK(a b:Nat):(ae<|a/b).length<=(ae a).length:=by
 rcases ac1 (ae a).length (ae<|a/b).length with g|g
 ·have:=b6 g;have:=agT a b;omega
 exact g
def lH(b:Bool)(n:Nat):(Bs b (n:Int)).natAbs=n:=by cases b<;>simp[Bs]
def nJ{d:Nat}(h:d≠1):fb d=47::decl d 1:=by unfold fb;rw[if_neg h]
def CN(d:Nat):ck (d:Int)=decl d 1:=by unfold ck;rw[if_neg<|by omega];rfl
def AM{q:Nat}:((ae q).length=1/\(ae q).getD 0 0=1)↔q=1:=by
 constructor
 ·rintro⟨h1,h2⟩;have h3:=bc q;have h4:ae q=[(ae q).getD 0 0]:=by
   match hq:ae q with
   |[]=>rw[hq]at h1;cases h1
   |[x]=>rfl
   |x::y::l=>rw[hq]at h1;cases h1
  rw[h4,h2]at h3;simp[val]at h3;omega
 rintro rfl;rw[iz];simp
def fB(n d:Int)(hd:d≠0)(h1:(ae n.natAbs).length<2^34)(h2:(ae d.natAbs).length<2^34):aL Tryz.prog 100 [jZ n,jZ d] (.s<|qt<|Rat.divInt n d):=by
 refine bE Tryz.func100 rfl<|xr 2 (λ(n' d':Int)=>[(2,.box true<|jZ n'),(3,.box true<|jZ d')]) (λn' d'=>0<d'/\Rat.divInt n' d'=Rat.divInt n d/\n'.natAbs=n.natAbs/\d'.natAbs=d.natAbs) ?_ ?_
 ·refine r0 rfl<|nB rfl rfl rfl (λh=>?_) (λh=>?_)
  ·have h:d<0:=of_decide_eq_true h;refine r0 rfl<|bG rfl (Ao n<|by unfold IM;omega) rfl ?_;refine r0 rfl<|bG rfl (Ao d<|by unfold IM;omega) rfl ?_;refine k0 rfl (by kernel_rfl)<|meet (-n,-d) ⟨?_,Rat.neg_divInt_neg _ _,?_,?_⟩ ⟨ab,ab,ao⟩<;>dsimp only<;>omega
  have h:¬d<0:=of_decide_eq_false h;refine r0 rfl<|meet (n,d) ⟨?_,rfl,rfl,rfl⟩ ⟨ab,ab,ao⟩;dsimp only;omega
 rintro n' d'⟨Pu,hq,Nn,UY⟩;rw[<-hq];rw[<-Nn]at h1;rw[<-UY]at h2;have vm:=C3 (n:=n') Pu;have Bf:=C4 (n:=n') Pu;have CZ:d'.natAbs≠0:=by omega
 have UN:Nat.gcd n'.natAbs d'.natAbs≠0:=λh=>CZ<|Nat.eq_zero_of_gcd_eq_zero_right h;have Yh:(ae<|Nat.gcd n'.natAbs d'.natAbs).length<=(ae d'.natAbs).length:=by
  rcases ac1 (ae d'.natAbs).length (ae<|Nat.gcd n'.natAbs d'.natAbs).length with g|g
  ·have:=b6 g;have:=Nat.le_of_dvd (by omega)<|Nat.gcd_dvd_right n'.natAbs d'.natAbs;omega
  exact g
 have hp:=lK n'.natAbs<|Nat.gcd n'.natAbs d'.natAbs;have hqq:=lK d'.natAbs<|Nat.gcd n'.natAbs d'.natAbs;have Pm:(ae (Rat.divInt n' d').num.natAbs).length<=(ae n'.natAbs).length:=by rw[vm,lH];exact hp
 have ai7:(ae (Rat.divInt n' d').den).length<=(ae d'.natAbs).length:=by rw[Bf];exact hqq
 have Nq:=wT (Rat.divInt n' d').num Pm;have Es:=p7 (Rat.divInt n' d').den ai7;have ub:=AM (q:=(Rat.divInt n' d').den);refine b8 5 [(8,.ints .i64 false<|ae (Rat.divInt n' d').den),(10,.s<|ck (Rat.divInt n' d').num)] ((Rat.divInt n' d').den≠1) ?_ λhc=>?_
 ·refine r0 rfl<|bF rfl (xw n'.natAbs d'.natAbs (by omega)<|by omega) rfl<|r0 rfl<|bF rfl (mK n'.natAbs (Nat.gcd n'.natAbs d'.natAbs) (by omega) (by omega) UN) rfl<|r0 rfl<|bF rfl (mK d'.natAbs (Nat.gcd n'.natAbs d'.natAbs) (by omega) (by omega) UN) rfl<|r0 rfl<|bF rfl (fc (decide (n'<0)) (n'.natAbs/Nat.gcd n'.natAbs d'.natAbs)<|by omega) rfl ?_;rw[<-vm,<-Bf];refine r0 rfl<|bF rfl (uP (Rat.divInt n' d').num<|by omega) rfl<|r0 rfl ?_;have Bd:(Rat.divInt n' d').den=1->ck (Rat.divInt n' d').num=qt (Rat.divInt n' d'):=by
   intro h;unfold qt uY fb;rw[if_pos h,adw]
  refine aC 44 rfl (λh=>?_) (λh=>?_)
  ·have ez:((0:Int).toNat)=0:=rfl;refine r1 rfl (by simp[ag,and_true];omega) ?_;refine bH rfl (λh3=>?_) (λh3=>?_)
   ·refine r0 rfl<|aG rfl<|an.of_eq<|congrArg SV.s<|Bd<|ub.1 ⟨by omega,h3⟩
   refine r0 rfl<|aP (λh4=>h3 (ub.2 h4).2) ⟨ab,ab,ao⟩
  refine r0 rfl<|aP (λh4=>h (by have:=(ub.2 h4).1;omega)) ⟨ab,ab,ao⟩
 refine r1 rfl (by simp[ag,and_true,len,acU,acY];omega) ?_;refine bF rfl (fc false (Rat.divInt n' d').den<|by omega) rfl<|r0 rfl<|bF rfl (uP (Rat.divInt n' d').den<|by show(ae (Rat.divInt n' d').den).length<_;omega) rfl ?_;rw[CN];refine r1 rfl (by simp[ag,and_true,len,acW,acU,acY];omega) ?_;refine aG rfl<|an.of_eq<|congrArg SV.s ?_;unfold qt uY;rw[nJ hc,acV];rfl
def Rp:ck 0=[48]:=by simp[ck,bp,cE];rfl
def nP(z:Int):qt (z:Rat)=ck z:=by simp[qt,uY,fb]
def Bw:qt 0=[48]:=by have:=nP 0;rw[Rp]at this;simpa using this
def MC:qt 1=[49]:=by
 have:=nP 1;have e:ck 1=[49]:=by simp[ck,bp,cE];rfl
 rw[e]at this;simpa using this
def Hf{q:Rat}:qt q=[48]↔q=0:=by rw[<-Bw];exact ME
def Kg(q:Rat):isNeg (qt q)=decide (q.num<0):=yK _ _
def MB(q:Rat):0<(qt q).length:=by have:=Kf q.num;unfold qt;rw[jW];omega
def Fg(s:bK):Int:=if s=[48]then 0 else if isNeg s then -1 else 1
def S7(q:Rat):Fg (qt q)=q.num.sign:=by
 unfold Fg;rw[Kg];by_cases h:q=0
 ·rw[if_pos<|Hf.2 h,h];rfl
 rw[if_neg λh'=>h<|Hf.1 h'];have h0:q.num≠0:=λh'=>h<|aip.1 h';by_cases hn:q.num<0
 ·simp[hn,ahO hn]
 simp[hn,agS<|show 0<q.num by omega]
def uU(s:bK)(hl:s.length<2^60):aL Tryz.prog 27 [.s s] (.i<|Fg s):=by
 refine bE Tryz.func27 rfl<|r0 rfl<|bH rfl (λh=>?_) (λh=>?_)
 ·refine r0 rfl<|aG rfl<|bC ?_;unfold Fg;rw[if_pos h]
 refine r0 rfl ?_;have hs:Fg s=if isNeg s then -1 else 1:=by unfold Fg;rw[if_neg h]
 refine aC 8 rfl (λh1=>?_) (λh1=>?_)
 ·refine r1 rfl (by simp[ag];omega) ?_;refine bH rfl (λh2=>?_) (λh2=>?_)
  ·have hn:isNeg s=true:=by unfold isNeg;exact decide_eq_true ⟨by omega,ahL h2⟩
   refine r0 rfl<|aG rfl<|bC ?_;rw[hs,hn];rfl
  have hn:isNeg s=false:=by unfold isNeg;exact decide_eq_false λhh=>h2 (by rw[show(s.getD (0:Int).toNat 0).toNat=45 from hh.2];rfl)
  refine r0 rfl<|aG rfl<|bC ?_;rw[hs,hn];rfl
 have hn:isNeg s=false:=by unfold isNeg;simp_all
 refine r0 rfl<|aG rfl<|bC ?_;rw[hs,hn];rfl
def wi{q:Rat}(h:EX q):(qt q).length<2^60:=agU (Cc h) (by decide)
def oF(q:Rat)(h:EX q):aL Tryz.prog 27 [.s<|qt q] (.i q.num.sign):=by have:=uU (qt q)<|wi h;rwa[S7]at this
def Tr{q:Rat}(h:q.num<0):(qt q).drop 1=qt (-q):=by unfold qt uY ck;rw[ahR,if_pos h,if_neg<|by omega];simp
def Xm{q:Rat}(h:0<q.num):45::qt q=qt (-q):=by unfold qt uY ck;rw[ahR,if_neg<|by omega,if_pos<|by omega];simp
def pK(q:Rat)(h:EX q):aL Tryz.prog 211 [.s<|qt q] (.s<|qt<|-q):=by
 have hl:=Cc h;have hp:=MB q;refine bE Tryz.func211 rfl<|r0 rfl<|bF rfl (oF q h) rfl<|r0 rfl<|bH rfl (λh1=>?_) (λh1=>?_)
 ·have hn:=afX.1 h1;refine r1 rfl (by simp[ag,len];omega) ?_;refine aG rfl<|an.of_eq<|congrArg SV.s ?_;rw[<-Tr hn,adF];rfl
 have hn:¬q.num<0:=λhn=>h1<|afX.2 hn;refine r0 rfl<|bF rfl (oF q h) rfl<|r0 rfl<|bH rfl (λh2=>?_) (λh2=>?_)
 ·have h0:=aip.1 (ajg.1 h2);refine r0 rfl<|aG rfl<|an.of_eq<|congrArg SV.s ?_;rw[h0];rfl
 have No:q.num≠0:=λh3=>h2 (by rw[h3];rfl);refine r1 rfl (by simp[ag,acY];omega) ?_;refine aG rfl<|an.of_eq<|congrArg SV.s<|Xm (by omega)
def mz(q:Rat):Rat:=if q.num<0 then -q else q
def qh(q:Rat)(h:EX q):aL Tryz.prog 44 [.s<|qt q] (.s<|qt<|mz q):=by
 have hp:=MB q;refine bE Tryz.func44 rfl<|r0 rfl<|bF rfl (oF q h) rfl<|r0 rfl<|bH rfl (λh1=>?_) (λh1=>?_)
 ·have hn:=afX.1 h1;refine r1 rfl (by simp[ag];omega) ?_;refine aG rfl<|an.of_eq<|congrArg SV.s ?_;unfold mz;rw[if_pos hn,<-Tr hn,adF];rfl
 have hn:=λhn=>h1<|afX.2 hn;refine r0 rfl<|aG rfl<|an.of_eq<|congrArg SV.s ?_;unfold mz;rw[if_neg hn]
def FE(q:Rat)(h:EX q):aL Tryz.prog 213 [.s<|qt q] (.s<|qt (q.num:Rat)):=by
 have hl:=wi h;have es:ar (qt q)=(ck q.num).length:=lz _ _;have agb:(qt q).length=(ck q.num).length+(fb q.den).length:=jW _ _;refine bE Tryz.func213 rfl<|r0 rfl<|bF rfl (j9 (qt q) hl) rfl<|r1 rfl (by simp[ag];omega) ?_;refine aG rfl<|an.of_eq<|congrArg SV.s ?_;have e1:((ar (qt q):Nat):Int).toNat=(ck q.num).length:=by omega
 rw[nP,e1];exact ss _ _
def Gr(q:Rat)(h:EX q):aL Tryz.prog 214 [.s<|qt q] (.s<|qt (q.den:Rat)):=by
 have hl:=wi h;have es:ar (qt q)=(ck q.num).length:=lz _ _;have agb:(qt q).length=(ck q.num).length+(fb q.den).length:=jW _ _;have hi:qt (q.den:Rat)=ck q.den:=nP (q.den:Int);rw[hi];refine bE Tryz.func214 rfl<|r0 rfl<|bF rfl (j9 (qt q) hl) rfl<|r0 rfl<|bH rfl (λh1=>?_) (λh1=>?_)
 ·have hd:q.den=1:=fk.1 (by omega);refine r0 rfl<|aG rfl<|an.of_eq<|congrArg SV.s ?_;rw[hd];exact(MC.symm.trans<|nP 1)
 have hd:q.den≠1:=λhd=>by have:=fk.2 hd;omega
 have e2:(((ar (qt q):Nat):Int)+1).toNat=(ck q.num).length+1:=by omega
 refine r1 rfl (by simp[ag,len];omega) ?_;refine aG rfl<|an.of_eq<|congrArg SV.s ?_;rw[e2,adF];exact s9 _ _ hd
def nc(q:Rat):aL Tryz.prog 96 [.s<|qt q] (.u<|decide (q=0)):=by refine bE Tryz.func96 rfl<|r0 rfl<|aG rfl<|an.of_eq<|congrArg SV.u<|decide_eq_decide.2 Hf
def uD(n:Int)(h: -9223372036854775808<n/\n<=9223372036854775807):aL Tryz.prog 142 [.i n] (.s<|qt (n:Rat)):=by rw[nP];refine bE Tryz.func142 rfl<|r0 rfl<|bF rfl (eX n h) rfl<|bF rfl (uP n (by have:=ji (m:=n.natAbs) (by omega);omega)) rfl ?_;refine r0 rfl<|bB rfl
def Xn(q:Rat):Bool:=decide ((qt q).length<=20/\(decl q.num.natAbs 1).length<=9/\(fb q.den).length<=10)
def xq{n j:Nat}(h:(decl n 1).length<=j):n<10^j:=by have h1:=lT<|cw n 1;rw[ke]at h1;exact adv h1<|adD (by decide) h
def wj{q:Rat}(h:Xn q=true):q.num.natAbs<1000000000:=xq (j:=9) (of_decide_eq_true h).2.1
def tC{q:Rat}(h:Xn q=true):q.den<1000000000:=by
 have h1:=(of_decide_eq_true h).2.2;by_cases hd:q.den=1
 ·omega
 rw[nJ hd]at h1;exact xq (j:=9) (by simpa using h1)
def Ir(q:Rat):bm (qt q)=decl q.num.natAbs 1++fb q.den:=Qb _ _
def QE(q:Rat):ar (bm<|qt q)=(decl q.num.natAbs 1).length:=by rw[Ir,oV _<|zA<|cw _ _,vX];omega
def oJ(q:Rat)(h:EX q):aL Tryz.prog 98 [.s<|qt q] (.bX [.i<|if Xn q then q.num else 0,.i<|if Xn q then(q.den:Int)else 0,.u<|Xn q]):=by
 have hp:=MB q;have hb:=xJ<|qt q;have rU:=Kg q;have wX:=QE q;have KG:(bm<|qt q).length=(decl q.num.natAbs 1).length+(fb q.den).length:=by rw[Ir];simp
 refine bE Tryz.func98 rfl<|b8 5 [(5,.s<|bm<|qt q),(6,.u<|decide (q.num<0))] ((qt q).length<=20) ?_ λhc=>?_
 ·refine r0 rfl<|bH rfl (λh1=>?_) (λh1=>?_)
  ·have hq:Xn q=false:=decide_eq_false λh2=>by omega
   rw[hq];refine r0 rfl<|aG rfl ⟨an.refl _,an.refl _,rfl,ao⟩
  refine r0 rfl<|aC 17 rfl (λh3=>?_) λh3=>absurd h3<|by omega
  refine r1 rfl (by simp[ag,and_true]<;>omega) ?_;refine bH rfl (λh2=>?_) (λh2=>?_)
  ·have hn:isNeg (qt q)=true:=by unfold isNeg;exact decide_eq_true ⟨by omega,by simpa using ahL h2⟩
   refine r1 rfl (by simp[ag,and_true,len]<;>omega) ?_;refine aP (by omega) ⟨⟨rfl,an.of_eq<|congrArg SV.s<|by simp[bm,hn]⟩,⟨rfl,an.of_eq<|congrArg SV.u<|(decide_eq_true h2).trans<|hn.symm.trans rU⟩,ao⟩
  have hn:isNeg (qt q)=false:=by unfold isNeg;exact decide_eq_false λhh=>h2 (by rw[show((qt q).getD (0:Int).toNat 0).toNat=45 from hh.2];rfl)
  refine r0 rfl<|aP (by omega) ⟨⟨rfl,an.of_eq<|congrArg SV.s<|by simp[bm,hn]⟩,⟨rfl,an.of_eq<|congrArg SV.u<|(decide_eq_false h2).trans<|hn.symm.trans rU⟩,ao⟩
 refine b8 2 [(6,.u<|decide (q.num<0)),(5,.s<|bm<|qt q),(7,.i<|ar<|bm<|qt q)] (Xn q=true) ?_ λhq=>?_
 ·refine r0 rfl<|bF rfl (j9 (bm<|qt q)<|by omega) rfl<|r0 rfl<|aC 29 rfl (λh1=>?_) (λh1=>?_)
  ·have hq:Xn q=false:=decide_eq_false λh2=>by omega
   rw[hq];refine r0 rfl<|aG rfl ⟨an.refl _,an.refl _,rfl,ao⟩
  refine r1 rfl (by simp[ag,and_true,len]<;>omega) ?_;refine bH rfl (λh2=>?_) (λh2=>?_)
  ·have hq:Xn q=false:=decide_eq_false λh2=>by omega
   rw[hq];refine r0 rfl<|aG rfl ⟨an.refl _,an.refl _,rfl,ao⟩
  refine r0 rfl<|aP (decide_eq_true ⟨hc,by omega,by omega⟩) ⟨ab,ab,ab,ao⟩
 have hqd:=of_decide_eq_true hq;have LW:=wj hq;have e1:((ar (bm<|qt q):Nat):Int).toNat=(decl q.num.natAbs 1).length:=by omega
 have e2:(((ar (bm<|qt q):Nat):Int)+1).toNat=(decl q.num.natAbs 1).length+1:=by omega
 have e3:(bm<|qt q).take (decl q.num.natAbs 1).length=decl q.num.natAbs 1:=by rw[Ir];simp
 refine b8 2 [(6,.u<|decide (q.num<0)),(8,.i q.num.natAbs),(9,.i q.den)] True ?_ λ_=>?_
 ·refine r1 rfl (by simp[ag,and_true,len]<;>omega) ?_;refine cl rfl (by rw[e1,e3];rfl) (oD (decl q.num.natAbs 1) (cw _ _)<|by omega) rfl ?_;rw[ke];refine r0 rfl<|bH rfl (λh1=>?_) (λh1=>?_)
  ·have hd:q.den≠1:=λhd=>by have:=fk.2 hd;omega
   have e4:(bm<|qt q).drop ((decl q.num.natAbs 1).length+1)=decl q.den 1:=by rw[Ir,nJ hd,aiZ];simp
   have Es:(decl q.den 1).length<=9:=by have:=hqd.2.2;rw[nJ hd]at this;simpa using this
   refine r1 rfl (by simp[ag,and_true,len]<;>omega) ?_;refine cl rfl (by rw[e2,adF,e4];rfl) (oD (decl q.den 1) (cw _ _)<|by omega) rfl ?_;rw[ke];refine r0 rfl<|aP ao ⟨ab,ab,ab,ao⟩
  have hd:q.den=1:=fk.1 (by omega);refine r0 rfl<|aP ao ⟨ab,ab,⟨rfl,an.of_eq<|congrArg SV.i<|by rw[hd];rfl⟩,ao⟩
 rw[hq];refine r0 rfl<|nB rfl rfl rfl (λh1=>?_) (λh1=>?_)
 ·have h1:q.num<0:=of_decide_eq_true h1;refine r1 rfl (by simp[ag,and_true]<;>omega) ?_;exact aG rfl ⟨an.of_eq<|congrArg SV.i<|by rw[if_pos rfl];omega,an.refl _,rfl,ao⟩
 have h1:¬q.num<0:=of_decide_eq_false h1;refine r0 rfl<|aG rfl ⟨an.of_eq<|congrArg SV.i<|by rw[if_pos rfl];omega,an.refl _,rfl,ao⟩
def JJ(a b:Int)(hb:b≠0)(h1: -9223372036854775808<a/\a<=9223372036854775807)(h2: -9223372036854775808<b/\b<=9223372036854775807):aL Tryz.prog 99 [.i a,.i b] (.s<|qt<|Rat.divInt a b):=by
 refine bE Tryz.func99 rfl<|b8 2 [(0,.i a),(1,.i b)] (-4000000000000000000<=a/\a<=4000000000000000000/\ -4000000000000000000<=b/\b<=4000000000000000000) ?_ λhc=>?_
 ·have hla:=ji (m:=a.natAbs) (by omega);have hlb:=ji (m:=b.natAbs) (by omega);have big:∀{K:List It}{l:aV},True:=λ{_ _}=>trivial;refine r0 rfl<|aC 9 rfl (λg1=>?_) (λg1=>?_)
  ·refine r0 rfl<|bF rfl (eX a h1) rfl<|r0 rfl<|bF rfl (eX b h2) rfl<|r0 rfl<|bF rfl (fB a b hb (by omega)<|by omega) rfl<|r0 rfl<|bB rfl
  refine r0 rfl<|aC 13 rfl (λg2=>?_) (λg2=>?_)
  ·refine r0 rfl<|bF rfl (eX a h1) rfl<|r0 rfl<|bF rfl (eX b h2) rfl<|r0 rfl<|bF rfl (fB a b hb (by omega)<|by omega) rfl<|r0 rfl<|bB rfl
  refine r0 rfl<|aC 17 rfl (λg3=>?_) (λg3=>?_)
  ·refine r0 rfl<|bF rfl (eX a h1) rfl<|r0 rfl<|bF rfl (eX b h2) rfl<|r0 rfl<|bF rfl (fB a b hb (by omega)<|by omega) rfl<|r0 rfl<|bB rfl
  refine r0 rfl<|bH rfl (λg4=>?_) (λg4=>?_)
  ·refine r0 rfl<|bF rfl (eX a h1) rfl<|r0 rfl<|bF rfl (eX b h2) rfl<|r0 rfl<|bF rfl (fB a b hb (by omega)<|by omega) rfl<|r0 rfl<|bB rfl
  refine r0 rfl<|aP (by omega) ⟨ab,ab,ao⟩
 obtain⟨c1,c2,c3,c4⟩:=hc;refine xr 1 (λ(n d:Int)=>[(0,.i n),(1,.i d)]) (λn d=>0<d/\Rat.divInt n d=Rat.divInt a b/\n.natAbs=a.natAbs/\d.natAbs=b.natAbs) ?_ ?_
 ·refine r0 rfl<|bH rfl (λg1=>?_) (λg1=>?_)
  ·refine r1 rfl (by simp only[ag,and_true,len]<;>omega) ?_;refine meet (-a,-b) ⟨?_,Rat.neg_divInt_neg _ _,?_,?_⟩ ⟨⟨rfl,an.of_eq<|congrArg SV.i<|by omega⟩,⟨rfl,an.of_eq<|congrArg SV.i<|by omega⟩,ao⟩<;>dsimp only<;>omega
  refine r0 rfl<|meet (a,b) ⟨?_,rfl,rfl,rfl⟩ ⟨ab,ab,ao⟩;dsimp only;omega
 rintro n d⟨hd,hq,Nn,UY⟩;rw[<-hq];have vm:=C3 (n:=n) hd;have Bf:=C4 (n:=n) hd;have UN:0<Nat.gcd n.natAbs d.natAbs:=Nat.gcd_pos_of_pos_right _ (by omega);have hgn:=Nat.gcd_dvd_left n.natAbs d.natAbs;have hgd:=Nat.gcd_dvd_right n.natAbs d.natAbs;have Pm:(Rat.divInt n d).num.natAbs<=n.natAbs:=by rw[vm,lH];exact agT _ _
 have Es:(Rat.divInt n d).den<=d.natAbs:=by rw[Bf];exact agT _ _
 have CZ:=(Rat.divInt n d).den_nz;have ed:(d.natAbs:Int)=d:=by omega
 have acs:sN false n (0-n)=(n.natAbs:Int):=by simp only[sN];omega
 have t1:n.tdiv (Nat.gcd n.natAbs d.natAbs:Nat)=(Rat.divInt n d).num:=by
  rw[vm];unfold Bs;by_cases h:n<0
  ·have e2:n= -(n.natAbs:Int):=by omega
   simp only[h,decide_true,if_true]
   conv=>lhs;rw[e2]
   rw[Int.neg_tdiv,ags<|by omega];simp
  have e2:n=(n.natAbs:Int):=by omega
  simp only[h,decide_false,aeu,if_false]
  conv=>lhs;rw[e2]
  rw[ags<|by omega];simp
 have t2:d.tdiv (Nat.gcd n.natAbs d.natAbs:Nat)=((Rat.divInt n d).den:Int):=by
  rw[Bf]
  conv=>lhs;rw[<-ed]
  rw[ags<|by omega];simp
 have w1:IntKind.i64.wrap (n.tdiv (Nat.gcd n.natAbs d.natAbs:Nat))=(Rat.divInt n d).num:=by rw[t1];exact po ⟨by omega,by omega⟩
 have w2:IntKind.i64.wrap (d.tdiv (Nat.gcd n.natAbs d.natAbs:Nat))=((Rat.divInt n d).den:Int):=by rw[t2];exact po ⟨by omega,by omega⟩
 refine b8 2 [(0,.i (Rat.divInt n d).num),(1,.i (Rat.divInt n d).den)] True ?_ λ_=>?_
 ·refine r1 rfl (by simp only[ag,and_true,len]<;>omega) ?_;refine cl rfl (by rw[acs,<-ed];rfl) (RQ n.natAbs d.natAbs) rfl ?_;refine kw [40,43] rfl (by kernel_rfl) (by simp only[ag,and_true,len]<;>omega) ?_;exact aP ao ⟨⟨rfl,an.of_eq<|congrArg SV.i w1⟩,⟨rfl,an.of_eq<|congrArg SV.i w2⟩,ao⟩
 generalize Rat.divInt n d=q at*;have Nq:(decl q.num.natAbs 1).length<=19:=dA _ _ 19 (by omega) (by omega);have anW:(decl q.den 1).length<=19:=dA _ _ 19 (by omega) (by omega);have acs:sN false q.num (0-q.num)=(q.num.natAbs:Int):=by simp only[sN];omega
 refine b8 2 [(0,.i q.num),(1,.i q.den),(6,.s<|if q.num<0 then[45]else[])] True ?_ λ_=>?_
 ·refine r0 rfl<|bH rfl (λh=>?_) (λh=>?_)
  ·refine r0 rfl<|aP ao ⟨ab,ab,⟨rfl,an.of_eq<|congrArg SV.s<|by rw[if_pos h]⟩,ao⟩
  refine r0 rfl<|aP ao ⟨ab,ab,⟨rfl,an.of_eq<|congrArg SV.s<|by rw[if_neg h]⟩,ao⟩
 have hs:(if q.num<0 then[45]else([]:bK)).length<=1:=by split<;>simp
 have es:(if q.num<0 then[45]else([]:bK))++decl q.num.natAbs 1=ck q.num:=by unfold ck;split<;>simp
 refine r1 rfl (by simp only[ag,and_true,len]<;>omega) ?_;refine cl rfl (by rw[acs];rfl) (lY q.num.natAbs 1 (by omega)<|by omega) rfl ?_;refine r1 rfl (by simp only[ag,and_true,len]<;>omega) ?_;refine bH rfl (λh=>?_) (λh=>?_)
 ·refine r1 rfl (by simp only[ag,and_true,len,acW,acU,acY]<;>omega) ?_;refine bF rfl (lY q.den 1 (by omega)<|by omega) rfl<|r1 rfl (by simp only[ag,and_true,len,acW,acU,acY]<;>omega) ?_;refine aG rfl<|an.of_eq<|congrArg SV.s ?_;rw[es];unfold qt uY;rw[nJ<|by omega,acV];rfl
 refine r0 rfl<|aG rfl<|an.of_eq<|congrArg SV.s ?_;rw[es];unfold qt uY fb;rw[if_pos<|by omega,adw]
section
variable{K L:Nat}{p q:Rat}
def Sz(q:Rat)(K:Nat):Prop:=(ae q.num.natAbs).length<=K/\(ae q.den).length<=K
def Sz.sW(h:Sz q K)(hK:K<2^40):EX q:=⟨agF h.1 hK,agF h.2 hK⟩
def Sz.mono(h:Sz q K)(hK:K<=L):Sz q L:=⟨acX h.1 hK,acX h.2 hK⟩
def Sz.neg(h:Sz q K):Sz (-q) K:=by unfold Sz at *;rw[ahR,ahE];exact h
def ym{n d:Int}(hd:0<d)(h1:(ae n.natAbs).length<=K)(h2:(ae d.natAbs).length<=K):Sz (Rat.divInt n d) K:=by unfold Sz;rw[C3 hd,C4 hd,lH];exact⟨acX (lK _ _) h1,acX (lK _ _) h2⟩
def qL(p q:Rat):Rat.divInt (p.num*q.num) ((p.den:Int)*q.den)=p*q:=by rw[Rat.mul_def',<-Rat.divInt_ofNat,adB]
def ow(p q:Rat):Rat.divInt (p.num*q.den+q.num*p.den) ((p.den:Int)*q.den)=p+q:=by rw[Rat.add_def',<-Rat.divInt_ofNat,adB]
def den_pos(p:Rat):(0:Int)<p.den:=by have:=p.den_nz;omega
def Sz.mul(h:Sz p K)(h':Sz q L):Sz (p*q) (K+L):=by
 rw[<-qL];refine ym (afV (den_pos p)<|den_pos q) ?_ ?_
 ·rw[afU];exact acX (dK _ _)<|ajh h.1 h'.1
 rw[afU];exact acX (dK _ _)<|ajh h.2 h'.2
def length_le{m n:Nat}(h:m<=n):(ae m).length<=(ae n).length:=by
 rcases ac1 (ae n).length (ae m).length with g|g
 ·have:=b6 g;omega
 exact g
def Au(x y:Int)(h1:(ae x.natAbs).length<=K)(h2:(ae y.natAbs).length<=K):(ae (x+y).natAbs).length<=K+1:=acX (length_le<|Int.natAbs_add_le x y) (nY h1 h2)
def gX(x y:Int)(h1:(ae x.natAbs).length<=K)(h2:(ae y.natAbs).length<=L):(ae (x*y).natAbs).length<=K+L:=by rw[afU];exact acX (dK _ _)<|ajh h1 h2
def Sz.add(h:Sz p K)(h':Sz q L):Sz (p+q) (K+L+1):=by
 rw[<-ow];refine ym (afV (den_pos p)<|den_pos q) ?_ ?_
 ·exact Au _ _ (gX _ _ h.1 h'.2) (Nat.add_comm K L▸gX _ _ h'.1 h.2)
 exact ait<|gX (p.den:Int) (q.den:Int) h.2 h'.2
def pL{x y:Int}(hx:x.natAbs<1000000000)(hy:y.natAbs<1000000000):(x*y).natAbs<=1000000000000000000:=by rw[afU];exact agG (af6 hx)<|af6 hy
def fT(p q:Rat)(hp:Sz p K)(hq:Sz q L)(hK:K+L<2^34):aL Tryz.prog 45 [.s<|qt p,.s<|qt q] (.s<|qt<|p*q):=by
 have fp:=hp.sW (by omega);have fq:=hq.sW (by omega);have h1:=hp.1;have h2:=hp.2;have h3:=hq.1;have h4:=hq.2;refine bE Tryz.func45 rfl<|b8 4 [(0,.s<|qt p),(1,.s<|qt q)] True ?_ λ_=>?_
 ·refine r0 rfl<|bF rfl (oJ p fp) rfl<|r0 rfl<|bF rfl (oJ q fq) rfl<|r0 rfl<|iF 28 rfl (λg1=>?_) (λg1=>?_)
  ·refine r0 rfl<|nB rfl rfl rfl (λg2=>?_) (λg2=>?_)
   ·simp[g1,g2,if_true];have m1:=pL (wj g1)<|wj g2;have m2:=pL (x:=(p.den:Int)) (y:=(q.den:Int)) (tC g1)<|tC g2;have m3:=afV (den_pos p)<|den_pos q;refine r1 rfl (by simp[ag,and_true,len]<;>omega) ?_;refine bF rfl (JJ (p.num*q.num) ((p.den:Int)*q.den) (by omega) (by omega)<|by omega) rfl<|r0 rfl ?_;rw[qL];exact bB rfl
   refine r0 rfl<|aP ao ⟨ab,ab,ao⟩
  refine r0 rfl<|aP ao ⟨ab,ab,ao⟩
 refine r0 rfl<|bF rfl (dF p fp) rfl<|r0 rfl<|bF rfl (dF q fq) rfl<|r0 rfl<|bG rfl (mb p.num q.num (by unfold IM;omega)<|by unfold IM;omega) rfl ?_;refine r0 rfl<|bG rfl (mb (p.den:Int) (q.den:Int) (by show(ae p.den).length<_;omega)<|by show(ae q.den).length<_;omega) rfl ?_;refine r0 rfl ?_;have m3:=afV (den_pos p)<|den_pos q;have l1:=gX p.num q.num h1 h3;have l2:=gX (p.den:Int) (q.den:Int) h2 h4;refine bG rfl (fB (p.num*q.num) ((p.den:Int)*q.den) (by omega) (by omega)<|by omega) rfl ?_;rw[qL];refine k0 rfl (by kernel_rfl)<|bB rfl
def zB(p q:Rat)(hp:Sz p K)(hq:Sz q L)(hK:K+L+1<2^34):aL Tryz.prog 136 [.s<|qt p,.s<|qt q] (.s<|qt<|p+q):=by
 have fp:=hp.sW (by omega);have fq:=hq.sW (by omega);have h1:=hp.1;have h2:=hp.2;have h3:=hq.1;have h4:=hq.2;refine bE Tryz.func136 rfl<|b8 4 [(0,.s<|qt p),(1,.s<|qt q)] True ?_ λ_=>?_
 ·refine r0 rfl<|bF rfl (oJ p fp) rfl<|r0 rfl<|bF rfl (oJ q fq) rfl<|r0 rfl<|iF 28 rfl (λg1=>?_) (λg1=>?_)
  ·refine r0 rfl<|nB rfl rfl rfl (λg2=>?_) (λg2=>?_)
   ·simp[g1,g2,if_true];have m1:=pL (y:=(q.den:Int)) (wj g1)<|tC g2;have m0:=pL (y:=(p.den:Int)) (wj g2)<|tC g1;have m2:=pL (x:=(p.den:Int)) (y:=(q.den:Int)) (tC g1)<|tC g2;have m3:=afV (den_pos p)<|den_pos q;refine r1 rfl (by simp[ag,and_true,len]<;>omega) ?_;refine bF rfl (JJ (p.num*q.den+q.num*p.den) ((p.den:Int)*q.den) (by omega) (by omega)<|by omega) rfl<|r0 rfl ?_;rw[ow];exact bB rfl
   refine r0 rfl<|aP ao ⟨ab,ab,ao⟩
  refine r0 rfl<|aP ao ⟨ab,ab,ao⟩
 have l1:=gX p.num (q.den:Int) h1 h4;have l2:=gX q.num (p.den:Int) h3 h2;have l3:=gX (p.den:Int) (q.den:Int) h2 h4;have l4:=Au (p.num*q.den) (q.num*p.den) l1 (by omega);have m3:=afV (den_pos p)<|den_pos q;have d1:IM (p.den:Int):=by show(ae p.den).length<_;omega
 have d2:IM (q.den:Int):=by show(ae q.den).length<_;omega
 refine r0 rfl<|bF rfl (dF p fp) rfl<|r0 rfl<|bF rfl (dF q fq) rfl<|r0 rfl<|bG rfl (mb p.num (q.den:Int) (by unfold IM;omega) d2) rfl ?_;refine r0 rfl<|bG rfl (mb q.num (p.den:Int) (by unfold IM;omega) d1) rfl ?_;refine r0 rfl<|bG rfl (MH (p.num*q.den) (q.num*p.den) (by unfold IM;omega)<|by unfold IM;omega) rfl ?_;refine r0 rfl<|bG rfl (mb (p.den:Int) (q.den:Int) d1 d2) rfl<|r0 rfl<|bG rfl (fB (p.num*q.den+q.num*p.den) ((p.den:Int)*q.den) (by omega) (by omega)<|by omega) rfl ?_;rw[ow];refine k0 rfl (by kernel_rfl)<|bB rfl
def E9(p q:Rat)(hp:Sz p K)(hq:Sz q L)(hK:K+L+1<2^34):aL Tryz.prog 128 [.s<|qt p,.s<|qt q] (.s<|qt<|p-q):=by refine bE Tryz.func128 rfl<|r0 rfl<|bF rfl (pK q<|hq.sW<|by omega) rfl<|bF rfl (zB p (-q) hp hq.neg hK) rfl<|r0 rfl ?_;rw[<-Rat.sub_eq_add_neg];exact bB rfl
def Sz.sub(h:Sz p K)(h':Sz q L):Sz (p-q) (K+L+1):=by rw[Rat.sub_eq_add_neg];exact h.add h'.neg
def DF(p q:Rat):Int:=(p-q).num.sign
def tU(p q:Rat)(hp:Sz p K)(hq:Sz q L)(hK:K+L+1<2^34):aL Tryz.prog 66 [.s<|qt p,.s<|qt q] (.i<|DF p q):=by refine bE Tryz.func66 rfl<|r0 rfl<|bF rfl (E9 p q hp hq hK) rfl<|bF rfl (oF (p-q)<|(hp.sub hq).sW<|by omega) rfl<|r0 rfl<|bB rfl
def Sz.inv(h:Sz q K):Sz q⁻¹ (K+1):=by
 unfold Sz;rw[Rat.num_inv,Rat.den_inv];constructor
 ·rcases ahe q.num 0 with g|g|g
  ·rw[ahO g];simpa using ait h.2
  ·rw[g];simp[cD]
  rw[agS g];simpa using ait h.2
 split
 ·rw[iz];simp
 exact ait h.1
def pB(q:Rat)(h:Sz q K)(hK:K<2^34)(h0:q≠0):aL Tryz.prog 129 [.s<|qt q] (.s<|qt q⁻¹):=by have h1:=h.1;have h2:=h.2;have hn:=λh=>h0<|aip.1 h;refine bE Tryz.func129 rfl<|r0 rfl<|bF rfl (dF q<|h.sW<|by omega) rfl<|r0 rfl<|bF rfl (fB (q.den:Int) q.num hn (by show(ae q.den).length<_;omega)<|by omega) rfl ?_;refine r0 rfl ?_;rw[Rat.inv_def];exact bB rfl
def RY(p q:Rat)(hp:Sz p K)(hq:Sz q L)(hK:K+L+1<2^34)(h0:q≠0):aL Tryz.prog 97 [.s<|qt p,.s<|qt q] (.s<|qt<|p/q):=by refine bE Tryz.func97 rfl<|r0 rfl<|bF rfl (pB q hq (by omega) h0) rfl<|bF rfl (fT p q⁻¹ hp hq.inv (by omega)) rfl<|r0 rfl<|bB rfl
def Sz.div(h:Sz p K)(h':Sz q L):Sz (p/q) (K+L+1):=by rw[Rat.div_def];exact h.mul h'.inv
end
section
variable{s:bK}
def lZ(s:bK):Bool:=s.all λc=>decide (48<=c.toNat/\c.toNat<=57)
def my:lZ s=true↔db s:=by simp[lZ,db]
def EK(s:bK)(hl:s.length<2^60):aL Tryz.prog 124 [.s s] (.u<|lZ s):=by
 refine bE Tryz.func124 rfl<|r0 rfl<|loop (λi:Nat=>[(0,.s s),(3,.i i)]) (λi=>i<=s.length/\∀k,k<i->48<=(s.getD k 0).toNat/\(s.getD k 0).toNat<=57) (λi=>s.length-i) 0 ⟨abC _,λk h=>by omega⟩ ⟨ab,ab,ao⟩ ?_;rintro i⟨hi,hb⟩;refine r0 rfl<|bH rfl (λh=>?_) (λh=>?_)
 ·have aZ:i<s.length:=by omega
  have ei:(i:Int).toNat=i:=by omega
  have bad:¬(48<=(s.getD i 0).toNat/\(s.getD i 0).toNat<=57)->false=lZ s:=by
   intro hn;symm;rw[Bool.eq_false_iff];intro ht;have:=my.1 ht s[i]<|ab9 aZ;have e:s.getD i 0=s[i]:=by simp[aca,acL aZ]
   rw[<-e]at this;exact hn this
  refine r1 rfl (by simp[ag,and_true,ei];omega) ?_;refine aC 14 rfl (λh1=>?_) (λh1=>?_)
  ·rw[ei]at h1;refine r0 rfl<|aG rfl<|bad<|by omega
  rw[ei]at h1;refine r1 rfl (by simp[ag,and_true,ei];omega) ?_;refine bH rfl (λh2=>?_) (λh2=>?_)
  ·rw[ei]at h2;refine r0 rfl<|aG rfl<|bad<|by omega
  rw[ei]at h2;refine r1 rfl (by simp[ag,and_true];omega) ?_;refine again (i+1) (by omega) ⟨by omega,λk hk=>?_⟩ ⟨ab,ab,ao⟩;rcases ac1 k i with g|g
  ·exact hb k g
  rw[show k=i by omega];omega
 refine r0 rfl<|aG rfl ?_;show true=lZ s;symm;rw[my];intro c hc;obtain⟨k,hk,rfl⟩:=ag3 hc;have e:s.getD k 0=s[k]:=by simp[aca,acL hk]
 rw[<-e];exact hb k (by omega)
def fD(s:bK):Bool:=if s.length=0 then false else if 1<s.length/\(s.getD 0 0).toNat=48 then false else lZ s
def oR(s:bK)(hl:s.length<2^60):aL Tryz.prog 63 [.s s] (.u<|fD s):=by
 have e0:(0:Int).toNat=0:=rfl;refine bE Tryz.func63 rfl<|b8 2 [(0,.s s)] (fD s=lZ s) ?_ λhd=>?_
 ·refine r0 rfl<|aC 6 rfl (λh1=>?_) (λh1=>?_)
  ·refine r0 rfl<|aG rfl ?_;show false=fD s;unfold fD;rw[if_pos<|by omega]
  have hd:fD s=if 1<s.length/\(s.getD 0 0).toNat=48 then false else lZ s:=by unfold fD;rw[if_neg<|by omega]
  refine r0 rfl<|aC 10 rfl (λh2=>?_) (λh2=>?_)
  ·refine r1 rfl (by simp[ag];omega) ?_;refine bH rfl (λh3=>?_) (λh3=>?_)
   ·rw[e0]at h3;refine r0 rfl<|aG rfl ?_;show false=fD s;rw[hd,if_pos ⟨by omega,by omega⟩]
   rw[e0]at h3;refine r0 rfl<|aP (by rw[hd,if_neg<|by omega]) ⟨ab,ao⟩
  refine r0 rfl<|aP (by rw[hd,if_neg<|by omega]) ⟨ab,ao⟩
 refine r0 rfl<|bF rfl (EK s hl) rfl<|r0 rfl<|aG rfl ?_;rw[hd];exact an.refl _
def nA(h:fD s=true):db s/\0<s.length:=by
 unfold fD at h;split at h
 ·cases h
 split at h
 ·cases h
 exact⟨my.1 h,by omega⟩
def F8(h:db s):isNeg s=false:=by
 refine decide_eq_false ?_;rintro⟨h1,h2⟩;have hm:s.getD 0 0∈s:=by simp[acL h1]
 have:=h _ hm;omega
def xK(h:db s):bm s=s:=by unfold bm;rw[F8 h];rfl
def wR(h:db s):CM s=ct s:=by unfold CM;rw[F8 h,xK h];rfl
def wx(s:bK)(hs:db s)(hl:s.length<2^46):aL Tryz.prog 125 [.s s] (jZ (ct s:Int)):=by have:=Al s (by rw[xK hs];exact hs) hl;rwa[wR hs]at this
def Hn(b:bK)(hb:ar b<b.length)(hu:db (b.take<|ar b))(hv:db (b.drop<|ar b+1))(hl:b.length<2^46):
 aL Tryz.prog 64 [.s b] (.bX [jZ (ct (b.take<|ar b):Int),jZ (ct (b.drop<|ar b+1):Int)]):=by
 refine bE Tryz.func64 rfl<|r0 rfl<|bF rfl (j9 b<|by omega) rfl<|r0 rfl<|bH rfl (λh3=>absurd h3<|by omega) λh3=>?_;have e1:((ar b:Nat):Int).toNat=ar b:=by omega
 refine r1 rfl (by simp[ag];omega) ?_;refine cd rfl (by rw[e1];rfl) (wx _ hu<|by simp;omega) rfl ?_;refine r1 rfl (by simp[ag];omega) ?_;refine cd rfl (by rw[adF];rfl) (wx _ hv<|by simp;omega) rfl ?_;refine k0 rfl (by kernel_rfl)<|bB rfl
def Eg{t:bK}(h:db t):(ae<|ct t).length<=t.length+1:=by
 have h1:=lT h;rcases fZ (ct t)with g|g
 ·rw[g];simp
 rcases ac1 (t.length+1) (ae<|ct t).length with h'|h'
 ·rw[wo]at g;have:=adD (show 0<10 by decide) (show t.length<=9*((ae<|ct t).length-1) by omega);omega
 exact h'
def ir(s:bK):Bool:=fD ((bm s).take<|ar<|bm s)&& !(isNeg s&&decide ((bm s).take (ar<|bm s)=[48]))
def jB(s:bK):Bool:= !decide (ar (bm s)<(bm s).length)||(fD ((bm s).drop<|ar (bm s)+1)&& !decide ((bm s).drop (ar (bm s)+1)=[48])&& !decide ((bm s).drop (ar (bm s)+1)=[49]))
def pf(s:bK):Bool:= !decide (ar (bm s)<(bm s).length)||decide (Nat.gcd (ct<|(bm s).take<|ar<|bm s) (ct<|(bm s).drop<|ar (bm s)+1)=1)
def aJ(s:bK):Int:=if ir s then(if jB s then(if 600<ar (bm s)\/ar (bm s)+601<(bm s).length then 4 else if pf s then 0 else 1)else 1)else 1
def check_sound(s:bK)(hl:s.length<2^45):aL Tryz.prog 26 [.s s] (.i<|aJ s):=by
 have KG:=xJ s;have wX:=nm<|bm s;have e0:(0:Int).toNat=0:=rfl;refine bE Tryz.func26 rfl<|b8 3 [(0,.s s),(3,.s<|bm s)] True ?_ λ_=>?_
 ·refine r0 rfl<|aC 12 rfl (λh=>?_) (λh=>?_)
  ·refine r1 rfl (by simp only[ag,and_true];omega) ?_;refine bH rfl (λh2=>?_) (λh2=>?_)
   ·have hn:isNeg s=true:=by unfold isNeg;exact decide_eq_true ⟨by omega,by simpa using ahL h2⟩
    refine r1 rfl (by simp only[ag,and_true];omega) ?_;exact aP ao ⟨ab,⟨rfl,an.of_eq<|congrArg SV.s<|by simp[bm,hn]⟩,ao⟩
   have hn:isNeg s=false:=by unfold isNeg;exact decide_eq_false λhh=>h2 (by rw[show(s.getD (0:Int).toNat 0).toNat=45 from hh.2];rfl)
   refine r0 rfl<|aP ao ⟨ab,⟨rfl,an.of_eq<|congrArg SV.s<|by simp[bm,hn]⟩,ao⟩
  have hn:isNeg s=false:=by unfold isNeg;exact decide_eq_false λhh=>by omega
  refine r0 rfl<|aP ao ⟨ab,⟨rfl,an.of_eq<|congrArg SV.s<|by simp[bm,hn]⟩,ao⟩
 have e1:((ar (bm s):Nat):Int).toNat=ar (bm s):=by omega
 have e2:(((ar (bm s):Nat):Int)+1).toNat=ar (bm s)+1:=by omega
 refine b8 2 [(0,.s s),(3,.s<|bm s),(4,.i<|ar<|bm s)] (ir s=true) ?_ λhU=>?_
 ·refine r0 rfl<|bF rfl (j9 (bm s)<|by omega) rfl<|r1 rfl (by simp only[ag,and_true];omega) ?_;refine cl rfl (by rw[e1];rfl) (oR ((bm s).take<|ar<|bm s)<|by simp;omega) rfl ?_;refine r0 rfl<|iF 26 rfl (λh=>?_) (λh=>?_)
  ·have hU:ir s=false:=by unfold ir;simp at h;simp[h]
   refine r0 rfl<|aG rfl<|bC ?_;unfold aJ;rw[hU];rfl
  have jx:fD ((bm s).take<|ar<|bm s)=true:=by simpa using h
  have hp:=(nA jx).2;have Ph:0<s.length:=by simp at hp;omega
  refine r1 rfl (by simp only[ag,and_true];omega) ?_;refine aC 30 rfl (λh2=>?_) (λh2=>?_)
  ·have hn:isNeg s=true:=by unfold isNeg;exact decide_eq_true ⟨Ph,by simpa using ahL h2⟩
   refine r1 rfl (by simp only[ag,and_true];omega) ?_;refine bH rfl (λh3=>?_) (λh3=>?_)
   ·rw[e1]at h3;have h3:(bm s).take (ar<|bm s)=[48]:=h3;have hU:ir s=false:=by unfold ir;rw[hn,jx,decide_eq_true h3];rfl
    refine r0 rfl<|aG rfl<|bC ?_;unfold aJ;rw[hU];rfl
   rw[e1]at h3;have h3:¬(bm s).take (ar<|bm s)=[48]:=h3;refine r0 rfl<|aP (by unfold ir;rw[hn,jx,decide_eq_false h3];rfl) ⟨ab,ab,ab,ao⟩
  have hn:isNeg s=false:=by unfold isNeg;exact decide_eq_false λhh=>h2 (by rw[show(s.getD (0:Int).toNat 0).toNat=45 from hh.2];rfl)
  refine r0 rfl<|aP (by unfold ir;rw[hn,jx];rfl) ⟨ab,ab,ab,ao⟩
 have vq:aJ s=(if jB s then(if 600<ar (bm s)\/ar (bm s)+601<(bm s).length then 4 else if pf s then 0 else 1)else 1):=by unfold aJ;rw[hU];rfl
 have len_d:∀k,((bm s).drop k).length<=s.length:=λk=>by simp;omega
 have len_t:∀k,((bm s).take k).length<=s.length:=λk=>by simp;omega
 refine b8 1 [(0,.s s),(3,.s<|bm s),(4,.i<|ar<|bm s)] (jB s=true) ?_ λhV=>?_
 ·refine r0 rfl<|aC 41 rfl (λh=>?_) (λh=>?_)
  ·have hk:ar (bm s)<(bm s).length:=by omega
   have hVe:jB s=(fD ((bm s).drop<|ar (bm s)+1)&& !decide ((bm s).drop (ar (bm s)+1)=[48])&& !decide ((bm s).drop (ar (bm s)+1)=[49])):=by unfold jB;rw[decide_eq_true hk];rfl
   have bad:jB s=false->(1:Int)=aJ s:=by intro h;rw[vq,h];rfl
   have e3:(List.take (bm s).length<|bm s)=bm s:=adF;refine r1 rfl (by simp only[ag,and_true];omega) ?_;refine cl rfl (by rw[e2,e3];rfl) (oR ((bm s).drop<|ar (bm s)+1) (by have:=len_d<|ar (bm s)+1;omega)) rfl ?_;refine r0 rfl<|iF 48 rfl (λh1=>?_) (λh1=>?_)
   ·refine r0 rfl<|aG rfl<|an.of_eq<|congrArg SV.i<|bad<|by rw[hVe];simp at h1;rw[h1];rfl
   have h1:fD ((bm s).drop<|ar (bm s)+1)=true:=by simpa using h1
   refine r1 rfl (by simp only[ag,and_true];omega) ?_;refine aC 55 rfl (λh2=>?_) (λh2=>?_)
   ·rw[e2,e3]at h2;have h2:(bm s).drop (ar (bm s)+1)=[48]:=h2;refine r0 rfl<|aG rfl<|an.of_eq<|congrArg SV.i<|bad<|by rw[hVe,h1,decide_eq_true h2];rfl
   rw[e2,e3]at h2;have h2:¬(bm s).drop (ar (bm s)+1)=[48]:=h2;refine r1 rfl (by simp only[ag,and_true];omega) ?_;refine bH rfl (λh3=>?_) (λh3=>?_)
   ·rw[e2,e3]at h3;have h3:(bm s).drop (ar (bm s)+1)=[49]:=h3;refine r0 rfl<|aG rfl<|an.of_eq<|congrArg SV.i<|bad<|by rw[hVe,h1,decide_eq_true h3,Bool.and_comm];rfl
   rw[e2,e3]at h3;have h3:¬(bm s).drop (ar (bm s)+1)=[49]:=h3;refine r0 rfl<|aP (by rw[hVe,h1,decide_eq_false h2,decide_eq_false h3];rfl) ⟨ab,ab,ab,ao⟩
  have hk:¬ar (bm s)<(bm s).length:=by omega
  refine r0 rfl<|aP (by unfold jB;rw[decide_eq_false hk];rfl) ⟨ab,ab,ab,ao⟩
 rw[hV]at vq;refine b8 1 [(3,.s<|bm s),(4,.i<|ar<|bm s)] (¬(600<ar (bm s)\/ar (bm s)+601<(bm s).length)) ?_ λhS=>?_
 ·have bad:(600<ar (bm s)\/ar (bm s)+601<(bm s).length)->(4:Int)=aJ s:=by intro h;rw[vq,if_pos rfl,if_pos h]
  refine r0 rfl<|aC 65 rfl (λh=>?_) (λh=>?_)
  ·refine r0 rfl<|aG rfl<|an.of_eq<|congrArg SV.i<|bad<|by omega
  refine r1 rfl (by simp only[ag,and_true,len]<;>omega) ?_;refine bH rfl (λh2=>?_) (λh2=>?_)
  ·refine r0 rfl<|aG rfl<|an.of_eq<|congrArg SV.i<|bad<|by omega
  refine r0 rfl<|aP (by omega) ⟨ab,ab,ao⟩
 rw[if_pos rfl,if_neg hS]at vq;refine r0 rfl<|bH rfl (λh=>?_) (λh=>?_)
 ·have hk:ar (bm s)<(bm s).length:=by omega
  have hu:db ((bm s).take<|ar<|bm s):=by unfold ir at hU;exact(nA<|by simp at hU;exact hU.1).1
  have hv:db ((bm s).drop<|ar (bm s)+1):=by unfold jB at hV;rw[decide_eq_true hk]at hV;exact(nA<|by simp at hV;exact hV.1.1).1
  have hG:pf s=decide (Nat.gcd (ct<|(bm s).take<|ar<|bm s) (ct<|(bm s).drop<|ar (bm s)+1)=1):=by unfold pf;rw[decide_eq_true hk];rfl
  have small:∀t:bK,db t->t.length<=600->(ae<|ct t).length<2^36:=by intro t h1 h2;have:=Eg h1;omega
  refine r0 rfl<|bF rfl (Hn (bm s) hk hu hv<|by omega) rfl<|r0 rfl<|bF rfl (xw (ct<|(bm s).take<|ar<|bm s) (ct<|(bm s).drop<|ar (bm s)+1) (small _ hu<|by rw[ac2];omega)<|small _ hv<|by rw[afa];omega) rfl ?_;rw[hG]at vq;have ub:=AM (q:=Nat.gcd (ct<|(bm s).take<|ar<|bm s)<|ct<|(bm s).drop<|ar (bm s)+1);refine r0 rfl<|aC 90 rfl (λh1=>?_) (λh1=>?_)
  ·refine r0 rfl<|aG rfl<|bC ?_;rw[vq,decide_eq_false λh=>h1 (by have:=(ub.2 h).1;omega)];rfl
  refine r1 rfl (by simp only[ag,and_true]<;>omega) ?_;refine bH rfl (λh2=>?_) (λh2=>?_)
  ·refine r0 rfl<|aG rfl<|bC ?_;rw[vq,decide_eq_false λh=>h2 (ub.2 h).2];rfl
  refine r0 rfl<|aG rfl<|bC ?_;rw[vq,decide_eq_true<|ub.1 ⟨by omega,by simpa using h2⟩];rfl
 have hk:¬ar (bm s)<(bm s).length:=by omega
 refine r0 rfl<|aG rfl<|bC ?_;rw[vq];unfold pf;rw[decide_eq_false hk];rfl
end
def Ny{t:bK}{c:UInt8}(h:t≠[]):(t++[c]).getD 0 0=t.getD 0 0:=w8<|ag4.2 h
def Gu:∀(n:Nat)(s:bK),s.length=n->db s->0<s.length->(1<s.length->(s.getD 0 0).toNat≠48)->decl (ct s) 1=s/\((s.getD 0 0).toNat≠48->0<ct s)
 |0,s,h,_,hp,_=>by omega
 |n+1,s,h,hd,hp,hz=>by
  obtain⟨t,c,rfl⟩:∃t c,s=t++[c]:=by have:=List.dropLast_concat_getLast (l:=s)<|ag4.1 hp;exact⟨_,_,this.symm⟩
  have hc:=hd c (by simp);have hcd:Sv (c.toNat-48)=c:=by apply ahH.1;rw[zk<|by omega];omega
  rw[aaj];by_cases ht:t=[]
  ·subst ht;have e:ct []=0:=rfl;rw[e];constructor
   ·rw[bp<|by omega,show(10*0+(c.toNat-48))/10=0 by omega,show(10*0+(c.toNat-48))%10=c.toNat-48 by omega,hcd];rw[cE]
   intro h1;have h1:c.toNat≠48:=h1;omega
  have htl:=ag4.2 ht;have hz':=hz (by simp;omega);rw[Ny ht]at hz';obtain⟨ih1,ih2⟩:=Gu n t (by simpa using h) (λx hx=>hd x<|by simp[hx]) htl λ_=>hz';have ih2:=ih2 hz';constructor
  ·rw[bp<|by omega,show(10*ct t+(c.toNat-48))/10=ct t by omega,show(10*ct t+(c.toNat-48))%10=c.toNat-48 by omega,hcd];rw[xp ih2,ih1]
  intro _;omega
def Dw{s:bK}(h:fD s=true):decl (ct s) 1=s:=by have h1:=nA h;refine(Gu _ s rfl h1.1 h1.2 λh2 h3=>?_).1;unfold fD at h;rw[if_neg<|by omega,if_pos ⟨h2,h3⟩]at h;cases h
def GH(s:bK):s=(if isNeg s then[45]else[])++bm s:=by
 unfold bm;by_cases h:isNeg s=true
 ·rw[h];have h':=of_decide_eq_true h
  match s,h' with
  |c::t,h'=>have:c=45:=ahH.1 h'.2;subst this;rfl
 simp at h;rw[h];rfl
def Jd{b:bK}(h:ar b<b.length):b=b.take (ar b)++47::b.drop (ar b+1):=by
 have h1:=yp h;have e:b.getD (ar b) 0=b[ar b]:=by simp[acL h]
 rw[e]at h1
 conv=>lhs;rw[<-ahg (ar b) b,ac4 h,h1]
def Dc(q:Rat)(n:Nat):Prop:=(decl q.num.natAbs 1).length<=n/\(decl q.den 1).length<=n
def vH{s:bK}(h:aJ s=0):∃q:Rat,s=qt q/\Dc q 600:=by
 unfold aJ at h;split at h<;>try(cases h)
 rename_i hU;split at h<;>try(cases h)
 rename_i hV;split at h<;>try(cases h)
 split at h<;>try(cases h)
 rename_i hG;have wX:=nm<|bm s;simp only[ir,acd,agq]at hU;obtain⟨hU1,hU2⟩:=hU;have hu:=Dw hU1;have D8:((bm s).take<|ar<|bm s).length<=600:=by rw[ac2];omega
 generalize hua:ct ((bm s).take<|ar<|bm s)=a at hu;have rU:isNeg s=true->a≠0:=by intro hn h0;rw[hn,adx]at hU2;have:=of_decide_eq_false hU2;rw[<-hu,h0]at this;exact this (by simp[bp,cE];rfl)
 have key:∀b:Nat,b≠0->Nat.gcd a b=1->bm s=decl a 1++fb b->(decl b 1).length<=600->∃q:Rat,s=qt q/\Dc q 600:=by
  intro b hb Ss ajd KG;have ajj:(Bs (isNeg s) (a:Int)).natAbs.Coprime b:=by rw[lH];exact Ss
  refine⟨⟨Bs (isNeg s) (a:Int),b,hb,ajj⟩,?_,?_,KG⟩
  ·conv=>lhs;rw[GH s,ajd]
   unfold qt uY ck;dsimp only;rw[lH];by_cases hn:isNeg s=true
   ·have:=rU hn;rw[if_pos hn,if_pos<|by rw[hn];simp[Bs];omega];rfl
   simp[Bool.not_eq_true]at hn;rw[if_neg<|by rw[hn];simp,if_neg<|by rw[hn];simp[Bs]];rfl
  show(decl (Bs (isNeg s) (a:Int)).natAbs 1).length<=600;rw[lH,hu];exact D8
 by_cases hk:ar (bm s)<(bm s).length
 ·simp only[jB,decide_eq_true hk,ajk,ah6,acd,agq]at hV;obtain⟨⟨U0,hV2⟩,hV3⟩:=hV;have hv:=Dw U0;have Ek:((bm s).drop<|ar (bm s)+1).length<=600:=by rw[afa];omega
  simp[pf,decide_eq_true hk,ajk,ah6,decide_eq_true_eq,hua]at hG;generalize hvb:ct ((bm s).drop<|ar (bm s)+1)=b at hv hG;have b0:b≠0:=by intro h0;rw[h0]at hv;exact of_decide_eq_false hV2 (by rw[<-hv];simp[bp,cE];rfl)
  have b1:b≠1:=by intro h0;rw[h0]at hv;exact of_decide_eq_false hV3 (by rw[<-hv];simp[bp,cE];rfl)
  refine key b b0 hG ?_ (by rw[hv];exact Ek)
  conv=>lhs;rw[Jd hk]
  rw[hu,nJ b1,hv]
 refine key 1 (by decide) (by simp) ?_ (by simp[bp,cE]);rw[hu];have:ar (bm s)=(bm s).length:=by omega
 rw[this,adF];simp[fb]
def rq{n k:Nat}(h:(decl n 1).length<=9*k):(ae n).length<=k:=by
 have h1:=xq h;rcases fZ n with g|g
 ·rw[g];simp
 rcases ac1 k (ae n).length with h'|h'
 ·rw[wo]at g;have:=adD (show 0<10 by decide) (show 9*k<=9*((ae n).length-1) by omega);omega
 exact h'
def Dc.sz{q:Rat}(h:Dc q 600):Sz q 67:=⟨rq (k:=67) (by have:=h.1;omega),rq (k:=67) (by have:=h.2;omega)⟩
section
variable{i:Nat}{s:bK}{α:Type}{l:List α}
def aK{α:Type}(f:α->Int):List α->Int
 |[]=>0
 |x::l=>if f x≠0 then f x else aK f l
def dp[Inhabited α](f:α->Int)(h:i<l.length):aK f (l.drop i)=if f (l[i])≠0 then f (l[i])else aK f (l.drop<|i+1):=by rw[ac4 h];rfl
def aw{d:α}(h:i<l.length):l.getD i d=l[i]:=by simp[acL h]
def cR(s:bK):Prop:=s.length<2^45
def DI(xs:List bK)(hx:∀s∈xs,cR s)(hl:xs.length<2^60):aL Tryz.prog 131 [.strs false xs] (.i<|aK aJ xs):=by
 refine bE Tryz.func131 rfl<|r0 rfl<|loop (λi:Nat=>[(0,.strs false xs),(3,.i i)]) (λi=>i<=xs.length/\aK aJ xs=aK aJ (xs.drop i)) (λi=>xs.length-i) 0 ⟨abC _,rfl⟩ ⟨ab,ab,ao⟩ ?_;rintro i⟨hi,hf⟩;refine r0 rfl<|bH rfl (λh=>?_) (λh=>?_)
 ·have aZ:i<xs.length:=by omega
  have ei:(i:Int).toNat=i:=by omega
  have eg:xs.getD i []=xs[i]:=aw aZ;rw[dp _ aZ]at hf;refine r1 rfl (by simp[ag,ei];omega) ?_;refine cl rfl (by rw[ei,eg];rfl) (check_sound xs[i]<|hx _<|ab9 aZ) rfl ?_;refine r0 rfl<|bH rfl (λh2=>?_) (λh2=>?_)
  ·refine r0 rfl<|aG rfl<|an.of_eq<|congrArg SV.i<|by rw[hf,if_pos h2]
  refine r1 rfl (by simp[ag];omega) ?_;exact again (i+1) (by omega) ⟨by omega,by rw[hf,if_neg h2]⟩ ⟨ab,ab,ao⟩
 refine r0 rfl<|aG rfl<|bC ?_;rw[hf,show i=xs.length by omega,aey];rfl
def dG{α:Type}{f:α->Int}:∀{l:List α},aK f l=0↔∀x∈l,f x=0
 |[]=>by simp[aK]
 |x::l=>by
  simp only[aK];by_cases h:f x=0
  ·rw[if_neg<|by simpa using h,dG];simp[h]
  rw[if_pos h];simp[h]
structure hO where
 lo:bK
 hi:bK
 deriving Inhabited
def fP(s:hO):SV:=.agg [.s s.lo,.s s.hi]
noncomputable def bI(s:bK):Rat:=if h:aJ s=0 then(vH h).choose else 0
def fO(h:aJ s=0):qt (bI s)=s:=by unfold bI;rw[dif_pos h];exact(vH h).choose_spec.1.symm
def NZ(h:aJ s=0):Dc (bI s) 600:=by unfold bI;rw[dif_pos h];exact(vH h).choose_spec.2
def eU(h:aJ s=0):Sz (bI s) 67:=(NZ h).sz
noncomputable def iu(s:hO):Int:=if aJ s.lo≠0 then aJ s.lo else if aJ s.hi≠0 then aJ s.hi else if 0<DF (bI s.lo) (bI s.hi)then 11 else 0
def Bn(s:hO)(h1:cR s.lo)(h2:cR s.hi):aL Tryz.prog 29 [fP s] (.i<|iu s):=by
 refine bE Tryz.func29 rfl<|r0 rfl<|bF rfl (check_sound s.lo h1) rfl<|r0 rfl<|bH rfl (λh3=>?_) (λh3=>?_)
 ·refine r0 rfl<|bF rfl (check_sound s.hi h2) rfl<|r0 rfl<|aC 14 rfl (λh4=>?_) (λh4=>?_)
  ·refine r0 rfl ?_;have hc:=tU (bI s.lo) (bI s.hi) (eU h3) (eU h4) (by decide);rw[fO h3,fO h4]at hc;refine bF rfl hc rfl<|r0 rfl ?_;have hs:iu s=if 0<DF (bI s.lo) (bI s.hi)then 11 else 0:=by unfold iu;rw[if_neg<|by simpa using h3,if_neg<|by simpa using h4]
   refine bH rfl (λh5=>?_) (λh5=>?_)
   ·refine r0 rfl<|aG rfl<|an.of_eq<|congrArg SV.i<|by rw[hs,if_pos h5]
   refine r0 rfl<|aG rfl<|an.of_eq<|congrArg SV.i<|by rw[hs,if_neg h5,h4]
  refine r0 rfl<|aG rfl<|an.of_eq<|congrArg SV.i<|by unfold iu;rw[if_neg<|by simpa using h3,if_pos h4]
 have h3':¬aJ s.lo=0:=h3;refine r0 rfl<|aC 14 rfl (λh4=>absurd h4 h3') λh4=>?_;refine r0 rfl<|aG rfl<|an.of_eq<|congrArg SV.i<|by unfold iu;rw[if_pos h3']
def DJ(xs:List hO)(hx:∀s∈xs,cR s.lo/\cR s.hi)(hl:xs.length<2^60):aL Tryz.prog 95 [.bT false 2 default fP xs] (.i<|aK iu xs):=by
 refine bE Tryz.func95 rfl<|r0 rfl<|loop (λi:Nat=>[(0,.bT false 2 default fP xs),(3,.i i)]) (λi=>i<=xs.length/\aK iu xs=aK iu (xs.drop i)) (λi=>xs.length-i) 0 ⟨abC _,rfl⟩ ⟨ab,ab,ao⟩ ?_;rintro i⟨hi,hf⟩;refine r0 rfl<|bH rfl (λh=>?_) (λh=>?_)
 ·have aZ:i<xs.length:=by omega
  have ei:(i:Int).toNat=i:=by omega
  have eg:xs.getD i default=xs[i]:=aw aZ;rw[dp _ aZ]at hf;have hh:=hx _<|ab9 aZ;refine r1 rfl (by simp[ag,ei];omega) ?_;refine cl rfl (by rw[ei,eg];rfl) (Bn xs[i] hh.1 hh.2) rfl ?_;refine r0 rfl<|bH rfl (λh2=>?_) (λh2=>?_)
  ·refine r0 rfl<|aG rfl<|an.of_eq<|congrArg SV.i<|by rw[hf,if_pos h2]
  refine r1 rfl (by simp[ag];omega) ?_;exact again (i+1) (by omega) ⟨by omega,by rw[hf,if_neg h2]⟩ ⟨ab,ab,ao⟩
 refine r0 rfl<|aG rfl<|bC ?_;rw[hf,show i=xs.length by omega,aey];rfl
end
end Go.Ai
