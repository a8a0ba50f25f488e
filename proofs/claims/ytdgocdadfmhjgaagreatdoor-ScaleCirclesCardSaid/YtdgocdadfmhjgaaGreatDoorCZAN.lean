/- Parts of the proof of ScaleCircles (CheckRefused returns the error of the reference), at every input, with no further conditions. -/
import Derived.Test.YtdgocdadfmhjgaaGreatDoorCZAM
import Derived.Laws.StandIn
set_option linter.all false
set_option maxRecDepth 100000
set_option maxHeartbeats 0
namespace Go.Ai.cY
open Go.Proofs Go.Ai
def aaA{uL u1 u2 v1 v2 P rl vl:Int}(hP:0<P)(h1:0<=u1)(h2:0<=u2)(hr:0<=rl)(h3:0<=v2/\v2<18446744073709551616)(hv:0<=vl/\vl<P)
 (h:(uL*18446744073709551616+u1)*(18446744073709551616*P)+u2*P+rl<18446744073709551616*(v1*(18446744073709551616*P)+v2*P+vl)):uL<=v1:=by
 rcases afs v1 uL with g|g
 ·have a1:(v1*18446744073709551616+18446744073709551616)*(18446744073709551616*P)<=(uL*18446744073709551616+u1)*(18446744073709551616*P):=afL (by omega) (by omega);have a2:(v2+1)*P<=18446744073709551616*P:=afL (by omega) (by omega);have a3:0<=u2*P:=adT h2 (by omega);rw[ada]at a2;have a4:(v1*18446744073709551616+18446744073709551616)*(18446744073709551616*P)=18446744073709551616*(v1*(18446744073709551616*P))+18446744073709551616*(18446744073709551616*P):=by
   rw[ada,adj v1,adh]
  omega
 exact g
def aaz{t top u2 v1 v2 P rl vl:Int}(hP:0<P)(ht:0<=t)(h2:0<=u2/\u2<18446744073709551616)(hr:rl<P)(h3:0<=v2)(hv:0<=vl)(h:top<(t+1)*v1):
 top*(18446744073709551616*P)+u2*P+rl<(t+1)*(v1*(18446744073709551616*P)+v2*P+vl):=by
 have a1:(top+1)*(18446744073709551616*P)<=((t+1)*v1)*(18446744073709551616*P):=afL (by omega) (by omega);have a2:(u2+1)*P<=18446744073709551616*P:=afL (by omega) (by omega);have a3:0<=(t+1)*(v2*P+vl):=adT (by omega) (by have:=adT h3<|ads hP;omega);have a4:(t+1)*(v1*(18446744073709551616*P)+v2*P+vl)=((t+1)*v1)*(18446744073709551616*P)+(t+1)*(v2*P+vl):=by rw[Int.add_assoc,ahv,adh]
 rw[ada]at a1 a2;omega
theorem qz(pre w post:List Int)(V:Nat)(hw:w.length=(ae V).length+1)(ZG:gU w)(hL:2<=(ae V).length)(Ut:9223372036854775808<=(ae V).getD ((ae V).length-1) 0)
 (hU:val w<18446744073709551616*(V:Int))(cM:pre.length+w.length+post.length<2^50):
 lp Tryz.prog 245 [.ints .u64 true<|pre++w++post] [.bA 1000000 0 0 [.lR 1 pre.length<|(ae V).length+1],.ints .u64 false<|ae V]
  [.ints .u64 true<|pre++fx ((ae V).length+1) ((val w).toNat%V)++post] (.n .u64 ((val w).toNat/V:Nat)):=by
 have hvd:=bk V;have hvV:=bc V;have IL:0<V:=by
  rcases adp V with e|e
  ·subst e;rw[cD]at hL;simp at hL
  exact e
 generalize ae V=v at*;have LS:∀l:List Int,l.length=v.length+1->(pre++l++post).length=pre.length+(v.length+1)+post.length:=λl hl=>by simp[hl,afc]
 have nat:∀(l:List Int),gU l->∀i,∃x:Nat,l.getD i 0=x/\x<18446744073709551616:=λl hd i=>by have:=a7 hd i;exact⟨(l.getD i 0).toNat,by omega,by omega⟩
 obtain⟨v1,Z5,Rv⟩:=nat v hvd<|v.length-1;obtain⟨v2,ev2,ZH⟩:=nat v hvd<|v.length-2;obtain⟨uL,euL,huL⟩:=nat w ZG v.length;obtain⟨u1,eu1,Rw⟩:=nat w ZG<|v.length-1;obtain⟨u2,eu2,X4⟩:=nat w ZG<|v.length-2;have eL:(v.length:Int).toNat=v.length:=by omega
 have L3:((v.length:Int)-1).toNat=v.length-1:=by omega
 have eL2:((v.length:Int)-2).toNat=v.length-2:=by omega
 have D8:=LS w hw;have m0:(pre++w++post).getD (pre.length+v.length) 0=uL:=by rw[oa _ _ _<|by omega,euL]
 have m1:(pre++w++post).getD (pre.length+(v.length-1)) 0=u1:=by rw[oa _ _ _<|by omega,eu1]
 have m2:(pre++w++post).getD (pre.length+(v.length-2)) 0=u2:=by rw[oa _ _ _<|by omega,eu2]
 obtain⟨P,hP⟩:∃P:Int,P=18446744073709551616^(v.length-2):=⟨_,rfl⟩;have hPp:0<P:=by rw[hP];exact cG _
 have pw:=QW hw hL;have pv:=QX rfl hL;rw[euL,eu1,eu2,<-hP]at pw;rw[Z5,ev2,hvV,<-hP]at pv;have aez:=aY<|aaq ZG<|v.length-2;have abw:=ia<|aaq ZG<|v.length-2;have abu:=aY<|aaq hvd<|v.length-2;have abt:=ia<|aaq hvd<|v.length-2;rw[ac2,show min (v.length-2) w.length=v.length-2 by omega,<-hP]at abw;rw[ac2,show min (v.length-2) v.length=v.length-2 by omega,<-hP]at abt;have am1:9223372036854775808<=v1:=by rw[Z5]at Ut;omega
 have aeB:∀t:Int,0<=t->(uL:Int)*18446744073709551616+u1<(t+1)*v1->val w<(t+1)*V:=by intro t ht h;have:=aaz hPp ht (show 0<=(u2:Int)/\(u2:Int)<18446744073709551616 by omega) abw (show 0<=(v2:Int) by omega) abu h;rw[<-pw,<-pv]at this;exact this
 refine vD (fn:=Tryz.f245) Tryz.func245 rfl rfl rfl rfl rfl<|xr 5 (λt r:Nat=>[(0,.bA 1000000 0 0 [.lR 1 pre.length<|v.length+1]),(1,.ints .u64 false v),(5,.i v.length),(6,.n .u64 t),(7,.n .u64 (r%18446744073709551616:Nat)),(8,.n .u64 (r/18446744073709551616:Nat)),(1000000,.ints .u64 true<|pre++w++post)])
  (λt r=>t<18446744073709551616/\r<2*18446744073709551616/\(t:Int)*v1+r=(uL:Int)*18446744073709551616+u1/\val w<((t:Int)+1)*V) ?_ λt r⟨ht,hr,htr,htV⟩=>?_
 ·refine k1 rfl (by kernel_rfl) ?_ ?_
  ·simp only[ag,and_true,eL,L3,D8]<;>omega
  refine bH rfl (λhc=>?_) (λhc=>?_)
  ·rw[eL,L3,m0,Z5]at hc;have hle:(uL:Int)<=v1:=aaA (u1:=u1) (u2:=u2) (v2:=v2) hPp (by omega) (by omega) aez (by omega) ⟨abu,abt⟩ (by rw[<-pw,<-pv];exact hU);have heq:uL=v1:=by omega
   refine r1 rfl ?_ ?_
   ·simp only[ag,and_true,eL,L3,D8]<;>omega
   refine dk (us:=[.n .u64 u1,.n .u64 v1,.n .u64 ((0:Nat):Int)]) rfl rfl ao ⟨congrArg (SV.n .u64)<|by rw[L3,m1],congrArg (SV.n .u64)<|by rw[L3,Z5],rfl,ao⟩ (fg u1 v1 0 (by decide)) rfl<|k0 rfl (by kernel_rfl)<|meet (18446744073709551615,u1+v1) ⟨by omega,by omega,?_,?_⟩ ⟨kL,ab,ab,ab,ab,ab,ab,ao⟩
   ·dsimp only;omega
   dsimp only;exact hU
  rw[eL,L3,m0,Z5]at hc;have cS:uL<v1:=by omega
  refine r1 rfl ?_ ?_
  ·simp only[ag,and_true,eL,L3,D8]<;>omega
  refine dk (us:=[.n .u64 uL,.n .u64 u1,.n .u64 v1]) rfl rfl ao ⟨congrArg (SV.n .u64)<|by rw[eL,m0],congrArg (SV.n .u64)<|by rw[L3,m1],congrArg (SV.n .u64)<|by rw[L3,Z5],ao⟩ (AL uL u1 v1 cS Rv Rw) rfl<|k0 rfl (by kernel_rfl) ?_;have Gd:=afF (uL*18446744073709551616+u1) v1;have Kq:=adg (uL*18446744073709551616+u1) (show 0<v1 by omega);have Es:(uL*18446744073709551616+u1)/v1<18446744073709551616:=by rw[aeE<|by omega];omega
  obtain⟨q,hq⟩:∃q,q=(uL*18446744073709551616+u1)/v1:=⟨_,rfl⟩;obtain⟨r,hr⟩:∃r,r=(uL*18446744073709551616+u1)%v1:=⟨_,rfl⟩;rw[<-hq,<-hr];rw[<-hq]at Gd Es;rw[<-hr]at Gd Kq;have hi:(q:Int)*v1+r=(uL:Int)*18446744073709551616+u1:=by
   have:((v1*q:Nat):Int)=(q:Int)*v1:=by rw[adB,adj]
   omega
  refine meet (q,r) ⟨Es,by dsimp only;omega,hi,?_⟩ ⟨kL,ab,ab,ab,⟨rfl,congrArg (SV.n .u64)<|by dsimp only;omega⟩,⟨rfl,congrArg (SV.n .u64)<|by dsimp only;omega⟩,ab,ao⟩;dsimp only;refine aeB q (by omega) ?_;rw[ada,agv];omega
 obtain⟨G,hG⟩:∃G,G=cV (t:Int).toNat t r v1 v2 u2:=⟨_,rfl⟩;have Pe:=sU hPp (show(1:Int)<=v1 by omega) (show 0<=(v2:Int)/\(v2:Int)<18446744073709551616 by omega) (show 0<=(u2:Int)/\(u2:Int)<18446744073709551616 by omega) ⟨abu,abt⟩ ⟨aez,abw⟩ pv pw hU (t:Int).toNat t r rfl (by omega) (by omega) htr htV;rw[<-hG]at Pe;refine EM 1 (λq:Nat=>[(0,.bA 1000000 0 0 [.lR 1 pre.length<|v.length+1]),(1,.ints .u64 false v),(5,.i v.length),(6,.n .u64 q),(1000000,.ints .u64 true<|pre++w++post)]) (λq=>(q:Int)=G) ?_ λq hq=>?_
 ·refine r0 rfl<|kh (λt r:Nat=>[(0,.bA 1000000 0 0 [.lR 1 pre.length<|v.length+1]),(1,.ints .u64 false v),(5,.i v.length),(6,.n .u64 t),(7,.n .u64 (r%18446744073709551616:Nat)),(8,.n .u64 (r/18446744073709551616:Nat)),(1000000,.ints .u64 true<|pre++w++post)])
   (λt r=>t<18446744073709551616/\r<2*18446744073709551616/\cV (t:Int).toNat t r v1 v2 u2=G) (λt _=>t) t r ⟨ht,hr,hG.symm⟩
   ⟨kL,ab,ab,ab,ab,ab,ab,ao⟩ ?_
  rintro t r⟨ht,hr,hG⟩;have x8:r/18446744073709551616=0↔r<18446744073709551616:=by omega
  refine r0 rfl<|bH rfl (λhc=>?_) (λhc=>?_)
  ·have hrW:r<18446744073709551616:=by omega
   have er:r%18446744073709551616=r:=by omega
   have eR:∀(h:t*v2<=r*18446744073709551616+u2),(t:Int)=G:=by
    intro h;rw[<-hG];exact(KK (by omega) (by have:((t*v2:Nat):Int)<=((r*18446744073709551616+u2:Nat):Int):=by omega
                                             rw[adB]at this;omega)).symm
   refine r1 rfl ?_ ?_
   ·simp only[ag,and_true,eL2]<;>omega
   refine Il (us:=[.n .u64 t,.n .u64 v2]) rfl rfl ao ⟨rfl,congrArg (SV.n .u64)<|by rw[eL2,ev2],ao⟩ (kg t v2 ht ZH) rfl<|r0 rfl ?_;have Kr:=afF (t*v2) 18446744073709551616;have Kq:=adg (t*v2) (show 0<18446744073709551616 by decide);obtain⟨hi,ya⟩:∃hi,hi=t*v2/18446744073709551616:=⟨_,rfl⟩;obtain⟨lo,lV⟩:∃lo,lo=t*v2%18446744073709551616:=⟨_,rfl⟩;rw[<-ya,<-lV];rw[<-ya,<-lV]at Kr;rw[<-lV]at Kq;rw[er];refine aC 78 rfl (λh=>?_) (λh=>?_)
   ·refine r0 rfl<|meet t (eR<|by omega) ⟨kL,ab,ab,ab,ab,ao⟩
   refine r0 rfl ?_;have LV:r*18446744073709551616+u2<t*v2->1<=t/\cV ((t-1:Nat):Int).toNat ((t-1:Nat):Int) ((r+v1:Nat):Int) v1 v2 u2=G:=by
    intro h;have h1:1<=t:=by
     rcases adp t with e|e
     ·subst e;simp at h
     exact e
    have h2:(r:Int)*18446744073709551616+u2<(t:Int)*v2:=by
     have:((r*18446744073709551616+u2:Nat):Int)<((t*v2:Nat):Int):=by omega
     rw[adB t]at this;omega
    refine⟨h1,?_⟩;have e1:((t-1:Nat):Int)=(t:Int)-1:=by omega
    have e2:((r+v1:Nat):Int)=(r:Int)+v1:=by omega
    rw[e1,e2,<-hG];rcases afs ((r:Int)+v1) 18446744073709551616 with g|g
    ·exact(KL (by omega) h2 g).symm
    rw[KM (by omega) h2 g];exact AA ⟨by omega,by omega⟩ g ⟨by omega,by omega⟩ (by omega)
   refine aC 82 rfl (λh2=>?_) (λh2=>?_)
   ·refine r1 rfl ?_ ?_
    ·simp only[ag,and_true,eL2,D8]<;>omega
    refine bH rfl (λh3=>?_) (λh3=>?_)
    ·rw[eL2,m2]at h3;refine r0 rfl<|meet t (eR<|by omega) ⟨kL,ab,ab,ab,ab,ao⟩
    rw[eL2,m2]at h3;obtain⟨g1,g2⟩:=LV (by omega);refine r1 rfl ?_ ?_
    ·simp only[ag,and_true,L3]<;>omega
    refine Il (us:=[.n .u64 r,.n .u64 v1,.n .u64 ((0:Nat):Int)]) rfl rfl ao ⟨rfl,congrArg (SV.n .u64)<|by rw[L3,Z5],rfl,ao⟩ (fg r v1 0 (by decide)) rfl<|r0 rfl<|again (t-1,r+v1) (by dsimp only;omega) ⟨by dsimp only;omega,by dsimp only;omega,g2⟩ ⟨kL,ab,ab,⟨rfl,congrArg (SV.n .u64)<|Qz (b:=1) g1 ht⟩,ab,ab,ab,ao⟩
   obtain⟨g1,g2⟩:=LV (by omega);refine r1 rfl ?_ ?_
   ·simp only[ag,and_true,L3]<;>omega
   refine Il (us:=[.n .u64 r,.n .u64 v1,.n .u64 ((0:Nat):Int)]) rfl rfl ao ⟨rfl,congrArg (SV.n .u64)<|by rw[L3,Z5],rfl,ao⟩ (fg r v1 0 (by decide)) rfl<|r0 rfl<|again (t-1,r+v1) (by dsimp only;omega) ⟨by dsimp only;omega,by dsimp only;omega,g2⟩ ⟨kL,ab,ab,⟨rfl,congrArg (SV.n .u64)<|Qz (b:=1) g1 ht⟩,ab,ab,ab,ao⟩
  have:(t:Int)=G:=by rw[<-hG];exact(AA ⟨by omega,by omega⟩ (by omega) ⟨by omega,by omega⟩<|by omega).symm
  refine r0 rfl<|meet t this ⟨kL,ab,ab,ab,ab,ao⟩
 have hqW:q<18446744073709551616:=by omega
 rw[<-hq]at Pe;refine r0 rfl<|aeh (λ(i:Nat)(u:List Int)(c b:Nat)=>[(0,.bA 1000000 0 0 [.lR 1 pre.length<|v.length+1]),(1,.ints .u64 false v),(5,.i v.length),(6,.n .u64 q),(11,.n .u64 b),(12,.n .u64 c),(104,.i v.length),(105,.i i),(1000000,.ints .u64 true<|pre++u++post)])
  (λi u c b=>i<=v.length/\MS w v v.length q i u c b) (λi _ _ _=>v.length-i) 0 w 0 0 ⟨abC _,MS.start hw ZG⟩
  ⟨kL,ab,ab,ab,ab,ab,ab,ab,ab,ao⟩ ?_
 rintro i u c b⟨hi,hM⟩;have ei:(i:Int).toNat=i:=by omega
 have X0:=LS u hM.len;refine r0 rfl<|bH rfl (λcS=>?_) (λKx=>?_)
 ·have aZ:i<v.length:=by omega
  obtain⟨vi,evi,Sp⟩:=nat v hvd i;obtain⟨ui,eui,X1⟩:=nat w ZG i;have mi:(pre++u++post).getD (pre.length+i) 0=ui:=by rw[oa _ _ _ (by have:=hM.len;omega),hM.same i<|abZ _,eui]
  have hc:=hM.c;have hb:=hM.b;refine r1 rfl ?_ ?_
  ·simp only[ag,and_true,ei]<;>omega
  refine Il (us:=[.n .u64 q,.n .u64 vi]) rfl rfl ao ⟨rfl,congrArg (SV.n .u64)<|by rw[ei,evi],ao⟩ (kg q vi hqW Sp) rfl<|r0 rfl<|bF rfl (fg (q*vi%18446744073709551616) c 0 (by decide)) rfl<|r1 rfl ?_ ?_
  ·simp only[ag,and_true,ei,X0]<;>omega
  obtain⟨k1,k2⟩:=split_mul (p:=q*vi) (c:=c);have hmb:=FK hqW Sp hc;refine Il (us:=[.n .u64 ui,.n .u64 ((q*vi+c)%18446744073709551616:Nat),.n .u64 b]) rfl rfl ao ⟨congrArg (SV.n .u64)<|by rw[ei,mi],congrArg (SV.n .u64)<|by rw[ag6,k1],rfl,ao⟩ (pt ui ((q*vi+c)%18446744073709551616) b hb) rfl<|r1 rfl ?_ ?_
  ·simp only[ag,and_true,ei,X0]<;>omega
  refine again (i+1,u.set i ((ui+18446744073709551616-(q*vi+c)%18446744073709551616-b)%18446744073709551616:Nat),(q*vi+c)/18446744073709551616,(if ui<(q*vi+c)%18446744073709551616+b then 1 else 0)) (by dsimp only;omega)
   ⟨by dsimp only;omega,hM.next aZ hqW evi eui Sp X1⟩
   ⟨kL,ab,ab,ab,ab,⟨rfl,congrArg (SV.n .u64)<|by rw[ag6,Sg<|by omega,k2]⟩,ab,ab,⟨rfl,congrArg (SV.ints .u64 true)<|by rw[ei,Bt _ _ _ _ (by have:=hM.len;omega)]⟩,ao⟩
 have:i=v.length:=by omega
 subst this;have ml:(pre++u++post).getD (pre.length+v.length) 0=uL:=by rw[oa _ _ _ (by have:=hM.len;omega),hM.same _<|abZ _,euL]
 have hc:=hM.c;have hb:=hM.b;obtain⟨l1,l2,l3⟩:=hM.last hw rfl euL huL;have hVW:(V:Int)<18446744073709551616^(v.length+1):=by have:=ia hvd;rw[hvV]at this;rw[adf];have:=cG v.length;generalize (18446744073709551616:Int)^v.length=Q at*;omega
 have hU0:=aY ZG;have hUn:((val w).toNat:Int)=val w:=by omega
 refine r1 rfl ?_ ?_
 ·simp only[ag,and_true,ei,X0]<;>omega
 refine Il (us:=[.n .u64 uL,.n .u64 c,.n .u64 b]) rfl rfl ao ⟨congrArg (SV.n .u64)<|by rw[ei,ml],rfl,rfl,ao⟩ (pt uL c b hb) rfl<|r1 rfl ?_ ?_
 ·simp only[ag,and_true,ei,X0]<;>omega
 rw[ei,Bt _ _ _ _ (by have:=hM.len;omega)];obtain⟨u2',aeA⟩:∃z,z=u.set v.length ((uL+18446744073709551616-c-b)%18446744073709551616:Nat):=⟨_,rfl⟩;rw[<-aeA]at l1 l2 l3⊢;obtain⟨bb,Yp⟩:∃z:Nat,z=if uL<c+b then 1 else 0:=⟨_,rfl⟩;rw[<-Yp]at l3⊢;have an9:bb<=1:=by rw[Yp];split<;>omega
 refine bH rfl (λhz=>?_) (λhz=>?_)
 ·have Ws:bb=0:=by omega
  subst Ws;have n8:=I4 (U:=(val w).toNat) (V:=V) (q:=q) l1 l2 (by rw[<-hvV,l3,hUn];simp) (by rw[hUn];exact Pe.1);refine r0 rfl<|Xf [(4,.n .u64 q),(1000000,.ints .u64 true<|pre++u2'++post)] ⟨⟨rfl,rfl,.le rfl⟩,⟨rfl,rfl,.le rfl⟩,ao⟩ rfl ?_ ⟨⟨?_,rfl⟩,ao⟩
  ·exact congrArg (SV.n .u64) (by rw[n8.2])
  exact congrArg (SV.ints .u64 true) (by rw[<-n8.1])
 have hz1:bb=1:=by omega
 subst hz1;refine r0 rfl<|oN (λ(i:Nat)(u:List Int)(c:Nat)=>[(0,.bA 1000000 0 0 [.lR 1 pre.length<|v.length+1]),(1,.ints .u64 false v),(5,.i v.length),(6,.n .u64 q),(17,.n .u64 c),(156,.i v.length),(157,.i i),(1000000,.ints .u64 true<|pre++u++post)])
  (λi u c=>i<=v.length/\AB u2' v v.length i u c) (λi _ _=>v.length-i) 0 u2' 0 ⟨abC _,AB.start l1 l2⟩
  ⟨kL,ab,ab,ab,ab,ab,ab,ab,ao⟩ ?_
 clear hM X0 aeA ml;rintro i u c⟨hi,hM⟩;have ei:(i:Int).toNat=i:=by omega
 have X0:=LS u hM.len;refine r0 rfl<|bH rfl (λcS=>?_) (λKx=>?_)
 ·have aZ:i<v.length:=by omega
  obtain⟨vi,evi,Sp⟩:=nat v hvd i;obtain⟨ui,eui,X1⟩:=nat u2' l2 i;have mi:(pre++u++post).getD (pre.length+i) 0=ui:=by rw[oa _ _ _ (by have:=hM.len;omega),hM.same i<|abZ _,eui]
  have hc:=hM.hc;refine r1 rfl ?_ ?_
  ·simp only[ag,and_true,ei,X0]<;>omega
  refine dk (us:=[.n .u64 ui,.n .u64 vi,.n .u64 c]) rfl rfl ao ⟨congrArg (SV.n .u64)<|by rw[ei,mi],congrArg (SV.n .u64)<|by rw[ei,evi],rfl,ao⟩ (fg ui vi c hc) rfl<|k1 rfl (by kernel_rfl) ?_ ?_
  ·simp only[ag,and_true,ei,X0]<;>omega
  refine again (i+1,u.set i ((ui+vi+c)%18446744073709551616:Nat),(ui+vi+c)/18446744073709551616) (by dsimp only;omega)
   ⟨by dsimp only;omega,hM.next aZ evi eui Sp X1⟩
   ⟨kL,ab,ab,ab,ab,ab,ab,⟨rfl,congrArg (SV.ints .u64 true)<|by rw[ei,Bt _ _ _ _ (by have:=hM.len;omega)]⟩,ao⟩
 have:i=v.length:=by omega
 subst this;obtain⟨uu,euu,am2⟩:=nat u2' l2 v.length;have ml:(pre++u++post).getD (pre.length+v.length) 0=uu:=by rw[oa _ _ _ (by have:=hM.len;omega),hM.same _<|abZ _,euu]
 obtain⟨n1,n2,n3⟩:=hM.last l1 rfl euu;have hc:=hM.hc;have yc:=QB (U:=(val w).toNat) (V:=V) (q:=q) (cy:=(uu+c)/18446744073709551616) n1 n2 l1 l2 (by rw[<-hvV,l3,hUn];simp) hVW (by rw[hUn];exact Pe.2.1) (by rw[n3,hvV]) (by omega);refine r1 rfl ?_ ?_
 ·simp only[ag,and_true,ei,X0]<;>omega
 have es:(pre++u++post).set (pre.length+v.length) (IntKind.u64.wrap<|(uu:Int)+(c:Int))=pre++fx (v.length+1) ((val w).toNat%V)++post:=by rw[Bt _ _ _ _ (by have:=hM.len;omega),<-ahm,wrm,yc.1]
 rw[ei,ml,es];refine Xf [(4,.n .u64 (q-1:Nat)),(1000000,.ints .u64 true<|pre++fx (v.length+1) ((val w).toNat%V)++post)] ⟨⟨rfl,rfl,.le ?_⟩,⟨rfl,rfl,.le rfl⟩,ao⟩ rfl ?_ ⟨ab,ao⟩
 ·exact congrArg (SV.n .u64)<|Qz (b:=1) yc.2.2 hqW
 exact congrArg (SV.n .u64) (by rw[yc.2.1])
section
variable{k m n v:Nat}
def kp:∀(a b v:Nat),fx (a+b) v=fx a v++fx b (v/18446744073709551616^a)
 |0,b,v=>by simp[fx]
 |a+1,b,v=>by rw[show a+1+b=(a+b)+1 by omega];simp[fx];rw[kp a b,agI,ady,ac8 18446744073709551616]
def vr:∀(j v:Nat),fx j (v%18446744073709551616^j)=fx j v
 |0,v=>rfl
 |j+1,v=>by simp only[fx];rw[ady,ac8,Nat.mod_mul_right_div_self,vr j,Nat.mod_mod_of_dvd _<|Nat.dvd_mul_right _ _]
def HR(j v x:Nat):fx j (v+18446744073709551616^j*x)=fx j v:=by rw[<-vr,aiJ,vr]
def HQ:∀k:Nat,fx k 0=List.replicate k 0
 |0=>rfl
 |k+1=>by simp[fx,HQ k];rfl
def xb:∀{m v j:Nat},j<m->(fx m v).getD j 0=((v/18446744073709551616^j%18446744073709551616:Nat):Int)
 |m+1,v,0,h=>by simp[fx]
 |m+1,v,j+1,h=>by simp only[fx,ajo];rw[xb<|by omega,agI,ady,ac8 18446744073709551616]
def U9{j d:Nat}(h:j<m)(hd:d<18446744073709551616):(fx m v).set j d=fx m (v%18446744073709551616^j+18446744073709551616^j*(d+18446744073709551616*(v/18446744073709551616^(j+1)))):=by
 obtain⟨r,rfl⟩:∃r,m=j+(r+1):=⟨m-j-1,by omega⟩;have hp:0<18446744073709551616^j:=aef (by decide);rw[kp j<|r+1,kp j<|r+1,HR,vr,List.set_append_right _ _<|by rw[fA];omega,fA,agM]
 congr 1
 rw[agZ _ _ hp,aeS<|adg _ hp];simp only[fx,List.set_cons_zero];rw[agI,<-ady];generalize v/18446744073709551616^(j+1)=y
 congr 1
 ·omega
 congr 1;omega
def YB(h:n<=m):(fx m v).take n=fx n v:=by obtain⟨r,rfl⟩:∃r,m=n+r:=⟨m-n,by omega⟩;rw[kp,ah7<|by rw[fA];exact abZ _,acR<|by rw[fA];exact abZ _]
def PQ(v:Nat):ae v=fx (ae v).length v:=PC (bk v)<|bc v
def lX(n:Nat):n<18446744073709551616^(ae n).length:=by
 have h:=bQ n;have e:((18446744073709551616^(ae n).length:Nat):Int)=18446744073709551616^(ae n).length:=by rw[aiy];rfl
 omega
def PO(hn:0<n):18446744073709551616^((ae n).length-1)<=n:=by
 rcases fZ n with h|h
 ·have:=eI (n:=n) (by omega);rw[h]at this;cases this
 have e:((18446744073709551616^((ae n).length-1):Nat):Int)=18446744073709551616^((ae n).length-1):=by rw[aiy];rfl
 omega
def Le{X L:Nat}(h1:18446744073709551616^L<=X)(h2:X<18446744073709551616^(L+1)):(ae X).length=L+1:=by
 have hX:=adv (aef<|by decide) h1;have a:=lX X;have b:=PO hX;rcases aju (ae X).length (L+1)with g|g|g
 ·have:=adD (show 0<18446744073709551616 by decide) (show(ae X).length<=L by omega);omega
 ·exact g
 have:=adD (show 0<18446744073709551616 by decide) (show L+1<=(ae X).length-1 by omega);omega
def xa(h:v<18446744073709551616^k):cQ (fx k v)=ae v:=by
 apply YA;have e:((18446744073709551616^k:Nat):Int)=18446744073709551616^k:=by rw[aiy];rfl
 omega
def WL(h:v<18446744073709551616^k):val (fx k v)=v:=by
 apply SD;have e:((18446744073709551616^k:Nat):Int)=18446744073709551616^k:=by rw[aiy];rfl
 omega
def SJ{B x s:Nat}(hB:0<B)(hx:(ae B).getD ((ae B).length-1) 0=x)(hs:s=64-bl x):
 s<64/\bl x<=64/\9223372036854775808*18446744073709551616^((ae B).length-1)<=B*2^s/\B*2^s<18446744073709551616^(ae B).length:=by
 obtain⟨t1,t2⟩:=OD (A:=B) (by omega);rw[hx,agd]at t1;have hL:=eI (n:=B) (by omega);have cS:=lX B;obtain⟨Q,hQ⟩:∃Q,Q=18446744073709551616^((ae B).length-1):=⟨_,rfl⟩;have e1:2^(64*((ae B).length-1))=Q:=by rw[hQ,aio]
 have e2:18446744073709551616^(ae B).length=18446744073709551616*Q:=by rw[hQ,ac8,<-ady];congr 1;omega
 rw[e1]at t1 t2;rw[e2]at cS⊢;rw[<-hQ];have hQp:0<Q:=by rw[hQ];exact aef (by decide)
 have Gd:=afF B Q;have Kq:=adg B hQp;rw[t1]at Gd;have hx0:0<x:=by
  rcases adp x with g|g
  ·subst g;omega
  exact g
 have hxW:x<18446744073709551616:=by rw[<-t1,aeE hQp];exact cS
 have b1:=zu (x:=x) (by omega);have b2:=xO (x:=x) (by omega);have b3:=LF x;have b4:=acI hxW;have p1:2^(bl x)*2^s=18446744073709551616:=by rw[<-afy];rw[show bl x+s=64 by omega]
 have p2:2^(bl x-1)*2^s=9223372036854775808:=by rw[<-afy];rw[show bl x-1+s=63 by omega]
 have hp:0<2^s:=aef (by decide);refine⟨by omega,b4,?_,?_⟩
 ·have h1:9223372036854775808*Q<=x*2^s*Q:=adb _ (by rw[<-p2];exact adb _ b2);have h2:x*2^s*Q<=B*2^s:=by
   rw[adz,ac8<|2^s,<-adz];exact adb _ (by rw[ac8];omega)
  exact acX h1 h2
 have h1:B*2^s<(x+1)*Q*2^s:=Nat.mul_lt_mul_of_pos_right (by rw[ac7,ac8 x];omega) hp;have h2:(x+1)*Q*2^s<=18446744073709551616*Q:=by rw[adz,ac8 Q,<-adz];exact adb _ (by rw[<-p1];exact adb _ b3)
 omega
end
def A1(k:Nat):0<18446744073709551616^k:=aef (by decide)
def Du(A k:Nat):A/18446744073709551616^k=A/18446744073709551616^(k+1)*18446744073709551616+A/18446744073709551616^k%18446744073709551616:=by rw[ady,<-agI];omega
def yB(R x Y:Nat)(hY:0<Y):(R*18446744073709551616+x)/Y=R/Y*18446744073709551616+(R%Y*18446744073709551616+x)/Y/\(R*18446744073709551616+x)%Y=(R%Y*18446744073709551616+x)%Y:=by have:=BQ 18446744073709551616 0 R x Y hY;simpa using this
def Lh{r x Y:Nat}(h:r<Y)(hx:x<18446744073709551616):(r*18446744073709551616+x)/Y<18446744073709551616:=by rw[aeE<|by omega];omega
def Tt{A V m j d:Nat}(hV:0<V)(hj:j<m)(hd:d=(A/18446744073709551616^(j+1)%V*18446744073709551616+A/18446744073709551616^j%18446744073709551616)/V):
 (fx m<|A/18446744073709551616^(j+1)/V*18446744073709551616^(j+1)).set j d=fx m (A/18446744073709551616^j/V*18446744073709551616^j):=by
 have Es:d<18446744073709551616:=by rw[hd];exact Lh (adg _ hV)<|adg _<|by decide
 rw[U9 hj Es,ajc _<|A1<|j+1,ady,<-adz];have e1:(A/(18446744073709551616^j*18446744073709551616)/V*18446744073709551616^j*18446744073709551616)%18446744073709551616^j=0:=by rw[adz,ac8<|18446744073709551616^j,<-adz];simp_all
 rw[e1,afP];have e2:=(yB (A/18446744073709551616^(j+1)) (A/18446744073709551616^j%18446744073709551616) V hV).1;rw[<-Du,<-hd,ady]at e2;rw[ac8<|18446744073709551616^j]
 congr 2
 omega
def uk(A V k:Nat):Nat:=A%18446744073709551616^k+18446744073709551616^k*(A/18446744073709551616^k%V)
def WM(A V:Nat):uk A V 0=A%V:=by simp[uk,Nat.mod_one]
def aaw{A V k:Nat}(h:A/18446744073709551616^k<V):uk A V k=A:=by unfold uk;rw[afb h];exact afF _ _
def OC(A V k:Nat):uk A V (k+1)=A%18446744073709551616^k+18446744073709551616^k*(A/18446744073709551616^(k+1)%V*18446744073709551616+A/18446744073709551616^k%18446744073709551616):=by
 unfold uk;rw[Nat.mod_pow_succ,ady,afc,adz,<-ahk]
 congr 2
 omega
def aax(A V k:Nat):uk A V (k+1)/18446744073709551616^k=A/18446744073709551616^(k+1)%V*18446744073709551616+A/18446744073709551616^k%18446744073709551616:=by rw[OC,agZ _ _<|A1 k,aeS<|adg _<|A1 k,afP]
def WN(A V k:Nat):uk A V k/18446744073709551616^k=A/18446744073709551616^k%V:=by unfold uk;rw[agZ _ _<|A1 k,aeS<|adg _<|A1 k,afP]
def afY(A V k:Nat):fx k (uk A V k)=fx k A:=by unfold uk;rw[HR,vr]
def acg(A V k:Nat):fx k (uk A V<|k+1)=fx k A:=by rw[OC,HR,vr]
def Dt(A V m j:Nat)(hL:2<=(ae V).length)(Ut:9223372036854775808<=(ae V).getD ((ae V).length-1) 0)(hm:m<2^48)(hj:j+(ae V).length+1<=m):
 lp Tryz.prog 245 [.ints .u64 true<|fx m<|uk A V<|j+1] [.bA 1000000 0 0 [.lR 1 j<|(ae V).length+1],.ints .u64 false<|ae V]
  [.ints .u64 true<|fx m<|uk A V j] (.n .u64 ((A/18446744073709551616^(j+1)%V*18446744073709551616+A/18446744073709551616^j%18446744073709551616)/V:Nat)):=by
 have IL:0<V:=by
  rcases adp V with e|e
  ·subst e;rw[cD]at hL;cases hL
  exact e
 obtain⟨n,hn⟩:∃n,n=(ae V).length:=⟨_,rfl⟩;have hVl:=lX V;rw[<-hn]at hVl;obtain⟨r,hr⟩:∃r,m=j+((n+1)+r):=⟨m-j-(n+1),by omega⟩;obtain⟨T,hT⟩:∃T,T=A/18446744073709551616^(j+1)%V*18446744073709551616+A/18446744073709551616^j%18446744073709551616:=⟨_,rfl⟩;have hRl:=adg (A/18446744073709551616^(j+1)) IL;have hTV:T<V*18446744073709551616:=by omega
 have hTW:T<18446744073709551616^(n+1):=by exact adv hTV<|adb _<|af6 hVl
 have eT:uk A V (j+1)/18446744073709551616^j=T:=by rw[aax,hT]
 have eT2:A/18446744073709551616^j%V=T%V:=by rw[hT,<-(yB _ _ V IL).2,<-Du]
 have hTm:T%V<18446744073709551616^(n+1):=agF (Nat.mod_le _ _) hTW;have e1:fx m (uk A V<|j+1)=fx j A++fx (n+1) T++fx r 0:=by rw[hr,kp,kp,eT,acg,aeS hTW,acV]
 have e2:fx m (uk A V j)=fx j A++fx (n+1) (T%V)++fx r 0:=by rw[hr,kp,kp,WN,afY,eT2,aeS hTm,acV]
 have hv:val (fx (n+1) T)=T:=WL hTW;have:=qz (fx j A) (fx (n+1) T) (fx r 0) V (by rw[fA,hn]) (NV _ _) hL Ut (by rw[hv];have:((T:Nat):Int)<((V*18446744073709551616:Nat):Int):=by omega
                                                                                                                rw[adB]at this;omega) (by rw[fA,fA,fA];omega)
 rw[hv,agd,fA,<-hn,<-e2,<-e1,hT]at this;rw[<-hn];exact this
def sk(R s k:Nat):Nat:=R%18446744073709551616^k+18446744073709551616^k*(R*2^s/18446744073709551616^k)
def W0(R s:Nat):sk R s 0=R*2^s:=by simp[sk,Nat.mod_one]
def S6(R s k:Nat):sk R s k/18446744073709551616^k=R*2^s/18446744073709551616^k:=by unfold sk;rw[agZ _ _<|A1 k,aeS<|adg _<|A1 k,afP]
def aaG(R s k:Nat):sk R s k%18446744073709551616^k=R%18446744073709551616^k:=by unfold sk;rw[aiJ,Nat.mod_mod]
def OK(R s k:Nat):sk R s k/18446744073709551616^(k+1)=R*2^s/18446744073709551616^(k+1):=by rw[ady,<-agI,S6,agI]
def afZ(R s k:Nat):fx k (sk R s k)=fx k R:=by unfold sk;rw[HR,vr]
def OJ{R s m k d:Nat}(hk:k<m)(hd:d=R/18446744073709551616^k%18446744073709551616):(fx m<|sk R s k).set k d=fx m (sk R s<|k+1):=by
 have Es:d<18446744073709551616:=by omega
 rw[U9 hk Es,aaG,OK]
 conv=>rhs;unfold sk
 rw[Nat.mod_pow_succ,<-hd,ahk,afc];rw[ady,adz]
def Jf{R s k x y:Nat}(hs:s<64)(hx:x=R*2^s/18446744073709551616^k%18446744073709551616)(hy:y=R*2^s/18446744073709551616^(k+1)%18446744073709551616):
 (y*2^(64-s)%18446744073709551616)+x/2^s=R/18446744073709551616^k%18446744073709551616/\x/2^s<2^(64-s)/\y*2^(64-s)%18446744073709551616=y%2^s*2^(64-s):=by
 have hp:0<2^s:=aef (by decide);have e3:2^s*2^(64-s)=18446744073709551616:=by rw[<-afy];rw[show s+(64-s)=64 by omega]
 obtain⟨Z,hZ⟩:∃Z,Z=R*2^s/18446744073709551616^k:=⟨_,rfl⟩;have hR:R/18446744073709551616^k=Z/2^s:=by rw[hZ,agI,ac8<|18446744073709551616^k,<-agI,ajc _ hp]
 rw[ady,<-agI,<-hZ]at hy;rw[hR];obtain⟨y',D7⟩:∃y',y'=Z/18446744073709551616:=⟨_,rfl⟩;rw[<-D7]at hy;have eZ:Z=x+18446744073709551616*y':=by omega
 have e4:Z/2^s=x/2^s+2^(64-s)*y':=by rw[eZ,<-e3,adz,agZ _ _ hp]
 have hxl:x/2^s<2^(64-s):=by rw[aeE hp,ac8];omega
 have e5:y*2^(64-s)%18446744073709551616=y%2^s*2^(64-s):=by rw[<-e3,ajb]
 have e6:y%2^s=y'%2^s:=by rw[hy,<-e3,Nat.mod_mul_right_mod]
 refine⟨?_,hxl,e5⟩;rw[e5,e6,e4];have e7:=afF y'<|2^s;have h8:=adg y' hp;have e9:x/2^s+2^(64-s)*y'=(y'%2^s*2^(64-s)+x/2^s)+18446744073709551616*(y'/2^s):=by
  conv=>lhs;rw[<-e7]
  rw[ahk,<-adz,ac8 (2^(64-s))<|2^s,e3,ac8<|2^(64-s)];omega
 have Yv:(y'%2^s+1)*2^(64-s)<=2^s*2^(64-s):=adb _ h8;rw[ac7]at Yv;have h11:y'%2^s*2^(64-s)+x/2^s<18446744073709551616:=by omega
 rw[e9,aiJ,afb h11]
theorem xl(A B:Nat)(hB:0<B)(hA:(ae A).length<2^40)(hBl:(ae B).length<2^40):
 aL Tryz.prog 202 [.ints .u64 false<|ae A,.ints .u64 false<|ae B] (.bX [.ints .u64 false<|ae<|A/B,.ints .u64 false<|ae<|A%B]):=by
 have dB:=eI (n:=B) (by omega);refine bE Tryz.func202 rfl<|r0 rfl<|bF rfl (oo A B (by omega)<|by omega) rfl<|r0 rfl<|bH rfl (λh=>?_) (λh=>?_)
 ·have cS:A<B:=by unfold ou at h;split at h<;>omega
  refine r0 rfl<|aG rfl ⟨?_,an.of_eq<|congrArg (SV.ints .u64 false) ?_,ao⟩
  ·rw[aeS cS,cD];exact(rfl:([]:List Int)=[])
  rw[afb cS]
 have Kx:B<=A:=by unfold ou at h;split at h<;>omega
 have hlen:=length_le Kx;refine r0 rfl<|bH rfl (λh1=>?_) (λh1=>?_)
 ·have Yd:(ae B).length=1:=by omega
  have hA0:0<(ae A).length:=eI (by omega);have hBW:B<18446744073709551616:=by have:=lX B;rw[Yd]at this;simpa using this
  have eA:(((ae A).length:Nat):Int).toNat=(ae A).length:=by omega
  have hbd:(ae B).getD 0 0=B:=by rw[lM hB hBW];rfl
  refine r1 rfl (by simp only[ag,and_true]<;>omega) ?_;refine loop (λk:Nat=>[(0,.ints .u64 false<|ae A),(1,.ints .u64 false<|ae B),(6,.ints .u64 true<|fx (ae A).length<|A/18446744073709551616^k/B*18446744073709551616^k),(7,.n .u64 (A/18446744073709551616^k%B:Nat)),(8,.i<|(k:Int)-1)])
   (λk=>k<=(ae A).length) (λk=>k) (ae A).length (abZ _) ⟨ab,ab,⟨rfl,an.of_eq<|congrArg (SV.ints .u64 true) ?_⟩,⟨rfl,an.of_eq<|congrArg (SV.n .u64) ?_⟩,ab,ao⟩ ?_
  ·rw[eA,aeS<|lX A,Nat.zero_div,ah8,HQ]
  ·rw[aeS<|lX A,Nat.zero_mod];rfl
  intro k hk;refine r0 rfl<|bH rfl (λh=>?_) (λh=>?_)
  ·obtain⟨j,rfl⟩:∃j,k=j+1:=⟨k-1,by omega⟩;have ej:(((j+1:Nat):Int)-1).toNat=j:=by omega
   have hx:(ae A).getD j 0=((A/18446744073709551616^j%18446744073709551616:Nat):Int):=by rw[PQ A];exact xb (by omega)
   have hr:=adg (A/18446744073709551616^(j+1)) hB;refine k1 rfl (by kernel_rfl) ?_ ?_
   ·simp only[ag,and_true,ej]<;>omega
   have hd:=Lh hr<|adg (A/18446744073709551616^j)<|show 0<18446744073709551616 by decide
   refine dk (us:=[.n .u64 (A/18446744073709551616^(j+1)%B:Nat),.n .u64 (A/18446744073709551616^j%18446744073709551616:Nat),.n .u64 B]) rfl rfl ao ⟨rfl,congrArg (SV.n .u64)<|by rw[ej,hx],congrArg (SV.n .u64) hbd,ao⟩
    (AL _ _ B hr hBW<|adg _<|by decide) rfl<|k1 rfl (by kernel_rfl) ?_ ?_
   ·simp only[ag,and_true,ej,fA]<;>omega
   refine again j (by omega) (by omega) ⟨ab,ab,⟨rfl,an.of_eq<|congrArg (SV.ints .u64 true) ?_⟩,⟨rfl,an.of_eq<|congrArg (SV.n .u64) ?_⟩,⟨rfl,an.of_eq<|congrArg (SV.n .i64) ?_⟩,ao⟩
   ·rw[ej];exact Tt hB (by omega) rfl
   ·rw[<-(yB _ _ B hB).2,<-Du]
   omega
  have hk0:k=0:=by omega
  subst hk0;rw[Nat.pow_zero,Nat.div_one,Nat.mul_one];have hm:=adg A hB;refine r0 rfl<|bF rfl (dm (fx (ae A).length<|A/B)<|by rw[fA];omega) rfl ?_;refine r0 rfl<|Il (us:=[.ints .u64 false [((A%B:Nat):Int)]]) rfl rfl ao ⟨an.of_eq rfl,ao⟩ (dm [((A%B:Nat):Int)]<|by simp) rfl<|r0 rfl<|aG rfl ⟨an.of_eq<|congrArg (SV.ints .u64 false) ?_,an.of_eq<|congrArg (SV.ints .u64 false) ?_,ao⟩
  ·exact xa<|agF (agT _ _)<|lX A
  rw[dV λd hd=>by simp at hd;omega];generalize A%B=r;simp[val]
 obtain⟨x,hx,hxW⟩:=mo B<|(ae B).length-1;obtain⟨s,hs⟩:∃s,s=64-bl x:=⟨_,rfl⟩;obtain⟨n1,n2,n3,n4⟩:=SJ hB hx hs;have es:(64:Int)-(bl x:Int)=(s:Int):=by omega
 have L3:(((ae B).length:Int)-1).toNat=(ae B).length-1:=by omega
 have II:(ae B).length=(ae B).length-2+2:=by omega
 obtain⟨V,hV⟩:∃V,V=B*2^s:=⟨_,rfl⟩;obtain⟨X,hX⟩:∃X,X=A*2^s:=⟨_,rfl⟩;have Ph:0<2^s:=aef (by decide);have WA:X/V=A/B/\X%V=A%B*2^s:=by rw[hX,hV];exact⟨ai9 _ _ Ph,ajb _ _ _⟩
 rw[<-hV]at n3 n4;have Px:(ae V).length=(ae B).length:=by
  have:=Le (X:=V) (L:=(ae B).length-1) (by have:=A1<|(ae B).length-1;generalize 18446744073709551616^((ae B).length-1)=Q at*;omega) (by rw[show(ae B).length-1+1=(ae B).length by omega];exact n4)
  omega
 have afJ:9223372036854775808<=(ae V).getD ((ae V).length-1) 0:=by
  rw[Px];have e:=xb (m:=(ae B).length) (v:=V) (j:=(ae B).length-1) (by omega);rw[<-Px,<-PQ,Px]at e;rw[e];have hq:=A1<|(ae B).length-1;have h1:9223372036854775808<=V/18446744073709551616^((ae B).length-1):=by rw[ajt hq];exact n3
  have h2:V/18446744073709551616^((ae B).length-1)<18446744073709551616:=by rw[aeE hq,ac8,<-ady];rw[Nat.succ_eq_add_one,show(ae B).length-1+1=(ae B).length by omega];exact n4
  generalize V/18446744073709551616^((ae B).length-1)=t at*;omega
 have IL:0<V:=by rw[hV];exact ahD hB Ph
 have htk:X/18446744073709551616^((ae A).length-(ae B).length+1)<V:=by
  rw[aeE<|A1 _];have h1:X<18446744073709551616^(ae A).length*2^s:=by rw[hX];exact Nat.mul_lt_mul_of_pos_right (lX A) Ph
  have h2:18446744073709551616^(ae A).length=18446744073709551616^((ae B).length-1)*18446744073709551616^((ae A).length-(ae B).length+1):=by rw[<-afy];congr 1;omega
  have h3:2^s<=9223372036854775808:=by have:=adD (show 0<2 by decide) (show s<=63 by omega);exact this
  have h4:2^s*18446744073709551616^((ae B).length-1)<=V:=acX (adb _ h3) n3;have h5:=adb (18446744073709551616^((ae A).length-(ae B).length+1)) h4;have h6:18446744073709551616^(ae A).length*2^s=2^s*18446744073709551616^((ae B).length-1)*18446744073709551616^((ae A).length-(ae B).length+1):=by rw[h2,ac8,<-adz]
  rw[h6]at h1;exact adv h1 h5
 refine r1 rfl (by simp only[ag,and_true,L3]<;>omega) ?_;refine Il (us:=[.n .u64 x]) rfl rfl ao ⟨congrArg (SV.n .u64)<|by rw[L3,hx],ao⟩ (CJ x hxW) rfl ?_;rw[es];refine r0 rfl<|bF rfl (uo B s n1 hBl) rfl<|r0 rfl<|bF rfl (dm (fx ((ae B).length+1)<|B*2^s)<|by rw[fA];omega) rfl ?_;rw[<-hV,xa (show V<18446744073709551616^((ae B).length+1) by rw[ady];generalize 18446744073709551616^(ae B).length=Q at*;omega)]
 refine r0 rfl<|bF rfl (uo A s n1 hA) rfl ?_;rw[<-hX];refine r1 rfl (by simp only[ag,and_true]<;>omega) ?_;rw[Px];have c1:(((ae A).length:Int)-((ae B).length:Int)+1).toNat=(ae A).length-(ae B).length+1:=by omega
 refine loop (λk:Nat=>[(9,.i s),(10,.ints .u64 false<|ae V),(11,.ints .u64 true<|fx ((ae A).length+1)<|uk X V k),(12,.i (ae B).length),(13,.ints .u64 true<|fx ((ae A).length-(ae B).length+1)<|X/18446744073709551616^k/V*18446744073709551616^k),(14,.i<|(k:Int)-1)])
  (λk=>k<=(ae A).length-(ae B).length+1) (λk=>k) ((ae A).length-(ae B).length+1) (abZ _) ⟨ab,ab,⟨rfl,an.of_eq<|congrArg (SV.ints .u64 true) ?_⟩,ab,⟨rfl,an.of_eq<|congrArg (SV.ints .u64 true) ?_⟩,⟨rfl,an.of_eq<|congrArg (SV.n .i64) ?_⟩,ao⟩ ?_
 ·rw[aaw htk]
 ·rw[c1,aeS htk,ah8,HQ]
 ·omega
 intro k hk;refine r0 rfl<|bH rfl (λh=>?_) (λh=>?_)
 ·obtain⟨j,rfl⟩:∃j,k=j+1:=⟨k-1,by omega⟩;have ej:(((j+1:Nat):Int)-1)=(j:Int):=by omega
  rw[ej];refine rno 12 rfl (by simp only[ag,and_true]<;>omega) ?_;refine wn rfl rfl ?_ ?_
  ·simp only[ag,app,and_true,fA]<;>omega
  refine r0 rfl<|cr rfl rfl (lp.same (Dt X V ((ae A).length+1) j (by omega) afJ (by omega)<|by omega) rfl ?_ rfl rfl) rfl ?_
  ·show au [_,_]=au [SV.bA 1000000 0 0 [Step.lR 1 (j:Int).toNat<|((j:Int)+((ae B).length:Int)+1).toNat-(j:Int).toNat],SV.ints IntKind.u64 false<|ae V];rw[show(((j:Int)+((ae B).length:Int)+1).toNat-(j:Int).toNat)=(ae V).length+1 by omega,agd]
  refine r1 rfl (by simp only[ag,and_true,fA]<;>omega) ?_;refine again j (by omega) (by omega) ⟨ab,ab,ab,ab,⟨rfl,an.of_eq<|congrArg (SV.ints .u64 true) ?_⟩,ab,ao⟩;rw[agd];exact Tt IL (by omega) rfl
 have hk0:k=0:=by omega
 subst hk0;rw[Nat.pow_zero,Nat.div_one,Nat.mul_one,WM,WA.1,WA.2];have hRB:=adg A hB;refine r0 rfl<|loop (λk:Nat=>[(9,.i s),(11,.ints .u64 true<|fx ((ae A).length+1)<|sk (A%B) s k),(12,.i (ae B).length),(13,.ints .u64 true<|fx ((ae A).length-(ae B).length+1)<|A/B),(96,.i (ae B).length),(97,.i k)])
  (λk=>k<=(ae B).length) (λk=>(ae B).length-k) 0 (abC _) ⟨ab,⟨rfl,an.of_eq<|congrArg (SV.ints .u64 true)<|by rw[W0]⟩,ab,ab,ab,ab,ao⟩ ?_
 intro k hk;have ek:(k:Int).toNat=k:=by omega
 refine r0 rfl<|bH rfl (λh=>?_) (λh=>?_)
 ·obtain⟨x,hx⟩:∃x,x=A%B*2^s/18446744073709551616^k%18446744073709551616:=⟨_,rfl⟩;obtain⟨y,hy⟩:∃y,y=A%B*2^s/18446744073709551616^(k+1)%18446744073709551616:=⟨_,rfl⟩;obtain⟨d1,d2,d3⟩:=Jf n1 hx hy;have gx:(fx ((ae A).length+1)<|sk (A%B) s k).getD k 0=x:=by rw[xb<|by omega,S6,<-hx]
  have gy:(fx ((ae A).length+1)<|sk (A%B) s k).getD (k+1) 0=y:=by rw[xb<|by omega,OK,<-hy]
  refine r1 rfl (by simp only[ag,app,and_true,fA]<;>omega) ?_;have X7:((x:Nat):Int).fdiv (2^min ((s:Nat):Int).toNat IntKind.u64.bits)=((x/2^s:Nat):Int):=W3 x s (by omega);refine aC 109 rfl (λh=>?_) (λh=>?_)
  ·refine r1 rfl (by simp only[ag,app,and_true]<;>omega) ?_;refine bH rfl (λh2=>?_) (λh2=>?_)
   ·have Em:((64:Int)-(s:Int))=((64-s:Nat):Int):=by omega
    refine k1 rfl (by kernel_rfl) (by simp only[ag,app,and_true,ae7,fA]<;>omega) ?_;refine again (k+1) (by omega) (by omega) ⟨ab,⟨rfl,an.of_eq<|congrArg (SV.ints .u64 true) ?_⟩,ab,ab,ab,ab,ao⟩;have g2:((fx ((ae A).length+1)<|sk (A%B) s k).set k ((x/2^s:Nat):Int)).getD (k+1) 0=y:=by rw[getD_set_ne<|by omega,gy]
    rw[ek,gx,X7,uB<|by rw[fA];omega,show((k:Int)+1).toNat=k+1 by omega,g2,Em,S8 y (64-s)<|by omega,d3,ad6 (y%2^s) (x/2^s) (64-s) (by rw[<-d3,d1];exact adg _<|by decide) d2,List.set_set];exact OJ (by omega) (by rw[<-d3,d1])
   rw[ae7,fA]at h2;exact absurd (by omega) h2
  have hs0:s=0:=by omega
  refine r1 rfl (by simp only[ag,app,and_true]<;>omega) ?_;refine again (k+1) (by omega) (by omega) ⟨ab,⟨rfl,an.of_eq<|congrArg (SV.ints .u64 true) ?_⟩,ab,ab,ab,ab,ao⟩;rw[ek,gx,X7];refine OJ (by omega) ?_;rw[hx,hs0];simp
 have hk:k=(ae B).length:=by omega
 subst hk;refine k1 rfl (by kernel_rfl) (by simp only[ag,app,and_true,fA]<;>omega) ?_;have t1:cQ (fx ((ae A).length-(ae B).length+1)<|A/B)=ae (A/B):=by apply xa;rw[<-WA.1,aeE IL,ac8];rw[aeE<|A1 _]at htk;exact htk
 have t2:cQ ((fx ((ae A).length+1)<|sk (A%B) s (ae B).length).take (ae B).length)=ae (A%B):=by rw[YB<|by omega,afZ];exact xa<|agU hRB<|lX B
 refine bG rfl (dm _<|by rw[fA];omega) rfl ?_;rw[t1];refine k1 rfl (by kernel_rfl) (by simp only[ag,app,and_true,fA]<;>omega) ?_;refine dk (us:=[.ints .u64 false<|(fx ((ae A).length+1)<|sk (A%B) s (ae B).length).take (ae B).length]) rfl rfl ao ⟨an.of_eq<|congrArg (SV.ints .u64 false) ?_,ao⟩ (dm _<|by rw[ac2,fA];omega) rfl ?_
 ·simp
 rw[t2];refine k0 rfl (by kernel_rfl)<|aG rfl ⟨an.of_eq rfl,an.of_eq rfl,ao⟩
def i1:Nm:=⟨1,none⟩
def NS(a b:Nm):Nm×Nm:=
 if a.w=none/\b.w=none/\a.s≠ -9223372036854775808 then(⟨a.s/b.s,none⟩,⟨a.s%b.s,none⟩)
 else if a.s<0/\(nv a).natAbs%(nv b).natAbs≠0 then(I2 (rZ (decide (a.s<0))<|(nv a).natAbs/(nv b).natAbs) i1,xW (rZ (decide (a.s<0))<|(nv a).natAbs%(nv b).natAbs) b)
 else(rZ (decide (a.s<0))<|(nv a).natAbs/(nv b).natAbs,rZ (decide (a.s<0))<|(nv a).natAbs%(nv b).natAbs)
def ZD:a8 i1:=⟨by decide,by decide⟩
def aet:nv i1=1:=rfl
def ZC{K:Nat}(h:1<=K):fj i1 K:=acX (gJ<|by decide) h
def pV{a b q r:Int}(hb:0<b)(h:q*b+r=a)(h0:0<=r)(h1:r<b):a/b=q/\a%b=r:=by
 have e:a=r+b*q:=by rw[adj];omega
 subst e;rw[Int.add_mul_ediv_left _ _<|by omega,Int.add_mul_emod_self_left,Int.ediv_eq_zero_of_lt h0 h1,Int.emod_eq_of_lt h0 h1];simp_all
def xk(a b:Nm)(ha:a8 a)(hb:a8 b)(h0:0<nv b):(nv (NS a b).1=nv a/nv b/\a8 (NS a b).1)/\(nv (NS a b).2=nv a%nv b/\a8 (NS a b).2):=by
 have va:=iI a ha;have hN:0<(nv b).natAbs:=by omega
 have Gd:=afF (nv a).natAbs (nv b).natAbs;have Kq:=adg (nv a).natAbs hN;have hc:((nv b).natAbs:Int)=nv b:=by omega
 have anV:(((nv a).natAbs%(nv b).natAbs:Nat):Int)+nv b*(((nv a).natAbs/(nv b).natAbs:Nat):Int)=((nv a).natAbs:Int):=by have:=congrArg (Nat.cast:Nat->Int) Gd;rw[ahm,adB,hc]at this;exact this
 unfold NS;split
 ·rename_i g;obtain⟨s,w⟩:=a;obtain⟨t,v⟩:=b;obtain⟨rfl,rfl,g3⟩:w=none/\v=none/\s≠_:=g;have hs: -9223372036854775808<=s/\s<=9223372036854775807:=ha;have ht: -9223372036854775808<=t/\t<=9223372036854775807:=hb;have h0:0<t:=h0;have h1:=agQ s (show t≠0 by omega);have h2:=agR s h0;refine⟨⟨rfl,?_⟩,⟨rfl,?_⟩⟩
  ·show -9223372036854775808<=s/t/\s/t<=9223372036854775807;constructor
   ·have:s<=s/t\/0<=s/t:=by
     rcases afs s 0 with g|g
     ·left;have h4:s/t<0:=Int.ediv_neg_of_neg_of_pos g h0;have h6:=Int.le_ediv_of_mul_le h0 (show s*t<=s by
       have h7: -s*1<= -s*t:=aec (show 1<=t by omega) (show 0<= -s by omega);rw[ahZ s t]at h7;omega)
      exact h6
     right;exact ahu g (by omega)
    omega
   have:s/t<=s\/s/t<=0:=by
    rcases afs s 0 with g|g
    ·right;have:=Int.ediv_neg_of_neg_of_pos g h0;omega
    left;exact Int.ediv_le_self _ g
   omega
  show -9223372036854775808<=s%t/\s%t<=9223372036854775807;omega
 have qv:=mY (decide (a.s<0))<|(nv a).natAbs/(nv b).natAbs;have qo:=o4 (decide (a.s<0))<|(nv a).natAbs/(nv b).natAbs;have rv:=mY (decide (a.s<0))<|(nv a).natAbs%(nv b).natAbs;have ro:=o4 (decide (a.s<0))<|(nv a).natAbs%(nv b).natAbs;generalize rZ (decide (a.s<0)) ((nv a).natAbs/(nv b).natAbs)=Q at*;generalize rZ (decide (a.s<0)) ((nv a).natAbs%(nv b).natAbs)=R at*;generalize (nv a).natAbs/(nv b).natAbs=q at*;generalize (nv a).natAbs%(nv b).natAbs=r at*;split
 ·rename_i g;obtain⟨g1,g2⟩:=g;obtain⟨e1,e2⟩:=yn Q i1 qo ZD;obtain⟨e3,e4⟩:=kv R b ro hb;rw[if_pos<|by simpa using g1]at qv rv;have rU:nv a<0:=va.1.1 g1;have:=pV (a:=nv a) (b:=nv b) (q:= -(q:Int)-1) (r:= -(r:Int)+nv b) h0 (by rw[aew,ahZ,agv,adj];omega) (by omega) (by omega);rw[aet]at e1;exact⟨⟨by dsimp only;rw[this.1];omega,e2⟩,⟨by dsimp only;rw[this.2];omega,e4⟩⟩
 rename_i g;by_cases g1:a.s<0
 ·have g2:r=0:=by
   rcases adp r with e|e
   ·exact e
   exact absurd ⟨g1,by omega⟩ g
  rw[if_pos<|by simpa using g1]at qv rv;have rU:nv a<0:=va.1.1 g1;subst g2;have:=pV (a:=nv a) (b:=nv b) (q:= -(q:Int)) (r:=0) h0 (by rw[ahZ,adj];omega) (by omega) (by omega);exact⟨⟨by dsimp only;rw[this.1];omega,qo⟩,⟨by dsimp only;rw[this.2];omega,ro⟩⟩
 rw[if_neg<|by simpa using g1]at qv rv;have LW:0<=nv a:=by
  rcases afs (nv a) 0 with e|e
  ·exact absurd (va.1.2 e) g1
  exact e
 have:=pV (a:=nv a) (b:=nv b) (q:=(q:Int)) (r:=r) h0 (by rw[adj];omega) (by omega) (by omega);exact⟨⟨by dsimp only;rw[this.1];omega,qo⟩,⟨by dsimp only;rw[this.2];omega,ro⟩⟩
def Me{a b:Int}(hb:0<b):(a.tmod b<0->a/b=a.tdiv b-1/\a%b=a.tmod b+b)/\(0<=a.tmod b->a/b=a.tdiv b/\a%b=a.tmod b)/\ -b<a.tmod b/\a.tmod b<b/\a.natAbs/b.natAbs=(a.tdiv b).natAbs:=by
 have key:a.tdiv b*b+a.tmod b=a/\ -b<a.tmod b/\a.tmod b<b/\a.natAbs/b.natAbs=(a.tdiv b).natAbs:=by
  rcases afs a 0 with g|g
  ·obtain⟨n,rfl⟩:∃n:Nat,a= -(n:Int):=⟨a.natAbs,by omega⟩;obtain⟨m,rfl⟩:∃m:Nat,b=(m:Int):=⟨b.natAbs,by omega⟩;rw[Int.neg_tdiv,Int.neg_tmod,ags<|by omega,aie<|by omega,<-aiM,ahZ];have h1:=Nat.div_add_mod n m;have h2:=adg n (show 0<m by omega);rw[ac8]at h1;refine⟨by omega,by omega,by omega,?_⟩;rw[ahE,ahE];rfl
  obtain⟨n,rfl⟩:∃n:Nat,a=(n:Int):=⟨a.natAbs,by omega⟩;obtain⟨m,rfl⟩:∃m:Nat,b=(m:Int):=⟨b.natAbs,by omega⟩;rw[ags<|by omega,aie<|by omega,<-aiM];have h1:=Nat.div_add_mod n m;have h2:=adg n (show 0<m by omega);rw[ac8]at h1;exact⟨by omega,by omega,by omega,rfl⟩
 obtain⟨k1,k2,k3,k4⟩:=key;refine⟨λh=>?_,λh=>?_,k2,k3,k4⟩
 ·exact pV hb (by rw[aew];omega) (by omega) (by omega)
 exact pV hb k1 h k3
def Ds(a b:Nm)(ha:a8 a)(hb:a8 b)(h0:0<nv b){K:Nat}(la:fj a K)(lb:fj b K)(hK:K<2^38):
 aL Tryz.prog 190 [eN a,eN b] (.bX [eN (NS a b).1,eN (NS a b).2]):=by
 have na:=uM ha;have nb:=uM hb;have va:=iI a ha;have vb:=iI b hb;have hN:0<(nv b).natAbs:=by omega
 have pa:=Hm a ha;have pb:=Hm b hb;have hd:=xl (nv a).natAbs (nv b).natAbs hN (by have:(ae (nv a).natAbs).length<=K:=la;omega) (by have:(ae (nv b).natAbs).length<=K:=lb;omega);have lq:(ae<|(nv a).natAbs/(nv b).natAbs).length<=K:=acX (lK _ _) la;have lr:(ae<|(nv a).natAbs%(nv b).natAbs).length<=K:=acX (length_le<|Nat.mod_le _ _) la;refine bE Tryz.func190 rfl<|b8 2 [(2,.box true<|eN a),(3,.box true<|eN b),(4,.box true<|.agg [.i 0,.nil]),(5,.box true<|.agg [.i 0,.nil])] (¬(a.w=none/\b.w=none/\a.s≠ -9223372036854775808)) ?_ λhg=>?_
 ·refine r0 rfl<|aC 19 rfl (λg1=>?_) (λg1=>?_)
  ·refine r0 rfl<|aC 24 rfl (λg2=>?_) (λg2=>?_)
   ·have ea:=na.1 g1;have eb:=nb.1 g2;refine r0 rfl<|bH rfl (λg3=>?_) (λg3=>?_)
    ·have g3:a.s≠ -9223372036854775808:=g3;have Gd:NS a b=(⟨a.s/b.s,none⟩,⟨a.s%b.s,none⟩):=by unfold NS;rw[if_pos ⟨ea,eb,g3⟩]
     rw[Gd];have hs: -9223372036854775808<=a.s/\a.s<=9223372036854775807:=by unfold a8 at ha;rw[ea]at ha;exact ha
     have ht: -9223372036854775808<=b.s/\b.s<=9223372036854775807:=by unfold a8 at hb;rw[eb]at hb;exact hb
     have hbs:0<b.s:=by rw[<-vb.2 eb];exact h0
     refine kw [33,38] rfl (by kernel_rfl) ?_ ?_
     ·simp only[ag,and_true];omega
     obtain⟨f1,f2,f3,f4,f5⟩:=Me (a:=a.s) hbs;have hql:(a.s.tdiv b.s).natAbs<=a.s.natAbs:=by rw[<-f5];exact agT _ _
     have hqb: -9223372036854775808<a.s.tdiv b.s/\a.s.tdiv b.s<=9223372036854775807:=by omega
     have hw:IntKind.i64.wrap (a.s.tdiv b.s)=a.s.tdiv b.s:=by rw[Uu];omega
     rw[hw];refine bH rfl (λh=>?_) (λh=>?_)
     ·obtain⟨e1,e2⟩:=f1 h;refine k1 rfl (by kernel_rfl) (by simp only[ag,and_true]<;>omega) ?_;refine aG rfl ⟨⟨an.of_eq<|congrArg SV.i e1.symm,rfl,ao⟩,⟨an.of_eq<|congrArg SV.i e2.symm,rfl,ao⟩,ao⟩
     obtain⟨e1,e2⟩:=f2 (by omega);refine k1 rfl (by kernel_rfl) (by simp only[ag,and_true]<;>omega) ?_;refine aG rfl ⟨⟨an.of_eq<|congrArg SV.i e1.symm,rfl,ao⟩,⟨an.of_eq<|congrArg SV.i e2.symm,rfl,ao⟩,ao⟩
    have g3:¬a.s≠ -9223372036854775808:=g3;refine r0 rfl<|aP (λg=>g3 g.2.2) ⟨ab,ab,ab,ab,ao⟩
   refine r0 rfl<|aP (λg=>g2<|nb.2 g.2.1) ⟨ab,ab,ab,ab,ao⟩
  refine r0 rfl<|aP (λg=>g1<|na.2 g.1) ⟨ab,ab,ab,ab,ao⟩
 unfold NS;rw[if_neg hg];have an1:decide (a.s<0)=decide (nv a<0):=by rw[decide_eq_decide];exact va.1
 have qv:=mY (decide (a.s<0))<|(nv a).natAbs/(nv b).natAbs;have qo:=o4 (decide (a.s<0))<|(nv a).natAbs/(nv b).natAbs;have rv:=mY (decide (a.s<0))<|(nv a).natAbs%(nv b).natAbs;have ro:=o4 (decide (a.s<0))<|(nv a).natAbs%(nv b).natAbs;have m1:=T3 (decide (a.s<0)) ((nv a).natAbs/(nv b).natAbs) (by omega);have m2:=T3 (decide (a.s<0)) ((nv a).natAbs%(nv b).natAbs) (by omega);have IH:nv (rZ (decide (a.s<0))<|(nv a).natAbs%(nv b).natAbs)<0↔(a.s<0/\(nv a).natAbs%(nv b).natAbs≠0):=by
  rw[rv];by_cases g:a.s<0
  ·rw[if_pos<|by simpa using g];constructor
   ·intro h;exact⟨g,by omega⟩
   rintro⟨-,h⟩;omega
  rw[if_neg<|by simpa using g];constructor
  ·intro h;omega
  rintro⟨h,-⟩;exact absurd h g
 have sq:fj (rZ (decide (a.s<0))<|(nv a).natAbs/(nv b).natAbs) (K+1):=by
  unfold fj;rw[qv];have e:(if decide (a.s<0)=true then -(((nv a).natAbs/(nv b).natAbs:Nat):Int)else(((nv a).natAbs/(nv b).natAbs:Nat):Int)).natAbs=(nv a).natAbs/(nv b).natAbs:=by generalize (nv a).natAbs/(nv b).natAbs=z;split<;>omega
  rw[e];omega
 have sr:fj (rZ (decide (a.s<0))<|(nv a).natAbs%(nv b).natAbs) (K+1):=by
  unfold fj;rw[rv];have e:(if decide (a.s<0)=true then -(((nv a).natAbs%(nv b).natAbs:Nat):Int)else(((nv a).natAbs%(nv b).natAbs:Nat):Int)).natAbs=(nv a).natAbs%(nv b).natAbs:=by generalize (nv a).natAbs%(nv b).natAbs=z;split<;>omega
  rw[e];omega
 refine r0 rfl<|bF rfl pa rfl<|r0 rfl<|bF rfl pb rfl<|r0 rfl<|bF rfl hd rfl<|r0 rfl<|bF rfl m1 rfl<|r0 rfl<|bF rfl m2 rfl<|r0 rfl ?_;have hsg:=yq _ ro;have Em:=Zl _ i1 qo ZD sq (ZC<|by omega) (by omega);have Nu:=Qg _ b ro hb sr (acX lb<|ag9 _) (by omega);generalize rZ (decide (a.s<0)) ((nv a).natAbs/(nv b).natAbs)=Q at*;generalize rZ (decide (a.s<0)) ((nv a).natAbs%(nv b).natAbs)=R at*;refine bF rfl hsg rfl<|r0 rfl<|bH rfl (λh=>?_) (λh=>?_)
 ·have h:(nv R).sign<0:=h;rw[if_pos<|IH.1<|afX.1 h];refine r0 rfl<|bG rfl (JK 1) rfl<|r0 rfl<|bG rfl Em rfl<|r0 rfl<|bG rfl Nu rfl<|k0 rfl (by kernel_rfl)<|bB rfl
 have h:¬(nv R).sign<0:=h;rw[if_neg λg=>h<|afX.2<|IH.2 g];refine k0 rfl (by kernel_rfl)<|bB rfl
section
variable{K:Nat}{a:Nm}
def dw{L:Nat}(h:fj a K)(hl:K<=L):fj a L:=acX h hl
def yF{b:Nm}(h:(nv b).natAbs<=(nv a).natAbs)(ha:fj a K):fj b K:=acX (length_le h) ha
def Ee(a b:Nm):Nm:=if nv b<0 then(NS (iS a)<|iS b).1 else(NS a b).1
def yw(a b:Nm)(ha:a8 a)(hb:a8 b)(h0:nv b≠0)(hd:nv b∣nv a):nv (Ee a b)=nv a/nv b/\a8 (Ee a b):=by
 unfold Ee;split
 ·rename_i g;obtain⟨e1,e2⟩:=dN a ha;obtain⟨e3,e4⟩:=dN b hb;obtain⟨⟨f1,f2⟩,-⟩:=xk (iS a) (iS b) e2 e4 (by omega);refine⟨?_,f2⟩;rw[f1,e1,e3];obtain⟨c,hc⟩:=hd;rw[hc,<-ahZ,Int.mul_ediv_cancel_left _<|by omega,Int.mul_ediv_cancel_left _ h0]
 exact(xk a b ha hb<|by omega).1
def Zu(a b:Nm)(ha:a8 a)(hb:a8 b)(h0:nv b≠0)(la:fj a K)(lb:fj b K)(hK:K<2^38):aL Tryz.prog 225 [eN a,eN b] (eN<|Ee a b):=by
 have hs:=yq b hb;have hna:=FI a ha la (by omega);have LX:=FI b hb lb (by omega);obtain⟨e1,e2⟩:=dN a ha;obtain⟨e3,e4⟩:=dN b hb;unfold Ee;refine bE Tryz.func225 rfl<|r0 rfl<|bF rfl hs rfl<|r0 rfl<|bH rfl (λh=>?_) (λh=>?_)
 ·have h:(nv b).sign<0:=h;have h:=afX.1 h;have Gd:=Ds (iS a) (iS b) e2 e4 (by omega) (oL ha la) (oL hb lb) hK;rw[if_pos h];refine r0 rfl<|bG rfl hna rfl<|r0 rfl<|bG rfl LX rfl<|k0 rfl (by kernel_rfl)<|bF rfl Gd rfl<|r0 rfl<|bB rfl
 have h:¬(nv b).sign<0:=h;have h:¬nv b<0:=λg=>h<|afX.2 g;have Gd:=Ds a b ha hb (by omega) la lb hK;rw[if_neg h];refine r0 rfl<|bF rfl Gd rfl<|r0 rfl<|bB rfl
def uC:Nat->Nm->Nm->Nm
 |0,a,_=>a
 |k+1,a,b=>if nv b=0 then a else uC k b (NS a b).2
def Nz(k:Nat)(a b:Nm)(h:nv b=0):uC k a b=a:=by
 cases k with
 |zero=>rfl
 |succ k=>unfold uC;rw[if_pos h]
def C1:∀(k:Nat)(a b:Nm){K:Nat},a8 a->a8 b->0<=nv a->0<=nv b->(nv b).natAbs<=k->fj a K->fj b K->nv (uC k a b)=(Int.gcd (nv a) (nv b):Nat)/\a8 (uC k a b)/\fj (uC k a b) K
 |0,a,b,K,ha,hb,na,nb,hk,la,lb=>by
  have:nv b=0:=by omega
  refine⟨?_,ha,la⟩;show nv a=_;rw[this,Int.gcd_zero_right];omega
 |k+1,a,b,K,ha,hb,na,nb,hk,la,lb=>by
  unfold uC;split
  ·rename_i h;refine⟨?_,ha,la⟩;rw[h,Int.gcd_zero_right];omega
  rename_i h;obtain⟨-,e1,e2⟩:=xk a b ha hb (by omega);have h1:=agQ (nv a) h;have h2:=agR (nv a) (show 0<nv b by omega);obtain⟨f1,f2,f3⟩:=C1 k b (NS a b).2 hb e2 nb (by omega) (by omega) lb<|yF (a:=b) (by omega) lb;refine⟨?_,f2,f3⟩;rw[f1,e1];rw[Int.gcd_comm<|nv a,ahN,ahN];obtain⟨x,hx⟩:∃x:Nat,nv a=x:=⟨(nv a).toNat,by omega⟩;obtain⟨y,hy⟩:∃y:Nat,nv b=y:=⟨(nv b).toNat,by omega⟩;rw[hx,hy,<-Int.natCast_emod,agE,agE,agE];rw[ahf y<|x%y,<-Nat.gcd_rec]
def oB(a b:Nm):Nm:=uC (nv b).natAbs (zD a)<|zD b
def BJ(h:a8 a)(l:fj a K):fj (zD a) K:=by unfold fj at *;rw[(nC a h).1];exact l
def yP(a b:Nm)(ha:a8 a)(hb:a8 b)(la:fj a K)(lb:fj b K):nv (oB a b)=(Int.gcd (nv a) (nv b):Nat)/\a8 (oB a b)/\fj (oB a b) K:=by obtain⟨e1,e2⟩:=nC a ha;obtain⟨e3,e4⟩:=nC b hb;have:=C1 (nv b).natAbs (zD a) (zD b) e2 e4 (by omega) (by omega) (by omega) (BJ ha la)<|BJ hb lb;refine⟨?_,this.2⟩;rw[oB,this.1,e1,e3];rw[ahN,ahN,agE,agE]
def ZZ(a b:Nm)(ha:a8 a)(hb:a8 b)(la:fj a K)(lb:fj b K)(hK:K<2^38):aL Tryz.prog 108 [eN a,eN b] (eN<|oB a b):=by
 have hA:=aaf a ha la (by omega);have hB:=aaf b hb lb (by omega);obtain⟨e1,e2⟩:=nC a ha;obtain⟨e3,e4⟩:=nC b hb;refine bE Tryz.func108 rfl<|r0 rfl<|bG rfl hA rfl<|r0 rfl<|bG rfl hB rfl<|k0 rfl (by kernel_rfl)<|oN (λ(k:Nat)(x y:Nm)=>[(2,.box true<|eN x),(3,.box true<|eN y),(4,.box true<|.agg [.i 0,.nil])])
  (λk x y=>a8 x/\a8 y/\0<=nv x/\0<=nv y/\fj x K/\fj y K/\(nv y).natAbs<=k/\uC k x y=oB a b) (λk _ _=>k) (nv b).natAbs (zD a) (zD b)
  ⟨e2,e4,by omega,by omega,BJ ha la,BJ hb lb,by omega,rfl⟩ ⟨ab,ab,ab,ao⟩ ?_
 rintro k x y⟨hx,hy,x0,y0,lx,ly,hk,hG⟩;have hs:=yq y hy;refine r0 rfl<|bF rfl hs rfl<|r0 rfl<|bH rfl (λh=>?_) (λh=>?_)
 ·have h:(nv y).sign≠0:=h;have F9:nv y≠0:=λg=>h (by rw[g];rfl);obtain⟨k',rfl⟩:∃k',k=k'+1:=⟨k-1,by omega⟩;obtain⟨-,f1,f2⟩:=xk x y hx hy (by omega);have h1:=agQ (nv x) F9;have h2:=agR (nv x) (show 0<nv y by omega);have Gd:=Ds x y hx hy (by omega) lx ly hK;unfold uC at hG;rw[if_neg F9]at hG;refine r0 rfl<|bF rfl Gd rfl<|k0 rfl (by kernel_rfl)<|again (k',y,(NS x y).2) (by dsimp only;omega) ⟨hy,f2,y0,by dsimp only;omega,ly,yF (a:=y) (by dsimp only;omega) ly,by dsimp only;omega,hG⟩ ⟨ab,ab,ab,ao⟩
 have h:¬(nv y).sign≠0:=h;have F9:nv y=0:=ajg.1 (by omega);rw[Nz _ _ _ F9]at hG;rw[<-hG];refine r0 rfl<|bB rfl
end
def OS{a b:Nm}(ha:a8 a)(hb:a8 b)(h0:nv b≠0)(hd:nv b∣nv a){K:Nat}(la:fj a K):fj (Ee a b) K:=by refine yF ?_ la;rw[(yw a b ha hb h0 hd).1];exact Int.natAbs_ediv_le_natAbs _ _
def Zy(n d:Nm):Fr:=if d.w=none/\d.s=1 then⟨n,d⟩else⟨Ee n<|oB n d,Ee d<|oB n d⟩
def Wm(n d:Nm):Fr:=if nv d<0 then Zy (iS n) (iS d)else Zy n d
def rQ(f:Fr)(K:Nat):Prop:=fj f.n K/\fj f.d K
def KT{f:Fr}{K L:Nat}(h:rQ f K)(hl:K<=L):rQ f L:=⟨dw h.1 hl,dw h.2 hl⟩
def JT(n d:Nm)(hn:a8 n)(hd:a8 d)(h0:0<nv d){K:Nat}(ln:fj n K)(ld:fj d K):gT (Zy n d) (Rat.divInt (nv n)<|nv d)/\rQ (Zy n d) K:=by
 have vm:=Rat.num_divInt (nv n)<|nv d;have Bf:=Rat.den_divInt (nv n)<|nv d;rw[agS h0,agv]at vm;rw[if_neg<|by omega]at Bf;unfold Zy;split
 ·rename_i g;have hv:=(iI d hd).2 g.1;rw[g.2]at hv;refine⟨⟨hn,hd,?_,?_⟩,ln,ld⟩
  ·rw[vm,hv];simp
  rw[Bf,hv];simp
 obtain⟨g1,g2,g3⟩:=yP n d hn hd ln ld;have UN:nv (oB n d)≠0:=by have:=Int.gcd_pos_of_ne_zero_right (nv n) (show nv d≠0 by omega);omega
 have hdn:nv (oB n d)∣nv n:=by rw[g1];exact Int.gcd_dvd_left ..
 have hdd:nv (oB n d)∣nv d:=by rw[g1];exact Int.gcd_dvd_right ..
 obtain⟨q1,q2⟩:=yw n (oB n d) hn g2 UN hdn;obtain⟨q3,q4⟩:=yw d (oB n d) hd g2 UN hdd;refine⟨⟨q2,q4,?_,?_⟩,OS hn g2 UN hdn ln,OS hd g2 UN hdd ld⟩
 ·show nv (Ee n<|oB n d)=_;rw[q1,g1,vm,Int.gcd_comm]
 show nv (Ee d<|oB n d)=_;rw[q3,Bf,Int.gcd_comm,aiM]
 congr 1;omega
def Cu(n d:Nm)(hn:a8 n)(hd:a8 d)(h0:nv d≠0){K:Nat}(ln:fj n K)(ld:fj d K):gT (Wm n d) (Rat.divInt (nv n)<|nv d)/\rQ (Wm n d) K:=by
 unfold Wm;split
 ·rename_i g;obtain⟨e1,e2⟩:=dN n hn;obtain⟨e3,e4⟩:=dN d hd;have:=JT (iS n) (iS d) e2 e4 (by omega) (oL hn ln)<|oL hd ld;rw[e1,e3,Rat.neg_divInt_neg]at this;exact this
 exact JT n d hn hd (by omega) ln ld
def MW(n d:Nm)(hn:a8 n)(hd:a8 d)(h0:nv d≠0){K:Nat}(ln:fj n K)(ld:fj d K)(hK:K<2^38):aL Tryz.prog 153 [eN n,eN d] (eF<|Wm n d):=by
 have hs:=yq d hd;have LW:=FI n hn ln (by omega);have BF:=FI d hd ld (by omega);obtain⟨e1,e2⟩:=dN n hn;obtain⟨e3,e4⟩:=dN d hd;refine bE Tryz.func153 rfl<|xr 2 (λ(x y:Nm)=>[(2,.box true<|eN x),(3,.box true<|eN y),(4,.box true<|.agg [.i 0,.nil,.i 0,.nil])]) (λx y=>a8 x/\a8 y/\0<nv y/\fj x K/\fj y K/\Zy x y=Wm n d) ?_ ?_
 ·refine r0 rfl<|bF rfl hs rfl<|r0 rfl<|bH rfl (λh=>?_) (λh=>?_)
  ·have h:(nv d).sign<0:=h;have h:=afX.1 h;refine r0 rfl<|bG rfl LW rfl<|r0 rfl<|bG rfl BF rfl<|k0 rfl (by kernel_rfl)<|meet (iS n,iS d) ⟨e2,e4,by dsimp only;omega,oL hn ln,oL hd ld,by unfold Wm;rw[if_pos h]⟩ ⟨ab,ab,ab,ao⟩
  have h:¬(nv d).sign<0:=h;have h:¬nv d<0:=λg=>h<|afX.2 g;refine r0 rfl<|meet (n,d) ⟨hn,hd,by dsimp only;omega,ln,ld,by unfold Wm;rw[if_neg h]⟩ ⟨ab,ab,ab,ao⟩
 rintro x y⟨hx,hy,y0,lx,ly,hG⟩;rw[<-hG];have wy:=uM hy;have hg:=ZZ x y hx hy lx ly hK;obtain⟨g1,g2,g3⟩:=yP x y hx hy lx ly;have UN:nv (oB x y)≠0:=by rw[g1];have:=Int.gcd_pos_of_ne_zero_right (nv x) (show nv y≠0 by omega);omega
 have q1:=Zu x (oB x y) hx g2 UN lx g3 hK;have q2:=Zu y (oB x y) hy g2 UN ly g3 hK;refine b8 1 [(2,.box true<|eN x),(3,.box true<|eN y),(4,.box true<|.agg [.i 0,.nil,.i 0,.nil])] (¬(y.w=none/\y.s=1)) ?_ λhc=>?_
 ·refine r0 rfl<|aC 16 rfl (λg=>?_) (λg=>?_)
  ·refine r0 rfl<|bH rfl (λh=>?_) (λh=>?_)
   ·have h:y.s=1:=h;unfold Zy;rw[if_pos ⟨wy.1 g,h⟩];refine r0 rfl<|bB rfl
   have h:¬y.s=1:=h;refine r0 rfl<|aP (λq=>h q.2) ⟨ab,ab,ab,ao⟩
  refine r0 rfl<|aP (λq=>g<|wy.2 q.1) ⟨ab,ab,ab,ao⟩
 unfold Zy;rw[if_neg hc];refine r0 rfl<|bF rfl hg rfl<|r0 rfl<|bG rfl q1 rfl<|r0 rfl<|bG rfl q2 rfl<|k0 rfl (by kernel_rfl)<|bB rfl
section
variable{f:Fr}{K L:Nat}{p q:Rat}
def KY(h:gT f q):0<nv f.d:=by rw[h.vd];have:=q.den_pos;omega
def F6(f:Fr)(h:gT f q):aL Tryz.prog 122 [eF f] (.u<|decide (f.d.w=none/\f.d.s=1)):=by
 have wd:=uM h.d;refine bE Tryz.func122 rfl<|r0 rfl<|aC 7 rfl (λg=>?_) (λg=>?_)
 ·refine r0 rfl<|aG rfl<|an.of_eq<|congrArg SV.u ?_;simp_all
 refine r0 rfl<|aG rfl<|(decide_eq_false λh=>g<|wd.2 h.1).symm
def NG(f g:Fr)(hf:gT f p)(hg:gT g q)(lf:rQ f K)(lg:rQ g L)(hK:K+L<2^38):aL Tryz.prog 121 [eF f,eF g] (.i (p.num*q.den-q.num*p.den).sign):=by have m1:=rE f.n g.d hf.n hg.d lf.1 lg.2 (by omega);have m2:=rE g.n f.d hg.n hf.d lg.1 lf.2 (by omega);obtain⟨e1,e2⟩:=cB f.n g.d hf.n hg.d;obtain⟨e3,e4⟩:=cB g.n f.d hg.n hf.d;have hc:=VE _ _ e2 e4 (fV hf.n hg.d lf.1 lg.2) (dw (fV hg.n hf.d lg.1 lf.2)<|by omega) (show K+L<2^39 by omega);rw[e1,e3,hf.vn,hf.vd,hg.vn,hg.vd]at hc;refine bE Tryz.func121 rfl<|r0 rfl<|bG rfl m1 rfl<|r0 rfl<|bG rfl m2 rfl<|bG rfl hc rfl<|k0 rfl (by kernel_rfl)<|bB rfl
def I0(p q:Rat):(p.num*q.den-q.num*p.den).sign=if p<q then -1 else if q<p then 1 else 0:=by
 have h1:=Rat.lt_iff p q;have h2:=Rat.lt_iff q p;split
 ·rename_i h;exact ahO (by have:=h1.1 h;omega)
 split
 ·rename_i h;exact agS (by have:=h2.1 h;omega)
 rename_i g h;have:p.num*q.den-q.num*p.den=0:=by have a:¬(p.num*q.den<q.num*p.den):=λx=>g<|h1.2 x;have b:¬(q.num*p.den<p.num*q.den):=λx=>h<|h2.2 x;omega
 rw[this];rfl
def YC(f g:Fr)(hf:gT f p)(hg:gT g q)(lf:rQ f K)(lg:rQ g L)(hK:K+L<2^38):aL Tryz.prog 165 [eF f,eF g] (.u<|decide (p=q)):=by
 have hc:=NG f g hf hg lf lg hK;have e:=I0 p q;refine bE Tryz.func165 rfl<|r0 rfl<|bF rfl hc rfl<|r0 rfl<|aG rfl<|an.of_eq<|congrArg SV.u ?_;rw[decide_eq_decide,e];constructor
 ·intro h;split at h
  ·omega
  split at h
  ·omega
  rename_i a b;exact Rat.le_antisymm (Rat.not_lt.1 b)<|Rat.not_lt.1 a
 rintro rfl;rw[if_neg<|Rat.lt_irrefl,if_neg<|Rat.lt_irrefl]
def TQ(f g:Fr):Fr:=Wm (jw f.n g.n)<|jw f.d g.d
def tM(f g:Fr)(hf:gT f p)(hg:gT g q)(lf:rQ f K)(lg:rQ g L):gT (TQ f g) (p*q)/\rQ (TQ f g) (K+L):=by obtain⟨e1,e2⟩:=cB f.n g.n hf.n hg.n;obtain⟨e3,e4⟩:=cB f.d g.d hf.d hg.d;have h0:=afV (KY hf)<|KY hg;have:=Cu (jw f.n g.n) (jw f.d g.d) e2 e4 (by omega) (fV hf.n hg.n lf.1 lg.1)<|fV hf.d hg.d lf.2 lg.2;rw[e1,e3,hf.vn,hf.vd,hg.vn,hg.vd,qL]at this;exact this
def C5(f g:Fr)(hf:gT f p)(hg:gT g q)(lf:rQ f K)(lg:rQ g L)(hK:K+L<2^38):aL Tryz.prog 88 [eF f,eF g] (eF<|TQ f g):=by have m1:=rE f.n g.n hf.n hg.n lf.1 lg.1 (by omega);have m2:=rE f.d g.d hf.d hg.d lf.2 lg.2 (by omega);obtain⟨e1,e2⟩:=cB f.n g.n hf.n hg.n;obtain⟨e3,e4⟩:=cB f.d g.d hf.d hg.d;have h0:=afV (KY hf)<|KY hg;have hm:=MW _ _ e2 e4 (by omega) (fV hf.n hg.n lf.1 lg.1) (fV hf.d hg.d lf.2 lg.2) (by omega);refine bE Tryz.func88 rfl<|r0 rfl<|bG rfl m1 rfl<|r0 rfl<|bG rfl m2 rfl<|bG rfl hm rfl<|k0 rfl (by kernel_rfl)<|bB rfl
def abg(f:Fr):Fr:=Wm f.d f.n
def Rr(f:Fr)(hf:gT f p)(h0:p≠0)(lf:rQ f K):gT (abg f) p⁻¹ /\rQ (abg f) K:=by
 have hn:nv f.n≠0:=by rw[hf.vn];simp_all
 have:=Cu f.d f.n hf.d hf.n hn lf.2 lf.1;rw[hf.vn,hf.vd,<-Rat.inv_def]at this;exact this
def acm(f:Fr)(hf:gT f p)(h0:p≠0)(lf:rQ f K)(hK:K<2^38):aL Tryz.prog 154 [eF f] (eF<|abg f):=by
 have hn:nv f.n≠0:=by rw[hf.vn];simp_all
 have hm:=MW f.d f.n hf.d hf.n hn lf.2 lf.1 hK;refine bE Tryz.func154 rfl<|r0 rfl<|bF rfl hm rfl<|r0 rfl<|bB rfl
def XU(f:Fr):Prop:=f.d.w=none/\f.d.s=1
instance(f:Fr):Decidable (XU f):=by unfold XU;infer_instance
def O5(hf:gT f p)(h:XU f):p.den=1:=by have:=(iI f.d hf.d).2 h.1;rw[h.2,hf.vd]at this;omega
def Ol(f g:Fr):Fr:=if XU f/\XU g then⟨xW f.n g.n,⟨1,none⟩⟩else Wm (xW (jw f.n g.d)<|jw g.n f.d) (jw f.d g.d)
def Sh(f g:Fr)(hf:gT f p)(hg:gT g q)(lf:rQ f K)(lg:rQ g L):gT (Ol f g) (p+q)/\rQ (Ol f g) (K+L+1):=by
 unfold Ol;split
 ·rename_i h;obtain⟨e1,e2⟩:=kv f.n g.n hf.n hg.n;have d1:=O5 hf h.1;have d2:=O5 hg h.2;have hs:=ow p q;rw[d1,d2]at hs;have hn:=Rat.num_divInt (p.num*(1:Nat)+q.num*(1:Nat))<|((1:Nat):Int)*((1:Nat):Int);have hd:=Rat.den_divInt (p.num*(1:Nat)+q.num*(1:Nat))<|((1:Nat):Int)*((1:Nat):Int);rw[hs]at hn hd;refine⟨⟨e2,Hq,?_,?_⟩,?_,?_⟩
  ·show nv (xW f.n g.n)=_;rw[e1,hf.vn,hg.vn,hn];simp
  ·show(1:Int)=_;rw[hd];simp
  ·exact dw (ID hf.n hg.n (dw lf.1<|show K<=K+L by omega)<|dw lg.1<|show L<=K+L by omega) (by omega)
  exact ZC (by omega)
 obtain⟨e1,e2⟩:=cB f.n g.d hf.n hg.d;obtain⟨e3,e4⟩:=cB g.n f.d hg.n hf.d;obtain⟨e5,e6⟩:=cB f.d g.d hf.d hg.d;obtain⟨e7,e8⟩:=kv _ _ e2 e4;have h0:=afV (KY hf)<|KY hg;have:=Cu _ _ e8 e6 (by omega) (ID e2 e4 (fV hf.n hg.d lf.1 lg.2)<|dw (fV hg.n hf.d lg.1 lf.2)<|show L+K<=K+L by omega)<|dw (fV hf.d hg.d lf.2 lg.2)<|ag9 _;rw[e7,e1,e3,e5,hf.vn,hf.vd,hg.vn,hg.vd,ow]at this;exact this
def acp(f g:Fr)(hf:gT f p)(hg:gT g q)(lf:rQ f K)(lg:rQ g L)(hK:K+L<2^37):aL Tryz.prog 233 [eF f,eF g] (eF<|Ol f g):=by
 have w1:=F6 f hf;have w2:=F6 g hg;have a1:=Qg f.n g.n hf.n hg.n (dw lf.1<|show K<=K+L by omega) (dw lg.1<|show L<=K+L by omega) (by omega);have m1:=rE f.n g.d hf.n hg.d lf.1 lg.2 (by omega);have m2:=rE g.n f.d hg.n hf.d lg.1 lf.2 (by omega);have m3:=rE f.d g.d hf.d hg.d lf.2 lg.2 (by omega);obtain⟨e1,e2⟩:=cB f.n g.d hf.n hg.d;obtain⟨e3,e4⟩:=cB g.n f.d hg.n hf.d;obtain⟨e5,e6⟩:=cB f.d g.d hf.d hg.d;obtain⟨e7,e8⟩:=kv _ _ e2 e4;have h0:=afV (KY hf)<|KY hg;have a2:=Qg _ _ e2 e4 (fV hf.n hg.d lf.1 lg.2) (dw (fV hg.n hf.d lg.1 lf.2)<|show L+K<=K+L by omega) (by omega);have mk:=MW _ _ e8 e6 (by omega) (ID e2 e4 (fV hf.n hg.d lf.1 lg.2)<|dw (fV hg.n hf.d lg.1 lf.2)<|show L+K<=K+L by omega) (dw (fV hf.d hg.d lf.2 lg.2)<|ag9 _) (by omega);refine bE Tryz.func233 rfl<|b8 2 [(2,.box true<|eF f),(3,.box true<|eF g),(4,.box true<|.agg [.i 0,.nil,.i 0,.nil])] (¬(XU f/\XU g)) ?_ λhc=>?_
 ·refine r0 rfl<|bF rfl w1 rfl<|r0 rfl<|aC 7 rfl (λh1=>?_) (λh1=>?_)
  ·refine r0 rfl<|bF rfl w2 rfl<|r0 rfl<|bH rfl (λh2=>?_) (λh2=>?_)
   ·have hw:XU f/\XU g:=⟨h1,h2⟩;unfold Ol;rw[if_pos hw];refine r0 rfl<|bF rfl a1 rfl<|r0 rfl<|bF rfl (GM _) rfl<|r0 rfl<|bB rfl
   refine r0 rfl<|aP (λh=>h2 h.2) ⟨ab,ab,ab,ao⟩
  refine r0 rfl<|aP (λh=>h1 h.1) ⟨ab,ab,ab,ao⟩
 unfold Ol;rw[if_neg hc];refine r0 rfl<|bG rfl m1 rfl<|r0 rfl<|bG rfl m2 rfl<|r0 rfl<|bG rfl a2 rfl<|r0 rfl<|bG rfl m3 rfl<|r0 rfl<|bG rfl mk rfl<|k0 rfl (by kernel_rfl)<|bB rfl
end
end Go.Ai.cY
namespace Go.Ai.Pg
open Go.Proofs Go.Ai Go.Ai.cY
def find_congr{α:Type}{p q:α->Bool}:∀{l:List α},(∀x∈l,p x=q x)->l.find? p=l.find? q
 |[],_=>rfl
 |x::l,h=>by rw[List.find?_cons,List.find?_cons,h x<|by simp,find_congr λy hy=>h y<|by simp[hy]]
def C8:∀(s:bK)(n:Nat),(List.range' n s.length).find? (λi=>(s.getD (i-n) 0)==47)=if ar s<s.length then some (n+ar s)else none
 |[],n=>by simp
 |c::t,n=>by
  rw[acU,List.range'_succ,List.find?_cons];simp only[agM,ajv,ar];by_cases h:c=47
  ·simp[h]
  have hb:(c==47)=false:=by simpa using h
  simp only[hb,h,if_false];have e:(List.range' (n+1) t.length).find? (λi=>((c::t).getD (i-n) 0)==47)=(List.range' (n+1) t.length).find? (λi=>(t.getD (i-(n+1)) 0)==47):=by refine find_congr ?_;intro i hi;have:=(ai5.1 hi).1;rw[show i-n=(i-(n+1))+1 by omega,ajo]
  rw[e,C8 t<|n+1];by_cases g:ar t<t.length
  ·rw[if_pos g,if_pos<|by omega];congr 1;omega
  rw[if_neg g,if_neg<|by omega]
def S3(s:bK):Int:=if ar s<s.length then ar s else -1
def C7(s:bK):firstIdx (bs s) 47=S3 s:=by
 unfold firstIdx S3;have e:(List.range (bs s).size).find? (λi=>(bs s)[i]! ==47)=(List.range' 0 s.length).find? (λi=>(s.getD (i-0) 0)==47):=by
  have cM:(bs s).size=s.length:=rfl;rw[List.range_eq_range'];refine find_congr ?_;intro i hi;have aZ:i<s.length:=by have:=(ai5.1 hi).2;omega
  have:(bs s)[i]! =s.getD i 0:=by have h2:=aZ;rw[getElem!_pos (bs s) i h2,aw aZ];rfl
  rw[this];rfl
 rw[e,C8 s 0];split
 ·rename_i i hi;split at hi
  ·simp only[abr]at hi;rw[if_pos<|by assumption,<-hi];simp
  cases hi
 rename_i hi;split at hi
 ·cases hi
 rw[if_neg<|by assumption]
def CR(s:bK):aL Tryz.prog 283 [.s s,.n .u8 47] (.i<|S3 s):=by
 intro w S vs _ hS hc;obtain⟨y,l',F1,F2,rfl,hF,_,hr,y2,l2,F3,F4,rfl,ZY,_,sc,rfl,rfl⟩:=hc;obtain⟨_,rfl,rfl⟩:=hr;obtain⟨_,rfl,rfl⟩:=sc;have bL:(callFunc 283 #[.string (bs s),.int .u8 47]).run Tryz.prog w=.ok (.value<|.int .i64<|S3 s) w:=by refine(run_callFunc_indexByte (fn:=Tryz.f283) Tryz.func283 (by kernel_rfl) (by kernel_rfl) (by kernel_rfl) (by kernel_rfl) _ w).trans ?_;rw[run_indexByte_string];simp only[Result.andThen];have:(47:Int).toNat.toUInt8=47:=rfl;rw[this,C7]
 intro rd o a next Q hK
 rw[bL];exact hK _ _ ⟨S,[],Go.RowKit.Below.refl _ _,λ_ h=>h,λ_ h=>.inl h,hS,by simp[SV.den,Rel,scalar],adn,by simp⟩
def abi(s:bK):aL Tryz.prog 261 [.s s,.n .u8 47] (.i<|S3 s):=by refine bE Tryz.func261 rfl<|r0 rfl<|bF rfl (CR s) rfl<|r0 rfl<|bB rfl
def XW(s:bK):aL Tryz.prog 234 [.s s,.s [47]] (.i<|S3 s):=by
 refine bE Tryz.func234 rfl<|r0 rfl<|aC 19 rfl (λh=>absurd h<|by decide) λ_=>?_;refine r0 rfl<|bH rfl (λh=>?_) (λ_=>?_)
 ·have h:=h;subst h;refine r0 rfl<|bB rfl
 refine r0 rfl<|bH rfl (λ_=>?_) λh=>absurd rfl h;refine r1 rfl (by simp[ag]<;>decide) ?_;refine bF rfl (abi s) rfl<|r0 rfl<|bB rfl
def F7{s:bK}(h:isNeg s=true):1<=s.length/\bm s=s.drop 1:=by unfold bm;rw[if_pos h];unfold isNeg at h;simp at h;exact⟨h.1,rfl⟩
def SZ{s:bK}:0<=S3 s↔ar s<s.length:=by unfold S3;split<;>omega
def acv(s:bK)(hl:s.length<2^60):aL Tryz.prog 186 [.s s,.s [47]] (.bX [.s<|s.take<|ar s,.s<|s.drop<|ar s+1,.u<|decide (ar s<s.length)]):=by
 refine bE Tryz.func186 rfl<|r0 rfl<|bF rfl (XW s) rfl<|r0 rfl<|bH rfl (λh=>?_) (λh=>?_)
 ·have h1:=SZ.1 h;have e:S3 s=ar s:=by unfold S3;rw[if_pos h1]
  rw[e];refine k1 rfl (by kernel_rfl) (by simp[ag,acY]<;>omega) ?_;refine aG rfl ⟨an.of_eq<|congrArg SV.s ?_,an.of_eq<|congrArg SV.s ?_,(decide_eq_true h1).symm,ao⟩
  ·simp
  have e2:((ar s:Int)+(([47]:bK).length:Nat)).toNat=ar s+1:=by simp
  rw[e2,acR .refl]
 have h1:¬ar s<s.length:=λg=>h<|SZ.2 g;refine r0 rfl<|aG rfl ⟨an.of_eq<|congrArg SV.s ?_,an.of_eq<|congrArg SV.s ?_,(decide_eq_false h1).symm,ao⟩
 ·rw[acR<|by omega]
 rw[ad3<|by omega]
def aaa(s:bK)(hl:s.length<2^60):aL Tryz.prog 105 [.s s,.s [47]] (.bX [.s<|s.take<|ar s,.s<|s.drop<|ar s+1,.u<|decide (ar s<s.length)]):=by refine bE Tryz.func105 rfl<|r0 rfl<|bF rfl (acv s hl) rfl<|r0 rfl<|bB rfl
def Cf(s:bK)(hl:s.length<2^60):aL Tryz.prog 235 [.s s,.s [45]] (.u<|isNeg s):=by
 refine bE Tryz.func235 rfl<|r0 rfl<|aC 10 rfl (λh=>?_) (λh=>?_)
 ·have h:1<=s.length:=by have h:((1:Nat):Int)<=s.length:=h;omega
  refine r1 rfl (by simp[ag,acY]<;>omega) ?_;refine aG rfl<|an.of_eq<|congrArg SV.u ?_
  match s,h with
  |c::t,_=>unfold isNeg;simp[true_and];exact⟨λh=>by rw[h];rfl,λh=>ahH.1 h⟩
 have h:¬((1:Nat):Int)<=s.length:=h;refine r0 rfl<|aG rfl<|(decide_eq_false λhh=>h<|by omega).symm
def YQ(s:bK)(hl:s.length<2^60):aL Tryz.prog 187 [.s s,.s [45]] (.bX [.s<|bm s,.u<|isNeg s]):=by
 refine bE Tryz.func187 rfl<|r0 rfl<|bF rfl (Cf s hl) rfl<|r0 rfl<|nB rfl rfl rfl (λh=>?_) (λh=>?_)
 ·have hn:isNeg s=false:=by simpa using h
  refine r0 rfl<|aG rfl ⟨an.of_eq<|congrArg SV.s ?_,hn.symm,ao⟩;unfold bm;rw[hn];rfl
 have hn:isNeg s=true:=by simpa using h
 obtain⟨g1,g2⟩:=F7 hn;refine r1 rfl (by simp[ag]<;>omega) ?_;refine aG rfl ⟨an.of_eq<|congrArg SV.s ?_,hn.symm,ao⟩;rw[g2];show(s.take s.length).drop 1=_;rw[acR .refl]
def acw(s:bK)(hl:s.length<2^60):aL Tryz.prog 106 [.s s,.s [45]] (.bX [.s<|bm s,.u<|isNeg s]):=by refine bE Tryz.func106 rfl<|r0 rfl<|bF rfl (YQ s hl) rfl<|r0 rfl<|bB rfl
def ab7(s:bK)(hl:s.length<2^60):aL Tryz.prog 191 [.s s,.s [45]] (.u<|isNeg s):=by refine bE Tryz.func191 rfl<|r0 rfl<|bF rfl (Cf s hl) rfl<|r0 rfl<|bB rfl
def SI(s:bK)(hl:s.length<2^60):aL Tryz.prog 236 [.s s,.s [45]] (.s<|bm s):=by
 refine bE Tryz.func236 rfl<|r0 rfl<|bF rfl (Cf s hl) rfl<|nB rfl rfl rfl (λh=>?_) (λh=>?_)
 ·obtain⟨g1,g2⟩:=F7 h;refine r1 rfl (by simp[ag]<;>omega) ?_;refine aG rfl<|an.of_eq<|congrArg SV.s ?_;rw[g2];show(s.take s.length).drop 1=_;rw[acR .refl]
 refine r0 rfl<|aG rfl<|an.of_eq<|congrArg SV.s ?_;unfold bm;rw[h];rfl
def WQ(s:bK)(hl:s.length<2^60):aL Tryz.prog 192 [.s s,.s [45]] (.s<|bm s):=by refine bE Tryz.func192 rfl<|r0 rfl<|bF rfl (SI s hl) rfl<|r0 rfl<|bB rfl
def Lj(s:bK):Bool:=lZ s&& !decide (s=[])
def YM(s:bK)(hl:s.length<2^60):aL Tryz.prog 188 [.s s] (.u<|Lj s):=by
 refine bE Tryz.func188 rfl<|r0 rfl<|loop (λi:Nat=>[(0,.s s),(5,.i s.length),(6,.i i)]) (λi=>i<=s.length/\∀k,k<i->48<=(s.getD k 0).toNat/\(s.getD k 0).toNat<=57) (λi=>s.length-i) 0 ⟨abC _,λk h=>by omega⟩ ⟨ab,ab,ab,ao⟩ ?_;rintro i⟨hi,hb⟩;refine r0 rfl<|bH rfl (λh=>?_) (λh=>?_)
 ·have aZ:i<s.length:=by omega
  have ei:(i:Int).toNat=i:=by omega
  have bad:¬(48<=(s.getD i 0).toNat/\(s.getD i 0).toNat<=57)->false=Lj s:=by
   intro hn;symm;unfold Lj;rw[Bool.and_eq_false_iff];left;rw[Bool.eq_false_iff];intro ht;have:=my.1 ht s[i]<|ab9 aZ;have e:s.getD i 0=s[i]:=by simp[aca,acL aZ]
   rw[<-e]at this;exact hn this
  refine r1 rfl (by simp[ag,and_true,ei];omega) ?_;refine aC 13 rfl (λh1=>?_) (λh1=>?_)
  ·rw[ei]at h1;refine r0 rfl<|aG rfl<|bad<|by omega
  rw[ei]at h1;refine r1 rfl (by simp[ag,and_true,ei];omega) ?_;refine bH rfl (λh2=>?_) (λh2=>?_)
  ·rw[ei]at h2;refine r0 rfl<|aG rfl<|bad<|by omega
  rw[ei]at h2;refine r1 rfl (by simp[ag,and_true];omega) ?_;refine again (i+1) (by omega) ⟨by omega,λk hk=>?_⟩ ⟨ab,ab,ab,ao⟩;rcases ac1 k i with g|g
  ·exact hb k g
  rw[show k=i by omega];omega
 have jj:lZ s=true:=by
  rw[my];intro c hc;obtain⟨k,hk,rfl⟩:=ag3 hc;have e:s.getD k 0=s[k]:=by simp[aca,acL hk]
  rw[<-e];exact hb k (by omega)
 refine r0 rfl<|aG rfl<|an.of_eq<|congrArg SV.u ?_;unfold Lj;rw[jj,adx];exact decide_not
def Mb(s:bK)(hl:s.length<2^60):aL Tryz.prog 107 [.s s] (.u<|fD s):=by
 refine bE Tryz.func107 rfl<|r0 rfl<|bF rfl (YM s hl) rfl<|r0 rfl<|iF 5 rfl (λh=>?_) (λh=>?_)
 ·have h:Lj s=true:=h;unfold Lj at h;simp[acd,agq,decide_eq_false_iff_not]at h;have hp:=ag4.2 h.2;refine r0 rfl<|aC 8 rfl (λg=>?_) (λg=>?_)
  ·have g:s=[48]:=g;subst g;refine r0 rfl<|aG rfl (show true=fD [48] by decide)
  have g:¬s=[48]:=g;refine r1 rfl (by simp[ag,and_true]<;>omega) ?_;refine aG rfl<|an.of_eq<|congrArg SV.u ?_;unfold fD;rw[if_neg<|by omega,h.1];by_cases k:(s.getD 0 0).toNat=48
  ·have h1:1<s.length:=by
    match s,hp with
    |[c],_=>exact absurd (congrArg (λx=>[x])<|ahH.1<|show c.toNat=(48:UInt8).toNat by simpa using k) g
    |_::_::_,_=>simp
   rw[if_pos ⟨h1,k⟩];exact decide_eq_false λhh=>hh (by show((s.getD (Int.toNat 0) 0).toNat:Int)=48;have:Int.toNat 0=0:=rfl;rw[this];omega)
  rw[if_neg λhh=>k hh.2];exact decide_eq_true λhh=>k (by have hh:((s.getD (Int.toNat 0) 0).toNat:Int)=48:=hh;have:Int.toNat 0=0:=rfl;rw[this]at hh;omega)
 have h:Lj s=false:=h;refine r0 rfl<|aG rfl ?_;unfold Lj at h;unfold fD;rw[Bool.and_eq_false_iff]at h;rcases h with h|h
 ·rw[h];split;rfl;split<;>rfl
 simp[Bool.not_eq_false',decide_eq_true_eq]at h;subst h;rfl
def Ze(s:bK)(hs:db s)(h0:0<s.length)(hl:s.length<=18):aL Tryz.prog 237 [.s s] (.bX [.i<|ct s,.c .nilIface]):=by
 refine bE Tryz.func237 rfl<|r0 rfl<|aC 25 rfl (λ_=>?_) λh=>absurd (show(0:Int)<s.length by omega) h;refine r0 rfl<|bH rfl (λ_=>?_) λh=>absurd (show(s.length:Int)<19 by omega) h;have CZ:48<=(s.getD 0 0).toNat/\(s.getD 0 0).toNat<=57:=by
  have hm:s.getD 0 0∈s:=by simp[aca,acL h0]
  exact hs _ hm
 have e0:(0:Int).toNat=0:=rfl;refine r1 rfl (by simp[ag,and_true]<;>omega) ?_;refine aC 35 rfl (λh=>absurd h<|by rw[e0];omega) λ_=>?_;refine r1 rfl (by simp[ag,and_true]<;>omega) ?_;refine bH rfl (λh=>absurd h<|by rw[e0];omega) λ_=>?_;refine r0 rfl<|ex rfl rfl rfl (N4 s rfl rfl rfl rfl) rfl<|r0 rfl ?_;have KG:(s.map λc=>(c.toNat:Int)).length=s.length:=by simp
 refine loop (λi:Nat=>[(5,.s s),(6,.i<|ct<|s.take i),(47,.ints .u8 false<|s.map λc=>(c.toNat:Int)),(48,.i s.length),(49,.i i)]) (λi=>i<=s.length) (λi=>s.length-i) 0 (by omega) ⟨ab,ab,ab,⟨rfl,an.of_eq<|congrArg SV.i<|by rw[KG]⟩,ab,ao⟩ ?_;intro i hi;refine r0 rfl<|bH rfl (λh=>?_) (λh=>?_)
 ·have aZ:i<s.length:=by omega
  have ei:(i:Int).toNat=i:=by omega
  have hc:(s.map λc=>(c.toNat:Int)).getD i 0=(s[i].toNat:Int):=by rw[aw<|by omega];simp
  have hd:=hs s[i]<|ab9 aZ;have hv:=lT (s:=s.take i) λc hc=>hs c<|af5 hc;have hp:10^(s.take i).length<=10^17:=adD (by decide) (by simp;omega);refine r1 rfl (by simp[ag,and_true,ei,hc,KG];omega) ?_;have hw:IntKind.u8.wrap ((s[i].toNat:Int)-48)=(s[i].toNat:Int)-48:=by have e:IntKind.u8.wrap ((s[i].toNat:Int)-48)=((s[i].toNat:Int)-48)%256:=rfl;rw[e];omega
  refine bH rfl (λh=>absurd h<|by rw[ei,hc,hw];omega) λ_=>?_;refine r1 rfl (by simp only[ag,and_true,ei,hc,hw];omega) ?_;refine again (i+1) (by omega) (by omega) ⟨ab,⟨rfl,bC ?_⟩,ab,ab,ab,ao⟩;rw[ei,hc,hw,ac6 aZ,aaj];omega
 have:i=s.length:=by omega
 subst this;refine r1 rfl (by simp[ag,and_true]<;>omega) ?_;refine bH rfl (λh=>absurd h<|by rw[e0];omega) λ_=>?_;refine r0 rfl<|aG rfl ⟨bC ?_,rfl,ao⟩;rw[acR<|abZ _]
def VV(s:bK)(hs:db s)(h0:0<s.length)(hl:s.length<=18):aL Tryz.prog 193 [.s s] (.bX [.i<|ct s,.c .nilIface]):=by refine bE Tryz.func193 rfl<|r0 rfl<|bF rfl (Ze s hs h0 hl) rfl<|r0 rfl<|ex rfl rfl rfl (XB rfl rfl) rfl<|r0 rfl<|bB rfl
section
variable{a:Nm}{s t:bK}
def BA{L:Nat}(h:(nv a).natAbs<10^L):fj a L:=by
 unfold fj;rcases adp (nv a).natAbs with h0|h0
 ·rw[h0,cY.cD];simp
 have h1:=PO h0;have h2:(10:Nat)^L<=18446744073709551616^L:=ajm (by decide) L;have h3:=agF h1<|adv h h2;have h4:=(Nat.pow_lt_pow_iff_right<|by decide).1 h3;omega
def aep{R:Option Nat->Prop}{N:Nat}{F:St->Prop}{k:List It}{l:aV}{c:Code}(l':List (Nat×SV))(hf:uK l l')(h:AK R Tryz.prog N F (.code c::k) (sl l')):AK R Tryz.prog N F (.code c::k) l:=zw hf h
def TX(a b:Nat):sN true (a:Int) (b:Int)=((min a b:Nat):Int):=by simp[sN];omega
def rdStep(t:bK)(a:Nm):Nm:=xW (jw a<|yx ⟨10,none⟩<|min 18 t.length) ⟨ct<|t.take 18,none⟩
def Ca:Nat->bK->Nm->Nm
 |0,_,a=>a
 |k+1,t,a=>if t.length=0 then a else Ca k (t.drop 18) (rdStep t a)
def kb(s:bK):Nm:=if isNeg s then iS (Ca (bm s).length (bm s) ⟨0,none⟩)else Ca (bm s).length (bm s) ⟨0,none⟩
def Md:a8 ⟨10,none⟩:=show(-9223372036854775808:Int)<=10/\(10:Int)<=9223372036854775807 by decide
def Oy:a8 ⟨0,none⟩:=show(-9223372036854775808:Int)<=0/\(0:Int)<=9223372036854775807 by decide
def Jb{n:Nat}(h:n<10^18):a8 ⟨n,none⟩:=show(-9223372036854775808:Int)<=n/\(n:Int)<=9223372036854775807 by omega
def yj(h:db t):ct (t.take 18)<10^18:=by have h1:=lT (s:=t.take 18) λc hc=>h c<|af5 hc;exact adv h1<|adD (by decide)<|by simp;omega
def Af(h:db t)(ha:a8 a):nv (rdStep t a)=nv a*10^min 18 t.length+ct (t.take 18)/\a8 (rdStep t a):=by obtain⟨p1,p2⟩:=pC ⟨10,none⟩ (min 18 t.length) Md;obtain⟨m1,m2⟩:=cB a (yx ⟨10,none⟩<|min 18 t.length) ha p2;obtain⟨s1,s2⟩:=kv _ ⟨ct<|t.take 18,none⟩ m2<|Jb<|yj h;refine⟨?_,s2⟩;unfold rdStep;rw[s1,m1,p1];rfl
def AU(h:db t)(n:Nat):db (t.drop n):=λc hc=>h c<|afT hc
def Ft:∀(k:Nat)(t:bK)(a:Nm),db t->t.length<=k->a8 a->nv (Ca k t a)=nv a*10^t.length+ct t/\a8 (Ca k t a)
 |0,t,a,h,hk,ha=>by have:t=[]:=aiP (by omega);subst this;refine⟨?_,ha⟩;show nv a=nv a*10^0+((ct []:Nat):Int);have:ct []=0:=rfl;rw[this];simp
 |k+1,t,a,h,hk,ha=>by
  rw[Ca];split
  ·rename_i h0;have:=aiP h0;subst this;refine⟨?_,ha⟩;have:ct []=0:=rfl;rw[this];simp
  obtain⟨e1,e2⟩:=Af h ha;obtain⟨g1,g2⟩:=Ft k (t.drop 18) (rdStep t a) (AU h 18) (by simp;omega) e2;have hs:=sJ (t.take 18)<|t.drop 18;rw[ahg]at hs;rw[hs];have hl:min 18 t.length+(t.drop 18).length=t.length:=by simp;omega
  grind
def nO(h:db (bm s)):nv (kb s)=CM s/\a8 (kb s):=by
 obtain⟨e1,e2⟩:=Ft (bm s).length (bm s) ⟨0,none⟩ h .refl Oy;have e1:nv (Ca (bm s).length (bm s) ⟨0,none⟩)=ct (bm s):=by rw[e1];show(0:Int)*_+_=_;rw[Int.zero_mul,Int.zero_add]
 unfold kb CM;by_cases g:isNeg s=true
 ·rw[if_pos g,g];obtain⟨n1,n2⟩:=dN _ e2;exact⟨by rw[n1,e1];rfl,n2⟩
 have g:isNeg s=false:=by simpa using g
 rw[g];exact⟨e1,e2⟩
def wh(h:db (bm s)):fj (kb s) (bm s).length:=by
 refine BA ?_;rw[(nO h).1];have:=lT h;unfold CM;cases isNeg s
 ·show((ct (bm s):Nat):Int).natAbs<_;simpa using this
 show(-((ct (bm s):Nat):Int)).natAbs<_;simpa using this
def B8(s:bK)(h:db (bm s))(hl:s.length<2^20):aL Tryz.prog 109 [.s s] (eN<|kb s):=by
 have KG:=xJ s;refine bE Tryz.func109 rfl<|r0 rfl<|bF rfl (ab7 s<|by omega) rfl<|r0 rfl<|bF rfl (WQ s<|by omega) rfl<|r0 rfl<|aep [(0,.s<|bm s),(2,.box true<|.agg [.i 0,.nil]),(3,.u<|isNeg s),(4,.box true<|eN ⟨0,none⟩)] ⟨.inl ⟨rfl,rfl,uJ.of_le<|tp.refl _⟩,.inl ⟨rfl,rfl,uJ.of_le<|tp.refl _⟩,.inl ⟨rfl,rfl,uJ.of_le<|tp.refl _⟩,.inl ⟨rfl,rfl,uJ.of_le<|tp.refl _⟩,ao⟩<|kh (λ(t:bK)(a:Nm)=>[(0,.s t),(2,.box true<|.agg [.i 0,.nil]),(3,.u<|isNeg s),(4,.box true<|eN a)])
  (λt a=>db t/\a8 a/\(∃m,Ca m t a=Ca (bm s).length (bm s) ⟨0,none⟩/\t.length<=m)/\t.length<=(bm s).length/\nv a*10^t.length+ct t=ct (bm s)/\0<=nv a) (λt _=>t.length) (bm s) ⟨0,none⟩ ?_ ?_ ?_
 ·exact⟨h,Oy,⟨_,rfl,abZ _⟩,abZ _,by show(0:Int)*_+_=_;rw[Int.zero_mul,Int.zero_add],adq 0⟩
 ·exact⟨ab,ab,ab,ab,ao⟩
 rintro t a⟨h1,h2,⟨m,h3,h4⟩,h5,h6,h7⟩;have ha:fj a (bm s).length:=by
  refine BA ?_;have hv:=lT h;have hp:(1:Int)<=10^t.length:=by have:0<10^t.length:=aef (show 0<10 by decide);exact_mod_cast this
  have hm:nv a<=nv a*10^t.length:=by have:=aec hp h7;rwa[agB]at this
  have hc:(ct (bm s):Int)<((10^(bm s).length:Nat):Int):=by exact_mod_cast hv
  generalize (10^(bm s).length:Nat)=X at hc⊢;omega
 refine r0 rfl<|bH rfl (λg=>?_) (λg=>?_)
 ·have g:0<t.length:=by omega
  have em:((min 18 t.length:Nat):Int)=min 18 (t.length:Int):=by omega
  have et:t.take (min 18 t.length)=t.take 18:=by
   rcases Nat.le_total 18 t.length with k|k
   ·rw[ae0 k]
   rw[Nat.min_eq_right k,acR<|abZ _,acR k]
  have e5:=TX 18 t.length;have e6:(((min 18 t.length:Nat):Int)).toNat=min 18 t.length:=by omega
  refine r1 rfl ?_ ?_
  ·have e5:sN true 18 (t.length:Int)=((min 18 t.length:Nat):Int):=e5;simp[ag,and_true,e5];omega
  have eS:List.drop 0 (List.take (sN true 18 (t.length:Int)).toNat t)=t.take 18:=by have e5:sN true 18 (t.length:Int)=((min 18 t.length:Nat):Int):=e5;rw[e5,e6,et,aeP]
  refine Il (us:=[.s<|t.take 18]) rfl rfl ao ⟨congrArg SV.s eS,ao⟩ (VV (t.take 18) (λc hc=>h1 c<|af5 hc) (by simp;omega)<|by simp;omega) rfl ?_;refine r0 rfl<|bG rfl (JK 10) rfl<|r0 rfl ?_;have aiz:fj ⟨10,none⟩ 1:=gJ (m:=10) (by decide);obtain⟨p1,p2⟩:=pC ⟨10,none⟩ (min 18 t.length) Md;refine dk (us:=[eN ⟨10,none⟩,.i ((min 18 t.length:Nat):Int)]) rfl rfl ao ⟨an.refl _,congrArg SV.i e5,ao⟩ (Tw ⟨10,none⟩ (min 18 t.length) Md aiz (by omega)<|by omega) rfl<|r0 rfl ?_;have Rz:fj (yx ⟨10,none⟩<|min 18 t.length) 19:=by refine BA ?_;rw[p1];have:nv ⟨10,none⟩=10:=rfl;rw[this,Int.natAbs_pow];exact Nat.pow_lt_pow_right (by decide) (by omega)
  refine bG rfl (rE a _ h2 p2 ha Rz<|by omega) rfl<|r0 rfl<|bG rfl (JK _) rfl<|r0 rfl ?_;obtain⟨m1,m2⟩:=cB a _ h2 p2;have mn:=fV h2 p2 ha Rz;have hns:fj ⟨ct<|t.take 18,none⟩ 18:=BA (by show((ct (t.take 18):Nat):Int).natAbs<_;have:=yj h1;omega);refine bG rfl (Qg _ _ m2 (Jb<|yj h1) mn (dw hns<|by omega)<|by omega) rfl ?_;obtain⟨q1,q2⟩:=Af h1 h2;have e5':(sN true 18 (t.length:Int)).toNat=min 18 t.length:=by have e5:sN true 18 (t.length:Int)=((min 18 t.length:Nat):Int):=e5;rw[e5,e6]
  have ed:(t.take t.length).drop (sN true 18 (t.length:Int)).toNat=t.drop 18:=by
   rw[acR<|abZ _,e5'];rcases Nat.le_total 18 t.length with k|k
   ·rw[ae0 k]
   rw[Nat.min_eq_right k,ad3<|abZ _,ad3 k]
  refine k1 rfl (by kernel_rfl) ?_ ?_
  ·have e5:sN true 18 (t.length:Int)=((min 18 t.length:Nat):Int):=e5;simp[ag,and_true,e5];omega
  refine again (t.drop 18,rdStep t a) (by dsimp only;rw[afa];omega) ⟨AU h1 18,q2,?_,by dsimp only;rw[afa];omega,?_,?_⟩ ⟨⟨rfl,an.of_eq<|congrArg SV.s ed⟩,ab,ab,ab,ao⟩
  ·match m,h3,h4 with
   |0,_,h4=>omega
   |m+1,h3,h4=>refine⟨m,?_,by dsimp only;rw[afa];omega⟩;rw[Ca,if_neg<|by omega]at h3;exact h3
  ·dsimp only;rw[q1,<-h6];have hs:=sJ (t.take 18)<|t.drop 18;rw[ahg]at hs;rw[hs];have II:min 18 t.length+(t.drop 18).length=t.length:=by simp;omega
   have:(10:Int)^t.length=10^min 18 t.length*10^(t.drop 18).length:=by rw[<-afq,II]
   rw[this]
   push_cast
   grind
  dsimp only;rw[q1];have:(0:Int)<=nv a*10^min 18 t.length:=adT h7<|ads<|Int.pow_pos<|by decide
  omega
 have ht:t=[]:=aiP (by omega);subst ht;have Ep:a=Ca (bm s).length (bm s) ⟨0,none⟩:=by rw[<-h3];cases m<;>rfl
 refine r0 rfl<|nB rfl rfl rfl (λg2=>?_) (λg2=>?_)
 ·refine r0 rfl<|bF rfl (FI a h2 ha<|by omega) rfl<|r0 rfl<|aG rfl<|an.of_eq ?_;unfold kb;rw[if_pos g2,<-Ep];rfl
 refine r0 rfl<|aG rfl<|an.of_eq ?_;unfold kb;rw[if_neg<|by rw[g2];simp,<-Ep];rfl
end
def tQ(l:List Int)(hl:l.length<2^60):aL Tryz.prog 155 [.ints .i64 false l] (.i<|aK id l):=by
 refine bE Tryz.func155 rfl<|r0 rfl<|loop (λi:Nat=>[(5,.ints .i64 false l),(6,.i l.length),(7,.i i)]) (λi=>i<=l.length/\aK id l=aK id (l.drop i)) (λi=>l.length-i) 0 ⟨abC _,rfl⟩ ⟨ab,ab,ab,ao⟩ ?_;rintro i⟨hi,hf⟩;refine r0 rfl<|bH rfl (λh=>?_) (λh=>?_)
 ·have aZ:i<l.length:=by omega
  have ei:(i:Int).toNat=i:=by omega
  rw[dp _ aZ]at hf;refine r1 rfl (by simp[ag,ei];omega) ?_;refine bH rfl (λh2=>?_) (λh2=>?_)
  ·rw[ei,aw aZ]at h2;refine r0 rfl<|aG rfl<|bC ?_;rw[ei,aw aZ,hf];simp_all
  rw[ei,aw aZ]at h2;refine r1 rfl (by simp[ag];omega) ?_;refine again (i+1) (by omega) ⟨by omega,?_⟩ ⟨ab,ab,ab,ao⟩;rw[hf];simp_all
 refine r0 rfl<|aG rfl<|bC ?_;rw[hf,ad3<|by omega];rfl
def nD(b:Bool)(e:Int):aL Tryz.prog 156 [.u b,.i e] (.i<|if b then e else 0):=by
 refine bE Tryz.func156 rfl<|r0 rfl<|nB rfl rfl rfl (λh=>?_) (λh=>?_)
 ·refine r0 rfl<|aG rfl<|bC ?_;rw[h];rfl
 refine r0 rfl<|aG rfl<|bC ?_;rw[h];rfl
def lC(n k:Int):Bool:=decide (0<=k/\k<n)
def yJ(p:kx)(k:Int):aL Tryz.prog 159 [bh p,.i k] (.u<|lC p.n k):=by
 refine bE Tryz.func159 rfl<|r0 rfl<|aC 7 rfl (λh=>?_) (λh=>?_)
 ·refine r0 rfl<|aG rfl<|an.of_eq<|congrArg SV.u ?_;unfold lC;simp_all
 refine r0 rfl<|aG rfl (show false=lC p.n k from(decide_eq_false λg=>h g.1).symm)
def YR(p:kx)(h:ye p):aL Tryz.prog 160 [bh p] (.i<|c7 p.aa):=by
 have hl:=h.aa;refine bE Tryz.func160 rfl<|r0 rfl<|loop (λi:Nat=>[(3,.i<|(p.aa.take i).countP λu=>decide (u.kind=bo)),(7,.bT false 5 default dM p.aa),(8,.i p.aa.length),(9,.i i)]) (λi=>i<=p.aa.length) (λi=>p.aa.length-i) 0 (abC _) ⟨ab,ab,ab,ab,ao⟩ ?_;intro i hi;have hc:((p.aa.take i).countP λu=>decide (u.kind=bo))<=i:=acX agV (by simp;omega);refine r0 rfl<|bH rfl (λh1=>?_) (λh1=>?_)
 ·have aZ:i<p.aa.length:=by omega
  have ei:(i:Int).toNat=i:=by omega
  have eg:p.aa.getD i default=p.aa[i]:=aw aZ;have hs:((p.aa.take<|i+1).countP λu=>decide (u.kind=bo))=((p.aa.take i).countP λu=>decide (u.kind=bo))+(if p.aa[i].kind=bo then 1 else 0):=by rw[ac6 aZ,ahj,ajp];by_cases g:p.aa[i].kind=bo<;>simp[g]
  refine r1 rfl (by simp[ag,and_true,ei];omega) ?_;refine bH rfl (λh2=>?_) (λh2=>?_)
  ·rw[ei,eg]at h2;have h2:p.aa[i].kind=bo:=h2;rw[if_pos h2]at hs;refine r1 rfl (by simp[ag,and_true];omega) ?_;refine again (i+1) (by omega) (by omega) ⟨⟨rfl,bC ?_⟩,ab,ab,ab,ao⟩;rw[hs];rfl
  rw[ei,eg]at h2;have h2:¬p.aa[i].kind=bo:=h2;rw[if_neg h2]at hs;refine r1 rfl (by simp[ag,and_true];omega) ?_;refine again (i+1) (by omega) (by omega) ⟨⟨rfl,bC ?_⟩,ab,ab,ab,ao⟩;rw[hs];rfl
 refine r0 rfl<|aG rfl<|bC ?_;unfold c7;rw[acR<|by omega]
def Qr(p:kx)(k:Int):aL Tryz.prog 158 [.i k,.box false<|bh p] (.u<|!lC p.n k):=by refine bE Tryz.func158 rfl<|r0 rfl<|bF rfl (yJ p k) rfl<|r0 rfl<|bB rfl
def rN{α:Type}(f:α->Bool):List α->Int->Int
 |[],_=> -1
 |x::l,i=>if f x then i else rN f l (i+1)
def C9{α:Type}(f:α->Bool){l:List α}{i:Nat}(h:i<l.length):rN f (l.drop i) i=if f l[i]then(i:Int)else rN f (l.drop<|i+1) ((i+1:Nat):Int):=by rw[ac4 h];rfl
def rb{α:Type}(f:α->Bool):∀(l:List α)(i:Int),0<=i->(0<=rN f l i↔∃x∈l,f x=true)
 |[],i,_=>by simp[rN]
 |x::l,i,hi=>by
  unfold rN;by_cases h:f x=true
  ·rw[if_pos h];simp[h,hi]
  rw[if_neg h,rb f l (i+1)<|by omega];simp[h]
def Up(p:kx)(l:List Int)(hl:l.length<2^60):aL Tryz.prog 102 [.ints .i64 false l,.fn (.func 158) [] [.box false<|bh p]] (.i<|rN (λk=> !lC p.n k) l 0):=by
 refine bE Tryz.func102 rfl<|r0 rfl<|loop (λi:Nat=>[(0,.ints .i64 false l),(1,.fn (.func 158) [] [.box false<|bh p]),(7,.i l.length),(8,.i i)]) (λi=>i<=l.length/\rN (λk=> !lC p.n k) l 0=rN (λk=> !lC p.n k) (l.drop i) i) (λi=>l.length-i) 0 ⟨abC _,rfl⟩ ⟨ab,ab,ab,ab,ao⟩ ?_;rintro i⟨hi,hf⟩;refine r0 rfl<|bH rfl (λh=>?_) (λh=>?_)
 ·have aZ:i<l.length:=by omega
  have ei:(i:Int).toNat=i:=by omega
  rw[C9 _ aZ]at hf;refine r1 rfl (by simp[ag,ei];omega) ?_;refine bF rfl (Qr p _) rfl ?_;rw[ei,aw aZ];refine nB rfl rfl rfl (λh2=>?_) (λh2=>?_)
  ·refine r0 rfl<|aG rfl<|bC ?_;rw[hf,if_pos h2]
  refine r1 rfl (by simp[ag,and_true];omega) ?_;refine again (i+1) (by omega) ⟨by omega,?_⟩ ⟨ab,ab,ab,ab,ao⟩;rw[hf,if_neg<|by rw[h2];simp]
 refine r0 rfl<|aG rfl<|bC ?_;rw[hf,ad3<|by omega];rfl
def Ls(p:kx)(l:List Int)(hl:l.length<2^60):aL Tryz.prog 46 [.ints .i64 false l,.fn (.func 158) [] [.box false<|bh p]] (.u<|decide (∃k∈l,k<0\/p.n<=k)):=by refine bE Tryz.func46 rfl<|r0 rfl<|bF rfl (Up p l hl) rfl<|r0 rfl<|aG rfl<|an.of_eq<|congrArg SV.u ?_;rw[decide_eq_decide,rb _ _ _<|adq 0];refine exists_congr λk=>and_congr Iff.rfl ?_;unfold lC;simp only[agq,decide_eq_false_iff_not];omega
def Uo(l:List Int)(v:Int)(hl:l.length<2^60):aL Tryz.prog 258 [.ints .i64 false l,.i v] (.i<|rN (λk=>decide (v=k)) l 0):=by
 refine bE Tryz.func258 rfl<|r0 rfl<|loop (λi:Nat=>[(0,.ints .i64 false l),(1,.i v),(7,.i l.length),(8,.i i)]) (λi=>i<=l.length/\rN (λk=>decide (v=k)) l 0=rN (λk=>decide (v=k)) (l.drop i) i) (λi=>l.length-i) 0 ⟨abC _,rfl⟩ ⟨ab,ab,ab,ab,ao⟩ ?_;rintro i⟨hi,hf⟩;refine r0 rfl<|bH rfl (λh=>?_) (λh=>?_)
 ·have aZ:i<l.length:=by omega
  have ei:(i:Int).toNat=i:=by omega
  rw[C9 _ aZ]at hf;refine r1 rfl (by simp[ag,ei];omega) ?_;refine bH rfl (λh2=>?_) (λh2=>?_)
  ·rw[ei,aw aZ]at h2;refine r0 rfl<|aG rfl<|bC ?_;rw[hf,if_pos<|decide_eq_true h2]
  rw[ei,aw aZ]at h2;refine r1 rfl (by simp[ag,and_true];omega) ?_;refine again (i+1) (by omega) ⟨by omega,?_⟩ ⟨ab,ab,ab,ab,ao⟩;rw[hf,if_neg<|by simpa using h2]
 refine r0 rfl<|aG rfl<|bC ?_;rw[hf,ad3<|by omega];rfl
def N5(l:List Int)(v:Int)(hl:l.length<2^60):aL Tryz.prog 227 [.ints .i64 false l,.i v] (.u<|decide (v∈l)):=by refine bE Tryz.func227 rfl<|r0 rfl<|bF rfl (Uo l v hl) rfl<|r0 rfl<|aG rfl<|an.of_eq<|congrArg SV.u ?_;rw[decide_eq_decide,rb _ _ _<|adq 0];simp
end Go.Ai.Pg
