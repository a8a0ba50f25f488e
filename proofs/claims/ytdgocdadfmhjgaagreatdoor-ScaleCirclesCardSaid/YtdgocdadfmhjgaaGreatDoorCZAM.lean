/- Parts of the proof of ScaleCircles (CheckRefused returns the error of the reference), at every input, with no further conditions. -/
import Derived.Test.YtdgocdadfmhjgaaGreatDoorCZAL
import Derived.Lib.Mul64
set_option linter.all false
set_option maxRecDepth 100000
set_option maxHeartbeats 0
namespace Go.Ai.cY
open Go.Proofs Go.Ai
def mo(n i:Nat):∃x:Nat,(ae n).getD i 0=x/\x<18446744073709551616:=by have:=a7 (bk n) i;exact⟨((ae n).getD i 0).toNat,by omega,by omega⟩
def D2(m n:Nat)(h1:(ae m).length<2^40)(h2:(ae n).length<2^40):aL Tryz.prog 222 [.ints .u64 false<|ae m,.ints .u64 false<|ae n] (.ints .u64 false<|ae<|m+n):=by
 refine bE Tryz.func222 rfl<|xr 2 (λa b:Nat=>[(0,.ints .u64 false<|ae a),(1,.ints .u64 false<|ae b)]) (λa b=>a+b=m+n/\(ae b).length<=(ae a).length/\(ae a).length<2^40) ?_ ?_
 ·refine r0 rfl<|bH rfl (λh=>?_) (λh=>?_)
  ·refine r0 rfl<|meet (n,m) ⟨by dsimp only;omega,by dsimp only;omega,by dsimp only;omega⟩ ⟨ab,ab,ao⟩
  refine r0 rfl<|meet (m,n) ⟨by dsimp only,by dsimp only;omega,by dsimp only;omega⟩ ⟨ab,ab,ao⟩
 rintro a b⟨hs,hl,h3⟩;rw[<-hs];refine r1 rfl (by simp only[ag,and_true]<;>omega) ?_;refine oN (λ(i:Nat)(out:List Int)(c:Nat)=>[(0,.ints .u64 false<|ae a),(1,.ints .u64 false<|ae b),(5,.ints .u64 true out),(6,.n .u64 c),(21,.i (ae a).length),(22,.i i)])
  (λi out c=>i<=(ae a).length/\gU out/\out.length=(ae a).length+1/\c<=1/\val out+c*18446744073709551616^i=val ((ae a).take i)+val ((ae b).take i)/\∀k,i<=k->out.getD k 0=0)
  (λi _ _=>(ae a).length-i) 0 (List.replicate ((ae a).length+1) 0) 0 ⟨abC _,ff _,by simp,by omega,by simp[val,iB],λk _=>fw _ _⟩
  ⟨ab,ab,⟨rfl,an.of_eq<|congrArg (SV.ints .u64 true)<|by congr 1⟩,ab,ab,ab,ao⟩ ?_
 rintro i out c⟨hi,hd,LU,hc,hv,hz⟩;refine r0 rfl<|bH rfl (λh=>?_) (λh=>?_)
 ·have aZ:i<(ae a).length:=by omega
  have ei:(i:Int).toNat=i:=by omega
  obtain⟨x,hx,So⟩:=mo a i;obtain⟨y,hy,Rt⟩:=mo b i;have step:∀l:aV,True->True:=λ_ h=>h;have fin:(i+1<=(ae a).length/\gU (out.set i (((x+y+c)%18446744073709551616:Nat):Int))/\(out.set i (((x+y+c)%18446744073709551616:Nat):Int)).length=(ae a).length+1/\(x+y+c)/18446744073709551616<=1/\
   val (out.set i (((x+y+c)%18446744073709551616:Nat):Int))+((x+y+c)/18446744073709551616:Nat)*18446744073709551616^(i+1)=val ((ae a).take<|i+1)+val ((ae b).take<|i+1)/\∀k,i+1<=k->(out.set i (((x+y+c)%18446744073709551616:Nat):Int)).getD k 0=0):=by
   refine⟨by omega,eK hd<|by omega,by simpa using LU,by omega,?_,λk hk=>?_⟩
   ·rw[kC _<|by omega,hz i<|abZ _,aH,aH,hx,hy,adf];have q:=Nat.div_add_mod (x+y+c) 18446744073709551616;have q':(18446744073709551616:Int)*(((x+y+c)/18446744073709551616:Nat):Int)+(((x+y+c)%18446744073709551616:Nat):Int)=(x:Int)+y+c:=by omega
    generalize (((x+y+c)/18446744073709551616:Nat):Int)=q1 at*;generalize (((x+y+c)%18446744073709551616:Nat):Int)=r1 at*;generalize (18446744073709551616:Int)^i=A at*
    grind
   rw[b7,if_neg<|by omega];exact hz k (by omega)
  refine r0 rfl<|bH rfl (λh4=>?_) (λh4=>?_)
  ·refine r1 rfl (by simp only[ag,and_true,ei]<;>omega) ?_;refine cl rfl (by rw[ei,hx,hy];rfl) (fg x y c hc) rfl ?_;refine r1 rfl (by simp only[ag,and_true,ei,LU]<;>omega) ?_;exact again (i+1,out.set i (((x+y+c)%18446744073709551616:Nat):Int),(x+y+c)/18446744073709551616) (by dsimp only;omega) fin ⟨ab,ab,⟨rfl,an.of_eq<|congrArg (SV.ints .u64 true)<|by rw[ei]⟩,ab,ab,ab,ao⟩
  have F9:y=0:=by rw[aca,adA<|by omega]at hy;simp at hy;omega
  subst F9;refine r1 rfl (by simp only[ag,and_true,ei]<;>omega) ?_;refine cl rfl (by rw[ei,hx];rfl) (fg x 0 c hc) rfl ?_;refine r1 rfl (by simp only[ag,and_true,ei,LU]<;>omega) ?_;exact again (i+1,out.set i (((x+0+c)%18446744073709551616:Nat):Int),(x+0+c)/18446744073709551616) (by dsimp only;omega) fin ⟨ab,ab,⟨rfl,an.of_eq<|congrArg (SV.ints .u64 true)<|by rw[ei]⟩,ab,ab,ab,ao⟩
 have:i=(ae a).length:=by omega
 subst this;have en:(((ae a).length:Nat):Int).toNat=(ae a).length:=by omega
 rw[acR<|abZ _,acR<|by omega,bc,bc]at hv;refine r1 rfl (by simp only[ag,and_true,en,LU]<;>omega) ?_;rw[en];refine bF rfl (dm (out.set (ae a).length c)<|by simp;omega) rfl ?_;refine r0 rfl<|aG rfl<|an.of_eq<|congrArg (SV.ints .u64 false) ?_;rw[dV<|eK hd<|by omega,kC _<|by omega,hz _<|abZ _,Int.sub_zero,hv]
 congr 1
def su(m n:Nat)(h1:(ae m).length<2^40)(hmn:n<=m):aL Tryz.prog 224 [.ints .u64 false<|ae m,.ints .u64 false<|ae n] (.ints .u64 false<|ae<|m-n):=by
 have hln:(ae n).length<=(ae m).length:=by
  rcases ac1 (ae m).length (ae n).length with g|g
  ·have:=b6 g;omega
  exact g
 refine bE Tryz.func224 rfl<|r1 rfl (by simp only[ag,and_true]<;>omega) ?_;refine oN (λ(i:Nat)(out:List Int)(c:Nat)=>[(0,.ints .u64 false<|ae m),(1,.ints .u64 false<|ae n),(5,.ints .u64 true out),(6,.n .u64 c),(13,.i (ae m).length),(14,.i i)])
  (λi out c=>i<=(ae m).length/\gU out/\out.length=(ae m).length/\c<=1/\val out=val ((ae m).take i)-val ((ae n).take i)+c*18446744073709551616^i/\∀k,i<=k->out.getD k 0=0)
  (λi _ _=>(ae m).length-i) 0 (List.replicate (ae m).length 0) 0 ⟨abC _,ff _,by simp,by omega,by simp[val,iB],λk _=>fw _ _⟩
  ⟨ab,ab,⟨rfl,an.of_eq<|congrArg (SV.ints .u64 true)<|by congr 1⟩,ab,ab,ab,ao⟩ ?_
 rintro i out c⟨hi,hd,LU,hc,hv,hz⟩;refine r0 rfl<|bH rfl (λh=>?_) (λh=>?_)
 ·have aZ:i<(ae m).length:=by omega
  have ei:(i:Int).toNat=i:=by omega
  obtain⟨x,hx,So⟩:=mo m i;obtain⟨y,hy,Rt⟩:=mo n i;have fin:(i+1<=(ae m).length/\gU (out.set i (((x+18446744073709551616-y-c)%18446744073709551616:Nat):Int))/\(out.set i (((x+18446744073709551616-y-c)%18446744073709551616:Nat):Int)).length=(ae m).length/\(if x<y+c then 1 else 0:Nat)<=1/\
   val (out.set i (((x+18446744073709551616-y-c)%18446744073709551616:Nat):Int))=val ((ae m).take<|i+1)-val ((ae n).take<|i+1)+((if x<y+c then 1 else 0:Nat):Int)*18446744073709551616^(i+1)/\∀k,i+1<=k->(out.set i (((x+18446744073709551616-y-c)%18446744073709551616:Nat):Int)).getD k 0=0):=by
   refine⟨by omega,eK hd<|by omega,by simpa using LU,by split<;>omega,?_,λk hk=>?_⟩
   ·rw[kC _<|by omega,hz i<|abZ _,aH,aH,hx,hy,adf];have q':(((x+18446744073709551616-y-c)%18446744073709551616:Nat):Int)=(x:Int)-y-c+18446744073709551616*((if x<y+c then 1 else 0:Nat):Int):=by split<;>omega
    generalize ((if x<y+c then 1 else 0:Nat):Int)=q1 at*;generalize (((x+18446744073709551616-y-c)%18446744073709551616:Nat):Int)=r1 at*;generalize (18446744073709551616:Int)^i=A at*
    grind
   rw[b7,if_neg<|by omega];exact hz k (by omega)
  refine r0 rfl<|bH rfl (λh4=>?_) (λh4=>?_)
  ·refine r1 rfl (by simp only[ag,and_true,ei]<;>omega) ?_;refine cl rfl (by rw[ei,hx,hy];rfl) (pt x y c hc) rfl ?_;refine r1 rfl (by simp only[ag,and_true,ei,LU]<;>omega) ?_;exact again (i+1,out.set i (((x+18446744073709551616-y-c)%18446744073709551616:Nat):Int),(if x<y+c then 1 else 0:Nat)) (by dsimp only;omega) fin ⟨ab,ab,⟨rfl,an.of_eq<|congrArg (SV.ints .u64 true)<|by rw[ei]⟩,ab,ab,ab,ao⟩
  have F9:y=0:=by rw[aca,adA<|by omega]at hy;simp at hy;omega
  subst F9;refine r1 rfl (by simp only[ag,and_true,ei]<;>omega) ?_;refine cl rfl (by rw[ei,hx];rfl) (pt x 0 c hc) rfl ?_;refine r1 rfl (by simp only[ag,and_true,ei,LU]<;>omega) ?_;exact again (i+1,out.set i (((x+18446744073709551616-0-c)%18446744073709551616:Nat):Int),(if x<0+c then 1 else 0:Nat)) (by dsimp only;omega) fin ⟨ab,ab,⟨rfl,an.of_eq<|congrArg (SV.ints .u64 true)<|by rw[ei]⟩,ab,ab,ab,ao⟩
 have:i=(ae m).length:=by omega
 subst this;rw[acR<|abZ _,acR<|by omega,bc,bc]at hv;have cS:=ia hd;have LW:=aY hd;rw[LU]at cS;have RK:c=0:=by
  rcases ac1 0 c with g|g
  ·have:c=1:=by omega
   subst this;omega
  omega
 subst RK;refine r0 rfl<|bF rfl (dm out<|by omega) rfl<|r0 rfl<|aG rfl<|an.of_eq<|congrArg (SV.ints .u64 false) ?_;rw[dV hd]
 congr 1;omega
def wrm(n:Nat):IntKind.u64.wrap (n:Int)=((n%18446744073709551616:Nat):Int):=by show(n:Int)%18446744073709551616=_;omega
def wr{n:Nat}(h:n<18446744073709551616):IntKind.u64.wrap (n:Int)=(n:Int):=by rw[wrm,afb h]
def SA{a:Int}:IntKind.u64.wrap a=a%18446744073709551616:=rfl
def yE(y:Nat):BitVec.ofInt IntKind.u64.bits (y:Int)=BitVec.ofNat 64 y:=BitVec.ofInt_natCast 64 y
def TZ(y:Nat):IntKind.u64.wrap ((BitVec.ofInt IntKind.u64.bits (y:Int)&&&BitVec.ofInt IntKind.u64.bits 4294967295).toNat:Int)=((y%4294967296:Nat):Int):=by
 rw[wrm]
 congr 1
 have h1:(BitVec.ofNat 64 y&&&BitVec.ofNat 64 (2^32-1)).toNat=(y%2^64)&&&((2^32-1)%2^64):=by simp
 rw[show((2:Nat)^32-1)%2^64=2^32-1 from rfl,Nat.and_two_pow_sub_one_eq_mod]at h1;show(BitVec.ofNat 64 y&&&BitVec.ofNat 64 (2^32-1)).toNat%_=_;omega
def Fh(y:Nat):(y:Int).fdiv (2^min (Int.toNat 32) IntKind.u64.bits)=((y/4294967296:Nat):Int):=by rw[ajs _<|by decide];rfl
def kg(x y:Nat)(hx:x<18446744073709551616)(hy:y<18446744073709551616):aL Tryz.prog 185 [.n .u64 x,.n .u64 y] (.bX [.n .u64 (x*y/18446744073709551616:Nat),.n .u64 (x*y%18446744073709551616:Nat)]):=by
 refine bE Tryz.func185 rfl<|r1 rfl ?_ ?_
 ·simp only[ag];decide
 obtain⟨p1,p2,p3,p4⟩:=Go.Lib.mul64_hi x y hx hy;have hq:x*y/18446744073709551616<18446744073709551616:=by rw[aeE<|by decide];exact Nat.mul_lt_mul'' hx hy
 rw[<-p4]at hq;refine aG rfl ⟨congrArg (SV.n .u64) ?_,congrArg (SV.n .u64) ?_,ao⟩
 ·have wA:=wr (n:=x/4294967296*(y/4294967296)) (by omega);have wB:=wr (n:=x/4294967296*(y%4294967296)) (by omega);have wC:=wr (n:=x%4294967296*(y/4294967296)) (by omega);have wD:=wr p1;have wt:=wr p2;have w1:=wr p3;have w2:=wr (n:=x/4294967296*(y/4294967296)+(x/4294967296*(y%4294967296)+x%4294967296*(y%4294967296)/4294967296)/4294967296) (by omega);have w3:=wr hq;simp only[TZ,Fh,<-adB,<-ahm,wA,wB,wC,wD,wt,w1,w2,w3];rw[p4]
 rw[<-adB,wrm]
def XE{x y w c:Nat}(hx:x<18446744073709551616)(hy:y<18446744073709551616)(hw:w<18446744073709551616)(hc:c<18446744073709551616):
 x*y/18446744073709551616+(x*y%18446744073709551616+w+0)/18446744073709551616<18446744073709551616/\
 x*y/18446744073709551616+(x*y%18446744073709551616+w+0)/18446744073709551616+((x*y%18446744073709551616+w+0)%18446744073709551616+c+0)/18446744073709551616<18446744073709551616/\
 ((x*y%18446744073709551616+w+0)%18446744073709551616+c+0)%18446744073709551616+18446744073709551616*(x*y/18446744073709551616+(x*y%18446744073709551616+w+0)/18446744073709551616+((x*y%18446744073709551616+w+0)%18446744073709551616+c+0)/18446744073709551616)=x*y+w+c:=by
 have h1:x*y<=18446744073709551615*18446744073709551615:=agG (by omega) (by omega);refine⟨by omega,by omega,by omega⟩
def Cs(m n:Nat)(h1:(ae m).length<2^40)(h2:(ae n).length<2^40):aL Tryz.prog 198 [.ints .u64 false<|ae m,.ints .u64 false<|ae n] (.ints .u64 false<|ae<|m*n):=by
 refine bE Tryz.func198 rfl<|r1 rfl (by simp only[ag,and_true]<;>omega) ?_;refine kh (λ(i:Nat)(out:List Int)=>[(1,.ints .u64 false<|ae n),(5,.ints .u64 true out),(20,.ints .u64 false<|ae m),(21,.i (ae m).length),(22,.i i)])
  (λi out=>gU out/\out.length=(ae m).length+(ae n).length/\val out=val ((ae m).take i)*n/\i<=(ae m).length/\∀k,i+(ae n).length<=k->out.getD k 0=0)
  (λi _=>(ae m).length-i) 0 (List.replicate ((ae m).length+(ae n).length) 0) ⟨ff _,by simp,by simp[val,iB],by omega,λk _=>fw _ _⟩
  ⟨ab,⟨rfl,an.of_eq<|congrArg (SV.ints .u64 true)<|by congr 1⟩,ab,ab,ab,ao⟩ ?_
 rintro i out⟨hd,hl,hv,hi,hz⟩;refine r0 rfl<|bH rfl (λh=>?_) (λh=>?_)
 ·have aZ:i<(ae m).length:=by omega
  have ei:(i:Int).toNat=i:=by omega
  obtain⟨x,hx,So⟩:=mo m i;refine r1 rfl (by simp only[ag,and_true,ei]<;>omega) ?_;rw[ei,hx];refine oN (λ(k:Nat)(o:List Int)(c:Nat)=>[(1,.ints .u64 false<|ae n),(5,.ints .u64 true o),(6,.i i),(7,.n .u64 x),(8,.n .u64 c),(20,.ints .u64 false<|ae m),(21,.i (ae m).length),(22,.i i),(27,.ints .u64 false<|ae n),(28,.i (ae n).length),(29,.i k)])
   (λk o c=>gU o/\o.length=(ae m).length+(ae n).length/\c<18446744073709551616/\val o+c*18446744073709551616^(i+k)=val out+x*val ((ae n).take k)*18446744073709551616^i/\k<=(ae n).length/\∀k',i+k<=k'->o.getD k' 0=out.getD k' 0)
   (λk _ _=>(ae n).length-k) 0 out 0 ⟨hd,hl,by omega,by simp[val],by omega,λ_ _=>rfl⟩ ⟨ab,ab,ab,ab,ab,ab,ab,ab,ab,ab,ab,ao⟩ ?_
  rintro k o c⟨gd,gl,gc,gv,gk,gz⟩;refine r0 rfl<|bH rfl (λh3=>?_) (λh3=>?_)
  ·have gp:k<(ae n).length:=by omega
   have ek:(k:Int).toNat=k:=by omega
   have Z7:((i:Int)+(k:Int)).toNat=i+k:=by omega
   obtain⟨y,hy,Rt⟩:=mo n k;obtain⟨w,hw,hw2⟩:∃w:Nat,o.getD (i+k) 0=w/\w<18446744073709551616:=by have:=a7 gd<|i+k;exact⟨(o.getD (i+k) 0).toNat,by omega,by omega⟩
   obtain⟨p1,p2,p3⟩:=XE So Rt hw2 gc;refine r1 rfl (by simp only[ag,and_true,ek]<;>omega) ?_;rw[ek,hy];refine bF rfl (kg x y So Rt) rfl<|r1 rfl (by simp only[ag,and_true,Z7,gl]<;>omega) ?_;rw[Z7,hw];refine bF rfl (fg (x*y%18446744073709551616) w 0 (by decide)) rfl<|r1 rfl (by simp only[ag,and_true]<;>omega) ?_;refine bF rfl (fg ((x*y%18446744073709551616+w+0)%18446744073709551616) c 0 (by decide)) rfl<|r1 rfl (by simp only[ag,and_true,Z7,gl]<;>omega) ?_;rw[Z7];have ec:IntKind.u64.wrap (IntKind.u64.wrap (((x*y/18446744073709551616:Nat):Int)+(((x*y%18446744073709551616+w+0)/18446744073709551616:Nat):Int))+((((x*y%18446744073709551616+w+0)%18446744073709551616+c+0)/18446744073709551616:Nat):Int))=
    ((x*y/18446744073709551616+(x*y%18446744073709551616+w+0)/18446744073709551616+((x*y%18446744073709551616+w+0)%18446744073709551616+c+0)/18446744073709551616:Nat):Int):=by
    rw[<-ahm,wr p1,<-ahm,wr p2]
   refine again (k+1,o.set (i+k) (((((x*y%18446744073709551616+w+0)%18446744073709551616+c+0)%18446744073709551616:Nat)):Int),x*y/18446744073709551616+(x*y%18446744073709551616+w+0)/18446744073709551616+((x*y%18446744073709551616+w+0)%18446744073709551616+c+0)/18446744073709551616)
    (by dsimp only;omega) ⟨eK gd<|by omega,by simpa using gl,p2,?_,by dsimp only;omega,?_⟩ ⟨ab,ab,ab,ab,⟨rfl,an.of_eq<|congrArg (SV.n .u64) ec⟩,ab,ab,ab,ab,ab,ab,ao⟩
   ·dsimp only;have cS:i+k<o.length:=by omega
    rw[kC _ cS,hw,aH,hy,show i+(k+1)=i+k+1 by omega,adf,afq];rw[afq]at gv;generalize x*y/18446744073709551616+(x*y%18446744073709551616+w+0)/18446744073709551616+((x*y%18446744073709551616+w+0)%18446744073709551616+c+0)/18446744073709551616=q at*;generalize ((x*y%18446744073709551616+w+0)%18446744073709551616+c+0)%18446744073709551616=r at*;have p3':(r:Int)+18446744073709551616*(q:Int)=(x:Int)*y+w+c:=by rw[<-adB x y];clear gv hv p1 p2;generalize x*y=p at *;omega
    generalize (18446744073709551616:Int)^i=A at*;generalize (18446744073709551616:Int)^k=B at*
    grind
   dsimp only;intro k' gp;rw[b7,if_neg<|by omega];exact gz k' (by omega)
  have hk:k=(ae n).length:=by omega
  subst hk;rw[acR<|abZ _,bc]at gv;have hw:o.getD (i+(ae n).length) 0=0:=by rw[gz _<|abZ _];exact hz _<|abZ _
  have e4:((i:Int)+((ae n).length:Int)).toNat=i+(ae n).length:=by omega
  refine r1 rfl (by simp only[ag,and_true,gl,e4]<;>omega) ?_;rw[e4];refine again (i+1,o.set (i+(ae n).length) c) (by dsimp only;omega) ⟨eK gd<|by omega,by simpa using gl,?_,by dsimp only;omega,?_⟩
   ⟨ab,ab,ab,ab,ab,ao⟩
  ·dsimp only;rw[kC _<|by omega,hw,aH,hx];generalize (18446744073709551616:Int)^(i+(ae n).length)=A at*;generalize (18446744073709551616:Int)^i=B at*
   grind
  dsimp only;intro k' gp;rw[b7,if_neg<|by omega,gz _<|by omega];exact hz _ (by omega)
 have:i=(ae m).length:=by omega
 subst this;rw[acR<|abZ _,bc]at hv;refine r0 rfl<|bF rfl (dm out<|by omega) rfl<|r0 rfl<|aG rfl<|an.of_eq<|congrArg (SV.ints .u64 false) ?_;rw[dV hd,hv]
 congr 1
structure Nm where
 s:Int
 w:Option Nat
def wS:Option Nat->SV
 |none=>.nil
 |some m=>.ints .u64 false<|ae m
def oC(a:Nm):SV:=.agg [.i a.s,wS a.w]
def nv(a:Nm):Int:=match a.w with|none=>a.s|some m=>a.s*m
def a8(a:Nm):Prop:=match a.w with
 |none=> -9223372036854775808<=a.s/\a.s<=9223372036854775807
 |some m=>(a.s=1\/a.s= -1)/\9223372036854775808<=m
def fj(a:Nm)(K:Nat):Prop:=(ae (nv a).natAbs).length<=K
def Uu(a:Int):IntKind.i64.wrap a=(a+9223372036854775808)%18446744073709551616-9223372036854775808:=by have e:IntKind.i64.wrap a=if(true&&decide (a%18446744073709551616>=9223372036854775808))=true then a%18446744073709551616-18446744073709551616 else a%18446744073709551616:=rfl;rw[e];simp;split<;>omega
def uT(n:Int)(h: -9223372036854775808<=n/\n<=9223372036854775807):aL Tryz.prog 196 [.i n] (.n .u64 n.natAbs):=by
 refine bE Tryz.func196 rfl<|r0 rfl<|bH rfl (λh1=>?_) (λh1=>?_)
 ·refine kw [6] rfl rfl ao<|aG rfl<|an.of_eq<|congrArg (SV.n .u64) ?_;rw[SA,Uu];omega
 refine r0 rfl<|aG rfl<|an.of_eq<|congrArg (SV.n .u64) ?_;rw[SA];omega
def lM{f:Nat}(h0:0<f)(h1:f<18446744073709551616):ae f=[(f:Int)]:=mu h0 h1
def dF(a:Nm)(h:a8 a):aL Tryz.prog 194 [oC a] (.bX [.u<|decide (a.s<0),.ints .u64 false<|ae (nv a).natAbs]):=by
 obtain⟨s,w⟩:=a;cases w with
 |none=>
  have h: -9223372036854775808<=s/\s<=9223372036854775807:=h;refine bE Tryz.func194 rfl<|r0 rfl<|bH rfl (λh1=>?_) (λh1=>?_)
  ·have h1:s=0:=h1;subst h1;refine r0 rfl<|aG rfl ⟨rfl,cD,ao⟩
  have h1:¬s=0:=h1;refine r0 rfl<|bG rfl (uT s h) rfl<|k0 rfl (by kernel_rfl)<|Xe rfl ⟨rfl,congrArg (SV.ints .u64 false) ?_,ao⟩;exact(lM (f:=s.natAbs) (by omega)<|by omega).symm
 |some m=>
  obtain⟨hs,hm⟩:(s=1\/s= -1)/\9223372036854775808<=m:=h;have dc:ae m≠[]:=by intro e;have:=bc m;rw[e]at this;simp[val]at this;omega
  have hn:(nv ⟨s,some m⟩).natAbs=m:=by show(s*(m:Int)).natAbs=m;rcases hs with rfl|rfl<;>omega
  rw[hn];refine bE Tryz.func194 rfl<|k1 rfl (by kernel_rfl) (by simp[ag,and_true];exact dc) ?_;exact bB rfl
def rZ(neg:Bool)(m:Nat):Nm:=if m<=9223372036854775807 then⟨if neg then -(m:Int)else m,none⟩else⟨if neg then -1 else 1,some m⟩
def mY(neg:Bool)(m:Nat):nv (rZ neg m)=if neg then -(m:Int)else m:=by unfold rZ nv;cases neg<;>by_cases h:m<=9223372036854775807<;>simp[h]
def o4(neg:Bool)(m:Nat):a8 (rZ neg m):=by
 unfold rZ a8;by_cases g:m<=9223372036854775807
 ·simp[g];cases neg<;>omega
 simp only[g];exact⟨by cases neg<;>simp,by omega⟩
def gJ{m:Nat}(h:m<18446744073709551616):(ae m).length<=1:=by
 rcases adp m with g|g
 ·subst g;simp[cD]
 rw[lM g h];simp
def jU(neg:Bool)(m:Nat)(hl:(ae m).length<2^40):aL Tryz.prog 197 [.u neg,.ints .u64 false<|ae m] (oC<|rZ neg m):=by
 have uF:Int.toNat 0=0:=rfl;have one:(ae m).length=1->0<m/\m<18446744073709551616/\(ae m).getD 0 0=m:=by
  intro h;have h1:=bQ m;rw[h]at h1;have h2:0<m:=by
   rcases adp m with g|g
   ·subst g;rw[cD]at h;cases h
   exact g
  have h3:m<18446744073709551616:=by omega
  exact⟨h2,h3,by rw[lM h2 h3];rfl⟩
 refine bE Tryz.func197 rfl<|r0 rfl<|bH rfl (λh1=>?_) (λh1=>?_)
 ·have hm:m=0:=by
   rcases adp m with g|g
   ·exact g
   have:=eI (n:=m) (by omega);omega
  subst hm;refine r0 rfl<|aG rfl ?_;unfold rZ;rw[if_pos<|by decide];cases neg<;>exact⟨rfl,ao,ao⟩
 refine r0 rfl<|aC 14 rfl (λh2=>?_) (λh2=>?_)
 ·obtain⟨o1,o2,o3⟩:=one (by omega);refine r1 rfl (by simp[ag,and_true,uF]<;>omega) ?_;rw[uF,o3];refine aC 20 rfl (λh3=>?_) (λh3=>?_)
  ·have h3:(m:Int)<=9223372036854775807:=h3;refine r0 rfl<|nB rfl rfl rfl (λh4=>?_) (λh4=>?_)
   ·have h4:neg=true:=h4;subst h4;refine kw [27] rfl rfl (by simp only[ag,and_true,uF]<;>omega) ?_;rw[uF,o3];refine aG rfl ?_;unfold rZ;rw[if_pos<|by omega];refine⟨congrArg SV.i ?_,ao,ao⟩;rw[Uu];show _=(if true=true then -(m:Int)else m);simp[if_true];omega
   have h4:neg=false:=h4;subst h4;refine r0 rfl<|aC 33 rfl (λh5=>?_) λh5=>absurd h2 h5;refine r1 rfl (by simp[ag,and_true,uF]<;>omega) ?_;rw[uF,o3];refine bH rfl (λh6=>?_) λh6=>absurd h3 h6;refine r1 rfl (by simp only[ag,and_true,uF]<;>omega) ?_;rw[uF,o3];refine aG rfl ?_;unfold rZ;rw[if_pos<|by omega];refine⟨congrArg SV.i ?_,ao,ao⟩;show _=(if false=true then -(m:Int)else m);simp[aeu,if_false]
  have h3:¬(m:Int)<=9223372036854775807:=h3;refine r0 rfl<|aC 33 rfl (λh5=>?_) λh5=>absurd h2 h5;refine r1 rfl (by simp[ag,and_true,uF]<;>omega) ?_;rw[uF,o3];refine bH rfl (λh6=>absurd h6 h3) λh6=>?_;refine r0 rfl<|nB rfl rfl rfl (λh7=>?_) (λh7=>?_)
  ·have h7:neg=true:=h7;subst h7;refine r0 rfl<|aG rfl<|an.of_eq<|by unfold rZ;rw[if_neg<|by omega];rfl
  have h7:neg=false:=h7;subst h7;refine r0 rfl<|aG rfl<|an.of_eq<|by unfold rZ;rw[if_neg<|by omega];rfl
 have afz:¬m<=9223372036854775807:=by intro g;have:=gJ (m:=m) (by omega);have h1:¬((ae m).length:Int)=0:=h1;have h2:¬((ae m).length:Int)=1:=h2;omega
 refine r0 rfl<|aC 33 rfl (λh5=>absurd h5 h2) λh5=>?_;refine r0 rfl<|nB rfl rfl rfl (λh7=>?_) (λh7=>?_)
 ·have h7:neg=true:=h7;subst h7;refine r0 rfl<|aG rfl<|an.of_eq<|by unfold rZ;rw[if_neg afz];rfl
 have h7:neg=false:=h7;subst h7;refine r0 rfl<|aG rfl<|an.of_eq<|by unfold rZ;rw[if_neg afz];rfl
def uU(a:Nm)(h:a8 a):aL Tryz.prog 112 [oC a] (.i (nv a).sign):=by
 obtain⟨s,w⟩:=a;cases w with
 |none=>
  refine bE Tryz.func112 rfl<|r0 rfl<|aG rfl<|bC ?_;show max (-1) (min 1 s)=s.sign;rcases ahe s 0 with g|g|g
  ·rw[ahO g];omega
  ·subst g;rfl
  rw[agS g];omega
 |some m=>
  obtain⟨hs,hm⟩:=h;refine bE Tryz.func112 rfl<|r0 rfl<|aG rfl<|bC ?_;show max (-1) (min 1 s)=(s*(m:Int)).sign;rcases hs with rfl|rfl
  ·rw[agS<|by omega];rfl
  rw[ahO<|by omega];rfl
def iI(a:Nm)(h:a8 a):(a.s<0↔nv a<0)/\(a.w=none->nv a=a.s):=by
 obtain⟨s,w⟩:=a;cases w with
 |none=>exact⟨Iff.rfl,λ_=>rfl⟩
 |some m=>obtain⟨hs,hm⟩:=h;refine⟨?_,λg=>by simp at g⟩;show s<0↔s*(m:Int)<0;rcases hs with rfl|rfl<;>omega
def ni(n:Nat)(h:0<n):ae n≠[]:=by have:=eI (n:=n) (by omega);intro e;rw[e]at this;cases this
def iS(a:Nm):Nm:=if a.w=none/\a.s≠ -9223372036854775808 then⟨-a.s,none⟩else rZ (!decide (a.s<0)) (nv a).natAbs
def dN(a:Nm)(h:a8 a):nv (iS a)= -nv a/\a8 (iS a):=by
 have h1:=iI a h;unfold iS;split
 ·rename_i g;obtain⟨s,w⟩:=a;obtain⟨rfl,g2⟩:w=none/\s≠ -9223372036854775808:=g;have h: -9223372036854775808<=s/\s<=9223372036854775807:=h;exact⟨rfl,show -9223372036854775808<= -s/\ -s<=9223372036854775807 by omega⟩
 refine⟨?_,o4 _ _⟩;rw[mY];by_cases g:a.s<0
 ·have:=h1.1.1 g;simp;omega
 have:=λk=>g<|h1.1.2 k;simp;omega
def pK(a:Nm)(h:a8 a){K:Nat}(hl:fj a K)(hK:K<2^40):aL Tryz.prog 172 [oC a] (oC<|iS a):=by
 have hp:=dF a h;unfold fj at hl;obtain⟨s,w⟩:=a;cases w with
 |none=>
  have h: -9223372036854775808<=s/\s<=9223372036854775807:=h;refine bE Tryz.func172 rfl<|r0 rfl<|bH rfl (λh1=>?_) (λh1=>?_)
  ·have h1:s≠ -9223372036854775808:=h1;refine r1 rfl (by simp[ag,and_true]<;>omega) ?_;refine aG rfl ?_;unfold iS;rw[if_pos ⟨rfl,h1⟩];exact⟨congrArg SV.i<|by show 0-s= -s;omega,ao,ao⟩
  have h1:¬s≠ -9223372036854775808:=h1;refine r0 rfl<|bF rfl hp rfl<|r0 rfl<|bF rfl (jU (!decide (s<0)) (nv ⟨s,none⟩).natAbs<|by omega) rfl ?_;unfold iS;rw[if_neg λg=>h1 g.2];generalize rZ (!decide ((⟨s,none⟩:Nm).s<0)) (nv ⟨s,none⟩).natAbs=r;obtain⟨s',w'⟩:=r;cases w'<;>exact r0 rfl (bB rfl)
 |some m=>obtain⟨hs,hm⟩:(s=1\/s= -1)/\9223372036854775808<=m:=h;refine bE Tryz.func172 rfl<|r1 rfl (by simp[ag,and_true];exact ni m<|by omega) ?_;refine bF rfl hp rfl<|r0 rfl<|bF rfl (jU (!decide (s<0)) (nv ⟨s,some m⟩).natAbs<|by omega) rfl ?_;unfold iS;rw[if_neg λg=>by simp at g];generalize rZ (!decide ((⟨s,some m⟩:Nm).s<0)) (nv ⟨s,some m⟩).natAbs=r;obtain⟨s',w'⟩:=r;cases w'<;>exact r0 rfl<|bB rfl
def zD(a:Nm):Nm:=if a.s<0 then iS a else a
def nC(a:Nm)(h:a8 a):nv (zD a)=(nv a).natAbs/\a8 (zD a):=by
 have h1:=iI a h;unfold zD;split
 ·rename_i g;obtain⟨e1,e2⟩:=dN a h;exact⟨by omega,e2⟩
 rename_i g;exact⟨by omega,h⟩
def On(a:Nm)(h:a8 a){K:Nat}(hl:fj a K)(hK:K<2^40):aL Tryz.prog 189 [oC a] (oC<|zD a):=by
 have hn:=pK a h hl hK;unfold zD;obtain⟨s,w⟩:=a;cases w with
 |none=>
  refine bE Tryz.func189 rfl<|r0 rfl<|bH rfl (λh1=>?_) (λh1=>?_)
  ·have h1:=h1;rw[if_pos h1];refine r0 rfl<|bF rfl hn rfl ?_;generalize iS ⟨s,none⟩=r;obtain⟨s',w'⟩:=r;cases w'<;>exact r0 rfl<|bB rfl
  have h1:=h1;rw[if_neg h1];exact r0 rfl (bB rfl)
 |some m=>
  refine bE Tryz.func189 rfl<|r0 rfl<|bH rfl (λh1=>?_) (λh1=>?_)
  ·have h1:=h1;rw[if_pos h1];refine r0 rfl<|bF rfl hn rfl ?_;generalize iS ⟨s,some m⟩=r;obtain⟨s',w'⟩:=r;cases w'<;>exact r0 rfl<|bB rfl
  have h1:=h1;rw[if_neg h1];exact r0 rfl<|bB rfl
end Go.Ai.cY
namespace Go.Ai.cY
def nY{m n K:Nat}(h1:(ae m).length<=K)(h2:(ae n).length<=K):(ae<|m+n).length<=K+1:=by
 rcases fZ (m+n)with g|g
 ·rw[g];simp
 have g1:=bQ m;have g2:=bQ n;have p1:=ij h1;have p2:=ij h2;rcases ac1 (K+1) (ae<|m+n).length with h|h
 ·have p3:=ij (show K+1<=(ae<|m+n).length-1 by omega);omega
 omega
def dK(m n:Nat):(ae<|m*n).length<=(ae m).length+(ae n).length:=by
 rcases fZ (m*n)with g|g
 ·rw[g];simp
 have g1:=bQ m;have g2:=bQ n;rcases ac1 ((ae m).length+(ae n).length) (ae<|m*n).length with h|h
 ·have p3:=ij (show(ae m).length+(ae n).length<=(ae<|m*n).length-1 by omega);rw[afq]at p3;have a1:(m:Int)*n<=18446744073709551616^(ae m).length*n:=fU (by omega) (by omega);have a2:(18446744073709551616:Int)^(ae m).length*n<18446744073709551616^(ae m).length*18446744073709551616^(ae n).length:=Int.mul_lt_mul_of_pos_left g2<|cG _;omega
 exact h
def lK(a b:Nat):(ae<|a/b).length<=(ae a).length:=by
 rcases ac1 (ae a).length (ae<|a/b).length with g|g
 ·have:=b6 g;have:=agT a b;omega
 exact g
def length_le{m n:Nat}(h:m<=n):(ae m).length<=(ae n).length:=by
 rcases ac1 (ae n).length (ae m).length with g|g
 ·have:=b6 g;omega
 exact g
end Go.Ai.cY
namespace Go.Ai.cY
open Go.Proofs Go.Ai
def V5(sa:Bool)(A:Nat)(sb:Bool)(B:Nat):Nm:=if sa=sb then rZ sa (A+B)else if B<=A then rZ sa (A-B)else rZ sb (B-A)
def vJ(x y:Int):Bool:=decide (x<IntKind.i64.wrap (x+y))==decide (0<y)
def xW(a b:Nm):Nm:=if a.w=none/\b.w=none/\vJ a.s b.s=true then⟨IntKind.i64.wrap<|a.s+b.s,none⟩else V5 (decide (a.s<0)) (nv a).natAbs (decide (b.s<0)) (nv b).natAbs
def Ok{x y:Int}(hx: -9223372036854775808<=x/\x<=9223372036854775807)(hy: -9223372036854775808<=y/\y<=9223372036854775807)(h:vJ x y=true):IntKind.i64.wrap (x+y)=x+y:=by unfold vJ at h;rw[beq_iff_eq,decide_eq_decide]at h;rw[Uu]at*;omega
def kv(a b:Nm)(ha:a8 a)(hb:a8 b):nv (xW a b)=nv a+nv b/\a8 (xW a b):=by
 have a1:=iI a ha;have b1:=iI b hb;unfold xW;split
 ·rename_i g;obtain⟨s,w⟩:=a;obtain⟨t,v⟩:=b;obtain⟨rfl,rfl,g3⟩:=g;have:=Ok ha hb g3;refine⟨this,?_⟩;show -9223372036854775808<=IntKind.i64.wrap (s+t)/\IntKind.i64.wrap (s+t)<=9223372036854775807;rw[Uu];omega
 unfold V5;have ea:decide (a.s<0)=decide (nv a<0):=by rw[decide_eq_decide];exact a1.1
 have eb:decide (b.s<0)=decide (nv b<0):=by rw[decide_eq_decide];exact b1.1
 rw[ea,eb];split
 ·rename_i g;refine⟨?_,o4 _ _⟩;rw[mY];rw[decide_eq_decide]at g;by_cases h:nv a<0
  ·have:=g.1 h;simp;omega
  have:=λk=>h<|g.2 k;simp;omega
 rename_i g;rw[decide_eq_decide]at g;split
 ·refine⟨?_,o4 _ _⟩;rw[mY];by_cases h:nv a<0
  ·have:=λk=>g ⟨λ_=>k,λ_=>h⟩;simp;omega
  have:nv b<0:=by apply Classical.byContradiction;intro k;simp_all
  simp;omega
 refine⟨?_,o4 _ _⟩;rw[mY];by_cases h:nv b<0
 ·have:=λk=>g ⟨λ_=>h,λ_=>k⟩;simp;omega
 have:nv a<0:=by apply Classical.byContradiction;intro k;simp_all
 simp;omega
def V4(a b:Nm)(ha:a8 a)(hb:a8 b){K:Nat}(la:fj a K)(lb:fj b K)(hK:K<2^39):
 AK R0 Tryz.prog Tryz.f152.ntmps (Wb Tryz.prog Tryz.f152.results.toList<|oC<|V5 (decide (a.s<0)) (nv a).natAbs (decide (b.s<0)) (nv b).natAbs) [.code (l8 2 (Tryz.f152.body.getD .skip)).2]
  (sl [(2,.box true<|oC a),(3,.box true<|oC b),(4,.box true<|.agg [.i 0,.nil])]):=by
 have pa:=dF a ha;have pb:=dF b hb;unfold fj at la lb;generalize (nv a).natAbs=A at*;generalize (nv b).natAbs=B at*;have Ss:=nY la lb;refine b8 2 [(4,.box true<|.agg [.i 0,.nil]),(6,.u<|decide (a.s<0)),(7,.ints .u64 false<|ae A),(8,.u<|decide (b.s<0)),(9,.ints .u64 false<|ae B)] True ?_ λ_=>?_
 ·obtain⟨s,w⟩:=a;obtain⟨t,v⟩:=b;cases w<;>cases v
  all_goals
   refine r0 rfl<|bF rfl pa rfl<|r0 rfl<|bF rfl pb rfl<|r0 rfl<|aP ao ⟨ab,ab,ab,ab,ab,ao⟩
 generalize decide (a.s<0)=sa;generalize decide (b.s<0)=sb;refine r0 rfl<|nB rfl rfl rfl (λh1=>?_) (λh1=>?_)
 ·have h1:sa=sb:=by simpa using h1
  unfold V5;rw[if_pos h1];refine r0 rfl<|bF rfl (D2 A B (by omega)<|by omega) rfl<|r0 rfl<|bF rfl (jU sa (A+B)<|by omega) rfl ?_;generalize rZ sa (A+B)=r;obtain⟨s',w'⟩:=r;cases w'<;>exact r0 rfl<|bB rfl
 have h1:¬sa=sb:=by simpa using h1
 unfold V5;rw[if_neg h1];refine r0 rfl<|bF rfl (oo A B (by omega)<|by omega) rfl<|r0 rfl<|bH rfl (λh2=>?_) (λh2=>?_)
 ·have h2:0<=ou A B:=h2;have h3:B<=A:=by unfold ou at h2;split at h2<;>omega
  rw[if_pos h3];have:=length_le (m:=A-B) (n:=A) (by omega);refine r0 rfl<|bF rfl (su A B (by omega) h3) rfl<|r0 rfl<|bF rfl (jU sa (A-B)<|by omega) rfl ?_;generalize rZ sa (A-B)=r;obtain⟨s',w'⟩:=r;cases w'<;>exact r0 rfl<|bB rfl
 have h2:¬0<=ou A B:=h2;have h3:¬B<=A:=by unfold ou at h2;split at h2<;>first|omega|(split at h2<;>omega)
 rw[if_neg h3];have:=length_le (m:=B-A) (n:=B) (by omega);refine r0 rfl<|bF rfl (su B A (by omega)<|by omega) rfl<|r0 rfl<|bF rfl (jU sb (B-A)<|by omega) rfl ?_;generalize rZ sb (B-A)=r;obtain⟨s',w'⟩:=r;cases w'<;>exact r0 rfl<|bB rfl
def D1(a b:Nm)(ha:a8 a)(hb:a8 b){K:Nat}(la:fj a K)(lb:fj b K)(hK:K<2^39):aL Tryz.prog 152 [oC a,oC b] (oC<|xW a b):=by
 have ht:=V4 a b ha hb la lb hK;have dc:∀(x:Nm)(s:Int)(m:Nat),x=⟨s,some m⟩->a8 x->ae m≠[]:=by rintro x s m rfl h;have:9223372036854775808<=m:=h.2;exact ni m (by omega)
 unfold xW;refine bE Tryz.func152 rfl ?_;obtain⟨s,w⟩:=a;obtain⟨t,v⟩:=b;cases w with
 |none=>
  cases v with
  |none=>
   by_cases g:vJ s t=true
   ·rw[if_pos ⟨rfl,rfl,g⟩];refine kw [22] rfl rfl ao<|nB rfl rfl rfl (λh1=>?_) (λh1=>?_)
    ·refine r0 rfl<|bB rfl
    exact absurd g (by rw[show vJ s t=false from h1];simp)
   rw[if_neg λk=>g k.2.2];refine b8 2 [(2,.box true<|oC ⟨s,none⟩),(3,.box true<|oC ⟨t,none⟩),(4,.box true<|.agg [.i 0,.nil])] True ?_ λ_=>ht;refine kw [22] rfl rfl ao<|nB rfl rfl rfl (λh1=>?_) (λh1=>?_)
   ·exact absurd (show vJ s t=true from h1) g
   refine r0 rfl<|aP ao ⟨ab,ab,ab,ao⟩
  |some n=>rw[if_neg λk=>by simp at k];refine b8 2 [(2,.box true<|oC ⟨s,none⟩),(3,.box true<|oC ⟨t,some n⟩),(4,.box true<|.agg [.i 0,.nil])] True ?_ λ_=>ht;refine r1 rfl (by simp[ag,and_true];exact dc _ _ _ rfl hb) ?_;exact aP ao ⟨ab,ab,ab,ao⟩
 |some m=>
  cases v with
  |none=>rw[if_neg λk=>by simp at k];refine b8 2 [(2,.box true<|oC ⟨s,some m⟩),(3,.box true<|oC ⟨t,none⟩),(4,.box true<|.agg [.i 0,.nil])] True ?_ λ_=>ht;refine r1 rfl (by simp[ag,and_true];exact dc _ _ _ rfl ha) ?_;exact aP ao ⟨ab,ab,ab,ao⟩
  |some n=>rw[if_neg λk=>by simp at k];refine b8 2 [(2,.box true<|oC ⟨s,some m⟩),(3,.box true<|oC ⟨t,some n⟩),(4,.box true<|.agg [.i 0,.nil])] True ?_ λ_=>ht;refine r1 rfl (by simp[ag,and_true];exact dc _ _ _ rfl ha) ?_;exact aP ao ⟨ab,ab,ab,ao⟩
section
variable{x y:Int}{K L:Nat}{a b:Nm}
def oL(h:a8 a)(hl:fj a K):fj (iS a) K:=by unfold fj at *;rw[(dN a h).1,ahE];exact hl
def ID(ha:a8 a)(hb:a8 b)(la:fj a K)(lb:fj b K):fj (xW a b) (K+1):=by unfold fj at *;rw[(kv a b ha hb).1];exact acX (length_le<|Int.natAbs_add_le _ _)<|nY la lb
def I2(a b:Nm):Nm:=xW a<|iS b
def yn(a b:Nm)(ha:a8 a)(hb:a8 b):nv (I2 a b)=nv a-nv b/\a8 (I2 a b):=by obtain⟨e1,e2⟩:=dN b hb;obtain⟨e3,e4⟩:=kv a (iS b) ha e2;exact⟨by unfold I2;omega,e4⟩
def Mh(a b:Nm)(ha:a8 a)(hb:a8 b)(la:fj a K)(lb:fj b K)(hK:K<2^39):aL Tryz.prog 199 [oC a,oC b] (oC<|I2 a b):=by
 have hn:=pK b hb lb (by omega);have hs:=D1 a (iS b) ha (dN b hb).2 la (oL hb lb) hK;unfold I2;generalize iS b=c at*;generalize xW a c=r at*;refine bE Tryz.func199 rfl ?_;obtain⟨s,w⟩:=a;obtain⟨t,v⟩:=b;obtain⟨s',w'⟩:=c;obtain⟨s'',w''⟩:=r;cases w<;>cases v<;>cases w'<;>cases w''
 all_goals
  refine r0 rfl<|bG rfl hn rfl<|bG rfl hs rfl<|k0 rfl (by kernel_rfl)<|bB rfl
def u9(x y:Int):Prop:=x.natAbs*y.natAbs/18446744073709551616=0/\x.natAbs*y.natAbs%18446744073709551616<=9223372036854775807
instance(x y:Int):Decidable (u9 x y):=by unfold u9;infer_instance
def jw(a b:Nm):Nm:=if a.w=none/\b.w=none/\u9 a.s b.s then⟨a.s*b.s,none⟩else rZ (decide (a.s<0)!=decide (b.s<0)) ((nv a).natAbs*(nv b).natAbs)
def Ct(h:u9 x y):x.natAbs*y.natAbs<=9223372036854775807:=by obtain⟨h1,h2⟩:=h;omega
def sign_mul:x*y=if decide (x<0)!=decide (y<0)then -((x.natAbs*y.natAbs:Nat):Int)else((x.natAbs*y.natAbs:Nat):Int):=by
 have ex:(x.natAbs:Int)=if x<0 then -x else x:=by split<;>omega
 have ey:(y.natAbs:Int)=if y<0 then -y else y:=by split<;>omega
 rw[adB,ex,ey];by_cases h1:x<0<;>by_cases h2:y<0<;>simp[h1,h2,ahZ,Int.mul_neg]
def cB(a b:Nm)(ha:a8 a)(hb:a8 b):nv (jw a b)=nv a*nv b/\a8 (jw a b):=by
 have a1:=iI a ha;have b1:=iI b hb;unfold jw;split
 ·rename_i g;obtain⟨s,w⟩:=a;obtain⟨t,v⟩:=b;obtain⟨rfl,rfl,g3⟩:w=none/\v=none/\u9 s t:=g;have:=Ct g3;refine⟨rfl,?_⟩;show -9223372036854775808<=s*t/\s*t<=9223372036854775807;rw[sign_mul];split<;>omega
 refine⟨?_,o4 _ _⟩;rw[mY,sign_mul];have ea:decide (a.s<0)=decide (nv a<0):=by rw[decide_eq_decide];exact a1.1
 have eb:decide (b.s<0)=decide (nv b<0):=by rw[decide_eq_decide];exact b1.1
 rw[ea,eb]
def fV(ha:a8 a)(hb:a8 b)(la:fj a K)(lb:fj b L):fj (jw a b) (K+L):=by unfold fj at *;rw[(cB a b ha hb).1,afU];exact acX (dK _ _)<|ajh la lb
def Is(x y:Bool):(decide ¬x=y)=(x !=y):=by cases x<;>cases y<;>rfl
def TN(a b:Nm)(ha:a8 a)(hb:a8 b)(la:fj a K)(lb:fj b L)(hK:K+L<2^39):
 AK R0 Tryz.prog Tryz.f117.ntmps (Wb Tryz.prog Tryz.f117.results.toList<|oC<|rZ (decide (a.s<0)!=decide (b.s<0))<|(nv a).natAbs*(nv b).natAbs) [.code (l8 2 (Tryz.f117.body.getD .skip)).2]
  (sl [(2,.box true<|oC a),(3,.box true<|oC b),(4,.box true<|.agg [.i 0,.nil])]):=by
 have pa:=dF a ha;have pb:=dF b hb;unfold fj at la lb;generalize (nv a).natAbs=A at*;generalize (nv b).natAbs=B at*;have Ss:=dK A B;refine b8 2 [(4,.box true<|.agg [.i 0,.nil]),(7,.u<|decide (a.s<0)),(8,.ints .u64 false<|ae A),(9,.u<|decide (b.s<0)),(10,.ints .u64 false<|ae B)] True ?_ λ_=>?_
 ·obtain⟨s,w⟩:=a;obtain⟨t,v⟩:=b;cases w<;>cases v
  all_goals
   refine r0 rfl<|bF rfl pa rfl<|r0 rfl<|bF rfl pb rfl<|r0 rfl<|aP ao ⟨ab,ab,ab,ab,ab,ao⟩
 generalize decide (a.s<0)=sa;generalize decide (b.s<0)=sb;refine r0 rfl<|bF rfl (Cs A B (by omega)<|by omega) rfl<|cl rfl (by rw[Is];rfl) (jU (sa !=sb) (A*B)<|by omega) rfl ?_;generalize rZ (sa !=sb) (A*B)=r;obtain⟨s',w'⟩:=r;cases w'<;>exact r0 rfl<|bB rfl
def MR(a b:Nm)(ha:a8 a)(hb:a8 b)(la:fj a K)(lb:fj b L)(hK:K+L<2^39):aL Tryz.prog 117 [oC a,oC b] (oC<|jw a b):=by
 have ht:=TN a b ha hb la lb hK;have dc:∀(x:Nm)(s:Int)(m:Nat),x=⟨s,some m⟩->a8 x->ae m≠[]:=by rintro x s m rfl h;have:9223372036854775808<=m:=h.2;exact ni m (by omega)
 unfold jw;refine bE Tryz.func117 rfl ?_;obtain⟨s,w⟩:=a;obtain⟨t,v⟩:=b;cases w with
 |none=>
  cases v with
  |none=>
   have ha: -9223372036854775808<=s/\s<=9223372036854775807:=ha;have hb: -9223372036854775808<=t/\t<=9223372036854775807:=hb;have ms:=kg s.natAbs t.natAbs (by omega) (by omega);refine b8 2 [(2,.box true<|oC ⟨s,none⟩),(3,.box true<|oC ⟨t,none⟩),(4,.box true<|.agg [.i 0,.nil])] (¬u9 s t) ?_ λg=>?_
   ·refine r0 rfl<|bG rfl (uT s ha) rfl<|r0 rfl<|bG rfl (uT t hb) rfl<|r0 rfl<|bG rfl ms rfl<|k0 rfl (by kernel_rfl)<|aC 31 rfl (λh1=>?_) (λh1=>?_)
    ·have h1:((s.natAbs*t.natAbs/18446744073709551616:Nat):Int)=0:=h1;refine r0 rfl<|bH rfl (λh2=>?_) (λh2=>?_)
     ·have h2:((s.natAbs*t.natAbs%18446744073709551616:Nat):Int)<=9223372036854775807:=h2;have hf:u9 s t:=⟨by omega,by omega⟩;have hv:=Ct hf;rw[if_pos ⟨rfl,rfl,hf⟩];have hsm:=sign_mul (x:=s) (y:=t);refine r0 rfl<|nB rfl rfl rfl (λh3=>?_) (λh3=>?_)
      ·have h3:(decide (s<0)!=decide (t<0))=true:=by rw[<-Is];exact h3
       rw[h3,if_pos rfl]at hsm;refine r1 rfl (by simp[ag,and_true]<;>omega) ?_;refine aG rfl ⟨congrArg SV.i ?_,ao,ao⟩;show _=s*t;rw[hsm];omega
      have h3:(decide (s<0)!=decide (t<0))=false:=by rw[<-Is];exact h3
      rw[h3,if_neg<|by simp]at hsm;refine r1 rfl (by simp[ag,and_true]<;>omega) ?_;refine aG rfl ⟨congrArg SV.i ?_,ao,ao⟩;show _=s*t;rw[hsm];omega
     have h2:¬((s.natAbs*t.natAbs%18446744073709551616:Nat):Int)<=9223372036854775807:=h2;refine r0 rfl<|aP (λg=>by have:=g.2;omega) ⟨ab,ab,ab,ao⟩
    have h1:¬((s.natAbs*t.natAbs/18446744073709551616:Nat):Int)=0:=h1;refine r0 rfl<|aP (λg=>by have:=g.1;omega) ⟨ab,ab,ab,ao⟩
   rw[if_neg λk=>g k.2.2];exact ht
  |some n=>rw[if_neg λk=>by simp at k];refine b8 2 [(2,.box true<|oC ⟨s,none⟩),(3,.box true<|oC ⟨t,some n⟩),(4,.box true<|.agg [.i 0,.nil])] True ?_ λ_=>ht;refine r1 rfl (by simp[ag,and_true];exact dc _ _ _ rfl hb) ?_;exact aP ao ⟨ab,ab,ab,ao⟩
 |some m=>
  cases v with
  |none=>rw[if_neg λk=>by simp at k];refine b8 2 [(2,.box true<|oC ⟨s,some m⟩),(3,.box true<|oC ⟨t,none⟩),(4,.box true<|.agg [.i 0,.nil])] True ?_ λ_=>ht;refine r1 rfl (by simp[ag,and_true];exact dc _ _ _ rfl ha) ?_;exact aP ao ⟨ab,ab,ab,ao⟩
  |some n=>rw[if_neg λk=>by simp at k];refine b8 2 [(2,.box true<|oC ⟨s,some m⟩),(3,.box true<|oC ⟨t,some n⟩),(4,.box true<|.agg [.i 0,.nil])] True ?_ λ_=>ht;refine r1 rfl (by simp[ag,and_true];exact dc _ _ _ rfl ha) ?_;exact aP ao ⟨ab,ab,ab,ao⟩
end
section
variable{f:FuncId}{K:Nat}{a r:Nm}
def ws(a:Nm):List Int:=match a.w with
 |none=>[]
 |some m=>ae m
def eN(a:Nm):SV:=.agg [.i a.s,.fe .u64<|ws a]
def uM(h:a8 a):ws a=[]↔a.w=none:=by
 obtain⟨s,w⟩:=a;cases w with
 |none=>exact⟨λ_=>rfl,λ_=>rfl⟩
 |some m=>have:=h.2;exact⟨λg=>absurd g<|ni m<|by omega,λg=>by simp at g⟩
def rj(h:a8 a):(oC a).den=(eN a).den:=by
 obtain⟨s,w⟩:=a;cases w with
 |none=>rfl
 |some m=>
  have hm:=h.2;have dc:=ni m (by omega);show AV.agg [AV.v<|.int .i64 s,.list .shr 1 ((ae m).map λa=>.v<|.int .u64 a)]=AV.agg [AV.v<|.int .i64 s,.list (flm<|ae m) (szm<|ae m)<|(ae m).map λa=>.v<|.int .u64 a];cases hd:ae m with
  |nil=>simp_all
  |cons x xs=>rfl
def eN1(ha:a8 a)(hr:a8 r)(h:aL Tryz.prog f [oC a] (oC r)):aL Tryz.prog f [eN a] (eN r):=h.same (by simp[au,rj ha])<|rj hr
def eN2{b:Nm}(ha:a8 a)(hb:a8 b)(hr:a8 r)(h:aL Tryz.prog f [oC a,oC b] (oC r)):aL Tryz.prog f [eN a,eN b] (eN r):=h.same (by simp[au,rj ha,rj hb])<|rj hr
def Hm(a:Nm)(h:a8 a):aL Tryz.prog 194 [eN a] (.bX [.u<|decide (a.s<0),.ints .u64 false<|ae (nv a).natAbs]):=(dF a h).same (by simp[au,rj h]) rfl
def yq(a:Nm)(h:a8 a):aL Tryz.prog 112 [eN a] (.i (nv a).sign):=(uU a h).same (by simp[au,rj h]) rfl
def FI(a:Nm)(h:a8 a)(hl:fj a K)(hK:K<2^40):aL Tryz.prog 172 [eN a] (eN<|iS a):=eN1 h (dN a h).2<|pK a h hl hK
def aaf(a:Nm)(h:a8 a)(hl:fj a K)(hK:K<2^40):aL Tryz.prog 189 [eN a] (eN<|zD a):=eN1 h (nC a h).2<|On a h hl hK
def Qg(a b:Nm)(ha:a8 a)(hb:a8 b)(la:fj a K)(lb:fj b K)(hK:K<2^39):aL Tryz.prog 152 [eN a,eN b] (eN<|xW a b):=eN2 ha hb (kv a b ha hb).2<|D1 a b ha hb la lb hK
def Zl(a b:Nm)(ha:a8 a)(hb:a8 b)(la:fj a K)(lb:fj b K)(hK:K<2^39):aL Tryz.prog 199 [eN a,eN b] (eN<|I2 a b):=eN2 ha hb (yn a b ha hb).2<|Mh a b ha hb la lb hK
def rE(a b:Nm)(ha:a8 a)(hb:a8 b){L:Nat}(la:fj a K)(lb:fj b L)(hK:K+L<2^39):aL Tryz.prog 117 [eN a,eN b] (eN<|jw a b):=eN2 ha hb (cB a b ha hb).2<|MR a b ha hb la lb hK
def T3(neg:Bool)(m:Nat)(hl:(ae m).length<2^40):aL Tryz.prog 197 [.u neg,.ints .u64 false<|ae m] (eN<|rZ neg m):=(jU neg m hl).same rfl<|rj<|o4 _ _
def JK(n:Int):aL Tryz.prog 115 [.i n] (eN ⟨n,none⟩):=by refine bE Tryz.func115 rfl<|r0 rfl<|aG rfl<|⟨rfl,rfl,ao⟩
def WZ(a:Nm):aL Tryz.prog 110 [eN a] (.bX [.i a.s,.u<|decide (ws a=[])]):=by refine bE Tryz.func110 rfl<|k0 rfl (by kernel_rfl)<|bB rfl
def VE(a b:Nm)(ha:a8 a)(hb:a8 b)(la:fj a K)(lb:fj b K)(hK:K<2^39):aL Tryz.prog 118 [eN a,eN b] (.i (nv a-nv b).sign):=by
 have h1:=Zl a b ha hb la lb hK;obtain⟨e1,e2⟩:=yn a b ha hb;have h2:=yq (I2 a b) e2;rw[e1]at h2;have na:=uM ha;have nb:=uM hb;have va:=iI a ha;have vb:=iI b hb;refine bE Tryz.func118 rfl<|b8 2 [(2,.box true<|eN a),(3,.box true<|eN b)] True ?_ λ_=>?_
 ·refine r0 rfl<|aC 8 rfl (λg1=>?_) (λg1=>?_)
  ·refine r0 rfl<|bH rfl (λg2=>?_) (λg2=>?_)
   ·have ea:=va.2 (na.1 g1);have eb:=vb.2<|nb.1 g2;rw[ea,eb];refine r0 rfl<|bH rfl (λg3=>?_) (λg3=>?_)
    ·have g3:a.s<b.s:=g3;refine r0 rfl<|aG rfl<|an.of_eq<|congrArg SV.i<|by rw[ahO<|by omega]
    have g3:¬a.s<b.s:=g3;refine r0 rfl<|bH rfl (λg4=>?_) (λg4=>?_)
    ·have g4:b.s<a.s:=g4;refine r0 rfl<|aG rfl<|an.of_eq<|congrArg SV.i<|by rw[agS<|by omega]
    have g4:¬b.s<a.s:=g4;refine r0 rfl<|aG rfl<|an.of_eq<|congrArg SV.i<|by rw[show a.s-b.s=0 by omega];rfl
   refine r0 rfl<|aP ao ⟨ab,ab,ao⟩
  refine r0 rfl<|aP ao ⟨ab,ab,ao⟩
 refine r0 rfl<|bF rfl h1 rfl<|r0 rfl<|bF rfl h2 rfl<|r0 rfl<|bB rfl
end
def CQ{x:Int}{K:Nat}(h:(ae x.natAbs).length<=K):∀n,(ae (x^n).natAbs).length<=K*n+1
 |0=>by have:=gJ (m:=1) (by decide);simpa using this
 |n+1=>by rw[adf,afU,Nat.mul_succ];have:=CQ h n;have:=dK (x^n).natAbs x.natAbs;omega
def oK:Nat->Nm->Nm->Nat->Nm
 |0,out,_,_=>out
 |f+1,out,a,k=>if k=0 then out else oK f (if k%2=1 then jw out a else out) (if 1<k then jw a a else a) (k/2)
def yx(a:Nm)(k:Nat):Nm:=oK k ⟨1,none⟩ a k
def Hq:a8 ⟨1,none⟩:=show(-9223372036854775808:Int)<=1/\(1:Int)<=9223372036854775807 by decide
def lF(f:Nat)(out a:Nm):oK f out a 0=out:=by cases f<;>rfl
def Ch:∀(f g:Nat)(out a:Nm)(k:Nat),k<=f->k<=g->oK f out a k=oK g out a k
 |0,g,out,a,k,h,_=>by
  have:k=0:=by omega
  subst this;rw[lF,lF]
 |f+1,0,out,a,k,_,h=>by
  have:k=0:=by omega
  subst this;rw[lF,lF]
 |f+1,g+1,out,a,k,h1,h2=>by
  rw[oK,oK];split
  ·rfl
  exact Ch f g _ _ _ (by omega) (by omega)
def aj8(k:Nat)(h:k<9223372036854775808):IntKind.i64.wrap ((BitVec.ofInt IntKind.i64.bits (k:Int)&&&BitVec.ofInt IntKind.i64.bits 1).toNat:Int)=((k%2:Nat):Int):=by
 have e:BitVec.ofInt IntKind.i64.bits 1=BitVec.ofNat 64 (2^1-1):=rfl;rw[e,Uu];have h1:(BitVec.ofNat 64 k&&&BitVec.ofNat 64 (2^1-1)).toNat=(k%2^64)&&&((2^1-1)%2^64):=by simp
 rw[show((2:Nat)^1-1)%2^64=2^1-1 from rfl,Nat.and_two_pow_sub_one_eq_mod]at h1;show(((BitVec.ofNat 64 k&&&BitVec.ofNat 64 (2^1-1)).toNat:Int)+_)%_-_=_;omega
def ahG(k:Nat):(k:Int).fdiv (2^min (Int.toNat 1) IntKind.i64.bits)=((k/2:Nat):Int):=by rw[ajs _<|by decide];rfl
def Tw(a:Nm)(n:Nat)(ha:a8 a){K:Nat}(la:fj a K)(hn:n<2^40)(hK:2*(K*(2*n)+1)<2^39):aL Tryz.prog 116 [eN a,.i n] (eN<|yx a n):=by
 refine bE Tryz.func116 rfl<|r0 rfl<|bF rfl (JK 1) rfl<|r0 rfl<|oN (λ(k:Nat)(out b:Nm)=>[(1,.i k),(2,.box true<|eN b),(4,.box true<|.agg [.i 0,.nil]),(5,.box true<|eN out)])
  (λk out b=>k<=n/\a8 out/\a8 b/\yx a n=oK k out b k/\(k=0\/∃d e,d<=n/\e<=n/\e+d*k=n/\nv b=nv a^d/\nv out=nv a^e)) (λk _ _=>k) n ⟨1,none⟩ a ⟨abZ _,Hq,ha,rfl,?_⟩
  ⟨ab,ab,ab,ab,ao⟩ ?_
 ·rcases adp n with g|g
  ·exact .inl g
  exact .inr ⟨1,0,by omega,by omega,by omega,by rw[adf,ahd,agv],by rw[ahd];rfl⟩
 rintro k out b⟨hk,ho,hb,hp,hd⟩;refine r0 rfl<|bH rfl (λh1=>?_) (λh1=>?_)
 ·have h0:0<k:=by omega
  obtain⟨d,e,d1,d2,d3,d4,d5⟩:=hd.resolve_left (by omega);have ko:yx a n=oK (k/2) (if k%2=1 then jw out b else out) (if 1<k then jw b b else b) (k/2):=by
   rw[hp];obtain⟨f,rfl⟩:∃f,k=f+1:=⟨k-1,by omega⟩
   conv=>lhs;rw[oK,if_neg<|by omega]
   exact Ch _ _ _ _ _ (by omega)<|abZ _
  have lb:fj b (K*(2*n)+1):=by unfold fj at *;rw[d4];exact acX (CQ la d)<|af7 (adQ _<|by omega) 1
  have lo:fj out (K*(2*n)+1):=by unfold fj at *;rw[d5];exact acX (CQ la e)<|af7 (adQ _<|by omega) 1
  obtain⟨m1,m2⟩:=cB out b ho hb;obtain⟨m3,m4⟩:=cB b b hb hb;have hdv:k=2*(k/2)+k%2:=by omega
  have UI:d*k=2*d*(k/2)+d*(k%2):=by
   conv=>lhs;rw[hdv,ahk]
   rw[ac8 2 d,adz]
  have ea:=aj8 k (by omega);have En:a8 (if k%2=1 then jw out b else out):=by split<;>assumption
  have Yp:a8 (if 1<k then jw b b else b):=by split<;>assumption
  refine rn 3 rfl<|b8 1 [(1,.i k),(2,.box true<|eN b),(4,.box true<|.agg [.i 0,.nil]),(5,.box true<|eN<|if k%2=1 then jw out b else out)] True ?_ λ_=>?_
  ·refine r0 rfl ?_;rw[ea];refine bH rfl (λh2=>?_) (λh2=>?_)
   ·have h2:k%2=1:=by omega
    rw[if_pos h2];refine r0 rfl<|bF rfl (rE out b ho hb lo lb<|by omega) rfl<|r0 rfl<|aP ao ⟨ab,ab,ab,ab,ao⟩
   have h2:¬k%2=1:=by omega
   rw[if_neg h2];refine r0 rfl<|aP ao ⟨ab,ab,ab,ab,ao⟩
  have hov:nv (if k%2=1 then jw out b else out)=nv a^(e+d*(k%2)):=by
   split
   ·rename_i g;rw[m1,d5,d4,g,Nat.mul_one,afq]
   rename_i g;rw[d5,show k%2=0 by omega,Nat.mul_zero,ag6]
  generalize (if k%2=1 then jw out b else out)=Tz at*;have es:=ahG k;have fin:a8 (if 1<k then jw b b else b)->(k/2<=n/\a8 Tz/\a8 (if 1<k then jw b b else b)/\yx a n=oK (k/2) Tz (if 1<k then jw b b else b) (k/2)/\(k/2=0\/∃d e,d<=n/\e<=n/\e+d*(k/2)=n/\nv (if 1<k then jw b b else b)=nv a^d/\nv Tz=nv a^e)):=by
   intro hx;refine⟨by omega,En,hx,ko,?_⟩;rcases adp (k/2)with g|g
   ·exact .inl g
   have g1:1<k:=by omega
   have g2:2*d<=2*d*(k/2):=ajl _ g;have e2:d*(k%2)<=d*k:=adQ _ (by omega);refine .inr ⟨2*d,e+d*(k%2),by omega,by omega,by omega,?_,hov⟩;rw[if_pos g1,m3,d4,<-afq]
   congr 1;omega
  refine r0 rfl<|bH rfl (λh2=>?_) (λh2=>?_)
  ·have h2:1<k:=by omega
   rw[if_pos h2]at fin;refine r0 rfl<|bF rfl (rE b b hb hb lb lb<|by omega) rfl<|r1 rfl (by simp[ag,and_true]<;>omega) ?_;exact again (k/2,Tz,jw b b) (by dsimp only;omega) (fin m4) ⟨⟨rfl,an.of_eq<|congrArg SV.i es⟩,ab,ab,ab,ao⟩
  have h2:¬1<k:=by omega
  rw[if_neg h2]at fin;refine r1 rfl (by simp[ag,and_true]<;>omega) ?_;exact again (k/2,Tz,b) (by dsimp only;omega) (fin hb) ⟨⟨rfl,an.of_eq<|congrArg SV.i es⟩,ab,ab,ab,ao⟩
 have:k=0:=by omega
 subst this;rw[lF]at hp;refine r0 rfl<|aG rfl<|an.of_eq<|congrArg eN hp.symm
def Cg:∀(f k:Nat)(out a:Nm),k<=f->a8 out->a8 a->nv (oK f out a k)=nv out*nv a^k/\a8 (oK f out a k)
 |0,k,out,a,h,ho,_=>by
  have:k=0:=by omega
  subst this;exact⟨by rw[lF,ahd,agB],ho⟩
 |f+1,k,out,a,h,ho,ha=>by
  rw[oK];split
  ·rename_i g;simp_all
  obtain⟨m1,m2⟩:=cB out a ho ha;obtain⟨m3,m4⟩:=cB a a ha ha;have Pk:a8 (if k%2=1 then jw out a else out):=by split<;>assumption
  have Yr:a8 (if 1<k then jw a a else a):=by split<;>assumption
  obtain⟨e1,e2⟩:=Cg f (k/2) _ _ (by omega) Pk Yr;refine⟨?_,e2⟩;rw[e1];have h1:nv (if k%2=1 then jw out a else out)=nv out*nv a^(k%2):=by
   split
   ·rename_i g;rw[m1,g,adf,ahd,agv]
   rename_i g;rw[show k%2=0 by omega,ahd,agB]
  have h2:nv (if 1<k then jw a a else a)^(k/2)=nv a^(2*(k/2)):=by
   split
   ·rw[m3,Int.pow_mul];rw[adf,adf,ahd,agv]
   rw[show k/2=0 by omega]
  rw[h1,h2,adh,<-afq]
  congr 2;omega
def pC(a:Nm)(n:Nat)(ha:a8 a):nv (yx a n)=nv a^n/\a8 (yx a n):=by obtain⟨e1,e2⟩:=Cg n n ⟨1,none⟩ a .refl Hq ha;exact⟨by unfold yx;rw[e1];show 1*_=_;rw[agv],e2⟩
def bl(x:Nat):Nat:=if x=0 then 0 else Nat.log2 x+1
def LF(x:Nat):x<2^bl x:=by
 unfold bl;split
 ·rename_i h;subst h;decide
 rename_i h;exact(Nat.log2_lt h).1<|ahb _
def xO{x:Nat}(h:x≠0):2^(bl x-1)<=x:=by unfold bl;rw[if_neg h];exact(Nat.le_log2 h).1 .refl
def aad{x n:Nat}(h1:x<2^(n+1))(h2:2^n<=x):bl x=n+1:=by
 have h0:x≠0:=by have:0<2^n:=aef (by decide);omega
 unfold bl;rw[if_neg h0];have a:=(Nat.log2_lt h0).2 h1;have b:=(Nat.le_log2 h0).2 h2;omega
def zu{x:Nat}(h:x≠0):0<bl x:=by unfold bl;rw[if_neg h];omega
def xM{x k:Nat}(h:2^k<=x):bl x=k+bl (x/2^k):=by
 have hp:0<2^k:=aef (by decide);have hy:x/2^k≠0:=by have:=Nat.div_pos h hp;omega
 have h1:=LF<|x/2^k;have h2:=xO hy;have h3:=zu hy;obtain⟨n,hn⟩:∃n,bl (x/2^k)=n+1:=⟨bl (x/2^k)-1,by omega⟩;rw[hn]at h1 h2⊢;rw[<-afc];refine aad ?_ ?_
 ·rw[afc,afy];rw[aeE hp]at h1;rw[ac8];exact h1
 rw[Nat.add_sub_cancel]at h2;rw[ajt hp]at h2;rw[afy,ac8];exact h2
def aaH{s:Int}{m:Nat}(y:Nat)(hm:0<m)(h:(2:Int)^min s.toNat IntKind.u64.bits=m):(y:Int).fdiv (2^min s.toNat IntKind.u64.bits)=((y/m:Nat):Int):=by rw[h,ajs _<|by omega];rfl
def uR:List UInt8:=[0,1,2,2,3,3,3,3,4,4,4,4,4,4,4,4,5,5,5,5,5,5,5,5,5,5,5,5,5,5,5,5,6,6,6,6,6,6,6,6,6,6,6,6,6,6,6,6,6,6,6,6,6,6,6,6,6,6,6,6,6,6,6,6,7,7,7,7,7,7,7,7,7,7,7,7,7,7,7,7,7,7,7,7,7,7,7,7,7,7,7,7,7,7,7,7,7,7,7,7,7,7,7,7,7,7,7,7,7,7,7,7,7,7,7,7,7,7,7,7,7,7,7,7,7,7,7,7,8,8,8,8,8,8,8,8,8,8,8,8,8,8,8,8,8,8,8,8,8,8,8,8,8,8,8,8,8,8,8,8,8,8,8,8,8,8,8,8,8,8,8,8,8,8,8,8,8,8,8,8,8,8,8,8,8,8,8,8,8,8,8,8,8,8,8,8,8,8,8,8,8,8,8,8,8,8,8,8,8,8,8,8,8,8,8,8,8,8,8,8,8,8,8,8,8,8,8,8,8,8,8,8,8,8,8,8,8,8,8,8,8,8,8,8,8,8,8,8,8,8,8,8,8,8,8,8]
def SM:uR.length=256:=by decide
def WU:∀u,u<256->u<2^(uR.getD u 0).toNat/\(u=0\/2^((uR.getD u 0).toNat-1)<=u/\0<(uR.getD u 0).toNat)/\(u=0->(uR.getD u 0).toNat=0):=by decide
def WV{u:Nat}(h:u<256):(uR.getD u 0).toNat=bl u:=by
 obtain⟨h1,h2,h3⟩:=WU u h;rcases h2 with h2|⟨h2,h4⟩
 ·rw[h2];rfl
 obtain⟨n,hn⟩:∃n,(uR.getD u 0).toNat=n+1:=⟨(uR.getD u 0).toNat-1,by omega⟩;rw[hn]at h1 h2⊢;exact(aad h1 h2).symm
def Av(x:Nat)(hx:x<18446744073709551616):aL Tryz.prog 195 [.n .u64 x] (.i<|bl x):=by
 refine bE Tryz.func195 rfl<|xr 2 (λ(y n:Nat)=>[(0,.n .u64 y),(2,.i n)]) (λy n=>y<4294967296/\bl x=n+bl y/\n<=32) ?_ ?_
 ·refine r0 rfl<|bH rfl (λh=>?_) (λh=>?_)
  ·have h:(4294967296:Int)<=x:=h;have hs:bl x=32+bl (x/4294967296):=xM (x:=x) (k:=32) (by omega);refine r1 rfl (by simp only[ag];decide) ?_;exact meet (x/4294967296,32) ⟨by dsimp only;omega,hs,by dsimp only;omega⟩ ⟨⟨rfl,an.of_eq<|congrArg (SV.n .u64)<|aaH (m:=4294967296) x (by decide)<|by decide⟩,ab,ao⟩
  have h:¬(4294967296:Int)<=x:=h;refine r0 rfl<|meet (x,0) ⟨by dsimp only;omega,by dsimp only;omega,by dsimp only;omega⟩ ⟨ab,ab,ao⟩
 rintro y n⟨h1,h2,h3⟩;refine xr 1 (λ(z k:Nat)=>[(0,.n .u64 z),(2,.i k)]) (λz k=>z<65536/\bl x=k+bl z/\k<=48) ?_ ?_
 ·refine r0 rfl<|bH rfl (λh=>?_) (λh=>?_)
  ·have h:(65536:Int)<=y:=h;have hs:bl y=16+bl (y/65536):=xM (x:=y) (k:=16) (by omega);refine r1 rfl (by simp only[ag,and_true,true_and]<;>omega) ?_;exact meet (y/65536,n+16) ⟨by dsimp only;omega,by dsimp only;rw[h2,hs];omega,by dsimp only;omega⟩ ⟨⟨rfl,an.of_eq<|congrArg (SV.n .u64)<|aaH (m:=65536) y (by decide)<|by decide⟩,ab,ao⟩
  have h:¬(65536:Int)<=y:=h;refine r0 rfl<|meet (y,n) ⟨by dsimp only;omega,h2,by dsimp only;omega⟩ ⟨ab,ab,ao⟩
 rintro z k⟨g1,g2,g3⟩;refine xr 1 (λ(z k:Nat)=>[(0,.n .u64 z),(2,.i k)]) (λz k=>z<256/\bl x=k+bl z/\k<=56) ?_ ?_
 ·refine r0 rfl<|bH rfl (λh=>?_) (λh=>?_)
  ·have h:(256:Int)<=z:=h;have hs:bl z=8+bl (z/256):=xM (x:=z) (k:=8) (by omega);refine r1 rfl (by simp only[ag,and_true,true_and]<;>omega) ?_;exact meet (z/256,k+8) ⟨by dsimp only;omega,by dsimp only;rw[g2,hs];omega,by dsimp only;omega⟩ ⟨⟨rfl,an.of_eq<|congrArg (SV.n .u64)<|aaH (m:=256) z (by decide)<|by decide⟩,ab,ao⟩
  have h:¬(256:Int)<=z:=h;refine r0 rfl<|meet (z,k) ⟨by dsimp only;omega,g2,by dsimp only;omega⟩ ⟨ab,ab,ao⟩
 rintro u m⟨k1,k2,k3⟩;have hw:IntKind.u8.wrap (u:Int)=(u:Int):=by show(u:Int)%256=u;omega
 have hu:(u:Int).toNat=u:=by omega
 have hb:=WV k1;have hb8:bl u<=8:=by
  rw[<-hb];have:∀v,v<256->(uR.getD v 0).toNat<=8:=by decide
  exact this u k1
 have hl:=SM;refine r1 rfl ?_ ?_
 ·show ag [(m:Int)+((uR.getD (IntKind.u8.wrap u).toNat 0).toNat:Nat)<=9223372036854775807,-9223372036854775808<=(m:Int)+((uR.getD (IntKind.u8.wrap u).toNat 0).toNat:Nat),(((uR.getD (IntKind.u8.wrap u).toNat 0).toNat:Nat):Int)<=9223372036854775807,-9223372036854775808<=(((uR.getD (IntKind.u8.wrap u).toNat 0).toNat:Nat):Int),IntKind.u8.wrap u<(uR.length:Nat),0<=IntKind.u8.wrap u];simp only[ag,and_true,hw,hu,hb,hl];omega
 refine aG rfl<|bC ?_;show(m:Int)+((uR.getD (IntKind.u8.wrap u).toNat 0).toNat:Nat)=_;rw[hw,hu,hb];omega
def CJ(x:Nat)(hx:x<18446744073709551616):aL Tryz.prog 243 [.n .u64 x] (.i<|64-(bl x:Int)):=by
 have hb:bl x<=64:=by
  rcases adp x with g|g
  ·subst g;decide
  have h1:=xO (x:=x) (by omega);rcases ac1 64 (bl x)with h|h
  ·have:2^64<=2^(bl x-1):=adD (by decide) (by omega);omega
  exact h
 refine bE Tryz.func243 rfl<|r0 rfl<|bF rfl (Av x hx) rfl<|r1 rfl (by simp[ag]<;>omega) ?_;exact bB rfl
def OD{A:Nat}(h:A≠0):A/2^(64*((ae A).length-1))=((ae A).getD ((ae A).length-1) 0).toNat/\2^(64*((ae A).length-1))<=A:=by
 have hl:=eI h;have hs:=gI (ae A)<|(ae A).length-1;rw[bc]at hs;have hd:(ae A).drop ((ae A).length-1)=[(ae A).getD ((ae A).length-1) 0]:=by rw[ac4<|by omega,aw<|by omega,adt<|by omega]
 have ht:((ae A).take<|(ae A).length-1).length=(ae A).length-1:=by rw[ac2];omega
 have cS:=ia<|aaq (bk A)<|(ae A).length-1;have LW:=aY<|aaq (bk A)<|(ae A).length-1;have hg:=a7 (bk A)<|(ae A).length-1;have Kx:=fZ A;rw[hd,ht]at hs;rw[ht]at cS;have hp:(18446744073709551616:Int)^((ae A).length-1)=((2^(64*((ae A).length-1)):Nat):Int):=by rw[aio];rfl
 rw[hp]at hs cS Kx;have hP:0<2^(64*((ae A).length-1)):=aef (by decide);simp only[val]at hs;generalize 2^(64*((ae A).length-1))=P at*;generalize val ((ae A).take<|(ae A).length-1)=lo at*;obtain⟨t,ht2⟩:∃t:Nat,(ae A).getD ((ae A).length-1) 0=t:=⟨((ae A).getD ((ae A).length-1) 0).toNat,by omega⟩;rw[ht2]at hs⊢;constructor
 ·have e:(A:Int)=lo+P*t:=by rw[hs];simp
  have e2:A=lo.toNat+P*t:=by omega
  rw[e2,agZ _ _ hP,aeS<|by omega];simp
 rcases Kx with g|g
 ·rw[g]at hl;cases hl
 omega
def VN(a:Nm)(h:a8 a){K:Nat}(hl:fj a K)(hK:K<2^40):aL Tryz.prog 113 [eN a] (.i<|bl (nv a).natAbs):=by
 have hp:=Hm a h;unfold fj at hl;generalize (nv a).natAbs=A at*;refine bE Tryz.func113 rfl<|r0 rfl<|bF rfl hp rfl<|r0 rfl<|bH rfl (λh1=>?_) (λh1=>?_)
 ·have hA:A=0:=by
   rcases adp A with g|g
   ·exact g
   have:=eI (n:=A) (by omega);omega
  subst hA;refine r0 rfl<|aG rfl<|an.of_eq<|congrArg SV.i rfl
 have h1:¬((ae A).length:Int)=0:=h1;have hA:A≠0:=by rintro rfl;rw[cD]at h1;exact h1 rfl
 obtain⟨t1,t2⟩:=OD hA;obtain⟨x,hx,So⟩:=mo A<|(ae A).length-1;rw[hx]at t1;have hs:=xM t2;rw[t1]at hs;have en:(((ae A).length:Int)-1).toNat=(ae A).length-1:=by omega
 have ex:(x:Int).toNat=x:=by omega
 rw[ex]at hs;have KG:bl x<=64:=by
  rcases adp x with g|g
  ·subst g;decide
  have h1:=xO (x:=x) (by omega);rcases ac1 64 (bl x)with h|h
  ·have:2^64<=2^(bl x-1):=adD (by decide) (by omega);omega
  exact h
 refine r1 rfl (by simp[ag,and_true,en]<;>omega) ?_;refine cl rfl (by rw[en,hx];rfl) (Av x So) rfl ?_;refine r1 rfl (by simp[ag,and_true]<;>omega) ?_;refine aG rfl<|bC ?_;rw[hs];omega
structure Fr where
 n:Nm
 d:Nm
def eF(f:Fr):SV:=.agg [.i f.n.s,.fe .u64<|ws f.n,.i f.d.s,.fe .u64<|ws f.d]
structure gT(f:Fr)(q:Rat):Prop where
 n:a8 f.n
 d:a8 f.d
 vn:nv f.n=q.num
 vd:nv f.d=q.den
def GM(a:Nm):aL Tryz.prog 111 [eN a] (eF ⟨a,⟨1,none⟩⟩):=by refine bE Tryz.func111 rfl<|r0 rfl<|bG rfl (JK 1) rfl<|k0 rfl (by kernel_rfl)<|bB rfl
def f_s(n:Int):aL Tryz.prog 231 [.i n] (eF ⟨⟨n,none⟩,⟨1,none⟩⟩):=by refine bE Tryz.func231 rfl<|r0 rfl<|bF rfl (JK n) rfl<|bF rfl (GM ⟨n,none⟩) rfl<|r0 rfl<|bB rfl
def PD(f:Fr){q:Rat}(h:gT f q):aL Tryz.prog 57 [eF f] (.i q.num.sign):=by have hs:=yq f.n h.n;rw[h.vn]at hs;refine bE Tryz.func57 rfl<|r0 rfl<|bF rfl hs rfl<|r0 rfl<|bB rfl
def HY(f:Fr){q:Rat}(h:gT f q){K:Nat}(hl:fj f.n K)(hK:K<2^40):aL Tryz.prog 93 [eF f] (eF ⟨iS f.n,f.d⟩)/\gT ⟨iS f.n,f.d⟩ (-q):=by refine⟨?_,⟨(dN f.n h.n).2,h.d,by rw[(dN f.n h.n).1,h.vn,ahR],by rw[h.vd,Rat.neg_den]⟩⟩;refine bE Tryz.func93 rfl<|r0 rfl<|bG rfl (FI f.n h.n hl hK) rfl<|k0 rfl (by kernel_rfl)<|bB rfl
section
variable{B d q r u y0 y1:Nat}
structure DL(B u d y1 y0 q r:Nat):Prop where
 eq:r+q*y1=u
 up:(u*B+d)/(y1*B+y0)<=q
 hi:q<=B+1
 lt:r<B
structure DH(B u d y1 y0:Nat):Prop where
 b:4<=B
 n:B<=2*y1
 m:y1<B
 l:y0<B
 u:u<y1*B+y0
 d:d<B
def DH.pos(h:DH B u d y1 y0):0<y1*B+y0:=by have:=ahD (show 0<y1 by have:=h.n;have:=h.b;omega) (show 0<B by have:=h.b;omega);omega
def DH.aaS(h:DH B u d y1 y0):(u*B+d)/(y1*B+y0)<B:=by rw[aeE h.pos];have:(u+1)*B<=(y1*B+y0)*B:=adb _ h.u;rw[ac7]at this;have:=h.d;rw[ac8 B];omega
def DL.start(h:DH B u d y1 y0):DL B u d y1 y0 (u/y1) (u%y1):=by
 have hp:=h.pos;obtain⟨h0,h1,h2,h3,h4,h5⟩:=h;have hy:0<y1:=by omega
 have e:=afF u y1;have hm:=adg u hy;have hq:u/y1<B+2:=by rw[aeE hy,ac7,ac8 B];omega
 refine⟨by rw[ac8];exact e,?_,by omega,by omega⟩;rw[<-Nat.lt_succ_iff,aeE hp];have h6:u+1<=(u/y1+1)*y1:=by rw[ac7,ac8];omega
 have h7:(u+1)*B<=(u/y1+1)*y1*B:=adb _ h6;have h8:(u/y1+1)*y1*B<=(u/y1+1)*(y1*B+y0):=by rw[adz];exact adQ _ (by omega)
 rw[ac7]at h7;show _<(u/y1+1)*_;omega
def DL.prod(h:DL B u d y1 y0 q r):q*(y1*B+y0)+r*B=u*B+q*y0:=by
 have e:q*(y1*B+y0)=q*y1*B+q*y0:=by rw[ahk,adz]
 rw[<-h.eq,ac7];omega
def DL.step(hh:DH B u d y1 y0)(h:DL B u d y1 y0 q r)(hc:B<=q\/r*B+d<q*y0):
 1<=q/\(r+y1<B->DL B u d y1 y0 (q-1) (r+y1))/\(B<=r+y1->(u*B+d)/(y1*B+y0)=q-1/\q-1<B):=by
 have hp:=h.prod;have hQ:=hh.aaS;have ua:=hh.pos;obtain⟨h0,h1,h2,h3,h4,h5⟩:=hh;have cS:(u*B+d)/(y1*B+y0)<q:=by
  rcases hc with hc|hc
  ·omega
  rw[aeE ua];have:u*B+d<q*(y1*B+y0):=by omega
  exact this
 have hq1:=agF (abC _) cS;obtain⟨p,rfl⟩:∃p,q=p+1:=⟨q-1,by omega⟩;have he:=h.eq;have ya:=h.hi;rw[ac7]at he;simp only[Nat.add_sub_cancel];refine⟨by omega,λh6=>⟨by omega,by omega,by omega,h6⟩,λh6=>?_⟩;have hle:p<=(u*B+d)/(y1*B+y0):=by
  rw[ajt ua];have e:p*(y1*B+y0)=p*y1*B+p*y0:=by rw[ahk,adz]
  have e1:p*y0<=B*B:=agG (by omega) (by omega);have e2:(p*y1+B)*B<=u*B:=adb _ (by omega);rw[ac7]at e2;omega
 omega
def DL.stop(hh:DH B u d y1 y0)(h:DL B u d y1 y0 q r)(hc:q*y0<=r*B+d):(u*B+d)/(y1*B+y0)=q:=by
 have hp:=h.prod;have hup:=h.up;have:q<=(u*B+d)/(y1*B+y0):=by rw[ajt hh.pos];omega
 omega
def Fq{Y:Nat}(h:(u*4294967296+d)/Y=q)(hY:0<Y)(hl:Y<=18446744073709551616):
 IntKind.u64.wrap (IntKind.u64.wrap (IntKind.u64.wrap ((u:Int)*4294967296)+d)-IntKind.u64.wrap ((q:Int)*Y))=(((u*4294967296+d)%Y:Nat):Int):=by
 have e:=afF (u*4294967296+d) Y;have hm:=adg (u*4294967296+d) hY;rw[h]at e;generalize (u*4294967296+d)%Y=r at*;have e2:(u:Int)*4294967296+d=(r:Int)+(q:Int)*Y:=by rw[adj (q:Int)];omega
 simp[SA];omega
def BQ(B U d1 d0 Y:Nat)(hY:0<Y):
 ((U*B+d1)*B+d0)/Y=(U*B+d1)/Y*B+((U*B+d1)%Y*B+d0)/Y/\((U*B+d1)*B+d0)%Y=((U*B+d1)%Y*B+d0)%Y:=by
 have e:=afF (U*B+d1) Y;have e2:(U*B+d1)*B+d0=((U*B+d1)%Y*B+d0)+Y*((U*B+d1)/Y*B):=by
  rw[<-adz]
  conv=>lhs;rw[<-e]
  rw[ac7];omega
 rw[e2];exact⟨by rw[agZ _ _ hY,Nat.add_comm],by rw[aiJ]⟩
end
section
variable{Y a b s u y:Nat}
def Xl(a b:Nat)(h:a<18446744073709551616):IntKind.u64.wrap ((a:Int).tdiv (b:Int))=((a/b:Nat):Int):=by exact wr<|agF (agT _ _) h
def Qz(h:b<=a)(h2:a<18446744073709551616):IntKind.u64.wrap ((a:Int)-(b:Int))=((a-b:Nat):Int):=by rw[<-Int.natCast_sub h];exact wr (by omega)
def Sg(h:a+b<18446744073709551616):IntKind.u64.wrap ((a:Int)+(b:Int))=((a+b:Nat):Int):=by rw[<-ahm];exact wr h
def aa6(h:a*b<18446744073709551616):IntKind.u64.wrap ((a:Int)*(b:Int))=((a*b:Nat):Int):=by rw[<-adB];exact wr h
def adZ(h:a<18446744073709551616):IntKind.u64.wrap ((a:Int)-IntKind.u64.wrap (((a/b:Nat):Int)*(b:Int)))=((a%b:Nat):Int):=by
 have e:=afF a b;rw[ac8]at e;rw[aa6<|by omega,Qz (by omega) h]
 congr 1;omega
def FN(h:s<=64):min ((s:Nat):Int).toNat IntKind.u64.bits=s:=by show min ((s:Nat):Int).toNat 64=s;omega
def S8(x s:Nat)(h:s<=64):IntKind.u64.wrap ((x:Int)*2^min ((s:Nat):Int).toNat IntKind.u64.bits)=((x*2^s%18446744073709551616:Nat):Int):=by rw[FN h,<-wrm];rw[adB];rfl
def W3(x s:Nat)(h:s<=64):(x:Int).fdiv (2^min ((s:Nat):Int).toNat IntKind.u64.bits)=((x/2^s:Nat):Int):=by rw[FN h,ajs _<|by exact ads<|Int.pow_pos<|by decide];rw[aiM];rfl
def orU(a b s:Nat)(h:a*2^s+b<18446744073709551616)(hb:b<2^s):
 IntKind.u64.wrap ((BitVec.ofInt IntKind.u64.bits ((a*2^s:Nat):Int)|||BitVec.ofInt IntKind.u64.bits (b:Int)).toNat:Int)=((a*2^s+b:Nat):Int):=by
 rw[wrm]
 congr 1
 have h1:(BitVec.ofNat 64 (a*2^s)|||BitVec.ofNat 64 b).toNat=(a*2^s%2^64)|||(b%2^64):=by simp
 have e1:a*2^s%2^64=a*2^s:=afb (by omega);have e2:b%2^64=b:=afb (by omega);rw[e1,e2,ac8 a,<-Nat.two_pow_add_eq_or_of_lt hb,ac8]at h1;show(BitVec.ofNat 64 (a*2^s)|||BitVec.ofNat 64 b).toNat%_=_;rw[h1,afb h]
def acI{x:Nat}(hx:x<18446744073709551616):bl x<=64:=by
 rcases adp x with g|g
 ·subst g;decide
 have h1:=xO (x:=x) (by omega);rcases ac1 64 (bl x)with h|h
 ·have:2^64<=2^(bl x-1):=adD (by decide) (by omega);omega
 exact h
structure LP(hi lo y s Y u d1 d0:Nat):Prop where
 hs:s<64
 hY:Y=y*2^s
 hn:9223372036854775808<=Y
 hl:Y<18446744073709551616
 he:u*18446744073709551616+(d1*4294967296+d0)=(hi*18446744073709551616+lo)*2^s
 UY:d1<4294967296
 CZ:d0<4294967296
 hu:u<Y
 hue:u=hi*2^s+lo/2^(64-s)
 hde:lo*2^s%18446744073709551616=d1*4294967296+d0
def LP.mk'{hi lo:Nat}(h1:hi<y)(hy:y<18446744073709551616)(hl:lo<18446744073709551616):
 LP hi lo y (64-bl y) (y*2^(64-bl y)) (hi*2^(64-bl y)+lo/2^(64-(64-bl y))) (lo*2^(64-bl y)%18446744073709551616/4294967296) (lo*2^(64-bl y)%18446744073709551616%4294967296):=by
 have vp:=zu (x:=y) (by omega);have Ev:=xO (x:=y) (by omega);have hb3:=LF y;have hb:=acI hy;obtain⟨s,hs⟩:∃s,s=64-bl y:=⟨_,rfl⟩;rw[<-hs];have e1:2^(bl y)*2^s=18446744073709551616:=by rw[<-afy];rw[show bl y+s=64 by omega]
 have e2:2^(bl y-1)*2^s=9223372036854775808:=by rw[<-afy];rw[show bl y-1+s=63 by omega]
 have e3:2^(64-s)*2^s=18446744073709551616:=by rw[<-afy];rw[show 64-s+s=64 by omega]
 have hp:0<2^s:=aef (by decide);have Ph:0<2^(64-s):=aef (by decide);have g1:9223372036854775808<=y*2^s:=by rw[<-e2];exact adb _ Ev
 have g2:y*2^s<18446744073709551616:=by rw[<-e1];exact Nat.mul_lt_mul_of_pos_right hb3 hp
 have g3:lo/2^(64-s)<2^s:=by rw[aeE Ph,ac8,e3];exact hl
 have g4:(hi+1)*2^s<=y*2^s:=adb _ h1;rw[ac7]at g4;have g5:lo*2^s/18446744073709551616=lo/2^(64-s):=by rw[<-e3];exact ai9 _ _ hp
 refine⟨by omega,rfl,g1,g2,?_,by omega,by omega,by omega,rfl,by omega⟩;have g6:=afF (lo*2^s) 18446744073709551616;have g7:(hi*18446744073709551616+lo)*2^s=hi*2^s*18446744073709551616+lo*2^s:=by rw[ac7];generalize (18446744073709551616:Nat)=M;rw[adz,ac8 M,<-adz]
 omega
def LP.Z9{hi lo d1 d0:Nat}(h:LP hi lo y s Y u d1 d0):DH 4294967296 u d1 (Y/4294967296) (Y%4294967296):=by have:=h.hn;have:=h.hl;have:=h.hu;have:=h.UY;exact⟨by omega,by omega,by omega,by omega,by omega,by omega⟩
def LP.yy:Y/4294967296*4294967296+Y%4294967296=Y:=by omega
def LP.dh2{hi lo d1 d0:Nat}(h:LP hi lo y s Y u d1 d0):DH 4294967296 ((u*4294967296+d1)%Y) d0 (Y/4294967296) (Y%4294967296):=by have h1:=h.hn;have h2:=h.hl;have h4:=h.CZ;have:=adg (u*4294967296+d1) (show 0<Y by omega);exact⟨by omega,by omega,by omega,by omega,by omega,by omega⟩
def LP.quo{hi lo d1 d0:Nat}(h:LP hi lo y s Y u d1 d0):
 (u*4294967296+d1)/Y*4294967296+((u*4294967296+d1)%Y*4294967296+d0)/Y=(hi*18446744073709551616+lo)/y/\
 ((u*4294967296+d1)%Y*4294967296+d0)%Y/2^s=(hi*18446744073709551616+lo)%y:=by
 have hn:=h.hn;have hp:0<2^s:=aef (by decide);obtain⟨e1,e2⟩:=BQ 4294967296 u d1 d0 Y (by omega);have e3:(u*4294967296+d1)*4294967296+d0=(hi*18446744073709551616+lo)*2^s:=by rw[<-h.he];omega
 rw[<-e1,<-e2,e3,h.hY];refine⟨ai9 _ _ hp,?_⟩;rw[ajb,ajc _ hp]
def AL(hi lo y:Nat)(h1:hi<y)(hy:y<18446744073709551616)(hl:lo<18446744073709551616):
 aL Tryz.prog 242 [.n .u64 hi,.n .u64 lo,.n .u64 y] (.bX [.n .u64 ((hi*18446744073709551616+lo)/y:Nat),.n .u64 ((hi*18446744073709551616+lo)%y:Nat)]):=by
 refine bE Tryz.func242 rfl<|r0 rfl<|bH rfl (λh=>absurd h<|by omega) λ_=>?_;refine r0 rfl<|bH rfl (λh=>absurd h<|by omega) λ_=>?_;refine r0 rfl<|bH rfl (λh=>?_) (λh=>?_)
 ·have h0:hi=0:=by omega
  subst h0;refine k1 rfl (by kernel_rfl) ?_ ?_
  ·simp only[ag,and_true]<;>omega
  have e:(0*18446744073709551616+lo)=lo:=by omega
  rw[e];refine aG rfl ⟨congrArg (SV.n .u64) ?_,congrArg (SV.n .u64) ?_,ao⟩
  ·rw[ags<|by omega,<-aiM];exact wr<|agF (agT _ _) hl
  rfl
 obtain⟨s,hs0⟩:∃s,s=64-bl y:=⟨_,rfl⟩;have hS:=LP.mk' h1 hy hl;rw[<-hs0]at hS;generalize y*2^s=Y at hS;generalize hi*2^s+lo/2^(64-s)=u at hS;generalize lo*2^s%18446744073709551616/4294967296=d1 at hS;generalize lo*2^s%18446744073709551616%4294967296=d0 at hS;have vp:=zu (x:=y) (by omega);have Ev:=acI hy;have hs:=hS.hs;have Wv:IntKind.u64.wrap (64-(bl y:Int))=(s:Int):=by rw[SA];omega
 have X6:IntKind.u64.wrap (64-(s:Int))=((64-s:Nat):Int):=by rw[SA];omega
 have eY:IntKind.u64.wrap ((y:Int)*2^min ((s:Nat):Int).toNat IntKind.u64.bits)=(Y:Int):=by rw[S8 y s<|by omega,<-hS.hY,afb hS.hl]
 have hHi:hi*2^s<18446744073709551616:=by
  have h1:=hS.hu;have h2:=hS.hl;have:hi*2^s<=u:=by rw[hS.hue];exact Nat.le_add_right _ _
  omega
 have eu:IntKind.u64.wrap ((BitVec.ofInt IntKind.u64.bits (IntKind.u64.wrap<|(hi:Int)*2^min ((s:Nat):Int).toNat IntKind.u64.bits)|||BitVec.ofInt IntKind.u64.bits ((lo:Int).fdiv<|2^min ((64-s:Nat):Int).toNat IntKind.u64.bits)).toNat:Int)=(u:Int):=by
  rw[S8 hi s<|by omega,afb hHi,W3 lo (64-s)<|by omega,orU hi (lo/2^(64-s)) s]
  ·rw[hS.hue]
  ·have h1:=hS.hu;have h2:=hS.hl;rw[<-hS.hue];omega
  have e3:2^(64-s)*2^s=18446744073709551616:=by rw[<-afy];rw[show 64-s+s=64 by omega]
  rw[aeE<|aef<|by decide,ac8,e3];exact hl
 have el:IntKind.u64.wrap ((lo:Int)*2^min ((s:Nat):Int).toNat IntKind.u64.bits)=((d1*4294967296+d0:Nat):Int):=by rw[S8 lo s<|by omega,hS.hde]
 have UY:=hS.UY;have CZ:=hS.CZ;have eq1:((d1*4294967296+d0)/4294967296)=d1:=by omega
 have eq0:((d1*4294967296+d0)%4294967296)=d0:=by omega
 have huW:u<18446744073709551616:=by have h1:=hS.hu;have h2:=hS.hl;omega
 refine rn 1 rfl<|b8 11 [(2,.n .u64 Y),(8,.n .u64 s),(9,.n .u64 (Y/4294967296:Nat)),(10,.n .u64 (Y%4294967296:Nat)),(11,.n .u64 u),(13,.n .u64 d1),(14,.n .u64 d0),(15,.n .u64 ((u*4294967296+d1)/Y:Nat))] True ?_ λ_=>?_
 ·refine r0 rfl<|bF rfl (CJ y hy) rfl<|r1 rfl ?_ ?_
  ·simp only[ag,and_true,Wv,X6,eY,Fh];have:=hS.hn;refine⟨?_,by omega,by omega,by omega,by omega,by omega,by omega⟩;omega
  refine kh (λ(q r:Nat)=>[(2,.n .u64 Y),(8,.n .u64 s),(9,.n .u64 (Y/4294967296:Nat)),(10,.n .u64 (Y%4294967296:Nat)),(11,.n .u64 u),(13,.n .u64 d1),(14,.n .u64 d0),(15,.n .u64 q),(16,.n .u64 r)])
   (λq r=>DL 4294967296 u d1 (Y/4294967296) (Y%4294967296) q r) (λq _=>q) (u/(Y/4294967296)) (u%(Y/4294967296)) (DL.start hS.Z9)
   ⟨⟨rfl,congrArg (SV.n .u64)<|by rw[Wv,eY]⟩,⟨rfl,congrArg (SV.n .u64) Wv⟩,⟨rfl,congrArg (SV.n .u64)<|by rw[Wv,eY,Fh]⟩,⟨rfl,congrArg (SV.n .u64)<|by rw[Wv,eY,TZ]⟩,
     ⟨rfl,congrArg (SV.n .u64)<|by rw[Wv,X6,eu]⟩,⟨rfl,congrArg (SV.n .u64)<|by rw[Wv,el,Fh,eq1]⟩,⟨rfl,congrArg (SV.n .u64)<|by rw[Wv,el,TZ,eq0]⟩,
     ⟨rfl,congrArg (SV.n .u64)<|by rw[Wv,X6,eu,eY,Fh,Xl _ _ huW]⟩,⟨rfl,congrArg (SV.n .u64)<|by rw[Wv,X6,eu,eY,Fh,Xl _ _ huW,adZ huW]⟩,ao⟩ ?_
  intro q r hI;have ya:=hI.hi;have Nl:=hI.lt;have hy1:Y/4294967296<4294967296:=hS.Z9.m;have F9:Y%4294967296<4294967296:=hS.Z9.l;have CU:(4294967296<=q\/r*4294967296+d1<q*(Y%4294967296))->IntKind.u64.wrap ((q:Int)-1)=((q-1:Nat):Int)/\IntKind.u64.wrap ((r:Int)+((Y/4294967296:Nat):Int))=((r+Y/4294967296:Nat):Int):=by intro hc;obtain⟨g1,-,-⟩:=hI.step hS.Z9 hc;exact⟨Qz (b:=1) g1<|by omega,Sg<|by omega⟩
  refine r0 rfl<|aC 69 rfl (λhc=>?_) (λhc=>?_)
  ·obtain⟨e1,e2⟩:=CU (.inl<|by omega);obtain⟨g1,g2,g3⟩:=hI.step hS.Z9<|.inl<|by omega
   refine r0 rfl<|bH rfl (λhd=>?_) (λhd=>?_)
   ·rw[e2]at hd;obtain⟨g4,g5⟩:=g3 (by omega);rw[LP.yy]at g4;refine r0 rfl<|aP ao ⟨ab,ab,ab,ab,ab,ab,ab,⟨rfl,congrArg (SV.n .u64)<|by rw[e1,g4]⟩,ao⟩
   rw[e2]at hd;refine r0 rfl<|again (q-1,r+Y/4294967296) (by dsimp only;omega) (g2<|by omega) ⟨ab,ab,ab,ab,ab,ab,ab,⟨rfl,congrArg (SV.n .u64) e1⟩,⟨rfl,congrArg (SV.n .u64) e2⟩,ao⟩
  have hqB:q<4294967296:=by omega
  have hqy:q*(Y%4294967296)<18446744073709551616:=by have:q*(Y%4294967296)<=4294967295*4294967295:=agG (by omega) (by omega);omega
  have c1:IntKind.u64.wrap ((q:Int)*((Y%4294967296:Nat):Int))=((q*(Y%4294967296):Nat):Int):=aa6 hqy;have c2:IntKind.u64.wrap (IntKind.u64.wrap (4294967296*(r:Int))+(d1:Int))=((r*4294967296+d1:Nat):Int):=by rw[SA,SA];omega
  refine r0 rfl<|bH rfl (λyb=>?_) (λyb=>?_)
  ·rw[c1,c2]at yb;have Eu:r*4294967296+d1<q*(Y%4294967296):=by exact_mod_cast yb
   obtain⟨e1,e2⟩:=CU<|.inr Eu;obtain⟨g1,g2,g3⟩:=hI.step hS.Z9<|.inr Eu;refine r0 rfl<|bH rfl (λhd=>?_) (λhd=>?_)
   ·rw[e2]at hd;obtain⟨g4,g5⟩:=g3 (by omega);rw[LP.yy]at g4;refine r0 rfl<|aP ao ⟨ab,ab,ab,ab,ab,ab,ab,⟨rfl,congrArg (SV.n .u64)<|by rw[e1,g4]⟩,ao⟩
   rw[e2]at hd;refine r0 rfl<|again (q-1,r+Y/4294967296) (by dsimp only;omega) (g2<|by omega) ⟨ab,ab,ab,ab,ab,ab,ab,⟨rfl,congrArg (SV.n .u64) e1⟩,⟨rfl,congrArg (SV.n .u64) e2⟩,ao⟩
  rw[c1,c2]at yb;have Eu:q*(Y%4294967296)<=r*4294967296+d1:=by
   rcases ac1 (r*4294967296+d1) (q*(Y%4294967296))with h|h
   ·exact absurd (by exact_mod_cast h) yb
   exact h
  have g4:=hI.stop hS.Z9 Eu;rw[LP.yy]at g4;refine r0 rfl<|aP ao ⟨ab,ab,ab,ab,ab,ab,ab,⟨rfl,congrArg (SV.n .u64)<|by rw[g4]⟩,ao⟩
 have hYp:0<Y:=by have:=hS.hn;omega
 have ev0:=Fq (u:=u) (d:=d1) (Y:=Y) rfl hYp<|af6 hS.hl;have ev:IntKind.u64.wrap (IntKind.u64.wrap (IntKind.u64.wrap ((u:Int)*4294967296)+(d1:Int))-IntKind.u64.wrap ((((u*4294967296+d1)/Y:Nat):Int)*(Y:Int)))=(((u*4294967296+d1)%Y:Nat):Int):=ev0;have Su:=hS.dh2;have hvY:(u*4294967296+d1)%Y<Y:=adg _ hYp;obtain⟨w1,w2⟩:=hS.quo;have hqL:=hS.Z9.aaS;have abE:=hS.dh2.aaS;rw[LP.yy]at hqL abE;obtain⟨v,hv⟩:∃v,v=(u*4294967296+d1)%Y:=⟨_,rfl⟩;rw[<-hv]at ev Su hvY w1 w2 abE;have hvW:v<18446744073709551616:=by have:=hS.hl;omega
 refine b8 4 [(2,.n .u64 Y),(8,.n .u64 s),(14,.n .u64 d0),(15,.n .u64 ((u*4294967296+d1)/Y:Nat)),(17,.n .u64 v),(18,.n .u64 ((v*4294967296+d0)/Y:Nat))] True ?_ λ_=>?_
 ·refine r1 rfl ?_ ?_
  ·simp only[ag,and_true];have:=hS.hn;omega
  refine kh (λ(q r:Nat)=>[(2,.n .u64 Y),(8,.n .u64 s),(9,.n .u64 (Y/4294967296:Nat)),(10,.n .u64 (Y%4294967296:Nat)),(14,.n .u64 d0),(15,.n .u64 ((u*4294967296+d1)/Y:Nat)),(17,.n .u64 v),(18,.n .u64 q),(16,.n .u64 r)])
   (λq r=>DL 4294967296 v d0 (Y/4294967296) (Y%4294967296) q r) (λq _=>q) (v/(Y/4294967296)) (v%(Y/4294967296)) (DL.start Su)
   ⟨ab,ab,ab,ab,ab,ab,⟨rfl,congrArg (SV.n .u64) ev⟩,⟨rfl,congrArg (SV.n .u64)<|by rw[ev,Xl _ _ hvW]⟩,⟨rfl,congrArg (SV.n .u64)<|by rw[ev,Xl _ _ hvW,adZ hvW]⟩,ao⟩ ?_
  intro q r hI;have ya:=hI.hi;have Nl:=hI.lt;have hy1:Y/4294967296<4294967296:=Su.m;have F9:Y%4294967296<4294967296:=Su.l;have CU:(4294967296<=q\/r*4294967296+d0<q*(Y%4294967296))->IntKind.u64.wrap ((q:Int)-1)=((q-1:Nat):Int)/\IntKind.u64.wrap ((r:Int)+((Y/4294967296:Nat):Int))=((r+Y/4294967296:Nat):Int):=by intro hc;obtain⟨g1,-,-⟩:=hI.step Su hc;exact⟨Qz (b:=1) g1<|by omega,Sg<|by omega⟩
  refine r0 rfl<|aC 104 rfl (λhc=>?_) (λhc=>?_)
  ·obtain⟨e1,e2⟩:=CU (.inl<|by omega);obtain⟨g1,g2,g3⟩:=hI.step Su<|.inl<|by omega
   refine r0 rfl<|bH rfl (λhd=>?_) (λhd=>?_)
   ·rw[e2]at hd;obtain⟨g4,g5⟩:=g3 (by omega);rw[LP.yy]at g4;refine r0 rfl<|aP ao ⟨ab,ab,ab,ab,ab,⟨rfl,congrArg (SV.n .u64)<|by rw[e1,g4]⟩,ao⟩
   rw[e2]at hd;refine r0 rfl<|again (q-1,r+Y/4294967296) (by dsimp only;omega) (g2<|by omega) ⟨ab,ab,ab,ab,ab,ab,ab,⟨rfl,congrArg (SV.n .u64) e1⟩,⟨rfl,congrArg (SV.n .u64) e2⟩,ao⟩
  have hqB:q<4294967296:=by omega
  have hqy:q*(Y%4294967296)<18446744073709551616:=by have:q*(Y%4294967296)<=4294967295*4294967295:=agG (by omega) (by omega);omega
  have c1:IntKind.u64.wrap ((q:Int)*((Y%4294967296:Nat):Int))=((q*(Y%4294967296):Nat):Int):=aa6 hqy;have c2:IntKind.u64.wrap (IntKind.u64.wrap (4294967296*(r:Int))+(d0:Int))=((r*4294967296+d0:Nat):Int):=by rw[SA,SA];omega
  refine r0 rfl<|bH rfl (λyb=>?_) (λyb=>?_)
  ·rw[c1,c2]at yb;have Eu:r*4294967296+d0<q*(Y%4294967296):=by exact_mod_cast yb
   obtain⟨e1,e2⟩:=CU<|.inr Eu;obtain⟨g1,g2,g3⟩:=hI.step Su<|.inr Eu;refine r0 rfl<|bH rfl (λhd=>?_) (λhd=>?_)
   ·rw[e2]at hd;obtain⟨g4,g5⟩:=g3 (by omega);rw[LP.yy]at g4;refine r0 rfl<|aP ao ⟨ab,ab,ab,ab,ab,⟨rfl,congrArg (SV.n .u64)<|by rw[e1,g4]⟩,ao⟩
   rw[e2]at hd;refine r0 rfl<|again (q-1,r+Y/4294967296) (by dsimp only;omega) (g2<|by omega) ⟨ab,ab,ab,ab,ab,ab,ab,⟨rfl,congrArg (SV.n .u64) e1⟩,⟨rfl,congrArg (SV.n .u64) e2⟩,ao⟩
  rw[c1,c2]at yb;have Eu:q*(Y%4294967296)<=r*4294967296+d0:=by
   rcases ac1 (r*4294967296+d0) (q*(Y%4294967296))with h|h
   ·exact absurd (by exact_mod_cast h) yb
   exact h
  have g4:=hI.stop Su Eu;rw[LP.yy]at g4;refine r0 rfl<|aP ao ⟨ab,ab,ab,ab,ab,⟨rfl,congrArg (SV.n .u64)<|by rw[g4]⟩,ao⟩
 refine r1 rfl ?_ ?_
 ·simp only[ag,and_true]<;>omega
 refine aG rfl ⟨congrArg (SV.n .u64) ?_,congrArg (SV.n .u64) ?_,ao⟩
 ·rw[<-w1];obtain⟨a,ha⟩:∃a,a=(u*4294967296+d1)/Y:=⟨_,rfl⟩;obtain⟨b,hb⟩:∃b,b=(v*4294967296+d0)/Y:=⟨_,rfl⟩;rw[<-ha]at hqL⊢;rw[<-hb]at abE⊢;rw[SA,SA];omega
 rw[<-w2];have e3:=Fq (u:=v) (d:=d0) (Y:=Y) rfl hYp<|af6 hS.hl;have e4:IntKind.u64.wrap (IntKind.u64.wrap (IntKind.u64.wrap ((v:Int)*4294967296)+(d0:Int))-IntKind.u64.wrap ((((v*4294967296+d0)/Y:Nat):Int)*(Y:Int)))=(((v*4294967296+d0)%Y:Nat):Int):=e3;rw[e4,W3 _ s<|by omega]
end
def fx:Nat->Nat->List Int
 |0,_=>[]
 |k+1,v=>((v%18446744073709551616:Nat):Int)::fx k (v/18446744073709551616)
def fA:∀(k v:Nat),(fx k v).length=k
 |0,_=>rfl
 |k+1,v=>by simp[fx,fA k]
def NV:∀(k v:Nat),gU (fx k v)
 |0,_,d,h=>by simp[fx]at h
 |k+1,v,d,h=>by
  simp[fx]at h;rcases h with rfl|h
  ·omega
  exact NV k _ d h
def PC:∀{l:List Int}{v:Nat},gU l->val l=v->l=fx l.length v
 |[],v,_,h=>rfl
 |d::l,v,hd,h=>by
  have h1:=hd d (by simp);have h2:gU l:=λx hx=>hd x (by simp[hx]);simp[val]at h;simp only[acU,fx];have e1:d=((v%18446744073709551616:Nat):Int):=by omega
  have e2:val l=((v/18446744073709551616:Nat):Int):=by omega
  rw[<-e1,<-PC h2 e2]
def SD{k v:Nat}(h:(v:Int)<18446744073709551616^k):val (fx k v)=v:=by
 induction k generalizing v with
 |zero=>
  have:v=0:=by simp at h;omega
  subst this;rfl
 |succ k ih=>
  simp[fx,val];rw[ih]
  ·omega
  rw[adf]at h;omega
def YA{k v:Nat}(h:(v:Int)<18446744073709551616^k):cQ (fx k v)=ae v:=by rw[dV<|NV k v,SD h];simp
def ad6(a b s:Nat)(h:a*2^s+b<18446744073709551616)(hb:b<2^s):
 IntKind.u64.wrap ((BitVec.ofInt IntKind.u64.bits (b:Int)|||BitVec.ofInt IntKind.u64.bits ((a*2^s:Nat):Int)).toNat:Int)=((a*2^s+b:Nat):Int):=by
 rw[BitVec.or_comm];exact orU a b s h hb
def Mp{x s:Nat}(hs:s<64)(hx:x<18446744073709551616):
 x*2^s%18446744073709551616=x%2^(64-s)*2^s/\x*2^s=x%2^(64-s)*2^s+x/2^(64-s)*18446744073709551616/\x/2^(64-s)<2^s/\x%2^(64-s)*2^s+(2^s-1)<18446744073709551616:=by
 have e3:2^(64-s)*2^s=18446744073709551616:=by rw[<-afy];rw[show 64-s+s=64 by omega]
 have Ph:0<2^(64-s):=aef (by decide);have e4:=afF x<|2^(64-s);have e5:=adg x Ph;have g:x/2^(64-s)<2^s:=by rw[aeE Ph,ac8,e3];exact hx
 have h6:(x%2^(64-s)+1)*2^s<=2^(64-s)*2^s:=adb _ e5;rw[ac7]at h6;have e:x*2^s=x%2^(64-s)*2^s+x/2^(64-s)*18446744073709551616:=by
  conv=>lhs;rw[<-e4]
  rw[ac7,ac8<|2^(64-s),adz,e3]
 omega
def uo(A s:Nat)(hs:s<64)(h1:(ae A).length<2^40):aL Tryz.prog 244 [.ints .u64 false<|ae A,.i s] (.ints .u64 true<|fx ((ae A).length+1)<|A*2^s):=by
 have hd:=bk A;have hp:0<2^s:=aef (by decide);obtain⟨w,hw⟩:∃w,w=ae A:=⟨_,rfl⟩;rw[<-hw]at hd h1⊢;have hA:val w=A:=by rw[hw,bc]
 refine bE Tryz.func244 rfl<|r1 rfl (by simp only[ag,and_true]<;>omega) ?_;have etn:((w.length:Int)+1).toNat=w.length+1:=by omega
 refine kh (λ(i:Nat)(out:List Int)=>[(0,.ints .u64 false w),(1,.i s),(5,.ints .u64 true out),(12,.ints .u64 false w),(13,.i w.length),(14,.i i)])
  (λi out=>i<=w.length/\out.length=w.length+1/\gU out/\out.getD i 0<((2^s:Nat):Int)/\(∀k,i<k->out.getD k 0=0)/\val (out.take<|i+1)=val (w.take i)*((2^s:Nat):Int))
  (λi _=>w.length-i) 0 (List.replicate (w.length+1) 0) ⟨abC _,by simp,ff _,by rw[fw];omega,λk _=>fw _ _,by rw[List.take_replicate,iB];simp[val]⟩
  ⟨ab,ab,⟨rfl,by rw[etn];rfl⟩,ab,ab,ab,ao⟩ ?_
 rintro i out⟨hi,LU,hod,hc,hz,hv⟩;refine r0 rfl<|bH rfl (λcS=>?_) (λKx=>?_)
 ·have hx:=a7 hd i;have hb:=a7 hod i;obtain⟨x,ex⟩:∃x:Nat,w.getD i 0=x:=⟨(w.getD i 0).toNat,by omega⟩;obtain⟨b,eb⟩:∃b:Nat,out.getD i 0=b:=⟨(out.getD i 0).toNat,by omega⟩;rw[ex]at hx;rw[eb]at hb hc;have ei:(i:Int).toNat=i:=by omega
  have ei1:((i:Int)+1).toNat=i+1:=by omega
  obtain⟨g1,g2,g3,g4⟩:=Mp hs (show x<18446744073709551616 by omega);have hor:IntKind.u64.wrap ((BitVec.ofInt IntKind.u64.bits (b:Int)|||BitVec.ofInt IntKind.u64.bits (IntKind.u64.wrap<|(x:Int)*2^min ((s:Nat):Int).toNat IntKind.u64.bits)).toNat:Int)=((x%2^(64-s)*2^s+b:Nat):Int):=by rw[S8 x s<|by omega,g1];exact ad6 _ b s (by omega) (by omega)
  obtain⟨y,hy⟩:∃y,y=x%2^(64-s)*2^s+b:=⟨_,rfl⟩;obtain⟨c,hcd⟩:∃c,c=x/2^(64-s):=⟨_,rfl⟩;have hyW:y<18446744073709551616:=by omega
  have anL:i<w.length:=by omega
  have hA1:∀yA:List Int,yA.length=w.length+1->gU yA->(∀k,i+1<k->yA.getD k 0=0)->yA.getD i 0=y->yA.getD (i+1) 0=c->yA.take i=out.take i->
   i+1<=w.length/\yA.length=w.length+1/\gU yA/\yA.getD (i+1) 0<((2^s:Nat):Int)/\(∀k,i+1<k->yA.getD k 0=0)/\val (yA.take<|i+1+1)=val (w.take<|i+1)*((2^s:Nat):Int):=by
   intro yA q1 q2 q3 q4 q5 q6;refine⟨by omega,q1,q2,by rw[q5];omega,q3,?_⟩;rw[aH,aH yA,q6,q4,q5,aH w,ex];rw[aH,eb]at hv;have hxx:(x:Int)*((2^s:Nat):Int)=(y:Int)-b+(c:Int)*18446744073709551616:=by
    have:((x*2^s:Nat):Int)=((x%2^(64-s)*2^s+x/2^(64-s)*18446744073709551616:Nat):Int):=by rw[g2]
    rw[<-hcd]at this;generalize x%2^(64-s)*2^s=t at*;rw[adB]at this;rw[this,hy];omega
   rw[ada,<-hv,adh,adj<|18446744073709551616^i,<-adh,hxx,adf,ada,aew,adh (c:Int),adj (18446744073709551616^i) 18446744073709551616];omega
  have gD:IntKind.i64.wrap (64-(s:Int))=((64-s:Nat):Int):=by rw[Uu];omega
  have lj:∀(l:List Int)(j k:Nat)(z:Int),(l.set j z).getD k 0=if j=k/\k<l.length then z else l.getD k 0:=b7;refine k1 rfl (by kernel_rfl) ?_ ?_
  ·simp only[ag,and_true,ei]<;>omega
  refine bH rfl (λh0=>?_) (λh0=>?_)
  ·refine r1 rfl ?_ ?_
   ·simp only[ag,and_true,ei,ei1,ae7]<;>omega
   refine again (i+1,(out.set i (y:Int)).set (i+1) (c:Int)) (by dsimp only;omega) ?_ ⟨ab,ab,⟨rfl,congrArg (SV.ints .u64 true) ?_⟩,ab,ab,⟨rfl,congrArg (SV.n .i64)<|by omega⟩,ao⟩
   ·refine hA1 _ (by simp[LU]) (eK (eK hod<|by omega)<|by omega) (λk hk=>?_) ?_ ?_ ?_
    ·rw[lj,if_neg<|by omega,lj,if_neg<|by omega];exact hz k (by omega)
    ·rw[lj,if_neg<|by omega,lj,if_pos<|by omega]
    ·rw[lj,if_pos<|by simp;omega]
    rw[eJ<|by omega,eJ<|abZ _]
   dsimp only;rw[ei,ei1];rw[ex,eb,hor,hy];have e64:(64-(s:Int))=((64-s:Nat):Int):=by omega
   rw[e64,W3 x (64-s)<|by omega,hcd]
  refine r1 rfl ?_ ?_
  ·simp only[ag,and_true]<;>omega
  have hs0:s=0:=by omega
  have RK:c=0:=by rw[hcd,hs0];exact aeS (by show x<2^64;omega)
  refine again (i+1,out.set i (y:Int)) (by dsimp only;omega) ?_ ⟨ab,ab,⟨rfl,congrArg (SV.ints .u64 true) ?_⟩,ab,ab,⟨rfl,congrArg (SV.n .i64)<|by omega⟩,ao⟩
  ·refine hA1 _ (by simp[LU]) (eK hod<|by omega) (λk hk=>?_) ?_ ?_ ?_
   ·rw[lj,if_neg<|by omega];exact hz k (by omega)
   ·rw[lj,if_pos<|by omega]
   ·rw[lj,if_neg<|by omega,hz _<|by omega,RK];rfl
   rw[eJ<|abZ _]
  dsimp only;rw[ei,ex,eb,hor,hy]
 refine r0 rfl ?_;have Nq:i=w.length:=by omega
 refine aG rfl ?_;show SV.ints .u64 true out=_;have e1:out.take (i+1)=out:=acR (by omega);have e2:w.take i=w:=acR (by omega);rw[e1,e2,hA]at hv;rw[<-LU,<-PC (v:=A*2^s) hod (by rw[hv,adB])]
end Go.Ai.cY
namespace Go.Ai.cY
section
variable{r t u2:Int}{u v w:List Int}{L U V c i k q ui vi:Nat}
def oa(pre w post:List Int)(h:i<w.length):(pre++w++post).getD (pre.length+i) 0=w.getD i 0:=by rw[aca,aca,acV,adX<|by omega,ahs,adH h]
def Bt(pre w post:List Int)(y:Int)(h:i<w.length):(pre++w++post).set (pre.length+i) y=pre++w.set i y++post:=by rw[acV,List.set_append_right _ _<|by omega,ahs,List.set_append_left _ _ h,acV]
def AA{v1 v2:Int}(h1:0<=t/\t<18446744073709551616)(h2:18446744073709551616<=r)(hv:0<=v2/\v2<18446744073709551616)(hu:0<=u2):cV k t r v1 v2 u2=t:=by
 cases k with
 |zero=>rfl
 |succ k=>
  unfold cV;rw[if_neg];rintro(h|h)
  ·omega
  have:t*v2<=18446744073709551615*18446744073709551615:=ai6 (by omega) (by omega) hv.1 (by omega);omega
def KK{v1 v2:Int}(h1:t<18446744073709551616)(h2:t*v2<=r*18446744073709551616+u2):cV k t r v1 v2 u2=t:=by
 cases k with
 |zero=>rfl
 |succ k=>unfold cV;rw[if_neg];rintro(h|h)<;>omega
def KL{v1 v2:Int}(h0:1<=t)(h2:r*18446744073709551616+u2<t*v2)(h3:r+v1<18446744073709551616):cV t.toNat t r v1 v2 u2=cV (t-1).toNat (t-1) (r+v1) v1 v2 u2:=by
 have:t.toNat=(t-1).toNat+1:=by omega
 rw[this]
 conv=>lhs;unfold cV
 rw[if_pos<|.inr h2,if_neg<|by omega]
def KM{v1 v2:Int}(h0:1<=t)(h2:r*18446744073709551616+u2<t*v2)(h3:18446744073709551616<=r+v1):cV t.toNat t r v1 v2 u2=t-1:=by
 have:t.toNat=(t-1).toNat+1:=by omega
 rw[this]
 conv=>lhs;unfold cV
 rw[if_pos<|.inr h2,if_pos<|by omega]
def QW(hw:w.length=L+1)(hL:2<=L):val w=(w.getD L 0*18446744073709551616+w.getD (L-1) 0)*(18446744073709551616*18446744073709551616^(L-2))+w.getD (L-2) 0*18446744073709551616^(L-2)+val (w.take<|L-2):=by
 have e0:w.take (L+1)=w:=acR (by omega);have e1:=aH w L;have e2:=aH w<|L-1;have e3:=aH w<|L-2;rw[e0]at e1;rw[show L-1+1=L by omega]at e2;rw[show L-2+1=L-1 by omega]at e3;have p1:(18446744073709551616:Int)^L=18446744073709551616^(L-2)*18446744073709551616*18446744073709551616:=by rw[<-adf,<-adf];congr 1;omega
 have p2:(18446744073709551616:Int)^(L-1)=18446744073709551616^(L-2)*18446744073709551616:=by rw[<-adf];congr 1;omega
 rw[p1]at e1;rw[p2]at e2;generalize (18446744073709551616:Int)^(L-2)=P at*;rw[e1,e2];generalize w.getD L 0=a;generalize w.getD (L-1) 0=b;have q1:a*(P*18446744073709551616*18446744073709551616)=(a*P)*18446744073709551616*18446744073709551616:=by simp[adh]
 have q2:b*(P*18446744073709551616)=(b*P)*18446744073709551616:=by simp[adh]
 have q3:(a*18446744073709551616+b)*(18446744073709551616*P)=(a*P)*18446744073709551616*18446744073709551616+(b*P)*18446744073709551616:=by
  rw[ada]
  congr 1
  ·rw[adj 18446744073709551616 P,adh,<-adh 18446744073709551616 P,adj 18446744073709551616 P];simp[adh]
  rw[adj 18446744073709551616 P];simp[adh]
 omega
def QX(hv:v.length=L)(hL:2<=L):val v=v.getD (L-1) 0*(18446744073709551616*18446744073709551616^(L-2))+v.getD (L-2) 0*18446744073709551616^(L-2)+val (v.take<|L-2):=by
 have e0:v.take L=v:=acR (by omega);have e2:=aH v<|L-1;have e3:=aH v<|L-2;rw[show L-1+1=L by omega,e0]at e2;rw[show L-2+1=L-1 by omega]at e3;have p2:(18446744073709551616:Int)^(L-1)=18446744073709551616*18446744073709551616^(L-2):=by rw[adj,<-adf];congr 1;omega
 rw[p2]at e2;omega
structure MS(w v:List Int)(L q i:Nat)(u:List Int)(carry borrow:Nat):Prop where
 len:u.length=L+1
 dig:gU u
 same:∀k,i<=k->u.getD k 0=w.getD k 0
 c:carry<18446744073709551616
 b:borrow<=1
 eq:val (u.take i)+q*val (v.take i)=val (w.take i)+((carry:Int)+borrow)*18446744073709551616^i
def MS.start(h:w.length=L+1)(hd:gU w):MS w v L q 0 w 0 0:=⟨h,hd,λ_ _=>rfl,by omega,by omega,by simp[val]⟩
def split_mul{p:Nat}:(p%18446744073709551616+c)%18446744073709551616=(p+c)%18446744073709551616/\p/18446744073709551616+(p%18446744073709551616+c)/18446744073709551616=(p+c)/18446744073709551616:=by omega
def FK{x:Nat}(h1:q<18446744073709551616)(h2:x<18446744073709551616)(h3:c<18446744073709551616):(q*x+c)/18446744073709551616<18446744073709551616:=by have:q*x<=18446744073709551615*18446744073709551615:=agG (by omega) (by omega);omega
def MS.next{carry borrow:Nat}(h:MS w v L q i u carry borrow)(hi:i<L)(hq:q<18446744073709551616)(ev:v.getD i 0=vi)(eu:w.getD i 0=ui)(hv:vi<18446744073709551616)(hu:ui<18446744073709551616):
 MS w v L q (i+1) (u.set i ((ui+18446744073709551616-(q*vi+carry)%18446744073709551616-borrow)%18446744073709551616:Nat)) ((q*vi+carry)/18446744073709551616) (if ui<(q*vi+carry)%18446744073709551616+borrow then 1 else 0):=by
 obtain⟨h1,h2,h3,h4,h5,h6⟩:=h;have hc:=FK hq hv h4;have hm:=adg (q*vi+carry) (show 0<18446744073709551616 by decide);have Gd:=afF (q*vi+carry) 18446744073709551616;refine⟨by simp[h1],eK h2<|by omega,λk hk=>?_,hc,by split<;>omega,?_⟩
 ·rw[b7,if_neg<|by omega];exact h3 k (by omega)
 rw[aH,eJ<|abZ _,b7,if_pos<|by omega,aH v,aH w,ev,eu];have e1:(q:Int)*(val (v.take i)+(vi:Int)*18446744073709551616^i)=q*val (v.take i)+((q*vi:Nat):Int)*18446744073709551616^i:=by rw[ahv,<-adh,adB]
 rw[e1,adf];obtain⟨lo,lV⟩:∃lo,lo=(q*vi+carry)%18446744073709551616:=⟨_,rfl⟩;obtain⟨cy,hcy⟩:∃cy,cy=(q*vi+carry)/18446744073709551616:=⟨_,rfl⟩;rw[<-lV]at hm Gd⊢;rw[<-hcy]at Gd hc⊢;obtain⟨b',dO⟩:∃b',b'=if ui<lo+borrow then 1 else 0:=⟨_,rfl⟩;rw[<-dO];have key:(((ui+18446744073709551616-lo-borrow)%18446744073709551616:Nat):Int)=(ui:Int)-lo-borrow+18446744073709551616*b':=by rw[dO];split<;>omega
 rw[key];have e2:((q*vi:Nat):Int)=(lo:Int)+18446744073709551616*cy-carry:=by omega
 rw[e2];generalize (18446744073709551616:Int)^i=P at*;have x1:((carry:Int)+borrow)*P=carry*P+borrow*P:=ada ..;have x2:((ui:Int)-lo-borrow+18446744073709551616*b')*P=ui*P-lo*P-borrow*P+18446744073709551616*(b'*P):=by rw[ada,aew,aew,adh]
 have x3:((lo:Int)+18446744073709551616*cy-carry)*P=lo*P+18446744073709551616*(cy*P)-carry*P:=by rw[aew,ada,adh]
 have x4:((cy:Int)+b')*(P*18446744073709551616)=18446744073709551616*(cy*P)+18446744073709551616*(b'*P):=by rw[adj P,<-adh,adj _ 18446744073709551616,adh,ada,ahv]
 omega
def MS.last{carry borrow:Nat}(h:MS w v L q L u carry borrow)(hw:w.length=L+1)(hv:v.length=L)(eu:w.getD L 0=ui)(hu:ui<18446744073709551616):
 (u.set L ((ui+18446744073709551616-carry-borrow)%18446744073709551616:Nat)).length=L+1/\gU (u.set L ((ui+18446744073709551616-carry-borrow)%18446744073709551616:Nat))/\
   val (u.set L ((ui+18446744073709551616-carry-borrow)%18446744073709551616:Nat))+q*val v=val w+((if ui<carry+borrow then 1 else 0:Nat):Int)*18446744073709551616^(L+1):=by
 obtain⟨h1,h2,h3,h4,h5,h6⟩:=h;refine⟨by simp[h1],eK h2<|by omega,?_⟩;obtain⟨x,hx⟩:∃x,x=(ui+18446744073709551616-carry-borrow)%18446744073709551616:=⟨_,rfl⟩;rw[<-hx];have e0:(u.set L (x:Int)).take (L+1)=u.set L (x:Int):=acR (by simp[h1]);have e1:=aH (u.set L (x:Int)) L;rw[e0,eJ .refl,b7,if_pos<|by omega]at e1;have e2:=aH w L;rw[acR<|by omega,eu]at e2;rw[acR<|show v.length<=L by omega]at h6;rw[e1,adf];obtain⟨b',dO⟩:∃b':Nat,b'=if ui<carry+borrow then 1 else 0:=⟨_,rfl⟩;rw[<-dO];have key:(x:Int)=(ui:Int)-carry-borrow+18446744073709551616*b':=by rw[dO];split<;>omega
 rw[key];generalize (18446744073709551616:Int)^L=P at*;have x1:((carry:Int)+borrow)*P=carry*P+borrow*P:=ada ..;have x2:((ui:Int)-carry-borrow+18446744073709551616*b')*P=ui*P-carry*P-borrow*P+18446744073709551616*(b'*P):=by rw[ada,aew,aew,adh]
 have x4:(b':Int)*(P*18446744073709551616)=18446744073709551616*(b'*P):=by rw[adj P,<-adh,adj _ 18446744073709551616,adh]
 omega
structure AB(u2 v:List Int)(L i:Nat)(u:List Int)(c:Nat):Prop where
 len:u.length=L+1
 dig:gU u
 same:∀k,i<=k->u.getD k 0=u2.getD k 0
 hc:c<=1
 eq:val (u.take i)+(c:Int)*18446744073709551616^i=val (u2.take i)+val (v.take i)
def AB.start(h:w.length=L+1)(hd:gU w):AB w v L 0 w 0:=⟨h,hd,λ_ _=>rfl,by omega,by simp[val]⟩
def AB.next{u2:List Int}(h:AB u2 v L i u c)(hi:i<L)(ev:v.getD i 0=vi)(eu:u2.getD i 0=ui)(hv:vi<18446744073709551616)(hu:ui<18446744073709551616):
 AB u2 v L (i+1) (u.set i ((ui+vi+c)%18446744073709551616:Nat)) ((ui+vi+c)/18446744073709551616):=by
 obtain⟨h1,h2,h3,h4,h6⟩:=h;refine⟨by simp[h1],eK h2<|by omega,λk hk=>?_,by omega,?_⟩
 ·rw[b7,if_neg<|by omega];exact h3 k (by omega)
 rw[aH,eJ .refl,b7,if_pos<|by omega,aH v,aH u2,ev,eu,adf];obtain⟨lo,lV⟩:∃lo,lo=(ui+vi+c)%18446744073709551616:=⟨_,rfl⟩;obtain⟨cy,hcy⟩:∃cy,cy=(ui+vi+c)/18446744073709551616:=⟨_,rfl⟩;rw[<-lV,<-hcy];have key:(lo:Int)=(ui:Int)+vi+c-18446744073709551616*cy:=by omega
 rw[key];generalize (18446744073709551616:Int)^i=P at*;have x2:((ui:Int)+vi+c-18446744073709551616*cy)*P=ui*P+vi*P+c*P-18446744073709551616*(cy*P):=by rw[aew,ada,ada,adh]
 have x4:(cy:Int)*(P*18446744073709551616)=18446744073709551616*(cy*P):=by rw[adj P,<-adh,adj _ 18446744073709551616,adh]
 omega
def AB.last{u2:List Int}(h:AB u2 v L L u c)(hw:u2.length=L+1)(hv:v.length=L)(eu:u2.getD L 0=ui):
 (u.set L ((ui+c)%18446744073709551616:Nat)).length=L+1/\gU (u.set L ((ui+c)%18446744073709551616:Nat))/\
   val (u.set L ((ui+c)%18446744073709551616:Nat))+(((ui+c)/18446744073709551616:Nat):Int)*18446744073709551616^(L+1)=val u2+val v:=by
 obtain⟨h1,h2,h3,h4,h6⟩:=h;refine⟨by simp[h1],eK h2<|by omega,?_⟩;obtain⟨x,hx⟩:∃x,x=(ui+c)%18446744073709551616:=⟨_,rfl⟩;obtain⟨cy,hcy⟩:∃cy,cy=(ui+c)/18446744073709551616:=⟨_,rfl⟩;rw[<-hx,<-hcy];have e0:(u.set L (x:Int)).take (L+1)=u.set L (x:Int):=acR (by simp[h1]);have e1:=aH (u.set L (x:Int)) L;rw[e0,eJ .refl,b7,if_pos<|by omega]at e1;have e2:=aH u2 L;rw[acR<|by omega,eu]at e2;rw[acR<|show v.length<=L by omega]at h6;rw[e1,adf];have key:(x:Int)=(ui:Int)+c-18446744073709551616*cy:=by omega
 rw[key];generalize (18446744073709551616:Int)^L=P at*;have x2:((ui:Int)+c-18446744073709551616*cy)*P=ui*P+c*P-18446744073709551616*(cy*P):=by rw[aew,ada,adh]
 have x4:(cy:Int)*(P*18446744073709551616)=18446744073709551616*(cy*P):=by rw[adj P,<-adh,adj _ 18446744073709551616,adh]
 omega
def I4(hl:u.length=L+1)(hd:gU u)(h:val u+q*V=(U:Int))(hq:(U:Int)<((q:Int)+1)*V):u=fx (L+1) (U%V)/\U/V=q:=by
 have h0:=aY hd;rw[ada]at hq;have cS:(val u).toNat<V:=by omega
 have e:U=(val u).toNat+V*q:=by
  have:((V*q:Nat):Int)=(q:Int)*V:=by rw[adB,adj]
  omega
 have e1:U%V=(val u).toNat:=by rw[e,aiJ,afb cS]
 have e2:U/V=q:=by rw[e,agZ _ _<|by omega,aeS cS,afP]
 refine⟨?_,e2⟩;rw[<-hl];exact PC hd (by omega)
def QB{u2:List Int}{cy:Nat}(hl:u.length=L+1)(hd:gU u)(II:u2.length=L+1)(hd2:gU u2)(h:val u2+q*V=(U:Int)+18446744073709551616^(L+1))(hV:(V:Int)<18446744073709551616^(L+1))
 (hb:((q:Int)-1)*V<=U)(h4:val u+(cy:Int)*18446744073709551616^(L+1)=val u2+V)(hcy:cy<=1):u=fx (L+1) (U%V)/\U/V=q-1/\1<=q:=by
 have h1:=ia hd;have h2:=ia hd2;rw[hl]at h1;rw[II]at h2;rw[aew]at hb;have hq1:1<=q:=by
  rcases adp q with e|e
  ·subst e;omega
  exact e
 obtain⟨p,rfl⟩:∃p,q=p+1:=⟨q-1,by omega⟩;have ep:(((p+1:Nat):Int))*V=(p:Int)*V+V:=by rw[ahm,ada];simp
 have se:cy=1:=by
  rcases ac1 cy 1 with e|e
  ·have:cy=0:=by omega
   subst this;omega
  omega
 subst se;have:=I4 (u:=u) (L:=L) (U:=U) (V:=V) (q:=p) hl hd (by omega) (by rw[ada];omega);simp_all
end
end Go.Ai.cY
