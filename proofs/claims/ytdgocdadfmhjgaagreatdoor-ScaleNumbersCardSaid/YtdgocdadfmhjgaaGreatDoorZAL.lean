/- Parts of the proof of ScaleNumbers (CheckBench, Exponent and Largest answer as the reference does), at every input, with no further conditions. -/
import Derived.Test.YtdgocdadfmhjgaaGreatDoorZAK
import Derived.Lib.Mul64
set_option linter.unusedVariables false
set_option linter.unusedSimpArgs false
namespace Go.Ai.b6
open Go.Proofs Go.Ai
set_option maxRecDepth 100000
theorem j8(n i:Nat):∃x:Nat,(aa n).getD i 0=x/\x<18446744073709551616:=by have:=aU (a8 n) i;exact⟨((aa n).getD i 0).toNat,by omega,by omega⟩
theorem Aw(m n:Nat)(h1:(aa m).length<2^40)(h2:(aa n).length<2^40):aO Tryz.prog 222 [.ints .u64 false (aa m),.ints .u64 false (aa n)] (.ints .u64 false (aa (m+n))):=by
 refine enter (fn:=Tryz.f222) Tryz.func222 rfl rfl rfl rfl ?_;refine wO 2 (fun a b:Nat=>[(0,.ints .u64 false (aa a)),(1,.ints .u64 false (aa b))]) (fun a b=>a+b=m+n/\(aa b).length<=(aa a).length/\(aa a).length<2^40) ?_ ?_
 ·refine r0 rfl ?_;refine br rfl rfl rfl (fun h=>?_) (fun h=>?_)
  ·refine r0 rfl ?_;exact meet (n,m) ⟨by dsimp only;omega,by dsimp only;omega,by dsimp only;omega⟩ ⟨⟨rfl,rfl⟩,⟨rfl,rfl⟩,trivial⟩
  refine r0 rfl ?_;exact meet (m,n) ⟨by dsimp only,by dsimp only;omega,by dsimp only;omega⟩ ⟨⟨rfl,rfl⟩,⟨rfl,rfl⟩,trivial⟩
 rintro a b⟨hs,hl,h3⟩;rw[<-hs];refine r1 rfl (by simp only[ae,and_true]<;>omega) ?_;refine mA (fun(i:Nat)(out:List Int)(c:Nat)=>[(0,.ints .u64 false (aa a)),(1,.ints .u64 false (aa b)),(5,.ints .u64 true out),(6,.n .u64 c),(21,.i (aa a).length),(22,.i i)])
  (fun i out c=>i<=(aa a).length/\fD out/\out.length=(aa a).length+1/\c<=1/\val out+c*18446744073709551616^i=val ((aa a).take i)+val ((aa b).take i)/\∀k,i<=k->out.getD k 0=0)
  (fun i _ _=>(aa a).length-i) 0 (List.replicate ((aa a).length+1) 0) 0 ⟨Nat.zero_le _,dI _,by simp,by omega,by simp[val,gi],fun k _=>dQ _ _⟩
  ⟨⟨rfl,rfl⟩,⟨rfl,rfl⟩,⟨rfl,au.of_eq (congrArg (SV.ints .u64 true) (by congr 1))⟩,⟨rfl,rfl⟩,⟨rfl,rfl⟩,⟨rfl,rfl⟩,trivial⟩ ?_
 rintro i out c⟨hi,hd,L6,hc,hv,hz⟩;refine r0 rfl ?_;refine br rfl rfl rfl (fun h=>?_) (fun h=>?_)
 ·have cO:i<(aa a).length:=by omega
  have ei:(i:Int).toNat=i:=by omega
  obtain⟨x,hx,MR⟩:=j8 a i;obtain⟨y,hy,LX⟩:=j8 b i;have step:∀l:aP,True->True:=fun _ h=>h;have fin:(i+1<=(aa a).length/\fD (out.set i (((x+y+c)%18446744073709551616:Nat):Int))/\(out.set i (((x+y+c)%18446744073709551616:Nat):Int)).length=(aa a).length+1/\(x+y+c)/18446744073709551616<=1/\
   val (out.set i (((x+y+c)%18446744073709551616:Nat):Int))+((x+y+c)/18446744073709551616:Nat)*18446744073709551616^(i+1)=val ((aa a).take (i+1))+val ((aa b).take (i+1))/\∀k,i+1<=k->(out.set i (((x+y+c)%18446744073709551616:Nat):Int)).getD k 0=0):=by
   refine⟨by omega,du hd (by omega),by simpa using L6,by omega,?_,fun k hk=>?_⟩
   ·rw[iX _ (by omega),hz i (Nat.le_refl _),aA,aA,hx,hy,Int.pow_succ];have q:=Nat.div_add_mod (x+y+c) 18446744073709551616;have q':(18446744073709551616:Int)*(((x+y+c)/18446744073709551616:Nat):Int)+(((x+y+c)%18446744073709551616:Nat):Int)=(x:Int)+y+c:=by omega
    generalize (((x+y+c)/18446744073709551616:Nat):Int)=q1 at*;generalize (((x+y+c)%18446744073709551616:Nat):Int)=r1 at*;generalize (18446744073709551616:Int)^i=A at*
    grind
   rw[bA,if_neg (by omega)];exact hz k (by omega)
  refine r0 rfl ?_;refine br rfl rfl rfl (fun h4=>?_) (fun h4=>?_)
  ·refine r1 rfl (by simp only[ae,and_true,ei]<;>omega) ?_;refine cl rfl (by rw[ei,hx,hy];rfl) (dJ x y c hc) rfl ?_;refine r1 rfl (by simp only[ae,and_true,ei,L6]<;>omega) ?_;exact again (i+1,out.set i (((x+y+c)%18446744073709551616:Nat):Int),(x+y+c)/18446744073709551616) (by dsimp only;omega) fin ⟨⟨rfl,rfl⟩,⟨rfl,rfl⟩,⟨rfl,au.of_eq (congrArg (SV.ints .u64 true) (by rw[ei]))⟩,⟨rfl,rfl⟩,⟨rfl,rfl⟩,⟨rfl,rfl⟩,trivial⟩
  have BZ:y=0:=by rw[List.getD_eq_getElem?_getD,List.getElem?_eq_none (by omega)]at hy;simp at hy;omega
  subst BZ;refine r1 rfl (by simp only[ae,and_true,ei]<;>omega) ?_;refine cl rfl (by rw[ei,hx];rfl) (dJ x 0 c hc) rfl ?_;refine r1 rfl (by simp only[ae,and_true,ei,L6]<;>omega) ?_;exact again (i+1,out.set i (((x+0+c)%18446744073709551616:Nat):Int),(x+0+c)/18446744073709551616) (by dsimp only;omega) fin ⟨⟨rfl,rfl⟩,⟨rfl,rfl⟩,⟨rfl,au.of_eq (congrArg (SV.ints .u64 true) (by rw[ei]))⟩,⟨rfl,rfl⟩,⟨rfl,rfl⟩,⟨rfl,rfl⟩,trivial⟩
 have:i=(aa a).length:=by omega
 subst this;have en:(((aa a).length:Nat):Int).toNat=(aa a).length:=by omega
 rw[List.take_of_length_le (Nat.le_refl _),List.take_of_length_le (by omega),aX,aX]at hv;refine r1 rfl (by simp only[ae,and_true,en,L6]<;>omega) ?_;rw[en];refine cl rfl rfl (cC (out.set (aa a).length c) (by simp;omega)) rfl ?_;refine r0 rfl ?_;refine aF rfl (au.of_eq (congrArg (SV.ints .u64 false) ?_));rw[c7 (du hd (by omega)),iX _ (by omega),hz _ (Nat.le_refl _),Int.sub_zero,hv]
 congr 1
theorem pj(m n:Nat)(h1:(aa m).length<2^40)(Xi:n<=m):aO Tryz.prog 224 [.ints .u64 false (aa m),.ints .u64 false (aa n)] (.ints .u64 false (aa (m-n))):=by
 have hln:(aa n).length<=(aa m).length:=by
  rcases Nat.lt_or_ge (aa m).length (aa n).length with g|g
  ·have:=bz g;omega
  exact g
 refine enter (fn:=Tryz.f224) Tryz.func224 rfl rfl rfl rfl ?_;refine r1 rfl (by simp only[ae,and_true]<;>omega) ?_;refine mA (fun(i:Nat)(out:List Int)(c:Nat)=>[(0,.ints .u64 false (aa m)),(1,.ints .u64 false (aa n)),(5,.ints .u64 true out),(6,.n .u64 c),(13,.i (aa m).length),(14,.i i)])
  (fun i out c=>i<=(aa m).length/\fD out/\out.length=(aa m).length/\c<=1/\val out=val ((aa m).take i)-val ((aa n).take i)+c*18446744073709551616^i/\∀k,i<=k->out.getD k 0=0)
  (fun i _ _=>(aa m).length-i) 0 (List.replicate (aa m).length 0) 0 ⟨Nat.zero_le _,dI _,by simp,by omega,by simp[val,gi],fun k _=>dQ _ _⟩
  ⟨⟨rfl,rfl⟩,⟨rfl,rfl⟩,⟨rfl,au.of_eq (congrArg (SV.ints .u64 true) (by congr 1))⟩,⟨rfl,rfl⟩,⟨rfl,rfl⟩,⟨rfl,rfl⟩,trivial⟩ ?_
 rintro i out c⟨hi,hd,L6,hc,hv,hz⟩;refine r0 rfl ?_;refine br rfl rfl rfl (fun h=>?_) (fun h=>?_)
 ·have cO:i<(aa m).length:=by omega
  have ei:(i:Int).toNat=i:=by omega
  obtain⟨x,hx,MR⟩:=j8 m i;obtain⟨y,hy,LX⟩:=j8 n i;have fin:(i+1<=(aa m).length/\fD (out.set i (((x+18446744073709551616-y-c)%18446744073709551616:Nat):Int))/\(out.set i (((x+18446744073709551616-y-c)%18446744073709551616:Nat):Int)).length=(aa m).length/\(if x<y+c then 1 else 0:Nat)<=1/\
   val (out.set i (((x+18446744073709551616-y-c)%18446744073709551616:Nat):Int))=val ((aa m).take (i+1))-val ((aa n).take (i+1))+((if x<y+c then 1 else 0:Nat):Int)*18446744073709551616^(i+1)/\∀k,i+1<=k->(out.set i (((x+18446744073709551616-y-c)%18446744073709551616:Nat):Int)).getD k 0=0):=by
   refine⟨by omega,du hd (by omega),by simpa using L6,by split<;>omega,?_,fun k hk=>?_⟩
   ·rw[iX _ (by omega),hz i (Nat.le_refl _),aA,aA,hx,hy,Int.pow_succ];have q':(((x+18446744073709551616-y-c)%18446744073709551616:Nat):Int)=(x:Int)-y-c+18446744073709551616*((if x<y+c then 1 else 0:Nat):Int):=by split<;>omega
    generalize ((if x<y+c then 1 else 0:Nat):Int)=q1 at*;generalize (((x+18446744073709551616-y-c)%18446744073709551616:Nat):Int)=r1 at*;generalize (18446744073709551616:Int)^i=A at*
    grind
   rw[bA,if_neg (by omega)];exact hz k (by omega)
  refine r0 rfl ?_;refine br rfl rfl rfl (fun h4=>?_) (fun h4=>?_)
  ·refine r1 rfl (by simp only[ae,and_true,ei]<;>omega) ?_;refine cl rfl (by rw[ei,hx,hy];rfl) (mY x y c hc) rfl ?_;refine r1 rfl (by simp only[ae,and_true,ei,L6]<;>omega) ?_;exact again (i+1,out.set i (((x+18446744073709551616-y-c)%18446744073709551616:Nat):Int),(if x<y+c then 1 else 0:Nat)) (by dsimp only;omega) fin ⟨⟨rfl,rfl⟩,⟨rfl,rfl⟩,⟨rfl,au.of_eq (congrArg (SV.ints .u64 true) (by rw[ei]))⟩,⟨rfl,rfl⟩,⟨rfl,rfl⟩,⟨rfl,rfl⟩,trivial⟩
  have BZ:y=0:=by rw[List.getD_eq_getElem?_getD,List.getElem?_eq_none (by omega)]at hy;simp at hy;omega
  subst BZ;refine r1 rfl (by simp only[ae,and_true,ei]<;>omega) ?_;refine cl rfl (by rw[ei,hx];rfl) (mY x 0 c hc) rfl ?_;refine r1 rfl (by simp only[ae,and_true,ei,L6]<;>omega) ?_;exact again (i+1,out.set i (((x+18446744073709551616-0-c)%18446744073709551616:Nat):Int),(if x<0+c then 1 else 0:Nat)) (by dsimp only;omega) fin ⟨⟨rfl,rfl⟩,⟨rfl,rfl⟩,⟨rfl,au.of_eq (congrArg (SV.ints .u64 true) (by rw[ei]))⟩,⟨rfl,rfl⟩,⟨rfl,rfl⟩,⟨rfl,rfl⟩,trivial⟩
 have:i=(aa m).length:=by omega
 subst this;rw[List.take_of_length_le (Nat.le_refl _),List.take_of_length_le (by omega),aX,aX]at hv;have cB:=fI hd;have Im:=aT hd;rw[L6]at cB;have Me:c=0:=by
  rcases Nat.lt_or_ge 0 c with g|g
  ·have:c=1:=by omega
   subst this;omega
  omega
 subst Me;refine r0 rfl ?_;refine cl rfl rfl (cC out (by omega)) rfl ?_;refine r0 rfl ?_;refine aF rfl (au.of_eq (congrArg (SV.ints .u64 false) ?_));rw[c7 hd]
 congr 1;omega
theorem WZ(n:Nat):IntKind.u64.wrap (n:Int)=((n%18446744073709551616:Nat):Int):=by show(n:Int)%18446744073709551616=_;omega
theorem wr{n:Nat}(h:n<18446744073709551616):IntKind.u64.wrap (n:Int)=(n:Int):=by rw[WZ,Nat.mod_eq_of_lt h]
theorem M6{a:Int}:IntKind.u64.wrap a=a%18446744073709551616:=rfl
theorem uM(y:Nat):BitVec.ofInt IntKind.u64.bits (y:Int)=BitVec.ofNat 64 y:=BitVec.ofInt_natCast 64 y
theorem Oh(y:Nat):IntKind.u64.wrap ((BitVec.ofInt IntKind.u64.bits (y:Int)&&&BitVec.ofInt IntKind.u64.bits 4294967295).toNat:Int)=((y%4294967296:Nat):Int):=by
 have e:BitVec.ofInt IntKind.u64.bits 4294967295=BitVec.ofNat 64 (2^32-1):=rfl;rw[uM,e,WZ]
 congr 1
 have h1:(BitVec.ofNat 64 y&&&BitVec.ofNat 64 (2^32-1)).toNat=(y%2^64)&&&((2^32-1)%2^64):=by simp[BitVec.toNat_and,BitVec.toNat_ofNat]
 rw[show((2:Nat)^32-1)%2^64=2^32-1 from rfl,Nat.and_two_pow_sub_one_eq_mod]at h1;have h3:(BitVec.ofNat 64 y&&&BitVec.ofNat 64 (2^32-1)).toNat=y%2^64%2^32:=h1;show(BitVec.ofNat 64 y&&&BitVec.ofNat 64 (2^32-1)).toNat%_=_;rw[h3];omega
theorem Bx(y:Nat):(y:Int).fdiv (2^min (Int.toNat 32) IntKind.u64.bits)=((y/4294967296:Nat):Int):=by
 have:(2:Int)^min (Int.toNat 32) IntKind.u64.bits=4294967296:=by decide
 rw[this,Int.fdiv_eq_ediv_of_nonneg _ (by decide)];rfl
theorem iO(x y:Nat)(hx:x<18446744073709551616)(hy:y<18446744073709551616):aO Tryz.prog 185 [.n .u64 x,.n .u64 y] (.bC [.n .u64 (x*y/18446744073709551616:Nat),.n .u64 (x*y%18446744073709551616:Nat)]):=by
 refine enter (fn:=Tryz.f185) Tryz.func185 rfl rfl rfl rfl ?_;refine r1 rfl ?_ ?_
 ·simp only[ae];decide
 obtain⟨p1,p2,p3,p4⟩:=Go.Lib.mul64_hi x y hx hy;have a1:x/4294967296<=4294967295:=by omega
 have a2:y/4294967296<=4294967295:=by omega
 have q1:=Go.Lib.half_mul_le (a:=x/4294967296) (b:=y%4294967296) (by omega) (by omega);have q2:=Go.Lib.half_mul_le (a:=x%4294967296) (b:=y/4294967296) (by omega) (by omega);have q3:=Go.Lib.half_mul_le (a:=x/4294967296) (b:=y/4294967296) (by omega) (by omega);have hq:x*y/18446744073709551616<18446744073709551616:=by rw[Nat.div_lt_iff_lt_mul (by decide)];exact Nat.mul_lt_mul'' hx hy
 rw[<-p4]at hq;refine aF rfl ⟨congrArg (SV.n .u64) ?_,congrArg (SV.n .u64) ?_,trivial⟩
 ·have wA:=wr (n:=x/4294967296*(y/4294967296)) (by omega);have wB:=wr (n:=x/4294967296*(y%4294967296)) (by omega);have wC:=wr (n:=x%4294967296*(y/4294967296)) (by omega);have wD:=wr p1;have wt:=wr p2;have w1:=wr p3;have w2:=wr (n:=x/4294967296*(y/4294967296)+(x/4294967296*(y%4294967296)+x%4294967296*(y%4294967296)/4294967296)/4294967296) (by omega);have w3:=wr hq;simp only[Oh,Bx,<-Int.natCast_mul,<-Int.natCast_add,wA,wB,wC,wD,wt,w1,w2,w3];rw[p4]
 rw[<-Int.natCast_mul,WZ]
theorem RG{x y w c:Nat}(hx:x<18446744073709551616)(hy:y<18446744073709551616)(hw:w<18446744073709551616)(hc:c<18446744073709551616):
 x*y/18446744073709551616+(x*y%18446744073709551616+w+0)/18446744073709551616<18446744073709551616/\
 x*y/18446744073709551616+(x*y%18446744073709551616+w+0)/18446744073709551616+((x*y%18446744073709551616+w+0)%18446744073709551616+c+0)/18446744073709551616<18446744073709551616/\
 ((x*y%18446744073709551616+w+0)%18446744073709551616+c+0)%18446744073709551616+18446744073709551616*(x*y/18446744073709551616+(x*y%18446744073709551616+w+0)/18446744073709551616+((x*y%18446744073709551616+w+0)%18446744073709551616+c+0)/18446744073709551616)=x*y+w+c:=by
 have h1:x*y<=18446744073709551615*18446744073709551615:=Nat.mul_le_mul (by omega) (by omega);generalize x*y=p at*;refine⟨by omega,by omega,by omega⟩
theorem yr(m n:Nat)(h1:(aa m).length<2^40)(h2:(aa n).length<2^40):aO Tryz.prog 198 [.ints .u64 false (aa m),.ints .u64 false (aa n)] (.ints .u64 false (aa (m*n))):=by
 refine enter (fn:=Tryz.f198) Tryz.func198 rfl rfl rfl rfl ?_;refine r1 rfl (by simp only[ae,and_true]<;>omega) ?_;refine lP (fun(i:Nat)(out:List Int)=>[(1,.ints .u64 false (aa n)),(5,.ints .u64 true out),(20,.ints .u64 false (aa m)),(21,.i (aa m).length),(22,.i i)])
  (fun i out=>fD out/\out.length=(aa m).length+(aa n).length/\val out=val ((aa m).take i)*n/\i<=(aa m).length/\∀k,i+(aa n).length<=k->out.getD k 0=0)
  (fun i _=>(aa m).length-i) 0 (List.replicate ((aa m).length+(aa n).length) 0) ⟨dI _,by simp,by simp[val,gi],by omega,fun k _=>dQ _ _⟩
  ⟨⟨rfl,rfl⟩,⟨rfl,au.of_eq (congrArg (SV.ints .u64 true) (by congr 1))⟩,⟨rfl,rfl⟩,⟨rfl,rfl⟩,⟨rfl,rfl⟩,trivial⟩ ?_
 rintro i out⟨hd,hl,hv,hi,hz⟩;refine r0 rfl ?_;refine br rfl rfl rfl (fun h=>?_) (fun h=>?_)
 ·have cO:i<(aa m).length:=by omega
  have ei:(i:Int).toNat=i:=by omega
  obtain⟨x,hx,MR⟩:=j8 m i;refine r1 rfl (by simp only[ae,and_true,ei]<;>omega) ?_;rw[ei,hx];refine mA (fun(k:Nat)(o:List Int)(c:Nat)=>[(1,.ints .u64 false (aa n)),(5,.ints .u64 true o),(6,.i i),(7,.n .u64 x),(8,.n .u64 c),(20,.ints .u64 false (aa m)),(21,.i (aa m).length),(22,.i i),(27,.ints .u64 false (aa n)),(28,.i (aa n).length),(29,.i k)])
   (fun k o c=>fD o/\o.length=(aa m).length+(aa n).length/\c<18446744073709551616/\val o+c*18446744073709551616^(i+k)=val out+x*val ((aa n).take k)*18446744073709551616^i/\k<=(aa n).length/\∀k',i+k<=k'->o.getD k' 0=out.getD k' 0)
   (fun k _ _=>(aa n).length-k) 0 out 0 ⟨hd,hl,by omega,by simp[val],by omega,fun _ _=>rfl⟩ ⟨⟨rfl,rfl⟩,⟨rfl,rfl⟩,⟨rfl,rfl⟩,⟨rfl,rfl⟩,⟨rfl,rfl⟩,⟨rfl,rfl⟩,⟨rfl,rfl⟩,⟨rfl,rfl⟩,⟨rfl,rfl⟩,⟨rfl,rfl⟩,⟨rfl,rfl⟩,trivial⟩ ?_
  rintro k o c⟨gd,gl,gc,gv,gk,gz⟩;refine r0 rfl ?_;refine br rfl rfl rfl (fun h3=>?_) (fun h3=>?_)
  ·have qO:k<(aa n).length:=by omega
   have ek:(k:Int).toNat=k:=by omega
   have Ui:((i:Int)+(k:Int)).toNat=i+k:=by omega
   obtain⟨y,hy,LX⟩:=j8 n k;obtain⟨w,hw,hw2⟩:∃w:Nat,o.getD (i+k) 0=w/\w<18446744073709551616:=by have:=aU gd (i+k);exact⟨(o.getD (i+k) 0).toNat,by omega,by omega⟩
   obtain⟨p1,p2,p3⟩:=RG MR LX hw2 gc;refine r1 rfl (by simp only[ae,and_true,ek]<;>omega) ?_;rw[ek,hy];refine cl rfl rfl (iO x y MR LX) rfl ?_;refine r1 rfl (by simp only[ae,and_true,Ui,gl]<;>omega) ?_;rw[Ui,hw];refine cl rfl rfl (dJ (x*y%18446744073709551616) w 0 (by decide)) rfl ?_;refine r1 rfl (by simp only[ae,and_true]<;>omega) ?_;refine cl rfl rfl (dJ ((x*y%18446744073709551616+w+0)%18446744073709551616) c 0 (by decide)) rfl ?_;refine r1 rfl (by simp only[ae,and_true,Ui,gl]<;>omega) ?_;rw[Ui];have ec:IntKind.u64.wrap (IntKind.u64.wrap (((x*y/18446744073709551616:Nat):Int)+(((x*y%18446744073709551616+w+0)/18446744073709551616:Nat):Int))+((((x*y%18446744073709551616+w+0)%18446744073709551616+c+0)/18446744073709551616:Nat):Int))=
    ((x*y/18446744073709551616+(x*y%18446744073709551616+w+0)/18446744073709551616+((x*y%18446744073709551616+w+0)%18446744073709551616+c+0)/18446744073709551616:Nat):Int):=by
    rw[<-Int.natCast_add,wr p1,<-Int.natCast_add,wr p2]
   refine again (k+1,o.set (i+k) (((((x*y%18446744073709551616+w+0)%18446744073709551616+c+0)%18446744073709551616:Nat)):Int),x*y/18446744073709551616+(x*y%18446744073709551616+w+0)/18446744073709551616+((x*y%18446744073709551616+w+0)%18446744073709551616+c+0)/18446744073709551616)
    (by dsimp only;omega) ⟨du gd (by omega),by simpa using gl,p2,?_,by dsimp only;omega,?_⟩ ⟨⟨rfl,rfl⟩,⟨rfl,rfl⟩,⟨rfl,rfl⟩,⟨rfl,rfl⟩,⟨rfl,au.of_eq (congrArg (SV.n .u64) ec)⟩,⟨rfl,rfl⟩,⟨rfl,rfl⟩,⟨rfl,rfl⟩,⟨rfl,rfl⟩,⟨rfl,rfl⟩,⟨rfl,rfl⟩,trivial⟩
   ·dsimp only;have cB:i+k<o.length:=by omega
    rw[iX _ cB,hw,aA,hy,show i+(k+1)=i+k+1 by omega,Int.pow_succ,Int.pow_add];rw[Int.pow_add]at gv;generalize x*y/18446744073709551616+(x*y%18446744073709551616+w+0)/18446744073709551616+((x*y%18446744073709551616+w+0)%18446744073709551616+c+0)/18446744073709551616=q at*;generalize ((x*y%18446744073709551616+w+0)%18446744073709551616+c+0)%18446744073709551616=r at*;have p3':(r:Int)+18446744073709551616*(q:Int)=(x:Int)*y+w+c:=by rw[<-Int.natCast_mul x y];clear gv hv p1 p2;generalize x*y=p at *;omega
    generalize (18446744073709551616:Int)^i=A at*;generalize (18446744073709551616:Int)^k=B at*
    grind
   dsimp only;intro k' qO;rw[bA,if_neg (by omega)];exact gz k' (by omega)
  have hk:k=(aa n).length:=by omega
  subst hk;rw[List.take_of_length_le (Nat.le_refl _),aX]at gv;have hw:o.getD (i+(aa n).length) 0=0:=by rw[gz _ (Nat.le_refl _)];exact hz _ (Nat.le_refl _)
  have e4:((i:Int)+((aa n).length:Int)).toNat=i+(aa n).length:=by omega
  refine r1 rfl (by simp only[ae,and_true,gl,e4]<;>omega) ?_;rw[e4];refine again (i+1,o.set (i+(aa n).length) c) (by dsimp only;omega) ⟨du gd (by omega),by simpa using gl,?_,by dsimp only;omega,?_⟩
   ⟨⟨rfl,rfl⟩,⟨rfl,rfl⟩,⟨rfl,rfl⟩,⟨rfl,rfl⟩,⟨rfl,rfl⟩,trivial⟩
  ·dsimp only;rw[iX _ (by omega),hw,aA,hx];generalize (18446744073709551616:Int)^(i+(aa n).length)=A at*;generalize (18446744073709551616:Int)^i=B at*
   grind
  dsimp only;intro k' qO;rw[bA,if_neg (by omega),gz _ (by omega)];exact hz _ (by omega)
 have:i=(aa m).length:=by omega
 subst this;rw[List.take_of_length_le (Nat.le_refl _),aX]at hv;refine r0 rfl ?_;refine cl rfl rfl (cC out (by omega)) rfl ?_;refine r0 rfl ?_;refine aF rfl (au.of_eq (congrArg (SV.ints .u64 false) ?_));rw[c7 hd,hv]
 congr 1
structure Nm where
 s:Int
 w:Option Nat
def wS:Option Nat->SV
 |none=>.nil
 |some m=>.ints .u64 false (aa m)
def mg(a:Nm):SV:=.agg [.i a.s,wS a.w]
def nv(a:Nm):Int:=match a.w with|none=>a.s|some m=>a.s*m
def aV(a:Nm):Prop:=match a.w with
 |none=> -9223372036854775808<=a.s/\a.s<=9223372036854775807
 |some m=>(a.s=1\/a.s= -1)/\9223372036854775808<=m
def dL(a:Nm)(K:Nat):Prop:=(aa (nv a).natAbs).length<=K
theorem Uw(a:Int):IntKind.i64.wrap a=(a+9223372036854775808)%18446744073709551616-9223372036854775808:=by have e:IntKind.i64.wrap a=if(true&&decide (a%18446744073709551616>=9223372036854775808))=true then a%18446744073709551616-18446744073709551616 else a%18446744073709551616:=rfl;rw[e];simp only[Bool.true_and,decide_eq_true_eq];split<;>omega
theorem rG(n:Int)(h: -9223372036854775808<=n/\n<=9223372036854775807):aO Tryz.prog 196 [.i n] (.n .u64 n.natAbs):=by
 refine enter (fn:=Tryz.f196) Tryz.func196 rfl rfl rfl rfl ?_;refine r0 rfl ?_;refine br rfl rfl rfl (fun h1=>?_) (fun h1=>?_)
 ·refine kw [6] rfl rfl trivial ?_;refine aF rfl (au.of_eq (congrArg (SV.n .u64) ?_));rw[M6,Uw];omega
 refine r0 rfl ?_;refine aF rfl (au.of_eq (congrArg (SV.n .u64) ?_));rw[M6];omega
theorem jC{f:Nat}(h0:0<f)(h1:f<18446744073709551616):aa f=[(f:Int)]:=kd h0 h1
theorem cS(a:Nm)(h:aV a):aO Tryz.prog 194 [mg a] (.bC [.u (decide (a.s<0)),.ints .u64 false (aa (nv a).natAbs)]):=by
 obtain⟨s,w⟩:=a;cases w with
 |none=>
  have h: -9223372036854775808<=s/\s<=9223372036854775807:=h;refine enter (fn:=Tryz.f194) Tryz.func194 rfl rfl rfl rfl ?_;refine r0 rfl ?_;refine br rfl rfl rfl (fun h1=>?_) (fun h1=>?_)
  ·have h1:s=0:=h1;subst h1;refine r0 rfl ?_;exact aF rfl ⟨rfl,b9,trivial⟩
  have h1:¬s=0:=h1;refine r0 rfl ?_;refine cd rfl rfl (rG s h) rfl ?_;refine k0 rfl (by kernel_rfl) ?_;refine rtS rfl ⟨rfl,congrArg (SV.ints .u64 false) ?_,trivial⟩;exact(jC (f:=s.natAbs) (by omega) (by omega)).symm
 |some m=>
  obtain⟨hs,hm⟩:(s=1\/s= -1)/\9223372036854775808<=m:=h;have cR:aa m≠[]:=by intro e;have:=aX m;rw[e]at this;simp[val]at this;omega
  have hn:(nv ⟨s,some m⟩).natAbs=m:=by show(s*(m:Int)).natAbs=m;rcases hs with rfl|rfl<;>omega
  rw[hn];refine enter (fn:=Tryz.f194) Tryz.func194 rfl rfl rfl rfl ?_;refine k1 rfl (by kernel_rfl) (by simp only[ae,and_true];exact cR) ?_;exact aF rfl (au.refl _)
def o9(neg:Bool)(m:Nat):Nm:=if m<=9223372036854775807 then⟨if neg then -(m:Int)else m,none⟩else⟨if neg then -1 else 1,some m⟩
theorem kE(neg:Bool)(m:Nat):nv (o9 neg m)=if neg then -(m:Int)else m:=by unfold o9 nv;cases neg<;>by_cases h:m<=9223372036854775807<;>simp[h]
theorem mK(neg:Bool)(m:Nat):aV (o9 neg m):=by
 unfold o9 aV;by_cases g:m<=9223372036854775807
 ·simp only[g,if_true];cases neg<;>simp<;>omega
 simp only[g,if_false];exact⟨by cases neg<;>simp,by omega⟩
theorem fj{m:Nat}(h:m<18446744073709551616):(aa m).length<=1:=by
 rcases Nat.eq_zero_or_pos m with g|g
 ·subst g;simp[b9]
 rw[jC g h];simp
theorem iy(neg:Bool)(m:Nat)(hl:(aa m).length<2^40):aO Tryz.prog 197 [.u neg,.ints .u64 false (aa m)] (mg (o9 neg m)):=by
 have Kj:Int.toNat 0=0:=rfl;have one:(aa m).length=1->0<m/\m<18446744073709551616/\(aa m).getD 0 0=m:=by
  intro h;have h1:=bq m;rw[h]at h1;have h2:0<m:=by
   rcases Nat.eq_zero_or_pos m with g|g
   ·subst g;rw[b9]at h;simp at h
   exact g
  have h3:m<18446744073709551616:=by omega
  exact⟨h2,h3,by rw[jC h2 h3];rfl⟩
 refine enter (fn:=Tryz.f197) Tryz.func197 rfl rfl rfl rfl ?_;refine r0 rfl ?_;refine br rfl rfl rfl (fun h1=>?_) (fun h1=>?_)
 ·have hm:m=0:=by
   rcases Nat.eq_zero_or_pos m with g|g
   ·exact g
   have:=dm (n:=m) (by omega);omega
  subst hm;refine r0 rfl ?_;refine aF rfl ?_;unfold o9;rw[if_pos (by decide)];cases neg<;>exact⟨rfl,trivial,trivial⟩
 refine r0 rfl ?_;refine aB 14 rfl (fun h2=>?_) (fun h2=>?_)
 ·obtain⟨o1,o2,o3⟩:=one (by omega);refine r1 rfl (by simp only[ae,and_true,Kj]<;>omega) ?_;rw[Kj,o3];refine aB 20 rfl (fun h3=>?_) (fun h3=>?_)
  ·have h3:(m:Int)<=9223372036854775807:=h3;refine r0 rfl ?_;refine o5 rfl rfl rfl (fun h4=>?_) (fun h4=>?_)
   ·have h4:neg=true:=h4;subst h4;refine kw [27] rfl rfl (by simp only[ae,and_true,Kj]<;>omega) ?_;rw[Kj,o3];refine aF rfl ?_;unfold o9;rw[if_pos (by omega)];refine⟨congrArg SV.i ?_,trivial,trivial⟩;rw[Uw];show _=(if true=true then -(m:Int)else m);simp only[if_true];omega
   have h4:neg=false:=h4;subst h4;refine r0 rfl ?_;refine aB 33 rfl (fun h5=>?_) (fun h5=>absurd h2 h5);refine r1 rfl (by simp only[ae,and_true,Kj]<;>omega) ?_;rw[Kj,o3];refine br rfl rfl rfl (fun h6=>?_) (fun h6=>absurd h3 h6);refine r1 rfl (by simp only[ae,and_true,Kj]<;>omega) ?_;rw[Kj,o3];refine aF rfl ?_;unfold o9;rw[if_pos (by omega)];refine⟨congrArg SV.i ?_,trivial,trivial⟩;show _=(if false=true then -(m:Int)else m);simp only[Bool.false_eq_true,if_false]
  have h3:¬(m:Int)<=9223372036854775807:=h3;refine r0 rfl ?_;refine aB 33 rfl (fun h5=>?_) (fun h5=>absurd h2 h5);refine r1 rfl (by simp only[ae,and_true,Kj]<;>omega) ?_;rw[Kj,o3];refine br rfl rfl rfl (fun h6=>absurd h6 h3) (fun h6=>?_);refine r0 rfl ?_;refine o5 rfl rfl rfl (fun h7=>?_) (fun h7=>?_)
  ·have h7:neg=true:=h7;subst h7;refine r0 rfl ?_;exact aF rfl (au.of_eq (by unfold o9;rw[if_neg (by omega)];rfl))
  have h7:neg=false:=h7;subst h7;refine r0 rfl ?_;exact aF rfl (au.of_eq (by unfold o9;rw[if_neg (by omega)];rfl))
 have Zf:¬m<=9223372036854775807:=by intro g;have:=fj (m:=m) (by omega);have h1:¬((aa m).length:Int)=0:=h1;have h2:¬((aa m).length:Int)=1:=h2;omega
 refine r0 rfl ?_;refine aB 33 rfl (fun h5=>absurd h5 h2) (fun h5=>?_);refine r0 rfl ?_;refine o5 rfl rfl rfl (fun h7=>?_) (fun h7=>?_)
 ·have h7:neg=true:=h7;subst h7;refine r0 rfl ?_;exact aF rfl (au.of_eq (by unfold o9;rw[if_neg Zf];rfl))
 have h7:neg=false:=h7;subst h7;refine r0 rfl ?_;exact aF rfl (au.of_eq (by unfold o9;rw[if_neg Zf];rfl))
theorem rH(a:Nm)(h:aV a):aO Tryz.prog 112 [mg a] (.i (nv a).sign):=by
 obtain⟨s,w⟩:=a;cases w with
 |none=>
  refine enter (fn:=Tryz.f112) Tryz.func112 rfl rfl rfl rfl ?_;refine r0 rfl ?_;refine aF rfl (au.of_eq (congrArg SV.i ?_));show max (-1) (min 1 s)=s.sign;rcases Int.lt_trichotomy s 0 with g|g|g
  ·rw[Int.sign_eq_neg_one_of_neg g];omega
  ·subst g;rfl
  rw[Int.sign_eq_one_of_pos g];omega
 |some m=>
  obtain⟨hs,hm⟩:(s=1\/s= -1)/\9223372036854775808<=m:=h;refine enter (fn:=Tryz.f112) Tryz.func112 rfl rfl rfl rfl ?_;refine r0 rfl ?_;refine aF rfl (au.of_eq (congrArg SV.i ?_));show max (-1) (min 1 s)=(s*(m:Int)).sign;rcases hs with rfl|rfl
  ·rw[Int.sign_eq_one_of_pos (by omega)];rfl
  rw[Int.sign_eq_neg_one_of_neg (by omega)];rfl
theorem gq(a:Nm)(h:aV a):(a.s<0↔nv a<0)/\(a.w=none->nv a=a.s):=by
 obtain⟨s,w⟩:=a;cases w with
 |none=>exact⟨Iff.rfl,fun _=>rfl⟩
 |some m=>obtain⟨hs,hm⟩:(s=1\/s= -1)/\9223372036854775808<=m:=h;refine⟨?_,fun g=>by simp at g⟩;show s<0↔s*(m:Int)<0;rcases hs with rfl|rfl<;>omega
theorem kK(n:Nat)(h:0<n):aa n≠[]:=by have:=dm (n:=n) (by omega);intro e;rw[e]at this;simp at this
def gE(a:Nm):Nm:=if a.w=none/\a.s≠ -9223372036854775808 then⟨-a.s,none⟩else o9 (!decide (a.s<0)) (nv a).natAbs
theorem cX(a:Nm)(h:aV a):nv (gE a)= -nv a/\aV (gE a):=by
 have h1:=gq a h;unfold gE;split
 ·rename_i g;have e:=h1.2 g.1;obtain⟨s,w⟩:=a;obtain⟨rfl,g2⟩:w=none/\s≠ -9223372036854775808:=g;have h: -9223372036854775808<=s/\s<=9223372036854775807:=h;exact⟨rfl,show -9223372036854775808<= -s/\ -s<=9223372036854775807 by omega⟩
 refine⟨?_,mK _ _⟩;rw[kE];by_cases g:a.s<0
 ·have:=h1.1.1 g;simp[g];omega
 have:¬nv a<0:=fun k=>g (h1.1.2 k);simp[g];omega
theorem nn(a:Nm)(h:aV a){K:Nat}(hl:dL a K)(hK:K<2^40):aO Tryz.prog 172 [mg a] (mg (gE a)):=by
 have hp:=cS a h;unfold dL at hl;obtain⟨s,w⟩:=a;cases w with
 |none=>
  have h: -9223372036854775808<=s/\s<=9223372036854775807:=h;refine enter (fn:=Tryz.f172) Tryz.func172 rfl rfl rfl rfl ?_;refine r0 rfl ?_;refine br rfl rfl rfl (fun h1=>?_) (fun h1=>?_)
  ·have h1:s≠ -9223372036854775808:=h1;refine r1 rfl (by simp only[ae,and_true]<;>omega) ?_;refine aF rfl ?_;unfold gE;rw[if_pos ⟨rfl,h1⟩];exact⟨congrArg SV.i (by show 0-s= -s;omega),trivial,trivial⟩
  have h1:¬s≠ -9223372036854775808:=h1;refine r0 rfl ?_;refine cl rfl rfl hp rfl ?_;refine r0 rfl ?_;refine cl rfl rfl (iy (!decide (s<0)) (nv ⟨s,none⟩).natAbs (by omega)) rfl ?_;unfold gE;rw[if_neg (fun g=>h1 g.2)];generalize o9 (!decide ((⟨s,none⟩:Nm).s<0)) (nv ⟨s,none⟩).natAbs=r;obtain⟨s',w'⟩:=r;cases w'<;>exact r0 rfl (aF rfl (au.refl _))
 |some m=>obtain⟨hs,hm⟩:(s=1\/s= -1)/\9223372036854775808<=m:=h;refine enter (fn:=Tryz.f172) Tryz.func172 rfl rfl rfl rfl ?_;refine r1 rfl (by simp only[ae,and_true];exact kK m (by omega)) ?_;refine cl rfl rfl hp rfl ?_;refine r0 rfl ?_;refine cl rfl rfl (iy (!decide (s<0)) (nv ⟨s,some m⟩).natAbs (by omega)) rfl ?_;unfold gE;rw[if_neg (fun g=>by simp at g)];generalize o9 (!decide ((⟨s,some m⟩:Nm).s<0)) (nv ⟨s,some m⟩).natAbs=r;obtain⟨s',w'⟩:=r;cases w'<;>exact r0 rfl (aF rfl (au.refl _))
def vL(a:Nm):Nm:=if a.s<0 then gE a else a
theorem lh(a:Nm)(h:aV a):nv (vL a)=(nv a).natAbs/\aV (vL a):=by
 have h1:=gq a h;unfold vL;split
 ·rename_i g;obtain⟨e1,e2⟩:=cX a h;have:=h1.1.1 g;exact⟨by rw[e1];omega,e2⟩
 rename_i g;have:¬nv a<0:=fun k=>g (h1.1.2 k);exact⟨by omega,h⟩
theorem Jg(a:Nm)(h:aV a){K:Nat}(hl:dL a K)(hK:K<2^40):aO Tryz.prog 189 [mg a] (mg (vL a)):=by
 have hn:=nn a h hl hK;unfold vL;obtain⟨s,w⟩:=a;cases w with
 |none=>
  refine enter (fn:=Tryz.f189) Tryz.func189 rfl rfl rfl rfl ?_;refine r0 rfl ?_;refine br rfl rfl rfl (fun h1=>?_) (fun h1=>?_)
  ·have h1:s<0:=h1;rw[if_pos h1];refine r0 rfl ?_;refine cl rfl rfl hn rfl ?_;generalize gE ⟨s,none⟩=r;obtain⟨s',w'⟩:=r;cases w'<;>exact r0 rfl (aF rfl (au.refl _))
  have h1:¬s<0:=h1;rw[if_neg h1];exact r0 rfl (aF rfl (au.refl _))
 |some m=>
  refine enter (fn:=Tryz.f189) Tryz.func189 rfl rfl rfl rfl ?_;refine r0 rfl ?_;refine br rfl rfl rfl (fun h1=>?_) (fun h1=>?_)
  ·have h1:s<0:=h1;rw[if_pos h1];refine r0 rfl ?_;refine cl rfl rfl hn rfl ?_;generalize gE ⟨s,some m⟩=r;obtain⟨s',w'⟩:=r;cases w'<;>exact r0 rfl (aF rfl (au.refl _))
  have h1:¬s<0:=h1;rw[if_neg h1];exact r0 rfl (aF rfl (au.refl _))
end Go.Ai.b6
namespace Go.Ai.b6
theorem lR{m n K:Nat}(h1:(aa m).length<=K)(h2:(aa n).length<=K):(aa (m+n)).length<=K+1:=by
 rcases eM (m+n)with g|g
 ·rw[g];simp
 have g1:=bq m;have g2:=bq n;have p1:=fN h1;have p2:=fN h2;rcases Nat.lt_or_ge (K+1) (aa (m+n)).length with h|h
 ·have p3:=fN (show K+1<=(aa (m+n)).length-1 by omega);rw[Int.pow_succ]at p3;have:=bV K;omega
 omega
theorem fQ(m n:Nat):(aa (m*n)).length<=(aa m).length+(aa n).length:=by
 rcases eM (m*n)with g|g
 ·rw[g];simp
 have g1:=bq m;have g2:=bq n;rcases Nat.lt_or_ge ((aa m).length+(aa n).length) (aa (m*n)).length with h|h
 ·have p3:=fN (show(aa m).length+(aa n).length<=(aa (m*n)).length-1 by omega);rw[Int.pow_add]at p3;have a1:(m:Int)*n<=18446744073709551616^(aa m).length*n:=eC (by omega) (by omega);have a2:(18446744073709551616:Int)^(aa m).length*n<18446744073709551616^(aa m).length*18446744073709551616^(aa n).length:=Int.mul_lt_mul_of_pos_left g2 (bV _);rw[Int.natCast_mul]at g;omega
 exact h
theorem jz(a b:Nat):(aa (a/b)).length<=(aa a).length:=by
 rcases Nat.lt_or_ge (aa a).length (aa (a/b)).length with g|g
 ·have:=bz g;have:=Nat.div_le_self a b;omega
 exact g
theorem length_le{m n:Nat}(h:m<=n):(aa m).length<=(aa n).length:=by
 rcases Nat.lt_or_ge (aa n).length (aa m).length with g|g
 ·have:=bz g;omega
 exact g
end Go.Ai.b6
namespace Go.Ai.b6
open Go.Proofs Go.Ai
set_option maxRecDepth 100000
def Qj(sa:Bool)(A:Nat)(sb:Bool)(B:Nat):Nm:=if sa=sb then o9 sa (A+B)else if B<=A then o9 sa (A-B)else o9 sb (B-A)
def sn(x y:Int):Bool:=decide (x<IntKind.i64.wrap (x+y))==decide (0<y)
def tY(a b:Nm):Nm:=if a.w=none/\b.w=none/\sn a.s b.s=true then⟨IntKind.i64.wrap (a.s+b.s),none⟩else Qj (decide (a.s<0)) (nv a).natAbs (decide (b.s<0)) (nv b).natAbs
theorem Jd{x y:Int}(hx: -9223372036854775808<=x/\x<=9223372036854775807)(hy: -9223372036854775808<=y/\y<=9223372036854775807)(h:sn x y=true):IntKind.i64.wrap (x+y)=x+y:=by unfold sn at h;rw[beq_iff_eq,decide_eq_decide]at h;rw[Uw]at*;omega
theorem iU(a b:Nm)(ha:aV a)(hb:aV b):nv (tY a b)=nv a+nv b/\aV (tY a b):=by
 have a1:=gq a ha;have b1:=gq b hb;unfold tY;split
 ·rename_i g;obtain⟨s,w⟩:=a;obtain⟨t,v⟩:=b;obtain⟨rfl,rfl,g3⟩:w=none/\v=none/\sn s t=true:=g;have ha: -9223372036854775808<=s/\s<=9223372036854775807:=ha;have hb: -9223372036854775808<=t/\t<=9223372036854775807:=hb;have:=Jd ha hb g3;refine⟨this,?_⟩;show -9223372036854775808<=IntKind.i64.wrap (s+t)/\IntKind.i64.wrap (s+t)<=9223372036854775807;rw[Uw];omega
 unfold Qj;have ea:decide (a.s<0)=decide (nv a<0):=by rw[decide_eq_decide];exact a1.1
 have eb:decide (b.s<0)=decide (nv b<0):=by rw[decide_eq_decide];exact b1.1
 rw[ea,eb];split
 ·rename_i g;refine⟨?_,mK _ _⟩;rw[kE];rw[decide_eq_decide]at g;by_cases h:nv a<0
  ·have:=g.1 h;simp[h];omega
  have:¬nv b<0:=fun k=>h (g.2 k);simp[h];omega
 rename_i g;rw[decide_eq_decide]at g;split
 ·refine⟨?_,mK _ _⟩;rw[kE];by_cases h:nv a<0
  ·have:¬nv b<0:=fun k=>g ⟨fun _=>k,fun _=>h⟩;simp[h];omega
  have:nv b<0:=by apply Classical.byContradiction;intro k;exact g ⟨fun k'=>absurd k' h,fun k'=>absurd k' k⟩
  simp[h];omega
 refine⟨?_,mK _ _⟩;rw[kE];by_cases h:nv b<0
 ·have:¬nv a<0:=fun k=>g ⟨fun _=>h,fun _=>k⟩;simp[h];omega
 have:nv a<0:=by apply Classical.byContradiction;intro k;exact g ⟨fun k'=>absurd k' k,fun k'=>absurd k' h⟩
 simp[h];omega
theorem Qi(a b:Nm)(ha:aV a)(hb:aV b){K:Nat}(la:dL a K)(lb:dL b K)(hK:K<2^39):
 AK R0 Tryz.prog Tryz.f152.ntmps (Ti Tryz.prog Tryz.f152.results.toList (mg (Qj (decide (a.s<0)) (nv a).natAbs (decide (b.s<0)) (nv b).natAbs))) [.code (jR 2 (Tryz.f152.body.getD .skip)).2]
  (sl [(2,.box true (mg a)),(3,.box true (mg b)),(4,.box true (.agg [.i 0,.nil]))]):=by
 have pa:=cS a ha;have pb:=cS b hb;unfold dL at la lb;generalize (nv a).natAbs=A at*;generalize (nv b).natAbs=B at*;have Sj:=lR la lb;have fin:∀(neg:Bool)(m:Nat)(l:aP),True->True:=fun _ _ _ h=>h;refine cg 2 [(4,.box true (.agg [.i 0,.nil])),(6,.u (decide (a.s<0))),(7,.ints .u64 false (aa A)),(8,.u (decide (b.s<0))),(9,.ints .u64 false (aa B))] True ?_ fun _=>?_
 ·obtain⟨s,w⟩:=a;obtain⟨t,v⟩:=b;cases w<;>cases v
  all_goals
   refine r0 rfl ?_;refine cl rfl rfl pa rfl ?_;refine r0 rfl ?_;refine cl rfl rfl pb rfl ?_;refine r0 rfl ?_;exact aQ trivial ⟨⟨rfl,rfl⟩,⟨rfl,rfl⟩,⟨rfl,rfl⟩,⟨rfl,rfl⟩,⟨rfl,rfl⟩,trivial⟩
 generalize decide (a.s<0)=sa;generalize decide (b.s<0)=sb;refine r0 rfl ?_;refine o5 rfl rfl rfl (fun h1=>?_) (fun h1=>?_)
 ·have h1:sa=sb:=by simpa using h1
  unfold Qj;rw[if_pos h1];refine r0 rfl ?_;refine cl rfl rfl (Aw A B (by omega) (by omega)) rfl ?_;refine r0 rfl ?_;refine cl rfl rfl (iy sa (A+B) (by omega)) rfl ?_;generalize o9 sa (A+B)=r;obtain⟨s',w'⟩:=r;cases w'<;>exact r0 rfl (aF rfl (au.refl _))
 have h1:¬sa=sb:=by simpa using h1
 unfold Qj;rw[if_neg h1];refine r0 rfl ?_;refine cl rfl rfl (l8 A B (by omega) (by omega)) rfl ?_;refine r0 rfl ?_;refine br rfl rfl rfl (fun h2=>?_) (fun h2=>?_)
 ·have h2:0<=l9 A B:=h2;have h3:B<=A:=by unfold l9 at h2;split at h2<;>omega
  rw[if_pos h3];have:=length_le (m:=A-B) (n:=A) (by omega);refine r0 rfl ?_;refine cl rfl rfl (pj A B (by omega) h3) rfl ?_;refine r0 rfl ?_;refine cl rfl rfl (iy sa (A-B) (by omega)) rfl ?_;generalize o9 sa (A-B)=r;obtain⟨s',w'⟩:=r;cases w'<;>exact r0 rfl (aF rfl (au.refl _))
 have h2:¬0<=l9 A B:=h2;have h3:¬B<=A:=by unfold l9 at h2;split at h2<;>first|omega|(split at h2<;>omega)
 rw[if_neg h3];have:=length_le (m:=B-A) (n:=B) (by omega);refine r0 rfl ?_;refine cl rfl rfl (pj B A (by omega) (by omega)) rfl ?_;refine r0 rfl ?_;refine cl rfl rfl (iy sb (B-A) (by omega)) rfl ?_;generalize o9 sb (B-A)=r;obtain⟨s',w'⟩:=r;cases w'<;>exact r0 rfl (aF rfl (au.refl _))
theorem Av(a b:Nm)(ha:aV a)(hb:aV b){K:Nat}(la:dL a K)(lb:dL b K)(hK:K<2^39):aO Tryz.prog 152 [mg a,mg b] (mg (tY a b)):=by
 have ht:=Qi a b ha hb la lb hK;have cR:∀(x:Nm)(s:Int)(m:Nat),x=⟨s,some m⟩->aV x->aa m≠[]:=by rintro x s m rfl h;have:9223372036854775808<=m:=h.2;exact kK m (by omega)
 unfold tY;refine enter (fn:=Tryz.f152) Tryz.func152 rfl rfl rfl rfl ?_;obtain⟨s,w⟩:=a;obtain⟨t,v⟩:=b;cases w with
 |none=>
  cases v with
  |none=>
   by_cases g:sn s t=true
   ·rw[if_pos ⟨rfl,rfl,g⟩];refine kw [22] rfl rfl trivial ?_;refine o5 rfl rfl rfl (fun h1=>?_) (fun h1=>?_)
    ·refine r0 rfl ?_;exact aF rfl (au.refl _)
    exact absurd g (by rw[show sn s t=false from h1];simp)
   rw[if_neg (fun k=>g k.2.2)];refine cg 2 [(2,.box true (mg ⟨s,none⟩)),(3,.box true (mg ⟨t,none⟩)),(4,.box true (.agg [.i 0,.nil]))] True ?_ fun _=>ht;refine kw [22] rfl rfl trivial ?_;refine o5 rfl rfl rfl (fun h1=>?_) (fun h1=>?_)
   ·exact absurd (show sn s t=true from h1) g
   refine r0 rfl ?_;exact aQ trivial ⟨⟨rfl,rfl⟩,⟨rfl,rfl⟩,⟨rfl,rfl⟩,trivial⟩
  |some n=>rw[if_neg (fun k=>by simp at k)];refine cg 2 [(2,.box true (mg ⟨s,none⟩)),(3,.box true (mg ⟨t,some n⟩)),(4,.box true (.agg [.i 0,.nil]))] True ?_ fun _=>ht;refine r1 rfl (by simp only[ae,and_true];exact cR _ _ _ rfl hb) ?_;exact aQ trivial ⟨⟨rfl,rfl⟩,⟨rfl,rfl⟩,⟨rfl,rfl⟩,trivial⟩
 |some m=>
  cases v with
  |none=>rw[if_neg (fun k=>by simp at k)];refine cg 2 [(2,.box true (mg ⟨s,some m⟩)),(3,.box true (mg ⟨t,none⟩)),(4,.box true (.agg [.i 0,.nil]))] True ?_ fun _=>ht;refine r1 rfl (by simp only[ae,and_true];exact cR _ _ _ rfl ha) ?_;exact aQ trivial ⟨⟨rfl,rfl⟩,⟨rfl,rfl⟩,⟨rfl,rfl⟩,trivial⟩
  |some n=>rw[if_neg (fun k=>by simp at k)];refine cg 2 [(2,.box true (mg ⟨s,some m⟩)),(3,.box true (mg ⟨t,some n⟩)),(4,.box true (.agg [.i 0,.nil]))] True ?_ fun _=>ht;refine r1 rfl (by simp only[ae,and_true];exact cR _ _ _ rfl ha) ?_;exact aQ trivial ⟨⟨rfl,rfl⟩,⟨rfl,rfl⟩,⟨rfl,rfl⟩,trivial⟩
theorem my{a:Nm}(h:aV a){K:Nat}(hl:dL a K):dL (gE a) K:=by unfold dL at *;rw[(cX a h).1,Int.natAbs_neg];exact hl
theorem Ea{a b:Nm}(ha:aV a)(hb:aV b){K:Nat}(la:dL a K)(lb:dL b K):dL (tY a b) (K+1):=by unfold dL at *;rw[(iU a b ha hb).1];exact Nat.le_trans (length_le (Int.natAbs_add_le _ _)) (lR la lb)
def Ez(a b:Nm):Nm:=tY a (gE b)
theorem uv(a b:Nm)(ha:aV a)(hb:aV b):nv (Ez a b)=nv a-nv b/\aV (Ez a b):=by obtain⟨e1,e2⟩:=cX b hb;obtain⟨e3,e4⟩:=iU a (gE b) ha e2;exact⟨by unfold Ez;rw[e3,e1];omega,e4⟩
theorem Hz(a b:Nm)(ha:aV a)(hb:aV b){K:Nat}(la:dL a K)(lb:dL b K)(hK:K<2^39):aO Tryz.prog 199 [mg a,mg b] (mg (Ez a b)):=by
 have hn:=nn b hb lb (by omega);have hs:=Av a (gE b) ha (cX b hb).2 la (my hb lb) hK;unfold Ez;generalize gE b=c at*;generalize tY a c=r at*;refine enter (fn:=Tryz.f199) Tryz.func199 rfl rfl rfl rfl ?_;obtain⟨s,w⟩:=a;obtain⟨t,v⟩:=b;obtain⟨s',w'⟩:=c;obtain⟨s'',w''⟩:=r;cases w<;>cases v<;>cases w'<;>cases w''
 all_goals
  refine r0 rfl ?_;refine cd rfl rfl hn rfl ?_;refine r0 rfl ?_;refine cd rfl rfl hs rfl ?_;refine k0 rfl (by kernel_rfl) ?_;exact aF rfl (au.refl _)
def rP(x y:Int):Prop:=x.natAbs*y.natAbs/18446744073709551616=0/\x.natAbs*y.natAbs%18446744073709551616<=9223372036854775807
instance(x y:Int):Decidable (rP x y):=by unfold rP;infer_instance
def gV(a b:Nm):Nm:=if a.w=none/\b.w=none/\rP a.s b.s then⟨a.s*b.s,none⟩else o9 (decide (a.s<0)!=decide (b.s<0)) ((nv a).natAbs*(nv b).natAbs)
theorem yt{x y:Int}(h:rP x y):x.natAbs*y.natAbs<=9223372036854775807:=by obtain⟨h1,h2⟩:=h;omega
theorem sign_mul{x y:Int}:x*y=if decide (x<0)!=decide (y<0)then -((x.natAbs*y.natAbs:Nat):Int)else((x.natAbs*y.natAbs:Nat):Int):=by
 have ex:(x.natAbs:Int)=if x<0 then -x else x:=by split<;>omega
 have ey:(y.natAbs:Int)=if y<0 then -y else y:=by split<;>omega
 rw[Int.natCast_mul,ex,ey];by_cases h1:x<0<;>by_cases h2:y<0<;>simp[h1,h2,Int.neg_mul,Int.mul_neg]
theorem bP(a b:Nm)(ha:aV a)(hb:aV b):nv (gV a b)=nv a*nv b/\aV (gV a b):=by
 have a1:=gq a ha;have b1:=gq b hb;unfold gV;split
 ·rename_i g;obtain⟨s,w⟩:=a;obtain⟨t,v⟩:=b;obtain⟨rfl,rfl,g3⟩:w=none/\v=none/\rP s t:=g;have:=yt g3;refine⟨rfl,?_⟩;show -9223372036854775808<=s*t/\s*t<=9223372036854775807;rw[sign_mul];split<;>omega
 refine⟨?_,mK _ _⟩;rw[kE,sign_mul];have ea:decide (a.s<0)=decide (nv a<0):=by rw[decide_eq_decide];exact a1.1
 have eb:decide (b.s<0)=decide (nv b<0):=by rw[decide_eq_decide];exact b1.1
 rw[ea,eb]
theorem eD{a b:Nm}(ha:aV a)(hb:aV b){K L:Nat}(la:dL a K)(lb:dL b L):dL (gV a b) (K+L):=by unfold dL at *;rw[(bP a b ha hb).1,Int.natAbs_mul];exact Nat.le_trans (fQ _ _) (Nat.add_le_add la lb)
theorem D1(x y:Bool):(decide ¬x=y)=(x !=y):=by cases x<;>cases y<;>rfl
theorem N8(a b:Nm)(ha:aV a)(hb:aV b){K L:Nat}(la:dL a K)(lb:dL b L)(hK:K+L<2^39):
 AK R0 Tryz.prog Tryz.f117.ntmps (Ti Tryz.prog Tryz.f117.results.toList (mg (o9 (decide (a.s<0)!=decide (b.s<0)) ((nv a).natAbs*(nv b).natAbs)))) [.code (jR 2 (Tryz.f117.body.getD .skip)).2]
  (sl [(2,.box true (mg a)),(3,.box true (mg b)),(4,.box true (.agg [.i 0,.nil]))]):=by
 have pa:=cS a ha;have pb:=cS b hb;unfold dL at la lb;generalize (nv a).natAbs=A at*;generalize (nv b).natAbs=B at*;have Sj:=fQ A B;refine cg 2 [(4,.box true (.agg [.i 0,.nil])),(7,.u (decide (a.s<0))),(8,.ints .u64 false (aa A)),(9,.u (decide (b.s<0))),(10,.ints .u64 false (aa B))] True ?_ fun _=>?_
 ·obtain⟨s,w⟩:=a;obtain⟨t,v⟩:=b;cases w<;>cases v
  all_goals
   refine r0 rfl ?_;refine cl rfl rfl pa rfl ?_;refine r0 rfl ?_;refine cl rfl rfl pb rfl ?_;refine r0 rfl ?_;exact aQ trivial ⟨⟨rfl,rfl⟩,⟨rfl,rfl⟩,⟨rfl,rfl⟩,⟨rfl,rfl⟩,⟨rfl,rfl⟩,trivial⟩
 generalize decide (a.s<0)=sa;generalize decide (b.s<0)=sb;refine r0 rfl ?_;refine cl rfl rfl (yr A B (by omega) (by omega)) rfl ?_;refine r0 rfl ?_;refine cl rfl (by rw[D1];rfl) (iy (sa !=sb) (A*B) (by omega)) rfl ?_;generalize o9 (sa !=sb) (A*B)=r;obtain⟨s',w'⟩:=r;cases w'<;>exact r0 rfl (aF rfl (au.refl _))
theorem HX(a b:Nm)(ha:aV a)(hb:aV b){K L:Nat}(la:dL a K)(lb:dL b L)(hK:K+L<2^39):aO Tryz.prog 117 [mg a,mg b] (mg (gV a b)):=by
 have ht:=N8 a b ha hb la lb hK;have cR:∀(x:Nm)(s:Int)(m:Nat),x=⟨s,some m⟩->aV x->aa m≠[]:=by rintro x s m rfl h;have:9223372036854775808<=m:=h.2;exact kK m (by omega)
 unfold gV;refine enter (fn:=Tryz.f117) Tryz.func117 rfl rfl rfl rfl ?_;obtain⟨s,w⟩:=a;obtain⟨t,v⟩:=b;cases w with
 |none=>
  cases v with
  |none=>
   have ha: -9223372036854775808<=s/\s<=9223372036854775807:=ha;have hb: -9223372036854775808<=t/\t<=9223372036854775807:=hb;have ms:=iO s.natAbs t.natAbs (by omega) (by omega);refine cg 2 [(2,.box true (mg ⟨s,none⟩)),(3,.box true (mg ⟨t,none⟩)),(4,.box true (.agg [.i 0,.nil]))] (¬rP s t) ?_ fun g=>?_
   ·refine r0 rfl ?_;refine cd rfl rfl (rG s ha) rfl ?_;refine r0 rfl ?_;refine cd rfl rfl (rG t hb) rfl ?_;refine r0 rfl ?_;refine cd rfl rfl ms rfl ?_;refine k0 rfl (by kernel_rfl) ?_;refine aB 31 rfl (fun h1=>?_) (fun h1=>?_)
    ·have h1:((s.natAbs*t.natAbs/18446744073709551616:Nat):Int)=0:=h1;refine r0 rfl ?_;refine br rfl rfl rfl (fun h2=>?_) (fun h2=>?_)
     ·have h2:((s.natAbs*t.natAbs%18446744073709551616:Nat):Int)<=9223372036854775807:=h2;have hf:rP s t:=⟨by omega,by omega⟩;have hv:=yt hf;rw[if_pos ⟨rfl,rfl,hf⟩];have hsm:=sign_mul (x:=s) (y:=t);refine r0 rfl ?_;refine o5 rfl rfl rfl (fun h3=>?_) (fun h3=>?_)
      ·have h3:(decide (s<0)!=decide (t<0))=true:=by rw[<-D1];exact h3
       rw[h3,if_pos rfl]at hsm;refine r1 rfl (by simp only[ae,and_true]<;>omega) ?_;refine aF rfl ⟨congrArg SV.i ?_,trivial,trivial⟩;show _=s*t;rw[hsm];omega
      have h3:(decide (s<0)!=decide (t<0))=false:=by rw[<-D1];exact h3
      rw[h3,if_neg (by simp)]at hsm;refine r1 rfl (by simp only[ae,and_true]<;>omega) ?_;refine aF rfl ⟨congrArg SV.i ?_,trivial,trivial⟩;show _=s*t;rw[hsm];omega
     have h2:¬((s.natAbs*t.natAbs%18446744073709551616:Nat):Int)<=9223372036854775807:=h2;refine r0 rfl ?_;exact aQ (fun g=>by have:=g.2;omega) ⟨⟨rfl,rfl⟩,⟨rfl,rfl⟩,⟨rfl,rfl⟩,trivial⟩
    have h1:¬((s.natAbs*t.natAbs/18446744073709551616:Nat):Int)=0:=h1;refine r0 rfl ?_;exact aQ (fun g=>by have:=g.1;omega) ⟨⟨rfl,rfl⟩,⟨rfl,rfl⟩,⟨rfl,rfl⟩,trivial⟩
   rw[if_neg (fun k=>g k.2.2)];exact ht
  |some n=>rw[if_neg (fun k=>by simp at k)];refine cg 2 [(2,.box true (mg ⟨s,none⟩)),(3,.box true (mg ⟨t,some n⟩)),(4,.box true (.agg [.i 0,.nil]))] True ?_ fun _=>ht;refine r1 rfl (by simp only[ae,and_true];exact cR _ _ _ rfl hb) ?_;exact aQ trivial ⟨⟨rfl,rfl⟩,⟨rfl,rfl⟩,⟨rfl,rfl⟩,trivial⟩
 |some m=>
  cases v with
  |none=>rw[if_neg (fun k=>by simp at k)];refine cg 2 [(2,.box true (mg ⟨s,some m⟩)),(3,.box true (mg ⟨t,none⟩)),(4,.box true (.agg [.i 0,.nil]))] True ?_ fun _=>ht;refine r1 rfl (by simp only[ae,and_true];exact cR _ _ _ rfl ha) ?_;exact aQ trivial ⟨⟨rfl,rfl⟩,⟨rfl,rfl⟩,⟨rfl,rfl⟩,trivial⟩
  |some n=>rw[if_neg (fun k=>by simp at k)];refine cg 2 [(2,.box true (mg ⟨s,some m⟩)),(3,.box true (mg ⟨t,some n⟩)),(4,.box true (.agg [.i 0,.nil]))] True ?_ fun _=>ht;refine r1 rfl (by simp only[ae,and_true];exact cR _ _ _ rfl ha) ?_;exact aQ trivial ⟨⟨rfl,rfl⟩,⟨rfl,rfl⟩,⟨rfl,rfl⟩,trivial⟩
def ws(a:Nm):List Int:=match a.w with
 |none=>[]
 |some m=>aa m
def eN(a:Nm):SV:=.agg [.i a.s,.dH .u64 (ws a)]
theorem rB{a:Nm}(h:aV a):ws a=[]↔a.w=none:=by
 obtain⟨s,w⟩:=a;cases w with
 |none=>exact⟨fun _=>rfl,fun _=>rfl⟩
 |some m=>have:9223372036854775808<=m:=h.2;exact⟨fun g=>absurd g (kK m (by omega)),fun g=>by simp at g⟩
theorem oD{a:Nm}(h:aV a):(mg a).den=(eN a).den:=by
 obtain⟨s,w⟩:=a;cases w with
 |none=>rfl
 |some m=>
  have hm:9223372036854775808<=m:=h.2;have cR:=kK m (by omega);show AV.agg [AV.v (.int .i64 s),.list .shr 1 ((aa m).map fun a=>.v (.int .u64 a))]=AV.agg [AV.v (.int .i64 s),.list (ZE (aa m)) (XO (aa m)) ((aa m).map fun a=>.v (.int .u64 a))];cases hd:aa m with
  |nil=>exact absurd hd cR
  |cons x xs=>rfl
theorem eN1{f:FuncId}{a r:Nm}(ha:aV a)(hr:aV r)(h:aO Tryz.prog f [mg a] (mg r)):aO Tryz.prog f [eN a] (eN r):=h.same (by simp only[an,oD ha]) (oD hr)
theorem eN2{f:FuncId}{a b r:Nm}(ha:aV a)(hb:aV b)(hr:aV r)(h:aO Tryz.prog f [mg a,mg b] (mg r)):aO Tryz.prog f [eN a,eN b] (eN r):=h.same (by simp only[an,oD ha,oD hb]) (oD hr)
theorem CZ(a:Nm)(h:aV a):aO Tryz.prog 194 [eN a] (.bC [.u (decide (a.s<0)),.ints .u64 false (aa (nv a).natAbs)]):=(cS a h).same (by simp only[an,oD h]) rfl
theorem uy(a:Nm)(h:aV a):aO Tryz.prog 112 [eN a] (.i (nv a).sign):=(rH a h).same (by simp only[an,oD h]) rfl
theorem BI(a:Nm)(h:aV a){K:Nat}(hl:dL a K)(hK:K<2^40):aO Tryz.prog 172 [eN a] (eN (gE a)):=eN1 h (cX a h).2 (nn a h hl hK)
theorem Uo(a:Nm)(h:aV a){K:Nat}(hl:dL a K)(hK:K<2^40):aO Tryz.prog 189 [eN a] (eN (vL a)):=eN1 h (lh a h).2 (Jg a h hl hK)
theorem KJ(a b:Nm)(ha:aV a)(hb:aV b){K:Nat}(la:dL a K)(lb:dL b K)(hK:K<2^39):aO Tryz.prog 152 [eN a,eN b] (eN (tY a b)):=eN2 ha hb (iU a b ha hb).2 (Av a b ha hb la lb hK)
theorem Tn(a b:Nm)(ha:aV a)(hb:aV b){K:Nat}(la:dL a K)(lb:dL b K)(hK:K<2^39):aO Tryz.prog 199 [eN a,eN b] (eN (Ez a b)):=eN2 ha hb (uv a b ha hb).2 (Hz a b ha hb la lb hK)
theorem oK(a b:Nm)(ha:aV a)(hb:aV b){K L:Nat}(la:dL a K)(lb:dL b L)(hK:K+L<2^39):aO Tryz.prog 117 [eN a,eN b] (eN (gV a b)):=eN2 ha hb (bP a b ha hb).2 (HX a b ha hb la lb hK)
theorem Oi(neg:Bool)(m:Nat)(hl:(aa m).length<2^40):aO Tryz.prog 197 [.u neg,.ints .u64 false (aa m)] (eN (o9 neg m)):=(iy neg m hl).same rfl (oD (mK _ _))
theorem Fg(n:Int):aO Tryz.prog 115 [.i n] (eN ⟨n,none⟩):=by refine enter (fn:=Tryz.f115) Tryz.func115 rfl rfl rfl rfl ?_;refine r0 rfl ?_;refine aF rfl ?_;exact⟨rfl,rfl,trivial⟩
theorem Q5(a:Nm):aO Tryz.prog 110 [eN a] (.bC [.i a.s,.u (decide (ws a=[]))]):=by refine enter (fn:=Tryz.f110) Tryz.func110 rfl rfl rfl rfl ?_;refine k0 rfl (by kernel_rfl) ?_;exact aF rfl (au.refl _)
theorem PU(a b:Nm)(ha:aV a)(hb:aV b){K:Nat}(la:dL a K)(lb:dL b K)(hK:K<2^39):aO Tryz.prog 118 [eN a,eN b] (.i (nv a-nv b).sign):=by
 have h1:=Tn a b ha hb la lb hK;obtain⟨e1,e2⟩:=uv a b ha hb;have h2:=uy (Ez a b) e2;rw[e1]at h2;have na:=rB ha;have nb:=rB hb;have va:=gq a ha;have vb:=gq b hb;refine enter (fn:=Tryz.f118) Tryz.func118 rfl rfl rfl rfl ?_;refine cg 2 [(2,.box true (eN a)),(3,.box true (eN b))] True ?_ fun _=>?_
 ·refine r0 rfl ?_;refine aB 8 rfl (fun g1=>?_) (fun g1=>?_)
  ·refine r0 rfl ?_;refine br rfl rfl rfl (fun g2=>?_) (fun g2=>?_)
   ·have ea:=va.2 (na.1 g1);have eb:=vb.2 (nb.1 g2);rw[ea,eb];refine r0 rfl ?_;refine br rfl rfl rfl (fun g3=>?_) (fun g3=>?_)
    ·have g3:a.s<b.s:=g3;refine r0 rfl ?_;exact aF rfl (au.of_eq (congrArg SV.i (by rw[Int.sign_eq_neg_one_of_neg (by omega)])))
    have g3:¬a.s<b.s:=g3;refine r0 rfl ?_;refine br rfl rfl rfl (fun g4=>?_) (fun g4=>?_)
    ·have g4:b.s<a.s:=g4;refine r0 rfl ?_;exact aF rfl (au.of_eq (congrArg SV.i (by rw[Int.sign_eq_one_of_pos (by omega)])))
    have g4:¬b.s<a.s:=g4;refine r0 rfl ?_;exact aF rfl (au.of_eq (congrArg SV.i (by rw[show a.s-b.s=0 by omega];rfl)))
   refine r0 rfl ?_;exact aQ trivial ⟨⟨rfl,rfl⟩,⟨rfl,rfl⟩,trivial⟩
  refine r0 rfl ?_;exact aQ trivial ⟨⟨rfl,rfl⟩,⟨rfl,rfl⟩,trivial⟩
 refine r0 rfl ?_;refine cl rfl rfl h1 rfl ?_;refine r0 rfl ?_;refine cl rfl rfl h2 rfl ?_;refine r0 rfl ?_;exact aF rfl (au.refl _)
theorem yS{x:Int}{K:Nat}(h:(aa x.natAbs).length<=K):∀n,(aa (x^n).natAbs).length<=K*n+1
 |0=>by have:=fj (m:=1) (by decide);simpa using this
 |n+1=>by rw[Int.pow_succ,Int.natAbs_mul,Nat.mul_succ];have:=yS h n;have:=fQ (x^n).natAbs x.natAbs;omega
def mv:Nat->Nm->Nm->Nat->Nm
 |0,out,_,_=>out
 |f+1,out,a,k=>if k=0 then out else mv f (if k%2=1 then gV out a else out) (if 1<k then gV a a else a) (k/2)
def uE(a:Nm)(k:Nat):Nm:=mv k ⟨1,none⟩ a k
theorem C3:aV ⟨1,none⟩:=show(-9223372036854775808:Int)<=1/\(1:Int)<=9223372036854775807 by decide
theorem jt(f:Nat)(out a:Nm):mv f out a 0=out:=by cases f<;>rfl
theorem yg:∀(f g:Nat)(out a:Nm)(k:Nat),k<=f->k<=g->mv f out a k=mv g out a k
 |0,g,out,a,k,h,_=>by
  have:k=0:=by omega
  subst this;rw[jt,jt]
 |f+1,0,out,a,k,_,h=>by
  have:k=0:=by omega
  subst this;rw[jt,jt]
 |f+1,g+1,out,a,k,h1,h2=>by
  rw[mv,mv];split
  ·rfl
  exact yg f g _ _ _ (by omega) (by omega)
theorem adp(k:Nat)(h:k<9223372036854775808):IntKind.i64.wrap ((BitVec.ofInt IntKind.i64.bits (k:Int)&&&BitVec.ofInt IntKind.i64.bits 1).toNat:Int)=((k%2:Nat):Int):=by
 have e:BitVec.ofInt IntKind.i64.bits 1=BitVec.ofNat 64 (2^1-1):=rfl;have e0:BitVec.ofInt IntKind.i64.bits (k:Int)=BitVec.ofNat 64 k:=BitVec.ofInt_natCast 64 k;rw[e0,e,Uw];have h1:(BitVec.ofNat 64 k&&&BitVec.ofNat 64 (2^1-1)).toNat=(k%2^64)&&&((2^1-1)%2^64):=by simp[BitVec.toNat_and,BitVec.toNat_ofNat]
 rw[show((2:Nat)^1-1)%2^64=2^1-1 from rfl,Nat.and_two_pow_sub_one_eq_mod]at h1;have h3:(BitVec.ofNat 64 k&&&BitVec.ofNat 64 (2^1-1)).toNat=k%2^64%2^1:=h1;show(((BitVec.ofNat 64 k&&&BitVec.ofNat 64 (2^1-1)).toNat:Int)+_)%_-_=_;rw[h3];omega
theorem abb(k:Nat):(k:Int).fdiv (2^min (Int.toNat 1) IntKind.i64.bits)=((k/2:Nat):Int):=by
 have:(2:Int)^min (Int.toNat 1) IntKind.i64.bits=2:=by decide
 rw[this,Int.fdiv_eq_ediv_of_nonneg _ (by decide)];rfl
theorem NV(a:Nm)(n:Nat)(ha:aV a){K:Nat}(la:dL a K)(hn:n<2^40)(hK:2*(K*(2*n)+1)<2^39):aO Tryz.prog 116 [eN a,.i n] (eN (uE a n)):=by
 refine enter (fn:=Tryz.f116) Tryz.func116 rfl rfl rfl rfl ?_;refine r0 rfl ?_;refine cl rfl rfl (Fg 1) rfl ?_;refine r0 rfl ?_;refine mA (fun(k:Nat)(out b:Nm)=>[(1,.i k),(2,.box true (eN b)),(4,.box true (.agg [.i 0,.nil])),(5,.box true (eN out))])
  (fun k out b=>k<=n/\aV out/\aV b/\uE a n=mv k out b k/\(k=0\/∃d e,d<=n/\e<=n/\e+d*k=n/\nv b=nv a^d/\nv out=nv a^e)) (fun k _ _=>k) n ⟨1,none⟩ a ⟨Nat.le_refl _,C3,ha,rfl,?_⟩
  ⟨⟨rfl,rfl⟩,⟨rfl,rfl⟩,⟨rfl,rfl⟩,⟨rfl,rfl⟩,trivial⟩ ?_
 ·rcases Nat.eq_zero_or_pos n with g|g
  ·exact .inl g
  exact .inr ⟨1,0,by omega,by omega,by omega,by rw[Int.pow_succ,Int.pow_zero,Int.one_mul],by rw[Int.pow_zero];rfl⟩
 rintro k out b⟨hk,ho,hb,hp,hd⟩;refine r0 rfl ?_;refine br rfl rfl rfl (fun h1=>?_) (fun h1=>?_)
 ·have h0:0<k:=by omega
  obtain⟨d,e,d1,d2,d3,d4,d5⟩:=hd.resolve_left (by omega);have j7:uE a n=mv (k/2) (if k%2=1 then gV out b else out) (if 1<k then gV b b else b) (k/2):=by
   rw[hp];obtain⟨f,rfl⟩:∃f,k=f+1:=⟨k-1,by omega⟩
   conv=>lhs;rw[mv,if_neg (by omega)]
   exact yg _ _ _ _ _ (by omega) (Nat.le_refl _)
  have lb:dL b (K*(2*n)+1):=by unfold dL at *;rw[d4];exact Nat.le_trans (yS la d) (Nat.add_le_add_right (Nat.mul_le_mul_left _ (by omega)) 1)
  have lo:dL out (K*(2*n)+1):=by unfold dL at *;rw[d5];exact Nat.le_trans (yS la e) (Nat.add_le_add_right (Nat.mul_le_mul_left _ (by omega)) 1)
  obtain⟨m1,m2⟩:=bP out b ho hb;obtain⟨m3,m4⟩:=bP b b hb hb;have hdv:k=2*(k/2)+k%2:=by omega
  have TS:d*k=2*d*(k/2)+d*(k%2):=by
   conv=>lhs;rw[hdv,Nat.mul_add]
   rw[Nat.mul_comm 2 d,Nat.mul_assoc]
  have ea:=adp k (by omega);have Il:aV (if k%2=1 then gV out b else out):=by split<;>assumption
  have Sh:aV (if 1<k then gV b b else b):=by split<;>assumption
  refine rn 3 rfl ?_;refine cg 1 [(1,.i k),(2,.box true (eN b)),(4,.box true (.agg [.i 0,.nil])),(5,.box true (eN (if k%2=1 then gV out b else out)))] True ?_ fun _=>?_
  ·refine r0 rfl ?_;rw[ea];refine br rfl rfl rfl (fun h2=>?_) (fun h2=>?_)
   ·have h2:k%2=1:=by omega
    rw[if_pos h2];refine r0 rfl ?_;refine cl rfl rfl (oK out b ho hb lo lb (by omega)) rfl ?_;refine r0 rfl ?_;exact aQ trivial ⟨⟨rfl,rfl⟩,⟨rfl,rfl⟩,⟨rfl,rfl⟩,⟨rfl,rfl⟩,trivial⟩
   have h2:¬k%2=1:=by omega
   rw[if_neg h2];refine r0 rfl ?_;exact aQ trivial ⟨⟨rfl,rfl⟩,⟨rfl,rfl⟩,⟨rfl,rfl⟩,⟨rfl,rfl⟩,trivial⟩
  have hov:nv (if k%2=1 then gV out b else out)=nv a^(e+d*(k%2)):=by
   split
   ·rename_i g;rw[m1,d5,d4,g,Nat.mul_one,Int.pow_add]
   rename_i g;rw[d5,show k%2=0 by omega,Nat.mul_zero,Nat.add_zero]
  generalize (if k%2=1 then gV out b else out)=NY at*;have es:=abb k;have fin:aV (if 1<k then gV b b else b)->(k/2<=n/\aV NY/\aV (if 1<k then gV b b else b)/\uE a n=mv (k/2) NY (if 1<k then gV b b else b) (k/2)/\(k/2=0\/∃d e,d<=n/\e<=n/\e+d*(k/2)=n/\nv (if 1<k then gV b b else b)=nv a^d/\nv NY=nv a^e)):=by
   intro hx;refine⟨by omega,Il,hx,j7,?_⟩;rcases Nat.eq_zero_or_pos (k/2)with g|g
   ·exact .inl g
   have g1:1<k:=by omega
   have g2:2*d<=2*d*(k/2):=Nat.le_mul_of_pos_right _ g;have e2:d*(k%2)<=d*k:=Nat.mul_le_mul_left _ (by omega);refine .inr ⟨2*d,e+d*(k%2),by omega,by omega,by omega,?_,hov⟩;rw[if_pos g1,m3,d4,<-Int.pow_add]
   congr 1;omega
  refine r0 rfl ?_;refine br rfl rfl rfl (fun h2=>?_) (fun h2=>?_)
  ·have h2:1<k:=by omega
   rw[if_pos h2]at fin;refine r0 rfl ?_;refine cl rfl rfl (oK b b hb hb lb lb (by omega)) rfl ?_;refine r1 rfl (by simp only[ae,and_true]<;>omega) ?_;exact again (k/2,NY,gV b b) (by dsimp only;omega) (fin m4) ⟨⟨rfl,au.of_eq (congrArg SV.i es)⟩,⟨rfl,rfl⟩,⟨rfl,rfl⟩,⟨rfl,rfl⟩,trivial⟩
  have h2:¬1<k:=by omega
  rw[if_neg h2]at fin;refine r1 rfl (by simp only[ae,and_true]<;>omega) ?_;exact again (k/2,NY,b) (by dsimp only;omega) (fin hb) ⟨⟨rfl,au.of_eq (congrArg SV.i es)⟩,⟨rfl,rfl⟩,⟨rfl,rfl⟩,⟨rfl,rfl⟩,trivial⟩
 have:k=0:=by omega
 subst this;rw[jt]at hp;refine r0 rfl ?_;exact aF rfl (au.of_eq (congrArg eN hp.symm))
theorem yf:∀(f k:Nat)(out a:Nm),k<=f->aV out->aV a->nv (mv f out a k)=nv out*nv a^k/\aV (mv f out a k)
 |0,k,out,a,h,ho,_=>by
  have:k=0:=by omega
  subst this;exact⟨by rw[jt,Int.pow_zero,Int.mul_one],ho⟩
 |f+1,k,out,a,h,ho,ha=>by
  rw[mv];split
  ·rename_i g;subst g;exact⟨by rw[Int.pow_zero,Int.mul_one],ho⟩
  obtain⟨m1,m2⟩:=bP out a ho ha;obtain⟨m3,m4⟩:=bP a a ha ha;have JX:aV (if k%2=1 then gV out a else out):=by split<;>assumption
  have Sk:aV (if 1<k then gV a a else a):=by split<;>assumption
  obtain⟨e1,e2⟩:=yf f (k/2) _ _ (by omega) JX Sk;refine⟨?_,e2⟩;rw[e1];have h1:nv (if k%2=1 then gV out a else out)=nv out*nv a^(k%2):=by
   split
   ·rename_i g;rw[m1,g,Int.pow_succ,Int.pow_zero,Int.one_mul]
   rename_i g;rw[show k%2=0 by omega,Int.pow_zero,Int.mul_one]
  have h2:nv (if 1<k then gV a a else a)^(k/2)=nv a^(2*(k/2)):=by
   split
   ·rw[m3,Int.pow_mul];congr 1;rw[Int.pow_succ,Int.pow_succ,Int.pow_zero,Int.one_mul]
   rw[show k/2=0 by omega]
  rw[h1,h2,Int.mul_assoc,<-Int.pow_add]
  congr 2;omega
theorem nc(a:Nm)(n:Nat)(ha:aV a):nv (uE a n)=nv a^n/\aV (uE a n):=by obtain⟨e1,e2⟩:=yf n n ⟨1,none⟩ a (Nat.le_refl _) C3 ha;exact⟨by unfold uE;rw[e1];show 1*_=_;rw[Int.one_mul],e2⟩
def bl(x:Nat):Nat:=if x=0 then 0 else Nat.log2 x+1
theorem G7(x:Nat):x<2^bl x:=by
 unfold bl;split
 ·rename_i h;subst h;decide
 rename_i h;exact(Nat.log2_lt h).1 (Nat.lt_succ_self _)
theorem tW{x:Nat}(h:x≠0):2^(bl x-1)<=x:=by unfold bl;rw[if_neg h];exact(Nat.le_log2 h).1 (Nat.le_refl _)
theorem Um{x n:Nat}(h1:x<2^(n+1))(h2:2^n<=x):bl x=n+1:=by
 have h0:x≠0:=by have:0<2^n:=Nat.pow_pos (by decide);omega
 unfold bl;rw[if_neg h0];have a:=(Nat.log2_lt h0).2 h1;have b:=(Nat.le_log2 h0).2 h2;omega
theorem vG{x:Nat}(h:x≠0):0<bl x:=by unfold bl;rw[if_neg h];omega
theorem tV{x k:Nat}(h:2^k<=x):bl x=k+bl (x/2^k):=by
 have hp:0<2^k:=Nat.pow_pos (by decide);have hy:x/2^k≠0:=by have:=Nat.div_pos h hp;omega
 have h1:=G7 (x/2^k);have h2:=tW hy;have h3:=vG hy;obtain⟨n,hn⟩:∃n,bl (x/2^k)=n+1:=⟨bl (x/2^k)-1,by omega⟩;rw[hn]at h1 h2⊢;rw[<-Nat.add_assoc];refine Um ?_ ?_
 ·rw[Nat.add_assoc,Nat.pow_add];rw[Nat.div_lt_iff_lt_mul hp]at h1;rw[Nat.mul_comm];exact h1
 rw[Nat.add_sub_cancel]at h2;rw[Nat.le_div_iff_mul_le hp]at h2;rw[Nat.pow_add,Nat.mul_comm];exact h2
theorem UM{s:Int}{m:Nat}(y:Nat)(hm:0<m)(h:(2:Int)^min s.toNat IntKind.u64.bits=m):(y:Int).fdiv (2^min s.toNat IntKind.u64.bits)=((y/m:Nat):Int):=by rw[h,Int.fdiv_eq_ediv_of_nonneg _ (by omega)];rfl
def rE:List UInt8:=[0,1,2,2,3,3,3,3,4,4,4,4,4,4,4,4,5,5,5,5,5,5,5,5,5,5,5,5,5,5,5,5,6,6,6,6,6,6,6,6,6,6,6,6,6,6,6,6,6,6,6,6,6,6,6,6,6,6,6,6,6,6,6,6,7,7,7,7,7,7,7,7,7,7,7,7,7,7,7,7,7,7,7,7,7,7,7,7,7,7,7,7,7,7,7,7,7,7,7,7,7,7,7,7,7,7,7,7,7,7,7,7,7,7,7,7,7,7,7,7,7,7,7,7,7,7,7,7,8,8,8,8,8,8,8,8,8,8,8,8,8,8,8,8,8,8,8,8,8,8,8,8,8,8,8,8,8,8,8,8,8,8,8,8,8,8,8,8,8,8,8,8,8,8,8,8,8,8,8,8,8,8,8,8,8,8,8,8,8,8,8,8,8,8,8,8,8,8,8,8,8,8,8,8,8,8,8,8,8,8,8,8,8,8,8,8,8,8,8,8,8,8,8,8,8,8,8,8,8,8,8,8,8,8,8,8,8,8,8,8,8,8,8,8,8,8,8,8,8,8,8,8,8,8,8,8]
theorem Ni:rE.length=256:=by decide
theorem Q1:∀u,u<256->u<2^(rE.getD u 0).toNat/\(u=0\/2^((rE.getD u 0).toNat-1)<=u/\0<(rE.getD u 0).toNat)/\(u=0->(rE.getD u 0).toNat=0):=by decide
theorem Q2{u:Nat}(h:u<256):(rE.getD u 0).toNat=bl u:=by
 obtain⟨h1,h2,h3⟩:=Q1 u h;rcases h2 with h2|⟨h2,h4⟩
 ·rw[h3 h2,h2];rfl
 obtain⟨n,hn⟩:∃n,(rE.getD u 0).toNat=n+1:=⟨(rE.getD u 0).toNat-1,by omega⟩;rw[hn]at h1 h2⊢;exact(Um h1 (by simpa using h2)).symm
theorem wz(x:Nat)(hx:x<18446744073709551616):aO Tryz.prog 195 [.n .u64 x] (.i (bl x)):=by
 refine enter (fn:=Tryz.f195) Tryz.func195 rfl rfl rfl rfl ?_;refine wO 2 (fun(y n:Nat)=>[(0,.n .u64 y),(2,.i n)]) (fun y n=>y<4294967296/\bl x=n+bl y/\n<=32) ?_ ?_
 ·refine r0 rfl ?_;refine br rfl rfl rfl (fun h=>?_) (fun h=>?_)
  ·have h:(4294967296:Int)<=x:=h;have hs:bl x=32+bl (x/4294967296):=tV (x:=x) (k:=32) (by omega);refine r1 rfl (by simp only[ae];decide) ?_;exact meet (x/4294967296,32) ⟨by dsimp only;omega,hs,by dsimp only;omega⟩ ⟨⟨rfl,au.of_eq (congrArg (SV.n .u64) (UM (m:=4294967296) x (by decide) (by decide)))⟩,⟨rfl,rfl⟩,trivial⟩
  have h:¬(4294967296:Int)<=x:=h;refine r0 rfl ?_;exact meet (x,0) ⟨by dsimp only;omega,by dsimp only;omega,by dsimp only;omega⟩ ⟨⟨rfl,rfl⟩,⟨rfl,rfl⟩,trivial⟩
 rintro y n⟨h1,h2,h3⟩;refine wO 1 (fun(z k:Nat)=>[(0,.n .u64 z),(2,.i k)]) (fun z k=>z<65536/\bl x=k+bl z/\k<=48) ?_ ?_
 ·refine r0 rfl ?_;refine br rfl rfl rfl (fun h=>?_) (fun h=>?_)
  ·have h:(65536:Int)<=y:=h;have hs:bl y=16+bl (y/65536):=tV (x:=y) (k:=16) (by omega);refine r1 rfl (by simp only[ae,and_true,true_and]<;>omega) ?_;exact meet (y/65536,n+16) ⟨by dsimp only;omega,by dsimp only;rw[h2,hs];omega,by dsimp only;omega⟩ ⟨⟨rfl,au.of_eq (congrArg (SV.n .u64) (UM (m:=65536) y (by decide) (by decide)))⟩,⟨rfl,rfl⟩,trivial⟩
  have h:¬(65536:Int)<=y:=h;refine r0 rfl ?_;exact meet (y,n) ⟨by dsimp only;omega,h2,by dsimp only;omega⟩ ⟨⟨rfl,rfl⟩,⟨rfl,rfl⟩,trivial⟩
 rintro z k⟨g1,g2,g3⟩;refine wO 1 (fun(z k:Nat)=>[(0,.n .u64 z),(2,.i k)]) (fun z k=>z<256/\bl x=k+bl z/\k<=56) ?_ ?_
 ·refine r0 rfl ?_;refine br rfl rfl rfl (fun h=>?_) (fun h=>?_)
  ·have h:(256:Int)<=z:=h;have hs:bl z=8+bl (z/256):=tV (x:=z) (k:=8) (by omega);refine r1 rfl (by simp only[ae,and_true,true_and]<;>omega) ?_;exact meet (z/256,k+8) ⟨by dsimp only;omega,by dsimp only;rw[g2,hs];omega,by dsimp only;omega⟩ ⟨⟨rfl,au.of_eq (congrArg (SV.n .u64) (UM (m:=256) z (by decide) (by decide)))⟩,⟨rfl,rfl⟩,trivial⟩
  have h:¬(256:Int)<=z:=h;refine r0 rfl ?_;exact meet (z,k) ⟨by dsimp only;omega,g2,by dsimp only;omega⟩ ⟨⟨rfl,rfl⟩,⟨rfl,rfl⟩,trivial⟩
 rintro u m⟨k1,k2,k3⟩;have hw:IntKind.u8.wrap (u:Int)=(u:Int):=by show(u:Int)%256=u;omega
 have hu:(u:Int).toNat=u:=by omega
 have hb:=Q2 k1;have hb8:bl u<=8:=by
  rw[<-hb];have:∀v,v<256->(rE.getD v 0).toNat<=8:=by decide
  exact this u k1
 have hl:=Ni;refine r1 rfl ?_ ?_
 ·show ae [(m:Int)+((rE.getD (IntKind.u8.wrap u).toNat 0).toNat:Nat)<=9223372036854775807,-9223372036854775808<=(m:Int)+((rE.getD (IntKind.u8.wrap u).toNat 0).toNat:Nat),(((rE.getD (IntKind.u8.wrap u).toNat 0).toNat:Nat):Int)<=9223372036854775807,-9223372036854775808<=(((rE.getD (IntKind.u8.wrap u).toNat 0).toNat:Nat):Int),IntKind.u8.wrap u<(rE.length:Nat),0<=IntKind.u8.wrap u];simp only[ae,and_true,hw,hu,hb,hl];omega
 refine aF rfl (au.of_eq (congrArg SV.i ?_));show(m:Int)+((rE.getD (IntKind.u8.wrap u).toNat 0).toNat:Nat)=_;rw[hw,hu,hb];omega
theorem yN(x:Nat)(hx:x<18446744073709551616):aO Tryz.prog 243 [.n .u64 x] (.i (64-(bl x:Int))):=by
 have hb:bl x<=64:=by
  rcases Nat.eq_zero_or_pos x with g|g
  ·subst g;decide
  have h1:=tW (x:=x) (by omega);rcases Nat.lt_or_ge 64 (bl x)with h|h
  ·have:2^64<=2^(bl x-1):=Nat.pow_le_pow_right (by decide) (by omega);omega
  exact h
 refine enter (fn:=Tryz.f243) Tryz.func243 rfl rfl rfl rfl ?_;refine r0 rfl ?_;refine cl rfl rfl (wz x hx) rfl ?_;refine r1 rfl (by simp only[ae,and_true]<;>omega) ?_;exact aF rfl (au.refl _)
theorem Jp{A:Nat}(h:A≠0):A/2^(64*((aa A).length-1))=((aa A).getD ((aa A).length-1) 0).toNat/\2^(64*((aa A).length-1))<=A:=by
 have hl:=dm h;have hs:=fh (aa A) ((aa A).length-1);rw[aX]at hs;have hd:(aa A).drop ((aa A).length-1)=[(aa A).getD ((aa A).length-1) 0]:=by rw[List.drop_eq_getElem_cons (by omega),bk (by omega),List.drop_of_length_le (by omega)]
 have ht:((aa A).take ((aa A).length-1)).length=(aa A).length-1:=by rw[List.length_take];omega
 have cB:=fI (eO (a8 A) ((aa A).length-1));have Im:=aT (eO (a8 A) ((aa A).length-1));have hg:=aU (a8 A) ((aa A).length-1);have QF:=eM A;rw[hd,ht]at hs;rw[ht]at cB;have hp:(18446744073709551616:Int)^((aa A).length-1)=((2^(64*((aa A).length-1)):Nat):Int):=by rw[Nat.pow_mul,Int.natCast_pow];rfl
 rw[hp]at hs cB QF;have hP:0<2^(64*((aa A).length-1)):=Nat.pow_pos (by decide);simp only[val]at hs;generalize 2^(64*((aa A).length-1))=P at*;generalize val ((aa A).take ((aa A).length-1))=lo at*;obtain⟨t,ht2⟩:∃t:Nat,(aa A).getD ((aa A).length-1) 0=t:=⟨((aa A).getD ((aa A).length-1) 0).toNat,by omega⟩;rw[ht2]at hs⊢;refine⟨?_,?_⟩
 ·have e:(A:Int)=lo+P*t:=by rw[hs];simp
  have e2:A=lo.toNat+P*t:=by have:((P*t:Nat):Int)=(P:Int)*t:=Int.natCast_mul _ _;omega
  rw[e2,Nat.add_mul_div_left _ _ hP,Nat.div_eq_of_lt (by omega)];simp
 rcases QF with g|g
 ·rw[g]at hl;simp at hl
 omega
theorem P4(a:Nm)(h:aV a){K:Nat}(hl:dL a K)(hK:K<2^40):aO Tryz.prog 113 [eN a] (.i (bl (nv a).natAbs)):=by
 have hp:=CZ a h;unfold dL at hl;generalize (nv a).natAbs=A at*;refine enter (fn:=Tryz.f113) Tryz.func113 rfl rfl rfl rfl ?_;refine r0 rfl ?_;refine cl rfl rfl hp rfl ?_;refine r0 rfl ?_;refine br rfl rfl rfl (fun h1=>?_) (fun h1=>?_)
 ·have hA:A=0:=by
   rcases Nat.eq_zero_or_pos A with g|g
   ·exact g
   have:=dm (n:=A) (by omega);have h1:((aa A).length:Int)=0:=h1;omega
  subst hA;refine r0 rfl ?_;exact aF rfl (au.of_eq (congrArg SV.i rfl))
 have h1:¬((aa A).length:Int)=0:=h1;have hA:A≠0:=by rintro rfl;rw[b9]at h1;exact h1 rfl
 obtain⟨t1,t2⟩:=Jp hA;obtain⟨x,hx,MR⟩:=j8 A ((aa A).length-1);rw[hx]at t1;have hs:=tV t2;rw[t1]at hs;have en:(((aa A).length:Int)-1).toNat=(aa A).length-1:=by omega
 have ex:(x:Int).toNat=x:=by omega
 rw[ex]at hs;have F6:bl x<=64:=by
  rcases Nat.eq_zero_or_pos x with g|g
  ·subst g;decide
  have h1:=tW (x:=x) (by omega);rcases Nat.lt_or_ge 64 (bl x)with h|h
  ·have:2^64<=2^(bl x-1):=Nat.pow_le_pow_right (by decide) (by omega);omega
  exact h
 refine r1 rfl (by simp only[ae,and_true,en]<;>omega) ?_;refine cl rfl (by rw[en,hx];rfl) (wz x MR) rfl ?_;refine r1 rfl (by simp only[ae,and_true]<;>omega) ?_;refine aF rfl (au.of_eq (congrArg SV.i ?_));rw[hs];omega
structure Fr where
 n:Nm
 d:Nm
def eF(f:Fr):SV:=.agg [.i f.n.s,.dH .u64 (ws f.n),.i f.d.s,.dH .u64 (ws f.d)]
structure ff(f:Fr)(q:Rat):Prop where
 n:aV f.n
 d:aV f.d
 vn:nv f.n=q.num
 vd:nv f.d=q.den
theorem Cy(a:Nm):aO Tryz.prog 111 [eN a] (eF ⟨a,⟨1,none⟩⟩):=by refine enter (fn:=Tryz.f111) Tryz.func111 rfl rfl rfl rfl ?_;refine r0 rfl ?_;refine cd rfl rfl (Fg 1) rfl ?_;refine k0 rfl (by kernel_rfl) ?_;exact aF rfl (au.refl _)
theorem f_s(n:Int):aO Tryz.prog 231 [.i n] (eF ⟨⟨n,none⟩,⟨1,none⟩⟩):=by refine enter (fn:=Tryz.f231) Tryz.func231 rfl rfl rfl rfl ?_;refine r0 rfl ?_;refine cl rfl rfl (Fg n) rfl ?_;refine r0 rfl ?_;refine cl rfl rfl (Cy ⟨n,none⟩) rfl ?_;refine r0 rfl ?_;exact aF rfl (au.refl _)
theorem Dx(f:Fr){q:Rat}(h:ff f q):aO Tryz.prog 57 [eF f] (.i q.num.sign):=by have hs:=uy f.n h.n;rw[h.vn]at hs;refine enter (fn:=Tryz.f57) Tryz.func57 rfl rfl rfl rfl ?_;refine r0 rfl ?_;refine cl rfl rfl hs rfl ?_;refine r0 rfl ?_;exact aF rfl (au.refl _)
theorem DE(f:Fr){q:Rat}(h:ff f q){K:Nat}(hl:dL f.n K)(hK:K<2^40):aO Tryz.prog 93 [eF f] (eF ⟨gE f.n,f.d⟩)/\ff ⟨gE f.n,f.d⟩ (-q):=by refine⟨?_,⟨(cX f.n h.n).2,h.d,by rw[(cX f.n h.n).1,h.vn,Rat.neg_num],by rw[h.vd,Rat.neg_den]⟩⟩;refine enter (fn:=Tryz.f93) Tryz.func93 rfl rfl rfl rfl ?_;refine r0 rfl ?_;refine cd rfl rfl (BI f.n h.n hl hK) rfl ?_;refine k0 rfl (by kernel_rfl) ?_;exact aF rfl (au.refl _)
structure DL(B u d y1 y0 q r:Nat):Prop where
 eq:r+q*y1=u
 up:(u*B+d)/(y1*B+y0)<=q
 hi:q<=B+1
 lt:r<B
structure DH(B u d y1 y0:Nat):Prop where
 b:4<=B
 n:B<=2*y1
 m:y1<B
 l:y0<B
 u:u<y1*B+y0
 d:d<B
theorem DH.pos{B u d y1 y0:Nat}(h:DH B u d y1 y0):0<y1*B+y0:=by have:=Nat.mul_pos (show 0<y1 by have:=h.n;have:=h.b;omega) (show 0<B by have:=h.b;omega);omega
theorem DH.UY{B u d y1 y0:Nat}(h:DH B u d y1 y0):(u*B+d)/(y1*B+y0)<B:=by rw[Nat.div_lt_iff_lt_mul h.pos];have:(u+1)*B<=(y1*B+y0)*B:=Nat.mul_le_mul_right _ h.u;rw[Nat.add_mul,Nat.one_mul]at this;have:=h.d;rw[Nat.mul_comm B];omega
theorem DL.start{B u d y1 y0:Nat}(h:DH B u d y1 y0):DL B u d y1 y0 (u/y1) (u%y1):=by
 have hp:=h.pos;obtain⟨h0,h1,h2,h3,h4,h5⟩:=h;have hy:0<y1:=by omega
 have e:=Nat.mod_add_div u y1;have hm:=Nat.mod_lt u hy;have hq:u/y1<B+2:=by rw[Nat.div_lt_iff_lt_mul hy,Nat.add_mul,Nat.mul_comm B];omega
 refine⟨by rw[Nat.mul_comm];exact e,?_,by omega,by omega⟩;rw[<-Nat.lt_succ_iff,Nat.div_lt_iff_lt_mul hp];have h6:u+1<=(u/y1+1)*y1:=by rw[Nat.add_mul,Nat.mul_comm];omega
 have h7:(u+1)*B<=(u/y1+1)*y1*B:=Nat.mul_le_mul_right _ h6;have h8:(u/y1+1)*y1*B<=(u/y1+1)*(y1*B+y0):=by rw[Nat.mul_assoc];exact Nat.mul_le_mul_left _ (by omega)
 rw[Nat.add_mul,Nat.one_mul]at h7;show _<(u/y1+1)*_;omega
theorem DL.prod{B u d y1 y0 q r:Nat}(h:DL B u d y1 y0 q r):q*(y1*B+y0)+r*B=u*B+q*y0:=by
 have e:q*(y1*B+y0)=q*y1*B+q*y0:=by rw[Nat.mul_add,Nat.mul_assoc]
 rw[e,<-h.eq,Nat.add_mul];omega
theorem DL.step{B u d y1 y0 q r:Nat}(hh:DH B u d y1 y0)(h:DL B u d y1 y0 q r)(hc:B<=q\/r*B+d<q*y0):
 1<=q/\(r+y1<B->DL B u d y1 y0 (q-1) (r+y1))/\(B<=r+y1->(u*B+d)/(y1*B+y0)=q-1/\q-1<B):=by
 have hp:=h.prod;have hQ:=hh.UY;have pJ:=hh.pos;obtain⟨h0,h1,h2,h3,h4,h5⟩:=hh;have hup:=h.up;have cB:(u*B+d)/(y1*B+y0)<q:=by
  rcases hc with hc|hc
  ·exact Nat.lt_of_lt_of_le hQ hc
  rw[Nat.div_lt_iff_lt_mul pJ];have:u*B+d<q*(y1*B+y0):=by generalize q*(y1*B+y0)=z at*;omega
  exact this
 have hq1:0<q:=Nat.lt_of_le_of_lt (Nat.zero_le _) cB;obtain⟨p,rfl⟩:∃p,q=p+1:=⟨q-1,by omega⟩;have he:=h.eq;have uf:=h.hi;rw[Nat.add_mul,Nat.one_mul]at he;simp only[Nat.add_sub_cancel];refine⟨by omega,fun h6=>⟨by omega,by omega,by omega,h6⟩,fun h6=>?_⟩;have hpB:p<B:=by
  rcases Nat.lt_or_ge p B with h|h
  ·exact h
  exfalso;have:p=B:=by omega
  subst this;rw[Nat.mul_comm p y1]at he;omega
 refine⟨?_,hpB⟩;have hle:p<=(u*B+d)/(y1*B+y0):=by
  rw[Nat.le_div_iff_mul_le pJ];have e:p*(y1*B+y0)=p*y1*B+p*y0:=by rw[Nat.mul_add,Nat.mul_assoc]
  have e1:p*y0<=B*B:=Nat.mul_le_mul (by omega) (by omega);rw[e];have e2:(p*y1+B)*B<=u*B:=Nat.mul_le_mul_right _ (by omega);rw[Nat.add_mul]at e2;omega
 omega
theorem DL.stop{B u d y1 y0 q r:Nat}(hh:DH B u d y1 y0)(h:DL B u d y1 y0 q r)(hc:q*y0<=r*B+d):(u*B+d)/(y1*B+y0)=q:=by
 have hp:=h.prod;have hup:=h.up;have:q<=(u*B+d)/(y1*B+y0):=by rw[Nat.le_div_iff_mul_le hh.pos];omega
 omega
theorem BB{u d Y q:Nat}(h:(u*4294967296+d)/Y=q)(hY:0<Y)(hl:Y<=18446744073709551616):
 IntKind.u64.wrap (IntKind.u64.wrap (IntKind.u64.wrap ((u:Int)*4294967296)+d)-IntKind.u64.wrap ((q:Int)*Y))=(((u*4294967296+d)%Y:Nat):Int):=by
 have e:=Nat.mod_add_div (u*4294967296+d) Y;have hm:=Nat.mod_lt (u*4294967296+d) hY;rw[h]at e;generalize (u*4294967296+d)%Y=r at*;have e2:(u:Int)*4294967296+d=(r:Int)+(q:Int)*Y:=by
  have:((r+Y*q:Nat):Int)=((u*4294967296+d:Nat):Int):=by rw[e]
  simp only[Int.natCast_add,Int.natCast_mul]at this;rw[Int.mul_comm (q:Int)];omega
 simp only[M6];generalize (q:Int)*Y=qy at*;omega
theorem xL(B U d1 d0 Y:Nat)(hY:0<Y):
 ((U*B+d1)*B+d0)/Y=(U*B+d1)/Y*B+((U*B+d1)%Y*B+d0)/Y/\((U*B+d1)*B+d0)%Y=((U*B+d1)%Y*B+d0)%Y:=by
 have e:=Nat.mod_add_div (U*B+d1) Y;have e2:(U*B+d1)*B+d0=((U*B+d1)%Y*B+d0)+Y*((U*B+d1)/Y*B):=by
  rw[<-Nat.mul_assoc]
  conv=>lhs;rw[<-e]
  rw[Nat.add_mul];omega
 rw[e2];exact⟨by rw[Nat.add_mul_div_left _ _ hY,Nat.add_comm],by rw[Nat.add_mul_mod_self_left]⟩
theorem Rn(a b:Nat)(h:a<18446744073709551616):IntKind.u64.wrap ((a:Int).tdiv (b:Int))=((a/b:Nat):Int):=by rw[Int.tdiv_eq_ediv_of_nonneg (by omega),<-Int.natCast_ediv];exact wr (Nat.lt_of_le_of_lt (Nat.div_le_self _ _) h)
theorem KY{a b:Nat}(h:b<=a)(h2:a<18446744073709551616):IntKind.u64.wrap ((a:Int)-(b:Int))=((a-b:Nat):Int):=by rw[<-Int.natCast_sub h];exact wr (by omega)
theorem Tg{a b:Nat}(h:a+b<18446744073709551616):IntKind.u64.wrap ((a:Int)+(b:Int))=((a+b:Nat):Int):=by rw[<-Int.natCast_add];exact wr h
theorem U9{a b:Nat}(h:a*b<18446744073709551616):IntKind.u64.wrap ((a:Int)*(b:Int))=((a*b:Nat):Int):=by rw[<-Int.natCast_mul];exact wr h
theorem XW{a b:Nat}(h:a<18446744073709551616):IntKind.u64.wrap ((a:Int)-IntKind.u64.wrap (((a/b:Nat):Int)*(b:Int)))=((a%b:Nat):Int):=by
 have e:=Nat.mod_add_div a b;rw[Nat.mul_comm]at e;rw[U9 (by omega),KY (by omega) h]
 congr 1;omega
theorem BM{s:Nat}(h:s<=64):min ((s:Nat):Int).toNat IntKind.u64.bits=s:=by show min ((s:Nat):Int).toNat 64=s;omega
theorem Nu(x s:Nat)(h:s<=64):IntKind.u64.wrap ((x:Int)*2^min ((s:Nat):Int).toNat IntKind.u64.bits)=((x*2^s%18446744073709551616:Nat):Int):=by rw[BM h,<-WZ];rw[Int.natCast_mul,Int.natCast_pow];rfl
theorem Q8(x s:Nat)(h:s<=64):(x:Int).fdiv (2^min ((s:Nat):Int).toNat IntKind.u64.bits)=((x/2^s:Nat):Int):=by rw[BM h,Int.fdiv_eq_ediv_of_nonneg _ (by exact Int.le_of_lt (Int.pow_pos (by decide)))];rw[Int.natCast_ediv,Int.natCast_pow];rfl
theorem orU(a b s:Nat)(h:a*2^s+b<18446744073709551616)(hb:b<2^s):
 IntKind.u64.wrap ((BitVec.ofInt IntKind.u64.bits ((a*2^s:Nat):Int)|||BitVec.ofInt IntKind.u64.bits (b:Int)).toNat:Int)=((a*2^s+b:Nat):Int):=by
 rw[uM,uM,WZ]
 congr 1
 have h1:(BitVec.ofNat 64 (a*2^s)|||BitVec.ofNat 64 b).toNat=(a*2^s%2^64)|||(b%2^64):=by simp[BitVec.toNat_or,BitVec.toNat_ofNat]
 have e1:a*2^s%2^64=a*2^s:=Nat.mod_eq_of_lt (by omega);have e2:b%2^64=b:=Nat.mod_eq_of_lt (by omega);rw[e1,e2,Nat.mul_comm a,<-Nat.two_pow_add_eq_or_of_lt hb,Nat.mul_comm]at h1;show(BitVec.ofNat 64 (a*2^s)|||BitVec.ofNat 64 b).toNat%_=_;rw[h1,Nat.mod_eq_of_lt h]
theorem WN{x:Nat}(hx:x<18446744073709551616):bl x<=64:=by
 rcases Nat.eq_zero_or_pos x with g|g
 ·subst g;decide
 have h1:=tW (x:=x) (by omega);rcases Nat.lt_or_ge 64 (bl x)with h|h
 ·have:2^64<=2^(bl x-1):=Nat.pow_le_pow_right (by decide) (by omega);omega
 exact h
structure Hf(hi lo y s Y u d1 d0:Nat):Prop where
 hs:s<64
 hY:Y=y*2^s
 hn:9223372036854775808<=Y
 hl:Y<18446744073709551616
 he:u*18446744073709551616+(d1*4294967296+d0)=(hi*18446744073709551616+lo)*2^s
 V5:d1<4294967296
 Sg:d0<4294967296
 hu:u<Y
 hue:u=hi*2^s+lo/2^(64-s)
 hde:lo*2^s%18446744073709551616=d1*4294967296+d0
theorem Hf.mk'{hi lo y:Nat}(h1:hi<y)(hy:y<18446744073709551616)(hl:lo<18446744073709551616):
 Hf hi lo y (64-bl y) (y*2^(64-bl y)) (hi*2^(64-bl y)+lo/2^(64-(64-bl y))) (lo*2^(64-bl y)%18446744073709551616/4294967296) (lo*2^(64-bl y)%18446744073709551616%4294967296):=by
 have tg:=vG (x:=y) (by omega);have Ds:=tW (x:=y) (by omega);have hb3:=G7 y;have hb:=WN hy;obtain⟨s,hs⟩:∃s,s=64-bl y:=⟨_,rfl⟩;rw[<-hs];have e1:2^(bl y)*2^s=18446744073709551616:=by rw[<-Nat.pow_add];rw[show bl y+s=64 by omega]
 have e2:2^(bl y-1)*2^s=9223372036854775808:=by rw[<-Nat.pow_add];rw[show bl y-1+s=63 by omega]
 have e3:2^(64-s)*2^s=18446744073709551616:=by rw[<-Nat.pow_add];rw[show 64-s+s=64 by omega]
 have hp:0<2^s:=Nat.pow_pos (by decide);have JW:0<2^(64-s):=Nat.pow_pos (by decide);have g1:9223372036854775808<=y*2^s:=by rw[<-e2];exact Nat.mul_le_mul_right _ Ds
 have g2:y*2^s<18446744073709551616:=by rw[<-e1];exact Nat.mul_lt_mul_of_pos_right hb3 hp
 have g3:lo/2^(64-s)<2^s:=by rw[Nat.div_lt_iff_lt_mul JW,Nat.mul_comm,e3];exact hl
 have g4:(hi+1)*2^s<=y*2^s:=Nat.mul_le_mul_right _ h1;rw[Nat.add_mul,Nat.one_mul]at g4;have g5:lo*2^s/18446744073709551616=lo/2^(64-s):=by rw[<-e3];exact Nat.mul_div_mul_right _ _ hp
 refine⟨by omega,rfl,g1,g2,?_,by omega,by omega,by omega,rfl,by omega⟩;have g6:=Nat.mod_add_div (lo*2^s) 18446744073709551616;rw[g5]at g6;have g7:(hi*18446744073709551616+lo)*2^s=hi*2^s*18446744073709551616+lo*2^s:=by rw[Nat.add_mul];congr 1;generalize (18446744073709551616:Nat)=M;rw[Nat.mul_assoc,Nat.mul_comm M,<-Nat.mul_assoc]
 rw[g7];generalize hi*2^s=p at*;generalize lo*2^s=t at*;generalize lo/2^(64-s)=v at*;omega
theorem Hf.Uj{hi lo y s Y u d1 d0:Nat}(h:Hf hi lo y s Y u d1 d0):DH 4294967296 u d1 (Y/4294967296) (Y%4294967296):=by have:=h.hn;have:=h.hl;have:=h.hu;have:=h.V5;exact⟨by omega,by omega,by omega,by omega,by omega,by omega⟩
theorem Hf.yy{Y:Nat}:Y/4294967296*4294967296+Y%4294967296=Y:=by omega
theorem Hf.dh2{hi lo y s Y u d1 d0:Nat}(h:Hf hi lo y s Y u d1 d0):DH 4294967296 ((u*4294967296+d1)%Y) d0 (Y/4294967296) (Y%4294967296):=by have h1:=h.hn;have h2:=h.hl;have h4:=h.Sg;have:=Nat.mod_lt (u*4294967296+d1) (show 0<Y by omega);exact⟨by omega,by omega,by omega,by omega,by omega,by omega⟩
theorem Hf.quo{hi lo y s Y u d1 d0:Nat}(h:Hf hi lo y s Y u d1 d0):
 (u*4294967296+d1)/Y*4294967296+((u*4294967296+d1)%Y*4294967296+d0)/Y=(hi*18446744073709551616+lo)/y/\
 ((u*4294967296+d1)%Y*4294967296+d0)%Y/2^s=(hi*18446744073709551616+lo)%y:=by
 have hn:=h.hn;have hp:0<2^s:=Nat.pow_pos (by decide);obtain⟨e1,e2⟩:=xL 4294967296 u d1 d0 Y (by omega);have e3:(u*4294967296+d1)*4294967296+d0=(hi*18446744073709551616+lo)*2^s:=by rw[<-h.he];omega
 rw[<-e1,<-e2,e3,h.hY];refine⟨Nat.mul_div_mul_right _ _ hp,?_⟩;rw[Nat.mul_mod_mul_right,Nat.mul_div_cancel _ hp]
theorem wM(hi lo y:Nat)(h1:hi<y)(hy:y<18446744073709551616)(hl:lo<18446744073709551616):
 aO Tryz.prog 242 [.n .u64 hi,.n .u64 lo,.n .u64 y] (.bC [.n .u64 ((hi*18446744073709551616+lo)/y:Nat),.n .u64 ((hi*18446744073709551616+lo)%y:Nat)]):=by
 refine enter (fn:=Tryz.f242) Tryz.func242 rfl rfl rfl rfl ?_;refine r0 rfl ?_;refine br rfl rfl rfl (fun h=>absurd h (by omega)) (fun _=>?_);refine r0 rfl ?_;refine br rfl rfl rfl (fun h=>absurd h (by omega)) (fun _=>?_);refine r0 rfl ?_;refine br rfl rfl rfl (fun h=>?_) (fun h=>?_)
 ·have h0:hi=0:=by omega
  subst h0;refine k1 rfl (by kernel_rfl) ?_ ?_
  ·simp only[ae,and_true]<;>omega
  have e:(0*18446744073709551616+lo)=lo:=by omega
  rw[e];refine aF rfl ⟨congrArg (SV.n .u64) ?_,congrArg (SV.n .u64) ?_,trivial⟩
  ·rw[Int.tdiv_eq_ediv_of_nonneg (by omega),<-Int.natCast_ediv];exact wr (Nat.lt_of_le_of_lt (Nat.div_le_self _ _) hl)
  rfl
 obtain⟨s,VE⟩:∃s,s=64-bl y:=⟨_,rfl⟩;have hS:=Hf.mk' h1 hy hl;rw[<-VE]at hS;generalize y*2^s=Y at hS;generalize hi*2^s+lo/2^(64-s)=u at hS;generalize lo*2^s%18446744073709551616/4294967296=d1 at hS;generalize lo*2^s%18446744073709551616%4294967296=d0 at hS;have tg:=vG (x:=y) (by omega);have Ds:=WN hy;have hs:=hS.hs;have QC:IntKind.u64.wrap (64-(bl y:Int))=(s:Int):=by rw[M6];omega
 have R2:IntKind.u64.wrap (64-(s:Int))=((64-s:Nat):Int):=by rw[M6];omega
 have eY:IntKind.u64.wrap ((y:Int)*2^min ((s:Nat):Int).toNat IntKind.u64.bits)=(Y:Int):=by rw[Nu y s (by omega),<-hS.hY,Nat.mod_eq_of_lt hS.hl]
 have hHi:hi*2^s<18446744073709551616:=by
  have h1:=hS.hu;have h2:=hS.hl;have:hi*2^s<=u:=by rw[hS.hue];exact Nat.le_add_right _ _
  omega
 have eu:IntKind.u64.wrap ((BitVec.ofInt IntKind.u64.bits (IntKind.u64.wrap ((hi:Int)*2^min ((s:Nat):Int).toNat IntKind.u64.bits))|||BitVec.ofInt IntKind.u64.bits ((lo:Int).fdiv (2^min ((64-s:Nat):Int).toNat IntKind.u64.bits))).toNat:Int)=(u:Int):=by
  rw[Nu hi s (by omega),Nat.mod_eq_of_lt hHi,Q8 lo (64-s) (by omega),orU hi (lo/2^(64-s)) s]
  ·rw[hS.hue]
  ·have h1:=hS.hu;have h2:=hS.hl;rw[<-hS.hue];omega
  have e3:2^(64-s)*2^s=18446744073709551616:=by rw[<-Nat.pow_add];rw[show 64-s+s=64 by omega]
  rw[Nat.div_lt_iff_lt_mul (Nat.pow_pos (by decide)),Nat.mul_comm,e3];exact hl
 have el:IntKind.u64.wrap ((lo:Int)*2^min ((s:Nat):Int).toNat IntKind.u64.bits)=((d1*4294967296+d0:Nat):Int):=by rw[Nu lo s (by omega),hS.hde]
 have V5:=hS.V5;have Sg:=hS.Sg;have eq1:((d1*4294967296+d0)/4294967296)=d1:=by omega
 have eq0:((d1*4294967296+d0)%4294967296)=d0:=by omega
 have huW:u<18446744073709551616:=by have h1:=hS.hu;have h2:=hS.hl;omega
 refine rn 1 rfl ?_;refine cg 11 [(2,.n .u64 Y),(8,.n .u64 s),(9,.n .u64 (Y/4294967296:Nat)),(10,.n .u64 (Y%4294967296:Nat)),(11,.n .u64 u),(13,.n .u64 d1),(14,.n .u64 d0),(15,.n .u64 ((u*4294967296+d1)/Y:Nat))] True ?_ fun _=>?_
 ·refine r0 rfl ?_;refine cl rfl rfl (yN y hy) rfl ?_;refine r1 rfl ?_ ?_
  ·simp only[ae,and_true,QC,R2,eY,Bx];have:=hS.hn;refine⟨?_,by omega,by omega,by omega,by omega,by omega,by omega⟩;omega
  refine lP (fun(q r:Nat)=>[(2,.n .u64 Y),(8,.n .u64 s),(9,.n .u64 (Y/4294967296:Nat)),(10,.n .u64 (Y%4294967296:Nat)),(11,.n .u64 u),(13,.n .u64 d1),(14,.n .u64 d0),(15,.n .u64 q),(16,.n .u64 r)])
   (fun q r=>DL 4294967296 u d1 (Y/4294967296) (Y%4294967296) q r) (fun q _=>q) (u/(Y/4294967296)) (u%(Y/4294967296)) (DL.start hS.Uj)
   ⟨⟨rfl,congrArg (SV.n .u64) (by rw[QC,eY])⟩,⟨rfl,congrArg (SV.n .u64) QC⟩,⟨rfl,congrArg (SV.n .u64) (by rw[QC,eY,Bx])⟩,⟨rfl,congrArg (SV.n .u64) (by rw[QC,eY,Oh])⟩,
     ⟨rfl,congrArg (SV.n .u64) (by rw[QC,R2,eu])⟩,⟨rfl,congrArg (SV.n .u64) (by rw[QC,el,Bx,eq1])⟩,⟨rfl,congrArg (SV.n .u64) (by rw[QC,el,Oh,eq0])⟩,
     ⟨rfl,congrArg (SV.n .u64) (by rw[QC,R2,eu,eY,Bx,Rn _ _ huW])⟩,⟨rfl,congrArg (SV.n .u64) (by rw[QC,R2,eu,eY,Bx,Rn _ _ huW,XW huW])⟩,trivial⟩ ?_
  intro q r hI;have uf:=hI.hi;have VF:=hI.lt;have hy1:Y/4294967296<4294967296:=hS.Uj.m;have BZ:Y%4294967296<4294967296:=hS.Uj.l;have yX:(4294967296<=q\/r*4294967296+d1<q*(Y%4294967296))->IntKind.u64.wrap ((q:Int)-1)=((q-1:Nat):Int)/\IntKind.u64.wrap ((r:Int)+((Y/4294967296:Nat):Int))=((r+Y/4294967296:Nat):Int):=by intro hc;obtain⟨g1,-,-⟩:=hI.step hS.Uj hc;exact⟨KY (b:=1) g1 (by omega),Tg (by omega)⟩
  refine r0 rfl ?_;refine aB 69 rfl (fun hc=>?_) (fun hc=>?_)
  ·obtain⟨e1,e2⟩:=yX (.inl (by omega));obtain⟨g1,g2,g3⟩:=hI.step hS.Uj (.inl (by omega));refine r0 rfl ?_;refine br rfl rfl rfl (fun hd=>?_) (fun hd=>?_)
   ·rw[e2]at hd;obtain⟨g4,g5⟩:=g3 (by omega);rw[Hf.yy]at g4;refine r0 rfl ?_;exact aQ trivial ⟨⟨rfl,rfl⟩,⟨rfl,rfl⟩,⟨rfl,rfl⟩,⟨rfl,rfl⟩,⟨rfl,rfl⟩,⟨rfl,rfl⟩,⟨rfl,rfl⟩,⟨rfl,congrArg (SV.n .u64) (by rw[e1,g4])⟩,trivial⟩
   rw[e2]at hd;refine r0 rfl ?_;exact again (q-1,r+Y/4294967296) (by dsimp only;omega) (g2 (by omega)) ⟨⟨rfl,rfl⟩,⟨rfl,rfl⟩,⟨rfl,rfl⟩,⟨rfl,rfl⟩,⟨rfl,rfl⟩,⟨rfl,rfl⟩,⟨rfl,rfl⟩,⟨rfl,congrArg (SV.n .u64) e1⟩,⟨rfl,congrArg (SV.n .u64) e2⟩,trivial⟩
  have hqB:q<4294967296:=by omega
  have hqy:q*(Y%4294967296)<18446744073709551616:=by have:q*(Y%4294967296)<=4294967295*4294967295:=Nat.mul_le_mul (by omega) (by omega);omega
  have c1:IntKind.u64.wrap ((q:Int)*((Y%4294967296:Nat):Int))=((q*(Y%4294967296):Nat):Int):=U9 hqy;have c2:IntKind.u64.wrap (IntKind.u64.wrap (4294967296*(r:Int))+(d1:Int))=((r*4294967296+d1:Nat):Int):=by rw[M6,M6];omega
  refine r0 rfl ?_;refine br rfl rfl rfl (fun ug=>?_) (fun ug=>?_)
  ·rw[c1,c2]at ug;have Ef:r*4294967296+d1<q*(Y%4294967296):=by exact_mod_cast ug
   obtain⟨e1,e2⟩:=yX (.inr Ef);obtain⟨g1,g2,g3⟩:=hI.step hS.Uj (.inr Ef);refine r0 rfl ?_;refine br rfl rfl rfl (fun hd=>?_) (fun hd=>?_)
   ·rw[e2]at hd;obtain⟨g4,g5⟩:=g3 (by omega);rw[Hf.yy]at g4;refine r0 rfl ?_;exact aQ trivial ⟨⟨rfl,rfl⟩,⟨rfl,rfl⟩,⟨rfl,rfl⟩,⟨rfl,rfl⟩,⟨rfl,rfl⟩,⟨rfl,rfl⟩,⟨rfl,rfl⟩,⟨rfl,congrArg (SV.n .u64) (by rw[e1,g4])⟩,trivial⟩
   rw[e2]at hd;refine r0 rfl ?_;exact again (q-1,r+Y/4294967296) (by dsimp only;omega) (g2 (by omega)) ⟨⟨rfl,rfl⟩,⟨rfl,rfl⟩,⟨rfl,rfl⟩,⟨rfl,rfl⟩,⟨rfl,rfl⟩,⟨rfl,rfl⟩,⟨rfl,rfl⟩,⟨rfl,congrArg (SV.n .u64) e1⟩,⟨rfl,congrArg (SV.n .u64) e2⟩,trivial⟩
  rw[c1,c2]at ug;have Ef:q*(Y%4294967296)<=r*4294967296+d1:=by
   rcases Nat.lt_or_ge (r*4294967296+d1) (q*(Y%4294967296))with h|h
   ·exact absurd (by exact_mod_cast h) ug
   exact h
  have g4:=hI.stop hS.Uj Ef;rw[Hf.yy]at g4;refine r0 rfl ?_;exact aQ trivial ⟨⟨rfl,rfl⟩,⟨rfl,rfl⟩,⟨rfl,rfl⟩,⟨rfl,rfl⟩,⟨rfl,rfl⟩,⟨rfl,rfl⟩,⟨rfl,rfl⟩,⟨rfl,congrArg (SV.n .u64) (by rw[g4])⟩,trivial⟩
 have hYp:0<Y:=by have:=hS.hn;omega
 have ev0:=BB (u:=u) (d:=d1) (Y:=Y) rfl hYp (Nat.le_of_lt hS.hl);have ev:IntKind.u64.wrap (IntKind.u64.wrap (IntKind.u64.wrap ((u:Int)*4294967296)+(d1:Int))-IntKind.u64.wrap ((((u*4294967296+d1)/Y:Nat):Int)*(Y:Int)))=(((u*4294967296+d1)%Y:Nat):Int):=ev0;have MX:=hS.dh2;have hvY:(u*4294967296+d1)%Y<Y:=Nat.mod_lt _ hYp;obtain⟨w1,w2⟩:=hS.quo;have hqL:=hS.Uj.UY;have VG:=hS.dh2.UY;rw[Hf.yy]at hqL VG;obtain⟨v,hv⟩:∃v,v=(u*4294967296+d1)%Y:=⟨_,rfl⟩;rw[<-hv]at ev MX hvY w1 w2 VG;have hvW:v<18446744073709551616:=by have:=hS.hl;omega
 refine cg 4 [(2,.n .u64 Y),(8,.n .u64 s),(14,.n .u64 d0),(15,.n .u64 ((u*4294967296+d1)/Y:Nat)),(17,.n .u64 v),(18,.n .u64 ((v*4294967296+d0)/Y:Nat))] True ?_ fun _=>?_
 ·refine r1 rfl ?_ ?_
  ·simp only[ae,and_true];have:=hS.hn;omega
  refine lP (fun(q r:Nat)=>[(2,.n .u64 Y),(8,.n .u64 s),(9,.n .u64 (Y/4294967296:Nat)),(10,.n .u64 (Y%4294967296:Nat)),(14,.n .u64 d0),(15,.n .u64 ((u*4294967296+d1)/Y:Nat)),(17,.n .u64 v),(18,.n .u64 q),(16,.n .u64 r)])
   (fun q r=>DL 4294967296 v d0 (Y/4294967296) (Y%4294967296) q r) (fun q _=>q) (v/(Y/4294967296)) (v%(Y/4294967296)) (DL.start MX)
   ⟨⟨rfl,rfl⟩,⟨rfl,rfl⟩,⟨rfl,rfl⟩,⟨rfl,rfl⟩,⟨rfl,rfl⟩,⟨rfl,rfl⟩,⟨rfl,congrArg (SV.n .u64) ev⟩,⟨rfl,congrArg (SV.n .u64) (by rw[ev,Rn _ _ hvW])⟩,⟨rfl,congrArg (SV.n .u64) (by rw[ev,Rn _ _ hvW,XW hvW])⟩,trivial⟩ ?_
  intro q r hI;have uf:=hI.hi;have VF:=hI.lt;have hy1:Y/4294967296<4294967296:=MX.m;have BZ:Y%4294967296<4294967296:=MX.l;have yX:(4294967296<=q\/r*4294967296+d0<q*(Y%4294967296))->IntKind.u64.wrap ((q:Int)-1)=((q-1:Nat):Int)/\IntKind.u64.wrap ((r:Int)+((Y/4294967296:Nat):Int))=((r+Y/4294967296:Nat):Int):=by intro hc;obtain⟨g1,-,-⟩:=hI.step MX hc;exact⟨KY (b:=1) g1 (by omega),Tg (by omega)⟩
  refine r0 rfl ?_;refine aB 104 rfl (fun hc=>?_) (fun hc=>?_)
  ·obtain⟨e1,e2⟩:=yX (.inl (by omega));obtain⟨g1,g2,g3⟩:=hI.step MX (.inl (by omega));refine r0 rfl ?_;refine br rfl rfl rfl (fun hd=>?_) (fun hd=>?_)
   ·rw[e2]at hd;obtain⟨g4,g5⟩:=g3 (by omega);rw[Hf.yy]at g4;refine r0 rfl ?_;exact aQ trivial ⟨⟨rfl,rfl⟩,⟨rfl,rfl⟩,⟨rfl,rfl⟩,⟨rfl,rfl⟩,⟨rfl,rfl⟩,⟨rfl,congrArg (SV.n .u64) (by rw[e1,g4])⟩,trivial⟩
   rw[e2]at hd;refine r0 rfl ?_;exact again (q-1,r+Y/4294967296) (by dsimp only;omega) (g2 (by omega)) ⟨⟨rfl,rfl⟩,⟨rfl,rfl⟩,⟨rfl,rfl⟩,⟨rfl,rfl⟩,⟨rfl,rfl⟩,⟨rfl,rfl⟩,⟨rfl,rfl⟩,⟨rfl,congrArg (SV.n .u64) e1⟩,⟨rfl,congrArg (SV.n .u64) e2⟩,trivial⟩
  have hqB:q<4294967296:=by omega
  have hqy:q*(Y%4294967296)<18446744073709551616:=by have:q*(Y%4294967296)<=4294967295*4294967295:=Nat.mul_le_mul (by omega) (by omega);omega
  have c1:IntKind.u64.wrap ((q:Int)*((Y%4294967296:Nat):Int))=((q*(Y%4294967296):Nat):Int):=U9 hqy;have c2:IntKind.u64.wrap (IntKind.u64.wrap (4294967296*(r:Int))+(d0:Int))=((r*4294967296+d0:Nat):Int):=by rw[M6,M6];omega
  refine r0 rfl ?_;refine br rfl rfl rfl (fun ug=>?_) (fun ug=>?_)
  ·rw[c1,c2]at ug;have Ef:r*4294967296+d0<q*(Y%4294967296):=by exact_mod_cast ug
   obtain⟨e1,e2⟩:=yX (.inr Ef);obtain⟨g1,g2,g3⟩:=hI.step MX (.inr Ef);refine r0 rfl ?_;refine br rfl rfl rfl (fun hd=>?_) (fun hd=>?_)
   ·rw[e2]at hd;obtain⟨g4,g5⟩:=g3 (by omega);rw[Hf.yy]at g4;refine r0 rfl ?_;exact aQ trivial ⟨⟨rfl,rfl⟩,⟨rfl,rfl⟩,⟨rfl,rfl⟩,⟨rfl,rfl⟩,⟨rfl,rfl⟩,⟨rfl,congrArg (SV.n .u64) (by rw[e1,g4])⟩,trivial⟩
   rw[e2]at hd;refine r0 rfl ?_;exact again (q-1,r+Y/4294967296) (by dsimp only;omega) (g2 (by omega)) ⟨⟨rfl,rfl⟩,⟨rfl,rfl⟩,⟨rfl,rfl⟩,⟨rfl,rfl⟩,⟨rfl,rfl⟩,⟨rfl,rfl⟩,⟨rfl,rfl⟩,⟨rfl,congrArg (SV.n .u64) e1⟩,⟨rfl,congrArg (SV.n .u64) e2⟩,trivial⟩
  rw[c1,c2]at ug;have Ef:q*(Y%4294967296)<=r*4294967296+d0:=by
   rcases Nat.lt_or_ge (r*4294967296+d0) (q*(Y%4294967296))with h|h
   ·exact absurd (by exact_mod_cast h) ug
   exact h
  have g4:=hI.stop MX Ef;rw[Hf.yy]at g4;refine r0 rfl ?_;exact aQ trivial ⟨⟨rfl,rfl⟩,⟨rfl,rfl⟩,⟨rfl,rfl⟩,⟨rfl,rfl⟩,⟨rfl,rfl⟩,⟨rfl,congrArg (SV.n .u64) (by rw[g4])⟩,trivial⟩
 refine r1 rfl ?_ ?_
 ·simp only[ae,and_true]<;>omega
 refine aF rfl ⟨congrArg (SV.n .u64) ?_,congrArg (SV.n .u64) ?_,trivial⟩
 ·rw[<-w1];obtain⟨a,ha⟩:∃a,a=(u*4294967296+d1)/Y:=⟨_,rfl⟩;obtain⟨b,hb⟩:∃b,b=(v*4294967296+d0)/Y:=⟨_,rfl⟩;rw[<-ha]at hqL⊢;rw[<-hb]at VG⊢;rw[M6,M6];omega
 rw[<-w2];have e3:=BB (u:=v) (d:=d0) (Y:=Y) rfl hYp (Nat.le_of_lt hS.hl);have e4:IntKind.u64.wrap (IntKind.u64.wrap (IntKind.u64.wrap ((v:Int)*4294967296)+(d0:Int))-IntKind.u64.wrap ((((v*4294967296+d0)/Y:Nat):Int)*(Y:Int)))=(((v*4294967296+d0)%Y:Nat):Int):=e3;rw[e4,Q8 _ s (by omega)]
def fx:Nat->Nat->List Int
 |0,_=>[]
 |k+1,v=>((v%18446744073709551616:Nat):Int)::fx k (v/18446744073709551616)
theorem dR:∀(k v:Nat),(fx k v).length=k
 |0,_=>rfl
 |k+1,v=>by simp[fx,dR k]
theorem IQ:∀(k v:Nat),fD (fx k v)
 |0,_,d,h=>by simp[fx]at h
 |k+1,v,d,h=>by
  simp only[fx,List.mem_cons]at h;rcases h with rfl|h
  ·omega
  exact IQ k _ d h
theorem Ka:∀{l:List Int}{v:Nat},fD l->val l=v->l=fx l.length v
 |[],v,_,h=>rfl
 |d::l,v,hd,h=>by
  have h1:=hd d (by simp);have h2:fD l:=fun x hx=>hd x (by simp[hx]);have h3:=aT h2;simp only[val]at h;simp only[List.length_cons,fx];have e1:d=((v%18446744073709551616:Nat):Int):=by omega
  have e2:val l=((v/18446744073709551616:Nat):Int):=by omega
  rw[<-e1,<-Ka h2 e2]
theorem M9{k v:Nat}(h:(v:Int)<18446744073709551616^k):val (fx k v)=v:=by
 induction k generalizing v with
 |zero=>
  have:v=0:=by simp at h;omega
  subst this;rfl
 |succ k ih=>
  simp only[fx,val];rw[ih]
  ·omega
  rw[Int.pow_succ]at h;have:=bV k;generalize (18446744073709551616:Int)^k=P at*;omega
theorem Sv{k v:Nat}(h:(v:Int)<18446744073709551616^k):bY (fx k v)=aa v:=by rw[c7 (IQ k v),M9 h];simp
theorem X1(a b s:Nat)(h:a*2^s+b<18446744073709551616)(hb:b<2^s):
 IntKind.u64.wrap ((BitVec.ofInt IntKind.u64.bits (b:Int)|||BitVec.ofInt IntKind.u64.bits ((a*2^s:Nat):Int)).toNat:Int)=((a*2^s+b:Nat):Int):=by
 rw[BitVec.or_comm];exact orU a b s h hb
theorem HG{x s:Nat}(hs:s<64)(hx:x<18446744073709551616):
 x*2^s%18446744073709551616=x%2^(64-s)*2^s/\x*2^s=x%2^(64-s)*2^s+x/2^(64-s)*18446744073709551616/\x/2^(64-s)<2^s/\x%2^(64-s)*2^s+(2^s-1)<18446744073709551616:=by
 have e3:2^(64-s)*2^s=18446744073709551616:=by rw[<-Nat.pow_add];rw[show 64-s+s=64 by omega]
 have hp:0<2^s:=Nat.pow_pos (by decide);have JW:0<2^(64-s):=Nat.pow_pos (by decide);have e4:=Nat.mod_add_div x (2^(64-s));have e5:=Nat.mod_lt x JW;have g:x/2^(64-s)<2^s:=by rw[Nat.div_lt_iff_lt_mul JW,Nat.mul_comm,e3];exact hx
 have h6:(x%2^(64-s)+1)*2^s<=2^(64-s)*2^s:=Nat.mul_le_mul_right _ e5;rw[e3,Nat.add_mul,Nat.one_mul]at h6;have e:x*2^s=x%2^(64-s)*2^s+x/2^(64-s)*18446744073709551616:=by
  conv=>lhs;rw[<-e4]
  rw[Nat.add_mul,Nat.mul_comm (2^(64-s)),Nat.mul_assoc,e3]
 refine⟨?_,e,g,by omega⟩;rw[e];generalize x%2^(64-s)*2^s=t at*;omega
theorem qW(A s:Nat)(hs:s<64)(h1:(aa A).length<2^40):aO Tryz.prog 244 [.ints .u64 false (aa A),.i s] (.ints .u64 true (fx ((aa A).length+1) (A*2^s))):=by
 have hd:=a8 A;have hp:0<2^s:=Nat.pow_pos (by decide);obtain⟨w,hw⟩:∃w,w=aa A:=⟨_,rfl⟩;rw[<-hw]at hd h1⊢;have hA:val w=A:=by rw[hw,aX]
 refine enter (fn:=Tryz.f244) Tryz.func244 rfl rfl rfl rfl ?_;refine r1 rfl (by simp only[ae,and_true]<;>omega) ?_;have etn:((w.length:Int)+1).toNat=w.length+1:=by omega
 refine lP (fun(i:Nat)(out:List Int)=>[(0,.ints .u64 false w),(1,.i s),(5,.ints .u64 true out),(12,.ints .u64 false w),(13,.i w.length),(14,.i i)])
  (fun i out=>i<=w.length/\out.length=w.length+1/\fD out/\out.getD i 0<((2^s:Nat):Int)/\(∀k,i<k->out.getD k 0=0)/\val (out.take (i+1))=val (w.take i)*((2^s:Nat):Int))
  (fun i _=>w.length-i) 0 (List.replicate (w.length+1) 0) ⟨Nat.zero_le _,by simp,dI _,by rw[dQ];omega,fun k _=>dQ _ _,by rw[List.take_replicate,gi];simp[val]⟩
  ⟨⟨rfl,rfl⟩,⟨rfl,rfl⟩,⟨rfl,by rw[etn];rfl⟩,⟨rfl,rfl⟩,⟨rfl,rfl⟩,⟨rfl,rfl⟩,trivial⟩ ?_
 rintro i out⟨hi,L6,hod,hc,hz,hv⟩;refine r0 rfl ?_;refine br rfl rfl rfl (fun cB=>?_) (fun QF=>?_)
 ·have hx:=aU hd i;have hb:=aU hod i;obtain⟨x,ex⟩:∃x:Nat,w.getD i 0=x:=⟨(w.getD i 0).toNat,by omega⟩;obtain⟨b,eb⟩:∃b:Nat,out.getD i 0=b:=⟨(out.getD i 0).toNat,by omega⟩;rw[ex]at hx;rw[eb]at hb hc;have ei:(i:Int).toNat=i:=by omega
  have ei1:((i:Int)+1).toNat=i+1:=by omega
  obtain⟨g1,g2,g3,g4⟩:=HG hs (show x<18446744073709551616 by omega);have Xf:IntKind.u64.wrap ((BitVec.ofInt IntKind.u64.bits (b:Int)|||BitVec.ofInt IntKind.u64.bits (IntKind.u64.wrap ((x:Int)*2^min ((s:Nat):Int).toNat IntKind.u64.bits))).toNat:Int)=((x%2^(64-s)*2^s+b:Nat):Int):=by rw[Nu x s (by omega),g1];exact X1 _ b s (by omega) (by omega)
  obtain⟨y,hy⟩:∃y,y=x%2^(64-s)*2^s+b:=⟨_,rfl⟩;obtain⟨c,Xr⟩:∃c,c=x/2^(64-s):=⟨_,rfl⟩;have hyW:y<18446744073709551616:=by omega
  have agw:i<w.length:=by omega
  have hA1:∀uG:List Int,uG.length=w.length+1->fD uG->(∀k,i+1<k->uG.getD k 0=0)->uG.getD i 0=y->uG.getD (i+1) 0=c->uG.take i=out.take i->
   i+1<=w.length/\uG.length=w.length+1/\fD uG/\uG.getD (i+1) 0<((2^s:Nat):Int)/\(∀k,i+1<k->uG.getD k 0=0)/\val (uG.take (i+1+1))=val (w.take (i+1))*((2^s:Nat):Int):=by
   intro uG q1 q2 q3 q4 q5 q6;refine⟨by omega,q1,q2,by rw[q5];omega,q3,?_⟩;rw[aA,aA uG,q6,q4,q5,aA w,ex];rw[aA,eb]at hv;have hxx:(x:Int)*((2^s:Nat):Int)=(y:Int)-b+(c:Int)*18446744073709551616:=by
    have:((x*2^s:Nat):Int)=((x%2^(64-s)*2^s+x/2^(64-s)*18446744073709551616:Nat):Int):=by rw[g2]
    rw[<-Xr]at this;generalize x%2^(64-s)*2^s=t at*;rw[Int.natCast_mul]at this;rw[this,hy];omega
   rw[Int.add_mul,<-hv,Int.mul_assoc,Int.mul_comm (18446744073709551616^i),<-Int.mul_assoc,hxx,Int.pow_succ,Int.add_mul,Int.sub_mul,Int.mul_assoc (c:Int),Int.mul_comm (18446744073709551616^i) 18446744073709551616];omega
  have gw:IntKind.i64.wrap (64-(s:Int))=((64-s:Nat):Int):=by rw[Uw];omega
  have jk:∀(l:List Int)(j k:Nat)(z:Int),(l.set j z).getD k 0=if j=k/\k<l.length then z else l.getD k 0:=bA;refine k1 rfl (by kernel_rfl) ?_ ?_
  ·simp only[ae,and_true,ei]<;>omega
  refine br rfl rfl rfl (fun h0=>?_) (fun h0=>?_)
  ·refine r1 rfl ?_ ?_
   ·simp only[ae,and_true,ei,ei1,List.length_set]<;>omega
   refine again (i+1,(out.set i (y:Int)).set (i+1) (c:Int)) (by dsimp only;omega) ?_ ⟨⟨rfl,rfl⟩,⟨rfl,rfl⟩,⟨rfl,congrArg (SV.ints .u64 true) ?_⟩,⟨rfl,rfl⟩,⟨rfl,rfl⟩,⟨rfl,congrArg (SV.n .i64) (by omega)⟩,trivial⟩
   ·refine hA1 _ (by simp[L6]) (du (du hod (by omega)) (by omega)) (fun k hk=>?_) ?_ ?_ ?_
    ·rw[jk,if_neg (by omega),jk,if_neg (by omega)];exact hz k (by omega)
    ·rw[jk,if_neg (by omega),jk,if_pos (by omega)]
    ·rw[jk,if_pos (by simp;omega)]
    rw[dt (by omega),dt (Nat.le_refl _)]
   dsimp only;rw[ei,ei1];rw[ex,eb,Xf,hy];have e64:(64-(s:Int))=((64-s:Nat):Int):=by omega
   rw[e64,Q8 x (64-s) (by omega),Xr]
  refine r1 rfl ?_ ?_
  ·simp only[ae,and_true]<;>omega
  have VE:s=0:=by omega
  have Me:c=0:=by rw[Xr,VE];exact Nat.div_eq_of_lt (by show x<2^64;omega)
  refine again (i+1,out.set i (y:Int)) (by dsimp only;omega) ?_ ⟨⟨rfl,rfl⟩,⟨rfl,rfl⟩,⟨rfl,congrArg (SV.ints .u64 true) ?_⟩,⟨rfl,rfl⟩,⟨rfl,rfl⟩,⟨rfl,congrArg (SV.n .i64) (by omega)⟩,trivial⟩
  ·refine hA1 _ (by simp[L6]) (du hod (by omega)) (fun k hk=>?_) ?_ ?_ ?_
   ·rw[jk,if_neg (by omega)];exact hz k (by omega)
   ·rw[jk,if_pos (by omega)]
   ·rw[jk,if_neg (by omega),hz _ (by omega),Me];rfl
   rw[dt (Nat.le_refl _)]
  dsimp only;rw[ei,ex,eb,Xf,hy]
 refine r0 rfl ?_;have L9:i=w.length:=by omega
 refine aF rfl ?_;show SV.ints .u64 true out=_;have e1:out.take (i+1)=out:=List.take_of_length_le (by omega);have e2:w.take i=w:=List.take_of_length_le (by omega);rw[e1,e2,hA]at hv;rw[<-L6,<-Ka (v:=A*2^s) hod (by rw[hv,Int.natCast_mul])]
end Go.Ai.b6
