/- TopRefused holds. -/
import Derived.Test.YtacjimehcbbkbaaGreatDoorTZAG
import Derived.Lib.Mul64
import Derived.Laws.StandIn
set_option linter.all false
set_option maxRecDepth 100000
set_option maxHeartbeats 0
open Go.Proofs Go.Ai Go.Proofs.Tryz
namespace Go.Ai.bI
def nZ(n i:Nat):∃x:Nat,(ah n).getD i 0=x/\x<2^64:=by have:=bB (bP n) i;exact⟨((ah n).getD i 0).toNat,E,E⟩
def GC(m n:Nat)(B:(ah m).length<2^40)(A:(ah n).length<2^40):ab 250 [gw<|ah m,gw<|ah n] (gw<|ah<|m+n):=by
 refine cx func250 W<|Ao 2 (λa b:Nat=>[(0,gw<|ah a),(1,gw<|ah b)]) (λa b=>a+b=m+n/\(ah b).length<=(ah a).length/\(ah a).length<2^40) ?_ ?_;refine cv W W ?_ ?_<;>intro h;refine r0 W<|iX (n,m) ⟨ac,ac,ac⟩;refine r0 W<|iX (m,n) ⟨gA,ac,ac⟩;rintro a b⟨hs,hl,z⟩;rw[<-hs];refine r1 W bj<|qQ (λ(i:Nat)(out:L Int)(c:Nat)=>[(0,gw<|ah a),(1,gw<|ah b),(5,aj0 out),(6,.n .u64 c),(21,.i (ah a).length),(22,.i i)])
  (λi out c=>i<=(ah a).length/\ji out/\out.length=(ah a).length+1/\c<=1/\val out+c*18446744073709551616^i=val ((ah a).take i)+val ((ah b).take i)/\∀k,i<=k->out.getD k 0=0)
  (λi _ _=>(ah a).length-i) 0 (List.replicate ((ah a).length+1) 0) 0 ⟨abX _,gI _,I,E,by simp[val,jE],λk _=>jc _ _⟩
  ⟨G,G,⟨W,aj8 (aj0)<|by congr 1⟩,G,G,G,U⟩ ?_
 rintro i out c⟨hi,q,d,hc,p,f⟩;refine cv W W ?_ ?_<;>intro h;have u:i<(ah a).length:=E;have e:(i:Int).toNat=i:=E;let⟨x,j,t⟩:=nZ a i;let⟨y,o,s⟩:=nZ b i;have step:∀l:bJ,True->True:=λ_ h=>h;have fin:(i+1<=(ah a).length/\ji (out.set i (((x+y+c)%2^64:Nat):Int))/\(out.set i (((x+y+c)%2^64:Nat):Int)).length=(ah a).length+1/\(x+y+c)/2^64<=1/\
  val (out.set i (((x+y+c)%2^64:Nat):Int))+((x+y+c)/2^64:Nat)*(2^64)^(i+1)=val ((ah a).take<|i+1)+val ((ah b).take<|i+1)/\∀k,i+1<=k->(out.set i (((x+y+c)%2^64:Nat):Int)).getD k 0=0):=by
  refine⟨E,fS q E,b5,E,?_,λk w=>?_⟩;rw[mf _ E,f i<|abY _,aM,aM,j,o,agR]
  grind
  rw[dF,abl E];exact f k E
 refine cv W W ?_ ?_<;>intro v;refine r1 W (by simp only[aj,abu,e]<;>omega) ?_;refine cl W (by rw[e,j,o];rfl) (iz x y c hc) W ?_;refine r1 W (by simp only[aj,abu,e,d]<;>omega) ?_;exact again (i+1,out.set i (((x+y+c)%2^64:Nat):Int),(x+y+c)/2^64) (ac) fin ⟨G,G,⟨W,aj8 (aj0)<|by rw[e]⟩,G,G,G,U⟩;have g:y=0:=by grind
 subst g;refine r1 W (by simp only[aj,abu,e]<;>omega) ?_;refine cl W (by rw[e,j];rfl) (iz x 0 c hc) W ?_;refine r1 W (by simp only[aj,abu,e,d]<;>omega) ?_;exact again (i+1,out.set i (((x+0+c)%2^64:Nat):Int),(x+0+c)/2^64) (ac) fin ⟨G,G,⟨W,aj8 (aj0)<|by rw[e]⟩,G,G,G,U⟩;have:i=(ah a).length:=E;subst this;have r:(((ah a).length:Nat):Int).toNat=(ah a).length:=E;rw[ad2<|abY _,ad2 E,bF,bF]at p;refine r1 W (by simp only[aj,abu,r,d]<;>omega) ?_;rw[r];refine b8 W (dT (out.set (ah a).length c)<|by simp;omega) W ?_;refine cm W W<|aj8 (gw) ?_;rw[fk<|fS q E,mf _ E,f _<|abY _,Int.sub_zero,p]
 congr 1
def uF(m n:Nat)(C:(ah m).length<2^40)(u:n<=m):ab 252 [gw<|ah m,gw<|ah n] (gw<|ah<|m-n):=by
 have v:(ah n).length<=(ah m).length:=by rcases aef (ah m).length (ah n).length with g|g;have:=cX g;omega;exact g
 refine cx func252 W<|r1 W bj<|qQ (λ(i:Nat)(out:L Int)(c:Nat)=>[(0,gw<|ah m),(1,gw<|ah n),(5,aj0 out),(6,.n .u64 c),(13,.i (ah m).length),(14,.i i)])
  (λi out c=>i<=(ah m).length/\ji out/\out.length=(ah m).length/\c<=1/\val out=val ((ah m).take i)-val ((ah n).take i)+c*(2^64)^i/\∀k,i<=k->out.getD k 0=0)
  (λi _ _=>(ah m).length-i) 0 (List.replicate (ah m).length 0) 0 ⟨abX _,gI _,I,E,by simp[val,jE],λk _=>jc _ _⟩
  ⟨G,G,⟨W,aj8 (aj0)<|by congr 1⟩,G,G,G,U⟩ ?_
 rintro i out c⟨hi,d,a,hc,s,o⟩;refine cv W W ?_ ?_<;>intro h;have w:i<(ah m).length:=E;have b:(i:Int).toNat=i:=E;let⟨x,f,r⟩:=nZ m i;let⟨y,p,q⟩:=nZ n i;have fin:(i+1<=(ah m).length/\ji (out.set i (((x+2^64-y-c)%2^64:Nat):Int))/\(out.set i (((x+2^64-y-c)%2^64:Nat):Int)).length=(ah m).length/\(if x<y+c then 1 else 0:Nat)<=1/\
  val (out.set i (((x+2^64-y-c)%2^64:Nat):Int))=val ((ah m).take<|i+1)-val ((ah n).take<|i+1)+((if x<y+c then 1 else 0:Nat):Int)*(2^64)^(i+1)/\∀k,i+1<=k->(out.set i (((x+2^64-y-c)%2^64:Nat):Int)).getD k 0=0):=by
  refine⟨E,fS d E,ci,g9,?_,λk B=>?_⟩;rw[mf _ E,o i<|abY _,aM,aM,f,p,agR];have A:(((x+2^64-y-c)%2^64:Nat):Int)=(x:Int)-y-c+2^64*((if x<y+c then 1 else 0:Nat):Int):=g9
  grind
  rw[dF,abl E];exact o k E
 refine cv W W ?_ ?_<;>intro z;refine r1 W (by simp only[aj,abu,b]<;>omega) ?_;refine cl W (by rw[b,f,p];rfl) (vX x y c hc) W ?_;refine r1 W (by simp only[aj,abu,b,a]<;>omega) ?_;exact again (i+1,out.set i (((x+2^64-y-c)%2^64:Nat):Int),(if x<y+c then 1 else 0:Nat)) (ac) fin ⟨G,G,⟨W,aj8 (aj0)<|by rw[b]⟩,G,G,G,U⟩;have e:y=0:=by grind
 subst e;refine r1 W (by simp only[aj,abu,b]<;>omega) ?_;refine cl W (by rw[b,f];rfl) (vX x 0 c hc) W ?_;refine r1 W (by simp only[aj,abu,b,a]<;>omega) ?_;exact again (i+1,out.set i (((x+2^64-0-c)%2^64:Nat):Int),(if x<0+c then 1 else 0:Nat)) (ac) fin ⟨G,G,⟨W,aj8 (aj0)<|by rw[b]⟩,G,G,G,U⟩;have:i=(ah m).length:=E;subst this;rw[ad2<|abY _,ad2 E,bF,bF]at s;have j:=jq d;have t:=bK d;rw[a]at j;have l:c=0:=by grind
 subst l;refine cu W W (dT out E) W<|cm W W<|aj8 (gw) ?_;rw[fk d]
 congr 1;omega
def wrm(n:Nat):IntKind.u64.wrap (n:Int)=((n%2^64:Nat):Int):=by show _%2^64=_;omega
def wr{n:Nat}(h:n<2^64):IntKind.u64.wrap (n:Int)=(n:Int):=by rw[wrm,ahr h]
def U4{a:Int}:IntKind.u64.wrap a=a%2^64:=W
def WN(y:Nat):IntKind.u64.wrap ((BitVec.ofInt IntKind.u64.bits (y:Int)&&&BitVec.ofInt IntKind.u64.bits 4294967295).toNat:Int)=((y%2^32:Nat):Int):=by
 rw[wrm]
 congr 1
 have a:(BitVec.ofNat 64 y&&&BitVec.ofNat 64 (2^32-1)).toNat=(y%2^64)&&&((2^32-1)%2^64):=I;rw[show((2:Nat)^32-1)%2^64=2^32-1 from W,Nat.and_two_pow_sub_one_eq_mod]at a;show(BitVec.ofNat 64 y&&&BitVec.ofNat 64 (2^32-1)).toNat%_=_;omega
def HJ(y:Nat):(y:Int).fdiv (2^min (Int.toNat 32) IntKind.u64.bits)=((y/2^32:Nat):Int):=by rw[ajU _ gC];rfl
def nU(x y:Nat)(c:x<18446744073709551616)(b:y<18446744073709551616):aS Tryz.prog 255 [.n .u64 x,.n .u64 y] (.de [.n .u64 (x*y/18446744073709551616:Nat),.n .u64 (x*y%18446744073709551616:Nat)]):=by
 refine cx Tryz.func255 W<|r1 W ?_ ?_
 ·simp only[aj];decide
 let⟨o,m,l,a⟩:=Go.Lib.mul64_hi x y c b;have d:x*y/2^64<2^64:=by rw[agX gC];exact Nat.mul_lt_mul'' c b
 rw[<-a]at d;refine aJ W ⟨aal (SV.n .u64) ?_,aal (SV.n .u64) ?_,U⟩
 ·have h:=wr (n:=x/4294967296*(y/4294967296)) E;have wB:=wr (n:=x/4294967296*(y%4294967296)) E;have g:=wr (n:=x%4294967296*(y/4294967296)) E;have f:=wr o;have e:=wr m;have k:=wr l;have j:=wr (n:=x/4294967296*(y/4294967296)+(x/4294967296*(y%4294967296)+x%4294967296*(y%4294967296)/4294967296)/4294967296) E;have i:=wr d;simp only[WN,HJ,<-ah0,<-ajf,h,wB,g,f,e,k,j,i];rw[a]
 rw[<-ah0,wrm]
def Z0{x y w c:Nat}(b:x<2^64)(a:y<2^64)(d:w<2^64)(hc:c<2^64):
 x*y/2^64+(x*y%2^64+w+0)/2^64<2^64/\
 x*y/2^64+(x*y%2^64+w+0)/2^64+((x*y%2^64+w+0)%2^64+c+0)/2^64<2^64/\
 ((x*y%2^64+w+0)%2^64+c+0)%2^64+2^64*(x*y/2^64+(x*y%2^64+w+0)/2^64+((x*y%2^64+w+0)%2^64+c+0)/2^64)=x*y+w+c:=by
 have e:x*y<=18446744073709551615*18446744073709551615:=agW E E;omega
def EL(m n:Nat)(S:(ah m).length<2^40)(R:(ah n).length<2^40):aS Tryz.prog 257 [.ints .u64 false<|ah m,.ints .u64 false<|ah n] (.ints .u64 false<|ah<|m*n):=by
 refine cx Tryz.func257 W<|r1 W bj<|lM (λ(i:Nat)(out:List Int)=>[(1,.ints .u64 false<|ah n),(5,.ints .u64 true out),(20,.ints .u64 false<|ah m),(21,.i (ah m).length),(22,.i i)])
  (λi out=>ji out/\out.length=(ah m).length+(ah n).length/\val out=val ((ah m).take i)*n/\i<=(ah m).length/\∀k,i+(ah n).length<=k->out.getD k 0=0)
  (λi _=>(ah m).length-i) 0 (List.replicate ((ah m).length+(ah n).length) 0) ⟨gI _,I,by simp[val,jE],E,λk _=>jc _ _⟩
  ⟨G,⟨W,aj8 (SV.ints .u64 true)<|by congr 1⟩,G,G,G,U⟩ ?_
 rintro i out⟨v,hl,u,hi,F⟩;refine cv W W ?_ ?_<;>intro h
 ·have J:i<(ah m).length:=E;have B:(i:Int).toNat=i:=E;let⟨x,t,e⟩:=nZ m i;refine r1 W (by simp only[aj,abu,B]<;>omega) ?_;rw[B,t];refine qQ (λ(k:Nat)(o:List Int)(c:Nat)=>[(1,.ints .u64 false<|ah n),(5,.ints .u64 true o),(6,.i i),(7,.n .u64 x),(8,.n .u64 c),(20,.ints .u64 false<|ah m),(21,.i (ah m).length),(22,.i i),(27,.ints .u64 false<|ah n),(28,.i (ah n).length),(29,.i k)])
   (λk o c=>ji o/\o.length=(ah m).length+(ah n).length/\c<2^64/\val o+c*(2^64)^(i+k)=val out+x*val ((ah n).take k)*(2^64)^i/\k<=(ah n).length/\∀b,i+k<=b->o.getD b 0=out.getD b 0)
   (λk _ _=>(ah n).length-k) 0 out 0 ⟨v,hl,E,by simp[val],E,λ_ _=>rfl⟩ ⟨G,G,G,G,G,G,G,G,G,G,G,U⟩ ?_
  rintro k o c⟨q,g,N,M,T,z⟩;refine cv W W ?_ ?_<;>intro K
  ·have f:k<(ah n).length:=E;have A:(k:Int).toNat=k:=E;have a:((i:Int)+(k:Int)).toNat=i+k:=E;let⟨y,s,d⟩:=nZ n k;obtain⟨w,j,l⟩:∃w:Nat,o.getD (i+k) 0=w/\w<2^64:=by
    have:=bB q<|i+k;exact⟨(o.getD (i+k) 0).toNat,E,E⟩
   let⟨D,r,P⟩:=Z0 e d l N;refine r1 W (by simp only[aj,abu,A]<;>omega) ?_;rw[A,s];refine b8 W (nU x y e d) W<|r1 W (by simp only[aj,abu,a,g]<;>omega) ?_;rw[a,j];refine b8 W (iz (x*y%18446744073709551616) w 0 gC) W<|r1 W bj<|b8 W (iz ((x*y%18446744073709551616+w+0)%2^64) c 0 gC) W<|r1 W (by simp only[aj,abu,a,g]<;>omega) ?_;rw[a];have O:IntKind.u64.wrap (IntKind.u64.wrap (((x*y/18446744073709551616:Nat):Int)+(((x*y%18446744073709551616+w+0)/18446744073709551616:Nat):Int))+((((x*y%18446744073709551616+w+0)%18446744073709551616+c+0)/18446744073709551616:Nat):Int))=
    ((x*y/18446744073709551616+(x*y%18446744073709551616+w+0)/18446744073709551616+((x*y%18446744073709551616+w+0)%18446744073709551616+c+0)/18446744073709551616:Nat):Int):=by
    rw[<-ajf,wr D,<-ajf,wr r]
   refine again (k+1,o.set (i+k) (((((x*y%18446744073709551616+w+0)%18446744073709551616+c+0)%18446744073709551616:Nat)):Int),x*y/18446744073709551616+(x*y%18446744073709551616+w+0)/18446744073709551616+((x*y%18446744073709551616+w+0)%18446744073709551616+c+0)/18446744073709551616)
    (ac) ⟨fS q E,eT,r,?_,ac,?_⟩ ⟨G,G,G,G,⟨W,aj8 (SV.n .u64) O⟩,G,G,G,G,G,G,U⟩
   ·dsimp only;have p:i+k<o.length:=E;rw[mf _ p,j,aM,s,show i+(k+1)=i+k+1 from E,agR,ahR]
    grind
   dsimp only;intro b f;rw[dF,abl E];exact z b E
  have H:k=(ah n).length:=E;subst H;rw[ad2<|abY _,bF]at M;have j:o.getD (i+(ah n).length) 0=0:=by grind
  have C:((i:Int)+((ah n).length:Int)).toNat=i+(ah n).length:=E;refine r1 W (by simp only[aj,abu,g,C]<;>omega) ?_;rw[C];refine aL (i+1,o.set (i+(ah n).length) c) ⟨fS q E,eT,?_,ac,?_⟩
  ·dsimp only;rw[mf _ E,j,aM,t]
   grind
  dsimp only;intro b f;rw[dF,abl E,z _ E];exact F _ E
 have:i=(ah m).length:=E;subst this;rw[ad2<|abY _,bF]at u;refine cu W W (dT out E) W<|cm W W<|aj8 (SV.ints .u64 false) ?_;rw[fk v,u]
 congr 1
structure Nm where
 s:Int
 w:Option Nat
def wS:Q Nat->SV
 |none=>.nil
 |some m=>gw<|ah m
def qA(a:Nm):SV:=.agg [.i a.s,wS a.w]
def nv(a:Nm):Int:=match a.w with|none=>a.s|some m=>a.s*m
def bz(a:Nm):Prop:=match a.w with
 |none=> -(2^63)<=a.s/\a.s<=9223372036854775807
 |some m=>(a.s=1\/a.s= -1)/\2^63<=m
def fY(a:Nm)(K:Nat):Prop:=(ah (nv a).natAbs).length<=K
def wrI(a:Int):IntKind.i64.wrap a=(a+2^63)%2^64-(2^63):=by
 have e:IntKind.i64.wrap a=if(true&&decide (a%2^64>=2^63))=true then a%2^64-(2^64)else a%2^64:=W
 grind
def xF(n:Int)(h: -(2^63)<=n/\n<=9223372036854775807):ab 256 [.i n] (.n .u64 n.natAbs):=by refine enter func256 W W W W<|cv W W ?_ ?_<;>intro a;refine kw [6] W W U<|aJ W<|aj8 (SV.n _) ?_;rw[U4,wrI];omega;refine cm W W<|aj8 (SV.n _) ?_;rw[U4];omega
def pq{f:Nat}(b:0<f)(a:f<2^64):ah f=[(f:Int)]:=j7 b a
def eM(a:Nm)(h:bz a):ab 248 [qA a] (.de [.u<|decide (a.s<0),gw<|ah (nv a).natAbs]):=by
 let⟨s,w⟩:=a;cases w with
 |none=>have h: -(2^63)<=s/\s<=(2^63-1):=h;refine cx func248 W<|cv W W ?_ ?_<;>intro b;have b:s=0:=b;subst b;refine cm W W ⟨W,dj,U⟩;have b:¬s=0:=b;refine ct W W (xF s h) W<|k0 W aP<|OZ W ⟨W,aal (gw) ?_,U⟩;exact(pq (f:=s.natAbs) E E).symm
 |some m=>
  obtain⟨hs,hm⟩:(s=1\/s= -1)/\2^63<=m:=h;have c:ah m≠[]:=by intro e;have:=bF m;rw[e]at this;simp[val]at this;omega
  have hn:(nv ⟨s,some m⟩).natAbs=m:=by
   show(s*(m:Int)).natAbs=m
   grind
  rw[hn];refine cx func248 W<|k1 W aP (by simp[aj,abu];exact c) ?_;exact bY W
def uB(neg:Bool)(m:Nat):Nm:=if m<=9223372036854775807 then⟨if neg then -(m:Int)else m,none⟩else⟨if neg then -1 else 1,some m⟩
def oQ(neg:Bool)(m:Nat):nv (uB neg m)=if neg then -(m:Int)else m:=by
 unfold uB nv
 grind
def rk(neg:Bool)(m:Nat):bz (uB neg m):=by
 unfold uB bz
 grind
def gJ{m:Nat}(h:m<2^64):(ah m).length<=1:=by rcases af8 m with g|g;subst g;simp[dj];rw[pq g h];simp
def lk(neg:Bool)(m:Nat)(hl:(ah m).length<2^40):ab 249 [.u neg,gw<|ah m] (qA<|uB neg m):=by
 have a:Int.toNat 0=0:=W;have one:(ah m).length=1->0<m/\m<2^64/\(ah m).getD 0 0=m:=by
  intro h;have k:=bT m;rw[h]at k;have i:0<m:=by rcases af8 m with g|g;subst g;rw[dj]at h;cases h;exact g
  have c:m<2^64:=E;exact⟨i,c,by rw[pq i c];rfl⟩
 refine cx func249 W<|cv W W ?_ ?_<;>intro k;have hm:m=0:=by rcases af8 m with g|g;exact g;have:=gU (n:=m) E;omega
 subst hm;refine cm W W ?_;unfold uB;rw[abx gC];cases neg<;>exact⟨W,U,U⟩;refine ck W 14 W ?_ ?_<;>intro i;let⟨o,l,o3⟩:=one E;refine r1 W (pu) ?_;rw[a,o3];refine aI 20 W ?_ ?_<;>intro c;have c:(m:Int)<=(2^63-1):=c;refine r0 W<|qq W W W ?_ ?_<;>intro f;have f:neg=true:=f;subst f;refine kw [27] W W (by simp only[aj,abu,a]<;>omega) ?_;rw[a,o3];refine aJ W ?_;unfold uB;rw[abx E];refine⟨aal SV.i ?_,U,U⟩;rw[wrI]
 grind
 have f:neg=false:=f;subst f;refine ck W 33 W (λe=>?_) λe=>abK i e;refine r1 W (pu) ?_;rw[a,o3];refine cg W (λj=>?_) λj=>abK c j;refine r1 W (by simp only[aj,abu,a]<;>omega) ?_;rw[a,o3];refine aJ W ?_;unfold uB;rw[abx E];refine⟨aal SV.i ?_,U,U⟩;rfl;have c:¬(m:Int)<=(2^63-1):=c;refine ck W 33 W (λe=>?_) λe=>abK i e;refine r1 W (pu) ?_;rw[a,o3];refine cg W (λj=>abK j c) λj=>?_;refine r0 W<|qq W W W ?_ ?_<;>intro b;have b:neg=true:=b;subst b;refine cm W W<|aB.of_eq<|by unfold uB;rw[abl E];rfl
 have b:neg=false:=b;subst b;refine cm W W<|aB.of_eq<|by unfold uB;rw[abl E];rfl
 have d:¬m<=(2^63-1):=by intro g;have:=gJ (m:=m) E;omega
 refine ck W 33 W (λe=>abK e i) λe=>?_;refine r0 W<|qq W W W ?_ ?_<;>intro b;have b:neg=true:=b;subst b;refine cm W W<|aB.of_eq<|by unfold uB;rw[abl d];rfl
 have b:neg=false:=b;subst b;refine cm W W<|aB.of_eq<|by unfold uB;rw[abl d];rfl
def xG(a:Nm)(h:bz a):ab 213 [qA a] (.i (nv a).sign):=by
 let⟨s,w⟩:=a;cases w with
 |none=>
  refine enter func213 W W W W<|cm W W<|cw ?_;show max (-1) (min 1 s)=s.sign
  grind
 |some m=>
  let⟨hs,hm⟩:=h;refine enter func213 W W W W<|cm W W<|cw ?_;show max (-1) (min 1 s)=(s*(m:Int)).sign
  grind
def kp(a:Nm)(h:bz a):(a.s<0↔nv a<0)/\(a.w=none->nv a=a.s):=by
 let⟨s,w⟩:=a;cases w with
 |none=>exact⟨Iff.rfl,λ_=>rfl⟩
 |some m=>
  let⟨hs,hm⟩:=h;refine⟨?_,λg=>by grind⟩;show s<0↔s*(m:Int)<0
  grind
def oX(n:Nat)(h:0<n):ah n≠[]:=by
 have:=gU (n:=n) E
 grind
def kq(a:Nm):Nm:=if a.w=none/\a.s≠ -(2^63)then⟨-a.s,none⟩else uB (!decide (a.s<0)) (nv a).natAbs
def dZ(a:Nm)(h:bz a):nv (kq a)= -nv a/\bz (kq a):=by
 have b:=kp a h;unfold kq;split;rename_i g;let⟨s,w⟩:=a;obtain⟨rfl,g2⟩:w=none/\s≠ -(2^63):=g;have h: -(2^63)<=s/\s<=(2^63-1):=h;exact⟨W,show -(2^63)<= -s/\ -s<=(2^63-1) from E⟩;refine⟨?_,rk _ _⟩;rw[oQ]
 grind
def rV(a:Nm)(h:bz a){K:Nat}(hl:fY a K)(f:K<2^40):ab 253 [qA a] (qA<|kq a):=by
 have d:=eM a h;unfold fY at hl;let⟨s,w⟩:=a;cases w with
 |none=>have h: -(2^63)<=s/\s<=(2^63-1):=h;refine cx func253 W<|cv W W ?_ ?_<;>intro b;have b:s≠ -(2^63):=b;refine r1 W bg<|aJ W ?_;unfold kq;rw[abx ⟨W,b⟩];exact⟨aal SV.i<|by show 0-s= -s;omega,U,U⟩;have b:¬s≠ -(2^63):=b;refine cu W W d W<|cu W W (lk (!decide (s<0)) (nv ⟨s,none⟩).natAbs E) W ?_;unfold kq;rw[abl λg=>b g.2];generalize uB (!decide ((⟨s,none⟩:Nm).s<0)) (nv ⟨s,none⟩).natAbs=r;let⟨e,c⟩:=r;cases c<;>exact r0 W (bY W)
 |some m=>obtain⟨hs,hm⟩:(s=1\/s= -1)/\2^63<=m:=h;refine cx func253 W<|r1 W (by simp[aj,abu];exact oX m E) ?_;refine b8 W d W<|cu W W (lk (!decide (s<0)) (nv ⟨s,some m⟩).natAbs E) W ?_;unfold kq;rw[abl λg=>by simp at g];generalize uB (!decide ((⟨s,some m⟩:Nm).s<0)) (nv ⟨s,some m⟩).natAbs=r;let⟨e,c⟩:=r;cases c<;>exact cq W W
def GD(a:Nm):Nm:=if a.s<0 then kq a else a
def pA(a:Nm)(h:bz a):nv (GD a)=(nv a).natAbs/\bz (GD a):=by
 have b:=kp a h;unfold GD;split;let⟨d,c⟩:=dZ a h
 grind
 grind
def QC(a:Nm)(h:bz a){K:Nat}(hl:fY a K)(e:K<2^40):ab 281 [qA a] (qA<|GD a):=by
 have hn:=rV a h hl e;unfold GD;let⟨s,w⟩:=a;cases w with
 |none=>refine cx func281 W<|cv W W ?_ ?_<;>intro b;rw[abx b];refine cu W W hn W ?_;generalize kq ⟨s,none⟩=r;let⟨d,c⟩:=r;cases c<;>exact cq W W;have b:=b;rw[abl b];exact r0 W (bY W)
 |some m=>refine cx func281 W<|cv W W ?_ ?_<;>intro b;have b:=b;rw[abx b];refine cu W W hn W ?_;generalize kq ⟨s,some m⟩=r;let⟨d,c⟩:=r;cases c<;>exact cq W W;rw[abl b];exact cq W W
def Yo(a:Bool)(A:Nat)(b:Bool)(B:Nat):Nm:=if a=b then uB a (A+B)else if B<=A then uB a (A-B)else uB b (B-A)
def BS(x y:Int):Bool:=decide (x<IntKind.i64.wrap (x+y))==decide (0<y)
def vR(a b:Nm):Nm:=if a.w=none/\b.w=none/\BS a.s b.s=true then⟨IntKind.i64.wrap<|a.s+b.s,none⟩else Yo (decide (a.s<0)) (nv a).natAbs (decide (b.s<0)) (nv b).natAbs
def QA{x y:Int}(b: -(2^63)<=x/\x<=9223372036854775807)(a: -(2^63)<=y/\y<=9223372036854775807)(h:BS x y=true):IntKind.i64.wrap (x+y)=x+y:=by unfold BS at h;rw[beq_iff_eq,decide_eq_decide]at h;rw[wrI]at*;omega
def lV(a b:Nm)(d:bz a)(c:bz b):nv (vR a b)=nv a+nv b/\bz (vR a b):=by
 have h:=kp a d;have f:=kp b c;unfold vR;split;rename_i g;let⟨s,w⟩:=a;let⟨t,v⟩:=b;obtain⟨rfl,rfl,e⟩:=g;have:=QA d c e;refine⟨this,?_⟩;show -(2^63)<=IntKind.i64.wrap _/\IntKind.i64.wrap _<=(2^63-1);rw[wrI];omega;unfold Yo;split;refine⟨?_,rk _ _⟩;rw[oQ]
 grind
 rename_i g;split;refine⟨?_,rk _ _⟩;rw[oQ]
 grind
 refine⟨?_,rk _ _⟩;rw[oQ]
 grind
def Ym(a b:Nm)(x:bz a)(q:bz b){K:Nat}(l:fY a K)(k:fY b K)(y:K<2^39):
 AK R0 prog Tryz.f174.ntmps (Yx prog Tryz.f174.results.toList<|qA<|Yo (decide (a.s<0)) (nv a).natAbs (decide (b.s<0)) (nv b).natAbs) [.code (pC 2 (Tryz.f174.body.getD .skip)).2]
  (sl [(2,.box true<|qA a),(3,.box true<|qA b),(4,.box true<|.agg [.i 0,.nil])]):=by
 have p:=eM a x;have o:=eM b q;unfold fY at l k;generalize (nv a).natAbs=A at*;generalize (nv b).natAbs=B at*;have u:=pY l k;refine cU 2 [(4,.box true<|.agg [.i 0,.nil]),(6,.u<|decide (a.s<0)),(7,gw<|ah A),(8,.u<|decide (b.s<0)),(9,gw<|ah B)] True ?_ λ_=>?_
 ·let⟨s,w⟩:=a;let⟨t,v⟩:=b;cases w<;>cases v
  all_goals
   refine cu W W p W<|cu W W o W<|r0 W<|bo U
 generalize decide (a.s<0)=e;generalize decide (b.s<0)=g;refine r0 W<|qq W W W ?_ ?_<;>intro d;have d:e=g:=b5
 unfold Yo;rw[abx d];refine cu W W (GC A B E E) W<|cu W W (lk e (A+B) E) W ?_;generalize uB e (A+B)=r;let⟨j,f⟩:=r;cases f<;>exact cq W W;have d:¬e=g:=b5
 unfold Yo;rw[abl d];refine cu W W (qm A B E E) W<|cv W W ?_ ?_<;>intro c;have c:0<=qn A B:=c;have h:B<=A:=by unfold qn at c;split at c<;>omega
 rw[abx h];have:=length_le (m:=A-B) (n:=A) E;refine cu W W (uF A B E h) W<|cu W W (lk e (A-B) E) W ?_;generalize uB e (A-B)=r;let⟨j,f⟩:=r;cases f<;>exact cq W W;have c:¬0<=qn A B:=c;have h:¬B<=A:=by unfold qn at c;omega
 rw[abl h];have:=length_le (m:=B-A) (n:=B) E;refine cu W W (uF B A E E) W<|cu W W (lk g (B-A) E) W ?_;generalize uB g (B-A)=r;let⟨j,f⟩:=r;cases f<;>exact cq W W
def GB(a b:Nm)(f:bz a)(i:bz b){K:Nat}(l:fY a K)(j:fY b K)(o:K<2^39):ab 174 [qA a,qA b] (qA<|vR a b):=by
 have e:=Ym a b f i l j o;have c:∀(x:Nm)(s:Int)(m:Nat),x=⟨s,some m⟩->bz x->ah m≠[]:=zaM
 unfold vR;refine cx func174 W ?_;let⟨s,w⟩:=a;let⟨t,v⟩:=b;cases w with
 |none=>
  cases v with
  |none=>by_cases g:BS s t=true;rw[abx ⟨W,W,g⟩];refine kw [22] W W U<|qq W W W ?_ ?_<;>intro d;refine cq W W;exact abK g (by rw[show BS s t=false from d];simp);rw[abl λk=>g k.2.2];refine cU 2 [(2,.box true<|qA ⟨s,none⟩),(3,.box true<|qA ⟨t,none⟩),(4,.box true<|.agg [.i 0,.nil])] True ?_ λ_=>e;refine kw [22] W W U<|qq W W W ?_ ?_<;>intro d;exact abK (show BS s t=true from d) g;refine r0 W<|bo U
  |some n=>rw[abl λk=>by simp at k];refine cU 2 [(2,.box true<|qA ⟨s,none⟩),(3,.box true<|qA ⟨t,some n⟩),(4,.box true<|.agg [.i 0,.nil])] True ?_ λ_=>e;refine r1 W (by simp[aj,abu];exact c _ _ _ W i) ?_;exact bo U
 |some m=>
  cases v with
  |none=>rw[abl λk=>by simp at k];refine cU 2 [(2,.box true<|qA ⟨s,some m⟩),(3,.box true<|qA ⟨t,none⟩),(4,.box true<|.agg [.i 0,.nil])] True ?_ λ_=>e;exact r1 W (n6)<|bo U
  |some n=>rw[abl λk=>by simp at k];refine cU 2 [(2,.box true<|qA ⟨s,some m⟩),(3,.box true<|qA ⟨t,some n⟩),(4,.box true<|.agg [.i 0,.nil])] True ?_ λ_=>e;exact r1 W (n6)<|bo U
section
variable{x y:Int}{K L:Nat}{a b:Nm}
def oP(h:bz a)(hl:fY a K):fY (kq a) K:=by unfold fY at *;rwa[(dZ a h).1,Int.natAbs_neg]
def KW(f:bz a)(e:bz b)(d:fY a K)(c:fY b K):fY (vR a b) (K+1):=by unfold fY at *;rw[(lV a b f e).1];exact ab7 (length_le<|Int.natAbs_add_le _ _)<|pY d c
def Lm(a b:Nm):Nm:=vR a<|kq b
def AZ(a b:Nm)(d:bz a)(c:bz b):nv (Lm a b)=nv a-nv b/\bz (Lm a b):=by let⟨h,f⟩:=dZ b c;let⟨g,e⟩:=lV a _ d f;exact⟨by unfold Lm;omega,e⟩
def OG(a b:Nm)(j:bz a)(e:bz b)(i:fY a K)(f:fY b K)(k:K<2^39):ab 287 [qA a,qA b] (qA<|Lm a b):=by
 have hn:=rV b e f E;have hs:=GB a (kq b) j (dZ b e).2 i (oP e f) k;unfold Lm;generalize kq b=c at*;generalize vR a c=r at*;refine cx func287 W ?_;let⟨s,w⟩:=a;let⟨t,v⟩:=b;let⟨l,g⟩:=c;let⟨h,d⟩:=r;cases w<;>cases v<;>cases g<;>cases d
 all_goals
  refine ct W W hn W<|b9 W hs W<|k0 W aP<|bY W
def xS(x y:Int):Prop:=x.natAbs*y.natAbs/2^64=0/\x.natAbs*y.natAbs%2^64<=9223372036854775807
instance(x y:Int):Decidable (xS x y):=by unfold xS;infer_instance
def lj(a b:Nm):Nm:=if a.w=none/\b.w=none/\xS a.s b.s then⟨a.s*b.s,none⟩else uB (decide (a.s<0)!=decide (b.s<0)) ((nv a).natAbs*(nv b).natAbs)
def EM(h:xS x y):x.natAbs*y.natAbs<=9223372036854775807:=by let⟨d,c⟩:=h;omega
def sign_mul:x*y=if decide (x<0)!=decide (y<0)then -((x.natAbs*y.natAbs:Nat):Int)else((x.natAbs*y.natAbs:Nat):Int):=by grind
def dw(a b:Nm)(d:bz a)(c:bz b):nv (lj a b)=nv a*nv b/\bz (lj a b):=by have h:=kp a d;have f:=kp b c;unfold lj;split;rename_i g;let⟨s,w⟩:=a;let⟨t,v⟩:=b;obtain⟨rfl,rfl,e⟩:w=none/\v=none/\xS s t:=g;have:=EM e;refine⟨W,?_⟩;show -(2^63)<=s*t/\s*t<=(2^63-1);rw[sign_mul];split<;>omega;refine⟨?_,rk _ _⟩;rw[oQ];grind
def ig(f:bz a)(e:bz b)(d:fY a K)(c:fY b L):fY (lj a b) (K+L):=by unfold fY at *;rw[(dw a b f e).1,age];exact ab7 (eW _ _)<|ajB d c
def aa0(x y:Bool):(decide ¬x=y)=(x !=y):=by grind
def WA(a b:Nm)(m:bz a)(k:bz b)(j:fY a K)(h:fY b L)(o:K+L<2^39):
 AK R0 prog Tryz.f181.ntmps (Yx prog Tryz.f181.results.toList<|qA<|uB (decide (a.s<0)!=decide (b.s<0))<|(nv a).natAbs*(nv b).natAbs) [.code (pC 2 (Tryz.f181.body.getD .skip)).2]
  (sl [(2,.box true<|qA a),(3,.box true<|qA b),(4,.box true<|.agg [.i 0,.nil])]):=by
 have g:=eM a m;have f:=eM b k;unfold fY at j h;generalize (nv a).natAbs=A at*;generalize (nv b).natAbs=B at*;have l:=eW A B;refine cU 2 [(4,.box true<|.agg [.i 0,.nil]),(7,.u<|decide (a.s<0)),(8,gw<|ah A),(9,.u<|decide (b.s<0)),(10,gw<|ah B)] True ?_ λ_=>?_
 ·let⟨s,w⟩:=a;let⟨t,v⟩:=b;cases w<;>cases v
  all_goals
   refine cu W W g W<|cu W W f W<|r0 W<|bo U
 generalize decide (a.s<0)=d;generalize decide (b.s<0)=c;refine cu W W (EL A B E E) W<|cl W (by rw[aa0];rfl) (lk (d !=c) (A*B) E) W ?_;generalize uB (d !=c) (A*B)=r;let⟨n,e⟩:=r;cases e<;>exact cq W W
def Pt(a b:Nm)(d:bz a)(f:bz b)(u:fY a K)(r:fY b L)(z:K+L<2^39):ab 181 [qA a,qA b] (qA<|lj a b):=by
 have o:=WA a b d f u r z;have c:∀(x:Nm)(s:Int)(m:Nat),x=⟨s,some m⟩->bz x->ah m≠[]:=zaM
 unfold lj;refine cx func181 W ?_;let⟨s,w⟩:=a;let⟨t,v⟩:=b;cases w with
 |none=>
  cases v with
  |none=>
   have d: -(2^63)<=s/\s<=(2^63-1):=d;have f: -(2^63)<=t/\t<=(2^63-1):=f;have q:=nU s.natAbs t.natAbs E E;refine cU 2 [(2,.box true<|qA ⟨s,none⟩),(3,.box true<|qA ⟨t,none⟩),(4,.box true<|.agg [.i 0,.nil])] (¬xS s t) ?_ λg=>?_;refine ct W W (xF s d) W<|ct W W (xF t f) W<|ct W W q W<|k0 W aP<|aI 31 W ?_ ?_<;>intro l;have l:((s.natAbs*t.natAbs/2^64:Nat):Int)=0:=l;refine cv W W ?_ ?_<;>intro j;have j:((s.natAbs*t.natAbs%2^64:Nat):Int)<=(2^63-1):=j;have p:xS s t:=⟨E,E⟩;have A:=EM p;rw[abx ⟨W,W,p⟩];have e:=sign_mul (x:=s) (y:=t);refine r0 W<|qq W W W ?_ ?_<;>intro i;have i:(decide (s<0)!=decide (t<0))=true:=gn;rw[i,abx W]at e;refine r1 W bg<|aJ W ⟨aal SV.i ?_,U,U⟩
   grind
   have i:(decide (s<0)!=decide (t<0))=false:=gn;rw[i,abl I]at e;refine r1 W bg<|aJ W ⟨aal SV.i ?_,U,U⟩
   grind
   have j:¬((s.natAbs*t.natAbs%2^64:Nat):Int)<=(2^63-1):=j;refine r0 W<|bo (λg=>by have:=g.2;omega);have l:¬((s.natAbs*t.natAbs/2^64:Nat):Int)=0:=l;refine r0 W<|bo (λg=>by have:=g.1;omega);rw[abl λk=>g k.2.2];exact o
  |some n=>rw[abl λk=>by simp at k];refine cU 2 [(2,.box true<|qA ⟨s,none⟩),(3,.box true<|qA ⟨t,some n⟩),(4,.box true<|.agg [.i 0,.nil])] True ?_ λ_=>o;exact r1 W (n6)<|bo U
 |some m=>
  cases v with
  |none=>rw[abl λk=>by simp at k];refine cU 2 [(2,.box true<|qA ⟨s,some m⟩),(3,.box true<|qA ⟨t,none⟩),(4,.box true<|.agg [.i 0,.nil])] True ?_ λ_=>o;refine r1 W (by simp[aj,abu];exact c _ _ _ W d) ?_;exact bo U
  |some n=>rw[abl λk=>by simp at k];refine cU 2 [(2,.box true<|qA ⟨s,some m⟩),(3,.box true<|qA ⟨t,some n⟩),(4,.box true<|.agg [.i 0,.nil])] True ?_ λ_=>o;refine r1 W (by simp[aj,abu];exact c _ _ _ W d) ?_;exact bo U
end
section
variable{f:FuncId}{K:Nat}{a r:Nm}
def ws(a:Nm):L Int:=match a.w with
 |none=>[]
 |some m=>ah m
def eN(a:Nm):SV:=.agg [.i a.s,.gh .u64<|ws a]
def xt(h:bz a):ws a=[]↔a.w=none:=by
 let⟨s,w⟩:=a;cases w with
 |none=>exact⟨λ_=>rfl,λ_=>rfl⟩
 |some m=>have:=h.2;exact⟨λg=>abK g<|oX m E,λg=>by grind⟩
def tT(h:bz a):(qA a).den=(eN a).den:=by
 let⟨s,w⟩:=a;cases w with
 |none=>rfl
 |some m=>
  have hm:=h.2;have b:=oX m E;show AV.agg [AV.v _,.list _ 1 _]=AV.agg [AV.v _,.list (flm<|ah m) (szm<|ah m)<|(ah m).map λa=>.v _];cases d:ah m with
  |nil=>grind
  |cons x c=>rfl
def eN1(c:bz a)(b:bz r)(h:ab f [qA a] (qA r)):ab f [eN a] (eN r):=h.same (by simp[aE,tT c])<|tT b
def eN2{b:Nm}(e:bz a)(d:bz b)(c:bz r)(h:ab f [qA a,qA b] (qA r)):ab f [eN a,eN b] (eN r):=h.same (by simp[aE,tT e,tT d])<|tT c
def JR(a:Nm)(h:bz a):ab 248 [eN a] (.de [.u<|decide (a.s<0),gw<|ah (nv a).natAbs]):=(eM a h).same (by simp[aE,tT h]) W
def A2(a:Nm)(h:bz a):ab 213 [eN a] (.i (nv a).sign):=(xG a h).same (by simp[aE,tT h]) W
def Ic(a:Nm)(h:bz a)(hl:fY a K)(b:K<2^40):ab 253 [eN a] (eN<|kq a):=eN1 h (dZ a h).2<|rV a h hl b
def abV(a:Nm)(h:bz a)(hl:fY a K)(b:K<2^40):ab 281 [eN a] (eN<|GD a):=eN1 h (pA a h).2<|QC a h hl b
def Od(a b:Nm)(d:bz a)(c:bz b)(g:fY a K)(e:fY b K)(h:K<2^39):ab 174 [eN a,eN b] (eN<|vR a b):=eN2 d c (lV a b d c).2<|GB a b d c g e h
def abf(a b:Nm)(d:bz a)(c:bz b)(g:fY a K)(e:fY b K)(h:K<2^39):ab 287 [eN a,eN b] (eN<|Lm a b):=eN2 d c (AZ a b d c).2<|OG a b d c g e h
def uh(a b:Nm)(d:bz a)(c:bz b){L:Nat}(g:fY a K)(e:fY b L)(h:K+L<2^39):ab 181 [eN a,eN b] (eN<|lj a b):=eN2 d c (dw a b d c).2<|Pt a b d c g e h
def WQ(neg:Bool)(m:Nat)(hl:(ah m).length<2^40):ab 249 [.u neg,gw<|ah m] (eN<|uB neg m):=(lk _ m hl).same W<|tT<|rk _ _
def EF(n:Int):ab 173 [.i n] (eN ⟨n,none⟩):=by refine enter func173 W W W W<|cm W W<|⟨W,W,U⟩
def Zf(a:Nm):ab 219 [eN a] (.de [.i a.s,.u<|decide (ws a=[])]):=enter func219 W W W W<|k0 W aP<|bY W
def XS(a b:Nm)(g:bz a)(e:bz b)(o:fY a K)(n:fY b K)(p:K<2^39):ab 222 [eN a,eN b] (.i (nv a-nv b).sign):=by
 let⟨t,s⟩:=AZ a b g e;have h:=A2 (Lm a b) s;rw[t]at h;refine cx func222 W<|cU 2 [(2,.box true<|eN a),(3,.box true<|eN b)] True ?_ λ_=>?_;refine ck W 8 W ?_ ?_<;>intro g1;refine cv W W ?_ ?_<;>intro g2;have v:=(kp a g).2<|(xt g).1 g1;have u:=(kp b e).2<|(xt e).1 g2;refine cv W W ?_ ?_<;>intro d;have d:a.s<b.s:=d;refine cm W W<|aj8 SV.i<|by grind
 have d:¬a.s<b.s:=d;refine cv W W ?_ ?_<;>intro c;have c:b.s<a.s:=c;refine cm W W<|aj8 SV.i<|by grind
 have c:¬b.s<a.s:=c;refine cm W W<|aj8 SV.i<|by grind
 refine r0 W<|bo U;refine r0 W<|bo U;refine cu W W (abf a b g e o n p) W<|cu W W h W<|cq W W
end
def E9{x:Int}{K:Nat}(h:(ah x.natAbs).length<=K):∀n,(ah (x^n).natAbs).length<=K*n+1
 |0=>by have:=gJ (m:=1) gC;grind
 |n+1=>by rw[agR,age,Nat.mul_succ];have:=E9 h n;have:=eW (x^n).natAbs x.natAbs;omega
def qO:Nat->Nm->Nm->Nat->Nm
 |0,out,_,_=>out
 |f+1,out,a,k=>if k=0 then out else qO f (if k%2=1 then lj out a else out) (if 1<k then lj a a else a) (k/2)
def uT(a:Nm)(k:Nat):Nm:=qO k ⟨1,none⟩ a k
def EE:bz ⟨1,none⟩:=show _<=1/\(1:Int)<=9223372036854775807 from gC
def tg(f:Nat)(out a:Nm):qO f out a 0=out:=by cases f<;>rfl
def Ev:∀(f g:Nat)(out a:Nm)(k:Nat),k<=f->k<=g->qO f out a k=qO g out a k
 |0,g,out,a,k,h,_=>by have:k=0:=E;subst this;rw[tg,tg]
 |f+1,0,out,a,k,_,h=>by have:k=0:=E;subst this;rfl
 |f+1,g+1,out,a,k,c,b=>by rw[qO,qO];split;rfl;exact Ev f g _ _ _ E E
def ag9(k:Nat)(h:k<2^63):IntKind.i64.wrap ((BitVec.ofInt IntKind.i64.bits (k:Int)&&&BitVec.ofInt IntKind.i64.bits 1).toNat:Int)=((k%2:Nat):Int):=by have e:BitVec.ofInt IntKind.i64.bits 1=BitVec.ofNat 64 (2^1-1):=W;rw[e,wrI];have a:(BitVec.ofNat 64 k&&&BitVec.ofNat 64 (2^1-1)).toNat=(k%2^64)&&&((2^1-1)%2^64):=I;rw[show((2:Nat)^1-1)%2^64=2^1-1 from W,Nat.and_two_pow_sub_one_eq_mod]at a;show(((BitVec.ofNat 64 k&&&BitVec.ofNat 64 _).toNat:Int)+_)%_-_=_;omega
def agr(k:Nat):(k:Int).fdiv (2^min (Int.toNat 1) IntKind.i64.bits)=((k/2:Nat):Int):=by rw[ajU _ gC];rfl
def HZ(a:Nm)(n:Nat)(C:bz a){K:Nat}(r:fY a K)(hn:n<2^40)(N:2*(K*(2*n)+1)<2^39):ab 178 [eN a,.i n] (eN<|uT a n):=by
 refine cx func178 W<|cu W W (EF 1) W<|r0 W<|qQ (λ(k:Nat)(out b:Nm)=>[(1,.i k),(2,.box true<|eN b),(4,.box true<|.agg [.i 0,.nil]),(5,.box true<|eN out)])
  (λk out b=>k<=n/\bz out/\bz b/\uT a n=qO k out b k/\(k=0\/∃d e,d<=n/\e<=n/\e+d*k=n/\nv b=nv a^d/\nv out=nv a^e)) (λk _ _=>k) n ⟨1,none⟩ a ⟨abY _,EE,C,W,?_⟩
  ⟨G,G,G,G,U⟩ ?_
 rcases af8 n with g|g;exact .inl g;exact .inr ⟨1,0,E,E,E,by grind,by rw[Int.pow_zero];rfl⟩;rintro k out b⟨M,s,l,p,A⟩;refine cv W W ?_ ?_<;>intro D;have O:0<k:=E;let⟨d,e,T,S,R,u,H⟩:=A.resolve_left E;have j:uT a n=qO (k/2) (if k%2=1 then lj out b else out) (if 1<k then lj b b else b) (k/2):=by
  rw[p];obtain⟨f,rfl⟩:∃f,k=f+1:=⟨k-1,E⟩
  conv=>lhs;rw[qO,abl E]
  exact Ev _ _ _ _ _ E<|abY _
 have o:fY b (K*(2*n)+1):=by unfold fY at *;rw[u];exact ab7 (E9 r d)<|ahG (ae6 _ E) 1
 have lo:fY out (K*(2*n)+1):=by unfold fY at *;rw[H];exact ab7 (E9 r e)<|ahG (ae6 _ E) 1
 let⟨m1,J⟩:=dw out b s l;let⟨w,v⟩:=dw b b l l;have z:k=2*(k/2)+k%2:=E;have y:d*k=2*d*(k/2)+d*(k%2):=by grind
 have F:=ag9 k E;have m:bz (if k%2=1 then lj out b else out):=kk
 have B:bz (if 1<k then lj b b else b):=kk
 refine rn 3 W<|cU 1 [(1,.i k),(2,.box true<|eN b),(4,.box true<|.agg [.i 0,.nil]),(5,.box true<|eN<|if k%2=1 then lj out b else out)] True ?_ λ_=>?_;refine r0 W ?_;rw[F];refine cg W ?_ ?_<;>intro h;have h:k%2=1:=E;rw[abx h];refine cu W W (uh out b s l lo o E) W<|r0 W<|bo U;have h:¬k%2=1:=E;rw[abl h];refine r0 W<|bo U;have q:nv (if k%2=1 then lj out b else out)=nv a^(e+d*(k%2)):=by grind
 generalize (if k%2=1 then lj out b else out)=c at*;have t:=agr k;have fin:bz (if 1<k then lj b b else b)->(k/2<=n/\bz c/\bz (if 1<k then lj b b else b)/\uT a n=qO (k/2) c (if 1<k then lj b b else b) (k/2)/\(k/2=0\/∃d e,d<=n/\e<=n/\e+d*(k/2)=n/\nv (if 1<k then lj b b else b)=nv a^d/\nv c=nv a^e)):=by
  intro x;refine⟨E,m,x,j,?_⟩;rcases af8 (k/2)with g|g;exact .inl g;have g1:1<k:=E;have g2:2*d<=2*d*(k/2):=ajF _ g;have P:d*(k%2)<=d*k:=ae6 _ E;refine .inr ⟨2*d,e+d*(k%2),E,E,E,?_,q⟩;rw[abx g1,w,u,<-ahR]
  congr 1;omega
 refine cv W W ?_ ?_<;>intro h;have h:1<k:=E;rw[abx h]at fin;refine cu W W (uh b b l l o o E) W<|r1 W bg<|again (k/2,c,lj b b) (ac) (fin v) ⟨⟨W,aj8 SV.i t⟩,G,G,G,U⟩;have h:¬1<k:=E;rw[abl h]at fin;refine r1 W bg<|again (k/2,c,b) (ac) (fin l) ⟨⟨W,aj8 SV.i t⟩,G,G,G,U⟩;have:k=0:=E;subst this;rw[tg]at p;refine cm W W<|aj8 eN p.symm
def Eu:∀(f k:Nat)(out a:Nm),k<=f->bz out->bz a->nv (qO f out a k)=nv out*nv a^k/\bz (qO f out a k)
 |0,k,out,a,h,c,_=>by have:k=0:=E;subst this;exact⟨by rw[tg,Int.pow_zero,Int.mul_one],c⟩
 |f+1,k,out,a,h,c,e=>by
  rw[qO];split;simp_all;let⟨m1,p⟩:=dw out a c e;let⟨i,o⟩:=dw a a e e;have b:bz (if k%2=1 then lj out a else out):=kk
  have d:bz (if 1<k then lj a a else a):=kk
  let⟨n,m⟩:=Eu f (k/2) _ _ E b d;refine⟨?_,m⟩;rw[n];have l:nv (if k%2=1 then lj out a else out)=nv out*nv a^(k%2):=by split;rename_i g;rw[m1,g,agR,Int.pow_zero,Int.one_mul];simp_all
  have j:nv (if 1<k then lj a a else a)^(k/2)=nv a^(2*(k/2)):=by
   split;rw[Int.pow_mul];grind
   grind
  rw[l,j,Int.mul_assoc,<-ahR]
  congr 2;omega
def nf(a:Nm)(n:Nat)(b:bz a):nv (uT a n)=nv a^n/\bz (uT a n):=by let⟨d,c⟩:=Eu n n ⟨1,none⟩ a .refl EE b;exact⟨by unfold uT;rw[d];show 1*_=_;rw[Int.one_mul],c⟩
def bl(x:Nat):Nat:=if x=0 then 0 else Nat.log2 x+1
def Ja(x:Nat):x<2^bl x:=by unfold bl;split;omega;rename_i h;exact(Nat.log2_lt h).1<|aip _
def AG{x:Nat}(h:x≠0):2^(bl x-1)<=x:=by unfold bl;rw[abl h];exact(Nat.le_log2 h).1 .refl
def abR{x n:Nat}(e:x<2^(n+1))(d:2^n<=x):bl x=n+1:=by have c:x≠0:=E;unfold bl;rw[abl c];have a:=(Nat.log2_lt c).2 e;have b:=(Nat.le_log2 c).2 d;omega
def BP{x:Nat}(h:x≠0):0<bl x:=by unfold bl;grind
def AF{x k:Nat}(h:2^k<=x):bl x=k+bl (x/2^k):=by
 have c:0<2^k:=ae9 gC;have b:x/2^k≠0:=by simp_all
 have d:=Ja<|x/2^k;have a:=AG b;have e:=BP b;obtain⟨n,hn⟩:∃n,bl (x/2^k)=n+1:=⟨bl (x/2^k)-1,E⟩;rw[hn]at d a⊢;refine abR ?_ ?_;rw[agX c]at d
 grind
 rw[Nat.add_sub_cancel]at a;rw[ajJ c]at a
 grind
def acr{s:Int}{m:Nat}(y:Nat)(hm:0<m)(h:(2:Int)^min s.toNat IntKind.u64.bits=m):(y:Int).fdiv (2^min s.toNat IntKind.u64.bits)=((y/m:Nat):Int):=by grind
def xA:L UInt8:=[0,1,2,2,3,3,3,3,4,4,4,4,4,4,4,4,5,5,5,5,5,5,5,5,5,5,5,5,5,5,5,5,6,6,6,6,6,6,6,6,6,6,6,6,6,6,6,6,6,6,6,6,6,6,6,6,6,6,6,6,6,6,6,6,7,7,7,7,7,7,7,7,7,7,7,7,7,7,7,7,7,7,7,7,7,7,7,7,7,7,7,7,7,7,7,7,7,7,7,7,7,7,7,7,7,7,7,7,7,7,7,7,7,7,7,7,7,7,7,7,7,7,7,7,7,7,7,7,8,8,8,8,8,8,8,8,8,8,8,8,8,8,8,8,8,8,8,8,8,8,8,8,8,8,8,8,8,8,8,8,8,8,8,8,8,8,8,8,8,8,8,8,8,8,8,8,8,8,8,8,8,8,8,8,8,8,8,8,8,8,8,8,8,8,8,8,8,8,8,8,8,8,8,8,8,8,8,8,8,8,8,8,8,8,8,8,8,8,8,8,8,8,8,8,8,8,8,8,8,8,8,8,8,8,8,8,8,8,8,8,8,8,8,8,8,8,8,8,8,8,8,8,8,8,8,8]
def Vn:xA.length=256:=gC
def Y8:∀u,u<256->u<2^(xA.getD u 0).toNat/\(u=0\/2^((xA.getD u 0).toNat-1)<=u/\0<(xA.getD u 0).toNat)/\(u=0->(xA.getD u 0).toNat=0):=gC
def Y9{u:Nat}(h:u<256):(xA.getD u 0).toNat=bl u:=by let⟨b,a,d⟩:=Y8 u h;rcases a with a|⟨a,c⟩;rw[a];rfl;obtain⟨n,hn⟩:∃n,(xA.getD u 0).toNat=n+1:=⟨(xA.getD u 0).toNat-1,E⟩;rw[hn]at b a⊢;exact(abR b a).symm
def CA(x:Nat)(e:x<2^64):ab 286 [.n .u64 x] (.i<|bl x):=by
 refine cx func286 W<|Ao 2 (λ(y n:Nat)=>[(0,.n .u64 y),(2,.i n)]) (λy n=>y<2^32/\bl x=n+bl y/\n<=32) ?_ ?_;refine cv W W ?_ ?_<;>intro h;have h:(2^32:Int)<=x:=h;have hs:bl x=32+bl (x/2^32):=AF (x:=x) (k:=32) E;refine r1 W (by simp only[aj];decide) ?_;exact meet (x/2^32,32) ⟨ac,hs,ac⟩ ⟨⟨W,aj8 (SV.n .u64)<|acr (m:=2^32) x gC gC⟩,G,U⟩;have h:¬(2^32:Int)<=x:=h;refine r0 W<|iX (x,0) ⟨ac,ac,ac⟩;rintro y n⟨g,d,f⟩;refine Ao 1 (λ(z k:Nat)=>[(0,.n .u64 z),(2,.i k)]) (λz k=>z<65536/\bl x=k+bl z/\k<=48) ?_ ?_;refine cv W W ?_ ?_<;>intro h;have h:(65536:Int)<=y:=h;have hs:bl y=16+bl (y/65536):=AF (x:=y) (k:=16) E;refine r1 W (by simp only[aj,abu,true_and]<;>omega) ?_;exact meet (y/65536,n+16) ⟨ac,by grind,ac⟩ ⟨⟨W,aj8 (SV.n .u64)<|acr (m:=65536) y gC gC⟩,G,U⟩;have h:¬(65536:Int)<=y:=h;refine r0 W<|iX (y,n) ⟨ac,d,ac⟩;rintro z k⟨g1,g2,j⟩;refine Ao 1 (λ(z k:Nat)=>[(0,.n .u64 z),(2,.i k)]) (λz k=>z<256/\bl x=k+bl z/\k<=56) ?_ ?_;refine cv W W ?_ ?_<;>intro h;have h:(256:Int)<=z:=h;have hs:bl z=8+bl (z/256):=AF (x:=z) (k:=8) E;refine r1 W (by simp only[aj,abu,true_and]<;>omega) ?_;exact meet (z/256,k+8) ⟨ac,by grind,ac⟩ ⟨⟨W,aj8 (SV.n .u64)<|acr (m:=256) z gC gC⟩,G,U⟩;have h:¬(256:Int)<=z:=h;refine r0 W<|iX (z,k) ⟨ac,g2,ac⟩;rintro u m⟨k1,k2,k3⟩;have b:IntKind.u8.wrap (u:Int)=(u:Int):=by show(u:Int)%256=u;omega
 have hu:(u:Int).toNat=u:=E;have a:=Y9 k1;have c:bl u<=8:=by rw[<-a];have:∀v,v<256->(xA.getD v 0).toNat<=8:=gC;exact this u k1
 have hl:=Vn;refine r1 W ?_ ?_;show aj [(m:Int)+((xA.getD (IntKind.u8.wrap u).toNat 0).toNat:Nat)<=(2^63-1),-(2^63)<=(m:Int)+((xA.getD (IntKind.u8.wrap u).toNat 0).toNat:Nat),(((xA.getD (IntKind.u8.wrap u).toNat 0).toNat:Nat):Int)<=(2^63-1),-(2^63)<=(((xA.getD (IntKind.u8.wrap u).toNat 0).toNat:Nat):Int),IntKind.u8.wrap u<(xA.length:Nat),0<=IntKind.u8.wrap u];simp only[aj,abu,b,hu,a,hl];omega;refine aJ W<|cw ?_;show(m:Int)+((xA.getD (IntKind.u8.wrap u).toNat 0).toNat:Nat)=_;rw[b,hu,a];omega
def E0(x:Nat)(a:x<2^64):ab 332 [.n .u64 x] (.i<|64-(bl x:Int)):=by
 have b:bl x<=64:=by rcases af8 x with g|g;subst g;decide;have c:=AG (x:=x) E;rcases aef 64 (bl x)with h|h;have:2^64<=2^(bl x-1):=aeh gC E;omega;exact h
 refine cx func332 W<|cu W W (CA x a) W<|r1 W bc<|bY W
def QN{A:Nat}(h:A≠0):A/2^(64*((ah A).length-1))=((ah A).getD ((ah A).length-1) 0).toNat/\2^(64*((ah A).length-1))<=A:=by
 have hl:=gU h;have hs:=iT (ah A)<|(ah A).length-1;rw[bF]at hs;have i:(ah A).drop ((ah A).length-1)=[(ah A).getD ((ah A).length-1) 0]:=by rw[ad5 E,az E,agt E]
 have d:((ah A).take<|(ah A).length-1).length=(ah A).length-1:=I;have a:=jq<|iw (bP A)<|(ah A).length-1;have g:=bK<|iw (bP A)<|(ah A).length-1;have l:=bB (bP A)<|(ah A).length-1;have c:=iv A;rw[i,d]at hs;rw[d]at a;have f:(18446744073709551616:Int)^((ah A).length-1)=((2^(64*((ah A).length-1)):Nat):Int):=by rw[ahU];rfl
 rw[f]at hs a c;have j:0<2^(64*((ah A).length-1)):=ae9 gC;simp only[val]at hs;generalize 2^(64*((ah A).length-1))=P at*;generalize val _=lo at*;obtain⟨t,b⟩:∃t:Nat,(ah A).getD ((ah A).length-1) 0=t:=⟨((ah A).getD ((ah A).length-1) 0).toNat,E⟩;rw[b]at hs⊢;have e:(A:Int)=lo+P*t:=by rw[hs];simp
 have k:A=lo.toNat+P*t:=by omega
 rw[k,aih _ _ j,ahf E]
 grind
def Qu(a:Nm)(h:bz a){K:Nat}(hl:fY a K)(m:K<2^40):ab 220 [eN a] (.i<|bl (nv a).natAbs):=by
 have k:=JR a h;unfold fY at hl;generalize (nv a).natAbs=A at*;refine cx func220 W<|cu W W k W<|cv W W ?_ ?_<;>intro b;have hA:A=0:=by rcases af8 A with g|g;exact g;have:=gU (n:=A) E;omega
 subst hA;refine cm W W<|aj8 SV.i W;have b:¬((ah A).length:Int)=0:=b;have hA:A≠0:=by rintro rfl;rw[dj]at b;exact b W
 let⟨d,j⟩:=QN hA;let⟨x,e,c⟩:=nZ A<|(ah A).length-1;rw[e]at d;have hs:=AF j;rw[d]at hs;have f:(((ah A).length:Int)-1).toNat=(ah A).length-1:=E;have ex:(x:Int).toNat=x:=E;rw[ex]at hs;have l:bl x<=64:=by rcases af8 x with g|g;subst g;decide;have b:=AG (x:=x) E;rcases aef 64 (bl x)with h|h;have:2^64<=2^(bl x-1):=aeh gC E;omega;exact h
 refine r1 W (by simp[aj,abu,f]<;>omega) ?_;refine cl W (by rw[f,e];rfl) (CA x c) W ?_;refine r1 W bg<|aJ W<|cw ?_;rw[hs];omega
structure Fr where
 n:Nm
 d:Nm
def eF(f:Fr):SV:=.agg [.i f.n.s,.gh .u64<|ws f.n,.i f.d.s,.gh .u64<|ws f.d]
structure cB(f:Fr)(q:Rat):Prop where
 n:bz f.n
 d:bz f.d
 vn:nv f.n=q.num
 vd:nv f.d=q.den
def yA(a:Nm):ab 180 [eN a] (eF ⟨a,⟨1,none⟩⟩):=by refine enter func180 W W W W<|ct W W (EF 1) W<|k0 W aP<|bY W
def f_s(n:Int):ab 135 [.i n] (eF ⟨⟨n,none⟩,⟨1,none⟩⟩):=by refine enter func135 W W W W<|cu W W (EF n) W<|b8 W (yA ⟨n,none⟩) W<|cq W W
def tK(f:Fr){q:Rat}(h:cB f q):ab 121 [eF f] (.i q.num.sign):=by have hs:=A2 _ h.n;rw[h.vn]at hs;refine enter func121 W W W W<|cu W W hs W<|cq W W
def Ft(f:Fr){q:Rat}(h:cB f q){K:Nat}(hl:fY f.n K)(a:K<2^40):ab 209 [eF f] (eF ⟨kq f.n,f.d⟩)/\cB ⟨kq f.n,f.d⟩ (-q):=by refine⟨?_,⟨(dZ _ h.n).2,h.d,by rw[(dZ _ h.n).1,h.vn,aiu],by rw[h.vd,Rat.neg_den]⟩⟩;refine enter func209 W W W W<|ct W W (Ic f.n h.n hl a) W<|k0 W aP<|bY W
section
variable{B d q r u y0 y1:Nat}
structure DL(B u d y1 y0 q r:Nat):Prop where
 eq:r+q*y1=u
 up:(u*B+d)/(y1*B+y0)<=q
 hi:q<=B+1
 lt:r<B
structure DH(B u d y1 y0:Nat):Prop where
 b:4<=B
 n:B<=2*y1
 m:y1<B
 l:y0<B
 u:u<y1*B+y0
 d:d<B
def DH.pos(h:DH B u d y1 y0):0<y1*B+y0:=by have:=aeB (show 0<y1 by have:=h.n;have:=h.b;omega) (show 0<B by have:=h.b;omega);omega
def DH.acM(h:DH B u d y1 y0):(u*B+d)/(y1*B+y0)<B:=by
 rw[agX h.pos];have:(u+1)*B<=(y1*B+y0)*B:=ad6 _ h.u;have:=h.d
 grind
def DL.start(h:DH B u d y1 y0):DL B u d y1 y0 (u/y1) (u%y1):=by
 let⟨n,m,l,k,j,i⟩:=h;have a:0<y1:=E;have e:=ahO u y1;have hm:=aea u a;have f:u/y1<B+2:=by rw[agX a,aer,aej B];omega
 refine⟨by grind,?_,E,E⟩;rw[<-Nat.lt_succ_iff,agX h.pos];have c:u+1<=(u/y1+1)*y1:=by grind
 have g:(u+1)*B<=(u/y1+1)*y1*B:=ad6 _ c
 grind
def DL.prod(h:DL B u d y1 y0 q r):q*(y1*B+y0)+r*B=u*B+q*y0:=by
 have e:q*(y1*B+y0)=q*y1*B+q*y0:=by grind
 rw[<-h.eq,aer];omega
def DL.step(hh:DH B u d y1 y0)(h:DL B u d y1 y0 q r)(hc:B<=q\/r*B+d<q*y0):
 1<=q/\(r+y1<B->DL B u d y1 y0 (q-1) (r+y1))/\(B<=r+y1->(u*B+d)/(y1*B+y0)=q-1/\q-1<B):=by
 have i:=h.prod;have j:=hh.acM;have a:=hh.pos;let⟨s,o,n,m,l,k⟩:=hh;have b:(u*B+d)/(y1*B+y0)<q:=by rcases hc with hc|hc;omega;rw[agX a];omega
 have e:=ahn (abX _) b;obtain⟨p,rfl⟩:∃p,q=p+1:=⟨q-1,E⟩;have he:=h.eq;have g:=h.hi;rw[aer]at he;simp only[Nat.add_sub_cancel];refine⟨E,λc=>⟨E,E,E,c⟩,λc=>?_⟩;have f:p<=(u*B+d)/(y1*B+y0):=by
  rw[ajJ a];have v:p*y0<=B*B:=agW E E;have t:(p*y1+B)*B<=u*B:=ad6 _ E
  grind
 omega
def DL.stop(hh:DH B u d y1 y0)(h:DL B u d y1 y0 q r)(hc:q*y0<=r*B+d):(u*B+d)/(y1*B+y0)=q:=by
 have b:=h.prod;have a:=h.up;have:q<=(u*B+d)/(y1*B+y0):=by rw[ajJ hh.pos];omega
 omega
def HQ{Y:Nat}(h:(u*4294967296+d)/Y=q)(hY:0<Y)(hl:Y<=18446744073709551616):
 IntKind.u64.wrap (IntKind.u64.wrap (IntKind.u64.wrap ((u:Int)*4294967296)+d)-IntKind.u64.wrap ((q:Int)*Y))=(((u*4294967296+d)%Y:Nat):Int):=by
 have e:=ahO (u*2^32+d) Y;have hm:=aea (u*2^32+d) hY;generalize _%Y=r at*;have a:(u:Int)*2^32+d=(r:Int)+(q:Int)*Y:=by grind
 simp[U4];omega
def D5(B U a d0 Y:Nat)(hY:0<Y):
 ((U*B+a)*B+d0)/Y=(U*B+a)/Y*B+((U*B+a)%Y*B+d0)/Y/\((U*B+a)*B+d0)%Y=((U*B+a)%Y*B+d0)%Y:=by
 have e:=ahO (U*B+a) Y;have b:(U*B+a)*B+d0=((U*B+a)%Y*B+d0)+Y*((U*B+a)/Y*B):=by grind
 rw[b];exact⟨by rw[aih _ _ hY,Nat.add_comm],I⟩
end
section
variable{Y a b s u y:Nat}
def ZE(a b:Nat)(h:a<18446744073709551616):IntKind.u64.wrap ((a:Int).tdiv (b:Int))=((a/b:Nat):Int):=wr<|ahn (aif _ _) h
def SX(h:b<=a)(c:a<18446744073709551616):IntKind.u64.wrap ((a:Int)-(b:Int))=((a-b:Nat):Int):=by rw[<-Int.natCast_sub h];exact wr E
def Dw(h:a+b<18446744073709551616):IntKind.u64.wrap ((a:Int)+(b:Int))=((a+b:Nat):Int):=by rw[<-ajf];exact wr h
def ac5(h:a*b<18446744073709551616):IntKind.u64.wrap ((a:Int)*(b:Int))=((a*b:Nat):Int):=by rw[<-ah0];exact wr h
def aeS(h:a<18446744073709551616):IntKind.u64.wrap ((a:Int)-IntKind.u64.wrap (((a/b:Nat):Int)*(b:Int)))=((a%b:Nat):Int):=by
 have e:=ahO a b;rw[aej]at e;rw[ac5 E,SX E h]
 grind
def Ik(h:s<=64):min ((s:Nat):Int).toNat IntKind.u64.bits=s:=by show min ((s:Nat):Int).toNat 64=s;omega
def VD(x s:Nat)(h:s<=64):IntKind.u64.wrap ((x:Int)*2^min ((s:Nat):Int).toNat IntKind.u64.bits)=((x*2^s%18446744073709551616:Nat):Int):=by rw[Ik h];rfl
def Zi(x s:Nat)(h:s<=64):(x:Int).fdiv (2^min ((s:Nat):Int).toNat IntKind.u64.bits)=((x/2^s:Nat):Int):=by rw[Ik h,ajU _<|by grind];rfl
def orU(a b s:Nat)(h:a*2^s+b<18446744073709551616)(c:b<2^s):
 IntKind.u64.wrap ((BitVec.ofInt IntKind.u64.bits ((a*2^s:Nat):Int)|||BitVec.ofInt IntKind.u64.bits (b:Int)).toNat:Int)=((a*2^s+b:Nat):Int):=by
 rw[wrm]
 congr 1
 have d:(BitVec.ofNat 64 (a*2^s)|||BitVec.ofNat 64 b).toNat=(a*2^s%2^64)|||(b%2^64):=I;have f:a*2^s%2^64=a*2^s:=ahr E;have e:b%2^64=b:=ahr E;rw[f,e,aej a,<-Nat.two_pow_add_eq_or_of_lt c,aej]at d;show(BitVec.ofNat 64 _|||BitVec.ofNat 64 b).toNat%_=_;omega
def adN{x:Nat}(c:x<18446744073709551616):bl x<=64:=by rcases af8 x with g|g;subst g;decide;have d:=AG (x:=x) E;rcases aef 64 (bl x)with h|h;have:2^64<=2^(bl x-1):=aeh gC E;omega;exact h
structure Oi(hi lo y s Y u d1 d0:Nat):Prop where
 hs:s<64
 hY:Y=y*2^s
 hn:9223372036854775808<=Y
 hl:Y<18446744073709551616
 he:u*18446744073709551616+(d1*4294967296+d0)=(hi*18446744073709551616+lo)*2^s
 Xf:d1<4294967296
 Fg:d0<4294967296
 hu:u<Y
 hue:u=hi*2^s+lo/2^(64-s)
 hde:lo*2^s%18446744073709551616=d1*4294967296+d0
def Oi.mk'{hi lo:Nat}(i:hi<y)(g:y<18446744073709551616)(hl:lo<18446744073709551616):
 Oi hi lo y (64-bl y) (y*2^(64-bl y)) (hi*2^(64-bl y)+lo/2^(64-(64-bl y))) (lo*2^(64-bl y)%18446744073709551616/4294967296) (lo*2^(64-bl y)%18446744073709551616%4294967296):=by
 have h:=BP (x:=y) E;have m:=adN g;obtain⟨s,hs⟩:∃s,s=64-bl y:=⟨_,W⟩;rw[<-hs];have l:2^(bl y)*2^s=2^64:=by rw[<-aga];simp_all
 have k:2^(bl y-1)*2^s=2^63:=lm
 have f:2^(64-s)*2^s=2^64:=by grind
 have e:0<2^s:=ae9 gC;have c:0<2^(64-s):=ae9 gC;have g1:2^63<=y*2^s:=by rw[<-k];exact ad6 _ (AG (x:=y) E)
 have g2:y*2^s<2^64:=by rw[<-l];exact Nat.mul_lt_mul_of_pos_right (Ja y) e
 have o:lo/2^(64-s)<2^s:=by rwa[agX c,aej,f]
 have j:(hi+1)*2^s<=y*2^s:=ad6 _ i;rw[aer]at j;have n:lo*2^s/2^64=lo/2^(64-s):=by rw[<-f];exact aju _ _ e
 refine⟨E,W,g1,g2,?_,E,E,E,W,E⟩
 grind
def Oi.dh1{hi lo c d0:Nat}(h:Oi hi lo y s Y u c d0):DH 4294967296 u c (Y/4294967296) (Y%4294967296):=by have:=h.hn;have:=h.hl;have:=h.hu;have:=h.Xf;exact⟨E,E,E,E,E,E⟩
def Oi.yy:Y/4294967296*4294967296+Y%4294967296=Y:=E
def Oi.dh2{hi lo c d0:Nat}(h:Oi hi lo y s Y u c d0):DH 4294967296 ((u*4294967296+c)%Y) d0 (Y/4294967296) (Y%4294967296):=by have f:=h.hn;have e:=h.hl;have d:=h.Fg;have:=aea (u*4294967296+c) (show 0<Y from E);exact⟨E,E,E,E,E,E⟩
def Oi.quo{hi lo c d0:Nat}(h:Oi hi lo y s Y u c d0):
 (u*4294967296+c)/Y*4294967296+((u*4294967296+c)%Y*4294967296+d0)/Y=(hi*18446744073709551616+lo)/y/\
 ((u*4294967296+c)%Y*4294967296+d0)%Y/2^s=(hi*18446744073709551616+lo)%y:=by
 have hn:=h.hn;have d:0<2^s:=ae9 gC;let⟨g,f⟩:=D5 (2^32) u c d0 Y E;have e:(u*2^32+c)*2^32+d0=(hi*2^64+lo)*2^s:=by rw[<-h.he];omega
 rw[<-g,<-f,e,h.hY];refine⟨aju _ _ d,?_⟩;rw[ajv,ajw _ d]
def CQ(hi lo y:Nat)(O:hi<y)(S:y<18446744073709551616)(hl:lo<18446744073709551616):
 ab 331 [.n .u64 hi,.n .u64 lo,.n .u64 y] (.de [.n .u64 ((hi*18446744073709551616+lo)/y:Nat),.n .u64 ((hi*18446744073709551616+lo)%y:Nat)]):=by
 refine cx func331 W<|cv W W (λh=>abK h E) λ_=>?_;refine cv W W (λh=>abK h E) λ_=>?_;refine cv W W ?_ ?_<;>intro h;have h0:hi=0:=E;subst h0;refine k1 W aP ?_ ?_;simp only[aj,abu]<;>omega;have e:(0*2^64+lo)=lo:=E;rw[e];refine aJ W ⟨aal (SV.n .u64) ?_,aal (SV.n .u64) ?_,U⟩;rw[aiI E,<-Int.natCast_ediv];exact wr<|ahn (aif _ _) hl;rfl;obtain⟨s,V⟩:∃s,s=64-bl y:=⟨_,W⟩;have c:=Oi.mk' O S hl;rw[<-V]at c;generalize y*2^s=Y at c;generalize hi*2^s+lo/2^(64-s)=u at c;generalize lo*2^s%2^64/2^32=g at c;generalize lo*2^s%2^64%2^32=d0 at c;have F3:=BP (x:=y) E;have F2:=adN S;have hs:=c.hs;have i:IntKind.u64.wrap (64-(bl y:Int))=(s:Int):=by rw[U4];omega
 have t:IntKind.u64.wrap (64-(s:Int))=((64-s:Nat):Int):=by rw[U4];omega
 have J:IntKind.u64.wrap ((y:Int)*2^min ((s:Nat):Int).toNat IntKind.u64.bits)=(Y:Int):=by rw[VD y s E,<-c.hY,ahr c.hl]
 have E1:hi*2^s<18446744073709551616:=by
  have O:=c.hu;have h2:=c.hl;have:hi*2^s<=u:=by rw[c.hue];simp
  omega
 have eu:IntKind.u64.wrap ((BitVec.ofInt IntKind.u64.bits (IntKind.u64.wrap<|(hi:Int)*2^min ((s:Nat):Int).toNat IntKind.u64.bits)|||BitVec.ofInt IntKind.u64.bits ((lo:Int).fdiv<|2^min ((64-s:Nat):Int).toNat IntKind.u64.bits)).toNat:Int)=(u:Int):=by
  rw[VD hi s E,ahr E1,Zi lo (64-s) E,orU hi (lo/2^(64-s)) s];rw[c.hue];have O:=c.hu;have h2:=c.hl;rw[<-c.hue];omega;have e3:2^(64-s)*2^s=18446744073709551616:=by rw[<-aga];simp_all
  rw[agX<|ae9 gC,aej,e3];exact hl
 have el:IntKind.u64.wrap ((lo:Int)*2^min ((s:Nat):Int).toNat IntKind.u64.bits)=((g*4294967296+d0:Nat):Int):=by rw[VD lo s E,c.hde]
 have Xf:=c.Xf;have Fg:=c.Fg;have F0:((g*4294967296+d0)/4294967296)=g:=E;have F1:((g*4294967296+d0)%4294967296)=d0:=E;have C:u<18446744073709551616:=by have O:=c.hu;have h2:=c.hl;omega
 refine rn 1 W<|cU 11 [(2,.n .u64 Y),(8,.n .u64 s),(9,.n .u64 (Y/4294967296:Nat)),(10,.n .u64 (Y%4294967296:Nat)),(11,.n .u64 u),(13,.n .u64 g),(14,.n .u64 d0),(15,.n .u64 ((u*4294967296+g)/Y:Nat))] True ?_ λ_=>?_;refine cu W W (E0 y S) W<|r1 W ?_ ?_;simp only[aj,abu,i,t,J,HJ];have:=c.hn;omega;refine lM (λ(q r:Nat)=>[(2,.n .u64 Y),(8,.n .u64 s),(9,.n .u64 (Y/4294967296:Nat)),(10,.n .u64 (Y%4294967296:Nat)),(11,.n .u64 u),(13,.n .u64 g),(14,.n .u64 d0),(15,.n .u64 q),(16,.n .u64 r)])
  (λq r=>DL 4294967296 u g (Y/4294967296) (Y%4294967296) q r) (λq _=>q) (u/(Y/4294967296)) (u%(Y/4294967296)) (DL.start c.dh1)
  ⟨⟨W,aal (SV.n .u64)<|by rw[i,J]⟩,⟨W,aal (SV.n .u64) i⟩,⟨W,aal (SV.n .u64)<|by rw[i,J,HJ]⟩,⟨W,aal (SV.n .u64)<|by rw[i,J,WN]⟩,
    ⟨W,aal (SV.n .u64)<|by rw[i,t,eu]⟩,⟨W,aal (SV.n .u64)<|by rw[i,el,HJ,F0]⟩,⟨W,aal (SV.n .u64)<|by rw[i,el,WN,F1]⟩,
    ⟨W,aal (SV.n .u64)<|by rw[i,t,eu,J,HJ,ZE _ _ C]⟩,⟨W,aal (SV.n .u64)<|by rw[i,t,eu,J,HJ,ZE _ _ C,aeS C]⟩,U⟩ ?_
 intro q r w;have A0:=w.hi;have X:=w.lt;have P:Y/4294967296<4294967296:=c.dh1.m;have R:Y%4294967296<4294967296:=c.dh1.l;have f:(4294967296<=q\/r*4294967296+g<q*(Y%4294967296))->IntKind.u64.wrap ((q:Int)-1)=((q-1:Nat):Int)/\IntKind.u64.wrap ((r:Int)+((Y/4294967296:Nat):Int))=((r+Y/4294967296:Nat):Int):=by intro hc;obtain⟨g1,-,-⟩:=w.step c.dh1 hc;exact⟨SX (b:=1) g1 E,Dw E⟩
 refine ck W 69 W ?_ ?_<;>intro hc;let⟨A,p⟩:=f<|.inl E;let⟨g1,g2,H⟩:=w.step c.dh1<|.inl E;refine cv W W ?_ ?_<;>intro o;rw[p]at o;let⟨m,g5⟩:=H E;rw[Oi.yy]at m;refine cn W U ⟨G,G,G,G,G,G,G,⟨W,aal (SV.n .u64)<|by rw[A,m]⟩,U⟩;rw[p]at o;refine r0 W<|again (q-1,r+Y/4294967296) (ac) (g2 E) ⟨G,G,G,G,G,G,G,⟨W,aal (SV.n .u64) A⟩,⟨W,aal (SV.n .u64) p⟩,U⟩;have Z:q<4294967296:=E;have D:q*(Y%4294967296)<18446744073709551616:=zaE
 have N:IntKind.u64.wrap ((q:Int)*((Y%4294967296:Nat):Int))=((q*(Y%4294967296):Nat):Int):=ac5 D;have M:IntKind.u64.wrap (IntKind.u64.wrap (4294967296*(r:Int))+(g:Int))=((r*4294967296+g:Nat):Int):=by rw[U4,U4];omega
 refine cv W W ?_ ?_<;>intro k;rw[N,M]at k;have j:r*4294967296+g<q*(Y%4294967296):=by exact_mod_cast k
 let⟨A,p⟩:=f<|.inr j;let⟨g1,g2,H⟩:=w.step c.dh1<|.inr j;refine cv W W ?_ ?_<;>intro o;rw[p]at o;let⟨m,g5⟩:=H E;rw[Oi.yy]at m;refine cn W U ⟨G,G,G,G,G,G,G,⟨W,aal (SV.n .u64)<|by rw[A,m]⟩,U⟩;rw[p]at o;refine r0 W<|again (q-1,r+Y/4294967296) (ac) (g2 E) ⟨G,G,G,G,G,G,G,⟨W,aal (SV.n .u64) A⟩,⟨W,aal (SV.n .u64) p⟩,U⟩;rw[N,M]at k;have j:q*(Y%4294967296)<=r*4294967296+g:=by omega
 have m:=w.stop c.dh1 j;rw[Oi.yy]at m;refine cn W U ⟨G,G,G,G,G,G,G,⟨W,aal (SV.n .u64)<|by rw[m]⟩,U⟩;have F:0<Y:=by have:=c.hn;omega
 have E2:=HQ (u:=u) (d:=g) (Y:=Y) W F<|ais c.hl;have ev:IntKind.u64.wrap (IntKind.u64.wrap (IntKind.u64.wrap ((u:Int)*4294967296)+(g:Int))-IntKind.u64.wrap ((((u*4294967296+g)/Y:Nat):Int)*(Y:Int)))=(((u*4294967296+g)%Y:Nat):Int):=E2;have l:=c.dh2;have T:(u*4294967296+g)%Y<Y:=aea _ F;let⟨w1,w2⟩:=c.quo;have K:=c.dh1.acM;have z:=c.dh2.acM;rw[Oi.yy]at K z;obtain⟨v,hv⟩:∃v,v=(u*4294967296+g)%Y:=⟨_,W⟩;rw[<-hv]at ev l T w1 w2 z;have B:v<18446744073709551616:=by have:=c.hl;omega
 refine cU 4 [(2,.n .u64 Y),(8,.n .u64 s),(14,.n .u64 d0),(15,.n .u64 ((u*4294967296+g)/Y:Nat)),(17,.n .u64 v),(18,.n .u64 ((v*4294967296+d0)/Y:Nat))] True ?_ λ_=>?_;refine r1 W ?_ ?_;simp only[aj,abu];have:=c.hn;omega;refine lM (λ(q r:Nat)=>[(2,.n .u64 Y),(8,.n .u64 s),(9,.n .u64 (Y/4294967296:Nat)),(10,.n .u64 (Y%4294967296:Nat)),(14,.n .u64 d0),(15,.n .u64 ((u*4294967296+g)/Y:Nat)),(17,.n .u64 v),(18,.n .u64 q),(16,.n .u64 r)])
  (λq r=>DL 4294967296 v d0 (Y/4294967296) (Y%4294967296) q r) (λq _=>q) (v/(Y/4294967296)) (v%(Y/4294967296)) (DL.start l)
  ⟨G,G,G,G,G,G,⟨W,aal (SV.n .u64) ev⟩,⟨W,aal (SV.n .u64)<|by rw[ev,ZE _ _ B]⟩,⟨W,aal (SV.n .u64)<|by rw[ev,ZE _ _ B,aeS B]⟩,U⟩ ?_
 intro q r w;have A0:=w.hi;have X:=w.lt;have P:Y/4294967296<4294967296:=l.m;have R:Y%4294967296<4294967296:=l.l;have f:(4294967296<=q\/r*4294967296+d0<q*(Y%4294967296))->IntKind.u64.wrap ((q:Int)-1)=((q-1:Nat):Int)/\IntKind.u64.wrap ((r:Int)+((Y/4294967296:Nat):Int))=((r+Y/4294967296:Nat):Int):=by intro hc;obtain⟨g1,-,-⟩:=w.step l hc;exact⟨SX (b:=1) g1 E,Dw E⟩
 refine ck W 104 W ?_ ?_<;>intro hc;let⟨A,p⟩:=f<|.inl E;let⟨g1,g2,H⟩:=w.step l<|.inl E;refine cv W W ?_ ?_<;>intro o;rw[p]at o;let⟨m,g5⟩:=H E;rw[Oi.yy]at m;refine cn W U ⟨G,G,G,G,G,⟨W,aal (SV.n .u64)<|by rw[A,m]⟩,U⟩;rw[p]at o;refine r0 W<|again (q-1,r+Y/4294967296) (ac) (g2 E) ⟨G,G,G,G,G,G,G,⟨W,aal (SV.n .u64) A⟩,⟨W,aal (SV.n .u64) p⟩,U⟩;have Z:q<4294967296:=E;have D:q*(Y%4294967296)<18446744073709551616:=zaE
 have N:IntKind.u64.wrap ((q:Int)*((Y%4294967296:Nat):Int))=((q*(Y%4294967296):Nat):Int):=ac5 D;have M:IntKind.u64.wrap (IntKind.u64.wrap (4294967296*(r:Int))+(d0:Int))=((r*4294967296+d0:Nat):Int):=by rw[U4,U4];omega
 refine cv W W ?_ ?_<;>intro k;rw[N,M]at k;have j:r*4294967296+d0<q*(Y%4294967296):=by exact_mod_cast k
 let⟨A,p⟩:=f<|.inr j;let⟨g1,g2,H⟩:=w.step l<|.inr j;refine cv W W ?_ ?_<;>intro o;rw[p]at o;let⟨m,g5⟩:=H E;rw[Oi.yy]at m;refine cn W U ⟨G,G,G,G,G,⟨W,aal (SV.n .u64)<|by rw[A,m]⟩,U⟩;rw[p]at o;refine r0 W<|again (q-1,r+Y/4294967296) (ac) (g2 E) ⟨G,G,G,G,G,G,G,⟨W,aal (SV.n .u64) A⟩,⟨W,aal (SV.n .u64) p⟩,U⟩;rw[N,M]at k;have j:q*(Y%4294967296)<=r*4294967296+d0:=by omega
 have m:=w.stop l j;rw[Oi.yy]at m;refine cn W U ⟨G,G,G,G,G,⟨W,aal (SV.n .u64)<|by rw[m]⟩,U⟩;refine r1 W ?_ ?_;simp only[aj,abu]<;>omega;refine aJ W ⟨aal (SV.n .u64) ?_,aal (SV.n .u64) ?_,U⟩;rw[<-w1];obtain⟨a,ha⟩:∃a,a=(u*4294967296+g)/Y:=⟨_,W⟩;obtain⟨b,hb⟩:∃b,b=(v*4294967296+d0)/Y:=⟨_,W⟩;rw[<-ha]at K⊢;rw[<-hb]at z⊢;rw[U4,U4];omega;rw[<-w2];have e3:=HQ (u:=v) (d:=d0) (Y:=Y) W F<|ais c.hl;have e4:IntKind.u64.wrap (IntKind.u64.wrap (IntKind.u64.wrap ((v:Int)*4294967296)+(d0:Int))-IntKind.u64.wrap ((((v*4294967296+d0)/Y:Nat):Int)*(Y:Int)))=(((v*4294967296+d0)%Y:Nat):Int):=e3;rw[e4,Zi _ s E]
end
def fx:Nat->Nat->L Int
 |0,_=>[]
 |k+1,v=>((v%18446744073709551616:Nat):Int)::fx k (v/18446744073709551616)
def gW:∀(k v:Nat),(fx k v).length=k
 |0,_=>rfl
 |k+1,v=>by simp[fx,gW k]
def P9:∀(k v:Nat),ji (fx k v)
 |0,_,d,h=>by simp[fx]at h
 |k+1,v,d,h=>by simp[fx]at h;rcases h with rfl|h;omega;exact P9 k _ d h
def RN:∀{l:L Int}{v:Nat},ji l->val l=v->l=fx l.length v
 |[],v,_,h=>rfl
 |d::l,v,a,h=>by have g:=a d I;have c:ji l:=λx b=>a x (by simp[b]);simp[val]at h;simp only[acC,fx];have f:d=((v%2^64:Nat):Int):=E;have e:val l=((v/2^64:Nat):Int):=E;rw[<-f,<-RN c e]
def U9{k v:Nat}(h:(v:Int)<18446744073709551616^k):val (fx k v)=v:=by
 induction k generalizing v with
 |zero=>
  have:v=0:=by grind
  subst this;rfl
 |succ k a=>
  simp[fx,val]
  grind
def aau{k v:Nat}(h:(v:Int)<18446744073709551616^k):dC (fx k v)=ah v:=by rw[fk<|P9 k v,U9 h];simp
def ae2(a b s:Nat)(h:a*2^s+b<18446744073709551616)(c:b<2^s):
 IntKind.u64.wrap ((BitVec.ofInt IntKind.u64.bits (b:Int)|||BitVec.ofInt IntKind.u64.bits ((a*2^s:Nat):Int)).toNat:Int)=((a*2^s+b:Nat):Int):=by
 rw[BitVec.or_comm];exact orU a b s h c
def OP{x s:Nat}(hs:s<64)(d:x<18446744073709551616):
 x*2^s%18446744073709551616=x%2^(64-s)*2^s/\x*2^s=x%2^(64-s)*2^s+x/2^(64-s)*18446744073709551616/\x/2^(64-s)<2^s/\x%2^(64-s)*2^s+(2^s-1)<18446744073709551616:=by
 have c:2^(64-s)*2^s=2^64:=lm
 have a:0<2^(64-s):=ae9 gC;have f:=ahO x<|2^(64-s);have g:x/2^(64-s)<2^s:=by rwa[agX a,aej,c]
 have b:(x%2^(64-s)+1)*2^s<=2^(64-s)*2^s:=ad6 _<|aea x a;rw[aer]at b;have e:x*2^s=x%2^(64-s)*2^s+x/2^(64-s)*2^64:=by grind
 omega
def xb(A s:Nat)(hs:s<64)(h1:(ah A).length<2^40):ab 333 [gw<|ah A,.i s] (aj0<|fx ((ah A).length+1)<|A*2^s):=by
 have F:=bP A;have hp:0<2^s:=ae9 gC;obtain⟨w,B⟩:∃w,w=ah A:=⟨_,W⟩;rw[<-B]at F h1⊢;have hA:val w=A:=by rw[B,bF]
 refine cx func333 W<|r1 W bj ?_;have q:((w.length:Int)+1).toNat=w.length+1:=E;refine lM (λ(i:Nat)(out:L Int)=>[(0,gw w),(1,.i s),(5,aj0 out),(12,gw w),(13,.i w.length),(14,.i i)])
  (λi out=>i<=w.length/\out.length=w.length+1/\ji out/\out.getD i 0<((2^s:Nat):Int)/\(∀k,i<k->out.getD k 0=0)/\val (out.take<|i+1)=val (w.take i)*((2^s:Nat):Int))
  (λi _=>w.length-i) 0 (List.replicate (w.length+1) 0) ⟨abX _,I,gI _,by grind,λk _=>jc _ _,by rw[List.take_replicate,jE];simp[val]⟩
  ⟨G,G,⟨W,by rw[q];rfl⟩,G,G,G,U⟩ ?_
 rintro i out⟨hi,f,d,hc,O,C⟩;refine cv W W (λX=>?_) λA0=>?_;have S:=bB F i;have hb:=bB d i;obtain⟨x,ex⟩:∃x:Nat,w.getD i 0=x:=⟨(w.getD i 0).toNat,E⟩;obtain⟨b,o⟩:∃b:Nat,out.getD i 0=b:=⟨(out.getD i 0).toNat,E⟩;rw[ex]at S;rw[o]at hb hc;have n:(i:Int).toNat=i:=E;have m:((i:Int)+1).toNat=i+1:=E;let⟨g1,g2,g3,g4⟩:=OP hs (show x<(2^64) from E);have g:IntKind.u64.wrap ((BitVec.ofInt IntKind.u64.bits (b:Int)|||BitVec.ofInt IntKind.u64.bits (IntKind.u64.wrap<|(x:Int)*2^min ((s:Nat):Int).toNat IntKind.u64.bits)).toNat:Int)=((x%2^(64-s)*2^s+b:Nat):Int):=by rw[VD x s E,g1];exact ae2 _ b s E E
 obtain⟨y,u⟩:∃y,y=x%2^(64-s)*2^s+b:=⟨_,W⟩;obtain⟨c,p⟩:∃c,c=x/2^(64-s):=⟨_,W⟩;have P:y<2^64:=E;have D:i<w.length:=E;have h:∀a:L Int,a.length=w.length+1->ji a->(∀k,i+1<k->a.getD k 0=0)->a.getD i 0=y->a.getD (i+1) 0=c->a.take i=out.take i->
  i+1<=w.length/\a.length=w.length+1/\ji a/\a.getD (i+1) 0<((2^s:Nat):Int)/\(∀k,i+1<k->a.getD k 0=0)/\val (a.take<|i+1+1)=val (w.take<|i+1)*((2^s:Nat):Int):=by
  intro a N M K J t H;refine⟨E,N,M,by rw[t];omega,K,?_⟩;rw[aM,aM a,H,J,t,aM w,ex];rw[aM,o]at C;have R:(x:Int)*((2^s:Nat):Int)=(y:Int)-b+(c:Int)*2^64:=by omega
  grind
 have T:IntKind.i64.wrap (64-(s:Int))=((64-s:Nat):Int):=by rw[wrI];omega
 have e:∀(l:L Int)(j k:Nat)(z:Int),(l.set j z).getD k 0=if j=k/\k<l.length then z else l.getD k 0:=dF;refine k1 W aP ?_ ?_;simp only[aj,abu,n]<;>omega;refine cg W ?_ ?_<;>intro h0;refine r1 W ?_ ?_;simp only[aj,abu,n,m,ahy]<;>omega;refine again (i+1,(out.set i (y:Int)).set (i+1) (c:Int)) (ac) ?_ ⟨G,G,⟨W,aal (aj0) ?_⟩,G,G,⟨W,aal (SV.n .i64) E⟩,U⟩;refine h _ (by simp[f]) (fS (fS d E) E) (λk Y=>?_) ?_ ?_ ?_;rw[e,abl E,e,abl E];exact O k E
 grind
 simp_all;rw[fO E,fO<|abY _];dsimp only;rw[n,m];rw[ex,o,g,u];have r:(64-(s:Int))=((64-s:Nat):Int):=E;rw[r,Zi x (64-s) E,p];refine r1 W ?_ ?_;simp only[aj,abu]<;>omega;have V:s=0:=E;have E1:c=0:=by grind
 refine again (i+1,out.set i (y:Int)) (ac) ?_ ⟨G,G,⟨W,aal (aj0) ?_⟩,G,G,⟨W,aal (SV.n .i64) E⟩,U⟩;refine h _ (by simp[f]) (fS d E) (λk Y=>?_) ?_ ?_ ?_
 grind
 grind
 grind
 rw[fO<|abY _];dsimp only;rw[n,ex,o,g,u];refine r0 W ?_;have Z:i=w.length:=E;refine aJ W ?_;show aj0 out=_;have e1:out.take (i+1)=out:=ad2 E;have e2:w.take i=w:=ad2 E;rw[e1,e2,hA]at C;rw[<-f,<-RN (v:=A*2^s) d E]
end Go.Ai.bI
namespace Go.Ai.bI
section
variable{r t u2:Int}{u v w:List Int}{L U V c i k q ui vi:Nat}
def p9(pre w a:List Int)(h:i<w.length):(pre++w++a).getD (pre.length+i) 0=w.getD i 0:=by grind
def DC(pre w a:List Int)(y:Int)(h:i<w.length):(pre++w++a).set (pre.length+i) y=pre++w.set i y++a:=by simp_all
def CC{v1 v2:Int}(d:0<=t/\t<18446744073709551616)(b:18446744073709551616<=r)(a:0<=v2/\v2<18446744073709551616)(hu:0<=u2):dH k t r v1 v2 u2=t:=by
 cases k with
 |zero=>rfl
 |succ k=>unfold dH;rw[abl];rintro(h|h);omega;have:t*v2<=18446744073709551615*18446744073709551615:=aiM E E a.1 E;omega
def M8{v1 v2:Int}(b:t<18446744073709551616)(a:t*v2<=r*18446744073709551616+u2):dH k t r v1 v2 u2=t:=by
 cases k with
 |zero=>rfl
 |succ k=>unfold dH;omega
def M9{v1 v2:Int}(d:1<=t)(b:r*18446744073709551616+u2<t*v2)(a:r+v1<18446744073709551616):dH t.toNat t r v1 v2 u2=dH (t-1).toNat (t-1) (r+v1) v1 v2 u2:=zay
def Na{v1 v2:Int}(d:1<=t)(b:r*18446744073709551616+u2<t*v2)(a:18446744073709551616<=r+v1):dH t.toNat t r v1 v2 u2=t-1:=zay
def Tv(b:w.length=L+1)(d:2<=L):val w=(w.getD L 0*18446744073709551616+w.getD (L-1) 0)*(18446744073709551616*18446744073709551616^(L-2))+w.getD (L-2) 0*18446744073709551616^(L-2)+val (w.take<|L-2):=by
 have g:=aM w L;have f:=aM w<|L-1;have e:=aM w<|L-2;have a:(2^64:Int)^(L-1)=(2^64)^(L-2)*2^64:=by rw[<-agR];congr 1;omega
 grind
def Tw(a:v.length=L)(b:2<=L):val v=v.getD (L-1) 0*(18446744073709551616*18446744073709551616^(L-2))+v.getD (L-2) 0*18446744073709551616^(L-2)+val (v.take<|L-2):=by
 have e:=aM v<|L-1;have d:=aM v<|L-2
 grind
structure MS(w v:List Int)(L q i:Nat)(u:List Int)(carry borrow:Nat):Prop where
 len:u.length=L+1
 dig:ji u
 same:∀k,i<=k->u.getD k 0=w.getD k 0
 c:carry<18446744073709551616
 b:borrow<=1
 eq:val (u.take i)+q*val (v.take i)=val (w.take i)+((carry:Int)+borrow)*18446744073709551616^i
def MS.start(h:w.length=L+1)(a:ji w):MS w v L q 0 w 0 0:=⟨h,a,λ_ _=>rfl,E,E,by simp[val]⟩
def split_mul{p:Nat}:(p%18446744073709551616+c)%18446744073709551616=(p+c)%18446744073709551616/\p/18446744073709551616+(p%18446744073709551616+c)/18446744073709551616=(p+c)/18446744073709551616:=by omega
def Ig{x:Nat}(d:q<18446744073709551616)(b:x<18446744073709551616)(a:c<18446744073709551616):(q*x+c)/18446744073709551616<18446744073709551616:=by have:q*x<=18446744073709551615*18446744073709551615:=agW E E;omega
def MS.next{b a:Nat}(h:MS w v L q i u b a)(hi:i<L)(f:q<18446744073709551616)(ev:v.getD i 0=vi)(o:w.getD i 0=ui)(e:vi<18446744073709551616)(hu:ui<18446744073709551616):
 MS w v L q (i+1) (u.set i ((ui+18446744073709551616-(q*vi+b)%18446744073709551616-a)%18446744073709551616:Nat)) ((q*vi+b)/18446744073709551616) (if ui<(q*vi+b)%18446744073709551616+a then 1 else 0):=by
 let⟨n,m,y,l,x,s⟩:=h;refine⟨by simp[n],fS m E,λk p=>?_,Ig f e l,g9,?_⟩
 grind
 rw[aM,fO<|abY _,dF,abx E,aM v,aM w,ev,o];obtain⟨lo,g⟩:∃lo,lo=(q*vi+b)%2^64:=⟨_,W⟩;obtain⟨d,j⟩:∃d,d=if ui<lo+a then 1 else 0:=⟨_,W⟩;have key:(((ui+2^64-lo-a)%2^64:Nat):Int)=(ui:Int)-lo-a+2^64*d:=by grind
 grind
def MS.last{b a:Nat}(h:MS w v L q L u b a)(n:w.length=L+1)(o:v.length=L)(A:w.getD L 0=ui)(hu:ui<18446744073709551616):
 (u.set L ((ui+18446744073709551616-b-a)%18446744073709551616:Nat)).length=L+1/\ji (u.set L ((ui+18446744073709551616-b-a)%18446744073709551616:Nat))/\
   val (u.set L ((ui+18446744073709551616-b-a)%18446744073709551616:Nat))+q*val v=val w+((if ui<b+a then 1 else 0:Nat):Int)*18446744073709551616^(L+1):=by
 let⟨f,l,z,y,s,p⟩:=h;refine⟨by simp[f],fS l E,?_⟩;obtain⟨x,j⟩:∃x,x=(ui+2^64-b-a)%2^64:=⟨_,W⟩;rw[<-j];have m:(u.set L (x:Int)).take (L+1)=u.set L (x:Int):=ad2 (by simp[f]);have g:=aM (u.set L (x:Int)) L;rw[m,fO .refl,dF,abx E]at g;have B:=aM w L;rw[g,agR];obtain⟨e,d⟩:∃e:Nat,e=if ui<b+a then 1 else 0:=⟨_,W⟩;rw[<-d];have key:(x:Int)=(ui:Int)-b-a+2^64*e:=by grind
 grind
structure AB(u2 v:List Int)(L i:Nat)(u:List Int)(c:Nat):Prop where
 len:u.length=L+1
 dig:ji u
 same:∀k,i<=k->u.getD k 0=u2.getD k 0
 hc:c<=1
 eq:val (u.take i)+(c:Int)*18446744073709551616^i=val (u2.take i)+val (v.take i)
def AB.start(h:w.length=L+1)(a:ji w):AB w v L 0 w 0:=⟨h,a,λ_ _=>rfl,E,by simp[val]⟩
def AB.next{u2:List Int}(h:AB u2 v L i u c)(hi:i<L)(ev:v.getD i 0=vi)(l:u2.getD i 0=ui)(d:vi<18446744073709551616)(hu:ui<18446744073709551616):
 AB u2 v L (i+1) (u.set i ((ui+vi+c)%18446744073709551616:Nat)) ((ui+vi+c)/18446744073709551616):=by
 let⟨b,a,j,g,f⟩:=h;refine⟨by simp[b],fS a E,λk e=>?_,E,?_⟩
 grind
 rw[aM,fO .refl,aM v,aM u2]
 grind
def AB.last{u2:List Int}(h:AB u2 v L L u c)(j:u2.length=L+1)(l:v.length=L)(p:u2.getD L 0=ui):
 (u.set L ((ui+c)%18446744073709551616:Nat)).length=L+1/\ji (u.set L ((ui+c)%18446744073709551616:Nat))/\
   val (u.set L ((ui+c)%18446744073709551616:Nat))+(((ui+c)/18446744073709551616:Nat):Int)*18446744073709551616^(L+1)=val u2+val v:=by
 let⟨d,f,o,n,m⟩:=h;refine⟨by simp[d],fS f E,?_⟩;obtain⟨x,e⟩:∃x,x=(ui+c)%2^64:=⟨_,W⟩;obtain⟨b,a⟩:∃b,b=(ui+c)/2^64:=⟨_,W⟩;rw[<-e,<-a];have y:(u.set L _).take (L+1)=u.set L (x:Int):=ad2 (by simp[d]);have g:=aM (u.set L (x:Int)) L;rw[fO .refl,dF]at g;have s:=aM u2 L;have key:(x:Int)=(ui:Int)+c-2^64*b:=E
 grind
def Lp(hl:u.length=L+1)(b:ji u)(h:val u+q*V=(U:Int))(d:(U:Int)<((q:Int)+1)*V):u=fx (L+1) (U%V)/\U/V=q:=by
 have g:=bK b;rw[ahS]at d;have a:(val u).toNat<V:=E;have e:U=(val u).toNat+V*q:=by grind
 have j:U%V=(val u).toNat:=by rw[e,Nat.add_mul_mod_self_left,ahr a]
 have f:U/V=q:=by rw[e,aih _ _ E,ahf a,ahY]
 refine⟨?_,f⟩;rw[<-hl];exact RN b E
def SZ{u2:List Int}{cy:Nat}(hl:u.length=L+1)(f:ji u)(a:u2.length=L+1)(b:ji u2)(h:val u2+q*V=(U:Int)+18446744073709551616^(L+1))(o:(V:Int)<18446744073709551616^(L+1))
 (l:((q:Int)-1)*V<=U)(s:val u+(cy:Int)*18446744073709551616^(L+1)=val u2+V)(j:cy<=1):u=fx (L+1) (U%V)/\U/V=q-1/\1<=q:=by
 have n:=jq f;have m:=jq b;rw[hl]at n;rw[a]at m;rw[aiL]at l;have g:1<=q:=by rcases af8 q with e|e;subst e;omega;exact e
 obtain⟨p,rfl⟩:∃p,q=p+1:=⟨q-1,E⟩;have x:(((p+1:Nat):Int))*V=(p:Int)*V+V:=by grind
 have d:cy=1:=by rcases aef cy 1 with e|e;have:cy=0:=E;subst this;omega;omega
 subst d;have:=Lp (U:=U) (V:=V) (q:=p) hl f E (by rw[ahS];omega);simp_all
end
end Go.Ai.bI
namespace Go.Ai.bI
def acd{uL u1 u2 v1 v2 P b a:Int}(f:0<P)(j:0<=u1)(c:0<=u2)(e:0<=b)(i:0<=v2/\v2<18446744073709551616)(d:0<=a/\a<P)
 (h:(uL*18446744073709551616+u1)*(18446744073709551616*P)+u2*P+b<18446744073709551616*(v1*(18446744073709551616*P)+v2*P+a)):uL<=v1:=by
 rcases aiq v1 uL with g|g;have m:(v1*2^64+2^64)*(2^64*P)<=(uL*2^64+u1)*(2^64*P):=ahM E E;have l:(v2+1)*P<=2^64*P:=ahM E E;have k:0<=u2*P:=agy c E
 grind
 exact g
def acb{t a u2 v1 v2 P c b:Int}(d:0<P)(g:0<=t)(j:0<=u2/\u2<18446744073709551616)(i:c<P)(e:0<=v2)(f:0<=b)(h:a<(t+1)*v1):
 a*(18446744073709551616*P)+u2*P+c<(t+1)*(v1*(18446744073709551616*P)+v2*P+b):=by
 have m:(a+1)*(2^64*P)<=((t+1)*v1)*(2^64*P):=ahM E E;have l:(u2+1)*P<=2^64*P:=ahM E E;have k:0<=(t+1)*(v2*P+b):=agy E (by have:=agy e<|af7 d;omega)
 grind
theorem xD(pre w post:List Int)(V:Nat)(hw:w.length=(ah V).length+1)(hwd:ji w)(hL:2<=(ah V).length)(htop:9223372036854775808<=(ah V).getD ((ah V).length-1) 0)
 (hU:val w<18446744073709551616*(V:Int))(hsz:pre.length+w.length+post.length<2^50):
 kg prog 334 [aj0<|pre++w++post] [.bH 500 0 0 [.oC 1 pre.length<|(ah V).length+1],gw<|ah V]
  [aj0<|pre++fx ((ah V).length+1) ((val w).toNat%V)++post] (.n .u64 ((val w).toNat/V:Nat)):=by
 have hvd:=bP V;have hvV:=bF V;have hV0:0<V:=by rcases af8 V with e|e;subst e;rw[dj]at hL;simp at hL;exact e
 generalize ah V=v at*;have hus:∀l:List Int,l.length=v.length+1->(pre++l++post).length=pre.length+(v.length+1)+post.length:=λl hl=>by grind
 have nat:∀(l:List Int),ji l->∀i,∃x:Nat,l.getD i 0=x/\x<18446744073709551616:=λl hd i=>by have:=bB hd i;exact⟨(l.getD i 0).toNat,E,E⟩
 obtain⟨v1,ev1,hv1⟩:=nat v hvd<|v.length-1;obtain⟨v2,ev2,hv2⟩:=nat v hvd<|v.length-2;obtain⟨uL,euL,huL⟩:=nat w hwd v.length;obtain⟨u1,eu1,hu1⟩:=nat w hwd<|v.length-1;obtain⟨u2,eu2,hu2⟩:=nat w hwd<|v.length-2;have eL:(v.length:Int).toNat=v.length:=E;have eL1:((v.length:Int)-1).toNat=v.length-1:=E;have eL2:((v.length:Int)-2).toNat=v.length-2:=E;have hul:=hus w hw;have m0:(pre++w++post).getD (pre.length+v.length) 0=uL:=by rw[p9 _ _ _ E,euL]
 have m1:(pre++w++post).getD (pre.length+(v.length-1)) 0=u1:=by rw[p9 _ _ _ E,eu1]
 have m2:(pre++w++post).getD (pre.length+(v.length-2)) 0=u2:=by rw[p9 _ _ _ E,eu2]
 obtain⟨P,hP⟩:∃P:Int,P=18446744073709551616^(v.length-2):=⟨_,W⟩;have hPp:0<P:=by rw[hP];exact eK _
 have pw:=Tv hw hL;have pv:=Tw W hL;rw[euL,eu1,eu2,<-hP]at pw;rw[ev1,ev2,hvV,<-hP]at pv;have hul0:=bK<|iw hwd<|v.length-2;have hul1:=jq<|iw hwd<|v.length-2;have hvl0:=bK<|iw hvd<|v.length-2;have hvl1:=jq<|iw hvd<|v.length-2;rw[afS,show min (v.length-2) w.length=v.length-2 from E,<-hP]at hul1;rw[afS,show min (v.length-2) v.length=v.length-2 from E,<-hP]at hvl1;have hv1b:9223372036854775808<=v1:=by rw[ev1]at htop;omega
 have htopU:∀t:Int,0<=t->(uL:Int)*18446744073709551616+u1<(t+1)*v1->val w<(t+1)*V:=by intro t ht h;have:=acb hPp ht (show 0<=(u2:Int)/\(u2:Int)<18446744073709551616 from E) hul1 (show 0<=(v2:Int)from E) hvl0 h;simp_all
 refine ns (fn:=Tryz.f334) func334 W W W W W<|Ao 5 (λt r:Nat=>[(0,.bH 500 0 0 [.oC 1 pre.length<|v.length+1]),(1,gw v),(5,.i v.length),(6,.n .u64 t),(7,.n .u64 (r%18446744073709551616:Nat)),(8,.n .u64 (r/18446744073709551616:Nat)),(500,aj0<|pre++w++post)])
  (λt r=>t<18446744073709551616/\r<2*18446744073709551616/\(t:Int)*v1+r=(uL:Int)*18446744073709551616+u1/\val w<((t:Int)+1)*V) ?_ λt r⟨ht,hr,htr,htV⟩=>?_
 refine k1 W aP ?_ ?_;simp only[aj,abu,eL,eL1,hul]<;>omega;refine cg W ?_ ?_<;>intro hc;rw[eL,eL1,m0,ev1]at hc;have hle:(uL:Int)<=v1:=acd (u1:=u1) (u2:=u2) (v2:=v2) hPp E E hul0 E ⟨hvl0,hvl1⟩ E;have heq:uL=v1:=E;refine r1 W ?_ ?_;simp only[aj,abu,eL,eL1,hul]<;>omega;refine UY (us:=[.n .u64 u1,.n .u64 v1,.n .u64 ((0:Nat):Int)]) W W trivial ⟨aal (SV.n .u64)<|by rw[eL1,m1],aal (SV.n .u64)<|by rw[eL1,ev1],W,trivial⟩ (iz u1 v1 0 gC) W<|k0 W aP<|iX (18446744073709551615,u1+v1) ⟨E,E,?_,?_⟩;dsimp only;omega;omega;rw[eL,eL1,m0,ev1]at hc;have hlt:uL<v1:=E;refine r1 W ?_ ?_;simp only[aj,abu,eL,eL1,hul]<;>omega;refine UY (us:=[.n .u64 uL,.n .u64 u1,.n .u64 v1]) W W trivial ⟨aal (SV.n .u64)<|by rw[eL,m0],aal (SV.n .u64)<|by rw[eL1,m1],aal (SV.n .u64)<|by rw[eL1,ev1],trivial⟩ (CQ uL u1 v1 hlt hv1 hu1) W<|k0 W aP ?_;have hdm:=ahO (uL*18446744073709551616+u1) v1;have hml:=aea (uL*18446744073709551616+u1) (show 0<v1 from E);have hdl:(uL*18446744073709551616+u1)/v1<18446744073709551616:=by rw[agX E];omega
 obtain⟨q,hq⟩:∃q,q=(uL*18446744073709551616+u1)/v1:=⟨_,W⟩;obtain⟨r,hr⟩:∃r,r=(uL*18446744073709551616+u1)%v1:=⟨_,W⟩;rw[<-hq,<-hr];rw[<-hq]at hdm hdl;rw[<-hr]at hdm hml;have hi:(q:Int)*v1+r=(uL:Int)*18446744073709551616+u1:=by grind
 refine meet (q,r) ⟨hdl,ac,hi,?_⟩ ⟨⟨W,W,W⟩,⟨W,W⟩,⟨W,W⟩,⟨W,W⟩,⟨W,aal (SV.n .u64)<|ac⟩,⟨W,aal (SV.n .u64)<|ac⟩,⟨W,W⟩,trivial⟩;dsimp only;refine htopU q E ?_
 grind
 obtain⟨G,hG⟩:∃G,G=dH (t:Int).toNat t r v1 v2 u2:=⟨_,W⟩;have hspec:=vp hPp (show(1:Int)<=v1 from E) (show 0<=(v2:Int)/\(v2:Int)<18446744073709551616 from E) (show 0<=(u2:Int)/\(u2:Int)<18446744073709551616 from E) ⟨hvl0,hvl1⟩ ⟨hul0,hul1⟩ pv pw hU (t:Int).toNat t r W E E htr htV;rw[<-hG]at hspec;refine Gb 1 (λq:Nat=>[(0,.bH 500 0 0 [.oC 1 pre.length<|v.length+1]),(1,gw v),(5,.i v.length),(6,.n .u64 q),(500,aj0<|pre++w++post)]) (λq=>(q:Int)=G) ?_ λq hq=>?_;refine r0 W<|lM (λt r:Nat=>[(0,.bH 500 0 0 [.oC 1 pre.length<|v.length+1]),(1,gw v),(5,.i v.length),(6,.n .u64 t),(7,.n .u64 (r%18446744073709551616:Nat)),(8,.n .u64 (r/18446744073709551616:Nat)),(500,aj0<|pre++w++post)])
  (λt r=>t<18446744073709551616/\r<2*18446744073709551616/\dH (t:Int).toNat t r v1 v2 u2=G) (λt _=>t) t r ⟨ht,hr,hG.symm⟩
  ⟨⟨W,W,W⟩,⟨W,W⟩,⟨W,W⟩,⟨W,W⟩,⟨W,W⟩,⟨W,W⟩,⟨W,W⟩,trivial⟩ ?_
 rintro t r⟨ht,hr,hG⟩;have hrd:r/18446744073709551616=0↔r<18446744073709551616:=E;refine cv W W ?_ ?_<;>intro hc;have hrW:r<18446744073709551616:=E;have er:r%18446744073709551616=r:=E;have hst:∀(h:t*v2<=r*18446744073709551616+u2),(t:Int)=G:=by intro h;rw[<-hG];exact(M8 E E).symm
 refine r1 W ?_ ?_;simp only[aj,abu,eL2]<;>omega;refine Hh (us:=[.n .u64 t,.n .u64 v2]) W W trivial ⟨W,aal (SV.n .u64)<|by rw[eL2,ev2],trivial⟩ (nU t v2 ht hv2) W<|r0 W ?_;have hmd:=ahO (t*v2) 18446744073709551616;have hml:=aea (t*v2) (show 0<18446744073709551616 from gC);obtain⟨hi,hhi⟩:∃hi,hi=t*v2/18446744073709551616:=⟨_,W⟩;obtain⟨lo,hlo⟩:∃lo,lo=t*v2%18446744073709551616:=⟨_,W⟩;rw[<-hhi,<-hlo];rw[<-hhi,<-hlo]at hmd;rw[<-hlo]at hml;rw[er];refine aI 78 W ?_ ?_<;>intro h;refine r0 W<|iX t<|hst E;refine r0 W ?_;have hnx:r*18446744073709551616+u2<t*v2->1<=t/\dH ((t-1:Nat):Int).toNat ((t-1:Nat):Int) ((r+v1:Nat):Int) v1 v2 u2=G:=by
  intro h;have h1:1<=t:=by grind
  have h2:(r:Int)*18446744073709551616+u2<(t:Int)*v2:=by omega
  refine⟨h1,?_⟩;have e1:((t-1:Nat):Int)=(t:Int)-1:=E;have e2:((r+v1:Nat):Int)=(r:Int)+v1:=E;rw[e1,e2,<-hG];rcases aiq ((r:Int)+v1) 18446744073709551616 with g|g;exact(M9 E h2 g).symm;rw[Na E h2 g];exact CC ⟨E,E⟩ g ⟨E,E⟩ E
 refine aI 82 W ?_ ?_<;>intro h2;refine r1 W ?_ ?_;simp only[aj,abu,eL2,hul]<;>omega;refine cg W ?_ ?_<;>intro h3;rw[eL2,m2]at h3;refine r0 W<|iX t<|hst E;rw[eL2,m2]at h3;obtain⟨g1,g2⟩:=hnx E;refine r1 W ?_ ?_;simp only[aj,abu,eL1]<;>omega;refine Hh (us:=[.n .u64 r,.n .u64 v1,.n .u64 ((0:Nat):Int)]) W W trivial ⟨W,aal (SV.n .u64)<|by rw[eL1,ev1],W,trivial⟩ (iz r v1 0 gC) W<|r0 W<|again (t-1,r+v1) (ac) ⟨ac,ac,g2⟩ ⟨⟨W,W,W⟩,⟨W,W⟩,⟨W,W⟩,⟨W,aal (SV.n .u64)<|SX (b:=1) g1 ht⟩,⟨W,W⟩,⟨W,W⟩,⟨W,W⟩,trivial⟩;obtain⟨g1,g2⟩:=hnx E;refine r1 W ?_ ?_;simp only[aj,abu,eL1]<;>omega;refine Hh (us:=[.n .u64 r,.n .u64 v1,.n .u64 ((0:Nat):Int)]) W W trivial ⟨W,aal (SV.n .u64)<|by rw[eL1,ev1],W,trivial⟩ (iz r v1 0 gC) W<|r0 W<|again (t-1,r+v1) (ac) ⟨ac,ac,g2⟩ ⟨⟨W,W,W⟩,⟨W,W⟩,⟨W,W⟩,⟨W,aal (SV.n .u64)<|SX (b:=1) g1 ht⟩,⟨W,W⟩,⟨W,W⟩,⟨W,W⟩,trivial⟩;have:(t:Int)=G:=by rw[<-hG];exact(CC ⟨E,E⟩ E ⟨E,E⟩ E).symm
 refine r0 W<|iX t this;have hqW:q<18446744073709551616:=E;rw[<-hq]at hspec;refine r0 W<|afc (λ(i:Nat)(u:List Int)(c b:Nat)=>[(0,.bH 500 0 0 [.oC 1 pre.length<|v.length+1]),(1,gw v),(5,.i v.length),(6,.n .u64 q),(11,.n .u64 b),(12,.n .u64 c),(104,.i v.length),(105,.i i),(500,aj0<|pre++u++post)])
  (λi u c b=>i<=v.length/\MS w v v.length q i u c b) (λi _ _ _=>v.length-i) 0 w 0 0 ⟨abX _,MS.start hw hwd⟩
  ⟨⟨W,W,W⟩,⟨W,W⟩,⟨W,W⟩,⟨W,W⟩,⟨W,W⟩,⟨W,W⟩,⟨W,W⟩,⟨W,W⟩,⟨W,W⟩,trivial⟩ ?_
 rintro i u c b⟨hi,hM⟩;have ei:(i:Int).toNat=i:=E;have huu:=hus u hM.len;refine cv W W (λhlt=>?_) (λhge=>?_)
 ·have hi':i<v.length:=E;obtain⟨vi,evi,hvi⟩:=nat v hvd i;obtain⟨ui,eui,hui⟩:=nat w hwd i;have mi:(pre++u++post).getD (pre.length+i) 0=ui:=by rw[p9 _ _ _ (fd),hM.same i<|abY _,eui]
  have hc:=hM.c;have hb:=hM.b;refine r1 W ?_ ?_;simp only[aj,abu,ei]<;>omega;refine Hh (us:=[.n .u64 q,.n .u64 vi]) W W trivial ⟨W,aal (SV.n .u64)<|by rw[ei,evi],trivial⟩ (nU q vi hqW hvi) W<|cu W W (iz (q*vi%18446744073709551616) c 0 gC) W<|r1 W ?_ ?_;simp only[aj,abu,ei,huu]<;>omega;obtain⟨k1,k2⟩:=split_mul (p:=q*vi) (c:=c);have hmb:=Ig hqW hvi hc;refine Hh (us:=[.n .u64 ui,.n .u64 ((q*vi+c)%18446744073709551616:Nat),.n .u64 b]) W W trivial ⟨aal (SV.n .u64)<|by rw[ei,mi],aal (SV.n .u64)<|by rw[ai0,k1],W,trivial⟩ (vX ui ((q*vi+c)%18446744073709551616) b hb) W<|r1 W ?_ ?_;simp only[aj,abu,ei,huu]<;>omega;refine again (i+1,u.set i ((ui+18446744073709551616-(q*vi+c)%18446744073709551616-b)%18446744073709551616:Nat),(q*vi+c)/18446744073709551616,(if ui<(q*vi+c)%18446744073709551616+b then 1 else 0)) (ac)
   ⟨ac,hM.next hi' hqW evi eui hvi hui⟩
   ⟨⟨W,W,W⟩,⟨W,W⟩,⟨W,W⟩,⟨W,W⟩,⟨W,W⟩,⟨W,aal (SV.n .u64)<|by rw[ai0,Dw E,k2]⟩,⟨W,W⟩,⟨W,W⟩,⟨W,aal (aj0)<|zaV⟩,trivial⟩
 have:i=v.length:=E;subst this;have ml:(pre++u++post).getD (pre.length+v.length) 0=uL:=by rw[p9 _ _ _ (fd),hM.same _<|abY _,euL]
 have hc:=hM.c;have hb:=hM.b;obtain⟨l1,l2,l3⟩:=hM.last hw W euL huL;have hVW:(V:Int)<18446744073709551616^(v.length+1):=by have:=jq hvd;omega
 have hU0:=bK hwd;have hUn:((val w).toNat:Int)=val w:=E;refine r1 W ?_ ?_;simp only[aj,abu,ei,huu]<;>omega;refine Hh (us:=[.n .u64 uL,.n .u64 c,.n .u64 b]) W W trivial ⟨aal (SV.n .u64)<|by rw[ei,ml],W,W,trivial⟩ (vX uL c b hb) W<|r1 W ?_ ?_;simp only[aj,abu,ei,huu]<;>omega;rw[ei,DC _ _ _ _ (fd)];obtain⟨u2',hu2'⟩:∃z,z=u.set v.length ((uL+18446744073709551616-c-b)%18446744073709551616:Nat):=⟨_,W⟩;rw[<-hu2']at l1 l2 l3⊢;obtain⟨bb,hbb⟩:∃z:Nat,z=if uL<c+b then 1 else 0:=⟨_,W⟩;rw[<-hbb]at l3⊢;have hbb1:bb<=1:=by grind
 refine cg W ?_ ?_<;>intro hz;have hz0:bb=0:=E;subst hz0;have hfit:=Lp (U:=(val w).toNat) (V:=V) (q:=q) l1 l2 (by grind) (by rw[hUn];exact hspec.1);refine r0 W<|LM [(4,.n .u64 q),(500,aj0<|pre++u2'++post)] ⟨⟨W,W,.le W⟩,⟨W,W,.le W⟩,trivial⟩ W ?_ ⟨⟨?_,W⟩,trivial⟩;exact aal (SV.n .u64) (by rw[hfit.2]);exact aal (aj0) (by rw[<-hfit.1]);have hz1:bb=1:=E;subst hz1;refine r0 W<|qQ (λ(i:Nat)(u:List Int)(c:Nat)=>[(0,.bH 500 0 0 [.oC 1 pre.length<|v.length+1]),(1,gw v),(5,.i v.length),(6,.n .u64 q),(17,.n .u64 c),(156,.i v.length),(157,.i i),(500,aj0<|pre++u++post)])
  (λi u c=>i<=v.length/\AB u2' v v.length i u c) (λi _ _=>v.length-i) 0 u2' 0 ⟨abX _,AB.start l1 l2⟩
  ⟨⟨W,W,W⟩,⟨W,W⟩,⟨W,W⟩,⟨W,W⟩,⟨W,W⟩,⟨W,W⟩,⟨W,W⟩,⟨W,W⟩,trivial⟩ ?_
 clear hM huu hu2' ml;rintro i u c⟨hi,hM⟩;have ei:(i:Int).toNat=i:=E;have huu:=hus u hM.len;refine cv W W (λhlt=>?_) (λhge=>?_)
 ·have hi':i<v.length:=E;obtain⟨vi,evi,hvi⟩:=nat v hvd i;obtain⟨ui,eui,hui⟩:=nat u2' l2 i;have mi:(pre++u++post).getD (pre.length+i) 0=ui:=by rw[p9 _ _ _ (fd),hM.same i<|abY _,eui]
  have hc:=hM.hc;refine r1 W ?_ ?_;simp only[aj,abu,ei,huu]<;>omega;refine UY (us:=[.n .u64 ui,.n .u64 vi,.n .u64 c]) W W trivial ⟨aal (SV.n .u64)<|by rw[ei,mi],aal (SV.n .u64)<|by rw[ei,evi],W,trivial⟩ (iz ui vi c hc) W<|k1 W aP ?_ ?_;simp only[aj,abu,ei,huu]<;>omega;refine again (i+1,u.set i ((ui+vi+c)%18446744073709551616:Nat),(ui+vi+c)/18446744073709551616) (ac)
   ⟨ac,hM.next hi' evi eui hvi hui⟩
   ⟨⟨W,W,W⟩,⟨W,W⟩,⟨W,W⟩,⟨W,W⟩,⟨W,W⟩,⟨W,W⟩,⟨W,W⟩,⟨W,aal (aj0)<|zaV⟩,trivial⟩
 have:i=v.length:=E;subst this;obtain⟨uu,euu,huu2⟩:=nat u2' l2 v.length;have ml:(pre++u++post).getD (pre.length+v.length) 0=uu:=by rw[p9 _ _ _ (fd),hM.same _<|abY _,euu]
 obtain⟨n1,n2,n3⟩:=hM.last l1 W euu;have hc:=hM.hc;have hbk:=SZ (U:=(val w).toNat) (V:=V) (q:=q) (cy:=(uu+c)/18446744073709551616) n1 n2 l1 l2 (by rw[<-hvV,l3,hUn];simp) hVW E (by rw[n3,hvV]) E;refine r1 W ?_ ?_;simp only[aj,abu,ei,huu]<;>omega;have es:(pre++u++post).set (pre.length+v.length) (IntKind.u64.wrap<|(uu:Int)+(c:Int))=pre++fx (v.length+1) ((val w).toNat%V)++post:=by rw[DC _ _ _ _ (fd),<-ajf,wrm,hbk.1]
 rw[ei,ml,es];refine LM [(4,.n .u64 (q-1:Nat)),(500,aj0<|pre++fx (v.length+1) ((val w).toNat%V)++post)] ⟨⟨W,W,.le ?_⟩,⟨W,W,.le W⟩,trivial⟩ W ?_ ⟨⟨W,W⟩,trivial⟩;exact aal (SV.n .u64)<|SX (b:=1) hbk.2.2 hqW;exact aal (SV.n .u64) (by rw[hbk.2.1])
section
variable{k m n v:Nat}
def lO:∀(a b v:Nat),fx (a+b) v=fx a v++fx b (v/18446744073709551616^a)
 |0,b,v=>by simp[fx]
 |a+1,b,v=>by rw[show a+1+b=(a+b)+1 from E];simp[fx];rw[lO a b,ah4,agS,aej 18446744073709551616]
def yb:∀(j v:Nat),fx j (v%18446744073709551616^j)=fx j v
 |0,v=>rfl
 |j+1,v=>by simp only[fx];rw[agS,aej,Nat.mod_mul_right_div_self,yb j,Nat.mod_mod_of_dvd _<|Nat.dvd_mul_right _ _]
def Kh(j v x:Nat):fx j (v+18446744073709551616^j*x)=fx j v:=by rw[<-yb,Nat.add_mul_mod_self_left,yb]
def Kg:∀k:Nat,fx k 0=List.replicate k 0
 |0=>rfl
 |k+1=>by simp[fx,Kg k];rfl
def zZ:∀{m v j:Nat},j<m->(fx m v).getD j 0=((v/18446744073709551616^j%18446744073709551616:Nat):Int)
 |m+1,v,0,h=>by simp[fx]
 |m+1,v,j+1,h=>by simp only[fx,List.getD_cons_succ];rw[zZ E,ah4,agS,aej 18446744073709551616]
def Xi{j d:Nat}(h:j<m)(b:d<18446744073709551616):(fx m v).set j d=fx m (v%18446744073709551616^j+18446744073709551616^j*(d+18446744073709551616*(v/18446744073709551616^(j+1)))):=by
 obtain⟨r,rfl⟩:∃r,m=j+(r+1):=⟨m-j-1,E⟩;have a:0<(2^64)^j:=ae9 gC;rw[lO j _,lO j _,Kh,yb,List.set_append_right _ _<|hZ,gW,aih _ _ a];simp[fx];rw[ah4]
 grind
def aav(h:n<=m):(fx m v).take n=fx n v:=by obtain⟨r,rfl⟩:∃r,m=n+r:=⟨m-n,E⟩;rw[lO,ai1<|by rw[gW];exact abY _,ad2<|by rw[gW];grind]
def R5(v:Nat):ah v=fx (ah v).length v:=RN (bP v)<|bF v
def nG(n:Nat):n<18446744073709551616^(ah n).length:=by
 have h:=bT n
 grind
def Kx(hn:0<n):18446744073709551616^((ah n).length-1)<=n:=by
 rcases iv n with h|h
 grind
 grind
def NA{X L:Nat}(d:18446744073709551616^L<=X)(e:X<18446744073709551616^(L+1)):(ah X).length=L+1:=by have a:=nG X;have b:=Kx (aey (ae9 gC) d);rcases Nat.lt_trichotomy (ah X).length (L+1)with g|g|g;have:=aeh (show 0<18446744073709551616 from gC) (show(ah X).length<=L from E);omega;exact g;have:=aeh (show 0<18446744073709551616 from gC) (show L+1<=(ah X).length-1 from E);omega
def zY(h:v<18446744073709551616^k):dC (fx k v)=ah v:=by
 apply aau
 grind
def YV(h:v<18446744073709551616^k):val (fx k v)=v:=by
 apply U9
 grind
def Vf{B x s:Nat}(F:0<B)(l:(ah B).getD ((ah B).length-1) 0=x)(hs:s=64-bl x):
 s<64/\bl x<=64/\9223372036854775808*18446744073709551616^((ah B).length-1)<=B*2^s/\B*2^s<18446744073709551616^(ah B).length:=by
 let⟨d,g⟩:=QN (A:=B) E;rw[l,agL]at d;have D:=gU (n:=B) E;have b:=nG B;obtain⟨a,f⟩:∃a,a=18446744073709551616^((ah B).length-1):=⟨_,W⟩;have w:2^(64*((ah B).length-1))=a:=by rw[f,ahU]
 have u:(2^64)^(ah B).length=2^64*a:=by rw[f,aej,<-agS];congr 1;omega
 rw[w]at d g;rw[u]at b⊢;have c:0<a:=E;have q:=ahO B a;have p:=aea B c;have j:0<x:=by grind
 have e:x<2^64:=by rw[<-d,agX c];exact b
 have H:=BP (x:=x) E;have C:=AG (x:=x) E;have z:=Ja x;have y:=adN e;have i:2^(bl x)*2^s=18446744073709551616:=by rw[<-aga];simp_all
 have h:2^(bl x-1)*2^s=9223372036854775808:=lm
 have o:0<2^s:=ae9 gC;refine⟨E,y,?_,?_⟩;have t:9223372036854775808*a<=x*2^s*a:=ad6 _ (by rw[<-h];exact ad6 _ C);have r:x*2^s*a<=B*2^s:=by rw[ahE,aej<|2^s,<-ahE];exact ad6 _ (by grind)
 omega;have t:B*2^s<(x+1)*a*2^s:=Nat.mul_lt_mul_of_pos_right (by grind) o;have r:(x+1)*a*2^s<=18446744073709551616*a:=by rw[ahE,aej a,<-ahE];exact ad6 _ (by rw[<-i];exact ad6 _ z)
 omega
end
def GO(k:Nat):0<18446744073709551616^k:=ae9 gC
def FX(A k:Nat):A/18446744073709551616^k=A/18446744073709551616^(k+1)*18446744073709551616+A/18446744073709551616^k%18446744073709551616:=by rw[agS,<-ah4];omega
def Bd(R x Y:Nat)(hY:0<Y):(R*18446744073709551616+x)/Y=R/Y*18446744073709551616+(R%Y*18446744073709551616+x)/Y/\(R*18446744073709551616+x)%Y=(R%Y*18446744073709551616+x)%Y:=by have:=D5 (2^64) 0 R x Y hY;grind
def NF{r x Y:Nat}(h:r<Y)(a:x<18446744073709551616):(r*18446744073709551616+x)/Y<18446744073709551616:=by rw[agX E];omega
def Wa{A V m j d:Nat}(c:0<V)(e:j<m)(b:d=(A/18446744073709551616^(j+1)%V*18446744073709551616+A/18446744073709551616^j%18446744073709551616)/V):
 (fx m<|A/18446744073709551616^(j+1)/V*18446744073709551616^(j+1)).set j d=fx m (A/18446744073709551616^j/V*18446744073709551616^j):=by
 have a:d<2^64:=by rw[b];exact NF (aea _ c)<|aea _ gC
 rw[Xi e a,ajw _<|GO _,agS];have g:(A/((2^64)^j*2^64)/V*(2^64)^j*2^64)%(2^64)^j=0:=by rw[ahE,aej<|(2^64)^j,<-ahE];simp_all
 have f:=(Bd (A/(2^64)^(j+1)) (A/(2^64)^j%2^64) V c).1;rw[<-FX,<-b]at f
 grind
def uk(A V k:Nat):Nat:=A%18446744073709551616^k+18446744073709551616^k*(A/18446744073709551616^k%V)
def YW(A V:Nat):uk A V 0=A%V:=by simp[uk,Nat.mod_one]
def ab8{A V k:Nat}(h:A/18446744073709551616^k<V):uk A V k=A:=by unfold uk;rw[ahr h];exact ahO _ _
def QL(A V k:Nat):uk A V (k+1)=A%18446744073709551616^k+18446744073709551616^k*(A/18446744073709551616^(k+1)%V*18446744073709551616+A/18446744073709551616^k%18446744073709551616):=by
 unfold uk;rw[Nat.mod_pow_succ,agS,ajo,ahE,<-aiU]
 congr 2
 omega
def ab9(A V k:Nat):uk A V (k+1)/18446744073709551616^k=A/18446744073709551616^(k+1)%V*18446744073709551616+A/18446744073709551616^k%18446744073709551616:=by rw[QL,aih _ _<|GO k,ahf<|aea _<|GO k,ahY]
def YX(A V k:Nat):uk A V k/18446744073709551616^k=A/18446744073709551616^k%V:=by unfold uk;rw[aih _ _<|GO k,ahf<|aea _<|GO k,ahY]
def afw(A V k:Nat):fx k (uk A V k)=fx k A:=by unfold uk;rw[Kh,yb]
def adk(A V k:Nat):fx k (uk A V<|k+1)=fx k A:=by rw[QL,Kh,yb]
def FV(A V m j:Nat)(h:2<=(ah V).length)(b:9223372036854775808<=(ah V).getD ((ah V).length-1) 0)(hm:m<2^48)(t:j+(ah V).length+1<=m):
 kg prog 334 [aj0<|fx m<|uk A V<|j+1] [.bH 500 0 0 [.oC 1 j<|(ah V).length+1],gw<|ah V]
  [aj0<|fx m<|uk A V j] (.n .u64 ((A/18446744073709551616^(j+1)%V*18446744073709551616+A/18446744073709551616^j%18446744073709551616)/V:Nat)):=by
 have c:0<V:=by rcases af8 V with e|e;subst e;rw[dj]at h;cases h;exact e
 obtain⟨n,hn⟩:∃n,n=(ah V).length:=⟨_,W⟩;have d:=nG V;rw[<-hn]at d;obtain⟨r,k⟩:∃r,m=j+((n+1)+r):=⟨m-j-(n+1),E⟩;obtain⟨T,g⟩:∃T,T=A/18446744073709551616^(j+1)%V*2^64+A/(2^64)^j%2^64:=⟨_,W⟩;have o:=aea (A/18446744073709551616^(j+1)) c;have a:T<18446744073709551616^(n+1):=by omega
 have p:uk A V (j+1)/(2^64)^j=T:=by rw[ab9,g]
 have i:A/(2^64)^j%V=T%V:=by rw[g,<-(Bd _ _ V c).2,<-FX]
 have f:T%V<(2^64)^(n+1):=ahn (Nat.mod_le _ _) a;have s:fx m (uk A V<|j+1)=fx j A++fx (n+1) T++fx r 0:=by rw[k,lO,lO,p,adk,ahf a,aen]
 have q:fx m (uk A V j)=fx j A++fx (n+1) (T%V)++fx r 0:=by rw[k,lO,lO,YX,afw,i,ahf f,aen]
 have l:=YV a;have:=xD (fx j A) (fx (n+1) T) (fx r 0) V (by rw[gW,hn]) (P9 _ _) h b E (by rw[gW,gW,gW];omega);rw[l,agL,gW,<-hn,<-q,<-s,g]at this;rwa[<-hn]
def sk(R s k:Nat):Nat:=R%18446744073709551616^k+18446744073709551616^k*(R*2^s/18446744073709551616^k)
def Zg(R s:Nat):sk R s 0=R*2^s:=by simp[sk,Nat.mod_one]
def VA(R s k:Nat):sk R s k/18446744073709551616^k=R*2^s/18446744073709551616^k:=by unfold sk;rw[aih _ _<|GO k,ahf<|aea _<|GO k,ahY]
def acq(R s k:Nat):sk R s k%18446744073709551616^k=R%18446744073709551616^k:=by unfold sk;simp
def QY(R s k:Nat):sk R s k/18446744073709551616^(k+1)=R*2^s/18446744073709551616^(k+1):=by rw[agS,<-ah4,VA,ah4]
def afx(R s k:Nat):fx k (sk R s k)=fx k R:=by unfold sk;rw[Kh,yb]
def QX{R s m k d:Nat}(b:k<m)(c:d=R/18446744073709551616^k%18446744073709551616):(fx m<|sk R s k).set k d=fx m (sk R s<|k+1):=by
 have a:d<2^64:=E;rw[Xi b a,acq,QY]
 conv=>unfold sk
 rw[Nat.mod_pow_succ]
 grind
def LC{R s k x y:Nat}(hs:s<64)(o:x=R*2^s/18446744073709551616^k%18446744073709551616)(d:y=R*2^s/18446744073709551616^(k+1)%18446744073709551616):
 (y*2^(64-s)%18446744073709551616)+x/2^s=R/18446744073709551616^k%18446744073709551616/\x/2^s<2^(64-s)/\y*2^(64-s)%18446744073709551616=y%2^s*2^(64-s):=by
 have b:0<2^s:=ae9 gC;have e:2^s*2^(64-s)=18446744073709551616:=lm
 obtain⟨Z,f⟩:∃Z,Z=R*2^s/18446744073709551616^k:=⟨_,W⟩;have h:R/(2^64)^k=Z/2^s:=by rw[f,ah4,aej<|18446744073709551616^k,<-ah4,ajw _ b]
 rw[agS,<-ah4,<-f]at d;rw[h];obtain⟨a,c⟩:∃a,a=Z/2^64:=⟨_,W⟩;rw[<-c]at d;have j:Z=x+18446744073709551616*a:=E;have n:Z/2^s=x/2^s+2^(64-s)*a:=by rw[j,<-e,ahE,aih _ _ b]
 have g:x/2^s<2^(64-s):=by rw[agX b,aej];omega
 have m:y*2^(64-s)%18446744073709551616=y%2^s*2^(64-s):=by rw[<-e,ajv]
 have l:y%2^s=a%2^s:=by rw[d,<-e,Nat.mod_mul_right_mod]
 rw[m,l,n];have q:=ahO a<|2^s;have p:x/2^s+2^(64-s)*a=(a%2^s*2^(64-s)+x/2^s)+2^64*(a/2^s):=by grind
 have i:(a%2^s+1)*2^(64-s)<=2^s*2^(64-s):=ad6 _<|aea a b
 grind
theorem Aj(A B:Nat)(hB:0<B)(hA:(ah A).length<2^40)(hBl:(ah B).length<2^40):
 ab 299 [gw<|ah A,gw<|ah B] (.de [gw<|ah<|A/B,gw<|ah<|A%B]):=by
 have hb0:=gU (n:=B) E;refine cx func299 W<|cu W W (qm A B E E) W<|cv W W ?_ ?_<;>intro h;have hlt:A<B:=by unfold qn at h;split at h<;>omega
 refine cm W W ⟨?_,aj8 (gw) ?_,U⟩;rw[ahf hlt,dj];rfl;rw[ahr hlt];have hge:B<=A:=by unfold qn at h;split at h<;>omega
 have hlen:=length_le hge;refine cv W W ?_ ?_<;>intro h1;have hl1:(ah B).length=1:=E;have hA0:0<(ah A).length:=gU E;have hBW:B<18446744073709551616:=by have:=nG B;simp_all
 have eA:(((ah A).length:Nat):Int).toNat=(ah A).length:=E;have hbd:(ah B).getD 0 0=B:=by rw[pq hB hBW];rfl
 refine r1 W bj<|loop (λk:Nat=>[(0,gw<|ah A),(1,gw<|ah B),(6,aj0<|fx (ah A).length<|A/18446744073709551616^k/B*18446744073709551616^k),(7,.n .u64 (A/18446744073709551616^k%B:Nat)),(8,.i<|(k:Int)-1)])
  (λk=>k<=(ah A).length) (λk=>k) (ah A).length (abY _) ⟨G,G,⟨W,aj8 (aj0) ?_⟩,⟨W,aj8 (SV.n .u64) ?_⟩,G,U⟩ ?_
 rw[eA,ahf<|nG A,Nat.zero_div,Nat.zero_mul,Kg];rw[ahf<|nG A,Nat.zero_mod];rfl;intro k hk;refine cv W W ?_ ?_<;>intro h;obtain⟨j,rfl⟩:∃j,k=j+1:=⟨k-1,E⟩;have ej:(((j+1:Nat):Int)-1).toNat=j:=E;have hx:(ah A).getD j 0=((A/18446744073709551616^j%18446744073709551616:Nat):Int):=by rw[R5 A];exact zZ E
 have hr:=aea (A/18446744073709551616^(j+1)) hB;refine k1 W aP ?_ ?_;simp only[aj,abu,ej]<;>omega;have hd:=NF hr<|aea (A/18446744073709551616^j)<|show 0<18446744073709551616 from gC;refine UY (us:=[.n .u64 (A/18446744073709551616^(j+1)%B:Nat),.n .u64 (A/18446744073709551616^j%18446744073709551616:Nat),.n .u64 B]) W W U ⟨W,aal (SV.n .u64)<|by rw[ej,hx],aal (SV.n .u64) hbd,U⟩
  (CQ _ _ B hr hBW<|aea _ gC) W<|k1 W aP ?_ ?_
 simp only[aj,abu,ej,gW]<;>omega;refine again j E E ⟨G,G,⟨W,aj8 (aj0) ?_⟩,⟨W,aj8 (SV.n .u64) ?_⟩,⟨W,aj8 (SV.n .i64) ?_⟩,U⟩;rw[ej];exact Wa hB E W;rw[<-(Bd _ _ B hB).2,<-FX];omega;have hk0:k=0:=E;subst hk0;rw[Nat.pow_zero,Nat.div_one,Nat.mul_one];have hm:=aea A hB;refine cu W W (dT (fx (ah A).length<|A/B)<|hZ) W ?_;refine r0 W<|Hh (us:=[gw [((A%B:Nat):Int)]]) W W U ⟨aB.of_eq W,U⟩ (dT [((A%B:Nat):Int)] I) W<|cm W W ⟨aj8 (gw) ?_,aj8 (gw) ?_,U⟩;exact zY<|ahn (aif _ _)<|nG A;rw[fk λd hd=>by simp at hd;omega];rfl;obtain⟨x,hx,hxW⟩:=nZ B<|(ah B).length-1;obtain⟨s,hs⟩:∃s,s=64-bl x:=⟨_,W⟩;obtain⟨n1,n2,n3,n4⟩:=Vf hB hx hs;have es:(64:Int)-(bl x:Int)=(s:Int):=E;have eL1:(((ah B).length:Int)-1).toNat=(ah B).length-1:=E;have hl2:(ah B).length=(ah B).length-2+2:=E;obtain⟨V,hV⟩:∃V,V=B*2^s:=⟨_,W⟩;obtain⟨X,hX⟩:∃X,X=A*2^s:=⟨_,W⟩;have hp2:0<2^s:=ae9 gC;have hVB:X/V=A/B/\X%V=A%B*2^s:=by rw[hX,hV];exact⟨aju _ _ hp2,ajv _ _ _⟩
 rw[<-hV]at n3 n4;have hVlen:(ah V).length=(ah B).length:=by
  have:=NA (X:=V) (L:=(ah B).length-1) (by omega) (by grind)
  omega
 have hVtop:9223372036854775808<=(ah V).getD ((ah V).length-1) 0:=by
  rw[hVlen];have e:=zZ (m:=(ah B).length) (v:=V) (j:=(ah B).length-1) E;rw[<-hVlen,<-R5,hVlen]at e;rw[e];have hq:=GO<|(ah B).length-1;have h1:9223372036854775808<=V/18446744073709551616^((ah B).length-1):=by rw[ajJ hq];exact n3
  have h2:V/18446744073709551616^((ah B).length-1)<18446744073709551616:=by
   rw[agX hq,aej,<-agS]
   grind
  omega
 have hV0:0<V:=by grind
 have htk:X/18446744073709551616^((ah A).length-(ah B).length+1)<V:=by
  rw[agX<|GO _];have h1:X<18446744073709551616^(ah A).length*2^s:=by rw[hX];exact Nat.mul_lt_mul_of_pos_right (nG A) hp2
  have h2:18446744073709551616^(ah A).length=18446744073709551616^((ah B).length-1)*18446744073709551616^((ah A).length-(ah B).length+1):=by rw[<-aga];congr 1;omega
  have h3:2^s<=9223372036854775808:=by have:=aeh (show 0<2 from gC) (show s<=63 from E);exact this
  have h4:2^s*18446744073709551616^((ah B).length-1)<=V:=ab7 (ad6 _ h3) n3;have h5:=ad6 (18446744073709551616^((ah A).length-(ah B).length+1)) h4;have h6:18446744073709551616^(ah A).length*2^s=2^s*18446744073709551616^((ah B).length-1)*18446744073709551616^((ah A).length-(ah B).length+1):=by grind
  omega
 refine r1 W (by simp only[aj,abu,eL1]<;>omega) ?_;refine Hh (us:=[.n .u64 x]) W W U ⟨aal (SV.n .u64)<|by rw[eL1,hx],U⟩ (E0 x hxW) W ?_;rw[es];refine cu W W (xb B s n1 hBl) W<|cu W W (dT (fx ((ah B).length+1)<|B*2^s)<|hZ) W ?_;rw[<-hV,zY (show V<18446744073709551616^((ah B).length+1) by omega)]
 refine cu W W (xb A s n1 hA) W ?_;rw[<-hX];refine r1 W bj ?_;rw[hVlen];have c1:(((ah A).length:Int)-((ah B).length:Int)+1).toNat=(ah A).length-(ah B).length+1:=E;refine loop (λk:Nat=>[(9,.i s),(10,gw<|ah V),(11,aj0<|fx ((ah A).length+1)<|uk X V k),(12,.i (ah B).length),(13,aj0<|fx ((ah A).length-(ah B).length+1)<|X/18446744073709551616^k/V*18446744073709551616^k),(14,.i<|(k:Int)-1)])
  (λk=>k<=(ah A).length-(ah B).length+1) (λk=>k) ((ah A).length-(ah B).length+1) (abY _) ⟨G,G,⟨W,aj8 (aj0) ?_⟩,G,⟨W,aj8 (aj0) ?_⟩,⟨W,aj8 (SV.n .i64) ?_⟩,U⟩ ?_
 rw[ab8 htk];rw[c1,ahf htk,Nat.zero_mul,Kg];omega;intro k hk;refine cv W W ?_ ?_<;>intro h;obtain⟨j,rfl⟩:∃j,k=j+1:=⟨k-1,E⟩;have ej:(((j+1:Nat):Int)-1)=(j:Int):=E;rw[ej];refine UW 12 W bj<|agi Go.Ai.hA W W ?_ ?_;simp only[aj,app,abu,gW]<;>omega;refine r0 W<|cr W W (kg.same (FV X V ((ah A).length+1) j E hVtop E E) W ?_ W W) W ?_;show aE [_,_]=aE [SV.bH 500 0 0 [Step.oC 1 (j:Int).toNat<|((j:Int)+((ah B).length:Int)+1).toNat-(j:Int).toNat],SV.ints IntKind.u64 false<|ah V]
 grind
 refine r1 W (by simp only[aj,abu,gW]<;>omega) ?_;refine again j E E ⟨G,G,G,G,⟨W,aj8 (aj0) ?_⟩,G,U⟩;rw[agL];exact Wa hV0 E W;have hk0:k=0:=E;subst hk0;rw[Nat.pow_zero,Nat.div_one,Nat.mul_one,YW,hVB.1,hVB.2];have hRB:=aea A hB;refine cp W (λk:Nat=>[(9,.i s),(11,aj0<|fx ((ah A).length+1)<|sk (A%B) s k),(12,.i (ah B).length),(13,aj0<|fx ((ah A).length-(ah B).length+1)<|A/B),(96,.i (ah B).length),(97,.i k)])
  (λk=>k<=(ah B).length) (λk=>(ah B).length-k) 0 (abX _) ⟨G,⟨W,aj8 (aj0)<|by rw[Zg]⟩,G,G,G,G,U⟩ ?_
 intro k hk;have ek:(k:Int).toNat=k:=E;refine cv W W ?_ ?_<;>intro h;obtain⟨x,hx⟩:∃x,x=A%B*2^s/18446744073709551616^k%18446744073709551616:=⟨_,W⟩;obtain⟨y,hy⟩:∃y,y=A%B*2^s/18446744073709551616^(k+1)%18446744073709551616:=⟨_,W⟩;obtain⟨d1,d2,d3⟩:=LC n1 hx hy;have gx:(fx ((ah A).length+1)<|sk (A%B) s k).getD k 0=x:=by rw[zZ E,VA,<-hx]
 have gy:(fx ((ah A).length+1)<|sk (A%B) s k).getD (k+1) 0=y:=by rw[zZ E,QY,<-hy]
 refine r1 W (m8) ?_;have hshr:((x:Nat):Int).fdiv (2^min ((s:Nat):Int).toNat IntKind.u64.bits)=((x/2^s:Nat):Int):=Zi x s E;refine aI 109 W ?_ ?_<;>intro h;refine r1 W (by simp only[aj,app,abu]<;>omega) ?_;refine cg W ?_ ?_<;>intro h2;have hsub:((64:Int)-(s:Int))=((64-s:Nat):Int):=E;refine k1 W aP (by simp only[aj,app,abu,ahy,gW]<;>omega) ?_;refine again (k+1) E E ⟨G,⟨W,aj8 (aj0) ?_⟩,G,G,G,G,U⟩;have g2:((fx ((ah A).length+1)<|sk (A%B) s k).set k ((x/2^s:Nat):Int)).getD (k+1) 0=y:=by grind
 rw[ek,gx,hshr,GZ<|hZ,show((k:Int)+1).toNat=k+1 from E,g2,hsub,VD y (64-s) E,d3,ae2 (y%2^s) (x/2^s) (64-s) E d2,List.set_set];exact QX E (by rw[<-d3,d1]);rw[ahy,gW]at h2;exact abK E h2;have hs0:s=0:=E;refine r1 W (by simp only[aj,app,abu]<;>omega) ?_;refine again (k+1) E E ⟨G,⟨W,aj8 (aj0) ?_⟩,G,G,G,G,U⟩;rw[ek,gx,hshr];refine QX E ?_;rw[hx,hs0];simp;have hk:k=(ah B).length:=E;subst hk;refine k1 W aP (m8) ?_;have t1:dC (fx ((ah A).length-(ah B).length+1)<|A/B)=ah (A/B):=by apply zY;rw[<-hVB.1,agX hV0,aej];rw[agX<|GO _]at htk;exact htk
 have t2:dC ((fx ((ah A).length+1)<|sk (A%B) s (ah B).length).take (ah B).length)=ah (A%B):=by rw[aav E,afx];exact zY<|ai9 hRB<|nG B
 refine b9 W (dT _<|hZ) W ?_;rw[t1];refine k1 W aP (m8) ?_;refine UY (us:=[gw<|(fx ((ah A).length+1)<|sk (A%B) s (ah B).length).take (ah B).length]) W W U ⟨aj8 (gw) ?_,U⟩ (dT _<|by grind) W ?_;simp;rw[t2];refine k0 W aP<|aJ W ⟨aB.of_eq W,aB.of_eq W,U⟩
def i1:Nm:=⟨1,none⟩
def P6(a b:Nm):Nm×Nm:=
 if a.w=none/\b.w=none/\a.s≠ -9223372036854775808 then(⟨a.s/b.s,none⟩,⟨a.s%b.s,none⟩)
 else if a.s<0/\(nv a).natAbs%(nv b).natAbs≠0 then(Lm (uB (decide (a.s<0))<|(nv a).natAbs/(nv b).natAbs) i1,vR (uB (decide (a.s<0))<|(nv a).natAbs%(nv b).natAbs) b)
 else(uB (decide (a.s<0))<|(nv a).natAbs/(nv b).natAbs,uB (decide (a.s<0))<|(nv a).natAbs%(nv b).natAbs)
def abA:bz i1:=⟨gC,gC⟩
def afv:nv i1=1:=W
def abz{K:Nat}(h:1<=K):fY i1 K:=ab7 (gJ gC) h
def sw{a b q r:Int}(f:0<b)(h:q*b+r=a)(d:0<=r)(c:r<b):a/b=q/\a%b=r:=by
 have e:a=r+b*q:=by grind
 subst e;rw[Int.add_mul_ediv_left _ _ E,Int.add_mul_emod_self_left,Int.ediv_eq_zero_of_lt d c,Int.emod_eq_of_lt d c];grind
def Ah(a b:Nm)(k:bz a)(j:bz b)(d:0<nv b):(nv (P6 a b).1=nv a/nv b/\bz (P6 a b).1)/\(nv (P6 a b).2=nv a%nv b/\bz (P6 a b).2):=by
 have i:=kp a k;have u:0<(nv b).natAbs:=E;have p:=ahO (nv a).natAbs (nv b).natAbs;have o:=aea (nv a).natAbs u;unfold P6;split;rename_i g;let⟨s,w⟩:=a;let⟨t,v⟩:=b;obtain⟨rfl,rfl,D⟩:w=none/\v=none/\s≠_:=g;have hs: -2^63<=s/\s<=(2^63-1):=k;have z: -2^63<=t/\t<=(2^63-1):=j;have d:0<t:=d;have C:=aid s (show t≠0 from E);have B:=aie s d;refine⟨⟨W,?_⟩,⟨W,?_⟩⟩;show -2^63<=s/t/\s/t<=(2^63-1);constructor;have:s<=s/t\/0<=s/t:=by
  rcases aiq s 0 with g|g;left;have x:=Int.le_ediv_of_mul_le d (show s*t<=s by
   have A: -s*1<= -s*t:=agh (E) (E)
   grind)
  exact x;right;exact aiJ g E
 omega;have:s/t<=s\/s/t<=0:=by rcases aiq s 0 with g|g;right;have:=Int.ediv_neg_of_neg_of_pos g d;omega;left;exact Int.ediv_le_self _ g
 omega;show -2^63<=s%t/\s%t<=(2^63-1);omega;have h:=oQ (decide (a.s<0))<|(nv a).natAbs/(nv b).natAbs;have m:=rk (decide (a.s<0))<|(nv a).natAbs/(nv b).natAbs;have f:=oQ (decide (a.s<0))<|(nv a).natAbs%(nv b).natAbs;have l:=rk (decide (a.s<0))<|(nv a).natAbs%(nv b).natAbs;generalize uB (decide (a.s<0)) ((nv a).natAbs/(nv b).natAbs)=c at*;generalize uB (decide (a.s<0)) ((nv a).natAbs%(nv b).natAbs)=R at*;generalize (nv a).natAbs/(nv b).natAbs=q at*;generalize (nv a).natAbs%(nv b).natAbs=r at*;split;rename_i g;let⟨g1,g2⟩:=g;let⟨y,J⟩:=AZ c i1 m abA;let⟨H,F⟩:=lV R b l j;rw[abx<|lw]at h f;have e:nv a<0:=i.1.1 g1;have:=sw (a:=nv a) (b:=nv b) (q:= -(q:Int)-1) (r:= -(r:Int)+nv b) d (by grind) E E;rw[afv]at y;simp_all;rename_i g;by_cases g1:a.s<0;have g2:r=0:=by omega
 rw[abx<|lw]at h f;have e:nv a<0:=i.1.1 g1;subst g2;have:=sw (a:=nv a) (b:=nv b) (q:= -(q:Int)) (r:=0) d (by grind) E E;simp_all;rw[abl<|lw]at h f;have n:0<=nv a:=by omega
 have:=sw (a:=nv a) (b:=nv b) (q:=(q:Int)) (r:=r) d (by grind) E E;simp_all
def Oz{a b:Int}(c:0<b):(a.tmod b<0->a/b=a.tdiv b-1/\a%b=a.tmod b+b)/\(0<=a.tmod b->a/b=a.tdiv b/\a%b=a.tmod b)/\ -b<a.tmod b/\a.tmod b<b/\a.natAbs/b.natAbs=(a.tdiv b).natAbs:=by
 have key:a.tdiv b*b+a.tmod b=a/\ -b<a.tmod b/\a.tmod b<b/\a.natAbs/b.natAbs=(a.tdiv b).natAbs:=by
  rcases aiq a 0 with g|g;obtain⟨n,rfl⟩:∃n:Nat,a= -(n:Int):=⟨a.natAbs,E⟩;obtain⟨m,rfl⟩:∃m:Nat,b=(m:Int):=⟨b.natAbs,E⟩;rw[Int.neg_tdiv,Int.neg_tmod,aiI E,Int.neg_mul];have e:=Nat.div_add_mod n m;have d:=aea n (show 0<m from E)
  grind
  obtain⟨n,rfl⟩:∃n:Nat,a=(n:Int):=⟨a.natAbs,E⟩;obtain⟨m,rfl⟩:∃m:Nat,b=(m:Int):=⟨b.natAbs,E⟩;have e:=Nat.div_add_mod n m;have d:=aea n (show 0<m from E)
  grind
 refine⟨λh=>?_,λh=>?_,key.2.1,key.2.2.1,key.2.2.2⟩;exact sw c (by rw[aiL];omega) E E;exact sw c key.1 h key.2.2.1
def FU(a b:Nm)(e:bz a)(d:bz b)(h0:0<nv b){K:Nat}(l:fY a K)(u:fY b K)(hK:K<2^38):
 ab 282 [eN a,eN b] (.de [eN (P6 a b).1,eN (P6 a b).2]):=by
 have t:=xt e;have s:=xt d;have X:=kp a e;have V:=kp b d;have M:0<(nv b).natAbs:=E;have A:=JR a e;have z:=JR b d;have J:=Aj (nv a).natAbs (nv b).natAbs M (by have:(ah (nv a).natAbs).length<=K:=l;omega) (by have:(ah (nv b).natAbs).length<=K:=u;omega);have lq:(ah<|(nv a).natAbs/(nv b).natAbs).length<=K:=ab7 (nr _ _) l;have lr:(ah<|(nv a).natAbs%(nv b).natAbs).length<=K:=ab7 (length_le<|Nat.mod_le _ _) l;refine cx func282 W<|cU 2 [(2,.box true<|eN a),(3,.box true<|eN b),(4,.box true<|.agg [.i 0,.nil]),(5,.box true<|.agg [.i 0,.nil])] (¬(a.w=none/\b.w=none/\a.s≠ -9223372036854775808)) ?_ λH=>?_;refine ck W 19 W ?_ ?_<;>intro g1;refine ck W 24 W ?_ ?_<;>intro g2;have T:=t.1 g1;have S:=s.1 g2;refine cv W W ?_ ?_<;>intro f;have f:a.s≠ -2^63:=f;have n:P6 a b=(⟨a.s/b.s,none⟩,⟨a.s%b.s,none⟩):=by unfold P6;simp_all
 rw[n];have hs: -2^63<=a.s/\a.s<=(2^63-1):=by unfold bz at e;rw[T]at e;exact e
 have ht: -2^63<=b.s/\b.s<=(2^63-1):=by unfold bz at d;rw[S]at d;exact d
 have o:0<b.s:=gn;refine kw [33,38] W aP ?_ ?_;simp only[aj,abu];omega;let⟨P,O,f3,f4,N⟩:=Oz (a:=a.s) o;have D:(a.s.tdiv b.s).natAbs<=a.s.natAbs:=by rw[<-N];exact aif _ _
 have F: -2^63<a.s.tdiv b.s/\a.s.tdiv b.s<=(2^63-1):=E;have C:IntKind.i64.wrap (a.s.tdiv b.s)=a.s.tdiv b.s:=by rw[wrI];omega
 rw[C];refine cg W ?_ ?_<;>intro h;let⟨q,p⟩:=P h;refine k1 W aP bj<|aJ W ⟨⟨aj8 SV.i q.symm,W,U⟩,⟨aj8 SV.i p.symm,W,U⟩,U⟩;let⟨q,p⟩:=O E;refine k1 W aP bj<|aJ W ⟨⟨aj8 SV.i q.symm,W,U⟩,⟨aj8 SV.i p.symm,W,U⟩,U⟩;have f:¬a.s≠ -9223372036854775808:=f;refine r0 W<|bo λg=>f g.2.2;refine r0 W<|bo λg=>g2<|s.2 g.2.1;refine r0 W<|bo λg=>g1<|t.2 g.1;unfold P6;rw[abl H];have v:decide (a.s<0)=decide (nv a<0):=gn;have Z:=oQ (decide (a.s<0))<|(nv a).natAbs/(nv b).natAbs;have y:=rk (decide (a.s<0))<|(nv a).natAbs/(nv b).natAbs;have Y:=oQ (decide (a.s<0))<|(nv a).natAbs%(nv b).natAbs;have r:=rk (decide (a.s<0))<|(nv a).natAbs%(nv b).natAbs;have m1:=WQ (decide (a.s<0)) ((nv a).natAbs/(nv b).natAbs) E;have B:=WQ (decide (a.s<0)) ((nv a).natAbs%(nv b).natAbs) E;have j:nv (uB (decide (a.s<0))<|(nv a).natAbs%(nv b).natAbs)<0↔(a.s<0/\(nv a).natAbs%(nv b).natAbs≠0):=by grind
 have x:fY (uB (decide (a.s<0))<|(nv a).natAbs/(nv b).natAbs) (K+1):=by unfold fY;grind
 have w:fY (uB (decide (a.s<0))<|(nv a).natAbs%(nv b).natAbs) (K+1):=by unfold fY;grind
 refine cu W W A W<|cu W W z W<|cu W W J W<|cu W W m1 W<|cu W W B W<|r0 W ?_;have m:=A2 _ r;have i:=abf _ i1 y abA x (abz E) E;have k:=Od _ b r d w (ab7 u<|ain _) E;generalize uB (decide (a.s<0)) ((nv a).natAbs/(nv b).natAbs)=c at*;generalize uB (decide (a.s<0)) ((nv a).natAbs%(nv b).natAbs)=R at*;refine b8 W m W<|cv W W ?_ ?_<;>intro h;have h:(nv R).sign<0:=h;rw[abx<|j.1<|ahF.1 h];refine ct W W (EF 1) W<|ct W W i W<|ct W W k W<|k0 W aP<|bY W;have h:¬(nv R).sign<0:=h;rw[abl λg=>h<|ahF.2<|j.2 g];refine k0 W aP<|bY W
section
variable{K:Nat}{a:Nm}
def eh{L:Nat}(h:fY a K)(hl:K<=L):fY a L:=ab7 h hl
def Bf{b:Nm}(h:(nv b).natAbs<=(nv a).natAbs)(c:fY a K):fY b K:=ab7 (length_le h) c
def L2(a b:Nm):Nm:=if nv b<0 then(P6 (kq a)<|kq b).1 else(P6 a b).1
def A9(a b:Nm)(e:bz a)(d:bz b)(h:nv b≠0)(f:nv b∣nv a):nv (L2 a b)=nv a/nv b/\bz (L2 a b):=by unfold L2;split;let⟨n,m⟩:=dZ a e;let⟨l,k⟩:=dZ b d;obtain⟨⟨j,i⟩,-⟩:=Ah _ _ m k E;refine⟨?_,i⟩;rw[j,n,l];let⟨c,hc⟩:=f;rw[hc,<-Int.neg_mul,Int.mul_ediv_cancel_left _ E,Int.mul_ediv_cancel_left _ h];exact(Ah a b e d E).1
def abm(a b:Nm)(e:bz a)(d:bz b)(o:nv b≠0)(i:fY a K)(f:fY b K)(l:K<2^38):ab 254 [eN a,eN b] (eN<|L2 a b):=by have hs:=A2 b d;have k:=Ic a e i E;have j:=Ic b d f E;let⟨q,n⟩:=dZ a e;let⟨p,m⟩:=dZ b d;unfold L2;refine cx func254 W<|cu W W hs W<|cv W W ?_ ?_<;>intro h;have h:(nv b).sign<0:=h;have h:=ahF.1 h;have c:=FU (kq a) (kq b) n m E (oP e i) (oP d f) l;rw[abx h];refine ct W W k W<|ct W W j W<|k0 W aP<|b8 W c W<|cq W W;have h:¬(nv b).sign<0:=h;have h:¬nv b<0:=λg=>h<|ahF.2 g;have c:=FU a b e d E i f l;rw[abl h];refine cu W W c W<|cq W W
def xg:Nat->Nm->Nm->Nm
 |0,a,_=>a
 |k+1,a,b=>if nv b=0 then a else xg k b (P6 a b).2
def PQ(k:Nat)(a b:Nm)(h:nv b=0):xg k a b=a:=by
 cases k with
 |zero=>rfl
 |succ k=>unfold xg;grind
def Fm:∀(k:Nat)(a b:Nm){K:Nat},bz a->bz b->0<=nv a->0<=nv b->(nv b).natAbs<=k->fY a K->fY b K->nv (xg k a b)=(Int.gcd (nv a) (nv b):Nat)/\bz (xg k a b)/\fY (xg k a b) K
 |0,a,b,K,c,f,i,g,m,e,d=>by have:nv b=0:=E;refine⟨?_,c,e⟩;show nv a=_;rw[this,Int.gcd_zero_right];omega
 |k+1,a,b,K,c,f,i,g,m,e,d=>by unfold xg;split;rename_i h;refine⟨?_,c,e⟩;rw[h,Int.gcd_zero_right];omega;rename_i h;obtain⟨-,r,q⟩:=Ah a b c f E;have t:=aid (nv a) h;have s:=aie (nv a) (show 0<nv b from E);let⟨p,o,n⟩:=Fm k b (P6 a b).2 f q g E E d<|Bf E d;refine⟨?_,o,n⟩;rw[p,r];rw[Int.gcd_comm<|nv a,ajz,ajz];obtain⟨x,l⟩:∃x:Nat,nv a=x:=⟨(nv a).toNat,E⟩;obtain⟨y,j⟩:∃y:Nat,nv b=y:=⟨(nv b).toNat,E⟩;rw[l,j,<-Int.natCast_emod,ahW,ahW,ahW];rw[air y _,<-Nat.gcd_rec]
def ya(a b:Nm):Nm:=xg (nv b).natAbs (GD a)<|GD b
def DX(h:bz a)(l:fY a K):fY (GD a) K:=by unfold fY at *;rwa[(pA a h).1]
def Bs(a b:Nm)(d:bz a)(c:bz b)(f:fY a K)(e:fY b K):nv (ya a b)=(Int.gcd (nv a) (nv b):Nat)/\bz (ya a b)/\fY (ya a b) K:=by let⟨j,i⟩:=pA a d;let⟨h,g⟩:=pA b c;have:=Fm (nv b).natAbs _ _ i g E E E (DX d f)<|DX c e;refine⟨?_,this.2⟩;rw[ya,this.1,j,h];rfl
def abB(a b:Nm)(m:bz a)(l:bz b)(o:fY a K)(n:fY b K)(s:K<2^38):ab 217 [eN a,eN b] (eN<|ya a b):=by
 have hA:=abV a m o E;have t:=abV b l n E;let⟨F,w⟩:=pA a m;let⟨D,v⟩:=pA b l;refine cx func217 W<|ct W W hA W<|ct W W t W<|k0 W aP<|qQ (λ(k:Nat)(x y:Nm)=>[(2,.box true<|eN x),(3,.box true<|eN y),(4,.box true<|.agg [.i 0,.nil])])
  (λk x y=>bz x/\bz y/\0<=nv x/\0<=nv y/\fY x K/\fY y K/\(nv y).natAbs<=k/\xg k x y=ya a b) (λk _ _=>k) (nv b).natAbs (GD a) (GD b)
  ⟨w,v,E,E,DX m o,DX l n,E,W⟩ ⟨G,G,G,U⟩ ?_
 rintro k x y⟨p,e,x0,q,r,f,z,d⟩;have hs:=A2 y e;refine cu W W hs W<|cv W W ?_ ?_<;>intro h;have h:(nv y).sign≠0:=h;have c:nv y≠0:=λg=>h (by rw[g];rfl);obtain⟨i,rfl⟩:∃i,k=i+1:=⟨k-1,E⟩;obtain⟨-,C,u⟩:=Ah x y p e E;have B:=aid (nv x) c;have A:=aie (nv x) (show 0<nv y from E);have j:=FU x y p e E r f s;unfold xg at d;rw[abl c]at d;refine cu W W j W<|k0 W aP<|aL (i,y,(P6 x y).2) ⟨e,u,q,ac,f,Bf (a:=y) (ac) f,ac,d⟩;have h:¬(nv y).sign≠0:=h;have c:nv y=0:=ajA.1 E;rw[PQ _ _ _ c]at d;rw[<-d];refine cq W W
end
def Rc{a b:Nm}(f:bz a)(e:bz b)(g:nv b≠0)(d:nv b∣nv a){K:Nat}(c:fY a K):fY (L2 a b) K:=by refine Bf ?_ c;rw[(A9 a b f e g d).1];exact Int.natAbs_ediv_le_natAbs _ _
def mkG(n d:Nm):Fr:=if d.w=none/\d.s=1 then⟨n,d⟩else⟨L2 n<|ya n d,L2 d<|ya n d⟩
def YJ(n d:Nm):Fr:=if nv d<0 then mkG (kq n) (kq d)else mkG n d
def kV(f:Fr)(K:Nat):Prop:=fY f.n K/\fY f.d K
def sg{f:Fr}{K L:Nat}(h:kV f K)(hl:K<=L):kV f L:=⟨eh h.1 hl,eh h.2 hl⟩
def Mr(n d:Nm)(hn:bz n)(h:bz d)(q:0<nv d){K:Nat}(i:fY n K)(j:fY d K):cB (mkG n d) (Rat.divInt (nv n)<|nv d)/\kV (mkG n d) K:=by
 have a:=Rat.num_divInt (nv n)<|nv d;have b:=Rat.den_divInt (nv n)<|nv d;rw[ajy q,Int.one_mul]at a;rw[abl E]at b;unfold mkG;split;rename_i g;have k:=(kp d h).2 g.1;rw[g.2]at k;refine⟨⟨hn,h,?_,?_⟩,i,j⟩;rw[a,k];simp;rw[b,k];simp;let⟨g1,g2,r⟩:=Bs n d hn h i j;have c:nv (ya n d)≠0:=by have:=Int.gcd_pos_of_ne_zero_right (nv n) (show nv d≠0 from E);omega
 have e:nv (ya n d)∣nv n:=by rw[g1];exact Int.gcd_dvd_left ..
 have f:nv (ya n d)∣nv d:=by rw[g1];exact Int.gcd_dvd_right ..
 let⟨p,o⟩:=A9 n _ hn g2 c e;let⟨m,l⟩:=A9 d _ h g2 c f;refine⟨⟨o,l,?_,?_⟩,Rc hn g2 c e i,Rc h g2 c f j⟩;rw[p,g1,a,Int.gcd_comm];rw[m,b,Int.gcd_comm,Int.natCast_ediv]
 congr 1;omega
def EN(n d:Nm)(hn:bz n)(a:bz d)(j:nv d≠0){K:Nat}(b:fY n K)(c:fY d K):cB (YJ n d) (Rat.divInt (nv n)<|nv d)/\kV (YJ n d) K:=by unfold YJ;split;let⟨i,h⟩:=dZ n hn;let⟨f,e⟩:=dZ d a;have:=Mr _ _ h e E (oP hn b)<|oP a c;rwa[i,f,Rat.neg_divInt_neg]at this;exact Mr n d hn a E b c
def Py(n d:Nm)(hn:bz n)(b:bz d)(B:nv d≠0){K:Nat}(i:fY n K)(j:fY d K)(o:K<2^38):ab 179 [eN n,eN d] (eF<|YJ n d):=by
 have hs:=A2 d b;have l:=Ic n hn i E;have m:=Ic d b j E;let⟨D,z⟩:=dZ n hn;let⟨C,w⟩:=dZ d b;refine cx func179 W<|Ao 2 (λ(x y:Nm)=>[(2,.box true<|eN x),(3,.box true<|eN y),(4,.box true<|.agg [.i 0,.nil,.i 0,.nil])]) (λx y=>bz x/\bz y/\0<nv y/\fY x K/\fY y K/\mkG x y=YJ n d) ?_ ?_;refine cu W W hs W<|cv W W ?_ ?_<;>intro h;have h:(nv d).sign<0:=h;have h:=ahF.1 h;refine ct W W l W<|ct W W m W<|k0 W aP<|iX (kq n,kq d) ⟨z,w,ac,oP hn i,oP b j,by unfold YJ;rw[abx h]⟩;have h:¬(nv d).sign<0:=h;have h:¬nv d<0:=λg=>h<|ahF.2 g;refine r0 W<|iX (n,d) ⟨hn,b,ac,i,j,by unfold YJ;rw[abl h]⟩;rintro x y⟨k,c,A,f,e,v⟩;rw[<-v];have p:=xt c;have u:=abB x y k c f e o;let⟨g1,g2,r⟩:=Bs x y k c f e;have a:nv (ya x y)≠0:=by rw[g1];have:=Int.gcd_pos_of_ne_zero_right (nv x) (show nv y≠0 from E);omega
 have t:=abm x (ya x y) k g2 a f r o;have s:=abm y (ya x y) c g2 a e r o;refine cU 1 [(2,.box true<|eN x),(3,.box true<|eN y),(4,.box true<|.agg [.i 0,.nil,.i 0,.nil])] (¬(y.w=none/\y.s=1)) ?_ λhc=>?_;refine ck W 16 W ?_ ?_<;>intro g;refine cv W W ?_ ?_<;>intro h;have h:y.s=1:=h;unfold mkG;rw[abx ⟨p.1 g,h⟩];refine cq W W;have h:¬y.s=1:=h;refine r0 W<|bo λq=>h q.2;refine r0 W<|bo λq=>g<|p.2 q.1;unfold mkG;rw[abl hc];refine cu W W u W<|ct W W t W<|ct W W s W<|k0 W aP<|bY W
section
variable{f:Fr}{K L:Nat}{p q:Rat}
def Ni(h:cB f q):0<nv f.d:=by rw[h.vd];have:=q.den_pos;omega
def Bm(f:Fr)(h:cB f q):ab 259 [eF f] (.u<|decide (f.d.w=none/\f.d.s=1)):=by have a:=xt h.d;refine enter func259 W W W W<|ck W 7 W ?_ ?_<;>intro g;refine cm W W<|aj8 SV.u ?_;simp_all;exact cm W W<|(decide_eq_false λh=>g<|a.2 h.1).symm
def Ko(f g:Fr)(b:cB f p)(a:cB g q)(d:kV f K)(c:kV g L)(m:K+L<2^38):ab 212 [eF f,eF g] (.i (p.num*q.den-q.num*p.den).sign):=by have m1:=uh f.n g.d b.n a.d d.1 c.2 E;have e:=uh g.n f.d a.n b.d c.1 d.2 E;let⟨l,k⟩:=dw f.n g.d b.n a.d;let⟨j,h⟩:=dw g.n f.d a.n b.d;have hc:=XS _ _ k h (ig b.n a.d d.1 c.2) (eh (ig a.n b.d c.1 d.2) E) (show K+L<2^39 from E);rw[l,j,b.vn,b.vd,a.vn,a.vd]at hc;refine enter func212 W W W W<|ct W W m1 W<|ct W W e W<|b9 W hc W<|k0 W aP<|bY W
def Lk(p q:Rat):(p.num*q.den-q.num*p.den).sign=if p<q then -1 else if q<p then 1 else 0:=by
 have b:=Rat.lt_iff p q;have a:=Rat.lt_iff q p
 grind
def aax(f g:Fr)(d:cB f p)(c:cB g q)(b:kV f K)(a:kV g L)(h:K+L<2^38):ab 169 [eF f,eF g] (.u<|decide (p=q)):=by
 have e:=Lk p q;refine enter func169 W W W W<|cu W W (Ko f g d c b a h) W<|cm W W<|aj8 SV.u ?_
 grind
def jW(f g:Fr):Fr:=YJ (lj f.n g.n)<|lj f.d g.d
def ku(f g:Fr)(b:cB f p)(a:cB g q)(d:kV f K)(c:kV g L):cB (jW f g) (p*q)/\kV (jW f g) (K+L):=by let⟨j,i⟩:=dw _ _ b.n a.n;let⟨h,e⟩:=dw _ _ b.d a.d;have k:=ahV (Ni b)<|Ni a;have:=EN _ _ i e E (ig b.n a.n d.1 c.1)<|ig b.d a.d d.2 c.2;rwa[j,h,b.vn,b.vd,a.vn,a.vd,tw]at this
def j5(f g:Fr)(b:cB f p)(a:cB g q)(d:kV f K)(c:kV g L)(j:K+L<2^38):ab 88 [eF f,eF g] (eF<|jW f g):=by let⟨m,i⟩:=dw _ _ b.n a.n;let⟨l,h⟩:=dw _ g.d b.d a.d;have k:=ahV (Ni b)<|Ni a;refine enter func88 W W W W<|ct W W (uh f.n g.n b.n a.n d.1 c.1 E) W<|ct W W (uh f.d g.d b.d a.d d.2 c.2 E) W<|b9 W (Py _ _ i h E (ig b.n a.n d.1 c.1) (ig b.d a.d d.2 c.2) E) W<|k0 W aP<|bY W
def aan(f:Fr):Fr:=YJ f.d f.n
def wx(f:Fr)(a:cB f p)(c:p≠0)(b:kV f K):cB (aan f) p⁻¹ /\kV (aan f) K:=by
 have hn:nv f.n≠0:=by rw[a.vn];simp_all
 have:=EN _ _ a.d a.n hn b.2 b.1;rwa[a.vn,a.vd,<-Rat.inv_def]at this
def Xk(f:Fr)(a:cB f p)(d:p≠0)(b:kV f K)(c:K<2^38):ab 107 [eF f] (eF<|aan f):=by
 have hn:nv f.n≠0:=by rw[a.vn];simp_all
 refine enter func107 W W W W<|cu W W (Py _ _ a.d a.n hn b.2 b.1 c) W<|cq W W
def Xm(f g:Fr)(h:cB f p)(b:cB g q)(c:q≠0)(d:kV f K)(a:kV g L)(i:K+L<2^38):ab 106 [eF f,eF g] (eF<|jW f<|aan g):=by let⟨i1,e⟩:=wx g b c a;refine enter func106 W W W W<|ct W W (Xk g b c a E) W<|b9 W (j5 f _ h i1 d e i) W<|k0 W aP<|bY W
def isW(f:Fr):Prop:=f.d.w=none/\f.d.s=1
instance(f:Fr):Decidable (isW f):=by unfold isW;infer_instance
def Rz(a:cB f p)(h:isW f):p.den=1:=by have:=(kp _ a.d).2 h.1;rw[h.2,a.vd]at this;omega
def w7(f g:Fr):Fr:=if isW f/\isW g then⟨vR f.n g.n,⟨1,none⟩⟩else YJ (vR (lj f.n g.d)<|lj g.n f.d) (lj f.d g.d)
def Jf(f g:Fr)(b:cB f p)(a:cB g q)(d:kV f K)(c:kV g L):cB (w7 f g) (p+q)/\kV (w7 f g) (K+L+1):=by unfold w7;split;rename_i h;let⟨i,e⟩:=lV f.n g.n b.n a.n;have hs:=qw p q;rw[Rz b h.1,Rz a h.2]at hs;have hn:=Rat.num_divInt (p.num*(1:Nat)+q.num*(1:Nat))<|((1:Nat):Int)*((1:Nat):Int);have j:=Rat.den_divInt (p.num*(1:Nat)+q.num*(1:Nat))<|((1:Nat):Int)*((1:Nat):Int);rw[hs]at hn j;refine⟨⟨e,EE,?_,?_⟩,?_,?_⟩;rw[i,b.vn,a.vn,hn];simp;show(1:Int)=_;rw[j];simp;exact eh (KW b.n a.n (eh d.1<|E)<|eh c.1<|show L<=K+L from E) E;exact abz E;let⟨i,e⟩:=dw f.n g.d b.n a.d;let⟨r,k⟩:=dw g.n f.d a.n b.d;let⟨o,n⟩:=dw f.d g.d b.d a.d;let⟨m,l⟩:=lV _ _ e k;have s:=ahV (Ni b)<|Ni a;have:=EN _ _ l n E (KW e k (ig b.n a.d d.1 c.2)<|eh (ig a.n b.d c.1 d.2)<|E)<|eh (ig b.d a.d d.2 c.2)<|ain _;rwa[m,i,r,o,b.vn,b.vd,a.vn,a.vd,qw]at this
def FH(f g:Fr)(b:cB f p)(a:cB g q)(d:kV f K)(c:kV g L)(w:K+L<2^37):ab 238 [eF f,eF g] (eF<|w7 f g):=by have m:=Bm f b;have l:=Bm g a;have v:=Od f.n g.n b.n a.n (eh d.1<|show K<=K+L from E) (eh c.1<|show L<=K+L from E) E;have m1:=uh f.n g.d b.n a.d d.1 c.2 E;have o:=uh g.n f.d a.n b.d c.1 d.2 E;have n:=uh f.d g.d b.d a.d d.2 c.2 E;let⟨B,k⟩:=dw f.n g.d b.n a.d;let⟨A,j⟩:=dw g.n f.d a.n b.d;let⟨z,t⟩:=dw f.d g.d b.d a.d;let⟨y,s⟩:=lV _ _ k j;have x:=ahV (Ni b)<|Ni a;have u:=Od _ _ k j (ig b.n a.d d.1 c.2) (eh (ig a.n b.d c.1 d.2)<|show L+K<=K+L from E) E;have mk:=Py _ _ s t E (KW k j (ig b.n a.d d.1 c.2)<|eh (ig a.n b.d c.1 d.2)<|show L+K<=K+L from E) (eh (ig b.d a.d d.2 c.2)<|ain _) E;refine cx func238 W<|cU 2 [(2,.box true<|eF f),(3,.box true<|eF g),(4,.box true<|.agg [.i 0,.nil,.i 0,.nil])] (¬(isW f/\isW g)) ?_ λhc=>?_;refine cu W W m W<|ck W 7 W ?_ ?_<;>intro i;refine cu W W l W<|cv W W ?_ ?_<;>intro e;have r:isW f/\isW g:=⟨i,e⟩;unfold w7;rw[abx r];refine cu W W v W<|cu W W (yA _) W<|cq W W;refine r0 W<|bo λh=>e h.2;refine r0 W<|bo λh=>i h.1;unfold w7;rw[abl hc];refine ct W W m1 W<|ct W W o W<|ct W W u W<|ct W W n W<|ct W W mk W<|k0 W aP<|bY W
def adl(f g:Fr)(h:cB f p)(b:cB g q)(e:kV f K)(a:kV g L)(i:K+L<2^37):ab 327 [eF f,eF g] (eF<|w7 f ⟨kq g.n,g.d⟩):=by let⟨j,c⟩:=Ft g b a.1 E;refine enter func327 W W W W<|ct W W j W<|b9 W (FH f ⟨kq _,g.d⟩ h c e ⟨oP b.n a.1,a.2⟩ i) W<|k0 W aP<|bY W
end
end Go.Ai.bI
namespace Go.Ai.Pg
open Go.Proofs Go.Ai Go.Ai.bI Go.RowKit Go.Proofs.Tryz
def find_congr{α:Type}{p q:α->Bool}:∀{l:L α},(∀x∈l,p x=q x)->l.find? p=l.find? q
 |[],_=>rfl
 |x::l,h=>by rw[ajK,ajK,h x I,find_congr λy a=>h y<|by simp[a]]
def FA:∀(s:cj)(n:Nat),(List.range' n s.length).find? (λi=>(s.getD (i-n) 0)==47)=if aF s<s.length then some (n+aF s)else none
 |[],n=>I
 |c::t,n=>by
  rw[acC,List.range'_succ,ajK];simp only[aF];by_cases h:c=47;simp[h]
  have e:(List.range' (n+1) t.length).find? (λi=>((c::t).getD (i-n) 0)==47)=(List.range' (n+1) t.length).find? (λi=>(t.getD (i-(n+1)) 0)==47):=by
   refine find_congr ?_
   grind
  rw[e,FA t _]
  grind
def YG(s:cj):Int:=if aF s<s.length then aF s else -1
def Fz(s:cj):firstIdx (bs s) 47=YG s:=by
 unfold firstIdx YG;have e:(List.range (bs s).size).find? (λi=>(bs s)[i]! ==47)=(List.range' 0 s.length).find? (λi=>(s.getD (i-0) 0)==47):=by
  have b:(bs s).size=s.length:=W;rw[List.range_eq_range'];refine find_congr ?_;intro i _;have a:i<s.length:=gn;have:(bs s)[i]! =s.getD i 0:=by rw[getElem!_pos _ i a,az a];rfl
  grind
 rw[e,FA s 0]
 grind
def PH(s:cj):ab 379 [.s s,.n .u8 47] (.i<|YG s):=by
 intro w S l _ f hc;obtain⟨y,p,v,u,rfl,q,_,e,k,m,t,r,rfl,j,_,d,rfl,rfl⟩:=hc;obtain⟨_,rfl,rfl⟩:=e;obtain⟨_,rfl,rfl⟩:=d;have c:(callFunc 379 #[.string (bs s),.int .u8 47]).run prog w=.ok (.value<|.int .i64<|YG s) w:=by refine(run_callFunc_indexByte func379 aP aP aP aP _ w).trans ?_;rw[run_indexByte_string];simp only[Result.andThen];have:(47:Int).toNat.toUInt8=47:=W;rw[this,Fz]
 intro rd o a _ b g;rw[c];exact g _ _ ⟨S,[],Go.RowKit.Below.refl _ _,λ_ h=>h,λ_ h=>.inl h,f,ep,aee,I⟩
def adf(s:cj):ab 352 [.s s,.n .u8 47] (.i<|YG s):=by refine enter func352 W W W W<|cu W W (PH s) W<|cq W W
def aao(s:cj):ab 322 [.s s,.s [47]] (.i<|YG s):=by refine enter func322 W W W W<|ck W 19 W (λh=>abK h gC) λ_=>?_;refine cv W W (λh=>?_) λ_=>?_;subst h;exact cq W W;refine cv W W (λ_=>?_) λh=>abK W h;refine r1 W (by simp[aj]<;>decide) ?_;exact b8 W (adf s) W<|cq W W
def IB{s:cj}(h:isNeg s=true):1<=s.length/\bR s=s.drop 1:=by
 unfold bR;rw[abx h];unfold isNeg at h
 grind
def Vz{s:cj}:0<=YG s↔aF s<s.length:=by unfold YG;grind
def adw(s:cj)(hl:s.length<2^63):ab 278 [.s s,.s [47]] (.de [.s<|s.take<|aF s,.s<|s.drop<|aF s+1,.u<|decide (aF s<s.length)]):=by
 refine enter func278 W W W W<|cu W W (aao s) W<|cv W W ?_ ?_<;>intro h;have a:=Vz.1 h;have e:YG s=aF s:=by unfold YG;rw[abx a]
 rw[e];refine k1 W aP (by simp[aj,ad1]<;>omega) ?_;refine aJ W ⟨aj8 SV.s ?_,aj8 SV.s ?_,(decide_eq_true a).symm,U⟩;simp;simp;have a:¬aF s<s.length:=λg=>h<|Vz.2 g;refine cm W W ⟨aj8 SV.s ?_,aj8 SV.s ?_,(decide_eq_false a).symm,U⟩;rw[ad2 E];rw[ahK E]
def abO(s:cj)(hl:s.length<2^63):ab 214 [.s s,.s [47]] (.de [.s<|s.take<|aF s,.s<|s.drop<|aF s+1,.u<|decide (aF s<s.length)]):=by refine enter func214 W W W W<|cu W W (adw s hl) W<|cq W W
def Et(s:cj)(hl:s.length<2^63):ab 323 [.s s,.s [45]] (.u<|isNeg s):=by
 refine enter func323 W W W W<|ck W 10 W ?_ ?_<;>intro h;have h:1<=s.length:=by grind
 refine r1 W (by simp[aj]<;>omega) ?_;refine aJ W<|aj8 SV.u ?_
 match s,h with
 |c::t,_=>unfold isNeg;simp;exact⟨λh=>by rw[h];rfl,λh=>ai8.1 h⟩
 ·have h:¬((1:Nat):Int)<=s.length:=h;exact cm W W<|(decide_eq_false λhh=>h E).symm
def aaK(s:cj)(hl:s.length<2^63):ab 279 [.s s,.s [45]] (.de [.s<|bR s,.u<|isNeg s]):=by
 refine enter func279 W W W W<|cu W W (Et s hl) W<|r0 W<|qq W W W ?_ ?_<;>intro h;have hn:=aR
 refine cm W W ⟨aj8 SV.s ?_,hn.symm,U⟩;unfold bR;rw[hn];rfl;have hn:=aR
 let⟨g1,g2⟩:=IB hn;refine r1 W bc<|aJ W ⟨aj8 SV.s ?_,hn.symm,U⟩;simp_all
def adx(s:cj)(hl:s.length<2^63):ab 215 [.s s,.s [45]] (.de [.s<|bR s,.u<|isNeg s]):=by refine enter func215 W W W W<|cu W W (aaK s hl) W<|cq W W
def adh(s:cj)(hl:s.length<2^63):ab 283 [.s s,.s [45]] (.u<|isNeg s):=by refine enter func283 W W W W<|cu W W (Et s hl) W<|cq W W
def Ve(s:cj)(hl:s.length<2^63):ab 324 [.s s,.s [45]] (.s<|bR s):=by refine enter func324 W W W W<|cu W W (Et s hl) W<|qq W W W ?_ ?_<;>intro h;let⟨g1,g2⟩:=IB h;refine r1 W bc<|aJ W<|aj8 SV.s ?_;simp_all;refine cm W W<|aj8 SV.s ?_;unfold bR;rw[h];rfl
def QM(s:cj)(hl:s.length<2^63):ab 284 [.s s,.s [45]] (.s<|bR s):=by refine enter func284 W W W W<|cu W W (Ve s hl) W<|cq W W
def Ur(s:cj):Bool:=nI s&& !decide (s=[])
def aaG(s:cj)(hl:s.length<=9223372036854775807):ab 280 [.s s] (.u<|Ur s):=by
 refine cx func280 W<|r0 W<|aU (λi:Nat=>[(0,.s s),(5,.i s.length),(6,.i i)]) (λi=>i<=s.length/\∀k,k<i->48<=(s.getD k 0).toNat/\(s.getD k 0).toNat<=57) (λi=>s.length-i) 0 ⟨abX _,λk h=>E⟩ ?_;rintro i⟨hi,m⟩;refine cv W W ?_ ?_<;>intro h;have d:i<s.length:=E;have a:(i:Int).toNat=i:=E;have b:¬(48<=(s.getD i 0).toNat/\(s.getD i 0).toNat<=57)->false=Ur s:=by intro hn;symm;unfold Ur;rw[Bool.and_eq_false_iff];left;rw[Bool.eq_false_iff];intro j;have:=lT.1 j s[i]<|ab3 d;simp_all
 refine r1 W (gd) ?_;refine aI 13 W ?_ ?_<;>intro f;rw[a]at f;refine cm W W<|b E;rw[a]at f;refine r1 W (gd) ?_;refine cg W ?_ ?_<;>intro e;rw[a]at e;refine cm W W<|b E;rw[a]at e;refine r1 W (aD) ?_;refine aL (i+1) ⟨E,λk l=>?_⟩
 grind
 have g:nI s=true:=by
  rw[lT];intro c hc;obtain⟨k,l,rfl⟩:=ahJ hc
  grind
 refine cm W W<|aj8 SV.u ?_;unfold Ur;simp_all
def U6(s:cj)(hl:s.length<=9223372036854775807):ab 216 [.s s] (.u<|jL s):=by
 refine cx func216 W<|cu W W (aaG s hl) W<|r0 W<|iD 5 W ?_ ?_<;>intro h;unfold Ur at h;simp[adS,ahZ,decide_eq_false_iff_not]at h;have a:=ah8.2 h.2;refine ck W 8 W ?_ ?_<;>intro g;subst g;refine cm W W (show true=jL [48]from gC);refine r1 W bg<|aJ W<|aj8 SV.u ?_;unfold jL;by_cases k:(s.getD 0 0).toNat=48;have b:1<s.length:=by
  match s,a with
  |[c],_=>exact abK (aal (λx=>[x])<|ai8.1<|show c.toNat=(48:UInt8).toNat by simpa using k) g
  |_::_::_,_=>simp
 simp_all
 grind
 have h:=h;refine cm W W ?_;unfold Ur at h;unfold jL;rw[Bool.and_eq_false_iff]at h;rcases h with h|h;rw[h];split;rfl;split<;>rfl;simp[Bool.not_eq_false',decide_eq_true_eq]at h;subst h;rfl
def aa7(s:cj)(hs:eG s)(m:0<s.length)(hl:s.length<=18):ab 325 [.s s] (.de [.i<|dy s,.c .nilIface]):=by
 refine cx func325 W<|ck W 25 W (λ_=>?_) λh=>abK (show(0:Int)<s.length from E) h;refine cv W W (λ_=>?_) λh=>abK (show(s.length:Int)<19 from E) h;have Fg:48<=(s.getD 0 0).toNat/\(s.getD 0 0).toNat<=57:=by have hm:s.getD 0 0∈s:=gn;exact hs _ hm
 have g:(0:Int).toNat=0:=W;refine r1 W bg<|aI 35 W (λh=>abK h<|by rw[g];omega) λ_=>?_;refine r1 W bg<|cg W (λh=>abK h<|by rw[g];omega) λ_=>?_;refine r0 W<|oA W W W (Qh s W W W W) W<|r0 W ?_;have b:(s.map λc=>(c.toNat:Int)).length=s.length:=I;refine loop (λi:Nat=>[(5,.s s),(6,.i<|dy<|s.take i),(47,.ints .u8 false<|s.map λc=>(c.toNat:Int)),(48,.i s.length),(49,.i i)]) (λi=>i<=s.length) (λi=>s.length-i) 0 E ⟨G,G,G,⟨W,aj8 SV.i<|by rw[b]⟩,G,U⟩ ?_;intro i hi;refine cv W W ?_ ?_<;>intro h;have a:i<s.length:=E;have d:(i:Int).toNat=i:=E;have hc:(s.map λc=>(c.toNat:Int)).getD i 0=(s[i].toNat:Int):=gn;have l:=hs s[i]<|ab3 a;have j:=nD (s:=s.take i) λc hc=>hs c<|ahv hc;have k:10^(s.take i).length<=10^17:=aeh gC (by simp;omega);refine r1 W (by simp[aj,abu,d,hc,b];omega) ?_;have f:IntKind.u8.wrap ((s[i].toNat:Int)-48)=(s[i].toNat:Int)-48:=by have e:IntKind.u8.wrap ((s[i].toNat:Int)-48)=((s[i].toNat:Int)-48)%256:=W;rw[e];omega
 refine cg W (λh=>abK h<|by rw[d,hc,f];omega) λ_=>?_;refine r1 W (by simp only[aj,abu,d,hc,f];omega) ?_;refine again (i+1) E E ⟨G,⟨W,cw ?_⟩,G,G,G,U⟩;rw[d,hc,f,adY a,wk];omega;have:i=s.length:=E;subst this;refine r1 W bg<|cg W (λh=>abK h<|by rw[g];omega) λ_=>?_;refine cm W W ⟨cw ?_,W,U⟩;simp
def adR(s:cj)(hs:eG s)(a:0<s.length)(hl:s.length<=18):ab 285 [.s s] (.de [.i<|dy s,.c .nilIface]):=by refine enter func285 W W W W<|cu W W (aa7 s hs a hl) W<|r0 W<|oA W W W (ZY W W) W<|cq W W
section
variable{a:Nm}{s t:cj}
def DN{L:Nat}(h:(nv a).natAbs<10^L):fY a L:=by unfold fY;rcases af8 (nv a).natAbs with b|b;rw[b,bI.dj];simp;have c:(10:Nat)^L<=(2^64)^L:=ah2 gC L;have d:=(Nat.pow_lt_pow_iff_right gC).1<|ahn (Kx b)<|aey h c;omega
def afq{R:Q Nat->Prop}{N:Nat}{F:St->Prop}{k:L It}{l:bJ}{c:Code}(l':L (Nat×SV))(b:sS l l')(h:AK R prog N F (.code c::k) (sl l')):AK R prog N F (.code c::k) l:=yq b h
def WM(a b:Nat):wT true (a:Int) (b:Int)=((min a b:Nat):Int):=by simp[wT];omega
def rdStep(t:cj)(a:Nm):Nm:=vR (lj a<|uT ⟨10,none⟩<|min 18 t.length) ⟨dy<|t.take 18,none⟩
def En:Nat->cj->Nm->Nm
 |0,_,a=>a
 |k+1,t,a=>if t.length=0 then a else En k (t.drop 18) (rdStep t a)
def qM(s:cj):Nm:=if isNeg s then kq (En (bR s).length (bR s) ⟨0,none⟩)else En (bR s).length (bR s) ⟨0,none⟩
def Oy:bz ⟨10,none⟩:=show _<=10/\(10:Int)<=9223372036854775807 from gC
def QH:bz ⟨0,none⟩:=show _<=0/\(0:Int)<=9223372036854775807 from gC
def Lz{n:Nat}(h:n<10^18):bz ⟨n,none⟩:=show(-2^63:Int)<=n/\(n:Int)<=(2^63-1) from E
def AX(h:eG t):dy (t.take 18)<10^18:=aey (nD λc hc=>h c<|ahv hc)<|aeh gC<|by grind
def Cm(h:eG t)(g:bz a):nv (rdStep t a)=nv a*10^min 18 t.length+dy (t.take 18)/\bz (rdStep t a):=by obtain⟨e,d⟩:=nf ⟨10,none⟩ _ Oy;obtain⟨m1,f⟩:=dw a _ g d;obtain⟨c,b⟩:=lV _ ⟨dy _,none⟩ f<|Lz<|AX h;refine⟨?_,b⟩;unfold rdStep;rw[c,m1,e];rfl
def C5(h:eG t)(n:Nat):eG (t.drop n):=λc hc=>h c<|aic hc
def HS:∀(k:Nat)(t:cj)(a:Nm),eG t->t.length<=k->bz a->nv (En k t a)=nv a*10^t.length+dy t/\bz (En k t a)
 |0,t,a,h,c,b=>by have:t=[]:=ajg E;subst this;refine⟨?_,b⟩;show nv a=nv a*10^0+((dy []:Nat):Int);have:dy []=0:=W;rw[this];simp
 |k+1,t,a,h,c,b=>by
  rw[En];split;rename_i d;have:=ajg d;subst this;refine⟨?_,b⟩;have:dy []=0:=W;rw[this];simp;let⟨f,e⟩:=Cm h b;let⟨g1,g2⟩:=HS k _ _ (C5 h 18) (by simp;omega) e;have hs:=u5 (t.take 18)<|t.drop 18;rw[ah1]at hs;rw[hs];have hl:min 18 t.length+(t.drop 18).length=t.length:=by simp;omega
  grind
def pM(h:eG (bR s)):nv (qM s)=E5 s/\bz (qM s):=by
 let⟨b,c⟩:=HS (bR s).length _ ⟨0,none⟩ h .refl QH;have b:nv (En (bR s).length (bR s) ⟨0,none⟩)=dy (bR s):=by rw[b];show(0:Int)*_+_=_;omega
 unfold qM E5;by_cases g:isNeg s=true;rw[abx g,g];let⟨n1,d⟩:=dZ _ c;exact⟨by rw[n1,b];rfl,d⟩;have g:=eT
 rw[g];exact⟨b,c⟩
def yV(h:eG (bR s)):fY (qM s) (bR s).length:=by refine DN ?_;rw[(pM h).1];have:=nD h;unfold E5;cases isNeg s;show((dy _:Nat):Int).natAbs<_;simpa using this;show(-((dy _:Nat):Int)).natAbs<_;grind
def Em(s:cj)(h:eG (bR s))(hl:s.length<2^20):ab 218 [.s s] (eN<|qM s):=by
 have A:=AA s;refine cx func218 W<|cu W W (adh s E) W<|cu W W (QM s E) W<|r0 W<|afq [(0,.s<|bR s),(2,.box true<|.agg [.i 0,.nil]),(3,.u<|isNeg s),(4,.box true<|eN ⟨0,none⟩)] ⟨.inl ⟨W,W,AP.of_le<|w9.refl _⟩,.inl ⟨W,W,AP.of_le<|w9.refl _⟩,.inl ⟨W,W,AP.of_le<|w9.refl _⟩,.inl ⟨W,W,AP.of_le<|w9.refl _⟩,U⟩<|lM (λ(t:cj)(a:Nm)=>[(0,.s t),(2,.box true<|.agg [.i 0,.nil]),(3,.u<|isNeg s),(4,.box true<|eN a)])
  (λt a=>eG t/\bz a/\(∃m,En m t a=En (bR s).length (bR s) ⟨0,none⟩/\t.length<=m)/\t.length<=(bR s).length/\nv a*10^t.length+dy t=dy (bR s)/\0<=nv a) (λt _=>t.length) (bR s) ⟨0,none⟩ ?_ ?_ ?_
 exact⟨h,QH,⟨_,W,abY _⟩,abY _,by show(0:Int)*_+_=_;omega,aeF 0⟩;exact⟨G,G,G,G,U⟩;rintro t a⟨k,j,⟨m,i,r⟩,K,C,B⟩;have q:fY a (bR s).length:=by
  refine DN ?_;have J:=nD h;have z:(1:Int)<=10^t.length:=by have:0<10^t.length:=ae9 (show 0<10 from gC);exact_mod_cast this
  have hm:nv a<=nv a*10^t.length:=by have:=agh z B;omega
  omega
 refine cv W W ?_ ?_<;>intro g;have g:0<t.length:=E;have em:((min 18 t.length:Nat):Int)=min 18 (t.length:Int):=E;have M:t.take (min 18 t.length)=t.take 18:=by simp
 have d:=WM 18 t.length;have N:(((min 18 t.length:Nat):Int)).toNat=min 18 t.length:=E;refine r1 W ?_ ?_;have d:wT true 18 (t.length:Int)=((min 18 t.length:Nat):Int):=d;simp[aj,abu,d];omega;have F:List.drop 0 (List.take (wT true 18 (t.length:Int)).toNat t)=t.take 18:=by simp_all
 refine Hh (us:=[.s<|t.take 18]) W W U ⟨aal SV.s F,U⟩ (adR (t.take 18) (λc hc=>k c<|ahv hc) (by simp;omega)<|by simp;omega) W ?_;refine ct W W (EF 10) W<|r0 W ?_;have f:fY ⟨10,none⟩ 1:=gJ (m:=10) gC;let⟨w,l⟩:=nf ⟨10,none⟩ (min 18 t.length) Oy;refine UY (us:=[eN ⟨10,none⟩,.i ((min 18 t.length:Nat):Int)]) W W U ⟨aB.refl _,aal SV.i d,U⟩ (HZ ⟨10,none⟩ (min 18 t.length) Oy f E E) W<|r0 W ?_;have e:fY (uT ⟨10,none⟩<|min 18 t.length) 19:=by refine DN ?_;rw[w];have:nv ⟨10,none⟩=10:=W;rw[this,Int.natAbs_pow];exact Nat.pow_lt_pow_right gC E
 refine b9 W (uh a _ j l q e E) W<|ct W W (EF _) W<|r0 W ?_;let⟨m1,x⟩:=dw a _ j l;have o:=ig j l q e;have n:fY ⟨dy<|t.take 18,none⟩ 18:=DN (by show((dy (t.take 18):Nat):Int).natAbs<_;have:=AX k;omega);refine b9 W (Od _ _ x (Lz<|AX k) o (eh n E) E) W ?_;let⟨v,u⟩:=Cm k j;have H:(wT true 18 (t.length:Int)).toNat=min 18 t.length:=by simp_all
 have D:(t.take t.length).drop (wT true 18 (t.length:Int)).toNat=t.drop 18:=by simp_all
 refine k1 W aP ?_ ?_;have d:wT true 18 (t.length:Int)=((min 18 t.length:Nat):Int):=d;simp[aj,abu,d];omega;refine again (t.drop 18,rdStep t a) (by grind) ⟨C5 k 18,u,?_,by grind,?_,?_⟩ ⟨⟨W,aj8 SV.s D⟩,G,G,G,U⟩
 match m,i,r with
 |0,_,r=>omega
 |m+1,i,r=>refine⟨m,?_,by grind⟩;rw[En,abl E]at i;exact i
 ·dsimp only;rw[v,<-C];have hs:=u5 (t.take 18)<|t.drop 18;rw[ah1]at hs;rw[hs];have p:min 18 t.length+(t.drop 18).length=t.length:=by simp;omega
  have:(10:Int)^t.length=10^min 18 t.length*10^(t.drop 18).length:=by rw[<-ahR,p]
  grind
 grind
 have y:t=[]:=ajg E;subst y;have b:a=En (bR s).length (bR s) ⟨0,none⟩:=by rw[<-i];cases m<;>rfl
 refine r0 W<|qq W W W ?_ ?_<;>intro g2;refine cu W W (Ic a j q E) W<|cm W W<|aB.of_eq ?_;unfold qM;rw[abx g2,<-b];rfl;refine cm W W<|aB.of_eq ?_;unfold qM;rw[abl<|by rw[g2];simp,<-b];rfl
end
def wH(l:L Int)(hl:l.length<2^60):ab 128 [gm l] (.i<|bE id l):=by refine enter func128 W W W W<|r0 W<|aU (λi:Nat=>[(5,.ints _ _ l),(6,.i _),(7,.i i)]) (λi=>i<=l.length/\bE id l=bE id (l.drop i)) (λi=>l.length-i) 0 ⟨abX _,W⟩ ?_;rintro i⟨hi,b⟩;refine cv W W ?_ ?_<;>intro h;have a:i<l.length:=E;have d:(i:Int).toNat=i:=E;rw[im _ a]at b;refine r1 W (eD) ?_;refine cg W ?_ ?_<;>intro c;refine cm W W<|cw ?_;simp_all;refine r1 W (bi) ?_;refine aL (i+1) ⟨E,?_⟩;simp_all;refine cm W W<|cw ?_;rw[b,ahK E];rfl
def pB(b:Bool)(e:Int):ab 161 [.u b,.i e] (.i<|if b then e else 0):=by refine enter func161 W W W W<|r0 W<|qq W W W ?_ ?_<;>intro h;refine cm W W<|cw ?_;rw[h];rfl;refine cm W W<|cw ?_;grind
def uM(n k:Int):Bool:=decide (0<=k/\k<n)
def Bn(p:fZ)(k:Int):ab 164 [bV p,.i k] (.u<|uM p.n k):=by refine enter func164 W W W W<|ck W 7 W ?_ ?_<;>intro h;refine cm W W<|aj8 SV.u ?_;unfold uM;simp_all;exact cm W W<|(decide_eq_false λg=>h g.1).symm
def KA(p:fZ)(h:uC p):ab 125 [bV p] (.i<|aW p.aa):=by
 have hl:=h.aa;refine cx func125 W<|r0 W<|aU (λi:Nat=>[(3,.i<|(p.aa.take i).countP λu=>decide (u.kind=bk)),(7,aj3 p.aa),(8,.i p.aa.length),(9,.i i)]) (λi=>i<=p.aa.length) (λi=>p.aa.length-i) 0 (abX _) ?_;intro i hi;have hc:((p.aa.take i).countP λu=>decide (u.kind=bk))<=i:=ab7 ahN (by simp;omega);refine cv W W ?_ ?_<;>intro e;have b:i<p.aa.length:=E;have c:(i:Int).toNat=i:=E;have d:p.aa.getD i default=p.aa[i]:=az b;have hs:((p.aa.take<|i+1).countP λu=>decide (u.kind=bk))=((p.aa.take i).countP λu=>decide (u.kind=bk))+(if p.aa[i].kind=bk then 1 else 0):=by rw[adY b,aiR,ajI];simp
 refine r1 W (rl) ?_;refine cg W ?_ ?_<;>intro a;rw[c,d]at a;have a:p.aa[i].kind=bk:=a;rw[abx a]at hs;refine r1 W (aD) ?_;refine again (i+1) E E ⟨⟨W,cw ?_⟩,G,G,G,U⟩;rw[hs];rfl;rw[c,d]at a;have a:¬p.aa[i].kind=bk:=a;rw[abl a]at hs;refine r1 W (aD) ?_;refine again (i+1) E E ⟨⟨W,cw ?_⟩,G,G,G,U⟩;rw[hs];rfl;refine cm W W<|cw ?_;unfold aW
 grind
def SL(p:fZ)(k:Int):ab 163 [.i k,.box false<|bV p] (.u<|!uM p.n k):=by refine enter func163 W W W W<|cu W W (Bn p k) W<|cq W W
def qg{α:Type}(f:α->Bool):L α->Int->Int
 |[],_=> -1
 |x::l,i=>if f x then i else qg f l (i+1)
def yf{α:Type}(f:α->Bool){l:L α}{i:Nat}(h:i<l.length):qg f (l.drop i) i=if f l[i]then(i:Int)else qg f (l.drop<|i+1) ((i+1:Nat):Int):=by rw[ad5 h];rfl
def oV{α:Type}(f:α->Bool):∀(l:L α)(i:Int),0<=i->(0<=qg f l i↔∃x∈l,f x=true)
 |[],i,_=>by simp[qg]
 |x::l,i,hi=>by unfold qg;by_cases h:f x=true;simp_all;rw[abl h,oV f l _ E];simp[h]
def W9(p:fZ)(l:L Int)(hl:l.length<2^63):ab 211 [gm l,.fn (.func 163) [] [.box false<|bV p]] (.i<|qg (λk=> !uM p.n k) l 0):=by refine enter func211 W W W W<|r0 W<|aU (λi:Nat=>[(0,.ints _ _ l),(1,.fn _ [] [.box _<|bV p]),(7,.i l.length),(8,.i i)]) (λi=>i<=l.length/\qg (λk=> !uM p.n k) l 0=qg (λk=> !uM p.n k) (l.drop i) i) (λi=>l.length-i) 0 ⟨abX _,W⟩ ?_;rintro i⟨hi,b⟩;refine cv W W ?_ ?_<;>intro h;have a:i<l.length:=E;have d:(i:Int).toNat=i:=E;rw[yf _ a]at b;refine r1 W (eD) ?_;refine b8 W (SL p _) W ?_;rw[d,az a];refine qq W W W ?_ ?_<;>intro c;refine cm W W<|cw ?_;rw[b,abx c];refine r1 W (aD) ?_;refine aL (i+1) ⟨E,?_⟩;simp_all;refine cm W W<|cw ?_;rw[b,ahK E];rfl
def NS(p:fZ)(l:L Int)(hl:l.length<2^63):ab 116 [gm l,.fn (.func 163) [] [.box false<|bV p]] (.u<|decide (∃k∈l,k<0\/p.n<=k)):=by refine enter func116 W W W W<|cu W W (W9 p l hl) W<|cm W W<|aj8 SV.u ?_;rw[decide_eq_decide,oV _ _ _<|aeF 0];unfold uM;simp
def W8(l:L Int)(v:Int)(hl:l.length<2^60):ab 312 [gm l,.i v] (.i<|qg (λk=>decide (v=k)) l 0):=by refine enter func312 W W W W<|r0 W<|aU (λi:Nat=>[(0,.ints _ _ l),(1,.i v),(7,.i _),(8,.i i)]) (λi=>i<=l.length/\qg (λk=>decide (v=k)) l 0=qg (λk=>decide (v=k)) (l.drop i) i) (λi=>l.length-i) 0 ⟨abX _,W⟩ ?_;rintro i⟨hi,d⟩;refine cv W W ?_ ?_<;>intro h;have a:i<l.length:=E;have c:(i:Int).toNat=i:=E;rw[yf _ a]at d;refine r1 W (by simp[aj,c];omega) ?_;refine cg W ?_ ?_<;>intro b;refine cm W W<|cw ?_;simp_all;refine r1 W (aD) ?_;refine aL (i+1) ⟨E,?_⟩;simp_all;refine cm W W<|cw ?_;rw[d,ahK E];rfl
def Qj(l:L Int)(v:Int)(hl:l.length<2^60):ab 243 [gm l,.i v] (.u<|decide (v∈l)):=by refine enter func243 W W W W<|cu W W (W8 l v hl) W<|cm W W<|aj8 SV.u ?_;rw[decide_eq_decide,oV _ _ _<|aeF 0];simp
def TN(s:cj):isNeg (s.take<|aF s)=isNeg s/\bR (s.take<|aF s)=(bR s).take (aF<|bR s)/\s.drop (aF s+1)=(bR s).drop (aF (bR s)+1)/\(aF s<s.length↔aF (bR s)<(bR s).length)/\aF s=(if isNeg s then 1 else 0)+aF (bR s)/\s.length=(if isNeg s then 1 else 0)+(bR s).length:=by
 by_cases h:isNeg s=true;have hs:=I9 s;rw[abx h]at hs;generalize bR s=b at hs⊢;subst hs;have e:aF ([45]++b)=aF b+1:=by simp[aF]
 rw[e,abx h];refine⟨?_,?_,?_,?_,?_,?_⟩;simp[isNeg];rfl;simp;simp;omega;simp;omega;have c:bR s=s:=by unfold bR;rw[abl h]
 have a:=aR
 rw[c,abl h];have hn:isNeg (s.take<|aF s)=false:=by unfold isNeg at a⊢;simp_all
 refine⟨by rw[hn,a],?_,W,Iff.rfl,E,E⟩;unfold bR;rw[hn];rfl
def gcd_one{a:Nm}(h:bz a):(ws a=[]/\a.s=1)↔nv a=1:=by
 rw[xt h];let⟨s,w⟩:=a;cases w with
 |none=>simp[nv]
 |some m=>
  let⟨c,b⟩:=h;simp[nv]
  grind
def kb(z:Int):bR (b7 z)=decl z.natAbs 1:=by
 have:=Sq z 1;have e:wP z 1=b7 z:=by unfold wP eR;simp
 rw[e]at this;rw[this];simp[eR]
def p7(z:Int):isNeg (b7 z)=decide (z<0):=by
 have:=Bo z 1;have e:wP z 1=b7 z:=by unfold wP eR;simp
 grind
def PF(z:Int):E5 (b7 z)=z:=by unfold E5;rw[kb,p7,gK];by_cases h:z<0;rw[decide_eq_true h];show -((z.natAbs:Nat):Int)=z;omega;rw[decide_eq_false h];show((z.natAbs:Nat):Int)=z;omega
def dq(q:Rat):Fr:=⟨qM<|b7 q.num,if q.den=1 then⟨1,none⟩else qM (decl q.den 1)⟩
def AE(n:Nat):bR (decl n 1)=decl n 1:=AD<|cP n 1
def bt(q:Rat):cB (dq q) q:=by let⟨b,d⟩:=pM (s:=b7 q.num) (jp);let⟨a,c⟩:=pM (s:=decl q.den 1) (by rw[AE];exact cP _ 1);rw[PF]at b;rw[zT<|cP _ 1,gK]at a;refine⟨d,?_,b,?_⟩;show bz (if q.den=1 then(⟨1,none⟩:Nm)else qM _);split;exact EE;exact c;show nv (if q.den=1 then(⟨1,none⟩:Nm)else qM _)=q.den;split;rename_i h;rw[h];rfl;exact a
def Fo{q:Rat}{n:Nat}(h:Dc q n)(hn:1<=n):kV (dq q) n:=by have a:=yV (s:=b7 q.num) (jp);have b:=yV (s:=decl q.den 1) (by rw[AE];exact cP _ 1);rw[kb]at a;rw[AE]at b;refine⟨eh a h.1,?_⟩;show fY (if q.den=1 then(⟨1,none⟩:Nm)else qM _) n;split;exact eh (gJ gC) hn;exact eh b h.2
def Ki(q:Rat){n:Nat}(c:Dc q n)(hn:n<2^19):ab 123 [.s<|qt q] (eF<|dq q):=by
 have j:(b7 q.num).length<=n+1:=by
  have:=kb q.num;have d:(b7 q.num).length<=(bR<|b7 q.num).length+1:=by unfold bR;grind
  rw[this]at d;have:=c.1;omega
 have i:=c.2;have b:(qt q).length<=2*n+2:=by
  unfold qt wP eR
  grind
 have hs:aF (qt q)=(b7 q.num).length:=mW _ _;refine cx func123 W<|cu W W (abO (qt q) E) W ?_;have e:(qt q).take (aF<|qt q)=b7 q.num:=by rw[hs];exact uE _ _
 rw[e];refine r0 W<|qq W W W ?_ ?_<;>intro h;have a:q.den=1:=by
  by_cases g:q.den=1;exact g;exfalso;have h:¬aF (qt q)<(qt q).length:=aR
  apply h;rw[hs];unfold qt wP;rw[rL g];simp
 refine cu W W (Em (b7 q.num) (jp) E) W ?_;refine cu W W (bI.yA _) W<|cm W W<|aB.of_eq ?_;unfold dq;rw[abx a];rfl;have a:q.den≠1:=by
  intro g;have h:aF (qt q)<(qt q).length:=aR
  rw[hs]at h;unfold qt wP eR at h;simp_all
 have f:(qt q).drop (aF (qt q)+1)=decl q.den 1:=by rw[hs];exact vC _ _ a
 rw[f];refine cu W W (Em (b7 q.num) (jp) E) W ?_;refine cu W W (Em (decl q.den 1) (by rw[AE];exact cP _ 1) E) W ?_;refine cm W W<|aB.of_eq ?_;unfold dq;rw[abl a];rfl
def jd{s:cj}(h:aV s=0):ab 123 [.s s] (eF<|dq<|bp s):=by have:=Ki _ (BH h) gC;rwa[dU h]at this
def fR{s:cj}(h:aV s=0):kV (dq<|bp s) 600:=Fo (BH h) gC
def yB(b:Bool)(e:Int):ab 224 [.u b,.i e] (.i<|if b then e else 0):=by refine enter func224 W W W W<|r0 W<|qq W W W ?_ ?_<;>intro h;refine cm W W<|cw ?_;rw[h];rfl;refine cm W W<|cw ?_;grind
def sF{s:cj}(hl:s.length<2^63)(C:aV s=0):ab 122 [.s s] (.i 0):=by
 let⟨B,A,z,y,Y,X⟩:=TN s;have F:=rN<|bR s;refine cx func122 W<|cu W W (abO s E) W<|cu W W (adx (s.take<|aF s)<|by simp;omega) W ?_;refine rn 6 W ?_;rw[B,A,z,show decide (aF s<s.length)=decide (aF (bR s)<(bR s).length)from decide_eq_decide.2 y];obtain⟨Z,n⟩:∃Z,Z=(bR s).take (aF<|bR s):=⟨_,W⟩;obtain⟨D,o⟩:∃D,D=(bR s).drop (aF (bR s)+1):=⟨_,W⟩;have J:Z.length=aF (bR s):=gn;have O:D.length=(bR s).length-(aF (bR s)+1):=gn;have H:=AA s;have K:lz s=(jL Z&& !(isNeg s&&decide (Z=[48]))):=by rw[n];rfl
 have u:mO s=(!decide (aF (bR s)<(bR s).length)||(jL D&& !decide (D=[48])&& !decide (D=[49]))):=by rw[o];rfl
 have v:qp s=(!decide (aF (bR s)<(bR s).length)||decide (Nat.gcd (dy Z) (dy D)=1)):=by rw[n,o];rfl
 rw[<-n,<-o];obtain⟨p,m⟩:∃p,p=decide (aF (bR s)<(bR s).length):=⟨_,W⟩;have M:aV s=if lz s then(if mO s then(if 600<Z.length\/600<D.length then 4 else if qp s then 0 else 1)else 1)else 1:=by
  unfold aV
  grind
 rw[<-m]at u v⊢;rw[M]at C;have j:lz s=true:=by grind
 have c:mO s=true:=by grind
 have r:Z.length<=600/\D.length<=600:=by grind
 have g1:qp s=true:=by grind
 rw[K,adS]at j;rw[u]at c;rw[v]at g1;have a:=(pt j.1).1;refine cU 1 [(4,.s D),(5,.u p),(6,.s Z)] True ?_ λ_=>?_
 ·refine cu W W (U6 Z E) W<|r0 W<|iD 24 W (λh=>by simp[j.1]at h) λ_=>?_;refine r0 W<|iD 26 W (λg=>ck W 31 W (λg2=>abK g2 (by have:=j.2;simpa[g]using this)) λ_=>?_) λg=>?_
  all_goals
   refine r0 W<|iD 33 W ?_ ?_<;>intro e;rw[e]at c;simp only[ajE,aiE,adS,ahZ,decide_eq_false_iff_not]at c;refine cu W W (U6 D E) W<|r0 W<|iD 37 W (λh=>by simp[c.1.1]at h) λ_=>?_;refine ck W 41 W (λh=>abK h c.1.2) λ_=>?_;refine cv W W (λh=>abK h c.2) λ_=>?_;refine r0 W<|bo U;refine r0 W<|bo U
 refine ck W 50 W (λg=>abK g E) λ_=>?_;refine cv W W (λg=>abK g E) λ_=>?_;refine r0 W<|qq W W W ?_ ?_<;>intro e;rw[e]at c g1;simp only[ajE,aiE,adS,decide_eq_true_eq]at c g1;have b:=(pt c.1.1).1;have k:=AD a;have l:=AD b;let⟨x,q⟩:=pM (s:=Z) (by rw[k];exact a);let⟨S,w⟩:=pM (s:=D) (by rw[l];exact b);have d:=yV (s:=Z) (by rw[k];exact a);have f:=yV (s:=D) (by rw[l];exact b);rw[k]at d;rw[l]at f;have d:=eh d r.1;have f:=eh f r.2;let⟨V,T,c3⟩:=Bs _ _ q w d f;refine cu W W (Em Z (by rw[k];exact a) E) W ?_;refine cu W W (Em D (by rw[l];exact b) E) W ?_;refine cu W W (abB _ _ q w d f E) W<|cu W W (Zf _) W ?_;have t:=gcd_one T;have N:nv (ya (qM Z)<|qM D)=1:=by rw[V,x,S,zT a,zT b];show((Int.gcd ((dy Z:Nat):Int) ((dy D:Nat):Int):Nat):Int)=1;rw[Int.gcd_natCast_natCast];omega
 refine r0 W<|iD 67 W ?_ ?_<;>intro R;exfalso;simp_all;refine cv W W ?_ ?_<;>intro P;exfalso;simp_all;refine cq W W;refine cq W W
def aaD(xs:L cj)(b:∀s∈xs,cE s/\aV s=0)(hl:xs.length<2^63):ab 288 [.strs false xs,.fn (.func 122) [] []] (.i 0):=by refine cx func288 W<|r0 W<|aU (λi:Nat=>[(1,.fn (.func 122) [] []),(8,.strs false xs),(9,.i xs.length),(10,.i i)]) (λi=>i<=xs.length) (λi=>xs.length-i) 0 (abX _) ?_;intro i hi;refine cv W W ?_ ?_<;>intro h;have a:i<xs.length:=E;have d:(i:Int).toNat=i:=E;have e:xs.getD (i:Int).toNat []=xs[i]:=gn;have hs:=b _<|ab3 a;refine r1 W (eD) ?_;refine Hh (us:=[.s xs[i]]) W W U ⟨aal SV.s e,U⟩ (sF hs.1 hs.2) W<|cv W W (λc=>abK W c) λ_=>?_;refine r1 W (aD) ?_;exact aL (i+1) E;refine cq W W
def Uy(xs:L cj)(a:∀s∈xs,cE s/\aV s=0)(hl:xs.length<2^63):ab 223 [.strs false xs] (.i 0):=by refine cx func223 W<|cu W W (aaD _ a hl) W<|cq W W
def QW(s:fG)(e:cE s.lo)(d:cE s.hi)(h:fP s=0):ab 126 [fc s] (.i 0):=by
 have a:aV s.lo=0:=ro
 have b:aV s.hi=0:=ro
 have hc:¬0<wY (bp s.lo) (bp s.hi):=ro
 refine cx func126 W<|cu W W (Uy [s.lo,s.hi] (λx c=>by grind) I) W<|cv W W (λh=>abK W h) λ_=>?_;refine ct W W (jd a) W<|ct W W (jd b) W<|b9 W (Ko _ _ (bt _) (bt _) (fR a) (fR b) gC) W<|ct W W (yB _ 11) W<|k0 W aP<|aJ W<|cw ?_;rw[Lk];have:=oZ (p:=bp s.lo) (q:=bp s.hi)
 grind
end Go.Ai.Pg
