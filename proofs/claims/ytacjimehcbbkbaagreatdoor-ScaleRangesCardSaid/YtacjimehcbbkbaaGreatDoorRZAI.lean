/- ScaleRanges holds of the program, under no condition. -/
import Derived.Test.YtacjimehcbbkbaaGreatDoorRZAH
import Derived.Laws.StandIn
set_option linter.all false
set_option maxRecDepth 100000
set_option maxHeartbeats 0
open Go.Proofs Go.Ai Go.Proofs.Tryz
namespace Go.Ai.bG
def YT{x y w c:Nat}(b:x<2^64)(a:y<2^64)(d:w<2^64)(hc:c<2^64):
 x*y/2^64+(x*y%2^64+w+0)/2^64<2^64/\
 x*y/2^64+(x*y%2^64+w+0)/2^64+((x*y%2^64+w+0)%2^64+c+0)/2^64<2^64/\
 ((x*y%2^64+w+0)%2^64+c+0)%2^64+2^64*(x*y/2^64+(x*y%2^64+w+0)/2^64+((x*y%2^64+w+0)%2^64+c+0)/2^64)=x*y+w+c:=by
 have e:x*y<=18446744073709551615*18446744073709551615:=ael E E;omega
def DF(m n:Nat)(S:(ah m).length<2^40)(R:(ah n).length<2^40):aN Tryz.prog 257 [.ints .u64 false<|ah m,.ints .u64 false<|ah n] (.ints .u64 false<|ah<|m*n):=by
 refine cp Tryz.func257 W<|r1 W bk<|lp (λ(i:Nat)(out:List Int)=>[(1,.ints .u64 false<|ah n),(5,.ints .u64 true out),(20,.ints .u64 false<|ah m),(21,.i (ah m).length),(22,.i i)])
  (λi out=>iR out/\out.length=(ah m).length+(ah n).length/\val out=val ((ah m).take i)*n/\i<=(ah m).length/\∀k,i+(ah n).length<=k->out.getD k 0=0)
  (λi _=>(ah m).length-i) 0 (List.replicate ((ah m).length+(ah n).length) 0) ⟨gb _,I,by simp[val,jn],E,λk _=>iJ _ _⟩
  ⟨G,⟨W,aij (SV.ints .u64 true)<|by congr 1⟩,G,G,G,U⟩ ?_
 rintro i out⟨v,hl,u,hi,F⟩;refine cm W W ?_ ?_<;>intro h
 ·have J:i<(ah m).length:=E;have B:(i:Int).toNat=i:=E;obtain⟨x,t,e⟩:=nr m i;refine r1 W (by simp only[aj,aag,B]<;>omega) ?_;rw[B,t];refine pV (λ(k:Nat)(o:List Int)(c:Nat)=>[(1,.ints .u64 false<|ah n),(5,.ints .u64 true o),(6,.i i),(7,.n .u64 x),(8,.n .u64 c),(20,.ints .u64 false<|ah m),(21,.i (ah m).length),(22,.i i),(27,.ints .u64 false<|ah n),(28,.i (ah n).length),(29,.i k)])
   (λk o c=>iR o/\o.length=(ah m).length+(ah n).length/\c<18446744073709551616/\val o+c*18446744073709551616^(i+k)=val out+x*val ((ah n).take k)*18446744073709551616^i/\k<=(ah n).length/\∀b,i+k<=b->o.getD b 0=out.getD b 0)
   (λk _ _=>(ah n).length-k) 0 out 0 ⟨v,hl,E,by simp[val],E,λ_ _=>rfl⟩ ⟨G,G,G,G,G,G,G,G,G,G,G,U⟩ ?_
  rintro k o c⟨q,g,N,M,T,z⟩;refine cm W W ?_ ?_<;>intro K
  ·have f:k<(ah n).length:=E;have A:(k:Int).toNat=k:=E;have a:((i:Int)+(k:Int)).toNat=i+k:=E;obtain⟨y,s,d⟩:=nr n k;obtain⟨w,j,l⟩:∃w:Nat,o.getD (i+k) 0=w/\w<18446744073709551616:=by
    have:=bt q<|i+k;exact⟨(o.getD (i+k) 0).toNat,E,E⟩
   obtain⟨D,r,P⟩:=YT e d l N;refine r1 W (by simp only[aj,aag,A]<;>omega) ?_;rw[A,s];refine bW W (ll x y e d) W<|r1 W (by simp only[aj,aag,a,g]<;>omega) ?_;rw[a,j];refine bW W (gi (x*y%18446744073709551616) w 0 fV) W<|r1 W bk<|bW W (gi ((x*y%18446744073709551616+w+0)%18446744073709551616) c 0 fV) W<|r1 W (by simp only[aj,aag,a,g]<;>omega) ?_;rw[a];have O:IntKind.u64.wrap (IntKind.u64.wrap (((x*y/18446744073709551616:Nat):Int)+(((x*y%18446744073709551616+w+0)/18446744073709551616:Nat):Int))+((((x*y%18446744073709551616+w+0)%18446744073709551616+c+0)/18446744073709551616:Nat):Int))=
    ((x*y/18446744073709551616+(x*y%18446744073709551616+w+0)/18446744073709551616+((x*y%18446744073709551616+w+0)%18446744073709551616+c+0)/18446744073709551616:Nat):Int):=by
    rw[<-aho,wr D,<-aho,wr r]
   refine again (k+1,o.set (i+k) (((((x*y%18446744073709551616+w+0)%18446744073709551616+c+0)%18446744073709551616:Nat)):Int),x*y/18446744073709551616+(x*y%18446744073709551616+w+0)/18446744073709551616+((x*y%18446744073709551616+w+0)%18446744073709551616+c+0)/18446744073709551616)
    (by dsimp only;omega) ⟨fF q E,by simpa using g,r,?_,by dsimp only;omega,?_⟩ ⟨G,G,G,G,⟨W,aij (SV.n .u64) O⟩,G,G,G,G,G,G,U⟩
   ·dsimp only;have p:i+k<o.length:=E;rw[lK _ p,j,aL,s,show i+(k+1)=i+k+1 from E,aeJ,afT]
    grind
   dsimp only;intro b f;rw[dy,aaq E];exact z b E
  have H:k=(ah n).length:=E;subst H;rw[acD<|aaU _,bA]at M;have j:o.getD (i+(ah n).length) 0=0:=by grind
  have C:((i:Int)+((ah n).length:Int)).toNat=i+(ah n).length:=E;refine r1 W (by simp only[aj,aag,g,C]<;>omega) ?_;rw[C];refine aM (i+1,o.set (i+(ah n).length) c) ⟨fF q E,by simpa using g,?_,by dsimp only;omega,?_⟩
  ·dsimp only;rw[lK _ E,j,aL,t]
   grind
  dsimp only;intro b f;rw[dy,aaq E,z _ E];exact F _ E
 have:i=(ah m).length:=E;subst this;rw[acD<|aaU _,bA]at u;refine ck W W (dK out E) W<|b7 W W<|aij (SV.ints .u64 false) ?_;rw[eM v,u]
 congr 1
structure Nm where
 s:Int
 w:Option Nat
def wS:Q Nat->SV
 |none=>.nil
 |some m=>fS<|ah m
def pI(a:Nm):SV:=.agg [.i a.s,wS a.w]
def nv(a:Nm):Int:=match a.w with|none=>a.s|some m=>a.s*m
def bu(a:Nm):Prop:=match a.w with
 |none=> -(2^63)<=a.s/\a.s<=9223372036854775807
 |some m=>(a.s=1\/a.s= -1)/\2^63<=m
def gj(a:Nm)(K:Nat):Prop:=(ah (nv a).natAbs).length<=K
def wrI(a:Int):IntKind.i64.wrap a=(a+2^63)%2^64-(2^63):=by
 have e:IntKind.i64.wrap a=if(true&&decide (a%2^64>=2^63))=true then a%2^64-(2^64)else a%2^64:=W
 grind
def wb(n:Int)(h: -(2^63)<=n/\n<=9223372036854775807):ab 256 [.i n] (.n .u64 n.natAbs):=by refine cp func256 W<|cm W W ?_ ?_<;>intro a;refine kw [6] W W U<|aH W<|aij (SV.n .u64) ?_;rw[TZ,wrI];omega;refine b7 W W<|aij (SV.n .u64) ?_;rw[TZ];omega
def oF{f:Nat}(b:0<f)(a:f<2^64):ah f=[(f:Int)]:=nw b a
def dX(a:Nm)(h:bu a):ab 248 [pI a] (.bU [.u<|decide (a.s<0),fS<|ah (nv a).natAbs]):=by
 obtain⟨s,w⟩:=a;cases w with
 |none=>have h: -(2^63)<=s/\s<=9223372036854775807:=h;refine cp func248 W<|cm W W ?_ ?_<;>intro b;have b:s=0:=b;subst b;refine b7 W W ⟨W,c6,U⟩;have b:¬s=0:=b;refine cj W W (wb s h) W<|k0 W aP<|RY W ⟨W,aaf (fS) ?_,U⟩;exact(oF (f:=s.natAbs) E E).symm
 |some m=>
  obtain⟨hs,hm⟩:(s=1\/s= -1)/\2^63<=m:=h;have c:ah m≠[]:=by intro e;have:=bA m;rw[e]at this;simp[val]at this;omega
  have hn:(nv ⟨s,some m⟩).natAbs=m:=by
   show(s*(m:Int)).natAbs=m
   grind
  rw[hn];refine cp func248 W<|k1 W aP (by simp[aj,aag];exact c) ?_;exact bV W
def tq(neg:Bool)(m:Nat):Nm:=if m<=9223372036854775807 then⟨if neg then -(m:Int)else m,none⟩else⟨if neg then -1 else 1,some m⟩
def nZ(neg:Bool)(m:Nat):nv (tq neg m)=if neg then -(m:Int)else m:=by
 unfold tq nv
 grind
def qw(neg:Bool)(m:Nat):bu (tq neg m):=by
 unfold tq bu
 grind
def gm{m:Nat}(h:m<2^64):(ah m).length<=1:=by rcases aeg m with g|g;subst g;simp[c6];rw[oF g h];simp
def kH(neg:Bool)(m:Nat)(hl:(ah m).length<2^40):ab 249 [.u neg,fS<|ah m] (pI<|tq neg m):=by
 have a:Int.toNat 0=0:=W;have one:(ah m).length=1->0<m/\m<2^64/\(ah m).getD 0 0=m:=by
  intro h;have k:=cu m;rw[h]at k;have i:0<m:=by rcases aeg m with g|g;subst g;rw[c6]at h;cases h;exact g
  have c:m<2^64:=E;exact⟨i,c,by rw[oF i c];rfl⟩
 refine cp func249 W<|cm W W ?_ ?_<;>intro k;have hm:m=0:=by rcases aeg m with g|g;exact g;have:=gF (n:=m) E;omega
 subst hm;refine b7 W W ?_;unfold tq;rw[aas fV];cases neg<;>exact⟨W,U,U⟩;refine b6 W 14 W ?_ ?_<;>intro i;obtain⟨o,l,o3⟩:=one E;refine r1 W (by simp[aj,aag,a]<;>omega) ?_;rw[a,o3];refine aF 20 W ?_ ?_<;>intro c;have c:(m:Int)<=9223372036854775807:=c;refine r0 W<|nS W W W ?_ ?_<;>intro f;have f:neg=true:=f;subst f;refine kw [27] W W (by simp only[aj,aag,a]<;>omega) ?_;rw[a,o3];refine aH W ?_;unfold tq;rw[aas E];refine⟨aaf SV.i ?_,U,U⟩;rw[wrI]
 grind
 have f:neg=false:=f;subst f;refine b6 W 33 W (λe=>?_) λe=>aaF i e;refine r1 W (by simp[aj,aag,a]<;>omega) ?_;rw[a,o3];refine bY W (λj=>?_) λj=>aaF c j;refine r1 W (by simp only[aj,aag,a]<;>omega) ?_;rw[a,o3];refine aH W ?_;unfold tq;rw[aas E];refine⟨aaf SV.i ?_,U,U⟩;rfl;have c:¬(m:Int)<=9223372036854775807:=c;refine b6 W 33 W (λe=>?_) λe=>aaF i e;refine r1 W (by simp[aj,aag,a]<;>omega) ?_;rw[a,o3];refine bY W (λj=>aaF j c) λj=>?_;refine r0 W<|nS W W W ?_ ?_<;>intro b;have b:neg=true:=b;subst b;refine b7 W W<|aw.of_eq<|by unfold tq;rw[aaq E];rfl
 have b:neg=false:=b;subst b;refine b7 W W<|aw.of_eq<|by unfold tq;rw[aaq E];rfl
 have d:¬m<=9223372036854775807:=by intro g;have:=gm (m:=m) E;omega
 refine b6 W 33 W (λe=>aaF e i) λe=>?_;refine r0 W<|nS W W W ?_ ?_<;>intro b;have b:neg=true:=b;subst b;refine b7 W W<|aw.of_eq<|by unfold tq;rw[aaq d];rfl
 have b:neg=false:=b;subst b;refine b7 W W<|aw.of_eq<|by unfold tq;rw[aaq d];rfl
def wc(a:Nm)(h:bu a):ab 213 [pI a] (.i (nv a).sign):=by
 obtain⟨s,w⟩:=a;cases w with
 |none=>
  refine cp func213 W<|b7 W W<|cn ?_;show max (-1) (min 1 s)=s.sign
  grind
 |some m=>
  obtain⟨hs,hm⟩:=h;refine cp func213 W<|b7 W W<|cn ?_;show max (-1) (min 1 s)=(s*(m:Int)).sign
  grind
def jS(a:Nm)(h:bu a):(a.s<0↔nv a<0)/\(a.w=none->nv a=a.s):=by
 obtain⟨s,w⟩:=a;cases w with
 |none=>exact⟨Iff.rfl,λ_=>rfl⟩
 |some m=>
  obtain⟨hs,hm⟩:=h;refine⟨?_,λg=>by simp at g⟩;show s<0↔s*(m:Int)<0
  grind
def oo(n:Nat)(h:0<n):ah n≠[]:=by
 have:=gF (n:=n) E
 grind
def jd(a:Nm):Nm:=if a.w=none/\a.s≠ -(2^63)then⟨-a.s,none⟩else tq (!decide (a.s<0)) (nv a).natAbs
def dP(a:Nm)(h:bu a):nv (jd a)= -nv a/\bu (jd a):=by
 have b:=jS a h;unfold jd;split;rename_i g;obtain⟨s,w⟩:=a;obtain⟨rfl,g2⟩:w=none/\s≠ -(2^63):=g;have h: -(2^63)<=s/\s<=9223372036854775807:=h;exact⟨W,show -(2^63)<= -s/\ -s<=9223372036854775807 from E⟩;refine⟨?_,qw _ _⟩;rw[nZ]
 grind
def qV(a:Nm)(h:bu a){K:Nat}(hl:gj a K)(f:K<2^40):ab 253 [pI a] (pI<|jd a):=by
 have d:=dX a h;unfold gj at hl;obtain⟨s,w⟩:=a;cases w with
 |none=>have h: -(2^63)<=s/\s<=9223372036854775807:=h;refine cp func253 W<|cm W W ?_ ?_<;>intro b;have b:s≠ -(2^63):=b;refine r1 W bh<|aH W ?_;unfold jd;rw[aas ⟨W,b⟩];exact⟨aaf SV.i<|by show 0-s= -s;omega,U,U⟩;have b:¬s≠ -(2^63):=b;refine ck W W d W<|ck W W (kH (!decide (s<0)) (nv ⟨s,none⟩).natAbs E) W ?_;unfold jd;rw[aaq λg=>b g.2];generalize tq (!decide ((⟨s,none⟩:Nm).s<0)) (nv ⟨s,none⟩).natAbs=r;obtain⟨e,c⟩:=r;cases c<;>exact r0 W (bV W)
 |some m=>obtain⟨hs,hm⟩:(s=1\/s= -1)/\2^63<=m:=h;refine cp func253 W<|r1 W (by simp[aj,aag];exact oo m E) ?_;refine bW W d W<|ck W W (kH (!decide (s<0)) (nv ⟨s,some m⟩).natAbs E) W ?_;unfold jd;rw[aaq λg=>by simp at g];generalize tq (!decide ((⟨s,some m⟩:Nm).s<0)) (nv ⟨s,some m⟩).natAbs=r;obtain⟨e,c⟩:=r;cases c<;>exact cg W W
def AP(a:Nm):Nm:=if a.s<0 then jd a else a
def oH(a:Nm)(h:bu a):nv (AP a)=(nv a).natAbs/\bu (AP a):=by
 have b:=jS a h;unfold AP;split;rename_i g;obtain⟨d,c⟩:=dP a h
 grind
 grind
def PR(a:Nm)(h:bu a){K:Nat}(hl:gj a K)(e:K<2^40):ab 281 [pI a] (pI<|AP a):=by
 have hn:=qV a h hl e;unfold AP;obtain⟨s,w⟩:=a;cases w with
 |none=>refine cp func281 W<|cm W W ?_ ?_<;>intro b;have b:=b;rw[aas b];refine ck W W hn W ?_;generalize jd ⟨s,none⟩=r;obtain⟨d,c⟩:=r;cases c<;>exact cg W W;have b:=b;rw[aaq b];exact r0 W (bV W)
 |some m=>refine cp func281 W<|cm W W ?_ ?_<;>intro b;have b:=b;rw[aas b];refine ck W W hn W ?_;generalize jd ⟨s,some m⟩=r;obtain⟨d,c⟩:=r;cases c<;>exact cg W W;have b:=b;rw[aaq b];exact cg W W
def Xn(a:Bool)(A:Nat)(b:Bool)(B:Nat):Nm:=if a=b then tq a (A+B)else if B<=A then tq a (A-B)else tq b (B-A)
def AN(x y:Int):Bool:=decide (x<IntKind.i64.wrap (x+y))==decide (0<y)
def ze(a b:Nm):Nm:=if a.w=none/\b.w=none/\AN a.s b.s=true then⟨IntKind.i64.wrap<|a.s+b.s,none⟩else Xn (decide (a.s<0)) (nv a).natAbs (decide (b.s<0)) (nv b).natAbs
def PO{x y:Int}(b: -(2^63)<=x/\x<=9223372036854775807)(a: -(2^63)<=y/\y<=9223372036854775807)(h:AN x y=true):IntKind.i64.wrap (x+y)=x+y:=by unfold AN at h;rw[beq_iff_eq,decide_eq_decide]at h;rw[wrI]at*;omega
def lD(a b:Nm)(d:bu a)(c:bu b):nv (ze a b)=nv a+nv b/\bu (ze a b):=by
 have j:=jS a d;have i:=jS b c;unfold ze;split;rename_i g;obtain⟨s,w⟩:=a;obtain⟨t,v⟩:=b;obtain⟨rfl,rfl,e⟩:=g;have:=PO d c e;refine⟨this,?_⟩;show -(2^63)<=IntKind.i64.wrap (s+t)/\IntKind.i64.wrap (s+t)<=9223372036854775807;rw[wrI];omega;unfold Xn;have h:decide (a.s<0)=decide (nv a<0):=fP;have f:decide (b.s<0)=decide (nv b<0):=fP;rw[h,f];split;rename_i g;refine⟨?_,qw _ _⟩;rw[nZ]
 grind
 rename_i g;rw[decide_eq_decide]at g;split;refine⟨?_,qw _ _⟩;rw[nZ]
 grind
 refine⟨?_,qw _ _⟩;rw[nZ]
 grind
def Xm(a b:Nm)(x:bu a)(q:bu b){K:Nat}(l:gj a K)(k:gj b K)(y:K<2^39):
 AK R0 prog Tryz.f174.ntmps (TK prog Tryz.f174.results.toList<|pI<|Xn (decide (a.s<0)) (nv a).natAbs (decide (b.s<0)) (nv b).natAbs) [.code (mU 2 (Tryz.f174.body.getD .skip)).2]
  (sl [(2,.box true<|pI a),(3,.box true<|pI b),(4,.box true<|.agg [.i 0,.nil])]):=by
 have p:=dX a x;have o:=dX b q;unfold gj at l k;generalize (nv a).natAbs=A at*;generalize (nv b).natAbs=B at*;have u:=pf l k;refine cQ 2 [(4,.box true<|.agg [.i 0,.nil]),(6,.u<|decide (a.s<0)),(7,fS<|ah A),(8,.u<|decide (b.s<0)),(9,fS<|ah B)] True ?_ λ_=>?_
 ·obtain⟨s,w⟩:=a;obtain⟨t,v⟩:=b;cases w<;>cases v
  all_goals
   refine ck W W p W<|ck W W o W<|r0 W<|bm U
 generalize decide (a.s<0)=e;generalize decide (b.s<0)=g;refine r0 W<|nS W W W ?_ ?_<;>intro d;have d:e=g:=by simpa using d
 unfold Xn;rw[aas d];refine ck W W (Fz A B E E) W<|ck W W (kH e (A+B) E) W ?_;generalize tq e (A+B)=r;obtain⟨j,f⟩:=r;cases f<;>exact cg W W;have d:¬e=g:=by simpa using d
 unfold Xn;rw[aaq d];refine ck W W (pC A B E E) W<|cm W W ?_ ?_<;>intro c;have c:0<=pD A B:=c;have h:B<=A:=by unfold pD at c;split at c<;>omega
 rw[aas h];have:=length_le (m:=A-B) (n:=A) E;refine ck W W (tC A B E h) W<|ck W W (kH e (A-B) E) W ?_;generalize tq e (A-B)=r;obtain⟨j,f⟩:=r;cases f<;>exact cg W W;have c:¬0<=pD A B:=c;have h:¬B<=A:=by unfold pD at c;omega
 rw[aaq h];have:=length_le (m:=B-A) (n:=B) E;refine ck W W (tC B A E E) W<|ck W W (kH g (B-A) E) W ?_;generalize tq g (B-A)=r;obtain⟨j,f⟩:=r;cases f<;>exact cg W W
def Fw(a b:Nm)(f:bu a)(i:bu b){K:Nat}(l:gj a K)(j:gj b K)(o:K<2^39):ab 174 [pI a,pI b] (pI<|ze a b):=by
 have e:=Xm a b f i l j o;have c:∀(x:Nm)(s:Int)(m:Nat),x=⟨s,some m⟩->bu x->ah m≠[]:=by rintro x s m rfl h;have:2^63<=m:=h.2;exact oo m E
 unfold ze;refine cp func174 W ?_;obtain⟨s,w⟩:=a;obtain⟨t,v⟩:=b;cases w with
 |none=>
  cases v with
  |none=>by_cases g:AN s t=true;rw[aas ⟨W,W,g⟩];refine kw [22] W W U<|nS W W W ?_ ?_<;>intro d;refine cg W W;exact aaF g (by rw[show AN s t=false from d];simp);rw[aaq λk=>g k.2.2];refine cQ 2 [(2,.box true<|pI ⟨s,none⟩),(3,.box true<|pI ⟨t,none⟩),(4,.box true<|.agg [.i 0,.nil])] True ?_ λ_=>e;refine kw [22] W W U<|nS W W W ?_ ?_<;>intro d;exact aaF (show AN s t=true from d) g;refine r0 W<|bm U
  |some n=>rw[aaq λk=>by simp at k];refine cQ 2 [(2,.box true<|pI ⟨s,none⟩),(3,.box true<|pI ⟨t,some n⟩),(4,.box true<|.agg [.i 0,.nil])] True ?_ λ_=>e;refine r1 W (by simp[aj,aag];exact c _ _ _ W i) ?_;exact bm U
 |some m=>
  cases v with
  |none=>rw[aaq λk=>by simp at k];refine cQ 2 [(2,.box true<|pI ⟨s,some m⟩),(3,.box true<|pI ⟨t,none⟩),(4,.box true<|.agg [.i 0,.nil])] True ?_ λ_=>e;refine r1 W (by simp[aj,aag];exact c _ _ _ W f) ?_;exact bm U
  |some n=>rw[aaq λk=>by simp at k];refine cQ 2 [(2,.box true<|pI ⟨s,some m⟩),(3,.box true<|pI ⟨t,some n⟩),(4,.box true<|.agg [.i 0,.nil])] True ?_ λ_=>e;refine r1 W (by simp[aj,aag];exact c _ _ _ W f) ?_;exact bm U
section
variable{x y:Int}{K L:Nat}{a b:Nm}
def nY(h:bu a)(hl:gj a K):gj (jd a) K:=by unfold gj at *;rw[(dP a h).1,Int.natAbs_neg];exact hl
def Kg(f:bu a)(e:bu b)(d:gj a K)(c:gj b K):gj (ze a b) (K+1):=by unfold gj at *;rw[(lD a b f e).1];exact acI (length_le<|Int.natAbs_add_le _ _)<|pf d c
def KE(a b:Nm):Nm:=ze a<|jd b
def zr(a b:Nm)(d:bu a)(c:bu b):nv (KE a b)=nv a-nv b/\bu (KE a b):=by obtain⟨h,f⟩:=dP b c;obtain⟨g,e⟩:=lD a (jd b) d f;exact⟨by unfold KE;omega,e⟩
def N2(a b:Nm)(j:bu a)(e:bu b)(i:gj a K)(f:gj b K)(k:K<2^39):ab 287 [pI a,pI b] (pI<|KE a b):=by
 have hn:=qV b e f E;have hs:=Fw a (jd b) j (dP b e).2 i (nY e f) k;unfold KE;generalize jd b=c at*;generalize ze a c=r at*;refine cp func287 W ?_;obtain⟨s,w⟩:=a;obtain⟨t,v⟩:=b;obtain⟨l,g⟩:=c;obtain⟨h,d⟩:=r;cases w<;>cases v<;>cases g<;>cases d
 all_goals
  refine cj W W hn W<|bX W hs W<|k0 W aP<|bV W
def wx(x y:Int):Prop:=x.natAbs*y.natAbs/2^64=0/\x.natAbs*y.natAbs%2^64<=9223372036854775807
instance(x y:Int):Decidable (wx x y):=by unfold wx;infer_instance
def kf(a b:Nm):Nm:=if a.w=none/\b.w=none/\wx a.s b.s then⟨a.s*b.s,none⟩else tq (decide (a.s<0)!=decide (b.s<0)) ((nv a).natAbs*(nv b).natAbs)
def DI(h:wx x y):x.natAbs*y.natAbs<=9223372036854775807:=by obtain⟨d,c⟩:=h;omega
def sign_mul:x*y=if decide (x<0)!=decide (y<0)then -((x.natAbs*y.natAbs:Nat):Int)else((x.natAbs*y.natAbs:Nat):Int):=by grind
def dh(a b:Nm)(d:bu a)(c:bu b):nv (kf a b)=nv a*nv b/\bu (kf a b):=by have h:=jS a d;have f:=jS b c;unfold kf;split;rename_i g;obtain⟨s,w⟩:=a;obtain⟨t,v⟩:=b;obtain⟨rfl,rfl,e⟩:w=none/\v=none/\wx s t:=g;have:=DI e;refine⟨W,?_⟩;show -(2^63)<=s*t/\s*t<=9223372036854775807;rw[sign_mul];split<;>omega;refine⟨?_,qw _ _⟩;rw[nZ,sign_mul];simp_all
def gT(f:bu a)(e:bu b)(d:gj a K)(c:gj b L):gj (kf a b) (K+L):=by unfold gj at *;rw[(dh a b f e).1,afX];exact acI (eC _ _)<|ahF d c
def ZU(x y:Bool):(decide ¬x=y)=(x !=y):=by grind
def Vm(a b:Nm)(m:bu a)(k:bu b)(j:gj a K)(h:gj b L)(o:K+L<2^39):
 AK R0 prog Tryz.f181.ntmps (TK prog Tryz.f181.results.toList<|pI<|tq (decide (a.s<0)!=decide (b.s<0))<|(nv a).natAbs*(nv b).natAbs) [.code (mU 2 (Tryz.f181.body.getD .skip)).2]
  (sl [(2,.box true<|pI a),(3,.box true<|pI b),(4,.box true<|.agg [.i 0,.nil])]):=by
 have g:=dX a m;have f:=dX b k;unfold gj at j h;generalize (nv a).natAbs=A at*;generalize (nv b).natAbs=B at*;have l:=eC A B;refine cQ 2 [(4,.box true<|.agg [.i 0,.nil]),(7,.u<|decide (a.s<0)),(8,fS<|ah A),(9,.u<|decide (b.s<0)),(10,fS<|ah B)] True ?_ λ_=>?_
 ·obtain⟨s,w⟩:=a;obtain⟨t,v⟩:=b;cases w<;>cases v
  all_goals
   refine ck W W g W<|ck W W f W<|r0 W<|bm U
 generalize decide (a.s<0)=d;generalize decide (b.s<0)=c;refine ck W W (DF A B E E) W<|cl W (by rw[ZU];rfl) (kH (d !=c) (A*B) E) W ?_;generalize tq (d !=c) (A*B)=r;obtain⟨n,e⟩:=r;cases e<;>exact cg W W
def OI(a b:Nm)(d:bu a)(f:bu b)(u:gj a K)(r:gj b L)(z:K+L<2^39):ab 181 [pI a,pI b] (pI<|kf a b):=by
 have o:=Vm a b d f u r z;have c:∀(x:Nm)(s:Int)(m:Nat),x=⟨s,some m⟩->bu x->ah m≠[]:=by rintro x s m rfl h;have:2^63<=m:=h.2;exact oo m E
 unfold kf;refine cp func181 W ?_;obtain⟨s,w⟩:=a;obtain⟨t,v⟩:=b;cases w with
 |none=>
  cases v with
  |none=>
   have d: -(2^63)<=s/\s<=9223372036854775807:=d;have f: -(2^63)<=t/\t<=9223372036854775807:=f;have q:=ll s.natAbs t.natAbs E E;refine cQ 2 [(2,.box true<|pI ⟨s,none⟩),(3,.box true<|pI ⟨t,none⟩),(4,.box true<|.agg [.i 0,.nil])] (¬wx s t) ?_ λg=>?_;refine cj W W (wb s d) W<|cj W W (wb t f) W<|cj W W q W<|k0 W aP<|aF 31 W ?_ ?_<;>intro l;have l:((s.natAbs*t.natAbs/2^64:Nat):Int)=0:=l;refine cm W W ?_ ?_<;>intro j;have j:((s.natAbs*t.natAbs%2^64:Nat):Int)<=9223372036854775807:=j;have p:wx s t:=⟨E,E⟩;have A:=DI p;rw[aas ⟨W,W,p⟩];have e:=sign_mul (x:=s) (y:=t);refine r0 W<|nS W W W ?_ ?_<;>intro i;have i:(decide (s<0)!=decide (t<0))=true:=fP;rw[i,aas W]at e;refine r1 W bh<|aH W ⟨aaf SV.i ?_,U,U⟩
   grind
   have i:(decide (s<0)!=decide (t<0))=false:=fP;rw[i,aaq I]at e;refine r1 W bh<|aH W ⟨aaf SV.i ?_,U,U⟩
   grind
   have j:¬((s.natAbs*t.natAbs%2^64:Nat):Int)<=9223372036854775807:=j;refine r0 W<|bm (λg=>by have:=g.2;omega);have l:¬((s.natAbs*t.natAbs/2^64:Nat):Int)=0:=l;refine r0 W<|bm (λg=>by have:=g.1;omega);rw[aaq λk=>g k.2.2];exact o
  |some n=>rw[aaq λk=>by simp at k];refine cQ 2 [(2,.box true<|pI ⟨s,none⟩),(3,.box true<|pI ⟨t,some n⟩),(4,.box true<|.agg [.i 0,.nil])] True ?_ λ_=>o;refine r1 W (by simp[aj,aag];exact c _ _ _ W f) ?_;exact bm U
 |some m=>
  cases v with
  |none=>rw[aaq λk=>by simp at k];refine cQ 2 [(2,.box true<|pI ⟨s,some m⟩),(3,.box true<|pI ⟨t,none⟩),(4,.box true<|.agg [.i 0,.nil])] True ?_ λ_=>o;refine r1 W (by simp[aj,aag];exact c _ _ _ W d) ?_;exact bm U
  |some n=>rw[aaq λk=>by simp at k];refine cQ 2 [(2,.box true<|pI ⟨s,some m⟩),(3,.box true<|pI ⟨t,some n⟩),(4,.box true<|.agg [.i 0,.nil])] True ?_ λ_=>o;refine r1 W (by simp[aj,aag];exact c _ _ _ W d) ?_;exact bm U
end
section
variable{f:FuncId}{K:Nat}{a r:Nm}
def ws(a:Nm):L Int:=match a.w with
 |none=>[]
 |some m=>ah m
def eN(a:Nm):SV:=.agg [.i a.s,.eI .u64<|ws a]
def vT(h:bu a):ws a=[]↔a.w=none:=by
 obtain⟨s,w⟩:=a;cases w with
 |none=>exact⟨λ_=>rfl,λ_=>rfl⟩
 |some m=>have:=h.2;exact⟨λg=>aaF g<|oo m E,λg=>by simp at g⟩
def sN(h:bu a):(pI a).den=(eN a).den:=by
 obtain⟨s,w⟩:=a;cases w with
 |none=>rfl
 |some m=>
  have hm:=h.2;have b:=oo m E;show AV.agg [AV.v<|.int .i64 s,.list .shr 1 ((ah m).map λa=>.v<|.int .u64 a)]=AV.agg [AV.v<|.int .i64 s,.list (flm<|ah m) (szm<|ah m)<|(ah m).map λa=>.v<|.int .u64 a];cases d:ah m with
  |nil=>simp_all
  |cons x c=>rfl
def eN1(c:bu a)(b:bu r)(h:ab f [pI a] (pI r)):ab f [eN a] (eN r):=h.same (by simp[aB,sN c])<|sN b
def eN2{b:Nm}(e:bu a)(d:bu b)(c:bu r)(h:ab f [pI a,pI b] (pI r)):ab f [eN a,eN b] (eN r):=h.same (by simp[aB,sN e,sN d])<|sN c
def I5(a:Nm)(h:bu a):ab 248 [eN a] (.bU [.u<|decide (a.s<0),fS<|ah (nv a).natAbs]):=(dX a h).same (by simp[aB,sN h]) W
def zA(a:Nm)(h:bu a):ab 213 [eN a] (.i (nv a).sign):=(wc a h).same (by simp[aB,sN h]) W
def Hm(a:Nm)(h:bu a)(hl:gj a K)(b:K<2^40):ab 253 [eN a] (eN<|jd a):=eN1 h (dP a h).2<|qV a h hl b
def aaN(a:Nm)(h:bu a)(hl:gj a K)(b:K<2^40):ab 281 [eN a] (eN<|AP a):=eN1 h (oH a h).2<|PR a h hl b
def Rz(a b:Nm)(d:bu a)(c:bu b)(g:gj a K)(e:gj b K)(h:K<2^39):ab 174 [eN a,eN b] (eN<|ze a b):=eN2 d c (lD a b d c).2<|Fw a b d c g e h
def aab(a b:Nm)(d:bu a)(c:bu b)(g:gj a K)(e:gj b K)(h:K<2^39):ab 287 [eN a,eN b] (eN<|KE a b):=eN2 d c (zr a b d c).2<|N2 a b d c g e h
def sX(a b:Nm)(d:bu a)(c:bu b){L:Nat}(g:gj a K)(e:gj b L)(h:K+L<2^39):ab 181 [eN a,eN b] (eN<|kf a b):=eN2 d c (dh a b d c).2<|OI a b d c g e h
def Vy(neg:Bool)(m:Nat)(hl:(ah m).length<2^40):ab 249 [.u neg,fS<|ah m] (eN<|tq neg m):=(kH neg m hl).same W<|sN<|qw _ _
def Jc(n:Int):ab 173 [.i n] (eN ⟨n,none⟩):=by refine cp func173 W<|b7 W W<|⟨W,W,U⟩
def X8(a:Nm):ab 219 [eN a] (.bU [.i a.s,.u<|decide (ws a=[])]):=by refine cp func219 W<|k0 W aP<|bV W
def WR(a b:Nm)(g:bu a)(e:bu b)(o:gj a K)(n:gj b K)(p:K<2^39):ab 222 [eN a,eN b] (.i (nv a-nv b).sign):=by
 have q:=aab a b g e o n p;obtain⟨v,u⟩:=zr a b g e;have h:=zA (KE a b) u;rw[v]at h;have m:=vT g;have l:=vT e;have k:=jS a g;have j:=jS b e;refine cp func222 W<|cQ 2 [(2,.box true<|eN a),(3,.box true<|eN b)] True ?_ λ_=>?_;refine b6 W 8 W ?_ ?_<;>intro g1;refine cm W W ?_ ?_<;>intro g2;have t:=k.2<|m.1 g1;have s:=j.2<|l.1 g2;rw[t,s];refine cm W W ?_ ?_<;>intro d;have d:a.s<b.s:=d;refine b7 W W<|aij SV.i<|by grind
 have d:¬a.s<b.s:=d;refine cm W W ?_ ?_<;>intro c;have c:b.s<a.s:=c;refine b7 W W<|aij SV.i<|by grind
 have c:¬b.s<a.s:=c;refine b7 W W<|aij SV.i<|by grind
 refine r0 W<|bm U;refine r0 W<|bm U;refine ck W W q W<|ck W W h W<|cg W W
end
def D7{x:Int}{K:Nat}(h:(ah x.natAbs).length<=K):∀n,(ah (x^n).natAbs).length<=K*n+1
 |0=>by have:=gm (m:=1) fV;simpa using this
 |n+1=>by rw[aeJ,afX,Nat.mul_succ];have:=D7 h n;have:=eC (x^n).natAbs x.natAbs;omega
def pT:Nat->Nm->Nm->Nat->Nm
 |0,out,_,_=>out
 |f+1,out,a,k=>if k=0 then out else pT f (if k%2=1 then kf out a else out) (if 1<k then kf a a else a) (k/2)
def tS(a:Nm)(k:Nat):Nm:=pT k ⟨1,none⟩ a k
def I9:bu ⟨1,none⟩:=show(-(2^63):Int)<=1/\(1:Int)<=9223372036854775807 from fV
def sd(f:Nat)(out a:Nm):pT f out a 0=out:=by cases f<;>rfl
def Ds:∀(f g:Nat)(out a:Nm)(k:Nat),k<=f->k<=g->pT f out a k=pT g out a k
 |0,g,out,a,k,h,_=>by have:k=0:=E;subst this;rw[sd,sd]
 |f+1,0,out,a,k,_,h=>by have:k=0:=E;subst this;rfl
 |f+1,g+1,out,a,k,c,b=>by rw[pT,pT];split;rfl;exact Ds f g _ _ _ E E
def afq(k:Nat)(h:k<2^63):IntKind.i64.wrap ((BitVec.ofInt IntKind.i64.bits (k:Int)&&&BitVec.ofInt IntKind.i64.bits 1).toNat:Int)=((k%2:Nat):Int):=by have e:BitVec.ofInt IntKind.i64.bits 1=BitVec.ofNat 64 (2^1-1):=W;rw[e,wrI];have a:(BitVec.ofNat 64 k&&&BitVec.ofNat 64 (2^1-1)).toNat=(k%2^64)&&&((2^1-1)%2^64):=I;rw[show((2:Nat)^1-1)%2^64=2^1-1 from W,Nat.and_two_pow_sub_one_eq_mod]at a;show(((BitVec.ofNat 64 k&&&BitVec.ofNat 64 (2^1-1)).toNat:Int)+_)%_-_=_;omega
def aeL(k:Nat):(k:Int).fdiv (2^min (Int.toNat 1) IntKind.i64.bits)=((k/2:Nat):Int):=by rw[ah3 _ fV];rfl
def Ld(a:Nm)(n:Nat)(C:bu a){K:Nat}(r:gj a K)(hn:n<2^40)(N:2*(K*(2*n)+1)<2^39):ab 178 [eN a,.i n] (eN<|tS a n):=by
 refine cp func178 W<|ck W W (Jc 1) W<|r0 W<|pV (λ(k:Nat)(out b:Nm)=>[(1,.i k),(2,.box true<|eN b),(4,.box true<|.agg [.i 0,.nil]),(5,.box true<|eN out)])
  (λk out b=>k<=n/\bu out/\bu b/\tS a n=pT k out b k/\(k=0\/∃d e,d<=n/\e<=n/\e+d*k=n/\nv b=nv a^d/\nv out=nv a^e)) (λk _ _=>k) n ⟨1,none⟩ a ⟨aaU _,I9,C,W,?_⟩
  ⟨G,G,G,G,U⟩ ?_
 rcases aeg n with g|g;exact .inl g;exact .inr ⟨1,0,E,E,E,by grind,by rw[Int.pow_zero];rfl⟩;rintro k out b⟨M,s,l,p,A⟩;refine cm W W ?_ ?_<;>intro D;have O:0<k:=E;obtain⟨d,e,T,S,R,u,H⟩:=A.resolve_left E;have j:tS a n=pT (k/2) (if k%2=1 then kf out b else out) (if 1<k then kf b b else b) (k/2):=by
  rw[p];obtain⟨f,rfl⟩:∃f,k=f+1:=⟨k-1,E⟩
  conv=>lhs;rw[pT,aaq E]
  exact Ds _ _ _ _ _ E<|aaU _
 have o:gj b (K*(2*n)+1):=by unfold gj at *;rw[u];exact acI (D7 r d)<|afJ (aey _ E) 1
 have lo:gj out (K*(2*n)+1):=by unfold gj at *;rw[H];exact acI (D7 r e)<|afJ (aey _ E) 1
 obtain⟨m1,J⟩:=dh out b s l;obtain⟨w,v⟩:=dh b b l l;have z:k=2*(k/2)+k%2:=E;have y:d*k=2*d*(k/2)+d*(k%2):=by grind
 have F:=afq k E;have m:bu (if k%2=1 then kf out b else out):=by split<;>assumption
 have B:bu (if 1<k then kf b b else b):=by split<;>assumption
 refine rn 3 W<|cQ 1 [(1,.i k),(2,.box true<|eN b),(4,.box true<|.agg [.i 0,.nil]),(5,.box true<|eN<|if k%2=1 then kf out b else out)] True ?_ λ_=>?_;refine r0 W ?_;rw[F];refine bY W ?_ ?_<;>intro h;have h:k%2=1:=E;rw[aas h];refine ck W W (sX out b s l lo o E) W<|r0 W<|bm U;have h:¬k%2=1:=E;rw[aaq h];refine r0 W<|bm U;have q:nv (if k%2=1 then kf out b else out)=nv a^(e+d*(k%2)):=by grind
 generalize (if k%2=1 then kf out b else out)=c at*;have t:=aeL k;have fin:bu (if 1<k then kf b b else b)->(k/2<=n/\bu c/\bu (if 1<k then kf b b else b)/\tS a n=pT (k/2) c (if 1<k then kf b b else b) (k/2)/\(k/2=0\/∃d e,d<=n/\e<=n/\e+d*(k/2)=n/\nv (if 1<k then kf b b else b)=nv a^d/\nv c=nv a^e)):=by
  intro x;refine⟨E,m,x,j,?_⟩;rcases aeg (k/2)with g|g;exact .inl g;have g1:1<k:=E;have g2:2*d<=2*d*(k/2):=ahJ _ g;have P:d*(k%2)<=d*k:=aey _ E;refine .inr ⟨2*d,e+d*(k%2),E,E,E,?_,q⟩;rw[aas g1,w,u,<-afT]
  congr 1;omega
 refine cm W W ?_ ?_<;>intro h;have h:1<k:=E;rw[aas h]at fin;refine ck W W (sX b b l l o o E) W<|r1 W bh<|again (k/2,c,kf b b) (by dsimp only;omega) (fin v) ⟨⟨W,aij SV.i t⟩,G,G,G,U⟩;have h:¬1<k:=E;rw[aaq h]at fin;refine r1 W bh<|again (k/2,c,b) (by dsimp only;omega) (fin l) ⟨⟨W,aij SV.i t⟩,G,G,G,U⟩;have:k=0:=E;subst this;rw[sd]at p;refine b7 W W<|aij eN p.symm
def Dr:∀(f k:Nat)(out a:Nm),k<=f->bu out->bu a->nv (pT f out a k)=nv out*nv a^k/\bu (pT f out a k)
 |0,k,out,a,h,c,_=>by have:k=0:=E;subst this;exact⟨by rw[sd,Int.pow_zero,Int.mul_one],c⟩
 |f+1,k,out,a,h,c,e=>by
  rw[pT];split;rename_i g;simp_all;obtain⟨m1,p⟩:=dh out a c e;obtain⟨i,o⟩:=dh a a e e;have b:bu (if k%2=1 then kf out a else out):=by split<;>assumption
  have d:bu (if 1<k then kf a a else a):=by split<;>assumption
  obtain⟨n,m⟩:=Dr f (k/2) _ _ E b d;refine⟨?_,m⟩;rw[n];have l:nv (if k%2=1 then kf out a else out)=nv out*nv a^(k%2):=by split;rename_i g;rw[m1,g,aeJ,Int.pow_zero,Int.one_mul];simp_all
  have j:nv (if 1<k then kf a a else a)^(k/2)=nv a^(2*(k/2)):=by
   split;rw[i,Int.pow_mul];grind
   grind
  rw[l,j,Int.mul_assoc,<-afT]
  congr 2;omega
def my(a:Nm)(n:Nat)(b:bu a):nv (tS a n)=nv a^n/\bu (tS a n):=by obtain⟨d,c⟩:=Dr n n ⟨1,none⟩ a .refl I9 b;exact⟨by unfold tS;rw[d];show 1*_=_;rw[Int.one_mul],c⟩
def bl(x:Nat):Nat:=if x=0 then 0 else Nat.log2 x+1
def Ij(x:Nat):x<2^bl x:=by unfold bl;split;omega;rename_i h;exact(Nat.log2_lt h).1<|agS _
def yZ{x:Nat}(h:x≠0):2^(bl x-1)<=x:=by unfold bl;rw[aaq h];exact(Nat.le_log2 h).1 .refl
def aaJ{x n:Nat}(e:x<2^(n+1))(d:2^n<=x):bl x=n+1:=by have c:x≠0:=E;unfold bl;rw[aaq c];have a:=(Nat.log2_lt c).2 e;have b:=(Nat.le_log2 c).2 d;omega
def AI{x:Nat}(h:x≠0):0<bl x:=by unfold bl;rw[aaq h];omega
def yY{x k:Nat}(h:2^k<=x):bl x=k+bl (x/2^k):=by
 have c:0<2^k:=ae6 fV;have b:x/2^k≠0:=by simp_all
 have d:=Ij<|x/2^k;have a:=yZ b;have e:=AI b;obtain⟨n,hn⟩:∃n,bl (x/2^k)=n+1:=⟨bl (x/2^k)-1,E⟩;rw[hn]at d a⊢;rw[<-aht];refine aaJ ?_ ?_;rw[aht,afY];rw[aeQ c]at d
 grind
 rw[Nat.add_sub_cancel]at a;rw[ahO c]at a
 grind
def abg{s:Int}{m:Nat}(y:Nat)(hm:0<m)(h:(2:Int)^min s.toNat IntKind.u64.bits=m):(y:Int).fdiv (2^min s.toNat IntKind.u64.bits)=((y/m:Nat):Int):=by grind
def vZ:L UInt8:=[0,1,2,2,3,3,3,3,4,4,4,4,4,4,4,4,5,5,5,5,5,5,5,5,5,5,5,5,5,5,5,5,6,6,6,6,6,6,6,6,6,6,6,6,6,6,6,6,6,6,6,6,6,6,6,6,6,6,6,6,6,6,6,6,7,7,7,7,7,7,7,7,7,7,7,7,7,7,7,7,7,7,7,7,7,7,7,7,7,7,7,7,7,7,7,7,7,7,7,7,7,7,7,7,7,7,7,7,7,7,7,7,7,7,7,7,7,7,7,7,7,7,7,7,7,7,7,7,8,8,8,8,8,8,8,8,8,8,8,8,8,8,8,8,8,8,8,8,8,8,8,8,8,8,8,8,8,8,8,8,8,8,8,8,8,8,8,8,8,8,8,8,8,8,8,8,8,8,8,8,8,8,8,8,8,8,8,8,8,8,8,8,8,8,8,8,8,8,8,8,8,8,8,8,8,8,8,8,8,8,8,8,8,8,8,8,8,8,8,8,8,8,8,8,8,8,8,8,8,8,8,8,8,8,8,8,8,8,8,8,8,8,8,8,8,8,8,8,8,8,8,8,8,8,8,8]
def Uh:vZ.length=256:=fV
def X1:∀u,u<256->u<2^(vZ.getD u 0).toNat/\(u=0\/2^((vZ.getD u 0).toNat-1)<=u/\0<(vZ.getD u 0).toNat)/\(u=0->(vZ.getD u 0).toNat=0):=fV
def X3{u:Nat}(h:u<256):(vZ.getD u 0).toNat=bl u:=by obtain⟨b,a,d⟩:=X1 u h;rcases a with a|⟨a,c⟩;rw[a];rfl;obtain⟨n,hn⟩:∃n,(vZ.getD u 0).toNat=n+1:=⟨(vZ.getD u 0).toNat-1,E⟩;rw[hn]at b a⊢;exact(aaJ b a).symm
def BB(x:Nat)(e:x<2^64):ab 286 [.n .u64 x] (.i<|bl x):=by
 refine cp func286 W<|yI 2 (λ(y n:Nat)=>[(0,.n .u64 y),(2,.i n)]) (λy n=>y<2^32/\bl x=n+bl y/\n<=32) ?_ ?_;refine cm W W ?_ ?_<;>intro h;have h:(2^32:Int)<=x:=h;have hs:bl x=32+bl (x/2^32):=yY (x:=x) (k:=32) E;refine r1 W (by simp only[aj];decide) ?_;exact meet (x/2^32,32) ⟨by dsimp only;omega,hs,by dsimp only;omega⟩ ⟨⟨W,aij (SV.n .u64)<|abg (m:=2^32) x fV fV⟩,G,U⟩;have h:¬(2^32:Int)<=x:=h;refine r0 W<|fL (x,0) ⟨by dsimp only;omega,by dsimp only;omega,by dsimp only;omega⟩;rintro y n⟨g,d,f⟩;refine yI 1 (λ(z k:Nat)=>[(0,.n .u64 z),(2,.i k)]) (λz k=>z<65536/\bl x=k+bl z/\k<=48) ?_ ?_;refine cm W W ?_ ?_<;>intro h;have h:(65536:Int)<=y:=h;have hs:bl y=16+bl (y/65536):=yY (x:=y) (k:=16) E;refine r1 W (by simp only[aj,aag,true_and]<;>omega) ?_;exact meet (y/65536,n+16) ⟨by dsimp only;omega,by grind,by dsimp only;omega⟩ ⟨⟨W,aij (SV.n .u64)<|abg (m:=65536) y fV fV⟩,G,U⟩;have h:¬(65536:Int)<=y:=h;refine r0 W<|fL (y,n) ⟨by dsimp only;omega,d,by dsimp only;omega⟩;rintro z k⟨g1,g2,j⟩;refine yI 1 (λ(z k:Nat)=>[(0,.n .u64 z),(2,.i k)]) (λz k=>z<256/\bl x=k+bl z/\k<=56) ?_ ?_;refine cm W W ?_ ?_<;>intro h;have h:(256:Int)<=z:=h;have hs:bl z=8+bl (z/256):=yY (x:=z) (k:=8) E;refine r1 W (by simp only[aj,aag,true_and]<;>omega) ?_;exact meet (z/256,k+8) ⟨by dsimp only;omega,by grind,by dsimp only;omega⟩ ⟨⟨W,aij (SV.n .u64)<|abg (m:=256) z fV fV⟩,G,U⟩;have h:¬(256:Int)<=z:=h;refine r0 W<|fL (z,k) ⟨by dsimp only;omega,g2,by dsimp only;omega⟩;rintro u m⟨k1,k2,k3⟩;have b:IntKind.u8.wrap (u:Int)=(u:Int):=by show(u:Int)%256=u;omega
 have hu:(u:Int).toNat=u:=E;have a:=X3 k1;have c:bl u<=8:=by rw[<-a];have:∀v,v<256->(vZ.getD v 0).toNat<=8:=fV;exact this u k1
 have hl:=Uh;refine r1 W ?_ ?_;show aj [(m:Int)+((vZ.getD (IntKind.u8.wrap u).toNat 0).toNat:Nat)<=9223372036854775807,-(2^63)<=(m:Int)+((vZ.getD (IntKind.u8.wrap u).toNat 0).toNat:Nat),(((vZ.getD (IntKind.u8.wrap u).toNat 0).toNat:Nat):Int)<=9223372036854775807,-(2^63)<=(((vZ.getD (IntKind.u8.wrap u).toNat 0).toNat:Nat):Int),IntKind.u8.wrap u<(vZ.length:Nat),0<=IntKind.u8.wrap u];simp only[aj,aag,b,hu,a,hl];omega;refine aH W<|cn ?_;show(m:Int)+((vZ.getD (IntKind.u8.wrap u).toNat 0).toNat:Nat)=_;rw[b,hu,a];omega
def D0(x:Nat)(a:x<2^64):ab 332 [.n .u64 x] (.i<|64-(bl x:Int)):=by
 have b:bl x<=64:=by rcases aeg x with g|g;subst g;decide;have c:=yZ (x:=x) E;rcases acX 64 (bl x)with h|h;have:2^64<=2^(bl x-1):=adi fV E;omega;exact h
 refine cp func332 W<|ck W W (BB x a) W<|r1 W bd<|bV W
def P6{A:Nat}(h:A≠0):A/2^(64*((ah A).length-1))=((ah A).getD ((ah A).length-1) 0).toNat/\2^(64*((ah A).length-1))<=A:=by
 have hl:=gF h;have hs:=iA (ah A)<|(ah A).length-1;rw[bA]at hs;have i:(ah A).drop ((ah A).length-1)=[(ah A).getD ((ah A).length-1) 0]:=by rw[acJ E,az E,aeB E]
 have d:((ah A).take<|(ah A).length-1).length=(ah A).length-1:=I;have a:=iX<|ia (bL A)<|(ah A).length-1;have g:=bE<|ia (bL A)<|(ah A).length-1;have l:=bt (bL A)<|(ah A).length-1;have c:=gZ A;rw[i,d]at hs;rw[d]at a;have f:(18446744073709551616:Int)^((ah A).length-1)=((2^(64*((ah A).length-1)):Nat):Int):=by rw[agh];rfl
 rw[f]at hs a c;have j:0<2^(64*((ah A).length-1)):=ae6 fV;simp only[val]at hs;generalize 2^(64*((ah A).length-1))=P at*;generalize val ((ah A).take<|(ah A).length-1)=lo at*;obtain⟨t,b⟩:∃t:Nat,(ah A).getD ((ah A).length-1) 0=t:=⟨((ah A).getD ((ah A).length-1) 0).toNat,E⟩;rw[b]at hs⊢;constructor;have e:(A:Int)=lo+P*t:=by rw[hs];simp
 have k:A=lo.toNat+P*t:=by omega
 rw[k,agm _ _ j,ae5 E];simp
 grind
def PI(a:Nm)(h:bu a){K:Nat}(hl:gj a K)(m:K<2^40):ab 220 [eN a] (.i<|bl (nv a).natAbs):=by
 have k:=I5 a h;unfold gj at hl;generalize (nv a).natAbs=A at*;refine cp func220 W<|ck W W k W<|cm W W ?_ ?_<;>intro b;have hA:A=0:=by rcases aeg A with g|g;exact g;have:=gF (n:=A) E;omega
 subst hA;refine b7 W W<|aij SV.i W;have b:¬((ah A).length:Int)=0:=b;have hA:A≠0:=by rintro rfl;rw[c6]at b;exact b W
 obtain⟨d,j⟩:=P6 hA;obtain⟨x,e,c⟩:=nr A<|(ah A).length-1;rw[e]at d;have hs:=yY j;rw[d]at hs;have f:(((ah A).length:Int)-1).toNat=(ah A).length-1:=E;have ex:(x:Int).toNat=x:=E;rw[ex]at hs;have l:bl x<=64:=by rcases aeg x with g|g;subst g;decide;have b:=yZ (x:=x) E;rcases acX 64 (bl x)with h|h;have:2^64<=2^(bl x-1):=adi fV E;omega;exact h
 refine r1 W (by simp[aj,aag,f]<;>omega) ?_;refine cl W (by rw[f,e];rfl) (BB x c) W ?_;refine r1 W bh<|aH W<|cn ?_;rw[hs];omega
structure Fr where
 n:Nm
 d:Nm
def eF(f:Fr):SV:=.agg [.i f.n.s,.eI .u64<|ws f.n,.i f.d.s,.eI .u64<|ws f.d]
structure cL(f:Fr)(q:Rat):Prop where
 n:bu f.n
 d:bu f.d
 vn:nv f.n=q.num
 vd:nv f.d=q.den
def Ir(a:Nm):ab 180 [eN a] (eF ⟨a,⟨1,none⟩⟩):=by refine cp func180 W<|cj W W (Jc 1) W<|k0 W aP<|bV W
def f_s(n:Int):ab 135 [.i n] (eF ⟨⟨n,none⟩,⟨1,none⟩⟩):=by refine cp func135 W<|ck W W (Jc n) W<|bW W (Ir ⟨n,none⟩) W<|cg W W
def sE(f:Fr){q:Rat}(h:cL f q):ab 121 [eF f] (.i q.num.sign):=by have hs:=zA f.n h.n;rw[h.vn]at hs;refine cp func121 W<|ck W W hs W<|cg W W
def Em(f:Fr){q:Rat}(h:cL f q){K:Nat}(hl:gj f.n K)(a:K<2^40):ab 209 [eF f] (eF ⟨jd f.n,f.d⟩)/\cL ⟨jd f.n,f.d⟩ (-q):=by refine⟨?_,⟨(dP f.n h.n).2,h.d,by rw[(dP f.n h.n).1,h.vn,agY],by rw[h.vd,Rat.neg_den]⟩⟩;refine cp func209 W<|cj W W (Hm f.n h.n hl a) W<|k0 W aP<|bV W
section
variable{B d q r u y0 y1:Nat}
structure DL(B u d y1 y0 q r:Nat):Prop where
 eq:r+q*y1=u
 up:(u*B+d)/(y1*B+y0)<=q
 hi:q<=B+1
 lt:r<B
structure DH(B u d y1 y0:Nat):Prop where
 b:4<=B
 n:B<=2*y1
 m:y1<B
 l:y0<B
 u:u<y1*B+y0
 d:d<B
def DH.pos(h:DH B u d y1 y0):0<y1*B+y0:=by have:=ahg (show 0<y1 by have:=h.n;have:=h.b;omega) (show 0<B by have:=h.b;omega);omega
def DH.abv(h:DH B u d y1 y0):(u*B+d)/(y1*B+y0)<B:=by
 rw[aeQ h.pos];have:(u+1)*B<=(y1*B+y0)*B:=acM _ h.u;rw[adD]at this;have:=h.d
 grind
def DL.start(h:DH B u d y1 y0):DL B u d y1 y0 (u/y1) (u%y1):=by
 have b:=h.pos;obtain⟨n,m,l,k,j,i⟩:=h;have a:0<y1:=E;have e:=afK u y1;have hm:=acN u a;have f:u/y1<B+2:=by rw[aeQ a,adD,aen B];omega
 refine⟨by grind,?_,E,E⟩;rw[<-Nat.lt_succ_iff,aeQ b];have c:u+1<=(u/y1+1)*y1:=by grind
 have g:(u+1)*B<=(u/y1+1)*y1*B:=acM _ c
 grind
def DL.prod(h:DL B u d y1 y0 q r):q*(y1*B+y0)+r*B=u*B+q*y0:=by
 have e:q*(y1*B+y0)=q*y1*B+q*y0:=by grind
 rw[<-h.eq,adD];omega
def DL.step(hh:DH B u d y1 y0)(h:DL B u d y1 y0 q r)(hc:B<=q\/r*B+d<q*y0):
 1<=q/\(r+y1<B->DL B u d y1 y0 (q-1) (r+y1))/\(B<=r+y1->(u*B+d)/(y1*B+y0)=q-1/\q-1<B):=by
 have j:=h.prod;have k:=hh.abv;have a:=hh.pos;obtain⟨t,s,o,n,m,l⟩:=hh;have b:(u*B+d)/(y1*B+y0)<q:=by rcases hc with hc|hc;omega;rw[aeQ a];omega
 have f:=afC (aaQ _) b;obtain⟨p,rfl⟩:∃p,q=p+1:=⟨q-1,E⟩;have he:=h.eq;have i:=h.hi;rw[adD]at he;simp only[Nat.add_sub_cancel];refine⟨E,λc=>⟨E,E,E,c⟩,λc=>?_⟩;have g:p<=(u*B+d)/(y1*B+y0):=by
  rw[ahO a];have e:p*(y1*B+y0)=p*y1*B+p*y0:=by grind
  have w:p*y0<=B*B:=ael E E;have v:(p*y1+B)*B<=u*B:=acM _ E
  grind
 omega
def DL.stop(hh:DH B u d y1 y0)(h:DL B u d y1 y0 q r)(hc:q*y0<=r*B+d):(u*B+d)/(y1*B+y0)=q:=by
 have b:=h.prod;have a:=h.up;have:q<=(u*B+d)/(y1*B+y0):=by rw[ahO hh.pos];omega
 omega
def G7{Y:Nat}(h:(u*4294967296+d)/Y=q)(hY:0<Y)(hl:Y<=18446744073709551616):
 IntKind.u64.wrap (IntKind.u64.wrap (IntKind.u64.wrap ((u:Int)*4294967296)+d)-IntKind.u64.wrap ((q:Int)*Y))=(((u*4294967296+d)%Y:Nat):Int):=by
 have e:=afK (u*4294967296+d) Y;have hm:=acN (u*4294967296+d) hY;rw[h]at e;generalize (u*4294967296+d)%Y=r at*;have a:(u:Int)*4294967296+d=(r:Int)+(q:Int)*Y:=by grind
 simp[TZ];omega
def C2(B U a d0 Y:Nat)(hY:0<Y):
 ((U*B+a)*B+d0)/Y=(U*B+a)/Y*B+((U*B+a)%Y*B+d0)/Y/\((U*B+a)*B+d0)%Y=((U*B+a)%Y*B+d0)%Y:=by
 have e:=afK (U*B+a) Y;have b:(U*B+a)*B+d0=((U*B+a)%Y*B+d0)+Y*((U*B+a)/Y*B):=by grind
 rw[b];exact⟨by rw[agm _ _ hY,Nat.add_comm],I⟩
end
section
variable{Y a b s u y:Nat}
def Yy(a b:Nat)(h:a<18446744073709551616):IntKind.u64.wrap ((a:Int).tdiv (b:Int))=((a/b:Nat):Int):=by exact wr<|afC (agi _ _) h
def RP(h:b<=a)(c:a<18446744073709551616):IntKind.u64.wrap ((a:Int)-(b:Int))=((a-b:Nat):Int):=by rw[<-Int.natCast_sub h];exact wr E
def Kf(h:a+b<18446744073709551616):IntKind.u64.wrap ((a:Int)+(b:Int))=((a+b:Nat):Int):=by rw[<-aho];exact wr h
def abM(h:a*b<18446744073709551616):IntKind.u64.wrap ((a:Int)*(b:Int))=((a*b:Nat):Int):=by rw[<-af2];exact wr h
def adk(h:a<18446744073709551616):IntKind.u64.wrap ((a:Int)-IntKind.u64.wrap (((a/b:Nat):Int)*(b:Int)))=((a%b:Nat):Int):=by
 have e:=afK a b;rw[aen]at e;rw[abM E,RP E h]
 congr 1;omega
def Hs(h:s<=64):min ((s:Nat):Int).toNat IntKind.u64.bits=s:=by show min ((s:Nat):Int).toNat 64=s;omega
def Uw(x s:Nat)(h:s<=64):IntKind.u64.wrap ((x:Int)*2^min ((s:Nat):Int).toNat IntKind.u64.bits)=((x*2^s%18446744073709551616:Nat):Int):=by rw[Hs h];rfl
def Yb(x s:Nat)(h:s<=64):(x:Int).fdiv (2^min ((s:Nat):Int).toNat IntKind.u64.bits)=((x/2^s:Nat):Int):=by rw[Hs h,ah3 _<|by grind];rfl
def orU(a b s:Nat)(h:a*2^s+b<18446744073709551616)(c:b<2^s):
 IntKind.u64.wrap ((BitVec.ofInt IntKind.u64.bits ((a*2^s:Nat):Int)|||BitVec.ofInt IntKind.u64.bits (b:Int)).toNat:Int)=((a*2^s+b:Nat):Int):=by
 rw[wrm]
 congr 1
 have d:(BitVec.ofNat 64 (a*2^s)|||BitVec.ofNat 64 b).toNat=(a*2^s%2^64)|||(b%2^64):=I;have f:a*2^s%2^64=a*2^s:=afz E;have e:b%2^64=b:=afz E;rw[f,e,aen a,<-Nat.two_pow_add_eq_or_of_lt c,aen]at d;show(BitVec.ofNat 64 (a*2^s)|||BitVec.ofNat 64 b).toNat%_=_;omega
def acs{x:Nat}(c:x<18446744073709551616):bl x<=64:=by rcases aeg x with g|g;subst g;decide;have d:=yZ (x:=x) E;rcases acX 64 (bl x)with h|h;have:2^64<=2^(bl x-1):=adi fV E;omega;exact h
structure NF(hi lo y s Y u d1 d0:Nat):Prop where
 hs:s<64
 hY:Y=y*2^s
 hn:9223372036854775808<=Y
 hl:Y<18446744073709551616
 he:u*18446744073709551616+(d1*4294967296+d0)=(hi*18446744073709551616+lo)*2^s
 V7:d1<4294967296
 Ed:d0<4294967296
 hu:u<Y
 hue:u=hi*2^s+lo/2^(64-s)
 hde:lo*2^s%18446744073709551616=d1*4294967296+d0
def NF.mk'{hi lo:Nat}(j:hi<y)(h:y<18446744073709551616)(hl:lo<18446744073709551616):
 NF hi lo y (64-bl y) (y*2^(64-bl y)) (hi*2^(64-bl y)+lo/2^(64-(64-bl y))) (lo*2^(64-bl y)%18446744073709551616/4294967296) (lo*2^(64-bl y)%18446744073709551616%4294967296):=by
 have i:=AI (x:=y) E;have e:=yZ (x:=y) E;have d:=Ij y;have n:=acs h;obtain⟨s,hs⟩:∃s,s=64-bl y:=⟨_,W⟩;rw[<-hs];have m:2^(bl y)*2^s=18446744073709551616:=by rw[<-afY];simp_all
 have l:2^(bl y-1)*2^s=9223372036854775808:=by rw[<-afY];grind
 have g:2^(64-s)*2^s=18446744073709551616:=by grind
 have f:0<2^s:=ae6 fV;have c:0<2^(64-s):=ae6 fV;have g1:9223372036854775808<=y*2^s:=by rw[<-l];exact acM _ e
 have g2:y*2^s<18446744073709551616:=by rw[<-m];exact Nat.mul_lt_mul_of_pos_right d f
 have p:lo/2^(64-s)<2^s:=by rw[aeQ c,aen,g];exact hl
 have k:(hi+1)*2^s<=y*2^s:=acM _ j;rw[adD]at k;have o:lo*2^s/18446744073709551616=lo/2^(64-s):=by rw[<-g];exact ahA _ _ f
 refine⟨E,W,g1,g2,?_,E,E,E,W,E⟩
 grind
def NF.dh1{hi lo c d0:Nat}(h:NF hi lo y s Y u c d0):DH 4294967296 u c (Y/4294967296) (Y%4294967296):=by have:=h.hn;have:=h.hl;have:=h.hu;have:=h.V7;exact⟨E,E,E,E,E,E⟩
def NF.yy:Y/4294967296*4294967296+Y%4294967296=Y:=E
def NF.dh2{hi lo c d0:Nat}(h:NF hi lo y s Y u c d0):DH 4294967296 ((u*4294967296+c)%Y) d0 (Y/4294967296) (Y%4294967296):=by have f:=h.hn;have e:=h.hl;have d:=h.Ed;have:=acN (u*4294967296+c) (show 0<Y from E);exact⟨E,E,E,E,E,E⟩
def NF.quo{hi lo c d0:Nat}(h:NF hi lo y s Y u c d0):
 (u*4294967296+c)/Y*4294967296+((u*4294967296+c)%Y*4294967296+d0)/Y=(hi*18446744073709551616+lo)/y/\
 ((u*4294967296+c)%Y*4294967296+d0)%Y/2^s=(hi*18446744073709551616+lo)%y:=by
 have hn:=h.hn;have d:0<2^s:=ae6 fV;obtain⟨g,f⟩:=C2 4294967296 u c d0 Y E;have e:(u*4294967296+c)*4294967296+d0=(hi*18446744073709551616+lo)*2^s:=by rw[<-h.he];omega
 rw[<-g,<-f,e,h.hY];refine⟨ahA _ _ d,?_⟩;rw[ahB,ahC _ d]
def BO(hi lo y:Nat)(O:hi<y)(S:y<18446744073709551616)(hl:lo<18446744073709551616):
 ab 331 [.n .u64 hi,.n .u64 lo,.n .u64 y] (.bU [.n .u64 ((hi*18446744073709551616+lo)/y:Nat),.n .u64 ((hi*18446744073709551616+lo)%y:Nat)]):=by
 refine cp func331 W<|cm W W (λh=>aaF h E) λ_=>?_;refine cm W W (λh=>aaF h E) λ_=>?_;refine cm W W ?_ ?_<;>intro h;have h0:hi=0:=E;subst h0;refine k1 W aP ?_ ?_;simp only[aj,aag]<;>omega;have e:(0*18446744073709551616+lo)=lo:=E;rw[e];refine aH W ⟨aaf (SV.n .u64) ?_,aaf (SV.n .u64) ?_,U⟩;rw[ahe E,<-ahP];exact wr<|afC (agi _ _) hl;rfl;obtain⟨s,V⟩:∃s,s=64-bl y:=⟨_,W⟩;have c:=NF.mk' O S hl;rw[<-V]at c;generalize y*2^s=Y at c;generalize hi*2^s+lo/2^(64-s)=u at c;generalize lo*2^s%18446744073709551616/4294967296=g at c;generalize lo*2^s%18446744073709551616%4294967296=d0 at c;have F2:=AI (x:=y) E;have F1:=acs S;have hs:=c.hs;have i:IntKind.u64.wrap (64-(bl y:Int))=(s:Int):=by rw[TZ];omega
 have t:IntKind.u64.wrap (64-(s:Int))=((64-s:Nat):Int):=by rw[TZ];omega
 have J:IntKind.u64.wrap ((y:Int)*2^min ((s:Nat):Int).toNat IntKind.u64.bits)=(Y:Int):=by rw[Uw y s E,<-c.hY,afz c.hl]
 have B0:hi*2^s<18446744073709551616:=by
  have O:=c.hu;have h2:=c.hl;have:hi*2^s<=u:=by rw[c.hue];simp
  omega
 have eu:IntKind.u64.wrap ((BitVec.ofInt IntKind.u64.bits (IntKind.u64.wrap<|(hi:Int)*2^min ((s:Nat):Int).toNat IntKind.u64.bits)|||BitVec.ofInt IntKind.u64.bits ((lo:Int).fdiv<|2^min ((64-s:Nat):Int).toNat IntKind.u64.bits)).toNat:Int)=(u:Int):=by
  rw[Uw hi s E,afz B0,Yb lo (64-s) E,orU hi (lo/2^(64-s)) s];rw[c.hue];have O:=c.hu;have h2:=c.hl;rw[<-c.hue];omega;have e3:2^(64-s)*2^s=18446744073709551616:=by rw[<-afY];simp_all
  rw[aeQ<|ae6 fV,aen,e3];exact hl
 have el:IntKind.u64.wrap ((lo:Int)*2^min ((s:Nat):Int).toNat IntKind.u64.bits)=((g*4294967296+d0:Nat):Int):=by rw[Uw lo s E,c.hde]
 have V7:=c.V7;have Ed:=c.Ed;have E2:((g*4294967296+d0)/4294967296)=g:=E;have F0:((g*4294967296+d0)%4294967296)=d0:=E;have C:u<18446744073709551616:=by have O:=c.hu;have h2:=c.hl;omega
 refine rn 1 W<|cQ 11 [(2,.n .u64 Y),(8,.n .u64 s),(9,.n .u64 (Y/4294967296:Nat)),(10,.n .u64 (Y%4294967296:Nat)),(11,.n .u64 u),(13,.n .u64 g),(14,.n .u64 d0),(15,.n .u64 ((u*4294967296+g)/Y:Nat))] True ?_ λ_=>?_;refine ck W W (D0 y S) W<|r1 W ?_ ?_;simp only[aj,aag,i,t,J,GU];have:=c.hn;omega;refine lp (λ(q r:Nat)=>[(2,.n .u64 Y),(8,.n .u64 s),(9,.n .u64 (Y/4294967296:Nat)),(10,.n .u64 (Y%4294967296:Nat)),(11,.n .u64 u),(13,.n .u64 g),(14,.n .u64 d0),(15,.n .u64 q),(16,.n .u64 r)])
  (λq r=>DL 4294967296 u g (Y/4294967296) (Y%4294967296) q r) (λq _=>q) (u/(Y/4294967296)) (u%(Y/4294967296)) (DL.start c.dh1)
  ⟨⟨W,aaf (SV.n .u64)<|by rw[i,J]⟩,⟨W,aaf (SV.n .u64) i⟩,⟨W,aaf (SV.n .u64)<|by rw[i,J,GU]⟩,⟨W,aaf (SV.n .u64)<|by rw[i,J,Vx]⟩,
    ⟨W,aaf (SV.n .u64)<|by rw[i,t,eu]⟩,⟨W,aaf (SV.n .u64)<|by rw[i,el,GU,E2]⟩,⟨W,aaf (SV.n .u64)<|by rw[i,el,Vx,F0]⟩,
    ⟨W,aaf (SV.n .u64)<|by rw[i,t,eu,J,GU,Yy _ _ C]⟩,⟨W,aaf (SV.n .u64)<|by rw[i,t,eu,J,GU,Yy _ _ C,adk C]⟩,U⟩ ?_
 intro q r w;have A0:=w.hi;have X:=w.lt;have P:Y/4294967296<4294967296:=c.dh1.m;have R:Y%4294967296<4294967296:=c.dh1.l;have f:(4294967296<=q\/r*4294967296+g<q*(Y%4294967296))->IntKind.u64.wrap ((q:Int)-1)=((q-1:Nat):Int)/\IntKind.u64.wrap ((r:Int)+((Y/4294967296:Nat):Int))=((r+Y/4294967296:Nat):Int):=by intro hc;obtain⟨g1,-,-⟩:=w.step c.dh1 hc;exact⟨RP (b:=1) g1 E,Kf E⟩
 refine b6 W 69 W ?_ ?_<;>intro hc;obtain⟨A,p⟩:=f<|.inl E;obtain⟨g1,g2,H⟩:=w.step c.dh1<|.inl E;refine cm W W ?_ ?_<;>intro o;rw[p]at o;obtain⟨m,g5⟩:=H E;rw[NF.yy]at m;refine b8 W U ⟨G,G,G,G,G,G,G,⟨W,aaf (SV.n .u64)<|by rw[A,m]⟩,U⟩;rw[p]at o;refine r0 W<|again (q-1,r+Y/4294967296) (by dsimp only;omega) (g2 E) ⟨G,G,G,G,G,G,G,⟨W,aaf (SV.n .u64) A⟩,⟨W,aaf (SV.n .u64) p⟩,U⟩;have Z:q<4294967296:=E;have D:q*(Y%4294967296)<18446744073709551616:=by have:q*(Y%4294967296)<=4294967295*4294967295:=ael E E;omega
 have N:IntKind.u64.wrap ((q:Int)*((Y%4294967296:Nat):Int))=((q*(Y%4294967296):Nat):Int):=abM D;have M:IntKind.u64.wrap (IntKind.u64.wrap (4294967296*(r:Int))+(g:Int))=((r*4294967296+g:Nat):Int):=by rw[TZ,TZ];omega
 refine cm W W ?_ ?_<;>intro k;rw[N,M]at k;have j:r*4294967296+g<q*(Y%4294967296):=by exact_mod_cast k
 obtain⟨A,p⟩:=f<|.inr j;obtain⟨g1,g2,H⟩:=w.step c.dh1<|.inr j;refine cm W W ?_ ?_<;>intro o;rw[p]at o;obtain⟨m,g5⟩:=H E;rw[NF.yy]at m;refine b8 W U ⟨G,G,G,G,G,G,G,⟨W,aaf (SV.n .u64)<|by rw[A,m]⟩,U⟩;rw[p]at o;refine r0 W<|again (q-1,r+Y/4294967296) (by dsimp only;omega) (g2 E) ⟨G,G,G,G,G,G,G,⟨W,aaf (SV.n .u64) A⟩,⟨W,aaf (SV.n .u64) p⟩,U⟩;rw[N,M]at k;have j:q*(Y%4294967296)<=r*4294967296+g:=by omega
 have m:=w.stop c.dh1 j;rw[NF.yy]at m;refine b8 W U ⟨G,G,G,G,G,G,G,⟨W,aaf (SV.n .u64)<|by rw[m]⟩,U⟩;have F:0<Y:=by have:=c.hn;omega
 have E1:=G7 (u:=u) (d:=g) (Y:=Y) W F<|agy c.hl;have ev:IntKind.u64.wrap (IntKind.u64.wrap (IntKind.u64.wrap ((u:Int)*4294967296)+(g:Int))-IntKind.u64.wrap ((((u*4294967296+g)/Y:Nat):Int)*(Y:Int)))=(((u*4294967296+g)%Y:Nat):Int):=E1;have l:=c.dh2;have T:(u*4294967296+g)%Y<Y:=acN _ F;obtain⟨w1,w2⟩:=c.quo;have K:=c.dh1.abv;have z:=c.dh2.abv;rw[NF.yy]at K z;obtain⟨v,hv⟩:∃v,v=(u*4294967296+g)%Y:=⟨_,W⟩;rw[<-hv]at ev l T w1 w2 z;have B:v<18446744073709551616:=by have:=c.hl;omega
 refine cQ 4 [(2,.n .u64 Y),(8,.n .u64 s),(14,.n .u64 d0),(15,.n .u64 ((u*4294967296+g)/Y:Nat)),(17,.n .u64 v),(18,.n .u64 ((v*4294967296+d0)/Y:Nat))] True ?_ λ_=>?_;refine r1 W ?_ ?_;simp only[aj,aag];have:=c.hn;omega;refine lp (λ(q r:Nat)=>[(2,.n .u64 Y),(8,.n .u64 s),(9,.n .u64 (Y/4294967296:Nat)),(10,.n .u64 (Y%4294967296:Nat)),(14,.n .u64 d0),(15,.n .u64 ((u*4294967296+g)/Y:Nat)),(17,.n .u64 v),(18,.n .u64 q),(16,.n .u64 r)])
  (λq r=>DL 4294967296 v d0 (Y/4294967296) (Y%4294967296) q r) (λq _=>q) (v/(Y/4294967296)) (v%(Y/4294967296)) (DL.start l)
  ⟨G,G,G,G,G,G,⟨W,aaf (SV.n .u64) ev⟩,⟨W,aaf (SV.n .u64)<|by rw[ev,Yy _ _ B]⟩,⟨W,aaf (SV.n .u64)<|by rw[ev,Yy _ _ B,adk B]⟩,U⟩ ?_
 intro q r w;have A0:=w.hi;have X:=w.lt;have P:Y/4294967296<4294967296:=l.m;have R:Y%4294967296<4294967296:=l.l;have f:(4294967296<=q\/r*4294967296+d0<q*(Y%4294967296))->IntKind.u64.wrap ((q:Int)-1)=((q-1:Nat):Int)/\IntKind.u64.wrap ((r:Int)+((Y/4294967296:Nat):Int))=((r+Y/4294967296:Nat):Int):=by intro hc;obtain⟨g1,-,-⟩:=w.step l hc;exact⟨RP (b:=1) g1 E,Kf E⟩
 refine b6 W 104 W ?_ ?_<;>intro hc;obtain⟨A,p⟩:=f<|.inl E;obtain⟨g1,g2,H⟩:=w.step l<|.inl E;refine cm W W ?_ ?_<;>intro o;rw[p]at o;obtain⟨m,g5⟩:=H E;rw[NF.yy]at m;refine b8 W U ⟨G,G,G,G,G,⟨W,aaf (SV.n .u64)<|by rw[A,m]⟩,U⟩;rw[p]at o;refine r0 W<|again (q-1,r+Y/4294967296) (by dsimp only;omega) (g2 E) ⟨G,G,G,G,G,G,G,⟨W,aaf (SV.n .u64) A⟩,⟨W,aaf (SV.n .u64) p⟩,U⟩;have Z:q<4294967296:=E;have D:q*(Y%4294967296)<18446744073709551616:=by have:q*(Y%4294967296)<=4294967295*4294967295:=ael E E;omega
 have N:IntKind.u64.wrap ((q:Int)*((Y%4294967296:Nat):Int))=((q*(Y%4294967296):Nat):Int):=abM D;have M:IntKind.u64.wrap (IntKind.u64.wrap (4294967296*(r:Int))+(d0:Int))=((r*4294967296+d0:Nat):Int):=by rw[TZ,TZ];omega
 refine cm W W ?_ ?_<;>intro k;rw[N,M]at k;have j:r*4294967296+d0<q*(Y%4294967296):=by exact_mod_cast k
 obtain⟨A,p⟩:=f<|.inr j;obtain⟨g1,g2,H⟩:=w.step l<|.inr j;refine cm W W ?_ ?_<;>intro o;rw[p]at o;obtain⟨m,g5⟩:=H E;rw[NF.yy]at m;refine b8 W U ⟨G,G,G,G,G,⟨W,aaf (SV.n .u64)<|by rw[A,m]⟩,U⟩;rw[p]at o;refine r0 W<|again (q-1,r+Y/4294967296) (by dsimp only;omega) (g2 E) ⟨G,G,G,G,G,G,G,⟨W,aaf (SV.n .u64) A⟩,⟨W,aaf (SV.n .u64) p⟩,U⟩;rw[N,M]at k;have j:q*(Y%4294967296)<=r*4294967296+d0:=by omega
 have m:=w.stop l j;rw[NF.yy]at m;refine b8 W U ⟨G,G,G,G,G,⟨W,aaf (SV.n .u64)<|by rw[m]⟩,U⟩;refine r1 W ?_ ?_;simp only[aj,aag]<;>omega;refine aH W ⟨aaf (SV.n .u64) ?_,aaf (SV.n .u64) ?_,U⟩;rw[<-w1];obtain⟨a,ha⟩:∃a,a=(u*4294967296+g)/Y:=⟨_,W⟩;obtain⟨b,hb⟩:∃b,b=(v*4294967296+d0)/Y:=⟨_,W⟩;rw[<-ha]at K⊢;rw[<-hb]at z⊢;rw[TZ,TZ];omega;rw[<-w2];have e3:=G7 (u:=v) (d:=d0) (Y:=Y) W F<|agy c.hl;have e4:IntKind.u64.wrap (IntKind.u64.wrap (IntKind.u64.wrap ((v:Int)*4294967296)+(d0:Int))-IntKind.u64.wrap ((((v*4294967296+d0)/Y:Nat):Int)*(Y:Int)))=(((v*4294967296+d0)%Y:Nat):Int):=e3;rw[e4,Yb _ s E]
end
def fx:Nat->Nat->L Int
 |0,_=>[]
 |k+1,v=>((v%18446744073709551616:Nat):Int)::fx k (v/18446744073709551616)
def gN:∀(k v:Nat),(fx k v).length=k
 |0,_=>rfl
 |k+1,v=>by simp[fx,gN k]
def Po:∀(k v:Nat),iR (fx k v)
 |0,_,d,h=>by simp[fx]at h
 |k+1,v,d,h=>by simp[fx]at h;rcases h with rfl|h;omega;exact Po k _ d h
def QQ:∀{l:L Int}{v:Nat},iR l->val l=v->l=fx l.length v
 |[],v,_,h=>rfl
 |d::l,v,a,h=>by have g:=a d I;have c:iR l:=λx b=>a x (by simp[b]);simp[val]at h;simp only[abo,fx];have f:d=((v%18446744073709551616:Nat):Int):=E;have e:val l=((v/18446744073709551616:Nat):Int):=E;rw[<-f,<-QQ c e]
def T6{k v:Nat}(h:(v:Int)<18446744073709551616^k):val (fx k v)=v:=by
 induction k generalizing v with
 |zero=>
  have:v=0:=by simp at h;omega
  subst this;rfl
 |succ k a=>
  simp[fx,val]
  grind
def Zl{k v:Nat}(h:(v:Int)<18446744073709551616^k):dp (fx k v)=ah v:=by rw[eM<|Po k v,T6 h];simp
def ads(a b s:Nat)(h:a*2^s+b<18446744073709551616)(c:b<2^s):
 IntKind.u64.wrap ((BitVec.ofInt IntKind.u64.bits (b:Int)|||BitVec.ofInt IntKind.u64.bits ((a*2^s:Nat):Int)).toNat:Int)=((a*2^s+b:Nat):Int):=by
 rw[BitVec.or_comm];exact orU a b s h c
def Oa{x s:Nat}(hs:s<64)(b:x<18446744073709551616):
 x*2^s%18446744073709551616=x%2^(64-s)*2^s/\x*2^s=x%2^(64-s)*2^s+x/2^(64-s)*18446744073709551616/\x/2^(64-s)<2^s/\x%2^(64-s)*2^s+(2^s-1)<18446744073709551616:=by
 have f:2^(64-s)*2^s=18446744073709551616:=by rw[<-afY];grind
 have a:0<2^(64-s):=ae6 fV;have h:=afK x<|2^(64-s);have d:=acN x a;have g:x/2^(64-s)<2^s:=by rw[aeQ a,aen,f];exact b
 have c:(x%2^(64-s)+1)*2^s<=2^(64-s)*2^s:=acM _ d;rw[adD]at c;have e:x*2^s=x%2^(64-s)*2^s+x/2^(64-s)*18446744073709551616:=by grind
 omega
def vC(A s:Nat)(hs:s<64)(h1:(ah A).length<2^40):ab 333 [fS<|ah A,.i s] (ah9<|fx ((ah A).length+1)<|A*2^s):=by
 have F:=bL A;have hp:0<2^s:=ae6 fV;obtain⟨w,B⟩:∃w,w=ah A:=⟨_,W⟩;rw[<-B]at F h1⊢;have hA:val w=A:=by rw[B,bA]
 refine cp func333 W<|r1 W bk ?_;have q:((w.length:Int)+1).toNat=w.length+1:=E;refine lp (λ(i:Nat)(out:L Int)=>[(0,fS w),(1,.i s),(5,ah9 out),(12,fS w),(13,.i w.length),(14,.i i)])
  (λi out=>i<=w.length/\out.length=w.length+1/\iR out/\out.getD i 0<((2^s:Nat):Int)/\(∀k,i<k->out.getD k 0=0)/\val (out.take<|i+1)=val (w.take i)*((2^s:Nat):Int))
  (λi _=>w.length-i) 0 (List.replicate (w.length+1) 0) ⟨aaQ _,I,gb _,by grind,λk _=>iJ _ _,by rw[List.take_replicate,jn];simp[val]⟩
  ⟨G,G,⟨W,by rw[q];rfl⟩,G,G,G,U⟩ ?_
 rintro i out⟨hi,f,d,hc,O,C⟩;refine cm W W (λX=>?_) λA0=>?_;have S:=bt F i;have hb:=bt d i;obtain⟨x,ex⟩:∃x:Nat,w.getD i 0=x:=⟨(w.getD i 0).toNat,E⟩;obtain⟨b,o⟩:∃b:Nat,out.getD i 0=b:=⟨(out.getD i 0).toNat,E⟩;rw[ex]at S;rw[o]at hb hc;have n:(i:Int).toNat=i:=E;have m:((i:Int)+1).toNat=i+1:=E;obtain⟨g1,g2,g3,g4⟩:=Oa hs (show x<18446744073709551616 from E);have g:IntKind.u64.wrap ((BitVec.ofInt IntKind.u64.bits (b:Int)|||BitVec.ofInt IntKind.u64.bits (IntKind.u64.wrap<|(x:Int)*2^min ((s:Nat):Int).toNat IntKind.u64.bits)).toNat:Int)=((x%2^(64-s)*2^s+b:Nat):Int):=by rw[Uw x s E,g1];exact ads _ b s E E
 obtain⟨y,u⟩:∃y,y=x%2^(64-s)*2^s+b:=⟨_,W⟩;obtain⟨c,p⟩:∃c,c=x/2^(64-s):=⟨_,W⟩;have P:y<18446744073709551616:=E;have D:i<w.length:=E;have h:∀a:L Int,a.length=w.length+1->iR a->(∀k,i+1<k->a.getD k 0=0)->a.getD i 0=y->a.getD (i+1) 0=c->a.take i=out.take i->
  i+1<=w.length/\a.length=w.length+1/\iR a/\a.getD (i+1) 0<((2^s:Nat):Int)/\(∀k,i+1<k->a.getD k 0=0)/\val (a.take<|i+1+1)=val (w.take<|i+1)*((2^s:Nat):Int):=by
  intro a N M K J t H;refine⟨E,N,M,by rw[t];omega,K,?_⟩;rw[aL,aL a,H,J,t,aL w,ex];rw[aL,o]at C;have R:(x:Int)*((2^s:Nat):Int)=(y:Int)-b+(c:Int)*18446744073709551616:=by omega
  grind
 have T:IntKind.i64.wrap (64-(s:Int))=((64-s:Nat):Int):=by rw[wrI];omega
 have e:∀(l:L Int)(j k:Nat)(z:Int),(l.set j z).getD k 0=if j=k/\k<l.length then z else l.getD k 0:=dy;refine k1 W aP ?_ ?_;simp only[aj,aag,n]<;>omega;refine bY W ?_ ?_<;>intro h0;refine r1 W ?_ ?_;simp only[aj,aag,n,m,afL]<;>omega;refine again (i+1,(out.set i (y:Int)).set (i+1) (c:Int)) (by dsimp only;omega) ?_ ⟨G,G,⟨W,aaf (ah9) ?_⟩,G,G,⟨W,aaf (SV.n .i64) E⟩,U⟩;refine h _ (by simp[f]) (fF (fF d E) E) (λk Y=>?_) ?_ ?_ ?_;rw[e,aaq E,e,aaq E];exact O k E
 grind
 simp_all;rw[fB E,fB<|aaU _];dsimp only;rw[n,m];rw[ex,o,g,u];have r:(64-(s:Int))=((64-s:Nat):Int):=E;rw[r,Yb x (64-s) E,p];refine r1 W ?_ ?_;simp only[aj,aag]<;>omega;have V:s=0:=E;have B0:c=0:=by grind
 refine again (i+1,out.set i (y:Int)) (by dsimp only;omega) ?_ ⟨G,G,⟨W,aaf (ah9) ?_⟩,G,G,⟨W,aaf (SV.n .i64) E⟩,U⟩;refine h _ (by simp[f]) (fF d E) (λk Y=>?_) ?_ ?_ ?_
 grind
 grind
 grind
 rw[fB<|aaU _];dsimp only;rw[n,ex,o,g,u];refine r0 W ?_;have Z:i=w.length:=E;refine aH W ?_;show ah9 out=_;have e1:out.take (i+1)=out:=acD E;have e2:w.take i=w:=acD E;rw[e1,e2,hA]at C;rw[<-f,<-QQ (v:=A*2^s) d E]
end Go.Ai.bG
namespace Go.Ai.bG
section
variable{r t u2:Int}{u v w:List Int}{L U V c i k q ui vi:Nat}
def pt(pre w a:List Int)(h:i<w.length):(pre++w++a).getD (pre.length+i) 0=w.getD i 0:=by grind
def CA(pre w a:List Int)(y:Int)(h:i<w.length):(pre++w++a).set (pre.length+i) y=pre++w.set i y++a:=by simp_all
def BD{v1 v2:Int}(d:0<=t/\t<18446744073709551616)(b:18446744073709551616<=r)(a:0<=v2/\v2<18446744073709551616)(hu:0<=u2):dA k t r v1 v2 u2=t:=by
 cases k with
 |zero=>rfl
 |succ k=>unfold dA;rw[aaq];rintro(h|h);omega;have:t*v2<=18446744073709551615*18446744073709551615:=ahz E E a.1 E;omega
def Ml{v1 v2:Int}(b:t<18446744073709551616)(a:t*v2<=r*18446744073709551616+u2):dA k t r v1 v2 u2=t:=by
 cases k with
 |zero=>rfl
 |succ k=>unfold dA;omega
def Mm{v1 v2:Int}(d:1<=t)(b:r*18446744073709551616+u2<t*v2)(a:r+v1<18446744073709551616):dA t.toNat t r v1 v2 u2=dA (t-1).toNat (t-1) (r+v1) v1 v2 u2:=by
 have:t.toNat=(t-1).toNat+1:=E;rw[this]
 conv=>lhs;unfold dA
 omega
def Mn{v1 v2:Int}(d:1<=t)(b:r*18446744073709551616+u2<t*v2)(a:18446744073709551616<=r+v1):dA t.toNat t r v1 v2 u2=t-1:=by
 have:t.toNat=(t-1).toNat+1:=E;rw[this]
 conv=>lhs;unfold dA
 omega
def Si(b:w.length=L+1)(d:2<=L):val w=(w.getD L 0*18446744073709551616+w.getD (L-1) 0)*(18446744073709551616*18446744073709551616^(L-2))+w.getD (L-2) 0*18446744073709551616^(L-2)+val (w.take<|L-2):=by
 have g:=aL w L;have f:=aL w<|L-1;have e:=aL w<|L-2;have a:(18446744073709551616:Int)^(L-1)=18446744073709551616^(L-2)*18446744073709551616:=by rw[<-aeJ];congr 1;omega
 grind
def Sj(a:v.length=L)(b:2<=L):val v=v.getD (L-1) 0*(18446744073709551616*18446744073709551616^(L-2))+v.getD (L-2) 0*18446744073709551616^(L-2)+val (v.take<|L-2):=by
 have e:=aL v<|L-1;have d:=aL v<|L-2
 grind
structure MS(w v:List Int)(L q i:Nat)(u:List Int)(carry borrow:Nat):Prop where
 len:u.length=L+1
 dig:iR u
 same:∀k,i<=k->u.getD k 0=w.getD k 0
 c:carry<18446744073709551616
 b:borrow<=1
 eq:val (u.take i)+q*val (v.take i)=val (w.take i)+((carry:Int)+borrow)*18446744073709551616^i
def MS.start(h:w.length=L+1)(a:iR w):MS w v L q 0 w 0 0:=⟨h,a,λ_ _=>rfl,E,E,by simp[val]⟩
def split_mul{p:Nat}:(p%18446744073709551616+c)%18446744073709551616=(p+c)%18446744073709551616/\p/18446744073709551616+(p%18446744073709551616+c)/18446744073709551616=(p+c)/18446744073709551616:=by omega
def Ho{x:Nat}(d:q<18446744073709551616)(b:x<18446744073709551616)(a:c<18446744073709551616):(q*x+c)/18446744073709551616<18446744073709551616:=by have:q*x<=18446744073709551615*18446744073709551615:=ael E E;omega
def MS.next{a b:Nat}(h:MS w v L q i u a b)(hi:i<L)(m:q<18446744073709551616)(ev:v.getD i 0=vi)(x:w.getD i 0=ui)(l:vi<18446744073709551616)(hu:ui<18446744073709551616):
 MS w v L q (i+1) (u.set i ((ui+18446744073709551616-(q*vi+a)%18446744073709551616-b)%18446744073709551616:Nat)) ((q*vi+a)/18446744073709551616) (if ui<(q*vi+a)%18446744073709551616+b then 1 else 0):=by
 obtain⟨s,p,B,o,A,z⟩:=h;have hc:=Ho m l o;have hm:=acN (q*vi+a) (show 0<18446744073709551616 from fV);have d:=afK (q*vi+a) 18446744073709551616;refine⟨by simp[s],fF p E,λk y=>?_,hc,by split<;>omega,?_⟩
 grind
 rw[aL,fB<|aaU _,dy,aas E,aL v,aL w,ev,x];have D:(q:Int)*(val (v.take i)+(vi:Int)*18446744073709551616^i)=q*val (v.take i)+((q*vi:Nat):Int)*18446744073709551616^i:=by grind
 obtain⟨lo,e⟩:∃lo,lo=(q*vi+a)%18446744073709551616:=⟨_,W⟩;obtain⟨g,f⟩:∃g,g=(q*vi+a)/18446744073709551616:=⟨_,W⟩;rw[<-e]at hm d⊢;rw[<-f]at d hc⊢;obtain⟨j,n⟩:∃j,j=if ui<lo+b then 1 else 0:=⟨_,W⟩;have key:(((ui+18446744073709551616-lo-b)%18446744073709551616:Nat):Int)=(ui:Int)-lo-b+18446744073709551616*j:=by grind
 have C:((q*vi:Nat):Int)=(lo:Int)+18446744073709551616*g-a:=E
 grind
def MS.last{b a:Nat}(h:MS w v L q L u b a)(n:w.length=L+1)(o:v.length=L)(A:w.getD L 0=ui)(hu:ui<18446744073709551616):
 (u.set L ((ui+18446744073709551616-b-a)%18446744073709551616:Nat)).length=L+1/\iR (u.set L ((ui+18446744073709551616-b-a)%18446744073709551616:Nat))/\
   val (u.set L ((ui+18446744073709551616-b-a)%18446744073709551616:Nat))+q*val v=val w+((if ui<b+a then 1 else 0:Nat):Int)*18446744073709551616^(L+1):=by
 obtain⟨f,l,z,y,s,p⟩:=h;refine⟨by simp[f],fF l E,?_⟩;obtain⟨x,j⟩:∃x,x=(ui+18446744073709551616-b-a)%18446744073709551616:=⟨_,W⟩;rw[<-j];have m:(u.set L (x:Int)).take (L+1)=u.set L (x:Int):=acD (by simp[f]);have g:=aL (u.set L (x:Int)) L;rw[m,fB .refl,dy,aas E]at g;have B:=aL w L;rw[g,aeJ];obtain⟨e,d⟩:∃e:Nat,e=if ui<b+a then 1 else 0:=⟨_,W⟩;rw[<-d];have key:(x:Int)=(ui:Int)-b-a+18446744073709551616*e:=by grind
 grind
structure AB(u2 v:List Int)(L i:Nat)(u:List Int)(c:Nat):Prop where
 len:u.length=L+1
 dig:iR u
 same:∀k,i<=k->u.getD k 0=u2.getD k 0
 hc:c<=1
 eq:val (u.take i)+(c:Int)*18446744073709551616^i=val (u2.take i)+val (v.take i)
def AB.start(h:w.length=L+1)(a:iR w):AB w v L 0 w 0:=⟨h,a,λ_ _=>rfl,E,by simp[val]⟩
def AB.next{u2:List Int}(h:AB u2 v L i u c)(hi:i<L)(ev:v.getD i 0=vi)(l:u2.getD i 0=ui)(d:vi<18446744073709551616)(hu:ui<18446744073709551616):
 AB u2 v L (i+1) (u.set i ((ui+vi+c)%18446744073709551616:Nat)) ((ui+vi+c)/18446744073709551616):=by
 obtain⟨b,a,j,g,f⟩:=h;refine⟨by simp[b],fF a E,λk e=>?_,E,?_⟩
 grind
 rw[aL,fB .refl,aL v,aL u2]
 grind
def AB.last{u2:List Int}(h:AB u2 v L L u c)(j:u2.length=L+1)(l:v.length=L)(p:u2.getD L 0=ui):
 (u.set L ((ui+c)%18446744073709551616:Nat)).length=L+1/\iR (u.set L ((ui+c)%18446744073709551616:Nat))/\
   val (u.set L ((ui+c)%18446744073709551616:Nat))+(((ui+c)/18446744073709551616:Nat):Int)*18446744073709551616^(L+1)=val u2+val v:=by
 obtain⟨d,f,o,n,m⟩:=h;refine⟨by simp[d],fF f E,?_⟩;obtain⟨x,e⟩:∃x,x=(ui+c)%18446744073709551616:=⟨_,W⟩;obtain⟨b,a⟩:∃b,b=(ui+c)/18446744073709551616:=⟨_,W⟩;rw[<-e,<-a];have y:(u.set L (x:Int)).take (L+1)=u.set L (x:Int):=acD (by simp[d]);have g:=aL (u.set L (x:Int)) L;rw[fB .refl,dy]at g;have s:=aL u2 L;have key:(x:Int)=(ui:Int)+c-18446744073709551616*b:=E
 grind
def KG(hl:u.length=L+1)(b:iR u)(h:val u+q*V=(U:Int))(d:(U:Int)<((q:Int)+1)*V):u=fx (L+1) (U%V)/\U/V=q:=by
 have g:=bE b;rw[afV]at d;have a:(val u).toNat<V:=E;have e:U=(val u).toNat+V*q:=by grind
 have j:U%V=(val u).toNat:=by rw[e,Nat.add_mul_mod_self_left,afz a]
 have f:U/V=q:=by rw[e,agm _ _ E,ae5 a,af0]
 refine⟨?_,f⟩;rw[<-hl];exact QQ b E
def RR{u2:List Int}{cy:Nat}(hl:u.length=L+1)(f:iR u)(a:u2.length=L+1)(b:iR u2)(h:val u2+q*V=(U:Int)+18446744073709551616^(L+1))(o:(V:Int)<18446744073709551616^(L+1))
 (l:((q:Int)-1)*V<=U)(s:val u+(cy:Int)*18446744073709551616^(L+1)=val u2+V)(j:cy<=1):u=fx (L+1) (U%V)/\U/V=q-1/\1<=q:=by
 have n:=iX f;have m:=iX b;rw[hl]at n;rw[a]at m;rw[agR]at l;have g:1<=q:=by rcases aeg q with e|e;subst e;omega;exact e
 obtain⟨p,rfl⟩:∃p,q=p+1:=⟨q-1,E⟩;have x:(((p+1:Nat):Int))*V=(p:Int)*V+V:=by grind
 have d:cy=1:=by rcases acX cy 1 with e|e;have:cy=0:=E;subst this;omega;omega
 subst d;have:=KG (u:=u) (L:=L) (U:=U) (V:=V) (q:=p) hl f E (by rw[afV];omega);simp_all
end
end Go.Ai.bG
namespace Go.Ai.bG
def aa4{a u1 u2 v1 v2 P c b:Int}(i:0<P)(k:0<=u1)(d:0<=u2)(f:0<=c)(j:0<=v2/\v2<18446744073709551616)(e:0<=b/\b<P)
 (h:(a*18446744073709551616+u1)*(18446744073709551616*P)+u2*P+c<18446744073709551616*(v1*(18446744073709551616*P)+v2*P+b)):a<=v1:=by
 rcases agw v1 a with g|g;have n:(v1*18446744073709551616+18446744073709551616)*(18446744073709551616*P)<=(a*18446744073709551616+u1)*(18446744073709551616*P):=afO E E;have m:(v2+1)*P<=18446744073709551616*P:=afO E E;have l:0<=u2*P:=aeA d E
 grind
 exact g
def aa3{t a u2 v1 v2 P c b:Int}(d:0<P)(g:0<=t)(j:0<=u2/\u2<18446744073709551616)(i:c<P)(e:0<=v2)(f:0<=b)(h:a<(t+1)*v1):
 a*(18446744073709551616*P)+u2*P+c<(t+1)*(v1*(18446744073709551616*P)+v2*P+b):=by
 have m:(a+1)*(18446744073709551616*P)<=((t+1)*v1)*(18446744073709551616*P):=afO E E;have l:(u2+1)*P<=18446744073709551616*P:=afO E E;have k:0<=(t+1)*(v2*P+b):=aeA E (by have:=aeA e<|adY d;omega)
 grind
theorem rP(pre w post:List Int)(V:Nat)(hw:w.length=(ah V).length+1)(hwd:iR w)(hL:2<=(ah V).length)(htop:9223372036854775808<=(ah V).getD ((ah V).length-1) 0)
 (hU:val w<18446744073709551616*(V:Int))(hsz:pre.length+w.length+post.length<2^50):
 iQ prog 334 [ah9<|pre++w++post] [.bw 1000000 0 0 [.nF 1 pre.length<|(ah V).length+1],fS<|ah V]
  [ah9<|pre++fx ((ah V).length+1) ((val w).toNat%V)++post] (.n .u64 ((val w).toNat/V:Nat)):=by
 have hvd:=bL V;have hvV:=bA V;have hV0:0<V:=by rcases aeg V with e|e;subst e;rw[c6]at hL;simp at hL;exact e
 generalize ah V=v at*;have hus:∀l:List Int,l.length=v.length+1->(pre++l++post).length=pre.length+(v.length+1)+post.length:=λl hl=>by grind
 have nat:∀(l:List Int),iR l->∀i,∃x:Nat,l.getD i 0=x/\x<18446744073709551616:=λl hd i=>by have:=bt hd i;exact⟨(l.getD i 0).toNat,E,E⟩
 obtain⟨v1,ev1,hv1⟩:=nat v hvd<|v.length-1;obtain⟨v2,ev2,hv2⟩:=nat v hvd<|v.length-2;obtain⟨uL,euL,huL⟩:=nat w hwd v.length;obtain⟨u1,eu1,hu1⟩:=nat w hwd<|v.length-1;obtain⟨u2,eu2,hu2⟩:=nat w hwd<|v.length-2;have eL:(v.length:Int).toNat=v.length:=E;have eL1:((v.length:Int)-1).toNat=v.length-1:=E;have eL2:((v.length:Int)-2).toNat=v.length-2:=E;have hul:=hus w hw;have m0:(pre++w++post).getD (pre.length+v.length) 0=uL:=by rw[pt _ _ _ E,euL]
 have m1:(pre++w++post).getD (pre.length+(v.length-1)) 0=u1:=by rw[pt _ _ _ E,eu1]
 have m2:(pre++w++post).getD (pre.length+(v.length-2)) 0=u2:=by rw[pt _ _ _ E,eu2]
 obtain⟨P,hP⟩:∃P:Int,P=18446744073709551616^(v.length-2):=⟨_,W⟩;have hPp:0<P:=by rw[hP];exact dW _
 have pw:=Si hw hL;have pv:=Sj W hL;rw[euL,eu1,eu2,<-hP]at pw;rw[ev1,ev2,hvV,<-hP]at pv;have hul0:=bE<|ia hwd<|v.length-2;have hul1:=iX<|ia hwd<|v.length-2;have hvl0:=bE<|ia hvd<|v.length-2;have hvl1:=iX<|ia hvd<|v.length-2;rw[ade,show min (v.length-2) w.length=v.length-2 from E,<-hP]at hul1;rw[ade,show min (v.length-2) v.length=v.length-2 from E,<-hP]at hvl1;have hv1b:9223372036854775808<=v1:=by rw[ev1]at htop;omega
 have htopU:∀t:Int,0<=t->(uL:Int)*18446744073709551616+u1<(t+1)*v1->val w<(t+1)*V:=by intro t ht h;have:=aa3 hPp ht (show 0<=(u2:Int)/\(u2:Int)<18446744073709551616 from E) hul1 (show 0<=(v2:Int)from E) hvl0 h;simp_all
 refine mF (fn:=Tryz.f334) func334 W W W W W<|yI 5 (λt r:Nat=>[(0,.bw 1000000 0 0 [.nF 1 pre.length<|v.length+1]),(1,fS v),(5,.i v.length),(6,.n .u64 t),(7,.n .u64 (r%18446744073709551616:Nat)),(8,.n .u64 (r/18446744073709551616:Nat)),(1000000,ah9<|pre++w++post)])
  (λt r=>t<18446744073709551616/\r<2*18446744073709551616/\(t:Int)*v1+r=(uL:Int)*18446744073709551616+u1/\val w<((t:Int)+1)*V) ?_ λt r⟨ht,hr,htr,htV⟩=>?_
 refine k1 W aP ?_ ?_;simp only[aj,aag,eL,eL1,hul]<;>omega;refine bY W ?_ ?_<;>intro hc;rw[eL,eL1,m0,ev1]at hc;have hle:(uL:Int)<=v1:=aa4 (u1:=u1) (u2:=u2) (v2:=v2) hPp E E hul0 E ⟨hvl0,hvl1⟩ E;have heq:uL=v1:=E;refine r1 W ?_ ?_;simp only[aj,aag,eL,eL1,hul]<;>omega;refine TV (us:=[.n .u64 u1,.n .u64 v1,.n .u64 ((0:Nat):Int)]) W W trivial ⟨aaf (SV.n .u64)<|by rw[eL1,m1],aaf (SV.n .u64)<|by rw[eL1,ev1],W,trivial⟩ (gi u1 v1 0 fV) W<|k0 W aP<|fL (18446744073709551615,u1+v1) ⟨E,E,?_,?_⟩;dsimp only;omega;omega;rw[eL,eL1,m0,ev1]at hc;have hlt:uL<v1:=E;refine r1 W ?_ ?_;simp only[aj,aag,eL,eL1,hul]<;>omega;refine TV (us:=[.n .u64 uL,.n .u64 u1,.n .u64 v1]) W W trivial ⟨aaf (SV.n .u64)<|by rw[eL,m0],aaf (SV.n .u64)<|by rw[eL1,m1],aaf (SV.n .u64)<|by rw[eL1,ev1],trivial⟩ (BO uL u1 v1 hlt hv1 hu1) W<|k0 W aP ?_;have hdm:=afK (uL*18446744073709551616+u1) v1;have hml:=acN (uL*18446744073709551616+u1) (show 0<v1 from E);have hdl:(uL*18446744073709551616+u1)/v1<18446744073709551616:=by rw[aeQ E];omega
 obtain⟨q,hq⟩:∃q,q=(uL*18446744073709551616+u1)/v1:=⟨_,W⟩;obtain⟨r,hr⟩:∃r,r=(uL*18446744073709551616+u1)%v1:=⟨_,W⟩;rw[<-hq,<-hr];rw[<-hq]at hdm hdl;rw[<-hr]at hdm hml;have hi:(q:Int)*v1+r=(uL:Int)*18446744073709551616+u1:=by grind
 refine meet (q,r) ⟨hdl,by dsimp only;omega,hi,?_⟩ ⟨⟨W,W,W⟩,⟨W,W⟩,⟨W,W⟩,⟨W,W⟩,⟨W,aaf (SV.n .u64)<|by dsimp only;omega⟩,⟨W,aaf (SV.n .u64)<|by dsimp only;omega⟩,⟨W,W⟩,trivial⟩;dsimp only;refine htopU q E ?_
 grind
 obtain⟨G,hG⟩:∃G,G=dA (t:Int).toNat t r v1 v2 u2:=⟨_,W⟩;have hspec:=uo hPp (show(1:Int)<=v1 from E) (show 0<=(v2:Int)/\(v2:Int)<18446744073709551616 from E) (show 0<=(u2:Int)/\(u2:Int)<18446744073709551616 from E) ⟨hvl0,hvl1⟩ ⟨hul0,hul1⟩ pv pw hU (t:Int).toNat t r W E E htr htV;rw[<-hG]at hspec;refine Cp 1 (λq:Nat=>[(0,.bw 1000000 0 0 [.nF 1 pre.length<|v.length+1]),(1,fS v),(5,.i v.length),(6,.n .u64 q),(1000000,ah9<|pre++w++post)]) (λq=>(q:Int)=G) ?_ λq hq=>?_;refine r0 W<|lp (λt r:Nat=>[(0,.bw 1000000 0 0 [.nF 1 pre.length<|v.length+1]),(1,fS v),(5,.i v.length),(6,.n .u64 t),(7,.n .u64 (r%18446744073709551616:Nat)),(8,.n .u64 (r/18446744073709551616:Nat)),(1000000,ah9<|pre++w++post)])
  (λt r=>t<18446744073709551616/\r<2*18446744073709551616/\dA (t:Int).toNat t r v1 v2 u2=G) (λt _=>t) t r ⟨ht,hr,hG.symm⟩
  ⟨⟨W,W,W⟩,⟨W,W⟩,⟨W,W⟩,⟨W,W⟩,⟨W,W⟩,⟨W,W⟩,⟨W,W⟩,trivial⟩ ?_
 rintro t r⟨ht,hr,hG⟩;have hrd:r/18446744073709551616=0↔r<18446744073709551616:=E;refine cm W W ?_ ?_<;>intro hc;have hrW:r<18446744073709551616:=E;have er:r%18446744073709551616=r:=E;have hst:∀(h:t*v2<=r*18446744073709551616+u2),(t:Int)=G:=by intro h;rw[<-hG];exact(Ml E E).symm
 refine r1 W ?_ ?_;simp only[aj,aag,eL2]<;>omega;refine Gm (us:=[.n .u64 t,.n .u64 v2]) W W trivial ⟨W,aaf (SV.n .u64)<|by rw[eL2,ev2],trivial⟩ (ll t v2 ht hv2) W<|r0 W ?_;have hmd:=afK (t*v2) 18446744073709551616;have hml:=acN (t*v2) (show 0<18446744073709551616 from fV);obtain⟨hi,hhi⟩:∃hi,hi=t*v2/18446744073709551616:=⟨_,W⟩;obtain⟨lo,hlo⟩:∃lo,lo=t*v2%18446744073709551616:=⟨_,W⟩;rw[<-hhi,<-hlo];rw[<-hhi,<-hlo]at hmd;rw[<-hlo]at hml;rw[er];refine aF 78 W ?_ ?_<;>intro h;refine r0 W<|fL t<|hst E;refine r0 W ?_;have hnx:r*18446744073709551616+u2<t*v2->1<=t/\dA ((t-1:Nat):Int).toNat ((t-1:Nat):Int) ((r+v1:Nat):Int) v1 v2 u2=G:=by
  intro h;have h1:1<=t:=by grind
  have h2:(r:Int)*18446744073709551616+u2<(t:Int)*v2:=by omega
  refine⟨h1,?_⟩;have e1:((t-1:Nat):Int)=(t:Int)-1:=E;have e2:((r+v1:Nat):Int)=(r:Int)+v1:=E;rw[e1,e2,<-hG];rcases agw ((r:Int)+v1) 18446744073709551616 with g|g;exact(Mm E h2 g).symm;rw[Mn E h2 g];exact BD ⟨E,E⟩ g ⟨E,E⟩ E
 refine aF 82 W ?_ ?_<;>intro h2;refine r1 W ?_ ?_;simp only[aj,aag,eL2,hul]<;>omega;refine bY W ?_ ?_<;>intro h3;rw[eL2,m2]at h3;refine r0 W<|fL t<|hst E;rw[eL2,m2]at h3;obtain⟨g1,g2⟩:=hnx E;refine r1 W ?_ ?_;simp only[aj,aag,eL1]<;>omega;refine Gm (us:=[.n .u64 r,.n .u64 v1,.n .u64 ((0:Nat):Int)]) W W trivial ⟨W,aaf (SV.n .u64)<|by rw[eL1,ev1],W,trivial⟩ (gi r v1 0 fV) W<|r0 W<|again (t-1,r+v1) (by dsimp only;omega) ⟨by dsimp only;omega,by dsimp only;omega,g2⟩ ⟨⟨W,W,W⟩,⟨W,W⟩,⟨W,W⟩,⟨W,aaf (SV.n .u64)<|RP (b:=1) g1 ht⟩,⟨W,W⟩,⟨W,W⟩,⟨W,W⟩,trivial⟩;obtain⟨g1,g2⟩:=hnx E;refine r1 W ?_ ?_;simp only[aj,aag,eL1]<;>omega;refine Gm (us:=[.n .u64 r,.n .u64 v1,.n .u64 ((0:Nat):Int)]) W W trivial ⟨W,aaf (SV.n .u64)<|by rw[eL1,ev1],W,trivial⟩ (gi r v1 0 fV) W<|r0 W<|again (t-1,r+v1) (by dsimp only;omega) ⟨by dsimp only;omega,by dsimp only;omega,g2⟩ ⟨⟨W,W,W⟩,⟨W,W⟩,⟨W,W⟩,⟨W,aaf (SV.n .u64)<|RP (b:=1) g1 ht⟩,⟨W,W⟩,⟨W,W⟩,⟨W,W⟩,trivial⟩;have:(t:Int)=G:=by rw[<-hG];exact(BD ⟨E,E⟩ E ⟨E,E⟩ E).symm
 refine r0 W<|fL t this;have hqW:q<18446744073709551616:=E;rw[<-hq]at hspec;refine r0 W<|adG (λ(i:Nat)(u:List Int)(c b:Nat)=>[(0,.bw 1000000 0 0 [.nF 1 pre.length<|v.length+1]),(1,fS v),(5,.i v.length),(6,.n .u64 q),(11,.n .u64 b),(12,.n .u64 c),(104,.i v.length),(105,.i i),(1000000,ah9<|pre++u++post)])
  (λi u c b=>i<=v.length/\MS w v v.length q i u c b) (λi _ _ _=>v.length-i) 0 w 0 0 ⟨aaQ _,MS.start hw hwd⟩
  ⟨⟨W,W,W⟩,⟨W,W⟩,⟨W,W⟩,⟨W,W⟩,⟨W,W⟩,⟨W,W⟩,⟨W,W⟩,⟨W,W⟩,⟨W,W⟩,trivial⟩ ?_
 rintro i u c b⟨hi,hM⟩;have ei:(i:Int).toNat=i:=E;have huu:=hus u hM.len;refine cm W W (λhlt=>?_) (λhge=>?_)
 ·have hi':i<v.length:=E;obtain⟨vi,evi,hvi⟩:=nat v hvd i;obtain⟨ui,eui,hui⟩:=nat w hwd i;have mi:(pre++u++post).getD (pre.length+i) 0=ui:=by rw[pt _ _ _ (by have:=hM.len;omega),hM.same i<|aaU _,eui]
  have hc:=hM.c;have hb:=hM.b;refine r1 W ?_ ?_;simp only[aj,aag,ei]<;>omega;refine Gm (us:=[.n .u64 q,.n .u64 vi]) W W trivial ⟨W,aaf (SV.n .u64)<|by rw[ei,evi],trivial⟩ (ll q vi hqW hvi) W<|ck W W (gi (q*vi%18446744073709551616) c 0 fV) W<|r1 W ?_ ?_;simp only[aj,aag,ei,huu]<;>omega;obtain⟨k1,k2⟩:=split_mul (p:=q*vi) (c:=c);have hmb:=Ho hqW hvi hc;refine Gm (us:=[.n .u64 ui,.n .u64 ((q*vi+c)%18446744073709551616:Nat),.n .u64 b]) W W trivial ⟨aaf (SV.n .u64)<|by rw[ei,mi],aaf (SV.n .u64)<|by rw[ag7,k1],W,trivial⟩ (qJ ui ((q*vi+c)%18446744073709551616) b hb) W<|r1 W ?_ ?_;simp only[aj,aag,ei,huu]<;>omega;refine again (i+1,u.set i ((ui+18446744073709551616-(q*vi+c)%18446744073709551616-b)%18446744073709551616:Nat),(q*vi+c)/18446744073709551616,(if ui<(q*vi+c)%18446744073709551616+b then 1 else 0)) (by dsimp only;omega)
   ⟨by dsimp only;omega,hM.next hi' hqW evi eui hvi hui⟩
   ⟨⟨W,W,W⟩,⟨W,W⟩,⟨W,W⟩,⟨W,W⟩,⟨W,W⟩,⟨W,aaf (SV.n .u64)<|by rw[ag7,Kf E,k2]⟩,⟨W,W⟩,⟨W,W⟩,⟨W,aaf (ah9)<|by rw[ei,CA _ _ _ _ (by have:=hM.len;omega)]⟩,trivial⟩
 have:i=v.length:=E;subst this;have ml:(pre++u++post).getD (pre.length+v.length) 0=uL:=by rw[pt _ _ _ (by have:=hM.len;omega),hM.same _<|aaU _,euL]
 have hc:=hM.c;have hb:=hM.b;obtain⟨l1,l2,l3⟩:=hM.last hw W euL huL;have hVW:(V:Int)<18446744073709551616^(v.length+1):=by have:=iX hvd;omega
 have hU0:=bE hwd;have hUn:((val w).toNat:Int)=val w:=E;refine r1 W ?_ ?_;simp only[aj,aag,ei,huu]<;>omega;refine Gm (us:=[.n .u64 uL,.n .u64 c,.n .u64 b]) W W trivial ⟨aaf (SV.n .u64)<|by rw[ei,ml],W,W,trivial⟩ (qJ uL c b hb) W<|r1 W ?_ ?_;simp only[aj,aag,ei,huu]<;>omega;rw[ei,CA _ _ _ _ (by have:=hM.len;omega)];obtain⟨u2',hu2'⟩:∃z,z=u.set v.length ((uL+18446744073709551616-c-b)%18446744073709551616:Nat):=⟨_,W⟩;rw[<-hu2']at l1 l2 l3⊢;obtain⟨bb,hbb⟩:∃z:Nat,z=if uL<c+b then 1 else 0:=⟨_,W⟩;rw[<-hbb]at l3⊢;have hbb1:bb<=1:=by grind
 refine bY W ?_ ?_<;>intro hz;have hz0:bb=0:=E;subst hz0;have hfit:=KG (U:=(val w).toNat) (V:=V) (q:=q) l1 l2 (by grind) (by rw[hUn];exact hspec.1);refine r0 W<|NJ [(4,.n .u64 q),(1000000,ah9<|pre++u2'++post)] ⟨⟨W,W,.le W⟩,⟨W,W,.le W⟩,trivial⟩ W ?_ ⟨⟨?_,W⟩,trivial⟩;exact aaf (SV.n .u64) (by rw[hfit.2]);exact aaf (ah9) (by rw[<-hfit.1]);have hz1:bb=1:=E;subst hz1;refine r0 W<|pV (λ(i:Nat)(u:List Int)(c:Nat)=>[(0,.bw 1000000 0 0 [.nF 1 pre.length<|v.length+1]),(1,fS v),(5,.i v.length),(6,.n .u64 q),(17,.n .u64 c),(156,.i v.length),(157,.i i),(1000000,ah9<|pre++u++post)])
  (λi u c=>i<=v.length/\AB u2' v v.length i u c) (λi _ _=>v.length-i) 0 u2' 0 ⟨aaQ _,AB.start l1 l2⟩
  ⟨⟨W,W,W⟩,⟨W,W⟩,⟨W,W⟩,⟨W,W⟩,⟨W,W⟩,⟨W,W⟩,⟨W,W⟩,⟨W,W⟩,trivial⟩ ?_
 clear hM huu hu2' ml;rintro i u c⟨hi,hM⟩;have ei:(i:Int).toNat=i:=E;have huu:=hus u hM.len;refine cm W W (λhlt=>?_) (λhge=>?_)
 ·have hi':i<v.length:=E;obtain⟨vi,evi,hvi⟩:=nat v hvd i;obtain⟨ui,eui,hui⟩:=nat u2' l2 i;have mi:(pre++u++post).getD (pre.length+i) 0=ui:=by rw[pt _ _ _ (by have:=hM.len;omega),hM.same i<|aaU _,eui]
  have hc:=hM.hc;refine r1 W ?_ ?_;simp only[aj,aag,ei,huu]<;>omega;refine TV (us:=[.n .u64 ui,.n .u64 vi,.n .u64 c]) W W trivial ⟨aaf (SV.n .u64)<|by rw[ei,mi],aaf (SV.n .u64)<|by rw[ei,evi],W,trivial⟩ (gi ui vi c hc) W<|k1 W aP ?_ ?_;simp only[aj,aag,ei,huu]<;>omega;refine again (i+1,u.set i ((ui+vi+c)%18446744073709551616:Nat),(ui+vi+c)/18446744073709551616) (by dsimp only;omega)
   ⟨by dsimp only;omega,hM.next hi' evi eui hvi hui⟩
   ⟨⟨W,W,W⟩,⟨W,W⟩,⟨W,W⟩,⟨W,W⟩,⟨W,W⟩,⟨W,W⟩,⟨W,W⟩,⟨W,aaf (ah9)<|by rw[ei,CA _ _ _ _ (by have:=hM.len;omega)]⟩,trivial⟩
 have:i=v.length:=E;subst this;obtain⟨uu,euu,huu2⟩:=nat u2' l2 v.length;have ml:(pre++u++post).getD (pre.length+v.length) 0=uu:=by rw[pt _ _ _ (by have:=hM.len;omega),hM.same _<|aaU _,euu]
 obtain⟨n1,n2,n3⟩:=hM.last l1 W euu;have hc:=hM.hc;have hbk:=RR (U:=(val w).toNat) (V:=V) (q:=q) (cy:=(uu+c)/18446744073709551616) n1 n2 l1 l2 (by rw[<-hvV,l3,hUn];simp) hVW E (by rw[n3,hvV]) E;refine r1 W ?_ ?_;simp only[aj,aag,ei,huu]<;>omega;have es:(pre++u++post).set (pre.length+v.length) (IntKind.u64.wrap<|(uu:Int)+(c:Int))=pre++fx (v.length+1) ((val w).toNat%V)++post:=by rw[CA _ _ _ _ (by have:=hM.len;omega),<-aho,wrm,hbk.1]
 rw[ei,ml,es];refine NJ [(4,.n .u64 (q-1:Nat)),(1000000,ah9<|pre++fx (v.length+1) ((val w).toNat%V)++post)] ⟨⟨W,W,.le ?_⟩,⟨W,W,.le W⟩,trivial⟩ W ?_ ⟨⟨W,W⟩,trivial⟩;exact aaf (SV.n .u64)<|RP (b:=1) hbk.2.2 hqW;exact aaf (SV.n .u64) (by rw[hbk.2.1])
section
variable{k m n v:Nat}
def lv:∀(a b v:Nat),fx (a+b) v=fx a v++fx b (v/18446744073709551616^a)
 |0,b,v=>by simp[fx]
 |a+1,b,v=>by rw[show a+1+b=(a+b)+1 from E];simp[fx];rw[lv a b,af4,afi,aen 18446744073709551616]
def wK:∀(j v:Nat),fx j (v%18446744073709551616^j)=fx j v
 |0,v=>rfl
 |j+1,v=>by simp only[fx];rw[afi,aen,Nat.mod_mul_right_div_self,wK j,Nat.mod_mod_of_dvd _<|ah4 _ _]
def JA(j v x:Nat):fx j (v+18446744073709551616^j*x)=fx j v:=by rw[<-wK,Nat.add_mul_mod_self_left,wK]
def Jz:∀k:Nat,fx k 0=List.replicate k 0
 |0=>rfl
 |k+1=>by simp[fx,Jz k];rfl
def yu:∀{m v j:Nat},j<m->(fx m v).getD j 0=((v/18446744073709551616^j%18446744073709551616:Nat):Int)
 |m+1,v,0,h=>by simp[fx]
 |m+1,v,j+1,h=>by simp only[fx,List.getD_cons_succ];rw[yu E,af4,afi,aen 18446744073709551616]
def Wb{j d:Nat}(h:j<m)(b:d<18446744073709551616):(fx m v).set j d=fx m (v%18446744073709551616^j+18446744073709551616^j*(d+18446744073709551616*(v/18446744073709551616^(j+1)))):=by
 obtain⟨r,rfl⟩:∃r,m=j+(r+1):=⟨m-j-1,E⟩;have a:0<18446744073709551616^j:=ae6 fV;rw[lv j<|r+1,lv j<|r+1,JA,wK,List.set_append_right _ _<|by rw[gN];omega,gN,agZ]
 congr 1
 rw[agm _ _ a,ae5<|acN _ a];simp only[fx,List.set_cons_zero];rw[af4,<-afi]
 grind
def Zm(h:n<=m):(fx m v).take n=fx n v:=by obtain⟨r,rfl⟩:∃r,m=n+r:=⟨m-n,E⟩;rw[lv,ag9<|by rw[gN];exact aaU _,acD<|by rw[gN];exact aaU _]
def Q9(v:Nat):ah v=fx (ah v).length v:=QQ (bL v)<|bA v
def mP(n:Nat):n<18446744073709551616^(ah n).length:=by
 have h:=cu n
 grind
def JS(hn:0<n):18446744073709551616^((ah n).length-1)<=n:=by
 rcases gZ n with h|h
 grind
 grind
def MV{X L:Nat}(d:18446744073709551616^L<=X)(e:X<18446744073709551616^(L+1)):(ah X).length=L+1:=by have c:=acW (ae6 fV) d;have a:=mP X;have b:=JS c;rcases Nat.lt_trichotomy (ah X).length (L+1)with g|g|g;have:=adi (show 0<18446744073709551616 from fV) (show(ah X).length<=L from E);omega;exact g;have:=adi (show 0<18446744073709551616 from fV) (show L+1<=(ah X).length-1 from E);omega
def yt(h:v<18446744073709551616^k):dp (fx k v)=ah v:=by
 apply Zl
 grind
def XO(h:v<18446744073709551616^k):val (fx k v)=v:=by
 apply T6
 grind
def Uc{B x s:Nat}(F:0<B)(o:(ah B).getD ((ah B).length-1) 0=x)(hs:s=64-bl x):
 s<64/\bl x<=64/\9223372036854775808*18446744073709551616^((ah B).length-1)<=B*2^s/\B*2^s<18446744073709551616^(ah B).length:=by
 obtain⟨d,h⟩:=P6 (A:=B) E;rw[o,agc]at d;have D:=gF (n:=B) E;have b:=mP B;obtain⟨a,g⟩:∃a,a=18446744073709551616^((ah B).length-1):=⟨_,W⟩;have w:2^(64*((ah B).length-1))=a:=by rw[g,agh]
 have u:18446744073709551616^(ah B).length=18446744073709551616*a:=by rw[g,aen,<-afi];congr 1;omega
 rw[w]at d h;rw[u]at b⊢;rw[<-g];have c:0<a:=E;have f:=afK B a;have q:=acN B c;rw[d]at f;have l:0<x:=by grind
 have e:x<18446744073709551616:=by rw[<-d,aeQ c];exact b
 have H:=AI (x:=x) E;have C:=yZ (x:=x) E;have z:=Ij x;have y:=acs e;have j:2^(bl x)*2^s=18446744073709551616:=by rw[<-afY];simp_all
 have i:2^(bl x-1)*2^s=9223372036854775808:=by rw[<-afY];grind
 have p:0<2^s:=ae6 fV;refine⟨E,y,?_,?_⟩;have t:9223372036854775808*a<=x*2^s*a:=acM _ (by rw[<-i];exact acM _ C);have r:x*2^s*a<=B*2^s:=by rw[af1,aen<|2^s,<-af1];exact acM _ (by grind)
 omega;have t:B*2^s<(x+1)*a*2^s:=Nat.mul_lt_mul_of_pos_right (by grind) p;have r:(x+1)*a*2^s<=18446744073709551616*a:=by rw[af1,aen a,<-af1];exact acM _ (by rw[<-j];exact acM _ z)
 omega
end
def FM(k:Nat):0<18446744073709551616^k:=ae6 fV
def EP(A k:Nat):A/18446744073709551616^k=A/18446744073709551616^(k+1)*18446744073709551616+A/18446744073709551616^k%18446744073709551616:=by rw[afi,<-af4];omega
def zO(R x Y:Nat)(hY:0<Y):(R*18446744073709551616+x)/Y=R/Y*18446744073709551616+(R%Y*18446744073709551616+x)/Y/\(R*18446744073709551616+x)%Y=(R%Y*18446744073709551616+x)%Y:=by have:=C2 18446744073709551616 0 R x Y hY;simpa using this
def MY{r x Y:Nat}(h:r<Y)(a:x<18446744073709551616):(r*18446744073709551616+x)/Y<18446744073709551616:=by rw[aeQ E];omega
def U2{A V m j d:Nat}(c:0<V)(e:j<m)(b:d=(A/18446744073709551616^(j+1)%V*18446744073709551616+A/18446744073709551616^j%18446744073709551616)/V):
 (fx m<|A/18446744073709551616^(j+1)/V*18446744073709551616^(j+1)).set j d=fx m (A/18446744073709551616^j/V*18446744073709551616^j):=by
 have a:d<18446744073709551616:=by rw[b];exact MY (acN _ c)<|acN _ fV
 rw[Wb e a,ahC _<|FM<|j+1,afi];have g:(A/(18446744073709551616^j*18446744073709551616)/V*18446744073709551616^j*18446744073709551616)%18446744073709551616^j=0:=by rw[af1,aen<|18446744073709551616^j,<-af1];simp_all
 have f:=(zO (A/18446744073709551616^(j+1)) (A/18446744073709551616^j%18446744073709551616) V c).1;rw[<-EP,<-b]at f
 grind
def uk(A V k:Nat):Nat:=A%18446744073709551616^k+18446744073709551616^k*(A/18446744073709551616^k%V)
def XP(A V:Nat):uk A V 0=A%V:=by simp[uk,Nat.mod_one]
def aa0{A V k:Nat}(h:A/18446744073709551616^k<V):uk A V k=A:=by unfold uk;rw[afz h];exact afK _ _
def P4(A V k:Nat):uk A V (k+1)=A%18446744073709551616^k+18446744073709551616^k*(A/18446744073709551616^(k+1)%V*18446744073709551616+A/18446744073709551616^k%18446744073709551616):=by
 unfold uk;rw[Nat.mod_pow_succ,afi,aht,af1,<-Nat.mul_add]
 congr 2
 omega
def aa1(A V k:Nat):uk A V (k+1)/18446744073709551616^k=A/18446744073709551616^(k+1)%V*18446744073709551616+A/18446744073709551616^k%18446744073709551616:=by rw[P4,agm _ _<|FM k,ae5<|acN _<|FM k,af0]
def XQ(A V k:Nat):uk A V k/18446744073709551616^k=A/18446744073709551616^k%V:=by unfold uk;rw[agm _ _<|FM k,ae5<|acN _<|FM k,af0]
def adV(A V k:Nat):fx k (uk A V k)=fx k A:=by unfold uk;rw[JA,wK]
def abZ(A V k:Nat):fx k (uk A V<|k+1)=fx k A:=by rw[P4,JA,wK]
def EO(A V m j:Nat)(h:2<=(ah V).length)(b:9223372036854775808<=(ah V).getD ((ah V).length-1) 0)(hm:m<2^48)(t:j+(ah V).length+1<=m):
 iQ prog 334 [ah9<|fx m<|uk A V<|j+1] [.bw 1000000 0 0 [.nF 1 j<|(ah V).length+1],fS<|ah V]
  [ah9<|fx m<|uk A V j] (.n .u64 ((A/18446744073709551616^(j+1)%V*18446744073709551616+A/18446744073709551616^j%18446744073709551616)/V:Nat)):=by
 have c:0<V:=by rcases aeg V with e|e;subst e;rw[c6]at h;cases h;exact e
 obtain⟨n,hn⟩:∃n,n=(ah V).length:=⟨_,W⟩;have d:=mP V;rw[<-hn]at d;obtain⟨r,k⟩:∃r,m=j+((n+1)+r):=⟨m-j-(n+1),E⟩;obtain⟨T,g⟩:∃T,T=A/18446744073709551616^(j+1)%V*18446744073709551616+A/18446744073709551616^j%18446744073709551616:=⟨_,W⟩;have o:=acN (A/18446744073709551616^(j+1)) c;have a:T<18446744073709551616^(n+1):=by omega
 have p:uk A V (j+1)/18446744073709551616^j=T:=by rw[aa1,g]
 have i:A/18446744073709551616^j%V=T%V:=by rw[g,<-(zO _ _ V c).2,<-EP]
 have f:T%V<18446744073709551616^(n+1):=afC (Nat.mod_le _ _) a;have s:fx m (uk A V<|j+1)=fx j A++fx (n+1) T++fx r 0:=by rw[k,lv,lv,p,abZ,ae5 a,acT]
 have q:fx m (uk A V j)=fx j A++fx (n+1) (T%V)++fx r 0:=by rw[k,lv,lv,XQ,adV,i,ae5 f,acT]
 have l:val (fx (n+1) T)=T:=XO a;have:=rP (fx j A) (fx (n+1) T) (fx r 0) V (by rw[gN,hn]) (Po _ _) h b E (by rw[gN,gN,gN];omega);rw[l,agc,gN,<-hn,<-q,<-s,g]at this;rw[<-hn];exact this
def sk(R s k:Nat):Nat:=R%18446744073709551616^k+18446744073709551616^k*(R*2^s/18446744073709551616^k)
def X9(R s:Nat):sk R s 0=R*2^s:=by simp[sk,Nat.mod_one]
def Uu(R s k:Nat):sk R s k/18446744073709551616^k=R*2^s/18446744073709551616^k:=by unfold sk;rw[agm _ _<|FM k,ae5<|acN _<|FM k,af0]
def abf(R s k:Nat):sk R s k%18446744073709551616^k=R%18446744073709551616^k:=by unfold sk;simp
def Qf(R s k:Nat):sk R s k/18446744073709551616^(k+1)=R*2^s/18446744073709551616^(k+1):=by rw[afi,<-af4,Uu,af4]
def adW(R s k:Nat):fx k (sk R s k)=fx k R:=by unfold sk;rw[JA,wK]
def Qe{R s m k d:Nat}(b:k<m)(c:d=R/18446744073709551616^k%18446744073709551616):(fx m<|sk R s k).set k d=fx m (sk R s<|k+1):=by
 have a:d<18446744073709551616:=E;rw[Wb b a,abf,Qf]
 conv=>rhs;unfold sk
 rw[Nat.mod_pow_succ]
 grind
def KS{R s k x y:Nat}(hs:s<64)(p:x=R*2^s/18446744073709551616^k%18446744073709551616)(d:y=R*2^s/18446744073709551616^(k+1)%18446744073709551616):
 (y*2^(64-s)%18446744073709551616)+x/2^s=R/18446744073709551616^k%18446744073709551616/\x/2^s<2^(64-s)/\y*2^(64-s)%18446744073709551616=y%2^s*2^(64-s):=by
 have b:0<2^s:=ae6 fV;have e:2^s*2^(64-s)=18446744073709551616:=by rw[<-afY];grind
 obtain⟨Z,f⟩:∃Z,Z=R*2^s/18446744073709551616^k:=⟨_,W⟩;have h:R/18446744073709551616^k=Z/2^s:=by rw[f,af4,aen<|18446744073709551616^k,<-af4,ahC _ b]
 rw[afi,<-af4,<-f]at d;rw[h];obtain⟨a,c⟩:∃a,a=Z/18446744073709551616:=⟨_,W⟩;rw[<-c]at d;have l:Z=x+18446744073709551616*a:=E;have o:Z/2^s=x/2^s+2^(64-s)*a:=by rw[l,<-e,af1,agm _ _ b]
 have g:x/2^s<2^(64-s):=by rw[aeQ b,aen];omega
 have n:y*2^(64-s)%18446744073709551616=y%2^s*2^(64-s):=by rw[<-e,ahB]
 have m:y%2^s=a%2^s:=by rw[d,<-e,Nat.mod_mul_right_mod]
 rw[n,m,o];have r:=afK a<|2^s;have i:=acN a b;have q:x/2^s+2^(64-s)*a=(a%2^s*2^(64-s)+x/2^s)+18446744073709551616*(a/2^s):=by grind
 have j:(a%2^s+1)*2^(64-s)<=2^s*2^(64-s):=acM _ i
 grind
theorem yE(A B:Nat)(hB:0<B)(hA:(ah A).length<2^40)(hBl:(ah B).length<2^40):
 ab 299 [fS<|ah A,fS<|ah B] (.bU [fS<|ah<|A/B,fS<|ah<|A%B]):=by
 have hb0:=gF (n:=B) E;refine cp func299 W<|ck W W (pC A B E E) W<|cm W W ?_ ?_<;>intro h;have hlt:A<B:=by unfold pD at h;split at h<;>omega
 refine b7 W W ⟨?_,aij (fS) ?_,U⟩;rw[ae5 hlt,c6];rfl;rw[afz hlt];have hge:B<=A:=by unfold pD at h;split at h<;>omega
 have hlen:=length_le hge;refine cm W W ?_ ?_<;>intro h1;have hl1:(ah B).length=1:=E;have hA0:0<(ah A).length:=gF E;have hBW:B<18446744073709551616:=by have:=mP B;simp_all
 have eA:(((ah A).length:Nat):Int).toNat=(ah A).length:=E;have hbd:(ah B).getD 0 0=B:=by rw[oF hB hBW];rfl
 refine r1 W bk<|loop (λk:Nat=>[(0,fS<|ah A),(1,fS<|ah B),(6,ah9<|fx (ah A).length<|A/18446744073709551616^k/B*18446744073709551616^k),(7,.n .u64 (A/18446744073709551616^k%B:Nat)),(8,.i<|(k:Int)-1)])
  (λk=>k<=(ah A).length) (λk=>k) (ah A).length (aaU _) ⟨G,G,⟨W,aij (ah9) ?_⟩,⟨W,aij (SV.n .u64) ?_⟩,G,U⟩ ?_
 rw[eA,ae5<|mP A,Nat.zero_div,Nat.zero_mul,Jz];rw[ae5<|mP A,Nat.zero_mod];rfl;intro k hk;refine cm W W ?_ ?_<;>intro h;obtain⟨j,rfl⟩:∃j,k=j+1:=⟨k-1,E⟩;have ej:(((j+1:Nat):Int)-1).toNat=j:=E;have hx:(ah A).getD j 0=((A/18446744073709551616^j%18446744073709551616:Nat):Int):=by rw[Q9 A];exact yu E
 have hr:=acN (A/18446744073709551616^(j+1)) hB;refine k1 W aP ?_ ?_;simp only[aj,aag,ej]<;>omega;have hd:=MY hr<|acN (A/18446744073709551616^j)<|show 0<18446744073709551616 from fV;refine TV (us:=[.n .u64 (A/18446744073709551616^(j+1)%B:Nat),.n .u64 (A/18446744073709551616^j%18446744073709551616:Nat),.n .u64 B]) W W U ⟨W,aaf (SV.n .u64)<|by rw[ej,hx],aaf (SV.n .u64) hbd,U⟩
  (BO _ _ B hr hBW<|acN _ fV) W<|k1 W aP ?_ ?_
 simp only[aj,aag,ej,gN]<;>omega;refine again j E E ⟨G,G,⟨W,aij (ah9) ?_⟩,⟨W,aij (SV.n .u64) ?_⟩,⟨W,aij (SV.n .i64) ?_⟩,U⟩;rw[ej];exact U2 hB E W;rw[<-(zO _ _ B hB).2,<-EP];omega;have hk0:k=0:=E;subst hk0;rw[Nat.pow_zero,Nat.div_one,Nat.mul_one];have hm:=acN A hB;refine ck W W (dK (fx (ah A).length<|A/B)<|by rw[gN];omega) W ?_;refine r0 W<|Gm (us:=[fS [((A%B:Nat):Int)]]) W W U ⟨aw.of_eq W,U⟩ (dK [((A%B:Nat):Int)] I) W<|b7 W W ⟨aij (fS) ?_,aij (fS) ?_,U⟩;exact yt<|afC (agi _ _)<|mP A;rw[eM λd hd=>by simp at hd;omega];rfl;obtain⟨x,hx,hxW⟩:=nr B<|(ah B).length-1;obtain⟨s,hs⟩:∃s,s=64-bl x:=⟨_,W⟩;obtain⟨n1,n2,n3,n4⟩:=Uc hB hx hs;have es:(64:Int)-(bl x:Int)=(s:Int):=E;have eL1:(((ah B).length:Int)-1).toNat=(ah B).length-1:=E;have hl2:(ah B).length=(ah B).length-2+2:=E;obtain⟨V,hV⟩:∃V,V=B*2^s:=⟨_,W⟩;obtain⟨X,hX⟩:∃X,X=A*2^s:=⟨_,W⟩;have hp2:0<2^s:=ae6 fV;have hVB:X/V=A/B/\X%V=A%B*2^s:=by rw[hX,hV];exact⟨ahA _ _ hp2,ahB _ _ _⟩
 rw[<-hV]at n3 n4;have hVlen:(ah V).length=(ah B).length:=by
  have:=MV (X:=V) (L:=(ah B).length-1) (by omega) (by grind)
  omega
 have hVtop:9223372036854775808<=(ah V).getD ((ah V).length-1) 0:=by
  rw[hVlen];have e:=yu (m:=(ah B).length) (v:=V) (j:=(ah B).length-1) E;rw[<-hVlen,<-Q9,hVlen]at e;rw[e];have hq:=FM<|(ah B).length-1;have h1:9223372036854775808<=V/18446744073709551616^((ah B).length-1):=by rw[ahO hq];exact n3
  have h2:V/18446744073709551616^((ah B).length-1)<18446744073709551616:=by
   rw[aeQ hq,aen,<-afi]
   grind
  omega
 have hV0:0<V:=by grind
 have htk:X/18446744073709551616^((ah A).length-(ah B).length+1)<V:=by
  rw[aeQ<|FM _];have h1:X<18446744073709551616^(ah A).length*2^s:=by rw[hX];exact Nat.mul_lt_mul_of_pos_right (mP A) hp2
  have h2:18446744073709551616^(ah A).length=18446744073709551616^((ah B).length-1)*18446744073709551616^((ah A).length-(ah B).length+1):=by rw[<-afY];congr 1;omega
  have h3:2^s<=9223372036854775808:=by have:=adi (show 0<2 from fV) (show s<=63 from E);exact this
  have h4:2^s*18446744073709551616^((ah B).length-1)<=V:=acI (acM _ h3) n3;have h5:=acM (18446744073709551616^((ah A).length-(ah B).length+1)) h4;have h6:18446744073709551616^(ah A).length*2^s=2^s*18446744073709551616^((ah B).length-1)*18446744073709551616^((ah A).length-(ah B).length+1):=by grind
  omega
 refine r1 W (by simp only[aj,aag,eL1]<;>omega) ?_;refine Gm (us:=[.n .u64 x]) W W U ⟨aaf (SV.n .u64)<|by rw[eL1,hx],U⟩ (D0 x hxW) W ?_;rw[es];refine ck W W (vC B s n1 hBl) W<|ck W W (dK (fx ((ah B).length+1)<|B*2^s)<|by rw[gN];omega) W ?_;rw[<-hV,yt (show V<18446744073709551616^((ah B).length+1) by omega)]
 refine ck W W (vC A s n1 hA) W ?_;rw[<-hX];refine r1 W bk ?_;rw[hVlen];have c1:(((ah A).length:Int)-((ah B).length:Int)+1).toNat=(ah A).length-(ah B).length+1:=E;refine loop (λk:Nat=>[(9,.i s),(10,fS<|ah V),(11,ah9<|fx ((ah A).length+1)<|uk X V k),(12,.i (ah B).length),(13,ah9<|fx ((ah A).length-(ah B).length+1)<|X/18446744073709551616^k/V*18446744073709551616^k),(14,.i<|(k:Int)-1)])
  (λk=>k<=(ah A).length-(ah B).length+1) (λk=>k) ((ah A).length-(ah B).length+1) (aaU _) ⟨G,G,⟨W,aij (ah9) ?_⟩,G,⟨W,aij (ah9) ?_⟩,⟨W,aij (SV.n .i64) ?_⟩,U⟩ ?_
 rw[aa0 htk];rw[c1,ae5 htk,Nat.zero_mul,Jz];omega;intro k hk;refine cm W W ?_ ?_<;>intro h;obtain⟨j,rfl⟩:∃j,k=j+1:=⟨k-1,E⟩;have ej:(((j+1:Nat):Int)-1)=(j:Int):=E;rw[ej];refine rno 12 W bk<|wn W W ?_ ?_;simp only[aj,app,aag,gN]<;>omega;refine r0 W<|cr W W (iQ.same (EO X V ((ah A).length+1) j E hVtop E E) W ?_ W W) W ?_;show aB [_,_]=aB [SV.bw 1000000 0 0 [Step.nF 1 (j:Int).toNat<|((j:Int)+((ah B).length:Int)+1).toNat-(j:Int).toNat],SV.ints IntKind.u64 false<|ah V]
 grind
 refine r1 W (by simp only[aj,aag,gN]<;>omega) ?_;refine again j E E ⟨G,G,G,G,⟨W,aij (ah9) ?_⟩,G,U⟩;rw[agc];exact U2 hV0 E W;have hk0:k=0:=E;subst hk0;rw[Nat.pow_zero,Nat.div_one,Nat.mul_one,XP,hVB.1,hVB.2];have hRB:=acN A hB;refine b9 W (λk:Nat=>[(9,.i s),(11,ah9<|fx ((ah A).length+1)<|sk (A%B) s k),(12,.i (ah B).length),(13,ah9<|fx ((ah A).length-(ah B).length+1)<|A/B),(96,.i (ah B).length),(97,.i k)])
  (λk=>k<=(ah B).length) (λk=>(ah B).length-k) 0 (aaQ _) ⟨G,⟨W,aij (ah9)<|by rw[X9]⟩,G,G,G,G,U⟩ ?_
 intro k hk;have ek:(k:Int).toNat=k:=E;refine cm W W ?_ ?_<;>intro h;obtain⟨x,hx⟩:∃x,x=A%B*2^s/18446744073709551616^k%18446744073709551616:=⟨_,W⟩;obtain⟨y,hy⟩:∃y,y=A%B*2^s/18446744073709551616^(k+1)%18446744073709551616:=⟨_,W⟩;obtain⟨d1,d2,d3⟩:=KS n1 hx hy;have gx:(fx ((ah A).length+1)<|sk (A%B) s k).getD k 0=x:=by rw[yu E,Uu,<-hx]
 have gy:(fx ((ah A).length+1)<|sk (A%B) s k).getD (k+1) 0=y:=by rw[yu E,Qf,<-hy]
 refine r1 W (by simp only[aj,app,aag,gN]<;>omega) ?_;have hshr:((x:Nat):Int).fdiv (2^min ((s:Nat):Int).toNat IntKind.u64.bits)=((x/2^s:Nat):Int):=Yb x s E;refine aF 109 W ?_ ?_<;>intro h;refine r1 W (by simp only[aj,app,aag]<;>omega) ?_;refine bY W ?_ ?_<;>intro h2;have hsub:((64:Int)-(s:Int))=((64-s:Nat):Int):=E;refine k1 W aP (by simp only[aj,app,aag,afL,gN]<;>omega) ?_;refine again (k+1) E E ⟨G,⟨W,aij (ah9) ?_⟩,G,G,G,G,U⟩;have g2:((fx ((ah A).length+1)<|sk (A%B) s k).set k ((x/2^s:Nat):Int)).getD (k+1) 0=y:=by grind
 rw[ek,gx,hshr,F6<|by rw[gN];omega,show((k:Int)+1).toNat=k+1 from E,g2,hsub,Uw y (64-s) E,d3,ads (y%2^s) (x/2^s) (64-s) E d2,List.set_set];exact Qe E (by rw[<-d3,d1]);rw[afL,gN]at h2;exact aaF E h2;have hs0:s=0:=E;refine r1 W (by simp only[aj,app,aag]<;>omega) ?_;refine again (k+1) E E ⟨G,⟨W,aij (ah9) ?_⟩,G,G,G,G,U⟩;rw[ek,gx,hshr];refine Qe E ?_;rw[hx,hs0];simp;have hk:k=(ah B).length:=E;subst hk;refine k1 W aP (by simp only[aj,app,aag,gN]<;>omega) ?_;have t1:dp (fx ((ah A).length-(ah B).length+1)<|A/B)=ah (A/B):=by apply yt;rw[<-hVB.1,aeQ hV0,aen];rw[aeQ<|FM _]at htk;exact htk
 have t2:dp ((fx ((ah A).length+1)<|sk (A%B) s (ah B).length).take (ah B).length)=ah (A%B):=by rw[Zm E,adW];exact yt<|agz hRB<|mP B
 refine bX W (dK _<|by rw[gN];omega) W ?_;rw[t1];refine k1 W aP (by simp only[aj,app,aag,gN]<;>omega) ?_;refine TV (us:=[fS<|(fx ((ah A).length+1)<|sk (A%B) s (ah B).length).take (ah B).length]) W W U ⟨aij (fS) ?_,U⟩ (dK _<|by grind) W ?_;simp;rw[t2];refine k0 W aP<|aH W ⟨aw.of_eq W,aw.of_eq W,U⟩
def i1:Nm:=⟨1,none⟩
def Pk(a b:Nm):Nm×Nm:=
 if a.w=none/\b.w=none/\a.s≠ -9223372036854775808 then(⟨a.s/b.s,none⟩,⟨a.s%b.s,none⟩)
 else if a.s<0/\(nv a).natAbs%(nv b).natAbs≠0 then(KE (tq (decide (a.s<0))<|(nv a).natAbs/(nv b).natAbs) i1,ze (tq (decide (a.s<0))<|(nv a).natAbs%(nv b).natAbs) b)
 else(tq (decide (a.s<0))<|(nv a).natAbs/(nv b).natAbs,tq (decide (a.s<0))<|(nv a).natAbs%(nv b).natAbs)
def aaw:bu i1:=⟨fV,fV⟩
def adU:nv i1=1:=W
def aav{K:Nat}(h:1<=K):gj i1 K:=acI (gm fV) h
def rj{a b q r:Int}(f:0<b)(h:q*b+r=a)(d:0<=r)(c:r<b):a/b=q/\a%b=r:=by
 have e:a=r+b*q:=by grind
 subst e;rw[Int.add_mul_ediv_left _ _ E,Int.add_mul_emod_self_left,Int.ediv_eq_zero_of_lt d c,Int.emod_eq_of_lt d c];simp_all
def yD(a b:Nm)(l:bu a)(k:bu b)(d:0<nv b):(nv (Pk a b).1=nv a/nv b/\bu (Pk a b).1)/\(nv (Pk a b).2=nv a%nv b/\bu (Pk a b).2):=by
 have i:=jS a l;have x:0<(nv b).natAbs:=E;have u:=afK (nv a).natAbs (nv b).natAbs;have p:=acN (nv a).natAbs x;have hc:((nv b).natAbs:Int)=nv b:=E;have j:(((nv a).natAbs%(nv b).natAbs:Nat):Int)+nv b*(((nv a).natAbs/(nv b).natAbs:Nat):Int)=((nv a).natAbs:Int):=by grind
 unfold Pk;split;rename_i g;obtain⟨s,w⟩:=a;obtain⟨t,v⟩:=b;obtain⟨rfl,rfl,H⟩:w=none/\v=none/\s≠_:=g;have hs: -9223372036854775808<=s/\s<=9223372036854775807:=l;have A: -9223372036854775808<=t/\t<=9223372036854775807:=k;have d:0<t:=d;have F:=age s (show t≠0 from E);have D:=agf s d;refine⟨⟨W,?_⟩,⟨W,?_⟩⟩;show -9223372036854775808<=s/t/\s/t<=9223372036854775807;constructor;have:s<=s/t\/0<=s/t:=by
  rcases agw s 0 with g|g;left;have C:s/t<0:=Int.ediv_neg_of_neg_of_pos g d;have y:=Int.le_ediv_of_mul_le d (show s*t<=s by
   have B: -s*1<= -s*t:=aez (show 1<=t from E) (show 0<= -s from E)
   grind)
  exact y;right;exact agN g E
 omega;have:s/t<=s\/s/t<=0:=by rcases agw s 0 with g|g;right;have:=Int.ediv_neg_of_neg_of_pos g d;omega;left;exact Int.ediv_le_self _ g
 omega;show -9223372036854775808<=s%t/\s%t<=9223372036854775807;omega;have h:=nZ (decide (a.s<0))<|(nv a).natAbs/(nv b).natAbs;have n:=qw (decide (a.s<0))<|(nv a).natAbs/(nv b).natAbs;have f:=nZ (decide (a.s<0))<|(nv a).natAbs%(nv b).natAbs;have m:=qw (decide (a.s<0))<|(nv a).natAbs%(nv b).natAbs;generalize tq (decide (a.s<0)) ((nv a).natAbs/(nv b).natAbs)=c at*;generalize tq (decide (a.s<0)) ((nv a).natAbs%(nv b).natAbs)=R at*;generalize (nv a).natAbs/(nv b).natAbs=q at*;generalize (nv a).natAbs%(nv b).natAbs=r at*;split;rename_i g;obtain⟨g1,g2⟩:=g;obtain⟨z,M⟩:=zr c i1 n aaw;obtain⟨K,J⟩:=lD R b m k;rw[aas<|by simpa using g1]at h f;have e:nv a<0:=i.1.1 g1;have:=rj (a:=nv a) (b:=nv b) (q:= -(q:Int)-1) (r:= -(r:Int)+nv b) d (by grind) E E;rw[adU]at z;simp_all;rename_i g;by_cases g1:a.s<0;have g2:r=0:=by omega
 rw[aas<|by simpa using g1]at h f;have e:nv a<0:=i.1.1 g1;subst g2;have:=rj (a:=nv a) (b:=nv b) (q:= -(q:Int)) (r:=0) d (by grind) E E;simp_all;rw[aaq<|by simpa using g1]at h f;have o:0<=nv a:=by omega
 have:=rj (a:=nv a) (b:=nv b) (q:=(q:Int)) (r:=r) d (by grind) E E;simp_all
def NY{a b:Int}(c:0<b):(a.tmod b<0->a/b=a.tdiv b-1/\a%b=a.tmod b+b)/\(0<=a.tmod b->a/b=a.tdiv b/\a%b=a.tmod b)/\ -b<a.tmod b/\a.tmod b<b/\a.natAbs/b.natAbs=(a.tdiv b).natAbs:=by
 have key:a.tdiv b*b+a.tmod b=a/\ -b<a.tmod b/\a.tmod b<b/\a.natAbs/b.natAbs=(a.tdiv b).natAbs:=by
  rcases agw a 0 with g|g;obtain⟨n,rfl⟩:∃n:Nat,a= -(n:Int):=⟨a.natAbs,E⟩;obtain⟨m,rfl⟩:∃m:Nat,b=(m:Int):=⟨b.natAbs,E⟩;rw[Int.neg_tdiv,Int.neg_tmod,ahe E,Int.tmod_eq_emod_of_nonneg E,<-ahP,Int.neg_mul];have e:=Nat.div_add_mod n m;have d:=acN n (show 0<m from E)
  grind
  obtain⟨n,rfl⟩:∃n:Nat,a=(n:Int):=⟨a.natAbs,E⟩;obtain⟨m,rfl⟩:∃m:Nat,b=(m:Int):=⟨b.natAbs,E⟩;rw[ahe E,Int.tmod_eq_emod_of_nonneg E,<-ahP];have e:=Nat.div_add_mod n m;have d:=acN n (show 0<m from E)
  grind
 obtain⟨k1,k2,k3,k4⟩:=key;refine⟨λh=>?_,λh=>?_,k2,k3,k4⟩;exact rj c (by rw[agR];omega) E E;exact rj c k1 h k3
def EN(a b:Nm)(e:bu a)(d:bu b)(h0:0<nv b){K:Nat}(l:gj a K)(u:gj b K)(hK:K<2^38):
 ab 282 [eN a,eN b] (.bU [eN (Pk a b).1,eN (Pk a b).2]):=by
 have t:=vT e;have s:=vT d;have X:=jS a e;have V:=jS b d;have M:0<(nv b).natAbs:=E;have A:=I5 a e;have z:=I5 b d;have J:=yE (nv a).natAbs (nv b).natAbs M (by have:(ah (nv a).natAbs).length<=K:=l;omega) (by have:(ah (nv b).natAbs).length<=K:=u;omega);have lq:(ah<|(nv a).natAbs/(nv b).natAbs).length<=K:=acI (mD _ _) l;have lr:(ah<|(nv a).natAbs%(nv b).natAbs).length<=K:=acI (length_le<|Nat.mod_le _ _) l;refine cp func282 W<|cQ 2 [(2,.box true<|eN a),(3,.box true<|eN b),(4,.box true<|.agg [.i 0,.nil]),(5,.box true<|.agg [.i 0,.nil])] (¬(a.w=none/\b.w=none/\a.s≠ -9223372036854775808)) ?_ λH=>?_;refine b6 W 19 W ?_ ?_<;>intro g1;refine b6 W 24 W ?_ ?_<;>intro g2;have T:=t.1 g1;have S:=s.1 g2;refine cm W W ?_ ?_<;>intro f;have f:a.s≠ -9223372036854775808:=f;have n:Pk a b=(⟨a.s/b.s,none⟩,⟨a.s%b.s,none⟩):=by unfold Pk;simp_all
 rw[n];have hs: -9223372036854775808<=a.s/\a.s<=9223372036854775807:=by unfold bu at e;rw[T]at e;exact e
 have ht: -9223372036854775808<=b.s/\b.s<=9223372036854775807:=by unfold bu at d;rw[S]at d;exact d
 have o:0<b.s:=fP;refine kw [33,38] W aP ?_ ?_;simp only[aj,aag];omega;obtain⟨P,O,f3,f4,N⟩:=NY (a:=a.s) o;have D:(a.s.tdiv b.s).natAbs<=a.s.natAbs:=by rw[<-N];exact agi _ _
 have F: -9223372036854775808<a.s.tdiv b.s/\a.s.tdiv b.s<=9223372036854775807:=E;have C:IntKind.i64.wrap (a.s.tdiv b.s)=a.s.tdiv b.s:=by rw[wrI];omega
 rw[C];refine bY W ?_ ?_<;>intro h;obtain⟨q,p⟩:=P h;refine k1 W aP bk<|aH W ⟨⟨aij SV.i q.symm,W,U⟩,⟨aij SV.i p.symm,W,U⟩,U⟩;obtain⟨q,p⟩:=O E;refine k1 W aP bk<|aH W ⟨⟨aij SV.i q.symm,W,U⟩,⟨aij SV.i p.symm,W,U⟩,U⟩;have f:¬a.s≠ -9223372036854775808:=f;refine r0 W<|bm λg=>f g.2.2;refine r0 W<|bm λg=>g2<|s.2 g.2.1;refine r0 W<|bm λg=>g1<|t.2 g.1;unfold Pk;rw[aaq H];have v:decide (a.s<0)=decide (nv a<0):=fP;have Z:=nZ (decide (a.s<0))<|(nv a).natAbs/(nv b).natAbs;have y:=qw (decide (a.s<0))<|(nv a).natAbs/(nv b).natAbs;have Y:=nZ (decide (a.s<0))<|(nv a).natAbs%(nv b).natAbs;have r:=qw (decide (a.s<0))<|(nv a).natAbs%(nv b).natAbs;have m1:=Vy (decide (a.s<0)) ((nv a).natAbs/(nv b).natAbs) E;have B:=Vy (decide (a.s<0)) ((nv a).natAbs%(nv b).natAbs) E;have j:nv (tq (decide (a.s<0))<|(nv a).natAbs%(nv b).natAbs)<0↔(a.s<0/\(nv a).natAbs%(nv b).natAbs≠0):=by grind
 have x:gj (tq (decide (a.s<0))<|(nv a).natAbs/(nv b).natAbs) (K+1):=by unfold gj;grind
 have w:gj (tq (decide (a.s<0))<|(nv a).natAbs%(nv b).natAbs) (K+1):=by unfold gj;grind
 refine ck W W A W<|ck W W z W<|ck W W J W<|ck W W m1 W<|ck W W B W<|r0 W ?_;have m:=zA _ r;have i:=aab _ i1 y aaw x (aav E) E;have k:=Rz _ b r d w (acI u<|agt _) E;generalize tq (decide (a.s<0)) ((nv a).natAbs/(nv b).natAbs)=c at*;generalize tq (decide (a.s<0)) ((nv a).natAbs%(nv b).natAbs)=R at*;refine bW W m W<|cm W W ?_ ?_<;>intro h;have h:(nv R).sign<0:=h;rw[aas<|j.1<|afI.1 h];refine cj W W (Jc 1) W<|cj W W i W<|cj W W k W<|k0 W aP<|bV W;have h:¬(nv R).sign<0:=h;rw[aaq λg=>h<|afI.2<|j.2 g];refine k0 W aP<|bV W
section
variable{K:Nat}{a:Nm}
def dS{L:Nat}(h:gj a K)(hl:K<=L):gj a L:=acI h hl
def zR{b:Nm}(h:(nv b).natAbs<=(nv a).natAbs)(c:gj a K):gj b K:=acI (length_le h) c
def FR(a b:Nm):Nm:=if nv b<0 then(Pk (jd a)<|jd b).1 else(Pk a b).1
def zJ(a b:Nm)(e:bu a)(d:bu b)(h:nv b≠0)(f:nv b∣nv a):nv (FR a b)=nv a/nv b/\bu (FR a b):=by unfold FR;split;rename_i g;obtain⟨n,m⟩:=dP a e;obtain⟨l,k⟩:=dP b d;obtain⟨⟨j,i⟩,-⟩:=yD (jd a) (jd b) m k E;refine⟨?_,i⟩;rw[j,n,l];obtain⟨c,hc⟩:=f;rw[hc,<-Int.neg_mul,Int.mul_ediv_cancel_left _ E,Int.mul_ediv_cancel_left _ h];exact(yD a b e d E).1
def aak(a b:Nm)(e:bu a)(d:bu b)(o:nv b≠0)(i:gj a K)(f:gj b K)(l:K<2^38):ab 254 [eN a,eN b] (eN<|FR a b):=by have hs:=zA b d;have k:=Hm a e i E;have j:=Hm b d f E;obtain⟨q,n⟩:=dP a e;obtain⟨p,m⟩:=dP b d;unfold FR;refine cp func254 W<|ck W W hs W<|cm W W ?_ ?_<;>intro h;have h:(nv b).sign<0:=h;have h:=afI.1 h;have c:=EN (jd a) (jd b) n m E (nY e i) (nY d f) l;rw[aas h];refine cj W W k W<|cj W W j W<|k0 W aP<|bW W c W<|cg W W;have h:¬(nv b).sign<0:=h;have h:¬nv b<0:=λg=>h<|afI.2 g;have c:=EN a b e d E i f l;rw[aaq h];refine ck W W c W<|cg W W
def vK:Nat->Nm->Nm->Nm
 |0,a,_=>a
 |k+1,a,b=>if nv b=0 then a else vK k b (Pk a b).2
def O6(k:Nat)(a b:Nm)(h:nv b=0):vK k a b=a:=by
 cases k with
 |zero=>rfl
 |succ k=>unfold vK;rw[aas h]
def Eh:∀(k:Nat)(a b:Nm){K:Nat},bu a->bu b->0<=nv a->0<=nv b->(nv b).natAbs<=k->gj a K->gj b K->nv (vK k a b)=(Int.gcd (nv a) (nv b):Nat)/\bu (vK k a b)/\gj (vK k a b) K
 |0,a,b,K,c,f,i,g,m,e,d=>by have:nv b=0:=E;refine⟨?_,c,e⟩;show nv a=_;rw[this,Int.gcd_zero_right];omega
 |k+1,a,b,K,c,f,i,g,m,e,d=>by unfold vK;split;rename_i h;refine⟨?_,c,e⟩;rw[h,Int.gcd_zero_right];omega;rename_i h;obtain⟨-,r,q⟩:=yD a b c f E;have t:=age (nv a) h;have s:=agf (nv a) (show 0<nv b from E);obtain⟨p,o,n⟩:=Eh k b (Pk a b).2 f q g E E d<|zR (a:=b) E d;refine⟨?_,o,n⟩;rw[p,r];rw[Int.gcd_comm<|nv a,ahD,ahD];obtain⟨x,l⟩:∃x:Nat,nv a=x:=⟨(nv a).toNat,E⟩;obtain⟨y,j⟩:∃y:Nat,nv b=y:=⟨(nv b).toNat,E⟩;rw[l,j,<-Int.natCast_emod,ag3,ag3,ag3];rw[agx y<|x%y,<-Nat.gcd_rec]
def pH(a b:Nm):Nm:=vK (nv b).natAbs (AP a)<|AP b
def CU(h:bu a)(l:gj a K):gj (AP a) K:=by unfold gj at *;rw[(oH a h).1];exact l
def Ag(a b:Nm)(d:bu a)(c:bu b)(f:gj a K)(e:gj b K):nv (pH a b)=(Int.gcd (nv a) (nv b):Nat)/\bu (pH a b)/\gj (pH a b) K:=by obtain⟨j,i⟩:=oH a d;obtain⟨h,g⟩:=oH b c;have:=Eh (nv b).natAbs (AP a) (AP b) i g E E E (CU d f)<|CU c e;refine⟨?_,this.2⟩;rw[pH,this.1,j,h];rfl
def aax(a b:Nm)(m:bu a)(l:bu b)(o:gj a K)(n:gj b K)(s:K<2^38):ab 217 [eN a,eN b] (eN<|pH a b):=by
 have hA:=aaN a m o E;have t:=aaN b l n E;obtain⟨F,w⟩:=oH a m;obtain⟨D,v⟩:=oH b l;refine cp func217 W<|cj W W hA W<|cj W W t W<|k0 W aP<|pV (λ(k:Nat)(x y:Nm)=>[(2,.box true<|eN x),(3,.box true<|eN y),(4,.box true<|.agg [.i 0,.nil])])
  (λk x y=>bu x/\bu y/\0<=nv x/\0<=nv y/\gj x K/\gj y K/\(nv y).natAbs<=k/\vK k x y=pH a b) (λk _ _=>k) (nv b).natAbs (AP a) (AP b)
  ⟨w,v,E,E,CU m o,CU l n,E,W⟩ ⟨G,G,G,U⟩ ?_
 rintro k x y⟨p,e,x0,q,r,f,z,d⟩;have hs:=zA y e;refine ck W W hs W<|cm W W ?_ ?_<;>intro h;have h:(nv y).sign≠0:=h;have c:nv y≠0:=λg=>h (by rw[g];rfl);obtain⟨i,rfl⟩:∃i,k=i+1:=⟨k-1,E⟩;obtain⟨-,C,u⟩:=yD x y p e E;have B:=age (nv x) c;have A:=agf (nv x) (show 0<nv y from E);have j:=EN x y p e E r f s;unfold vK at d;rw[aaq c]at d;refine ck W W j W<|k0 W aP<|aM (i,y,(Pk x y).2) ⟨e,u,q,by dsimp only;omega,f,zR (a:=y) (by dsimp only;omega) f,by dsimp only;omega,d⟩;have h:¬(nv y).sign≠0:=h;have c:nv y=0:=ahE.1 E;rw[O6 _ _ _ c]at d;rw[<-d];refine cg W W
end
def Qm{a b:Nm}(f:bu a)(e:bu b)(g:nv b≠0)(d:nv b∣nv a){K:Nat}(c:gj a K):gj (FR a b) K:=by refine zR ?_ c;rw[(zJ a b f e g d).1];exact Int.natAbs_ediv_le_natAbs _ _
def mkG(n d:Nm):Fr:=if d.w=none/\d.s=1 then⟨n,d⟩else⟨FR n<|pH n d,FR d<|pH n d⟩
def XD(n d:Nm):Fr:=if nv d<0 then mkG (jd n) (jd d)else mkG n d
def mc(f:Fr)(K:Nat):Prop:=gj f.n K/\gj f.d K
def Mu{f:Fr}{K L:Nat}(h:mc f K)(hl:K<=L):mc f L:=⟨dS h.1 hl,dS h.2 hl⟩
def LC(n d:Nm)(hn:bu n)(h:bu d)(q:0<nv d){K:Nat}(i:gj n K)(j:gj d K):cL (mkG n d) (Rat.divInt (nv n)<|nv d)/\mc (mkG n d) K:=by
 have a:=Rat.num_divInt (nv n)<|nv d;have b:=Rat.den_divInt (nv n)<|nv d;rw[ah0 q,Int.one_mul]at a;rw[aaq E]at b;unfold mkG;split;rename_i g;have k:=(jS d h).2 g.1;rw[g.2]at k;refine⟨⟨hn,h,?_,?_⟩,i,j⟩;rw[a,k];simp;rw[b,k];simp;obtain⟨g1,g2,r⟩:=Ag n d hn h i j;have c:nv (pH n d)≠0:=by have:=Int.gcd_pos_of_ne_zero_right (nv n) (show nv d≠0 from E);omega
 have e:nv (pH n d)∣nv n:=by rw[g1];exact Int.gcd_dvd_left ..
 have f:nv (pH n d)∣nv d:=by rw[g1];exact Int.gcd_dvd_right ..
 obtain⟨p,o⟩:=zJ n (pH n d) hn g2 c e;obtain⟨m,l⟩:=zJ d (pH n d) h g2 c f;refine⟨⟨o,l,?_,?_⟩,Qm hn g2 c e i,Qm h g2 c f j⟩;show nv (FR n<|pH n d)=_;rw[p,g1,a,Int.gcd_comm];show nv (FR d<|pH n d)=_;rw[m,b,Int.gcd_comm,ahP]
 congr 1;omega
def DJ(n d:Nm)(hn:bu n)(a:bu d)(j:nv d≠0){K:Nat}(b:gj n K)(c:gj d K):cL (XD n d) (Rat.divInt (nv n)<|nv d)/\mc (XD n d) K:=by unfold XD;split;rename_i g;obtain⟨i,h⟩:=dP n hn;obtain⟨f,e⟩:=dP d a;have:=LC (jd n) (jd d) h e E (nY hn b)<|nY a c;rw[i,f,Rat.neg_divInt_neg]at this;exact this;exact LC n d hn a E b c
def OL(n d:Nm)(hn:bu n)(b:bu d)(B:nv d≠0){K:Nat}(i:gj n K)(j:gj d K)(o:K<2^38):ab 179 [eN n,eN d] (eF<|XD n d):=by
 have hs:=zA d b;have l:=Hm n hn i E;have m:=Hm d b j E;obtain⟨D,z⟩:=dP n hn;obtain⟨C,w⟩:=dP d b;refine cp func179 W<|yI 2 (λ(x y:Nm)=>[(2,.box true<|eN x),(3,.box true<|eN y),(4,.box true<|.agg [.i 0,.nil,.i 0,.nil])]) (λx y=>bu x/\bu y/\0<nv y/\gj x K/\gj y K/\mkG x y=XD n d) ?_ ?_;refine ck W W hs W<|cm W W ?_ ?_<;>intro h;have h:(nv d).sign<0:=h;have h:=afI.1 h;refine cj W W l W<|cj W W m W<|k0 W aP<|fL (jd n,jd d) ⟨z,w,by dsimp only;omega,nY hn i,nY b j,by unfold XD;rw[aas h]⟩;have h:¬(nv d).sign<0:=h;have h:¬nv d<0:=λg=>h<|afI.2 g;refine r0 W<|fL (n,d) ⟨hn,b,by dsimp only;omega,i,j,by unfold XD;rw[aaq h]⟩;rintro x y⟨k,c,A,f,e,v⟩;rw[<-v];have p:=vT c;have u:=aax x y k c f e o;obtain⟨g1,g2,r⟩:=Ag x y k c f e;have a:nv (pH x y)≠0:=by rw[g1];have:=Int.gcd_pos_of_ne_zero_right (nv x) (show nv y≠0 from E);omega
 have t:=aak x (pH x y) k g2 a f r o;have s:=aak y (pH x y) c g2 a e r o;refine cQ 1 [(2,.box true<|eN x),(3,.box true<|eN y),(4,.box true<|.agg [.i 0,.nil,.i 0,.nil])] (¬(y.w=none/\y.s=1)) ?_ λhc=>?_;refine b6 W 16 W ?_ ?_<;>intro g;refine cm W W ?_ ?_<;>intro h;have h:y.s=1:=h;unfold mkG;rw[aas ⟨p.1 g,h⟩];refine cg W W;have h:¬y.s=1:=h;refine r0 W<|bm λq=>h q.2;refine r0 W<|bm λq=>g<|p.2 q.1;unfold mkG;rw[aaq hc];refine ck W W u W<|cj W W t W<|cj W W s W<|k0 W aP<|bV W
section
variable{f:Fr}{K L:Nat}{p q:Rat}
def MB(h:cL f q):0<nv f.d:=by rw[h.vd];have:=q.den_pos;omega
def zY(f:Fr)(h:cL f q):ab 259 [eF f] (.u<|decide (f.d.w=none/\f.d.s=1)):=by have a:=vT h.d;refine cp func259 W<|b6 W 7 W ?_ ?_<;>intro g;refine b7 W W<|aij SV.u ?_;simp_all;refine b7 W W<|(decide_eq_false λh=>g<|a.2 h.1).symm
def JK(f g:Fr)(b:cL f p)(a:cL g q)(d:mc f K)(c:mc g L)(m:K+L<2^38):ab 212 [eF f,eF g] (.i (p.num*q.den-q.num*p.den).sign):=by have m1:=sX f.n g.d b.n a.d d.1 c.2 E;have e:=sX g.n f.d a.n b.d c.1 d.2 E;obtain⟨l,k⟩:=dh f.n g.d b.n a.d;obtain⟨j,h⟩:=dh g.n f.d a.n b.d;have hc:=WR _ _ k h (gT b.n a.d d.1 c.2) (dS (gT a.n b.d c.1 d.2) E) (show K+L<2^39 from E);rw[l,j,b.vn,b.vd,a.vn,a.vd]at hc;refine cp func212 W<|cj W W m1 W<|cj W W e W<|bX W hc W<|k0 W aP<|bV W
def KC(p q:Rat):(p.num*q.den-q.num*p.den).sign=if p<q then -1 else if q<p then 1 else 0:=by
 have b:=Rat.lt_iff p q;have a:=Rat.lt_iff q p
 grind
def Zo(f g:Fr)(d:cL f p)(c:cL g q)(b:mc f K)(a:mc g L)(h:K+L<2^38):ab 169 [eF f,eF g] (.u<|decide (p=q)):=by
 have hc:=JK f g d c b a h;have e:=KC p q;refine cp func169 W<|ck W W hc W<|b7 W W<|aij SV.u ?_
 grind
def jH(f g:Fr):Fr:=XD (kf f.n g.n)<|kf f.d g.d
def qX(f g:Fr)(b:cL f p)(a:cL g q)(d:mc f K)(c:mc g L):cL (jH f g) (p*q)/\mc (jH f g) (K+L):=by obtain⟨j,i⟩:=dh f.n g.n b.n a.n;obtain⟨h,e⟩:=dh f.d g.d b.d a.d;have k:=afW (MB b)<|MB a;have:=DJ (kf f.n g.n) (kf f.d g.d) i e E (gT b.n a.n d.1 c.1)<|gT b.d a.d d.2 c.2;rw[j,h,b.vn,b.vd,a.vn,a.vd,sn]at this;exact this
def lY(f g:Fr)(b:cL f p)(a:cL g q)(d:mc f K)(c:mc g L)(j:K+L<2^38):ab 88 [eF f,eF g] (eF<|jH f g):=by have m1:=sX f.n g.n b.n a.n d.1 c.1 E;have e:=sX f.d g.d b.d a.d d.2 c.2 E;obtain⟨m,i⟩:=dh f.n g.n b.n a.n;obtain⟨l,h⟩:=dh f.d g.d b.d a.d;have k:=afW (MB b)<|MB a;have hm:=OL _ _ i h E (gT b.n a.n d.1 c.1) (gT b.d a.d d.2 c.2) E;refine cp func88 W<|cj W W m1 W<|cj W W e W<|bX W hm W<|k0 W aP<|bV W
def abU(f:Fr):Fr:=XD f.d f.n
def S7(f:Fr)(a:cL f p)(c:p≠0)(b:mc f K):cL (abU f) p⁻¹ /\mc (abU f) K:=by
 have hn:nv f.n≠0:=by rw[a.vn];simp_all
 have:=DJ f.d f.n a.d a.n hn b.2 b.1;rw[a.vn,a.vd,<-Rat.inv_def]at this;exact this
def ab4(f:Fr)(a:cL f p)(d:p≠0)(b:mc f K)(c:K<2^38):ab 107 [eF f] (eF<|abU f):=by
 have hn:nv f.n≠0:=by rw[a.vn];simp_all
 have hm:=OL f.d f.n a.d a.n hn b.2 b.1 c;refine cp func107 W<|ck W W hm W<|cg W W
def Zc(f:Fr):Prop:=f.d.w=none/\f.d.s=1
instance(f:Fr):Decidable (Zc f):=by unfold Zc;infer_instance
def QD(a:cL f p)(h:Zc f):p.den=1:=by have:=(jS f.d a.d).2 h.1;rw[h.2,a.vd]at this;omega
def tl(f g:Fr):Fr:=if Zc f/\Zc g then⟨ze f.n g.n,⟨1,none⟩⟩else XD (ze (kf f.n g.d)<|kf g.n f.d) (kf f.d g.d)
def Io(f g:Fr)(b:cL f p)(a:cL g q)(d:mc f K)(c:mc g L):cL (tl f g) (p+q)/\mc (tl f g) (K+L+1):=by unfold tl;split;rename_i h;obtain⟨i,e⟩:=lD f.n g.n b.n a.n;have t:=QD b h.1;have s:=QD a h.2;have hs:=pE p q;rw[t,s]at hs;have hn:=Rat.num_divInt (p.num*(1:Nat)+q.num*(1:Nat))<|((1:Nat):Int)*((1:Nat):Int);have j:=Rat.den_divInt (p.num*(1:Nat)+q.num*(1:Nat))<|((1:Nat):Int)*((1:Nat):Int);rw[hs]at hn j;refine⟨⟨e,I9,?_,?_⟩,?_,?_⟩;show nv (ze f.n g.n)=_;rw[i,b.vn,a.vn,hn];simp;show(1:Int)=_;rw[j];simp;exact dS (Kg b.n a.n (dS d.1<|show K<=K+L from E)<|dS c.1<|show L<=K+L from E) E;exact aav E;obtain⟨i,e⟩:=dh f.n g.d b.n a.d;obtain⟨r,k⟩:=dh g.n f.d a.n b.d;obtain⟨o,n⟩:=dh f.d g.d b.d a.d;obtain⟨m,l⟩:=lD _ _ e k;have u:=afW (MB b)<|MB a;have:=DJ _ _ l n E (Kg e k (gT b.n a.d d.1 c.2)<|dS (gT a.n b.d c.1 d.2)<|show L+K<=K+L from E)<|dS (gT b.d a.d d.2 c.2)<|agt _;rw[m,i,r,o,b.vn,b.vd,a.vn,a.vd,pE]at this;exact this
def Ey(f g:Fr)(b:cL f p)(a:cL g q)(d:mc f K)(c:mc g L)(w:K+L<2^37):ab 238 [eF f,eF g] (eF<|tl f g):=by have m:=zY f b;have l:=zY g a;have v:=Rz f.n g.n b.n a.n (dS d.1<|show K<=K+L from E) (dS c.1<|show L<=K+L from E) E;have m1:=sX f.n g.d b.n a.d d.1 c.2 E;have o:=sX g.n f.d a.n b.d c.1 d.2 E;have n:=sX f.d g.d b.d a.d d.2 c.2 E;obtain⟨B,k⟩:=dh f.n g.d b.n a.d;obtain⟨A,j⟩:=dh g.n f.d a.n b.d;obtain⟨z,t⟩:=dh f.d g.d b.d a.d;obtain⟨y,s⟩:=lD _ _ k j;have x:=afW (MB b)<|MB a;have u:=Rz _ _ k j (gT b.n a.d d.1 c.2) (dS (gT a.n b.d c.1 d.2)<|show L+K<=K+L from E) E;have mk:=OL _ _ s t E (Kg k j (gT b.n a.d d.1 c.2)<|dS (gT a.n b.d c.1 d.2)<|show L+K<=K+L from E) (dS (gT b.d a.d d.2 c.2)<|agt _) E;refine cp func238 W<|cQ 2 [(2,.box true<|eF f),(3,.box true<|eF g),(4,.box true<|.agg [.i 0,.nil,.i 0,.nil])] (¬(Zc f/\Zc g)) ?_ λhc=>?_;refine ck W W m W<|b6 W 7 W ?_ ?_<;>intro i;refine ck W W l W<|cm W W ?_ ?_<;>intro e;have r:Zc f/\Zc g:=⟨i,e⟩;unfold tl;rw[aas r];refine ck W W v W<|ck W W (Ir _) W<|cg W W;refine r0 W<|bm λh=>e h.2;refine r0 W<|bm λh=>i h.1;unfold tl;rw[aaq hc];refine cj W W m1 W<|cj W W o W<|cj W W u W<|cj W W n W<|cj W W mk W<|k0 W aP<|bV W
def ab0(f g:Fr)(h:cL f p)(b:cL g q)(e:mc f K)(a:mc g L)(i:K+L<2^37):ab 327 [eF f,eF g] (eF<|tl f ⟨jd g.n,g.d⟩):=by obtain⟨k,c⟩:=Em g b a.1 E;have j:=Ey f ⟨jd g.n,g.d⟩ h c e ⟨nY b.n a.1,a.2⟩ i;refine cp func327 W<|cj W W k W<|bX W j W<|k0 W aP<|bV W
end
end Go.Ai.bG
namespace Go.Ai.bG
section
variable{f:Fr}{k:L Int}{p:L bq}{q:Rat}
def CX(n:Nat):(bG.ah n).length<=(Go.Ai.ah n).length:=by by_cases a:n=0;subst a;rw[bG.c6];simp;have e:=bG.JS (n:=n) E;have d:n<1000000000^(Go.Ai.ah n).length:=Int.ofNat_lt.1 (by rw[Int.natCast_pow];exact Go.Ai.cu n);apply Nat.le_of_not_lt;intro h;have c:(1000000000:Nat)^(Go.Ai.ah n).length<=1000000000^((bG.ah n).length-1):=adi fV E;have b:(1000000000:Nat)^((bG.ah n).length-1)<=18446744073709551616^((bG.ah n).length-1):=agj fV _;omega
def eD{K:Nat}(h:cL f q)(hs:Sz q K):mc f K:=by constructor;unfold gj;rw[h.vn];exact acI (CX _) hs.1;unfold gj;rw[h.vd];exact acI (CX _) hs.2
structure Tm where
 f:Fr
 pw:List Int
instance:Inhabited Tm:=⟨⟨⟨⟨0,none⟩,⟨0,none⟩⟩,[]⟩⟩
def fq(f:Fr):Rat:=Rat.divInt (nv f.n)<|nv f.d
def cL.fq(h:cL f q):fq f=q:=by unfold bG.fq;rw[h.vn,h.vd];simp
def Tm.tr(t:Tm):bq:=⟨fq t.f,t.pw⟩
def Tm.ok(t:Tm):Prop:=cL t.f<|fq t.f
def cL.self(h:cL f q):cL f (bG.fq f):=by rw[h.fq];exact h
def lH(f:Fr)(pw:L Int):L Tm->L Tm
 |[]=>[⟨f,pw⟩]
 |t::E=>if t.pw=pw then⟨tl f t.f,pw⟩::E else t::lH f pw E
def ot(l:L Tm):L Tm:=l.foldl (λa t=>lH t.f t.pw a) []
def Cq(p:L bq)(k:L Int):Rat:=match p.find? (λu=>decide (u.pw=k))with
 |some u=>u.c
 |none=>0
def Rg(k:L Int):Cq [] k=0:=W
def dV(u:bq)(p:L bq)(k:L Int):Cq (u::p) k=if u.pw=k then u.c else Cq p k:=by unfold Cq;grind
def E0(h:∀u∈p,u.pw≠k):Cq p k=0:=by
 induction p with
 |nil=>rfl
 |cons u p a=>rw[dV,aaq<|h u I,a λv b=>h v<|by simp[b]]
def JX(hn:(p.map (·.pw)).Nodup){u:bq}(h:u∈p):Cq p u.pw=u.c:=by
 induction p with
 |nil=>cases h
 |cons v p a=>
  rw[dV]
  grind
def uG(h:Cq p k≠0):∃u∈p,u.pw=k/\u.c=Cq p k:=by
 induction p with
 |nil=>exact aaF W h
 |cons v p a=>
  rw[dV]at h⊢
  grind
def AQ.nodup(h:AQ p):(p.map (·.pw)).Nodup:=by refine ahl.2<|List.Pairwise.imp (λ{a b}g e=>?_) h;rw[e,iW]at g;cases g
def Nh{t:bq}:∀{p:L bq},AQ p->(∀u∈p,u.pw.length=t.pw.length)->∀k,Cq (po t p) k=Cq p k+if t.pw=k then t.c else 0
 |[],_,_,k=>by
  unfold po;split
  grind
  rw[dV,Rg];split<;>grind
 |u::r,h,m,k=>by
  have j:=(afs.1 h).2;have hu:=(afs.1 h).1;unfold po;split;rename_i d;have l:u.pw≠t.pw:=λe=>by rw[e,iW]at d;cases d
  rw[dV,dV,Nh j (λv b=>m v<|by simp[b]) k]
  grind
  rename_i d;split;rename_i e;have a:∀v∈r,v.pw≠t.pw:=λv b g=>by grind
  split;rename_i i;rw[dV];by_cases g:u.pw=k;subst g;rw[aas W,aas e.symm,E0 (λv b=>e▸a v b)];exact i.symm
  grind
  rw[dV,dV]
  grind
  rename_i e;have a:∀v∈u::r,v.pw≠t.pw:=λv b g=>by grind
  split
  grind
  rw[dV];by_cases g:t.pw=k;rw[aas g,aas g];rw[E0 (g▸a)];grind
  grind
def Nz(p:L bq):Prop:=∀u∈p,u.c≠0
def QI{t:bq}:∀{p:L bq},Nz p->Nz (po t p)
 |[],_,u,hu=>by unfold po at hu;simp_all
 |v::r,h,u,hu=>by
  have a:Nz r:=λw b=>h w (by simp[b]);unfold po at hu;split at hu;rcases abm.1 hu with rfl|hu;exact h _ I;exact QI a u hu;split at hu;split at hu;exact a u hu;rcases abm.1 hu with rfl|hu
  assumption
  exact a u hu;split at hu;exact h u hu;rcases abm.1 hu with rfl|hu
  assumption
  exact h u hu
def DA:∀{l p:L bq},Nz p->Nz (l.foldl jv p)
 |[],_,h=>h
 |t::l,p,h=>DA (l:=l) (p:=jv p t) (by rw[jE];exact QI h)
def Qb:∀{p q:L bq},AQ p->AQ q->Nz p->Nz q->(∀k,Cq p k=Cq q k)->p=q
 |[],[],_,_,_,_,_=>rfl
 |[],v::q,_,_,_,hn,h=>aaF ((h v.pw).symm.trans W) (by rw[dV,aas W];exact hn v I)
 |u::p,[],_,_,hn,_,h=>aaF ((h u.pw).trans W) (by rw[dV,aas W];exact hn u I)
 |u::p,v::q,s,o,m,l,h=>by
  have hu:=(afs.1 s).1;have n:=(afs.1 o).1;have B:Cq (v::q) u.pw=u.c:=by rw[<-h,dV,aas W]
  have A:Cq (u::p) v.pw=v.c:=by rw[h,dV,aas W]
  have e:u.pw=v.pw:=by obtain⟨a,j,x,-⟩:=uG (p:=v::q) (k:=u.pw) (by rw[B];exact m u I);obtain⟨b,i,t,-⟩:=uG (p:=u::p) (k:=v.pw) (by rw[A];exact l v I);rcases abm.1 j with rfl|j;exact x.symm;rcases abm.1 i with rfl|i;exact t;have g1:=n a j;have g2:=hu b i;rw[x]at g1;rw[t]at g2;have:=im g1 g2;rw[iW]at this;cases this
  have C:u=v:=by cases u;cases v;simp_all
  subst C;rw[Qb (afs.1 s).2 (afs.1 o).2 (λw c=>m w<|by simp[c]) (λw c=>l w<|by simp[c]) λk=>?_];by_cases d:u.pw=k;subst d;have z:∀{r:L bq},(∀w∈r,beforeL u.pw w.pw=true)->Cq r u.pw=0:=λ{r}y=>E0 λw c g=>by have:=y w c;rw[g,iW]at this;cases this
  rw[z hu,z n];have:=h k;rw[dV,dV,aaq d,aaq d]at this;exact this
structure Kp(E:List Tm)(p:List bq):Prop where
 ok:∀t∈E,t.ok
 nd:(E.map (·.pw)).Nodup
 co:∀k,Cq (E.map Tm.tr) k=Cq p k
def Kp.nil:Kp [] []:=⟨I,I,λ_=>rfl⟩
def JH{g:Fr}{p:Rat}(b:cL f p)(a:cL g q):cL (tl f g) (p+q):=(Io f g b a ⟨agU _ (ah (nv f.d).natAbs).length,agV _ _⟩ ⟨agU _ (ah (nv g.d).natAbs).length,agV _ _⟩).1
def Im{f:Fr}{pw:L Int}(c:cL f (fq f)):∀{E:L Tm},(∀t∈E,t.ok)->(E.map (·.pw)).Nodup->
 (∀t∈lH f pw E,t.ok)/\((lH f pw E).map (·.pw)).Nodup/\(∀x,x∈(lH f pw E).map (·.pw)->x=pw\/x∈E.map (·.pw))/\∀k,Cq ((lH f pw E).map Tm.tr) k=Cq (E.map Tm.tr) k+if pw=k then fq f else 0
 |[],_,_=>by refine⟨λt d=>?_,by simp[lH],by simp[lH],λk=>?_⟩;simp[lH]at d;subst d;exact c;show Cq [Tm.tr ⟨f,pw⟩] k=_;rw[dV];show(if pw=k then fq f else Cq [] k)=Cq [] k+_;rw[Rg];split<;>grind
 |t::E,g,hn=>by
  have b:=hn;rw[acK,ad2]at b;unfold lH;by_cases e:t.pw=pw;rw[aas e];have a:=JH c<|g t<|by simp
  refine⟨λu hu=>?_,by simp_all,by simp_all,λk=>?_⟩;rcases abm.1 hu with rfl|hu;exact a.self;simp_all;rw[acK,acK,dV,dV];show(if pw=k then fq (tl f t.f)else _)=(if t.pw=k then fq t.f else _)+_;rw[a.fq,e];split<;>grind;rw[aaq e];obtain⟨m,l,j,h⟩:=Im (E:=E) (pw:=pw) c (λu hu=>g u<|by simp[hu]) b.2;refine⟨λu hu=>?_,?_,λx i=>?_,λk=>?_⟩
  grind
  grind
  grind
  rw[acK,acK,dV,dV,h];show(if t.pw=k then fq t.f else _)=(if t.pw=k then fq t.f else _)+_
  grind
def Kp.add{E:L Tm}{t:Tm}(h:Kp E p)(a:t.ok)(hs:AQ p)(hl:∀u∈p,u.pw.length=t.pw.length):Kp (lH t.f t.pw E) (jv p t.tr):=by obtain⟨d,c,-,b⟩:=Im (pw:=t.pw) a h.ok h.nd;exact⟨d,c,λk=>by rw[b,h.co,jE,Nh hs hl];rfl⟩
def Kp.fold{V:Nat}:∀{l E:L Tm}{p:L bq},Kp E p->AQ p->(∀u∈p,u.pw.length=V)->(∀t∈l,t.ok/\t.pw.length=V)->Kp (l.foldl (λE t=>lH t.f t.pw E) E) ((l.map Tm.tr).foldl jv p)
 |[],_,_,h,_,_,_=>h
 |t::l,E,p,h,hs,b,hl=>by have a:=hl t (by simp);refine Kp.fold (V:=V) (l:=l) (p:=jv p t.tr) (E:=lH t.f t.pw E) (h.add a.1 hs λu hu=>(b u hu).trans a.2.symm) (by rw[jE];exact D9 (t:=t.tr) a.2 b hs) (λu hu=>?_) λu hu=>hl u (by simp[hu]);rw[jE]at hu;rcases yo hu with hu|hu;exact b u hu;rw[hu];exact a.2
def Kp.norm{V:Nat}{l:L Tm}(hl:∀t∈l,t.ok/\t.pw.length=V):Kp (ot l) (fj<|l.map Tm.tr):=Kp.fold (V:=V) .nil .nil I hl
def zQ(E:L Tm):L Tm:=E.filter λt=>decide (fq t.f≠0)
def Kp.aeV{E L:List Tm}(h:Kp E p)(i:AQ p)(e:Nz p)(c:L.Perm (zQ E))(hs:AQ (L.map Tm.tr)):L.map Tm.tr=p:=by
 refine Qb hs i (λu hu=>?_) e λk=>?_;obtain⟨t,a,rfl⟩:=abS.1 hu;have:=(afZ.1<|c.mem_iff.1 a).2;exact of_decide_eq_true this;rw[<-h.co k];have b:((E.map Tm.tr).map (·.pw)).Nodup:=by rw[aer];exact h.nd
 by_cases hc:Cq (E.map Tm.tr) k=0;rw[hc];apply Classical.byContradiction;intro g;obtain⟨u,hu,j,d⟩:=uG g;obtain⟨t,a,rfl⟩:=abS.1 hu;have hm:=afZ.1<|c.mem_iff.1 a;have:=JX b<|agb hm.1;simp_all;obtain⟨u,hu,j,d⟩:=uG hc;obtain⟨t,a,rfl⟩:=abS.1 hu;have hm:=c.mem_iff.2<|afZ.2 ⟨a,decide_eq_true λg=>hc<|d.symm.trans g⟩;have:=JX (AQ.nodup hs)<|agb hm;simp_all
end
def fw:L Int->cq
 |[]=>[]
 |k::l=>bS k++32::fw l
def QA{k:Int}:∀c∈bS k,c≠(32:UInt8):=by intro c hc e;subst e;unfold bS at hc;split at hc;rcases abm.1 hc with h|h;simp_all;exact aaF (cE _ _ _ h).1 fV;exact aaF (cE _ _ _ hc).1 fV
def Up{a b c d:cq}(h:a++32::b=c++32::d)(f:∀x∈a,x≠(32:UInt8))(hc:∀x∈c,x≠(32:UInt8)):a=c/\b=d:=by
 induction a generalizing c with
 |nil=>
  cases c with
  |nil=>simp_all
  |cons y c=>simp_all
 |cons x a e=>
  cases c with
  |nil=>simp_all
  |cons y c=>simp_all
def LY:∀{a b:L Int},fw a=fw b->a=b
 |[],[],_=>rfl
 |[],k::l,h=>by have:=aaf List.length h;simp[fw]at this
 |k::l,[],h=>by have:=aaf List.length h;simp[fw]at this
 |k::l,f::e,h=>by obtain⟨d,c⟩:=Up h QA QA;rw[L6 d,LY c]
def D2{a b:L Int}:qL (fw a) (fw b)=true↔a=b:=by rw[qK];exact⟨LY,λh=>by rw[h]⟩
def Jp{a b:L Int}(h:a≠b):qL (fw a) (fw b)=false:=by
 cases e:qL (fw a) (fw b)with
 |true=>exact aaF (D2.1 e) h
 |false=>rfl
def eE(t:Tm):SV:=.agg [.i t.f.n.s,.eI .u64<|ws t.f.n,.i t.f.d.s,.eI .u64<|ws t.f.d,fO t.pw]
abbrev aia:=SV.bc false 5 default eE
abbrev aid:=SV.bc true 5 default eE
def lF(E:L Tm):jj cq:=E.map λt=>(fw t.pw,eE t)
def BH(pw:L Int)(E:L Tm):Q Tm:=E.find? λt=>decide (t.pw=pw)
def Mq(pw:L Int):∀E:L Tm,pr (fw pw) (lF E)=(BH pw E).map eE
 |[]=>rfl
 |t::E=>by show(match qL (fw pw) (fw t.pw)with|true=>some (eE t)|false=>pr (fw pw)<|lF E)=_;unfold BH;by_cases h:t.pw=pw;rw[D2.2 h.symm];simp[h];rw[Jp λe=>h e.symm];simp[h];exact Mq pw E
def Hc{f:Fr}{pw:L Int}:∀{E:L Tm}{t:Tm},BH pw E=some t->B7 (fw pw) (eE ⟨tl f t.f,pw⟩) (lF E)=lF (lH f pw E)
 |[],t,h=>by cases h
 |u::E,t,h=>by unfold BH at h;show(match qL (fw pw) (fw u.pw)with|true=>(fw pw,eE ⟨tl f t.f,pw⟩)::lF E|false=>(fw u.pw,eE u)::B7 (fw pw) (eE ⟨tl f t.f,pw⟩) (lF E))=_;unfold lH;by_cases e:u.pw=pw;simp[e]at h;subst h;rw[D2.2 e.symm,aas e];rfl;simp[e]at h;rw[Jp λg=>e g.symm,aaq e];rw[Hc h];rfl
def Hd{f:Fr}{pw:L Int}:∀{E:L Tm},BH pw E=none->B7 (fw pw) (eE ⟨f,pw⟩) (lF E)=lF (lH f pw E)
 |[],h=>rfl
 |u::E,h=>by unfold BH at h;show(match qL (fw pw) (fw u.pw)with|true=>(fw pw,eE ⟨f,pw⟩)::lF E|false=>(fw u.pw,eE u)::B7 (fw pw) (eE ⟨f,pw⟩) (lF E))=_;unfold lH;by_cases e:u.pw=pw;simp[e]at h;rw[Jp λg=>e g.symm,aaq e];rw[Hd<|by unfold BH;simpa[e]using h];rfl
def OZ(t:Tm):List Tm->List Tm
 |[]=>[t]
 |u::L=>if beforeL t.pw u.pw then t::u::L else u::OZ t L
def mZ:List Tm->List Tm
 |[]=>[]
 |t::L=>OZ t<|mZ L
def Ab(t:Tm):∀L,(OZ t L).Perm (t::L)
 |[]=>.refl _
 |u::L=>by unfold OZ;split;exact .refl _;exact((Ab t L).cons u).trans<|.swap _ _ _
def ie:∀L,(mZ L).Perm L
 |[]=>.refl _
 |t::L=>(Ab t _).trans<|(ie L).cons t
def Kh(L:List Tm):Prop:=L.Pairwise λa b=>beforeL a.pw b.pw=true
def Kh.tr{L:List Tm}(h:Kh L):AQ (L.map Tm.tr):=ahl.2 h
def L9{t:Tm}:∀{L:List Tm},(∀u∈L,u.pw.length=t.pw.length/\u.pw≠t.pw)->Kh L->Kh (OZ t L)
 |[],_,_=>by simp[OZ,Kh]
 |u::L,hl,h=>by have hu:=(afs.1 h).1;unfold OZ;split;rename_i b;refine afs.2 ⟨λv a=>?_,h⟩;rcases abm.1 a with rfl|a;exact b;exact im b<|hu v a;rename_i b;have c:=nB (hl u I).1.symm (by simpa using b) (hl u I).2.symm;refine afs.2 ⟨λv a=>?_,L9 (λv a=>hl v<|by simp[a]) (afs.1 h).2⟩;rcases abm.1 ((Ab t L).mem_iff.1 a)with rfl|a;exact c;exact hu v a
def qM{V:Nat}:∀{L:List Tm},(∀u∈L,u.pw.length=V)->(L.map (·.pw)).Nodup->Kh (mZ L)
 |[],_,_=>List.Pairwise.nil
 |t::L,hl,hn=>by rw[acK,ad2]at hn;refine L9 (λu hu=>?_)<|qM (λu hu=>hl u<|by simp[hu]) hn.2;have hu:=(ie L).mem_iff.1 hu;simp_all
def C7:∀{L M:List Tm},Kh L->Kh M->L.Perm M->L=M
 |[],M,_,_,h=>by simpa using h.symm
 |t::L,[],_,_,h=>by simp at h
 |t::L,u::M,b,a,h=>by
  have c:=(afs.1 b).1;have hu:=(afs.1 a).1;have e:t=u:=by rcases abm.1 (h.mem_iff.1<|ahW ..)with e|h1;exact e;rcases abm.1 (h.mem_iff.2<|ahW ..)with e|d;exact e.symm;have:=im (hu t h1)<|c u d;rw[iW]at this;cases this
  subst e;rw[C7 (afs.1 b).2 (afs.1 a).2<|(List.perm_cons t).1 h]
def kd(l:L Tm):L Tm:=mZ<|zQ<|ot l
end Go.Ai.bG
namespace Go.Ai.Pg
open Go.Proofs Go.Ai Go.Ai.bG Go.RowKit Go.Proofs.Tryz
def find_congr{α:Type}{p q:α->Bool}:∀{l:L α},(∀x∈l,p x=q x)->l.find? p=l.find? q
 |[],_=>rfl
 |x::l,h=>by rw[ahQ,ahQ,h x I,find_congr λy a=>h y<|by simp[a]]
def Er:∀(s:cq)(n:Nat),(List.range' n s.length).find? (λi=>(s.getD (i-n) 0)==47)=if aE s<s.length then some (n+aE s)else none
 |[],n=>I
 |c::t,n=>by
  rw[abo,List.range'_succ,ahQ];simp only[agZ,List.getD_cons_zero,aE];by_cases h:c=47;simp[h];have a:(c==47)=false:=by simpa using h
  simp only[a,h,if_false];have e:(List.range' (n+1) t.length).find? (λi=>((c::t).getD (i-n) 0)==47)=(List.range' (n+1) t.length).find? (λi=>(t.getD (i-(n+1)) 0)==47):=by
   refine find_congr ?_
   grind
  rw[e,Er t<|n+1]
  grind
def Ut(s:cq):Int:=if aE s<s.length then aE s else -1
def Ep(s:cq):firstIdx (bs s) 47=Ut s:=by
 unfold firstIdx Ut;have e:(List.range (bs s).size).find? (λi=>(bs s)[i]! ==47)=(List.range' 0 s.length).find? (λi=>(s.getD (i-0) 0)==47):=by
  have b:(bs s).size=s.length:=W;rw[List.range_eq_range'];refine find_congr ?_;intro i hi;have a:i<s.length:=fP;have:(bs s)[i]! =s.getD i 0:=by have c:=a;rw[getElem!_pos (bs s) i c,az a];rfl
  rw[this];rfl
 rw[e,Er s 0]
 grind
def Ea(s:cq):ab 379 [.s s,.n .u8 47] (.i<|Ut s):=by
 intro w S l _ f hc;obtain⟨y,p,v,u,rfl,q,_,e,k,m,t,r,rfl,j,_,d,rfl,rfl⟩:=hc;obtain⟨_,rfl,rfl⟩:=e;obtain⟨_,rfl,rfl⟩:=d;have c:(callFunc 379 #[.string (bs s),.int .u8 47]).run prog w=.ok (.value<|.int .i64<|Ut s) w:=by refine(run_callFunc_indexByte (fn:=Tryz.f379) func379 aP aP aP aP _ w).trans ?_;rw[run_indexByte_string];simp only[Result.andThen];have:(47:Int).toNat.toUInt8=47:=W;rw[this,Ep]
 intro rd o a next b g
 rw[c];exact g _ _ ⟨S,[],Go.RowKit.Below.refl _ _,λ_ h=>h,λ_ h=>.inl h,f,by simp[SV.den,Rel,scalar],acP,I⟩
def abW(s:cq):ab 352 [.s s,.n .u8 47] (.i<|Ut s):=by refine cp func352 W<|ck W W (Ea s) W<|cg W W
def Zf(s:cq):ab 322 [.s s,.s [47]] (.i<|Ut s):=by refine cp func322 W<|b6 W 19 W (λh=>aaF h fV) λ_=>?_;refine cm W W (λh=>?_) λ_=>?_;have h:=h;subst h;refine cg W W;refine cm W W (λ_=>?_) λh=>aaF W h;refine r1 W (by simp[aj]<;>decide) ?_;refine bW W (abW s) W<|cg W W
def HG{s:cq}(h:isNeg s=true):1<=s.length/\bM s=s.drop 1:=by
 unfold bM;rw[aas h];unfold isNeg at h
 grind
def Us{s:cq}:0<=Ut s↔aE s<s.length:=by unfold Ut;split<;>omega
def aca(s:cq)(hl:s.length<2^60):ab 278 [.s s,.s [47]] (.bU [.s<|s.take<|aE s,.s<|s.drop<|aE s+1,.u<|decide (aE s<s.length)]):=by
 refine cp func278 W<|ck W W (Zf s) W<|cm W W ?_ ?_<;>intro h;have a:=Us.1 h;have e:Ut s=aE s:=by unfold Ut;rw[aas a]
 rw[e];refine k1 W aP (by simp[aj,acC]<;>omega) ?_;refine aH W ⟨aij SV.s ?_,aij SV.s ?_,(decide_eq_true a).symm,U⟩;simp;simp;have a:¬aE s<s.length:=λg=>h<|Us.2 g;refine b7 W W ⟨aij SV.s ?_,aij SV.s ?_,(decide_eq_false a).symm,U⟩;rw[acD E];rw[aew E]
def aaG(s:cq)(hl:s.length<2^60):ab 214 [.s s,.s [47]] (.bU [.s<|s.take<|aE s,.s<|s.drop<|aE s+1,.u<|decide (aE s<s.length)]):=by refine cp func214 W<|ck W W (aca s hl) W<|cg W W
def Dq(s:cq)(hl:s.length<2^60):ab 323 [.s s,.s [45]] (.u<|isNeg s):=by
 refine cp func323 W<|b6 W 10 W ?_ ?_<;>intro h;have h:1<=s.length:=by grind
 refine r1 W (by simp[aj,acC]<;>omega) ?_;refine aH W<|aij SV.u ?_
 match s,h with
 |c::t,_=>unfold isNeg;simp[true_and];exact⟨λh=>by rw[h];rfl,λh=>agW.1 h⟩
 ·have h:¬((1:Nat):Int)<=s.length:=h;refine b7 W W<|(decide_eq_false λhh=>h E).symm
def ZD(s:cq)(hl:s.length<2^60):ab 279 [.s s,.s [45]] (.bU [.s<|bM s,.u<|isNeg s]):=by
 refine cp func279 W<|ck W W (Dq s hl) W<|r0 W<|nS W W W ?_ ?_<;>intro h;have hn:isNeg s=false:=by simpa using h
 refine b7 W W ⟨aij SV.s ?_,hn.symm,U⟩;unfold bM;rw[hn];rfl;have hn:isNeg s=true:=by simpa using h
 obtain⟨g1,g2⟩:=HG hn;refine r1 W bd<|aH W ⟨aij SV.s ?_,hn.symm,U⟩;simp_all
def acb(s:cq)(hl:s.length<2^60):ab 215 [.s s,.s [45]] (.bU [.s<|bM s,.u<|isNeg s]):=by refine cp func215 W<|ck W W (ZD s hl) W<|cg W W
def abX(s:cq)(hl:s.length<2^60):ab 283 [.s s,.s [45]] (.u<|isNeg s):=by refine cp func283 W<|ck W W (Dq s hl) W<|cg W W
def Ub(s:cq)(hl:s.length<2^60):ab 324 [.s s,.s [45]] (.s<|bM s):=by refine cp func324 W<|ck W W (Dq s hl) W<|nS W W W ?_ ?_<;>intro h;obtain⟨g1,g2⟩:=HG h;refine r1 W bd<|aH W<|aij SV.s ?_;simp_all;refine b7 W W<|aij SV.s ?_;unfold bM;rw[h];rfl
def P5(s:cq)(hl:s.length<2^60):ab 284 [.s s,.s [45]] (.s<|bM s):=by refine cp func284 W<|ck W W (Ub s hl) W<|cg W W
def M0(s:cq):Bool:=mS s&& !decide (s=[])
def Zy(s:cq)(hl:s.length<2^60):ab 280 [.s s] (.u<|M0 s):=by
 refine cp func280 W<|r0 W<|ba (λi:Nat=>[(0,.s s),(5,.i s.length),(6,.i i)]) (λi=>i<=s.length/\∀k,k<i->48<=(s.getD k 0).toNat/\(s.getD k 0).toNat<=57) (λi=>s.length-i) 0 ⟨aaQ _,λk h=>E⟩ ?_;rintro i⟨hi,m⟩;refine cm W W ?_ ?_<;>intro h;have d:i<s.length:=E;have a:(i:Int).toNat=i:=E;have b:¬(48<=(s.getD i 0).toNat/\(s.getD i 0).toNat<=57)->false=M0 s:=by intro hn;symm;unfold M0;rw[Bool.and_eq_false_iff];left;rw[Bool.eq_false_iff];intro j;have:=lB.1 j s[i]<|aaZ d;simp_all
 refine r1 W (by simp[aj,aag,a];omega) ?_;refine aF 13 W ?_ ?_<;>intro f;rw[a]at f;refine b7 W W<|b E;rw[a]at f;refine r1 W (by simp[aj,aag,a];omega) ?_;refine bY W ?_ ?_<;>intro e;rw[a]at e;refine b7 W W<|b E;rw[a]at e;refine r1 W (by simp[aj,aag];omega) ?_;refine aM (i+1) ⟨E,λk l=>?_⟩
 grind
 have g:mS s=true:=by
  rw[lB];intro c hc;obtain⟨k,l,rfl⟩:=af7 hc
  grind
 refine b7 W W<|aij SV.u ?_;unfold M0;simp_all
def NR(s:cq)(hl:s.length<2^60):ab 216 [.s s] (.u<|gg s):=by
 refine cp func216 W<|ck W W (Zy s hl) W<|r0 W<|iC 5 W ?_ ?_<;>intro h;have h:M0 s=true:=h;unfold M0 at h;simp[abi,af8,decide_eq_false_iff_not]at h;have a:=ags.2 h.2;refine b6 W 8 W ?_ ?_<;>intro g;have g:s=[48]:=g;subst g;refine b7 W W (show true=gg [48]from fV);have g:¬s=[48]:=g;refine r1 W bh<|aH W<|aij SV.u ?_;unfold gg;rw[aaq E,h.1];by_cases k:(s.getD 0 0).toNat=48;have b:1<s.length:=by
  match s,a with
  |[c],_=>exact aaF (aaf (λx=>[x])<|agW.1<|show c.toNat=(48:UInt8).toNat by simpa using k) g
  |_::_::_,_=>simp
 simp_all
 grind
 have h:M0 s=false:=h;refine b7 W W ?_;unfold M0 at h;unfold gg;rw[Bool.and_eq_false_iff]at h;rcases h with h|h;rw[h];split;rfl;split<;>rfl;simp[Bool.not_eq_false',decide_eq_true_eq]at h;subst h;rfl
def Z4(s:cq)(hs:dG s)(m:0<s.length)(hl:s.length<=18):ab 325 [.s s] (.bU [.i<|cX s,.c .nilIface]):=by
 refine cp func325 W<|b6 W 25 W (λ_=>?_) λh=>aaF (show(0:Int)<s.length from E) h;refine cm W W (λ_=>?_) λh=>aaF (show(s.length:Int)<19 from E) h;have Ed:48<=(s.getD 0 0).toNat/\(s.getD 0 0).toNat<=57:=by have hm:s.getD 0 0∈s:=fP;exact hs _ hm
 have g:(0:Int).toNat=0:=W;refine r1 W bh<|aF 35 W (λh=>aaF h<|by rw[g];omega) λ_=>?_;refine r1 W bh<|bY W (λh=>aaF h<|by rw[g];omega) λ_=>?_;refine r0 W<|ex W W W (Pv s W W W W) W<|r0 W ?_;have b:(s.map λc=>(c.toNat:Int)).length=s.length:=I;refine loop (λi:Nat=>[(5,.s s),(6,.i<|cX<|s.take i),(47,.ints .u8 false<|s.map λc=>(c.toNat:Int)),(48,.i s.length),(49,.i i)]) (λi=>i<=s.length) (λi=>s.length-i) 0 E ⟨G,G,G,⟨W,aij SV.i<|by rw[b]⟩,G,U⟩ ?_;intro i hi;refine cm W W ?_ ?_<;>intro h;have a:i<s.length:=E;have d:(i:Int).toNat=i:=E;have hc:(s.map λc=>(c.toNat:Int)).getD i 0=(s[i].toNat:Int):=fP;have l:=hs s[i]<|aaZ a;have j:=mL (s:=s.take i) λc hc=>hs c<|afB hc;have k:10^(s.take i).length<=10^17:=adi fV (by simp;omega);refine r1 W (by simp[aj,aag,d,hc,b];omega) ?_;have f:IntKind.u8.wrap ((s[i].toNat:Int)-48)=(s[i].toNat:Int)-48:=by have e:IntKind.u8.wrap ((s[i].toNat:Int)-48)=((s[i].toNat:Int)-48)%256:=W;rw[e];omega
 refine bY W (λh=>aaF h<|by rw[d,hc,f];omega) λ_=>?_;refine r1 W (by simp only[aj,aag,d,hc,f];omega) ?_;refine again (i+1) E E ⟨G,⟨W,cn ?_⟩,G,G,G,U⟩;rw[d,hc,f,ace a,uV];omega;have:i=s.length:=E;subst this;refine r1 W bh<|bY W (λh=>aaF h<|by rw[g];omega) λ_=>?_;refine b7 W W ⟨cn ?_,W,U⟩;simp
def Xb(s:cq)(hs:dG s)(a:0<s.length)(hl:s.length<=18):ab 285 [.s s] (.bU [.i<|cX s,.c .nilIface]):=by refine cp func285 W<|ck W W (Z4 s hs a hl) W<|r0 W<|ex W W W (YP W W) W<|cg W W
section
variable{a:Nm}{s t:cq}
def CJ{L:Nat}(h:(nv a).natAbs<10^L):gj a L:=by unfold gj;rcases aeg (nv a).natAbs with b|b;rw[b,bG.c6];simp;have e:=JS b;have d:(10:Nat)^L<=18446744073709551616^L:=agj fV L;have c:=afC e<|acW h d;have f:=(Nat.pow_lt_pow_iff_right fV).1 c;omega
def adQ{R:Q Nat->Prop}{N:Nat}{F:St->Prop}{k:L It}{l:a7}{c:Code}(b:L (Nat×SV))(d:qh l b)(h:AK R prog N F (.code c::k) (sl b)):AK R prog N F (.code c::k) l:=AJ d h
def Vw(a b:Nat):vr true (a:Int) (b:Int)=((min a b:Nat):Int):=by simp[vr];omega
def rdStep(t:cq)(a:Nm):Nm:=ze (kf a<|tS ⟨10,none⟩<|min 18 t.length) ⟨cX<|t.take 18,none⟩
def Dk:Nat->cq->Nm->Nm
 |0,_,a=>a
 |k+1,t,a=>if t.length=0 then a else Dk k (t.drop 18) (rdStep t a)
def kZ(s:cq):Nm:=if isNeg s then jd (Dk (bM s).length (bM s) ⟨0,none⟩)else Dk (bM s).length (bM s) ⟨0,none⟩
def NX:bu ⟨10,none⟩:=show(-9223372036854775808:Int)<=10/\(10:Int)<=9223372036854775807 from fV
def PV:bu ⟨0,none⟩:=show(-9223372036854775808:Int)<=0/\(0:Int)<=9223372036854775807 from fV
def KO{n:Nat}(h:n<10^18):bu ⟨n,none⟩:=show(-9223372036854775808:Int)<=n/\(n:Int)<=9223372036854775807 from E
def zk(h:dG t):cX (t.take 18)<10^18:=by have b:=mL (s:=t.take 18) λc hc=>h c<|afB hc;exact acW b<|adi fV<|by simp;omega
def Bl(h:dG t)(g:bu a):nv (rdStep t a)=nv a*10^min 18 t.length+cX (t.take 18)/\bu (rdStep t a):=by obtain⟨e,d⟩:=my ⟨10,none⟩ (min 18 t.length) NX;obtain⟨m1,f⟩:=dh a (tS ⟨10,none⟩<|min 18 t.length) g d;obtain⟨c,b⟩:=lD _ ⟨cX<|t.take 18,none⟩ f<|KO<|zk h;refine⟨?_,b⟩;unfold rdStep;rw[c,m1,e];rfl
def B1(h:dG t)(n:Nat):dG (t.drop n):=λc hc=>h c<|agv hc
def Ha:∀(k:Nat)(t:cq)(a:Nm),dG t->t.length<=k->bu a->nv (Dk k t a)=nv a*10^t.length+cX t/\bu (Dk k t a)
 |0,t,a,h,c,b=>by have:t=[]:=ah5 E;subst this;refine⟨?_,b⟩;show nv a=nv a*10^0+((cX []:Nat):Int);have:cX []=0:=W;rw[this];simp
 |k+1,t,a,h,c,b=>by
  rw[Dk];split;rename_i d;have:=ah5 d;subst this;refine⟨?_,b⟩;have:cX []=0:=W;rw[this];simp;obtain⟨f,e⟩:=Bl h b;obtain⟨g1,g2⟩:=Ha k (t.drop 18) (rdStep t a) (B1 h 18) (by simp;omega) e;have hs:=tZ (t.take 18)<|t.drop 18;rw[af3]at hs;rw[hs];have hl:min 18 t.length+(t.drop 18).length=t.length:=by simp;omega
  grind
def oV(h:dG (bM s)):nv (kZ s)=D3 s/\bu (kZ s):=by
 obtain⟨b,c⟩:=Ha (bM s).length (bM s) ⟨0,none⟩ h .refl PV;have b:nv (Dk (bM s).length (bM s) ⟨0,none⟩)=cX (bM s):=by rw[b];show(0:Int)*_+_=_;omega
 unfold kZ D3;by_cases g:isNeg s=true;rw[aas g,g];obtain⟨n1,d⟩:=dP _ c;exact⟨by rw[n1,b];rfl,d⟩;have g:isNeg s=false:=by simpa using g
 rw[g];exact⟨b,c⟩
def xF(h:dG (bM s)):gj (kZ s) (bM s).length:=by refine CJ ?_;rw[(oV h).1];have:=mL h;unfold D3;cases isNeg s;show((cX (bM s):Nat):Int).natAbs<_;simpa using this;show(-((cX (bM s):Nat):Int)).natAbs<_;simpa using this
def Dj(s:cq)(h:dG (bM s))(hl:s.length<2^20):ab 218 [.s s] (eN<|kZ s):=by
 have A:=yV s;refine cp func218 W<|ck W W (abX s E) W<|ck W W (P5 s E) W<|r0 W<|adQ [(0,.s<|bM s),(2,.box true<|.agg [.i 0,.nil]),(3,.u<|isNeg s),(4,.box true<|eN ⟨0,none⟩)] ⟨.inl ⟨W,W,w9.of_le<|uN.refl _⟩,.inl ⟨W,W,w9.of_le<|uN.refl _⟩,.inl ⟨W,W,w9.of_le<|uN.refl _⟩,.inl ⟨W,W,w9.of_le<|uN.refl _⟩,U⟩<|lp (λ(t:cq)(a:Nm)=>[(0,.s t),(2,.box true<|.agg [.i 0,.nil]),(3,.u<|isNeg s),(4,.box true<|eN a)])
  (λt a=>dG t/\bu a/\(∃m,Dk m t a=Dk (bM s).length (bM s) ⟨0,none⟩/\t.length<=m)/\t.length<=(bM s).length/\nv a*10^t.length+cX t=cX (bM s)/\0<=nv a) (λt _=>t.length) (bM s) ⟨0,none⟩ ?_ ?_ ?_
 exact⟨h,PV,⟨_,W,aaU _⟩,aaU _,by show(0:Int)*_+_=_;omega,aet 0⟩;exact⟨G,G,G,G,U⟩;rintro t a⟨k,j,⟨m,i,r⟩,K,C,B⟩;have q:gj a (bM s).length:=by
  refine CJ ?_;have J:=mL h;have z:(1:Int)<=10^t.length:=by have:0<10^t.length:=ae6 (show 0<10 from fV);exact_mod_cast this
  have hm:nv a<=nv a*10^t.length:=by have:=aez z B;omega
  omega
 refine cm W W ?_ ?_<;>intro g;have g:0<t.length:=E;have em:((min 18 t.length:Nat):Int)=min 18 (t.length:Int):=E;have M:t.take (min 18 t.length)=t.take 18:=by simp
 have d:=Vw 18 t.length;have N:(((min 18 t.length:Nat):Int)).toNat=min 18 t.length:=E;refine r1 W ?_ ?_;have d:vr true 18 (t.length:Int)=((min 18 t.length:Nat):Int):=d;simp[aj,aag,d];omega;have F:List.drop 0 (List.take (vr true 18 (t.length:Int)).toNat t)=t.take 18:=by simp_all
 refine Gm (us:=[.s<|t.take 18]) W W U ⟨aaf SV.s F,U⟩ (Xb (t.take 18) (λc hc=>k c<|afB hc) (by simp;omega)<|by simp;omega) W ?_;refine cj W W (Jc 10) W<|r0 W ?_;have f:gj ⟨10,none⟩ 1:=gm (m:=10) fV;obtain⟨w,l⟩:=my ⟨10,none⟩ (min 18 t.length) NX;refine TV (us:=[eN ⟨10,none⟩,.i ((min 18 t.length:Nat):Int)]) W W U ⟨aw.refl _,aaf SV.i d,U⟩ (Ld ⟨10,none⟩ (min 18 t.length) NX f E E) W<|r0 W ?_;have e:gj (tS ⟨10,none⟩<|min 18 t.length) 19:=by refine CJ ?_;rw[w];have:nv ⟨10,none⟩=10:=W;rw[this,Int.natAbs_pow];exact Nat.pow_lt_pow_right fV E
 refine bX W (sX a _ j l q e E) W<|cj W W (Jc _) W<|r0 W ?_;obtain⟨m1,x⟩:=dh a _ j l;have o:=gT j l q e;have n:gj ⟨cX<|t.take 18,none⟩ 18:=CJ (by show((cX (t.take 18):Nat):Int).natAbs<_;have:=zk k;omega);refine bX W (Rz _ _ x (KO<|zk k) o (dS n E) E) W ?_;obtain⟨v,u⟩:=Bl k j;have H:(vr true 18 (t.length:Int)).toNat=min 18 t.length:=by simp_all
 have D:(t.take t.length).drop (vr true 18 (t.length:Int)).toNat=t.drop 18:=by simp_all
 refine k1 W aP ?_ ?_;have d:vr true 18 (t.length:Int)=((min 18 t.length:Nat):Int):=d;simp[aj,aag,d];omega;refine again (t.drop 18,rdStep t a) (by grind) ⟨B1 k 18,u,?_,by grind,?_,?_⟩ ⟨⟨W,aij SV.s D⟩,G,G,G,U⟩
 match m,i,r with
 |0,_,r=>omega
 |m+1,i,r=>refine⟨m,?_,by grind⟩;rw[Dk,aaq E]at i;exact i
 ·dsimp only;rw[v,<-C];have hs:=tZ (t.take 18)<|t.drop 18;rw[af3]at hs;rw[hs];have p:min 18 t.length+(t.drop 18).length=t.length:=by simp;omega
  have:(10:Int)^t.length=10^min 18 t.length*10^(t.drop 18).length:=by rw[<-afT,p]
  grind
 grind
 have y:t=[]:=ah5 E;subst y;have b:a=Dk (bM s).length (bM s) ⟨0,none⟩:=by rw[<-i];cases m<;>rfl
 refine r0 W<|nS W W W ?_ ?_<;>intro g2;refine ck W W (Hm a j q E) W<|b7 W W<|aw.of_eq ?_;unfold kZ;rw[aas g2,<-b];rfl;refine b7 W W<|aw.of_eq ?_;unfold kZ;rw[aaq<|by rw[g2];simp,<-b];rfl
end
end Go.Ai.Pg
