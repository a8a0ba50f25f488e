/- Parts of the proof of ScaleSetups (as AIM.md's row tells), at every input, with no further conditions. -/
import Derived.Test.YtpoaaoihkhdijaaGreatDoorSZAO
import Derived.Lib.ItoaMem
import Derived.Shelf.Strings.Builder1
set_option linter.all false
set_option maxRecDepth 100000
set_option maxHeartbeats 0
namespace Go.Ai.Pg
open Go.Proofs Go.Ai Go.Ai.eE
def abD(p:gV)(y:rA p)(D:∀u∈p.aa,iQ p.n u)(b:fE)(N:J9 b)(sh:List Int)(is:List (List Int))(s:StV p sh is):
 aM Tryz.prog 47 [bh p,dz b,tS false sh is] (.i<|if YF p sh is b then 30 else 0):=by
 have F:=y.aa;have M:=N.c;obtain⟨⟨S,T,q⟩,Q,R⟩:=s;refine bS Tryz.func47 W<|r0 W<|ra (λi:Nat=>[(3,.box true<|bh p),(4,.box true<|dz b),(5,.box true<|tS false sh is),(7,.i i)]) (λi=>i<=p.aa.length/\∀j<i,¬cfU b sh (p.aa.getD j default) (is.getD j [])=true) (λi=>p.aa.length-i) 0 ⟨abv _,λj c=>absurd c<|ad1 j⟩ ?_;rintro i⟨hi,l⟩;refine bQ W W ?_ ?_<;>intro g1
 ·have a:i<p.aa.length:=E;have A:(i:Int).toNat=i:=E;have hu:=D _<|bw (d:=default) a;have K:=(y.unit _<|bw (d:=default) a).ah;have O:=q i a;have o:=R _<|bw (d:=([]:List Int))<|show i<is.length from E;have f:cfU b sh (p.aa.getD i default) (is.getD i [])=true->(if YF p sh is b then(30:Int)else 0)=30:=λh=>if_pos ⟨i,a,h⟩;have B:¬cfU b sh (p.aa.getD i default) (is.getD i [])=true->∀j<i+1,¬cfU b sh (p.aa.getD j default) (is.getD j [])=true:=λh j c=>by
   by_cases e:j=i
   ·rw[e];exact h
   exact l j E
  have out:=hu.out;have V:=Q _<|bw (d:=(0:Int))<|show(p.aa.getD i default).out.toNat<sh.length from E;refine Qr 3 W U<|cx 3 [(3,.box true<|bh p),(4,.box true<|dz b),(5,.box true<|tS false sh is),(7,.i i),(8,.box true<|dQ<|p.aa.getD i default),(9,.ints .i64 false<|is.getD i [])] ((p.aa.getD i default).kind=bq->¬cfU b sh (p.aa.getD i default) (is.getD i [])=true) ?_ λJ=>?_
  ·refine r1 W (by simp only[bo,and_true,A]<;>omega) ?_;rw[A];generalize p.aa.getD i default=u at*;generalize is.getD i []=L at*;refine aC 31 W ?_ ?_<;>intro h
   ·have h:u.kind=bq:=h;have X:=(hu.int h).1;have w:Int.toNat 0=0:=W;have v:Int.toNat 1=1:=W;have Z:=o _<|bw (d:=(0:Int))<|show 0<L.length from E;have Y:=o _<|bw (d:=(0:Int))<|show 1<L.length from E;have e:cfU b sh u L=decide (L.getD 0 0+L.getD 1 0-b.c≠sh.getD u.out.toNat 0):=by unfold cfU;rw[if_neg<|by rw[h];decide,if_pos h]
    refine k1 W aW (by simp only[bo,and_true,w,v]<;>omega) ?_;rw[w,v];refine gb W ?_ ?_<;>intro g
    ·refine bK W W<|ar.of_eq<|congrArg SV.i (f<|by rw[e];exact decide_eq_true g).symm
    refine r0 W<|c5 (λ_=>by rw[e,decide_eq_true_eq];exact g)
   refine k0 W aW<|c5 λe=>absurd e h
  generalize p.aa.getD i default=u at*;generalize is.getD i []=L at*;refine r0 W<|ra (λk:Nat=>[(3,.box true<|bh p),(4,.box true<|dz b),(5,.box true<|tS false sh is),(7,.i i),(8,.box true<|dQ u),(9,.ints .i64 false L),(10,.i k)]) (λk=>k<=L.length/\(u.kind=jz->∀j<k,L.getD j 0=sh.getD u.out.toNat 0)) (λk=>L.length-k) 0 ⟨abv _,λ_ j c=>absurd c<|ad1 j⟩ ?_;rintro k⟨H,m⟩;refine bQ W W ?_ ?_<;>intro g2
  ·have t:k<L.length:=E;have z:(k:Int).toNat=k:=E;refine bJ W 59 W ?_ ?_<;>intro h
   ·have h:u.kind=jz:=h;refine k1 W aW (by simp only[bo,and_true,z]<;>omega) ?_;rw[z];refine gb W ?_ ?_<;>intro g
    ·refine bK W W<|ar.of_eq<|congrArg SV.i (f ?_).symm;unfold cfU;rw[if_pos h,agk];exact⟨_,bw (d:=(0:Int)) t,decide_eq_true g⟩
    refine qp W<|gS (k+1) ⟨E,λ_ j c=>?_⟩;by_cases e:j=k
    ·rw[e];exact adv.1 g
    exact m h j E
   refine II W<|gS (k+1) ⟨E,λe=>absurd e h⟩
  refine qp W<|gS (i+1) ⟨E,B ?_⟩;by_cases P:u.kind=bq
  ·exact J P
  unfold cfU;split
  ·rename_i h;rw[agk];rintro⟨x,C,r⟩;obtain⟨j,c,rfl⟩:=aeJ C;have:=m h j E;rw[au c]at this;exact of_decide_eq_true r this
  decide
 refine bK W W<|ar.of_eq<|congrArg SV.i (if_neg ?_).symm;rintro⟨j,c,h⟩;exact l j E h
def abi{p:gV}{sh:List Int}{is:List (List Int)}{f:List Int->Bool}:aah f (aag p sh is p.aa.length) (aag p sh is p.aa.length).length=true↔∃i k,i<p.aa.length/\k<(p.aa.getD i default).ah.length/\f (aas p sh is i k)=true:=by
 constructor
 ·intro h;obtain⟨j,c,h⟩:=abq h;obtain⟨i,k,hi,a,e⟩:=aaQ c;exact⟨i,k,hi,a,by rw[<-e];exact h⟩
 rintro⟨i,k,hi,a,h⟩;have b:=aaz p sh is a p.aa.length hi;exact aao (by rw[abZ,b];exact h) (aeh.1 b).1
def acJ{p:gV}(rs:List fD)(b:fE)(sh:List Int)(is:List (List Int)){i k:Nat}(hi:i<p.aa.length)(a:k<(p.aa.getD i default).ah.length):I2 p rs b (aas p sh is i k)=decide (tM rs b (p.aa.getD i default) k<(is.getD i []).getD k 0):=by
 have c:(lS rs b p.aa).getD i []=ky rs b (p.aa.getD i default):=by unfold lS;rw[au<|by simpa using hi,au hi];simp
 show decide (((lS rs b p.aa).getD (i:Int).toNat []).getD (k:Int).toNat 0<_)=_;rw[adF,adF,c,sj _ _ _ a];rfl
def acL(p:gV)(B:rA p)(rs:List fD)(hl:rs.length<2^40)(b:fE)(v:YU p rs b)(sh:List Int)(is:List (List Int))(hs:aaA p sh is=0):
 aM Tryz.prog 35 [bh p,.bA false 2 default dX rs,dz b,tS false sh is] (.i<|aaE p rs b sh is):=by
 have X:=B.aa;have O:=v.aa;have Z:=v.n1;have hn:=v.n;have Y:=v.rg.len;have E1:=v.bn.g;have n:=aaK hs;have D:=abD p B v.val b v.bn sh is n;obtain⟨⟨lX,lI,t⟩,bX,bI⟩:=n;have T:ovS rs b sh->aaE p rs b sh is=4:=λh=>by unfold aaE;rw[if_neg<|not_not_intro hs,if_pos h]
 have S:¬ovS rs b sh->(∃i k,i<p.aa.length/\k<(p.aa.getD i default).ah.length/\I2 p rs b (aas p sh is i k)=true)->aaE p rs b sh is=4:=λh r=>by unfold aaE;rw[if_neg<|not_not_intro hs,if_neg h,if_pos<|abi.2 r]
 have c3:¬ovS rs b sh->(¬∃i k,i<p.aa.length/\k<(p.aa.getD i default).ah.length/\I2 p rs b (aas p sh is i k)=true)->aaE p rs b sh is=if YF p sh is b then 30 else if aah (frB p rs b) (aag p sh is p.aa.length) (aag p sh is p.aa.length).length=true then 24 else 0:=λh r=>by unfold aaE;rw[if_neg<|not_not_intro hs,if_neg h,if_neg λe=>r<|abi.1 e]
 refine bS Tryz.func35 W<|r0 W<|ra (λi:Nat=>[(1,.bA false 2 default dX rs),(4,.box true<|bh p),(6,.box true<|dz b),(7,.box true<|tS false sh is),(9,.i i)]) (λi=>i<=sh.length/\∀j<i,sh.getD j 0<=Px rs b j) (λi=>sh.length-i) 0 ⟨abv _,λj f=>absurd f<|ad1 j⟩ ?_;rintro i⟨hi,J⟩;refine bQ W W ?_ ?_<;>intro g
 ·have a:i<sh.length:=E;have m:(i:Int).toNat=i:=E;refine qp W ?_;rw[m];refine bH W (xC rs b i E hl v.rg.val v.bn).1 W<|Zz W<|gb W ?_ ?_<;>intro g2
  ·refine bK W W<|ar.of_eq<|congrArg SV.i (T ⟨i,a,by rw[Tn rs b E];exact g2⟩).symm
  refine qp W<|gS (i+1) ⟨E,λj f=>?_⟩;by_cases e:j=i
  ·rw[e];exact Int.not_lt.1 g2
  exact J j E
 have P:¬ovS rs b sh:=by rintro⟨j,f,h⟩;rw[Tn rs b E]at h;have:=J j E;omega
 clear J;refine r0 W<|ra (λi:Nat=>[(1,.bA false 2 default dX rs),(4,.box true<|bh p),(6,.box true<|dz b),(7,.box true<|tS false sh is),(10,.i i)]) (λi=>i<=p.aa.length/\∀j<i,∀k<(p.aa.getD j default).ah.length,¬I2 p rs b (aas p sh is j k)=true) (λi=>p.aa.length-i) 0 ⟨abv _,λj f=>absurd f<|ad1 j⟩ ?_;rintro l⟨B0,r⟩;refine bQ W W ?_ ?_<;>intro g2
 ·have a:l<p.aa.length:=E;have m:(l:Int).toNat=l:=E;have F:=t l a;have hu:=v.val _<|bw (d:=default) a;have x:=(B.unit _<|bw (d:=default) a).ah;refine r0 W<|ra (λk:Nat=>[(1,.bA false 2 default dX rs),(4,.box true<|bh p),(6,.box true<|dz b),(7,.box true<|tS false sh is),(10,.i l),(11,.i k)]) (λk=>k<=(is.getD l []).length/\∀j<k,¬I2 p rs b (aas p sh is l j)=true) (λk=>(is.getD l []).length-k) 0 ⟨abv _,λj f=>absurd f<|ad1 j⟩ ?_;rintro k⟨hk,y⟩;refine qp W ?_;rw[m];refine gb W ?_ ?_<;>intro K
  ·have w:k<(is.getD l []).length:=E;have A:(k:Int).toNat=k:=E;have C:=acJ rs b sh is a (show k<(p.aa.getD l default).ah.length from E);refine r1 W (by simp only[bo,and_true,m,A]<;>omega) ?_;rw[m,A];refine bH W (jo rs b (p.aa.getD l default) k hu E v.rg hl x v.bn).1 W<|Zz W<|gb W ?_ ?_<;>intro z
   ·refine bK W W<|ar.of_eq<|congrArg SV.i (S P ⟨l,k,a,E,by rw[C];exact decide_eq_true z⟩).symm
   refine qp W<|gS (k+1) ⟨E,λj f=>?_⟩;by_cases e:j=k
   ·rw[e,C,decide_eq_true_eq];exact z
   exact y j E
  refine qp W<|gS (l+1) ⟨E,λj f q u=>?_⟩;by_cases e:j=l
  ·rw[e]at u⊢;exact y q E
  exact r j E q u
 have Q:¬∃i k,i<p.aa.length/\k<(p.aa.getD i default).ah.length/\I2 p rs b (aas p sh is i k)=true:=by rintro⟨j,q,a1,M,L⟩;exact r j E q M L
 rw[c3 P Q];clear r T S c3;refine bP W W D W<|r0 W ?_;by_cases hc:YF p sh is b
 ·rw[if_pos hc,if_pos hc];refine gb W (λ_=>?_) λg=>absurd fh g;refine bN W W
 rw[if_neg hc,if_neg hc];refine gb W (λg=>absurd W g) λ_=>?_;refine r0 W<|ra (λi:Nat=>[(4,.box true<|bh p),(6,.box true<|dz b),(7,.box true<|tS false sh is),(13,.i i)]) (λi=>i<=p.aa.length/\∀j<i,∀k<(p.aa.getD j default).ah.length,¬frB p rs b (aas p sh is j k)=true) (λi=>p.aa.length-i) 0 ⟨abv _,λj f=>absurd f<|ad1 j⟩ ?_;rintro c⟨A0,y⟩;refine bQ W W ?_ ?_<;>intro K
 ·have a:c<p.aa.length:=E;have m:(c:Int).toNat=c:=E;have F:=t c a;have H:=bI _<|bw (d:=([]:List Int))<|show c<is.length from E;have hu:=v.val _<|bw (d:=default) a;have x:=(B.unit _<|bw (d:=default) a).ah;refine r0 W<|ra (λk:Nat=>[(4,.box true<|bh p),(6,.box true<|dz b),(7,.box true<|tS false sh is),(13,.i c),(14,.i k)]) (λk=>k<=(is.getD c []).length/\∀j<k,¬frB p rs b (aas p sh is c j)=true) (λk=>(is.getD c []).length-k) 0 ⟨abv _,λj f=>absurd f<|ad1 j⟩ ?_;rintro k⟨hk,R⟩;refine qp W ?_;rw[m];refine gb W ?_ ?_<;>intro z
  ·have w:k<(is.getD c []).length:=E;have A:(k:Int).toNat=k:=E;have hf:=hu.feed _<|bw (d:=default)<|show k<(p.aa.getD c default).ah.length from E;have b1:=H _<|bw (d:=(0:Int)) w;have b2:=bX _<|bw (d:=(0:Int))<|show((p.aa.getD c default).ah.getD k default).sh.toNat<sh.length from E;have C:I2 p rs b (aas p sh is c k)=false:=by
    cases e:I2 p rs b (aas p sh is c k)with
    |false=>rfl
    |true=>exact absurd ⟨c,k,a,E,e⟩ Q
   have o:frB p rs b (aas p sh is c k)=decide ((is.getD c []).getD k 0-sh.getD ((p.aa.getD c default).ah.getD k default).sh.toNat 0< -b.g\/b.g<(is.getD c []).getD k 0-sh.getD ((p.aa.getD c default).ah.getD k default).sh.toNat 0):=by unfold frB;rw[C];rfl
   have s:frB p rs b (aas p sh is c k)=true->(if aah (frB p rs b) (aag p sh is p.aa.length) (aag p sh is p.aa.length).length=true then(24:Int)else 0)=24:=λh=>if_pos<|abi.2 ⟨c,k,a,E,h⟩;refine k1 W aW (by simp only[bo,and_true,m,A]<;>omega) ?_;rw[m,A];refine aC 118 W ?_ ?_<;>intro N
   ·refine bK W W<|ar.of_eq<|congrArg SV.i (s<|by rw[o];exact decide_eq_true<|.inr N).symm
   refine qp W<|gb W ?_ ?_<;>intro V
   ·refine bK W W<|ar.of_eq<|congrArg SV.i (s<|by rw[o];exact decide_eq_true<|.inl E).symm
   refine qp W<|gS (k+1) ⟨E,λj f=>?_⟩;by_cases e:j=k
   ·rw[e,o,decide_eq_true_eq];omega
   exact R j E
  refine qp W<|gS (c+1) ⟨E,λj f q u=>?_⟩;by_cases e:j=c
  ·rw[e]at u⊢;exact R q E
  exact y j E q u
 refine bK W W<|ar.of_eq<|congrArg SV.i (if_neg λe=>?_).symm;obtain⟨j,q,a1,M,L⟩:=abi.1 e;exact y j E q M L
noncomputable def rtQ(p:gV)(sh:List Int)(is:List (List Int))(i k:Nat):Rat:=iK ((is.getD i []).getD k 0-sh.getD ((p.aa.getD i default).ah.getD k default).sh.toNat 0)*bV ((p.aa.getD i default).ah.getD k default).dZ
def aco(p:gV)(b:rA p)(g:∀u∈p.aa,iQ p.n u)(sh:List Int)(is:List (List Int))(s:StV p sh is)(i k:Nat)(hi:i<p.aa.length)(j:k<(p.aa.getD i default).ah.length):
 aM Tryz.prog 36 [bh p,tS false sh is,.i i,.i k] (.s<|qt<|rtQ p sh is i k):=by
 have h:=b.aa;have f:(i:Int).toNat=i:=E;have e:(k:Int).toNat=k:=E;obtain⟨⟨r,t,a⟩,o,q⟩:=s;have hu:=g _<|bw (d:=default) hi;have l:=(b.unit _<|bw (d:=default) hi).ah;have m:=a i hi;have c:=hu.feed _<|bw (d:=default) j;have w:=q _ (bw (d:=([]:List Int))<|show i<is.length from E) _<|bw (d:=(0:Int))<|show k<(is.getD i []).length from E;have v:=o _<|bw (d:=(0:Int))<|show((p.aa.getD i default).ah.getD k default).sh.toNat<sh.length from E;have hm:=gi _ _ (Sz.iK<|(is.getD i []).getD k 0-sh.getD ((p.aa.getD i default).ah.getD k default).sh.toNat 0) (fi c.2.2.1) E;rw[fZ c.2.2.1]at hm;refine bS Tryz.func36 W<|r1 W (by simp only[bo,and_true,f,e]<;>omega) ?_;rw[f,e];refine bH W (rU _ E) W<|bO W W hm W<|Zz W<|bF W
def pn(n:Nat):Nm:=if n<63 then⟨((2^n:Nat):Int),none⟩else⟨1,some<|2^n⟩
def abl(n:Nat):nv (pn n)=((2^n:Nat):Int):=by
 unfold pn;split
 ·rfl
 show(1:Int)*_=_;rw[aew]
def ab6(n:Nat):bj (pn n):=by
 unfold pn;split
 ·rename_i h;have:=adl (n:=2) fh (show n<=62 from E);show(-(2^63):Int)<=((2^n:Nat):Int)/\((2^n:Nat):Int)<=(9223372036854775807:Int);generalize 2^n=m at*;omega
 rename_i h;have:=adl (n:=2) fh (show 63<=n from E);exact⟨.inl W,E⟩
def ab4{n:Nat}(h:n<=80):eE.ae (2^n)=if n<64 then[((2^n:Nat):Int)]else[0,((2^(n-64):Nat):Int)]:=by
 by_cases b:n<64
 ·have:=adl (n:=2) fh (show n<=63 from E);rw[if_pos b];exact eE.mz (adB fh) E
 rw[if_neg b];have c:=adl (n:=2) fh (show n-64<=16 from E);have d:0<2^(n-64):=adB fh;symm;generalize hm:2^(n-64)=m at*;refine eE.tw ?_ (by simp;omega) ?_
 ·intro x a;simp at a;rcases a with rfl|rfl<;>omega
 rw[show n=64+(n-64)from E,ad9,hm];simp[eE.val]
def ab5{n:Nat}(h:n<=80):fV (pn n) 2:=by unfold fV;rw[abl,aeo,ab4 h];split<;>simp
def abM:fV ⟨1,none⟩ 2:=by unfold fV;rw[show(nv ⟨1,none⟩).natAbs=2^0 from W,ab4 fh];decide
def pnS(n:Nat):SV:=if n<63 then .agg [.i ((2^n:Nat):Int),.nil]else .agg [.i 1,.ints .u64 false<|if n<64 then[((2^n:Nat):Int)]else[0,((2^(n-64):Nat):Int)]]
def acI{n:Nat}(h:n<=80):(pnS n).den=(eN<|pn n).den:=by
 unfold pn pnS;by_cases a:n<63
 ·rw[if_pos a,if_pos a];rfl
 rw[if_neg a,if_neg a];unfold eN;rw[show ws ⟨1,some<|2^n⟩=eE.ae (2^n)from W,ab4 h];split<;>rfl
def pwF(e:Int):Fr:=if e<0 then SO ⟨1,none⟩ (pn (-e).toNat)else⟨pn e.toNat,⟨1,none⟩⟩
def acW{R:Option Nat->Prop}{N:Nat}{F:St->Prop}{k:List It}{l l':aU}(h:dn l=dn l')(a:AK R Tryz.prog N F k l'):AK R Tryz.prog N F k l:=by unfold AK at *;rw[h];exact a
def ab7(e:Int)(h: -80<=e/\e<=80):aM Tryz.prog 96 [xv,.i e] (eF<|pwF e):=by
 refine bS Tryz.func96 W<|r1 W ba ?_;have hn:tK false e (0-e)=((e.natAbs:Nat):Int):=by unfold tK;simp;omega
 rw[hn];refine bG W (Ii 2) W<|bP W W (QC ⟨2,none⟩ e.natAbs (show bj ⟨2,none⟩from by unfold bj;decide) (K:=1) (by unfold fV;rw[show(nv ⟨2,none⟩).natAbs=2 from W,eE.mz (f:=2) fh fh];decide) E E) W ?_;generalize eN (xI ⟨2,none⟩ e.natAbs)=X;refine Qr 2 W U<|cx 1 [(1,.i e),(4,.box true<|.agg [.i 0,.nil,.i 0,.nil]),(6,.box true<|pnS e.natAbs)] True ?_ λ_=>?_
 ·have b:e.natAbs<=80:=E;generalize e.natAbs=n at*;refine bQ W W (λ_=>?_) λg=>absurd E g;rcases n with _|_|_|_|_|_|_|_|_|_|_|_|_|_|_|_|_|_|_|_|_|_|_|_|_|_|_|_|_|_|_|_|_|_|_|_|_|_|_|_|_|_|_|_|_|_|_|_|_|_|_|_|_|_|_|_|_|_|_|_|_|_|_|_|_|_|_|_|_|_|_|_|_|_|_|_|_|_|_|_|_|n
  all_goals first|exact absurd b E|(refine r1 rfl ba ?_;exact c5 U)
 have a:=acI (n:=e.natAbs) E;refine acW (l':=sl [(1,.i e),(4,.box true<|.agg [.i 0,.nil,.i 0,.nil]),(6,.box true<|eN<|pn e.natAbs)]) (by simp only[sl,fR,Cl.den,SV.den,a])<|bQ W W ?_ ?_<;>intro g
 ·have hm:=KZ ⟨1,none⟩ (pn e.natAbs) Ga (ab6 _) (by rw[abl];have:=adB (n:=e.natAbs) (show 0<2 from fh);omega) (K:=2) abM (ab5 E) fh;refine bO W W (Ii 1) W<|bO W W hm W<|Zz W<|aE W<|ar.of_eq ?_;unfold pwF;rw[if_pos g,show(-e).toNat=e.natAbs from E];rfl
 refine bP W W (Fs<|pn e.natAbs) W<|bK W W<|ar.of_eq ?_;unfold pwF;rw[if_neg g,show e.toNat=e.natAbs from E];rfl
def abk(e:Int)(h: -80<=e/\e<=80):gW (pwF e) (iK e)/\ri (pwF e) 2:=by
 have c:∀n:Nat,(2:Rat)^n=((2^n:Nat):Rat):=λn=>by rw[Rat.natCast_pow];rfl
 unfold pwF iK;by_cases g:e<0
 ·rw[if_pos g,if_pos g];have d:(0:Int)<((2^(-e).toNat:Nat):Int):=by have:=adB (n:=(-e).toNat) (show 0<2 from fh);omega
  obtain⟨a,b⟩:=BO ⟨1,none⟩ (pn (-e).toNat) Ga (ab6 _) (by rw[abl];omega) abM<|ab5 E;refine⟨?_,b⟩;rw[c];rw[abl,show nv ⟨1,none⟩=1 from W,af0]at a;rw[show((2^(-e).toNat:Nat):Rat)⁻¹ =((1:Int):Rat)/(((2^(-e).toNat:Nat):Int):Rat) by rw[Rat.div_def];simp];exact a
 rw[if_neg g,if_neg g,c];exact⟨⟨ab6 _,Ga,by rw[abl,Rat.num_natCast],by rw[Rat.den_natCast];rfl⟩,ab5 E,abM⟩
end Go.Ai.Pg
section
namespace Go.Proofs
open Go.Shelf
def Tryz.acx_r:Go.Shelf.Ren:=⟨fun|283=>352|n=>n,fun|3=>3|9=>9|4=>4|n=>n,fun|n=>n⟩
theorem Tryz.acx:Go.Proofs.Lays.n283 Tryz.prog Tryz.acx_r where
 mixed:=by kernel_rfl
 f283:=Tryz.func352.trans (congrArg some (by kernel_rfl))
 t3:=Tryz.underlying3
 a3:=Tryz.isAgg3
 z3:=Tryz.sizeOf3
 v3:=Tryz.zeroValue3
 t4:=Tryz.underlying4
 a4:=Tryz.isAgg4
 z4:=Tryz.sizeOf4
 v4:=Tryz.zeroValue4
 t9:=Tryz.underlying9
 a9:=Tryz.isAgg9
 z9:=Tryz.sizeOf9
 v9:=Tryz.zeroValue9
def Tryz.acw_r:Go.Shelf.Ren:=⟨fun|284=>353|129=>285|317=>370|318=>371|n=>n,fun|53=>311|3=>3|212=>429|0=>0|4=>4|46=>225|5=>5|9=>9|n=>n,fun|17=>5|n=>n⟩
theorem Tryz.acw:Go.Proofs.LaysM.n284 Tryz.prog Tryz.acw_r where
 mixed:=by kernel_rfl
 f129:=Tryz.func285.trans (congrArg some (by kernel_rfl))
 f284:=Tryz.func353.trans (congrArg some (by kernel_rfl))
 f317:=Tryz.func370.trans (congrArg some (by kernel_rfl))
 f318:=Tryz.func371.trans (congrArg some (by kernel_rfl))
 t0:=Tryz.underlying0
 a0:=Tryz.isAgg0
 z0:=Tryz.sizeOf0
 v0:=Tryz.zeroValue0
 t3:=Tryz.underlying3
 a3:=Tryz.isAgg3
 z3:=Tryz.sizeOf3
 v3:=Tryz.zeroValue3
 t4:=Tryz.underlying4
 a4:=Tryz.isAgg4
 z4:=Tryz.sizeOf4
 v4:=Tryz.zeroValue4
 t5:=Tryz.underlying5
 a5:=Tryz.isAgg5
 z5:=Tryz.sizeOf5
 v5:=Tryz.zeroValue5
 t9:=Tryz.underlying9
 a9:=Tryz.isAgg9
 z9:=Tryz.sizeOf9
 v9:=Tryz.zeroValue9
 t46:=Tryz.underlying225
 a46:=Tryz.isAgg225
 z46:=Tryz.sizeOf225
 v46:=Tryz.zeroValue225
 t53:=Tryz.underlying311
 a53:=Tryz.isAgg311
 z53:=Tryz.sizeOf311
 v53:=Tryz.zeroValue311
 t212:=Tryz.underlying429
 a212:=Tryz.isAgg429
 z212:=Tryz.sizeOf429
 v212:=Tryz.zeroValue429
 g17:=by kernel_rfl
 i0:=by kernel_rfl
 i3:=by kernel_rfl
 i4:=by kernel_rfl
 i5:=by kernel_rfl
 i9:=by kernel_rfl
 i46:=by kernel_rfl
 i53:=by kernel_rfl
 i212:=by kernel_rfl
 m17:=by kernel_rfl
def Tryz.acv_r:Go.Shelf.Ren:=⟨fun|285=>354|n=>n,fun|37=>372|53=>311|3=>3|4=>4|51=>308|9=>9|5=>5|0=>0|n=>n,fun|n=>n⟩
theorem Tryz.acv:Go.Proofs.Lays.n285 Tryz.prog Tryz.acv_r where
 mixed:=by kernel_rfl
 f285:=Tryz.func354.trans (congrArg some (by kernel_rfl))
 t0:=Tryz.underlying0
 a0:=Tryz.isAgg0
 z0:=Tryz.sizeOf0
 v0:=Tryz.zeroValue0
 t3:=Tryz.underlying3
 a3:=Tryz.isAgg3
 z3:=Tryz.sizeOf3
 v3:=Tryz.zeroValue3
 t4:=Tryz.underlying4
 a4:=Tryz.isAgg4
 z4:=Tryz.sizeOf4
 v4:=Tryz.zeroValue4
 t5:=Tryz.underlying5
 a5:=Tryz.isAgg5
 z5:=Tryz.sizeOf5
 v5:=Tryz.zeroValue5
 t9:=Tryz.underlying9
 a9:=Tryz.isAgg9
 z9:=Tryz.sizeOf9
 v9:=Tryz.zeroValue9
 t37:=Tryz.underlying372
 a37:=Tryz.isAgg372
 z37:=Tryz.sizeOf372
 v37:=Tryz.zeroValue372
 t51:=Tryz.underlying308
 a51:=Tryz.isAgg308
 z51:=Tryz.sizeOf308
 v51:=Tryz.zeroValue308
 t53:=Tryz.underlying311
 a53:=Tryz.isAgg311
 z53:=Tryz.sizeOf311
 v53:=Tryz.zeroValue311
open Go.Shelf Go.RowKit Go.Sort Go.Lib
def Tryz.abI(i:Nat)(h:i<100)(w:World):Calls Tryz.prog 352 #[.int .i64 i] w λe w'=>e=.returned (.string ⟨(Lib.decDigits i).toArray⟩)/\w'=w:=Any.internal_strconv_small Tryz.acx i h w
def Tryz.abF(u:Nat)(c:1<=u)(b:u<2^64)(w:World)(a:Lib.TabIs Tryz.prog w "internal/strconv.uint64pow10" .u64 Lib.pow10Tab):Calls Tryz.prog 353 #[.int .u64 u] w λe w'=>e=.returned (.int .i64<|Lib.nDigits u)/\w'=w:=Any.internal_strconv_numDigits Tryz.acw u c b w a
end Go.Proofs
end
namespace Go.Proofs
open Go.Shelf Go.RowKit Go.Sort Go.Lib
def abB(w:World)(T:TypeId)(a:Nat)(hs:a<=24):Holds (λ(b:UInt8)=>Value.int .u8 (b.toNat:Int)) (w.alloc<|.cells zeros24 T) w.heap.size 0 (Array.replicate a (0:UInt8)):=λj c=>by
 have d:j<a:=by simpa using c
 refine⟨?_,World.frozen?_alloc_new _ _ _ _⟩;rw[World.cell?_alloc_new,zeros24_at _ E,getElem!_pos _ j c];simp
def ac4(w:World)(o:Obj)(c:Array UInt8)(k:Nat):∃os,(putRow (λ(b:UInt8)=>Value.int .u8 (b.toNat:Int)) (w.alloc o) w.heap.size 0 c).drewN k=grow (w.drewN k) os:=by rw[alloc_eq_grow];obtain⟨a,_,e⟩:=putRow_grow_new (λ(b:UInt8)=>Value.int .u8 (b.toNat:Int)) w #[o] w.heap.size 0 c<|abO _;exact⟨a,by rw[e];rfl⟩
theorem Tryz.ac3(u:Nat)(hu64:u<2^64)(w:World)(htab:Lib.TabIs Tryz.prog w "internal/strconv.uint64pow10" .u64 Lib.pow10Tab):
 Calls Tryz.prog 335 #[.int .u64 u,.int .i64 10] w λe w'=>e=.returned (.string ⟨(Lib.decDigits u).toArray⟩)/\∃k os,w'=grow (w.drewN k) os:=by
 by_cases hs:u<100
 ·go_enter Tryz.func335,Tryz.ntmps335
  go_wp2_with (go_at_call 352;refine(Tryz.abI u hs _).mono ?_;rintro e w'⟨rfl,rfl⟩)
  go_ret
  exact⟨rfl,0,#[],by simp[World.drewN_zero]⟩
 have hu1:1<=u:=E;have hnd20:Lib.nDigits u<=20:=by have:=Lib.numDigits_eq u hu1 hu64;split at this<;>omega
 have hal:Tryz.prog.arrayLen 410=24:=by simp[Program.arrayLen,Tryz.underlying410]
 have hsl1:∀W,(Instr.sliceAt 410 (.pointer<|some ⟨w.heap.size,0,none⟩) none (some<|.int .i64 (Lib.nDigits u:Int)) none).run Tryz.prog W=.ok (.slice (some ⟨w.heap.size,0,none⟩) (Lib.nDigits u) 24) W:=λW=>by
  rw[run_sliceAt_array_h W 410 ⟨w.heap.size,0,none⟩ (by simp[Program.arrayLen,Program.elem,Tryz.underlying410]) .i64 (Lib.nDigits u:Int) E<|by rw[hal];omega]
  go_simp
  try omega
 have hH0:=abB w 410 (Lib.nDigits u) E;have hfmt:=Any.internal_strconv_formatBase10 Tryz.acv w.heap.size 0 24 u (Array.replicate (Lib.nDigits u) 0) (w.alloc<|.cells Lib.zeros24 410) hH0 (by rw[agD];exact Lib.lt_pow_nDigits u) hu64 (by rw[agD];omega);rw[agD]at hfmt;have hfmt:Calls Tryz.prog 354 #[.slice (some ⟨w.heap.size,0,none⟩) (Lib.nDigits u) 24,.int .u64 u] (w.alloc<|.cells Lib.zeros24 410) _:=hfmt;have HH0:=Lib.hid hH0;clear hH0 hal
 go_enter Tryz.func335,Tryz.ntmps335
 go_wp2_with (first
  |(go_at_call 353;refine(Tryz.abF u hu1 hu64 _<|Lib.tabIs_alloc htab _).mono ?_;rintro e w'⟨rfl,rfl⟩))
 go_at_call 354
 refine hfmt.mono ?_;rintro e w'⟨rfl,k,v',dk,rfl,hF⟩;have hcv:(convert 372 9 (.slice (some ⟨w.heap.size,0,none⟩) (Lib.nDigits u) 24)).run Tryz.prog ((putRow (λ(b:UInt8)=>Value.int .u8 (b.toNat:Int)) (w.alloc<|.cells Lib.zeros24 410) w.heap.size 0 dk).drewN k)=.ok (.string ⟨(Lib.decDigits u).toArray⟩) ((putRow (λ(b:UInt8)=>Value.int .u8 (b.toNat:Int)) (w.alloc<|.cells Lib.zeros24 410) w.heap.size 0 dk).drewN k):=by
  have h:=run_convert_bytes_back (P:=Tryz.prog) ((putRow (λ(b:UInt8)=>Value.int .u8 (b.toNat:Int)) (w.alloc<|.cells Lib.zeros24 410) w.heap.size 0 dk).drewN k) 372 9 5 ⟨w.heap.size,0,none⟩ 24 (Lib.decDigits u) Tryz.underlying372 Tryz.underlying5 Tryz.underlying9 (λj hj=>by rw[Lib.row_is_numeral hF j hj,Lib.add_plain,World.cell?_drewN];exact cell?_putRow (λ(b:UInt8)=>Value.int .u8 (b.toNat:Int)) _ w.heap.size 0 _ dk HH0.out (by rw[hF.size,agD]) j<|by rw[hF.size];rw[Lib.decDigits_length]at hj;exact hj)
  rw[Lib.decDigits_length]at h;exact h
 go_wp2
 go_ret
 obtain⟨os,eo⟩:=ac4 w (.cells Lib.zeros24 410) dk k;exact⟨rfl,k,os,eo⟩
end Go.Proofs
namespace Go.Ai.Pg
open Go.Proofs Go.Ai Go.Ai.eE
def acK(u:Nat)(hu:u<2^64):aM Tryz.prog 335 [.n .u64 u,.i 10] (.s<|decl u 1):=by intro w S p j g hc;simp only[aB,Cells]at hc;obtain⟨y,r,A,z,rfl,t,_,d,m,q,x,v,rfl,l,_,a,rfl,rfl⟩:=hc;simp only[SV.den,Rel]at d a;obtain⟨_,rfl,rfl⟩:=d;obtain⟨_,rfl,rfl⟩:=a;refine vh.BJ (fn:=Tryz.f335) Tryz.func335 W W<|(Tryz.ac3 u hu w j).mono ?_;rintro e o⟨rfl,k,os,rfl⟩;have f:=LR w k os;exact⟨_,W,S,[],f,λ_ h=>h,λ_ h=>.inl h,λb c=>adp (g b c) f.size,by simp[SV.den,Rel,scalar,bs,decDigits_eq],adq,I⟩
def acT(u:Nat)(hu:u<2^64):aM Tryz.prog 304 [.n .u64 u,.i 10] (.s<|decl u 1):=by refine bS Tryz.func304 W<|bP W W (acK u hu) W<|bN W W
def acs(c:UInt8)(t:ck)(hl:t.length<2^40):aM Tryz.prog 291 [.s<|c::t,.s [48]] (.u<|decide (c=48)):=by refine bS Tryz.func291 W<|bJ W 10 W (λh=>?_) λh=>absurd (show((1:Nat):Int)<=((t.length+1:Nat):Int)from E) h;refine r1 W (by simp only[bo,and_true,ab2,acQ]<;>omega) ?_;refine aE W<|ar.of_eq<|congrArg SV.u ?_;have e:(List.drop 0 (List.take (([48]:ck).length:Int).toNat<|c::t))=[c]:=I;rw[e,decide_eq_decide];simp
def abK(c:UInt8)(t:ck)(hl:t.length<2^40):aM Tryz.prog 252 [.s<|c::t,.s [48]] (.u<|decide (c=48)):=by refine bS Tryz.func252 W<|bP W W (acs c t hl) W<|bN W W
def acH(n:Nat)(hn:n<=64):aM Tryz.prog 305 [.s [48],.i n] (.s<|List.replicate n 48):=by
 refine bS Tryz.func305 W<|bQ W W ?_ ?_<;>intro h
 ·have:n=0:=E;subst this;refine bN W W
 refine bQ W W ?_ ?_<;>intro b
 ·have:n=1:=E;subst this;refine bN W W
 refine bQ W W (λa=>absurd a E) λ_=>?_;refine kw [23,25] W W U<|JJ (us:=[.n .u64 (1:Nat),.n .u64 n]) W W U ⟨W,congrArg (SV.n .u64)<|wr E,U⟩ (Ip 1 n fh E) W ?_;rw[Nat.one_mul,adO (E:n<2^64),adQ (E:n<2^64)];refine bJ W 31 W (λh=>absurd h fh) λ_=>?_;refine bQ W W (λh=>absurd h E) λ_=>?_;refine r1 W ba<|gb W (λh=>absurd h fh) λ_=>?_;refine r1 W (by simp only[bo,and_true]<;>decide) ?_;refine gb W (λh=>absurd h fh) λ_=>?_;refine bQ W W (λh=>absurd h fh) λ_=>?_;refine bQ W W (λ_=>?_) λh=>absurd W h;refine bQ W W (λ_=>?_) λh=>absurd W h;refine bJ W 52 W (λh=>?_) λh=>absurd (show(n:Int)<=128 from E) h;refine bP W W (abK _ _ fh) W<|bQ W W (λh=>absurd h fh) λ_=>?_;refine bJ W 61 W (λh=>?_) λh=>absurd (show(n:Int)<=128 from E) h;refine bP W W (abK _ _ fh) W<|bQ W W (λh=>absurd h fh) λ_=>?_;refine bJ W 70 W (λh=>?_) λh=>absurd (show(n:Int)<=64 from E) h;refine bP W W (abK _ _ fh) W<|bQ W W (λ_=>?_) λh=>absurd W h;refine r1 W (by simp only[bo,and_true]<;>simp<;>omega) ?_;refine aE W<|ar.of_eq<|congrArg SV.s ?_;show List.drop 0 (List.take (n:Int).toNat<|List.replicate 64 48)=_;rw[adZ,adF,List.take_replicate,aeu hn]
end Go.Ai.Pg
section
namespace Go.Lib
open Go.Proofs
variable{P:Program}{w:World}
def abt(t u ty e:TypeId)(i:TypeInfo)(r:P.underlying t=some (.slice e))(hu:P.underlying u=some .string)(hi:P.info? e=some i)(y:i.zero=some (.int .u8 0))
 (a:i.size=1)(m:i.bytes=1)
 (v:Value)(n:Nat)(xs:List Value)(b:w.ownsRow 0 e 1 v n xs)(s:ByteArray)
 (o:n+s.size<=maxLen)(c:n+s.size<=140737488355328):
 ∃p w',(Builtin.append_ #[t,u] ty #[v,.string s]).run P w=.ok p w'/\w'.ownsRow 0 e 1 p (n+s.size) (xs++strCells s)/\w.grownBy w' v.ownBlock/\(∀g,p.ownBlock=some g->v.ownBlock=some g\/w.heap.size<=g):=by
 obtain⟨p,w',x,O,N,S⟩:=run_append_own_string (P:=P) w 0 t u ty e i r hu hi y a m v n xs b s o c<|abv _;refine⟨p,w',x,O,N,λT d=>?_⟩;have z:xs.length=n:=by simpa using b.1
 rcases b.2 with⟨rfl,rfl⟩|⟨g,f,q,rfl,L,J,H,K,B,A⟩
 ·have l:w.ownsRow w.heap.size e 1 (.slice none 0 0) 0 xs:=⟨b.1,.inl G⟩;obtain⟨R,Q,k1,k2,-,-⟩:=run_append_own_string (P:=P) w w.heap.size t u ty e i r hu hi y a m _ 0 xs l s o c<|abO _;rw[x]at k1;simp only[Result.ok.injEq]at k1;obtain⟨rfl,rfl⟩:=k1;right;rcases k2.2 with⟨rfl,-⟩|⟨g2,F,D,rfl,M,-⟩
  ·simp[Value.ownBlock]at d
  simp only[Value.ownBlock,abg]at d;omega
 by_cases h:n+s.size<=f
 ·have C:q.size=f:=by simpa using B
  have k:=run_append_room_string (P:=P) (w:=w) t u ty e i r hu hi a g n f q J s h E;rw[x]at k;simp only[Result.ok.injEq]at k;obtain⟨rfl,-⟩:=k;left;simpa[Value.ownBlock]using d
 have holds:∀j u,xs[j]?=some u->w.cell? ((⟨g,0,none⟩:Addr).add j)=some u:=b.cells (g:=g) W;have k:=run_append_grow_string (P:=P) (w:=w) t u ty e i (.int .u8 0) r hu hi y ⟨g,0,none⟩ n f xs (by rw[a];simpa using z) holds s E (by simp only[maxLen]at o;omega) (by rw[m];exact growslice_fits E E);rw[x]at k;simp only[Result.ok.injEq]at k;obtain⟨rfl,-⟩:=k;right;simp only[Value.ownBlock,abg]at d;omega
def aa7{ops:Array Oper}{rest:List Oper}{o:Oper}{a:Act}{Q:Exit->Act->World->Prop}(l:o.guard=none)(sl x:Operand)(t u:TypeId)
 (A:o.op=.call {callee:=.builtin .append,args:=#[sl,x],argTypes:=#[t,u]})
 (e:TypeId)(i:TypeInfo)(y:P.underlying t=some (.slice e))(hu:P.underlying u=some .string)(hi:P.info? e=some i)(q:i.zero=some (.int .u8 0))
 (c:i.size=1)(m:i.bytes=1)
 (v:Value)(n:Nat)(k:List Value)(hs:a.eval sl=v)(j:w.ownsRow 0 e 1 v n k)(s:ByteArray)(r:a.eval x=.string s)
 (p:n+s.size<=maxLen)(b:n+s.size<=140737488355328)
 (h:∀f d,d.ownsRow 0 e 1 f (n+s.size) (k++strCells s)->w.grownBy d v.ownBlock->(∀g,f.ownBlock=some g->v.ownBlock=some g\/w.heap.size<=g)->wpList P ops Q rest (a.put o.dst f) d):wpList P ops Q (o::rest) a w:=by
 refine wpList_plain l λK B=>?_;obtain⟨f,d,z,F,D,C⟩:=abt (P:=P) (w:=w) t u o.type e i y hu hi q c m v n k j s p b;unfold Oper.wp execOp;simp only[A,resolve,invoke,builtin,Sem.run_bind,Sem.run_pure,Result.andThen_ok,List.map_toArray,ads,ad8,hs,r,z];exact B _ _<|h f d F D C
end Go.Lib
end
namespace Go.Proofs
open Go.Shelf Go.RowKit Go.Sort Go.Lib
def Tryz.acD:(Tryz.prog.info? 374).map (·.size)=some 2:=by kernel_rfl
def Tryz.acS:liesAt Tryz.prog Tryz.prog.depth 374 (2/Tryz.prog.cellsOf 374) 0 374 1=true:=by kernel_rfl
theorem Tryz.acC(b:Nat)(w:World)(h0:w.cell? ⟨b,0,none⟩=some (.pointer<|some ⟨b,0,none⟩)):
 Calls Tryz.prog 338 #[.pointer (some ⟨b,0,none⟩)] w λe w'=>e=.returned (.tuple #[])/\w'=w:=by
 obtain⟨j,hj,_⟩:=adV.1 Tryz.acD
 go_enter Tryz.func338,Tryz.ntmps338
 go_wp2
 rw[Lib.run_neq_ptr_same w _ Tryz.underlying371 hj]
 go_wp2
 go_end0
 exact G
theorem Tryz.aci(b:Nat)(w:World)(h0:w.cell? ⟨b,0,none⟩=some (.pointer none))(hsh:w.shape? b=some (374,2))(hfz:w.frozen? ⟨b,0,none⟩=false):
 Calls Tryz.prog 338 #[.pointer (some ⟨b,0,none⟩)] w λe w'=>e=.returned (.tuple #[])/\w'=w.setCell ⟨b,0,none⟩ (.pointer<|some ⟨b,0,none⟩):=by
 obtain⟨j,hj,hjs⟩:=adV.1 Tryz.acD
 go_enter Tryz.func338,Tryz.ntmps338
 go_wp2
 rw[Lib.run_to_unsafe w ⟨b,0,none⟩ Tryz.underlying371 Tryz.underlying414 hj (by rw[hjs];decide) hsh<|Nat.zero_lt_succ 1];simp only[Result.andThen];rw[Oper.upon_value]
 go_wp2
 rw[run_callFunc_extern Tryz.func357 (by kernel_rfl) (by kernel_rfl) (by kernel_rfl) (e:=Extern.AbiNoEscape.same)<|by kernel_rfl];rw[Lib.run_noEscape];simp only[Result.andThen];rw[Oper.upon_value]
 go_wp2
 rw[Lib.run_from_unsafe w ⟨b,0,none⟩ Tryz.underlying414 Tryz.underlying371 hj hsh Tryz.acS];simp only[Result.andThen];rw[Oper.upon_value]
 go_wp2
 go_end0
 exact G
def Tryz.cc(b:Nat)(p v:Value)(bs:List Value)(w:World)(h:p=.pointer none\/p=.pointer (some ⟨b,0,none⟩))(c:w.heap[b]?=some (.cells #[p,v] 374 (0,0)))(a:w.ownsRow 0 5 1 v bs.length bs)(d:v.ownBlock≠some b):
 Calls Tryz.prog 338 #[.pointer (some ⟨b,0,none⟩)] w λe w'=>e=.returned (.tuple #[])/\w'.heap[b]?=some (.cells #[.pointer (some ⟨b,0,none⟩),v] 374 (0,0))/\w'.ownsRow 0 5 1 v bs.length bs/\w.grownBy w' (some b):=by
 rcases h with rfl|rfl
 ·have f:Lib.BuilderAt 374 5 0 b (.pointer none) bs w:=⟨abv _,v,c,a,d⟩;refine(Tryz.aci b w f.cell0 f.shape f.frozen0).mono ?_;rintro e w'⟨rfl,rfl⟩;have g:w.grownBy (w.setCell ⟨b,0,none⟩<|.pointer<|some ⟨b,0,none⟩) (some b):=⟨W,W,W,by simp[World.setCell],λk _ i=>Below.heap_setCell _ _ _ _ λe=>i<|by simp[e]⟩;refine⟨W,by simp[World.setCell,Array.getElem?_modify,c],a.kept (row:=some b) g<|Or.inr d,g⟩
 have f:Lib.BuilderAt 374 5 0 b (.pointer<|some ⟨b,0,none⟩) bs w:=⟨abv _,v,c,a,d⟩;refine(Tryz.acC b w f.cell0).mono ?_;rintro e w'⟨rfl,rfl⟩;exact⟨W,c,a,W,W,W,abO _,λ_ _ _=>rfl⟩
theorem Tryz.wrS(b:Nat)(p v:Value)(bs:List Value)(s:ByteArray)(w:World)(hp:p=.pointer none\/p=.pointer (some ⟨b,0,none⟩))(hbk:w.heap[b]?=some (.cells #[p,v] 374 (0,0)))(hown:w.ownsRow 0 5 1 v bs.length bs)(hne:v.ownBlock≠some b)(hlen:bs.length+s.size<=140737488355328):
 Calls Tryz.prog 306 #[.pointer (some ⟨b,0,none⟩),.string s] w λe w'=>e=.returned (.tuple #[.int .i64 s.size,.nilIface])/\∃v',w'.heap[b]?=some (.cells #[.pointer (some ⟨b,0,none⟩),v'] 374 (0,0))/\
  w'.ownsRow 0 5 1 v' (bs++Lib.strCells s).length (bs++Lib.strCells s)/\v'.ownBlock≠some b/\(∀g,v'.ownBlock=some g->v.ownBlock=some g\/w.heap.size<=g)/\
  w'.os=w.os/\w'.tape=w.tape/\w'.output=w.output/\w.heap.size<=w'.heap.size/\∀k,k<w.heap.size->k≠b->v.ownBlock≠some k->w'.heap[k]?=w.heap[k]?:=by
 have hib:(Tryz.prog.info? 5).map (λi=>(i.zero,i.size,i.bytes))=some (some<|.int .u8 0,1,1):=by kernel_rfl
 obtain⟨i0,hi,hz0,hz1,hz2⟩:=info_parts hib
 go_enter Tryz.func306,Tryz.ntmps306
 go_wp2_with (go_at_call 338;refine(Tryz.cc b p v bs _ hp hbk hown hne).mono ?_)
 rintro e w1⟨rfl,hbk,hown,hg1⟩;have c0:w1.cell? ⟨b,0,none⟩=some (.pointer<|some ⟨b,0,none⟩):=by rw[Lib.cell_of_heap hbk];rfl
 have c1:w1.cell? ⟨b,1,none⟩=some v:=by rw[Lib.cell_of_heap hbk];rfl
 go_wp2_with (at_builtin;refine Lib.aa7 W _ _ 372 9 W 5 i0 Tryz.underlying372 Tryz.underlying9 hi hz0 hz1 hz2 _ _ _ W hown s W ?c3 ?c4 ?_)
 case c3=>unfold maxLen;omega
 case c4=>omega
 intro v' w2 hown' hgrow hnew;have hlt:b<w1.heap.size:=by
  rcases ac8 b w1.heap.size with h'|h'
  ·exact h'
  simp[agc h']at hbk
 have hb2:w2.heap[b]?=some (.cells #[.pointer (some ⟨b,0,none⟩),v] 374 (0,0)):=by rw[hgrow.block b hlt λe=>hne e.symm];exact hbk
 have d0:w2.cell? ⟨b,0,none⟩=some (.pointer<|some ⟨b,0,none⟩):=by rw[Lib.cell_of_heap hb2];rfl
 have d1:w2.cell? ⟨b,1,none⟩=some v:=by rw[Lib.cell_of_heap hb2];rfl
 have f1:w2.frozen? ⟨b,1,none⟩=false:=Lib.frozen_of_heap hb2 1;obtain⟨ao,n',cap,rfl⟩:∃ao n' cap,v'=.slice ao n' cap:=by
  rcases hown'.2 with⟨hv,_⟩|⟨g,cap,cur,hv,_⟩
  ·exact⟨_,_,_,hv⟩
  exact⟨_,_,_,hv⟩
 go_wp2
 go_ret2
 have hne':=Lib.ownBlock_ne hown' hb2 (fh:(374:TypeId)≠5);have hg3:w2.grownBy (w2.setCell ⟨b,1,none⟩<|.slice ao n' cap) (some b):=⟨W,W,W,by simp[World.setCell],λk _ hk=>Below.heap_setCell _ _ _ _ λe=>hk<|by simp[e]⟩;have hs1:=hg1.size;have hs2:=hgrow.size;have hs3:=hg3.size;refine⟨W,.slice ao n' cap,by simp[World.setCell,Array.getElem?_modify,hb2],?_,hne',λg hg=>(hnew g hg).imp id λh=>E,?_,?_,?_,E,λk hk hkb hkv=>?_⟩
 ·have:=hown'.kept (row:=some b) hg3 (Or.inr hne');simpa[Lib.strCells_length]using this
 ·exact(hg3.os.trans hgrow.os).trans hg1.os
 ·exact(hg3.tape.trans hgrow.tape).trans hg1.tape
 ·exact(hg3.output.trans hgrow.output).trans hg1.output
 have e1:some k≠some b:=λe=>hkb (by simpa using e);rw[hg3.block k E e1,hgrow.block k E λe=>hkv e.symm,hg1.block k hk e1]
def abu(w:World)(g n:Nat):(w.drew.freeze ⟨g,0,none⟩ n).os=w.os/\(w.drew.freeze ⟨g,0,none⟩ n).tape=w.tape/\(w.drew.freeze ⟨g,0,none⟩ n).output=w.output/\w.heap.size<=(w.drew.freeze ⟨g,0,none⟩ n).heap.size/\
 ∀k,k≠g->(w.drew.freeze ⟨g,0,none⟩ n).heap[k]?=w.heap[k]?:=by
 unfold World.freeze;split
 ·exact⟨W,W,W,abO _,λ_ _=>rfl⟩
 refine⟨W,W,W,?_,λk h=>?_⟩
 ·simp only[Array.size_modify];exact abO _
 show(w.heap.modify g _)[k]?=_;rw[Array.getElem?_modify,if_neg λe=>h e.symm]
theorem Tryz.ac5(b:Nat)(p v:Value)(l:List UInt8)(w:World)(hbk:w.heap[b]?=some (.cells #[p,v] 374 (0,0)))(hown:w.ownsRow 0 5 1 v (Lib.byteCells l).length (Lib.byteCells l))(h0:l≠[]):
 Calls Tryz.prog 307 #[.pointer (some ⟨b,0,none⟩)] w λe w'=>e=.returned (.string ⟨l.toArray⟩)/\
  w'.os=w.os/\w'.tape=w.tape/\w'.output=w.output/\w.heap.size<=w'.heap.size/\∀k,k<w.heap.size->v.ownBlock≠some k->w'.heap[k]?=w.heap[k]?:=by
 have hl0:l.length≠0:=by simpa using h0
 rw[Lib.byteCells_length]at hown;obtain⟨g,cap,cur,rfl,hbg,hg,hnc,hcm,hcs,htake⟩:∃g cap cur,v=.slice (some ⟨g,0,none⟩) l.length cap/\0<=g/\w.heap[g]?=some (.cells cur 5 (0,0))/\l.length<=cap/\cap<=maxLen/\cur.size=cap*1/\cur.toList.take (l.length*1)=Lib.byteCells l:=by
  rcases hown.2 with⟨_,hz⟩|⟨g,cap,cur,hv,r⟩
  ·exact absurd hz hl0
  exact⟨g,cap,cur,hv,r⟩
 have c1:w.drew.cell? ⟨b,1,none⟩=some (.slice (some ⟨g,0,none⟩) l.length cap):=by have:w.drew.heap[b]?=some (.cells #[p,.slice (some ⟨g,0,none⟩) l.length cap] 374 (0,0)):=hbk;rw[Lib.cell_of_heap this];rfl
 have hSD:(Builtin.unsafeSliceData_ #[372] 396 #[.slice (some ⟨g,0,none⟩) l.length cap]).run Tryz.prog w.drew=.ok (.pointer<|some ⟨g,0,none⟩) w.drew:=Lib.run_unsafeSliceData_row _ _ _ _ _ _ E
 have hUS:(Builtin.unsafeString_ #[396,3] 9 #[.pointer (some ⟨g,0,none⟩),.int .i64 l.length]).run Tryz.prog w.drew=.ok (.string ⟨l.toArray⟩) (w.drew.freeze ⟨g,0,none⟩ l.length):=by refine Lib.run_unsafeString_row w.drew 396 3 9 5 Tryz.underlying396 (by kernel_rfl) g cur.size (by have hg':w.drew.heap[g]?=some (.cells cur 5 (0,0)):=hg;simp[World.shape?,hg']) l h0 E (by unfold maxLen at hcm;omega) ?_;intro j x hx;have:=hown.cells (g:=g) W j (.int .u8 x.toNat) (by simp[Lib.byteCells,hx]);exact this
 have hfr:=abu w g l.length;have mixed:Tryz.prog.follows .mixedOrders=true:=fb
 go_enter Tryz.func307,Tryz.ntmps307
 go_wp2
 go_region_o
 all_goals(go_wp2;go_ret;exact⟨W,hfr.1,hfr.2.1,hfr.2.2.1,hfr.2.2.2.1,λk _ hkv=>hfr.2.2.2.2 k λe=>hkv<|by simp[Value.ownBlock,e]⟩)
end Go.Proofs
namespace Go.Ai.Pg
open Go.Proofs Go.Ai Go.Ai.eE
def Bld(b:Nat)(l:ck):tD:=λw _ F=>∃p v,(p=.pointer none\/p=.pointer (some ⟨b,0,none⟩))/\w.heap[b]?=some (.cells #[p,v] 374 (0,0))/\w.ownsRow 0 5 1 v (Lib.byteCells l).length (Lib.byteCells l)/\v.ownBlock≠some b/\F=b::v.ownBlock.toList
def Bld.closed{b:Nat}{l:ck}{w:World}{S:Nat->Prop}{F:List Nat}(h:Bld b l w S F):tD.here (Bld b l) w S F:=by
 intro n o f _;obtain⟨p,v,k,m,e,a,rfl⟩:=h;refine⟨p,v,k,by rw[f b<|.inr I];exact m,?_,a,W⟩;refine⟨e.1,?_⟩;rcases e.2 with h|⟨g,d,c,rfl,r1,j,i⟩
 ·exact .inl h
 exact .inr ⟨g,d,c,W,r1,by rw[f g<|.inr<|by simp[Value.ownBlock]];exact j,i⟩
def Bld.new(b:Nat)(w:World)(S:Nat->Prop)(h:w.heap[b]?=some (.cells #[.pointer none,.slice none 0 0] 374)):Bld b [] w S [b]:=⟨_,_,.inl W,h,⟨W,.inl G⟩,by simp[Value.ownBlock],W⟩
def abm(b:Nat)(l s:ck)(hl:l.length+s.length<2^46):ZP Tryz.prog 306 (·=.pointer (some ⟨b,0,none⟩)) (Bld b l) (Bld b<|l++s) (aB [.s s]) (SV.bW [.i s.length,.c .nilIface]).den:=by
 rintro v rfl w S F Q V T K D z x hc;obtain⟨p,v,B,J,C,m,rfl⟩:=K w S (λ_ _=>rfl) λ_ h=>h;simp only[aB,Cells]at hc;obtain⟨y,R,F1,Z,rfl,L,_,u,rfl,rfl⟩:=hc;simp only[SV.den,Rel]at u;obtain⟨_,rfl,rfl⟩:=u;have d:(bs s).size=s.length:=by show s.toArray.size=_;simp
 refine vh.BJ (fn:=Tryz.f306) Tryz.func306 W W<|(Tryz.wrS b p v (Lib.byteCells l) (bs s) w B J C m<|by rw[Lib.byteCells_length,d];omega).mono ?_;rintro e j⟨rfl,a,k1,k2,k3,k4,k5,k6,k7,k8,k9⟩;have M:Lib.byteCells l++Lib.strCells (bs s)=Lib.byteCells (l++s):=by rw[Lib.byteCells_append];rfl
 rw[M]at k2;have q:b<j.heap.size:=by apply adT;intro h;rw[agc E]at k1;simp at k1
 have t:Bld b (l++s) j S (b::a.ownBlock.toList):=⟨_,a,.inr W,k1,k2,k3,W⟩;have n:∀g,a.ownBlock=some g->g<j.heap.size:=by
  intro g o;rcases k2.2 with⟨rfl,-⟩|⟨X,O,N,rfl,-,r,-⟩
  ·simp[Value.ownBlock]at o
  simp only[Value.ownBlock,abg]at o;subst o;apply adT;intro h;rw[agc E]at r;simp at r
 refine⟨_,W,S,b::a.ownBlock.toList,k5,k6,k7,k8,λk H f=>k9 k H (λe=>f<|by simp[e]) λe=>f<|by simp[e],λ_ h=>h,λ_ h=>.inl h,λc hc=>adp (x c hc) k8,t.closed,?_,?_,?_⟩
 ·cases A:a.ownBlock with
  |none=>simp
  |some g=>rw[A]at k3;simp at k3⊢;exactλe=>k3 e.symm
 ·intro c hc;rcases ack.1 hc with rfl|hc
  ·exact⟨.inr I,q,(z _ I).2⟩
  have hc:a.ownBlock=some c:=by simpa using hc
  refine⟨(k4 c hc).symm.imp id λh=>by simp[h],n c hc,?_⟩;rcases k4 c hc with h|h
  ·exact(z c<|by simp[h]).2
  exactλhs=>by have:=x c hs;omega
 intro P Y;simp only[SV.den,aB,Rel,Cells];refine⟨_,W,_,_,[],[],W,W,I,?_,_,_,[],[],W,W,I,?_,W,W⟩
 ·simp[Rel,scalar,d]
 simp[Rel,scalar]
def acX:tD:=λ_ _ F=>F=[]
def abz(b:Nat)(l:ck)(o:l≠[]):ZP Tryz.prog 307 (·=.pointer (some ⟨b,0,none⟩)) (Bld b l) acX (aB []) (SV.s l).den:=by rintro v rfl w S F r x u n g y m hc;obtain⟨p,v,t,j,d,f,rfl⟩:=n w S (λ_ _=>rfl) λ_ h=>h;simp only[aB,Cells]at hc;obtain⟨rfl,-⟩:=hc;refine vh.BJ (fn:=Tryz.f307) Tryz.func307 W W<|(Tryz.ac5 b p v l w j d o).mono ?_;rintro e q⟨rfl,k5,k6,k7,k8,k9⟩;exact⟨_,W,S,[],k5,k6,k7,k8,λk i a=>k9 k i λe=>a<|by simp[e],λ_ h=>h,λ_ h=>.inl h,λc hc=>adp (m c hc) k8,λ_ _ _ _=>rfl,adq,I,λ_ _=>by simp[SV.den,Rel,scalar,bs]⟩
def Pa(m:Nat):List ck:=if h:m=0 then[]else if m/10^18=0 then[decl m 1]else decl (m%10^18) 18::Pa (m/10^18)
 termination_by m
 decreasing_by exact adM (aee h) fh
def abo:Pa 0=[]:=by rw[Pa];simp
def aaw{m:Nat}(h:m≠0)(a:m/10^18=0):Pa m=[decl m 1]:=by rw[Pa,dif_neg h,if_pos a]
def Tm{m:Nat}(a:m/10^18≠0):Pa m=decl (m%10^18) 18::Pa (m/10^18):=by
 have h:m≠0:=by rintro rfl;exact a W
 rw[Pa,dif_neg h,if_neg a]
def abH(m:Nat)(h:m≠0):(Pa m).reverse.flatten=decl m 1:=by
 induction m using Nat.strongRecOn with
 |ind m c=>
  by_cases a:m/10^18=0
  ·rw[aaw h a];simp
  rw[Tm a,List.reverse_cons,agi,c _ (adM E fh) a];have hs:=CM (q:=m/10^18) E 18 (m%10^18) 1 (ac9 _ fh);have e:m/10^18*10^18+m%10^18=m:=by have:=agw m (10^18);have b:(10:Nat)^18=10^18:=fh;rw[b];omega
  rw[e]at hs;rw[hs,show 1-18=0 from fb,JC E];simp
def acN{m:Nat}(h:m≠0):Pa m≠[]:=by
 by_cases a:m/10^18=0
 ·rw[aaw h a];simp
 rw[Tm a];simp
def abT(m:Nat):∀(k:Nat),m<(10^18)^k->(Pa m).length<=k:=by
 induction m using Nat.strongRecOn with
 |ind m c=>
  intro k a;by_cases h:m=0
  ·subst h;rw[abo];simp
  cases k with
  |zero=>simp at a;omega
  |succ k=>
   by_cases b:m/10^18=0
   ·rw[aaw h b];simp
   rw[Tm b,ab2];have:=c (m/10^18) (adM E fh) k (by rw[adD]at a;exact Nat.div_lt_of_lt_mul<|by rw[ac6];exact a)
   omega
def acR:(10:Nat)^18=10^18:=fh
def acB{m:Nat}(h:m<10^18):(decl m 1).length<=18:=eI m 1 18 (by rw[acR];exact h) fh
def acg:∀j,decl 0 j=List.replicate j 48
 |0=>dp
 |j+1=>by rw[cC E,show(0:Nat)/10=0 from fb,show j+1-1=j from E,acg j,List.replicate_succ'];rfl
def abN(m:Nat):∀k,1<=k->(decl m 1).length<=k->decl m k=List.replicate (k-(decl m 1).length) 48++decl m 1:=by
 induction m using Nat.strongRecOn with
 |ind m b=>
  intro k e hl;have a:decl m 1=decl (m/10) 0++[RU<|m%10]:=cC E;rw[cC (n:=m) (k:=k) E];by_cases h:m/10=0
  ·rw[a,h,dp,acg];simp
  have d:decl (m/10) 0=decl (m/10) 1:=JC E;rw[a,d]at hl⊢;rw[acV,afS]at hl⊢;have c:1<=(decl (m/10) 1).length:=by rw[cC E];simp
  rw[b (m/10) (adM E fh) (k-1) E E];rw[show k-1-(decl (m/10) 1).length=k-((decl (m/10) 1).length+1)from E,ada]
def abE:eE.ae (10^18)=[10^18]:=tr (f:=10^18) fh fh
def abn{M K:Nat}(h:(eE.ae M).length<=K):M<100000000000000000000^K:=by
 have a:=eE.cw M;have b:∀(B n:Nat),(M:Int)<(B:Int)^n->M<B^n:=λB n h=>by exact_mod_cast h
 have e:(M:Nat)<(2^64)^(eE.ae M).length:=b (2^64) _ a;have d:(2^64)^(eE.ae M).length<=(2^64)^K:=adl fh h;have c:(2^64)^K<=100000000000000000000^K:=afc fh K;omega
def abx{M K:Nat}(h:(eE.ae M).length<=K)(a:1<=K):(decl M 1).length<=20*K:=by
 have:=abn h;have e:100000000000000000000^K=10^(20*K):=by rw[aeQ]
 rw[e]at this;exact eI M 1 _ this E
def abV(a:Nm)(h:bj a){K:Nat}(hl:fV a K)(hK:K<2^36):aM Tryz.prog 265 [oG a] (.s<|cK<|nv a):=by
 have O:=eE.dU a h;obtain⟨s,w⟩:=a;cases w with
 |none=>have h: -(2^63)<=s/\s<=9223372036854775807:=h;refine bS Tryz.func265 W<|bP W W (Rg s h.1 h.2) W<|bN W W
 |some c=>
  obtain⟨f,p⟩:(s=1\/s= -1)/\9223372036854775808<=c:=h;obtain⟨M,y⟩:∃M,M=(nv ⟨s,some c⟩).natAbs:=⟨_,W⟩;have X:M=c:=by rw[y];show(s*c).natAbs=c;rcases f with rfl|rfl<;>omega
  have hl:(eE.ae M).length<=K:=by rw[y];exact hl
  rw[<-y]at O;have d:M≠0:=E;refine bS Tryz.func265 W ?_;have C:eE.ae c≠[]:=by intro e;have:=eE.ai c;rw[e]at this;simp[eE.val]at this;omega
  refine r1 W (by simp only[bo,and_true];exact C) ?_;refine bG W O W<|r0 W<|EI [(3,.u<|decide (s<0)),(4,.ints .u64 false<|eE.ae M),(5,.ints .u64 false<|eE.ae (10^18)),(6,.strs true [])] ⟨⟨W,W,.refl _⟩,⟨W,W,.refl _⟩,⟨W,W,.shr<|by rw[abE];rfl⟩,⟨W,W,.le<|show ar .nil (.strs true [])from W⟩,U⟩ ?_;refine kR (λ(m:Nat)(L:List ck)=>[(3,.u<|decide (s<0)),(4,.ints .u64 false<|eE.ae m),(5,.ints .u64 false<|eE.ae (10^18)),(6,.strs true L)]) (λm L=>L++Pa m=Pa M/\m<=M) (λm _=>m) M [] ⟨W,abO _⟩ ⟨G,G,G,G,U⟩ ?_;rintro m L⟨z,hm⟩;refine bQ W W ?_ ?_<;>intro g
  ·have g:0<m:=by
    rcases adj m with h|h
    ·subst h;have g:(0:Int)<((eE.ae 0).length:Int):=g;rw[eE.dm]at g;simp at g
    exact h
   have F:(eE.ae m).length<2^40:=by
    have:(eE.ae m).length<=(eE.ae M).length:=by apply adT;intro h;have:=eE.cE<|Nat.lt_of_not_le h;omega
    omega
   obtain⟨r,x⟩:∃r,r=m%10^18:=⟨_,W⟩;obtain⟨q,o⟩:∃q,q=m/10^18:=⟨_,W⟩;have v:r<10^18:=by rw[x];exact ac9 _ fh
   have A:=acB v;have B:q<m:=by rw[o];exact adM g fh
   have j:Pa m=(if q=0 then decl r 1 else decl r 18)::Pa q:=by
    by_cases h:q=0
    ·rw[if_pos h,aaw E<|by rw[<-o];exact h,h,abo];have:m%10^18=m:=by
      rw[o]at h;exact adQ E
     rw[x,this]
    rw[if_neg h,Tm<|by rw[<-o];exact h,x,o]
   have Y:L.length+1<=2*K:=by
    have e:=congrArg List.length z;rw[j,acV,ab2]at e;have f:=abn hl;have p:M<(10^18)^(2*K):=by refine adp f ?_;rw[aeQ];exact afc fh K
    have:=abT M (2*K) p;omega
   refine bP W W (GN m (10^18) fh F<|by rw[abE];decide) W ?_;rw[<-o,<-x];refine rn 6 W<|cx 2 [(3,.u<|decide (s<0)),(5,.ints .u64 false<|eE.ae (10^18)),(6,.strs true L),(7,.ints .u64 false<|eE.ae q),(9,.s<|decl r 1)] True ?_ λ_=>?_
   ·refine bQ W W ?_ ?_<;>intro g1
    ·have k:0<r:=by
      rcases adj r with h|h
      ·rw[h]at g1;have g1:(0:Int)<((eE.ae 0).length:Int):=g1;rw[eE.dm]at g1;simp at g1
      exact h
     have N:=tr k E;rw[N];refine r1 W (by simp only[bo,and_true]<;>simp) ?_;refine bG W (acT r E) W<|r0 W<|c5 U
    have k:r=0:=by
     rcases adj r with h|h
     ·exact h
     exact absurd (show(0:Int)<((eE.ae r).length:Int) by have:=eE.iF (n:=r) E;omega) g1
    refine r0 W ?_;rw[k];exact aN U ⟨G,G,G,G,⟨W,ar.of_eq<|congrArg SV.s<|by rw[cC E];simp[dp];rfl⟩,U⟩
   refine cx 1 [(3,.u<|decide (s<0)),(5,.ints .u64 false<|eE.ae (10^18)),(6,.strs true L),(7,.ints .u64 false<|eE.ae q),(9,.s<|if q=0 then decl r 1 else decl r 18)] True ?_ λ_=>?_
   ·refine bQ W W ?_ ?_<;>intro g1
    ·have l:¬q=0:=by
      intro h;rw[h]at g1;have g1:(0:Int)<((eE.ae 0).length:Int):=g1;rw[eE.dm]at g1;simp at g1
     refine r1 W ba<|JJ (us:=[.s [48],.i (18-(decl r 1).length:Nat)]) W W U ⟨W,congrArg SV.i E,U⟩ (acH _ E) W<|r1 W (by simp only[bo,and_true]<;>simp<;>omega) ?_;refine aN U ⟨G,G,G,G,⟨W,ar.of_eq<|congrArg SV.s ?_⟩,U⟩;rw[if_neg l,abN r 18 fh A]
    have l:q=0:=by
     rcases adj q with h|h
     ·exact h
     exact absurd (show(0:Int)<((eE.ae q).length:Int) by have:=eE.iF (n:=q) E;omega) g1
    refine bL W U ⟨G,G,G,G,⟨W,ar.of_eq<|congrArg SV.s<|by rw[if_pos l]⟩,U⟩
   refine r1 W (by simp only[bo,and_true,ab2,acQ]<;>omega) ?_;refine again (q,L++[if q=0 then decl r 1 else decl r 18]) B ⟨by rw[<-z,j];simp,E⟩ ⟨G,G,G,G,U⟩
  have g:m=0:=by
   rcases adj m with h|h
   ·exact h
   exact absurd (show(0:Int)<((eE.ae m).length:Int) by have:=eE.iF (n:=m) E;omega) g
  subst g;rw[abo,adX]at z;subst z;have H:∀t,((if s<0 then[45]else[])++((Pa M).drop t).reverse.flatten).length<=20*K+1:=by
   intro t;have J:1<=K:=by have:=eE.iF (n:=M) d;omega
   have f:=abx hl J;rw[<-abH M d]at f;have p:(Pa M).reverse=((Pa M).drop t).reverse++((Pa M).take t).reverse:=by rw[<-List.reverse_append,aeR]
   rw[p,agi,acV]at f;rw[acV];have h3:(if s<0 then[45]else[]:ck).length<=1:=by split<;>simp
   omega
  have D:=acN d;have T:(Pa M).length<=2*K:=by
   have f:=abn hl;have p:M<(10^18)^(2*K):=by refine adp f ?_;rw[aeQ];exact afc fh K
   exact abT M (2*K) p
  have V:0<(Pa M).length:=by
   rcases adj (Pa M).length with h|h
   ·exact absurd (List.length_eq_zero_iff.1 h) D
   exact h
  refine rn 2 W<|acO (λb=>Bld b []) W W (zs:=#[.pointer none,.slice none 0 0]) (λw=>by simp[Instr.alloc,Tryz.zeroValue374,newVar,newRow];rfl) (λb w S h=>Bld.new b w S h) λb=>?_;refine cx 1 [(6,.strs true<|Pa M),(10,.pv (·=.pointer (some ⟨b,0,none⟩))),(1000000,.abs<|Bld b<|if s<0 then[45]else[])] True ?_ λ_=>?_
  ·refine bQ W W ?_ ?_<;>intro g1
   ·refine r0 W<|ab8 W W U (abm b [] [45] fh) (J':=Bld b [45]) (r:=.bW [.i 1,.c .nilIface]) W<|r0 W ?_;rw[if_pos g1];exact aN U ⟨G,G,W,U⟩
   refine r0 W ?_;rw[if_neg g1];exact aN U ⟨G,G,W,U⟩
  refine r1 W ba<|loop (λt:Nat=>[(6,.strs true<|Pa M),(10,.pv (·=.pointer (some ⟨b,0,none⟩))),(11,.i<|(t:Int)-1),(1000000,.abs<|Bld b<|(if s<0 then[45]else[])++((Pa M).drop t).reverse.flatten)]) (λt=>t<=(Pa M).length) (λt=>t) (Pa M).length (abO _)
   ⟨G,G,G,(by show SV.abs _=SV.abs _;rw[ad0];simp),U⟩ ?_
  intro t ht;refine bQ W W ?_ ?_<;>intro g1
  ·obtain⟨t,rfl⟩:∃u,t=u+1:=⟨t-1,E⟩;have P:(((t+1:Nat):Int)-1).toNat=t:=E;refine r1 W (by simp only[bo,and_true,P];omega) ?_;rw[P];have Z:(Pa M).getD t []=(Pa M)[t]:=au E;have N:(Pa M).drop t=(Pa M)[t]::(Pa M).drop (t+1):=acU E;have Q:((if s<0 then[45]else[])++((Pa M).drop<|t+1).reverse.flatten)++(Pa M)[t]=(if s<0 then[45]else[])++((Pa M).drop t).reverse.flatten:=by
    rw[N,List.reverse_cons,agi,ada];simp only[List.flatten_cons,List.flatten_nil,adX]
   rw[Z];refine ab8 W W U (abm b _ (Pa M)[t] (by have:=H t;rw[<-Q,acV]at this;omega)) (J':=Bld b<|((if s<0 then[45]else[])++((Pa M).drop<|t+1).reverse.flatten)++(Pa M)[t]) (r:=.bW [.i ((Pa M)[t].length:Int),.c .nilIface]) W ?_
   rw[Q];refine r1 W ba<|again t E E ⟨G,G,⟨W,ar.of_eq<|congrArg SV.i E⟩,W,U⟩
  have:t=0:=E;subst this;rw[adZ,abH M d];have i:(if s<0 then[45]else[])++decl M 1=cK (nv ⟨s,some c⟩):=by
   unfold cK;rw[<-y];have R:nv ⟨s,some c⟩=s*c:=W;rw[R];rcases f with rfl|rfl
   ·rw[if_neg<|show¬(1:Int)<0 from E,if_neg<|show¬(1:Int)*c<0 from E];rfl
   rw[if_pos<|show(-1:Int)<0 from E,if_pos<|show(-1:Int)*c<0 from E];rfl
  rw[i];refine r0 W<|ab8 W W U (abz b _ (by rw[<-i];intro e;have:=congrArg List.length e;rw[acV,cC E]at this;simp at this)) (J':=acX) (r:=.s<|cK<|nv ⟨s,some c⟩) W<|bN W W
def aby(a:Nm)(h:bj a){K:Nat}(hl:fV a K)(b:K<2^36):aM Tryz.prog 265 [eN a] (.s<|cK<|nv a):=(abV a h hl b).same (by simp only[aB,sF h]) W
def abS{f:Fr}{q:Rat}(h:gW f q):(f.d.w=none/\f.d.s=1)↔q.den=1:=by
 have a:=h.vd;have b:=h.d;obtain⟨n,d,w⟩:=f;cases w with
 |none=>have a:d=q.den:=a;simp;omega
 |some m=>have b:(d=1\/d= -1)/\2^63<=m:=b;have a:d*(m:Int)=q.den:=a;simp;rcases b.1 with rfl|rfl<;>omega
def wq{z:Int}{K:Nat}(h:(eE.ae z.natAbs).length<=K):(cK z).length<=20*(K+1)+1:=by
 have:=abx (M:=z.natAbs) (K:=K+1) E E;unfold cK;split
 ·rw[ab2];omega
 omega
def acF(f:Fr){q:Rat}(h:gW f q){K:Nat}(hl:ri f K)(b:K<2^36):aM Tryz.prog 194 [eF f] (.s<|qt q):=by
 have a:=aby f.n h.n hl.1 b;have c:=aby f.d h.d hl.2 b;rw[h.vn]at a;rw[h.vd]at c;have n1:=wq (show(eE.ae q.num.natAbs).length<=K by rw[<-h.vn];exact hl.1);have e:=wq (show(eE.ae (q.den:Int).natAbs).length<=K by rw[<-h.vd];exact hl.2);refine bS Tryz.func194 W<|bP W W (EJ f h) W<|gb W ?_ ?_<;>intro g
 ·have g:=(abS h).1 g;refine bP W W a W<|bK W W<|ar.of_eq<|congrArg SV.s ?_;unfold qt uI fk;rw[if_pos g];simp
 have g:¬q.den=1:=λd=>g<|(abS h).2 d;refine bO W W a W<|r1 W (by simp only[bo,and_true,ab2,acQ];omega) ?_;refine bH W c W<|k1 W aW (by simp only[bo,and_true,acV,ab2,acQ];omega) ?_;refine aE W<|ar.of_eq<|congrArg SV.s ?_;unfold qt uI fk;rw[if_neg g];have:cK (q.den:Int)=decl q.den 1:=by unfold cK;rw[if_neg E];rfl
 rw[this];simp
def ach{s:ck}(h:aL s=0):Dc (bV s) s.length:=by
 have e:=congrArg List.length<|fZ h;have d:=jY (bV s).num (bV s).den;have c:(decl (bV s).num.natAbs 1).length<=(cK (bV s).num).length:=by unfold cK;split<;>simp
 have b:1<=(decl (bV s).num.natAbs 1).length:=aeK.2<|UE _ fh;have a:(decl (bV s).den 1).length<=(fk (bV s).den).length+1:=by
  unfold fk;split
  ·rename_i g;rw[g];exact eI 1 1 1 fh fh
  simp;omega
 unfold qt at e;exact⟨E,E⟩
structure MdF(f:Fr)(q:Rat):Prop where
 ok:gW f q
 sz:ri f 700
 n:q.num.natAbs<2^1800
 d:q.den<2^1800
def ab9(a:Nm)(c:bj a){K:Nat}(hl:fV a K)(f:K<2^36)(h:(nv a).natAbs<2^1800):aM Tryz.prog 244 [eN a] (.b false):=by
 have d:bl (nv a).natAbs<=1800:=by
  by_cases e:(nv a).natAbs=0
  ·rw[e];decide
  have:=aem (xe e) h;have:=(Nat.pow_lt_pow_iff_right fh).1 this;omega
 refine bS Tryz.func244 W<|bP W W (Sd a c hl E) W<|bJ W 6 W (λg=>absurd g E) λ_=>?_;refine bN W W
def acy(f:Fr){q:Rat}(h:MdF f q):aM Tryz.prog 163 [eF f] (.b false):=by obtain⟨⟨k,j,i,g⟩,⟨e,d⟩,c,a⟩:=h;refine bS Tryz.func163 W<|bP W W (ab9 f.n k e fh<|by rw[i];exact c) W ?_;refine bP W W (ab9 f.d j d fh<|by rw[g,Int.natAbs_natCast];exact a) W ?_;refine bN W W
def aca(l:List Fr)(hl:l.length<2^60)(h:∀f∈l,∃q,MdF f q):aM Tryz.prog 243 [.bA false 4 f0 eF l,.fn (.func 163) [] []] (.i<|-1):=by
 refine bS Tryz.func243 W<|r0 W<|ra (λi:Nat=>[(0,.bA false 4 f0 eF l),(1,.fn (.func 163) [] []),(7,.i l.length),(8,.i i)]) (λi=>i<=l.length) (λi=>l.length-i) 0 (abv _) ?_;intro i hi;refine bQ W W ?_ ?_<;>intro g
 ·have a:i<l.length:=E;have c:(i:Int).toNat=i:=E;obtain⟨q,b⟩:=h _<|bw (d:=f0) a;refine qp W ?_;rw[c];refine bG W (acy _ b) W<|qp W<|gS (i+1) E
 refine bN W W
def abG(l:List Fr)(hl:l.length<2^60)(h:∀f∈l,∃q,MdF f q):aM Tryz.prog 162 [.bA false 4 f0 eF l,.fn (.func 163) [] []] (.b false):=by refine bS Tryz.func162 W<|bP W W (aca l hl h) W<|bK W W (show ar (.u<|decide _) (.b false)from W)
def ab0(l:List Fr)(qs:List Rat)(hl:l.length<2^40)(he:l.length=qs.length)(h:∀i,i<l.length->MdF (l.getD i f0) (qs.getD i 0)):aM Tryz.prog 164 [.bA false 4 f0 eF l] (.strs true<|qs.map qt):=by
 refine bS Tryz.func164 W<|r1 W a7<|loop (λi:Nat=>[(0,.bA false 4 f0 eF l),(3,.strs true<|(qs.take i).map qt++List.replicate (l.length-i) []),(9,.bA false 4 f0 eF l),(10,.i l.length),(11,.i i)]) (λi=>i<=l.length) (λi=>l.length-i) 0 (abv _) ⟨G,⟨W,ar.of_eq<|congrArg (SV.strs true) I⟩,G,G,G,U⟩ ?_;intro i hi;have a:((qs.take i).map qt++List.replicate (l.length-i) ([]:ck)).length=l.length:=by simp;omega
 refine bQ W W ?_ ?_<;>intro g
 ·have b:i<l.length:=E;have c:(i:Int).toNat=i:=E;have d:=h i b;refine qp W ?_;rw[c];refine bG W (acF _ d.ok d.sz fh) W<|r1 W (by simp only[bo,and_true,c,a]<;>omega) ?_;rw[c];refine again (i+1) E E ⟨G,⟨W,ar.of_eq<|congrArg (SV.strs true) ?_⟩,G,G,G,U⟩;have e:((qs.take i).map qt).length=i:=by simp;omega
  rw[agt _ _ E,e,aeV,show l.length-i=l.length-(i+1)+1 from E,ae4,List.set_cons_zero,ac1 (E:i<qs.length),acY,ada,au (E:i<qs.length)];rfl
 refine bK W W<|ar.of_eq<|congrArg (SV.strs true) ?_;rw[show l.length-i=0 from E,abX E];simp
def abr(l:List Fr)(qs:List Rat)(hl:l.length<2^40)(he:l.length=qs.length)(h:∀i,i<l.length->MdF (l.getD i f0) (qs.getD i 0)):aM Tryz.prog 92 [.bA false 4 f0 eF l] (.bW [.strs true<|qs.map qt,.i 0]):=by
 refine bS Tryz.func92 W<|bP W W (abG l E λf a=>by obtain⟨i,hi,rfl⟩:=aeJ a;exact⟨_,by rw[<-au (d:=f0) hi];exact h i hi⟩) W ?_
 refine bP W W (ab0 l qs hl he h) W<|bN W W
noncomputable def abR(p:gV)(sh:List Int)(is:List (List Int))(i k:Nat):Fr:=QV (pwF<|(is.getD i []).getD k 0-sh.getD ((p.aa.getD i default).ah.getD k default).sh.toNat 0) (aac<|bV ((p.aa.getD i default).ah.getD k default).dZ)
noncomputable def lC(p:gV)(sh:List Int)(is:List (List Int))(i:Nat):List Fr:=(List.range (p.aa.getD i default).ah.length).map<|abR p sh is i
noncomputable def gAt(p:gV)(sh:List Int)(is:List (List Int))(q:Nat):List (List Fr):=(List.range p.aa.length).map λj=>(lC p sh is j).take<|q-(aag p sh is j).length
def eFs(l:List (List Fr)):SV:=.bA true 1 [] (SV.bA true 4 f0 eF) l
def abw(p:gV)(sh:List Int)(is:List (List Int)):∀{N k:Nat},k<(aag p sh is N).length->∃i j,i<N/\j<(p.aa.getD i default).ah.length/\k=(aag p sh is i).length+j
 |0,k,h=>absurd h (by simp[aag])
 |N+1,k,h=>by
  by_cases g:k<(aag p sh is N).length
  ·obtain⟨i,j,a,b,c⟩:=abw p sh is g;exact⟨i,j,E,b,c⟩
  rw[aaB,acV,aaR]at h;exact⟨N,k-(aag p sh is N).length,E,E,E⟩
def abh(p:gV)(sh:List Int)(is:List (List Int))(q:Nat):(gAt p sh is q).length=p.aa.length:=by simp[gAt]
def acd(p:gV)(sh:List Int)(is:List (List Int)):gAt p sh is 0=List.replicate p.aa.length []:=by unfold gAt;simp only[Nat.zero_sub,afF];rw[List.map_const',afG]
def ace(p:gV)(sh:List Int)(is:List (List Int)){i j:Nat}(hi:i<p.aa.length)(f:j<(p.aa.getD i default).ah.length):gAt p sh is ((aag p sh is i).length+j+1)=(gAt p sh is<|(aag p sh is i).length+j).set i ((gAt p sh is<|(aag p sh is i).length+j).getD i []++[abR p sh is i j]):=by
 have hl:=abh p sh is;refine afr (by simp[hl]) λm h k=>?_;rw[hl]at h;have b:∀q,(d:m<(gAt p sh is q).length)->(gAt p sh is q)[m]=(lC p sh is m).take (q-(aag p sh is m).length):=λq d=>by simp[gAt]
 have c:∀m,(lC p sh is m).length=(p.aa.getD m default).ah.length:=λm=>by simp[lC]
 rw[b,List.getElem_set];split
 ·rename_i e;subst e;rw[au<|by rw[hl];exact hi,b,ae6,show(aag p sh is i).length+j+1-(aag p sh is i).length=j+1 from E,ac1<|by rw[c];exact f]
  congr 2
  simp only[lC,agv,List.getElem_range]
 rename_i e;rw[b];rcases Nat.lt_or_gt_of_ne e with g|g
 ·have a:=yt p sh is (show i+1<=m from g);rw[aaB,acV,aaR]at a;rw[show(aag p sh is i).length+j+1-(aag p sh is m).length=0 from E,show(aag p sh is i).length+j-(aag p sh is m).length=0 from E]
 have a:=yt p sh is (show m+1<=i from g);rw[aaB,acV,aaR]at a;rw[abX<|by rw[c];omega,abX<|by rw[c];omega]
def acz(p:gV)(e:rA p)(x:∀u∈p.aa,iQ p.n u)(y:p.aa.length<=12)(sh:List Int)(is:List (List Int))(s:StV p sh is):
 aM Tryz.prog 91 [bh p,tS false sh is] (.bA false 1 [] (SV.bA false 4 f0 eF)<|(List.range p.aa.length).map<|lC p sh is):=by
 have M:=e.aa;obtain⟨V,f⟩:∃V,V=aag p sh is p.aa.length:=⟨_,W⟩;refine bS Tryz.func91 W<|bP W W Fz W<|r1 W a7<|bG W (aaZ p sh is) W<|r0 W ?_;have L:Ah (.box true<|.row true 1 (List.replicate (p.aa.length:Int).toNat SV.nil)) (.box true<|eFs<|gAt p sh is 0):=.box (.row (by rw[acd,afA,adF];exact o6.rep (.le<|show ar .nil (.bA true 4 f0 eF [])from W) _))
 refine EI [(2,.box true<|bh p),(5,.box true xv),(6,.box true<|eFs<|gAt p sh is 0),(15,.fn (.func 196) [] [.box false<|bh p,.box false<|tS false sh is])]
  ⟨⟨W,W,.refl _⟩,⟨W,W,.refl _⟩,⟨W,W,L⟩,⟨W,W,.refl _⟩,U⟩<|Bv [2,5,6] [2,5,6] V.length V.length (λk=>[eIn<|V.getD k []]) (λk=>[.box true<|bh p,.box true xv,.box true<|eFs<|gAt p sh is k]) (λ_=>true) (λ_=>none) (.bW [])
  rfl W W W W Tryz.func196 W W W W W W (λ_ _=>rfl) (λ_=>rfl) ?_ W W (λk _ h=>rfl) (λC J w=>?_) ?_ ?_ ?_
 ·intro k hk z v;simp only[ack,ad7,or_false]at v;rcases v with rfl|rfl|rfl<;>rfl
 ·rw[f]at w⊢;exact aaN p e x sh is s (λ_=>true) _ (.inl ⟨λ_ _=>rfl,W⟩) C J w
 ·intro q N _;obtain⟨i,j,hi,a,rfl⟩:=abw p sh is (by rw[<-f];exact N);have P:=aaz p sh is a p.aa.length hi;have m:V.getD ((aag p sh is i).length+j) []=aas p sh is i j:=by rw[f,abZ,P];rfl
  dsimp only;rw[m];rw[show eIn (aas p sh is i j)=SV.agg [.i i,.i j,.i<|(is.getD i []).getD j 0,.i<|sh.getD ((p.aa.getD i default).ah.getD j default).sh.toNat 0]from W];have r:(i:Int).toNat=i:=E;have o:(j:Int).toNat=j:=E;obtain⟨⟨lX,lI,g⟩,T,X⟩:=s;have hu:=x _<|bw (d:=default) hi;have Q:=(e.unit _<|bw (d:=default) hi).ah;have R:=g i hi;have A:=hu.feed _<|bw (d:=default) a;have b1:=X _ (bw (d:=([]:List Int))<|show i<is.length from E) _<|bw (d:=(0:Int))<|show j<(is.getD i []).length from E;have b2:=T _<|bw (d:=(0:Int))<|show((p.aa.getD i default).ah.getD j default).sh.toNat<sh.length from E;obtain⟨K,H⟩:=abk ((is.getD i []).getD j 0-sh.getD ((p.aa.getD i default).ah.getD j default).sh.toNat 0) E;refine r0 W<|rH<|r1 W (by simp only[bo,and_true,r,o,abh]<;>omega) ?_;refine bH W (ab7 _ E) W<|r1 W (by simp only[bo,and_true,r,o,abh]<;>omega) ?_;rw[r,o];refine bH W (qG A.2.2.1) W<|bO W W (Ch _ _ K (dP _) H (fQ A.2.2.1) fh) W ?_;have b:=abh p sh is<|(aag p sh is i).length+j;have l:=ace p sh is hi a;have O:((gAt p sh is<|(aag p sh is i).length+j).getD i []).length<=(p.aa.getD i default).ah.length:=by rw[au<|by rw[b];exact hi];simp[gAt,lC];omega
  unfold eFs at*;rw[l];generalize gAt p sh is ((aag p sh is i).length+j)=t at*;refine Qr 3 W (by simp only[bo,fH,and_true,ad5,ac7,ab2,acQ]<;>omega) ?_;rcases t with _|⟨x0,_|⟨x1,_|⟨x2,_|⟨x3,_|⟨x4,_|⟨x5,_|⟨x6,_|⟨x7,_|⟨Z,_|⟨Y,_|⟨F,_|⟨D,_|⟨B,t⟩⟩⟩⟩⟩⟩⟩⟩⟩⟩⟩⟩⟩
  all_goals rcases i with _|_|_|_|_|_|_|_|_|_|_|_|i
  all_goals first|(exfalso;simp only[ab2,acQ]at b;omega)|skip
  all_goals
   refine k1 W aW (by simp[bo,len]<;>omega) ?_;refine zA [(1000000,.box true<|bh p),(1000001,.box true xv),(1000002,.box true<|eFs _)] W W ⟨⟨W,W,.refl _⟩,⟨W,W,.refl _⟩,⟨W,W,.box<|.row ?_⟩,U⟩ ⟨G,G,G,U⟩
   repeat' first|exact o6.nil|refine o6.cons ?_ ?_|exact Ah.refl _|exact Ah.row (by rw[cX,acY];exact o6.refl _)
 ·intro _;refine bK W W<|ar.of_eq ?_;show SV.bA false 1 [] (SV.bA false 4 f0 eF) (gAt p sh is V.length)=_
  congr 1
  unfold gAt;refine adE λj a=>abX ?_;have a:=aef.1 a;have S:=yt p sh is (show j+1<=p.aa.length from a);rw[aaB,acV,aaR]at S;rw[f];simp only[lC,ac7,afG];omega
 intro c e;simp at e
def abA{f:Fr}{q:Rat}(h:gW f q)(hs:ri f 700)(a:Sz q 60):MdF f q:=by
 have b:∀n:Nat,(Go.Ai.ae n).length<=60->n<2^1800:=λn hn=>by
  have g:=Go.Ai.cw n;have e:(10^9:Nat)^(Go.Ai.ae n).length<=(10^9)^60:=adl fh hn;have d:(10^9:Nat)^60<2^1800:=by decide +kernel
  have c:n<(10^9)^(Go.Ai.ae n).length:=Int.ofNat_lt.1 (by rw[afC];exact g);exact aeD (adp c e) d
 exact⟨h,hs,b _ a.1,b _ a.2⟩
def abj{s:ck}(h:aL s=0)(hl:s.length<=27):Sz (bV s) 3:=⟨qO (k:=3)<|acP (ach h).1 hl,qO (k:=3)<|acP (ach h).2 hl⟩
def abQ{e:Int}(h: -80<=e/\e<=80):Sz (iK e) 3:=by
 have a:∀n:Nat,(2:Rat)^n=((2^n:Nat):Rat):=λn=>by rw[Rat.natCast_pow];rfl
 have b:∀n:Nat,n<=80->2^n<1000000000000000000000000000:=λn hn=>aem (adl fh hn) fh;have c:(Go.Ai.ae 1).length<=3:=jn fh;unfold iK;split
 ·have d:(0:Int)<((2^(-e).toNat:Nat):Int):=by have:=adB (n:=(-e).toNat) (show 0<2 from fh);omega
  rw[a];unfold Sz;rw[Rat.num_inv,Rat.den_inv,Rat.num_natCast,Rat.den_natCast,aeT d,if_neg E,aeo];exact⟨c,jn<|b _ E⟩
 rw[a];unfold Sz;rw[Rat.num_natCast,Rat.den_natCast,aeo];exact⟨jn<|b _ E,c⟩
noncomputable def rtL(p:gV)(sh:List Int)(is:List (List Int))(i:Nat):List Rat:=(List.range (p.aa.getD i default).ah.length).map<|rtQ p sh is i
def acA{p:gV}(hl:p.aa.all nB=true)(j:∀u∈p.aa,iQ p.n u){sh:List Int}{is:List (List Int)}(s:StV p sh is){i k:Nat}(hi:i<p.aa.length)(l:k<(p.aa.getD i default).ah.length):MdF (abR p sh is i k) (rtQ p sh is i k):=by obtain⟨⟨r,t,c⟩,o,q⟩:=s;have hm:=bw (d:=default) hi;have b:=bw (d:=default) l;have hu:=j _ hm;have e:=hu.feed _ b;have m:=c i hi;have w:=q _ (bw (d:=([]:List Int))<|show i<is.length from E) _<|bw (d:=(0:Int))<|show k<(is.getD i []).length from E;have v:=o _<|bw (d:=(0:Int))<|show((p.aa.getD i default).ah.getD k default).sh.toNat<sh.length from E;rw[adg]at hl;have a:=hl _ hm;unfold nB at a;simp only[abU,adg,decide_eq_true_eq]at a;have a:=a.2.1 _ b;obtain⟨g,f⟩:=abk ((is.getD i []).getD k 0-sh.getD ((p.aa.getD i default).ah.getD k default).sh.toNat 0) E;obtain⟨m1,h⟩:=tg _ _ g (dP<|bV ((p.aa.getD i default).ah.getD k default).dZ) f<|fQ e.2.2.1;exact abA m1 (Ja h fh)<|((abQ E).mul<|abj e.2.2.1 E).mono fh
def abY(p:gV)(a:rA p)(sh:List Int)(is:List (List Int))(hs:Kv sh is=true):aM Tryz.prog 90 [bh p,tS false sh is] (.i<|if dT p≠0 then dT p else aaA p sh is):=by
 refine bS Tryz.func90 W<|bP W W (zX p a) W<|bQ W W ?_ ?_<;>intro g
 ·refine bK W W<|ar.of_eq<|congrArg SV.i (if_pos g).symm
 refine bP W W (aa1 p a sh is hs) W<|bK W W<|ar.of_eq<|congrArg SV.i (if_neg g).symm
noncomputable def TA(p:gV)(sh:List Int)(is:List (List Int))(i:Nat):List (List ck):=(List.range i).map λj=>(rtL p sh is j).map qt
def ab3(p:gV)(j:rA p)(hl:p.aa.all nB=true)(h:dT p=0->p.aa.length<=12)(sh:List Int)(is:List (List Int))(hs:Kv sh is=true):
 aM Tryz.prog 30 [bh p,tS false sh is] (if dT p≠0 then .bW [.nil,.i<|dT p]else if aaA p sh is≠0 then .bW [.nil,.i<|aaA p sh is]else .bW [.bA true 1 [] (SV.strs true)<|TA p sh is p.aa.length,.i 0]):=by
 have a:=abY p j sh is hs;by_cases f:dT p≠0
 ·rw[if_pos f]at a⊢;refine bS Tryz.func30 W<|bP W W a W<|bQ W W (λ_=>?_) λg=>absurd f g;refine bN W W
 rw[if_neg f]at a⊢;by_cases c:aaA p sh is≠0
 ·rw[if_pos c];refine bS Tryz.func30 W<|bP W W a W<|bQ W W (λ_=>?_) λg=>absurd c g;refine bN W W
 rw[if_neg c];have f:=adv.1 f;have c:=adv.1 c;rw[c]at a;obtain⟨n1,x,w,s⟩:=Og f;have r:=aaK c;have u:=j.aa;refine bS Tryz.func30 W<|bP W W a W<|bQ W W (λg=>absurd W g) λ_=>?_;refine bP W W (acz p j s (h f) sh is r) W<|bM W (λi:Nat=>[(7,.bA true 1 [] (SV.strs true)<|TA p sh is i),(20,.bA false 1 [] (SV.bA false 4 f0 eF)<|(List.range p.aa.length).map<|lC p sh is),(21,.i p.aa.length),(22,.i i)]) (λi=>i<=p.aa.length) (λi=>p.aa.length-i) 0 (abv _) ⟨G,G,⟨W,ar.of_eq<|congrArg SV.i I⟩,G,U⟩ ?_;intro i hi;refine bQ W W ?_ ?_<;>intro g
 ·have b:i<p.aa.length:=E;have t:(i:Int).toNat=i:=E;have v:=(j.unit _<|bw (d:=default) b).ah;have q:((List.range p.aa.length).map<|lC p sh is).getD i []=lC p sh is i:=by rw[au<|by simpa using b];simp
  have m:(lC p sh is i).length=(p.aa.getD i default).ah.length:=by simp[lC]
  have n:=abr (lC p sh is i) (rtL p sh is i) E (by rw[m];simp[rtL]) (λk l=>by rw[m]at l;rw[show(lC p sh is i).getD k f0=abR p sh is i k by rw[au<|by rw[m];exact l];simp[lC],show(rtL p sh is i).getD k 0=rtQ p sh is i k by rw[au<|by simpa[rtL]using l];simp[rtL]];exact acA hl s r b l)
  have o:(TA p sh is i).length=i:=by simp[TA]
  refine r1 W (by simp only[bo,and_true,t,ac7,afG]<;>omega) ?_;rw[t,q];refine bG W n W<|bQ W W (λg=>absurd W g) λ_=>?_;refine r1 W (by simp[bo,len,o]<;>omega) ?_;refine vf (i+1) E E ⟨⟨W,W,.row ?_⟩,⟨W,W,.refl _⟩,⟨W,W,.refl _⟩,⟨W,W,.refl _⟩,U⟩;rw[show TA p sh is (i+1)=TA p sh is i++[(rtL p sh is i).map qt] by unfold TA;rw[ae8,acY];rfl,cX,acY];exact o6.refl _
 have e:i=p.aa.length:=E;subst e;refine bN W W
noncomputable def tnE(rs:List fD)(sh:List Int)(j:Nat):fD:=⟨qt<|iK (sh.getD j 0)*bV (rs.getD j default).lo,qt<|iK (sh.getD j 0)*bV (rs.getD j default).hi⟩
noncomputable def tnS(rs:List fD)(sh:List Int)(i:Nat):List fD:=(List.range i).map<|tnE rs sh
def acm(p:gV)(B:rA p)(rs:List fD)(J:∀s∈rs,ct s.lo/\ct s.hi)(z:∀s∈rs,s.lo.length<=24/\s.hi.length<=24)(hl:rs.length<2^40)(sh:List Int)(is:List (List Int))(hs:Kv sh is=true):
 aM Tryz.prog 31 [bh p,.bA false 2 default dX rs,tS false sh is] (if mH p rs≠0 then .bW [.nil,.i<|mH p rs]else if aaA p sh is≠0 then .bW [.nil,.i<|aaA p sh is]else .bW [.bA true 2 default dX<|tnS rs sh rs.length,.i 0]):=by
 have r:=um p B rs J hl;have m:=aa1 p B sh is hs;refine bS Tryz.func31 W<|bP W W r W<|r0 W ?_;by_cases a:mH p rs≠0
 ·rw[if_pos a];refine gb W (λ_=>?_) λg=>absurd a g;refine bN W W
 rw[if_neg a];refine gb W (λg=>absurd g a) λ_=>?_;refine bP W W m W<|r0 W ?_;by_cases b:aaA p sh is≠0
 ·rw[if_pos b];refine gb W (λ_=>?_) λg=>absurd b g;refine bN W W
 rw[if_neg b];refine gb W (λg=>absurd g b) λ_=>?_;have a:=adv.1 a;obtain⟨⟨P,Q,H⟩,O,V⟩:=aaK<|adv.1 b;have n:jR p.n rs=0:=by
  unfold mH at a;split at a
  ·rename_i g;exact absurd a g
  exact a
 obtain⟨K,o⟩:=FP n;refine bP W W Fz W<|r0 W<|ra (λi:Nat=>[(5,.box true<|tS false sh is),(10,.box true xv),(11,.bA true 2 default dX<|tnS rs sh i),(30,.bA false 2 default dX rs),(31,.i rs.length),(32,.i i)]) (λi=>i<=rs.length) (λi=>rs.length-i) 0 (abv _) ?_;intro i hi;refine bQ W W ?_ ?_<;>intro g
 ·have x:i<rs.length:=E;have C:(i:Int).toNat=i:=E;have hm:=bw (d:=default) x;obtain⟨f,c⟩:=o _ hm;obtain⟨S,R⟩:=z _ hm;have T:=O _<|bw (d:=(0:Int))<|show i<sh.length from E;obtain⟨j,h⟩:=abk (sh.getD i 0) E;obtain⟨m1,F⟩:=tg _ _ (dP<|bV (rs.getD i default).lo) j (fQ f) h;obtain⟨A,D⟩:=tg _ _ (dP<|bV (rs.getD i default).hi) j (fQ c) h;rw[afj]at m1 A;have N:=abA m1 (Ja F fh)<|((abQ E).mul<|abj f E).mono fh;have M:=abA A (Ja D fh)<|((abQ E).mul<|abj c E).mono fh;have w:(tnS rs sh i).length=i:=by simp[tnS]
  have l:=(abr [QV (aac<|bV (rs.getD i default).lo)<|pwF<|sh.getD i 0,QV (aac<|bV (rs.getD i default).hi)<|pwF<|sh.getD i 0] [iK (sh.getD i 0)*bV (rs.getD i default).lo,iK (sh.getD i 0)*bV (rs.getD i default).hi] I W (λk L=>by
   match k,L with
   |0,_=>exact N
   |1,_=>exact M)).shr.same (q:=.bW [.strs false [qt<|iK (sh.getD i 0)*bV (rs.getD i default).lo,qt<|iK (sh.getD i 0)*bV (rs.getD i default).hi],.i 0]) (bs:=[.row false 4 [eF<|QV (aac<|bV (rs.getD i default).lo)<|pwF<|sh.getD i 0,eF<|QV (aac<|bV (rs.getD i default).hi)<|pwF<|sh.getD i 0]]) W W
  have v:=qG f;have y:=qG c;have u:=Ch _ _ (dP<|bV (rs.getD i default).lo) j (fQ f) h fh;have t:=Ch _ _ (dP<|bV (rs.getD i default).hi) j (fQ c) h fh;refine r1 W (by simp only[bo,and_true,C]<;>omega) ?_;rw[C];refine bH W (ab7 _ E) W<|k0 W aW<|bH W v W<|bO W W u W<|bO W W y W<|bO W W t W<|bO W W l W<|k0 W aW<|gb W (λg=>absurd W g) λ_=>?_;refine k1 W aW (by simp[bo,len,w]<;>omega) ?_;refine vf (i+1) E E ⟨⟨W,W,.refl _⟩,⟨W,W,.refl _⟩,⟨W,W,.row ?_⟩,⟨W,W,.refl _⟩,⟨W,W,.refl _⟩,⟨W,W,.refl _⟩,U⟩;rw[show tnS rs sh (i+1)=tnS rs sh i++[tnE rs sh i] by unfold tnS;rw[ae8,acY];rfl,cX,acY];exact o6.refl _
 have e:i=rs.length:=E;subst e;refine bN W W
noncomputable def slF(rs:List fD)(b:fE)(sh:List Int)(j:Nat):Fr:=if Gm (rs.getD j default)=0 then Vx (rs.getD j default)else QV (pwF<|b.s-sh.getD j 0) (WU<|Vx<|rs.getD j default)
noncomputable def slQ(rs:List fD)(b:fE)(sh:List Int)(j:Nat):Rat:=if Gm (rs.getD j default)=0 then 0 else iK (b.s-sh.getD j 0)/Gm (rs.getD j default)
def acn(p:gV)(w:rA p)(rs:List fD)(z:∀s∈rs,ct s.lo/\ct s.hi)(y:∀s∈rs,s.lo.length<=24/\s.hi.length<=24)(hl:rs.length<2^40)(b:fE)(sh:List Int)(is:List (List Int))(hs:Kv sh is=true):
 aM Tryz.prog 32 [bh p,.bA false 2 default dX rs,dz b,tS false sh is] (if ik p rs b≠0 then .bW [.nil,.i<|ik p rs b]else if aaE p rs b sh is≠0 then .bW [.nil,.i<|aaE p rs b sh is]else .bW [.strs true<|((List.range rs.length).map<|slQ rs b sh).map qt,.i 0]):=by
 refine bS Tryz.func32 W<|r0 W ?_;by_cases j:ik p rs b≠0
 ·rw[if_pos j];refine bG W (QH p w rs z hl b j) W<|bQ W W (λg=>absurd g j) λ_=>?_;refine bQ W W (λ_=>?_) λg=>absurd j g;refine bN W W
 rw[if_neg j];have he:=adv.1 j;have v:=nm he;refine bG W (F9 p w rs z hl b he) W<|bQ W W (λ_=>?_) λg=>absurd W g;refine bP W W ((abd p w rs b v hl sh is hs).same W W) W<|r0 W ?_;by_cases n:aaE p rs b sh is≠0
 ·rw[if_pos n];refine gb W (λ_=>?_) λg=>absurd n g;refine bN W W
 rw[if_neg n];refine gb W (λg=>absurd g n) λ_=>?_;have hc:=adv.1 n;obtain⟨⟨⟨L,M,D⟩,B,P⟩,-,-,-⟩:=aaW hc;have H:=v.rg.len;have J:=v.bn.s;refine bP W W Fz W<|r0 W<|ra (λi:Nat=>[(6,.box true<|dz b),(7,.box true<|tS false sh is),(12,.box true xv),(13,.bA true 4 f0 eF<|(List.range i).map<|slF rs b sh),(33,.bA false 2 default dX rs),(34,.i rs.length),(35,.i i)]) (λi=>i<=rs.length) (λi=>rs.length-i) 0 (abv _) ?_;intro i hi;refine bQ W W ?_ ?_<;>intro g
 ·have x:i<rs.length:=E;have q:(i:Int).toNat=i:=E;have c:=v.sp _<|bw (d:=default) x;have K:=B _<|bw (d:=(0:Int))<|show i<sh.length from E;obtain⟨l,o⟩:=IF c;have a:(List.range<|i+1).map (slF rs b sh)=(List.range i).map (slF rs b sh)++[slF rs b sh i]:=by rw[ae8,acY];rfl
  refine r1 W (by simp only[bo,and_true,q]<;>omega) ?_;rw[q];refine bG W (th _ c) W<|bP W W (MV _ l) W<|bQ W W ?_ ?_<;>intro g2
  ·have f:Gm (rs.getD i default)≠0:=λe=>g2 (by rw[e];rfl);rw[show slF rs b sh i=QV (pwF<|b.s-sh.getD i 0) (WU<|Vx<|rs.getD i default)from if_neg f]at a;obtain⟨t,r⟩:=abk (b.s-sh.getD i 0) E;refine r1 W (by simp only[bo,and_true,q]<;>omega) ?_;rw[q];refine bH W (ab7 _ E) W<|bO W W (acM _ _ t l f r o fh) W<|k1 W aW (by simp[bo,len]<;>omega) ?_;refine vf (i+1) E E ⟨⟨W,W,.refl _⟩,⟨W,W,.refl _⟩,⟨W,W,.refl _⟩,⟨W,W,.row ?_⟩,⟨W,W,.refl _⟩,⟨W,W,.refl _⟩,⟨W,W,.refl _⟩,U⟩;rw[a,cX,acY];exact o6.refl _
  have f:Gm (rs.getD i default)=0:=by have:=adv.1 g2;rw[afU]at this;exact afx.1 this
  rw[show slF rs b sh i=Vx (rs.getD i default)from if_pos f]at a;refine r1 W (by simp[bo,len]<;>omega) ?_;refine vf (i+1) E E ⟨⟨W,W,.refl _⟩,⟨W,W,.refl _⟩,⟨W,W,.refl _⟩,⟨W,W,.row ?_⟩,⟨W,W,.refl _⟩,⟨W,W,.refl _⟩,⟨W,W,.refl _⟩,U⟩;rw[a,cX,acY];exact o6.refl _
 have e:i=rs.length:=E;subst e;have u:=abr ((List.range rs.length).map<|slF rs b sh) ((List.range rs.length).map<|slQ rs b sh) (by simp;omega) I (λk A=>by
  have m:k<rs.length:=by simpa using A
  rw[show((List.range rs.length).map<|slF rs b sh).getD k f0=slF rs b sh k by rw[au A];simp,show((List.range rs.length).map<|slQ rs b sh).getD k 0=slQ rs b sh k by rw[au<|by simpa using m];simp];have hm:=bw (d:=default) m;have c:=v.sp _ hm;obtain⟨O,N⟩:=y _ hm;obtain⟨l,o⟩:=IF c;have K:=B _<|bw (d:=(0:Int))<|show k<sh.length from E;have h:Sz (Gm<|rs.getD k default) 3:=(abj c.1.1 E).mD.An (abj c.1.2 E).mD;unfold slF slQ;by_cases f:Gm (rs.getD k default)=0
  ·rw[if_pos f,if_pos f];rw[f]at l h;exact abA l (Ja o fh)<|h.mono fh
  rw[if_neg f,if_neg f];obtain⟨t,r⟩:=abk (b.s-sh.getD k 0) E;obtain⟨i1,F⟩:=OQ _ l f o;obtain⟨m1,C⟩:=tg _ _ t i1 r F;rw[<-Rat.div_def]at m1;exact abA m1 (Ja C fh)<|((abQ E).div h).mono fh)
 refine bP W W u W<|bN W W
end Go.Ai.Pg
namespace Go.Ai.Pg
open Go.Proofs Go.Ai Go.Ai.eE Go.RowKit
def acu{o:Oper}{x y:Operand}{a b:ck}{u:TypeId}(l:o.op=.binOp .neq 64 x y u):mE Tryz.prog o [] [.agg [.s a,.s b],.agg [.s a,.s b]] [] (.b false):=by
 refine tj W W I ?_;intro w S n B hc k c;have i:Tryz.prog.underlying 64=some (.struct<|Tryz.prog.fieldsOf 64):=aW;have A:Tryz.prog.stoodInHeld 64=false:=aW;have z:n=[.agg #[.string (bs a),.string<|bs b],.agg #[.string (bs a),.string<|bs b]]:=by
  simp only[aB,SV.den,Cells,Rel]at hc;obtain⟨q,M,X,V,rfl,-,-,g,p,L,T,R,rfl,-,-,f,rfl,-⟩:=hc;have d:∀(v:Value)(F:List Nat),(∃j:Array Value,v=.agg j/\Cells w S true [.v<|.string<|bs a,.v<|.string<|bs b] j.toList F)->v=.agg #[.string (bs a),.string<|bs b]:=by rintro v F⟨⟨j⟩,rfl,h⟩;simp only[Cells,Rel]at h;obtain⟨J,m1,Q,P,m,-,-,r1,H,K,O,N,D,-,-,r,C,-⟩:=h;rw[r1.2.1,D,r.2.1,C]at m;rw[m]
  rw[d q _<|by simp only[Cells,Rel];exact g,d p _<|by simp only[Cells,Rel];exact f]
 have t:k x=.agg #[.string (bs a),.string<|bs b]/\k y=.agg #[.string (bs a),.string<|bs b]:=by
  have:o.op.operands.toList=[x,y]:=by rw[l];rfl
  rw[this,z]at c;simp[ads,ad8,List.cons.injEq,and_true]at c;exact c
 have e:(binOp .neq 64 (.agg #[.string (bs a),.string<|bs b])<|.agg #[.string (bs a),.string<|bs b]).run Tryz.prog w=.ok (.bool false) w:=by
  rw[run_neq_struct,show(10000:Nat)=9999+1 from W,run_equalIn_agg w 9999 64 _ _ i A];simp[Program.fieldsOf,Tryz.underlying64]
  go_simp
 refine⟨.value<|.bool false,.bool false,w,?_,.inl W,S,[],⟨W,W,W,abO _,λ_ _=>rfl⟩,λ_ h=>h,λ_ h=>.inl h,λb h=>B b h,by simp[SV.den,Rel,scalar],adq,I⟩;simp[execOp,l,t,run_eqGuard_agg,hm,e]
end Go.Ai.Pg
namespace Go.Ai.Pg
open Go.Proofs Go.Ai Go.Ai.eE
def acr(a b:Int):iK (a+b)=iK a*iK b:=by
 by_cases h:0<=b
 ·have:=kd a b.toNat;rw[show a+(b.toNat:Int)=a+b from E]at this;rw[this]
  congr 1
  unfold iK;rw[if_neg E]
 have:=kd (a+b) (-b).toNat;rw[show a+b+((-b).toNat:Int)=a from E]at this;rw[this];have c:=vR (-b).toNat;rw[show iK b=((2:Rat)^(-b).toNat)⁻¹ by unfold iK;rw[if_pos E]]
 grind
def acq(a b:Int):iK (a-b)=iK a/iK b:=by
 have:=acr (a-b) b;rw[show a-b+b=a from E]at this;rw[this];have:=s8 b
 grind
def abJ(r:aM Tryz.prog 14 [] (.b true))(p:gV)(hz:Zb p)(rs:List fD)(b:fE)(L0:rs.length<=9223372036854775807)(K0:∀s∈rs,s.lo.length<=9223372036854775807/\s.hi.length<=9223372036854775807)
 (sh:List Int)(is:List (List Int))(h1:sh.length<=9223372036854775807)(h2:is.length<=9223372036854775807)(h3:∀l∈is,l.length<=9223372036854775807):
 aM Tryz.prog 6 [bh p,Jq rs b,tS false sh is] (.b true):=by
 refine bS Tryz.func6 W<|cx 2 [(3,.box true<|bh p),(4,.box true<|Jq rs b),(5,.box true<|tS false sh is)] (qC p=true/\MY rs=true/\Kv sh is=true) ?_ λhA=>?_
 ·refine bP W W (Ub p hz) W<|r0 W<|iN 29 W ?_ ?_<;>intro g1
  ·refine bP W W r W<|bN W W
  have K:qC p=true:=QL g1;refine bP W W (W9 rs L0 K0) W<|r0 W<|iN 35 W ?_ ?_<;>intro g2
  ·refine bP W W r W<|bN W W
  have O:MY rs=true:=QL g2;refine bP W W (aa0 sh is h1 h2 h3) W<|r0 W<|ni W W W ?_ ?_<;>intro g3
  ·refine bP W W r W<|bN W W
  have C:Kv sh is=true:=QL g3;refine r0 W<|c5 ⟨K,O,C⟩
 obtain⟨K,O,C⟩:=hA;obtain⟨F1,B0⟩:BE p/\p.aa.all nB=true:=by unfold qC at K;rw[abU,abU,decide_eq_true_eq]at K;exact⟨K.1,K.2.1⟩
 have M:=IE F1 B0;obtain⟨T,F⟩:(∀s∈rs,s.lo.length<=24/\s.hi.length<=24)/\rs.length<2^40:=by unfold MY at O;simp only[abU,adg,decide_eq_true_eq,yX]at O;exact⟨O.1,E⟩
 have J:∀s∈rs,ct s.lo/\ct s.hi:=λs hs=>by have:=T s hs;unfold ct;omega
 have E1:dT p=0->p.aa.length<=12:=λh=>by have:=(Og h).2.2.1;have:=F1.1;omega
 obtain⟨one,n⟩:∃one,one=if dT p≠0 then dT p else aaA p sh is:=⟨_,W⟩;obtain⟨f,j⟩:∃f,f=if mH p rs≠0 then mH p rs else aaA p sh is:=⟨_,W⟩;obtain⟨c,m⟩:∃c,c=if ik p rs b≠0 then ik p rs b else aaE p rs b sh is:=⟨_,W⟩;obtain⟨w,y⟩:∃w,w=if one=0 then TA p sh is p.aa.length else[]:=⟨_,W⟩;obtain⟨x,u⟩:∃x,x=if f=0 then tnS rs sh rs.length else[]:=⟨_,W⟩;obtain⟨z,o⟩:∃z,z=if c=0 then((List.range rs.length).map<|slQ rs b sh).map qt else[]:=⟨_,W⟩;have R:=aav p M sh is C;have G2:aaA p sh is≠0->aaE p rs b sh is=aaA p sh is:=λh=>by unfold aaE;rw[if_pos h]
 refine cx 1 [(3,.box true<|bh p),(4,.box true<|Jq rs b),(5,.box true<|tS false sh is),(7,.bA false 1 [] (SV.strs false) w),(8,.i one)] True ?_ λ_=>?_
 ·have D:=ab3 p M B0 E1 sh is C;refine r0 W ?_;by_cases P:dT p≠0
  ·rw[if_pos P]at D n;rw[if_neg<|by rw[n];exact P]at y;rw[y,n];refine bG W D W<|r0 W<|Yh () U ⟨⟨W,W,.refl _⟩,⟨W,W,.refl _⟩,⟨W,W,.refl _⟩,⟨W,W,.le<|show ar .nil (.bA false 1 [] (SV.strs false) [])from W⟩,⟨W,W,.refl _⟩,U⟩
  rw[if_neg P]at D n;by_cases H:aaA p sh is≠0
  ·rw[if_pos H]at D;rw[if_neg<|by rw[n];exact H]at y;rw[y,n];refine bG W D W<|r0 W<|Yh () U ⟨⟨W,W,.refl _⟩,⟨W,W,.refl _⟩,⟨W,W,.refl _⟩,⟨W,W,.le<|show ar .nil (.bA false 1 [] (SV.strs false) [])from W⟩,⟨W,W,.refl _⟩,U⟩
  rw[if_neg H]at D;rw[adv.1 H]at n;rw[if_pos n]at y;rw[y,n];refine bG W (D.shr.same (q:=.bW [.bA false 1 [] (SV.strs false)<|TA p sh is p.aa.length,.i 0]) W W) W<|r0 W<|c5 U
 refine cx 1 [(3,.box true<|bh p),(4,.box true<|Jq rs b),(5,.box true<|tS false sh is),(7,.bA false 1 [] (SV.strs false) w),(8,.i one),(9,.bA false 2 default dX x),(10,.i f)] True ?_ λ_=>?_
 ·have A:=acm p M rs J T F sh is C;refine r0 W ?_;by_cases P:mH p rs≠0
  ·rw[if_pos P]at A j;rw[if_neg<|by rw[j];exact P]at u;rw[u,j];refine bG W A W<|r0 W<|Yh () U ⟨⟨W,W,.refl _⟩,⟨W,W,.refl _⟩,⟨W,W,.refl _⟩,⟨W,W,.refl _⟩,⟨W,W,.refl _⟩,⟨W,W,.le<|show ar .nil (.bA false 2 default dX [])from W⟩,⟨W,W,.refl _⟩,U⟩
  rw[if_neg P]at A j;by_cases H:aaA p sh is≠0
  ·rw[if_pos H]at A;rw[if_neg<|by rw[j];exact H]at u;rw[u,j];refine bG W A W<|r0 W<|Yh () U ⟨⟨W,W,.refl _⟩,⟨W,W,.refl _⟩,⟨W,W,.refl _⟩,⟨W,W,.refl _⟩,⟨W,W,.refl _⟩,⟨W,W,.le<|show ar .nil (.bA false 2 default dX [])from W⟩,⟨W,W,.refl _⟩,U⟩
  rw[if_neg H]at A;rw[adv.1 H]at j;rw[if_pos j]at u;rw[u,j];refine bG W (A.shr.same (q:=.bW [.bA false 2 default dX<|tnS rs sh rs.length,.i 0]) W W) W<|r0 W<|c5 U
 refine cx 1 [(3,.box true<|bh p),(4,.box true<|Jq rs b),(5,.box true<|tS false sh is),(7,.bA false 1 [] (SV.strs false) w),(8,.i one),(9,.bA false 2 default dX x),(10,.i f),(11,.strs false z),(12,.i c)] True ?_ λ_=>?_
 ·have B:=acn p M rs J T F b sh is C;refine r0 W ?_;by_cases P:ik p rs b≠0
  ·rw[if_pos P]at B m;rw[if_neg<|by rw[m];exact P]at o;rw[o,m];refine bG W B W<|r0 W<|Yh () U ⟨⟨W,W,.refl _⟩,⟨W,W,.refl _⟩,⟨W,W,.refl _⟩,⟨W,W,.refl _⟩,⟨W,W,.refl _⟩,⟨W,W,.refl _⟩,⟨W,W,.refl _⟩,⟨W,W,.le<|show ar .nil (.strs false [])from W⟩,⟨W,W,.refl _⟩,U⟩
  rw[if_neg P]at B m;by_cases H:aaE p rs b sh is≠0
  ·rw[if_pos H]at B;rw[if_neg<|by rw[m];exact H]at o;rw[o,m];refine bG W B W<|r0 W<|Yh () U ⟨⟨W,W,.refl _⟩,⟨W,W,.refl _⟩,⟨W,W,.refl _⟩,⟨W,W,.refl _⟩,⟨W,W,.refl _⟩,⟨W,W,.refl _⟩,⟨W,W,.refl _⟩,⟨W,W,.le<|show ar .nil (.strs false [])from W⟩,⟨W,W,.refl _⟩,U⟩
  rw[if_neg H]at B;rw[adv.1 H]at m;rw[if_pos m]at o;rw[o,m];refine bG W (B.shr.same (q:=.bW [.strs false<|((List.range rs.length).map<|slQ rs b sh).map qt,.i 0]) W W) W<|r0 W<|c5 U
 refine cx 3 [(3,.box true<|bh p),(4,.box true<|Jq rs b),(5,.box true<|tS false sh is),(7,.bA false 1 [] (SV.strs false) w),(8,.i one),(9,.bA false 2 default dX x),(10,.i f),(11,.strs false z),(12,.i c),(13,.i<|dT p),(14,.i<|mH p rs)] True ?_ λ_=>?_
 ·refine bP W W (mN p M) W<|bQ W W ?_ ?_<;>intro g
  ·refine bP W W (wX p rs J F) W<|bL W U ⟨G,G,G,G,G,G,G,G,G,G,⟨W,ar.of_eq<|congrArg SV.i (if_neg<|not_not_intro g).symm⟩,U⟩
  refine bL W U ⟨G,G,G,G,G,G,G,G,G,G,⟨W,ar.of_eq<|congrArg SV.i (if_pos g).symm⟩,U⟩
 have G3:mH p rs=0->dT p=0:=λh=>by
  unfold mH at h;split at h
  ·rename_i g;exact absurd h g
  rename_i g;exact adv.1 g
 refine cx 1 [(3,.box true<|bh p),(4,.box true<|Jq rs b),(5,.box true<|tS false sh is),(7,.bA false 1 [] (SV.strs false) w),(8,.i one),(9,.bA false 2 default dX x),(10,.i f),(11,.strs false z),(12,.i c),(13,.i one),(14,.i f)] True ?_ λ_=>?_
 ·refine bQ W W ?_ ?_<;>intro g
  ·refine bP W W R W<|r0 W ?_;have X:one=aaA p sh is:=n.trans<|if_neg<|not_not_intro g;refine gb W ?_ ?_<;>intro g2
   ·refine bL W U ⟨G,G,G,G,G,G,G,G,G,⟨W,ar.of_eq<|congrArg SV.i X.symm⟩,⟨W,ar.of_eq<|congrArg SV.i (j.trans<|if_neg<|not_not_intro g2).symm⟩,U⟩
   refine bL W U ⟨G,G,G,G,G,G,G,G,G,⟨W,ar.of_eq<|congrArg SV.i X.symm⟩,⟨W,ar.of_eq<|congrArg SV.i (j.trans<|if_pos g2).symm⟩,U⟩
  refine bL W U ⟨G,G,G,G,G,G,G,G,G,⟨W,ar.of_eq<|congrArg SV.i (n.trans<|if_pos g).symm⟩,⟨W,ar.of_eq<|congrArg SV.i (j.trans<|if_pos λe=>g<|G3 e).symm⟩,U⟩
 refine cx 3 [(3,.box true<|bh p),(4,.box true<|Jq rs b),(5,.box true<|tS false sh is),(7,.bA false 1 [] (SV.strs false) w),(8,.i one),(9,.bA false 2 default dX x),(10,.i f),(11,.strs false z),(12,.i c),(13,.i one),(14,.i f),(15,.i c)] True ?_ λ_=>?_
 ·refine bP W W (Pb p rs b M J F) W ?_;rw[R5];refine bQ W W ?_ ?_<;>intro g
  ·have X:c=aaE p rs b sh is:=m.trans (if_neg<|not_not_intro g);refine bP W W R W<|bQ W W ?_ ?_<;>intro g2
   ·refine bP W W (acL p M rs F b (nm g) sh is g2) W<|bL W U ⟨G,G,G,G,G,G,G,G,G,G,G,⟨W,ar.of_eq<|congrArg SV.i X.symm⟩,U⟩
   refine bL W U ⟨G,G,G,G,G,G,G,G,G,G,G,⟨W,ar.of_eq<|congrArg SV.i (X.trans<|G2 g2).symm⟩,U⟩
  have X:c=ik p rs b:=m.trans<|if_pos g;refine bQ W W (λg2=>absurd g2 g) λ_=>?_;refine bL W U ⟨G,G,G,G,G,G,G,G,G,G,G,⟨W,ar.of_eq<|congrArg SV.i X.symm⟩,U⟩
 have F0:aM Tryz.prog 17 [bh p,.bA false 2 default dX rs,dz b,tS false sh is] (.i c):=by
  rw[m];by_cases g:ik p rs b≠0
  ·rw[if_pos g];exact abW p M rs J F b g sh is
  rw[if_neg g];exact aa2 p M rs J F b (adv.1 g) sh is C
 refine bP W W F0 W<|bJ W 108 W (λg=>absurd W g) λ_=>?_;refine bJ W 113 W (λg=>absurd W g) λ_=>?_;refine bJ W 118 W (λg=>absurd W g) λ_=>?_;refine bQ W W (λg=>absurd W g) λ_=>?_;refine Qr 1 W U ?_;have A0:one=0->dT p=0/\aaA p sh is=0:=λh=>by
  rw[n]at h;split at h
  ·rename_i g;exact absurd h g
  rename_i g;exact⟨adv.1 g,h⟩
 have Y:f=0->mH p rs=0/\aaA p sh is=0:=λh=>by
  rw[j]at h;split at h
  ·rename_i g;exact absurd h g
  rename_i g;exact⟨adv.1 g,h⟩
 have Z:c=0->ik p rs b=0/\aaE p rs b sh is=0:=λh=>by
  rw[m]at h;split at h
  ·rename_i g;exact absurd h g
  rename_i g;exact⟨adv.1 g,h⟩
 have S0:=M.aa;refine cx 1 [(3,.box true<|bh p),(4,.box true<|Jq rs b),(5,.box true<|tS false sh is),(7,.bA false 1 [] (SV.strs false) w),(8,.i one),(9,.bA false 2 default dX x),(10,.i f),(11,.strs false z),(12,.i c),(13,.i one),(14,.i f),(15,.i c)] True ?_ λ_=>?_
 ·refine bQ W W ?_ ?_<;>intro g
  ·obtain⟨Q,o2⟩:=A0 g;have sv:=aaK o2;have hv:=(Og Q).2.2.2;have G1:w=TA p sh is p.aa.length:=y.trans<|if_pos g;have G5:w.length=p.aa.length:=by rw[G1];simp[TA]
   have P0:∀i,i<p.aa.length->w.getD i []=(rtL p sh is i).map qt:=λi hi=>by rw[G1,au<|by simpa[TA]using hi];simp[TA]
   refine r0 W<|ra (λi:Nat=>[(3,.box true<|bh p),(4,.box true<|Jq rs b),(5,.box true<|tS false sh is),(7,.bA false 1 [] (SV.strs false) w),(8,.i one),(9,.bA false 2 default dX x),(10,.i f),(11,.strs false z),(12,.i c),(13,.i one),(14,.i f),(15,.i c),(126,.bA false 5 default dQ p.aa),(127,.i p.aa.length),(128,.i i)]) (λi=>i<=p.aa.length) (λi=>p.aa.length-i) 0 (abv _) ?_;intro i hi;refine bQ W W ?_ ?_<;>intro g2
   ·have t:i<p.aa.length:=E;have L:(i:Int).toNat=i:=E;have S1:=(M.unit _<|bw (d:=default) t).ah;have V:=P0 i t;have l2:((rtL p sh is i).map qt).length=(p.aa.getD i default).ah.length:=by simp[rtL]
    refine qp W ?_;rw[L];refine aC 139 W (λh=>absurd (by rw[G5]) h) λ_=>?_;refine k1 W aW (by simp only[bo,and_true,L]<;>omega) ?_;rw[L,V];refine gb W (λh=>absurd (by rw[l2]) h) λ_=>?_;refine r0 W<|ra (λk:Nat=>[(3,.box true<|bh p),(4,.box true<|Jq rs b),(5,.box true<|tS false sh is),(7,.bA false 1 [] (SV.strs false) w),(8,.i one),(9,.bA false 2 default dX x),(10,.i f),(11,.strs false z),(12,.i c),(13,.i one),(14,.i f),(15,.i c),(126,.bA false 5 default dQ p.aa),(127,.i p.aa.length),(128,.i i),(16,.i i),(152,.i (p.aa.getD i default).ah.length),(153,.i k)]) (λk=>k<=(p.aa.getD i default).ah.length) (λk=>(p.aa.getD i default).ah.length-k) 0 (abv _) ?_;intro k hk;refine bQ W W ?_ ?_<;>intro g3
    ·have F3:k<(p.aa.getD i default).ah.length:=E;have ek:(k:Int).toNat=k:=E;refine r1 W (by simp only[bo,and_true,L,ek,V,l2]<;>omega) ?_;rw[L,ek,V];refine bH W (aco p M hv sh is sv i k t F3) W<|Zz W<|gb W (λh=>absurd (by rw[au<|by rw[l2];exact F3];simp[rtL]) h) λ_=>?_;refine qp W<|gS (k+1) E
    refine qp W<|gS (i+1) E
   refine r0 W<|c5 U
  refine r0 W<|c5 U
 refine cx 1 [(3,.box true<|bh p),(4,.box true<|Jq rs b),(5,.box true<|tS false sh is),(7,.bA false 1 [] (SV.strs false) w),(8,.i one),(9,.bA false 2 default dX x),(10,.i f),(11,.strs false z),(12,.i c),(13,.i one),(14,.i f),(15,.i c)] True ?_ λ_=>?_
 ·refine bQ W W ?_ ?_<;>intro g
  ·obtain⟨Q,o2⟩:=Y g;obtain⟨⟨lX,-,-⟩,bX,-⟩:=aaK o2;have H1:jR p.n rs=0:=by
    unfold mH at Q;split at Q
    ·rename_i g;exact absurd Q g
    exact Q
   obtain⟨K2,H2⟩:=FP H1;have F4:x=tnS rs sh rs.length:=u.trans<|if_pos g;have G4:x.length=rs.length:=by rw[F4];simp[tnS]
   have M2:∀i,i<rs.length->x.getD i default=tnE rs sh i:=λi hi=>by rw[F4,au<|by simpa[tnS]using hi];simp[tnS]
   refine r0 W<|ra (λi:Nat=>[(3,.box true<|bh p),(4,.box true<|Jq rs b),(5,.box true<|tS false sh is),(7,.bA false 1 [] (SV.strs false) w),(8,.i one),(9,.bA false 2 default dX x),(10,.i f),(11,.strs false z),(12,.i c),(13,.i one),(14,.i f),(15,.i c),(174,.bA false 2 default dX rs),(175,.i rs.length),(176,.i i)]) (λi=>i<=rs.length) (λi=>rs.length-i) 0 (abv _) ?_;intro i hi;refine bQ W W ?_ ?_<;>intro g2
   ·have t:i<rs.length:=E;have L:(i:Int).toNat=i:=E;have bx:=bX _<|bw (d:=(0:Int))<|show i<sh.length from E;obtain⟨v1,v2⟩:=H2 _<|bw (d:=default) t;have m1:=gi (iK<|sh.getD i 0) (bV (rs.getD i default).lo) (Sz.iK _) (fi v1) E;have m2:=gi (iK<|sh.getD i 0) (bV (rs.getD i default).hi) (Sz.iK _) (fi v2) E;rw[fZ v1]at m1;rw[fZ v2]at m2;have V:=M2 i t;refine qp W ?_;rw[L];refine bG W (rU _ E) W<|bJ W 193 W (λh=>absurd (by rw[G4]) h) λ_=>?_;refine r1 W (by simp only[bo,and_true,L]<;>omega) ?_;rw[L,V];refine bH W m1 W<|bO W W m2 W<|r0 W<|Y9 W W W (mE.same (acu (a:=qt<|iK (sh.getD i 0)*bV (rs.getD i default).lo) (b:=qt<|iK (sh.getD i 0)*bV (rs.getD i default).hi) W) W W W W) W<|II W<|gS (i+1) E
   refine r0 W<|c5 U
  refine r0 W<|c5 U
 refine cx 1 [(3,.box true<|bh p),(4,.box true<|Jq rs b),(5,.box true<|tS false sh is),(7,.bA false 1 [] (SV.strs false) w),(8,.i one),(9,.bA false 2 default dX x),(10,.i f),(11,.strs false z),(12,.i c),(13,.i one),(14,.i f),(15,.i c)] True ?_ λ_=>?_
 ·refine bQ W W ?_ ?_<;>intro g
  ·obtain⟨Q,o2⟩:=Z g;have v:=nm Q;obtain⟨⟨⟨lX,-,-⟩,bX,-⟩,-,-,-⟩:=aaW o2;have K2:=v.rg.len;have S2:=v.bn.s;have G6:z.length=rs.length:=by rw[o,if_pos g];simp
   have P1:∀i,i<rs.length->z.getD i []=qt (slQ rs b sh i):=λi hi=>by rw[o,if_pos g,au<|by simpa using hi];simp
   refine r0 W<|ra (λi:Nat=>[(3,.box true<|bh p),(4,.box true<|Jq rs b),(5,.box true<|tS false sh is),(7,.bA false 1 [] (SV.strs false) w),(8,.i one),(9,.bA false 2 default dX x),(10,.i f),(11,.strs false z),(12,.i c),(13,.i one),(14,.i f),(15,.i c),(213,.bA false 2 default dX rs),(214,.i rs.length),(215,.i i)]) (λi=>i<=rs.length) (λi=>rs.length-i) 0 (abv _) ?_;intro i hi;refine bQ W W ?_ ?_<;>intro g2
   ·have t:i<rs.length:=E;have L:(i:Int).toNat=i:=E;have bx:=bX _<|bw (d:=(0:Int))<|show i<sh.length from E;have E2:=v.sp _<|bw (d:=default) t;have F2:=K6 E2.1;have m1:=gi (iK<|sh.getD i 0) (Gm<|rs.getD i default) (Sz.iK _) F2 E;have V:=P1 i t;refine Qr 3 W U<|cx 4 [(3,.box true<|bh p),(4,.box true<|Jq rs b),(5,.box true<|tS false sh is),(7,.bA false 1 [] (SV.strs false) w),(8,.i one),(9,.bA false 2 default dX x),(10,.i f),(11,.strs false z),(12,.i c),(13,.i one),(14,.i f),(15,.i c),(213,.bA false 2 default dX rs),(214,.i rs.length),(215,.i i),(22,.i i),(25,.s<|qt<|slQ rs b sh i)] True ?_ λ_=>?_
    ·refine qp W ?_;rw[L];refine bH W (rU _ E) W<|bO W W (uc _ E2.1) W<|bO W W m1 W<|Zz W<|bG W (mY _) W<|r0 W ?_;have M1:iK (sh.getD i 0)≠0:=λe=>by have:=s8<|sh.getD i 0;rw[e]at this;exact absurd this fh
     refine ni W W W ?_ ?_<;>intro h
     ·have h:¬iK (sh.getD i 0)*Gm (rs.getD i default)=0:=by simpa using h
      have S:Gm (rs.getD i default)≠0:=λe=>h (by rw[e,Rat.mul_zero]);have eq:iK b.s/(iK (sh.getD i 0)*Gm (rs.getD i default))=slQ rs b sh i:=by
       unfold slQ;rw[if_neg S,acq]
       grind
      have hd:=O5 (iK b.s) (iK (sh.getD i 0)*Gm (rs.getD i default)) (Sz.iK _) ((Sz.iK _).mul F2) E h;rw[eq]at hd;refine bP W W (rU _ E) W<|bP W W hd W<|r0 W<|c5 U
     have h:iK (sh.getD i 0)*Gm (rs.getD i default)=0:=by simpa using h
     have S:Gm (rs.getD i default)=0:=(Rat.mul_eq_zero.1 h).resolve_left M1;refine bL W U ⟨G,G,G,G,G,G,G,G,G,G,G,G,G,G,G,G,⟨W,ar.of_eq<|congrArg SV.s ?_⟩,U⟩;unfold slQ;rw[if_pos S,AL]
    refine bJ W 244 W (λh=>absurd (by rw[G6]) h) λ_=>?_;refine r1 W (by simp only[bo,and_true,L]<;>omega) ?_;rw[L,V];refine gb W (λh=>absurd W h) λ_=>?_;refine qp W<|gS (i+1) E
   refine r0 W<|c5 U
  refine r0 W<|c5 U
 refine bJ W 255 W ?_ ?_<;>intro q1
 ·refine bJ W 263 W ?_ ?_<;>intro q2
  ·refine bJ W 272 W ?_ ?_<;>intro N
   ·refine bP W W r W<|bN W W
   refine bJ W 278 W (λ_=>?_) λh=>absurd (by rw[o,if_neg N];rfl) h;refine bP W W r W<|bN W W
  refine bJ W 269 W (λ_=>?_) λh=>absurd (by rw[u,if_neg q2];rfl) h;refine bJ W 272 W ?_ ?_<;>intro N
  ·refine bP W W r W<|bN W W
  refine bJ W 278 W (λ_=>?_) λh=>absurd (by rw[o,if_neg N];rfl) h;refine bP W W r W<|bN W W
 refine bJ W 260 W (λ_=>?_) λh=>absurd (by rw[y,if_neg q1];rfl) h;refine bJ W 263 W ?_ ?_<;>intro q2
 ·refine bJ W 272 W ?_ ?_<;>intro N
  ·refine bP W W r W<|bN W W
  refine bJ W 278 W (λ_=>?_) λh=>absurd (by rw[o,if_neg N];rfl) h;refine bP W W r W<|bN W W
 refine bJ W 269 W (λ_=>?_) λh=>absurd (by rw[u,if_neg q2];rfl) h;refine bJ W 272 W ?_ ?_<;>intro N
 ·refine bP W W r W<|bN W W
 refine bJ W 278 W (λ_=>?_) λh=>absurd (by rw[o,if_neg N];rfl) h;refine bP W W r W<|bN W W
def U4:aM Tryz.prog 14 [] (.b true):=by
 refine bS Tryz.func14 W<|bP W W Rs W<|bP W W (IC.same W W) W<|bP W W (Ni.same W W) W<|bP W W (Sf.same W W) W<|bP W W (H0.same W W) W<|bP W W (Mi.same W W) W<|bP W W (I8.same W W) W<|bP W W (RI.same W W) W<|r1 W (aP W)<|aC 87 W (λg=>absurd g fh) λ_=>?_;refine r1 W (aP W)<|aC 91 W (λg=>absurd g fh) λ_=>?_;refine r1 W (aP W)<|bG W (Tt.same W W) W<|r1 W (aP W) ?_
 first
  |refine aC 102 rfl (λg=>absurd g fh) (λ_=>?_)
  |refine aC 97 rfl (λg=>absurd g fh) (λ_=>?_)
  |refine aC 110 rfl (λg=>absurd g fh) (λ_=>?_)
  |refine aC 115 rfl (λg=>absurd g fh) λ_=>?_
 refine r1 W (aP W)<|bG W (Tu.same W W) W<|r1 W (aP W) ?_
 first
  |refine aC 115 rfl (λg=>absurd g fh) (λ_=>?_)
  |refine aC 110 rfl (λg=>absurd g fh) λ_=>?_
 refine r1 W (aP W)<|ex W W W (mE.same (T5 (a:=1) (b:=0) (c:=3) W) W W W W) W<|RP YQ (B:=[]) aW
end Go.Ai.Pg
