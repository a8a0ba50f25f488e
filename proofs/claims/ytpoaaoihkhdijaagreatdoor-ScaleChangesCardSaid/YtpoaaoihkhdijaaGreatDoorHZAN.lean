/- Parts of the proof of ScaleChanges (as AIM.md's row tells), at every input, with no further conditions. -/
import Derived.Test.YtpoaaoihkhdijaaGreatDoorHZAM
set_option linter.all false
set_option maxRecDepth 100000
set_option maxHeartbeats 0
namespace Go.Ai.Pg
open Go.Proofs Go.Ai Go.Ai.eE
section
variable{K:Nat}{q:Rat}
def sM(q:Rat):(0:Rat)<((q.den:Int):Rat):=by have:=q.den_pos;exact Rat.intCast_pos.2 E
def tf(q:Rat):q*((q.den:Int):Rat)=(q.num:Rat):=by
 have a:=sM q;have h:=Rat.num_divInt_den q;rw[ahk]at h;have hn:((q.den:Int):Rat)≠0:=λe=>by rw[e]at a;simp_all
 have:(q.num:Rat)/((q.den:Int):Rat)*((q.den:Int):Rat)=q.num:=Rat.div_mul_cancel hn;rw[h]at this;exact this
def pc(k:Nat):(((2:Int)^k:Int):Rat)=(2:Rat)^k:=by
 induction k with
 |zero=>rfl
 |succ k a=>rw[ae1,ag1,<-a,ahj];rfl
def Oc(k:Nat)(q:Rat):(2:Rat)^k<=q↔(2:Int)^k*q.den<=q.num:=by
 have a:=sM q;have he:=tf q;rw[<-ahQ,ahj,pc];constructor
 ·intro h;have:=aiz h<|afB a;rw[he]at this;exact this
 intro h;rw[<-he]at h;exact aiq h a
def Oa(k:Nat)(q:Rat):((2:Rat)^k)⁻¹ <=q↔(q.den:Int)<=(2:Int)^k*q.num:=by
 have c:=sM q;have he:=tf q;have a:=vR k;rw[<-ahQ,ahj,pc,<-he];generalize (2:Rat)^k=t at*;generalize ((q.den:Int):Rat)=d at*;have hi:=Rat.mul_inv_cancel t (λe=>by rw[e]at a;exact absurd a fh);constructor
 ·intro h;have b:=ag3 h<|afB a;rw[hi]at b;have g:=aiz b<|afB c
  grind
 intro h;have b:(1:Rat)*d<=(t*q)*d:=by grind
 have g:=aiq b c;have f:=ag3 g<|afB<|ahn.2 a;have i:t⁻¹ *(t*q)=q:=by rw[<-ahM,agJ t⁻¹ t,hi,Rat.one_mul]
 rw[i,agt]at f;exact f
def FT(n:Nat):fV (xI ⟨2,none⟩ n) (n+1):=by
 have b:=show(-9223372036854775808:Int)<=2/\(2:Int)<=9223372036854775807 from fh;obtain⟨e,-⟩:=pr ⟨2,none⟩ n b;unfold fV;rw[e];show(eE.ae ((2:Int)^n).natAbs).length<=n+1;have a:((2:Int)^n).natAbs=2^n:=by rw[Int.natAbs_pow];rfl
 rw[a];clear e a
 induction n with
 |zero=>exact iJ fh
 |succ n c=>rw[afu];have f:=eE.dO (2^n) 2;have d:(eE.ae 2).length<=1:=iJ fh;omega
def Xb(f:Fr)(a:gW f q)(c:ri f K)(s:K<2^20)(k:Int)(r: -1048576<k/\k<1048576):aM Tryz.prog 229 [.i k,.box false<|eF f] (.u<|decide (iK k<=q)):=by
 have l:bj ⟨2,none⟩:=show(-9223372036854775808:Int)<=2/\(2:Int)<=9223372036854775807 from fh;refine bS Tryz.func229 W<|r0 W ?_;have d:fV ⟨2,none⟩ 1:=iJ (m:=2) fh;refine gb W ?_ ?_<;>intro g
 ·obtain⟨j,rfl⟩:∃j:Nat,k=j:=⟨k.toNat,E⟩;obtain⟨n,b⟩:=pr ⟨2,none⟩ j l;obtain⟨m1,o⟩:=cP (xI ⟨2,none⟩ j) f.d b a.d;have p:=gp b a.d (FT j) c.2;refine bO W W (Ii 2) W<|bO W W (QC _ j l d E E) W<|bO W W (qY _ f.d b a.d (FT j) c.2 E) W<|bO W W (R3 _ f.n o a.n p (dF c.1<|show K<=j+1+K from E) E) W<|k0 W aW<|aE W<|ar.of_eq<|congrArg SV.u ?_;rw[decide_eq_decide];have e:iK (j:Int)=(2:Rat)^j:=by unfold iK;rw[if_neg E];rfl
  rw[e,Oc,m1,n,a.vd,a.vn,show nv ⟨2,none⟩=2 from W];show Int.sign _<=0↔_;rw[Int.sign_nonpos_iff];constructor<;>intro h<;>omega
 obtain⟨j,rfl⟩:∃j:Nat,k= -(j:Int):=⟨(-k).toNat,E⟩;obtain⟨n,b⟩:=pr ⟨2,none⟩ j l;obtain⟨m1,o⟩:=cP (xI ⟨2,none⟩ j) f.n b a.n;have p:=gp b a.n (FT j) c.1;refine bO W W (Ii 2) W<|r1 W a7<|VP (us:=[eN ⟨2,none⟩,.i j]) W W U ⟨⟨W,W,U⟩,congrArg SV.i E,U⟩ (QC _ j l d E E) W<|bO W W (qY _ f.n b a.n (FT j) c.1 E) W<|bO W W (R3 f.d _ a.d o (dF c.2<|show K<=j+1+K from E) p E) W<|k0 W aW<|aE W<|ar.of_eq<|congrArg SV.u ?_;rw[decide_eq_decide];have e:iK (-(j:Int))=((2:Rat)^j)⁻¹ :=by unfold iK;rw[if_pos E];congr 2;omega
 rw[e,Oa,m1,n,a.vd,a.vn,show nv ⟨2,none⟩=2 from W];show Int.sign _<=0↔_;rw[Int.sign_nonpos_iff];constructor<;>intro h<;>omega
def Nw(h:0<q.num):iK ((bl q.num.natAbs:Int)-bl q.den-1)<=q:=by
 have c:=sM q;have he:=tf q;have j:2^(bl q.num.natAbs-1)<=q.num.natAbs:=xe E;have k:=JU q.den;have i:=yD (x:=q.num.natAbs) E;have g:iK ((bl q.num.natAbs:Int)-bl q.den-1)*(2:Rat)^bl q.den=(2:Rat)^(bl q.num.natAbs-1):=by rw[<-abg];unfold iK;rw[if_neg E];congr 1;omega
 have f:((q.den:Int):Rat)<=(2:Rat)^bl q.den:=by
  rw[<-pc];refine ahQ.2 ?_;have e:((2^bl q.den:Nat):Int)=(2:Int)^bl q.den:=by norm_cast
  omega
 have d:(2:Rat)^(bl q.num.natAbs-1)<=(q.num:Rat):=by
  rw[<-pc];refine ahQ.2 ?_;have e:((2^(bl q.num.natAbs-1):Nat):Int)=(2:Int)^(bl q.num.natAbs-1):=by norm_cast
  omega
 have b:=ag3 f<|afB<|s8<|(bl q.num.natAbs:Int)-bl q.den-1;rw[g]at b;have a:=ags b d;rw[<-he]at a;exact aiq a c
def Nx(h:0<q.num):¬iK ((bl q.num.natAbs:Int)-bl q.den+1)<=q:=by
 intro a;have d:=sM q;have he:=tf q;have l:2^(bl q.den-1)<=q.den:=xe (by have:=q.den_pos;omega);have k:=JU q.num.natAbs;have j:=yD (x:=q.den) (by have:=q.den_pos;omega);have i:iK ((bl q.num.natAbs:Int)-bl q.den+1)*(2:Rat)^(bl q.den-1)=(2:Rat)^bl q.num.natAbs:=by rw[<-abg];unfold iK;rw[if_neg E];congr 1;omega
 have g:(2:Rat)^(bl q.den-1)<=((q.den:Int):Rat):=by
  rw[<-pc];refine ahQ.2 ?_;have e:((2^(bl q.den-1):Nat):Int)=(2:Int)^(bl q.den-1):=by norm_cast
  omega
 have f:(q.num:Rat)<(2:Rat)^bl q.num.natAbs:=by
  rw[<-pc];refine Rat.intCast_lt_intCast.2 ?_;have e:((2^bl q.num.natAbs:Nat):Int)=(2:Int)^bl q.num.natAbs:=by norm_cast
  omega
 have c:=ag3 g<|afB<|s8<|(bl q.num.natAbs:Int)-bl q.den+1;rw[i]at c;have b:=aiz a<|afB d;rw[he]at b;exact absurd (ags c b)<|ahN.2 f
def Nv{x:Nat}(h:(eE.ae x).length<=K):bl x<=64*K:=by
 apply afC;intro hn;have a:x≠0:=λe=>by rw[e]at hn;simp[bl]at hn
 have g:=xe a;have f:2^(64*K)<=2^(bl x-1):=ae2 fh E;have d:=eE.l9 x;have c:18446744073709551616^(eE.ae x).length<=18446744073709551616^K:=ae2 fh h;have b:(18446744073709551616:Nat)^K=2^(64*K):=by rw[agn]
 omega
def Ll(f:Fr)(d:gW f q)(j:ri f K)(s:K<2^12)(o:0<q.num):aM Tryz.prog 140 [eF f] (.i<|wI q):=by
 have l:=Nw o;have m:=Nx o;have u:bl q.num.natAbs<2^19:=by have:=Nv j.1;rw[d.vn]at this;omega
 have t:bl q.den<2^19:=by have:=Nv j.2;rw[d.vd,afQ]at this;omega
 obtain⟨a,g⟩:∃a,a=(bl q.num.natAbs:Int)-bl q.den:=⟨_,W⟩;have k:∀e:Int,a-3<=e/\e<=a+3->aM Tryz.prog 229 [.i e,.box false<|eF f] (.u<|decide (iK e<=q)):=λe h=>Xb f d j E e E;have n1:=Sd f.n d.n j.1 E;have n:=Sd f.d d.d j.2 E;rw[d.vn]at n1;rw[d.vd,afQ]at n;refine bS Tryz.func140 W<|cx 2 [(1,.box true<|eF f),(3,.i a)] True ?_ λ_=>?_
 ·refine bO W W n1 W<|bO W W n W<|k1 W aW a7<|aN U ⟨G,⟨W,ar.of_eq<|congrArg SV.i g.symm⟩,U⟩
 refine oN (r:=1) (p:=[]) W W U<|CP 2 (λe:Int=>[(3,.i e),(4,.fn (.func 229) [] [.box false<|eF f])]) (λe=>iK e<=q/\e<=a/\a-1<=e) ?_ ?_
 ·refine r0 W<|ra (λe:Int=>[(3,.i e),(4,.fn (.func 229) [] [.box false<|eF f])]) (λe=>e<=a/\a-1<=e) (λe=>(e-(a-1)).toNat) a ⟨E,E⟩ ?_;rintro e⟨g1,g2⟩;refine bP W W (k e E) W<|r0 W<|ni W W W ?_ ?_<;>intro b
  ·have b:¬iK e<=q:=by simpa using b
   have:e≠a-1:=λh=>by rw[h,g]at b;exact b l
   refine r1 W a7<|gS (e-1) ⟨E,E⟩
  have b:iK e<=q:=by simpa using b
  refine r0 W<|il e ⟨b,g1,g2⟩
 rintro e⟨g1,g2,b⟩;refine r0 W<|ra (λe:Int=>[(3,.i e),(4,.fn (.func 229) [] [.box false<|eF f])]) (λe=>iK e<=q/\e<=a/\a-1<=e) (λe=>(a-e).toNat) e ⟨g1,g2,b⟩ ?_;rintro e⟨g1,g2,b⟩;refine r1 W a7<|bG W (k (e+1) E) W<|r0 W<|ni W W W ?_ ?_<;>intro c
 ·have c:iK (e+1)<=q:=by simpa using c
  have:e≠a:=λh=>by rw[h,g]at c;exact m c
  refine r1 W a7<|gS (e+1) ⟨c,E,E⟩
 have c:¬iK (e+1)<=q:=by simpa using c
 refine bK W W<|ar.of_eq<|congrArg SV.i (jJ ⟨g1,c⟩).symm
end
end Go.Ai.Pg
section
namespace Go.Ai.Pg
open Go.Proofs Go.Ai Go.Ai.eE
def RG(l:List Int)(hl:l.length<2^60):aM Tryz.prog 75 [.ints .i64 false l] (.i<|aK id l):=by
 refine bS Tryz.func75 W<|r0 W<|ra (λi:Nat=>[(5,.ints .i64 false l),(6,.i l.length),(7,.i i)]) (λi=>i<=l.length/\aK id l=aK id (l.drop i)) (λi=>l.length-i) 0 ⟨adk _,W⟩ ?_;rintro i⟨hi,a⟩;refine bQ W W ?_ ?_<;>intro h
 ·have b:i<l.length:=E;have d:(i:Int).toNat=i:=E;rw[dA _ b]at a;refine r1 W (by simp[bo,d];omega) ?_;refine gb W ?_ ?_<;>intro c
  ·refine bK W W<|bR ?_;rw[a];simp_all
  refine r1 W (by simp[bo];omega) ?_;refine gS (i+1) ⟨E,?_⟩;rw[a];simp_all
 refine bK W W<|bR ?_;rw[a,afo E];rfl
def SX(b:Bool)(e:Int):aM Tryz.prog 76 [.u b,.i e] (.i<|if b then e else 0):=by
 refine bS Tryz.func76 W<|r0 W<|ni W W W ?_ ?_<;>intro h
 ·refine bK W W<|bR ?_;rw[h];rfl
 refine bK W W<|bR ?_;rw[h];rfl
def xK(n lo hi:Int):aM Tryz.prog 145 [.i n,.i lo,.i hi] (.u<|decide (n<lo\/hi<n)):=by
 refine bS Tryz.func145 W<|bJ W 10 W ?_ ?_<;>intro h
 ·refine bK W W (show true=decide (n<lo\/hi<n)from(decide_eq_true<|.inl h).symm)
 refine bK W W<|ar.of_eq<|congrArg SV.u ?_;rw[decide_eq_decide];omega
def Ny(b:fE):aM Tryz.prog 114 [dz b] (.i<|od b):=by
 refine bS Tryz.func114 W<|r0 W<|ra (λi:Nat=>[(13,.ints .i64 true<|qT b),(14,.i 4),(15,.i i)]) (λi=>i<=4/\od b=aK (λx:Int=>if x<0\/40<x then 3 else 0) ((qT b).drop i)) (λi=>4-i) 0 ⟨adk _,W⟩ ?_;rintro i⟨hi,e⟩;have c:(qT b).length=4:=W;refine bQ W W ?_ ?_<;>intro h
 ·have d:i<(qT b).length:=E;have f:(i:Int).toNat=i:=E;rw[dA _ d]at e;refine r1 W (by simp[bo,and_true,f,c];omega) ?_;rw[f,au d];refine bG W (xK _ 0 40) W<|ni W W W ?_ ?_<;>intro a
  ·have a:(qT b)[i]<0\/40<(qT b)[i]:=by simpa using a
   refine bK W W<|bR ?_;rw[e,if_pos a];rfl
  have a:¬((qT b)[i]<0\/40<(qT b)[i]):=by simpa using a
  refine r1 W (by simp[bo,and_true];omega) ?_;refine gS (i+1) ⟨E,?_⟩;rw[e,if_neg a];rfl
 refine bK W W<|bR ?_;rw[e,afo E];rfl
def Tj(rs:List fD)(e:∀s∈rs,ct s.lo/\ct s.hi)(hl:rs.length<2^60):aM Tryz.prog 122 [.bA false 2 default dX rs] (.i<|aK iz rs):=by
 refine bS Tryz.func122 W<|r0 W<|ra (λi:Nat=>[(6,.bA false 2 default dX rs),(7,.i rs.length),(8,.i i)]) (λi=>i<=rs.length/\aK iz rs=aK iz (rs.drop i)) (λi=>rs.length-i) 0 ⟨adk _,W⟩ ?_;rintro i⟨hi,b⟩;refine bQ W W ?_ ?_<;>intro h
 ·have a:i<rs.length:=E;have d:(i:Int).toNat=i:=E;have f:rs.getD i default=rs[i]:=au a;rw[dA _ a]at b;refine r1 W (by simp[bo,d];omega) ?_;rw[d,f];have:=e _<|adC a;refine bG W (Wi rs[i] this.1 this.2) W<|bQ W W ?_ ?_<;>intro c
  ·refine bK W W<|bR ?_;rw[b,if_pos c]
  refine r1 W (by simp[bo,and_true];omega) ?_;refine gS (i+1) ⟨E,?_⟩;rw[b,if_neg c]
 refine bK W W<|bR ?_;rw[b,afo E];rfl
open Classical in
noncomputable def abv(p:gV)(rs:List fD):Int:=if dT p≠0 then dT p else jR p.n rs
def um(p:gV)(h:rA p)(rs:List fD)(a:∀s∈rs,ct s.lo/\ct s.hi)(hl:rs.length<2^40):aM Tryz.prog 93 [bh p,.bA false 2 default dX rs] (.i<|abv p rs):=by
 refine bS Tryz.func93 W<|bP W W (zX p h) W<|bQ W W ?_ ?_<;>intro g
 ·refine bK W W<|ar.of_eq<|congrArg SV.i<|by unfold abv;rw[if_pos g]
 refine bP W W (SX _ 2) W<|bP W W (Tj rs a E) W<|bP W W (RG _ I) W<|bK W W<|bR ?_;unfold abv jR;rw[if_neg g];by_cases e:(rs.length:Int)≠p.n
 ·rw[if_pos e];simp[aK,e]
 rw[if_neg e];by_cases g2:aK iz rs≠0
 ·simp[aK,e,g2]
 have g2:=afI.1 g2;simp[aK,e,g2]
end Go.Ai.Pg
end
namespace Go.Ai.Pg
open Go.Proofs Go.Ai Go.Ai.eE
section
variable{K:Nat}{q:Rat}{s:fD}
def xj(q:Rat):mD q=if q<0 then -q else q:=by
 unfold mD;by_cases h:q<0
 ·rw[if_pos h,if_pos<|Int.not_le.1 λg=>absurd (agH.1 g)<|ahN.2 h]
 rw[if_neg h,if_neg<|Int.not_lt.2<|agH.2<|Rat.not_lt.1 h]
def Nk(p q:Rat):0<=CV p q↔q<=p:=by unfold CV;rw[Int.sign_nonneg_iff,agH];constructor<;>grind
def T9(p q:Rat):An p q=if q<=p then p else q:=by
 unfold An;by_cases h:q<=p
 ·rw[if_pos h,if_pos<|(Nk p q).2 h]
 rw[if_neg h,if_neg λg=>h<|(Nk p q).1 g]
def XJ(s:fD):Prop:=XI s/\bV s.lo<=bV s.hi
def P2(h:iz s=0):XJ s:=by have a:=yW h;refine⟨a,?_⟩;unfold iz at h;rw[if_neg<|by rw[a.1];simp,if_neg<|by rw[a.2];simp]at h;exact tB.1 (Int.not_lt.1 λg=>by rw[if_pos g]at h;cases h)
def WO(h:XJ s):Gm s=if bV s.hi< -bV s.lo then -bV s.lo else bV s.hi:=by
 have hl:=h.2;unfold Gm;rw[T9,xj,xj]
 grind
noncomputable def Vx(s:fD):Fr:=if bV s.hi< -bV s.lo then⟨jc (aac<|bV s.lo).n,(aac<|bV s.lo).d⟩else aac (bV s.hi)
def Gg{f:Fr}(h:gW f q)(hs:ri f K):ri ⟨jc f.n,f.d⟩ K:=⟨oA h.n hs.1,hs.2⟩
def IF(h:XJ s):gW (Vx s) (Gm s)/\ri (Vx s) 600:=by
 rw[WO h];unfold Vx;obtain⟨-,a⟩:=GG (aac<|bV s.lo) (dP _) (fQ h.1.1).1 fh;by_cases g:bV s.hi< -bV s.lo
 ·rw[if_pos g,if_pos g];exact⟨a,Gg (dP _)<|fQ h.1.1⟩
 rw[if_neg g,if_neg g];exact⟨dP _,fQ h.1.2⟩
def th(s:fD)(h:XJ s):aM Tryz.prog 99 [dX s] (eF<|Vx s):=by
 obtain⟨n1,a⟩:=GG (aac<|bV s.lo) (dP _) (fQ h.1.1).1 fh;refine bS Tryz.func99 W<|bO W W (qG h.1.1) W<|bH W n1 W<|bO W W (qG h.1.2) W<|k0 W aW<|bG W (Lk _ _ a (dP _) (Gg (dP _)<|fQ h.1.1) (fQ h.1.2) fh) W ?_;have hs:((-bV s.lo).num*(bV s.hi).den-(bV s.hi).num*(-bV s.lo).den).sign>0↔bV s.hi< -bV s.lo:=by rw[Rat.lt_iff,gt_iff_lt,Int.sign_pos_iff];omega
 refine bQ W W ?_ ?_<;>intro g
 ·have g:=hs.1 g;refine bK W W<|ar.of_eq ?_;unfold Vx;rw[if_pos g];rfl
 have g:=λh=>g<|hs.2 h;refine bK W W<|ar.of_eq ?_;unfold Vx;rw[if_neg g];rfl
def M0(h:0<q.num):∃e,o4 q e/\(bl q.num.natAbs:Int)-bl q.den-1<=e/\e<=(bl q.num.natAbs:Int)-bl q.den:=by
 have b:=Nw h;have c:=Nx h;generalize (bl q.num.natAbs:Int)-bl q.den=a at*;by_cases g:iK a<=q
 ·exact⟨a,⟨g,c⟩,E,E⟩
 refine⟨a-1,⟨b,?_⟩,E,E⟩;rw[show a-1+1=a from E];exact g
def Uy(f:Fr)(b:gW f q)(a:ri f K)(i:K<2^12)(h:0<q.num): -524289<=wI q/\wI q<=524289:=by obtain⟨e,c,k,j⟩:=M0 h;rw[jJ c];have g:=Nv a.1;rw[b.vn]at g;have d:=Nv a.2;rw[b.vd,afQ]at d;omega
def Lm(m:Int){x:Rat}(h:0<x.num):wI (iK m*x)=m+wI x:=by
 obtain⟨e,c,-,-⟩:=M0 h;rw[jJ c];have add:∀k:Int,iK (m+k)=iK m*iK k:=by
  intro k;rcases Int.le_total 0 k with g|g
  ·obtain⟨j,rfl⟩:∃j:Nat,k=j:=⟨k.toNat,E⟩;rw[abg];have e:iK (j:Int)=(2:Rat)^j:=by unfold iK;rw[if_neg E];rfl
   rw[e]
  obtain⟨j,rfl⟩:∃j:Nat,k= -(j:Int):=⟨(-k).toNat,E⟩;have f:=abg (m+ -(j:Int)) j;have b:=abg (-(j:Int)) j;rw[show m+ -(j:Int)+j=m from E]at f;rw[show -(j:Int)+j=0 from E]at b;have i:iK 0=1:=W;rw[i]at b;generalize (2:Rat)^j=t at*;rw[f,ahM,agJ t,<-b,agt]
 have d:=s8 m;refine jJ ⟨?_,?_⟩
 ·rw[add];exact ag3 c.1<|afB d
 rw[show m+e+1=m+(e+1)from E,add];intro a;refine c.2 ?_;rw[agJ<|iK m,agJ<|iK m]at a;exact aiq a d
def MD(f:Fr){a:Rat}(d:gW f a)(k:ri f K)(m:K<2^12)(p:0<=a)(dH:Int)(hm: -1000000<=dH/\dH<=1000000):aM Tryz.prog 143 [eF f,.i dH] (.i<|abO a dH):=by
 refine bS Tryz.func143 W<|bP W W (MV f d) W<|bQ W W ?_ ?_<;>intro g
 ·have g:a.num=0:=by rwa[aib]at g
  refine bK W W<|bR ?_;unfold abO;rw[if_pos<|ahE.1 g]
 have g:¬a.num=0:=by rwa[aib]at g
 have j:a≠0:=λh=>g (by rw[h];rfl);obtain⟨i1,l⟩:=OQ f d j k;have b:0<a⁻¹ :=ahn.2 (by grind);have c:0<(a⁻¹).num:=by
  have o:=agH.2<|afB b;rcases Int.lt_or_eq_of_le o with e|e
  ·exact e
  have:=ahE.1 e.symm;rw[this]at b;exact absurd b fh
 have n:=Uy _ i1 l m c;refine bP W W (W7 f d j k E) W<|bG W (Ll _ i1 l m c) W<|r1 W aX<|aE W<|bR ?_;unfold abO;rw[if_neg j,ahi,Lm dH c];rfl
end
def zR(p:gV)(rs:List fD)(b:fE)(S:List Int)(a:List (List Int)):SV:=
 .agg [.i p.n,.bA false 5 default dQ p.aa,.ints .i64 false p.ints,.bA false 2 default dX rs,.i b.c,.i b.d,.i b.s,.i b.g,.ints .i64 true S,.bA true 1 [] (SV.ints .i64 true) a]
def X6(p:gV)(rs:List fD)(b:fE):Ah (.box true<|.agg [.i p.n,.bA false 5 default dQ p.aa,.ints .i64 false p.ints,.bA false 2 default dX rs,.i b.c,.i b.d,.i b.s,.i b.g,.nil,.nil]) (.box true<|zR p rs b [] []):=by have e:Ah .nil (.ints .i64 true []):=.le (show ar .nil (.ints .i64 true [])from W);have a:Ah .nil (.bA true 1 [] (SV.ints .i64 true) []):=.le (show ar .nil (.bA true 1 [] (SV.ints .i64 true) [])from W);exact .box<|.agg<|.cons (.refl _)<|.cons (.refl _)<|.cons (.refl _)<|.cons (.refl _)<|.cons (.refl _)<|.cons (.refl _)<|.cons (.refl _)<|.cons (.refl _)<|.cons e<|.cons a .nil
noncomputable def ik(p:gV)(rs:List fD)(b:fE):Int:=if abv p rs≠0 then abv p rs else od b
noncomputable def lF(rs:List fD)(b:fE):List Int:=rs.map λs=>abO (Gm s) b.s
noncomputable def ky(rs:List fD)(b:fE)(u:bT):List Int:=(List.range u.ah.length).map λk=>tM rs b u k
noncomputable def lS(rs:List fD)(b:fE)(us:List bT):List (List Int):=us.map<|ky rs b
noncomputable def SU(f:Hi):Fr:=if bV f.dZ<0 then⟨jc (aac<|bV f.dZ).n,(aac<|bV f.dZ).d⟩else aac (bV f.dZ)
def RH{f:Hi}(h:aL f.dZ=0):gW (SU f) (mD<|bV f.dZ)/\ri (SU f) 600:=by
 obtain⟨-,a⟩:=GG (aac<|bV f.dZ) (dP _) (fQ h).1 fh;rw[xj];unfold SU;by_cases g:bV f.dZ<0
 ·rw[if_pos g,if_pos g];exact⟨a,Gg (dP _)<|fQ h⟩
 rw[if_neg g,if_neg g];exact⟨dP _,fQ h⟩
def SA{a b:Rat}(c:0<=b):mD (a*b)=b*mD a:=by
 rw[xj,xj];by_cases g:a<0
 ·have d:0<=(-a)*b:=Rat.mul_nonneg (by grind) c;split<;>grind
 have d:0<=a*b:=Rat.mul_nonneg (by grind) c
 grind
noncomputable def Z1(p:gV)(rs:List fD)(b:fE)(j:Nat)(u:bT)(k:Nat):List (Nat×SV):=
 [(1,.bA false 2 default dX rs),(3,.box true<|bh p),(5,.box true<|dz b),(15,.ints .i64 true<|(ky rs b u).take k),(14,.box true<|dQ u),(35,.box true<|zR p rs b (lF rs b)<|(lS rs b p.aa).take j),(10,.bC 35 0 0 []),
  (65,.bA false 2 default oX u.ah),(66,.i u.ah.length),(67,.i k),(58,.bA false 5 default dQ p.aa),(59,.i p.aa.length),(60,.i j)]
noncomputable def X7(p:gV)(rs:List fD)(b:fE)(j:Nat):List (Nat×SV):=[(1,.bA false 2 default dX rs),(3,.box true<|bh p),(5,.box true<|dz b),(35,.box true<|zR p rs b (lF rs b)<|(lS rs b p.aa).take j),(10,.bC 35 0 0 []),(58,.bA false 5 default dQ p.aa),(59,.i p.aa.length),(60,.i j)]
def TQ(p:gV)(h:rA p)(rs:List fD)(hx:∀s∈rs,ct s.lo/\ct s.hi)(hl:rs.length<2^40)(b:fE)(he:ik p rs b=0)(hv:∀u∈p.aa,iQ p.n u)(hr:Vc p.n rs)(A:∀s∈rs,XJ s)(v:J9 b)(B0:p.aa.length<=96)(hn:p.n<=100):
 aM Tryz.prog 65 [bh p,.bA false 2 default dX rs,dz b] (.bW [.box true<|zR p rs b (lF rs b)<|lS rs b p.aa,.i 0]):=by
 have D:abv p rs=0:=by apply afC;intro g;unfold ik at he;rw[if_pos g]at he;exact g he
 have Q:od b=0:=by unfold ik at he;rwa[if_neg<|by rw[D];simp]at he
 have A0:=hr.len;refine bS Tryz.func65 W<|bP W W (um p h rs hx hl) W ?_;rw[D];refine bQ W W (λg=>absurd W g) λ_=>?_;refine bP W W (Ny b) W ?_;rw[Q];refine bQ W W (λg=>absurd W g) λ_=>?_;refine r0 W<|EI [(1,.bA false 2 default dX rs),(3,.box true<|bh p),(5,.box true<|dz b),(35,.box true<|zR p rs b [] []),(10,.bC 35 0 0 []),(36,.bA false 2 default dX rs),(37,.i rs.length),(38,.i 0)]
  ⟨⟨W,W,.refl _⟩,⟨W,W,.refl _⟩,⟨W,W,.refl _⟩,⟨W,W,X6 p rs b⟩,kL,⟨W,W,.refl _⟩,⟨W,W,.refl _⟩,⟨W,W,.refl _⟩,U⟩<|ra (λi:Nat=>[(1,.bA false 2 default dX rs),(3,.box true<|bh p),(5,.box true<|dz b),(35,.box true<|zR p rs b ((lF rs b).take i) []),(10,.bC 35 0 0 []),(36,.bA false 2 default dX rs),(37,.i rs.length),(38,.i i)]) (λi=>i<=rs.length) (λi=>rs.length-i) 0 (adk _) ?_
 intro i hi;have B:(lF rs b).length=rs.length:=by simp[lF]
 refine bQ W W ?_ ?_<;>intro g1
 ·have K:i<rs.length:=E;have ei:(i:Int).toNat=i:=E;have eg:rs.getD i default=rs[i]:=au K;have hs:=A _<|adC K;obtain⟨y,x⟩:=IF hs;refine r1 W (by simp only[bo,and_true,ei];omega) ?_;rw[ei,eg];refine bH W (th _ hs) W<|bO W W (MD _ y x fh (uQ _) b.s (by have:=v.s;omega)) W ?_;refine k1 W aW (by simp only[bo,and_true,afm,B]<;>simp<;>omega) ?_;refine again (i+1) E E ⟨G,G,G,⟨W,ar.of_eq ?_⟩,kL,G,G,G,U⟩;have e:(lF rs b).take (i+1)=(lF rs b).take i++[abO (Gm rs[i]) b.s]:=by
   rw[aey E];simp[lF]
  rw[e];rfl
 have:i=rs.length:=E;subst this;rw[<-B,afA];refine r0 W ?_;have J:(lS rs b p.aa).length=p.aa.length:=by simp[lS]
 refine ra (X7 p rs b) (λj=>j<=p.aa.length) (λj=>p.aa.length-j) 0 (adk _) ?_;intro j hj;unfold X7;refine bQ W W ?_ ?_<;>intro g2
 ·have F:j<p.aa.length:=E;have Z:(j:Int).toNat=j:=E;have z:p.aa[j]∈p.aa:=adC F;have eu:p.aa.getD j default=p.aa[j]:=au F;refine r1 W (by simp only[bo,and_true,Z]<;>omega) ?_;rw[Z,eu];have hu:=hv _ z;have X:=(h.unit _ z).ah;generalize N:p.aa[j]=u at*;have l:(ky rs b u).length=u.ah.length:=by simp[ky]
  refine ra (Z1 p rs b j u) (λk=>k<=u.ah.length) (λk=>u.ah.length-k) 0 (adk _) ?_;intro k hk;unfold Z1;refine bQ W W ?_ ?_<;>intro g3
  ·have o:k<u.ah.length:=E;have Y:(k:Int).toNat=k:=E;have T:u.ah.getD k default=u.ah[k]:=au o;have t:=hu.feed _<|adC o;have t:=hu.feed _<|adC o;have H:tM rs b u k=abO (IT rs u.ah[k]) (if u.kind=bq/\k=0 then b.d else b.s):=by unfold tM;rw[T]
   have O:(ky rs b u).take (k+1)=(ky rs b u).take k++[tM rs b u k]:=by rw[aey E];simp[ky]
   obtain⟨f,hf⟩:∃f,u.ah[k]=f:=⟨_,W⟩;rw[hf]at t H T;obtain⟨f1,f2,S,f4⟩:=t;obtain⟨n1,n2⟩:=GG (aac<|bV f.dZ) (dP _) (fQ S).1 fh;obtain⟨m1,L⟩:=RH S;refine rn 3 W<|cx 3 [(1,.bA false 2 default dX rs),(3,.box true<|bh p),(5,.box true<|dz b),(15,.ints .i64 true<|(ky rs b u).take k),(14,.box true<|dQ u),(35,.box true<|zR p rs b (lF rs b)<|(lS rs b p.aa).take j),(10,.bC 35 0 0 []),(65,.bA false 2 default oX u.ah),(66,.i u.ah.length),(67,.i k),(58,.bA false 5 default dQ p.aa),(59,.i p.aa.length),(60,.i j),(16,.i k),(17,.box true<|oX f),(18,.box true<|eF<|SU f)] True ?_ λ_=>?_
   ·refine r1 W (by simp only[bo,and_true,Y]<;>omega) ?_;rw[Y,T];refine bG W (qG S) W<|bP W W (MV _<|dP _) W<|r0 W ?_;have hs:(bV f.dZ).num.sign<0↔bV f.dZ<0:=by
     rw[af6];have:=agH (q:=bV f.dZ);constructor<;>intro h<;>grind
    refine gb W ?_ ?_<;>intro c
    ·have c:=hs.1 c;refine bP W W n1 W<|r0 W ?_;have e:SU f=⟨jc (aac<|bV f.dZ).n,(aac<|bV f.dZ).d⟩:=by unfold SU;rw[if_pos c]
     rw[e];exact gm U
    have c:¬bV f.dZ<0:=λh=>c<|hs.2 h;have e:SU f=aac (bV f.dZ):=by unfold SU;rw[if_neg c]
    rw[e];refine r0 W<|gm U
   have C:f.sh.toNat<rs.length:=E;have M:rs.getD f.sh.toNat default=rs[f.sh.toNat]:=au C;have d:=A _<|adC C;obtain⟨y,x⟩:=IF d;obtain⟨V,q2⟩:=tg (Vx rs[f.sh.toNat]) (SU f) y m1 x L;have P:Gm rs[f.sh.toNat]*mD (bV f.dZ)=IT rs f:=by unfold IT;rw[M,SA<|uQ _]
   rw[P]at V;have R:∀m:Int,0<=m/\m<=40->aM Tryz.prog 143 [eF<|QV (Vx rs[f.sh.toNat])<|SU f,.i m] (.i<|abO (IT rs f) m):=λm hm=>MD _ V q2 fh (oI _) m E;refine r0 W ?_;have a:∀m:Int,0<=m/\m<=40->m=(if u.kind=bq/\k=0 then b.d else b.s)->ar (.ints .i64 true<|(ky rs b u).take k++[abO (IT rs f) m]) (.ints .i64 true<|(ky rs b u).take<|k+1):=by intro m hm e;refine ar.of_eq ?_;rw[O,H,e]
   refine aC 84 W ?_ ?_<;>intro c
   ·refine bQ W W ?_ ?_<;>intro w
    ·have w:u.kind=bq:=w;have hc:b.d=(if u.kind=bq/\k=0 then b.d else b.s):=by rw[if_pos ⟨w,E⟩]
     refine r1 W (by simp only[bo,and_true];omega) ?_;rw[M];refine bH W (th _ d) W<|bO W W (Ch _ _ y m1 x L fh) W<|bO W W (R b.d v.d) W<|k1 W aW (by simp only[bo,and_true,afm,l]<;>simp<;>omega) ?_;exact again (k+1) E E ⟨G,G,G,⟨W,a _ v.d hc⟩,G,G,kL,G,G,G,G,G,G,U⟩
    have w:¬u.kind=bq:=w;have hc:b.s=(if u.kind=bq/\k=0 then b.d else b.s):=by rw[if_neg λh=>w h.1]
    refine r1 W (by simp only[bo,and_true];omega) ?_;rw[M];refine bH W (th _ d) W<|bO W W (Ch _ _ y m1 x L fh) W<|bO W W (R b.s v.s) W<|k1 W aW (by simp only[bo,and_true,afm,l]<;>simp<;>omega) ?_;exact again (k+1) E E ⟨G,G,G,⟨W,a _ v.s hc⟩,G,G,kL,G,G,G,G,G,G,U⟩
   have hc:b.s=(if u.kind=bq/\k=0 then b.d else b.s):=by rw[if_neg λh=>c (by have:=h.2;show(k:Int)=0;omega)]
   refine r1 W (by simp only[bo,and_true];omega) ?_;rw[M];refine bH W (th _ d) W<|bO W W (Ch _ _ y m1 x L fh) W<|bO W W (R b.s v.s) W<|k1 W aW (by simp only[bo,and_true,afm,l]<;>simp<;>omega) ?_;exact again (k+1) E E ⟨G,G,G,⟨W,a _ v.s hc⟩,G,G,kL,G,G,G,G,G,G,U⟩
  have:k=u.ah.length:=E;subst this;have r:(ky rs b u).take u.ah.length=ky rs b u:=by rw[<-l,afA]
  rw[r];refine r1 W (by simp only[bo,and_true,len,aeW,afm,J]<;>omega) ?_;refine vf (j+1) E E ⟨⟨W,W,.refl _⟩,⟨W,W,.refl _⟩,⟨W,W,.refl _⟩,⟨W,W,.box<|.agg<|.cons (.refl _)<|.cons (.refl _)<|.cons (.refl _)<|.cons (.refl _)<|.cons (.refl _)<|.cons (.refl _)<|.cons (.refl _)<|.cons (.refl _)<|.cons (.refl _)<|.cons (.row ?_) .nil⟩,kL,⟨W,W,.refl _⟩,⟨W,W,.refl _⟩,⟨W,W,.refl _⟩,U⟩;have e:(lS rs b p.aa).take (j+1)=(lS rs b p.aa).take j++[ky rs b u]:=by rw[aey E];simp[lS,N]
  rw[cX,e,aeY];exact o6.refl _
 have:j=p.aa.length:=E;subst this;rw[<-J,afA];refine bN W W
def vG(f:Nat):SV:=.agg [.fn (.func f) [] []]
def vF(f:Nat):Value:=.agg #[.func (.func f) #[] #[]]
def Vl:AF:=[(bq,vF 236),(jz,vF 237),(dy,vF 238)]
def Tv:aM Tryz.prog 147 [] (.mp<|BU Vl):=by refine bS Tryz.func147 W<|r0 W<|ex W W W (Iz W) W<|r0 W<|ex W W W (s9 (k:=bq) (v:=vF 236) (x:=vG 236) (.inl W) W Tryz.underlying231 Tryz.underlying9 W) W<|r0 W<|ex W W W (s9 (k:=jz) (v:=vF 237) (x:=vG 237) (.inl W) W Tryz.underlying231 Tryz.underlying9 W) W<|r0 W<|ex W W W (s9 (k:=dy) (v:=vF 238) (x:=vG 238) (.inl W) W Tryz.underlying231 Tryz.underlying9 W) W<|bN W W
def UA(u:bT)(L:List Int)(n:Int)(b:fE):SV:=.agg [.s u.kind,.bA false 2 default oX u.ah,.i u.out,.s u.k,.strs false u.dI,.ints .i64 false L,.i n,.i b.c,.i b.d,.i b.s,.i b.g]
def cI(L:List Int)(b:fE)(u:bT):List iV:=
 [⟨-1,-1,L.getD 0 0+40⟩,⟨(u.ah.getD 0 default).sh,-1,L.getD 0 0+b.g⟩,⟨-1,(u.ah.getD 0 default).sh,b.g-L.getD 0 0⟩,⟨u.out,-1,L.getD 1 0+L.getD 0 0-b.c⟩,
  ⟨-1,u.out,40+b.c-L.getD 0 0⟩,⟨u.out,(u.ah.getD 1 default).sh,b.g+L.getD 0 0-b.c⟩,⟨(u.ah.getD 1 default).sh,u.out,b.g-L.getD 0 0+b.c⟩]
def cA(L:List Int)(b:fE)(u:bT)(k:Nat):List iV:=[⟨u.out,-1,L.getD k 0⟩,⟨u.out,(u.ah.getD k default).sh,b.g⟩,⟨(u.ah.getD k default).sh,u.out,b.g⟩]
def cT(L:List Int)(n:Int)(b:fE)(u:bT):List iV:=[⟨n,-1,L.getD 0 0⟩,⟨-1,n,40⟩,⟨n,(u.ah.getD 0 default).sh,b.g⟩,⟨(u.ah.getD 0 default).sh,n,b.g⟩]
def Zc(x:Int):Prop:= -1000000<=x/\x<=1000000
def Tx(u:bT)(L:List Int)(n:Int)(b:fE)(d:J9 b)(g:u.ah.length=2)(h:L.length=2)(hl:∀x∈L,Zc x):
 aM Tryz.prog 236 [UA u L n b] (.bA true 3 default iU<|cI L b u):=by
 obtain⟨x,y,rfl⟩:∃x y,L=[x,y]:=by
  match L,h with
  |[x,y],_=>exact⟨x,y,W⟩
 have f:=hl x I;have e:=hl y I;unfold Zc at f e;have i:=d.g;have hc:=d.c;have c:Int.toNat 0=0:=W;have a:Int.toNat 1=1:=W;refine bS Tryz.func236 W<|k1 W aW (by simp[bo,and_true,c,a,g,adX,aeg,ain,aix]<;>omega) ?_;exact aE W kL
def Tz(u:bT)(L:List Int)(n:Int)(b:fE)(i:u.ah.length=L.length)(j:L.length<=8):
 aM Tryz.prog 237 [UA u L n b] (.bA true 3 default iU<|(List.range u.ah.length).flatMap<|cA L b u):=by
 refine bS Tryz.func237 W<|r0 W<|ra (λk:Nat=>[(1,.box true<|UA u L n b),(3,.bA true 3 default iU<|(List.range k).flatMap<|cA L b u),(8,.bA false 2 default oX u.ah),(9,.i u.ah.length),(10,.i k)]) (λk=>k<=u.ah.length) (λk=>u.ah.length-k) 0 (adk _) ?_;intro k h;have d:((List.range k).flatMap<|cA L b u).length<=k*3:=cS (f:=cA L b u) (c:=3) (λk=>by simp[cA]) k;refine bQ W W ?_ ?_<;>intro g
 ·have e:k<u.ah.length:=E;have a:(k:Int).toNat=k:=E;refine k1 W aW (by simp only[bo,and_true,a,len,aeW,adX,aeg]<;>omega) ?_;refine again (k+1) E E ⟨G,⟨W,W,W,?_⟩,G,G,G,U⟩;rw[cX,iM,aeY,a];exact jC.refl _
 have:k=u.ah.length:=E;subst this;refine bN W W
def Tw(u:bT)(L:List Int)(n:Int)(b:fE)(c:u.ah.length=1)(a:L.length=1):
 aM Tryz.prog 238 [UA u L n b] (.bA true 3 default iU<|cT L n b u):=by
 refine bS Tryz.func238 W<|k1 W aW (by simp[bo,a]<;>omega) ?_;exact aE W kL
def CA(p:gV)(rs:List fD)(b:fE)(S:List Int)(a:List (List Int)):SV:=
 .agg [.i p.n,.bA false 5 default dQ p.aa,.ints .i64 false p.ints,.bA false 2 default dX rs,.i b.c,.i b.d,.i b.s,.i b.g,.ints .i64 false S,.bA false 1 [] (SV.ints .i64 false) a]
def Tn(rs:List fD)(b:fE){s:Nat}(h:s<rs.length):(lF rs b).getD s 0=Px rs b s:=by unfold lF Px;rw[adY,adY,agb,aeF h];rfl
def IN(rs:List fD)(b:fE)(u:bT):(ky rs b u).length=u.ah.length:=by simp[ky]
def sj(rs:List fD)(b:fE)(u:bT){k:Nat}(h:k<u.ah.length):(ky rs b u).getD k 0=tM rs b u k:=by unfold ky;rw[adY,agb,ahL h];rfl
def Rk(rs:List fD)(b:fE)(us:List bT){i:Nat}(h:i<us.length):(lS rs b us).getD i []=ky rs b us[i]:=by unfold lS;rw[adY,agb,aeF h];rfl
def Um(rs:List fD)(b:fE)(u:bT){n:Int}(hu:iQ n u)(e:Vc n rs)(hl:rs.length<2^40)(d:u.ah.length<2^40)(f:J9 b):∀x∈ky rs b u,Zc x:=by intro x a;unfold ky at a;rw[aeN]at a;obtain⟨k,c,rfl⟩:=a;have c:=agm.1 c;obtain⟨-,g,c3⟩:=jo rs b u k hu c e hl d f;unfold Zc;omega
def YL(rs:List fD)(b:fE)(u:bT)(h:u.ah.length=2):cI (ky rs b u) b u=CU rs b u:=by unfold cI CU;rw[sj rs b u E,sj rs b u E]
def YM(rs:List fD)(b:fE)(u:bT):(List.range u.ah.length).flatMap (cA (ky rs b u) b u)=(List.range u.ah.length).flatMap (qR rs b u):=by
 have:∀k∈List.range u.ah.length,cA (ky rs b u) b u k=qR rs b u k:=by intro k a;unfold cA qR;rw[sj rs b u<|agm.1 a]
 rw[List.flatMap_def,List.flatMap_def,afq this]
def YJ(rs:List fD)(b:fE)(u:bT)(n:Int)(h:u.ah.length=1):cT (ky rs b u) n b u=GS n rs b u:=by unfold cT GS;rw[sj rs b u E]
def qP(p:gV)(h:rA p)(n:Nat)(hn:p.n=n)(Z:n<=100)(N:p.aa.length<=96)(M:∀u∈p.aa,iQ p.n u)(rs:List fD)(b:fE)(P:Vc p.n rs)(R:J9 b):
 aM Tryz.prog 72 [.box false<|CA p rs b (lF rs b)<|lS rs b p.aa] (.bW [.bA true 3 default iU<|iv n p.aa rs b,.i ((n+eR p.aa p.aa.length:Nat):Int)]):=by
 have X:=h.aa;have J:rs.length=n:=by have:=P.len;omega
 have H:(lF rs b).length=n:=by simp[lF,J]
 have r:(lS rs b p.aa).length=p.aa.length:=by simp[lS]
 have hU:∀i,(hi:i<p.aa.length)->(ry ((n+eR p.aa i:Nat):Int) rs b<|p.aa.getD i default).length<=24:=by
  intro i hi;have hu:=M _<|adC hi;rw[au hi];unfold ry;split
  ·simp[CU]
  split
  ·rename_i g;have:=cS (f:=qR rs b p.aa[i]) (c:=3) (λk=>by simp[qR]) p.aa[i].ah.length;have:=(hu.add g).2.1;omega
  split
  ·simp[GS]
  simp
 have F:∀i,i<=p.aa.length->(jM n p.aa rs b i).length<=200+24*i:=by
  intro i
  induction i with
  |zero=>intro _;have:=cS (f:=yw rs b) (c:=2) (λk=>by simp[yw]) n;simp only[jM,kZ,List.range_zero,List.flatMap_nil,afN];omega
  |succ i V=>intro hi;have:=V E;have:=hU i E;rw[oa,aeP];omega
 refine bS Tryz.func72 W<|r0 W<|ra (λs:Nat=>[(0,.box false<|CA p rs b (lF rs b)<|lS rs b p.aa),(4,.bA true 3 default iU<|kZ rs b s),(14,.ints .i64 false<|lF rs b),(15,.i (lF rs b).length),(16,.i s)]) (λs=>s<=n) (λs=>n-s) 0 (adk _) ?_;intro s hs;have O:(kZ rs b s).length<=s*2:=cS (f:=yw rs b) (c:=2) (λk=>by simp[yw]) s;refine bQ W W ?_ ?_<;>intro L
 ·have Y:s<n:=E;have S:(s:Int).toNat=s:=E;have B:=Tn rs b (show s<rs.length from E);refine r1 W (by simp only[bo,and_true,S,H,len,aeW,adX,aeg]<;>omega) ?_;rw[S,B];refine again (s+1) E E ⟨G,⟨W,W,W,?_⟩,G,G,G,U⟩;rw[cX,kZ,kZ,iM,aeY];exact jC.refl _
 have:s=n:=E;subst this;have h0:kZ rs b s=jM s p.aa rs b 0:=by unfold jM;simp
 rw[h0];refine bP W W Tv W<|bM W (λi:Nat=>[(0,.box false<|CA p rs b (lF rs b)<|lS rs b p.aa),(4,.bA true 3 default iU<|jM s p.aa rs b i),(7,.mp<|BU Vl),(8,.i ((s+eR p.aa i:Nat):Int)),(40,.bA false 5 default dQ p.aa),(41,.i p.aa.length),(42,.i i)])
  (λi=>i<=p.aa.length) (λi=>p.aa.length-i) 0 (adk _) ⟨G,G,G,⟨W,ar.of_eq<|congrArg SV.i<|by rw[hn];simp[eR]⟩,G,G,G,U⟩ ?_
 intro i hi;refine bQ W W ?_ ?_<;>intro L
 ·have j:i<p.aa.length:=E;have q:(i:Int).toNat=i:=E;have B:p.aa.getD i default=p.aa[i]:=au j;have hu:=M _<|adC j;have m:=(h.unit _<|adC j).ah;have Q:=F i hi;have a:=oa s p.aa rs b i;have d:=kp j;have D1:=qQ p.aa i;have l:=Rk rs b p.aa j;rw[B]at a;obtain⟨u,eu⟩:∃u,p.aa[i]=u:=⟨_,W⟩;rw[eu]at hu m a d l B;have y:=Um rs b u hu P E m R;have K:=IN rs b u;have T:=Gp;have C:=wm;have D:=AR;refine r1 W (by simp only[bo,and_true,q]<;>omega) ?_;rw[q,B];by_cases w:u.kind=bq
  ·have e:¬u.kind=dy:=by rw[w];exact C
   have z:=(hu.int w).1;rw[if_neg e]at d;unfold ry at a;rw[if_pos w]at a;refine SQ (vG 236) W W W (gq (k:=u.kind) (x:=vG 236) Tryz.underlying231 Tryz.underlying9 (v:=vF 236) (by rw[w];rfl) W false) W ?_;refine r1 W (by simp only[bo,and_true,q,r]<;>omega) ?_;rw[q,l];refine bH W (Tx u (ky rs b u) _ b R z E y) W ?_;rw[YL rs b u z];refine k1 W aW (by simp only[bo,and_true,len,aeW,CU,adX,aeg];exact⟨λ_=>rfl,λ_=>rfl,E⟩) ?_;refine gb W (λo=>absurd o e) λ_=>?_;refine r1 W ba<|again (i+1) E E ⟨G,⟨W,W,W,?_⟩,G,⟨W,ar.of_eq<|congrArg SV.i<|by rw[d];rfl⟩,G,G,G,U⟩;rw[cX,a,aeY];exact jC.refl _
  unfold ry at a;rw[if_neg w]at a;by_cases o:u.kind=jz
  ·have e:¬u.kind=dy:=by rw[o];exact D
   rw[if_neg e]at d;rw[if_pos o]at a;have B0:=(hu.add o).2.1;have A0:=cS (f:=qR rs b u) (c:=3) (λk=>by simp[qR]) u.ah.length;refine SQ (vG 237) W W W (gq (k:=u.kind) (x:=vG 237) Tryz.underlying231 Tryz.underlying9 (v:=vF 237) (by rw[o];rfl) W false) W ?_;refine r1 W (by simp only[bo,and_true,q,r]<;>omega) ?_;rw[q,l];refine bH W (Tz u (ky rs b u) _ b K.symm E) W ?_;rw[YM rs b u];refine k1 W aW (by simp only[bo,and_true,len,aeW];exact⟨λ_=>rfl,λ_=>rfl,E⟩) ?_;refine gb W (λt=>absurd t e) λ_=>?_;refine r1 W ba<|again (i+1) E E ⟨G,⟨W,W,W,?_⟩,G,⟨W,ar.of_eq<|congrArg SV.i<|by rw[d];rfl⟩,G,G,G,U⟩;rw[cX,a,aeY];exact jC.refl _
  rw[if_neg o]at a;have t:u.kind=dy:=by
   rcases hu.kind with g|g|g
   ·exact absurd g w
   ·exact absurd g o
   exact g
  rw[if_pos t]at a d;have A:=(hu.table t).1;refine SQ (vG 238) W W W (gq (k:=u.kind) (x:=vG 238) Tryz.underlying231 Tryz.underlying9 (v:=vF 238) (by rw[t];rfl) W false) W ?_;refine r1 W (by simp only[bo,and_true,q,r]<;>omega) ?_;rw[q,l];refine bH W (Tw u (ky rs b u) _ b A E) W ?_;rw[YJ rs b u _ A];refine k1 W aW (by simp only[bo,and_true,len,aeW,GS,adX,aeg];exact⟨λ_=>rfl,λ_=>rfl,E⟩) ?_;refine gb W (λ_=>?_) λh5=>absurd t h5;refine r1 W ba<|again (i+1) E E ⟨G,⟨W,W,W,?_⟩,G,⟨W,ar.of_eq<|congrArg SV.i<|by rw[d];omega⟩,G,G,G,U⟩;rw[cX,a,aeY];exact jC.refl _
 have:i=p.aa.length:=E;subst this;refine bN W W
structure YU(p:gV)(rs:List fD)(b:fE):Prop where
 aae:dT p=0
 n1:1<=p.n
 n:p.n<=100
 aa:p.aa.length<=96
 val:∀u∈p.aa,iQ p.n u
 rg:Vc p.n rs
 sp:∀s∈rs,XJ s
 bn:J9 b
def Og{p:gV}(h:dT p=0):1<=p.n/\p.n<=100/\p.aa.length<=96/\∀u∈p.aa,iQ p.n u:=by
 unfold dT at h;split at h
 ·cases h
 rename_i c;split at h
 ·cases h
 rename_i b;split at h
 ·rename_i a;exact absurd h a
 rename_i a;refine⟨E,E,E,λu hu=>?_⟩;exact p9<|dK.1 (by simpa using a) u hu
def nm{p:gV}{rs:List fD}{b:fE}(h:ik p rs b=0):YU p rs b:=by
 have a:abv p rs=0:=by apply afC;intro g;unfold ik at h;rw[if_pos g]at h;exact g h
 have e:od b=0:=by unfold ik at h;rwa[if_neg<|by rw[a];simp]at h
 have d:dT p=0:=by apply afC;intro g;unfold abv at a;rw[if_pos g]at a;exact g a
 have c:jR p.n rs=0:=by unfold abv at a;rwa[if_neg<|by rw[d];simp]at a
 obtain⟨k,j,i,f⟩:=Og d;refine⟨d,k,j,i,f,FP c,λs hs=>?_,Ab.1 e⟩;unfold jR at c;split at c
 ·cases c
 exact P2<|dK.1 c s hs
def F9(p:gV)(h:rA p)(rs:List fD)(a:∀s∈rs,ct s.lo/\ct s.hi)(hl:rs.length<2^40)(b:fE)(he:ik p rs b=0):
 aM Tryz.prog 65 [bh p,.bA false 2 default dX rs,dz b] (.bW [.box true<|zR p rs b (lF rs b)<|lS rs b p.aa,.i 0]):=
 have v:=nm he
 TQ p h rs a hl b he v.val v.rg v.sp v.bn v.aa v.n
def OI(p:gV)(h:rA p)(rs:List fD)(a:∀s∈rs,ct s.lo/\ct s.hi)(hl:rs.length<2^40)(b:fE)(he:ik p rs b=0):
 aM Tryz.prog 16 [bh p,.bA false 2 default dX rs,dz b] (.bW [.ints .i64 false<|lF rs b,.bA false 1 [] (SV.ints .i64 false)<|lS rs b p.aa,.i 0]):=by
 refine bS Tryz.func16 W<|bP W W (F9 p h rs a hl b he) W<|bQ W W (λg=>absurd W g) λ_=>?_;refine oN (r:=9) (p:=[]) W W U<|k0 W aW<|bF W
def RZ(p:gV)(h:rA p)(rs:List fD)(a:∀s∈rs,ct s.lo/\ct s.hi)(hl:rs.length<2^40)(b:fE)(he:ik p rs b=0):
 aM Tryz.prog 58 [bh p,.bA false 2 default dX rs,dz b] (.bW [.bA true 3 default iU<|iv p.n.toNat p.aa rs b,.i 0]):=by
 have v:=nm he;have hn:p.n=(p.n.toNat:Int):=by have:=v.n1;omega
 refine bS Tryz.func58 W<|bP W W (F9 p h rs a hl b he) W<|bQ W W (λg=>absurd W g) λ_=>?_;refine r0 W<|call W W U (qP p h p.n.toNat hn (by have:=v.n;omega) v.aa v.val rs b v.rg v.bn) W ⟨λ_=>rfl,U⟩ ?_;refine bN W W
end Go.Ai.Pg
namespace Go.Ai
open Go.Proofs Go.RowKit
def C5:Bool->Bool->Bool
 |true,b=>b
 |false,true=>false
 |false,false=>true
def yC{a b:Bool}(h:C5 a b=true):a=b:=by cases a<;>cases b<;>simp_all[C5]
def Vz:Int->Int->Bool
 |.ofNat a,.ofNat b=>Nat.beq a b
 |.negSucc a,.negSucc b=>Nat.beq a b
 |_,_=>false
def Rj{a b:Int}(h:Vz a b=true):a=b:=by
 cases a<;>cases b<;>first
  |(rw[afb h])
  |cases h
def xz:hO->hO->Bool
 |[],[]=>true
 |a::x,b::y=>match Nat.beq a.toNat b.toNat with
  |true=>xz x y
  |false=>false
 |_,_=>false
def D4:∀{a b:hO},xz a b=true->a=b
 |[],[],_=>rfl
 |[],_::_,h=>by simp[xz]at h
 |_::_,[],h=>by simp[xz]at h
 |a::x,b::y,h=>by
  unfold xz at h;split at h
  ·rename_i e;rw[D4 h,ahg.1<|afb e]
  cases h
def PJ:Value->Value->Bool
 |.pointer none,.pointer none=>true
 |.map none,.map none=>true
 |.nilFunc,.nilFunc=>true
 |.nilIface,.nilIface=>true
 |_,_=>false
def PI{a b:Value}(h:PJ a b=true):a=b:=by
 unfold PJ at h
 grind
def can:SV->SV
 |.fv _ []=>.nil
 |.fv k (x::xs)=>.row false 1 ((x::xs).map<|.n k)
 |.ints k o xs=>.row o 1 (xs.map<|.n k)
 |.strs o xs=>.row o 1 (xs.map .s)
 |.cz o xs=>.row o 1 (xs.map .b)
 |.bA o sz _ e xs=>.row o sz (xs.map e)
 |.u x=>.b x
 |x=>x
def Nr(x:SV):(can x).den=x.den:=by
 cases x<;>try rfl
 case fv k a=>cases a<;>simp[can,SV.den,Yx,XQ,fl,cn]
 all_goals simp[can,SV.den,cn]
def allEq(f:SV->SV->Bool):List SV->List SV->Bool
 |[],[]=>true
 |x::xs,y::ys=>match f x y with
  |true=>allEq f xs ys
  |false=>false
 |_,_=>false
def Xh(f:SV->SV->Bool):SV->SV->Bool
 |.n k a,.n i b=>eX (su k i) (Vz a b)
 |.b a,.b b=>C5 a b
 |.s a,.s b=>xz a b
 |.c a,.c b=>PJ a b
 |.nil,.nil=>true
 |.row o sz xs,.row o' h ys=>eX (C5 o o') (eX (Nat.beq sz h)<|allEq f xs ys)
 |.agg xs,.agg ys=>allEq f xs ys
 |.bW xs,.bW ys=>allEq f xs ys
 |.box o x,.box o' y=>eX (C5 o o') (f x y)
 |.fn (.func g) xs ys,.fn (.func j) e d=>eX (Nat.beq g j) (eX (allEq f xs e)<|allEq f ys d)
 |_,_=>false
def Ng:Nat->SV->SV->Bool
 |0,_,_=>false
 |n+1,x,y=>Xh (Ng n) (can x)<|can y
def j5{f:SV->SV->Bool}(a:∀x y,f x y=true->x.den=y.den):∀{xs ys:List SV},allEq f xs ys=true->aB xs=aB ys
 |[],[],_=>rfl
 |[],_::_,h=>by simp[allEq]at h
 |_::_,[],h=>by simp[allEq]at h
 |x::xs,y::ys,h=>by
  unfold allEq at h;split at h
  ·rename_i e;simp[aB,a _ _ e,j5 a h]
  cases h
def R4{f:SV->SV->Bool}(a:∀x y,f x y=true->x.den=y.den){x y:SV}(h:Xh f x y=true):x.den=y.den:=by
 unfold Xh at h;split at h
 ·rw[aO]at h;rw[np h.1,Rj h.2]
 ·rw[yC h]
 ·rw[D4 h]
 ·rw[PI h]
 ·rfl
 ·rw[aO,aO]at h;simp[SV.den,yC h.1,afb h.2.1,j5 a h.2.2]
 ·simp[SV.den,j5 a h]
 ·simp[SV.den,j5 a h]
 ·rw[aO]at h;simp[SV.den,yC h.1,a _ _ h.2]
 ·rw[aO,aO]at h;simp[SV.den,afb h.1,j5 a h.2.1,j5 a h.2.2]
 cases h
def E4:∀{n:Nat}{x y:SV},Ng n x y=true->x.den=y.den
 |0,_,_,h=>by simp[Ng]at h
 |n+1,x,y,h=>by rw[<-Nr x,<-Nr y];exact R4 (λ_ _ h=>E4 h) h
def aM.shr{P:Program}{f:FuncId}{asx:List SV}{r:SV}(h:aM P f asx r):aM P f asx r.b9:=by
 intro w S e i g hc;intro rd o a next Q hn
 refine h w S e i g hc rd o a next Q λv d⟨m,F,l,k,s,q,j,p,n⟩=>hn v d ?_
 refine⟨λb=>m b\/b∈F,[],l,λb c=>.inl<|k b c,λb c=>?_,λb c=>?_,?_,ae5,λb c=>by simp at c⟩
 ·grind
 ·grind
 rw[<-gh];exact Rel.share (λb c=>.inl c) _ j λb c=>.inr c
abbrev yK:=FuncId×List SV×SV
def BX:List yK->pW
 |[],_,_=>none
 |(b,a,r)::L,g,asx=>match Nat.beq g b with
  |true=>match allEq (Ng 100) asx a with
   |true=>some r
   |false=>BX L g asx
  |false=>BX L g asx
def Vf(P:Program):List yK->Prop
 |[]=>True
 |(g,asx,r)::L=>aM P g asx r/\Vf P L
def oC{P:Program}:∀{L:List yK},Vf P L->∀{g:FuncId}{asx:List SV}{r:SV},BX L g asx=some r->aM P g asx r
 |[],_,_,_,_,h=>by simp[BX]at h
 |(f,d,e)::L,a,g,asx,r,h=>by
  unfold BX at h;split at h
  ·rename_i c;split at h
   ·rename_i b;simp at h;rw[afb c,<-h];exact a.1.same (j5 (λ_ _ h=>E4 h) b).symm W
   exact oC a.2 h
  exact oC a.2 h
def Zs(T T':pW):pW:=λg asx=>match T g asx with
 |some r=>some r
 |none=>T' g asx
def Ok{P:Program}{T T':pW}(h:∀g asx r,T g asx=some r->aM P g asx r)(a:∀g asx r,T' g asx=some r->aM P g asx r):∀g asx r,Zs T T' g asx=some r->aM P g asx r:=by
 intro g asx r e;unfold Zs at e;split at e
 ·rename_i b;cases e;simp_all
 simp_all
end Go.Ai
namespace Go.Ai.Pg
open Go.Proofs Go.Ai Go.Ai.eE
def DM(cs:List iV)(i:Int):iV:=cs.getD i.toNat default
def JS(cs:List iV):Int->List Int->Prop
 |_,[]=>True
 |p,i::l=>(DM cs i).qf=(DM cs p).less/\JS cs i l
instance YK(cs:List iV):∀p l,Decidable (JS cs p l)
 |_,[]=>.isTrue U
 |p,i::l=>@instDecidableAnd _ _ _<|YK cs i l
end Go.Ai.Pg
namespace Go.Ai.Pg
open Go.Proofs Go.Ai
structure Rx where
 v:List Int
 b:List Int
 l:Int
def nl(c:iV):Nat:=(c.less+1).toNat
def nt(c:iV):Nat:=(c.qf+1).toNat
abbrev ga(x:List Int)(i:Nat):Int:=x.getD i 0
def nH(s:Rx)(c:iV):Prop:=ga s.v (nt c)<1099511627776/\ga s.v (nt c)+c.dH<ga s.v (nl c)
instance(s:Rx)(c:iV):Decidable (nH s c):=inferInstanceAs<|Decidable<|_/\_
end Go.Ai.Pg
namespace Go.Ai
open Go.Proofs Go.RowKit
def H4{p:gV}(h:dT p=0):1<=p.n/\p.n<=100/\p.aa.length<=96/\∀u∈p.aa,iQ p.n u:=by
 unfold dT at h;split at h
 ·cases h
 rename_i c;split at h
 ·cases h
 rename_i b;split at h
 ·rename_i a;exact absurd h a
 rename_i a;refine⟨E,E,E,λu hu=>?_⟩;exact p9<|dK.1 (by simpa using a) u hu
def QL{b:Bool}(h:(!b)=false):b=true:=by cases b<;>simp_all
def WG{b:Bool}(h:(!b)=true):b=false:=by cases b<;>simp_all
noncomputable def rG(u:bT):Bool:=mL u.k 6&&(decide (u.dI.length<=4)&&u.dI.all λs=>mL s 3)&&u.ah.all λf=>mL f.dZ 3
noncomputable def Am(p:gV):Bool:=decide (p.aa.length<=8/\p.n<=9/\dT p=0)&&(p.aa.all rG&&Ap p.aa p.n.toNat)
def Gj(p:gV)(h:rA p):aM Tryz.prog 138 [bh p,.i 8] (.u<|Am p):=by
 refine bS Tryz.func138 W<|bJ W 13 W ?_ ?_<;>intro g1
 ·refine bK W W ?_;show false=Am p;unfold Am;rw[decide_eq_false E];rfl
 refine r1 W a7<|aC 20 W ?_ ?_<;>intro g2
 ·refine bK W W ?_;show false=Am p;unfold Am;rw[decide_eq_false E];rfl
 refine bP W W (mN p h) W<|bQ W W ?_ ?_<;>intro m
 ·refine bK W W ?_;show false=Am p;unfold Am;rw[decide_eq_false λhh=>m hh.2.2];rfl
 have q:dT p=0:=afI.1 m;have A:Am p=(p.aa.all rG&&Ap p.aa p.n.toNat):=by unfold Am;rw[decide_eq_true E,afa]
 obtain⟨D,C,B,r⟩:=H4 q;rw[A];refine r0 W<|ra (λi:Nat=>[(2,.box true<|bh p),(5,.i i)]) (λi=>i<=p.aa.length/\p.aa.all rG=(p.aa.drop i).all rG) (λi=>p.aa.length-i) 0 ⟨adk _,W⟩ ?_;rintro i⟨hi,e⟩;refine bQ W W ?_ ?_<;>intro x
 ·have b:i<p.aa.length:=E;have o:(i:Int).toNat=i:=E;have y:p.aa.getD i default=p.aa[i]:=au b;have hu:=h.unit _<|adC b;rw[aeE b,ae6]at e;rw[e];refine r1 W (by simp[bo,and_true,o]<;>omega) ?_;rw[o,y];generalize p.aa[i]=u at*;have v:=hu.ah;have t:=hu.dI;refine bG W (yf u.k 6 hu.k fh) W<|r0 W<|iN 41 W ?_ ?_<;>intro l
  ·refine bK W W ?_;show false=_;have:mL u.k 6=false:=WG l;unfold rG;rw[this];rfl
  have k1:mL u.k 6=true:=QL l;refine bP W W (Dx u.dI 4 3 hu.Kj E fh fh) W<|r0 W<|ni W W W ?_ ?_<;>intro j
  ·refine bK W W ?_;show false=_;have:(decide (u.dI.length<=4)&&u.dI.all λs=>mL s 3)=false:=WG j;unfold rG;rw[this,Bool.and_false];rfl
  have k2:(decide (u.dI.length<=4)&&u.dI.all λs=>mL s 3)=true:=QL j;have k3:rG u=u.ah.all λf=>mL f.dZ 3:=by unfold rG;rw[k1,k2];rfl
  rw[k3];refine r0 W<|ra (λk:Nat=>[(2,.box true<|bh p),(5,.i i),(6,.box true<|dQ u),(7,.i k)]) (λk=>k<=u.ah.length/\(u.ah.all λf=>mL f.dZ 3)=(u.ah.drop k).all λf=>mL f.dZ 3) (λk=>u.ah.length-k) 0 ⟨adk _,W⟩ ?_;rintro k⟨F,c⟩;refine bQ W W ?_ ?_<;>intro w
  ·have a:k<u.ah.length:=E;have n:(k:Int).toNat=k:=E;have z:u.ah.getD k default=u.ah[k]:=au a;have d:=hu.dZ _<|adC a;rw[aeE a,ae6]at c;rw[c];refine r1 W (by simp[bo,and_true,n]<;>omega) ?_;rw[n,z];generalize u.ah[k]=f at*;refine bG W (yf f.dZ 3 d fh) W<|r0 W<|ni W W W ?_ ?_<;>intro g
   ·refine bK W W ?_;show false=_;have:mL f.dZ 3=false:=WG g;rw[this];rfl
   have k4:mL f.dZ 3=true:=QL g;rw[k4,afa];refine r1 W a7<|gS (k+1) ⟨E,?_⟩;rfl
  have:k=u.ah.length:=E;subst this;rw[c,afU,ahR,afa];refine r1 W a7<|gS (i+1) ⟨E,?_⟩;rfl
 have:i=p.aa.length:=E;subst this;rw[e,afU,ahR,afa];refine bP W W (OG p h p.n.toNat E E E r) W<|bN W W
section
variable{D M κ V B:Nat}
section
variable{d:Int}{a b p:List cU}{n v w:Nat}{c:Rat}
def b8.tok(i:pY D M κ)(f:V<=9)(h:b8 D M V d w p)(e:d<=6)(g:w<=B):(∀u∈p,Di V (κ*B+2) u)/\p.length<2^30:=⟨h.pw.tok i f e<|agh (afr _ g) 2,by have:=h.len f e;omega⟩
def b8.Ts(g:pY D M κ)(f:V<=9)(h:b8 D M V d w p)(e:d<=6)(hc:Wn D M 1 v c)(j:v+w+1<=B):
 vj V (κ*B+2) (pk c p)/\b8 D M V d (v+w+1) (kJ c p):=by
 have i:=h.pw.Vj hc;have hl:(pk c p).length<=10^18:=by have:=h.len f e;simp[pk];omega
 exact⟨i.Y5 g f e hl<|agh (afr _ j) 2,i.norm g hl⟩
def b8.LX(i:pY D M κ)(f:V<=9)(h:b8 D M V d w a)(g:b8 D M V d w b)(e:d<=6)(k:w+1<=B):
 vj V (κ*B+2) (a++b)/\b8 D M V d (w+1) (DS a b):=by
 have j:=h.pw.append g.pw;have hl:(a++b).length<=10^18:=by have:=h.len f e;have:=g.len f e;rw[aeP];omega
 exact⟨j.Y5 i f e hl<|agh (afr _ k) 2,j.norm i hl⟩
def b8.WK{e:Int}(i:pY D M κ)(f:V<=9)(h:b8 D M V d w a)(g:b8 D M V e v b)(l:d<=6)(he:e<=6)(ZB:d+e<=6)(k:w+v+1<=B):
 vj V (κ*B+2) (jx a b)/\b8 D M V (d+e) (w+v+1) (lP a b):=by
 have j:=h.pw.mul g.pw;have hl:(jx a b).length<=10^18:=by have o:=h.len f l;have m:=g.len f he;rw[QT];exact ad0 (agr o m) fh
 exact⟨j.Y5 i f ZB hl<|agh (afr _ k) 2,j.norm i hl⟩
def b8.QU{K:Nat}:vj V K (jx [] b)/\b8 D M V d w (lP [] b):=by
 refine⟨⟨λu hu=>by simp[jx]at hu,λm hm=>?_⟩,?_⟩
 ·have:m=[]:=by simpa[jx]using hm
  subst this;exact⟨λu hu=>by simp[fX]at hu,by simp[fX]⟩
 exact b8.nil
def b8.ZJ(e:pY D M κ)(g:V<=9)(h:b8 D M V d w p)(f:d<=6)(k:v<V)(j:w+2<=B):
 vj V (κ*B+2) (pM p v)/\b8 D M V (d-1) (w+2) (tT p v):=by
 have i:=h.pw.der e f v k;have hl:(pM p v).length<=10^18:=by have:=h.len g f;have:=CK p v;omega
 exact⟨i.Y5 e g E hl<|agh (afr _ j) 2,i.norm e hl⟩
def AE(p:List cU)(v:Nat):Prop:=∃u∈p,0<u.pw.getD v 0
def AU(h:¬AE p v):tT p v=[]:=by
 have e:pM p v=[]:=by unfold pM;rw[List.flatMap_eq_nil_iff];intro u hu;unfold zV;rw[if_neg λg=>h ⟨u,hu,g⟩]
 unfold tT;rw[e];rfl
def sc{l:List cU}(h:AE (fX l) v):AE l v:=by
 obtain⟨u,hu,g⟩:=h;rcases BL hu with⟨t,f,e⟩|⟨t,f,e⟩
 ·exact⟨t,f,by rw[<-e];exact g⟩
 cases f
def Gd(h:AE (a++b) v):AE a v\/AE b v:=by obtain⟨u,hu,g⟩:=h;exact(afR.1 hu).imp (λh=>⟨u,h,g⟩) λh=>⟨u,h,g⟩
def MA(h:AE (kJ c p) v):AE p v:=by obtain⟨u,hu,g⟩:=sc h;obtain⟨t,e,rfl⟩:=aeN.1 hu;exact⟨t,e,g⟩
def Hl:∀{a b:List Int}{v:Nat},0<(List.zipWith (·+ ·) a b).getD v 0->(∀x∈a,0<=x)->(∀x∈b,0<=x)->0<a.getD v 0\/0<b.getD v 0
 |[],_,_,h,_,_=>by cases h
 |_::_,[],_,h,_,_=>by cases h
 |x::a,y::b,0,h,g,f=>by simp at h⊢;omega
 |x::a,y::b,v+1,h,g,f=>by simp at h⊢;exact Hl h (λz e=>g z<|by simp[e]) λz e=>f z (by simp[e])
def TR{e:Int}{i:Nat}(k:PW D M V d w a)(j:PW D M V e i b)(h:AE (lP a b) v):AE a v\/AE b v:=by obtain⟨u,hu,g⟩:=sc h;obtain⟨t,f,hu⟩:=agc.1 hu;obtain⟨s,hs,rfl⟩:=aeN.1 hu;exact(Hl g (k t f).1.2.1 (j s hs).1.2.1).imp (λh=>⟨t,f,h⟩) λh=>⟨s,hs,h⟩
def Em:¬AE (aaa c n) v:=by
 rintro⟨u,hu,g⟩;unfold aaa at hu;split at hu
 ·cases hu
 simp at hu;subst hu;rw[adY,ahl]at g;split at g<;>cases g
def Mz{i:Nat}(h:AE (vm i n) v):v=i:=by obtain⟨u,hu,g⟩:=h;simp[vm]at hu;subst hu;apply afC;intro e;rw[adY,List.getElem?_set_ne E,ahl]at g;split at g<;>cases g
def AO(h:b8 D M V d w p)(e:AE p v):1<=d:=by
 obtain⟨u,hu,g⟩:=e;obtain⟨j,f,i⟩:=(h.pw u hu).1;have hm:u.pw.getD v 0∈u.pw:=by
  rcases aeQ v u.pw.length with hl|hl
  ·rw[au hl];simp_all
  rw[adY,afL hl]at g;cases g
 have:=kX f _ hm;omega
end
end
structure fP(us:List bT)(n:Nat):Prop where
 len:us.length<=8
 n0:0<n
 n9:n<=9
 val:∀u∈us,iQ n u
 dr:u9 n us
 ord:us.length<=(az us).length
 YA:∀u∈us,rG u=true
 low:Ap us n=true
def aV(us:List bT)(k:Nat):bT:=us.getD ((az us).getD k 0).toNat default
def Ib{us:List bT}:∀(k:Nat){out:List Int},(∀j,j<out.length->jV us (out.take j) (out.getD j 0).toNat=true)->∀j,j<(ew us k out).length->jV us ((ew us k out).take j) ((ew us k out).getD j 0).toNat=true
 |0,out,h=>h
 |k+1,out,h=>by
  rw[ew];split
  ·exact h
  rename_i g;refine Ib k λj a=>?_;rcases oR us out 0 with e|⟨i,e,_,_,b⟩
  ·rw[e]at g;simp_all
  rw[e]at a⊢;rw[aeP,aia]at a;by_cases c:j<out.length
  ·rw[ahy E,adY,afK c];exact h j c
  have:j=out.length:=E;subst this;rw[List.take_left',adY]
  ·simpa using b
  rfl
def Ia{us:List bT}{k:Nat}(h:k<(az us).length):jV us ((az us).take k) ((az us).getD k 0).toNat=true:=Ib (out:=[]) _ (λj a=>by cases a) k h
def abU{s:Int}:∀{us:List bT}{k:Nat},(cB s k us= -1/\∀u∈us,u.out≠s)\/∃i,∃h:i<us.length,cB s k us=((k+i:Nat):Int)/\us[i].out=s
 |[],k=>.inl ⟨W,I⟩
 |u::us,k=>by
  simp only[cB];split
  ·rename_i h;exact .inr ⟨0,I,I,h⟩
  rename_i h;rcases abU (s:=s) (us:=us) (k:=k+1)with⟨e,g⟩|⟨i,hi,e,g⟩
  ·exact .inl ⟨e,λv a=>by rcases adZ.1 a with rfl|a;exact h;exact g v a⟩
  exact .inr ⟨i+1,by simpa using hi,E,g⟩
def LC{α:Type}{p:α->Bool}{l:List α}(h:l.countP p=1){i j:Nat}(hi:i<l.length)(b:j<l.length)(d:p l[i]=true)(c:p l[j]=true):i=j:=by
 have a:∀{i j:Nat}(hi:i<l.length)(b:j<l.length),p l[i]=true->p l[j]=true->¬i<j:=by
  intro i j hi b d c f;have e:l=l.take j++l[j]::l.drop (j+1):=by rw[<-aeE b,agE]
  rw[e,agZ,List.countP_cons_of_pos c]at h;have:0<(l.take j).countP p:=List.countP_pos_iff.2 ⟨l[i],List.mem_take_iff_getElem.2 ⟨i,E,W⟩,d⟩;omega
 have k:=a hi b d c;have g:=a b hi c d;omega
section
variable{us:List bT}{n:Nat}(hm:fP us n)
include hm
theorem fP.mU:(az us).length=us.length:=ag6 (uK us) hm.ord
def fP.idx{k:Nat}(h:k<us.length):((az us).getD k 0).toNat<us.length:=by
 have a:k<(az us).length:=by rw[hm.mU];exact h
 have:=gC _<|bw (d:=0) a;omega
def fP.eq{k:Nat}(h:k<us.length):aV us k=us[((az us).getD k 0).toNat]'(hm.idx h):=au<|hm.idx h
def fP.mem{k:Nat}(h:k<us.length):aV us k∈us:=by rw[hm.eq h];simp_all
def fP.inj{i j:Nat}(hi:i<us.length)(a:j<us.length)(h:us[i].out=us[j].out):i=j:=by
 have c:=(hm.val _<|adC hi).out;have b:=hm.dr us[i].out.toNat E E;refine LC b hi a ?_ ?_
 all_goals rw[decide_eq_true_eq];omega
def fP.X9{j k:Nat}(d:j<us.length)(b:k<us.length)(h:(az us).getD j 0=(az us).getD k 0):j=k:=by
 have hn:=vY us;have e:=hm.mU;rw[au E,au E]at h;have a:=List.pairwise_iff_getElem.1 hn;rcases aim j k with c|c|c
 ·simp_all
 ·exact c
 exact absurd h.symm<|a k j E E c
def fP.outs{j k:Nat}(b:j<us.length)(a:k<us.length)(h:(aV us j).out=(aV us k).out):j=k:=by
 rw[hm.eq b,hm.eq a]at h;have:=hm.inj (hm.idx b) (hm.idx a) h;refine hm.X9 b a ?_;have e:=gC _<|bw (d:=0)<|show j<(az us).length by rw[hm.mU];exact b
 have c:=gC _<|bw (d:=0)<|show k<(az us).length by rw[hm.mU];exact a
 omega
def fP.before{k:Nat}(l:k<us.length){f:Hi}(m:f∈cR (aV us k))(hs:0<=f.sh/\f.sh<n):f.sh=0\/∃j,j<k/\(aV us j).out=f.sh:=by
 have h:=Ia (us:=us) (k:=k) (by rw[hm.mU];exact l);unfold jV at h;rw[adD,aeI]at h;have a:=h.2 f m;unfold kP at a;rw[decide_eq_true_eq]at a;rcases abU (s:=f.sh) (us:=us) (k:=0)with⟨e,g⟩|⟨i,hi,e,g⟩
 ·left;apply afC;intro d;have r:=hm.dr f.sh.toNat E E;have:0<us.countP (λu=>decide (u.out=(f.sh.toNat:Int))):=E;obtain⟨u,hu,c⟩:=List.countP_pos_iff.1 this;rw[decide_eq_true_eq]at c;exact g u hu E
 right;have p:eh us f.sh=(i:Int):=by unfold eh;rw[e];simp
 rw[p]at a;have o:=a.resolve_left E;obtain⟨j,q,he⟩:=List.mem_take_iff_getElem.1 o;refine⟨j,E,?_⟩;have b:j<us.length:=E;rw[hm.eq b];have:((az us).getD j 0).toNat=i:=by rw[au E,he];rfl
 simp only[this];exact g
end
def nq{l:List Int}{i s:Nat}{x:Int}(h:i<l.length):(l.set i x).getD s 0=if s=i then x else l.getD s 0:=by
 split
 ·rename_i e;simp_all
 rename_i e;exact getD_set_ne E
def CI{u:bT}:∀(c:List Hi){dg:List Int},u.out.toNat<dg.length->(∀s,0<=dg.getD s 0)->
 (c.foldl (jA u) dg).length=dg.length/\(∀s,s≠u.out.toNat->(c.foldl (jA u) dg).getD s 0=dg.getD s 0)/\dg.getD u.out.toNat 0<=(c.foldl (jA u) dg).getD u.out.toNat 0/\
   ∀f∈c,dg.getD f.sh.toNat 0*lz u<=(c.foldl (jA u) dg).getD u.out.toNat 0
 |[],dg,_,_=>⟨W,λ_ _=>rfl,aff _,I⟩
 |f::c,dg,e,l=>by
  have hm:1<=lz u:=by unfold lz;split<;>omega
  have d:∀s,(jA u dg f).getD s 0=if s=u.out.toNat then max (dg.getD u.out.toNat 0) (dg.getD f.sh.toNat 0*lz u)else dg.getD s 0:=λs=>nq e;have a:∀s,dg.getD s 0<=(jA u dg f).getD s 0:=λs=>by rw[d s];split<;>(try subst_vars)<;>omega
  obtain⟨k,j,i,h⟩:=CI c (dg:=jA u dg f) (by unfold jA;rw[kH];exact e) λs=>afW (l s)<|a s;rw[afT];refine⟨by rw[k];unfold jA;rw[kH],λs hs=>by rw[j s hs,d s,if_neg hs],afW (a _) i,λg b=>?_⟩;rcases adZ.1 b with rfl|b
  ·have:=d u.out.toNat;omega
  exact afW (af4 (a _) E)<|h g b
def ru(us:List bT)(n k:Nat):List Int:=((az us).take k).foldl (qN us)<|jh us n us.length
def JA{us:List bT}{n k:Nat}(h:k<(az us).length):ru us n (k+1)=qN us (ru us n k) ((az us).getD k 0):=by unfold ru;rw[aey h,age,au h];rfl
def yr{us:List bT}{m:Int}:∀{l:List Int}{dg r:List Int},DI us m l dg=some r->r=l.foldl (qN us) dg/\∀k,k<l.length->((l.take<|k+1).foldl (qN us) dg).getD (us.getD (l.getD k 0).toNat default).out.toNat 0<=m
 |[],dg,r,h=>by simp[DI]at h;simp_all
 |i::l,dg,r,h=>by
  rw[DI]at h;split at h
  ·cases h
  rename_i g;obtain⟨c,b⟩:=yr h;refine⟨c,λk a=>?_⟩;cases k with
  |zero=>simp only[List.take_succ_cons,ahp,afT,ahS,ain];omega
  |succ k=>simpa using b k (by simpa using a)
def Ed{us:List bT}{m:Int}{dg:List Int}:∀{l:List Int}{rt r:List Int},HT us m dg l rt=some r->∀k,k<l.length->((l.take<|k+1).foldl (uH us dg) rt).getD (us.getD (l.getD k 0).toNat default).out.toNat 0<=m
 |[],rt,r,h=>I
 |i::l,rt,r,h=>by
  rw[HT]at h;split at h
  ·cases h
  rename_i g;have b:=Ed h;intro k a;cases k with
  |zero=>simp only[List.take_succ_cons,ahp,afT,ahS,ain];omega
  |succ k=>simpa using b k (by simpa using a)
section
variable{us:List bT}{n:Nat}(hm:fP us n)
include hm
theorem fP.out{k:Nat}(h:k<us.length):1<=(aV us k).out/\(aV us k).out<n:=(hm.val _<|hm.mem h).out
def fP.Z7:∃r,DI us 6 (az us) (jh us n us.length)=some r/\r=ru us n us.length/\(HT us 6 r (az us)<|List.replicate n 0).isSome=true:=by
 have h:=hm.low;unfold Ap at h;split at h
 ·cases h
 rename_i dg e;refine⟨dg,e,?_,h⟩;have:=(yr e).1;rw[this];unfold ru;rw[adM<|by rw[hm.mU];exact adp _]
def fP.dg:∀k,k<=us.length->(ru us n k).length=n/\∀s,0<=(ru us n k).getD s 0/\(ru us n k).getD s 0<=6
 |0,_=>by obtain⟨f,d⟩:=pK us n us.length .refl;exact⟨f,λs=>d.getD fh s⟩
 |k+1,h=>by
  obtain⟨f,d⟩:=fP.dg k E;have g:k<(az us).length:=by rw[hm.mU];omega
  obtain⟨r,e,-,-⟩:=hm.Z7;have b:=(yr e).2 k g;have o:=hm.out (show k<us.length from E);have m:us.getD ((az us).getD k 0).toNat default=aV us k:=W;have b:(ru us n<|k+1).getD (aV us k).out.toNat 0<=6:=b;rw[JA g]at b⊢;unfold qN at b⊢;rw[m]at b⊢;split
  ·exact⟨f,d⟩
  rename_i a;rw[if_neg a]at b;obtain⟨l,j,i,-⟩:=CI (u:=aV us k) (aV us k).ah (dg:=ru us n k) E λs=>(d s).1;refine⟨by rw[l];exact f,λs=>?_⟩;by_cases c:s=(aV us k).out.toNat
  ·subst c;exact⟨afW (d _).1 i,b⟩
  rw[j s c];exact d s
def fP.Z6{k:Nat}(h:k<us.length):(∀s,s≠(aV us k).out.toNat->(ru us n<|k+1).getD s 0=(ru us n k).getD s 0)/\(∀s,(ru us n k).getD s 0<=(ru us n<|k+1).getD s 0)/\
 ((aV us k).kind≠bq->∀f∈(aV us k).ah,(ru us n k).getD f.sh.toNat 0*lz (aV us k)<=(ru us n<|k+1).getD (aV us k).out.toNat 0):=by
 obtain⟨o,i⟩:=hm.dg k E;have g:k<(az us).length:=by rw[hm.mU];omega
 have m:=hm.out h;have j:us.getD ((az us).getD k 0).toNat default=aV us k:=W;rw[JA g];unfold qN;rw[j];split
 ·rename_i a;simp_all
 obtain⟨l,b,e,d⟩:=CI (u:=aV us k) (aV us k).ah (dg:=ru us n k) E λs=>(i s).1;refine⟨b,λs=>?_,λ_=>d⟩;by_cases c:s=(aV us k).out.toNat
 ·subst c;exact e
 rw[b s c];simp_all
end
section
variable{n:Nat}{q:Rat}{s:hO}
def mP:List Nat->Nat
 |[]=>1
 |x::l=>x*mP l
def CB:∀{l:List Nat}{x:Nat},x∈l->x∣mP l
 |y::l,x,h=>by
  rcases adZ.1 h with rfl|h
  ·exact Nat.dvd_mul_right _ _
  exact Nat.dvd_trans (CB h)<|Nat.dvd_mul_left _ _
def Bx:∀{l:List Nat},(∀x∈l,0<x)->0<mP l
 |[],_=>by simp[mP]
 |x::l,h=>ahd (h x I)<|Bx λy a=>h y<|by simp[a]
def By:∀{l:List Nat},(∀x∈l,(ae x).length<=1)->(ae<|mP l).length<=l.length+1
 |[],_=>by simp[mP];rw[iG];simp
 |x::l,h=>by have d:=By (l:=l) λy a=>h y (by simp[a]);have c:=dO x<|mP l;have b:=h x I;simp[mP];omega
def Ly(h:n<10^9):(ae n).length<=1:=qO (k:=1)<|eI n 1 9 h fh
noncomputable def jt(us:List bT):Nat:=mP ((List.range 999).map (·+1))*mP (us.map λu=>(bV u.k).den)
noncomputable def kq(us:List bT):Nat:=jt us*10^18
def Li(h:mL s n=true):aL s=0/\Dc (bV s) n:=by unfold mL at h;rw[decide_eq_true_eq]at h;exact h.2
def Dc.lt(h:Dc q n):q.num.natAbs<10^n/\q.den<10^n:=⟨wQ h.1,wQ h.2⟩
def nC{u:bT}(h:rG u=true):mL u.k 6=true/\u.dI.length<=4/\(∀c∈u.dI,mL c 3=true)/\∀f∈u.ah,mL f.dZ 3=true:=by unfold rG at h;simp_all
def tf(q:Rat):q*(q.den:Rat)=(q.num:Rat):=by
 have h:=Rat.num_divInt_den q;rw[ahk]at h;have b:((q.den:Nat):Rat)≠0:=by
  intro g;have:q.den=0:=by exact_mod_cast g
  exact q.den_nz this
 have a:((q.den:Int):Rat)=((q.den:Nat):Rat):=agX _
 grind
def Wn.Vu{D M:Nat}(b:q.den∣D)(hn:q.num.natAbs*D<=M):Wn D M 1 1 q:=by
 obtain⟨e,he⟩:=b;have a:=q.den_pos;refine⟨q.num*(e:Nat),?_,?_⟩
 ·rw[af5,Nat.pow_one,Nat.one_mul];refine ad0 (afr _ ?_) hn;rw[he];exact Nat.le_mul_of_pos_left _ a
 rw[Nat.pow_one,he,Rat.natCast_mul,<-ahM,ahj,agX];rw[tf]
def V7{us:List bT}(h:mL s 3=true):Wn (jt us) (kq us) 1 1 (bV s):=by obtain⟨c,b⟩:=(Li h).2.lt;have a:=(bV s).den_pos;refine Wn.Vu (Nat.dvd_trans (CB<|aeN.2 ⟨(bV s).den-1,agm.2 E,E⟩)<|Nat.dvd_mul_right _ _) ?_;rw[aeO];exact afr _ E
end
section
variable{us:List bT}{n:Nat}(hm:fP us n)
include hm
theorem fP.base:pY (jt us) (kq us) 1012:=by
 have h1:0<mP ((List.range 999).map (·+1)):=Bx λx hx=>by obtain⟨y,-,rfl⟩:=aeN.1 hx;omega
 have h2:0<mP (us.map λu=>(bV u.k).den):=Bx λx hx=>by obtain⟨u,-,rfl⟩:=aeN.1 hx;exact(bV u.k).den_pos
 refine⟨ahd h1 h2,.refl,?_⟩;have h3:(ae (mP ((List.range 999).map (·+1)))).length<=((List.range 999).map (·+1)).length+1:=By λx hx=>by obtain⟨y,hy,rfl⟩:=aeN.1 hx;have:=agm.1 hy;exact Ly E
 have h4:(ae<|mP<|us.map λu=>(bV u.k).den).length<=(us.map λu=>(bV u.k).den).length+1:=By λx hx=>by obtain⟨u,hu,rfl⟩:=aeN.1 hx;have:=(Li (nC<|hm.YA u hu).1).2.lt.2;exact Ly E
 have h5:=dO (mP ((List.range 999).map (·+1)))<|mP<|us.map λu=>(bV u.k).den;have h6:=dO (jt us)<|10^18;have h7:(ae<|10^18).length<=3:=qO (k:=3)<|eI _ 1 27 fh fh;rw[aeW,aiA]at h3;rw[aeW]at h4;have:=hm.len;unfold kq;unfold jt at h6⊢;omega
def fP.ZS{u:bT}(hu:u∈us):Wn (jt us) (kq us) 1 1 (bV u.k):=by obtain⟨b,a⟩:=(Li (nC<|hm.YA u hu).1).2.lt;refine Wn.Vu (Nat.dvd_trans (CB<|aeN.2 ⟨u,hu,W⟩)<|Nat.dvd_mul_left _ _) ?_;rw[aeO];exact afr _ E
def fP.wnQ(s:Nat):Wn (jt us) (kq us) 1 1 ((cp n us).getD s 0):=by
 have a:∀(l:List bT)(o:List Rat),(∀u∈l,u∈us)->(∀s,Wn (jt us) (kq us) 1 1 (o.getD s 0))->∀s,Wn (jt us) (kq us) 1 1 ((l.foldl (λ(o:List Rat)u=>o.set u.out.toNat<|bV u.k) o).getD s 0):=by
  intro l
  induction l with
  |nil=>intro o _ h;exact h
  |cons u l b=>
   intro o hl h;refine b _ (λv c=>hl v<|by simp[c]) λs=>?_;rw[adY,agO];split
   ·split
    ·exact hm.ZS<|hl u I
    exact Wn.zero _ _ _ _
   rw[<-adY];exact h s
 refine a us _ (λ_ h=>h) (λs=>?_) s;rw[adY,ahl];split<;>exact Wn.zero _ _ _ _
end
def wS:Nat->Nat
 |0=>0
 |k+1=>3*wS k+20
def A5{k:Nat}(h:k<=8):wS k<=65600:=(fh:∀k,k<9->wS k<=65600) k E
def fB{l:List (List cU)}{i s:Nat}{x:List cU}(h:i<l.length):(l.set i x).getD s []=if s=i then x else l.getD s []:=by
 rw[adY,agO];split
 ·rename_i e;subst e;simp
 rename_i e;rw[if_neg E,adY]
section
variable{D M κ m B:Nat}
def Kk{x:List cU}{a:Int}{w:Nat}(f:pY D M κ)(g:m+1<=9)(o:b8 D M (m+1) a (w+2) x)(n:0<=a)(s:a<=6)(y:3*w+20<=B):
 ∀(cs:List Rat),(∀c∈cs,Wn D M 1 1 c)->cs.length<=4->a*((cs.length:Int)-1)<=6->
  (cs≠[]->b8 D M (m+1) (a*((cs.length:Int)-1)) (2+(cs.length-1)*(w+4)) (jF m x cs))/\
  ∀c r,cs=c::r->vj (m+1) (κ*B+2) (jx (jF m x r) x)/\vj (m+1) (κ*B+2) (lP (jF m x r) x++aaa c m)
 |[],_,_,_=>⟨λh=>absurd W h,λc r h=>by simp at h⟩
 |c::cs,hc,hl,k=>by
  rw[adX]at hl k;have l:=hc c I;have q:b8 D M (m+1) 0 1 (aaa c m):=b8.const l;by_cases e:cs=[]
  ·subst e;have j:lP (jF m x []) x=[]:=by simp[jF,lP,jx,fX]
   have b:=b8.LX (B:=B) f g (b8.nil (D:=D) (M:=M) (V:=m+1) (d:=0) (w:=1)) q fh E;have i:b8 D M (m+1) (a*(((c::([]:List Rat)).length:Int)-1)) (2+((c::([]:List Rat)).length-1)*(w+4)) (jF m x [c]):=by show b8 D M (m+1) _ _ (DS (lP (jF m x []) x)<|aaa c m);rw[j];simpa using b.2
   refine⟨λ_=>i,λC r h=>?_⟩;obtain⟨rfl,rfl⟩:=h;exact⟨(b8.QU (D:=D) (M:=M) (d:=0) (w:=0)).1,by rw[j];exact b.1⟩
  have p:=agy.2 e;have z:a*((cs.length:Int)-1)<=a*(((cs.length+1:Nat):Int)-1):=afg E n;obtain⟨u,-⟩:=Kk f g o n s y cs (λd k=>hc d<|by simp[k]) E E;have j:=u e;have t:a*((cs.length:Int)-1)+a=a*(((cs.length+1:Nat):Int)-1):=by rw[show(((cs.length+1:Nat):Int)-1)=((cs.length:Int)-1)+1 from E,Int.mul_add,ahe]
  have v:(cs.length-1)*(w+4)<=2*(w+4):=aeX _ E;have A:2+(cs.length-1)*(w+4)+(w+2)+1+1=2+((c::cs).length-1)*(w+4):=by rw[adX,show cs.length+1-1=(cs.length-1)+1 from E,ae9];omega
  have b:=b8.WK (B:=B) f g j o E s (by rw[t];omega) E;rw[t]at b;have i:=b8.LX (B:=B) f g b.2 (q.mono f (d:=0) (e:=a*(((cs.length+1:Nat):Int)-1)) (afs n E) E) E E;refine⟨λ_=>?_,λC r h=>?_⟩
  ·rw[<-A];exact i.2
  simp at h;obtain⟨rfl,rfl⟩:=h;exact⟨b.1,i.1⟩
def Xw{sh:List (List cU)}{g:List Rat}{u:bT}{dg:Nat->Int}{d:Int}{w:Nat}(a:pY D M κ)(j:m+1<=9)(hs:∀s,b8 D M (m+1) (dg s) w<|sh.getD s [])(l:∀s,Wn D M 1 1 (g.getD s 0))(x:Wn D M 1 1 (bV u.k))
 (t:∀f∈u.ah,Wn D M 1 1 (bV f.dZ)/\dg f.sh.toNat<=d)(hl:u.ah.length<=8)(A:0<=d)(p:d<=6)(H:w+12<=B):
 SL (m+1) (κ*B+2) (κ*2+2) sh g m u/\b8 D M (m+1) d (w+11) (Ps sh g m u):=by
 have b:∀f∈u.ah,vj (m+1) (κ*B+2) (pk (bV f.dZ)<|sh.getD f.sh.toNat [])/\b8 D M (m+1) d (w+2) (kJ (bV f.dZ)<|sh.getD f.sh.toNat []):=λf h=>by obtain⟨r,q⟩:=t f h;have:=b8.Ts (B:=B) a j (hs f.sh.toNat) E r E;exact⟨this.1,this.2.mono a q E⟩
 have c:∀i,i<=u.ah.length->b8 D M (m+1) d (w+2+i) (gT sh g u i).1/\Wn D M (1+i) 2 (gT sh g u i).2:=by
  intro i
  induction i with
  |zero=>intro _;exact⟨b8.nil,x.up a fh⟩
  |succ i v=>
   intro hi;obtain⟨r,q⟩:=v E;have hm:u.ah.getD i default∈u.ah:=bw E;have z:=(b _ hm).2;refine⟨(b8.LX (B:=B) a j r (z.mono a (aff _) E) p E).2,?_⟩;have y:Wn D M 1 2 (bV (u.ah.getD i default).dZ*g.getD (u.ah.getD i default).sh.toNat 0):=by have:=(t _ hm).1.mul<|l (u.ah.getD i default).sh.toNat;simpa using this
   have:=q.add y.neg;rw[<-Rat.sub_eq_add_neg]at this;exact this.le E
 obtain⟨F,C⟩:=c u.ah.length .refl;have hc:=C.one a E;have o:b8 D M (m+1) d (w+2+8) (aaa (gT sh g u u.ah.length).2 m):=(b8.const hc).mono a A E;have e:=b8.LX (B:=B) a j (F.mono a (aff _)<|show w+2+u.ah.length<=w+2+8 from E) o p E;refine⟨⟨λf h=>(b f h).1,λi hi=>?_,λi hi=>?_,e.1⟩,e.2.mono a (aff _) E⟩
 ·have hm:u.ah.getD i default∈u.ah:=bw E;exact(b8.LX (B:=B) a j (c i E).1 ((b _ hm).2.mono a (aff _) E) p E).1
 have:=((c i hi).2.le<|show 1+i<=9 from E).sz a;exact this.mono (by have:=Ly (n:=9) fh;omega)
end
def wB:Nat:=1300000
section
variable{us:List bT}{n m:Nat}(hm:fP us n)(hc:m=dq us)
include hm hc
theorem fP.Y6:m+1<=9:=by have:dq us<=us.length:=agG;have:=hm.len;omega
def fP.init:∀i,i<=us.length->∀s,b8 (jt us) (kq us) (m+1) ((jh us n i).getD s 0) 0 ((FJ us n m i).getD s [])
 |0,_=>λs=>by
  have hn:=hm.n0;unfold jh FJ Bk;rw[ahp,ahS,nq<|by simpa using hn,fB<|by simpa using hn];split
  ·exact b8.var E
  rw[adY (l:=List.replicate n ([]:List cU)),ahl];split<;>exact b8.nil
 |i+1,h=>λs=>by
  have a:=fP.init i E s;have b:=(hm.val _<|adC<|show i<us.length from E).out;rw[sL E,FJ,au<|show i<us.length from E];split
  ·rw[nq<|by rw[(pK us n i E).1];omega,fB<|by rw[qi];omega];split
   ·exact b8.var (by rw[hc];exact GR us _)
   exact a
  exact a
def fP.PY{k:Nat}(h:k<us.length){w:Nat}(hw:3*w+20<=wB)(J:∀s,b8 (jt us) (kq us) (m+1) ((ru us n k).getD s 0) w<|(iO us n m k).getD s []):
 ((aV us k).kind=jz->SL (m+1) (1012*wB+2) (1012*2+2) (iO us n m k) (cp n us) m (aV us k))/\
 ((aV us k).kind=dy->VW (m+1) (1012*wB+2) (iO us n m k) m (aV us k))/\
 ∀s,b8 (jt us) (kq us) (m+1) ((ru us n<|k+1).getD s 0) (3*w+20) ((iO us n m<|k+1).getD s []):=by
 have x:=hm.base;have N:=hm.Y6 hc;have Q:k<(az us).length:=by rw[hm.mU];omega
 have ho:=hm.out h;have hu:=hm.val _<|hm.mem h;obtain⟨f1,f2,f3,T⟩:=nC<|hm.YA _<|hm.mem h;obtain⟨d1,d2,V⟩:=hm.Z6 h;obtain⟨l1,H⟩:=hm.dg (k+1) E;obtain⟨p1,X⟩:=hm.dg k E;have O:us.getD ((az us)[k]).toNat default=aV us k:=by unfold aV;rw[au Q]
 have q:=hu.Bj;have l:∀s,b8 (jt us) (kq us) (m+1) ((ru us n<|k+1).getD s 0) (3*w+20) ((iO us n m k).getD s []):=λs=>(J s).mono x (d2 s) E;have r:iO us n m (k+1)=lJ us (cp n us) m (iO us n m k) (az us)[k]:=pg Q;by_cases p:(aV us k).kind=jz
 ·have o:(aV us k).kind≠bq:=by rw[p];decide
  have L:(aV us k).ah.length<=8:=by unfold jT xq Dh at q;omega
  have v:lz (aV us k)=1:=by unfold lz;rw[if_neg<|by rw[p];decide]
  obtain⟨a1,a2⟩:=Xw (B:=wB) (d:=(ru us n<|k+1).getD (aV us k).out.toNat 0) x N J (hm.wnQ) (hm.ZS<|hm.mem h)
   (λf R=>⟨V7<|T f R,by have:=V o f R;rw[v,ahe]at this;exact this⟩) L (H _).1 (H _).2 E
  refine⟨λ_=>a1,λg=>?_,λs=>?_⟩
  ·rw[p]at g;exact absurd g fh
  rw[r];unfold lJ;rw[O,if_pos p,fB<|by rw[kG];omega];split
  ·rename_i e;subst e;exact a2.mono x (aff _) E
  exact l s
 by_cases z:(aV us k).kind=dy
 ·have o:(aV us k).kind≠bq:=by rw[z];decide
  unfold jT xq Dh at q;rw[if_neg o,if_neg o,if_neg p]at q;have K:1<=(aV us k).dI.length:=by apply afC;intro g;exact q<|.inr<|.inr<|.inl ⟨z,.inl E⟩
  have v:lz (aV us k)=max 1 (((aV us k).dI.length:Int)-1):=by unfold lz;rw[if_pos z]
  have A:(aV us k).ah.getD 0 default∈(aV us k).ah:=bw E;have C:=V o _ A;have Cc:=X ((aV us k).ah.getD 0 default).sh.toNat;obtain⟨F,y⟩:∃F,(ru us n k).getD ((aV us k).ah.getD 0 default).sh.toNat 0=F:=⟨_,W⟩;rw[y]at C Cc;have u:=b8.Ts (B:=wB) x N (J ((aV us k).ah.getD 0 default).sh.toNat) (by rw[y];exact Cc.2) (V7 (us:=us)<|T _ A) E;rw[y]at u;have Y:b8 (jt us) (kq us) (m+1) F (w+2) (oL (iO us n m k)<|aV us k):=u.2.mono x (aff _) E;have M:∀c∈(aV us k).dI.map bV,Wn (jt us) (kq us) 1 1 c:=λc hc=>by obtain⟨t,ht,rfl⟩:=aeN.1 hc;exact V7<|f3 t ht
  have P:=H (aV us k).out.toNat;have D:∀j:Nat,j<=(aV us k).dI.length->F*((j:Int)-1)<=(ru us n<|k+1).getD (aV us k).out.toNat 0:=λj hj=>by refine afW (afg ?_ Cc.1) C;rw[v];omega
  have a:=λ(i:Nat)=>Kk (B:=wB) x N Y Cc.1 Cc.2 hw (((aV us k).dI.map bV).drop i) (λc h=>M c<|agd h) (by simp;omega) (by have:=D (((aV us k).dI.map bV).drop i).length I;omega)
  have b:∀i(hi:i<(aV us k).dI.length),((aV us k).dI.map bV).drop i=bV ((aV us k).dI.getD i [])::((aV us k).dI.map bV).drop (i+1):=λi hi=>by rw[aeE<|by simpa using hi,aii,au hi]
  refine⟨λg=>absurd g p,λ_=>⟨u.1,λi hi=>((a i).2 _ _<|b i hi).1,λi hi=>((a i).2 _ _<|b i hi).2⟩,λs=>?_⟩;rw[r];unfold lJ;rw[O,if_neg p,if_pos z,fB<|by rw[kG];omega];split
  ·rename_i e;subst e;have S:=(a 0).1 (by rw[b 0 K];simp);rw[afG]at S;have Z:(((aV us k).dI.map bV).length-1)*(w+4)<=3*(w+4):=aeX _ (by simp;omega);exact S.mono x (D _ I) E
  exact l s
 refine⟨λg=>absurd g p,λg=>absurd g z,λs=>?_⟩;rw[r];unfold lJ;rw[O,if_neg p,if_neg z];exact l s
def fP.XC:∀k,k<=us.length->∀s,b8 (jt us) (kq us) (m+1) ((ru us n k).getD s 0) (wS k) ((iO us n m k).getD s [])
 |0,_=>λs=>by have:=hm.init hc us.length .refl s;exact this
 |k+1,h=>by have a:=A5 (k:=k) (by have:=hm.len;omega);exact(hm.PY hc E (by unfold wB;omega)<|fP.XC k E).2.2
end
section
variable{D M κ m B:Nat}
def TK{sh bd:List (List cU)}{u:bT}{d0 b r:Int}{w v:Nat}(g:pY D M κ)(p:m+1<=9)(Z:bd.length=m)
 (V:b8 D M (m+1) d0 w (sh.getD (u.ah.getD 0 default).sh.toNat []))(H:b8 D M (m+1) b w (sh.getD (u.ah.getD 1 default).sh.toNat []))
 (Cc:0<=d0/\d0<=6)(Rr:0<=b/\b<=6)(O:0<=r/\r<=6)(s:1<=b->d0+(r+b-1)<=6)
 (N:∀i,b8 D M (m+1) 6 v<|bd.getD i [])(n:∀i,AE (sh.getD (u.ah.getD 1 default).sh.toNat []) (i+1)->b8 D M (m+1) r v (bd.getD i []))
 (R:Wn D M 1 1 (bV (u.ah.getD 0 default).dZ))(Q:Wn D M 1 1 (bV (u.ah.getD 1 default).dZ))(hw:2*w+v+20<=B):
 L6 (m+1) (κ*B+2) sh bd u/\∀e,(1<=b->d0+(r+b-1)<=e)->b8 D M (m+1) e (2*w+v+20) (Ms sh bd u):=by
 obtain⟨X,K⟩:∃P,sh.getD (u.ah.getD 0 default).sh.toNat []=P:=⟨_,W⟩;obtain⟨j,q⟩:∃P,sh.getD (u.ah.getD 1 default).sh.toNat []=P:=⟨_,W⟩;rw[K]at V;rw[q]at H n;obtain⟨a,T⟩:∃a:Int,a=if 1<=b then r+b-1 else 0:=⟨_,W⟩;have l:1<=b->a=r+b-1:=λh=>by rw[T,if_pos h]
 have S:¬1<=b->a=0:=λh=>by rw[T,if_neg h]
 have F:d0+a<=6:=by
  by_cases c:1<=b
  ·rw[l c];exact s c
  rw[S c];omega
 have d:∀x,x<m+1->vj (m+1) (κ*B+2) (pM j x)/\b8 D M (m+1) (b-1) (w+2) (tT j x):=λx Y=>H.ZJ g p Rr.2 Y E;have k:∀i,i<m->vj (m+1) (κ*B+2) (jx (tT j<|i+1)<|bd.getD i [])/\b8 D M (m+1) a (w+v+3) (lP (tT j<|i+1)<|bd.getD i []):=λi hi=>by
  by_cases c:AE j (i+1)
  ·have J:=AO H c;have:=b8.WK (B:=B) g p (d (i+1) E).2 (n i c) E O.2 (by have:=l J;omega) E;exact⟨this.1,this.2.mono g (by have:=l J;omega) E⟩
  rw[AU c];exact b8.QU
 have C:∀i,i<=m->b8 D M (m+1) a (w+v+3+i) (ll bd j i):=by
  intro i
  induction i with
  |zero=>
   intro _;show b8 D M (m+1) a (w+v+3) (tT j 0);by_cases c:AE j 0
   ·have J:=AO H c;exact(d 0 E).2.mono g (by have:=l J;omega) E
   rw[AU c];exact b8.nil
  |succ i L=>intro hi;exact(b8.LX (B:=B) g p (L E) ((k i E).2.mono g (aff _) E) E E).2
 have f:b8 D M (m+1) a (w+v+3+m) (mO bd j):=by unfold mO;rw[Z];exact C m<|adp _
 have o:a<=6:=E;have A:=b8.WK (B:=B) g p V f Cc.2 o F E;have hc:Wn D M 1 2 (bV (u.ah.getD 0 default).dZ*bV (u.ah.getD 1 default).dZ):=by simpa using R.mul Q
 have t:=b8.Ts (B:=B) g p A.2 F hc E;refine⟨⟨?_,?_,?_,?_⟩,λe he=>?_⟩
 ·rw[q];refine⟨(d 0 E).1,λi hi=>(d (i+1) E).1,λi hi=>(k i E).1,λi hi=>?_,λi hi=>?_⟩
  ·exact(b8.LX (B:=B) g p (C i E) ((k i E).2.mono g (aff _) E) E E).1
  have:=b8.tok (B:=B) g p (N i) (aff _) E;exact⟨this.1,agq this.2 fh⟩
 ·rw[q];exact b8.tok (B:=B) g p f o E
 ·rw[K,q];exact A.1
 ·rw[K,q];exact t.1
 unfold Ms;rw[K,q];by_cases c:1<=b
 ·exact t.2.mono g (by have:=l c;have:=he c;omega) E
 have z:mO bd j=[]:=by
  have y:∀x,¬AE j x:=λx h=>c<|AO H h;have:∀i,ll bd j i=[]:=by
   intro i
   induction i with
   |zero=>exact AU (y 0)
   |succ i L=>simp[ll];rw[L,AU<|y _];simp[DS,lP,jx,fX]
  exact this _
 have:kJ (bV (u.ah.getD 0 default).dZ*bV (u.ah.getD 1 default).dZ) (lP X<|mO bd j)=[]:=by
  have e2:jx X []=[]:=by unfold jx;simp
  rw[z];unfold lP kJ;rw[e2];rfl
 rw[this];exact b8.nil
end
def Dm(us:List bT)(n k:Nat):List Int:=((az us).take k).foldl (uH us<|ru us n us.length)<|List.replicate n 0
def Qo{us:List bT}{n k:Nat}(h:k<(az us).length):Dm us n (k+1)=uH us (ru us n us.length) (Dm us n k) ((az us).getD k 0):=by unfold Dm;rw[aey h,age,au h];rfl
def HS{u:bT}{dg:List Int}:∀(b:List Hi){rt:List Int},u.out.toNat<rt.length->
 (b.foldl (jv u dg) rt).length=rt.length/\(∀s,s≠u.out.toNat->(b.foldl (jv u dg) rt).getD s 0=rt.getD s 0)/\rt.getD u.out.toNat 0<=(b.foldl (jv u dg) rt).getD u.out.toNat 0/\
   ∀f∈b,rt.getD f.sh.toNat 0+dg.getD f.sh.toNat 0-1<=(b.foldl (jv u dg) rt).getD u.out.toNat 0
 |[],rt,_=>⟨W,λ_ _=>rfl,aff _,I⟩
 |f::b,rt,e=>by
  have d:∀s,(jv u dg rt f).getD s 0=if s=u.out.toNat then max (rt.getD u.out.toNat 0) (rt.getD f.sh.toNat 0+dg.getD f.sh.toNat 0-1)else rt.getD s 0:=λs=>nq e;have c:∀s,rt.getD s 0<=(jv u dg rt f).getD s 0:=λs=>by rw[d s];split<;>(try subst_vars)<;>omega
  obtain⟨k,j,i,h⟩:=HS b (rt:=jv u dg rt f) (by unfold jv;rw[kH];exact e);rw[afT];refine⟨by rw[k];unfold jv;rw[kH],λs hs=>by rw[j s hs,d s,if_neg hs],afW (c _) i,λg a=>?_⟩;rcases adZ.1 a with rfl|a
  ·have:=d u.out.toNat;omega
  have:=h g a;have:=c g.sh.toNat;omega
section
variable{us:List bT}{n m:Nat}(hm:fP us n)
section
variable{k s:Nat}
include hm
theorem fP.TA{k:Nat}(h:k<us.length)(hl:(Dm us n k).length=n)(h0:∀s,0<=(Dm us n k).getD s 0):
 (Dm us n<|k+1).length=n/\(∀s,s≠(aV us k).out.toNat->(Dm us n<|k+1).getD s 0=(Dm us n k).getD s 0)/\(∀s,(Dm us n k).getD s 0<=(Dm us n<|k+1).getD s 0)/\
 (∀f∈cR (aV us k),(Dm us n k).getD f.sh.toNat 0+(ru us n us.length).getD f.sh.toNat 0-1+(if(aV us k).kind=bq then(ru us n us.length).getD ((aV us k).ah.getD 0 default).sh.toNat 0 else 0)<=(Dm us n<|k+1).getD (aV us k).out.toNat 0):=by
 have hk:k<(az us).length:=by rw[hm.mU];omega
 have ho:=hm.out h;have e0:us.getD ((az us).getD k 0).toNat default=aV us k:=W;obtain⟨g1,g2⟩:=hm.dg us.length<|adp _;rw[Qo hk];unfold uH;rw[e0];obtain⟨q1,q2,q3,q4⟩:=HS (u:=aV us k) (dg:=ru us n us.length) (cR<|aV us k) (rt:=Dm us n k) E;obtain⟨A,hA⟩:∃A,Mq (aV us k) (ru us n us.length) (Dm us n k)=A:=⟨_,W⟩;have hA':(cR<|aV us k).foldl (jv (aV us k)<|ru us n us.length) (Dm us n k)=A:=hA;rw[hA']at q1 q2 q3 q4;rw[hA];obtain⟨C,hC⟩:∃C,tZ (aV us k) (ru us n us.length) A=C:=⟨_,W⟩;have hCs:C.length=n/\∀s,C.getD s 0=if s=(aV us k).out.toNat/\(aV us k).kind=dy then A.getD s 0+(ru us n us.length).getD s 0 else A.getD s 0:=by
  rw[<-hC];unfold tZ;split
  ·rename_i hk;refine⟨by rw[kH];omega,λs=>?_⟩;rw[nq E];by_cases c:s=(aV us k).out.toNat
   ·rw[if_pos c,if_pos ⟨c,hk⟩,c]
   rw[if_neg c,if_neg λg=>c g.1]
  rename_i hk;exact⟨E,λs=>by rw[if_neg λg=>hk g.2]⟩
 rw[hC];have hEs:(rP (aV us k) (ru us n us.length) C).length=n/\∀s,(rP (aV us k) (ru us n us.length) C).getD s 0=if s=(aV us k).out.toNat/\(aV us k).kind=bq then C.getD s 0+(ru us n us.length).getD ((aV us k).ah.getD 0 default).sh.toNat 0 else C.getD s 0:=by
  unfold rP;split
  ·rename_i hk;refine⟨by rw[kH];omega,λs=>?_⟩;rw[nq E];by_cases c:s=(aV us k).out.toNat
   ·rw[if_pos c,if_pos ⟨c,hk⟩,c]
   rw[if_neg c,if_neg λg=>c g.1]
  rename_i hk;exact⟨E,λs=>by rw[if_neg λg=>hk g.2]⟩
 refine⟨hEs.1,λs hs=>?_,λs=>?_,λf hf=>?_⟩
 ·rw[hEs.2 s,if_neg λg=>hs g.1,hCs.2 s,if_neg λg=>hs g.1];exact q2 s hs
 ·have:=(g2 s).1;have:=(g2 ((aV us k).ah.getD 0 default).sh.toNat).1;rw[hEs.2 s,hCs.2 s];by_cases c:s=(aV us k).out.toNat
  ·subst c;split<;>omega
  rw[if_neg λg=>c g.1,if_neg λg=>c g.1,q2 s c];exact aff _
 have:=q4 f hf;have:=(g2 (aV us k).out.toNat).1;rw[hEs.2,hCs.2];by_cases c:(aV us k).kind=bq
 ·rw[if_pos c,if_pos ⟨W,c⟩];split<;>omega
 rw[if_neg c,if_neg λg=>c g.2];split<;>omega
def fP.rt:∀k,k<=us.length->(Dm us n k).length=n/\(∀s,0<=(Dm us n k).getD s 0)/\∀s,(Dm us n k).getD s 0<=6
 |0,_=>by unfold Dm;have a:xl (List.replicate n 0) 6:=xl.rep n fh;exact⟨I,λs=>(a.getD fh s).1,λs=>(a.getD fh s).2⟩
 |k+1,h=>by
  obtain⟨l,b,j⟩:=fP.rt k E;obtain⟨g,f,d,-⟩:=hm.TA E l b;refine⟨g,λs=>afW (b s)<|d s,λs=>?_⟩;by_cases c:s=(aV us k).out.toNat
  ·obtain⟨r,-,e,hs⟩:=hm.Z7;obtain⟨z,i⟩:=Option.isSome_iff_exists.1 hs;have:=Ed i k (by rw[hm.mU];omega);rw[e]at this;rw[c];exact this
  rw[f s c];exact j s
def fP.ZV(h:k<us.length)(hs:s≠(aV us k).out.toNat):(iO us n m<|k+1).getD s []=(iO us n m k).getD s []:=by
 have a:k<(az us).length:=by rw[hm.mU];omega
 have c:=hm.out h;have b:us.getD ((az us)[k]).toNat default=aV us k:=by unfold aV;rw[au a]
 rw[pg a];unfold lJ;rw[b];split
 ·rw[fB<|by rw[kG];omega,if_neg hs]
 split
 ·rw[fB<|by rw[kG];omega,if_neg hs]
 rfl
def fP.Zl(h:k<=us.length)(hs:∀j,k<=j->j<us.length->s≠(aV us j).out.toNat):(za us n m).getD s []=(iO us n m k).getD s []:=by
 unfold za;rw[hm.mU];have:∀j,j<=us.length->k<=j->(iO us n m j).getD s []=(iO us n m k).getD s []:=by
  intro j
  induction j with
  |zero=>intro _ d;have:k=0:=E;subst this;rfl
  |succ j a=>
   intro d b;by_cases c:k=j+1
   ·subst c;rfl
   rw[hm.ZV E<|hs j E E];exact a E E
 simp_all
def fP.Zk(h:k<=us.length)(hs:s=0\/∃j,j<k/\(aV us j).out.toNat=s):(za us n m).getD s []=(iO us n m k).getD s []:=by
 refine hm.Zl h λj d a e=>?_;have c:=hm.out a;rcases hs with rfl|⟨i,hi,f⟩
 ·omega
 have b:=hm.out (show i<us.length from E);have:=hm.outs (show i<us.length from E) a E;omega
def fP.ZU{i:Nat}(hi:i<us.length)(b:us[i].kind=bq):∀j,j<=us.length->i<j->(FJ us n m j).getD us[i].out.toNat []=vm (jL us<|i+1) m
 |0,_,h=>E
 |j+1,f,h=>by
  have d:=(hm.val _<|adC<|show j<us.length from E).out;rw[FJ,au<|show j<us.length from E];by_cases c:i=j
  ·subst c;rw[if_pos b,fB<|by rw[qi];omega,if_pos W]
  have a:=fP.ZU hi b j E E;split
  ·rw[fB<|by rw[qi];omega,if_neg λe=>c<|hm.inj hi E E];exact a
  exact a
def fP.Zo:∀j,j<=us.length->(FJ us n m j).getD 0 []=vm 0 m
 |0,_=>by have:=hm.n0;unfold FJ Bk;rw[fB<|by simpa using this,if_pos W]
 |j+1,b=>by
  have a:=(hm.val _<|adC<|show j<us.length from E).out;rw[FJ,au<|show j<us.length from E];split
  ·rw[fB<|by rw[qi];omega,if_neg E];exact fP.Zo j E
  exact fP.Zo j E
def fP.Zn:(za us n m).getD 0 []=vm 0 m:=by rw[hm.Zk (k:=0) (adk _)<|.inl W];exact hm.Zo _ .refl
def fP.Zm(h:k<us.length)(f:(aV us k).kind=bq):(za us n m).getD (aV us k).out.toNat []=vm (jL us ((az us).getD k 0).toNat+1) m:=by
 have a:=hm.idx h;have b:=f;rw[hm.eq h]at b;have p:(iO us n m 0).getD (aV us k).out.toNat []=vm (jL us ((az us).getD k 0).toNat+1) m:=by unfold iO;rw[ahp,ahS,hm.eq h,hm.ZU a b _ .refl a,tz a,if_pos b]
 have:∀j,j<=us.length->(iO us n m j).getD (aV us k).out.toNat []=(iO us n m 0).getD (aV us k).out.toNat []:=by
  intro j
  induction j with
  |zero=>intro _;rfl
  |succ j g=>
   intro l;by_cases c:j=k
   ·subst c;have d:j<(az us).length:=by rw[hm.mU];omega
    have i:us.getD ((az us)[j]).toNat default=aV us j:=by unfold aV;rw[au d]
    rw[pg d];unfold lJ;rw[i,if_neg<|by rw[f];decide,if_neg<|by rw[f];decide];exact g E
   rw[hm.ZV E λe=>c ?_]
   ·exact g E
   have o:=hm.out h;exact hm.outs E h E
 unfold za;rw[hm.mU];simp_all
end
end
def GQ{us:List bT}{i j:Nat}(b:i<j)(d:j<=us.length)(a:(us.getD i default).kind=bq):jL us i<jL us j:=by
 have c:=tz (us:=us) (i:=i) E;rw[au E]at a;rw[if_pos a]at c;have e:jL us (i+1)<=jL us j:=by exact List.Sublist.countP_le<|List.take_sublist_take_left E
 omega
def Zg{k:Nat}(h:k<8):2*65600+k*131220+20<=wB:=by unfold wB;omega
def Zf(k:Nat):2*65600+k*131220+20<=(k+1)*131220:=E
def SZ(k:Nat):k*131220<=(k+1)*131220:=aeX _<|agT k
section
variable{us:List bT}{n m:Nat}(hm:fP us n)(hc:m=dq us)
include hm hc
theorem fP.Wo(s:Nat):b8 (jt us) (kq us) (m+1) ((ru us n us.length).getD s 0) 65600 ((za us n m).getD s []):=by have h:=hm.XC hc us.length .refl s;unfold za;rw[hm.mU];exact h.mono hm.base (aff _)<|A5 hm.len
def fP.ZY{k:Nat}(h:k<us.length){v:Nat}(g:AE ((za us n m).getD (aV us k).out.toNat []) v):
 ((aV us k).kind=bq/\v=jL us ((az us).getD k 0).toNat+1)\/((aV us k).kind≠bq/\∃f∈(aV us k).ah,AE ((za us n m).getD f.sh.toNat []) v):=by
 have P:k<(az us).length:=by rw[hm.mU];omega
 have O:=hm.out h;by_cases s:(aV us k).kind=bq
 ·rw[hm.Zm h s]at g;exact .inl ⟨s,Mz g⟩
 refine .inr ⟨s,?_⟩;have hu:=hm.val _<|hm.mem h;have w:cR (aV us k)=(aV us k).ah:=by unfold cR;rw[if_neg s]
 have l:∀f∈(aV us k).ah,(iO us n m k).getD f.sh.toNat []=(za us n m).getD f.sh.toNat []:=λf x=>by
  have N:=hu.feed f x;refine(hm.Zk E ?_).symm;rcases hm.before h (by rw[w];exact x) ⟨N.1,N.2.1⟩with e|⟨j,V,e⟩
  ·left;omega
  right;exact⟨j,V,E⟩
 rw[hm.Zk (k:=k+1) E<|.inr ⟨k,E,W⟩,pg P]at g;have e0:us.getD ((az us)[k]).toNat default=aV us k:=by unfold aV;rw[au P]
 unfold lJ at g;rw[e0]at g;have Y:=hm.XC hc k E;obtain⟨-,f2,f3,f4⟩:=nC<|hm.YA _<|hm.mem h;by_cases A:(aV us k).kind=jz
 ·rw[if_pos A,fB<|by rw[kG];omega,if_pos W]at g;have q:∀i,i<=(aV us k).ah.length->AE (gT (iO us n m k) (cp n us) (aV us k) i).1 v->∃f∈(aV us k).ah,AE ((iO us n m k).getD f.sh.toNat []) v:=by
   intro i
   induction i with
   |zero=>rintro _⟨u,hu,_⟩;simp[gT]at hu
   |succ i C=>
    intro hi h;rcases Gd (sc h)with h|h
    ·exact C E h
    exact⟨_,bw E,MA h⟩
  rcases Gd (sc g)with g|g
  ·obtain⟨f,x,F⟩:=q _ (adp _) g;exact⟨f,x,by rw[<-l f x];exact F⟩
  exact absurd g Em
 have z:(aV us k).kind=dy:=by rcases hu.kind with e|e|e;exact absurd e s;exact absurd e A;exact e
 rw[if_neg A,if_pos z,fB<|by rw[kG];omega,if_pos W]at g;obtain⟨T,R,-⟩:=hu.table z;have o:(aV us k).ah.getD 0 default∈(aV us k).ah:=bw E;refine⟨_,o,?_⟩;rw[<-l _ o];have L:=hm.base;have Q:=hm.Y6 hc;have Cc:=(hm.dg k E).2 ((aV us k).ah.getD 0 default).sh.toNat;have D:=b8.Ts (B:=wB) L Q (Y ((aV us k).ah.getD 0 default).sh.toNat) Cc.2 (V7 (us:=us)<|f4 _ o) (by have:=A5 (k:=k) (by have:=hm.len;omega);unfold wB;omega);have M:b8 (jt us) (kq us) (m+1) _ _ (oL (iO us n m k)<|aV us k):=D.2;have X:=hm.Z6 h;have H:=X.2.2 s _ o;have J:lz (aV us k)=max 1 (((aV us k).dI.length:Int)-1):=by unfold lz;rw[if_pos z]
 have r:=((hm.dg (k+1) E).2 (aV us k).out.toNat).2;have q:∀p:List Rat,(∀c∈p,Wn (jt us) (kq us) 1 1 c)->p.length<=(aV us k).dI.length->AE (jF m (oL (iO us n m k)<|aV us k) p) v->AE (oL (iO us n m k)<|aV us k) v:=by
  intro p
  induction p with
  |nil=>rintro _ _⟨u,hu,_⟩;simp[jF]at hu
  |cons c p C=>
   intro y hl h;rw[adX]at hl;rcases Gd (sc h)with h|h
   ·by_cases e:p=[]
    ·subst e;obtain⟨u,hu,_⟩:=h;simp[lP,jx,fX]at hu
    have Z:=(Kk (B:=wB) L Q (M.mono L (aff _)<|show 1+wS k+1<=wS k+2 from E) Cc.1 Cc.2 (by have:=A5 (k:=k) (by have:=hm.len;omega);unfold wB;omega) p (λd K=>y d<|by simp[K]) E (by refine afW (afW (afg (a:=(p.length:Int)-1) (b:=lz<|aV us k) ?_ Cc.1) H) r;rw[J];omega)).1 e
    rcases TR Z.pw M.pw h with h|h
    ·exact C (λd K=>y d<|by simp[K]) E h
    exact h
   exact absurd h Em
 exact MA<|q _ (λc hc=>by obtain⟨t,S,rfl⟩:=aeN.1 hc;exact V7<|f3 t S) I g
def fP.bd:∀k,k<=us.length->
 (∀i,b8 (jt us) (kq us) (m+1) 6 (k*131220)<|(iZ us n m k).getD i [])/\
 (∀s,(s=0\/∃j,j<k/\(aV us j).out.toNat=s)->∀i,AE ((za us n m).getD s []) (i+1)->b8 (jt us) (kq us) (m+1) ((Dm us n k).getD s 0) (k*131220) ((iZ us n m k).getD i [])/\∃j,j<k/\(aV us j).kind=bq/\jL us ((az us).getD j 0).toNat=i)/\
 (∀j,j<k->(aV us j).kind=bq->L6 (m+1) (1012*wB+2) (za us n m) (iZ us n m j) (aV us j))
 |0,_=>by
  have H:∀i,(iZ us n m 0).getD i []=[]:=λi=>by unfold iZ;rw[ahp,ahS,adY,ahl];split<;>rfl
  refine⟨λi=>by rw[H];exact b8.nil,λs hs i p=>?_,λj t=>E⟩;rcases hs with rfl|⟨j,t,-⟩
  ·rw[hm.Zn]at p;have:=Mz p;omega
  omega
 |k+1,h=>by
  obtain⟨r1,M,r3⟩:=fP.bd k E;have P:k<(az us).length:=by rw[hm.mU];omega
  have y:=hm.base;have hV:=hm.Y6 hc;have J:=hm.len;have B0:=hm.out (show k<us.length from E);have hu:=hm.val _<|hm.mem<|show k<us.length from E;obtain⟨t1,t2,t3⟩:=hm.rt k E;obtain⟨q1,q2,q3,q4⟩:=hm.TA (show k<us.length from E) t1 t2;obtain⟨u1,u2,u3⟩:=hm.rt (k+1) h;have e0:us.getD ((az us)[k]).toNat default=aV us k:=by unfold aV;rw[au P]
  have eo:(az us)[k]=(az us).getD k 0:=(au P).symm;have q:∀i,b8 (jt us) (kq us) (m+1) 6 ((k+1)*131220) ((iZ us n m k).getD i []):=λi=>(r1 i).mono y (aff _)<|SZ k;have T:∀s,(s=0\/∃j,j<k/\(aV us j).out.toNat=s)->s≠(aV us k).out.toNat:=λs hs e=>by
   rcases hs with rfl|⟨j,t,e2⟩
   ·omega
   have E1:=hm.out (show j<us.length from E);have:=hm.outs (show j<us.length from E) (show k<us.length from E) E;omega
  have l:iZ us n m (k+1)=ow us (za us n m) (iZ us n m k) (az us)[k]:=Bo P;have v:∀f∈cR (aV us k),f.sh.toNat=0\/∃j,j<k/\(aV us j).out.toNat=f.sh.toNat:=λf x=>by
   have X:f∈(aV us k).ah:=by
    unfold cR at x;split at x
    ·exact agd x
    exact x
   have hv:=hu.feed f X;rcases hm.before (show k<us.length from E) x ⟨hv.1,hv.2.1⟩with e|⟨j,t,e⟩
   ·left;omega
   right;exact⟨j,t,E⟩
  by_cases b:(aV us k).kind=bq
  ·obtain⟨E2,-⟩:=hu.int b;have Z:(aV us k).ah.getD 0 default∈(aV us k).ah:=bw E;have Y:(aV us k).ah.getD 1 default∈(aV us k).ah:=bw E;have o:(aV us k).ah.getD 1 default∈cR (aV us k):=by
    unfold cR;rw[if_pos b,au E];refine List.mem_drop_iff_getElem.2 ⟨0,E,W⟩
   obtain⟨-,-,-,f4⟩:=nC<|hm.YA _<|hm.mem<|show k<us.length from E;have hd:=(hm.dg us.length<|adp _).2;have S:=q4 _ o;rw[if_pos b]at S;have D2:=u3 (aV us k).out.toNat;obtain⟨ok,new⟩:=TK (B:=wB) (u:=aV us k) (r:=(Dm us n k).getD ((aV us k).ah.getD 1 default).sh.toNat 0) y hV (sY us n m k) (hm.Wo hc _) (hm.Wo hc _) (hd _) (hd _) ⟨t2 _,t3 _⟩ (λ_=>E) r1
    (λi p=>(M _ (v _ o) i p).1) (V7 (us:=us)<|f4 _ Z) (V7 (us:=us)<|f4 _ Y) (Zg<|ae3 h J)
   have K:=hm.idx (show k<us.length from E);have A0:jL us ((az us).getD k 0).toNat<m:=by
    have h1:=GQ (us:=us) K (adp _) (by have:us.getD ((az us).getD k 0).toNat default=aV us k:=W;rw[this];exact b)
    have h2:=GR us us.length;rw[hc];omega
   have a:∀i,(iZ us n m<|k+1).getD i []=if i=jL us ((az us).getD k 0).toNat then Ms (za us n m) (iZ us n m k) (aV us k)else(iZ us n m k).getD i []:=λi=>by rw[l];unfold ow;rw[e0,if_pos b,eo,fB<|by rw[sY];exact A0]
   have D:=Zf k;refine⟨λi=>?_,λs hs i p=>?_,λj t O=>?_⟩
   ·rw[a];split
    ·exact(new 6 (λ_=>E)).mono y (aff _) D
    exact q i
   ·by_cases c:s=(aV us k).out.toNat
    ·subst c;have hi:i=jL us ((az us).getD k 0).toNat:=by
      rcases hm.ZY hc (show k<us.length from E) p with⟨-,e⟩|⟨e,-⟩
      ·omega
      exact absurd b e
     refine⟨?_,k,E,b,hi.symm⟩;rw[a,if_pos hi];exact(new _ λ_=>E).mono y (aff _) D
    have w:s=0\/∃j,j<k/\(aV us j).out.toNat=s:=by
     rcases hs with e|⟨j,t,e⟩
     ·exact .inl e
     refine .inr ⟨j,?_,e⟩;apply afC;intro g;have:j=k:=E;subst this;exact c e.symm
    obtain⟨C,j,N,A,z⟩:=M s w i p;have V:i≠jL us ((az us).getD k 0).toNat:=by
     rw[<-z];intro e;have F0:=hm.idx (show j<us.length from E);have R:(us.getD ((az us).getD j 0).toNat default).kind=bq:=A;have Q:(us.getD ((az us).getD k 0).toNat default).kind=bq:=b;rcases aim ((az us).getD j 0).toNat ((az us).getD k 0).toNat with L|L|L
     ·have:=GQ L E R;omega
     ·have h1:=gC _ (bw (d:=0)<|show j<(az us).length by rw[hm.mU];omega);have h2:=gC _<|bw (d:=0) P;have:=hm.X9 (agq N h) h (by rw[<-ahv h1.1,<-ahv h2.1,L]);exact absurd N (by rw[this];exact Nat.lt_irrefl _)
     have:=GQ L E Q;omega
    refine⟨?_,j,E,A,z⟩;rw[a,if_neg V,q2 s c];exact C.mono y (aff _)<|SZ k
   by_cases c:j=k
   ·subst c;exact ok
   exact r3 j E O
  have a:iZ us n m (k+1)=iZ us n m k:=by rw[l];unfold ow;rw[e0,if_neg b]
  rw[a];refine⟨q,λs hs i p=>?_,λj t O=>?_⟩
  ·by_cases c:s=(aV us k).out.toNat
   ·subst c;rcases hm.ZY hc (show k<us.length from E) p with⟨e,-⟩|⟨-,f,x,F⟩
    ·exact absurd e b
    have o:f∈cR (aV us k):=by unfold cR;rw[if_neg b];exact x
    obtain⟨C,j,N,A,z⟩:=M _ (v f o) i F;have D1:=AO (hm.Wo hc f.sh.toNat) F;have S:=q4 f o;rw[if_neg b]at S;exact⟨C.mono y E<|SZ k,j,E,A,z⟩
   have w:s=0\/∃j,j<k/\(aV us j).out.toNat=s:=by
    rcases hs with e|⟨j,t,e⟩
    ·exact .inl e
    refine .inr ⟨j,?_,e⟩;apply afC;intro g;have:j=k:=E;subst this;exact c e.symm
   obtain⟨C,j,N,A,z⟩:=M s w i p;rw[q2 s c];exact⟨C.mono y (aff _)<|SZ k,j,E,A,z⟩
  by_cases c:j=k
  ·subst c;exact absurd O b
  exact r3 j E O
def fP.read:SF (m+1) (1012*wB+2) (1012*2+2) us n m:=by
 have r:=hm.base;have q:=hm.Y6 hc;have o:=hm.len;have c:∀{l:List (List cU)}{p:List cU},p∈l->∃s,p=l.getD s []:=λ{l p}h=>by obtain⟨s,hs,rfl⟩:=agP h;exact⟨s,(au hs).symm⟩
 have e:∀k(h:k<(az us).length),us.getD ((az us)[k]).toNat default=aV us k:=λk h=>by unfold aV;rw[au h]
 refine⟨λk a p d=>?_,λk a p d=>?_,λk a j=>?_,λk a f=>?_,λk a g=>?_⟩
 ·rw[hm.mU]at a;obtain⟨s,rfl⟩:=c d;exact b8.tok (B:=wB) r q (hm.XC hc k a s) ((hm.dg k a).2 s).2 (by have:=A5 (k:=k) E;unfold wB;omega)
 ·rw[hm.mU]at a;obtain⟨i,rfl⟩:=c d;exact b8.tok (B:=wB) r q ((hm.bd hc k a).1 i) (aff _) (by unfold wB;omega)
 ·have b:k<us.length:=by rw[<-hm.mU];exact a
  rw[e k a]at j⊢;exact(hm.PY hc b (by have:=A5 (k:=k) E;unfold wB;omega)<|hm.XC hc k E).1 j
 ·have b:k<us.length:=by rw[<-hm.mU];exact a
  rw[e k a]at f⊢;exact(hm.PY hc b (by have:=A5 (k:=k) E;unfold wB;omega)<|hm.XC hc k E).2.1 f
 have b:k<us.length:=by rw[<-hm.mU];exact a
 rw[e k a]at g⊢;exact(hm.bd hc us.length .refl).2.2 k b g
end
noncomputable def OZ(p:gV):Bool:=Am p&&decide (B4 (za p.aa p.n.toNat (dq p.aa)++(Mr p.aa p.n.toNat<|dq p.aa).bd)=0)
def QX{p:gV}(h:Am p=true):fP p.aa p.n.toNat/\p.n=p.n.toNat:=by
 unfold Am at h;rw[adD,adD,decide_eq_true_eq,aeI]at h;obtain⟨⟨i,m,a⟩,f,d⟩:=h;obtain⟨l,k,j,b⟩:=H4 a;have e:p.n=p.n.toNat:=E;unfold dT at a;rw[if_neg E,if_neg E]at a;split at a
 ·rename_i g;exact absurd a g
 split at a
 ·cases a
 split at a
 ·cases a
 split at a
 ·cases a
 split at a
 ·cases a
 rename_i c;split at a
 ·cases a
 exact⟨⟨i,E,E,λu hu=>by rw[<-e];exact b u hu,Classical.not_not.1 c,E,f,d⟩,e⟩
def Yz(p:gV)(h:rA p):aM Tryz.prog 56 [bh p,.i 8] (.u<|OZ p):=by
 refine bS Tryz.func56 W<|bP W W (Gj p h) W<|r0 W<|iN 8 W ?_ ?_<;>intro g
 ·obtain⟨hm,e⟩:=QX g;have d:=hm.read (m:=dq p.aa) W;have j:=hm.n9;have c:=hm.n0;have f:=hm.len;have a:∀u∈p.aa,iQ p.n u:=λu hu=>by rw[e];exact hm.val u hu
  refine bP W W (KE p h p.n.toNat (dq p.aa) e W c E E a d (by unfold wB;decide) fh<|by unfold wB;decide) W ?_;refine bP W W (Gn (Mr p.aa p.n.toNat<|dq p.aa) (za p.aa p.n.toNat<|dq p.aa) (V:=dq p.aa+1) (K:=1012*wB+2) (λq b=>?_) ?_<|by unfold wB;decide) W ?_
  ·rcases afR.1 b with b|b
   ·have:=d.sh _ (adp _) q b;exact⟨this.1,agq this.2 fh⟩
   have:=d.rt _ (adp _) q b;exact⟨this.1,agq this.2 fh⟩
  ·unfold za;rw[kG];have:(Mr p.aa p.n.toNat<|dq p.aa).bd.length=dq p.aa:=sY _ _ _ _;have k:dq p.aa<=p.aa.length:=agG;omega
  refine bK W W<|ar.of_eq<|congrArg SV.u ?_;unfold OZ;rw[g,afa]
 refine bK W W ?_;unfold OZ;rw[g];rfl
def nB(u:bT):Bool:=decide (u.kind.length<=30/\u.ah.length<=12/\u.dI.length<=20/\u.k.length<=14)&&((u.ah.all λf=>decide (f.dZ.length<=14))&&u.dI.all λc=>decide (c.length<=14))
def BE(p:gV):Prop:=¬(12<p.aa.length/\p.aa.length<=96)/\p.aa.length<=110/\p.ints.length<=40
instance(p:gV):Decidable (BE p):=by unfold BE;infer_instance
noncomputable def qC(p:gV):Bool:=decide (BE p)&&(p.aa.all nB&&(decide (dT p≠0)||OZ p))
structure Zb(p:gV):Prop where
 aa:p.aa.length<=9223372036854775807
 ints:p.ints.length<=9223372036854775807
 kind:∀u∈p.aa,u.kind.length<=9223372036854775807
 ah:∀u∈p.aa,u.ah.length<=9223372036854775807
 dI:∀u∈p.aa,u.dI.length<=9223372036854775807
 k:∀u∈p.aa,u.k.length<=9223372036854775807
 dZ:∀u∈p.aa,∀f∈u.ah,f.dZ.length<=9223372036854775807
 Kj:∀u∈p.aa,∀c∈u.dI,c.length<=9223372036854775807
def IE{p:gV}(a:BE p)(h:p.aa.all nB=true):rA p:=by rw[aeI]at h;refine⟨by have:=a.2.1;omega,λu hu=>?_,by have:=a.2.2;omega⟩;have:=h u hu;unfold nB at this;simp at this;obtain⟨⟨_,j,i,g⟩,e,d⟩:=this;exact⟨E,λf b=>by have:=e f b;unfold ct;omega,by unfold ct;omega,E,λc hc=>by have:=d c hc;unfold ct;omega⟩
def Ub(p:gV)(e:Zb p):aM Tryz.prog 9 [bh p] (.u<|qC p):=by
 have hl:=e.aa;have hi:=e.ints;have d:¬BE p->qC p=false:=λh=>by unfold qC;rw[decide_eq_false h];rfl
 refine bS Tryz.func9 W ?_;have ret:∀(h:qC p=false),false=qC p:=λh=>h.symm;refine cx 2 [(1,.box true<|bh p)] (BE p) ?_ λy=>?_
 ·refine bJ W 13 W ?_ ?_<;>intro g1
  ·refine bJ W 19 W ?_ ?_<;>intro g2
   ·refine bK W W<|ret<|d λh=>h.1 ⟨E,E⟩
   refine bJ W 25 W ?_ ?_<;>intro q
   ·refine bK W W<|ret (d λh=>by have:=h.2.1;omega)
   refine bQ W W ?_ ?_<;>intro o
   ·refine bK W W<|ret (d λh=>by have:=h.2.2;omega)
   refine r0 W<|gm ⟨λh=>E,E,E⟩
  refine bJ W 25 W ?_ ?_<;>intro q
  ·refine bK W W<|ret (d λh=>by have:=h.2.1;omega)
  refine bQ W W ?_ ?_<;>intro o
  ·refine bK W W<|ret (d λh=>by have:=h.2.2;omega)
  refine r0 W<|gm ⟨λh=>E,E,E⟩
 have t:qC p=(p.aa.all nB&&(decide (dT p≠0)||OZ p)):=by unfold qC;rw[decide_eq_true y,afa]
 rw[t];clear ret d t;refine r0 W<|ra (λi:Nat=>[(1,.box true<|bh p),(32,.bA false 5 default dQ p.aa),(33,.i p.aa.length),(34,.i i)]) (λi=>i<=p.aa.length/\p.aa.all nB=(p.aa.drop i).all nB) (λi=>p.aa.length-i) 0 ⟨adk _,W⟩ ?_;rintro i⟨B,s⟩;refine bQ W W ?_ ?_<;>intro g1
 ·have g:i<p.aa.length:=E;have z:(i:Int).toNat=i:=E;have D:p.aa.getD i default=p.aa[i]:=au g;have a:=adC g;have k1:=e.kind _ a;have k2:=e.ah _ a;have k3:=e.dI _ a;have k4:=e.k _ a;have k5:=e.dZ _ a;have k6:=e.Kj _ a;rw[aeE g,ae6]at s;rw[s];refine r1 W (by simp only[bo,and_true,z]<;>omega) ?_;rw[z,D];generalize p.aa[i]=u at*;have d:(¬(u.kind.length<=30/\u.ah.length<=12/\u.dI.length<=20/\u.k.length<=14))->nB u=false:=λh=>by unfold nB;rw[decide_eq_false h];rfl
  have ret:nB u=false->false=(nB u&&(p.aa.drop<|i+1).all nB&&(decide (dT p≠0)||OZ p)):=λh=>by rw[h];rfl
  refine aC 42 W ?_ ?_<;>intro g2
  ·refine bK W W<|ret<|d λh=>E
  refine bJ W 48 W ?_ ?_<;>intro q
  ·refine bK W W<|ret<|d λh=>E
  refine bJ W 54 W ?_ ?_<;>intro o
  ·refine bK W W<|ret<|d λh=>E
  refine bQ W W ?_ ?_<;>intro C
  ·refine bK W W<|ret<|d λh=>E
  have t:nB u=((u.ah.all λf=>decide (f.dZ.length<=14))&&u.dI.all λc=>decide (c.length<=14)):=by unfold nB;rw[decide_eq_true ⟨E,E,E,E⟩,afa]
  rw[t];clear ret d;refine r0 W<|ra (λk:Nat=>[(1,.box true<|bh p),(32,.bA false 5 default dQ p.aa),(33,.i p.aa.length),(34,.i i),(4,.box true<|dQ u),(61,.bA false 2 default oX u.ah),(62,.i u.ah.length),(63,.i k)]) (λk=>k<=u.ah.length/\(u.ah.all λf=>decide (f.dZ.length<=14))=(u.ah.drop k).all λf=>decide (f.dZ.length<=14)) (λk=>u.ah.length-k) 0 ⟨adk _,W⟩ ?_;rintro k⟨A,l⟩;refine bQ W W ?_ ?_<;>intro w
  ·have b:k<u.ah.length:=E;have r:(k:Int).toNat=k:=E;have x:u.ah.getD k default=u.ah[k]:=au b;have k7:=k5 _<|adC b;rw[aeE b,ae6]at l;rw[l];refine r1 W (by simp only[bo,and_true,r]<;>omega) ?_;rw[r,x];generalize u.ah[k]=f at*;refine gb W ?_ ?_<;>intro v
   ·refine bK W W ?_;show false=_;rw[decide_eq_false E];rfl
   rw[show decide (f.dZ.length<=14)=true from decide_eq_true E,afa];refine r1 W ba<|gS (k+1) ⟨E,W⟩
  have:k=u.ah.length:=E;subst this;rw[l,afU,ahR,afa];refine r0 W<|ra (λk:Nat=>[(1,.box true<|bh p),(32,.bA false 5 default dQ p.aa),(33,.i p.aa.length),(34,.i i),(73,.strs false u.dI),(74,.i u.dI.length),(75,.i k)]) (λk=>k<=u.dI.length/\(u.dI.all λc=>decide (c.length<=14))=(u.dI.drop k).all λc=>decide (c.length<=14)) (λk=>u.dI.length-k) 0 ⟨adk _,W⟩ ?_;rintro k⟨A,j⟩;refine bQ W W ?_ ?_<;>intro w
  ·have b:k<u.dI.length:=E;have r:(k:Int).toNat=k:=E;have x:u.dI.getD k []=u.dI[k]:=au b;have k7:=k6 _<|adC b;rw[aeE b,ae6]at j;rw[j];refine r1 W (by simp only[bo,and_true,r]<;>omega) ?_;rw[r,x];generalize u.dI[k]=c at*;refine gb W ?_ ?_<;>intro v
   ·refine bK W W ?_;show false=_;rw[decide_eq_false E];rfl
   rw[show decide (c.length<=14)=true from decide_eq_true E,afa];refine r1 W ba<|gS (k+1) ⟨E,W⟩
  have:k=u.dI.length:=E;subst this;rw[j,afU,ahR,afa];refine r1 W ba<|gS (i+1) ⟨E,W⟩
 have:i=p.aa.length:=E;subst this;rw[s,afU,ahR,afa];refine r0 W ?_;have n:p.aa.all nB=true:=by rw[s,afU];rfl
 have m:rA p:=IE y n;refine bG W (mN p m) W<|bJ W 87 W ?_ ?_<;>intro g2
 ·refine bK W W ?_;show true=_;rw[decide_eq_true g2];rfl
 refine bP W W (Yz p m) W<|bK W W<|ar.of_eq<|congrArg SV.u ?_;rw[decide_eq_false g2];rfl
end Go.Ai
