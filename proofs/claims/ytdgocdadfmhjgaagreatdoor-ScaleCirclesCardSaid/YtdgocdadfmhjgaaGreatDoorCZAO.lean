/- Parts of the proof of ScaleCircles (CheckRefused returns the error of the reference), at every input, with no further conditions. -/
import Derived.Test.YtdgocdadfmhjgaaGreatDoorCZAN
set_option linter.all false
set_option maxRecDepth 100000
set_option maxHeartbeats 0
namespace Go.Ai.Pg
open Go.Proofs Go.Ai Go.Ai.cY
def Ra(s:bK):isNeg (s.take<|ar s)=isNeg s/\bm (s.take<|ar s)=(bm s).take (ar<|bm s)/\s.drop (ar s+1)=(bm s).drop (ar (bm s)+1)/\(ar s<s.length↔ar (bm s)<(bm s).length)/\ar s=(if isNeg s then 1 else 0)+ar (bm s)/\s.length=(if isNeg s then 1 else 0)+(bm s).length:=by
 by_cases h:isNeg s=true
 ·have hs:=GH s;rw[if_pos h]at hs;generalize bm s=b at hs⊢;subst hs;have e:ar ([45]++b)=ar b+1:=by simp[ar]
  rw[e,if_pos h];refine⟨?_,?_,?_,?_,?_,?_⟩
  ·rw[h];simp[isNeg]
  ·have hn:isNeg (([45]++b).take<|ar b+1)=true:=by simp[isNeg]
   unfold bm;rw[if_pos hn];simp
  ·simp
  ·simp
  ·omega
  simp;omega
 have hb:bm s=s:=by unfold bm;rw[if_neg h]
 have hf:isNeg s=false:=by simpa using h
 rw[hb,if_neg h];have hn:isNeg (s.take<|ar s)=false:=by
  unfold isNeg at hf⊢;simp only[decide_eq_false_iff_not]at hf⊢;rintro⟨h1,h2⟩;have hl:0<ar s/\0<s.length:=by simp at h1;omega
  have e:(s.take<|ar s).getD 0 0=s.getD 0 0:=by rw[aca,aca,aev,if_pos hl.1]
  simp_all
 refine⟨by rw[hn,hf],?_,rfl,Iff.rfl,by omega,by omega⟩;unfold bm;rw[hn];rfl
def gcd_one{a:Nm}(h:a8 a):(ws a=[]/\a.s=1)↔nv a=1:=by
 rw[uM h];obtain⟨s,w⟩:=a;cases w with
 |none=>simp[nv]
 |some m=>
  obtain⟨h1,h2⟩:=h;simp[nv];rcases h1 with h1|h1
  ·have h1:=h1;subst h1;omega
  have h1:=h1;subst h1;omega
def xB(s:bK)(hl:s.length<2^45):aL Tryz.prog 55 [.s s] (.i<|aJ s):=by
 obtain⟨p1,p2,p3,p4,p5,p6⟩:=Ra s;have hle:=nm<|bm s;refine bE Tryz.func55 rfl<|r0 rfl<|bF rfl (aaa s<|by omega) rfl<|r0 rfl<|bF rfl (acw (s.take<|ar s)<|by simp;omega) rfl ?_;refine rn 6 rfl ?_;rw[p1,p2,p3,show decide (ar s<s.length)=decide (ar (bm s)<(bm s).length)from decide_eq_decide.2 p4];obtain⟨Z,hZ⟩:∃Z,Z=(bm s).take (ar<|bm s):=⟨_,rfl⟩;obtain⟨D,hD⟩:∃D,D=(bm s).drop (ar (bm s)+1):=⟨_,rfl⟩;have hZl:Z.length=ar (bm s):=by rw[hZ,ac2];omega
 have hDl:D.length=(bm s).length-(ar (bm s)+1):=by rw[hD,afa]
 have KG:=xJ s;have hU:ir s=(fD Z&& !(isNeg s&&decide (Z=[48]))):=by rw[hZ];rfl
 have hV:jB s=(!decide (ar (bm s)<(bm s).length)||(fD D&& !decide (D=[48])&& !decide (D=[49]))):=by rw[hD];rfl
 have hG:pf s=(!decide (ar (bm s)<(bm s).length)||decide (Nat.gcd (ct Z) (ct D)=1)):=by rw[hZ,hD];rfl
 rw[<-hZ,<-hD];obtain⟨fr,Ky⟩:∃fr,fr=decide (ar (bm s)<(bm s).length):=⟨_,rfl⟩;have hN:aJ s=if ir s then(if jB s then(if 600<Z.length\/600<D.length then 4 else if pf s then 0 else 1)else 1)else 1:=by
  unfold aJ;have:(600<ar (bm s)\/ar (bm s)+601<(bm s).length)↔(600<Z.length\/600<D.length):=by omega
  simp only[this]
 rw[<-Ky]at hV hG⊢;rw[hN];refine b8 1 [(4,.s D),(5,.u fr),(6,.s Z)] (ir s=true/\jB s=true) ?_ ?_
 ·have one:¬(ir s=true/\jB s=true)->(1:Int)=if ir s then(if jB s then(if 600<Z.length\/600<D.length then 4 else if pf s then 0 else 1)else 1)else 1:=by
   intro hn;by_cases a:ir s=true
   ·rw[if_pos a,if_neg λb=>hn ⟨a,b⟩]
   rw[if_neg a]
  refine r0 rfl<|bF rfl (Mb Z<|by omega) rfl<|r0 rfl<|iF 24 rfl (λh=>?_) (λh=>?_)
  ·have h:fD Z=false:=by simpa using h
   refine r0 rfl<|aG rfl<|an.of_eq<|congrArg SV.i<|one λ⟨a,_⟩=>by rw[hU,h]at a;simp at a
  have h:fD Z=true:=by simpa using h
  refine r0 rfl<|iF 26 rfl (λg=>?_) (λg=>?_)
  ·have hU2:ir s= !decide (Z=[48]):=by rw[hU,h,g];simp
   refine r0 rfl<|aC 31 rfl (λg2=>?_) (λg2=>?_)
   ·have g2:Z=[48]:=g2;refine r0 rfl<|aG rfl<|an.of_eq<|congrArg SV.i<|one λ⟨a,_⟩=>by rw[hU2,g2]at a;simp at a
   have g2:¬Z=[48]:=g2;have hU3:ir s=true:=by rw[hU2];simp[g2]
   refine r0 rfl<|iF 33 rfl (λf1=>?_) (λf1=>?_)
   ·have U0:jB s=(fD D&& !decide (D=[48])&& !decide (D=[49])):=by rw[hV,f1];simp
    refine r0 rfl<|bF rfl (Mb D<|by omega) rfl<|r0 rfl<|iF 37 rfl (λf2=>?_) (λf2=>?_)
    ·have f2:fD D=false:=by simpa using f2
     refine r0 rfl<|aG rfl<|an.of_eq<|congrArg SV.i<|one λ⟨_,a⟩=>by rw[U0,f2]at a;simp at a
    have f2:fD D=true:=by simpa using f2
    refine r0 rfl<|aC 41 rfl (λf3=>?_) (λf3=>?_)
    ·have f3:D=[48]:=f3;refine r0 rfl<|aG rfl<|an.of_eq<|congrArg SV.i<|one λ⟨_,a⟩=>by rw[U0,f3]at a;simp at a
    have f3:¬D=[48]:=f3;refine r0 rfl<|bH rfl (λf4=>?_) (λf4=>?_)
    ·have f4:D=[49]:=f4;refine r0 rfl<|aG rfl<|an.of_eq<|congrArg SV.i<|one λ⟨_,a⟩=>by rw[U0,f4]at a;simp at a
    have f4:¬D=[49]:=f4;refine r0 rfl<|aP ⟨hU3,by rw[U0,f2];simp[f3,f4]⟩ ⟨ab,ab,ab,ao⟩
   refine r0 rfl<|aP ⟨hU3,by rw[hV,f1];rfl⟩ ⟨ab,ab,ab,ao⟩
  have hU3:ir s=true:=by rw[hU,h,g];simp
  refine r0 rfl<|iF 33 rfl (λf1=>?_) (λf1=>?_)
  ·have U0:jB s=(fD D&& !decide (D=[48])&& !decide (D=[49])):=by rw[hV,f1];simp
   refine r0 rfl<|bF rfl (Mb D<|by omega) rfl<|r0 rfl<|iF 37 rfl (λf2=>?_) (λf2=>?_)
   ·have f2:fD D=false:=by simpa using f2
    refine r0 rfl<|aG rfl<|an.of_eq<|congrArg SV.i<|one λ⟨_,a⟩=>by rw[U0,f2]at a;simp at a
   have f2:fD D=true:=by simpa using f2
   refine r0 rfl<|aC 41 rfl (λf3=>?_) (λf3=>?_)
   ·have f3:D=[48]:=f3;refine r0 rfl<|aG rfl<|an.of_eq<|congrArg SV.i<|one λ⟨_,a⟩=>by rw[U0,f3]at a;simp at a
   have f3:¬D=[48]:=f3;refine r0 rfl<|bH rfl (λf4=>?_) (λf4=>?_)
   ·have f4:D=[49]:=f4;refine r0 rfl<|aG rfl<|an.of_eq<|congrArg SV.i<|one λ⟨_,a⟩=>by rw[U0,f4]at a;simp at a
   have f4:¬D=[49]:=f4;refine r0 rfl<|aP ⟨hU3,by rw[U0,f2];simp[f3,f4]⟩ ⟨ab,ab,ab,ao⟩
  refine r0 rfl<|aP ⟨hU3,by rw[hV,f1];rfl⟩ ⟨ab,ab,ab,ao⟩
 rintro⟨u1,v1⟩;rw[if_pos u1,if_pos v1];have hZd:db Z:=by rw[hU,acd]at u1;exact(nA u1.1).1
 refine r0 rfl<|aC 50 rfl (λg=>?_) (λg=>?_)
 ·have g:600<Z.length:=by omega
  refine r0 rfl<|aG rfl<|bC ?_;rw[if_pos<|.inl g]
 have g:¬600<Z.length:=by omega
 refine r0 rfl<|bH rfl (λg2=>?_) (λg2=>?_)
 ·have g2:600<D.length:=by omega
  refine r0 rfl<|aG rfl<|bC ?_;rw[if_pos<|.inr g2]
 have g2:¬600<D.length:=by omega
 rw[if_neg λh=>h.elim g g2];refine r0 rfl<|nB rfl rfl rfl (λf1=>?_) (λf1=>?_)
 ·have hDd:db D:=by
   rw[hV,f1]at v1;simp only[ajk,ah6,acd]at v1;exact(nA v1.1.1).1
  have bZ:=xK hZd;have bD:=xK hDd;obtain⟨z1,z2⟩:=nO (s:=Z) (by rw[bZ];exact hZd);obtain⟨d1,d2⟩:=nO (s:=D) (by rw[bD];exact hDd);have zs:=wh (s:=Z) (by rw[bZ];exact hZd);have ds:=wh (s:=D) (by rw[bD];exact hDd);rw[bZ]at zs;rw[bD]at ds;have zs:=dw zs (show Z.length<=600 by omega);have ds:=dw ds (show D.length<=600 by omega);obtain⟨c1,c2,c3⟩:=yP _ _ z2 d2 zs ds;refine r0 rfl<|bF rfl (B8 Z (by rw[bZ];exact hZd)<|by omega) rfl ?_;refine r0 rfl<|bF rfl (B8 D (by rw[bD];exact hDd)<|by omega) rfl ?_;refine r0 rfl<|bF rfl (ZZ _ _ z2 d2 zs ds<|by omega) rfl<|r0 rfl<|bF rfl (WZ _) rfl ?_;have ub:=gcd_one c2;have hGG:pf s=true↔nv (oB (kb Z)<|kb D)=1:=by rw[hG,f1,c1,z1,d1,wR hZd,wR hDd];simp only[ajk,ah6,decide_eq_true_eq];show _↔((Int.gcd ((ct Z:Nat):Int) ((ct D:Nat):Int):Nat):Int)=1;rw[Int.gcd_natCast_natCast];omega
  refine r0 rfl<|iF 67 rfl (λe1=>?_) (λe1=>?_)
  ·have e1:¬ws (oB (kb Z)<|kb D)=[]:=by simpa using e1
   refine r0 rfl<|aG rfl<|bC ?_;rw[if_neg λhh=>e1 (ub.2<|hGG.1 hh).1]
  have e1:ws (oB (kb Z)<|kb D)=[]:=by simpa using e1
  refine r0 rfl<|bH rfl (λe2=>?_) (λe2=>?_)
  ·refine r0 rfl<|aG rfl<|bC ?_;rw[if_neg λhh=>e2 (ub.2<|hGG.1 hh).2]
  have e2:(oB (kb Z)<|kb D).s=1:=ag0.1 e2;refine r0 rfl<|aG rfl<|bC ?_;rw[if_pos<|hGG.2<|ub.1 ⟨e1,e2⟩]
 refine r0 rfl<|aG rfl<|bC ?_;rw[hG,f1];rfl
def jL(z:Int):bm (ck z)=decl z.natAbs 1:=by
 have:=Qb z 1;have e:uY z 1=ck z:=by unfold uY fb;simp
 rw[e]at this;rw[this];simp[fb]
def n5(z:Int):isNeg (ck z)=decide (z<0):=by
 have:=yK z 1;have e:uY z 1=ck z:=by unfold uY fb;simp
 rwa[e]at this
def Nb(z:Int):CM (ck z)=z:=by
 unfold CM;rw[jL,n5,ke];by_cases h:z<0
 ·rw[decide_eq_true h];show -((z.natAbs:Nat):Int)=z;omega
 rw[decide_eq_false h];show((z.natAbs:Nat):Int)=z;omega
def fX(q:Rat):Fr:=⟨kb<|ck q.num,if q.den=1 then⟨1,none⟩else kb (decl q.den 1)⟩
def xL(n:Nat):bm (decl n 1)=decl n 1:=xK<|cw n 1
def dL(q:Rat):gT (fX q) q:=by
 obtain⟨a1,a2⟩:=nO (s:=ck q.num) (by rw[jL];exact cw _ 1);obtain⟨b1,b2⟩:=nO (s:=decl q.den 1) (by rw[xL];exact cw _ 1);rw[Nb]at a1;rw[wR<|cw _ 1,ke]at b1;refine⟨a2,?_,a1,?_⟩
 ·show a8 (if q.den=1 then(⟨1,none⟩:Nm)else kb (decl q.den 1));split
  ·exact Hq
  exact b2
 show nv (if q.den=1 then(⟨1,none⟩:Nm)else kb (decl q.den 1))=q.den;split
 ·rename_i h;rw[h];rfl
 exact b1
def Vb{q:Rat}{n:Nat}(h:Dc q n)(hn:1<=n):rQ (fX q) n:=by
 have a:=wh (s:=ck q.num) (by rw[jL];exact cw _ 1);have b:=wh (s:=decl q.den 1) (by rw[xL];exact cw _ 1);rw[jL]at a;rw[xL]at b;refine⟨dw a h.1,?_⟩;show fj (if q.den=1 then(⟨1,none⟩:Nm)else kb (decl q.den 1)) n;split
 ·exact dw (gJ (m:=1)<|by decide) hn
 exact dw b h.2
def ach(q:Rat){n:Nat}(hd:Dc q n)(hn:n<2^19):aL Tryz.prog 56 [.s<|qt q] (eF<|fX q):=by
 have l1:(ck q.num).length<=n+1:=by
  have:=jL q.num;have h2:(ck q.num).length<=(bm<|ck q.num).length+1:=by unfold bm;split<;>simp<;>omega
  rw[this]at h2;have:=hd.1;omega
 have l2:=hd.2;have hlen:(qt q).length<=2*n+2:=by
  unfold qt uY fb;split
  ·simp;omega
  simp;omega
 have hs:ar (qt q)=(ck q.num).length:=lz _ _;refine bE Tryz.func56 rfl<|r0 rfl<|bF rfl (aaa (qt q)<|by omega) rfl ?_;have et:(qt q).take (ar<|qt q)=ck q.num:=by rw[hs];exact ss _ _
 rw[et];refine r0 rfl<|nB rfl rfl rfl (λh=>?_) (λh=>?_)
 ·have h1:q.den=1:=by
   by_cases g:q.den=1
   ·exact g
   exfalso;have h:¬ar (qt q)<(qt q).length:=by simpa using h
   apply h;rw[hs];unfold qt uY;rw[nJ g];simp
  refine r0 rfl<|bF rfl (B8 (ck q.num) (by rw[jL];exact cw _ 1)<|by omega) rfl ?_;refine r0 rfl<|bF rfl (cY.GM _) rfl<|r0 rfl<|aG rfl<|an.of_eq ?_;unfold fX;rw[if_pos h1];rfl
 have h1:q.den≠1:=by
  intro g;have h:ar (qt q)<(qt q).length:=by simpa using h
  rw[hs]at h;unfold qt uY fb at h;rw[if_pos g]at h;simp at h
 have ed:(qt q).drop (ar (qt q)+1)=decl q.den 1:=by rw[hs];exact s9 _ _ h1
 rw[ed];refine r0 rfl<|bF rfl (B8 (ck q.num) (by rw[jL];exact cw _ 1)<|by omega) rfl ?_;refine r0 rfl<|bF rfl (B8 (decl q.den 1) (by rw[xL];exact cw _ 1)<|by omega) rfl ?_;refine r0 rfl<|aG rfl<|an.of_eq ?_;unfold fX;rw[if_neg h1];rfl
def qW{s:bK}(h:aJ s=0):aL Tryz.prog 56 [.s s] (eF<|fX<|bI s):=by have:=ach (bI s) (NZ h) (by decide);rwa[fO h]at this
def fH{s:bK}(h:aJ s=0):rQ (fX<|bI s) 600:=Vb (NZ h) (by decide)
def acu(xs:List bK)(hx:∀s∈xs,cR s)(hl:xs.length<2^60):aL Tryz.prog 200 [.strs false xs,.fn (.func 55) [] []] (.i<|aK aJ xs):=by
 refine bE Tryz.func200 rfl<|r0 rfl<|loop (λi:Nat=>[(1,.fn (.func 55) [] []),(8,.strs false xs),(9,.i xs.length),(10,.i i)]) (λi=>i<=xs.length/\aK aJ xs=aK aJ (xs.drop i)) (λi=>xs.length-i) 0 ⟨abC _,rfl⟩ ⟨ab,ab,ab,ab,ao⟩ ?_;rintro i⟨hi,hf⟩;refine r0 rfl<|bH rfl (λh=>?_) (λh=>?_)
 ·have aZ:i<xs.length:=by omega
  have ei:(i:Int).toNat=i:=by omega
  rw[dp _ aZ]at hf;have eg:xs.getD (i:Int).toNat []=xs[i]:=by rw[ei];exact aw aZ
  refine r1 rfl (by simp[ag,ei];omega) ?_;refine Il (us:=[.s xs[i]]) rfl rfl ao ⟨congrArg SV.s eg,ao⟩ (xB xs[i]<|hx _<|ab9 aZ) rfl<|r0 rfl<|bH rfl (λh2=>?_) (λh2=>?_)
  ·refine r0 rfl<|aG rfl<|bC ?_;rw[hf,if_pos h2]
  refine r1 rfl (by simp[ag,and_true];omega) ?_;refine again (i+1) (by omega) ⟨by omega,?_⟩ ⟨ab,ab,ab,ab,ao⟩;rw[hf,if_neg h2]
 refine r0 rfl<|aG rfl<|bC ?_;rw[hf,ad3<|by omega];rfl
def VI(xs:List bK)(hx:∀s∈xs,cR s)(hl:xs.length<2^60):aL Tryz.prog 119 [.strs false xs] (.i<|aK aJ xs):=by refine bE Tryz.func119 rfl<|r0 rfl<|bF rfl (acu xs hx hl) rfl<|r0 rfl<|bB rfl
def WH(b:Bool)(e:Int):aL Tryz.prog 120 [.u b,.i e] (.i<|if b then e else 0):=by
 refine bE Tryz.func120 rfl<|r0 rfl<|nB rfl rfl rfl (λh=>?_) (λh=>?_)
 ·refine r0 rfl<|aG rfl<|bC ?_;rw[h];rfl
 refine r0 rfl<|aG rfl<|bC ?_;rw[h];rfl
def aaD(s:hO)(h1:cR s.lo)(h2:cR s.hi):aL Tryz.prog 59 [fP s] (.i<|iu s):=by
 refine bE Tryz.func59 rfl<|r0 rfl<|bF rfl (VI [s.lo,s.hi] (λx hx=>by simp at hx;rcases hx with rfl|rfl<;>assumption)<|by simp) rfl ?_;have hf:aK aJ [s.lo,s.hi]=if aJ s.lo≠0 then aJ s.lo else if aJ s.hi≠0 then aJ s.hi else 0:=rfl;rw[hf];refine r0 rfl<|bH rfl (λh=>?_) (λh=>?_)
 ·refine r0 rfl<|aG rfl<|bC ?_;unfold iu;by_cases a:aJ s.lo≠0
  ·rw[if_pos a,if_pos a]
  rw[if_neg a]at h;by_cases b:aJ s.hi≠0
  ·rw[if_pos b,if_pos b]
  rw[if_neg b]at h;exact absurd rfl h
 have lV:aJ s.lo=0:=by apply aeY;intro a;apply h;rw[if_pos a];exact a
 have ya:aJ s.hi=0:=by apply aeY;intro b;apply h;rw[if_neg λa=>a lV,if_pos b];exact b
 have qm:iu s=if 0<DF (bI s.lo) (bI s.hi)then 11 else 0:=by unfold iu;rw[if_neg λa=>a lV,if_neg λa=>a ya]
 refine r0 rfl<|bG rfl (qW lV) rfl<|r0 rfl<|bG rfl (qW ya) rfl<|bG rfl (NG _ _ (dL _) (dL _) (fH lV) (fH ya)<|by decide) rfl<|r0 rfl<|bG rfl (WH _ 11) rfl<|k0 rfl (by kernel_rfl)<|aG rfl<|bC ?_;rw[qm,I0];have hc:=tV (p:=bI s.lo) (q:=bI s.hi);by_cases g1:bI s.lo<=bI s.hi
 ·rw[if_neg (show¬0<DF (bI s.lo) (bI s.hi) by have:=hc.2 g1;omega)];have:¬bI s.hi<bI s.lo:=Rat.not_lt.2 g1;rw[if_neg this];split<;>simp
 rw[if_pos<|show 0<DF (bI s.lo) (bI s.hi)from Int.not_le.1 λh=>g1<|hc.1 h];have g2:bI s.hi<bI s.lo:=aiD.1 g1;have g3:¬bI s.lo<bI s.hi:=λh=>g1<|aeU h;rw[if_neg g3,if_pos g2];simp
def T9(a b:Int)(f:Nat)(p:SV):SV:=.agg [.i a,.i b,.fn (.func f) [] [],p]
def kI:SV:=T9 2 2 255 (.c .nilFunc)
def kA:SV:=T9 1 8 254 (.fn (.func 256) [] [])
def kT:SV:=T9 1 1 254 (.fn (.func 257) [] [])
def wP(a b:Int)(f:Nat)(p:Value):Value:=.agg #[.int .i64 a,.int .i64 b,.func (.func f) #[] #[],p]
def F5:Br:=[(bo,wP 2 2 255 .nilFunc),(jJ,wP 1 8 254 (.func (.func 256) #[] #[])),(dQ,wP 1 1 254 (.func (.func 257) #[] #[]))]
def O2:aL Tryz.prog 226 [] (.mp<|CA F5):=by refine bE Tryz.func226 rfl<|r0 rfl<|ex rfl rfl rfl (J1 rfl) rfl<|r0 rfl<|ex rfl rfl rfl (tE (k:=bo) (v:=wP 2 2 255 .nilFunc) (x:=kI) (.inl rfl) rfl Tryz.underlying297 Tryz.underlying9 rfl) rfl<|r0 rfl<|ex rfl rfl rfl (tE (k:=jJ) (v:=wP 1 8 254 (.func (.func 256) #[] #[])) (x:=kA) (.inl rfl) rfl Tryz.underlying297 Tryz.underlying9 rfl) rfl<|r0 rfl<|ex rfl rfl rfl (tE (k:=dQ) (v:=wP 1 1 254 (.func (.func 257) #[] #[])) (x:=kT) (.inl rfl) rfl Tryz.underlying297 Tryz.underlying9 rfl) rfl<|r0 rfl<|bB rfl
def KP:uc bo F5=some (wP 2 2 255 .nilFunc):=rfl
def KQ:uc jJ F5=some (wP 1 8 254 (.func (.func 256) #[] #[])):=rfl
def KO:uc dQ F5=some (wP 1 1 254 (.func (.func 257) #[] #[])):=rfl
def RO{k:bK}(h1:k≠bo)(h2:k≠jJ)(h3:k≠dQ):uc k F5=none:=by
 have e:∀{a b:bK},a≠b->sv a b=false:=by
  intro a b h;cases hh:sv a b with
  |false=>rfl
  |true=>exact absurd (tr.1 hh) h
 simp[F5,uc,e h1,e h2,e h3]
def Lx(p:kx)(u:bO)(hu:UOk u):aL Tryz.prog 157 [bh p,dM u] (.i<|fL p.n u):=by
 have Rw:=hu.ah;have X4:=hu.dD;refine bE Tryz.func157 rfl<|b8 6 [(2,.box true<|bh p),(3,.box true<|dM u)] ((u.kind=bo\/u.kind=jJ\/u.kind=dQ)/\¬jQ u (D6 u) (x9 u)) ?_ ?_
 ·refine r0 rfl<|bG rfl O2 rfl<|r0 rfl ?_;have hw:(u.kind=bo\/u.kind=jJ\/u.kind=dQ)->jQ u (D6 u) (x9 u)->2=fL p.n u:=by
   intro hk hh;unfold fL;rw[if_neg λh=>hk.elim h.1 λk=>k.elim h.2.1 h.2.2,if_pos hh]
  by_cases h1:u.kind=bo
  ·have hl:D6 u=2:=by unfold D6;rw[if_pos h1]
   have hh:x9 u=2:=by unfold x9;rw[if_pos h1]
   have Yb:¬u.kind=dQ:=by rw[h1];decide
   refine Wp (.bX [kI,.b true]) rfl rfl rfl (fW (k:=u.kind) (x:=kI) Tryz.underlying297 Tryz.underlying9 (by rw[h1];exact KP) rfl true) rfl ?_;refine k0 rfl (by kernel_rfl)<|bH rfl (λh=>absurd h Yb) λ_=>?_;refine r0 rfl<|aC 47 rfl (λh3=>?_) (λh3=>?_)
   ·refine r0 rfl<|aG rfl<|an.of_eq<|congrArg SV.i<|hw (.inl h1) ?_;rw[hl,hh];exact .inl h3
   refine r0 rfl<|aC 55 rfl (λh4=>?_) (λh4=>?_)
   ·refine r0 rfl<|aG rfl<|an.of_eq<|congrArg SV.i<|hw (.inl h1) ?_;rw[hl,hh];exact .inr<|.inl h4
   refine r0 rfl<|nB rfl rfl rfl (λh5=>?_) (λh5=>?_)
   ·refine r0 rfl<|aG rfl<|an.of_eq<|congrArg SV.i<|hw (.inl h1) ?_;have h5:¬(u.dD.length:Int)=0:=by simpa using h5
    exact .inr<|.inr<|.inr ⟨Yb,by omega⟩
   have h5:(u.dD.length:Int)=0:=by simpa using h5
   refine r0 rfl<|aP ⟨.inl h1,?_⟩ ⟨ab,ab,ao⟩;rw[hl,hh];rintro(q|q|q|q)
   ·exact h3 q
   ·exact h4 q
   ·exact Yb q.1
   omega
  by_cases h1:u.kind=jJ
  ·rename_i h0;have hl:D6 u=1:=by unfold D6;rw[if_neg h0]
   have hh:x9 u=8:=by unfold x9;rw[if_neg h0,if_pos h1]
   have Yb:¬u.kind=dQ:=by rw[h1];decide
   refine Wp (.bX [kA,.b true]) rfl rfl rfl (fW (k:=u.kind) (x:=kA) Tryz.underlying297 Tryz.underlying9 (by rw[h1];exact KQ) rfl true) rfl ?_;refine k0 rfl (by kernel_rfl)<|bH rfl (λh=>absurd h Yb) λ_=>?_;refine r0 rfl<|aC 47 rfl (λh3=>?_) (λh3=>?_)
   ·refine r0 rfl<|aG rfl<|an.of_eq<|congrArg SV.i<|hw (.inr<|.inl h1) ?_;rw[hl,hh];exact .inl h3
   refine r0 rfl<|aC 55 rfl (λh4=>?_) (λh4=>?_)
   ·refine r0 rfl<|aG rfl<|an.of_eq<|congrArg SV.i<|hw (.inr<|.inl h1) ?_;rw[hl,hh];exact .inr<|.inl h4
   refine r0 rfl<|nB rfl rfl rfl (λh5=>?_) (λh5=>?_)
   ·refine r0 rfl<|aG rfl<|an.of_eq<|congrArg SV.i<|hw (.inr<|.inl h1) ?_;have h5:¬(u.dD.length:Int)=0:=by simpa using h5
    exact .inr<|.inr<|.inr ⟨Yb,by omega⟩
   have h5:(u.dD.length:Int)=0:=by simpa using h5
   refine r0 rfl<|aP ⟨.inr<|.inl h1,?_⟩ ⟨ab,ab,ao⟩;rw[hl,hh];rintro(q|q|q|q)
   ·exact h3 q
   ·exact h4 q
   ·exact Yb q.1
   omega
  rename_i h0;by_cases h2:u.kind=dQ
  ·have hl:D6 u=1:=by unfold D6;rw[if_neg h0]
   have hh:x9 u=1:=by unfold x9;rw[if_neg h0,if_neg h1]
   refine Wp (.bX [kT,.b true]) rfl rfl rfl (fW (k:=u.kind) (x:=kT) Tryz.underlying297 Tryz.underlying9 (by rw[h2];exact KO) rfl true) rfl ?_;refine k0 rfl (by kernel_rfl)<|bH rfl (λ_=>?_) λh=>absurd h2 h;refine r0 rfl<|aC 35 rfl (λg1=>?_) (λg1=>?_)
   ·refine r0 rfl<|aC 47 rfl (λh3=>?_) (λh3=>?_)
    ·refine r0 rfl<|aG rfl<|an.of_eq<|congrArg SV.i<|hw (.inr<|.inr h2) ?_;rw[hl,hh];exact .inl h3
    refine r0 rfl<|aC 55 rfl (λh4=>?_) (λh4=>?_)
    ·refine r0 rfl<|aG rfl<|an.of_eq<|congrArg SV.i<|hw (.inr<|.inr h2) ?_;rw[hl,hh];exact .inr<|.inl h4
    refine r0 rfl<|nB rfl rfl rfl (λh5=>?_) (λh5=>?_)
    ·have h5:¬(u.dD.length:Int)<=13:=by simpa using h5
     refine r0 rfl<|aG rfl<|an.of_eq<|congrArg SV.i<|hw (.inr<|.inr h2)<|.inr<|.inr<|.inl ⟨h2,by omega⟩
    have h5:(u.dD.length:Int)<=13:=by simpa using h5
    refine r0 rfl<|aP ⟨.inr<|.inr h2,?_⟩ ⟨ab,ab,ao⟩;rw[hl,hh];rintro(q|q|q|q)
    ·exact h3 q
    ·exact h4 q
    ·have:=q.2;omega
    exact q.1 h2
   refine r0 rfl ?_;have ab5:jQ u (D6 u) (x9 u):=.inr<|.inr<|.inl ⟨h2,by omega⟩;refine aC 47 rfl (λh3=>?_) (λh3=>?_)
   ·refine r0 rfl<|aG rfl<|an.of_eq<|congrArg SV.i<|hw (.inr<|.inr h2) ab5
   refine r0 rfl<|aC 55 rfl (λh4=>?_) (λh4=>?_)
   ·refine r0 rfl<|aG rfl<|an.of_eq<|congrArg SV.i<|hw (.inr<|.inr h2) ab5
   refine r0 rfl<|aG rfl<|an.of_eq<|congrArg SV.i<|hw (.inr<|.inr h2) ab5
  obtain⟨i,i1,i2⟩:∃i,Tryz.prog.info? 295=some i/\i.zero=some (.agg #[.int .i64 0,.int .i64 0,.nilFunc,.nilFunc]):=⟨_,rfl,rfl⟩;refine Wp (.bX [.agg [.i 0,.i 0,.c .nilFunc,.c .nilFunc],.b false]) rfl rfl rfl (MX (k:=u.kind) (x:=.agg [.i 0,.i 0,.c .nilFunc,.c .nilFunc]) Tryz.underlying297 Tryz.underlying9 (RO h0 h1 h2) i1 i2 rfl true) rfl<|k0 rfl (by kernel_rfl)<|aG rfl<|an.of_eq<|congrArg SV.i<|by unfold fL;rw[if_pos ⟨h0,h1,h2⟩]
 rintro⟨hk,hw⟩;have vq:fL p.n u=if aK (fY p.n) u.ah≠0 then aK (fY p.n) u.ah
  else if u.out<1\/p.n<=u.out then 10
  else if aJ u.k≠0 then aJ u.k else aK aJ u.dD:=by
  unfold fL;rw[if_neg λh=>hk.elim h.1 λk=>k.elim h.2.1 h.2.2,if_neg hw]
 refine b8 1 [(2,.box true<|bh p),(3,.box true<|dM u)] (aK (fY p.n) u.ah=0) ?_ λhz=>?_
 ·refine r0 rfl<|loop (λi:Nat=>[(2,.box true<|bh p),(3,.box true<|dM u),(60,.bT false 2 default pd u.ah),(61,.i u.ah.length),(62,.i i)]) (λi=>i<=u.ah.length/\aK (fY p.n) u.ah=aK (fY p.n) (u.ah.drop i)) (λi=>u.ah.length-i) 0 ⟨abC _,rfl⟩ ⟨ab,ab,ab,ab,ab,ao⟩ ?_;rintro i⟨hi,hf⟩;refine r0 rfl<|bH rfl (λh1=>?_) (λh1=>?_)
  ·have aZ:i<u.ah.length:=by omega
   have ei:(i:Int).toNat=i:=by omega
   have eg:u.ah.getD i default=u.ah[i]:=aw aZ;rw[dp _ aZ]at hf;have ab0:=hu.dU _<|ab9 aZ;refine r1 rfl (by simp only[ag,and_true,ei];omega) ?_;rw[ei,eg];generalize u.ah[i]=f at*;refine bG rfl (yJ p _) rfl<|r0 rfl<|bG rfl (nD _ 10) rfl<|r0 rfl<|bG rfl (xB f.dU ab0) rfl<|r0 rfl<|bG rfl (nD _ 6) rfl<|r0 rfl<|bG rfl (tQ _<|by simp) rfl<|k0 rfl (by kernel_rfl) ?_;have he:aK id [if !lC p.n f.sh then(10:Int)else 0,aJ f.dU,if decide (f.dU=[48])then 6 else 0]=fY p.n f:=by
    unfold fY lC;by_cases a:f.sh<0\/p.n<=f.sh
    ·rw[if_pos a,decide_eq_false<|by omega];rfl
    rw[if_neg a,decide_eq_true<|by omega];by_cases b:aJ f.dU≠0
    ·rw[if_pos b];simp[aK,b]
    rw[if_neg b];have b:aJ f.dU=0:=by simpa using b
    have:f.dU=[48]↔bI f.dU=0:=by have:=Hf (q:=bI f.dU);rwa[fO b]at this
    by_cases c:bI f.dU=0
    ·rw[if_pos c,decide_eq_true<|this.2 c];simp[aK,b]
    rw[if_neg c,decide_eq_false λh=>c<|this.1 h];simp[aK,b]
   rw[show aK id [if !lC p.n f.sh then(10:Int)else 0,aJ f.dU,if decide (f.dU=[48])then 6 else 0]=fY p.n f from he];refine bH rfl (λh2=>?_) (λh2=>?_)
   ·refine r0 rfl<|aG rfl<|bC ?_;rw[if_pos h2]at hf;rw[vq,if_pos<|by rw[hf];exact h2,hf]
   refine r1 rfl (by simp only[ag,and_true];omega) ?_;refine again (i+1) (by omega) ⟨by omega,?_⟩ ⟨ab,ab,ab,ab,ab,ao⟩;rw[hf,if_neg h2]
  refine r0 rfl<|aP ?_ ⟨ab,ab,ao⟩;rw[hf,ad3<|by omega];rfl
 rw[if_neg<|by rw[hz];simp]at vq;have hk:=hu.k;refine b8 1 [(3,.box true<|dM u)] (fL p.n u=aK aJ u.dD) ?_ λhN2=>?_
 ·refine r0 rfl<|aC 88 rfl (λh1=>?_) (λh1=>?_)
  ·refine r0 rfl<|bG rfl (nD true 10) rfl<|r0 rfl<|bG rfl (xB u.k hk) rfl<|r0 rfl<|bG rfl (tQ _<|by simp) rfl<|k0 rfl (by kernel_rfl)<|bH rfl (λh2=>?_) λh2=>absurd (by simp[aK]) h2;refine r0 rfl<|aG rfl<|bC ?_;rw[vq,if_pos<|show u.out<1\/p.n<=u.out from .inl<|by omega];simp[aK]
  refine r0 rfl<|bG rfl (yJ p _) rfl<|r0 rfl<|bG rfl (nD _ 10) rfl<|r0 rfl<|bG rfl (xB u.k hk) rfl<|r0 rfl<|bG rfl (tQ _<|by simp) rfl<|k0 rfl (by kernel_rfl) ?_;have he:aK id [if !lC p.n u.out then(10:Int)else 0,aJ u.k]=if u.out<1\/p.n<=u.out then 10 else if aJ u.k≠0 then aJ u.k else 0:=by
   unfold lC;by_cases a:u.out<1\/p.n<=u.out
   ·rw[if_pos a,decide_eq_false<|by omega];rfl
   rw[if_neg a,decide_eq_true<|by omega];by_cases b:aJ u.k≠0
   ·rw[if_pos b];simp[aK,b]
   rw[if_neg b];simp at b;simp[aK,b]
  rw[he];refine bH rfl (λh2=>?_) (λh2=>?_)
  ·refine r0 rfl<|aG rfl<|bC ?_;rw[vq];by_cases a:u.out<1\/p.n<=u.out
   ·rw[if_pos a,if_pos a]
   rw[if_neg a]at h2;rw[if_neg a,if_neg a];by_cases b:aJ u.k≠0
   ·rw[if_pos b,if_pos b]
   rw[if_neg b]at h2;exact absurd rfl h2
  refine r0 rfl<|aP ?_ ⟨ab,ao⟩;rw[vq];by_cases a:u.out<1\/p.n<=u.out
  ·rw[if_pos a]at h2;simp at h2
  rw[if_neg a]at h2⊢;by_cases b:aJ u.k≠0
  ·rw[if_pos b]at h2;exact absurd b h2
  rw[if_neg b]
 refine r0 rfl<|loop (λi:Nat=>[(3,.box true<|dM u),(105,.strs false u.dD),(106,.i u.dD.length),(107,.i i)]) (λi=>i<=u.dD.length/\aK aJ u.dD=aK aJ (u.dD.drop i)) (λi=>u.dD.length-i) 0 ⟨abC _,rfl⟩ ⟨ab,ab,ab,ab,ao⟩ ?_;rintro i⟨hi,hf⟩;refine r0 rfl<|bH rfl (λh1=>?_) (λh1=>?_)
 ·have aZ:i<u.dD.length:=by omega
  have ei:(i:Int).toNat=i:=by omega
  rw[dp _ aZ]at hf;refine r1 rfl (by simp only[ag,and_true,ei];omega) ?_;refine Il (us:=[.s u.dD[i]]) rfl rfl ao ⟨congrArg SV.s<|by rw[ei];exact aw aZ,ao⟩ (xB u.dD[i]<|hu.Mf _<|ab9 aZ) rfl ?_;refine r0 rfl<|bH rfl (λh2=>?_) (λh2=>?_)
  ·refine r0 rfl<|aG rfl<|bC ?_;rw[hN2,hf,if_pos h2]
  refine r1 rfl (by simp only[ag,and_true];omega) ?_;refine again (i+1) (by omega) ⟨by omega,?_⟩ ⟨ab,ab,ab,ab,ao⟩;rw[hf,if_neg h2]
 refine r0 rfl<|aG rfl<|bC ?_;rw[hN2,hf,ad3<|by omega];rfl
def Cr(x y:Nat)(hx:x<18446744073709551616)(hy:y<18446744073709551616):aL Tryz.prog 104 [.n .u64 x,.n .u64 y] (.bX [.n .u64 (x*y/18446744073709551616:Nat),.n .u64 (x*y%18446744073709551616:Nat)]):=by refine bE Tryz.func104 rfl<|r0 rfl<|bF rfl (kg x y hx hy) rfl<|r0 rfl<|bB rfl
def Jt{α:Type _}(x z:α){m r k:Nat}(hk:k<=m)(hr:k<=r):(List.replicate m x++List.replicate r z).take m++(List.replicate m x++List.replicate r z).take k++(List.replicate m x++List.replicate r z).drop (m+k)=List.replicate (m+k) x++List.replicate (r-k) z:=by
 rw[List.take_append,List.take_append,aiZ];simp only[agc,List.take_replicate,List.drop_replicate,Nat.min_self,agM,ae0 hk];have e1:m-(m+k)=0:=by omega
 have e2:k-m=0:=by omega
 have e3:m+k-m=k:=by omega
 simp only[e1,e2,e3,List.replicate_zero,afG,adw,Nat.zero_min];rw[List.replicate_append_replicate]
def Fs(x:Int)(n:Nat)(h0:1<=n)(hn:n<2^20):aL Tryz.prog 52 [.ints .i64 false [x],.i n] (.ints .i64 true<|List.replicate n x):=by
 refine bE Tryz.func52 rfl<|r0 rfl<|bH rfl (λh=>by omega) λh=>?_;refine kw [15,17] rfl rfl ao<|Il (us:=[.n .u64 (1:Nat),.n .u64 n]) rfl rfl ao ⟨rfl,congrArg (SV.n .u64)<|wr<|by omega,ao⟩ (Cr 1 n (by decide)<|by omega) rfl ?_;rw[Nat.one_mul,aeS (by omega:n<18446744073709551616),afb (by omega:n<18446744073709551616)];refine r0 rfl<|aC 23 rfl (λh=>by omega) λh=>?_;refine r0 rfl<|bH rfl (λh=>by omega) λh=>?_;refine r1 rfl (by simp[ag,and_true]<;>omega) ?_;refine ex rfl rfl rfl (Vy (P:=Tryz.prog) (ti:=⟨false,1,8,.v<|.int .i64 0⟩) rfl rfl Tryz.underlying23 rfl rfl rfl (by simp;omega) (by simp) (n:=1)<|by rw[agc,agd];exact ae0 h0) rfl ?_;refine r0 rfl<|loop (λm:Nat=>[(7,.ints .i64 true<|List.replicate m x++List.replicate (n-m) 0),(8,.i m)]) (λm=>1<=m/\m<=n) (λm=>n-m) 1 ⟨abZ _,h0⟩ ⟨⟨rfl,an.of_eq<|congrArg (SV.ints .i64 true)<|by rw[List.drop_replicate,agd];rfl⟩,ab,ao⟩ ?_;rintro m⟨h1,h2⟩;have hlen:(List.replicate m x++List.replicate (n-m) (0:Int)).length=n:=by rw[acW,agc,agc];omega
 refine r0 rfl<|bH rfl (λh3=>?_) (λh3=>?_)
 ·have h3:m<n:=by rw[hlen]at h3;omega
  refine rno 6 rfl ao<|wnd rfl rfl ?_ ?_
  ·simp[ag,app,and_true,hlen];omega
  refine rno 2 rfl ao<|wnd rfl rfl ?_ ?_
  ·simp[ag,app,and_true,hlen];omega
  have dc:List.replicate m x++List.replicate (n-m) (0:Int)≠[]:=λe=>by rw[e]at hlen;simp at hlen;omega
  refine exd rfl rfl rfl (ll.same (N2 (P:=Tryz.prog) (ti:=⟨false,1,8,.v<|.int .i64 0⟩) (k:=.i64) (xs:=List.replicate m x++List.replicate (n-m) (0:Int)) rfl rfl Tryz.underlying23 rfl rfl rfl dc (off:=m) (m1:=n-m) (m2:=m) (n:=min m<|n-m) rfl (by rw[hlen];omega) (by rw[hlen];omega) (by omega)<|by omega) rfl ?_ rfl rfl) rfl ?_
  ·show au [_,_]=au [SV.bA 1000000 0 0 [Step.lR 1 (m:Int).toNat<|(List.replicate m x++List.replicate (n-m) (0:Int)).length-(m:Int).toNat],SV.bA 1000000 0 0 [Step.lR 1 0 ((m:Int).toNat-0)]];rw[hlen,agd,ain]
  refine k1 rfl (by kernel_rfl) (by simp[ag,and_true]<;>omega) ?_;rw[Jt x 0 (Nat.min_le_left _ _)<|Nat.min_le_right _ _];refine again (m+min m (n-m)) (by omega) (by omega) ⟨⟨rfl,an.of_eq<|congrArg (SV.ints .i64 true) ?_⟩,⟨rfl,bC ?_⟩,ao⟩
  ·congr 2;omega
  omega
 have h3:n<=m:=by rw[hlen]at h3;omega
 refine r0 rfl<|aG rfl<|an.of_eq<|congrArg (SV.ints .i64 true) ?_;have:m=n:=by omega
 subst this;rw[agM];simp
def zF:SV:=.agg [.i 0,.nil,.i 0,.nil]
def tiF:xY:=⟨true,4,64,zF⟩
def tA{x:SV}(h:x.aF=true):∀n,gm (List.replicate n x)=true
 |0=>rfl
 |n+1=>by simp[ag7,gm,h];exact tA h n
def Tl{x:SV}(h:x.aF=true)(m n:Nat):gm (List.replicate m x++List.replicate n zF)=true:=by
 induction m with
 |zero=>simpa using tA (by decide) n
 |succ m ih=>simp[ag7,gm,h];exact ih
def Tm{x:SV}(h:mq tiF x=true)(m n:Nat):∀y∈List.replicate m x++List.replicate n zF,mq tiF y=true:=by
 intro y hy;rcases ac5.1 hy with hy|hy
 ·rw[(List.mem_replicate.1 hy).2];exact h
 rw[(List.mem_replicate.1 hy).2];rfl
def QK(x:SV)(hf:mq tiF x=true)(gu:x.aF=true)(n:Nat)(h0:1<=n)(hn:n<2^20):aL Tryz.prog 230 [.row false 4 [x],.i n] (.row true 4 (List.replicate n x)):=by
 refine bE Tryz.func230 rfl<|r0 rfl<|bH rfl (λh=>by omega) λh=>?_;refine kw [15,17] rfl rfl ao<|Il (us:=[.n .u64 (1:Nat),.n .u64 n]) rfl rfl ao ⟨rfl,congrArg (SV.n .u64)<|wr<|by omega,ao⟩ (Cr 1 n (by decide)<|by omega) rfl ?_;rw[Nat.one_mul,aeS (by omega:n<18446744073709551616),afb (by omega:n<18446744073709551616)];refine r0 rfl<|aC 23 rfl (λh=>by omega) λh=>?_;refine r0 rfl<|bH rfl (λh=>by omega) λh=>?_;refine r1 rfl (by simp[ag,and_true]<;>omega) ?_;refine ex rfl rfl rfl (Vx (P:=Tryz.prog) (ti':=tiF) rfl rfl Tryz.underlying149 rfl (by simp;omega) (by simp) (tA (by decide) _) (by simpa using hf) (n:=1)<|by rw[agc,agd];exact ae0 h0) rfl ?_;refine r0 rfl<|loop (λm:Nat=>[(7,.row true 4 (List.replicate m x++List.replicate (n-m) zF)),(8,.i m)]) (λm=>1<=m/\m<=n) (λm=>n-m) 1 ⟨abZ _,h0⟩ ⟨⟨rfl,an.of_eq<|congrArg (SV.row true 4)<|by rw[List.drop_replicate,agd];rfl⟩,ab,ao⟩ ?_;rintro m⟨h1,h2⟩;have hlen:(List.replicate m x++List.replicate (n-m) zF).length=n:=by rw[acW,agc,agc];omega
 refine r0 rfl<|bH rfl (λh3=>?_) (λh3=>?_)
 ·have h3:m<n:=by rw[eV,hlen]at h3;omega
  refine rno 6 rfl ao<|wnd rfl rfl ?_ ?_
  ·simp[ag,app,and_true,eV,hlen];omega
  refine rno 2 rfl ao<|wnd rfl rfl ?_ ?_
  ·simp[ag,app,and_true,eV,hlen];omega
  have dc:List.replicate m x++List.replicate (n-m) zF≠[]:=λe=>by rw[e]at hlen;simp at hlen;omega
  refine exd rfl rfl rfl (ll.same (N1 (P:=Tryz.prog) (ti':=tiF) (xs:=List.replicate m x++List.replicate (n-m) zF) rfl rfl Tryz.underlying149 rfl dc (Tl gu _ _) (Tm hf _ _) (off:=m) (m1:=n-m) (m2:=m) (n:=min m<|n-m) rfl (by rw[hlen];omega) (by rw[hlen];omega) (by omega)<|by omega) rfl ?_ rfl rfl) rfl ?_
  ·show au [_,_]=au [SV.bA 1000000 0 0 [Step.lR 4 (m:Int).toNat<|len (List.replicate m x++List.replicate (n-m) zF)-(m:Int).toNat],SV.bA 1000000 0 0 [Step.lR 4 0 ((m:Int).toNat-0)]];rw[eV,hlen,agd,ain];rfl
  refine k1 rfl (by kernel_rfl) (by simp[ag,and_true]<;>omega) ?_;rw[Jt x zF (Nat.min_le_left _ _)<|Nat.min_le_right _ _];refine again (m+min m (n-m)) (by omega) (by omega) ⟨⟨rfl,an.of_eq<|congrArg (SV.row true 4) ?_⟩,⟨rfl,bC ?_⟩,ao⟩
  ·congr 2;omega
  omega
 have h3:n<=m:=by rw[eV,hlen]at h3;omega
 refine r0 rfl<|aG rfl<|an.of_eq<|congrArg (SV.row true 4) ?_;have:m=n:=by omega
 subst this;rw[agM];simp
def pT(s:Int)(u:bO):∀(xs:List bO)(k:Nat),cg s k (xs++[u])=if 0<=cg s k xs then cg s k xs else if u.out=s then((k+xs.length:Nat):Int)else -1
 |[],k=>by simp[cg]
 |x::xs,k=>by
  simp only[agL,cg];by_cases h:x.out=s
  ·simp[h]
  simp only[h,if_false,pT s u xs<|k+1,acU];have:k+1+xs.length=k+(xs.length+1):=by omega
  rw[this]
def pS{s:Int}:∀{xs:List bO}{k:Nat},0<=cg s k xs↔1<=xs.countP λu=>decide (u.out=s)
 |[],k=>by simp[cg]
 |x::xs,k=>by
  simp[cg,List.countP_cons];by_cases h:x.out=s
  ·simp[h]
  simp only[h,if_false,pS (xs:=xs) (k:=k+1)];omega
def za{s:Int}:∀{xs:List bO}{k:Nat},¬0<=cg s k xs->cg s k xs= -1
 |[],k,_=>rfl
 |x::xs,k,h=>by
  simp only[cg]at h⊢;by_cases g:x.out=s
  ·rw[if_pos g]at h;simp_all
  rw[if_neg g]at h⊢;exact za h
def DB{xs:List bO}{i:Nat}(h:i<xs.length)(P:bO->Bool):(xs.take<|i+1).countP P=(xs.take i).countP P+if P xs[i]then 1 else 0:=by rw[ac6 h,ahj,ajp]
def L4(n:Nat)(us:List bO):List Int:=(List.range n).map λ(s:Nat)=>dY us (s:Int)
def Y3{n s:Nat}{us:List bO}(h:s<n):(L4 n us).getD s 0=dY us s:=by unfold L4;rw[aca,af1,ajr h];rfl
def uG:Int->List bO->List Int->List Int×Bool
 |_,[],L=>(L,!decide (-1∈L.drop 1))
 |k,u::r,L=>if 0<=L.getD u.out.toNat 0 then(L,false)else uG (k+1) r (L.set u.out.toNat k)
def Ib(n:Nat)(us:List bO):List Int×Bool:=uG 0 us<|List.replicate n<|-1
def RV(p:kx)(h:ye p)(n:Nat)(hn:p.n=n)(h1:1<=n)(UH:n<2^20)(ho:∀u∈p.aa,1<=u.out/\u.out<n):aL Tryz.prog 161 [bh p] (.bX [.ints .i64 false (Ib n p.aa).1,.u (Ib n p.aa).2]):=by
 have hl:=h.aa;refine bE Tryz.func161 rfl<|r0 rfl<|Il (us:=[.ints .i64 false [-1],.i n]) rfl rfl ao ⟨rfl,congrArg SV.i hn,ao⟩ (Fs (-1) n h1 UH) rfl<|r0 rfl<|kh (λ(i:Nat)(L:List Int)=>[(4,.ints .i64 true L),(12,.bT false 5 default dM p.aa),(13,.i p.aa.length),(14,.i i)]) (λi L=>i<=p.aa.length/\L.length=n/\Ib n p.aa=uG i (p.aa.drop i) L) (λi _=>p.aa.length-i) 0 (List.replicate n<|-1) ⟨abC _,by simp,rfl⟩ ⟨ab,ab,ab,ab,ao⟩ ?_;rintro i L⟨hi,hL,hd⟩;refine r0 rfl<|bH rfl (λg1=>?_) (λg1=>?_)
 ·have aZ:i<p.aa.length:=by omega
  have ei:(i:Int).toNat=i:=by omega
  have eg:p.aa.getD i default=p.aa[i]:=aw aZ;rw[ac4 aZ,uG]at hd;have hu:=ho _<|ab9 aZ;refine r1 rfl (by simp only[ag,and_true,ei,eg,hL];omega) ?_;rw[ei,eg];refine bH rfl (λg2=>?_) (λg2=>?_)
  ·have g2:0<=L.getD p.aa[i].out.toNat 0:=g2;rw[if_pos g2]at hd;refine r0 rfl<|Xe rfl ?_;rw[hd];exact⟨rfl,rfl,ao⟩
  have g2:¬0<=L.getD p.aa[i].out.toNat 0:=g2;rw[if_neg g2]at hd;refine r1 rfl (by simp[ag,and_true,hL];omega) ?_;refine again (i+1,L.set p.aa[i].out.toNat i) (by dsimp only;omega) ⟨by dsimp only;omega,by simpa using hL,by simpa using hd⟩ ⟨ab,ab,ab,ab,ao⟩
 rw[ad3<|by omega,uG]at hd;refine r1 rfl (by simp[ag,and_true,hL];omega) ?_;refine bF rfl (N5 _ (-1)<|by simp;omega) rfl ?_;refine r0 rfl<|Xe rfl ?_;rw[hd];have:((L.drop (1:Int).toNat).take<|L.length-(1:Int).toNat)=L.drop 1:=acR (by simp);refine⟨rfl,?_,ao⟩;show(!decide (-1∈(L.drop (1:Int).toNat).take (L.length-(1:Int).toNat)))= !decide (-1∈L.drop 1);rw[this]
def NR(n:Nat)(us:List bO)(h1:1<=n)(ho:∀u∈us,1<=u.out/\u.out<n):∀(i:Nat)(L:List Int),i<=us.length->L.length=n->(∀s:Nat,s<n->L.getD s 0=dY (us.take i) s)->(∀s:Nat,((us.take i).countP λu=>decide (u.out=(s:Int)))<=1)->
 ((uG i (us.drop i) L).2=true↔vF n us)/\((uG i (us.drop i) L).2=true->(uG i (us.drop i) L).1=L4 n us):=by
 intro i
 induction hm:us.length-i generalizing i with
 |zero=>
  intro L hi hL hd hc;have ei:us.take i=us:=acR (by omega);rw[ei]at hd hc;rw[ad3<|by omega];simp only[uG,agq,decide_eq_false_iff_not];have dz:¬ -1∈L.drop 1↔vF n us:=by
   constructor
   ·intro hn s jn gD;have h2:=hd s gD;have:0<=dY us s:=aeY λrU=>by
     refine hn<|aix.2 ⟨s-1,by simp;omega,?_⟩;rw[List.getElem_drop];have e:1+(s-1)=s:=by omega
     simp[e];have h5:dY us s= -1:=za rU;rw[<-h5,<-h2,aca,acL<|by omega];rfl
    have h3:=pS.1 this;have h4:=hc s;omega
   intro RJ dz;obtain⟨j,hj,e⟩:=aix.1 dz;rw[List.getElem_drop]at e;simp at hj;have h2:=hd (1+j) (by omega);rw[aca,acL<|by omega,Option.getD_some,e]at h2;have h3:=RJ (1+j) (by omega) (by omega);have h4:=(pS (s:=((1+j:Nat):Int)) (xs:=us) (k:=0)).2 (by omega);unfold dY at h2;omega
  refine⟨dz,λ_=>?_⟩;apply aih
  ·simp[L4,hL]
  intro s k1 k2;have h2:=hd s (by omega);rw[aca,acL k1,Option.getD_some]at h2;simp[L4,h2]
 |succ m ih=>
  intro L hi hL hd hc;have aZ:i<us.length:=by omega
  have hu:=ho _<|ab9 aZ;have eu:((us[i].out.toNat:Nat):Int)=us[i].out:=by omega
  rw[ac4 aZ,uG];have h0:=hd us[i].out.toNat (by omega);rw[eu]at h0;by_cases g:0<=L.getD us[i].out.toNat 0
  ·rw[if_pos g];refine⟨⟨λh=>by simp at h,λRJ=>?_⟩,λh=>by simp at h⟩;rw[h0]at g;have h2:=pS.1 g;have h3:=RJ us[i].out.toNat (by omega) (by omega);rw[eu]at h3;have h4:=DB aZ λu=>decide (u.out=us[i].out);simp[decide_true,if_true]at h4;have h5:((us.take<|i+1).countP λu=>decide (u.out=us[i].out))<=us.countP λu=>decide (u.out=us[i].out):=List.Sublist.countP_le<|List.take_sublist _ _;omega
  rw[if_neg g];have:=ih (i+1) (by omega) (L.set us[i].out.toNat i) (by omega) (by simpa using hL) ?_ ?_
  ·simpa using this
  ·intro s hs;rw[aca,ag2];rw[ac6 aZ];unfold dY;rw[pT];have h2:=hd s hs;rw[aca]at h2;by_cases e:us[i].out.toNat=s
   ·subst e;rw[h0]at g;unfold dY at g;rw[if_pos rfl,if_pos<|by omega,eu,if_neg g,if_pos rfl];simp;omega
   rw[if_neg e,h2];have e2:¬us[i].out=(s:Int):=by omega
   rw[if_neg e2];by_cases g2:0<=cg (s:Int) 0 (us.take i)
   ·rw[if_pos g2];rfl
   rw[if_neg g2];exact za g2
  intro s;rw[DB aZ];have h2:=hc s;by_cases e:us[i].out=(s:Int)
  ·have g2:¬0<=cg us[i].out 0 (us.take i):=by rw[h0]at g;exact g
   rw[pS]at g2;rw[e]at g2;simp only[e,decide_true,if_true];omega
  simp[e,decide_false,aeu,if_false];omega
def RT{n:Nat}{us:List bO}(h1:1<=n)(ho:∀u∈us,1<=u.out/\u.out<n):((Ib n us).2=true↔vF n us)/\((Ib n us).2=true->(Ib n us).1=L4 n us):=by have:=NR n us h1 ho 0 (List.replicate n<|-1) (abC _) (by simp) (λs hs=>by simp[hs,dY,cg]) (λs=>by simp);simpa[Ib]using this
def f0:Fr:=⟨⟨0,none⟩,⟨1,none⟩⟩
instance:Inhabited Fr:=⟨f0⟩
def Z3:gT f0 0:=⟨by simp[f0,a8],by simp[f0,a8],rfl,rfl⟩
noncomputable def ER(n:Nat)(us:List bO):List Fr:=us.foldl (λ(o:List Fr)u=>o.set u.out.toNat<|fX<|bI u.k)<|List.replicate n f0
def LG(n:Nat)(us:List bO):(ER n us).length=n:=by
 unfold ER;have:∀(us:List bO)(o:List Fr),(us.foldl (λ(o:List Fr)u=>o.set u.out.toNat<|fX<|bI u.k) o).length=o.length:=by
  intro us
  induction us with
  |nil=>intro o;rfl
  |cons u us ih=>intro o;rw[aeK,ih];simp
 rw[this];simp
def Sd{n:Nat}{us:List bO}{i:Nat}(h:i<us.length):ER n (us.take<|i+1)=(ER n<|us.take i).set us[i].out.toNat (fX<|bI us[i].k):=by unfold ER;rw[ac6 h,afW];rfl
def x0:SV:=.agg [.i 0,.nil,.i 1,.nil]
def map_unit{x:SV}:∀n,au (List.replicate n x)=(List.replicate n ()).map λ_=>x.den
 |0=>rfl
 |n+1=>by simp[ag7,au,map_unit n]
def QL(n:Nat)(h0:1<=n)(hn:n<2^20):aL Tryz.prog 230 [.row false 4 [eF f0],.i n] (.bT true 4 () (λ_=>x0)<|List.replicate n ()):=(QK x0 rfl rfl n h0 hn).same rfl (by simp only[SV.den];rw[map_unit])
def Y8(p:kx)(h:ye p)(n:Nat)(hn:p.n=n)(h1:1<=n)(UH:n<2^20)(hu:∀u∈p.aa,jc p.n u):aL Tryz.prog 163 [bh p] (.bT true 4 f0 eF<|ER n p.aa):=by
 have hl:=h.aa;refine bE Tryz.func163 rfl<|r0 rfl<|bG rfl (f_s 0) rfl<|r0 rfl ?_;have hr:=QL n h1 UH;rw[<-hn]at hr;refine VM rfl rfl ao hr rfl ⟨λ_=>rfl,ao⟩<|k0 rfl (by kernel_rfl)<|Kd [(3,.bT true 4 f0 eF<|List.replicate n f0),(12,.bT false 5 default dM p.aa),(13,.i p.aa.length),(14,.i 0)] ⟨⟨rfl,rfl,.bT ?_⟩,⟨rfl,rfl,.refl _⟩,⟨rfl,rfl,.refl _⟩,⟨rfl,rfl,.refl _⟩,ao⟩ ?_
 ·rw[aiw,aiw];exact qp.rep (.agg<|.cons (.refl _)<|.cons (.le<|show an .nil (.fe .u64 [])from rfl)<|.cons (.refl _)<|.cons (.le<|show an .nil (.fe .u64 [])from rfl) .nil) n
 refine loop (λi:Nat=>[(3,.bT true 4 f0 eF<|ER n<|p.aa.take i),(12,.bT false 5 default dM p.aa),(13,.i p.aa.length),(14,.i i)]) (λi=>i<=p.aa.length) (λi=>p.aa.length-i) 0 (abC _) ⟨ab,ab,ab,ab,ao⟩ ?_;intro i hi;refine r0 rfl<|bH rfl (λg1=>?_) (λg1=>?_)
 ·have aZ:i<p.aa.length:=by omega
  have ei:(i:Int).toNat=i:=by omega
  have eg:p.aa.getD i default=p.aa[i]:=aw aZ;have hv:=hu _<|ab9 aZ;have ho:=hv.out;have hlen:=LG n<|p.aa.take i;refine r1 rfl (by simp[ag,and_true,ei];omega) ?_;rw[ei,eg];refine bG rfl (qW hv.k) rfl<|k1 rfl (by kernel_rfl) (by simp[ag,and_true,hlen]<;>omega) ?_;refine again (i+1) (by omega) (by omega) ⟨⟨rfl,?_⟩,ab,ab,ab,ao⟩;refine⟨rfl,rfl,?_⟩;rw[Sd aZ,afQ];exact jd.refl _
 refine r0 rfl<|aG rfl<|an.of_eq ?_;rw[acR<|by omega];rfl
def Of(l:List bK):aL Tryz.prog 232 [.strs false l] (.fn (.func 260) [] [.box false<|.strs false l]):=by
 refine bE Tryz.func232 rfl<|b8 1 [(1,.box true<|.strs false l)] True ?_ λ_=>?_
 ·refine r0 rfl<|aP ao ⟨ab,ao⟩
 refine qB (r:=1) (p:=[]) rfl rfl ao<|r0 rfl<|bB rfl
def LK(l:List bK)(hl:l.length<2^40)(C:Value->Prop)(J:Nat->pk)(hy:∀v,C v->∀k,k<l.length->Yields Tryz.prog (J k) (J<|k+1) (au [.i ((l.length-1-k:Nat):Int),.s<|l.getD (l.length-1-k) []]) true v):
 lp Tryz.prog 260 [.abs<|J 0] [.pv C,.box false<|.strs false l] [.abs<|J l.length] (.bX []):=by
 refine vD (fn:=Tryz.f260) Tryz.func260 rfl rfl rfl rfl rfl<|r1 rfl (by simp[ag];omega) ?_;refine loop (λk:Nat=>[(0,.pv C),(1,.box false<|.strs false l),(3,.i<|l.length-1-k),(1000000,.abs<|J k)]) (λk=>k<=l.length) (λk=>l.length-k) 0 (abC _) ⟨ab,ab,⟨rfl,an.of_eq<|congrArg SV.i<|by omega⟩,rfl,ao⟩ ?_;intro k hk;refine r0 rfl<|bH rfl (λg=>?_) (λg=>?_)
 ·have gp:k<l.length:=by omega
  have e1:((l.length:Int)-1-k)=((l.length-1-k:Nat):Int):=by omega
  rw[e1];refine r1 rfl (by simp[ag];omega) ?_;refine yk rfl rfl ao (λv hv=>hy v hv k gp) rfl<|r0 rfl<|nB rfl rfl rfl (λh=>by cases h) λ_=>?_;refine r1 rfl (by simp[ag,and_true];omega) ?_;refine again (k+1) (by omega) (by omega) ⟨ab,ab,⟨rfl,an.of_eq<|congrArg SV.i<|by omega⟩,rfl,ao⟩
 have:k=l.length:=by omega
 subst this;refine r0 rfl<|Xf [(1000000,.abs<|J l.length)] ⟨rfl,ao⟩ rfl ao ⟨ab,ao⟩
noncomputable def Om(x:Fr)(cs:List bK):Fr:=cs.foldr (λc s=>Ol (TQ s x)<|fX<|bI c) f0
def Z1:rQ f0 1:=⟨gJ (m:=0)<|by decide,gJ (m:=1)<|by decide⟩
def zC{x:Fr}{q:Rat}(hx:gT x q){L:Nat}(lx:rQ x L):∀{cs:List bK},(∀c∈cs,aJ c=0)->gT (Om x cs) (uA q<|cs.map bI)/\rQ (Om x cs) (cs.length*(L+601)+1)
 |[],_=>⟨Z3,by simpa[Om]using Z1⟩
 |c::cs,h=>by
  obtain⟨h1,h2⟩:=zC hx lx (cs:=cs) λc hc=>h c (by simp[hc]);obtain⟨h3,h4⟩:=tM _ _ h1 hx h2 lx;obtain⟨h5,h6⟩:=Sh _ _ h3 (dL<|bI c) h4<|fH<|h c<|by simp
  refine⟨h5,KT h6 ?_⟩;rw[acU,aiv];omega
def WK(cs:List bK)(hc:∀c∈cs,aJ c=0)(hl:cs.length<2^10)(x:Fr){q:Rat}(hx:gT x q){L:Nat}(lx:rQ x L)(hL:L<2^20):aL Tryz.prog 164 [.strs false cs,eF x] (eF<|Om x cs):=by
 refine bE Tryz.func164 rfl<|r0 rfl<|bF rfl (f_s 0) rfl<|r0 rfl<|bF rfl (Of cs) rfl<|r0 rfl<|Cb [5,3] [5,3] cs.length cs.length (λk=>[.i ((cs.length-1-k:Nat):Int),.s<|cs.getD (cs.length-1-k) []]) (λk=>[.box true<|eF<|Om x<|cs.drop<|cs.length-k,.box true<|eF x]) (λ_=>true) (λ_=>none) (.bX [])
  rfl rfl rfl rfl rfl Tryz.func260 rfl rfl rfl rfl rfl rfl (λ_ _=>rfl) (λ_=>rfl) ?_ ?_ rfl (λ_ _ _=>rfl) (λC J hy=>LK cs (by omega) C J λv hv k hk=>hy v hv k hk λ_ _=>rfl) ?_ ?_ (λc h=>by cases h)
 ·intro k hk z hz;simp[aci,afH,or_false]at hz;rcases hz with rfl|rfl<;>rfl
 ·show[SV.box true<|eF<|Om x<|cs.drop<|cs.length-0,SV.box true<|eF x]=_;rw[ain,aey];rfl
 ·intro k hk _;have hk1:cs.length-1-k<cs.length:=by omega
  obtain⟨a1,a2⟩:=zC hx lx (cs:=cs.drop<|cs.length-k) λc h=>hc c<|afT h;have hlen:(cs.drop<|cs.length-k).length=k:=by simp;omega
  rw[hlen]at a2;have a3:k*(L+601)<=1024*(L+601):=adb _ (by omega);refine r0 rfl<|sn<|r0 rfl<|bF rfl (C5 _ _ a1 hx a2 lx<|by omega) rfl<|r0 rfl ?_;have hcj:=hc _<|ab9 hk1;refine Il (us:=[.s cs[cs.length-1-k]]) rfl rfl ao ⟨congrArg SV.s<|aw hk1,ao⟩ (qW hcj) rfl<|r0 rfl ?_;obtain⟨b1,b2⟩:=tM _ _ a1 hx a2 lx;refine bF rfl (acp _ _ b1 (dL _) b2 (fH hcj)<|by omega) rfl<|r0 rfl ?_;have e1:cs.drop (cs.length-(k+1))=cs[cs.length-1-k]::cs.drop (cs.length-k):=by
   have e2:cs.length-(k+1)=cs.length-1-k:=by omega
   have e3:cs.length-k=cs.length-1-k+1:=by omega
   rw[e2,e3,ac4 hk1]
  refine An [(1000000,.box true<|eF<|Om x<|cs.drop<|cs.length-(k+1)),(1000001,.box true<|eF x)] rfl rfl ⟨⟨rfl,rfl,?_⟩,⟨rfl,rfl,.refl _⟩,ao⟩ ⟨ab,ab,ao⟩;rw[e1];exact .refl _
 intro _;rw[agM,aeP];refine r0 rfl<|bB rfl
section
variable{fs:List EY}{L:List Int}{i:Nat}
def TS(p:kx)(L:List Int)(u:bO):aL Tryz.prog 229 [bh p,.ints .i64 false L,dM u] (.fn (.func 259) [] [.box false<|dM u,.box false<|.ints .i64 false L]):=by
 refine bE Tryz.func229 rfl<|b8 1 [(4,.box true<|.ints .i64 false L),(5,.box true<|dM u)] True ?_ λ_=>?_
 ·refine r0 rfl<|aP ao ⟨ab,ab,ao⟩
 refine qB (r:=4) (p:=[]) rfl rfl ao<|qB (r:=5) (p:=[]) rfl rfl ao<|r0 rfl<|bB rfl
def O3(u:bO):aL Tryz.prog 254 [dM u] (.bT false 2 default pd u.ah):=by refine bE Tryz.func254 rfl<|r0 rfl<|bB rfl
def XP(u:bO)(h:1<=u.ah.length):aL Tryz.prog 255 [dM u] (.bT false 2 default pd<|u.ah.drop 1):=by refine bE Tryz.func255 rfl<|r1 rfl (by simp[ag];omega) ?_;have e:(u.ah.drop (1:Int).toNat).take (u.ah.length-(1:Int).toNat)=u.ah.drop 1:=acR (by simp);exact aG rfl<|an.of_eq<|congrArg (SV.bT false 2 default pd) e
def mh(L:List Int)(fs:List EY):List Int:=(fs.map λf=>L.getD f.sh.toNat 0).filter λi=>decide (0<=i)
def FM(h:i<fs.length):mh L (fs.take<|i+1)=mh L (fs.take i)++if 0<=L.getD fs[i].sh.toNat 0 then[L.getD fs[i].sh.toNat 0]else[]:=by
 unfold mh;rw[ac6 h,ac9,List.filter_append];by_cases g:0<=L.getD fs[i].sh.toNat 0
 ·rw[if_pos g];simp only[ado,afI,List.filter_cons,decide_eq_true g,if_true,List.filter_nil]
 rw[if_neg g];simp only[ado,afI,List.filter_cons,decide_eq_false g,aeu,if_false,List.filter_nil]
def MT(h:i<fs.length):mh L fs=mh L (fs.take i)++((if 0<=L.getD fs[i].sh.toNat 0 then[L.getD fs[i].sh.toNat 0]else[])++mh L (fs.drop<|i+1)):=by rw[<-acV,<-FM h];unfold mh;rw[<-List.filter_append,<-ac9,ahg]
def Wi(b:Nat->Bool)(n m:Nat):Prop:=(∀k,k<n->(∀j,j<k->b j=true)->b k=false->m=k+1)/\((∀k,k<n->b k=true)->m=n)
def Rb(u:bO)(hu:UOk u){n:Int}(hv:jc n u)(L:List Int)(hL:n<=L.length)(b:Nat->Bool)(m:Nat)(hm:Wi b (mh L<|cH u).length m)(C:Value->Prop)(J:Nat->pk)
 (hy:∀v,C v->∀k,k<(mh L<|cH u).length->(∀j,j<k->b j=true)->Yields Tryz.prog (J k) (J<|k+1) (au [.i<|(mh L<|cH u).getD k 0]) (b k) v):
 lp Tryz.prog 259 [.abs<|J 0] [.pv C,.box false<|dM u,.box false<|.ints .i64 false L] [.abs<|J m] (.bX []):=by
 have bt:=hu.ah;have Kq:(cH u).length<2^40:=by unfold cH;split<;>simp<;>omega
 have UQ:∀f∈cH u,0<=f.sh/\f.sh<n:=λf hf=>by
  have:f∈u.ah:=by
   unfold cH at hf;split at hf
   ·exact afT hf
   exact hf
  have:=hv.feed f this;exact⟨this.1,this.2.1⟩
 refine vD (fn:=Tryz.f259) Tryz.func259 rfl rfl rfl rfl rfl<|b8 1 [(0,.pv C),(1,.box false<|dM u),(2,.box false<|.ints .i64 false L),(13,.bT false 2 default pd<|cH u),(14,.i (cH u).length),(15,.i 0),(1000000,.abs<|J 0)] True ?_ λ_=>?_
 ·refine r0 rfl<|bG rfl O2 rfl<|r0 rfl ?_;rcases hv.kind with h|h|h
  ·have LY:cH u=u.ah.drop 1:=by unfold cH;rw[if_pos h]
   refine Wp kI rfl rfl rfl (fW (k:=u.kind) (x:=kI) Tryz.underlying297 Tryz.underlying9 (by rw[h];exact KP) rfl false) rfl ?_;refine r0 rfl<|bG rfl (XP u (by have:=(hv.int h).1;omega)) rfl ?_;refine k0 rfl (by kernel_rfl) ?_;rw[<-LY];exact aP ao ⟨ab,ab,ab,ab,ab,ab,rfl,ao⟩
  ·have LY:cH u=u.ah:=by unfold cH;rw[if_neg<|by rw[h];exact BC.symm]
   refine Wp kA rfl rfl rfl (fW (k:=u.kind) (x:=kA) Tryz.underlying297 Tryz.underlying9 (by rw[h];exact KQ) rfl false) rfl ?_;refine r0 rfl<|bG rfl (O3 u) rfl<|k0 rfl (by kernel_rfl) ?_;rw[<-LY];exact aP ao ⟨ab,ab,ab,ab,ab,ab,rfl,ao⟩
  have LY:cH u=u.ah:=by unfold cH;rw[if_neg<|by rw[h];exact wQ.symm]
  refine Wp kT rfl rfl rfl (fW (k:=u.kind) (x:=kT) Tryz.underlying297 Tryz.underlying9 (by rw[h];exact KO) rfl false) rfl ?_;refine r0 rfl<|bG rfl (O3 u) rfl<|k0 rfl (by kernel_rfl) ?_;rw[<-LY];exact aP ao ⟨ab,ab,ab,ab,ab,ab,rfl,ao⟩
 generalize cH u=fs at*;refine r0 rfl<|loop (λi:Nat=>[(0,.pv C),(2,.box false<|.ints .i64 false L),(13,.bT false 2 default pd fs),(14,.i fs.length),(15,.i i),(1000000,.abs<|J (mh L<|fs.take i).length)]) (λi=>i<=fs.length/\∀j,j<(mh L<|fs.take i).length->b j=true) (λi=>fs.length-i) 0 ⟨abC _,λj hj=>by simp[mh]at hj⟩ ⟨ab,ab,ab,ab,ab,rfl,ao⟩ ?_;rintro i⟨hi,hb⟩;refine r0 rfl<|bH rfl (λg=>?_) (λg=>?_)
 ·have aZ:i<fs.length:=by omega
  have ei:(i:Int).toNat=i:=by omega
  have eg:fs.getD i default=fs[i]:=aw aZ;obtain⟨f1,f2⟩:=UQ _<|ab9 aZ;have hs:=FM (L:=L) aZ;have qm:=MT (L:=L) aZ;refine r1 rfl (by simp only[ag,and_true,ei,eg];omega) ?_;rw[ei,eg];obtain⟨c,hc⟩:∃c,c=(mh L<|fs.take i).length:=⟨_,rfl⟩;rw[<-hc]at hb⊢;refine aC 26 rfl (λg2=>?_) (λg2=>?_)
  ·have g2:0<=L.getD fs[i].sh.toNat 0:=g2;rw[if_pos g2]at hs qm;have hcn:c<(mh L fs).length:=by rw[qm];simp;omega
   have gE:(mh L fs).getD c 0=L.getD fs[i].sh.toNat 0:=by rw[qm,aca,adX<|by omega,hc];simp
   refine r0 rfl<|yk rfl rfl ao (λv hv=>by have:=hy v hv c hcn hb;rw[gE]at this;exact this) rfl ?_;refine r0 rfl<|nB rfl rfl rfl (λg3=>?_) (λg3=>?_)
   ·have g3:b c=false:=by simpa using g3
    have:=hm.1 c hcn hb g3;subst this;refine r0 rfl<|Xf [(1000000,.abs<|J<|c+1)] ⟨rfl,ao⟩ rfl ao ⟨ab,ao⟩
   have g3:b c=true:=by simpa using g3
   refine r1 rfl (by simp[ag,and_true];omega) ?_;have hlen:(mh L<|fs.take<|i+1).length=c+1:=by rw[hs,acW,<-hc];rfl
   refine again (i+1) (by omega) ⟨by omega,λj hj=>?_⟩ ⟨ab,ab,ab,ab,ab,?_,ao⟩
   ·rw[hlen]at hj;by_cases e:j=c
    ·rw[e];exact g3
    exact hb j (by omega)
   rw[hlen];rfl
  have g2:¬0<=L.getD fs[i].sh.toNat 0:=g2;rw[if_neg g2,adw]at hs;refine r1 rfl (by simp[ag,and_true];omega) ?_;refine again (i+1) (by omega) ⟨by omega,λj hj=>?_⟩ ⟨ab,ab,ab,ab,ab,?_,ao⟩
  ·rw[hs,<-hc]at hj;exact hb j hj
  rw[hs,<-hc];rfl
 have:i=fs.length:=by omega
 subst this;rw[adF]at hb⊢;have:=hm.2 hb;subst this;refine r0 rfl<|Xf [(1000000,.abs<|J (mh L fs).length)] ⟨rfl,ao⟩ rfl ao ⟨ab,ao⟩
end
def Gp(b:Nat->Bool):∀n,∃m,Wi b n m/\(((∀k,k<n->b k=true)/\m=n)\/∃k,k<n/\m=k+1/\b k=false/\∀j,j<k->b j=true)
 |0=>⟨0,⟨λk hk=>by omega,λ_=>rfl⟩,.inl ⟨λk hk=>by omega,rfl⟩⟩
 |n+1=>by
  obtain⟨m,h1,h2⟩:=Gp b n;rcases h2 with⟨h2,rfl⟩|⟨k,k1,rfl,k3,k4⟩
  ·cases hb:b m with
   |true=>
    have jj:∀k,k<m+1->b k=true:=λk hk=>by
     by_cases e:k=m
     ·rw[e];exact hb
     exact h2 k (by omega)
    exact⟨m+1,⟨λk hk hj hf=>by rw[jj k hk]at hf;simp at hf,λ_=>rfl⟩,.inl ⟨jj,rfl⟩⟩
   |false=>
    refine⟨m+1,⟨λk hk hj hf=>?_,λh=>absurd (h m<|by omega)<|by rw[hb];simp⟩,.inr ⟨m,by omega,rfl,hb,h2⟩⟩;by_cases e:k=m
    ·rw[e]
    have:=h2 k (by omega);rw[this]at hf;cases hf
  refine⟨k+1,⟨λk' gp hj hf=>?_,λh=>absurd (h k<|by omega)<|by rw[k3];simp⟩,.inr ⟨k,by omega,rfl,k3,k4⟩⟩;rcases aju k' k with e|e|e
  ·rw[k4 k' e]at hf;cases hf
  ·rw[e]
  rw[hj k e]at k3;cases k3
def DY(b:Nat->Bool):Nat->Bool
 |0=>true
 |k+1=>DY b k&&b k
def jM{b:Nat->Bool}:∀{k},DY b k=true↔∀j,j<k->b j=true
 |0=>by simp[DY]
 |k+1=>by
  simp[DY,jM (k:=k)];constructor
  ·rintro⟨h1,h2⟩j hj;by_cases e:j=k
   ·rw[e];exact h2
   exact h1 j (by omega)
  intro h;exact⟨λj hj=>h j<|by omega,h k<|by omega⟩
def Xj(p:kx)(u:bO)(hu:UOk u){n:Int}(hv:jc n u)(L:List Int)(hL:n<=L.length)(D:List Bool)(hD:∀x∈L,x<D.length):
 lp Tryz.prog 228 [.box true<|bh p,.box true<|.ints .i64 false L,.box true<|.b9 true D] [dM u,.bA 1000000 0 0 [],.bA 1000001 0 0 [],.bA 1000002 0 0 []]
  [.box true<|bh p,.box true<|.ints .i64 false L,.box true<|.b9 true D] (.u<|(mh L<|cH u).all λi=>D.getD i.toNat false):=by
 have dz:∀x∈mh L (cH u),0<=x/\x<D.length:=by
  intro x hx;unfold mh at hx;rw[List.mem_filter]at hx;obtain⟨h1,h2⟩:=hx;obtain⟨f,hf,rfl⟩:=ac0.1 h1;have hf':f∈u.ah:=by
   unfold cH at hf;split at hf
   ·exact afT hf
   exact hf
  have:=hv.feed f hf';have h3:f.sh.toNat<L.length:=by omega
  refine⟨by simpa using h2,?_⟩;rw[aca,acL h3];exact hD _<|ab9 h3
 obtain⟨ys,oy⟩:∃ys,ys=mh L (cH u):=⟨_,rfl⟩;obtain⟨b,hb⟩:∃b:Nat->Bool,b=λk=>D.getD (ys.getD k 0).toNat false:=⟨_,rfl⟩;obtain⟨m,hm,ZQ⟩:=Gp b ys.length;have jj:ys.all (λi=>D.getD i.toNat false)=DY b ys.length:=by
  rw[Bool.eq_iff_iff,jM,ade,hb];constructor
  ·intro h k hk;have:=h _<|ab9 hk;rw[<-aw (d:=(0:Int)) hk]at this;exact this
  intro h x hx;obtain⟨k,hk,rfl⟩:=aix.1 hx;have:=h k hk;dsimp only at this;rw[aw hk]at this;exact this
 rw[<-oy]at dz⊢;rw[jj];refine vD (fn:=Tryz.f228) Tryz.func228 rfl rfl rfl rfl rfl<|r0 rfl<|bF rfl (TS p L u) rfl<|r0 rfl<|Cb [5,1000002] [5,3] ys.length m (λk=>[.i<|ys.getD k 0]) (λ_=>[.box true<|.b false,.box true<|.b9 true D]) b (λk=>if DY b k=true then none else some .ret) (.bX [])
  rfl rfl rfl rfl rfl Tryz.func259 rfl rfl rfl rfl rfl rfl (λ_ _=>rfl) (λ_=>rfl) ?_ rfl rfl (λk _ h=>if_pos<|jM.2 h) (λC J hy=>Rb u hu hv L hL b m (by rw[<-oy];exact hm) C J<|by rw[<-oy];exact hy) ?_ ?_ ?_
 ·intro k hk z hz;simp[aci,afH,or_false]at hz;rcases hz with rfl|rfl<;>rfl
 ·intro k hk yc;have hx:=dz _<|ab9 hk;rw[<-aw (d:=(0:Int)) hk]at hx;have Yp:b k=D.getD (ys.getD k 0).toNat false:=by rw[hb]
  refine r0 rfl<|sn<|r1 rfl (by simp only[ag,and_true];omega) ?_;refine nB rfl rfl rfl (λg=>?_) (λg=>?_)
  ·have g:b k=false:=by rw[Yp];simpa using g
   refine r0 rfl<|adR [(1000000,.box true<|.b false),(1000001,.box true<|.b9 true D)] g (if_neg λh=>by rw[jM]at h;have:=h k (by omega);rw[g]at this;cases this) ⟨⟨rfl,rfl,.refl _⟩,⟨rfl,rfl,.refl _⟩,ao⟩ ⟨ab,ab,ao⟩
  have g:b k=true:=by rw[Yp];simpa using g
  refine r0 rfl<|An [(1000000,.box true<|.b false),(1000001,.box true<|.b9 true D)] g (if_pos (jM.2 λj hj=>by
   by_cases e:j=k
   ·rw[e];exact g
   exact yc j<|by omega)) ⟨⟨rfl,rfl,.refl _⟩,⟨rfl,rfl,.refl _⟩,ao⟩ ⟨ab,ab,ao⟩
 ·intro hp;have ha:DY b ys.length=true:=by
   rcases ZQ with⟨h1,h2⟩|⟨k,k1,rfl,k3,k4⟩
   ·exact jM.2 h1
   exfalso;by_cases e:DY b (k+1)=true
   ·have:=jM.1 e k (by omega);rw[k3]at this;cases this
   rw[if_neg e]at hp;cases hp
  rw[ha];refine r0 rfl<|Xf [(5,.box true<|.b true),(1000000,.box true<|bh p),(1000001,.box true<|.ints .i64 false L),(1000002,.box true<|.b9 true D)] ⟨⟨rfl,rfl,.refl _⟩,⟨rfl,rfl,.refl _⟩,⟨rfl,rfl,.refl _⟩,⟨rfl,rfl,.refl _⟩,ao⟩ rfl (show true=true from rfl) ⟨ab,ab,ab,ao⟩
 intro c hp;rcases ZQ with⟨h1,rfl⟩|⟨k,k1,rfl,k3,k4⟩
 ·rw[if_pos<|jM.2 h1]at hp;cases hp
 have e:¬DY b (k+1)=true:=λh=>by have:=jM.1 h k (by omega);rw[k3]at this;cases this
 rw[if_neg e,abr]at hp;have ha:DY b ys.length=false:=by
  cases h:DY b ys.length with
  |false=>rfl
  |true=>have:=jM.1 h k k1;rw[k3]at this;cases this
 rw[ha];refine⟨hp.symm,?_⟩;exact Xf [(5,.box true<|.b false),(1000000,.box true<|bh p),(1000001,.box true<|.ints .i64 false L),(1000002,.box true<|.b9 true D)] ⟨⟨rfl,rfl,.refl _⟩,⟨rfl,rfl,.refl _⟩,⟨rfl,rfl,.refl _⟩,⟨rfl,rfl,.refl _⟩,ao⟩ rfl (show false=false from rfl) ⟨ab,ab,ab,ao⟩
def mP(n:Nat)(O:List Int):List Bool:=(List.range n).map λ(i:Nat)=>decide ((i:Int)∈O)
def ze(n:Nat)(O:List Int):(mP n O).length=n:=by simp[mP]
def zf{n i:Nat}{O:List Int}(h:i<n):(mP n O).getD i false=decide ((i:Int)∈O):=by unfold mP;rw[aca,af1,ajr h];rfl
def RW{n i:Nat}{O:List Int}(h:i<n):(mP n O).set i true=mP n (O++[(i:Int)]):=by
 apply aih
 ·simp[mP]
 intro j k1 k2;simp[mP];by_cases e:i=j
 ·subst e;simp
 have:¬(j:Int)=(i:Int):=by omega
 simp[e,this]
def RX(n:Nat):mP n []=List.replicate n false:=by
 apply aih
 ·simp[mP]
 intro j k1 k2;simp[mP]
def Tp{us:List bO}{n:Nat}{O:List Int}{u:bO}(hn:∀f∈cH u,0<=f.sh/\f.sh<n):((mh (L4 n us)<|cH u).all λi=>(mP us.length O).getD i.toNat false)=(cH u).all (kP us O):=by
 generalize cH u=fs at*;rw[Bool.eq_iff_iff,ade,ade];have gE:∀f∈fs,(L4 n us).getD f.sh.toNat 0=dY us f.sh:=λf hf=>by
  have:=hn f hf;rw[Y3<|by omega]
  congr 1;omega
 constructor
 ·intro h f hf;unfold kP;rw[decide_eq_true_eq];by_cases g:dY us f.sh<0
  ·exact .inl g
  right;have hm:dY us f.sh∈mh (L4 n us) fs:=by unfold mh;rw[List.mem_filter];exact⟨ac0.2 ⟨f,hf,gE f hf⟩,by simpa using g⟩
  have h2:=h _ hm;have h3:=zb us f.sh;rw[zf<|by omega,decide_eq_true_eq]at h2;have:((dY us f.sh).toNat:Int)=dY us f.sh:=by omega
  rwa[this]at h2
 intro h x hx;unfold mh at hx;rw[List.mem_filter]at hx;obtain⟨h1,h2⟩:=hx;obtain⟨f,hf,rfl⟩:=ac0.1 h1;rw[gE f hf]at h2⊢;have h3:=h f hf;unfold kP at h3;rw[decide_eq_true_eq]at h3 h2;have h4:=zb us f.sh;rw[zf<|by omega,decide_eq_true_eq];have:((dY us f.sh).toNat:Int)=dY us f.sh:=by omega
 rw[this];rcases h3 with h3|h3
 ·omega
 exact h3
def Xq(p:kx)(h:ye p)(n:Nat)(hn:p.n=n)(hv:∀u∈p.aa,jc p.n u)(hlen:p.aa.length<=96):
 aL Tryz.prog 162 [bh p,.ints .i64 false<|L4 n p.aa] (.bX [.ints .i64 true<|if p.aa.length<=(az p.aa).length then az p.aa else[],.u<|decide (p.aa.length<=(az p.aa).length)]):=by
 have KG:(L4 n p.aa).length=n:=by simp[L4]
 have hD:∀x∈L4 n p.aa,x<(p.aa.length:Int):=by intro x hx;obtain⟨s,-,rfl⟩:=ac0.1 hx;exact zb _ _
 refine bE Tryz.func162 rfl<|r1 rfl (by simp only[ag,and_true];omega) ?_;refine mkf rfl rfl<|r0 rfl<|loop (λO:List Int=>[(2,.box true<|bh p),(3,.box true<|.ints .i64 false<|L4 n p.aa),(6,.ints .i64 true O),(7,.box true<|.b9 true<|mP p.aa.length O),(8,.fI 228 [(2,0),(3,0),(7,0)])])
  (λO=>O.Nodup/\(∀x∈O,0<=x/\x<p.aa.length)/\az p.aa=ee p.aa (p.aa.length+1-O.length) O) (λO=>p.aa.length-O.length) [] ⟨adn,by simp,rfl⟩
  ⟨ab,ab,ab,⟨rfl,an.of_eq<|by rw[RX];rfl⟩,ab,ao⟩ ?_
 rintro O⟨hO1,hO2,hO3⟩;have hOl:=wE hO1 hO2;refine r0 rfl<|bH rfl (λg=>?_) (λg=>?_)
 ·have g:O.length<p.aa.length:=by omega
  refine r0 rfl<|loop (λi:Nat=>[(2,.box true<|bh p),(3,.box true<|.ints .i64 false<|L4 n p.aa),(6,.ints .i64 true O),(7,.box true<|.b9 true<|mP p.aa.length O),(8,.fI 228 [(2,0),(3,0),(7,0)]),(23,.bT false 5 default dM p.aa),(24,.i p.aa.length),(25,.i i)])
   (λi=>i<=p.aa.length/\cU p.aa O 0=cU p.aa O i) (λi=>p.aa.length-i) 0 ⟨abC _,rfl⟩
   ⟨ab,ab,ab,ab,ab,ab,ab,ab,ao⟩ ?_
  rintro i⟨hi,LV⟩;refine r0 rfl<|bH rfl (λg1=>?_) (λg1=>?_)
  ·have aZ:i<p.aa.length:=by omega
   have ei:(i:Int).toNat=i:=by omega
   have eg:p.aa.getD i default=p.aa[i]:=aw aZ;have Us:=hv _<|ab9 aZ;rw[jH aZ]at LV;have x8:jT p.aa O i=(decide (¬(i:Int)∈O)&&(cH p.aa[i]).all (kP p.aa O)):=by unfold jT;rw[eg]
   rw[x8]at LV;refine r1 rfl (by simp only[ag,and_true,ei,ze];omega) ?_;rw[ei,eg,zf aZ];refine iF 35 rfl (λg2=>?_) (λg2=>?_)
   ·have g2:¬(i:Int)∈O:=by simpa using g2
    rw[decide_eq_true g2,adx]at LV;refine r0 rfl<|cc rfl rfl (Xj p p.aa[i] (h.unit _<|ab9 aZ) Us (L4 n p.aa) (by rw[KG,hn];omega) (mP p.aa.length O)<|by rw[ze];exact hD) rfl ?_;rw[Tp (O:=O) λf hf=>by
     have hf':f∈p.aa[i].ah:=by
      unfold cH at hf;split at hf
      ·exact afT hf
      exact hf
     have:=Us.feed f hf';rw[hn]at this;exact⟨this.1,this.2.1⟩]
    refine r0 rfl<|nB rfl rfl rfl (λg3=>?_) (λg3=>?_)
    ·rw[if_pos g3]at LV;have gu:¬cU p.aa O 0<0:=by rw[LV];omega
     obtain⟨q1,q2⟩:=wz hO1 hO2 gu;have hO4:az p.aa=ee p.aa (p.aa.length+1-(O++[(i:Int)]).length) (O++[(i:Int)]):=by
      have e:p.aa.length+1-O.length=(p.aa.length+1-(O++[(i:Int)]).length)+1:=by rw[acW,ajf];omega
      rw[hO3,e,ee,if_neg gu,LV]
     rw[LV]at q1 q2;refine r1 rfl (by simp only[ag,and_true,ei,ze];simp;omega) ?_;refine again (O++[(i:Int)]) (by simp;omega) ⟨q1,q2,hO4⟩ ⟨ab,ab,ab,⟨rfl,an.of_eq<|congrArg (SV.box true)<|congrArg (SV.b9 true) ?_⟩,ab,ao⟩;rw[ei,RW aZ]
    rw[if_neg<|by rw[g3];simp]at LV;refine r1 rfl (by simp only[ag,and_true];omega) ?_;refine again (i+1) (by omega) ⟨by omega,LV⟩ ⟨ab,ab,ab,ab,ab,ab,ab,ab,ao⟩
   have g2:(i:Int)∈O:=by simpa using g2
   rw[decide_eq_false λhh=>hh g2,Bool.false_and,if_neg<|by simp]at LV;refine r1 rfl (by simp only[ag,and_true];omega) ?_;refine again (i+1) (by omega) ⟨by omega,LV⟩ ⟨ab,ab,ab,ab,ab,ab,ab,ab,ao⟩
  rw[mX (j:=i)<|by omega]at LV;have hor:az p.aa=O:=by
   have e:p.aa.length+1-O.length=(p.aa.length-O.length)+1:=by omega
   rw[hO3,e,ee,if_pos<|by rw[LV];decide]
  rw[hor,if_neg<|by omega,decide_eq_false<|by omega];refine r0 rfl<|aG rfl ⟨rfl,rfl,ao⟩
 have hOe:O.length=p.aa.length:=by omega
 have hor:az p.aa=O:=by
  have e:p.aa.length+1-O.length=0+1:=by omega
  rw[hO3,e,ee];have:cU p.aa O 0<0:=by
   rcases oY p.aa O 0 with e|⟨i,-,-,h2,h3⟩
   ·rw[e];decide
   exfalso;unfold jT at h3;simp only[acd,decide_eq_true_eq]at h3;have:=wE (us:=p.aa) (out:=(i:Int)::O) (adm.2 ⟨h3.1,hO1⟩) (λx hx=>by
    rcases aci.1 hx with rfl|hx
    ·omega
    exact hO2 x hx)
   simp at this;omega
  rw[if_pos this]
 rw[hor,if_pos<|by omega,decide_eq_true<|by omega];refine r0 rfl<|aG rfl ⟨rfl,rfl,ao⟩
end Go.Ai.Pg
section
namespace Go.Ai.Pg
open Go.Proofs Go.Ai Go.Ai.cY
def agp{n:Nat}{us:List bO}(h:∀u∈us,aJ u.k=0)(s:Nat)(hs:s<n):gT ((ER n us).getD s f0) ((bW n us).getD s 0)/\rQ ((ER n us).getD s f0) 600:=by
 have key:∀(us:List bO)(o:List Fr)(q:List Rat),(∀u∈us,aJ u.k=0)->o.length=q.length->(∀s,s<o.length->gT (o.getD s f0) (q.getD s 0)/\rQ (o.getD s f0) 600)->
  (us.foldl (λ(o:List Fr)u=>o.set u.out.toNat<|fX<|bI u.k) o).length=o.length/\∀s,s<o.length->gT ((us.foldl (λ(o:List Fr)u=>o.set u.out.toNat<|fX<|bI u.k) o).getD s f0) ((us.foldl (λ(o:List Rat)u=>o.set u.out.toNat<|bI u.k) q).getD s 0)/\rQ ((us.foldl (λ(o:List Fr)u=>o.set u.out.toNat<|fX<|bI u.k) o).getD s f0) 600:=by
  intro us
  induction us with
  |nil=>intro o q _ _ h;exact⟨rfl,h⟩
  |cons u us ih=>
   intro o q hk hl h;have:=ih (o.set u.out.toNat<|fX<|bI u.k) (q.set u.out.toNat<|bI u.k) (λv hv=>hk v<|by simp[hv]) (by simpa using hl) (λs hs=>by
    rw[ae7]at hs;have hq:s<q.length:=by omega
    rw[aca,aca,ag2,ag2];by_cases e:u.out.toNat=s
    ·subst e;rw[if_pos rfl,if_pos rfl,if_pos hs,if_pos hq];exact⟨dL _,fH<|hk u<|by simp⟩
    rw[if_neg e,if_neg e];have:=h s hs;rwa[aca]at this)
   rw[ae7]at this;exact this
 have h0:=key us (List.replicate n f0) (List.replicate n 0) h (by simp) (λs hs=>by rw[aw hs,aw<|by simpa using hs,List.getElem_replicate,List.getElem_replicate];exact⟨Z3,KT Z1<|by decide⟩)
 exact h0.2 s (by simpa using hs)
open Classical in
def AP(p:kx)(h:ye p):aL Tryz.prog 83 [bh p] (.i<|dR p):=by
 have D8:=h.aa;have Nq:=h.ints;refine bE Tryz.func83 rfl<|b8 3 [(1,.box true<|bh p)] (1<=p.n/\p.n<=100/\p.aa.length<=96/\aK (fL p.n) p.aa=0) ?_ ?_
 ·have e1:p.n<1\/100<p.n->3=dR p:=λa=>by unfold dR;rw[if_pos a]
  have e2:¬(p.n<1\/100<p.n)->96<p.aa.length->5=dR p:=λa b=>by unfold dR;rw[if_neg a,if_pos b]
  have e3:¬(p.n<1\/100<p.n)->¬96<p.aa.length->aK (fL p.n) p.aa≠0->aK (fL p.n) p.aa=dR p:=λa b c=>by unfold dR;rw[if_neg a,if_neg b,if_pos c]
  refine r0 rfl<|aC 20 rfl (λg1=>?_) (λg1=>?_)
  ·refine r0 rfl<|bG rfl (nD true 3) rfl<|r0 rfl<|bG rfl (nD _ 5) rfl<|r0 rfl<|bG rfl (tQ _<|by simp) rfl<|k0 rfl (by kernel_rfl)<|bH rfl (λg2=>?_) λg2=>absurd (by simp[aK]) g2;refine r0 rfl<|aG rfl<|bC ?_;rw[<-e1 (.inl<|by omega)];simp[aK]
  refine r0 rfl<|bG rfl (nD _ 3) rfl<|r0 rfl<|bG rfl (nD _ 5) rfl<|r0 rfl<|bG rfl (tQ _<|by simp) rfl<|k0 rfl (by kernel_rfl)<|bH rfl (λg2=>?_) (λg2=>?_)
  ·refine r0 rfl<|aG rfl<|bC ?_;by_cases a:100<p.n
   ·rw[<-e1 (.inr a)];simp[aK,a]
   have b:96<p.aa.length:=by
    apply aeY;intro b;apply g2;have b':¬(96:Int)<p.aa.length:=by omega
    simp[aK,a,b']
   have b':(96:Int)<p.aa.length:=by omega
   rw[<-e2 (by omega) b];simp[aK,a,b']
  have g2:=ag0.1 g2;have a:¬100<p.n:=λa=>by simp[aK,a]at g2
  have b:¬96<p.aa.length:=λb=>by
   have b':(96:Int)<p.aa.length:=by omega
   simp[aK,a,b']at g2
  have e4:=e3 (by omega) b;refine r0 rfl<|loop (λi:Nat=>[(1,.box true<|bh p),(37,.bT false 5 default dM p.aa),(38,.i p.aa.length),(39,.i i)]) (λi=>i<=p.aa.length/\aK (fL p.n) p.aa=aK (fL p.n) (p.aa.drop i)) (λi=>p.aa.length-i) 0 ⟨abC _,rfl⟩ ⟨ab,ab,ab,ab,ao⟩ ?_;rintro i⟨hi,hf⟩;refine r0 rfl<|bH rfl (λh1=>?_) (λh1=>?_)
  ·have aZ:i<p.aa.length:=by omega
   have ei:(i:Int).toNat=i:=by omega
   have eg:p.aa.getD i default=p.aa[i]:=aw aZ;rw[dp _ aZ]at hf;refine r1 rfl (by simp only[ag,and_true,ei];omega) ?_;rw[ei,eg];refine bF rfl (Lx p _<|h.unit _<|ab9 aZ) rfl<|r0 rfl<|bH rfl (λh2=>?_) (λh2=>?_)
   ·rw[if_pos h2]at hf;refine r0 rfl<|aG rfl<|bC ?_;rw[<-e4 (by rw[hf];exact h2),hf]
   rw[if_neg h2]at hf;refine r1 rfl (by simp only[ag,and_true];omega) ?_;exact again (i+1) (by omega) ⟨by omega,hf⟩ ⟨ab,ab,ab,ab,ao⟩
  refine r0 rfl<|aP ⟨by omega,by omega,by omega,?_⟩ ⟨ab,ao⟩;rw[hf,ad3<|by omega];rfl
 rintro⟨n1,n2,X3,hz⟩;obtain⟨n,hn⟩:∃n:Nat,p.n=n:=⟨p.n.toNat,by omega⟩;have hv:∀u∈p.aa,jc p.n u:=λu hu=>qw<|dG.1 hz u hu;have En:∀u∈p.aa,1<=u.out/\u.out<n:=λu hu=>by have:=(hv u hu).out;omega
 have htn:p.n.toNat=n:=by omega
 have hN:dR p=if 24<p.ints.length then 5
  else if∃k∈p.ints,k<0\/p.n<=k then 10
  else if 24<c7 p.aa then 5
  else if¬vF n p.aa then 19
  else if(az p.aa).length<p.aa.length then 18
  else if∃u∈p.aa,conflict n p.aa u then 30 else 0:=by
  unfold dR;rw[if_neg<|by omega,if_neg<|by omega,if_neg<|by rw[hz];simp,htn]
 refine qB (r:=1) (p:=[]) rfl rfl ao<|b8 2 [(1,.box false<|bh p)] (¬24<p.ints.length/\(¬∃k∈p.ints,k<0\/p.n<=k)/\¬24<c7 p.aa) ?_ ?_
 ·refine r0 rfl<|bF rfl (Ls p p.ints<|by omega) rfl<|r0 rfl<|bG rfl (nD _ 5) rfl<|r0 rfl<|bG rfl (nD _ 10) rfl<|r0 rfl<|bG rfl (YR p h) rfl<|r0 rfl<|bG rfl (nD _ 5) rfl<|r0 rfl<|bG rfl (tQ _<|by simp) rfl<|k0 rfl (by kernel_rfl) ?_;by_cases a:24<p.ints.length
  ·have a':(24:Int)<p.ints.length:=by omega
   rw[if_pos a]at hN;refine bH rfl (λg=>?_) λg=>absurd (by simp[aK,a']) g;refine r0 rfl<|aG rfl<|bC ?_;rw[hN];simp[aK,a']
  have a':¬(24:Int)<p.ints.length:=by omega
  rw[if_neg a]at hN;by_cases b:∃k∈p.ints,k<0\/p.n<=k
  ·rw[if_pos b]at hN;have he:aK id [if decide ((24:Int)<p.ints.length)=true then 5 else 0,if decide (∃k∈p.ints,k<0\/p.n<=k)=true then 10 else 0,if decide ((24:Int)<c7 p.aa)=true then(5:Int)else 0]=10:=by
    rw[decide_eq_true b];simp[aK,a']
   refine bH rfl (λg=>?_) λg=>absurd (by rw[he];decide) g;refine r0 rfl<|aG rfl<|bC ?_;rw[hN];exact he
  rw[if_neg b]at hN;have he:aK id [if decide ((24:Int)<p.ints.length)=true then 5 else 0,if decide (∃k∈p.ints,k<0\/p.n<=k)=true then 10 else 0,if decide ((24:Int)<c7 p.aa)=true then(5:Int)else 0]=if 24<c7 p.aa then 5 else 0:=by
   rw[decide_eq_false b];by_cases c:24<c7 p.aa
   ·have c':(24:Int)<c7 p.aa:=by omega
    simp[aK,a',c,c']
   have c':¬(24:Int)<c7 p.aa:=by omega
   simp[aK,a',c,c']
  refine bH rfl (λg=>?_) (λg=>?_)
  ·refine r0 rfl<|aG rfl<|bC ?_;by_cases c:24<c7 p.aa
   ·rw[if_pos c]at hN he;rw[hN];exact he
   rw[if_neg c]at he;exact absurd he g
  have g:=ag0.1 g;refine r0 rfl<|aP ⟨a,b,λc=>?_⟩ ⟨ab,ao⟩;rw[if_pos c]at he;have g:aK id [if decide ((24:Int)<p.ints.length)=true then 5 else 0,if decide (∃k∈p.ints,k<0\/p.n<=k)=true then 10 else 0,if decide ((24:Int)<c7 p.aa)=true then(5:Int)else 0]=0:=g;rw[he]at g;simp at g
 rintro⟨a1,a2,a3⟩;rw[if_neg a1,if_neg a2,if_neg a3]at hN;obtain⟨d1,d2⟩:=RT (us:=p.aa) (n:=n) (by omega) En;refine r0 rfl<|bF rfl (RV p h n hn (by omega) (by omega) En) rfl<|r0 rfl<|nB rfl rfl rfl (λg=>?_) (λg=>?_)
 ·have g:(Ib n p.aa).2=false:=by simpa using g
  refine r0 rfl<|aG rfl<|bC ?_;rw[hN,if_pos λhd=>by rw[d1.2 hd]at g;simp at g]
 have g:(Ib n p.aa).2=true:=by simpa using g
 rw[if_neg λhd=>hd<|d1.1 g]at hN;rw[d2 g];refine r0 rfl<|bF rfl (Xq p h n hn hv X3) rfl<|r0 rfl<|nB rfl rfl rfl (λg2=>?_) (λg2=>?_)
 ·have g2:¬p.aa.length<=(az p.aa).length:=by simpa using g2
  refine r0 rfl<|aG rfl<|bC ?_;rw[hN,if_pos<|by omega]
 have g2:p.aa.length<=(az p.aa).length:=by simpa using g2
 rw[if_neg<|by omega]at hN;refine r0 rfl<|bF rfl (Y8 p h n hn (by omega) (by omega) hv) rfl<|r0 rfl<|loop (λi:Nat=>[(13,.bT true 4 f0 eF<|ER n p.aa),(88,.bT false 5 default dM p.aa),(89,.i p.aa.length),(90,.i i)]) (λi=>i<=p.aa.length/\¬∃u∈p.aa.take i,conflict n p.aa u) (λi=>p.aa.length-i) 0 ⟨abC _,by simp⟩ ⟨ab,ab,ab,ab,ao⟩ ?_;rintro i⟨hi,gu⟩;refine r0 rfl<|bH rfl (λh1=>?_) (λh1=>?_)
 ·have aZ:i<p.aa.length:=by omega
  have ei:(i:Int).toNat=i:=by omega
  have eg:p.aa.getD i default=p.aa[i]:=aw aZ;have Us:=hv _<|ab9 aZ;refine r1 rfl (by simp only[ag,and_true,ei];omega) ?_;rw[ei,eg];refine bH rfl (λh2=>?_) (λh2=>?_)
  ·have h2:p.aa[i].kind=dQ:=h2;have ht:=Us.table h2;have Er:p.aa[i].ah.getD 0 default∈p.aa[i].ah:=by rw[aw<|by omega];exact ab9 _
   have hfd:=Us.feed _ Er;have KG:=LG n p.aa;obtain⟨b1,b2⟩:=agp (n:=n) (us:=p.aa) (λu hu=>(hv u hu).k) (p.aa[i].ah.getD 0 default).sh.toNat (by omega);refine r1 rfl (by simp only[ag,and_true];omega) ?_;refine bG rfl (qW hfd.2.2.1) rfl<|r1 rfl (by simp only[ag,and_true,KG,Int.toNat_zero];omega) ?_;obtain⟨m1,m2⟩:=tM _ _ (dL<|bI (p.aa[i].ah.getD 0 default).dU) b1 (fH hfd.2.2.1) b2;refine bG rfl (C5 _ _ (dL _) b1 (fH hfd.2.2.1) b2<|by decide) rfl<|k0 rfl (by kernel_rfl)<|bG rfl (WK _ Us.dD (by omega) _ m1 m2<|by decide) rfl<|r0 rfl<|bG rfl (qW Us.k) rfl<|r0 rfl ?_;obtain⟨v1,v2⟩:=zC m1 m2 (cs:=p.aa[i].dD) Us.dD;refine bG rfl (YC _ _ v1 (dL<|bI p.aa[i].k) v2 (fH Us.k) (by have:p.aa[i].dD.length*(600+600+601)<=13*(600+600+601):=adb _ ht.2.2;omega)) rfl ?_;refine k0 rfl (by kernel_rfl) ?_;have gw:conflict n p.aa p.aa[i]↔¬uA (bI (p.aa[i].ah.getD 0 default).dU*(bW n p.aa).getD (p.aa[i].ah.getD 0 default).sh.toNat 0) (p.aa[i].dD.map bI)=bI p.aa[i].k:=⟨λhc e=>hc.2 e.symm,λdc=>⟨h2,λe=>dc e.symm⟩⟩
   refine nB rfl rfl rfl (λg3=>?_) (λg3=>?_)
   ·simp only[agq,decide_eq_false_iff_not]at g3;refine r0 rfl<|aG rfl<|bC ?_;rw[hN,if_pos ⟨_,ab9 aZ,gw.2 g3⟩]
   simp only[Bool.not_eq_false',decide_eq_true_eq]at g3;refine r1 rfl (by simp only[ag,and_true];omega) ?_;exact again (i+1) (by omega) ⟨by omega,jI aZ gu λhc=>gw.1 hc g3⟩ ⟨ab,ab,ab,ab,ao⟩
  have h2:¬p.aa[i].kind=dQ:=h2;refine r1 rfl (by simp only[ag,and_true];omega) ?_;exact again (i+1) (by omega) ⟨by omega,jI aZ gu λhc=>h2 hc.1⟩ ⟨ab,ab,ab,ab,ao⟩
 refine r0 rfl<|aG rfl<|bC ?_;rw[acR<|by omega]at gu;rw[hN,if_neg gu]
end Go.Ai.Pg
end
namespace Go.Ai.Pg
open Go.Proofs Go.Ai Go.Ai.cY
section
variable{K:Nat}{q:Rat}
def tf(q:Rat):(0:Rat)<((q.den:Int):Rat):=by have:=q.den_pos;exact Rat.intCast_pos.2 (by omega)
def aak(q:Rat):q*((q.den:Int):Rat)=(q.num:Rat):=by
 have hd:=tf q;have h:=Rat.num_divInt_den q;rw[ajn]at h;have hn:((q.den:Int):Rat)≠0:=λe=>by rw[e]at hd;simp_all
 have:(q.num:Rat)/((q.den:Int):Rat)*((q.den:Int):Rat)=q.num:=Rat.div_mul_cancel hn;rw[h]at this;exact this
def pr(k:Nat):(((2:Int)^k:Int):Rat)=(2:Rat)^k:=by
 induction k with
 |zero=>rfl
 |succ k ih=>rw[adf,agY,<-ih,ahh];rfl
def QQ(k:Nat)(q:Rat):(2:Rat)^k<=q↔(2:Int)^k*q.den<=q.num:=by
 have hd:=tf q;have he:=aak q;rw[<-aiN,ahh,pr];constructor
 ·intro h;have:=Rat.mul_le_mul_of_nonneg_right h<|aeU hd;rw[he]at this;exact this
 intro h;rw[<-he]at h;exact ajw h hd
def QP(k:Nat)(q:Rat):((2:Rat)^k)⁻¹ <=q↔(q.den:Int)<=(2:Int)^k*q.num:=by
 have hd:=tf q;have he:=aak q;have ht:=pD k;rw[<-aiN,ahh,pr,<-he];generalize (2:Rat)^k=t at*;generalize ((q.den:Int):Rat)=d at*;have hi:=Rat.mul_inv_cancel t (λe=>by rw[e]at ht;exact absurd ht<|by decide);constructor
 ·intro h;have h1:=ahl h<|aeU ht;rw[hi]at h1;have h2:=Rat.mul_le_mul_of_nonneg_right h1<|aeU hd
  grind
 intro h;have h1:(1:Rat)*d<=(t*q)*d:=by grind
 have h2:=ajw h1 hd;have h3:=ahl h2<|aeU<|ahS.2 ht;have h4:t⁻¹ *(t*q)=q:=by rw[<-aiB,ahT t⁻¹ t,hi,Rat.one_mul]
 rw[h4,Rat.mul_one]at h3;exact h3
def Hg(n:Nat):fj (yx ⟨2,none⟩ n) (n+1):=by
 have h2:=show(-9223372036854775808:Int)<=2/\(2:Int)<=9223372036854775807 by decide
 obtain⟨e,-⟩:=pC ⟨2,none⟩ n h2;unfold fj;rw[e];show(cY.ae ((2:Int)^n).natAbs).length<=n+1;have e2:((2:Int)^n).natAbs=2^n:=by rw[Int.natAbs_pow];rfl
 rw[e2];clear e e2
 induction n with
 |zero=>exact gJ (by decide)
 |succ n ih=>rw[ady];have h1:=cY.dK (2^n) 2;have h3:(cY.ae 2).length<=1:=gJ (by decide);omega
def acq(f:Fr)(hf:gT f q)(lf:rQ f K)(hK:K<2^20)(k:Int)(hk: -1048576<k/\k<1048576):aL Tryz.prog 114 [.i k,.box false<|eF f] (.u<|decide (iC k<=q)):=by
 have h2:a8 ⟨2,none⟩:=show(-9223372036854775808:Int)<=2/\(2:Int)<=9223372036854775807 by decide
 refine bE Tryz.func114 rfl<|r0 rfl ?_;have gD:fj ⟨2,none⟩ 1:=gJ (m:=2) (by decide);refine bH rfl (λg=>?_) (λg=>?_)
 ·obtain⟨j,rfl⟩:∃j:Nat,k=j:=⟨k.toNat,by omega⟩;obtain⟨p1,p2⟩:=pC ⟨2,none⟩ j h2;obtain⟨m1,m2⟩:=cB (yx ⟨2,none⟩ j) f.d p2 hf.d;have hz:=fV p2 hf.d (Hg j) lf.2;refine r0 rfl<|bG rfl (JK 2) rfl<|r0 rfl<|bG rfl (Tw _ j h2 gD (by omega)<|by omega) rfl<|r0 rfl<|bG rfl (rE _ f.d p2 hf.d (Hg j) lf.2<|by omega) rfl<|r0 rfl<|bG rfl (VE _ f.n m2 hf.n hz (dw lf.1<|show K<=j+1+K by omega)<|by omega) rfl<|k0 rfl (by kernel_rfl)<|aG rfl<|an.of_eq<|congrArg SV.u ?_;rw[decide_eq_decide];have e:iC (j:Int)=(2:Rat)^j:=by unfold iC;rw[if_neg<|by omega];rfl
  rw[e,QQ,m1,p1,hf.vd,hf.vn,show nv ⟨2,none⟩=2 from rfl];show Int.sign _<=0↔_;rw[Int.sign_nonpos_iff];constructor<;>intro h<;>omega
 obtain⟨j,rfl⟩:∃j:Nat,k= -(j:Int):=⟨(-k).toNat,by omega⟩;obtain⟨p1,p2⟩:=pC ⟨2,none⟩ j h2;obtain⟨m1,m2⟩:=cB (yx ⟨2,none⟩ j) f.n p2 hf.n;have hz:=fV p2 hf.n (Hg j) lf.1;refine r0 rfl<|bG rfl (JK 2) rfl<|r1 rfl (by simp[ag,and_true]<;>omega) ?_;refine dk (us:=[eN ⟨2,none⟩,.i j]) rfl rfl ao ⟨⟨rfl,rfl,ao⟩,congrArg SV.i<|by omega,ao⟩ (Tw _ j h2 gD (by omega)<|by omega) rfl<|r0 rfl<|bG rfl (rE _ f.n p2 hf.n (Hg j) lf.1<|by omega) rfl<|r0 rfl<|bG rfl (VE f.d _ hf.d m2 (dw lf.2<|show K<=j+1+K by omega) hz<|by omega) rfl<|k0 rfl (by kernel_rfl)<|aG rfl<|an.of_eq<|congrArg SV.u ?_;rw[decide_eq_decide];have e:iC (-(j:Int))=((2:Rat)^j)⁻¹ :=by unfold iC;rw[if_pos<|by omega];congr 2;omega
 rw[e,QP,m1,p1,hf.vd,hf.vn,show nv ⟨2,none⟩=2 from rfl];show Int.sign _<=0↔_;rw[Int.sign_nonpos_iff];constructor<;>intro h<;>omega
def Qd(h:0<q.num):iC ((bl q.num.natAbs:Int)-bl q.den-1)<=q:=by
 have hd:=tf q;have he:=aak q;have hN:2^(bl q.num.natAbs-1)<=q.num.natAbs:=xO (by omega);have hD:=LF q.den;have hb:=zu (x:=q.num.natAbs) (by omega);have e1:iC ((bl q.num.natAbs:Int)-bl q.den-1)*(2:Rat)^bl q.den=(2:Rat)^(bl q.num.natAbs-1):=by rw[<-kd];unfold iC;rw[if_neg<|by omega];congr 1;omega
 have h1:((q.den:Int):Rat)<=(2:Rat)^bl q.den:=by
  rw[<-pr];refine aiN.2 ?_;have e:((2^bl q.den:Nat):Int)=(2:Int)^bl q.den:=by norm_cast
  omega
 have h2:(2:Rat)^(bl q.num.natAbs-1)<=(q.num:Rat):=by
  rw[<-pr];refine aiN.2 ?_;have e:((2^(bl q.num.natAbs-1):Nat):Int)=(2:Int)^(bl q.num.natAbs-1):=by norm_cast
  omega
 have h3:=ahl h1<|aeU<|tD<|(bl q.num.natAbs:Int)-bl q.den-1;rw[e1]at h3;have h4:=agH h3 h2;rw[<-he]at h4;exact ajw h4 hd
def Qe(h:0<q.num):¬iC ((bl q.num.natAbs:Int)-bl q.den+1)<=q:=by
 intro hle;have hd:=tf q;have he:=aak q;have hD:2^(bl q.den-1)<=q.den:=xO (by have:=q.den_pos;omega);have hN:=LF q.num.natAbs;have hb:=zu (x:=q.den) (by have:=q.den_pos;omega);have e1:iC ((bl q.num.natAbs:Int)-bl q.den+1)*(2:Rat)^(bl q.den-1)=(2:Rat)^bl q.num.natAbs:=by rw[<-kd];unfold iC;rw[if_neg<|by omega];congr 1;omega
 have h1:(2:Rat)^(bl q.den-1)<=((q.den:Int):Rat):=by
  rw[<-pr];refine aiN.2 ?_;have e:((2^(bl q.den-1):Nat):Int)=(2:Int)^(bl q.den-1):=by norm_cast
  omega
 have h2:(q.num:Rat)<(2:Rat)^bl q.num.natAbs:=by
  rw[<-pr];refine Rat.intCast_lt_intCast.2 ?_;have e:((2^bl q.num.natAbs:Nat):Int)=(2:Int)^bl q.num.natAbs:=by norm_cast
  omega
 have h3:=ahl h1<|aeU<|tD<|(bl q.num.natAbs:Int)-bl q.den+1;rw[e1]at h3;have h4:=Rat.mul_le_mul_of_nonneg_right hle<|aeU hd;rw[he]at h4;exact absurd (agH h3 h4)<|aiD.2 h2
def Qc{x:Nat}(h:(cY.ae x).length<=K):bl x<=64*K:=by
 apply aeY;intro hn;have h0:x≠0:=λe=>by rw[e]at hn;simp[bl]at hn
 have h1:=xO h0;have h2:2^(64*K)<=2^(bl x-1):=adD (by decide) (by omega);have h3:=cY.lX x;have h4:18446744073709551616^(cY.ae x).length<=18446744073709551616^K:=adD (by decide) h;have h5:(18446744073709551616:Nat)^K=2^(64*K):=by rw[aio]
 omega
def NH(f:Fr)(hf:gT f q)(lf:rQ f K)(hK:K<2^12)(h0:0<q.num):aL Tryz.prog 58 [eF f] (.i<|xd q):=by
 have lV:=Qd h0;have ya:=Qe h0;have b1:bl q.num.natAbs<2^19:=by have:=Qc lf.1;rw[hf.vn]at this;omega
 have b2:bl q.den<2^19:=by have:=Qc lf.2;rw[hf.vd,agE]at this;omega
 obtain⟨e0,he0⟩:∃e0,e0=(bl q.num.natAbs:Int)-bl q.den:=⟨_,rfl⟩;have LZ:∀e:Int,e0-3<=e/\e<=e0+3->aL Tryz.prog 114 [.i e,.box false<|eF f] (.u<|decide (iC e<=q)):=λe h=>acq f hf lf (by omega) e (by omega);have n1:=VN f.n hf.n lf.1 (by omega);have n2:=VN f.d hf.d lf.2 (by omega);rw[hf.vn]at n1;rw[hf.vd,agE]at n2;refine bE Tryz.func58 rfl<|b8 2 [(1,.box true<|eF f),(3,.i e0)] True ?_ λ_=>?_
 ·refine r0 rfl<|bG rfl n1 rfl<|r0 rfl<|bG rfl n2 rfl<|k1 rfl (by kernel_rfl) (by simp[ag,and_true]<;>omega) ?_;exact aP ao ⟨ab,⟨rfl,an.of_eq<|congrArg SV.i he0.symm⟩,ao⟩
 refine qB (r:=1) (p:=[]) rfl rfl ao<|EM 2 (λe:Int=>[(3,.i e),(4,.fn (.func 114) [] [.box false<|eF f])]) (λe=>iC e<=q/\e<=e0/\e0-1<=e) ?_ ?_
 ·refine r0 rfl<|loop (λe:Int=>[(3,.i e),(4,.fn (.func 114) [] [.box false<|eF f])]) (λe=>e<=e0/\e0-1<=e) (λe=>(e-(e0-1)).toNat) e0 ⟨by omega,by omega⟩ ⟨ab,ab,ao⟩ ?_;rintro e⟨g1,g2⟩;refine r0 rfl<|bF rfl (LZ e<|by omega) rfl<|r0 rfl<|nB rfl rfl rfl (λg3=>?_) (λg3=>?_)
  ·have g3:¬iC e<=q:=by simpa using g3
   have:e≠e0-1:=λh=>by rw[h,he0]at g3;exact g3 lV
   refine r1 rfl (by simp[ag,and_true]<;>omega) ?_;exact again (e-1) (by omega) ⟨by omega,by omega⟩ ⟨ab,ab,ao⟩
  have g3:iC e<=q:=by simpa using g3
  refine r0 rfl<|meet e ⟨g3,g1,g2⟩ ⟨ab,ab,ao⟩
 rintro e⟨g1,g2,g3⟩;refine r0 rfl<|loop (λe:Int=>[(3,.i e),(4,.fn (.func 114) [] [.box false<|eF f])]) (λe=>iC e<=q/\e<=e0/\e0-1<=e) (λe=>(e0-e).toNat) e ⟨g1,g2,g3⟩ ⟨ab,ab,ao⟩ ?_;rintro e⟨g1,g2,g3⟩;refine r1 rfl (by simp[ag,and_true]<;>omega) ?_;refine bF rfl (LZ (e+1)<|by omega) rfl<|r0 rfl<|nB rfl rfl rfl (λg4=>?_) (λg4=>?_)
 ·have g4:iC (e+1)<=q:=by simpa using g4
  have:e≠e0:=λh=>by rw[h,he0]at g4;exact ya g4
  refine r1 rfl (by simp[ag,and_true]<;>omega) ?_;exact again (e+1) (by omega) ⟨g4,by omega,by omega⟩ ⟨ab,ab,ao⟩
 have g4:¬iC (e+1)<=q:=by simpa using g4
 refine r0 rfl<|aG rfl<|an.of_eq<|congrArg SV.i (jK ⟨g1,g4⟩).symm
end
end Go.Ai.Pg
section
namespace Go.Ai.Pg
open Go.Proofs Go.Ai Go.Ai.cY
def Vg(l:List Int)(hl:l.length<2^60):aL Tryz.prog 48 [.ints .i64 false l] (.i<|aK id l):=by
 refine bE Tryz.func48 rfl<|r0 rfl<|loop (λi:Nat=>[(5,.ints .i64 false l),(6,.i l.length),(7,.i i)]) (λi=>i<=l.length/\aK id l=aK id (l.drop i)) (λi=>l.length-i) 0 ⟨abC _,rfl⟩ ⟨ab,ab,ab,ao⟩ ?_;rintro i⟨hi,hf⟩;refine r0 rfl<|bH rfl (λh=>?_) (λh=>?_)
 ·have aZ:i<l.length:=by omega
  have ei:(i:Int).toNat=i:=by omega
  rw[dp _ aZ]at hf;refine r1 rfl (by simp[ag,ei];omega) ?_;refine bH rfl (λh2=>?_) (λh2=>?_)
  ·refine r0 rfl<|aG rfl<|bC ?_;rw[hf];simp_all
  refine r1 rfl (by simp[ag];omega) ?_;refine again (i+1) (by omega) ⟨by omega,?_⟩ ⟨ab,ab,ab,ao⟩;rw[hf];simp_all
 refine r0 rfl<|aG rfl<|bC ?_;rw[hf,ad3<|by omega];rfl
def WG(b:Bool)(e:Int):aL Tryz.prog 49 [.u b,.i e] (.i<|if b then e else 0):=by
 refine bE Tryz.func49 rfl<|r0 rfl<|nB rfl rfl rfl (λh=>?_) (λh=>?_)
 ·refine r0 rfl<|aG rfl<|bC ?_;rw[h];rfl
 refine r0 rfl<|aG rfl<|bC ?_;rw[h];rfl
def yz(n lo hi:Int):aL Tryz.prog 54 [.i n,.i lo,.i hi] (.u<|decide (n<lo\/hi<n)):=by
 refine bE Tryz.func54 rfl<|r0 rfl<|aC 10 rfl (λh=>?_) (λh=>?_)
 ·refine r0 rfl<|aG rfl (show true=decide (n<lo\/hi<n)from(decide_eq_true<|.inl h).symm)
 refine r0 rfl<|aG rfl<|an.of_eq<|congrArg SV.u ?_;rw[decide_eq_decide];omega
def Qf(b:iA):aL Tryz.prog 22 [ew b] (.i<|ov b):=by
 refine bE Tryz.func22 rfl<|r0 rfl<|loop (λi:Nat=>[(13,.ints .i64 true<|ry b),(14,.i 4),(15,.i i)]) (λi=>i<=4/\ov b=aK (λx:Int=>if x<0\/40<x then 3 else 0) ((ry b).drop i)) (λi=>4-i) 0 ⟨abC _,rfl⟩ ⟨ab,ab,ab,ao⟩ ?_;rintro i⟨hi,hf⟩;have hlen:(ry b).length=4:=rfl;refine r0 rfl<|bH rfl (λh=>?_) (λh=>?_)
 ·have aZ:i<(ry b).length:=by omega
  have ei:(i:Int).toNat=i:=by omega
  rw[dp _ aZ]at hf;refine r1 rfl (by simp[ag,and_true,ei,hlen];omega) ?_;rw[ei,aw aZ];refine bF rfl (yz _ 0 40) rfl<|nB rfl rfl rfl (λh2=>?_) (λh2=>?_)
  ·have h2:(ry b)[i]<0\/40<(ry b)[i]:=by simpa using h2
   refine r0 rfl<|aG rfl<|bC ?_;rw[hf,if_pos h2];rfl
  have h2:¬((ry b)[i]<0\/40<(ry b)[i]):=by simpa using h2
  refine r1 rfl (by simp[ag,and_true];omega) ?_;refine again (i+1) (by omega) ⟨by omega,?_⟩ ⟨ab,ab,ab,ao⟩;rw[hf,if_neg h2];rfl
 refine r0 rfl<|aG rfl<|bC ?_;rw[hf,ad3<|by omega];rfl
def WY(rs:List hO)(hx:∀s∈rs,cR s.lo/\cR s.hi)(hl:rs.length<2^60):aL Tryz.prog 171 [.bT false 2 default fP rs] (.i<|aK iu rs):=by
 refine bE Tryz.func171 rfl<|r0 rfl<|loop (λi:Nat=>[(6,.bT false 2 default fP rs),(7,.i rs.length),(8,.i i)]) (λi=>i<=rs.length/\aK iu rs=aK iu (rs.drop i)) (λi=>rs.length-i) 0 ⟨abC _,rfl⟩ ⟨ab,ab,ab,ao⟩ ?_;rintro i⟨hi,hf⟩;refine r0 rfl<|bH rfl (λh=>?_) (λh=>?_)
 ·have aZ:i<rs.length:=by omega
  have ei:(i:Int).toNat=i:=by omega
  have eg:rs.getD i default=rs[i]:=aw aZ;rw[dp _ aZ]at hf;refine r1 rfl (by simp[ag,ei];omega) ?_;rw[ei,eg];have:=hx _<|ab9 aZ;refine bF rfl (aaD rs[i] this.1 this.2) rfl<|r0 rfl<|bH rfl (λh2=>?_) (λh2=>?_)
  ·refine r0 rfl<|aG rfl<|bC ?_;rw[hf,if_pos h2]
  refine r1 rfl (by simp[ag,and_true];omega) ?_;refine again (i+1) (by omega) ⟨by omega,?_⟩ ⟨ab,ab,ab,ao⟩;rw[hf,if_neg h2]
 refine r0 rfl<|aG rfl<|bC ?_;rw[hf,ad3<|by omega];rfl
open Classical in
noncomputable def mD(p:kx)(rs:List hO):Int:=if dR p≠0 then dR p else jh p.n rs
def uH(p:kx)(h:ye p)(rs:List hO)(hx:∀s∈rs,cR s.lo/\cR s.hi)(hl:rs.length<2^40):aL Tryz.prog 91 [bh p,.bT false 2 default fP rs] (.i<|mD p rs):=by
 refine bE Tryz.func91 rfl<|r0 rfl<|bF rfl (AP p h) rfl<|r0 rfl<|bH rfl (λg=>?_) (λg=>?_)
 ·refine r0 rfl<|aG rfl<|an.of_eq<|congrArg SV.i<|by unfold mD;rw[if_pos g]
 refine r0 rfl<|bF rfl (WG _ 2) rfl<|r0 rfl<|bF rfl (WY rs hx<|by omega) rfl<|r0 rfl<|bF rfl (Vg _<|by simp) rfl<|r0 rfl<|aG rfl<|bC ?_;unfold mD jh;rw[if_neg g];by_cases e:(rs.length:Int)≠p.n
 ·rw[if_pos e];simp[aK,e]
 rw[if_neg e];by_cases g2:aK iu rs≠0
 ·simp[aK,e,g2]
 have g2:=ag0.1 g2;simp[aK,e,g2]
end Go.Ai.Pg
end
namespace Go.Ai.Pg
open Go.Proofs Go.Ai Go.Ai.cY
section
variable{K:Nat}{q:Rat}{s:hO}
def xX(q:Rat):mz q=if q<0 then -q else q:=by
 unfold mz;by_cases h:q<0
 ·rw[if_pos h,if_pos<|Int.not_le.1 λg=>absurd (agW.1 g)<|aiD.2 h]
 rw[if_neg h,if_neg<|Int.not_lt.2<|agW.2<|Rat.not_lt.1 h]
def PX(p q:Rat):0<=DF p q↔q<=p:=by unfold DF;rw[Int.sign_nonneg_iff,agW];constructor<;>grind
def XG(p q:Rat):A8 p q=if q<=p then p else q:=by
 unfold A8;by_cases h:q<=p
 ·rw[if_pos h,if_pos<|(PX p q).2 h]
 rw[if_neg h,if_neg λg=>h<|(PX p q).1 g]
def SpL(s:hO):Prop:=SpV s/\bI s.lo<=bI s.hi
def SX(h:iu s=0):SpL s:=by have hv:=zS h;refine⟨hv,?_⟩;unfold iu at h;rw[if_neg<|by rw[hv.1];simp,if_neg<|by rw[hv.2];simp]at h;exact tV.1 (Int.not_lt.1 λg=>by rw[if_pos g]at h;cases h)
def aba(h:SpL s):HD s=if bI s.hi< -bI s.lo then -bI s.lo else bI s.hi:=by
 have hl:=h.2;unfold HD;rw[XG,xX,xX]
 grind
noncomputable def ZA(s:hO):Fr:=if bI s.hi< -bI s.lo then⟨iS (fX<|bI s.lo).n,(fX<|bI s.lo).d⟩else fX (bI s.hi)
def Hw{f:Fr}(h:gT f q)(hs:rQ f K):rQ ⟨iS f.n,f.d⟩ K:=⟨oL h.n hs.1,hs.2⟩
def J7(h:SpL s):gT (ZA s) (HD s)/\rQ (ZA s) 600:=by
 rw[aba h];unfold ZA;obtain⟨-,h2⟩:=HY (fX<|bI s.lo) (dL _) (fH h.1.1).1 (by decide);by_cases g:bI s.hi< -bI s.lo
 ·rw[if_pos g,if_pos g];exact⟨h2,Hw (dL _)<|fH h.1.1⟩
 rw[if_neg g,if_neg g];exact⟨dL _,fH h.1.2⟩
def tN(s:hO)(h:SpL s):aL Tryz.prog 60 [fP s] (eF<|ZA s):=by
 obtain⟨n1,n2⟩:=HY (fX<|bI s.lo) (dL _) (fH h.1.1).1 (by decide);refine bE Tryz.func60 rfl<|r0 rfl<|bG rfl (qW h.1.1) rfl<|bG rfl n1 rfl<|r0 rfl<|bG rfl (qW h.1.2) rfl<|k0 rfl (by kernel_rfl)<|bF rfl (NG _ _ n2 (dL _) (Hw (dL _)<|fH h.1.1) (fH h.1.2)<|by decide) rfl ?_;have hs:((-bI s.lo).num*(bI s.hi).den-(bI s.hi).num*(-bI s.lo).den).sign>0↔bI s.hi< -bI s.lo:=by rw[Rat.lt_iff,gt_iff_lt,Int.sign_pos_iff];omega
 refine r0 rfl<|bH rfl (λg=>?_) (λg=>?_)
 ·have g:=hs.1 g;refine r0 rfl<|aG rfl<|an.of_eq ?_;unfold ZA;rw[if_pos g];rfl
 have g:=λh=>g<|hs.2 h;refine r0 rfl<|aG rfl<|an.of_eq ?_;unfold ZA;rw[if_neg g];rfl
def PI(h:0<q.num):∃e,pn q e/\(bl q.num.natAbs:Int)-bl q.den-1<=e/\e<=(bl q.num.natAbs:Int)-bl q.den:=by
 have lV:=Qd h;have ya:=Qe h;generalize (bl q.num.natAbs:Int)-bl q.den=e0 at*;by_cases g:iC e0<=q
 ·exact⟨e0,⟨g,ya⟩,by omega,by omega⟩
 refine⟨e0-1,⟨lV,?_⟩,by omega,by omega⟩;rw[show e0-1+1=e0 by omega];exact g
def YG(f:Fr)(hf:gT f q)(lf:rQ f K)(hK:K<2^12)(h:0<q.num): -524289<=xd q/\xd q<=524289:=by obtain⟨e,h1,h2,h3⟩:=PI h;rw[jK h1];have b1:=Qc lf.1;rw[hf.vn]at b1;have b2:=Qc lf.2;rw[hf.vd,agE]at b2;omega
def NI(m:Int){x:Rat}(h:0<x.num):xd (iC m*x)=m+xd x:=by
 obtain⟨e,h1,-,-⟩:=PI h;rw[jK h1];have add:∀k:Int,iC (m+k)=iC m*iC k:=by
  intro k;rcases Int.le_total 0 k with g|g
  ·obtain⟨j,rfl⟩:∃j:Nat,k=j:=⟨k.toNat,by omega⟩;rw[kd];have e:iC (j:Int)=(2:Rat)^j:=by unfold iC;rw[if_neg<|by omega];rfl
   rw[e]
  obtain⟨j,rfl⟩:∃j:Nat,k= -(j:Int):=⟨(-k).toNat,by omega⟩;have h2:=kd (m+ -(j:Int)) j;have h3:=kd (-(j:Int)) j;rw[show m+ -(j:Int)+j=m by omega]at h2;rw[show -(j:Int)+j=0 by omega]at h3;have h4:iC 0=1:=rfl;rw[h4]at h3;generalize (2:Rat)^j=t at*;rw[h2,aiB,ahT t,<-h3,Rat.mul_one]
 have hp:=tD m;refine jK ⟨?_,?_⟩
 ·rw[add];exact ahl h1.1<|aeU hp
 rw[show m+e+1=m+(e+1) by omega,add];intro hle;refine h1.2 ?_;rw[ahT<|iC m,ahT<|iC m]at hle;exact ajw hle hp
def OZ(f:Fr){a:Rat}(hf:gT f a)(lf:rQ f K)(hK:K<2^12)(ha:0<=a)(iT:Int)(hm: -1000000<=iT/\iT<=1000000):aL Tryz.prog 92 [eF f,.i iT] (.i<|mH a iT):=by
 refine bE Tryz.func92 rfl<|r0 rfl<|bF rfl (PD f hf) rfl<|r0 rfl<|bH rfl (λg=>?_) (λg=>?_)
 ·have g:a.num=0:=by rwa[ajg]at g
  refine r0 rfl<|aG rfl<|bC ?_;unfold mH;rw[if_pos<|aip.1 g]
 have g:¬a.num=0:=by rwa[ajg]at g
 have g0:a≠0:=λh=>g (by rw[h];rfl);obtain⟨i1,i2⟩:=Rr f hf g0 lf;have ua:0<a⁻¹ :=ahS.2 (by grind);have vm:0<(a⁻¹).num:=by
  have h1:=agW.2<|aeU ua;rcases Int.lt_or_eq_of_le h1 with h2|h2
  ·exact h2
  have:=aip.1 h2.symm;rw[this]at ua;exact absurd ua (by decide)
 have hbd:=YG _ i1 i2 hK vm;refine r0 rfl<|bF rfl (acm f hf g0 lf<|by omega) rfl<|bF rfl (NH _ i1 i2 hK vm) rfl<|r1 rfl (by simp[ag]<;>omega) ?_;refine aG rfl<|bC ?_;unfold mH;rw[if_neg g0,Rat.div_def,NI iT vm];rfl
end
end Go.Ai.Pg
