/- Parts of the proof of ScaleChanges (as AIM.md's row tells), at every input, with no further conditions. -/
import Derived.Test.YtpoaaoihkhdijaaGreatDoorHZAJ
import Derived.Shelf.Spec.BitsCarry
import Derived.Lib.Mul64
set_option linter.all false
set_option maxRecDepth 100000
set_option maxHeartbeats 0
namespace Go.Ai
open Go.Proofs Go.RowKit
def FV(s:hO):aM Tryz.prog 128 [.s s] (dX ⟨s,s⟩):=by refine bS Tryz.func128 W<|bN W W
def jL(us:List bT)(i:Nat):Nat:=dq<|us.take i
def tz{us:List bT}{i:Nat}(h:i<us.length):jL us (i+1)=jL us i+if us[i].kind=bq then 1 else 0:=by unfold jL dq;rw[aey h,agZ];by_cases g:us[i].kind=bq<;>simp
def GR(us:List bT)(i:Nat):jL us i<=dq us:=List.Sublist.countP_le<|List.take_sublist _ _
def Bk(n m:Nat):List (List cU):=(List.replicate n []).set 0 (vm 0 m)
def FJ(us:List bT)(n m:Nat):Nat->List (List cU)
 |0=>Bk n m
 |i+1=>if(us.getD i default).kind=bq then(FJ us n m i).set (us.getD i default).out.toNat (vm (jL us<|i+1) m)else FJ us n m i
def uM(us:List bT)(i:Nat):List Int:=(List.range i).map λj=>(jL us j:Int)
def kO(us:List bT)(i:Nat):List hO:=(List.range<|jL us i).map λ(j:Nat)=>122::cK ((j:Int)+1)
def kD(us:List bT):Nat->List fD
 |0=>[]
 |i+1=>if(us.getD i default).kind=bq then kD us i++[⟨(us.getD i default).k,(us.getD i default).k⟩]else kD us i
def Eo(us:List bT)(i:Nat):uM us (i+1)=uM us i++[(jL us i:Int)]:=by unfold uM;rw[ah3,aeY];rfl
def Bf(us:List bT):∀i,(kD us i).length<=i
 |0=>.refl
 |i+1=>by
  have:=Bf us i;rw[kD];split
  ·simp;exact this
  omega
def qi(us:List bT)(n m:Nat):∀i,(FJ us n m i).length=n
 |0=>by simp[FJ,Bk]
 |i+1=>by
  have:=qi us n m i;rw[FJ];split
  ·rw[ad2];exact this
  exact this
noncomputable def gT(sh:List (List cU))(a:List Rat)(u:bT):Nat->List cU×Rat
 |0=>([],bV u.k)
 |i+1=>(DS (gT sh a u i).1<|kJ (bV (u.ah.getD i default).dZ)<|sh.getD (u.ah.getD i default).sh.toNat [],
   (gT sh a u i).2-bV (u.ah.getD i default).dZ*a.getD (u.ah.getD i default).sh.toNat 0)
noncomputable def Ps(sh:List (List cU))(a:List Rat)(m:Nat)(u:bT):List cU:=DS (gT sh a u u.ah.length).1<|aaa (gT sh a u u.ah.length).2 m
noncomputable def oL(sh:List (List cU))(u:bT):List cU:=kJ (bV (u.ah.getD 0 default).dZ)<|sh.getD (u.ah.getD 0 default).sh.toNat []
noncomputable def jF(m:Nat)(x:List cU)(cs:List Rat):List cU:=cs.foldr (λa s=>DS (lP s x)<|aaa a m) []
noncomputable def Zi(sh:List (List cU))(m:Nat)(u:bT):List cU:=jF m (oL sh u)<|u.dI.map bV
noncomputable def lJ(us:List bT)(a:List Rat)(m:Nat)(sh:List (List cU))(o:Int):List (List cU):=
 if(us.getD o.toNat default).kind=jz then sh.set (us.getD o.toNat default).out.toNat (Ps sh a m<|us.getD o.toNat default)
 else if(us.getD o.toNat default).kind=dy then sh.set (us.getD o.toNat default).out.toNat (Zi sh m<|us.getD o.toNat default)else sh
noncomputable def iO(us:List bT)(n m k:Nat):List (List cU):=((az us).take k).foldl (lJ us (cp n us) m)<|FJ us n m us.length
noncomputable def za(us:List bT)(n m:Nat):List (List cU):=iO us n m (az us).length
noncomputable def Ms(sh bd:List (List cU))(u:bT):List cU:=kJ (bV (u.ah.getD 0 default).dZ*bV (u.ah.getD 1 default).dZ) (lP (sh.getD (u.ah.getD 0 default).sh.toNat [])<|mO bd<|sh.getD (u.ah.getD 1 default).sh.toNat [])
noncomputable def ow(us:List bT)(sh bd:List (List cU))(o:Int):List (List cU):=if(us.getD o.toNat default).kind=bq then bd.set (jL us o.toNat) (Ms sh bd<|us.getD o.toNat default)else bd
noncomputable def iZ(us:List bT)(n m k:Nat):List (List cU):=((az us).take k).foldl (ow us<|za us n m)<|List.replicate m []
noncomputable def Zp(us:List bT)(n m:Nat):List (List cU):=iZ us n m (az us).length
noncomputable def Mr(us:List bT)(n m:Nat):Sys:=⟨kO us us.length,Zp us n m,kD us us.length⟩
def pg{us:List bT}{n m k:Nat}(h:k<(az us).length):iO us n m (k+1)=lJ us (cp n us) m (iO us n m k) (az us)[k]:=by unfold iO;rw[aey h,age];rfl
def Bo{us:List bT}{n m k:Nat}(h:k<(az us).length):iZ us n m (k+1)=ow us (za us n m) (iZ us n m k) (az us)[k]:=by unfold iZ;rw[aey h,age];rfl
def Ky(us:List bT)(a:List Rat)(m:Nat)(sh:List (List cU))(o:Int):(lJ us a m sh o).length=sh.length:=by
 unfold lJ;split
 ·simp_all
 split
 ·simp_all
 rfl
def kG(us:List bT)(n m k:Nat):(iO us n m k).length=n:=by
 have:∀(l:List Int)(sh:List (List cU)),(l.foldl (lJ us (cp n us) m) sh).length=sh.length:=by
  intro l
  induction l with
  |nil=>intro sh;rfl
  |cons o l a=>intro sh;rw[afT,a,Ky]
 unfold iO;rw[this,qi]
def sY(us:List bT)(n m k:Nat):(iZ us n m k).length=m:=by
 have:∀(l:List Int)(r:List (List cU)),(l.foldl (ow us<|za us n m) r).length=r.length:=by
  intro l
  induction l with
  |nil=>intro sh;rfl
  |cons o l a=>
   intro sh;rw[afT,a];unfold ow;split
   ·simp_all
   rfl
 unfold iZ;rw[this];simp
structure SL(V K L:Nat)(sh:List (List cU))(st:List Rat)(m:Nat)(u:bT):Prop where
 Vj:∀f∈u.ah,vj V K<|pk (bV f.dZ)<|sh.getD f.sh.toNat []
 sum:∀i,i<u.ah.length->vj V K ((gT sh st u i).1++kJ (bV (u.ah.getD i default).dZ) (sh.getD (u.ah.getD i default).sh.toNat []))
 num:∀i,i<=u.ah.length->Sz (gT sh st u i).2 L
 fin:vj V K ((gT sh st u u.ah.length).1++aaa (gT sh st u u.ah.length).2 m)
structure VW(V K:Nat)(sh:List (List cU))(m:Nat)(u:bT):Prop where
 Vj:vj V K (pk (bV (u.ah.getD 0 default).dZ)<|sh.getD (u.ah.getD 0 default).sh.toNat [])
 mul:∀i,i<u.dI.length->vj V K (jx (jF m (oL sh u)<|(u.dI.map bV).drop<|i+1)<|oL sh u)
 sum:∀i,i<u.dI.length->vj V K (lP (jF m (oL sh u)<|(u.dI.map bV).drop<|i+1) (oL sh u)++aaa (bV<|u.dI.getD i []) m)
structure L6(V K:Nat)(sh bd:List (List cU))(u:bT):Prop where
 al:Y0 V K bd (sh.getD (u.ah.getD 1 default).sh.toNat [])
 along:(∀t∈mO bd (sh.getD (u.ah.getD 1 default).sh.toNat []),Di V K t)/\(mO bd<|sh.getD (u.ah.getD 1 default).sh.toNat []).length<2^30
 mul:vj V K (jx (sh.getD (u.ah.getD 0 default).sh.toNat [])<|mO bd<|sh.getD (u.ah.getD 1 default).sh.toNat [])
 Vj:vj V K (pk (bV (u.ah.getD 0 default).dZ*bV (u.ah.getD 1 default).dZ)<|lP (sh.getD (u.ah.getD 0 default).sh.toNat [])<|mO bd<|sh.getD (u.ah.getD 1 default).sh.toNat [])
structure SF(V K L:Nat)(us:List bT)(n m:Nat):Prop where
 sh:∀k,k<=(az us).length->∀p∈iO us n m k,(∀u∈p,Di V K u)/\p.length<2^30
 rt:∀k,k<=(az us).length->∀p∈iZ us n m k,(∀u∈p,Di V K u)/\p.length<2^30
 add:∀k(h:k<(az us).length),(us.getD (az us)[k].toNat default).kind=jz->SL V K L (iO us n m k) (cp n us) m (us.getD (az us)[k].toNat default)
 dI:∀k(h:k<(az us).length),(us.getD (az us)[k].toNat default).kind=dy->VW V K (iO us n m k) m (us.getD (az us)[k].toNat default)
 Zr:∀k(h:k<(az us).length),(us.getD (az us)[k].toNat default).kind=bq->L6 V K (za us n m) (iZ us n m k) (us.getD (az us)[k].toNat default)
def zQ(s:Sys):SV:=.agg [.strs true s.names,n5 true s.bd,.bA true 2 default dX s.start]
def KE(p:gV)(h:rA p)(n m:Nat)(hn:p.n=n)(hm:m=dq p.aa)(V0:0<n)(U1:n<=100)(M2:p.aa.length<=96)(hv:∀u∈p.aa,iQ p.n u){K L:Nat}(hR:SF (m+1) K L p.aa n m)(hK:K+K+1<2^34)(hL:L+135<2^34)(hKL:L<=K):
 aM Tryz.prog 52 [bh p] (.bW [YE<|Mr p.aa n m,n5 true<|za p.aa n m]):=by
 have hl:=h.aa;have V2:m<=p.aa.length:=by rw[hm];exact agG
 refine bS Tryz.func52 W<|cx 3 [(1,.box true<|bh p),(2,.box true<|.agg [.nil,.nil,.nil]),(4,.i m),(5,n5 true<|List.replicate n [])] True ?_ λ_=>?_
 ·refine bP W W (oD p h) W<|qp W<|Yh () U ⟨⟨W,W,.le<|ar.refl _⟩,⟨W,W,.le<|ar.refl _⟩,⟨W,W,.le<|ar.of_eq<|congrArg SV.i<|by rw[hm];rfl⟩,⟨W,W,?_⟩,U⟩;refine .row ?_;rw[hn,ahm];exact o6.rep (x:=.nil) (y:=di false []) (.le W) n
 refine bP W W (rE 0 m (adk _) E) W<|r1 W (by simp only[bo,and_true,agi]<;>omega) ?_;refine bG W (vt p h n hn E<|iQ.outs hv hn) W<|r1 W (by simp only[bo,and_true,agi]<;>omega) ?_;rw[D6 λu hu=>(hv u hu).k];refine EI [(1,.box true<|bh p),(2,.box true<|.agg [.nil,.nil,.nil]),(4,.i m),(5,n5 true<|FJ p.aa n m 0),(6,.strs true<|(cp n p.aa).map qt),(7,.box true<|zQ ⟨kO p.aa 0,List.replicate m [],kD p.aa 0⟩),(8,.ints .i64 true<|uM p.aa 0),(9,.i 0)]
  ⟨⟨W,W,.le<|ar.refl _⟩,⟨W,W,.le<|ar.refl _⟩,⟨W,W,.le<|ar.refl _⟩,⟨W,W,.row ?_⟩,⟨W,W,.le<|ar.refl _⟩,⟨W,W,.box<|.agg<|.cons (.le W)<|.cons (.row ?_)<|.cons (.le W) .nil⟩,⟨W,W,.le W⟩,⟨W,W,.le<|ar.refl _⟩,U⟩ ?_
 ·rw[FJ,Bk,afO];exact o6.refl _
 ·show o6 (List.replicate (m:Int).toNat .nil) (List.map (di false)<|List.replicate m []);rw[ahm,show(m:Int).toNat=m from E];exact o6.rep (x:=.nil) (y:=di false []) (.le W) m
 have G4:∀i,jL p.aa i<=m:=λi=>hm▸GR p.aa i;refine ra (λi:Nat=>[(1,.box true<|bh p),(2,.box true<|.agg [.nil,.nil,.nil]),(4,.i m),(5,n5 true<|FJ p.aa n m i),(6,.strs true<|(cp n p.aa).map qt),(7,.box true<|zQ ⟨kO p.aa i,List.replicate m [],kD p.aa i⟩),(8,.ints .i64 true<|uM p.aa i),(9,.i i)]) (λi=>i<=p.aa.length) (λi=>p.aa.length-i) 0 (adk _) ?_;intro i hi;have B:(kO p.aa i).length=jL p.aa i:=by simp[kO]
 have G2:(uM p.aa i).length=i:=by simp[uM]
 refine bQ W W ?_ ?_<;>intro h1
 ·have w:i<p.aa.length:=E;have ei:(i:Int).toNat=i:=E;have eg:p.aa.getD i default=p.aa[i]:=au w;have a:=tz w;have S1:=Bf p.aa i;have hu:=hv _<|adC w;have l:=G4<|i+1;have F1:=hu.out;refine r1 W (by simp only[bo,and_true,ei,len,G2,adX,aeg]<;>omega) ?_;rw[ei,eg];refine gb W ?_ ?_<;>intro b
  ·have b:p.aa[i].kind=bq:=b;rw[if_pos b]at a;refine r1 W (by simp only[bo,and_true,B]<;>omega) ?_;have X2:=wq ((jL p.aa i:Int)+1) (k:=3)<|jn E;refine cd W (by rw[B];rfl) (ug ((jL p.aa i:Int)+1) E) W ?_;rw[nL];refine k1 W aW (by simp only[bo,and_true,len,B,adX,aeg,aeP]<;>omega) ?_;refine bH W (FV p.aa[i].k) W<|k1 W aW (by simp only[bo,and_true,len,B,aeW,adX,aeg,aeP]<;>omega) ?_;refine VP (us:=[.i (jL p.aa (i+1):Nat),.i m]) W W U ⟨congrArg SV.i<|by simp only[aeP,B,adX,aeg];omega,W,U⟩ (rE (jL p.aa<|i+1) m l E) W ?_;refine k1 W aW (by simp only[bo,and_true,len,B,aeW,adX,aeg,qi]<;>omega) ?_;refine vf (i+1) E E ⟨⟨W,W,.le<|ar.refl _⟩,⟨W,W,.le<|ar.refl _⟩,⟨W,W,.le<|ar.refl _⟩,⟨W,W,.row ?_⟩,⟨W,W,.le<|ar.refl _⟩,⟨W,W,.box<|.agg<|.cons (.le<|ar.of_eq<|congrArg (SV.strs true) ?_)<|.cons (.le<|ar.refl _)<|.cons (.row ?_) .nil⟩,⟨W,W,.le<|ar.of_eq<|congrArg (SV.ints .i64 true) ?_⟩,⟨W,W,.le<|ar.refl _⟩,U⟩
   ·rw[FJ,eg,if_pos b,afO];exact o6.refl _
   ·rw[kO,kO,a,ah3,aeY];rfl
   ·rw[kD,eg,if_pos b,cX,aeY];exact o6.refl _
   rw[Eo,B]
  have b:¬p.aa[i].kind=bq:=b;rw[if_neg b]at a;refine qp W<|again (i+1) E E ⟨G,G,G,⟨W,ar.of_eq<|congrArg (n5 true) ?_⟩,G,⟨W,ar.of_eq<|congrArg (λs=>SV.box true<|zQ s) ?_⟩,⟨W,ar.of_eq<|congrArg (SV.ints .i64 true) ?_⟩,G,U⟩
  ·rw[FJ,eg,if_neg b]
  ·rw[kO,kO,a,kD,eg,if_neg b];rfl
  rw[Eo,B]
 have xq:i=p.aa.length:=E;subst xq;have S4:=uK p.aa;have H1:=Bd n p.aa;have F2:∀q∈cp n p.aa,Sz q 67:=Be (Mg.mono fh) λu hu=>fi (hv u hu).k;refine bP W W (rY p h<|iQ.ZD hv) W<|r0 W<|ra (λk:Nat=>[(1,.box true<|bh p),(2,.box true<|.agg [.nil,.nil,.nil]),(4,.i m),(5,n5 true<|iO p.aa n m k),(6,.strs true<|(cp n p.aa).map qt),(7,.box true<|zQ ⟨kO p.aa p.aa.length,List.replicate m [],kD p.aa p.aa.length⟩),(8,.ints .i64 true<|uM p.aa p.aa.length),(11,.ints .i64 true<|az p.aa),(12,.i k)]) (λk=>k<=(az p.aa).length) (λk=>(az p.aa).length-k) 0 (adk _) ?_;intro k hk;refine bQ W W ?_ ?_<;>intro h1
 ·have c:k<(az p.aa).length:=E;have ek:(k:Int).toNat=k:=E;have F:(az p.aa).getD k 0=(az p.aa)[k]:=au c;obtain⟨o1,o2⟩:=gC _<|adC c;have a:=pg (n:=n) (m:=m) c;have T:=hR.add k c;have Q:=hR.dI k c;have Z:=hR.sh k hk;have A:=kG p.aa n m k;obtain⟨o,eo⟩:∃o,(az p.aa)[k]=o:=⟨_,W⟩;rw[eo]at F o1 o2 a T Q;have v:p.aa.getD o.toNat default∈p.aa:=bw E;unfold lJ at a;obtain⟨u,eu⟩:∃u,p.aa.getD o.toNat default=u:=⟨_,W⟩;rw[eu]at v a T Q;have hu:=hv _ v;have F1:=hu.out;have S0:=h.unit _ v;refine k1 W aW (by simp only[bo,and_true,ek,F]<;>omega) ?_;rw[ek,F,eu];generalize iO p.aa n m k=sh at*;have C:∀f∈u.ah,(∀t∈sh.getD f.sh.toNat [],Di (m+1) K t)/\(sh.getD f.sh.toNat []).length<2^30:=λf Y=>by
   have:=hu.feed f Y;exact Z _<|bw (d:=[]) E
  refine gb W ?_ ?_<;>intro b
  ·have b:u.kind=jz:=b;rw[if_pos b]at a;have z:=T b;have hfl:=(hu.add b).2.1;refine bM W (λi:Nat=>[(1,.box true<|bh p),(2,.box true<|.agg [.nil,.nil,.nil]),(4,.i m),(5,n5 true sh),(6,.strs true<|(cp n p.aa).map qt),(7,.box true<|zQ ⟨kO p.aa p.aa.length,List.replicate m [],kD p.aa p.aa.length⟩),(8,.ints .i64 true<|uM p.aa p.aa.length),(11,.ints .i64 true<|az p.aa),(12,.i k),
    (13,.box true<|dQ u),(14,.s<|qt (gT sh (cp n p.aa) u i).2),(15,di false (gT sh (cp n p.aa) u i).1),(16,.i i)])
    (λi=>i<=u.ah.length) (λi=>u.ah.length-i) 0 (adk _) ⟨G,G,G,G,G,G,G,G,G,G,⟨W,ar.of_eq<|congrArg SV.s (fZ hu.k).symm⟩,G,G,U⟩ ?_
   intro i hi;have P0:(gT sh (cp n p.aa) u i).1.length<2^30:=by
    cases i with
    |zero=>simp[gT]
    |succ i=>exact(z.sum i E).norm.2
   refine bQ W W ?_ ?_<;>intro X
   ·have w:i<u.ah.length:=E;have ei:(i:Int).toNat=i:=E;have H:u.ah.getD i default=u.ah[i]:=au w;have Y:=hu.feed _<|adC w;obtain⟨g1,g2⟩:=C _<|adC w;have N:=z.Vj _<|adC w;have J:=z.sum i w;have K2:=z.num i hi;have R:gT sh (cp n p.aa) u (i+1)=(DS (gT sh (cp n p.aa) u i).1<|kJ (bV u.ah[i].dZ)<|sh.getD u.ah[i].sh.toNat [],(gT sh (cp n p.aa) u i).2-bV u.ah[i].dZ*(cp n p.aa).getD u.ah[i].sh.toNat 0):=by
     rw[gT,H]
    rw[H]at J;obtain⟨f,ef⟩:∃f,u.ah[i]=f:=⟨_,W⟩;rw[ef]at Y g1 g2 N J R H;have hq:=F2 _<|bw (d:=0)<|show f.sh.toNat<(cp n p.aa).length from E;have l:=mF (bV f.dZ) (sh.getD f.sh.toNat []) (V:=m+1) (K:=K) (L:=67) (fi Y.2.2.1) g1 N E hK E;rw[fZ Y.2.2.1]at l;have G6:=gi (bV f.dZ) ((cp n p.aa).getD f.sh.toNat 0) (fi Y.2.2.1) hq E;rw[fZ Y.2.2.1]at G6;refine r1 W (by simp only[bo,and_true,ei,H,A]<;>omega) ?_;rw[ei,H];refine bH W l W<|qp W<|bH W (mc (gT sh (cp n p.aa) u i).1 (kJ (bV f.dZ)<|sh.getD f.sh.toNat []) (V:=m+1) (K:=K) J (by have:=N.norm.2;unfold kJ;omega) hK) W ?_;refine k1 W aW (by simp only[bo,and_true,aeW,H1]<;>omega) ?_;refine cd W (by rw[Ix E];rfl) G6 W ?_;refine qp W<|bH W (D3 (gT sh (cp n p.aa) u i).2 (bV f.dZ*(cp n p.aa).getD f.sh.toNat 0) K2 ((fi Y.2.2.1).mul hq) E) W<|II W<|again (i+1) E E ⟨G,G,G,G,G,G,G,G,G,G,⟨W,ar.of_eq<|congrArg SV.s<|by rw[R]⟩,⟨W,ar.of_eq<|congrArg (di false)<|by rw[R]⟩,G,U⟩
   have:i=u.ah.length:=E;subst this;have G3:=z.fin;have M1:(aaa (gT sh (cp n p.aa) u u.ah.length).2 m).length<=1:=by unfold aaa;split<;>simp
   refine bO W W (sN (gT sh (cp n p.aa) u u.ah.length).2 m E) W<|qp W<|bH W (mc (gT sh (cp n p.aa) u u.ah.length).1 (aaa (gT sh (cp n p.aa) u u.ah.length).2 m) (V:=m+1) (K:=K) G3 E hK) W<|II W<|vf (k+1) E E ⟨⟨W,W,.le<|ar.refl _⟩,⟨W,W,.le<|ar.refl _⟩,⟨W,W,.le<|ar.refl _⟩,⟨W,W,.row ?_⟩,⟨W,W,.le<|ar.refl _⟩,⟨W,W,.le<|ar.refl _⟩,⟨W,W,.le<|ar.refl _⟩,⟨W,W,.le<|ar.refl _⟩,⟨W,W,.le<|ar.refl _⟩,U⟩;rw[a,afO];exact o6.refl _
  have b:¬u.kind=jz:=b;rw[if_neg b]at a;refine bQ W W ?_ ?_<;>intro X
  ·have X:u.kind=dy:=X;rw[if_pos X]at a;have z:=Q X;obtain⟨t1,t2,t3⟩:=hu.table X;have P:Int.toNat 0=0:=W;have D:u.ah.getD 0 default∈u.ah:=bw E;have O:=hu.feed _ D;obtain⟨g1,g2⟩:=C _ D;have l:=mF (bV (u.ah.getD 0 default).dZ) (sh.getD (u.ah.getD 0 default).sh.toNat []) (V:=m+1) (K:=K) (L:=67) (fi O.2.2.1) g1 z.Vj E hK E;rw[fZ O.2.2.1]at l;have hX:=z.Vj.norm;refine k1 W aW (by simp only[bo,and_true,P,A]<;>omega) ?_;rw[P];refine bH W l W<|II W<|loop (λj:Nat=>[(1,.box true<|bh p),(2,.box true<|.agg [.nil,.nil,.nil]),(4,.i m),(5,n5 true sh),(6,.strs true<|(cp n p.aa).map qt),(7,.box true<|zQ ⟨kO p.aa p.aa.length,List.replicate m [],kD p.aa p.aa.length⟩),(8,.ints .i64 true<|uM p.aa p.aa.length),(11,.ints .i64 true<|az p.aa),(12,.i k),
    (13,.box true<|dQ u),(18,di false<|oL sh u),(19,di false<|jF m (oL sh u)<|(u.dI.map bV).drop j),(20,.i<|(j:Int)-1)])
    (λj=>j<=u.dI.length) (λj=>j) u.dI.length (adp _) ⟨G,G,G,G,G,G,G,G,G,G,G,⟨W,?_⟩,G,U⟩ ?_
   ·rw[afi<|by rw[aeW];omega];exact W
   intro j hj;refine bQ W W ?_ ?_<;>intro h4
   ·obtain⟨i,rfl⟩:∃i,j=i+1:=⟨j-1,E⟩;have e1:((i+1:Nat):Int)-1=i:=E;have ei:(i:Int).toNat=i:=E;have hi:i<u.dI.length:=E;have H:u.dI.getD i []=u.dI[i]:=au hi;have N:=z.mul i hi;have J:=z.sum i hi;rw[H]at J;have L0:=hu.dI _<|adC hi;have hT:(∀t∈jF m (oL sh u) ((u.dI.map bV).drop<|i+1),Di (m+1) K t)/\(jF m (oL sh u)<|(u.dI.map bV).drop<|i+1).length<2^30:=by
     rcases aeQ (i+1) u.dI.length with g|g
     ·have F4:=(z.sum (i+1) g).norm;rw[aeE<|by rw[aeW];exact g,aii];have e:u.dI.getD (i+1) []=u.dI[i+1]:=au g;rw[e]at F4;exact F4
     rw[afi<|by rw[aeW];exact g];exact⟨by simp[jF],by simp[jF]⟩
    have R:jF m (oL sh u) ((u.dI.map bV).drop i)=DS (lP (jF m (oL sh u)<|(u.dI.map bV).drop<|i+1)<|oL sh u) (aaa (bV u.dI[i]) m):=by rw[aeE<|by rw[aeW];exact hi,aii];rfl
    have G5:=sN (bV u.dI[i]) m E;rw[fZ L0]at G5;have M1:(aaa (bV u.dI[i]) m).length<=1:=by unfold aaa;split<;>simp
    rw[e1];refine qp W<|bH W (oS (jF m (oL sh u)<|(u.dI.map bV).drop<|i+1) (oL sh u) (V:=m+1) (K:=K) (L:=K) (M:=K) hT.1 hX.1 N E (by unfold oL kJ;omega) E hK E) W ?_;refine qp W<|cd W (by rw[ei,H];rfl) G5 W ?_;refine qp W<|bH W (mc (lP (jF m (oL sh u)<|(u.dI.map bV).drop<|i+1)<|oL sh u) (aaa (bV u.dI[i]) m) (V:=m+1) (K:=K) J (by have:=N.norm.2;unfold lP;omega) hK) W ?_;refine II W<|again i E E ⟨G,G,G,G,G,G,G,G,G,G,G,⟨W,ar.of_eq<|congrArg (di false) R.symm⟩,G,U⟩
   have:j=0:=E;subst this;rw[afG];refine II W<|vf (k+1) E E ⟨⟨W,W,.le<|ar.refl _⟩,⟨W,W,.le<|ar.refl _⟩,⟨W,W,.le<|ar.refl _⟩,⟨W,W,.row ?_⟩,⟨W,W,.le<|ar.refl _⟩,⟨W,W,.le<|ar.refl _⟩,⟨W,W,.le<|ar.refl _⟩,⟨W,W,.le<|ar.refl _⟩,⟨W,W,.le<|ar.refl _⟩,U⟩;rw[a,afO];exact o6.refl _
  have X:¬u.kind=dy:=X;rw[if_neg X]at a;refine qp W<|again (k+1) E E ⟨G,G,G,⟨W,ar.of_eq<|congrArg (n5 true) a.symm⟩,G,G,G,G,G,U⟩
 have:k=(az p.aa).length:=E;subst this;have A:=kG p.aa n m (az p.aa).length;have Z:=hR.sh _<|adp _;have D1:=hR.Zr;have H2:=hR.rt;have F3:iO p.aa n m (az p.aa).length=za p.aa n m:=W;rw[F3]at A Z⊢;refine r0 W<|ra (λk:Nat=>[(1,.box true<|bh p),(2,.box true<|.agg [.nil,.nil,.nil]),(5,n5 true<|za p.aa n m),(7,.box true<|zQ ⟨kO p.aa p.aa.length,iZ p.aa n m k,kD p.aa p.aa.length⟩),(8,.ints .i64 true<|uM p.aa p.aa.length),(11,.ints .i64 true<|az p.aa),(21,.i k)]) (λk=>k<=(az p.aa).length) (λk=>(az p.aa).length-k) 0 (adk _) ?_;intro k hk;refine bQ W W ?_ ?_<;>intro h1
 ·have c:k<(az p.aa).length:=E;have ek:(k:Int).toNat=k:=E;have F:(az p.aa).getD k 0=(az p.aa)[k]:=au c;obtain⟨o1,o2⟩:=gC _<|adC c;have a:=Bo (n:=n) (m:=m) c;have D2:=D1 k c;have S2:=H2 k hk;have K0:=sY p.aa n m k;obtain⟨o,eo⟩:∃o,(az p.aa)[k]=o:=⟨_,W⟩;rw[eo]at F o1 o2 a D2;have v:p.aa.getD o.toNat default∈p.aa:=bw E;unfold ow at a;have G1:(p.aa.getD o.toNat default).kind=bq->jL p.aa o.toNat<m:=by
   intro g;have b:=tz (us:=p.aa) (i:=o.toNat) E;rw[au<|show o.toNat<p.aa.length from E]at g;rw[if_pos g]at b;have:=G4<|o.toNat+1;omega
  have S:(uM p.aa p.aa.length).getD o.toNat 0=(jL p.aa o.toNat:Int):=by rw[uM,adY,agb,ahL E];rfl
  have E1:(uM p.aa p.aa.length).length=p.aa.length:=by simp[uM]
  obtain⟨u,eu⟩:∃u,p.aa.getD o.toNat default=u:=⟨_,W⟩;rw[eu]at v a D2 G1;have hu:=hv _ v;have F1:=hu.out;refine II W ?_;rw[ek,F,eu];generalize iZ p.aa n m k=B0 at*;generalize za p.aa n m=sh at*;have C:∀f∈u.ah,(∀t∈sh.getD f.sh.toNat [],Di (m+1) K t)/\(sh.getD f.sh.toNat []).length<2^30:=λf Y=>by have:=hu.feed f Y;exact Z _<|bw (d:=[]) E
  refine gb W ?_ ?_<;>intro b
  ·have b:u.kind=bq:=b;rw[if_pos b]at a;have z:=D2 b;have P1:=G1 b;have hf2:=(hu.int b).1;have P:Int.toNat 0=0:=W;have F0:Int.toNat 1=1:=W;have D:u.ah.getD 0 default∈u.ah:=bw E;have O:=hu.feed _ D;have A0:u.ah.getD 1 default∈u.ah:=bw E;have E2:=hu.feed _ A0;obtain⟨g1,g2⟩:=C _ D;obtain⟨g3,g4⟩:=C _ A0;have l:=gi (bV (u.ah.getD 0 default).dZ) (bV (u.ah.getD 1 default).dZ) (fi O.2.2.1) (fi E2.2.2.1) E;rw[fZ O.2.2.1,fZ E2.2.2.1]at l;have W1:(jL p.aa o.toNat:Int).toNat=jL p.aa o.toNat:=E;refine II W ?_;rw[P,F0];refine bH W l W<|k1 W aW (by simp only[bo,and_true,P,F0,ek,F,S,E1,A,K0]<;>omega) ?_;rw[ek,F,P,F0,S];refine cqd W W (Va B0 (sh.getD (u.ah.getD 1 default).sh.toNat []) (V:=m+1) (K:=K) (L:=K) g3 E z.al E E E hK E) W<|qp W<|bH W (oS (sh.getD (u.ah.getD 0 default).sh.toNat []) (mO B0<|sh.getD (u.ah.getD 1 default).sh.toNat []) (V:=m+1) (K:=K) (L:=K) (M:=K) g1 z.along.1 z.mul E (by have:=z.along.2;omega) E hK E) W ?_;refine qp W<|bH W (mF (bV (u.ah.getD 0 default).dZ*bV (u.ah.getD 1 default).dZ) (lP (sh.getD (u.ah.getD 0 default).sh.toNat [])<|mO B0<|sh.getD (u.ah.getD 1 default).sh.toNat []) (V:=m+1) (K:=K) (L:=134) ((fi O.2.2.1).mul<|fi E2.2.2.1) z.mul.norm.1 z.Vj (by have:=z.mul.norm.2;unfold lP;omega) hK E) W ?_;refine II W<|vf (k+1) E E ⟨⟨W,W,.le<|ar.refl _⟩,⟨W,W,.le<|ar.refl _⟩,⟨W,W,.le<|ar.refl _⟩,⟨W,W,.box<|.agg<|.cons (.le<|ar.refl _)<|.cons (.row ?_)<|.cons (.le<|ar.refl _) .nil⟩,⟨W,W,.le<|ar.refl _⟩,⟨W,W,.le<|ar.refl _⟩,⟨W,W,.le<|ar.refl _⟩,U⟩;dsimp only;rw[a,afO];exact o6.refl _
  have b:¬u.kind=bq:=b;rw[if_neg b]at a;refine qp W<|again (k+1) E E ⟨G,G,G,⟨W,ar.of_eq<|congrArg (λr=>SV.box true<|zQ ⟨kO p.aa p.aa.length,r,kD p.aa p.aa.length⟩) a.symm⟩,G,G,G,U⟩
 have:k=(az p.aa).length:=E;subst this;refine bN W W
end Go.Ai
section
namespace Go.Ai
open Go.Proofs Go.RowKit
def tB{p q:Rat}:CV p q<=0↔p<=q:=by
 have a:(p-q).num<=0↔0<=(-(p-q)).num:=by rw[ahF];omega
 unfold CV;rw[Int.sign_nonpos_iff,a,agH];constructor<;>grind
def HU(q:Rat)(n m:Nat):q^(n+m)=q^n*q^m:=by
 induction m with
 |zero=>rw[ag0];grind
 |succ m a=>rw[ag1];grind
def Sz.pow{q:Rat}{K:Nat}(h:Sz q K):∀n,Sz (q^n) (K*n+1)
 |0=>by exact⟨by simp[iG],by simp[iG]⟩
 |n+1=>by have:=(Sz.pow h n).mul h;rw[ag1];exact this.mono (by rw[Nat.mul_succ];omega)
def Ei(q:Rat)(n:Nat){K:Nat}(h:Sz q K)(hn:n<2^40)(u:2*(K*(2*n)+1)<2^34):aM Tryz.prog 89 [.s<|qt q,.i n] (.s<|qt<|q^n):=by
 refine bS Tryz.func89 W<|bQ W W (λj=>absurd j E) λ_=>?_;refine r0 W<|oB (λ(k d e:Nat)=>[(0,.s<|qt<|q^d),(1,.i k),(5,.s<|qt<|q^e)]) (λk d e=>k<=n/\e+d*k=n/\(k=0\/d<=n)) (λk _ _=>k) n 1 0 ⟨adp _,E,E⟩
  ⟨⟨W,ar.of_eq<|congrArg SV.s<|by rw[ag1,ag0,Rat.one_mul]⟩,G,⟨W,ar.of_eq<|congrArg SV.s<|by rw[ag0,KH]⟩,U⟩ ?_
 rintro k d e⟨r,he,t⟩;refine bQ W W ?_ ?_<;>intro j
 ·have v:0<k:=E;have p:K*d+1<=K*(2*n)+1:=agh (afr _ E) 1;have o:K*e+1<=K*(2*n)+1:=agh (afr _ E) 1;have b:=(h.pow d).mono p;have m:=(h.pow e).mono o;have f:k=2*(k/2)+k%2:=E;have c:d*k=2*d*(k/2)+d*(k%2):=by
   conv=>lhs;rw[f,ag2]
   rw[aeO 2 d,afl]
  have l:q^d*q^d=q^(2*d):=by rw[<-HU];congr 1;omega
  refine r1 W a7<|gb W ?_ ?_<;>intro a
  ·have a:k%2=1:=by
    have a:(k:Int).tmod 2=1:=a;have:(k:Int).tmod 2=((k%2:Nat):Int):=W;omega
   rw[a,Nat.mul_one]at c;refine bP W W (gi (q^e) (q^d) m b E) W<|bP W W (gi (q^d) (q^d) b b E) W<|r1 W a7<|again (k/2,2*d,e+d) (by dsimp only;omega) ⟨by dsimp only;omega,by dsimp only;omega,?_⟩ ⟨⟨W,ar.of_eq<|congrArg SV.s<|by rw[l]⟩,G,⟨W,ar.of_eq<|congrArg SV.s<|by rw[HU]⟩,U⟩;dsimp only;rcases afd (k/2)with g|g
   ·exact .inl g
   have:2*d<=2*d*(k/2):=aie _ g;exact .inr E
  have a:k%2=0:=by have a:¬(k:Int).tmod 2=1:=a;have:(k:Int).tmod 2=((k%2:Nat):Int):=W;omega
  rw[a,Nat.mul_zero]at c;refine bP W W (gi (q^d) (q^d) b b E) W<|r1 W a7<|again (k/2,2*d,e) (by dsimp only;omega) ⟨by dsimp only;omega,by dsimp only;omega,?_⟩ ⟨⟨W,ar.of_eq<|congrArg SV.s<|by rw[l]⟩,G,G,U⟩;dsimp only;rcases afd (k/2)with g|g
  ·exact .inl g
  have:2*d<=2*d*(k/2):=aie _ g;exact .inr E
 have:k=0:=E;subst this;refine bK W W<|ar.of_eq<|congrArg SV.s<|by rw[show e=n from E]
def iK(n:Int):Rat:=if n<0 then((2:Rat)^(-n).toNat)⁻¹ else(2:Rat)^n.toNat
def two_pos:(0:Rat)<2:=fh
def vR(n:Nat):(0:Rat)<(2:Rat)^n:=by
 induction n with
 |zero=>rw[ag0];decide
 |succ n a=>rw[ag1];exact Rat.mul_pos a two_pos
def s8(n:Int):0<iK n:=by
 unfold iK;split
 ·exact ahn.2<|vR _
 exact vR _
def QA(n:Int):iK (n+1)=iK n*2:=by
 unfold iK;rcases ahH n (-1)with h|h|h
 ·rw[show(-n).toNat=(-(n+1)).toNat+1 from E]
  grind
 ·subst h;have a:(-(-1:Int)).toNat=0+1:=W;rw[a];grind
 rw[if_neg E,if_neg E,show(n+1).toNat=n.toNat+1 from E,ag1]
def abg(n:Int)(k:Nat):iK (n+k)=iK n*(2:Rat)^k:=by
 induction k with
 |zero=>rw[ag0];simp
 |succ k a=>rw[show n+((k+1:Nat):Int)=n+k+1 from E,QA];grind
def Ic(n:Nat):(1:Rat)<=(2:Rat)^n:=by
 induction n with
 |zero=>rw[ag0];simp_all
 |succ n a=>rw[ag1];grind
def nM{m n:Int}(h:m<=n):iK m<=iK n:=by
 obtain⟨k,rfl⟩:∃k:Nat,n=m+k:=⟨(n-m).toNat,E⟩;rw[abg];have b:=Ic k;have a:=s8 m;have:=ag3 b<|afB a
 grind
def o4(a:Rat)(e:Int):Prop:=iK e<=a/\¬iK (e+1)<=a
def Dt{a:Rat}{e f:Int}(h:o4 a e)(g:o4 a f):e=f:=by
 rcases ahH e f with k|k|k
 ·exact absurd (ags (nM E) g.1) h.2
 ·exact k
 exact absurd (ags (nM E) h.1) g.2
open Classical in
noncomputable def wI(a:Rat):Int:=if h:∃e,o4 a e then h.choose else 0
def jJ{a:Rat}{e:Int}(h:o4 a e):wI a=e:=by unfold wI;rw[dif_pos ⟨e,h⟩];exact Dt (Exists.choose_spec (⟨e,h⟩:∃e,o4 a e)) h
def Bb:Sz 2 1:=⟨by rw[show(2:Rat).num.natAbs=2 from W,mz (f:=2) fh fh];decide,by rw[show(2:Rat).den=1 from W,iG];decide⟩
def Sz.iK(n:Int):Sz (iK n) (n.natAbs+2):=by
 unfold Go.Ai.iK;split
 ·have:=(Bb.pow (-n).toNat).inv;exact this.mono E
 exact(Bb.pow n.toNat).mono E
def Qw:qt 2=[50]:=by have:=nL 2;rw[show((2:Int):Rat)=2 from W]at this;rw[this];unfold cK;rw[cC fh];show decl 0 0++[RU 2]=[50];rw[dp];decide
def rU(n:Int)(h:n.natAbs<2^30):aM Tryz.prog 29 [.i n] (.s<|qt<|iK n):=by
 refine bS Tryz.func29 W<|bQ W W ?_ ?_<;>intro b
 ·have e:(0:Int)-n=((-n).toNat:Nat):=E;have a:=Ei 2 (-n).toNat Bb E E;rw[Qw]at a;refine r1 W aX<|cl W (by rw[e];rfl) a W ?_;refine bG W (pq ((2:Rat)^(-n).toNat) (Bb.pow _) E (by have:=vR (-n).toNat;grind)) W ?_;refine bK W W<|ar.of_eq<|congrArg SV.s<|by unfold iK;rw[if_pos b]
 have e:n=(n.toNat:Nat):=E;have a:=Ei 2 n.toNat Bb E E;rw[Qw]at a;refine r0 W<|JJ (us:=[.s [50],.i (n.toNat:Nat)]) W W U ⟨W,congrArg SV.i e,U⟩ a W<|bK W W<|ar.of_eq<|congrArg SV.s<|by unfold iK;rw[if_neg b]
def KF{q:Rat}(h:0<q):q<=(q.num:Rat):=by
 have b:q*(q.den:Rat)=(q.num:Rat):=by
  have:=Rat.num_divInt_den q;rw[ahk,agX]at this
  grind
 have a:(1:Rat)<=(q.den:Rat):=by
  have:=q.den_nz;have:1<=q.den:=E
  exact_mod_cast this
 have:=ag3 a<|afB h
 grind
def Lx{n k:Nat}(h:(ae n).length<=k):n<2^(30*k):=by
 have c:=cw n;have d:(1000000000:Nat)^(ae n).length<=1000000000^k:=ae2 fh h;have b:(n:Int)<((1000000000^(ae n).length:Nat):Int):=by rw[agI];exact c
 have a:(1000000000:Nat)^k<=(2^30)^k:=agW fh k;rw[<-agn]at a;omega
def qB{q:Rat}{K:Nat}(h:0<q)(hs:Sz q K):q<iK ((30*K:Nat):Int):=by
 have e:=KF h;have f:=agH.2<|afB h;have a:=Lx hs.1;have d:(q.num:Rat)=((q.num.natAbs:Nat):Rat):=by rw[<-agX];congr 1;omega
 have c:((q.num.natAbs:Nat):Rat)<((2^(30*K):Nat):Rat):=by exact_mod_cast a
 have b:iK ((30*K:Nat):Int)=(2:Rat)^(30*K):=by unfold iK;rw[if_neg E];rfl
 grind
def Uk(n:Int):(iK n)⁻¹ =iK (-n):=by
 unfold iK;rcases ahH n 0 with h|h|h
 ·rw[if_pos h,if_neg E,Rat.inv_inv]
 ·subst h;rw[if_neg fh];show((2:Rat)^0)⁻¹ =(2:Rat)^0;rw[ag0];grind
 rw[if_neg E,if_pos E,Int.neg_neg]
def vP{q:Rat}{K:Nat}(h:0<q)(hs:Sz q K):iK (-((30*(K+1):Nat):Int))<q:=by
 have j:=qB (ahn.2 h) hs.inv;rw[<-Uk];have i:=s8 ((30*(K+1):Nat):Int);have g:=Rat.mul_inv_cancel q (by grind);have f:iK ((30*(K+1):Nat):Int)*(iK ((30*(K+1):Nat):Int))⁻¹ =1:=Rat.mul_inv_cancel _ (by grind);have e:=ahn.2 i;generalize iK ((30*(K+1):Nat):Int)=x at*;generalize x⁻¹ =y at*;generalize q⁻¹ =r at*;have d:=Rat.mul_pos e h;have a:=Rat.mul_lt_mul_of_pos_left j d;have c:(y*q)*r=y:=by rw[ahM,g,agt]
 have b:(y*q)*x=q:=by rw[agJ y q,ahM,agJ y x,f,agt]
 rw[c,b]at a;exact a
def Ji{q:Rat}{K:Nat}{e:Int}(h:0<q)(hs:Sz q K)(he:o4 q e): -(30*(K+1:Int))-1<=e/\e<=30*K:=by
 have b:=qB h hs;have a:=vP h hs;obtain⟨g1,g2⟩:=he;constructor
 ·rcases Decidable.em (e+1< -((30*(K+1):Nat):Int))with g|g
  ·exact absurd (ags (nM<|afh g)<|afB a) g2
  omega
 rcases Decidable.em (((30*K:Nat):Int)<e)with g|g
 ·have:=nM (afh g);exact absurd (ags this g1)<|ahN.2 b
 omega
def sC(a:Rat){K:Nat}(j:0<a)(hs:Sz a K)(u:K<2^20):(∃e,o4 a e)/\aM Tryz.prog 235 [.s<|qt a] (.i<|wI a):=by
 have r:=qB j hs;have k:=vP j hs;have c:∀e:Int,iK e<=a->e<30*K:=by
  intro e he;rcases Decidable.em (e<30*K)with g|g
  ·exact g
  exact absurd (ags (nM<|show((30*K:Nat):Int)<=e from E) he)<|ahN.2 r
 have f:∀e:Int,¬iK e<=a-> -((30*(K+1):Nat):Int)<e:=by
  intro e he;rcases Decidable.em (-((30*(K+1):Nat):Int)<e)with g|g
  ·exact g
  exact absurd (ags (nM E)<|afB k) he
 have d:∃e,o4 a e:=by
  have:∀(n:Nat)(e:Int),iK e<=a->30*(K:Int)-e<=n->∃e,o4 a e:=by
   intro n
   induction n with
   |zero=>intro e he hn;exact absurd (c e he) E
   |succ n l=>
    intro e he hn;by_cases g:iK (e+1)<=a
    ·exact l (e+1) g E
    exact⟨e,he,g⟩
  exact this (30*(K:Int)+((30*(K+1):Nat):Int)).toNat _ (afB k) E
 refine⟨d,?_⟩;obtain⟨b,o⟩:=d;have m:=jJ o;refine bS Tryz.func235 W<|CP 3 (λe:Int=>[(0,.s<|qt a),(3,.i e)]) (λe=>0<=e/\e<=30*K/\¬iK e<=a) ?_ ?_
 ·refine r0 W<|ra (λe:Nat=>[(0,.s<|qt a),(3,.i e)]) (λe=>(e:Int)<=30*K) (λe=>30*K-e) 0 E ?_;intro e he;refine bP W W (rU e E) W<|bP W W (tA (iK e) a (Sz.iK e) hs E) W<|bQ W W ?_ ?_<;>intro h
  ·have h:=c _ (tB.1 h);refine r1 W a7<|gS (e+1) E
  have h:¬iK e<=a:=λg=>h<|tB.2 g;refine r0 W<|il (e:Int) ⟨E,he,h⟩
 rintro t⟨v,q,p⟩;refine r0 W<|ra (λe:Int=>[(0,.s<|qt a),(3,.i e)]) (λe=>¬iK (e+1)<=a/\e<=30*K/\ -((30*(K+1):Nat):Int)<=e) (λe=>(e+((30*(K+1):Nat):Int)).toNat) t ⟨λg=>p<|ags (nM E) g,q,E⟩ ?_;rintro e⟨g1,g2,w⟩;refine bP W W (rU e E) W<|bP W W (tA (iK e) a (Sz.iK e) hs E) W<|bQ W W ?_ ?_<;>intro h
 ·have h:¬iK e<=a:=λg=>by have:=tB.2 g;omega
  have:=f e h;refine r1 W a7<|gS (e-1) ⟨by rw[show e-1+1=e from E];exact h,E,E⟩
 have h:iK e<=a:=tB.1 E;refine bK W W<|bR<|(jJ ⟨h,g1⟩).symm
end Go.Ai
end
namespace Go.Ai
open Go.Proofs Go.RowKit
section
variable{n:Int}{K:Nat}{p q:Rat}{s:fD}
def oI(q:Rat):0<=mD q:=by
 unfold mD;split
 ·rename_i h;have:0<=(-q).num:=by rw[ahF];omega
  exact agH.1 this
 simp_all
def Sz.mD(h:Sz q K):Sz (mD q) K:=by
 unfold Go.Ai.mD;split
 ·exact h.neg
 exact h
def Sz.An(h:Sz p K)(g:Sz q K):Sz (An p q) K:=by
 unfold Go.Ai.An;split
 ·exact h
 exact g
def Iw(h:0<=p)(g:0<=q):0<=An p q:=by
 unfold An;split
 ·exact h
 exact g
noncomputable def abO(a:Rat)(dH:Int):Int:=if a=0 then 40 else min 40 (wI<|iK dH/a)
def BZ{a:Rat}(h:0<=a)(b:a≠0)(dH:Int):0<iK dH/a:=by
 refine Rat.mul_pos (s8 _)<|ahn.2 ?_
 grind
def zD(a:Rat)(dH:Int)(h:0<=a)(hs:Sz a K)(hm:0<=dH/\dH<=40)(d:K<=1000):aM Tryz.prog 146 [.s<|qt a,.i dH] (.i<|abO a dH)/\ -40000<=abO a dH/\abO a dH<=40:=by
 have c:a≠0->Sz (iK dH/a) (42+K+1):=λf=>((Sz.iK dH).mono E).div hs;constructor
 ·refine bS Tryz.func146 W<|bP W W (mY a) W<|ni W W W ?_ ?_<;>intro b
  ·have b:a=0:=by simpa using b
   refine bK W W<|ar.of_eq<|congrArg SV.i<|by unfold abO;rw[if_pos b]
  have b:¬a=0:=by simpa using b
  refine bP W W (rU dH E) W<|bP W W (O5 (iK dH) a (Sz.iK dH) hs E b) W<|bG W (sC (iK dH/a) (BZ h b dH) (c b) E).2 W<|bK W W<|bR ?_;unfold abO;rw[if_neg b];rfl
 unfold abO;split
 ·omega
 rename_i b;obtain⟨e,he⟩:=(sC (iK dH/a) (BZ h b dH) (c b) E).1;have:=Ji (BZ h b dH) (c b) he;rw[jJ he];omega
def XI(s:fD):Prop:=aL s.lo=0/\aL s.hi=0
noncomputable def Gm(s:fD):Rat:=An (mD<|bV s.lo)<|mD<|bV s.hi
def K6(h:XI s):Sz (Gm s) 67:=(fi h.1).mD.An (fi h.2).mD
def uQ(s:fD):0<=Gm s:=Iw (oI _)<|oI _
def uc(s:fD)(h:XI s):aM Tryz.prog 37 [dX s] (.s<|qt<|Gm s):=by have b:=pV (bV s.lo)<|(fi h.1).tQ fh;have a:=pV (bV s.hi)<|(fi h.2).tQ fh;rw[fZ h.1]at b;rw[fZ h.2]at a;refine bS Tryz.func37 W<|bO W W b W<|bO W W a W<|bH W (KY (mD<|bV s.lo) (mD<|bV s.hi) (fi h.1).mD (fi h.2).mD fh) W<|k0 W aW<|bF W
structure fE where
 c:Int
 d:Int
 s:Int
 g:Int
def dz(b:fE):SV:=.agg [.i b.c,.i b.d,.i b.s,.i b.g]
def qT(b:fE):List Int:=[b.c,b.d,b.s,b.g]
def od(b:fE):Int:=aK (λx:Int=>if x<0\/40<x then 3 else 0)<|qT b
structure J9(b:fE):Prop where
 c:0<=b.c/\b.c<=40
 d:0<=b.d/\b.d<=40
 s:0<=b.s/\b.s<=40
 g:0<=b.g/\b.g<=40
def Ab{b:fE}:od b=0↔J9 b:=by
 unfold od qT;rw[dK];have f:∀x:Int,(if x<0\/40<x then(3:Int)else 0)=0↔0<=x/\x<=40:=by intro x;split<;>omega
 simp;exact⟨λ⟨e,d,c,a⟩=>⟨e,d,c,a⟩,λ⟨e,d,c,a⟩=>⟨e,d,c,a⟩⟩
def yz(b:fE):aM Tryz.prog 46 [dz b] (.i<|od b):=by
 refine bS Tryz.func46 W<|r0 W<|ra (λi:Nat=>[(3,.ints .i64 true<|qT b),(4,.i i)]) (λi=>i<=(qT b).length/\od b=aK (λx:Int=>if x<0\/40<x then 3 else 0) ((qT b).drop i)) (λi=>(qT b).length-i) 0 ⟨adk _,W⟩ ?_;rintro i⟨hi,a⟩;have l:(qT b).length=4:=W;refine bQ W W ?_ ?_<;>intro k
 ·have c:i<(qT b).length:=E;have d:(i:Int).toNat=i:=E;have j:(qT b).getD i 0=(qT b)[i]:=au c;rw[dA _ c]at a;refine r1 W (by simp[bo,and_true,d]<;>omega) ?_;rw[d,j];generalize (qT b)[i]=x at*;refine aC 25 W ?_ ?_<;>intro h
  ·have e:(if x<0\/40<x then(3:Int)else 0)=3:=if_pos (.inl h);simp[e]at a;refine bK W W<|ar.of_eq<|congrArg SV.i a.symm
  refine r1 W (by simp[bo,and_true,d]<;>omega) ?_;rw[d,j];refine gb W ?_ ?_<;>intro f
  ·have e:(if x<0\/40<x then(3:Int)else 0)=3:=if_pos (.inr f);simp[e]at a;refine bK W W<|ar.of_eq<|congrArg SV.i a.symm
  have e:(if x<0\/40<x then(3:Int)else 0)=0:=if_neg (by rintro(g|g)<;>contradiction);simp[e]at a;refine r1 W a7<|gS (i+1) ⟨E,a⟩
 refine bK W W<|bR ?_;rw[a,afi E];rfl
noncomputable def jR(n:Int)(rs:List fD):Int:=if(rs.length:Int)≠n then 2 else aK iz rs
def yW(h:iz s=0):XI s:=by
 unfold iz at h;split at h
 ·contradiction
 rename_i b;split at h
 ·contradiction
 rename_i a;exact⟨by simpa using b,by simpa using a⟩
structure Vc(n:Int)(rs:List fD):Prop where
 len:(rs.length:Int)=n
 val:∀s∈rs,XI s
def FP{rs:List fD}(h:jR n rs=0):Vc n rs:=by
 unfold jR at h;split at h
 ·cases h
 rename_i a;exact⟨by simpa using a,λs hs=>yW<|dK.1 h s hs⟩
noncomputable def Px(rs:List fD)(b:fE)(s:Nat):Int:=abO (Gm<|rs.getD s default) b.s
noncomputable def IT(rs:List fD)(f:Hi):Rat:=mD<|bV f.dZ*Gm (rs.getD f.sh.toNat default)
noncomputable def tM(rs:List fD)(b:fE)(u:bT)(i:Nat):Int:=abO (IT rs<|u.ah.getD i default)<|if u.kind=bq/\i=0 then b.d else b.s
def jo(rs:List fD)(b:fE)(u:bT)(i:Nat)(hu:iQ n u)(hi:i<u.ah.length)(l:Vc n rs)(hl:rs.length<2^40)(v:u.ah.length<2^40)(f:J9 b):
 aM Tryz.prog 71 [.bA false 2 default dX rs,dz b,dQ u,.i i] (.i<|tM rs b u i)/\ -40000<=tM rs b u i/\tM rs b u i<=40:=by
 have k:=hu.feed _<|bw (d:=default) hi;have t:=l.len;have hm:=l.val _<|bw (d:=default)<|show(u.ah.getD i default).sh.toNat<rs.length from E;have c:Sz (bV (u.ah.getD i default).dZ*Gm (rs.getD (u.ah.getD i default).sh.toNat default)) (67+67):=(fi k.2.2.1).mul<|K6 hm;have w:0<=IT rs (u.ah.getD i default):=oI _;have hs:Sz (IT rs<|u.ah.getD i default) (67+67):=c.mD;have a:=gi (bV (u.ah.getD i default).dZ) (Gm<|rs.getD (u.ah.getD i default).sh.toNat default) (fi k.2.2.1) (K6 hm) fh;rw[fZ k.2.2.1]at a;have j:∀m:Int,0<=m/\m<=40->aM Tryz.prog 146 [.s<|qt<|IT rs<|u.ah.getD i default,.i m] (.i<|abO (IT rs<|u.ah.getD i default) m)/\ -40000<=abO (IT rs<|u.ah.getD i default) m/\abO (IT rs<|u.ah.getD i default) m<=40:=λm hm=>zD (IT rs<|u.ah.getD i default) m w hs hm fh;have e:0<=(if u.kind=bq/\i=0 then b.d else b.s)/\(if u.kind=bq/\i=0 then b.d else b.s)<=40:=by split;exact f.d;exact f.s
 refine⟨?_,(j _ e).2⟩;have r:(i:Int).toNat=i:=E;refine bS Tryz.func71 W<|r1 W (by simp only[bo,and_true,r]<;>omega) ?_;refine bH W (uc (rs.getD (u.ah.getD i default).sh.toNat default) hm) W<|r1 W (by simp[bo,and_true,r]<;>omega) ?_;refine bH W a W<|bO W W (pV (bV (u.ah.getD i default).dZ*Gm (rs.getD (u.ah.getD i default).sh.toNat default))<|c.tQ fh) W<|k0 W aW<|aC 31 W ?_ ?_<;>intro h
 ·have h:u.kind=bq:=h;refine bQ W W ?_ ?_<;>intro o
  ·have hc:u.kind=bq/\i=0:=⟨h,E⟩;refine bP W W (j b.d f.d).1 W<|bK W W<|ar.of_eq<|congrArg SV.i<|by unfold tM;rw[if_pos hc]
  have hc:¬(u.kind=bq/\i=0):=λg=>o E;refine bP W W (j b.s f.s).1 W<|bK W W<|ar.of_eq<|congrArg SV.i<|by unfold tM;rw[if_neg hc]
 have hc:¬(u.kind=bq/\i=0):=λg=>h g.1;refine bP W W (j b.s f.s).1 W<|bK W W<|ar.of_eq<|congrArg SV.i<|by unfold tM;rw[if_neg hc]
end
structure iV where
 less:Int
 qf:Int
 dH:Int
 deriving Inhabited
def iU(c:iV):SV:=.agg [.i c.less,.i c.qf,.i c.dH]
noncomputable def yw(rs:List fD)(b:fE)(s:Nat):List iV:=[⟨s,-1,Px rs b s⟩,⟨-1,s,40⟩]
noncomputable def CU(rs:List fD)(b:fE)(u:bT):List iV:=
 [⟨-1,-1,tM rs b u 0+40⟩,⟨(u.ah.getD 0 default).sh,-1,tM rs b u 0+b.g⟩,⟨-1,(u.ah.getD 0 default).sh,b.g-tM rs b u 0⟩,⟨u.out,-1,tM rs b u 1+tM rs b u 0-b.c⟩,
  ⟨-1,u.out,40+b.c-tM rs b u 0⟩,⟨u.out,(u.ah.getD 1 default).sh,b.g+tM rs b u 0-b.c⟩,⟨(u.ah.getD 1 default).sh,u.out,b.g-tM rs b u 0+b.c⟩]
noncomputable def qR(rs:List fD)(b:fE)(u:bT)(k:Nat):List iV:=[⟨u.out,-1,tM rs b u k⟩,⟨u.out,(u.ah.getD k default).sh,b.g⟩,⟨(u.ah.getD k default).sh,u.out,b.g⟩]
noncomputable def GS(n:Int)(rs:List fD)(b:fE)(u:bT):List iV:=[⟨n,-1,tM rs b u 0⟩,⟨-1,n,40⟩,⟨n,(u.ah.getD 0 default).sh,b.g⟩,⟨(u.ah.getD 0 default).sh,n,b.g⟩]
noncomputable def ry(n:Int)(rs:List fD)(b:fE)(u:bT):List iV:=if u.kind=bq then CU rs b u else if u.kind=jz then(List.range u.ah.length).flatMap (qR rs b u)else if u.kind=dy then GS n rs b u else[]
def eR(us:List bT)(i:Nat):Nat:=(us.take i).countP λu=>decide (u.kind=dy)
def kp{us:List bT}{i:Nat}(h:i<us.length):eR us (i+1)=eR us i+if us[i].kind=dy then 1 else 0:=by unfold eR;rw[aey h,agZ];by_cases g:us[i].kind=dy<;>simp
def qQ(us:List bT)(i:Nat):eR us i<=i:=ad0 agG (by simp;omega)
noncomputable def kZ(rs:List fD)(b:fE)(s:Nat):List iV:=(List.range s).flatMap<|yw rs b
noncomputable def jM(n:Nat)(us:List bT)(rs:List fD)(b:fE)(i:Nat):List iV:=kZ rs b n++(List.range i).flatMap λj=>ry ((n+eR us j:Nat):Int) rs b<|us.getD j default
noncomputable def iv(n:Nat)(us:List bT)(rs:List fD)(b:fE):List iV:=jM n us rs b us.length
def iM{α:Type}(f:Nat->List α)(i:Nat):(List.range<|i+1).flatMap f=(List.range i).flatMap f++f i:=by rw[ah3];simp
def cS{α:Type}{f:Nat->List α}{c:Nat}(h:∀i,(f i).length<=c):∀n,((List.range n).flatMap f).length<=n*c
 |0=>I
 |n+1=>by have:=cS h n;have:=h n;rw[iM,aeP,ahJ];omega
def oa(n:Nat)(us:List bT)(rs:List fD)(b:fE)(i:Nat):jM n us rs b (i+1)=jM n us rs b i++ry ((n+eR us i:Nat):Int) rs b (us.getD i default):=by unfold jM;rw[iM,aeZ]
end Go.Ai
namespace Go.Ai.eE
section
variable{l:List Int}{m n:Nat}
def B9:Nat:=18446744073709551616
def ae(n:Nat):List Int:=if h:n=0 then[]else((n%B9:Nat):Int)::ae (n/B9)
 termination_by n
 decreasing_by exact afP (af0 h) fh
def val:List Int->Int
 |[]=>0
 |d::l=>d+18446744073709551616*val l
def gX(l:List Int):Prop:=∀d∈l,0<=d/\d<18446744073709551616
def dm:ae 0=[]:=by rw[ae];simp
def ai(n:Nat):val (ae n)=n:=by
 induction n using Nat.strongRecOn with
 |_ n b=>
  rw[ae];split
  ·rename_i h;subst h;rfl
  rename_i h;have a:n/B9<n:=afP (af0 h) fh;simp[val,b _ a];unfold B9;omega
def eC(n:Nat):gX (ae n):=by
 induction n using Nat.strongRecOn with
 |_ n c=>
  rw[ae];split
  ·intro d a;cases a
  rename_i h;have b:n/B9<n:=afP (af0 h) fh;intro d a;rcases adZ.1 a with rfl|a
  ·unfold B9;omega
  exact c _ b d a
def bm:∀{l:List Int},gX l->0<=val l
 |[],_=>by simp[val]
 |d::l,h=>by have c:=h d I;have b:=bm (l:=l) λx a=>h x (by simp[a]);simp[val];omega
def eO(l:List Int)(d:Int):val (l++[d])=val l+d*18446744073709551616^l.length:=by
 induction l with
 |nil=>simp[val]
 |cons x l a=>simp[val,a,ae1];grind
def ic:∀{l:List Int},gX l->val l<18446744073709551616^l.length
 |[],_=>by simp[val]
 |d::l,h=>by have c:=h d I;have b:=ic (l:=l) λx a=>h x (by simp[a]);simp[val];omega
def sJ:∀{l:List Int},gX l->l.getLast?≠some 0->ae (val l).toNat=l
 |[],_,_=>by simp[val,dm]
 |d::l,h,e=>by
  have p:=h d I;have hl:gX l:=λx f=>h x (by simp[f]);have o:=bm hl;have b:l.getLast?≠some 0:=by grind
  have a:=sJ hl b;have c:(val<|d::l).toNat≠0:=by
   simp only[val];intro q;have i:d=0:=E;have g:val l=0:=E;cases l with
   |nil=>subst i;simp at e
   |cons x l=>rw[g]at a;simp[dm]at a
  rw[ae,dif_neg c];have k:(((val<|d::l).toNat%B9:Nat):Int)=d:=by simp[val];unfold B9;omega
  have j:(val<|d::l).toNat/B9=(val l).toNat:=by simp[val];unfold B9;omega
  rw[k,j,a]
def tw(h:gX l)(a:l.getLast?≠some 0)(b:val l=n):l=ae n:=by have:=sJ h a;simp_all
def pJ(n:Nat):(ae n).getLast?≠some 0:=by
 induction n using Nat.strongRecOn with
 |_ n c=>
  rw[ae];split
  ·simp
  rename_i h;have b:n/B9<n:=afP (af0 h) fh;have:=c _ b;cases hl:ae (n/B9)with
  |nil=>intro he;have a:=ai<|n/B9;rw[hl]at a;simp[val]at a;simp at he;unfold B9 at he a;omega
  |cons x l=>simp_all
def aI(l:List Int)(i:Nat):val (l.take<|i+1)=val (l.take i)+l.getD i 0*18446744073709551616^i:=by
 by_cases h:i<l.length
 ·rw[aey h,eO]
  grind
 rw[adM E,adM E];simp_all
def bf(h:gX l)(i:Nat):0<=l.getD i 0/\l.getD i 0<18446744073709551616:=by
 by_cases hi:i<l.length
 ·have:=h l[i] (adC hi);simp_all
 simp_all
def dE(n:Nat):(0:Int)<18446744073709551616^n:=Int.pow_pos fh
def qF(h:gX l)(hl:l.getLast?≠some 0):l=[]\/18446744073709551616^(l.length-1)<=val l:=by
 rcases aiv l with rfl|⟨l,d,rfl⟩
 ·exact .inl W
 right;rw[aiw]at*;rw[eO];have e:=bm (l:=l) λx a=>h x (by simp[a]);have c:=h d I;simp at hl;simp;have b:=dE l.length;have:1*18446744073709551616^l.length<=d*18446744073709551616^l.length:=af4 E E;omega
def gw(n:Nat):ae n=[]\/(18446744073709551616:Int)^((ae n).length-1)<=n:=by have:=qF (eC n)<|pJ n;rwa[ai]at this
def cW:List Int->List Int
 |[]=>[]
 |d::l=>match cW l with
  |[]=>if d=0 then[]else[d]
  |x::r=>d::x::r
def mg:∀l:List Int,cW (l++[0])=cW l
 |[]=>by simp[cW]
 |d::l=>by simp[cW,mg l]
def nD:∀{l:List Int},l.getLast?≠some 0->cW l=l
 |[],_=>rfl
 |[d],h=>by simp at h;simp[cW,h]
 |d::x::l,h=>by have:=nD (l:=x::l) h;rw[cW,this]
def ux{w:List Int}(hn:n+1=w.length)(h:w.getD n 0=0):cW (w.take n)=cW w:=by
 have e:w=w.take n++[0]:=by
  have a:n<w.length:=E;have c:w[n]=0:=eW;have b:=aey a
  grind
 conv=>rhs;rw[e,mg]
def o8:∀l:List Int,val (cW l)=val l
 |[]=>rfl
 |d::l=>by
  have a:=o8 l;simp[cW];split
  ·rename_i h;rw[h]at a;simp[val]at a⊢;split
   ·rename_i b;simp[val];omega
   simp[val];omega
  rename_i x r h;rw[h]at a;simp[val]at a⊢;omega
def ee(h:gX l):cW l=ae (val l).toNat:=by
 have e:gX (cW l)/\(cW l).getLast?≠some 0:=by
  induction l with
  |nil=>exact⟨h,by simp[cW]⟩
  |cons d l f=>
   obtain⟨i1,b⟩:=f λx c=>h x (by simp[c]);have g:=h d I;simp[cW];split
   ·split
    ·simp_all
    rename_i i;exact⟨λx c=>eW,by simpa using i⟩
   rename_i x r he;rw[he]at i1 b;exact⟨λy a=>by
    rcases adZ.1 a with rfl|a
    ·exact g
    exact i1 y a,b⟩
 rw[tw e.1 e.2 (n:=(val l).toNat) (by rw[o8];have:=bm h;omega)]
def gN(l:List Int)(k:Nat):val l=val (l.take k)+18446744073709551616^(l.take k).length*val (l.drop k):=by
 induction l generalizing k with
 |nil=>simp[val]
 |cons d l a=>
  cases k with
  |zero=>simp[val]
  |succ k=>simp[val];grind
def gA(h:gX l)(k:Nat):gX (l.take k):=λx a=>h x<|agA a
def cw(n:Nat):(n:Int)<18446744073709551616^(ae n).length:=by have:=ic<|eC n;rwa[ai]at this
def iF(h:n≠0):0<(ae n).length:=by rw[ae,dif_neg h];simp
def im{a b:Nat}(h:a<=b):(18446744073709551616:Int)^a<=18446744073709551616^b:=by obtain⟨k,rfl⟩:=Nat.exists_eq_add_of_le h;rw[af1];have c:=dE a;have d:=dE k;have:=afg (show(1:Int)<=18446744073709551616^k from E)<|afh c;omega
def cE(h:(ae m).length<(ae n).length):m<n:=by
 have c:=cw m;rcases gw n with a|a
 ·rw[a]at h;cases h
 have b:(18446744073709551616:Int)^(ae m).length<=18446744073709551616^((ae n).length-1):=im E;omega
def oc(m n:Nat):Int:=if m<n then -1 else if n<m then 1 else 0
def mv{k:Nat}(j:k<(ae m).length)(hl:(ae m).length=(ae n).length)(f:(ae m).drop (k+1)=(ae n).drop (k+1))(h:(ae m).getD k 0<(ae n).getD k 0):m<n:=by
 have a:=gN (ae m)<|k+1;have b:=gN (ae n)<|k+1;rw[ai,aI]at a b;rw[f]at a;have e:((ae m).take<|k+1).length=k+1:=by simp;omega
 have d:((ae n).take<|k+1).length=k+1:=by simp;omega
 rw[e]at a;rw[d]at b;have g:=ic<|gA (eC m) k;have o:=bm<|gA (eC n) k;have c:((ae m).take k).length=k:=by simp;omega
 rw[c]at g;have i:=dE k;have:((ae m).getD k 0+1)*18446744073709551616^k<=(ae n).getD k 0*18446744073709551616^k:=af4 E E
 grind
def kC:∀{l:List Int}{j:Nat}(y:Int),j<l.length->val (l.set j y)=val l+(y-l.getD j 0)*18446744073709551616^j
 |[],j,y,h=>by cases h
 |d::l,0,y,_=>by simp[val];omega
 |d::l,j+1,y,h=>by have:=kC (l:=l) (j:=j) y (by simpa using h);simp[val];grind
def eM(h:gX l){j:Nat}{y:Int}(b:0<=y/\y<18446744073709551616):gX (l.set j y):=by
 intro x a;rcases ah4 a with a|a
 ·exact h x a
 subst a;exact b
def cv(l:List Int)(j k:Nat)(y:Int):(l.set j y).getD k 0=if j=k/\k<l.length then y else l.getD k 0:=by grind
def iH(n:Nat):val (List.replicate n 0)=0:=by
 induction n with
 |zero=>rfl
 |succ n a=>simp[agR,val,a]
def fw(n:Nat):gX (List.replicate n 0):=λx a=>eW
def fK(n k:Nat):(List.replicate n (0:Int)).getD k 0=0:=by grind
end
def cZ:Nat->Int->Int->Int->Int->Int->Int
 |0,t,_,_,_,_=>t
 |k+1,t,r,v1,v2,u2=>if 18446744073709551616<=t\/r*18446744073709551616+u2<t*v2 then(if 18446744073709551616<=r+v1 then t-1 else cZ k (t-1) (r+v1) v1 v2 u2)else t
def gn{a b c:Int}(h:a<=b)(hc:0<=c):a*c<=b*c:=af4 h hc
def sx{v1 v2 u2 f P g s U V:Int}(q:0<P)(n:1<=v1)(u:0<=v2/\v2<18446744073709551616)(v:0<=u2/\u2<18446744073709551616)(m:0<=g/\g<P)(H:0<=s/\s<P)
 (C:V=v1*(18446744073709551616*P)+v2*P+g)(Q:U=f*(18446744073709551616*P)+u2*P+s)(L:U<18446744073709551616*V):
 ∀(k:Nat)(t r:Int),k=t.toNat->0<=t->0<=r->t*v1+r=f->U<(t+1)*V->U<(cZ k t r v1 v2 u2+1)*V/\(cZ k t r v1 v2 u2-1)*V<=U/\0<=cZ k t r v1 v2 u2/\cZ k t r v1 v2 u2<=t:=by
 have F:v2*P+g<18446744073709551616*P:=by
  have:=gn (show v2+1<=18446744073709551616 from E)<|afh q
  grind
 have z:0<=v2*P:=afs u.1 E;have w:0<V:=by have:=gn n (show 0<=18446744073709551616*P from E);omega
 have A:f<18446744073709551616*v1+18446744073709551616:=by
  have x:f*(18446744073709551616*P)<(18446744073709551616*v1+18446744073709551616)*(18446744073709551616*P):=by
   have h:0<=u2*P:=afs v.1 E
   grind
  exact ahc x E
 have i:∀t r:Int,0<=t->t<18446744073709551616->t*v1+r=f->t*v2<=r*18446744073709551616+u2->(t-1)*V<=U:=by
  intro t r l x h j;have O:t*V=t*v1*(18446744073709551616*P)+t*v2*P+t*g:=by rw[C];grind
  have N:t*v1*(18446744073709551616*P)=f*(18446744073709551616*P)-r*18446744073709551616*P:=by rw[<-h];grind
  have y:=gn j<|afh q;rw[ae7]at y;have M:t*g<=18446744073709551616*P:=by have a:=afg (afh m.2) l;have b:=gn (afh x)<|afh q;omega
  have R:=gn n (show 0<=18446744073709551616*P from E)
  grind
 have less:∀t r:Int,0<=t->t*v1+r=f->(18446744073709551616<=t\/r*18446744073709551616+u2<t*v2)->U<t*V:=by
  intro t r l h j;rcases j with j|j
  ·have:=gn j<|afh w;omega
  have O:t*V=t*v1*(18446744073709551616*P)+t*v2*P+t*g:=by rw[C];grind
  have N:t*v1*(18446744073709551616*P)=f*(18446744073709551616*P)-r*18446744073709551616*P:=by rw[<-h];grind
  have y:=gn (show r*18446744073709551616+u2+1<=t*v2 from E)<|afh q;rw[ae7,ae7]at y;have M:0<=t*g:=afs l m.1;omega
 intro k
 induction k with
 |zero=>intro t r K l J h B;have:t=0:=E;subst this;simp only[cZ];refine⟨B,?_,E,E⟩;exact i 0 r E E h E
 |succ k D=>
  intro t r K l J h B;simp[cZ];by_cases hc:18446744073709551616<=t\/r*18446744073709551616+u2<t*v2
  ·rw[if_pos hc];have hl:=less t r l h hc;have p:(t-1)*v1+(r+v1)=f:=by rw[afH];omega
   by_cases o:18446744073709551616<=r+v1
   ·rw[if_pos o];have e:t-1+1=t:=E;rw[e];refine⟨hl,?_,E,E⟩;have hs:t-1<18446744073709551616:=by
     have:(t-1)*v1<18446744073709551616*v1:=E;exact ahc this E
    refine i (t-1) (r+v1) E hs p ?_;have a:(t-1)*v2<=(t-1)*18446744073709551616:=afg E E;omega
   rw[if_neg o];have e:t-1+1=t:=E;obtain⟨a,b,c,d⟩:=D (t-1) (r+v1) E E E p (by rw[e];exact hl);omega
  grind
def eK{w:List Int}{j k:Nat}{y:Int}(h:j<=k):(w.set k y).take j=w.take j:=by rw[List.take_set_of_le h]
def mz{f:Nat}(c:0<f)(b:f<18446744073709551616):ae f=[(f:Int)]:=by
 refine(tw (λd a=>?_) ?_ ?_).symm
 ·simp at a;omega
 ·simp;omega
 simp[val]
end Go.Ai.eE
namespace Go.Ai.eE
open Go.Proofs Go.Ai
def I9{P:Program}{f:FuncId}{k:IntKind}{qs rs:List Int}(h:∀w:World,(callFunc f (qs.map λa=>Value.int k a).toArray).run P w=.ok (.value<|.tuple (rs.map λa=>Value.int k a).toArray) w):
 aM P f (qs.map λa=>SV.n k a) (.bW<|rs.map λa=>SV.n k a):=by
 intro w S b _ m hc;have d:∀(l:List Int)(b:List Value),Cells w S false (aB<|l.map λa=>SV.n k a) b []->b=l.map λa=>Value.int k a:=by
  intro l
  induction l with
  |nil=>intro b hc;exact hc.1
  |cons a l g=>intro b hc;obtain⟨y,i,s,r,rfl,q,_,j,hc⟩:=hc;obtain⟨rfl,rfl⟩:=agS.1 q.symm;rw[j.2.1,g i hc];rfl
 have e:=d qs b hc;subst e;have c:∀l:List Int,Cells w S false (aB<|l.map λa=>SV.n k a) (l.map λa=>Value.int k a) []:=by
  intro l
  induction l with
  |nil=>simp[aB,Cells]
  |cons a l g=>exact⟨_,_,[],[],W,W,I,by simp[SV.den,Rel,scalar],g⟩
 intro rd o a next Q p
 rw[h w];refine p _ _ ⟨S,[],Go.RowKit.Below.refl _ _,λ_ h=>h,λ_ h=>.inl h,m,?_,ae5,I⟩;exact⟨_,W,c rs⟩
def fA(x y c:Nat)(hc:c<=1):aM Tryz.prog 287 [.n .u64 x,.n .u64 y,.n .u64 c] (.bW [.n .u64 ((x+y+c)%2^64:Nat),.n .u64 ((x+y+c)/2^64:Nat)]):=by
 refine I9 (qs:=[(x:Int),y,c]) (rs:=[(((x+y+c)%2^64:Nat):Int),(((x+y+c)/2^64:Nat):Int)]) λw=>?_;refine(run_callFunc_extern (fn:=Tryz.f287) Tryz.func287 aW aW aW (e:=add64Entry) aW _ w).trans ?_;have:=run_add64 (P:=Tryz.prog) x y c E E E E w;simp only[afc,afZ];rw[this];simp only[Result.andThen]
 congr 4<;>simp
def pd(x y b:Nat)(a:b<=1):aM Tryz.prog 289 [.n .u64 x,.n .u64 y,.n .u64 b] (.bW [.n .u64 ((x+2^64-y-b)%2^64:Nat),.n .u64 ((if x<y+b then 1 else 0:Nat):Int)]):=by refine I9 (qs:=[(x:Int),y,b]) (rs:=[(((x+2^64-y-b)%2^64:Nat):Int),((if x<y+b then 1 else 0:Nat):Int)]) λw=>?_;refine(run_callFunc_extern (fn:=Tryz.f289) Tryz.func289 aW aW aW (e:=sub64Entry) aW _ w).trans ?_;have:=run_sub64 (P:=Tryz.prog) x y b a w;simp only[afc,afZ];rw[this];rfl
def dw(xs:List Int)(d:xs.length<2^60):aM Tryz.prog 288 [.ints .u64 false xs] (.ints .u64 false<|cW xs):=by
 refine bS Tryz.func288 W<|r0 W<|ra (λn:Nat=>[(0,.ints .u64 false xs),(3,.i n)]) (λn=>n<=xs.length/\cW (xs.take n)=cW xs) (λn=>n) xs.length ⟨adp _,by rw[afA]⟩ ?_;rintro n⟨hn,a⟩;refine bJ W 8 W ?_ ?_<;>intro h
 ·have e:(((n:Nat):Int)-1).toNat=n-1:=E;refine r1 W a7 ?_;rw[e];refine gb W ?_ ?_<;>intro b
  ·refine r1 W a7<|again (n-1) E ⟨E,?_⟩ ⟨G,⟨W,ar.of_eq<|congrArg SV.i E⟩,U⟩;rw[<-a];have:=ux (w:=xs.take n) (n:=n-1) (by rw[afm];omega) (by
    rw[adY,aht E,<-adY];exact b)
   rw[ahX,af3 E]at this;exact this
  have c:(n:Int).toNat=n:=E;refine r1 W a7<|aE W ?_;rw[c];refine ar.of_eq<|congrArg (SV.ints .u64 false) ?_;rw[afG,ahf,<-a];refine(nD ?_).symm;intro hl;rw[List.getLast?_eq_getElem?,afm,af3 hn,aht E]at hl;apply b;rw[adY,hl];rfl
 have:n=0:=E;subst this;refine r1 W a7<|aE W<|ar.of_eq<|congrArg (SV.ints .u64 false) ?_;rw[<-a];simp[cW]
def n8(m n:Nat)(j:(ae m).length<2^60)(g:(ae n).length<2^60):aM Tryz.prog 248 [.ints .u64 false<|ae m,.ints .u64 false<|ae n] (.i<|oc m n):=by
 refine bS Tryz.func248 W<|bQ W W ?_ ?_<;>intro h
 ·refine bQ W W ?_ ?_<;>intro f
  ·refine bK W W<|bR ?_;have:=cE (m:=m) (n:=n) E;simp[oc,this]
  refine bK W W<|bR ?_;have:=cE (m:=n) (n:=m) E;simp[oc];rw[if_neg E,if_pos this]
 have hl:(ae m).length=(ae n).length:=E;refine r1 W (by simp[bo,and_true];omega) ?_;refine loop (λi:Nat=>[(0,.ints .u64 false<|ae m),(1,.ints .u64 false<|ae n),(5,.i<|(i:Int)-1)]) (λi=>i<=(ae m).length/\(ae m).drop i=(ae n).drop i) (λi=>i) (ae m).length ⟨E,?_⟩
  ⟨G,G,G,U⟩ ?_
 ·rw[afi<|adp _,afi E]
 rintro i⟨hi,a⟩;refine bQ W W ?_ ?_<;>intro f
 ·obtain⟨k,rfl⟩:∃k,i=k+1:=⟨i-1,E⟩;have c:(((k+1:Nat):Int)-1).toNat=k:=E;refine k1 W aW (by simp[bo,and_true];omega) ?_;refine gb W ?_ ?_<;>intro d
  ·rw[c]at d;refine k1 W aW (by simp[bo,and_true];omega) ?_;refine gb W ?_ ?_<;>intro b
   ·rw[c]at b;refine bK W W<|bR ?_;have:=mv E hl a b;simp[oc,this]
   rw[c]at b;refine bK W W<|bR ?_;have:=mv E hl.symm a.symm E;simp[oc];rw[if_neg E,if_pos this]
  rw[c]at d;refine r1 W (by simp[bo,and_true];omega) ?_;refine again k (ahD _) ⟨E,?_⟩ ⟨G,G,⟨W,ar.of_eq<|congrArg SV.i E⟩,U⟩;have e:(ae m).getD k 0=(ae n).getD k 0:=E;rw[aeE<|show k<(ae m).length from E,aeE<|show k<(ae n).length from E,a]
  congr 1
  simpa[adY,aeF<|show k<(ae m).length from E,aeF<|show k<(ae n).length from E]using e
 have:i=0:=E;subst this;refine bK W W<|bR ?_;have e:ae m=ae n:=by simpa using a
 have:m=n:=by have:=congrArg val e;rw[ai,ai]at this;omega
 simp[oc,this]
def mw(n i:Nat):∃x:Nat,(ae n).getD i 0=x/\x<18446744073709551616:=by have:=bf (eC n) i;exact⟨((ae n).getD i 0).toNat,E,E⟩
def Df(m n:Nat)(H:(ae m).length<2^40)(F:(ae n).length<2^40):aM Tryz.prog 247 [.ints .u64 false<|ae m,.ints .u64 false<|ae n] (.ints .u64 false<|ae<|m+n):=by
 refine bS Tryz.func247 W<|wR 2 (λa b:Nat=>[(0,.ints .u64 false<|ae a),(1,.ints .u64 false<|ae b)]) (λa b=>a+b=m+n/\(ae b).length<=(ae a).length/\(ae a).length<2^40) ?_ ?_
 ·refine bQ W W ?_ ?_<;>intro h
  ·refine r0 W<|il (n,m) ⟨by dsimp only;omega,by dsimp only;omega,by dsimp only;omega⟩
  refine r0 W<|il (m,n) ⟨ff,by dsimp only;omega,by dsimp only;omega⟩
 rintro a b⟨hs,hl,D⟩;rw[<-hs];refine r1 W ba<|oB (λ(i:Nat)(out:List Int)(c:Nat)=>[(0,.ints .u64 false<|ae a),(1,.ints .u64 false<|ae b),(5,.ints .u64 true out),(6,.n .u64 c),(21,.i (ae a).length),(22,.i i)])
  (λi out c=>i<=(ae a).length/\gX out/\out.length=(ae a).length+1/\c<=1/\val out+c*18446744073709551616^i=val ((ae a).take i)+val ((ae b).take i)/\∀k,i<=k->out.getD k 0=0)
  (λi _ _=>(ae a).length-i) 0 (List.replicate ((ae a).length+1) 0) 0 ⟨adk _,fw _,I,E,by simp[val,iH],λk _=>fK _ _⟩
  ⟨G,G,⟨W,ar.of_eq<|congrArg (SV.ints .u64 true)<|by congr 1⟩,G,G,G,U⟩ ?_
 rintro i out c⟨hi,r,d,hc,p,g⟩;refine bQ W W ?_ ?_<;>intro h
 ·have v:i<(ae a).length:=E;have e:(i:Int).toNat=i:=E;obtain⟨x,o,u⟩:=mw a i;obtain⟨y,f,t⟩:=mw b i;have step:∀l:aU,True->True:=λ_ h=>h;have fin:(i+1<=(ae a).length/\gX (out.set i (((x+y+c)%18446744073709551616:Nat):Int))/\(out.set i (((x+y+c)%18446744073709551616:Nat):Int)).length=(ae a).length+1/\(x+y+c)/18446744073709551616<=1/\
   val (out.set i (((x+y+c)%18446744073709551616:Nat):Int))+((x+y+c)/18446744073709551616:Nat)*18446744073709551616^(i+1)=val ((ae a).take<|i+1)+val ((ae b).take<|i+1)/\∀k,i+1<=k->(out.set i (((x+y+c)%18446744073709551616:Nat):Int)).getD k 0=0):=by
   refine⟨E,eM r E,by simpa using d,E,?_,λk C=>?_⟩
   ·rw[kC _ E,g i<|adp _,aI,aI,o,f,ae1];have q:=aij (x+y+c) 18446744073709551616;have B:(18446744073709551616:Int)*(((x+y+c)/18446744073709551616:Nat):Int)+(((x+y+c)%18446744073709551616:Nat):Int)=(x:Int)+y+c:=E;generalize (((x+y+c)/18446744073709551616:Nat):Int)=z at*;generalize (((x+y+c)%18446744073709551616:Nat):Int)=r1 at*;generalize (18446744073709551616:Int)^i=A at*
    grind
   rw[cv,if_neg E];exact g k E
  refine bQ W W ?_ ?_<;>intro w
  ·refine r1 W (by simp only[bo,and_true,e]<;>omega) ?_;refine cl W (by rw[e,o,f];rfl) (fA x y c hc) W ?_;refine r1 W (by simp only[bo,and_true,e,d]<;>omega) ?_;exact again (i+1,out.set i (((x+y+c)%18446744073709551616:Nat):Int),(x+y+c)/18446744073709551616) (by dsimp only;omega) fin ⟨G,G,⟨W,ar.of_eq<|congrArg (SV.ints .u64 true)<|by rw[e]⟩,G,G,G,U⟩
  have j:y=0:=by rw[adY,afL E]at f;simp at f;omega
  subst j;refine r1 W (by simp only[bo,and_true,e]<;>omega) ?_;refine cl W (by rw[e,o];rfl) (fA x 0 c hc) W ?_;refine r1 W (by simp only[bo,and_true,e,d]<;>omega) ?_;exact again (i+1,out.set i (((x+0+c)%18446744073709551616:Nat):Int),(x+0+c)/18446744073709551616) (by dsimp only;omega) fin ⟨G,G,⟨W,ar.of_eq<|congrArg (SV.ints .u64 true)<|by rw[e]⟩,G,G,G,U⟩
 have:i=(ae a).length:=E;subst this;have s:(((ae a).length:Nat):Int).toNat=(ae a).length:=E;rw[adM<|adp _,adM E,ai,ai]at p;refine r1 W (by simp only[bo,and_true,s,d]<;>omega) ?_;rw[s];refine bG W (dw (out.set (ae a).length c)<|by simp;omega) W ?_;refine bK W W<|ar.of_eq<|congrArg (SV.ints .u64 false) ?_;rw[ee<|eM r E,kC _ E,g _<|adp _,Int.sub_zero,p]
 congr 1
def rJ(m n:Nat)(F:(ae m).length<2^40)(u:n<=m):aM Tryz.prog 249 [.ints .u64 false<|ae m,.ints .u64 false<|ae n] (.ints .u64 false<|ae<|m-n):=by
 have v:(ae n).length<=(ae m).length:=by
  rcases aeQ (ae m).length (ae n).length with g|g
  ·have:=cE g;omega
  exact g
 refine bS Tryz.func249 W<|r1 W ba<|oB (λ(i:Nat)(out:List Int)(c:Nat)=>[(0,.ints .u64 false<|ae m),(1,.ints .u64 false<|ae n),(5,.ints .u64 true out),(6,.n .u64 c),(13,.i (ae m).length),(14,.i i)])
  (λi out c=>i<=(ae m).length/\gX out/\out.length=(ae m).length/\c<=1/\val out=val ((ae m).take i)-val ((ae n).take i)+c*18446744073709551616^i/\∀k,i<=k->out.getD k 0=0)
  (λi _ _=>(ae m).length-i) 0 (List.replicate (ae m).length 0) 0 ⟨adk _,fw _,I,E,by simp[val,iH],λk _=>fK _ _⟩
  ⟨G,G,⟨W,ar.of_eq<|congrArg (SV.ints .u64 true)<|by congr 1⟩,G,G,G,U⟩ ?_
 rintro i out c⟨hi,e,a,hc,s,p⟩;refine bQ W W ?_ ?_<;>intro h
 ·have w:i<(ae m).length:=E;have b:(i:Int).toNat=i:=E;obtain⟨x,j,r⟩:=mw m i;obtain⟨y,d,q⟩:=mw n i;have fin:(i+1<=(ae m).length/\gX (out.set i (((x+18446744073709551616-y-c)%18446744073709551616:Nat):Int))/\(out.set i (((x+18446744073709551616-y-c)%18446744073709551616:Nat):Int)).length=(ae m).length/\(if x<y+c then 1 else 0:Nat)<=1/\
   val (out.set i (((x+18446744073709551616-y-c)%18446744073709551616:Nat):Int))=val ((ae m).take<|i+1)-val ((ae n).take<|i+1)+((if x<y+c then 1 else 0:Nat):Int)*18446744073709551616^(i+1)/\∀k,i+1<=k->(out.set i (((x+18446744073709551616-y-c)%18446744073709551616:Nat):Int)).getD k 0=0):=by
   refine⟨E,eM e E,by simpa using a,by split<;>omega,?_,λk D=>?_⟩
   ·rw[kC _ E,p i<|adp _,aI,aI,j,d,ae1];have C:(((x+18446744073709551616-y-c)%18446744073709551616:Nat):Int)=(x:Int)-y-c+18446744073709551616*((if x<y+c then 1 else 0:Nat):Int):=by split<;>omega
    generalize ((if x<y+c then 1 else 0:Nat):Int)=B at*;generalize (((x+18446744073709551616-y-c)%18446744073709551616:Nat):Int)=r1 at*;generalize (18446744073709551616:Int)^i=A at*
    grind
   rw[cv,if_neg E];exact p k E
  refine bQ W W ?_ ?_<;>intro z
  ·refine r1 W (by simp only[bo,and_true,b]<;>omega) ?_;refine cl W (by rw[b,j,d];rfl) (pd x y c hc) W ?_;refine r1 W (by simp only[bo,and_true,b,a]<;>omega) ?_;exact again (i+1,out.set i (((x+18446744073709551616-y-c)%18446744073709551616:Nat):Int),(if x<y+c then 1 else 0:Nat)) (by dsimp only;omega) fin ⟨G,G,⟨W,ar.of_eq<|congrArg (SV.ints .u64 true)<|by rw[b]⟩,G,G,G,U⟩
  have f:y=0:=by rw[adY,afL E]at d;simp at d;omega
  subst f;refine r1 W (by simp only[bo,and_true,b]<;>omega) ?_;refine cl W (by rw[b,j];rfl) (pd x 0 c hc) W ?_;refine r1 W (by simp only[bo,and_true,b,a]<;>omega) ?_;exact again (i+1,out.set i (((x+18446744073709551616-0-c)%18446744073709551616:Nat):Int),(if x<0+c then 1 else 0:Nat)) (by dsimp only;omega) fin ⟨G,G,⟨W,ar.of_eq<|congrArg (SV.ints .u64 true)<|by rw[b]⟩,G,G,G,U⟩
 have:i=(ae m).length:=E;subst this;rw[adM<|adp _,adM E,ai,ai]at s;have l:=ic e;have t:=bm e;rw[a]at l;have o:c=0:=by
  rcases aeQ 0 c with g|g
  ·have:c=1:=E;subst this;omega
  omega
 subst o;refine bP W W (dw out E) W<|bK W W<|ar.of_eq<|congrArg (SV.ints .u64 false) ?_;rw[ee e]
 congr 1;omega
def XA(n:Nat):IntKind.u64.wrap (n:Int)=((n%18446744073709551616:Nat):Int):=by show(n:Int)%18446744073709551616=_;omega
def wr{n:Nat}(h:n<18446744073709551616):IntKind.u64.wrap (n:Int)=(n:Int):=by rw[XA,afy h]
def PE{a:Int}:IntKind.u64.wrap a=a%18446744073709551616:=W
def Q1(y:Nat):IntKind.u64.wrap ((BitVec.ofInt IntKind.u64.bits (y:Int)&&&BitVec.ofInt IntKind.u64.bits 4294967295).toNat:Int)=((y%4294967296:Nat):Int):=by
 rw[XA]
 congr 1
 have a:(BitVec.ofNat 64 y&&&BitVec.ofNat 64 (2^32-1)).toNat=(y%2^64)&&&((2^32-1)%2^64):=I;rw[show((2:Nat)^32-1)%2^64=2^32-1 from W,Nat.and_two_pow_sub_one_eq_mod]at a;show(BitVec.ofNat 64 y&&&BitVec.ofNat 64 (2^32-1)).toNat%_=_;omega
def D8(y:Nat):(y:Int).fdiv (2^min (Int.toNat 32) IntKind.u64.bits)=((y/4294967296:Nat):Int):=by rw[aik _ fh];rfl
def kg(x y:Nat)(c:x<18446744073709551616)(b:y<18446744073709551616):aM Tryz.prog 233 [.n .u64 x,.n .u64 y] (.bW [.n .u64 (x*y/18446744073709551616:Nat),.n .u64 (x*y%18446744073709551616:Nat)]):=by
 refine bS Tryz.func233 W<|r1 W ?_ ?_
 ·simp only[bo];decide
 obtain⟨o,m,l,a⟩:=Go.Lib.mul64_hi x y c b;have d:x*y/18446744073709551616<18446744073709551616:=by rw[afx fh];exact Nat.mul_lt_mul'' c b
 rw[<-a]at d;refine aE W ⟨congrArg (SV.n .u64) ?_,congrArg (SV.n .u64) ?_,U⟩
 ·have h:=wr (n:=x/4294967296*(y/4294967296)) E;have wB:=wr (n:=x/4294967296*(y%4294967296)) E;have g:=wr (n:=x%4294967296*(y/4294967296)) E;have f:=wr o;have e:=wr m;have k:=wr l;have j:=wr (n:=x/4294967296*(y/4294967296)+(x/4294967296*(y%4294967296)+x%4294967296*(y%4294967296)/4294967296)/4294967296) E;have i:=wr d;simp only[Q1,D8,<-afn,<-ag4,h,wB,g,f,e,k,j,i];rw[a]
 rw[<-afn,XA]
def T7{x y w c:Nat}(b:x<18446744073709551616)(a:y<18446744073709551616)(d:w<18446744073709551616)(hc:c<18446744073709551616):
 x*y/18446744073709551616+(x*y%18446744073709551616+w+0)/18446744073709551616<18446744073709551616/\
 x*y/18446744073709551616+(x*y%18446744073709551616+w+0)/18446744073709551616+((x*y%18446744073709551616+w+0)%18446744073709551616+c+0)/18446744073709551616<18446744073709551616/\
 ((x*y%18446744073709551616+w+0)%18446744073709551616+c+0)%18446744073709551616+18446744073709551616*(x*y/18446744073709551616+(x*y%18446744073709551616+w+0)/18446744073709551616+((x*y%18446744073709551616+w+0)%18446744073709551616+c+0)/18446744073709551616)=x*y+w+c:=by
 have e:x*y<=18446744073709551615*18446744073709551615:=agr E E;refine⟨E,E,E⟩
def BM(m n:Nat)(Y:(ae m).length<2^40)(X:(ae n).length<2^40):aM Tryz.prog 256 [.ints .u64 false<|ae m,.ints .u64 false<|ae n] (.ints .u64 false<|ae<|m*n):=by
 refine bS Tryz.func256 W<|r1 W ba<|kR (λ(i:Nat)(out:List Int)=>[(1,.ints .u64 false<|ae n),(5,.ints .u64 true out),(20,.ints .u64 false<|ae m),(21,.i (ae m).length),(22,.i i)])
  (λi out=>gX out/\out.length=(ae m).length+(ae n).length/\val out=val ((ae m).take i)*n/\i<=(ae m).length/\∀k,i+(ae n).length<=k->out.getD k 0=0)
  (λi _=>(ae m).length-i) 0 (List.replicate ((ae m).length+(ae n).length) 0) ⟨fw _,I,by simp[val,iH],E,λk _=>fK _ _⟩
  ⟨G,⟨W,ar.of_eq<|congrArg (SV.ints .u64 true)<|by congr 1⟩,G,G,G,U⟩ ?_
 rintro i out⟨K,hl,t,hi,F⟩;refine bQ W W ?_ ?_<;>intro h
 ·have Q:i<(ae m).length:=E;have M:(i:Int).toNat=i:=E;obtain⟨x,J,e⟩:=mw m i;refine r1 W (by simp only[bo,and_true,M]<;>omega) ?_;rw[M,J];refine oB (λ(k:Nat)(o:List Int)(c:Nat)=>[(1,.ints .u64 false<|ae n),(5,.ints .u64 true o),(6,.i i),(7,.n .u64 x),(8,.n .u64 c),(20,.ints .u64 false<|ae m),(21,.i (ae m).length),(22,.i i),(27,.ints .u64 false<|ae n),(28,.i (ae n).length),(29,.i k)])
   (λk o c=>gX o/\o.length=(ae m).length+(ae n).length/\c<18446744073709551616/\val o+c*18446744073709551616^(i+k)=val out+x*val ((ae n).take k)*18446744073709551616^i/\k<=(ae n).length/\∀b,i+k<=b->o.getD b 0=out.getD b 0)
   (λk _ _=>(ae n).length-k) 0 out 0 ⟨K,hl,E,by simp[val],E,λ_ _=>rfl⟩ ⟨G,G,G,G,G,G,G,G,G,G,G,U⟩ ?_
  rintro k o c⟨C,g,S,z,Z,v⟩;refine bQ W W ?_ ?_<;>intro R
  ·have f:k<(ae n).length:=E;have L:(k:Int).toNat=k:=E;have a:((i:Int)+(k:Int)).toNat=i+k:=E;obtain⟨y,H,d⟩:=mw n k;obtain⟨w,j,s⟩:∃w:Nat,o.getD (i+k) 0=w/\w<18446744073709551616:=by
    have:=bf C<|i+k;exact⟨(o.getD (i+k) 0).toNat,E,E⟩
   obtain⟨D,l,V⟩:=T7 e d s S;refine r1 W (by simp only[bo,and_true,L]<;>omega) ?_;rw[L,H];refine bG W (kg x y e d) W<|r1 W (by simp only[bo,and_true,a,g]<;>omega) ?_;rw[a,j];refine bG W (fA (x*y%18446744073709551616) w 0 fh) W<|r1 W ba<|bG W (fA ((x*y%18446744073709551616+w+0)%18446744073709551616) c 0 fh) W<|r1 W (by simp only[bo,and_true,a,g]<;>omega) ?_;rw[a];have T:IntKind.u64.wrap (IntKind.u64.wrap (((x*y/18446744073709551616:Nat):Int)+(((x*y%18446744073709551616+w+0)/18446744073709551616:Nat):Int))+((((x*y%18446744073709551616+w+0)%18446744073709551616+c+0)/18446744073709551616:Nat):Int))=
    ((x*y/18446744073709551616+(x*y%18446744073709551616+w+0)/18446744073709551616+((x*y%18446744073709551616+w+0)%18446744073709551616+c+0)/18446744073709551616:Nat):Int):=by
    rw[<-ag4,wr D,<-ag4,wr l]
   refine again (k+1,o.set (i+k) (((((x*y%18446744073709551616+w+0)%18446744073709551616+c+0)%18446744073709551616:Nat)):Int),x*y/18446744073709551616+(x*y%18446744073709551616+w+0)/18446744073709551616+((x*y%18446744073709551616+w+0)%18446744073709551616+c+0)/18446744073709551616)
    (by dsimp only;omega) ⟨eM C E,by simpa using g,l,?_,by dsimp only;omega,?_⟩ ⟨G,G,G,G,⟨W,ar.of_eq<|congrArg (SV.n .u64) T⟩,G,G,G,G,G,G,U⟩
   ·dsimp only;have u:i+k<o.length:=E;rw[kC _ u,j,aI,H,show i+(k+1)=i+k+1 from E,ae1,af1];rw[af1]at z;generalize x*y/18446744073709551616+(x*y%18446744073709551616+w+0)/18446744073709551616+((x*y%18446744073709551616+w+0)%18446744073709551616+c+0)/18446744073709551616=q at*;generalize ((x*y%18446744073709551616+w+0)%18446744073709551616+c+0)%18446744073709551616=r at*;have O:(r:Int)+18446744073709551616*(q:Int)=(x:Int)*y+w+c:=by
     rw[<-afn x y];clear z t D l;generalize x*y=p at *;omega
    generalize (18446744073709551616:Int)^i=A at*;generalize (18446744073709551616:Int)^k=B at*
    grind
   dsimp only;intro b f;rw[cv,if_neg E];exact v b E
  have P:k=(ae n).length:=E;subst P;rw[adM<|adp _,ai]at z;have j:o.getD (i+(ae n).length) 0=0:=by rw[v _<|adp _];exact F _<|adp _
  have N:((i:Int)+((ae n).length:Int)).toNat=i+(ae n).length:=E;refine r1 W (by simp only[bo,and_true,g,N]<;>omega) ?_;rw[N];refine gS (i+1,o.set (i+(ae n).length) c) ⟨eM C E,by simpa using g,?_,by dsimp only;omega,?_⟩
  ·dsimp only;rw[kC _ E,j,aI,J];generalize (18446744073709551616:Int)^(i+(ae n).length)=A at*;generalize (18446744073709551616:Int)^i=B at*
   grind
  dsimp only;intro b f;rw[cv,if_neg E,v _ E];exact F _ E
 have:i=(ae m).length:=E;subst this;rw[adM<|adp _,ai]at t;refine bP W W (dw out E) W<|bK W W<|ar.of_eq<|congrArg (SV.ints .u64 false) ?_;rw[ee K,t]
 congr 1
structure Nm where
 s:Int
 w:Option Nat
def wS:Option Nat->SV
 |none=>.nil
 |some m=>.ints .u64 false<|ae m
def oG(a:Nm):SV:=.agg [.i a.s,wS a.w]
def nv(a:Nm):Int:=match a.w with|none=>a.s|some m=>a.s*m
def bj(a:Nm):Prop:=match a.w with
 |none=> -9223372036854775808<=a.s/\a.s<=9223372036854775807
 |some m=>(a.s=1\/a.s= -1)/\9223372036854775808<=m
def fV(a:Nm)(K:Nat):Prop:=(ae (nv a).natAbs).length<=K
def V6(a:Int):IntKind.i64.wrap a=(a+9223372036854775808)%18446744073709551616-9223372036854775808:=by have e:IntKind.i64.wrap a=if(true&&decide (a%18446744073709551616>=9223372036854775808))=true then a%18446744073709551616-18446744073709551616 else a%18446744073709551616:=W;rw[e];simp;split<;>omega
def uD(n:Int)(h: -9223372036854775808<=n/\n<=9223372036854775807):aM Tryz.prog 255 [.i n] (.n .u64 n.natAbs):=by
 refine bS Tryz.func255 W<|bQ W W ?_ ?_<;>intro a
 ·refine kw [6] W W U<|aE W<|ar.of_eq<|congrArg (SV.n .u64) ?_;rw[PE,V6];omega
 refine bK W W<|ar.of_eq<|congrArg (SV.n .u64) ?_;rw[PE];omega
def tr{f:Nat}(b:0<f)(a:f<18446744073709551616):ae f=[(f:Int)]:=mz b a
def dU(a:Nm)(h:bj a):aM Tryz.prog 245 [oG a] (.bW [.u<|decide (a.s<0),.ints .u64 false<|ae (nv a).natAbs]):=by
 obtain⟨s,w⟩:=a;cases w with
 |none=>
  have h: -9223372036854775808<=s/\s<=9223372036854775807:=h;refine bS Tryz.func245 W<|bQ W W ?_ ?_<;>intro b
  ·have b:s=0:=b;subst b;refine bK W W ⟨W,dm,U⟩
  have b:¬s=0:=b;refine bO W W (uD s h) W<|k0 W aW<|TA W ⟨W,congrArg (SV.ints .u64 false) ?_,U⟩;exact(tr (f:=s.natAbs) E E).symm
 |some m=>
  obtain⟨hs,hm⟩:(s=1\/s= -1)/\9223372036854775808<=m:=h;have c:ae m≠[]:=by intro e;have:=ai m;rw[e]at this;simp[val]at this;omega
  have hn:(nv ⟨s,some m⟩).natAbs=m:=by show(s*(m:Int)).natAbs=m;rcases hs with rfl|rfl<;>omega
  rw[hn];refine bS Tryz.func245 W<|k1 W aW (by simp[bo,and_true];exact c) ?_;exact bF W
def rB(neg:Bool)(m:Nat):Nm:=if m<=9223372036854775807 then⟨if neg then -(m:Int)else m,none⟩else⟨if neg then -1 else 1,some m⟩
def mW(neg:Bool)(m:Nat):nv (rB neg m)=if neg then -(m:Int)else m:=by unfold rB nv;cases neg<;>by_cases h:m<=9223372036854775807<;>simp[h]
def oT(neg:Bool)(m:Nat):bj (rB neg m):=by
 unfold rB bj;by_cases g:m<=9223372036854775807
 ·simp[g];cases neg<;>omega
 simp only[g];exact⟨by cases neg<;>simp,E⟩
def iJ{m:Nat}(h:m<18446744073709551616):(ae m).length<=1:=by
 rcases afd m with g|g
 ·subst g;simp[dm]
 rw[tr g h];simp
def jW(neg:Bool)(m:Nat)(hl:(ae m).length<2^40):aM Tryz.prog 246 [.u neg,.ints .u64 false<|ae m] (oG<|rB neg m):=by
 have a:Int.toNat 0=0:=W;have one:(ae m).length=1->0<m/\m<18446744073709551616/\(ae m).getD 0 0=m:=by
  intro h;have k:=cw m;rw[h]at k;have d:0<m:=by
   rcases afd m with g|g
   ·subst g;rw[dm]at h;cases h
   exact g
  have c:m<18446744073709551616:=E;exact⟨d,c,by rw[tr d c];rfl⟩
 refine bS Tryz.func246 W<|bQ W W ?_ ?_<;>intro k
 ·have hm:m=0:=by
   rcases afd m with g|g
   ·exact g
   have:=iF (n:=m) E;omega
  subst hm;refine bK W W ?_;unfold rB;rw[if_pos fh];cases neg<;>exact⟨W,U,U⟩
 refine bJ W 14 W ?_ ?_<;>intro d
 ·obtain⟨o,l,o3⟩:=one E;refine r1 W (by simp[bo,and_true,a]<;>omega) ?_;rw[a,o3];refine aC 20 W ?_ ?_<;>intro c
  ·have c:(m:Int)<=9223372036854775807:=c;refine r0 W<|ni W W W ?_ ?_<;>intro i
   ·have i:neg=true:=i;subst i;refine kw [27] W W (by simp only[bo,and_true,a]<;>omega) ?_;rw[a,o3];refine aE W ?_;unfold rB;rw[if_pos E];refine⟨congrArg SV.i ?_,U,U⟩;rw[V6];show _=(if true=true then -(m:Int)else m);simp[if_true];omega
   have i:neg=false:=i;subst i;refine bJ W 33 W (λf=>?_) λf=>absurd d f;refine r1 W (by simp[bo,and_true,a]<;>omega) ?_;rw[a,o3];refine gb W (λj=>?_) λj=>absurd c j;refine r1 W (by simp only[bo,and_true,a]<;>omega) ?_;rw[a,o3];refine aE W ?_;unfold rB;rw[if_pos E];refine⟨congrArg SV.i ?_,U,U⟩;show _=(if false=true then -(m:Int)else m);simp[agw,if_false]
  have c:¬(m:Int)<=9223372036854775807:=c;refine bJ W 33 W (λf=>?_) λf=>absurd d f;refine r1 W (by simp[bo,and_true,a]<;>omega) ?_;rw[a,o3];refine gb W (λj=>absurd j c) λj=>?_;refine r0 W<|ni W W W ?_ ?_<;>intro b
  ·have b:neg=true:=b;subst b;refine bK W W<|ar.of_eq<|by unfold rB;rw[if_neg E];rfl
  have b:neg=false:=b;subst b;refine bK W W<|ar.of_eq<|by unfold rB;rw[if_neg E];rfl
 have e:¬m<=9223372036854775807:=by intro g;have:=iJ (m:=m) E;have k:¬((ae m).length:Int)=0:=k;have d:¬((ae m).length:Int)=1:=d;omega
 refine bJ W 33 W (λf=>absurd f d) λf=>?_;refine r0 W<|ni W W W ?_ ?_<;>intro b
 ·have b:neg=true:=b;subst b;refine bK W W<|ar.of_eq<|by unfold rB;rw[if_neg e];rfl
 have b:neg=false:=b;subst b;refine bK W W<|ar.of_eq<|by unfold rB;rw[if_neg e];rfl
def uE(a:Nm)(h:bj a):aM Tryz.prog 175 [oG a] (.i (nv a).sign):=by
 obtain⟨s,w⟩:=a;cases w with
 |none=>
  refine bS Tryz.func175 W<|bK W W<|bR ?_;show max (-1) (min 1 s)=s.sign;rcases ahH s 0 with g|g|g
  ·rw[ahI g];omega
  ·subst g;rfl
  rw[agp g];omega
 |some m=>
  obtain⟨hs,hm⟩:=h;refine bS Tryz.func175 W<|bK W W<|bR ?_;show max (-1) (min 1 s)=(s*(m:Int)).sign;rcases hs with rfl|rfl
  ·rw[agp E];rfl
  rw[ahI E];rfl
def jm(a:Nm)(h:bj a):(a.s<0↔nv a<0)/\(a.w=none->nv a=a.s):=by
 obtain⟨s,w⟩:=a;cases w with
 |none=>exact⟨Iff.rfl,λ_=>rfl⟩
 |some m=>obtain⟨hs,hm⟩:=h;refine⟨?_,λg=>by simp at g⟩;show s<0↔s*(m:Int)<0;rcases hs with rfl|rfl<;>omega
def nh(n:Nat)(h:0<n):ae n≠[]:=by have:=iF (n:=n) E;intro e;rw[e]at this;cases this
def jc(a:Nm):Nm:=if a.w=none/\a.s≠ -9223372036854775808 then⟨-a.s,none⟩else rB (!decide (a.s<0)) (nv a).natAbs
def dR(a:Nm)(h:bj a):nv (jc a)= -nv a/\bj (jc a):=by
 have b:=jm a h;unfold jc;split
 ·rename_i g;obtain⟨s,w⟩:=a;obtain⟨rfl,g2⟩:w=none/\s≠ -9223372036854775808:=g;have h: -9223372036854775808<=s/\s<=9223372036854775807:=h;exact⟨W,show -9223372036854775808<= -s/\ -s<=9223372036854775807 from E⟩
 refine⟨?_,oT _ _⟩;rw[mW];by_cases g:a.s<0
 ·have:=b.1.1 g;simp;omega
 have:=λk=>g<|b.1.2 k;simp;omega
def pB(a:Nm)(h:bj a){K:Nat}(hl:fV a K)(f:K<2^40):aM Tryz.prog 234 [oG a] (oG<|jc a):=by
 have d:=dU a h;unfold fV at hl;obtain⟨s,w⟩:=a;cases w with
 |none=>
  have h: -9223372036854775808<=s/\s<=9223372036854775807:=h;refine bS Tryz.func234 W<|bQ W W ?_ ?_<;>intro b
  ·have b:s≠ -9223372036854775808:=b;refine r1 W a7<|aE W ?_;unfold jc;rw[if_pos ⟨W,b⟩];exact⟨congrArg SV.i<|by show 0-s= -s;omega,U,U⟩
  have b:¬s≠ -9223372036854775808:=b;refine bP W W d W<|bP W W (jW (!decide (s<0)) (nv ⟨s,none⟩).natAbs E) W ?_;unfold jc;rw[if_neg λg=>b g.2];generalize rB (!decide ((⟨s,none⟩:Nm).s<0)) (nv ⟨s,none⟩).natAbs=r;obtain⟨e,c⟩:=r;cases c<;>exact r0 W (bF W)
 |some m=>obtain⟨hs,hm⟩:(s=1\/s= -1)/\9223372036854775808<=m:=h;refine bS Tryz.func234 W<|r1 W (by simp[bo,and_true];exact nh m E) ?_;refine bG W d W<|bP W W (jW (!decide (s<0)) (nv ⟨s,some m⟩).natAbs E) W ?_;unfold jc;rw[if_neg λg=>by simp at g];generalize rB (!decide ((⟨s,some m⟩:Nm).s<0)) (nv ⟨s,some m⟩).natAbs=r;obtain⟨e,c⟩:=r;cases c<;>exact bN W W
def yJ(a:Nm):Nm:=if a.s<0 then jc a else a
def nz(a:Nm)(h:bj a):nv (yJ a)=(nv a).natAbs/\bj (yJ a):=by
 have c:=jm a h;unfold yJ;split
 ·rename_i g;obtain⟨d,b⟩:=dR a h;exact⟨E,b⟩
 rename_i g;exact⟨E,h⟩
def L4(a:Nm)(h:bj a){K:Nat}(hl:fV a K)(e:K<2^40):aM Tryz.prog 283 [oG a] (oG<|yJ a):=by
 have hn:=pB a h hl e;unfold yJ;obtain⟨s,w⟩:=a;cases w with
 |none=>
  refine bS Tryz.func283 W<|bQ W W ?_ ?_<;>intro b
  ·have b:=b;rw[if_pos b];refine bP W W hn W ?_;generalize jc ⟨s,none⟩=r;obtain⟨d,c⟩:=r;cases c<;>exact bN W W
  have b:=b;rw[if_neg b];exact r0 W (bF W)
 |some m=>
  refine bS Tryz.func283 W<|bQ W W ?_ ?_<;>intro b
  ·have b:=b;rw[if_pos b];refine bP W W hn W ?_;generalize jc ⟨s,some m⟩=r;obtain⟨d,c⟩:=r;cases c<;>exact bN W W
  have b:=b;rw[if_neg b];exact bN W W
end Go.Ai.eE
namespace Go.Ai.eE
def nT{m n K:Nat}(b:(ae m).length<=K)(a:(ae n).length<=K):(ae<|m+n).length<=K+1:=by
 rcases gw (m+n)with g|g
 ·rw[g];simp
 have g1:=cw m;have g2:=cw n;have e:=im b;have d:=im a;rcases aeQ (K+1) (ae<|m+n).length with h|h
 ·have c:=im (show K+1<=(ae<|m+n).length-1 from E);omega
 omega
def dO(m n:Nat):(ae<|m*n).length<=(ae m).length+(ae n).length:=by
 rcases gw (m*n)with g|g
 ·rw[g];simp
 have g1:=cw m;have g2:=cw n;rcases aeQ ((ae m).length+(ae n).length) (ae<|m*n).length with h|h
 ·have a:=im (show(ae m).length+(ae n).length<=(ae<|m*n).length-1 from E);rw[af1]at a;have c:(m:Int)*n<=18446744073709551616^(ae m).length*n:=gn E E;have b:(18446744073709551616:Int)^(ae m).length*n<18446744073709551616^(ae m).length*18446744073709551616^(ae n).length:=Int.mul_lt_mul_of_pos_left g2<|dE _;omega
 exact h
def lR(a b:Nat):(ae<|a/b).length<=(ae a).length:=by
 rcases aeQ (ae a).length (ae<|a/b).length with g|g
 ·have:=cE g;have:=agF a b;omega
 exact g
def length_le{m n:Nat}(h:m<=n):(ae m).length<=(ae n).length:=by
 rcases aeQ (ae n).length (ae m).length with g|g
 ·have:=cE g;omega
 exact g
end Go.Ai.eE
namespace Go.Ai.eE
open Go.Proofs Go.Ai
def Sy(a:Bool)(A:Nat)(b:Bool)(B:Nat):Nm:=if a=b then rB a (A+B)else if B<=A then rB a (A-B)else rB b (B-A)
def yH(x y:Int):Bool:=decide (x<IntKind.i64.wrap (x+y))==decide (0<y)
def xh(a b:Nm):Nm:=if a.w=none/\b.w=none/\yH a.s b.s=true then⟨IntKind.i64.wrap<|a.s+b.s,none⟩else Sy (decide (a.s<0)) (nv a).natAbs (decide (b.s<0)) (nv b).natAbs
def LY{x y:Int}(b: -9223372036854775808<=x/\x<=9223372036854775807)(a: -9223372036854775808<=y/\y<=9223372036854775807)(h:yH x y=true):IntKind.i64.wrap (x+y)=x+y:=by unfold yH at h;rw[beq_iff_eq,decide_eq_decide]at h;rw[V6]at*;omega
def kv(a b:Nm)(d:bj a)(c:bj b):nv (xh a b)=nv a+nv b/\bj (xh a b):=by
 have l:=jm a d;have j:=jm b c;unfold xh;split
 ·rename_i g;obtain⟨s,w⟩:=a;obtain⟨t,v⟩:=b;obtain⟨rfl,rfl,e⟩:=g;have:=LY d c e;refine⟨this,?_⟩;show -9223372036854775808<=IntKind.i64.wrap (s+t)/\IntKind.i64.wrap (s+t)<=9223372036854775807;rw[V6];omega
 unfold Sy;have i:decide (a.s<0)=decide (nv a<0):=by rw[decide_eq_decide];exact l.1
 have f:decide (b.s<0)=decide (nv b<0):=by rw[decide_eq_decide];exact j.1
 rw[i,f];split
 ·rename_i g;refine⟨?_,oT _ _⟩;rw[mW];rw[decide_eq_decide]at g;by_cases h:nv a<0
  ·have:=g.1 h;simp;omega
  have:=λk=>h<|g.2 k;simp;omega
 rename_i g;rw[decide_eq_decide]at g;split
 ·refine⟨?_,oT _ _⟩;rw[mW];by_cases h:nv a<0
  ·have:=λk=>g ⟨λ_=>k,λ_=>h⟩;simp;omega
  have:nv b<0:=by apply Classical.byContradiction;intro k;simp_all
  simp;omega
 refine⟨?_,oT _ _⟩;rw[mW];by_cases h:nv b<0
 ·have:=λk=>g ⟨λ_=>h,λ_=>k⟩;simp;omega
 have:nv a<0:=by apply Classical.byContradiction;intro k;simp_all
 simp;omega
def Sx(a b:Nm)(x:bj a)(q:bj b){K:Nat}(l:fV a K)(k:fV b K)(y:K<2^39):
 AK R0 Tryz.prog Tryz.f167.ntmps (Pu Tryz.prog Tryz.f167.results.toList<|oG<|Sy (decide (a.s<0)) (nv a).natAbs (decide (b.s<0)) (nv b).natAbs) [.code (me 2 (Tryz.f167.body.getD .skip)).2]
  (sl [(2,.box true<|oG a),(3,.box true<|oG b),(4,.box true<|.agg [.i 0,.nil])]):=by
 have p:=dU a x;have o:=dU b q;unfold fV at l k;generalize (nv a).natAbs=A at*;generalize (nv b).natAbs=B at*;have u:=nT l k;refine cx 2 [(4,.box true<|.agg [.i 0,.nil]),(6,.u<|decide (a.s<0)),(7,.ints .u64 false<|ae A),(8,.u<|decide (b.s<0)),(9,.ints .u64 false<|ae B)] True ?_ λ_=>?_
 ·obtain⟨s,w⟩:=a;obtain⟨t,v⟩:=b;cases w<;>cases v
  all_goals
   refine bP W W p W<|bP W W o W<|r0 W<|gm U
 generalize decide (a.s<0)=e;generalize decide (b.s<0)=g;refine r0 W<|ni W W W ?_ ?_<;>intro d
 ·have d:e=g:=by simpa using d
  unfold Sy;rw[if_pos d];refine bP W W (Df A B E E) W<|bP W W (jW e (A+B) E) W ?_;generalize rB e (A+B)=r;obtain⟨j,f⟩:=r;cases f<;>exact bN W W
 have d:¬e=g:=by simpa using d
 unfold Sy;rw[if_neg d];refine bP W W (n8 A B E E) W<|bQ W W ?_ ?_<;>intro c
 ·have c:0<=oc A B:=c;have h:B<=A:=by unfold oc at c;split at c<;>omega
  rw[if_pos h];have:=length_le (m:=A-B) (n:=A) E;refine bP W W (rJ A B E h) W<|bP W W (jW e (A-B) E) W ?_;generalize rB e (A-B)=r;obtain⟨j,f⟩:=r;cases f<;>exact bN W W
 have c:¬0<=oc A B:=c;have h:¬B<=A:=by unfold oc at c;split at c<;>first|omega|(split at c<;>omega)
 rw[if_neg h];have:=length_le (m:=B-A) (n:=B) E;refine bP W W (rJ B A E E) W<|bP W W (jW g (B-A) E) W ?_;generalize rB g (B-A)=r;obtain⟨j,f⟩:=r;cases f<;>exact bN W W
def De(a b:Nm)(f:bj a)(i:bj b){K:Nat}(l:fV a K)(j:fV b K)(o:K<2^39):aM Tryz.prog 167 [oG a,oG b] (oG<|xh a b):=by
 have e:=Sx a b f i l j o;have c:∀(x:Nm)(s:Int)(m:Nat),x=⟨s,some m⟩->bj x->ae m≠[]:=by rintro x s m rfl h;have:9223372036854775808<=m:=h.2;exact nh m E
 unfold xh;refine bS Tryz.func167 W ?_;obtain⟨s,w⟩:=a;obtain⟨t,v⟩:=b;cases w with
 |none=>
  cases v with
  |none=>
   by_cases g:yH s t=true
   ·rw[if_pos ⟨W,W,g⟩];refine kw [22] W W U<|ni W W W ?_ ?_<;>intro d
    ·refine bN W W
    exact absurd g (by rw[show yH s t=false from d];simp)
   rw[if_neg λk=>g k.2.2];refine cx 2 [(2,.box true<|oG ⟨s,none⟩),(3,.box true<|oG ⟨t,none⟩),(4,.box true<|.agg [.i 0,.nil])] True ?_ λ_=>e;refine kw [22] W W U<|ni W W W ?_ ?_<;>intro d
   ·exact absurd (show yH s t=true from d) g
   refine r0 W<|gm U
  |some n=>rw[if_neg λk=>by simp at k];refine cx 2 [(2,.box true<|oG ⟨s,none⟩),(3,.box true<|oG ⟨t,some n⟩),(4,.box true<|.agg [.i 0,.nil])] True ?_ λ_=>e;refine r1 W (by simp[bo,and_true];exact c _ _ _ W i) ?_;exact gm U
 |some m=>
  cases v with
  |none=>rw[if_neg λk=>by simp at k];refine cx 2 [(2,.box true<|oG ⟨s,some m⟩),(3,.box true<|oG ⟨t,none⟩),(4,.box true<|.agg [.i 0,.nil])] True ?_ λ_=>e;refine r1 W (by simp[bo,and_true];exact c _ _ _ W f) ?_;exact gm U
  |some n=>rw[if_neg λk=>by simp at k];refine cx 2 [(2,.box true<|oG ⟨s,some m⟩),(3,.box true<|oG ⟨t,some n⟩),(4,.box true<|.agg [.i 0,.nil])] True ?_ λ_=>e;refine r1 W (by simp[bo,and_true];exact c _ _ _ W f) ?_;exact gm U
section
variable{x y:Int}{K L:Nat}{a b:Nm}
def oA(h:bj a)(hl:fV a K):fV (jc a) K:=by unfold fV at *;rw[(dR a h).1,Int.natAbs_neg];exact hl
def Hg(f:bj a)(e:bj b)(d:fV a K)(c:fV b K):fV (xh a b) (K+1):=by unfold fV at *;rw[(kv a b f e).1];exact ad0 (length_le<|Int.natAbs_add_le _ _)<|nT d c
def Hy(a b:Nm):Nm:=xh a<|jc b
def xy(a b:Nm)(d:bj a)(c:bj b):nv (Hy a b)=nv a-nv b/\bj (Hy a b):=by obtain⟨h,f⟩:=dR b c;obtain⟨g,e⟩:=kv a (jc b) d f;exact⟨by unfold Hy;omega,e⟩
def Km(a b:Nm)(j:bj a)(e:bj b)(i:fV a K)(f:fV b K)(k:K<2^39):aM Tryz.prog 286 [oG a,oG b] (oG<|Hy a b):=by
 have hn:=pB b e f E;have hs:=De a (jc b) j (dR b e).2 i (oA e f) k;unfold Hy;generalize jc b=c at*;generalize xh a c=r at*;refine bS Tryz.func286 W ?_;obtain⟨s,w⟩:=a;obtain⟨t,v⟩:=b;obtain⟨l,g⟩:=c;obtain⟨h,d⟩:=r;cases w<;>cases v<;>cases g<;>cases d
 all_goals
  refine bO W W hn W<|bH W hs W<|k0 W aW<|bF W
def uO(x y:Int):Prop:=x.natAbs*y.natAbs/18446744073709551616=0/\x.natAbs*y.natAbs%18446744073709551616<=9223372036854775807
instance(x y:Int):Decidable (uO x y):=by unfold uO;infer_instance
def jy(a b:Nm):Nm:=if a.w=none/\b.w=none/\uO a.s b.s then⟨a.s*b.s,none⟩else rB (decide (a.s<0)!=decide (b.s<0)) ((nv a).natAbs*(nv b).natAbs)
def BN(h:uO x y):x.natAbs*y.natAbs<=9223372036854775807:=by obtain⟨d,c⟩:=h;omega
def sign_mul:x*y=if decide (x<0)!=decide (y<0)then -((x.natAbs*y.natAbs:Nat):Int)else((x.natAbs*y.natAbs:Nat):Int):=by
 have ex:(x.natAbs:Int)=if x<0 then -x else x:=by split<;>omega
 have e:(y.natAbs:Int)=if y<0 then -y else y:=by split<;>omega
 rw[afn,ex,e];by_cases d:x<0<;>by_cases c:y<0<;>simp[d,c,aho,Int.mul_neg]
def cP(a b:Nm)(d:bj a)(c:bj b):nv (jy a b)=nv a*nv b/\bj (jy a b):=by
 have j:=jm a d;have i:=jm b c;unfold jy;split
 ·rename_i g;obtain⟨s,w⟩:=a;obtain⟨t,v⟩:=b;obtain⟨rfl,rfl,e⟩:w=none/\v=none/\uO s t:=g;have:=BN e;refine⟨W,?_⟩;show -9223372036854775808<=s*t/\s*t<=9223372036854775807;rw[sign_mul];split<;>omega
 refine⟨?_,oT _ _⟩;rw[mW,sign_mul];have h:decide (a.s<0)=decide (nv a<0):=by rw[decide_eq_decide];exact j.1
 have f:decide (b.s<0)=decide (nv b<0):=by rw[decide_eq_decide];exact i.1
 rw[h,f]
def gp(f:bj a)(e:bj b)(d:fV a K)(c:fV b L):fV (jy a b) (K+L):=by unfold fV at *;rw[(cP a b f e).1,af5];exact ad0 (dO _ _)<|aic d c
def G7(x y:Bool):(decide ¬x=y)=(x !=y):=by cases x<;>cases y<;>rfl
def QS(a b:Nm)(m:bj a)(k:bj b)(j:fV a K)(h:fV b L)(o:K+L<2^39):
 AK R0 Tryz.prog Tryz.f173.ntmps (Pu Tryz.prog Tryz.f173.results.toList<|oG<|rB (decide (a.s<0)!=decide (b.s<0))<|(nv a).natAbs*(nv b).natAbs) [.code (me 2 (Tryz.f173.body.getD .skip)).2]
  (sl [(2,.box true<|oG a),(3,.box true<|oG b),(4,.box true<|.agg [.i 0,.nil])]):=by
 have g:=dU a m;have f:=dU b k;unfold fV at j h;generalize (nv a).natAbs=A at*;generalize (nv b).natAbs=B at*;have l:=dO A B;refine cx 2 [(4,.box true<|.agg [.i 0,.nil]),(7,.u<|decide (a.s<0)),(8,.ints .u64 false<|ae A),(9,.u<|decide (b.s<0)),(10,.ints .u64 false<|ae B)] True ?_ λ_=>?_
 ·obtain⟨s,w⟩:=a;obtain⟨t,v⟩:=b;cases w<;>cases v
  all_goals
   refine bP W W g W<|bP W W f W<|r0 W<|gm U
 generalize decide (a.s<0)=d;generalize decide (b.s<0)=c;refine bP W W (BM A B E E) W<|cl W (by rw[G7];rfl) (jW (d !=c) (A*B) E) W ?_;generalize rB (d !=c) (A*B)=r;obtain⟨n,e⟩:=r;cases e<;>exact bN W W
def KV(a b:Nm)(f:bj a)(i:bj b)(u:fV a K)(r:fV b L)(z:K+L<2^39):aM Tryz.prog 173 [oG a,oG b] (oG<|jy a b):=by
 have o:=QS a b f i u r z;have d:∀(x:Nm)(s:Int)(m:Nat),x=⟨s,some m⟩->bj x->ae m≠[]:=by rintro x s m rfl h;have:9223372036854775808<=m:=h.2;exact nh m E
 unfold jy;refine bS Tryz.func173 W ?_;obtain⟨s,w⟩:=a;obtain⟨t,v⟩:=b;cases w with
 |none=>
  cases v with
  |none=>
   have f: -9223372036854775808<=s/\s<=9223372036854775807:=f;have i: -9223372036854775808<=t/\t<=9223372036854775807:=i;have q:=kg s.natAbs t.natAbs E E;refine cx 2 [(2,.box true<|oG ⟨s,none⟩),(3,.box true<|oG ⟨t,none⟩),(4,.box true<|.agg [.i 0,.nil])] (¬uO s t) ?_ λg=>?_
   ·refine bO W W (uD s f) W<|bO W W (uD t i) W<|bO W W q W<|k0 W aW<|aC 31 W ?_ ?_<;>intro l
    ·have l:((s.natAbs*t.natAbs/18446744073709551616:Nat):Int)=0:=l;refine bQ W W ?_ ?_<;>intro j
     ·have j:((s.natAbs*t.natAbs%18446744073709551616:Nat):Int)<=9223372036854775807:=j;have p:uO s t:=⟨E,E⟩;have A:=BN p;rw[if_pos ⟨W,W,p⟩];have c:=sign_mul (x:=s) (y:=t);refine r0 W<|ni W W W ?_ ?_<;>intro e
      ·have e:(decide (s<0)!=decide (t<0))=true:=by rw[<-G7];exact e
       rw[e,if_pos W]at c;refine r1 W a7<|aE W ⟨congrArg SV.i ?_,U,U⟩;show _=s*t;rw[c];omega
      have e:(decide (s<0)!=decide (t<0))=false:=by rw[<-G7];exact e
      rw[e,if_neg I]at c;refine r1 W a7<|aE W ⟨congrArg SV.i ?_,U,U⟩;show _=s*t;rw[c];omega
     have j:¬((s.natAbs*t.natAbs%18446744073709551616:Nat):Int)<=9223372036854775807:=j;refine r0 W<|gm (λg=>by have:=g.2;omega)
    have l:¬((s.natAbs*t.natAbs/18446744073709551616:Nat):Int)=0:=l;refine r0 W<|gm (λg=>by have:=g.1;omega)
   rw[if_neg λk=>g k.2.2];exact o
  |some n=>rw[if_neg λk=>by simp at k];refine cx 2 [(2,.box true<|oG ⟨s,none⟩),(3,.box true<|oG ⟨t,some n⟩),(4,.box true<|.agg [.i 0,.nil])] True ?_ λ_=>o;refine r1 W (by simp[bo,and_true];exact d _ _ _ W i) ?_;exact gm U
 |some m=>
  cases v with
  |none=>rw[if_neg λk=>by simp at k];refine cx 2 [(2,.box true<|oG ⟨s,some m⟩),(3,.box true<|oG ⟨t,none⟩),(4,.box true<|.agg [.i 0,.nil])] True ?_ λ_=>o;refine r1 W (by simp[bo,and_true];exact d _ _ _ W f) ?_;exact gm U
  |some n=>rw[if_neg λk=>by simp at k];refine cx 2 [(2,.box true<|oG ⟨s,some m⟩),(3,.box true<|oG ⟨t,some n⟩),(4,.box true<|.agg [.i 0,.nil])] True ?_ λ_=>o;refine r1 W (by simp[bo,and_true];exact d _ _ _ W f) ?_;exact gm U
end
section
variable{f:FuncId}{K:Nat}{a r:Nm}
def ws(a:Nm):List Int:=match a.w with
 |none=>[]
 |some m=>ae m
def eN(a:Nm):SV:=.agg [.i a.s,.fv .u64<|ws a]
def uw(h:bj a):ws a=[]↔a.w=none:=by
 obtain⟨s,w⟩:=a;cases w with
 |none=>exact⟨λ_=>rfl,λ_=>rfl⟩
 |some m=>have:=h.2;exact⟨λg=>absurd g<|nh m E,λg=>by simp at g⟩
def sF(h:bj a):(oG a).den=(eN a).den:=by
 obtain⟨s,w⟩:=a;cases w with
 |none=>rfl
 |some m=>
  have hm:=h.2;have b:=nh m E;show AV.agg [AV.v<|.int .i64 s,.list .shr 1 ((ae m).map λa=>.v<|.int .u64 a)]=AV.agg [AV.v<|.int .i64 s,.list (Yx<|ae m) (XQ<|ae m)<|(ae m).map λa=>.v<|.int .u64 a];cases d:ae m with
  |nil=>simp_all
  |cons x c=>rfl
def Z4(c:bj a)(b:bj r)(h:aM Tryz.prog f [oG a] (oG r)):aM Tryz.prog f [eN a] (eN r):=h.same (by simp[aB,sF c])<|sF b
def ZH{b:Nm}(e:bj a)(d:bj b)(c:bj r)(h:aM Tryz.prog f [oG a,oG b] (oG r)):aM Tryz.prog f [eN a,eN b] (eN r):=h.same (by simp[aB,sF e,sF d])<|sF c
def F5(a:Nm)(h:bj a):aM Tryz.prog 245 [eN a] (.bW [.u<|decide (a.s<0),.ints .u64 false<|ae (nv a).natAbs]):=(dU a h).same (by simp[aB,sF h]) W
def xB(a:Nm)(h:bj a):aM Tryz.prog 175 [eN a] (.i (nv a).sign):=(uE a h).same (by simp[aB,sF h]) W
def Er(a:Nm)(h:bj a)(hl:fV a K)(b:K<2^40):aM Tryz.prog 234 [eN a] (eN<|jc a):=Z4 h (dR a h).2<|pB a h hl b
def VU(a:Nm)(h:bj a)(hl:fV a K)(b:K<2^40):aM Tryz.prog 283 [eN a] (eN<|yJ a):=Z4 h (nz a h).2<|L4 a h hl b
def NA(a b:Nm)(d:bj a)(c:bj b)(g:fV a K)(e:fV b K)(h:K<2^39):aM Tryz.prog 167 [eN a,eN b] (eN<|xh a b):=ZH d c (kv a b d c).2<|De a b d c g e h
def Vh(a b:Nm)(d:bj a)(c:bj b)(g:fV a K)(e:fV b K)(h:K<2^39):aM Tryz.prog 286 [eN a,eN b] (eN<|Hy a b):=ZH d c (xy a b d c).2<|Km a b d c g e h
def qY(a b:Nm)(d:bj a)(c:bj b){L:Nat}(g:fV a K)(e:fV b L)(h:K+L<2^39):aM Tryz.prog 173 [eN a,eN b] (eN<|jy a b):=ZH d c (cP a b d c).2<|KV a b d c g e h
def Q2(neg:Bool)(m:Nat)(hl:(ae m).length<2^40):aM Tryz.prog 246 [.u neg,.ints .u64 false<|ae m] (eN<|rB neg m):=(jW neg m hl).same W<|sF<|oT _ _
def Ii(n:Int):aM Tryz.prog 166 [.i n] (eN ⟨n,none⟩):=by refine bS Tryz.func166 W<|bK W W<|⟨W,W,U⟩
def Tk(a:Nm):aM Tryz.prog 227 [eN a] (.bW [.i a.s,.u<|decide (ws a=[])]):=by refine bS Tryz.func227 W<|k0 W aW<|bF W
def R3(a b:Nm)(g:bj a)(e:bj b)(o:fV a K)(n:fV b K)(p:K<2^39):aM Tryz.prog 230 [eN a,eN b] (.i (nv a-nv b).sign):=by
 have q:=Vh a b g e o n p;obtain⟨v,u⟩:=xy a b g e;have h:=xB (Hy a b) u;rw[v]at h;have m:=uw g;have l:=uw e;have k:=jm a g;have j:=jm b e;refine bS Tryz.func230 W<|cx 2 [(2,.box true<|eN a),(3,.box true<|eN b)] True ?_ λ_=>?_
 ·refine bJ W 8 W ?_ ?_<;>intro g1
  ·refine bQ W W ?_ ?_<;>intro g2
   ·have t:=k.2 (m.1 g1);have s:=j.2<|l.1 g2;rw[t,s];refine bQ W W ?_ ?_<;>intro d
    ·have d:a.s<b.s:=d;refine bK W W<|ar.of_eq<|congrArg SV.i<|by rw[ahI E]
    have d:¬a.s<b.s:=d;refine bQ W W ?_ ?_<;>intro c
    ·have c:b.s<a.s:=c;refine bK W W<|ar.of_eq<|congrArg SV.i<|by rw[agp E]
    have c:¬b.s<a.s:=c;refine bK W W<|ar.of_eq<|congrArg SV.i<|by rw[show a.s-b.s=0 from E];rfl
   refine r0 W<|gm U
  refine r0 W<|gm U
 refine bP W W q W<|bP W W h W<|bN W W
end
def B8{x:Int}{K:Nat}(h:(ae x.natAbs).length<=K):∀n,(ae (x^n).natAbs).length<=K*n+1
 |0=>by have:=iJ (m:=1) fh;simpa using this
 |n+1=>by rw[ae1,af5,Nat.mul_succ];have:=B8 h n;have:=dO (x^n).natAbs x.natAbs;omega
def oz:Nat->Nm->Nm->Nat->Nm
 |0,out,_,_=>out
 |f+1,out,a,k=>if k=0 then out else oz f (if k%2=1 then jy out a else out) (if 1<k then jy a a else a) (k/2)
def xI(a:Nm)(k:Nat):Nm:=oz k ⟨1,none⟩ a k
def Ga:bj ⟨1,none⟩:=show(-9223372036854775808:Int)<=1/\(1:Int)<=9223372036854775807 from fh
def aai(f:Nat)(out a:Nm):oz f out a 0=out:=by cases f<;>rfl
def BB:∀(f g:Nat)(out a:Nm)(k:Nat),k<=f->k<=g->oz f out a k=oz g out a k
 |0,g,out,a,k,h,_=>by have:k=0:=E;subst this;rw[aai,aai]
 |f+1,0,out,a,k,_,h=>by have:k=0:=E;subst this;rw[aai,aai]
 |f+1,g+1,out,a,k,c,b=>by
  rw[oz,oz];split
  ·rfl
  exact BB f g _ _ _ E E
def ZO(k:Nat)(h:k<9223372036854775808):IntKind.i64.wrap ((BitVec.ofInt IntKind.i64.bits (k:Int)&&&BitVec.ofInt IntKind.i64.bits 1).toNat:Int)=((k%2:Nat):Int):=by have e:BitVec.ofInt IntKind.i64.bits 1=BitVec.ofNat 64 (2^1-1):=W;rw[e,V6];have a:(BitVec.ofNat 64 k&&&BitVec.ofNat 64 (2^1-1)).toNat=(k%2^64)&&&((2^1-1)%2^64):=I;rw[show((2:Nat)^1-1)%2^64=2^1-1 from W,Nat.and_two_pow_sub_one_eq_mod]at a;show(((BitVec.ofNat 64 k&&&BitVec.ofNat 64 (2^1-1)).toNat:Int)+_)%_-_=_;omega
def Zj(k:Nat):(k:Int).fdiv (2^min (Int.toNat 1) IntKind.i64.bits)=((k/2:Nat):Int):=by rw[aik _ fh];rfl
def QC(a:Nm)(n:Nat)(D:bj a){K:Nat}(u:fV a K)(hn:n<2^40)(M:2*(K*(2*n)+1)<2^39):aM Tryz.prog 168 [eN a,.i n] (eN<|xI a n):=by
 refine bS Tryz.func168 W<|bP W W (Ii 1) W<|r0 W<|oB (λ(k:Nat)(out b:Nm)=>[(1,.i k),(2,.box true<|eN b),(4,.box true<|.agg [.i 0,.nil]),(5,.box true<|eN out)])
  (λk out b=>k<=n/\bj out/\bj b/\xI a n=oz k out b k/\(k=0\/∃d e,d<=n/\e<=n/\e+d*k=n/\nv b=nv a^d/\nv out=nv a^e)) (λk _ _=>k) n ⟨1,none⟩ a ⟨adp _,Ga,D,W,?_⟩
  ⟨G,G,G,G,U⟩ ?_
 ·rcases afd n with g|g
  ·exact .inl g
  exact .inr ⟨1,0,E,E,E,by rw[ae1,agU,agK],by rw[agU];rfl⟩
 rintro k out b⟨L,v,l,p,B⟩;refine bQ W W ?_ ?_<;>intro F
 ·have N:0<k:=E;obtain⟨d,e,R,Q,P,t,s⟩:=B.resolve_left E;have j:xI a n=oz (k/2) (if k%2=1 then jy out b else out) (if 1<k then jy b b else b) (k/2):=by
   rw[p];obtain⟨f,rfl⟩:∃f,k=f+1:=⟨k-1,E⟩
   conv=>lhs;rw[oz,if_neg E]
   exact BB _ _ _ _ _ E<|adp _
  have o:fV b (K*(2*n)+1):=by unfold fV at *;rw[t];exact ad0 (B8 u d)<|agh (afr _ E) 1
  have lo:fV out (K*(2*n)+1):=by unfold fV at *;rw[s];exact ad0 (B8 u e)<|agh (afr _ E) 1
  obtain⟨m1,J⟩:=cP out b v l;obtain⟨y,x⟩:=cP b b l l;have r:k=2*(k/2)+k%2:=E;have A:d*k=2*d*(k/2)+d*(k%2):=by
   conv=>lhs;rw[r,ag2]
   rw[aeO 2 d,afl]
  have H:=ZO k E;have m:bj (if k%2=1 then jy out b else out):=by split<;>assumption
  have C:bj (if 1<k then jy b b else b):=by split<;>assumption
  refine rn 3 W<|cx 1 [(1,.i k),(2,.box true<|eN b),(4,.box true<|.agg [.i 0,.nil]),(5,.box true<|eN<|if k%2=1 then jy out b else out)] True ?_ λ_=>?_
  ·refine r0 W ?_;rw[H];refine gb W ?_ ?_<;>intro h
   ·have h:k%2=1:=E;rw[if_pos h];refine bP W W (qY out b v l lo o E) W<|r0 W<|gm U
   have h:¬k%2=1:=E;rw[if_neg h];refine r0 W<|gm U
  have q:nv (if k%2=1 then jy out b else out)=nv a^(e+d*(k%2)):=by
   split
   ·rename_i g;rw[m1,s,t,g,Nat.mul_one,af1]
   rename_i g;rw[s,show k%2=0 from E,Nat.mul_zero,agQ]
  generalize (if k%2=1 then jy out b else out)=c at*;have w:=Zj k;have fin:bj (if 1<k then jy b b else b)->(k/2<=n/\bj c/\bj (if 1<k then jy b b else b)/\xI a n=oz (k/2) c (if 1<k then jy b b else b) (k/2)/\(k/2=0\/∃d e,d<=n/\e<=n/\e+d*(k/2)=n/\nv (if 1<k then jy b b else b)=nv a^d/\nv c=nv a^e)):=by
   intro z;refine⟨E,m,z,j,?_⟩;rcases afd (k/2)with g|g
   ·exact .inl g
   have g1:1<k:=E;have g2:2*d<=2*d*(k/2):=aie _ g;have O:d*(k%2)<=d*k:=afr _ E;refine .inr ⟨2*d,e+d*(k%2),E,E,E,?_,q⟩;rw[if_pos g1,y,t,<-af1]
   congr 1;omega
  refine bQ W W ?_ ?_<;>intro h
  ·have h:1<k:=E;rw[if_pos h]at fin;refine bP W W (qY b b l l o o E) W<|r1 W a7<|again (k/2,c,jy b b) (by dsimp only;omega) (fin x) ⟨⟨W,ar.of_eq<|congrArg SV.i w⟩,G,G,G,U⟩
  have h:¬1<k:=E;rw[if_neg h]at fin;refine r1 W a7<|again (k/2,c,b) (by dsimp only;omega) (fin l) ⟨⟨W,ar.of_eq<|congrArg SV.i w⟩,G,G,G,U⟩
 have:k=0:=E;subst this;rw[aai]at p;refine bK W W<|ar.of_eq<|congrArg eN p.symm
def BA:∀(f k:Nat)(out a:Nm),k<=f->bj out->bj a->nv (oz f out a k)=nv out*nv a^k/\bj (oz f out a k)
 |0,k,out,a,h,c,_=>by have:k=0:=E;subst this;exact⟨by rw[aai,agU,ahe],c⟩
 |f+1,k,out,a,h,c,e=>by
  rw[oz];split
  ·rename_i g;simp_all
  obtain⟨m1,p⟩:=cP out a c e;obtain⟨i,o⟩:=cP a a e e;have b:bj (if k%2=1 then jy out a else out):=by split<;>assumption
  have d:bj (if 1<k then jy a a else a):=by split<;>assumption
  obtain⟨n,m⟩:=BA f (k/2) _ _ E b d;refine⟨?_,m⟩;rw[n];have l:nv (if k%2=1 then jy out a else out)=nv out*nv a^(k%2):=by
   split
   ·rename_i g;rw[m1,g,ae1,agU,agK]
   rename_i g;rw[show k%2=0 from E,agU,ahe]
  have j:nv (if 1<k then jy a a else a)^(k/2)=nv a^(2*(k/2)):=by
   split
   ·rw[i,Int.pow_mul];rw[ae1,ae1,agU,agK]
   rw[show k/2=0 from E]
  rw[l,j,ae8,<-af1]
  congr 2;omega
def pr(a:Nm)(n:Nat)(b:bj a):nv (xI a n)=nv a^n/\bj (xI a n):=by obtain⟨d,c⟩:=BA n n ⟨1,none⟩ a .refl Ga b;exact⟨by unfold xI;rw[d];show 1*_=_;rw[agK],c⟩
end Go.Ai.eE
