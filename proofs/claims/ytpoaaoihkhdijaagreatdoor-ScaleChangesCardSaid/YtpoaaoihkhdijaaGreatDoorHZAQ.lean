/- Parts of the proof of ScaleChanges (as AIM.md's row tells), at every input, with no further conditions. -/
import Derived.Test.YtpoaaoihkhdijaaGreatDoorHZAP
import Derived.Laws.StructEq
import Derived.Deep.Slices
import Derived.ChangeArms
import Derived.ChangeStays
import Derived.ChangeBook
set_option linter.all false
set_option maxRecDepth 100000
set_option maxHeartbeats 0
namespace Go.Ai.Pg
open Go.Proofs Go.Ai Go.Ai.eE
def aeU{s:hO}(h:aL s=0)(hl:s.length<=14){q:Rat}{K:Nat}(c:Sz q K)(d:K<2^33):aM Tryz.prog 26 [.s s,.s<|qt q] (.s<|qt<|bV s*q):=by have:=gi (bV s) q (abj h E) c E;rwa[fZ h]at this
noncomputable def mhU(b:fE)(sh:List Int)(is:List (List Int))(i:Nat)(u:bT)(a k:Nat):bT:=⟨u.kind,RL (geF b sh is i u) u.ah k,u.out,qt<|bV u.k*iK (sh.getD u.out.toNat 0),RL (geT sh is i u) u.dI a⟩
section
variable(b:fE)(sh:List Int)(is:List (List Int))(i:Nat)(u:bT)(a k:Nat)
def aev:(Pl.start).s u (qt<|bV u.k*iK (sh.getD u.out.toNat 0))=mhU b sh is i u 0 0:=by unfold mhU;rw[abC,abC];rfl
def aeL:mhU b sh is i u u.dI.length u.ah.length=geU b sh is i u:=by unfold mhU;rw[acY,acY];rfl
def aed(h:a<u.dI.length):(Pl.acP a).s (mhU b sh is i u a k) (qt<|bV ((Pl.acP a).g<|mhU b sh is i u a k)*iK (sh.getD u.out.toNat 0-a*(is.getD i []).getD 0 0))=mhU b sh is i u (a+1) k:=by unfold mhU Pl.s Pl.g;dsimp only;rw[KL _ _ _ _<|adp a,<-acE _ _ _ [] h];rfl
def adv(h:k<u.ah.length){t:hO}(c:t=qt (bV (u.ah.getD k default).dZ*geQ b sh is i u k (u.ah.getD k default))):(Pl.ratio k).s (mhU b sh is i u a k) t=mhU b sh is i u a (k+1):=by subst c;unfold mhU Pl.s;dsimp only;rw[KL _ _ _ _<|adp k,<-acE _ _ _ default h];rfl
end
def aec{u:bT}{k:Nat}{t:hO}(h:k<u.ah.length):((Pl.ratio k).s u t).ah.getD k default=⟨(u.ah.getD k default).sh,t⟩:=by unfold Pl.s;dsimp only;rw[au<|by simpa using h];simp
def aeb{u:bT}{k:Nat}{t c:hO}(h:k<u.ah.length):(Pl.ratio k).s ((Pl.ratio k).s u t) c=(Pl.ratio k).s u c:=by have e:((Pl.ratio k).s ((Pl.ratio k).s u t) c)={(Pl.ratio k).s u t with ah:=((Pl.ratio k).s u t).ah.set k ⟨(((Pl.ratio k).s u t).ah.getD k default).sh,c⟩}:=W;rw[e,aec h];unfold Pl.s;dsimp only;rw[List.set_set]
def mK(p:gV)(b:fE)(sh:List Int)(is:List (List Int))(i:Nat):List (Nat×SV):=[(3,.box true<|bh p),(4,.box true<|dz b),(5,.box true<|tS false sh is),(6,.box true<|.agg [.i 0,.nil,.nil]),(8,.i i)]
def mH(p:gV)(b:fE)(sh:List Int)(is:List (List Int))(C:Value->Prop)(c:List bT)(i:Nat)(x u:bT):List (Nat×SV):=(1000001,.bC 1000000 0 0 [])::(1000000,.bA true 5 default x7<|c.set i x)::(9,.ptr 1000000 0 0 [.idx i 5])::(7,.box true<|.agg [.i p.n,.pv C,.ints .i64 true p.ints])::(10,.i<|sh.getD u.out.toNat 0)::mK p b sh is i
def aei(p:gV)(hp:rA p)(hn:p.aa.length<=110)(hv:∀u∈p.aa,iQ p.n u)(hl:p.aa.all nB=true)(b:fE)(hB:J9 b)(sh:List Int)(is:List (List Int))(Y:StV p sh is):aM Tryz.prog 48 [bh p,dz b,tS false sh is] (bh<|geP b sh is p):=by
 have B0:=hB.c;obtain⟨⟨lX,lI,Q⟩,bX,bI⟩:=id Y;rw[aeI]at hl;have L:∀u∈p.aa,u.ah.length<=12/\u.dI.length<=20:=λu hu=>by have:=hl u hu;unfold nB at this;simp at this;exact⟨this.1.2.1,this.1.2.2.1⟩
 refine bS Tryz.func48 W<|bP W W (aep p E hp.ints λu hu=>by have:=L u hu;omega) W ?_;refine r0 W<|EI ((7,.box true<|adt ⟨p.n,RL (geU b sh is) p.aa 0,p.ints⟩)::mK p b sh is 0) (by rw[abC];exact⟨⟨W,W,.refl _⟩,⟨W,W,.refl _⟩,⟨W,W,.refl _⟩,⟨W,W,.refl _⟩,⟨W,W,.refl _⟩,⟨W,W,.refl _⟩,U⟩) ?_;refine ra (λi:Nat=>((7,.box true<|adt ⟨p.n,RL (geU b sh is) p.aa i,p.ints⟩)::mK p b sh is i)) (λi=>i<=p.aa.length) (λi=>p.aa.length-i) 0 (adk _) ?_;intro i hi;have A0:=x9 (geU b sh is) p.aa i;refine bQ W W ?_ ?_<;>intro g
 ·have j:i<p.aa.length:=by have g:(i:Int)<((RL (geU b sh is) p.aa i).length:Int):=g;omega
  have ei:(i:Int).toNat=i:=E;have hm:=bw (d:=default) j;have z:=λk hk=>aco p hp hv sh is Y i k j hk;have t:=Q i j;have O:=bI _<|bw (d:=([]:List Int))<|show i<is.length from E;have e0:=ac7 (geU b sh is) p.aa i default j;have e1:=acE (geU b sh is) p.aa i default j;have c:∀k,rtQ p sh is i k=iK ((is.getD i []).getD k 0-sh.getD ((p.aa.getD i default).ah.getD k default).sh.toNat 0)*bV ((p.aa.getD i default).ah.getD k default).dZ:=λ_=>rfl;obtain⟨u,hu⟩:∃u,u=p.aa.getD i default:=⟨_,W⟩;rw[<-hu]at hm e0 e1 t z c;obtain⟨z1,z2⟩:=L u hm;have N:=hv u hm;obtain⟨o1,o2⟩:=N.out;have o:=N.Bj;rw[<-e0];generalize RL (geU b sh is) p.aa i=l at*;have hW:∀x,(l.set i x).getD i default=x:=aeH E _;have s:=hl u hm;unfold nB at s;simp only[adD,aeI,decide_eq_true_eq]at s;obtain⟨⟨-,-,-,l1⟩,l2,l3⟩:=s;have S:u.dI.length<=13/\(0<u.dI.length->0<(is.getD i []).length):=by
   rw[t];unfold jT Dh xq at o;simp only[not_or,not_and]at o;obtain⟨s1,-,s3,s4⟩:=o;by_cases g1:u.kind=dy
   ·have:=s3 g1;rw[if_neg<|by rw[g1];decide]at s1;omega
   have:=s4 g1;omega
  have x2:=bX _<|bw (d:=(0:Int))<|show u.out.toNat<sh.length from E;refine Qr 11 W (by simp only[bo,and_true,ad2]<;>omega) ?_;refine ad1 (r:=7) (p0:=9) (v:=.box true<|adt ⟨p.n,l.set i u,p.ints⟩) (q:=[.deref,.at 1 none]++.idx i 5::[]) (K:=(mK p b sh is i)) W W W W (by simp only[bo,and_true,ad2]<;>omega) ⟨⟨W,W,.refl _⟩,⟨W,W,.refl _⟩,⟨W,W,.refl _⟩,⟨W,W,.refl _⟩,⟨W,W,.refl _⟩,⟨W,W,.refl _⟩,U⟩ ?_;refine TC (Z:=1000000) (h:=1000001) (y:=.bA true 5 default x7<|l.set i u) (y2:=.bA true 5 default x7<|l.set i<|geU b sh is i u) (v1:=λC=>.box true<|.agg [.i p.n,.pv C,.ints .i64 true p.ints]) (v2:=λC=>.box true<|.agg [.i p.n,.pv C,.ints .i64 true p.ints]) (v3:=.box true<|adt ⟨p.n,l.set i<|geU b sh is i u,p.ints⟩) (K2:=(mK p b sh is i))
   ⟨fh,fh,fh,fh,fh,fh,fh,fh,fh⟩ W W W (λ_=>rfl) W W (λ_=>rfl) W (by simp only[bo,and_true,ad2]<;>omega) (λ_=>rfl) W (λ_=>rfl) W (λC=>?_) ?_
  ·refine k1 W aW (by simp only[bo,and_true,ad2,hW]<;>omega) ?_;rw[hW];refine bH W (rU (sh.getD u.out.toNat 0) E) W<|bO W W (aeU N.k l1 (abQ E) fh) W<|k1 W aW (by simp only[bo,and_true,ad2]<;>omega) ?_;rw[hW];refine EI ((11,.i 0)::mH p b sh is C l i (mhU b sh is i u 0 0) u) ⟨⟨W,W,.refl _⟩,kL,⟨W,W,.row<|by rw[<-aev];exact ac1<|acZ W⟩,kL,⟨W,W,.refl _⟩,⟨W,W,.refl _⟩,⟨W,W,.refl _⟩,⟨W,W,.refl _⟩,⟨W,W,.refl _⟩,⟨W,W,.refl _⟩,⟨W,W,.refl _⟩,U⟩ ?_;refine ra (λk:Nat=>((11,.i k)::mH p b sh is C l i (mhU b sh is i u 0 k) u)) (λk=>k<=u.ah.length) (λk=>u.ah.length-k) 0 (adk _) ?_;intro k hk;have ek:(k:Int).toNat=k:=E;have H:(mhU b sh is i u 0 k).ah.length=u.ah.length:=x9 _ _ _;refine r1 W (by simp only[bo,and_true,ad2]<;>omega) ?_;rw[hW];refine gb W ?_ ?_<;>intro g
   ·have f:k<u.ah.length:=by have g:(k:Int)<((mhU b sh is i u 0 k).ah.length:Int):=g;omega
    have F:=bw (d:=(default:Hi)) f;obtain⟨f1,f2,f3,-⟩:=N.feed _ F;have lf:=l2 _ F;have x1:=O _<|bw (d:=(0:Int))<|show k<(is.getD i []).length from E;have x3:=bX _<|bw (d:=(0:Int))<|show(u.ah.getD k default).sh.toNat<sh.length from E;refine r1 W (by simp only[bo,and_true,ad2]<;>omega) ?_;refine bH W (z k f) W ?_;obtain⟨m,hm⟩:∃m,m=(Pl.ratio k).s (mhU b sh is i u 0 k) (qt<|rtQ p sh is i k):=⟨_,W⟩;have D:m.kind=u.kind:=by rw[hm];rfl
    have V:m.ah.getD k default=⟨((mhU b sh is i u 0 k).ah.getD k default).sh,qt<|rtQ p sh is i k⟩:=by rw[hm];exact aec E
    have B:m.ah.length=u.ah.length:=by rw[hm,<-H];simp[Pl.s]
    have R:∀P,(Pl.ratio k).s m P=(Pl.ratio k).s (mhU b sh is i u 0 k) P:=λP=>by rw[hm];exact aeb E
    refine Z0 5 W aW (by simp only[bo,and_true,ad2,hW,H]<;>omega) ?_;rw[hW];refine EI ((11,.i k)::mH p b sh is C l i (m) u) ⟨⟨W,W,.refl _⟩,kL,⟨W,W,.row<|by rw[hm];exact ac1<|acZ W⟩,kL,⟨W,W,.refl _⟩,⟨W,W,.refl _⟩,⟨W,W,.refl _⟩,⟨W,W,.refl _⟩,⟨W,W,.refl _⟩,⟨W,W,.refl _⟩,⟨W,W,.refl _⟩,U⟩ ?_;refine r1 W (by simp only[bo,and_true,ad2]<;>omega) ?_;rw[hW];refine aC 70 W ?_ ?_<;>intro w
    ·have w:u.kind=bq:=D.symm.trans w;refine bQ W W ?_ ?_<;>intro k2
     ·have e:rtQ p sh is i k/iK b.c=bV (u.ah.getD k default).dZ*geQ b sh is i u k (u.ah.getD k default):=by
       have h1:=acq 0 b.c;rw[show iK 0=1 from by decide +kernel]at h1;unfold geQ;rw[c,if_pos ⟨E,w⟩,h1]
       grind
      have X:aM Tryz.prog 39 [.s<|qt<|rtQ p sh is i k,.s<|qt<|iK b.c] (.s<|qt<|bV (u.ah.getD k default).dZ*geQ b sh is i u k (u.ah.getD k default)):=by
       rw[<-e];have T:Sz (rtQ p sh is i k) 6:=by rw[c];exact(abQ E).mul<|abj f3 E
       exact O5 _ _ T (abQ E) fh<|Rat.ne_of_gt<|s8 _
      refine r1 W (by simp only[bo,and_true,ad2,hW,B]<;>omega) ?_;rw[hW,ek,V];refine bH W (rU b.c E) W<|bO W W X W<|k1 W aW (by simp only[bo,and_true,ad2,hW,B]<;>omega) ?_;rw[hW];exact vf (k+1) E E ⟨⟨W,W,.refl _⟩,kL,⟨W,W,.row<|by rw[<-adv b sh is i u 0 k f W,<-R];exact ac1<|acZ W⟩,kL,⟨W,W,.refl _⟩,⟨W,W,.refl _⟩,⟨W,W,.refl _⟩,⟨W,W,.refl _⟩,⟨W,W,.refl _⟩,⟨W,W,.refl _⟩,⟨W,W,.refl _⟩,U⟩
     rw[hm,adv b sh is i u 0 k f<|by rw[c];unfold geQ;rw[if_neg E,agt,agJ]];refine qp W<|gS (k+1) E
    rw[hm,adv b sh is i u 0 k f<|by rw[c];unfold geQ;rw[if_neg λe=>w<|D.trans e.2,agt,agJ]];refine qp W<|gS (k+1) E
   have eB:k=u.ah.length:=by have g:¬(k:Int)<((mhU b sh is i u 0 k).ah.length:Int):=g;omega
   subst eB;refine r0 W<|ra (λa:Nat=>((12,.i a)::mH p b sh is C l i (mhU b sh is i u a u.ah.length) u)) (λa=>a<=u.dI.length) (λa=>u.dI.length-a) 0 (adk _) ?_;intro a ha;have ea:(a:Int).toNat=a:=E;have J:(mhU b sh is i u a u.ah.length).dI.length=u.dI.length:=x9 _ _ _;refine r1 W (by simp only[bo,and_true,ad2]<;>omega) ?_;rw[hW];refine gb W ?_ ?_<;>intro g
   ·have M:a<u.dI.length:=by have g:(a:Int)<((mhU b sh is i u a u.ah.length).dI.length:Int):=g;omega
    have eg:(mhU b sh is i u a u.ah.length).dI.getD a []=u.dI.getD a []:=KL _ _ _ _<|adp a;have A:=bw (d:=([]:hO)) M;have h0:=S.2 E;have bx:=O _<|bw (d:=(0:Int)) h0;have p1:=afg bx.1 (show(0:Int)<=a from E);have p2:=afg bx.2 (show(0:Int)<=a from E);have X:aM Tryz.prog 26 [.s<|u.dI.getD a [],.s<|qt<|iK<|sh.getD u.out.toNat 0-a*(is.getD i []).getD 0 0] (.s<|qt<|bV ((Pl.acP a).g<|mhU b sh is i u a u.ah.length)*iK (sh.getD u.out.toNat 0-a*(is.getD i []).getD 0 0)):=by rw[show(Pl.acP a).g (mhU b sh is i u a u.ah.length)=_ from eg];exact aeU (N.dI _ A) (l3 _ A) (adR 520 18 (by decide +kernel) fh E) fh
    refine r1 W (by simp only[bo,and_true,ad2,hW,J,ei,Int.toNat_zero]<;>omega) ?_;rw[hW,ea,eg,ei];refine bH W (rU (sh.getD u.out.toNat 0-a*(is.getD i []).getD 0 0) E) W<|bO W W X W<|k1 W aW (by simp only[bo,and_true,ad2,hW,J]<;>omega) ?_;rw[hW];exact vf (a+1) E E ⟨⟨W,W,.refl _⟩,kL,⟨W,W,.row<|by rw[<-aed b sh is i u a u.ah.length M];exact ac1<|acZ W⟩,kL,⟨W,W,.refl _⟩,⟨W,W,.refl _⟩,⟨W,W,.refl _⟩,⟨W,W,.refl _⟩,⟨W,W,.refl _⟩,⟨W,W,.refl _⟩,⟨W,W,.refl _⟩,U⟩
   have eA:a=u.dI.length:=by have g:¬(a:Int)<((mhU b sh is i u a u.ah.length).dI.length:Int):=g;omega
   subst eA;refine r0 W ?_;rw[aeL];exact⟨_,W,⟨kL,⟨W,W,.refl _⟩,kL,⟨W,W,.refl _⟩,⟨W,W,.refl _⟩,⟨W,W,.refl _⟩,⟨W,W,.refl _⟩,⟨W,W,.refl _⟩,⟨W,W,.refl _⟩,U⟩⟩
  rw[e1];refine qp W<|gS (i+1) E
 have e:RL (geU b sh is) p.aa i=p.aa.mapIdx (geU b sh is):=by have g:¬(i:Int)<((RL (geU b sh is) p.aa i).length:Int):=g;rw[show i=p.aa.length from E,acY]
 rw[e];refine bN W W
def Bl(a:List Int)(h:a.length<2^60):aM Tryz.prog 60 [.ints .i64 false a,.ints .i64 false a] (.b true):=(rN a a h).same W (by rw[decide_eq_true W];rfl)
def aeu(f:Hi){o:Oper}{x y:Operand}{rt:TypeId}(cm:o.op=.binOp .neq 70 x y rt):mE Tryz.prog o [] [oX f,oX f] [] (.b false):=by
 have d:rF (oX f)=some (.agg #[.int .i64 f.sh,.string<|bs f.dZ]):=W;refine tj W W I ?_;intro w S u j hc r a;obtain⟨v,B,K,J,rfl,C,_,i,t,A,H,F,rfl,k,_,c,rfl,rfl⟩:=hc;obtain⟨rfl,-⟩:=(vo d).2 i;obtain⟨rfl,-⟩:=(vo d).2 c;rw[cm]at a;simp[Op.operands,and_true]at a;refine⟨_,.bool false,w,?_,.inl W,S,[],Go.RowKit.Below.refl _ _,λ_ h=>h,λ_ h=>.inl h,j,by simp[SV.den,Rel,scalar],ae5,I⟩;have z:=Tryz.underlying3;have D:=Tryz.isAgg3;have s:=Tryz.sizeOf3;have g:=Tryz.underlying47;have q:=Tryz.isAgg47;have e:=Tryz.sizeOf47;have p:=run_eqGuard_agg (P:=Tryz.prog) w .neq 70 x y #[.int .i64 f.sh,.string<|bs f.dZ] #[.int .i64 f.sh,.string<|bs f.dZ] aW;have n:=run_neq_struct (P:=Tryz.prog) w 70 #[.int .i64 f.sh,.string<|bs f.dZ] #[.int .i64 f.sh,.string<|bs f.dZ];have m:=run_equalIn_agg (P:=Tryz.prog) w 9999 70 #[.int .i64 f.sh,.string<|bs f.dZ] #[.int .i64 f.sh,.string<|bs f.dZ] aW aW;have l:(Op.eqFields 9999 #[.int .i64 f.sh,.string<|bs f.dZ] #[.int .i64 f.sh,.string<|bs f.dZ] (Tryz.prog.fieldsOf 70).toList).run Tryz.prog w=.ok true w:=by
  simp only[Program.fieldsOf,Tryz.underlying70]
  go_simp
 simp[execOp,cm,a,p,n,m,l]
def ad6(l:List hO)(hl:l.length<2^60):aM Tryz.prog 61 [.strs false l,.strs false l] (.b true):=by
 refine bS Tryz.func61 W<|bQ W W (λg=>absurd W g) λ_=>?_;refine r0 W<|ra (λi:Nat=>[(0,.strs false l),(1,.strs false l),(5,.i i)]) (λi=>i<=l.length) (λi=>l.length-i) 0 (adk _) ?_;intro i hi;refine bQ W W ?_ ?_<;>intro g
 ·refine k1 W aW ba<|gb W (λg=>absurd W g) λ_=>?_;refine r1 W (by simp[bo,and_true];omega) ?_;exact gS (i+1) E
 refine bN W W
def adm(p:gV)(hu:p.aa.length<2^40)(hi:p.ints.length<2^60)(h:∀u∈p.aa,u.dI.length<2^40/\u.ah.length<2^40):aM Tryz.prog 45 [bh p,bh p] (.b true):=by
 refine bS Tryz.func45 W<|bJ W 14 W (λg=>absurd W g) λ_=>?_;refine bJ W 23 W (λg=>absurd W g) λ_=>?_;refine bP W W (Bl p.ints hi) W<|r0 W<|ra (λi:Nat=>[(2,.box true<|bh p),(3,.box true<|bh p),(5,.i i)]) (λi=>i<=p.aa.length) (λi=>p.aa.length-i) 0 (adk _) ?_;intro i hi;refine bQ W W ?_ ?_<;>intro g
 ·have a:i<p.aa.length:=E;have f:(i:Int).toNat=i:=E;obtain⟨m,l⟩:=h _<|bw (d:=default) a;refine k1 W aW ba ?_;rw[f];generalize p.aa.getD i default=u at*;refine aC 53 W (λg=>absurd W g) λ_=>?_;refine bJ W 60 W (λg=>absurd W g) λ_=>?_;refine bJ W 67 W (λg=>absurd W g) λ_=>?_;refine bJ W 76 W (λg=>absurd W g) λ_=>?_;refine bP W W (ad6 u.dI E) W<|r0 W<|ra (λk:Nat=>[(2,.box true<|bh p),(3,.box true<|bh p),(5,.i i),(6,.box true<|dQ u),(7,.box true<|dQ u),(8,.i k)]) (λk=>k<=u.ah.length) (λk=>u.ah.length-k) 0 (adk _) ?_;intro k j;refine bQ W W ?_ ?_<;>intro g
  ·have c:k<u.ah.length:=E;have e:(k:Int).toNat=k:=E;refine r1 W ba ?_;rw[e];refine Y9 W W W (aeu (u.ah.getD k default) W) W<|k1 W aW (by simp[bo,and_true];omega) ?_;exact gS (k+1) E
  refine r1 W (by simp[bo,and_true];omega) ?_;exact gS (i+1) E
 refine bN W W
end Go.Ai.Pg
namespace Go.Ai
open Go.Proofs Go.RowKit
section
variable{P:Program}
section
variable{α:Type}{t:TypeId}{G:α->Prop}{E:α->SV}
def gH(P:Program)(t:TypeId)(E:α->SV)(G:α->Prop):Prop:=
 ∀{H:Type}{enc:TypeId×Value->H}{w:World}{fuel:Nat}{cs:List Value}{x:DataW H×List MemPlace},DataW.trod enc P w 0 (λ_=>true) true fuel t cs=some x->
  ∃(a:α)(v:Value),G a/\cs=[v]/\v.oneCell'=true/\∀S:Nat->Prop,(∀b,b<w.heap.size->S b)->Rel w S (E a).den v []
def SG(P:Program)(t:TypeId)(sz:Nat)(E:α->SV)(G:α->Prop):Prop:=
 ∀{H:Type}{enc:TypeId×Value->H}{w:World}{fuel:Nat}{cs:List Value}{x:DataW H×List MemPlace},DataW.trod enc P w 0 (λ_=>true) true fuel t cs=some x->
  ∃(a:α)(v:Value),G a/\cs=v.cells.toList/\v.cells.size=sz/\∀S:Nat->Prop,(∀b,b<w.heap.size->S b)->Rel w S (E a).den v []
def gH.wide(h:gH P t E G):SG P t 1 E G:=λc=>by obtain⟨a,v,f,e,b,d⟩:=h c;exact⟨a,v,f,by rw[cD b];exact e,by rw[cD b];rfl,d⟩
def gH.map{b:Type}{d:b->SV}{c:b->Prop}(f:α->b)(he:∀a,(d<|f a).den=(E a).den)(g:∀a,G a->c (f a))(h:gH P t E G):gH P t d c:=λe=>by
 obtain⟨a,v,l,k,j,i⟩:=h e
 grind
def Ol(b:P.underlying t=some (.int .i64)):gH P t (λn:Int=>.i n) λ_=>True:=λa=>by obtain⟨n,rfl,-,-⟩:=DataW.trod_int b a;exact⟨n,_,U,W,W,λS c=>by simp[SV.den,Rel,scalar]⟩
def El(b:P.underlying t=some .string):gH P t (λs:hO=>.s s) λs=>s.length<=9223372036854775807:=λa=>by obtain⟨s,rfl,-,hs⟩:=DataW.trod_string b a;refine⟨s.data.toList,_,?_,W,W,λS c=>by simp[SV.den,Rel,scalar,Fg]⟩;show s.data.toList.length<=_;rw[afJ];exact hs
def RQ{w:World}{S:Nat->Prop}{sz:Nat}{cs:Array Value}:∀(X:List AV)(off:Nat),off+X.length*sz<=cs.size->(∀i(hi:i<X.length),∃v:Value,v.cells.size=sz/\(∀j,j<sz->cs[off+i*sz+j]?=v.cells[j]?)/\Rel w S X[i] v [])->
 c7 w S sz X ((cs.toList.drop off).take<|X.length*sz) []
 |[],off,_,_=>by simp[c7]
 |x::X,off,a,h=>by
  rw[adX,ae9]at a;obtain⟨v,d,f,c⟩:=h 0 (by simp);have b:=RQ (w:=w) (S:=S) (sz:=sz) (cs:=cs) X (off+sz) (by omega) λi hi=>by
   obtain⟨v,k1,k2,k3⟩:=h (i+1) (by simpa using hi)
   grind
  refine⟨v,_,[],[],?_,W,d,c,b⟩;have e:(x::X).length*sz=sz+X.length*sz:=by grind
  rw[e,List.take_add,agk]
  congr 1
  apply ahs
  grind
def mo{e:TypeId}{sz:Nat}(d:α)(L:P.underlying t=some (.slice e))(hc:P.cellsOf e=sz)(s:0<sz)(h:SG P e sz E G):
 gH P t (λl:List α=>.bA false sz d E l) λl=>l.length<=9223372036854775807/\∀a∈l,G a:=λ{H enc w fuel cs x}K=>by
 rcases Deep.open_slice L K with⟨rfl,-⟩|⟨a,len,R,m,n,D,Pl,rfl,-,hl,hm,y,-,k⟩
 ·exact⟨[],_,⟨by simp,by simp⟩,W,W,λS A=>by simp[SV.den,Rel,fl]⟩
 subst y;by_cases O:m=0
 ·subst O;have:len=0:=by omega
  subst this;exact⟨[],_,⟨by simp,by simp⟩,W,W,λS A=>by simp[SV.den,Rel,fl]⟩
 rw[hc]at k;have cell:∀i,i<m->∀j,j<sz->∃u,w.cell? ((a.add<|i*sz).add j)=some u:=λi hi j M=>by obtain⟨B,k1,-⟩:=k i hi;obtain⟨-,k2,k3⟩:=World.cells?_some k1;simp_all
 obtain⟨T,g⟩:=cell 0 (by omega) 0 s;have Q:(a.add<|0*sz).add 0=a:=by simp[Addr.add]
 rw[Q]at g;obtain⟨b,c,o⟩:=a;have q:∃(row:Array Value)(J:TypeId)(r:Nat×Nat),w.heap[b]?=some (.cells row J r)/\o=none:=by
  unfold World.cell? at g;split at g
  ·simp_all
  cases g
 obtain⟨row,J,r,hh,rfl⟩:=q;have C:row? w b=some (row,r):=zf hh;have N:b<w.heap.size:=by grind
 have z:∀i,i<m->∀j,j<sz->w.cell? (((⟨b,c,none⟩:Addr).add<|i*sz).add j)=row[c+i*sz+j]?:=λi hi j M=>by
  rw[Deep.add_add,cj W,pS W C]
  grind
 have F:c+m*sz<=row.size:=by
  obtain⟨u,hu⟩:=cell (m-1) (by omega) (sz-1) (by omega);rw[z (m-1) (by omega) (sz-1)<|by omega]at hu;have Y:=(af8.1 hu).1;have e1:m*sz=(m-1)*sz+sz:=by
   have:m=(m-1)+1:=by omega
   grind
  omega
 haveI:Inhabited α:=⟨d⟩
 obtain⟨f,V⟩:=Deep.choose_lt (α:=α) (n:=len) (p:=λi a=>G a/\∃v:Value,v.cells.size=sz/\(∀j,j<sz->row[c+i*sz+j]?=v.cells[j]?)/\∀S:Nat->Prop,(∀b,b<w.heap.size->S b)->Rel w S (E a).den v []) λi hi=>by
  obtain⟨B,k1,k2⟩:=k i (by omega);obtain⟨-,k3,k4⟩:=World.cells?_some k1;obtain⟨a,v,g1,rfl,g3,Z⟩:=h k2
  grind
 refine⟨(List.range len).map f,_,⟨by simp[aeW,aiA];simp[maxLen]at hm;omega,λa X=>?_⟩,W,W,λS A=>?_⟩
 ·grind
 simp only[SV.den,fl,Rel];refine .inr ⟨b,c,m,row,r,by simp,A b N,C,by simpa using hl,?_,U⟩;refine RQ _ c ?_ λi hi=>?_
 ·simp[aeW,aiA];have:len*sz<=m*sz:=aeX _ hl;omega
 grind
def qU(P:Program)(t:TypeId)(sz:Nat)(E:α->SV)(G:α->Prop):Prop:=
 ∀{H:Type}{enc:TypeId×Value->H}{w:World}{fuel:Nat}{cs:List Value}{x:DataW H×List MemPlace},DataW.trod enc P w 0 (λ_=>true) true fuel t cs=some x->
  ∃a:α,G a/\cs.length=sz/\∀S:Nat->Prop,(∀b,b<w.heap.size->S b)->Rel w S (E a).den (.agg cs.toArray) []
def qU.wide{sz:Nat}(h:qU P t sz E G):SG P t sz E G:=λ{H enc w fuel cs x}b=>by obtain⟨a,e,d,c⟩:=h b;exact⟨a,.agg cs.toArray,e,by simp[Value.cells],by simpa[Value.cells]using d,c⟩
end
section
variable{H:Type}{enc:TypeId×Value->H}{w:World}{fuel:Nat}{cs:List Value}{x:DataW H×List MemPlace}{t:TypeId}{fs:Array Field}
def jf(g:P.underlying t=some (.struct fs))(e:DataW.trod enc P w 0 (λ_=>true) true fuel t cs=some x){i:Nat}{f:Field}(j:fs[i]?=some f)(hc:P.cellsOf f.type=1){α:Type}{E:α->SV}{G:α->Prop}(h:gH P f.type E G):
 ∃(a:α)(v:Value),G a/\cs[f.offset]?=some v/\v.oneCell'=true/\∀S:Nat->Prop,(∀b,b<w.heap.size->S b)->Rel w S (E a).den v []:=by
 obtain⟨d,n,-,-,-,hl,hh⟩:=DataW.trod_struct g e;have hi:i<d.length:=by grind
 have c:=hh i f j;rw[aeF hi,hc]at c;obtain⟨a,v,p,o,m,k⟩:=h c;refine⟨a,v,p,?_,m,k⟩;have:=congrArg (λl:List Value=>l[0]?) o;simpa using this
def W8(g:P.underlying t=some (.struct fs))(e:DataW.trod enc P w 0 (λ_=>true) true fuel t cs=some x){i:Nat}{f:Field}(j:fs[i]?=some f){sz:Nat}(hc:P.cellsOf f.type=sz){α:Type}{E:α->SV}{G:α->Prop}(h:qU P f.type sz E G):
 ∃a:α,G a/\((cs.drop f.offset).take sz).length=sz/\∀S:Nat->Prop,(∀b,b<w.heap.size->S b)->Rel w S (E a).den (.agg ((cs.drop f.offset).take sz).toArray) []:=by
 obtain⟨d,n,-,-,-,hl,hh⟩:=DataW.trod_struct g e;have hi:i<d.length:=by grind
 have c:=hh i f j;rw[aeF hi,hc]at c;exact h c
def lB(b:P.underlying t=some (.struct fs))(a:DataW.trod enc P w 0 (λ_=>true) true fuel t cs=some x):cs.length=P.cellsOf t:=by obtain⟨c,n,-,-,h,-⟩:=DataW.trod_struct b a;exact h
end
def dM{w:World}{S:Nat->Prop}{one:Bool}{x:AV}{v:Value}{xs:List AV}{a:List Value}(d:v.oneCell'=true)(c:Rel w S x v [])(b:Cells w S one xs a []):Cells w S one (x::xs) (v::a) []:=by simp only[Cells];grind
def sO{w:World}{S:Nat->Prop}{one:Bool}:Cells w S one [] [] []:=by simp[Cells]
def s6{w:World}{S:Nat->Prop}{xs:List AV}{a:List Value}(h:Cells w S true xs a []):Rel w S (.agg xs) (.agg a.toArray) []:=by simp[Rel];simp_all
def zm{H:Type}{enc:TypeId×Value->H}{a f:World}{t:TypeId}(hl:laidOutB P=true)(g:P.readableRec t=true)(j:t<P.types.size)(k:Below a.heap.size a f){n:Nat}{cs:List Value}{x:DataW H×List MemPlace}
 (h:DataW.trod enc P a 0 (λ_=>true) true n t cs=some x):DataW.trod enc P f 0 (λb=>decide (b<a.heap.size)) true n t cs=some x:=
 have c:=DataW.trod_lt n t cs x h
 DataW.trod_stays (kids_book hl g) (book_sized g) (λh=>by cases h) ⟨j,book_self t⟩ h
  (λp d=>by
    have e:=k.block p.block<|c p d;cases p with
    |cell b i=>simp[World.sameAt,World.cell?];rw[show f.heap[b]?=a.heap[b]?from e]
    |map b=>exact e)
  λp d=>by simpa using c p d
end
section
variable{α:Type}{l:List α}{a b c d:α}
def No:Tryz.prog.cellsOf 70=2:=aW
def Np:Tryz.prog.cellsOf 50=5:=aW
def UU:Tryz.prog.cellsOf 25=3:=aW
def JO:Tryz.prog.cellsOf 28=4:=aW
def c3:Tryz.prog.cellsOf 3=1:=aW
def c9:Tryz.prog.cellsOf 9=1:=aW
def YN:Tryz.prog.cellsOf 47=1:=aW
def c45:Tryz.prog.cellsOf 46=1:=aW
def c47:Tryz.prog.cellsOf 48=1:=aW
def c22:Tryz.prog.cellsOf 22=1:=aW
def c23:Tryz.prog.cellsOf 23=1:=aW
abbrev Ag{α:Type}(l:List α):Prop:=l.length<=9223372036854775807
def Vw(h:l.length=2)(f:l[0]?=some a)(e:l[1]?=some b):l=[a,b]:=by
 match l,h with
 |[x,y],_=>simp at f e;rw[f,e]
def Yo(h:l.length=3)(g:l[0]?=some a)(f:l[1]?=some b)(e:l[2]?=some c):l=[a,b,c]:=by
 match l,h with
 |[x,y,z],_=>simp at g f e;rw[g,f,e]
def Yn(h:l.length=4)(i:l[0]?=some a)(g:l[1]?=some b)(f:l[2]?=some c)(e:l[3]?=some d):l=[a,b,c,d]:=by
 match l,h with
 |[x,y,z,u],_=>simp at i g f e;rw[i,g,f,e]
def Ym{e:α}(h:l.length=5)(k:l[0]?=some a)(j:l[1]?=some b)(i:l[2]?=some c)(g:l[3]?=some d)(f:l[4]?=some e):l=[a,b,c,d,e]:=by
 match l,h with
 |[x,y,z,u,v],_=>simp at k j i g f;rw[k,j,i,g,f]
def o3:gH Tryz.prog 3 (λn:Int=>.i n) λ_=>True:=Ol Tryz.underlying3
def Yd:gH Tryz.prog 47 (λs:hO=>.s s) Ag:=El Tryz.underlying47
def o9:gH Tryz.prog 9 (λs:hO=>.s s) Ag:=El Tryz.underlying9
def o79:qU Tryz.prog 70 2 oX λf=>Ag f.dZ:=λ{H m w h r x}e=>by obtain⟨a,q,-,o,k,r0⟩:=jf Tryz.underlying70 e (i:=0) W c3 o3;obtain⟨b,p,g1,n,j,r1⟩:=jf Tryz.underlying70 e (i:=1) W YN Yd;have hl:=(lB Tryz.underlying70 e).trans No;obtain rfl:=Vw hl o n;exact⟨⟨a,b⟩,g1,hl,λS g=>s6<|dM k (r0 S g)<|dM j (r1 S g) sO⟩
def o28:qU Tryz.prog 28 4 dz λ_=>True:=λ{H p w g A x}e=>by obtain⟨a,z,-,t,o,r0⟩:=jf Tryz.underlying28 e (i:=0) W c3 o3;obtain⟨b,y,-,s,n,r1⟩:=jf Tryz.underlying28 e (i:=1) W c3 o3;obtain⟨c,v,-,r,m,j⟩:=jf Tryz.underlying28 e (i:=2) W c3 o3;obtain⟨d,u,-,q,k,h⟩:=jf Tryz.underlying28 e (i:=3) W c3 o3;have hl:=(lB Tryz.underlying28 e).trans JO;obtain rfl:=Yn hl t s r q;exact⟨⟨a,b,c,d⟩,U,hl,λS f=>s6<|dM o (r0 S f)<|dM n (r1 S f)<|dM m (j S f)<|dM k (h S f) sO⟩
def o45:gH Tryz.prog 46 (λl=>.bA false 2 default oX l) λl=>Ag l/\∀f∈l,Ag f.dZ:=mo default Tryz.underlying46 No fh o79.wide
def o47:gH Tryz.prog 48 (λl=>.strs false l) λl=>Ag l/\∀c∈l,Ag c:=gH.map id (λ_=>rfl) (λ_ h=>h)<|mo [] Tryz.underlying48 YN fh<|gH.wide Yd
def o23:gH Tryz.prog 23 (λl=>.ints .i64 false l) λl=>Ag l:=gH.map id (λ_=>rfl) (λ_ h=>h.1)<|mo 0 Tryz.underlying23 c3 fh<|gH.wide o3
structure Z9(u:bT):Prop where
 kind:Ag u.kind
 ah:Ag u.ah
 dI:Ag u.dI
 k:Ag u.k
 dZ:∀f∈u.ah,Ag f.dZ
 Kj:∀c∈u.dI,Ag c
def o49:qU Tryz.prog 50 5 dQ Z9:=λ{H v w j M x}f=>by obtain⟨a,L,u,C,s,r0⟩:=jf Tryz.underlying50 f (i:=0) W c9 o9;obtain⟨b,K,g1,B,r,r1⟩:=jf Tryz.underlying50 f (i:=1) W c45 o45;obtain⟨c,J,-,A,q,n⟩:=jf Tryz.underlying50 f (i:=2) W c3 o3;obtain⟨d,F,t,z,p,m⟩:=jf Tryz.underlying50 f (i:=3) W YN Yd;obtain⟨e,D,h,y,o,k⟩:=jf Tryz.underlying50 f (i:=4) W c47 o47;have hl:=(lB Tryz.underlying50 f).trans Np;obtain rfl:=Ym hl C B A z y;exact⟨⟨a,b,c,d,e⟩,⟨u,g1.1,h.1,t,g1.2,h.2⟩,hl,λS g=>s6<|dM s (r0 S g)<|dM r (r1 S g)<|dM q (n S g)<|dM p (m S g)<|dM o (k S g) sO⟩
def o22:gH Tryz.prog 22 (λl=>.bA false 5 default dQ l) λl=>Ag l/\∀u∈l,Z9 u:=mo default Tryz.underlying22 Np fh o49.wide
def o25:qU Tryz.prog 25 3 bh Zb:=λ{H n w g v x}e=>by
 obtain⟨a,t,-,q,m,r0⟩:=jf Tryz.underlying25 e (i:=0) W c3 o3;obtain⟨b,s,g1,p,k,r1⟩:=jf Tryz.underlying25 e (i:=1) W c22 o22;obtain⟨c,r,g2,o,j,h⟩:=jf Tryz.underlying25 e (i:=2) W c23 o23;have hl:=(lB Tryz.underlying25 e).trans UU;obtain rfl:=Yo hl q p o;exact⟨⟨a,b,c⟩,⟨g1.1,g2,λu hu=>(g1.2 u hu).kind,λu hu=>(g1.2 u hu).ah,λu hu=>(g1.2 u hu).dI,λu hu=>(g1.2 u hu).k,λu hu=>(g1.2 u hu).dZ,λu hu=>(g1.2 u hu).Kj⟩,hl,
  λS f=>s6<|dM m (r0 S f)<|dM k (r1 S f)<|dM j (h S f) sO⟩
end
end Go.Ai
namespace Go.Ai.Pg
open Go Go.Proofs Go.Ai Go.Ai.eE Go.RowKit
def c34:Tryz.prog.cellsOf 31=1:=aW
def abf:Tryz.prog.cellsOf 23=1:=aW
def aa6:Tryz.prog.cellsOf 33=2:=aW
def o34:gH Tryz.prog 31 (λl:List (List Int)=>.bA false 1 [] (SV.ints .i64 false) l) λl=>Ag l/\∀x∈l,Ag x:=mo [] Tryz.underlying31 abf fh<|gH.wide o23
def o59:qU Tryz.prog 33 2 (λa:List Int×List (List Int)=>tS false a.1 a.2) λa=>Ag a.1/\Ag a.2/\∀x∈a.2,Ag x:=λ{H j w e o x}c=>by obtain⟨a,n,h,l,g,r0⟩:=jf Tryz.underlying33 c (i:=0) W abf o23;obtain⟨b,m,g1,k,f,r1⟩:=jf Tryz.underlying33 c (i:=1) W c34 o34;have hl:=(lB Tryz.underlying33 c).trans aa6;obtain rfl:=Vw hl l k;exact⟨(a,b),⟨h,g1⟩,hl,λS d=>s6<|dM g (r0 S d)<|dM f (r1 S d) sO⟩
end Go.Ai.Pg
namespace Go.Ai.Pg
open Go.Proofs Go.Ai Go.Ai.eE
def adg(c:List hO)(b:fE)(sh:List Int)(is:List (List Int)):SV:=.agg [.strs false c,.i b.c,.i b.d,.i b.s,.i b.g,.ints .i64 false sh,.bA false 1 [] (SV.ints .i64 false) is]
def aeD:Tryz.prog.cellsOf 86=7:=aW
def o86:qU Tryz.prog 86 7 (λa:List hO×fE×List Int×List (List Int)=>adg a.1 a.2.1 a.2.2.1 a.2.2.2) λa=>Ag a.1/\(∀s∈a.1,Ag s)/\Ag a.2.2.1/\Ag a.2.2.2/\∀x∈a.2.2.2,Ag x:=λ{H q w j v x}c=>by
 obtain⟨l,m,h,r,o,r0⟩:=jf Tryz.underlying86 c (i:=0) W c47 o47;obtain⟨b,-,-,r1⟩:=W8 Tryz.underlying86 c (i:=1) W JO o28;obtain⟨a,g2,-,n⟩:=W8 Tryz.underlying86 c (i:=2) W aa6 o59;have hl:=(lB Tryz.underlying86 c).trans aeD;refine⟨(l,b,a.1,a.2),⟨h.1,h.2,g2⟩,hl,λS d=>?_⟩
 match v,hl with
 |[k,D,C,B,A,z,y],_=>
  have e:k=m:=by simpa using r
  subst e;obtain⟨u,g,k1⟩:=r1 S d;obtain⟨t,f,k2⟩:=n S d;simp at g f;subst g f;exact s6<|dM o (r0 S d)<|Cells.append k1 k2
def ac6{α a:Type}{f:Nat->α->a}{l:List α}{P:a->Prop}(h:∀i(hi:i<l.length),P<|f i l[i]):∀y∈l.mapIdx f,P y:=λy b=>by obtain⟨i,hi,rfl⟩:=List.mem_mapIdx.1 b;exact h _ _
def adn{s:hO}(h:aL s=0)(hl:s.length<=14){q:Rat}(a:Sz q 50):MdS (qt<|bV s*q):=⟨_,W,((abj h E).mul a).mono fh⟩
def MdU(u:bT):Prop:=MdS u.k/\(∀s∈u.dI,MdS s)/\(∀f∈u.ah,MdS f.dZ)/\u.dI.length<2^40/\u.ah.length<2^40
section
variable{p:gV}(hv:∀u∈p.aa,iQ p.n u)(hl:p.aa.all nB=true)
include hv hl
theorem aea{c:List hO}(hc:adP p.n c):∀u∈(scP c p).aa,MdU u:=by rw[aeI]at hl;refine ac6 λi hi=>?_;have hm:=adC hi;generalize p.aa[i]=u at*;have hV:=hv u hm;have hLu:=hl u hm;unfold nB at hLu;simp only[adD,aeI,decide_eq_true_eq]at hLu;obtain⟨⟨-,z1,z2,l1⟩,l2,l3⟩:=hLu;obtain⟨o1,o2⟩:=hV.out;obtain⟨-,-,q1⟩:=hc.fr (i:=u.out) E o2;refine⟨adn hV.k l1<|q1.mono fh,ac6 λk hk=>adn (hV.dI _<|adC hk) (l3 _<|adC hk)<|q1.mono fh,ac6 λk hk=>?_,by simp[scU];omega,by simp[scU];omega⟩;have hmf:=adC hk;have:=ad4 hc hV hk;rw[au hk]at this;exact adn (hV.feed _ hmf).2.2.1 (l2 _ hmf) this
def aem{b:fE}(A:J9 b){sh:List Int}{is:List (List Int)}(q:StV p sh is):∀u∈(geP b sh is p).aa,MdU u:=by
 have z:=A.c;obtain⟨⟨Q,R,m⟩,o,C⟩:=id q;rw[aeI]at hl;refine ac6 λi hi=>?_;have g:=m i hi;have l:=C _<|bw (d:=([]:List Int))<|show i<is.length from E;have hm:=adC hi;rw[au hi]at g;generalize p.aa[i]=u at*;have j:=hv u hm;have c:=j.Bj;have f:=hl u hm;unfold nB at f;simp only[adD,aeI,decide_eq_true_eq]at f;obtain⟨⟨-,F,D,x⟩,w,v⟩:=f;obtain⟨P,O⟩:=j.out;have J:=o _<|bw (d:=(0:Int))<|show u.out.toNat<sh.length from E;refine⟨adn j.k x<|(abQ (e:=sh.getD u.out.toNat 0) E).mono fh,ac6 λk a=>?_,ac6 λk a=>?_,by simp[geU,gkU,gfU];omega,by simp[geU,gkU,gfU];omega⟩
 ·have a:k<u.dI.length:=a;have y:u.dI.length<=13/\0<(is.getD i []).length:=by
   rw[g];unfold jT Dh xq at c;simp only[not_or,not_and]at c;obtain⟨t,-,s,r⟩:=c;by_cases g1:u.kind=dy
   ·have:=s g1;rw[if_neg<|by rw[g1];decide]at t;omega
   have:=r g1;omega
  have n:=l _<|bw (d:=(0:Int)) y.2;have N:=afg n.1 (show(0:Int)<=k from E);have M:=afg n.2 (show(0:Int)<=k from E);exact adn (j.dI _<|adC a) (v _<|adC a)<|(adR 520 18 (by decide +kernel) fh<|by show Int.natAbs (sh.getD u.out.toNat 0-_)<=_;omega).mono fh
 have a:k<u.ah.length:=a;have h:=adC a;obtain⟨T,S,B,-⟩:=j.feed _ h;have K:=l _<|bw (d:=(0:Int))<|show k<(is.getD i []).length from E;have H:=o _<|bw (d:=(0:Int))<|show(u.ah[k]).sh.toNat<sh.length from E;refine adn B (w _ h) ?_;unfold geQ;refine((abQ E).mul (L:=3) ?_).mono fh;split
 ·exact abQ E
 exact abQ (e:=0) fh
end
def adO(q:aM Tryz.prog 14 [] (.b true))(p:gV)(X:Zb p)(c:List hO)(b:fE)(sh:List Int)(is:List (List Int))(Z:c.length<=9223372036854775807)(M:∀s∈c,s.length<=9223372036854775807)(h1:sh.length<=9223372036854775807)(h2:is.length<=9223372036854775807)(h3:∀l∈is,l.length<=9223372036854775807):
 aM Tryz.prog 7 [bh p,adg c b sh is] (.b true):=by
 refine bS Tryz.func7 W<|cx 2 [(2,.box true<|bh p),(3,.box true<|adg c b sh is)] (qC p=true/\Kv sh is=true/\c.length<=110) ?_ λhA=>?_
 ·refine bP W W (Ub p X) W<|r0 W<|iN 17 W ?_ ?_<;>intro g1
  ·refine bP W W q W<|bN W W
  refine bP W W ((aa0 sh is h1 h2 h3).same W W) W<|r0 W<|iN 23 W ?_ ?_<;>intro g2
  ·refine bP W W q W<|bN W W
  refine bQ W W ?_ ?_<;>intro R
  ·refine bP W W q W<|bN W W
  refine r0 W<|gm ⟨QL g1,QL g2,E⟩
 obtain⟨y,B,Y⟩:=hA;obtain⟨D,j⟩:BE p/\p.aa.all nB=true:=by unfold qC at y;rw[adD,adD,decide_eq_true_eq]at y;exact⟨y.1,y.2.1⟩
 have t:=IE D j;refine cx 1 [(2,.box true<|bh p),(3,.box true<|adg c b sh is)] (∀s∈c,s.length<=14) ?_ λv=>?_
 ·refine r0 W<|ra (λi:Nat=>[(2,.box true<|bh p),(3,.box true<|adg c b sh is),(31,.strs false c),(32,.i c.length),(33,.i i)]) (λi=>i<=c.length/\∀s∈c.take i,s.length<=14) (λi=>c.length-i) 0 ⟨adk _,I⟩ ?_;rintro i⟨hi,H⟩;refine bQ W W ?_ ?_<;>intro g
  ·have F:i<c.length:=E;have V:(i:Int).toNat=i:=E;have hm:=M _<|adC F;refine r1 W (by simp only[bo,and_true,V]<;>omega) ?_;rw[V,au F];refine gb W ?_ ?_<;>intro g2
   ·refine bP W W q W<|bN W W
   refine r1 W ba<|gS (i+1) ⟨E,λs hs=>?_⟩;rw[aey F,afR,agl]at hs;rcases hs with hs|rfl
   ·exact H s hs
   omega
  rw[adM E]at H;refine r0 W<|gm H
 have N:∀s∈c,ct s:=λs hs=>by have:=v s hs;unfold ct;omega
 have J:aM Tryz.prog 45 [bh ⟨0,[],[]⟩,.agg [.i 0,.nil,.nil]] (.b true):=(adm ⟨0,[],[]⟩ fh fh λu hu=>by cases hu).tW<|.cons (.refl _)<|.cons (.agg<|.cons (.refl _)<|.cons (.le<|show ar .nil (.bA false 5 default dQ [])from W)<|.cons (.le<|show ar .nil (.ints .i64 false [])from W) .nil) .nil;obtain⟨Q,r⟩:∃Q:gV,Q=if scE p c=0 then scP c p else⟨0,[],[]⟩:=⟨_,W⟩;obtain⟨a,w⟩:∃a:gV,a=if geE p b sh is=0 then geP b sh is p else⟨0,[],[]⟩:=⟨_,W⟩;have S:Ah (.agg [.i 0,.nil,.nil]) (bh ⟨0,[],[]⟩):=.agg<|.cons (.refl _)<|.cons (.le<|show ar .nil (.bA false 5 default dQ [])from W)<|.cons (.le<|show ar .nil (.ints .i64 false [])from W) .nil;obtain⟨z,d⟩:∃e,e=scE p c:=⟨_,W⟩;obtain⟨k,f⟩:∃e,e=geE p b sh is:=⟨_,W⟩;have C:z=0->dT p=0/\ac9 p.n c=0:=λh=>by
  rw[d]at h;unfold scE at h;split at h
  ·rename_i g;exact absurd h g
  rename_i g;exact⟨afI.1 g,h⟩
 have K:k=0->dT p=0/\od b=0/\aaA p sh is=0/\¬YF p sh is b:=λh=>by rw[f]at h;unfold geE at h;repeat' split at h<;>simp_all
 refine cx 1 [(2,.box true<|bh p),(3,.box true<|adg c b sh is),(7,.box true<|bh Q),(8,.i z)] True ?_ λ_=>?_
 ·refine r0 W ?_;by_cases g:z=0
  ·obtain⟨g1,g2⟩:=C g;rw[if_pos (d▸g)]at r;refine bG W (ad8 p t g1 j c (adx g2 v) g2) W<|r0 W ?_;rw[r,g];exact gm U
  rw[if_neg (d▸g)]at r;refine bG W (adT p t c v E (d▸g)) W<|r0 W ?_;rw[r,d];exact Yh () U ⟨⟨W,W,.refl _⟩,⟨W,W,.refl _⟩,⟨W,W,.box S⟩,⟨W,W,.refl _⟩,U⟩
 refine cx 1 [(2,.box true<|bh p),(3,.box true<|adg c b sh is),(7,.box true<|bh Q),(8,.i z),(9,.box true<|bh a),(10,.i k)] True ?_ λ_=>?_
 ·refine r0 W ?_;by_cases g:k=0
  ·rw[if_pos (f▸g)]at w;refine bG W ((aeh p t b sh is B (f▸g) j).same W W) W<|r0 W ?_;rw[w,g];exact gm U
  rw[if_neg (f▸g)]at w;refine bG W ((adW p t b sh is B (f▸g)).same W W) W<|r0 W ?_;rw[w,f];exact Yh () U ⟨⟨W,W,.refl _⟩,⟨W,W,.refl _⟩,⟨W,W,.refl _⟩,⟨W,W,.refl _⟩,⟨W,W,.box S⟩,⟨W,W,.refl _⟩,U⟩
 refine cx 4 [(2,.box true<|bh p),(3,.box true<|adg c b sh is),(7,.box true<|bh Q),(8,.i z),(9,.box true<|bh a),(10,.i k),(11,.i z),(12,.i<|dT p),(13,.box true<|.agg [.i 0,.nil,.nil])] True ?_ λ_=>?_
 ·refine bP W W (mN p t) W<|bQ W W ?_ ?_<;>intro g
  ·refine bP W W (ady p c N E (Og g).1) W<|bL W U ⟨G,G,G,G,G,G,⟨W,ar.of_eq<|congrArg SV.i<|by rw[d];unfold scE;rw[if_neg<|not_not_intro g]⟩,G,G,U⟩
  refine bL W U ⟨G,G,G,G,G,G,⟨W,ar.of_eq<|congrArg SV.i<|by rw[d];unfold scE;rw[if_pos g]⟩,G,G,U⟩
 refine cx 1 [(2,.box true<|bh p),(3,.box true<|adg c b sh is),(7,.box true<|bh Q),(8,.i z),(9,.box true<|bh a),(10,.i k),(11,.i z),(12,.i<|dT p),(13,.box true<|bh Q)] True ?_ λ_=>?_
 ·refine bQ W W ?_ ?_<;>intro g
  ·obtain⟨g1,g2⟩:=C g;obtain⟨n1,A,T,hv⟩:=Og g1;have H:=adx g2 v;rw[if_pos (d▸g)]at r;refine bP W W (ad9 p t D.2.1 hv j c H) W<|bP W W (adq (scP c p) (by simp[scP];omega)<|aea hv j H) W ?_;refine r0 W ?_;rw[r,g];exact gm U
  rw[if_neg (d▸g)]at r;refine r0 W ?_;rw[r];exact Yh () U ⟨⟨W,W,.refl _⟩,⟨W,W,.refl _⟩,⟨W,W,.refl _⟩,⟨W,W,.refl _⟩,⟨W,W,.refl _⟩,⟨W,W,.refl _⟩,⟨W,W,.refl _⟩,⟨W,W,.refl _⟩,⟨W,W,.box S⟩,U⟩
 have O:z=0->aM Tryz.prog 45 [bh Q,bh Q] (.b true):=λh=>by obtain⟨g1,g2⟩:=C h;obtain⟨n1,A,T,hv⟩:=Og g1;rw[if_pos (d▸h)]at r;rw[r];exact adm _ (by simp[scP];omega) (ae3 t.ints fh) λu hu=>by have:=aea hv j (adx g2 v) u hu;exact⟨this.2.2.2.1,this.2.2.2.2⟩
 have P:k=0->aM Tryz.prog 45 [bh a,bh a] (.b true):=λh=>by obtain⟨g1,g2,R,-⟩:=K h;obtain⟨n1,A,T,hv⟩:=Og g1;rw[if_pos (f▸h)]at w;rw[w];exact adm _ (by simp[geP];omega) (ae3 t.ints fh) λu hu=>by have:=aem hv j (Ab.1 g2) (aaK R) u hu;exact⟨this.2.2.2.1,this.2.2.2.2⟩
 refine cx 1 [(2,.box true<|bh p),(3,.box true<|adg c b sh is),(9,.box true<|bh a),(10,.i k),(12,.i<|dT p),(13,.box true<|bh Q)] True ?_ λ_=>?_
 ·refine bJ W 78 W (λg=>absurd W g) λ_=>?_;refine bJ W 81 W ?_ ?_<;>intro g
  ·rw[if_neg (d▸g)]at r;rw[r];refine bP W W J W<|bJ W 91 W (λg2=>absurd g2 g) λ_=>?_;refine r0 W<|gm U
  refine bJ W 91 W (λg2=>?_) λg2=>absurd g2 g;refine bP W W (O g2) W<|r0 W<|gm U
 obtain⟨n1,o⟩:∃n,n=if dT p≠0 then dT p else od b:=⟨_,W⟩;obtain⟨A,m⟩:∃n,n=if n1≠0 then n1 else aaA p sh is:=⟨_,W⟩;have x:k=if A≠0 then A else if YF p sh is b then 30 else 0:=by rw[f,m,o];unfold geE;repeat' split<;>simp_all
 refine cx 1 [(2,.box true<|bh p),(3,.box true<|adg c b sh is),(9,.box true<|bh a),(10,.i k),(12,.i n1),(13,.box true<|bh Q)] True ?_ λ_=>?_
 ·refine bQ W W ?_ ?_<;>intro g
  ·rw[if_neg<|not_not_intro g]at o;rw[o];refine bP W W (yz b) W<|r0 W<|gm U
  rw[if_pos g]at o;rw[o];refine r0 W<|gm U
 refine cx 1 [(2,.box true<|bh p),(3,.box true<|adg c b sh is),(9,.box true<|bh a),(10,.i k),(12,.i A),(13,.box true<|bh Q)] True ?_ λ_=>?_
 ·refine bQ W W ?_ ?_<;>intro g
  ·rw[if_neg<|not_not_intro g]at m;rw[m];refine bP W W (aav p t sh is B) W<|r0 W<|gm U
  rw[if_pos g]at m;rw[m];refine r0 W<|gm U
 have L:A=0->dT p=0/\od b=0/\aaA p sh is=0:=λh=>by
  rw[m]at h;split at h
  ·rename_i g;exact absurd h g
  rename_i g;have g:=afI.1 g;rw[o]at g;split at g
  ·rename_i g2;exact absurd g g2
  rename_i g2;exact⟨afI.1 g2,g,h⟩
 refine cx 1 [(2,.box true<|bh p),(3,.box true<|adg c b sh is),(9,.box true<|bh a),(10,.i k),(12,.i k),(13,.box true<|bh Q)] True ?_ λ_=>?_
 ·refine bQ W W ?_ ?_<;>intro g
  ·obtain⟨k1,k2,k3⟩:=L g;rw[if_neg<|not_not_intro g]at x;rw[x];refine bP W W (abD p t (Og k1).2.2.2 b (Ab.1 k2) sh is<|aaK k3) W<|r0 W<|gm U
  rw[if_pos g]at x;rw[x];refine r0 W<|gm U
 refine cx 1 [(2,.box true<|bh p),(3,.box true<|adg c b sh is),(9,.box true<|bh a),(10,.i k),(12,.i k),(13,.box true<|bh<|if k=0 then a else Q)] True ?_ λ_=>?_
 ·refine bQ W W ?_ ?_<;>intro g
  ·obtain⟨k1,k2,k3,-⟩:=K g;obtain⟨m1,m2,m3,hv⟩:=Og k1;rw[if_pos (f▸g)]at w;refine bP W W ((aei p t D.2.1 hv j b (Ab.1 k2) sh is<|aaK k3).same W W) W<|bP W W (adq (geP b sh is p) (by simp[geP];omega)<|aem hv j (Ab.1 k2)<|aaK k3) W ?_;refine r0 W ?_;rw[if_pos g,w,g];exact gm U
  rw[if_neg g];refine r0 W<|gm U
 refine bJ W 130 W (λ_=>?_) λg=>absurd W g;refine bJ W 133 W ?_ ?_<;>intro g
 ·rw[if_neg (f▸g)]at w;rw[w];refine bP W W J W<|bP W W q W<|bN W W
 have g:k=0:=afI.1 g;rw[if_pos g];refine bJ W 141 W (λ_=>?_) λg2=>absurd g g2;refine bP W W (P g) W<|bP W W q W<|bN W W
def U4:aM Tryz.prog 14 [] (.b true):=by
 refine bS Tryz.func14 W<|bP W W Rs W<|bP W W (IC.same W W) W<|bP W W (Ni.same W W) W<|bP W W (Sf.same W W) W<|bP W W (H0.same W W) W<|bP W W (Mi.same W W) W<|bP W W (I8.same W W) W<|bP W W (RI.same W W) W<|r1 W (aP W)<|aC 87 W (λg=>absurd g fh) λ_=>?_;refine r1 W (aP W)<|aC 91 W (λg=>absurd g fh) λ_=>?_;refine r1 W (aP W)<|bG W (Tt.same W W) W<|r1 W (aP W) ?_
 first
  |refine aC 102 rfl (λg=>absurd g fh) (λ_=>?_)
  |refine aC 97 rfl (λg=>absurd g fh) (λ_=>?_)
  |refine aC 110 rfl (λg=>absurd g fh) (λ_=>?_)
  |refine aC 115 rfl (λg=>absurd g fh) λ_=>?_
 refine r1 W (aP W)<|bG W (Tu.same W W) W<|r1 W (aP W) ?_
 first
  |refine aC 115 rfl (λg=>absurd g fh) (λ_=>?_)
  |refine aC 110 rfl (λg=>absurd g fh) λ_=>?_
 refine r1 W (aP W)<|ex W W W (mE.same (T5 (a:=1) (b:=0) (c:=3) W) W W W W) W<|RP YQ (B:=[]) aW
end Go.Ai.Pg
