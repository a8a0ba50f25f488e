/- Parts of the proof of ScaleLimits (Limits and Conditions return the results or the errors of the reference), at every input, with no further conditions. -/
import Derived.Test.YtdgocdadfmhjgaaGreatDoorZAL
import Derived.Shelf.Spec.BitsCarry
import Derived.Lib.Mul64
set_option linter.all false
set_option maxRecDepth 100000
set_option maxHeartbeats 0
namespace Go.Ai
open Go.Proofs Go.RowKit
def ahC{k:Nat}(h:k<8):2*65600+k*131220+20<=wB:=by unfold wB;omega
def ahB(k:Nat):2*65600+k*131220+20<=(k+1)*131220:=by omega
def WI(k:Nat):k*131220<=(k+1)*131220:=abY _<|agM k
section
variable{us:List bO}{n m:Nat}(hm:fF us n)(hc:m=c7 us)
include hm hc
theorem fF.aaI(s:Nat):bP (jq us) (jo us) (m+1) ((rm us n us.length).getD s 0) 65600 ((zX us n m).getD s []):=by have h:=hm.shK hc us.length .refl s;unfold zX;rw[hm.mW];exact h.mono hm.base (ac0 _)<|BN hm.len
def fF.occ{k:Nat}(h:k<us.length){v:Nat}(ho:Bp ((zX us n m).getD (aT us k).out.toNat []) v):
 ((aT us k).kind=bo/\v=jA us ((az us).getD k 0).toNat+1)\/((aT us k).kind≠bo/\∃f∈(aT us k).ah,Bp ((zX us n m).getD f.sh.toNat []) v):=by
 have hk:k<(az us).length:=by rw[hm.mW];omega
 have En:=hm.out h;by_cases ki:(aT us k).kind=bo
 ·rw[hm.ahJ h ki]at ho;exact .inl ⟨ki,OV ho⟩
 refine .inr ⟨ki,?_⟩;have hu:=hm.val _<|hm.mem h;have aiE:cH (aT us k)=(aT us k).ah:=by unfold cH;rw[if_neg ki]
 have uz:∀f∈(aT us k).ah,(ie us n m k).getD f.sh.toNat []=(zX us n m).getD f.sh.toNat []:=λf hf=>by
  have hv:=hu.feed f hf;refine(hm.shP (by omega) ?_).symm;rcases hm.before h (by rw[aiE];exact hf) ⟨hv.1,hv.2.1⟩with e|⟨j,hj,e⟩
  ·left;omega
  right;exact⟨j,hj,by omega⟩
 rw[hm.shP (k:=k+1) (by omega)<|.inr ⟨k,by omega,rfl⟩,px hk]at ho;have e0:us.getD ((az us)[k]).toNat default=aT us k:=by unfold aT;rw[aw hk]
 unfold lD at ho;rw[e0]at ho;have hK:=hm.shK hc k (by omega);obtain⟨-,f2,f3,f4⟩:=nF<|hm.few _<|hm.mem h;by_cases ka:(aT us k).kind=jJ
 ·rw[if_pos ka,fh<|by rw[kG];omega,if_pos rfl]at ho;have key:∀i,i<=(aT us k).ah.length->Bp (gB (ie us n m k) (bW n us) (aT us k) i).1 v->∃f∈(aT us k).ah,Bp ((ie us n m k).getD f.sh.toNat []) v:=by
   intro i
   induction i with
   |zero=>rintro _⟨u,hu,_⟩;simp[gB]at hu
   |succ i ih=>
    intro hi h;rcases Ht (sI h)with h|h
    ·exact ih (by omega) h
    exact⟨_,bz<|by omega,OW h⟩
  rcases Ht (sI ho)with ho|ho
  ·obtain⟨f,hf,Pj⟩:=key _ (aav _) ho;exact⟨f,hf,by rw[<-uz f hf];exact Pj⟩
  exact absurd ho FD
 have kt:(aT us k).kind=dQ:=by rcases hu.kind with e|e|e;exact absurd e ki;exact absurd e ka;exact e
 rw[if_neg ka,if_pos kt,fh<|by rw[kG];omega,if_pos rfl]at ho;obtain⟨Yd,ht1,-⟩:=hu.table kt;have hfm:(aT us k).ah.getD 0 default∈(aT us k).ah:=bz (by omega);refine⟨_,hfm,?_⟩;rw[<-uz _ hfm];have hB:=hm.base;have hV:=hm.mle hc;have CZ:=(hm.dg k<|by omega).2 ((aT us k).ah.getD 0 default).sh.toNat;have X8:=bP.W7 (B:=wB) hB hV (hK ((aT us k).ah.getD 0 default).sh.toNat) CZ.2 (Ww (us:=us)<|f4 _ hfm) (by have:=BN (k:=k) (by have:=hm.len;omega);unfold wB;omega);have hx:bP (jq us) (jo us) (m+1) _ _ (oU (ie us n m k)<|aT us k):=X8.2;have hb:=hm.dgS h;have dc:=hb.2.2 ki _ hfm;have Kr:lh (aT us k)=max 1 (((aT us k).dD.length:Int)-1):=by unfold lh;rw[if_pos kt]
 have aeO:=((hm.dg (k+1)<|by omega).2 (aT us k).out.toNat).2;have key:∀cs:List Rat,(∀c∈cs,Wn (jq us) (jo us) 1 1 c)->cs.length<=(aT us k).dD.length->Bp (jE m (oU (ie us n m k)<|aT us k) cs) v->Bp (oU (ie us n m k)<|aT us k) v:=by
  intro cs
  induction cs with
  |nil=>rintro _ _⟨u,hu,_⟩;simp[jE]at hu
  |cons c cs ih=>
   intro o5 hl h;rw[abn]at hl;rcases Ht (sI h)with h|h
   ·by_cases e:cs=[]
    ·subst e;obtain⟨u,hu,_⟩:=h;simp[lI,jv,fN]at hu
    have h0:=(Mg (B:=wB) hB hV (hx.mono hB (ac0 _)<|show 1+wS k+1<=wS k+2 by omega) CZ.1 CZ.2 (by have:=BN (k:=k) (by have:=hm.len;omega);unfold wB;omega) cs (λd hd=>o5 d<|by simp[hd]) (by omega) (by refine aeu (aeu (adq (a:=(cs.length:Int)-1) (b:=lh<|aT us k) ?_ CZ.1) dc) aeO;rw[Kr];omega)).1 e
    rcases Xs h0.pw hx.pw h with h|h
    ·exact ih (λd hd=>o5 d<|by simp[hd]) (by omega) h
    exact h
   exact absurd h FD
 exact OW<|key _ (λc hc=>by obtain⟨t,ht,rfl⟩:=abD.1 hc;exact Ww<|f3 t ht) (by simp) ho
def fF.aW:∀k,k<=us.length->
 (∀i,bP (jq us) (jo us) (m+1) 6 (k*131220)<|(iN us n m k).getD i [])/\
 (∀s,(s=0\/∃j,j<k/\(aT us j).out.toNat=s)->∀i,Bp ((zX us n m).getD s []) (i+1)->bP (jq us) (jo us) (m+1) ((Ed us n k).getD s 0) (k*131220) ((iN us n m k).getD i [])/\∃j,j<k/\(aT us j).kind=bo/\jA us ((az us).getD j 0).toNat=i)/\
 (∀j,j<k->(aT us j).kind=bo->Oq (m+1) (1012*wB+2) (zX us n m) (iN us n m j) (aT us j))
 |0,_=>by
  have sS:∀i,(iN us n m 0).getD i []=[]:=λi=>by unfold iN;rw[afX,agq,abc,af5];split<;>rfl
  refine⟨λi=>by rw[sS];exact bP.nil,λs hs i ho=>?_,λj hj=>by omega⟩;rcases hs with rfl|⟨j,hj,-⟩
  ·rw[hm.ahK]at ho;have:=OV ho;omega
  omega
 |k+1,h=>by
  obtain⟨r1,r2,r3⟩:=fF.aW k (by omega);have hk:k<(az us).length:=by rw[hm.mW];omega
  have hB:=hm.base;have hV:=hm.mle hc;have hlen:=hm.len;have En:=hm.out (show k<us.length by omega);have hu:=hm.val _<|hm.mem<|show k<us.length by omega
  obtain⟨t1,t2,t3⟩:=hm.rt k (by omega);obtain⟨q1,q2,q3,q4⟩:=hm.Xe (show k<us.length by omega) t1 t2;obtain⟨u1,u2,u3⟩:=hm.rt (k+1) h;have e0:us.getD ((az us)[k]).toNat default=aT us k:=by unfold aT;rw[aw hk]
  have eo:(az us)[k]=(az us).getD k 0:=(aw hk).symm;have hold:∀i,bP (jq us) (jo us) (m+1) 6 ((k+1)*131220) ((iN us n m k).getD i []):=λi=>(r1 i).mono hB (ac0 _)<|WI k;have akQ:∀s,(s=0\/∃j,j<k/\(aT us j).out.toNat=s)->s≠(aT us k).out.toNat:=λs hs e=>by
   rcases hs with rfl|⟨j,hj,e2⟩
   ·omega
   have Ya:=hm.out (show j<us.length by omega);have:=hm.outs (show j<us.length by omega) (show k<us.length by omega) (by omega);omega
  have ko:iN us n m (k+1)=oH us (zX us n m) (iN us n m k) (az us)[k]:=B4 hk;have afA:∀f∈cH (aT us k),f.sh.toNat=0\/∃j,j<k/\(aT us j).out.toNat=f.sh.toNat:=λf hf=>by
   have UP:f∈(aT us k).ah:=by
    unfold cH at hf;split at hf
    ·exact ae0 hf
    exact hf
   have hv:=hu.feed f UP;rcases hm.before (show k<us.length by omega) hf ⟨hv.1,hv.2.1⟩with e|⟨j,hj,e⟩
   ·left;omega
   right;exact⟨j,hj,by omega⟩
  by_cases ki:(aT us k).kind=bo
  ·obtain⟨II,-⟩:=hu.int ki;have Er:(aT us k).ah.getD 0 default∈(aT us k).ah:=bz (by omega);have KA:(aT us k).ah.getD 1 default∈(aT us k).ah:=bz (by omega);have LY:(aT us k).ah.getD 1 default∈cH (aT us k):=by
    unfold cH;rw[if_pos ki,aw<|by omega];refine List.mem_drop_iff_getElem.2 ⟨0,by omega,rfl⟩
   obtain⟨-,-,-,f4⟩:=nF<|hm.few _<|hm.mem<|show k<us.length by omega
   have hd:=(hm.dg us.length<|aav _).2;have hq:=q4 _ LY;rw[if_pos ki]at hq;have hq6:=u3 (aT us k).out.toNat;obtain⟨ok,new⟩:=Xk (B:=wB) (u:=aT us k) (r:=(Ed us n k).getD ((aT us k).ah.getD 1 default).sh.toNat 0) hB hV (tz us n m k) (hm.aaI hc _) (hm.aaI hc _) (hd _) (hd _) ⟨t2 _,t3 _⟩ (λ_=>by omega) r1
    (λi ho=>(r2 _ (afA _ LY) i ho).1) (Ww (us:=us)<|f4 _ Er) (Ww (us:=us)<|f4 _ KA) (ahC<|ac3 h hlen)
   have Kt:=hm.idx (show k<us.length by omega);have Bg:jA us ((az us).getD k 0).toNat<m:=by
    have h1:=Ii (us:=us) Kt (aav _) (by have:us.getD ((az us).getD k 0).toNat default=aT us k:=rfl;rw[this];exact ki)
    have h2:=Ij us us.length;rw[hc];omega
   have gE:∀i,(iN us n m<|k+1).getD i []=if i=jA us ((az us).getD k 0).toNat then OR (zX us n m) (iN us n m k) (aT us k)else(iN us n m k).getD i []:=λi=>by rw[ko];unfold oH;rw[e0,if_pos ki,eo,fh<|by rw[tz];exact Bg]
   have hwk:=ahB k;refine⟨λi=>?_,λs hs i ho=>?_,λj hj kj=>?_⟩
   ·rw[gE];split
    ·exact(new 6 (λ_=>by omega)).mono hB (ac0 _) hwk
    exact hold i
   ·by_cases c:s=(aT us k).out.toNat
    ·subst c;have hi:i=jA us ((az us).getD k 0).toNat:=by
      rcases hm.occ hc (show k<us.length by omega) ho with⟨-,e⟩|⟨e,-⟩
      ·omega
      exact absurd ki e
     refine⟨?_,k,by omega,ki,hi.symm⟩;rw[gE,if_pos hi];exact(new _ λ_=>by omega).mono hB (ac0 _) hwk
    have Nk:s=0\/∃j,j<k/\(aT us j).out.toNat=s:=by
     rcases hs with e|⟨j,hj,e⟩
     ·exact .inl e
     refine .inr ⟨j,?_,e⟩;apply adC;intro g;have:j=k:=by omega
     subst this;exact c e.symm
    obtain⟨p1,j,p2,p3,p4⟩:=r2 s Nk i ho;have dc:i≠jA us ((az us).getD k 0).toNat:=by
     rw[<-p4];intro e;have gS:=hm.idx (show j<us.length by omega);have kj':(us.getD ((az us).getD j 0).toNat default).kind=bo:=p3;have kk':(us.getD ((az us).getD k 0).toNat default).kind=bo:=ki;rcases aiR ((az us).getD j 0).toNat ((az us).getD k 0).toNat with c2|c2|c2
     ·have:=Ii c2 (by omega) kj';omega
     ·have h1:=gi _ (bz (d:=0)<|show j<(az us).length by rw[hm.mW];omega);have h2:=gi _<|bz (d:=0) hk;have:=hm.ad7 (agn p2 h) h (by rw[<-aho h1.1,<-aho h2.1,c2]);exact absurd p2 (by rw[this];exact Nat.lt_irrefl _)
     have:=Ii c2 (by omega) kk';omega
    refine⟨?_,j,by omega,p3,p4⟩;rw[gE,if_neg dc,q2 s c];exact p1.mono hB (ac0 _)<|WI k
   by_cases c:j=k
   ·subst c;exact ok
   exact r3 j (by omega) kj
  have gE:iN us n m (k+1)=iN us n m k:=by rw[ko];unfold oH;rw[e0,if_neg ki]
  rw[gE];refine⟨hold,λs hs i ho=>?_,λj hj kj=>?_⟩
  ·by_cases c:s=(aT us k).out.toNat
   ·subst c;rcases hm.occ hc (show k<us.length by omega) ho with⟨e,-⟩|⟨-,f,hf,Pj⟩
    ·exact absurd e ki
    have LY:f∈cH (aT us k):=by unfold cH;rw[if_neg ki];exact hf
    obtain⟨p1,j,p2,p3,p4⟩:=r2 _ (afA f LY) i Pj;have an0:=Bz (hm.aaI hc f.sh.toNat) Pj;have hq:=q4 f LY;rw[if_neg ki]at hq;exact⟨p1.mono hB (by omega)<|WI k,j,by omega,p3,p4⟩
   have Nk:s=0\/∃j,j<k/\(aT us j).out.toNat=s:=by
    rcases hs with e|⟨j,hj,e⟩
    ·exact .inl e
    refine .inr ⟨j,?_,e⟩;apply adC;intro g;have:j=k:=by omega
    subst this;exact c e.symm
   obtain⟨p1,j,p2,p3,p4⟩:=r2 s Nk i ho;rw[q2 s c];exact⟨p1.mono hB (ac0 _)<|WI k,j,by omega,p3,p4⟩
  by_cases c:j=k
  ·subst c;exact absurd kj ki
  exact r3 j (by omega) kj
def fF.read:Wc (m+1) (1012*wB+2) (1012*2+2) us n m:=by
 have hB:=hm.base;have hV:=hm.mle hc;have hlen:=hm.len;have dz:∀{l:List (List cN)}{p:List cN},p∈l->∃s,p=l.getD s []:=λ{l p}h=>by obtain⟨s,hs,rfl⟩:=ag3 h;exact⟨s,(aw hs).symm⟩
 have e0:∀k(h:k<(az us).length),us.getD ((az us)[k]).toNat default=aT us k:=λk h=>by unfold aT;rw[aw h]
 refine⟨λk hk p hp=>?_,λk hk p hp=>?_,λk hk ka=>?_,λk hk kt=>?_,λk hk ki=>?_⟩
 ·rw[hm.mW]at hk;obtain⟨s,rfl⟩:=dz hp;exact bP.tok (B:=wB) hB hV (hm.shK hc k hk s) ((hm.dg k hk).2 s).2 (by have:=BN (k:=k) (by omega);unfold wB;omega)
 ·rw[hm.mW]at hk;obtain⟨i,rfl⟩:=dz hp;exact bP.tok (B:=wB) hB hV ((hm.aW hc k hk).1 i) (ac0 _) (by unfold wB;omega)
 ·have gp:k<us.length:=by rw[<-hm.mW];exact hk
  rw[e0 k hk]at ka⊢;exact(hm.SU hc gp (by have:=BN (k:=k) (by omega);unfold wB;omega)<|hm.shK hc k<|by omega).1 ka
 ·have gp:k<us.length:=by rw[<-hm.mW];exact hk
  rw[e0 k hk]at kt⊢;exact(hm.SU hc gp (by have:=BN (k:=k) (by omega);unfold wB;omega)<|hm.shK hc k<|by omega).2.1 kt
 have gp:k<us.length:=by rw[<-hm.mW];exact hk
 rw[e0 k hk]at ki⊢;exact(hm.aW hc us.length .refl).2.2 k gp ki
end
noncomputable def ND(p:kx):Bool:=A7 p&&decide (CL (zX p.aa p.n.toNat (c7 p.aa)++(OQ p.aa p.n.toNat<|c7 p.aa).aW)=0)
def TU{p:kx}(h:A7 p=true):fF p.aa p.n.toNat/\p.n=p.n.toNat:=by
 unfold A7 at h;rw[abe,abe,decide_eq_true_eq,aca]at h;obtain⟨⟨h1,h2,h3⟩,h4,h5⟩:=h;obtain⟨v1,v2,v3,hv⟩:=Jw h3;have e:p.n=p.n.toNat:=by omega
 unfold dR at h3;rw[if_neg<|by omega,if_neg<|by omega]at h3;split at h3
 ·rename_i g;exact absurd h3 g
 split at h3
 ·simp at h3
 split at h3
 ·simp at h3
 split at h3
 ·simp at h3
 split at h3
 ·simp at h3
 rename_i hd;split at h3
 ·simp at h3
 rename_i ho;exact⟨⟨h1,by omega,by omega,λu hu=>by rw[<-e];exact hv u hu,Classical.not_not.1 hd,by omega,h4,h5⟩,e⟩
def af3(p:kx)(h:ye p):aL Tryz.prog 32 [bh p,.i 8] (.u<|ND p):=by
 have hl:=h.aa;refine bE Tryz.func32 rfl<|r0 rfl<|bF rfl (Hz p h) rfl<|r0 rfl<|iF 8 rfl (λg=>?_) (λg=>?_)
 ·obtain⟨hm,e⟩:=TU g;have hR:=hm.read (m:=c7 p.aa) rfl;have hn9:=hm.n9;have No:=hm.n0;have hlen:=hm.len;have wW:∀u∈p.aa,jc p.n u:=λu hu=>by rw[e];exact hm.val u hu
  refine r0 rfl<|bF rfl (Mz p h p.n.toNat (c7 p.aa) e rfl No (by omega) (by omega) wW hR (by unfold wB;decide) (by decide)<|by unfold wB;decide) rfl ?_;refine r0 rfl<|bF rfl (HE (OQ p.aa p.n.toNat<|c7 p.aa) (zX p.aa p.n.toNat<|c7 p.aa) (V:=c7 p.aa+1) (K:=1012*wB+2) (λq hq=>?_) ?_<|by unfold wB;decide) rfl ?_
  ·rcases abR.1 hq with hq|hq
   ·have:=hR.sh _ (aav _) q hq;exact⟨this.1,agn this.2<|by decide⟩
   have:=hR.rt _ (aav _) q hq;exact⟨this.1,agn this.2<|by decide⟩
  ·unfold zX;rw[kG];have:(OQ p.aa p.n.toNat<|c7 p.aa).aW.length=c7 p.aa:=tz _ _ _ _;have h2:c7 p.aa<=p.aa.length:=ago;omega
  refine r0 rfl<|aG rfl<|an.of_eq<|congrArg SV.u ?_;unfold ND;rw[g,ac8]
 refine r0 rfl<|aG rfl ?_;show false=ND p;unfold ND;rw[g];rfl
def nE(u:bO):Bool:=decide (u.kind.length<=30/\u.ah.length<=12/\u.dD.length<=20/\u.k.length<=14)&&((u.ah.all λf=>decide (f.dU.length<=14))&&u.dD.all λc=>decide (c.length<=14))
def Ck(p:kx):Prop:=¬(12<p.aa.length/\p.aa.length<=96)/\p.aa.length<=110/\p.ints.length<=40
instance(p:kx):Decidable (Ck p):=by unfold Ck;infer_instance
noncomputable def qP(p:kx):Bool:=decide (Ck p)&&(p.aa.all nE&&(decide (dR p≠0)||ND p))
structure PSz(p:kx):Prop where
 aa:p.aa.length<=9223372036854775807
 ints:p.ints.length<=9223372036854775807
 kind:∀u∈p.aa,u.kind.length<=9223372036854775807
 ah:∀u∈p.aa,u.ah.length<=9223372036854775807
 dD:∀u∈p.aa,u.dD.length<=9223372036854775807
 k:∀u∈p.aa,u.k.length<=9223372036854775807
 dU:∀u∈p.aa,∀f∈u.ah,f.dU.length<=9223372036854775807
 Mf:∀u∈p.aa,∀c∈u.dD,c.length<=9223372036854775807
def J6{p:kx}(hp:Ck p)(h:p.aa.all nE=true):ye p:=by rw[aca]at h;refine⟨by have:=hp.2.1;omega,λu hu=>?_,by have:=hp.2.2;omega⟩;have:=h u hu;unfold nE at this;simp at this;obtain⟨⟨_,a2,a3,a4⟩,a5,a6⟩:=this;exact⟨by omega,λf hf=>by have:=a5 f hf;unfold cR;omega,by unfold cR;omega,by omega,λc hc=>by have:=a6 c hc;unfold cR;omega⟩
def XI(p:kx)(hz:PSz p):aL Tryz.prog 7 [bh p] (.u<|qP p):=by
 have hl:=hz.aa;have hi:=hz.ints;have no:¬Ck p->qP p=false:=λh=>by unfold qP;rw[decide_eq_false h];rfl
 refine bE Tryz.func7 rfl ?_;have ret:∀(h:qP p=false),false=qP p:=λh=>h.symm;refine b8 2 [(1,.box true<|bh p)] (Ck p) ?_ λhp=>?_
 ·refine r0 rfl<|aC 13 rfl (λg1=>?_) (λg1=>?_)
  ·refine r0 rfl<|aC 19 rfl (λg2=>?_) (λg2=>?_)
   ·refine r0 rfl<|aG rfl<|ret<|no λh=>h.1 ⟨by omega,by omega⟩
   refine r0 rfl<|aC 25 rfl (λg3=>?_) (λg3=>?_)
   ·refine r0 rfl<|aG rfl<|ret (no λh=>by have:=h.2.1;omega)
   refine r0 rfl<|bH rfl (λg4=>?_) (λg4=>?_)
   ·refine r0 rfl<|aG rfl<|ret (no λh=>by have:=h.2.2;omega)
   refine r0 rfl<|aP ⟨λh=>by omega,by omega,by omega⟩ ⟨ab,ao⟩
  refine r0 rfl<|aC 25 rfl (λg3=>?_) (λg3=>?_)
  ·refine r0 rfl<|aG rfl<|ret (no λh=>by have:=h.2.1;omega)
  refine r0 rfl<|bH rfl (λg4=>?_) (λg4=>?_)
  ·refine r0 rfl<|aG rfl<|ret (no λh=>by have:=h.2.2;omega)
  refine r0 rfl<|aP ⟨λh=>by omega,by omega,by omega⟩ ⟨ab,ao⟩
 have e1:qP p=(p.aa.all nE&&(decide (dR p≠0)||ND p)):=by unfold qP;rw[decide_eq_true hp,ac8]
 rw[e1];clear ret no e1;refine r0 rfl<|loop (λi:Nat=>[(1,.box true<|bh p),(32,.bT false 5 default dM p.aa),(33,.i p.aa.length),(34,.i i)]) (λi=>i<=p.aa.length/\p.aa.all nE=(p.aa.drop i).all nE) (λi=>p.aa.length-i) 0 ⟨aaJ _,rfl⟩
  ⟨ab,ab,ab,ab,ao⟩ ?_
 rintro i⟨aZ,hf⟩;refine r0 rfl<|bH rfl (λg1=>?_) (λg1=>?_)
 ·have cS:i<p.aa.length:=by omega
  have ei:(i:Int).toNat=i:=by omega
  have eg:p.aa.getD i default=p.aa[i]:=aw cS;have dz:=aaY cS;have k1:=hz.kind _ dz;have k2:=hz.ah _ dz;have k3:=hz.dD _ dz;have k4:=hz.k _ dz;have k5:=hz.dU _ dz;have k6:=hz.Mf _ dz;rw[abV cS,acY]at hf;rw[hf];refine r1 rfl (by simp only[ag,and_true,ei]<;>omega) ?_;rw[ei,eg];generalize p.aa[i]=u at*;have no:(¬(u.kind.length<=30/\u.ah.length<=12/\u.dD.length<=20/\u.k.length<=14))->nE u=false:=λh=>by unfold nE;rw[decide_eq_false h];rfl
  have ret:nE u=false->false=(nE u&&(p.aa.drop<|i+1).all nE&&(decide (dR p≠0)||ND p)):=λh=>by rw[h];rfl
  refine aC 42 rfl (λg2=>?_) (λg2=>?_)
  ·refine r0 rfl<|aG rfl<|ret<|no λh=>by omega
  refine r0 rfl<|aC 48 rfl (λg3=>?_) (λg3=>?_)
  ·refine r0 rfl<|aG rfl<|ret<|no λh=>by omega
  refine r0 rfl<|aC 54 rfl (λg4=>?_) (λg4=>?_)
  ·refine r0 rfl<|aG rfl<|ret<|no λh=>by omega
  refine r0 rfl<|bH rfl (λg5=>?_) (λg5=>?_)
  ·refine r0 rfl<|aG rfl<|ret<|no λh=>by omega
  have e1:nE u=((u.ah.all λf=>decide (f.dU.length<=14))&&u.dD.all λc=>decide (c.length<=14)):=by unfold nE;rw[decide_eq_true ⟨by omega,by omega,by omega,by omega⟩,ac8]
  rw[e1];clear ret no;refine r0 rfl<|loop (λk:Nat=>[(1,.box true<|bh p),(32,.bT false 5 default dM p.aa),(33,.i p.aa.length),(34,.i i),(4,.box true<|dM u),(61,.bT false 2 default pd u.ah),(62,.i u.ah.length),(63,.i k)])
   (λk=>k<=u.ah.length/\(u.ah.all λf=>decide (f.dU.length<=14))=(u.ah.drop k).all λf=>decide (f.dU.length<=14)) (λk=>u.ah.length-k) 0 ⟨aaJ _,rfl⟩
   ⟨ab,ab,ab,ab,ab,ab,ab,ab,ao⟩ ?_
  rintro k⟨hk,RH⟩;refine r0 rfl<|bH rfl (λg6=>?_) (λg6=>?_)
  ·have gp:k<u.ah.length:=by omega
   have ek:(k:Int).toNat=k:=by omega
   have ef:u.ah.getD k default=u.ah[k]:=aw gp;have k7:=k5 _<|aaY gp;rw[abV gp,acY]at RH;rw[RH];refine r1 rfl (by simp only[ag,and_true,ek]<;>omega) ?_;rw[ek,ef];generalize u.ah[k]=f at*;refine bH rfl (λg7=>?_) (λg7=>?_)
   ·refine r0 rfl<|aG rfl ?_;show false=_;rw[decide_eq_false<|by omega];rfl
   rw[show decide (f.dU.length<=14)=true from decide_eq_true<|by omega,ac8];refine r1 rfl (by simp only[ag,and_true]<;>omega) ?_;exact again (k+1) (by omega) ⟨by omega,rfl⟩ ⟨ab,ab,ab,ab,ab,ab,ab,ab,ao⟩
  have:k=u.ah.length:=by omega
  subst this;rw[RH,adE,ahh,ac8];refine r0 rfl<|loop (λk:Nat=>[(1,.box true<|bh p),(32,.bT false 5 default dM p.aa),(33,.i p.aa.length),(34,.i i),(73,.strs false u.dD),(74,.i u.dD.length),(75,.i k)])
   (λk=>k<=u.dD.length/\(u.dD.all λc=>decide (c.length<=14))=(u.dD.drop k).all λc=>decide (c.length<=14)) (λk=>u.dD.length-k) 0 ⟨aaJ _,rfl⟩
   ⟨ab,ab,ab,ab,ab,ab,ab,ao⟩ ?_
  rintro k⟨hk,hf3⟩;refine r0 rfl<|bH rfl (λg6=>?_) (λg6=>?_)
  ·have gp:k<u.dD.length:=by omega
   have ek:(k:Int).toNat=k:=by omega
   have ef:u.dD.getD k []=u.dD[k]:=aw gp;have k7:=k6 _<|aaY gp;rw[abV gp,acY]at hf3;rw[hf3];refine r1 rfl (by simp only[ag,and_true,ek]<;>omega) ?_;rw[ek,ef];generalize u.dD[k]=c at*;refine bH rfl (λg7=>?_) (λg7=>?_)
   ·refine r0 rfl<|aG rfl ?_;show false=_;rw[decide_eq_false<|by omega];rfl
   rw[show decide (c.length<=14)=true from decide_eq_true<|by omega,ac8];refine r1 rfl (by simp only[ag,and_true]<;>omega) ?_;exact again (k+1) (by omega) ⟨by omega,rfl⟩ ⟨ab,ab,ab,ab,ab,ab,ab,ao⟩
  have:k=u.dD.length:=by omega
  subst this;rw[hf3,adE,ahh,ac8];refine r1 rfl (by simp only[ag,and_true]<;>omega) ?_;exact again (i+1) (by omega) ⟨by omega,rfl⟩ ⟨ab,ab,ab,ab,ao⟩
 have:i=p.aa.length:=by omega
 subst this;rw[hf,adE,ahh,ac8];refine r0 rfl ?_;have jj:p.aa.all nE=true:=by rw[hf,adE];rfl
 have hpk:ye p:=J6 hp jj;refine bF rfl (mM p hpk) rfl<|r0 rfl<|aC 87 rfl (λg2=>?_) (λg2=>?_)
 ·refine r0 rfl<|aG rfl ?_;show true=_;rw[decide_eq_true g2];rfl
 refine r0 rfl<|bF rfl (af3 p hpk) rfl<|r0 rfl<|aG rfl<|an.of_eq<|congrArg SV.u ?_;rw[decide_eq_false g2];rfl
end Go.Ai
section
namespace Go.Ai
open Go.Proofs Go.RowKit
def tV{p q:Rat}:DF p q<=0↔p<=q:=by
 have h1:(p-q).num<=0↔0<=(-(p-q)).num:=by rw[ahf];omega
 unfold DF;rw[Int.sign_nonpos_iff,h1,agr];constructor<;>grind
def Jn(q:Rat)(n m:Nat):q^(n+m)=q^n*q^m:=by
 induction m with
 |zero=>rw[ags];grind
 |succ m ih=>rw[agv];grind
def Sz.pow{q:Rat}{K:Nat}(h:Sz q K):∀n,Sz (q^n) (K*n+1)
 |0=>by exact⟨by simp[iz],by simp[iz]⟩
 |n+1=>by have:=(Sz.pow h n).mul h;rw[agv];exact this.mono (by rw[Nat.mul_succ];omega)
def Fz(q:Rat)(n:Nat){K:Nat}(h:Sz q K)(hn:n<2^40)(hK:2*(K*(2*n)+1)<2^34):aL Tryz.prog 130 [.s<|qt q,.i n] (.s<|qt<|q^n):=by
 refine bE Tryz.func130 rfl<|r0 rfl<|bH rfl (λh1=>absurd h1<|by omega) λ_=>?_;refine r0 rfl<|oN (λ(k d e:Nat)=>[(0,.s<|qt<|q^d),(1,.i k),(5,.s<|qt<|q^e)]) (λk d e=>k<=n/\e+d*k=n/\(k=0\/d<=n)) (λk _ _=>k) n 1 0 ⟨aav _,by omega,by omega⟩
  ⟨⟨rfl,an.of_eq<|congrArg SV.s<|by rw[agv,ags,Rat.one_mul]⟩,ab,⟨rfl,an.of_eq<|congrArg SV.s<|by rw[ags,MC]⟩,ao⟩ ?_
 rintro k d e⟨hk,he,hd⟩;refine r0 rfl<|bH rfl (λh1=>?_) (λh1=>?_)
 ·have h0:0<k:=by omega
  have b1:K*d+1<=K*(2*n)+1:=afF (adn _<|by omega) 1;have b2:K*e+1<=K*(2*n)+1:=afF (adn _<|by omega) 1;have s1:=(h.pow d).mono b1;have s2:=(h.pow e).mono b2;have hdv:k=2*(k/2)+k%2:=by omega
  have UI:d*k=2*d*(k/2)+d*(k%2):=by
   conv=>lhs;rw[hdv,agX]
   rw[abU 2 d,ac9]
  have sq:q^d*q^d=q^(2*d):=by rw[<-Jn];congr 1;omega
  refine r1 rfl (by simp[ag,and_true]<;>omega) ?_;refine bH rfl (λh2=>?_) (λh2=>?_)
  ·have h2:k%2=1:=by
    have h2:(k:Int).tmod 2=1:=h2;have:(k:Int).tmod 2=((k%2:Nat):Int):=rfl;omega
   rw[h2,Nat.mul_one]at UI;refine r0 rfl<|bF rfl (fT (q^e) (q^d) s2 s1<|by omega) rfl<|r0 rfl<|bF rfl (fT (q^d) (q^d) s1 s1<|by omega) rfl<|r1 rfl (by simp[ag,and_true]<;>omega) ?_;refine again (k/2,2*d,e+d) (by dsimp only;omega) ⟨by dsimp only;omega,by dsimp only;omega,?_⟩ ⟨⟨rfl,an.of_eq<|congrArg SV.s<|by rw[sq]⟩,ab,⟨rfl,an.of_eq<|congrArg SV.s<|by rw[Jn]⟩,ao⟩;dsimp only;rcases ac2 (k/2)with g|g
   ·exact .inl g
   have:2*d<=2*d*(k/2):=aiM _ g;exact .inr (by omega)
  have h2:k%2=0:=by have h2:¬(k:Int).tmod 2=1:=h2;have:(k:Int).tmod 2=((k%2:Nat):Int):=rfl;omega
  rw[h2,Nat.mul_zero]at UI;refine r0 rfl<|bF rfl (fT (q^d) (q^d) s1 s1<|by omega) rfl<|r1 rfl (by simp[ag,and_true]<;>omega) ?_;refine again (k/2,2*d,e) (by dsimp only;omega) ⟨by dsimp only;omega,by dsimp only;omega,?_⟩ ⟨⟨rfl,an.of_eq<|congrArg SV.s<|by rw[sq]⟩,ab,ab,ao⟩;dsimp only;rcases ac2 (k/2)with g|g
  ·exact .inl g
  have:2*d<=2*d*(k/2):=aiM _ g;exact .inr (by omega)
 have:k=0:=by omega
 subst this;refine r0 rfl<|aG rfl<|an.of_eq<|congrArg SV.s<|by rw[show e=n by omega]
def iC(n:Int):Rat:=if n<0 then((2:Rat)^(-n).toNat)⁻¹ else(2:Rat)^n.toNat
def two_pos:(0:Rat)<2:=by decide
def pD(n:Nat):(0:Rat)<(2:Rat)^n:=by
 induction n with
 |zero=>rw[ags];decide
 |succ n ih=>rw[agv];exact Rat.mul_pos ih two_pos
def tD(n:Int):0<iC n:=by
 unfold iC;split
 ·exact ahi.2<|pD _
 exact pD _
def Tu(n:Int):iC (n+1)=iC n*2:=by
 unfold iC;rcases agQ n (-1)with h|h|h
 ·rw[show(-n).toNat=(-(n+1)).toNat+1 by omega]
  grind
 ·subst h;have e2:(-(-1:Int)).toNat=0+1:=rfl;rw[e2];grind
 rw[if_neg<|by omega,if_neg<|by omega,show(n+1).toNat=n.toNat+1 by omega,agv]
def kd(n:Int)(k:Nat):iC (n+k)=iC n*(2:Rat)^k:=by
 induction k with
 |zero=>rw[ags];simp
 |succ k ih=>rw[show n+((k+1:Nat):Int)=n+k+1 by omega,Tu];grind
def JG(n:Nat):(1:Rat)<=(2:Rat)^n:=by
 induction n with
 |zero=>rw[ags];simp_all
 |succ n ih=>rw[agv];grind
def nQ{m n:Int}(h:m<=n):iC m<=iC n:=by
 obtain⟨k,rfl⟩:∃k:Nat,n=m+k:=⟨(n-m).toNat,by omega⟩;rw[kd];have h1:=JG k;have h2:=tD m;have:=agY h1<|adB h2
 grind
def pn(a:Rat)(e:Int):Prop:=iC e<=a/\¬iC (e+1)<=a
def Ej{a:Rat}{e f:Int}(h:pn a e)(g:pn a f):e=f:=by
 rcases agQ e f with k|k|k
 ·exact absurd (afU (nQ<|by omega) g.1) h.2
 ·exact k
 exact absurd (afU (nQ<|by omega) h.1) g.2
open Classical in
noncomputable def xd(a:Rat):Int:=if h:∃e,pn a e then h.choose else 0
def jK{a:Rat}{e:Int}(h:pn a e):xd a=e:=by unfold xd;rw[dif_pos ⟨e,h⟩];exact Ej (Exists.choose_spec (⟨e,h⟩:∃e,pn a e)) h
def BS:Sz 2 1:=⟨by rw[show(2:Rat).num.natAbs=2 from rfl,mu (f:=2) (by decide)<|by decide];decide,by rw[show(2:Rat).den=1 from rfl,iz];decide⟩
def Sz.iC(n:Int):Sz (iC n) (n.natAbs+2):=by
 unfold Go.Ai.iC;split
 ·have:=(BS.pow (-n).toNat).inv;exact this.mono (by omega)
 exact(BS.pow n.toNat).mono (by omega)
def Tq:qt 2=[50]:=by have:=nP 2;rw[show((2:Int):Rat)=2 from rfl]at this;rw[this];unfold ck;rw[bp<|by decide];show decl 0 0++[Sv 2]=[50];rw[cE];decide
def sD(n:Int)(h:n.natAbs<2^30):aL Tryz.prog 67 [.i n] (.s<|qt<|iC n):=by
 refine bE Tryz.func67 rfl<|r0 rfl<|bH rfl (λh1=>?_) (λh1=>?_)
 ·have e:(0:Int)-n=((-n).toNat:Nat):=by omega
  have hp:=Fz 2 (-n).toNat BS (by omega) (by omega);rw[Tq]at hp;refine r1 rfl (by simp[ag]<;>omega) ?_;refine cl rfl (by rw[e];rfl) hp rfl ?_;refine bF rfl (pB ((2:Rat)^(-n).toNat) (BS.pow _) (by omega) (by have:=pD (-n).toNat;grind)) rfl ?_;refine r0 rfl<|aG rfl<|an.of_eq<|congrArg SV.s<|by unfold iC;rw[if_pos h1]
 have e:n=(n.toNat:Nat):=by omega
 have hp:=Fz 2 n.toNat BS (by omega) (by omega);rw[Tq]at hp;refine r0 rfl<|Il (us:=[.s [50],.i (n.toNat:Nat)]) rfl rfl ao ⟨rfl,congrArg SV.i e,ao⟩ hp rfl<|r0 rfl<|aG rfl<|an.of_eq<|congrArg SV.s<|by unfold iC;rw[if_neg h1]
def MA{q:Rat}(h:0<q):q<=(q.num:Rat):=by
 have h1:q*(q.den:Rat)=(q.num:Rat):=by
  have:=Rat.num_divInt_den q;rw[aiO,agU]at this
  grind
 have h2:(1:Rat)<=(q.den:Rat):=by
  have:=q.den_nz;have:1<=q.den:=by omega
  exact_mod_cast this
 have:=agY h2<|adB h
 grind
def NT{n k:Nat}(h:(ae n).length<=k):n<2^(30*k):=by
 have h1:=bQ n;have h2:(1000000000:Nat)^(ae n).length<=1000000000^k:=ada (by decide) h;have Ew:(n:Int)<((1000000000^(ae n).length:Nat):Int):=by rw[ahj];exact h1
 have h3:(1000000000:Nat)^k<=(2^30)^k:=aiN (by decide) k;rw[<-ahN]at h3;omega
def JR(n:Nat):((2^n:Nat):Rat)=(2:Rat)^n:=by
 induction n with
 |zero=>rw[ags];rfl
 |succ n ih=>rw[agv,<-ih,acZ,Rat.natCast_mul];rfl
def qO{q:Rat}{K:Nat}(h:0<q)(hs:Sz q K):q<iC ((30*K:Nat):Int):=by
 have h1:=MA h;have h0:=agr.2<|adB h;have h2:=NT hs.1;have h3:(q.num:Rat)=((q.num.natAbs:Nat):Rat):=by rw[<-agU];congr 1;omega
 have h4:((q.num.natAbs:Nat):Rat)<((2^(30*K):Nat):Rat):=by exact_mod_cast h2
 have h5:iC ((30*K:Nat):Int)=(2:Rat)^(30*K):=by unfold iC;rw[if_neg<|by omega];rfl
 grind
def XV(n:Int):(iC n)⁻¹ =iC (-n):=by
 unfold iC;rcases agQ n 0 with h|h|h
 ·rw[if_pos h,if_neg<|by omega,Rat.inv_inv]
 ·subst h;rw[if_neg<|by decide];show((2:Rat)^0)⁻¹ =(2:Rat)^0;rw[ags];grind
 rw[if_neg<|by omega,if_pos<|by omega,Int.neg_neg]
def wk{q:Rat}{K:Nat}(h:0<q)(hs:Sz q K):iC (-((30*(K+1):Nat):Int))<q:=by
 have h1:=qO (ahi.2 h) hs.inv;rw[<-XV];have h2:=tD ((30*(K+1):Nat):Int);have h3:=Rat.mul_inv_cancel q (by grind);have h4:iC ((30*(K+1):Nat):Int)*(iC ((30*(K+1):Nat):Int))⁻¹ =1:=Rat.mul_inv_cancel _ (by grind);have h5:=ahi.2 h2;generalize iC ((30*(K+1):Nat):Int)=x at*;generalize x⁻¹ =y at*;generalize q⁻¹ =r at*;have h6:=Rat.mul_pos h5 h;have h7:=Rat.mul_lt_mul_of_pos_left h1 h6;have h8:(y*q)*r=y:=by rw[ah2,h3,Rat.mul_one]
 have h9:(y*q)*x=q:=by rw[ahk y q,ah2,ahk y x,h4,Rat.mul_one]
 rw[h8,h9]at h7;exact h7
def K3{q:Rat}{K:Nat}{e:Int}(h:0<q)(hs:Sz q K)(he:pn q e): -(30*(K+1:Int))-1<=e/\e<=30*K:=by
 have h1:=qO h hs;have h2:=wk h hs;obtain⟨g1,g2⟩:=he;constructor
 ·rcases Decidable.em (e+1< -((30*(K+1):Nat):Int))with g|g
  ·exact absurd (afU (nQ<|ac4 g)<|adB h2) g2
  omega
 rcases Decidable.em (((30*K:Nat):Int)<e)with g|g
 ·have:=nQ (ac4 g);exact absurd (afU this g1)<|ah3.2 h1
 omega
def sY(a:Rat){K:Nat}(ha:0<a)(hs:Sz a K)(hK:K<2^20):(∃e,pn a e)/\aL Tryz.prog 28 [.s<|qt a] (.i<|xd a):=by
 have h1:=qO ha hs;have h2:=wk ha hs;have hup:∀e:Int,iC e<=a->e<30*K:=by
  intro e he;rcases Decidable.em (e<30*K)with g|g
  ·exact g
  exact absurd (afU (nQ<|show((30*K:Nat):Int)<=e by omega) he)<|ah3.2 h1
 have hdn:∀e:Int,¬iC e<=a-> -((30*(K+1):Nat):Int)<e:=by
  intro e he;rcases Decidable.em (-((30*(K+1):Nat):Int)<e)with g|g
  ·exact g
  exact absurd (afU (nQ<|by omega)<|adB h2) he
 have hex:∃e,pn a e:=by
  have:∀(n:Nat)(e:Int),iC e<=a->30*(K:Int)-e<=n->∃e,pn a e:=by
   intro n
   induction n with
   |zero=>intro e he hn;exact absurd (hup e he) (by omega)
   |succ n ih=>
    intro e he hn;by_cases g:iC (e+1)<=a
    ·exact ih (e+1) g (by omega)
    exact⟨e,he,g⟩
  exact this (30*(K:Int)+((30*(K+1):Nat):Int)).toNat _ (adB h2) (by omega)
 refine⟨hex,?_⟩;obtain⟨E,hE⟩:=hex;have heq:=jK hE;refine bE Tryz.func28 rfl<|EM 3 (λe:Int=>[(0,.s<|qt a),(3,.i e)]) (λe=>0<=e/\e<=30*K/\¬iC e<=a) ?_ ?_
 ·refine r0 rfl<|loop (λe:Nat=>[(0,.s<|qt a),(3,.i e)]) (λe=>(e:Int)<=30*K) (λe=>30*K-e) 0 (by omega) ⟨ab,ab,ao⟩ ?_;intro e he;refine r0 rfl<|bF rfl (sD e<|by omega) rfl<|r0 rfl<|bF rfl (tU (iC e) a (Sz.iC e) hs<|by omega) rfl<|r0 rfl<|bH rfl (λh=>?_) (λh=>?_)
  ·have h:=hup _ (tV.1 h);refine r1 rfl (by simp[ag,and_true]<;>omega) ?_;exact again (e+1) (by omega) (by omega) ⟨ab,ab,ao⟩
  have h:¬iC e<=a:=λg=>h<|tV.2 g;refine r0 rfl<|meet (e:Int) ⟨by omega,he,h⟩ ⟨ab,ab,ao⟩
 rintro e0⟨h3,h4,h5⟩;refine r0 rfl<|loop (λe:Int=>[(0,.s<|qt a),(3,.i e)]) (λe=>¬iC (e+1)<=a/\e<=30*K/\ -((30*(K+1):Nat):Int)<=e) (λe=>(e+((30*(K+1):Nat):Int)).toNat) e0
  ⟨λg=>h5<|afU (nQ<|by omega) g,h4,by omega⟩ ⟨ab,ab,ao⟩ ?_
 rintro e⟨g1,g2,g3⟩;refine r0 rfl<|bF rfl (sD e<|by omega) rfl<|r0 rfl<|bF rfl (tU (iC e) a (Sz.iC e) hs<|by omega) rfl<|r0 rfl<|bH rfl (λh=>?_) (λh=>?_)
 ·have h:¬iC e<=a:=λg=>by have:=tV.2 g;omega
  have:=hdn e h;refine r1 rfl (by simp[ag,and_true]<;>omega) ?_;exact again (e-1) (by omega) ⟨by rw[show e-1+1=e by omega];exact h,by omega,by omega⟩ ⟨ab,ab,ao⟩
 have h:iC e<=a:=tV.1 (by omega);refine r0 rfl<|aG rfl<|bC<|(jK ⟨h,g1⟩).symm
end Go.Ai
end
namespace Go.Ai
open Go.Proofs Go.RowKit
section
variable{n:Int}{K:Nat}{p q:Rat}{s:hO}
def oS(q:Rat):0<=mz q:=by
 unfold mz;split
 ·rename_i h;have:0<=(-q).num:=by rw[ahf];omega
  exact agr.1 this
 simp_all
def Sz.mz(h:Sz q K):Sz (mz q) K:=by
 unfold Go.Ai.mz;split
 ·exact h.neg
 exact h
def Sz.A8(h:Sz p K)(g:Sz q K):Sz (A8 p q) K:=by
 unfold Go.Ai.A8;split
 ·exact h
 exact g
def JY(h:0<=p)(g:0<=q):0<=A8 p q:=by
 unfold A8;split
 ·exact h
 exact g
noncomputable def mH(a:Rat)(iT:Int):Int:=if a=0 then 40 else min 40 (xd<|iC iT/a)
def CH{a:Rat}(h:0<=a)(h0:a≠0)(iT:Int):0<iC iT/a:=by
 refine Rat.mul_pos (tD _)<|ahi.2 ?_
 grind
def Aq(a:Rat)(iT:Int)(h:0<=a)(hs:Sz a K)(hm:0<=iT/\iT<=40)(hK:K<=1000):aL Tryz.prog 43 [.s<|qt a,.i iT] (.i<|mH a iT)/\ -40000<=mH a iT/\mH a iT<=40:=by
 have hz:a≠0->Sz (iC iT/a) (42+K+1):=λh0=>((Sz.iC iT).mono<|by omega).div hs;constructor
 ·refine bE Tryz.func43 rfl<|r0 rfl<|bF rfl (nc a) rfl<|nB rfl rfl rfl (λh1=>?_) (λh1=>?_)
  ·have h1:a=0:=by simpa using h1
   refine r0 rfl<|aG rfl<|an.of_eq<|congrArg SV.i<|by unfold mH;rw[if_pos h1]
  have h1:¬a=0:=by simpa using h1
  refine r0 rfl<|bF rfl (sD iT<|by omega) rfl<|r0 rfl<|bF rfl (RY (iC iT) a (Sz.iC iT) hs (by omega) h1) rfl<|bF rfl (sY (iC iT/a) (CH h h1 iT) (hz h1)<|by omega).2 rfl<|r0 rfl<|aG rfl<|bC ?_;unfold mH;rw[if_neg h1];rfl
 unfold mH;split
 ·omega
 rename_i h1;obtain⟨e,he⟩:=(sY (iC iT/a) (CH h h1 iT) (hz h1)<|by omega).1;have:=K3 (CH h h1 iT) (hz h1) he;rw[jK he];omega
def SpV(s:hO):Prop:=aJ s.lo=0/\aJ s.hi=0
noncomputable def HD(s:hO):Rat:=A8 (mz<|bI s.lo)<|mz<|bI s.hi
def M5(h:SpV s):Sz (HD s) 67:=(eU h.1).mz.A8 (eU h.2).mz
def ve(s:hO):0<=HD s:=JY (oS _)<|oS _
def ux(s:hO)(h:SpV s):aL Tryz.prog 30 [fP s] (.s<|qt<|HD s):=by
 have h1:=qh (bI s.lo)<|(eU h.1).sW<|by decide
 have h2:=qh (bI s.hi)<|(eU h.2).sW<|by decide
 rw[fO h.1]at h1;rw[fO h.2]at h2;refine bE Tryz.func30 rfl<|r0 rfl<|bG rfl h1 rfl<|r0 rfl<|bG rfl h2 rfl<|bG rfl (MV (mz<|bI s.lo) (mz<|bI s.hi) (eU h.1).mz (eU h.2).mz<|by decide) rfl<|k0 rfl (by kernel_rfl)<|bB rfl
structure iA where
 c:Int
 d:Int
 s:Int
 g:Int
def ew(b:iA):SV:=.agg [.i b.c,.i b.d,.i b.s,.i b.g]
def ry(b:iA):List Int:=[b.c,b.d,b.s,b.g]
def ov(b:iA):Int:=aK (λx:Int=>if x<0\/40<x then 3 else 0)<|ry b
structure Ov(b:iA):Prop where
 c:0<=b.c/\b.c<=40
 d:0<=b.d/\b.d<=40
 s:0<=b.s/\b.s<=40
 g:0<=b.g/\b.g<=40
def AR{b:iA}:ov b=0↔Ov b:=by
 unfold ov ry;rw[dG];have hx:∀x:Int,(if x<0\/40<x then(3:Int)else 0)=0↔0<=x/\x<=40:=by intro x;split<;>omega
 simp;exact⟨λ⟨h1,h2,h3,h4⟩=>⟨h1,h2,h3,h4⟩,λ⟨h1,h2,h3,h4⟩=>⟨h1,h2,h3,h4⟩⟩
def zo(b:iA):aL Tryz.prog 23 [ew b] (.i<|ov b):=by
 refine bE Tryz.func23 rfl<|r0 rfl<|loop (λi:Nat=>[(3,.ints .i64 true<|ry b),(4,.i i)]) (λi=>i<=(ry b).length/\ov b=aK (λx:Int=>if x<0\/40<x then 3 else 0) ((ry b).drop i)) (λi=>(ry b).length-i) 0 ⟨aaJ _,rfl⟩ ⟨ab,ab,ao⟩ ?_;rintro i⟨hi,hf⟩;have h4:(ry b).length=4:=rfl;refine r0 rfl<|bH rfl (λh1=>?_) (λh1=>?_)
 ·have aZ:i<(ry b).length:=by omega
  have ei:(i:Int).toNat=i:=by omega
  have eg:(ry b).getD i 0=(ry b)[i]:=aw aZ;rw[dp _ aZ]at hf;refine r1 rfl (by simp[ag,and_true,ei]<;>omega) ?_;rw[ei,eg];generalize (ry b)[i]=x at*;refine aC 25 rfl (λh2=>?_) (λh2=>?_)
  ·have e:(if x<0\/40<x then(3:Int)else 0)=3:=if_pos (.inl h2);simp[e]at hf;refine r0 rfl<|aG rfl<|an.of_eq<|congrArg SV.i hf.symm
  refine r1 rfl (by simp[ag,and_true,ei]<;>omega) ?_;rw[ei,eg];refine bH rfl (λh3=>?_) (λh3=>?_)
  ·have e:(if x<0\/40<x then(3:Int)else 0)=3:=if_pos (.inr h3);simp[e]at hf;refine r0 rfl<|aG rfl<|an.of_eq<|congrArg SV.i hf.symm
  have e:(if x<0\/40<x then(3:Int)else 0)=0:=if_neg (by rintro(g|g)<;>contradiction);simp[e]at hf;refine r1 rfl (by simp[ag,and_true]<;>omega) ?_;exact again (i+1) (by omega) ⟨by omega,hf⟩ ⟨ab,ab,ao⟩
 refine r0 rfl<|aG rfl<|bC ?_;rw[hf,ac5<|by omega];rfl
noncomputable def jh(n:Int)(rs:List hO):Int:=if(rs.length:Int)≠n then 2 else aK iu rs
def xC(p:kx)(rs:List hO)(hx:∀s∈rs,cR s.lo/\cR s.hi)(hl:rs.length<2^40):aL Tryz.prog 42 [bh p,.bT false 2 default fP rs] (.i<|jh p.n rs):=by
 refine bE Tryz.func42 rfl<|r0 rfl<|bH rfl (λh1=>?_) (λh1=>?_)
 ·have h1:=h1;refine r0 rfl<|aG rfl<|an.of_eq<|congrArg SV.i<|by unfold jh;rw[if_pos h1]
 have h1:=h1;refine r0 rfl<|bF rfl (DJ rs hx<|by omega) rfl<|r0 rfl<|aG rfl<|an.of_eq<|congrArg SV.i<|by unfold jh;rw[if_neg h1]
def zS(h:iu s=0):SpV s:=by
 unfold iu at h;split at h
 ·contradiction
 rename_i h1;split at h
 ·contradiction
 rename_i h2;exact⟨by simpa using h1,by simpa using h2⟩
structure RgV(n:Int)(rs:List hO):Prop where
 len:(rs.length:Int)=n
 val:∀s∈rs,SpV s
def Hd{rs:List hO}(h:jh n rs=0):RgV n rs:=by
 unfold jh at h;split at h
 ·cases h
 rename_i h1;exact⟨by simpa using h1,λs hs=>zS<|dG.1 h s hs⟩
noncomputable def OM(rs:List hO)(b:iA)(s:Nat):Int:=mH (HD<|rs.getD s default) b.s
def Fk(rs:List hO)(b:iA)(s:Nat)(hs:s<rs.length)(hl:rs.length<2^40)(hv:∀x∈rs,SpV x)(hb:Ov b):
 aL Tryz.prog 14 [.bT false 2 default fP rs,ew b,.i s] (.i<|OM rs b s)/\ -40000<=OM rs b s/\OM rs b s<=40:=by
 have hm:=hv _<|bz (d:=default) hs;have h1:=Aq (HD<|rs.getD s default) b.s (ve _) (M5 hm) hb.s (by decide);refine⟨?_,h1.2⟩;have es:(s:Int).toNat=s:=by omega
 refine bE Tryz.func14 rfl<|r1 rfl (by simp[ag]<;>omega) ?_;refine cd rfl (by rw[es];rfl) (ux (rs.getD s default) hm) rfl ?_;refine r0 rfl<|bG rfl h1.1 rfl<|k0 rfl (by kernel_rfl)<|bB rfl
noncomputable def Kl(rs:List hO)(f:EY):Rat:=mz<|bI f.dU*HD (rs.getD f.sh.toNat default)
noncomputable def x7(rs:List hO)(b:iA)(u:bO)(i:Nat):Int:=mH (Kl rs<|u.ah.getD i default)<|if u.kind=bo/\i=0 then b.d else b.s
def ns(rs:List hO)(b:iA)(u:bO)(i:Nat)(hu:jc n u)(hi:i<u.ah.length)(hr:RgV n rs)(hl:rs.length<2^40)(bt:u.ah.length<2^40)(hb:Ov b):
 aL Tryz.prog 15 [.bT false 2 default fP rs,ew b,dM u,.i i] (.i<|x7 rs b u i)/\ -40000<=x7 rs b u i/\x7 rs b u i<=40:=by
 have hf:=hu.feed _<|bz (d:=default) hi;have Nl:=hr.len;have hm:=hr.val _<|bz (d:=default)<|show(u.ah.getD i default).sh.toNat<rs.length by omega
 have cM:Sz (bI (u.ah.getD i default).dU*HD (rs.getD (u.ah.getD i default).sh.toNat default)) (67+67):=(eU hf.2.2.1).mul<|M5 hm;have ha:0<=Kl rs (u.ah.getD i default):=oS _;have hs:Sz (Kl rs<|u.ah.getD i default) (67+67):=cM.mz;have hmul:=fT (bI (u.ah.getD i default).dU) (HD<|rs.getD (u.ah.getD i default).sh.toNat default) (eU hf.2.2.1) (M5 hm) (by decide);rw[fO hf.2.2.1]at hmul;have hL:∀m:Int,0<=m/\m<=40->aL Tryz.prog 43 [.s<|qt<|Kl rs<|u.ah.getD i default,.i m] (.i<|mH (Kl rs<|u.ah.getD i default) m)/\ -40000<=mH (Kl rs<|u.ah.getD i default) m/\mH (Kl rs<|u.ah.getD i default) m<=40:=λm hm=>Aq (Kl rs<|u.ah.getD i default) m ha hs hm (by decide);have aiF:0<=(if u.kind=bo/\i=0 then b.d else b.s)/\(if u.kind=bo/\i=0 then b.d else b.s)<=40:=by split;exact hb.d;exact hb.s
 refine⟨?_,(hL _ aiF).2⟩;have ei:(i:Int).toNat=i:=by omega
 refine bE Tryz.func15 rfl<|r1 rfl (by simp only[ag,and_true,ei]<;>omega) ?_;refine bG rfl (ux (rs.getD (u.ah.getD i default).sh.toNat default) hm) rfl<|r1 rfl (by simp[ag,and_true,ei]<;>omega) ?_;refine bG rfl hmul rfl<|r0 rfl<|bG rfl (qh (bI (u.ah.getD i default).dU*HD (rs.getD (u.ah.getD i default).sh.toNat default))<|cM.sW<|by decide) rfl<|k0 rfl (by kernel_rfl)<|aC 31 rfl (λh1=>?_) (λh1=>?_)
 ·have h1:u.kind=bo:=h1;refine r0 rfl<|bH rfl (λh2=>?_) (λh2=>?_)
  ·have hc:u.kind=bo/\i=0:=⟨h1,by omega⟩;refine r0 rfl<|bF rfl (hL b.d hb.d).1 rfl<|r0 rfl<|aG rfl<|an.of_eq<|congrArg SV.i<|by unfold x7;rw[if_pos hc]
  have hc:¬(u.kind=bo/\i=0):=λg=>h2 (by omega);refine r0 rfl<|bF rfl (hL b.s hb.s).1 rfl<|r0 rfl<|aG rfl<|an.of_eq<|congrArg SV.i<|by unfold x7;rw[if_neg hc]
 have hc:¬(u.kind=bo/\i=0):=λg=>h1 g.1;refine r0 rfl<|bF rfl (hL b.s hb.s).1 rfl<|r0 rfl<|aG rfl<|an.of_eq<|congrArg SV.i<|by unfold x7;rw[if_neg hc]
end
structure Ou where
 less:Int
 adN:Int
 iT:Int
 deriving Inhabited
def mr(c:Ou):SV:=.agg [.i c.less,.i c.adN,.i c.iT]
noncomputable def DE(rs:List hO)(b:iA)(s:Nat):List Ou:=[⟨s,-1,OM rs b s⟩,⟨-1,s,40⟩]
noncomputable def Ik(rs:List hO)(b:iA)(u:bO):List Ou:=
 [⟨-1,-1,x7 rs b u 0+40⟩,⟨(u.ah.getD 0 default).sh,-1,x7 rs b u 0+b.g⟩,⟨-1,(u.ah.getD 0 default).sh,b.g-x7 rs b u 0⟩,⟨u.out,-1,x7 rs b u 1+x7 rs b u 0-b.c⟩,
  ⟨-1,u.out,40+b.c-x7 rs b u 0⟩,⟨u.out,(u.ah.getD 1 default).sh,b.g+x7 rs b u 0-b.c⟩,⟨(u.ah.getD 1 default).sh,u.out,b.g-x7 rs b u 0+b.c⟩]
noncomputable def th(rs:List hO)(b:iA)(u:bO)(k:Nat):List Ou:=[⟨u.out,-1,x7 rs b u k⟩,⟨u.out,(u.ah.getD k default).sh,b.g⟩,⟨(u.ah.getD k default).sh,u.out,b.g⟩]
noncomputable def N7(n:Int)(rs:List hO)(b:iA)(u:bO):List Ou:=[⟨n,-1,x7 rs b u 0⟩,⟨-1,n,40⟩,⟨n,(u.ah.getD 0 default).sh,b.g⟩,⟨(u.ah.getD 0 default).sh,n,b.g⟩]
noncomputable def xy(n:Int)(rs:List hO)(b:iA)(u:bO):List Ou:=if u.kind=bo then Ik rs b u else if u.kind=jJ then(List.range u.ah.length).flatMap (th rs b u)else if u.kind=dQ then N7 n rs b u else[]
def ug(us:List bO)(i:Nat):Nat:=(us.take i).countP λu=>decide (u.kind=dQ)
def Gx{us:List bO}{i:Nat}(h:i<us.length):ug us (i+1)=ug us i+if us[i].kind=dQ then 1 else 0:=by unfold ug;rw[abZ h,agV];by_cases g:us[i].kind=dQ<;>simp
def PU(us:List bO)(i:Nat):ug us i<=i:=abC ago (by simp;omega)
noncomputable def ot(rs:List hO)(b:iA)(s:Nat):List Ou:=(List.range s).flatMap<|DE rs b
noncomputable def mv(n:Nat)(us:List bO)(rs:List hO)(b:iA)(i:Nat):List Ou:=ot rs b n++(List.range i).flatMap λj=>xy ((n+ug us j:Nat):Int) rs b<|us.getD j default
noncomputable def rr(n:Nat)(us:List bO)(rs:List hO)(b:iA):List Ou:=mv n us rs b us.length
def iE{α:Type}(f:Nat->List α)(i:Nat):(List.range<|i+1).flatMap f=(List.range i).flatMap f++f i:=by rw[ain];simp
def cJ{α:Type}{f:Nat->List α}{c:Nat}(h:∀i,(f i).length<=c):∀n,((List.range n).flatMap f).length<=n*c
 |0=>by simp
 |n+1=>by have:=cJ h n;have:=h n;rw[iE,abq,ahS];omega
def oq(n:Nat)(us:List bO)(rs:List hO)(b:iA)(i:Nat):mv n us rs b (i+1)=mv n us rs b i++xy ((n+ug us i:Nat):Int) rs b (us.getD i default):=by unfold mv;rw[iE,abv]
def zn(p:kx)(h:ye p)(n:Nat)(hn:p.n=n)(UH:n<=100)(X3:p.aa.length<=96)(hv:∀u∈p.aa,jc p.n u)(rs:List hO)(b:iA)(hr:RgV p.n rs)(hb:Ov b):
 aL Tryz.prog 13 [bh p,.bT false 2 default fP rs,ew b] (.bT true 3 default mr<|rr n p.aa rs b):=by
 have D8:=h.aa;have Nl:rs.length=n:=by have:=hr.len;omega
 have hU:∀i,(hi:i<p.aa.length)->(xy ((n+ug p.aa i:Nat):Int) rs b<|p.aa.getD i default).length<=24:=by
  intro i hi;have hu:=hv _<|aaY hi;rw[aw hi];unfold xy;split
  ·simp[Ik]
  split
  ·rename_i g;have:=cJ (f:=th rs b p.aa[i]) (c:=3) (λk=>by simp[th]) p.aa[i].ah.length;have:=(hu.add g).2.1;omega
  split
  ·simp[N7]
  simp
 have hto:∀i,i<=p.aa.length->(mv n p.aa rs b i).length<=200+24*i:=by
  intro i
  induction i with
  |zero=>intro _;have:=cJ (f:=DE rs b) (c:=2) (λk=>by simp[DE]) n;simp only[mv,ot,List.range_zero,List.flatMap_nil,ac7];omega
  |succ i ih=>intro hi;have:=ih (by omega);have:=hU i (by omega);rw[oq,abq];omega
 refine bE Tryz.func13 rfl<|b8 4 [(1,.bT false 2 default fP rs),(3,.box true<|bh p),(5,.box true<|ew b),(7,.bT true 3 default mr<|ot rs b n),(8,.i<|-1)] True ?_ λ_=>?_
 ·refine r0 rfl<|loop (λs:Nat=>[(1,.bT false 2 default fP rs),(3,.box true<|bh p),(5,.box true<|ew b),(7,.bT true 3 default mr<|ot rs b s),(8,.i<|-1),(9,.i s)]) (λs=>s<=n) (λs=>n-s) 0 (aaJ _) ⟨ab,ab,ab,ab,ab,ab,ao⟩ ?_;intro s hs;have wX:(ot rs b s).length<=s*2:=cJ (f:=DE rs b) (c:=2) (λk=>by simp[DE]) s;refine r0 rfl<|bH rfl (λh1=>?_) (λh1=>?_)
  ·obtain⟨c1,c2,c3⟩:=Fk rs b s (by omega) (by omega) hr.val hb;refine r0 rfl<|bF rfl c1 rfl<|r1 rfl (by simp only[ag,and_true,len,abp,abn,abr]<;>omega) ?_;refine again (s+1) (by omega) (by omega) ⟨ab,ab,ab,⟨rfl,rfl,rfl,?_⟩,ab,ab,ao⟩;rw[c8,ot,ot,iE,acd];exact jd.refl _
  have:s=n:=by omega
  subst this;refine r0 rfl<|aP ao ⟨ab,ab,ab,ab,ab,ao⟩
 have h0:ot rs b n=mv n p.aa rs b 0:=by unfold mv;simp
 rw[h0];refine r0 rfl<|loop (λi:Nat=>[(1,.bT false 2 default fP rs),(3,.box true<|bh p),(5,.box true<|ew b),(7,.bT true 3 default mr<|mv n p.aa rs b i),(8,.i<|-1),(10,.i<|ug p.aa i),(11,.i i)])
  (λi=>i<=p.aa.length) (λi=>p.aa.length-i) 0 (aaJ _) ⟨ab,ab,ab,ab,ab,ab,ab,ao⟩ ?_
 intro i hi;refine r0 rfl<|bH rfl (λh1=>?_) (λh1=>?_)
 ·have aZ:i<p.aa.length:=by omega
  have ei:(i:Int).toNat=i:=by omega
  have eg:p.aa.getD i default=p.aa[i]:=aw aZ;have hu:=hv _<|aaY aZ;have huo:=hu.out;have CS:=(h.unit _<|aaY aZ).ah;have hlen:=hto i hi;have eR:=oq n p.aa rs b i;have KD:=Gx aZ;have Bg:=PU p.aa i;rw[eg]at eR;refine r1 rfl (by simp only[ag,and_true,ei]<;>omega) ?_;rw[ei,eg];obtain⟨u,eu⟩:∃u,p.aa[i]=u:=⟨_,rfl⟩;rw[eu]at hu huo CS eR KD⊢;have uF:Int.toNat 0=0:=rfl;have YJ:Int.toNat 1=1:=rfl;have kIA:=BC;have kIT:=wQ;have kAT:=BD;have hg:=hb.g;have hc:=hb.c;refine bH rfl (λh2=>?_) (λh2=>?_)
  ·have h2:u.kind=bo:=h2;have hnA:¬u.kind=jJ:=by rw[h2];exact kIA
   have Pn:¬u.kind=dQ:=by rw[h2];exact kIT
   have RH:=(hu.int h2).1;rw[if_neg Pn]at KD;obtain⟨c1,c2,c3⟩:=ns rs b u 0 hu (by omega) hr (by omega) CS hb;obtain⟨d1,d2,d3⟩:=ns rs b u 1 hu (by omega) hr (by omega) CS hb;unfold xy at eR;rw[if_pos h2]at eR;refine r0 rfl<|bF rfl c1 rfl<|k1 rfl (by kernel_rfl) (by simp only[ag,and_true,uF,YJ]<;>omega) ?_;rw[uF,YJ];refine bF rfl d1 rfl<|r1 rfl (by simp only[ag,and_true,len,abp,abn,abr]<;>omega) ?_;refine bH rfl (λh3=>absurd h3 hnA) λ_=>?_;refine r0 rfl<|bH rfl (λh3=>absurd h3 Pn) λ_=>?_;refine r1 rfl (by simp only[ag,and_true]<;>omega) ?_;refine again (i+1) (by omega) (by omega) ⟨ab,ab,ab,⟨rfl,rfl,rfl,?_⟩,ab,⟨rfl,an.of_eq<|congrArg SV.i<|by rw[KD];omega⟩,ab,ao⟩;rw[c8,eR,acd];exact jd.refl _
  have h2:¬u.kind=bo:=h2;unfold xy at eR;rw[if_neg h2]at eR;refine r0 rfl<|bH rfl (λh3=>?_) (λh3=>?_)
  ·have h3:u.kind=jJ:=h3;have Pn:¬u.kind=dQ:=by rw[h3];exact kAT
   rw[if_neg Pn]at KD;rw[if_pos h3]at eR;have hf8:=(hu.add h3).2.1;refine r0 rfl<|loop (λk:Nat=>[(1,.bT false 2 default fP rs),(3,.box true<|bh p),(5,.box true<|ew b),(7,.bT true 3 default mr<|mv n p.aa rs b i++(List.range k).flatMap (th rs b u)),(8,.i<|-1),(10,.i<|ug p.aa i),(11,.i i),(12,.box true<|dM u),(13,.i u.out),(14,.i b.g),(19,.i k)])
    (λk=>k<=u.ah.length) (λk=>u.ah.length-k) 0 (aaJ _) ⟨ab,ab,ab,⟨rfl,an.of_eq<|congrArg (SV.bT true 3 default mr)<|by simp⟩,ab,ab,ab,ab,ab,ab,ab,ao⟩ ?_
   intro k hk;have RE:((List.range k).flatMap<|th rs b u).length<=k*3:=cJ (f:=th rs b u) (c:=3) (λk=>by simp[th]) k;refine r0 rfl<|bH rfl (λh4=>?_) (λh4=>?_)
   ·have gp:k<u.ah.length:=by omega
    have ek:(k:Int).toNat=k:=by omega
    obtain⟨c1,c2,c3⟩:=ns rs b u k hu gp hr (by omega) CS hb;refine r1 rfl (by simp only[ag,and_true,ek]<;>omega) ?_;rw[ek];refine bF rfl c1 rfl<|r1 rfl (by simp only[ag,and_true,len,abp,abq,abn,abr]<;>omega) ?_;refine again (k+1) (by omega) (by omega) ⟨ab,ab,ab,⟨rfl,rfl,rfl,?_⟩,ab,ab,ab,ab,ab,ab,ab,ao⟩;rw[c8,iE,<-abv,acd (l₂:=th rs b u k)];exact jd.refl _
   have:k=u.ah.length:=by omega
   subst this;rw[<-eR];refine r0 rfl<|bH rfl (λh3=>absurd h3 Pn) λ_=>?_;refine r1 rfl (by simp only[ag,and_true]<;>omega) ?_;exact again (i+1) (by omega) (by omega) ⟨ab,ab,ab,ab,ab,⟨rfl,an.of_eq<|congrArg SV.i<|by rw[KD];omega⟩,ab,ao⟩
  have h3:¬u.kind=jJ:=h3;rw[if_neg h3]at eR;refine r0 rfl<|bH rfl (λh4=>?_) (λh4=>?_)
  ·have h4:u.kind=dQ:=h4;rw[if_pos h4]at eR KD;have KA:=(hu.table h4).1;obtain⟨c1,c2,c3⟩:=ns rs b u 0 hu (by omega) hr (by omega) CS hb;have Yb:p.n+(ug p.aa i:Int)=((n+ug p.aa i:Nat):Int):=by omega
   refine r1 rfl (by simp only[ag,and_true,uF]<;>omega) ?_;rw[uF,Yb];refine bF rfl c1 rfl<|r1 rfl (by simp only[ag,and_true,len,abp,abn,abr]<;>omega) ?_;refine again (i+1) (by omega) (by omega) ⟨ab,ab,ab,⟨rfl,rfl,rfl,?_⟩,ab,⟨rfl,an.of_eq<|congrArg SV.i<|by rw[KD];omega⟩,ab,ao⟩;rw[c8,eR,acd];exact jd.refl _
  rcases hu.kind with g|g|g
  ·exact absurd g h2
  ·exact absurd g h3
  exact absurd g h4
 have:i=p.aa.length:=by omega
 subst this;refine r0 rfl<|bB rfl
def zT(s:hO):Bool:=decide (s.lo.length<=24/\s.hi.length<=24)
def PG(l:List hO):Bool:=l.all zT&&decide (l.length<=110)
def aco(l:List hO)(hl:l.length<=9223372036854775807)(h:∀s∈l,s.lo.length<=9223372036854775807/\s.hi.length<=9223372036854775807):aL Tryz.prog 8 [.bT false 2 default fP l] (.u<|PG l):=by
 refine bE Tryz.func8 rfl<|r0 rfl ?_;unfold PG;refine loop (λi:Nat=>[(0,.bT false 2 default fP l),(5,.bT false 2 default fP l),(6,.i l.length),(7,.i i)]) (λi=>i<=l.length/\l.all zT=(l.drop i).all zT) (λi=>l.length-i) 0 ⟨aaJ _,rfl⟩ ⟨ab,ab,ab,ab,ao⟩ ?_;rintro i⟨hi,hf⟩;refine r0 rfl<|bH rfl (λg1=>?_) (λg1=>?_)
 ·have aZ:i<l.length:=by omega
  have ei:(i:Int).toNat=i:=by omega
  have eg:l.getD i default=l[i]:=aw aZ;obtain⟨k1,k2⟩:=h _<|aaY aZ;rw[abV aZ,acY]at hf;rw[hf];refine r1 rfl (by simp only[ag,and_true,ei]<;>omega) ?_;rw[ei,eg];generalize l[i]=s at*;have ret:zT s=false->false=(zT s&&(l.drop<|i+1).all zT&&decide (l.length<=110)):=λh=>by rw[h];rfl
  refine aC 15 rfl (λg2=>?_) (λg2=>?_)
  ·refine r0 rfl<|aG rfl<|ret<|decide_eq_false<|by omega
  refine r0 rfl<|bH rfl (λg3=>?_) (λg3=>?_)
  ·refine r0 rfl<|aG rfl<|ret<|decide_eq_false<|by omega
  have e1:zT s=true:=decide_eq_true (by omega);rw[e1,ac8];refine r1 rfl (by simp only[ag,and_true]<;>omega) ?_;exact again (i+1) (by omega) ⟨by omega,rfl⟩ ⟨ab,ab,ab,ab,ao⟩
 have:i=l.length:=by omega
 subst this;rw[hf,adE,ahh,ac8];refine r0 rfl<|aG rfl<|an.of_eq<|congrArg SV.u<|decide_eq_decide.2<|by omega
def AI(rs:List hO)(b:iA):SV:=.agg [.bT false 2 default fP rs,.i b.c,.i b.d,.i b.s,.i b.g]
noncomputable def R5(p:kx)(rs:List hO)(b:iA):Int:=if dR p≠0 then dR p else if jh p.n rs≠0 then jh p.n rs else ov b
def Gz(p:kx)(rs:List hO)(b:iA)(h:ye p)(hx:∀s∈rs,cR s.lo/\cR s.hi)(hl:rs.length<2^40):aL Tryz.prog 12 [bh p,AI rs b] (.i<|R5 p rs b):=by
 refine bE Tryz.func12 rfl<|r0 rfl<|bF rfl (mM p h) rfl<|r0 rfl<|bH rfl (λg1=>?_) (λg1=>?_)
 ·refine r0 rfl<|bF rfl (xC p rs hx hl) rfl<|r0 rfl<|bH rfl (λg2=>?_) (λg2=>?_)
  ·refine r0 rfl<|bF rfl (zo b) rfl<|r0 rfl<|aG rfl<|bC ?_;unfold R5;rw[if_neg<|by omega,if_neg<|by omega]
  refine r0 rfl<|aG rfl<|bC ?_;unfold R5;rw[if_neg<|by omega,if_pos<|by omega]
 refine r0 rfl<|bH rfl (λg2=>?_) (λg2=>?_)
 ·exact absurd g2 g1
 refine r0 rfl<|aG rfl<|bC ?_;unfold R5;rw[if_pos<|by omega]
end Go.Ai
namespace Go.Ai.cY
section
variable{l:List Int}{m n:Nat}
def B9:Nat:=18446744073709551616
def ae(n:Nat):List Int:=if h:n=0 then[]else((n%B9:Nat):Int)::ae (n/B9)
 termination_by n
 decreasing_by exact aeK (aey h) (by decide)
def val:List Int->Int
 |[]=>0
 |d::l=>d+18446744073709551616*val l
def gU(l:List Int):Prop:=∀d∈l,0<=d/\d<18446744073709551616
def cD:ae 0=[]:=by rw[ae];simp
def bc(n:Nat):val (ae n)=n:=by
 induction n using Nat.strongRecOn with
 |_ n ih=>
  rw[ae];split
  ·rename_i h;subst h;rfl
  rename_i h;have cS:n/B9<n:=aeK (aey h) (by decide);simp[val,ih _ cS];unfold B9;omega
def bk(n:Nat):gU (ae n):=by
 induction n using Nat.strongRecOn with
 |_ n ih=>
  rw[ae];split
  ·intro d hd;cases hd
  rename_i h;have cS:n/B9<n:=aeK (aey h) (by decide);intro d hd;rcases abk.1 hd with rfl|hd
  ·unfold B9;omega
  exact ih _ cS d hd
def aY:∀{l:List Int},gU l->0<=val l
 |[],_=>by simp[val]
 |d::l,h=>by have h1:=h d (by simp);have h2:=aY (l:=l) λx hx=>h x (by simp[hx]);simp[val];omega
def eM(l:List Int)(d:Int):val (l++[d])=val l+d*18446744073709551616^l.length:=by
 induction l with
 |nil=>simp[val]
 |cons x l ih=>simp[val,ih,aci];rw[ag7];simp only[Int.add_assoc];congr 2;rw[<-acL,acT 18446744073709551616,acL,acT 18446744073709551616]
def ia:∀{l:List Int},gU l->val l<18446744073709551616^l.length
 |[],_=>by simp[val]
 |d::l,h=>by have h1:=h d (by simp);have h2:=ia (l:=l) λx hx=>h x (by simp[hx]);simp[val];omega
def tc:∀{l:List Int},gU l->l.getLast?≠some 0->ae (val l).toNat=l
 |[],_,_=>by simp[val,cD]
 |d::l,h,hz=>by
  have h1:=h d (by simp);have hl:gU l:=λx hx=>h x (by simp[hx]);have h2:=aY hl;have hz':l.getLast?≠some 0:=by
   cases l with
   |nil=>simp
   |cons x l=>simpa using hz
  have ih:=tc hl hz';have dc:(val<|d::l).toNat≠0:=by
   simp only[val];intro h0;have hd:d=0:=by omega
   have hv:val l=0:=by omega
   cases l with
   |nil=>subst hd;simp at hz
   |cons x l=>rw[hv]at ih;simp[cD]at ih
  rw[ae,dif_neg dc];have e1:(((val<|d::l).toNat%B9:Nat):Int)=d:=by simp[val];unfold B9;omega
  have e2:(val<|d::l).toNat/B9=(val l).toNat:=by simp[val];unfold B9;omega
  rw[e1,e2,ih]
def tS(h:gU l)(hz:l.getLast?≠some 0)(hv:val l=n):l=ae n:=by have:=tc h hz;rw[hv]at this;simpa using this.symm
def pW(n:Nat):(ae n).getLast?≠some 0:=by
 induction n using Nat.strongRecOn with
 |_ n ih=>
  rw[ae];split
  ·simp
  rename_i h;have cS:n/B9<n:=aeK (aey h) (by decide);have:=ih _ cS;cases hl:ae (n/B9)with
  |nil=>intro he;have hv:=bc<|n/B9;rw[hl]at hv;simp[val]at hv;simp at he;unfold B9 at he hv;omega
  |cons x l=>rw[hl]at this;simpa using this
def aH(l:List Int)(i:Nat):val (l.take<|i+1)=val (l.take i)+l.getD i 0*18446744073709551616^i:=by
 by_cases h:i<l.length
 ·rw[abZ h,eM];simp[abl h,adD<|afy h]
 rw[abm<|by omega,abm<|by omega];simp[adb<|show l.length<=i by omega]
def a7(h:gU l)(i:Nat):0<=l.getD i 0/\l.getD i 0<18446744073709551616:=by
 by_cases hi:i<l.length
 ·have:=h l[i] (aaY hi);simpa[abl hi]using this
 simp[adb<|show l.length<=i by omega]
def cG(n:Nat):(0:Int)<18446744073709551616^n:=Int.pow_pos (by decide)
def qU(h:gU l)(hl:l.getLast?≠some 0):l=[]\/18446744073709551616^(l.length-1)<=val l:=by
 rcases ai1 l with rfl|⟨l,d,rfl⟩
 ·exact .inl rfl
 right;rw[ai4]at*;rw[eM];have h1:=aY (l:=l) λx hx=>h x (by simp[hx]);have h2:=h d (by simp);simp at hl;simp;have h3:=cG l.length;have:1*18446744073709551616^l.length<=d*18446744073709551616^l.length:=aeP (by omega) (by omega);omega
def fZ(n:Nat):ae n=[]\/(18446744073709551616:Int)^((ae n).length-1)<=n:=by have:=qU (bk n)<|pW n;rwa[bc]at this
def cQ:List Int->List Int
 |[]=>[]
 |d::l=>match cQ l with
  |[]=>if d=0 then[]else[d]
  |x::r=>d::x::r
def ma:∀l:List Int,cQ (l++[0])=cQ l
 |[]=>by simp[cQ]
 |d::l=>by simp[cQ,ma l]
def nH:∀{l:List Int},l.getLast?≠some 0->cQ l=l
 |[],_=>rfl
 |[d],h=>by simp at h;simp[cQ,h]
 |d::x::l,h=>by have:=nH (l:=x::l) h;rw[cQ,this]
def uN{w:List Int}(hn:n+1=w.length)(h:w.getD n 0=0):cQ (w.take n)=cQ w:=by
 have e:w=w.take n++[0]:=by
  have h1:n<w.length:=by omega
  have h2:w[n]=0:=by simpa[abl h1]using h
  have h3:=abZ h1;rw[abm<|by omega,h2]at h3;exact h3
 conv=>rhs;rw[e,ma]
def pq:∀l:List Int,val (cQ l)=val l
 |[]=>rfl
 |d::l=>by
  have ih:=pq l;simp[cQ];split
  ·rename_i h;rw[h]at ih;simp[val]at ih⊢;split
   ·rename_i h0;simp[val];omega
   simp[val];omega
  rename_i x r h;rw[h]at ih;simp[val]at ih⊢;omega
def dV(h:gU l):cQ l=ae (val l).toNat:=by
 have h1:gU (cQ l)/\(cQ l).getLast?≠some 0:=by
  induction l with
  |nil=>exact⟨h,by simp[cQ]⟩
  |cons d l ih=>
   obtain⟨i1,i2⟩:=ih λx hx=>h x (by simp[hx]);have hd:=h d (by simp);simp[cQ];split
   ·split
    ·simp_all
    rename_i h0;exact⟨λx hx=>by simp at hx;subst hx;exact hd,by simpa using h0⟩
   rename_i x r he;rw[he]at i1 i2;exact⟨λy hy=>by
    rcases abk.1 hy with rfl|hy
    ·exact hd
    exact i1 y hy,i2⟩
 rw[tS h1.1 h1.2 (n:=(val l).toNat) (by rw[pq];have:=aY h;omega)]
def gI(l:List Int)(k:Nat):val l=val (l.take k)+18446744073709551616^(l.take k).length*val (l.drop k):=by
 induction l generalizing k with
 |nil=>simp[val]
 |cons d l ih=>
  cases k with
  |zero=>simp[val]
  |succ k=>simp[val];grind
def ga(h:gU l)(k:Nat):gU (l.take k):=λx hx=>h x<|afs hx
def bQ(n:Nat):(n:Int)<18446744073709551616^(ae n).length:=by have:=ia<|bk n;rwa[bc]at this
def eI(h:n≠0):0<(ae n).length:=by rw[ae,dif_neg h];simp
def ij{a b:Nat}(h:a<=b):(18446744073709551616:Int)^a<=18446744073709551616^b:=by obtain⟨k,rfl⟩:=Nat.exists_eq_add_of_le h;rw[ad3];have h1:=cG a;have h2:=cG k;have:=adq (show(1:Int)<=18446744073709551616^k by omega)<|ac4 h1;omega
def b6(h:(ae m).length<(ae n).length):m<n:=by
 have h1:=bQ m;rcases fZ n with h2|h2
 ·rw[h2]at h;cases h
 have h3:(18446744073709551616:Int)^(ae m).length<=18446744073709551616^((ae n).length-1):=ij (by omega);omega
def ou(m n:Nat):Int:=if m<n then -1 else if n<m then 1 else 0
def mj{k:Nat}(hk:k<(ae m).length)(hl:(ae m).length=(ae n).length)(hd:(ae m).drop (k+1)=(ae n).drop (k+1))(h:(ae m).getD k 0<(ae n).getD k 0):m<n:=by
 have e1:=gI (ae m)<|k+1;have e2:=gI (ae n)<|k+1;rw[bc,aH]at e1 e2;rw[hd]at e1;have l1:((ae m).take<|k+1).length=k+1:=by simp;omega
 have l2:((ae n).take<|k+1).length=k+1:=by simp;omega
 rw[l1]at e1;rw[l2]at e2;have b1:=ia<|ga (bk m) k;have b2:=aY<|ga (bk n) k;have l3:((ae m).take k).length=k:=by simp;omega
 rw[l3]at b1;have hp:=cG k;have:((ae m).getD k 0+1)*18446744073709551616^k<=(ae n).getD k 0*18446744073709551616^k:=aeP (by omega) (by omega);rw[ab3]at this;omega
def kC:∀{l:List Int}{j:Nat}(y:Int),j<l.length->val (l.set j y)=val l+(y-l.getD j 0)*18446744073709551616^j
 |[],j,y,h=>by cases h
 |d::l,0,y,_=>by simp[val];omega
 |d::l,j+1,y,h=>by have:=kC (l:=l) (j:=j) y (by simpa using h);simp[val];grind
def eK(h:gU l){j:Nat}{y:Int}(hy:0<=y/\y<18446744073709551616):gU (l.set j y):=by
 intro x hx;rcases ahE hx with hx|hx
 ·exact h x hx
 subst hx;exact hy
def b7(l:List Int)(j k:Nat)(y:Int):(l.set j y).getD k 0=if j=k/\k<l.length then y else l.getD k 0:=by
 by_cases h:j=k
 ·subst h;by_cases h2:j<l.length
  all_goals simp[h2]
 simp[h]
def iB(n:Nat):val (List.replicate n 0)=0:=by
 induction n with
 |zero=>rfl
 |succ n ih=>simp[af1,val,ih]
def ff(n:Nat):gU (List.replicate n 0):=λx hx=>by rw[ag8 hx];omega
def fw(n k:Nat):(List.replicate n (0:Int)).getD k 0=0:=by simp[af5];split<;>rfl
end
def cV:Nat->Int->Int->Int->Int->Int->Int
 |0,t,_,_,_,_=>t
 |k+1,t,r,v1,v2,u2=>if 18446744073709551616<=t\/r*18446744073709551616+u2<t*v2 then(if 18446744073709551616<=r+v1 then t-1 else cV k (t-1) (r+v1) v1 v2 u2)else t
def fU{a b c:Int}(h:a<=b)(hc:0<=c):a*c<=b*c:=aeP h hc
def sU{v1 v2 u2 top P vl ul U V:Int}(hP:0<P)(Rv:1<=v1)(ZH:0<=v2/\v2<18446744073709551616)(X4:0<=u2/\u2<18446744073709551616)(Ek:0<=vl/\vl<P)(D8:0<=ul/\ul<P)
 (hV:V=v1*(18446744073709551616*P)+v2*P+vl)(hU:U=top*(18446744073709551616*P)+u2*P+ul)(hUV:U<18446744073709551616*V):
 ∀(k:Nat)(t r:Int),k=t.toNat->0<=t->0<=r->t*v1+r=top->U<(t+1)*V->U<(cV k t r v1 v2 u2+1)*V/\(cV k t r v1 v2 u2-1)*V<=U/\0<=cV k t r v1 v2 u2/\cV k t r v1 v2 u2<=t:=by
 have hvP:v2*P+vl<18446744073709551616*P:=by have:=fU (show v2+1<=18446744073709551616 by omega)<|ac4 hP;rw[ab3]at this;omega
 have aic:0<=v2*P:=ado ZH.1 (by omega);have IL:0<V:=by have:=fU Rv (show 0<=18446744073709551616*P by omega);omega
 have Ut:top<18446744073709551616*v1+18446744073709551616:=by
  have h1:top*(18446744073709551616*P)<(18446744073709551616*v1+18446744073709551616)*(18446744073709551616*P):=by
   have h2:0<=u2*P:=ado X4.1 (by omega);have h3:(18446744073709551616*v1+18446744073709551616)*(18446744073709551616*P)=18446744073709551616*(v1*(18446744073709551616*P))+18446744073709551616*(18446744073709551616*P):=by grind
   omega
  exact agO h1 (by omega)
 have Nx:∀t r:Int,0<=t->t<18446744073709551616->t*v1+r=top->t*v2<=r*18446744073709551616+u2->(t-1)*V<=U:=by
  intro t r h0 h1 h2 h3;have e1:t*V=t*v1*(18446744073709551616*P)+t*v2*P+t*vl:=by rw[hV];grind
  have e2:t*v1*(18446744073709551616*P)=top*(18446744073709551616*P)-r*18446744073709551616*P:=by rw[<-h2];grind
  have e3:=fU h3<|ac4 hP;rw[ab3]at e3;have e4:t*vl<=18446744073709551616*P:=by have a:=adq (ac4 Ek.2) h0;have b:=fU (ac4 h1)<|ac4 hP;omega
  have e5:=fU Rv (show 0<=18446744073709551616*P by omega);rw[adv,ae4,e1,e2,hU];omega
 have less:∀t r:Int,0<=t->t*v1+r=top->(18446744073709551616<=t\/r*18446744073709551616+u2<t*v2)->U<t*V:=by
  intro t r h0 h2 h3;rcases h3 with h3|h3
  ·have:=fU h3<|ac4 IL;omega
  have e1:t*V=t*v1*(18446744073709551616*P)+t*v2*P+t*vl:=by rw[hV];grind
  have e2:t*v1*(18446744073709551616*P)=top*(18446744073709551616*P)-r*18446744073709551616*P:=by rw[<-h2];grind
  have e3:=fU (show r*18446744073709551616+u2+1<=t*v2 by omega)<|ac4 hP;rw[ab3,ab3]at e3;have e4:0<=t*vl:=ado h0 Ek.1;rw[e1,e2,hU];omega
 intro k
 induction k with
 |zero=>
  intro t r hk h0 hr h2 hq;have:t=0:=by omega
  subst this;simp only[cV];refine⟨hq,?_,by omega,by omega⟩;exact Nx 0 r (by omega) (by omega) h2 (by omega)
 |succ k ih=>
  intro t r hk h0 hr h2 hq;simp only[cV];by_cases hc:18446744073709551616<=t\/r*18446744073709551616+u2<t*v2
  ·rw[if_pos hc];have hl:=less t r h0 h2 hc;have Gf:(t-1)*v1+(r+v1)=top:=by rw[adv];omega
   by_cases sc:18446744073709551616<=r+v1
   ·rw[if_pos sc];have e:t-1+1=t:=by omega
    rw[e];refine⟨hl,?_,by omega,by omega⟩;have hs:t-1<18446744073709551616:=by
     have:(t-1)*v1<18446744073709551616*v1:=by omega
     exact agO this (by omega)
    refine Nx (t-1) (r+v1) (by omega) hs Gf ?_;have a:(t-1)*v2<=(t-1)*18446744073709551616:=adq (by omega) (by omega);omega
   rw[if_neg sc];have e:t-1+1=t:=by omega
   obtain⟨a,b,c,d⟩:=ih (t-1) (r+v1) (by omega) (by omega) (by omega) Gf (by rw[e];exact hl);exact⟨a,b,c,by omega⟩
  rw[if_neg hc];refine⟨hq,?_,h0,by omega⟩;have h4:t<18446744073709551616:=by omega
  exact Nx t r h0 h4 h2 (by omega)
def eJ{w:List Int}{j k:Nat}{y:Int}(h:j<=k):(w.set k y).take j=w.take j:=by rw[List.take_set_of_le h]
def mu{f:Nat}(h0:0<f)(h1:f<18446744073709551616):ae f=[(f:Int)]:=by
 refine(tS (λd hd=>?_) ?_ ?_).symm
 ·simp at hd;omega
 ·simp;omega
 simp[val]
end Go.Ai.cY
namespace Go.Ai.cY
open Go.Proofs Go.Ai
def KS{P:Program}{f:FuncId}{k:IntKind}{qs rs:List Int}(h:∀w:World,(callFunc f (qs.map λa=>Value.int k a).toArray).run P w=.ok (.value<|.tuple (rs.map λa=>Value.int k a).toArray) w):
 aL P f (qs.map λa=>SV.n k a) (.bX<|rs.map λa=>SV.n k a):=by
 intro w S vs _ hS hc;have key:∀(l:List Int)(vs:List Value),Cells w S false (au<|l.map λa=>SV.n k a) vs []->vs=l.map λa=>Value.int k a:=by
  intro l
  induction l with
  |nil=>intro vs hc;simp only[adQ,au,Cells]at hc;exact hc.1
  |cons a l ih=>intro vs hc;simp only[acV,au,Cells]at hc;obtain⟨y,l',F1,F2,rfl,hF,_,hr,hc⟩:=hc;obtain⟨rfl,rfl⟩:=agL.1 hF.symm;simp only[SV.den,Rel]at hr;rw[hr.2.1,ih l' hc];rfl
 have e:=key qs vs hc;subst e;have gM:∀l:List Int,Cells w S false (au<|l.map λa=>SV.n k a) (l.map λa=>Value.int k a) []:=by
  intro l
  induction l with
  |nil=>simp[au,Cells]
  |cons a l ih=>simp only[acV,au,Cells];exact⟨_,_,[],[],rfl,rfl,by simp,by simp[SV.den,Rel,scalar],ih⟩
 intro rd o a next Q hK
 rw[h w];refine hK _ _ ⟨S,[],Go.RowKit.Below.refl _ _,λ_ h=>h,λ_ h=>.inl h,hS,?_,acX,by simp⟩;simp only[SV.den,Rel];exact⟨_,rfl,gM rs⟩
def fg(x y c:Nat)(hc:c<=1):aL Tryz.prog 239 [.n .u64 x,.n .u64 y,.n .u64 c] (.bX [.n .u64 ((x+y+c)%2^64:Nat),.n .u64 ((x+y+c)/2^64:Nat)]):=by
 refine KS (qs:=[(x:Int),y,c]) (rs:=[(((x+y+c)%2^64:Nat):Int),(((x+y+c)/2^64:Nat):Int)]) λw=>?_;refine(run_callFunc_extern (fn:=Tryz.f239) Tryz.func239 (by kernel_rfl) (by kernel_rfl) (by kernel_rfl) (e:=add64Entry) (by kernel_rfl) _ w).trans ?_;have:=run_add64 (P:=Tryz.prog) x y c (by omega) (by omega) (by omega) (by omega) w;simp only[acV,adQ];rw[this];simp only[Result.andThen]
 congr 4<;>simp
def pt(x y b:Nat)(hb:b<=1):aL Tryz.prog 253 [.n .u64 x,.n .u64 y,.n .u64 b] (.bX [.n .u64 ((x+2^64-y-b)%2^64:Nat),.n .u64 ((if x<y+b then 1 else 0:Nat):Int)]):=by refine KS (qs:=[(x:Int),y,b]) (rs:=[(((x+2^64-y-b)%2^64:Nat):Int),((if x<y+b then 1 else 0:Nat):Int)]) λw=>?_;refine(run_callFunc_extern (fn:=Tryz.f253) Tryz.func253 (by kernel_rfl) (by kernel_rfl) (by kernel_rfl) (e:=sub64Entry) (by kernel_rfl) _ w).trans ?_;have:=run_sub64 (P:=Tryz.prog) x y b hb w;simp only[acV,adQ];rw[this];rfl
def dm(xs:List Int)(hx:xs.length<2^60):aL Tryz.prog 240 [.ints .u64 false xs] (.ints .u64 false<|cQ xs):=by
 refine bE Tryz.func240 rfl<|r0 rfl<|loop (λn:Nat=>[(0,.ints .u64 false xs),(3,.i n)]) (λn=>n<=xs.length/\cQ (xs.take n)=cQ xs) (λn=>n) xs.length ⟨aav _,by rw[ads]⟩ ⟨ab,ab,ao⟩ ?_;rintro n⟨hn,hw⟩;refine r0 rfl<|aC 8 rfl (λh=>?_) (λh=>?_)
 ·have e:(((n:Nat):Int)-1).toNat=n-1:=by omega
  refine r1 rfl (by simp only[ag,and_true]<;>omega) ?_;rw[e];refine bH rfl (λh0=>?_) (λh0=>?_)
  ·refine r1 rfl (by simp only[ag,and_true]<;>omega) ?_;refine again (n-1) (by omega) ⟨by omega,?_⟩ ⟨ab,⟨rfl,an.of_eq<|congrArg SV.i<|by omega⟩,ao⟩;rw[<-hw];have:=uN (w:=xs.take n) (n:=n-1) (by rw[abP];omega) (by
    rw[abc,afI<|by omega,<-abc];exact h0)
   rw[ag1,adD<|by omega]at this;exact this
  have en:(n:Int).toNat=n:=by omega
  refine r1 rfl (by simp only[ag,and_true]<;>omega) ?_;refine aG rfl ?_;rw[en];refine an.of_eq<|congrArg (SV.ints .u64 false) ?_;rw[adz,ahL,<-hw];refine(nH ?_).symm;intro hl;rw[ai5,abP,adD hn,afI<|by omega]at hl;apply h0;rw[abc,hl];rfl
 have:n=0:=by omega
 subst this;refine r1 rfl (by simp only[ag,and_true]<;>omega) ?_;refine aG rfl<|an.of_eq<|congrArg (SV.ints .u64 false) ?_;rw[<-hw];simp[cQ]
def oo(m n:Nat)(h1:(ae m).length<2^60)(h2:(ae n).length<2^60):aL Tryz.prog 223 [.ints .u64 false<|ae m,.ints .u64 false<|ae n] (.i<|ou m n):=by
 refine bE Tryz.func223 rfl<|r0 rfl<|bH rfl (λh=>?_) (λh=>?_)
 ·refine r0 rfl<|bH rfl (λh3=>?_) (λh3=>?_)
  ·refine r0 rfl<|aG rfl<|bC ?_;have:=b6 (m:=m) (n:=n) (by omega);simp[ou,this]
  refine r0 rfl<|aG rfl<|bC ?_;have:=b6 (m:=n) (n:=m) (by omega);simp only[ou];rw[if_neg<|by omega,if_pos this]
 have hl:(ae m).length=(ae n).length:=by omega
 refine r1 rfl (by simp only[ag,and_true];omega) ?_;refine loop (λi:Nat=>[(0,.ints .u64 false<|ae m),(1,.ints .u64 false<|ae n),(5,.i<|(i:Int)-1)]) (λi=>i<=(ae m).length/\(ae m).drop i=(ae n).drop i) (λi=>i) (ae m).length ⟨by omega,?_⟩
  ⟨ab,ab,ab,ao⟩ ?_
 ·rw[ac5<|aav _,ac5<|by omega]
 rintro i⟨hi,hd⟩;refine r0 rfl<|bH rfl (λh3=>?_) (λh3=>?_)
 ·obtain⟨k,rfl⟩:∃k,i=k+1:=⟨i-1,by omega⟩;have et:(((k+1:Nat):Int)-1).toNat=k:=by omega
  refine k1 rfl (by kernel_rfl) (by simp only[ag,and_true];omega) ?_;refine bH rfl (λh4=>?_) (λh4=>?_)
  ·rw[et]at h4;refine k1 rfl (by kernel_rfl) (by simp only[ag,and_true];omega) ?_;refine bH rfl (λh5=>?_) (λh5=>?_)
   ·rw[et]at h5;refine r0 rfl<|aG rfl<|bC ?_;have:=mj (by omega) hl hd h5;simp[ou,this]
   rw[et]at h5;refine r0 rfl<|aG rfl<|bC ?_;have:=mj (by omega) hl.symm hd.symm (by omega);simp only[ou];rw[if_neg<|by omega,if_pos this]
  rw[et]at h4;refine r1 rfl (by simp only[ag,and_true];omega) ?_;refine again k (agN _) ⟨by omega,?_⟩ ⟨ab,ab,⟨rfl,an.of_eq<|congrArg SV.i<|by omega⟩,ao⟩;have e:(ae m).getD k 0=(ae n).getD k 0:=by omega
  rw[abV<|show k<(ae m).length by omega,abV<|show k<(ae n).length by omega,hd]
  congr 1
  simpa[abc,abl<|show k<(ae m).length by omega,abl<|show k<(ae n).length by omega]using e
 have:i=0:=by omega
 subst this;refine r0 rfl<|aG rfl<|bC ?_;have e:ae m=ae n:=by simpa using hd
 have:m=n:=by have:=congrArg val e;rw[bc,bc]at this;omega
 simp[ou,this]
def mo(n i:Nat):∃x:Nat,(ae n).getD i 0=x/\x<18446744073709551616:=by have:=a7 (bk n) i;exact⟨((ae n).getD i 0).toNat,by omega,by omega⟩
def D2(m n:Nat)(h1:(ae m).length<2^40)(h2:(ae n).length<2^40):aL Tryz.prog 222 [.ints .u64 false<|ae m,.ints .u64 false<|ae n] (.ints .u64 false<|ae<|m+n):=by
 refine bE Tryz.func222 rfl<|xr 2 (λa b:Nat=>[(0,.ints .u64 false<|ae a),(1,.ints .u64 false<|ae b)]) (λa b=>a+b=m+n/\(ae b).length<=(ae a).length/\(ae a).length<2^40) ?_ ?_
 ·refine r0 rfl<|bH rfl (λh=>?_) (λh=>?_)
  ·refine r0 rfl<|meet (n,m) ⟨by dsimp only;omega,by dsimp only;omega,by dsimp only;omega⟩ ⟨ab,ab,ao⟩
  refine r0 rfl<|meet (m,n) ⟨by dsimp only,by dsimp only;omega,by dsimp only;omega⟩ ⟨ab,ab,ao⟩
 rintro a b⟨hs,hl,h3⟩;rw[<-hs];refine r1 rfl (by simp only[ag,and_true]<;>omega) ?_;refine oN (λ(i:Nat)(out:List Int)(c:Nat)=>[(0,.ints .u64 false<|ae a),(1,.ints .u64 false<|ae b),(5,.ints .u64 true out),(6,.n .u64 c),(21,.i (ae a).length),(22,.i i)])
  (λi out c=>i<=(ae a).length/\gU out/\out.length=(ae a).length+1/\c<=1/\val out+c*18446744073709551616^i=val ((ae a).take i)+val ((ae b).take i)/\∀k,i<=k->out.getD k 0=0)
  (λi _ _=>(ae a).length-i) 0 (List.replicate ((ae a).length+1) 0) 0 ⟨aaJ _,ff _,by simp,by omega,by simp[val,iB],λk _=>fw _ _⟩
  ⟨ab,ab,⟨rfl,an.of_eq<|congrArg (SV.ints .u64 true)<|by congr 1⟩,ab,ab,ab,ao⟩ ?_
 rintro i out c⟨hi,hd,LU,hc,hv,hz⟩;refine r0 rfl<|bH rfl (λh=>?_) (λh=>?_)
 ·have aZ:i<(ae a).length:=by omega
  have ei:(i:Int).toNat=i:=by omega
  obtain⟨x,hx,So⟩:=mo a i;obtain⟨y,hy,Rt⟩:=mo b i;have step:∀l:aV,True->True:=λ_ h=>h;have fin:(i+1<=(ae a).length/\gU (out.set i (((x+y+c)%18446744073709551616:Nat):Int))/\(out.set i (((x+y+c)%18446744073709551616:Nat):Int)).length=(ae a).length+1/\(x+y+c)/18446744073709551616<=1/\
   val (out.set i (((x+y+c)%18446744073709551616:Nat):Int))+((x+y+c)/18446744073709551616:Nat)*18446744073709551616^(i+1)=val ((ae a).take<|i+1)+val ((ae b).take<|i+1)/\∀k,i+1<=k->(out.set i (((x+y+c)%18446744073709551616:Nat):Int)).getD k 0=0):=by
   refine⟨by omega,eK hd<|by omega,by simpa using LU,by omega,?_,λk hk=>?_⟩
   ·rw[kC _<|by omega,hz i<|aav _,aH,aH,hx,hy,aci];have q:=Nat.div_add_mod (x+y+c) 18446744073709551616;have q':(18446744073709551616:Int)*(((x+y+c)/18446744073709551616:Nat):Int)+(((x+y+c)%18446744073709551616:Nat):Int)=(x:Int)+y+c:=by omega
    generalize (((x+y+c)/18446744073709551616:Nat):Int)=q1 at*;generalize (((x+y+c)%18446744073709551616:Nat):Int)=r1 at*;generalize (18446744073709551616:Int)^i=A at*
    grind
   rw[b7,if_neg<|by omega];exact hz k (by omega)
  refine r0 rfl<|bH rfl (λh4=>?_) (λh4=>?_)
  ·refine r1 rfl (by simp only[ag,and_true,ei]<;>omega) ?_;refine cl rfl (by rw[ei,hx,hy];rfl) (fg x y c hc) rfl ?_;refine r1 rfl (by simp only[ag,and_true,ei,LU]<;>omega) ?_;exact again (i+1,out.set i (((x+y+c)%18446744073709551616:Nat):Int),(x+y+c)/18446744073709551616) (by dsimp only;omega) fin ⟨ab,ab,⟨rfl,an.of_eq<|congrArg (SV.ints .u64 true)<|by rw[ei]⟩,ab,ab,ab,ao⟩
  have F9:y=0:=by rw[abc,adb<|by omega]at hy;simp at hy;omega
  subst F9;refine r1 rfl (by simp only[ag,and_true,ei]<;>omega) ?_;refine cl rfl (by rw[ei,hx];rfl) (fg x 0 c hc) rfl ?_;refine r1 rfl (by simp only[ag,and_true,ei,LU]<;>omega) ?_;exact again (i+1,out.set i (((x+0+c)%18446744073709551616:Nat):Int),(x+0+c)/18446744073709551616) (by dsimp only;omega) fin ⟨ab,ab,⟨rfl,an.of_eq<|congrArg (SV.ints .u64 true)<|by rw[ei]⟩,ab,ab,ab,ao⟩
 have:i=(ae a).length:=by omega
 subst this;have en:(((ae a).length:Nat):Int).toNat=(ae a).length:=by omega
 rw[abm<|aav _,abm<|by omega,bc,bc]at hv;refine r1 rfl (by simp only[ag,and_true,en,LU]<;>omega) ?_;rw[en];refine bF rfl (dm (out.set (ae a).length c)<|by simp;omega) rfl ?_;refine r0 rfl<|aG rfl<|an.of_eq<|congrArg (SV.ints .u64 false) ?_;rw[dV<|eK hd<|by omega,kC _<|by omega,hz _<|aav _,Int.sub_zero,hv]
 congr 1
def su(m n:Nat)(h1:(ae m).length<2^40)(hmn:n<=m):aL Tryz.prog 224 [.ints .u64 false<|ae m,.ints .u64 false<|ae n] (.ints .u64 false<|ae<|m-n):=by
 have hln:(ae n).length<=(ae m).length:=by
  rcases abF (ae m).length (ae n).length with g|g
  ·have:=b6 g;omega
  exact g
 refine bE Tryz.func224 rfl<|r1 rfl (by simp only[ag,and_true]<;>omega) ?_;refine oN (λ(i:Nat)(out:List Int)(c:Nat)=>[(0,.ints .u64 false<|ae m),(1,.ints .u64 false<|ae n),(5,.ints .u64 true out),(6,.n .u64 c),(13,.i (ae m).length),(14,.i i)])
  (λi out c=>i<=(ae m).length/\gU out/\out.length=(ae m).length/\c<=1/\val out=val ((ae m).take i)-val ((ae n).take i)+c*18446744073709551616^i/\∀k,i<=k->out.getD k 0=0)
  (λi _ _=>(ae m).length-i) 0 (List.replicate (ae m).length 0) 0 ⟨aaJ _,ff _,by simp,by omega,by simp[val,iB],λk _=>fw _ _⟩
  ⟨ab,ab,⟨rfl,an.of_eq<|congrArg (SV.ints .u64 true)<|by congr 1⟩,ab,ab,ab,ao⟩ ?_
 rintro i out c⟨hi,hd,LU,hc,hv,hz⟩;refine r0 rfl<|bH rfl (λh=>?_) (λh=>?_)
 ·have aZ:i<(ae m).length:=by omega
  have ei:(i:Int).toNat=i:=by omega
  obtain⟨x,hx,So⟩:=mo m i;obtain⟨y,hy,Rt⟩:=mo n i;have fin:(i+1<=(ae m).length/\gU (out.set i (((x+18446744073709551616-y-c)%18446744073709551616:Nat):Int))/\(out.set i (((x+18446744073709551616-y-c)%18446744073709551616:Nat):Int)).length=(ae m).length/\(if x<y+c then 1 else 0:Nat)<=1/\
   val (out.set i (((x+18446744073709551616-y-c)%18446744073709551616:Nat):Int))=val ((ae m).take<|i+1)-val ((ae n).take<|i+1)+((if x<y+c then 1 else 0:Nat):Int)*18446744073709551616^(i+1)/\∀k,i+1<=k->(out.set i (((x+18446744073709551616-y-c)%18446744073709551616:Nat):Int)).getD k 0=0):=by
   refine⟨by omega,eK hd<|by omega,by simpa using LU,by split<;>omega,?_,λk hk=>?_⟩
   ·rw[kC _<|by omega,hz i<|aav _,aH,aH,hx,hy,aci];have q':(((x+18446744073709551616-y-c)%18446744073709551616:Nat):Int)=(x:Int)-y-c+18446744073709551616*((if x<y+c then 1 else 0:Nat):Int):=by split<;>omega
    generalize ((if x<y+c then 1 else 0:Nat):Int)=q1 at*;generalize (((x+18446744073709551616-y-c)%18446744073709551616:Nat):Int)=r1 at*;generalize (18446744073709551616:Int)^i=A at*
    grind
   rw[b7,if_neg<|by omega];exact hz k (by omega)
  refine r0 rfl<|bH rfl (λh4=>?_) (λh4=>?_)
  ·refine r1 rfl (by simp only[ag,and_true,ei]<;>omega) ?_;refine cl rfl (by rw[ei,hx,hy];rfl) (pt x y c hc) rfl ?_;refine r1 rfl (by simp only[ag,and_true,ei,LU]<;>omega) ?_;exact again (i+1,out.set i (((x+18446744073709551616-y-c)%18446744073709551616:Nat):Int),(if x<y+c then 1 else 0:Nat)) (by dsimp only;omega) fin ⟨ab,ab,⟨rfl,an.of_eq<|congrArg (SV.ints .u64 true)<|by rw[ei]⟩,ab,ab,ab,ao⟩
  have F9:y=0:=by rw[abc,adb<|by omega]at hy;simp at hy;omega
  subst F9;refine r1 rfl (by simp only[ag,and_true,ei]<;>omega) ?_;refine cl rfl (by rw[ei,hx];rfl) (pt x 0 c hc) rfl ?_;refine r1 rfl (by simp only[ag,and_true,ei,LU]<;>omega) ?_;exact again (i+1,out.set i (((x+18446744073709551616-0-c)%18446744073709551616:Nat):Int),(if x<0+c then 1 else 0:Nat)) (by dsimp only;omega) fin ⟨ab,ab,⟨rfl,an.of_eq<|congrArg (SV.ints .u64 true)<|by rw[ei]⟩,ab,ab,ab,ao⟩
 have:i=(ae m).length:=by omega
 subst this;rw[abm<|aav _,abm<|by omega,bc,bc]at hv;have cS:=ia hd;have LW:=aY hd;rw[LU]at cS;have RK:c=0:=by
  rcases abF 0 c with g|g
  ·have:c=1:=by omega
   subst this;omega
  omega
 subst RK;refine r0 rfl<|bF rfl (dm out<|by omega) rfl<|r0 rfl<|aG rfl<|an.of_eq<|congrArg (SV.ints .u64 false) ?_;rw[dV hd]
 congr 1;omega
def wrm(n:Nat):IntKind.u64.wrap (n:Int)=((n%18446744073709551616:Nat):Int):=by show(n:Int)%18446744073709551616=_;omega
def wr{n:Nat}(h:n<18446744073709551616):IntKind.u64.wrap (n:Int)=(n:Int):=by rw[wrm,adL h]
def SA{a:Int}:IntKind.u64.wrap a=a%18446744073709551616:=rfl
def yE(y:Nat):BitVec.ofInt IntKind.u64.bits (y:Int)=BitVec.ofNat 64 y:=BitVec.ofInt_natCast 64 y
def TZ(y:Nat):IntKind.u64.wrap ((BitVec.ofInt IntKind.u64.bits (y:Int)&&&BitVec.ofInt IntKind.u64.bits 4294967295).toNat:Int)=((y%4294967296:Nat):Int):=by
 have e:BitVec.ofInt IntKind.u64.bits 4294967295=BitVec.ofNat 64 (2^32-1):=rfl;rw[yE,e,wrm]
 congr 1
 have h1:(BitVec.ofNat 64 y&&&BitVec.ofNat 64 (2^32-1)).toNat=(y%2^64)&&&((2^32-1)%2^64):=by simp[BitVec.toNat_and,BitVec.toNat_ofNat]
 rw[show((2:Nat)^32-1)%2^64=2^32-1 from rfl,Nat.and_two_pow_sub_one_eq_mod]at h1;have h3:(BitVec.ofNat 64 y&&&BitVec.ofNat 64 (2^32-1)).toNat=y%2^64%2^32:=h1;show(BitVec.ofNat 64 y&&&BitVec.ofNat 64 (2^32-1)).toNat%_=_;rw[h3];omega
def Fh(y:Nat):(y:Int).fdiv (2^min (Int.toNat 32) IntKind.u64.bits)=((y/4294967296:Nat):Int):=by
 have:(2:Int)^min (Int.toNat 32) IntKind.u64.bits=4294967296:=by decide
 rw[this,aiW _<|by decide];rfl
def kg(x y:Nat)(hx:x<18446744073709551616)(hy:y<18446744073709551616):aL Tryz.prog 185 [.n .u64 x,.n .u64 y] (.bX [.n .u64 (x*y/18446744073709551616:Nat),.n .u64 (x*y%18446744073709551616:Nat)]):=by
 refine bE Tryz.func185 rfl<|r1 rfl ?_ ?_
 ·simp only[ag];decide
 obtain⟨p1,p2,p3,p4⟩:=Go.Lib.mul64_hi x y hx hy;have a1:x/4294967296<=4294967295:=by omega
 have a2:y/4294967296<=4294967295:=by omega
 have q1:=Go.Lib.half_mul_le (a:=x/4294967296) (b:=y%4294967296) (by omega) (by omega);have q2:=Go.Lib.half_mul_le (a:=x%4294967296) (b:=y/4294967296) (by omega) (by omega);have q3:=Go.Lib.half_mul_le (a:=x/4294967296) (b:=y/4294967296) (by omega) (by omega);have hq:x*y/18446744073709551616<18446744073709551616:=by rw[adw<|by decide];exact Nat.mul_lt_mul'' hx hy
 rw[<-p4]at hq;refine aG rfl ⟨congrArg (SV.n .u64) ?_,congrArg (SV.n .u64) ?_,ao⟩
 ·have wA:=wr (n:=x/4294967296*(y/4294967296)) (by omega);have wB:=wr (n:=x/4294967296*(y%4294967296)) (by omega);have wC:=wr (n:=x%4294967296*(y/4294967296)) (by omega);have wD:=wr p1;have wt:=wr p2;have w1:=wr p3;have w2:=wr (n:=x/4294967296*(y/4294967296)+(x/4294967296*(y%4294967296)+x%4294967296*(y%4294967296)/4294967296)/4294967296) (by omega);have w3:=wr hq;simp only[TZ,Fh,<-acW,<-agB,wA,wB,wC,wD,wt,w1,w2,w3];rw[p4]
 rw[<-acW,wrm]
def XE{x y w c:Nat}(hx:x<18446744073709551616)(hy:y<18446744073709551616)(hw:w<18446744073709551616)(hc:c<18446744073709551616):
 x*y/18446744073709551616+(x*y%18446744073709551616+w+0)/18446744073709551616<18446744073709551616/\
 x*y/18446744073709551616+(x*y%18446744073709551616+w+0)/18446744073709551616+((x*y%18446744073709551616+w+0)%18446744073709551616+c+0)/18446744073709551616<18446744073709551616/\
 ((x*y%18446744073709551616+w+0)%18446744073709551616+c+0)%18446744073709551616+18446744073709551616*(x*y/18446744073709551616+(x*y%18446744073709551616+w+0)/18446744073709551616+((x*y%18446744073709551616+w+0)%18446744073709551616+c+0)/18446744073709551616)=x*y+w+c:=by
 have h1:x*y<=18446744073709551615*18446744073709551615:=afT (by omega) (by omega);generalize x*y=p at*;refine⟨by omega,by omega,by omega⟩
def Cs(m n:Nat)(h1:(ae m).length<2^40)(h2:(ae n).length<2^40):aL Tryz.prog 198 [.ints .u64 false<|ae m,.ints .u64 false<|ae n] (.ints .u64 false<|ae<|m*n):=by
 refine bE Tryz.func198 rfl<|r1 rfl (by simp only[ag,and_true]<;>omega) ?_;refine kh (λ(i:Nat)(out:List Int)=>[(1,.ints .u64 false<|ae n),(5,.ints .u64 true out),(20,.ints .u64 false<|ae m),(21,.i (ae m).length),(22,.i i)])
  (λi out=>gU out/\out.length=(ae m).length+(ae n).length/\val out=val ((ae m).take i)*n/\i<=(ae m).length/\∀k,i+(ae n).length<=k->out.getD k 0=0)
  (λi _=>(ae m).length-i) 0 (List.replicate ((ae m).length+(ae n).length) 0) ⟨ff _,by simp,by simp[val,iB],by omega,λk _=>fw _ _⟩
  ⟨ab,⟨rfl,an.of_eq<|congrArg (SV.ints .u64 true)<|by congr 1⟩,ab,ab,ab,ao⟩ ?_
 rintro i out⟨hd,hl,hv,hi,hz⟩;refine r0 rfl<|bH rfl (λh=>?_) (λh=>?_)
 ·have aZ:i<(ae m).length:=by omega
  have ei:(i:Int).toNat=i:=by omega
  obtain⟨x,hx,So⟩:=mo m i;refine r1 rfl (by simp only[ag,and_true,ei]<;>omega) ?_;rw[ei,hx];refine oN (λ(k:Nat)(o:List Int)(c:Nat)=>[(1,.ints .u64 false<|ae n),(5,.ints .u64 true o),(6,.i i),(7,.n .u64 x),(8,.n .u64 c),(20,.ints .u64 false<|ae m),(21,.i (ae m).length),(22,.i i),(27,.ints .u64 false<|ae n),(28,.i (ae n).length),(29,.i k)])
   (λk o c=>gU o/\o.length=(ae m).length+(ae n).length/\c<18446744073709551616/\val o+c*18446744073709551616^(i+k)=val out+x*val ((ae n).take k)*18446744073709551616^i/\k<=(ae n).length/\∀k',i+k<=k'->o.getD k' 0=out.getD k' 0)
   (λk _ _=>(ae n).length-k) 0 out 0 ⟨hd,hl,by omega,by simp[val],by omega,λ_ _=>rfl⟩ ⟨ab,ab,ab,ab,ab,ab,ab,ab,ab,ab,ab,ao⟩ ?_
  rintro k o c⟨gd,gl,gc,gv,gk,gz⟩;refine r0 rfl<|bH rfl (λh3=>?_) (λh3=>?_)
  ·have gp:k<(ae n).length:=by omega
   have ek:(k:Int).toNat=k:=by omega
   have Z7:((i:Int)+(k:Int)).toNat=i+k:=by omega
   obtain⟨y,hy,Rt⟩:=mo n k;obtain⟨w,hw,hw2⟩:∃w:Nat,o.getD (i+k) 0=w/\w<18446744073709551616:=by have:=a7 gd<|i+k;exact⟨(o.getD (i+k) 0).toNat,by omega,by omega⟩
   obtain⟨p1,p2,p3⟩:=XE So Rt hw2 gc;refine r1 rfl (by simp only[ag,and_true,ek]<;>omega) ?_;rw[ek,hy];refine bF rfl (kg x y So Rt) rfl<|r1 rfl (by simp only[ag,and_true,Z7,gl]<;>omega) ?_;rw[Z7,hw];refine bF rfl (fg (x*y%18446744073709551616) w 0 (by decide)) rfl<|r1 rfl (by simp only[ag,and_true]<;>omega) ?_;refine bF rfl (fg ((x*y%18446744073709551616+w+0)%18446744073709551616) c 0 (by decide)) rfl<|r1 rfl (by simp only[ag,and_true,Z7,gl]<;>omega) ?_;rw[Z7];have ec:IntKind.u64.wrap (IntKind.u64.wrap (((x*y/18446744073709551616:Nat):Int)+(((x*y%18446744073709551616+w+0)/18446744073709551616:Nat):Int))+((((x*y%18446744073709551616+w+0)%18446744073709551616+c+0)/18446744073709551616:Nat):Int))=
    ((x*y/18446744073709551616+(x*y%18446744073709551616+w+0)/18446744073709551616+((x*y%18446744073709551616+w+0)%18446744073709551616+c+0)/18446744073709551616:Nat):Int):=by
    rw[<-agB,wr p1,<-agB,wr p2]
   refine again (k+1,o.set (i+k) (((((x*y%18446744073709551616+w+0)%18446744073709551616+c+0)%18446744073709551616:Nat)):Int),x*y/18446744073709551616+(x*y%18446744073709551616+w+0)/18446744073709551616+((x*y%18446744073709551616+w+0)%18446744073709551616+c+0)/18446744073709551616)
    (by dsimp only;omega) ⟨eK gd<|by omega,by simpa using gl,p2,?_,by dsimp only;omega,?_⟩ ⟨ab,ab,ab,ab,⟨rfl,an.of_eq<|congrArg (SV.n .u64) ec⟩,ab,ab,ab,ab,ab,ab,ao⟩
   ·dsimp only;have cS:i+k<o.length:=by omega
    rw[kC _ cS,hw,aH,hy,show i+(k+1)=i+k+1 by omega,aci,ad3];rw[ad3]at gv;generalize x*y/18446744073709551616+(x*y%18446744073709551616+w+0)/18446744073709551616+((x*y%18446744073709551616+w+0)%18446744073709551616+c+0)/18446744073709551616=q at*;generalize ((x*y%18446744073709551616+w+0)%18446744073709551616+c+0)%18446744073709551616=r at*;have p3':(r:Int)+18446744073709551616*(q:Int)=(x:Int)*y+w+c:=by rw[<-acW x y];clear gv hv p1 p2;generalize x*y=p at *;omega
    generalize (18446744073709551616:Int)^i=A at*;generalize (18446744073709551616:Int)^k=B at*
    grind
   dsimp only;intro k' gp;rw[b7,if_neg<|by omega];exact gz k' (by omega)
  have hk:k=(ae n).length:=by omega
  subst hk;rw[abm<|aav _,bc]at gv;have hw:o.getD (i+(ae n).length) 0=0:=by rw[gz _<|aav _];exact hz _<|aav _
  have e4:((i:Int)+((ae n).length:Int)).toNat=i+(ae n).length:=by omega
  refine r1 rfl (by simp only[ag,and_true,gl,e4]<;>omega) ?_;rw[e4];refine again (i+1,o.set (i+(ae n).length) c) (by dsimp only;omega) ⟨eK gd<|by omega,by simpa using gl,?_,by dsimp only;omega,?_⟩
   ⟨ab,ab,ab,ab,ab,ao⟩
  ·dsimp only;rw[kC _<|by omega,hw,aH,hx];generalize (18446744073709551616:Int)^(i+(ae n).length)=A at*;generalize (18446744073709551616:Int)^i=B at*
   grind
  dsimp only;intro k' gp;rw[b7,if_neg<|by omega,gz _<|by omega];exact hz _ (by omega)
 have:i=(ae m).length:=by omega
 subst this;rw[abm<|aav _,bc]at hv;refine r0 rfl<|bF rfl (dm out<|by omega) rfl<|r0 rfl<|aG rfl<|an.of_eq<|congrArg (SV.ints .u64 false) ?_;rw[dV hd,hv]
 congr 1
structure Nm where
 s:Int
 w:Option Nat
def wS:Option Nat->SV
 |none=>.nil
 |some m=>.ints .u64 false<|ae m
def oC(a:Nm):SV:=.agg [.i a.s,wS a.w]
def nv(a:Nm):Int:=match a.w with|none=>a.s|some m=>a.s*m
def a8(a:Nm):Prop:=match a.w with
 |none=> -9223372036854775808<=a.s/\a.s<=9223372036854775807
 |some m=>(a.s=1\/a.s= -1)/\9223372036854775808<=m
def fj(a:Nm)(K:Nat):Prop:=(ae (nv a).natAbs).length<=K
def Uu(a:Int):IntKind.i64.wrap a=(a+9223372036854775808)%18446744073709551616-9223372036854775808:=by have e:IntKind.i64.wrap a=if(true&&decide (a%18446744073709551616>=9223372036854775808))=true then a%18446744073709551616-18446744073709551616 else a%18446744073709551616:=rfl;rw[e];simp;split<;>omega
def uT(n:Int)(h: -9223372036854775808<=n/\n<=9223372036854775807):aL Tryz.prog 196 [.i n] (.n .u64 n.natAbs):=by
 refine bE Tryz.func196 rfl<|r0 rfl<|bH rfl (λh1=>?_) (λh1=>?_)
 ·refine kw [6] rfl rfl ao<|aG rfl<|an.of_eq<|congrArg (SV.n .u64) ?_;rw[SA,Uu];omega
 refine r0 rfl<|aG rfl<|an.of_eq<|congrArg (SV.n .u64) ?_;rw[SA];omega
def lM{f:Nat}(h0:0<f)(h1:f<18446744073709551616):ae f=[(f:Int)]:=mu h0 h1
def dF(a:Nm)(h:a8 a):aL Tryz.prog 194 [oC a] (.bX [.u<|decide (a.s<0),.ints .u64 false<|ae (nv a).natAbs]):=by
 obtain⟨s,w⟩:=a;cases w with
 |none=>
  have h: -9223372036854775808<=s/\s<=9223372036854775807:=h;refine bE Tryz.func194 rfl<|r0 rfl<|bH rfl (λh1=>?_) (λh1=>?_)
  ·have h1:s=0:=h1;subst h1;refine r0 rfl<|aG rfl ⟨rfl,cD,ao⟩
  have h1:¬s=0:=h1;refine r0 rfl<|bG rfl (uT s h) rfl<|k0 rfl (by kernel_rfl)<|Xe rfl ⟨rfl,congrArg (SV.ints .u64 false) ?_,ao⟩;exact(lM (f:=s.natAbs) (by omega)<|by omega).symm
 |some m=>
  obtain⟨hs,hm⟩:(s=1\/s= -1)/\9223372036854775808<=m:=h;have dc:ae m≠[]:=by intro e;have:=bc m;rw[e]at this;simp[val]at this;omega
  have hn:(nv ⟨s,some m⟩).natAbs=m:=by show(s*(m:Int)).natAbs=m;rcases hs with rfl|rfl<;>omega
  rw[hn];refine bE Tryz.func194 rfl<|k1 rfl (by kernel_rfl) (by simp[ag,and_true];exact dc) ?_;exact bB rfl
def rZ(neg:Bool)(m:Nat):Nm:=if m<=9223372036854775807 then⟨if neg then -(m:Int)else m,none⟩else⟨if neg then -1 else 1,some m⟩
def mY(neg:Bool)(m:Nat):nv (rZ neg m)=if neg then -(m:Int)else m:=by unfold rZ nv;cases neg<;>by_cases h:m<=9223372036854775807<;>simp[h]
def o4(neg:Bool)(m:Nat):a8 (rZ neg m):=by
 unfold rZ a8;by_cases g:m<=9223372036854775807
 ·simp[g];cases neg<;>omega
 simp only[g];exact⟨by cases neg<;>simp,by omega⟩
def gJ{m:Nat}(h:m<18446744073709551616):(ae m).length<=1:=by
 rcases ac2 m with g|g
 ·subst g;simp[cD]
 rw[lM g h];simp
def jU(neg:Bool)(m:Nat)(hl:(ae m).length<2^40):aL Tryz.prog 197 [.u neg,.ints .u64 false<|ae m] (oC<|rZ neg m):=by
 have uF:Int.toNat 0=0:=rfl;have one:(ae m).length=1->0<m/\m<18446744073709551616/\(ae m).getD 0 0=m:=by
  intro h;have h1:=bQ m;rw[h]at h1;have h2:0<m:=by
   rcases ac2 m with g|g
   ·subst g;rw[cD]at h;cases h
   exact g
  have h3:m<18446744073709551616:=by omega
  exact⟨h2,h3,by rw[lM h2 h3];rfl⟩
 refine bE Tryz.func197 rfl<|r0 rfl<|bH rfl (λh1=>?_) (λh1=>?_)
 ·have hm:m=0:=by
   rcases ac2 m with g|g
   ·exact g
   have:=eI (n:=m) (by omega);omega
  subst hm;refine r0 rfl<|aG rfl ?_;unfold rZ;rw[if_pos<|by decide];cases neg<;>exact⟨rfl,ao,ao⟩
 refine r0 rfl<|aC 14 rfl (λh2=>?_) (λh2=>?_)
 ·obtain⟨o1,o2,o3⟩:=one (by omega);refine r1 rfl (by simp[ag,and_true,uF]<;>omega) ?_;rw[uF,o3];refine aC 20 rfl (λh3=>?_) (λh3=>?_)
  ·have h3:(m:Int)<=9223372036854775807:=h3;refine r0 rfl<|nB rfl rfl rfl (λh4=>?_) (λh4=>?_)
   ·have h4:neg=true:=h4;subst h4;refine kw [27] rfl rfl (by simp only[ag,and_true,uF]<;>omega) ?_;rw[uF,o3];refine aG rfl ?_;unfold rZ;rw[if_pos<|by omega];refine⟨congrArg SV.i ?_,ao,ao⟩;rw[Uu];show _=(if true=true then -(m:Int)else m);simp[if_true];omega
   have h4:neg=false:=h4;subst h4;refine r0 rfl<|aC 33 rfl (λh5=>?_) λh5=>absurd h2 h5;refine r1 rfl (by simp[ag,and_true,uF]<;>omega) ?_;rw[uF,o3];refine bH rfl (λh6=>?_) λh6=>absurd h3 h6;refine r1 rfl (by simp only[ag,and_true,uF]<;>omega) ?_;rw[uF,o3];refine aG rfl ?_;unfold rZ;rw[if_pos<|by omega];refine⟨congrArg SV.i ?_,ao,ao⟩;show _=(if false=true then -(m:Int)else m);simp[adh,if_false]
  have h3:¬(m:Int)<=9223372036854775807:=h3;refine r0 rfl<|aC 33 rfl (λh5=>?_) λh5=>absurd h2 h5;refine r1 rfl (by simp[ag,and_true,uF]<;>omega) ?_;rw[uF,o3];refine bH rfl (λh6=>absurd h6 h3) λh6=>?_;refine r0 rfl<|nB rfl rfl rfl (λh7=>?_) (λh7=>?_)
  ·have h7:neg=true:=h7;subst h7;refine r0 rfl<|aG rfl<|an.of_eq<|by unfold rZ;rw[if_neg<|by omega];rfl
  have h7:neg=false:=h7;subst h7;refine r0 rfl<|aG rfl<|an.of_eq<|by unfold rZ;rw[if_neg<|by omega];rfl
 have afz:¬m<=9223372036854775807:=by intro g;have:=gJ (m:=m) (by omega);have h1:¬((ae m).length:Int)=0:=h1;have h2:¬((ae m).length:Int)=1:=h2;omega
 refine r0 rfl<|aC 33 rfl (λh5=>absurd h5 h2) λh5=>?_;refine r0 rfl<|nB rfl rfl rfl (λh7=>?_) (λh7=>?_)
 ·have h7:neg=true:=h7;subst h7;refine r0 rfl<|aG rfl<|an.of_eq<|by unfold rZ;rw[if_neg afz];rfl
 have h7:neg=false:=h7;subst h7;refine r0 rfl<|aG rfl<|an.of_eq<|by unfold rZ;rw[if_neg afz];rfl
def uU(a:Nm)(h:a8 a):aL Tryz.prog 112 [oC a] (.i (nv a).sign):=by
 obtain⟨s,w⟩:=a;cases w with
 |none=>
  refine bE Tryz.func112 rfl<|r0 rfl<|aG rfl<|bC ?_;show max (-1) (min 1 s)=s.sign;rcases agQ s 0 with g|g|g
  ·rw[ahe g];omega
  ·subst g;rfl
  rw[agd g];omega
 |some m=>
  obtain⟨hs,hm⟩:=h;refine bE Tryz.func112 rfl<|r0 rfl<|aG rfl<|bC ?_;show max (-1) (min 1 s)=(s*(m:Int)).sign;rcases hs with rfl|rfl
  ·rw[agd<|by omega];rfl
  rw[ahe<|by omega];rfl
def iI(a:Nm)(h:a8 a):(a.s<0↔nv a<0)/\(a.w=none->nv a=a.s):=by
 obtain⟨s,w⟩:=a;cases w with
 |none=>exact⟨Iff.rfl,λ_=>rfl⟩
 |some m=>obtain⟨hs,hm⟩:=h;refine⟨?_,λg=>by simp at g⟩;show s<0↔s*(m:Int)<0;rcases hs with rfl|rfl<;>omega
def ni(n:Nat)(h:0<n):ae n≠[]:=by have:=eI (n:=n) (by omega);intro e;rw[e]at this;cases this
def iS(a:Nm):Nm:=if a.w=none/\a.s≠ -9223372036854775808 then⟨-a.s,none⟩else rZ (!decide (a.s<0)) (nv a).natAbs
def dN(a:Nm)(h:a8 a):nv (iS a)= -nv a/\a8 (iS a):=by
 have h1:=iI a h;unfold iS;split
 ·rename_i g;obtain⟨s,w⟩:=a;obtain⟨rfl,g2⟩:w=none/\s≠ -9223372036854775808:=g;have h: -9223372036854775808<=s/\s<=9223372036854775807:=h;exact⟨rfl,show -9223372036854775808<= -s/\ -s<=9223372036854775807 by omega⟩
 refine⟨?_,o4 _ _⟩;rw[mY];by_cases g:a.s<0
 ·have:=h1.1.1 g;simp;omega
 have:=λk=>g<|h1.1.2 k;simp;omega
def pK(a:Nm)(h:a8 a){K:Nat}(hl:fj a K)(hK:K<2^40):aL Tryz.prog 172 [oC a] (oC<|iS a):=by
 have hp:=dF a h;unfold fj at hl;obtain⟨s,w⟩:=a;cases w with
 |none=>
  have h: -9223372036854775808<=s/\s<=9223372036854775807:=h;refine bE Tryz.func172 rfl<|r0 rfl<|bH rfl (λh1=>?_) (λh1=>?_)
  ·have h1:s≠ -9223372036854775808:=h1;refine r1 rfl (by simp[ag,and_true]<;>omega) ?_;refine aG rfl ?_;unfold iS;rw[if_pos ⟨rfl,h1⟩];exact⟨congrArg SV.i<|by show 0-s= -s;omega,ao,ao⟩
  have h1:¬s≠ -9223372036854775808:=h1;refine r0 rfl<|bF rfl hp rfl<|r0 rfl<|bF rfl (jU (!decide (s<0)) (nv ⟨s,none⟩).natAbs<|by omega) rfl ?_;unfold iS;rw[if_neg λg=>h1 g.2];generalize rZ (!decide ((⟨s,none⟩:Nm).s<0)) (nv ⟨s,none⟩).natAbs=r;obtain⟨s',w'⟩:=r;cases w'<;>exact r0 rfl (bB rfl)
 |some m=>obtain⟨hs,hm⟩:(s=1\/s= -1)/\9223372036854775808<=m:=h;refine bE Tryz.func172 rfl<|r1 rfl (by simp[ag,and_true];exact ni m<|by omega) ?_;refine bF rfl hp rfl<|r0 rfl<|bF rfl (jU (!decide (s<0)) (nv ⟨s,some m⟩).natAbs<|by omega) rfl ?_;unfold iS;rw[if_neg λg=>by simp at g];generalize rZ (!decide ((⟨s,some m⟩:Nm).s<0)) (nv ⟨s,some m⟩).natAbs=r;obtain⟨s',w'⟩:=r;cases w'<;>exact r0 rfl<|bB rfl
def zD(a:Nm):Nm:=if a.s<0 then iS a else a
def nC(a:Nm)(h:a8 a):nv (zD a)=(nv a).natAbs/\a8 (zD a):=by
 have h1:=iI a h;unfold zD;split
 ·rename_i g;obtain⟨e1,e2⟩:=dN a h;exact⟨by omega,e2⟩
 rename_i g;exact⟨by omega,h⟩
def On(a:Nm)(h:a8 a){K:Nat}(hl:fj a K)(hK:K<2^40):aL Tryz.prog 189 [oC a] (oC<|zD a):=by
 have hn:=pK a h hl hK;unfold zD;obtain⟨s,w⟩:=a;cases w with
 |none=>
  refine bE Tryz.func189 rfl<|r0 rfl<|bH rfl (λh1=>?_) (λh1=>?_)
  ·have h1:=h1;rw[if_pos h1];refine r0 rfl<|bF rfl hn rfl ?_;generalize iS ⟨s,none⟩=r;obtain⟨s',w'⟩:=r;cases w'<;>exact r0 rfl<|bB rfl
  have h1:=h1;rw[if_neg h1];exact r0 rfl (bB rfl)
 |some m=>
  refine bE Tryz.func189 rfl<|r0 rfl<|bH rfl (λh1=>?_) (λh1=>?_)
  ·have h1:=h1;rw[if_pos h1];refine r0 rfl<|bF rfl hn rfl ?_;generalize iS ⟨s,some m⟩=r;obtain⟨s',w'⟩:=r;cases w'<;>exact r0 rfl<|bB rfl
  have h1:=h1;rw[if_neg h1];exact r0 rfl<|bB rfl
end Go.Ai.cY
namespace Go.Ai.cY
def nY{m n K:Nat}(h1:(ae m).length<=K)(h2:(ae n).length<=K):(ae<|m+n).length<=K+1:=by
 rcases fZ (m+n)with g|g
 ·rw[g];simp
 have g1:=bQ m;have g2:=bQ n;have p1:=ij h1;have p2:=ij h2;rcases abF (K+1) (ae<|m+n).length with h|h
 ·have p3:=ij (show K+1<=(ae<|m+n).length-1 by omega);rw[aci]at p3;have:=cG K;omega
 omega
def dK(m n:Nat):(ae<|m*n).length<=(ae m).length+(ae n).length:=by
 rcases fZ (m*n)with g|g
 ·rw[g];simp
 have g1:=bQ m;have g2:=bQ n;rcases abF ((ae m).length+(ae n).length) (ae<|m*n).length with h|h
 ·have p3:=ij (show(ae m).length+(ae n).length<=(ae<|m*n).length-1 by omega);rw[ad3]at p3;have a1:(m:Int)*n<=18446744073709551616^(ae m).length*n:=fU (by omega) (by omega);have a2:(18446744073709551616:Int)^(ae m).length*n<18446744073709551616^(ae m).length*18446744073709551616^(ae n).length:=Int.mul_lt_mul_of_pos_left g2<|cG _;rw[acW]at g;omega
 exact h
def lK(a b:Nat):(ae<|a/b).length<=(ae a).length:=by
 rcases abF (ae a).length (ae<|a/b).length with g|g
 ·have:=b6 g;have:=agf a b;omega
 exact g
def length_le{m n:Nat}(h:m<=n):(ae m).length<=(ae n).length:=by
 rcases abF (ae n).length (ae m).length with g|g
 ·have:=b6 g;omega
 exact g
end Go.Ai.cY
