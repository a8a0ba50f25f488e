/- Parts of the proof of ScaleCircles (CheckRefused returns the error of the reference), at every input, with no further conditions. -/
import Derived.Test.YtdgocdadfmhjgaaGreatDoorCZAK
import Derived.Shelf.Spec.BitsCarry
set_option linter.all false
set_option maxRecDepth 100000
set_option maxHeartbeats 0
namespace Go.Ai
open Go.Proofs Go.RowKit
section
variable{m x:Int}{l:List Int}{i:Nat}
def rn{R:Option Nat->Prop}{N:Nat}{F:St->Prop}{k:List It}{l:aV}(m:Nat){k':List It}{l':aV}(h:run tt [] N m k l [] []=([],[],k',l'))(hk:AK R Tryz.prog N F k' l'):AK R Tryz.prog N F k l:=(nn hA hm h ao rfl).2.2 hk
def kH{α:Type}(l:List α)(i:Nat)(x:α):(l.set i x).length=l.length:=ae7
def uB(h:i<l.length):(l.set i x).getD i 0=x:=by rw[aca,List.getElem?_set_self h];rfl
def getD_set_ne{j:Nat}(h:i≠j):(l.set i x).getD j 0=l.getD j 0:=by rw[aca,aiX h,<-aca]
def xZ(l:List Int)(m:Int):Prop:=∀x∈l,0<=x/\x<=m
def xZ.getD(h:xZ l m)(hm:0<=m)(i:Nat):0<=l.getD i 0/\l.getD i 0<=m:=by
 rcases ac1 i l.length with g|g
 ·exact h _<|bz g
 rw[aca];simp_all
def xZ.set(h:xZ l m)(hx:0<=x/\x<=m):xZ (l.set i x) m:=by
 intro y hy;rcases aif hy with hy|rfl
 ·exact h y hy
 exact hx
def xZ.mono{n:Int}(h:xZ l m)(hn:m<=n):xZ l n:=λx hx=>⟨(h x hx).1,afE (h x hx).2 hn⟩
def xZ.rep(n:Nat)(h:0<=m):xZ (List.replicate n 0) m:=λx hx=>by rw[ahw hx];simp_all
def lh(u:bO):Int:=if u.kind=dQ then max 1 ((u.dD.length:Int)-1)else 1
def jy(u:bO)(dg:List Int)(f:EY):List Int:=dg.set u.out.toNat<|max (dg.getD u.out.toNat 0)<|dg.getD f.sh.toNat 0*lh u
def rk(us:List bO)(dg:List Int)(i:Int):List Int:=if(us.getD i.toNat default).kind=bo then dg else(us.getD i.toNat default).ah.foldl (jy<|us.getD i.toNat default) dg
def EL(us:List bO)(iT:Int):List Int->List Int->Option (List Int)
 |[],dg=>some dg
 |i::r,dg=>if iT<(rk us dg i).getD (us.getD i.toNat default).out.toNat 0 then none else EL us iT r (rk us dg i)
def iZ(us:List bO)(n i:Nat):List Int:=(us.take i).foldl (λ(dg:List Int)u=>if u.kind=bo then dg.set u.out.toNat 1 else dg)<|(List.replicate n 0).set 0 1
def te{us:List bO}{n:Nat}(h:i<us.length):iZ us n (i+1)=if us[i].kind=bo then(iZ us n i).set us[i].out.toNat 1 else iZ us n i:=by unfold iZ;rw[ac6 h,afW];rfl
def pX(us:List bO)(n:Nat):∀i,i<=us.length->(iZ us n i).length=n/\xZ (iZ us n i) 6
 |0,_=>⟨by simp[iZ],(xZ.rep n<|by decide).set<|by decide⟩
 |i+1,h=>by
  obtain⟨h1,h2⟩:=pX us n i (by omega);rw[te<|by omega];split
  ·exact⟨by rw[kH];exact h1,h2.set<|by decide⟩
  exact⟨h1,h2⟩
def js(u:bO)(dg rt:List Int)(f:EY):List Int:=rt.set u.out.toNat<|max (rt.getD u.out.toNat 0)<|rt.getD f.sh.toNat 0+dg.getD f.sh.toNat 0-1
def OO(u:bO)(dg rt:List Int):List Int:=(cH u).foldl (js u dg) rt
def uq(u:bO)(dg rt:List Int):List Int:=if u.kind=dQ then rt.set u.out.toNat (rt.getD u.out.toNat 0+dg.getD u.out.toNat 0)else rt
def sy(u:bO)(dg rt:List Int):List Int:=if u.kind=bo then rt.set u.out.toNat (rt.getD u.out.toNat 0+dg.getD (u.ah.getD 0 default).sh.toNat 0)else rt
def uX(us:List bO)(dg rt:List Int)(i:Int):List Int:=sy (us.getD i.toNat default) dg<|uq (us.getD i.toNat default) dg<|OO (us.getD i.toNat default) dg rt
def Jm(us:List bO)(iT:Int)(dg:List Int):List Int->List Int->Option (List Int)
 |[],rt=>some rt
 |i::r,rt=>if iT<(uX us dg rt i).getD (us.getD i.toNat default).out.toNat 0 then none else Jm us iT dg r (uX us dg rt i)
def Ba(us:List bO)(n:Nat):Bool:=match EL us 6 (az us) (iZ us n us.length)with
 |none=>false
 |some dg=>(Jm us 6 dg (az us)<|List.replicate n 0).isSome
def FB:∀{us:List bO}(k:Nat){out:List Int},out.Nodup->(∀x∈out,0<=x/\x<us.length)->∀x∈ee us k out,0<=x/\x<us.length
 |us,0,out,_,h=>h
 |us,k+1,out,hn,h=>by
  rw[ee];split
  ·exact h
  rename_i g;obtain⟨h1,h2⟩:=wz hn h g;exact FB k h1 h2
def Am:∀{us:List bO}(k:Nat){out:List Int},out.Nodup->(∀x∈out,0<=x/\x<us.length)->(ee us k out).Nodup
 |us,0,out,hn,_=>hn
 |us,k+1,out,hn,h=>by
  rw[ee];split
  ·exact hn
  rename_i g;obtain⟨h1,h2⟩:=wz hn h g;exact Am k h1 h2
def gi{us:List bO}:∀x∈az us,0<=x/\x<us.length:=FB _ adn (by simp)
def wF(us:List bO):(az us).Nodup:=Am _ adn (by simp)
def u5(us:List bO):(az us).length<=us.length:=wE (wF us) gi
def Rh(p:kx)(h:ye p)(n:Nat)(hn:p.n=n)(No:0<n)(UH:n<=100)(hv:∀u∈p.aa,jc p.n u):aL Tryz.prog 139 [bh p,.i 6] (.u<|Ba p.aa n):=by
 have hl:=h.aa;refine bE Tryz.func139 rfl<|b8 4 [(1,.i 6),(2,.box true<|bh p),(5,.ints .i64 true<|iZ p.aa n p.aa.length)] True ?_ λ_=>?_
 ·refine r1 rfl (by simp only[ag,and_true,agc]<;>omega) ?_;refine loop (λi:Nat=>[(1,.i 6),(2,.box true<|bh p),(5,.ints .i64 true<|iZ p.aa n i),(6,.i i)]) (λi=>i<=p.aa.length) (λi=>p.aa.length-i) 0 (abC _) ⟨ab,ab,⟨rfl,an.of_eq<|congrArg (SV.ints .i64 true)<|by rw[hn];rfl⟩,ab,ao⟩ ?_;intro i hi;refine r0 rfl<|bH rfl (λh1=>?_) (λh1=>?_)
  ·have aZ:i<p.aa.length:=by omega
   have ei:(i:Int).toNat=i:=by omega
   have eg:p.aa.getD i default=p.aa[i]:=aw aZ;have eR:=te (n:=n) aZ;have hu:=(hv _<|ab9 aZ).out;have hlen:=(pX p.aa n i hi).1;refine r1 rfl (by simp only[ag,and_true,ei]<;>omega) ?_;rw[ei,eg];refine bH rfl (λh2=>?_) (λh2=>?_)
   ·have h2:p.aa[i].kind=bo:=h2;rw[if_pos h2]at eR;refine r1 rfl (by simp only[ag,and_true,ei,eg,hlen]<;>omega) ?_;exact again (i+1) (by omega) (by omega) ⟨ab,ab,⟨rfl,an.of_eq<|congrArg (SV.ints .i64 true)<|by rw[eR,ei,eg]⟩,ab,ao⟩
   have h2:¬p.aa[i].kind=bo:=h2;rw[if_neg h2]at eR;refine r1 rfl (by simp only[ag,and_true,ei,eg,hlen]<;>omega) ?_;exact again (i+1) (by omega) (by omega) ⟨ab,ab,⟨rfl,an.of_eq<|congrArg (SV.ints .i64 true) eR.symm⟩,ab,ao⟩
  have:i=p.aa.length:=by omega
  subst this;refine r0 rfl<|aP ao ⟨ab,ab,ab,ao⟩
 have LU:=u5 p.aa;refine EM 2 (λdg:List Int=>[(1,.i 6),(2,.box true<|bh p),(5,.ints .i64 true dg),(7,.ints .i64 true<|az p.aa)]) (λdg=>EL p.aa 6 (az p.aa) (iZ p.aa n p.aa.length)=some dg/\dg.length=n/\xZ dg 6) ?_ ?_
 ·refine r0 rfl<|bF rfl (sG p h<|jc.fdd hv) rfl<|r0 rfl<|kh (λ(k:Nat)(dg:List Int)=>[(1,.i 6),(2,.box true<|bh p),(5,.ints .i64 true dg),(7,.ints .i64 true<|az p.aa),(8,.i k)])
   (λk dg=>k<=(az p.aa).length/\EL p.aa 6 (az p.aa) (iZ p.aa n p.aa.length)=EL p.aa 6 ((az p.aa).drop k) dg/\dg.length=n/\xZ dg 6)
   (λk _=>(az p.aa).length-k) 0 (iZ p.aa n p.aa.length) ⟨abC _,rfl,pX p.aa n _<|abZ _⟩ ⟨ab,ab,ab,ab,ab,ao⟩ ?_
  rintro k dg⟨hk,hf,Es,Wy⟩;refine r0 rfl<|bH rfl (λh1=>?_) (λh1=>?_)
  ·have gp:k<(az p.aa).length:=by omega
   have ek:(k:Int).toNat=k:=by omega
   have Dm:(az p.aa).getD k 0=(az p.aa)[k]:=aw gp;obtain⟨o1,o2⟩:=gi _<|ab9 gp;rw[ac4 gp,EL]at hf;obtain⟨o,eo⟩:∃o,(az p.aa)[k]=o:=⟨_,rfl⟩;rw[eo]at Dm o1 o2 hf;have dz:p.aa.getD o.toNat default∈p.aa:=bz (by omega);unfold rk at hf;obtain⟨u,eu⟩:∃u,p.aa.getD o.toNat default=u:=⟨_,rfl⟩;rw[eu]at dz hf;have hu:=hv _ dz;have huo:=hu.out;have CS:=(h.unit _ dz).ah;have hmul:1<=lh u/\lh u<=12:=by
    unfold lh;split
    ·rename_i g;have:=(hu.table g).2.2;omega
    omega
   refine rn 3 rfl<|EM 2 (λnj:List Int=>[(1,.i 6),(2,.box true<|bh p),(5,.ints .i64 true nj),(7,.ints .i64 true<|az p.aa),(8,.i k),(9,.box true<|dM u)])
    (λnj=>nj=(if u.kind=bo then dg else u.ah.foldl (jy u) dg)/\nj.length=n/\xZ nj 72/\∀j,j≠u.out.toNat->nj.getD j 0=dg.getD j 0) ?_ ?_
   ·refine k1 rfl (by kernel_rfl) (by simp only[ag,and_true,ek,Dm]<;>omega) ?_;rw[ek,Dm,eu];by_cases hkI:u.kind=bo
    ·refine loop (λj:Nat=>[(1,.i 6),(2,.box true<|bh p),(5,.ints .i64 true dg),(7,.ints .i64 true<|az p.aa),(8,.i k),(9,.box true<|dM u),(10,.i 0)]) (λ_=>True) (λ_=>0) 0 ao ⟨ab,ab,ab,ab,ab,ab,ab,ao⟩ ?_;intro j _;refine r0 rfl<|aC 65 rfl (λh2=>?_) (λh2=>?_)
     ·refine r0 rfl<|bH rfl (λh3=>absurd hkI h3) λh3=>?_;refine r0 rfl<|meet dg ⟨by rw[if_pos hkI],Es,Wy.mono<|by decide,λ_ _=>rfl⟩ ⟨ab,ab,ab,ab,ab,ab,ao⟩
     refine r0 rfl<|meet dg ⟨by rw[if_pos hkI],Es,Wy.mono<|by decide,λ_ _=>rfl⟩ ⟨ab,ab,ab,ab,ab,ab,ao⟩
    rw[if_neg hkI];refine kh (λ(j:Nat)(nj:List Int)=>[(1,.i 6),(2,.box true<|bh p),(5,.ints .i64 true nj),(7,.ints .i64 true<|az p.aa),(8,.i k),(9,.box true<|dM u),(10,.i j)])
     (λj nj=>j<=u.ah.length/\u.ah.foldl (jy u) dg=(u.ah.drop j).foldl (jy u) nj/\nj.length=n/\xZ nj 72/\(∀i,i≠u.out.toNat->nj.getD i 0=dg.getD i 0)/\(j=0\/u.kind≠dQ->xZ nj 6))
     (λj _=>u.ah.length-j) 0 dg ⟨abC _,rfl,Es,Wy.mono<|by decide,λ_ _=>rfl,λ_=>Wy⟩ ⟨ab,ab,ab,ab,ab,ab,ab,ao⟩ ?_
    rintro j nj⟨hj,UP,Sq,dO,Yl,hb6⟩;refine r0 rfl<|aC 65 rfl (λh2=>?_) (λh2=>?_)
    ·refine r0 rfl<|bH rfl (λh3=>?_) λh3=>absurd hkI h3;have CX:j<u.ah.length:=by omega
     have ej:(j:Int).toNat=j:=by omega
     have egj:u.ah.getD j default=u.ah[j]:=aw CX;rw[ac4 CX,aeK]at UP;have UQ:=hu.feed _<|ab9 CX;have hx6:0<=nj.getD u.ah[j].sh.toNat 0/\nj.getD u.ah[j].sh.toNat 0*lh u<=72:=by
      have afB:=dO.getD (by decide) u.ah[j].sh.toNat;refine⟨afB.1,?_⟩;by_cases hT:u.kind=dQ
      ·have:=(hu.table hT).1;have h6:=(hb6<|.inl<|by omega).getD (by decide) u.ah[j].sh.toNat
       calc nj.getD u.ah[j].sh.toNat 0*lh u<=6*12:=ai6 h6.2 hmul.2 (by omega) (by decide)
        _<=72:=by decide
      unfold lh;rw[if_neg hT,agB];exact afB.2
     have LW:0<=nj.getD u.ah[j].sh.toNat 0*lh u:=adT hx6.1 (by omega);have ho:=dO.getD (by decide) u.out.toNat;have key:∀d:Int,d=nj.getD u.ah[j].sh.toNat 0*lh u->nj.set u.out.toNat (max (nj.getD u.out.toNat 0) d)=jy u nj u.ah[j]:=by rintro d rfl;rfl
     refine r1 rfl (by simp only[ag,and_true,ej,egj,Sq]<;>omega) ?_;rw[ej,egj];have V3:∀d:Int,d=nj.getD u.ah[j].sh.toNat 0*lh u->(j+1<=u.ah.length/\u.ah.foldl (jy u) dg=(u.ah.drop<|j+1).foldl (jy u) (nj.set u.out.toNat<|max (nj.getD u.out.toNat 0) d)/\(nj.set u.out.toNat<|max (nj.getD u.out.toNat 0) d).length=n/\xZ (nj.set u.out.toNat<|max (nj.getD u.out.toNat 0) d) 72/\(∀i,i≠u.out.toNat->(nj.set u.out.toNat<|max (nj.getD u.out.toNat 0) d).getD i 0=dg.getD i 0)/\(j+1=0\/u.kind≠dQ->xZ (nj.set u.out.toNat<|max (nj.getD u.out.toNat 0) d) 6)):=by
      intro d hd;refine⟨by omega,by rw[key d hd];exact UP,by rw[kH];exact Sq,dO.set<|by omega,λi hi=>?_,λhh=>?_⟩
      ·rw[getD_set_ne λe=>hi e.symm];exact Yl i hi
      have Pn:u.kind≠dQ:=hh.resolve_left (by omega);have h6:=hb6<|.inr Pn;refine h6.set ?_;have h7:=h6.getD (by decide) u.out.toNat;have h8:=h6.getD (by decide) u.ah[j].sh.toNat;rw[hd];unfold lh;rw[if_neg Pn,agB];omega
     refine bH rfl (λh4=>?_) (λh4=>?_)
     ·have h4:u.kind=dQ:=h4;have ht:=hu.table h4;have Kr:sN false 1 ((u.dD.length:Int)-1)=lh u:=by unfold lh;rw[if_pos h4];rfl
      refine k1 rfl (by kernel_rfl) (by simp only[ag,and_true,Kr,Sq]<;>omega) ?_;refine again (j+1,nj.set u.out.toNat<|max (nj.getD u.out.toNat 0)<|nj.getD u.ah[j].sh.toNat 0*lh u) (by dsimp only;omega) (V3 _ rfl) ⟨ab,ab,⟨rfl,an.of_eq<|congrArg (SV.ints .i64 true) ?_⟩,ab,ab,ab,ab,ao⟩;rw[Kr];rfl
     have h4:¬u.kind=dQ:=h4;have UY:nj.getD u.ah[j].sh.toNat 0=nj.getD u.ah[j].sh.toNat 0*lh u:=by unfold lh;rw[if_neg h4,agB]
     refine k1 rfl (by kernel_rfl) (by simp only[ag,and_true,Sq]<;>omega) ?_;exact again (j+1,nj.set u.out.toNat<|max (nj.getD u.out.toNat 0)<|nj.getD u.ah[j].sh.toNat 0) (by dsimp only;omega) (V3 _ UY) ⟨ab,ab,ab,ab,ab,ab,ab,ao⟩
    have:j=u.ah.length:=by omega
    subst this;rw[aey]at UP;refine r0 rfl<|meet nj ⟨UP.symm,Sq,dO,Yl⟩ ⟨ab,ab,ab,ab,ab,ab,ao⟩
   rintro nj⟨Pu,Sq,dO,Yl⟩;rw[<-Pu]at hf;refine r1 rfl (by simp only[ag,and_true,Sq]<;>omega) ?_;refine bH rfl (λh2=>?_) (λh2=>?_)
   ·have h2:(6:Int)<nj.getD u.out.toNat 0:=h2;rw[if_pos h2]at hf;refine r0 rfl<|aG rfl ?_;show false=Ba p.aa n;unfold Ba;rw[hf]
   have h2:¬(6:Int)<nj.getD u.out.toNat 0:=h2;rw[if_neg h2]at hf;refine r1 rfl (by simp only[ag,and_true]<;>omega) ?_;refine again (k+1,nj) (by dsimp only;omega) ⟨by dsimp only;omega,hf,Sq,?_⟩ ⟨ab,ab,ab,ab,ab,ao⟩;intro x hx;obtain⟨i,hi,rfl⟩:=aix.1 hx;have e:nj[i]=nj.getD i 0:=(aw hi).symm;refine⟨(dO _ hx).1,?_⟩;rw[e];by_cases hio:i=u.out.toNat
   ·rw[hio];omega
   rw[Yl i hio];exact(Wy.getD (by decide) i).2
  refine r0 rfl ?_;rw[adt<|by omega]at hf;exact meet dg ⟨hf,Es,Wy⟩ ⟨ab,ab,ab,ab,ao⟩
 rintro dg⟨hf,Es,Wy⟩;have hL:Ba p.aa n=(Jm p.aa 6 dg (az p.aa)<|List.replicate n 0).isSome:=by unfold Ba;rw[hf]
 refine r1 rfl (by simp only[ag,and_true]<;>omega) ?_;refine kh (λ(k:Nat)(rt:List Int)=>[(1,.i 6),(2,.box true<|bh p),(5,.ints .i64 true dg),(7,.ints .i64 true<|az p.aa),(12,.ints .i64 true rt),(13,.i k)])
  (λk rt=>k<=(az p.aa).length/\Ba p.aa n=(Jm p.aa 6 dg ((az p.aa).drop k) rt).isSome/\rt.length=n/\xZ rt 6)
  (λk _=>(az p.aa).length-k) 0 (List.replicate n 0) ⟨abC _,hL,by simp,xZ.rep n<|by decide⟩ ⟨ab,ab,ab,ab,⟨rfl,an.of_eq<|congrArg (SV.ints .i64 true)<|by rw[hn];rfl⟩,ab,ao⟩ ?_
 rintro k rt⟨hk,hf,Nl,hrb⟩;refine r0 rfl<|bH rfl (λh1=>?_) (λh1=>?_)
 ·have gp:k<(az p.aa).length:=by omega
  have ek:(k:Int).toNat=k:=by omega
  have Dm:(az p.aa).getD k 0=(az p.aa)[k]:=aw gp;obtain⟨o1,o2⟩:=gi _<|ab9 gp;rw[ac4 gp,Jm]at hf;obtain⟨o,eo⟩:∃o,(az p.aa)[k]=o:=⟨_,rfl⟩;rw[eo]at Dm o1 o2 hf;have dz:p.aa.getD o.toNat default∈p.aa:=bz (by omega);unfold uX at hf;obtain⟨u,eu⟩:∃u,p.aa.getD o.toNat default=u:=⟨_,rfl⟩;rw[eu]at dz hf;have hu:=hv _ dz;have huo:=hu.out;have huU:=h.unit _ dz;have CS:=huU.ah;have Kq:(cH u).length<=u.ah.length:=by unfold cH;split<;>simp
  have aeV:∀f∈cH u,f∈u.ah:=by
   intro f hf;unfold cH at hf;split at hf
   ·exact afT hf
   exact hf
  have aby:∀j,j≠u.out.toNat->∀l:List Int,∀x,(l.set u.out.toNat x).getD j 0=l.getD j 0:=λj hj l x=>getD_set_ne λe=>hj e.symm;refine rn 3 rfl<|EM 3 (λaG:List Int=>[(1,.i 6),(2,.box true<|bh p),(5,.ints .i64 true dg),(7,.ints .i64 true<|az p.aa),(12,.ints .i64 true aG),(13,.i k),(14,.box true<|dM u)])
   (λaG=>aG=OO u dg rt/\aG.length=n/\xZ aG 100/\∀j,j≠u.out.toNat->aG.getD j 0=rt.getD j 0) ?_ ?_
  ·refine k1 rfl (by kernel_rfl) (by simp only[ag,and_true,ek,Dm]<;>omega) ?_;rw[ek,Dm,eu];refine bF rfl (wJ u huU (λg=>by have:=(hu.int g).1;omega)) rfl ?_;refine r0 rfl<|kh (λ(j:Nat)(aG:List Int)=>[(1,.i 6),(2,.box true<|bh p),(5,.ints .i64 true dg),(7,.ints .i64 true<|az p.aa),(12,.ints .i64 true aG),(13,.i k),(14,.box true<|dM u),(15,.bT false 2 default pd<|cH u),(16,.i j)])
    (λj aG=>j<=(cH u).length/\OO u dg rt=((cH u).drop j).foldl (js u dg) aG/\aG.length=n/\xZ aG (6+6*j)/\(∀i,i≠u.out.toNat->aG.getD i 0=rt.getD i 0))
    (λj _=>(cH u).length-j) 0 rt ⟨abC _,rfl,Nl,hrb.mono<|by decide,λ_ _=>rfl⟩ ⟨ab,ab,ab,ab,ab,ab,ab,ab,ab,ao⟩ ?_
   rintro j aG⟨hj,UP,Sq,dO,Yl⟩;have anB:(cH u).length<=8:=by
    rcases hu.kind with g|g|g
    ·have:=(hu.int g).1;omega
    ·have:=(hu.add g).2.1;omega
    have:=(hu.table g).1;omega
   refine r0 rfl<|bH rfl (λh2=>?_) (λh2=>?_)
   ·have CX:j<(cH u).length:=by omega
    have ej:(j:Int).toNat=j:=by omega
    have egj:(cH u).getD j default=(cH u)[j]:=aw CX;rw[ac4 CX,aeK]at UP;have UQ:=hu.feed _<|aeV _<|ab9 CX;have hb6:xZ aG 54:=dO.mono (by omega);have hx:=dO.getD (by omega) (cH u)[j].sh.toNat;have ho:=dO.getD (by omega) u.out.toNat;have hd:=Wy.getD (by decide) (cH u)[j].sh.toNat;refine k1 rfl (by kernel_rfl) (by simp only[ag,and_true,ej,egj,Sq,Es]<;>omega) ?_;refine again (j+1,js u dg aG (cH u)[j]) (by dsimp only;omega) ⟨by dsimp only;omega,UP,by unfold js;rw[kH];exact Sq,?_,λi hi=>?_⟩ ⟨ab,ab,ab,ab,⟨rfl,an.of_eq<|congrArg (SV.ints .i64 true) ?_⟩,ab,ab,ab,ab,ao⟩
    ·unfold js;refine xZ.set (dO.mono<|by dsimp only;omega) ?_;dsimp only;omega
    ·unfold js;rw[aby i hi];exact Yl i hi
    rw[ej,egj];rfl
   have:j=(cH u).length:=by omega
   subst this;rw[aey]at UP;refine r0 rfl<|meet aG ⟨UP.symm,Sq,dO.mono<|by omega,Yl⟩ ⟨ab,ab,ab,ab,ab,ab,ab,ao⟩
  rintro pA⟨e1,l1,b1,g1⟩;rw[<-e1]at hf;have hdo:=Wy.getD (by decide) u.out.toNat;have lU:=b1.getD (by decide) u.out.toNat;refine EM 1 (λaG:List Int=>[(1,.i 6),(2,.box true<|bh p),(5,.ints .i64 true dg),(7,.ints .i64 true<|az p.aa),(12,.ints .i64 true aG),(13,.i k),(14,.box true<|dM u)])
   (λaG=>aG=uq u dg pA/\aG.length=n/\xZ aG 106/\∀j,j≠u.out.toNat->aG.getD j 0=rt.getD j 0) ?_ ?_
  ·refine r0 rfl<|bH rfl (λh2=>?_) (λh2=>?_)
   ·have h2:u.kind=dQ:=h2;refine k1 rfl (by kernel_rfl) (by simp only[ag,and_true,l1,Es]<;>omega) ?_;refine meet (uq u dg pA) ⟨rfl,?_,?_,λj hj=>?_⟩ ⟨ab,ab,ab,ab,⟨rfl,an.of_eq<|congrArg (SV.ints .i64 true)<|by unfold uq;rw[if_pos h2]⟩,ab,ab,ao⟩
    ·unfold uq;rw[if_pos h2,kH];exact l1
    ·unfold uq;rw[if_pos h2];exact(b1.mono<|by decide).set (by omega)
    unfold uq;rw[if_pos h2,aby j hj];exact g1 j hj
   have h2:¬u.kind=dQ:=h2;refine r0 rfl<|meet pA ⟨?_,l1,b1.mono<|by decide,g1⟩ ⟨ab,ab,ab,ab,ab,ab,ab,ao⟩;unfold uq;rw[if_neg h2]
  rintro rt2⟨e2,l2,b2,g2⟩;rw[<-e2]at hf;have sc:=b2.getD (by decide) u.out.toNat;refine EM 1 (λaG:List Int=>[(1,.i 6),(2,.box true<|bh p),(5,.ints .i64 true dg),(7,.ints .i64 true<|az p.aa),(12,.ints .i64 true aG),(13,.i k),(14,.box true<|dM u)])
   (λaG=>aG=sy u dg rt2/\aG.length=n/\xZ aG 112/\∀j,j≠u.out.toNat->aG.getD j 0=rt.getD j 0) ?_ ?_
  ·refine r0 rfl<|bH rfl (λh2=>?_) (λh2=>?_)
   ·have h2:u.kind=bo:=h2;have RH:=(hu.int h2).1;have uF:Int.toNat 0=0:=rfl;have Er:=hu.feed _<|bz (d:=default)<|show 0<u.ah.length by omega
    have CZ:=Wy.getD (by decide) (u.ah.getD 0 default).sh.toNat;refine k1 rfl (by kernel_rfl) (by simp only[ag,and_true,l2,Es,uF]<;>omega) ?_;refine meet (sy u dg rt2) ⟨rfl,?_,?_,λj hj=>?_⟩ ⟨ab,ab,ab,ab,⟨rfl,an.of_eq<|congrArg (SV.ints .i64 true)<|by unfold sy;rw[if_pos h2];rfl⟩,ab,ab,ao⟩
    ·unfold sy;rw[if_pos h2,kH];exact l2
    ·unfold sy;rw[if_pos h2];exact(b2.mono<|by decide).set (by omega)
    unfold sy;rw[if_pos h2,aby j hj];exact g2 j hj
   have h2:¬u.kind=bo:=h2;refine r0 rfl<|meet rt2 ⟨?_,l2,b2.mono<|by decide,g2⟩ ⟨ab,ab,ab,ab,ab,ab,ab,ao⟩;unfold sy;rw[if_neg h2]
  rintro rt3⟨e3,l3,b3,g3⟩;rw[<-e3]at hf;refine r1 rfl (by simp only[ag,and_true,l3]<;>omega) ?_;refine bH rfl (λh2=>?_) (λh2=>?_)
  ·have h2:(6:Int)<rt3.getD u.out.toNat 0:=h2;rw[if_pos h2]at hf;refine r0 rfl<|aG rfl ?_;show false=Ba p.aa n;rw[hf];rfl
  have h2:¬(6:Int)<rt3.getD u.out.toNat 0:=h2;rw[if_neg h2]at hf;refine r1 rfl (by simp only[ag,and_true]<;>omega) ?_;refine again (k+1,rt3) (by dsimp only;omega) ⟨by dsimp only;omega,hf,l3,?_⟩ ⟨ab,ab,ab,ab,ab,ab,ao⟩;intro x hx;obtain⟨i,hi,rfl⟩:=aix.1 hx;have e:rt3[i]=rt3.getD i 0:=(aw hi).symm;refine⟨(b3 _ hx).1,?_⟩;rw[e];by_cases hio:i=u.out.toNat
  ·rw[hio];omega
  rw[g3 i hio];exact(hrb.getD (by decide) i).2
 rw[adt<|by omega]at hf;refine r0 rfl<|aG rfl ?_;show true=Ba p.aa n;rw[hf];rfl
end
structure Sys where
 names:List bK
 aW:List (List cN)
 start:List hO
def age(s:Sys):SV:=.agg [.strs false s.names,oe false s.aW,.bT false 2 default fP s.start]
noncomputable def CL(l:List (List cN)):Int:=aK vh l
def HE(s:Sys)(sh:List (List cN)){V K:Nat}(h:∀p∈sh++s.aW,(∀u∈p,Ea V K u)/\p.length<2^50)(hl:sh.length+s.aW.length<2^40)(hK:K<2^36):
 aL Tryz.prog 75 [age s,oe false sh] (.i<|CL<|sh++s.aW):=by
 refine bE Tryz.func75 rfl<|k1 rfl (by kernel_rfl) (by simp[ag,and_true,len,acZ];refine⟨λx=>rfl,λx=>rfl,?_,λx=>rfl,λx=>rfl,?_⟩<;>omega) ?_;refine loop (λi:Nat=>[(5,oe true<|sh++s.aW),(6,.i i)]) (λi=>i<=(sh++s.aW).length/\CL (sh++s.aW)=CL ((sh++s.aW).drop i)) (λi=>(sh++s.aW).length-i) 0 ⟨abC _,rfl⟩
  ⟨⟨rfl,rfl,rfl,by rw[c8,ac9];exact jd.refl _⟩,ab,ao⟩ ?_
 rintro i⟨hi,hf⟩;have hlen:(sh++s.aW).length=sh.length+s.aW.length:=acW;refine r0 rfl<|bH rfl (λh1=>?_) (λh1=>?_)
 ·have aZ:i<(sh++s.aW).length:=by omega
  have ei:(i:Int).toNat=i:=by omega
  have eg:(sh++s.aW).getD i default=(sh++s.aW)[i]:=aw aZ;unfold CL at hf⊢;rw[dp _ aZ]at hf;obtain⟨g1,g2⟩:=h _<|ab9 aZ;refine r1 rfl (by simp[ag,and_true,ei]<;>omega) ?_;refine cl rfl (by rw[ei,eg];rfl) (Bb (sh++s.aW)[i] g1 g2 hK) rfl ?_;refine r0 rfl<|bH rfl (λh2=>?_) (λh2=>?_)
  ·have h2:vh (sh++s.aW)[i]≠0:=h2;rw[if_pos h2]at hf;refine r0 rfl<|aG rfl<|an.of_eq<|congrArg SV.i hf.symm
  have h2:¬vh (sh++s.aW)[i]≠0:=h2;rw[if_neg h2]at hf;refine r1 rfl (by simp[ag,and_true]<;>omega) ?_;exact again (i+1) (by omega) ⟨by omega,hf⟩ ⟨ab,ab,ao⟩
 refine r0 rfl<|aG rfl<|bC ?_;rw[hf,adt<|by omega];rfl
def tA(l:List (List cN)):bx (l.map λp=>(de false p).den)=true:=tK (by intro x hx;obtain⟨p,-,rfl⟩:=ac0.1 hx;rfl)
def Zf(aW:List (List cN))(p:List cN){V K L:Nat}(hp:∀u∈p,Ea V L u)(iD:p.length<2^40)(h:agD V K aW p)(hr:aW.length<2^20)(hV:aW.length<V)(hV2:V<2^20)(hK:K+K+1<2^34)(hL:L+3<2^34):
 Ot Tryz.prog 148 (oe true aW) [de false p] (de false<|mN aW p):=by
 refine Ot.of (sz:=1) (X:=aW.map λp=>(de false p).den) rfl (tA aW) rfl (by simp) λhd F1 o Kp=>?_;rw[acZ]at Kp;refine vD (fn:=Tryz.f148) Tryz.func148 rfl rfl rfl rfl rfl<|r0 rfl<|bF rfl (pY p 0 (V:=V) (K:=K) (L:=L) hp h.d0 (by omega) iD hK hL) rfl<|r0 rfl<|loop (λi:Nat=>[(0,.pv (·=hd)),(1000000,.abs<|JL (.list .own 1 (aW.map λp=>(de false p).den)) hd F1 o),(1,de false p),(5,de false<|kY aW p i),(6,.i i)]) (λi=>i<=aW.length) (λi=>aW.length-i) 0 (abC _) ⟨ab,rfl,ab,ab,ab,ao⟩ ?_;intro i hi;refine r0 rfl<|ex rfl rfl rfl (abb (P:=Tryz.prog) rfl rfl Tryz.underlying141 Kp) rfl<|r0 rfl<|bH rfl (λh1=>?_) (λh1=>?_)
 ·have aZ:i<aW.length:=by omega
  have e1:(i:Int)+1=((i+1:Nat):Int):=by omega
  have eg:aW.getD i []=aW[i]:=aw aZ;have Pu:=h.d i aZ;obtain⟨r1',r2'⟩:=h.r i aZ;have ha:=h.a i aZ;have hm:=h.m i aZ;have IK:(kY aW p i++lI (uf p<|i+1) (aW.getD i [])).length<2^40:=by
   rw[acW];have h1:(kY aW p i).length<2^30:=by
    cases i with
    |zero=>exact h.d0.norm.2
    |succ i=>exact(h.a i<|by omega).norm.2
   have h2:=hm.norm.2;unfold lI;omega
  rw[acW]at IK;refine r1 rfl (by simp[ag,and_true]<;>omega) ?_;refine cd rfl (by rw[e1];rfl) (pY p (i+1) (V:=V) (K:=K) (L:=L) hp Pu (by omega) iD hK hL) rfl ?_;refine r0 rfl<|exd rfl rfl rfl (abj (P:=Tryz.prog) (m:=i) rfl Tryz.underlying141 (j7 hA rfl) aZ Kp) rfl<|ldj rfl rfl (T5 (y:=(de false<|aW.getD i []).den) (j7 hA rfl) (tA aW) (by rw[af1,acL aZ,eg];rfl) rfl) rfl rfl ?_;refine bG rfl (oZ (uf p<|i+1) (aW.getD i []) (V:=V) (K:=K) (L:=K) (M:=K) Pu.norm.1 r1' hm (by have:=Pu.norm.2;unfold uf;omega) r2' (by omega) hK<|by omega) rfl ?_;refine bG rfl (l0 (kY aW p i) (lI (uf p<|i+1)<|aW.getD i []) (V:=V) (K:=K) ha IK hK) rfl<|k1 rfl (by kernel_rfl) (by simp[ag,and_true]<;>omega) ?_;exact again (i+1) (by omega) (by omega) ⟨ab,rfl,ab,ab,ab,ao⟩
 have:i=aW.length:=by omega
 subst this;refine r0 rfl<|Xf [(4,de false<|kY aW p aW.length),(1000000,.abs<|JL (.list .own 1 (aW.map λp=>(de false p).den)) hd F1 o)] ⟨⟨rfl,rfl,.le<|an.refl _⟩,rfl,ao⟩ rfl (an.refl _) ⟨ab,ao⟩
def Hi(s:bK):aL Tryz.prog 143 [.s s] (fP ⟨s,s⟩):=by refine bE Tryz.func143 rfl<|r0 rfl<|bB rfl
def jA(us:List bO)(i:Nat):Nat:=c7<|us.take i
def tT{us:List bO}{i:Nat}(h:i<us.length):jA us (i+1)=jA us i+if us[i].kind=bo then 1 else 0:=by unfold jA c7;rw[ac6 h,ahj];by_cases g:us[i].kind=bo<;>simp
def Ij(us:List bO)(i:Nat):jA us i<=c7 us:=List.Sublist.countP_le<|List.take_sublist _ _
def B1(n m:Nat):List (List cN):=(List.replicate n []).set 0 (vN 0 m)
def G0(us:List bO)(n m:Nat):Nat->List (List cN)
 |0=>B1 n m
 |i+1=>if(us.getD i default).kind=bo then(G0 us n m i).set (us.getD i default).out.toNat (vN (jA us<|i+1) m)else G0 us n m i
def u6(us:List bO)(i:Nat):List Int:=(List.range i).map λj=>(jA us j:Int)
def kO(us:List bO)(i:Nat):List bK:=(List.range<|jA us i).map λ(j:Nat)=>122::ck ((j:Int)+1)
def kE(us:List bO):Nat->List hO
 |0=>[]
 |i+1=>if(us.getD i default).kind=bo then kE us i++[⟨(us.getD i default).k,(us.getD i default).k⟩]else kE us i
def FG(us:List bO)(i:Nat):u6 us (i+1)=u6 us i++[(jA us i:Int)]:=by unfold u6;rw[ai1,ac9];rfl
def BX(us:List bO):∀i,(kE us i).length<=i
 |0=>.refl
 |i+1=>by
  have:=BX us i;rw[kE];split
  ·simp;exact this
  omega
def qC(us:List bO)(n m:Nat):∀i,(G0 us n m i).length=n
 |0=>by simp[G0,B1]
 |i+1=>by
  have:=qC us n m i;rw[G0];split
  ·rw[ae7];exact this
  exact this
noncomputable def gB(sh:List (List cN))(st:List Rat)(u:bO):Nat->List cN×Rat
 |0=>([],bI u.k)
 |i+1=>(EV (gB sh st u i).1<|kJ (bI (u.ah.getD i default).dU)<|sh.getD (u.ah.getD i default).sh.toNat [],
   (gB sh st u i).2-bI (u.ah.getD i default).dU*st.getD (u.ah.getD i default).sh.toNat 0)
noncomputable def Sg(sh:List (List cN))(st:List Rat)(m:Nat)(u:bO):List cN:=EV (gB sh st u u.ah.length).1<|fQ (gB sh st u u.ah.length).2 m
noncomputable def oU(sh:List (List cN))(u:bO):List cN:=kJ (bI (u.ah.getD 0 default).dU)<|sh.getD (u.ah.getD 0 default).sh.toNat []
noncomputable def jE(m:Nat)(x:List cN)(cs:List Rat):List cN:=cs.foldr (λa s=>EV (lI s x)<|fQ a m) []
noncomputable def ahF(sh:List (List cN))(m:Nat)(u:bO):List cN:=jE m (oU sh u)<|u.dD.map bI
noncomputable def lD(us:List bO)(st:List Rat)(m:Nat)(sh:List (List cN))(o:Int):List (List cN):=
 if(us.getD o.toNat default).kind=jJ then sh.set (us.getD o.toNat default).out.toNat (Sg sh st m<|us.getD o.toNat default)
 else if(us.getD o.toNat default).kind=dQ then sh.set (us.getD o.toNat default).out.toNat (ahF sh m<|us.getD o.toNat default)else sh
noncomputable def ie(us:List bO)(n m k:Nat):List (List cN):=((az us).take k).foldl (lD us (bW n us) m)<|G0 us n m us.length
noncomputable def zX(us:List bO)(n m:Nat):List (List cN):=ie us n m (az us).length
noncomputable def OR(sh aW:List (List cN))(u:bO):List cN:=kJ (bI (u.ah.getD 0 default).dU*bI (u.ah.getD 1 default).dU) (lI (sh.getD (u.ah.getD 0 default).sh.toNat [])<|mN aW<|sh.getD (u.ah.getD 1 default).sh.toNat [])
noncomputable def oH(us:List bO)(sh aW:List (List cN))(o:Int):List (List cN):=if(us.getD o.toNat default).kind=bo then aW.set (jA us o.toNat) (OR sh aW<|us.getD o.toNat default)else aW
noncomputable def iN(us:List bO)(n m k:Nat):List (List cN):=((az us).take k).foldl (oH us<|zX us n m)<|List.replicate m []
noncomputable def ahM(us:List bO)(n m:Nat):List (List cN):=iN us n m (az us).length
noncomputable def OQ(us:List bO)(n m:Nat):Sys:=⟨kO us us.length,ahM us n m,kE us us.length⟩
def px{us:List bO}{n m k:Nat}(h:k<(az us).length):ie us n m (k+1)=lD us (bW n us) m (ie us n m k) (az us)[k]:=by unfold ie;rw[ac6 h,afW];rfl
def B4{us:List bO}{n m k:Nat}(h:k<(az us).length):iN us n m (k+1)=oH us (zX us n m) (iN us n m k) (az us)[k]:=by unfold iN;rw[ac6 h,afW];rfl
def Ms(us:List bO)(st:List Rat)(m:Nat)(sh:List (List cN))(o:Int):(lD us st m sh o).length=sh.length:=by
 unfold lD;split
 ·simp_all
 split
 ·simp_all
 rfl
def kG(us:List bO)(n m k:Nat):(ie us n m k).length=n:=by
 have:∀(l:List Int)(sh:List (List cN)),(l.foldl (lD us (bW n us) m) sh).length=sh.length:=by
  intro l
  induction l with
  |nil=>intro sh;rfl
  |cons o l ih=>intro sh;rw[aeK,ih,Ms]
 unfold ie;rw[this,qC]
def tz(us:List bO)(n m k:Nat):(iN us n m k).length=m:=by
 have:∀(l:List Int)(r:List (List cN)),(l.foldl (oH us<|zX us n m) r).length=r.length:=by
  intro l
  induction l with
  |nil=>intro sh;rfl
  |cons o l ih=>
   intro sh;rw[aeK,ih];unfold oH;split
   ·simp_all
   rfl
 unfold iN;rw[this];simp
structure Wj(V K L:Nat)(sh:List (List cN))(st:List Rat)(m:Nat)(u:bO):Prop where
 Zn:∀f∈u.ah,vL V K<|py (bI f.dU)<|sh.getD f.sh.toNat []
 sum:∀i,i<u.ah.length->vL V K ((gB sh st u i).1++kJ (bI (u.ah.getD i default).dU) (sh.getD (u.ah.getD i default).sh.toNat []))
 num:∀i,i<=u.ah.length->Sz (gB sh st u i).2 L
 fin:vL V K ((gB sh st u u.ah.length).1++fQ (gB sh st u u.ah.length).2 m)
structure aah(V K:Nat)(sh:List (List cN))(m:Nat)(u:bO):Prop where
 Zn:vL V K (py (bI (u.ah.getD 0 default).dU)<|sh.getD (u.ah.getD 0 default).sh.toNat [])
 mul:∀i,i<u.dD.length->vL V K (jv (jE m (oU sh u)<|(u.dD.map bI).drop<|i+1)<|oU sh u)
 sum:∀i,i<u.dD.length->vL V K (lI (jE m (oU sh u)<|(u.dD.map bI).drop<|i+1) (oU sh u)++fQ (bI<|u.dD.getD i []) m)
structure Oq(V K:Nat)(sh aW:List (List cN))(u:bO):Prop where
 al:agD V K aW (sh.getD (u.ah.getD 1 default).sh.toNat [])
 along:(∀t∈mN aW (sh.getD (u.ah.getD 1 default).sh.toNat []),Ea V K t)/\(mN aW<|sh.getD (u.ah.getD 1 default).sh.toNat []).length<2^30
 mul:vL V K (jv (sh.getD (u.ah.getD 0 default).sh.toNat [])<|mN aW<|sh.getD (u.ah.getD 1 default).sh.toNat [])
 Zn:vL V K (py (bI (u.ah.getD 0 default).dU*bI (u.ah.getD 1 default).dU)<|lI (sh.getD (u.ah.getD 0 default).sh.toNat [])<|mN aW<|sh.getD (u.ah.getD 1 default).sh.toNat [])
structure Wc(V K L:Nat)(us:List bO)(n m:Nat):Prop where
 sh:∀k,k<=(az us).length->∀p∈ie us n m k,(∀u∈p,Ea V K u)/\p.length<2^30
 rt:∀k,k<=(az us).length->∀p∈iN us n m k,(∀u∈p,Ea V K u)/\p.length<2^30
 add:∀k(h:k<(az us).length),(us.getD (az us)[k].toNat default).kind=jJ->Wj V K L (ie us n m k) (bW n us) m (us.getD (az us)[k].toNat default)
 dD:∀k(h:k<(az us).length),(us.getD (az us)[k].toNat default).kind=dQ->aah V K (ie us n m k) m (us.getD (az us)[k].toNat default)
 ahQ:∀k(h:k<(az us).length),(us.getD (az us)[k].toNat default).kind=bo->Oq V K (zX us n m) (iN us n m k) (us.getD (az us)[k].toNat default)
def AH(s:Sys):SV:=.agg [.strs true s.names,oe true s.aW,.bT true 2 default fP s.start]
def Mz(p:kx)(h:ye p)(n m:Nat)(hn:p.n=n)(hm:m=c7 p.aa)(No:0<n)(UH:n<=100)(X3:p.aa.length<=96)(hv:∀u∈p.aa,jc p.n u){K L:Nat}(hR:Wc (m+1) K L p.aa n m)(hK:K+K+1<2^34)(hL:L+135<2^34)(hKL:L<=K):
 aL Tryz.prog 76 [bh p] (.bX [age<|OQ p.aa n m,oe true<|zX p.aa n m]):=by
 have hl:=h.aa;have hm2:m<=p.aa.length:=by rw[hm];exact agV
 refine bE Tryz.func76 rfl<|b8 3 [(1,.box true<|bh p),(2,.box true<|.agg [.nil,.nil,.nil]),(4,.i m),(5,oe true<|List.replicate n [])] True ?_ λ_=>?_
 ·refine r0 rfl<|bF rfl (oP p h) rfl<|r1 rfl (by simp only[ag,and_true]<;>omega) ?_;refine aeg () ao ⟨⟨rfl,rfl,.le<|an.refl _⟩,⟨rfl,rfl,.le<|an.refl _⟩,⟨rfl,rfl,.le<|an.of_eq<|congrArg SV.i<|by rw[hm];rfl⟩,⟨rfl,rfl,?_⟩,ao⟩;refine .row ?_;rw[hn,aiw];exact qp.rep (x:=.nil) (y:=de false []) (.le rfl) n
 refine r0 rfl<|bF rfl (sg 0 m (abC _)<|by omega) rfl<|r1 rfl (by simp only[ag,and_true,agc]<;>omega) ?_;refine bF rfl (vS p h n hn (by omega)<|jc.outs hv hn) rfl<|r1 rfl (by simp only[ag,and_true,agc]<;>omega) ?_;rw[Fe λu hu=>(hv u hu).k];refine Kd [(1,.box true<|bh p),(2,.box true<|.agg [.nil,.nil,.nil]),(4,.i m),(5,oe true<|G0 p.aa n m 0),(6,.strs true<|(bW n p.aa).map qt),(7,.box true<|AH ⟨kO p.aa 0,List.replicate m [],kE p.aa 0⟩),(8,.ints .i64 true<|u6 p.aa 0),(9,.i 0)]
  ⟨⟨rfl,rfl,.le<|an.refl _⟩,⟨rfl,rfl,.le<|an.refl _⟩,⟨rfl,rfl,.le<|an.refl _⟩,⟨rfl,rfl,.row ?_⟩,⟨rfl,rfl,.le<|an.refl _⟩,⟨rfl,rfl,.box<|.agg<|.cons (.le rfl)<|.cons (.row ?_)<|.cons (.le rfl) .nil⟩,⟨rfl,rfl,.le rfl⟩,⟨rfl,rfl,.le<|an.refl _⟩,ao⟩ ?_
 ·rw[G0,B1,afQ];exact qp.refl _
 ·show qp (List.replicate (m:Int).toNat .nil) (List.map (de false)<|List.replicate m []);rw[aiw,show(m:Int).toNat=m by omega];exact qp.rep (x:=.nil) (y:=de false []) (.le rfl) m
 have Yo:∀i,jA p.aa i<=m:=λi=>hm▸Ij p.aa i;refine loop (λi:Nat=>[(1,.box true<|bh p),(2,.box true<|.agg [.nil,.nil,.nil]),(4,.i m),(5,oe true<|G0 p.aa n m i),(6,.strs true<|(bW n p.aa).map qt),(7,.box true<|AH ⟨kO p.aa i,List.replicate m [],kE p.aa i⟩),(8,.ints .i64 true<|u6 p.aa i),(9,.i i)])
  (λi=>i<=p.aa.length) (λi=>p.aa.length-i) 0 (abC _) ⟨ab,ab,ab,ab,ab,ab,ab,ab,ao⟩ ?_
 intro i hi;have Pm:(kO p.aa i).length=jA p.aa i:=by simp[kO]
 have vm:(u6 p.aa i).length=i:=by simp[u6]
 refine r0 rfl<|bH rfl (λh1=>?_) (λh1=>?_)
 ·have aZ:i<p.aa.length:=by omega
  have ei:(i:Int).toNat=i:=by omega
  have eg:p.aa.getD i default=p.aa[i]:=aw aZ;have eR:=tT aZ;have wX:=BX p.aa i;have hu:=hv _<|ab9 aZ;have se:=Yo<|i+1;have huo:=hu.out;refine r1 rfl (by simp only[ag,and_true,ei,len,vm,acU,acY]<;>omega) ?_;rw[ei,eg];refine bH rfl (λh2=>?_) (λh2=>?_)
  ·have h2:p.aa[i].kind=bo:=h2;rw[if_pos h2]at eR;refine r1 rfl (by simp only[ag,and_true,Pm]<;>omega) ?_;have hit:=wT ((jA p.aa i:Int)+1) (k:=3)<|ji<|by omega
   refine cd rfl (by rw[Pm];rfl) (uD ((jA p.aa i:Int)+1)<|by omega) rfl ?_;rw[nP];refine k1 rfl (by kernel_rfl) (by simp only[ag,and_true,len,Pm,acU,acY,acW]<;>omega) ?_;refine bG rfl (Hi p.aa[i].k) rfl<|k1 rfl (by kernel_rfl) (by simp only[ag,and_true,len,Pm,acZ,acU,acY,acW]<;>omega) ?_;refine dk (us:=[.i (jA p.aa (i+1):Nat),.i m]) rfl rfl ao ⟨congrArg SV.i<|by simp only[acW,Pm,acU,acY];omega,rfl,ao⟩ (sg (jA p.aa<|i+1) m se<|by omega) rfl ?_;refine k1 rfl (by kernel_rfl) (by simp only[ag,and_true,len,Pm,acZ,acU,acY,qC]<;>omega) ?_;refine DZ (i+1) (by omega) (by omega) ⟨⟨rfl,rfl,.le<|an.refl _⟩,⟨rfl,rfl,.le<|an.refl _⟩,⟨rfl,rfl,.le<|an.refl _⟩,⟨rfl,rfl,.row ?_⟩,⟨rfl,rfl,.le<|an.refl _⟩,⟨rfl,rfl,.box<|.agg<|.cons (.le<|an.of_eq<|congrArg (SV.strs true) ?_)<|.cons (.le<|an.refl _)<|.cons (.row ?_) .nil⟩,⟨rfl,rfl,.le<|an.of_eq<|congrArg (SV.ints .i64 true) ?_⟩,⟨rfl,rfl,.le<|an.refl _⟩,ao⟩
   ·rw[G0,eg,if_pos h2,afQ];exact qp.refl _
   ·rw[kO,kO,eR,ai1,ac9];rfl
   ·rw[kE,eg,if_pos h2,c8,ac9];exact qp.refl _
   rw[FG,Pm]
  have h2:¬p.aa[i].kind=bo:=h2;rw[if_neg h2]at eR;refine r1 rfl (by simp only[ag,and_true]<;>omega) ?_;refine again (i+1) (by omega) (by omega) ⟨ab,ab,ab,⟨rfl,an.of_eq<|congrArg (oe true) ?_⟩,ab,⟨rfl,an.of_eq<|congrArg (λs=>SV.box true<|AH s) ?_⟩,⟨rfl,an.of_eq<|congrArg (SV.ints .i64 true) ?_⟩,ab,ao⟩
  ·rw[G0,eg,if_neg h2]
  ·rw[kO,kO,eR,kE,eg,if_neg h2];rfl
  rw[FG,Pm]
 have x9:i=p.aa.length:=by omega
 subst x9;have LU:=u5 p.aa;have hsq:=BV n p.aa;have aii:∀q∈bW n p.aa,Sz q 67:=BW (OG.mono<|by decide) λu hu=>eU (hv u hu).k;refine r0 rfl<|bF rfl (sG p h<|jc.fdd hv) rfl<|r0 rfl<|loop (λk:Nat=>[(1,.box true<|bh p),(2,.box true<|.agg [.nil,.nil,.nil]),(4,.i m),(5,oe true<|ie p.aa n m k),(6,.strs true<|(bW n p.aa).map qt),(7,.box true<|AH ⟨kO p.aa p.aa.length,List.replicate m [],kE p.aa p.aa.length⟩),(8,.ints .i64 true<|u6 p.aa p.aa.length),(11,.ints .i64 true<|az p.aa),(12,.i k)])
  (λk=>k<=(az p.aa).length) (λk=>(az p.aa).length-k) 0 (abC _) ⟨ab,ab,ab,ab,ab,ab,ab,ab,ab,ao⟩ ?_
 intro k hk;refine r0 rfl<|bH rfl (λh1=>?_) (λh1=>?_)
 ·have gp:k<(az p.aa).length:=by omega
  have ek:(k:Int).toNat=k:=by omega
  have Dm:(az p.aa).getD k 0=(az p.aa)[k]:=aw gp;obtain⟨o1,o2⟩:=gi _<|ab9 gp;have eR:=px (n:=n) (m:=m) gp;have Nu:=hR.add k gp;have Ng:=hR.dD k gp;have yM:=hR.sh k hk;have Nj:=kG p.aa n m k;obtain⟨o,eo⟩:∃o,(az p.aa)[k]=o:=⟨_,rfl⟩;rw[eo]at Dm o1 o2 eR Nu Ng;have dz:p.aa.getD o.toNat default∈p.aa:=bz (by omega);unfold lD at eR;obtain⟨u,eu⟩:∃u,p.aa.getD o.toNat default=u:=⟨_,rfl⟩;rw[eu]at dz eR Nu Ng;have hu:=hv _ dz;have huo:=hu.out;have huU:=h.unit _ dz;refine k1 rfl (by kernel_rfl) (by simp only[ag,and_true,ek,Dm]<;>omega) ?_;rw[ek,Dm,eu];generalize ie p.aa n m k=sh at*;have gE:∀f∈u.ah,(∀t∈sh.getD f.sh.toNat [],Ea (m+1) K t)/\(sh.getD f.sh.toNat []).length<2^30:=λf hf=>by have:=hu.feed f hf;exact yM _<|bz (d:=[])<|by omega
  refine bH rfl (λh2=>?_) (λh2=>?_)
  ·have h2:u.kind=jJ:=h2;rw[if_pos h2]at eR;have ha:=Nu h2;have bt:=(hu.add h2).2.1;refine r0 rfl<|loop (λi:Nat=>[(1,.box true<|bh p),(2,.box true<|.agg [.nil,.nil,.nil]),(4,.i m),(5,oe true sh),(6,.strs true<|(bW n p.aa).map qt),(7,.box true<|AH ⟨kO p.aa p.aa.length,List.replicate m [],kE p.aa p.aa.length⟩),(8,.ints .i64 true<|u6 p.aa p.aa.length),(11,.ints .i64 true<|az p.aa),(12,.i k),
    (13,.box true<|dM u),(14,.s<|qt (gB sh (bW n p.aa) u i).2),(15,de false (gB sh (bW n p.aa) u i).1),(16,.i i)])
    (λi=>i<=u.ah.length) (λi=>u.ah.length-i) 0 (abC _) ⟨ab,ab,ab,ab,ab,ab,ab,ab,ab,ab,⟨rfl,an.of_eq<|congrArg SV.s (fO hu.k).symm⟩,ab,ab,ao⟩ ?_
   intro i hi;have aeG:(gB sh (bW n p.aa) u i).1.length<2^30:=by
    cases i with
    |zero=>simp[gB]
    |succ i=>exact(ha.sum i<|by omega).norm.2
   refine r0 rfl<|bH rfl (λh3=>?_) (λh3=>?_)
   ·have aZ:i<u.ah.length:=by omega
    have ei:(i:Int).toNat=i:=by omega
    have Z8:u.ah.getD i default=u.ah[i]:=aw aZ;have hf:=hu.feed _<|ab9 aZ;obtain⟨g1,g2⟩:=gE _<|ab9 aZ;have jn:=ha.Zn _<|ab9 aZ;have gD:=ha.sum i aZ;have Nn:=ha.num i hi;have hrs:gB sh (bW n p.aa) u (i+1)=(EV (gB sh (bW n p.aa) u i).1<|kJ (bI u.ah[i].dU)<|sh.getD u.ah[i].sh.toNat [],(gB sh (bW n p.aa) u i).2-bI u.ah[i].dU*(bW n p.aa).getD u.ah[i].sh.toNat 0):=by rw[gB,Z8]
    rw[Z8]at gD;obtain⟨f,ef⟩:∃f,u.ah[i]=f:=⟨_,rfl⟩;rw[ef]at hf g1 g2 jn gD hrs Z8;have hq:=aii _<|bz (d:=0)<|show f.sh.toNat<(bW n p.aa).length by omega
    have se:=mB (bI f.dU) (sh.getD f.sh.toNat []) (V:=m+1) (K:=K) (L:=67) (eU hf.2.2.1) g1 jn (by omega) hK (by omega);rw[fO hf.2.2.1]at se;have Eu:=fT (bI f.dU) ((bW n p.aa).getD f.sh.toNat 0) (eU hf.2.2.1) hq (by omega);rw[fO hf.2.2.1]at Eu;refine r1 rfl (by simp only[ag,and_true,ei,Z8,Nj]<;>omega) ?_;rw[ei,Z8];refine bG rfl se rfl<|r1 rfl (by simp only[ag,and_true]<;>omega) ?_;refine bG rfl (l0 (gB sh (bW n p.aa) u i).1 (kJ (bI f.dU)<|sh.getD f.sh.toNat []) (V:=m+1) (K:=K) gD (by have:=jn.norm.2;unfold kJ;omega) hK) rfl ?_;refine k1 rfl (by kernel_rfl) (by simp only[ag,and_true,acZ,hsq]<;>omega) ?_;refine cd rfl (by rw[JZ<|by omega];rfl) Eu rfl ?_;refine r1 rfl (by simp only[ag,and_true]<;>omega) ?_;refine bG rfl (E9 (gB sh (bW n p.aa) u i).2 (bI f.dU*(bW n p.aa).getD f.sh.toNat 0) Nn ((eU hf.2.2.1).mul hq)<|by omega) rfl<|k1 rfl (by kernel_rfl) (by simp only[ag,and_true]<;>omega) ?_;refine again (i+1) (by omega) (by omega) ⟨ab,ab,ab,ab,ab,ab,ab,ab,ab,ab,⟨rfl,an.of_eq<|congrArg SV.s<|by rw[hrs]⟩,⟨rfl,an.of_eq<|congrArg (de false)<|by rw[hrs]⟩,ab,ao⟩
   have:i=u.ah.length:=by omega
   subst this;have Ep:=ha.fin;have Bg:(fQ (gB sh (bW n p.aa) u u.ah.length).2 m).length<=1:=by unfold fQ;split<;>simp
   refine r0 rfl<|bG rfl (tg (gB sh (bW n p.aa) u u.ah.length).2 m<|by omega) rfl<|r1 rfl (by simp only[ag,and_true]<;>omega) ?_;refine bG rfl (l0 (gB sh (bW n p.aa) u u.ah.length).1 (fQ (gB sh (bW n p.aa) u u.ah.length).2 m) (V:=m+1) (K:=K) Ep (by omega) hK) rfl<|k1 rfl (by kernel_rfl) (by simp only[ag,and_true,Nj]<;>omega) ?_;refine DZ (k+1) (by omega) (by omega) ⟨⟨rfl,rfl,.le<|an.refl _⟩,⟨rfl,rfl,.le<|an.refl _⟩,⟨rfl,rfl,.le<|an.refl _⟩,⟨rfl,rfl,.row ?_⟩,⟨rfl,rfl,.le<|an.refl _⟩,⟨rfl,rfl,.le<|an.refl _⟩,⟨rfl,rfl,.le<|an.refl _⟩,⟨rfl,rfl,.le<|an.refl _⟩,⟨rfl,rfl,.le<|an.refl _⟩,ao⟩;rw[eR,afQ];exact qp.refl _
  have h2:¬u.kind=jJ:=h2;rw[if_neg h2]at eR;refine r0 rfl<|bH rfl (λh3=>?_) (λh3=>?_)
  ·have h3:u.kind=dQ:=h3;rw[if_pos h3]at eR;have ha:=Ng h3;obtain⟨t1,t2,t3⟩:=hu.table h3;have uF:Int.toNat 0=0:=rfl;have UR:u.ah.getD 0 default∈u.ah:=bz (by omega);have Er:=hu.feed _ UR;obtain⟨g1,g2⟩:=gE _ UR;have se:=mB (bI (u.ah.getD 0 default).dU) (sh.getD (u.ah.getD 0 default).sh.toNat []) (V:=m+1) (K:=K) (L:=67) (eU Er.2.2.1) g1 ha.Zn (by omega) hK (by omega);rw[fO Er.2.2.1]at se;have hX:=ha.Zn.norm;refine k1 rfl (by kernel_rfl) (by simp only[ag,and_true,uF,Nj]<;>omega) ?_;rw[uF];refine bG rfl se rfl<|k1 rfl (by kernel_rfl) (by simp only[ag,and_true]<;>omega) ?_;refine loop (λj:Nat=>[(1,.box true<|bh p),(2,.box true<|.agg [.nil,.nil,.nil]),(4,.i m),(5,oe true sh),(6,.strs true<|(bW n p.aa).map qt),(7,.box true<|AH ⟨kO p.aa p.aa.length,List.replicate m [],kE p.aa p.aa.length⟩),(8,.ints .i64 true<|u6 p.aa p.aa.length),(11,.ints .i64 true<|az p.aa),(12,.i k),
    (13,.box true<|dM u),(18,de false<|oU sh u),(19,de false<|jE m (oU sh u)<|(u.dD.map bI).drop j),(20,.i<|(j:Int)-1)])
    (λj=>j<=u.dD.length) (λj=>j) u.dD.length (abZ _) ⟨ab,ab,ab,ab,ab,ab,ab,ab,ab,ab,ab,⟨rfl,?_⟩,ab,ao⟩ ?_
   ·rw[adt<|by rw[acZ];omega];exact rfl
   intro j hj;refine r0 rfl<|bH rfl (λh4=>?_) (λh4=>?_)
   ·obtain⟨i,rfl⟩:∃i,j=i+1:=⟨j-1,by omega⟩;have e1:((i+1:Nat):Int)-1=i:=by omega
    have ei:(i:Int).toNat=i:=by omega
    have hi:i<u.dD.length:=by omega
    have Z8:u.dD.getD i []=u.dD[i]:=aw hi;have jn:=ha.mul i hi;have gD:=ha.sum i hi;rw[Z8]at gD;have KD:=hu.dD _<|ab9 hi;have hT:(∀t∈jE m (oU sh u) ((u.dD.map bI).drop<|i+1),Ea (m+1) K t)/\(jE m (oU sh u)<|(u.dD.map bI).drop<|i+1).length<2^30:=by
     rcases ac1 (i+1) u.dD.length with g|g
     ·have hs3:=(ha.sum (i+1) g).norm;rw[ac4<|by rw[acZ];exact g,List.getElem_map];have e:u.dD.getD (i+1) []=u.dD[i+1]:=aw g;rw[e]at hs3;exact hs3
     rw[adt<|by rw[acZ];exact g];exact⟨by simp[jE],by simp[jE]⟩
    have hrs:jE m (oU sh u) ((u.dD.map bI).drop i)=EV (lI (jE m (oU sh u)<|(u.dD.map bI).drop<|i+1)<|oU sh u) (fQ (bI u.dD[i]) m):=by rw[ac4<|by rw[acZ];exact hi,List.getElem_map];rfl
    have Pv:=tg (bI u.dD[i]) m (by omega);rw[fO KD]at Pv;have Bg:(fQ (bI u.dD[i]) m).length<=1:=by unfold fQ;split<;>simp
    rw[e1];refine r1 rfl (by simp only[ag,and_true,ei]<;>omega) ?_;refine bG rfl (oZ (jE m (oU sh u)<|(u.dD.map bI).drop<|i+1) (oU sh u) (V:=m+1) (K:=K) (L:=K) (M:=K) hT.1 hX.1 jn (by omega) (by unfold oU kJ;omega) (by omega) hK<|by omega) rfl ?_;refine r1 rfl (by simp only[ag,and_true,ei]<;>omega) ?_;refine cd rfl (by rw[ei,Z8];rfl) Pv rfl ?_;refine r1 rfl (by simp only[ag,and_true]<;>omega) ?_;refine bG rfl (l0 (lI (jE m (oU sh u)<|(u.dD.map bI).drop<|i+1)<|oU sh u) (fQ (bI u.dD[i]) m) (V:=m+1) (K:=K) gD (by have:=jn.norm.2;unfold lI;omega) hK) rfl ?_;refine k1 rfl (by kernel_rfl) (by simp only[ag,and_true]<;>omega) ?_;exact again i (by omega) (by omega) ⟨ab,ab,ab,ab,ab,ab,ab,ab,ab,ab,ab,⟨rfl,an.of_eq<|congrArg (de false) hrs.symm⟩,ab,ao⟩
   have:j=0:=by omega
   subst this;rw[aeP];refine k1 rfl (by kernel_rfl) (by simp only[ag,and_true,Nj]<;>omega) ?_;refine DZ (k+1) (by omega) (by omega) ⟨⟨rfl,rfl,.le<|an.refl _⟩,⟨rfl,rfl,.le<|an.refl _⟩,⟨rfl,rfl,.le<|an.refl _⟩,⟨rfl,rfl,.row ?_⟩,⟨rfl,rfl,.le<|an.refl _⟩,⟨rfl,rfl,.le<|an.refl _⟩,⟨rfl,rfl,.le<|an.refl _⟩,⟨rfl,rfl,.le<|an.refl _⟩,⟨rfl,rfl,.le<|an.refl _⟩,ao⟩;rw[eR,afQ];exact qp.refl _
  have h3:¬u.kind=dQ:=h3;rw[if_neg h3]at eR;refine r1 rfl (by simp only[ag,and_true]<;>omega) ?_;exact again (k+1) (by omega) (by omega) ⟨ab,ab,ab,⟨rfl,an.of_eq<|congrArg (oe true) eR.symm⟩,ab,ab,ab,ab,ab,ao⟩
 have:k=(az p.aa).length:=by omega
 subst this;have Nj:=kG p.aa n m (az p.aa).length;have yM:=hR.sh _<|abZ _;have aeJ:=hR.ahQ;have hrt:=hR.rt;have ail:ie p.aa n m (az p.aa).length=zX p.aa n m:=rfl;rw[ail]at Nj yM⊢;refine r0 rfl<|loop (λk:Nat=>[(1,.box true<|bh p),(2,.box true<|.agg [.nil,.nil,.nil]),(5,oe true<|zX p.aa n m),(7,.box true<|AH ⟨kO p.aa p.aa.length,iN p.aa n m k,kE p.aa p.aa.length⟩),(8,.ints .i64 true<|u6 p.aa p.aa.length),(11,.ints .i64 true<|az p.aa),(21,.i k)])
  (λk=>k<=(az p.aa).length) (λk=>(az p.aa).length-k) 0 (abC _) ⟨ab,ab,ab,ab,ab,ab,ab,ao⟩ ?_
 intro k hk;refine r0 rfl<|bH rfl (λh1=>?_) (λh1=>?_)
 ·have gp:k<(az p.aa).length:=by omega
  have ek:(k:Int).toNat=k:=by omega
  have Dm:(az p.aa).getD k 0=(az p.aa)[k]:=aw gp;obtain⟨o1,o2⟩:=gi _<|ab9 gp;have eR:=B4 (n:=n) (m:=m) gp;have hra:=aeJ k gp;have hrk:=hrt k hk;have Nl:=tz p.aa n m k;obtain⟨o,eo⟩:∃o,(az p.aa)[k]=o:=⟨_,rfl⟩;rw[eo]at Dm o1 o2 eR hra;have dz:p.aa.getD o.toNat default∈p.aa:=bz (by omega);unfold oH at eR;have hoc:(p.aa.getD o.toNat default).kind=bo->jA p.aa o.toNat<m:=by intro g;have h2:=tT (us:=p.aa) (i:=o.toNat) (by omega);rw[aw<|show o.toNat<p.aa.length by omega]at g;rw[if_pos g]at h2;have:=Yo<|o.toNat+1;omega
  have ZL:(u6 p.aa p.aa.length).getD o.toNat 0=(jA p.aa o.toNat:Int):=by rw[u6,aca,af1,ajr<|by omega];rfl
  have aeR:(u6 p.aa p.aa.length).length=p.aa.length:=by simp[u6]
  obtain⟨u,eu⟩:∃u,p.aa.getD o.toNat default=u:=⟨_,rfl⟩;rw[eu]at dz eR hra hoc;have hu:=hv _ dz;have huo:=hu.out;refine k1 rfl (by kernel_rfl) (by simp only[ag,and_true,ek,Dm]<;>omega) ?_;rw[ek,Dm,eu];generalize iN p.aa n m k=rts at*;generalize zX p.aa n m=sh at*;have gE:∀f∈u.ah,(∀t∈sh.getD f.sh.toNat [],Ea (m+1) K t)/\(sh.getD f.sh.toNat []).length<2^30:=λf hf=>by have:=hu.feed f hf;exact yM _<|bz (d:=[])<|by omega
  refine bH rfl (λh2=>?_) (λh2=>?_)
  ·have h2:u.kind=bo:=h2;rw[if_pos h2]at eR;have ha:=hra h2;have anu:=hoc h2;have RH:=(hu.int h2).1;have uF:Int.toNat 0=0:=rfl;have YJ:Int.toNat 1=1:=rfl;have UR:u.ah.getD 0 default∈u.ah:=bz (by omega);have Er:=hu.feed _ UR;have afk:u.ah.getD 1 default∈u.ah:=bz (by omega);have KA:=hu.feed _ afk;obtain⟨g1,g2⟩:=gE _ UR;obtain⟨g3,g4⟩:=gE _ afk;have se:=fT (bI (u.ah.getD 0 default).dU) (bI (u.ah.getD 1 default).dU) (eU Er.2.2.1) (eU KA.2.2.1) (by omega);rw[fO Er.2.2.1,fO KA.2.2.1]at se;have hm0:(jA p.aa o.toNat:Int).toNat=jA p.aa o.toNat:=by omega
   refine k1 rfl (by kernel_rfl) (by simp only[ag,and_true,uF,YJ]<;>omega) ?_;rw[uF,YJ];refine bG rfl se rfl<|k1 rfl (by kernel_rfl) (by simp only[ag,and_true,uF,YJ,ek,Dm,ZL,aeR,Nj,Nl]<;>omega) ?_;rw[ek,Dm,uF,YJ,ZL];refine cqd rfl rfl (Zf rts (sh.getD (u.ah.getD 1 default).sh.toNat []) (V:=m+1) (K:=K) (L:=K) g3 (by omega) ha.al (by omega) (by omega) (by omega) hK<|by omega) rfl<|r1 rfl (by simp only[ag,and_true]<;>omega) ?_;refine bG rfl (oZ (sh.getD (u.ah.getD 0 default).sh.toNat []) (mN rts<|sh.getD (u.ah.getD 1 default).sh.toNat []) (V:=m+1) (K:=K) (L:=K) (M:=K) g1 ha.along.1 ha.mul (by omega) (by have:=ha.along.2;omega) (by omega) hK<|by omega) rfl ?_;refine r1 rfl (by simp only[ag,and_true]<;>omega) ?_;refine bG rfl (mB (bI (u.ah.getD 0 default).dU*bI (u.ah.getD 1 default).dU) (lI (sh.getD (u.ah.getD 0 default).sh.toNat [])<|mN rts<|sh.getD (u.ah.getD 1 default).sh.toNat []) (V:=m+1) (K:=K) (L:=134) ((eU Er.2.2.1).mul<|eU KA.2.2.1) ha.mul.norm.1 ha.Zn (by have:=ha.mul.norm.2;unfold lI;omega) hK<|by omega) rfl ?_;refine k1 rfl (by kernel_rfl) (by simp only[ag,and_true,Nl,hm0]<;>omega) ?_;refine DZ (k+1) (by omega) (by omega) ⟨⟨rfl,rfl,.le<|an.refl _⟩,⟨rfl,rfl,.le<|an.refl _⟩,⟨rfl,rfl,.le<|an.refl _⟩,⟨rfl,rfl,.box<|.agg<|.cons (.le<|an.refl _)<|.cons (.row ?_)<|.cons (.le<|an.refl _) .nil⟩,⟨rfl,rfl,.le<|an.refl _⟩,⟨rfl,rfl,.le<|an.refl _⟩,⟨rfl,rfl,.le<|an.refl _⟩,ao⟩;dsimp only;rw[eR,afQ];exact qp.refl _
  have h2:¬u.kind=bo:=h2;rw[if_neg h2]at eR;refine r1 rfl (by simp only[ag,and_true]<;>omega) ?_;exact again (k+1) (by omega) (by omega) ⟨ab,ab,ab,⟨rfl,an.of_eq<|congrArg (λr=>SV.box true<|AH ⟨kO p.aa p.aa.length,r,kE p.aa p.aa.length⟩) eR.symm⟩,ab,ab,ab,ao⟩
 have:k=(az p.aa).length:=by omega
 subst this;refine r0 rfl<|bB rfl
end Go.Ai
section
namespace Go.Ai
open Go.Proofs Go.RowKit
def tV{p q:Rat}:DF p q<=0↔p<=q:=by
 have h1:(p-q).num<=0↔0<=(-(p-q)).num:=by rw[ahR];omega
 unfold DF;rw[Int.sign_nonpos_iff,h1,agW];constructor<;>grind
def Jn(q:Rat)(n m:Nat):q^(n+m)=q^n*q^m:=by
 induction m with
 |zero=>rw[agX];grind
 |succ m ih=>rw[agY];grind
def Sz.pow{q:Rat}{K:Nat}(h:Sz q K):∀n,Sz (q^n) (K*n+1)
 |0=>by exact⟨by simp[iz],by simp[iz]⟩
 |n+1=>by have:=(Sz.pow h n).mul h;rw[agY];exact this.mono (by rw[Nat.mul_succ];omega)
def Fz(q:Rat)(n:Nat){K:Nat}(h:Sz q K)(hn:n<2^40)(hK:2*(K*(2*n)+1)<2^34):aL Tryz.prog 130 [.s<|qt q,.i n] (.s<|qt<|q^n):=by
 refine bE Tryz.func130 rfl<|r0 rfl<|bH rfl (λh1=>absurd h1<|by omega) λ_=>?_;refine r0 rfl<|oN (λ(k d e:Nat)=>[(0,.s<|qt<|q^d),(1,.i k),(5,.s<|qt<|q^e)]) (λk d e=>k<=n/\e+d*k=n/\(k=0\/d<=n)) (λk _ _=>k) n 1 0 ⟨abZ _,by omega,by omega⟩
  ⟨⟨rfl,an.of_eq<|congrArg SV.s<|by rw[agY,agX,Rat.one_mul]⟩,ab,⟨rfl,an.of_eq<|congrArg SV.s<|by rw[agX,MC]⟩,ao⟩ ?_
 rintro k d e⟨hk,he,hd⟩;refine r0 rfl<|bH rfl (λh1=>?_) (λh1=>?_)
 ·have h0:0<k:=by omega
  have b1:K*d+1<=K*(2*n)+1:=af7 (adQ _<|by omega) 1;have b2:K*e+1<=K*(2*n)+1:=af7 (adQ _<|by omega) 1;have s1:=(h.pow d).mono b1;have s2:=(h.pow e).mono b2;have hdv:k=2*(k/2)+k%2:=by omega
  have UI:d*k=2*d*(k/2)+d*(k%2):=by
   conv=>lhs;rw[hdv,ahk]
   rw[ac8 2 d,adz]
  have sq:q^d*q^d=q^(2*d):=by rw[<-Jn];congr 1;omega
  refine r1 rfl (by simp[ag,and_true]<;>omega) ?_;refine bH rfl (λh2=>?_) (λh2=>?_)
  ·have h2:k%2=1:=by
    have h2:(k:Int).tmod 2=1:=h2;have:(k:Int).tmod 2=((k%2:Nat):Int):=rfl;omega
   rw[h2,Nat.mul_one]at UI;refine r0 rfl<|bF rfl (fT (q^e) (q^d) s2 s1<|by omega) rfl<|r0 rfl<|bF rfl (fT (q^d) (q^d) s1 s1<|by omega) rfl<|r1 rfl (by simp[ag,and_true]<;>omega) ?_;refine again (k/2,2*d,e+d) (by dsimp only;omega) ⟨by dsimp only;omega,by dsimp only;omega,?_⟩ ⟨⟨rfl,an.of_eq<|congrArg SV.s<|by rw[sq]⟩,ab,⟨rfl,an.of_eq<|congrArg SV.s<|by rw[Jn]⟩,ao⟩;dsimp only;rcases adp (k/2)with g|g
   ·exact .inl g
   have:2*d<=2*d*(k/2):=ajl _ g;exact .inr (by omega)
  have h2:k%2=0:=by have h2:¬(k:Int).tmod 2=1:=h2;have:(k:Int).tmod 2=((k%2:Nat):Int):=rfl;omega
  rw[h2,Nat.mul_zero]at UI;refine r0 rfl<|bF rfl (fT (q^d) (q^d) s1 s1<|by omega) rfl<|r1 rfl (by simp[ag,and_true]<;>omega) ?_;refine again (k/2,2*d,e) (by dsimp only;omega) ⟨by dsimp only;omega,by dsimp only;omega,?_⟩ ⟨⟨rfl,an.of_eq<|congrArg SV.s<|by rw[sq]⟩,ab,ab,ao⟩;dsimp only;rcases adp (k/2)with g|g
  ·exact .inl g
  have:2*d<=2*d*(k/2):=ajl _ g;exact .inr (by omega)
 have:k=0:=by omega
 subst this;refine r0 rfl<|aG rfl<|an.of_eq<|congrArg SV.s<|by rw[show e=n by omega]
def iC(n:Int):Rat:=if n<0 then((2:Rat)^(-n).toNat)⁻¹ else(2:Rat)^n.toNat
def two_pos:(0:Rat)<2:=by decide
def pD(n:Nat):(0:Rat)<(2:Rat)^n:=by
 induction n with
 |zero=>rw[agX];decide
 |succ n ih=>rw[agY];exact Rat.mul_pos ih two_pos
def tD(n:Int):0<iC n:=by
 unfold iC;split
 ·exact ahS.2<|pD _
 exact pD _
def Tu(n:Int):iC (n+1)=iC n*2:=by
 unfold iC;rcases ahe n (-1)with h|h|h
 ·rw[show(-n).toNat=(-(n+1)).toNat+1 by omega]
  grind
 ·subst h;have e2:(-(-1:Int)).toNat=0+1:=rfl;rw[e2];grind
 rw[if_neg<|by omega,if_neg<|by omega,show(n+1).toNat=n.toNat+1 by omega,agY]
def kd(n:Int)(k:Nat):iC (n+k)=iC n*(2:Rat)^k:=by
 induction k with
 |zero=>rw[agX];simp
 |succ k ih=>rw[show n+((k+1:Nat):Int)=n+k+1 by omega,Tu];grind
def JG(n:Nat):(1:Rat)<=(2:Rat)^n:=by
 induction n with
 |zero=>rw[agX];simp_all
 |succ n ih=>rw[agY];grind
def nQ{m n:Int}(h:m<=n):iC m<=iC n:=by
 obtain⟨k,rfl⟩:∃k:Nat,n=m+k:=⟨(n-m).toNat,by omega⟩;rw[kd];have h1:=JG k;have h2:=tD m;have:=ahl h1<|aeU h2
 grind
def pn(a:Rat)(e:Int):Prop:=iC e<=a/\¬iC (e+1)<=a
def Ej{a:Rat}{e f:Int}(h:pn a e)(g:pn a f):e=f:=by
 rcases ahe e f with k|k|k
 ·exact absurd (agH (nQ<|by omega) g.1) h.2
 ·exact k
 exact absurd (agH (nQ<|by omega) h.1) g.2
open Classical in
noncomputable def xd(a:Rat):Int:=if h:∃e,pn a e then h.choose else 0
def jK{a:Rat}{e:Int}(h:pn a e):xd a=e:=by unfold xd;rw[dif_pos ⟨e,h⟩];exact Ej (Exists.choose_spec (⟨e,h⟩:∃e,pn a e)) h
def BS:Sz 2 1:=⟨by rw[show(2:Rat).num.natAbs=2 from rfl,mu (f:=2) (by decide)<|by decide];decide,by rw[show(2:Rat).den=1 from rfl,iz];decide⟩
def Sz.iC(n:Int):Sz (iC n) (n.natAbs+2):=by
 unfold Go.Ai.iC;split
 ·have:=(BS.pow (-n).toNat).inv;exact this.mono (by omega)
 exact(BS.pow n.toNat).mono (by omega)
def Tq:qt 2=[50]:=by have:=nP 2;rw[show((2:Int):Rat)=2 from rfl]at this;rw[this];unfold ck;rw[bp<|by decide];show decl 0 0++[Sv 2]=[50];rw[cE];decide
def sD(n:Int)(h:n.natAbs<2^30):aL Tryz.prog 67 [.i n] (.s<|qt<|iC n):=by
 refine bE Tryz.func67 rfl<|r0 rfl<|bH rfl (λh1=>?_) (λh1=>?_)
 ·have e:(0:Int)-n=((-n).toNat:Nat):=by omega
  have hp:=Fz 2 (-n).toNat BS (by omega) (by omega);rw[Tq]at hp;refine r1 rfl (by simp[ag]<;>omega) ?_;refine cl rfl (by rw[e];rfl) hp rfl ?_;refine bF rfl (pB ((2:Rat)^(-n).toNat) (BS.pow _) (by omega) (by have:=pD (-n).toNat;grind)) rfl ?_;refine r0 rfl<|aG rfl<|an.of_eq<|congrArg SV.s<|by unfold iC;rw[if_pos h1]
 have e:n=(n.toNat:Nat):=by omega
 have hp:=Fz 2 n.toNat BS (by omega) (by omega);rw[Tq]at hp;refine r0 rfl<|Il (us:=[.s [50],.i (n.toNat:Nat)]) rfl rfl ao ⟨rfl,congrArg SV.i e,ao⟩ hp rfl<|r0 rfl<|aG rfl<|an.of_eq<|congrArg SV.s<|by unfold iC;rw[if_neg h1]
def MA{q:Rat}(h:0<q):q<=(q.num:Rat):=by
 have h1:q*(q.den:Rat)=(q.num:Rat):=by
  have:=Rat.num_divInt_den q;rw[ajn,ahi]at this
  grind
 have h2:(1:Rat)<=(q.den:Rat):=by
  have:=q.den_nz;have:1<=q.den:=by omega
  exact_mod_cast this
 have:=ahl h2<|aeU h
 grind
def NT{n k:Nat}(h:(ae n).length<=k):n<2^(30*k):=by
 have h1:=bQ n;have h2:(1000000000:Nat)^(ae n).length<=1000000000^k:=adD (by decide) h;have Ew:(n:Int)<((1000000000^(ae n).length:Nat):Int):=by rw[aiy];exact h1
 have h3:(1000000000:Nat)^k<=(2^30)^k:=ajm (by decide) k;rw[<-aio]at h3;omega
def JR(n:Nat):((2^n:Nat):Rat)=(2:Rat)^n:=by
 induction n with
 |zero=>rw[agX];rfl
 |succ n ih=>rw[agY,<-ih,ady,Rat.natCast_mul];rfl
def qO{q:Rat}{K:Nat}(h:0<q)(hs:Sz q K):q<iC ((30*K:Nat):Int):=by
 have h1:=MA h;have h0:=agW.2<|aeU h;have h2:=NT hs.1;have h3:(q.num:Rat)=((q.num.natAbs:Nat):Rat):=by rw[<-ahi];congr 1;omega
 have h4:((q.num.natAbs:Nat):Rat)<((2^(30*K):Nat):Rat):=by exact_mod_cast h2
 have h5:iC ((30*K:Nat):Int)=(2:Rat)^(30*K):=by unfold iC;rw[if_neg<|by omega];rfl
 grind
def XV(n:Int):(iC n)⁻¹ =iC (-n):=by
 unfold iC;rcases ahe n 0 with h|h|h
 ·rw[if_pos h,if_neg<|by omega,Rat.inv_inv]
 ·subst h;rw[if_neg<|by decide];show((2:Rat)^0)⁻¹ =(2:Rat)^0;rw[agX];grind
 rw[if_neg<|by omega,if_pos<|by omega,Int.neg_neg]
def wk{q:Rat}{K:Nat}(h:0<q)(hs:Sz q K):iC (-((30*(K+1):Nat):Int))<q:=by
 have h1:=qO (ahS.2 h) hs.inv;rw[<-XV];have h2:=tD ((30*(K+1):Nat):Int);have h3:=Rat.mul_inv_cancel q (by grind);have h4:iC ((30*(K+1):Nat):Int)*(iC ((30*(K+1):Nat):Int))⁻¹ =1:=Rat.mul_inv_cancel _ (by grind);have h5:=ahS.2 h2;generalize iC ((30*(K+1):Nat):Int)=x at*;generalize x⁻¹ =y at*;generalize q⁻¹ =r at*;have h6:=Rat.mul_pos h5 h;have h7:=Rat.mul_lt_mul_of_pos_left h1 h6;have h8:(y*q)*r=y:=by rw[aiB,h3,Rat.mul_one]
 have h9:(y*q)*x=q:=by rw[ahT y q,aiB,ahT y x,h4,Rat.mul_one]
 rw[h8,h9]at h7;exact h7
def K3{q:Rat}{K:Nat}{e:Int}(h:0<q)(hs:Sz q K)(he:pn q e): -(30*(K+1:Int))-1<=e/\e<=30*K:=by
 have h1:=qO h hs;have h2:=wk h hs;obtain⟨g1,g2⟩:=he;constructor
 ·rcases Decidable.em (e+1< -((30*(K+1):Nat):Int))with g|g
  ·exact absurd (agH (nQ<|ads g)<|aeU h2) g2
  omega
 rcases Decidable.em (((30*K:Nat):Int)<e)with g|g
 ·have:=nQ (ads g);exact absurd (agH this g1)<|aiD.2 h1
 omega
def sY(a:Rat){K:Nat}(ha:0<a)(hs:Sz a K)(hK:K<2^20):(∃e,pn a e)/\aL Tryz.prog 28 [.s<|qt a] (.i<|xd a):=by
 have h1:=qO ha hs;have h2:=wk ha hs;have hup:∀e:Int,iC e<=a->e<30*K:=by
  intro e he;rcases Decidable.em (e<30*K)with g|g
  ·exact g
  exact absurd (agH (nQ<|show((30*K:Nat):Int)<=e by omega) he)<|aiD.2 h1
 have hdn:∀e:Int,¬iC e<=a-> -((30*(K+1):Nat):Int)<e:=by
  intro e he;rcases Decidable.em (-((30*(K+1):Nat):Int)<e)with g|g
  ·exact g
  exact absurd (agH (nQ<|by omega)<|aeU h2) he
 have hex:∃e,pn a e:=by
  have:∀(n:Nat)(e:Int),iC e<=a->30*(K:Int)-e<=n->∃e,pn a e:=by
   intro n
   induction n with
   |zero=>intro e he hn;exact absurd (hup e he) (by omega)
   |succ n ih=>
    intro e he hn;by_cases g:iC (e+1)<=a
    ·exact ih (e+1) g (by omega)
    exact⟨e,he,g⟩
  exact this (30*(K:Int)+((30*(K+1):Nat):Int)).toNat _ (aeU h2) (by omega)
 refine⟨hex,?_⟩;obtain⟨E,hE⟩:=hex;have heq:=jK hE;refine bE Tryz.func28 rfl<|EM 3 (λe:Int=>[(0,.s<|qt a),(3,.i e)]) (λe=>0<=e/\e<=30*K/\¬iC e<=a) ?_ ?_
 ·refine r0 rfl<|loop (λe:Nat=>[(0,.s<|qt a),(3,.i e)]) (λe=>(e:Int)<=30*K) (λe=>30*K-e) 0 (by omega) ⟨ab,ab,ao⟩ ?_;intro e he;refine r0 rfl<|bF rfl (sD e<|by omega) rfl<|r0 rfl<|bF rfl (tU (iC e) a (Sz.iC e) hs<|by omega) rfl<|r0 rfl<|bH rfl (λh=>?_) (λh=>?_)
  ·have h:=hup _ (tV.1 h);refine r1 rfl (by simp[ag,and_true]<;>omega) ?_;exact again (e+1) (by omega) (by omega) ⟨ab,ab,ao⟩
  have h:¬iC e<=a:=λg=>h<|tV.2 g;refine r0 rfl<|meet (e:Int) ⟨by omega,he,h⟩ ⟨ab,ab,ao⟩
 rintro e0⟨h3,h4,h5⟩;refine r0 rfl<|loop (λe:Int=>[(0,.s<|qt a),(3,.i e)]) (λe=>¬iC (e+1)<=a/\e<=30*K/\ -((30*(K+1):Nat):Int)<=e) (λe=>(e+((30*(K+1):Nat):Int)).toNat) e0
  ⟨λg=>h5<|agH (nQ<|by omega) g,h4,by omega⟩ ⟨ab,ab,ao⟩ ?_
 rintro e⟨g1,g2,g3⟩;refine r0 rfl<|bF rfl (sD e<|by omega) rfl<|r0 rfl<|bF rfl (tU (iC e) a (Sz.iC e) hs<|by omega) rfl<|r0 rfl<|bH rfl (λh=>?_) (λh=>?_)
 ·have h:¬iC e<=a:=λg=>by have:=tV.2 g;omega
  have:=hdn e h;refine r1 rfl (by simp[ag,and_true]<;>omega) ?_;exact again (e-1) (by omega) ⟨by rw[show e-1+1=e by omega];exact h,by omega,by omega⟩ ⟨ab,ab,ao⟩
 have h:iC e<=a:=tV.1 (by omega);refine r0 rfl<|aG rfl<|bC<|(jK ⟨h,g1⟩).symm
end Go.Ai
end
namespace Go.Ai
open Go.Proofs Go.RowKit
section
variable{n:Int}{K:Nat}{p q:Rat}{s:hO}
def oS(q:Rat):0<=mz q:=by
 unfold mz;split
 ·rename_i h;have:0<=(-q).num:=by rw[ahR];omega
  exact agW.1 this
 simp_all
def Sz.mz(h:Sz q K):Sz (mz q) K:=by
 unfold Go.Ai.mz;split
 ·exact h.neg
 exact h
def Sz.A8(h:Sz p K)(g:Sz q K):Sz (A8 p q) K:=by
 unfold Go.Ai.A8;split
 ·exact h
 exact g
def JY(h:0<=p)(g:0<=q):0<=A8 p q:=by
 unfold A8;split
 ·exact h
 exact g
noncomputable def mH(a:Rat)(iT:Int):Int:=if a=0 then 40 else min 40 (xd<|iC iT/a)
def CH{a:Rat}(h:0<=a)(h0:a≠0)(iT:Int):0<iC iT/a:=by
 refine Rat.mul_pos (tD _)<|ahS.2 ?_
 grind
def Aq(a:Rat)(iT:Int)(h:0<=a)(hs:Sz a K)(hm:0<=iT/\iT<=40)(hK:K<=1000):aL Tryz.prog 43 [.s<|qt a,.i iT] (.i<|mH a iT)/\ -40000<=mH a iT/\mH a iT<=40:=by
 have hz:a≠0->Sz (iC iT/a) (42+K+1):=λh0=>((Sz.iC iT).mono<|by omega).div hs;constructor
 ·refine bE Tryz.func43 rfl<|r0 rfl<|bF rfl (nc a) rfl<|nB rfl rfl rfl (λh1=>?_) (λh1=>?_)
  ·have h1:a=0:=by simpa using h1
   refine r0 rfl<|aG rfl<|an.of_eq<|congrArg SV.i<|by unfold mH;rw[if_pos h1]
  have h1:¬a=0:=by simpa using h1
  refine r0 rfl<|bF rfl (sD iT<|by omega) rfl<|r0 rfl<|bF rfl (RY (iC iT) a (Sz.iC iT) hs (by omega) h1) rfl<|bF rfl (sY (iC iT/a) (CH h h1 iT) (hz h1)<|by omega).2 rfl<|r0 rfl<|aG rfl<|bC ?_;unfold mH;rw[if_neg h1];rfl
 unfold mH;split
 ·omega
 rename_i h1;obtain⟨e,he⟩:=(sY (iC iT/a) (CH h h1 iT) (hz h1)<|by omega).1;have:=K3 (CH h h1 iT) (hz h1) he;rw[jK he];omega
def SpV(s:hO):Prop:=aJ s.lo=0/\aJ s.hi=0
noncomputable def HD(s:hO):Rat:=A8 (mz<|bI s.lo)<|mz<|bI s.hi
def M5(h:SpV s):Sz (HD s) 67:=(eU h.1).mz.A8 (eU h.2).mz
def ve(s:hO):0<=HD s:=JY (oS _)<|oS _
def ux(s:hO)(h:SpV s):aL Tryz.prog 30 [fP s] (.s<|qt<|HD s):=by
 have h1:=qh (bI s.lo)<|(eU h.1).sW<|by decide
 have h2:=qh (bI s.hi)<|(eU h.2).sW<|by decide
 rw[fO h.1]at h1;rw[fO h.2]at h2;refine bE Tryz.func30 rfl<|r0 rfl<|bG rfl h1 rfl<|r0 rfl<|bG rfl h2 rfl<|bG rfl (MV (mz<|bI s.lo) (mz<|bI s.hi) (eU h.1).mz (eU h.2).mz<|by decide) rfl<|k0 rfl (by kernel_rfl)<|bB rfl
structure iA where
 c:Int
 d:Int
 s:Int
 g:Int
def ew(b:iA):SV:=.agg [.i b.c,.i b.d,.i b.s,.i b.g]
def ry(b:iA):List Int:=[b.c,b.d,b.s,b.g]
def ov(b:iA):Int:=aK (λx:Int=>if x<0\/40<x then 3 else 0)<|ry b
structure Ov(b:iA):Prop where
 c:0<=b.c/\b.c<=40
 d:0<=b.d/\b.d<=40
 s:0<=b.s/\b.s<=40
 g:0<=b.g/\b.g<=40
def AR{b:iA}:ov b=0↔Ov b:=by
 unfold ov ry;rw[dG];have hx:∀x:Int,(if x<0\/40<x then(3:Int)else 0)=0↔0<=x/\x<=40:=by intro x;split<;>omega
 simp;exact⟨λ⟨h1,h2,h3,h4⟩=>⟨h1,h2,h3,h4⟩,λ⟨h1,h2,h3,h4⟩=>⟨h1,h2,h3,h4⟩⟩
def zo(b:iA):aL Tryz.prog 23 [ew b] (.i<|ov b):=by
 refine bE Tryz.func23 rfl<|r0 rfl<|loop (λi:Nat=>[(3,.ints .i64 true<|ry b),(4,.i i)]) (λi=>i<=(ry b).length/\ov b=aK (λx:Int=>if x<0\/40<x then 3 else 0) ((ry b).drop i)) (λi=>(ry b).length-i) 0 ⟨abC _,rfl⟩ ⟨ab,ab,ao⟩ ?_;rintro i⟨hi,hf⟩;have h4:(ry b).length=4:=rfl;refine r0 rfl<|bH rfl (λh1=>?_) (λh1=>?_)
 ·have aZ:i<(ry b).length:=by omega
  have ei:(i:Int).toNat=i:=by omega
  have eg:(ry b).getD i 0=(ry b)[i]:=aw aZ;rw[dp _ aZ]at hf;refine r1 rfl (by simp[ag,and_true,ei]<;>omega) ?_;rw[ei,eg];generalize (ry b)[i]=x at*;refine aC 25 rfl (λh2=>?_) (λh2=>?_)
  ·have e:(if x<0\/40<x then(3:Int)else 0)=3:=if_pos (.inl h2);simp[e]at hf;refine r0 rfl<|aG rfl<|an.of_eq<|congrArg SV.i hf.symm
  refine r1 rfl (by simp[ag,and_true,ei]<;>omega) ?_;rw[ei,eg];refine bH rfl (λh3=>?_) (λh3=>?_)
  ·have e:(if x<0\/40<x then(3:Int)else 0)=3:=if_pos (.inr h3);simp[e]at hf;refine r0 rfl<|aG rfl<|an.of_eq<|congrArg SV.i hf.symm
  have e:(if x<0\/40<x then(3:Int)else 0)=0:=if_neg (by rintro(g|g)<;>contradiction);simp[e]at hf;refine r1 rfl (by simp[ag,and_true]<;>omega) ?_;exact again (i+1) (by omega) ⟨by omega,hf⟩ ⟨ab,ab,ao⟩
 refine r0 rfl<|aG rfl<|bC ?_;rw[hf,adt<|by omega];rfl
noncomputable def jh(n:Int)(rs:List hO):Int:=if(rs.length:Int)≠n then 2 else aK iu rs
def xC(p:kx)(rs:List hO)(hx:∀s∈rs,cR s.lo/\cR s.hi)(hl:rs.length<2^40):aL Tryz.prog 42 [bh p,.bT false 2 default fP rs] (.i<|jh p.n rs):=by
 refine bE Tryz.func42 rfl<|r0 rfl<|bH rfl (λh1=>?_) (λh1=>?_)
 ·have h1:=h1;refine r0 rfl<|aG rfl<|an.of_eq<|congrArg SV.i<|by unfold jh;rw[if_pos h1]
 have h1:=h1;refine r0 rfl<|bF rfl (DJ rs hx<|by omega) rfl<|r0 rfl<|aG rfl<|an.of_eq<|congrArg SV.i<|by unfold jh;rw[if_neg h1]
def zS(h:iu s=0):SpV s:=by
 unfold iu at h;split at h
 ·contradiction
 rename_i h1;split at h
 ·contradiction
 rename_i h2;exact⟨by simpa using h1,by simpa using h2⟩
structure RgV(n:Int)(rs:List hO):Prop where
 len:(rs.length:Int)=n
 val:∀s∈rs,SpV s
def Hd{rs:List hO}(h:jh n rs=0):RgV n rs:=by
 unfold jh at h;split at h
 ·cases h
 rename_i h1;exact⟨by simpa using h1,λs hs=>zS<|dG.1 h s hs⟩
noncomputable def OM(rs:List hO)(b:iA)(s:Nat):Int:=mH (HD<|rs.getD s default) b.s
def Fk(rs:List hO)(b:iA)(s:Nat)(hs:s<rs.length)(hl:rs.length<2^40)(hv:∀x∈rs,SpV x)(hb:Ov b):
 aL Tryz.prog 14 [.bT false 2 default fP rs,ew b,.i s] (.i<|OM rs b s)/\ -40000<=OM rs b s/\OM rs b s<=40:=by
 have hm:=hv _<|bz (d:=default) hs;have h1:=Aq (HD<|rs.getD s default) b.s (ve _) (M5 hm) hb.s (by decide);refine⟨?_,h1.2⟩;have es:(s:Int).toNat=s:=by omega
 refine bE Tryz.func14 rfl<|r1 rfl (by simp[ag]<;>omega) ?_;refine cd rfl (by rw[es];rfl) (ux (rs.getD s default) hm) rfl ?_;refine r0 rfl<|bG rfl h1.1 rfl<|k0 rfl (by kernel_rfl)<|bB rfl
noncomputable def Kl(rs:List hO)(f:EY):Rat:=mz<|bI f.dU*HD (rs.getD f.sh.toNat default)
noncomputable def x7(rs:List hO)(b:iA)(u:bO)(i:Nat):Int:=mH (Kl rs<|u.ah.getD i default)<|if u.kind=bo/\i=0 then b.d else b.s
def ns(rs:List hO)(b:iA)(u:bO)(i:Nat)(hu:jc n u)(hi:i<u.ah.length)(hr:RgV n rs)(hl:rs.length<2^40)(bt:u.ah.length<2^40)(hb:Ov b):
 aL Tryz.prog 15 [.bT false 2 default fP rs,ew b,dM u,.i i] (.i<|x7 rs b u i)/\ -40000<=x7 rs b u i/\x7 rs b u i<=40:=by
 have hf:=hu.feed _<|bz (d:=default) hi;have Nl:=hr.len;have hm:=hr.val _<|bz (d:=default)<|show(u.ah.getD i default).sh.toNat<rs.length by omega
 have cM:Sz (bI (u.ah.getD i default).dU*HD (rs.getD (u.ah.getD i default).sh.toNat default)) (67+67):=(eU hf.2.2.1).mul<|M5 hm;have ha:0<=Kl rs (u.ah.getD i default):=oS _;have hs:Sz (Kl rs<|u.ah.getD i default) (67+67):=cM.mz;have hmul:=fT (bI (u.ah.getD i default).dU) (HD<|rs.getD (u.ah.getD i default).sh.toNat default) (eU hf.2.2.1) (M5 hm) (by decide);rw[fO hf.2.2.1]at hmul;have hL:∀m:Int,0<=m/\m<=40->aL Tryz.prog 43 [.s<|qt<|Kl rs<|u.ah.getD i default,.i m] (.i<|mH (Kl rs<|u.ah.getD i default) m)/\ -40000<=mH (Kl rs<|u.ah.getD i default) m/\mH (Kl rs<|u.ah.getD i default) m<=40:=λm hm=>Aq (Kl rs<|u.ah.getD i default) m ha hs hm (by decide);have aiF:0<=(if u.kind=bo/\i=0 then b.d else b.s)/\(if u.kind=bo/\i=0 then b.d else b.s)<=40:=by split;exact hb.d;exact hb.s
 refine⟨?_,(hL _ aiF).2⟩;have ei:(i:Int).toNat=i:=by omega
 refine bE Tryz.func15 rfl<|r1 rfl (by simp only[ag,and_true,ei]<;>omega) ?_;refine bG rfl (ux (rs.getD (u.ah.getD i default).sh.toNat default) hm) rfl<|r1 rfl (by simp[ag,and_true,ei]<;>omega) ?_;refine bG rfl hmul rfl<|r0 rfl<|bG rfl (qh (bI (u.ah.getD i default).dU*HD (rs.getD (u.ah.getD i default).sh.toNat default))<|cM.sW<|by decide) rfl<|k0 rfl (by kernel_rfl)<|aC 31 rfl (λh1=>?_) (λh1=>?_)
 ·have h1:u.kind=bo:=h1;refine r0 rfl<|bH rfl (λh2=>?_) (λh2=>?_)
  ·have hc:u.kind=bo/\i=0:=⟨h1,by omega⟩;refine r0 rfl<|bF rfl (hL b.d hb.d).1 rfl<|r0 rfl<|aG rfl<|an.of_eq<|congrArg SV.i<|by unfold x7;rw[if_pos hc]
  have hc:¬(u.kind=bo/\i=0):=λg=>h2 (by omega);refine r0 rfl<|bF rfl (hL b.s hb.s).1 rfl<|r0 rfl<|aG rfl<|an.of_eq<|congrArg SV.i<|by unfold x7;rw[if_neg hc]
 have hc:¬(u.kind=bo/\i=0):=λg=>h1 g.1;refine r0 rfl<|bF rfl (hL b.s hb.s).1 rfl<|r0 rfl<|aG rfl<|an.of_eq<|congrArg SV.i<|by unfold x7;rw[if_neg hc]
end
structure Ou where
 less:Int
 adN:Int
 iT:Int
 deriving Inhabited
def mr(c:Ou):SV:=.agg [.i c.less,.i c.adN,.i c.iT]
noncomputable def DE(rs:List hO)(b:iA)(s:Nat):List Ou:=[⟨s,-1,OM rs b s⟩,⟨-1,s,40⟩]
noncomputable def Ik(rs:List hO)(b:iA)(u:bO):List Ou:=
 [⟨-1,-1,x7 rs b u 0+40⟩,⟨(u.ah.getD 0 default).sh,-1,x7 rs b u 0+b.g⟩,⟨-1,(u.ah.getD 0 default).sh,b.g-x7 rs b u 0⟩,⟨u.out,-1,x7 rs b u 1+x7 rs b u 0-b.c⟩,
  ⟨-1,u.out,40+b.c-x7 rs b u 0⟩,⟨u.out,(u.ah.getD 1 default).sh,b.g+x7 rs b u 0-b.c⟩,⟨(u.ah.getD 1 default).sh,u.out,b.g-x7 rs b u 0+b.c⟩]
noncomputable def th(rs:List hO)(b:iA)(u:bO)(k:Nat):List Ou:=[⟨u.out,-1,x7 rs b u k⟩,⟨u.out,(u.ah.getD k default).sh,b.g⟩,⟨(u.ah.getD k default).sh,u.out,b.g⟩]
noncomputable def N7(n:Int)(rs:List hO)(b:iA)(u:bO):List Ou:=[⟨n,-1,x7 rs b u 0⟩,⟨-1,n,40⟩,⟨n,(u.ah.getD 0 default).sh,b.g⟩,⟨(u.ah.getD 0 default).sh,n,b.g⟩]
noncomputable def xy(n:Int)(rs:List hO)(b:iA)(u:bO):List Ou:=if u.kind=bo then Ik rs b u else if u.kind=jJ then(List.range u.ah.length).flatMap (th rs b u)else if u.kind=dQ then N7 n rs b u else[]
def ug(us:List bO)(i:Nat):Nat:=(us.take i).countP λu=>decide (u.kind=dQ)
def Gx{us:List bO}{i:Nat}(h:i<us.length):ug us (i+1)=ug us i+if us[i].kind=dQ then 1 else 0:=by unfold ug;rw[ac6 h,ahj];by_cases g:us[i].kind=dQ<;>simp
def PU(us:List bO)(i:Nat):ug us i<=i:=acX agV (by simp;omega)
noncomputable def ot(rs:List hO)(b:iA)(s:Nat):List Ou:=(List.range s).flatMap<|DE rs b
noncomputable def mv(n:Nat)(us:List bO)(rs:List hO)(b:iA)(i:Nat):List Ou:=ot rs b n++(List.range i).flatMap λj=>xy ((n+ug us j:Nat):Int) rs b<|us.getD j default
noncomputable def rr(n:Nat)(us:List bO)(rs:List hO)(b:iA):List Ou:=mv n us rs b us.length
def iE{α:Type}(f:Nat->List α)(i:Nat):(List.range<|i+1).flatMap f=(List.range i).flatMap f++f i:=by rw[ai1];simp
def cJ{α:Type}{f:Nat->List α}{c:Nat}(h:∀i,(f i).length<=c):∀n,((List.range n).flatMap f).length<=n*c
 |0=>by simp
 |n+1=>by have:=cJ h n;have:=h n;rw[iE,acW,aiv];omega
def oq(n:Nat)(us:List bO)(rs:List hO)(b:iA)(i:Nat):mv n us rs b (i+1)=mv n us rs b i++xy ((n+ug us i:Nat):Int) rs b (us.getD i default):=by unfold mv;rw[iE,acV]
def zn(p:kx)(h:ye p)(n:Nat)(hn:p.n=n)(UH:n<=100)(X3:p.aa.length<=96)(hv:∀u∈p.aa,jc p.n u)(rs:List hO)(b:iA)(hr:RgV p.n rs)(hb:Ov b):
 aL Tryz.prog 13 [bh p,.bT false 2 default fP rs,ew b] (.bT true 3 default mr<|rr n p.aa rs b):=by
 have D8:=h.aa;have Nl:rs.length=n:=by have:=hr.len;omega
 have hU:∀i,(hi:i<p.aa.length)->(xy ((n+ug p.aa i:Nat):Int) rs b<|p.aa.getD i default).length<=24:=by
  intro i hi;have hu:=hv _<|ab9 hi;rw[aw hi];unfold xy;split
  ·simp[Ik]
  split
  ·rename_i g;have:=cJ (f:=th rs b p.aa[i]) (c:=3) (λk=>by simp[th]) p.aa[i].ah.length;have:=(hu.add g).2.1;omega
  split
  ·simp[N7]
  simp
 have hto:∀i,i<=p.aa.length->(mv n p.aa rs b i).length<=200+24*i:=by
  intro i
  induction i with
  |zero=>intro _;have:=cJ (f:=DE rs b) (c:=2) (λk=>by simp[DE]) n;simp only[mv,ot,List.range_zero,List.flatMap_nil,adw];omega
  |succ i ih=>intro hi;have:=ih (by omega);have:=hU i (by omega);rw[oq,acW];omega
 refine bE Tryz.func13 rfl<|b8 4 [(1,.bT false 2 default fP rs),(3,.box true<|bh p),(5,.box true<|ew b),(7,.bT true 3 default mr<|ot rs b n),(8,.i<|-1)] True ?_ λ_=>?_
 ·refine r0 rfl<|loop (λs:Nat=>[(1,.bT false 2 default fP rs),(3,.box true<|bh p),(5,.box true<|ew b),(7,.bT true 3 default mr<|ot rs b s),(8,.i<|-1),(9,.i s)]) (λs=>s<=n) (λs=>n-s) 0 (abC _) ⟨ab,ab,ab,ab,ab,ab,ao⟩ ?_;intro s hs;have wX:(ot rs b s).length<=s*2:=cJ (f:=DE rs b) (c:=2) (λk=>by simp[DE]) s;refine r0 rfl<|bH rfl (λh1=>?_) (λh1=>?_)
  ·obtain⟨c1,c2,c3⟩:=Fk rs b s (by omega) (by omega) hr.val hb;refine r0 rfl<|bF rfl c1 rfl<|r1 rfl (by simp only[ag,and_true,len,acZ,acU,acY]<;>omega) ?_;refine again (s+1) (by omega) (by omega) ⟨ab,ab,ab,⟨rfl,rfl,rfl,?_⟩,ab,ab,ao⟩;rw[c8,ot,ot,iE,ac9];exact jd.refl _
  have:s=n:=by omega
  subst this;refine r0 rfl<|aP ao ⟨ab,ab,ab,ab,ab,ao⟩
 have h0:ot rs b n=mv n p.aa rs b 0:=by unfold mv;simp
 rw[h0];refine r0 rfl<|loop (λi:Nat=>[(1,.bT false 2 default fP rs),(3,.box true<|bh p),(5,.box true<|ew b),(7,.bT true 3 default mr<|mv n p.aa rs b i),(8,.i<|-1),(10,.i<|ug p.aa i),(11,.i i)])
  (λi=>i<=p.aa.length) (λi=>p.aa.length-i) 0 (abC _) ⟨ab,ab,ab,ab,ab,ab,ab,ao⟩ ?_
 intro i hi;refine r0 rfl<|bH rfl (λh1=>?_) (λh1=>?_)
 ·have aZ:i<p.aa.length:=by omega
  have ei:(i:Int).toNat=i:=by omega
  have eg:p.aa.getD i default=p.aa[i]:=aw aZ;have hu:=hv _<|ab9 aZ;have huo:=hu.out;have CS:=(h.unit _<|ab9 aZ).ah;have hlen:=hto i hi;have eR:=oq n p.aa rs b i;have KD:=Gx aZ;have Bg:=PU p.aa i;rw[eg]at eR;refine r1 rfl (by simp only[ag,and_true,ei]<;>omega) ?_;rw[ei,eg];obtain⟨u,eu⟩:∃u,p.aa[i]=u:=⟨_,rfl⟩;rw[eu]at hu huo CS eR KD⊢;have uF:Int.toNat 0=0:=rfl;have YJ:Int.toNat 1=1:=rfl;have kIA:=BC;have kIT:=wQ;have kAT:=BD;have hg:=hb.g;have hc:=hb.c;refine bH rfl (λh2=>?_) (λh2=>?_)
  ·have h2:u.kind=bo:=h2;have hnA:¬u.kind=jJ:=by rw[h2];exact kIA
   have Pn:¬u.kind=dQ:=by rw[h2];exact kIT
   have RH:=(hu.int h2).1;rw[if_neg Pn]at KD;obtain⟨c1,c2,c3⟩:=ns rs b u 0 hu (by omega) hr (by omega) CS hb;obtain⟨d1,d2,d3⟩:=ns rs b u 1 hu (by omega) hr (by omega) CS hb;unfold xy at eR;rw[if_pos h2]at eR;refine r0 rfl<|bF rfl c1 rfl<|k1 rfl (by kernel_rfl) (by simp only[ag,and_true,uF,YJ]<;>omega) ?_;rw[uF,YJ];refine bF rfl d1 rfl<|r1 rfl (by simp only[ag,and_true,len,acZ,acU,acY]<;>omega) ?_;refine bH rfl (λh3=>absurd h3 hnA) λ_=>?_;refine r0 rfl<|bH rfl (λh3=>absurd h3 Pn) λ_=>?_;refine r1 rfl (by simp only[ag,and_true]<;>omega) ?_;refine again (i+1) (by omega) (by omega) ⟨ab,ab,ab,⟨rfl,rfl,rfl,?_⟩,ab,⟨rfl,an.of_eq<|congrArg SV.i<|by rw[KD];omega⟩,ab,ao⟩;rw[c8,eR,ac9];exact jd.refl _
  have h2:¬u.kind=bo:=h2;unfold xy at eR;rw[if_neg h2]at eR;refine r0 rfl<|bH rfl (λh3=>?_) (λh3=>?_)
  ·have h3:u.kind=jJ:=h3;have Pn:¬u.kind=dQ:=by rw[h3];exact kAT
   rw[if_neg Pn]at KD;rw[if_pos h3]at eR;have hf8:=(hu.add h3).2.1;refine r0 rfl<|loop (λk:Nat=>[(1,.bT false 2 default fP rs),(3,.box true<|bh p),(5,.box true<|ew b),(7,.bT true 3 default mr<|mv n p.aa rs b i++(List.range k).flatMap (th rs b u)),(8,.i<|-1),(10,.i<|ug p.aa i),(11,.i i),(12,.box true<|dM u),(13,.i u.out),(14,.i b.g),(19,.i k)])
    (λk=>k<=u.ah.length) (λk=>u.ah.length-k) 0 (abC _) ⟨ab,ab,ab,⟨rfl,an.of_eq<|congrArg (SV.bT true 3 default mr)<|by simp⟩,ab,ab,ab,ab,ab,ab,ab,ao⟩ ?_
   intro k hk;have RE:((List.range k).flatMap<|th rs b u).length<=k*3:=cJ (f:=th rs b u) (c:=3) (λk=>by simp[th]) k;refine r0 rfl<|bH rfl (λh4=>?_) (λh4=>?_)
   ·have gp:k<u.ah.length:=by omega
    have ek:(k:Int).toNat=k:=by omega
    obtain⟨c1,c2,c3⟩:=ns rs b u k hu gp hr (by omega) CS hb;refine r1 rfl (by simp only[ag,and_true,ek]<;>omega) ?_;rw[ek];refine bF rfl c1 rfl<|r1 rfl (by simp only[ag,and_true,len,acZ,acW,acU,acY]<;>omega) ?_;refine again (k+1) (by omega) (by omega) ⟨ab,ab,ab,⟨rfl,rfl,rfl,?_⟩,ab,ab,ab,ab,ab,ab,ab,ao⟩;rw[c8,iE,<-acV,ac9 (l₂:=th rs b u k)];exact jd.refl _
   have:k=u.ah.length:=by omega
   subst this;rw[<-eR];refine r0 rfl<|bH rfl (λh3=>absurd h3 Pn) λ_=>?_;refine r1 rfl (by simp only[ag,and_true]<;>omega) ?_;exact again (i+1) (by omega) (by omega) ⟨ab,ab,ab,ab,ab,⟨rfl,an.of_eq<|congrArg SV.i<|by rw[KD];omega⟩,ab,ao⟩
  have h3:¬u.kind=jJ:=h3;rw[if_neg h3]at eR;refine r0 rfl<|bH rfl (λh4=>?_) (λh4=>?_)
  ·have h4:u.kind=dQ:=h4;rw[if_pos h4]at eR KD;have KA:=(hu.table h4).1;obtain⟨c1,c2,c3⟩:=ns rs b u 0 hu (by omega) hr (by omega) CS hb;have Yb:p.n+(ug p.aa i:Int)=((n+ug p.aa i:Nat):Int):=by omega
   refine r1 rfl (by simp only[ag,and_true,uF]<;>omega) ?_;rw[uF,Yb];refine bF rfl c1 rfl<|r1 rfl (by simp only[ag,and_true,len,acZ,acU,acY]<;>omega) ?_;refine again (i+1) (by omega) (by omega) ⟨ab,ab,ab,⟨rfl,rfl,rfl,?_⟩,ab,⟨rfl,an.of_eq<|congrArg SV.i<|by rw[KD];omega⟩,ab,ao⟩;rw[c8,eR,ac9];exact jd.refl _
  rcases hu.kind with g|g|g
  ·exact absurd g h2
  ·exact absurd g h3
  exact absurd g h4
 have:i=p.aa.length:=by omega
 subst this;refine r0 rfl<|bB rfl
end Go.Ai
namespace Go.Ai.cY
section
variable{l:List Int}{m n:Nat}
def B9:Nat:=18446744073709551616
def ae(n:Nat):List Int:=if h:n=0 then[]else((n%B9:Nat):Int)::ae (n/B9)
 termination_by n
 decreasing_by exact afK (afS h) (by decide)
def val:List Int->Int
 |[]=>0
 |d::l=>d+18446744073709551616*val l
def gU(l:List Int):Prop:=∀d∈l,0<=d/\d<18446744073709551616
def cD:ae 0=[]:=by rw[ae];simp
def bc(n:Nat):val (ae n)=n:=by
 induction n using Nat.strongRecOn with
 |_ n ih=>
  rw[ae];split
  ·rename_i h;subst h;rfl
  rename_i h;have cS:n/B9<n:=afK (afS h) (by decide);simp[val,ih _ cS];unfold B9;omega
def bk(n:Nat):gU (ae n):=by
 induction n using Nat.strongRecOn with
 |_ n ih=>
  rw[ae];split
  ·intro d hd;cases hd
  rename_i h;have cS:n/B9<n:=afK (afS h) (by decide);intro d hd;rcases aci.1 hd with rfl|hd
  ·unfold B9;omega
  exact ih _ cS d hd
def aY:∀{l:List Int},gU l->0<=val l
 |[],_=>by simp[val]
 |d::l,h=>by have h1:=h d (by simp);have h2:=aY (l:=l) λx hx=>h x (by simp[hx]);simp[val];omega
def eM(l:List Int)(d:Int):val (l++[d])=val l+d*18446744073709551616^l.length:=by
 induction l with
 |nil=>simp[val]
 |cons x l ih=>simp[val,ih,adf];rw[ahv];simp only[Int.add_assoc];congr 2;rw[<-adh,adj 18446744073709551616,adh,adj 18446744073709551616]
def ia:∀{l:List Int},gU l->val l<18446744073709551616^l.length
 |[],_=>by simp[val]
 |d::l,h=>by have h1:=h d (by simp);have h2:=ia (l:=l) λx hx=>h x (by simp[hx]);simp[val];omega
def tc:∀{l:List Int},gU l->l.getLast?≠some 0->ae (val l).toNat=l
 |[],_,_=>by simp[val,cD]
 |d::l,h,hz=>by
  have h1:=h d (by simp);have hl:gU l:=λx hx=>h x (by simp[hx]);have h2:=aY hl;have hz':l.getLast?≠some 0:=by
   cases l with
   |nil=>simp
   |cons x l=>simpa using hz
  have ih:=tc hl hz';have dc:(val<|d::l).toNat≠0:=by
   simp only[val];intro h0;have hd:d=0:=by omega
   have hv:val l=0:=by omega
   cases l with
   |nil=>subst hd;simp at hz
   |cons x l=>rw[hv]at ih;simp[cD]at ih
  rw[ae,dif_neg dc];have e1:(((val<|d::l).toNat%B9:Nat):Int)=d:=by simp[val];unfold B9;omega
  have e2:(val<|d::l).toNat/B9=(val l).toNat:=by simp[val];unfold B9;omega
  rw[e1,e2,ih]
def tS(h:gU l)(hz:l.getLast?≠some 0)(hv:val l=n):l=ae n:=by have:=tc h hz;rw[hv]at this;simpa using this.symm
def pW(n:Nat):(ae n).getLast?≠some 0:=by
 induction n using Nat.strongRecOn with
 |_ n ih=>
  rw[ae];split
  ·simp
  rename_i h;have cS:n/B9<n:=afK (afS h) (by decide);have:=ih _ cS;cases hl:ae (n/B9)with
  |nil=>intro he;have hv:=bc<|n/B9;rw[hl]at hv;simp[val]at hv;simp at he;unfold B9 at he hv;omega
  |cons x l=>rw[hl]at this;simpa using this
def aH(l:List Int)(i:Nat):val (l.take<|i+1)=val (l.take i)+l.getD i 0*18446744073709551616^i:=by
 by_cases h:i<l.length
 ·rw[ac6 h,eM];simp[acL h,ae0<|af6 h]
 rw[acR<|by omega,acR<|by omega];simp[adA<|show l.length<=i by omega]
def a7(h:gU l)(i:Nat):0<=l.getD i 0/\l.getD i 0<18446744073709551616:=by
 by_cases hi:i<l.length
 ·have:=h l[i] (ab9 hi);simpa[acL hi]using this
 simp[adA<|show l.length<=i by omega]
def cG(n:Nat):(0:Int)<18446744073709551616^n:=Int.pow_pos (by decide)
def qU(h:gU l)(hl:l.getLast?≠some 0):l=[]\/18446744073709551616^(l.length-1)<=val l:=by
 rcases ajA l with rfl|⟨l,d,rfl⟩
 ·exact .inl rfl
 right;rw[ajB]at*;rw[eM];have h1:=aY (l:=l) λx hx=>h x (by simp[hx]);have h2:=h d (by simp);simp at hl;simp;have h3:=cG l.length;have:1*18446744073709551616^l.length<=d*18446744073709551616^l.length:=afL (by omega) (by omega);omega
def fZ(n:Nat):ae n=[]\/(18446744073709551616:Int)^((ae n).length-1)<=n:=by have:=qU (bk n)<|pW n;rwa[bc]at this
def cQ:List Int->List Int
 |[]=>[]
 |d::l=>match cQ l with
  |[]=>if d=0 then[]else[d]
  |x::r=>d::x::r
def ma:∀l:List Int,cQ (l++[0])=cQ l
 |[]=>by simp[cQ]
 |d::l=>by simp[cQ,ma l]
def nH:∀{l:List Int},l.getLast?≠some 0->cQ l=l
 |[],_=>rfl
 |[d],h=>by simp at h;simp[cQ,h]
 |d::x::l,h=>by have:=nH (l:=x::l) h;rw[cQ,this]
def uN{w:List Int}(hn:n+1=w.length)(h:w.getD n 0=0):cQ (w.take n)=cQ w:=by
 have e:w=w.take n++[0]:=by
  have h1:n<w.length:=by omega
  have h2:w[n]=0:=by simpa[acL h1]using h
  have h3:=ac6 h1;rw[acR<|by omega,h2]at h3;exact h3
 conv=>rhs;rw[e,ma]
def pq:∀l:List Int,val (cQ l)=val l
 |[]=>rfl
 |d::l=>by
  have ih:=pq l;simp[cQ];split
  ·rename_i h;rw[h]at ih;simp[val]at ih⊢;split
   ·rename_i h0;simp[val];omega
   simp[val];omega
  rename_i x r h;rw[h]at ih;simp[val]at ih⊢;omega
def dV(h:gU l):cQ l=ae (val l).toNat:=by
 have h1:gU (cQ l)/\(cQ l).getLast?≠some 0:=by
  induction l with
  |nil=>exact⟨h,by simp[cQ]⟩
  |cons d l ih=>
   obtain⟨i1,i2⟩:=ih λx hx=>h x (by simp[hx]);have hd:=h d (by simp);simp[cQ];split
   ·split
    ·simp_all
    rename_i h0;exact⟨λx hx=>by simp at hx;subst hx;exact hd,by simpa using h0⟩
   rename_i x r he;rw[he]at i1 i2;exact⟨λy hy=>by
    rcases aci.1 hy with rfl|hy
    ·exact hd
    exact i1 y hy,i2⟩
 rw[tS h1.1 h1.2 (n:=(val l).toNat) (by rw[pq];have:=aY h;omega)]
def gI(l:List Int)(k:Nat):val l=val (l.take k)+18446744073709551616^(l.take k).length*val (l.drop k):=by
 induction l generalizing k with
 |nil=>simp[val]
 |cons d l ih=>
  cases k with
  |zero=>simp[val]
  |succ k=>simp[val];grind
def aaq(h:gU l)(k:Nat):gU (l.take k):=λx hx=>h x<|af5 hx
def bQ(n:Nat):(n:Int)<18446744073709551616^(ae n).length:=by have:=ia<|bk n;rwa[bc]at this
def eI(h:n≠0):0<(ae n).length:=by rw[ae,dif_neg h];simp
def ij{a b:Nat}(h:a<=b):(18446744073709551616:Int)^a<=18446744073709551616^b:=by obtain⟨k,rfl⟩:=Nat.exists_eq_add_of_le h;rw[afq];have h1:=cG a;have h2:=cG k;have:=aec (show(1:Int)<=18446744073709551616^k by omega)<|ads h1;omega
def b6(h:(ae m).length<(ae n).length):m<n:=by
 have h1:=bQ m;rcases fZ n with h2|h2
 ·rw[h2]at h;cases h
 have h3:(18446744073709551616:Int)^(ae m).length<=18446744073709551616^((ae n).length-1):=ij (by omega);omega
def ou(m n:Nat):Int:=if m<n then -1 else if n<m then 1 else 0
def mj{k:Nat}(hk:k<(ae m).length)(hl:(ae m).length=(ae n).length)(hd:(ae m).drop (k+1)=(ae n).drop (k+1))(h:(ae m).getD k 0<(ae n).getD k 0):m<n:=by
 have e1:=gI (ae m)<|k+1;have e2:=gI (ae n)<|k+1;rw[bc,aH]at e1 e2;rw[hd]at e1;have l1:((ae m).take<|k+1).length=k+1:=by simp;omega
 have l2:((ae n).take<|k+1).length=k+1:=by simp;omega
 rw[l1]at e1;rw[l2]at e2;have b1:=ia<|aaq (bk m) k;have b2:=aY<|aaq (bk n) k;have l3:((ae m).take k).length=k:=by simp;omega
 rw[l3]at b1;have hp:=cG k;have:((ae m).getD k 0+1)*18446744073709551616^k<=(ae n).getD k 0*18446744073709551616^k:=afL (by omega) (by omega);rw[ada]at this;omega
def kC:∀{l:List Int}{j:Nat}(y:Int),j<l.length->val (l.set j y)=val l+(y-l.getD j 0)*18446744073709551616^j
 |[],j,y,h=>by cases h
 |d::l,0,y,_=>by simp[val];omega
 |d::l,j+1,y,h=>by have:=kC (l:=l) (j:=j) y (by simpa using h);simp[val];grind
def eK(h:gU l){j:Nat}{y:Int}(hy:0<=y/\y<18446744073709551616):gU (l.set j y):=by
 intro x hx;rcases aif hx with hx|hx
 ·exact h x hx
 subst hx;exact hy
def b7(l:List Int)(j k:Nat)(y:Int):(l.set j y).getD k 0=if j=k/\k<l.length then y else l.getD k 0:=by
 by_cases h:j=k
 ·subst h;by_cases h2:j<l.length
  all_goals simp[h2]
 simp[h]
def iB(n:Nat):val (List.replicate n 0)=0:=by
 induction n with
 |zero=>rfl
 |succ n ih=>simp[ag7,val,ih]
def ff(n:Nat):gU (List.replicate n 0):=λx hx=>by rw[ahw hx];omega
def fw(n k:Nat):(List.replicate n (0:Int)).getD k 0=0:=by simp[agP];split<;>rfl
end
def cV:Nat->Int->Int->Int->Int->Int->Int
 |0,t,_,_,_,_=>t
 |k+1,t,r,v1,v2,u2=>if 18446744073709551616<=t\/r*18446744073709551616+u2<t*v2 then(if 18446744073709551616<=r+v1 then t-1 else cV k (t-1) (r+v1) v1 v2 u2)else t
def fU{a b c:Int}(h:a<=b)(hc:0<=c):a*c<=b*c:=afL h hc
def sU{v1 v2 u2 top P vl ul U V:Int}(hP:0<P)(Rv:1<=v1)(ZH:0<=v2/\v2<18446744073709551616)(X4:0<=u2/\u2<18446744073709551616)(Ek:0<=vl/\vl<P)(D8:0<=ul/\ul<P)
 (hV:V=v1*(18446744073709551616*P)+v2*P+vl)(hU:U=top*(18446744073709551616*P)+u2*P+ul)(hUV:U<18446744073709551616*V):
 ∀(k:Nat)(t r:Int),k=t.toNat->0<=t->0<=r->t*v1+r=top->U<(t+1)*V->U<(cV k t r v1 v2 u2+1)*V/\(cV k t r v1 v2 u2-1)*V<=U/\0<=cV k t r v1 v2 u2/\cV k t r v1 v2 u2<=t:=by
 have hvP:v2*P+vl<18446744073709551616*P:=by have:=fU (show v2+1<=18446744073709551616 by omega)<|ads hP;rw[ada]at this;omega
 have aic:0<=v2*P:=adT ZH.1 (by omega);have IL:0<V:=by have:=fU Rv (show 0<=18446744073709551616*P by omega);omega
 have Ut:top<18446744073709551616*v1+18446744073709551616:=by
  have h1:top*(18446744073709551616*P)<(18446744073709551616*v1+18446744073709551616)*(18446744073709551616*P):=by
   have h2:0<=u2*P:=adT X4.1 (by omega);have h3:(18446744073709551616*v1+18446744073709551616)*(18446744073709551616*P)=18446744073709551616*(v1*(18446744073709551616*P))+18446744073709551616*(18446744073709551616*P):=by grind
   omega
  exact ahc h1 (by omega)
 have Nx:∀t r:Int,0<=t->t<18446744073709551616->t*v1+r=top->t*v2<=r*18446744073709551616+u2->(t-1)*V<=U:=by
  intro t r h0 h1 h2 h3;have e1:t*V=t*v1*(18446744073709551616*P)+t*v2*P+t*vl:=by rw[hV];grind
  have e2:t*v1*(18446744073709551616*P)=top*(18446744073709551616*P)-r*18446744073709551616*P:=by rw[<-h2];grind
  have e3:=fU h3<|ads hP;rw[ada]at e3;have e4:t*vl<=18446744073709551616*P:=by have a:=aec (ads Ek.2) h0;have b:=fU (ads h1)<|ads hP;omega
  have e5:=fU Rv (show 0<=18446744073709551616*P by omega);rw[aew,agv,e1,e2,hU];omega
 have less:∀t r:Int,0<=t->t*v1+r=top->(18446744073709551616<=t\/r*18446744073709551616+u2<t*v2)->U<t*V:=by
  intro t r h0 h2 h3;rcases h3 with h3|h3
  ·have:=fU h3<|ads IL;omega
  have e1:t*V=t*v1*(18446744073709551616*P)+t*v2*P+t*vl:=by rw[hV];grind
  have e2:t*v1*(18446744073709551616*P)=top*(18446744073709551616*P)-r*18446744073709551616*P:=by rw[<-h2];grind
  have e3:=fU (show r*18446744073709551616+u2+1<=t*v2 by omega)<|ads hP;rw[ada,ada]at e3;have e4:0<=t*vl:=adT h0 Ek.1;rw[e1,e2,hU];omega
 intro k
 induction k with
 |zero=>
  intro t r hk h0 hr h2 hq;have:t=0:=by omega
  subst this;simp only[cV];refine⟨hq,?_,by omega,by omega⟩;exact Nx 0 r (by omega) (by omega) h2 (by omega)
 |succ k ih=>
  intro t r hk h0 hr h2 hq;simp[cV];by_cases hc:18446744073709551616<=t\/r*18446744073709551616+u2<t*v2
  ·rw[if_pos hc];have hl:=less t r h0 h2 hc;have Gf:(t-1)*v1+(r+v1)=top:=by rw[aew];omega
   by_cases sc:18446744073709551616<=r+v1
   ·rw[if_pos sc];have e:t-1+1=t:=by omega
    rw[e];refine⟨hl,?_,by omega,by omega⟩;have hs:t-1<18446744073709551616:=by
     have:(t-1)*v1<18446744073709551616*v1:=by omega
     exact ahc this (by omega)
    refine Nx (t-1) (r+v1) (by omega) hs Gf ?_;have a:(t-1)*v2<=(t-1)*18446744073709551616:=aec (by omega) (by omega);omega
   rw[if_neg sc];have e:t-1+1=t:=by omega
   obtain⟨a,b,c,d⟩:=ih (t-1) (r+v1) (by omega) (by omega) (by omega) Gf (by rw[e];exact hl);exact⟨a,b,c,by omega⟩
  rw[if_neg hc];refine⟨hq,?_,h0,by omega⟩;have h4:t<18446744073709551616:=by omega
  exact Nx t r h0 h4 h2 (by omega)
def eJ{w:List Int}{j k:Nat}{y:Int}(h:j<=k):(w.set k y).take j=w.take j:=by rw[List.take_set_of_le h]
def mu{f:Nat}(h0:0<f)(h1:f<18446744073709551616):ae f=[(f:Int)]:=by
 refine(tS (λd hd=>?_) ?_ ?_).symm
 ·simp at hd;omega
 ·simp;omega
 simp[val]
end Go.Ai.cY
namespace Go.Ai.cY
open Go.Proofs Go.Ai
def KS{P:Program}{f:FuncId}{k:IntKind}{qs rs:List Int}(h:∀w:World,(callFunc f (qs.map λa=>Value.int k a).toArray).run P w=.ok (.value<|.tuple (rs.map λa=>Value.int k a).toArray) w):
 aL P f (qs.map λa=>SV.n k a) (.bX<|rs.map λa=>SV.n k a):=by
 intro w S vs _ hS hc;have key:∀(l:List Int)(vs:List Value),Cells w S false (au<|l.map λa=>SV.n k a) vs []->vs=l.map λa=>Value.int k a:=by
  intro l
  induction l with
  |nil=>intro vs hc;exact hc.1
  |cons a l ih=>intro vs hc;obtain⟨y,l',F1,F2,rfl,hF,_,hr,hc⟩:=hc;obtain⟨rfl,rfl⟩:=ag8.1 hF.symm;rw[hr.2.1,ih l' hc];rfl
 have e:=key qs vs hc;subst e;have gM:∀l:List Int,Cells w S false (au<|l.map λa=>SV.n k a) (l.map λa=>Value.int k a) []:=by
  intro l
  induction l with
  |nil=>simp[au,Cells]
  |cons a l ih=>exact⟨_,_,[],[],rfl,rfl,by simp,by simp[SV.den,Rel,scalar],ih⟩
 intro rd o a next Q hK
 rw[h w];refine hK _ _ ⟨S,[],Go.RowKit.Below.refl _ _,λ_ h=>h,λ_ h=>.inl h,hS,?_,adn,by simp⟩;exact⟨_,rfl,gM rs⟩
def fg(x y c:Nat)(hc:c<=1):aL Tryz.prog 239 [.n .u64 x,.n .u64 y,.n .u64 c] (.bX [.n .u64 ((x+y+c)%2^64:Nat),.n .u64 ((x+y+c)/2^64:Nat)]):=by
 refine KS (qs:=[(x:Int),y,c]) (rs:=[(((x+y+c)%2^64:Nat):Int),(((x+y+c)/2^64:Nat):Int)]) λw=>?_;refine(run_callFunc_extern (fn:=Tryz.f239) Tryz.func239 (by kernel_rfl) (by kernel_rfl) (by kernel_rfl) (e:=add64Entry) (by kernel_rfl) _ w).trans ?_;have:=run_add64 (P:=Tryz.prog) x y c (by omega) (by omega) (by omega) (by omega) w;simp only[ado,afI];rw[this];simp only[Result.andThen]
 congr 4<;>simp
def pt(x y b:Nat)(hb:b<=1):aL Tryz.prog 253 [.n .u64 x,.n .u64 y,.n .u64 b] (.bX [.n .u64 ((x+2^64-y-b)%2^64:Nat),.n .u64 ((if x<y+b then 1 else 0:Nat):Int)]):=by refine KS (qs:=[(x:Int),y,b]) (rs:=[(((x+2^64-y-b)%2^64:Nat):Int),((if x<y+b then 1 else 0:Nat):Int)]) λw=>?_;refine(run_callFunc_extern (fn:=Tryz.f253) Tryz.func253 (by kernel_rfl) (by kernel_rfl) (by kernel_rfl) (e:=sub64Entry) (by kernel_rfl) _ w).trans ?_;have:=run_sub64 (P:=Tryz.prog) x y b hb w;simp only[ado,afI];rw[this];rfl
def dm(xs:List Int)(hx:xs.length<2^60):aL Tryz.prog 240 [.ints .u64 false xs] (.ints .u64 false<|cQ xs):=by
 refine bE Tryz.func240 rfl<|r0 rfl<|loop (λn:Nat=>[(0,.ints .u64 false xs),(3,.i n)]) (λn=>n<=xs.length/\cQ (xs.take n)=cQ xs) (λn=>n) xs.length ⟨abZ _,by rw[adF]⟩ ⟨ab,ab,ao⟩ ?_;rintro n⟨hn,hw⟩;refine r0 rfl<|aC 8 rfl (λh=>?_) (λh=>?_)
 ·have e:(((n:Nat):Int)-1).toNat=n-1:=by omega
  refine r1 rfl (by simp[ag,and_true]<;>omega) ?_;rw[e];refine bH rfl (λh0=>?_) (λh0=>?_)
  ·refine r1 rfl (by simp[ag,and_true]<;>omega) ?_;refine again (n-1) (by omega) ⟨by omega,?_⟩ ⟨ab,⟨rfl,an.of_eq<|congrArg SV.i<|by omega⟩,ao⟩;rw[<-hw];have:=uN (w:=xs.take n) (n:=n-1) (by rw[ac2];omega) (by
    rw[aca,agn<|by omega,<-aca];exact h0)
   rw[ahp,ae0<|by omega]at this;exact this
  have en:(n:Int).toNat=n:=by omega
  refine r1 rfl (by simp[ag,and_true]<;>omega) ?_;refine aG rfl ?_;rw[en];refine an.of_eq<|congrArg (SV.ints .u64 false) ?_;rw[aeP,ain,<-hw];refine(nH ?_).symm;intro hl;rw[ajC,ac2,ae0 hn,agn<|by omega]at hl;apply h0;rw[aca,hl];rfl
 have:n=0:=by omega
 subst this;refine r1 rfl (by simp[ag,and_true]<;>omega) ?_;refine aG rfl<|an.of_eq<|congrArg (SV.ints .u64 false) ?_;rw[<-hw];simp[cQ]
def oo(m n:Nat)(h1:(ae m).length<2^60)(h2:(ae n).length<2^60):aL Tryz.prog 223 [.ints .u64 false<|ae m,.ints .u64 false<|ae n] (.i<|ou m n):=by
 refine bE Tryz.func223 rfl<|r0 rfl<|bH rfl (λh=>?_) (λh=>?_)
 ·refine r0 rfl<|bH rfl (λh3=>?_) (λh3=>?_)
  ·refine r0 rfl<|aG rfl<|bC ?_;have:=b6 (m:=m) (n:=n) (by omega);simp[ou,this]
  refine r0 rfl<|aG rfl<|bC ?_;have:=b6 (m:=n) (n:=m) (by omega);simp[ou];rw[if_neg<|by omega,if_pos this]
 have hl:(ae m).length=(ae n).length:=by omega
 refine r1 rfl (by simp[ag,and_true];omega) ?_;refine loop (λi:Nat=>[(0,.ints .u64 false<|ae m),(1,.ints .u64 false<|ae n),(5,.i<|(i:Int)-1)]) (λi=>i<=(ae m).length/\(ae m).drop i=(ae n).drop i) (λi=>i) (ae m).length ⟨by omega,?_⟩
  ⟨ab,ab,ab,ao⟩ ?_
 ·rw[adt<|abZ _,adt<|by omega]
 rintro i⟨hi,hd⟩;refine r0 rfl<|bH rfl (λh3=>?_) (λh3=>?_)
 ·obtain⟨k,rfl⟩:∃k,i=k+1:=⟨i-1,by omega⟩;have et:(((k+1:Nat):Int)-1).toNat=k:=by omega
  refine k1 rfl (by kernel_rfl) (by simp[ag,and_true];omega) ?_;refine bH rfl (λh4=>?_) (λh4=>?_)
  ·rw[et]at h4;refine k1 rfl (by kernel_rfl) (by simp[ag,and_true];omega) ?_;refine bH rfl (λh5=>?_) (λh5=>?_)
   ·rw[et]at h5;refine r0 rfl<|aG rfl<|bC ?_;have:=mj (by omega) hl hd h5;simp[ou,this]
   rw[et]at h5;refine r0 rfl<|aG rfl<|bC ?_;have:=mj (by omega) hl.symm hd.symm (by omega);simp[ou];rw[if_neg<|by omega,if_pos this]
  rw[et]at h4;refine r1 rfl (by simp[ag,and_true];omega) ?_;refine again k (ahb _) ⟨by omega,?_⟩ ⟨ab,ab,⟨rfl,an.of_eq<|congrArg SV.i<|by omega⟩,ao⟩;have e:(ae m).getD k 0=(ae n).getD k 0:=by omega
  rw[ac4<|show k<(ae m).length by omega,ac4<|show k<(ae n).length by omega,hd]
  congr 1
  simpa[aca,acL<|show k<(ae m).length by omega,acL<|show k<(ae n).length by omega]using e
 have:i=0:=by omega
 subst this;refine r0 rfl<|aG rfl<|bC ?_;have e:ae m=ae n:=by simpa using hd
 have:m=n:=by have:=congrArg val e;rw[bc,bc]at this;omega
 simp[ou,this]
end Go.Ai.cY
