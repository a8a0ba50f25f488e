/- Parts of the proof of ScaleLimits (Limits and Conditions return the results or the errors of the reference), at every input, with no further conditions. -/
import Derived.Test.YtdgocdadfmhjgaaGreatDoorZAK
set_option linter.all false
set_option maxRecDepth 100000
set_option maxHeartbeats 0
namespace Go.Ai
open Go.Proofs Go.RowKit
section
variable{m x:Int}{l:List Int}{i:Nat}
def rn{R:Option Nat->Prop}{N:Nat}{F:St->Prop}{k:List It}{l:aV}(m:Nat){k':List It}{l':aV}(h:run tt [] N m k l [] []=([],[],k',l'))(hk:AK R Tryz.prog N F k' l'):AK R Tryz.prog N F k l:=(nn hA hm h ao rfl).2.2 hk
def kH{α:Type}(l:List α)(i:Nat)(x:α):(l.set i x).length=l.length:=adF
def uB(h:i<l.length):(l.set i x).getD i 0=x:=by rw[abc,List.getElem?_set_self h];rfl
def getD_set_ne{j:Nat}(h:i≠j):(l.set i x).getD j 0=l.getD j 0:=by rw[abc,aif h,<-abc]
def xZ(l:List Int)(m:Int):Prop:=∀x∈l,0<=x/\x<=m
def xZ.getD(h:xZ l m)(hm:0<=m)(i:Nat):0<=l.getD i 0/\l.getD i 0<=m:=by
 rcases abF i l.length with g|g
 ·exact h _<|bz g
 rw[abc];simp_all
def xZ.set(h:xZ l m)(hx:0<=x/\x<=m):xZ (l.set i x) m:=by
 intro y hy;rcases ahE hy with hy|rfl
 ·exact h y hy
 exact hx
def xZ.mono{n:Int}(h:xZ l m)(hn:m<=n):xZ l n:=λx hx=>⟨(h x hx).1,aeu (h x hx).2 hn⟩
def xZ.rep(n:Nat)(h:0<=m):xZ (List.replicate n 0) m:=λx hx=>by rw[ag8 hx];simp_all
def lh(u:bO):Int:=if u.kind=dQ then max 1 ((u.dD.length:Int)-1)else 1
def jy(u:bO)(dg:List Int)(f:EY):List Int:=dg.set u.out.toNat<|max (dg.getD u.out.toNat 0)<|dg.getD f.sh.toNat 0*lh u
def rk(us:List bO)(dg:List Int)(i:Int):List Int:=if(us.getD i.toNat default).kind=bo then dg else(us.getD i.toNat default).ah.foldl (jy<|us.getD i.toNat default) dg
def EL(us:List bO)(iT:Int):List Int->List Int->Option (List Int)
 |[],dg=>some dg
 |i::r,dg=>if iT<(rk us dg i).getD (us.getD i.toNat default).out.toNat 0 then none else EL us iT r (rk us dg i)
def iZ(us:List bO)(n i:Nat):List Int:=(us.take i).foldl (λ(dg:List Int)u=>if u.kind=bo then dg.set u.out.toNat 1 else dg)<|(List.replicate n 0).set 0 1
def te{us:List bO}{n:Nat}(h:i<us.length):iZ us n (i+1)=if us[i].kind=bo then(iZ us n i).set us[i].out.toNat 1 else iZ us n i:=by unfold iZ;rw[abZ h,ae8];rfl
def pX(us:List bO)(n:Nat):∀i,i<=us.length->(iZ us n i).length=n/\xZ (iZ us n i) 6
 |0,_=>⟨by simp[iZ],(xZ.rep n<|by decide).set<|by decide⟩
 |i+1,h=>by
  obtain⟨h1,h2⟩:=pX us n i (by omega);rw[te<|by omega];split
  ·exact⟨by rw[kH];exact h1,h2.set<|by decide⟩
  exact⟨h1,h2⟩
def js(u:bO)(dg rt:List Int)(f:EY):List Int:=rt.set u.out.toNat<|max (rt.getD u.out.toNat 0)<|rt.getD f.sh.toNat 0+dg.getD f.sh.toNat 0-1
def OO(u:bO)(dg rt:List Int):List Int:=(cH u).foldl (js u dg) rt
def uq(u:bO)(dg rt:List Int):List Int:=if u.kind=dQ then rt.set u.out.toNat (rt.getD u.out.toNat 0+dg.getD u.out.toNat 0)else rt
def sy(u:bO)(dg rt:List Int):List Int:=if u.kind=bo then rt.set u.out.toNat (rt.getD u.out.toNat 0+dg.getD (u.ah.getD 0 default).sh.toNat 0)else rt
def uX(us:List bO)(dg rt:List Int)(i:Int):List Int:=sy (us.getD i.toNat default) dg<|uq (us.getD i.toNat default) dg<|OO (us.getD i.toNat default) dg rt
def Jm(us:List bO)(iT:Int)(dg:List Int):List Int->List Int->Option (List Int)
 |[],rt=>some rt
 |i::r,rt=>if iT<(uX us dg rt i).getD (us.getD i.toNat default).out.toNat 0 then none else Jm us iT dg r (uX us dg rt i)
def Ba(us:List bO)(n:Nat):Bool:=match EL us 6 (az us) (iZ us n us.length)with
 |none=>false
 |some dg=>(Jm us 6 dg (az us)<|List.replicate n 0).isSome
def FB:∀{us:List bO}(k:Nat){out:List Int},out.Nodup->(∀x∈out,0<=x/\x<us.length)->∀x∈ee us k out,0<=x/\x<us.length
 |us,0,out,_,h=>h
 |us,k+1,out,hn,h=>by
  rw[ee];split
  ·exact h
  rename_i g;obtain⟨h1,h2⟩:=wz hn h g;exact FB k h1 h2
def Am:∀{us:List bO}(k:Nat){out:List Int},out.Nodup->(∀x∈out,0<=x/\x<us.length)->(ee us k out).Nodup
 |us,0,out,hn,_=>hn
 |us,k+1,out,hn,h=>by
  rw[ee];split
  ·exact hn
  rename_i g;obtain⟨h1,h2⟩:=wz hn h g;exact Am k h1 h2
def gi{us:List bO}:∀x∈az us,0<=x/\x<us.length:=FB _ acX (by simp)
def wF(us:List bO):(az us).Nodup:=Am _ acX (by simp)
def u5(us:List bO):(az us).length<=us.length:=wE (wF us) gi
def Rh(p:kx)(h:ye p)(n:Nat)(hn:p.n=n)(No:0<n)(UH:n<=100)(hv:∀u∈p.aa,jc p.n u):aL Tryz.prog 139 [bh p,.i 6] (.u<|Ba p.aa n):=by
 have hl:=h.aa;refine bE Tryz.func139 rfl<|b8 4 [(1,.i 6),(2,.box true<|bh p),(5,.ints .i64 true<|iZ p.aa n p.aa.length)] True ?_ λ_=>?_
 ·refine r1 rfl (by simp only[ag,and_true,afb]<;>omega) ?_;refine loop (λi:Nat=>[(1,.i 6),(2,.box true<|bh p),(5,.ints .i64 true<|iZ p.aa n i),(6,.i i)]) (λi=>i<=p.aa.length) (λi=>p.aa.length-i) 0 (aaJ _) ⟨ab,ab,⟨rfl,an.of_eq<|congrArg (SV.ints .i64 true)<|by rw[hn];rfl⟩,ab,ao⟩ ?_;intro i hi;refine r0 rfl<|bH rfl (λh1=>?_) (λh1=>?_)
  ·have aZ:i<p.aa.length:=by omega
   have ei:(i:Int).toNat=i:=by omega
   have eg:p.aa.getD i default=p.aa[i]:=aw aZ;have eR:=te (n:=n) aZ;have hu:=(hv _<|aaY aZ).out;have hlen:=(pX p.aa n i hi).1;refine r1 rfl (by simp only[ag,and_true,ei]<;>omega) ?_;rw[ei,eg];refine bH rfl (λh2=>?_) (λh2=>?_)
   ·have h2:p.aa[i].kind=bo:=h2;rw[if_pos h2]at eR;refine r1 rfl (by simp only[ag,and_true,ei,eg,hlen]<;>omega) ?_;exact again (i+1) (by omega) (by omega) ⟨ab,ab,⟨rfl,an.of_eq<|congrArg (SV.ints .i64 true)<|by rw[eR,ei,eg]⟩,ab,ao⟩
   have h2:¬p.aa[i].kind=bo:=h2;rw[if_neg h2]at eR;refine r1 rfl (by simp only[ag,and_true,ei,eg,hlen]<;>omega) ?_;exact again (i+1) (by omega) (by omega) ⟨ab,ab,⟨rfl,an.of_eq<|congrArg (SV.ints .i64 true) eR.symm⟩,ab,ao⟩
  have:i=p.aa.length:=by omega
  subst this;refine r0 rfl<|aP ao ⟨ab,ab,ab,ao⟩
 have LU:=u5 p.aa;refine EM 2 (λdg:List Int=>[(1,.i 6),(2,.box true<|bh p),(5,.ints .i64 true dg),(7,.ints .i64 true<|az p.aa)]) (λdg=>EL p.aa 6 (az p.aa) (iZ p.aa n p.aa.length)=some dg/\dg.length=n/\xZ dg 6) ?_ ?_
 ·refine r0 rfl<|bF rfl (sG p h<|jc.fdd hv) rfl<|r0 rfl<|kh (λ(k:Nat)(dg:List Int)=>[(1,.i 6),(2,.box true<|bh p),(5,.ints .i64 true dg),(7,.ints .i64 true<|az p.aa),(8,.i k)])
   (λk dg=>k<=(az p.aa).length/\EL p.aa 6 (az p.aa) (iZ p.aa n p.aa.length)=EL p.aa 6 ((az p.aa).drop k) dg/\dg.length=n/\xZ dg 6)
   (λk _=>(az p.aa).length-k) 0 (iZ p.aa n p.aa.length) ⟨aaJ _,rfl,pX p.aa n _<|aav _⟩ ⟨ab,ab,ab,ab,ab,ao⟩ ?_
  rintro k dg⟨hk,hf,Es,Wy⟩;refine r0 rfl<|bH rfl (λh1=>?_) (λh1=>?_)
  ·have gp:k<(az p.aa).length:=by omega
   have ek:(k:Int).toNat=k:=by omega
   have Dm:(az p.aa).getD k 0=(az p.aa)[k]:=aw gp;obtain⟨o1,o2⟩:=gi _<|aaY gp;rw[abV gp,EL]at hf;obtain⟨o,eo⟩:∃o,(az p.aa)[k]=o:=⟨_,rfl⟩;rw[eo]at Dm o1 o2 hf;have dz:p.aa.getD o.toNat default∈p.aa:=bz (by omega);unfold rk at hf;obtain⟨u,eu⟩:∃u,p.aa.getD o.toNat default=u:=⟨_,rfl⟩;rw[eu]at dz hf;have hu:=hv _ dz;have huo:=hu.out;have CS:=(h.unit _ dz).ah;have hmul:1<=lh u/\lh u<=12:=by
    unfold lh;split
    ·rename_i g;have:=(hu.table g).2.2;omega
    omega
   refine rn 3 rfl<|EM 2 (λnj:List Int=>[(1,.i 6),(2,.box true<|bh p),(5,.ints .i64 true nj),(7,.ints .i64 true<|az p.aa),(8,.i k),(9,.box true<|dM u)])
    (λnj=>nj=(if u.kind=bo then dg else u.ah.foldl (jy u) dg)/\nj.length=n/\xZ nj 72/\∀j,j≠u.out.toNat->nj.getD j 0=dg.getD j 0) ?_ ?_
   ·refine k1 rfl (by kernel_rfl) (by simp only[ag,and_true,ek,Dm]<;>omega) ?_;rw[ek,Dm,eu];by_cases hkI:u.kind=bo
    ·refine loop (λj:Nat=>[(1,.i 6),(2,.box true<|bh p),(5,.ints .i64 true dg),(7,.ints .i64 true<|az p.aa),(8,.i k),(9,.box true<|dM u),(10,.i 0)]) (λ_=>True) (λ_=>0) 0 ao ⟨ab,ab,ab,ab,ab,ab,ab,ao⟩ ?_;intro j _;refine r0 rfl<|aC 65 rfl (λh2=>?_) (λh2=>?_)
     ·refine r0 rfl<|bH rfl (λh3=>absurd hkI h3) λh3=>?_;refine r0 rfl<|meet dg ⟨by rw[if_pos hkI],Es,Wy.mono<|by decide,λ_ _=>rfl⟩ ⟨ab,ab,ab,ab,ab,ab,ao⟩
     refine r0 rfl<|meet dg ⟨by rw[if_pos hkI],Es,Wy.mono<|by decide,λ_ _=>rfl⟩ ⟨ab,ab,ab,ab,ab,ab,ao⟩
    rw[if_neg hkI];refine kh (λ(j:Nat)(nj:List Int)=>[(1,.i 6),(2,.box true<|bh p),(5,.ints .i64 true nj),(7,.ints .i64 true<|az p.aa),(8,.i k),(9,.box true<|dM u),(10,.i j)])
     (λj nj=>j<=u.ah.length/\u.ah.foldl (jy u) dg=(u.ah.drop j).foldl (jy u) nj/\nj.length=n/\xZ nj 72/\(∀i,i≠u.out.toNat->nj.getD i 0=dg.getD i 0)/\(j=0\/u.kind≠dQ->xZ nj 6))
     (λj _=>u.ah.length-j) 0 dg ⟨aaJ _,rfl,Es,Wy.mono<|by decide,λ_ _=>rfl,λ_=>Wy⟩ ⟨ab,ab,ab,ab,ab,ab,ab,ao⟩ ?_
    rintro j nj⟨hj,UP,Sq,dO,Yl,hb6⟩;refine r0 rfl<|aC 65 rfl (λh2=>?_) (λh2=>?_)
    ·refine r0 rfl<|bH rfl (λh3=>?_) λh3=>absurd hkI h3;have CX:j<u.ah.length:=by omega
     have ej:(j:Int).toNat=j:=by omega
     have egj:u.ah.getD j default=u.ah[j]:=aw CX;rw[abV CX,adl]at UP;have UQ:=hu.feed _<|aaY CX;have hx6:0<=nj.getD u.ah[j].sh.toNat 0/\nj.getD u.ah[j].sh.toNat 0*lh u<=72:=by
      have afB:=dO.getD (by decide) u.ah[j].sh.toNat;refine⟨afB.1,?_⟩;by_cases hT:u.kind=dQ
      ·have:=(hu.table hT).1;have h6:=(hb6<|.inl<|by omega).getD (by decide) u.ah[j].sh.toNat
       calc nj.getD u.ah[j].sh.toNat 0*lh u<=6*12:=ait h6.2 hmul.2 (by omega) (by decide)
        _<=72:=by decide
      unfold lh;rw[if_neg hT,afQ];exact afB.2
     have LW:0<=nj.getD u.ah[j].sh.toNat 0*lh u:=ado hx6.1 (by omega);have ho:=dO.getD (by decide) u.out.toNat;have key:∀d:Int,d=nj.getD u.ah[j].sh.toNat 0*lh u->nj.set u.out.toNat (max (nj.getD u.out.toNat 0) d)=jy u nj u.ah[j]:=by rintro d rfl;rfl
     refine r1 rfl (by simp only[ag,and_true,ej,egj,Sq]<;>omega) ?_;rw[ej,egj];have V3:∀d:Int,d=nj.getD u.ah[j].sh.toNat 0*lh u->(j+1<=u.ah.length/\u.ah.foldl (jy u) dg=(u.ah.drop<|j+1).foldl (jy u) (nj.set u.out.toNat<|max (nj.getD u.out.toNat 0) d)/\(nj.set u.out.toNat<|max (nj.getD u.out.toNat 0) d).length=n/\xZ (nj.set u.out.toNat<|max (nj.getD u.out.toNat 0) d) 72/\(∀i,i≠u.out.toNat->(nj.set u.out.toNat<|max (nj.getD u.out.toNat 0) d).getD i 0=dg.getD i 0)/\(j+1=0\/u.kind≠dQ->xZ (nj.set u.out.toNat<|max (nj.getD u.out.toNat 0) d) 6)):=by
      intro d hd;refine⟨by omega,by rw[key d hd];exact UP,by rw[kH];exact Sq,dO.set<|by omega,λi hi=>?_,λhh=>?_⟩
      ·rw[getD_set_ne λe=>hi e.symm];exact Yl i hi
      have Pn:u.kind≠dQ:=hh.resolve_left (by omega);have h6:=hb6<|.inr Pn;refine h6.set ?_;have h7:=h6.getD (by decide) u.out.toNat;have h8:=h6.getD (by decide) u.ah[j].sh.toNat;rw[hd];unfold lh;rw[if_neg Pn,afQ];omega
     refine bH rfl (λh4=>?_) (λh4=>?_)
     ·have h4:u.kind=dQ:=h4;have ht:=hu.table h4;have Kr:sN false 1 ((u.dD.length:Int)-1)=lh u:=by unfold lh;rw[if_pos h4];rfl
      refine k1 rfl (by kernel_rfl) (by simp only[ag,and_true,Kr,Sq]<;>omega) ?_;refine again (j+1,nj.set u.out.toNat<|max (nj.getD u.out.toNat 0)<|nj.getD u.ah[j].sh.toNat 0*lh u) (by dsimp only;omega) (V3 _ rfl) ⟨ab,ab,⟨rfl,an.of_eq<|congrArg (SV.ints .i64 true) ?_⟩,ab,ab,ab,ab,ao⟩;rw[Kr];rfl
     have h4:¬u.kind=dQ:=h4;have UY:nj.getD u.ah[j].sh.toNat 0=nj.getD u.ah[j].sh.toNat 0*lh u:=by unfold lh;rw[if_neg h4,afQ]
     refine k1 rfl (by kernel_rfl) (by simp only[ag,and_true,Sq]<;>omega) ?_;exact again (j+1,nj.set u.out.toNat<|max (nj.getD u.out.toNat 0)<|nj.getD u.ah[j].sh.toNat 0) (by dsimp only;omega) (V3 _ UY) ⟨ab,ab,ab,ab,ab,ab,ab,ao⟩
    have:j=u.ah.length:=by omega
    subst this;rw[adE]at UP;refine r0 rfl<|meet nj ⟨UP.symm,Sq,dO,Yl⟩ ⟨ab,ab,ab,ab,ab,ab,ao⟩
   rintro nj⟨Pu,Sq,dO,Yl⟩;rw[<-Pu]at hf;refine r1 rfl (by simp only[ag,and_true,Sq]<;>omega) ?_;refine bH rfl (λh2=>?_) (λh2=>?_)
   ·have h2:(6:Int)<nj.getD u.out.toNat 0:=h2;rw[if_pos h2]at hf;refine r0 rfl<|aG rfl ?_;show false=Ba p.aa n;unfold Ba;rw[hf]
   have h2:¬(6:Int)<nj.getD u.out.toNat 0:=h2;rw[if_neg h2]at hf;refine r1 rfl (by simp only[ag,and_true]<;>omega) ?_;refine again (k+1,nj) (by dsimp only;omega) ⟨by dsimp only;omega,hf,Sq,?_⟩ ⟨ab,ab,ab,ab,ab,ao⟩;intro x hx;obtain⟨i,hi,rfl⟩:=ah0.1 hx;have e:nj[i]=nj.getD i 0:=(aw hi).symm;refine⟨(dO _ hx).1,?_⟩;rw[e];by_cases hio:i=u.out.toNat
   ·rw[hio];omega
   rw[Yl i hio];exact(Wy.getD (by decide) i).2
  refine r0 rfl ?_;rw[ac5<|by omega]at hf;exact meet dg ⟨hf,Es,Wy⟩ ⟨ab,ab,ab,ab,ao⟩
 rintro dg⟨hf,Es,Wy⟩;have hL:Ba p.aa n=(Jm p.aa 6 dg (az p.aa)<|List.replicate n 0).isSome:=by unfold Ba;rw[hf]
 refine r1 rfl (by simp only[ag,and_true]<;>omega) ?_;refine kh (λ(k:Nat)(rt:List Int)=>[(1,.i 6),(2,.box true<|bh p),(5,.ints .i64 true dg),(7,.ints .i64 true<|az p.aa),(12,.ints .i64 true rt),(13,.i k)])
  (λk rt=>k<=(az p.aa).length/\Ba p.aa n=(Jm p.aa 6 dg ((az p.aa).drop k) rt).isSome/\rt.length=n/\xZ rt 6)
  (λk _=>(az p.aa).length-k) 0 (List.replicate n 0) ⟨aaJ _,hL,by simp,xZ.rep n<|by decide⟩ ⟨ab,ab,ab,ab,⟨rfl,an.of_eq<|congrArg (SV.ints .i64 true)<|by rw[hn];rfl⟩,ab,ao⟩ ?_
 rintro k rt⟨hk,hf,Nl,hrb⟩;refine r0 rfl<|bH rfl (λh1=>?_) (λh1=>?_)
 ·have gp:k<(az p.aa).length:=by omega
  have ek:(k:Int).toNat=k:=by omega
  have Dm:(az p.aa).getD k 0=(az p.aa)[k]:=aw gp;obtain⟨o1,o2⟩:=gi _<|aaY gp;rw[abV gp,Jm]at hf;obtain⟨o,eo⟩:∃o,(az p.aa)[k]=o:=⟨_,rfl⟩;rw[eo]at Dm o1 o2 hf;have dz:p.aa.getD o.toNat default∈p.aa:=bz (by omega);unfold uX at hf;obtain⟨u,eu⟩:∃u,p.aa.getD o.toNat default=u:=⟨_,rfl⟩;rw[eu]at dz hf;have hu:=hv _ dz;have huo:=hu.out;have huU:=h.unit _ dz;have CS:=huU.ah;have Kq:(cH u).length<=u.ah.length:=by unfold cH;split<;>simp
  have aeV:∀f∈cH u,f∈u.ah:=by
   intro f hf;unfold cH at hf;split at hf
   ·exact ae0 hf
   exact hf
  have aby:∀j,j≠u.out.toNat->∀l:List Int,∀x,(l.set u.out.toNat x).getD j 0=l.getD j 0:=λj hj l x=>getD_set_ne λe=>hj e.symm;refine rn 3 rfl<|EM 3 (λaG:List Int=>[(1,.i 6),(2,.box true<|bh p),(5,.ints .i64 true dg),(7,.ints .i64 true<|az p.aa),(12,.ints .i64 true aG),(13,.i k),(14,.box true<|dM u)])
   (λaG=>aG=OO u dg rt/\aG.length=n/\xZ aG 100/\∀j,j≠u.out.toNat->aG.getD j 0=rt.getD j 0) ?_ ?_
  ·refine k1 rfl (by kernel_rfl) (by simp only[ag,and_true,ek,Dm]<;>omega) ?_;rw[ek,Dm,eu];refine bF rfl (wJ u huU (λg=>by have:=(hu.int g).1;omega)) rfl ?_;refine r0 rfl<|kh (λ(j:Nat)(aG:List Int)=>[(1,.i 6),(2,.box true<|bh p),(5,.ints .i64 true dg),(7,.ints .i64 true<|az p.aa),(12,.ints .i64 true aG),(13,.i k),(14,.box true<|dM u),(15,.bT false 2 default pd<|cH u),(16,.i j)])
    (λj aG=>j<=(cH u).length/\OO u dg rt=((cH u).drop j).foldl (js u dg) aG/\aG.length=n/\xZ aG (6+6*j)/\(∀i,i≠u.out.toNat->aG.getD i 0=rt.getD i 0))
    (λj _=>(cH u).length-j) 0 rt ⟨aaJ _,rfl,Nl,hrb.mono<|by decide,λ_ _=>rfl⟩ ⟨ab,ab,ab,ab,ab,ab,ab,ab,ab,ao⟩ ?_
   rintro j aG⟨hj,UP,Sq,dO,Yl⟩;have anB:(cH u).length<=8:=by
    rcases hu.kind with g|g|g
    ·have:=(hu.int g).1;omega
    ·have:=(hu.add g).2.1;omega
    have:=(hu.table g).1;omega
   refine r0 rfl<|bH rfl (λh2=>?_) (λh2=>?_)
   ·have CX:j<(cH u).length:=by omega
    have ej:(j:Int).toNat=j:=by omega
    have egj:(cH u).getD j default=(cH u)[j]:=aw CX;rw[abV CX,adl]at UP;have UQ:=hu.feed _<|aeV _<|aaY CX;have hb6:xZ aG 54:=dO.mono (by omega);have hx:=dO.getD (by omega) (cH u)[j].sh.toNat;have ho:=dO.getD (by omega) u.out.toNat;have hd:=Wy.getD (by decide) (cH u)[j].sh.toNat;refine k1 rfl (by kernel_rfl) (by simp only[ag,and_true,ej,egj,Sq,Es]<;>omega) ?_;refine again (j+1,js u dg aG (cH u)[j]) (by dsimp only;omega) ⟨by dsimp only;omega,UP,by unfold js;rw[kH];exact Sq,?_,λi hi=>?_⟩ ⟨ab,ab,ab,ab,⟨rfl,an.of_eq<|congrArg (SV.ints .i64 true) ?_⟩,ab,ab,ab,ab,ao⟩
    ·unfold js;refine xZ.set (dO.mono<|by dsimp only;omega) ?_;dsimp only;omega
    ·unfold js;rw[aby i hi];exact Yl i hi
    rw[ej,egj];rfl
   have:j=(cH u).length:=by omega
   subst this;rw[adE]at UP;refine r0 rfl<|meet aG ⟨UP.symm,Sq,dO.mono<|by omega,Yl⟩ ⟨ab,ab,ab,ab,ab,ab,ab,ao⟩
  rintro pA⟨e1,l1,b1,g1⟩;rw[<-e1]at hf;have hdo:=Wy.getD (by decide) u.out.toNat;have lU:=b1.getD (by decide) u.out.toNat;refine EM 1 (λaG:List Int=>[(1,.i 6),(2,.box true<|bh p),(5,.ints .i64 true dg),(7,.ints .i64 true<|az p.aa),(12,.ints .i64 true aG),(13,.i k),(14,.box true<|dM u)])
   (λaG=>aG=uq u dg pA/\aG.length=n/\xZ aG 106/\∀j,j≠u.out.toNat->aG.getD j 0=rt.getD j 0) ?_ ?_
  ·refine r0 rfl<|bH rfl (λh2=>?_) (λh2=>?_)
   ·have h2:u.kind=dQ:=h2;refine k1 rfl (by kernel_rfl) (by simp only[ag,and_true,l1,Es]<;>omega) ?_;refine meet (uq u dg pA) ⟨rfl,?_,?_,λj hj=>?_⟩ ⟨ab,ab,ab,ab,⟨rfl,an.of_eq<|congrArg (SV.ints .i64 true)<|by unfold uq;rw[if_pos h2]⟩,ab,ab,ao⟩
    ·unfold uq;rw[if_pos h2,kH];exact l1
    ·unfold uq;rw[if_pos h2];exact(b1.mono<|by decide).set (by omega)
    unfold uq;rw[if_pos h2,aby j hj];exact g1 j hj
   have h2:¬u.kind=dQ:=h2;refine r0 rfl<|meet pA ⟨?_,l1,b1.mono<|by decide,g1⟩ ⟨ab,ab,ab,ab,ab,ab,ab,ao⟩;unfold uq;rw[if_neg h2]
  rintro rt2⟨e2,l2,b2,g2⟩;rw[<-e2]at hf;have sc:=b2.getD (by decide) u.out.toNat;refine EM 1 (λaG:List Int=>[(1,.i 6),(2,.box true<|bh p),(5,.ints .i64 true dg),(7,.ints .i64 true<|az p.aa),(12,.ints .i64 true aG),(13,.i k),(14,.box true<|dM u)])
   (λaG=>aG=sy u dg rt2/\aG.length=n/\xZ aG 112/\∀j,j≠u.out.toNat->aG.getD j 0=rt.getD j 0) ?_ ?_
  ·refine r0 rfl<|bH rfl (λh2=>?_) (λh2=>?_)
   ·have h2:u.kind=bo:=h2;have RH:=(hu.int h2).1;have uF:Int.toNat 0=0:=rfl;have Er:=hu.feed _<|bz (d:=default)<|show 0<u.ah.length by omega
    have CZ:=Wy.getD (by decide) (u.ah.getD 0 default).sh.toNat;refine k1 rfl (by kernel_rfl) (by simp only[ag,and_true,l2,Es,uF]<;>omega) ?_;refine meet (sy u dg rt2) ⟨rfl,?_,?_,λj hj=>?_⟩ ⟨ab,ab,ab,ab,⟨rfl,an.of_eq<|congrArg (SV.ints .i64 true)<|by unfold sy;rw[if_pos h2];rfl⟩,ab,ab,ao⟩
    ·unfold sy;rw[if_pos h2,kH];exact l2
    ·unfold sy;rw[if_pos h2];exact(b2.mono<|by decide).set (by omega)
    unfold sy;rw[if_pos h2,aby j hj];exact g2 j hj
   have h2:¬u.kind=bo:=h2;refine r0 rfl<|meet rt2 ⟨?_,l2,b2.mono<|by decide,g2⟩ ⟨ab,ab,ab,ab,ab,ab,ab,ao⟩;unfold sy;rw[if_neg h2]
  rintro rt3⟨e3,l3,b3,g3⟩;rw[<-e3]at hf;refine r1 rfl (by simp only[ag,and_true,l3]<;>omega) ?_;refine bH rfl (λh2=>?_) (λh2=>?_)
  ·have h2:(6:Int)<rt3.getD u.out.toNat 0:=h2;rw[if_pos h2]at hf;refine r0 rfl<|aG rfl ?_;show false=Ba p.aa n;rw[hf];rfl
  have h2:¬(6:Int)<rt3.getD u.out.toNat 0:=h2;rw[if_neg h2]at hf;refine r1 rfl (by simp only[ag,and_true]<;>omega) ?_;refine again (k+1,rt3) (by dsimp only;omega) ⟨by dsimp only;omega,hf,l3,?_⟩ ⟨ab,ab,ab,ab,ab,ab,ao⟩;intro x hx;obtain⟨i,hi,rfl⟩:=ah0.1 hx;have e:rt3[i]=rt3.getD i 0:=(aw hi).symm;refine⟨(b3 _ hx).1,?_⟩;rw[e];by_cases hio:i=u.out.toNat
  ·rw[hio];omega
  rw[g3 i hio];exact(hrb.getD (by decide) i).2
 rw[ac5<|by omega]at hf;refine r0 rfl<|aG rfl ?_;show true=Ba p.aa n;rw[hf];rfl
end
structure Sys where
 names:List bK
 aW:List (List cN)
 start:List hO
def age(s:Sys):SV:=.agg [.strs false s.names,oe false s.aW,.bT false 2 default fP s.start]
noncomputable def CL(l:List (List cN)):Int:=aK vh l
def HE(s:Sys)(sh:List (List cN)){V K:Nat}(h:∀p∈sh++s.aW,(∀u∈p,Ea V K u)/\p.length<2^50)(hl:sh.length+s.aW.length<2^40)(hK:K<2^36):
 aL Tryz.prog 75 [age s,oe false sh] (.i<|CL<|sh++s.aW):=by
 refine bE Tryz.func75 rfl<|k1 rfl (by kernel_rfl) (by simp only[ag,and_true,len,abp];refine⟨λx=>rfl,λx=>rfl,?_,λx=>rfl,λx=>rfl,?_⟩<;>omega) ?_;refine loop (λi:Nat=>[(5,oe true<|sh++s.aW),(6,.i i)]) (λi=>i<=(sh++s.aW).length/\CL (sh++s.aW)=CL ((sh++s.aW).drop i)) (λi=>(sh++s.aW).length-i) 0 ⟨aaJ _,rfl⟩
  ⟨⟨rfl,rfl,rfl,by rw[c8,acd];exact jd.refl _⟩,ab,ao⟩ ?_
 rintro i⟨hi,hf⟩;have hlen:(sh++s.aW).length=sh.length+s.aW.length:=abq;refine r0 rfl<|bH rfl (λh1=>?_) (λh1=>?_)
 ·have aZ:i<(sh++s.aW).length:=by omega
  have ei:(i:Int).toNat=i:=by omega
  have eg:(sh++s.aW).getD i default=(sh++s.aW)[i]:=aw aZ;unfold CL at hf⊢;rw[dp _ aZ]at hf;obtain⟨g1,g2⟩:=h _<|aaY aZ;refine r1 rfl (by simp only[ag,and_true,ei]<;>omega) ?_;refine cl rfl (by rw[ei,eg];rfl) (Bb (sh++s.aW)[i] g1 g2 hK) rfl ?_;refine r0 rfl<|bH rfl (λh2=>?_) (λh2=>?_)
  ·have h2:vh (sh++s.aW)[i]≠0:=h2;rw[if_pos h2]at hf;refine r0 rfl<|aG rfl<|an.of_eq<|congrArg SV.i hf.symm
  have h2:¬vh (sh++s.aW)[i]≠0:=h2;rw[if_neg h2]at hf;refine r1 rfl (by simp only[ag,and_true]<;>omega) ?_;exact again (i+1) (by omega) ⟨by omega,hf⟩ ⟨ab,ab,ao⟩
 refine r0 rfl<|aG rfl<|bC ?_;rw[hf,ac5<|by omega];rfl
def tA(l:List (List cN)):bx (l.map λp=>(de false p).den)=true:=tK (by intro x hx;obtain⟨p,-,rfl⟩:=abD.1 hx;rfl)
def Zf(aW:List (List cN))(p:List cN){V K L:Nat}(hp:∀u∈p,Ea V L u)(iD:p.length<2^40)(h:agD V K aW p)(hr:aW.length<2^20)(hV:aW.length<V)(hV2:V<2^20)(hK:K+K+1<2^34)(hL:L+3<2^34):
 Ot Tryz.prog 148 (oe true aW) [de false p] (de false<|mN aW p):=by
 refine Ot.of (sz:=1) (X:=aW.map λp=>(de false p).den) rfl (tA aW) rfl (by simp) λhd F1 o Kp=>?_;rw[abp]at Kp;refine vD (fn:=Tryz.f148) Tryz.func148 rfl rfl rfl rfl rfl<|r0 rfl<|bF rfl (pY p 0 (V:=V) (K:=K) (L:=L) hp h.d0 (by omega) iD hK hL) rfl<|r0 rfl<|loop (λi:Nat=>[(0,.pv (·=hd)),(1000000,.abs<|JL (.list .own 1 (aW.map λp=>(de false p).den)) hd F1 o),(1,de false p),(5,de false<|kY aW p i),(6,.i i)]) (λi=>i<=aW.length) (λi=>aW.length-i) 0 (aaJ _) ⟨ab,rfl,ab,ab,ab,ao⟩ ?_;intro i hi;refine r0 rfl<|ex rfl rfl rfl (abb (P:=Tryz.prog) rfl rfl Tryz.underlying141 Kp) rfl<|r0 rfl<|bH rfl (λh1=>?_) (λh1=>?_)
 ·have aZ:i<aW.length:=by omega
  have ei:(i:Int).toNat=i:=by omega
  have e1:(i:Int)+1=((i+1:Nat):Int):=by omega
  have eg:aW.getD i []=aW[i]:=aw aZ;have Pu:=h.d i aZ;obtain⟨r1',r2'⟩:=h.r i aZ;have ha:=h.a i aZ;have hm:=h.m i aZ;have IK:(kY aW p i++lI (uf p<|i+1) (aW.getD i [])).length<2^40:=by
   rw[abq];have h1:(kY aW p i).length<2^30:=by
    cases i with
    |zero=>exact h.d0.norm.2
    |succ i=>exact(h.a i<|by omega).norm.2
   have h2:=hm.norm.2;unfold lI;omega
  rw[abq]at IK;refine r1 rfl (by simp only[ag,and_true]<;>omega) ?_;refine cd rfl (by rw[e1];rfl) (pY p (i+1) (V:=V) (K:=K) (L:=L) hp Pu (by omega) iD hK hL) rfl ?_;refine r0 rfl<|exd rfl rfl rfl (abj (P:=Tryz.prog) (m:=i) rfl Tryz.underlying141 (j7 hA rfl) aZ Kp) rfl<|ldj rfl rfl (T5 (y:=(de false<|aW.getD i []).den) (j7 hA rfl) (tA aW) (by rw[afh,abl aZ,eg];rfl) rfl) rfl rfl ?_;refine bG rfl (oZ (uf p<|i+1) (aW.getD i []) (V:=V) (K:=K) (L:=K) (M:=K) Pu.norm.1 r1' hm (by have:=Pu.norm.2;unfold uf;omega) r2' (by omega) hK<|by omega) rfl ?_;refine bG rfl (l0 (kY aW p i) (lI (uf p<|i+1)<|aW.getD i []) (V:=V) (K:=K) ha IK hK) rfl<|k1 rfl (by kernel_rfl) (by simp only[ag,and_true]<;>omega) ?_;exact again (i+1) (by omega) (by omega) ⟨ab,rfl,ab,ab,ab,ao⟩
 have:i=aW.length:=by omega
 subst this;refine r0 rfl<|Xf [(4,de false<|kY aW p aW.length),(1000000,.abs<|JL (.list .own 1 (aW.map λp=>(de false p).den)) hd F1 o)] ⟨⟨rfl,rfl,.le<|an.refl _⟩,rfl,ao⟩ rfl (an.refl _) ⟨ab,ao⟩
def Hi(s:bK):aL Tryz.prog 143 [.s s] (fP ⟨s,s⟩):=by refine bE Tryz.func143 rfl<|r0 rfl<|bB rfl
def jA(us:List bO)(i:Nat):Nat:=c7<|us.take i
def tT{us:List bO}{i:Nat}(h:i<us.length):jA us (i+1)=jA us i+if us[i].kind=bo then 1 else 0:=by unfold jA c7;rw[abZ h,agV];by_cases g:us[i].kind=bo<;>simp
def Ij(us:List bO)(i:Nat):jA us i<=c7 us:=List.Sublist.countP_le<|List.take_sublist _ _
def B1(n m:Nat):List (List cN):=(List.replicate n []).set 0 (vN 0 m)
def G0(us:List bO)(n m:Nat):Nat->List (List cN)
 |0=>B1 n m
 |i+1=>if(us.getD i default).kind=bo then(G0 us n m i).set (us.getD i default).out.toNat (vN (jA us<|i+1) m)else G0 us n m i
def u6(us:List bO)(i:Nat):List Int:=(List.range i).map λj=>(jA us j:Int)
def kO(us:List bO)(i:Nat):List bK:=(List.range<|jA us i).map λ(j:Nat)=>122::ck ((j:Int)+1)
def kE(us:List bO):Nat->List hO
 |0=>[]
 |i+1=>if(us.getD i default).kind=bo then kE us i++[⟨(us.getD i default).k,(us.getD i default).k⟩]else kE us i
def FG(us:List bO)(i:Nat):u6 us (i+1)=u6 us i++[(jA us i:Int)]:=by unfold u6;rw[ain,acd];rfl
def BX(us:List bO):∀i,(kE us i).length<=i
 |0=>.refl
 |i+1=>by
  have:=BX us i;rw[kE];split
  ·simp;exact this
  omega
def qC(us:List bO)(n m:Nat):∀i,(G0 us n m i).length=n
 |0=>by simp[G0,B1]
 |i+1=>by
  have:=qC us n m i;rw[G0];split
  ·rw[adF];exact this
  exact this
noncomputable def gB(sh:List (List cN))(st:List Rat)(u:bO):Nat->List cN×Rat
 |0=>([],bI u.k)
 |i+1=>(EV (gB sh st u i).1<|kJ (bI (u.ah.getD i default).dU)<|sh.getD (u.ah.getD i default).sh.toNat [],
   (gB sh st u i).2-bI (u.ah.getD i default).dU*st.getD (u.ah.getD i default).sh.toNat 0)
noncomputable def Sg(sh:List (List cN))(st:List Rat)(m:Nat)(u:bO):List cN:=EV (gB sh st u u.ah.length).1<|fQ (gB sh st u u.ah.length).2 m
noncomputable def oU(sh:List (List cN))(u:bO):List cN:=kJ (bI (u.ah.getD 0 default).dU)<|sh.getD (u.ah.getD 0 default).sh.toNat []
noncomputable def jE(m:Nat)(x:List cN)(cs:List Rat):List cN:=cs.foldr (λa s=>EV (lI s x)<|fQ a m) []
noncomputable def ahF(sh:List (List cN))(m:Nat)(u:bO):List cN:=jE m (oU sh u)<|u.dD.map bI
noncomputable def lD(us:List bO)(st:List Rat)(m:Nat)(sh:List (List cN))(o:Int):List (List cN):=
 if(us.getD o.toNat default).kind=jJ then sh.set (us.getD o.toNat default).out.toNat (Sg sh st m<|us.getD o.toNat default)
 else if(us.getD o.toNat default).kind=dQ then sh.set (us.getD o.toNat default).out.toNat (ahF sh m<|us.getD o.toNat default)else sh
noncomputable def ie(us:List bO)(n m k:Nat):List (List cN):=((az us).take k).foldl (lD us (bW n us) m)<|G0 us n m us.length
noncomputable def zX(us:List bO)(n m:Nat):List (List cN):=ie us n m (az us).length
noncomputable def OR(sh aW:List (List cN))(u:bO):List cN:=kJ (bI (u.ah.getD 0 default).dU*bI (u.ah.getD 1 default).dU) (lI (sh.getD (u.ah.getD 0 default).sh.toNat [])<|mN aW<|sh.getD (u.ah.getD 1 default).sh.toNat [])
noncomputable def oH(us:List bO)(sh aW:List (List cN))(o:Int):List (List cN):=if(us.getD o.toNat default).kind=bo then aW.set (jA us o.toNat) (OR sh aW<|us.getD o.toNat default)else aW
noncomputable def iN(us:List bO)(n m k:Nat):List (List cN):=((az us).take k).foldl (oH us<|zX us n m)<|List.replicate m []
noncomputable def ahM(us:List bO)(n m:Nat):List (List cN):=iN us n m (az us).length
noncomputable def OQ(us:List bO)(n m:Nat):Sys:=⟨kO us us.length,ahM us n m,kE us us.length⟩
def px{us:List bO}{n m k:Nat}(h:k<(az us).length):ie us n m (k+1)=lD us (bW n us) m (ie us n m k) (az us)[k]:=by unfold ie;rw[abZ h,ae8];rfl
def B4{us:List bO}{n m k:Nat}(h:k<(az us).length):iN us n m (k+1)=oH us (zX us n m) (iN us n m k) (az us)[k]:=by unfold iN;rw[abZ h,ae8];rfl
def Ms(us:List bO)(st:List Rat)(m:Nat)(sh:List (List cN))(o:Int):(lD us st m sh o).length=sh.length:=by
 unfold lD;split
 ·simp_all
 split
 ·simp_all
 rfl
def kG(us:List bO)(n m k:Nat):(ie us n m k).length=n:=by
 have:∀(l:List Int)(sh:List (List cN)),(l.foldl (lD us (bW n us) m) sh).length=sh.length:=by
  intro l
  induction l with
  |nil=>intro sh;rfl
  |cons o l ih=>intro sh;rw[adl,ih,Ms]
 unfold ie;rw[this,qC]
def tz(us:List bO)(n m k:Nat):(iN us n m k).length=m:=by
 have:∀(l:List Int)(r:List (List cN)),(l.foldl (oH us<|zX us n m) r).length=r.length:=by
  intro l
  induction l with
  |nil=>intro sh;rfl
  |cons o l ih=>
   intro sh;rw[adl,ih];unfold oH;split
   ·simp_all
   rfl
 unfold iN;rw[this];simp
structure Wj(V K L:Nat)(sh:List (List cN))(st:List Rat)(m:Nat)(u:bO):Prop where
 Zn:∀f∈u.ah,vL V K<|py (bI f.dU)<|sh.getD f.sh.toNat []
 sum:∀i,i<u.ah.length->vL V K ((gB sh st u i).1++kJ (bI (u.ah.getD i default).dU) (sh.getD (u.ah.getD i default).sh.toNat []))
 num:∀i,i<=u.ah.length->Sz (gB sh st u i).2 L
 fin:vL V K ((gB sh st u u.ah.length).1++fQ (gB sh st u u.ah.length).2 m)
structure aah(V K:Nat)(sh:List (List cN))(m:Nat)(u:bO):Prop where
 Zn:vL V K (py (bI (u.ah.getD 0 default).dU)<|sh.getD (u.ah.getD 0 default).sh.toNat [])
 mul:∀i,i<u.dD.length->vL V K (jv (jE m (oU sh u)<|(u.dD.map bI).drop<|i+1)<|oU sh u)
 sum:∀i,i<u.dD.length->vL V K (lI (jE m (oU sh u)<|(u.dD.map bI).drop<|i+1) (oU sh u)++fQ (bI<|u.dD.getD i []) m)
structure Oq(V K:Nat)(sh aW:List (List cN))(u:bO):Prop where
 al:agD V K aW (sh.getD (u.ah.getD 1 default).sh.toNat [])
 along:(∀t∈mN aW (sh.getD (u.ah.getD 1 default).sh.toNat []),Ea V K t)/\(mN aW<|sh.getD (u.ah.getD 1 default).sh.toNat []).length<2^30
 mul:vL V K (jv (sh.getD (u.ah.getD 0 default).sh.toNat [])<|mN aW<|sh.getD (u.ah.getD 1 default).sh.toNat [])
 Zn:vL V K (py (bI (u.ah.getD 0 default).dU*bI (u.ah.getD 1 default).dU)<|lI (sh.getD (u.ah.getD 0 default).sh.toNat [])<|mN aW<|sh.getD (u.ah.getD 1 default).sh.toNat [])
structure Wc(V K L:Nat)(us:List bO)(n m:Nat):Prop where
 sh:∀k,k<=(az us).length->∀p∈ie us n m k,(∀u∈p,Ea V K u)/\p.length<2^30
 rt:∀k,k<=(az us).length->∀p∈iN us n m k,(∀u∈p,Ea V K u)/\p.length<2^30
 add:∀k(h:k<(az us).length),(us.getD (az us)[k].toNat default).kind=jJ->Wj V K L (ie us n m k) (bW n us) m (us.getD (az us)[k].toNat default)
 dD:∀k(h:k<(az us).length),(us.getD (az us)[k].toNat default).kind=dQ->aah V K (ie us n m k) m (us.getD (az us)[k].toNat default)
 ahQ:∀k(h:k<(az us).length),(us.getD (az us)[k].toNat default).kind=bo->Oq V K (zX us n m) (iN us n m k) (us.getD (az us)[k].toNat default)
def AH(s:Sys):SV:=.agg [.strs true s.names,oe true s.aW,.bT true 2 default fP s.start]
def Mz(p:kx)(h:ye p)(n m:Nat)(hn:p.n=n)(hm:m=c7 p.aa)(No:0<n)(UH:n<=100)(X3:p.aa.length<=96)(hv:∀u∈p.aa,jc p.n u){K L:Nat}(hR:Wc (m+1) K L p.aa n m)(hK:K+K+1<2^34)(hL:L+135<2^34)(hKL:L<=K):
 aL Tryz.prog 76 [bh p] (.bX [age<|OQ p.aa n m,oe true<|zX p.aa n m]):=by
 have hl:=h.aa;have hm2:m<=p.aa.length:=by rw[hm];exact ago
 refine bE Tryz.func76 rfl<|b8 3 [(1,.box true<|bh p),(2,.box true<|.agg [.nil,.nil,.nil]),(4,.i m),(5,oe true<|List.replicate n [])] True ?_ λ_=>?_
 ·refine r0 rfl<|bF rfl (oP p h) rfl<|r1 rfl (by simp only[ag,and_true]<;>omega) ?_;refine aeg () ao ⟨⟨rfl,rfl,.le<|an.refl _⟩,⟨rfl,rfl,.le<|an.refl _⟩,⟨rfl,rfl,.le<|an.of_eq<|congrArg SV.i<|by rw[hm];rfl⟩,⟨rfl,rfl,?_⟩,ao⟩;refine .row ?_;rw[hn,ahZ];exact qp.rep (x:=.nil) (y:=de false []) (.le rfl) n
 refine r0 rfl<|bF rfl (sg 0 m (aaJ _)<|by omega) rfl<|r1 rfl (by simp only[ag,and_true,afb]<;>omega) ?_;refine bF rfl (vS p h n hn (by omega)<|jc.outs hv hn) rfl<|r1 rfl (by simp only[ag,and_true,afb]<;>omega) ?_;rw[Fe λu hu=>(hv u hu).k];refine Kd [(1,.box true<|bh p),(2,.box true<|.agg [.nil,.nil,.nil]),(4,.i m),(5,oe true<|G0 p.aa n m 0),(6,.strs true<|(bW n p.aa).map qt),(7,.box true<|AH ⟨kO p.aa 0,List.replicate m [],kE p.aa 0⟩),(8,.ints .i64 true<|u6 p.aa 0),(9,.i 0)]
  ⟨⟨rfl,rfl,.le<|an.refl _⟩,⟨rfl,rfl,.le<|an.refl _⟩,⟨rfl,rfl,.le<|an.refl _⟩,⟨rfl,rfl,.row ?_⟩,⟨rfl,rfl,.le<|an.refl _⟩,⟨rfl,rfl,.box<|.agg<|.cons (.le rfl)<|.cons (.row ?_)<|.cons (.le rfl) .nil⟩,⟨rfl,rfl,.le rfl⟩,⟨rfl,rfl,.le<|an.refl _⟩,ao⟩ ?_
 ·rw[G0,B1,aeY];exact qp.refl _
 ·show qp (List.replicate (m:Int).toNat .nil) (List.map (de false)<|List.replicate m []);rw[ahZ,show(m:Int).toNat=m by omega];exact qp.rep (x:=.nil) (y:=de false []) (.le rfl) m
 have Yo:∀i,jA p.aa i<=m:=λi=>hm▸Ij p.aa i;refine loop (λi:Nat=>[(1,.box true<|bh p),(2,.box true<|.agg [.nil,.nil,.nil]),(4,.i m),(5,oe true<|G0 p.aa n m i),(6,.strs true<|(bW n p.aa).map qt),(7,.box true<|AH ⟨kO p.aa i,List.replicate m [],kE p.aa i⟩),(8,.ints .i64 true<|u6 p.aa i),(9,.i i)])
  (λi=>i<=p.aa.length) (λi=>p.aa.length-i) 0 (aaJ _) ⟨ab,ab,ab,ab,ab,ab,ab,ab,ao⟩ ?_
 intro i hi;have Pm:(kO p.aa i).length=jA p.aa i:=by simp[kO]
 have vm:(u6 p.aa i).length=i:=by simp[u6]
 refine r0 rfl<|bH rfl (λh1=>?_) (λh1=>?_)
 ·have aZ:i<p.aa.length:=by omega
  have ei:(i:Int).toNat=i:=by omega
  have eg:p.aa.getD i default=p.aa[i]:=aw aZ;have eR:=tT aZ;have wX:=BX p.aa i;have hu:=hv _<|aaY aZ;have se:=Yo<|i+1;have huo:=hu.out;refine r1 rfl (by simp only[ag,and_true,ei,len,vm,abn,abr]<;>omega) ?_;rw[ei,eg];refine bH rfl (λh2=>?_) (λh2=>?_)
  ·have h2:p.aa[i].kind=bo:=h2;rw[if_pos h2]at eR;refine r1 rfl (by simp only[ag,and_true,Pm]<;>omega) ?_;have hit:=wT ((jA p.aa i:Int)+1) (k:=3)<|ji<|by omega
   refine cd rfl (by rw[Pm];rfl) (uD ((jA p.aa i:Int)+1)<|by omega) rfl ?_;rw[nP];refine k1 rfl (by kernel_rfl) (by simp only[ag,and_true,len,Pm,abn,abr,abq]<;>omega) ?_;refine bG rfl (Hi p.aa[i].k) rfl<|k1 rfl (by kernel_rfl) (by simp only[ag,and_true,len,Pm,abp,abn,abr,abq]<;>omega) ?_;refine dk (us:=[.i (jA p.aa (i+1):Nat),.i m]) rfl rfl ao ⟨congrArg SV.i<|by simp only[abq,Pm,abn,abr];omega,rfl,ao⟩ (sg (jA p.aa<|i+1) m se<|by omega) rfl ?_;refine k1 rfl (by kernel_rfl) (by simp only[ag,and_true,len,Pm,abp,abn,abr,qC]<;>omega) ?_;refine DZ (i+1) (by omega) (by omega) ⟨⟨rfl,rfl,.le<|an.refl _⟩,⟨rfl,rfl,.le<|an.refl _⟩,⟨rfl,rfl,.le<|an.refl _⟩,⟨rfl,rfl,.row ?_⟩,⟨rfl,rfl,.le<|an.refl _⟩,⟨rfl,rfl,.box<|.agg<|.cons (.le<|an.of_eq<|congrArg (SV.strs true) ?_)<|.cons (.le<|an.refl _)<|.cons (.row ?_) .nil⟩,⟨rfl,rfl,.le<|an.of_eq<|congrArg (SV.ints .i64 true) ?_⟩,⟨rfl,rfl,.le<|an.refl _⟩,ao⟩
   ·rw[G0,eg,if_pos h2,aeY];exact qp.refl _
   ·rw[kO,kO,eR,ain,acd];rfl
   ·rw[kE,eg,if_pos h2,c8,acd];exact qp.refl _
   rw[FG,Pm]
  have h2:¬p.aa[i].kind=bo:=h2;rw[if_neg h2]at eR;refine r1 rfl (by simp only[ag,and_true]<;>omega) ?_;refine again (i+1) (by omega) (by omega) ⟨ab,ab,ab,⟨rfl,an.of_eq<|congrArg (oe true) ?_⟩,ab,⟨rfl,an.of_eq<|congrArg (λs=>SV.box true<|AH s) ?_⟩,⟨rfl,an.of_eq<|congrArg (SV.ints .i64 true) ?_⟩,ab,ao⟩
  ·rw[G0,eg,if_neg h2]
  ·rw[kO,kO,eR,kE,eg,if_neg h2];rfl
  rw[FG,Pm]
 have x9:i=p.aa.length:=by omega
 subst x9;have LU:=u5 p.aa;have hsq:=BV n p.aa;have aii:∀q∈bW n p.aa,Sz q 67:=BW (OG.mono<|by decide) λu hu=>eU (hv u hu).k;refine r0 rfl<|bF rfl (sG p h<|jc.fdd hv) rfl<|r0 rfl<|loop (λk:Nat=>[(1,.box true<|bh p),(2,.box true<|.agg [.nil,.nil,.nil]),(4,.i m),(5,oe true<|ie p.aa n m k),(6,.strs true<|(bW n p.aa).map qt),(7,.box true<|AH ⟨kO p.aa p.aa.length,List.replicate m [],kE p.aa p.aa.length⟩),(8,.ints .i64 true<|u6 p.aa p.aa.length),(11,.ints .i64 true<|az p.aa),(12,.i k)])
  (λk=>k<=(az p.aa).length) (λk=>(az p.aa).length-k) 0 (aaJ _) ⟨ab,ab,ab,ab,ab,ab,ab,ab,ab,ao⟩ ?_
 intro k hk;refine r0 rfl<|bH rfl (λh1=>?_) (λh1=>?_)
 ·have gp:k<(az p.aa).length:=by omega
  have ek:(k:Int).toNat=k:=by omega
  have Dm:(az p.aa).getD k 0=(az p.aa)[k]:=aw gp;obtain⟨o1,o2⟩:=gi _<|aaY gp;have eR:=px (n:=n) (m:=m) gp;have Nu:=hR.add k gp;have Ng:=hR.dD k gp;have yM:=hR.sh k hk;have Nj:=kG p.aa n m k;obtain⟨o,eo⟩:∃o,(az p.aa)[k]=o:=⟨_,rfl⟩;rw[eo]at Dm o1 o2 eR Nu Ng;have dz:p.aa.getD o.toNat default∈p.aa:=bz (by omega);unfold lD at eR;obtain⟨u,eu⟩:∃u,p.aa.getD o.toNat default=u:=⟨_,rfl⟩;rw[eu]at dz eR Nu Ng;have hu:=hv _ dz;have huo:=hu.out;have huU:=h.unit _ dz;refine k1 rfl (by kernel_rfl) (by simp only[ag,and_true,ek,Dm]<;>omega) ?_;rw[ek,Dm,eu];generalize ie p.aa n m k=sh at*;have gE:∀f∈u.ah,(∀t∈sh.getD f.sh.toNat [],Ea (m+1) K t)/\(sh.getD f.sh.toNat []).length<2^30:=λf hf=>by have:=hu.feed f hf;exact yM _<|bz (d:=[])<|by omega
  refine bH rfl (λh2=>?_) (λh2=>?_)
  ·have h2:u.kind=jJ:=h2;rw[if_pos h2]at eR;have ha:=Nu h2;have bt:=(hu.add h2).2.1;refine r0 rfl<|loop (λi:Nat=>[(1,.box true<|bh p),(2,.box true<|.agg [.nil,.nil,.nil]),(4,.i m),(5,oe true sh),(6,.strs true<|(bW n p.aa).map qt),(7,.box true<|AH ⟨kO p.aa p.aa.length,List.replicate m [],kE p.aa p.aa.length⟩),(8,.ints .i64 true<|u6 p.aa p.aa.length),(11,.ints .i64 true<|az p.aa),(12,.i k),
    (13,.box true<|dM u),(14,.s<|qt (gB sh (bW n p.aa) u i).2),(15,de false (gB sh (bW n p.aa) u i).1),(16,.i i)])
    (λi=>i<=u.ah.length) (λi=>u.ah.length-i) 0 (aaJ _) ⟨ab,ab,ab,ab,ab,ab,ab,ab,ab,ab,⟨rfl,an.of_eq<|congrArg SV.s (fO hu.k).symm⟩,ab,ab,ao⟩ ?_
   intro i hi;have aeG:(gB sh (bW n p.aa) u i).1.length<2^30:=by
    cases i with
    |zero=>simp[gB]
    |succ i=>exact(ha.sum i<|by omega).norm.2
   refine r0 rfl<|bH rfl (λh3=>?_) (λh3=>?_)
   ·have aZ:i<u.ah.length:=by omega
    have ei:(i:Int).toNat=i:=by omega
    have Z8:u.ah.getD i default=u.ah[i]:=aw aZ;have hf:=hu.feed _<|aaY aZ;obtain⟨g1,g2⟩:=gE _<|aaY aZ;have jn:=ha.Zn _<|aaY aZ;have gD:=ha.sum i aZ;have Nn:=ha.num i hi;have hrs:gB sh (bW n p.aa) u (i+1)=(EV (gB sh (bW n p.aa) u i).1<|kJ (bI u.ah[i].dU)<|sh.getD u.ah[i].sh.toNat [],(gB sh (bW n p.aa) u i).2-bI u.ah[i].dU*(bW n p.aa).getD u.ah[i].sh.toNat 0):=by rw[gB,Z8]
    rw[Z8]at gD;obtain⟨f,ef⟩:∃f,u.ah[i]=f:=⟨_,rfl⟩;rw[ef]at hf g1 g2 jn gD hrs Z8;have hq:=aii _<|bz (d:=0)<|show f.sh.toNat<(bW n p.aa).length by omega
    have se:=mB (bI f.dU) (sh.getD f.sh.toNat []) (V:=m+1) (K:=K) (L:=67) (eU hf.2.2.1) g1 jn (by omega) hK (by omega);rw[fO hf.2.2.1]at se;have Eu:=fT (bI f.dU) ((bW n p.aa).getD f.sh.toNat 0) (eU hf.2.2.1) hq (by omega);rw[fO hf.2.2.1]at Eu;refine r1 rfl (by simp only[ag,and_true,ei,Z8,Nj]<;>omega) ?_;rw[ei,Z8];refine bG rfl se rfl<|r1 rfl (by simp only[ag,and_true]<;>omega) ?_;refine bG rfl (l0 (gB sh (bW n p.aa) u i).1 (kJ (bI f.dU)<|sh.getD f.sh.toNat []) (V:=m+1) (K:=K) gD (by have:=jn.norm.2;unfold kJ;omega) hK) rfl ?_;refine k1 rfl (by kernel_rfl) (by simp only[ag,and_true,abp,hsq]<;>omega) ?_;refine cd rfl (by rw[JZ<|by omega];rfl) Eu rfl ?_;refine r1 rfl (by simp only[ag,and_true]<;>omega) ?_;refine bG rfl (E9 (gB sh (bW n p.aa) u i).2 (bI f.dU*(bW n p.aa).getD f.sh.toNat 0) Nn ((eU hf.2.2.1).mul hq)<|by omega) rfl<|k1 rfl (by kernel_rfl) (by simp only[ag,and_true]<;>omega) ?_;refine again (i+1) (by omega) (by omega) ⟨ab,ab,ab,ab,ab,ab,ab,ab,ab,ab,⟨rfl,an.of_eq<|congrArg SV.s<|by rw[hrs]⟩,⟨rfl,an.of_eq<|congrArg (de false)<|by rw[hrs]⟩,ab,ao⟩
   have:i=u.ah.length:=by omega
   subst this;have Ep:=ha.fin;have Bg:(fQ (gB sh (bW n p.aa) u u.ah.length).2 m).length<=1:=by unfold fQ;split<;>simp
   refine r0 rfl<|bG rfl (tg (gB sh (bW n p.aa) u u.ah.length).2 m<|by omega) rfl<|r1 rfl (by simp only[ag,and_true]<;>omega) ?_;refine bG rfl (l0 (gB sh (bW n p.aa) u u.ah.length).1 (fQ (gB sh (bW n p.aa) u u.ah.length).2 m) (V:=m+1) (K:=K) Ep (by omega) hK) rfl<|k1 rfl (by kernel_rfl) (by simp only[ag,and_true,Nj]<;>omega) ?_;refine DZ (k+1) (by omega) (by omega) ⟨⟨rfl,rfl,.le<|an.refl _⟩,⟨rfl,rfl,.le<|an.refl _⟩,⟨rfl,rfl,.le<|an.refl _⟩,⟨rfl,rfl,.row ?_⟩,⟨rfl,rfl,.le<|an.refl _⟩,⟨rfl,rfl,.le<|an.refl _⟩,⟨rfl,rfl,.le<|an.refl _⟩,⟨rfl,rfl,.le<|an.refl _⟩,⟨rfl,rfl,.le<|an.refl _⟩,ao⟩;rw[eR,aeY];exact qp.refl _
  have h2:¬u.kind=jJ:=h2;rw[if_neg h2]at eR;refine r0 rfl<|bH rfl (λh3=>?_) (λh3=>?_)
  ·have h3:u.kind=dQ:=h3;rw[if_pos h3]at eR;have ha:=Ng h3;obtain⟨t1,t2,t3⟩:=hu.table h3;have uF:Int.toNat 0=0:=rfl;have UR:u.ah.getD 0 default∈u.ah:=bz (by omega);have Er:=hu.feed _ UR;obtain⟨g1,g2⟩:=gE _ UR;have se:=mB (bI (u.ah.getD 0 default).dU) (sh.getD (u.ah.getD 0 default).sh.toNat []) (V:=m+1) (K:=K) (L:=67) (eU Er.2.2.1) g1 ha.Zn (by omega) hK (by omega);rw[fO Er.2.2.1]at se;have hX:=ha.Zn.norm;refine k1 rfl (by kernel_rfl) (by simp only[ag,and_true,uF,Nj]<;>omega) ?_;rw[uF];refine bG rfl se rfl<|k1 rfl (by kernel_rfl) (by simp only[ag,and_true]<;>omega) ?_;refine loop (λj:Nat=>[(1,.box true<|bh p),(2,.box true<|.agg [.nil,.nil,.nil]),(4,.i m),(5,oe true sh),(6,.strs true<|(bW n p.aa).map qt),(7,.box true<|AH ⟨kO p.aa p.aa.length,List.replicate m [],kE p.aa p.aa.length⟩),(8,.ints .i64 true<|u6 p.aa p.aa.length),(11,.ints .i64 true<|az p.aa),(12,.i k),
    (13,.box true<|dM u),(18,de false<|oU sh u),(19,de false<|jE m (oU sh u)<|(u.dD.map bI).drop j),(20,.i<|(j:Int)-1)])
    (λj=>j<=u.dD.length) (λj=>j) u.dD.length (aav _) ⟨ab,ab,ab,ab,ab,ab,ab,ab,ab,ab,ab,⟨rfl,?_⟩,ab,ao⟩ ?_
   ·rw[ac5<|by rw[abp];omega];exact rfl
   intro j hj;refine r0 rfl<|bH rfl (λh4=>?_) (λh4=>?_)
   ·obtain⟨i,rfl⟩:∃i,j=i+1:=⟨j-1,by omega⟩;have e1:((i+1:Nat):Int)-1=i:=by omega
    have ei:(i:Int).toNat=i:=by omega
    have hi:i<u.dD.length:=by omega
    have Z8:u.dD.getD i []=u.dD[i]:=aw hi;have jn:=ha.mul i hi;have gD:=ha.sum i hi;rw[Z8]at gD;have KD:=hu.dD _<|aaY hi;have hT:(∀t∈jE m (oU sh u) ((u.dD.map bI).drop<|i+1),Ea (m+1) K t)/\(jE m (oU sh u)<|(u.dD.map bI).drop<|i+1).length<2^30:=by
     rcases abF (i+1) u.dD.length with g|g
     ·have hs3:=(ha.sum (i+1) g).norm;rw[abV<|by rw[abp];exact g,agW];have e:u.dD.getD (i+1) []=u.dD[i+1]:=aw g;rw[e]at hs3;exact hs3
     rw[ac5<|by rw[abp];exact g];exact⟨by simp[jE],by simp[jE]⟩
    have hrs:jE m (oU sh u) ((u.dD.map bI).drop i)=EV (lI (jE m (oU sh u)<|(u.dD.map bI).drop<|i+1)<|oU sh u) (fQ (bI u.dD[i]) m):=by rw[abV<|by rw[abp];exact hi,agW];rfl
    have Pv:=tg (bI u.dD[i]) m (by omega);rw[fO KD]at Pv;have Bg:(fQ (bI u.dD[i]) m).length<=1:=by unfold fQ;split<;>simp
    rw[e1];refine r1 rfl (by simp only[ag,and_true,ei]<;>omega) ?_;refine bG rfl (oZ (jE m (oU sh u)<|(u.dD.map bI).drop<|i+1) (oU sh u) (V:=m+1) (K:=K) (L:=K) (M:=K) hT.1 hX.1 jn (by omega) (by unfold oU kJ;omega) (by omega) hK<|by omega) rfl ?_;refine r1 rfl (by simp only[ag,and_true,ei]<;>omega) ?_;refine cd rfl (by rw[ei,Z8];rfl) Pv rfl ?_;refine r1 rfl (by simp only[ag,and_true]<;>omega) ?_;refine bG rfl (l0 (lI (jE m (oU sh u)<|(u.dD.map bI).drop<|i+1)<|oU sh u) (fQ (bI u.dD[i]) m) (V:=m+1) (K:=K) gD (by have:=jn.norm.2;unfold lI;omega) hK) rfl ?_;refine k1 rfl (by kernel_rfl) (by simp only[ag,and_true]<;>omega) ?_;exact again i (by omega) (by omega) ⟨ab,ab,ab,ab,ab,ab,ab,ab,ab,ab,ab,⟨rfl,an.of_eq<|congrArg (de false) hrs.symm⟩,ab,ao⟩
   have:j=0:=by omega
   subst this;rw[adz];refine k1 rfl (by kernel_rfl) (by simp only[ag,and_true,Nj]<;>omega) ?_;refine DZ (k+1) (by omega) (by omega) ⟨⟨rfl,rfl,.le<|an.refl _⟩,⟨rfl,rfl,.le<|an.refl _⟩,⟨rfl,rfl,.le<|an.refl _⟩,⟨rfl,rfl,.row ?_⟩,⟨rfl,rfl,.le<|an.refl _⟩,⟨rfl,rfl,.le<|an.refl _⟩,⟨rfl,rfl,.le<|an.refl _⟩,⟨rfl,rfl,.le<|an.refl _⟩,⟨rfl,rfl,.le<|an.refl _⟩,ao⟩;rw[eR,aeY];exact qp.refl _
  have h3:¬u.kind=dQ:=h3;rw[if_neg h3]at eR;refine r1 rfl (by simp only[ag,and_true]<;>omega) ?_;exact again (k+1) (by omega) (by omega) ⟨ab,ab,ab,⟨rfl,an.of_eq<|congrArg (oe true) eR.symm⟩,ab,ab,ab,ab,ab,ao⟩
 have:k=(az p.aa).length:=by omega
 subst this;have Nj:=kG p.aa n m (az p.aa).length;have yM:=hR.sh _<|aav _;have aeJ:=hR.ahQ;have hrt:=hR.rt;have ail:ie p.aa n m (az p.aa).length=zX p.aa n m:=rfl;rw[ail]at Nj yM⊢;refine r0 rfl<|loop (λk:Nat=>[(1,.box true<|bh p),(2,.box true<|.agg [.nil,.nil,.nil]),(5,oe true<|zX p.aa n m),(7,.box true<|AH ⟨kO p.aa p.aa.length,iN p.aa n m k,kE p.aa p.aa.length⟩),(8,.ints .i64 true<|u6 p.aa p.aa.length),(11,.ints .i64 true<|az p.aa),(21,.i k)])
  (λk=>k<=(az p.aa).length) (λk=>(az p.aa).length-k) 0 (aaJ _) ⟨ab,ab,ab,ab,ab,ab,ab,ao⟩ ?_
 intro k hk;refine r0 rfl<|bH rfl (λh1=>?_) (λh1=>?_)
 ·have gp:k<(az p.aa).length:=by omega
  have ek:(k:Int).toNat=k:=by omega
  have Dm:(az p.aa).getD k 0=(az p.aa)[k]:=aw gp;obtain⟨o1,o2⟩:=gi _<|aaY gp;have eR:=B4 (n:=n) (m:=m) gp;have hra:=aeJ k gp;have hrk:=hrt k hk;have Nl:=tz p.aa n m k;obtain⟨o,eo⟩:∃o,(az p.aa)[k]=o:=⟨_,rfl⟩;rw[eo]at Dm o1 o2 eR hra;have dz:p.aa.getD o.toNat default∈p.aa:=bz (by omega);unfold oH at eR;have hoc:(p.aa.getD o.toNat default).kind=bo->jA p.aa o.toNat<m:=by intro g;have h2:=tT (us:=p.aa) (i:=o.toNat) (by omega);rw[aw<|show o.toNat<p.aa.length by omega]at g;rw[if_pos g]at h2;have:=Yo<|o.toNat+1;omega
  have ZL:(u6 p.aa p.aa.length).getD o.toNat 0=(jA p.aa o.toNat:Int):=by rw[u6,abc,afh,aiQ<|by omega];rfl
  have aeR:(u6 p.aa p.aa.length).length=p.aa.length:=by simp[u6]
  obtain⟨u,eu⟩:∃u,p.aa.getD o.toNat default=u:=⟨_,rfl⟩;rw[eu]at dz eR hra hoc;have hu:=hv _ dz;have huo:=hu.out;refine k1 rfl (by kernel_rfl) (by simp only[ag,and_true,ek,Dm]<;>omega) ?_;rw[ek,Dm,eu];generalize iN p.aa n m k=rts at*;generalize zX p.aa n m=sh at*;have gE:∀f∈u.ah,(∀t∈sh.getD f.sh.toNat [],Ea (m+1) K t)/\(sh.getD f.sh.toNat []).length<2^30:=λf hf=>by have:=hu.feed f hf;exact yM _<|bz (d:=[])<|by omega
  refine bH rfl (λh2=>?_) (λh2=>?_)
  ·have h2:u.kind=bo:=h2;rw[if_pos h2]at eR;have ha:=hra h2;have anu:=hoc h2;have RH:=(hu.int h2).1;have uF:Int.toNat 0=0:=rfl;have YJ:Int.toNat 1=1:=rfl;have UR:u.ah.getD 0 default∈u.ah:=bz (by omega);have Er:=hu.feed _ UR;have afk:u.ah.getD 1 default∈u.ah:=bz (by omega);have KA:=hu.feed _ afk;obtain⟨g1,g2⟩:=gE _ UR;obtain⟨g3,g4⟩:=gE _ afk;have se:=fT (bI (u.ah.getD 0 default).dU) (bI (u.ah.getD 1 default).dU) (eU Er.2.2.1) (eU KA.2.2.1) (by omega);rw[fO Er.2.2.1,fO KA.2.2.1]at se;have hm0:(jA p.aa o.toNat:Int).toNat=jA p.aa o.toNat:=by omega
   refine k1 rfl (by kernel_rfl) (by simp only[ag,and_true,uF,YJ]<;>omega) ?_;rw[uF,YJ];refine bG rfl se rfl<|k1 rfl (by kernel_rfl) (by simp only[ag,and_true,uF,YJ,ek,Dm,ZL,aeR,Nj,Nl]<;>omega) ?_;rw[ek,Dm,uF,YJ,ZL];refine cqd rfl rfl (Zf rts (sh.getD (u.ah.getD 1 default).sh.toNat []) (V:=m+1) (K:=K) (L:=K) g3 (by omega) ha.al (by omega) (by omega) (by omega) hK<|by omega) rfl<|r1 rfl (by simp only[ag,and_true]<;>omega) ?_;refine bG rfl (oZ (sh.getD (u.ah.getD 0 default).sh.toNat []) (mN rts<|sh.getD (u.ah.getD 1 default).sh.toNat []) (V:=m+1) (K:=K) (L:=K) (M:=K) g1 ha.along.1 ha.mul (by omega) (by have:=ha.along.2;omega) (by omega) hK<|by omega) rfl ?_;refine r1 rfl (by simp only[ag,and_true]<;>omega) ?_;refine bG rfl (mB (bI (u.ah.getD 0 default).dU*bI (u.ah.getD 1 default).dU) (lI (sh.getD (u.ah.getD 0 default).sh.toNat [])<|mN rts<|sh.getD (u.ah.getD 1 default).sh.toNat []) (V:=m+1) (K:=K) (L:=134) ((eU Er.2.2.1).mul<|eU KA.2.2.1) ha.mul.norm.1 ha.Zn (by have:=ha.mul.norm.2;unfold lI;omega) hK<|by omega) rfl ?_;refine k1 rfl (by kernel_rfl) (by simp only[ag,and_true,Nl,hm0]<;>omega) ?_;refine DZ (k+1) (by omega) (by omega) ⟨⟨rfl,rfl,.le<|an.refl _⟩,⟨rfl,rfl,.le<|an.refl _⟩,⟨rfl,rfl,.le<|an.refl _⟩,⟨rfl,rfl,.box<|.agg<|.cons (.le<|an.refl _)<|.cons (.row ?_)<|.cons (.le<|an.refl _) .nil⟩,⟨rfl,rfl,.le<|an.refl _⟩,⟨rfl,rfl,.le<|an.refl _⟩,⟨rfl,rfl,.le<|an.refl _⟩,ao⟩;dsimp only;rw[eR,aeY];exact qp.refl _
  have h2:¬u.kind=bo:=h2;rw[if_neg h2]at eR;refine r1 rfl (by simp only[ag,and_true]<;>omega) ?_;exact again (k+1) (by omega) (by omega) ⟨ab,ab,ab,⟨rfl,an.of_eq<|congrArg (λr=>SV.box true<|AH ⟨kO p.aa p.aa.length,r,kE p.aa p.aa.length⟩) eR.symm⟩,ab,ab,ab,ao⟩
 have:k=(az p.aa).length:=by omega
 subst this;refine r0 rfl<|bB rfl
def Jw{p:kx}(h:dR p=0):1<=p.n/\p.n<=100/\p.aa.length<=96/\∀u∈p.aa,jc p.n u:=by
 unfold dR at h;split at h
 ·simp at h
 rename_i h1;split at h
 ·simp at h
 rename_i h2;split at h
 ·rename_i h3;exact absurd h h3
 rename_i h3;refine⟨by omega,by omega,by omega,λu hu=>?_⟩;exact qw<|dG.1 (by simpa using h3) u hu
def TH{b:Bool}(h:(!b)=false):b=true:=by cases b<;>simp_all
def aa3{b:Bool}(h:(!b)=true):b=false:=by cases b<;>simp_all
noncomputable def sj(u:bO):Bool:=mJ u.k 6&&(decide (u.dD.length<=4)&&u.dD.all λs=>mJ s 3)&&u.ah.all λf=>mJ f.dU 3
noncomputable def A7(p:kx):Bool:=decide (p.aa.length<=8/\p.n<=9/\dR p=0)&&(p.aa.all sj&&Ba p.aa p.n.toNat)
def Hz(p:kx)(h:ye p):aL Tryz.prog 74 [bh p,.i 8] (.u<|A7 p):=by
 have hl:=h.aa;refine bE Tryz.func74 rfl<|r0 rfl<|aC 13 rfl (λg1=>?_) (λg1=>?_)
 ·refine r0 rfl<|aG rfl ?_;show false=A7 p;unfold A7;rw[decide_eq_false<|by omega];rfl
 refine r1 rfl (by simp only[ag,and_true]<;>omega) ?_;refine aC 20 rfl (λg2=>?_) (λg2=>?_)
 ·refine r0 rfl<|aG rfl ?_;show false=A7 p;unfold A7;rw[decide_eq_false<|by omega];rfl
 refine r0 rfl<|bF rfl (mM p h) rfl<|r0 rfl<|bH rfl (λg3=>?_) (λg3=>?_)
 ·refine r0 rfl<|aG rfl ?_;show false=A7 p;unfold A7;rw[decide_eq_false λhh=>g3 hh.2.2];rfl
 have hz:dR p=0:=ahg.1 g3;have e0:A7 p=(p.aa.all sj&&Ba p.aa p.n.toNat):=by unfold A7;rw[decide_eq_true<|by omega,ac8]
 obtain⟨v1,v2,v3,hv⟩:=Jw hz;rw[e0];refine r0 rfl<|loop (λi:Nat=>[(2,.box true<|bh p),(5,.i i)]) (λi=>i<=p.aa.length/\p.aa.all sj=(p.aa.drop i).all sj) (λi=>p.aa.length-i) 0 ⟨aaJ _,rfl⟩ ⟨ab,ab,ao⟩ ?_;rintro i⟨hi,hf⟩;refine r0 rfl<|bH rfl (λg4=>?_) (λg4=>?_)
 ·have aZ:i<p.aa.length:=by omega
  have ei:(i:Int).toNat=i:=by omega
  have eg:p.aa.getD i default=p.aa[i]:=aw aZ;have hu:=h.unit _<|aaY aZ;rw[abV aZ,acY]at hf;rw[hf];refine r1 rfl (by simp only[ag,and_true,ei]<;>omega) ?_;rw[ei,eg];generalize p.aa[i]=u at*;have huf:=hu.ah;have hut:=hu.dD;refine bF rfl (yT u.k 6 hu.k<|by decide) rfl<|r0 rfl<|iF 41 rfl (λg5=>?_) (λg5=>?_)
  ·refine r0 rfl<|aG rfl ?_;show false=_;have:mJ u.k 6=false:=aa3 g5;unfold sj;rw[this];rfl
  have k1:mJ u.k 6=true:=TH g5;refine r0 rfl<|bF rfl (EA u.dD 4 3 hu.Mf (by omega) (by decide)<|by decide) rfl<|r0 rfl<|nB rfl rfl rfl (λg6=>?_) (λg6=>?_)
  ·refine r0 rfl<|aG rfl ?_;show false=_;have:(decide (u.dD.length<=4)&&u.dD.all λs=>mJ s 3)=false:=aa3 g6;unfold sj;rw[this,Bool.and_false];rfl
  have k2:(decide (u.dD.length<=4)&&u.dD.all λs=>mJ s 3)=true:=TH g6;have k3:sj u=u.ah.all λf=>mJ f.dU 3:=by unfold sj;rw[k1,k2];rfl
  rw[k3];refine r0 rfl<|loop (λk:Nat=>[(2,.box true<|bh p),(5,.i i),(6,.box true<|dM u),(7,.i k)]) (λk=>k<=u.ah.length/\(u.ah.all λf=>mJ f.dU 3)=(u.ah.drop k).all λf=>mJ f.dU 3) (λk=>u.ah.length-k) 0 ⟨aaJ _,rfl⟩
   ⟨ab,ab,ab,ab,ao⟩ ?_
  rintro k⟨hk,RH⟩;refine r0 rfl<|bH rfl (λg7=>?_) (λg7=>?_)
  ·have gp:k<u.ah.length:=by omega
   have ek:(k:Int).toNat=k:=by omega
   have ef:u.ah.getD k default=u.ah[k]:=aw gp;have hfu:=hu.dU _<|aaY gp;rw[abV gp,acY]at RH;rw[RH];refine r1 rfl (by simp only[ag,and_true,ek]<;>omega) ?_;rw[ek,ef];generalize u.ah[k]=f at*;refine bF rfl (yT f.dU 3 hfu<|by decide) rfl<|r0 rfl<|nB rfl rfl rfl (λg8=>?_) (λg8=>?_)
   ·refine r0 rfl<|aG rfl ?_;show false=_;have:mJ f.dU 3=false:=aa3 g8;rw[this];rfl
   have k4:mJ f.dU 3=true:=TH g8;rw[k4,ac8];refine r1 rfl (by simp only[ag,and_true]<;>omega) ?_;refine again (k+1) (by omega) ⟨by omega,?_⟩ ⟨ab,ab,ab,ab,ao⟩;rfl
  have:k=u.ah.length:=by omega
  subst this;rw[RH,adE,ahh,ac8];refine r1 rfl (by simp only[ag,and_true]<;>omega) ?_;refine again (i+1) (by omega) ⟨by omega,?_⟩ ⟨ab,ab,ao⟩;rfl
 have:i=p.aa.length:=by omega
 subst this;rw[hf,adE,ahh,ac8];refine r0 rfl<|bF rfl (Rh p h p.n.toNat (by omega) (by omega) (by omega) hv) rfl<|r0 rfl<|bB rfl
section
variable{D M κ V B:Nat}
section
variable{d:Int}{a b p:List cN}{n v w:Nat}{c:Rat}
def bP.tok(hB:qk D M κ)(hV:V<=9)(h:bP D M V d w p)(hd:d<=6)(hw:w<=B):(∀u∈p,Ea V (κ*B+2) u)/\p.length<2^30:=⟨h.pw.tok hB hV hd<|afF (adn _ hw) 2,by have:=h.len hV hd;omega⟩
def bP.W7(hB:qk D M κ)(hV:V<=9)(h:bP D M V d w p)(hd:d<=6)(hc:Wn D M 1 v c)(hw:v+w+1<=B):
 vL V (κ*B+2) (py c p)/\bP D M V d (v+w+1) (kJ c p):=by
 have h1:=h.pw.Zn hc;have hl:(py c p).length<=10^18:=by have:=h.len hV hd;simp only[py,abp];omega
 exact⟨h1.nok hB hV hd hl<|afF (adn _ hw) 2,h1.norm hB hl⟩
def bP.Oj(hB:qk D M κ)(hV:V<=9)(h:bP D M V d w a)(g:bP D M V d w b)(hd:d<=6)(hw:w+1<=B):
 vL V (κ*B+2) (a++b)/\bP D M V d (w+1) (EV a b):=by
 have h1:=h.pw.append g.pw;have hl:(a++b).length<=10^18:=by have:=h.len hV hd;have:=g.len hV hd;rw[abq];omega
 exact⟨h1.nok hB hV hd hl<|afF (adn _ hw) 2,h1.norm hB hl⟩
def bP.aa7{e:Int}(hB:qk D M κ)(hV:V<=9)(h:bP D M V d w a)(g:bP D M V e v b)(hd:d<=6)(he:e<=6)(hde:d+e<=6)(hw:w+v+1<=B):
 vL V (κ*B+2) (jv a b)/\bP D M V (d+e) (w+v+1) (lI a b):=by
 have h1:=h.pw.mul g.pw;have hl:(jv a b).length<=10^18:=by have h2:=h.len hV hd;have h3:=g.len hV he;rw[TO];exact abC (afT h2 h3) (by decide)
 exact⟨h1.nok hB hV hde hl<|afF (adn _ hw) 2,h1.norm hB hl⟩
def bP.TP{K:Nat}:vL V K (jv [] b)/\bP D M V d w (lI [] b):=by
 refine⟨⟨λu hu=>by simp[jv]at hu,λm hm=>?_⟩,?_⟩
 ·have:m=[]:=by simpa[jv]using hm
  subst this;exact⟨λu hu=>by simp[fN]at hu,by simp[fN]⟩
 exact bP.nil
def bP.ajW(hB:qk D M κ)(hV:V<=9)(h:bP D M V d w p)(hd:d<=6)(hv:v<V)(hw:w+2<=B):
 vL V (κ*B+2) (pZ p v)/\bP D M V (d-1) (w+2) (uf p v):=by
 have h1:=h.pw.der hB hd v hv;have hl:(pZ p v).length<=10^18:=by have:=h.len hV hd;have:=Dx p v;omega
 exact⟨h1.nok hB hV (by omega) hl<|afF (adn _ hw) 2,h1.norm hB hl⟩
def Bp(p:List cN)(v:Nat):Prop:=∃u∈p,0<u.pw.getD v 0
def BG(h:¬Bp p v):uf p v=[]:=by
 have e:pZ p v=[]:=by unfold pZ;rw[List.flatMap_eq_nil_iff];intro u hu;unfold AN;rw[if_neg λg=>h ⟨u,hu,g⟩]
 unfold uf;rw[e];rfl
def sI{l:List cN}(h:Bp (fN l) v):Bp l v:=by
 obtain⟨u,hu,g⟩:=h;rcases Cq hu with⟨t,ht,e⟩|⟨t,ht,e⟩
 ·exact⟨t,ht,by rw[<-e];exact g⟩
 simp at ht
def Ht(h:Bp (a++b) v):Bp a v\/Bp b v:=by obtain⟨u,hu,g⟩:=h;exact(abR.1 hu).imp (λh=>⟨u,h,g⟩) λh=>⟨u,h,g⟩
def OW(h:Bp (kJ c p) v):Bp p v:=by obtain⟨u,hu,g⟩:=sI h;obtain⟨t,ht,rfl⟩:=abD.1 hu;exact⟨t,ht,g⟩
def IN:∀{a b:List Int}{v:Nat},0<(List.zipWith (·+ ·) a b).getD v 0->(∀x∈a,0<=x)->(∀x∈b,0<=x)->0<a.getD v 0\/0<b.getD v 0
 |[],_,_,h,_,_=>by simp at h
 |_::_,[],_,h,_,_=>by simp at h
 |x::a,y::b,0,h,ha,hb=>by simp only[List.zipWith_cons_cons,ah1]at h⊢;omega
 |x::a,y::b,v+1,h,ha,hb=>by simp only[List.zipWith_cons_cons,ahT]at h⊢;exact IN h (λz hz=>ha z<|by simp[hz]) λz hz=>hb z (by simp[hz])
def Xs{e:Int}{v':Nat}(ha:PW D M V d w a)(hb:PW D M V e v' b)(h:Bp (lI a b) v):Bp a v\/Bp b v:=by obtain⟨u,hu,g⟩:=sI h;obtain⟨t,ht,hu⟩:=ady.1 hu;obtain⟨s,hs,rfl⟩:=abD.1 hu;exact(IN g (ha t ht).1.2.1 (hb s hs).1.2.1).imp (λh=>⟨t,ht,h⟩) λh=>⟨s,hs,h⟩
def FD:¬Bp (fQ c n) v:=by
 rintro⟨u,hu,g⟩;unfold fQ at hu;split at hu
 ·simp at hu
 simp only[aeU]at hu;subst hu;rw[abc,af5]at g;split at g<;>simp at g
def OV{i:Nat}(h:Bp (vN i n) v):v=i:=by obtain⟨u,hu,g⟩:=h;simp only[vN,aeU]at hu;subst hu;apply adC;intro dc;rw[abc,aif<|by omega,af5]at g;split at g<;>simp at g
def Bz(h:bP D M V d w p)(ho:Bp p v):1<=d:=by
 obtain⟨u,hu,g⟩:=ho;obtain⟨h1,h2,h3⟩:=(h.pw u hu).1;have hm:u.pw.getD v 0∈u.pw:=by
  rcases abF v u.pw.length with hl|hl
  ·rw[aw hl];exact aaY hl
  rw[abc,adb hl]at g;simp at g
 have:=kV h2 _ hm;omega
end
end
structure fF(us:List bO)(n:Nat):Prop where
 len:us.length<=8
 n0:0<n
 n9:n<=9
 val:∀u∈us,jc n u
 dr:vF n us
 ord:us.length<=(az us).length
 few:∀u∈us,sj u=true
 low:Ba us n=true
def aT(us:List bO)(k:Nat):bO:=us.getD ((az us).getD k 0).toNat default
def JE{us:List bO}:∀(k:Nat){out:List Int},(∀j,j<out.length->jT us (out.take j) (out.getD j 0).toNat=true)->∀j,j<(ee us k out).length->jT us ((ee us k out).take j) ((ee us k out).getD j 0).toNat=true
 |0,out,h=>h
 |k+1,out,h=>by
  rw[ee];split
  ·exact h
  rename_i g;refine JE k λj hj=>?_;rcases oY us out 0 with e|⟨i,e,_,_,h3⟩
  ·rw[e]at g;exact absurd (by decide) g
  rw[e]at hj⊢;rw[abq,aiy]at hj;by_cases c:j<out.length
  ·rw[ahr<|by omega,abc,adi c,<-abc];exact h j c
  have:j=out.length:=by omega
  subst this;rw[List.take_left',abc,adj<|aav _,afM]
  ·simpa using h3
  rfl
def JD{us:List bO}{k:Nat}(h:k<(az us).length):jT us ((az us).take k) ((az us).getD k 0).toNat=true:=JE (out:=[]) _ (λj hj=>by simp at hj) k h
def ta{s:Int}:∀{us:List bO}{k:Nat},(cg s k us= -1/\∀u∈us,u.out≠s)\/∃i,∃h:i<us.length,cg s k us=((k+i:Nat):Int)/\us[i].out=s
 |[],k=>.inl ⟨rfl,by simp⟩
 |u::us,k=>by
  simp only[cg];split
  ·rename_i h;exact .inr ⟨0,by simp,by simp,h⟩
  rename_i h;rcases ta (s:=s) (us:=us) (k:=k+1)with⟨e,g⟩|⟨i,hi,e,g⟩
  ·exact .inl ⟨e,λv hv=>by rcases abk.1 hv with rfl|hv;exact h;exact g v hv⟩
  exact .inr ⟨i+1,by simpa using hi,by rw[e];congr 1;omega,g⟩
def N0{α:Type}{p:α->Bool}{l:List α}(h:l.countP p=1){i j:Nat}(hi:i<l.length)(hj:j<l.length)(pi:p l[i]=true)(pj:p l[j]=true):i=j:=by
 have key:∀{i j:Nat}(hi:i<l.length)(hj:j<l.length),p l[i]=true->p l[j]=true->¬i<j:=by
  intro i j hi hj pi pj cS;have e:l=l.take j++l[j]::l.drop (j+1):=by rw[<-abV hj,agS]
  rw[e,agV,List.countP_cons_of_pos pj]at h;have:0<(l.take j).countP p:=List.countP_pos_iff.2 ⟨l[i],List.mem_take_iff_getElem.2 ⟨i,by omega,rfl⟩,pi⟩;omega
 have h1:=key hi hj pi pj;have h2:=key hj hi pj pi;omega
section
variable{us:List bO}{n:Nat}(hm:fF us n)
include hm
theorem fF.mW:(az us).length=us.length:=agZ (u5 us) hm.ord
def fF.idx{k:Nat}(h:k<us.length):((az us).getD k 0).toNat<us.length:=by
 have h':k<(az us).length:=by rw[hm.mW];exact h
 have:=gi _<|bz (d:=0) h';omega
def fF.eq{k:Nat}(h:k<us.length):aT us k=us[((az us).getD k 0).toNat]'(hm.idx h):=aw<|hm.idx h
def fF.mem{k:Nat}(h:k<us.length):aT us k∈us:=by rw[hm.eq h];exact aaY _
def fF.inj{i j:Nat}(hi:i<us.length)(hj:j<us.length)(h:us[i].out=us[j].out):i=j:=by
 have hv:=(hm.val _<|aaY hi).out;have h1:=hm.dr us[i].out.toNat (by omega) (by omega);refine N0 h1 hi hj ?_ ?_
 ·rw[decide_eq_true_eq];omega
 rw[decide_eq_true_eq,<-h];omega
def fF.ad7{j k:Nat}(hj:j<us.length)(hk:k<us.length)(h:(az us).getD j 0=(az us).getD k 0):j=k:=by
 have hn:=wF us;have e:=hm.mW;rw[aw<|by omega,aw<|by omega]at h;have hp:=List.pairwise_iff_getElem.1 hn;rcases aiR j k with c|c|c
 ·exact absurd h (hp j k (by omega) (by omega) c)
 ·exact c
 exact absurd h.symm<|hp k j (by omega) (by omega) c
def fF.outs{j k:Nat}(hj:j<us.length)(hk:k<us.length)(h:(aT us j).out=(aT us k).out):j=k:=by
 rw[hm.eq hj,hm.eq hk]at h;have:=hm.inj (hm.idx hj) (hm.idx hk) h;refine hm.ad7 hj hk ?_;have h1:=gi _<|bz (d:=0)<|show j<(az us).length by rw[hm.mW];exact hj
 have h2:=gi _<|bz (d:=0)<|show k<(az us).length by rw[hm.mW];exact hk
 omega
def fF.before{k:Nat}(hk:k<us.length){f:EY}(hf:f∈cH (aT us k))(hs:0<=f.sh/\f.sh<n):f.sh=0\/∃j,j<k/\(aT us j).out=f.sh:=by
 have h:=JD (us:=us) (k:=k) (by rw[hm.mW];exact hk);unfold jT at h;rw[abe,aca]at h;have h2:=h.2 f hf;unfold kP at h2;rw[decide_eq_true_eq]at h2;rcases ta (s:=f.sh) (us:=us) (k:=0)with⟨e,g⟩|⟨i,hi,e,g⟩
 ·left;apply adC;intro dc;have h1:=hm.dr f.sh.toNat (by omega) (by omega);have:0<us.countP (λu=>decide (u.out=(f.sh.toNat:Int))):=by omega
  obtain⟨u,hu,hp⟩:=List.countP_pos_iff.1 this;rw[decide_eq_true_eq]at hp;exact g u hu (by omega)
 right;have e':dY us f.sh=(i:Int):=by unfold dY;rw[e];simp
 rw[e']at h2;have h3:(i:Int)∈(az us).take k:=h2.resolve_left (by omega);obtain⟨j,hj,he⟩:=List.mem_take_iff_getElem.1 h3;refine⟨j,by omega,?_⟩;have CX:j<us.length:=by omega
 rw[hm.eq CX];have:((az us).getD j 0).toNat=i:=by rw[aw<|by omega,he];rfl
 simp only[this];exact g
end
def nu{l:List Int}{i s:Nat}{x:Int}(h:i<l.length):(l.set i x).getD s 0=if s=i then x else l.getD s 0:=by
 split
 ·rename_i e;subst e;exact uB h
 rename_i e;exact getD_set_ne (by omega)
def Dv{u:bO}:∀(fs:List EY){dg:List Int},u.out.toNat<dg.length->(∀s,0<=dg.getD s 0)->
 (fs.foldl (jy u) dg).length=dg.length/\(∀s,s≠u.out.toNat->(fs.foldl (jy u) dg).getD s 0=dg.getD s 0)/\dg.getD u.out.toNat 0<=(fs.foldl (jy u) dg).getD u.out.toNat 0/\
   ∀f∈fs,dg.getD f.sh.toNat 0*lh u<=(fs.foldl (jy u) dg).getD u.out.toNat 0
 |[],dg,_,_=>⟨rfl,λ_ _=>rfl,ac0 _,by simp⟩
 |f::fs,dg,ho,h0=>by
  have hm:1<=lh u:=by unfold lh;split<;>omega
  have hg:∀s,(jy u dg f).getD s 0=if s=u.out.toNat then max (dg.getD u.out.toNat 0) (dg.getD f.sh.toNat 0*lh u)else dg.getD s 0:=λs=>nu ho;have Kx:∀s,dg.getD s 0<=(jy u dg f).getD s 0:=λs=>by rw[hg s];split<;>(try subst_vars)<;>omega
  obtain⟨h1,h2,h3,h4⟩:=Dv fs (dg:=jy u dg f) (by unfold jy;rw[kH];exact ho) λs=>aeu (h0 s)<|Kx s;rw[adl];refine⟨by rw[h1];unfold jy;rw[kH],λs hs=>by rw[h2 s hs,hg s,if_neg hs],aeu (Kx _) h3,λg D9=>?_⟩;rcases abk.1 D9 with rfl|D9
  ·have:=hg u.out.toNat;rw[if_pos rfl]at this;omega
  exact aeu (aeP (Kx _)<|by omega)<|h4 g D9
def rm(us:List bO)(n k:Nat):List Int:=((az us).take k).foldl (rk us)<|iZ us n us.length
def Ll{us:List bO}{n k:Nat}(h:k<(az us).length):rm us n (k+1)=rk us (rm us n k) ((az us).getD k 0):=by unfold rm;rw[abZ h,ae8,aw h];rfl
def zg{us:List bO}{m:Int}:∀{l:List Int}{dg r:List Int},EL us m l dg=some r->r=l.foldl (rk us) dg/\∀k,k<l.length->((l.take<|k+1).foldl (rk us) dg).getD (us.getD (l.getD k 0).toNat default).out.toNat 0<=m
 |[],dg,r,h=>by simp only[EL,aaq]at h;exact⟨h.symm,by simp⟩
 |i::l,dg,r,h=>by
  rw[EL]at h;split at h
  ·simp at h
  rename_i g;obtain⟨h1,h2⟩:=zg h;refine⟨h1,λk hk=>?_⟩;cases k with
  |zero=>simp only[adI,List.take_succ_cons,afX,adl,agq,ah1];omega
  |succ k=>simpa using h2 k (by simpa using hk)
def Fp{us:List bO}{m:Int}{dg:List Int}:∀{l:List Int}{rt r:List Int},Jm us m dg l rt=some r->∀k,k<l.length->((l.take<|k+1).foldl (uX us dg) rt).getD (us.getD (l.getD k 0).toNat default).out.toNat 0<=m
 |[],rt,r,h=>by simp
 |i::l,rt,r,h=>by
  rw[Jm]at h;split at h
  ·simp at h
  rename_i g;have h2:=Fp h;intro k hk;cases k with
  |zero=>simp only[adI,List.take_succ_cons,afX,adl,agq,ah1];omega
  |succ k=>simpa using h2 k (by simpa using hk)
section
variable{us:List bO}{n:Nat}(hm:fF us n)
include hm
theorem fF.out{k:Nat}(h:k<us.length):1<=(aT us k).out/\(aT us k).out<n:=(hm.val _<|hm.mem h).out
def fF.dgL:∃r,EL us 6 (az us) (iZ us n us.length)=some r/\r=rm us n us.length/\(Jm us 6 r (az us)<|List.replicate n 0).isSome=true:=by
 have h:=hm.low;unfold Ba at h;split at h
 ·simp at h
 rename_i dg e;refine⟨dg,e,?_,h⟩;have:=(zg e).1;rw[this];unfold rm;rw[abm<|by rw[hm.mW];exact aav _]
def fF.dg:∀k,k<=us.length->(rm us n k).length=n/\∀s,0<=(rm us n k).getD s 0/\(rm us n k).getD s 0<=6
 |0,_=>by obtain⟨h1,h2⟩:=pX us n us.length<|aav _;unfold rm;rw[afX,agq];exact⟨h1,λs=>h2.getD (by decide) s⟩
 |k+1,h=>by
  obtain⟨h1,h2⟩:=fF.dg k (by omega);have hk:k<(az us).length:=by rw[hm.mW];omega
  obtain⟨r,e,-,-⟩:=hm.dgL;have hb:=(zg e).2 k hk;have ho:=hm.out (show k<us.length by omega);have e0:us.getD ((az us).getD k 0).toNat default=aT us k:=rfl;rw[e0]at hb;have hb:(rm us n<|k+1).getD (aT us k).out.toNat 0<=6:=hb;rw[Ll hk]at hb⊢;unfold rk at hb⊢;rw[e0]at hb⊢;split
  ·exact⟨h1,h2⟩
  rename_i UM;rw[if_neg UM]at hb;obtain⟨q1,q2,q3,-⟩:=Dv (u:=aT us k) (aT us k).ah (dg:=rm us n k) (by omega) λs=>(h2 s).1;refine⟨by rw[q1];exact h1,λs=>?_⟩;by_cases c:s=(aT us k).out.toNat
  ·subst c;exact⟨aeu (h2 _).1 q3,hb⟩
  rw[q2 s c];exact h2 s
def fF.dgS{k:Nat}(h:k<us.length):(∀s,s≠(aT us k).out.toNat->(rm us n<|k+1).getD s 0=(rm us n k).getD s 0)/\(∀s,(rm us n k).getD s 0<=(rm us n<|k+1).getD s 0)/\
 ((aT us k).kind≠bo->∀f∈(aT us k).ah,(rm us n k).getD f.sh.toNat 0*lh (aT us k)<=(rm us n<|k+1).getD (aT us k).out.toNat 0):=by
 obtain⟨h1,h2⟩:=hm.dg k (by omega);have hk:k<(az us).length:=by rw[hm.mW];omega
 have ho:=hm.out h;have e0:us.getD ((az us).getD k 0).toNat default=aT us k:=rfl;rw[Ll hk];unfold rk;rw[e0];split
 ·rename_i UM;exact⟨λ_ _=>rfl,λ_=>ac0 _,λg=>absurd UM g⟩
 obtain⟨q1,q2,q3,q4⟩:=Dv (u:=aT us k) (aT us k).ah (dg:=rm us n k) (by omega) λs=>(h2 s).1;refine⟨q2,λs=>?_,λ_=>q4⟩;by_cases c:s=(aT us k).out.toNat
 ·subst c;exact q3
 rw[q2 s c];exact ac0 _
end
section
variable{n:Nat}{q:Rat}{s:bK}
def mO:List Nat->Nat
 |[]=>1
 |x::l=>x*mO l
def Dn:∀{l:List Nat}{x:Nat},x∈l->x∣mO l
 |y::l,x,h=>by
  rcases abk.1 h with rfl|h
  ·exact Nat.dvd_mul_right _ _
  exact Nat.dvd_trans (Dn h)<|Nat.dvd_mul_left _ _
def Cd:∀{l:List Nat},(∀x∈l,0<x)->0<mO l
 |[],_=>by simp[mO]
 |x::l,h=>ag9 (h x<|by simp)<|Cd λy hy=>h y<|by simp[hy]
def Ce:∀{l:List Nat},(∀x∈l,(ae x).length<=1)->(ae<|mO l).length<=l.length+1
 |[],_=>by simp only[mO];rw[iz];simp
 |x::l,h=>by have h1:=Ce (l:=l) λy hy=>h y (by simp[hy]);have h2:=dK x<|mO l;have h3:=h x (by simp);simp only[mO,abn];omega
def NU(h:n<10^9):(ae n).length<=1:=rq (k:=1)<|dA n 1 9 h<|by decide
noncomputable def jq(us:List bO):Nat:=mO ((List.range 999).map (·+1))*mO (us.map λu=>(bI u.k).den)
noncomputable def jo(us:List bO):Nat:=jq us*10^18
def NC(h:mJ s n=true):aJ s=0/\Dc (bI s) n:=by unfold mJ at h;rw[decide_eq_true_eq]at h;exact h.2
def Dc.lt(h:Dc q n):q.num.natAbs<10^n/\q.den<10^n:=⟨xq h.1,xq h.2⟩
def nF{u:bO}(h:sj u=true):mJ u.k 6=true/\u.dD.length<=4/\(∀c∈u.dD,mJ c 3=true)/\∀f∈u.ah,mJ f.dU 3=true:=by unfold sj at h;simp only[abe,decide_eq_true_eq,aca]at h;exact⟨h.1.1,h.1.2.1,h.1.2.2,h.2⟩
def aak(q:Rat):q*(q.den:Rat)=(q.num:Rat):=by
 have h:=Rat.num_divInt_den q;rw[aiO]at h;have h2:((q.den:Nat):Rat)≠0:=by
  intro g;have:q.den=0:=by exact_mod_cast g
  exact q.den_nz this
 have h3:((q.den:Int):Rat)=((q.den:Nat):Rat):=agU _;rw[h3]at h
 conv=>lhs;lhs;rw[<-h]
 grind
def Wn.Zx{D M:Nat}(hd:q.den∣D)(hn:q.num.natAbs*D<=M):Wn D M 1 1 q:=by
 obtain⟨e,he⟩:=hd;have hp:0<q.den:=q.den_pos;refine⟨q.num*(e:Nat),?_,?_⟩
 ·rw[ae5,afE,Nat.pow_one,afG];refine abC (adn _ ?_) hn;rw[he];exact Nat.le_mul_of_pos_left _ hp
 rw[Nat.pow_one,he,Rat.natCast_mul,<-ah2,agT,agU];rw[aak]
def Ww{us:List bO}(h:mJ s 3=true):Wn (jq us) (jo us) 1 1 (bI s):=by obtain⟨h1,h2⟩:=(NC h).2.lt;have hp:=(bI s).den_pos;refine Wn.Zx (Nat.dvd_trans (Dn<|abD.2 ⟨(bI s).den-1,aeE.2<|by omega,by omega⟩)<|Nat.dvd_mul_right _ _) ?_;unfold jo;rw[abU];exact adn _ (by omega)
end
section
variable{us:List bO}{n:Nat}(hm:fF us n)
include hm
theorem fF.base:qk (jq us) (jo us) 1012:=by
 have h1:0<mO ((List.range 999).map (·+1)):=Cd λx hx=>by obtain⟨y,-,rfl⟩:=abD.1 hx;omega
 have h2:0<mO (us.map λu=>(bI u.k).den):=Cd λx hx=>by obtain⟨u,-,rfl⟩:=abD.1 hx;exact(bI u.k).den_pos
 refine⟨ag9 h1 h2,aav _,?_⟩;have h3:(ae (mO ((List.range 999).map (·+1)))).length<=((List.range 999).map (·+1)).length+1:=Ce λx hx=>by obtain⟨y,hy,rfl⟩:=abD.1 hx;have:=aeE.1 hy;exact NU (by omega)
 have h4:(ae<|mO<|us.map λu=>(bI u.k).den).length<=(us.map λu=>(bI u.k).den).length+1:=Ce λx hx=>by obtain⟨u,hu,rfl⟩:=abD.1 hx;have:=(NC (nF<|hm.few u hu).1).2.lt.2;exact NU (by omega)
 have h5:=dK (mO ((List.range 999).map (·+1)))<|mO<|us.map λu=>(bI u.k).den;have h6:=dK (jq us)<|10^18;have h7:(ae<|10^18).length<=3:=rq (k:=3)<|dA _ 1 27 (by decide)<|by decide
 rw[abp,aiS]at h3;rw[abp]at h4;have:=hm.len;unfold jo;unfold jq at h6⊢;omega
def fF.wnS{u:bO}(hu:u∈us):Wn (jq us) (jo us) 1 1 (bI u.k):=by obtain⟨h1,h2⟩:=(NC (nF<|hm.few u hu).1).2.lt;refine Wn.Zx (Nat.dvd_trans (Dn<|abD.2 ⟨u,hu,rfl⟩)<|Nat.dvd_mul_left _ _) ?_;unfold jo;rw[abU];exact adn _ (by omega)
def fF.wnQ(s:Nat):Wn (jq us) (jo us) 1 1 ((bW n us).getD s 0):=by
 have key:∀(l:List bO)(o:List Rat),(∀u∈l,u∈us)->(∀s,Wn (jq us) (jo us) 1 1 (o.getD s 0))->∀s,Wn (jq us) (jo us) 1 1 ((l.foldl (λ(o:List Rat)u=>o.set u.out.toNat<|bI u.k) o).getD s 0):=by
  intro l
  induction l with
  |nil=>intro o _ h;exact h
  |cons u l ih=>
   intro o hl h;rw[adl];refine ih _ (λv hv=>hl v<|by simp[hv]) λs=>?_;rw[abc,agG];split
   ·split
    ·exact hm.wnS<|hl u<|by simp
    exact Wn.zero _ _ _ _
   rw[<-abc];exact h s
 refine key us _ (λ_ h=>h) (λs=>?_) s;rw[abc,af5];split<;>exact Wn.zero _ _ _ _
end
def wS:Nat->Nat
 |0=>0
 |k+1=>3*wS k+20
def BN{k:Nat}(h:k<=8):wS k<=65600:=(by decide:∀k,k<9->wS k<=65600) k (by omega)
def fh{l:List (List cN)}{i s:Nat}{x:List cN}(h:i<l.length):(l.set i x).getD s []=if s=i then x else l.getD s []:=by
 rw[abc,agG];split
 ·rename_i e;subst e;simp
 rename_i e;rw[if_neg<|by omega,abc]
section
variable{D M κ m B:Nat}
def Mg{x:List cN}{dx:Int}{w:Nat}(hB:qk D M κ)(hV:m+1<=9)(hx:bP D M (m+1) dx (w+2) x)(h0:0<=dx)(h6:dx<=6)(hw:3*w+20<=B):
 ∀(cs:List Rat),(∀c∈cs,Wn D M 1 1 c)->cs.length<=4->dx*((cs.length:Int)-1)<=6->
  (cs≠[]->bP D M (m+1) (dx*((cs.length:Int)-1)) (2+(cs.length-1)*(w+4)) (jE m x cs))/\
  ∀c r,cs=c::r->vL (m+1) (κ*B+2) (jv (jE m x r) x)/\vL (m+1) (κ*B+2) (lI (jE m x r) x++fQ c m)
 |[],_,_,_=>⟨λh=>absurd rfl h,λc r h=>by simp at h⟩
 |c::cs,hc,hl,hd=>by
  rw[abn]at hl hd;have se:=hc c (by simp);have hk:bP D M (m+1) 0 1 (fQ c m):=bP.const se;by_cases e:cs=[]
  ·subst e;have h1:lI (jE m x []) x=[]:=by simp[jE,lI,jv,fN]
   have h2:=bP.Oj (B:=B) hB hV (bP.nil (D:=D) (M:=M) (V:=m+1) (d:=0) (w:=1)) hk (by decide) (by omega);have h3:bP D M (m+1) (dx*(((c::([]:List Rat)).length:Int)-1)) (2+((c::([]:List Rat)).length-1)*(w+4)) (jE m x [c]):=by show bP D M (m+1) _ _ (EV (lI (jE m x []) x)<|fQ c m);rw[h1];simpa using h2.2
   refine⟨λ_=>h3,λc' r h=>?_⟩;simp only[agK]at h;obtain⟨rfl,rfl⟩:=h;exact⟨(bP.TP (D:=D) (M:=M) (d:=0) (w:=0)).1,by rw[h1];exact h2.1⟩
  have ua:1<=cs.length:=agH.2 e;have hle:dx*((cs.length:Int)-1)<=dx*(((cs.length+1:Nat):Int)-1):=adq (by omega) h0;obtain⟨ih,-⟩:=Mg hB hV hx h0 h6 hw cs (λd hd=>hc d<|by simp[hd]) (by omega) (by omega);have h1:=ih e;have e1:dx*((cs.length:Int)-1)+dx=dx*(((cs.length+1:Nat):Int)-1):=by rw[show(((cs.length+1:Nat):Int)-1)=((cs.length:Int)-1)+1 by omega,ag7,afQ]
  have hw1:(cs.length-1)*(w+4)<=2*(w+4):=abY _ (by omega);have e2:2+(cs.length-1)*(w+4)+(w+2)+1+1=2+((c::cs).length-1)*(w+4):=by rw[abn,show cs.length+1-1=(cs.length-1)+1 by omega,abW];omega
  have h2:=bP.aa7 (B:=B) hB hV h1 hx (by omega) h6 (by rw[e1];omega) (by omega);rw[e1]at h2;have h3:=bP.Oj (B:=B) hB hV h2.2 (hk.mono hB (d:=0) (e:=dx*(((cs.length+1:Nat):Int)-1)) (ado h0<|by omega)<|by omega) (by omega) (by omega);refine⟨λ_=>?_,λc' r h=>?_⟩
  ·rw[<-e2];exact h3.2
  simp only[agK]at h;obtain⟨rfl,rfl⟩:=h;exact⟨h2.1,h3.1⟩
def acP{sh:List (List cN)}{st:List Rat}{u:bO}{dg:Nat->Int}{d:Int}{w:Nat}(hB:qk D M κ)(hV:m+1<=9)(hs:∀s,bP D M (m+1) (dg s) w<|sh.getD s [])(eR:∀s,Wn D M 1 1 (st.getD s 0))(hk:Wn D M 1 1 (bI u.k))
 (hf:∀f∈u.ah,Wn D M 1 1 (bI f.dU)/\dg f.sh.toNat<=d)(hl:u.ah.length<=8)(h0:0<=d)(h6:d<=6)(hw:w+12<=B):
 Wj (m+1) (κ*B+2) (κ*2+2) sh st m u/\bP D M (m+1) d (w+11) (Sg sh st m u):=by
 have abB:∀f∈u.ah,vL (m+1) (κ*B+2) (py (bI f.dU)<|sh.getD f.sh.toNat [])/\bP D M (m+1) d (w+2) (kJ (bI f.dU)<|sh.getD f.sh.toNat []):=λf h=>by obtain⟨h1,h2⟩:=hf f h;have:=bP.W7 (B:=B) hB hV (hs f.sh.toNat) (by omega) h1 (by omega);exact⟨this.1,this.2.mono hB h2<|by omega⟩
 have ab8:∀i,i<=u.ah.length->bP D M (m+1) d (w+2+i) (gB sh st u i).1/\Wn D M (1+i) 2 (gB sh st u i).2:=by
  intro i
  induction i with
  |zero=>intro _;exact⟨bP.nil,hk.up hB<|by decide⟩
  |succ i ih=>
   intro hi;obtain⟨h1,h2⟩:=ih (by omega);have hm:u.ah.getD i default∈u.ah:=bz (by omega);have h3:=(abB _ hm).2;refine⟨(bP.Oj (B:=B) hB hV h1 (h3.mono hB (ac0 _)<|by omega) h6<|by omega).2,?_⟩;have h4:Wn D M 1 2 (bI (u.ah.getD i default).dU*st.getD (u.ah.getD i default).sh.toNat 0):=by have:=(hf _ hm).1.mul<|eR (u.ah.getD i default).sh.toNat;simpa using this
   have:=h2.add h4.neg;rw[<-Rat.sub_eq_add_neg]at this;exact this.le (by omega)
 obtain⟨a1,a2⟩:=ab8 u.ah.length<|aav _;have hc:Wn D M 1 3 (gB sh st u u.ah.length).2:=a2.one hB (by omega);have hcp:bP D M (m+1) d (w+2+8) (fQ (gB sh st u u.ah.length).2 m):=(bP.const hc).mono hB h0 (by omega);have Ep:=bP.Oj (B:=B) hB hV (a1.mono hB (ac0 _)<|show w+2+u.ah.length<=w+2+8 by omega) hcp h6 (by omega);refine⟨⟨λf h=>(abB f h).1,λi hi=>?_,λi hi=>?_,Ep.1⟩,Ep.2.mono hB (ac0 _)<|by omega⟩
 ·have hm:u.ah.getD i default∈u.ah:=bz (by omega);exact(bP.Oj (B:=B) hB hV (ab8 i<|by omega).1 ((abB _ hm).2.mono hB (ac0 _)<|by omega) h6<|by omega).1
 have:=((ab8 i hi).2.le<|show 1+i<=9 by omega).sz hB;exact this.mono (by have:=NU (n:=9) (by decide);omega)
end
def wB:Nat:=1300000
section
variable{us:List bO}{n m:Nat}(hm:fF us n)(hc:m=c7 us)
include hm hc
theorem fF.mle:m+1<=9:=by have:c7 us<=us.length:=ago;have:=hm.len;omega
def fF.init:∀i,i<=us.length->∀s,bP (jq us) (jo us) (m+1) ((iZ us n i).getD s 0) 0 ((G0 us n m i).getD s [])
 |0,_=>λs=>by
  have hn:=hm.n0;unfold iZ G0 B1;rw[afX,agq,nu<|by simpa using hn,fh<|by simpa using hn];split
  ·exact bP.var (by omega)
  rw[abc (l:=List.replicate n ([]:List cN)),af5];split<;>exact bP.nil
 |i+1,h=>λs=>by
  have ih:=fF.init i (by omega) s;have hv:=(hm.val _<|aaY<|show i<us.length by omega).out;rw[te<|by omega,G0,aw<|show i<us.length by omega];split
  ·rw[nu<|by rw[(pX us n i<|by omega).1];omega,fh<|by rw[qC];omega];split
   ·exact bP.var (by rw[hc];exact Ij us _)
   exact ih
  exact ih
def fF.SU{k:Nat}(h:k<us.length){w:Nat}(hw:3*w+20<=wB)(ih:∀s,bP (jq us) (jo us) (m+1) ((rm us n k).getD s 0) w<|(ie us n m k).getD s []):
 ((aT us k).kind=jJ->Wj (m+1) (1012*wB+2) (1012*2+2) (ie us n m k) (bW n us) m (aT us k))/\
 ((aT us k).kind=dQ->aah (m+1) (1012*wB+2) (ie us n m k) m (aT us k))/\
 ∀s,bP (jq us) (jo us) (m+1) ((rm us n<|k+1).getD s 0) (3*w+20) ((ie us n m<|k+1).getD s []):=by
 have hB:=hm.base;have hV:=hm.mle hc;have hk:k<(az us).length:=by rw[hm.mW];omega
 have ho:=hm.out h;have hu:=hm.val _<|hm.mem h;obtain⟨f1,f2,f3,f4⟩:=nF<|hm.few _<|hm.mem h;obtain⟨d1,d2,d3⟩:=hm.dgS h;obtain⟨l1,l2⟩:=hm.dg (k+1) (by omega);obtain⟨p1,p2⟩:=hm.dg k (by omega);have e0:us.getD ((az us)[k]).toNat default=aT us k:=by unfold aT;rw[aw hk]
 have cM:=hu.BZ;have hold:∀s,bP (jq us) (jo us) (m+1) ((rm us n<|k+1).getD s 0) (3*w+20) ((ie us n m k).getD s []):=λs=>(ih s).mono hB (d2 s) (by omega);have yM:ie us n m (k+1)=lD us (bW n us) m (ie us n m k) (az us)[k]:=px hk;by_cases ka:(aT us k).kind=jJ
 ·have dc:(aT us k).kind≠bo:=by rw[ka];decide
  have hl8:(aT us k).ah.length<=8:=by unfold jQ x9 D6 at cM;rw[if_neg dc,if_pos ka]at cM;omega
  have Kr:lh (aT us k)=1:=by unfold lh;rw[if_neg<|by rw[ka];decide]
  obtain⟨a1,a2⟩:=acP (B:=wB) (d:=(rm us n<|k+1).getD (aT us k).out.toNat 0) hB hV ih (hm.wnQ) (hm.wnS<|hm.mem h)
   (λf hf=>⟨Ww<|f4 f hf,by have:=d3 dc f hf;rw[Kr,afQ]at this;exact this⟩) hl8 (l2 _).1 (l2 _).2 (by omega)
  refine⟨λ_=>a1,λg=>?_,λs=>?_⟩
  ·rw[ka]at g;exact absurd g (by decide)
  rw[yM];unfold lD;rw[e0,if_pos ka,fh<|by rw[kG];omega];split
  ·rename_i e;subst e;exact a2.mono hB (ac0 _) (by omega)
  exact hold s
 by_cases kt:(aT us k).kind=dQ
 ·have dc:(aT us k).kind≠bo:=by rw[kt];decide
  unfold jQ x9 D6 at cM;rw[if_neg dc,if_neg dc,if_neg ka]at cM;have Yd:(aT us k).ah.length=1:=by omega
  have ht1:1<=(aT us k).dD.length:=by apply adC;intro g;exact cM<|.inr<|.inr<|.inl ⟨kt,.inl<|by omega⟩
  have Kr:lh (aT us k)=max 1 (((aT us k).dD.length:Int)-1):=by unfold lh;rw[if_pos kt]
  have hfm:(aT us k).ah.getD 0 default∈(aT us k).ah:=bz (by omega);have hdx:=d3 dc _ hfm;have CZ:=p2 ((aT us k).ah.getD 0 default).sh.toNat;obtain⟨dx,edx⟩:∃dx,(rm us n k).getD ((aT us k).ah.getD 0 default).sh.toNat 0=dx:=⟨_,rfl⟩;rw[edx]at hdx CZ;have X8:=bP.W7 (B:=wB) hB hV (ih ((aT us k).ah.getD 0 default).sh.toNat) (by rw[edx];exact CZ.2) (Ww (us:=us)<|f4 _ hfm) (by omega);rw[edx]at X8;have hx:bP (jq us) (jo us) (m+1) dx (w+2) (oU (ie us n m k)<|aT us k):=X8.2.mono hB (ac0 _) (by omega);have o5:∀c∈(aT us k).dD.map bI,Wn (jq us) (jo us) 1 1 c:=λc hc=>by obtain⟨t,ht,rfl⟩:=abD.1 hc;exact Ww<|f3 t ht
  have En:=l2 (aT us k).out.toNat;have Es:∀j:Nat,j<=(aT us k).dD.length->dx*((j:Int)-1)<=(rm us n<|k+1).getD (aT us k).out.toNat 0:=λj hj=>by refine aeu (adq ?_ CZ.1) hdx;rw[Kr];omega
  have UK:=λ(i:Nat)=>Mg (B:=wB) hB hV hx CZ.1 CZ.2 hw (((aT us k).dD.map bI).drop i) (λc h=>o5 c<|ae0 h) (by simp;omega) (by have:=Es (((aT us k).dD.map bI).drop i).length (by simp);omega)
  have UW:∀i(hi:i<(aT us k).dD.length),((aT us k).dD.map bI).drop i=bI ((aT us k).dD.getD i [])::((aT us k).dD.map bI).drop (i+1):=λi hi=>by rw[abV<|by simpa using hi,agW,aw hi]
  refine⟨λg=>absurd g ka,λ_=>⟨X8.1,λi hi=>((UK i).2 _ _<|UW i hi).1,λi hi=>((UK i).2 _ _<|UW i hi).2⟩,λs=>?_⟩;rw[yM];unfold lD;rw[e0,if_neg ka,if_pos kt,fh<|by rw[kG];omega];split
  ·rename_i e;subst e;have h0:=(UK 0).1 (by rw[UW 0 ht1];simp);rw[adz]at h0;have hw2:(((aT us k).dD.map bI).length-1)*(w+4)<=3*(w+4):=abY _ (by simp;omega);exact h0.mono hB (Es _<|by simp) (by omega)
  exact hold s
 refine⟨λg=>absurd g ka,λg=>absurd g kt,λs=>?_⟩;rw[yM];unfold lD;rw[e0,if_neg ka,if_neg kt];exact hold s
def fF.shK:∀k,k<=us.length->∀s,bP (jq us) (jo us) (m+1) ((rm us n k).getD s 0) (wS k) ((ie us n m k).getD s [])
 |0,_=>λs=>by have:=hm.init hc us.length (aav _) s;unfold rm ie;rw[afX,agq,agq];exact this
 |k+1,h=>by have hw:=BN (k:=k) (by have:=hm.len;omega);exact(hm.SU hc (by omega) (by unfold wB;omega)<|fF.shK k<|by omega).2.2
end
section
variable{D M κ m B:Nat}
def Xk{sh aW:List (List cN)}{u:bO}{d0 d1 r:Int}{w v:Nat}(hB:qk D M κ)(hV:m+1<=9)(hr:aW.length=m)
 (h0:bP D M (m+1) d0 w (sh.getD (u.ah.getD 0 default).sh.toNat []))(h1:bP D M (m+1) d1 w (sh.getD (u.ah.getD 1 default).sh.toNat []))
 (CZ:0<=d0/\d0<=6)(UY:0<=d1/\d1<=6)(Aw:0<=r/\r<=6)(aeG:1<=d1->d0+(r+d1-1)<=6)
 (lU:∀i,bP D M (m+1) 6 v<|aW.getD i [])(aeQ:∀i,Bp (sh.getD (u.ah.getD 1 default).sh.toNat []) (i+1)->bP D M (m+1) r v (aW.getD i []))
 (Er:Wn D M 1 1 (bI (u.ah.getD 0 default).dU))(KA:Wn D M 1 1 (bI (u.ah.getD 1 default).dU))(hw:2*w+v+20<=B):
 Oq (m+1) (κ*B+2) sh aW u/\∀e,(1<=d1->d0+(r+d1-1)<=e)->bP D M (m+1) e (2*w+v+20) (OR sh aW u):=by
 obtain⟨P0,e0⟩:∃P,sh.getD (u.ah.getD 0 default).sh.toNat []=P:=⟨_,rfl⟩;obtain⟨P1,e1⟩:∃P,sh.getD (u.ah.getD 1 default).sh.toNat []=P:=⟨_,rfl⟩;rw[e0]at h0;rw[e1]at h1 aeQ;obtain⟨a,ha⟩:∃a:Int,a=if 1<=d1 then r+d1-1 else 0:=⟨_,rfl⟩;have KH:1<=d1->a=r+d1-1:=λh=>by rw[ha,if_pos h]
 have ha2:¬1<=d1->a=0:=λh=>by rw[ha,if_neg h]
 have ha0:0<=a:=by
  by_cases c:1<=d1
  ·rw[KH c];omega
  rw[ha2 c];omega
 have ha6:d0+a<=6:=by
  by_cases c:1<=d1
  ·rw[KH c];exact aeG c
  rw[ha2 c];omega
 have Ym:∀x,x<m+1->vL (m+1) (κ*B+2) (pZ P1 x)/\bP D M (m+1) (d1-1) (w+2) (uf P1 x):=λx hx=>h1.ajW hB hV UY.2 hx (by omega);have hmul:∀i,i<m->vL (m+1) (κ*B+2) (jv (uf P1<|i+1)<|aW.getD i [])/\bP D M (m+1) a (w+v+3) (lI (uf P1<|i+1)<|aW.getD i []):=λi hi=>by
  by_cases c:Bp P1 (i+1)
  ·have hd:=Bz h1 c;have:=bP.aa7 (B:=B) hB hV (Ym (i+1)<|by omega).2 (aeQ i c) (by omega) Aw.2 (by have:=KH hd;omega) (by omega);exact⟨this.1,this.2.mono hB (by have:=KH hd;omega)<|by omega⟩
  rw[BG c];exact bP.TP
 have IK:∀i,i<=m->bP D M (m+1) a (w+v+3+i) (kY aW P1 i):=by
  intro i
  induction i with
  |zero=>
   intro _;show bP D M (m+1) a (w+v+3) (uf P1 0);by_cases c:Bp P1 0
   ·have hd:=Bz h1 c;exact(Ym 0 (by omega)).2.mono hB (by have:=KH hd;omega) (by omega)
   rw[BG c];exact bP.nil
  |succ i ih=>intro hi;exact(bP.Oj (B:=B) hB hV (ih<|by omega) ((hmul i<|by omega).2.mono hB (ac0 _)<|by omega) (by omega)<|by omega).2
 have UZ:bP D M (m+1) a (w+v+3+m) (mN aW P1):=by unfold mN;rw[hr];exact IK m<|aav _
 have afD:a<=6:=by omega
 have hm2:=bP.aa7 (B:=B) hB hV h0 UZ CZ.2 afD ha6 (by omega);have hc:Wn D M 1 2 (bI (u.ah.getD 0 default).dU*bI (u.ah.getD 1 default).dU):=by simpa using Er.mul KA
 have gD:=bP.W7 (B:=B) hB hV hm2.2 ha6 hc (by omega);refine⟨⟨?_,?_,?_,?_⟩,λe he=>?_⟩
 ·rw[e1];refine⟨(Ym 0 (by omega)).1,λi hi=>(Ym (i+1)<|by omega).1,λi hi=>(hmul i<|by omega).1,λi hi=>?_,λi hi=>?_⟩
  ·exact(bP.Oj (B:=B) hB hV (IK i<|by omega) ((hmul i<|by omega).2.mono hB (ac0 _)<|by omega) (by omega)<|by omega).1
  have:=bP.tok (B:=B) hB hV (lU i) (ac0 _) (by omega);exact⟨this.1,agn this.2<|by decide⟩
 ·rw[e1];exact bP.tok (B:=B) hB hV UZ afD (by omega)
 ·rw[e0,e1];exact hm2.1
 ·rw[e0,e1];exact gD.1
 unfold OR;rw[e0,e1];by_cases c:1<=d1
 ·exact gD.2.mono hB (by have:=KH c;have:=he c;omega) (by omega)
 have sS:mN aW P1=[]:=by
  have gu:∀x,¬Bp P1 x:=λx h=>c<|Bz h1 h;have:∀i,kY aW P1 i=[]:=by
   intro i
   induction i with
   |zero=>exact BG (gu 0)
   |succ i ih=>simp only[kY];rw[ih,BG<|gu _];simp[EV,lI,jv,fN]
  exact this _
 have:kJ (bI (u.ah.getD 0 default).dU*bI (u.ah.getD 1 default).dU) (lI P0<|mN aW P1)=[]:=by
  have e2:jv P0 []=[]:=by unfold jv;simp
  rw[sS];unfold lI kJ;rw[e2];rfl
 rw[this];exact bP.nil
end
def Ed(us:List bO)(n k:Nat):List Int:=((az us).take k).foldl (uX us<|rm us n us.length)<|List.replicate n 0
def Tk{us:List bO}{n k:Nat}(h:k<(az us).length):Ed us n (k+1)=uX us (rm us n us.length) (Ed us n k) ((az us).getD k 0):=by unfold Ed;rw[abZ h,ae8,aw h];rfl
def Jl{u:bO}{dg:List Int}:∀(fs:List EY){rt:List Int},u.out.toNat<rt.length->
 (fs.foldl (js u dg) rt).length=rt.length/\(∀s,s≠u.out.toNat->(fs.foldl (js u dg) rt).getD s 0=rt.getD s 0)/\rt.getD u.out.toNat 0<=(fs.foldl (js u dg) rt).getD u.out.toNat 0/\
   ∀f∈fs,rt.getD f.sh.toNat 0+dg.getD f.sh.toNat 0-1<=(fs.foldl (js u dg) rt).getD u.out.toNat 0
 |[],rt,_=>⟨rfl,λ_ _=>rfl,ac0 _,by simp⟩
 |f::fs,rt,ho=>by
  have hg:∀s,(js u dg rt f).getD s 0=if s=u.out.toNat then max (rt.getD u.out.toNat 0) (rt.getD f.sh.toNat 0+dg.getD f.sh.toNat 0-1)else rt.getD s 0:=λs=>nu ho;have Kx:∀s,rt.getD s 0<=(js u dg rt f).getD s 0:=λs=>by rw[hg s];split<;>(try subst_vars)<;>omega
  obtain⟨h1,h2,h3,h4⟩:=Jl fs (rt:=js u dg rt f) (by unfold js;rw[kH];exact ho);rw[adl];refine⟨by rw[h1];unfold js;rw[kH],λs hs=>by rw[h2 s hs,hg s,if_neg hs],aeu (Kx _) h3,λg D9=>?_⟩;rcases abk.1 D9 with rfl|D9
  ·have:=hg u.out.toNat;rw[if_pos rfl]at this;omega
  have:=h4 g D9;have:=Kx g.sh.toNat;omega
section
variable{us:List bO}{n m:Nat}(hm:fF us n)
section
variable{k s:Nat}
include hm
theorem fF.Xe{k:Nat}(h:k<us.length)(hl:(Ed us n k).length=n)(h0:∀s,0<=(Ed us n k).getD s 0):
 (Ed us n<|k+1).length=n/\(∀s,s≠(aT us k).out.toNat->(Ed us n<|k+1).getD s 0=(Ed us n k).getD s 0)/\(∀s,(Ed us n k).getD s 0<=(Ed us n<|k+1).getD s 0)/\
 (∀f∈cH (aT us k),(Ed us n k).getD f.sh.toNat 0+(rm us n us.length).getD f.sh.toNat 0-1+(if(aT us k).kind=bo then(rm us n us.length).getD ((aT us k).ah.getD 0 default).sh.toNat 0 else 0)<=(Ed us n<|k+1).getD (aT us k).out.toNat 0):=by
 have hk:k<(az us).length:=by rw[hm.mW];omega
 have ho:=hm.out h;have e0:us.getD ((az us).getD k 0).toNat default=aT us k:=rfl;obtain⟨g1,g2⟩:=hm.dg us.length<|aav _;rw[Tk hk];unfold uX;rw[e0];obtain⟨q1,q2,q3,q4⟩:=Jl (u:=aT us k) (dg:=rm us n us.length) (cH<|aT us k) (rt:=Ed us n k) (by omega);obtain⟨A,hA⟩:∃A,OO (aT us k) (rm us n us.length) (Ed us n k)=A:=⟨_,rfl⟩;have hA':(cH<|aT us k).foldl (js (aT us k)<|rm us n us.length) (Ed us n k)=A:=hA;rw[hA']at q1 q2 q3 q4;rw[hA];obtain⟨C,hC⟩:∃C,uq (aT us k) (rm us n us.length) A=C:=⟨_,rfl⟩;have hCs:C.length=n/\∀s,C.getD s 0=if s=(aT us k).out.toNat/\(aT us k).kind=dQ then A.getD s 0+(rm us n us.length).getD s 0 else A.getD s 0:=by
  rw[<-hC];unfold uq;split
  ·rename_i hk;refine⟨by rw[kH];omega,λs=>?_⟩;rw[nu<|by omega];by_cases c:s=(aT us k).out.toNat
   ·rw[if_pos c,if_pos ⟨c,hk⟩,c]
   rw[if_neg c,if_neg λg=>c g.1]
  rename_i hk;exact⟨by omega,λs=>by rw[if_neg λg=>hk g.2]⟩
 rw[hC];have hEs:(sy (aT us k) (rm us n us.length) C).length=n/\∀s,(sy (aT us k) (rm us n us.length) C).getD s 0=if s=(aT us k).out.toNat/\(aT us k).kind=bo then C.getD s 0+(rm us n us.length).getD ((aT us k).ah.getD 0 default).sh.toNat 0 else C.getD s 0:=by
  unfold sy;split
  ·rename_i hk;refine⟨by rw[kH];omega,λs=>?_⟩;rw[nu<|by omega];by_cases c:s=(aT us k).out.toNat
   ·rw[if_pos c,if_pos ⟨c,hk⟩,c]
   rw[if_neg c,if_neg λg=>c g.1]
  rename_i hk;exact⟨by omega,λs=>by rw[if_neg λg=>hk g.2]⟩
 refine⟨hEs.1,λs hs=>?_,λs=>?_,λf hf=>?_⟩
 ·rw[hEs.2 s,if_neg λg=>hs g.1,hCs.2 s,if_neg λg=>hs g.1];exact q2 s hs
 ·have:=(g2 s).1;have:=(g2 ((aT us k).ah.getD 0 default).sh.toNat).1;rw[hEs.2 s,hCs.2 s];by_cases c:s=(aT us k).out.toNat
  ·subst c;split<;>omega
  rw[if_neg λg=>c g.1,if_neg λg=>c g.1,q2 s c];exact ac0 _
 have:=q4 f hf;have:=(g2 (aT us k).out.toNat).1;rw[hEs.2,hCs.2];by_cases c:(aT us k).kind=bo
 ·rw[if_pos c,if_pos ⟨rfl,c⟩];split<;>omega
 rw[if_neg c,if_neg λg=>c g.2];split<;>omega
def fF.rt:∀k,k<=us.length->(Ed us n k).length=n/\(∀s,0<=(Ed us n k).getD s 0)/\∀s,(Ed us n k).getD s 0<=6
 |0,_=>by unfold Ed;have hb:xZ (List.replicate n 0) 6:=xZ.rep n (by decide);exact⟨by simp,λs=>(hb.getD (by decide) s).1,λs=>(hb.getD (by decide) s).2⟩
 |k+1,h=>by
  obtain⟨h1,h2,h3⟩:=fF.rt k (by omega);obtain⟨q1,q2,q3,-⟩:=hm.Xe (by omega) h1 h2;refine⟨q1,λs=>aeu (h2 s)<|q3 s,λs=>?_⟩;by_cases c:s=(aT us k).out.toNat
  ·obtain⟨r,-,e,hs⟩:=hm.dgL;obtain⟨z,hz⟩:=Option.isSome_iff_exists.1 hs;have:=Fp hz k (by rw[hm.mW];omega);rw[e]at this;rw[c];exact this
  rw[q2 s c];exact h3 s
def fF.shS(h:k<us.length)(hs:s≠(aT us k).out.toNat):(ie us n m<|k+1).getD s []=(ie us n m k).getD s []:=by
 have hk:k<(az us).length:=by rw[hm.mW];omega
 have ho:=hm.out h;have e0:us.getD ((az us)[k]).toNat default=aT us k:=by unfold aT;rw[aw hk]
 rw[px hk];unfold lD;rw[e0];split
 ·rw[fh<|by rw[kG];omega,if_neg hs]
 split
 ·rw[fh<|by rw[kG];omega,if_neg hs]
 rfl
def fF.ahI(h:k<=us.length)(hs:∀j,k<=j->j<us.length->s≠(aT us j).out.toNat):(zX us n m).getD s []=(ie us n m k).getD s []:=by
 unfold zX;rw[hm.mW];have:∀j,j<=us.length->k<=j->(ie us n m j).getD s []=(ie us n m k).getD s []:=by
  intro j
  induction j with
  |zero=>intro _ hj;have:k=0:=by omega
         subst this;rfl
  |succ j ih=>
   intro hj hkj;by_cases c:k=j+1
   ·subst c;rfl
   rw[hm.shS (by omega)<|hs j (by omega)<|by omega];exact ih (by omega) (by omega)
 simp_all
def fF.shP(h:k<=us.length)(hs:s=0\/∃j,j<k/\(aT us j).out.toNat=s):(zX us n m).getD s []=(ie us n m k).getD s []:=by
 refine hm.ahI h λj hj Yf e=>?_;have ho:=hm.out Yf;rcases hs with rfl|⟨i,hi,e2⟩
 ·omega
 have Ya:=hm.out (show i<us.length by omega);have:=hm.outs (show i<us.length by omega) Yf (by omega);omega
def fF.shV{i:Nat}(hi:i<us.length)(hk:us[i].kind=bo):∀j,j<=us.length->i<j->(G0 us n m j).getD us[i].out.toNat []=vN (jA us<|i+1) m
 |0,_,h=>by omega
 |j+1,hj,h=>by
  have hv:=(hm.val _<|aaY<|show j<us.length by omega).out;rw[G0,aw<|show j<us.length by omega];by_cases c:i=j
  ·subst c;rw[if_pos hk,fh<|by rw[qC];omega,if_pos rfl]
  have ih:=fF.shV hi hk j (by omega) (by omega);split
  ·rw[fh<|by rw[qC];omega,if_neg λe=>c<|hm.inj hi (by omega)<|by omega];exact ih
  exact ih
def fF.sh0:∀j,j<=us.length->(G0 us n m j).getD 0 []=vN 0 m
 |0,_=>by have:=hm.n0;unfold G0 B1;rw[fh<|by simpa using this,if_pos rfl]
 |j+1,hj=>by
  have hv:=(hm.val _<|aaY<|show j<us.length by omega).out;rw[G0,aw<|show j<us.length by omega];split
  ·rw[fh<|by rw[qC];omega,if_neg<|by omega];exact fF.sh0 j (by omega)
  exact fF.sh0 j (by omega)
def fF.ahK:(zX us n m).getD 0 []=vN 0 m:=by rw[hm.shP (k:=0) (aaJ _)<|.inl rfl];exact hm.sh0 _ .refl
def fF.ahJ(h:k<us.length)(hk:(aT us k).kind=bo):(zX us n m).getD (aT us k).out.toNat []=vN (jA us ((az us).getD k 0).toNat+1) m:=by
 have Kt:=hm.idx h;have gp:=hk;rw[hm.eq h]at gp;have e1:(ie us n m 0).getD (aT us k).out.toNat []=vN (jA us ((az us).getD k 0).toNat+1) m:=by unfold ie;rw[afX,agq,hm.eq h,hm.shV Kt gp _ .refl Kt,tT Kt,if_pos gp]
 have:∀j,j<=us.length->(ie us n m j).getD (aT us k).out.toNat []=(ie us n m 0).getD (aT us k).out.toNat []:=by
  intro j
  induction j with
  |zero=>intro _;rfl
  |succ j ih=>
   intro hj;by_cases c:j=k
   ·subst c;have Pq:j<(az us).length:=by rw[hm.mW];omega
    have e0:us.getD ((az us)[j]).toNat default=aT us j:=by unfold aT;rw[aw Pq]
    rw[px Pq];unfold lD;rw[e0,if_neg<|by rw[hk];decide,if_neg<|by rw[hk];decide];exact ih (by omega)
   rw[hm.shS (by omega) λe=>c ?_]
   ·exact ih (by omega)
   have h1:=hm.out h;exact hm.outs (by omega) h (by omega)
 unfold zX;rw[hm.mW];simp_all
end
end
def Ii{us:List bO}{i j:Nat}(gS:i<j)(hj:j<=us.length)(hk:(us.getD i default).kind=bo):jA us i<jA us j:=by
 have h1:=tT (us:=us) (i:=i) (by omega);rw[aw<|by omega]at hk;rw[if_pos hk]at h1;have h2:jA us (i+1)<=jA us j:=by exact List.Sublist.countP_le<|List.take_sublist_take_left<|by omega
 omega
end Go.Ai
