/- Parts of the proof of ScaleKeeps (as AIM.md's row tells), at every input, with no further conditions. -/
import Derived.Test.YtpoaaoihkhdijaaGreatDoorKZAJ
import Derived.Shelf.Spec.BitsCarry
import Derived.Lib.Mul64
set_option linter.all false
set_option maxRecDepth 100000
set_option maxHeartbeats 0
namespace Go.Ai
open Go.Proofs Go.RowKit
section
variable{m x:Int}{l:List Int}{i:Nat}
def rn{R:Option Nat->Prop}{N:Nat}{F:St->Prop}{k:List It}{l:aU}(m:Nat){b:List It}{a:aU}(h:run tt [] N m k l [] []=([],[],b,a))(c:AK R Tryz.prog N F b a):AK R Tryz.prog N F k l:=(nj hA hm h U W).2.2 c
def kH{α:Type}(l:List α)(i:Nat)(x:α):(l.set i x).length=l.length:=acO
def Du(h:i<l.length):(l.set i x).getD i 0=x:=by rw[abx,List.getElem?_set_self h];rfl
def getD_set_ne{j:Nat}(h:i≠j):(l.set i x).getD j 0=l.getD j 0:=by rw[abx,afk h,<-abx]
def xl(l:List Int)(m:Int):Prop:=∀x∈l,0<=x/\x<=m
def xl.getD(h:xl l m)(hm:0<=m)(i:Nat):0<=l.getD i 0/\l.getD i 0<=m:=by
 rcases abM i l.length with g|g
 ·exact h _<|bw g
 rw[abx];simp_all
def xl.set(h:xl l m)(b:0<=x/\x<=m):xl (l.set i x) m:=by
 intro y a;rcases aeU a with a|rfl
 ·exact h y a
 exact b
def xl.mono{n:Int}(h:xl l m)(hn:m<=n):xl l n:=λx a=>⟨(h x a).1,acI (h x a).2 hn⟩
def xl.rep(n:Nat)(h:0<=m):xl (List.replicate n 0) m:=λx a=>by rw[ad7 a];simp_all
def lz(u:bT):Int:=if u.kind=dy then max 1 ((u.dI.length:Int)-1)else 1
def jA(u:bT)(dg:List Int)(f:Hi):List Int:=dg.set u.out.toNat<|max (dg.getD u.out.toNat 0)<|dg.getD f.sh.toNat 0*lz u
def qN(us:List bT)(dg:List Int)(i:Int):List Int:=if(us.getD i.toNat default).kind=bq then dg else(us.getD i.toNat default).ah.foldl (jA<|us.getD i.toNat default) dg
def DI(us:List bT)(dH:Int):List Int->List Int->Option (List Int)
 |[],dg=>some dg
 |i::r,dg=>if dH<(qN us dg i).getD (us.getD i.toNat default).out.toNat 0 then none else DI us dH r (qN us dg i)
def jh(us:List bT)(n i:Nat):List Int:=(us.take i).foldl (λ(dg:List Int)u=>if u.kind=bq then dg.set u.out.toNat 1 else dg)<|(List.replicate n 0).set 0 1
def sL{us:List bT}{n:Nat}(h:i<us.length):jh us n (i+1)=if us[i].kind=bq then(jh us n i).set us[i].out.toNat 1 else jh us n i:=by unfold jh;rw[abR h,adk];rfl
def pK(us:List bT)(n:Nat):∀i,i<=us.length->(jh us n i).length=n/\xl (jh us n i) 6
 |0,_=>⟨by simp[jh],(xl.rep n fh).set fh⟩
 |i+1,h=>by
  obtain⟨b,a⟩:=pK us n i E;rw[sL E];split
  ·exact⟨by rw[kH];exact b,a.set fh⟩
  exact⟨b,a⟩
def jv(u:bT)(dg rt:List Int)(f:Hi):List Int:=rt.set u.out.toNat<|max (rt.getD u.out.toNat 0)<|rt.getD f.sh.toNat 0+dg.getD f.sh.toNat 0-1
def Mq(u:bT)(dg rt:List Int):List Int:=(cR u).foldl (jv u dg) rt
def tZ(u:bT)(dg rt:List Int):List Int:=if u.kind=dy then rt.set u.out.toNat (rt.getD u.out.toNat 0+dg.getD u.out.toNat 0)else rt
def rP(u:bT)(dg rt:List Int):List Int:=if u.kind=bq then rt.set u.out.toNat (rt.getD u.out.toNat 0+dg.getD (u.ah.getD 0 default).sh.toNat 0)else rt
def uH(us:List bT)(dg rt:List Int)(i:Int):List Int:=rP (us.getD i.toNat default) dg<|tZ (us.getD i.toNat default) dg<|Mq (us.getD i.toNat default) dg rt
def HT(us:List bT)(dH:Int)(dg:List Int):List Int->List Int->Option (List Int)
 |[],rt=>some rt
 |i::r,rt=>if dH<(uH us dg rt i).getD (us.getD i.toNat default).out.toNat 0 then none else HT us dH dg r (uH us dg rt i)
def Ap(us:List bT)(n:Nat):Bool:=match DI us 6 (az us) (jh us n us.length)with
 |none=>false
 |some dg=>(HT us 6 dg (az us)<|List.replicate n 0).isSome
def Ek:∀{us:List bT}(k:Nat){out:List Int},out.Nodup->(∀x∈out,0<=x/\x<us.length)->∀x∈ew us k out,0<=x/\x<us.length
 |us,0,out,_,h=>h
 |us,k+1,out,hn,h=>by
  rw[ew];split
  ·exact h
  rename_i g;obtain⟨b,a⟩:=vW hn h g;exact Ek k b a
def zw:∀{us:List bT}(k:Nat){out:List Int},out.Nodup->(∀x∈out,0<=x/\x<us.length)->(ew us k out).Nodup
 |us,0,out,hn,_=>hn
 |us,k+1,out,hn,h=>by
  rw[ew];split
  ·exact hn
  rename_i g;obtain⟨b,a⟩:=vW hn h g;exact zw k b a
def gC{us:List bT}:∀x∈az us,0<=x/\x<us.length:=Ek _ acd I
def vY(us:List bT):(az us).Nodup:=zw _ acd I
def uK(us:List bT):(az us).length<=us.length:=vX (vY us) gC
def OG(p:gV)(h:rA p)(n:Nat)(hn:p.n=n)(H1:0<n)(G6:n<=100)(hv:∀u∈p.aa,iQ p.n u):aM Tryz.prog 223 [bh p,.i 6] (.u<|Ap p.aa n):=by
 have hl:=h.aa;refine bS Tryz.func223 W<|cx 4 [(1,.i 6),(2,.box true<|bh p),(5,.ints .i64 true<|jh p.aa n p.aa.length)] True ?_ λ_=>?_
 ·refine r1 W (by simp only[ag,and_true,ac2]<;>omega) ?_;refine loop (λi:Nat=>[(1,.i 6),(2,.box true<|bh p),(5,.ints .i64 true<|jh p.aa n i),(6,.i i)]) (λi=>i<=p.aa.length) (λi=>p.aa.length-i) 0 (aaM _) ⟨G,G,⟨W,ar.of_eq<|congrArg (SV.ints .i64 true)<|by rw[hn];rfl⟩,G,U⟩ ?_;intro i hi;refine bQ W W ?_ ?_<;>intro h1
  ·have R:i<p.aa.length:=E;have ei:(i:Int).toNat=i:=E;have eg:p.aa.getD i default=p.aa[i]:=au R;have K:=sL (n:=n) R;have hu:=(hv _<|abw R).out;have M:=(pK p.aa n i hi).1;refine r1 W (by simp only[ag,and_true,ei]<;>omega) ?_;rw[ei,eg];refine gg W ?_ ?_<;>intro b
   ·have b:p.aa[i].kind=bq:=b;rw[if_pos b]at K;refine r1 W (by simp only[ag,and_true,ei,eg,M]<;>omega) ?_;exact again (i+1) E E ⟨G,G,⟨W,ar.of_eq<|congrArg (SV.ints .i64 true)<|by rw[K,ei,eg]⟩,G,U⟩
   have b:¬p.aa[i].kind=bq:=b;rw[if_neg b]at K;refine r1 W (by simp only[ag,and_true,ei,eg,M]<;>omega) ?_;exact again (i+1) E E ⟨G,G,⟨W,ar.of_eq<|congrArg (SV.ints .i64 true) K.symm⟩,G,U⟩
  have:i=p.aa.length:=E;subst this;refine bL W U ⟨G,G,G,U⟩
 have G4:=uK p.aa;refine CP 2 (λdg:List Int=>[(1,.i 6),(2,.box true<|bh p),(5,.ints .i64 true dg),(7,.ints .i64 true<|az p.aa)]) (λdg=>DI p.aa 6 (az p.aa) (jh p.aa n p.aa.length)=some dg/\dg.length=n/\xl dg 6) ?_ ?_
 ·refine bP W W (rY p h<|iQ.ZD hv) W<|r0 W<|kR (λ(k:Nat)(dg:List Int)=>[(1,.i 6),(2,.box true<|bh p),(5,.ints .i64 true dg),(7,.ints .i64 true<|az p.aa),(8,.i k)])
   (λk dg=>k<=(az p.aa).length/\DI p.aa 6 (az p.aa) (jh p.aa n p.aa.length)=DI p.aa 6 ((az p.aa).drop k) dg/\dg.length=n/\xl dg 6)
   (λk _=>(az p.aa).length-k) 0 (jh p.aa n p.aa.length) ⟨aaM _,W,pK p.aa n _<|abq _⟩ ⟨G,G,G,G,G,U⟩ ?_
  rintro k dg⟨hk,c,w,t⟩;refine bQ W W ?_ ?_<;>intro h1
  ·have y:k<(az p.aa).length:=E;have ek:(k:Int).toNat=k:=E;have B:(az p.aa).getD k 0=(az p.aa)[k]:=au y;obtain⟨o1,o2⟩:=gC _<|abw y;rw[abO y,DI]at c;obtain⟨o,eo⟩:∃o,(az p.aa)[k]=o:=⟨_,W⟩;rw[eo]at B o1 o2 c;have s:p.aa.getD o.toNat default∈p.aa:=bw E;unfold qN at c;obtain⟨u,eu⟩:∃u,p.aa.getD o.toNat default=u:=⟨_,W⟩;rw[eu]at s c;have hu:=hv _ s;have F1:=hu.out;have X:=(h.unit _ s).ah;have B0:1<=lz u/\lz u<=12:=by
    unfold lz;split
    ·rename_i g;have:=(hu.table g).2.2;omega
    omega
   refine rn 3 W<|CP 2 (λa:List Int=>[(1,.i 6),(2,.box true<|bh p),(5,.ints .i64 true a),(7,.ints .i64 true<|az p.aa),(8,.i k),(9,.box true<|dQ u)])
    (λa=>a=(if u.kind=bq then dg else u.ah.foldl (jA u) dg)/\a.length=n/\xl a 72/\∀j,j≠u.out.toNat->a.getD j 0=dg.getD j 0) ?_ ?_
   ·refine k1 W aW (by simp only[ag,and_true,ek,B]<;>omega) ?_;rw[ek,B,eu];by_cases F:u.kind=bq
    ·refine loop (λj:Nat=>[(1,.i 6),(2,.box true<|bh p),(5,.ints .i64 true dg),(7,.ints .i64 true<|az p.aa),(8,.i k),(9,.box true<|dQ u),(10,.i 0)]) (λ_=>True) (λ_=>0) 0 U ⟨G,G,G,G,G,G,G,U⟩ ?_;intro j _;refine bJ W 65 W ?_ ?_<;>intro b
     ·refine bQ W W (λh3=>absurd F h3) λh3=>?_;refine r0 W<|meet dg ⟨by rw[if_pos F],w,t.mono fh,λ_ _=>rfl⟩ ⟨G,G,G,G,G,G,U⟩
     refine r0 W<|meet dg ⟨by rw[if_pos F],w,t.mono fh,λ_ _=>rfl⟩ ⟨G,G,G,G,G,G,U⟩
    rw[if_neg F];refine kR (λ(j:Nat)(a:List Int)=>[(1,.i 6),(2,.box true<|bh p),(5,.ints .i64 true a),(7,.ints .i64 true<|az p.aa),(8,.i k),(9,.box true<|dQ u),(10,.i j)])
     (λj a=>j<=u.ah.length/\u.ah.foldl (jA u) dg=(u.ah.drop j).foldl (jA u) a/\a.length=n/\xl a 72/\(∀i,i≠u.out.toNat->a.getD i 0=dg.getD i 0)/\(j=0\/u.kind≠dy->xl a 6))
     (λj _=>u.ah.length-j) 0 dg ⟨aaM _,W,w,t.mono fh,λ_ _=>rfl,λ_=>t⟩ ⟨G,G,G,G,G,G,G,U⟩ ?_
    rintro j a⟨L,v,q,r,A,T⟩;refine bJ W 65 W ?_ ?_<;>intro b
    ·refine bQ W W (λh3=>?_) λh3=>absurd F h3;have z:j<u.ah.length:=E;have ej:(j:Int).toNat=j:=E;have J:u.ah.getD j default=u.ah[j]:=au z;rw[abO z,acK]at v;have S:=hu.feed _<|abw z;have F0:0<=a.getD u.ah[j].sh.toNat 0/\a.getD u.ah[j].sh.toNat 0*lz u<=72:=by
      have N:=r.getD fh u.ah[j].sh.toNat;refine⟨N.1,?_⟩;by_cases hT:u.kind=dy
      ·have:=(hu.table hT).1;have h6:=(T<|.inl E).getD fh u.ah[j].sh.toNat
       calc a.getD u.ah[j].sh.toNat 0*lz u<=6*12:=afs h6.2 B0.2 E fh
        _<=72:=fh
      unfold lz;rw[if_neg hT,adG];exact N.2
     have G5:0<=a.getD u.ah[j].sh.toNat 0*lz u:=acy F0.1 E;have ho:=r.getD fh u.out.toNat;have E2:∀d:Int,d=a.getD u.ah[j].sh.toNat 0*lz u->a.set u.out.toNat (max (a.getD u.out.toNat 0) d)=jA u a u.ah[j]:=by rintro d rfl;rfl
     refine r1 W (by simp only[ag,and_true,ej,J,q]<;>omega) ?_;rw[ej,J];have gS:∀d:Int,d=a.getD u.ah[j].sh.toNat 0*lz u->(j+1<=u.ah.length/\u.ah.foldl (jA u) dg=(u.ah.drop<|j+1).foldl (jA u) (a.set u.out.toNat<|max (a.getD u.out.toNat 0) d)/\(a.set u.out.toNat<|max (a.getD u.out.toNat 0) d).length=n/\xl (a.set u.out.toNat<|max (a.getD u.out.toNat 0) d) 72/\(∀i,i≠u.out.toNat->(a.set u.out.toNat<|max (a.getD u.out.toNat 0) d).getD i 0=dg.getD i 0)/\(j+1=0\/u.kind≠dy->xl (a.set u.out.toNat<|max (a.getD u.out.toNat 0) d) 6)):=by
      intro d hd;refine⟨E,by rw[E2 d hd];exact v,by rw[kH];exact q,r.set E,λi hi=>?_,λhh=>?_⟩
      ·rw[getD_set_ne λe=>hi e.symm];exact A i hi
      have A0:u.kind≠dy:=hh.resolve_left E;have h6:=T<|.inr A0;refine h6.set ?_;have h7:=h6.getD fh u.out.toNat;have h8:=h6.getD fh u.ah[j].sh.toNat;rw[hd];unfold lz;rw[if_neg A0,adG];omega
     refine gg W ?_ ?_<;>intro O
     ·have O:u.kind=dy:=O;have ht:=hu.table O;have E1:tK false 1 ((u.dI.length:Int)-1)=lz u:=by unfold lz;rw[if_pos O];rfl
      refine k1 W aW (by simp only[ag,and_true,E1,q]<;>omega) ?_;refine again (j+1,a.set u.out.toNat<|max (a.getD u.out.toNat 0)<|a.getD u.ah[j].sh.toNat 0*lz u) (by dsimp only;omega) (gS _ W) ⟨G,G,⟨W,ar.of_eq<|congrArg (SV.ints .i64 true) ?_⟩,G,G,G,G,U⟩;rw[E1];rfl
     have O:¬u.kind=dy:=O;have Rr:a.getD u.ah[j].sh.toNat 0=a.getD u.ah[j].sh.toNat 0*lz u:=by unfold lz;rw[if_neg O,adG]
     refine k1 W aW (by simp only[ag,and_true,q]<;>omega) ?_;exact again (j+1,a.set u.out.toNat<|max (a.getD u.out.toNat 0)<|a.getD u.ah[j].sh.toNat 0) (by dsimp only;omega) (gS _ Rr) ⟨G,G,G,G,G,G,G,U⟩
    have:j=u.ah.length:=E;subst this;rw[acN]at v;refine r0 W<|meet a ⟨v.symm,q,r,A⟩ ⟨G,G,G,G,G,G,U⟩
   rintro a⟨F3,q,r,A⟩;rw[<-F3]at c;refine r1 W (by simp only[ag,and_true,q]<;>omega) ?_;refine gg W ?_ ?_<;>intro b
   ·have b:(6:Int)<a.getD u.out.toNat 0:=b;rw[if_pos b]at c;refine bK W W ?_;show false=Ap p.aa n;unfold Ap;rw[c]
   have b:¬(6:Int)<a.getD u.out.toNat 0:=b;rw[if_neg b]at c;refine r1 W ba<|again (k+1,a) (by dsimp only;omega) ⟨by dsimp only;omega,c,q,?_⟩ ⟨G,G,G,G,G,U⟩;intro x V;obtain⟨i,hi,rfl⟩:=ae4.1 V;have e:a[i]=a.getD i 0:=(au hi).symm;refine⟨(r _ V).1,?_⟩;rw[e];by_cases H:i=u.out.toNat
   ·rw[H];omega
   rw[A i H];exact(t.getD fh i).2
  refine r0 W ?_;rw[ab5 E]at c;exact meet dg ⟨c,w,t⟩ ⟨G,G,G,G,U⟩
 rintro dg⟨c,w,t⟩;have hL:Ap p.aa n=(HT p.aa 6 dg (az p.aa)<|List.replicate n 0).isSome:=by unfold Ap;rw[c]
 refine r1 W ba<|kR (λ(k:Nat)(rt:List Int)=>[(1,.i 6),(2,.box true<|bh p),(5,.ints .i64 true dg),(7,.ints .i64 true<|az p.aa),(12,.ints .i64 true rt),(13,.i k)])
  (λk rt=>k<=(az p.aa).length/\Ap p.aa n=(HT p.aa 6 dg ((az p.aa).drop k) rt).isSome/\rt.length=n/\xl rt 6)
  (λk _=>(az p.aa).length-k) 0 (List.replicate n 0) ⟨aaM _,hL,I,xl.rep n fh⟩ ⟨G,G,G,G,⟨W,ar.of_eq<|congrArg (SV.ints .i64 true)<|by rw[hn];rfl⟩,G,U⟩ ?_
 rintro k rt⟨hk,c,F2,Z⟩;refine bQ W W ?_ ?_<;>intro h1
 ·have y:k<(az p.aa).length:=E;have ek:(k:Int).toNat=k:=E;have B:(az p.aa).getD k 0=(az p.aa)[k]:=au y;obtain⟨o1,o2⟩:=gC _<|abw y;rw[abO y,HT]at c;obtain⟨o,eo⟩:∃o,(az p.aa)[k]=o:=⟨_,W⟩;rw[eo]at B o1 o2 c;have s:p.aa.getD o.toNat default∈p.aa:=bw E;unfold uH at c;obtain⟨u,eu⟩:∃u,p.aa.getD o.toNat default=u:=⟨_,W⟩;rw[eu]at s c;have hu:=hv _ s;have F1:=hu.out;have Y:=h.unit _ s;have X:=Y.ah;have H2:(cR u).length<=u.ah.length:=by unfold cR;split<;>simp
  have Q:∀f∈cR u,f∈u.ah:=by
   intro f c;unfold cR at c;split at c
   ·exact adg c
   exact c
  have D:∀j,j≠u.out.toNat->∀l:List Int,∀x,(l.set u.out.toNat x).getD j 0=l.getD j 0:=λj L l x=>getD_set_ne λe=>L e.symm;refine rn 3 W<|CP 3 (λaE:List Int=>[(1,.i 6),(2,.box true<|bh p),(5,.ints .i64 true dg),(7,.ints .i64 true<|az p.aa),(12,.ints .i64 true aE),(13,.i k),(14,.box true<|dQ u)])
   (λaE=>aE=Mq u dg rt/\aE.length=n/\xl aE 100/\∀j,j≠u.out.toNat->aE.getD j 0=rt.getD j 0) ?_ ?_
  ·refine k1 W aW (by simp only[ag,and_true,ek,B]<;>omega) ?_;rw[ek,B,eu];refine bG W (wb u Y (λg=>by have:=(hu.int g).1;omega)) W ?_;refine r0 W<|kR (λ(j:Nat)(aE:List Int)=>[(1,.i 6),(2,.box true<|bh p),(5,.ints .i64 true dg),(7,.ints .i64 true<|az p.aa),(12,.ints .i64 true aE),(13,.i k),(14,.box true<|dQ u),(15,.bA false 2 default oX<|cR u),(16,.i j)])
    (λj aE=>j<=(cR u).length/\Mq u dg rt=((cR u).drop j).foldl (jv u dg) aE/\aE.length=n/\xl aE (6+6*j)/\(∀i,i≠u.out.toNat->aE.getD i 0=rt.getD i 0))
    (λj _=>(cR u).length-j) 0 rt ⟨aaM _,W,F2,Z.mono fh,λ_ _=>rfl⟩ ⟨G,G,G,G,G,G,G,G,G,U⟩ ?_
   rintro j aE⟨L,v,q,r,A⟩;have G1:(cR u).length<=8:=by
    rcases hu.kind with g|g|g
    ·have:=(hu.int g).1;omega
    ·have:=(hu.add g).2.1;omega
    have:=(hu.table g).1;omega
   refine bQ W W ?_ ?_<;>intro b
   ·have z:j<(cR u).length:=E;have ej:(j:Int).toNat=j:=E;have J:(cR u).getD j default=(cR u)[j]:=au z;rw[abO z,acK]at v;have S:=hu.feed _<|Q _<|abw z;have T:xl aE 54:=r.mono E;have V:=r.getD E (cR u)[j].sh.toNat;have ho:=r.getD E u.out.toNat;have hd:=t.getD fh (cR u)[j].sh.toNat;refine k1 W aW (by simp only[ag,and_true,ej,J,q,w]<;>omega) ?_;refine again (j+1,jv u dg aE (cR u)[j]) (by dsimp only;omega) ⟨by dsimp only;omega,v,by unfold jv;rw[kH];exact q,?_,λi hi=>?_⟩ ⟨G,G,G,G,⟨W,ar.of_eq<|congrArg (SV.ints .i64 true) ?_⟩,G,G,G,G,U⟩
    ·unfold jv;refine xl.set (r.mono<|by dsimp only;omega) ?_;dsimp only;omega
    ·unfold jv;rw[D i hi];exact A i hi
    rw[ej,J];rfl
   have:j=(cR u).length:=E;subst this;rw[acN]at v;refine r0 W<|meet aE ⟨v.symm,q,r.mono E,A⟩ ⟨G,G,G,G,G,G,G,U⟩
  rintro I2⟨e1,l1,b1,g1⟩;rw[<-e1]at c;have L0:=t.getD fh u.out.toNat;have G3:=b1.getD fh u.out.toNat;refine CP 1 (λaE:List Int=>[(1,.i 6),(2,.box true<|bh p),(5,.ints .i64 true dg),(7,.ints .i64 true<|az p.aa),(12,.ints .i64 true aE),(13,.i k),(14,.box true<|dQ u)])
   (λaE=>aE=tZ u dg I2/\aE.length=n/\xl aE 106/\∀j,j≠u.out.toNat->aE.getD j 0=rt.getD j 0) ?_ ?_
  ·refine bQ W W ?_ ?_<;>intro b
   ·have b:u.kind=dy:=b;refine k1 W aW (by simp only[ag,and_true,l1,w]<;>omega) ?_;refine meet (tZ u dg I2) ⟨W,?_,?_,λj L=>?_⟩ ⟨G,G,G,G,⟨W,ar.of_eq<|congrArg (SV.ints .i64 true)<|by unfold tZ;rw[if_pos b]⟩,G,G,U⟩
    ·unfold tZ;rw[if_pos b,kH];exact l1
    ·unfold tZ;rw[if_pos b];exact(b1.mono fh).set E
    unfold tZ;rw[if_pos b,D j L];exact g1 j L
   have b:¬u.kind=dy:=b;refine r0 W<|meet I2 ⟨?_,l1,b1.mono fh,g1⟩ ⟨G,G,G,G,G,G,G,U⟩;unfold tZ;rw[if_neg b]
  rintro P⟨e2,l2,b2,g2⟩;rw[<-e2]at c;have G2:=b2.getD fh u.out.toNat;refine CP 1 (λaE:List Int=>[(1,.i 6),(2,.box true<|bh p),(5,.ints .i64 true dg),(7,.ints .i64 true<|az p.aa),(12,.ints .i64 true aE),(13,.i k),(14,.box true<|dQ u)])
   (λaE=>aE=rP u dg P/\aE.length=n/\xl aE 112/\∀j,j≠u.out.toNat->aE.getD j 0=rt.getD j 0) ?_ ?_
  ·refine bQ W W ?_ ?_<;>intro b
   ·have b:u.kind=bq:=b;have K0:=(hu.int b).1;have F4:Int.toNat 0=0:=W;have K2:=hu.feed _<|bw (d:=default)<|show 0<u.ah.length from E;have Cc:=t.getD fh (u.ah.getD 0 default).sh.toNat;refine k1 W aW (by simp only[ag,and_true,l2,w,F4]<;>omega) ?_;refine meet (rP u dg P) ⟨W,?_,?_,λj L=>?_⟩ ⟨G,G,G,G,⟨W,ar.of_eq<|congrArg (SV.ints .i64 true)<|by unfold rP;rw[if_pos b];rfl⟩,G,G,U⟩
    ·unfold rP;rw[if_pos b,kH];exact l2
    ·unfold rP;rw[if_pos b];exact(b2.mono fh).set E
    unfold rP;rw[if_pos b,D j L];exact g2 j L
   have b:¬u.kind=bq:=b;refine r0 W<|meet P ⟨?_,l2,b2.mono fh,g2⟩ ⟨G,G,G,G,G,G,G,U⟩;unfold rP;rw[if_neg b]
  rintro C⟨e3,l3,b3,g3⟩;rw[<-e3]at c;refine r1 W (by simp only[ag,and_true,l3]<;>omega) ?_;refine gg W ?_ ?_<;>intro b
  ·have b:(6:Int)<C.getD u.out.toNat 0:=b;rw[if_pos b]at c;refine bK W W ?_;show false=Ap p.aa n;rw[c];rfl
  have b:¬(6:Int)<C.getD u.out.toNat 0:=b;rw[if_neg b]at c;refine r1 W ba<|again (k+1,C) (by dsimp only;omega) ⟨by dsimp only;omega,c,l3,?_⟩ ⟨G,G,G,G,G,G,U⟩;intro x V;obtain⟨i,hi,rfl⟩:=ae4.1 V;have e:C[i]=C.getD i 0:=(au hi).symm;refine⟨(b3 _ V).1,?_⟩;rw[e];by_cases H:i=u.out.toNat
  ·rw[H];omega
  rw[g3 i H];exact(Z.getD fh i).2
 rw[ab5 E]at c;refine bK W W ?_;show true=Ap p.aa n;rw[c];rfl
end
structure Sys where
 names:List ck
 bd:List (List cU)
 start:List fD
def YE(s:Sys):SV:=.agg [.strs false s.names,n5 false s.bd,.bA false 2 default dX s.start]
noncomputable def B4(l:List (List cU)):Int:=aK uT l
def Gn(s:Sys)(sh:List (List cU)){V K:Nat}(h:∀p∈sh++s.bd,(∀u∈p,Di V K u)/\p.length<2^50)(hl:sh.length+s.bd.length<2^40)(f:K<2^36):
 aM Tryz.prog 53 [YE s,n5 false sh] (.i<|B4<|sh++s.bd):=by
 refine bS Tryz.func53 W<|k1 W aW (by simp[ag,and_true,len,abL];refine⟨λx=>rfl,λx=>rfl,?_,λx=>rfl,λx=>rfl,?_⟩<;>omega) ?_;refine loop (λi:Nat=>[(5,n5 true<|sh++s.bd),(6,.i i)]) (λi=>i<=(sh++s.bd).length/\B4 (sh++s.bd)=B4 ((sh++s.bd).drop i)) (λi=>(sh++s.bd).length-i) 0 ⟨aaM _,W⟩
  ⟨⟨W,W,W,by rw[cX,abQ];exact jC.refl _⟩,G,U⟩ ?_
 rintro i⟨hi,b⟩;have d:(sh++s.bd).length=sh.length+s.bd.length:=abE;refine bQ W W ?_ ?_<;>intro g
 ·have a:i<(sh++s.bd).length:=E;have e:(i:Int).toNat=i:=E;have j:(sh++s.bd).getD i default=(sh++s.bd)[i]:=au a;unfold B4 at b⊢;rw[dA _ a]at b;obtain⟨g1,g2⟩:=h _<|abw a;refine r1 W (by simp[ag,and_true,e]<;>omega) ?_;refine cl W (by rw[e,j];rfl) (Aq (sh++s.bd)[i] g1 g2 f) W ?_;refine bQ W W ?_ ?_<;>intro c
  ·have c:uT (sh++s.bd)[i]≠0:=c;rw[if_pos c]at b;refine bK W W<|ar.of_eq<|congrArg SV.i b.symm
  have c:¬uT (sh++s.bd)[i]≠0:=c;rw[if_neg c]at b;refine r1 W a7<|again (i+1) E ⟨E,b⟩ ⟨G,G,U⟩
 refine bK W W<|bR ?_;rw[b,ab5 E];rfl
def sZ(l:List (List cU)):bU (l.map λp=>(di false p).den)=true:=te (by intro x a;obtain⟨p,-,rfl⟩:=abF.1 a;rfl)
def Va(bd:List (List cU))(p:List cU){V K L:Nat}(l:∀u∈p,Di V L u)(d:p.length<2^40)(h:Y0 V K bd p)(x:bd.length<2^20)(z:bd.length<V)(t:V<2^20)(f:K+K+1<2^34)(n:L+3<2^34):
 L7 Tryz.prog 133 (n5 true bd) [di false p] (di false<|mO bd p):=by
 refine L7.of (sz:=1) (X:=bd.map λp=>(di false p).den) W (sZ bd) W I λk r o b=>?_;rw[abL]at b;refine sE (fn:=Tryz.f133) Tryz.func133 W W W W W<|bP W W (pL p 0 (V:=V) (K:=K) (L:=L) l h.d0 E d f n) W<|bM W (λi:Nat=>[(0,.pv (·=k)),(1000000,.abs<|JL (.list .own 1 (bd.map λp=>(di false p).den)) k r o),(1,di false p),(5,di false<|ll bd p i),(6,.i i)]) (λi=>i<=bd.length) (λi=>bd.length-i) 0 (aaM _) ⟨G,W,G,G,G,U⟩ ?_;intro i hi;refine r0 W<|ex W W W (WQ (P:=Tryz.prog) W W Tryz.underlying100 b) W<|bQ W W ?_ ?_<;>intro q
 ·have a:i<bd.length:=E;have w:(i:Int)+1=((i+1:Nat):Int):=E;have v:bd.getD i []=bd[i]:=au a;have c:=h.d i a;obtain⟨j,g⟩:=h.r i a;have s:=h.a i a;have hm:=h.m i a;have e:(ll bd p i++lP (tT p<|i+1) (bd.getD i [])).length<2^40:=by
   rw[abE];have q:(ll bd p i).length<2^30:=by
    cases i with
    |zero=>exact h.d0.norm.2
    |succ i=>exact(h.a i E).norm.2
   have A:=hm.norm.2;unfold lP;omega
  rw[abE]at e;refine r1 W a7<|cd W (by rw[w];rfl) (pL p (i+1) (V:=V) (K:=K) (L:=L) l c E d f n) W ?_;refine r0 W<|Y9 W W W (WX (P:=Tryz.prog) (m:=i) W Tryz.underlying100 (j7 hA W) a b) W<|ldj W W (Q4 (y:=(di false<|bd.getD i []).den) (j7 hA W) (sZ bd) (by rw[adb,abA a,v];rfl) W) W W ?_;refine bH W (oS (tT p<|i+1) (bd.getD i []) (V:=V) (K:=K) (L:=K) (M:=K) c.norm.1 j hm (by have:=c.norm.2;unfold tT;omega) g E f E) W ?_;refine bH W (mc (ll bd p i) (lP (tT p<|i+1)<|bd.getD i []) (V:=V) (K:=K) s e f) W<|k1 W aW a7<|again (i+1) E E ⟨G,W,G,G,G,U⟩
 have:i=bd.length:=E;subst this;refine r0 W<|SN [(4,di false<|ll bd p bd.length),(1000000,.abs<|JL (.list .own 1 (bd.map λp=>(di false p).den)) k r o)] ⟨⟨W,W,.le<|ar.refl _⟩,W,U⟩ W (ar.refl _) ⟨G,U⟩
def FV(s:ck):aM Tryz.prog 128 [.s s] (dX ⟨s,s⟩):=by refine bS Tryz.func128 W<|bN W W
def jL(us:List bT)(i:Nat):Nat:=dq<|us.take i
def tz{us:List bT}{i:Nat}(h:i<us.length):jL us (i+1)=jL us i+if us[i].kind=bq then 1 else 0:=by unfold jL dq;rw[abR h,aeh];by_cases g:us[i].kind=bq<;>simp
def GR(us:List bT)(i:Nat):jL us i<=dq us:=List.Sublist.countP_le<|List.take_sublist _ _
def Bk(n m:Nat):List (List cU):=(List.replicate n []).set 0 (vm 0 m)
def FJ(us:List bT)(n m:Nat):Nat->List (List cU)
 |0=>Bk n m
 |i+1=>if(us.getD i default).kind=bq then(FJ us n m i).set (us.getD i default).out.toNat (vm (jL us<|i+1) m)else FJ us n m i
def uM(us:List bT)(i:Nat):List Int:=(List.range i).map λj=>(jL us j:Int)
def kO(us:List bT)(i:Nat):List ck:=(List.range<|jL us i).map λ(j:Nat)=>122::cK ((j:Int)+1)
def kD(us:List bT):Nat->List fD
 |0=>[]
 |i+1=>if(us.getD i default).kind=bq then kD us i++[⟨(us.getD i default).k,(us.getD i default).k⟩]else kD us i
def Eo(us:List bT)(i:Nat):uM us (i+1)=uM us i++[(jL us i:Int)]:=by unfold uM;rw[ad6,abQ];rfl
def Bf(us:List bT):∀i,(kD us i).length<=i
 |0=>.refl
 |i+1=>by
  have:=Bf us i;rw[kD];split
  ·simp;exact this
  omega
def qi(us:List bT)(n m:Nat):∀i,(FJ us n m i).length=n
 |0=>by simp[FJ,Bk]
 |i+1=>by
  have:=qi us n m i;rw[FJ];split
  ·rw[acO];exact this
  exact this
noncomputable def gT(sh:List (List cU))(a:List Rat)(u:bT):Nat->List cU×Rat
 |0=>([],bV u.k)
 |i+1=>(DS (gT sh a u i).1<|kJ (bV (u.ah.getD i default).dZ)<|sh.getD (u.ah.getD i default).sh.toNat [],
   (gT sh a u i).2-bV (u.ah.getD i default).dZ*a.getD (u.ah.getD i default).sh.toNat 0)
noncomputable def Ps(sh:List (List cU))(a:List Rat)(m:Nat)(u:bT):List cU:=DS (gT sh a u u.ah.length).1<|aaa (gT sh a u u.ah.length).2 m
noncomputable def oL(sh:List (List cU))(u:bT):List cU:=kJ (bV (u.ah.getD 0 default).dZ)<|sh.getD (u.ah.getD 0 default).sh.toNat []
noncomputable def jF(m:Nat)(x:List cU)(cs:List Rat):List cU:=cs.foldr (λa s=>DS (lP s x)<|aaa a m) []
noncomputable def Zi(sh:List (List cU))(m:Nat)(u:bT):List cU:=jF m (oL sh u)<|u.dI.map bV
noncomputable def lJ(us:List bT)(a:List Rat)(m:Nat)(sh:List (List cU))(o:Int):List (List cU):=
 if(us.getD o.toNat default).kind=jz then sh.set (us.getD o.toNat default).out.toNat (Ps sh a m<|us.getD o.toNat default)
 else if(us.getD o.toNat default).kind=dy then sh.set (us.getD o.toNat default).out.toNat (Zi sh m<|us.getD o.toNat default)else sh
noncomputable def iO(us:List bT)(n m k:Nat):List (List cU):=((az us).take k).foldl (lJ us (cp n us) m)<|FJ us n m us.length
noncomputable def za(us:List bT)(n m:Nat):List (List cU):=iO us n m (az us).length
noncomputable def Ms(sh bd:List (List cU))(u:bT):List cU:=kJ (bV (u.ah.getD 0 default).dZ*bV (u.ah.getD 1 default).dZ) (lP (sh.getD (u.ah.getD 0 default).sh.toNat [])<|mO bd<|sh.getD (u.ah.getD 1 default).sh.toNat [])
noncomputable def ow(us:List bT)(sh bd:List (List cU))(o:Int):List (List cU):=if(us.getD o.toNat default).kind=bq then bd.set (jL us o.toNat) (Ms sh bd<|us.getD o.toNat default)else bd
noncomputable def iZ(us:List bT)(n m k:Nat):List (List cU):=((az us).take k).foldl (ow us<|za us n m)<|List.replicate m []
noncomputable def Zp(us:List bT)(n m:Nat):List (List cU):=iZ us n m (az us).length
noncomputable def Mr(us:List bT)(n m:Nat):Sys:=⟨kO us us.length,Zp us n m,kD us us.length⟩
def pg{us:List bT}{n m k:Nat}(h:k<(az us).length):iO us n m (k+1)=lJ us (cp n us) m (iO us n m k) (az us)[k]:=by unfold iO;rw[abR h,adk];rfl
def Bo{us:List bT}{n m k:Nat}(h:k<(az us).length):iZ us n m (k+1)=ow us (za us n m) (iZ us n m k) (az us)[k]:=by unfold iZ;rw[abR h,adk];rfl
def Ky(us:List bT)(a:List Rat)(m:Nat)(sh:List (List cU))(o:Int):(lJ us a m sh o).length=sh.length:=by
 unfold lJ;split
 ·simp_all
 split
 ·simp_all
 rfl
def kG(us:List bT)(n m k:Nat):(iO us n m k).length=n:=by
 have:∀(l:List Int)(sh:List (List cU)),(l.foldl (lJ us (cp n us) m) sh).length=sh.length:=by
  intro l
  induction l with
  |nil=>intro sh;rfl
  |cons o l a=>intro sh;rw[acK,a,Ky]
 unfold iO;rw[this,qi]
def sY(us:List bT)(n m k:Nat):(iZ us n m k).length=m:=by
 have:∀(l:List Int)(r:List (List cU)),(l.foldl (ow us<|za us n m) r).length=r.length:=by
  intro l
  induction l with
  |nil=>intro sh;rfl
  |cons o l a=>
   intro sh;rw[acK,a];unfold ow;split
   ·simp_all
   rfl
 unfold iZ;rw[this];simp
structure SL(V K L:Nat)(sh:List (List cU))(st:List Rat)(m:Nat)(u:bT):Prop where
 Vj:∀f∈u.ah,vj V K<|pk (bV f.dZ)<|sh.getD f.sh.toNat []
 sum:∀i,i<u.ah.length->vj V K ((gT sh st u i).1++kJ (bV (u.ah.getD i default).dZ) (sh.getD (u.ah.getD i default).sh.toNat []))
 num:∀i,i<=u.ah.length->Sz (gT sh st u i).2 L
 fin:vj V K ((gT sh st u u.ah.length).1++aaa (gT sh st u u.ah.length).2 m)
structure VW(V K:Nat)(sh:List (List cU))(m:Nat)(u:bT):Prop where
 Vj:vj V K (pk (bV (u.ah.getD 0 default).dZ)<|sh.getD (u.ah.getD 0 default).sh.toNat [])
 mul:∀i,i<u.dI.length->vj V K (jx (jF m (oL sh u)<|(u.dI.map bV).drop<|i+1)<|oL sh u)
 sum:∀i,i<u.dI.length->vj V K (lP (jF m (oL sh u)<|(u.dI.map bV).drop<|i+1) (oL sh u)++aaa (bV<|u.dI.getD i []) m)
structure L6(V K:Nat)(sh bd:List (List cU))(u:bT):Prop where
 al:Y0 V K bd (sh.getD (u.ah.getD 1 default).sh.toNat [])
 along:(∀t∈mO bd (sh.getD (u.ah.getD 1 default).sh.toNat []),Di V K t)/\(mO bd<|sh.getD (u.ah.getD 1 default).sh.toNat []).length<2^30
 mul:vj V K (jx (sh.getD (u.ah.getD 0 default).sh.toNat [])<|mO bd<|sh.getD (u.ah.getD 1 default).sh.toNat [])
 Vj:vj V K (pk (bV (u.ah.getD 0 default).dZ*bV (u.ah.getD 1 default).dZ)<|lP (sh.getD (u.ah.getD 0 default).sh.toNat [])<|mO bd<|sh.getD (u.ah.getD 1 default).sh.toNat [])
structure SF(V K L:Nat)(us:List bT)(n m:Nat):Prop where
 sh:∀k,k<=(az us).length->∀p∈iO us n m k,(∀u∈p,Di V K u)/\p.length<2^30
 rt:∀k,k<=(az us).length->∀p∈iZ us n m k,(∀u∈p,Di V K u)/\p.length<2^30
 add:∀k(h:k<(az us).length),(us.getD (az us)[k].toNat default).kind=jz->SL V K L (iO us n m k) (cp n us) m (us.getD (az us)[k].toNat default)
 dI:∀k(h:k<(az us).length),(us.getD (az us)[k].toNat default).kind=dy->VW V K (iO us n m k) m (us.getD (az us)[k].toNat default)
 Zr:∀k(h:k<(az us).length),(us.getD (az us)[k].toNat default).kind=bq->L6 V K (za us n m) (iZ us n m k) (us.getD (az us)[k].toNat default)
def zQ(s:Sys):SV:=.agg [.strs true s.names,n5 true s.bd,.bA true 2 default dX s.start]
def KE(p:gV)(h:rA p)(n m:Nat)(hn:p.n=n)(hm:m=dq p.aa)(X2:0<n)(W1:n<=100)(P1:p.aa.length<=96)(hv:∀u∈p.aa,iQ p.n u){K L:Nat}(hR:SF (m+1) K L p.aa n m)(hK:K+K+1<2^34)(hL:L+135<2^34)(hKL:L<=K):
 aM Tryz.prog 52 [bh p] (.bW [YE<|Mr p.aa n m,n5 true<|za p.aa n m]):=by
 have hl:=h.aa;have hm2:m<=p.aa.length:=by rw[hm];exact adU
 refine bS Tryz.func52 W<|cx 3 [(1,.box true<|bh p),(2,.box true<|.agg [.nil,.nil,.nil]),(4,.i m),(5,n5 true<|List.replicate n [])] True ?_ λ_=>?_
 ·refine bP W W (oD p h) W<|qp W<|Yh () U ⟨⟨W,W,.le<|ar.refl _⟩,⟨W,W,.le<|ar.refl _⟩,⟨W,W,.le<|ar.of_eq<|congrArg SV.i<|by rw[hm];rfl⟩,⟨W,W,?_⟩,U⟩;refine .row ?_;rw[hn,ae3];exact o6.rep (x:=.nil) (y:=di false []) (.le W) n
 refine bP W W (rE 0 m (aaM _) E) W<|r1 W (by simp only[ag,and_true,ac2]<;>omega) ?_;refine bG W (vt p h n hn E<|iQ.outs hv hn) W<|r1 W (by simp only[ag,and_true,ac2]<;>omega) ?_;rw[D6 λu hu=>(hv u hu).k];refine EI [(1,.box true<|bh p),(2,.box true<|.agg [.nil,.nil,.nil]),(4,.i m),(5,n5 true<|FJ p.aa n m 0),(6,.strs true<|(cp n p.aa).map qt),(7,.box true<|zQ ⟨kO p.aa 0,List.replicate m [],kD p.aa 0⟩),(8,.ints .i64 true<|uM p.aa 0),(9,.i 0)]
  ⟨⟨W,W,.le<|ar.refl _⟩,⟨W,W,.le<|ar.refl _⟩,⟨W,W,.le<|ar.refl _⟩,⟨W,W,.row ?_⟩,⟨W,W,.le<|ar.refl _⟩,⟨W,W,.box<|.agg<|.cons (.le W)<|.cons (.row ?_)<|.cons (.le W) .nil⟩,⟨W,W,.le W⟩,⟨W,W,.le<|ar.refl _⟩,U⟩ ?_
 ·rw[FJ,Bk,ade];exact o6.refl _
 ·show o6 (List.replicate (m:Int).toNat .nil) (List.map (di false)<|List.replicate m []);rw[ae3,show(m:Int).toNat=m from E];exact o6.rep (x:=.nil) (y:=di false []) (.le W) m
 have G6:∀i,jL p.aa i<=m:=λi=>hm▸GR p.aa i;refine loop (λi:Nat=>[(1,.box true<|bh p),(2,.box true<|.agg [.nil,.nil,.nil]),(4,.i m),(5,n5 true<|FJ p.aa n m i),(6,.strs true<|(cp n p.aa).map qt),(7,.box true<|zQ ⟨kO p.aa i,List.replicate m [],kD p.aa i⟩),(8,.ints .i64 true<|uM p.aa i),(9,.i i)])
  (λi=>i<=p.aa.length) (λi=>p.aa.length-i) 0 (aaM _) ⟨G,G,G,G,G,G,G,G,U⟩ ?_
 intro i hi;have B:(kO p.aa i).length=jL p.aa i:=by simp[kO]
 have G4:(uM p.aa i).length=i:=by simp[uM]
 refine bQ W W ?_ ?_<;>intro h1
 ·have w:i<p.aa.length:=E;have ei:(i:Int).toNat=i:=E;have eg:p.aa.getD i default=p.aa[i]:=au w;have a:=tz w;have S4:=Bf p.aa i;have hu:=hv _<|abw w;have l:=G6<|i+1;have F3:=hu.out;refine r1 W (by simp only[ag,and_true,ei,len,G4,abD,abK]<;>omega) ?_;rw[ei,eg];refine gg W ?_ ?_<;>intro b
  ·have b:p.aa[i].kind=bq:=b;rw[if_pos b]at a;refine r1 W (by simp only[ag,and_true,B]<;>omega) ?_;have hit:=wq ((jL p.aa i:Int)+1) (k:=3)<|jn E;refine cd W (by rw[B];rfl) (ug ((jL p.aa i:Int)+1) E) W ?_;rw[nL];refine k1 W aW (by simp only[ag,and_true,len,B,abD,abK,abE]<;>omega) ?_;refine bH W (FV p.aa[i].k) W<|k1 W aW (by simp only[ag,and_true,len,B,abL,abD,abK,abE]<;>omega) ?_;refine VP (us:=[.i (jL p.aa (i+1):Nat),.i m]) W W U ⟨congrArg SV.i<|by simp only[abE,B,abD,abK];omega,W,U⟩ (rE (jL p.aa<|i+1) m l E) W ?_;refine k1 W aW (by simp only[ag,and_true,len,B,abL,abD,abK,qi]<;>omega) ?_;refine vf (i+1) E E ⟨⟨W,W,.le<|ar.refl _⟩,⟨W,W,.le<|ar.refl _⟩,⟨W,W,.le<|ar.refl _⟩,⟨W,W,.row ?_⟩,⟨W,W,.le<|ar.refl _⟩,⟨W,W,.box<|.agg<|.cons (.le<|ar.of_eq<|congrArg (SV.strs true) ?_)<|.cons (.le<|ar.refl _)<|.cons (.row ?_) .nil⟩,⟨W,W,.le<|ar.of_eq<|congrArg (SV.ints .i64 true) ?_⟩,⟨W,W,.le<|ar.refl _⟩,U⟩
   ·rw[FJ,eg,if_pos b,ade];exact o6.refl _
   ·rw[kO,kO,a,ad6,abQ];rfl
   ·rw[kD,eg,if_pos b,cX,abQ];exact o6.refl _
   rw[Eo,B]
  have b:¬p.aa[i].kind=bq:=b;rw[if_neg b]at a;refine qp W<|again (i+1) E E ⟨G,G,G,⟨W,ar.of_eq<|congrArg (n5 true) ?_⟩,G,⟨W,ar.of_eq<|congrArg (λs=>SV.box true<|zQ s) ?_⟩,⟨W,ar.of_eq<|congrArg (SV.ints .i64 true) ?_⟩,G,U⟩
  ·rw[FJ,eg,if_neg b]
  ·rw[kO,kO,a,kD,eg,if_neg b];rfl
  rw[Eo,B]
 have xq:i=p.aa.length:=E;subst xq;have V2:=uK p.aa;have K0:=Bd n p.aa;have F4:∀q∈cp n p.aa,Sz q 67:=Be (Mg.mono fh) λu hu=>fi (hv u hu).k;refine bP W W (rY p h<|iQ.ZD hv) W<|bM W (λk:Nat=>[(1,.box true<|bh p),(2,.box true<|.agg [.nil,.nil,.nil]),(4,.i m),(5,n5 true<|iO p.aa n m k),(6,.strs true<|(cp n p.aa).map qt),(7,.box true<|zQ ⟨kO p.aa p.aa.length,List.replicate m [],kD p.aa p.aa.length⟩),(8,.ints .i64 true<|uM p.aa p.aa.length),(11,.ints .i64 true<|az p.aa),(12,.i k)])
  (λk=>k<=(az p.aa).length) (λk=>(az p.aa).length-k) 0 (aaM _) ⟨G,G,G,G,G,G,G,G,G,U⟩ ?_
 intro k hk;refine bQ W W ?_ ?_<;>intro h1
 ·have c:k<(az p.aa).length:=E;have ek:(k:Int).toNat=k:=E;have F:(az p.aa).getD k 0=(az p.aa)[k]:=au c;obtain⟨o1,o2⟩:=gC _<|abw c;have a:=pg (n:=n) (m:=m) c;have T:=hR.add k c;have Q:=hR.dI k c;have Z:=hR.sh k hk;have A:=kG p.aa n m k;obtain⟨o,eo⟩:∃o,(az p.aa)[k]=o:=⟨_,W⟩;rw[eo]at F o1 o2 a T Q;have v:p.aa.getD o.toNat default∈p.aa:=bw E;unfold lJ at a;obtain⟨u,eu⟩:∃u,p.aa.getD o.toNat default=u:=⟨_,W⟩;rw[eu]at v a T Q;have hu:=hv _ v;have F3:=hu.out;have S2:=h.unit _ v;refine k1 W aW (by simp only[ag,and_true,ek,F]<;>omega) ?_;rw[ek,F,eu];generalize iO p.aa n m k=sh at*;have C:∀f∈u.ah,(∀t∈sh.getD f.sh.toNat [],Di (m+1) K t)/\(sh.getD f.sh.toNat []).length<2^30:=λf Y=>by
   have:=hu.feed f Y;exact Z _<|bw (d:=[]) E
  refine gg W ?_ ?_<;>intro b
  ·have b:u.kind=jz:=b;rw[if_pos b]at a;have z:=T b;have hfl:=(hu.add b).2.1;refine bM W (λi:Nat=>[(1,.box true<|bh p),(2,.box true<|.agg [.nil,.nil,.nil]),(4,.i m),(5,n5 true sh),(6,.strs true<|(cp n p.aa).map qt),(7,.box true<|zQ ⟨kO p.aa p.aa.length,List.replicate m [],kD p.aa p.aa.length⟩),(8,.ints .i64 true<|uM p.aa p.aa.length),(11,.ints .i64 true<|az p.aa),(12,.i k),
    (13,.box true<|dQ u),(14,.s<|qt (gT sh (cp n p.aa) u i).2),(15,di false (gT sh (cp n p.aa) u i).1),(16,.i i)])
    (λi=>i<=u.ah.length) (λi=>u.ah.length-i) 0 (aaM _) ⟨G,G,G,G,G,G,G,G,G,G,⟨W,ar.of_eq<|congrArg SV.s (fZ hu.k).symm⟩,G,G,U⟩ ?_
   intro i hi;have S0:(gT sh (cp n p.aa) u i).1.length<2^30:=by
    cases i with
    |zero=>simp[gT]
    |succ i=>exact(z.sum i E).norm.2
   refine bQ W W ?_ ?_<;>intro X
   ·have w:i<u.ah.length:=E;have ei:(i:Int).toNat=i:=E;have H:u.ah.getD i default=u.ah[i]:=au w;have Y:=hu.feed _<|abw w;obtain⟨g1,g2⟩:=C _<|abw w;have N:=z.Vj _<|abw w;have J:=z.sum i w;have M1:=z.num i hi;have R:gT sh (cp n p.aa) u (i+1)=(DS (gT sh (cp n p.aa) u i).1<|kJ (bV u.ah[i].dZ)<|sh.getD u.ah[i].sh.toNat [],(gT sh (cp n p.aa) u i).2-bV u.ah[i].dZ*(cp n p.aa).getD u.ah[i].sh.toNat 0):=by
     rw[gT,H]
    rw[H]at J;obtain⟨f,ef⟩:∃f,u.ah[i]=f:=⟨_,W⟩;rw[ef]at Y g1 g2 N J R H;have hq:=F4 _<|bw (d:=0)<|show f.sh.toNat<(cp n p.aa).length from E;have l:=mF (bV f.dZ) (sh.getD f.sh.toNat []) (V:=m+1) (K:=K) (L:=67) (fi Y.2.2.1) g1 N E hK E;rw[fZ Y.2.2.1]at l;have H2:=gi (bV f.dZ) ((cp n p.aa).getD f.sh.toNat 0) (fi Y.2.2.1) hq E;rw[fZ Y.2.2.1]at H2;refine r1 W (by simp only[ag,and_true,ei,H,A]<;>omega) ?_;rw[ei,H];refine bH W l W<|qp W<|bH W (mc (gT sh (cp n p.aa) u i).1 (kJ (bV f.dZ)<|sh.getD f.sh.toNat []) (V:=m+1) (K:=K) J (by have:=N.norm.2;unfold kJ;omega) hK) W ?_;refine k1 W aW (by simp only[ag,and_true,abL,K0]<;>omega) ?_;refine cd W (by rw[Ix E];rfl) H2 W ?_;refine qp W<|bH W (D3 (gT sh (cp n p.aa) u i).2 (bV f.dZ*(cp n p.aa).getD f.sh.toNat 0) M1 ((fi Y.2.2.1).mul hq) E) W<|II W<|again (i+1) E E ⟨G,G,G,G,G,G,G,G,G,G,⟨W,ar.of_eq<|congrArg SV.s<|by rw[R]⟩,⟨W,ar.of_eq<|congrArg (di false)<|by rw[R]⟩,G,U⟩
   have:i=u.ah.length:=E;subst this;have G5:=z.fin;have P0:(aaa (gT sh (cp n p.aa) u u.ah.length).2 m).length<=1:=by unfold aaa;split<;>simp
   refine bO W W (sN (gT sh (cp n p.aa) u u.ah.length).2 m E) W<|qp W<|bH W (mc (gT sh (cp n p.aa) u u.ah.length).1 (aaa (gT sh (cp n p.aa) u u.ah.length).2 m) (V:=m+1) (K:=K) G5 E hK) W<|II W<|vf (k+1) E E ⟨⟨W,W,.le<|ar.refl _⟩,⟨W,W,.le<|ar.refl _⟩,⟨W,W,.le<|ar.refl _⟩,⟨W,W,.row ?_⟩,⟨W,W,.le<|ar.refl _⟩,⟨W,W,.le<|ar.refl _⟩,⟨W,W,.le<|ar.refl _⟩,⟨W,W,.le<|ar.refl _⟩,⟨W,W,.le<|ar.refl _⟩,U⟩;rw[a,ade];exact o6.refl _
  have b:¬u.kind=jz:=b;rw[if_neg b]at a;refine bQ W W ?_ ?_<;>intro X
  ·have X:u.kind=dy:=X;rw[if_pos X]at a;have z:=Q X;obtain⟨t1,t2,t3⟩:=hu.table X;have P:Int.toNat 0=0:=W;have D:u.ah.getD 0 default∈u.ah:=bw E;have O:=hu.feed _ D;obtain⟨g1,g2⟩:=C _ D;have l:=mF (bV (u.ah.getD 0 default).dZ) (sh.getD (u.ah.getD 0 default).sh.toNat []) (V:=m+1) (K:=K) (L:=67) (fi O.2.2.1) g1 z.Vj E hK E;rw[fZ O.2.2.1]at l;have hX:=z.Vj.norm;refine k1 W aW (by simp only[ag,and_true,P,A]<;>omega) ?_;rw[P];refine bH W l W<|II W<|loop (λj:Nat=>[(1,.box true<|bh p),(2,.box true<|.agg [.nil,.nil,.nil]),(4,.i m),(5,n5 true sh),(6,.strs true<|(cp n p.aa).map qt),(7,.box true<|zQ ⟨kO p.aa p.aa.length,List.replicate m [],kD p.aa p.aa.length⟩),(8,.ints .i64 true<|uM p.aa p.aa.length),(11,.ints .i64 true<|az p.aa),(12,.i k),
    (13,.box true<|dQ u),(18,di false<|oL sh u),(19,di false<|jF m (oL sh u)<|(u.dI.map bV).drop j),(20,.i<|(j:Int)-1)])
    (λj=>j<=u.dI.length) (λj=>j) u.dI.length (abq _) ⟨G,G,G,G,G,G,G,G,G,G,G,⟨W,?_⟩,G,U⟩ ?_
   ·rw[ab5<|by rw[abL];omega];exact W
   intro j hj;refine bQ W W ?_ ?_<;>intro h4
   ·obtain⟨i,rfl⟩:∃i,j=i+1:=⟨j-1,E⟩;have e1:((i+1:Nat):Int)-1=i:=E;have ei:(i:Int).toNat=i:=E;have hi:i<u.dI.length:=E;have H:u.dI.getD i []=u.dI[i]:=au hi;have N:=z.mul i hi;have J:=z.sum i hi;rw[H]at J;have M2:=hu.dI _<|abw hi;have hT:(∀t∈jF m (oL sh u) ((u.dI.map bV).drop<|i+1),Di (m+1) K t)/\(jF m (oL sh u)<|(u.dI.map bV).drop<|i+1).length<2^30:=by
     rcases abM (i+1) u.dI.length with g|g
     ·have G2:=(z.sum (i+1) g).norm;rw[abO<|by rw[abL];exact g,aei];have e:u.dI.getD (i+1) []=u.dI[i+1]:=au g;rw[e]at G2;exact G2
     rw[ab5<|by rw[abL];exact g];exact⟨by simp[jF],by simp[jF]⟩
    have R:jF m (oL sh u) ((u.dI.map bV).drop i)=DS (lP (jF m (oL sh u)<|(u.dI.map bV).drop<|i+1)<|oL sh u) (aaa (bV u.dI[i]) m):=by rw[abO<|by rw[abL];exact hi,aei];rfl
    have H1:=sN (bV u.dI[i]) m E;rw[fZ M2]at H1;have P0:(aaa (bV u.dI[i]) m).length<=1:=by unfold aaa;split<;>simp
    rw[e1];refine qp W<|bH W (oS (jF m (oL sh u)<|(u.dI.map bV).drop<|i+1) (oL sh u) (V:=m+1) (K:=K) (L:=K) (M:=K) hT.1 hX.1 N E (by unfold oL kJ;omega) E hK E) W ?_;refine qp W<|cd W (by rw[ei,H];rfl) H1 W ?_;refine qp W<|bH W (mc (lP (jF m (oL sh u)<|(u.dI.map bV).drop<|i+1)<|oL sh u) (aaa (bV u.dI[i]) m) (V:=m+1) (K:=K) J (by have:=N.norm.2;unfold lP;omega) hK) W ?_;refine II W<|again i E E ⟨G,G,G,G,G,G,G,G,G,G,G,⟨W,ar.of_eq<|congrArg (di false) R.symm⟩,G,U⟩
   have:j=0:=E;subst this;rw[acL];refine II W<|vf (k+1) E E ⟨⟨W,W,.le<|ar.refl _⟩,⟨W,W,.le<|ar.refl _⟩,⟨W,W,.le<|ar.refl _⟩,⟨W,W,.row ?_⟩,⟨W,W,.le<|ar.refl _⟩,⟨W,W,.le<|ar.refl _⟩,⟨W,W,.le<|ar.refl _⟩,⟨W,W,.le<|ar.refl _⟩,⟨W,W,.le<|ar.refl _⟩,U⟩;rw[a,ade];exact o6.refl _
  have X:¬u.kind=dy:=X;rw[if_neg X]at a;refine qp W<|again (k+1) E E ⟨G,G,G,⟨W,ar.of_eq<|congrArg (n5 true) a.symm⟩,G,G,G,G,G,U⟩
 have:k=(az p.aa).length:=E;subst this;have A:=kG p.aa n m (az p.aa).length;have Z:=hR.sh _<|abq _;have E1:=hR.Zr;have K2:=hR.rt;have G1:iO p.aa n m (az p.aa).length=za p.aa n m:=W;rw[G1]at A Z⊢;refine bM W (λk:Nat=>[(1,.box true<|bh p),(2,.box true<|.agg [.nil,.nil,.nil]),(5,n5 true<|za p.aa n m),(7,.box true<|zQ ⟨kO p.aa p.aa.length,iZ p.aa n m k,kD p.aa p.aa.length⟩),(8,.ints .i64 true<|uM p.aa p.aa.length),(11,.ints .i64 true<|az p.aa),(21,.i k)])
  (λk=>k<=(az p.aa).length) (λk=>(az p.aa).length-k) 0 (aaM _) ⟨G,G,G,G,G,G,G,U⟩ ?_
 intro k hk;refine bQ W W ?_ ?_<;>intro h1
 ·have c:k<(az p.aa).length:=E;have ek:(k:Int).toNat=k:=E;have F:(az p.aa).getD k 0=(az p.aa)[k]:=au c;obtain⟨o1,o2⟩:=gC _<|abw c;have a:=Bo (n:=n) (m:=m) c;have E2:=E1 k c;have V0:=K2 k hk;have L0:=sY p.aa n m k;obtain⟨o,eo⟩:∃o,(az p.aa)[k]=o:=⟨_,W⟩;rw[eo]at F o1 o2 a E2;have v:p.aa.getD o.toNat default∈p.aa:=bw E;unfold ow at a;have G3:(p.aa.getD o.toNat default).kind=bq->jL p.aa o.toNat<m:=by
   intro g;have b:=tz (us:=p.aa) (i:=o.toNat) E;rw[au<|show o.toNat<p.aa.length from E]at g;rw[if_pos g]at b;have:=G6<|o.toNat+1;omega
  have S:(uM p.aa p.aa.length).getD o.toNat 0=(jL p.aa o.toNat:Int):=by rw[uM,abx,adb,ae5 E];rfl
  have F0:(uM p.aa p.aa.length).length=p.aa.length:=by simp[uM]
  obtain⟨u,eu⟩:∃u,p.aa.getD o.toNat default=u:=⟨_,W⟩;rw[eu]at v a E2 G3;have hu:=hv _ v;have F3:=hu.out;refine II W ?_;rw[ek,F,eu];generalize iZ p.aa n m k=B0 at*;generalize za p.aa n m=sh at*;have C:∀f∈u.ah,(∀t∈sh.getD f.sh.toNat [],Di (m+1) K t)/\(sh.getD f.sh.toNat []).length<2^30:=λf Y=>by have:=hu.feed f Y;exact Z _<|bw (d:=[]) E
  refine gg W ?_ ?_<;>intro b
  ·have b:u.kind=bq:=b;rw[if_pos b]at a;have z:=E2 b;have S1:=G3 b;have hf2:=(hu.int b).1;have P:Int.toNat 0=0:=W;have F2:Int.toNat 1=1:=W;have D:u.ah.getD 0 default∈u.ah:=bw E;have O:=hu.feed _ D;have A0:u.ah.getD 1 default∈u.ah:=bw E;have F1:=hu.feed _ A0;obtain⟨g1,g2⟩:=C _ D;obtain⟨g3,g4⟩:=C _ A0;have l:=gi (bV (u.ah.getD 0 default).dZ) (bV (u.ah.getD 1 default).dZ) (fi O.2.2.1) (fi F1.2.2.1) E;rw[fZ O.2.2.1,fZ F1.2.2.1]at l;have hm0:(jL p.aa o.toNat:Int).toNat=jL p.aa o.toNat:=E;refine II W ?_;rw[P,F2];refine bH W l W<|k1 W aW (by simp only[ag,and_true,P,F2,ek,F,S,F0,A,L0]<;>omega) ?_;rw[ek,F,P,F2,S];refine cqd W W (Va B0 (sh.getD (u.ah.getD 1 default).sh.toNat []) (V:=m+1) (K:=K) (L:=K) g3 E z.al E E E hK E) W<|qp W<|bH W (oS (sh.getD (u.ah.getD 0 default).sh.toNat []) (mO B0<|sh.getD (u.ah.getD 1 default).sh.toNat []) (V:=m+1) (K:=K) (L:=K) (M:=K) g1 z.along.1 z.mul E (by have:=z.along.2;omega) E hK E) W ?_;refine qp W<|bH W (mF (bV (u.ah.getD 0 default).dZ*bV (u.ah.getD 1 default).dZ) (lP (sh.getD (u.ah.getD 0 default).sh.toNat [])<|mO B0<|sh.getD (u.ah.getD 1 default).sh.toNat []) (V:=m+1) (K:=K) (L:=134) ((fi O.2.2.1).mul<|fi F1.2.2.1) z.mul.norm.1 z.Vj (by have:=z.mul.norm.2;unfold lP;omega) hK E) W ?_;refine II W<|vf (k+1) E E ⟨⟨W,W,.le<|ar.refl _⟩,⟨W,W,.le<|ar.refl _⟩,⟨W,W,.le<|ar.refl _⟩,⟨W,W,.box<|.agg<|.cons (.le<|ar.refl _)<|.cons (.row ?_)<|.cons (.le<|ar.refl _) .nil⟩,⟨W,W,.le<|ar.refl _⟩,⟨W,W,.le<|ar.refl _⟩,⟨W,W,.le<|ar.refl _⟩,U⟩;dsimp only;rw[a,ade];exact o6.refl _
  have b:¬u.kind=bq:=b;rw[if_neg b]at a;refine qp W<|again (k+1) E E ⟨G,G,G,⟨W,ar.of_eq<|congrArg (λr=>SV.box true<|zQ ⟨kO p.aa p.aa.length,r,kD p.aa p.aa.length⟩) a.symm⟩,G,G,G,U⟩
 have:k=(az p.aa).length:=E;subst this;refine bN W W
end Go.Ai
section
namespace Go.Ai
open Go.Proofs Go.RowKit
def tB{p q:Rat}:CV p q<=0↔p<=q:=by
 have a:(p-q).num<=0↔0<=(-(p-q)).num:=by rw[aee];omega
 unfold CV;rw[Int.sign_nonpos_iff,a,adJ];constructor<;>grind
def HU(q:Rat)(n m:Nat):q^(n+m)=q^n*q^m:=by
 induction m with
 |zero=>rw[aej];grind
 |succ m a=>rw[aek];grind
def Sz.pow{q:Rat}{K:Nat}(h:Sz q K):∀n,Sz (q^n) (K*n+1)
 |0=>by exact⟨by simp[iG],by simp[iG]⟩
 |n+1=>by have:=(Sz.pow h n).mul h;rw[aek];exact this.mono (by rw[Nat.mul_succ];omega)
def Ei(q:Rat)(n:Nat){K:Nat}(h:Sz q K)(hn:n<2^40)(u:2*(K*(2*n)+1)<2^34):aM Tryz.prog 89 [.s<|qt q,.i n] (.s<|qt<|q^n):=by
 refine bS Tryz.func89 W<|bQ W W (λj=>absurd j E) λ_=>?_;refine r0 W<|oB (λ(k d e:Nat)=>[(0,.s<|qt<|q^d),(1,.i k),(5,.s<|qt<|q^e)]) (λk d e=>k<=n/\e+d*k=n/\(k=0\/d<=n)) (λk _ _=>k) n 1 0 ⟨abq _,E,E⟩
  ⟨⟨W,ar.of_eq<|congrArg SV.s<|by rw[aek,aej,Rat.one_mul]⟩,G,⟨W,ar.of_eq<|congrArg SV.s<|by rw[aej,KH]⟩,U⟩ ?_
 rintro k d e⟨r,he,t⟩;refine bQ W W ?_ ?_<;>intro j
 ·have v:0<k:=E;have p:K*d+1<=K*(2*n)+1:=adv (acx _ E) 1;have o:K*e+1<=K*(2*n)+1:=adv (acx _ E) 1;have b:=(h.pow d).mono p;have m:=(h.pow e).mono o;have f:k=2*(k/2)+k%2:=E;have c:d*k=2*d*(k/2)+d*(k%2):=by
   conv=>lhs;rw[f,ael]
   rw[abS 2 d,ach]
  have l:q^d*q^d=q^(2*d):=by rw[<-HU];congr 1;omega
  refine r1 W a7<|gg W ?_ ?_<;>intro a
  ·have a:k%2=1:=by
    have a:(k:Int).tmod 2=1:=a;have:(k:Int).tmod 2=((k%2:Nat):Int):=W;omega
   rw[a,Nat.mul_one]at c;refine bP W W (gi (q^e) (q^d) m b E) W<|bP W W (gi (q^d) (q^d) b b E) W<|r1 W a7<|again (k/2,2*d,e+d) (by dsimp only;omega) ⟨by dsimp only;omega,by dsimp only;omega,?_⟩ ⟨⟨W,ar.of_eq<|congrArg SV.s<|by rw[l]⟩,G,⟨W,ar.of_eq<|congrArg SV.s<|by rw[HU]⟩,U⟩;dsimp only;rcases ace (k/2)with g|g
   ·exact .inl g
   have:2*d<=2*d*(k/2):=afz _ g;exact .inr E
  have a:k%2=0:=by have a:¬(k:Int).tmod 2=1:=a;have:(k:Int).tmod 2=((k%2:Nat):Int):=W;omega
  rw[a,Nat.mul_zero]at c;refine bP W W (gi (q^d) (q^d) b b E) W<|r1 W a7<|again (k/2,2*d,e) (by dsimp only;omega) ⟨by dsimp only;omega,by dsimp only;omega,?_⟩ ⟨⟨W,ar.of_eq<|congrArg SV.s<|by rw[l]⟩,G,G,U⟩;dsimp only;rcases ace (k/2)with g|g
  ·exact .inl g
  have:2*d<=2*d*(k/2):=afz _ g;exact .inr E
 have:k=0:=E;subst this;refine bK W W<|ar.of_eq<|congrArg SV.s<|by rw[show e=n from E]
def iK(n:Int):Rat:=if n<0 then((2:Rat)^(-n).toNat)⁻¹ else(2:Rat)^n.toNat
def two_pos:(0:Rat)<2:=fh
def vR(n:Nat):(0:Rat)<(2:Rat)^n:=by
 induction n with
 |zero=>rw[aej];decide
 |succ n a=>rw[aek];exact Rat.mul_pos a two_pos
def s8(n:Int):0<iK n:=by
 unfold iK;split
 ·exact aeE.2<|vR _
 exact vR _
def QA(n:Int):iK (n+1)=iK n*2:=by
 unfold iK;rcases aeb n (-1)with h|h|h
 ·rw[show(-n).toNat=(-(n+1)).toNat+1 from E]
  grind
 ·subst h;have a:(-(-1:Int)).toNat=0+1:=W;rw[a];grind
 rw[if_neg E,if_neg E,show(n+1).toNat=n.toNat+1 from E,aek]
def kd(n:Int)(k:Nat):iK (n+k)=iK n*(2:Rat)^k:=by
 induction k with
 |zero=>rw[aej];simp
 |succ k a=>rw[show n+((k+1:Nat):Int)=n+k+1 from E,QA];grind
def Ic(n:Nat):(1:Rat)<=(2:Rat)^n:=by
 induction n with
 |zero=>rw[aej];simp_all
 |succ n a=>rw[aek];grind
def nM{m n:Int}(h:m<=n):iK m<=iK n:=by
 obtain⟨k,rfl⟩:∃k:Nat,n=m+k:=⟨(n-m).toNat,E⟩;rw[kd];have b:=Ic k;have a:=s8 m;have:=adw b<|acq a
 grind
def o4(a:Rat)(e:Int):Prop:=iK e<=a/\¬iK (e+1)<=a
def Dt{a:Rat}{e f:Int}(h:o4 a e)(g:o4 a f):e=f:=by
 rcases aeb e f with k|k|k
 ·exact absurd (ac7 (nM E) g.1) h.2
 ·exact k
 exact absurd (ac7 (nM E) h.1) g.2
open Classical in
noncomputable def wI(a:Rat):Int:=if h:∃e,o4 a e then h.choose else 0
def jJ{a:Rat}{e:Int}(h:o4 a e):wI a=e:=by unfold wI;rw[dif_pos ⟨e,h⟩];exact Dt (Exists.choose_spec (⟨e,h⟩:∃e,o4 a e)) h
def Bb:Sz 2 1:=⟨by rw[show(2:Rat).num.natAbs=2 from W,mz (f:=2) fh fh];decide,by rw[show(2:Rat).den=1 from W,iG];decide⟩
def Sz.iK(n:Int):Sz (iK n) (n.natAbs+2):=by
 unfold Go.Ai.iK;split
 ·have:=(Bb.pow (-n).toNat).inv;exact this.mono E
 exact(Bb.pow n.toNat).mono E
def Qw:qt 2=[50]:=by have:=nL 2;rw[show((2:Int):Rat)=2 from W]at this;rw[this];unfold cK;rw[cC fh];show decl 0 0++[RU 2]=[50];rw[dp];decide
def rU(n:Int)(h:n.natAbs<2^30):aM Tryz.prog 29 [.i n] (.s<|qt<|iK n):=by
 refine bS Tryz.func29 W<|bQ W W ?_ ?_<;>intro b
 ·have e:(0:Int)-n=((-n).toNat:Nat):=E;have a:=Ei 2 (-n).toNat Bb E E;rw[Qw]at a;refine r1 W aX<|cl W (by rw[e];rfl) a W ?_;refine bG W (pq ((2:Rat)^(-n).toNat) (Bb.pow _) E (by have:=vR (-n).toNat;grind)) W ?_;refine bK W W<|ar.of_eq<|congrArg SV.s<|by unfold iK;rw[if_pos b]
 have e:n=(n.toNat:Nat):=E;have a:=Ei 2 n.toNat Bb E E;rw[Qw]at a;refine r0 W<|JJ (us:=[.s [50],.i (n.toNat:Nat)]) W W U ⟨W,congrArg SV.i e,U⟩ a W<|bK W W<|ar.of_eq<|congrArg SV.s<|by unfold iK;rw[if_neg b]
def KF{q:Rat}(h:0<q):q<=(q.num:Rat):=by
 have b:q*(q.den:Rat)=(q.num:Rat):=by
  have:=Rat.num_divInt_den q;rw[ae0,aeg]at this
  grind
 have a:(1:Rat)<=(q.den:Rat):=by
  have:=q.den_nz;have:1<=q.den:=E
  exact_mod_cast this
 have:=adw a<|acq h
 grind
def Lx{n k:Nat}(h:(ae n).length<=k):n<2^(30*k):=by
 have c:=cw n;have d:(1000000000:Nat)^(ae n).length<=1000000000^k:=acp fh h;have b:(n:Int)<((1000000000^(ae n).length:Nat):Int):=by rw[ae6];exact c
 have a:(1000000000:Nat)^k<=(2^30)^k:=afA fh k;rw[<-aeW]at a;omega
def qB{q:Rat}{K:Nat}(h:0<q)(hs:Sz q K):q<iK ((30*K:Nat):Int):=by
 have e:=KF h;have f:=adJ.2<|acq h;have a:=Lx hs.1;have d:(q.num:Rat)=((q.num.natAbs:Nat):Rat):=by rw[<-aeg];congr 1;omega
 have c:((q.num.natAbs:Nat):Rat)<((2^(30*K):Nat):Rat):=by exact_mod_cast a
 have b:iK ((30*K:Nat):Int)=(2:Rat)^(30*K):=by unfold iK;rw[if_neg E];rfl
 grind
def Uk(n:Int):(iK n)⁻¹ =iK (-n):=by
 unfold iK;rcases aeb n 0 with h|h|h
 ·rw[if_pos h,if_neg E,Rat.inv_inv]
 ·subst h;rw[if_neg fh];show((2:Rat)^0)⁻¹ =(2:Rat)^0;rw[aej];grind
 rw[if_neg E,if_pos E,Int.neg_neg]
def vP{q:Rat}{K:Nat}(h:0<q)(hs:Sz q K):iK (-((30*(K+1):Nat):Int))<q:=by
 have j:=qB (aeE.2 h) hs.inv;rw[<-Uk];have i:=s8 ((30*(K+1):Nat):Int);have g:=Rat.mul_inv_cancel q (by grind);have f:iK ((30*(K+1):Nat):Int)*(iK ((30*(K+1):Nat):Int))⁻¹ =1:=Rat.mul_inv_cancel _ (by grind);have e:=aeE.2 i;generalize iK ((30*(K+1):Nat):Int)=x at*;generalize x⁻¹ =y at*;generalize q⁻¹ =r at*;have d:=Rat.mul_pos e h;have a:=Rat.mul_lt_mul_of_pos_left j d;have c:(y*q)*r=y:=by rw[ae7,g,Rat.mul_one]
 have b:(y*q)*x=q:=by rw[adx y q,ae7,adx y x,f,Rat.mul_one]
 rw[c,b]at a;exact a
def Ji{q:Rat}{K:Nat}{e:Int}(h:0<q)(hs:Sz q K)(he:o4 q e): -(30*(K+1:Int))-1<=e/\e<=30*K:=by
 have b:=qB h hs;have a:=vP h hs;obtain⟨g1,g2⟩:=he;constructor
 ·rcases Decidable.em (e+1< -((30*(K+1):Nat):Int))with g|g
  ·exact absurd (ac7 (nM<|aca g)<|acq a) g2
  omega
 rcases Decidable.em (((30*K:Nat):Int)<e)with g|g
 ·have:=nM (aca g);exact absurd (ac7 this g1)<|ae8.2 b
 omega
def sC(a:Rat){K:Nat}(j:0<a)(hs:Sz a K)(u:K<2^20):(∃e,o4 a e)/\aM Tryz.prog 235 [.s<|qt a] (.i<|wI a):=by
 have r:=qB j hs;have k:=vP j hs;have c:∀e:Int,iK e<=a->e<30*K:=by
  intro e he;rcases Decidable.em (e<30*K)with g|g
  ·exact g
  exact absurd (ac7 (nM<|show((30*K:Nat):Int)<=e from E) he)<|ae8.2 r
 have f:∀e:Int,¬iK e<=a-> -((30*(K+1):Nat):Int)<e:=by
  intro e he;rcases Decidable.em (-((30*(K+1):Nat):Int)<e)with g|g
  ·exact g
  exact absurd (ac7 (nM E)<|acq k) he
 have d:∃e,o4 a e:=by
  have:∀(n:Nat)(e:Int),iK e<=a->30*(K:Int)-e<=n->∃e,o4 a e:=by
   intro n
   induction n with
   |zero=>intro e he hn;exact absurd (c e he) E
   |succ n l=>
    intro e he hn;by_cases g:iK (e+1)<=a
    ·exact l (e+1) g E
    exact⟨e,he,g⟩
  exact this (30*(K:Int)+((30*(K+1):Nat):Int)).toNat _ (acq k) E
 refine⟨d,?_⟩;obtain⟨b,o⟩:=d;have m:=jJ o;refine bS Tryz.func235 W<|CP 3 (λe:Int=>[(0,.s<|qt a),(3,.i e)]) (λe=>0<=e/\e<=30*K/\¬iK e<=a) ?_ ?_
 ·refine bM W (λe:Nat=>[(0,.s<|qt a),(3,.i e)]) (λe=>(e:Int)<=30*K) (λe=>30*K-e) 0 E ⟨G,G,U⟩ ?_;intro e he;refine bP W W (rU e E) W<|bP W W (tA (iK e) a (Sz.iK e) hs E) W<|bQ W W ?_ ?_<;>intro h
  ·have h:=c _ (tB.1 h);refine r1 W a7<|again (e+1) E E ⟨G,G,U⟩
  have h:¬iK e<=a:=λg=>h<|tB.2 g;refine r0 W<|meet (e:Int) ⟨E,he,h⟩ ⟨G,G,U⟩
 rintro t⟨v,q,p⟩;refine bM W (λe:Int=>[(0,.s<|qt a),(3,.i e)]) (λe=>¬iK (e+1)<=a/\e<=30*K/\ -((30*(K+1):Nat):Int)<=e) (λe=>(e+((30*(K+1):Nat):Int)).toNat) t
  ⟨λg=>p<|ac7 (nM E) g,q,E⟩ ⟨G,G,U⟩ ?_
 rintro e⟨g1,g2,w⟩;refine bP W W (rU e E) W<|bP W W (tA (iK e) a (Sz.iK e) hs E) W<|bQ W W ?_ ?_<;>intro h
 ·have h:¬iK e<=a:=λg=>by have:=tB.2 g;omega
  have:=f e h;refine r1 W a7<|again (e-1) E ⟨by rw[show e-1+1=e from E];exact h,E,E⟩ ⟨G,G,U⟩
 have h:iK e<=a:=tB.1 E;refine bK W W<|bR<|(jJ ⟨h,g1⟩).symm
end Go.Ai
end
namespace Go.Ai
open Go.Proofs Go.RowKit
section
variable{n:Int}{K:Nat}{p q:Rat}{s:fD}
def oI(q:Rat):0<=mD q:=by
 unfold mD;split
 ·rename_i h;have:0<=(-q).num:=by rw[aee];omega
  exact adJ.1 this
 simp_all
def Sz.mD(h:Sz q K):Sz (mD q) K:=by
 unfold Go.Ai.mD;split
 ·exact h.neg
 exact h
def Sz.An(h:Sz p K)(g:Sz q K):Sz (An p q) K:=by
 unfold Go.Ai.An;split
 ·exact h
 exact g
def Iw(h:0<=p)(g:0<=q):0<=An p q:=by
 unfold An;split
 ·exact h
 exact g
noncomputable def mK(a:Rat)(dH:Int):Int:=if a=0 then 40 else min 40 (wI<|iK dH/a)
def BZ{a:Rat}(h:0<=a)(b:a≠0)(dH:Int):0<iK dH/a:=by
 refine Rat.mul_pos (s8 _)<|aeE.2 ?_
 grind
def zD(a:Rat)(dH:Int)(h:0<=a)(hs:Sz a K)(hm:0<=dH/\dH<=40)(d:K<=1000):aM Tryz.prog 146 [.s<|qt a,.i dH] (.i<|mK a dH)/\ -40000<=mK a dH/\mK a dH<=40:=by
 have c:a≠0->Sz (iK dH/a) (42+K+1):=λf=>((Sz.iK dH).mono E).div hs;constructor
 ·refine bS Tryz.func146 W<|bP W W (mY a) W<|ni W W W ?_ ?_<;>intro b
  ·have b:a=0:=by simpa using b
   refine bK W W<|ar.of_eq<|congrArg SV.i<|by unfold mK;rw[if_pos b]
  have b:¬a=0:=by simpa using b
  refine bP W W (rU dH E) W<|bP W W (O5 (iK dH) a (Sz.iK dH) hs E b) W<|bG W (sC (iK dH/a) (BZ h b dH) (c b) E).2 W<|bK W W<|bR ?_;unfold mK;rw[if_neg b];rfl
 unfold mK;split
 ·omega
 rename_i b;obtain⟨e,he⟩:=(sC (iK dH/a) (BZ h b dH) (c b) E).1;have:=Ji (BZ h b dH) (c b) he;rw[jJ he];omega
def XI(s:fD):Prop:=aL s.lo=0/\aL s.hi=0
noncomputable def Gm(s:fD):Rat:=An (mD<|bV s.lo)<|mD<|bV s.hi
def K6(h:XI s):Sz (Gm s) 67:=(fi h.1).mD.An (fi h.2).mD
def uQ(s:fD):0<=Gm s:=Iw (oI _)<|oI _
def uc(s:fD)(h:XI s):aM Tryz.prog 37 [dX s] (.s<|qt<|Gm s):=by have b:=pV (bV s.lo)<|(fi h.1).tQ fh;have a:=pV (bV s.hi)<|(fi h.2).tQ fh;rw[fZ h.1]at b;rw[fZ h.2]at a;refine bS Tryz.func37 W<|bO W W b W<|bO W W a W<|bH W (KY (mD<|bV s.lo) (mD<|bV s.hi) (fi h.1).mD (fi h.2).mD fh) W<|k0 W aW<|bF W
structure fE where
 c:Int
 d:Int
 s:Int
 g:Int
def dz(b:fE):SV:=.agg [.i b.c,.i b.d,.i b.s,.i b.g]
def qT(b:fE):List Int:=[b.c,b.d,b.s,b.g]
def od(b:fE):Int:=aK (λx:Int=>if x<0\/40<x then 3 else 0)<|qT b
structure J9(b:fE):Prop where
 c:0<=b.c/\b.c<=40
 d:0<=b.d/\b.d<=40
 s:0<=b.s/\b.s<=40
 g:0<=b.g/\b.g<=40
def Ab{b:fE}:od b=0↔J9 b:=by
 unfold od qT;rw[dK];have f:∀x:Int,(if x<0\/40<x then(3:Int)else 0)=0↔0<=x/\x<=40:=by intro x;split<;>omega
 simp;exact⟨λ⟨e,d,c,a⟩=>⟨e,d,c,a⟩,λ⟨e,d,c,a⟩=>⟨e,d,c,a⟩⟩
def yz(b:fE):aM Tryz.prog 46 [dz b] (.i<|od b):=by
 refine bS Tryz.func46 W<|bM W (λi:Nat=>[(3,.ints .i64 true<|qT b),(4,.i i)]) (λi=>i<=(qT b).length/\od b=aK (λx:Int=>if x<0\/40<x then 3 else 0) ((qT b).drop i)) (λi=>(qT b).length-i) 0 ⟨aaM _,W⟩ ⟨G,G,U⟩ ?_;rintro i⟨hi,a⟩;have l:(qT b).length=4:=W;refine bQ W W ?_ ?_<;>intro k
 ·have c:i<(qT b).length:=E;have d:(i:Int).toNat=i:=E;have j:(qT b).getD i 0=(qT b)[i]:=au c;rw[dA _ c]at a;refine r1 W (by simp[ag,and_true,d]<;>omega) ?_;rw[d,j];generalize (qT b)[i]=x at*;refine aC 25 W ?_ ?_<;>intro h
  ·have e:(if x<0\/40<x then(3:Int)else 0)=3:=if_pos (.inl h);simp[e]at a;refine bK W W<|ar.of_eq<|congrArg SV.i a.symm
  refine r1 W (by simp[ag,and_true,d]<;>omega) ?_;rw[d,j];refine gg W ?_ ?_<;>intro f
  ·have e:(if x<0\/40<x then(3:Int)else 0)=3:=if_pos (.inr f);simp[e]at a;refine bK W W<|ar.of_eq<|congrArg SV.i a.symm
  have e:(if x<0\/40<x then(3:Int)else 0)=0:=if_neg (by rintro(g|g)<;>contradiction);simp[e]at a;refine r1 W a7<|again (i+1) E ⟨E,a⟩ ⟨G,G,U⟩
 refine bK W W<|bR ?_;rw[a,ab5 E];rfl
noncomputable def jR(n:Int)(rs:List fD):Int:=if(rs.length:Int)≠n then 2 else aK iz rs
def wX(p:gV)(rs:List fD)(b:∀s∈rs,ct s.lo/\ct s.hi)(hl:rs.length<2^40):aM Tryz.prog 34 [bh p,.bA false 2 default dX rs] (.i<|jR p.n rs):=by
 refine bS Tryz.func34 W<|bQ W W ?_ ?_<;>intro a
 ·have a:=a;refine bK W W<|ar.of_eq<|congrArg SV.i<|by unfold jR;rw[if_pos a]
 have a:=a;refine bP W W (CY rs b E) W<|bK W W<|ar.of_eq<|congrArg SV.i<|by unfold jR;rw[if_neg a]
def yW(h:iz s=0):XI s:=by
 unfold iz at h;split at h
 ·contradiction
 rename_i b;split at h
 ·contradiction
 rename_i a;exact⟨by simpa using b,by simpa using a⟩
structure Vc(n:Int)(rs:List fD):Prop where
 len:(rs.length:Int)=n
 val:∀s∈rs,XI s
def FP{rs:List fD}(h:jR n rs=0):Vc n rs:=by
 unfold jR at h;split at h
 ·cases h
 rename_i a;exact⟨by simpa using a,λs hs=>yW<|dK.1 h s hs⟩
noncomputable def Px(rs:List fD)(b:fE)(s:Nat):Int:=mK (Gm<|rs.getD s default) b.s
def xC(rs:List fD)(b:fE)(s:Nat)(hs:s<rs.length)(hl:rs.length<2^40)(c:∀x∈rs,XI x)(e:J9 b):
 aM Tryz.prog 70 [.bA false 2 default dX rs,dz b,.i s] (.i<|Px rs b s)/\ -40000<=Px rs b s/\Px rs b s<=40:=by
 have hm:=c _<|bw (d:=default) hs;have a:=zD (Gm<|rs.getD s default) b.s (uQ _) (K6 hm) e.s fh;refine⟨?_,a.2⟩;have f:(s:Int).toNat=s:=E;refine bS Tryz.func70 W<|r1 W aX<|cd W (by rw[f];rfl) (uc (rs.getD s default) hm) W ?_;refine bO W W a.1 W<|k0 W aW<|bF W
noncomputable def IT(rs:List fD)(f:Hi):Rat:=mD<|bV f.dZ*Gm (rs.getD f.sh.toNat default)
noncomputable def tM(rs:List fD)(b:fE)(u:bT)(i:Nat):Int:=mK (IT rs<|u.ah.getD i default)<|if u.kind=bq/\i=0 then b.d else b.s
def jo(rs:List fD)(b:fE)(u:bT)(i:Nat)(hu:iQ n u)(hi:i<u.ah.length)(l:Vc n rs)(hl:rs.length<2^40)(v:u.ah.length<2^40)(f:J9 b):
 aM Tryz.prog 71 [.bA false 2 default dX rs,dz b,dQ u,.i i] (.i<|tM rs b u i)/\ -40000<=tM rs b u i/\tM rs b u i<=40:=by
 have k:=hu.feed _<|bw (d:=default) hi;have t:=l.len;have hm:=l.val _<|bw (d:=default)<|show(u.ah.getD i default).sh.toNat<rs.length from E;have c:Sz (bV (u.ah.getD i default).dZ*Gm (rs.getD (u.ah.getD i default).sh.toNat default)) (67+67):=(fi k.2.2.1).mul<|K6 hm;have w:0<=IT rs (u.ah.getD i default):=oI _;have hs:Sz (IT rs<|u.ah.getD i default) (67+67):=c.mD;have a:=gi (bV (u.ah.getD i default).dZ) (Gm<|rs.getD (u.ah.getD i default).sh.toNat default) (fi k.2.2.1) (K6 hm) fh;rw[fZ k.2.2.1]at a;have j:∀m:Int,0<=m/\m<=40->aM Tryz.prog 146 [.s<|qt<|IT rs<|u.ah.getD i default,.i m] (.i<|mK (IT rs<|u.ah.getD i default) m)/\ -40000<=mK (IT rs<|u.ah.getD i default) m/\mK (IT rs<|u.ah.getD i default) m<=40:=λm hm=>zD (IT rs<|u.ah.getD i default) m w hs hm fh;have e:0<=(if u.kind=bq/\i=0 then b.d else b.s)/\(if u.kind=bq/\i=0 then b.d else b.s)<=40:=by split;exact f.d;exact f.s
 refine⟨?_,(j _ e).2⟩;have r:(i:Int).toNat=i:=E;refine bS Tryz.func71 W<|r1 W (by simp only[ag,and_true,r]<;>omega) ?_;refine bH W (uc (rs.getD (u.ah.getD i default).sh.toNat default) hm) W<|r1 W (by simp[ag,and_true,r]<;>omega) ?_;refine bH W a W<|bO W W (pV (bV (u.ah.getD i default).dZ*Gm (rs.getD (u.ah.getD i default).sh.toNat default))<|c.tQ fh) W<|k0 W aW<|aC 31 W ?_ ?_<;>intro h
 ·have h:u.kind=bq:=h;refine bQ W W ?_ ?_<;>intro o
  ·have hc:u.kind=bq/\i=0:=⟨h,E⟩;refine bP W W (j b.d f.d).1 W<|bK W W<|ar.of_eq<|congrArg SV.i<|by unfold tM;rw[if_pos hc]
  have hc:¬(u.kind=bq/\i=0):=λg=>o E;refine bP W W (j b.s f.s).1 W<|bK W W<|ar.of_eq<|congrArg SV.i<|by unfold tM;rw[if_neg hc]
 have hc:¬(u.kind=bq/\i=0):=λg=>h g.1;refine bP W W (j b.s f.s).1 W<|bK W W<|ar.of_eq<|congrArg SV.i<|by unfold tM;rw[if_neg hc]
end
structure iV where
 less:Int
 qf:Int
 dH:Int
 deriving Inhabited
def iU(c:iV):SV:=.agg [.i c.less,.i c.qf,.i c.dH]
noncomputable def yw(rs:List fD)(b:fE)(s:Nat):List iV:=[⟨s,-1,Px rs b s⟩,⟨-1,s,40⟩]
noncomputable def CU(rs:List fD)(b:fE)(u:bT):List iV:=
 [⟨-1,-1,tM rs b u 0+40⟩,⟨(u.ah.getD 0 default).sh,-1,tM rs b u 0+b.g⟩,⟨-1,(u.ah.getD 0 default).sh,b.g-tM rs b u 0⟩,⟨u.out,-1,tM rs b u 1+tM rs b u 0-b.c⟩,
  ⟨-1,u.out,40+b.c-tM rs b u 0⟩,⟨u.out,(u.ah.getD 1 default).sh,b.g+tM rs b u 0-b.c⟩,⟨(u.ah.getD 1 default).sh,u.out,b.g-tM rs b u 0+b.c⟩]
noncomputable def qR(rs:List fD)(b:fE)(u:bT)(k:Nat):List iV:=[⟨u.out,-1,tM rs b u k⟩,⟨u.out,(u.ah.getD k default).sh,b.g⟩,⟨(u.ah.getD k default).sh,u.out,b.g⟩]
noncomputable def GS(n:Int)(rs:List fD)(b:fE)(u:bT):List iV:=[⟨n,-1,tM rs b u 0⟩,⟨-1,n,40⟩,⟨n,(u.ah.getD 0 default).sh,b.g⟩,⟨(u.ah.getD 0 default).sh,n,b.g⟩]
noncomputable def ry(n:Int)(rs:List fD)(b:fE)(u:bT):List iV:=if u.kind=bq then CU rs b u else if u.kind=jz then(List.range u.ah.length).flatMap (qR rs b u)else if u.kind=dy then GS n rs b u else[]
def eR(us:List bT)(i:Nat):Nat:=(us.take i).countP λu=>decide (u.kind=dy)
def kp{us:List bT}{i:Nat}(h:i<us.length):eR us (i+1)=eR us i+if us[i].kind=dy then 1 else 0:=by unfold eR;rw[abR h,aeh];by_cases g:us[i].kind=dy<;>simp
def qQ(us:List bT)(i:Nat):eR us i<=i:=abI adU (by simp;omega)
noncomputable def kZ(rs:List fD)(b:fE)(s:Nat):List iV:=(List.range s).flatMap<|yw rs b
noncomputable def jM(n:Nat)(us:List bT)(rs:List fD)(b:fE)(i:Nat):List iV:=kZ rs b n++(List.range i).flatMap λj=>ry ((n+eR us j:Nat):Int) rs b<|us.getD j default
noncomputable def iv(n:Nat)(us:List bT)(rs:List fD)(b:fE):List iV:=jM n us rs b us.length
def iM{α:Type}(f:Nat->List α)(i:Nat):(List.range<|i+1).flatMap f=(List.range i).flatMap f++f i:=by rw[ad6];simp
def cS{α:Type}{f:Nat->List α}{c:Nat}(h:∀i,(f i).length<=c):∀n,((List.range n).flatMap f).length<=n*c
 |0=>I
 |n+1=>by have:=cS h n;have:=h n;rw[iM,abE,ae1];omega
def oa(n:Nat)(us:List bT)(rs:List fD)(b:fE)(i:Nat):jM n us rs b (i+1)=jM n us rs b i++ry ((n+eR us i:Nat):Int) rs b (us.getD i default):=by unfold jM;rw[iM,abG]
end Go.Ai
namespace Go.Ai.eE
section
variable{l:List Int}{m n:Nat}
def B9:Nat:=18446744073709551616
def ae(n:Nat):List Int:=if h:n=0 then[]else((n%B9:Nat):Int)::ae (n/B9)
 termination_by n
 decreasing_by exact ac5 (adf h) fh
def val:List Int->Int
 |[]=>0
 |d::l=>d+18446744073709551616*val l
def yt(l:List Int):Prop:=∀d∈l,0<=d/\d<18446744073709551616
def dm:ae 0=[]:=by rw[ae];simp
def ai(n:Nat):val (ae n)=n:=by
 induction n using Nat.strongRecOn with
 |_ n b=>
  rw[ae];split
  ·rename_i h;subst h;rfl
  rename_i h;have a:n/B9<n:=ac5 (adf h) fh;simp[val,b _ a];unfold B9;omega
def bx(n:Nat):yt (ae n):=by
 induction n using Nat.strongRecOn with
 |_ n c=>
  rw[ae];split
  ·intro d a;cases a
  rename_i h;have b:n/B9<n:=ac5 (adf h) fh;intro d a;rcases abz.1 a with rfl|a
  ·unfold B9;omega
  exact c _ b d a
def bm:∀{l:List Int},yt l->0<=val l
 |[],_=>by simp[val]
 |d::l,h=>by have c:=h d I;have b:=bm (l:=l) λx a=>h x (by simp[a]);simp[val];omega
def eO(l:List Int)(d:Int):val (l++[d])=val l+d*18446744073709551616^l.length:=by
 induction l with
 |nil=>simp[val]
 |cons x l a=>simp[val,a,abV];rw[aev];simp only[Int.add_assoc];congr 2;rw[<-abX,ab0 18446744073709551616,abX,ab0 18446744073709551616]
def ic:∀{l:List Int},yt l->val l<18446744073709551616^l.length
 |[],_=>by simp[val]
 |d::l,h=>by have c:=h d I;have b:=ic (l:=l) λx a=>h x (by simp[a]);simp[val];omega
def sJ:∀{l:List Int},yt l->l.getLast?≠some 0->ae (val l).toNat=l
 |[],_,_=>by simp[val,dm]
 |d::l,h,e=>by
  have p:=h d I;have hl:yt l:=λx f=>h x (by simp[f]);have o:=bm hl;have b:l.getLast?≠some 0:=by
   cases l with
   |nil=>simp
   |cons x l=>simpa using e
  have a:=sJ hl b;have c:(val<|d::l).toNat≠0:=by
   simp only[val];intro q;have i:d=0:=E;have g:val l=0:=E;cases l with
   |nil=>subst i;simp at e
   |cons x l=>rw[g]at a;simp[dm]at a
  rw[ae,dif_neg c];have k:(((val<|d::l).toNat%B9:Nat):Int)=d:=by simp[val];unfold B9;omega
  have j:(val<|d::l).toNat/B9=(val l).toNat:=by simp[val];unfold B9;omega
  rw[k,j,a]
def tw(h:yt l)(a:l.getLast?≠some 0)(b:val l=n):l=ae n:=by have:=sJ h a;rw[b]at this;simpa using this.symm
def pJ(n:Nat):(ae n).getLast?≠some 0:=by
 induction n using Nat.strongRecOn with
 |_ n c=>
  rw[ae];split
  ·simp
  rename_i h;have b:n/B9<n:=ac5 (adf h) fh;have:=c _ b;cases hl:ae (n/B9)with
  |nil=>intro he;have a:=ai<|n/B9;rw[hl]at a;simp[val]at a;simp at he;unfold B9 at he a;omega
  |cons x l=>rw[hl]at this;simpa using this
def aI(l:List Int)(i:Nat):val (l.take<|i+1)=val (l.take i)+l.getD i 0*18446744073709551616^i:=by
 by_cases h:i<l.length
 ·rw[abR h,eO];simp[abA h,acP<|ads h]
 rw[abB E,abB E];simp[aci<|show l.length<=i from E]
def bf(h:yt l)(i:Nat):0<=l.getD i 0/\l.getD i 0<18446744073709551616:=by
 by_cases hi:i<l.length
 ·have:=h l[i] (abw hi);simpa[abA hi]using this
 simp[aci<|show l.length<=i from E]
def dE(n:Nat):(0:Int)<18446744073709551616^n:=aew fh
def qF(h:yt l)(hl:l.getLast?≠some 0):l=[]\/18446744073709551616^(l.length-1)<=val l:=by
 rcases afG l with rfl|⟨l,d,rfl⟩
 ·exact .inl W
 right;rw[afH]at*;rw[eO];have e:=bm (l:=l) λx a=>h x (by simp[a]);have c:=h d I;simp at hl;simp;have b:=dE l.length;have:1*18446744073709551616^l.length<=d*18446744073709551616^l.length:=ac6 E E;omega
def gw(n:Nat):ae n=[]\/(18446744073709551616:Int)^((ae n).length-1)<=n:=by have:=qF (bx n)<|pJ n;rwa[ai]at this
def cW:List Int->List Int
 |[]=>[]
 |d::l=>match cW l with
  |[]=>if d=0 then[]else[d]
  |x::r=>d::x::r
def mg:∀l:List Int,cW (l++[0])=cW l
 |[]=>by simp[cW]
 |d::l=>by simp[cW,mg l]
def nD:∀{l:List Int},l.getLast?≠some 0->cW l=l
 |[],_=>rfl
 |[d],h=>by simp at h;simp[cW,h]
 |d::x::l,h=>by have:=nD (l:=x::l) h;rw[cW,this]
def ux{w:List Int}(hn:n+1=w.length)(h:w.getD n 0=0):cW (w.take n)=cW w:=by
 have e:w=w.take n++[0]:=by
  have b:n<w.length:=E;have c:w[n]=0:=by simpa[abA b]using h
  have a:=abR b;rw[abB E,c]at a;exact a
 conv=>rhs;rw[e,mg]
def o8:∀l:List Int,val (cW l)=val l
 |[]=>rfl
 |d::l=>by
  have a:=o8 l;simp[cW];split
  ·rename_i h;rw[h]at a;simp[val]at a⊢;split
   ·rename_i b;simp[val];omega
   simp[val];omega
  rename_i x r h;rw[h]at a;simp[val]at a⊢;omega
def ee(h:yt l):cW l=ae (val l).toNat:=by
 have f:yt (cW l)/\(cW l).getLast?≠some 0:=by
  induction l with
  |nil=>exact⟨h,by simp[cW]⟩
  |cons d l g=>
   obtain⟨i1,c⟩:=g λx a=>h x (by simp[a]);have e:=h d I;simp[cW];split
   ·split
    ·simp_all
    rename_i i;exact⟨λx a=>by simp at a;subst a;exact e,by simpa using i⟩
   rename_i x r he;rw[he]at i1 c;exact⟨λy b=>by
    rcases abz.1 b with rfl|b
    ·exact e
    exact i1 y b,c⟩
 rw[tw f.1 f.2 (n:=(val l).toNat) (by rw[o8];have:=bm h;omega)]
def gN(l:List Int)(k:Nat):val l=val (l.take k)+18446744073709551616^(l.take k).length*val (l.drop k):=by
 induction l generalizing k with
 |nil=>simp[val]
 |cons d l a=>
  cases k with
  |zero=>simp[val]
  |succ k=>simp[val];grind
def sj(h:yt l)(k:Nat):yt (l.take k):=λx a=>h x<|adq a
def cw(n:Nat):(n:Int)<18446744073709551616^(ae n).length:=by have:=ic<|bx n;rwa[ai]at this
def iF(h:n≠0):0<(ae n).length:=by rw[ae,dif_neg h];simp
def im{a b:Nat}(h:a<=b):(18446744073709551616:Int)^a<=18446744073709551616^b:=by obtain⟨k,rfl⟩:=Nat.exists_eq_add_of_le h;rw[acZ];have c:=dE a;have d:=dE k;have:=acC (show(1:Int)<=18446744073709551616^k from E)<|aca c;omega
def cE(h:(ae m).length<(ae n).length):m<n:=by
 have c:=cw m;rcases gw n with a|a
 ·rw[a]at h;cases h
 have b:(18446744073709551616:Int)^(ae m).length<=18446744073709551616^((ae n).length-1):=im E;omega
def oc(m n:Nat):Int:=if m<n then -1 else if n<m then 1 else 0
def mv{k:Nat}(j:k<(ae m).length)(hl:(ae m).length=(ae n).length)(f:(ae m).drop (k+1)=(ae n).drop (k+1))(h:(ae m).getD k 0<(ae n).getD k 0):m<n:=by
 have a:=gN (ae m)<|k+1;have b:=gN (ae n)<|k+1;rw[ai,aI]at a b;rw[f]at a;have e:((ae m).take<|k+1).length=k+1:=by simp;omega
 have d:((ae n).take<|k+1).length=k+1:=by simp;omega
 rw[e]at a;rw[d]at b;have g:=ic<|sj (bx m) k;have o:=bm<|sj (bx n) k;have c:((ae m).take k).length=k:=by simp;omega
 rw[c]at g;have i:=dE k;have:((ae m).getD k 0+1)*18446744073709551616^k<=(ae n).getD k 0*18446744073709551616^k:=ac6 E E;rw[abU]at this;omega
def kC:∀{l:List Int}{j:Nat}(y:Int),j<l.length->val (l.set j y)=val l+(y-l.getD j 0)*18446744073709551616^j
 |[],j,y,h=>by cases h
 |d::l,0,y,_=>by simp[val];omega
 |d::l,j+1,y,h=>by have:=kC (l:=l) (j:=j) y (by simpa using h);simp[val];grind
def eM(h:yt l){j:Nat}{y:Int}(b:0<=y/\y<18446744073709551616):yt (l.set j y):=by
 intro x a;rcases aeU a with a|a
 ·exact h x a
 subst a;exact b
def cv(l:List Int)(j k:Nat)(y:Int):(l.set j y).getD k 0=if j=k/\k<l.length then y else l.getD k 0:=by
 by_cases h:j=k
 ·subst h;by_cases a:j<l.length
  all_goals simp[a]
 simp[h]
def iH(n:Nat):val (List.replicate n 0)=0:=by
 induction n with
 |zero=>rfl
 |succ n a=>simp[ad1,val,a]
def fw(n:Nat):yt (List.replicate n 0):=λx a=>by rw[ad7 a];omega
def fK(n k:Nat):(List.replicate n (0:Int)).getD k 0=0:=by simp[adO];split<;>rfl
end
def cZ:Nat->Int->Int->Int->Int->Int->Int
 |0,t,_,_,_,_=>t
 |k+1,t,r,v1,v2,u2=>if 18446744073709551616<=t\/r*18446744073709551616+u2<t*v2 then(if 18446744073709551616<=r+v1 then t-1 else cZ k (t-1) (r+v1) v1 v2 u2)else t
def gn{a b c:Int}(h:a<=b)(hc:0<=c):a*c<=b*c:=ac6 h hc
def sx{v1 v2 u2 f P i s U V:Int}(q:0<P)(n:1<=v1)(u:0<=v2/\v2<18446744073709551616)(v:0<=u2/\u2<18446744073709551616)(m:0<=i/\i<P)(L:0<=s/\s<P)
 (F:V=v1*(18446744073709551616*P)+v2*P+i)(H:U=f*(18446744073709551616*P)+u2*P+s)(O:U<18446744073709551616*V):
 ∀(k:Nat)(t r:Int),k=t.toNat->0<=t->0<=r->t*v1+r=f->U<(t+1)*V->U<(cZ k t r v1 v2 u2+1)*V/\(cZ k t r v1 v2 u2-1)*V<=U/\0<=cZ k t r v1 v2 u2/\cZ k t r v1 v2 u2<=t:=by
 have K:v2*P+i<18446744073709551616*P:=by have:=gn (show v2+1<=18446744073709551616 from E)<|aca q;rw[abU]at this;omega
 have C:0<=v2*P:=acy u.1 E;have x:0<V:=by have:=gn n (show 0<=18446744073709551616*P from E);omega
 have D:f<18446744073709551616*v1+18446744073709551616:=by
  have y:f*(18446744073709551616*P)<(18446744073709551616*v1+18446744073709551616)*(18446744073709551616*P):=by
   have h:0<=u2*P:=acy v.1 E;have l:(18446744073709551616*v1+18446744073709551616)*(18446744073709551616*P)=18446744073709551616*(v1*(18446744073709551616*P))+18446744073709551616*(18446744073709551616*P):=by grind
   omega
  exact ad9 y E
 have g:∀t r:Int,0<=t->t<18446744073709551616->t*v1+r=f->t*v2<=r*18446744073709551616+u2->(t-1)*V<=U:=by
  intro t r j y h l;have B:t*V=t*v1*(18446744073709551616*P)+t*v2*P+t*i:=by rw[F];grind
  have A:t*v1*(18446744073709551616*P)=f*(18446744073709551616*P)-r*18446744073709551616*P:=by rw[<-h];grind
  have z:=gn l<|aca q;rw[abU]at z;have R:t*i<=18446744073709551616*P:=by have a:=acC (aca m.2) j;have b:=gn (aca y)<|aca q;omega
  have S:=gn n (show 0<=18446744073709551616*P from E);rw[acH,adF,B,A,H];omega
 have less:∀t r:Int,0<=t->t*v1+r=f->(18446744073709551616<=t\/r*18446744073709551616+u2<t*v2)->U<t*V:=by
  intro t r j h l;rcases l with l|l
  ·have:=gn l<|aca x;omega
  have B:t*V=t*v1*(18446744073709551616*P)+t*v2*P+t*i:=by rw[F];grind
  have A:t*v1*(18446744073709551616*P)=f*(18446744073709551616*P)-r*18446744073709551616*P:=by rw[<-h];grind
  have z:=gn (show r*18446744073709551616+u2+1<=t*v2 from E)<|aca q;rw[abU,abU]at z;have R:0<=t*i:=acy j m.1;rw[B,A,H];omega
 intro k
 induction k with
 |zero=>intro t r N j M h w;have:t=0:=E;subst this;simp only[cZ];refine⟨w,?_,E,E⟩;exact g 0 r E E h E
 |succ k J=>
  intro t r N j M h w;simp[cZ];by_cases hc:18446744073709551616<=t\/r*18446744073709551616+u2<t*v2
  ·rw[if_pos hc];have hl:=less t r j h hc;have p:(t-1)*v1+(r+v1)=f:=by rw[acH];omega
   by_cases o:18446744073709551616<=r+v1
   ·rw[if_pos o];have e:t-1+1=t:=E;rw[e];refine⟨hl,?_,E,E⟩;have hs:t-1<18446744073709551616:=by
     have:(t-1)*v1<18446744073709551616*v1:=E;exact ad9 this E
    refine g (t-1) (r+v1) E hs p ?_;have a:(t-1)*v2<=(t-1)*18446744073709551616:=acC E E;omega
   rw[if_neg o];have e:t-1+1=t:=E;obtain⟨a,b,c,d⟩:=J (t-1) (r+v1) E E E p (by rw[e];exact hl);exact⟨a,b,c,E⟩
  rw[if_neg hc];refine⟨w,?_,j,E⟩;have Q:t<18446744073709551616:=E;exact g t r j Q h E
def eK{w:List Int}{j k:Nat}{y:Int}(h:j<=k):(w.set k y).take j=w.take j:=by rw[List.take_set_of_le h]
def mz{f:Nat}(c:0<f)(b:f<18446744073709551616):ae f=[(f:Int)]:=by
 refine(tw (λd a=>?_) ?_ ?_).symm
 ·simp at a;omega
 ·simp;omega
 simp[val]
end Go.Ai.eE
namespace Go.Ai.eE
open Go.Proofs Go.Ai
def I9{P:Program}{f:FuncId}{k:IntKind}{qs rs:List Int}(h:∀w:World,(callFunc f (qs.map λa=>Value.int k a).toArray).run P w=.ok (.value<|.tuple (rs.map λa=>Value.int k a).toArray) w):
 aM P f (qs.map λa=>SV.n k a) (.bW<|rs.map λa=>SV.n k a):=by
 intro w S b _ m hc;have d:∀(l:List Int)(b:List Value),Cells w S false (aB<|l.map λa=>SV.n k a) b []->b=l.map λa=>Value.int k a:=by
  intro l
  induction l with
  |nil=>intro b hc;exact hc.1
  |cons a l g=>intro b hc;obtain⟨y,i,s,r,rfl,q,_,j,hc⟩:=hc;obtain⟨rfl,rfl⟩:=ad2.1 q.symm;rw[j.2.1,g i hc];rfl
 have e:=d qs b hc;subst e;have c:∀l:List Int,Cells w S false (aB<|l.map λa=>SV.n k a) (l.map λa=>Value.int k a) []:=by
  intro l
  induction l with
  |nil=>simp[aB,Cells]
  |cons a l g=>exact⟨_,_,[],[],W,W,I,by simp[SV.den,Rel,scalar],g⟩
 intro rd o a next Q p
 rw[h w];refine p _ _ ⟨S,[],Go.RowKit.Below.refl _ _,λ_ h=>h,λ_ h=>.inl h,m,?_,acd,I⟩;exact⟨_,W,c rs⟩
def fA(x y c:Nat)(hc:c<=1):aM Tryz.prog 287 [.n .u64 x,.n .u64 y,.n .u64 c] (.bW [.n .u64 ((x+y+c)%2^64:Nat),.n .u64 ((x+y+c)/2^64:Nat)]):=by
 refine I9 (qs:=[(x:Int),y,c]) (rs:=[(((x+y+c)%2^64:Nat):Int),(((x+y+c)/2^64:Nat):Int)]) λw=>?_;refine(run_callFunc_extern (fn:=Tryz.f287) Tryz.func287 aW aW aW (e:=add64Entry) aW _ w).trans ?_;have:=run_add64 (P:=Tryz.prog) x y c E E E E w;simp only[ab8,acX];rw[this];simp only[Result.andThen]
 congr 4<;>simp
def pd(x y b:Nat)(a:b<=1):aM Tryz.prog 289 [.n .u64 x,.n .u64 y,.n .u64 b] (.bW [.n .u64 ((x+2^64-y-b)%2^64:Nat),.n .u64 ((if x<y+b then 1 else 0:Nat):Int)]):=by refine I9 (qs:=[(x:Int),y,b]) (rs:=[(((x+2^64-y-b)%2^64:Nat):Int),((if x<y+b then 1 else 0:Nat):Int)]) λw=>?_;refine(run_callFunc_extern (fn:=Tryz.f289) Tryz.func289 aW aW aW (e:=sub64Entry) aW _ w).trans ?_;have:=run_sub64 (P:=Tryz.prog) x y b a w;simp only[ab8,acX];rw[this];rfl
def dw(xs:List Int)(d:xs.length<2^60):aM Tryz.prog 288 [.ints .u64 false xs] (.ints .u64 false<|cW xs):=by
 refine bS Tryz.func288 W<|bM W (λn:Nat=>[(0,.ints .u64 false xs),(3,.i n)]) (λn=>n<=xs.length/\cW (xs.take n)=cW xs) (λn=>n) xs.length ⟨abq _,by rw[acz]⟩ ⟨G,G,U⟩ ?_;rintro n⟨hn,a⟩;refine bJ W 8 W ?_ ?_<;>intro h
 ·have e:(((n:Nat):Int)-1).toNat=n-1:=E;refine r1 W a7 ?_;rw[e];refine gg W ?_ ?_<;>intro b
  ·refine r1 W a7<|again (n-1) E ⟨E,?_⟩ ⟨G,⟨W,ar.of_eq<|congrArg SV.i E⟩,U⟩;rw[<-a];have:=ux (w:=xs.take n) (n:=n-1) (by rw[abH];omega) (by
    rw[abx,ac8 E,<-abx];exact b)
   rw[aep,acP E]at this;exact this
  have c:(n:Int).toNat=n:=E;refine r1 W a7<|aE W ?_;rw[c];refine ar.of_eq<|congrArg (SV.ints .u64 false) ?_;rw[acL,aeV,<-a];refine(nD ?_).symm;intro hl;rw[afI,abH,acP hn,ac8 E]at hl;apply b;rw[abx,hl];rfl
 have:n=0:=E;subst this;refine r1 W a7<|aE W<|ar.of_eq<|congrArg (SV.ints .u64 false) ?_;rw[<-a];simp[cW]
def n8(m n:Nat)(j:(ae m).length<2^60)(g:(ae n).length<2^60):aM Tryz.prog 248 [.ints .u64 false<|ae m,.ints .u64 false<|ae n] (.i<|oc m n):=by
 refine bS Tryz.func248 W<|bQ W W ?_ ?_<;>intro h
 ·refine bQ W W ?_ ?_<;>intro f
  ·refine bK W W<|bR ?_;have:=cE (m:=m) (n:=n) E;simp[oc,this]
  refine bK W W<|bR ?_;have:=cE (m:=n) (n:=m) E;simp[oc];rw[if_neg E,if_pos this]
 have hl:(ae m).length=(ae n).length:=E;refine r1 W (by simp[ag,and_true];omega) ?_;refine loop (λi:Nat=>[(0,.ints .u64 false<|ae m),(1,.ints .u64 false<|ae n),(5,.i<|(i:Int)-1)]) (λi=>i<=(ae m).length/\(ae m).drop i=(ae n).drop i) (λi=>i) (ae m).length ⟨E,?_⟩
  ⟨G,G,G,U⟩ ?_
 ·rw[ab5<|abq _,ab5 E]
 rintro i⟨hi,a⟩;refine bQ W W ?_ ?_<;>intro f
 ·obtain⟨k,rfl⟩:∃k,i=k+1:=⟨i-1,E⟩;have c:(((k+1:Nat):Int)-1).toNat=k:=E;refine k1 W aW (by simp[ag,and_true];omega) ?_;refine gg W ?_ ?_<;>intro d
  ·rw[c]at d;refine k1 W aW (by simp[ag,and_true];omega) ?_;refine gg W ?_ ?_<;>intro b
   ·rw[c]at b;refine bK W W<|bR ?_;have:=mv E hl a b;simp[oc,this]
   rw[c]at b;refine bK W W<|bR ?_;have:=mv E hl.symm a.symm E;simp[oc];rw[if_neg E,if_pos this]
  rw[c]at d;refine r1 W (by simp[ag,and_true];omega) ?_;refine again k (adh _) ⟨E,?_⟩ ⟨G,G,⟨W,ar.of_eq<|congrArg SV.i E⟩,U⟩;have e:(ae m).getD k 0=(ae n).getD k 0:=E;rw[abO<|show k<(ae m).length from E,abO<|show k<(ae n).length from E,a]
  congr 1
  simpa[abx,abA<|show k<(ae m).length from E,abA<|show k<(ae n).length from E]using e
 have:i=0:=E;subst this;refine bK W W<|bR ?_;have e:ae m=ae n:=by simpa using a
 have:m=n:=by have:=congrArg val e;rw[ai,ai]at this;omega
 simp[oc,this]
def mw(n i:Nat):∃x:Nat,(ae n).getD i 0=x/\x<18446744073709551616:=by have:=bf (bx n) i;exact⟨((ae n).getD i 0).toNat,E,E⟩
def Df(m n:Nat)(H:(ae m).length<2^40)(F:(ae n).length<2^40):aM Tryz.prog 247 [.ints .u64 false<|ae m,.ints .u64 false<|ae n] (.ints .u64 false<|ae<|m+n):=by
 refine bS Tryz.func247 W<|wR 2 (λa b:Nat=>[(0,.ints .u64 false<|ae a),(1,.ints .u64 false<|ae b)]) (λa b=>a+b=m+n/\(ae b).length<=(ae a).length/\(ae a).length<2^40) ?_ ?_
 ·refine bQ W W ?_ ?_<;>intro h
  ·refine r0 W<|meet (n,m) ⟨by dsimp only;omega,by dsimp only;omega,by dsimp only;omega⟩ ⟨G,G,U⟩
  refine r0 W<|meet (m,n) ⟨ff,by dsimp only;omega,by dsimp only;omega⟩ ⟨G,G,U⟩
 rintro a b⟨hs,hl,D⟩;rw[<-hs];refine r1 W ba<|oB (λ(i:Nat)(out:List Int)(c:Nat)=>[(0,.ints .u64 false<|ae a),(1,.ints .u64 false<|ae b),(5,.ints .u64 true out),(6,.n .u64 c),(21,.i (ae a).length),(22,.i i)])
  (λi out c=>i<=(ae a).length/\yt out/\out.length=(ae a).length+1/\c<=1/\val out+c*18446744073709551616^i=val ((ae a).take i)+val ((ae b).take i)/\∀k,i<=k->out.getD k 0=0)
  (λi _ _=>(ae a).length-i) 0 (List.replicate ((ae a).length+1) 0) 0 ⟨aaM _,fw _,I,E,by simp[val,iH],λk _=>fK _ _⟩
  ⟨G,G,⟨W,ar.of_eq<|congrArg (SV.ints .u64 true)<|by congr 1⟩,G,G,G,U⟩ ?_
 rintro i out c⟨hi,r,d,hc,p,g⟩;refine bQ W W ?_ ?_<;>intro h
 ·have v:i<(ae a).length:=E;have e:(i:Int).toNat=i:=E;obtain⟨x,o,u⟩:=mw a i;obtain⟨y,f,t⟩:=mw b i;have step:∀l:aU,True->True:=λ_ h=>h;have fin:(i+1<=(ae a).length/\yt (out.set i (((x+y+c)%18446744073709551616:Nat):Int))/\(out.set i (((x+y+c)%18446744073709551616:Nat):Int)).length=(ae a).length+1/\(x+y+c)/18446744073709551616<=1/\
   val (out.set i (((x+y+c)%18446744073709551616:Nat):Int))+((x+y+c)/18446744073709551616:Nat)*18446744073709551616^(i+1)=val ((ae a).take<|i+1)+val ((ae b).take<|i+1)/\∀k,i+1<=k->(out.set i (((x+y+c)%18446744073709551616:Nat):Int)).getD k 0=0):=by
   refine⟨E,eM r E,by simpa using d,E,?_,λk C=>?_⟩
   ·rw[kC _ E,g i<|abq _,aI,aI,o,f,abV];have q:=Nat.div_add_mod (x+y+c) 18446744073709551616;have B:(18446744073709551616:Int)*(((x+y+c)/18446744073709551616:Nat):Int)+(((x+y+c)%18446744073709551616:Nat):Int)=(x:Int)+y+c:=E;generalize (((x+y+c)/18446744073709551616:Nat):Int)=z at*;generalize (((x+y+c)%18446744073709551616:Nat):Int)=r1 at*;generalize (18446744073709551616:Int)^i=A at*
    grind
   rw[cv,if_neg E];exact g k E
  refine bQ W W ?_ ?_<;>intro w
  ·refine r1 W (by simp only[ag,and_true,e]<;>omega) ?_;refine cl W (by rw[e,o,f];rfl) (fA x y c hc) W ?_;refine r1 W (by simp only[ag,and_true,e,d]<;>omega) ?_;exact again (i+1,out.set i (((x+y+c)%18446744073709551616:Nat):Int),(x+y+c)/18446744073709551616) (by dsimp only;omega) fin ⟨G,G,⟨W,ar.of_eq<|congrArg (SV.ints .u64 true)<|by rw[e]⟩,G,G,G,U⟩
  have j:y=0:=by rw[abx,aci E]at f;simp at f;omega
  subst j;refine r1 W (by simp only[ag,and_true,e]<;>omega) ?_;refine cl W (by rw[e,o];rfl) (fA x 0 c hc) W ?_;refine r1 W (by simp only[ag,and_true,e,d]<;>omega) ?_;exact again (i+1,out.set i (((x+0+c)%18446744073709551616:Nat):Int),(x+0+c)/18446744073709551616) (by dsimp only;omega) fin ⟨G,G,⟨W,ar.of_eq<|congrArg (SV.ints .u64 true)<|by rw[e]⟩,G,G,G,U⟩
 have:i=(ae a).length:=E;subst this;have s:(((ae a).length:Nat):Int).toNat=(ae a).length:=E;rw[abB<|abq _,abB E,ai,ai]at p;refine r1 W (by simp only[ag,and_true,s,d]<;>omega) ?_;rw[s];refine bG W (dw (out.set (ae a).length c)<|by simp;omega) W ?_;refine bK W W<|ar.of_eq<|congrArg (SV.ints .u64 false) ?_;rw[ee<|eM r E,kC _ E,g _<|abq _,Int.sub_zero,p]
 congr 1
def rJ(m n:Nat)(F:(ae m).length<2^40)(u:n<=m):aM Tryz.prog 249 [.ints .u64 false<|ae m,.ints .u64 false<|ae n] (.ints .u64 false<|ae<|m-n):=by
 have v:(ae n).length<=(ae m).length:=by
  rcases abM (ae m).length (ae n).length with g|g
  ·have:=cE g;omega
  exact g
 refine bS Tryz.func249 W<|r1 W ba<|oB (λ(i:Nat)(out:List Int)(c:Nat)=>[(0,.ints .u64 false<|ae m),(1,.ints .u64 false<|ae n),(5,.ints .u64 true out),(6,.n .u64 c),(13,.i (ae m).length),(14,.i i)])
  (λi out c=>i<=(ae m).length/\yt out/\out.length=(ae m).length/\c<=1/\val out=val ((ae m).take i)-val ((ae n).take i)+c*18446744073709551616^i/\∀k,i<=k->out.getD k 0=0)
  (λi _ _=>(ae m).length-i) 0 (List.replicate (ae m).length 0) 0 ⟨aaM _,fw _,I,E,by simp[val,iH],λk _=>fK _ _⟩
  ⟨G,G,⟨W,ar.of_eq<|congrArg (SV.ints .u64 true)<|by congr 1⟩,G,G,G,U⟩ ?_
 rintro i out c⟨hi,e,a,hc,s,p⟩;refine bQ W W ?_ ?_<;>intro h
 ·have w:i<(ae m).length:=E;have b:(i:Int).toNat=i:=E;obtain⟨x,j,r⟩:=mw m i;obtain⟨y,d,q⟩:=mw n i;have fin:(i+1<=(ae m).length/\yt (out.set i (((x+18446744073709551616-y-c)%18446744073709551616:Nat):Int))/\(out.set i (((x+18446744073709551616-y-c)%18446744073709551616:Nat):Int)).length=(ae m).length/\(if x<y+c then 1 else 0:Nat)<=1/\
   val (out.set i (((x+18446744073709551616-y-c)%18446744073709551616:Nat):Int))=val ((ae m).take<|i+1)-val ((ae n).take<|i+1)+((if x<y+c then 1 else 0:Nat):Int)*18446744073709551616^(i+1)/\∀k,i+1<=k->(out.set i (((x+18446744073709551616-y-c)%18446744073709551616:Nat):Int)).getD k 0=0):=by
   refine⟨E,eM e E,by simpa using a,by split<;>omega,?_,λk D=>?_⟩
   ·rw[kC _ E,p i<|abq _,aI,aI,j,d,abV];have C:(((x+18446744073709551616-y-c)%18446744073709551616:Nat):Int)=(x:Int)-y-c+18446744073709551616*((if x<y+c then 1 else 0:Nat):Int):=by split<;>omega
    generalize ((if x<y+c then 1 else 0:Nat):Int)=B at*;generalize (((x+18446744073709551616-y-c)%18446744073709551616:Nat):Int)=r1 at*;generalize (18446744073709551616:Int)^i=A at*
    grind
   rw[cv,if_neg E];exact p k E
  refine bQ W W ?_ ?_<;>intro z
  ·refine r1 W (by simp only[ag,and_true,b]<;>omega) ?_;refine cl W (by rw[b,j,d];rfl) (pd x y c hc) W ?_;refine r1 W (by simp only[ag,and_true,b,a]<;>omega) ?_;exact again (i+1,out.set i (((x+18446744073709551616-y-c)%18446744073709551616:Nat):Int),(if x<y+c then 1 else 0:Nat)) (by dsimp only;omega) fin ⟨G,G,⟨W,ar.of_eq<|congrArg (SV.ints .u64 true)<|by rw[b]⟩,G,G,G,U⟩
  have f:y=0:=by rw[abx,aci E]at d;simp at d;omega
  subst f;refine r1 W (by simp only[ag,and_true,b]<;>omega) ?_;refine cl W (by rw[b,j];rfl) (pd x 0 c hc) W ?_;refine r1 W (by simp only[ag,and_true,b,a]<;>omega) ?_;exact again (i+1,out.set i (((x+18446744073709551616-0-c)%18446744073709551616:Nat):Int),(if x<0+c then 1 else 0:Nat)) (by dsimp only;omega) fin ⟨G,G,⟨W,ar.of_eq<|congrArg (SV.ints .u64 true)<|by rw[b]⟩,G,G,G,U⟩
 have:i=(ae m).length:=E;subst this;rw[abB<|abq _,abB E,ai,ai]at s;have l:=ic e;have t:=bm e;rw[a]at l;have o:c=0:=by
  rcases abM 0 c with g|g
  ·have:c=1:=E;subst this;omega
  omega
 subst o;refine bP W W (dw out E) W<|bK W W<|ar.of_eq<|congrArg (SV.ints .u64 false) ?_;rw[ee e]
 congr 1;omega
def XA(n:Nat):IntKind.u64.wrap (n:Int)=((n%18446744073709551616:Nat):Int):=by show(n:Int)%18446744073709551616=_;omega
def wr{n:Nat}(h:n<18446744073709551616):IntKind.u64.wrap (n:Int)=(n:Int):=by rw[XA,acT h]
def PE{a:Int}:IntKind.u64.wrap a=a%18446744073709551616:=W
def Q1(y:Nat):IntKind.u64.wrap ((BitVec.ofInt IntKind.u64.bits (y:Int)&&&BitVec.ofInt IntKind.u64.bits 4294967295).toNat:Int)=((y%4294967296:Nat):Int):=by
 rw[XA]
 congr 1
 have a:(BitVec.ofNat 64 y&&&BitVec.ofNat 64 (2^32-1)).toNat=(y%2^64)&&&((2^32-1)%2^64):=I;rw[show((2:Nat)^32-1)%2^64=2^32-1 from W,Nat.and_two_pow_sub_one_eq_mod]at a;show(BitVec.ofNat 64 y&&&BitVec.ofNat 64 (2^32-1)).toNat%_=_;omega
def D8(y:Nat):(y:Int).fdiv (2^min (Int.toNat 32) IntKind.u64.bits)=((y/4294967296:Nat):Int):=by rw[ae9 _ fh];rfl
def kg(x y:Nat)(c:x<18446744073709551616)(b:y<18446744073709551616):aM Tryz.prog 233 [.n .u64 x,.n .u64 y] (.bW [.n .u64 (x*y/18446744073709551616:Nat),.n .u64 (x*y%18446744073709551616:Nat)]):=by
 refine bS Tryz.func233 W<|r1 W ?_ ?_
 ·simp only[ag];decide
 obtain⟨o,m,l,a⟩:=Go.Lib.mul64_hi x y c b;have d:x*y/18446744073709551616<18446744073709551616:=by rw[acJ fh];exact Nat.mul_lt_mul'' c b
 rw[<-a]at d;refine aE W ⟨congrArg (SV.n .u64) ?_,congrArg (SV.n .u64) ?_,U⟩
 ·have h:=wr (n:=x/4294967296*(y/4294967296)) E;have wB:=wr (n:=x/4294967296*(y%4294967296)) E;have g:=wr (n:=x%4294967296*(y/4294967296)) E;have f:=wr o;have e:=wr m;have k:=wr l;have j:=wr (n:=x/4294967296*(y/4294967296)+(x/4294967296*(y%4294967296)+x%4294967296*(y%4294967296)/4294967296)/4294967296) E;have i:=wr d;simp only[Q1,D8,<-ack,<-aem,h,wB,g,f,e,k,j,i];rw[a]
 rw[<-ack,XA]
def T7{x y w c:Nat}(b:x<18446744073709551616)(a:y<18446744073709551616)(d:w<18446744073709551616)(hc:c<18446744073709551616):
 x*y/18446744073709551616+(x*y%18446744073709551616+w+0)/18446744073709551616<18446744073709551616/\
 x*y/18446744073709551616+(x*y%18446744073709551616+w+0)/18446744073709551616+((x*y%18446744073709551616+w+0)%18446744073709551616+c+0)/18446744073709551616<18446744073709551616/\
 ((x*y%18446744073709551616+w+0)%18446744073709551616+c+0)%18446744073709551616+18446744073709551616*(x*y/18446744073709551616+(x*y%18446744073709551616+w+0)/18446744073709551616+((x*y%18446744073709551616+w+0)%18446744073709551616+c+0)/18446744073709551616)=x*y+w+c:=by
 have e:x*y<=18446744073709551615*18446744073709551615:=adI E E;refine⟨E,E,E⟩
def BM(m n:Nat)(Y:(ae m).length<2^40)(X:(ae n).length<2^40):aM Tryz.prog 256 [.ints .u64 false<|ae m,.ints .u64 false<|ae n] (.ints .u64 false<|ae<|m*n):=by
 refine bS Tryz.func256 W<|r1 W ba<|kR (λ(i:Nat)(out:List Int)=>[(1,.ints .u64 false<|ae n),(5,.ints .u64 true out),(20,.ints .u64 false<|ae m),(21,.i (ae m).length),(22,.i i)])
  (λi out=>yt out/\out.length=(ae m).length+(ae n).length/\val out=val ((ae m).take i)*n/\i<=(ae m).length/\∀k,i+(ae n).length<=k->out.getD k 0=0)
  (λi _=>(ae m).length-i) 0 (List.replicate ((ae m).length+(ae n).length) 0) ⟨fw _,I,by simp[val,iH],E,λk _=>fK _ _⟩
  ⟨G,⟨W,ar.of_eq<|congrArg (SV.ints .u64 true)<|by congr 1⟩,G,G,G,U⟩ ?_
 rintro i out⟨K,hl,t,hi,F⟩;refine bQ W W ?_ ?_<;>intro h
 ·have Q:i<(ae m).length:=E;have M:(i:Int).toNat=i:=E;obtain⟨x,J,e⟩:=mw m i;refine r1 W (by simp only[ag,and_true,M]<;>omega) ?_;rw[M,J];refine oB (λ(k:Nat)(o:List Int)(c:Nat)=>[(1,.ints .u64 false<|ae n),(5,.ints .u64 true o),(6,.i i),(7,.n .u64 x),(8,.n .u64 c),(20,.ints .u64 false<|ae m),(21,.i (ae m).length),(22,.i i),(27,.ints .u64 false<|ae n),(28,.i (ae n).length),(29,.i k)])
   (λk o c=>yt o/\o.length=(ae m).length+(ae n).length/\c<18446744073709551616/\val o+c*18446744073709551616^(i+k)=val out+x*val ((ae n).take k)*18446744073709551616^i/\k<=(ae n).length/\∀b,i+k<=b->o.getD b 0=out.getD b 0)
   (λk _ _=>(ae n).length-k) 0 out 0 ⟨K,hl,E,by simp[val],E,λ_ _=>rfl⟩ ⟨G,G,G,G,G,G,G,G,G,G,G,U⟩ ?_
  rintro k o c⟨C,g,S,z,Z,v⟩;refine bQ W W ?_ ?_<;>intro R
  ·have f:k<(ae n).length:=E;have L:(k:Int).toNat=k:=E;have a:((i:Int)+(k:Int)).toNat=i+k:=E;obtain⟨y,H,d⟩:=mw n k;obtain⟨w,j,s⟩:∃w:Nat,o.getD (i+k) 0=w/\w<18446744073709551616:=by
    have:=bf C<|i+k;exact⟨(o.getD (i+k) 0).toNat,E,E⟩
   obtain⟨D,l,V⟩:=T7 e d s S;refine r1 W (by simp only[ag,and_true,L]<;>omega) ?_;rw[L,H];refine bG W (kg x y e d) W<|r1 W (by simp only[ag,and_true,a,g]<;>omega) ?_;rw[a,j];refine bG W (fA (x*y%18446744073709551616) w 0 fh) W<|r1 W ba<|bG W (fA ((x*y%18446744073709551616+w+0)%18446744073709551616) c 0 fh) W<|r1 W (by simp only[ag,and_true,a,g]<;>omega) ?_;rw[a];have T:IntKind.u64.wrap (IntKind.u64.wrap (((x*y/18446744073709551616:Nat):Int)+(((x*y%18446744073709551616+w+0)/18446744073709551616:Nat):Int))+((((x*y%18446744073709551616+w+0)%18446744073709551616+c+0)/18446744073709551616:Nat):Int))=
    ((x*y/18446744073709551616+(x*y%18446744073709551616+w+0)/18446744073709551616+((x*y%18446744073709551616+w+0)%18446744073709551616+c+0)/18446744073709551616:Nat):Int):=by
    rw[<-aem,wr D,<-aem,wr l]
   refine again (k+1,o.set (i+k) (((((x*y%18446744073709551616+w+0)%18446744073709551616+c+0)%18446744073709551616:Nat)):Int),x*y/18446744073709551616+(x*y%18446744073709551616+w+0)/18446744073709551616+((x*y%18446744073709551616+w+0)%18446744073709551616+c+0)/18446744073709551616)
    (by dsimp only;omega) ⟨eM C E,by simpa using g,l,?_,by dsimp only;omega,?_⟩ ⟨G,G,G,G,⟨W,ar.of_eq<|congrArg (SV.n .u64) T⟩,G,G,G,G,G,G,U⟩
   ·dsimp only;have u:i+k<o.length:=E;rw[kC _ u,j,aI,H,show i+(k+1)=i+k+1 from E,abV,acZ];rw[acZ]at z;generalize x*y/18446744073709551616+(x*y%18446744073709551616+w+0)/18446744073709551616+((x*y%18446744073709551616+w+0)%18446744073709551616+c+0)/18446744073709551616=q at*;generalize ((x*y%18446744073709551616+w+0)%18446744073709551616+c+0)%18446744073709551616=r at*;have O:(r:Int)+18446744073709551616*(q:Int)=(x:Int)*y+w+c:=by
     rw[<-ack x y];clear z t D l;generalize x*y=p at *;omega
    generalize (18446744073709551616:Int)^i=A at*;generalize (18446744073709551616:Int)^k=B at*
    grind
   dsimp only;intro b f;rw[cv,if_neg E];exact v b E
  have P:k=(ae n).length:=E;subst P;rw[abB<|abq _,ai]at z;have j:o.getD (i+(ae n).length) 0=0:=by rw[v _<|abq _];exact F _<|abq _
  have N:((i:Int)+((ae n).length:Int)).toNat=i+(ae n).length:=E;refine r1 W (by simp only[ag,and_true,g,N]<;>omega) ?_;rw[N];refine again (i+1,o.set (i+(ae n).length) c) (by dsimp only;omega) ⟨eM C E,by simpa using g,?_,by dsimp only;omega,?_⟩
   ⟨G,G,G,G,G,U⟩
  ·dsimp only;rw[kC _ E,j,aI,J];generalize (18446744073709551616:Int)^(i+(ae n).length)=A at*;generalize (18446744073709551616:Int)^i=B at*
   grind
  dsimp only;intro b f;rw[cv,if_neg E,v _ E];exact F _ E
 have:i=(ae m).length:=E;subst this;rw[abB<|abq _,ai]at t;refine bP W W (dw out E) W<|bK W W<|ar.of_eq<|congrArg (SV.ints .u64 false) ?_;rw[ee K,t]
 congr 1
end Go.Ai.eE
