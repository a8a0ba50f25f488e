/- TopRefused holds. -/
import Derived.Test.YtacjimehcbbkbaaGreatDoorTZAH
import Derived.Shelf.Strconv.Itoa4
import Derived.Ground.NamesProg
import Derived.Lib.ItoaMem
set_option linter.all false
set_option maxRecDepth 100000
set_option maxHeartbeats 0
open Go.Proofs Go.Ai Go.Ai.bI Go.RowKit Go.Proofs.Tryz
noncomputable section
namespace Go.Ai.Pg
def WZ(a b:Int)(f:Nat)(p:SV):SV:=.agg [.i a,.i b,.fn (.func f) [] [],p]
def kI:SV:=WZ 2 2 290 (.c .nilFunc)
def kA:SV:=WZ 1 8 289 (.fn (.func 291) [] [])
def kT:SV:=WZ 1 1 289 (.fn (.func 292) [] [])
def Rt:jy cj:=[(bk,kI),(jN,kA),(dO,kT)]
def J6:ab 226 [] (.mx Rt):=by refine enter func226 W W W W<|r0 W<|oA W W W (tz (κ:=cj) W) W<|r0 W<|oA W W W (te (k:=bk) (x:=kI) (.inl W) W underlying309 underlying9 W W) W<|r0 W<|oA W W W (te (k:=jN) (x:=kA) (.inl W) W underlying309 underlying9 W W) W<|r0 W<|oA W W W (te (k:=dO) (x:=kT) (.inl W) W underlying309 underlying9 W W) W<|cq W W
def Fj:rq bk Rt=some kI:=W
def Fk:rq jN Rt=some kA:=W
def Fh:rq dO Rt=some kT:=W
def LD{n k:Int}(b:0<=k)(a:k<n):uM n k=true:=decide_eq_true ⟨b,a⟩
def KH(p:fZ)(u:bw)(hu:UOk u)(e:gF p.n u):ab 162 [bV p,fb u] (.i 0):=by
 obtain⟨s,r⟩:=e.fl;refine cx func162 W<|cU 6 [(2,.box true<|bV p),(3,.box true<|fb u)] True ?_ λ_=>?_;refine ct W W J6 W<|r0 W ?_;rcases e.kind with h1|h1|h1;obtain⟨a,b⟩:=e.int h1;refine Dj (.de [kI,.b true]) W W W (mE (k:=u.kind) (x:=kI) underlying309 underlying9 (by rw[h1];exact Fj) true) W ?_;refine k0 W aP<|cg W (λh=>abK (h1.symm.trans h) gC) λ_=>?_;refine ck W 47 W (λh=>abK h E) λ_=>?_;refine ck W 55 W (λh=>abK h E) λ_=>?_;refine r0 W<|qq W W W (λh=>by simp[b]at h) λ_=>?_;refine r0 W<|bo U;obtain⟨a,b,c⟩:=e.add h1;refine Dj (.de [kA,.b true]) W W W (mE (k:=u.kind) (x:=kA) underlying309 underlying9 (by rw[h1];exact Fk) true) W ?_;refine k0 W aP<|cg W (λh=>abK (h1.symm.trans h) gC) λ_=>?_;refine ck W 47 W (λh=>abK h E) λ_=>?_;refine ck W 55 W (λh=>abK h E) λ_=>?_;refine r0 W<|qq W W W (λh=>by simp[c]at h) λ_=>?_;refine r0 W<|bo U;obtain⟨a,b,c⟩:=e.table h1;refine Dj (.de [kT,.b true]) W W W (mE (k:=u.kind) (x:=kT) underlying309 underlying9 (by rw[h1];exact Fh) true) W ?_;refine k0 W aP<|cg W (λ_=>?_) λh=>abK h1 h;refine ck W 35 W (λ_=>?_) λh=>abK E h;refine ck W 47 W (λh=>abK h E) λ_=>?_;refine ck W 55 W (λh=>abK h E) λ_=>?_;refine r0 W<|qq W W W (λh=>abK (show(u.c8.length:Int)<=13 from E)<|aR) λ_=>?_;refine r0 W<|bo U;refine cU 1 [(2,.box true<|bV p),(3,.box true<|fb u)] True ?_ λ_=>?_;refine r0 W<|aU (λi:Nat=>[(2,.box true<|bV p),(3,.box true<|fb u),(60,aj5 u.ai),(61,.i u.ai.length),(62,.i i)]) (λi=>i<=u.ai.length) (λi=>u.ai.length-i) 0 (abX _) ?_;intro i hi;refine cv W W ?_ ?_<;>intro h1;have d:i<u.ai.length:=E;have l:(i:Int).toNat=i:=E;have hm:=ab3 d;have g:=hu.dQ _ hm;obtain⟨w,v,m,t⟩:=e.feed _ hm;refine r1 W (by simp only[aj,abu,l];omega) ?_;rw[l,az d];generalize u.ai[i]=f at*;refine b9 W (Bn p _) W<|ct W W (pB _ 10) W<|ct W W (sF g m) W<|ct W W (pB _ 6) W<|ct W W (wH _ I) W<|k0 W aP ?_;have q:¬f.dQ=[48]:=λh=>t<|JI.1<|by rw[dU m];exact h
 refine cg W (λj=>abK (by rw[LD w v,decide_eq_false q];rfl) j) λ_=>?_;refine r1 W (am) ?_;exact aL (i+1) E;refine r0 W<|bo U;obtain⟨y,o⟩:=e.out;refine cU 1 [(3,.box true<|fb u)] True ?_ λ_=>?_;refine ck W 88 W (λh1=>abK h1 E) λ_=>?_;refine ct W W (Bn p _) W<|ct W W (pB _ 10) W<|ct W W (sF hu.k e.k) W<|ct W W (wH _ I) W<|k0 W aP<|cg W (λj=>abK (by rw[LD E o];rfl) j) λ_=>?_;refine r0 W<|bo U;refine r0 W<|aU (λi:Nat=>[(3,.box true<|fb u),(105,.strs false u.c8),(106,.i u.c8.length),(107,.i i)]) (λi=>i<=u.c8.length) (λi=>u.c8.length-i) 0 (abX _) ?_;intro i hi;refine cv W W ?_ ?_<;>intro h1;have d:i<u.c8.length:=E;have l:(i:Int).toNat=i:=E;have hm:=ab3 d;refine r1 W (by simp only[aj,abu,l];omega) ?_;refine Hh (us:=[.s u.c8[i]]) W W U ⟨aal SV.s<|by rw[l];exact az d,U⟩ (sF (hu.OB _ hm)<|e.c8 _ hm) W ?_;refine cv W W (λj=>abK W j) λ_=>?_;refine r1 W (am) ?_;exact aL (i+1) E;refine cq W W
def EK(x y:Nat)(b:x<18446744073709551616)(a:y<18446744073709551616):ab 207 [.n .u64 x,.n .u64 y] (.de [.n .u64 (x*y/18446744073709551616:Nat),.n .u64 (x*y%18446744073709551616:Nat)]):=by refine enter func207 W W W W<|cu W W (nU x y b a) W<|cq W W
def LW{α:Type _}(x z:α){m r k:Nat}(b:k<=m)(a:k<=r):(List.replicate m x++List.replicate r z).take m++(List.replicate m x++List.replicate r z).take k++(List.replicate m x++List.replicate r z).drop (m+k)=List.replicate (m+k) x++List.replicate (r-k) z:=by rw[List.take_append,List.take_append,ajq];simp_all
def wb(x:Int)(n:Nat)(d:1<=n)(hn:n<2^20):ab 113 [gm [x],.i n] (gu<|List.replicate n x):=by
 refine cx func113 W<|cv W W (λh=>E) λh=>?_;refine kw [15,17] W W U<|Hh (us:=[.n .u64 (1:Nat),.n .u64 n]) W W U ⟨W,aal (SV.n .u64)<|wr E,U⟩ (EK 1 n gC E) W ?_;rw[aiV,ahf (E:n<18446744073709551616),ahr (E:n<18446744073709551616)];refine ck W 23 W (λh=>E) λh=>?_;refine cv W W (λh=>E) λh=>?_;refine r1 W bg<|oA W W W (XN (P:=prog) (ti:=⟨false,1,8,.v<|.int .i64 0⟩) W W underlying23 W W W (by simp;omega) I (n:=1) gn) W ?_;refine cp W (λm:Nat=>[(7,gu<|List.replicate m x++List.replicate (n-m) 0),(8,.i m)]) (λm=>1<=m/\m<=n) (λm=>n-m) 1 ⟨abY _,d⟩ ⟨⟨W,aj8 (gu) I⟩,G,U⟩ ?_;rintro m⟨g,f⟩;have a:(List.replicate m x++List.replicate (n-m) (0:Int)).length=n:=gn;refine cv W W ?_ ?_<;>intro b;have b:m<n:=by rw[a]at b;omega
 refine UW 6 W U<|YR hA W W ?_ ?_;simp[aj,app,abu,a];omega;refine UW 2 W U<|YR hA W W ?_ ?_;simp[aj,app,abu,a];omega;have c:List.replicate m x++List.replicate (n-m) (0:Int)≠[]:=λe=>gn;refine ry W W W (kf.same (Qf (P:=prog) (ti:=⟨false,1,8,.v<|.int .i64 0⟩) (k:=.i64) (xs:=List.replicate m x++List.replicate (n-m) (0:Int)) W W underlying23 W W W c (off:=m) (m1:=n-m) (m2:=m) (n:=min m<|n-m) W (by rw[a];omega) (by rw[a];omega) E E) W ?_ W W) W ?_;simp;refine k1 W aP bg ?_;rw[LW x 0 (Nat.min_le_left _ _)<|Nat.min_le_right _ _];refine again (m+min m (n-m)) E E ⟨⟨W,aj8 (gu) ?_⟩,⟨W,cw ?_⟩,U⟩
 congr 2;omega
 omega;have b:n<=m:=by rw[a]at b;omega
 refine cm W W<|aj8 (gu) ?_;simp_all
def zF:SV:=.agg [.i 0,.nil,.i 0,.nil]
def tiF:AL:=⟨true,4,64,zF⟩
def wa{x:SV}(h:x.aK=true):∀n,iG (List.replicate n x)=true
 |0=>rfl
 |n+1=>by simp[aiF,iG,h];exact wa h n
def VT{x:SV}(h:x.aK=true)(m n:Nat):iG (List.replicate m x++List.replicate n zF)=true:=by
 induction m with
 |zero=>simpa using wa gC n
 |succ m a=>simp[aiF,iG,h];exact a
def VU{x:SV}(h:oa tiF x=true)(m n:Nat):∀y∈List.replicate m x++List.replicate n zF,oa tiF y=true:=by intro y a;rcases aeM.1 a with a|a;simp_all;rw[(ajW.1 a).2];rfl
def Ti(x:SV)(f:oa tiF x=true)(c:x.aK=true)(n:Nat)(g:1<=n)(hn:n<2^20):ab 246 [.row false 4 [x],.i n] (.row true 4 (List.replicate n x)):=by
 refine cx func246 W<|cv W W (λh=>E) λh=>?_;refine kw [15,17] W W U<|Hh (us:=[.n .u64 (1:Nat),.n .u64 n]) W W U ⟨W,aal (SV.n .u64)<|wr E,U⟩ (EK 1 n gC E) W ?_;rw[aiV,ahf (E:n<18446744073709551616),ahr (E:n<18446744073709551616)];refine ck W 23 W (λh=>E) λh=>?_;refine cv W W (λh=>E) λh=>?_;refine r1 W bg<|oA W W W (XM (P:=prog) (ti':=tiF) W W underlying168 W (by simp;omega) I (wa gC _) (e7) (n:=1) gn) W ?_;refine cp W (λm:Nat=>[(7,.row true 4 (List.replicate m x++List.replicate (n-m) zF)),(8,.i m)]) (λm=>1<=m/\m<=n) (λm=>n-m) 1 ⟨abY _,g⟩ ⟨⟨W,aj8 (SV.row true 4)<|by rw[List.drop_replicate,agL];rfl⟩,G,U⟩ ?_;rintro m⟨k,j⟩;have a:(List.replicate m x++List.replicate (n-m) zF).length=n:=gn;refine cv W W ?_ ?_<;>intro b;have b:m<n:=by rw[fW,a]at b;omega
 refine UW 6 W U<|YR hA W W ?_ ?_;simp[aj,app,abu,fW,a];omega;refine UW 2 W U<|YR hA W W ?_ ?_;simp[aj,app,abu,fW,a];omega;have d:List.replicate m x++List.replicate (n-m) zF≠[]:=λe=>gn;refine ry W W W (kf.same (Qe (P:=prog) (ti':=tiF) (xs:=List.replicate m x++List.replicate (n-m) zF) W W underlying168 W d (VT c _ _) (VU f _ _) (off:=m) (m1:=n-m) (m2:=m) (n:=min m<|n-m) W (by rw[a];omega) (by rw[a];omega) E E) W ?_ W W) W ?_;show aE [_,_]=aE [SV.bH 500 0 0 [Step.oC 4 (m:Int).toNat<|len (List.replicate m x++List.replicate (n-m) zF)-(m:Int).toNat],SV.bH 500 0 0 [Step.oC 4 0 ((m:Int).toNat-0)]];rw[fW,a,agL,aiN];rfl;refine k1 W aP bg ?_;rw[LW x zF (Nat.min_le_left _ _)<|Nat.min_le_right _ _];refine again (m+min m (n-m)) E E ⟨⟨W,aj8 (SV.row true 4) ?_⟩,⟨W,cw ?_⟩,U⟩
 congr 2;omega
 omega;have b:n<=m:=by rw[fW,a]at b;omega
 refine cm W W<|aj8 (SV.row true 4) ?_;simp_all
def su(s:Int)(u:bw):∀(xs:L bw)(k:Nat),db s k (xs++[u])=if 0<=db s k xs then db s k xs else if u.out=s then((k+xs.length:Nat):Int)else -1
 |[],k=>by simp[db]
 |x::xs,k=>by simp[db];by_cases h:x.out=s;simp[h];simp[su s u xs _];omega
def ss{s:Int}:∀{xs:L bw}{k:Nat},0<=db s k xs↔1<=xs.countP λu=>decide (u.out=s)
 |[],k=>by simp[db]
 |x::xs,k=>by simp[db,List.countP_cons];by_cases h:x.out=s;simp[h];simp only[h,if_false,ss];omega
def BC{s:Int}:∀{xs:L bw}{k:Nat},¬0<=db s k xs->db s k xs= -1
 |[],k,_=>rfl
 |x::xs,k,h=>by simp only[db]at h⊢;by_cases g:x.out=s;omega;rw[abl g]at h⊢;exact BC h
def Gc{xs:L bw}{i:Nat}(h:i<xs.length)(P:bw->Bool):(xs.take<|i+1).countP P=(xs.take i).countP P+if P xs[i]then 1 else 0:=by rw[adY h,aiR,ajI]
def On(n:Nat)(us:L bw):L Int:=(List.range n).map λ(s:Nat)=>gT us (s:Int)
def aaW{n s:Nat}{us:L bw}(h:s<n):(On n us).getD s 0=gT us s:=by unfold On;simp_all
def xk:Int->List bw->List Int->List Int×Bool
 |_,[],L=>(L,!decide (-1∈L.drop 1))
 |k,u::r,L=>if 0<=L.getD u.out.toNat 0 then(L,false)else xk (k+1) r (L.set u.out.toNat k)
def P4(n:Nat)(us:L bw):L Int×Bool:=xk 0 us<|List.replicate n<|-1
def IQ(p:fZ)(h:uC p)(n:Nat)(hn:p.n=n)(k:1<=n)(e:n<2^20)(j:∀u∈p.aa,1<=u.out/\u.out<n):ab 165 [bV p] (.de [gm (P4 n p.aa).1,.u (P4 n p.aa).2]):=by have hl:=h.aa;refine cx func165 W<|r0 W<|Hh (us:=[gm [-1],.i n]) W W U ⟨W,aal SV.i hn,U⟩ (wb (-1) n k e) W<|r0 W<|lM (λ(i:Nat)(a:L Int)=>[(4,gu a),(12,aj3 p.aa),(13,.i p.aa.length),(14,.i i)]) (λi a=>i<=p.aa.length/\a.length=n/\P4 n p.aa=xk i (p.aa.drop i) a) (λi _=>p.aa.length-i) 0 (List.replicate n<|-1) ⟨abX _,I,W⟩ ⟨G,G,G,G,U⟩ ?_;rintro i a⟨hi,d,c⟩;refine cv W W ?_ ?_<;>intro g1;have b:i<p.aa.length:=E;have f:(i:Int).toNat=i:=E;have g:p.aa.getD i default=p.aa[i]:=az b;rw[ad5 b,xk]at c;have hu:=j _<|ab3 b;refine r1 W (by simp only[aj,abu,f,g,d];omega) ?_;rw[f,g];refine cg W ?_ ?_<;>intro g2;have g2:0<=a.getD p.aa[i].out.toNat 0:=g2;rw[abx g2]at c;refine r0 W<|OZ W ?_;rw[c];exact⟨W,W,U⟩;have g2:¬0<=a.getD p.aa[i].out.toNat 0:=g2;rw[abl g2]at c;refine r1 W (rc) ?_;refine aL (i+1,a.set p.aa[i].out.toNat i) ⟨ac,b5,f8⟩;rw[ahK E,xk]at c;refine r1 W (rc) ?_;refine b8 W (Qj _ (-1)<|by simp;omega) W ?_;refine r0 W<|OZ W ?_;rw[c];have:((a.drop (1:Int).toNat).take<|a.length-(1:Int).toNat)=a.drop 1:=ad2 I;refine⟨W,?_,U⟩;show(!decide (-1∈(a.drop (1:Int).toNat).take (a.length-(1:Int).toNat)))= !decide (-1∈a.drop 1);rw[this]
def P5(n:Nat)(us:List bw)(D:1<=n)(y:∀u∈us,1<=u.out/\u.out<n):∀(i:Nat)(L:List Int),i<=us.length->L.length=n->(∀s:Nat,s<n->L.getD s 0=gT (us.take i) s)->(∀s:Nat,((us.take i).countP λu=>decide (u.out=(s:Int)))<=1)->
 ((xk i (us.drop i) L).2=true↔ym n us)/\((xk i (us.drop i) L).2=true->(xk i (us.drop i) L).1=On n us):=by
 intro i
 induction hm:us.length-i generalizing i with
 |zero=>
  intro L hi p f hc;have B:us.take i=us:=ad2 E;rw[B]at f hc;rw[ahK E];simp only[xk,ahZ,decide_eq_false_iff_not];have a:¬ -1∈L.drop 1↔ym n us:=by
   constructor;intro hn s x w;have:0<=gT us s:=aha λl=>by refine hn<|ajh.2 ⟨s-1,by simp;omega,?_⟩;have e:1+(s-1)=s:=E;have A:gT us s= -1:=BC l;simp_all
   have r:=ss.1 this;have q:=hc s;omega;intro d a;obtain⟨j,z,e⟩:=ajh.1 a;rw[List.getElem_drop]at e;simp at z;have c:=f (1+j) E;rw[ad8,ad7 E,Option.getD_some,e]at c;have r:=d (1+j) E E;have q:=(ss (s:=((1+j:Nat):Int)) (xs:=us) (k:=0)).2 E;unfold gT at c;omega
  refine⟨a,λ_=>?_⟩;apply ahT;simp[On,p];intro s k1 k2;have c:=f s E;rw[ad8,ad7 k1,Option.getD_some]at c;simp[On,c]
 |succ m v=>
  intro L hi p f hc;have b:i<us.length:=E;have hu:=y _<|ab3 b;have t:((us[i].out.toNat:Nat):Int)=us[i].out:=E;rw[ad5 b,xk];have o:=f us[i].out.toNat E;rw[t]at o;by_cases g:0<=L.getD us[i].out.toNat 0;rw[abx g];refine⟨⟨λh=>by simp at h,λd=>?_⟩,λh=>by simp at h⟩;rw[o]at g;have c:=ss.1 g;have r:=d us[i].out.toNat E E;rw[t]at r;have q:=Gc b λu=>decide (u.out=us[i].out);simp[decide_true,if_true]at q;have A:((us.take<|i+1).countP λu=>decide (u.out=us[i].out))<=us.countP λu=>decide (u.out=us[i].out):=List.Sublist.countP_le<|List.take_sublist _ _;omega;rw[abl g];have:=v (i+1) E (L.set us[i].out.toNat i) E (by simpa using p) ?_ ?_;simpa using this;intro s hs;rw[ad8,aiA];rw[adY b];unfold gT;rw[su];have c:=f s hs;rw[ad8]at c;by_cases e:us[i].out.toNat=s;subst e;rw[o]at g;unfold gT at g
  grind
  rw[abl e,c];have C:¬us[i].out=(s:Int):=E;rw[abl C];by_cases g2:0<=db (s:Int) 0 (us.take i);rw[abx g2];rfl;rw[abl g2];exact BC g2;intro s;rw[Gc b];have c:=hc s;by_cases e:us[i].out=(s:Int);have g2:¬0<=db us[i].out 0 (us.take i):=by rw[o]at g;exact g
  rw[ss]at g2;simp_all;simp_all
def IP{n:Nat}{us:L bw}(b:1<=n)(a:∀u∈us,1<=u.out/\u.out<n):((P4 n us).2=true↔ym n us)/\((P4 n us).2=true->(P4 n us).1=On n us):=by have:=P5 n us b a 0 (List.replicate n<|-1) (abX _) I (λs hs=>by simp[hs,gT,db]) λs=>I;simpa[P4]using this
def f0:Fr:=⟨⟨0,none⟩,⟨1,none⟩⟩
instance:Inhabited Fr:=⟨f0⟩
def Xq:cB f0 0:=⟨by simp[f0,bz],by simp[f0,bz],W,W⟩
def qu(n:Nat)(us:L bw):L Fr:=us.foldl (λ(o:L Fr)u=>o.set u.out.toNat<|dq<|bp u.k)<|List.replicate n f0
def AH(n:Nat)(us:L bw):(qu n us).length=n:=by
 unfold qu;have:∀(us:L bw)(o:L Fr),(us.foldl (λ(o:L Fr)u=>o.set u.out.toNat<|dq<|bp u.k) o).length=o.length:=by
  intro us
  induction us with
  |nil=>intro o;rfl
  |cons u us a=>intro o;rw[agf,a];simp
 rw[this];simp
def UK{n:Nat}{us:L bw}{i:Nat}(h:i<us.length):qu n (us.take<|i+1)=(qu n<|us.take i).set us[i].out.toNat (dq<|bp us[i].k):=by unfold qu;rw[adY h,ahm];rfl
def x0:SV:=.agg [.i 0,.nil,.i 1,.nil]
def map_unit{x:SV}:∀n,aE (List.replicate n x)=(List.replicate n ()).map λ_=>x.den
 |0=>rfl
 |n+1=>by simp[aiF,aE,map_unit n]
def Tj(n:Nat)(a:1<=n)(hn:n<2^20):ab 246 [.row false 4 [eF f0],.i n] (.bm true 4 () (λ_=>x0)<|List.replicate n ()):=(Ti x0 W W n a hn).same W (by simp only[SV.den];rw[map_unit])
def Sw(p:fZ)(h:uC p)(n:Nat)(hn:p.n=n)(g:1<=n)(c:n<2^20)(hu:∀u∈p.aa,gF p.n u):ab 167 [bV p] (.bm true 4 f0 eF<|qu n p.aa):=by have hl:=h.aa;refine cx func167 W<|ct W W (f_s 0) W<|r0 W ?_;have e:=Tj n g c;rw[<-hn]at e;refine X0 W W U e W ⟨λ_=>rfl,U⟩<|k0 W aP<|vm [(3,.bm true 4 f0 eF<|List.replicate n f0),(12,aj3 p.aa),(13,.i p.aa.length),(14,.i 0)] ⟨⟨W,W,.bm ?_⟩,ak,ak,ak,U⟩ ?_;rw[aiv,aiv];exact mS.rep (.agg<|.cons (.refl _)<|.cons (.le<|show aB .nil (.gh .u64 [])from W)<|.cons (.refl _)<|.cons (.le<|show aB .nil (.gh .u64 [])from W) .nil) n;refine aU (λi:Nat=>[(3,.bm true 4 f0 eF<|qu n<|p.aa.take i),(12,aj3 p.aa),(13,.i p.aa.length),(14,.i i)]) (λi=>i<=p.aa.length) (λi=>p.aa.length-i) 0 (abX _) ?_;intro i hi;refine cv W W ?_ ?_<;>intro g1;have a:i<p.aa.length:=E;have f:(i:Int).toNat=i:=E;have j:p.aa.getD i default=p.aa[i]:=az a;have d:=hu _<|ab3 a;have k:=d.out;have b:=AH n<|p.aa.take i;refine r1 W (by simp[aj,abu,f];omega) ?_;rw[f,j];refine b9 W (jd d.k) W<|k1 W aP (by simp[aj,abu,b]<;>omega) ?_;refine again (i+1) E E ⟨⟨W,?_⟩,G,G,G,U⟩;refine⟨W,W,?_⟩;rw[UK a,agJ];exact lB.refl _;refine cm W W<|aB.of_eq ?_;rw[ad2 E];rfl
def Gu(l:L cj):ab 247 [.strs false l] (.fn (.func 314) [] [.box false<|.strs false l]):=by refine enter func247 W W W W<|cU 1 [(1,.box true<|.strs false l)] True ?_ λ_=>?_;exact r0 W<|bo U;refine s8 (r:=1) (p:=[]) W W U<|cq W W
def C3(l:L cj)(hl:l.length<2^40)(C:Value->Prop)(J:Nat->sV)(b:∀v,C v->∀k,k<l.length->Yields prog (J k) (J<|k+1) (aE [.i ((l.length-1-k:Nat):Int),.s<|l.getD (l.length-1-k) []]) true v):
 kg prog 314 [.abs<|J 0] [.pv C,.box false<|.strs false l] [.abs<|J l.length] (.de []):=by
 refine ns func314 W W W W W<|r1 W (bi) ?_;refine loop (λk:Nat=>[(0,.pv C),(1,.box _ _),(3,.i<|l.length-1-k),(500,.abs _)]) (λk=>k<=l.length) (λk=>l.length-k) 0 (abX _) ⟨G,G,⟨W,aj8 SV.i E⟩,W,U⟩ ?_;intro k e;refine cv W W ?_ ?_<;>intro g;have a:k<l.length:=E;have d:((l.length:Int)-1-k)=((l.length-1-k:Nat):Int):=E;rw[d];refine r1 W (bi) ?_;refine U1 W W U (λv c=>b v c k a) W<|r0 W<|qq W W W (λh=>by cases h) λ_=>?_;refine r1 W (aD) ?_;refine again (k+1) E E ⟨G,G,⟨W,aj8 SV.i E⟩,W,U⟩;have:k=l.length:=E;subst this;exact r0 W<|LM [(500,.abs<|J l.length)] ⟨W,U⟩ W U ⟨G,U⟩
def QB(x:Fr)(cs:L cj):Fr:=cs.foldr (λc s=>w7 (jW s x)<|dq<|bp c) f0
def abD:kV f0 1:=⟨gJ gC,gJ gC⟩
def BU{x:Fr}{q:Rat}(b:cB x q){L:Nat}(a:kV x L):∀{cs:List cj},(∀c∈cs,aV c=0)->cB (QB x cs) (CB q<|cs.map bp)/\kV (QB x cs) (cs.length*(L+601)+1)
 |[],_=>⟨Xq,by simpa[QB]using abD⟩
 |c::cs,h=>by obtain⟨j,i⟩:=BU b a (cs:=cs) λc hc=>h c (by simp[hc]);obtain⟨g,f⟩:=ku _ _ j b i a;obtain⟨e,d⟩:=Jf _ _ g (bt<|bp c) f<|fR<|h c I;refine⟨e,sg d ?_⟩;rw[acC,ajb];omega
def YU(cs:List cj)(hc:∀c∈cs,aV c=0)(hl:cs.length<2^10)(x:Fr){q:Rat}(f:cB x q){L:Nat}(e:kV x L)(s:L<2^20):ab 168 [.strs false cs,eF x] (eF<|QB x cs):=by
 refine cx func168 W<|cu W W (f_s 0) W<|cu W W (Gu cs) W<|r0 W<|O7 [5,3] [5,3] cs.length cs.length (λk=>[.i ((cs.length-1-k:Nat):Int),.s<|cs.getD (cs.length-1-k) []]) (λk=>[.box true<|eF<|QB x<|cs.drop<|cs.length-k,.box true<|eF x]) (λ_=>true) (λ_=>none) (.de [])
  rfl W W W W func314 W W W W W W (λ_ _=>rfl) (λ_=>rfl) ?_ ?_ W (λ_ _ _=>rfl) (λC J m=>C3 cs E C J λv n k g=>m v n k g λ_ _=>rfl) ?_ ?_ (λc h=>by cases h)
 intro k g z j;simp[adb,ahd,or_false]at j;rcases j with rfl|rfl<;>rfl;show[SV.box true<|eF<|QB x<|cs.drop<|cs.length-0,SV.box true<|eF x]=_;rw[aiN,ahw];rfl;intro k g _;have b:cs.length-1-k<cs.length:=E;obtain⟨l,i⟩:=BU f e (cs:=cs.drop<|cs.length-k) λc h=>hc c<|aic h;have a:(cs.drop<|cs.length-k).length=k:=by simp;omega
 rw[a]at i;have w:k*(L+601)<=1024*(L+601):=ad6 _ E;refine r0 W<|Ox<|cu W W (j5 _ _ l f i e E) W<|r0 W ?_;have d:=hc _<|ab3 b;refine Hh (us:=[.s cs[cs.length-1-k]]) W W U ⟨aal SV.s<|az b,U⟩ (jd d) W<|r0 W ?_;obtain⟨r,p⟩:=ku _ _ l f i e;refine b8 W (FH _ _ r (bt _) p (fR d) E) W<|r0 W ?_;have o:cs.drop (cs.length-(k+1))=cs[cs.length-1-k]::cs.drop (cs.length-k):=by have u:cs.length-(k+1)=cs.length-1-k:=E;have t:cs.length-k=cs.length-1-k+1:=E;simp_all
 refine Wy [(500,.box true<|eF<|QB x<|cs.drop<|cs.length-(k+1)),(501,.box true<|eF x)] W W ⟨⟨W,W,?_⟩,ak,U⟩ ⟨G,G,U⟩;rw[o];exact .refl _;intro _;rw[aiQ,ahe];refine cq W W
section
variable{fs:List GJ}{L:List Int}{i:Nat}
def WI(p:fZ)(L:List Int)(u:bw):ab 245 [bV p,gm L,fb u] (.fn (.func 313) [] [.box false<|fb u,.box false<|gm L]):=by refine enter func245 W W W W<|cU 1 [(4,.box true<|gm L),(5,.box true<|fb u)] True ?_ λ_=>?_;exact r0 W<|bo U;refine s8 (r:=4) (p:=[]) W W U<|s8 (r:=5) (p:=[]) W W U<|cq W W
def Ru(u:bw):ab 289 [fb u] (aj5 u.ai):=by exact enter func289 W W W W<|cq W W
def aah(u:bw)(h:1<=u.ai.length):ab 290 [fb u] (aj5<|u.ai.drop 1):=by refine enter func290 W W W W<|r1 W (bi) ?_;have e:(u.ai.drop (1:Int).toNat).take (u.ai.length-(1:Int).toNat)=u.ai.drop 1:=ad2 I;exact aJ W<|aj8 _ e
def nV(L:List Int)(fs:List GJ):List Int:=(fs.map λf=>L.getD f.sh.toNat 0).filter λi=>decide (0<=i)
def Ij(h:i<fs.length):nV L (fs.take<|i+1)=nV L (fs.take i)++if 0<=L.getD fs[i].sh.toNat 0 then[L.getD fs[i].sh.toNat 0]else[]:=by unfold nV;rw[adY h,adW,aji];by_cases g:0<=L.getD fs[i].sh.toNat 0;rw[abx g];simp only[ad3,ahj,List.filter_cons,decide_eq_true g,if_true,List.filter_nil];rw[abl g];simp only[ad3,ahj,List.filter_cons,decide_eq_false g,aim,if_false,List.filter_nil]
def Pu(h:i<fs.length):nV L fs=nV L (fs.take i)++((if 0<=L.getD fs[i].sh.toNat 0 then[L.getD fs[i].sh.toNat 0]else[])++nV L (fs.drop<|i+1)):=by rw[<-aen,<-Ij h];unfold nV;rw[<-aji,<-adW,ah1]
def YD(b:Nat->Bool)(n m:Nat):Prop:=(∀k,k<n->(∀j,j<k->b j=true)->b k=false->m=k+1)/\((∀k,k<n->b k=true)->m=n)
def TP(u:bw)(hu:UOk u){n:Int}(s:gF n u)(L:List Int)(K:n<=L.length)(b:Nat->Bool)(m:Nat)(hm:YD b (nV L<|bU u).length m)(C:Value->Prop)(J:Nat->sV)
 (D:∀v,C v->∀k,k<(nV L<|bU u).length->(∀j,j<k->b j=true)->Yields prog (J k) (J<|k+1) (aE [.i<|(nV L<|bU u).getD k 0]) (b k) v):
 kg prog 313 [.abs<|J 0] [.pv C,.box false<|fb u,.box false<|gm L] [.abs<|J m] (.de []):=by
 have H:=s.fl.1;have F:(bU u).length<2^40:=by unfold bU;split<;>simp<;>omega
 have p:∀f∈bU u,0<=f.sh/\f.sh<n:=λf z=>by
  have:f∈u.ai:=by unfold bU at z;split at z;exact aic z;exact z
  have:=s.feed f this;exact⟨this.1,this.2.1⟩
 refine ns (fn:=Tryz.f313) func313 W W W W W<|cU 1 [(0,.pv C),(1,.box false<|fb u),(2,.box false<|gm L),(13,aj5<|bU u),(14,.i (bU u).length),(15,.i 0),(500,.abs<|J 0)] True ?_ λ_=>?_;refine ct W W J6 W<|r0 W ?_;rcases s.kind with h|h|h;have a:bU u=u.ai.drop 1:=by unfold bU;rw[abx h]
 refine Dj kI W W W (mE (k:=u.kind) (x:=kI) underlying309 underlying9 (by rw[h];exact Fj) false) W ?_;refine ct W W (aah u (by have:=(s.int h).1;omega)) W ?_;refine k0 W aP ?_;rw[<-a];exact eV U ⟨G,G,G,G,G,G,W,U⟩;have a:bU u=u.ai:=by unfold bU;rw[abl<|by rw[h];exact Rv.symm]
 refine Dj kA W W W (mE (k:=u.kind) (x:=kA) underlying309 underlying9 (by rw[h];exact Fk) false) W ?_;refine ct W W (Ru u) W<|k0 W aP ?_;rw[<-a];exact eV U ⟨G,G,G,G,G,G,W,U⟩;have a:bU u=u.ai:=by unfold bU;rw[abl<|by rw[h];exact DP.symm]
 refine Dj kT W W W (mE (k:=u.kind) (x:=kT) underlying309 underlying9 (by rw[h];exact Fh) false) W ?_;refine ct W W (Ru u) W<|k0 W aP ?_;rw[<-a];exact eV U ⟨G,G,G,G,G,G,W,U⟩;generalize bU u=fs at*;refine cp W (λi:Nat=>[(0,.pv C),(2,.box false<|gm L),(13,aj5 fs),(14,.i fs.length),(15,.i i),(500,.abs<|J (nV L<|fs.take i).length)]) (λi=>i<=fs.length/\∀j,j<(nV L<|fs.take i).length->b j=true) (λi=>fs.length-i) 0 ⟨abX _,λj t=>by simp[nV]at t⟩ ⟨G,G,G,G,G,W,U⟩ ?_;rintro i⟨hi,q⟩;refine cv W W ?_ ?_<;>intro g;have d:i<fs.length:=E;have A:(i:Int).toNat=i:=E;have B:fs.getD i default=fs[i]:=az d;obtain⟨N,M⟩:=p _<|ab3 d;have hs:=Ij (L:=L) d;have o:=Pu (L:=L) d;refine r1 W (by simp only[aj,abu,A,B];omega) ?_;rw[A,B];obtain⟨c,hc⟩:∃c,c=(nV L<|fs.take i).length:=⟨_,W⟩;rw[<-hc]at q⊢;refine aI 26 W ?_ ?_<;>intro g2;have g2:0<=L.getD fs[i].sh.toNat 0:=g2;rw[abx g2]at hs o;have y:c<(nV L fs).length:=by rw[o];simp;omega
 have w:(nV L fs).getD c 0=L.getD fs[i].sh.toNat 0:=by rw[o,ad8,ahq E,hc];simp
 refine r0 W<|U1 W W U (λv s=>by have:=D v s c y q;rw[w]at this;exact this) W ?_;refine r0 W<|qq W W W ?_ ?_<;>intro r;have r:b c=false:=by simpa using r
 have:=hm.1 c y q r;subst this;refine r0 W<|LM [(500,.abs<|J<|c+1)] ⟨W,U⟩ W U ⟨G,U⟩;have r:b c=true:=by simpa using r
 refine r1 W (aD) ?_;have l:(nV L<|fs.take<|i+1).length=c+1:=by rw[hs,ad9,<-hc];rfl
 refine again (i+1) E ⟨E,λj t=>?_⟩ ⟨G,G,G,G,G,?_,U⟩;rw[l]at t;by_cases e:j=c;rw[e];exact r;exact q j E;rw[l];rfl;have g2:¬0<=L.getD fs[i].sh.toNat 0:=g2;rw[abl g2,ahl]at hs;refine r1 W (aD) ?_;refine again (i+1) E ⟨E,λj t=>?_⟩ ⟨G,G,G,G,G,?_,U⟩;rw[hs,<-hc]at t;exact q j t;rw[hs,<-hc];rfl;have:i=fs.length:=E;subst this;rw[aed]at q⊢;have:=hm.2 q;subst this;refine r0 W<|LM [(500,.abs<|J (nV L fs).length)] ⟨W,U⟩ W U ⟨G,U⟩
end
def IN(b:Nat->Bool):∀n,∃m,YD b n m/\(((∀k,k<n->b k=true)/\m=n)\/∃k,k<n/\m=k+1/\b k=false/\∀j,j<k->b j=true)
 |0=>⟨0,⟨λk c=>E,λ_=>rfl⟩,.inl ⟨λk c=>E,W⟩⟩
 |n+1=>by
  obtain⟨m,o,d⟩:=IN b n;rcases d with⟨d,rfl⟩|⟨k,k1,rfl,k3,k4⟩;cases g:b m with
  |true=>
   have a:∀k,k<m+1->b k=true:=λk c=>by grind
   exact⟨m+1,⟨λk c e f=>gn,λ_=>rfl⟩,.inl ⟨a,W⟩⟩
  |false=>
   refine⟨m+1,⟨λk c e f=>?_,λh=>abK (h m E)<|by rw[g];simp⟩,.inr ⟨m,E,W,g,d⟩⟩
   grind
  ·refine⟨k+1,⟨λl i e f=>?_,λh=>abK (h k E)<|by rw[k3];simp⟩,.inr ⟨k,E,W,k3,k4⟩⟩
   grind
def Ho(b:Nat->Bool):Nat->Bool
 |0=>true
 |k+1=>Ho b k&&b k
def oo{b:Nat->Bool}:∀{k},Ho b k=true↔∀j,j<k->b j=true
 |0=>by simp[Ho]
 |k+1=>by
  simp[Ho,oo]
  grind
def ZA(p:fZ)(u:bw)(hu:UOk u){n:Int}(H:gF n u)(L:List Int)(P:n<=L.length)(D:List Bool)(T:∀x∈L,x<D.length):
 kg prog 244 [.box true<|bV p,.box true<|gm L,.box true<|.dt true D] [fb u,.bH 500 0 0 [],.bH 501 0 0 [],.bH 502 0 0 []]
  [.box true<|bV p,.box true<|gm L,.box true<|.dt true D] (.u<|(nV L<|bU u).all λi=>D.getD i.toNat false):=by
 have o:∀x∈nV L (bU u),0<=x/\x<D.length:=by
  intro x r;unfold nV at r;rw[ahx]at r;obtain⟨w,R⟩:=r;obtain⟨f,N,rfl⟩:=ab4.1 w;have A:f∈u.ai:=by
   unfold bU at N
   grind
  have:=H.feed f A;have V:f.sh.toNat<L.length:=E;simp_all
 obtain⟨a,q⟩:∃a,a=nV L (bU u):=⟨_,W⟩;obtain⟨b,K⟩:∃b:Nat->Bool,b=λk=>D.getD (a.getD k 0).toNat false:=⟨_,W⟩;obtain⟨m,hm,l⟩:=IN b a.length;have v:a.all (λi=>D.getD i.toNat false)=Ho b a.length:=by rw[Bool.eq_iff_iff,oo,afY,K];constructor;simp_all;intro h x r;obtain⟨k,y,rfl⟩:=ajh.1 r;simp_all
 rw[<-q]at o⊢;rw[v];refine ns (fn:=Tryz.f244) func244 W W W W W<|cu W W (WI p L u) W<|r0 W<|O7 [5,502] [5,3] a.length m (λk=>[.i<|a.getD k 0]) (λ_=>[.box true<|.b false,.box true<|.dt true D]) b (λk=>if Ho b k=true then none else some .ret) (.de [])
  rfl W W W W func313 W W W W W W (λ_ _=>rfl) (λ_=>rfl) ?_ W W (λk _ h=>abx<|oo.2 h) (λC J M=>TP u hu H L P b m (by rw[<-q];exact hm) C J<|by rw[<-q];exact M) ?_ ?_ ?_
 intro k y z F;simp[adb,ahd,or_false]at F;rcases F with rfl|rfl<;>rfl;intro k y O;have r:=o _<|ab3 y;rw[<-az (d:=(0:Int)) y]at r;have t:b k=D.getD (a.getD k 0).toNat false:=by rw[K]
 refine r0 W<|Ox<|r1 W (am) ?_;refine qq W W W ?_ ?_<;>intro g;have g:b k=false:=by rw[t];simpa using g
 refine r0 W<|aeA [(500,.box true<|.b false),(501,.box true<|.dt true D)] g (abl λh=>by rw[oo]at h;grind) ⟨ak,ak,U⟩ ⟨G,G,U⟩;have g:b k=true:=by rw[t];simpa using g
 refine r0 W<|Wy [(500,.box true<|.b false),(501,.box true<|.dt true D)] g (abx (oo.2 λj S=>by grind)) ⟨ak,ak,U⟩ ⟨G,G,U⟩
 intro s;have B:Ho b a.length=true:=by rcases l with⟨w,R⟩|⟨k,k1,rfl,k3,k4⟩;exact oo.2 w;exfalso;by_cases e:Ho b (k+1)=true;have:=oo.1 e k E;simp_all;simp_all
 rw[B];refine r0 W<|LM [(5,.box true<|.b true),(500,.box true<|bV p),(501,.box true<|gm L),(502,.box true<|.dt true D)] ⟨ak,ak,ak,ak,U⟩ W (show true=true from W) ⟨G,G,G,U⟩;intro c s;rcases l with⟨w,rfl⟩|⟨k,k1,rfl,k3,k4⟩;rw[abx<|oo.2 w]at s;cases s;have e:¬Ho b (k+1)=true:=λh=>gn;rw[abl e,abL]at s;have B:Ho b a.length=false:=by grind
 rw[B];refine⟨s.symm,?_⟩;exact LM [(5,.box true<|.b false),(500,.box true<|bV p),(501,.box true<|gm L),(502,.box true<|.dt true D)] ⟨ak,ak,ak,ak,U⟩ W (show false=false from W) ⟨G,G,G,U⟩
def qi(n:Nat)(O:L Int):L Bool:=(List.range n).map λ(i:Nat)=>decide ((i:Int)∈O)
def BE(n:Nat)(O:L Int):(qi n O).length=n:=by simp[qi]
def BF{n i:Nat}{O:L Int}(h:i<n):(qi n O).getD i false=decide ((i:Int)∈O):=by unfold qi;simp_all
def Un{n i:Nat}{O:L Int}(h:i<n):(qi n O).set i true=qi n (O++[(i:Int)]):=by
 apply ahT;simp[qi];intro j k1 k2;simp[qi]
 grind
def Uo(n:Nat):qi n []=List.replicate n false:=by apply ahT;simp[qi];intro j k1 k2;simp[qi]
def VY{us:L bw}{n:Nat}{O:L Int}{u:bw}(hn:∀f∈bU u,0<=f.sh/\f.sh<n):((nV (On n us)<|bU u).all λi=>(qi us.length O).getD i.toNat false)=(bU u).all (mC us O):=by
 generalize bU u=j at*;rw[Bool.eq_iff_iff,afY,afY];have a:∀f∈j,(On n us).getD f.sh.toNat 0=gT us f.sh:=λf b=>by
  have:=hn f b;rw[aaW E]
  congr 1;omega
 constructor;intro h f b;unfold mC;rw[decide_eq_true_eq];by_cases g:gT us f.sh<0;exact .inl g;right;have hm:gT us f.sh∈nV (On n us) j:=by
  unfold nV
  grind
 have c:=h _ hm;have e:=BD us f.sh;rw[BF E,decide_eq_true_eq]at c
 grind
 intro h x d;unfold nV at d;rw[ahx]at d;obtain⟨k,c⟩:=d;obtain⟨f,b,rfl⟩:=ab4.1 k;rw[a f b]at c⊢;have e:=h f b;unfold mC at e;rw[decide_eq_true_eq]at e c;have l:=BD us f.sh;rw[BF E,decide_eq_true_eq]
 grind
def Ri(p:fZ)(h:uC p)(n:Nat)(hn:p.n=n)(H:∀u∈p.aa,gF p.n u)(D:p.aa.length<=96):
 ab 166 [bV p,gm<|On n p.aa] (.de [gu<|if p.aa.length<=(aA p.aa).length then aA p.aa else[],.u<|decide (p.aa.length<=(aA p.aa).length)]):=by
 have v:(On n p.aa).length=n:=by simp[On]
 have N:∀x∈On n p.aa,x<(p.aa.length:Int):=by intro x C;obtain⟨s,-,rfl⟩:=ab4.1 C;exact BD _ _
 refine cx func166 W<|r1 W (am) ?_;refine agD W W<|cp W (λO:L Int=>[(2,.box true<|bV p),(3,.box true<|gm<|On n p.aa),(6,gu O),(7,.box true<|.dt true<|qi p.aa.length O),(8,.ix 244 [(2,0),(3,0),(7,0)])])
  (λO=>O.Nodup/\(∀x∈O,0<=x/\x<p.aa.length)/\aA p.aa=fD p.aa (p.aa.length+1-O.length) O) (λO=>p.aa.length-O.length) [] ⟨aee,I,W⟩
  ⟨G,G,G,⟨W,aB.of_eq<|by rw[Uo];rfl⟩,G,U⟩ ?_
 rintro O⟨k,o,d⟩;have K:=zu k o;refine cv W W ?_ ?_<;>intro g;have g:O.length<p.aa.length:=E;refine r0 W<|aU (λi:Nat=>[(2,.box true<|bV p),(3,.box true<|gm<|On n p.aa),(6,gu O),(7,.box true<|.dt true<|qi p.aa.length O),(8,.ix 244 [(2,0),(3,0),(7,0)]),(23,aj3 p.aa),(24,.i p.aa.length),(25,.i i)]) (λi=>i<=p.aa.length/\dE p.aa O 0=dE p.aa O i) (λi=>p.aa.length-i) 0 ⟨abX _,W⟩ ?_;rintro i⟨hi,a⟩;refine cv W W ?_ ?_<;>intro g1;have b:i<p.aa.length:=E;have q:(i:Int).toNat=i:=E;have F:p.aa.getD i default=p.aa[i]:=az b;have l:=H _<|ab3 b;rw[kQ b]at a;have r:kF p.aa O i=(decide (¬(i:Int)∈O)&&(bU p.aa[i]).all (mC p.aa O)):=by unfold kF;rw[F]
 rw[r]at a;refine r1 W (by simp only[aj,abu,q,BE];omega) ?_;rw[q,F,BF b];refine iD 35 W ?_ ?_<;>intro g2;have g2:¬(i:Int)∈O:=by simpa using g2
 rw[decide_eq_true g2,ahL]at a;refine r0 W<|ag0 W W (ZA p p.aa[i] (h.unit _<|ab3 b) l (On n p.aa) (by rw[v,hn];omega) (qi p.aa.length O)<|by rw[BE];exact N) W ?_;rw[VY (O:=O) λf J=>by
  have t:f∈p.aa[i].ai:=by
   unfold bU at J
   grind
  have:=l.feed f t;omega]
 refine r0 W<|qq W W W ?_ ?_<;>intro z;rw[abx z]at a;have m:¬dE p.aa O 0<0:=by rw[a];omega
 obtain⟨B,A⟩:=zr k o m;have w:aA p.aa=fD p.aa (p.aa.length+1-(O++[(i:Int)]).length) (O++[(i:Int)]):=by
  have e:p.aa.length+1-O.length=(p.aa.length+1-(O++[(i:Int)]).length)+1:=by grind
  rw[d,e,fD,abl m,a]
 rw[a]at B A;refine r1 W (by simp only[aj,abu,q,BE];simp;omega) ?_;refine again (O++[(i:Int)]) (by simp;omega) ⟨B,A,w⟩ ⟨G,G,G,⟨W,aj8 (SV.box true)<|aal (SV.dt true) ?_⟩,G,U⟩;rw[q,Un b];rw[abl<|by rw[z];simp]at a;refine r1 W (am) ?_;refine aL (i+1) ⟨E,a⟩;have g2:(i:Int)∈O:=by simpa using g2
 rw[decide_eq_false λhh=>hh g2,Bool.false_and,abl I]at a;refine r1 W (am) ?_;refine aL (i+1) ⟨E,a⟩;rw[oO (j:=i) E]at a;have c:aA p.aa=O:=by have e:p.aa.length+1-O.length=(p.aa.length-O.length)+1:=E;rw[d,e,fD,abx<|by rw[a];decide]
 rw[c,abl E,decide_eq_false E];refine cm W W ⟨W,W,U⟩;have M:O.length=p.aa.length:=E;have c:aA p.aa=O:=by
  have e:p.aa.length+1-O.length=0+1:=E;rw[d,e,fD];have:dE p.aa O 0<0:=by
   rcases ri p.aa O 0 with e|⟨i,-,-,P,y⟩;rw[e];decide;exfalso;unfold kF at y;simp only[adS,decide_eq_true_eq]at y;have:=zu (us:=p.aa) (out:=(i:Int)::O) (af6.2 ⟨y.1,k⟩) (λx C=>by grind)
   simp at this;omega
  rw[abx this]
 rw[c,abx E,decide_eq_true E];refine cm W W ⟨W,W,U⟩
end Go.Ai.Pg
section
namespace Go.Ai.Pg
def abS{n:Nat}{us:L bw}(h:∀u∈us,aV u.k=0)(s:Nat)(hs:s<n):cB ((qu n us).getD s f0) ((bC n us).getD s 0)/\kV ((qu n us).getD s f0) 600:=by
 have key:∀(us:L bw)(o:L Fr)(q:L Rat),(∀u∈us,aV u.k=0)->o.length=q.length->(∀s,s<o.length->cB (o.getD s f0) (q.getD s 0)/\kV (o.getD s f0) 600)->
  (us.foldl (λ(o:L Fr)u=>o.set u.out.toNat<|dq<|bp u.k) o).length=o.length/\∀s,s<o.length->cB ((us.foldl (λ(o:L Fr)u=>o.set u.out.toNat<|dq<|bp u.k) o).getD s f0) ((us.foldl (λ(o:L Rat)u=>o.set u.out.toNat<|bp u.k) q).getD s 0)/\kV ((us.foldl (λ(o:L Fr)u=>o.set u.out.toNat<|dq<|bp u.k) o).getD s f0) 600:=by
  intro us
  induction us with
  |nil=>simp
  |cons u us b=>
   intro o q a hl h;have:=b (o.set _<|dq _) (q.set _<|bp u.k) (λv c=>a v<|by simp[c]) (d8) (λs hs=>by rw[ahy]at hs;have d:s<q.length:=E;rw[ad8,ad8,aiA,aiA];by_cases e:u.out.toNat=s;subst e;rw[abx W,abx W,abx hs,abx d];exact⟨bt _,fR<|a u I⟩;simp_all)
   grind
 have f:=key us (List.replicate n f0) (List.replicate n 0) h I (λs hs=>by rw[az hs,az<|by simpa using hs,List.getElem_replicate,List.getElem_replicate];exact⟨Xq,sg abD gC⟩)
 exact f.2 s (by simpa using hs)
open Classical in
def o6(p:fZ)(h:uC p)(b:gg p=0):ab 80 [bV p] (.i 0):=by
 have N:¬(p.n<1\/100<p.n):=λa=>by rw[gg,abx a]at b;cases b
 rw[gg,abl N]at b;have M:¬96<p.aa.length:=λa=>eY
 rw[abl M]at b;have c3:bE (mg p.n) p.aa=0:=aha λa=>by rw[abx a]at b;exact a b
 rw[abl<|by rw[c3];simp]at b;have R:¬24<p.ints.length:=λa=>eY
 rw[abl R]at b;have D:¬∃k∈p.ints,k<0\/p.n<=k:=λa=>eY
 rw[abl D]at b;have P:¬24<aW p.aa:=λa=>eY
 rw[abl P]at b;have x:ym p.n.toNat p.aa:=aiY λa=>eY
 rw[abl<|not_not_intro x]at b;have O:¬(aA p.aa).length<p.aa.length:=λa=>eY
 rw[abl O]at b;have C:¬∃u∈p.aa,conflict p.n.toNat p.aa u:=λa=>eY
 obtain⟨n,hn⟩:∃n:Nat,p.n=n:=⟨p.n.toNat,E⟩;have l:∀u∈p.aa,gF p.n u:=λu hu=>pD<|a8.1 c3 u hu;have f:∀u∈p.aa,1<=u.out/\u.out<n:=λu hu=>by have:=(l u hu).out;omega
 rw[show p.n.toNat=n from E]at x C;refine cx func80 W<|cU 3 [(1,.box true<|bV p)] True ?_ λ_=>?_;refine ck W 20 W (λg1=>abK g1 E) λ_=>?_;refine ct W W (pB _ 3) W<|ct W W (pB _ 5) W<|ct W W (wH _ I) W<|k0 W aP<|cg W (λg=>abK (by rw[decide_eq_false<|show¬(100:Int)<p.n from E,decide_eq_false<|show¬(96:Int)<p.aa.length from E];rfl) g) λ_=>?_;refine r0 W<|aU (λi:Nat=>[(1,.box true<|bV p),(37,aj3 p.aa),(38,.i p.aa.length),(39,.i i)]) (λi=>i<=p.aa.length) (λi=>p.aa.length-i) 0 (abX _) ?_;intro i hi;refine cv W W ?_ ?_<;>intro w;have d:i<p.aa.length:=E;have o:(i:Int).toNat=i:=E;have hm:=ab3 d;refine r1 W (pi) ?_;rw[o,az d];refine b8 W (KH p _ (h.unit _ hm)<|l _ hm) W<|cv W W (λg=>abK W g) λ_=>?_;refine r1 W (am) ?_;exact aL (i+1) E;refine r0 W<|bo U;refine s8 (r:=1) (p:=[]) W W U<|cU 2 [(1,.box false<|bV p)] True ?_ λ_=>?_;refine cu W W (NS p p.ints E) W<|ct W W (pB _ 5) W<|ct W W (pB _ 10) W<|ct W W (KA p h) W<|ct W W (pB _ 5) W<|ct W W (wH _ I) W<|k0 W aP<|cg W (λg=>abK (by rw[decide_eq_false<|show¬(24:Int)<p.ints.length from E,decide_eq_false D,decide_eq_false<|show¬(24:Int)<aW p.aa from E];rfl) g) λ_=>?_;refine r0 W<|bo U;obtain⟨K,J⟩:=IP (us:=p.aa) (n:=n) E f;have g:=K.2 x;refine cu W W (IQ p h n hn E E f) W<|r0 W ?_;rw[g,J g];refine qq W W W (λg=>by cases g) λ_=>?_;refine cu W W (Ri p h n hn l E) W<|r0 W<|qq W W W (λg2=>abK (show p.aa.length<=(aA p.aa).length from E)<|by simpa using g2) λ_=>?_;refine cu W W (Sw p h n hn E E l) W<|r0 W<|aU (λi:Nat=>[(13,.bm true 4 f0 eF<|qu n p.aa),(88,aj3 p.aa),(89,.i p.aa.length),(90,.i i)]) (λi=>i<=p.aa.length) (λi=>p.aa.length-i) 0 (abX _) ?_;intro i hi;refine cv W W ?_ ?_<;>intro w;have d:i<p.aa.length:=E;have o:(i:Int).toNat=i:=E;have hm:=ab3 d;have c:=l _ hm;have s:¬conflict n p.aa p.aa[i]:=λq=>C ⟨_,hm,q⟩;refine r1 W (pi) ?_;rw[o,az d];refine cg W ?_ ?_<;>intro m;have m:p.aa[i].kind=dO:=m;have S:=c.table m;have t:p.aa[i].ai.getD 0 default∈p.aa[i].ai:=gn;have j:=c.feed _ t;have v:=AH n p.aa;obtain⟨B,A⟩:=abS (n:=n) (us:=p.aa) (λu hu=>(l u hu).k) (p.aa[i].ai.getD 0 default).sh.toNat E;refine r1 W (am) ?_;refine b9 W (jd j.2.2.1) W<|r1 W (by simp only[aj,abu,v,Int.toNat_zero];omega) ?_;obtain⟨m1,y⟩:=ku _ _ (bt<|bp (p.aa[i].ai.getD 0 default).dQ) B (fR j.2.2.1) A;refine b9 W (j5 _ _ (bt _) B (fR j.2.2.1) A gC) W<|k0 W aP<|b9 W (YU _ c.c8 E _ m1 y gC) W<|ct W W (jd c.k) W<|r0 W ?_;obtain⟨H,F⟩:=BU m1 y (cs:=p.aa[i].c8) c.c8;refine b9 W (aax _ _ H (bt<|bp p.aa[i].k) F (fR c.k) E) W<|k0 W aP<|qq W W W (λz=>?_) λ_=>?_;simp only[ahZ,decide_eq_false_iff_not]at z;exact abK ⟨m,λe=>z e.symm⟩ s;refine r1 W (am) ?_;exact aL (i+1) E;refine r1 W (am) ?_;exact aL (i+1) E;refine cq W W
end Go.Ai.Pg
end
namespace Go.Ai.Pg
section
variable{K:Nat}{q:Rat}
def vH(q:Rat):(0:Rat)<((q.den:Int):Rat):=by have:=q.den_pos;exact Rat.intCast_pos.2 E
def kr(q:Rat):q*((q.den:Int):Rat)=(q.num:Rat):=by
 have a:=vH q;have h:=ajT q;rw[ajG]at h
 grind
def rK(k:Nat):(((2:Int)^k:Int):Rat)=(2:Rat)^k:=by simp
def To(k:Nat)(q:Rat):(2:Rat)^k<=q↔(2:Int)^k*q.den<=q.num:=by have a:=vH q;have he:=kr q;rw[<-ajj,aho,rK];constructor;intro h;have:=ajX h<|ahh a;simp_all;intro h;rw[<-he]at h;exact ajL h a
def Tn(k:Nat)(q:Rat):((2:Rat)^k)⁻¹ <=q↔(q.den:Int)<=(2:Int)^k*q.num:=by
 have c:=vH q;have b:=zj k;rw[<-ajj,aho,rK,<-(kr q)];generalize (2:Rat)^k=t at*;generalize ((q.den:Int):Rat)=d at*;have hi:=Rat.mul_inv_cancel t λe=>gn;constructor;intro h;have a:=aiw h<|ahh b;rw[hi]at a;have i:=ajX a<|ahh c
 grind
 intro h;have a:(1:Rat)*d<=(t*q)*d:=by grind
 have g:=aiw (ajL a c)<|ahh<|aiS.2 b;have f:t⁻¹ *(t*q)=q:=by grind
 simp_all
def JJ(n:Nat):fY (uT ⟨2,none⟩ n) (n+1):=by
 have b:=show(-9223372036854775808:Int)<=2/\(2:Int)<=9223372036854775807 from gC;obtain⟨e,-⟩:=nf ⟨2,none⟩ n b;unfold fY;rw[e];show(bI.ah ((2:Int)^n).natAbs).length<=n+1;have a:((2:Int)^n).natAbs=2^n:=gq;rw[a];clear e a
 induction n with
 |zero=>exact gJ gC
 |succ n c=>rw[agS];have f:=bI.eW (2^n) 2;have d:(bI.ah 2).length<=1:=gJ gC;omega
def adq(f:Fr)(a:cB f q)(c:kV f K)(r:K<2^20)(k:Int)(p: -1048576<k/\k<1048576):ab 221 [.i k,.box false<|eF f] (.u<|decide (iO k<=q)):=by
 have h:bz ⟨2,none⟩:=show(-9223372036854775808:Int)<=2/\(2:Int)<=9223372036854775807 from gC;refine cx func221 W<|r0 W ?_;have d:fY ⟨2,none⟩ 1:=gJ (m:=2) gC;refine cg W ?_ ?_<;>intro g;obtain⟨j,rfl⟩:∃j:Nat,k=j:=⟨k.toNat,E⟩;obtain⟨l,b⟩:=nf ⟨2,none⟩ j h;obtain⟨m1,n⟩:=dw (uT ⟨2,none⟩ j) f.d b a.d;have o:=ig b a.d (JJ j) c.2;refine ct W W (EF 2) W<|ct W W (HZ _ j h d E E) W<|ct W W (uh _ f.d b a.d (JJ j) c.2 E) W<|ct W W (XS _ f.n n a.n o (eh c.1<|show K<=j+1+K from E) E) W<|k0 W aP<|aJ W<|aj8 SV.u ?_;rw[decide_eq_decide];have e:iO (j:Int)=(2:Rat)^j:=gq;rw[e,To,m1,l,a.vd,a.vn,show nv ⟨2,none⟩=2 from W]
 grind
 obtain⟨j,rfl⟩:∃j:Nat,k= -(j:Int):=⟨(-k).toNat,E⟩;obtain⟨l,b⟩:=nf ⟨2,none⟩ j h;obtain⟨m1,n⟩:=dw (uT ⟨2,none⟩ j) f.n b a.n;have o:=ig b a.n (JJ j) c.1;refine ct W W (EF 2) W<|r1 W bg<|UY (us:=[eN ⟨2,none⟩,.i j]) W W U ⟨⟨W,W,U⟩,aal SV.i E,U⟩ (HZ _ j h d E E) W<|ct W W (uh _ f.n b a.n (JJ j) c.1 E) W<|ct W W (XS f.d _ a.d n (eh c.2<|show K<=j+1+K from E) o E) W<|k0 W aP<|aJ W<|aj8 SV.u ?_;rw[decide_eq_decide];have e:iO (-(j:Int))=((2:Rat)^j)⁻¹ :=by unfold iO;simp_all
 rw[e,Tn,m1,l,a.vd,a.vn,show nv ⟨2,none⟩=2 from W]
 grind
def Su(h:0<q.num):iO ((bl q.num.natAbs:Int)-bl q.den-1)<=q:=by
 have he:=kr q;have g:2^(bl _-1)<=q.num.natAbs:=AG E;have i:=Ja q.den;have f:=BP (x:=q.num.natAbs) E;have e:iO ((bl q.num.natAbs:Int)-bl q.den-1)*(2:Rat)^bl q.den=(2:Rat)^(bl q.num.natAbs-1):=by rw[<-lJ];unfold iO;grind
 have d:((q.den:Int):Rat)<=(2:Rat)^bl q.den:=nm
 have c:(2:Rat)^(bl q.num.natAbs-1)<=(q.num:Rat):=nm
 have b:=aiw d<|ahh<|wg<|(bl q.num.natAbs:Int)-bl q.den-1;rw[e]at b;have a:=aix b c;rw[<-he]at a;exact ajL a<|vH q
def Sv(h:0<q.num):¬iO ((bl q.num.natAbs:Int)-bl q.den+1)<=q:=by
 intro a;have he:=kr q;have e:2^(bl _-1)<=q.den:=AG (by have:=q.den_pos;omega);have d:=Ja q.num.natAbs;have c:=BP (x:=q.den) (by grind);have j:iO ((bl q.num.natAbs:Int)-bl q.den+1)*(2:Rat)^(bl q.den-1)=(2:Rat)^bl q.num.natAbs:=by rw[<-lJ];unfold iO;grind
 have b:(2:Rat)^(bl q.den-1)<=((q.den:Int):Rat):=nm
 have i:(q.num:Rat)<(2:Rat)^bl q.num.natAbs:=by
  rw[<-rK];refine Rat.intCast_lt_intCast.2 ?_
  grind
 have g:=aiw b<|ahh<|wg<|(bl q.num.natAbs:Int)-bl q.den+1;have f:=ajX a<|ahh<|vH q
 grind
def Sr{x:Nat}(h:(bI.ah x).length<=K):bl x<=64*K:=by
 apply aha;intro hn;have a:x≠0:=λe=>by rw[e]at hn;simp[bl]at hn
 have g:=AG a;have f:2^(64*K)<=2^(bl x-1):=aeh gC E;have d:=bI.nG x;have c:18446744073709551616^(bI.ah x).length<=18446744073709551616^K:=aeh gC h;have b:(18446744073709551616:Nat)^K=2^(64*K):=by rw[ahU]
 omega
def PU(f:Fr)(c:cB f q)(g:kV f K)(s:K<2^12)(m:0<q.num):ab 124 [eF f] (.i<|vy q):=by
 have n:=Su m;have o:=Sv m;have u:bl q.num.natAbs<2^19:=by have:=Sr g.1;rw[c.vn]at this;omega
 have t:bl q.den<2^19:=by have:=Sr g.2;rw[c.vd,ahW]at this;omega
 obtain⟨a,k⟩:∃a,a=(bl q.num.natAbs:Int)-bl q.den:=⟨_,W⟩;have j:∀e:Int,a-3<=e/\e<=a+3->ab 221 [.i e,.box false<|eF f] (.u<|decide (iO e<=q)):=λe h=>adq f c g E e E;have n1:=Qu f.n c.n g.1 E;have l:=Qu f.d c.d g.2 E;rw[c.vn]at n1;rw[c.vd,ahW]at l;refine cx func124 W<|cU 2 [(1,.box true<|eF f),(3,.i a)] True ?_ λ_=>?_;refine ct W W n1 W<|ct W W l W<|k1 W aP bg<|eV U ⟨G,⟨W,aj8 SV.i k.symm⟩,U⟩;refine s8 (r:=1) (p:=[]) W W U<|Gb 2 (λe:Int=>[(3,.i e),(4,.fn (.func 221) [] [.box false<|eF f])]) (λe=>iO e<=q/\e<=a/\a-1<=e) ?_ ?_;refine r0 W<|aU (λe:Int=>[(3,.i e),(4,.fn (.func 221) [] [.box false<|eF f])]) (λe=>e<=a/\a-1<=e) (λe=>(e-(a-1)).toNat) a ⟨E,E⟩ ?_;rintro e⟨g1,g2⟩;refine cu W W (j e E) W<|r0 W<|qq W W W ?_ ?_<;>intro b;have b:¬iO e<=q:=ed
 have:e≠a-1:=λh=>gn;refine r1 W bg<|aL (e-1) ⟨E,E⟩;have b:iO e<=q:=ed
 refine r0 W<|iX e ⟨b,g1,g2⟩;rintro e⟨g1,g2,b⟩;refine r0 W<|aU (λe:Int=>[(3,.i e),(4,.fn (.func 221) [] [.box false<|eF f])]) (λe=>iO e<=q/\e<=a/\a-1<=e) (λe=>(a-e).toNat) e ⟨g1,g2,b⟩ ?_;rintro e⟨g1,g2,b⟩;refine r1 W bg<|b8 W (j (e+1) E) W<|r0 W<|qq W W W ?_ ?_<;>intro d;have d:iO (e+1)<=q:=b5
 have:e≠a:=λh=>gn;refine r1 W bg<|aL (e+1) ⟨d,E,E⟩;have d:¬iO (e+1)<=q:=b5
 refine cm W W<|aj8 SV.i (jB ⟨g1,d⟩).symm
end
end Go.Ai.Pg
section
namespace Go.Ai.Pg
def Ab(l:L Int)(hl:l.length<2^60):ab 52 [gm l] (.i<|bE id l):=by refine enter func52 W W W W<|r0 W<|aU (λi:Nat=>[(5,.ints _ _ l),(6,.i _),(7,.i i)]) (λi=>i<=l.length/\bE id l=bE id (l.drop i)) (λi=>l.length-i) 0 ⟨abX _,W⟩ ?_;rintro i⟨hi,a⟩;refine cv W W ?_ ?_<;>intro h;have b:i<l.length:=E;have d:(i:Int).toNat=i:=E;rw[im _ b]at a;refine r1 W (eD) ?_;refine cg W ?_ ?_<;>intro c;refine cm W W<|cw ?_;rw[a];simp_all;refine r1 W (bi) ?_;refine aL (i+1) ⟨E,?_⟩;rw[a];simp_all;refine cm W W<|cw ?_;rw[a,ahK E];rfl
def qB(b:Bool)(e:Int):ab 53 [.u b,.i e] (.i<|if b then e else 0):=by refine enter func53 W W W W<|r0 W<|qq W W W ?_ ?_<;>intro h;refine cm W W<|cw ?_;rw[h];rfl;refine cm W W<|cw ?_;rw[h];rfl
def H0(n lo hi:Int):ab 170 [.i n,.i lo,.i hi] (.u<|decide (n<lo\/hi<n)):=by
 refine enter func170 W W W W<|ck W 10 W ?_ ?_<;>intro h;exact cm W W<|(decide_eq_true<|.inl h).symm;refine cm W W<|aj8 SV.u ?_
 grind
def X7{b:iM}(c:US b):ab 81 [oc b] (.i 0):=by
 have e:∀x∈wZ b,0<=x/\x<=40:=by simp[wZ];exact⟨c.c,c.d,c.s,c.g⟩
 refine cx func81 W<|r0 W<|aU (λi:Nat=>[(13,gu<|wZ b),(14,.i 4),(15,.i i)]) (λi=>i<=4) (λi=>4-i) 0 (abX _) ?_;intro i hi;refine cv W W ?_ ?_<;>intro h;have a:(wZ b).length=4:=W;have:=e _<|aN (d:=0)<|show i<(wZ b).length from E;refine r1 W (gd) ?_;refine b8 W (H0 _ 0 40) W<|cg W (λh=>abK h<|by rw[show(i:Int).toNat=i from E];omega) λ_=>?_;refine r1 W (aD) ?_;exact aL (i+1) E;refine cq W W
open Classical in
def nc(p:fZ)(rs:L fG):Int:=if gg p≠0 then gg p else my p.n rs
def Lu(rs:L fG)(b:∀s∈rs,cE s.lo/\cE s.hi)(d:bE fP rs=0)(hl:rs.length<2^60):ab 54 [aj2 rs] (.i 0):=by refine cx func54 W<|r0 W<|aU (λi:Nat=>[(6,aj2 rs),(7,.i rs.length),(8,.i i)]) (λi=>i<=rs.length) (λi=>rs.length-i) 0 (abX _) ?_;intro i hi;refine cv W W ?_ ?_<;>intro h;have a:i<rs.length:=E;have c:(i:Int).toNat=i:=E;refine r1 W (by simp[aj,c];omega) ?_;rw[c,az a];have hm:=ab3 a;refine b8 W (QW rs[i] (b _ hm).1 (b _ hm).2<|a8.1 d _ hm) W<|cv W W (λe=>abK W e) λ_=>?_;refine r1 W (aD) ?_;exact aL (i+1) E;refine cq W W
def LY{p:fZ}{rs:L fG}(h:nc p rs=0):gg p=0/\(rs.length:Int)=p.n/\bE fP rs=0:=by unfold nc my at h;split at h;contradiction;split at h;cases h;exact⟨E,E,h⟩
def vN(p:fZ)(h:uC p)(rs:L fG)(b:∀s∈rs,cE s.lo/\cE s.hi)(hl:rs.length<2^40)(he:nc p rs=0):ab 205 [bV p,aj2 rs] (.i 0):=by obtain⟨a,d,c⟩:=LY he;refine cx func205 W<|cu W W (o6 p h a) W<|cv W W (λg=>abK W g) λ_=>?_;refine cu W W (qB _ 2) W<|cu W W (Lu rs b c E) W<|cu W W (Ab _ I) W<|cm W W<|aj8 SV.i<|by simp[bE,d]
end Go.Ai.Pg
end
namespace Go.Ai.Pg
section
variable{K:Nat}{q:Rat}{s:fG}
def AJ(q:Rat):o8 q=if q<0 then -q else q:=by unfold o8;by_cases h:q<0;rw[abx h,abx<|Int.not_le.1 λg=>abK (ahH.1 g)<|aiT.2 h];rw[abl h,abl<|Int.not_lt.2<|ahH.2<|Rat.not_lt.1 h]
def KG(p q:Rat):0<=wY p q↔q<=p:=by unfold wY;rw[Int.sign_nonneg_iff,ahH];constructor<;>grind
def wq(p q:Rat):pV p q=if q<=p then p else q:=by unfold pV;by_cases h:q<=p;rw[abx h,abx<|(KG p q).2 h];rw[abl h,abl λg=>h<|(KG p q).1 g]
def SpL(s:fG):Prop:=SpV s/\bp s.lo<=bp s.hi
def Ec(h:fP s=0):SpL s:=by refine⟨B8 h,?_⟩;unfold fP at h;exact oZ.1<|Int.not_lt.1 λg=>E
def ada(h:SpL s):J4 s=if bp s.hi< -bp s.lo then -bp s.lo else bp s.hi:=by
 have hl:=h.2;unfold J4;rw[wq,AJ,AJ]
 grind
def lgF(s:fG):Fr:=if bp s.hi< -bp s.lo then⟨kq (dq<|bp s.lo).n,(dq<|bp s.lo).d⟩else dq (bp s.hi)
def JZ{f:Fr}(h:cB f q)(hs:kV f K):kV ⟨kq f.n,f.d⟩ K:=⟨oP h.n hs.1,hs.2⟩
def MF(h:SpL s):cB (lgF s) (J4 s)/\kV (lgF s) 600:=by rw[ada h];unfold lgF;obtain⟨-,a⟩:=Ft _ (bt _) (fR h.1.1).1 gC;by_cases g:bp s.hi< -bp s.lo;rw[abx g,abx g];exact⟨a,JZ (bt _)<|fR h.1.1⟩;rw[abl g,abl g];exact⟨bt _,fR h.1.2⟩
def wu(s:fG)(h:SpL s):ab 120 [fc s] (eF<|lgF s):=by
 obtain⟨n1,a⟩:=Ft _ (bt _) (fR h.1.1).1 gC;refine enter func120 W W W W<|ct W W (jd h.1.1) W<|b9 W n1 W<|ct W W (jd h.1.2) W<|k0 W aP<|b8 W (Ko _ _ a (bt _) (JZ (bt _)<|fR h.1.1) (fR h.1.2) gC) W ?_;have hs:((-bp s.lo).num*(bp s.hi).den-(bp s.hi).num*(-bp s.lo).den).sign>0↔bp s.hi< -bp s.lo:=by rw[Rat.lt_iff,gt_iff_lt,Int.sign_pos_iff];omega
 refine cv W W ?_ ?_<;>intro g;refine cm W W<|aB.of_eq ?_;unfold lgF;rw[abx<|hs.1 g];rfl;have g:=λh=>g<|hs.2 h;refine cm W W<|aB.of_eq ?_;unfold lgF;rw[abl g];rfl
def Kp(h:0<q.num):∃e,ua q e/\(bl q.num.natAbs:Int)-bl q.den-1<=e/\e<=(bl q.num.natAbs:Int)-bl q.den:=by have a:=Su h;have b:=Sv h;generalize (bl _:Int)-bl _=c at*;by_cases g:iO c<=q;exact⟨c,⟨g,b⟩,E,E⟩;refine⟨c-1,⟨a,?_⟩,E,E⟩;simp_all
def aaz(f:Fr)(b:cB f q)(a:kV f K)(i:K<2^12)(h:0<q.num): -524289<=vy q/\vy q<=524289:=by obtain⟨e,c,k,j⟩:=Kp h;rw[jB c];have g:=Sr a.1;rw[b.vn]at g;have d:=Sr a.2;rw[b.vd,ahW]at d;omega
def PV(m:Int){x:Rat}(h:0<x.num):vy (iO m*x)=m+vy x:=by
 obtain⟨e,b,-,-⟩:=Kp h;rw[jB b];have add:∀k:Int,iO (m+k)=iO m*iO k:=by
  intro k;rcases Int.le_total 0 k with g|g;obtain⟨j,rfl⟩:∃j:Nat,k=j:=⟨k.toNat,E⟩;rw[lJ];rfl;obtain⟨j,rfl⟩:∃j:Nat,k= -(j:Int):=⟨(-k).toNat,E⟩;have i:=lJ (m+ -(j:Int)) j;have f:=lJ (-(j:Int)) j;have d:iO 0=1:=W
  grind
 have c:=wg m;refine jB ⟨?_,?_⟩;rw[add];exact aiw b.1<|ahh c;rw[show m+e+1=m+(e+1)from E,add];intro a;refine b.2 ?_;rw[Rat.mul_comm _,Rat.mul_comm<|iO m]at a;exact ajL a c
def Ro(f:Fr){a:Rat}(d:cB f a)(k:kV f K)(m:K<2^12)(o:0<=a)(dM:Int)(hm: -1000000<=dM/\dM<=1000000):ab 208 [eF f,.i dM] (.i<|kS a dM):=by
 refine cx func208 W<|cu W W (tK f d) W<|cv W W ?_ ?_<;>intro g;have g:a.num=0:=gn;refine cm W W<|cw ?_;unfold kS;simp_all;have g:¬a.num=0:=gn;have j:a≠0:=λh=>g (by rw[h];rfl);obtain⟨i1,l⟩:=wx f d j k;have c:0<a⁻¹ :=aiS.2 (by grind);have b:0<(a⁻¹).num:=by
  rcases Int.lt_or_eq_of_le (ahH.2<|ahh c)with e|e;exact e;have:=ait.1 e.symm
  grind
 have n:=aaz _ i1 l m b;refine cu W W (Xk f d j k E) W<|b8 W (PU _ i1 l m b) W<|r1 W bc<|aJ W<|cw ?_;unfold kS;rw[abl j,Rat.div_def,PV dM b];rfl
end
def CN(p:fZ)(rs:L fG)(b:iM)(S:L Int)(a:L (L Int)):SV:=
 .agg [.i p.n,aj3 p.aa,gm p.ints,aj2 rs,.i b.c,.i b.d,.i b.s,.i b.g,gu S,.bm true 1 [] (gu) a]
def aeZ(p:fZ)(rs:L fG)(b:iM):AO (.box true<|.agg [.i p.n,aj3 p.aa,gm p.ints,aj2 rs,.i b.c,.i b.d,.i b.s,.i b.g,.nil,.nil]) (.box true<|CN p rs b [] []):=by have e:AO .nil (gu []):=.le<|rfl;have a:AO .nil (.bm true 1 [] (gu) []):=.le<|rfl;exact .box<|.agg<|.cons (.refl _)<|.cons (.refl _)<|.cons (.refl _)<|.cons (.refl _)<|.cons (.refl _)<|.cons (.refl _)<|.cons (.refl _)<|.cons (.refl _)<|.cons e<|.cons a .nil
def oD(p:fZ)(rs:L fG)(b:iM):Int:=if nc p rs≠0 then nc p rs else tY b
def ow(rs:L fG)(b:iM):L Int:=rs.map λs=>kS (J4 s) b.s
def lZ(rs:L fG)(b:iM)(u:bw):L Int:=(List.range u.ai.length).map λk=>tE rs b u k
def nY(rs:L fG)(b:iM)(us:L bw):L (L Int):=us.map<|lZ rs b
def YM(f:GJ):Fr:=if bp f.dQ<0 then⟨kq (dq<|bp f.dQ).n,(dq<|bp f.dQ).d⟩else dq (bp f.dQ)
def Xp{f:GJ}(h:aV f.dQ=0):cB (YM f) (o8<|bp f.dQ)/\kV (YM f) 600:=by obtain⟨-,a⟩:=Ft _ (bt _) (fR h).1 gC;rw[AJ];unfold YM;by_cases g:bp f.dQ<0;rw[abx g,abx g];exact⟨a,JZ (bt _)<|fR h⟩;rw[abl g,abl g];exact⟨bt _,fR h⟩
def Yq{a b:Rat}(c:0<=b):o8 (a*b)=b*o8 a:=by
 rw[AJ,AJ];by_cases g:a<0;have d:0<=(-a)*b:=Rat.mul_nonneg (by grind) c;split<;>grind;have d:0<=a*b:=Rat.mul_nonneg (by grind) c
 grind
def YL(p:fZ)(rs:L fG)(b:iM)(j:Nat)(u:bw)(k:Nat):L (Nat×SV):=
 [(1,aj2 rs),(3,.box true<|bV p),(5,.box true<|oc b),(15,gu<|(lZ rs b u).take k),(14,.box true<|fb u),(35,.box true<|CN p rs b (ow rs b)<|(nY rs b p.aa).take j),(10,.bH 35 0 0 []),
  (65,aj5 u.ai),(66,.i u.ai.length),(67,.i k),(58,aj3 p.aa),(59,.i p.aa.length),(60,.i j)]
def ae1(p:fZ)(rs:L fG)(b:iM)(j:Nat):L (Nat×SV):=[(1,aj2 rs),(3,.box true<|bV p),(5,.box true<|oc b),(35,.box true<|CN p rs b (ow rs b)<|(nY rs b p.aa).take j),(10,.bH 35 0 0 []),(58,aj3 p.aa),(59,.i p.aa.length),(60,.i j)]
def ZL(p:fZ)(h:uC p)(rs:L fG)(hx:∀s∈rs,cE s.lo/\cE s.hi)(hl:rs.length<2^40)(b:iM)(he:oD p rs b=0)(hv:∀u∈p.aa,gF p.n u)(hr:RgV p.n rs)(y:∀s∈rs,SpL s)(l:US b)(E1:p.aa.length<=96)(hn:p.n<=100):
 ab 114 [bV p,aj2 rs,oc b] (.de [.box true<|CN p rs b (ow rs b)<|nY rs b p.aa,.i 0]):=by
 have P:nc p rs=0:=by apply aha;intro g;unfold oD at he;omega
 have A0:=hr.len;refine cx func114 W<|cu W W (vN p h rs hx hl P) W<|cv W W (λg=>abK W g) λ_=>?_;refine cu W W (X7 l) W<|cv W W (λg=>abK W g) λ_=>?_;refine r0 W<|vm [(1,aj2 rs),(3,.box true<|bV p),(5,.box true<|oc b),(35,.box true<|CN p rs b [] []),(10,.bH 35 0 0 []),(36,aj2 rs),(37,.i rs.length),(38,.i 0)]
  ⟨ak,ak,ak,⟨W,W,aeZ p rs b⟩,mv,ak,ak,ak,U⟩<|aU (λi:Nat=>[(1,aj2 rs),(3,.box true<|bV p),(5,.box true<|oc b),(35,.box true<|CN p rs b ((ow rs b).take i) []),(10,.bH 35 0 0 []),(36,aj2 rs),(37,.i rs.length),(38,.i i)]) (λi=>i<=rs.length) (λi=>rs.length-i) 0 (abX _) ?_
 intro i hi;have z:(ow rs b).length=rs.length:=by simp[ow]
 refine cv W W ?_ ?_<;>intro g1;have F:i<rs.length:=E;have ei:(i:Int).toNat=i:=E;have eg:rs.getD i default=rs[i]:=az F;have hs:=y _<|ab3 F;obtain⟨x,w⟩:=MF hs;refine r1 W (by simp only[aj,abu,ei];omega) ?_;rw[ei,eg];refine b9 W (wu _ hs) W<|ct W W (Ro _ x w gC (tB _) b.s (by have:=l.s;omega)) W ?_;refine k1 W aP (by simp only[aj,abu,afS,z]<;>simp<;>omega) ?_;refine again (i+1) E E ⟨G,G,G,⟨W,aB.of_eq ?_⟩,mv,G,G,G,U⟩;have e:(ow rs b).take (i+1)=(ow rs b).take i++[kS (J4 rs[i]) b.s]:=by rw[adY E];simp[ow]
 rw[e];rfl;have:i=rs.length:=E;subst this;rw[<-z,aed];refine r0 W ?_;have D:(nY rs b p.aa).length=p.aa.length:=by simp[nY]
 refine aU (ae1 p rs b) (λj=>j<=p.aa.length) (λj=>p.aa.length-j) 0 (abX _) ?_;intro j hj;unfold ae1;refine cv W W ?_ ?_<;>intro g2;have B:j<p.aa.length:=E;have ej:(j:Int).toNat=j:=E;have M:p.aa[j]∈p.aa:=ab3 B;have eu:p.aa.getD j default=p.aa[j]:=az B;refine r1 W (by simp only[aj,abu,ej]<;>omega) ?_;rw[ej,eu];have hu:=hv _ M;have Y:=hu.fl.1;generalize N:p.aa[j]=u at*;have o:(lZ rs b u).length=u.ai.length:=by simp[lZ]
 refine aU (YL p rs b j u) (λk=>k<=u.ai.length) (λk=>u.ai.length-k) 0 (abX _) ?_;intro k hk;unfold YL;refine cv W W ?_ ?_<;>intro g3;have r:k<u.ai.length:=E;have Z:(k:Int).toNat=k:=E;have V:u.ai.getD k default=u.ai[k]:=az r;have v:=hu.feed _<|ab3 r;have v:=hu.feed _<|ab3 r;have C:tE rs b u k=kS (MY rs u.ai[k]) (if u.kind=bk/\k=0 then b.d else b.s):=by unfold tE;rw[V]
 have O:(lZ rs b u).take (k+1)=(lZ rs b u).take k++[tE rs b u k]:=by rw[adY E];simp[lZ]
 obtain⟨f,hf⟩:∃f,u.ai[k]=f:=⟨_,W⟩;rw[hf]at v C V;obtain⟨f1,f2,T,f4⟩:=v;obtain⟨n1,n2⟩:=Ft (dq<|bp f.dQ) (bt _) (fR T).1 gC;obtain⟨m1,J⟩:=Xp T;refine rn 3 W<|cU 3 [(1,aj2 rs),(3,.box true<|bV p),(5,.box true<|oc b),(15,gu<|(lZ rs b u).take k),(14,.box true<|fb u),(35,.box true<|CN p rs b (ow rs b)<|(nY rs b p.aa).take j),(10,.bH 35 0 0 []),(65,aj5 u.ai),(66,.i u.ai.length),(67,.i k),(58,aj3 p.aa),(59,.i p.aa.length),(60,.i j),(16,.i k),(17,.box true<|uy f),(18,.box true<|eF<|YM f)] True ?_ λ_=>?_;refine r1 W (by simp only[aj,abu,Z]<;>omega) ?_;rw[Z,V];refine b8 W (jd T) W<|cu W W (tK _<|bt _) W<|r0 W ?_;have hs:(bp f.dQ).num.sign<0↔bp f.dQ<0:=by
  rw[ahF];have:=ahH (q:=bp f.dQ)
  grind
 refine cg W ?_ ?_<;>intro d;have d:=hs.1 d;refine cu W W n1 W<|r0 W ?_;have e:YM f=⟨kq (dq<|bp f.dQ).n,(dq<|bp f.dQ).d⟩:=by unfold YM;rw[abx d]
 rw[e];exact bo U;have d:¬bp f.dQ<0:=λh=>d<|hs.2 h;have e:YM f=dq (bp f.dQ):=by unfold YM;rw[abl d]
 rw[e];refine r0 W<|bo U;have A:f.sh.toNat<rs.length:=E;have K:rs.getD f.sh.toNat default=rs[f.sh.toNat]:=az A;have c:=y _<|ab3 A;obtain⟨x,w⟩:=MF c;obtain⟨X,q2⟩:=ku (lgF rs[f.sh.toNat]) (YM f) x m1 w J;have R:J4 rs[f.sh.toNat]*o8 (bp f.dQ)=MY rs f:=by unfold MY;rw[K,Yq<|tB _]
 rw[R]at X;have S:∀m:Int,0<=m/\m<=40->ab 208 [eF<|jW (lgF rs[f.sh.toNat])<|YM f,.i m] (.i<|kS (MY rs f) m):=λm hm=>Ro _ X q2 gC (oq _) m E;refine r0 W ?_;have a:∀m:Int,0<=m/\m<=40->m=(if u.kind=bk/\k=0 then b.d else b.s)->aB (gu<|(lZ rs b u).take k++[kS (MY rs f) m]) (gu<|(lZ rs b u).take<|k+1):=by intro m hm e;refine aB.of_eq ?_;rw[O,C,e]
 refine aI 84 W ?_ ?_<;>intro d;refine cv W W ?_ ?_<;>intro H;have H:u.kind=bk:=H;have hc:b.d=(if u.kind=bk/\k=0 then b.d else b.s):=gn;refine r1 W (am) ?_;rw[K];refine b9 W (wu _ c) W<|ct W W (j5 _ _ x m1 w J gC) W<|ct W W (S b.d l.d) W<|k1 W aP (m4) ?_;exact again (k+1) E E ⟨G,G,G,⟨W,a _ l.d hc⟩,G,G,mv,G,G,G,G,G,G,U⟩;have H:¬u.kind=bk:=H;have hc:b.s=(if u.kind=bk/\k=0 then b.d else b.s):=gn;refine r1 W (am) ?_;rw[K];refine b9 W (wu _ c) W<|ct W W (j5 _ _ x m1 w J gC) W<|ct W W (S b.s l.s) W<|k1 W aP (m4) ?_;exact again (k+1) E E ⟨G,G,G,⟨W,a _ l.s hc⟩,G,G,mv,G,G,G,G,G,G,U⟩;have hc:b.s=(if u.kind=bk/\k=0 then b.d else b.s):=E;refine r1 W (am) ?_;rw[K];refine b9 W (wu _ c) W<|ct W W (j5 _ _ x m1 w J gC) W<|ct W W (S b.s l.s) W<|k1 W aP (m4) ?_;exact again (k+1) E E ⟨G,G,G,⟨W,a _ l.s hc⟩,G,G,mv,G,G,G,G,G,G,U⟩;have:k=u.ai.length:=E;subst this;have t:(lZ rs b u).take u.ai.length=lZ rs b u:=by grind
 rw[t];refine r1 W (by simp only[aj,abu,len,adZ,afS,D]<;>omega) ?_;refine kL (j+1) E E ⟨ak,ak,ak,⟨W,W,.box<|.agg<|.cons (.refl _)<|.cons (.refl _)<|.cons (.refl _)<|.cons (.refl _)<|.cons (.refl _)<|.cons (.refl _)<|.cons (.refl _)<|.cons (.refl _)<|.cons (.refl _)<|.cons (.row ?_) .nil⟩,mv,ak,ak,ak,U⟩;have e:(nY rs b p.aa).take (j+1)=(nY rs b p.aa).take j++[lZ rs b u]:=by rw[adY E];simp[nY,N]
 rw[dA,e,adW];exact mS.refl _;have:j=p.aa.length:=E;subst this;rw[<-D,aed];refine cq W W
def ue(f:Nat):SV:=.agg [.fn (.func f) [] []]
def abi:jy cj:=[(bk,ue 275),(jN,ue 276),(dO,ue 277)]
def Zr:ab 210 [] (.mx abi):=by refine enter func210 W W W W<|r0 W<|oA W W W (tz (κ:=cj) W) W<|r0 W<|oA W W W (te (k:=bk) (x:=ue 275) (.inl W) W underlying287 underlying9 W W) W<|r0 W<|oA W W W (te (k:=jN) (x:=ue 276) (.inl W) W underlying287 underlying9 W W) W<|r0 W<|oA W W W (te (k:=dO) (x:=ue 277) (.inl W) W underlying287 underlying9 W W) W<|cq W W
def aaE(u:bw)(L:List Int)(n:Int)(b:iM):SV:=.agg [.s u.kind,aj5 u.ai,.i u.out,.s u.k,.strs false u.c8,gm L,.i n,.i b.c,.i b.d,.i b.s,.i b.g]
def cI(L:List Int)(b:iM)(u:bw):List jz:=
 [⟨-1,-1,L.getD 0 0+40⟩,⟨(u.ai.getD 0 default).sh,-1,L.getD 0 0+b.g⟩,⟨-1,(u.ai.getD 0 default).sh,b.g-L.getD 0 0⟩,⟨u.out,-1,L.getD 1 0+L.getD 0 0-b.c⟩,
  ⟨-1,u.out,40+b.c-L.getD 0 0⟩,⟨u.out,(u.ai.getD 1 default).sh,b.g+L.getD 0 0-b.c⟩,⟨(u.ai.getD 1 default).sh,u.out,b.g-L.getD 0 0+b.c⟩]
def cA(L:List Int)(b:iM)(u:bw)(k:Nat):List jz:=[⟨u.out,-1,L.getD k 0⟩,⟨u.out,(u.ai.getD k default).sh,b.g⟩,⟨(u.ai.getD k default).sh,u.out,b.g⟩]
def cT(L:List Int)(n:Int)(b:iM)(u:bw):List jz:=[⟨n,-1,L.getD 0 0⟩,⟨-1,n,40⟩,⟨n,(u.ai.getD 0 default).sh,b.g⟩,⟨(u.ai.getD 0 default).sh,n,b.g⟩]
def Lim(x:Int):Prop:= -1000000<=x/\x<=1000000
def Zt(u:bw)(L:List Int)(n:Int)(b:iM)(d:US b)(g:u.ai.length=2)(h:L.length=2)(hl:∀x∈L,Lim x):
 ab 275 [aaE u L n b] (aj7<|cI L b u):=by
 obtain⟨x,y,rfl⟩:∃x y,L=[x,y]:=by
  match L,h with
  |[x,y],_=>exact⟨x,y,W⟩
 have f:=hl x I;have e:=hl y I;unfold Lim at f e;have i:=d.g;have hc:=d.c;have c:Int.toNat 0=0:=W;have a:Int.toNat 1=1:=W;refine cx func275 W<|k1 W aP (by simp[aj,abu,c,a,g,acC,ad1,ajV,List.getD_cons_succ]<;>omega) ?_;exact aJ W mv
def Zu(u:bw)(L:List Int)(n:Int)(b:iM)(i:u.ai.length=L.length)(j:L.length<=8):
 ab 276 [aaE u L n b] (aj7<|(List.range u.ai.length).flatMap<|cA L b u):=by
 refine cx func276 W<|r0 W<|aU (λk:Nat=>[(1,.box true<|aaE u L n b),(3,aj7<|(List.range k).flatMap<|cA L b u),(8,aj5 u.ai),(9,.i u.ai.length),(10,.i k)]) (λk=>k<=u.ai.length) (λk=>u.ai.length-k) 0 (abX _) ?_;intro k h;have d:((List.range k).flatMap<|cA L b u).length<=k*3:=fL (f:=cA L b u) (c:=3) (λk=>by simp[cA]) k;refine cv W W ?_ ?_<;>intro g;have e:k<u.ai.length:=E;have a:(k:Int).toNat=k:=E;refine k1 W aP (by simp only[aj,abu,a,len,adZ,acC,ad1]<;>omega) ?_;refine again (k+1) E E ⟨G,⟨W,W,W,?_⟩,G,G,G,U⟩;rw[dA,nF,adW,a];exact lB.refl _;have:k=u.ai.length:=E;subst this;refine cq W W
def Zs(u:bw)(L:List Int)(n:Int)(b:iM)(c:u.ai.length=1)(a:L.length=1):
 ab 277 [aaE u L n b] (aj7<|cT L n b u):=by
 refine enter func277 W W W W<|k1 W aP (by simp[aj,a]<;>omega) ?_;exact aJ W mv
def CO(p:fZ)(rs:L fG)(b:iM)(S:L Int)(a:L (L Int)):SV:=
 .agg [.i p.n,aj3 p.aa,gm p.ints,aj2 rs,.i b.c,.i b.d,.i b.s,.i b.g,gm S,.bm false 1 [] (gm) a]
def Zh(rs:L fG)(b:iM){s:Nat}(h:s<rs.length):(ow rs b).getD s 0=Q0 rs b s:=by unfold ow Q0;rw[ad8,ad8,ahB,ad7 h];rfl
def MT(rs:L fG)(b:iM)(u:bw):(lZ rs b u).length=u.ai.length:=by simp[lZ]
def vo(rs:L fG)(b:iM)(u:bw){k:Nat}(h:k<u.ai.length):(lZ rs b u).getD k 0=tE rs b u k:=by unfold lZ;rw[ad8,ahB,List.getElem?_range h];rfl
def W7(rs:L fG)(b:iM)(us:L bw){i:Nat}(h:i<us.length):(nY rs b us).getD i []=lZ rs b us[i]:=by unfold nY;rw[ad8,ahB,ad7 h];rfl
def aap(rs:L fG)(b:iM)(u:bw){n:Int}(hu:gF n u)(d:RgV n rs)(hl:rs.length<2^40)(c:u.ai.length<2^40)(f:US b):∀x∈lZ rs b u,Lim x:=by intro x a;unfold lZ at a;rw[ab4]at a;obtain⟨k,e,rfl⟩:=a;obtain⟨-,g,c3⟩:=wE rs b u k hu (aec.1 e) d hl c f;unfold Lim;omega
def afQ(rs:L fG)(b:iM)(u:bw)(h:u.ai.length=2):cI (lZ rs b u) b u=Gh rs b u:=by unfold cI Gh;rw[vo rs b u E,vo rs b u E]
def afR(rs:L fG)(b:iM)(u:bw):(List.range u.ai.length).flatMap (cA (lZ rs b u) b u)=(List.range u.ai.length).flatMap (BL rs b u):=by
 have:∀k∈List.range u.ai.length,cA (lZ rs b u) b u k=BL rs b u k:=by intro k a;unfold cA BL;rw[vo rs b u<|aec.1 a]
 rw[List.flatMap_def,List.flatMap_def,af3 this]
def afO(rs:L fG)(b:iM)(u:bw)(n:Int)(h:u.ai.length=1):cT (lZ rs b u) n b u=KE n rs b u:=by unfold cT KE;rw[vo rs b u E]
def tV(p:fZ)(h:uC p)(n:Nat)(hn:p.n=n)(A0:n<=100)(N:p.aa.length<=96)(M:∀u∈p.aa,gF p.n u)(rs:L fG)(b:iM)(P:RgV p.n rs)(S:US b):
 ab 115 [.box false<|CO p rs b (ow rs b)<|nY rs b p.aa] (.de [aj7<|kK n p.aa rs b,.i ((n+j9 p.aa p.aa.length:Nat):Int)]):=by
 have Y:=h.aa;have H:rs.length=n:=by have:=P.len;omega
 have F:(ow rs b).length=n:=by simp[ow,H]
 have r:(nY rs b p.aa).length=p.aa.length:=by simp[nY]
 have hU:∀i,(hi:i<p.aa.length)->(vK ((n+j9 p.aa i:Nat):Int) rs b<|p.aa.getD i default).length<=24:=by intro i hi;have hu:=M _<|ab3 hi;rw[az hi];unfold vK;split;simp[Gh];split;rename_i g;have:=fL (f:=BL rs b p.aa[i]) (c:=3) (λk=>by simp[BL]) p.aa[i].ai.length;have:=(hu.add g).2.1;omega;split;simp[KE];simp
 have D:∀i,i<=p.aa.length->(oG n p.aa rs b i).length<=200+24*i:=by
  intro i
  induction i with
  |zero=>intro _;have:=fL (f:=Gg rs b) (c:=2) (λk=>by simp[Gg]) n;simp only[oG,sC,List.range_zero,List.flatMap_nil,ahl];omega
  |succ i X=>intro hi;have:=X E;have:=hU i E;rw[yo,ad9];omega
 refine cx func115 W<|r0 W<|aU (λs:Nat=>[(0,.box false<|CO p rs b (ow rs b)<|nY rs b p.aa),(4,aj7<|sC rs b s),(14,gm<|ow rs b),(15,.i (ow rs b).length),(16,.i s)]) (λs=>s<=n) (λs=>n-s) 0 (abX _) ?_;intro s hs;have O:(sC rs b s).length<=s*2:=fL (f:=Gg rs b) (c:=2) (λk=>by simp[Gg]) s;refine cv W W ?_ ?_<;>intro K;have Z:s<n:=E;have T:(s:Int).toNat=s:=E;have A:=Zh rs b (show s<rs.length from E);refine r1 W (by simp only[aj,abu,T,F,len,adZ,acC,ad1]<;>omega) ?_;rw[T,A];refine again (s+1) E E ⟨G,⟨W,W,W,?_⟩,G,G,G,U⟩;rw[dA,sC,sC,nF,adW];exact lB.refl _;have:s=n:=E;subst this;have h0:sC rs b s=oG s p.aa rs b 0:=by unfold oG;simp
 rw[h0];refine cu W W Zr W<|cp W (λi:Nat=>[(0,.box false<|CO p rs b (ow rs b)<|nY rs b p.aa),(4,aj7<|oG s p.aa rs b i),(7,.mx abi),(8,.i ((s+j9 p.aa i:Nat):Int)),(40,aj3 p.aa),(41,.i p.aa.length),(42,.i i)])
  (λi=>i<=p.aa.length) (λi=>p.aa.length-i) 0 (abX _) ⟨G,G,G,⟨W,aj8 SV.i<|by rw[hn];simp[j9]⟩,G,G,G,U⟩ ?_
 intro i hi;refine cv W W ?_ ?_<;>intro K;have l:i<p.aa.length:=E;have q:(i:Int).toNat=i:=E;have A:p.aa.getD i default=p.aa[i]:=az l;have hu:=M _<|ab3 l;have m:=hu.fl.1;have R:=D i hi;have a:=yo s p.aa rs b i;have d:=py l;have F0:=Ar p.aa i;have j:=W7 rs b p.aa l;rw[A]at a;obtain⟨u,eu⟩:∃u,p.aa[i]=u:=⟨_,W⟩;rw[eu]at hu m a d j A;have w:=aap rs b u hu P E m S;have J:=MT rs b u;have V:=Rv;have B:=DP;have C:=J8;refine r1 W (o4) ?_;rw[q,A];by_cases v:u.kind=bk;have e:¬u.kind=dO:=by rw[v];exact B
 have y:=(hu.int v).1;rw[abl e]at d;unfold vK at a;rw[abx v]at a;refine Dj (ue 275) W W W (mE (k:=u.kind) (x:=ue 275) underlying287 underlying9 (by rw[v];rfl) false) W ?_;refine r1 W (ol) ?_;rw[q,j];refine b9 W (Zt u (lZ rs b u) _ b S y E w) W ?_;rw[afQ rs b u y];refine k1 W aP (by simp only[aj,abu,len,adZ,Gh,acC,ad1];exact⟨λ_=>rfl,λ_=>rfl,E⟩) ?_;refine cg W (λo=>abK o e) λ_=>?_;refine r1 W bj<|again (i+1) E E ⟨G,⟨W,W,W,?_⟩,G,⟨W,aj8 SV.i<|by rw[d];rfl⟩,G,G,G,U⟩;rw[dA,a,adW];exact lB.refl _;unfold vK at a;rw[abl v]at a;by_cases o:u.kind=jN;have e:¬u.kind=dO:=by rw[o];exact C
 rw[abl e]at d;rw[abx o]at a;have E2:=(hu.add o).2.1;have E1:=fL (f:=BL rs b u) (c:=3) (λk=>by simp[BL]) u.ai.length;refine Dj (ue 276) W W W (mE (k:=u.kind) (x:=ue 276) underlying287 underlying9 (by rw[o];rfl) false) W ?_;refine r1 W (ol) ?_;rw[q,j];refine b9 W (Zu u (lZ rs b u) _ b J.symm E) W ?_;rw[afR rs b u];refine k1 W aP (by simp only[aj,abu,len,adZ];exact⟨λ_=>rfl,λ_=>rfl,E⟩) ?_;refine cg W (λt=>abK t e) λ_=>?_;refine r1 W bj<|again (i+1) E E ⟨G,⟨W,W,W,?_⟩,G,⟨W,aj8 SV.i<|by rw[d];rfl⟩,G,G,G,U⟩;rw[dA,a,adW];exact lB.refl _;rw[abl o]at a;have t:u.kind=dO:=by rcases hu.kind with g|g|g;exact abK g v;exact abK g o;exact g
 rw[abx t]at a d;have z:=(hu.table t).1;refine Dj (ue 277) W W W (mE (k:=u.kind) (x:=ue 277) underlying287 underlying9 (by rw[t];rfl) false) W ?_;refine r1 W (ol) ?_;rw[q,j];refine b9 W (Zs u (lZ rs b u) _ b z E) W ?_;rw[afO rs b u _ z];refine k1 W aP (by simp only[aj,abu,len,adZ,KE,acC,ad1];exact⟨λ_=>rfl,λ_=>rfl,E⟩) ?_;refine cg W (λ_=>?_) λh5=>abK t h5;refine r1 W bj<|again (i+1) E E ⟨G,⟨W,W,W,?_⟩,G,⟨W,aj8 SV.i<|by rw[d];omega⟩,G,G,G,U⟩;rw[dA,a,adW];exact lB.refl _;have:i=p.aa.length:=E;subst this;refine cq W W
structure OpV(p:fZ)(rs:List fG)(b:iM):Prop where
 ahz:gg p=0
 n1:1<=p.n
 n:p.n<=100
 aa:p.aa.length<=96
 val:∀u∈p.aa,gF p.n u
 rg:RgV p.n rs
 sp:∀s∈rs,SpL s
 bn:US b
def Tt{p:fZ}(h:gg p=0):1<=p.n/\p.n<=100/\p.aa.length<=96/\∀u∈p.aa,gF p.n u:=by unfold gg at h;split at h;cases h;rename_i c;split at h;cases h;rename_i b;split at h;rename_i a;exact abK h a;rename_i a;refine⟨E,E,E,λu hu=>?_⟩;exact pD<|a8.1 (ci) u hu
def nh{p:fZ}{rs:L fG}{b:iM}(h:oD p rs b=0):OpV p rs b:=by
 have a:nc p rs=0:=by apply aha;intro g;unfold oD at h;rw[abx g]at h;exact g h
 have e:tY b=0:=by unfold oD at h;rwa[abl<|by rw[a];simp]at h
 have d:gg p=0:=by apply aha;intro g;unfold nc at a;rw[abx g]at a;exact g a
 have c:my p.n rs=0:=by unfold nc at a;rwa[abl<|by rw[d];simp]at a
 obtain⟨k,j,i,f⟩:=Tt d;refine⟨d,k,j,i,f,yX c,λs hs=>?_,C1.1 e⟩;unfold my at c;split at c;cases c;exact Ec<|a8.1 c s hs
def Pf(p:fZ)(h:uC p)(rs:L fG)(a:∀s∈rs,cE s.lo/\cE s.hi)(hl:rs.length<2^40)(b:iM)(he:oD p rs b=0):
 ab 114 [bV p,aj2 rs,oc b] (.de [.box true<|CN p rs b (ow rs b)<|nY rs b p.aa,.i 0]):=
 have v:=nh he
 ZL p h rs a hl b he v.val v.rg v.sp v.bn v.aa v.n
def XQ(p:fZ)(h:uC p)(rs:L fG)(a:∀s∈rs,cE s.lo/\cE s.hi)(hl:rs.length<2^40)(b:iM)(he:oD p rs b=0):
 ab 39 [bV p,aj2 rs,oc b] (.de [aj7<|kK p.n.toNat p.aa rs b,.i 0]):=by
 have v:=nh he;have hn:p.n=(p.n.toNat:Int):=ld
 refine enter func39 W W W W<|cu W W (Pf p h rs a hl b he) W<|cv W W (λg=>abK W g) λ_=>?_;refine r0 W<|call W W U (tV p h _ hn (by have:=v.n;omega) v.aa v.val rs b v.rg v.bn) W ⟨λ_=>rfl,U⟩ ?_;exact cq W W
def vP(cs:L jz)(i:Int):jz:=cs.getD i.toNat default
def vO(cs:L jz)(l:L Int):Int:=(l.map λi=>(vP cs i).dM).sum
def KL(cs:L jz):Int->L Int->Prop
 |_,[]=>True
 |p,i::l=>(vP cs i).oI=(vP cs p).less/\KL cs i l
instance afP(cs:List jz):∀p l,Decidable (KL cs p l)
 |_,[]=>.isTrue U
 |p,i::l=>@instDecidableAnd _ _ _<|afP cs i l
def Gt(cs:L jz)(i:Int):Bool:=decide (i<0\/(cs.length:Int)<=i)
def CX(cs:L jz)(l:L Int):Int:=if l.length=0 then 12 else if 256<l.length then 5 else if∃i∈l,Gt cs i=true then 10 else if¬KL cs (l.getD (l.length-1) 0) l then 20 else if 0<=vO cs l then 20 else 0
def YE(cs:L jz):Prop:=∀c∈cs,-100000<=c.dM/\c.dM<=100000
def abQ{cs:L jz}(h:YE cs)(i:Int): -100000<=(vP cs i).dM/\(vP cs i).dM<=100000:=by
 unfold vP;rw[ad8];cases e:cs[i.toNat]?with
 |none=>exact⟨gC,gC⟩
 |some c=>exact h c<|ai3 e
def UB{cs:L jz}{l:L Int}{i:Nat}(h:i<l.length):vO cs (l.take<|i+1)=vO cs (l.take i)+(vP cs l[i]).dM:=by unfold vO;rw[adY h];simp only[adW,aiy,ad3,ahj,ajM,List.sum_nil,Int.add_zero]
def adH{cs:L jz}(h:YE cs)(l:L Int): -100000*l.length<=vO cs l/\vO cs l<=100000*l.length:=by
 induction l with
 |nil=>simp[vO]
 |cons i l a=>have:=abQ h i;unfold vO at*;simp;omega
def UC{cs:L jz}{l:L Int}{i:Nat}{p:Int}(h:i<l.length):KL cs p (l.drop i)↔(vP cs l[i]).oI=(vP cs p).less/\KL cs l[i] (l.drop<|i+1):=by rw[ad5 h];rfl
def N5{cs:L jz}{i:Int}(h:¬Gt cs i=true):0<=i/\i.toNat<cs.length:=by unfold Gt at h;simp at h;omega
def Ux(cs:L jz)(hc:cs.length<2^40)(k:Int):ab 117 [.i k,.box false<|aj6 cs] (.u<|Gt cs k):=by refine enter func117 W W W W<|ck W 6 W ?_ ?_<;>intro g;exact cm W W<|(decide_eq_true<|.inl g).symm;refine r1 W bc<|aJ W<|aj8 SV.u ?_;unfold Gt;rw[decide_eq_decide];omega
def Xa(cs:L jz)(hc:cs.length<2^40)(l:L Int)(hl:l.length<2^60):ab 211 [gm l,.fn (.func 117) [] [.box false<|aj6 cs]] (.i<|qg (Gt cs) l 0):=by refine cx func211 W<|r0 W<|aU (λi:Nat=>[(0,gm l),(1,.fn (.func 117) [] [.box false<|aj6 cs]),(7,.i l.length),(8,.i i)]) (λi=>i<=l.length/\qg (Gt cs) l 0=qg (Gt cs) (l.drop i) i) (λi=>l.length-i) 0 ⟨abX _,W⟩ ?_;rintro i⟨hi,b⟩;refine cv W W ?_ ?_<;>intro h;have a:i<l.length:=E;have d:(i:Int).toNat=i:=E;rw[yf _ a]at b;refine r1 W (bi) ?_;refine b8 W (Ux cs hc _) W ?_;rw[d,az a];refine qq W W W ?_ ?_<;>intro c;refine cm W W<|cw ?_;rw[b,abx c];refine r1 W (aD) ?_;refine aL (i+1) ⟨E,?_⟩;rw[b,abl<|by rw[c];simp];refine cm W W<|cw ?_;rw[b,ahK E];rfl
def NT(cs:L jz)(hc:cs.length<2^40)(l:L Int)(hl:l.length<2^60):ab 116 [gm l,.fn (.func 117) [] [.box false<|aj6 cs]] (.u<|decide (∃i∈l,Gt cs i=true)):=by refine enter func116 W W W W<|cu W W (Xa cs hc l hl) W<|cm W W<|aj8 SV.u ?_;rw[decide_eq_decide,oV _ _ _<|aeF 0]
def O3(p:fZ)(h:uC p)(rs:L fG)(A:∀s∈rs,cE s.lo/\cE s.hi)(t:rs.length<2^40)(b:iM)(he:oD p rs b=0)(cs:L jz)(M:kK p.n.toNat p.aa rs b=cs)(B:YE cs)(hc:cs.length<2^40)(l:L Int)(hl:l.length<2^60)(a:CX cs l=0):
 ab 40 [bV p,aj2 rs,oc b,gm l] (.i 0):=by
 unfold CX at a;have K:¬l.length=0:=λh=>gc
 rw[abl K]at a;have J:¬256<l.length:=λh=>gc
 rw[abl J]at a;have w:¬∃i∈l,Gt cs i=true:=λh=>gc
 rw[abl w]at a;have m:KL cs (l.getD (l.length-1) 0) l:=aha λh=>gc
 rw[abl<|not_not_intro m]at a;have H:¬0<=vO cs l:=λh=>gc
 have v:=nh he;have hn:p.n=(p.n.toNat:Int):=ld
 have d:=tV p h p.n.toNat hn (by have:=v.n;omega) v.aa v.val rs b v.rg v.bn;rw[M]at d;have d:ab 115 [.box false<|CO p rs b (ow rs b)<|nY rs b p.aa] (.de [aj6 cs,.i ((p.n.toNat+j9 p.aa p.aa.length:Nat):Int)]):=d.shr.same W W;refine cx func40 W<|cu W W (Pf p h rs A t b he) W<|cv W W (λg=>abK W g) λ_=>?_;refine cu W W d W<|UW 7 W U<|s8 (r:=11) (p:=[]) W W U<|cu W W (NT cs hc l hl) W<|cu W W (qB _ 12) W<|cu W W (qB _ 5) W<|cu W W (qB _ 10) W<|cu W W (Ab _ I) W<|cv W W (λg=>abK (by rw[decide_eq_false<|show¬(l.length:Int)=0 from E,decide_eq_false<|show¬(256:Int)<l.length from E,decide_eq_false w];rfl) g) λ_=>?_;have f:∀j,(h:j<l.length)->0<=l[j]/\l[j].toNat<cs.length:=λj h=>N5 λe=>w ⟨_,ab3 h,e⟩;have C:((l.length:Int)-1).toNat=l.length-1:=E;have u:=f (l.length-1) E;have y:l.getD (l.length-1) 0=l[l.length-1]:=az E;refine k1 W aP (by simp only[aj,abu,C,y]<;>omega) ?_;refine loop (λz:Nat×Int=>[(3,gm l),(11,.box false<|aj6 cs),(15,.i<|vO cs<|l.take z.1),(16,.box true<|oW<|vP cs z.2),(61,gm l),(62,.i l.length),(63,.i z.1)]) (λz=>z.1<=l.length/\KL cs z.2 (l.drop z.1)) (λz=>l.length-z.1) (0,l.getD (l.length-1) 0) ⟨abX _,m⟩ ⟨G,G,G,⟨W,aB.of_eq<|by rw[C];rfl⟩,G,G,G,U⟩ ?_;rintro⟨i,q⟩⟨hi,k⟩;dsimp only at hi k⊢;have D:(i:Int).toNat=i:=E;refine cv W W ?_ ?_<;>intro m;have c:i<l.length:=E;have F:l.getD i 0=l[i]:=az c;have A:=f i c;have hs:=adH B<|l.take i;have o:=UB (cs:=cs) c;have hm:=abQ B l[i];rw[afS]at hs;rw[UC c]at k;refine k1 W aP (by simp only[aj,abu,D,F]<;>omega) ?_;rw[D,F];refine cg W (λg=>abK k.1 g) λ_=>?_;refine r1 W (by simp only[aj,abu]<;>unfold vP at hm<;>omega) ?_;refine again (i+1,l[i]) (ac) ⟨ac,k.2⟩ ⟨G,G,⟨W,cw ?_⟩,G,G,G,G,U⟩;exact o.symm;have x:i=l.length:=E;subst x;rw[aed];refine cu W W (qB _ 20) W<|cm W W<|cw ?_;simp[H]
structure Rx where
 v:List Int
 b:List Int
 l:Int
def nl(c:jz):Nat:=(c.less+1).toNat
def nt(c:jz):Nat:=(c.oI+1).toNat
abbrev ga(x:L Int)(i:Nat):Int:=x.getD i 0
def rO(s:Rx)(c:jz):Prop:=ga s.v (nt c)<1099511627776/\ga s.v (nt c)+c.dM<ga s.v (nl c)
instance(s:Rx)(c:jz):Decidable (rO s c):=inferInstanceAs<|Decidable<|_/\_
def jF(s:Rx)(j:Nat)(c:jz):Rx:=if rO s c then⟨s.v.set (nl c)<|ga s.v (nt c)+c.dM,s.b.set (nl c) j,c.less+1⟩else s
def oy(cs:L jz)(s:Rx):Nat->Rx
 |0=>s
 |j+1=>jF (oy cs s j) j<|cs.getD j default
def iQ(cs:L jz)(s:Rx):Rx:=oy cs {s with l:= -1} cs.length
def lH(cs:L jz):Nat->Rx->Rx
 |0,s=>s
 |k+1,s=>if(iQ cs s).l= -1 then iQ cs s else lH cs k (iQ cs s)
def UU(n:Nat):Rx:=⟨(List.replicate (n+1) 1099511627776).set 0 0,List.replicate (n+1)<|-1,-1⟩
structure CW(cs:List jz)(n:Nat):Prop where
 b:YE cs
 i:∀c∈cs,-1<=c.less/\c.less<n/\ -1<=c.oI/\c.oI<n
 r:∀k<n,∃c∈cs,c.less=k/\c.oI= -1/\c.dM<=40
 z:∀k<n,∃c∈cs,c.less= -1/\c.oI=k/\c.dM=40
def Oh(cs:L jz)(y:Nat->Int):Prop:=y 0=0/\∀c∈cs,y (nl c)<=y (nt c)+c.dM
section
variable{cs:L jz}{n:Nat}{s:Rx}{y z:Nat->Int}
def qf{x:L Int}{i:Nat}(h:i<x.length)(a:Int)(k:Nat):ga (x.set i a) k=if k=i then a else ga x k:=by grind
def CW.at(h:CW cs n){c:jz}(hc:c∈cs):nl c<=n/\nt c<=n/\(nl c:Int)=c.less+1/\(nt c:Int)=c.oI+1/\ -100000<=c.dM/\c.dM<=100000:=by have b:=h.i c hc;have a:=h.b c hc;unfold nl nt;omega
def j0{j:Nat}(h:j<cs.length):cs.getD j default∈cs:=by simp_all
structure vU(n:Nat)(s:Rx):Prop where
 v:s.v.length=n+1
 b:s.b.length=n+1
 z:ga s.v 0<=0
 f:∀k≤n,ga s.v k<=1099511627776
def vU.step(h:vU n s)(hc:CW cs n)(j:Nat){c:jz}(hm:c∈cs):vU n (jF s j c)/\∀k≤n,ga (jF s j c).v k<=ga s.v k:=by
 obtain⟨f,e,d,b⟩:=h;obtain⟨r,q,p,o,-,-⟩:=hc.at hm;unfold jF;by_cases g:rO s c;rw[abx g];have m:=λk=>qf (x:=s.v) (i:=nl c) E (ga s.v (nt c)+c.dM) k;have a:∀k,ga (s.v.set (nl c)<|ga s.v (nt c)+c.dM) k<=ga s.v k:=λk=>by rw[m];unfold rO at g;grind
 refine⟨⟨e7,b6,agH (a 0) d,λk l=>agH (a k)<|b k l⟩,λk _=>a k⟩;rw[abl g];exact⟨⟨f,e,d,b⟩,λ_ _=>aeF _⟩
def vU.to(h:vU n s)(hc:CW cs n):∀j≤cs.length,vU n (oy cs s j)/\∀k≤n,ga (oy cs s j).v k<=ga s.v k
 |0,_=>⟨h,λ_ _=>aeF _⟩
 |j+1,f=>by obtain⟨a,b⟩:=vU.to h hc j E;obtain⟨c,d⟩:=a.step hc j<|j0 f;exact⟨c,λk e=>agH (d k e)<|b k e⟩
def vU.round(h:vU n s)(hc:CW cs n):vU n (iQ cs s)/\∀k≤n,ga (iQ cs s).v k<=ga s.v k:=vU.to (s:={s with l:= -1}) ⟨h.v,h.b,h.z,h.f⟩ hc _ (abY _)
def Lo(n:Nat)(y:Nat->Int)(s:Rx):Prop:=∀k≤n,y k<=ga s.v k
def Lo.step(h:Lo n y s)(b:vU n s)(hc:CW cs n)(a:Oh cs y)(j:Nat){c:jz}(hm:c∈cs):Lo n y (jF s j c):=by
 obtain⟨f,e,-⟩:=hc.at hm;have hl:=b.v;unfold jF;by_cases g:rO s c;rw[abx g];intro k d;rw[qf E];split
 subst_vars;have:=a.2 c hm;have:=h _ e;omega
 exact h k d;simp_all
def Lo.to(h:Lo n y s)(b:vU n s)(hc:CW cs n)(a:Oh cs y):∀j≤cs.length,Lo n y (oy cs s j)
 |0,_=>h
 |j+1,c=>(Lo.to h b hc a j E).step (b.to hc j E).1 hc a j<|j0 c
def Lo.round(h:Lo n y s)(a:vU n s)(hc:CW cs n)(b:Oh cs y):Lo n y (iQ cs s):=Lo.to (s:={s with l:= -1}) h ⟨a.v,a.b,a.z,a.f⟩ hc b _ (abY _)
def Lo.run(hc:CW cs n)(b:Oh cs y):∀(k:Nat){s:Rx},Lo n y s->vU n s->Lo n y (lH cs k s)/\vU n (lH cs k s)
 |0,s,h,a=>⟨h,a⟩
 |k+1,s,h,a=>by have d:=h.round a hc b;have c:=(a.round hc).1;unfold lH;split;exact⟨d,c⟩;exact Lo.run hc b k d c
def Q4(hc:CW cs n)(hs:s.l= -1):∀j≤cs.length,(oy cs s j).l= -1->oy cs s j=s/\∀i<j,¬rO s (cs.getD i default)
 |0,_,_=>⟨W,λi hi=>abK hi E⟩
 |j+1,a,h=>by
  have hm:=(hc.at<|j0 a).2.2.1;unfold oy jF at h⊢;by_cases g:rO (oy cs s j) (cs.getD j default);simp_all;rw[abl g]at h⊢;obtain⟨e,f⟩:=Q4 hc hs j E h
  grind
def O1(hc:CW cs n)(h:(iQ cs s).l= -1):(∀c∈cs,¬rO (iQ cs s) c):=by obtain⟨e,f⟩:=Q4 hc W _ (abY _) h;intro c hm;obtain⟨i,hi,rfl⟩:=ahJ hm;have:=f i hi;rwa[az hi,<-e]at this
def LI(hc:CW cs n):∀(k:Nat){s:Rx},(lH cs (k+1) s).l= -1->∀c∈cs,¬rO (lH cs (k+1) s) c
 |k,s,h=>by
  unfold lH at h⊢;split at h;rename_i g;rw[abx g];exact O1 hc g;rename_i g;rw[abl g];cases k with
  |zero=>exact abK h g
  |succ k=>exact LI hc k h
def ON(hc:CW cs n)(a:Oh cs y):∀k≤n,y k<=100000:=λk d=>by by_cases e:k=0;rw[e,a.1];decide;obtain⟨c,hm,h,g,-⟩:=hc.r (k-1) E;have b:=a.2 c hm;have f:=hc.b c hm;rw[show nl c=k from ln,show nt c=0 from ls,a.1]at b;omega
def acp(hc:CW cs n)(a:Oh cs y){k:Nat}(h:k<=n): -40<=y k/\y k<=40:=by by_cases e:k=0;rw[e,a.1];decide;obtain⟨c,hm,p,o,m⟩:=hc.r (k-1) E;obtain⟨d,b,l,j,i⟩:=hc.z (k-1) E;have g:=a.2 c hm;have f:=a.2 d b;rw[show nl c=k from ln,show nt c=0 from ls,a.1]at g;rw[show nl d=0 from ln,show nt d=k from ls,a.1]at f;omega
def Zq(hc:CW cs n)(d:vU n s)(h:∀c∈cs,¬rO s c)(b:∀y,Oh cs y->Lo n y s):Oh cs (ga s.v):=by
 have g:∀k≤n,ga s.v k<1099511627776:=λk j=>by have f:=d.z;by_cases e:k=0;rw[e];omega;obtain⟨c,hm,m,l,-⟩:=hc.r (k-1) E;have a:=h c hm;have i:=hc.b c hm;unfold rO at a;rw[show nl c=k from ln,show nt c=0 from ls]at a;omega
 have hs:∀c∈cs,ga s.v (nl c)<=ga s.v (nt c)+c.dM:=λc hm=>by have a:=h c hm;have i:=g _ (hc.at hm).2.1;unfold rO at a;omega
 have f:=b (λk=>ga s.v k-ga s.v 0) ⟨Int.sub_self _,λc hm=>by grind⟩ 0 (abX _);dsimp only at f;exact⟨by have:=d.z;omega,hs⟩
def OF{α:Type}{f g:α->Nat}:∀{l:L α},(∀x∈l,f x<=g x)->(∃x∈l,f x<g x)->(l.map f).sum<(l.map g).sum
 |[],_,h=>gn
 |a::l,h,d=>by
  simp only[ad3,ajM,List.forall_mem_cons]at*;have e:(l.map f).sum<=(l.map g).sum:=by
   clear d
   induction l with
   |nil=>simp
   |cons b l i=>grind
  obtain⟨x,hm,c⟩:=d;rcases adb.1 hm with rfl|hm;omega;have:=OF h.2 ⟨x,hm,c⟩;omega
def Mx(cs:L jz)(n:Nat)(z:Nat->Int):Prop:=Oh cs z/\∀a,Oh cs a->(∀k≤n,z k<=a k)->∀k≤n,a k=z k
def abr(hc:CW cs n):∀(m:Nat)(y:Nat->Int),Oh cs y->((List.range<|n+1).map λk=>(100000-y k).toNat).sum<=m->∃z,Mx cs n z
 |m,y,h,hm=>by
  by_cases g:∃a,Oh cs a/\(∀k≤n,y k<=a k)/\∃k≤n,a k≠y k;obtain⟨a,c,d,k,b,j⟩:=g;have hs:=OF (f:=λk=>(100000-a k).toNat) (g:=λk=>(100000-y k).toNat) (l:=List.range<|n+1) (λx i=>by grind)
   ⟨k,aec.2 E,by have:=d k b;have:=ON hc c k b;omega⟩
  cases m with
  |zero=>omega
  |succ m=>exact abr hc m a c E
  ·exact⟨y,h,λa c d k b=>aha λe=>g ⟨a,c,d,k,b,e⟩⟩
def Nf(n:Nat)(z:Nat->Int)(s:Rx):Nat:=((List.range<|n+1).map λk=>if ga s.v k=z k then 0 else 1).sum
def Wz(a:Mx cs n z)(T:Nat->Prop)[DecidablePred T](f:T 0)(e:∃k≤n,¬T k):∃c∈cs,T (nt c)/\¬T (nl c)/\z (nl c)=z (nt c)+c.dM:=by
 apply aha;intro g;obtain⟨k,d,b⟩:=e;have:=a.2 (λk=>if T k then z k else z k+1) ⟨by dsimp only;rw[abx f];exact a.1.1,λc hm=>by
  have h:=a.1.2 c hm
  grind⟩ (λk _=>g9) k d
 grind
def Ww(hc:CW cs n)(h:Mx cs n z)(d:vU n s)(hl:Lo n z s)(x:∃k≤n,ga s.v k≠z k):Nf n z (iQ cs s)<Nf n z s:=by
 have b:vU n {s with l:= -1}:=⟨d.v,d.b,d.z,d.f⟩;have A:ga s.v 0=z 0:=by have:=d.z;have:=hl 0 (abX _);have:=h.1.1;omega
 obtain⟨c,hm,J,o,w⟩:=Wz h (λk=>ga s.v k=z k) A x;obtain⟨j,a,rfl⟩:=ahJ hm;obtain⟨t,r,-⟩:=hc.at hm;have lo:=λj a=>Lo.to (s:={s with l:= -1}) hl b hc h.1 j a;have f:=λj a=>vU.to b hc j a;have fin:∀k≤n,ga s.v k=z k->ga (iQ cs s).v k=z k:=λk p e=>by have:=(f _<|abY _).2 k p;have:=lo _ (abY _) k p;unfold iQ;dsimp only at *;omega
 refine OF (λk p=>?_) ⟨nl cs[j],aec.2 E,?_⟩
 grind
 have C:ga (oy cs {s with l:= -1} (j+1)).v (nl cs[j])=z (nl cs[j]):=by
  have F:=(f j E).2 _ r;have P:=lo j E _ r;have O:=lo j E _ t;have N:=ON hc h.1 _ r;have M:=(f j E).1.v;dsimp only at F;unfold oy;rw[az a];unfold jF;by_cases g:rO (oy cs {s with l:= -1} j) cs[j]
  grind
  rw[abl g];unfold rO at g;omega
 have B:∀i,j+1<=i->i<=cs.length->ga (oy cs {s with l:= -1} i).v (nl cs[j])=z (nl cs[j]):=by
  intro i u
  induction u with
  |refl=>exactλ_=>C
  |@step m u H=>intro q;have K:=((f _<|Nat.le_of_succ_le q).1.step hc m<|j0 q).2 _ t;have D:=lo _ q _ t;unfold oy at D⊢;omega
 rw[abx<|show ga (iQ cs s).v _=_ from B _ a<|abY _,abl o];decide
def LJ(hc:CW cs n)(a:Mx cs n z):∀(k:Nat){s:Rx},vU n s->Lo n z s->Nf n z s<k->(lH cs k s).l= -1
 |0,s,_,_,h=>E
 |k+1,s,b,hl,h=>by
  unfold lH;split
  assumption
  rename_i g;by_cases e:∃k≤n,ga s.v k≠z k;exact LJ hc a k (b.round hc).1 (hl.round b hc a.1) (by have:=Ww hc a b hl e;omega);refine abK ?_ g;have:∀j≤cs.length,oy cs {s with l:= -1} j={s with l:= -1}:=by
   intro j
   induction j with
   |zero=>exactλ_=>rfl
   |succ j d=>intro c;obtain⟨i,f,-⟩:=hc.at<|j0 c;have:=a.1.2 _<|j0 c;unfold oy;rw[d E];refine abl ?_;unfold rO;simp_all
  rw[iQ,this _<|abY _]
def Ce(n:Nat):vU n (UU n):=by
 have h:∀k,ga (UU n).v k=if k=0 then 0 else ga _ k:=λk=>qf I 0 k;refine⟨by simp[UU],by simp[UU],by rw[h];simp,λk a=>?_⟩
 grind
def OX(hc:CW cs n)(a:Oh cs y):Lo n y (UU n):=λk b=>by
 have h:ga (UU n).v k=if k=0 then 0 else ga _ k:=qf I 0 k;rw[h];have:=ON hc a k b;split;rename_i e;rw[e,a.1];decide
 grind
def dI(cs:L jz)(n:Nat):Rx:=lH cs (n+2)<|UU n
def HO(hc:CW cs n)(h:(dI cs n).l= -1):Oh cs (ga (dI cs n).v):=by
 have c:vU n (dI cs n):=by
  have:∀(k:Nat){s:Rx},vU n s->vU n (lH cs k s):=by
   intro k
   induction k with
   |zero=>exactλh=>h
   |succ k b=>intro s h;unfold lH;split;exact(h.round hc).1;exact b (h.round hc).1
  exact this _<|Ce n
 exact Zq hc c (LI hc _ h) λy a=>(Lo.run hc a _ (OX hc a)<|Ce n).1
def Ta(hc:CW cs n)(a:Oh cs y):(dI cs n).l= -1/\Lo n y (dI cs n):=by
 obtain⟨z,b⟩:=abr hc _ y a<|abY _;refine⟨LJ hc b _ (Ce n) (OX hc b.1) ?_,(Lo.run hc a _ (OX hc a)<|Ce n).1⟩;have:∀(m:Nat),((List.range m).map λk=>if ga (UU n).v k=z k then 0 else 1).sum<=m:=by
  intro m
  induction m with
  |zero=>simp
  |succ m c=>rw[ahs,adW,aiy];grind
 have:=this<|n+1;unfold Nf;omega
end
def DD(cs:L jz)(b:L Int)(k:Nat):jz:=cs.getD (ga b k).toNat default
def cR(cs:L jz)(b:L Int)(k:Nat):Nat->Nat
 |0=>k
 |m+1=>nt<|DD cs b<|cR cs b k m
structure Rd(cs:List jz)(n q j:Nat)(s:Rx)(u:Nat->Nat):Prop where
 a:∀k,u k<=q
 b:∀k,1<=u k->k<=n/\∃i,i<cs.length/\ga s.b k=i/\nl (cs.getD i default)=k/\u k<=u (nt<|cs.getD i default)+1
 c:∀i,i<cs.length->ga s.v (nl<|cs.getD i default)<=ga s.v (nt<|cs.getD i default)+(cs.getD i default).dM\/1099511627776<=ga s.v (nt<|cs.getD i default)\/(if i<j then q else q-1)<=u (nt<|cs.getD i default)
 d:s.l= -1\/∃k,s.l=(k:Nat)/\u k=q
section
variable{cs:L jz}{n q j:Nat}{s:Rx}{u:Nat->Nat}
def Rd.step(h:Rd cs n q j s u)(hc:CW cs n)(f:vU n s)(A:1<=q)(b:j<cs.length):∃m,Rd cs n q (j+1) (jF s j<|cs.getD j default) m:=by
 obtain⟨H,F,z,D,-,-⟩:=hc.at<|j0 (j:=j) b;have d:=h.c j b;obtain⟨p,l,c,o⟩:=h;rw[abl<|Nat.lt_irrefl j]at d;unfold jF;by_cases g:rO s (cs.getD j default);rw[abx g];have B:=λk=>qf (x:=s.v) (i:=nl<|cs.getD j default) (by have:=f.v;omega) (ga s.v (nt<|cs.getD j default)+(cs.getD j default).dM) k;have r:=λk=>qf (x:=s.b) (i:=nl<|cs.getD j default) (by have:=f.b;omega) (j:Int) k;obtain⟨g1,g2⟩:=g;have d:q-1<=u (nt<|cs.getD j default):=E;refine⟨λk=>if k=nl (cs.getD j default)then q else u k,λk=>?_,λk a=>?_,λi hi=>?_,.inr ⟨nl<|cs.getD j default,z.symm,abx W⟩⟩
 grind
 dsimp only at a⊢;rw[r];by_cases e:k=nl (cs.getD j default);rw[abx e,abx e];exact⟨E,j,b,W,e.symm,g9⟩;rw[abl e]at a⊢;rw[abl e];obtain⟨y,i,w,v,t,C⟩:=l k a;exact⟨y,i,w,v,t,by grind⟩
 grind
 rw[abl g];refine⟨u,p,l,λi hi=>?_,o⟩;have:=c i hi;by_cases e:i=j;subst e;unfold rO at g;omega
 grind
def Rd.to(hc:CW cs n)(b:vU n s)(c:1<=q)(h:Rd cs n q 0 s u):∀j≤cs.length,∃a,Rd cs n q j (oy cs s j) a
 |0,_=>⟨u,h⟩
 |j+1,e=>by obtain⟨a,d⟩:=Rd.to hc b c h j E;exact d.step hc (b.to hc j E).1 c E
def Rd.round(h:Rd cs n q cs.length s u)(hc:CW cs n)(a:vU n s):∃b,Rd cs n (q+1) cs.length (iQ cs s) b:=Rd.to (s:={s with l:= -1}) (u:=u) hc ⟨a.v,a.b,a.z,a.f⟩ E ⟨λk=>by have:=h.a k;omega,h.b,λi hi=>by have:=h.c i hi;simp_all,.inl W⟩ _ .refl
def Rd.run(hc:CW cs n):∀(k:Nat){q:Nat}{s:Rx}{u:Nat->Nat},vU n s->Rd cs n q cs.length s u->(lH cs (k+1) s).l≠ -1->∃a,Rd cs n (q+k+1) cs.length (lH cs (k+1) s) a
 |k,q,s,u,b,h,hl=>by
  obtain⟨a,c⟩:=h.round hc b;unfold lH at hl⊢;split at hl;omega;rename_i g;rw[abl g];cases k with
  |zero=>exact⟨a,c⟩
  |succ k=>obtain⟨d,e⟩:=Rd.run hc k (b.round hc).1 c hl;grind
def VQ(hc:CW cs n)(hl:(dI cs n).l≠ -1):∃u,Rd cs n (n+2) cs.length (dI cs n) u:=by have:=Rd.run (q:=0) hc (n+1) (Ce n) ⟨λ_=>.refl,λk a=>abK a E,λi hi=>by rw[abx hi];omega,.inl W⟩ hl;rwa[show 0+(n+1)+1=n+2 from E]at this
def Wk:∀(n:Nat)(f:Nat->Nat),(∀i,i<=n+1->f i<=n)->∃i j,i<j/\j<=n+1/\f i=f j
 |0,f,h=>⟨0,1,E,E,gn⟩
 |n+1,f,h=>by
  by_cases g:∃i,i<=n+1/\f i=f (n+2);obtain⟨i,hi,e⟩:=g;exact⟨i,n+2,E,E,e⟩;have g:=λi hi e=>g ⟨i,hi,e⟩;obtain⟨i,j,a,c,b⟩:=Wk n (λi=>if f i=n+1 then f (n+2)else f i) (λi hi=>by grind)
  refine⟨i,j,a,E,?_⟩
  grind
def Jb(hc:CW cs n)(hl:(dI cs n).l≠ -1):∃k:Nat,(dI cs n).l=k/\
 (∀m,cR cs (dI cs n).b k m<=n/\∃i,i<cs.length/\ga (dI cs n).b (cR cs (dI cs n).b k m)=(i:Nat)/\nl (cs.getD i default)=cR cs (dI cs n).b k m)/\
 ∃p,1<=p/\p<=n+1/\cR cs (dI cs n).b k (n+1+p)=cR cs (dI cs n).b k (n+1):=by
 obtain⟨u,h⟩:=VQ hc hl;obtain⟨k,w,z⟩:=h.d.resolve_left hl;generalize dI cs n=s at*;have hu:∀m,m<=n+1->n+2<=u (cR cs s.b k m)+m:=by
  intro m
  induction m with
  |zero=>intro _;show n+2<=u k+0;omega
  |succ m e=>
   intro hm;obtain⟨-,i,g,f,o,y⟩:=h.b _ (show 1<=u (cR cs s.b k m)from E);unfold cR DD
   grind
 have r:∀m,m<=n+1->cR cs s.b k m<=n/\∃i,i<cs.length/\ga s.b (cR cs s.b k m)=(i:Nat)/\nl (cs.getD i default)=cR cs s.b k m:=λm hm=>by
  have:=hu m hm;obtain⟨A,i,g,f,o,-⟩:=h.b _ (show 1<=u (cR cs s.b k m)from E)
  grind
 obtain⟨i,j,v,x,he⟩:=Wk n (cR cs s.b k) λi hi=>(r i hi).1;have a:∀t,cR cs s.b k (i+t)=cR cs s.b k (j+t):=by
  intro t
  induction t with
  |zero=>exact he
  |succ t e=>show nt (DD cs s.b<|cR cs s.b k<|i+t)=nt (DD cs s.b<|cR cs s.b k<|j+t);rw[e]
 have d:∀m,∃c,c<j/\cR cs s.b k m=cR cs s.b k c:=by
  intro m
  induction m with
  |zero=>grind
  |succ m e=>
   obtain⟨c,g,f⟩:=e;have o:cR cs s.b k (m+1)=cR cs s.b k (c+1):=by show nt (DD cs s.b<|cR cs s.b k m)=nt (DD cs s.b<|cR cs s.b k c);rw[f]
   grind
 refine⟨k,w,λm=>?_,j-i,E,E,?_⟩;obtain⟨c,g,f⟩:=d m
 grind
 have:=a<|n+1-i
 grind
end
def acE{xs:L Int}{k:Nat}(h:k<xs.length):ga xs.reverse k=ga xs (xs.length-1-k):=by unfold ga;rw[az<|aR,az E,List.getElem_reverse]
def adj{x y:L Int}(hl:x.length=y.length)(h:∀k<x.length,ga x k=ga y k):x=y:=by refine ahT hl λk a b=>?_;have:=h k a;unfold ga at this;rwa[az a,az b]at this
def Tg(xs:L Int)(hl:xs.length<2^40):kg prog 273 [gu xs] [.bH 500 0 0 []] [gu xs.reverse] (.de []):=by
 refine ns (fn:=Tryz.f273) func273 W W W W W<|r1 W bg<|loop (λz:Nat×L Int=>[(0,.bH 500 0 0 []),(2,.i z.1),(3,.i<|(xs.length:Int)-1-z.1),(500,gu z.2)])
  (λz=>z.1<=xs.length/\z.2.length=xs.length/\∀k<xs.length,ga z.2 k=if k<z.1\/xs.length<=k+z.1 then ga xs (xs.length-1-k)else ga xs k) (λz=>xs.length-z.1) (0,xs)
  ⟨abX _,W,λk c=>by rw[abl E]⟩ ⟨mv,G,⟨W,aj8 SV.i E⟩,G,U⟩ ?_
 rintro⟨i,y⟩⟨hi,b,a⟩;dsimp only at hi b a⊢;refine cv W W ?_ ?_<;>intro g;have f:(i:Int).toNat=i:=E;have e:((xs.length:Int)-1-i).toNat=xs.length-1-i:=E;refine k1 W aP (by simp[aj,abu,f,e,b,ahy]<;>omega) ?_;rw[f,e];refine again (i+1,(y.set i<|ga y<|xs.length-1-i).set (xs.length-1-i)<|ga y i) (ac) ⟨ac,ed,λk c=>?_⟩ ⟨mv,G,⟨W,aj8 SV.i<|ac⟩,G,U⟩;have m:ga y i=ga xs i:=by rw[a i E,abl E]
 have l:ga y (xs.length-1-i)=ga xs (xs.length-1-i):=by rw[a _ E,abl E]
 rw[qf<|by simp;omega,qf E,m,l,a k c];by_cases j:k=xs.length-1-i;rw[abx j,abx E,show xs.length-1-k=i from E];rw[abl j];by_cases d:k=i;rw[abx d,abx E,d];rw[abl d];by_cases h:k<i\/xs.length<=k+i;rw[abx h,abx E];rw[abl h,abl E];have:y=xs.reverse:=adj (ed) λk c=>by
  rw[a k E,acE E];split;rfl
  congr 1;omega
 subst this;refine r0 W<|LM [(500,gu xs.reverse)] ⟨⟨W,W,.le W⟩,U⟩ W U ⟨G,U⟩
structure RxB(cs:List jz)(n T:Nat)(s:Rx):Prop where
 v:s.v.length=n+1
 b:s.b.length=n+1
 f:∀k≤n,-(100000*T)<=ga s.v k/\ga s.v k<=1099511627776
def RxB.step{cs:L jz}{n T:Nat}{s:Rx}(h:RxB cs n T s)(hc:CW cs n)(j:Nat){c:jz}(hm:c∈cs):RxB cs n (T+1) (jF s j c):=by
 obtain⟨p,o,m,l,i,f⟩:=hc.at hm;obtain⟨d,b,e⟩:=h;unfold jF;by_cases g:rO s c;rw[abx g];unfold rO at g;refine⟨b5,ed,λk a=>?_⟩
 grind
 rw[abl g];exact⟨d,b,λk a=>by have:=e k a;omega⟩
def aeN(cs:L jz)(n:Nat):RxB cs n 0 (UU n):=by
 have:=Ce n;refine⟨this.v,this.b,λk a=>⟨?_,this.f k a⟩⟩;have h:ga (UU n).v k=if k=0 then 0 else ga _ k:=qf I 0 k
 grind
def Q6{cs:L jz}{n:Nat}(hc:CW cs n):vU n (dI cs n):=by
 have:∀(k:Nat){s:Rx},vU n s->vU n (lH cs k s):=by
  intro k
  induction k with
  |zero=>exactλh=>h
  |succ k a=>intro s h;unfold lH;split;exact(h.round hc).1;exact a (h.round hc).1
 exact this _<|Ce n
def sE(cs:L jz)(b:L Int)(stop:Nat):Nat->Nat->L Int
 |0,_=>[]
 |f+1,a=>ga b a::if nt (DD cs b a)=stop then[]else sE cs b stop f (nt<|DD cs b a)
def od(cs:L jz)(n:Nat):L Int:=(sE cs (dI cs n).b (cR cs (dI cs n).b (dI cs n).l.toNat<|n+1) (n+1)<|cR cs (dI cs n).b (dI cs n).l.toNat<|n+1).reverse
def Zz(cs:L jz)(n:Nat):SV:=if(dI cs n).l= -1 then .de [gu (dI cs n).v,.nil]else .de [.nil,gu<|od cs n]
def I0(cs:L jz)(b:L Int)(stop:Nat):∀(f a:Nat),(sE cs b stop f a).length<=f
 |0,_=>.refl
 |f+1,a=>by unfold sE;split;simp;exact Nat.succ_le_succ<|I0 cs b _ f _
def uN(cs:L jz)(b:L Int)(k m:Nat):∀p,cR cs b (cR cs b k m) p=cR cs b k (m+p)
 |0=>rfl
 |p+1=>by show nt _=nt _;rw[uN cs b k m p];rfl
def v8(cs:L jz)(b:L Int)(k p:Nat):cR cs b (nt<|DD cs b k) p=cR cs b k (p+1):=by have:=uN cs b k 1 p;rwa[Nat.add_comm]at this
def Zy(cs:L jz)(n:Nat)(hc:CW cs n)(hl:cs.length<2^20)(hn:n<2^10):ab 206 [aj6 cs,.i n] (Zz cs n):=by
 refine cx func206 W<|r1 W bj<|b8 W (wb 1099511627776 (n+1) E E) W<|r1 W bj<|b8 W (wb (-1) (n+1) E E) W<|UW 2 W U<|Gb 4 (λs:Rx=>[(0,aj6 cs),(1,.i n),(4,.nil),(5,.nil),(6,gu s.v),(7,gu s.b),(8,.i s.l)]) (λs=>s=dI cs n) ?_ ?_;refine r1 W (io) ?_;refine loop (λz:Rx×Nat=>[(0,aj6 cs),(1,.i n),(4,.nil),(5,.nil),(6,gu z.1.v),(7,gu z.1.b),(8,.i z.1.l),(25,.i<|(n:Int)+2),(26,.i z.2)])
  (λz=>z.2<=n+2/\RxB cs n (z.2*cs.length) z.1/\dI cs n=lH cs (n+2-z.2) z.1) (λz=>n+2-z.2) (UU n,0) ⟨abX _,by rw[Nat.zero_mul];exact aeN cs n,W⟩
  ⟨G,G,⟨W,U⟩,⟨W,U⟩,G,G,G,G,G,U⟩ ?_
 rintro⟨s,i⟩⟨hi,P,he⟩;dsimp only at hi P he⊢;refine cv W W ?_ ?_<;>intro g;have F0:i<n+2:=E;refine cp W (λj:Nat=>[(0,aj6 cs),(1,.i n),(4,.nil),(5,.nil),(6,gu (oy cs {s with l:= -1} j).v),(7,gu (oy cs {s with l:= -1} j).b),(8,.i (oy cs {s with l:= -1} j).l),(25,.i<|(n:Int)+2),(26,.i i),(28,aj6 cs),(29,.i cs.length),(30,.i j)])
  (λj=>j<=cs.length/\RxB cs n (i*cs.length+j) (oy cs {s with l:= -1} j)) (λj=>cs.length-j) 0 ⟨abX _,⟨P.v,P.b,P.f⟩⟩
  ⟨G,G,⟨W,U⟩,⟨W,U⟩,G,G,G,G,G,G,G,G,U⟩ ?_
 rintro j⟨hj,o⟩;refine cv W W ?_ ?_<;>intro g2;have A0:j<cs.length:=E;have ej:(j:Int).toNat=j:=E;obtain⟨c,ec⟩:∃c,c=cs.getD j default:=⟨_,W⟩;have hm:=j0 (cs:=cs) A0;have D:=o.step hc j hm;have d:oy cs {s with l:= -1} (j+1)=jF (oy cs {s with l:= -1} j) j (cs.getD j default):=W;rw[<-ec]at D hm d;obtain⟨a1,a2,a3,a4,a5,a6⟩:=hc.at hm;have hM:i*cs.length<=1026*cs.length:=ad6 _ E;generalize i*cs.length=M at*;have e1:(c.oI+1).toNat=nt c:=W;have e2:(c.less+1).toNat=nl c:=W;generalize oy cs {s with l:= -1} j=q at*;have b1:=o.f _ a1;have b2:=o.f _ a2;have hT:M+j<2^31:=E;unfold ga at b1 b2;refine r1 W (by simp only[aj,abu,ej,<-ec,o.v]<;>omega) ?_;rw[ej,<-ec,e1];refine aI 43 W ?_ ?_<;>intro T;refine k1 W aP (by simp only[aj,abu,o.v,e2]<;>omega) ?_;rw[e2];refine cg W ?_ ?_<;>intro S;refine k1 W aP (by simp only[aj,abu,o.v,o.b,e2]<;>omega) ?_;rw[ej,show jF q j c=_ from abx ⟨T,S⟩]at*;exact again (j+1) E ⟨E,by rw[d];exact D⟩ ⟨G,G,⟨W,U⟩,⟨W,U⟩,⟨W,aj8 (gu)<|by rw[d];rfl⟩,⟨W,aj8 (gu)<|by rw[d];rfl⟩,⟨W,aj8 SV.i<|by rw[d]⟩,G,G,G,G,G,U⟩;refine r1 W bj ?_;rw[show jF q j c=q from abl λh=>S h.2]at d;exact again (j+1) E ⟨E,zaN⟩ ⟨G,G,⟨W,U⟩,⟨W,U⟩,⟨W,aj8 (gu)<|by rw[d]⟩,⟨W,aj8 (gu)<|by rw[d]⟩,⟨W,aj8 SV.i<|by rw[d]⟩,G,G,G,G,G,U⟩;refine k1 W aP bj ?_;rw[show jF q j c=q from abl λh=>T h.1]at d;exact again (j+1) E ⟨E,zaN⟩ ⟨G,G,⟨W,U⟩,⟨W,U⟩,⟨W,aj8 (gu)<|by rw[d]⟩,⟨W,aj8 (gu)<|by rw[d]⟩,⟨W,aj8 SV.i<|by rw[d]⟩,G,G,G,G,G,U⟩;have E1:j=cs.length:=E;subst E1;refine cv W W ?_ ?_<;>intro N;refine r0 W<|meet (iQ cs s) ?_ ⟨G,G,⟨W,U⟩,⟨W,U⟩,G,G,G,U⟩;rw[he,show n+2-i=n+1-i+1 from E];exact(abx N).symm;refine r1 W bj<|again (iQ cs s,i+1) (ac) ⟨ac,by rw[aer,aiV];exact o,?_⟩ ⟨G,G,⟨W,U⟩,⟨W,U⟩,G,G,G,G,G,U⟩;dsimp only;rw[he,show n+2-i=n+1-i+1 from E,show n+2-(i+1)=n+1-i from E];exact abl N;refine r0 W<|meet s ?_ ⟨G,G,⟨W,U⟩,⟨W,U⟩,G,G,G,U⟩;rw[he,show n+2-i=0 from E];rfl;rintro s rfl;have H:=(Q6 hc).b;refine cv W W ?_ ?_<;>intro g;rw[show Zz cs n=_ from abx g];refine cq W W;rw[show Zz cs n=_ from abl g];obtain⟨k,ek,hv,p,p1,p2,hp⟩:=Jb hc g;have y:od cs n=_:=W;unfold od at y⊢;rw[ek]at y⊢;rw[agL]at y⊢;generalize (dI cs n).b=b at*;obtain⟨stop,R⟩:∃stop,stop=cR cs b k (n+1):=⟨_,W⟩;rw[<-R];have J:∀m,∃i,i<cs.length/\b.getD (cR cs b k m) 0=(i:Int)/\((cs.getD i default).oI+1=((cR cs b k (m+1):Nat):Int))/\cR cs b k m<b.length/\cR cs b k m<=n/\ -1<=(cs.getD i default).oI/\(cs.getD i default).oI<n:=λm=>by obtain⟨K,i,A,h3,h4⟩:=hv m;obtain⟨a1,a2,a3,a4,-,-⟩:=hc.at<|j0 (j:=i) A;refine⟨i,A,h3,?_,by rw[H];omega,K,E,E⟩;show _=((nt (DD cs b<|cR cs b k m):Nat):Int);unfold DD;simp_all
 refine r1 W bj<|aU (λi:Nat=>[(0,aj6 cs),(7,gu b),(8,.i (cR cs b k i:Nat)),(82,.i<|(n:Int)+1),(83,.i i)]) (λi=>i<=n+1) (λi=>n+1-i) 0 (abX _) ?_;intro i hi;refine cv W W ?_ ?_<;>intro g2;obtain⟨x,x1,u,O,x4,x5,x6,x7⟩:=J i;have v:((cR cs b k i:Nat):Int).toNat=cR cs b k i:=agL _;have ex:(x:Int).toNat=x:=agL _;refine r1 W (by simp only[aj,abu,v,u,ex]<;>omega) ?_;rw[v,u,ex,O];exact aL (i+1) E;have v:i=n+1:=E;subst v;rw[<-R];refine r0 W ?_;obtain⟨C,eC⟩:∃C,C=sE cs b stop (n+1) stop:=⟨_,W⟩;have lC:C.length<=n+1:=by rw[eC];exact I0 _ _ _ _ _
 rw[<-eC];refine aU (λz:L Int×Nat×Nat=>[(0,aj6 cs),(7,gu b),(8,.i (stop:Nat)),(12,gu z.1),(13,.i (z.2.1:Nat))]) (λz=>(∃m,z.2.1=cR cs b k m)/\z.1.length<=n+1/\((z.2.2=0/\z.1=C/\z.1≠[]/\z.2.1=stop)\/(z.1=[]\/z.2.1≠stop)/\z.1++sE cs b stop z.2.2 z.2.1=C/\∃p,1<=p/\p<=z.2.2/\cR cs b z.2.1 p=stop)) (λz=>z.2.2) ([],stop,n+1) ⟨⟨n+1,R⟩,abX _,.inr ⟨.inl W,eC.symm,p,p1,p2,by rw[R,uN,hp]⟩⟩ ?_;rintro⟨r,a,f⟩⟨⟨m,ea⟩,la,V⟩;dsimp only at ea la V⊢;have on:(r=[]\/a≠stop)->∃t,t<f/\(r++[b.getD a 0]).length<=n+1/\((t=0/\r++[b.getD a 0]=C/\r++[b.getD a 0]≠[]/\nt (DD cs b a)=stop)\/(r++[b.getD a 0]=[]\/nt (DD cs b a)≠stop)/\r++[b.getD a 0]++sE cs b stop t (nt<|DD cs b a)=C/\∃p,1<=p/\p<=t/\cR cs b (nt<|DD cs b a) p=stop):=λh=>by
  have V:r++sE cs b stop f a=C/\∃p,1<=p/\p<=f/\cR cs b a p=stop:=by grind
  obtain⟨K,p,p1,p2,A⟩:=V;obtain⟨t,rfl⟩:∃t,f=t+1:=⟨f-1,E⟩;unfold sE at K;have Y:=aal List.length K;rw[ad9,acC]at Y;have X:(r++[b.getD a 0]).length<=n+1:=by grind
  by_cases e:nt (DD cs b a)=stop;simp_all;rw[abl e]at K;have E2:p≠1:=λh=>e (by rw[h]at A;exact A);refine⟨t,aip _,X,.inr ⟨.inr e,gn,p-1,E,E,?_⟩⟩;rw[v8,show p-1+1=p from E];exact A
 obtain⟨x,x1,u,O,x4,x5,x6,x7⟩:=J m;rw[<-ea]at u x4;have v:(a:Int).toNat=a:=agL _;have ex:(x:Int).toNat=x:=agL _;have en:nt (DD cs b a)=cR cs b k (m+1):=by rw[ea];rfl
 refine ck W 99 W ?_ ?_<;>intro N;obtain⟨t,q1,B,w⟩:=on<|.inl<|ajg E;refine r1 W (by simp only[aj,abu,v,u,ex,ajx]<;>omega) ?_;rw[v,u,ex,O];rw[en]at w;rw[u]at B w;refine aL (r++[(x:Int)],cR cs b k<|m+1,t) ⟨⟨m+1,W⟩,B,w⟩;refine cv W W ?_ ?_<;>intro g4;obtain⟨t,q1,B,w⟩:=on<|.inr λe=>g4<|by rw[e]
 refine r1 W (by simp only[aj,abu,v,u,ex,ajx]<;>omega) ?_;rw[v,u,ex,O];rw[en]at w;rw[u]at B w;refine aL (r++[(x:Int)],cR cs b k<|m+1,t) ⟨⟨m+1,W⟩,B,w⟩;have F:r=C:=by grind
 subst F;refine r0 W<|cr W W (Tg r E) W<|cq W W
def aaN{us:L bw}{n:Nat}(e:n<=100)(d:∀u∈us,gF n u)(rs:L fG)(b:iM):(kK n us rs b).length<=200+24*us.length:=by
 have h:∀i,(hi:i<us.length)->(vK ((n+j9 us i:Nat):Int) rs b<|us.getD i default).length<=24:=by intro i hi;rw[az hi];unfold vK;split;simp[Gh];split;rename_i g;have:=fL (f:=BL rs b us[i]) (c:=3) (λk=>by simp[BL]) us[i].ai.length;have:=((d _<|ab3 hi).add g).2.1;omega;split;simp[KE];simp
 have a:∀i,i<=us.length->(oG n us rs b i).length<=200+24*i:=by
  intro i
  induction i with
  |zero=>have:=fL (f:=Gg rs b) (c:=2) (λk=>by simp[Gg]) n;simp only[oG,sC,List.range_zero,List.flatMap_nil,ahl];omega
  |succ i j=>intro hi;have:=h i E;rw[yo,ad9];omega
 exact a _ .refl
def afK{us:L bw}{n:Int}{m:Nat}{rs:L fG}{b:iM}(l:∀u∈us,gF n u)(e:RgV n rs)(hl:rs.length<2^40)(h:∀u∈us,u.ai.length<2^40)(o:US b)(hn:n=m):YE (kK m us rs b):=by intro c hc;have q:=e.len;have p:=λu hu k a=>(wE rs b u k (l u hu) a e hl (h u hu) o).2;obtain⟨w,v,t,r⟩:=o;unfold kK oG sC at hc;rw[aeM,af2,af2]at hc;rcases hc with⟨s,hs,hc⟩|⟨j,d,hc⟩;have hs:=aec.1 hs;have:=(HL rs b s E hl e.val ⟨w,v,t,r⟩).2;simp[Gg]at hc;rcases hc with rfl|rfl<;>dsimp only<;>omega;have d:=aec.1 d;rw[az d]at hc;have hu:=l _<|ab3 d;have a:=p _<|ab3 d;unfold vK at hc;split at hc;rename_i g;have x:=(hu.int g).1;have i:=a 0 E;have i1:=a 1 E;simp[Gh]at hc;rcases hc with rfl|rfl|rfl|rfl|rfl|rfl|rfl<;>dsimp only<;>omega;split at hc;rw[af2]at hc;obtain⟨k,f,hc⟩:=hc;have i:=a k<|aec.1 f;simp[BL]at hc;rcases hc with rfl|rfl|rfl<;>dsimp only<;>omega;split at hc;rename_i g;have y:=(hu.table g).1;have i:=a 0 E;simp[KE]at hc;rcases hc with rfl|rfl|rfl|rfl<;>dsimp only<;>omega;cases hc
def BJ(us:L bw){i:Nat}:∀{j:Nat},i<=j->j9 us i<=j9 us j
 |0,h=>gn
 |j+1,h=>by by_cases e:i=j+1;simp_all;refine ab7 (BJ us (j:=j) E) ?_;by_cases g:j<us.length;rw[py g];omega;unfold j9;grind
def Gf(us:L bw){t:Nat}:∀{i:Nat},i<=us.length->t<j9 us i->∃j,∃h:j<us.length,us[j].kind=dO/\j9 us j=t
 |0,_,h=>abK h (Nat.not_lt_zero _)
 |i+1,hi,h=>by
  by_cases g:t<j9 us i;exact Gf us E g;rw[py E]at h
  grind
def afJ{us:L bw}{n:Int}{m:Nat}{rs:L fG}{b:iM}(h:∀u∈us,gF n u)(l:RgV n rs)(hl:rs.length<2^40)(f:∀u∈us,u.ai.length<2^40)(q:US b)(hn:n=m):CW (kK m us rs b) (m+j9 us us.length):=by
 refine⟨afK h l hl f q hn,λc hc=>?_,λk p=>?_,λk p=>?_⟩;unfold kK oG sC at hc;rw[aeM,af2,af2]at hc;rcases hc with⟨s,hs,hc⟩|⟨j,a,hc⟩;have hs:=aec.1 hs;simp[Gg,adb,ahd,or_false]at hc
 grind
 have a:=aec.1 a;rw[az a]at hc;have hu:=h _<|ab3 a;have z:=hu.out;have x:=py a;have w:=BJ us (i:=j+1) (j:=us.length) a;have r:∀k,k<us[j].ai.length->0<=(us[j].ai.getD k default).sh/\(us[j].ai.getD k default).sh<n:=λk p=>by have:=hu.feed _<|aN (d:=default) p;omega
 unfold vK at hc;split at hc;rename_i g;have A:=(hu.int g).1;simp[Gh,adb,ahd,or_false]at hc
 grind
 split at hc;rw[af2]at hc;obtain⟨k,o,hc⟩:=hc;have v:=r k<|aec.1 o;simp[BL,adb,ahd,or_false]at hc
 grind
 split at hc;rename_i g;rw[abx g]at x;have B:=(hu.table g).1;have v:=r 0 E;simp[KE,adb,ahd,or_false]at hc
 grind
 cases hc;unfold kK oG sC;by_cases g:k<m;exact⟨_,aeM.2<|.inl<|af2.2 ⟨k,aec.2 g,ahQ ..⟩,W,W,(HL rs b k (by have:=l.len;omega) hl l.val q).2.2⟩;obtain⟨j,a,e,y⟩:=Gf us (t:=k-m) (abY _) E;refine⟨⟨((m+j9 us j:Nat):Int),-1,tE rs b us[j] 0⟩,aeM.2<|.inr<|af2.2 ⟨j,aec.2 a,?_⟩,?_,W,?_⟩;rw[az a];unfold vK;rw[abl<|by rw[e];decide,abl<|by rw[e];decide,abx e];exact ahQ ..;dsimp only;omega;have hm:=ab3 a;exact(wE rs b us[j] 0 (h _ hm) (by have:=(h _ hm).table e;omega) l hl (f _ hm) q).2.2;unfold kK oG sC;by_cases g:k<m;exact⟨_,aeM.2<|.inl<|af2.2 ⟨k,aec.2 g,aiG _<|ahQ ..⟩,W,W,W⟩;obtain⟨j,a,e,y⟩:=Gf us (t:=k-m) (abY _) E;refine⟨⟨-1,((m+j9 us j:Nat):Int),40⟩,aeM.2<|.inr<|af2.2 ⟨j,aec.2 a,?_⟩,W,?_,W⟩;rw[az a];unfold vK;rw[abl<|by rw[e];decide,abl<|by rw[e];decide,abx e];exact aiG _<|ahQ ..;dsimp only;omega
def qz(p:fZ):Nat:=p.n.toNat+j9 p.aa p.aa.length
def gi(p:fZ)(rs:L fG)(b:iM):L jz:=kK p.n.toNat p.aa rs b
def KF{p:fZ}(h:uC p){rs:L fG}(hl:rs.length<2^40){b:iM}(v:OpV p rs b):CW (gi p rs b) (qz p)/\(gi p rs b).length<2^20/\qz p<2^10:=by
 have hn:p.n=(p.n.toNat:Int):=ld
 have:=v.n;have hu:=v.aa;have hc:=Ar p.aa p.aa.length;have a:(kK p.n.toNat _ rs b).length<=200+24*p.aa.length:=aaN E (λu hu=>by rw[<-hn];exact v.val u hu) rs b;exact⟨afJ v.val v.rg hl (λu hu=>(v.val u hu).fl.1) v.bn hn,by unfold gi;omega,by unfold qz;omega⟩
def wK(l:L Int)(a:l≠[])(hl:l.length<2^40):ab 112 [gm l] (gu l):=by
 cases l with
 |nil=>simp_all
 |cons x l=>refine enter func112 W W W W<|r1 W (by simp at hl;simp[aj,len];omega) ?_;exact bY W
def Ed(p:fZ)(h:uC p)(rs:L fG)(j:∀s∈rs,cE s.lo/\cE s.hi)(hl:rs.length<2^40)(b:iM)(he:oD p rs b=0):
 ab 111 [bV p,aj2 rs,oc b] (.de [.box false<|CO p rs b (ow rs b)<|nY rs b p.aa,if(dI (gi p rs b)<|qz p).l= -1 then gu (dI (gi p rs b)<|qz p).v else .nil,if(dI (gi p rs b)<|qz p).l= -1 then .nil else gu (od (gi p rs b)<|qz p),.i 0]):=by
 have v:=nh he;have hn:p.n=(p.n.toNat:Int):=ld
 obtain⟨f,e,d⟩:=KF h hl v;have a:=Zy (gi p rs b) (qz p) f e d;have c:=tV p h p.n.toNat hn (by have:=v.n;omega) v.aa v.val rs b v.rg v.bn;have c:ab 115 [.box false<|CO p rs b (ow rs b)<|nY rs b p.aa] (.de [aj6<|gi p rs b,.i (qz p:Nat)]):=c.shr.same W W;generalize gi p rs b=k at*;refine cx func111 W<|cu W W (Pf p h rs j hl b he) W<|cv W W (λg=>abK W g) λ_=>?_;refine cu W W c W<|r0 W ?_;unfold Zz at a;by_cases g:(dI k<|qz p).l= -1;rw[abx g]at a;rw[abx g,abx g];refine b8 W a W<|cq W W;rw[abl g]at a;rw[abl g,abl g];refine b8 W a W<|cq W W
def inU(rs:L fG)(b:iM)(xs:L Int)(u:bw)(t:Int):L Int:=if u.kind=bk then[tE rs b u 0,xs.getD u.out.toNat 0-tE rs b u 0+b.c]else if u.kind=dO then[t]else List.replicate u.ai.length (xs.getD u.out.toNat 0)
def GY(p:fZ)(rs:L fG)(b:iM)(v:L Int)(i:Nat):L (L Int):=(List.range i).map λj=>inU rs b ((v.drop 1).take p.n.toNat) (p.aa.getD j default)<|v.getD (p.n.toNat+1+j9 p.aa j) 0
def XA(o:Bool)(xs:L Int)(is:L (L Int)):SV:=.agg [.ints .i64 o xs,.bm o 1 [] (SV.ints .i64 o) is]
def aa2(p:fZ)(h:uC p)(rs:L fG)(c:∀s∈rs,cE s.lo/\cE s.hi)(hl:rs.length<2^40)(b:iM)(he:oD p rs b=0)(a:(dI (gi p rs b)<|qz p).l≠ -1):
 ab 38 [bV p,aj2 rs,oc b] (.de [.agg [.nil,.nil],.i 24]):=by
 have hs:=Ed p h rs c hl b he;rw[abl a,abl a]at hs;obtain⟨x,l,d⟩:∃x l,od (gi p rs b) (qz p)=x::l:=by
  cases e:od _ _ with
  |nil=>unfold od sE at e;simp at e
  |cons x l=>simp_all
 rw[d]at hs;refine enter func38 W W W W<|cu W W hs W<|cv W W (λg=>abK W g) λ_=>?_;exact r1 W bd<|bY W
def X6(p:fZ)(rs:L fG)(b:iM)(V X:L Int)(j:Nat):L (Nat×SV):=
 [(3,.box true<|bV p),(5,.box true<|oc b),(6,.box true<|.agg [.nil,.nil]),(8,.box false<|CO p rs b (ow rs b)<|nY rs b p.aa),(9,gm V),(12,.box true<|XA true X<|GY p rs b V j),(13,.i<|p.n+1+j9 p.aa j),
  (45,aj3 p.aa),(46,.i p.aa.length),(47,.i j)]
def T8(p:fZ)(rs:L fG)(b:iM)(V:L Int){j:Nat}(h:j<p.aa.length):GY p rs b V (j+1)=GY p rs b V j++[inU rs b ((V.drop 1).take p.n.toNat) p.aa[j]<|V.getD (p.n.toNat+1+j9 p.aa j) 0]:=by unfold GY;rw[ahs,adW,List.map_singleton,az h]
def X5(p:fZ)(h:uC p)(rs:L fG)(hx:∀s∈rs,cE s.lo/\cE s.hi)(hl:rs.length<2^40)(b:iM)(he:oD p rs b=0)(z:(dI (gi p rs b)<|qz p).l= -1):
 ab 38 [bV p,aj2 rs,oc b] (.de [XA false (((dI (gi p rs b)<|qz p).v.drop 1).take p.n.toNat)<|GY p rs b (dI (gi p rs b)<|qz p).v p.aa.length,.i 0]):=by
 have hs:=Ed p h rs hx hl b he;have v:=nh he;obtain⟨w,w2,w3⟩:=KF h hl v;rw[abx z,abx z]at hs;have hV:(dI (gi p rs b)<|qz p).v.length=qz p+1:=(Q6 w).v;have E2:=v.n1;have hn:=v.n;have H:=v.aa;have E1:p.n.toNat<=qz p:=Nat.le_add_right _ _;have C:∀k,k<=qz p-> -40<=(dI (gi p rs b)<|qz p).v.getD k 0/\(dI (gi p rs b)<|qz p).v.getD k 0<=40:=λk A=>acp w (HO w z) A;generalize (dI (gi p rs b)<|qz p).v=V at*;obtain⟨X,t⟩:∃X,X=(V.drop 1).take p.n.toNat:=⟨_,W⟩;have lX:X.length=p.n.toNat:=gn;rw[<-t];refine cx func38 W<|cu W W hs W<|cv W W (λg=>abK W g) λ_=>?_;refine UW 1 W U<|s8 (r:=9) (p:=[]) W W U<|r1 W bj ?_;rw[show(p.n+1).toNat-Int.toNat 1=p.n.toNat from E,show Int.toNat 1=1 from W,<-t];refine b8 W (wK X (λe=>by grind) E) W<|r1 W bj ?_;have Z:AO (.box true<|.agg [gu X,.nil]) (.box true<|XA true X<|GY p rs b V 0):=.box<|.agg<|.cons (.refl _)<|.cons (.le<|show aB .nil (.bm true 1 [] (gu) [])from W) .nil;refine vm (X6 p rs b V X 0) ⟨ak,ak,ak,ak,ak,⟨W,W,Z⟩,⟨W,W,.le<|aj8 SV.i<|by simp[j9]⟩,ak,ak,ak,U⟩<|aU (X6 p rs b V X) (λj=>j<=p.aa.length) (λj=>p.aa.length-j) 0 (abX _) ?_;intro j hj;unfold X6;refine cv W W ?_ ?_<;>intro g2;have c:j<p.aa.length:=E;have F:(j:Int).toNat=j:=E;have y:p.aa[j]∈p.aa:=ab3 c;have P:p.aa.getD j default=p.aa[j]:=az c;have hu:=v.val _ y;have o:=hu.fl.1;have q:=py c;have M:=BJ p.aa (i:=j+1) (j:=p.aa.length) c;have N:=Ar p.aa p.aa.length;have a:=T8 p rs b V c;have f:(nY rs b p.aa).getD j []=lZ rs b p.aa[j]:=by unfold nY;simp_all
 have F0:(nY rs b p.aa).length=p.aa.length:=by simp[nY]
 rw[<-t]at a;have J:=hu.out;generalize A0:p.aa[j]=u at*;refine UW 3 W U<|cU 4 [(3,.box true<|bV p),(5,.box true<|oc b),(6,.box true<|.agg [.nil,.nil]),(8,.box false<|CO p rs b (ow rs b)<|nY rs b p.aa),(9,gm V),(12,.box true<|XA true X<|GY p rs b V j),(13,.i<|p.n+1+j9 p.aa (j+1)),
  (45,aj3 p.aa),(46,.i p.aa.length),(47,.i j),(17,gu<|inU rs b X u<|V.getD (p.n.toNat+1+j9 p.aa j) 0)] True ?_ λ_=>?_
 have eo:(u.out:Int).toNat<X.length:=E;have F2: -40<=X.getD u.out.toNat 0/\X.getD u.out.toNat 0<=40:=by rw[t,ad8,ajm E,ah5,<-ad8];exact C _ E
 have B:∀k,k<u.ai.length-> -40000<=tE rs b u k/\tE rs b u k<=40:=λk A=>(wE rs b u k hu A v.rg hl o v.bn).2;have D:1<=u.ai.length/\u.ai.length<=8:=by rcases hu.kind with e|e|e;have:=(hu.int e).1;omega;have:=hu.add e;omega;have:=(hu.table e).1;omega
 have F1:=v.bn.c;have K:qz p=p.n.toNat+j9 p.aa p.aa.length:=W;refine r1 W (by simp only[aj,abu,F,P]<;>omega) ?_;rw[F,P];refine b8 W (wb _ _ D.1 E) W<|cv W W ?_ ?_<;>intro m;have m:u.kind=bk:=m;have O:=(hu.int m).1;have i0:=B 0 E;have il:(lZ rs b u).length=2:=by rw[MT];exact O
 have x:(lZ rs b u).getD 0 0=tE rs b u 0:=vo _ _ _ E;have T:Int.toNat 0=0:=W;have S:Int.toNat 1=1:=W;rw[show List.replicate u.ai.length (X.getD u.out.toNat 0)=[X.getD u.out.toNat 0,X.getD u.out.toNat 0] by rw[O];rfl];refine k1 W aP (by simp only[aj,abu,F,f,T,S,List.set_cons_zero,ajV,x,acC,ad1]<;>omega) ?_;refine eV U ⟨G,G,G,G,G,G,⟨W,cw ?_⟩,G,G,G,⟨W,aj8 (gu) ?_⟩,U⟩;rw[q,abl<|by rw[m];decide];rfl;unfold inU;simp_all;refine cv W W ?_ ?_<;>intro d;have d:u.kind=dO:=d;rw[abx d]at q;have R:(p.n+1+(j9 p.aa j:Int)).toNat=p.n.toNat+1+j9 p.aa j:=E;have f1:=(hu.table d).1;rw[show List.replicate u.ai.length (X.getD u.out.toNat 0)=[X.getD u.out.toNat 0] by rw[f1];rfl];refine r1 W (by simp only[aj,abu,R,acC,ad1]<;>omega) ?_;refine eV U ⟨G,G,G,G,G,G,⟨W,cw ?_⟩,G,G,G,⟨W,aj8 (gu) ?_⟩,U⟩;omega;unfold inU;rw[abl<|by rw[d];decide,abx d,R];rfl;have m:¬u.kind=bk:=m;have d:¬u.kind=dO:=d;refine cn W U ⟨G,G,G,G,G,G,⟨W,cw ?_⟩,G,G,G,⟨W,aj8 (gu) ?_⟩,U⟩;simp_all;unfold inU;simp_all;have Y:(GY p rs b V j).length=j:=by simp[GY]
 refine r1 W (by simp[aj,len,Y]<;>omega) ?_;refine kL (j+1) E E ⟨ak,ak,ak,ak,ak,⟨W,W,.box<|.agg<|.cons (.refl _)<|.cons (.row ?_) .nil⟩,ak,ak,ak,ak,U⟩;rw[a,dA,adW];exact mS.refl _;have:j=p.aa.length:=E;subst this;refine k0 W aP<|bY W
def agG(p:fZ)(sh:L Int)(is:L (L Int)):Prop:=(sh.length:Int)=p.n/\is.length=p.aa.length/\∀i<p.aa.length,(is.getD i []).length=(p.aa.getD i default).ai.length
instance(p:fZ)(sh:List Int)(is:List (List Int)):Decidable (agG p sh is):=inferInstanceAs<|Decidable<|_/\_
def cfU(b:iM)(sh:L Int)(u:bw)(l:L Int):Bool:=if u.kind=jN then l.any λk=>decide (k≠sh.getD u.out.toNat 0)else if u.kind=bk then decide (l.getD 0 0+l.getD 1 0-b.c≠sh.getD u.out.toNat 0)else false
def afI(p:fZ)(sh:L Int)(is:L (L Int))(b:iM):Prop:=∃j<p.aa.length,cfU b sh (p.aa.getD j default) (is.getD j [])=true
instance(p:fZ)(sh:List Int)(is:List (List Int))(b:iM):Decidable (afI p sh is b):=inferInstanceAs<|Decidable<|∃j,j<p.aa.length/\_
def zL{p:fZ}{rs:L fG}{b:iM}{c:jz}:c∈gi p rs b↔(∃s,s<p.n.toNat/\c∈Gg rs b s)\/∃j,j<p.aa.length/\c∈vK ((p.n.toNat+j9 p.aa j:Nat):Int) rs b (p.aa.getD j default):=by unfold gi kK oG sC;simp
def Uk{a:Rat}(h:0<a.num):vy (2*a)=vy a+1:=by obtain⟨e,he,-⟩:=Kp h;rw[jB he];refine jB ⟨?_,?_⟩;rw[yZ];have:=he.1;grind;rw[yZ];have:=he.2;grind
def T1{a:Rat}(h:0<=a)(m:Int):kS a m<=kS a (m+1):=by
 unfold kS;split;simp_all;rename_i c;have b:=zP h c m;have e:iO (m+1)/a=2*(iO m/a):=by rw[yZ];grind
 have f:=ahH.2<|ahh b;have d:(iO m/a).num≠0:=λe=>by rw[ait.1 e]at b;simp_all
 rw[e,Uk E];omega
def rtQ(p:fZ)(sh:L Int)(is:L (L Int))(i k:Nat):Rat:=iO ((is.getD i []).getD k 0-sh.getD ((p.aa.getD i default).ai.getD k default).sh.toNat 0)*bp ((p.aa.getD i default).ai.getD k default).dQ
def pn(n:Nat):Nm:=if n<63 then⟨((2^n:Nat):Int),none⟩else⟨1,some<|2^n⟩
def We(n:Nat):nv (pn n)=((2^n:Nat):Int):=by unfold pn;split;rfl;show(1:Int)*_=_;rw[Int.one_mul]
def Wg(n:Nat):bz (pn n):=by
 unfold pn;split;rename_i h;have:=aeh (n:=2) gC (show n<=62 from E);show(-(2^63):Int)<=((2^n:Nat):Int)/\((2^n:Nat):Int)<=(9223372036854775807:Int)
 grind
 rename_i h;have:=aeh (n:=2) gC (show 63<=n from E);exact⟨.inl W,E⟩
def Wd{n:Nat}(h:n<=81):bI.ah (2^n)=if n<64 then[((2^n:Nat):Int)]else[0,((2^(n-64):Nat):Int)]:=by
 by_cases a:n<64;have:=aeh (n:=2) gC (show n<=63 from E);rw[abx a];exact bI.j7 (ae9 gC) E;rw[abl a];have b:=aeh (n:=2) gC (show n-64<=17 from E);have d:0<2^(n-64):=ae9 gC;symm;generalize hm:2^(n-64)=m at*;refine bI.tU ?_ (by simp;omega) ?_;intro x c
 grind
 rw[show n=64+(n-64)from E,aga,hm];simp[bI.val]
def Wf{n:Nat}(h:n<=81):fY (pn n) 2:=by unfold fY;rw[We,ahW,Wd h];split<;>simp
def acU:fY ⟨1,none⟩ 2:=by unfold fY;rw[show(nv ⟨1,none⟩).natAbs=2^0 from W,Wd gC];decide
def ZK(n:Nat):SV:=if n<63 then .agg [.i ((2^n:Nat):Int),.nil]else .agg [.i 1,gw<|if n<64 then[((2^n:Nat):Int)]else[0,((2^(n-64):Nat):Int)]]
def Wh{n:Nat}(h:n<=81):(ZK n).den=(eN<|pn n).den:=by unfold pn ZK;by_cases a:n<63;rw[abx a,abx a];rfl;rw[abl a,abl a];unfold eN;rw[show ws ⟨1,some<|2^n⟩=bI.ah (2^n)from W,Wd h];split<;>rfl
def tiU:AL:=match Jl tt 69 with|some t=>t|none=>⟨false,0,0,.dead⟩
def dbl:∀n<81,(vR (pn n)<|pn n).s=(pn<|n+1).s/\(vR (pn n)<|pn n).w=(pn<|n+1).w:=be
def afH{n:Nat}(h:n<81):ab 174 [ZK n,ZK n] (ZK<|n+1):=by
 have e:vR (pn n) (pn n)=pn (n+1):=by have:=dbl n h;cases a:vR (pn n) (pn n);cases b:pn (n+1);simp_all
 have a:=Od (pn n) (pn n) (Wg n) (Wg n) (Wf E) (Wf E) gC;rw[e]at a;exact a.same (by simp only[aE,Wh<|show n<=81 from E]) (Wh<|show n+1<=81 from E).symm
def Vm(i:Nat):L SV:=(List.range 81).flatMap λj=>if j<i then match ZK j with
 |.agg l=>l
 |_=>[]else[.i 0,.nil]
def ach:SV:=.agg<|Vm 81
def Y6:ab 84 [] ach:=by
 refine cx func84 W<|cu W W (show ab 173 [.i 1] (ZK 0)from(EF 1).same W W) W<|r0 W<|aU (λi:Nat=>[(0,.box true<|.agg<|Vm 0),(1,.box true<|.agg<|Vm i),(2,.box true<|ZK i),(5,.i i)]) (λi=>i<=81) (λi=>81-i) 0 gC ?_;intro i hi;refine cv W W ?_ ?_<;>intro g
 ·have a:i<81:=E;have b:=afH a;refine UW 1 W U<|cU 3 [(0,.box true<|.agg<|Vm 0),(1,.box true<|.agg<|Vm<|i+1),(2,.box true<|ZK<|i+1),(5,.i i)] True ?_ λ_=>?_
  ·clear hi;rcases i with _|_|_|_|_|_|_|_|_|_|_|_|_|_|_|_|_|_|_|_|_|_|_|_|_|_|_|_|_|_|_|_|_|_|_|_|_|_|_|_|_|_|_|_|_|_|_|_|_|_|_|_|_|_|_|_|_|_|_|_|_|_|_|_|_|_|_|_|_|_|_|_|_|_|_|_|_|_|_|_|_|i
   all_goals first|exact abK a E|(refine r1 rfl bj ?_;refine b8 W b W ?_;refine r1 W bj ?_;exact bo U)
  refine r1 W (am) ?_;exact aL (i+1) E
 have e:i=81:=E;subst e;refine cm W W<|aB.of_eq W
section
variable{b b2:iM}
structure BLe(b b2:iM):Prop where
 c:b2.c=b.c
 d:b2.d=b.d
 s:b.s<=b2.s
 g:b.g<=b2.g
def ME{a:Rat}(h:0<=a)(m:Int):∀k:Nat,kS a m<=kS a (m+k)
 |0=>I
 |k+1=>by have d:=ME h m k;have c:=T1 h<|m+k;rw[show m+((k+1:Nat):Int)=m+k+1 from E];omega
def Rp{a:Rat}(h:0<=a){m m2:Int}(hm:m<=m2):kS a m<=kS a m2:=by have:=ME h m (m2-m).toNat;rwa[show m+((m2-m).toNat:Int)=m2 from E]at this
def acs(h:BLe b b2)(rs:L fG)(s:Nat):Q0 rs b s<=Q0 rs b2 s:=Rp (tB _) h.s
def adg(h:BLe b b2)(rs:L fG)(u:bw)(k:Nat):tE rs b u k<=tE rs b2 u k:=by unfold tE;split;rw[h.d];simp_all;exact Rp (oq _) h.s
def aaq(a:BLe b b2)(rs:L fG)(u:bw)(h:u.kind=bk):tE rs b2 u 0=tE rs b u 0:=by unfold tE;rw[abx ⟨h,W⟩,abx ⟨h,W⟩,a.d]
def Ze{p:fZ}{rs:L fG}{y:Nat->Int}(l:BLe b b2)(t:Oh (gi p rs b) y):Oh (gi p rs b2) y:=by
 refine⟨t.1,λc hc=>?_⟩
 suffices h:∃d∈gi p rs b,d.less=c.less/\d.oI=c.oI/\d.dM<=c.dM by obtain⟨d,i,f,e,m⟩:=h;have:=t.2 d i;unfold nl nt at*;rw[f,e]at this;omega
 rcases zL.1 hc with⟨s,hs,hc⟩|⟨j,w,hc⟩;have q:=acs l rs s;simp[Gg,or_false]at hc;rcases hc with rfl|rfl;exact⟨_,zL.2<|.inl ⟨s,hs,ahQ ..⟩,W,W,q⟩;exact⟨_,zL.2<|.inl ⟨s,hs,aiG _<|ahQ ..⟩,W,W,aeF _⟩;have a:∀d,d∈vK ((p.n.toNat+j9 p.aa j:Nat):Int) rs b (p.aa.getD j default)->d∈gi p rs b:=λd h=>zL.2<|.inr ⟨j,w,h⟩;have n:=adg l rs<|p.aa.getD j default;have r:=aaq l rs<|p.aa.getD j default;generalize p.aa.getD j default=u at*;have C:b.g<=b2.g:=l.g;have x:b2.c=b.c:=l.c;unfold vK at hc a;split at hc;rename_i g;rw[abx g]at a;have r:=r g;have i1:=n 1;simp[Gh,forall_eq]at hc a;obtain⟨i,f,e,m,B,A,z⟩:=a;rcases hc with rfl|rfl|rfl|rfl|rfl|rfl|rfl;exact⟨_,i,W,W,ac⟩;exact⟨_,f,W,W,ac⟩;exact⟨_,e,W,W,ac⟩;exact⟨_,m,W,W,ac⟩;exact⟨_,B,W,W,ac⟩;exact⟨_,A,W,W,ac⟩;exact⟨_,z,W,W,ac⟩;rename_i g1;rw[abl g1]at a;split at hc;rename_i g;rw[abx g]at a;rw[af2]at hc;obtain⟨k,v,hc⟩:=hc;have a:=λd h=>a d<|af2.2 ⟨k,v,h⟩;have o:=n k;simp[BL,adb,ahd,or_false,forall_eq_or_imp,forall_eq]at hc a;obtain⟨i,f,e⟩:=a;rcases hc with rfl|rfl|rfl;exact⟨_,i,W,W,o⟩;exact⟨_,f,W,W,ac⟩;exact⟨_,e,W,W,ac⟩;rename_i g2;rw[abl g2]at a;split at hc;rename_i g;rw[abx g]at a;have o:=n 0;simp[KE,adb,ahd,or_false,forall_eq_or_imp,forall_eq]at hc a;obtain⟨i,f,e,m⟩:=a;rcases hc with rfl|rfl|rfl|rfl;exact⟨_,i,W,W,o⟩;exact⟨_,f,W,W,aeF _⟩;exact⟨_,e,W,W,ac⟩;exact⟨_,m,W,W,ac⟩;cases hc
end
structure Tmq(cs:List jz)(n T:Nat)(s:Rx)(τ:Nat->Nat):Prop where
 a:∀k,τ k<=T
 b:∀k,1<=τ k->k<=n/\∃i,i<cs.length/\ga s.b k=i/\nl (cs.getD i default)=k/\ga s.v (nt<|cs.getD i default)+(cs.getD i default).dM<=ga s.v k/\
  (τ k<τ (nt<|cs.getD i default)\/nt (cs.getD i default)=k->ga s.v (nt<|cs.getD i default)+(cs.getD i default).dM<ga s.v k)
 i:∀j k,1<=τ j->τ j=τ k->j=k
 l:s.l= -1\/∃k,s.l=(k:Nat)/\1<=τ k
 m:∀k≤n,0<=ga s.b k->1<=τ k
section
variable{cs:L jz}{n T:Nat}{s:Rx}{τ:Nat->Nat}
def Tmq.step(h:Tmq cs n T s τ)(hc:CW cs n)(q:vU n s){j:Nat}(r:j<cs.length):∃o,Tmq cs n (T+1) (jF s j<|cs.getD j default) o:=by obtain⟨J,H,B,F,-,-⟩:=hc.at<|j0 r;obtain⟨l,d,hi,hl,hm⟩:=h;unfold jF;by_cases g:rO s (cs.getD j default);rw[abx g];have m:=λk=>qf (x:=s.v) (i:=nl<|cs.getD j default) (by have:=q.v;omega) (ga s.v (nt<|cs.getD j default)+(cs.getD j default).dM) k;have t:=λk=>qf (x:=s.b) (i:=nl<|cs.getD j default) (by have:=q.b;omega) (j:Int) k;obtain⟨g1,g2⟩:=g;refine⟨λk=>if k=nl (cs.getD j default)then T+1 else τ k,λk=>?_,λk f=>?_,λx y c b=>?_,.inr ⟨nl<|cs.getD j default,B.symm,by rw[abx W];omega⟩,λk f d=>?_⟩;have:=l k;split<;>omega;dsimp only at f⊢;rw[t,m];by_cases e:k=nl (cs.getD j default);rw[abx e,abx e,abx e];refine⟨E,j,r,W,e.symm,?_,λc=>?_⟩;rw[m];split;rename_i a;rw[<-a]at g2;omega;omega;rw[m];split;rename_i a;rw[<-a]at g2;omega;rename_i a;rw[abl a]at c;have:=l<|nt<|cs.getD j default;rcases c with c|c;omega;exact abK (c.trans e) a;rw[abl e]at f⊢;rw[abl e,abl e];obtain⟨A,i,z,w,v,p,u⟩:=d k f;refine⟨A,i,z,w,v,?_,?_⟩;rw[m];split;rename_i a;rw[a]at p;omega;exact p;rw[m];split;rename_i a;rw[a]at p;omega;exact u;have D:=l x;have C:=l y;split at c;rename_i e;rw[abx e]at b;split at b;rename_i a;rw[e,a];omega;rename_i e;rw[abl e]at b;split at b;omega;exact hi x y c b;dsimp only at d⊢;rw[t]at d;split;omega;rename_i e;rw[abl e]at d;exact hm k f d;rw[abl g];exact⟨τ,λk=>by have:=l k;omega,d,hi,hl,hm⟩
def Tmq.to(hc:CW cs n)(b:vU n s)(h:Tmq cs n T s τ):∀j≤cs.length,∃a,Tmq cs n (T+j) (oy cs s j) a
 |0,_=>⟨τ,h⟩
 |j+1,d=>by obtain⟨a,c⟩:=Tmq.to hc b h j E;exact c.step hc (b.to hc j E).1 E
def Tmq.run(hc:CW cs n):∀(k:Nat){T:Nat}{s:Rx}{τ:Nat->Nat},vU n s->Tmq cs n T s τ->∃T' a,Tmq cs n T' (lH cs k s) a
 |0,T,s,τ,_,h=>⟨T,τ,h⟩
 |k+1,T,s,τ,b,h=>by obtain⟨a,c⟩:=Tmq.to (s:={s with l:= -1}) hc ⟨b.v,b.b,b.z,b.f⟩ ⟨h.a,h.b,h.i,.inl W,h.m⟩ _ .refl;unfold lH;split;exact⟨_,a,c⟩;exact Tmq.run hc k (b.round hc).1 c
def VP(hc:CW cs n):∃T τ,Tmq cs n T (dI cs n) τ:=
 Tmq.run (τ:=λ_=>0) hc (n+2) (Ce n) ⟨λ_=>.refl,λk b=>abK b E,λj k c=>abK c E,.inl W,λk b a=>by unfold UU ga at a;rw[az<|by simp;omega]at a;simp at a⟩
def C0(cs:L jz)(b:L Int)(k:Nat):Nat->Int
 |0=>0
 |m+1=>C0 cs b k m+(DD cs b<|cR cs b k m).dM
def X3(h:Tmq cs n T s τ){k:Nat}(a:∀m,1<=τ (cR cs s.b k m)):∀m,ga s.v (cR cs s.b k m)+C0 cs s.b k m<=ga s.v k/\(ga s.v (cR cs s.b k m)+C0 cs s.b k m<ga s.v k\/m<=τ k-τ (cR cs s.b k m)/\τ (cR cs s.b k m)<=τ k)
 |0=>⟨by show ga s.v k+0<=_;omega,.inr ⟨abX _,.refl⟩⟩
 |m+1=>by
  obtain⟨o,l⟩:=X3 h a m;obtain⟨-,i,t,j,r,q,f⟩:=h.b _<|a m;have hn:=a<|m+1;have e:cR cs s.b k (m+1)=nt _:=W;have c:DD cs s.b (cR cs s.b k m)=cs.getD i default:=by unfold DD;rw[j,agL]
  have p:C0 cs s.b k (m+1)=C0 cs s.b k m+(cs.getD i default).dM:=by show _+(DD cs s.b _).dM=_;rw[c]
  rw[c]at e;rw[e];rw[e]at hn;by_cases g:τ (cR cs s.b k m)<τ (nt<|cs.getD i default)\/nt (cs.getD i default)=cR cs s.b k m;have:=f g;omega;have d:τ _≠τ _:=λe=>g<|.inr<|h.i _ _ hn e;omega
def Td(h:Tmq cs n T s τ){k p:Nat}(a:∀m,1<=τ (cR cs s.b k m))(c:1<=p)(he:cR cs s.b k p=k):C0 cs s.b k p<0:=by have:=X3 h a p;rw[he]at this;omega
end
def NV(cs:L jz)(b:L Int)(stop:Nat):∀(f a:Nat),(∃p,1<=p/\p<=f/\cR cs b a p=stop)->∃q,1<=q/\q<=f/\cR cs b a q=stop/\sE cs b stop f a=(List.range q).map λm=>ga b (cR cs b a m)
 |0,_,⟨p,j,i,_⟩=>E
 |f+1,a,⟨p,j,i,d⟩=>by unfold sE;by_cases e:nt (DD cs b a)=stop;rw[abx e];exact⟨1,.refl,E,e,W⟩;rw[abl e];have n:p≠1:=λh=>e (by rwa[h]at d);obtain⟨q,l,k,c,g⟩:=NV cs b stop f _ ⟨p-1,E,E,by rw[v8,show p-1+1=p from E];exact d⟩;rw[v8]at c;refine⟨q+1,E,E,c,?_⟩;rw[g,List.range_succ_eq_map];simp[v8];rfl
def Za(l:L Int):l.reverse.sum=l.sum:=by
 induction l with
 |nil=>rfl
 |cons x l a=>simp;omega
def N3(cs:L jz)(b:L Int)(k:Nat):∀q,vO cs ((List.range q).map λm=>ga b<|cR cs b k m)=C0 cs b k q
 |0=>rfl
 |q+1=>by have:=N3 cs b k q;unfold vO at*;rw[ahs,adW,adW,aiy,this];simp;rfl
def I6{cs:L jz}{b:L Int}{k:Nat}(hl:∀m,(vP cs<|ga b<|cR cs b k m).less=(cR cs b k m:Int)-1/\(vP cs<|ga b<|cR cs b k m).oI=(cR cs b k (m+1):Int)-1):
 ∀(q:Nat)(p:Int),(vP cs p).less=(cR cs b k q:Int)-1->KL cs p ((List.range q).map λm=>ga b<|cR cs b k m).reverse
 |0,_,_=>trivial
 |q+1,p,a=>by rw[ahs,adW,List.reverse_append];exact⟨(hl q).2.trans a.symm,I6 hl q _ (hl q).1⟩
def aaR{cs:L jz}{n:Nat}(hc:CW cs n)(hn:n<=200)(hl:(dI cs n).l≠ -1):CX cs (od cs n)=0/\od cs n≠[]:=by
 obtain⟨k,O,A,p,K,J,M⟩:=Jb hc hl;obtain⟨T,D,B⟩:=VP hc;have N:∀m,1<=D (cR cs (dI cs n).b k m):=λm=>by obtain⟨w,i,-,s,-⟩:=A m;exact B.m _ w E
 unfold od;rw[O,agL];generalize u:(dI cs n).b=b at*;have r:∀m,∃i,i<cs.length/\ga b (cR cs b k m)=(i:Int)/\(vP cs<|ga b<|cR cs b k m).less=(cR cs b k m:Int)-1/\(vP cs<|ga b<|cR cs b k m).oI=(cR cs b k (m+1):Int)-1:=λm=>by
  obtain⟨w,i,v,s,S⟩:=A m;obtain⟨Z,Y,X,V,-,-⟩:=hc.at<|j0 (j:=i) v;have e:vP cs (ga b<|cR cs b k m)=cs.getD i default:=by unfold vP;rw[s,agL]
  have P:cR cs b k (m+1)=nt (cs.getD i default):=by show nt (DD cs b _)=_;unfold DD;rw[s,agL]
  rw[P,e];exact⟨i,v,s,E,E⟩
 obtain⟨q,H,R,y,F⟩:=NV cs b (cR cs b k<|n+1) (n+1) (cR cs b k<|n+1) ⟨p,K,J,by rw[uN];exact M⟩;rw[F];have g:∀m,cR cs b (cR cs b k<|n+1) m=cR cs b k (n+1+m):=uN cs b k<|n+1;generalize hs:cR cs b k (n+1)=d at*;have a:∀m,∃i,i<cs.length/\ga b (cR cs b d m)=(i:Int)/\(vP cs<|ga b<|cR cs b d m).less=(cR cs b d m:Int)-1/\(vP cs<|ga b<|cR cs b d m).oI=(cR cs b d (m+1):Int)-1:=λm=>by rw[g,g];exact r<|n+1+m
 have C:C0 cs b d q<0:=by have:=Td (k:=d) (p:=q) B (λm=>by rw[u,g];exact N _) H (by rw[u];exact y);rwa[u]at this
 have c:(((List.range q).map λm=>ga b<|cR cs b d m).reverse).length=q:=I;have t:((List.range q).map λm=>ga b<|cR cs b d m).reverse≠[]:=λe=>by rw[e]at c;simp at c;omega
 have o:(((List.range q).map λm=>ga b<|cR cs b d m).reverse).getD (q-1) 0=ga b d:=by rw[az<|by rw[c];omega,List.getElem_reverse,ah3,List.getElem_range];simp only[adZ,ajk];rw[show q-1-(q-1)=0 from E];rfl
 refine⟨?_,t⟩;unfold CX;rw[c,abl E,abl E,abl ?_,abl<|not_not_intro ?_,abl ?_];unfold vO;rw[List.map_reverse,Za];have:=N3 cs b d q;unfold vO at this;rw[this];omega;rw[o];refine I6 (λm=>by obtain⟨i,-,-,h⟩:=a m;exact h) q _ ?_;rw[y];obtain⟨i,-,-,h,-⟩:=a 0;exact h;rintro⟨x,z,f⟩;rw[List.mem_reverse,ab4]at z;obtain⟨m,-,rfl⟩:=z;obtain⟨i,w,v,-⟩:=a m;unfold Gt at f;simp only[decide_eq_true_eq]at f;omega
def ZW(p:fZ)(h:uC p)(g:1<=p.n)(f:p.n<=100)(e:p.aa.length<=96):ab 41 [bV p] (.i (qz p:Nat)):=by refine cx func41 W<|cp W (λi:Nat=>[(1,.box true<|bV p),(3,.i<|p.n+j9 p.aa i),(4,.i i)]) (λi=>i<=p.aa.length) (λi=>p.aa.length-i) 0 (abX _) ⟨G,⟨W,aj8 SV.i<|by simp[j9]⟩,G,U⟩ ?_;intro i hi;have c:=Ar p.aa i;refine cv W W ?_ ?_<;>intro g1;have a:i<p.aa.length:=E;have b:(i:Int).toNat=i:=E;have hs:=py a;have d:p.aa.getD i default=p.aa[i]:=az a;refine fM W ?_;rw[b,d];refine cg W ?_ ?_<;>intro g2;have g2:p.aa[i].kind=dO:=g2;rw[abx g2]at hs;refine fM W<|again (i+1) E E ⟨G,⟨W,aj8 SV.i E⟩,G,U⟩;have g2:¬p.aa[i].kind=dO:=g2;rw[abl g2]at hs;refine fM W<|again (i+1) E E ⟨G,⟨W,aj8 SV.i E⟩,G,U⟩;have b:i=p.aa.length:=E;subst b;refine cm W W<|aj8 SV.i<|by unfold qz;omega
def VW(p:fZ)(h:uC p)(rs:L fG)(c:∀s∈rs,cE s.lo/\cE s.hi)(hl:rs.length<2^40)(b:iM)(he:oD p rs b=0):
 ab 37 [bV p,aj2 rs,oc b] (if(dI (gi p rs b)<|qz p).l= -1 then .de [.nil,.i 7]else .de [gu<|od (gi p rs b)<|qz p,.i 0]):=by
 have hs:=Ed p h rs c hl b he;by_cases a:(dI (gi p rs b)<|qz p).l= -1;rw[abx a,abx a]at hs;rw[abx a];refine cx func37 W<|cu W W hs W<|cv W W (λg=>abK W g) λ_=>?_;refine cq W W;rw[abl a,abl a]at hs;rw[abl a];obtain⟨x,l,d⟩:∃x l,od (gi p rs b) (qz p)=x::l:=by
  cases e:od (gi p rs b) (qz p)with
  |nil=>unfold od sE at e;simp at e
  |cons x l=>exact⟨x,l,W⟩
 rw[d]at hs⊢;refine cx func37 W<|cu W W hs W<|cv W W (λg=>abK W g) λ_=>?_;refine r1 W bd<|bY W
end Go.Ai.Pg
section
namespace Go.Proofs
open Go.Shelf Go.Proofs.Tryz
def Tryz.MJ:Go.Shelf.Ren:=⟨λ|171=>298|243=>330|246=>361|283=>362|284=>363|285=>364|286=>365|129=>286|317=>384|318=>385|319=>386|320=>387|337=>396|338=>397|n=>n,λ|3=>3|9=>9|2=>2|4=>4|171=>413|0=>0|53=>337|37=>373|5=>5|173=>415|212=>436|51=>83|20=>20|213=>437|46=>283|232=>452|233=>453|n=>n,λ|17=>5|18=>6|19=>7|n=>n⟩
theorem Tryz.aaf:Go.Proofs.LaysM.n171 prog Tryz.MJ where
 mixed:=Go.Ai.aP
 f129:=func286.trans<|aal some Go.Ai.aP
 f171:=func298.trans<|aal some Go.Ai.aP
 f243:=func330.trans<|aal some Go.Ai.aP
 f246:=func361.trans<|aal some Go.Ai.aP
 f283:=func362.trans<|aal some Go.Ai.aP
 f284:=func363.trans<|aal some Go.Ai.aP
 f285:=func364.trans<|aal some Go.Ai.aP
 f286:=func365.trans<|aal some Go.Ai.aP
 f317:=func384.trans<|aal some Go.Ai.aP
 f318:=func385.trans<|aal some Go.Ai.aP
 f319:=func386.trans<|aal some Go.Ai.aP
 f320:=func387.trans<|aal some Go.Ai.aP
 f337:=func396.trans<|aal some Go.Ai.aP
 f338:=func397.trans<|aal some Go.Ai.aP
 t0:=underlying0
 a0:=isAgg0
 z0:=sizeOf0
 v0:=zeroValue0
 t2:=underlying2
 a2:=isAgg2
 z2:=sizeOf2
 v2:=zeroValue2
 t3:=underlying3
 a3:=isAgg3
 z3:=sizeOf3
 v3:=zeroValue3
 t4:=underlying4
 a4:=isAgg4
 z4:=sizeOf4
 v4:=zeroValue4
 t5:=underlying5
 a5:=isAgg5
 z5:=sizeOf5
 v5:=zeroValue5
 t9:=underlying9
 a9:=isAgg9
 z9:=sizeOf9
 v9:=zeroValue9
 t20:=underlying20
 a20:=isAgg20
 z20:=sizeOf20
 v20:=zeroValue20
 t37:=underlying373
 a37:=isAgg373
 z37:=sizeOf373
 v37:=zeroValue373
 t46:=underlying283
 a46:=isAgg283
 z46:=sizeOf283
 v46:=zeroValue283
 t51:=underlying83
 a51:=isAgg83
 z51:=sizeOf83
 v51:=zeroValue83
 t53:=underlying337
 a53:=isAgg337
 z53:=sizeOf337
 v53:=zeroValue337
 t171:=underlying413
 a171:=isAgg413
 z171:=sizeOf413
 v171:=zeroValue413
 t173:=underlying415
 a173:=isAgg415
 z173:=sizeOf415
 v173:=zeroValue415
 t212:=underlying436
 a212:=isAgg436
 z212:=sizeOf436
 v212:=zeroValue436
 t213:=underlying437
 a213:=isAgg437
 z213:=sizeOf437
 t232:=underlying452
 a232:=isAgg452
 z232:=sizeOf452
 v232:=zeroValue452
 t233:=underlying453
 a233:=isAgg453
 z233:=sizeOf453
 v233:=zeroValue453
 g17:=Go.Ai.aP
 g18:=Go.Ai.aP
 g19:=Go.Ai.aP
 i0:=Go.Ai.aP
 i2:=Go.Ai.aP
 i3:=Go.Ai.aP
 i4:=Go.Ai.aP
 i5:=Go.Ai.aP
 i9:=Go.Ai.aP
 i20:=Go.Ai.aP
 i37:=Go.Ai.aP
 i46:=Go.Ai.aP
 i51:=Go.Ai.aP
 i53:=Go.Ai.aP
 i171:=Go.Ai.aP
 i173:=Go.Ai.aP
 i212:=Go.Ai.aP
 i232:=Go.Ai.aP
 i233:=Go.Ai.aP
 m17:=Go.Ai.aP
 m18:=Go.Ai.aP
 m19:=Go.Ai.aP
end Go.Proofs
namespace Go.Ai
open Go.Proofs Go.Proofs.Tryz
def yp(w:World)(k:Nat)(os:Array Obj):Go.RowKit.Below w.heap.size w (Sort.grow (w.drewN k) os):=⟨W,W,W,I,λi hi=>by simp[Sort.grow,Array.getElem?_append,hi]⟩
def aaj(n:Int)(l: -(2^63)<=n)(j:n<=9223372036854775807):ab 298 [.i n] (.s<|Lib.itoa n):=by intro w S o g f hc;obtain⟨y,p,t,r,rfl,q,_,d,rfl,rfl⟩:=hc;obtain⟨_,rfl,rfl⟩:=d;refine sT.mB func298 W W<|(Any.strconv_Itoa Tryz.aaf n l j w g).mono ?_;rintro e m⟨rfl,k,os,rfl⟩;have c:=yp w k os;exact⟨_,W,S,[],c,λ_ h=>h,λ_ h=>.inl h,λb a=>aey (f b a) c.size,by simp[SV.den,Rel,scalar,bs],aee,I⟩
def decDigits_eq(u:Nat):Lib.decDigits u=decl u 1:=by
 induction u using Nat.strongRecOn with
 |ind u a=>
  rw[Lib.decDigits,bu E];by_cases h:u<10;rw[dif_pos h,show u/10=0 from E,dm,show u%10=u from E];rfl;rw[dif_neg h,a _ E];have:decl (u/10) 1=decl (u/10) (1-1):=by rw[bu E,bu (n:=u/10) (k:=1-1) E]
  rw[this];rfl
def aak(z:Int):Lib.itoa z=b7 z:=by unfold Lib.itoa b7;split;rw[decDigits_eq];rw[decDigits_eq];congr 1;omega
def W3(n:Int)(b: -(2^63)<=n)(a:n<=9223372036854775807):ab 298 [.i n] (.s<|b7 n):=by rw[<-aak];exact aaj n b a
end Go.Ai
end
section
namespace Go.Proofs
open Go.Shelf Go.Proofs.Tryz
def Tryz.MI:Go.Shelf.Ren:=⟨λ|283=>362|n=>n,λ|3=>3|9=>9|4=>4|n=>n,λ|n=>n⟩
theorem Tryz.aae:Go.Proofs.Lays.n283 prog Tryz.MI where
 mixed:=Go.Ai.aP
 f283:=func362.trans<|aal some Go.Ai.aP
 t3:=underlying3
 a3:=isAgg3
 z3:=sizeOf3
 v3:=zeroValue3
 t4:=underlying4
 a4:=isAgg4
 z4:=sizeOf4
 v4:=zeroValue4
 t9:=underlying9
 a9:=isAgg9
 z9:=sizeOf9
 v9:=zeroValue9
def Tryz.MH:Go.Shelf.Ren:=⟨λ|284=>363|129=>286|317=>384|318=>385|n=>n,λ|53=>337|3=>3|212=>436|0=>0|4=>4|46=>283|5=>5|9=>9|n=>n,λ|17=>5|n=>n⟩
theorem Tryz.aad:Go.Proofs.LaysM.n284 prog Tryz.MH where
 mixed:=Go.Ai.aP
 f129:=func286.trans<|aal some Go.Ai.aP
 f284:=func363.trans<|aal some Go.Ai.aP
 f317:=func384.trans<|aal some Go.Ai.aP
 f318:=func385.trans<|aal some Go.Ai.aP
 t0:=underlying0
 a0:=isAgg0
 z0:=sizeOf0
 v0:=zeroValue0
 t3:=underlying3
 a3:=isAgg3
 z3:=sizeOf3
 v3:=zeroValue3
 t4:=underlying4
 a4:=isAgg4
 z4:=sizeOf4
 v4:=zeroValue4
 t5:=underlying5
 a5:=isAgg5
 z5:=sizeOf5
 v5:=zeroValue5
 t9:=underlying9
 a9:=isAgg9
 z9:=sizeOf9
 v9:=zeroValue9
 t46:=underlying283
 a46:=isAgg283
 z46:=sizeOf283
 v46:=zeroValue283
 t53:=underlying337
 a53:=isAgg337
 z53:=sizeOf337
 v53:=zeroValue337
 t212:=underlying436
 a212:=isAgg436
 z212:=sizeOf436
 v212:=zeroValue436
 g17:=Go.Ai.aP
 i0:=Go.Ai.aP
 i3:=Go.Ai.aP
 i4:=Go.Ai.aP
 i5:=Go.Ai.aP
 i9:=Go.Ai.aP
 i46:=Go.Ai.aP
 i53:=Go.Ai.aP
 i212:=Go.Ai.aP
 m17:=Go.Ai.aP
def Tryz.MG:Go.Shelf.Ren:=⟨λ|285=>364|n=>n,λ|37=>373|53=>337|3=>3|4=>4|51=>83|9=>9|5=>5|0=>0|n=>n,λ|n=>n⟩
theorem Tryz.aac:Go.Proofs.Lays.n285 prog Tryz.MG where
 mixed:=Go.Ai.aP
 f285:=func364.trans<|aal some Go.Ai.aP
 t0:=underlying0
 a0:=isAgg0
 z0:=sizeOf0
 v0:=zeroValue0
 t3:=underlying3
 a3:=isAgg3
 z3:=sizeOf3
 v3:=zeroValue3
 t4:=underlying4
 a4:=isAgg4
 z4:=sizeOf4
 v4:=zeroValue4
 t5:=underlying5
 a5:=isAgg5
 z5:=sizeOf5
 v5:=zeroValue5
 t9:=underlying9
 a9:=isAgg9
 z9:=sizeOf9
 v9:=zeroValue9
 t37:=underlying373
 a37:=isAgg373
 z37:=sizeOf373
 v37:=zeroValue373
 t51:=underlying83
 a51:=isAgg83
 z51:=sizeOf83
 v51:=zeroValue83
 t53:=underlying337
 a53:=isAgg337
 z53:=sizeOf337
 v53:=zeroValue337
open Go.Shelf Go.RowKit Go.Sort Go.Lib Go.Proofs.Tryz
def Tryz.OO(i:Nat)(h:i<100)(w:World):Calls prog 362 #[.int .i64 i] w λe w'=>e=.returned (.string ⟨(Lib.decDigits i).toArray⟩)/\w'=w:=Any.internal_strconv_small Tryz.aae i h w
def Tryz.ND(u:Nat)(c:1<=u)(b:u<2^64)(w:World)(a:Lib.TabIs prog w "internal/strconv.uint64pow10" .u64 Lib.pow10Tab):Calls prog 363 #[.int .u64 u] w λe w'=>e=.returned (.int .i64<|Lib.nDigits u)/\w'=w:=Any.internal_strconv_numDigits Tryz.aad u c b w a
end Go.Proofs
end
namespace Go.Proofs
open Go.Shelf Go.RowKit Go.Sort Go.Lib Go.Proofs.Tryz
def M0(w:World)(T:TypeId)(nd:Nat)(hs:nd<=24):Holds (λ(b:UInt8)=>Value.int .u8 (b.toNat:Int)) (w.alloc<|.cells zeros24 T) w.heap.size 0 (Array.replicate nd (0:UInt8)):=λj a=>by
 have c:j<nd:=ci
 rw[World.cell?_alloc_new,zeros24_at _ E,getElem!_pos _ j a];simp
def agP(w:World)(o:Obj)(c:Array UInt8)(k:Nat):∃os,(putRow (λ(b:UInt8)=>Value.int .u8 (b.toNat:Int)) (w.alloc o) w.heap.size 0 c).drewN k=grow (w.drewN k) os:=by rw[alloc_eq_grow];obtain⟨a,_,e⟩:=putRow_grow_new (λ_=>Value.int .u8 _) w #[o] w.heap.size 0 c<|abY _;exact⟨a,by rw[e];rfl⟩
theorem Tryz.agO(u:Nat)(hu64:u<2^64)(w:World)(htab:Lib.TabIs prog w "internal/strconv.uint64pow10" .u64 Lib.pow10Tab):
 Calls prog 335 #[.int .u64 u,.int .i64 10] w λe w'=>e=.returned (.string ⟨(Lib.decDigits u).toArray⟩)/\∃k os,w'=grow (w.drewN k) os:=by
 by_cases hs:u<100
 go_enter func335,Tryz.ntmps335
 go_wp2_with (go_at_call 362;refine(Tryz.OO u hs _).mono ?_;rintro e w'⟨rfl,rfl⟩)
 go_ret
 exact⟨rfl,0,#[],by simp[World.drewN_zero]⟩;have hu1:1<=u:=E;have hnd20:Lib.nDigits u<=20:=by have:=Lib.numDigits_eq u hu1 hu64;split at this<;>omega
 have hal:prog.arrayLen 413=24:=by simp[Program.arrayLen,underlying413]
 have hsl1:∀W,(Instr.sliceAt 413 (.pointer<|some ⟨w.heap.size,0,none⟩) none (some<|.int .i64 (Lib.nDigits u:Int)) none).run prog W=.ok (.slice (some ⟨w.heap.size,0,none⟩) (Lib.nDigits u) 24) W:=λW=>by
  rw[run_sliceAt_array_h W 413 ⟨w.heap.size,0,none⟩ (by simp[Program.arrayLen,Program.elem,underlying413]) .i64 (Lib.nDigits u:Int) E<|by rw[hal];omega]
  go_simp
  try omega
 have hH0:=M0 w 413 (Lib.nDigits u) E;have hfmt:=Any.internal_strconv_formatBase10 Tryz.aac w.heap.size 0 24 u (Array.replicate (Lib.nDigits u) 0) (w.alloc<|.cells Lib.zeros24 413) hH0 (by rw[ajN];exact Lib.lt_pow_nDigits u) hu64 (by rw[ajN];omega);rw[ajN]at hfmt;have hfmt:Calls prog 364 #[.slice (some ⟨w.heap.size,0,none⟩) (Lib.nDigits u) 24,.int .u64 u] (w.alloc<|.cells Lib.zeros24 413) _:=hfmt;have HH0:=Lib.hid hH0;clear hH0 hal
 go_enter func335,Tryz.ntmps335
 go_wp2_with (first
  |(go_at_call 363;refine(Tryz.ND u hu1 hu64 _<|Lib.tabIs_alloc htab _).mono ?_;rintro e w'⟨rfl,rfl⟩))
 go_at_call 364
 refine hfmt.mono ?_;rintro e w'⟨rfl,k,v',dk,rfl,hF⟩;have hcv:(convert 373 9 (.slice (some ⟨w.heap.size,0,none⟩) (Lib.nDigits u) 24)).run prog ((putRow (λ(b:UInt8)=>Value.int .u8 (b.toNat:Int)) (w.alloc<|.cells Lib.zeros24 413) w.heap.size 0 dk).drewN k)=.ok (.string ⟨(Lib.decDigits u).toArray⟩) ((putRow (λ(b:UInt8)=>Value.int .u8 (b.toNat:Int)) (w.alloc<|.cells Lib.zeros24 413) w.heap.size 0 dk).drewN k):=by
  have h:=run_convert_bytes_back (P:=prog) ((putRow (λ(b:UInt8)=>Value.int .u8 (b.toNat:Int)) (w.alloc<|.cells Lib.zeros24 413) w.heap.size 0 dk).drewN k) 373 9 5 ⟨w.heap.size,0,none⟩ 24 (Lib.decDigits u) underlying373 underlying5 underlying9 (λj hj=>by rw[Lib.row_is_numeral hF j hj,Lib.add_plain,World.cell?_drewN];exact cell?_putRow (λ(b:UInt8)=>Value.int .u8 (b.toNat:Int)) _ w.heap.size 0 _ dk HH0.out (by rw[hF.size,ajN]) j<|by rw[hF.size];rw[Lib.decDigits_length]at hj;exact hj)
  rw[Lib.decDigits_length]at h;exact h
 go_wp2
 go_ret
 obtain⟨os,eo⟩:=agP w (.cells Lib.zeros24 413) dk k;exact⟨rfl,k,os,eo⟩
end Go.Proofs
