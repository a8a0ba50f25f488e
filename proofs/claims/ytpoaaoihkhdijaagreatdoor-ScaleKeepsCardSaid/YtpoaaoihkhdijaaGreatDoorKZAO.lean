/- Parts of the proof of ScaleKeeps (as AIM.md's row tells), at every input, with no further conditions. -/
import Derived.Test.YtpoaaoihkhdijaaGreatDoorKZAN
import Derived.Shelf.Strconv.Itoa4
import Derived.Ground.NamesProg
set_option linter.all false
set_option maxRecDepth 100000
set_option maxHeartbeats 0
namespace Go.Ai
open Go.Proofs Go.RowKit
def H4{p:gV}(h:dT p=0):1<=p.n/\p.n<=100/\p.aa.length<=96/\∀u∈p.aa,iQ p.n u:=by
 unfold dT at h;split at h
 ·cases h
 rename_i c;split at h
 ·cases h
 rename_i b;split at h
 ·rename_i a;exact absurd h a
 rename_i a;refine⟨E,E,E,λu hu=>?_⟩;exact p9<|dK.1 (by simpa using a) u hu
def QL{b:Bool}(h:(!b)=false):b=true:=by cases b<;>simp_all
def WG{b:Bool}(h:(!b)=true):b=false:=by cases b<;>simp_all
noncomputable def rG(u:bT):Bool:=mL u.k 6&&(decide (u.dI.length<=4)&&u.dI.all λs=>mL s 3)&&u.ah.all λf=>mL f.dZ 3
noncomputable def Am(p:gV):Bool:=decide (p.aa.length<=8/\p.n<=9/\dT p=0)&&(p.aa.all rG&&Ap p.aa p.n.toNat)
def Gj(p:gV)(h:rA p):aM Tryz.prog 138 [bh p,.i 8] (.u<|Am p):=by
 refine bS Tryz.func138 W<|bJ W 13 W ?_ ?_<;>intro g1
 ·refine bK W W ?_;show false=Am p;unfold Am;rw[decide_eq_false E];rfl
 refine r1 W a7<|aC 20 W ?_ ?_<;>intro g2
 ·refine bK W W ?_;show false=Am p;unfold Am;rw[decide_eq_false E];rfl
 refine bP W W (mN p h) W<|bQ W W ?_ ?_<;>intro m
 ·refine bK W W ?_;show false=Am p;unfold Am;rw[decide_eq_false λhh=>m hh.2.2];rfl
 have q:dT p=0:=adm.1 m;have A:Am p=(p.aa.all rG&&Ap p.aa p.n.toNat):=by unfold Am;rw[decide_eq_true E,ab3]
 obtain⟨D,C,B,r⟩:=H4 q;rw[A];refine bM W (λi:Nat=>[(2,.box true<|bh p),(5,.i i)]) (λi=>i<=p.aa.length/\p.aa.all rG=(p.aa.drop i).all rG) (λi=>p.aa.length-i) 0 ⟨aaM _,W⟩ ⟨G,G,U⟩ ?_;rintro i⟨hi,e⟩;refine bQ W W ?_ ?_<;>intro x
 ·have b:i<p.aa.length:=E;have o:(i:Int).toNat=i:=E;have y:p.aa.getD i default=p.aa[i]:=au b;have hu:=h.unit _<|abw b;rw[abO b,ab7]at e;rw[e];refine r1 W (by simp[ag,and_true,o]<;>omega) ?_;rw[o,y];generalize p.aa[i]=u at*;have v:=hu.ah;have t:=hu.dI;refine bG W (yf u.k 6 hu.k fh) W<|r0 W<|iN 41 W ?_ ?_<;>intro l
  ·refine bK W W ?_;show false=_;have:mL u.k 6=false:=WG l;unfold rG;rw[this];rfl
  have k1:mL u.k 6=true:=QL l;refine bP W W (Dx u.dI 4 3 hu.Kj E fh fh) W<|r0 W<|ni W W W ?_ ?_<;>intro j
  ·refine bK W W ?_;show false=_;have:(decide (u.dI.length<=4)&&u.dI.all λs=>mL s 3)=false:=WG j;unfold rG;rw[this,Bool.and_false];rfl
  have k2:(decide (u.dI.length<=4)&&u.dI.all λs=>mL s 3)=true:=QL j;have k3:rG u=u.ah.all λf=>mL f.dZ 3:=by unfold rG;rw[k1,k2];rfl
  rw[k3];refine bM W (λk:Nat=>[(2,.box true<|bh p),(5,.i i),(6,.box true<|dQ u),(7,.i k)]) (λk=>k<=u.ah.length/\(u.ah.all λf=>mL f.dZ 3)=(u.ah.drop k).all λf=>mL f.dZ 3) (λk=>u.ah.length-k) 0 ⟨aaM _,W⟩
   ⟨G,G,G,G,U⟩ ?_
  rintro k⟨F,c⟩;refine bQ W W ?_ ?_<;>intro w
  ·have a:k<u.ah.length:=E;have n:(k:Int).toNat=k:=E;have z:u.ah.getD k default=u.ah[k]:=au a;have d:=hu.dZ _<|abw a;rw[abO a,ab7]at c;rw[c];refine r1 W (by simp[ag,and_true,n]<;>omega) ?_;rw[n,z];generalize u.ah[k]=f at*;refine bG W (yf f.dZ 3 d fh) W<|r0 W<|ni W W W ?_ ?_<;>intro g
   ·refine bK W W ?_;show false=_;have:mL f.dZ 3=false:=WG g;rw[this];rfl
   have k4:mL f.dZ 3=true:=QL g;rw[k4,ab3];refine r1 W a7<|again (k+1) E ⟨E,?_⟩ ⟨G,G,G,G,U⟩;rfl
  have:k=u.ah.length:=E;subst this;rw[c,acN,aeI,ab3];refine r1 W a7<|again (i+1) E ⟨E,?_⟩ ⟨G,G,U⟩;rfl
 have:i=p.aa.length:=E;subst this;rw[e,acN,aeI,ab3];refine bP W W (OG p h p.n.toNat E E E r) W<|bN W W
section
variable{D M κ V B:Nat}
section
variable{d:Int}{a b p:List cU}{n v w:Nat}{c:Rat}
def b8.tok(i:pY D M κ)(f:V<=9)(h:b8 D M V d w p)(e:d<=6)(g:w<=B):(∀u∈p,Di V (κ*B+2) u)/\p.length<2^30:=⟨h.pw.tok i f e<|adv (acx _ g) 2,by have:=h.len f e;omega⟩
def b8.Ts(g:pY D M κ)(f:V<=9)(h:b8 D M V d w p)(e:d<=6)(hc:Wn D M 1 v c)(j:v+w+1<=B):
 vj V (κ*B+2) (pk c p)/\b8 D M V d (v+w+1) (kJ c p):=by
 have i:=h.pw.Vj hc;have hl:(pk c p).length<=10^18:=by have:=h.len f e;simp[pk];omega
 exact⟨i.Y5 g f e hl<|adv (acx _ j) 2,i.norm g hl⟩
def b8.LX(i:pY D M κ)(f:V<=9)(h:b8 D M V d w a)(g:b8 D M V d w b)(e:d<=6)(k:w+1<=B):
 vj V (κ*B+2) (a++b)/\b8 D M V d (w+1) (DS a b):=by
 have j:=h.pw.append g.pw;have hl:(a++b).length<=10^18:=by have:=h.len f e;have:=g.len f e;rw[abE];omega
 exact⟨j.Y5 i f e hl<|adv (acx _ k) 2,j.norm i hl⟩
def b8.WK{e:Int}(i:pY D M κ)(f:V<=9)(h:b8 D M V d w a)(g:b8 D M V e v b)(l:d<=6)(he:e<=6)(ZB:d+e<=6)(k:w+v+1<=B):
 vj V (κ*B+2) (jx a b)/\b8 D M V (d+e) (w+v+1) (lP a b):=by
 have j:=h.pw.mul g.pw;have hl:(jx a b).length<=10^18:=by have o:=h.len f l;have m:=g.len f he;rw[QT];exact abI (adI o m) fh
 exact⟨j.Y5 i f ZB hl<|adv (acx _ k) 2,j.norm i hl⟩
def b8.QU{K:Nat}:vj V K (jx [] b)/\b8 D M V d w (lP [] b):=by
 refine⟨⟨λu hu=>by simp[jx]at hu,λm hm=>?_⟩,?_⟩
 ·have:m=[]:=by simpa[jx]using hm
  subst this;exact⟨λu hu=>by simp[si]at hu,by simp[si]⟩
 exact b8.nil
def b8.ZJ(e:pY D M κ)(g:V<=9)(h:b8 D M V d w p)(f:d<=6)(k:v<V)(j:w+2<=B):
 vj V (κ*B+2) (pM p v)/\b8 D M V (d-1) (w+2) (tT p v):=by
 have i:=h.pw.der e f v k;have hl:(pM p v).length<=10^18:=by have:=h.len g f;have:=CK p v;omega
 exact⟨i.Y5 e g E hl<|adv (acx _ j) 2,i.norm e hl⟩
def AE(p:List cU)(v:Nat):Prop:=∃u∈p,0<u.pw.getD v 0
def AU(h:¬AE p v):tT p v=[]:=by
 have e:pM p v=[]:=by unfold pM;rw[List.flatMap_eq_nil_iff];intro u hu;unfold zV;rw[if_neg λg=>h ⟨u,hu,g⟩]
 unfold tT;rw[e];rfl
def sc{l:List cU}(h:AE (si l) v):AE l v:=by
 obtain⟨u,hu,g⟩:=h;rcases BL hu with⟨t,f,e⟩|⟨t,f,e⟩
 ·exact⟨t,f,by rw[<-e];exact g⟩
 cases f
def Gd(h:AE (a++b) v):AE a v\/AE b v:=by obtain⟨u,hu,g⟩:=h;exact(abJ.1 hu).imp (λh=>⟨u,h,g⟩) λh=>⟨u,h,g⟩
def MA(h:AE (kJ c p) v):AE p v:=by obtain⟨u,hu,g⟩:=sc h;obtain⟨t,e,rfl⟩:=abF.1 hu;exact⟨t,e,g⟩
def Hl:∀{a b:List Int}{v:Nat},0<(List.zipWith (·+ ·) a b).getD v 0->(∀x∈a,0<=x)->(∀x∈b,0<=x)->0<a.getD v 0\/0<b.getD v 0
 |[],_,_,h,_,_=>by cases h
 |_::_,[],_,h,_,_=>by cases h
 |x::a,y::b,0,h,g,f=>by simp at h⊢;omega
 |x::a,y::b,v+1,h,g,f=>by simp at h⊢;exact Hl h (λz e=>g z<|by simp[e]) λz e=>f z (by simp[e])
def TR{e:Int}{i:Nat}(k:PW D M V d w a)(j:PW D M V e i b)(h:AE (lP a b) v):AE a v\/AE b v:=by obtain⟨u,hu,g⟩:=sc h;obtain⟨t,f,hu⟩:=ab1.1 hu;obtain⟨s,hs,rfl⟩:=abF.1 hu;exact(Hl g (k t f).1.2.1 (j s hs).1.2.1).imp (λh=>⟨t,f,h⟩) λh=>⟨s,hs,h⟩
def Em:¬AE (aaa c n) v:=by
 rintro⟨u,hu,g⟩;unfold aaa at hu;split at hu
 ·cases hu
 simp at hu;subst hu;rw[abx,adO]at g;split at g<;>cases g
def Mz{i:Nat}(h:AE (vm i n) v):v=i:=by obtain⟨u,hu,g⟩:=h;simp[vm]at hu;subst hu;apply acF;intro e;rw[abx,afk E,adO]at g;split at g<;>cases g
def AO(h:b8 D M V d w p)(e:AE p v):1<=d:=by
 obtain⟨u,hu,g⟩:=e;obtain⟨j,f,i⟩:=(h.pw u hu).1;have hm:u.pw.getD v 0∈u.pw:=by
  rcases abM v u.pw.length with hl|hl
  ·rw[au hl];simp_all
  rw[abx,aci hl]at g;cases g
 have:=kX f _ hm;omega
end
end
structure fP(us:List bT)(n:Nat):Prop where
 len:us.length<=8
 n0:0<n
 n9:n<=9
 val:∀u∈us,iQ n u
 dr:u9 n us
 ord:us.length<=(az us).length
 YA:∀u∈us,rG u=true
 low:Ap us n=true
def aV(us:List bT)(k:Nat):bT:=us.getD ((az us).getD k 0).toNat default
def Ib{us:List bT}:∀(k:Nat){out:List Int},(∀j,j<out.length->jV us (out.take j) (out.getD j 0).toNat=true)->∀j,j<(ew us k out).length->jV us ((ew us k out).take j) ((ew us k out).getD j 0).toNat=true
 |0,out,h=>h
 |k+1,out,h=>by
  rw[ew];split
  ·exact h
  rename_i g;refine Ib k λj a=>?_;rcases oR us out 0 with e|⟨i,e,_,_,b⟩
  ·rw[e]at g;simp_all
  rw[e]at a⊢;rw[abE,adt]at a;by_cases c:j<out.length
  ·rw[aeN E,abx,acn c];exact h j c
  have:j=out.length:=E;subst this;rw[List.take_left',abx]
  ·simpa using b
  rfl
def Ia{us:List bT}{k:Nat}(h:k<(az us).length):jV us ((az us).take k) ((az us).getD k 0).toNat=true:=Ib (out:=[]) _ (λj a=>by cases a) k h
def sH{s:Int}:∀{us:List bT}{k:Nat},(cB s k us= -1/\∀u∈us,u.out≠s)\/∃i,∃h:i<us.length,cB s k us=((k+i:Nat):Int)/\us[i].out=s
 |[],k=>.inl ⟨W,I⟩
 |u::us,k=>by
  simp only[cB];split
  ·rename_i h;exact .inr ⟨0,I,I,h⟩
  rename_i h;rcases sH (s:=s) (us:=us) (k:=k+1)with⟨e,g⟩|⟨i,hi,e,g⟩
  ·exact .inl ⟨e,λv a=>by rcases abz.1 a with rfl|a;exact h;exact g v a⟩
  exact .inr ⟨i+1,by simpa using hi,E,g⟩
def LC{α:Type}{p:α->Bool}{l:List α}(h:l.countP p=1){i j:Nat}(hi:i<l.length)(b:j<l.length)(d:p l[i]=true)(c:p l[j]=true):i=j:=by
 have a:∀{i j:Nat}(hi:i<l.length)(b:j<l.length),p l[i]=true->p l[j]=true->¬i<j:=by
  intro i j hi b d c f;have e:l=l.take j++l[j]::l.drop (j+1):=by rw[<-abO b,aed]
  rw[e,aeh,List.countP_cons_of_pos c]at h;have:0<(l.take j).countP p:=List.countP_pos_iff.2 ⟨l[i],List.mem_take_iff_getElem.2 ⟨i,E,W⟩,d⟩;omega
 have k:=a hi b d c;have g:=a b hi c d;omega
section
variable{us:List bT}{n:Nat}(hm:fP us n)
include hm
theorem fP.mU:(az us).length=us.length:=aen (uK us) hm.ord
def fP.idx{k:Nat}(h:k<us.length):((az us).getD k 0).toNat<us.length:=by
 have a:k<(az us).length:=by rw[hm.mU];exact h
 have:=gC _<|bw (d:=0) a;omega
def fP.eq{k:Nat}(h:k<us.length):aV us k=us[((az us).getD k 0).toNat]'(hm.idx h):=au<|hm.idx h
def fP.mem{k:Nat}(h:k<us.length):aV us k∈us:=by rw[hm.eq h];simp_all
def fP.inj{i j:Nat}(hi:i<us.length)(a:j<us.length)(h:us[i].out=us[j].out):i=j:=by
 have c:=(hm.val _<|abw hi).out;have b:=hm.dr us[i].out.toNat E E;refine LC b hi a ?_ ?_
 all_goals rw[decide_eq_true_eq];omega
def fP.X9{j k:Nat}(d:j<us.length)(b:k<us.length)(h:(az us).getD j 0=(az us).getD k 0):j=k:=by
 have hn:=vY us;have e:=hm.mU;rw[au E,au E]at h;have a:=List.pairwise_iff_getElem.1 hn;rcases afE j k with c|c|c
 ·simp_all
 ·exact c
 exact absurd h.symm<|a k j E E c
def fP.outs{j k:Nat}(b:j<us.length)(a:k<us.length)(h:(aV us j).out=(aV us k).out):j=k:=by
 rw[hm.eq b,hm.eq a]at h;have:=hm.inj (hm.idx b) (hm.idx a) h;refine hm.X9 b a ?_;have e:=gC _<|bw (d:=0)<|show j<(az us).length by rw[hm.mU];exact b
 have c:=gC _<|bw (d:=0)<|show k<(az us).length by rw[hm.mU];exact a
 omega
def fP.before{k:Nat}(l:k<us.length){f:Hi}(m:f∈cR (aV us k))(hs:0<=f.sh/\f.sh<n):f.sh=0\/∃j,j<k/\(aV us j).out=f.sh:=by
 have h:=Ia (us:=us) (k:=k) (by rw[hm.mU];exact l);unfold jV at h;rw[aby,abN]at h;have a:=h.2 f m;unfold kP at a;rw[decide_eq_true_eq]at a;rcases sH (s:=f.sh) (us:=us) (k:=0)with⟨e,g⟩|⟨i,hi,e,g⟩
 ·left;apply acF;intro d;have r:=hm.dr f.sh.toNat E E;have:0<us.countP (λu=>decide (u.out=(f.sh.toNat:Int))):=E;obtain⟨u,hu,c⟩:=List.countP_pos_iff.1 this;rw[decide_eq_true_eq]at c;exact g u hu E
 right;have p:eh us f.sh=(i:Int):=by unfold eh;rw[e];simp
 rw[p]at a;have o:=a.resolve_left E;obtain⟨j,q,he⟩:=List.mem_take_iff_getElem.1 o;refine⟨j,E,?_⟩;have b:j<us.length:=E;rw[hm.eq b];have:((az us).getD j 0).toNat=i:=by rw[au E,he];rfl
 simp only[this];exact g
end
def nq{l:List Int}{i s:Nat}{x:Int}(h:i<l.length):(l.set i x).getD s 0=if s=i then x else l.getD s 0:=by
 split
 ·rename_i e;simp_all
 rename_i e;exact getD_set_ne E
def CI{u:bT}:∀(c:List Hi){dg:List Int},u.out.toNat<dg.length->(∀s,0<=dg.getD s 0)->
 (c.foldl (jA u) dg).length=dg.length/\(∀s,s≠u.out.toNat->(c.foldl (jA u) dg).getD s 0=dg.getD s 0)/\dg.getD u.out.toNat 0<=(c.foldl (jA u) dg).getD u.out.toNat 0/\
   ∀f∈c,dg.getD f.sh.toNat 0*lz u<=(c.foldl (jA u) dg).getD u.out.toNat 0
 |[],dg,_,_=>⟨W,λ_ _=>rfl,ab2 _,I⟩
 |f::c,dg,e,l=>by
  have hm:1<=lz u:=by unfold lz;split<;>omega
  have d:∀s,(jA u dg f).getD s 0=if s=u.out.toNat then max (dg.getD u.out.toNat 0) (dg.getD f.sh.toNat 0*lz u)else dg.getD s 0:=λs=>nq e;have a:∀s,dg.getD s 0<=(jA u dg f).getD s 0:=λs=>by rw[d s];split<;>(try subst_vars)<;>omega
  obtain⟨k,j,i,h⟩:=CI c (dg:=jA u dg f) (by unfold jA;rw[kH];exact e) λs=>acI (l s)<|a s;rw[acK];refine⟨by rw[k];unfold jA;rw[kH],λs hs=>by rw[j s hs,d s,if_neg hs],acI (a _) i,λg b=>?_⟩;rcases abz.1 b with rfl|b
  ·have:=d u.out.toNat;omega
  exact acI (ac6 (a _) E)<|h g b
def ru(us:List bT)(n k:Nat):List Int:=((az us).take k).foldl (qN us)<|jh us n us.length
def JA{us:List bT}{n k:Nat}(h:k<(az us).length):ru us n (k+1)=qN us (ru us n k) ((az us).getD k 0):=by unfold ru;rw[abR h,adk,au h];rfl
def yr{us:List bT}{m:Int}:∀{l:List Int}{dg r:List Int},DI us m l dg=some r->r=l.foldl (qN us) dg/\∀k,k<l.length->((l.take<|k+1).foldl (qN us) dg).getD (us.getD (l.getD k 0).toNat default).out.toNat 0<=m
 |[],dg,r,h=>by simp[DI]at h;simp_all
 |i::l,dg,r,h=>by
  rw[DI]at h;split at h
  ·cases h
  rename_i g;obtain⟨c,b⟩:=yr h;refine⟨c,λk a=>?_⟩;cases k with
  |zero=>simp only[List.take_succ_cons,aes,acK,aff,afd];omega
  |succ k=>simpa using b k (by simpa using a)
def Ed{us:List bT}{m:Int}{dg:List Int}:∀{l:List Int}{rt r:List Int},HT us m dg l rt=some r->∀k,k<l.length->((l.take<|k+1).foldl (uH us dg) rt).getD (us.getD (l.getD k 0).toNat default).out.toNat 0<=m
 |[],rt,r,h=>I
 |i::l,rt,r,h=>by
  rw[HT]at h;split at h
  ·cases h
  rename_i g;have b:=Ed h;intro k a;cases k with
  |zero=>simp only[List.take_succ_cons,aes,acK,aff,afd];omega
  |succ k=>simpa using b k (by simpa using a)
section
variable{us:List bT}{n:Nat}(hm:fP us n)
include hm
theorem fP.out{k:Nat}(h:k<us.length):1<=(aV us k).out/\(aV us k).out<n:=(hm.val _<|hm.mem h).out
def fP.Z7:∃r,DI us 6 (az us) (jh us n us.length)=some r/\r=ru us n us.length/\(HT us 6 r (az us)<|List.replicate n 0).isSome=true:=by
 have h:=hm.low;unfold Ap at h;split at h
 ·cases h
 rename_i dg e;refine⟨dg,e,?_,h⟩;have:=(yr e).1;rw[this];unfold ru;rw[abB<|by rw[hm.mU];exact abq _]
def fP.dg:∀k,k<=us.length->(ru us n k).length=n/\∀s,0<=(ru us n k).getD s 0/\(ru us n k).getD s 0<=6
 |0,_=>by obtain⟨f,d⟩:=pK us n us.length .refl;exact⟨f,λs=>d.getD fh s⟩
 |k+1,h=>by
  obtain⟨f,d⟩:=fP.dg k E;have g:k<(az us).length:=by rw[hm.mU];omega
  obtain⟨r,e,-,-⟩:=hm.Z7;have b:=(yr e).2 k g;have o:=hm.out (show k<us.length from E);have m:us.getD ((az us).getD k 0).toNat default=aV us k:=W;have b:(ru us n<|k+1).getD (aV us k).out.toNat 0<=6:=b;rw[JA g]at b⊢;unfold qN at b⊢;rw[m]at b⊢;split
  ·exact⟨f,d⟩
  rename_i a;rw[if_neg a]at b;obtain⟨l,j,i,-⟩:=CI (u:=aV us k) (aV us k).ah (dg:=ru us n k) E λs=>(d s).1;refine⟨by rw[l];exact f,λs=>?_⟩;by_cases c:s=(aV us k).out.toNat
  ·subst c;exact⟨acI (d _).1 i,b⟩
  rw[j s c];exact d s
def fP.Z6{k:Nat}(h:k<us.length):(∀s,s≠(aV us k).out.toNat->(ru us n<|k+1).getD s 0=(ru us n k).getD s 0)/\(∀s,(ru us n k).getD s 0<=(ru us n<|k+1).getD s 0)/\
 ((aV us k).kind≠bq->∀f∈(aV us k).ah,(ru us n k).getD f.sh.toNat 0*lz (aV us k)<=(ru us n<|k+1).getD (aV us k).out.toNat 0):=by
 obtain⟨o,i⟩:=hm.dg k E;have g:k<(az us).length:=by rw[hm.mU];omega
 have m:=hm.out h;have j:us.getD ((az us).getD k 0).toNat default=aV us k:=W;rw[JA g];unfold qN;rw[j];split
 ·rename_i a;simp_all
 obtain⟨l,b,e,d⟩:=CI (u:=aV us k) (aV us k).ah (dg:=ru us n k) E λs=>(i s).1;refine⟨b,λs=>?_,λ_=>d⟩;by_cases c:s=(aV us k).out.toNat
 ·subst c;exact e
 rw[b s c];simp_all
end
section
variable{n:Nat}{q:Rat}{s:ck}
def mP:List Nat->Nat
 |[]=>1
 |x::l=>x*mP l
def CB:∀{l:List Nat}{x:Nat},x∈l->x∣mP l
 |y::l,x,h=>by
  rcases abz.1 h with rfl|h
  ·exact Nat.dvd_mul_right _ _
  exact Nat.dvd_trans (CB h)<|Nat.dvd_mul_left _ _
def Bx:∀{l:List Nat},(∀x∈l,0<x)->0<mP l
 |[],_=>by simp[mP]
 |x::l,h=>aey (h x I)<|Bx λy a=>h y<|by simp[a]
def By:∀{l:List Nat},(∀x∈l,(ae x).length<=1)->(ae<|mP l).length<=l.length+1
 |[],_=>by simp[mP];rw[iG];simp
 |x::l,h=>by have d:=By (l:=l) λy a=>h y (by simp[a]);have c:=dO x<|mP l;have b:=h x I;simp[mP];omega
def Ly(h:n<10^9):(ae n).length<=1:=qO (k:=1)<|eI n 1 9 h fh
noncomputable def jt(us:List bT):Nat:=mP ((List.range 999).map (·+1))*mP (us.map λu=>(bV u.k).den)
noncomputable def kq(us:List bT):Nat:=jt us*10^18
def Li(h:mL s n=true):aL s=0/\Dc (bV s) n:=by unfold mL at h;rw[decide_eq_true_eq]at h;exact h.2
def Dc.lt(h:Dc q n):q.num.natAbs<10^n/\q.den<10^n:=⟨wQ h.1,wQ h.2⟩
def nC{u:bT}(h:rG u=true):mL u.k 6=true/\u.dI.length<=4/\(∀c∈u.dI,mL c 3=true)/\∀f∈u.ah,mL f.dZ 3=true:=by unfold rG at h;simp_all
def tf(q:Rat):q*(q.den:Rat)=(q.num:Rat):=by
 have h:=Rat.num_divInt_den q;rw[ae0]at h;have b:((q.den:Nat):Rat)≠0:=by
  intro g;have:q.den=0:=by exact_mod_cast g
  exact q.den_nz this
 have a:((q.den:Int):Rat)=((q.den:Nat):Rat):=aeg _
 grind
def Wn.Vu{D M:Nat}(b:q.den∣D)(hn:q.num.natAbs*D<=M):Wn D M 1 1 q:=by
 obtain⟨e,he⟩:=b;have a:=q.den_pos;refine⟨q.num*(e:Nat),?_,?_⟩
 ·rw[adi,Nat.pow_one,afe];refine abI (acx _ ?_) hn;rw[he];exact Nat.le_mul_of_pos_left _ a
 rw[Nat.pow_one,he,Rat.natCast_mul,<-ae7,aef,aeg];rw[tf]
def V7{us:List bT}(h:mL s 3=true):Wn (jt us) (kq us) 1 1 (bV s):=by obtain⟨c,b⟩:=(Li h).2.lt;have a:=(bV s).den_pos;refine Wn.Vu (Nat.dvd_trans (CB<|abF.2 ⟨(bV s).den-1,ab9.2 E,E⟩)<|Nat.dvd_mul_right _ _) ?_;rw[abS];exact acx _ E
end
section
variable{us:List bT}{n:Nat}(hm:fP us n)
include hm
theorem fP.base:pY (jt us) (kq us) 1012:=by
 have h1:0<mP ((List.range 999).map (·+1)):=Bx λx hx=>by obtain⟨y,-,rfl⟩:=abF.1 hx;omega
 have h2:0<mP (us.map λu=>(bV u.k).den):=Bx λx hx=>by obtain⟨u,-,rfl⟩:=abF.1 hx;exact(bV u.k).den_pos
 refine⟨aey h1 h2,.refl,?_⟩;have h3:(ae (mP ((List.range 999).map (·+1)))).length<=((List.range 999).map (·+1)).length+1:=By λx hx=>by obtain⟨y,hy,rfl⟩:=abF.1 hx;have:=ab9.1 hy;exact Ly E
 have h4:(ae<|mP<|us.map λu=>(bV u.k).den).length<=(us.map λu=>(bV u.k).den).length+1:=By λx hx=>by obtain⟨u,hu,rfl⟩:=abF.1 hx;have:=(Li (nC<|hm.YA u hu).1).2.lt.2;exact Ly E
 have h5:=dO (mP ((List.range 999).map (·+1)))<|mP<|us.map λu=>(bV u.k).den;have h6:=dO (jt us)<|10^18;have h7:(ae<|10^18).length<=3:=qO (k:=3)<|eI _ 1 27 fh fh;rw[abL,afg]at h3;rw[abL]at h4;have:=hm.len;unfold kq;unfold jt at h6⊢;omega
def fP.ZS{u:bT}(hu:u∈us):Wn (jt us) (kq us) 1 1 (bV u.k):=by obtain⟨b,a⟩:=(Li (nC<|hm.YA u hu).1).2.lt;refine Wn.Vu (Nat.dvd_trans (CB<|abF.2 ⟨u,hu,W⟩)<|Nat.dvd_mul_left _ _) ?_;rw[abS];exact acx _ E
def fP.wnQ(s:Nat):Wn (jt us) (kq us) 1 1 ((cp n us).getD s 0):=by
 have a:∀(l:List bT)(o:List Rat),(∀u∈l,u∈us)->(∀s,Wn (jt us) (kq us) 1 1 (o.getD s 0))->∀s,Wn (jt us) (kq us) 1 1 ((l.foldl (λ(o:List Rat)u=>o.set u.out.toNat<|bV u.k) o).getD s 0):=by
  intro l
  induction l with
  |nil=>intro o _ h;exact h
  |cons u l b=>
   intro o hl h;refine b _ (λv c=>hl v<|by simp[c]) λs=>?_;rw[abx,adL];split
   ·split
    ·exact hm.ZS<|hl u I
    exact Wn.zero _ _ _ _
   rw[<-abx];exact h s
 refine a us _ (λ_ h=>h) (λs=>?_) s;rw[abx,adO];split<;>exact Wn.zero _ _ _ _
end
def wS:Nat->Nat
 |0=>0
 |k+1=>3*wS k+20
def A5{k:Nat}(h:k<=8):wS k<=65600:=(fh:∀k,k<9->wS k<=65600) k E
def fB{l:List (List cU)}{i s:Nat}{x:List cU}(h:i<l.length):(l.set i x).getD s []=if s=i then x else l.getD s []:=by
 rw[abx,adL];split
 ·rename_i e;subst e;simp
 rename_i e;rw[if_neg E,abx]
section
variable{D M κ m B:Nat}
def Kk{x:List cU}{a:Int}{w:Nat}(f:pY D M κ)(g:m+1<=9)(o:b8 D M (m+1) a (w+2) x)(n:0<=a)(s:a<=6)(y:3*w+20<=B):
 ∀(cs:List Rat),(∀c∈cs,Wn D M 1 1 c)->cs.length<=4->a*((cs.length:Int)-1)<=6->
  (cs≠[]->b8 D M (m+1) (a*((cs.length:Int)-1)) (2+(cs.length-1)*(w+4)) (jF m x cs))/\
  ∀c r,cs=c::r->vj (m+1) (κ*B+2) (jx (jF m x r) x)/\vj (m+1) (κ*B+2) (lP (jF m x r) x++aaa c m)
 |[],_,_,_=>⟨λh=>absurd W h,λc r h=>by simp at h⟩
 |c::cs,hc,hl,k=>by
  rw[abD]at hl k;have l:=hc c I;have q:b8 D M (m+1) 0 1 (aaa c m):=b8.const l;by_cases e:cs=[]
  ·subst e;have j:lP (jF m x []) x=[]:=by simp[jF,lP,jx,si]
   have b:=b8.LX (B:=B) f g (b8.nil (D:=D) (M:=M) (V:=m+1) (d:=0) (w:=1)) q fh E;have i:b8 D M (m+1) (a*(((c::([]:List Rat)).length:Int)-1)) (2+((c::([]:List Rat)).length-1)*(w+4)) (jF m x [c]):=by show b8 D M (m+1) _ _ (DS (lP (jF m x []) x)<|aaa c m);rw[j];simpa using b.2
   refine⟨λ_=>i,λC r h=>?_⟩;obtain⟨rfl,rfl⟩:=h;exact⟨(b8.QU (D:=D) (M:=M) (d:=0) (w:=0)).1,by rw[j];exact b.1⟩
  have p:=adX.2 e;have z:a*((cs.length:Int)-1)<=a*(((cs.length+1:Nat):Int)-1):=acC E n;obtain⟨u,-⟩:=Kk f g o n s y cs (λd k=>hc d<|by simp[k]) E E;have j:=u e;have t:a*((cs.length:Int)-1)+a=a*(((cs.length+1:Nat):Int)-1):=by rw[show(((cs.length+1:Nat):Int)-1)=((cs.length:Int)-1)+1 from E,aev,adG]
  have v:(cs.length-1)*(w+4)<=2*(w+4):=abT _ E;have A:2+(cs.length-1)*(w+4)+(w+2)+1+1=2+((c::cs).length-1)*(w+4):=by rw[abD,show cs.length+1-1=(cs.length-1)+1 from E,abP];omega
  have b:=b8.WK (B:=B) f g j o E s (by rw[t];omega) E;rw[t]at b;have i:=b8.LX (B:=B) f g b.2 (q.mono f (d:=0) (e:=a*(((cs.length+1:Nat):Int)-1)) (acy n E) E) E E;refine⟨λ_=>?_,λC r h=>?_⟩
  ·rw[<-A];exact i.2
  simp at h;obtain⟨rfl,rfl⟩:=h;exact⟨b.1,i.1⟩
def Xw{sh:List (List cU)}{g:List Rat}{u:bT}{dg:Nat->Int}{d:Int}{w:Nat}(a:pY D M κ)(j:m+1<=9)(hs:∀s,b8 D M (m+1) (dg s) w<|sh.getD s [])(l:∀s,Wn D M 1 1 (g.getD s 0))(x:Wn D M 1 1 (bV u.k))
 (t:∀f∈u.ah,Wn D M 1 1 (bV f.dZ)/\dg f.sh.toNat<=d)(hl:u.ah.length<=8)(A:0<=d)(p:d<=6)(H:w+12<=B):
 SL (m+1) (κ*B+2) (κ*2+2) sh g m u/\b8 D M (m+1) d (w+11) (Ps sh g m u):=by
 have b:∀f∈u.ah,vj (m+1) (κ*B+2) (pk (bV f.dZ)<|sh.getD f.sh.toNat [])/\b8 D M (m+1) d (w+2) (kJ (bV f.dZ)<|sh.getD f.sh.toNat []):=λf h=>by obtain⟨r,q⟩:=t f h;have:=b8.Ts (B:=B) a j (hs f.sh.toNat) E r E;exact⟨this.1,this.2.mono a q E⟩
 have c:∀i,i<=u.ah.length->b8 D M (m+1) d (w+2+i) (gT sh g u i).1/\Wn D M (1+i) 2 (gT sh g u i).2:=by
  intro i
  induction i with
  |zero=>intro _;exact⟨b8.nil,x.up a fh⟩
  |succ i v=>
   intro hi;obtain⟨r,q⟩:=v E;have hm:u.ah.getD i default∈u.ah:=bw E;have z:=(b _ hm).2;refine⟨(b8.LX (B:=B) a j r (z.mono a (ab2 _) E) p E).2,?_⟩;have y:Wn D M 1 2 (bV (u.ah.getD i default).dZ*g.getD (u.ah.getD i default).sh.toNat 0):=by have:=(t _ hm).1.mul<|l (u.ah.getD i default).sh.toNat;simpa using this
   have:=q.add y.neg;rw[<-Rat.sub_eq_add_neg]at this;exact this.le E
 obtain⟨F,C⟩:=c u.ah.length .refl;have hc:=C.one a E;have o:b8 D M (m+1) d (w+2+8) (aaa (gT sh g u u.ah.length).2 m):=(b8.const hc).mono a A E;have e:=b8.LX (B:=B) a j (F.mono a (ab2 _)<|show w+2+u.ah.length<=w+2+8 from E) o p E;refine⟨⟨λf h=>(b f h).1,λi hi=>?_,λi hi=>?_,e.1⟩,e.2.mono a (ab2 _) E⟩
 ·have hm:u.ah.getD i default∈u.ah:=bw E;exact(b8.LX (B:=B) a j (c i E).1 ((b _ hm).2.mono a (ab2 _) E) p E).1
 have:=((c i hi).2.le<|show 1+i<=9 from E).sz a;exact this.mono (by have:=Ly (n:=9) fh;omega)
end
def wB:Nat:=1300000
section
variable{us:List bT}{n m:Nat}(hm:fP us n)(hc:m=dq us)
include hm hc
theorem fP.Y6:m+1<=9:=by have:dq us<=us.length:=adU;have:=hm.len;omega
def fP.init:∀i,i<=us.length->∀s,b8 (jt us) (kq us) (m+1) ((jh us n i).getD s 0) 0 ((FJ us n m i).getD s [])
 |0,_=>λs=>by
  have hn:=hm.n0;unfold jh FJ Bk;rw[aes,aff,nq<|by simpa using hn,fB<|by simpa using hn];split
  ·exact b8.var E
  rw[abx (l:=List.replicate n ([]:List cU)),adO];split<;>exact b8.nil
 |i+1,h=>λs=>by
  have a:=fP.init i E s;have b:=(hm.val _<|abw<|show i<us.length from E).out;rw[sL E,FJ,au<|show i<us.length from E];split
  ·rw[nq<|by rw[(pK us n i E).1];omega,fB<|by rw[qi];omega];split
   ·exact b8.var (by rw[hc];exact GR us _)
   exact a
  exact a
def fP.PY{k:Nat}(h:k<us.length){w:Nat}(hw:3*w+20<=wB)(J:∀s,b8 (jt us) (kq us) (m+1) ((ru us n k).getD s 0) w<|(iO us n m k).getD s []):
 ((aV us k).kind=jz->SL (m+1) (1012*wB+2) (1012*2+2) (iO us n m k) (cp n us) m (aV us k))/\
 ((aV us k).kind=dy->VW (m+1) (1012*wB+2) (iO us n m k) m (aV us k))/\
 ∀s,b8 (jt us) (kq us) (m+1) ((ru us n<|k+1).getD s 0) (3*w+20) ((iO us n m<|k+1).getD s []):=by
 have x:=hm.base;have N:=hm.Y6 hc;have Q:k<(az us).length:=by rw[hm.mU];omega
 have ho:=hm.out h;have hu:=hm.val _<|hm.mem h;obtain⟨f1,f2,f3,T⟩:=nC<|hm.YA _<|hm.mem h;obtain⟨d1,d2,V⟩:=hm.Z6 h;obtain⟨l1,H⟩:=hm.dg (k+1) E;obtain⟨p1,X⟩:=hm.dg k E;have O:us.getD ((az us)[k]).toNat default=aV us k:=by unfold aV;rw[au Q]
 have q:=hu.Bj;have l:∀s,b8 (jt us) (kq us) (m+1) ((ru us n<|k+1).getD s 0) (3*w+20) ((iO us n m k).getD s []):=λs=>(J s).mono x (d2 s) E;have r:iO us n m (k+1)=lJ us (cp n us) m (iO us n m k) (az us)[k]:=pg Q;by_cases p:(aV us k).kind=jz
 ·have o:(aV us k).kind≠bq:=by rw[p];decide
  have L:(aV us k).ah.length<=8:=by unfold jT xq Dh at q;omega
  have v:lz (aV us k)=1:=by unfold lz;rw[if_neg<|by rw[p];decide]
  obtain⟨a1,a2⟩:=Xw (B:=wB) (d:=(ru us n<|k+1).getD (aV us k).out.toNat 0) x N J (hm.wnQ) (hm.ZS<|hm.mem h)
   (λf R=>⟨V7<|T f R,by have:=V o f R;rw[v,adG]at this;exact this⟩) L (H _).1 (H _).2 E
  refine⟨λ_=>a1,λg=>?_,λs=>?_⟩
  ·rw[p]at g;exact absurd g fh
  rw[r];unfold lJ;rw[O,if_pos p,fB<|by rw[kG];omega];split
  ·rename_i e;subst e;exact a2.mono x (ab2 _) E
  exact l s
 by_cases z:(aV us k).kind=dy
 ·have o:(aV us k).kind≠bq:=by rw[z];decide
  unfold jT xq Dh at q;rw[if_neg o,if_neg o,if_neg p]at q;have K:1<=(aV us k).dI.length:=by apply acF;intro g;exact q<|.inr<|.inr<|.inl ⟨z,.inl E⟩
  have v:lz (aV us k)=max 1 (((aV us k).dI.length:Int)-1):=by unfold lz;rw[if_pos z]
  have A:(aV us k).ah.getD 0 default∈(aV us k).ah:=bw E;have C:=V o _ A;have Cc:=X ((aV us k).ah.getD 0 default).sh.toNat;obtain⟨F,y⟩:∃F,(ru us n k).getD ((aV us k).ah.getD 0 default).sh.toNat 0=F:=⟨_,W⟩;rw[y]at C Cc;have u:=b8.Ts (B:=wB) x N (J ((aV us k).ah.getD 0 default).sh.toNat) (by rw[y];exact Cc.2) (V7 (us:=us)<|T _ A) E;rw[y]at u;have Y:b8 (jt us) (kq us) (m+1) F (w+2) (oL (iO us n m k)<|aV us k):=u.2.mono x (ab2 _) E;have M:∀c∈(aV us k).dI.map bV,Wn (jt us) (kq us) 1 1 c:=λc hc=>by obtain⟨t,ht,rfl⟩:=abF.1 hc;exact V7<|f3 t ht
  have P:=H (aV us k).out.toNat;have D:∀j:Nat,j<=(aV us k).dI.length->F*((j:Int)-1)<=(ru us n<|k+1).getD (aV us k).out.toNat 0:=λj hj=>by refine acI (acC ?_ Cc.1) C;rw[v];omega
  have a:=λ(i:Nat)=>Kk (B:=wB) x N Y Cc.1 Cc.2 hw (((aV us k).dI.map bV).drop i) (λc h=>M c<|adg h) (by simp;omega) (by have:=D (((aV us k).dI.map bV).drop i).length I;omega)
  have b:∀i(hi:i<(aV us k).dI.length),((aV us k).dI.map bV).drop i=bV ((aV us k).dI.getD i [])::((aV us k).dI.map bV).drop (i+1):=λi hi=>by rw[abO<|by simpa using hi,aei,au hi]
  refine⟨λg=>absurd g p,λ_=>⟨u.1,λi hi=>((a i).2 _ _<|b i hi).1,λi hi=>((a i).2 _ _<|b i hi).2⟩,λs=>?_⟩;rw[r];unfold lJ;rw[O,if_neg p,if_pos z,fB<|by rw[kG];omega];split
  ·rename_i e;subst e;have S:=(a 0).1 (by rw[b 0 K];simp);rw[acL]at S;have Z:(((aV us k).dI.map bV).length-1)*(w+4)<=3*(w+4):=abT _ (by simp;omega);exact S.mono x (D _ I) E
  exact l s
 refine⟨λg=>absurd g p,λg=>absurd g z,λs=>?_⟩;rw[r];unfold lJ;rw[O,if_neg p,if_neg z];exact l s
def fP.XC:∀k,k<=us.length->∀s,b8 (jt us) (kq us) (m+1) ((ru us n k).getD s 0) (wS k) ((iO us n m k).getD s [])
 |0,_=>λs=>by have:=hm.init hc us.length .refl s;exact this
 |k+1,h=>by have a:=A5 (k:=k) (by have:=hm.len;omega);exact(hm.PY hc E (by unfold wB;omega)<|fP.XC k E).2.2
end
section
variable{D M κ m B:Nat}
def TK{sh bd:List (List cU)}{u:bT}{d0 b r:Int}{w v:Nat}(g:pY D M κ)(p:m+1<=9)(Z:bd.length=m)
 (V:b8 D M (m+1) d0 w (sh.getD (u.ah.getD 0 default).sh.toNat []))(H:b8 D M (m+1) b w (sh.getD (u.ah.getD 1 default).sh.toNat []))
 (Cc:0<=d0/\d0<=6)(Rr:0<=b/\b<=6)(O:0<=r/\r<=6)(s:1<=b->d0+(r+b-1)<=6)
 (N:∀i,b8 D M (m+1) 6 v<|bd.getD i [])(n:∀i,AE (sh.getD (u.ah.getD 1 default).sh.toNat []) (i+1)->b8 D M (m+1) r v (bd.getD i []))
 (R:Wn D M 1 1 (bV (u.ah.getD 0 default).dZ))(Q:Wn D M 1 1 (bV (u.ah.getD 1 default).dZ))(hw:2*w+v+20<=B):
 L6 (m+1) (κ*B+2) sh bd u/\∀e,(1<=b->d0+(r+b-1)<=e)->b8 D M (m+1) e (2*w+v+20) (Ms sh bd u):=by
 obtain⟨X,K⟩:∃P,sh.getD (u.ah.getD 0 default).sh.toNat []=P:=⟨_,W⟩;obtain⟨j,q⟩:∃P,sh.getD (u.ah.getD 1 default).sh.toNat []=P:=⟨_,W⟩;rw[K]at V;rw[q]at H n;obtain⟨a,T⟩:∃a:Int,a=if 1<=b then r+b-1 else 0:=⟨_,W⟩;have l:1<=b->a=r+b-1:=λh=>by rw[T,if_pos h]
 have S:¬1<=b->a=0:=λh=>by rw[T,if_neg h]
 have F:d0+a<=6:=by
  by_cases c:1<=b
  ·rw[l c];exact s c
  rw[S c];omega
 have d:∀x,x<m+1->vj (m+1) (κ*B+2) (pM j x)/\b8 D M (m+1) (b-1) (w+2) (tT j x):=λx Y=>H.ZJ g p Rr.2 Y E;have k:∀i,i<m->vj (m+1) (κ*B+2) (jx (tT j<|i+1)<|bd.getD i [])/\b8 D M (m+1) a (w+v+3) (lP (tT j<|i+1)<|bd.getD i []):=λi hi=>by
  by_cases c:AE j (i+1)
  ·have J:=AO H c;have:=b8.WK (B:=B) g p (d (i+1) E).2 (n i c) E O.2 (by have:=l J;omega) E;exact⟨this.1,this.2.mono g (by have:=l J;omega) E⟩
  rw[AU c];exact b8.QU
 have C:∀i,i<=m->b8 D M (m+1) a (w+v+3+i) (ll bd j i):=by
  intro i
  induction i with
  |zero=>
   intro _;show b8 D M (m+1) a (w+v+3) (tT j 0);by_cases c:AE j 0
   ·have J:=AO H c;exact(d 0 E).2.mono g (by have:=l J;omega) E
   rw[AU c];exact b8.nil
  |succ i L=>intro hi;exact(b8.LX (B:=B) g p (L E) ((k i E).2.mono g (ab2 _) E) E E).2
 have f:b8 D M (m+1) a (w+v+3+m) (mO bd j):=by unfold mO;rw[Z];exact C m<|abq _
 have o:a<=6:=E;have A:=b8.WK (B:=B) g p V f Cc.2 o F E;have hc:Wn D M 1 2 (bV (u.ah.getD 0 default).dZ*bV (u.ah.getD 1 default).dZ):=by simpa using R.mul Q
 have t:=b8.Ts (B:=B) g p A.2 F hc E;refine⟨⟨?_,?_,?_,?_⟩,λe he=>?_⟩
 ·rw[q];refine⟨(d 0 E).1,λi hi=>(d (i+1) E).1,λi hi=>(k i E).1,λi hi=>?_,λi hi=>?_⟩
  ·exact(b8.LX (B:=B) g p (C i E) ((k i E).2.mono g (ab2 _) E) E E).1
  have:=b8.tok (B:=B) g p (N i) (ab2 _) E;exact⟨this.1,adT this.2 fh⟩
 ·rw[q];exact b8.tok (B:=B) g p f o E
 ·rw[K,q];exact A.1
 ·rw[K,q];exact t.1
 unfold Ms;rw[K,q];by_cases c:1<=b
 ·exact t.2.mono g (by have:=l c;have:=he c;omega) E
 have z:mO bd j=[]:=by
  have y:∀x,¬AE j x:=λx h=>c<|AO H h;have:∀i,ll bd j i=[]:=by
   intro i
   induction i with
   |zero=>exact AU (y 0)
   |succ i L=>simp[ll];rw[L,AU<|y _];simp[DS,lP,jx,si]
  exact this _
 have:kJ (bV (u.ah.getD 0 default).dZ*bV (u.ah.getD 1 default).dZ) (lP X<|mO bd j)=[]:=by
  have e2:jx X []=[]:=by unfold jx;simp
  rw[z];unfold lP kJ;rw[e2];rfl
 rw[this];exact b8.nil
end
def Dm(us:List bT)(n k:Nat):List Int:=((az us).take k).foldl (uH us<|ru us n us.length)<|List.replicate n 0
def Qo{us:List bT}{n k:Nat}(h:k<(az us).length):Dm us n (k+1)=uH us (ru us n us.length) (Dm us n k) ((az us).getD k 0):=by unfold Dm;rw[abR h,adk,au h];rfl
def HS{u:bT}{dg:List Int}:∀(b:List Hi){rt:List Int},u.out.toNat<rt.length->
 (b.foldl (jv u dg) rt).length=rt.length/\(∀s,s≠u.out.toNat->(b.foldl (jv u dg) rt).getD s 0=rt.getD s 0)/\rt.getD u.out.toNat 0<=(b.foldl (jv u dg) rt).getD u.out.toNat 0/\
   ∀f∈b,rt.getD f.sh.toNat 0+dg.getD f.sh.toNat 0-1<=(b.foldl (jv u dg) rt).getD u.out.toNat 0
 |[],rt,_=>⟨W,λ_ _=>rfl,ab2 _,I⟩
 |f::b,rt,e=>by
  have d:∀s,(jv u dg rt f).getD s 0=if s=u.out.toNat then max (rt.getD u.out.toNat 0) (rt.getD f.sh.toNat 0+dg.getD f.sh.toNat 0-1)else rt.getD s 0:=λs=>nq e;have c:∀s,rt.getD s 0<=(jv u dg rt f).getD s 0:=λs=>by rw[d s];split<;>(try subst_vars)<;>omega
  obtain⟨k,j,i,h⟩:=HS b (rt:=jv u dg rt f) (by unfold jv;rw[kH];exact e);rw[acK];refine⟨by rw[k];unfold jv;rw[kH],λs hs=>by rw[j s hs,d s,if_neg hs],acI (c _) i,λg a=>?_⟩;rcases abz.1 a with rfl|a
  ·have:=d u.out.toNat;omega
  have:=h g a;have:=c g.sh.toNat;omega
section
variable{us:List bT}{n m:Nat}(hm:fP us n)
section
variable{k s:Nat}
include hm
theorem fP.TA{k:Nat}(h:k<us.length)(hl:(Dm us n k).length=n)(h0:∀s,0<=(Dm us n k).getD s 0):
 (Dm us n<|k+1).length=n/\(∀s,s≠(aV us k).out.toNat->(Dm us n<|k+1).getD s 0=(Dm us n k).getD s 0)/\(∀s,(Dm us n k).getD s 0<=(Dm us n<|k+1).getD s 0)/\
 (∀f∈cR (aV us k),(Dm us n k).getD f.sh.toNat 0+(ru us n us.length).getD f.sh.toNat 0-1+(if(aV us k).kind=bq then(ru us n us.length).getD ((aV us k).ah.getD 0 default).sh.toNat 0 else 0)<=(Dm us n<|k+1).getD (aV us k).out.toNat 0):=by
 have hk:k<(az us).length:=by rw[hm.mU];omega
 have ho:=hm.out h;have e0:us.getD ((az us).getD k 0).toNat default=aV us k:=W;obtain⟨g1,g2⟩:=hm.dg us.length<|abq _;rw[Qo hk];unfold uH;rw[e0];obtain⟨q1,q2,q3,q4⟩:=HS (u:=aV us k) (dg:=ru us n us.length) (cR<|aV us k) (rt:=Dm us n k) E;obtain⟨A,hA⟩:∃A,Mq (aV us k) (ru us n us.length) (Dm us n k)=A:=⟨_,W⟩;have hA':(cR<|aV us k).foldl (jv (aV us k)<|ru us n us.length) (Dm us n k)=A:=hA;rw[hA']at q1 q2 q3 q4;rw[hA];obtain⟨C,hC⟩:∃C,tZ (aV us k) (ru us n us.length) A=C:=⟨_,W⟩;have hCs:C.length=n/\∀s,C.getD s 0=if s=(aV us k).out.toNat/\(aV us k).kind=dy then A.getD s 0+(ru us n us.length).getD s 0 else A.getD s 0:=by
  rw[<-hC];unfold tZ;split
  ·rename_i hk;refine⟨by rw[kH];omega,λs=>?_⟩;rw[nq E];by_cases c:s=(aV us k).out.toNat
   ·rw[if_pos c,if_pos ⟨c,hk⟩,c]
   rw[if_neg c,if_neg λg=>c g.1]
  rename_i hk;exact⟨E,λs=>by rw[if_neg λg=>hk g.2]⟩
 rw[hC];have hEs:(rP (aV us k) (ru us n us.length) C).length=n/\∀s,(rP (aV us k) (ru us n us.length) C).getD s 0=if s=(aV us k).out.toNat/\(aV us k).kind=bq then C.getD s 0+(ru us n us.length).getD ((aV us k).ah.getD 0 default).sh.toNat 0 else C.getD s 0:=by
  unfold rP;split
  ·rename_i hk;refine⟨by rw[kH];omega,λs=>?_⟩;rw[nq E];by_cases c:s=(aV us k).out.toNat
   ·rw[if_pos c,if_pos ⟨c,hk⟩,c]
   rw[if_neg c,if_neg λg=>c g.1]
  rename_i hk;exact⟨E,λs=>by rw[if_neg λg=>hk g.2]⟩
 refine⟨hEs.1,λs hs=>?_,λs=>?_,λf hf=>?_⟩
 ·rw[hEs.2 s,if_neg λg=>hs g.1,hCs.2 s,if_neg λg=>hs g.1];exact q2 s hs
 ·have:=(g2 s).1;have:=(g2 ((aV us k).ah.getD 0 default).sh.toNat).1;rw[hEs.2 s,hCs.2 s];by_cases c:s=(aV us k).out.toNat
  ·subst c;split<;>omega
  rw[if_neg λg=>c g.1,if_neg λg=>c g.1,q2 s c];exact ab2 _
 have:=q4 f hf;have:=(g2 (aV us k).out.toNat).1;rw[hEs.2,hCs.2];by_cases c:(aV us k).kind=bq
 ·rw[if_pos c,if_pos ⟨W,c⟩];split<;>omega
 rw[if_neg c,if_neg λg=>c g.2];split<;>omega
def fP.rt:∀k,k<=us.length->(Dm us n k).length=n/\(∀s,0<=(Dm us n k).getD s 0)/\∀s,(Dm us n k).getD s 0<=6
 |0,_=>by unfold Dm;have a:xl (List.replicate n 0) 6:=xl.rep n fh;exact⟨I,λs=>(a.getD fh s).1,λs=>(a.getD fh s).2⟩
 |k+1,h=>by
  obtain⟨l,b,j⟩:=fP.rt k E;obtain⟨g,f,d,-⟩:=hm.TA E l b;refine⟨g,λs=>acI (b s)<|d s,λs=>?_⟩;by_cases c:s=(aV us k).out.toNat
  ·obtain⟨r,-,e,hs⟩:=hm.Z7;obtain⟨z,i⟩:=Option.isSome_iff_exists.1 hs;have:=Ed i k (by rw[hm.mU];omega);rw[e]at this;rw[c];exact this
  rw[f s c];exact j s
def fP.ZV(h:k<us.length)(hs:s≠(aV us k).out.toNat):(iO us n m<|k+1).getD s []=(iO us n m k).getD s []:=by
 have a:k<(az us).length:=by rw[hm.mU];omega
 have c:=hm.out h;have b:us.getD ((az us)[k]).toNat default=aV us k:=by unfold aV;rw[au a]
 rw[pg a];unfold lJ;rw[b];split
 ·rw[fB<|by rw[kG];omega,if_neg hs]
 split
 ·rw[fB<|by rw[kG];omega,if_neg hs]
 rfl
def fP.Zl(h:k<=us.length)(hs:∀j,k<=j->j<us.length->s≠(aV us j).out.toNat):(za us n m).getD s []=(iO us n m k).getD s []:=by
 unfold za;rw[hm.mU];have:∀j,j<=us.length->k<=j->(iO us n m j).getD s []=(iO us n m k).getD s []:=by
  intro j
  induction j with
  |zero=>intro _ d;have:k=0:=E;subst this;rfl
  |succ j a=>
   intro d b;by_cases c:k=j+1
   ·subst c;rfl
   rw[hm.ZV E<|hs j E E];exact a E E
 simp_all
def fP.Zk(h:k<=us.length)(hs:s=0\/∃j,j<k/\(aV us j).out.toNat=s):(za us n m).getD s []=(iO us n m k).getD s []:=by
 refine hm.Zl h λj d a e=>?_;have c:=hm.out a;rcases hs with rfl|⟨i,hi,f⟩
 ·omega
 have b:=hm.out (show i<us.length from E);have:=hm.outs (show i<us.length from E) a E;omega
def fP.ZU{i:Nat}(hi:i<us.length)(b:us[i].kind=bq):∀j,j<=us.length->i<j->(FJ us n m j).getD us[i].out.toNat []=vm (jL us<|i+1) m
 |0,_,h=>E
 |j+1,f,h=>by
  have d:=(hm.val _<|abw<|show j<us.length from E).out;rw[FJ,au<|show j<us.length from E];by_cases c:i=j
  ·subst c;rw[if_pos b,fB<|by rw[qi];omega,if_pos W]
  have a:=fP.ZU hi b j E E;split
  ·rw[fB<|by rw[qi];omega,if_neg λe=>c<|hm.inj hi E E];exact a
  exact a
def fP.Zo:∀j,j<=us.length->(FJ us n m j).getD 0 []=vm 0 m
 |0,_=>by have:=hm.n0;unfold FJ Bk;rw[fB<|by simpa using this,if_pos W]
 |j+1,b=>by
  have a:=(hm.val _<|abw<|show j<us.length from E).out;rw[FJ,au<|show j<us.length from E];split
  ·rw[fB<|by rw[qi];omega,if_neg E];exact fP.Zo j E
  exact fP.Zo j E
def fP.Zn:(za us n m).getD 0 []=vm 0 m:=by rw[hm.Zk (k:=0) (aaM _)<|.inl W];exact hm.Zo _ .refl
def fP.Zm(h:k<us.length)(f:(aV us k).kind=bq):(za us n m).getD (aV us k).out.toNat []=vm (jL us ((az us).getD k 0).toNat+1) m:=by
 have a:=hm.idx h;have b:=f;rw[hm.eq h]at b;have p:(iO us n m 0).getD (aV us k).out.toNat []=vm (jL us ((az us).getD k 0).toNat+1) m:=by unfold iO;rw[aes,aff,hm.eq h,hm.ZU a b _ .refl a,tz a,if_pos b]
 have:∀j,j<=us.length->(iO us n m j).getD (aV us k).out.toNat []=(iO us n m 0).getD (aV us k).out.toNat []:=by
  intro j
  induction j with
  |zero=>intro _;rfl
  |succ j g=>
   intro l;by_cases c:j=k
   ·subst c;have d:j<(az us).length:=by rw[hm.mU];omega
    have i:us.getD ((az us)[j]).toNat default=aV us j:=by unfold aV;rw[au d]
    rw[pg d];unfold lJ;rw[i,if_neg<|by rw[f];decide,if_neg<|by rw[f];decide];exact g E
   rw[hm.ZV E λe=>c ?_]
   ·exact g E
   have o:=hm.out h;exact hm.outs E h E
 unfold za;rw[hm.mU];simp_all
end
end
def GQ{us:List bT}{i j:Nat}(b:i<j)(d:j<=us.length)(a:(us.getD i default).kind=bq):jL us i<jL us j:=by
 have c:=tz (us:=us) (i:=i) E;rw[au E]at a;rw[if_pos a]at c;have e:jL us (i+1)<=jL us j:=by exact List.Sublist.countP_le<|List.take_sublist_take_left E
 omega
def Zg{k:Nat}(h:k<8):2*65600+k*131220+20<=wB:=by unfold wB;omega
def Zf(k:Nat):2*65600+k*131220+20<=(k+1)*131220:=E
def SZ(k:Nat):k*131220<=(k+1)*131220:=abT _<|ad4 k
section
variable{us:List bT}{n m:Nat}(hm:fP us n)(hc:m=dq us)
include hm hc
theorem fP.Wo(s:Nat):b8 (jt us) (kq us) (m+1) ((ru us n us.length).getD s 0) 65600 ((za us n m).getD s []):=by have h:=hm.XC hc us.length .refl s;unfold za;rw[hm.mU];exact h.mono hm.base (ab2 _)<|A5 hm.len
def fP.ZY{k:Nat}(h:k<us.length){v:Nat}(g:AE ((za us n m).getD (aV us k).out.toNat []) v):
 ((aV us k).kind=bq/\v=jL us ((az us).getD k 0).toNat+1)\/((aV us k).kind≠bq/\∃f∈(aV us k).ah,AE ((za us n m).getD f.sh.toNat []) v):=by
 have P:k<(az us).length:=by rw[hm.mU];omega
 have O:=hm.out h;by_cases s:(aV us k).kind=bq
 ·rw[hm.Zm h s]at g;exact .inl ⟨s,Mz g⟩
 refine .inr ⟨s,?_⟩;have hu:=hm.val _<|hm.mem h;have w:cR (aV us k)=(aV us k).ah:=by unfold cR;rw[if_neg s]
 have l:∀f∈(aV us k).ah,(iO us n m k).getD f.sh.toNat []=(za us n m).getD f.sh.toNat []:=λf x=>by
  have N:=hu.feed f x;refine(hm.Zk E ?_).symm;rcases hm.before h (by rw[w];exact x) ⟨N.1,N.2.1⟩with e|⟨j,V,e⟩
  ·left;omega
  right;exact⟨j,V,E⟩
 rw[hm.Zk (k:=k+1) E<|.inr ⟨k,E,W⟩,pg P]at g;have e0:us.getD ((az us)[k]).toNat default=aV us k:=by unfold aV;rw[au P]
 unfold lJ at g;rw[e0]at g;have Y:=hm.XC hc k E;obtain⟨-,f2,f3,f4⟩:=nC<|hm.YA _<|hm.mem h;by_cases A:(aV us k).kind=jz
 ·rw[if_pos A,fB<|by rw[kG];omega,if_pos W]at g;have q:∀i,i<=(aV us k).ah.length->AE (gT (iO us n m k) (cp n us) (aV us k) i).1 v->∃f∈(aV us k).ah,AE ((iO us n m k).getD f.sh.toNat []) v:=by
   intro i
   induction i with
   |zero=>rintro _⟨u,hu,_⟩;simp[gT]at hu
   |succ i C=>
    intro hi h;rcases Gd (sc h)with h|h
    ·exact C E h
    exact⟨_,bw E,MA h⟩
  rcases Gd (sc g)with g|g
  ·obtain⟨f,x,F⟩:=q _ (abq _) g;exact⟨f,x,by rw[<-l f x];exact F⟩
  exact absurd g Em
 have z:(aV us k).kind=dy:=by rcases hu.kind with e|e|e;exact absurd e s;exact absurd e A;exact e
 rw[if_neg A,if_pos z,fB<|by rw[kG];omega,if_pos W]at g;obtain⟨T,R,-⟩:=hu.table z;have o:(aV us k).ah.getD 0 default∈(aV us k).ah:=bw E;refine⟨_,o,?_⟩;rw[<-l _ o];have L:=hm.base;have Q:=hm.Y6 hc;have Cc:=(hm.dg k E).2 ((aV us k).ah.getD 0 default).sh.toNat;have D:=b8.Ts (B:=wB) L Q (Y ((aV us k).ah.getD 0 default).sh.toNat) Cc.2 (V7 (us:=us)<|f4 _ o) (by have:=A5 (k:=k) (by have:=hm.len;omega);unfold wB;omega);have M:b8 (jt us) (kq us) (m+1) _ _ (oL (iO us n m k)<|aV us k):=D.2;have X:=hm.Z6 h;have H:=X.2.2 s _ o;have J:lz (aV us k)=max 1 (((aV us k).dI.length:Int)-1):=by unfold lz;rw[if_pos z]
 have r:=((hm.dg (k+1) E).2 (aV us k).out.toNat).2;have q:∀p:List Rat,(∀c∈p,Wn (jt us) (kq us) 1 1 c)->p.length<=(aV us k).dI.length->AE (jF m (oL (iO us n m k)<|aV us k) p) v->AE (oL (iO us n m k)<|aV us k) v:=by
  intro p
  induction p with
  |nil=>rintro _ _⟨u,hu,_⟩;simp[jF]at hu
  |cons c p C=>
   intro y hl h;rw[abD]at hl;rcases Gd (sc h)with h|h
   ·by_cases e:p=[]
    ·subst e;obtain⟨u,hu,_⟩:=h;simp[lP,jx,si]at hu
    have Z:=(Kk (B:=wB) L Q (M.mono L (ab2 _)<|show 1+wS k+1<=wS k+2 from E) Cc.1 Cc.2 (by have:=A5 (k:=k) (by have:=hm.len;omega);unfold wB;omega) p (λd K=>y d<|by simp[K]) E (by refine acI (acI (acC (a:=(p.length:Int)-1) (b:=lz<|aV us k) ?_ Cc.1) H) r;rw[J];omega)).1 e
    rcases TR Z.pw M.pw h with h|h
    ·exact C (λd K=>y d<|by simp[K]) E h
    exact h
   exact absurd h Em
 exact MA<|q _ (λc hc=>by obtain⟨t,S,rfl⟩:=abF.1 hc;exact V7<|f3 t S) I g
def fP.bd:∀k,k<=us.length->
 (∀i,b8 (jt us) (kq us) (m+1) 6 (k*131220)<|(iZ us n m k).getD i [])/\
 (∀s,(s=0\/∃j,j<k/\(aV us j).out.toNat=s)->∀i,AE ((za us n m).getD s []) (i+1)->b8 (jt us) (kq us) (m+1) ((Dm us n k).getD s 0) (k*131220) ((iZ us n m k).getD i [])/\∃j,j<k/\(aV us j).kind=bq/\jL us ((az us).getD j 0).toNat=i)/\
 (∀j,j<k->(aV us j).kind=bq->L6 (m+1) (1012*wB+2) (za us n m) (iZ us n m j) (aV us j))
 |0,_=>by
  have H:∀i,(iZ us n m 0).getD i []=[]:=λi=>by unfold iZ;rw[aes,aff,abx,adO];split<;>rfl
  refine⟨λi=>by rw[H];exact b8.nil,λs hs i p=>?_,λj t=>E⟩;rcases hs with rfl|⟨j,t,-⟩
  ·rw[hm.Zn]at p;have:=Mz p;omega
  omega
 |k+1,h=>by
  obtain⟨r1,M,r3⟩:=fP.bd k E;have P:k<(az us).length:=by rw[hm.mU];omega
  have y:=hm.base;have hV:=hm.Y6 hc;have J:=hm.len;have B0:=hm.out (show k<us.length from E);have hu:=hm.val _<|hm.mem<|show k<us.length from E;obtain⟨t1,t2,t3⟩:=hm.rt k E;obtain⟨q1,q2,q3,q4⟩:=hm.TA (show k<us.length from E) t1 t2;obtain⟨u1,u2,u3⟩:=hm.rt (k+1) h;have e0:us.getD ((az us)[k]).toNat default=aV us k:=by unfold aV;rw[au P]
  have eo:(az us)[k]=(az us).getD k 0:=(au P).symm;have q:∀i,b8 (jt us) (kq us) (m+1) 6 ((k+1)*131220) ((iZ us n m k).getD i []):=λi=>(r1 i).mono y (ab2 _)<|SZ k;have T:∀s,(s=0\/∃j,j<k/\(aV us j).out.toNat=s)->s≠(aV us k).out.toNat:=λs hs e=>by
   rcases hs with rfl|⟨j,t,e2⟩
   ·omega
   have F0:=hm.out (show j<us.length from E);have:=hm.outs (show j<us.length from E) (show k<us.length from E) E;omega
  have l:iZ us n m (k+1)=ow us (za us n m) (iZ us n m k) (az us)[k]:=Bo P;have v:∀f∈cR (aV us k),f.sh.toNat=0\/∃j,j<k/\(aV us j).out.toNat=f.sh.toNat:=λf x=>by
   have X:f∈(aV us k).ah:=by
    unfold cR at x;split at x
    ·exact adg x
    exact x
   have hv:=hu.feed f X;rcases hm.before (show k<us.length from E) x ⟨hv.1,hv.2.1⟩with e|⟨j,t,e⟩
   ·left;omega
   right;exact⟨j,t,E⟩
  by_cases b:(aV us k).kind=bq
  ·obtain⟨F1,-⟩:=hu.int b;have Z:(aV us k).ah.getD 0 default∈(aV us k).ah:=bw E;have Y:(aV us k).ah.getD 1 default∈(aV us k).ah:=bw E;have o:(aV us k).ah.getD 1 default∈cR (aV us k):=by
    unfold cR;rw[if_pos b,au E];refine List.mem_drop_iff_getElem.2 ⟨0,E,W⟩
   obtain⟨-,-,-,f4⟩:=nC<|hm.YA _<|hm.mem<|show k<us.length from E;have hd:=(hm.dg us.length<|abq _).2;have S:=q4 _ o;rw[if_pos b]at S;have E2:=u3 (aV us k).out.toNat;obtain⟨ok,new⟩:=TK (B:=wB) (u:=aV us k) (r:=(Dm us n k).getD ((aV us k).ah.getD 1 default).sh.toNat 0) y hV (sY us n m k) (hm.Wo hc _) (hm.Wo hc _) (hd _) (hd _) ⟨t2 _,t3 _⟩ (λ_=>E) r1
    (λi p=>(M _ (v _ o) i p).1) (V7 (us:=us)<|f4 _ Z) (V7 (us:=us)<|f4 _ Y) (Zg<|acg h J)
   have K:=hm.idx (show k<us.length from E);have A0:jL us ((az us).getD k 0).toNat<m:=by
    have h1:=GQ (us:=us) K (abq _) (by have:us.getD ((az us).getD k 0).toNat default=aV us k:=W;rw[this];exact b)
    have h2:=GR us us.length;rw[hc];omega
   have a:∀i,(iZ us n m<|k+1).getD i []=if i=jL us ((az us).getD k 0).toNat then Ms (za us n m) (iZ us n m k) (aV us k)else(iZ us n m k).getD i []:=λi=>by rw[l];unfold ow;rw[e0,if_pos b,eo,fB<|by rw[sY];exact A0]
   have D:=Zf k;refine⟨λi=>?_,λs hs i p=>?_,λj t O=>?_⟩
   ·rw[a];split
    ·exact(new 6 (λ_=>E)).mono y (ab2 _) D
    exact q i
   ·by_cases c:s=(aV us k).out.toNat
    ·subst c;have hi:i=jL us ((az us).getD k 0).toNat:=by
      rcases hm.ZY hc (show k<us.length from E) p with⟨-,e⟩|⟨e,-⟩
      ·omega
      exact absurd b e
     refine⟨?_,k,E,b,hi.symm⟩;rw[a,if_pos hi];exact(new _ λ_=>E).mono y (ab2 _) D
    have w:s=0\/∃j,j<k/\(aV us j).out.toNat=s:=by
     rcases hs with e|⟨j,t,e⟩
     ·exact .inl e
     refine .inr ⟨j,?_,e⟩;apply acF;intro g;have:j=k:=E;subst this;exact c e.symm
    obtain⟨C,j,N,A,z⟩:=M s w i p;have V:i≠jL us ((az us).getD k 0).toNat:=by
     rw[<-z];intro e;have F2:=hm.idx (show j<us.length from E);have R:(us.getD ((az us).getD j 0).toNat default).kind=bq:=A;have Q:(us.getD ((az us).getD k 0).toNat default).kind=bq:=b;rcases afE ((az us).getD j 0).toNat ((az us).getD k 0).toNat with L|L|L
     ·have:=GQ L E R;omega
     ·have h1:=gC _ (bw (d:=0)<|show j<(az us).length by rw[hm.mU];omega);have h2:=gC _<|bw (d:=0) P;have:=hm.X9 (adT N h) h (by rw[<-aeL h1.1,<-aeL h2.1,L]);exact absurd N (by rw[this];exact Nat.lt_irrefl _)
     have:=GQ L E Q;omega
    refine⟨?_,j,E,A,z⟩;rw[a,if_neg V,q2 s c];exact C.mono y (ab2 _)<|SZ k
   by_cases c:j=k
   ·subst c;exact ok
   exact r3 j E O
  have a:iZ us n m (k+1)=iZ us n m k:=by rw[l];unfold ow;rw[e0,if_neg b]
  rw[a];refine⟨q,λs hs i p=>?_,λj t O=>?_⟩
  ·by_cases c:s=(aV us k).out.toNat
   ·subst c;rcases hm.ZY hc (show k<us.length from E) p with⟨e,-⟩|⟨-,f,x,F⟩
    ·exact absurd e b
    have o:f∈cR (aV us k):=by unfold cR;rw[if_neg b];exact x
    obtain⟨C,j,N,A,z⟩:=M _ (v f o) i F;have E1:=AO (hm.Wo hc f.sh.toNat) F;have S:=q4 f o;rw[if_neg b]at S;exact⟨C.mono y E<|SZ k,j,E,A,z⟩
   have w:s=0\/∃j,j<k/\(aV us j).out.toNat=s:=by
    rcases hs with e|⟨j,t,e⟩
    ·exact .inl e
    refine .inr ⟨j,?_,e⟩;apply acF;intro g;have:j=k:=E;subst this;exact c e.symm
   obtain⟨C,j,N,A,z⟩:=M s w i p;rw[q2 s c];exact⟨C.mono y (ab2 _)<|SZ k,j,E,A,z⟩
  by_cases c:j=k
  ·subst c;exact absurd O b
  exact r3 j E O
def fP.read:SF (m+1) (1012*wB+2) (1012*2+2) us n m:=by
 have r:=hm.base;have q:=hm.Y6 hc;have o:=hm.len;have c:∀{l:List (List cU)}{p:List cU},p∈l->∃s,p=l.getD s []:=λ{l p}h=>by obtain⟨s,hs,rfl⟩:=adz h;exact⟨s,(au hs).symm⟩
 have e:∀k(h:k<(az us).length),us.getD ((az us)[k]).toNat default=aV us k:=λk h=>by unfold aV;rw[au h]
 refine⟨λk a p d=>?_,λk a p d=>?_,λk a j=>?_,λk a f=>?_,λk a g=>?_⟩
 ·rw[hm.mU]at a;obtain⟨s,rfl⟩:=c d;exact b8.tok (B:=wB) r q (hm.XC hc k a s) ((hm.dg k a).2 s).2 (by have:=A5 (k:=k) E;unfold wB;omega)
 ·rw[hm.mU]at a;obtain⟨i,rfl⟩:=c d;exact b8.tok (B:=wB) r q ((hm.bd hc k a).1 i) (ab2 _) (by unfold wB;omega)
 ·have b:k<us.length:=by rw[<-hm.mU];exact a
  rw[e k a]at j⊢;exact(hm.PY hc b (by have:=A5 (k:=k) E;unfold wB;omega)<|hm.XC hc k E).1 j
 ·have b:k<us.length:=by rw[<-hm.mU];exact a
  rw[e k a]at f⊢;exact(hm.PY hc b (by have:=A5 (k:=k) E;unfold wB;omega)<|hm.XC hc k E).2.1 f
 have b:k<us.length:=by rw[<-hm.mU];exact a
 rw[e k a]at g⊢;exact(hm.bd hc us.length .refl).2.2 k b g
end
noncomputable def OZ(p:gV):Bool:=Am p&&decide (B4 (za p.aa p.n.toNat (dq p.aa)++(Mr p.aa p.n.toNat<|dq p.aa).bd)=0)
def QX{p:gV}(h:Am p=true):fP p.aa p.n.toNat/\p.n=p.n.toNat:=by
 unfold Am at h;rw[aby,aby,decide_eq_true_eq,abN]at h;obtain⟨⟨i,m,a⟩,f,d⟩:=h;obtain⟨l,k,j,b⟩:=H4 a;have e:p.n=p.n.toNat:=E;unfold dT at a;rw[if_neg E,if_neg E]at a;split at a
 ·rename_i g;exact absurd a g
 split at a
 ·cases a
 split at a
 ·cases a
 split at a
 ·cases a
 split at a
 ·cases a
 rename_i c;split at a
 ·cases a
 exact⟨⟨i,E,E,λu hu=>by rw[<-e];exact b u hu,Classical.not_not.1 c,E,f,d⟩,e⟩
def Yz(p:gV)(h:rA p):aM Tryz.prog 56 [bh p,.i 8] (.u<|OZ p):=by
 refine bS Tryz.func56 W<|bP W W (Gj p h) W<|r0 W<|iN 8 W ?_ ?_<;>intro g
 ·obtain⟨hm,e⟩:=QX g;have d:=hm.read (m:=dq p.aa) W;have j:=hm.n9;have c:=hm.n0;have f:=hm.len;have a:∀u∈p.aa,iQ p.n u:=λu hu=>by rw[e];exact hm.val u hu
  refine bP W W (KE p h p.n.toNat (dq p.aa) e W c E E a d (by unfold wB;decide) fh<|by unfold wB;decide) W ?_;refine bP W W (Gn (Mr p.aa p.n.toNat<|dq p.aa) (za p.aa p.n.toNat<|dq p.aa) (V:=dq p.aa+1) (K:=1012*wB+2) (λq b=>?_) ?_<|by unfold wB;decide) W ?_
  ·rcases abJ.1 b with b|b
   ·have:=d.sh _ (abq _) q b;exact⟨this.1,adT this.2 fh⟩
   have:=d.rt _ (abq _) q b;exact⟨this.1,adT this.2 fh⟩
  ·unfold za;rw[kG];have:(Mr p.aa p.n.toNat<|dq p.aa).bd.length=dq p.aa:=sY _ _ _ _;have k:dq p.aa<=p.aa.length:=adU;omega
  refine bK W W<|ar.of_eq<|congrArg SV.u ?_;unfold OZ;rw[g,ab3]
 refine bK W W ?_;unfold OZ;rw[g];rfl
def nB(u:bT):Bool:=decide (u.kind.length<=30/\u.ah.length<=12/\u.dI.length<=20/\u.k.length<=14)&&((u.ah.all λf=>decide (f.dZ.length<=14))&&u.dI.all λc=>decide (c.length<=14))
def BE(p:gV):Prop:=¬(12<p.aa.length/\p.aa.length<=96)/\p.aa.length<=110/\p.ints.length<=40
instance(p:gV):Decidable (BE p):=by unfold BE;infer_instance
noncomputable def qC(p:gV):Bool:=decide (BE p)&&(p.aa.all nB&&(decide (dT p≠0)||OZ p))
structure Zb(p:gV):Prop where
 aa:p.aa.length<=9223372036854775807
 ints:p.ints.length<=9223372036854775807
 kind:∀u∈p.aa,u.kind.length<=9223372036854775807
 ah:∀u∈p.aa,u.ah.length<=9223372036854775807
 dI:∀u∈p.aa,u.dI.length<=9223372036854775807
 k:∀u∈p.aa,u.k.length<=9223372036854775807
 dZ:∀u∈p.aa,∀f∈u.ah,f.dZ.length<=9223372036854775807
 Kj:∀u∈p.aa,∀c∈u.dI,c.length<=9223372036854775807
def IE{p:gV}(a:BE p)(h:p.aa.all nB=true):rA p:=by rw[abN]at h;refine⟨by have:=a.2.1;omega,λu hu=>?_,by have:=a.2.2;omega⟩;have:=h u hu;unfold nB at this;simp at this;obtain⟨⟨_,j,i,g⟩,e,d⟩:=this;exact⟨E,λf b=>by have:=e f b;unfold ct;omega,by unfold ct;omega,E,λc hc=>by have:=d c hc;unfold ct;omega⟩
def Ub(p:gV)(e:Zb p):aM Tryz.prog 9 [bh p] (.u<|qC p):=by
 have hl:=e.aa;have hi:=e.ints;have d:¬BE p->qC p=false:=λh=>by unfold qC;rw[decide_eq_false h];rfl
 refine bS Tryz.func9 W ?_;have ret:∀(h:qC p=false),false=qC p:=λh=>h.symm;refine cx 2 [(1,.box true<|bh p)] (BE p) ?_ λy=>?_
 ·refine bJ W 13 W ?_ ?_<;>intro g1
  ·refine bJ W 19 W ?_ ?_<;>intro g2
   ·refine bK W W<|ret<|d λh=>h.1 ⟨E,E⟩
   refine bJ W 25 W ?_ ?_<;>intro q
   ·refine bK W W<|ret (d λh=>by have:=h.2.1;omega)
   refine bQ W W ?_ ?_<;>intro o
   ·refine bK W W<|ret (d λh=>by have:=h.2.2;omega)
   refine bL W ⟨λh=>E,E,E⟩ ⟨G,U⟩
  refine bJ W 25 W ?_ ?_<;>intro q
  ·refine bK W W<|ret (d λh=>by have:=h.2.1;omega)
  refine bQ W W ?_ ?_<;>intro o
  ·refine bK W W<|ret (d λh=>by have:=h.2.2;omega)
  refine bL W ⟨λh=>E,E,E⟩ ⟨G,U⟩
 have t:qC p=(p.aa.all nB&&(decide (dT p≠0)||OZ p)):=by unfold qC;rw[decide_eq_true y,ab3]
 rw[t];clear ret d t;refine bM W (λi:Nat=>[(1,.box true<|bh p),(32,.bA false 5 default dQ p.aa),(33,.i p.aa.length),(34,.i i)]) (λi=>i<=p.aa.length/\p.aa.all nB=(p.aa.drop i).all nB) (λi=>p.aa.length-i) 0 ⟨aaM _,W⟩
  ⟨G,G,G,G,U⟩ ?_
 rintro i⟨B,s⟩;refine bQ W W ?_ ?_<;>intro g1
 ·have g:i<p.aa.length:=E;have z:(i:Int).toNat=i:=E;have D:p.aa.getD i default=p.aa[i]:=au g;have a:=abw g;have k1:=e.kind _ a;have k2:=e.ah _ a;have k3:=e.dI _ a;have k4:=e.k _ a;have k5:=e.dZ _ a;have k6:=e.Kj _ a;rw[abO g,ab7]at s;rw[s];refine r1 W (by simp only[ag,and_true,z]<;>omega) ?_;rw[z,D];generalize p.aa[i]=u at*;have d:(¬(u.kind.length<=30/\u.ah.length<=12/\u.dI.length<=20/\u.k.length<=14))->nB u=false:=λh=>by unfold nB;rw[decide_eq_false h];rfl
  have ret:nB u=false->false=(nB u&&(p.aa.drop<|i+1).all nB&&(decide (dT p≠0)||OZ p)):=λh=>by rw[h];rfl
  refine aC 42 W ?_ ?_<;>intro g2
  ·refine bK W W<|ret<|d λh=>E
  refine bJ W 48 W ?_ ?_<;>intro q
  ·refine bK W W<|ret<|d λh=>E
  refine bJ W 54 W ?_ ?_<;>intro o
  ·refine bK W W<|ret<|d λh=>E
  refine bQ W W ?_ ?_<;>intro C
  ·refine bK W W<|ret<|d λh=>E
  have t:nB u=((u.ah.all λf=>decide (f.dZ.length<=14))&&u.dI.all λc=>decide (c.length<=14)):=by unfold nB;rw[decide_eq_true ⟨E,E,E,E⟩,ab3]
  rw[t];clear ret d;refine bM W (λk:Nat=>[(1,.box true<|bh p),(32,.bA false 5 default dQ p.aa),(33,.i p.aa.length),(34,.i i),(4,.box true<|dQ u),(61,.bA false 2 default oX u.ah),(62,.i u.ah.length),(63,.i k)])
   (λk=>k<=u.ah.length/\(u.ah.all λf=>decide (f.dZ.length<=14))=(u.ah.drop k).all λf=>decide (f.dZ.length<=14)) (λk=>u.ah.length-k) 0 ⟨aaM _,W⟩
   ⟨G,G,G,G,G,G,G,G,U⟩ ?_
  rintro k⟨A,l⟩;refine bQ W W ?_ ?_<;>intro w
  ·have b:k<u.ah.length:=E;have r:(k:Int).toNat=k:=E;have x:u.ah.getD k default=u.ah[k]:=au b;have k7:=k5 _<|abw b;rw[abO b,ab7]at l;rw[l];refine r1 W (by simp only[ag,and_true,r]<;>omega) ?_;rw[r,x];generalize u.ah[k]=f at*;refine gg W ?_ ?_<;>intro v
   ·refine bK W W ?_;show false=_;rw[decide_eq_false E];rfl
   rw[show decide (f.dZ.length<=14)=true from decide_eq_true E,ab3];refine r1 W ba<|again (k+1) E ⟨E,W⟩ ⟨G,G,G,G,G,G,G,G,U⟩
  have:k=u.ah.length:=E;subst this;rw[l,acN,aeI,ab3];refine bM W (λk:Nat=>[(1,.box true<|bh p),(32,.bA false 5 default dQ p.aa),(33,.i p.aa.length),(34,.i i),(73,.strs false u.dI),(74,.i u.dI.length),(75,.i k)])
   (λk=>k<=u.dI.length/\(u.dI.all λc=>decide (c.length<=14))=(u.dI.drop k).all λc=>decide (c.length<=14)) (λk=>u.dI.length-k) 0 ⟨aaM _,W⟩
   ⟨G,G,G,G,G,G,G,U⟩ ?_
  rintro k⟨A,j⟩;refine bQ W W ?_ ?_<;>intro w
  ·have b:k<u.dI.length:=E;have r:(k:Int).toNat=k:=E;have x:u.dI.getD k []=u.dI[k]:=au b;have k7:=k6 _<|abw b;rw[abO b,ab7]at j;rw[j];refine r1 W (by simp only[ag,and_true,r]<;>omega) ?_;rw[r,x];generalize u.dI[k]=c at*;refine gg W ?_ ?_<;>intro v
   ·refine bK W W ?_;show false=_;rw[decide_eq_false E];rfl
   rw[show decide (c.length<=14)=true from decide_eq_true E,ab3];refine r1 W ba<|again (k+1) E ⟨E,W⟩ ⟨G,G,G,G,G,G,G,U⟩
  have:k=u.dI.length:=E;subst this;rw[j,acN,aeI,ab3];refine r1 W ba<|again (i+1) E ⟨E,W⟩ ⟨G,G,G,G,U⟩
 have:i=p.aa.length:=E;subst this;rw[s,acN,aeI,ab3];refine r0 W ?_;have n:p.aa.all nB=true:=by rw[s,acN];rfl
 have m:rA p:=IE y n;refine bG W (mN p m) W<|bJ W 87 W ?_ ?_<;>intro g2
 ·refine bK W W ?_;show true=_;rw[decide_eq_true g2];rfl
 refine bP W W (Yz p m) W<|bK W W<|ar.of_eq<|congrArg SV.u ?_;rw[decide_eq_false g2];rfl
def yX(s:fD):Bool:=decide (s.lo.length<=24/\s.hi.length<=24)
def MY(l:List fD):Bool:=l.all yX&&decide (l.length<=110)
def W9(l:List fD)(hl:l.length<=9223372036854775807)(h:∀s∈l,s.lo.length<=9223372036854775807/\s.hi.length<=9223372036854775807):aM Tryz.prog 10 [.bA false 2 default dX l] (.u<|MY l):=by
 refine bS Tryz.func10 W<|r0 W ?_;unfold MY;refine loop (λi:Nat=>[(0,.bA false 2 default dX l),(5,.bA false 2 default dX l),(6,.i l.length),(7,.i i)]) (λi=>i<=l.length/\l.all yX=(l.drop i).all yX) (λi=>l.length-i) 0 ⟨aaM _,W⟩ ⟨G,G,G,G,U⟩ ?_;rintro i⟨hi,b⟩;refine bQ W W ?_ ?_<;>intro g1
 ·have a:i<l.length:=E;have c:(i:Int).toNat=i:=E;have e:l.getD i default=l[i]:=au a;rw[abO a,ab7]at b;rw[b];refine r1 W (by simp[ag,and_true,c]<;>omega) ?_;rw[c,e];generalize l[i]=s at*;have ret:yX s=false->false=(yX s&&(l.drop<|i+1).all yX&&decide (l.length<=110)):=λh=>by rw[h];rfl
  refine aC 15 W ?_ ?_<;>intro g2
  ·refine bK W W<|ret<|decide_eq_false E
  refine bQ W W ?_ ?_<;>intro d
  ·refine bK W W<|ret<|decide_eq_false E
  have f:yX s=true:=decide_eq_true E;rw[f,ab3];refine r1 W a7<|again (i+1) E ⟨E,W⟩ ⟨G,G,G,G,U⟩
 have:i=l.length:=E;subst this;rw[b,acN,aeI,ab3];refine bK W W<|ar.of_eq<|congrArg SV.u<|decide_eq_decide.2 E
def Jq(rs:List fD)(b:fE):SV:=.agg [.bA false 2 default dX rs,.i b.c,.i b.d,.i b.s,.i b.g]
noncomputable def O9(p:gV)(rs:List fD)(b:fE):Int:=if dT p≠0 then dT p else if jR p.n rs≠0 then jR p.n rs else od b
def Pb(p:gV)(rs:List fD)(b:fE)(h:rA p)(a:∀s∈rs,ct s.lo/\ct s.hi)(hl:rs.length<2^40):aM Tryz.prog 12 [bh p,Jq rs b] (.i<|O9 p rs b):=by
 refine bS Tryz.func12 W<|bP W W (mN p h) W<|bQ W W ?_ ?_<;>intro g1
 ·refine bP W W (wX p rs a hl) W<|bQ W W ?_ ?_<;>intro g2
  ·refine bP W W (yz b) W<|bK W W<|bR ?_;unfold O9;rw[if_neg E,if_neg E]
  refine bK W W<|bR ?_;unfold O9;rw[if_neg E,if_pos E]
 refine bQ W W ?_ ?_<;>intro g2
 ·simp_all
 refine bK W W<|bR ?_;unfold O9;rw[if_pos E]
end Go.Ai
section
namespace Go.Proofs
open Go.Shelf
def Tryz.IG:Go.Shelf.Ren:=⟨λ|171=>302|243=>330|246=>351|283=>352|284=>353|285=>354|286=>355|129=>285|317=>370|318=>371|319=>372|320=>373|337=>380|338=>381|n=>n,λ|3=>3|9=>9|2=>2|4=>4|171=>410|0=>0|53=>311|37=>372|5=>5|173=>412|212=>429|51=>308|20=>20|213=>430|46=>225|232=>441|233=>442|n=>n,λ|17=>5|18=>6|19=>7|n=>n⟩
theorem Tryz.Ud:Go.Proofs.LaysM.n171 Tryz.prog Tryz.IG where
 mixed:=by kernel_rfl
 f129:=Tryz.func285.trans<|congrArg some<|by kernel_rfl
 f171:=Tryz.func302.trans<|congrArg some<|by kernel_rfl
 f243:=Tryz.func330.trans<|congrArg some<|by kernel_rfl
 f246:=Tryz.func351.trans<|congrArg some<|by kernel_rfl
 f283:=Tryz.func352.trans<|congrArg some<|by kernel_rfl
 f284:=Tryz.func353.trans<|congrArg some<|by kernel_rfl
 f285:=Tryz.func354.trans<|congrArg some<|by kernel_rfl
 f286:=Tryz.func355.trans<|congrArg some<|by kernel_rfl
 f317:=Tryz.func370.trans<|congrArg some<|by kernel_rfl
 f318:=Tryz.func371.trans<|congrArg some<|by kernel_rfl
 f319:=Tryz.func372.trans<|congrArg some<|by kernel_rfl
 f320:=Tryz.func373.trans<|congrArg some<|by kernel_rfl
 f337:=Tryz.func380.trans<|congrArg some<|by kernel_rfl
 f338:=Tryz.func381.trans<|congrArg some<|by kernel_rfl
 t0:=Tryz.underlying0
 a0:=Tryz.isAgg0
 z0:=Tryz.sizeOf0
 v0:=Tryz.zeroValue0
 t2:=Tryz.underlying2
 a2:=Tryz.isAgg2
 z2:=Tryz.sizeOf2
 v2:=Tryz.zeroValue2
 t3:=Tryz.underlying3
 a3:=Tryz.isAgg3
 z3:=Tryz.sizeOf3
 v3:=Tryz.zeroValue3
 t4:=Tryz.underlying4
 a4:=Tryz.isAgg4
 z4:=Tryz.sizeOf4
 v4:=Tryz.zeroValue4
 t5:=Tryz.underlying5
 a5:=Tryz.isAgg5
 z5:=Tryz.sizeOf5
 v5:=Tryz.zeroValue5
 t9:=Tryz.underlying9
 a9:=Tryz.isAgg9
 z9:=Tryz.sizeOf9
 v9:=Tryz.zeroValue9
 t20:=Tryz.underlying20
 a20:=Tryz.isAgg20
 z20:=Tryz.sizeOf20
 v20:=Tryz.zeroValue20
 t37:=Tryz.underlying372
 a37:=Tryz.isAgg372
 z37:=Tryz.sizeOf372
 v37:=Tryz.zeroValue372
 t46:=Tryz.underlying225
 a46:=Tryz.isAgg225
 z46:=Tryz.sizeOf225
 v46:=Tryz.zeroValue225
 t51:=Tryz.underlying308
 a51:=Tryz.isAgg308
 z51:=Tryz.sizeOf308
 v51:=Tryz.zeroValue308
 t53:=Tryz.underlying311
 a53:=Tryz.isAgg311
 z53:=Tryz.sizeOf311
 v53:=Tryz.zeroValue311
 t171:=Tryz.underlying410
 a171:=Tryz.isAgg410
 z171:=Tryz.sizeOf410
 v171:=Tryz.zeroValue410
 t173:=Tryz.underlying412
 a173:=Tryz.isAgg412
 z173:=Tryz.sizeOf412
 v173:=Tryz.zeroValue412
 t212:=Tryz.underlying429
 a212:=Tryz.isAgg429
 z212:=Tryz.sizeOf429
 v212:=Tryz.zeroValue429
 t213:=Tryz.underlying430
 a213:=Tryz.isAgg430
 z213:=Tryz.sizeOf430
 t232:=Tryz.underlying441
 a232:=Tryz.isAgg441
 z232:=Tryz.sizeOf441
 v232:=Tryz.zeroValue441
 t233:=Tryz.underlying442
 a233:=Tryz.isAgg442
 z233:=Tryz.sizeOf442
 v233:=Tryz.zeroValue442
 g17:=by kernel_rfl
 g18:=by kernel_rfl
 g19:=by kernel_rfl
 i0:=by kernel_rfl
 i2:=by kernel_rfl
 i3:=by kernel_rfl
 i4:=by kernel_rfl
 i5:=by kernel_rfl
 i9:=by kernel_rfl
 i20:=by kernel_rfl
 i37:=by kernel_rfl
 i46:=by kernel_rfl
 i51:=by kernel_rfl
 i53:=by kernel_rfl
 i171:=by kernel_rfl
 i173:=by kernel_rfl
 i212:=by kernel_rfl
 i232:=by kernel_rfl
 i233:=by kernel_rfl
 m17:=by kernel_rfl
 m18:=by kernel_rfl
 m19:=by kernel_rfl
end Go.Proofs
namespace Go.Ai
open Go.Proofs
def LR(w:World)(k:Nat)(os:Array Obj):Go.RowKit.Below w.heap.size w (Sort.grow (w.drewN k) os):=⟨W,W,W,I,λi hi=>by simp[Sort.grow,Array.getElem?_append,hi]⟩
def Uh(n:Int)(l: -(2^63)<=n)(j:n<=9223372036854775807):aM Tryz.prog 302 [.i n] (.s<|Lib.itoa n):=by intro w S o g f hc;obtain⟨y,p,t,r,rfl,q,_,d,rfl,rfl⟩:=hc;obtain⟨_,rfl,rfl⟩:=d;refine vh.BJ (fn:=Tryz.f302) Tryz.func302 W W<|(Any.strconv_Itoa Tryz.Ud n l j w g).mono ?_;rintro e m⟨rfl,k,os,rfl⟩;have c:=LR w k os;exact⟨_,W,S,[],c,λ_ h=>h,λ_ h=>.inl h,λb a=>acg (f b a) c.size,by simp[SV.den,Rel,scalar,bs],acd,I⟩
def decDigits_eq(u:Nat):Lib.decDigits u=decl u 1:=by
 induction u using Nat.strongRecOn with
 |ind u a=>
  rw[Lib.decDigits,cC E];by_cases h:u<10
  ·rw[dif_pos h,show u/10=0 from E,dp,show u%10=u from E];rfl
  rw[dif_neg h,a (u/10) E];have:decl (u/10) 1=decl (u/10) (1-1):=by rw[cC (n:=u/10) (k:=1) E,cC (n:=u/10) (k:=1-1) E]
  rw[this];rfl
def Ui(z:Int):Lib.itoa z=cK z:=by
 unfold Lib.itoa cK;split
 ·rw[decDigits_eq]
 rw[decDigits_eq];congr 1;omega
def Rg(n:Int)(b: -(2^63)<=n)(a:n<=9223372036854775807):aM Tryz.prog 302 [.i n] (.s<|cK n):=by rw[<-Ui];exact Uh n b a
end Go.Ai
end
namespace Go.Ai.Pg
open Go.Proofs Go.Ai Go.Ai.eE
def gQ:bT:=⟨bq,[⟨1,[49]⟩,⟨0,[49]⟩],1,[49],[]⟩
def fJ:gV:=⟨2,[gQ],[1]⟩
def check_1:aL [49]=0:=by decide +kernel
def X5:bV [49]≠0:=by intro h;have a:=fZ check_1;rw[h,AL]at a;simp_all
def Hq:fW 2 gQ=0:=by
 have c:∀k:Int,0<=k->k<2->gu 2 ⟨k,[49]⟩=0:=by intro k e d;unfold gu;rw[if_neg<|by show¬(k<0\/2<=k);omega,if_neg<|by rw[check_1];simp,if_neg X5]
 have b:aK (gu 2) gQ.ah=0:=dK.2 (by
  intro f a;simp[gQ]at a;rcases a with rfl|rfl
  ·simp_all
  exact c 0 fh fh)
 unfold fW;rw[if_neg<|by simp[gQ],if_neg fh,if_neg<|by rw[b];simp];rfl
def F7:az [gQ]=[0]:=by
 have b:cY [gQ] [] 0=0:=by rw[jH fh];rfl
 have a:cY [gQ] [0] 0= -1:=by rw[jH fh,if_neg fh,mV fh]
 show ew [gQ] 2 []=[0];rw[ew,b];show ew [gQ] 1 [0]=[0];rw[ew,a,if_pos fh]
def zr:dT fJ=0:=by
 have hu:aK (fW fJ.n) fJ.aa=0:=dK.2 (by
  intro u h;have:u=gQ:=by simpa[fJ]using h
  subst this;exact Hq)
 unfold dT;rw[if_neg fh,if_neg fh,if_neg<|by rw[hu];simp,if_neg fh,if_neg fh,if_neg fh,if_neg,if_neg<|by show¬(az [gQ]).length<1;rw[F7];decide,if_neg]
 ·rintro⟨u,h,a,-⟩;have:u=gQ:=by simpa[fJ]using h
  subst this;exact absurd a fh
 intro h;refine h λs b a=>?_;have:s=1:=by have:s<2:=a;omega
 subst this;decide
def rr:List fD:=[⟨[48],[50]⟩,⟨[49],[56]⟩]
def pE:fE:=⟨3,5,10,4⟩
def tR:fE:=⟨40,5,10,0⟩
def RS{n:Nat}(h:n<10):decl n 1=[RU n]:=by have e:n/10=0:=E;have a:n%10=n:=E;rw[cC E,e,a,dp];rfl
def US:aL [48]=0:=by decide +kernel
def UR:aL [50]=0:=by decide +kernel
def UQ:aL [56]=0:=by decide +kernel
def AJ{s:ck}(n:Nat)(h:n<10)(hc:aL s=0)(he:s=[RU n]):bV s=(n:Rat):=by rw[<-KK,fZ hc,he,KI,RS h]
def Vp:bV [48]=0:=AJ 0 fh US W
def FQ:bV [49]=1:=AJ 1 fh check_1 W
def Vo:bV [50]=2:=AJ 2 fh UR W
def Vn:bV [56]=8:=AJ 8 fh UQ W
def Wk:iz ⟨[48],[50]⟩=0:=by unfold iz;rw[Vp,Vo];decide +kernel
def Wj:iz ⟨[49],[56]⟩=0:=by unfold iz;rw[FQ,Vn];decide +kernel
def WN:Gm ⟨[48],[50]⟩=2:=by unfold Gm;rw[Vp,Vo];decide +kernel
def WM:Gm ⟨[49],[56]⟩=8:=by unfold Gm;rw[FQ,Vn];decide +kernel
def BY:mK 2 10=9:=by unfold mK;rw[jJ (e:=9) ⟨by decide +kernel,by decide +kernel⟩];rfl
def ID:mK 8 10=7:=by unfold mK;rw[jJ (e:=7) ⟨by decide +kernel,by decide +kernel⟩];rfl
def Ua:mK 8 5=2:=by unfold mK;rw[jJ (e:=2) ⟨by decide +kernel,by decide +kernel⟩];rfl
def Ku(b:fE)(a:b.s=10):lF rr b=[9,7]:=by unfold lF rr;simp[WN,WM,a,BY,ID]
def Yt:IT rr ⟨1,[49]⟩=8:=by unfold IT;rw[show rr.getD (Int.toNat<|Hi.sh ⟨1,[49]⟩) default=⟨[49],[56]⟩from W,WM,FQ];decide +kernel
def Ys:IT rr ⟨0,[49]⟩=2:=by unfold IT;rw[show rr.getD (Int.toNat<|Hi.sh ⟨0,[49]⟩) default=⟨[48],[50]⟩from W,WN,FQ];decide +kernel
theorem Yr(b:fE)(a:b.d=5):tM rr b gQ 0=2:=by unfold tM;rw[show gQ.ah.getD 0 default=⟨1,[49]⟩from W,Yt,if_pos ⟨W,W⟩,a,Ua]
def in_1(b:fE)(a:b.s=10):tM rr b gQ 1=9:=by unfold tM;rw[show gQ.ah.getD 1 default=⟨0,[49]⟩from W,Ys,if_neg I,a,BY]
def Ld(b:fE)(a:b.d=5)(hs:b.s=10):lS rr b fJ.aa=[[2,9]]:=by show[[tM rr b gQ 0,tM rr b gQ 1]]=_;rw[Yr b a,in_1 b hs]
def nO:rA fJ:=⟨fh,λu h=>by
 have:u=gQ:=by simpa[fJ]using h
 subst this;exact⟨fh,λf a=>by
  have:f.dZ=[49]:=by simp[gQ]at a;rcases a with rfl|rfl<;>rfl
  rw[this];exact(by unfold ct;decide:ct [49]),(by unfold ct;decide:ct [49]),fh,λs hs=>by simp[gQ]at hs⟩,fh⟩
def yg:∀s∈rr,ct s.lo/\ct s.hi:=by intro s hs;simp[rr]at hs;rcases hs with rfl|rfl<;>exact⟨by unfold ct;decide,by unfold ct;decide⟩
def AN(b:fE)(a:J9 b):gm fJ rr b=0:=by
 have d:jR fJ.n rr=0:=by
  refine dK.2 λs hs=>?_;simp[rr]at hs;rcases hs with rfl|rfl
  ·exact Wk
  exact Wj
 have c:mH fJ rr=0:=by unfold mH;rw[if_neg<|by rw[zr];simp];exact d
 unfold gm;rw[if_neg<|by rw[c];simp];exact Ab.2 a
def UZ:J9 pE:=⟨fh,fh,fh,fh⟩
def Xo:J9 tR:=⟨fh,fh,fh,fh⟩
def Xg:List iV:=[⟨0,-1,9⟩,⟨-1,0,40⟩,⟨1,-1,7⟩,⟨-1,1,40⟩,⟨-1,-1,42⟩,⟨1,-1,6⟩,⟨-1,1,2⟩,⟨1,-1,8⟩,⟨-1,1,41⟩,⟨1,0,3⟩,⟨0,1,5⟩]
def YI:List iV:=[⟨0,-1,9⟩,⟨-1,0,40⟩,⟨1,-1,7⟩,⟨-1,1,40⟩,⟨-1,-1,42⟩,⟨1,-1,2⟩,⟨-1,1,-2⟩,⟨1,-1,-29⟩,⟨-1,1,78⟩,⟨1,0,-38⟩,⟨0,1,38⟩]
def XX(b:fE)(hs:b.s=10):Px rr b 0=9:=by unfold Px;rw[show rr.getD 0 default=⟨[48],[50]⟩from W,WN,hs,BY]
def XW(b:fE)(hs:b.s=10):Px rr b 1=7:=by unfold Px;rw[show rr.getD 1 default=⟨[49],[56]⟩from W,WM,hs,ID]
def R2(b:fE)(a:b.d=5)(hs:b.s=10):iv 2 fJ.aa rr b=
 [⟨0,-1,9⟩,⟨-1,0,40⟩,⟨1,-1,7⟩,⟨-1,1,40⟩,⟨-1,-1,2+40⟩,⟨1,-1,2+b.g⟩,⟨-1,1,b.g-2⟩,⟨1,-1,9+2-b.c⟩,⟨-1,1,40+b.c-2⟩,⟨1,0,b.g+2-b.c⟩,⟨0,1,b.g-2+b.c⟩]:=by
 show([⟨0,-1,Px rr b 0⟩,⟨-1,0,40⟩,⟨1,-1,Px rr b 1⟩,⟨-1,1,40⟩]:List iV)++(ry 2 rr b gQ++[])=_;have hu:ry 2 rr b gQ=CU rr b gQ:=if_pos W;rw[hu];unfold CU;rw[XX b hs,XW b hs,Yr b a,in_1 b hs];rfl
def Nj:iv 2 fJ.aa rr pE=Xg:=(R2 pE W W).trans W
def UJ:iv 2 fJ.aa rr tR=YI:=(R2 tR W W).trans W
def xP:SV:=bh fJ
def xR:SV:=.bA false 2 default dX rr
def Ma(b:fE)(o:Bool):SV:=.agg [.i fJ.n,.bA false 5 default dQ fJ.aa,.ints .i64 false fJ.ints,.bA false 2 default dX rr,.i b.c,.i b.d,.i b.s,.i b.g,.ints .i64 o [9,7],.bA o 1 [] (SV.ints .i64 o) [[2,9]]]
def GI:rr.length<2^40:=fh
def QF(b:fE)(c:J9 b)(a:b.d=5)(hs:b.s=10):aM Tryz.prog 65 [xP,xR,dz b] (.bW [.box true<|Ma b true,.i 0]):=by have h:=F9 fJ nO rr yg GI b<|AN b c;rw[Ku b hs,Ld b a hs]at h;exact h
def Q5:aM Tryz.prog 16 [xP,xR,dz pE] (.bW [.ints .i64 false [9,7],.bA false 1 [] (SV.ints .i64 false) [[2,9]],.i 0]):=by have h:=OI fJ nO rr yg GI pE<|AN pE UZ;rw[Ku pE W,Ld pE W W]at h;exact h
def UH:aM Tryz.prog 58 [xP,xR,dz pE] (.bW [.bA true 3 default iU Xg,.i 0]):=by have h:=RZ fJ nO rr yg GI pE<|AN pE UZ;rw[show fJ.n.toNat=2 from W,Nj]at h;exact h
def wU(b:fE)(c:J9 b)(a:b.d=5)(hs:b.s=10):aM Tryz.prog 72 [.box false<|Ma b false] (.bW [.bA true 3 default iU<|iv 2 fJ.aa rr b,.i 2]):=by have v:=nm<|AN b c;have h:=qP fJ nO 2 W fh v.aa v.val rr b v.rg v.bn;rw[Ku b hs,Ld b a hs]at h;exact h
def hW:Tryz.prog.funcs.toList.all Ie=true:=aW
def ue(f:FuncId)(t:List SV->Option SV)(T:pW):pW:=λg a=>match Nat.beq g f with
 |true=>t a
 |false=>T g a
def ib{P:Program}{f:FuncId}{t:List SV->Option SV}{T:pW}(h:∀xs r,t xs=some r->aM P f xs r)(b:∀g xs r,T g xs=some r->aM P g xs r):∀g xs r,ue f t T g xs=some r->aM P g xs r:=by
 intro g xs r e;unfold ue at e;split at e
 ·rename_i a;rw[abZ a];exact h _ _ e
 simp_all
def LA:Nat->Nat->Nat->ck->ck
 |0,_,_,t=>t
 |m+1,n,k,t=>match eX (Nat.beq n 0) (Nat.beq k 0)with
  |true=>t
  |false=>LA m (n/10) (k-1)<|RU (n%10)::t
def GO:∀m n k t,n<10^m->k<=m->LA m n k t=decl n k++t
 |0,n,k,t,h,c=>by
  have f:n=0:=by simp at h;omega
  have d:k=0:=E;subst f;subst d;rw[dp];rfl
 |m+1,n,k,t,h,c=>by
  unfold LA;split
  ·rename_i e;rw[aO]at e;rw[abZ e.1,abZ e.2,dp];rfl
  rename_i e;have hn:¬(n=0/\k=0):=λ⟨a,b⟩=>by subst a;subst b;simp[eX]at e
  rw[GO m (n/10) (k-1) _ (by rw[acm]at h;omega) E,cC hn,abG];rfl
def WT:Int->ck
 |.ofNat n=>LA 30 n 1 []
 |.negSucc n=>45::LA 30 (n+1) 1 []
def MI{z:Int}(c: -(2^63)<=z)(b:z<=9223372036854775807):WT z=cK z:=by
 have a:(9223372036854775809:Nat)<10^30:=fh;unfold cK;cases z with
 |ofNat n=>have hn:=adT (by have:Int.ofNat n=(n:Int):=W;omega:n<9223372036854775809) a;show LA 30 n 1 []=_;rw[GO 30 n 1 [] hn fh,acj];rfl
 |negSucc n=>have hn:=adT (E:n+1<9223372036854775809) a;rw[if_pos E];show 45::LA 30 (n+1) 1 []=_;rw[GO 30 (n+1) 1 [] hn fh,acj];rfl
def XF(a b:Int):Bool:=match b-a with
 |.ofNat (_+1)=>true
 |_=>false
def AQ{a b:Int}(h:XF a b=true):a<b:=by
 unfold XF at h;split at h
 ·rename_i n e;have:b-a=((n:Int)+1):=e;omega
 cases h
def Lb:List SV->Option SV
 |[.n .u64<|.ofNat x,.n .u64<|.ofNat y,.n .u64<|.ofNat c]=>match Nat.ble c 1 with
  |true=>some (.bW [.n .u64<|.ofNat<|(x+y+c)%2^64,.n .u64<|.ofNat<|(x+y+c)/2^64])
  |false=>none
 |_=>none
def K8:List SV->Option SV
 |[.n .u64<|.ofNat x,.n .u64<|.ofNat y,.n .u64<|.ofNat c]=>match Nat.ble c 1 with
  |true=>some (.bW [.n .u64<|.ofNat<|(x+2^64-y-c)%2^64,.n .u64<|.ofNat<|match Nat.blt x (y+c)with|true=>1|false=>0])
  |false=>none
 |_=>none
def K9:List SV->Option SV
 |[.n .u64<|.ofNat x,.n .u64<|.ofNat y]=>match eX (Nat.blt x (2^64)) (Nat.blt y (2^64))with
  |true=>some (.bW [.n .u64<|.ofNat<|x*y/2^64,.n .u64<|.ofNat<|x*y%2^64])
  |false=>none
 |_=>none
def La:List SV->Option SV
 |[.s s,.n .u8<|.ofNat c]=>match Nat.beq c 47 with
  |true=>some (.i<|P5 s)
  |false=>none
 |_=>none
def Rb:List SV->Option SV
 |[.n .i64 z]=>match eX (XF (-9223372036854775809) z) (XF z (2^63))with
  |true=>some (.s<|WT z)
  |false=>none
 |_=>none
def Q9:List SV->Option SV
 |[.agg [.n .i64 z,.nil]]=>match eX (XF (-9223372036854775809) z) (XF z (2^63))with
  |true=>some (.s<|WT z)
  |false=>none
 |_=>none
def UD:ck->Bool
 |[]=>true
 |c::s=>match eX (Nat.ble 48 c.toNat) (Nat.ble c.toNat 57)with
  |true=>UD s
  |false=>false
def Jz:∀{s:ck},UD s=true->dh s
 |[],_=>λc hc=>by cases hc
 |c::s,h=>by
  unfold UD at h;split at h
  ·rename_i e;rw[aO]at e;intro x a;rcases abz.1 a with rfl|a
   ·simp_all
   exact Jz h x a
  cases h
def Re:List SV->Option SV
 |[.s<|c::s]=>match eX (UD<|c::s) (Nat.ble (len s) 17)with
  |true=>some (.bW [.n .i64<|.ofNat<|cJ<|c::s,.c .nilIface])
  |false=>none
 |_=>none
def WR:List SV->Option SV
 |[.ints .i64 false [x],.n .i64<|.ofNat n]=>match eX (Nat.ble 1 n) (Nat.blt n 1048576)with
  |true=>some (.ints .i64 true<|List.replicate n x)
  |false=>none
 |_=>none
def ON(xs:List SV)(r:SV)(h:Lb xs=some r):aM Tryz.prog 287 xs r:=by
 unfold Lb at h;split at h
 ·split at h
  ·rename_i x y c _ e;cases h;exact fA x y c<|ab6 e
  cases h
 cases h
def OK(xs:List SV)(r:SV)(h:K8 xs=some r):aM Tryz.prog 289 xs r:=by
 unfold K8 at h;split at h
 ·split at h
  ·rename_i x y c _ e;cases h;have hh:=pd x y c<|ab6 e;have b:(match Nat.blt x (y+c)with|true=>1|false=>0)=if x<y+c then 1 else 0:=by
    by_cases g:x<y+c
    ·rw[if_pos g];have:Nat.blt x (y+c)=true:=Nat.ble_eq_true_of_le g;rw[this]
    rw[if_neg g];have:Nat.blt x (y+c)=false:=by
     cases a:Nat.blt x (y+c)with
     |false=>rfl
     |true=>exact absurd (ab6 a) g
    rw[this]
   rw[b];exact hh
  cases h
 cases h
def OL(xs:List SV)(r:SV)(h:K9 xs=some r):aM Tryz.prog 233 xs r:=by
 unfold K9 at h;split at h
 ·split at h
  ·rename_i x y _ e;cases h;rw[aO]at e;exact kg x y (ab6 e.1)<|ab6 e.2
  cases h
 cases h
def OM(xs:List SV)(r:SV)(h:La xs=some r):aM Tryz.prog 346 xs r:=by
 unfold La at h;split at h
 ·split at h
  ·rename_i s c _ e;cases h;rw[abZ e];exact Ca s
  cases h
 cases h
def Ra(xs:List SV)(r:SV)(h:Rb xs=some r):aM Tryz.prog 302 xs r:=by
 unfold Rb at h;split at h
 ·split at h
  ·rename_i z _ e;cases h;rw[aO]at e;have b:=AQ e.1;have a:=AQ e.2;rw[MI E E];exact Rg z E E
  cases h
 cases h
def Q8(xs:List SV)(r:SV)(h:Q9 xs=some r):aM Tryz.prog 265 xs r:=by
 unfold Q9 at h;split at h
 ·split at h
  ·rename_i z _ e;cases h;rw[aO]at e;have b:=AQ e.1;have a:=AQ e.2;rw[MI E E];refine bS Tryz.func265 W<|bP W W (Rg z E E) W<|bN W W
  cases h
 cases h
def Rc(xs:List SV)(r:SV)(h:Re xs=some r):aM Tryz.prog 254 xs r:=by
 unfold Re at h;split at h
 ·split at h
  ·rename_i c s _ e;cases h;rw[aO]at e;have hl:=ab6 e.2;rw[fH]at hl;exact Sq (c::s) (Jz e.1) I (by simp;omega)
  cases h
 cases h
def Uf(xs:List SV)(r:SV)(h:WR xs=some r):aM Tryz.prog 64 xs r:=by
 unfold WR at h;split at h
 ·split at h
  ·rename_i x n _ e;cases h;rw[aO]at e;exact po x n (ab6 e.1)<|ab6 e.2
  cases h
 cases h
def T0:pW:=ue 287 Lb<|ue 289 K8<|ue 233 K9<|ue 346 La<|ue 302 Rb<|ue 265 Q9<|ue 254 Re<|ue 64 WR λ_ _=>none
def gU:∀g xs r,T0 g xs=some r->aM Tryz.prog g xs r:=ib ON<|ib OK<|ib OL<|ib OM<|ib Ra<|ib Q8<|ib Rc<|ib Uf λ_ _ _ h=>by cases h
def iA{T:pW}(a:∀g xs r,T g xs=some r->aM Tryz.prog g xs r){B:List Nat}{g:FuncId}{xs:List SV}{r:SV}(h:Th (exec Tryz.prog tt T B 100000) Tryz.prog tt T g xs=some r):aM Tryz.prog g xs r:=Bc hA hW a (qL hA hm hW a 100000) h
def xv:SV:=.agg [.i 1,.nil,.i 2,.nil,.i 4,.nil,.i 8,.nil,.i 16,.nil,.i 32,.nil,.i 64,.nil,.i 128,.nil,.i 256,.nil,.i 512,.nil,.i 1024,.nil,.i 2048,.nil,.i 4096,.nil,.i 8192,.nil,.i 16384,.nil,.i 32768,.nil,.i 65536,.nil,.i 131072,.nil,.i 262144,.nil,.i 524288,.nil,.i 1048576,.nil,.i 2097152,.nil,.i 4194304,.nil,.i 8388608,.nil,.i 16777216,.nil,.i 33554432,.nil,.i 67108864,.nil,.i 134217728,.nil,.i 268435456,.nil,.i 536870912,.nil,.i 1073741824,.nil,.i 2147483648,.nil,.i (2^32),.nil,.i 8589934592,.nil,.i 17179869184,.nil,.i 34359738368,.nil,.i 68719476736,.nil,.i 137438953472,.nil,.i 274877906944,.nil,.i 549755813888,.nil,.i 1099511627776,.nil,.i 2199023255552,.nil,.i 4398046511104,.nil,.i 8796093022208,.nil,.i 17592186044416,.nil,.i 35184372088832,.nil,.i 70368744177664,.nil,.i 140737488355328,.nil,.i 281474976710656,.nil,.i 562949953421312,.nil,.i 1125899906842624,.nil,.i 2251799813685248,.nil,.i 4503599627370496,.nil,.i 9007199254740992,.nil,.i 18014398509481984,.nil,.i 36028797018963968,.nil,.i 72057594037927936,.nil,.i 144115188075855872,.nil,.i 288230376151711744,.nil,.i 576460752303423488,.nil,.i 1152921504606846976,.nil,.i 2305843009213693952,.nil,.i 4611686018427387904,.nil,.i 1,.ints .u64 false [2^63],.i 1,.ints .u64 false [0,1],.i 1,.ints .u64 false [0,2],.i 1,.ints .u64 false [0,4],.i 1,.ints .u64 false [0,8],.i 1,.ints .u64 false [0,16],.i 1,.ints .u64 false [0,32],.i 1,.ints .u64 false [0,64],.i 1,.ints .u64 false [0,128],.i 1,.ints .u64 false [0,256],.i 1,.ints .u64 false [0,512],.i 1,.ints .u64 false [0,1024],.i 1,.ints .u64 false [0,2048],.i 1,.ints .u64 false [0,4096],.i 1,.ints .u64 false [0,8192],.i 1,.ints .u64 false [0,16384],.i 1,.ints .u64 false [0,32768],.i 1,.ints .u64 false [0,65536]]
def Fz:aM Tryz.prog 95 [] xv:=iA gU (B:=[]) aW
def Yy(x:List It×aU)(rs:List ResultVar):Option SV:=match x.1 with
 |[]=>match iB tt x.2 rs with
  |some a=>some (vK a)
  |none=>none
 |_::_=>none
def RP{N:Nat}{R:Option Nat->Prop}{k:List It}{l:aU}{T:pW}(c:∀g xs r,T g xs=some r->aM Tryz.prog g xs r){B:List Nat}{rs:List ResultVar}{r:SV}(h:Yy (exec Tryz.prog tt T B 100000 N k l) rs=some r):AK R Tryz.prog N (Pu Tryz.prog rs r) k l:=by
 refine qL (B:=B) hA hm hW c 100000 N R _ k l ?_;unfold Yy at h;generalize exec Tryz.prog tt T B 100000 N k l=x at h;obtain⟨a,d⟩:=x;cases a with
 |cons i a=>cases h
 |nil=>
  simp only at h;split at h
  ·rename_i xs b;simp at h;exact aE b<|ar.of_eq h
  cases h
def xS:SV:=.agg [.ints .i64 false [9,6],.row false 1 [.ints .i64 false [2,7]]]
def xU(c:SV):SV:=.agg [.s bq,.row false 2 [.agg [.i 1,.s [49]],.agg [.i 0,.s [49]]],.i 1,.s [49],c]
def ZR(c:SV):SV:=.agg [.i 2,.row false 5 [xU c],.ints .i64 false [1]]
def xQ:SV:=ZR<|.strs false []
def xN:SV:=ZR .nil
def Ft:aM Tryz.prog 116 [xQ,xS] (.fn (.func 196) [] [.box false xQ,.box false xS]):=by
 refine bS Tryz.func116 W<|cx 1 [(2,.box true xQ),(3,.box true xS)] True ?_ λ_=>?_
 ·refine bL W U ⟨G,G,U⟩
 refine oN (r:=2) (p:=[]) W W U<|oN (r:=3) (p:=[]) W W U<|bN W W
def xV:Nat->SV
 |0=>.agg [.i 0,.i 0,.i 2,.i 6]
 |_=>.agg [.i 0,.i 1,.i 7,.i 9]
def A6(C:Value->Prop)(J:Nat->tD)(b:∀v,C v->∀k,k<2->Yields Tryz.prog (J k) (J<|k+1) (aB [xV k]) true v):
 lp Tryz.prog 196 [.abs<|J 0] [.pv C,.box false xQ,.box false xS] [.abs<|J 2] (.bW []):=by
 refine sE (fn:=Tryz.f196) Tryz.func196 W W W W W<|r0 W<|gR<|bQ W W (λ_=>?_) λg=>absurd fh g;refine r1 W (aP W)<|gR<|bQ W W (λ_=>?_) λg=>absurd fh g;refine r1 W (aP W)<|PD W W U (λv a=>b v a 0 fh) W<|k0 W aW<|ni W W W (λg=>absurd g fh) λ_=>?_;refine r1 W (aP W)<|gR<|bQ W W (λ_=>?_) λg=>absurd fh g;refine r1 W (aP W)<|PD W W U (λv a=>b v a 1 fh) W<|k0 W aW<|ni W W W (λg=>absurd g fh) λ_=>?_;refine r1 W (aP W)<|gR<|bQ W W (λg=>absurd g fh) λ_=>?_;refine r1 W (aP W)<|gR<|bQ W W (λg=>absurd g fh) λ_=>?_;refine r0 W<|SN [(1000000,.abs<|J 2)] ⟨W,U⟩ W U ⟨G,U⟩
def fq(n d:Int):SV:=.agg [.i n,.nil,.i d,.nil]
def Vs:aM Tryz.prog 96 [xv,.i<|-4] (fq 1 16):=iA gU (B:=[]) aW
def Vt:aM Tryz.prog 96 [xv,.i<|-2] (fq 1 4):=iA gU (B:=[]) aW
def Rz:aM Tryz.prog 97 [.s [49]] (fq 1 1):=iA gU (B:=[]) aW
def WI:aM Tryz.prog 98 [fq 1 16,fq 1 1] (fq 1 16):=iA gU (B:=[]) aW
def Yg:aM Tryz.prog 98 [fq 1 4,fq 1 1] (fq 1 4):=iA gU (B:=[]) aW
def gY:Nat->SV
 |0=>.row true 1 [.nil]
 |1=>.row true 1 [.row true 4 [fq 1 16]]
 |_=>.row true 1 [.row true 4 [fq 1 16,fq 1 4]]
def Uo:aM Tryz.prog 91 [xQ,xS] (.row false 1 [.row false 4 [fq 1 16,fq 1 4]]):=by
 refine bS Tryz.func91 W<|bP W W Fz W<|r1 W (aP W)<|bG W Ft W<|r0 W<|Bv [2,5,6] [2,5,6] 2 2 (λk=>[xV k]) (λk=>[.box true xQ,.box true xv,.box true<|gY k]) (λ_=>true) (λ_=>none) (.bW [])
  rfl W W W W Tryz.func196 W W W W W W (λ_ _=>rfl) (λ_=>rfl) ?_ W W (λk _ h=>rfl) (λC J d=>A6 C J λv e k a=>d v e k a λ_ _=>rfl) ?_ ?_ ?_
 ·intro k a z b;simp only[abz,acG,or_false]at b;rcases b with rfl|rfl|rfl
  ·rfl
  ·rfl
  match k,a with
  |0,_=>rfl
  |1,_=>rfl
 ·intro k a _
  match k,a with
  |0,_=>refine r0 W<|rH<|r1 W (aP W)<|bH W Vs W<|r1 W (aP W)<|bH W Rz W<|bO W W WI W<|k1 W aW (aP W)<|zA [(1000000,.box true xQ),(1000001,.box true xv),(1000002,.box true<|gY 1)] W W ⟨⟨W,W,.refl _⟩,⟨W,W,.refl _⟩,⟨W,W,.refl _⟩,U⟩ ⟨G,G,G,U⟩
  |1,_=>refine r0 W<|rH<|r1 W (aP W)<|bH W Vt W<|r1 W (aP W)<|bH W Rz W<|bO W W Yg W<|k1 W aW (aP W)<|zA [(1000000,.box true xQ),(1000001,.box true xv),(1000002,.box true<|gY 2)] W W ⟨⟨W,W,.refl _⟩,⟨W,W,.refl _⟩,⟨W,W,.refl _⟩,U⟩ ⟨G,G,G,U⟩
 ·intro _;refine bN W W
 intro c f;simp at f
def Z8:SV:=.row false 3 (YI.map iU)
def wT:aM Tryz.prog 72 [.box false<|Ma tR false] (.bW [Z8,.i 2]):=by have h:=wU tR Xo W W;rw[UJ]at h;exact h.shr.same W W
def N8:aM Tryz.prog 23 [xQ,xR,dz tR,.ints .i64 false [7,6]] (.i 0):=by refine bS Tryz.func23 W<|bP W W ((QF tR Xo W W).same W W) W<|bQ W W (λg=>absurd W g) λ_=>?_;refine bP W W (wT.same W W) W<|Qr 7 W U<|oN (r:=11) (p:=[]) W W U<|RP gU (B:=[]) aW
def Ml:aM Tryz.prog 94 [xQ,xS] (.i 0):=iA gU (B:=[]) aW
def zW:aM Tryz.prog 115 [xQ,xS,dz pE] (.b false):=iA gU (B:=[]) aW
def Wy:aM Tryz.prog 145 [.i<|-4,.i<|-4,.i 4] (.b false):=(xK _ _ _).same W W
def Wz:aM Tryz.prog 145 [.i<|-2,.i<|-4,.i 4] (.b false):=(xK _ _ _).same W W
def UP:aM Tryz.prog 66 [.box false<|Ma pE false,xS] (.i 0):=by
 refine bS Tryz.func66 W<|bO W W (Ml.same W W) W<|k0 W aW<|gg W (λg=>absurd W g) λ_=>?_;refine r0 W<|gR<|bQ W W (λ_=>?_) λg=>absurd fh g;refine r1 W (aP W)<|gg W (λg=>absurd g fh) λ_=>?_;refine r1 W (aP W)<|gR<|bQ W W (λ_=>?_) λg=>absurd fh g;refine r1 W (aP W)<|gg W (λg=>absurd g fh) λ_=>?_;refine r1 W (aP W)<|gR<|bQ W W (λg=>absurd g fh) λ_=>?_;refine bO W W (Ft.same W W) W<|k0 W aW<|Bv [2,8] [2,8] 2 2 (λk=>[xV k]) (λ_=>[.box true<|.box false<|Ma pE false,.box true<|.b false]) (λ_=>true) (λ_=>none) (.bW [])
  rfl W W W W Tryz.func196 W W W W W W (λ_ _=>rfl) (λ_=>rfl) ?_ W W (λk _ h=>rfl) (λC J d=>A6 C J λv e k a=>d v e k a λ_ _=>rfl) ?_ ?_ ?_
 ·intro k a z b;simp only[abz,acG,or_false]at b;rcases b with rfl|rfl<;>rfl
 ·intro k a _
  match k,a with
  |0,_=>refine r0 W<|rH<|k1 W aW (aP W)<|gg W (λg=>absurd g fh) λ_=>?_;refine r1 W (aP W)<|bH W Wy W<|k1 W aW (aP W)<|zA [(1000000,.box true<|.box false<|Ma pE false),(1000001,.box true<|.b false)] W W ⟨⟨W,W,.refl _⟩,⟨W,W,.refl _⟩,U⟩ ⟨G,G,U⟩
  |1,_=>refine r0 W<|rH<|k1 W aW (aP W)<|gg W (λg=>absurd g fh) λ_=>?_;refine r1 W (aP W)<|bH W Wz W<|k1 W aW (aP W)<|zA [(1000000,.box true<|.box false<|Ma pE false),(1000001,.box true<|.b false)] W W ⟨⟨W,W,.refl _⟩,⟨W,W,.refl _⟩,U⟩ ⟨G,G,U⟩
 ·intro _;refine bO W W (zW.same W W) W<|RP gU (B:=[]) aW
 intro c f;simp at f
end Go.Ai.Pg
namespace Go.Ai
open Go.Proofs Go.RowKit
def Pc{P:Program}{w:World}{f:FuncId}{fn:Func}{b:Array Value}{R:Value->World->Prop}(m:P.funcs[f]?=some fn)(j:fn.body.isNone=false)(hn:(fn.name== "runtime.NumGoroutine")=false)
 (h:vh P f b w R):Calls P f b w λe w'=>∃v,e=.returned v/\R v w':=by
 have a:(callFunc f b).run P w=.ok (.enter f b) w:=by
  have c:¬fn.name= "runtime.NumGoroutine":=by simpa using hn
  have d:¬fn.body=none:=by intro h;rw[h]at j;cases j
  unfold callFunc;simp[m,d,c]
 have k:=h none {dst:=some 0,op:=.move<|.const<|.bool true,type:=0,pos:= "",after:=#[],guard:=none} {tmps:=#[undef],defers:=[]} (λp w'=>∃v,p.tmps=#[v]/\R v w') (λ_ _ _=>False) λv w' i=>⟨v,by simp[Act.put],i⟩;rw[a]at k;have n:=callsIn_wide.1 k.2;refine n.mono λe w' he=>?_;cases e with
 |returned v=>
  obtain⟨l,o,i⟩:=he;have q:v=l:=by simpa[Act.put]using o
  simp_all
 |panicked g=>exact he.elim
 |outgrown=>exact absurd he (by simp[LetsOut])
def aM.tW{P:Program}{f:FuncId}{xs ys:List SV}{r:SV}(h:aM P f ys r)(hl:o6 xs ys):aM P f xs r:=by intro w S a j i hc;obtain⟨n,m,d,c⟩:=hl.cells hc;have e:=List.nil_perm.1 d;have l:=(ad2.1 e).1;have k:=(ad2.1 e).2;subst l;subst k;exact h w S a j i<|c S (λ_ h=>h) λb g=>by cases g
end Go.Ai
namespace Go.Ai.Pg
open Go.Proofs Go.Ai Go.Ai.eE
def Gh:Ah xN (bh fJ):=
 .agg (.cons (.refl _)<|.cons (.row (d:=default) (e:=dQ) (ys:=[gQ])<|.cons (.agg<|.cons (.refl _)<|.cons (.row (d:=default) (e:=oX) (ys:=gQ.ah)<|.cons (.refl _)<|.cons (.refl _) .nil)<|.cons (.refl _)<|.cons (.refl _)<|.cons (.le W) .nil) .nil)<|.cons (.refl _) .nil)
def Za:SV:=.row false 3 (Xg.map iU)
def GP:aM Tryz.prog 72 [.box false<|Ma pE false] (.bW [Za,.i 2]):=by have h:=wU pE UZ W W;rw[Nj]at h;exact h.shr.same W W
def QD:aM Tryz.prog 107 [xN] (.i 0):=by have h:=zX fJ nO;rw[zr]at h;exact h.tW<|.cons Gh .nil
def QG(b:fE)(c:J9 b)(a:b.d=5)(hs:b.s=10):aM Tryz.prog 65 [xN,xR,dz b] (.bW [.box true<|Ma b true,.i 0]):=(QF b c a hs).tW<|.cons Gh<|.cons (.refl _)<|.cons (.refl _) .nil
def IC:aM Tryz.prog 16 [xN,xR,dz pE] (.bW [.ints .i64 false [9,7],.row false 1 [.ints .i64 false [2,9]],.i 0]):=(Q5.tW<|.cons Gh<|.cons (.refl _)<|.cons (.refl _) .nil).same W W
def Ni:aM Tryz.prog 58 [xN,xR,dz pE] (.bW [Za,.i 0]):=((UH.tW<|.cons Gh<|.cons (.refl _)<|.cons (.refl _) .nil).shr).same W W
def Up:aM Tryz.prog 91 [xN,xS] (.row false 1 [.row false 4 [fq 1 16,fq 1 4]]):=(Uo.same (bs:=[bh fJ,xS]) W W).tW<|.cons Gh<|.cons (.refl _) .nil
def N9:aM Tryz.prog 23 [xN,xR,dz tR,.ints .i64 false [7,6]] (.i 0):=(N8.same (bs:=[bh fJ,xR,dz tR,.ints .i64 false [7,6]]) W W).tW<|.cons Gh<|.cons (.refl _)<|.cons (.refl _)<|.cons (.refl _) .nil
def rk(f:FuncId)(xs:List SV)(r:SV):yK:=(f,xs,r)
def L1:List yK:=[rk 95 [] xv,rk 107 [xN]<|.i 0,rk 65 [xN,xR,dz pE]<|.bW [.box true<|Ma pE true,.i 0],rk 65 [xN,xR,dz tR]<|.bW [.box true<|Ma tR true,.i 0],rk 72 [.box false<|Ma pE false]<|.bW [Za,.i 2],rk 72 [.box false<|Ma tR false]<|.bW [Z8,.i 2],
 rk 66 [.box false<|Ma pE false,xS] (.i 0),rk 91 [xN,xS]<|.row false 1 [.row false 4 [fq 1 16,fq 1 4]]]
def T1:pW:=Zs (BX L1) T0
def YW:Vf Tryz.prog L1:=⟨Fz,QD,QG pE UZ W W,QG tR Xo W W,GP,wT,UP,Up,U⟩
def Fq:∀g xs r,T1 g xs=some r->aM Tryz.prog g xs r:=Ok (λ_ _ _ h=>oC YW h) gU
end Go.Ai.Pg
section
namespace Go.Ai
open Go.Proofs Go.RowKit
variable{P:Program}{w:World}{S:Nat->Prop}
section
variable{o:Oper}{a:Operand}{t:TypeId}
def Fh{args H:List AV}(d:args.length=1)(c:H.length=1){i:Nat}(a:i≠0)(b:i≠1000000):both args H i=⟨.dead,0,0⟩:=by
 by_cases h:i<1000000
 ·rw[gM h,aci E]
 obtain⟨k,rfl⟩:∃k,i=1000000+k:=⟨i-1000000,E⟩;rw[fT E,aci E]
def OH{y:AV}{ti:TI}(v:o.op=.load t a)(p:cu P t=some ti)(j:fits ti y=true):
 SI P o [.box true y] [.bC 1000000 0 0 []] [.box true<|ir y] y:=by
 intro w S V s F hl hc r f;obtain⟨x0,rfl⟩:∃x0,s=[x0]:=by
  match s,hl with
  |[x0],_=>exact⟨x0,W⟩
 have d:=fT (args:=[.bC 1000000 0 0 []]) (H:=[.box true y]) I 0;simp[aeO]at d;have Y:x0=V.v 1000000:=xr (i:=0) E hc W;have A:bg V [x0] 1000000=V.v 1000000:=by unfold bg;rw[if_neg E]
 obtain⟨L,z,F1,Z,k1,k2,k3,c,T,R⟩:=hc.take 1000000 0 [.deref] (y:=y) (av':=.box true<|ir y) E (by rw[d];rfl) (by rw[d];rfl) (by rw[d];rfl);have u:=hc.rel 1000000;rw[an.aA<|by rw[d];rfl,A]at u;obtain⟨b,cs,fz,F2,z2,B,-⟩:=u;rw[A,B]at k1;simp[loc,step1,cm]at k1;subst k1;have Q:r a=.pointer (some ⟨b,0,none⟩):=by
  have X:o.op.operands.toList=[a]:=by rw[v];rfl
  rw[X]at f;simp[and_true]at f;rw[f,Y,B]
 have g:(Instr.loadAt t<|r a).run P w=.ok z w:=by simp[Q,Result.andThen_ok];exact kK p k2<|kW j k3
 have n:bg V [z] 0=z:=by unfold bg;rw[if_pos E];rfl
 have K:bg V [z] 1000000=V.v 1000000:=by unfold bg;rw[if_neg E]
 have l:both [y] [.box true<|ir y] 0=⟨y,0,0⟩:=by rw[gM E];rfl
 have M:=fT (args:=[y]) (H:=[.box true<|ir y]) I 0;refine⟨.value z,z,w,by simp[execOp,v,g],.inl W,S,Z,⟨W,W,W,abq _,λ_ _ _=>rfl⟩,λ_ h=>h,λ_ h=>.inl h,?_⟩;refine⟨λi=>?_,c.nodup,c.du,λi b N=>?_,c.shr⟩
 ·by_cases e:i=0
  ·subst e;have:=c.rel 0;rw[an.aA<|by rw[aH];exact k3.plain]at this;rw[an.aA<|by rw[l];exact k3.plain,l,n];simpa[aH]using this
  by_cases m:i=1000000
  ·subst m;have:=c.rel 1000000;have q:(1000000:Nat)≠0:=E;have O:(iI (iI (both [.bC 1000000 0 0 []] [.box true y]) 1000000 (ju (both [.bC 1000000 0 0 []] [.box true y] 1000000) [.deref]<|.box true<|ir y)) 0 ⟨y,((both [.bC 1000000 0 0 []] [.box true y]) 0).g1+1,((both [.bC 1000000 0 0 []] [.box true y]) 0).g2⟩ 1000000).av=.box true (ir y):=by
    rw[ao _ _ q,aH,xt]
   exact this
  have:=c.rel i;have x:=Fh (args:=[.bC 1000000 0 0 []]) (H:=[.box true y]) W W e m;have k:=Fh (args:=[y]) (H:=[.box true<|ir y]) W W e m;rw[an.aA<|by rw[ao _ _ e,ao _ _ m,x];rfl,ao _ _ e,ao _ _ m,x]at this;rw[an.aA<|by rw[k];rfl,k];exact this
 obtain⟨J,D,C⟩:=c.own i b N;exact⟨.inr J,D,C⟩
def Yk{y:SV}{ti:xk}(d:o.op=.load t a)(c:cu P t=some ti.den)(b:my ti y=true)(hc:y.den.cell=false):mE P o [.box true y] [.bC 1000000 0 0 []] [.box true .dead] y:=by
 have h:=OH (P:=P) (y:=y.den) d c (by rw[je];exact b);have e:ir y.den=.dead:=by unfold ir;rw[hc];rfl
 rw[e]at h;exact h
end
end Go.Ai
end
namespace Go.Ai.Pg
open Go.Proofs Go.Ai Go.Ai.eE
def Z0{R:Option Nat->Prop}{N:Nat}{F:St->Prop}{k:List It}{l:aU}{c:List It}{b:aU}(m:Nat){a:List Pd}{qs:List Bool}(h:run tt [] N m k l [] []=(a,qs,c,b))(d:Go.Ai.Pa qs=true)(e:ag a)(f:AK R Tryz.prog N F c b):AK R Tryz.prog N F k l:=(nj hA hm h e d).2.2 f
def Z2(o:Bool):SV:=.row o 2 [.agg [.i 1,.s [49]],.agg [.i 0,.s [49]]]
def UM:aM Tryz.prog 63 [.ints .i64 false [1]] (.ints .i64 true [1]):=iA gU (B:=[]) aW
def UN:aM Tryz.prog 192 [Z2 false] (Z2 true):=iA gU (B:=[]) aW
def UL:aM Tryz.prog 193 [.nil] .nil:=iA gU (B:=[]) aW
def XZ(a b c:ck):SV:=.agg [.i 2,.row true 5 [.agg [.s bq,.row true 2 [.agg [.i 1,.s a],.agg [.i 0,.s b]],.i 1,.s c,.nil]],.ints .i64 true [1],.i 0]
def xU1:SV:=.agg [.s bq,.row true 2 [.agg [.i 1,.s [49]],.agg [.i 0,.s [49]]],.i 1,.s [49],.nil]
def tiU:xk:=match Fw tt 50 with|some t=>t|none=>⟨false,0,0,.dead⟩
def RX:aM Tryz.prog 110 [xN] (.box true<|XZ [49] [49] [49]):=by refine bS Tryz.func110 W<|bO W W UM W<|k0 W aW<|gR<|bQ W W (λ_=>?_) λg=>absurd fh g;refine r1 W (aP W)<|bH W UN W<|bO W W UL W<|Z0 12 W aW U<|Y9 W W W (mE.same (Yk (P:=Tryz.prog) (y:=xU1) (ti:=tiU) W W W W) W W W W) W<|RP gU (B:=[]) aW
end Go.Ai.Pg
