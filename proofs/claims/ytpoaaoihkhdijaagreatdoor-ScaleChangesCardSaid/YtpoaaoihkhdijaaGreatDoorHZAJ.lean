/- Parts of the proof of ScaleChanges (as AIM.md's row tells), at every input, with no further conditions. -/
import Derived.Test.YtpoaaoihkhdijaaGreatDoorHZAI
set_option linter.all false
set_option maxRecDepth 100000
set_option maxHeartbeats 0
namespace Go.Ai
open Go.Proofs Go.RowKit
def Lg{t:hO}{c:UInt8}(h:t≠[]):(t++[c]).getD 0 0=t.getD 0 0:=wz<|agy.2 h
def E6:∀(n:Nat)(s:hO),s.length=n->dh s->0<s.length->(1<s.length->(s.getD 0 0).toNat≠48)->decl (cJ s) 1=s/\((s.getD 0 0).toNat≠48->0<cJ s)
 |0,s,h,_,j,_=>E
 |n+1,s,h,k,j,m=>by
  obtain⟨t,c,rfl⟩:∃t c,s=t++[c]:=by
   have:=List.dropLast_concat_getLast (l:=s)<|agy.1 j
   grind
  have hc:=k c I;have d:RU (c.toNat-48)=c:=by apply ahg.1;rw[yu E];omega
  rw[tc];by_cases i:t=[]
  ·subst i;have e:cJ []=0:=W;rw[e];constructor
   ·rw[cC E,show(10*0+(c.toNat-48))/10=0 from E,show(10*0+(c.toNat-48))%10=c.toNat-48 from E,d];rw[dp]
   grind
  have g:=agy.2 i;have b:=m (by simp;omega);rw[Lg i]at b;obtain⟨f,a⟩:=E6 n t (by simpa using h) (λx o=>k x<|by simp[o]) g λ_=>b;have a:=a b;constructor
  ·rw[cC E,show(10*cJ t+(c.toNat-48))/10=cJ t from E,show(10*cJ t+(c.toNat-48))%10=c.toNat-48 from E,d];rw[JC a,f]
  intro _;omega
def CJ{s:hO}(h:fY s=true):decl (cJ s) 1=s:=by have a:=ny h;refine(E6 _ s W a.1 a.2 λc b=>?_).1;unfold fY at h;simp_all
def Fk(s:hO):s=(if isNeg s then[45]else[])++bz s:=by
 unfold bz;by_cases h:isNeg s=true
 ·rw[h];have a:=of_decide_eq_true h
  match s,a with
  |c::t,a=>have:c=45:=ahg.1 a.2;subst this;rfl
 simp_all
def HJ{b:hO}(h:aw b<b.length):b=b.take (aw b)++47::b.drop (aw b+1):=by
 have a:=xA h;have e:b.getD (aw b) 0=b[aw b]:=eW;rw[e]at a
 conv=>lhs;rw[<-agE (aw b) b,aeE h,a]
def Dc(q:Rat)(n:Nat):Prop:=(decl q.num.natAbs 1).length<=n/\(decl q.den 1).length<=n
def vc{s:hO}(h:aL s=0):∃q:Rat,s=qt q/\Dc q 600:=by
 unfold aL at h;split at h<;>try(cases h)
 rename_i y;split at h<;>try(cases h)
 rename_i x;split at h<;>try(cases h)
 split at h<;>try(cases h)
 rename_i w;have A:=pf<|bz s;simp only[iw,adD,af9]at y;obtain⟨v,i⟩:=y;have hu:=CJ v;have l:((bz s).take<|aw<|bz s).length<=600:=eW;generalize m:cJ ((bz s).take<|aw<|bz s)=a at hu;have e:isNeg s=true->a≠0:=by intro hn j;rw[hn,afa]at i;have:=of_decide_eq_false i;rw[<-hu,j]at this;exact this (by simp[cC,dp];rfl)
 have d:∀b:Nat,b≠0->Nat.gcd a b=1->bz s=decl a 1++fk b->(decl b 1).length<=600->∃q:Rat,s=qt q/\Dc q 600:=by
  intro b B p f o;have g:(AG (isNeg s) (a:Int)).natAbs.Coprime b:=by rw[lO];exact p
  refine⟨⟨AG (isNeg s) (a:Int),b,B,g⟩,?_,?_,o⟩
  ·conv=>lhs;rw[Fk s,f]
   unfold qt uI cK;dsimp only;rw[lO];by_cases hn:isNeg s=true
   ·have:=e hn;rw[if_pos hn,if_pos<|by rw[hn];simp[AG];omega];rfl
   simp[Bool.not_eq_true]at hn;rw[if_neg<|by rw[hn];simp,if_neg<|by rw[hn];simp[AG]];rfl
  show(decl (AG (isNeg s) (a:Int)).natAbs 1).length<=600;rw[lO,hu];exact l
 by_cases n:aw (bz s)<(bz s).length
 ·simp only[jB,decide_eq_true n,aid,ahx,adD,af9]at x;obtain⟨⟨u,t⟩,r⟩:=x;have c:=CJ u;have k:((bz s).drop<|aw (bz s)+1).length<=600:=by grind
  simp[oY,decide_eq_true n,aid,ahx,decide_eq_true_eq,m]at w;generalize z:cJ ((bz s).drop<|aw (bz s)+1)=b at c w;have D:b≠0:=by intro j;rw[j]at c;exact of_decide_eq_false t (by rw[<-c];simp[cC,dp];rfl)
  have C:b≠1:=by intro j;rw[j]at c;exact of_decide_eq_false r (by rw[<-c];simp[cC,dp];rfl)
  refine d b D w ?_ (by rw[c];exact k)
  conv=>lhs;rw[HJ n]
  rw[hu,nF C,c]
 refine d 1 fh I ?_ (by simp[cC,dp]);rw[hu];have:aw (bz s)=(bz s).length:=E;rw[this,afA];simp[fk]
def qO{n k:Nat}(h:(decl n 1).length<=9*k):(ae n).length<=k:=by
 have b:=wQ h;rcases gw n with g|g
 ·rw[g];simp
 rcases aeQ k (ae n).length with a|a
 ·rw[vS]at g;have:=ae2 (show 0<10 from fh) (show 9*k<=9*((ae n).length-1)from E);omega
 exact a
def Dc.sz{q:Rat}(h:Dc q 600):Sz q 67:=⟨qO (k:=67) (by have:=h.1;omega),qO (k:=67) (by have:=h.2;omega)⟩
section
variable{i:Nat}{s:hO}{α:Type}{l:List α}
def aK{α:Type}(f:α->Int):List α->Int
 |[]=>0
 |x::l=>if f x≠0 then f x else aK f l
def dA[Inhabited α](f:α->Int)(h:i<l.length):aK f (l.drop i)=if f (l[i])≠0 then f (l[i])else aK f (l.drop<|i+1):=by rw[aeE h];rfl
def au{d:α}(h:i<l.length):l.getD i d=l[i]:=eW
def ct(s:hO):Prop:=s.length<2^45
def CX(xs:List hO)(e:∀s∈xs,ct s)(hl:xs.length<2^60):aM Tryz.prog 176 [.strs false xs] (.i<|aK aL xs):=by
 refine bS Tryz.func176 W<|r0 W<|ra (λi:Nat=>[(0,.strs false xs),(3,.i i)]) (λi=>i<=xs.length/\aK aL xs=aK aL (xs.drop i)) (λi=>xs.length-i) 0 ⟨adk _,W⟩ ?_;rintro i⟨hi,b⟩;refine bQ W W ?_ ?_<;>intro h
 ·have a:i<xs.length:=E;have d:(i:Int).toNat=i:=E;have f:xs.getD i []=xs[i]:=au a;rw[dA _ a]at b;refine r1 W (by simp[bo,d];omega) ?_;refine cl W (by rw[d,f];rfl) (check_sound xs[i]<|e _<|adC a) W ?_;refine bQ W W ?_ ?_<;>intro c
  ·refine bK W W<|ar.of_eq<|congrArg SV.i<|by rw[b,if_pos c]
  refine r1 W (by simp[bo];omega) ?_;exact gS (i+1) ⟨E,by rw[b,if_neg c]⟩
 refine bK W W<|bR ?_;rw[b,show i=xs.length from E,afU];rfl
def dK{α:Type}{f:α->Int}:∀{l:List α},aK f l=0↔∀x∈l,f x=0
 |[]=>by simp[aK]
 |x::l=>by
  simp only[aK];by_cases h:f x=0
  ·rw[if_neg<|by simpa using h,dK];simp[h]
  simp_all
structure fD where
 lo:hO
 hi:hO
 deriving Inhabited
def dX(s:fD):SV:=.agg [.s s.lo,.s s.hi]
noncomputable def bV(s:hO):Rat:=if h:aL s=0 then(vc h).choose else 0
def fZ(h:aL s=0):qt (bV s)=s:=by unfold bV;grind
def LB(h:aL s=0):Dc (bV s) 600:=by unfold bV;grind
def fi(h:aL s=0):Sz (bV s) 67:=(LB h).sz
noncomputable def iz(s:fD):Int:=if aL s.lo≠0 then aL s.lo else if aL s.hi≠0 then aL s.hi else if 0<CV (bV s.lo) (bV s.hi)then 11 else 0
end
def Sz.num{q:Rat}{K:Nat}(h:Sz q K):Sz (q.num:Rat) (K+1):=by
 constructor
 ·simpa using ahG h.1
 simp[iG]
def Eg(z:Int):qt (mD (z:Rat))=decl z.natAbs 1:=by
 unfold mD;rw[Rat.num_intCast];split
 ·rename_i h;have:=(Rat.intCast_neg z).symm;rw[this,nL];unfold cK;grind
 rename_i h;rw[nL];unfold cK;rw[if_neg h]
def KI(d:Nat):qt (d:Rat)=decl d 1:=(nL (d:Int)).trans<|IK d
instance(q:Rat)(n:Nat):Decidable (Dc q n):=by unfold Dc;infer_instance
noncomputable def mL(s:hO)(n:Nat):Bool:=decide (s.length<=2*n+2/\aL s=0/\Dc (bV s) n)
def yf(s:hO)(n:Nat)(d:ct s)(hn:n<2^40):aM Tryz.prog 221 [.s s,.i n] (.u<|mL s n):=by
 refine bS Tryz.func221 W<|r1 W (by simp[bo,and_true];omega) ?_;refine aC 11 W ?_ ?_<;>intro g1
 ·refine bP W W (check_sound s d) W<|bJ W 16 W ?_ ?_<;>intro g2
  ·have a:=fi g2;have e:=fZ g2;have n1:=En (bV s)<|a.tQ fh;have c:=E3 (bV s)<|a.tQ fh;rw[e]at n1 c;refine bP W W n1 W<|bG W (pV ((bV s).num:Rat)<|a.num.tQ fh) W ?_;rw[Eg];refine bJ W 24 W ?_ ?_<;>intro b
   ·refine bP W W c W ?_;rw[KI];refine bK W W<|ar.of_eq<|congrArg SV.u<|decide_eq_decide.2 ?_;constructor
    ·intro f;exact⟨E,g2,E,E⟩
    rintro⟨_,_,_,f⟩;omega
   refine bK W W ?_;show false=mL s n;symm;exact decide_eq_false λhh=>b (by have:=hh.2.2.1;omega)
  refine bK W W ?_;show false=mL s n;symm;exact decide_eq_false λhh=>g2 hh.2.1
 refine bK W W ?_;show false=mL s n;symm;exact decide_eq_false λhh=>g1 (by have:=hh.1;omega)
def Dx(xs:List hO)(m n:Nat)(e:∀s∈xs,ct s)(hl:xs.length<2^60)(hm:m<2^60)(hn:n<2^40):
 aM Tryz.prog 222 [.strs false xs,.i m,.i n] (.u<|decide (xs.length<=m)&&xs.all λs=>mL s n):=by
 refine bS Tryz.func222 W<|bQ W W ?_ ?_<;>intro h
 ·refine bK W W ?_;show false=_
  grind
 rw[decide_eq_true E,afa];refine r0 W<|ra (λi:Nat=>[(0,.strs false xs),(2,.i n),(7,.i i)]) (λi=>i<=xs.length/\(xs.all λs=>mL s n)=((xs.drop i).all λs=>mL s n)) (λi=>xs.length-i) 0 ⟨adk _,W⟩ ?_;rintro i⟨hi,c⟩;refine bQ W W ?_ ?_<;>intro h
 ·have a:i<xs.length:=E;have d:(i:Int).toNat=i:=E;have f:xs.getD i []=xs[i]:=au a;rw[aeE a,ae6]at c;refine r1 W (by simp[bo,and_true,d];omega) ?_;refine cl W (by rw[d,f];rfl) (yf xs[i] n (e _<|adC a) hn) W ?_;refine r0 W<|ni W W W ?_ ?_<;>intro b
  ·refine bK W W ?_;simp at b;rw[c,b];rfl
  simp at b;refine r1 W (by simp[bo,and_true];omega) ?_;exact gS (i+1) ⟨E,by rw[c,b];rfl⟩
 refine bK W W ?_;show true=_
 grind
noncomputable def uS(q:Rat):Int:=if 600<(decl q.num.natAbs 1).length\/600<(decl q.den 1).length then 4 else 0
def IH(q:Rat){K:Nat}(h:Sz q K)(a:K<2^36):aM Tryz.prog 119 [.s<|qt q] (.i<|uS q):=by
 refine bS Tryz.func119 W<|bP W W (En q<|h.tQ E) W<|bG W (pV (q.num:Rat)<|h.num.tQ E) W ?_;rw[Eg];refine bJ W 8 W ?_ ?_<;>intro g
 ·refine bK W W<|ar.of_eq<|congrArg SV.i<|by unfold uS;omega
 refine bP W W (E3 q<|h.tQ E) W ?_;rw[KI];refine bQ W W ?_ ?_<;>intro g2
 ·refine bK W W<|ar.of_eq<|congrArg SV.i<|by unfold uS;omega
 refine bK W W<|ar.of_eq<|congrArg SV.i<|by unfold uS;rw[if_neg E]
def adK{q:Rat}:uS q=0↔Dc q 600:=by unfold uS Dc;omega
def An(p q:Rat):Rat:=if 0<=CV p q then p else q
def KY(p q:Rat){K L:Nat}(b:Sz p K)(a:Sz q L)(c:K+L+1<2^34):aM Tryz.prog 106 [.s<|qt p,.s<|qt q] (.s<|qt<|An p q):=by
 refine bS Tryz.func106 W<|bP W W (tA p q b a c) W<|bQ W W ?_ ?_<;>intro g
 ·refine bK W W<|ar.of_eq<|congrArg (λq=>SV.s<|qt q)<|by unfold An;rw[if_pos g]
 refine bK W W<|ar.of_eq<|congrArg (λq=>SV.s<|qt q)<|by unfold An;rw[if_neg g]
def Dr{α:Type}{xs ys:List α}{d:α}(hl:xs.length=ys.length)(h:∀k,k<xs.length->xs.getD k d=ys.getD k d):xs=ys:=by apply afz hl;simp_all
def rN(xs ys:List Int)(hl:xs.length<2^60):aM Tryz.prog 60 [.ints .i64 false xs,.ints .i64 false ys] (.u<|decide (xs=ys)):=by
 refine bS Tryz.func60 W<|bQ W W ?_ ?_<;>intro h
 ·refine bK W W ?_;show false=_
  grind
 have a:xs.length=ys.length:=E;refine r0 W<|ra (λi:Nat=>[(0,.ints .i64 false xs),(1,.ints .i64 false ys),(5,.i i)]) (λi=>i<=xs.length/\∀k,k<i->xs.getD k 0=ys.getD k 0) (λi=>xs.length-i) 0 ⟨adk _,λk h=>E⟩ ?_;rintro i⟨hi,e⟩;refine bQ W W ?_ ?_<;>intro h
 ·have c:(i:Int).toNat=i:=E;refine k1 W aW (by simp[bo,and_true,c];omega) ?_;refine gb W ?_ ?_<;>intro b
  ·rw[c]at b;refine bK W W ?_;show false=_
   grind
  rw[c]at b;refine r1 W (by simp[bo,and_true];omega) ?_;refine gS (i+1) ⟨E,λk d=>?_⟩
  grind
 refine bK W W ?_;show true=_;symm;exact decide_eq_true<|Dr a λk d=>e k E
def Hm(n:Nat)(hn:n<2^40):aM Tryz.prog 180 [.i n] (.strs true<|List.replicate n<|qt 0):=by
 rw[AL];refine bS Tryz.func180 W<|r0 W<|ra (λi:Nat=>[(0,.i n),(3,.strs true<|List.replicate i [48]),(4,.i i)]) (λi=>i<=n) (λi=>n-i) 0 (adk _) ?_;intro i hi;refine bQ W W ?_ ?_<;>intro h
 ·refine r1 W aX<|again (i+1) E E ⟨G,⟨W,ar.of_eq<|congrArg (SV.strs true)<|by rw[List.replicate_succ']⟩,G,U⟩
 refine bK W W<|ar.of_eq<|congrArg (SV.strs true) ?_
 grind
def YS(xs:List Int):Prop:=xs.length<2^20/\∀x∈xs,0<=x/\x<2^31
def PU(xs:List Int)(y:Int):(xs++[y]).sum=xs.sum+y:=I
def PT{xs:List Int}{i:Nat}(h:i<xs.length):(xs.take<|i+1).sum=(xs.take i).sum+xs.getD i 0:=by rw[aey h,PU,au h]
def adz:∀{xs:List Int},(∀x∈xs,0<=x/\x<2^31)->0<=xs.sum/\xs.sum<=xs.length*2^31
 |[],_=>I
 |x::xs,h=>by have c:=adz (xs:=xs) λy a=>h y (by simp[a]);have b:=h x I;simp;omega
def kY(xs:List Int)(h:YS xs):aM Tryz.prog 218 [.ints .i64 false xs] (.i xs.sum):=by
 have hl:=h.1;refine bS Tryz.func218 W<|r0 W<|ra (λi:Nat=>[(0,.ints .i64 false xs),(3,.i (xs.take i).sum),(4,.i i)]) (λi=>i<=xs.length) (λi=>xs.length-i) 0 (adk _) ?_;intro i hi;refine bQ W W ?_ ?_<;>intro e
 ·have a:i<xs.length:=E;have c:(i:Int).toNat=i:=E;have d:=adz (xs:=xs.take i) λx b=>h.2 x<|agA b;have b:=h.2 xs[i]<|adC a;have f:xs.getD i 0=xs[i]:=au a;simp at d;refine r1 W (by simp only[bo,and_true,c];omega) ?_;exact again (i+1) E E ⟨G,⟨W,ar.of_eq<|congrArg SV.i<|by rw[c,PT a]⟩,G,U⟩
 refine bK W W<|bR ?_
 grind
def kl:List Int->List Int->Bool
 |x::a,y::b=>if x≠y then decide (y<x)else kl a b
 |_,_=>false
def beforeL(a b:List Int):Bool:=if a.sum≠b.sum then decide (b.sum<a.sum)else kl a b
def K7{a b:List Int}{i:Nat}(d:i<a.length)(c:i<b.length):kl (a.drop i) (b.drop i)=if a[i]≠b[i]then decide (b[i]<a[i])else kl (a.drop<|i+1) (b.drop<|i+1):=by rw[aeE d,aeE c];rfl
def G9(a b:List Int)(j:YS a)(m:YS b)(hl:a.length=b.length):aM Tryz.prog 280 [.ints .i64 false a,.ints .i64 false b] (.u<|beforeL a b):=by
 have n:=j.1;refine bS Tryz.func280 W<|bP W W (kY a j) W<|bP W W (kY b m) W<|bQ W W ?_ ?_<;>intro h
 ·have h:a.sum≠b.sum:=h;refine bP W W (kY a j) W<|bP W W (kY b m) W<|bK W W<|ar.of_eq<|congrArg SV.u ?_;unfold beforeL;rw[if_pos h]
 have h:¬a.sum≠b.sum:=h;have o:beforeL a b=kl a b:=by unfold beforeL;rw[if_neg h]
 refine r0 W<|ra (λi:Nat=>[(0,.ints .i64 false a),(1,.ints .i64 false b),(5,.i i)]) (λi=>i<=a.length/\beforeL a b=kl (a.drop i) (b.drop i)) (λi=>a.length-i) 0 ⟨adk _,o⟩ ?_;rintro i⟨hi,d⟩;refine bQ W W ?_ ?_<;>intro p
 ·have f:i<a.length:=E;have e:i<b.length:=E;have g:(i:Int).toNat=i:=E;have l:a.getD i 0=a[i]:=au f;have k:b.getD i 0=b[i]:=au e;rw[K7 f e]at d;refine k1 W aW (by simp[bo,and_true,g];omega) ?_;refine gb W ?_ ?_<;>intro c
  ·rw[g,l,k]at c;have c:a[i]≠b[i]:=c;rw[if_pos c]at d;refine k1 W aW (by simp[bo,and_true,g];omega) ?_;refine aE W<|ar.of_eq<|congrArg SV.u ?_;rw[g,l,k,d]
  rw[g,l,k]at c;have c:¬a[i]≠b[i]:=c;rw[if_neg c]at d;refine r1 W (by simp[bo,and_true];omega) ?_;exact gS (i+1) ⟨E,d⟩
 refine bK W W ?_;show false=_;rw[d,show i=a.length from E,afU];simp[kl]
structure cU where
 c:Rat
 pw:List Int
instance:Inhabited cU:=⟨⟨0,[]⟩⟩
def Lu(t:cU):SV:=.agg [.s<|qt t.c,.ints .i64 false t.pw]
def di(own:Bool)(p:List cU):SV:=.bA own 2 default Lu p
def Di(V K:Nat)(t:cU):Prop:=t.pw.length=V/\YS t.pw/\Sz t.c K
def vL(t:cU):List cU->Rat×List cU
 |u::r=>if u.pw=t.pw then(u.c+t.c,r)else(t.c,u::r)
 |[]=>(t.c,[])
def mn(p:List cU)(t:cU):List cU:=(p.takeWhile λu:cU=>beforeL u.pw t.pw)++(if(vL t (p.dropWhile λu:cU=>beforeL u.pw t.pw)).1=0 then[]else[⟨(vL t (p.dropWhile λu:cU=>beforeL u.pw t.pw)).1,t.pw⟩])++(vL t (p.dropWhile λu:cU=>beforeL u.pw t.pw)).2
def A9{α:Type}{f:α->Bool}{p:List α}{i:Nat}(hi:i<=p.length)(a:∀k(h:k<p.length),k<i->f p[k]=true)(c:∀h:i<p.length,f p[i]=false):p.takeWhile f=p.take i/\p.dropWhile f=p.drop i:=by
 induction p generalizing i with
 |nil=>cases hi;simp
 |cons x p b=>
  cases i with
  |zero=>simp_all
  |succ i=>
   have d:=a 0 I I;simp at d;have:=b (i:=i) (by simpa using hi) (λk h e=>a (k+1) (by simpa using h) E) λh=>c<|by simpa using h
   simp_all
def bw{α:Type}{l:List α}{i:Nat}{d:α}(h:i<l.length):l.getD i d∈l:=eW
def zp(p:List cU)(t:cU){V K:Nat}(y:∀u∈p,Di V K u)(l:Di V K t)(hl:p.length<2^40)(L:K+K+1<2^34):
 aM Tryz.prog 216 [di false p,Lu t] (di false<|mn p t):=by
 have C:=l.2.1.1;refine bS Tryz.func216 W<|cx 4 [(0,di false p),(3,.box true<|Lu t),(5,di true<|p.takeWhile λu=>beforeL u.pw t.pw),(6,.i (p.takeWhile λu=>beforeL u.pw t.pw).length)] True ?_ λ_=>?_
 ·refine r0 W<|ra (λi:Nat=>[(0,di false p),(3,.box true<|Lu t),(5,di true<|p.take i),(6,.i i)]) (λi=>i<=p.length/\∀k(h:k<p.length),k<i->beforeL p[k].pw t.pw=true) (λi=>p.length-i) 0 ⟨adk _,λk h H=>E⟩ ?_;rintro i⟨hi,J⟩;have out:(∀h:i<p.length,beforeL p[i].pw t.pw=false)->(p.takeWhile λu=>beforeL u.pw t.pw)=p.take i/\(p.takeWhile λu=>beforeL u.pw t.pw).length=i:=by
   intro h;have:=(A9 (f:=λu:cU=>beforeL u.pw t.pw) hi J h).1;simp_all
  refine bJ W 12 W ?_ ?_<;>intro h
  ·have g:i<p.length:=E;have d:(i:Int).toNat=i:=E;have v:p.getD i default=p[i]:=au g;have s:=y _<|adC g;refine r1 W (by simp only[bo,and_true,d];omega) ?_;refine cd W (by rw[d,v];rfl) (G9 p[i].pw t.pw s.2.1 l.2.1<|s.1.trans l.1.symm) W ?_;refine k0 W aW<|ni W W W ?_ ?_<;>intro m
   ·refine r1 W (by simp only[bo,and_true,d,len,afm,aeW,adX,aeg]<;>omega) ?_;refine again (i+1) E ⟨E,λk h H=>?_⟩ ⟨G,G,⟨W,W,W,?_⟩,G,U⟩
    ·grind
    rw[d,v,cX,aey g,aeY];exact jC.append (jC.refl _) ⟨.inl W,W⟩
   refine r0 W ?_;have o:=out λ_=>m;exact aN U ⟨G,G,⟨W,ar.of_eq<|congrArg (di true) o.1.symm⟩,⟨W,ar.of_eq<|congrArg SV.i<|by rw[o.2]⟩,U⟩
  have o:=out λM=>absurd M E;refine k0 W aW<|aN U ⟨G,G,⟨W,ar.of_eq<|congrArg (di true) o.1.symm⟩,⟨W,ar.of_eq<|congrArg SV.i<|by rw[o.2]⟩,U⟩
 have b:(p.takeWhile λu=>beforeL u.pw t.pw)++(p.dropWhile λu=>beforeL u.pw t.pw)=p:=List.takeWhile_append_dropWhile;unfold mn;generalize (p.takeWhile λu=>beforeL u.pw t.pw)=a at*;generalize (p.dropWhile λu=>beforeL u.pw t.pw)=r at*;subst b;simp only[aeP]at hl;have w:(a++r).drop a.length=r:=List.drop_left;refine wR 2 (λ(c:Rat)(j:Nat)=>[(0,di false<|a++r),(3,.box true<|Lu t),(5,di true a),(6,.i j),(7,.s<|qt c)])
  (λc j=>vL t r=(c,(a++r).drop j)/\j<=a.length+r.length/\Sz c (K+K+1)) ?_ ?_
 ·have q:Sz t.c (K+K+1):=l.2.2.mono E;refine bJ W 37 W ?_ ?_<;>intro h
  ·have h:a.length<(a++r).length:=E;have d:((a.length:Nat):Int).toNat=a.length:=E;obtain⟨u,n,rfl⟩:∃u n,r=u::n:=by
    cases r with
    |nil=>simp at h
    |cons u n=>exact⟨u,n,W⟩
   have v:(a++u::n).getD a.length default=u:=I;have hu:=y u I;have B:=hu.2.1.1;refine r1 W (by simp only[bo,and_true,d];omega) ?_;refine cd W (by rw[d,v];rfl) (rN u.pw t.pw E) W ?_;refine k0 W aW<|gb W ?_ ?_<;>intro m
   ·refine r1 W (by simp only[bo,and_true,d];omega) ?_;refine cd W (by rw[d,v];rfl) (yG u.c t.c hu.2.2 l.2.2 L) W ?_;refine k1 W aW (by simp only[bo,and_true,len];omega) ?_;refine il (u.c+t.c,a.length+1) ⟨?_,?_,hu.2.2.add l.2.2⟩
    ·simp[vL,m,ahZ]
    simp
   refine r0 W<|il (t.c,a.length) ⟨?_,?_,q⟩
   ·simp[vL,m]
   dsimp only;omega
  have h:¬a.length<(a++r).length:=E;have D:r=[]:=by simp_all
  subst D;refine k0 W aW<|il (t.c,a.length) ⟨?_,?_,q⟩
  ·simp[vL]
  dsimp only;omega
 rintro c j⟨hm,N,hc⟩;rw[hm];refine cx 1 [(0,di false<|a++r),(5,di true<|a++if c=0 then[]else[⟨c,t.pw⟩]),(6,.i j)] True ?_ λ_=>?_
 ·refine bP W W (mY c) W<|r0 W<|ni W W W ?_ ?_<;>intro h
  ·have h:¬c=0:=by simpa using h
   refine r1 W (by simp only[bo,and_true,len,aeW,adX,aeg]<;>omega) ?_;refine aN U ⟨G,⟨W,W,W,?_⟩,G,U⟩;rw[if_neg h,cX,aeY];exact jC.append (jC.refl _) ⟨.inr W,W⟩
  have h:c=0:=by simpa using h
  refine bL W U ⟨G,⟨W,ar.of_eq<|congrArg (di true) eW⟩,G,U⟩
 have z:(a++if c=0 then[]else[(⟨c,t.pw⟩:cU)]).length<=a.length+1:=by split<;>simp
 have A:(j:Int).toNat=j:=E;have F:(a++r).length=a.length+r.length:=aeP;have O:((a++r).drop j).length<=a.length+r.length:=I;have e:((a++r).drop j).take ((a++r).length-j)=(a++r).drop j:=adM I;refine r1 W (by simp only[bo,and_true,A,e,len,aeW];refine⟨λx=>rfl,λx=>rfl,?_⟩;omega) ?_;refine TA W ⟨W,W,?_⟩;rw[uy,nE λ_=>rfl,nE λ_=>rfl,cX,A,e,<-aeY]
def fX(l:List cU):List cU:=l.foldl mn []
def KR{l:List cU}{i:Nat}(h:i<l.length):fX (l.take<|i+1)=mn (fX<|l.take i) l[i]:=by unfold fX;rw[aey h,age];rfl
def DS(a b:List cU):List cU:=fX<|a++b
section
variable{d:Int}{a b:List Int}{l:List cU}{D K M V k m n v w:Nat}{c p q:Rat}
def Wn(D M n w:Nat)(q:Rat):Prop:=∃a:Int,a.natAbs<=n*M^w/\q*((D^w:Nat):Rat)=(a:Rat)
structure pY(D M k:Nat):Prop where
 pos:0<D
 le:D*10^18<=M
 ZI:(ae M).length<=k
def pY.YZ(h:pY D M k):D<=M:=ad0 (aie _ fh) h.le
def Wn.zero(D M n w:Nat):Wn D M n w 0:=⟨0,I,I⟩
def Wn.le(h:Wn D M n w q)(hn:n<=m):Wn D M m w q:=by obtain⟨a,f,e⟩:=h;exact⟨a,ad0 f<|aeX _ hn,e⟩
def Wn.add(h:Wn D M n w p)(g:Wn D M m w q):Wn D M (n+m) w (p+q):=by
 obtain⟨a,f,e⟩:=h;obtain⟨b,g1,g2⟩:=g;refine⟨a+b,?_,?_⟩
 ·rw[ae9];omega
 grind
def Wn.neg(h:Wn D M n w p):Wn D M n w (-p):=by
 obtain⟨a,f,e⟩:=h;refine⟨-a,E,?_⟩
 grind
def Wn.mul(h:Wn D M n w p)(g:Wn D M m v q):Wn D M (n*m) (w+v) (p*q):=by
 obtain⟨a,e,f⟩:=h;obtain⟨b,g1,g2⟩:=g;refine⟨a*b,?_,?_⟩
 ·rw[af5];have:=agr e g1
  grind
 grind
def Wn.up(g:pY D M k)(h:Wn D M n w q)(f:w<=v):Wn D M n v q:=by
 obtain⟨a,i,j⟩:=h;obtain⟨e,rfl⟩:=Nat.exists_eq_add_of_le f;refine⟨a*(D^e:Nat),?_,?_⟩
 ·rw[af5,afV]
  calc a.natAbs*D^e<=(n*M^w)*M^e:=agr i (agW g.YZ e)
   _=n*(M^w*M^e):=by grind
 rw[ahj,agX];grind
def Wn.one(e:pY D M k)(h:Wn D M n w q)(hn:n<=10^18):Wn D M 1 (w+1) q:=by
 obtain⟨a,f,g⟩:=h;refine⟨a*(D:Nat),?_,?_⟩
 ·rw[af5]
  calc a.natAbs*D<=(n*M^w)*D:=aeX _ f
   _=M^w*(D*n):=by grind
   _<=M^w*(D*10^18):=afr _<|afr _ hn
   _<=M^w*M:=afr _ e.le
   _=1*(M^w*M):=by grind
 rw[ahj,agX];grind
def Ju{M k:Nat}(h:(ae M).length<=k):∀w,(ae<|M^w).length<=k*w+1
 |0=>by rw[Nat.pow_zero,iG];simp
 |w+1=>by
  have f:=Ju h w;have e:=dO (M^w) M
  grind
def Wn.sz(f:pY D M k)(h:Wn D M n w q):Sz q ((ae n).length+k*w+1):=by
 obtain⟨a,j,r⟩:=h;have i:0<D^w:=afe f.pos;have e:q=Rat.divInt a ((D^w:Nat):Int):=by
  rw[ahk,agX];have:((D^w:Nat):Rat)≠0:=by
   intro g;have:(D^w:Nat)=0:=by exact_mod_cast g
   omega
  grind
 rw[e];have o:=Ju f.ZI w;refine xw (by exact_mod_cast i) ?_ ?_
 ·have:=length_le j;have:=dO n<|M^w;omega
 have:=length_le<|agW f.YZ w;simp;omega
def EG:∀a:List Int,kl a a=false
 |[]=>rfl
 |x::a=>by simp[kl];exact EG a
def JY(a:List Int):beforeL a a=false:=by unfold beforeL;simp[EG]
def zE:∀{a b c:List Int},kl a b=true->kl b c=true->kl a c=true
 |[],_,_,h,_=>by simp[kl]at h
 |_::_,[],_,h,_=>by simp[kl]at h
 |_::_,_::_,[],_,g=>by simp[kl]at g
 |x::a,y::b,z::c,h,g=>by
  simp[kl]at h g⊢;by_cases f:x=y
  ·subst f;by_cases e:x=z
   ·subst e;simp at h g⊢;exact zE h g
   simp_all
  grind
def DP{c:List Int}(h:beforeL a b=true)(g:beforeL b c=true):beforeL a c=true:=by
 unfold beforeL at*;by_cases f:a.sum=b.sum
 ·by_cases e:b.sum=c.sum
  ·rw[if_neg<|by simpa using f]at h;rw[if_neg<|by simpa using e]at g;rw[if_neg<|by simp;omega];exact zE h g
  simp_all
 grind
def EF:∀{a b:List Int},a.length=b.length->kl a b=false->kl b a=false->a=b
 |[],[],_,_,_=>rfl
 |[],_::_,h,_,_=>by cases h
 |_::_,[],h,_,_=>by cases h
 |x::a,y::b,h,g1,g2=>by
  simp[kl]at g1 g2;by_cases e:x=y
  ·subst e;simp at g1 g2;rw[EF (by simpa using h) g1 g2]
  grind
def JX(hl:a.length=b.length)(h:beforeL a b=false)(hn:a≠b):beforeL b a=true:=by
 unfold beforeL at*;by_cases e:a.sum=b.sum
 ·rw[if_neg<|by simpa using e]at h;rw[if_neg<|by simp;omega];rcases Bool.eq_false_or_eq_true (kl b a)with g|g
  ·exact g
  exact absurd (EF hl h g) hn
 grind
def aaM(t:cU):List cU->List cU
 |[]=>if t.c=0 then[]else[t]
 |u::r=>if beforeL u.pw t.pw=true then u::aaM t r else if u.pw=t.pw then(if u.c+t.c=0 then r else⟨u.c+t.c,t.pw⟩::r)else if t.c=0 then u::r else t::u::r
def rV:∀(p:List cU)(t:cU),mn p t=aaM t p
 |[],t=>by simp[mn,vL,aaM];split<;>simp_all
 |u::r,t=>by
  have e:=rV r t;unfold mn aaM;unfold mn at e;by_cases h:beforeL u.pw t.pw=true
  ·simp_all
  simp[h,vL];by_cases f:u.pw=t.pw
  all_goals simp[f];split<;>simp
def Xy(p:List cU):Prop:=p.Pairwise λa b=>beforeL a.pw b.pw=true
def AS{t:cU}:∀{p:List cU}{u:cU},u∈aaM t p->u∈p\/u.pw=t.pw
 |[],u,h=>by simp only[aaM]at h;simp_all
 |v::r,u,h=>by
  simp[aaM]at h;split at h
  ·rcases adZ.1 h with rfl|h
   ·simp_all
   rcases AS h with h|h
   ·simp_all
   exact .inr h
  grind
def IP{t:cU}{V:Nat}(i:t.pw.length=V):∀{p:List cU},(∀u∈p,u.pw.length=V)->Xy p->Xy (aaM t p)
 |[],_,_=>by simp[aaM];split<;>simp[Xy]
 |v::r,hl,h=>by
  have j:∀u∈r,beforeL v.pw u.pw=true:=λu hu=>List.rel_of_pairwise_cons h hu;have f:=List.Pairwise.of_cons h;simp[aaM];split
  ·rename_i e;refine List.Pairwise.cons (λu hu=>?_)<|IP i (λu hu=>hl u<|by simp[hu]) f;rcases AS hu with hu|hu
   ·exact j u hu
   rw[hu];exact e
  rename_i e;split
  ·rename_i he;split
   ·exact f
   exact List.Pairwise.cons (λu hu=>eW) f
  rename_i he;split
  ·exact h
  have g:=JX ((hl v I).trans i.symm) (by simpa using e) he;refine List.Pairwise.cons (λu hu=>?_) h;rcases adZ.1 hu with rfl|hu
  ·exact g
  exact DP g<|j u hu
def xT{α:Type}[DecidableEq α]:∀{l m:List α},l.Nodup->(∀x∈l,x∈m)->l.length<=m.length
 |[],_,_,_=>I
 |x::l,m,hn,hs=>by
  have g:=hs x I;have e:=afv.1 hn;have:=xT (l:=l) (m:=m.erase x) e.2 λy f=>by grind
  grind
def NL(d:Nat):Nat->List (List Int)
 |0=>[[]]
 |V+1=>(NL d V).flatMap λv=>(List.range<|d+1).map λ(x:Nat)=>(x:Int)::v
def sA{α e:Type}{f:α->List e}{c:Nat}(h:∀a,(f a).length=c):∀l:List α,(l.flatMap f).length=l.length*c
 |[]=>I
 |a::l=>by rw[List.flatMap_cons,aeP,h,sA h l,adX,ahJ];omega
def Hn(d:Nat):∀V,(NL d V).length=(d+1)^V
 |0=>rfl
 |V+1=>by rw[NL,sA (c:=d+1) λv=>I,Hn d V,afu]
def Is{d:Nat}:∀{v:List Int},(∀x∈v,0<=x/\x<=d)->v∈NL d v.length
 |[],_=>by simp[NL]
 |x::v,h=>by have g:=h x I;have f:=Is (v:=v) λy e=>h y (by simp[e]);simp only[adX,NL,agc,aeN,agm];exact⟨v,f,x.toNat,E,by congr 1;omega⟩
def kX:∀{v:List Int},(∀x∈v,0<=x)->∀x∈v,x<=v.sum
 |[],_,x,e=>by cases e
 |y::v,h,x,e=>by
  have o:0<=v.sum:=by
   clear e;have g:∀z∈v,0<=z:=λz f=>h z (by simp[f])
   induction v with
   |nil=>simp
   |cons z v i=>
    have:=g z I
    grind
  have j:=h y I;simp;rcases adZ.1 e with rfl|e
  ·omega
  have:=kX (v:=v) (λz f=>h z<|by simp[f]) x e;omega
def VY(V:Nat)(d:Int)(v:List Int):Prop:=v.length=V/\(∀x∈v,0<=x)/\v.sum<=d
def Ti{d:Nat}{p:List cU}(hs:Xy p)(h:∀u∈p,VY V d u.pw):p.length<=(d+1)^V:=by
 rw[<-Hn d V,<-aeW (f:=cU.pw)];refine xT ?_ ?_
 ·rw[List.Nodup,List.pairwise_map];refine List.Pairwise.imp (λ{a b}g he=>?_) hs;rw[he,JY]at g;simp_all
 intro x e;obtain⟨u,hu,rfl⟩:=aeN.1 e;obtain⟨o,i,j⟩:=h u hu;rw[<-o];exact Is λx e=>⟨i x e,afW (kX i x e) j⟩
def Ep{V:Nat}:∀{l p:List cU},(∀u∈l,u.pw.length=V)->(∀u∈p,u.pw.length=V)->Xy p->Xy (l.foldl mn p)/\∀u∈l.foldl mn p,u.pw.length=V
 |[],p,_,h,e=>⟨e,h⟩
 |t::l,p,hl,h,e=>by
  have f:=hl t I;refine Ep (l:=l) (p:=mn p t) (λu hu=>hl u<|by simp[hu]) (λu hu=>?_) ?_
  ·rw[rV]at hu;rcases AS hu with hu|hu
   ·exact h u hu
   rw[hu];exact f
  rw[rV];exact IP f h e
def BL:∀{l p:List cU}{u:cU},u∈l.foldl mn p->(∃t∈l,u.pw=t.pw)\/∃t∈p,u.pw=t.pw
 |[],p,u,h=>.inr ⟨u,h,W⟩
 |t::l,p,u,h=>by
  rcases BL (l:=l) (p:=mn p t) h with⟨v,f,e⟩|⟨v,f,e⟩
  ·grind
  rw[rV]at f;rcases AS f with f|f
  ·grind
  simp_all
def MM{D M w n m:Nat}{t:cU}(e:Wn D M m w t.c):∀{p:List cU},(∀u∈p,Wn D M n w u.c)->∀u∈aaM t p,Wn D M (n+m) w u.c
 |[],_,u,hu=>by
  simp only[aaM]at hu;split at hu
  ·cases hu
  simp at hu;subst hu;exact e.le E
 |v::r,h,u,hu=>by
  have f:∀u∈v::r,Wn D M (n+m) w u.c:=λu hu=>(h u hu).le E;simp[aaM]at hu;split at hu
  ·rcases adZ.1 hu with rfl|hu
   ·simp_all
   exact MM e (λu hu=>h u<|by simp[hu]) u hu
  split at hu
  ·split at hu
   ·simp_all
   rcases adZ.1 hu with rfl|hu
   ·exact(h v I).add e
   simp_all
  split at hu
  ·exact f u hu
  rcases adZ.1 hu with rfl|hu
  ·exact e.le E
  exact f u hu
def Im{D M w:Nat}:∀{l p:List cU}{n:Nat},(∀u∈l,Wn D M 1 w u.c)->(∀u∈p,Wn D M n w u.c)->∀u∈l.foldl mn p,Wn D M (n+l.length) w u.c
 |[],p,n,_,e=>e
 |t::l,p,n,hl,e=>by
  intro u hu;have:=Im (l:=l) (p:=mn p t) (n:=n+1) (λu hu=>hl u<|by simp[hu]) (λu hu=>by rw[rV]at hu;exact MM (hl t I) e u hu) u hu
  grind
def PW(D M V:Nat)(d:Int)(w:Nat)(l:List cU):Prop:=∀u∈l,VY V d u.pw/\Wn D M 1 w u.c
def PW.mono{e:Int}(i:pY D M k)(h:PW D M V d w l)(g:d<=e)(f:w<=v):PW D M V e v l:=λu hu=>⟨⟨(h u hu).1.1,(h u hu).1.2.1,afW (h u hu).1.2.2 g⟩,(h u hu).2.up i f⟩
def PW.append{m:List cU}(h:PW D M V d w l)(g:PW D M V d w m):PW D M V d w (l++m):=λu hu=>(afR.1 hu).elim (h u)<|g u
def PW.nil:PW D M V d w []:=λ_ h=>by cases h
structure b8(D M V:Nat)(d:Int)(w:Nat)(p:List cU):Prop where
 ZT:Xy p
 pw:PW D M V d w p
def b8.mono{e:Int}(i:pY D M k)(h:b8 D M V d w l)(g:d<=e)(f:w<=v):b8 D M V e v l:=⟨h.ZT,h.pw.mono i g f⟩
def b8.nil:b8 D M V d w []:=⟨List.Pairwise.nil,PW.nil⟩
def Oe(h:V<=9):(6+1)^V<=40353607:=ad0 (ae2 fh h) fh
def b8.len{p:List cU}(h:b8 D M V d w p)(f:V<=9)(e:d<=6):p.length<=40353607:=ad0 (Ti (V:=V) (d:=6) h.ZT λu hu=>⟨(h.pw u hu).1.1,(h.pw u hu).1.2.1,afW (h.pw u hu).1.2.2 e⟩) (Oe f)
def VY.ok{v:List Int}(h:VY V d v)(i:V<=9)(g:d<=6):YS v:=by obtain⟨o,f,j⟩:=h;exact⟨E,λx e=>⟨f x e,by have:=kX f x e;omega⟩⟩
def PW.tok(i:pY D M k)(h:PW D M V d w l)(g:V<=9)(f:d<=6)(o:k*w+2<=K):∀u∈l,Di V K u:=by intro u hu;obtain⟨e,j⟩:=h u hu;refine⟨e.1,e.ok g f,(j.sz i).mono ?_⟩;rw[iG];simp;omega
def PW.norm(g:pY D M k)(h:PW D M V d w l)(hl:l.length<=10^18):b8 D M V d (w+1) (fX l):=by
 refine⟨(Ep (V:=V) (λu hu=>(h u hu).1.1) I List.Pairwise.nil).1,λu hu=>⟨?_,?_⟩⟩
 ·rcases BL hu with⟨t,f,e⟩|⟨t,f,e⟩
  ·rw[e];exact(h t f).1
  cases f
 have:=Im (n:=0) (λu hu=>(h u hu).2) I u hu;exact this.one g E
def vj(V K:Nat)(l:List cU):Prop:=(∀u∈l,Di V K u)/\∀m,m <+:l->(∀u∈fX m,Di V K u)/\(fX m).length<2^30
def PW.Y5(g:pY D M k)(h:PW D M V d w l)(f:V<=9)(e:d<=6)(hl:l.length<=10^18)(i:k*(w+1)+2<=K):vj V K l:=by refine⟨h.tok g f e<|ad0 (agh (afr k<|agT w) 2) i,λm hm=>?_⟩;have o:PW D M V d w m:=λu hu=>h u<|hm.subset hu;have j:=o.norm g (by grind);exact⟨j.pw.tok g f e i,by have:=j.len f e;omega⟩
def pk(c:Rat)(p:List cU):List cU:=p.map λt=>⟨c*t.c,t.pw⟩
def kJ(c:Rat)(p:List cU):List cU:=fX<|pk c p
def PW.Vj(hc:Wn D M 1 v c)(h:PW D M V d w l):PW D M V d (v+w) (pk c l):=by intro u hu;obtain⟨t,e,rfl⟩:=aeN.1 hu;exact⟨(h t e).1,hc.mul (h t e).2⟩
def jx(a b:List cU):List cU:=a.flatMap λt=>b.map λu=>⟨t.c*u.c,List.zipWith (·+ ·) t.pw u.pw⟩
def lP(a b:List cU):List cU:=fX<|jx a b
def L8:∀{a b:List Int},a.length=b.length->(List.zipWith (·+ ·) a b).sum=a.sum+b.sum
 |[],[],_=>I
 |[],_::_,h=>by cases h
 |_::_,[],h=>by cases h
 |x::a,y::b,h=>by have:=L8 (a:=a) (b:=b) (by simpa using h);simp;omega
def A1:∀{a b:List Int},(∀x∈a,0<=x)->(∀x∈b,0<=x)->∀x∈List.zipWith (·+ ·) a b,0<=x
 |[],_,_,_,_,e=>by cases e
 |_::_,[],_,_,_,e=>by cases e
 |y::a,z::b,g,f,x,e=>by
  have i:=g y I;have h:=f z I;rcases adZ.1 e with rfl|e
  ·show 0<=y+z;omega
  exact A1 (λx e=>g x<|by simp[e]) (λx e=>f x<|by simp[e]) x e
def VY.zip{e:Int}(g:VY V d a)(f:VY V e b):VY V (d+e) (List.zipWith (·+ ·) a b):=by refine⟨by rw[List.length_zipWith,g.1,f.1];omega,A1 g.2.1 f.2.1,?_⟩;rw[L8<|g.1.trans f.1.symm];have:=g.2.2;have:=f.2.2;omega
def PW.mul{e:Int}{a b:List cU}(h:PW D M V d w a)(g:PW D M V e v b):PW D M V (d+e) (w+v) (jx a b):=by intro u hu;obtain⟨t,f,hu⟩:=agc.1 hu;obtain⟨s,hs,rfl⟩:=aeN.1 hu;exact⟨(h t f).1.zip (g s hs).1,by simpa using(h t f).2.mul (g s hs).2⟩
def QT(a b:List cU):(jx a b).length=a.length*b.length:=sA (λt=>I) a
def zV(v:Nat)(t:cU):List cU:=if 0<t.pw.getD v 0 then[⟨t.c*((t.pw.getD v 0:Int):Rat),t.pw.set v<|t.pw.getD v 0-1⟩]else[]
def pM(p:List cU)(v:Nat):List cU:=p.flatMap<|zV v
def tT(p:List cU)(v:Nat):List cU:=fX<|pM p v
def FK:∀{a:List Int}{v:Nat}{x:Int},v<a.length->(a.set v x).sum=a.sum-a.getD v 0+x
 |[],_,_,h=>by cases h
 |y::a,0,x,_=>by simp;omega
 |y::a,v+1,x,h=>by
  have:=FK (a:=a) (v:=v) (x:=x) (by simpa using h)
  grind
def Iu{x y:Int}(h:y∈a.set v x):y∈a\/y=x:=ah4 h
def Wn.int(n:Int):Wn D M n.natAbs 0 (n:Rat):=⟨n,I,I⟩
def PW.der{p:List cU}(g:pY D M k)(h:PW D M V d w p)(z:d<=6)(v:Nat)(s:v<V):PW D M V (d-1) (w+1) (pM p v):=by
 intro u hu;obtain⟨t,e,hu⟩:=agc.1 hu;obtain⟨⟨o,j,A⟩,i⟩:=h t e;unfold zV at hu;split at hu
 ·rename_i y;have hm:t.pw.getD v 0∈t.pw:=bw E;have f:=kX j _ hm;rw[agl]at hu;subst hu;refine⟨⟨by simpa using o,λx r=>?_,?_⟩,?_⟩
  ·grind
  ·rw[FK E];omega
  have:=i.mul<|Wn.int (D:=D) (M:=M)<|t.pw.getD v 0;exact this.one g E
 cases hu
def CK(p:List cU)(v:Nat):(pM p v).length<=p.length:=by
 unfold pM
 induction p with
 |nil=>simp
 |cons t p e=>
  have:(zV v t).length<=1:=by unfold zV;split<;>simp
  grind
def aaa(c:Rat)(n:Nat):List cU:=if c=0 then[]else[⟨c,List.replicate (n+1) 0⟩]
def vm(v n:Nat):List cU:=[⟨1,(List.replicate (n+1) 0).set v 1⟩]
def TD(n:Nat):(List.replicate n (0:Int)).sum=0:=by simp
def b8.const(h:Wn D M 1 w c):b8 D M (n+1) 0 w (aaa c n):=by
 unfold aaa;split
 ·exact b8.nil
 refine⟨List.pairwise_singleton _ _,λu hu=>?_⟩;simp at hu;subst hu;exact⟨⟨I,λx e=>eW,I⟩,h⟩
def Wn.WA:Wn D M 1 0 1:=⟨1,I,I⟩
def b8.var(f:v<=n):b8 D M (n+1) 1 0 (vm v n):=by
 refine⟨List.pairwise_singleton _ _,λu hu=>?_⟩;simp[vm]at hu;subst hu;refine⟨⟨I,λx e=>?_,?_⟩,Wn.WA⟩
 ·grind
 show(List.set _ _ _).sum<=1;rw[FK<|by simp;omega];simp[ahl];split<;>simp
end
section
variable{a b:List Int}{p:List cU}{K L V i v:Nat}
def qy(l:List cU)(h:vj V K l)(hn:l.length<2^50)(j:K+K+1<2^34):aM Tryz.prog 215 [di false l] (di false<|fX l):=by
 refine bS Tryz.func215 W<|r0 W<|ra (λi:Nat=>[(0,di false l),(3,di false<|fX<|l.take i),(4,.i i)]) (λi=>i<=l.length) (λi=>l.length-i) 0 (adk _) ?_;intro i hi;refine bQ W W ?_ ?_<;>intro e
 ·have c:i<l.length:=E;have f:(i:Int).toNat=i:=E;have g:l.getD i default=l[i]:=au c;obtain⟨d,k⟩:=h.2 (l.take i)<|List.take_prefix _ _;refine qp W<|cl W (by rw[f,g];rfl) (zp (fX<|l.take i) l[i] (V:=V) (K:=K) d (h.1 _<|adC c) E E) W ?_;rw[<-KR c];refine qp W<|gS (i+1) E
 refine bK W W<|ar.of_eq<|congrArg (di false) ?_
 grind
def mc(a b:List cU)(h:vj V K (a++b))(hn:a.length+b.length<2^40)(c:K+K+1<2^34):
 aM Tryz.prog 129 [di false a,di false b] (di false<|DS a b):=by
 refine bS Tryz.func129 W<|r1 W (by simp[bo,len];refine⟨λx=>rfl,λx=>rfl,?_,λx=>rfl,λx=>rfl,?_⟩<;>omega) ?_;refine JJ W W U (by refine⟨⟨W,W,?_⟩,U⟩;rw[uy,nE λ_=>rfl,nE λ_=>rfl,cX,<-aeY]) (qy (a++b) h (by grind) c) W ?_
 refine bN W W
def NY{c:Rat}(h:i<p.length):pk c (p.take<|i+1)=pk c (p.take i)++[⟨c*p[i].c,p[i].pw⟩]:=by unfold pk;rw[aey h,aeY];rfl
def HM(c:Rat)(p:List cU):(pk c p).length=p.length:=by unfold pk;simp
def mF(c:Rat)(p:List cU)(hc:Sz c L)(k:∀u∈p,Di V K u)(h:vj V K (pk c p))(hn:p.length<2^40)(l:K+K+1<2^34)(n:L+K<2^34):
 aM Tryz.prog 130 [.s<|qt c,di false p] (di false<|kJ c p):=by
 refine bS Tryz.func130 W<|r0 W<|ra (λi:Nat=>[(0,.s<|qt c),(1,di false p),(5,di true<|pk c<|p.take i),(6,.i i)]) (λi=>i<=p.length) (λi=>p.length-i) 0 (adk _) ?_;intro i hi;refine bQ W W ?_ ?_<;>intro m
 ·have d:i<p.length:=E;have g:(i:Int).toNat=i:=E;have j:p.getD i default=p[i]:=au d;have f:=k _<|adC d;have hl:(pk c<|p.take i).length=i:=by rw[HM,afm];omega
  refine qp W<|cd W (by rw[g,j];rfl) (gi c p[i].c hc f.2.2 E) W ?_;refine II W ?_ (by simp[bo,and_true,g,len,hl,aeW,adX,aeg]<;>omega);refine gS (i+1) E ⟨G,G,⟨W,W,W,?_⟩,G,U⟩;rw[g,j,cX,NY d,aeY];exact jC.append (jC.refl _) ⟨.inr W,W⟩
 have e:pk c (p.take i)=pk c p:=by grind
 rw[e];refine bP W W (qy (pk c p) h (by rw[HM];omega) l) W ?_;refine bN W W
def rT(t u:cU):cU:=⟨t.c*u.c,List.zipWith (·+ ·) t.pw u.pw⟩
def Eu{a b:List cU}(h:i<a.length):jx (a.take<|i+1) b=jx (a.take i) b++b.map (rT a[i]):=by unfold jx;rw[aey h,aiu];simp[rT]
def Iq{a b:List cU}{k:Nat}(h:i<a.length):jx (a.take i) b++(b.take k).map (rT a[i]) <+:jx a b:=by
 have c:jx (a.take<|i+1) b <+:jx a b:=by
  conv=>rhs;rw[<-agE (i+1) a]
  unfold jx;grind
 refine List.IsPrefix.trans ?_ c;rw[Eu h];exact(List.prefix_append_right_inj _).2<|(List.take_prefix k b).map _
def KS(l:List cU)(t:cU):fX (l++[t])=mn (fX l) t:=by unfold fX;simp
def rD(a b:List Int)(v:Nat):List Int:=List.zipWith (·+ ·) (a.take v) (b.take v)++a.drop v
def NG(h:a.length=b.length)(v:Nat):(rD a b v).length=a.length:=by unfold rD;simp;omega
def A2(h:a.length=b.length)(c:v<a.length):(rD a b v).getD v 0=a.getD v 0:=by
 have hl:(List.zipWith (·+ ·) (a.take v)<|b.take v).length=v:=by simp;omega
 unfold rD
 grind
def NF(h:a.length=b.length)(c:v<a.length):(rD a b v).set v (a.getD v 0+b.getD v 0)=rD a b (v+1):=by
 have hl:(List.zipWith (·+ ·) (a.take v)<|b.take v).length=v:=by simp;omega
 unfold rD;rw[aif _ _ E,hl,agY,aeE c,aey c,aey (h▸c),
  List.zipWith_append (by simp;omega),au c,au (h▸c),aeZ]
 rfl
def NH(h:a.length=b.length):rD a b a.length=List.zipWith (·+ ·) a b:=by unfold rD;grind
def oS(a b:List cU){M:Nat}(z:∀u∈a,Di V L u)(x:∀u∈b,Di V M u)(h:vj V K (jx a b))(w:a.length<2^40)(t:b.length<2^40)(Q:V<2^40)(R:K+K+1<2^34)(A:L+M<2^34):
 aM Tryz.prog 132 [di false a,di false b] (di false<|lP a b):=by
 refine bS Tryz.func132 W<|r0 W<|ra (λi:Nat=>[(0,di false a),(1,di false b),(5,di false<|fX<|jx (a.take i) b),(6,.i i)]) (λi=>i<=a.length) (λi=>a.length-i) 0 (adk _) ?_;intro i hi;refine bQ W W ?_ ?_<;>intro H
 ·have f:i<a.length:=E;have r:(i:Int).toNat=i:=E;have s:a.getD i default=a[i]:=au f;have j:=z _<|adC f;refine bM W (λk:Nat=>[(0,di false a),(1,di false b),(5,di false<|fX<|jx (a.take i) b++(b.take k).map (rT a[i])),(6,.i i),(7,.i k)]) (λk=>k<=b.length) (λk=>b.length-k) 0 (adk _) ⟨G,G,⟨W,ar.of_eq<|congrArg (di false) I⟩,G,G,U⟩ ?_;intro k P;refine bQ W W ?_ ?_<;>intro F
  ·have g:k<b.length:=E;have n:(k:Int).toNat=k:=E;have m:b.getD k default=b[k]:=au g;have l:=x _<|adC g;have c:a[i].pw.length=b[k].pw.length:=j.1.trans l.1.symm;have y:=j.2.1.1;have q:fX (jx (a.take i) b++(b.take<|k+1).map (rT a[i]))=mn (fX<|jx (a.take i) b++(b.take k).map (rT a[i])) (rT a[i] b[k]):=by
    rw[aey g,aeY,<-aeZ];exact KS _ _
   obtain⟨D,S⟩:=h.2 _<|Iq (b:=b) (k:=k) f;have C:Di V K (rT a[i] b[k]):=h.1 _ (by refine agc.2 ⟨a[i],adC f,?_⟩;exact aeN.2 ⟨b[k],adC g,W⟩)
   refine r1 W (by simp only[bo,and_true,r,s,len,aeg];omega) ?_;rw[r,s];refine loop (λv:Nat=>[(0,di false a),(1,di false b),(5,di false<|fX<|jx (a.take i) b++(b.take k).map (rT a[i])),(6,.i i),(7,.i k),(8,.ints .i64 true<|rD a[i].pw b[k].pw v),(9,.i v)])
    (λv=>v<=a[i].pw.length) (λv=>a[i].pw.length-v) 0 (adk _) ⟨G,G,G,G,G,⟨W,ar.of_eq<|congrArg (SV.ints .i64 true)<|by simp[rD,cX]⟩,G,U⟩ ?_
   intro v O;have o:=NG c v;refine bQ W W ?_ ?_<;>intro B
   ·have e:v<a[i].pw.length:=E;have ev:(v:Int).toNat=v:=E;have N:=j.2.1.2 _<|bw (d:=0) e;have J:=l.2.1.2 _<|bw (d:=0) (c▸e);refine II W ?_ (by simp only[bo,and_true,n,m,ev,A2 c e,o];omega);refine gS (v+1) E ⟨G,G,G,G,G,⟨W,ar.of_eq<|congrArg (SV.ints .i64 true) ?_⟩,G,U⟩;rw[n,m,ev,A2 c e,NF c e]
   have ev:v=a[i].pw.length:=E;subst ev;rw[NH c];refine qp W<|cd W (by rw[r,n,s,m];rfl) (gi a[i].c b[k].c j.2.2 l.2.2 A) W ?_;refine qp W<|bH W (zp (fX<|jx (a.take i) b++(b.take k).map (rT a[i])) (rT a[i] b[k]) (V:=V) (K:=K) D C E E) W ?_;rw[<-q];refine II W<|gS (k+1) E
  have n:k=b.length:=E;refine qp W<|gS (i+1) E ⟨G,G,⟨W,ar.of_eq<|congrArg (di false) ?_⟩,G,U⟩;rw[Eu f,n,afA]
 refine bK W W<|ar.of_eq<|congrArg (di false) ?_;rw[adM E];rfl
def E0(h:i<p.length):pM (p.take<|i+1) v=pM (p.take i) v++zV v p[i]:=by unfold pM;rw[aey h,aiu];simp
def pL(p:List cU)(v:Nat)(r:∀u∈p,Di V L u)(h:vj V K (pM p v))(o:v<V)(hn:p.length<2^40)(t:K+K+1<2^34)(s:L+3<2^34):
 aM Tryz.prog 217 [di false p,.i v] (di false<|tT p v):=by
 refine bS Tryz.func217 W<|r0 W<|ra (λi:Nat=>[(0,di false p),(1,.i v),(5,di true<|pM (p.take i) v),(6,.i i)]) (λi=>i<=p.length) (λi=>p.length-i) 0 (adk _) ?_;intro i hi;refine bQ W W ?_ ?_<;>intro w
 ·have g:i<p.length:=E;have k:(i:Int).toNat=i:=E;have l:p.getD i default=p[i]:=au g;have f:=r _<|adC g;have hl:(pM (p.take i) v).length<=i:=ad0 (CK _ _) eW;have c:(v:Int).toNat=v:=E;have m:v<p[i].pw.length:=by rw[f.1];exact o
  have x:=f.2.1.2 _<|bw (d:=0) m;have q:=f.2.1.1;refine r1 W (by simp only[bo,and_true,k,l,c];omega) ?_;refine gb W ?_ ?_<;>intro j
  ·rw[k,l,c]at j;have j:0<p[i].pw.getD v 0:=j;have n:Sz ((p[i].pw.getD v 0:Int):Rat) 3:=by
    refine⟨?_,?_⟩
    ·rw[Rat.num_intCast];exact jn E
    rw[Rat.den_intCast,iG];decide
   refine r1 W (by simp only[bo,and_true,k,l,c,len];omega) ?_;refine cd W (by rw[k,l,c];rfl) (ug (p[i].pw.getD v 0) E) W ?_;refine qp W<|cd W (by rw[k,l];rfl) (gi p[i].c ((p[i].pw.getD v 0:Int):Rat) f.2.2 n s) W ?_;refine II W ?_ (by simp[bo,and_true,k,len,aeW,adX,aeg]<;>omega);refine gS (i+1) E ⟨G,G,⟨W,W,W,?_⟩,G,U⟩;rw[k,l,c,cX,E0 g,aeY,zV,if_pos j];exact jC.append (jC.refl _) ⟨.inr W,W⟩
  rw[k,l,c]at j;have j:¬0<p[i].pw.getD v 0:=j;refine qp W<|gS (i+1) E ⟨G,G,⟨W,ar.of_eq<|congrArg (di true) ?_⟩,G,U⟩;rw[E0 g,zV,if_neg j,afN]
 have e:pM (p.take i) v=pM p v:=by grind
 rw[e];refine bP W W (qy (pM p v) h (by have:=CK p v;omega) t) W ?_;refine bN W W
def sN(c:Rat)(n:Nat)(hn:n<2^40):aM Tryz.prog 131 [.s<|qt c,.i n] (di false<|aaa c n):=by
 refine bS Tryz.func131 W<|bP W W (mY c) W<|ni W W W ?_ ?_<;>intro h
 ·have h:c=0:=by simpa using h
  refine bK W W ?_;unfold aaa;rw[if_pos h];exact W
 have h:¬c=0:=by simpa using h
 refine qp W ?_;unfold aaa;rw[if_neg h];refine TA W<|kL
def rE(v n:Nat)(c:v<=n)(hn:n<2^40):aM Tryz.prog 126 [.i v,.i n] (di false<|vm v n):=by
 refine bS Tryz.func126 W<|r1 W (by simp[bo];omega) ?_;have e:(vm v n).map Lu=[SV.agg [.s [49],.ints .i64 false<|(List.replicate (n+1) 0).set v 1]]:=by simp[vm,Lu,KH]
 refine TA W<|⟨W,W,e.symm⟩
noncomputable def uT(p:List cU):Int:=if(∃u∈p,12<u.pw.sum)then 4 else if 64<p.length then 5 else if∃u∈p,uS u.c≠0 then 4 else 0
def Aq(p:List cU)(l:∀u∈p,Di V K u)(hn:p.length<2^50)(n:K<2^36):aM Tryz.prog 134 [di false p] (.i<|uT p):=by
 refine bS Tryz.func134 W<|cx 2 [(0,di false p)] (¬∃u∈p,12<u.pw.sum) ?_ λm=>?_
 ·refine r0 W<|ra (λi:Nat=>[(0,di false p),(3,.i i)]) (λi=>i<=p.length/\¬∃u∈p.take i,12<u.pw.sum) (λi=>p.length-i) 0 ⟨adk _,I⟩ ?_;rintro i⟨hi,e⟩;refine bQ W W ?_ ?_<;>intro g
  ·have c:i<p.length:=E;have j:(i:Int).toNat=i:=E;have k:p.getD i default=p[i]:=au c;have d:=l _<|adC c;refine qp W<|cl W (by rw[j,k];rfl) (kY p[i].pw d.2.1) W ?_;refine bQ W W ?_ ?_<;>intro f
   ·refine bK W W<|bR ?_;unfold uT;rw[if_pos ⟨_,adC c,f⟩]
   refine qp W<|gS (i+1) ⟨E,?_⟩;rw[aey c]
   grind
  refine r0 W ?_;rw[adM E]at e;exact gm e
 have h:uT p=if 64<p.length then 5 else if∃u∈p,uS u.c≠0 then 4 else 0:=by unfold uT;rw[if_neg m]
 refine bQ W W ?_ ?_<;>intro g
 ·refine bK W W<|ar.of_eq<|congrArg SV.i E
 rw[if_neg E]at h;refine r0 W<|ra (λi:Nat=>[(0,di false p),(4,.i i)]) (λi=>i<=p.length/\¬∃u∈p.take i,uS u.c≠0) (λi=>p.length-i) 0 ⟨adk _,I⟩ ?_;rintro i⟨hi,e⟩;refine bQ W W ?_ ?_<;>intro g
 ·have c:i<p.length:=E;have j:(i:Int).toNat=i:=E;have k:p.getD i default=p[i]:=au c;have d:=l _<|adC c;refine qp W<|cl W (by rw[j,k];rfl) (IH p[i].c d.2.2 n) W ?_;refine bQ W W ?_ ?_<;>intro f
  ·refine bK W W<|bR ?_;rw[h,if_pos ⟨_,adC c,f⟩]
  refine qp W<|gS (i+1) ⟨E,?_⟩;rw[aey c]
  grind
 refine r0 W ?_;rw[adM E]at e;exact aE W<|ar.of_eq<|congrArg SV.i<|by rw[h,if_neg e]
def ll(bd:List (List cU))(p:List cU):Nat->List cU
 |0=>tT p 0
 |i+1=>DS (ll bd p i)<|lP (tT p<|i+1)<|bd.getD i []
def mO(bd:List (List cU))(p:List cU):List cU:=ll bd p bd.length
structure Y0(V K:Nat)(bd:List (List cU))(p:List cU):Prop where
 d0:vj V K (pM p 0)
 d:∀i,i<bd.length->vj V K (pM p<|i+1)
 m:∀i,i<bd.length->vj V K (jx (tT p<|i+1)<|bd.getD i [])
 a:∀i,i<bd.length->vj V K (ll bd p i++lP (tT p<|i+1) (bd.getD i []))
 r:∀i,i<bd.length->(∀u∈bd.getD i [],Di V K u)/\(bd.getD i []).length<2^40
def vj.norm{l:List cU}(h:vj V K l):(∀u∈fX l,Di V K u)/\(fX l).length<2^30:=h.2 l<|List.prefix_refl l
def n5(own:Bool)(l:List (List cU)):SV:=.bA own 1 default (di false) l
end
structure Hi where
 sh:Int
 dZ:hO
 deriving Inhabited
def oX(f:Hi):SV:=.agg [.i f.sh,.s f.dZ]
structure bT where
 kind:hO
 ah:List Hi
 out:Int
 k:hO
 dI:List hO
 deriving Inhabited
def dQ(u:bT):SV:=.agg [.s u.kind,.bA false 2 default oX u.ah,.i u.out,.s u.k,.strs false u.dI]
structure gV where
 n:Int
 aa:List bT
 ints:List Int
 deriving Inhabited
def bh(p:gV):SV:=.agg [.i p.n,.bA false 5 default dQ p.aa,.ints .i64 false p.ints]
def bq:hO:=[105,110,116,101,103,114,97,116,111,114]
def jz:hO:=[97,100,100,101,114]
def dy:hO:=[116,97,98,108,101]
structure XH(u:bT):Prop where
 ah:u.ah.length<2^40
 dZ:∀f∈u.ah,ct f.dZ
 k:ct u.k
 dI:u.dI.length<2^40
 Kj:∀s∈u.dI,ct s
structure rA(p:gV):Prop where
 aa:p.aa.length<2^40
 unit:∀u∈p.aa,XH u
 ints:p.ints.length<2^40
def oD(p:gV)(h:rA p):aM Tryz.prog 50 [bh p] (.i<|p.aa.countP λu=>decide (u.kind=bq)):=by
 have hl:=h.aa;refine bS Tryz.func50 W<|r0 W<|ra (λi:Nat=>[(1,.box true<|bh p),(3,.i<|(p.aa.take i).countP λu=>decide (u.kind=bq)),(4,.i i)]) (λi=>i<=p.aa.length) (λi=>p.aa.length-i) 0 (adk _) ?_;intro i hi;have hc:((p.aa.take i).countP λu=>decide (u.kind=bq))<=i:=ad0 agG (by simp;omega);refine bQ W W ?_ ?_<;>intro e
 ·have b:i<p.aa.length:=E;have c:(i:Int).toNat=i:=E;have d:p.aa.getD i default=p.aa[i]:=au b;have hs:((p.aa.take<|i+1).countP λu=>decide (u.kind=bq))=((p.aa.take i).countP λu=>decide (u.kind=bq))+(if p.aa[i].kind=bq then 1 else 0):=by
   rw[aey b,agZ,aih];simp
  refine r1 W (by simp[bo,and_true,c];omega) ?_;refine gb W ?_ ?_<;>intro a
  ·rw[c,d]at a;have a:p.aa[i].kind=bq:=a;rw[if_pos a]at hs;refine r1 W (by simp[bo,and_true];omega) ?_;exact again (i+1) E E ⟨G,⟨W,ar.of_eq<|congrArg SV.i<|by rw[hs];omega⟩,G,U⟩
  rw[c,d]at a;have a:¬p.aa[i].kind=bq:=a;rw[if_neg a]at hs;refine r1 W (by simp[bo,and_true];omega) ?_;exact again (i+1) E E ⟨G,⟨W,ar.of_eq<|congrArg SV.i<|by rw[hs];omega⟩,G,U⟩
 refine bK W W<|bR ?_
 grind
noncomputable def gu(n:Int)(f:Hi):Int:=if f.sh<0\/n<=f.sh then 10 else if aL f.dZ≠0 then aL f.dZ else if bV f.dZ=0 then 6 else 0
def jT(u:bT)(lo hi:Int):Prop:=(u.ah.length:Int)<lo\/hi<u.ah.length\/(u.kind=dy/\(u.dI.length<1\/13<u.dI.length))\/(u.kind≠dy/\0<u.dI.length)
instance(u:bT)(lo hi:Int):Decidable (jT u lo hi):=by unfold jT;infer_instance
def Dh(u:bT):Int:=if u.kind=bq then 2 else 1
def xq(u:bT):Int:=if u.kind=bq then 2 else if u.kind=jz then 8 else 1
noncomputable def fW(n:Int)(u:bT):Int:=
 if u.kind≠bq/\u.kind≠jz/\u.kind≠dy then 13
 else if jT u (Dh u) (xq u)then 2
 else if aK (gu n) u.ah≠0 then aK (gu n) u.ah
 else if u.out<1\/n<=u.out then 10
 else if aL u.k≠0 then aL u.k else aK aL u.dI
def Az(p:gV)(u:bT)(hu:XH u):aM Tryz.prog 102 [bh p,dQ u] (.i<|fW p.n u):=by
 have x:=hu.ah;have w:=hu.dI;refine bS Tryz.func102 W<|cx 3 [(2,.box true<|bh p),(3,.box true<|dQ u),(5,.i<|Dh u),(6,.i<|xq u)] (u.kind=bq\/u.kind=jz\/u.kind=dy) ?_ λB=>?_
 ·refine bQ W W ?_ ?_<;>intro h
  ·have h:u.kind=bq:=h;refine bL W (.inl h) ⟨G,G,⟨W,ar.of_eq<|congrArg SV.i<|by unfold Dh;rw[if_pos h]⟩,⟨W,ar.of_eq<|congrArg SV.i<|by unfold xq;rw[if_pos h]⟩,U⟩
  have h:¬u.kind=bq:=h;refine bQ W W ?_ ?_<;>intro j
  ·have j:u.kind=jz:=j;refine bL W (.inr<|.inl j) ⟨G,G,⟨W,ar.of_eq<|congrArg SV.i<|by unfold Dh;rw[if_neg h]⟩,⟨W,ar.of_eq<|congrArg SV.i<|by unfold xq;simp_all⟩,U⟩
  have j:¬u.kind=jz:=j;refine bQ W W ?_ ?_<;>intro a
  ·have a:u.kind=dy:=a;refine bL W (.inr<|.inr a) ⟨G,G,⟨W,ar.of_eq<|congrArg SV.i<|by unfold Dh;rw[if_neg h]⟩,⟨W,ar.of_eq<|congrArg SV.i<|by unfold xq;simp_all⟩,U⟩
  have a:¬u.kind=dy:=a;refine bK W W<|ar.of_eq<|congrArg SV.i<|by unfold fW;simp_all
 have c:fW p.n u=if jT u (Dh u) (xq u)then 2
  else if aK (gu p.n) u.ah≠0 then aK (gu p.n) u.ah
  else if u.out<1\/p.n<=u.out then 10
  else if aL u.k≠0 then aL u.k else aK aL u.dI:=by
  unfold fW;grind
 generalize Dh u=lo at*;generalize xq u=hi at*;refine cx 2 [(2,.box true<|bh p),(3,.box true<|dQ u)] (¬jT u lo hi) ?_ λv=>?_
 ·have k:jT u lo hi->(2:Int)=fW p.n u:=eW;refine bJ W 28 W ?_ ?_<;>intro h
  ·refine bK W W<|ar.of_eq<|congrArg SV.i<|k<|.inl E
  refine bJ W 35 W ?_ ?_<;>intro j
  ·refine bK W W<|ar.of_eq<|congrArg SV.i<|k<|.inr<|.inl E
  refine bJ W 39 W ?_ ?_<;>intro a
  ·have a:u.kind=dy:=a;refine bJ W 42 W ?_ ?_<;>intro b
   ·refine bK W W<|ar.of_eq<|congrArg SV.i<|k<|.inr<|.inr<|.inl ⟨a,E⟩
   refine bJ W 48 W ?_ ?_<;>intro l
   ·refine bK W W<|ar.of_eq<|congrArg SV.i<|k<|.inr<|.inr<|.inl ⟨a,E⟩
   refine bJ W 52 W (λd=>absurd a d) λd=>?_;refine r0 W<|gm ?_;rintro(g|g|g|g)
   ·omega
   ·omega
   ·have:=g.2;omega
   exact g.1 a
  have a:¬u.kind=dy:=a;refine bJ W 52 W (λd=>?_) λd=>absurd a d;refine bQ W W ?_ ?_<;>intro y
  ·refine bK W W<|ar.of_eq<|congrArg SV.i<|k<|.inr<|.inr<|.inr ⟨a,E⟩
  refine r0 W<|gm ?_;rintro(g|g|g|g)
  ·omega
  ·omega
  ·exact a g.1
  have:=g.2;omega
 rw[if_neg v]at c;refine r0 W<|ra (λi:Nat=>[(2,.box true<|bh p),(3,.box true<|dQ u),(8,.i i)]) (λi=>i<=u.ah.length/\aK (gu p.n) u.ah=aK (gu p.n) (u.ah.drop i)) (λi=>u.ah.length-i) 0 ⟨adk _,W⟩ ?_;rintro i⟨hi,s⟩;refine bQ W W ?_ ?_<;>intro z
 ·have m:i<u.ah.length:=E;have t:(i:Int).toNat=i:=E;have A:u.ah.getD i default=u.ah[i]:=au m;rw[dA _ m]at s;have o:=hu.dZ _<|adC m;refine r1 W (by simp only[bo,and_true,t];omega) ?_;rw[t,A];generalize u.ah[i]=f at*;have k:gu p.n f≠0->gu p.n f=fW p.n u:=by
   omega
  refine aC 72 W ?_ ?_<;>intro j
  ·have e:gu p.n f=10:=by unfold gu;rw[if_pos<|.inl j]
   refine bK W W<|ar.of_eq<|congrArg SV.i E
  refine bQ W W ?_ ?_<;>intro a
  ·have e:gu p.n f=10:=by unfold gu;rw[if_pos<|.inr a]
   refine bK W W<|ar.of_eq<|congrArg SV.i E
  have q:gu p.n f=if aL f.dZ≠0 then aL f.dZ else if bV f.dZ=0 then 6 else 0:=by unfold gu;omega
  refine bP W W (check_sound f.dZ o) W<|bJ W 84 W ?_ ?_<;>intro b
  ·have b:aL f.dZ=0:=b;rw[if_neg<|by rw[b];simp]at q;refine r0 W ?_;have r:=mY<|bV f.dZ;rw[fZ b]at r;refine bG W r W<|r0 W<|ni W W W ?_ ?_<;>intro l
   ·have l:bV f.dZ=0:=by simpa using l
    rw[if_pos l]at q;refine bQ W W (λ_=>?_) λd=>absurd fh d;refine bK W W<|ar.of_eq<|congrArg SV.i E
   have l:¬bV f.dZ=0:=by simpa using l
   rw[if_neg l]at q;rw[if_neg<|by rw[q];simp]at s;refine bQ W W (λd=>absurd b d) λd=>?_;refine r1 W (by simp only[bo,and_true];omega) ?_;exact gS (i+1) ⟨E,s⟩
  have b:¬aL f.dZ=0:=b;rw[if_pos b]at q;refine bQ W W (λd=>?_) λd=>absurd b<|by simpa using d
  refine bK W W<|ar.of_eq<|congrArg SV.i E
 have r:aK (gu p.n) u.ah=0:=by rw[s,afi E];rfl
 rw[if_neg<|by rw[r];simp]at c;refine bJ W 95 W ?_ ?_<;>intro j
 ·refine bK W W<|ar.of_eq<|congrArg SV.i E
 refine bQ W W ?_ ?_<;>intro a
 ·refine bK W W<|ar.of_eq<|congrArg SV.i E
 rw[if_neg E]at c;refine bP W W (check_sound u.k hu.k) W<|bQ W W ?_ ?_<;>intro b
 ·have b:aL u.k=0:=b;rw[if_neg<|by rw[b];simp]at c;refine bP W W (CX u.dI hu.Kj E) W<|bK W W<|ar.of_eq<|congrArg SV.i c.symm
 have b:¬aL u.k=0:=b;rw[if_pos b]at c;refine bK W W<|ar.of_eq<|congrArg SV.i c.symm
def wx(xs:List Int)(n:Int)(hl:xs.length<2^60):aM Tryz.prog 177 [.ints .i64 false xs,.i n] (.u<|decide (n∈xs)):=by
 refine bS Tryz.func177 W<|r0 W<|ra (λi:Nat=>[(0,.ints .i64 false xs),(1,.i n),(5,.i i)]) (λi=>i<=xs.length/\(n∈xs↔n∈xs.drop i)) (λi=>xs.length-i) 0 ⟨adk _,Iff.rfl⟩ ?_;rintro i⟨hi,c⟩;refine bQ W W ?_ ?_<;>intro f
 ·have b:i<xs.length:=E;have d:(i:Int).toNat=i:=E;have g:xs.getD i 0=xs[i]:=au b;rw[aeE b,adZ]at c;refine r1 W (by simp[bo,d];omega) ?_;rw[d,g];refine gb W ?_ ?_<;>intro a
  ·have a:xs[i]=n:=a;refine bK W W ?_;show true=_;simp_all
  have a:¬xs[i]=n:=a;refine r1 W (by simp[bo];omega) ?_;exact gS (i+1) ⟨E,c.trans ⟨λh=>h.resolve_left λe=>a e.symm,.inr⟩⟩
 refine bK W W ?_;show false=_
 grind
def cR(u:bT):List Hi:=if u.kind=bq then u.ah.drop 1 else u.ah
def wb(u:bT)(hu:XH u)(a:u.kind=bq->1<=u.ah.length):aM Tryz.prog 178 [dQ u] (.bA false 2 default oX<|cR u):=by
 refine bS Tryz.func178 W<|bQ W W ?_ ?_<;>intro h
 ·have h:u.kind=bq:=h;have:=a h;refine r1 W (by simp[bo];omega) ?_;have e:(u.ah.drop (1:Int).toNat).take (u.ah.length-(1:Int).toNat)=cR u:=by unfold cR;rw[if_pos h];exact adM I
  exact aE W<|ar.of_eq<|congrArg (SV.bA false 2 default oX) e
 have h:¬u.kind=bq:=h;refine bK W W<|ar.of_eq<|congrArg (SV.bA false 2 default oX)<|by unfold cR;rw[if_neg h]
def cB(s:Int):Nat->List bT->Int
 |_,[]=> -1
 |k,u::r=>if u.out=s then k else cB s (k+1) r
def eh(us:List bT)(s:Int):Int:=cB s 0 us
def GM(p:gV)(h:rA p)(s:Int):aM Tryz.prog 179 [bh p,.i s] (.i<|eh p.aa s):=by
 have hl:=h.aa;refine bS Tryz.func179 W<|r0 W<|ra (λi:Nat=>[(1,.i s),(2,.box true<|bh p),(5,.i i)]) (λi=>i<=p.aa.length/\eh p.aa s=cB s i (p.aa.drop i)) (λi=>p.aa.length-i) 0 ⟨adk _,W⟩ ?_;rintro i⟨hi,b⟩;refine bQ W W ?_ ?_<;>intro e
 ·have c:i<p.aa.length:=E;have d:(i:Int).toNat=i:=E;have f:p.aa.getD i default=p.aa[i]:=au c;rw[aeE c,cB]at b;refine r1 W (by simp[bo,d];omega) ?_;rw[d,f];refine gb W ?_ ?_<;>intro a
  ·have a:p.aa[i].out=s:=a;rw[if_pos a]at b;refine bK W W<|ar.of_eq<|congrArg SV.i b.symm
  have a:¬p.aa[i].out=s:=a;rw[if_neg a]at b;refine r1 W (by simp[bo,and_true];omega) ?_;exact gS (i+1) ⟨E,b⟩
 refine bK W W<|bR ?_;rw[b,afi E];rfl
def wN{s:Int}:∀{us:List bT}{k:Nat},cB s k us<(k+us.length:Nat)
 |[],k=>by simp[cB];omega
 |u::r,k=>by have:=wN (s:=s) (us:=r) (k:=k+1);simp[cB];split<;>omega
def yo(us:List bT)(s:Int):eh us s<us.length:=by have:=wN (s:=s) (us:=us) (k:=0);unfold eh;omega
def kP(us:List bT)(out:List Int)(f:Hi):Bool:=decide (eh us f.sh<0\/eh us f.sh∈out)
def jV(us:List bT)(out:List Int)(j:Nat):Bool:=decide (¬(j:Int)∈out)&&(cR<|us.getD j default).all (kP us out)
def cY(us:List bT)(out:List Int)(j:Nat):Int:=if j<us.length then(if jV us out j=true then(j:Int)else cY us out (j+1))else -1
 termination_by us.length-j
def jH{us:List bT}{out:List Int}{j:Nat}(h:j<us.length):cY us out j=if jV us out j=true then(j:Int)else cY us out (j+1):=by rw[cY,if_pos h]
def mV{us:List bT}{out:List Int}{j:Nat}(h:us.length<=j):cY us out j= -1:=by rw[cY,if_neg E]
def oR(us:List bT)(out:List Int)(j:Nat):cY us out j= -1\/∃i:Nat,cY us out j=i/\j<=i/\i<us.length/\jV us out i=true:=by
 induction hm:us.length-j generalizing j with
 |zero=>exact .inl (mV E)
 |succ m a=>
  rw[jH E]
  grind
def ew(us:List bT):Nat->List Int->List Int
 |0,out=>out
 |k+1,out=>if cY us out 0<0 then out else ew us k (out++[cY us out 0])
def az(us:List bT):List Int:=ew us (us.length+1) []
def vX{us:List bT}{out:List Int}(hn:out.Nodup)(b:∀x∈out,0<=x/\x<us.length):out.length<=us.length:=by
 have:=xT (m:=(List.range us.length).map λ(x:Nat)=>(x:Int)) hn λx a=>by have:=b x a;exact aeN.2 ⟨x.toNat,agm.2 E,E⟩
 simpa using this
def vW{us:List bT}{out:List Int}(hn:out.Nodup)(b:∀x∈out,0<=x/\x<us.length)(h:¬cY us out 0<0):(out++[cY us out 0]).Nodup/\∀x∈out++[cY us out 0],0<=x/\x<us.length:=by
 rcases oR us out 0 with e|⟨i,e,_,d,a⟩
 ·rw[e]at h;simp_all
 rw[e];have c:¬(i:Int)∈out:=by unfold jV at a;simp at a;exact a.1
 grind
def Fdd(us:List bT):Prop:=∀u∈us,u.kind=bq->1<=u.ah.length
def rY(p:gV)(h:rA p)(A:Fdd p.aa):aM Tryz.prog 103 [bh p] (.ints .i64 true<|az p.aa):=by
 have hl:=h.aa;refine bS Tryz.func103 W<|r0 W<|ra (λout:List Int=>[(1,.box true<|bh p),(3,.ints .i64 true out)]) (λout=>out.Nodup/\(∀x∈out,0<=x/\x<p.aa.length)/\az p.aa=ew p.aa (p.aa.length+1-out.length) out) (λout=>p.aa.length+1-out.length) [] ⟨ae5,I,W⟩ ?_;rintro out⟨hn,q,f⟩;have w:=vX hn q;refine r1 W (by simp only[bo,and_true];omega) ?_;refine loop (λj:Nat=>[(1,.box true<|bh p),(3,.ints .i64 true out),(4,.i<|cY p.aa out j),(5,.i<|(j:Int)-1)]) (λj=>j<=p.aa.length) (λj=>j) p.aa.length (adp _)
  ⟨G,G,⟨W,ar.of_eq<|congrArg SV.i (mV<|adp _).symm⟩,G,U⟩ ?_
 intro j J;refine bQ W W ?_ ?_<;>intro C
 ·obtain⟨i,rfl⟩:∃i,j=i+1:=⟨j-1,E⟩;have F:((i+1:Nat):Int)-1=i:=E;have t:(i:Int).toNat=i:=E;have hi:i<p.aa.length:=E;have u:p.aa.getD i default=p.aa[i]:=au hi;have hu:=h.unit _<|adC hi;have v:=jH (out:=out) hi;have y:(cR p.aa[i]).length<=p.aa[i].ah.length:=by unfold cR;split<;>simp
  have z:=hu.ah;rw[F];refine bP W W (wx out i E) W<|r1 W (by simp only[bo,and_true,t];omega) ?_;refine cl W (by rw[t,u];rfl) (wb p.aa[i] hu<|A _<|adC hi) W ?_;refine r0 W<|kR (λ(k:Nat)(r:Bool)=>[(1,.box true<|bh p),(3,.ints .i64 true out),(4,.i<|cY p.aa out<|i+1),(5,.i i),(6,.u r),(7,.bA false 2 default oX<|cR p.aa[i]),(8,.i k)])
   (λk r=>k<=(cR p.aa[i]).length/\jV p.aa out i=(r&&((cR p.aa[i]).drop k).all (kP p.aa out))) (λk _=>(cR p.aa[i]).length-k) 0 (!decide ((i:Int)∈out)) ⟨adk _,by unfold jV;rw[u];simp⟩
   ⟨G,G,G,G,G,G,G,U⟩ ?_
  rintro k r⟨H,c⟩;have stop:k<(cR p.aa[i]).length/\r=true\/jV p.aa out i=r:=by grind
  have fin:∀b:Bool,jV p.aa out i=b->cY p.aa out i=if b=true then(i:Int)else cY p.aa out (i+1):=by simp_all
  refine bJ W 32 W ?_ ?_<;>intro d
  ·refine r0 W<|ni W W W ?_ ?_<;>intro a
   ·have a:r=true:=a;subst a;have e:k<(cR p.aa[i]).length:=E;have s:(k:Int).toNat=k:=E;have o:(cR p.aa[i]).getD k default=(cR p.aa[i])[k]:=au e;rw[aeE e,ae6,afa]at c;refine r1 W (by simp only[bo,and_true,s];omega) ?_;refine cd W (by rw[s,o];rfl) (GM p h (cR p.aa[i])[k].sh) W ?_;refine k0 W aW<|aC 46 W ?_ ?_<;>intro B
    ·refine r1 W (by simp only[bo,and_true];omega) ?_;have hm:kP p.aa out (cR p.aa[i])[k]=true:=by unfold kP;simp_all
     rw[hm]at c;exact gS (k+1,true) ⟨by dsimp only;omega,c⟩
    refine bP W W (wx out (eh p.aa (cR p.aa[i])[k].sh) E) W<|r1 W (by simp only[bo,and_true];omega) ?_;have hm:kP p.aa out (cR p.aa[i])[k]=decide (eh p.aa (cR p.aa[i])[k].sh∈out):=by unfold kP;grind
    rw[hm]at c;exact gS (k+1,decide (eh p.aa (cR p.aa[i])[k].sh∈out)) ⟨by dsimp only;omega,c⟩
   have a:r=false:=a;subst a;have l:=fin false (by simpa using c);refine r0 W<|ni W W W (λg=>absurd g fh) λ_=>?_;refine r1 W (by simp only[bo,and_true];omega) ?_;exact again i E E ⟨G,G,⟨W,ar.of_eq<|congrArg SV.i<|by rw[l];simp⟩,G,U⟩
  have l:=fin r<|stop.resolve_left λg=>E;refine r0 W<|ni W W W ?_ ?_<;>intro a
  ·have a:r=true:=a;subst a;refine r1 W (by simp only[bo,and_true];omega) ?_;exact again i E E ⟨G,G,⟨W,ar.of_eq<|congrArg SV.i<|by rw[l];simp⟩,G,U⟩
  have a:r=false:=a;subst a;refine r1 W (by simp only[bo,and_true];omega) ?_;exact again i E E ⟨G,G,⟨W,ar.of_eq<|congrArg SV.i<|by rw[l];simp⟩,G,U⟩
 have n:j=0:=E;subst n;have m:p.aa.length+1-out.length=(p.aa.length-out.length)+1:=E;rw[m,ew]at f;refine bQ W W ?_ ?_<;>intro d
 ·rw[if_pos d]at f;refine bK W W<|ar.of_eq<|congrArg (SV.ints .i64 true) f.symm
 rw[if_neg d]at f;obtain⟨g1,g2⟩:=vW hn q d;have D:=vX g1 g2;simp only[aeP,adX,aeg]at D;refine r1 W (by simp only[bo,and_true,len,adX,aeg]<;>omega) ?_;refine again (out++[cY p.aa out 0]) eW ⟨g1,g2,?_⟩ ⟨G,G,U⟩;simp_all
def mS(n:Nat)(us:List bT)(i:Nat):List hO:=(us.take i).foldl (λ(o:List hO)u=>o.set u.out.toNat u.k)<|List.replicate n<|qt 0
def Kq(n:Nat)(us:List bT):List hO:=mS n us us.length
def yV(n:Nat)(us:List bT):∀i,i<=us.length->(mS n us i).length=n
 |0,_=>by simp[mS]
 |i+1,h=>by have:=yV n us i E;unfold mS at*;rw[aey E,age];simpa using this
def FC{n:Nat}{us:List bT}{i:Nat}(h:i<us.length):mS n us (i+1)=(mS n us i).set us[i].out.toNat us[i].k:=by unfold mS;rw[aey h,age];rfl
def YT(n:Nat)(us:List bT):Prop:=∀u∈us,0<=u.out/\u.out<n
def vt(p:gV)(h:rA p)(n:Nat)(hn:p.n=n)(c:n<2^40)(f:YT n p.aa):aM Tryz.prog 104 [bh p] (.strs true<|Kq n p.aa):=by
 have hl:=h.aa;refine bS Tryz.func104 W<|r0 W<|cl W (by rw[hn];rfl) (Hm n c) W ?_;refine r0 W<|ra (λi:Nat=>[(1,.box true<|bh p),(3,.strs true<|mS n p.aa i),(4,.i i)]) (λi=>i<=p.aa.length) (λi=>p.aa.length-i) 0 (adk _) ?_;intro i hi;refine bQ W W ?_ ?_<;>intro g
 ·have a:i<p.aa.length:=E;have d:(i:Int).toNat=i:=E;have e:p.aa.getD i default=p.aa[i]:=au a;have hu:=f _<|adC a;have b:=yV n p.aa i hi;refine k1 W aW (by simp only[bo,and_true,d,e,b];omega) ?_;refine again (i+1) E E ⟨G,⟨W,ar.of_eq<|congrArg (SV.strs true) ?_⟩,G,U⟩;rw[FC a,d,e]
 refine bK W W<|ar.of_eq<|congrArg (SV.strs true) ?_;have:i=p.aa.length:=E;subst this;rfl
def wu(x:Rat)(cs:List Rat):Rat:=cs.foldr (λa s=>s*x+a) 0
def IU{x:Rat}{K L:Nat}(a:Sz x L):∀{cs:List Rat},(∀c∈cs,Sz c K)->Sz (wu x cs) (cs.length*(L+K+1)+1)
 |[],_=>by have:Sz (0:Rat) 1:=⟨by simp[dm],by simp[iG]⟩;simpa[wu]using this
 |c::cs,h=>by have d:=IU a (cs:=cs) λc hc=>h c (by simp[hc]);have b:=(d.mul a).add<|h c I;refine b.mono ?_;rw[adX,ahJ];omega
def Gs(cs:List Rat)(x:Rat){K L:Nat}(a:Sz x L)(hc:∀c∈cs,Sz c K)(f:(cs.length+1)*(L+K+1)+1<2^33)(hl:cs.length<2^40):
 aM Tryz.prog 105 [.strs false<|cs.map qt,.s<|qt x] (.s<|qt<|wu x cs):=by
 refine bS Tryz.func105 W<|r1 W (by simp[bo,and_true,aeW];omega) ?_;refine loop (λj:Nat=>[(0,.strs false<|cs.map qt),(1,.s<|qt x),(5,.s<|qt<|wu x<|cs.drop j),(6,.i<|(j:Int)-1)]) (λj=>j<=cs.length) (λj=>j) cs.length (adp _)
  ⟨G,G,⟨W,ar.of_eq<|congrArg SV.s<|by rw[afU];exact AL.symm⟩,⟨W,ar.of_eq<|congrArg SV.i<|by rw[aeW]⟩,U⟩ ?_
 intro j l;refine bQ W W ?_ ?_<;>intro g
 ·obtain⟨i,rfl⟩:∃i,j=i+1:=⟨j-1,E⟩;have k:((i+1:Nat):Int)-1=i:=E;have d:(i:Int).toNat=i:=E;have hi:i<cs.length:=E;have h:(cs.map qt).getD i []=qt cs[i]:=eW;have e:=IU a (cs:=cs.drop<|i+1) λc b=>hc c<|agd b;have m:(cs.drop<|i+1).length*(L+K+1)<=cs.length*(L+K+1):=aeX _ I;rw[ahJ]at f;rw[k];refine r1 W (by simp[bo,and_true,d,aeW]<;>omega) ?_;refine bH W (gi (wu x<|cs.drop<|i+1) x e a E) W<|r1 W (by simp[bo,and_true,d,aeW];omega) ?_;refine cd W (by rw[d,h];rfl) (yG (wu x (cs.drop<|i+1)*x) cs[i] (e.mul a) (hc _<|adC hi) E) W ?_;refine k1 W aW (by simp[bo,and_true];omega) ?_;refine again i E E ⟨G,G,⟨W,ar.of_eq<|congrArg SV.s ?_⟩,G,U⟩;rw[aeE hi];rfl
 have:j=0:=E;subst this;refine bN W W
end Go.Ai
section
namespace Go.Ai
open Go.Proofs Go.RowKit
section
variable{n:Int}{u:bT}
structure iQ(n:Int)(u:bT):Prop where
 kind:u.kind=bq\/u.kind=jz\/u.kind=dy
 Bj:¬jT u (Dh u) (xq u)
 feed:∀f∈u.ah,0<=f.sh/\f.sh<n/\aL f.dZ=0/\bV f.dZ≠0
 out:1<=u.out/\u.out<n
 k:aL u.k=0
 dI:∀c∈u.dI,aL c=0
def Lj{f:Hi}(h:gu n f=0):0<=f.sh/\f.sh<n/\aL f.dZ=0/\bV f.dZ≠0:=by
 unfold gu at h
 grind
def p9(h:fW n u=0):iQ n u:=by
 unfold fW at h;split at h
 ·cases h
 rename_i i;split at h
 ·cases h
 rename_i e;split at h
 ·contradiction
 rename_i a;split at h
 ·cases h
 rename_i g;split at h
 ·contradiction
 rename_i d;have a:=dK.1 (show aK (gu n) u.ah=0 by simpa using a);have c:=dK.1 h;refine⟨?_,e,λf b=>Lj<|a f b,E,by simpa using d,c⟩
 grind
def Gp:bq≠jz:=fh
def wm:bq≠dy:=fh
def AR:jz≠dy:=fh
def iQ.int(h:iQ n u)(a:u.kind=bq):u.ah.length=2/\u.dI=[]:=by
 have b:=h.Bj;unfold jT Dh xq at b;rw[if_pos a,if_pos a]at b;have c:¬u.kind=dy:=by rw[a];exact wm
 grind
def iQ.add(h:iQ n u)(a:u.kind=jz):1<=u.ah.length/\u.ah.length<=8/\u.dI=[]:=by
 have b:=h.Bj;unfold jT Dh xq at b;have c:¬u.kind=dy:=by rw[a];exact AR
 grind
def iQ.table(h:iQ n u)(a:u.kind=dy):u.ah.length=1/\1<=u.dI.length/\u.dI.length<=13:=by
 have b:=h.Bj;have d:¬u.kind=bq:=by rw[a];exact wm.symm
 have c:¬u.kind=jz:=by rw[a];exact AR.symm
 unfold jT Dh xq at b
 grind
def iQ.ZD{us:List bT}(h:∀u∈us,iQ n u):Fdd us:=λu hu a=>by have:=((h u hu).int a).1;omega
def iQ.outs{m:Nat}{us:List bT}(h:∀u∈us,iQ n u)(hm:n=m):YT m us:=λu hu=>by have:=(h u hu).out;omega
noncomputable def cp(n:Nat)(us:List bT):List Rat:=us.foldl (λ(o:List Rat)u=>o.set u.out.toNat<|bV u.k)<|List.replicate n 0
def Kp{us:List bT}(h:∀u∈us,aL u.k=0):∀(o:List Rat),us.foldl (λ(o:List hO)u=>o.set u.out.toNat u.k) (o.map qt)=(us.foldl (λ(o:List Rat)u=>o.set u.out.toNat<|bV u.k) o).map qt:=by
 induction us with
 |nil=>intro o;rfl
 |cons u us a=>intro o;simp;rw[<-a λv b=>h v<|by simp[b],afO,fZ<|h u I]
def D6{n:Nat}{us:List bT}(h:∀u∈us,aL u.k=0):Kq n us=(cp n us).map qt:=by unfold Kq mS cp;rw[afA,<-Kp h,ahm]
def Bd(n:Nat)(us:List bT):(cp n us).length=n:=by
 unfold cp;have:∀(us:List bT)(o:List Rat),(us.foldl (λ(o:List Rat)u=>o.set u.out.toNat<|bV u.k) o).length=o.length:=by
  intro us
  induction us with
  |nil=>intro o;rfl
  |cons u us a=>simp_all
 rw[this];simp
def Be{n:Nat}{us:List bT}{A:Rat->Prop}(c:A 0)(h:∀u∈us,A<|bV u.k):∀q∈cp n us,A q:=by
 have:∀(us:List bT)(o:List Rat),(∀u∈us,A<|bV u.k)->(∀q∈o,A q)->∀q∈us.foldl (λ(o:List Rat)u=>o.set u.out.toNat<|bV u.k) o,A q:=by
  intro us
  induction us with
  |nil=>intro o _ h;exact h
  |cons u us a=>grind
 exact this us _ h λq b=>eW
def Mg:Sz 0 1:=⟨by simp[dm],by simp[iG]⟩
noncomputable def XP(n:Nat)(us:List bT)(u:bT):Rat:=wu (bV (u.ah.getD 0 default).dZ*(cp n us).getD (u.ah.getD 0 default).sh.toNat 0) (u.dI.map bV)
def conflict(n:Nat)(us:List bT)(u:bT):Prop:=u.kind=dy/\bV u.k≠XP n us u
def u9(n:Nat)(us:List bT):Prop:=∀s:Nat,1<=s->s<n->us.countP (λu=>decide (u.out=(s:Int)))=1
def dq(us:List bT):Nat:=us.countP λu=>decide (u.kind=bq)
end
open Classical in
noncomputable def dT(p:gV):Int:=
 if p.n<1\/100<p.n then 3
 else if 96<p.aa.length then 5
 else if aK (fW p.n) p.aa≠0 then aK (fW p.n) p.aa
 else if 24<p.ints.length then 5
 else if∃k∈p.ints,k<0\/p.n<=k then 10
 else if 24<dq p.aa then 5
 else if¬u9 p.n.toNat p.aa then 19
 else if(az p.aa).length<p.aa.length then 18
 else if∃u∈p.aa,conflict p.n.toNat p.aa u then 30 else 0
def Wv{l:List hO}(h:∀c∈l,aL c=0):(l.map bV).map qt=l:=by
 rw[agz]
 conv=>rhs;rw[<-List.map_id l]
 exact afq λc hc=>fZ<|h c hc
def Ix{l:List Rat}{k:Nat}(h:k<l.length):(l.map qt).getD k []=qt (l.getD k 0):=by simp_all
def jI{α:Type}{l:List α}{i:Nat}(h:i<l.length){P:α->Prop}(b:¬∃x∈l.take i,P x)(a:¬P l[i]):¬∃x∈l.take (i+1),P x:=by
 rw[aey h]
 grind
def mN(p:gV)(h:rA p):aM Tryz.prog 33 [bh p] (.i<|dT p):=by
 have S:=h.aa;have A0:=h.ints;refine bS Tryz.func33 W<|cx 4 [(1,.box true<|bh p)] (1<=p.n/\p.n<=100/\p.aa.length<=96/\aK (fW p.n) p.aa=0) ?_ ?_
 ·refine bJ W 15 W ?_ ?_<;>intro j
  ·refine bK W W<|ar.of_eq<|congrArg SV.i<|by unfold dT;rw[if_pos<|.inl j]
  refine bQ W W ?_ ?_<;>intro z
  ·refine bK W W<|ar.of_eq<|congrArg SV.i<|by unfold dT;rw[if_pos<|.inr z]
  have e:dT p=dT p:=W
  conv at e=>rhs;unfold dT
  rw[if_neg E]at e;refine bQ W W ?_ ?_<;>intro o
  ·refine bK W W<|ar.of_eq<|congrArg SV.i E
  rw[if_neg E]at e;refine r0 W<|ra (λi:Nat=>[(1,.box true<|bh p),(3,.i i)]) (λi=>i<=p.aa.length/\aK (fW p.n) p.aa=aK (fW p.n) (p.aa.drop i)) (λi=>p.aa.length-i) 0 ⟨adk _,W⟩ ?_;rintro i⟨hi,f⟩;refine bQ W W ?_ ?_<;>intro b
  ·have a:i<p.aa.length:=E;have x:(i:Int).toNat=i:=E;have y:p.aa.getD i default=p.aa[i]:=au a;rw[dA _ a]at f;refine qp W<|cd W (by rw[x,y];rfl) (Az p p.aa[i]<|h.unit _<|adC a) W ?_;refine Zz W<|gb W ?_ ?_<;>intro m
   ·have m:fW p.n p.aa[i]≠0:=m;rw[if_pos m]at f;refine bK W W<|ar.of_eq<|congrArg SV.i E
   have m:¬fW p.n p.aa[i]≠0:=m;rw[if_neg m]at f;refine qp W<|gS (i+1) ⟨E,f⟩
  refine r0 W<|gm ⟨E,E,E,?_⟩;rw[f,afi E];rfl
 rintro⟨Z,Y,T,A⟩;obtain⟨n,hn⟩:∃n:Nat,p.n=n:=⟨p.n.toNat,E⟩;have F:∀u∈p.aa,iQ p.n u:=λu hu=>p9<|dK.1 A u hu;have e:dT p=dT p:=W
 conv at e=>rhs;unfold dT
 rw[if_neg E,if_neg E,if_neg<|by rw[A];simp]at e;refine cx 2 [(1,.box true<|bh p)] (p.ints.length<=24/\¬∃k∈p.ints,k<0\/p.n<=k) ?_ ?_
 ·refine bQ W W ?_ ?_<;>intro j
  ·refine bK W W<|ar.of_eq<|congrArg SV.i E
  rw[if_neg E]at e;refine r0 W<|ra (λi:Nat=>[(1,.box true<|bh p),(5,.i i)]) (λi=>i<=p.ints.length/\¬∃k∈p.ints.take i,k<0\/p.n<=k) (λi=>p.ints.length-i) 0 ⟨adk _,I⟩ ?_;rintro i⟨hi,f⟩;refine bQ W W ?_ ?_<;>intro b
  ·have a:i<p.ints.length:=E;have x:(i:Int).toNat=i:=E;have y:p.ints.getD i 0=p.ints[i]:=au a;have D:(p.ints[i]<0\/p.n<=p.ints[i])->(10:Int)=dT p:=λg=>by rw[e,if_pos ⟨_,adC a,g⟩]
   refine II W ?_;rw[x,y];refine aC 58 W ?_ ?_<;>intro m
   ·refine Zz W<|aE W<|ar.of_eq<|congrArg SV.i<|D<|.inl m
   refine II W ?_;rw[x,y];refine gb W ?_ ?_<;>intro R
   ·refine bK W W<|ar.of_eq<|congrArg SV.i<|D<|.inr R
   refine qp W<|gS (i+1) ⟨E,jI a f E⟩
  rw[adM E]at f;refine r0 W<|gm ⟨E,f⟩
 rintro⟨X,L⟩;rw[if_neg E,if_neg L]at e;have M:p.n.toNat=n:=E;rw[M]at e;have B0:dq p.aa<=p.aa.length:=agG;refine cx 2 [(1,.box true<|bh p)] (dq p.aa<=24/\u9 n p.aa) ?_ ?_
 ·refine bP W W (oD p h) W<|bQ W W ?_ ?_<;>intro j
  ·have j:(24:Int)<(dq p.aa:Nat):=j;refine bK W W<|ar.of_eq<|congrArg SV.i E
  have j:¬(24:Int)<(dq p.aa:Nat):=j;rw[if_neg E]at e;refine r0 W<|ra (λs:Nat=>[(1,.box true<|bh p),(6,.i s)]) (λs=>s<=n/\1<=s/\∀t:Nat,1<=t->t<s->p.aa.countP (λu=>decide (u.out=(t:Int)))=1) (λs=>n-s) 1 ⟨E,E,λt j z=>E⟩ ?_;rintro s⟨hs,J,f⟩;refine bQ W W ?_ ?_<;>intro z
  ·refine r0 W<|ra (λi:Nat=>[(1,.box true<|bh p),(6,.i s),(7,.i<|(p.aa.take i).countP λu=>decide (u.out=(s:Int))),(8,.i i)]) (λi=>i<=p.aa.length) (λi=>p.aa.length-i) 0 (adk _) ?_;intro i hi;have hc:((p.aa.take i).countP λu=>decide (u.out=(s:Int)))<=i:=ad0 agG (by simp;omega);refine bQ W W ?_ ?_<;>intro o
   ·have a:i<p.aa.length:=E;have x:(i:Int).toNat=i:=E;have y:p.aa.getD i default=p.aa[i]:=au a;have r:((p.aa.take<|i+1).countP λu=>decide (u.out=(s:Int)))=((p.aa.take i).countP λu=>decide (u.out=(s:Int)))+(if p.aa[i].out=(s:Int)then 1 else 0):=by
     rw[aey a,agZ,aih];simp
    refine qp W ?_;rw[x,y];refine gb W ?_ ?_<;>intro b
    ·have b:p.aa[i].out=(s:Int):=b;rw[if_pos b]at r;refine qp W<|gS (i+1) E ⟨G,G,⟨W,ar.of_eq<|congrArg SV.i<|by rw[r];omega⟩,G,U⟩
    have b:¬p.aa[i].out=(s:Int):=b;rw[if_neg b]at r;refine qp W<|gS (i+1) E ⟨G,G,⟨W,ar.of_eq<|congrArg SV.i<|by rw[r];omega⟩,G,U⟩
   rw[adM E];refine bQ W W ?_ ?_<;>intro b
   ·refine bK W W<|bR ?_;rw[e,if_pos];intro g;have:=g s J E;omega
   have b:p.aa.countP (λu=>decide (u.out=(s:Int)))=1:=E;refine qp W<|gS (s+1) ⟨E,E,λt g1 g2=>?_⟩
   grind
  refine r0 W<|gm ⟨E,λt g1 g2=>f t g1 E⟩
 rintro⟨D1,N⟩;rw[if_neg E,if_neg λg=>g N]at e;refine bO W W (rY p h<|iQ.ZD F) W<|Zz W<|gb W ?_ ?_<;>intro j
 ·refine bK W W<|ar.of_eq<|congrArg SV.i E
 rw[if_neg E]at e;have Q:∀u∈p.aa,aL u.k=0:=λu hu=>(F u hu).k;refine bP W W (vt p h n hn E<|iQ.outs F hn) W ?_;rw[D6 Q];refine r0 W<|ra (λi:Nat=>[(1,.box true<|bh p),(9,.strs true<|(cp n p.aa).map qt),(10,.i i)]) (λi=>i<=p.aa.length/\¬∃u∈p.aa.take i,conflict n p.aa u) (λi=>p.aa.length-i) 0 ⟨adk _,I⟩ ?_;rintro i⟨hi,f⟩;refine bQ W W ?_ ?_<;>intro z
 ·have a:i<p.aa.length:=E;have x:(i:Int).toNat=i:=E;have y:p.aa.getD i default=p.aa[i]:=au a;have l:=F _<|adC a;refine qp W ?_;rw[x,y];refine aC 120 W ?_ ?_<;>intro o
  ·have o:p.aa[i].kind=dy:=o;obtain⟨t1,t2,t3⟩:=l.table o;have f0:p.aa[i].ah.getD 0 default∈p.aa[i].ah:=bw E;obtain⟨b1,b2,O,b4⟩:=l.feed _ f0;have V:=Bd n p.aa;have H:∀q∈cp n p.aa,Sz q 67:=Be (Mg.mono fh) λu hu=>fi<|Q u hu;have w:(p.aa[i].ah.getD 0 default).sh.toNat<(cp n p.aa).length:=E;have B:((cp n p.aa).map qt).getD (p.aa[i].ah.getD 0 default).sh.toNat []=qt ((cp n p.aa).getD (p.aa[i].ah.getD 0 default).sh.toNat 0):=Ix w;have P:=H _<|bw (d:=0) w;have hm:=gi (bV (p.aa[i].ah.getD 0 default).dZ) ((cp n p.aa).getD (p.aa[i].ah.getD 0 default).sh.toNat 0) (fi O) P E;rw[fZ O]at hm;have hh:=Gs (p.aa[i].dI.map bV) (bV (p.aa[i].ah.getD 0 default).dZ*(cp n p.aa).getD (p.aa[i].ah.getD 0 default).sh.toNat 0) (K:=67) ((fi O).mul P) (λc hc=>by
    obtain⟨s,hs,rfl⟩:=aeN.1 hc;exact fi<|l.dI s hs) (by grind) (by grind)
   rw[Wv l.dI]at hh;have v:(p.aa[i].k≠qt (XP n p.aa p.aa[i]))↔conflict n p.aa p.aa[i]:=by
    unfold conflict;rw[and_iff_right o]
    conv=>lhs;rw[<-fZ l.k]
    rw[ne_eq,KK]
   have C:Int.toNat 0=0:=W;refine r1 W (by simp only[bo,and_true,aeW,C]<;>omega) ?_;rw[C];refine cd W (by rw[B];rfl) hm W ?_;refine qp W<|bH W hh W<|II W<|gb W ?_ ?_<;>intro b
   ·refine bK W W<|bR ?_;rw[e,if_pos ⟨_,adC a,v.1 b⟩]
   refine qp W<|gS (i+1) ⟨E,jI a f λg=>b<|v.2 g⟩
  refine II W<|gS (i+1) ⟨E,jI a f λg=>o g.1⟩
 rw[adM E]at f;refine bK W W<|ar.of_eq<|congrArg SV.i<|by rw[e,if_neg f]
end Go.Ai
end
namespace Go.Ai
open Go.Proofs Go.RowKit
section
variable{m x:Int}{l:List Int}{i:Nat}
def rn{R:Option Nat->Prop}{N:Nat}{F:St->Prop}{k:List It}{l:aU}(m:Nat){a:List It}{l':aU}(h:run tt [] N m k l [] []=([],[],a,l'))(b:AK R Tryz.prog N F a l'):AK R Tryz.prog N F k l:=(nj hA hm h U W).2.2 b
def kH{α:Type}(l:List α)(i:Nat)(x:α):(l.set i x).length=l.length:=ad2
def Du(h:i<l.length):(l.set i x).getD i 0=x:=by simp_all
def getD_set_ne{j:Nat}(h:i≠j):(l.set i x).getD j 0=l.getD j 0:=by simp_all
def xl(l:List Int)(m:Int):Prop:=∀x∈l,0<=x/\x<=m
def xl.getD(h:xl l m)(hm:0<=m)(i:Nat):0<=l.getD i 0/\l.getD i 0<=m:=by
 rcases aeQ i l.length with g|g
 ·exact h _<|bw g
 simp_all
def xl.set(h:xl l m)(b:0<=x/\x<=m):xl (l.set i x) m:=by
 intro y a;rcases ah4 a with a|rfl
 ·exact h y a
 exact b
def xl.mono{n:Int}(h:xl l m)(hn:m<=n):xl l n:=λx a=>⟨(h x a).1,afW (h x a).2 hn⟩
def xl.rep(n:Nat)(h:0<=m):xl (List.replicate n 0) m:=λx a=>eW
def lz(u:bT):Int:=if u.kind=dy then max 1 ((u.dI.length:Int)-1)else 1
def jA(u:bT)(dg:List Int)(f:Hi):List Int:=dg.set u.out.toNat<|max (dg.getD u.out.toNat 0)<|dg.getD f.sh.toNat 0*lz u
def qN(us:List bT)(dg:List Int)(i:Int):List Int:=if(us.getD i.toNat default).kind=bq then dg else(us.getD i.toNat default).ah.foldl (jA<|us.getD i.toNat default) dg
def DI(us:List bT)(dH:Int):List Int->List Int->Option (List Int)
 |[],dg=>some dg
 |i::r,dg=>if dH<(qN us dg i).getD (us.getD i.toNat default).out.toNat 0 then none else DI us dH r (qN us dg i)
def jh(us:List bT)(n i:Nat):List Int:=(us.take i).foldl (λ(dg:List Int)u=>if u.kind=bq then dg.set u.out.toNat 1 else dg)<|(List.replicate n 0).set 0 1
def sL{us:List bT}{n:Nat}(h:i<us.length):jh us n (i+1)=if us[i].kind=bq then(jh us n i).set us[i].out.toNat 1 else jh us n i:=by unfold jh;rw[aey h,age];rfl
def pK(us:List bT)(n:Nat):∀i,i<=us.length->(jh us n i).length=n/\xl (jh us n i) 6
 |0,_=>⟨by simp[jh],(xl.rep n fh).set fh⟩
 |i+1,h=>by
  obtain⟨b,a⟩:=pK us n i E;rw[sL E];split
  ·exact⟨by rw[kH];exact b,a.set fh⟩
  exact⟨b,a⟩
def jv(u:bT)(dg rt:List Int)(f:Hi):List Int:=rt.set u.out.toNat<|max (rt.getD u.out.toNat 0)<|rt.getD f.sh.toNat 0+dg.getD f.sh.toNat 0-1
def Mq(u:bT)(dg rt:List Int):List Int:=(cR u).foldl (jv u dg) rt
def tZ(u:bT)(dg rt:List Int):List Int:=if u.kind=dy then rt.set u.out.toNat (rt.getD u.out.toNat 0+dg.getD u.out.toNat 0)else rt
def rP(u:bT)(dg rt:List Int):List Int:=if u.kind=bq then rt.set u.out.toNat (rt.getD u.out.toNat 0+dg.getD (u.ah.getD 0 default).sh.toNat 0)else rt
def uH(us:List bT)(dg rt:List Int)(i:Int):List Int:=rP (us.getD i.toNat default) dg<|tZ (us.getD i.toNat default) dg<|Mq (us.getD i.toNat default) dg rt
def HT(us:List bT)(dH:Int)(dg:List Int):List Int->List Int->Option (List Int)
 |[],rt=>some rt
 |i::r,rt=>if dH<(uH us dg rt i).getD (us.getD i.toNat default).out.toNat 0 then none else HT us dH dg r (uH us dg rt i)
def Ap(us:List bT)(n:Nat):Bool:=match DI us 6 (az us) (jh us n us.length)with
 |none=>false
 |some dg=>(HT us 6 dg (az us)<|List.replicate n 0).isSome
def Ek:∀{us:List bT}(k:Nat){out:List Int},out.Nodup->(∀x∈out,0<=x/\x<us.length)->∀x∈ew us k out,0<=x/\x<us.length
 |us,0,out,_,h=>h
 |us,k+1,out,hn,h=>by
  rw[ew];split
  ·exact h
  rename_i g;obtain⟨b,a⟩:=vW hn h g;exact Ek k b a
def zw:∀{us:List bT}(k:Nat){out:List Int},out.Nodup->(∀x∈out,0<=x/\x<us.length)->(ew us k out).Nodup
 |us,0,out,hn,_=>hn
 |us,k+1,out,hn,h=>by
  rw[ew];split
  ·exact hn
  rename_i g;obtain⟨b,a⟩:=vW hn h g;exact zw k b a
def gC{us:List bT}:∀x∈az us,0<=x/\x<us.length:=Ek _ ae5 I
def vY(us:List bT):(az us).Nodup:=zw _ ae5 I
def uK(us:List bT):(az us).length<=us.length:=vX (vY us) gC
def OG(p:gV)(h:rA p)(n:Nat)(hn:p.n=n)(G5:0<n)(G4:n<=100)(hv:∀u∈p.aa,iQ p.n u):aM Tryz.prog 223 [bh p,.i 6] (.u<|Ap p.aa n):=by
 have hl:=h.aa;refine bS Tryz.func223 W<|cx 4 [(1,.i 6),(2,.box true<|bh p),(5,.ints .i64 true<|jh p.aa n p.aa.length)] True ?_ λ_=>?_
 ·refine r1 W (by simp only[bo,and_true,agi]<;>omega) ?_;refine loop (λi:Nat=>[(1,.i 6),(2,.box true<|bh p),(5,.ints .i64 true<|jh p.aa n i),(6,.i i)]) (λi=>i<=p.aa.length) (λi=>p.aa.length-i) 0 (adk _) ⟨G,G,⟨W,ar.of_eq<|congrArg (SV.ints .i64 true)<|by rw[hn];rfl⟩,G,U⟩ ?_;intro i hi;refine bQ W W ?_ ?_<;>intro h1
  ·have N:i<p.aa.length:=E;have ei:(i:Int).toNat=i:=E;have eg:p.aa.getD i default=p.aa[i]:=au N;have J:=sL (n:=n) N;have hu:=(hv _<|adC N).out;have K:=(pK p.aa n i hi).1;refine r1 W (by simp only[bo,and_true,ei]<;>omega) ?_;rw[ei,eg];refine gb W ?_ ?_<;>intro b
   ·have b:p.aa[i].kind=bq:=b;rw[if_pos b]at J;refine r1 W (by simp only[bo,and_true,ei,eg,K]<;>omega) ?_;exact again (i+1) E E ⟨G,G,⟨W,ar.of_eq<|congrArg (SV.ints .i64 true)<|by rw[J,ei,eg]⟩,G,U⟩
   have b:¬p.aa[i].kind=bq:=b;rw[if_neg b]at J;refine r1 W (by simp only[bo,and_true,ei,eg,K]<;>omega) ?_;exact again (i+1) E E ⟨G,G,⟨W,ar.of_eq<|congrArg (SV.ints .i64 true) J.symm⟩,G,U⟩
  have:i=p.aa.length:=E;subst this;refine r0 W<|gm U
 have G2:=uK p.aa;refine CP 2 (λdg:List Int=>[(1,.i 6),(2,.box true<|bh p),(5,.ints .i64 true dg),(7,.ints .i64 true<|az p.aa)]) (λdg=>DI p.aa 6 (az p.aa) (jh p.aa n p.aa.length)=some dg/\dg.length=n/\xl dg 6) ?_ ?_
 ·refine bP W W (rY p h<|iQ.ZD hv) W<|r0 W<|kR (λ(k:Nat)(dg:List Int)=>[(1,.i 6),(2,.box true<|bh p),(5,.ints .i64 true dg),(7,.ints .i64 true<|az p.aa),(8,.i k)])
   (λk dg=>k<=(az p.aa).length/\DI p.aa 6 (az p.aa) (jh p.aa n p.aa.length)=DI p.aa 6 ((az p.aa).drop k) dg/\dg.length=n/\xl dg 6)
   (λk _=>(az p.aa).length-k) 0 (jh p.aa n p.aa.length) ⟨adk _,W,pK p.aa n _<|adp _⟩ ⟨G,G,G,G,G,U⟩ ?_
  rintro k dg⟨hk,c,w,t⟩;refine bQ W W ?_ ?_<;>intro h1
  ·have y:k<(az p.aa).length:=E;have ek:(k:Int).toNat=k:=E;have A:(az p.aa).getD k 0=(az p.aa)[k]:=au y;obtain⟨o1,o2⟩:=gC _<|adC y;rw[aeE y,DI]at c;obtain⟨o,eo⟩:∃o,(az p.aa)[k]=o:=⟨_,W⟩;rw[eo]at A o1 o2 c;have s:p.aa.getD o.toNat default∈p.aa:=bw E;unfold qN at c;obtain⟨u,eu⟩:∃u,p.aa.getD o.toNat default=u:=⟨_,W⟩;rw[eu]at s c;have hu:=hv _ s;have D1:=hu.out;have S:=(h.unit _ s).ah;have X:1<=lz u/\lz u<=12:=by
    unfold lz;split
    ·rename_i g;have:=(hu.table g).2.2;omega
    omega
   refine rn 3 W<|CP 2 (λa:List Int=>[(1,.i 6),(2,.box true<|bh p),(5,.ints .i64 true a),(7,.ints .i64 true<|az p.aa),(8,.i k),(9,.box true<|dQ u)])
    (λa=>a=(if u.kind=bq then dg else u.ah.foldl (jA u) dg)/\a.length=n/\xl a 72/\∀j,j≠u.out.toNat->a.getD j 0=dg.getD j 0) ?_ ?_
   ·refine k1 W aW (by simp only[bo,and_true,ek,A]<;>omega) ?_;rw[ek,A,eu];by_cases C:u.kind=bq
    ·refine ra (λj:Nat=>[(1,.i 6),(2,.box true<|bh p),(5,.ints .i64 true dg),(7,.ints .i64 true<|az p.aa),(8,.i k),(9,.box true<|dQ u),(10,.i 0)]) (λ_=>True) (λ_=>0) 0 U ?_;intro j _;refine bJ W 65 W ?_ ?_<;>intro b
     ·refine bQ W W (λh3=>absurd C h3) λh3=>?_;refine r0 W<|il dg ⟨by rw[if_pos C],w,t.mono fh,λ_ _=>rfl⟩
     refine r0 W<|il dg ⟨by rw[if_pos C],w,t.mono fh,λ_ _=>rfl⟩
    rw[if_neg C];refine kR (λ(j:Nat)(a:List Int)=>[(1,.i 6),(2,.box true<|bh p),(5,.ints .i64 true a),(7,.ints .i64 true<|az p.aa),(8,.i k),(9,.box true<|dQ u),(10,.i j)])
     (λj a=>j<=u.ah.length/\u.ah.foldl (jA u) dg=(u.ah.drop j).foldl (jA u) a/\a.length=n/\xl a 72/\(∀i,i≠u.out.toNat->a.getD i 0=dg.getD i 0)/\(j=0\/u.kind≠dy->xl a 6))
     (λj _=>u.ah.length-j) 0 dg ⟨adk _,W,w,t.mono fh,λ_ _=>rfl,λ_=>t⟩ ⟨G,G,G,G,G,G,G,U⟩ ?_
    rintro j a⟨Z,v,q,r,F,P⟩;refine bJ W 65 W ?_ ?_<;>intro b
    ·refine bQ W W (λh3=>?_) λh3=>absurd C h3;have z:j<u.ah.length:=E;have ej:(j:Int).toNat=j:=E;have H:u.ah.getD j default=u.ah[j]:=au z;rw[aeE z,afT]at v;have O:=hu.feed _<|adC z;have B0:0<=a.getD u.ah[j].sh.toNat 0/\a.getD u.ah[j].sh.toNat 0*lz u<=72:=by
      have A0:=r.getD fh u.ah[j].sh.toNat;refine⟨A0.1,?_⟩;by_cases hT:u.kind=dy
      ·have:=(hu.table hT).1;have h6:=(P<|.inl E).getD fh u.ah[j].sh.toNat
       calc a.getD u.ah[j].sh.toNat 0*lz u<=6*12:=ah6 h6.2 X.2 E fh
        _<=72:=fh
      unfold lz;simp_all
     have G3:0<=a.getD u.ah[j].sh.toNat 0*lz u:=afs B0.1 E;have ho:=r.getD fh u.out.toNat;have F3:∀d:Int,d=a.getD u.ah[j].sh.toNat 0*lz u->a.set u.out.toNat (max (a.getD u.out.toNat 0) d)=jA u a u.ah[j]:=by rintro d rfl;rfl
     refine r1 W (by simp only[bo,and_true,ej,H,q]<;>omega) ?_;rw[ej,H];have ag:∀d:Int,d=a.getD u.ah[j].sh.toNat 0*lz u->(j+1<=u.ah.length/\u.ah.foldl (jA u) dg=(u.ah.drop<|j+1).foldl (jA u) (a.set u.out.toNat<|max (a.getD u.out.toNat 0) d)/\(a.set u.out.toNat<|max (a.getD u.out.toNat 0) d).length=n/\xl (a.set u.out.toNat<|max (a.getD u.out.toNat 0) d) 72/\(∀i,i≠u.out.toNat->(a.set u.out.toNat<|max (a.getD u.out.toNat 0) d).getD i 0=dg.getD i 0)/\(j+1=0\/u.kind≠dy->xl (a.set u.out.toNat<|max (a.getD u.out.toNat 0) d) 6)):=by
      intro d hd;refine⟨E,eW,by rw[kH];exact q,r.set E,λi hi=>?_,λhh=>?_⟩
      ·grind
      have E1:u.kind≠dy:=hh.resolve_left E;have h6:=P<|.inr E1;refine h6.set ?_;have h7:=h6.getD fh u.out.toNat;have h8:=h6.getD fh u.ah[j].sh.toNat;rw[hd];unfold lz;grind
     refine gb W ?_ ?_<;>intro Q
     ·have Q:u.kind=dy:=Q;have ht:=hu.table Q;have Y:abP false 1 ((u.dI.length:Int)-1)=lz u:=by unfold lz;rw[if_pos Q];rfl
      refine k1 W aW (by simp only[bo,and_true,Y,q]<;>omega) ?_;refine again (j+1,a.set u.out.toNat<|max (a.getD u.out.toNat 0)<|a.getD u.ah[j].sh.toNat 0*lz u) (by dsimp only;omega) (ag _ W) ⟨G,G,⟨W,ar.of_eq<|congrArg (SV.ints .i64 true) ?_⟩,G,G,G,G,U⟩;rw[Y];rfl
     have Q:¬u.kind=dy:=Q;have Rr:a.getD u.ah[j].sh.toNat 0=a.getD u.ah[j].sh.toNat 0*lz u:=by unfold lz;simp_all
     refine k1 W aW (by simp only[bo,and_true,q]<;>omega) ?_;exact gS (j+1,a.set u.out.toNat<|max (a.getD u.out.toNat 0)<|a.getD u.ah[j].sh.toNat 0)<|ag _ Rr
    have:j=u.ah.length:=E;subst this;rw[afU]at v;refine r0 W<|il a ⟨v.symm,q,r,F⟩
   rintro a⟨E2,q,r,F⟩;rw[<-E2]at c;refine r1 W (by simp only[bo,and_true,q]<;>omega) ?_;refine gb W ?_ ?_<;>intro b
   ·have b:(6:Int)<a.getD u.out.toNat 0:=b;rw[if_pos b]at c;refine bK W W ?_;show false=Ap p.aa n;unfold Ap;rw[c]
   have b:¬(6:Int)<a.getD u.out.toNat 0:=b;rw[if_neg b]at c;refine r1 W ba<|gS (k+1,a) ⟨by dsimp only;omega,c,q,?_⟩;intro x R;obtain⟨i,hi,rfl⟩:=ahK.1 R;have e:a[i]=a.getD i 0:=(au hi).symm;refine⟨(r _ R).1,?_⟩;rw[e];by_cases D:i=u.out.toNat
   ·rw[D];omega
   rw[F i D];exact(t.getD fh i).2
  refine r0 W ?_;rw[afi E]at c;exact il dg ⟨c,w,t⟩
 rintro dg⟨c,w,t⟩;have hL:Ap p.aa n=(HT p.aa 6 dg (az p.aa)<|List.replicate n 0).isSome:=by unfold Ap;rw[c]
 refine r1 W ba<|kR (λ(k:Nat)(rt:List Int)=>[(1,.i 6),(2,.box true<|bh p),(5,.ints .i64 true dg),(7,.ints .i64 true<|az p.aa),(12,.ints .i64 true rt),(13,.i k)])
  (λk rt=>k<=(az p.aa).length/\Ap p.aa n=(HT p.aa 6 dg ((az p.aa).drop k) rt).isSome/\rt.length=n/\xl rt 6)
  (λk _=>(az p.aa).length-k) 0 (List.replicate n 0) ⟨adk _,hL,I,xl.rep n fh⟩ ⟨G,G,G,G,⟨W,ar.of_eq<|congrArg (SV.ints .i64 true)<|by rw[hn];rfl⟩,G,U⟩ ?_
 rintro k rt⟨hk,c,D2,V⟩;refine bQ W W ?_ ?_<;>intro h1
 ·have y:k<(az p.aa).length:=E;have ek:(k:Int).toNat=k:=E;have A:(az p.aa).getD k 0=(az p.aa)[k]:=au y;obtain⟨o1,o2⟩:=gC _<|adC y;rw[aeE y,HT]at c;obtain⟨o,eo⟩:∃o,(az p.aa)[k]=o:=⟨_,W⟩;rw[eo]at A o1 o2 c;have s:p.aa.getD o.toNat default∈p.aa:=bw E;unfold uH at c;obtain⟨u,eu⟩:∃u,p.aa.getD o.toNat default=u:=⟨_,W⟩;rw[eu]at s c;have hu:=hv _ s;have D1:=hu.out;have T:=h.unit _ s;have S:=T.ah;have G6:(cR u).length<=u.ah.length:=by unfold cR;split<;>simp
  have M:∀f∈cR u,f∈u.ah:=by intro f c;unfold cR at c;grind
  have F1:∀j,j≠u.out.toNat->∀l:List Int,∀x,(l.set u.out.toNat x).getD j 0=l.getD j 0:=λj Z l x=>getD_set_ne λe=>Z e.symm;refine rn 3 W<|CP 3 (λaE:List Int=>[(1,.i 6),(2,.box true<|bh p),(5,.ints .i64 true dg),(7,.ints .i64 true<|az p.aa),(12,.ints .i64 true aE),(13,.i k),(14,.box true<|dQ u)])
   (λaE=>aE=Mq u dg rt/\aE.length=n/\xl aE 100/\∀j,j≠u.out.toNat->aE.getD j 0=rt.getD j 0) ?_ ?_
  ·refine k1 W aW (by simp only[bo,and_true,ek,A]<;>omega) ?_;rw[ek,A,eu];refine bG W (wb u T (λg=>by have:=(hu.int g).1;omega)) W ?_;refine r0 W<|kR (λ(j:Nat)(aE:List Int)=>[(1,.i 6),(2,.box true<|bh p),(5,.ints .i64 true dg),(7,.ints .i64 true<|az p.aa),(12,.ints .i64 true aE),(13,.i k),(14,.box true<|dQ u),(15,.bA false 2 default oX<|cR u),(16,.i j)])
    (λj aE=>j<=(cR u).length/\Mq u dg rt=((cR u).drop j).foldl (jv u dg) aE/\aE.length=n/\xl aE (6+6*j)/\(∀i,i≠u.out.toNat->aE.getD i 0=rt.getD i 0))
    (λj _=>(cR u).length-j) 0 rt ⟨adk _,W,D2,V.mono fh,λ_ _=>rfl⟩ ⟨G,G,G,G,G,G,G,G,G,U⟩ ?_
   rintro j aE⟨Z,v,q,r,F⟩;have F2:(cR u).length<=8:=by
    rcases hu.kind with g|g|g
    ·have:=(hu.int g).1;omega
    ·have:=(hu.add g).2.1;omega
    have:=(hu.table g).1;omega
   refine bQ W W ?_ ?_<;>intro b
   ·have z:j<(cR u).length:=E;have ej:(j:Int).toNat=j:=E;have H:(cR u).getD j default=(cR u)[j]:=au z;rw[aeE z,afT]at v;have O:=hu.feed _<|M _<|adC z;have P:xl aE 54:=r.mono E;have R:=r.getD E (cR u)[j].sh.toNat;have ho:=r.getD E u.out.toNat;have hd:=t.getD fh (cR u)[j].sh.toNat;refine k1 W aW (by simp only[bo,and_true,ej,H,q,w]<;>omega) ?_;refine again (j+1,jv u dg aE (cR u)[j]) (by dsimp only;omega) ⟨by dsimp only;omega,v,by unfold jv;rw[kH];exact q,?_,λi hi=>?_⟩ ⟨G,G,G,G,⟨W,ar.of_eq<|congrArg (SV.ints .i64 true) ?_⟩,G,G,G,G,U⟩
    ·unfold jv;refine xl.set (r.mono<|by dsimp only;omega) ?_;dsimp only;omega
    ·unfold jv;simp_all
    rw[ej,H];rfl
   have:j=(cR u).length:=E;subst this;rw[afU]at v;refine r0 W<|il aE ⟨v.symm,q,r.mono E,F⟩
  rintro si⟨e1,l1,b1,g1⟩;rw[<-e1]at c;have K0:=t.getD fh u.out.toNat;have G1:=b1.getD fh u.out.toNat;refine CP 1 (λaE:List Int=>[(1,.i 6),(2,.box true<|bh p),(5,.ints .i64 true dg),(7,.ints .i64 true<|az p.aa),(12,.ints .i64 true aE),(13,.i k),(14,.box true<|dQ u)])
   (λaE=>aE=tZ u dg si/\aE.length=n/\xl aE 106/\∀j,j≠u.out.toNat->aE.getD j 0=rt.getD j 0) ?_ ?_
  ·refine bQ W W ?_ ?_<;>intro b
   ·have b:u.kind=dy:=b;refine k1 W aW (by simp only[bo,and_true,l1,w]<;>omega) ?_;refine meet (tZ u dg si) ⟨W,?_,?_,λj Z=>?_⟩ ⟨G,G,G,G,⟨W,ar.of_eq<|congrArg (SV.ints .i64 true)<|by unfold tZ;rw[if_pos b]⟩,G,G,U⟩
    ·unfold tZ;simp_all
    ·unfold tZ;rw[if_pos b];exact(b1.mono fh).set E
    unfold tZ;simp_all
   have b:¬u.kind=dy:=b;refine r0 W<|il si ⟨?_,l1,b1.mono fh,g1⟩;unfold tZ;rw[if_neg b]
  rintro L⟨e2,l2,b2,g2⟩;rw[<-e2]at c;have F4:=b2.getD fh u.out.toNat;refine CP 1 (λaE:List Int=>[(1,.i 6),(2,.box true<|bh p),(5,.ints .i64 true dg),(7,.ints .i64 true<|az p.aa),(12,.ints .i64 true aE),(13,.i k),(14,.box true<|dQ u)])
   (λaE=>aE=rP u dg L/\aE.length=n/\xl aE 112/\∀j,j≠u.out.toNat->aE.getD j 0=rt.getD j 0) ?_ ?_
  ·refine bQ W W ?_ ?_<;>intro b
   ·have b:u.kind=bq:=b;have H1:=(hu.int b).1;have F0:Int.toNat 0=0:=W;have H2:=hu.feed _<|bw (d:=default)<|show 0<u.ah.length from E;have Cc:=t.getD fh (u.ah.getD 0 default).sh.toNat;refine k1 W aW (by simp only[bo,and_true,l2,w,F0]<;>omega) ?_;refine meet (rP u dg L) ⟨W,?_,?_,λj Z=>?_⟩ ⟨G,G,G,G,⟨W,ar.of_eq<|congrArg (SV.ints .i64 true)<|by unfold rP;rw[if_pos b];rfl⟩,G,G,U⟩
    ·unfold rP;simp_all
    ·unfold rP;rw[if_pos b];exact(b2.mono fh).set E
    unfold rP;simp_all
   have b:¬u.kind=bq:=b;refine r0 W<|il L ⟨?_,l2,b2.mono fh,g2⟩;unfold rP;rw[if_neg b]
  rintro B⟨e3,l3,b3,g3⟩;rw[<-e3]at c;refine r1 W (by simp only[bo,and_true,l3]<;>omega) ?_;refine gb W ?_ ?_<;>intro b
  ·have b:(6:Int)<B.getD u.out.toNat 0:=b;rw[if_pos b]at c;refine bK W W ?_;show false=Ap p.aa n;rw[c];rfl
  have b:¬(6:Int)<B.getD u.out.toNat 0:=b;rw[if_neg b]at c;refine r1 W ba<|gS (k+1,B) ⟨by dsimp only;omega,c,l3,?_⟩;intro x R;obtain⟨i,hi,rfl⟩:=ahK.1 R;have e:B[i]=B.getD i 0:=(au hi).symm;refine⟨(b3 _ R).1,?_⟩;rw[e];by_cases D:i=u.out.toNat
  ·rw[D];omega
  rw[g3 i D];exact(V.getD fh i).2
 rw[afi E]at c;refine bK W W ?_;show true=Ap p.aa n;rw[c];rfl
end
structure Sys where
 names:List hO
 bd:List (List cU)
 start:List fD
def YE(s:Sys):SV:=.agg [.strs false s.names,n5 false s.bd,.bA false 2 default dX s.start]
noncomputable def B4(l:List (List cU)):Int:=aK uT l
def Gn(s:Sys)(sh:List (List cU)){V K:Nat}(h:∀p∈sh++s.bd,(∀u∈p,Di V K u)/\p.length<2^50)(hl:sh.length+s.bd.length<2^40)(f:K<2^36):
 aM Tryz.prog 53 [YE s,n5 false sh] (.i<|B4<|sh++s.bd):=by
 refine bS Tryz.func53 W<|k1 W aW (by simp[bo,and_true,len,aeW];refine⟨λx=>rfl,λx=>rfl,?_,λx=>rfl,λx=>rfl,?_⟩<;>omega) ?_;refine loop (λi:Nat=>[(5,n5 true<|sh++s.bd),(6,.i i)]) (λi=>i<=(sh++s.bd).length/\B4 (sh++s.bd)=B4 ((sh++s.bd).drop i)) (λi=>(sh++s.bd).length-i) 0 ⟨adk _,W⟩
  ⟨⟨W,W,W,by rw[cX,aeY];exact jC.refl _⟩,G,U⟩ ?_
 rintro i⟨hi,b⟩;have d:(sh++s.bd).length=sh.length+s.bd.length:=aeP;refine bQ W W ?_ ?_<;>intro g
 ·have a:i<(sh++s.bd).length:=E;have e:(i:Int).toNat=i:=E;have j:(sh++s.bd).getD i default=(sh++s.bd)[i]:=au a;unfold B4 at b⊢;rw[dA _ a]at b;obtain⟨g1,g2⟩:=h _<|adC a;refine r1 W (by simp[bo,and_true,e]<;>omega) ?_;refine cl W (by rw[e,j];rfl) (Aq (sh++s.bd)[i] g1 g2 f) W ?_;refine bQ W W ?_ ?_<;>intro c
  ·have c:uT (sh++s.bd)[i]≠0:=c;rw[if_pos c]at b;refine bK W W<|ar.of_eq<|congrArg SV.i b.symm
  have c:¬uT (sh++s.bd)[i]≠0:=c;rw[if_neg c]at b;refine r1 W a7<|gS (i+1) ⟨E,b⟩
 refine bK W W<|bR ?_;rw[b,afi E];rfl
def sZ(l:List (List cU)):bU (l.map λp=>(di false p).den)=true:=te (by intro x a;obtain⟨p,-,rfl⟩:=aeN.1 a;rfl)
def Va(bd:List (List cU))(p:List cU){V K L:Nat}(l:∀u∈p,Di V L u)(d:p.length<2^40)(h:Y0 V K bd p)(x:bd.length<2^20)(z:bd.length<V)(t:V<2^20)(f:K+K+1<2^34)(n:L+3<2^34):
 L7 Tryz.prog 133 (n5 true bd) [di false p] (di false<|mO bd p):=by
 refine L7.of (sz:=1) (X:=bd.map λp=>(di false p).den) W (sZ bd) W I λk r o b=>?_;rw[aeW]at b;refine sE (fn:=Tryz.f133) Tryz.func133 W W W W W<|bP W W (pL p 0 (V:=V) (K:=K) (L:=L) l h.d0 E d f n) W<|bM W (λi:Nat=>[(0,.pv (·=k)),(1000000,.abs<|JL (.list .own 1 (bd.map λp=>(di false p).den)) k r o),(1,di false p),(5,di false<|ll bd p i),(6,.i i)]) (λi=>i<=bd.length) (λi=>bd.length-i) 0 (adk _) ⟨G,W,G,G,G,U⟩ ?_;intro i hi;refine r0 W<|ex W W W (WQ (P:=Tryz.prog) W W Tryz.underlying100 b) W<|bQ W W ?_ ?_<;>intro q
 ·have a:i<bd.length:=E;have w:(i:Int)+1=((i+1:Nat):Int):=E;have v:bd.getD i []=bd[i]:=au a;have c:=h.d i a;obtain⟨j,g⟩:=h.r i a;have s:=h.a i a;have hm:=h.m i a;have e:(ll bd p i++lP (tT p<|i+1) (bd.getD i [])).length<2^40:=by
   rw[aeP];have q:(ll bd p i).length<2^30:=by
    cases i with
    |zero=>exact h.d0.norm.2
    |succ i=>exact(h.a i E).norm.2
   have A:=hm.norm.2;unfold lP;omega
  rw[aeP]at e;refine r1 W a7<|cd W (by rw[w];rfl) (pL p (i+1) (V:=V) (K:=K) (L:=L) l c E d f n) W ?_;refine r0 W<|Y9 W W W (WX (P:=Tryz.prog) (m:=i) W Tryz.underlying100 (j7 hA W) a b) W<|ldj W W (Q4 (y:=(di false<|bd.getD i []).den) (j7 hA W) (sZ bd) (by rw[agb,aeF a,v];rfl) W) W W ?_;refine bH W (oS (tT p<|i+1) (bd.getD i []) (V:=V) (K:=K) (L:=K) (M:=K) c.norm.1 j hm (by have:=c.norm.2;unfold tT;omega) g E f E) W ?_;refine bH W (mc (ll bd p i) (lP (tT p<|i+1)<|bd.getD i []) (V:=V) (K:=K) s e f) W<|k1 W aW a7<|again (i+1) E E ⟨G,W,G,G,G,U⟩
 have:i=bd.length:=E;subst this;refine r0 W<|SN [(4,di false<|ll bd p bd.length),(1000000,.abs<|JL (.list .own 1 (bd.map λp=>(di false p).den)) k r o)] ⟨⟨W,W,.le<|ar.refl _⟩,W,U⟩ W (ar.refl _) ⟨G,U⟩
end Go.Ai
