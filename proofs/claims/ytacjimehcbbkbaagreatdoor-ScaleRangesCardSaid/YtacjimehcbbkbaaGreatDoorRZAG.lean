/- ScaleRanges holds of the program, under no condition. -/
import Derived.Test.YtacjimehcbbkbaaGreatDoorRZAF
set_option linter.all false
set_option maxRecDepth 100000
set_option maxHeartbeats 0
noncomputable section
namespace Go.Ai
open Go.Proofs Go.RowKit Go.Proofs.Tryz
section
variable{i:Nat}{s:cq}{α:Type}{l:L α}
def aG{α:Type}(f:α->Int):L α->Int
 |[]=>0
 |x::l=>if f x≠0 then f x else aG f l
def cP[Inhabited α](f:α->Int)(h:i<l.length):aG f (l.drop i)=if f (l[i])≠0 then f (l[i])else aG f (l.drop<|i+1):=by rw[acJ h];rfl
def az{d:α}(h:i<l.length):l.getD i d=l[i]:=fP
def dI(s:cq):Prop:=s.length<2^45
def E6(xs:L cq)(e:∀s∈xs,dI s)(hl:xs.length<2^60):ab 23 [.strs false xs] (.i<|aG aQ xs):=by
 refine cp func23 W<|r0 W<|ba (λi:Nat=>[(0,.strs false xs),(3,.i i)]) (λi=>i<=xs.length/\aG aQ xs=aG aQ (xs.drop i)) (λi=>xs.length-i) 0 ⟨aaQ _,W⟩ ?_;rintro i⟨hi,b⟩;refine cm W W ?_ ?_<;>intro h;have a:i<xs.length:=E;have d:(i:Int).toNat=i:=E;have f:xs.getD i []=xs[i]:=az a;rw[cP _ a]at b;refine r1 W (by simp[aj,d];omega) ?_;refine cl W (by rw[d,f];rfl) (check_sound xs[i]<|e _<|aaZ a) W ?_;refine cm W W ?_ ?_<;>intro c;refine b7 W W<|aij SV.i<|by rw[b,aas c]
 refine r1 W (by simp[aj];omega) ?_;exact aM (i+1) ⟨E,by rw[b,aaq c]⟩;refine b7 W W<|cn ?_;rw[b,show i=xs.length from E,aeM];rfl
def bO{α:Type}{f:α->Int}:∀{l:L α},aG f l=0↔∀x∈l,f x=0
 |[]=>by simp[aG]
 |x::l=>by simp only[aG];by_cases h:f x=0;rw[aaq<|by simpa using h,bO];simp[h];simp_all
structure jh where
 lo:cq
 hi:cq
 deriving Inhabited
def fA(s:jh):SV:=.agg [.s s.lo,.s s.hi]
abbrev aib:=SV.bc false 2 default fA
def bQ(s:cq):Rat:=if h:aQ s=0 then(PB h).choose else 0
def fW(h:aQ s=0):qt (bQ s)=s:=by unfold bQ;grind
def Az(h:aQ s=0):Dc (bQ s) 600:=by unfold bQ;grind
def eO(h:aQ s=0):Sz (bQ s) 67:=(Az h).sz
def dQ(s:jh):Int:=if aQ s.lo≠0 then aQ s.lo else if aQ s.hi≠0 then aQ s.hi else if 0<wW (bQ s.lo) (bQ s.hi)then 11 else 0
def Ct(s:jh)(f:dI s.lo)(e:dI s.hi):ab 61 [fA s] (.i<|dQ s):=by
 refine cp func61 W<|ck W W (check_sound s.lo f) W<|cm W W ?_ ?_<;>intro c;refine ck W W (check_sound s.hi e) W<|b6 W 14 W ?_ ?_<;>intro a;refine r0 W ?_;have hc:=ru (bQ s.lo) (bQ s.hi) (eO c) (eO a) fV;rw[fW c,fW a]at hc;refine bW W hc W<|r0 W ?_;have hs:dQ s=if 0<wW (bQ s.lo) (bQ s.hi)then 11 else 0:=by unfold dQ;omega
 refine bY W ?_ ?_<;>intro d;refine b7 W W<|aij SV.i<|by rw[hs,aas d]
 refine b7 W W<|aij SV.i<|by rw[hs,aaq d,a]
 refine b7 W W<|aij SV.i<|by unfold dQ;omega
 have b:¬aQ s.lo=0:=c;refine b6 W 14 W (λa=>aaF a b) λa=>?_;refine b7 W W<|aij SV.i<|by unfold dQ;rw[aas b]
def E7(xs:L jh)(e:∀s∈xs,dI s.lo/\dI s.hi)(hl:xs.length<2^60):ab 13 [aib xs] (.i<|aG dQ xs):=by
 refine cp func13 W<|r0 W<|ba (λi:Nat=>[(0,aib xs),(3,.i i)]) (λi=>i<=xs.length/\aG dQ xs=aG dQ (xs.drop i)) (λi=>xs.length-i) 0 ⟨aaQ _,W⟩ ?_;rintro i⟨hi,b⟩;refine cm W W ?_ ?_<;>intro h;have a:i<xs.length:=E;have d:(i:Int).toNat=i:=E;have f:xs.getD i default=xs[i]:=az a;rw[cP _ a]at b;have hh:=e _<|aaZ a;refine r1 W (by simp[aj,d];omega) ?_;refine cl W (by rw[d,f];rfl) (Ct xs[i] hh.1 hh.2) W ?_;refine cm W W ?_ ?_<;>intro c;refine b7 W W<|aij SV.i<|by rw[b,aas c]
 refine r1 W (by simp[aj];omega) ?_;exact aM (i+1) ⟨E,by rw[b,aaq c]⟩;refine b7 W W<|cn ?_;rw[b,show i=xs.length from E,aeM];rfl
end
def Sz.num{q:Rat}{K:Nat}(h:Sz q K):Sz (q.num:Rat) (K+1):=by constructor;simpa using ahi h.1;simp[gX]
def Hb(z:Int):qt (nD (z:Rat))=decl z.natAbs 1:=by unfold nD;rw[Rat.num_intCast];split;rename_i h;have:=(Rat.intCast_neg z).symm;rw[this,oX];unfold bS;grind;rename_i h;rw[oX];unfold bS;rw[aaq h]
def Ot(d:Nat):qt (d:Rat)=decl d 1:=(oX (d:Int)).trans<|L5 d
instance(q:Rat)(n:Nat):Decidable (Dc q n):=by unfold Dc;infer_instance
def oh(s:cq)(n:Nat):Bool:=decide (s.length<=2*n+2/\aQ s=0/\Dc (bQ s) n)
def Am(s:cq)(n:Nat)(d:dI s)(hn:n<2^40):ab 103 [.s s,.i n] (.u<|oh s n):=by refine cp func103 W<|r1 W (by simp[aj,aag];omega) ?_;refine aF 11 W ?_ ?_<;>intro g1;refine ck W W (check_sound s d) W<|b6 W 16 W ?_ ?_<;>intro g2;have a:=eO g2;have e:=fW g2;have n1:=Hk (bQ s)<|a.tf fV;have c:=HY (bQ s)<|a.tf fV;rw[e]at n1 c;refine ck W W n1 W<|bW W (rD ((bQ s).num:Rat)<|a.num.tf fV) W ?_;rw[Hb];refine b6 W 24 W ?_ ?_<;>intro b;refine ck W W c W ?_;rw[Ot];refine b7 W W<|aij SV.u<|decide_eq_decide.2 ?_;constructor;intro f;exact⟨E,g2,E,E⟩;rintro⟨_,_,_,f⟩;omega;refine b7 W W ?_;show false=oh s n;symm;exact decide_eq_false λhh=>b (by have:=hh.2.2.1;omega);refine b7 W W ?_;show false=oh s n;symm;exact decide_eq_false λhh=>g2 hh.2.1;refine b7 W W ?_;show false=oh s n;symm;exact decide_eq_false λhh=>g1 (by have:=hh.1;omega)
def F9(xs:L cq)(m n:Nat)(e:∀s∈xs,dI s)(hl:xs.length<2^60)(hm:m<2^60)(hn:n<2^40):
 ab 29 [.strs false xs,.i m,.i n] (.u<|decide (xs.length<=m)&&xs.all λs=>oh s n):=by
 refine cp func29 W<|cm W W ?_ ?_<;>intro h;refine b7 W W ?_;show false=_
 grind
 rw[decide_eq_true E,aeD];refine r0 W<|ba (λi:Nat=>[(0,.strs false xs),(2,.i n),(7,.i i)]) (λi=>i<=xs.length/\(xs.all λs=>oh s n)=((xs.drop i).all λs=>oh s n)) (λi=>xs.length-i) 0 ⟨aaQ _,W⟩ ?_;rintro i⟨hi,c⟩;refine cm W W ?_ ?_<;>intro h;have a:i<xs.length:=E;have d:(i:Int).toNat=i:=E;have f:xs.getD i []=xs[i]:=az a;rw[acJ a,ac4]at c;refine r1 W (by simp[aj,aag,d];omega) ?_;refine cl W (by rw[d,f];rfl) (Am xs[i] n (e _<|aaZ a) hn) W ?_;refine r0 W<|nS W W W ?_ ?_<;>intro b;refine b7 W W ?_;simp at b;rw[c,b];rfl;simp at b;refine r1 W (by simp[aj,aag];omega) ?_;exact aM (i+1) ⟨E,by rw[c,b];rfl⟩;refine b7 W W ?_;show true=_
 grind
def ik(q:Rat):Int:=if 600<(decl q.num.natAbs 1).length\/600<(decl q.den 1).length then 4 else 0
def BC(q:Rat){K:Nat}(h:Sz q K)(a:K<2^36):ab 154 [.s<|qt q] (.i<|ik q):=by
 refine cp func154 W<|ck W W (Hk q<|h.tf E) W<|bW W (rD (q.num:Rat)<|h.num.tf E) W ?_;rw[Hb];refine b6 W 8 W ?_ ?_<;>intro g;refine b7 W W<|aij SV.i<|by unfold ik;omega
 refine ck W W (HY q<|h.tf E) W ?_;rw[Ot];refine cm W W ?_ ?_<;>intro g2;refine b7 W W<|aij SV.i<|by unfold ik;omega
 refine b7 W W<|aij SV.i<|by unfold ik;rw[aaq E]
def LX{q:Rat}:ik q=0↔Dc q 600:=by unfold ik Dc;omega
def qx(p q:Rat):Rat:=if 0<=wW p q then p else q
def pc(p q:Rat){K L:Nat}(b:Sz p K)(a:Sz q L)(c:K+L+1<2^34):ab 156 [.s<|qt p,.s<|qt q] (.s<|qt<|qx p q):=by
 refine cp func156 W<|ck W W (ru p q b a c) W<|cm W W ?_ ?_<;>intro g;refine b7 W W<|aij (λq=>SV.s<|qt q)<|by unfold qx;rw[aas g]
 refine b7 W W<|aij (λq=>SV.s<|qt q)<|by unfold qx;rw[aaq g]
def FX{α:Type}{xs ys:L α}{d:α}(hl:xs.length=ys.length)(h:∀k,k<xs.length->xs.getD k d=ys.getD k d):xs=ys:=by apply agd hl;simp_all
def Db(xs ys:L Int)(hl:xs.length<2^60):ab 47 [fO xs,fO ys] (.u<|decide (xs=ys)):=by
 refine cp func47 W<|cm W W ?_ ?_<;>intro h;refine b7 W W ?_;show false=_
 grind
 have a:xs.length=ys.length:=E;refine r0 W<|ba (λi:Nat=>[(0,fO xs),(1,fO ys),(5,.i i)]) (λi=>i<=xs.length/\∀k,k<i->xs.getD k 0=ys.getD k 0) (λi=>xs.length-i) 0 ⟨aaQ _,λk h=>E⟩ ?_;rintro i⟨hi,e⟩;refine cm W W ?_ ?_<;>intro h;have c:(i:Int).toNat=i:=E;refine k1 W aP (by simp[aj,aag,c];omega) ?_;refine bY W ?_ ?_<;>intro b;rw[c]at b;refine b7 W W ?_;show false=_
 grind
 rw[c]at b;refine r1 W (by simp[aj,aag];omega) ?_;refine aM (i+1) ⟨E,λk d=>?_⟩
 grind
 refine b7 W W ?_;show true=_;symm;exact decide_eq_true<|FX a λk d=>e k E
def Kq(n:Nat)(hn:n<2^40):ab 144 [.i n] (.strs true<|List.replicate n<|qt 0):=by
 rw[rX];refine cp func144 W<|r0 W<|ba (λi:Nat=>[(0,.i n),(3,.strs true<|List.replicate i [48]),(4,.i i)]) (λi=>i<=n) (λi=>n-i) 0 (aaQ _) ?_;intro i hi;refine cm W W ?_ ?_<;>intro h;refine r1 W bd<|again (i+1) E E ⟨G,⟨W,aij (SV.strs true)<|by rw[List.replicate_succ']⟩,G,U⟩;refine b7 W W<|aij (SV.strs true) ?_
 grind
def TL(xs:L Int):Prop:=xs.length<2^20/\∀x∈xs,0<=x/\x<2^31
def Uk(xs:L Int)(y:Int):(xs++[y]).sum=xs.sum+y:=I
def Uj{xs:L Int}{i:Nat}(h:i<xs.length):(xs.take<|i+1).sum=(xs.take i).sum+xs.getD i 0:=by rw[ace h,Uk,az h]
def GM:∀{xs:L Int},(∀x∈xs,0<=x/\x<2^31)->0<=xs.sum/\xs.sum<=xs.length*2^31
 |[],_=>I
 |x::xs,h=>by have c:=GM (xs:=xs) λy a=>h y (by simp[a]);have b:=h x I;simp;omega
def l8(xs:L Int)(h:TL xs):ab 153 [fO xs] (.i xs.sum):=by
 have hl:=h.1;refine cp func153 W<|r0 W<|ba (λi:Nat=>[(0,fO xs),(3,.i (xs.take i).sum),(4,.i i)]) (λi=>i<=xs.length) (λi=>xs.length-i) 0 (aaQ _) ?_;intro i hi;refine cm W W ?_ ?_<;>intro e;have a:i<xs.length:=E;have c:(i:Int).toNat=i:=E;have d:=GM (xs:=xs.take i) λx b=>h.2 x<|afB b;have b:=h.2 xs[i]<|aaZ a;have f:xs.getD i 0=xs[i]:=az a;simp at d;refine r1 W (by simp only[aj,aag,c];omega) ?_;exact again (i+1) E E ⟨G,⟨W,aij SV.i<|by rw[c,Uj a]⟩,G,U⟩;refine b7 W W<|cn ?_
 grind
def jJ:L Int->L Int->Bool
 |x::a,y::b=>if x≠y then decide (y<x)else jJ a b
 |_,_=>false
def beforeL(a b:L Int):Bool:=if a.sum≠b.sum then decide (b.sum<a.sum)else jJ a b
def OQ{a b:L Int}{i:Nat}(d:i<a.length)(c:i<b.length):jJ (a.drop i) (b.drop i)=if a[i]≠b[i]then decide (b[i]<a[i])else jJ (a.drop<|i+1) (b.drop<|i+1):=by rw[acJ d,acJ c];rfl
def J7(a b:L Int)(j:TL a)(m:TL b)(hl:a.length=b.length):ab 240 [fO a,fO b] (.u<|beforeL a b):=by
 have n:=j.1;refine cp func240 W<|ck W W (l8 a j) W<|ck W W (l8 b m) W<|cm W W ?_ ?_<;>intro h;have h:a.sum≠b.sum:=h;refine ck W W (l8 a j) W<|ck W W (l8 b m) W<|b7 W W<|aij SV.u ?_;unfold beforeL;rw[aas h];have h:¬a.sum≠b.sum:=h;have o:beforeL a b=jJ a b:=by unfold beforeL;rw[aaq h]
 refine r0 W<|ba (λi:Nat=>[(0,fO a),(1,fO b),(5,.i i)]) (λi=>i<=a.length/\beforeL a b=jJ (a.drop i) (b.drop i)) (λi=>a.length-i) 0 ⟨aaQ _,o⟩ ?_;rintro i⟨hi,d⟩;refine cm W W ?_ ?_<;>intro p;have f:i<a.length:=E;have e:i<b.length:=E;have g:(i:Int).toNat=i:=E;have l:a.getD i 0=a[i]:=az f;have k:b.getD i 0=b[i]:=az e;rw[OQ f e]at d;refine k1 W aP (by simp[aj,aag,g];omega) ?_;refine bY W ?_ ?_<;>intro c;rw[g,l,k]at c;have c:a[i]≠b[i]:=c;rw[aas c]at d;refine k1 W aP (by simp[aj,aag,g];omega) ?_;refine aH W<|aij SV.u ?_;rw[g,l,k,d];rw[g,l,k]at c;have c:¬a[i]≠b[i]:=c;rw[aaq c]at d;refine r1 W (by simp[aj,aag];omega) ?_;exact aM (i+1) ⟨E,d⟩;refine b7 W W ?_;show false=_;rw[d,show i=a.length from E,aeM];simp[jJ]
structure bq where
 c:Rat
 pw:List Int
instance:Inhabited bq:=⟨⟨0,[]⟩⟩
def JP(t:bq):SV:=.agg [.s<|qt t.c,fO t.pw]
def cH(own:Bool)(p:L bq):SV:=.bc own 2 default JP p
def Cv(V K:Nat)(t:bq):Prop:=t.pw.length=V/\TL t.pw/\Sz t.c K
def xC(t:bq):L bq->Rat×L bq
 |u::r=>if u.pw=t.pw then(u.c+t.c,r)else(t.c,u::r)
 |[]=>(t.c,[])
def jv(p:L bq)(t:bq):L bq:=(p.takeWhile λu:bq=>beforeL u.pw t.pw)++(if(xC t (p.dropWhile λu:bq=>beforeL u.pw t.pw)).1=0 then[]else[⟨(xC t (p.dropWhile λu:bq=>beforeL u.pw t.pw)).1,t.pw⟩])++(xC t (p.dropWhile λu:bq=>beforeL u.pw t.pw)).2
def C3{α:Type}{f:α->Bool}{p:L α}{i:Nat}(hi:i<=p.length)(a:∀k(h:k<p.length),k<i->f p[k]=true)(c:∀h:i<p.length,f p[i]=false):p.takeWhile f=p.take i/\p.dropWhile f=p.drop i:=by
 induction p generalizing i with
 |nil=>cases hi;simp
 |cons x p b=>
  cases i with
  |zero=>simp_all
  |succ i=>
   have d:=a 0 I I;simp at d;have:=b (i:=i) (by simpa using hi) (λk h e=>a (k+1) (by simpa using h) E) λh=>c<|by simpa using h
   simp_all
def aX{α:Type}{l:L α}{i:Nat}{d:α}(h:i<l.length):l.getD i d∈l:=fP
def Bo(p:L bq)(t:bq){V K:Nat}(y:∀u∈p,Cv V K u)(l:Cv V K t)(hl:p.length<2^40)(M:K+K+1<2^34):
 ab 151 [cH false p,JP t] (cH false<|jv p t):=by
 have C:=l.2.1.1;refine cp func151 W<|cQ 4 [(0,cH false p),(3,.box true<|JP t),(5,cH true<|p.takeWhile λu=>beforeL u.pw t.pw),(6,.i (p.takeWhile λu=>beforeL u.pw t.pw).length)] True ?_ λ_=>?_;refine r0 W<|ba (λi:Nat=>[(0,cH false p),(3,.box true<|JP t),(5,cH true<|p.take i),(6,.i i)]) (λi=>i<=p.length/\∀k(h:k<p.length),k<i->beforeL p[k].pw t.pw=true) (λi=>p.length-i) 0 ⟨aaQ _,λk h H=>E⟩ ?_;rintro i⟨hi,J⟩;have out:(∀h:i<p.length,beforeL p[i].pw t.pw=false)->(p.takeWhile λu=>beforeL u.pw t.pw)=p.take i/\(p.takeWhile λu=>beforeL u.pw t.pw).length=i:=by intro h;have:=(C3 (f:=λu:bq=>beforeL u.pw t.pw) hi J h).1;simp_all
 refine b6 W 12 W ?_ ?_<;>intro h;have g:i<p.length:=E;have d:(i:Int).toNat=i:=E;have v:p.getD i default=p[i]:=az g;have s:=y _<|aaZ g;refine r1 W (by simp only[aj,aag,d];omega) ?_;refine cd W (by rw[d,v];rfl) (J7 p[i].pw t.pw s.2.1 l.2.1<|s.1.trans l.1.symm) W ?_;refine k0 W aP<|nS W W W ?_ ?_<;>intro m;refine r1 W (by simp only[aj,aag,d,len,ade,acx,abo,acC]<;>omega) ?_;refine again (i+1) E ⟨E,λk h H=>?_⟩ ⟨G,G,⟨W,W,W,?_⟩,G,U⟩
 grind
 rw[d,v,dj,ace g,acB];exact kS.append (kS.refl _) ⟨.inl W,W⟩;refine r0 W ?_;have o:=out λ_=>m;exact eU U ⟨G,G,⟨W,aij (cH true) o.1.symm⟩,⟨W,aij SV.i<|by rw[o.2]⟩,U⟩;have o:=out λN=>aaF N E;refine k0 W aP<|eU U ⟨G,G,⟨W,aij (cH true) o.1.symm⟩,⟨W,aij SV.i<|by rw[o.2]⟩,U⟩;have b:(p.takeWhile λu=>beforeL u.pw t.pw)++(p.dropWhile λu=>beforeL u.pw t.pw)=p:=List.takeWhile_append_dropWhile;unfold jv;generalize (p.takeWhile λu=>beforeL u.pw t.pw)=a at*;generalize (p.dropWhile λu=>beforeL u.pw t.pw)=r at*;subst b;simp only[acU]at hl;have w:(a++r).drop a.length=r:=List.drop_left;refine yI 2 (λ(c:Rat)(j:Nat)=>[(0,cH false<|a++r),(3,.box true<|JP t),(5,cH true a),(6,.i j),(7,.s<|qt c)])
  (λc j=>xC t r=(c,(a++r).drop j)/\j<=a.length+r.length/\Sz c (K+K+1)) ?_ ?_
 have q:Sz t.c (K+K+1):=l.2.2.mono E;refine b6 W 37 W ?_ ?_<;>intro h;have h:a.length<(a++r).length:=E;have d:((a.length:Nat):Int).toNat=a.length:=E;obtain⟨u,n,rfl⟩:∃u n,r=u::n:=by
  cases r with
  |nil=>simp at h
  |cons u n=>exact⟨u,n,W⟩
 have v:(a++u::n).getD a.length default=u:=I;have hu:=y u I;have B:=hu.2.1.1;refine r1 W (by simp only[aj,aag,d];omega) ?_;refine cd W (by rw[d,v];rfl) (Db u.pw t.pw E) W ?_;refine k0 W aP<|bY W ?_ ?_<;>intro m;refine r1 W (by simp only[aj,aag,d];omega) ?_;refine cd W (by rw[d,v];rfl) (rC u.c t.c hu.2.2 l.2.2 M) W ?_;refine k1 W aP (by simp only[aj,aag,len];omega) ?_;refine fL (u.c+t.c,a.length+1) ⟨?_,?_,hu.2.2.add l.2.2⟩;simp[xC,m,ahv];simp;refine r0 W<|fL (t.c,a.length) ⟨?_,?_,q⟩;simp[xC,m];dsimp only;omega;have h:¬a.length<(a++r).length:=E;have D:r=[]:=by simp_all
 subst D;refine k0 W aP<|fL (t.c,a.length) ⟨?_,?_,q⟩;simp[xC];dsimp only;omega;rintro c j⟨hm,O,hc⟩;rw[hm];refine cQ 1 [(0,cH false<|a++r),(5,cH true<|a++if c=0 then[]else[⟨c,t.pw⟩]),(6,.i j)] True ?_ λ_=>?_;refine ck W W (oc c) W<|r0 W<|nS W W W ?_ ?_<;>intro h;have h:¬c=0:=by simpa using h
 refine r1 W (by simp only[aj,aag,len,acx,abo,acC]<;>omega) ?_;refine eU U ⟨G,⟨W,W,W,?_⟩,G,U⟩;rw[aaq h,dj,acB];exact kS.append (kS.refl _) ⟨.inr W,W⟩;have h:c=0:=by simpa using h
 refine b8 W U ⟨G,⟨W,aij (cH true) fP⟩,G,U⟩;have z:(a++if c=0 then[]else[(⟨c,t.pw⟩:bq)]).length<=a.length+1:=by split<;>simp
 have A:(j:Int).toNat=j:=E;have F:(a++r).length=a.length+r.length:=acU;have P:((a++r).drop j).length<=a.length+r.length:=I;have e:((a++r).drop j).take ((a++r).length-j)=(a++r).drop j:=acD I;refine r1 W (by simp only[aj,aag,A,e,len,acx];refine⟨λx=>rfl,λx=>rfl,?_⟩;omega) ?_;refine RY W ⟨W,W,?_⟩;rw[vW,oM λ_=>rfl,oM λ_=>rfl,dj,A,e,<-acB]
def fj(l:L bq):L bq:=l.foldl jv []
def OE{l:L bq}{i:Nat}(h:i<l.length):fj (l.take<|i+1)=jv (fj<|l.take i) l[i]:=by unfold fj;rw[ace h,afv];rfl
def AM(a b:L bq):L bq:=fj<|a++b
section
variable{d:Int}{a b:L Int}{l:L bq}{D K M V k m n v w:Nat}{c p q:Rat}
def Wn(D M n w:Nat)(q:Rat):Prop:=∃a:Int,a.natAbs<=n*M^w/\q*((D^w:Nat):Rat)=(a:Rat)
structure rH(D M k:Nat):Prop where
 pos:0<D
 le:D*10^18<=M
 dig:(ah M).length<=k
def rH.aes(h:rH D M k):D<=M:=acI (ahJ _ fV) h.le
def Wn.zero(D M n w:Nat):Wn D M n w 0:=⟨0,I,I⟩
def Wn.le(h:Wn D M n w q)(hn:n<=m):Wn D M m w q:=by obtain⟨a,f,e⟩:=h;exact⟨a,acI f<|acM _ hn,e⟩
def Wn.add(h:Wn D M n w p)(g:Wn D M m w q):Wn D M (n+m) w (p+q):=by
 obtain⟨a,f,e⟩:=h;obtain⟨b,g1,g2⟩:=g;refine⟨a+b,?_,?_⟩;rw[adD];omega
 grind
def Wn.neg(h:Wn D M n w p):Wn D M n w (-p):=by
 obtain⟨a,f,e⟩:=h;refine⟨-a,E,?_⟩
 grind
def Wn.mul(h:Wn D M n w p)(g:Wn D M m v q):Wn D M (n*m) (w+v) (p*q):=by
 obtain⟨a,e,f⟩:=h;obtain⟨b,g1,g2⟩:=g;refine⟨a*b,?_,?_⟩;rw[afX];have:=ael e g1
 grind
 grind
def Wn.up(g:rH D M k)(h:Wn D M n w q)(f:w<=v):Wn D M n v q:=by
 obtain⟨a,i,j⟩:=h;obtain⟨e,rfl⟩:=Nat.exists_eq_add_of_le f;refine⟨a*(D^e:Nat),?_,?_⟩;rw[afX,afY]
 calc a.natAbs*D^e<=(n*M^w)*M^e:=ael i (agj g.aes e)
  _=n*(M^w*M^e):=by grind
 rw[ahj,agA];grind
def Wn.one(e:rH D M k)(h:Wn D M n w q)(hn:n<=10^18):Wn D M 1 (w+1) q:=by
 obtain⟨a,f,g⟩:=h;refine⟨a*(D:Nat),?_,?_⟩;rw[afX]
 calc a.natAbs*D<=(n*M^w)*D:=acM _ f
  _=M^w*(D*n):=by grind
  _<=M^w*(D*10^18):=aey _<|aey _ hn
  _<=M^w*M:=aey _ e.le
  _=1*(M^w*M):=by grind
 rw[ahj,agA];grind
def MU{M k:Nat}(h:(ah M).length<=k):∀w,(ah<|M^w).length<=k*w+1
 |0=>by rw[Nat.pow_zero,gX];simp
 |w+1=>by
  have f:=MU h w;have e:=eC (M^w) M
  grind
def Wn.sz(f:rH D M k)(h:Wn D M n w q):Sz q ((ah n).length+k*w+1):=by
 obtain⟨a,j,r⟩:=h;have i:0<D^w:=ae6 f.pos;have e:q=Rat.divInt a ((D^w:Nat):Int):=by
  rw[ahK,agA];have:((D^w:Nat):Rat)≠0:=by
   intro g;have:(D^w:Nat)=0:=by exact_mod_cast g
   omega
  grind
 rw[e];have o:=MU f.dig w;refine zq (by exact_mod_cast i) ?_ ?_;have:=length_le j;have:=eC n<|M^w;omega;have:=length_le<|agj f.aes w;simp;omega
def HD:∀a:L Int,jJ a a=false
 |[]=>rfl
 |x::a=>by simp[jJ];exact HD a
def iW(a:L Int):beforeL a a=false:=by unfold beforeL;simp[HD]
def By:∀{a b c:L Int},jJ a b=true->jJ b c=true->jJ a c=true
 |[],_,_,h,_=>by simp[jJ]at h
 |_::_,[],_,h,_=>by simp[jJ]at h
 |_::_,_::_,[],_,g=>by simp[jJ]at g
 |x::a,y::b,z::c,h,g=>by
  simp[jJ]at h g⊢;by_cases f:x=y;subst f;by_cases e:x=z;subst e;simp at h g⊢;exact By h g;simp_all
  grind
def im{c:L Int}(h:beforeL a b=true)(g:beforeL b c=true):beforeL a c=true:=by
 unfold beforeL at*;by_cases f:a.sum=b.sum;by_cases e:b.sum=c.sum;rw[aaq<|by simpa using f]at h;rw[aaq<|by simpa using e]at g;rw[aaq<|by simp;omega];exact By h g;simp_all
 grind
def HC:∀{a b:L Int},a.length=b.length->jJ a b=false->jJ b a=false->a=b
 |[],[],_,_,_=>rfl
 |[],_::_,h,_,_=>by cases h
 |_::_,[],h,_,_=>by cases h
 |x::a,y::b,h,g1,g2=>by
  simp[jJ]at g1 g2;by_cases e:x=y;subst e;simp at g1 g2;rw[HC (by simpa using h) g1 g2]
  grind
def nB(hl:a.length=b.length)(h:beforeL a b=false)(hn:a≠b):beforeL b a=true:=by
 unfold beforeL at*;by_cases e:a.sum=b.sum;rw[aaq<|by simpa using e]at h;rw[aaq<|by simp;omega];rcases Bool.eq_false_or_eq_true (jJ b a)with g|g;exact g;exact aaF (HC hl h g) hn
 grind
def po(t:bq):L bq->L bq
 |[]=>if t.c=0 then[]else[t]
 |u::r=>if beforeL u.pw t.pw=true then u::po t r else if u.pw=t.pw then(if u.c+t.c=0 then r else⟨u.c+t.c,t.pw⟩::r)else if t.c=0 then u::r else t::u::r
def jE:∀(p:L bq)(t:bq),jv p t=po t p
 |[],t=>by simp[jv,xC,po];split<;>simp_all
 |u::r,t=>by
  have e:=jE r t;unfold jv po;unfold jv at e;by_cases h:beforeL u.pw t.pw=true;simp_all;simp[h,xC];by_cases f:u.pw=t.pw
  all_goals simp[f];split<;>simp
def AQ(p:L bq):Prop:=p.Pairwise λa b=>beforeL a.pw b.pw=true
def yo{t:bq}:∀{p:L bq}{u:bq},u∈po t p->u∈p\/u.pw=t.pw
 |[],u,h=>by simp[po]at h;simp_all
 |v::r,u,h=>by
  simp[po]at h;split at h;rcases abm.1 h with rfl|h;simp_all;rcases yo h with h|h;simp_all;exact .inr h
  grind
def D9{t:bq}{V:Nat}(i:t.pw.length=V):∀{p:L bq},(∀u∈p,u.pw.length=V)->AQ p->AQ (po t p)
 |[],_,_=>by simp[po];split<;>simp[AQ]
 |v::r,hl,h=>by have j:∀u∈r,beforeL v.pw u.pw=true:=λu hu=>List.rel_of_pairwise_cons h hu;have f:=List.Pairwise.of_cons h;simp[po];split;rename_i e;refine List.Pairwise.cons (λu hu=>?_)<|D9 i (λu hu=>hl u<|by simp[hu]) f;rcases yo hu with hu|hu;exact j u hu;rw[hu];exact e;rename_i e;split;rename_i he;split;exact f;exact List.Pairwise.cons (λu hu=>fP) f;rename_i he;split;exact h;have g:=nB ((hl v I).trans i.symm) (by simpa using e) he;refine List.Pairwise.cons (λu hu=>?_) h;rcases abm.1 hu with rfl|hu;exact g;exact im g<|j u hu
def qU{α:Type}[DecidableEq α]:∀{l m:L α},l.Nodup->(∀x∈l,x∈m)->l.length<=m.length
 |[],_,_,_=>I
 |x::l,m,hn,hs=>by
  have e:=ad2.1 hn;have:=qU (l:=l) (m:=m.erase x) e.2 λy f=>by grind
  grind
def RF(d:Nat):Nat->L (L Int)
 |0=>[[]]
 |V+1=>(RF d V).flatMap λv=>(List.range<|d+1).map λ(x:Nat)=>(x:Int)::v
def pZ{α e:Type}{f:α->L e}{c:Nat}(h:∀a,(f a).length=c):∀l:L α,(l.flatMap f).length=l.length*c
 |[]=>I
 |a::l=>by rw[ahw,acU,h,pZ h l,abo,ahk];omega
def Kr(d:Nat):∀V,(RF d V).length=(d+1)^V
 |0=>rfl
 |V+1=>by rw[RF,pZ (c:=d+1) λv=>I,Kr d V,afi]
def LD{d:Nat}:∀{v:L Int},(∀x∈v,0<=x/\x<=d)->v∈RF d v.length
 |[],_=>by simp[RF]
 |x::v,h=>by have g:=h x I;have f:=LD (v:=v) λy e=>h y (by simp[e]);simp only[abo,RF,afG,abS,afH];exact⟨v,f,x.toNat,E,by congr 1;omega⟩
def jV:∀{v:L Int},(∀x∈v,0<=x)->∀x∈v,x<=v.sum
 |[],_,x,e=>by cases e
 |y::v,h,x,e=>by
  have o:0<=v.sum:=by
   clear e;have g:∀z∈v,0<=z:=λz f=>h z (by simp[f])
   induction v with
   |nil=>simp
   |cons z v i=>
    have:=g z I
    grind
  have j:=h y I;simp;rcases abm.1 e with rfl|e;omega;have:=jV (v:=v) (λz f=>h z<|by simp[f]) x e;omega
def PwD(V:Nat)(d:Int)(v:L Int):Prop:=v.length=V/\(∀x∈v,0<=x)/\v.sum<=d
def X6{d:Nat}{p:L bq}(hs:AQ p)(h:∀u∈p,PwD V d u.pw):p.length<=(d+1)^V:=by rw[<-Kr d V,<-acx (f:=bq.pw)];refine qU ?_ ?_;rw[List.Nodup,ahl];refine List.Pairwise.imp (λ{a b}g he=>?_) hs;rw[he,iW]at g;simp_all;intro x e;obtain⟨u,hu,rfl⟩:=abS.1 e;obtain⟨o,i,j⟩:=h u hu;rw[<-o];exact LD λx e=>⟨i x e,afD (jV i x e) j⟩
def uW{V:Nat}:∀{l p:L bq},(∀u∈l,u.pw.length=V)->(∀u∈p,u.pw.length=V)->AQ p->AQ (l.foldl jv p)/\∀u∈l.foldl jv p,u.pw.length=V
 |[],p,_,h,e=>⟨e,h⟩
 |t::l,p,hl,h,e=>by have f:=hl t I;refine uW (l:=l) (p:=jv p t) (λu hu=>hl u<|by simp[hu]) (λu hu=>?_) ?_;rw[jE]at hu;rcases yo hu with hu|hu;exact h u hu;rw[hu];exact f;rw[jE];exact D9 f h e
def DC:∀{l p:L bq}{u:bq},u∈l.foldl jv p->(∃t∈l,u.pw=t.pw)\/∃t∈p,u.pw=t.pw
 |[],p,u,h=>.inr ⟨u,h,W⟩
 |t::l,p,u,h=>by
  rcases DC (l:=l) (p:=jv p t) h with⟨v,f,e⟩|⟨v,f,e⟩
  grind
  rw[jE]at f;rcases yo f with f|f
  grind
  simp_all
def QH{D M w n m:Nat}{t:bq}(e:Wn D M m w t.c):∀{p:L bq},(∀u∈p,Wn D M n w u.c)->∀u∈po t p,Wn D M (n+m) w u.c
 |[],_,u,hu=>by simp only[po]at hu;split at hu;cases hu;simp at hu;subst hu;exact e.le E
 |v::r,h,u,hu=>by have f:∀u∈v::r,Wn D M (n+m) w u.c:=λu hu=>(h u hu).le E;simp[po]at hu;split at hu;rcases abm.1 hu with rfl|hu;simp_all;exact QH e (λu hu=>h u<|by simp[hu]) u hu;split at hu;split at hu;simp_all;rcases abm.1 hu with rfl|hu;exact(h v I).add e;simp_all;split at hu;exact f u hu;rcases abm.1 hu with rfl|hu;exact e.le E;exact f u hu
def Lx{D M w:Nat}:∀{l p:L bq}{n:Nat},(∀u∈l,Wn D M 1 w u.c)->(∀u∈p,Wn D M n w u.c)->∀u∈l.foldl jv p,Wn D M (n+l.length) w u.c
 |[],p,n,_,e=>e
 |t::l,p,n,hl,e=>by
  intro u hu;have:=Lx (l:=l) (p:=jv p t) (n:=n+1) (λu hu=>hl u<|by simp[hu]) (λu hu=>by rw[jE]at hu;exact QH (hl t I) e u hu) u hu
  grind
def PW(D M V:Nat)(d:Int)(w:Nat)(l:L bq):Prop:=∀u∈l,PwD V d u.pw/\Wn D M 1 w u.c
def PW.mono{e:Int}(i:rH D M k)(h:PW D M V d w l)(g:d<=e)(f:w<=v):PW D M V e v l:=λu hu=>⟨⟨(h u hu).1.1,(h u hu).1.2.1,afD (h u hu).1.2.2 g⟩,(h u hu).2.up i f⟩
def PW.append{m:L bq}(h:PW D M V d w l)(g:PW D M V d w m):PW D M V d w (l++m):=λu hu=>(ac6.1 hu).elim (h u)<|g u
def PW.nil:PW D M V d w []:=λ_ h=>by cases h
structure cB(D M V:Nat)(d:Int)(w:Nat)(p:List bq):Prop where
 TP:AQ p
 pw:PW D M V d w p
def cB.mono{e:Int}(i:rH D M k)(h:cB D M V d w l)(g:d<=e)(f:w<=v):cB D M V e v l:=⟨h.TP,h.pw.mono i g f⟩
def cB.nil:cB D M V d w []:=⟨List.Pairwise.nil,PW.nil⟩
def Se(h:V<=9):(6+1)^V<=40353607:=acI (adi fV h) fV
def cB.len{p:L bq}(h:cB D M V d w p)(f:V<=9)(e:d<=6):p.length<=40353607:=acI (X6 (V:=V) (d:=6) h.TP λu hu=>⟨(h.pw u hu).1.1,(h.pw u hu).1.2.1,afD (h.pw u hu).1.2.2 e⟩) (Se f)
def PwD.ok{v:L Int}(h:PwD V d v)(i:V<=9)(g:d<=6):TL v:=by obtain⟨o,f,j⟩:=h;exact⟨E,λx e=>⟨f x e,by have:=jV f x e;omega⟩⟩
def PW.tok(i:rH D M k)(h:PW D M V d w l)(g:V<=9)(f:d<=6)(o:k*w+2<=K):∀u∈l,Cv V K u:=by intro u hu;obtain⟨e,j⟩:=h u hu;refine⟨e.1,e.ok g f,(j.sz i).mono ?_⟩;rw[gX];simp;omega
def PW.norm(g:rH D M k)(h:PW D M V d w l)(hl:l.length<=10^18):cB D M V d (w+1) (fj l):=by refine⟨(uW (V:=V) (λu hu=>(h u hu).1.1) I List.Pairwise.nil).1,λu hu=>⟨?_,?_⟩⟩;rcases DC hu with⟨t,f,e⟩|⟨t,f,e⟩;rw[e];exact(h t f).1;cases f;have:=Lx (n:=0) (λu hu=>(h u hu).2) I u hu;exact this.one g E
def tp(V K:Nat)(l:L bq):Prop:=(∀u∈l,Cv V K u)/\∀m,m <+:l->(∀u∈fj m,Cv V K u)/\(fj m).length<2^30
def PW.nok(g:rH D M k)(h:PW D M V d w l)(f:V<=9)(e:d<=6)(hl:l.length<=10^18)(i:k*(w+1)+2<=K):tp V K l:=by refine⟨h.tok g f e<|acI (afJ (aey k<|agt w) 2) i,λm hm=>?_⟩;have o:PW D M V d w m:=λu hu=>h u<|hm.subset hu;have j:=o.norm g (by grind);exact⟨j.pw.tok g f e i,by have:=j.len f e;omega⟩
def oR(c:Rat)(p:L bq):L bq:=p.map λt=>⟨c*t.c,t.pw⟩
def jr(c:Rat)(p:L bq):L bq:=fj<|oR c p
def PW.TQ(hc:Wn D M 1 v c)(h:PW D M V d w l):PW D M V d (v+w) (oR c l):=by intro u hu;obtain⟨t,e,rfl⟩:=abS.1 hu;exact⟨(h t e).1,hc.mul (h t e).2⟩
def jT(a b:L bq):L bq:=a.flatMap λt=>b.map λu=>⟨t.c*u.c,List.zipWith (·+ ·) t.pw u.pw⟩
def kv(a b:L bq):L bq:=fj<|jT a b
def PU:∀{a b:L Int},a.length=b.length->(List.zipWith (·+ ·) a b).sum=a.sum+b.sum
 |[],[],_=>I
 |[],_::_,h=>by cases h
 |_::_,[],h=>by cases h
 |x::a,y::b,h=>by have:=PU (a:=a) (b:=b) (by simpa using h);simp;omega
def CV:∀{a b:L Int},(∀x∈a,0<=x)->(∀x∈b,0<=x)->∀x∈List.zipWith (·+ ·) a b,0<=x
 |[],_,_,_,_,e=>by cases e
 |_::_,[],_,_,_,e=>by cases e
 |y::a,z::b,g,f,x,e=>by have i:=g y I;have h:=f z I;rcases abm.1 e with rfl|e;show 0<=y+z;omega;exact CV (λx e=>g x<|by simp[e]) (λx e=>f x<|by simp[e]) x e
def PwD.zip{e:Int}(g:PwD V d a)(f:PwD V e b):PwD V (d+e) (List.zipWith (·+ ·) a b):=by refine⟨by rw[List.length_zipWith,g.1,f.1];omega,CV g.2.1 f.2.1,?_⟩;rw[PU<|g.1.trans f.1.symm];have:=g.2.2;have:=f.2.2;omega
def PW.mul{e:Int}{a b:L bq}(h:PW D M V d w a)(g:PW D M V e v b):PW D M V (d+e) (w+v) (jT a b):=by intro u hu;obtain⟨t,f,hu⟩:=afG.1 hu;obtain⟨s,hs,rfl⟩:=abS.1 hu;exact⟨(h t f).1.zip (g s hs).1,by simpa using(h t f).2.mul (g s hs).2⟩
def Vn(a b:L bq):(jT a b).length=a.length*b.length:=pZ (λt=>I) a
def BQ(v:Nat)(t:bq):L bq:=if 0<t.pw.getD v 0 then[⟨t.c*((t.pw.getD v 0:Int):Rat),t.pw.set v<|t.pw.getD v 0-1⟩]else[]
def oq(p:L bq)(v:Nat):L bq:=p.flatMap<|BQ v
def sP(p:L bq)(v:Nat):L bq:=fj<|oq p v
def IK:∀{a:L Int}{v:Nat}{x:Int},v<a.length->(a.set v x).sum=a.sum-a.getD v 0+x
 |[],_,_,h=>by cases h
 |y::a,0,x,_=>by simp;omega
 |y::a,v+1,x,h=>by
  have:=IK (a:=a) (v:=v) (x:=x) (by simpa using h)
  grind
def Wn.int(n:Int):Wn D M n.natAbs 0 (n:Rat):=⟨n,I,I⟩
def PW.der{p:L bq}(g:rH D M k)(h:PW D M V d w p)(z:d<=6)(v:Nat)(s:v<V):PW D M V (d-1) (w+1) (oq p v):=by
 intro u hu;obtain⟨t,e,hu⟩:=afG.1 hu;obtain⟨⟨o,j,A⟩,i⟩:=h t e;unfold BQ at hu;split at hu;rename_i y;have hm:t.pw.getD v 0∈t.pw:=aX E;have f:=jV j _ hm;rw[af9]at hu;subst hu;refine⟨⟨by simpa using o,λx r=>?_,?_⟩,?_⟩
 grind
 rw[IK E];omega;have:=i.mul<|Wn.int (D:=D) (M:=M)<|t.pw.getD v 0;exact this.one g E;cases hu
def ET(p:L bq)(v:Nat):(oq p v).length<=p.length:=by
 unfold oq
 induction p with
 |nil=>simp
 |cons t p e=>
  have:(BQ v t).length<=1:=by unfold BQ;split<;>simp
  grind
def eK(c:Rat)(n:Nat):L bq:=if c=0 then[]else[⟨c,List.replicate (n+1) 0⟩]
def rJ(v n:Nat):L bq:=[⟨1,(List.replicate (n+1) 0).set v 1⟩]
def cB.const(h:Wn D M 1 w c):cB D M (n+1) 0 w (eK c n):=by unfold eK;split;exact cB.nil;refine⟨List.pairwise_singleton _ _,λu hu=>?_⟩;simp at hu;subst hu;exact⟨⟨I,λx e=>fP,I⟩,h⟩
def Wn.abD:Wn D M 1 0 1:=⟨1,I,I⟩
def cB.var(f:v<=n):cB D M (n+1) 1 0 (rJ v n):=by
 refine⟨List.pairwise_singleton _ _,λu hu=>?_⟩;simp[rJ]at hu;subst hu;refine⟨⟨I,λx e=>?_,?_⟩,Wn.abD⟩
 grind
 show(List.set _ _ _).sum<=1;rw[IK<|by simp;omega];simp[ah1];split<;>simp
end
section
variable{a b:List Int}{p:List bq}{K L V i v:Nat}
def si(l:List bq)(h:tp V K l)(hn:l.length<2^50)(j:K+K+1<2^34):ab 149 [cH false l] (cH false<|fj l):=by
 refine cp func149 W<|r0 W<|ba (λi:Nat=>[(0,cH false l),(3,cH false<|fj<|l.take i),(4,.i i)]) (λi=>i<=l.length) (λi=>l.length-i) 0 (aaQ _) ?_;intro i hi;refine cm W W ?_ ?_<;>intro e;have c:i<l.length:=E;have f:(i:Int).toNat=i:=E;have g:l.getD i default=l[i]:=az c;obtain⟨d,k⟩:=h.2 (l.take i)<|ahL _ _;refine eP W<|cl W (by rw[f,g];rfl) (Bo (fj<|l.take i) l[i] (V:=V) (K:=K) d (h.1 _<|aaZ c) E E) W ?_;rw[<-OE c];refine eP W<|aM (i+1) E;refine b7 W W<|aij (cH false) ?_
 grind
def mT(a b:List bq)(h:tp V K (a++b))(hn:a.length+b.length<2^40)(c:K+K+1<2^34):
 ab 65 [cH false a,cH false b] (cH false<|AM a b):=by
 refine cp func65 W<|r1 W (by simp[aj,len];refine⟨λx=>rfl,λx=>rfl,?_,λx=>rfl,λx=>rfl,?_⟩<;>omega) ?_;refine Gm W W U (by refine⟨⟨W,W,?_⟩,U⟩;rw[vW,oM λ_=>rfl,oM λ_=>rfl,dj,<-acB]) (si (a++b) h (by grind) c) W ?_
 refine cg W W
def RV{c:Rat}(h:i<p.length):oR c (p.take<|i+1)=oR c (p.take i)++[⟨c*p[i].c,p[i].pw⟩]:=by unfold oR;rw[ace h,acB];rfl
def KU(c:Rat)(p:List bq):(oR c p).length=p.length:=by unfold oR;simp
def nI(c:Rat)(p:List bq)(hc:Sz c L)(k:∀u∈p,Cv V K u)(h:tp V K (oR c p))(hn:p.length<2^40)(l:K+K+1<2^34)(n:L+K<2^34):
 ab 66 [.s<|qt c,cH false p] (cH false<|jr c p):=by
 refine cp func66 W<|r0 W<|ba (λi:Nat=>[(0,.s<|qt c),(1,cH false p),(5,cH true<|oR c<|p.take i),(6,.i i)]) (λi=>i<=p.length) (λi=>p.length-i) 0 (aaQ _) ?_;intro i hi;refine cm W W ?_ ?_<;>intro m;have d:i<p.length:=E;have g:(i:Int).toNat=i:=E;have j:p.getD i default=p[i]:=az d;have f:=k _<|aaZ d;have hl:(oR c<|p.take i).length=i:=by rw[KU,ade];omega
 refine eP W<|cd W (by rw[g,j];rfl) (dY c p[i].c hc f.2.2 E) W ?_;refine u6 W ?_ (by simp[aj,aag,g,len,hl,acx,abo,acC]<;>omega);refine aM (i+1) E ⟨G,G,⟨W,W,W,?_⟩,G,U⟩;rw[g,j,dj,RV d,acB];exact kS.append (kS.refl _) ⟨.inr W,W⟩;have e:oR c (p.take i)=oR c p:=by grind
 rw[e];refine ck W W (si (oR c p) h (by rw[KU];omega) l) W ?_;refine cg W W
def tQ(t u:bq):bq:=⟨t.c*u.c,List.zipWith (·+ ·) t.pw u.pw⟩
def Hp{a b:List bq}(h:i<a.length):jT (a.take<|i+1) b=jT (a.take i) b++b.map (tQ a[i]):=by unfold jT;rw[ace h,ahf];simp[tQ]
def Lz{a b:List bq}{k:Nat}(h:i<a.length):jT (a.take i) b++(b.take k).map (tQ a[i]) <+:jT a b:=by
 have c:jT (a.take<|i+1) b <+:jT a b:=by
  conv=>rhs;rw[<-af3 (i+1) a]
  unfold jT;grind
 refine List.IsPrefix.trans ?_ c;rw[Hp h];exact(List.prefix_append_right_inj _).2<|(ahL k b).map _
def OF(l:List bq)(t:bq):fj (l++[t])=jv (fj l) t:=by unfold fj;simp
def qE(a b:List Int)(v:Nat):List Int:=List.zipWith (·+ ·) (a.take v) (b.take v)++a.drop v
def GB(h:a.length=b.length)(v:Nat):(qE a b v).length=a.length:=by unfold qE;simp;omega
def rI(h:a.length=b.length)(c:v<a.length):(qE a b v).getD v 0=a.getD v 0:=by
 have hl:(List.zipWith (·+ ·) (a.take v)<|b.take v).length=v:=by simp;omega
 unfold qE
 grind
def GA(h:a.length=b.length)(c:v<a.length):(qE a b v).set v (a.getD v 0+b.getD v 0)=qE a b (v+1):=by
 have hl:(List.zipWith (·+ ·) (a.take v)<|b.take v).length=v:=by simp;omega
 unfold qE;rw[List.set_append_right _ _ E,hl,agZ,acJ c,ace c,ace (h▸c),
  List.zipWith_append (by simp;omega),az c,az (h▸c),acT]
 rfl
def GC(h:a.length=b.length):qE a b a.length=List.zipWith (·+ ·) a b:=by unfold qE;grind
def qu(a b:List bq){M:Nat}(z:∀u∈a,Cv V L u)(x:∀u∈b,Cv V M u)(h:tp V K (jT a b))(w:a.length<2^40)(t:b.length<2^40)(R:V<2^40)(S:K+K+1<2^34)(A:L+M<2^34):
 ab 69 [cH false a,cH false b] (cH false<|kv a b):=by
 refine cp func69 W<|r0 W<|ba (λi:Nat=>[(0,cH false a),(1,cH false b),(5,cH false<|fj<|jT (a.take i) b),(6,.i i)]) (λi=>i<=a.length) (λi=>a.length-i) 0 (aaQ _) ?_;intro i hi;refine cm W W ?_ ?_<;>intro H;have f:i<a.length:=E;have r:(i:Int).toNat=i:=E;have s:a.getD i default=a[i]:=az f;have j:=z _<|aaZ f;refine b9 W (λk:Nat=>[(0,cH false a),(1,cH false b),(5,cH false<|fj<|jT (a.take i) b++(b.take k).map (tQ a[i])),(6,.i i),(7,.i k)]) (λk=>k<=b.length) (λk=>b.length-k) 0 (aaQ _) ⟨G,G,⟨W,aij (cH false) I⟩,G,G,U⟩ ?_;intro k P;refine cm W W ?_ ?_<;>intro F;have g:k<b.length:=E;have n:(k:Int).toNat=k:=E;have m:b.getD k default=b[k]:=az g;have l:=x _<|aaZ g;have c:a[i].pw.length=b[k].pw.length:=j.1.trans l.1.symm;have y:=j.2.1.1;have q:fj (jT (a.take i) b++(b.take<|k+1).map (tQ a[i]))=jv (fj<|jT (a.take i) b++(b.take k).map (tQ a[i])) (tQ a[i] b[k]):=by rw[ace g,acB,<-acT];exact OF _ _
 obtain⟨D,T⟩:=h.2 _<|Lz (b:=b) (k:=k) f;have C:Cv V K (tQ a[i] b[k]):=h.1 _ (by refine afG.2 ⟨a[i],aaZ f,?_⟩;exact abS.2 ⟨b[k],aaZ g,W⟩)
 refine r1 W (by simp only[aj,aag,r,s,len,acC];omega) ?_;rw[r,s];refine loop (λv:Nat=>[(0,cH false a),(1,cH false b),(5,cH false<|fj<|jT (a.take i) b++(b.take k).map (tQ a[i])),(6,.i i),(7,.i k),(8,fR<|qE a[i].pw b[k].pw v),(9,.i v)])
  (λv=>v<=a[i].pw.length) (λv=>a[i].pw.length-v) 0 (aaQ _) ⟨G,G,G,G,G,⟨W,aij (fR)<|by simp[qE,dj]⟩,G,U⟩ ?_
 intro v O;have o:=GB c v;refine cm W W ?_ ?_<;>intro B;have e:v<a[i].pw.length:=E;have ev:(v:Int).toNat=v:=E;have N:=j.2.1.2 _<|aX (d:=0) e;have J:=l.2.1.2 _<|aX (d:=0) (c▸e);refine u6 W ?_ (by simp only[aj,aag,n,m,ev,rI c e,o];omega);refine aM (v+1) E ⟨G,G,G,G,G,⟨W,aij (fR) ?_⟩,G,U⟩;rw[n,m,ev,rI c e,GA c e];have ev:v=a[i].pw.length:=E;subst ev;rw[GC c];refine eP W<|cd W (by rw[r,n,s,m];rfl) (dY a[i].c b[k].c j.2.2 l.2.2 A) W ?_;refine eP W<|bX W (Bo (fj<|jT (a.take i) b++(b.take k).map (tQ a[i])) (tQ a[i] b[k]) (V:=V) (K:=K) D C E E) W ?_;rw[<-q];refine u6 W<|aM (k+1) E;have n:k=b.length:=E;refine eP W<|aM (i+1) E ⟨G,G,⟨W,aij (cH false) ?_⟩,G,U⟩;rw[Hp f,n,acS];refine b7 W W<|aij (cH false) ?_;rw[acD E];rfl
def HW(h:i<p.length):oq (p.take<|i+1) v=oq (p.take i) v++BQ v p[i]:=by unfold oq;rw[ace h,ahf];simp
def rq(p:List bq)(v:Nat)(r:∀u∈p,Cv V L u)(h:tp V K (oq p v))(o:v<V)(hn:p.length<2^40)(t:K+K+1<2^34)(s:L+3<2^34):
 ab 152 [cH false p,.i v] (cH false<|sP p v):=by
 refine cp func152 W<|r0 W<|ba (λi:Nat=>[(0,cH false p),(1,.i v),(5,cH true<|oq (p.take i) v),(6,.i i)]) (λi=>i<=p.length) (λi=>p.length-i) 0 (aaQ _) ?_;intro i hi;refine cm W W ?_ ?_<;>intro w;have g:i<p.length:=E;have k:(i:Int).toNat=i:=E;have l:p.getD i default=p[i]:=az g;have f:=r _<|aaZ g;have hl:(oq (p.take i) v).length<=i:=acI (ET _ _) fP;have c:(v:Int).toNat=v:=E;have m:v<p[i].pw.length:=by rw[f.1];exact o
 have x:=f.2.1.2 _<|aX (d:=0) m;have q:=f.2.1.1;refine r1 W (by simp only[aj,aag,k,l,c];omega) ?_;refine bY W ?_ ?_<;>intro j;rw[k,l,c]at j;have j:0<p[i].pw.getD v 0:=j;have n:Sz ((p[i].pw.getD v 0:Int):Rat) 3:=by refine⟨?_,?_⟩;rw[Rat.num_intCast];exact fX E;rw[Rat.den_intCast,gX];decide
 refine r1 W (by simp only[aj,aag,k,l,c,len];omega) ?_;refine cd W (by rw[k,l,c];rfl) (vL (p[i].pw.getD v 0) E) W ?_;refine eP W<|cd W (by rw[k,l];rfl) (dY p[i].c ((p[i].pw.getD v 0:Int):Rat) f.2.2 n s) W ?_;refine u6 W ?_ (by simp[aj,aag,k,len,acx,abo,acC]<;>omega);refine aM (i+1) E ⟨G,G,⟨W,W,W,?_⟩,G,U⟩;rw[k,l,c,dj,HW g,acB,BQ,aas j];exact kS.append (kS.refl _) ⟨.inr W,W⟩;rw[k,l,c]at j;have j:¬0<p[i].pw.getD v 0:=j;refine eP W<|aM (i+1) E ⟨G,G,⟨W,aij (cH true) ?_⟩,G,U⟩;rw[HW g,BQ,aaq j,afd];have e:oq (p.take i) v=oq p v:=by grind
 rw[e];refine ck W W (si (oq p v) h (by have:=ET p v;omega) t) W ?_;refine cg W W
def uF(c:Rat)(n:Nat)(hn:n<2^40):ab 68 [.s<|qt c,.i n] (cH false<|eK c n):=by
 refine cp func68 W<|ck W W (oc c) W<|nS W W W ?_ ?_<;>intro h;have h:c=0:=by simpa using h
 refine b7 W W ?_;unfold eK;rw[aas h];exact W;have h:¬c=0:=by simpa using h
 refine eP W ?_;unfold eK;rw[aaq h];refine RY W<|lO
def tz(v n:Nat)(c:v<=n)(hn:n<2^40):ab 62 [.i v,.i n] (cH false<|rJ v n):=by
 refine cp func62 W<|r1 W (by simp[aj];omega) ?_;have e:(rJ v n).map JP=[SV.agg [.s [49],fO<|(List.replicate (n+1) 0).set v 1]]:=by simp[rJ,JP,IW]
 refine RY W<|⟨W,W,e.symm⟩
def eSp(a b:Rat):SV:=fA ⟨qt a,qt b⟩
def Bn(c:Rat):ab 64 [.s<|qt c] (eSp c c):=by refine cp func64 W<|cg W W
def js(p:List bq):Int:=if(∃u∈p,12<u.pw.sum)then 4 else if 64<p.length then 5 else if∃u∈p,ik u.c≠0 then 4 else 0
def Cf(p:List bq)(l:∀u∈p,Cv V K u)(hn:p.length<2^50)(n:K<2^36):ab 71 [cH false p] (.i<|js p):=by
 refine cp func71 W<|cQ 2 [(0,cH false p)] (¬∃u∈p,12<u.pw.sum) ?_ λm=>?_;refine r0 W<|ba (λi:Nat=>[(0,cH false p),(3,.i i)]) (λi=>i<=p.length/\¬∃u∈p.take i,12<u.pw.sum) (λi=>p.length-i) 0 ⟨aaQ _,I⟩ ?_;rintro i⟨hi,e⟩;refine cm W W ?_ ?_<;>intro g;have c:i<p.length:=E;have j:(i:Int).toNat=i:=E;have k:p.getD i default=p[i]:=az c;have d:=l _<|aaZ c;refine eP W<|cl W (by rw[j,k];rfl) (l8 p[i].pw d.2.1) W ?_;refine cm W W ?_ ?_<;>intro f;refine b7 W W<|cn ?_;unfold js;rw[aas ⟨_,aaZ c,f⟩];refine eP W<|aM (i+1) ⟨E,?_⟩;rw[ace c]
 grind
 refine r0 W ?_;rw[acD E]at e;exact bm e;have h:js p=if 64<p.length then 5 else if∃u∈p,ik u.c≠0 then 4 else 0:=by unfold js;rw[aaq m]
 refine cm W W ?_ ?_<;>intro g;refine b7 W W<|aij SV.i E;rw[aaq E]at h;refine r0 W<|ba (λi:Nat=>[(0,cH false p),(4,.i i)]) (λi=>i<=p.length/\¬∃u∈p.take i,ik u.c≠0) (λi=>p.length-i) 0 ⟨aaQ _,I⟩ ?_;rintro i⟨hi,e⟩;refine cm W W ?_ ?_<;>intro g;have c:i<p.length:=E;have j:(i:Int).toNat=i:=E;have k:p.getD i default=p[i]:=az c;have d:=l _<|aaZ c;refine eP W<|cl W (by rw[j,k];rfl) (BC p[i].c d.2.2 n) W ?_;refine cm W W ?_ ?_<;>intro f;refine b7 W W<|cn ?_;rw[h,aas ⟨_,aaZ c,f⟩];refine eP W<|aM (i+1) ⟨E,?_⟩;rw[ace c]
 grind
 refine r0 W ?_;rw[acD E]at e;exact aH W<|aij SV.i<|by rw[h,aaq e]
def jw(bo:List (List bq))(p:List bq):Nat->List bq
 |0=>sP p 0
 |i+1=>AM (jw bo p i)<|kv (sP p<|i+1)<|bo.getD i []
def kn(bo:List (List bq))(p:List bq):List bq:=jw bo p bo.length
structure Z9(V K:Nat)(bo:List (List bq))(p:List bq):Prop where
 d0:tp V K (oq p 0)
 d:∀i,i<bo.length->tp V K (oq p<|i+1)
 m:∀i,i<bo.length->tp V K (jT (sP p<|i+1)<|bo.getD i [])
 a:∀i,i<bo.length->tp V K (jw bo p i++kv (sP p<|i+1) (bo.getD i []))
 r:∀i,i<bo.length->(∀u∈bo.getD i [],Cv V K u)/\(bo.getD i []).length<2^40
def tp.norm{l:List bq}(h:tp V K l):(∀u∈fj l,Cv V K u)/\(fj l).length<2^30:=h.2 l<|List.prefix_refl l
def j6(own:Bool)(l:List (List bq)):SV:=.bc own 1 default (cH false) l
end
structure Kk where
 sh:Int
 dU:cq
 deriving Inhabited
def pJ(f:Kk):SV:=.agg [.i f.sh,.s f.dU]
abbrev aie:=SV.bc false 2 default pJ
structure bN where
 kind:cq
 ai:List Kk
 out:Int
 k:cq
 cW:List cq
 deriving Inhabited
def dZ(u:bN):SV:=.agg [.s u.kind,aie u.ai,.i u.out,.s u.k,.strs false u.cW]
abbrev aic:=SV.bc false 5 default dZ
structure jZ where
 n:Int
 aa:List bN
 ints:List Int
 deriving Inhabited
def bI(p:jZ):SV:=.agg [.i p.n,aic p.aa,fO p.ints]
def bF:cq:=[105,110,116,101,103,114,97,116,111,114]
def kg:cq:=[97,100,100,101,114]
def eJ:cq:=[116,97,98,108,101]
structure UOk(u:bN):Prop where
 ai:u.ai.length<2^40
 dU:∀f∈u.ai,dI f.dU
 k:dI u.k
 cW:u.cW.length<2^40
 N0:∀s∈u.cW,dI s
structure AS(p:jZ):Prop where
 aa:p.aa.length<2^40
 unit:∀u∈p.aa,UOk u
 ints:p.ints.length<2^40
def lW(p:jZ)(h:AS p):ab 12 [bI p] (.i<|p.aa.countP λu=>decide (u.kind=bF)):=by
 have hl:=h.aa;refine cp func12 W<|r0 W<|ba (λi:Nat=>[(1,.box true<|bI p),(3,.i<|(p.aa.take i).countP λu=>decide (u.kind=bF)),(4,.i i)]) (λi=>i<=p.aa.length) (λi=>p.aa.length-i) 0 (aaQ _) ?_;intro i hi;have hc:((p.aa.take i).countP λu=>decide (u.kind=bF))<=i:=acI agk (by simp;omega);refine cm W W ?_ ?_<;>intro e;have b:i<p.aa.length:=E;have c:(i:Int).toNat=i:=E;have d:p.aa.getD i default=p.aa[i]:=az b;have hs:((p.aa.take<|i+1).countP λu=>decide (u.kind=bF))=((p.aa.take i).countP λu=>decide (u.kind=bF))+(if p.aa[i].kind=bF then 1 else 0):=by rw[ace b,ag0,ahM];simp
 refine r1 W (by simp[aj,aag,c];omega) ?_;refine bY W ?_ ?_<;>intro a;rw[c,d]at a;have a:p.aa[i].kind=bF:=a;rw[aas a]at hs;refine r1 W (by simp[aj,aag];omega) ?_;exact again (i+1) E E ⟨G,⟨W,aij SV.i<|by rw[hs];omega⟩,G,U⟩;rw[c,d]at a;have a:¬p.aa[i].kind=bF:=a;rw[aaq a]at hs;refine r1 W (by simp[aj,aag];omega) ?_;exact again (i+1) E E ⟨G,⟨W,aij SV.i<|by rw[hs];omega⟩,G,U⟩;refine b7 W W<|cn ?_
 grind
def gV(n:Int)(f:Kk):Int:=if f.sh<0\/n<=f.sh then 10 else if aQ f.dU≠0 then aQ f.dU else if bQ f.dU=0 then 6 else 0
def j8(u:bN)(lo hi:Int):Prop:=(u.ai.length:Int)<lo\/hi<u.ai.length\/(u.kind=eJ/\(u.cW.length<1\/13<u.cW.length))\/(u.kind≠eJ/\0<u.cW.length)
instance(u:bN)(lo hi:Int):Decidable (j8 u lo hi):=by unfold j8;infer_instance
def Cd(u:bN):Int:=if u.kind=bF then 2 else 1
def vJ(u:bN):Int:=if u.kind=bF then 2 else if u.kind=kg then 8 else 1
def gL(n:Int)(u:bN):Int:=
 if u.kind≠bF/\u.kind≠kg/\u.kind≠eJ then 13
 else if j8 u (Cd u) (vJ u)then 2
 else if aG (gV n) u.ai≠0 then aG (gV n) u.ai
 else if u.out<1\/n<=u.out then 10
 else if aQ u.k≠0 then aQ u.k else aG aQ u.cW
def Cs(p:jZ)(u:bN)(hu:UOk u):ab 57 [bI p,dZ u] (.i<|gL p.n u):=by
 have x:=hu.ai;have w:=hu.cW;refine cp func57 W<|cQ 3 [(2,.box true<|bI p),(3,.box true<|dZ u),(5,.i<|Cd u),(6,.i<|vJ u)] (u.kind=bF\/u.kind=kg\/u.kind=eJ) ?_ λB=>?_;refine cm W W ?_ ?_<;>intro h;have h:u.kind=bF:=h;refine b8 W (.inl h) ⟨G,G,⟨W,aij SV.i<|by unfold Cd;rw[aas h]⟩,⟨W,aij SV.i<|by unfold vJ;rw[aas h]⟩,U⟩;have h:¬u.kind=bF:=h;refine cm W W ?_ ?_<;>intro j;have j:u.kind=kg:=j;refine b8 W (.inr<|.inl j) ⟨G,G,⟨W,aij SV.i<|by unfold Cd;rw[aaq h]⟩,⟨W,aij SV.i<|by unfold vJ;simp_all⟩,U⟩;have j:¬u.kind=kg:=j;refine cm W W ?_ ?_<;>intro a;have a:u.kind=eJ:=a;refine b8 W (.inr<|.inr a) ⟨G,G,⟨W,aij SV.i<|by unfold Cd;rw[aaq h]⟩,⟨W,aij SV.i<|by unfold vJ;simp_all⟩,U⟩;have a:¬u.kind=eJ:=a;refine b7 W W<|aij SV.i<|by unfold gL;simp_all
 have c:gL p.n u=if j8 u (Cd u) (vJ u)then 2
  else if aG (gV p.n) u.ai≠0 then aG (gV p.n) u.ai
  else if u.out<1\/p.n<=u.out then 10
  else if aQ u.k≠0 then aQ u.k else aG aQ u.cW:=by
  unfold gL;grind
 generalize Cd u=lo at*;generalize vJ u=hi at*;refine cQ 2 [(2,.box true<|bI p),(3,.box true<|dZ u)] (¬j8 u lo hi) ?_ λv=>?_;have k:j8 u lo hi->(2:Int)=gL p.n u:=fP;refine b6 W 28 W ?_ ?_<;>intro h;refine b7 W W<|aij SV.i<|k<|.inl E;refine b6 W 35 W ?_ ?_<;>intro j;refine b7 W W<|aij SV.i<|k<|.inr<|.inl E;refine b6 W 39 W ?_ ?_<;>intro a;have a:u.kind=eJ:=a;refine b6 W 42 W ?_ ?_<;>intro b;refine b7 W W<|aij SV.i<|k<|.inr<|.inr<|.inl ⟨a,E⟩;refine b6 W 48 W ?_ ?_<;>intro l;refine b7 W W<|aij SV.i<|k<|.inr<|.inr<|.inl ⟨a,E⟩;refine b6 W 52 W (λd=>aaF a d) λd=>?_;refine r0 W<|bm ?_;rintro(g|g|g|g);omega;omega;have:=g.2;omega;exact g.1 a;have a:¬u.kind=eJ:=a;refine b6 W 52 W (λd=>?_) λd=>aaF a d;refine cm W W ?_ ?_<;>intro y;refine b7 W W<|aij SV.i<|k<|.inr<|.inr<|.inr ⟨a,E⟩;refine r0 W<|bm ?_;rintro(g|g|g|g);omega;omega;exact a g.1;have:=g.2;omega;rw[aaq v]at c;refine r0 W<|ba (λi:Nat=>[(2,.box true<|bI p),(3,.box true<|dZ u),(8,.i i)]) (λi=>i<=u.ai.length/\aG (gV p.n) u.ai=aG (gV p.n) (u.ai.drop i)) (λi=>u.ai.length-i) 0 ⟨aaQ _,W⟩ ?_;rintro i⟨hi,s⟩;refine cm W W ?_ ?_<;>intro z;have m:i<u.ai.length:=E;have t:(i:Int).toNat=i:=E;have A:u.ai.getD i default=u.ai[i]:=az m;rw[cP _ m]at s;have o:=hu.dU _<|aaZ m;refine r1 W (by simp only[aj,aag,t];omega) ?_;rw[t,A];generalize u.ai[i]=f at*;have k:gV p.n f≠0->gV p.n f=gL p.n u:=by omega
 refine aF 72 W ?_ ?_<;>intro j;have e:gV p.n f=10:=by unfold gV;rw[aas<|.inl j]
 refine b7 W W<|aij SV.i E;refine cm W W ?_ ?_<;>intro a;have e:gV p.n f=10:=by unfold gV;rw[aas<|.inr a]
 refine b7 W W<|aij SV.i E;have q:gV p.n f=if aQ f.dU≠0 then aQ f.dU else if bQ f.dU=0 then 6 else 0:=by unfold gV;omega
 refine ck W W (check_sound f.dU o) W<|b6 W 84 W ?_ ?_<;>intro b;have b:aQ f.dU=0:=b;rw[aaq<|by rw[b];simp]at q;refine r0 W ?_;have r:=oc<|bQ f.dU;rw[fW b]at r;refine bW W r W<|r0 W<|nS W W W ?_ ?_<;>intro l;have l:bQ f.dU=0:=by simpa using l
 rw[aas l]at q;refine cm W W (λ_=>?_) λd=>aaF fV d;refine b7 W W<|aij SV.i E;have l:¬bQ f.dU=0:=by simpa using l
 rw[aaq l]at q;rw[aaq<|by rw[q];simp]at s;refine cm W W (λd=>aaF b d) λd=>?_;refine r1 W (by simp only[aj,aag];omega) ?_;exact aM (i+1) ⟨E,s⟩;have b:¬aQ f.dU=0:=b;rw[aas b]at q;refine cm W W (λd=>?_) λd=>aaF b<|by simpa using d
 refine b7 W W<|aij SV.i E;have r:aG (gV p.n) u.ai=0:=by rw[s,aeB E];rfl
 rw[aaq<|by rw[r];simp]at c;refine b6 W 95 W ?_ ?_<;>intro j;refine b7 W W<|aij SV.i E;refine cm W W ?_ ?_<;>intro a;refine b7 W W<|aij SV.i E;rw[aaq E]at c;refine ck W W (check_sound u.k hu.k) W<|cm W W ?_ ?_<;>intro b;have b:aQ u.k=0:=b;rw[aaq<|by rw[b];simp]at c;refine ck W W (E6 u.cW hu.N0 E) W<|b7 W W<|aij SV.i c.symm;have b:¬aQ u.k=0:=b;rw[aas b]at c;refine b7 W W<|aij SV.i c.symm
def yq(xs:L Int)(n:Int)(hl:xs.length<2^60):ab 142 [fO xs,.i n] (.u<|decide (n∈xs)):=by
 refine cp func142 W<|r0 W<|ba (λi:Nat=>[(0,fO xs),(1,.i n),(5,.i i)]) (λi=>i<=xs.length/\(n∈xs↔n∈xs.drop i)) (λi=>xs.length-i) 0 ⟨aaQ _,Iff.rfl⟩ ?_;rintro i⟨hi,c⟩;refine cm W W ?_ ?_<;>intro f;have b:i<xs.length:=E;have d:(i:Int).toNat=i:=E;have g:xs.getD i 0=xs[i]:=az b;rw[acJ b,abm]at c;refine r1 W (by simp[aj,d];omega) ?_;rw[d,g];refine bY W ?_ ?_<;>intro a;have a:xs[i]=n:=a;refine b7 W W ?_;show true=_;simp_all;have a:¬xs[i]=n:=a;refine r1 W (by simp[aj];omega) ?_;exact aM (i+1) ⟨E,c.trans ⟨λh=>h.resolve_left λe=>a e.symm,.inr⟩⟩;refine b7 W W ?_;show false=_
 grind
def dm(u:bN):L Kk:=if u.kind=bF then u.ai.drop 1 else u.ai
def yc(u:bN)(hu:UOk u)(a:u.kind=bF->1<=u.ai.length):ab 76 [dZ u] (aie<|dm u):=by
 refine cp func76 W<|cm W W ?_ ?_<;>intro h;have h:u.kind=bF:=h;have:=a h;refine r1 W (by simp[aj];omega) ?_;have e:(u.ai.drop (1:Int).toNat).take (u.ai.length-(1:Int).toNat)=dm u:=by unfold dm;rw[aas h];exact acD I
 exact aH W<|aij (aie) e;have h:¬u.kind=bF:=h;refine b7 W W<|aij (aie)<|by unfold dm;rw[aaq h]
def cV(s:Int):Nat->L bN->Int
 |_,[]=> -1
 |k,u::r=>if u.out=s then k else cV s (k+1) r
def gE(us:L bN)(s:Int):Int:=cV s 0 us
def JR(p:jZ)(h:AS p)(s:Int):ab 143 [bI p,.i s] (.i<|gE p.aa s):=by have hl:=h.aa;refine cp func143 W<|r0 W<|ba (λi:Nat=>[(1,.i s),(2,.box true<|bI p),(5,.i i)]) (λi=>i<=p.aa.length/\gE p.aa s=cV s i (p.aa.drop i)) (λi=>p.aa.length-i) 0 ⟨aaQ _,W⟩ ?_;rintro i⟨hi,b⟩;refine cm W W ?_ ?_<;>intro e;have c:i<p.aa.length:=E;have d:(i:Int).toNat=i:=E;have f:p.aa.getD i default=p.aa[i]:=az c;rw[acJ c,cV]at b;refine r1 W (by simp[aj,d];omega) ?_;rw[d,f];refine bY W ?_ ?_<;>intro a;have a:p.aa[i].out=s:=a;rw[aas a]at b;refine b7 W W<|aij SV.i b.symm;have a:¬p.aa[i].out=s:=a;rw[aaq a]at b;refine r1 W (by simp[aj,aag];omega) ?_;exact aM (i+1) ⟨E,b⟩;refine b7 W W<|cn ?_;rw[b,aeB E];rfl
def yC{s:Int}:∀{us:L bN}{k:Nat},cV s k us<(k+us.length:Nat)
 |[],k=>by simp[cV];omega
 |u::r,k=>by have:=yC (s:=s) (us:=r) (k:=k+1);simp[cV];split<;>omega
def Au(us:L bN)(s:Int):gE us s<us.length:=by have:=yC (s:=s) (us:=us) (k:=0);unfold gE;omega
def lT(us:L bN)(out:L Int)(f:Kk):Bool:=decide (gE us f.sh<0\/gE us f.sh∈out)
def kE(us:L bN)(out:L Int)(j:Nat):Bool:=decide (¬(j:Int)∈out)&&(dm<|us.getD j default).all (lT us out)
def dw(us:L bN)(out:L Int)(j:Nat):Int:=if j<us.length then(if kE us out j=true then(j:Int)else dw us out (j+1))else -1
 termination_by us.length-j
def ku{us:L bN}{out:L Int}{j:Nat}(h:j<us.length):dw us out j=if kE us out j=true then(j:Int)else dw us out (j+1):=by rw[dw,aas h]
def nX{us:L bN}{out:L Int}{j:Nat}(h:us.length<=j):dw us out j= -1:=by rw[dw,aaq E]
def qq(us:L bN)(out:L Int)(j:Nat):dw us out j= -1\/∃i:Nat,dw us out j=i/\j<=i/\i<us.length/\kE us out i=true:=by
 induction hm:us.length-j generalizing j with
 |zero=>exact .inl (nX E)
 |succ m a=>
  rw[ku E]
  grind
def eW(us:L bN):Nat->L Int->L Int
 |0,out=>out
 |k+1,out=>if dw us out 0<0 then out else eW us k (out++[dw us out 0])
def aA(us:L bN):L Int:=eW us (us.length+1) []
def xX{us:L bN}{out:L Int}(hn:out.Nodup)(b:∀x∈out,0<=x/\x<us.length):out.length<=us.length:=by
 have:=qU (m:=(List.range us.length).map λ(x:Nat)=>(x:Int)) hn λx a=>by have:=b x a;exact abS.2 ⟨x.toNat,afH.2 E,E⟩
 simpa using this
def xW{us:L bN}{out:L Int}(hn:out.Nodup)(b:∀x∈out,0<=x/\x<us.length)(h:¬dw us out 0<0):(out++[dw us out 0]).Nodup/\∀x∈out++[dw us out 0],0<=x/\x<us.length:=by
 rcases qq us out 0 with e|⟨i,e,_,d,a⟩;rw[e]at h;simp_all;rw[e];have c:¬(i:Int)∈out:=by unfold kE at a;simp at a;exact a.1
 grind
def Fdd(us:L bN):Prop:=∀u∈us,u.kind=bF->1<=u.ai.length
def tV(p:jZ)(h:AS p)(A:Fdd p.aa):ab 58 [bI p] (fR<|aA p.aa):=by
 have hl:=h.aa;refine cp func58 W<|r0 W<|ba (λout:L Int=>[(1,.box true<|bI p),(3,fR out)]) (λout=>out.Nodup/\(∀x∈out,0<=x/\x<p.aa.length)/\aA p.aa=eW p.aa (p.aa.length+1-out.length) out) (λout=>p.aa.length+1-out.length) [] ⟨acP,I,W⟩ ?_;rintro out⟨hn,q,f⟩;have w:=xX hn q;refine r1 W (by simp only[aj,aag];omega) ?_;refine loop (λj:Nat=>[(1,.box true<|bI p),(3,fR out),(4,.i<|dw p.aa out j),(5,.i<|(j:Int)-1)]) (λj=>j<=p.aa.length) (λj=>j) p.aa.length (aaU _)
  ⟨G,G,⟨W,aij SV.i (nX<|aaU _).symm⟩,G,U⟩ ?_
 intro j J;refine cm W W ?_ ?_<;>intro C;obtain⟨i,rfl⟩:∃i,j=i+1:=⟨j-1,E⟩;have F:((i+1:Nat):Int)-1=i:=E;have t:(i:Int).toNat=i:=E;have hi:i<p.aa.length:=E;have u:p.aa.getD i default=p.aa[i]:=az hi;have hu:=h.unit _<|aaZ hi;have v:=ku (out:=out) hi;have y:(dm p.aa[i]).length<=p.aa[i].ai.length:=by unfold dm;split<;>simp
 have z:=hu.ai;rw[F];refine ck W W (yq out i E) W<|r1 W (by simp only[aj,aag,t];omega) ?_;refine cl W (by rw[t,u];rfl) (yc p.aa[i] hu<|A _<|aaZ hi) W ?_;refine r0 W<|lp (λ(k:Nat)(r:Bool)=>[(1,.box true<|bI p),(3,fR out),(4,.i<|dw p.aa out<|i+1),(5,.i i),(6,.u r),(7,aie<|dm p.aa[i]),(8,.i k)])
  (λk r=>k<=(dm p.aa[i]).length/\kE p.aa out i=(r&&((dm p.aa[i]).drop k).all (lT p.aa out))) (λk _=>(dm p.aa[i]).length-k) 0 (!decide ((i:Int)∈out)) ⟨aaQ _,by unfold kE;rw[u];simp⟩
  ⟨G,G,G,G,G,G,G,U⟩ ?_
 rintro k r⟨H,c⟩;have stop:k<(dm p.aa[i]).length/\r=true\/kE p.aa out i=r:=by grind
 have fin:∀b:Bool,kE p.aa out i=b->dw p.aa out i=if b=true then(i:Int)else dw p.aa out (i+1):=by simp_all
 refine b6 W 32 W ?_ ?_<;>intro d;refine r0 W<|nS W W W ?_ ?_<;>intro a;have a:r=true:=a;subst a;have e:k<(dm p.aa[i]).length:=E;have s:(k:Int).toNat=k:=E;have o:(dm p.aa[i]).getD k default=(dm p.aa[i])[k]:=az e;rw[acJ e,ac4,aeD]at c;refine r1 W (by simp only[aj,aag,s];omega) ?_;refine cd W (by rw[s,o];rfl) (JR p h (dm p.aa[i])[k].sh) W ?_;refine k0 W aP<|aF 46 W ?_ ?_<;>intro B;refine r1 W (by simp only[aj,aag];omega) ?_;have hm:lT p.aa out (dm p.aa[i])[k]=true:=by unfold lT;simp_all
 rw[hm]at c;exact aM (k+1,true) ⟨by dsimp only;omega,c⟩;refine ck W W (yq out (gE p.aa (dm p.aa[i])[k].sh) E) W<|r1 W (by simp only[aj,aag];omega) ?_;have hm:lT p.aa out (dm p.aa[i])[k]=decide (gE p.aa (dm p.aa[i])[k].sh∈out):=by unfold lT;grind
 rw[hm]at c;exact aM (k+1,decide (gE p.aa (dm p.aa[i])[k].sh∈out)) ⟨by dsimp only;omega,c⟩;have a:r=false:=a;subst a;have l:=fin false (by simpa using c);refine r0 W<|nS W W W (λg=>aaF g fV) λ_=>?_;refine r1 W (by simp only[aj,aag];omega) ?_;exact again i E E ⟨G,G,⟨W,aij SV.i<|by rw[l];simp⟩,G,U⟩;have l:=fin r<|stop.resolve_left λg=>E;refine r0 W<|nS W W W ?_ ?_<;>intro a;have a:r=true:=a;subst a;refine r1 W (by simp only[aj,aag];omega) ?_;exact again i E E ⟨G,G,⟨W,aij SV.i<|by rw[l];simp⟩,G,U⟩;have a:r=false:=a;subst a;refine r1 W (by simp only[aj,aag];omega) ?_;exact again i E E ⟨G,G,⟨W,aij SV.i<|by rw[l];simp⟩,G,U⟩;have n:j=0:=E;subst n;have m:p.aa.length+1-out.length=(p.aa.length-out.length)+1:=E;rw[m,eW]at f;refine cm W W ?_ ?_<;>intro d;rw[aas d]at f;refine b7 W W<|aij (fR) f.symm;rw[aaq d]at f;obtain⟨g1,g2⟩:=xW hn q d;have D:=xX g1 g2;simp only[acU,abo,acC]at D;refine r1 W (by simp only[aj,aag,len,abo,acC]<;>omega) ?_;refine again (out++[dw p.aa out 0]) fP ⟨g1,g2,?_⟩ ⟨G,G,U⟩;simp_all
def nU(n:Nat)(us:L bN)(i:Nat):L cq:=(us.take i).foldl (λ(o:L cq)u=>o.set u.out.toNat u.k)<|List.replicate n<|qt 0
def N6(n:Nat)(us:L bN):L cq:=nU n us us.length
def A6(n:Nat)(us:L bN):∀i,i<=us.length->(nU n us i).length=n
 |0,_=>by simp[nU]
 |i+1,h=>by have:=A6 n us i E;unfold nU at*;rw[ace E,afv];simpa using this
def IC{n:Nat}{us:L bN}{i:Nat}(h:i<us.length):nU n us (i+1)=(nU n us i).set us[i].out.toNat us[i].k:=by unfold nU;rw[ace h,afv];rfl
def aem(n:Nat)(us:L bN):Prop:=∀u∈us,0<=u.out/\u.out<n
def xk(p:jZ)(h:AS p)(n:Nat)(hn:p.n=n)(c:n<2^40)(f:aem n p.aa):ab 59 [bI p] (.strs true<|N6 n p.aa):=by have hl:=h.aa;refine cp func59 W<|r0 W<|cl W (by rw[hn];rfl) (Kq n c) W ?_;refine r0 W<|ba (λi:Nat=>[(1,.box true<|bI p),(3,.strs true<|nU n p.aa i),(4,.i i)]) (λi=>i<=p.aa.length) (λi=>p.aa.length-i) 0 (aaQ _) ?_;intro i hi;refine cm W W ?_ ?_<;>intro g;have a:i<p.aa.length:=E;have d:(i:Int).toNat=i:=E;have e:p.aa.getD i default=p.aa[i]:=az a;have hu:=f _<|aaZ a;have b:=A6 n p.aa i hi;refine k1 W aP (by simp only[aj,aag,d,e,b];omega) ?_;refine again (i+1) E E ⟨G,⟨W,aij (SV.strs true) ?_⟩,G,U⟩;rw[IC a,d,e];refine b7 W W<|aij (SV.strs true) ?_;have:i=p.aa.length:=E;subst this;rfl
def yp(x:Rat)(cs:L Rat):Rat:=cs.foldr (λa s=>s*x+a) 0
def Md{x:Rat}{K L:Nat}(a:Sz x L):∀{cs:List Rat},(∀c∈cs,Sz c K)->Sz (yp x cs) (cs.length*(L+K+1)+1)
 |[],_=>by have:Sz (0:Rat) 1:=⟨by simp[c6],by simp[gX]⟩;simpa[yp]using this
 |c::cs,h=>by have d:=Md a (cs:=cs) λc hc=>h c (by simp[hc]);have b:=(d.mul a).add<|h c I;refine b.mono ?_;rw[abo,ahk];omega
def Jv(cs:List Rat)(x:Rat){K L:Nat}(a:Sz x L)(hc:∀c∈cs,Sz c K)(f:(cs.length+1)*(L+K+1)+1<2^33)(hl:cs.length<2^40):
 ab 60 [.strs false<|cs.map qt,.s<|qt x] (.s<|qt<|yp x cs):=by
 refine cp func60 W<|r1 W (by simp[aj,aag,acx];omega) ?_;refine loop (λj:Nat=>[(0,.strs false<|cs.map qt),(1,.s<|qt x),(5,.s<|qt<|yp x<|cs.drop j),(6,.i<|(j:Int)-1)]) (λj=>j<=cs.length) (λj=>j) cs.length (aaU _)
  ⟨G,G,⟨W,aij SV.s<|by rw[aeM];exact rX.symm⟩,⟨W,aij SV.i<|by rw[acx]⟩,U⟩ ?_
 intro j l;refine cm W W ?_ ?_<;>intro g;obtain⟨i,rfl⟩:∃i,j=i+1:=⟨j-1,E⟩;have k:((i+1:Nat):Int)-1=i:=E;have d:(i:Int).toNat=i:=E;have hi:i<cs.length:=E;have h:(cs.map qt).getD i []=qt cs[i]:=fP;have e:=Md a (cs:=cs.drop<|i+1) λc b=>hc c<|agv b;have m:(cs.drop<|i+1).length*(L+K+1)<=cs.length*(L+K+1):=acM _ I;rw[ahk]at f;rw[k];refine r1 W (by simp[aj,aag,d,acx]<;>omega) ?_;refine bX W (dY (yp x<|cs.drop<|i+1) x e a E) W<|r1 W (by simp[aj,aag,d,acx];omega) ?_;refine cd W (by rw[d,h];rfl) (rC (yp x (cs.drop<|i+1)*x) cs[i] (e.mul a) (hc _<|aaZ hi) E) W ?_;refine k1 W aP (by simp[aj,aag];omega) ?_;refine again i E E ⟨G,G,⟨W,aij SV.s ?_⟩,G,U⟩;rw[acJ hi];rfl;have:j=0:=E;subst this;refine cg W W
end Go.Ai
section
namespace Go.Ai
open Go.Proofs Go.RowKit Go.Proofs.Tryz
section
variable{n:Int}{u:bN}
structure iq(n:Int)(u:bN):Prop where
 kind:u.kind=bF\/u.kind=kg\/u.kind=eJ
 Bc:¬j8 u (Cd u) (vJ u)
 feed:∀f∈u.ai,0<=f.sh/\f.sh<n/\aQ f.dU=0/\bQ f.dU≠0
 out:1<=u.out/\u.out<n
 k:aQ u.k=0
 cW:∀c∈u.cW,aQ c=0
def O8{f:Kk}(h:gV n f=0):0<=f.sh/\f.sh<n/\aQ f.dU=0/\bQ f.dU≠0:=by
 unfold gV at h
 grind
def rM(h:gL n u=0):iq n u:=by
 unfold gL at h;split at h;cases h;rename_i i;split at h;cases h;rename_i e;split at h;contradiction;rename_i a;split at h;cases h;rename_i g;split at h;contradiction;rename_i d;have a:=bO.1 (show aG (gV n) u.ai=0 by simpa using a);have c:=bO.1 h;refine⟨?_,e,λf b=>O8<|a f b,E,by simpa using d,c⟩
 grind
def Qz:bF≠kg:=fV
def CL:bF≠eJ:=fV
def Jq:kg≠eJ:=fV
def iq.int(h:iq n u)(a:u.kind=bF):u.ai.length=2/\u.cW=[]:=by
 have b:=h.Bc;unfold j8 Cd vJ at b;have c:¬u.kind=eJ:=by rw[a];exact CL
 grind
def iq.add(h:iq n u)(a:u.kind=kg):1<=u.ai.length/\u.ai.length<=8/\u.cW=[]:=by
 have b:=h.Bc;unfold j8 Cd vJ at b;have c:¬u.kind=eJ:=by rw[a];exact Jq
 grind
def iq.table(h:iq n u)(a:u.kind=eJ):u.ai.length=1/\1<=u.cW.length/\u.cW.length<=13:=by
 have b:=h.Bc;have d:¬u.kind=bF:=by rw[a];exact CL.symm
 have c:¬u.kind=kg:=by rw[a];exact Jq.symm
 unfold j8 Cd vJ at b
 grind
def iq.fdd{us:L bN}(h:∀u∈us,iq n u):Fdd us:=λu hu a=>by have:=((h u hu).int a).1;omega
def iq.outs{m:Nat}{us:L bN}(h:∀u∈us,iq n u)(hm:n=m):aem m us:=λu hu=>by have:=(h u hu).out;omega
def cw(n:Nat)(us:L bN):L Rat:=us.foldl (λ(o:L Rat)u=>o.set u.out.toNat<|bQ u.k)<|List.replicate n 0
def N5{us:L bN}(h:∀u∈us,aQ u.k=0):∀(o:L Rat),us.foldl (λ(o:L cq)u=>o.set u.out.toNat u.k) (o.map qt)=(us.foldl (λ(o:L Rat)u=>o.set u.out.toNat<|bQ u.k) o).map qt:=by
 induction us with
 |nil=>intro o;rfl
 |cons u us a=>intro o;simp;rw[<-a λv b=>h v<|by simp[b],aeE,fW<|h u I]
def GQ{n:Nat}{us:L bN}(h:∀u∈us,aQ u.k=0):N6 n us=(cw n us).map qt:=by unfold N6 nU cw;rw[acS,<-N5 h,agB]
def oO(n:Nat)(us:L bN):(cw n us).length=n:=by
 unfold cw;have:∀(us:L bN)(o:L Rat),(us.foldl (λ(o:L Rat)u=>o.set u.out.toNat<|bQ u.k) o).length=o.length:=by
  intro us
  induction us with
  |nil=>intro o;rfl
  |cons u us a=>simp_all
 rw[this];simp
def v8{n:Nat}{us:L bN}{A:Rat->Prop}(c:A 0)(h:∀u∈us,A<|bQ u.k):∀q∈cw n us,A q:=by
 have:∀(us:L bN)(o:L Rat),(∀u∈us,A<|bQ u.k)->(∀q∈o,A q)->∀q∈us.foldl (λ(o:L Rat)u=>o.set u.out.toNat<|bQ u.k) o,A q:=by
  intro us
  induction us with
  |nil=>intro o _ h;exact h
  |cons u us a=>grind
 exact this us _ h λq b=>fP
def pM:Sz 0 1:=⟨by simp[c6],by simp[gX]⟩
def ac3(n:Nat)(us:L bN)(u:bN):Rat:=yp (bQ (u.ai.getD 0 default).dU*(cw n us).getD (u.ai.getD 0 default).sh.toNat 0) (u.cW.map bQ)
def conflict(n:Nat)(us:L bN)(u:bN):Prop:=u.kind=eJ/\bQ u.k≠ac3 n us u
def wU(n:Nat)(us:L bN):Prop:=∀s:Nat,1<=s->s<n->us.countP (λu=>decide (u.out=(s:Int)))=1
def aT(us:L bN):Nat:=us.countP λu=>decide (u.kind=bF)
end
open Classical in
def dH(p:jZ):Int:=
 if p.n<1\/100<p.n then 3
 else if 96<p.aa.length then 5
 else if aG (gL p.n) p.aa≠0 then aG (gL p.n) p.aa
 else if 24<p.ints.length then 5
 else if∃k∈p.ints,k<0\/p.n<=k then 10
 else if 24<aT p.aa then 5
 else if¬wU p.n.toNat p.aa then 19
 else if(aA p.aa).length<p.aa.length then 18
 else if∃u∈p.aa,conflict p.n.toNat p.aa u then 30 else 0
def abt{l:L cq}(h:∀c∈l,aQ c=0):(l.map bQ).map qt=l:=by
 rw[aer]
 conv=>rhs;rw[<-List.map_id l]
 exact adx λc hc=>fW<|h c hc
def LH{l:L Rat}{k:Nat}(h:k<l.length):(l.map qt).getD k []=qt (l.getD k 0):=by simp_all
def kx{α:Type}{l:L α}{i:Nat}(h:i<l.length){P:α->Prop}(b:¬∃x∈l.take i,P x)(a:¬P l[i]):¬∃x∈l.take (i+1),P x:=by
 rw[ace h]
 grind
def nO(p:jZ)(h:AS p):ab 11 [bI p] (.i<|dH p):=by
 have V:=h.aa;have E1:=h.ints;refine cp func11 W<|cQ 4 [(1,.box true<|bI p)] (1<=p.n/\p.n<=100/\p.aa.length<=96/\aG (gL p.n) p.aa=0) ?_ ?_;refine b6 W 15 W ?_ ?_<;>intro j;refine b7 W W<|aij SV.i<|by unfold dH;rw[aas<|.inl j]
 refine cm W W ?_ ?_<;>intro z;refine b7 W W<|aij SV.i<|by unfold dH;rw[aas<|.inr z]
 have e:dH p=dH p:=W
 conv at e=>rhs;unfold dH
 rw[aaq E]at e;refine cm W W ?_ ?_<;>intro o;refine b7 W W<|aij SV.i E;rw[aaq E]at e;refine r0 W<|ba (λi:Nat=>[(1,.box true<|bI p),(3,.i i)]) (λi=>i<=p.aa.length/\aG (gL p.n) p.aa=aG (gL p.n) (p.aa.drop i)) (λi=>p.aa.length-i) 0 ⟨aaQ _,W⟩ ?_;rintro i⟨hi,f⟩;refine cm W W ?_ ?_<;>intro b;have a:i<p.aa.length:=E;have x:(i:Int).toNat=i:=E;have y:p.aa.getD i default=p.aa[i]:=az a;rw[cP _ a]at f;refine eP W<|cd W (by rw[x,y];rfl) (Cs p p.aa[i]<|h.unit _<|aaZ a) W ?_;refine CM W<|bY W ?_ ?_<;>intro m;have m:gL p.n p.aa[i]≠0:=m;rw[aas m]at f;refine b7 W W<|aij SV.i E;have m:¬gL p.n p.aa[i]≠0:=m;rw[aaq m]at f;refine eP W<|aM (i+1) ⟨E,f⟩;refine r0 W<|bm ⟨E,E,E,?_⟩;rw[f,aeB E];rfl;rintro⟨B0,A0,X,A⟩;obtain⟨n,hn⟩:∃n:Nat,p.n=n:=⟨p.n.toNat,E⟩;have F:∀u∈p.aa,iq p.n u:=λu hu=>rM<|bO.1 A u hu;have e:dH p=dH p:=W
 conv at e=>rhs;unfold dH
 rw[aaq E,aaq E,aaq<|by rw[A];simp]at e;refine cQ 2 [(1,.box true<|bI p)] (p.ints.length<=24/\¬∃k∈p.ints,k<0\/p.n<=k) ?_ ?_;refine cm W W ?_ ?_<;>intro j;refine b7 W W<|aij SV.i E;rw[aaq E]at e;refine r0 W<|ba (λi:Nat=>[(1,.box true<|bI p),(5,.i i)]) (λi=>i<=p.ints.length/\¬∃k∈p.ints.take i,k<0\/p.n<=k) (λi=>p.ints.length-i) 0 ⟨aaQ _,I⟩ ?_;rintro i⟨hi,f⟩;refine cm W W ?_ ?_<;>intro b;have a:i<p.ints.length:=E;have x:(i:Int).toNat=i:=E;have y:p.ints.getD i 0=p.ints[i]:=az a;have D:(p.ints[i]<0\/p.n<=p.ints[i])->(10:Int)=dH p:=λg=>by rw[e,aas ⟨_,aaZ a,g⟩]
 refine u6 W ?_;rw[x,y];refine aF 58 W ?_ ?_<;>intro m;refine CM W<|aH W<|aij SV.i<|D<|.inl m;refine u6 W ?_;rw[x,y];refine bY W ?_ ?_<;>intro T;refine b7 W W<|aij SV.i<|D<|.inr T;refine eP W<|aM (i+1) ⟨E,kx a f E⟩;rw[acD E]at f;refine r0 W<|bm ⟨E,f⟩;rintro⟨Z,M⟩;rw[aaq E,aaq M]at e;have N:p.n.toNat=n:=E;rw[N]at e;have E2:aT p.aa<=p.aa.length:=agk;refine cQ 2 [(1,.box true<|bI p)] (aT p.aa<=24/\wU n p.aa) ?_ ?_;refine ck W W (lW p h) W<|cm W W ?_ ?_<;>intro j;have j:(24:Int)<(aT p.aa:Nat):=j;refine b7 W W<|aij SV.i E;have j:¬(24:Int)<(aT p.aa:Nat):=j;rw[aaq E]at e;refine r0 W<|ba (λs:Nat=>[(1,.box true<|bI p),(6,.i s)]) (λs=>s<=n/\1<=s/\∀t:Nat,1<=t->t<s->p.aa.countP (λu=>decide (u.out=(t:Int)))=1) (λs=>n-s) 1 ⟨E,E,λt j z=>E⟩ ?_;rintro s⟨hs,J,f⟩;refine cm W W ?_ ?_<;>intro z;refine r0 W<|ba (λi:Nat=>[(1,.box true<|bI p),(6,.i s),(7,.i<|(p.aa.take i).countP λu=>decide (u.out=(s:Int))),(8,.i i)]) (λi=>i<=p.aa.length) (λi=>p.aa.length-i) 0 (aaQ _) ?_;intro i hi;have hc:((p.aa.take i).countP λu=>decide (u.out=(s:Int)))<=i:=acI agk (by simp;omega);refine cm W W ?_ ?_<;>intro o;have a:i<p.aa.length:=E;have x:(i:Int).toNat=i:=E;have y:p.aa.getD i default=p.aa[i]:=az a;have r:((p.aa.take<|i+1).countP λu=>decide (u.out=(s:Int)))=((p.aa.take i).countP λu=>decide (u.out=(s:Int)))+(if p.aa[i].out=(s:Int)then 1 else 0):=by rw[ace a,ag0,ahM];simp
 refine eP W ?_;rw[x,y];refine bY W ?_ ?_<;>intro b;have b:p.aa[i].out=(s:Int):=b;rw[aas b]at r;refine eP W<|aM (i+1) E ⟨G,G,⟨W,aij SV.i<|by rw[r];omega⟩,G,U⟩;have b:¬p.aa[i].out=(s:Int):=b;rw[aaq b]at r;refine eP W<|aM (i+1) E ⟨G,G,⟨W,aij SV.i<|by rw[r];omega⟩,G,U⟩;rw[acD E];refine cm W W ?_ ?_<;>intro b;refine b7 W W<|cn ?_;rw[e,aas];intro g;have:=g s J E;omega;have b:p.aa.countP (λu=>decide (u.out=(s:Int)))=1:=E;refine eP W<|aM (s+1) ⟨E,E,λt g1 g2=>?_⟩
 grind
 refine r0 W<|bm ⟨E,λt g1 g2=>f t g1 E⟩;rintro⟨F0,O⟩;rw[aaq E,aaq λg=>g O]at e;refine cj W W (tV p h<|iq.fdd F) W<|CM W<|bY W ?_ ?_<;>intro j;refine b7 W W<|aij SV.i E;rw[aaq E]at e;have S:∀u∈p.aa,aQ u.k=0:=λu hu=>(F u hu).k;refine ck W W (xk p h n hn E<|iq.outs F hn) W ?_;rw[GQ S];refine r0 W<|ba (λi:Nat=>[(1,.box true<|bI p),(9,.strs true<|(cw n p.aa).map qt),(10,.i i)]) (λi=>i<=p.aa.length/\¬∃u∈p.aa.take i,conflict n p.aa u) (λi=>p.aa.length-i) 0 ⟨aaQ _,I⟩ ?_;rintro i⟨hi,f⟩;refine cm W W ?_ ?_<;>intro z;have a:i<p.aa.length:=E;have x:(i:Int).toNat=i:=E;have y:p.aa.getD i default=p.aa[i]:=az a;have l:=F _<|aaZ a;refine eP W ?_;rw[x,y];refine aF 120 W ?_ ?_<;>intro o;have o:p.aa[i].kind=eJ:=o;obtain⟨t1,t2,t3⟩:=l.table o;have f0:p.aa[i].ai.getD 0 default∈p.aa[i].ai:=aX E;obtain⟨b1,b2,P,b4⟩:=l.feed _ f0;have Y:=oO n p.aa;have H:∀q∈cw n p.aa,Sz q 67:=v8 (pM.mono fV) λu hu=>eO<|S u hu;have w:(p.aa[i].ai.getD 0 default).sh.toNat<(cw n p.aa).length:=E;have B:((cw n p.aa).map qt).getD (p.aa[i].ai.getD 0 default).sh.toNat []=qt ((cw n p.aa).getD (p.aa[i].ai.getD 0 default).sh.toNat 0):=LH w;have R:=H _<|aX (d:=0) w;have hm:=dY (bQ (p.aa[i].ai.getD 0 default).dU) ((cw n p.aa).getD (p.aa[i].ai.getD 0 default).sh.toNat 0) (eO P) R E;rw[fW P]at hm;have hh:=Jv (p.aa[i].cW.map bQ) (bQ (p.aa[i].ai.getD 0 default).dU*(cw n p.aa).getD (p.aa[i].ai.getD 0 default).sh.toNat 0) (K:=67) ((eO P).mul R) (λc hc=>by obtain⟨s,hs,rfl⟩:=abS.1 hc;exact eO<|l.cW s hs) (by grind) (by grind)
 rw[abt l.cW]at hh;have v:(p.aa[i].k≠qt (ac3 n p.aa p.aa[i]))↔conflict n p.aa p.aa[i]:=by
  unfold conflict;rw[and_iff_right o]
  conv=>lhs;rw[<-fW l.k]
  rw[ne_eq,IX]
 have C:Int.toNat 0=0:=W;refine r1 W (by simp only[aj,aag,acx,C]<;>omega) ?_;rw[C];refine cd W (by rw[B];rfl) hm W ?_;refine eP W<|bX W hh W<|u6 W<|bY W ?_ ?_<;>intro b;refine b7 W W<|cn ?_;rw[e,aas ⟨_,aaZ a,v.1 b⟩];refine eP W<|aM (i+1) ⟨E,kx a f λg=>b<|v.2 g⟩;refine u6 W<|aM (i+1) ⟨E,kx a f λg=>o g.1⟩;rw[acD E]at f;refine b7 W W<|aij SV.i<|by rw[e,aaq f]
end Go.Ai
end
namespace Go.Ai
open Go.Proofs Go.RowKit Go.Proofs.Tryz
section
variable{m x:Int}{l:L Int}{i:Nat}
def rn{R:Q Nat->Prop}{N:Nat}{F:St->Prop}{k:L It}{l:a7}(m:Nat){b:L It}{a:a7}(h:run tt [] N m k l [] []=([],[],b,a))(c:AK R prog N F b a):AK R prog N F k l:=(ow hA hm h U W).2.2 c
def rR{α:Type}(l:L α)(i:Nat)(x:α):(l.set i x).length=l.length:=afL
def F6(h:i<l.length):(l.set i x).getD i 0=x:=by simp_all
def getD_set_ne{j:Nat}(h:i≠j):(l.set i x).getD j 0=l.getD j 0:=by simp_all
def AX(l:L Int)(m:Int):Prop:=∀x∈l,0<=x/\x<=m
def AX.getD(h:AX l m)(hm:0<=m)(i:Nat):0<=l.getD i 0/\l.getD i 0<=m:=by rcases acX i l.length with g|g;exact h _<|aX g;simp_all
def AX.set(h:AX l m)(b:0<=x/\x<=m):AX (l.set i x) m:=by intro y a;rcases ahx a with a|rfl;exact h y a;exact b
def AX.mono{n:Int}(h:AX l m)(hn:m<=n):AX l n:=λx a=>⟨(h x a).1,afD (h x a).2 hn⟩
def AX.rep(n:Nat)(h:0<=m):AX (List.replicate n 0) m:=λx a=>fP
def mf(u:bN):Int:=if u.kind=eJ then max 1 ((u.cW.length:Int)-1)else 1
def kh(u:bN)(dg:L Int)(f:Kk):L Int:=dg.set u.out.toNat<|max (dg.getD u.out.toNat 0)<|dg.getD f.sh.toNat 0*mf u
def sO(us:L bN)(dg:L Int)(i:Int):L Int:=if(us.getD i.toNat default).kind=bF then dg else(us.getD i.toNat default).ai.foldl (kh<|us.getD i.toNat default) dg
def Gk(us:L bN)(jI:Int):L Int->L Int->Q (L Int)
 |[],dg=>some dg
 |i::r,dg=>if jI<(sO us dg i).getD (us.getD i.toNat default).out.toNat 0 then none else Gk us jI r (sO us dg i)
def jN(us:L bN)(n i:Nat):L Int:=(us.take i).foldl (λ(dg:L Int)u=>if u.kind=bF then dg.set u.out.toNat 1 else dg)<|(List.replicate n 0).set 0 1
def uD{us:L bN}{n:Nat}(h:i<us.length):jN us n (i+1)=if us[i].kind=bF then(jN us n i).set us[i].out.toNat 1 else jN us n i:=by unfold jN;rw[ace h,afv];rfl
def rm(us:L bN)(n:Nat):∀i,i<=us.length->(jN us n i).length=n/\AX (jN us n i) 6
 |0,_=>⟨by simp[jN],(AX.rep n fV).set fV⟩
 |i+1,h=>by obtain⟨b,a⟩:=rm us n i E;rw[uD E];split;exact⟨by rw[rR];exact b,a.set fV⟩;exact⟨b,a⟩
def kb(u:bN)(dg rt:L Int)(f:Kk):L Int:=rt.set u.out.toNat<|max (rt.getD u.out.toNat 0)<|rt.getD f.sh.toNat 0+dg.getD f.sh.toNat 0-1
def Qk(u:bN)(dg rt:L Int):L Int:=(dm u).foldl (kb u dg) rt
def vD(u:bN)(dg rt:L Int):L Int:=if u.kind=eJ then rt.set u.out.toNat (rt.getD u.out.toNat 0+dg.getD u.out.toNat 0)else rt
def tH(u:bN)(dg rt:L Int):L Int:=if u.kind=bF then rt.set u.out.toNat (rt.getD u.out.toNat 0+dg.getD (u.ai.getD 0 default).sh.toNat 0)else rt
def wj(us:L bN)(dg rt:L Int)(i:Int):L Int:=tH (us.getD i.toNat default) dg<|vD (us.getD i.toNat default) dg<|Qk (us.getD i.toNat default) dg rt
def K3(us:L bN)(jI:Int)(dg:L Int):L Int->L Int->Q (L Int)
 |[],rt=>some rt
 |i::r,rt=>if jI<(wj us dg rt i).getD (us.getD i.toNat default).out.toNat 0 then none else K3 us jI dg r (wj us dg rt i)
def Cc(us:L bN)(n:Nat):Bool:=match Gk us 6 (aA us) (jN us n us.length)with
 |none=>false
 |some dg=>(K3 us 6 dg (aA us)<|List.replicate n 0).isSome
def Hh:∀{us:L bN}(k:Nat){out:L Int},out.Nodup->(∀x∈out,0<=x/\x<us.length)->∀x∈eW us k out,0<=x/\x<us.length
 |us,0,out,_,h=>h
 |us,k+1,out,hn,h=>by rw[eW];split;exact h;rename_i g;obtain⟨b,a⟩:=xW hn h g;exact Hh k b a
def Bs:∀{us:L bN}(k:Nat){out:L Int},out.Nodup->(∀x∈out,0<=x/\x<us.length)->(eW us k out).Nodup
 |us,0,out,hn,_=>hn
 |us,k+1,out,hn,h=>by rw[eW];split;exact hn;rename_i g;obtain⟨b,a⟩:=xW hn h g;exact Bs k b a
def fI{us:L bN}:∀x∈aA us,0<=x/\x<us.length:=Hh _ acP I
def xY(us:L bN):(aA us).Nodup:=Bs _ acP I
def wo(us:L bN):(aA us).length<=us.length:=xX (xY us) fI
def SM(p:jZ)(h:AS p)(n:Nat)(hn:p.n=n)(G6:0<n)(G5:n<=100)(hv:∀u∈p.aa,iq p.n u):ab 19 [bI p,.i 6] (.u<|Cc p.aa n):=by
 have hl:=h.aa;refine cp func19 W<|cQ 4 [(1,.i 6),(2,.box true<|bI p),(5,fR<|jN p.aa n p.aa.length)] True ?_ λ_=>?_;refine r1 W (by simp only[aj,aag,ahN]<;>omega) ?_;refine loop (λi:Nat=>[(1,.i 6),(2,.box true<|bI p),(5,fR<|jN p.aa n i),(6,.i i)]) (λi=>i<=p.aa.length) (λi=>p.aa.length-i) 0 (aaQ _) ⟨G,G,⟨W,aij (fR)<|by rw[hn];rfl⟩,G,U⟩ ?_;intro i hi;refine cm W W ?_ ?_<;>intro h1;have O:i<p.aa.length:=E;have ei:(i:Int).toNat=i:=E;have eg:p.aa.getD i default=p.aa[i]:=az O;have J:=uD (n:=n) O;have hu:=(hv _<|aaZ O).out;have K:=(rm p.aa n i hi).1;refine r1 W (by simp only[aj,aag,ei]<;>omega) ?_;rw[ei,eg];refine bY W ?_ ?_<;>intro b;have b:p.aa[i].kind=bF:=b;rw[aas b]at J;refine r1 W (by simp only[aj,aag,ei,eg,K]<;>omega) ?_;exact again (i+1) E E ⟨G,G,⟨W,aij (fR)<|by rw[J,ei,eg]⟩,G,U⟩;have b:¬p.aa[i].kind=bF:=b;rw[aaq b]at J;refine r1 W (by simp only[aj,aag,ei,eg,K]<;>omega) ?_;exact again (i+1) E E ⟨G,G,⟨W,aij (fR) J.symm⟩,G,U⟩;have:i=p.aa.length:=E;subst this;refine r0 W<|bm U;have G3:=wo p.aa;refine Cp 2 (λdg:L Int=>[(1,.i 6),(2,.box true<|bI p),(5,fR dg),(7,fR<|aA p.aa)]) (λdg=>Gk p.aa 6 (aA p.aa) (jN p.aa n p.aa.length)=some dg/\dg.length=n/\AX dg 6) ?_ ?_;refine ck W W (tV p h<|iq.fdd hv) W<|r0 W<|lp (λ(k:Nat)(dg:L Int)=>[(1,.i 6),(2,.box true<|bI p),(5,fR dg),(7,fR<|aA p.aa),(8,.i k)])
  (λk dg=>k<=(aA p.aa).length/\Gk p.aa 6 (aA p.aa) (jN p.aa n p.aa.length)=Gk p.aa 6 ((aA p.aa).drop k) dg/\dg.length=n/\AX dg 6)
  (λk _=>(aA p.aa).length-k) 0 (jN p.aa n p.aa.length) ⟨aaQ _,W,rm p.aa n _<|aaU _⟩ ⟨G,G,G,G,G,U⟩ ?_
 rintro k dg⟨hk,c,w,t⟩;refine cm W W ?_ ?_<;>intro h1;have y:k<(aA p.aa).length:=E;have ek:(k:Int).toNat=k:=E;have A:(aA p.aa).getD k 0=(aA p.aa)[k]:=az y;obtain⟨o1,o2⟩:=fI _<|aaZ y;rw[acJ y,Gk]at c;obtain⟨o,eo⟩:∃o,(aA p.aa)[k]=o:=⟨_,W⟩;rw[eo]at A o1 o2 c;have s:p.aa.getD o.toNat default∈p.aa:=aX E;unfold sO at c;obtain⟨u,eu⟩:∃u,p.aa.getD o.toNat default=u:=⟨_,W⟩;rw[eu]at s c;have hu:=hv _ s;have E2:=hu.out;have V:=(h.unit _ s).ai;have Z:1<=mf u/\mf u<=12:=by unfold mf;split;rename_i g;have:=(hu.table g).2.2;omega;omega
 refine rn 3 W<|Cp 2 (λa:L Int=>[(1,.i 6),(2,.box true<|bI p),(5,fR a),(7,fR<|aA p.aa),(8,.i k),(9,.box true<|dZ u)])
  (λa=>a=(if u.kind=bF then dg else u.ai.foldl (kh u) dg)/\a.length=n/\AX a 72/\∀j,j≠u.out.toNat->a.getD j 0=dg.getD j 0) ?_ ?_
 refine k1 W aP (by simp only[aj,aag,ek,A]<;>omega) ?_;rw[ek,A,eu];by_cases C:u.kind=bF;refine ba (λj:Nat=>[(1,.i 6),(2,.box true<|bI p),(5,fR dg),(7,fR<|aA p.aa),(8,.i k),(9,.box true<|dZ u),(10,.i 0)]) (λ_=>True) (λ_=>0) 0 U ?_;intro j _;refine b6 W 65 W ?_ ?_<;>intro b;refine cm W W (λh3=>aaF C h3) λh3=>?_;refine r0 W<|fL dg ⟨by rw[aas C],w,t.mono fV,λ_ _=>rfl⟩;refine r0 W<|fL dg ⟨by rw[aas C],w,t.mono fV,λ_ _=>rfl⟩;rw[aaq C];refine lp (λ(j:Nat)(a:L Int)=>[(1,.i 6),(2,.box true<|bI p),(5,fR a),(7,fR<|aA p.aa),(8,.i k),(9,.box true<|dZ u),(10,.i j)])
  (λj a=>j<=u.ai.length/\u.ai.foldl (kh u) dg=(u.ai.drop j).foldl (kh u) a/\a.length=n/\AX a 72/\(∀i,i≠u.out.toNat->a.getD i 0=dg.getD i 0)/\(j=0\/u.kind≠eJ->AX a 6))
  (λj _=>u.ai.length-j) 0 dg ⟨aaQ _,W,w,t.mono fV,λ_ _=>rfl,λ_=>t⟩ ⟨G,G,G,G,G,G,G,U⟩ ?_
 rintro j a⟨hj,v,q,r,F,R⟩;refine b6 W 65 W ?_ ?_<;>intro b;refine cm W W (λh3=>?_) λh3=>aaF C h3;have z:j<u.ai.length:=E;have ej:(j:Int).toNat=j:=E;have H:u.ai.getD j default=u.ai[j]:=az z;rw[acJ z,aeC]at v;have P:=hu.feed _<|aaZ z;have E1:0<=a.getD u.ai[j].sh.toNat 0/\a.getD u.ai[j].sh.toNat 0*mf u<=72:=by
  have B0:=r.getD fV u.ai[j].sh.toNat;refine⟨B0.1,?_⟩;by_cases hT:u.kind=eJ;have:=(hu.table hT).1;have h6:=(R<|.inl E).getD fV u.ai[j].sh.toNat
  calc a.getD u.ai[j].sh.toNat 0*mf u<=6*12:=ahz h6.2 Z.2 E fV
   _<=72:=fV
  unfold mf;simp_all
 have G4:0<=a.getD u.ai[j].sh.toNat 0*mf u:=aeA E1.1 E;have ho:=r.getD fV u.out.toNat;have key:∀d:Int,d=a.getD u.ai[j].sh.toNat 0*mf u->a.set u.out.toNat (max (a.getD u.out.toNat 0) d)=kh u a u.ai[j]:=by rintro d rfl;rfl
 refine r1 W (by simp only[aj,aag,ej,H,q]<;>omega) ?_;rw[ej,H];have ag:∀d:Int,d=a.getD u.ai[j].sh.toNat 0*mf u->(j+1<=u.ai.length/\u.ai.foldl (kh u) dg=(u.ai.drop<|j+1).foldl (kh u) (a.set u.out.toNat<|max (a.getD u.out.toNat 0) d)/\(a.set u.out.toNat<|max (a.getD u.out.toNat 0) d).length=n/\AX (a.set u.out.toNat<|max (a.getD u.out.toNat 0) d) 72/\(∀i,i≠u.out.toNat->(a.set u.out.toNat<|max (a.getD u.out.toNat 0) d).getD i 0=dg.getD i 0)/\(j+1=0\/u.kind≠eJ->AX (a.set u.out.toNat<|max (a.getD u.out.toNat 0) d) 6)):=by
  intro d hd;refine⟨E,fP,by rw[rR];exact q,r.set E,λi hi=>?_,λhh=>?_⟩
  grind
  have F1:u.kind≠eJ:=hh.resolve_left E;have h6:=R<|.inr F1;refine h6.set ?_;have h7:=h6.getD fV u.out.toNat;have h8:=h6.getD fV u.ai[j].sh.toNat;rw[hd];unfold mf;grind
 refine bY W ?_ ?_<;>intro S;have S:u.kind=eJ:=S;have ht:=hu.table S;have A0:vr false 1 ((u.cW.length:Int)-1)=mf u:=by unfold mf;rw[aas S];rfl
 refine k1 W aP (by simp only[aj,aag,A0,q]<;>omega) ?_;refine again (j+1,a.set u.out.toNat<|max (a.getD u.out.toNat 0)<|a.getD u.ai[j].sh.toNat 0*mf u) (by dsimp only;omega) (ag _ W) ⟨G,G,⟨W,aij (fR) ?_⟩,G,G,G,G,U⟩;rw[A0];rfl;have S:¬u.kind=eJ:=S;have V7:a.getD u.ai[j].sh.toNat 0=a.getD u.ai[j].sh.toNat 0*mf u:=by unfold mf;simp_all
 refine k1 W aP (by simp only[aj,aag,q]<;>omega) ?_;exact aM (j+1,a.set u.out.toNat<|max (a.getD u.out.toNat 0)<|a.getD u.ai[j].sh.toNat 0)<|ag _ V7;have:j=u.ai.length:=E;subst this;rw[aeM]at v;refine r0 W<|fL a ⟨v.symm,q,r,F⟩;rintro a⟨F2,q,r,F⟩;rw[<-F2]at c;refine r1 W (by simp only[aj,aag,q]<;>omega) ?_;refine bY W ?_ ?_<;>intro b;have b:(6:Int)<a.getD u.out.toNat 0:=b;rw[aas b]at c;refine b7 W W ?_;show false=Cc p.aa n;unfold Cc;rw[c];have b:¬(6:Int)<a.getD u.out.toNat 0:=b;rw[aaq b]at c;refine r1 W bk<|aM (k+1,a) ⟨by dsimp only;omega,c,q,?_⟩;intro x T;obtain⟨i,hi,rfl⟩:=ahm.1 T;have e:a[i]=a.getD i 0:=(az hi).symm;refine⟨(r _ T).1,?_⟩;rw[e];by_cases D:i=u.out.toNat;rw[D];omega;rw[F i D];exact(t.getD fV i).2;refine r0 W ?_;rw[aeB E]at c;exact fL dg ⟨c,w,t⟩;rintro dg⟨c,w,t⟩;have hL:Cc p.aa n=(K3 p.aa 6 dg (aA p.aa)<|List.replicate n 0).isSome:=by unfold Cc;rw[c]
 refine r1 W bk<|lp (λ(k:Nat)(rt:L Int)=>[(1,.i 6),(2,.box true<|bI p),(5,fR dg),(7,fR<|aA p.aa),(12,fR rt),(13,.i k)])
  (λk rt=>k<=(aA p.aa).length/\Cc p.aa n=(K3 p.aa 6 dg ((aA p.aa).drop k) rt).isSome/\rt.length=n/\AX rt 6)
  (λk _=>(aA p.aa).length-k) 0 (List.replicate n 0) ⟨aaQ _,hL,I,AX.rep n fV⟩ ⟨G,G,G,G,⟨W,aij (fR)<|by rw[hn];rfl⟩,G,U⟩ ?_
 rintro k rt⟨hk,c,F0,Y⟩;refine cm W W ?_ ?_<;>intro h1;have y:k<(aA p.aa).length:=E;have ek:(k:Int).toNat=k:=E;have A:(aA p.aa).getD k 0=(aA p.aa)[k]:=az y;obtain⟨o1,o2⟩:=fI _<|aaZ y;rw[acJ y,K3]at c;obtain⟨o,eo⟩:∃o,(aA p.aa)[k]=o:=⟨_,W⟩;rw[eo]at A o1 o2 c;have s:p.aa.getD o.toNat default∈p.aa:=aX E;unfold wj at c;obtain⟨u,eu⟩:∃u,p.aa.getD o.toNat default=u:=⟨_,W⟩;rw[eu]at s c;have hu:=hv _ s;have E2:=hu.out;have X:=h.unit _ s;have V:=X.ai;have H1:(dm u).length<=u.ai.length:=by unfold dm;split<;>simp
 have N:∀f∈dm u,f∈u.ai:=by intro f c;unfold dm at c;grind
 have F4:∀j,j≠u.out.toNat->∀l:L Int,∀x,(l.set u.out.toNat x).getD j 0=l.getD j 0:=λj hj l x=>getD_set_ne λe=>hj e.symm;refine rn 3 W<|Cp 3 (λaH:L Int=>[(1,.i 6),(2,.box true<|bI p),(5,fR dg),(7,fR<|aA p.aa),(12,fR aH),(13,.i k),(14,.box true<|dZ u)])
  (λaH=>aH=Qk u dg rt/\aH.length=n/\AX aH 100/\∀j,j≠u.out.toNat->aH.getD j 0=rt.getD j 0) ?_ ?_
 refine k1 W aP (by simp only[aj,aag,ek,A]<;>omega) ?_;rw[ek,A,eu];refine bW W (yc u X (λg=>by have:=(hu.int g).1;omega)) W ?_;refine r0 W<|lp (λ(j:Nat)(aH:L Int)=>[(1,.i 6),(2,.box true<|bI p),(5,fR dg),(7,fR<|aA p.aa),(12,fR aH),(13,.i k),(14,.box true<|dZ u),(15,aie<|dm u),(16,.i j)])
  (λj aH=>j<=(dm u).length/\Qk u dg rt=((dm u).drop j).foldl (kb u dg) aH/\aH.length=n/\AX aH (6+6*j)/\(∀i,i≠u.out.toNat->aH.getD i 0=rt.getD i 0))
  (λj _=>(dm u).length-j) 0 rt ⟨aaQ _,W,F0,Y.mono fV,λ_ _=>rfl⟩ ⟨G,G,G,G,G,G,G,G,G,U⟩ ?_
 rintro j aH⟨hj,v,q,r,F⟩;have G0:(dm u).length<=8:=by rcases hu.kind with g|g|g;have:=(hu.int g).1;omega;have:=(hu.add g).2.1;omega;have:=(hu.table g).1;omega
 refine cm W W ?_ ?_<;>intro b;have z:j<(dm u).length:=E;have ej:(j:Int).toNat=j:=E;have H:(dm u).getD j default=(dm u)[j]:=az z;rw[acJ z,aeC]at v;have P:=hu.feed _<|N _<|aaZ z;have R:AX aH 54:=r.mono E;have T:=r.getD E (dm u)[j].sh.toNat;have ho:=r.getD E u.out.toNat;have hd:=t.getD fV (dm u)[j].sh.toNat;refine k1 W aP (by simp only[aj,aag,ej,H,q,w]<;>omega) ?_;refine again (j+1,kb u dg aH (dm u)[j]) (by dsimp only;omega) ⟨by dsimp only;omega,v,by unfold kb;rw[rR];exact q,?_,λi hi=>?_⟩ ⟨G,G,G,G,⟨W,aij (fR) ?_⟩,G,G,G,G,U⟩;unfold kb;refine AX.set (r.mono<|by dsimp only;omega) ?_;dsimp only;omega;unfold kb;simp_all;rw[ej,H];rfl;have:j=(dm u).length:=E;subst this;rw[aeM]at v;refine r0 W<|fL aH ⟨v.symm,q,r.mono E,F⟩;rintro qO⟨e1,l1,b1,g1⟩;rw[<-e1]at c;have H4:=t.getD fV u.out.toNat;have G2:=b1.getD fV u.out.toNat;refine Cp 1 (λaH:L Int=>[(1,.i 6),(2,.box true<|bI p),(5,fR dg),(7,fR<|aA p.aa),(12,fR aH),(13,.i k),(14,.box true<|dZ u)])
  (λaH=>aH=vD u dg qO/\aH.length=n/\AX aH 106/\∀j,j≠u.out.toNat->aH.getD j 0=rt.getD j 0) ?_ ?_
 refine cm W W ?_ ?_<;>intro b;have b:u.kind=eJ:=b;refine k1 W aP (by simp only[aj,aag,l1,w]<;>omega) ?_;refine meet (vD u dg qO) ⟨W,?_,?_,λj hj=>?_⟩ ⟨G,G,G,G,⟨W,aij (fR)<|by unfold vD;rw[aas b]⟩,G,G,U⟩;unfold vD;simp_all;unfold vD;rw[aas b];exact(b1.mono fV).set E;unfold vD;simp_all;have b:¬u.kind=eJ:=b;refine r0 W<|fL qO ⟨?_,l1,b1.mono fV,g1⟩;unfold vD;rw[aaq b];rintro M⟨e2,l2,b2,g2⟩;rw[<-e2]at c;have G1:=b2.getD fV u.out.toNat;refine Cp 1 (λaH:L Int=>[(1,.i 6),(2,.box true<|bI p),(5,fR dg),(7,fR<|aA p.aa),(12,fR aH),(13,.i k),(14,.box true<|dZ u)])
  (λaH=>aH=tH u dg M/\aH.length=n/\AX aH 112/\∀j,j≠u.out.toNat->aH.getD j 0=rt.getD j 0) ?_ ?_
 refine cm W W ?_ ?_<;>intro b;have b:u.kind=bF:=b;have H2:=(hu.int b).1;have F3:Int.toNat 0=0:=W;have H3:=hu.feed _<|aX (d:=default)<|show 0<u.ai.length from E;have Ed:=t.getD fV (u.ai.getD 0 default).sh.toNat;refine k1 W aP (by simp only[aj,aag,l2,w,F3]<;>omega) ?_;refine meet (tH u dg M) ⟨W,?_,?_,λj hj=>?_⟩ ⟨G,G,G,G,⟨W,aij (fR)<|by unfold tH;rw[aas b];rfl⟩,G,G,U⟩;unfold tH;simp_all;unfold tH;rw[aas b];exact(b2.mono fV).set E;unfold tH;simp_all;have b:¬u.kind=bF:=b;refine r0 W<|fL M ⟨?_,l2,b2.mono fV,g2⟩;unfold tH;rw[aaq b];rintro B⟨e3,l3,b3,g3⟩;rw[<-e3]at c;refine r1 W (by simp only[aj,aag,l3]<;>omega) ?_;refine bY W ?_ ?_<;>intro b;have b:(6:Int)<B.getD u.out.toNat 0:=b;rw[aas b]at c;refine b7 W W ?_;show false=Cc p.aa n;rw[c];rfl;have b:¬(6:Int)<B.getD u.out.toNat 0:=b;rw[aaq b]at c;refine r1 W bk<|aM (k+1,B) ⟨by dsimp only;omega,c,l3,?_⟩;intro x T;obtain⟨i,hi,rfl⟩:=ahm.1 T;have e:B[i]=B.getD i 0:=(az hi).symm;refine⟨(b3 _ T).1,?_⟩;rw[e];by_cases D:i=u.out.toNat;rw[D];omega;rw[g3 i D];exact(Y.getD fV i).2;rw[aeB E]at c;refine b7 W W ?_;show true=Cc p.aa n;rw[c];rfl
end
structure Sys where
 names:List cq
 bo:List (List bq)
 start:List jh
def ab8(s:Sys):SV:=.agg [.strs false s.names,j6 false s.bo,aib s.start]
def zW(l:L (L bq)):Int:=aG js l
def yj(s:Sys)(sh:L (L bq)){V K:Nat}(h:∀p∈sh++s.bo,(∀u∈p,Cv V K u)/\p.length<2^50)(hl:sh.length+s.bo.length<2^40)(f:K<2^36):
 ab 15 [ab8 s,j6 false sh] (.i<|zW<|sh++s.bo):=by
 refine cp func15 W<|k1 W aP (by simp[aj,aag,len,acx];refine⟨λx=>rfl,λx=>rfl,?_,λx=>rfl,λx=>rfl,?_⟩<;>omega) ?_;refine loop (λi:Nat=>[(5,j6 true<|sh++s.bo),(6,.i i)]) (λi=>i<=(sh++s.bo).length/\zW (sh++s.bo)=zW ((sh++s.bo).drop i)) (λi=>(sh++s.bo).length-i) 0 ⟨aaQ _,W⟩
  ⟨⟨W,W,W,by rw[dj,acB];exact kS.refl _⟩,G,U⟩ ?_
 rintro i⟨hi,b⟩;have d:(sh++s.bo).length=sh.length+s.bo.length:=acU;refine cm W W ?_ ?_<;>intro g;have a:i<(sh++s.bo).length:=E;have e:(i:Int).toNat=i:=E;have j:(sh++s.bo).getD i default=(sh++s.bo)[i]:=az a;unfold zW at b⊢;rw[cP _ a]at b;obtain⟨g1,g2⟩:=h _<|aaZ a;refine r1 W (by simp[aj,aag,e]<;>omega) ?_;refine cl W (by rw[e,j];rfl) (Cf (sh++s.bo)[i] g1 g2 f) W ?_;refine cm W W ?_ ?_<;>intro c;have c:js (sh++s.bo)[i]≠0:=c;rw[aas c]at b;refine b7 W W<|aij SV.i b.symm;have c:¬js (sh++s.bo)[i]≠0:=c;rw[aaq c]at b;refine r1 W bh<|aM (i+1) ⟨E,b⟩;refine b7 W W<|cn ?_;rw[b,aeB E];rfl
def uR(l:L (L bq)):bR (l.map λp=>(cH false p).den)=true:=oz (by intro x a;obtain⟨p,-,rfl⟩:=abS.1 a;rfl)
def Kd{wh:Bool}(bo:List (List bq))(p:List bq){V K L:Nat}(l:∀u∈p,Cv V L u)(d:p.length<2^40)(h:Z9 V K bo p)(x:bo.length<2^20)(z:bo.length<V)(t:V<2^20)(f:K+K+1<2^34)(n:L+3<2^34):
 xa prog 70 0 wh (j6 true bo) [cH false p] (cH false<|kn bo p):=by
 refine xa.of (sz:=1) (X:=bo.map λp=>(cH false p).den) W (uR bo) W I λk r o b=>?_;rw[acx]at b;refine mF (fn:=Tryz.f70) func70 W W W W W<|ck W W (rq p 0 (V:=V) (K:=K) (L:=L) l h.d0 E d f n) W<|b9 W (λi:Nat=>[(0,.pv (·=k)),(1000000,.abs<|JL (.list .own 1 (bo.map λp=>(cH false p).den)) k r o),(1,cH false p),(5,cH false<|jw bo p i),(6,.i i)]) (λi=>i<=bo.length) (λi=>bo.length-i) 0 (aaQ _) ⟨G,W,G,G,G,U⟩ ?_;intro i hi;refine r0 W<|ex W W W (VF (P:=prog) W W underlying36 b) W<|cm W W ?_ ?_<;>intro q;have a:i<bo.length:=E;have w:(i:Int)+1=((i+1:Nat):Int):=E;have v:bo.getD i []=bo[i]:=az a;have c:=h.d i a;obtain⟨j,g⟩:=h.r i a;have s:=h.a i a;have hm:=h.m i a;have e:(jw bo p i++kv (sP p<|i+1) (bo.getD i [])).length<2^40:=by
  rw[acU];have q:(jw bo p i).length<2^30:=by
   cases i with
   |zero=>exact h.d0.norm.2
   |succ i=>exact(h.a i E).norm.2
  have A:=hm.norm.2;unfold kv;omega
 rw[acU]at e;refine r1 W bh<|cd W (by rw[w];rfl) (rq p (i+1) (V:=V) (K:=K) (L:=L) l c E d f n) W ?_;refine r0 W<|FL W W W (O1 (P:=prog) (m:=i) W underlying36 (ey hA W) a b) W<|Y2 W W (DV (y:=(cH false<|bo.getD i []).den) (ey hA W) (uR bo) (by rw[afE,acL a,v];rfl) W) W W ?_;refine bX W (qu (sP p<|i+1) (bo.getD i []) (V:=V) (K:=K) (L:=K) (M:=K) c.norm.1 j hm (by have:=c.norm.2;unfold sP;omega) g E f E) W ?_;refine bX W (mT (jw bo p i) (kv (sP p<|i+1)<|bo.getD i []) (V:=V) (K:=K) s e f) W<|k1 W aP bh<|again (i+1) E E ⟨G,W,G,G,G,U⟩;have:i=bo.length:=E;subst this;refine r0 W<|NJ [(4,cH false<|jw bo p bo.length),(1000000,.abs<|JL (.list .own 1 (bo.map λp=>(cH false p).den)) k r o)] ⟨⟨W,W,.le<|aw.refl _⟩,W,U⟩ W (aw.refl _) ⟨G,U⟩
def I1(s:cq):ab 64 [.s s] (fA ⟨s,s⟩):=by refine cp func64 W<|cg W W
def fM(us:L bN)(i:Nat):Nat:=aT<|us.take i
def mH{us:L bN}{i:Nat}(h:i<us.length):fM us (i+1)=fM us i+if us[i].kind=bF then 1 else 0:=by unfold fM aT;rw[ace h,ag0];by_cases g:us[i].kind=bF<;>simp
def CP(us:L bN)(i:Nat):fM us i<=aT us:=List.Sublist.countP_le<|List.take_sublist _ _
def Da(n m:Nat):L (L bq):=(List.replicate n []).set 0 (rJ 0 m)
def FK(us:L bN)(n m:Nat):Nat->L (L bq)
 |0=>Da n m
 |i+1=>if(us.getD i default).kind=bF then(FK us n m i).set (us.getD i default).out.toNat (rJ (fM us<|i+1) m)else FK us n m i
def wq(us:L bN)(i:Nat):L Int:=(List.range i).map λj=>(fM us j:Int)
def iF(us:L bN)(i:Nat):L cq:=(List.range<|fM us i).map λ(j:Nat)=>122::bS ((j:Int)+1)
def iB(us:L bN):Nat->L jh
 |0=>[]
 |i+1=>if(us.getD i default).kind=bF then iB us i++[⟨(us.getD i default).k,(us.getD i default).k⟩]else iB us i
def Hl(us:L bN)(i:Nat):wq us (i+1)=wq us i++[(fM us i:Int)]:=by unfold wq;rw[agO,acB];rfl
def wa(us:L bN):∀i,(iB us i).length<=i
 |0=>.refl
 |i+1=>by have:=wa us i;rw[iB];split;simp;exact this;omega
def pO(us:L bN)(n m:Nat):∀i,(FK us n m i).length=n
 |0=>by simp[FK,Da]
 |i+1=>by have:=pO us n m i;rw[FK];split;rw[afL];exact this;exact this
def gh(sh:L (L bq))(a:L Rat)(u:bN):Nat->L bq×Rat
 |0=>([],bQ u.k)
 |i+1=>(AM (gh sh a u i).1<|jr (bQ (u.ai.getD i default).dU)<|sh.getD (u.ai.getD i default).sh.toNat [],
   (gh sh a u i).2-bQ (u.ai.getD i default).dU*a.getD (u.ai.getD i default).sh.toNat 0)
def Kf(sh:L (L bq))(a:L Rat)(m:Nat)(u:bN):L bq:=AM (gh sh a u u.ai.length).1<|eK (gh sh a u u.ai.length).2 m
def nH(sh:L (L bq))(u:bN):L bq:=jr (bQ (u.ai.getD 0 default).dU)<|sh.getD (u.ai.getD 0 default).sh.toNat []
def j0(m:Nat)(x:L bq)(cs:L Rat):L bq:=cs.foldr (λa s=>AM (kv s x)<|eK a m) []
def X0(sh:L (L bq))(m:Nat)(u:bN):L bq:=j0 m (nH sh u)<|u.cW.map bQ
def mv(us:L bN)(a:L Rat)(m:Nat)(sh:L (L bq))(o:Int):L (L bq):=
 if(us.getD o.toNat default).kind=kg then sh.set (us.getD o.toNat default).out.toNat (Kf sh a m<|us.getD o.toNat default)
 else if(us.getD o.toNat default).kind=eJ then sh.set (us.getD o.toNat default).out.toNat (X0 sh m<|us.getD o.toNat default)else sh
def gJ(us:L bN)(n m k:Nat):L (L bq):=((aA us).take k).foldl (mv us (cw n us) m)<|FK us n m us.length
def nc(us:L bN)(n m:Nat):L (L bq):=gJ us n m (aA us).length
def Dl(sh bo:L (L bq))(u:bN):L bq:=jr (bQ (u.ai.getD 0 default).dU*bQ (u.ai.getD 1 default).dU) (kv (sh.getD (u.ai.getD 0 default).sh.toNat [])<|kn bo<|sh.getD (u.ai.getD 1 default).sh.toNat [])
def pP(us:L bN)(sh bo:L (L bq))(o:Int):L (L bq):=if(us.getD o.toNat default).kind=bF then bo.set (fM us o.toNat) (Dl sh bo<|us.getD o.toNat default)else bo
def fC(us:L bN)(n m k:Nat):L (L bq):=((aA us).take k).foldl (pP us<|nc us n m)<|List.replicate m []
def zG(us:L bN)(n m:Nat):L (L bq):=fC us n m (aA us).length
def Bk(us:L bN)(n m:Nat):Sys:=⟨iF us us.length,zG us n m,iB us us.length⟩
def ov{us:L bN}{n m k:Nat}(h:k<(aA us).length):gJ us n m (k+1)=mv us (cw n us) m (gJ us n m k) (aA us)[k]:=by unfold gJ;rw[ace h,afv];rfl
def wi{us:L bN}{n m k:Nat}(h:k<(aA us).length):fC us n m (k+1)=pP us (nc us n m) (fC us n m k) (aA us)[k]:=by unfold fC;rw[ace h,afv];rfl
def Oe(us:L bN)(a:L Rat)(m:Nat)(sh:L (L bq))(o:Int):(mv us a m sh o).length=sh.length:=by unfold mv;split;simp_all;split;simp_all;rfl
def jB(us:L bN)(n m k:Nat):(gJ us n m k).length=n:=by
 have:∀(l:L Int)(sh:L (L bq)),(l.foldl (mv us (cw n us) m) sh).length=sh.length:=by
  intro l
  induction l with
  |nil=>intro sh;rfl
  |cons o l a=>intro sh;rw[aeC,a,Oe]
 unfold gJ;rw[this,pO]
def jo(us:L bN)(n m k:Nat):(fC us n m k).length=m:=by
 have:∀(l:L Int)(r:L (L bq)),(l.foldl (pP us<|nc us n m) r).length=r.length:=by
  intro l
  induction l with
  |nil=>intro sh;rfl
  |cons o l a=>intro sh;rw[aeC,a];unfold pP;split;simp_all;rfl
 unfold fC;rw[this];simp
structure FJ(V K L:Nat)(sh:List (List bq))(st:List Rat)(m:Nat)(u:bN):Prop where
 TQ:∀f∈u.ai,tp V K<|oR (bQ f.dU)<|sh.getD f.sh.toNat []
 sum:∀i,i<u.ai.length->tp V K ((gh sh st u i).1++jr (bQ (u.ai.getD i default).dU) (sh.getD (u.ai.getD i default).sh.toNat []))
 num:∀i,i<=u.ai.length->Sz (gh sh st u i).2 L
 fin:tp V K ((gh sh st u u.ai.length).1++eK (gh sh st u u.ai.length).2 m)
structure FB(V K:Nat)(sh:List (List bq))(m:Nat)(u:bN):Prop where
 TQ:tp V K (oR (bQ (u.ai.getD 0 default).dU)<|sh.getD (u.ai.getD 0 default).sh.toNat [])
 mul:∀i,i<u.cW.length->tp V K (jT (j0 m (nH sh u)<|(u.cW.map bQ).drop<|i+1)<|nH sh u)
 sum:∀i,i<u.cW.length->tp V K (kv (j0 m (nH sh u)<|(u.cW.map bQ).drop<|i+1) (nH sh u)++eK (bQ<|u.cW.getD i []) m)
structure FC(V K:Nat)(sh bo:List (List bq))(u:bN):Prop where
 al:Z9 V K bo (sh.getD (u.ai.getD 1 default).sh.toNat [])
 along:(∀t∈kn bo (sh.getD (u.ai.getD 1 default).sh.toNat []),Cv V K t)/\(kn bo<|sh.getD (u.ai.getD 1 default).sh.toNat []).length<2^30
 mul:tp V K (jT (sh.getD (u.ai.getD 0 default).sh.toNat [])<|kn bo<|sh.getD (u.ai.getD 1 default).sh.toNat [])
 TQ:tp V K (oR (bQ (u.ai.getD 0 default).dU*bQ (u.ai.getD 1 default).dU)<|kv (sh.getD (u.ai.getD 0 default).sh.toNat [])<|kn bo<|sh.getD (u.ai.getD 1 default).sh.toNat [])
structure Xv(V K L:Nat)(us:List bN)(n m:Nat):Prop where
 sh:∀k,k<=(aA us).length->∀p∈gJ us n m k,(∀u∈p,Cv V K u)/\p.length<2^30
 rt:∀k,k<=(aA us).length->∀p∈fC us n m k,(∀u∈p,Cv V K u)/\p.length<2^30
 add:∀k(h:k<(aA us).length),(us.getD (aA us)[k].toNat default).kind=kg->FJ V K L (gJ us n m k) (cw n us) m (us.getD (aA us)[k].toNat default)
 cW:∀k(h:k<(aA us).length),(us.getD (aA us)[k].toNat default).kind=eJ->FB V K (gJ us n m k) m (us.getD (aA us)[k].toNat default)
 adn:∀k(h:k<(aA us).length),(us.getD (aA us)[k].toNat default).kind=bF->FC V K (nc us n m) (fC us n m k) (us.getD (aA us)[k].toNat default)
def re(s:Sys):SV:=.agg [.strs true s.names,j6 true s.bo,.bc true 2 default fA s.start]
def Di(p:jZ)(h:AS p)(n m:Nat)(hn:p.n=n)(hm:m=aT p.aa)(S4:0<n)(S2:n<=100)(L0:p.aa.length<=96)(hv:∀u∈p.aa,iq p.n u){K L:Nat}(hR:Xv (m+1) K L p.aa n m)(hK:K+K+1<2^34)(hL:L+135<2^34)(hKL:L<=K):
 ab 14 [bI p] (.bU [ab8<|Bk p.aa n m,j6 true<|nc p.aa n m]):=by
 have hl:=h.aa;have V0:m<=p.aa.length:=by rw[hm];exact agk
 refine cp func14 W<|cQ 3 [(1,.box true<|bI p),(2,.box true<|.agg [.nil,.nil,.nil]),(4,.i m),(5,j6 true<|List.replicate n [])] True ?_ λ_=>?_;refine ck W W (lW p h) W<|eP W<|adE () U ⟨⟨W,W,.le<|aw.refl _⟩,⟨W,W,.le<|aw.refl _⟩,⟨W,W,.le<|aij SV.i<|by rw[hm];rfl⟩,⟨W,W,?_⟩,U⟩;refine .row ?_;rw[hn,agB];exact mh.rep (x:=.nil) (y:=cH false []) (.le W) n;refine ck W W (tz 0 m (aaQ _) E) W<|r1 W (by simp only[aj,aag,ahN]<;>omega) ?_;refine bW W (xk p h n hn E<|iq.outs hv hn) W<|r1 W (by simp only[aj,aag,ahN]<;>omega) ?_;rw[GQ λu hu=>(hv u hu).k];refine sY [(1,.box true<|bI p),(2,.box true<|.agg [.nil,.nil,.nil]),(4,.i m),(5,j6 true<|FK p.aa n m 0),(6,.strs true<|(cw n p.aa).map qt),(7,.box true<|re ⟨iF p.aa 0,List.replicate m [],iB p.aa 0⟩),(8,fR<|wq p.aa 0),(9,.i 0)]
  ⟨⟨W,W,.le<|aw.refl _⟩,⟨W,W,.le<|aw.refl _⟩,⟨W,W,.le<|aw.refl _⟩,⟨W,W,.row ?_⟩,⟨W,W,.le<|aw.refl _⟩,⟨W,W,.box<|.agg<|.cons (.le W)<|.cons (.row ?_)<|.cons (.le W) .nil⟩,⟨W,W,.le W⟩,⟨W,W,.le<|aw.refl _⟩,U⟩ ?_
 rw[FK,Da,aeE];exact mh.refl _;show mh (List.replicate (m:Int).toNat .nil) (List.map (cH false)<|List.replicate m []);rw[agB,show(m:Int).toNat=m from E];exact mh.rep (x:=.nil) (y:=cH false []) (.le W) m;have G6:∀i,fM p.aa i<=m:=λi=>hm▸CP p.aa i;refine ba (λi:Nat=>[(1,.box true<|bI p),(2,.box true<|.agg [.nil,.nil,.nil]),(4,.i m),(5,j6 true<|FK p.aa n m i),(6,.strs true<|(cw n p.aa).map qt),(7,.box true<|re ⟨iF p.aa i,List.replicate m [],iB p.aa i⟩),(8,fR<|wq p.aa i),(9,.i i)]) (λi=>i<=p.aa.length) (λi=>p.aa.length-i) 0 (aaQ _) ?_;intro i hi;have B:(iF p.aa i).length=fM p.aa i:=by simp[iF]
 have G4:(wq p.aa i).length=i:=by simp[wq]
 refine cm W W ?_ ?_<;>intro h1;have w:i<p.aa.length:=E;have ei:(i:Int).toNat=i:=E;have eg:p.aa.getD i default=p.aa[i]:=az w;have a:=mH w;have P1:=wa p.aa i;have hu:=hv _<|aaZ w;have l:=G6<|i+1;have F4:=hu.out;refine r1 W (by simp only[aj,aag,ei,len,G4,abo,acC]<;>omega) ?_;rw[ei,eg];refine bY W ?_ ?_<;>intro b;have b:p.aa[i].kind=bF:=b;rw[aas b]at a;refine r1 W (by simp only[aj,aag,B]<;>omega) ?_;have V2:=jK ((fM p.aa i:Int)+1) (k:=3)<|fX E;refine cd W (by rw[B];rfl) (vL ((fM p.aa i:Int)+1) E) W ?_;rw[oX];refine k1 W aP (by simp only[aj,aag,len,B,abo,acC,acU]<;>omega) ?_;refine bX W (I1 p.aa[i].k) W<|k1 W aP (by simp only[aj,aag,len,B,acx,abo,acC,acU]<;>omega) ?_;refine TV (us:=[.i (fM p.aa (i+1):Nat),.i m]) W W U ⟨aaf SV.i<|by simp only[acU,B,abo,acC];omega,W,U⟩ (tz (fM p.aa<|i+1) m l E) W ?_;refine k1 W aP (by simp only[aj,aag,len,B,acx,abo,acC,pO]<;>omega) ?_;refine ko (i+1) E E ⟨⟨W,W,.le<|aw.refl _⟩,⟨W,W,.le<|aw.refl _⟩,⟨W,W,.le<|aw.refl _⟩,⟨W,W,.row ?_⟩,⟨W,W,.le<|aw.refl _⟩,⟨W,W,.box<|.agg<|.cons (.le<|aij (SV.strs true) ?_)<|.cons (.le<|aw.refl _)<|.cons (.row ?_) .nil⟩,⟨W,W,.le<|aij (fR) ?_⟩,⟨W,W,.le<|aw.refl _⟩,U⟩;rw[FK,eg,aas b,aeE];exact mh.refl _;rw[iF,iF,a,agO,acB];rfl;rw[iB,eg,aas b,dj,acB];exact mh.refl _;rw[Hl,B];have b:¬p.aa[i].kind=bF:=b;rw[aaq b]at a;refine eP W<|again (i+1) E E ⟨G,G,G,⟨W,aij (j6 true) ?_⟩,G,⟨W,aij (λs=>SV.box true<|re s) ?_⟩,⟨W,aij (fR) ?_⟩,G,U⟩;rw[FK,eg,aaq b];rw[iF,iF,a,iB,eg,aaq b];rfl;rw[Hl,B];have vJ:i=p.aa.length:=E;subst vJ;have S1:=wo p.aa;have H3:=oO n p.aa;have G0:∀q∈cw n p.aa,Sz q 67:=v8 (pM.mono fV) λu hu=>eO (hv u hu).k;refine ck W W (tV p h<|iq.fdd hv) W<|r0 W<|ba (λk:Nat=>[(1,.box true<|bI p),(2,.box true<|.agg [.nil,.nil,.nil]),(4,.i m),(5,j6 true<|gJ p.aa n m k),(6,.strs true<|(cw n p.aa).map qt),(7,.box true<|re ⟨iF p.aa p.aa.length,List.replicate m [],iB p.aa p.aa.length⟩),(8,fR<|wq p.aa p.aa.length),(11,fR<|aA p.aa),(12,.i k)]) (λk=>k<=(aA p.aa).length) (λk=>(aA p.aa).length-k) 0 (aaQ _) ?_;intro k hk;refine cm W W ?_ ?_<;>intro h1;have c:k<(aA p.aa).length:=E;have ek:(k:Int).toNat=k:=E;have F:(aA p.aa).getD k 0=(aA p.aa)[k]:=az c;obtain⟨o1,o2⟩:=fI _<|aaZ c;have a:=ov (n:=n) (m:=m) c;have X:=hR.add k c;have R:=hR.cW k c;have A0:=hR.sh k hk;have A:=jB p.aa n m k;obtain⟨o,eo⟩:∃o,(aA p.aa)[k]=o:=⟨_,W⟩;rw[eo]at F o1 o2 a X R;have v:p.aa.getD o.toNat default∈p.aa:=aX E;unfold mv at a;obtain⟨u,eu⟩:∃u,p.aa.getD o.toNat default=u:=⟨_,W⟩;rw[eu]at v a X R;have hu:=hv _ v;have F4:=hu.out;have P0:=h.unit _ v;refine k1 W aP (by simp only[aj,aag,ek,F]<;>omega) ?_;rw[ek,F,eu];generalize gJ p.aa n m k=sh at*;have C:∀f∈u.ai,(∀t∈sh.getD f.sh.toNat [],Cv (m+1) K t)/\(sh.getD f.sh.toNat []).length<2^30:=λf Z=>by have:=hu.feed f Z;exact A0 _<|aX (d:=[]) E
 refine bY W ?_ ?_<;>intro b;have b:u.kind=kg:=b;rw[aas b]at a;have z:=X b;have W1:=(hu.add b).2.1;refine b9 W (λi:Nat=>[(1,.box true<|bI p),(2,.box true<|.agg [.nil,.nil,.nil]),(4,.i m),(5,j6 true sh),(6,.strs true<|(cw n p.aa).map qt),(7,.box true<|re ⟨iF p.aa p.aa.length,List.replicate m [],iB p.aa p.aa.length⟩),(8,fR<|wq p.aa p.aa.length),(11,fR<|aA p.aa),(12,.i k),
  (13,.box true<|dZ u),(14,.s<|qt (gh sh (cw n p.aa) u i).2),(15,cH false (gh sh (cw n p.aa) u i).1),(16,.i i)])
  (λi=>i<=u.ai.length) (λi=>u.ai.length-i) 0 (aaQ _) ⟨G,G,G,G,G,G,G,G,G,G,⟨W,aij SV.s (fW hu.k).symm⟩,G,G,U⟩ ?_
 intro i hi;have M1:(gh sh (cw n p.aa) u i).1.length<2^30:=by
  cases i with
  |zero=>simp[gh]
  |succ i=>exact(z.sum i E).norm.2
 refine cm W W ?_ ?_<;>intro Y;have w:i<u.ai.length:=E;have ei:(i:Int).toNat=i:=E;have H:u.ai.getD i default=u.ai[i]:=az w;have Z:=hu.feed _<|aaZ w;obtain⟨g1,g2⟩:=C _<|aaZ w;have N:=z.TQ _<|aaZ w;have J:=z.sum i w;have H6:=z.num i hi;have S:gh sh (cw n p.aa) u (i+1)=(AM (gh sh (cw n p.aa) u i).1<|jr (bQ u.ai[i].dU)<|sh.getD u.ai[i].sh.toNat [],(gh sh (cw n p.aa) u i).2-bQ u.ai[i].dU*(cw n p.aa).getD u.ai[i].sh.toNat 0):=by rw[gh,H]
 rw[H]at J;obtain⟨f,ef⟩:∃f,u.ai[i]=f:=⟨_,W⟩;rw[ef]at Z g1 g2 N J S H;have hq:=G0 _<|aX (d:=0)<|show f.sh.toNat<(cw n p.aa).length from E;have l:=nI (bQ f.dU) (sh.getD f.sh.toNat []) (V:=m+1) (K:=K) (L:=67) (eO Z.2.2.1) g1 N E hK E;rw[fW Z.2.2.1]at l;have H2:=dY (bQ f.dU) ((cw n p.aa).getD f.sh.toNat 0) (eO Z.2.2.1) hq E;rw[fW Z.2.2.1]at H2;refine r1 W (by simp only[aj,aag,ei,H,A]<;>omega) ?_;rw[ei,H];refine bX W l W<|eP W<|bX W (mT (gh sh (cw n p.aa) u i).1 (jr (bQ f.dU)<|sh.getD f.sh.toNat []) (V:=m+1) (K:=K) J (by have:=N.norm.2;unfold jr;omega) hK) W ?_;refine k1 W aP (by simp only[aj,aag,acx,H3]<;>omega) ?_;refine cd W (by rw[LH E];rfl) H2 W ?_;refine eP W<|bX W (GN (gh sh (cw n p.aa) u i).2 (bQ f.dU*(cw n p.aa).getD f.sh.toNat 0) H6 ((eO Z.2.2.1).mul hq) E) W<|u6 W<|again (i+1) E E ⟨G,G,G,G,G,G,G,G,G,G,⟨W,aij SV.s<|by rw[S]⟩,⟨W,aij (cH false)<|by rw[S]⟩,G,U⟩;have:i=u.ai.length:=E;subst this;have G5:=z.fin;have K2:(eK (gh sh (cw n p.aa) u u.ai.length).2 m).length<=1:=by unfold eK;split<;>simp
 refine cj W W (uF (gh sh (cw n p.aa) u u.ai.length).2 m E) W<|eP W<|bX W (mT (gh sh (cw n p.aa) u u.ai.length).1 (eK (gh sh (cw n p.aa) u u.ai.length).2 m) (V:=m+1) (K:=K) G5 E hK) W<|u6 W<|ko (k+1) E E ⟨⟨W,W,.le<|aw.refl _⟩,⟨W,W,.le<|aw.refl _⟩,⟨W,W,.le<|aw.refl _⟩,⟨W,W,.row ?_⟩,⟨W,W,.le<|aw.refl _⟩,⟨W,W,.le<|aw.refl _⟩,⟨W,W,.le<|aw.refl _⟩,⟨W,W,.le<|aw.refl _⟩,⟨W,W,.le<|aw.refl _⟩,U⟩;rw[a,aeE];exact mh.refl _;have b:¬u.kind=kg:=b;rw[aaq b]at a;refine cm W W ?_ ?_<;>intro Y;have Y:u.kind=eJ:=Y;rw[aas Y]at a;have z:=R Y;obtain⟨t1,t2,t3⟩:=hu.table Y;have P:Int.toNat 0=0:=W;have D:u.ai.getD 0 default∈u.ai:=aX E;have O:=hu.feed _ D;obtain⟨g1,g2⟩:=C _ D;have l:=nI (bQ (u.ai.getD 0 default).dU) (sh.getD (u.ai.getD 0 default).sh.toNat []) (V:=m+1) (K:=K) (L:=67) (eO O.2.2.1) g1 z.TQ E hK E;rw[fW O.2.2.1]at l;have hX:=z.TQ.norm;refine k1 W aP (by simp only[aj,aag,P,A]<;>omega) ?_;rw[P];refine bX W l W<|u6 W<|loop (λj:Nat=>[(1,.box true<|bI p),(2,.box true<|.agg [.nil,.nil,.nil]),(4,.i m),(5,j6 true sh),(6,.strs true<|(cw n p.aa).map qt),(7,.box true<|re ⟨iF p.aa p.aa.length,List.replicate m [],iB p.aa p.aa.length⟩),(8,fR<|wq p.aa p.aa.length),(11,fR<|aA p.aa),(12,.i k),
  (13,.box true<|dZ u),(18,cH false<|nH sh u),(19,cH false<|j0 m (nH sh u)<|(u.cW.map bQ).drop j),(20,.i<|(j:Int)-1)])
  (λj=>j<=u.cW.length) (λj=>j) u.cW.length (aaU _) ⟨G,G,G,G,G,G,G,G,G,G,G,⟨W,?_⟩,G,U⟩ ?_
 rw[aeB<|by rw[acx];omega];exact W;intro j hj;refine cm W W ?_ ?_<;>intro h4;obtain⟨i,rfl⟩:∃i,j=i+1:=⟨j-1,E⟩;have e1:((i+1:Nat):Int)-1=i:=E;have ei:(i:Int).toNat=i:=E;have hi:i<u.cW.length:=E;have H:u.cW.getD i []=u.cW[i]:=az hi;have N:=z.mul i hi;have J:=z.sum i hi;rw[H]at J;have K0:=hu.cW _<|aaZ hi;have hT:(∀t∈j0 m (nH sh u) ((u.cW.map bQ).drop<|i+1),Cv (m+1) K t)/\(j0 m (nH sh u)<|(u.cW.map bQ).drop<|i+1).length<2^30:=by rcases acX (i+1) u.cW.length with g|g;have G2:=(z.sum (i+1) g).norm;rw[acJ<|by rw[acx];exact g,agl];have e:u.cW.getD (i+1) []=u.cW[i+1]:=az g;rw[e]at G2;exact G2;rw[aeB<|by rw[acx];exact g];exact⟨by simp[j0],by simp[j0]⟩
 have S:j0 m (nH sh u) ((u.cW.map bQ).drop i)=AM (kv (j0 m (nH sh u)<|(u.cW.map bQ).drop<|i+1)<|nH sh u) (eK (bQ u.cW[i]) m):=by rw[acJ<|by rw[acx];exact hi,agl];rfl
 have H1:=uF (bQ u.cW[i]) m E;rw[fW K0]at H1;have K2:(eK (bQ u.cW[i]) m).length<=1:=by unfold eK;split<;>simp
 rw[e1];refine eP W<|bX W (qu (j0 m (nH sh u)<|(u.cW.map bQ).drop<|i+1) (nH sh u) (V:=m+1) (K:=K) (L:=K) (M:=K) hT.1 hX.1 N E (by unfold nH jr;omega) E hK E) W ?_;refine eP W<|cd W (by rw[ei,H];rfl) H1 W ?_;refine eP W<|bX W (mT (kv (j0 m (nH sh u)<|(u.cW.map bQ).drop<|i+1)<|nH sh u) (eK (bQ u.cW[i]) m) (V:=m+1) (K:=K) J (by have:=N.norm.2;unfold kv;omega) hK) W ?_;refine u6 W<|again i E E ⟨G,G,G,G,G,G,G,G,G,G,G,⟨W,aij (cH false) S.symm⟩,G,U⟩;have:j=0:=E;subst this;rw[aeW];refine u6 W<|ko (k+1) E E ⟨⟨W,W,.le<|aw.refl _⟩,⟨W,W,.le<|aw.refl _⟩,⟨W,W,.le<|aw.refl _⟩,⟨W,W,.row ?_⟩,⟨W,W,.le<|aw.refl _⟩,⟨W,W,.le<|aw.refl _⟩,⟨W,W,.le<|aw.refl _⟩,⟨W,W,.le<|aw.refl _⟩,⟨W,W,.le<|aw.refl _⟩,U⟩;rw[a,aeE];exact mh.refl _;have Y:¬u.kind=eJ:=Y;rw[aaq Y]at a;refine eP W<|again (k+1) E E ⟨G,G,G,⟨W,aij (j6 true) a.symm⟩,G,G,G,G,G,U⟩;have:k=(aA p.aa).length:=E;subst this;have A:=jB p.aa n m (aA p.aa).length;have A0:=hR.sh _<|aaU _;have E2:=hR.adn;have H4:=hR.rt;have G1:gJ p.aa n m (aA p.aa).length=nc p.aa n m:=W;rw[G1]at A A0⊢;refine r0 W<|ba (λk:Nat=>[(1,.box true<|bI p),(2,.box true<|.agg [.nil,.nil,.nil]),(5,j6 true<|nc p.aa n m),(7,.box true<|re ⟨iF p.aa p.aa.length,fC p.aa n m k,iB p.aa p.aa.length⟩),(8,fR<|wq p.aa p.aa.length),(11,fR<|aA p.aa),(21,.i k)]) (λk=>k<=(aA p.aa).length) (λk=>(aA p.aa).length-k) 0 (aaQ _) ?_;intro k hk;refine cm W W ?_ ?_<;>intro h1;have c:k<(aA p.aa).length:=E;have ek:(k:Int).toNat=k:=E;have F:(aA p.aa).getD k 0=(aA p.aa)[k]:=az c;obtain⟨o1,o2⟩:=fI _<|aaZ c;have a:=wi (n:=n) (m:=m) c;have F0:=E2 k c;have S0:=H4 k hk;have H5:=jo p.aa n m k;obtain⟨o,eo⟩:∃o,(aA p.aa)[k]=o:=⟨_,W⟩;rw[eo]at F o1 o2 a F0;have v:p.aa.getD o.toNat default∈p.aa:=aX E;unfold pP at a;have G3:(p.aa.getD o.toNat default).kind=bF->fM p.aa o.toNat<m:=by intro g;have b:=mH (us:=p.aa) (i:=o.toNat) E;rw[az<|show o.toNat<p.aa.length from E]at g;rw[aas g]at b;have:=G6<|o.toNat+1;omega
 have T:(wq p.aa p.aa.length).getD o.toNat 0=(fM p.aa o.toNat:Int):=by rw[wq,acO,afE,List.getElem?_range E];rfl
 have F1:(wq p.aa p.aa.length).length=p.aa.length:=by simp[wq]
 obtain⟨u,eu⟩:∃u,p.aa.getD o.toNat default=u:=⟨_,W⟩;rw[eu]at v a F0 G3;have hu:=hv _ v;have F4:=hu.out;refine u6 W ?_;rw[ek,F,eu];generalize fC p.aa n m k=E1 at*;generalize nc p.aa n m=sh at*;have C:∀f∈u.ai,(∀t∈sh.getD f.sh.toNat [],Cv (m+1) K t)/\(sh.getD f.sh.toNat []).length<2^30:=λf Z=>by have:=hu.feed f Z;exact A0 _<|aX (d:=[]) E
 refine bY W ?_ ?_<;>intro b;have b:u.kind=bF:=b;rw[aas b]at a;have z:=F0 b;have M2:=G3 b;have X2:=(hu.int b).1;have P:Int.toNat 0=0:=W;have F3:Int.toNat 1=1:=W;have D:u.ai.getD 0 default∈u.ai:=aX E;have O:=hu.feed _ D;have B0:u.ai.getD 1 default∈u.ai:=aX E;have F2:=hu.feed _ B0;obtain⟨g1,g2⟩:=C _ D;obtain⟨g3,g4⟩:=C _ B0;have l:=dY (bQ (u.ai.getD 0 default).dU) (bQ (u.ai.getD 1 default).dU) (eO O.2.2.1) (eO F2.2.2.1) E;rw[fW O.2.2.1,fW F2.2.2.1]at l;have V1:(fM p.aa o.toNat:Int).toNat=fM p.aa o.toNat:=E;refine u6 W ?_;rw[P,F3];refine bX W l W<|k1 W aP (by simp only[aj,aag,P,F3,ek,F,T,F1,A,H5]<;>omega) ?_;rw[ek,F,P,F3,T];refine cqd 0 W W (Kd E1 (sh.getD (u.ai.getD 1 default).sh.toNat []) (V:=m+1) (K:=K) (L:=K) g3 E z.al E E E hK E) W<|eP W<|bX W (qu (sh.getD (u.ai.getD 0 default).sh.toNat []) (kn E1<|sh.getD (u.ai.getD 1 default).sh.toNat []) (V:=m+1) (K:=K) (L:=K) (M:=K) g1 z.along.1 z.mul E (by have:=z.along.2;omega) E hK E) W ?_;refine eP W<|bX W (nI (bQ (u.ai.getD 0 default).dU*bQ (u.ai.getD 1 default).dU) (kv (sh.getD (u.ai.getD 0 default).sh.toNat [])<|kn E1<|sh.getD (u.ai.getD 1 default).sh.toNat []) (V:=m+1) (K:=K) (L:=134) ((eO O.2.2.1).mul<|eO F2.2.2.1) z.mul.norm.1 z.TQ (by have:=z.mul.norm.2;unfold kv;omega) hK E) W ?_;refine u6 W<|ko (k+1) E E ⟨⟨W,W,.le<|aw.refl _⟩,⟨W,W,.le<|aw.refl _⟩,⟨W,W,.le<|aw.refl _⟩,⟨W,W,.box<|.agg<|.cons (.le<|aw.refl _)<|.cons (.row ?_)<|.cons (.le<|aw.refl _) .nil⟩,⟨W,W,.le<|aw.refl _⟩,⟨W,W,.le<|aw.refl _⟩,⟨W,W,.le<|aw.refl _⟩,U⟩;dsimp only;rw[a,aeE];exact mh.refl _;have b:¬u.kind=bF:=b;rw[aaq b]at a;refine eP W<|again (k+1) E E ⟨G,G,G,⟨W,aij (λr=>SV.box true<|re ⟨iF p.aa p.aa.length,r,iB p.aa p.aa.length⟩) a.symm⟩,G,G,G,U⟩;have:k=(aA p.aa).length:=E;subst this;refine cg W W
end Go.Ai
section
namespace Go.Ai
open Go.Proofs Go.RowKit Go.Proofs.Tryz
def mR{p q:Rat}:wW p q<=0↔p<=q:=by
 have a:(p-q).num<=0↔0<=(-(p-q)).num:=by rw[agY];omega
 unfold wW;rw[Int.sign_nonpos_iff,a,afP];constructor<;>grind
def K4(q:Rat)(n m:Nat):q^(n+m)=q^n*q^m:=by grind
def Sz.pow{q:Rat}{K:Nat}(h:Sz q K):∀n,Sz (q^n) (K*n+1)
 |0=>by exact⟨by simp[gX],by simp[gX]⟩
 |n+1=>by
  have:=(Sz.pow h n).mul h
  grind
def Hf(q:Rat)(n:Nat){K:Nat}(h:Sz q K)(hn:n<2^40)(u:2*(K*(2*n)+1)<2^34):ab 95 [.s<|qt q,.i n] (.s<|qt<|q^n):=by
 refine cp func95 W<|cm W W (λf=>aaF f E) λ_=>?_;refine r0 W<|pV (λ(k d e:Nat)=>[(0,.s<|qt<|q^d),(1,.i k),(5,.s<|qt<|q^e)]) (λk d e=>k<=n/\e+d*k=n/\(k=0\/d<=n)) (λk _ _=>k) n 1 0 ⟨aaU _,E,E⟩
  ⟨⟨W,aij SV.s I⟩,G,⟨W,aij SV.s<|by rw[Rat.pow_zero,IW]⟩,U⟩ ?_
 rintro k d e⟨r,he,t⟩;refine cm W W ?_ ?_<;>intro f;have v:0<k:=E;have p:K*d+1<=K*(2*n)+1:=afJ (aey _ E) 1;have o:K*e+1<=K*(2*n)+1:=afJ (aey _ E) 1;have a:=(h.pow d).mono p;have l:=(h.pow e).mono o;have m:k=2*(k/2)+k%2:=E;have b:d*k=2*d*(k/2)+d*(k%2):=by grind
 have j:q^d*q^d=q^(2*d):=by rw[<-K4];congr 1;omega
 refine r1 W bh<|bY W ?_ ?_<;>intro c;have c:k%2=1:=by omega
 rw[c,Nat.mul_one]at b;refine ck W W (dY (q^e) (q^d) l a E) W<|ck W W (dY (q^d) (q^d) a a E) W<|r1 W bh<|again (k/2,2*d,e+d) (by dsimp only;omega) ⟨by dsimp only;omega,by dsimp only;omega,?_⟩ ⟨⟨W,aij SV.s<|by rw[j]⟩,G,⟨W,aij SV.s<|by rw[K4]⟩,U⟩;dsimp only;rcases aeg (k/2)with g|g;exact .inl g;have:2*d<=2*d*(k/2):=ahJ _ g;exact .inr E;have c:k%2=0:=by omega
 rw[c,Nat.mul_zero]at b;refine ck W W (dY (q^d) (q^d) a a E) W<|r1 W bh<|again (k/2,2*d,e) (by dsimp only;omega) ⟨by dsimp only;omega,by dsimp only;omega,?_⟩ ⟨⟨W,aij SV.s<|by rw[j]⟩,G,G,U⟩;dsimp only;rcases aeg (k/2)with g|g;exact .inl g;have:2*d<=2*d*(k/2):=ahJ _ g;exact .inr E;have:k=0:=E;subst this;refine b7 W W<|aij SV.s fP
def jx(n:Int):Rat:=if n<0 then((2:Rat)^(-n).toNat)⁻¹ else(2:Rat)^n.toNat
def xK(n:Nat):(0:Rat)<(2:Rat)^n:=by
 induction n with
 |zero=>rfl
 |succ n a=>rw[ahn];grind
def uT(n:Int):0<jx n:=by unfold jx;split;exact ag1.2<|xK _;exact xK _
def U3(n:Int):jx (n+1)=jx n*2:=by
 unfold jx;rcases ahH n (-1)with h|h|h;rw[show(-n).toNat=(-(n+1)).toNat+1 from E]
 grind
 subst h
 grind
 rw[aaq E,aaq E,show(n+1).toNat=n.toNat+1 from E,ahn]
def lh(n:Int)(k:Nat):jx (n+k)=jx n*(2:Rat)^k:=by
 induction k with
 |zero=>rw[Rat.pow_zero];simp
 |succ k a=>rw[show n+((k+1:Nat):Int)=n+k+1 from E,U3];grind
def Lr(n:Nat):(1:Rat)<=(2:Rat)^n:=by
 induction n with
 |zero=>rfl
 |succ n a=>rw[ahn];grind
def oY{m n:Int}(h:m<=n):jx m<=jx n:=by
 obtain⟨k,rfl⟩:∃k:Nat,n=m+k:=⟨(n-m).toNat,E⟩;rw[lh];have b:=Lr k;have a:=uT m;have:=agC b<|afr a
 grind
def qC(a:Rat)(e:Int):Prop:=jx e<=a/\¬jx (e+1)<=a
def F5{a:Rat}{e f:Int}(h:qC a e)(g:qC a f):e=f:=by rcases ahH e f with k|k|k;exact aaF (agD (oY E) g.1) h.2;exact k;exact aaF (agD (oY E) h.1) g.2
open Classical in
def yw(a:Rat):Int:=if h:∃e,qC a e then h.choose else 0
def kz{a:Rat}{e:Int}(h:qC a e):yw a=e:=by unfold yw;rw[dif_pos ⟨e,h⟩];exact F5 (Exists.choose_spec (⟨e,h⟩:∃e,qC a e)) h
def C4:Sz 2 1:=⟨by rw[show(2:Rat).num.natAbs=2 from W,nw (f:=2) fV fV];decide,by rw[show(2:Rat).den=1 from W,gX];decide⟩
def Sz.jx(n:Int):Sz (jx n) (n.natAbs+2):=by
 unfold Go.Ai.jx;split;have:=(C4.pow (-n).toNat).inv
 grind
 exact(C4.pow n.toNat).mono E
def UZ:qt 2=[50]:=by have:=oX 2;rw[show((2:Int):Rat)=2 from W]at this;rw[this];unfold bS;rw[bC fV];show decl 0 0++[TU 2]=[50];rw[c7];decide
def tR(n:Int)(h:n.natAbs<2^30):ab 25 [.i n] (.s<|qt<|jx n):=by
 refine cp func25 W<|cm W W ?_ ?_<;>intro b;have e:(0:Int)-n=((-n).toNat:Nat):=E;have a:=Hf 2 (-n).toNat C4 E E;rw[UZ]at a;refine r1 W bd<|cl W (by rw[e];rfl) a W ?_;refine bW W (qP ((2:Rat)^(-n).toNat) (C4.pow _) E (by have:=xK (-n).toNat;grind)) W ?_;refine b7 W W<|aij SV.s<|by unfold jx;rw[aas b]
 have e:n=(n.toNat:Nat):=E;have a:=Hf 2 n.toNat C4 E E;rw[UZ]at a;refine r0 W<|Gm (us:=[.s [50],.i (n.toNat:Nat)]) W W U ⟨W,aaf SV.i e,U⟩ a W<|b7 W W<|aij SV.s<|by unfold jx;rw[aaq b]
def On{q:Rat}(h:0<q):q<=(q.num:Rat):=by
 have b:q*(q.den:Rat)=(q.num:Rat):=by
  have:=ah2 q;rw[ahK,agA]at this
  grind
 have a:(1:Rat)<=(q.den:Rat):=by
  have:=q.den_nz;have:1<=q.den:=E
  exact_mod_cast this
 have:=agC a<|afr h
 grind
def Pm{n k:Nat}(h:(ah n).length<=k):n<2^(30*k):=by have d:=cu n;have c:(1000000000:Nat)^(ah n).length<=1000000000^k:=adi fV h;have b:(n:Int)<((1000000000^(ah n).length:Nat):Int):=fP;have a:(1000000000:Nat)^k<=(2^30)^k:=agj fV k;rw[<-agh]at a;omega
def sx{q:Rat}{K:Nat}(h:0<q)(hs:Sz q K):q<jx ((30*K:Nat):Int):=by
 have e:=On h;have f:=afP.2<|afr h;have a:=Pm hs.1;have d:(q.num:Rat)=((q.num.natAbs:Nat):Rat):=by rw[<-agA];congr 1;omega
 have c:((q.num.natAbs:Nat):Rat)<((2^(30*K):Nat):Rat):=by exact_mod_cast a
 have b:jx ((30*K:Nat):Int)=(2:Rat)^(30*K):=fQ
 grind
def Zd(n:Int):(jx n)⁻¹ =jx (-n):=by
 unfold jx;rcases ahH n 0 with h|h|h
 grind
 subst h;grind
 grind
def xH{q:Rat}{K:Nat}(h:0<q)(hs:Sz q K):jx (-((30*(K+1):Nat):Int))<q:=by
 have d:=sx (ag1.2 h) hs.inv;rw[<-Zd];have c:=uT ((30*(K+1):Nat):Int);have j:=Rat.mul_inv_cancel q (by grind);have i:jx ((30*(K+1):Nat):Int)*(jx ((30*(K+1):Nat):Int))⁻¹ =1:=Rat.mul_inv_cancel _ (by grind);have b:=ag1.2 c;generalize jx ((30*(K+1):Nat):Int)=x at*;generalize x⁻¹ =y at*;generalize q⁻¹ =r at*;have a:=Rat.mul_pos b h;have g:=Rat.mul_lt_mul_of_pos_left d a;have f:(y*q)*r=y:=by grind
 have e:(y*q)*x=q:=by grind
 simp_all
def MI{q:Rat}{K:Nat}{e:Int}(h:0<q)(hs:Sz q K)(he:qC q e): -(30*(K+1:Int))-1<=e/\e<=30*K:=by
 have b:=sx h hs;have a:=xH h hs;obtain⟨g1,g2⟩:=he;constructor;rcases Decidable.em (e+1< -((30*(K+1):Nat):Int))with g|g;exact aaF (agD (oY<|adY g)<|afr a) g2;omega;rcases Decidable.em (((30*K:Nat):Int)<e)with g|g;have:=oY<|adY g
 grind
 omega
def uv(a:Rat){K:Nat}(j:0<a)(hs:Sz a K)(u:K<2^20):(∃e,qC a e)/\ab 311 [.s<|qt a] (.i<|yw a):=by
 have q:=sx j hs;have k:=xH j hs;have d:∀e:Int,jx e<=a->e<30*K:=by intro e he;rcases Decidable.em (e<30*K)with g|g;exact g;exact aaF (agD (oY<|show((30*K:Nat):Int)<=e from E) he)<|ag2.2 q
 have f:∀e:Int,¬jx e<=a-> -((30*(K+1):Nat):Int)<e:=by intro e he;rcases Decidable.em (-((30*(K+1):Nat):Int)<e)with g|g;exact g;exact aaF (agD (oY E)<|afr k) he
 have c:∃e,qC a e:=by
  have:∀(n:Nat)(e:Int),jx e<=a->30*(K:Int)-e<=n->∃e,qC a e:=by
   intro n
   induction n with
   |zero=>grind
   |succ n t=>
    intro e he hn;by_cases g:jx (e+1)<=a
    grind
    exact⟨e,he,g⟩
  exact this (30*(K:Int)+((30*(K+1):Nat):Int)).toNat _ (afr k) E
 refine⟨c,?_⟩;obtain⟨b,m⟩:=c;have l:=kz m;refine cp func311 W<|Cp 3 (λe:Int=>[(0,.s<|qt a),(3,.i e)]) (λe=>0<=e/\e<=30*K/\¬jx e<=a) ?_ ?_;refine r0 W<|ba (λe:Nat=>[(0,.s<|qt a),(3,.i e)]) (λe=>(e:Int)<=30*K) (λe=>30*K-e) 0 E ?_;intro e he;refine ck W W (tR e E) W<|ck W W (ru (jx e) a (Sz.jx e) hs E) W<|cm W W ?_ ?_<;>intro h;have h:=d _<|mR.1 h;refine r1 W bh<|aM (e+1) E;have h:¬jx e<=a:=λg=>h<|mR.2 g;refine r0 W<|fL (e:Int) ⟨E,he,h⟩;rintro r⟨v,p,o⟩;refine r0 W<|ba (λe:Int=>[(0,.s<|qt a),(3,.i e)]) (λe=>¬jx (e+1)<=a/\e<=30*K/\ -((30*(K+1):Nat):Int)<=e) (λe=>(e+((30*(K+1):Nat):Int)).toNat) r ⟨λg=>o<|agD (oY E) g,p,E⟩ ?_;rintro e⟨g1,g2,w⟩;refine ck W W (tR e E) W<|ck W W (ru (jx e) a (Sz.jx e) hs E) W<|cm W W ?_ ?_<;>intro h;have h:¬jx e<=a:=λg=>by have:=mR.2 g;omega
 have:=f e h;refine r1 W bh<|aM (e-1) ⟨fP,E,E⟩;have h:jx e<=a:=mR.1 E;refine b7 W W<|cn<|(kz ⟨h,g1⟩).symm
end Go.Ai
end
namespace Go.Ai
open Go.Proofs Go.RowKit Go.Proofs.Tryz
section
variable{n:Int}{K:Nat}{p q:Rat}{s:jh}
def qf(q:Rat):0<=nD q:=by
 unfold nD;split;rename_i h;have:0<=(-q).num:=by rw[agY];omega
 exact afP.1 this;simp_all
def Sz.nD(h:Sz q K):Sz (nD q) K:=by unfold Go.Ai.nD;split;exact h.neg;exact h
def Sz.qx(h:Sz p K)(g:Sz q K):Sz (qx p q) K:=by unfold Go.Ai.qx;grind
def LG(h:0<=p)(g:0<=q):0<=qx p q:=by unfold qx;grind
def nL(a:Rat)(jI:Int):Int:=if a=0 then 40 else min 40 (yw<|jx jI/a)
def DX{a:Rat}(h:0<=a)(b:a≠0)(jI:Int):0<jx jI/a:=by
 refine Rat.mul_pos (uT _)<|ag1.2 ?_
 grind
def LO(a:Rat)(jI:Int)(h:0<=a)(hs:Sz a K)(hm:0<=jI/\jI<=40)(d:K<=1000):ab 241 [.s<|qt a,.i jI] (.i<|nL a jI)/\ -40000<=nL a jI/\nL a jI<=40:=by
 have c:a≠0->Sz (jx jI/a) (42+K+1):=λf=>((Sz.jx jI).mono E).div hs;constructor;refine cp func241 W<|ck W W (oc a) W<|nS W W W ?_ ?_<;>intro b;have b:a=0:=by simpa using b
 refine b7 W W<|aij SV.i<|by unfold nL;rw[aas b]
 have b:¬a=0:=by simpa using b
 refine ck W W (tR jI E) W<|ck W W (Tk (jx jI) a (Sz.jx jI) hs E b) W<|bW W (uv (jx jI/a) (DX h b jI) (c b) E).2 W<|b7 W W<|cn ?_;unfold nL;rw[aaq b];rfl;unfold nL;split;omega;rename_i b;obtain⟨e,he⟩:=(uv (jx jI/a) (DX h b jI) (c b) E).1;have:=MI (DX h b jI) (c b) he;rw[kz he];omega
def SpV(s:jh):Prop:=aQ s.lo=0/\aQ s.hi=0
def Kn(s:jh):Rat:=qx (nD<|bQ s.lo)<|nD<|bQ s.hi
def VD(h:SpV s):Sz (Kn s) 67:=(eO h.1).nD.qx (eO h.2).nD
def DY(s:jh):0<=Kn s:=LG (qf _)<|qf _
def FY(s:jh)(h:SpV s):ab 242 [fA s] (.s<|qt<|Kn s):=by have b:=rD (bQ s.lo)<|(eO h.1).tf fV;have a:=rD (bQ s.hi)<|(eO h.2).tf fV;rw[fW h.1]at b;rw[fW h.2]at a;refine cp func242 W<|cj W W b W<|cj W W a W<|bX W (pc (nD<|bQ s.lo) (nD<|bQ s.hi) (eO h.1).nD (eO h.2).nD fV) W<|k0 W aP<|bV W
structure kp where
 c:Int
 d:Int
 s:Int
 g:Int
def iw(b:kp):SV:=.agg [.i b.c,.i b.d,.i b.s,.i b.g]
def Gs(b:kp):L Int:=[b.c,b.d,b.s,b.g]
def wX(b:kp):Int:=aG (λx:Int=>if x<0\/40<x then 3 else 0)<|Gs b
structure TO(b:kp):Prop where
 c:0<=b.c/\b.c<=40
 d:0<=b.d/\b.d<=40
 s:0<=b.s/\b.s<=40
 g:0<=b.g/\b.g<=40
def BW{b:kp}:wX b=0↔TO b:=by unfold wX Gs;rw[bO];simp;exact⟨λ⟨e,d,c,a⟩=>⟨e,d,c,a⟩,λ⟨e,d,c,a⟩=>⟨e,d,c,a⟩⟩
def rW(n:Int)(rs:L jh):Int:=if(rs.length:Int)≠n then 2 else aG dQ rs
def A7(h:dQ s=0):SpV s:=by unfold dQ at h;split at h;contradiction;rename_i b;split at h;contradiction;rename_i a;exact⟨by simpa using b,by simpa using a⟩
structure RgV(n:Int)(rs:List jh):Prop where
 len:(rs.length:Int)=n
 val:∀s∈rs,SpV s
def IU{rs:L jh}(h:rW n rs=0):RgV n rs:=by unfold rW at h;split at h;cases h;rename_i a;exact⟨by simpa using a,λs hs=>A7<|bO.1 h s hs⟩
def Ye(rs:L jh)(b:kp)(s:Nat):Int:=nL (Kn<|rs.getD s default) b.s
def Mc(rs:L jh)(f:Kk):Rat:=nD<|bQ f.dU*Kn (rs.getD f.sh.toNat default)
def Ac(rs:L jh)(b:kp)(u:bN)(i:Nat):Int:=nL (Mc rs<|u.ai.getD i default)<|if u.kind=bF/\i=0 then b.d else b.s
def S8(rs:L jh)(b:kp)(u:bN)(i:Nat)(hu:iq n u)(hi:i<u.ai.length)(l:RgV n rs)(hl:rs.length<2^40)(v:u.ai.length<2^40)(f:TO b):
 ab 160 [aib rs,iw b,dZ u,.i i] (.i<|Ac rs b u i)/\ -40000<=Ac rs b u i/\Ac rs b u i<=40:=by
 have k:=hu.feed _<|aX (d:=default) hi;have t:=l.len;have hm:=l.val _<|aX (d:=default)<|show(u.ai.getD i default).sh.toNat<rs.length from E;have c:Sz (bQ (u.ai.getD i default).dU*Kn (rs.getD (u.ai.getD i default).sh.toNat default)) (67+67):=(eO k.2.2.1).mul<|VD hm;have w:0<=Mc rs (u.ai.getD i default):=qf _;have hs:Sz (Mc rs<|u.ai.getD i default) (67+67):=c.nD;have a:=dY (bQ (u.ai.getD i default).dU) (Kn<|rs.getD (u.ai.getD i default).sh.toNat default) (eO k.2.2.1) (VD hm) fV;rw[fW k.2.2.1]at a;have j:∀m:Int,0<=m/\m<=40->ab 241 [.s<|qt<|Mc rs<|u.ai.getD i default,.i m] (.i<|nL (Mc rs<|u.ai.getD i default) m)/\ -40000<=nL (Mc rs<|u.ai.getD i default) m/\nL (Mc rs<|u.ai.getD i default) m<=40:=λm hm=>LO (Mc rs<|u.ai.getD i default) m w hs hm fV;have e:0<=(if u.kind=bF/\i=0 then b.d else b.s)/\(if u.kind=bF/\i=0 then b.d else b.s)<=40:=by split;exact f.d;exact f.s
 refine⟨?_,(j _ e).2⟩;have r:(i:Int).toNat=i:=E;refine cp func160 W<|r1 W (by simp only[aj,aag,r]<;>omega) ?_;refine bX W (FY (rs.getD (u.ai.getD i default).sh.toNat default) hm) W<|r1 W (by simp[aj,aag,r]<;>omega) ?_;refine bX W a W<|cj W W (rD (bQ (u.ai.getD i default).dU*Kn (rs.getD (u.ai.getD i default).sh.toNat default))<|c.tf fV) W<|k0 W aP<|aF 31 W ?_ ?_<;>intro h;have h:u.kind=bF:=h;refine cm W W ?_ ?_<;>intro o;have hc:u.kind=bF/\i=0:=⟨h,E⟩;refine ck W W (j b.d f.d).1 W<|b7 W W<|aij SV.i<|by unfold Ac;rw[aas hc]
 have hc:¬(u.kind=bF/\i=0):=λg=>o E;refine ck W W (j b.s f.s).1 W<|b7 W W<|aij SV.i<|by unfold Ac;rw[aaq hc]
 have hc:¬(u.kind=bF/\i=0):=λg=>h g.1;refine ck W W (j b.s f.s).1 W<|b7 W W<|aij SV.i<|by unfold Ac;rw[aaq hc]
end
structure FH where
 less:Int
 aa6:Int
 jI:Int
 deriving Inhabited
def Co(c:FH):SV:=.agg [.i c.less,.i c.aa6,.i c.jI]
abbrev aih:=SV.bc true 3 default Co
def WQ(rs:L jh)(b:kp)(s:Nat):L FH:=[⟨s,-1,Ye rs b s⟩,⟨-1,s,40⟩]
def Pz(rs:L jh)(b:kp)(u:bN):L FH:=
 [⟨-1,-1,Ac rs b u 0+40⟩,⟨(u.ai.getD 0 default).sh,-1,Ac rs b u 0+b.g⟩,⟨-1,(u.ai.getD 0 default).sh,b.g-Ac rs b u 0⟩,⟨u.out,-1,Ac rs b u 1+Ac rs b u 0-b.c⟩,
  ⟨-1,u.out,40+b.c-Ac rs b u 0⟩,⟨u.out,(u.ai.getD 1 default).sh,b.g+Ac rs b u 0-b.c⟩,⟨(u.ai.getD 1 default).sh,u.out,b.g-Ac rs b u 0+b.c⟩]
def Nj(rs:L jh)(b:kp)(u:bN)(k:Nat):L FH:=[⟨u.out,-1,Ac rs b u k⟩,⟨u.out,(u.ai.getD k default).sh,b.g⟩,⟨(u.ai.getD k default).sh,u.out,b.g⟩]
def WO(n:Int)(rs:L jh)(b:kp)(u:bN):L FH:=[⟨n,-1,Ac rs b u 0⟩,⟨-1,n,40⟩,⟨n,(u.ai.getD 0 default).sh,b.g⟩,⟨(u.ai.getD 0 default).sh,n,b.g⟩]
def Ni(n:Int)(rs:L jh)(b:kp)(u:bN):L FH:=if u.kind=bF then Pz rs b u else if u.kind=kg then(List.range u.ai.length).flatMap (Nj rs b u)else if u.kind=eJ then WO n rs b u else[]
def Gl(us:L bN)(i:Nat):Nat:=(us.take i).countP λu=>decide (u.kind=eJ)
def Tt{us:L bN}{i:Nat}(h:i<us.length):Gl us (i+1)=Gl us i+if us[i].kind=eJ then 1 else 0:=by unfold Gl;rw[ace h,ag0];simp
def ZG(us:L bN)(i:Nat):Gl us i<=i:=acI agk (by simp;omega)
def E4(rs:L jh)(b:kp)(s:Nat):L FH:=(List.range s).flatMap<|WQ rs b
def yN(n:Nat)(us:L bN)(rs:L jh)(b:kp)(i:Nat):L FH:=E4 rs b n++(List.range i).flatMap λj=>Ni ((n+Gl us j:Nat):Int) rs b<|us.getD j default
def AD(n:Nat)(us:L bN)(rs:L jh)(b:kp):L FH:=yN n us rs b us.length
def mO{α:Type}(f:Nat->L α)(i:Nat):(List.range<|i+1).flatMap f=(List.range i).flatMap f++f i:=by rw[agO];simp
def iK{α:Type}{f:Nat->L α}{c:Nat}(h:∀i,(f i).length<=c):∀n,((List.range n).flatMap f).length<=n*c
 |0=>I
 |n+1=>by have:=iK h n;have:=h n;rw[mO,acU,ahk];omega
def E3(n:Nat)(us:L bN)(rs:L jh)(b:kp)(i:Nat):yN n us rs b (i+1)=yN n us rs b i++Ni ((n+Gl us i:Nat):Int) rs b (us.getD i default):=by unfold yN;rw[mO,acT]
def Fk:Bool->Bool->Bool
 |true,b=>b
 |false,true=>false
 |false,false=>true
def AG{a b:Bool}(h:Fk a b=true):a=b:=by cases a<;>cases b<;>simp_all[Fk]
def aau:Int->Int->Bool
 |.ofNat a,.ofNat b=>Nat.beq a b
 |.negSucc a,.negSucc b=>Nat.beq a b
 |_,_=>false
def VU{a b:Int}(h:aau a b=true):a=b:=by
 cases a<;>cases b<;>first
  |(rw[ac2 h])
  |cases h
def zu:cq->cq->Bool
 |[],[]=>true
 |a::x,b::y=>match Nat.beq a.toNat b.toNat with
  |true=>zu x y
  |false=>false
 |_,_=>false
def GO:∀{a b:cq},zu a b=true->a=b
 |[],[],_=>rfl
 |[],_::_,h=>by simp[zu]at h
 |_::_,[],h=>by simp[zu]at h
 |a::x,b::y,h=>by unfold zu at h;split at h;rename_i e;rw[GO h,agW.1<|ac2 e];cases h
def T8:Value->Value->Bool
 |.pointer none,.pointer none=>true
 |.map none,.map none=>true
 |.nilFunc,.nilFunc=>true
 |.nilIface,.nilIface=>true
 |_,_=>false
def T7{a b:Value}(h:T8 a b=true):a=b:=by
 unfold T8 at h
 grind
def can:SV->SV
 |.eI _ []=>.nil
 |.eI k (x::xs)=>.row false 1 ((x::xs).map<|.n k)
 |.ints k o xs=>.row o 1 (xs.map<|.n k)
 |.strs o xs=>.row o 1 (xs.map .s)
 |.cR o xs=>.row o 1 (xs.map .b)
 |.bc o sz _ e xs=>.row o sz (xs.map e)
 |.u x=>.b x
 |x=>x
def Rn(x:SV):(can x).den=x.den:=by
 cases x<;>try rfl
 case eI k a=>cases a<;>simp[can,SV.den,flm,szm,fl,cJ]
 all_goals simp[can,SV.den,cJ]
def allEq(f:SV->SV->Bool):L SV->L SV->Bool
 |[],[]=>true
 |x::xs,y::ys=>match f x y with
  |true=>allEq f xs ys
  |false=>false
 |_,_=>false
def ach(f:SV->SV->Bool):SV->SV->Bool
 |.n k a,.n i b=>dt (uj k i) (aau a b)
 |.b a,.b b=>Fk a b
 |.s a,.s b=>zu a b
 |.c a,.c b=>T8 a b
 |.nil,.nil=>true
 |.row o sz xs,.row o' h ys=>dt (Fk o o') (dt (Nat.beq sz h)<|allEq f xs ys)
 |.agg xs,.agg ys=>allEq f xs ys
 |.bU xs,.bU ys=>allEq f xs ys
 |.box o x,.box o' y=>dt (Fk o o') (f x y)
 |.fn (.func g) xs ys,.fn (.func j) e d=>dt (Nat.beq g j) (dt (allEq f xs e)<|allEq f ys d)
 |_,_=>false
def Rb:Nat->SV->SV->Bool
 |0,_,_=>false
 |n+1,x,y=>ach (Rb n) (can x)<|can y
def kP{f:SV->SV->Bool}(a:∀x y,f x y=true->x.den=y.den):∀{xs ys:L SV},allEq f xs ys=true->aB xs=aB ys
 |[],[],_=>rfl
 |[],_::_,h=>by simp[allEq]at h
 |_::_,[],h=>by simp[allEq]at h
 |x::xs,y::ys,h=>by unfold allEq at h;split at h;rename_i e;simp[aB,a _ _ e,kP a h];cases h
def WS{f:SV->SV->Bool}(a:∀x y,f x y=true->x.den=y.den){x y:SV}(h:ach f x y=true):x.den=y.den:=by unfold ach at h;split at h;rw[aW]at h;rw[oA h.1,VU h.2];rw[AG h];rw[GO h];rw[T7 h];rfl;rw[aW,aW]at h;simp[SV.den,AG h.1,ac2 h.2.1,kP a h.2.2];simp[SV.den,kP a h];simp[SV.den,kP a h];rw[aW]at h;simp[SV.den,AG h.1,a _ _ h.2];rw[aW,aW]at h;simp[SV.den,ac2 h.1,kP a h.2.1,kP a h.2.2];cases h
def HZ:∀{n:Nat}{x y:SV},Rb n x y=true->x.den=y.den
 |0,_,_,h=>by simp[Rb]at h
 |n+1,x,y,h=>by rw[<-Rn x,<-Rn y];exact WS (λ_ _ h=>HZ h) h
def aN.shr{P:Program}{f:FuncId}{asx:L SV}{r:SV}(h:aN P f asx r):aN P f asx r.cC:=by
 intro w S g j i hc;intro rd o a next c hn
 refine h w S g j i hc rd o a next c λv e⟨n,F,m,l,t,s,k,q,p⟩=>hn v e ?_
 refine⟨λb=>n b\/b∈F,[],m,λb d=>.inl<|l b d,λb d=>?_,λb d=>?_,?_,acP,λb d=>by simp at d⟩
 grind
 grind
 rw[<-gP];exact Rel.share (λb d=>.inl d) _ k λb d=>.inr d
abbrev AR:=FuncId×L SV×SV
def DT:List AR->rF
 |[],_,_=>none
 |(b,a,r)::L,g,asx=>match Nat.beq g b with
  |true=>match allEq (Rb 100) asx a with
   |true=>some r
   |false=>DT L g asx
  |false=>DT L g asx
def Z8(P:Program):List AR->Prop
 |[]=>True
 |(g,asx,r)::L=>aN P g asx r/\Z8 P L
def pW{P:Program}:∀{L:List AR},Z8 P L->∀{g:FuncId}{asx:List SV}{r:SV},DT L g asx=some r->aN P g asx r
 |[],_,_,_,_,h=>by simp[DT]at h
 |(f,d,e)::L,a,g,asx,r,h=>by unfold DT at h;split at h;rename_i c;split at h;rename_i b;simp at h;rw[ac2 c,<-h];exact a.1.same (kP (λ_ _ h=>HZ h) b).symm W;exact pW a.2 h;exact pW a.2 h
def orK(T T':rF):rF:=λg asx=>match T g asx with
 |some r=>some r
 |none=>T' g asx
def Sm{P:Program}{T T':rF}(h:∀g asx r,T g asx=some r->aN P g asx r)(a:∀g asx r,T' g asx=some r->aN P g asx r):∀g asx r,orK T T' g asx=some r->aN P g asx r:=by intro g asx r e;unfold orK at e;split at e;rename_i b;cases e;simp_all;simp_all
def Tu{P:Program}{w:World}{f:FuncId}{fn:Func}{b:Array Value}{R:Value->World->Prop}(l:P.funcs[f]?=some fn)(p:fn.body.isNone=false)(hn:(fn.name== "runtime.NumGoroutine")=false)
 (h:qD P f b w R):Calls P f b w λe w'=>∃v,e=.returned v/\R v w':=by
 have a:(callFunc f b).run P w=.ok (.enter f b) w:=by
  have c:¬fn.name= "runtime.NumGoroutine":=by simpa using hn
  have d:¬fn.body=none:=by grind
  unfold callFunc;simp[l,d,c]
 have j:=h none {dst:=some 0,op:=.move<|.const<|.bool true,type:=0,pos:= "",after:=#[],guard:=none} {tmps:=#[undef],defers:=[]} (λo w'=>∃v,o.tmps=#[v]/\R v w') (λ_ _ _=>False) λv w' i=>⟨v,by simp[Act.put],i⟩;rw[a]at j;have m:=callsIn_wide.1 j.2;refine m.mono λe w' he=>?_;cases e with
 |returned v=>
  obtain⟨k,n,i⟩:=he;have q:v=k:=by simpa[Act.put]using n
  simp_all
 |panicked g=>exact he.elim
 |outgrown=>exact aaF he (by simp[LetsOut])
def aN.xd{P:Program}{f:FuncId}{xs ys:L SV}{r:SV}(h:aN P f ys r)(hl:mh xs ys):aN P f xs r:=by intro w S a j i hc;obtain⟨n,m,d,c⟩:=hl.cells hc;have e:=List.nil_perm.1 d;have l:=(aga.1 e).1;have k:=(aga.1 e).2;subst l;subst k;exact h w S a j i<|c S (λ_ h=>h) λb g=>by cases g
end Go.Ai
section
namespace Go.Ai
open Go.Proofs Go.RowKit Go.Proofs.Tryz
variable{P:Program}{w:World}{S:Nat->Prop}
section
variable{o:Oper}{a:Operand}{t:TypeId}
def Ig{args H:L AV}(d:args.length=1)(c:H.length=1){i:Nat}(a:i≠0)(b:i≠1000000):both args H i=⟨.dead,0,0⟩:=by by_cases h:i<1000000;rw[fe h,aex E];obtain⟨k,rfl⟩:∃k,i=1000000+k:=⟨i-1000000,E⟩;rw[ew E,aex E]
def SN{y:AV}{ti:TI}(u:o.op=.load t a)(p:ct P t=some ti)(j:fits ti y=true):
 Xy P o [.box true y] [.bw 1000000 0 0 []] [.box true<|jf y] y:=by
 intro w S V r F hl hc q D;obtain⟨x0,rfl⟩:∃x0,r=[x0]:=by
  match r,hl with
  |[x0],_=>exact⟨x0,W⟩
 have f:=ew (args:=[.bw 1000000 0 0 []]) (H:=[.box true y]) I 0;simp[ahb]at f;have e0:x0=V.v 1000000:=mj (i:=0) E hc W;have x:a8 V [x0] 1000000=V.v 1000000:=fQ;obtain⟨c,z,F1,Z,k1,k2,k3,d,X,T⟩:=hc.take 1000000 0 [.deref] (y:=y) (av':=.box true<|jf y) E (by rw[f];rfl) (by rw[f];rfl) (by rw[f];rfl);have s:=hc.rel 1000000;rw[an.aC<|by rw[f];rfl,x]at s;obtain⟨b,cs,fz,F2,z2,Y,-⟩:=s;rw[x,Y]at k1;simp[loc,step1,cF]at k1;subst k1;have R:q a=.pointer (some ⟨b,0,none⟩):=by
  have h2:o.op.operands.toList=[a]:=by rw[u];rfl
  simp_all
 have g:(Instr.loadAt t<|q a).run P w=.ok z w:=by simp[R,Result.andThen_ok];exact gw p k2<|ky j k3
 have n:a8 V [z] 0=z:=fQ;have J:a8 V [z] 1000000=V.v 1000000:=fQ;have l:both [y] [.box true<|jf y] 0=⟨y,0,0⟩:=fQ;have M:=ew (args:=[y]) (H:=[.box true<|jf y]) I 0;refine⟨.value z,z,w,by simp[execOp,u,g],.inl W,S,Z,⟨W,W,W,aaU _,λ_ _ _=>rfl⟩,λ_ h=>h,λ_ h=>.inl h,?_⟩;refine⟨λi=>?_,d.nodup,d.di,λi b N=>?_,d.shr⟩;by_cases e:i=0;subst e;have:=d.rel 0;rw[an.aC<|by rw[aI];exact k3.plain]at this;rw[an.aC<|by rw[l];exact k3.plain,l,n];simp_all;by_cases m:i=1000000;subst m;have:=d.rel 1000000;have K:(1000000:Nat)≠0:=E;have O:(iy (iy (both [.bw 1000000 0 0 []] [.box true y]) 1000000 (kC (both [.bw 1000000 0 0 []] [.box true y] 1000000) [.deref]<|.box true<|jf y)) 0 ⟨y,((both [.bw 1000000 0 0 []] [.box true y]) 0).g1+1,((both [.bw 1000000 0 0 []] [.box true y]) 0).g2⟩ 1000000).av=.box true (jf y):=by rfl
 exact this;have:=d.rel i;have v:=Ig (args:=[.bw 1000000 0 0 []]) (H:=[.box true y]) W W e m;have k:=Ig (args:=[y]) (H:=[.box true<|jf y]) W W e m;rw[an.aC<|by rw[ar _ _ e,ar _ _ m,v];rfl,ar _ _ e,ar _ _ m,v]at this;rw[an.aC<|by rw[k];rfl,k];exact this;obtain⟨C,B,A⟩:=d.own i b N;exact⟨.inr C,B,A⟩
def adH{y:SV}{ti:zj}(d:o.op=.load t a)(c:ct P t=some ti.den)(b:ns ti y=true)(hc:y.den.cell=false):ji P o [.box true y] [.bw 1000000 0 0 []] [.box true .dead] y:=by
 have h:=SN (P:=P) (y:=y.den) d c (by rw[jL];exact b);have e:jf y.den=.dead:=by unfold jf;rw[hc];rfl
 rw[e]at h;exact h
end
end Go.Ai
end
namespace Go.Ai
open Go.Proofs Go.RowKit Go.Proofs.Tryz
section
variable{R:Option Nat->Prop}{P:Program}{N:Nat}{V:Hid}{w0 w:World}{S0:Nat->Prop}{a:Act}{base:St}{r p0 Z h:Nat}{Q s:Path}
section
variable{y:AV}{L:Loc}{i sz':Nat}{s':Path}{v:Value}
def XB(base:St)(r p0:Nat)(av:AV)(q:Path):St:=iy (iy base r ⟨av,0,0⟩) p0 ⟨.ptr r 0 0 q,0,0⟩
def xw(base:St)(r p0 Z h:Nat)(av y:AV)(s:Path):St:=iy (iy (iy (iy base r ⟨av,0,0⟩) p0 ⟨.ptr Z 0 0 s,0,0⟩) Z ⟨y,0,0⟩) h ⟨.bw Z 0 0 [],0,0⟩
def Hid.CY(V:Hid)(Z h:Nat)(v:Value):Hid:={V with v:=iy (iy V.v Z v) h v}
structure Names(N r p0 Z h:Nat):Prop where
 n:N<=1000000
 z:1000000<=Z
 hh:1000000<=h
 rp:r≠p0
 rz:r≠Z
 rh:r≠h
 pz:p0≠Z
 ph:p0≠h
 zh:Z≠h
def Kx(hn:Names N r p0 Z h)(b:a.tmps.size=N)(v:Value):tv (V.CY Z h v) a=iy (iy (tv V a) Z v) h v:=by
 have e:=hn.n;have d:=hn.z;have c:=hn.hh
 funext i
 unfold tv Hid.CY iy
 grind
def UC{av:AV}:xw base r p0 Z h av y s h=⟨.bw Z 0 0 [],0,0⟩:=by unfold xw;rw[aI]
def we(hn:Names N r p0 Z h){av:AV}:xw base r p0 Z h av y s Z=⟨y,0,0⟩:=by unfold xw;rw[ar _ _ hn.zh,aI]
def UB(hn:Names N r p0 Z h){av:AV}:xw base r p0 Z h av y s p0=⟨.ptr Z 0 0 s,0,0⟩:=by unfold xw;rw[ar _ _ hn.ph,ar _ _ hn.pz,aI]
def IL(hn:Names N r p0 Z h){av:AV}:xw base r p0 Z h av y s r=⟨av,0,0⟩:=by unfold xw;rw[ar _ _ hn.rh,ar _ _ hn.rz,ar _ _ hn.rp,aI]
def IM{av:AV}(e:i≠r)(d:i≠p0)(c:i≠Z)(b:i≠h):xw base r p0 Z h av y s i=base i:=by unfold xw;rw[ar _ _ b,ar _ _ c,ar _ _ d,ar _ _ e]
def aad{av:AV}:XB base r p0 av Q p0=⟨.ptr r 0 0 Q,0,0⟩:=by unfold XB;rw[aI]
def GW(b:r≠p0){av:AV}:XB base r p0 av Q r=⟨av,0,0⟩:=by unfold XB;rw[ar _ _ b,aI]
def GX{av:AV}(c:i≠r)(b:i≠p0):XB base r p0 av Q i=base i:=by unfold XB;rw[ar _ _ b,ar _ _ c]
def LL{x:Loc}{sz:Nat}(hl:loc w x Q=some L)(hh:holds w L v)(hc:v.cells=#[v]):loc w x (Q++.idx i sz::s')=loc w (.val v) (.idx i sz::s'):=by rw[je,hl];simp[loc];rw[de hh hc I];rfl
def Mf{z b:Value}(d:holds w L z)(c:holds w L b)(c1:z.cells=#[z])(c2:b.cells=#[b]):z=b:=by
 cases L with
 |val q=>simp[holds]at d c;rw[d,c]
 |addr g=>have f:=At.cell d c1;have e:=At.cell c c2;simp_all
def R4{sz:Nat}{xs:List AV}{o:AV}{av1:(Value->Prop)->AV}(hn:Names N r p0 Z h)(c:∀i,(base i).av.plain=true)(G1:(base Z).av=.dead)(M:(base h).av=.dead)(hp:o.plain=true)
 (hg:bH o Q=some (.list .own sz xs))(hs:∀C,ff o Q (.pv C)=some (av1 C))(E2:∃u,bH o (Q++.idx i sz'::s')=some u)
 (hi:kV N V w0 S0 (XB base r p0 o<|Q++.idx i sz'::s') a w):∃v,kV N (V.CY Z h v) w0 S0 (xw base r p0 Z h (av1 (·=v)) (.list .own sz xs)<|.idx i sz'::s') a w:=by
 obtain⟨S,F,ds,hc,hN,F0,Y,X,n,hm⟩:=hi;have hr:=hc.rel r;rw[an.aC<|by rw[GW hn.rp];exact hp,GW hn.rp]at hr;obtain⟨L0,v,Fv,l1,l2,l3,-⟩:=Rel.read Q (L:=.val<|tv V a r) hr W hg;have c1:v.cells=#[v]:=cells_one<|l3.one W;obtain⟨L,z,A,F1,B,k1,k2,k3,k4,k5,k6⟩:=Rel.iy Q (L:=.val<|tv V a r) hr W hg (hs (·=v)) (hc.nodup r) (λb c=>(hc.own r b c).2.2) (by simp[Loc.fu]);rw[l1]at k1;cases k1;have ez:z=v:=Mf k2 l2 (cells_one<|k3.one W) c1;subst ez;obtain⟨z',j1,-,-,j4⟩:=k6 w S z [] (λ_ h=>h) W (λh=>h) (λ_ _ _=>rfl) (oK k2) (by simp[Rel]);simp[vS]at j4;subst j4;have F2:=hc.nodup r;rw[k4,acH,acH]at F2;have m:∀b,b∈A++[]++B->b∈F r:=λb c=>by grind
 have f:∀b,b∈F1->b∈F r:=λb c=>by rw[k4];simp[c]
 have G0:∀b,b∈F1->b∉A++[]++B:=λb c p=>by grind
 have F4:F h=[]:=by have:=hc.rel h;rw[an.aC<|by rw[GX (λe=>hn.rh e.symm) λe=>hn.ph e.symm,M];rfl,GX (λe=>hn.rh e.symm) λe=>hn.ph e.symm,M]at this;simpa[Rel]using this
 have g:=hc.rel p0;unfold an at g;rw[aad]at g;simp only[GW hn.rp]at g;obtain⟨F3,-,-,B0,A0⟩:=g;obtain⟨ad,q1,q2⟩:=A0 U (.inr U) λ_=>E2;rw[LL l1 k2 c1]at q1;have hT:=Kx (V:=V) (a:=a) hn hN z;refine⟨z,S,λi=>if i=r then A++[]++B else if i=Z then F1 else F i,ds,⟨λj=>?_,λj=>?_,λj k x b c=>?_,λj b c=>?_,hc.shr⟩,hN,F0,Y,X,⟨n.os,n.tape,n.output,n.size,n.block⟩,hm.1,λd hd=>?_⟩;rw[hT];by_cases T:j=h;subst T;unfold an;rw[UC];simp only[we hn,aI];rw[aaq λe=>hn.rh e.symm,aaq λe=>hn.zh e.symm];exact⟨F4,aaU _,aaU _,λ_ _ _=>⟨.val z,by rw[ar _ _ hn.zh,aI];rfl,W,I⟩⟩;by_cases t:j=Z;subst t;rw[an.aC<|by rw[we hn];rfl,we hn,aaq λe=>hn.rz e.symm,aas W,ar _ _ hn.zh,aI];exact k3;by_cases K:j=p0;subst K;unfold an;rw[UB hn];simp only[we hn];rw[aaq λe=>hn.rp e.symm,aaq hn.pz,ar _ _ hn.ph,ar _ _ hn.pz];exact⟨F3,aaU _,aaU _,B0,λ_ _ _=>⟨ad,by rw[ar _ _ hn.zh,aI];exact q1,q2⟩⟩;by_cases J:j=r;subst J;rw[an.aC<|by rw[IL hn];exact j1.plain,IL hn,aas W,ar _ _ hn.rh,ar _ _ hn.rz];exact j1;have hj:=hc.rel j;rw[an.aC<|by rw[GX J K];exact c j,GX J K]at hj;rw[an.aC<|by rw[IM J K t T];exact c j,IM J K t T,aaq J,aaq t,ar _ _ T,ar _ _ t];exact hj;by_cases e:j=r
 grind
 simp[e,if_false];by_cases t:j=Z;simp_all;simp[t,if_false];exact hc.nodup j;by_cases q:j=r;simp only[q,if_true]at c;have hk:k≠r:=λe=>x<|q.trans e.symm;simp[hk,if_false];by_cases H:k=Z
 grind
 simp[H,if_false];exact hc.di r k (λe=>hk e.symm) b<|m b c;simp[q,if_false]at c;by_cases l:j=Z;simp[l,if_true]at c;by_cases H:k=r;simp_all;have E1:k≠Z:=λe=>x<|l.trans e.symm;simp[H,E1,if_false];exact hc.di r k (λe=>H e.symm) b<|f b c;simp[l,if_false]at c;by_cases H:k=r;simp only[H,if_true];exactλp=>hc.di j r q b c<|m b p;simp[H,if_false];by_cases O:k=Z;simp[O,if_true];exactλp=>hc.di j r q b c<|f b p;simp[O,if_false];exact hc.di j k x b c;by_cases q:j=r;simp only[q,if_true]at c;exact hc.own r b<|m b c;simp[q,if_false]at c;by_cases l:j=Z;simp[l,if_true]at c;exact hc.own r b<|f b c;simp[l,if_false]at c;exact hc.own j b c;obtain⟨D,T,t,K,J,e5⟩:=hm.2 d hd
 grind
def Ol{sz:Nat}{ys:List AV}{n av3:AV}(hn:Names N r p0 Z h)(c:∀i,(base i).av.plain=true)(Y:(base Z).av=.dead)(A0:(base h).av=.dead)(hp:n.plain=true)
 (hg:bH n Q=some (.pv (·=v)))(hs:ff n Q (.list .own sz ys)=some av3)(F4:flat (.idx i sz'::s')=true)
 (hi:kV N (V.CY Z h v) w0 S0 (xw base r p0 Z h n (.list .own sz ys)<|.idx i sz'::s') a w):kV N V w0 S0 (XB base r p0 av3<|Q++.idx i sz'::s') a w:=by
 obtain⟨S,F,ds,hc,hN,X,O,M,l,hm⟩:=hi;have hT:=Kx (V:=V) (a:=a) hn hN v;rw[hT]at hc;have hr:=hc.rel r;rw[an.aC<|by rw[IL hn];exact hp,IL hn,ar _ _ hn.rh,ar _ _ hn.rz]at hr;have K:=hc.rel Z;rw[an.aC<|by rw[we hn];rfl,we hn,ar _ _ hn.zh,aI]at K;have c1:v.cells=#[v]:=cells_one<|K.one W;obtain⟨L,z,A,F1,B,k1,k2,k3,k4,k5,k6⟩:=Rel.iy Q (L:=.val<|tv V a r) hr W hg hs (hc.nodup r) (λb c=>(hc.own r b c).2.2) (by simp[Loc.fu]);obtain⟨ez,eF⟩:=k3;subst ez;subst eF;obtain⟨z',j1,-,-,j4⟩:=k6 w S z (F Z) (λ_ h=>h) W (λh=>h) (λ_ _ _=>rfl) (oK k2) K;simp[vS]at j4;subst j4;have p:=hc.nodup r;rw[k4,afd,acH]at p;have g:∀b,b∈A++F Z++B->b∈F r\/b∈F Z:=λb c=>by grind
 have F2:∀b,b∈F Z->b∉F r:=λb c=>hc.di Z r (λe=>hn.rz e.symm) b c;have F3:(A++F Z++B).Nodup:=by
  rw[acH,acH];refine⟨⟨p.1,hc.nodup Z,λa ha b c e=>?_⟩,p.2.1,λa ha b c e=>?_⟩;simp_all
  grind
 have E2:F h=[]:=by have:=hc.rel h;unfold an at this;rw[UC]at this;exact this.1
 have f:=hc.rel p0;unfold an at f;rw[UB hn]at f;simp only[we hn]at f;obtain⟨E1,-,-,x,T⟩:=f;obtain⟨ad,q1,q2⟩:=T U (.inr U) λhh=>fP;rw[ar _ _ hn.zh,aI]at q1;rw[ar _ _ hn.ph,ar _ _ hn.pz]at q2 x;refine⟨S,λi=>if i=r then A++F Z++B else if i=Z then[]else F i,ds,⟨λj=>?_,λj=>?_,λj k C b c=>?_,λj b c=>?_,hc.shr⟩,hN,X,O,M,⟨l.os,l.tape,l.output,l.size,l.block⟩,hm.1,λd hd=>?_⟩;by_cases u:j=p0;subst u;unfold an;rw[aad];simp only[GW hn.rp];rw[aaq λe=>hn.rp e.symm,aaq hn.pz];exact⟨E1,aaU _,aaU _,x,λ_ _ _=>⟨ad,by rw[LL k1 k2 c1];exact q1,q2⟩⟩;by_cases t:j=r;subst t;rw[an.aC<|by rw[GW hn.rp];exact j1.plain,GW hn.rp,aas W];exact j1;rw[an.aC<|by rw[GX t u];exact c j,GX t u,aaq t];by_cases o:j=Z;subst o;rw[Y,aas W];simp[Rel];rw[aaq o];by_cases J:j=h;subst J;rw[A0,E2];simp[Rel];have hj:=hc.rel j;rw[an.aC<|by rw[IM t u o J];exact c j,IM t u o J,ar _ _ J,ar _ _ o]at hj;exact hj;by_cases e:j=r;simp_all;simp[e,if_false];by_cases o:j=Z;simp_all;simp[o,if_false];exact hc.nodup j;by_cases q:j=r;simp only[q,if_true]at c;have hk:k≠r:=λe=>C<|q.trans e.symm;simp only[hk,if_false];by_cases H:k=Z;simp_all;simp[H,if_false];rcases g b c with h1|h1;exact hc.di r k (λe=>hk e.symm) b h1;exact hc.di Z k (λe=>H e.symm) b h1;simp only[q,if_false]at c;by_cases m:j=Z;simp_all;simp[m,if_false]at c;by_cases H:k=r;simp only[H,if_true];intro B0;rcases g b B0 with h1|h1;exact hc.di j r q b c h1;exact hc.di j Z m b c h1;simp only[H,if_false];by_cases F0:k=Z;simp_all;simp[F0,if_false];exact hc.di j k C b c;by_cases q:j=r;simp only[q,if_true]at c;rcases g b c with h1|h1;exact hc.own r b h1;exact hc.own Z b h1;simp only[q,if_false]at c;by_cases m:j=Z;simp_all;simp[m,if_false]at c;exact hc.own j b c;obtain⟨D,J,o,u,t,e5⟩:=hm.2 d hd
 grind
end
end
end Go.Ai
