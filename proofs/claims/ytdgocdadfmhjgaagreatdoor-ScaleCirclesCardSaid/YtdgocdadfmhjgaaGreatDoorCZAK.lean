/- Parts of the proof of ScaleCircles (CheckRefused returns the error of the reference), at every input, with no further conditions. -/
import Derived.Test.YtdgocdadfmhjgaaGreatDoorCZAJ
set_option linter.all false
set_option maxRecDepth 100000
set_option maxHeartbeats 0
namespace Go.Ai
open Go.Proofs Go.RowKit
def Sz.num{q:Rat}{K:Nat}(h:Sz q K):Sz (q.num:Rat) (K+1):=by
 constructor
 ·simpa using ait h.1
 simp[iz]
def Fu(z:Int):qt (mz (z:Rat))=decl z.natAbs 1:=by
 unfold mz;rw[Rat.num_intCast];split
 ·rename_i h;have:=(Rat.intCast_neg z).symm;rw[this,nP];unfold ck;rw[if_neg<|by omega,ahE]
 rename_i h;rw[nP];unfold ck;rw[if_neg h]
def MD(d:Nat):qt (d:Rat)=decl d 1:=(nP (d:Int)).trans<|CN d
instance(q:Rat)(n:Nat):Decidable (Dc q n):=by unfold Dc;infer_instance
noncomputable def mJ(s:bK)(n:Nat):Bool:=decide (s.length<=2*n+2/\aJ s=0/\Dc (bI s) n)
def yT(s:bK)(n:Nat)(h1:cR s)(hn:n<2^40):aL Tryz.prog 137 [.s s,.i n] (.u<|mJ s n):=by
 refine bE Tryz.func137 rfl<|r1 rfl (by simp[ag,and_true];omega) ?_;refine aC 11 rfl (λg1=>?_) (λg1=>?_)
 ·refine r0 rfl<|bF rfl (check_sound s h1) rfl<|r0 rfl<|aC 16 rfl (λg2=>?_) (λg2=>?_)
  ·have hz:=eU g2;have e:=fO g2;have n1:=FE (bI s)<|hz.sW<|by decide
   have d1:=Gr (bI s)<|hz.sW<|by decide
   rw[e]at n1 d1;refine r0 rfl<|bF rfl n1 rfl<|bF rfl (qh ((bI s).num:Rat)<|hz.num.sW<|by decide) rfl ?_;rw[Fu];refine r0 rfl<|aC 24 rfl (λg3=>?_) (λg3=>?_)
   ·refine r0 rfl<|bF rfl d1 rfl ?_;rw[MD];refine r0 rfl<|aG rfl<|an.of_eq<|congrArg SV.u<|decide_eq_decide.2 ?_;constructor
    ·intro g4;exact⟨by omega,g2,by omega,by omega⟩
    rintro⟨_,_,_,g4⟩;omega
   refine r0 rfl<|aG rfl ?_;show false=mJ s n;symm;exact decide_eq_false λhh=>g3 (by have:=hh.2.2.1;omega)
  refine r0 rfl<|aG rfl ?_;show false=mJ s n;symm;exact decide_eq_false λhh=>g2 hh.2.1
 refine r0 rfl<|aG rfl ?_;show false=mJ s n;symm;exact decide_eq_false λhh=>g1 (by have:=hh.1;omega)
def EA(xs:List bK)(m n:Nat)(hx:∀s∈xs,cR s)(hl:xs.length<2^60)(hm:m<2^60)(hn:n<2^40):
 aL Tryz.prog 138 [.strs false xs,.i m,.i n] (.u<|decide (xs.length<=m)&&xs.all λs=>mJ s n):=by
 refine bE Tryz.func138 rfl<|r0 rfl<|bH rfl (λh=>?_) (λh=>?_)
 ·refine r0 rfl<|aG rfl ?_;show false=_;rw[decide_eq_false<|by omega];rfl
 rw[decide_eq_true<|by omega,adx];refine r0 rfl<|loop (λi:Nat=>[(0,.strs false xs),(2,.i n),(7,.i i)]) (λi=>i<=xs.length/\(xs.all λs=>mJ s n)=((xs.drop i).all λs=>mJ s n)) (λi=>xs.length-i) 0 ⟨abC _,rfl⟩ ⟨ab,ab,ab,ao⟩ ?_;rintro i⟨hi,hf⟩;refine r0 rfl<|bH rfl (λh=>?_) (λh=>?_)
 ·have aZ:i<xs.length:=by omega
  have ei:(i:Int).toNat=i:=by omega
  have eg:xs.getD i []=xs[i]:=aw aZ;rw[ac4 aZ,adl]at hf;refine r1 rfl (by simp[ag,and_true,ei];omega) ?_;refine cl rfl (by rw[ei,eg];rfl) (yT xs[i] n (hx _<|ab9 aZ) hn) rfl ?_;refine r0 rfl<|nB rfl rfl rfl (λh2=>?_) (λh2=>?_)
  ·refine r0 rfl<|aG rfl ?_;simp at h2;rw[hf,h2];rfl
  simp at h2;refine r1 rfl (by simp[ag,and_true];omega) ?_;exact again (i+1) (by omega) ⟨by omega,by rw[hf,h2];rfl⟩ ⟨ab,ab,ab,ao⟩
 refine r0 rfl<|aG rfl ?_;show true=_;rw[hf,show i=xs.length by omega,aey];rfl
noncomputable def vg(q:Rat):Int:=if 600<(decl q.num.natAbs 1).length\/600<(decl q.den 1).length then 4 else 0
def Kc(q:Rat){K:Nat}(h:Sz q K)(hK:K<2^36):aL Tryz.prog 216 [.s<|qt q] (.i<|vg q):=by
 refine bE Tryz.func216 rfl<|r0 rfl<|bF rfl (FE q<|h.sW<|by omega) rfl<|bF rfl (qh (q.num:Rat)<|h.num.sW<|by omega) rfl ?_;rw[Fu];refine r0 rfl<|aC 8 rfl (λg=>?_) (λg=>?_)
 ·refine r0 rfl<|aG rfl<|an.of_eq<|congrArg SV.i<|by unfold vg;rw[if_pos<|.inl<|by omega]
 refine r0 rfl<|bF rfl (Gr q<|h.sW<|by omega) rfl ?_;rw[MD];refine r0 rfl<|bH rfl (λg2=>?_) (λg2=>?_)
 ·refine r0 rfl<|aG rfl<|an.of_eq<|congrArg SV.i<|by unfold vg;rw[if_pos<|.inr<|by omega]
 refine r0 rfl<|aG rfl<|an.of_eq<|congrArg SV.i<|by unfold vg;rw[if_neg<|by omega]
def A8(p q:Rat):Rat:=if 0<=DF p q then p else q
def MV(p q:Rat){K L:Nat}(hp:Sz p K)(hq:Sz q L)(hK:K+L+1<2^34):aL Tryz.prog 68 [.s<|qt p,.s<|qt q] (.s<|qt<|A8 p q):=by
 refine bE Tryz.func68 rfl<|r0 rfl<|bF rfl (tU p q hp hq hK) rfl<|r0 rfl<|bH rfl (λg=>?_) (λg=>?_)
 ·refine r0 rfl<|aG rfl<|an.of_eq<|congrArg (λq=>SV.s<|qt q)<|by unfold A8;rw[if_pos g]
 refine r0 rfl<|aG rfl<|an.of_eq<|congrArg (λq=>SV.s<|qt q)<|by unfold A8;rw[if_neg g]
def Eh{α:Type}{xs ys:List α}{d:α}(hl:xs.length=ys.length)(h:∀k,k<xs.length->xs.getD k d=ys.getD k d):xs=ys:=by apply aih hl;intro k h1 h2;have:=h k h1;rwa[aw h1,aw h2]at this
def B2(xs ys:List Int)(hl:xs.length<2^60):aL Tryz.prog 37 [.ints .i64 false xs,.ints .i64 false ys] (.u<|decide (xs=ys)):=by
 refine bE Tryz.func37 rfl<|r0 rfl<|bH rfl (λh=>?_) (λh=>?_)
 ·refine r0 rfl<|aG rfl ?_;show false=_;symm;exact decide_eq_false λe=>h (by rw[e])
 have hlen:xs.length=ys.length:=by omega
 refine r0 rfl<|loop (λi:Nat=>[(0,.ints .i64 false xs),(1,.ints .i64 false ys),(5,.i i)]) (λi=>i<=xs.length/\∀k,k<i->xs.getD k 0=ys.getD k 0) (λi=>xs.length-i) 0 ⟨abC _,λk h=>by omega⟩ ⟨ab,ab,ab,ao⟩ ?_;rintro i⟨hi,hf⟩;refine r0 rfl<|bH rfl (λh=>?_) (λh=>?_)
 ·have ei:(i:Int).toNat=i:=by omega
  refine k1 rfl (by kernel_rfl) (by simp[ag,and_true,ei];omega) ?_;refine bH rfl (λh2=>?_) (λh2=>?_)
  ·rw[ei]at h2;refine r0 rfl<|aG rfl ?_;show false=_;symm;exact decide_eq_false λe=>h2 (by rw[e])
  rw[ei]at h2;refine r1 rfl (by simp[ag,and_true];omega) ?_;refine again (i+1) (by omega) ⟨by omega,λk hk=>?_⟩ ⟨ab,ab,ab,ao⟩;rcases ac1 k i with g|g
  ·exact hf k g
  rw[show k=i by omega];omega
 refine r0 rfl<|aG rfl ?_;show true=_;symm;exact decide_eq_true<|Eh hlen λk hk=>hf k<|by omega
def IP(n:Nat)(hn:n<2^40):aL Tryz.prog 135 [.i n] (.strs true<|List.replicate n<|qt 0):=by
 rw[Bw];refine bE Tryz.func135 rfl<|r0 rfl<|loop (λi:Nat=>[(0,.i n),(3,.strs true<|List.replicate i [48]),(4,.i i)]) (λi=>i<=n) (λi=>n-i) 0 (abC _) ⟨ab,ab,ab,ao⟩ ?_;intro i hi;refine r0 rfl<|bH rfl (λh=>?_) (λh=>?_)
 ·refine r1 rfl (by simp[ag]<;>omega) ?_;exact again (i+1) (by omega) (by omega) ⟨ab,⟨rfl,an.of_eq<|congrArg (SV.strs true)<|by rw[List.replicate_succ']⟩,ab,ao⟩
 refine r0 rfl<|aG rfl<|an.of_eq<|congrArg (SV.strs true) ?_;rw[show i=n by omega]
def PwB(xs:List Int):Prop:=xs.length<2^20/\∀x∈xs,0<=x/\x<2^31
def SO(xs:List Int)(y:Int):(xs++[y]).sum=xs.sum+y:=by simp
def SN{xs:List Int}{i:Nat}(h:i<xs.length):(xs.take<|i+1).sum=(xs.take i).sum+xs.getD i 0:=by rw[ac6 h,SO,aw h]
def E8:∀{xs:List Int},(∀x∈xs,0<=x/\x<2^31)->0<=xs.sum/\xs.sum<=xs.length*2^31
 |[],_=>by simp
 |x::xs,h=>by have h1:=E8 (xs:=xs) λy hy=>h y (by simp[hy]);have h2:=h x (by simp);simp;omega
def kW(xs:List Int)(h:PwB xs):aL Tryz.prog 215 [.ints .i64 false xs] (.i xs.sum):=by
 have hl:=h.1;refine bE Tryz.func215 rfl<|r0 rfl<|loop (λi:Nat=>[(0,.ints .i64 false xs),(3,.i (xs.take i).sum),(4,.i i)]) (λi=>i<=xs.length) (λi=>xs.length-i) 0 (abC _) ⟨ab,ab,ab,ao⟩ ?_;intro i hi;refine r0 rfl<|bH rfl (λh1=>?_) (λh1=>?_)
 ·have aZ:i<xs.length:=by omega
  have ei:(i:Int).toNat=i:=by omega
  have hb:=E8 (xs:=xs.take i) λx hx=>h.2 x<|af5 hx;have hx:=h.2 xs[i]<|ab9 aZ;have eg:xs.getD i 0=xs[i]:=aw aZ;simp at hb;refine r1 rfl (by simp only[ag,and_true,ei];omega) ?_;exact again (i+1) (by omega) (by omega) ⟨ab,⟨rfl,an.of_eq<|congrArg SV.i<|by rw[ei,SN aZ]⟩,ab,ao⟩
 refine r0 rfl<|aG rfl<|bC ?_;rw[acR<|by omega]
def kn:List Int->List Int->Bool
 |x::a,y::b=>if x≠y then decide (y<x)else kn a b
 |_,_=>false
def beforeL(a b:List Int):Bool:=if a.sum≠b.sum then decide (b.sum<a.sum)else kn a b
def M6{a b:List Int}{i:Nat}(h1:i<a.length)(h2:i<b.length):kn (a.drop i) (b.drop i)=if a[i]≠b[i]then decide (b[i]<a[i])else kn (a.drop<|i+1) (b.drop<|i+1):=by rw[ac4 h1,ac4 h2];rfl
def Iv(a b:List Int)(ha:PwB a)(hb:PwB b)(hl:a.length=b.length):aL Tryz.prog 252 [.ints .i64 false a,.ints .i64 false b] (.u<|beforeL a b):=by
 have IK:=ha.1;refine bE Tryz.func252 rfl<|r0 rfl<|bF rfl (kW a ha) rfl<|r0 rfl<|bF rfl (kW b hb) rfl<|r0 rfl<|bH rfl (λh=>?_) (λh=>?_)
 ·have h:a.sum≠b.sum:=h;refine r0 rfl<|bF rfl (kW a ha) rfl<|r0 rfl<|bF rfl (kW b hb) rfl<|r0 rfl<|aG rfl<|an.of_eq<|congrArg SV.u ?_;unfold beforeL;rw[if_pos h]
 have h:¬a.sum≠b.sum:=h;have hB:beforeL a b=kn a b:=by unfold beforeL;rw[if_neg h]
 refine r0 rfl<|loop (λi:Nat=>[(0,.ints .i64 false a),(1,.ints .i64 false b),(5,.i i)]) (λi=>i<=a.length/\beforeL a b=kn (a.drop i) (b.drop i)) (λi=>a.length-i) 0 ⟨abC _,hB⟩ ⟨ab,ab,ab,ao⟩ ?_;rintro i⟨hi,hf⟩;refine r0 rfl<|bH rfl (λh1=>?_) (λh1=>?_)
 ·have Ew:i<a.length:=by omega
  have Gf:i<b.length:=by omega
  have ei:(i:Int).toNat=i:=by omega
  have ea:a.getD i 0=a[i]:=aw Ew;have eb:b.getD i 0=b[i]:=aw Gf;rw[M6 Ew Gf]at hf;refine k1 rfl (by kernel_rfl) (by simp[ag,and_true,ei];omega) ?_;refine bH rfl (λh2=>?_) (λh2=>?_)
  ·rw[ei,ea,eb]at h2;have h2:a[i]≠b[i]:=h2;rw[if_pos h2]at hf;refine k1 rfl (by kernel_rfl) (by simp[ag,and_true,ei];omega) ?_;refine aG rfl<|an.of_eq<|congrArg SV.u ?_;rw[ei,ea,eb,hf]
  rw[ei,ea,eb]at h2;have h2:¬a[i]≠b[i]:=h2;rw[if_neg h2]at hf;refine r1 rfl (by simp[ag,and_true];omega) ?_;exact again (i+1) (by omega) ⟨by omega,hf⟩ ⟨ab,ab,ab,ao⟩
 refine r0 rfl<|aG rfl ?_;show false=_;rw[hf,show i=a.length by omega,aey];simp[kn]
structure cN where
 c:Rat
 pw:List Int
instance:Inhabited cN:=⟨⟨0,[]⟩⟩
def NQ(t:cN):SV:=.agg [.s<|qt t.c,.ints .i64 false t.pw]
def de(own:Bool)(p:List cN):SV:=.bT own 2 default NQ p
def Ea(V K:Nat)(t:cN):Prop:=t.pw.length=V/\PwB t.pw/\Sz t.c K
def we(t:cN):List cN->Rat×List cN
 |u::r=>if u.pw=t.pw then(u.c+t.c,r)else(t.c,u::r)
 |[]=>(t.c,[])
def me(p:List cN)(t:cN):List cN:=(p.takeWhile λu:cN=>beforeL u.pw t.pw)++(if(we t (p.dropWhile λu:cN=>beforeL u.pw t.pw)).1=0 then[]else[⟨(we t (p.dropWhile λu:cN=>beforeL u.pw t.pw)).1,t.pw⟩])++(we t (p.dropWhile λu:cN=>beforeL u.pw t.pw)).2
def BR{α:Type}{f:α->Bool}{p:List α}{i:Nat}(hi:i<=p.length)(h1:∀k(h:k<p.length),k<i->f p[k]=true)(h2:∀h:i<p.length,f p[i]=false):p.takeWhile f=p.take i/\p.dropWhile f=p.drop i:=by
 induction p generalizing i with
 |nil=>cases hi;simp
 |cons x p ih=>
  cases i with
  |zero=>have:=h2 (by simp);simp at this;simp[this]
  |succ i=>
   have h0:=h1 0 (by simp) (by simp);simp at h0;have:=ih (i:=i) (by simpa using hi) (λk h hk=>h1 (k+1) (by simpa using h)<|by omega) λh=>h2<|by simpa using h
   simp[h0,this.1,this.2]
def bz{α:Type}{l:List α}{i:Nat}{d:α}(h:i<l.length):l.getD i d∈l:=by rw[aw h];simp_all
def Ah(p:List cN)(t:cN){V K:Nat}(hp:∀u∈p,Ea V K u)(ht:Ea V K t)(hl:p.length<2^40)(hK:K+K+1<2^34):
 aL Tryz.prog 218 [de false p,NQ t] (de false<|me p t):=by
 have htl:=ht.2.1.1;refine bE Tryz.func218 rfl<|b8 4 [(0,de false p),(3,.box true<|NQ t),(5,de true<|p.takeWhile λu=>beforeL u.pw t.pw),(6,.i (p.takeWhile λu=>beforeL u.pw t.pw).length)] True ?_ λ_=>?_
 ·refine r0 rfl<|loop (λi:Nat=>[(0,de false p),(3,.box true<|NQ t),(5,de true<|p.take i),(6,.i i)]) (λi=>i<=p.length/\∀k(h:k<p.length),k<i->beforeL p[k].pw t.pw=true) (λi=>p.length-i) 0 ⟨abC _,λk h hk=>by omega⟩ ⟨ab,ab,ab,ab,ao⟩ ?_;rintro i⟨hi,hb⟩;have out:(∀h:i<p.length,beforeL p[i].pw t.pw=false)->(p.takeWhile λu=>beforeL u.pw t.pw)=p.take i/\(p.takeWhile λu=>beforeL u.pw t.pw).length=i:=by
   intro h;have:=(BR (f:=λu:cN=>beforeL u.pw t.pw) hi hb h).1;rw[this];exact⟨rfl,by rw[ac2];omega⟩
  refine r0 rfl<|aC 12 rfl (λh=>?_) (λh=>?_)
  ·have aZ:i<p.length:=by omega
   have ei:(i:Int).toNat=i:=by omega
   have eg:p.getD i default=p[i]:=aw aZ;have RA:=hp _<|ab9 aZ;refine r1 rfl (by simp only[ag,and_true,ei];omega) ?_;refine cd rfl (by rw[ei,eg];rfl) (Iv p[i].pw t.pw RA.2.1 ht.2.1<|RA.1.trans ht.1.symm) rfl ?_;refine k0 rfl (by kernel_rfl)<|nB rfl rfl rfl (λh2=>?_) (λh2=>?_)
   ·refine r1 rfl (by simp only[ag,and_true,ei,len,ac2,acZ,acU,acY]<;>omega) ?_;refine again (i+1) (by omega) ⟨by omega,λk h hk=>?_⟩ ⟨ab,ab,⟨rfl,rfl,rfl,?_⟩,ab,ao⟩
    ·rcases ac1 k i with g|g
     ·exact hb k h g
     have:k=i:=by omega
     subst this;exact h2
    rw[ei,eg,c8,ac6 aZ,ac9];exact jd.append (jd.refl _) ⟨.inl rfl,rfl⟩
   refine r0 rfl ?_;have o:=out λ_=>h2;exact aP ao ⟨ab,ab,⟨rfl,an.of_eq<|congrArg (de true) o.1.symm⟩,⟨rfl,an.of_eq<|congrArg SV.i<|by rw[o.2]⟩,ao⟩
  have o:=out λh'=>absurd h' (by omega);refine k0 rfl (by kernel_rfl)<|aP ao ⟨ab,ab,⟨rfl,an.of_eq<|congrArg (de true) o.1.symm⟩,⟨rfl,an.of_eq<|congrArg SV.i<|by rw[o.2]⟩,ao⟩
 have abz:(p.takeWhile λu=>beforeL u.pw t.pw)++(p.dropWhile λu=>beforeL u.pw t.pw)=p:=List.takeWhile_append_dropWhile;unfold me;generalize (p.takeWhile λu=>beforeL u.pw t.pw)=a at*;generalize (p.dropWhile λu=>beforeL u.pw t.pw)=r at*;subst abz;simp only[acW]at hl;have alI:(a++r).drop a.length=r:=List.drop_left;refine xr 2 (λ(c:Rat)(j:Nat)=>[(0,de false<|a++r),(3,.box true<|NQ t),(5,de true a),(6,.i j),(7,.s<|qt c)])
  (λc j=>we t r=(c,(a++r).drop j)/\j<=a.length+r.length/\Sz c (K+K+1)) ?_ ?_
 ·have cM:Sz t.c (K+K+1):=ht.2.2.mono (by omega);refine r0 rfl<|aC 37 rfl (λh=>?_) (λh=>?_)
  ·have h:a.length<(a++r).length:=by omega
   have ei:((a.length:Nat):Int).toNat=a.length:=by omega
   obtain⟨u,r',rfl⟩:∃u r',r=u::r':=by
    cases r with
    |nil=>simp at h
    |cons u r'=>exact⟨u,r',rfl⟩
   have eg:(a++u::r').getD a.length default=u:=by simp[aca]
   have hu:=hp u (by simp);have D8:=hu.2.1.1;refine r1 rfl (by simp only[ag,and_true,ei];omega) ?_;refine cd rfl (by rw[ei,eg];rfl) (B2 u.pw t.pw<|by omega) rfl ?_;refine k0 rfl (by kernel_rfl)<|bH rfl (λh2=>?_) (λh2=>?_)
   ·refine r1 rfl (by simp only[ag,and_true,ei];omega) ?_;refine cd rfl (by rw[ei,eg];rfl) (zB u.c t.c hu.2.2 ht.2.2 hK) rfl ?_;refine k1 rfl (by kernel_rfl) (by simp only[ag,and_true,len];omega) ?_;refine meet (u.c+t.c,a.length+1) ⟨?_,?_,hu.2.2.add ht.2.2⟩ ⟨ab,ab,ab,ab,ab,ao⟩
    ·simp[we,h2,aiZ]
    dsimp only[List.length_cons];omega
   refine r0 rfl<|meet (t.c,a.length) ⟨?_,?_,cM⟩ ⟨ab,ab,ab,ab,ab,ao⟩
   ·simp[we,h2]
   dsimp only;omega
  have h:¬a.length<(a++r).length:=by omega
  have hr:r=[]:=by
   cases r with
   |nil=>rfl
   |cons u r'=>simp at h
  subst hr;refine k0 rfl (by kernel_rfl)<|meet (t.c,a.length) ⟨?_,?_,cM⟩ ⟨ab,ab,ab,ab,ab,ao⟩
  ·simp[we]
  dsimp only;omega
 rintro c j⟨hm,hj,hc⟩;rw[hm];refine b8 1 [(0,de false<|a++r),(5,de true<|a++if c=0 then[]else[⟨c,t.pw⟩]),(6,.i j)] True ?_ λ_=>?_
 ·refine r0 rfl<|bF rfl (nc c) rfl<|r0 rfl<|nB rfl rfl rfl (λh=>?_) (λh=>?_)
  ·have h:¬c=0:=by simpa using h
   refine r1 rfl (by simp only[ag,and_true,len,acZ,acU,acY]<;>omega) ?_;refine aP ao ⟨ab,⟨rfl,rfl,rfl,?_⟩,ab,ao⟩;rw[if_neg h,c8,ac9];exact jd.append (jd.refl _) ⟨.inr rfl,rfl⟩
  have h:c=0:=by simpa using h
  refine r0 rfl<|aP ao ⟨ab,⟨rfl,an.of_eq<|congrArg (de true)<|by rw[if_pos h,adw]⟩,ab,ao⟩
 have hlen:(a++if c=0 then[]else[(⟨c,t.pw⟩:cN)]).length<=a.length+1:=by split<;>simp
 have ej:(j:Int).toNat=j:=by omega
 have hlr:(a++r).length=a.length+r.length:=acW;have hd:((a++r).drop j).length<=a.length+r.length:=by simp only[afa];omega
 have afu:((a++r).drop j).take ((a++r).length-j)=(a++r).drop j:=acR (by simp only[afa];omega);refine r1 rfl (by simp only[ag,and_true,ej,afu,len,acZ];refine⟨λx=>rfl,λx=>rfl,?_⟩;omega) ?_;refine Xe rfl ⟨rfl,rfl,?_⟩;rw[uO,nI λ_=>rfl,nI λ_=>rfl,c8,ej,afu,<-ac9]
def fN(l:List cN):List cN:=l.foldl me []
def MN{l:List cN}{i:Nat}(h:i<l.length):fN (l.take<|i+1)=me (fN<|l.take i) l[i]:=by unfold fN;rw[ac6 h,afW];rfl
def EV(a b:List cN):List cN:=fN<|a++b
section
variable{d:Int}{a b:List Int}{l:List cN}{D K M V k m n v w:Nat}{c p q:Rat}
def Wn(D M n w:Nat)(q:Rat):Prop:=∃a:Int,a.natAbs<=n*M^w/\q*((D^w:Nat):Rat)=(a:Rat)
structure qk(D M k:Nat):Prop where
 pos:0<D
 le:D*10^18<=M
 dig:(ae M).length<=k
def qk.agC(h:qk D M k):D<=M:=acX (ajl _<|by decide) h.le
def Wn.zero(D M n w:Nat):Wn D M n w 0:=⟨0,by simp,by simp⟩
def Wn.le(h:Wn D M n w q)(hn:n<=m):Wn D M m w q:=by obtain⟨a,h1,h2⟩:=h;exact⟨a,acX h1<|adb _ hn,h2⟩
def Wn.add(h:Wn D M n w p)(g:Wn D M m w q):Wn D M (n+m) w (p+q):=by
 obtain⟨a,h1,h2⟩:=h;obtain⟨b,g1,g2⟩:=g;refine⟨a+b,?_,?_⟩
 ·rw[ac7];omega
 rw[Rat.add_mul,h2,g2,Rat.intCast_add]
def Wn.neg(h:Wn D M n w p):Wn D M n w (-p):=by obtain⟨a,h1,h2⟩:=h;refine⟨-a,by omega,?_⟩;rw[Rat.neg_mul,h2,Rat.intCast_neg]
def Wn.mul(h:Wn D M n w p)(g:Wn D M m v q):Wn D M (n*m) (w+v) (p*q):=by
 obtain⟨a,h1,h2⟩:=h;obtain⟨b,g1,g2⟩:=g;refine⟨a*b,?_,?_⟩
 ·rw[afU];have:=agG h1 g1;rw[afy]
  calc a.natAbs*b.natAbs<=(n*M^w)*(m*M^v):=this
   _=n*m*(M^w*M^v):=by grind
 rw[ahh];grind
def Wn.up(hB:qk D M k)(h:Wn D M n w q)(hv:w<=v):Wn D M n v q:=by
 obtain⟨a,h1,h2⟩:=h;obtain⟨e,rfl⟩:=Nat.exists_eq_add_of_le hv;refine⟨a*(D^e:Nat),?_,?_⟩
 ·rw[afU,afy]
  calc a.natAbs*D^e<=(n*M^w)*M^e:=agG h1 (ajm hB.agC e)
   _=n*(M^w*M^e):=by grind
 rw[ahh,ahi];grind
def Wn.one(hB:qk D M k)(h:Wn D M n w q)(hn:n<=10^18):Wn D M 1 (w+1) q:=by
 obtain⟨a,h1,h2⟩:=h;refine⟨a*(D:Nat),?_,?_⟩
 ·rw[afU]
  calc a.natAbs*D<=(n*M^w)*D:=adb _ h1
   _=M^w*(D*n):=by grind
   _<=M^w*(D*10^18):=adQ _<|adQ _ hn
   _<=M^w*M:=adQ _ hB.le
   _=1*(M^w*M):=by grind
 rw[ahh,ahi];grind
def Ld{M k:Nat}(h:(ae M).length<=k):∀w,(ae<|M^w).length<=k*w+1
 |0=>by rw[Nat.pow_zero,iz];simp
 |w+1=>by have h1:=Ld h w;have h2:=dK (M^w) M;rw[ady,Nat.mul_succ];omega
def Wn.sz(hB:qk D M k)(h:Wn D M n w q):Sz q ((ae n).length+k*w+1):=by
 obtain⟨a,h1,h2⟩:=h;have hp:0<D^w:=aef hB.pos;have e:q=Rat.divInt a ((D^w:Nat):Int):=by
  rw[ajn,ahi];have:((D^w:Nat):Rat)≠0:=by
   intro g;have:(D^w:Nat)=0:=by exact_mod_cast g
   omega
  grind
 rw[e];have h3:=Ld hB.dig w;refine ym (by exact_mod_cast hp) ?_ ?_
 ·have:=length_le h1;have:=dK n<|M^w;omega
 have:=length_le<|ajm hB.agC w;simp;omega
def FZ:∀a:List Int,kn a a=false
 |[]=>rfl
 |x::a=>by simp[kn];exact FZ a
def LI(a:List Int):beforeL a a=false:=by unfold beforeL;simp[FZ]
def Ar:∀{a b c:List Int},kn a b=true->kn b c=true->kn a c=true
 |[],_,_,h,_=>by simp[kn]at h
 |_::_,[],_,h,_=>by simp[kn]at h
 |_::_,_::_,[],_,g=>by simp[kn]at g
 |x::a,y::b,z::c,h,g=>by
  simp[kn]at h g⊢;by_cases h1:x=y
  ·subst h1;by_cases h2:x=z
   ·subst h2;simp at h g⊢;exact Ar h g
   simp[h2]at g⊢;exact g
  simp[h1]at h;by_cases h2:y=z
  ·subst h2;simp[h1];exact h
  simp[h2]at g;have:x≠z:=by omega
  simp[this];omega
def ES{c:List Int}(h:beforeL a b=true)(g:beforeL b c=true):beforeL a c=true:=by
 unfold beforeL at*;by_cases h1:a.sum=b.sum
 ·by_cases h2:b.sum=c.sum
  ·rw[if_neg<|by simpa using h1]at h;rw[if_neg<|by simpa using h2]at g;rw[if_neg<|by simp;omega];exact Ar h g
  rw[if_pos h2]at g;rw[if_pos<|by simp;omega];simp at *;omega
 rw[if_pos h1]at h;by_cases h2:b.sum=c.sum
 ·rw[if_pos<|by simp;omega];simp at *;omega
 rw[if_pos h2]at g;simp only[decide_eq_true_eq]at*;rw[if_pos<|by simp;omega];simp;omega
def FY:∀{a b:List Int},a.length=b.length->kn a b=false->kn b a=false->a=b
 |[],[],_,_,_=>rfl
 |[],_::_,h,_,_=>by cases h
 |_::_,[],h,_,_=>by cases h
 |x::a,y::b,h,g1,g2=>by
  simp[kn]at g1 g2;by_cases h1:x=y
  ·subst h1;simp at g1 g2;rw[FY (by simpa using h) g1 g2]
  have h2:¬y=x:=λe=>h1 e.symm;simp[h1,h2]at g1 g2;omega
def LH(hl:a.length=b.length)(h:beforeL a b=false)(hn:a≠b):beforeL b a=true:=by
 unfold beforeL at*;by_cases h1:a.sum=b.sum
 ·rw[if_neg<|by simpa using h1]at h;rw[if_neg<|by simp;omega];rcases Bool.eq_false_or_eq_true (kn b a)with g|g
  ·exact g
  exact absurd (FY hl h g) hn
 rw[if_pos h1]at h;rw[if_pos<|by simp;omega];simp at *;omega
def yL(t:cN):List cN->List cN
 |[]=>if t.c=0 then[]else[t]
 |u::r=>if beforeL u.pw t.pw=true then u::yL t r else if u.pw=t.pw then(if u.c+t.c=0 then r else⟨u.c+t.c,t.pw⟩::r)else if t.c=0 then u::r else t::u::r
def sE:∀(p:List cN)(t:cN),me p t=yL t p
 |[],t=>by simp[me,we,yL];split<;>simp_all
 |u::r,t=>by
  have ih:=sE r t;unfold me yL;unfold me at ih;by_cases h:beforeL u.pw t.pw=true
  ·simp only[List.takeWhile_cons,List.dropWhile_cons,h,if_true,agL];rw[ih]
  simp[h,we];by_cases h2:u.pw=t.pw
  all_goals simp[h2];split<;>simp
def Srt(p:List cN):Prop:=p.Pairwise λa b=>beforeL a.pw b.pw=true
def BE{t:cN}:∀{p:List cN}{u:cN},u∈yL t p->u∈p\/u.pw=t.pw
 |[],u,h=>by
  simp only[yL]at h;split at h
  ·cases h
  simp at h;subst h;exact .inr rfl
 |v::r,u,h=>by
  simp[yL]at h;split at h
  ·rcases aci.1 h with rfl|h
   ·simp_all
   rcases BE h with h|h
   ·simp_all
   exact .inr h
  split at h
  ·split at h
   ·simp_all
   rcases aci.1 h with rfl|h
   ·exact .inr rfl
   simp_all
  split at h
  ·exact .inl h
  rcases aci.1 h with rfl|h
  ·exact .inr rfl
  exact .inl h
def Ki{t:cN}{V:Nat}(ht:t.pw.length=V):∀{p:List cN},(∀u∈p,u.pw.length=V)->Srt p->Srt (yL t p)
 |[],_,_=>by simp[yL];split<;>simp[Srt]
 |v::r,hl,h=>by
  have h1:∀u∈r,beforeL v.pw u.pw=true:=λu hu=>List.rel_of_pairwise_cons h hu;have h2:=List.Pairwise.of_cons h;simp[yL];split
  ·rename_i hb;refine List.Pairwise.cons (λu hu=>?_)<|Ki ht (λu hu=>hl u<|by simp[hu]) h2;rcases BE hu with hu|hu
   ·exact h1 u hu
   rw[hu];exact hb
  rename_i hb;split
  ·rename_i he;split
   ·exact h2
   exact List.Pairwise.cons (λu hu=>by have:=h1 u hu;rw[he]at this;exact this) h2
  rename_i he;split
  ·exact h
  have hv:=LH ((hl v<|by simp).trans ht.symm) (by simpa using hb) he;refine List.Pairwise.cons (λu hu=>?_) h;rcases aci.1 hu with rfl|hu
  ·exact hv
  exact ES hv<|h1 u hu
def yG{α:Type}[DecidableEq α]:∀{l m:List α},l.Nodup->(∀x∈l,x∈m)->l.length<=m.length
 |[],_,_,_=>by simp
 |x::l,m,hn,hs=>by
  have hx:=hs x (by simp);have h1:=adm.1 hn;have:=yG (l:=l) (m:=m.erase x) h1.2 λy hy=>by
   have:y≠x:=by rintro rfl;exact h1.1 hy
   simp_all
  rw[List.length_erase_of_mem hx]at this;have:=List.length_pos_of_mem hx;simp;omega
def Qq(d:Nat):Nat->List (List Int)
 |0=>[[]]
 |V+1=>(Qq d V).flatMap λv=>(List.range<|d+1).map λ(x:Nat)=>(x:Int)::v
def sV{α β:Type}{f:α->List β}{c:Nat}(h:∀a,(f a).length=c):∀l:List α,(l.flatMap f).length=l.length*c
 |[]=>by simp
 |a::l=>by rw[ajz,acW,h,sV h l,acU,aiv];omega
def IQ(d:Nat):∀V,(Qq d V).length=(d+1)^V
 |0=>rfl
 |V+1=>by rw[Qq,sV (c:=d+1) λv=>by simp,IQ d V,ady]
def JV{d:Nat}:∀{v:List Int},(∀x∈v,0<=x/\x<=d)->v∈Qq d v.length
 |[],_=>by simp[Qq]
 |x::v,h=>by have h1:=h x (by simp);have h2:=JV (v:=v) λy hy=>h y (by simp[hy]);simp only[acU,Qq,adL,ac0,ae5];exact⟨v,h2,x.toNat,by omega,by congr 1;omega⟩
def kV:∀{v:List Int},(∀x∈v,0<=x)->∀x∈v,x<=v.sum
 |[],_,x,hx=>by cases hx
 |y::v,h,x,hx=>by
  have h0:0<=v.sum:=by
   clear hx;have h':∀z∈v,0<=z:=λz hz=>h z (by simp[hz])
   induction v with
   |nil=>simp
   |cons z v ih=>have:=h' z (by simp);have:=ih (λw hw=>h w<|by rcases aci.1 hw with rfl|hw<;>simp[*]) λw hw=>h' w (by simp[hw]);simp;omega
  have hy:=h y (by simp);simp;rcases aci.1 hx with rfl|hx
  ·omega
  have:=kV (v:=v) (λz hz=>h z<|by simp[hz]) x hx;omega
def nd(V:Nat)(d:Int)(v:List Int):Prop:=v.length=V/\(∀x∈v,0<=x)/\v.sum<=d
def WX{d:Nat}{p:List cN}(hs:Srt p)(h:∀u∈p,nd V d u.pw):p.length<=(d+1)^V:=by
 rw[<-IQ d V,<-acZ (f:=cN.pw)];refine yG ?_ ?_
 ·rw[List.Nodup,List.pairwise_map];refine List.Pairwise.imp (λ{a b}Ss he=>?_) hs;rw[he,LI]at Ss;simp_all
 intro x hx;obtain⟨u,hu,rfl⟩:=ac0.1 hx;obtain⟨h1,h2,h3⟩:=h u hu;rw[<-h1];exact JV λx hx=>⟨h2 x hx,afE (kV h2 x hx) h3⟩
def FH{V:Nat}:∀{l p:List cN},(∀u∈l,u.pw.length=V)->(∀u∈p,u.pw.length=V)->Srt p->Srt (l.foldl me p)/\∀u∈l.foldl me p,u.pw.length=V
 |[],p,_,h,hp=>⟨hp,h⟩
 |t::l,p,hl,h,hp=>by
  have ht:=hl t (by simp);refine FH (l:=l) (p:=me p t) (λu hu=>hl u<|by simp[hu]) (λu hu=>?_) ?_
  ·rw[sE]at hu;rcases BE hu with hu|hu
   ·exact h u hu
   rw[hu];exact ht
  rw[sE];exact Ki ht h hp
def Cq:∀{l p:List cN}{u:cN},u∈l.foldl me p->(∃t∈l,u.pw=t.pw)\/∃t∈p,u.pw=t.pw
 |[],p,u,h=>.inr ⟨u,h,rfl⟩
 |t::l,p,u,h=>by
  rcases Cq (l:=l) (p:=me p t) h with⟨v,hv,e⟩|⟨v,hv,e⟩
  ·exact .inl ⟨v,by simp[hv],e⟩
  rw[sE]at hv;rcases BE hv with hv|hv
  ·exact .inr ⟨v,hv,e⟩
  simp_all
def O7{D M w n m:Nat}{t:cN}(ht:Wn D M m w t.c):∀{p:List cN},(∀u∈p,Wn D M n w u.c)->∀u∈yL t p,Wn D M (n+m) w u.c
 |[],_,u,hu=>by
  simp only[yL]at hu;split at hu
  ·cases hu
  simp at hu;subst hu;exact ht.le (by omega)
 |v::r,h,u,hu=>by
  have hr:∀u∈v::r,Wn D M (n+m) w u.c:=λu hu=>(h u hu).le (by omega);simp[yL]at hu;split at hu
  ·rcases aci.1 hu with rfl|hu
   ·simp_all
   exact O7 ht (λu hu=>h u<|by simp[hu]) u hu
  split at hu
  ·split at hu
   ·simp_all
   rcases aci.1 hu with rfl|hu
   ·exact(h v<|by simp).add ht
   simp_all
  split at hu
  ·exact hr u hu
  rcases aci.1 hu with rfl|hu
  ·exact ht.le (by omega)
  exact hr u hu
def JP{D M w:Nat}:∀{l p:List cN}{n:Nat},(∀u∈l,Wn D M 1 w u.c)->(∀u∈p,Wn D M n w u.c)->∀u∈l.foldl me p,Wn D M (n+l.length) w u.c
 |[],p,n,_,hp=>hp
 |t::l,p,n,hl,hp=>by
  intro u hu;have:=JP (l:=l) (p:=me p t) (n:=n+1) (λu hu=>hl u<|by simp[hu]) (λu hu=>by rw[sE]at hu;exact O7 (hl t<|by simp) hp u hu) u hu
  rw[acU];exact this.le (by omega)
def PW(D M V:Nat)(d:Int)(w:Nat)(l:List cN):Prop:=∀u∈l,nd V d u.pw/\Wn D M 1 w u.c
def PW.mono{e:Int}(hB:qk D M k)(h:PW D M V d w l)(hd:d<=e)(hw:w<=v):PW D M V e v l:=λu hu=>⟨⟨(h u hu).1.1,(h u hu).1.2.1,afE (h u hu).1.2.2 hd⟩,(h u hu).2.up hB hw⟩
def PW.append{m:List cN}(h:PW D M V d w l)(g:PW D M V d w m):PW D M V d w (l++m):=λu hu=>(ac5.1 hu).elim (h u)<|g u
def PW.nil:PW D M V d w []:=λ_ h=>by cases h
structure bP(D M V:Nat)(d:Int)(w:Nat)(p:List cN):Prop where
 srt:Srt p
 pw:PW D M V d w p
def bP.mono{e:Int}(hB:qk D M k)(h:bP D M V d w l)(hd:d<=e)(hw:w<=v):bP D M V e v l:=⟨h.srt,h.pw.mono hB hd hw⟩
def bP.nil:bP D M V d w []:=⟨List.Pairwise.nil,PW.nil⟩
def QS(h:V<=9):(6+1)^V<=40353607:=acX (adD (by decide) h) (by decide)
def bP.len{p:List cN}(h:bP D M V d w p)(hV:V<=9)(hd:d<=6):p.length<=40353607:=acX (WX (V:=V) (d:=6) h.srt λu hu=>⟨(h.pw u hu).1.1,(h.pw u hu).1.2.1,afE (h.pw u hu).1.2.2 hd⟩) (QS hV)
def nd.ok{v:List Int}(h:nd V d v)(hV:V<=9)(hd:d<=6):PwB v:=by obtain⟨h1,h2,h3⟩:=h;exact⟨by omega,λx hx=>⟨h2 x hx,by have:=kV h2 x hx;omega⟩⟩
def PW.tok(hB:qk D M k)(h:PW D M V d w l)(hV:V<=9)(hd:d<=6)(hK:k*w+2<=K):∀u∈l,Ea V K u:=by intro u hu;obtain⟨h1,h2⟩:=h u hu;refine⟨h1.1,h1.ok hV hd,(h2.sz hB).mono ?_⟩;rw[iz];simp;omega
def PW.norm(hB:qk D M k)(h:PW D M V d w l)(hl:l.length<=10^18):bP D M V d (w+1) (fN l):=by
 refine⟨(FH (V:=V) (λu hu=>(h u hu).1.1) (by simp) List.Pairwise.nil).1,λu hu=>⟨?_,?_⟩⟩
 ·rcases Cq hu with⟨t,ht,e⟩|⟨t,ht,e⟩
  ·rw[e];exact(h t ht).1
  cases ht
 have:=JP (n:=0) (λu hu=>(h u hu).2) (by simp) u hu;exact this.one hB (by omega)
def vL(V K:Nat)(l:List cN):Prop:=(∀u∈l,Ea V K u)/\∀m,m <+:l->(∀u∈fN m,Ea V K u)/\(fN m).length<2^30
def PW.nok(hB:qk D M k)(h:PW D M V d w l)(hV:V<=9)(hd:d<=6)(hl:l.length<=10^18)(hK:k*(w+1)+2<=K):vL V K l:=by refine⟨h.tok hB hV hd<|acX (af7 (adQ k<|ag9 w) 2) hK,λm hm=>?_⟩;have h1:PW D M V d w m:=λu hu=>h u<|hm.subset hu;have h2:=h1.norm hB (by have:=hm.length_le;omega);exact⟨h2.pw.tok hB hV hd hK,by have:=h2.len hV hd;omega⟩
def py(c:Rat)(p:List cN):List cN:=p.map λt=>⟨c*t.c,t.pw⟩
def kJ(c:Rat)(p:List cN):List cN:=fN<|py c p
def PW.Zn(hc:Wn D M 1 v c)(h:PW D M V d w l):PW D M V d (v+w) (py c l):=by intro u hu;obtain⟨t,ht,rfl⟩:=ac0.1 hu;exact⟨(h t ht).1,hc.mul (h t ht).2⟩
def jv(a b:List cN):List cN:=a.flatMap λt=>b.map λu=>⟨t.c*u.c,List.zipWith (·+ ·) t.pw u.pw⟩
def lI(a b:List cN):List cN:=fN<|jv a b
def Ox:∀{a b:List Int},a.length=b.length->(List.zipWith (·+ ·) a b).sum=a.sum+b.sum
 |[],[],_=>by simp
 |[],_::_,h=>by cases h
 |_::_,[],h=>by cases h
 |x::a,y::b,h=>by have:=Ox (a:=a) (b:=b) (by simpa using h);simp;omega
def BK:∀{a b:List Int},(∀x∈a,0<=x)->(∀x∈b,0<=x)->∀x∈List.zipWith (·+ ·) a b,0<=x
 |[],_,_,_,_,hx=>by cases hx
 |_::_,[],_,_,_,hx=>by cases hx
 |y::a,z::b,ha,hb,x,hx=>by
  have h1:=ha y (by simp);have h2:=hb z (by simp);rcases aci.1 hx with rfl|hx
  ·show 0<=y+z;omega
  exact BK (λx hx=>ha x<|by simp[hx]) (λx hx=>hb x<|by simp[hx]) x hx
def nd.zip{e:Int}(ha:nd V d a)(hb:nd V e b):nd V (d+e) (List.zipWith (·+ ·) a b):=by refine⟨by rw[List.length_zipWith,ha.1,hb.1];omega,BK ha.2.1 hb.2.1,?_⟩;rw[Ox<|ha.1.trans hb.1.symm];have:=ha.2.2;have:=hb.2.2;omega
def PW.mul{e:Int}{a b:List cN}(ha:PW D M V d w a)(hb:PW D M V e v b):PW D M V (d+e) (w+v) (jv a b):=by intro u hu;obtain⟨t,ht,hu⟩:=adL.1 hu;obtain⟨s,hs,rfl⟩:=ac0.1 hu;exact⟨(ha t ht).1.zip (hb s hs).1,by simpa using(ha t ht).2.mul (hb s hs).2⟩
def TO(a b:List cN):(jv a b).length=a.length*b.length:=sV (λt=>by simp) a
def AN(v:Nat)(t:cN):List cN:=if 0<t.pw.getD v 0 then[⟨t.c*((t.pw.getD v 0:Int):Rat),t.pw.set v<|t.pw.getD v 0-1⟩]else[]
def pZ(p:List cN)(v:Nat):List cN:=p.flatMap<|AN v
def uf(p:List cN)(v:Nat):List cN:=fN<|pZ p v
def G7:∀{a:List Int}{v:Nat}{x:Int},v<a.length->(a.set v x).sum=a.sum-a.getD v 0+x
 |[],_,_,h=>by cases h
 |y::a,0,x,_=>by simp;omega
 |y::a,v+1,x,h=>by have:=G7 (a:=a) (v:=v) (x:=x) (by simpa using h);simp only[List.set_cons_succ,List.sum_cons,ajo];omega
def JW{x y:Int}(h:y∈a.set v x):y∈a\/y=x:=aif h
def Wn.int(n:Int):Wn D M n.natAbs 0 (n:Rat):=⟨n,by simp,by simp⟩
def PW.der{p:List cN}(hB:qk D M k)(h:PW D M V d w p)(hd:d<=6)(v:Nat)(hv:v<V):PW D M V (d-1) (w+1) (pZ p v):=by
 intro u hu;obtain⟨t,ht,hu⟩:=adL.1 hu;obtain⟨⟨h1,h2,h3⟩,h4⟩:=h t ht;unfold AN at hu;split at hu
 ·rename_i hp;have hm:t.pw.getD v 0∈t.pw:=bz (by omega);have hle:=kV h2 _ hm;rw[agO]at hu;subst hu;refine⟨⟨by simpa using h1,λx hx=>?_,?_⟩,?_⟩
  ·rcases JW hx with hx|rfl
   ·exact h2 x hx
   omega
  ·rw[G7<|by omega];omega
  have:=h4.mul<|Wn.int (D:=D) (M:=M)<|t.pw.getD v 0;exact this.one hB (by omega)
 cases hu
def Dx(p:List cN)(v:Nat):(pZ p v).length<=p.length:=by
 unfold pZ
 induction p with
 |nil=>simp
 |cons t p ih=>
  have:(AN v t).length<=1:=by unfold AN;split<;>simp
  rw[ajz,acW,acU];omega
def fQ(c:Rat)(n:Nat):List cN:=if c=0 then[]else[⟨c,List.replicate (n+1) 0⟩]
def vN(v n:Nat):List cN:=[⟨1,(List.replicate (n+1) 0).set v 1⟩]
def OP(n:Nat):(List.replicate n (0:Int)).sum=0:=by
 induction n with
 |zero=>rfl
 |succ n ih=>rw[ag7,List.sum_cons,ih];rfl
def bP.const(h:Wn D M 1 w c):bP D M (n+1) 0 w (fQ c n):=by
 unfold fQ;split
 ·exact bP.nil
 refine⟨List.pairwise_singleton _ _,λu hu=>?_⟩;simp at hu;subst hu;exact⟨⟨by simp,λx hx=>by have:=ahw hx;omega,by rw[OP];exact adq _⟩,h⟩
def Wn.aaX:Wn D M 1 0 1:=⟨1,by simp,by simp⟩
def bP.var(hv:v<=n):bP D M (n+1) 1 0 (vN v n):=by
 refine⟨List.pairwise_singleton _ _,λu hu=>?_⟩;simp[vN]at hu;subst hu;refine⟨⟨by simp,λx hx=>?_,?_⟩,Wn.aaX⟩
 ·rcases JW hx with hx|rfl
  ·have:=ahw hx;omega
  decide
 show(List.set _ _ _).sum<=1;rw[G7<|by simp;omega];simp[agP];split<;>simp
end
section
variable{a b:List Int}{p:List cN}{K L V i v:Nat}
def qK(l:List cN)(h:vL V K l)(hn:l.length<2^50)(hK:K+K+1<2^34):aL Tryz.prog 217 [de false l] (de false<|fN l):=by
 refine bE Tryz.func217 rfl<|r0 rfl<|loop (λi:Nat=>[(0,de false l),(3,de false<|fN<|l.take i),(4,.i i)]) (λi=>i<=l.length) (λi=>l.length-i) 0 (abC _) ⟨ab,ab,ab,ao⟩ ?_;intro i hi;refine r0 rfl<|bH rfl (λh1=>?_) (λh1=>?_)
 ·have aZ:i<l.length:=by omega
  have ei:(i:Int).toNat=i:=by omega
  have eg:l.getD i default=l[i]:=aw aZ;obtain⟨h3,h4⟩:=h.2 (l.take i)<|List.take_prefix _ _;refine r1 rfl (by simp[ag,ei];omega) ?_;refine cl rfl (by rw[ei,eg];rfl) (Ah (fN<|l.take i) l[i] (V:=V) (K:=K) h3 (h.1 _<|ab9 aZ) (by omega)<|by omega) rfl ?_;rw[<-MN aZ];refine r1 rfl (by simp[ag];omega) ?_;exact again (i+1) (by omega) (by omega) ⟨ab,ab,ab,ao⟩
 refine r0 rfl<|aG rfl<|an.of_eq<|congrArg (de false) ?_;rw[acR<|by omega]
def l0(a b:List cN)(h:vL V K (a++b))(hn:a.length+b.length<2^40)(hK:K+K+1<2^34):
 aL Tryz.prog 144 [de false a,de false b] (de false<|EV a b):=by
 refine bE Tryz.func144 rfl<|r1 rfl (by simp[ag,len];refine⟨λx=>rfl,λx=>rfl,?_,λx=>rfl,λx=>rfl,?_⟩<;>omega) ?_;refine Il rfl rfl ao (by refine⟨⟨rfl,rfl,?_⟩,ao⟩;rw[uO,nI λ_=>rfl,nI λ_=>rfl,c8,<-ac9]) (qK (a++b) h (by rw[acW];omega) hK) rfl ?_
 refine r0 rfl<|bB rfl
def QF{c:Rat}(h:i<p.length):py c (p.take<|i+1)=py c (p.take i)++[⟨c*p[i].c,p[i].pw⟩]:=by unfold py;rw[ac6 h,ac9];rfl
def Jg(c:Rat)(p:List cN):(py c p).length=p.length:=by unfold py;simp
def mB(c:Rat)(p:List cN)(hc:Sz c L)(hp:∀u∈p,Ea V K u)(h:vL V K (py c p))(hn:p.length<2^40)(hK:K+K+1<2^34)(hL:L+K<2^34):
 aL Tryz.prog 145 [.s<|qt c,de false p] (de false<|kJ c p):=by
 refine bE Tryz.func145 rfl<|r0 rfl<|loop (λi:Nat=>[(0,.s<|qt c),(1,de false p),(5,de true<|py c<|p.take i),(6,.i i)]) (λi=>i<=p.length) (λi=>p.length-i) 0 (abC _) ⟨ab,ab,ab,ab,ao⟩ ?_;intro i hi;refine r0 rfl<|bH rfl (λh1=>?_) (λh1=>?_)
 ·have aZ:i<p.length:=by omega
  have ei:(i:Int).toNat=i:=by omega
  have eg:p.getD i default=p[i]:=aw aZ;have RA:=hp _<|ab9 aZ;have hl:(py c<|p.take i).length=i:=by rw[Jg,ac2];omega
  refine r1 rfl (by simp[ag,and_true,ei];omega) ?_;refine cd rfl (by rw[ei,eg];rfl) (fT c p[i].c hc RA.2.2<|by omega) rfl ?_;refine k1 rfl (by kernel_rfl) (by simp[ag,and_true,ei,len,hl,acZ,acU,acY]<;>omega) ?_;refine again (i+1) (by omega) (by omega) ⟨ab,ab,⟨rfl,rfl,rfl,?_⟩,ab,ao⟩;rw[ei,eg,c8,QF aZ,ac9];exact jd.append (jd.refl _) ⟨.inr rfl,rfl⟩
 have e:py c (p.take i)=py c p:=by rw[acR<|by omega]
 rw[e];refine r0 rfl<|bF rfl (qK (py c p) h (by rw[Jg];omega) hK) rfl ?_;refine r0 rfl<|bB rfl
def sC(t u:cN):cN:=⟨t.c*u.c,List.zipWith (·+ ·) t.pw u.pw⟩
def FL{a b:List cN}(h:i<a.length):jv (a.take<|i+1) b=jv (a.take i) b++b.map (sC a[i]):=by unfold jv;rw[ac6 h,ai4];simp[sC]
def JS{a b:List cN}{k:Nat}(h:i<a.length):jv (a.take i) b++(b.take k).map (sC a[i]) <+:jv a b:=by
 have h1:jv (a.take<|i+1) b <+:jv a b:=by
  conv=>rhs;rw[<-ahg (i+1) a]
  unfold jv;rw[ai4];simp_all
 refine List.IsPrefix.trans ?_ h1;rw[FL h];exact(List.prefix_append_right_inj _).2<|(List.take_prefix k b).map _
def MO(l:List cN)(t:cN):fN (l++[t])=me (fN l) t:=by unfold fN;rw[afW];rfl
def sf(a b:List Int)(v:Nat):List Int:=List.zipWith (·+ ·) (a.take v) (b.take v)++a.drop v
def Qk(h:a.length=b.length)(v:Nat):(sf a b v).length=a.length:=by unfold sf;simp;omega
def BL(h:a.length=b.length)(hv:v<a.length):(sf a b v).getD v 0=a.getD v 0:=by
 have hl:(List.zipWith (·+ ·) (a.take v)<|b.take v).length=v:=by simp;omega
 unfold sf;rw[aca,adX<|by omega,hl];simp
def Qj(h:a.length=b.length)(hv:v<a.length):(sf a b v).set v (a.getD v 0+b.getD v 0)=sf a b (v+1):=by
 have hl:(List.zipWith (·+ ·) (a.take v)<|b.take v).length=v:=by simp;omega
 unfold sf;rw[List.set_append_right _ _<|by omega,hl,agM,ac4 hv,ac6 hv,ac6 (h▸hv),
  List.zipWith_append (by simp;omega),aw hv,aw (h▸hv),acV]
 rfl
def Ql(h:a.length=b.length):sf a b a.length=List.zipWith (·+ ·) a b:=by unfold sf;rw[adF,h,adF,adt<|by omega,adw]
def oZ(a b:List cN){M:Nat}(ha:∀u∈a,Ea V L u)(hb:∀u∈b,Ea V M u)(h:vL V K (jv a b))(hna:a.length<2^40)(LX:b.length<2^40)(hV:V<2^40)(hK:K+K+1<2^34)(hL:L+M<2^34):
 aL Tryz.prog 147 [de false a,de false b] (de false<|lI a b):=by
 refine bE Tryz.func147 rfl<|r0 rfl<|loop (λi:Nat=>[(0,de false a),(1,de false b),(5,de false<|fN<|jv (a.take i) b),(6,.i i)]) (λi=>i<=a.length) (λi=>a.length-i) 0 (abC _) ⟨ab,ab,ab,ab,ao⟩ ?_;intro i hi;refine r0 rfl<|bH rfl (λh1=>?_) (λh1=>?_)
 ·have aZ:i<a.length:=by omega
  have ei:(i:Int).toNat=i:=by omega
  have eg:a.getD i default=a[i]:=aw aZ;have hai:=ha _<|ab9 aZ;refine r0 rfl<|loop (λk:Nat=>[(0,de false a),(1,de false b),(5,de false<|fN<|jv (a.take i) b++(b.take k).map (sC a[i])),(6,.i i),(7,.i k)]) (λk=>k<=b.length) (λk=>b.length-k) 0 (abC _) ⟨ab,ab,⟨rfl,an.of_eq<|congrArg (de false)<|by simp⟩,ab,ab,ao⟩ ?_;intro k hk;refine r0 rfl<|bH rfl (λh2=>?_) (λh2=>?_)
  ·have gp:k<b.length:=by omega
   have ek:(k:Int).toNat=k:=by omega
   have Dm:b.getD k default=b[k]:=aw gp;have yc:=hb _<|ab9 gp;have hlen:a[i].pw.length=b[k].pw.length:=hai.1.trans yc.1.symm;have IK:=hai.2.1.1;have eR:fN (jv (a.take i) b++(b.take<|k+1).map (sC a[i]))=me (fN<|jv (a.take i) b++(b.take k).map (sC a[i])) (sC a[i] b[k]):=by rw[ac6 gp,ac9,<-acV];exact MO _ _
   obtain⟨h3,h4⟩:=h.2 _<|JS (b:=b) (k:=k) aZ;have h5:Ea V K (sC a[i] b[k]):=h.1 _ (by refine adL.2 ⟨a[i],ab9 aZ,?_⟩;exact ac0.2 ⟨b[k],ab9 gp,rfl⟩)
   refine r1 rfl (by simp only[ag,and_true,ei,eg,len,acY];omega) ?_;rw[ei,eg];refine loop (λv:Nat=>[(0,de false a),(1,de false b),(5,de false<|fN<|jv (a.take i) b++(b.take k).map (sC a[i])),(6,.i i),(7,.i k),(8,.ints .i64 true<|sf a[i].pw b[k].pw v),(9,.i v)])
    (λv=>v<=a[i].pw.length) (λv=>a[i].pw.length-v) 0 (abC _) ⟨ab,ab,ab,ab,ab,⟨rfl,an.of_eq<|congrArg (SV.ints .i64 true)<|by simp[sf,c8]⟩,ab,ao⟩ ?_
   intro v hv;have hzl:=Qk hlen v;refine r0 rfl<|bH rfl (λh6=>?_) (λh6=>?_)
   ·have hv':v<a[i].pw.length:=by omega
    have ev:(v:Int).toNat=v:=by omega
    have hx:=hai.2.1.2 _<|bz (d:=0) hv';have hy:=yc.2.1.2 _<|bz (d:=0) (hlen▸hv');refine k1 rfl (by kernel_rfl) (by simp only[ag,and_true,ek,Dm,ev,BL hlen hv',hzl];omega) ?_;refine again (v+1) (by omega) (by omega) ⟨ab,ab,ab,ab,ab,⟨rfl,an.of_eq<|congrArg (SV.ints .i64 true) ?_⟩,ab,ao⟩;rw[ek,Dm,ev,BL hlen hv',Qj hlen hv']
   have ev:v=a[i].pw.length:=by omega
   subst ev;rw[Ql hlen];refine r1 rfl (by simp only[ag,and_true,ei,ek];omega) ?_;refine cd rfl (by rw[ei,ek,eg,Dm];rfl) (fT a[i].c b[k].c hai.2.2 yc.2.2 hL) rfl ?_;refine r1 rfl (by simp only[ag,and_true])<|bG rfl (Ah (fN<|jv (a.take i) b++(b.take k).map (sC a[i])) (sC a[i] b[k]) (V:=V) (K:=K) h3 h5 (by omega)<|by omega) rfl ?_;rw[<-eR];refine k1 rfl (by kernel_rfl) (by simp only[ag,and_true];omega) ?_;exact again (k+1) (by omega) (by omega) ⟨ab,ab,ab,ab,ab,ao⟩
  have ek:k=b.length:=by omega
  refine r1 rfl (by simp only[ag,and_true];omega) ?_;refine again (i+1) (by omega) (by omega) ⟨ab,ab,⟨rfl,an.of_eq<|congrArg (de false) ?_⟩,ab,ao⟩;rw[FL aZ,ek,adF]
 refine r0 rfl<|aG rfl<|an.of_eq<|congrArg (de false) ?_;rw[acR<|by omega];rfl
def Gq(h:i<p.length):pZ (p.take<|i+1) v=pZ (p.take i) v++AN v p[i]:=by unfold pZ;rw[ac6 h,ai4];simp
def pY(p:List cN)(v:Nat)(hp:∀u∈p,Ea V L u)(h:vL V K (pZ p v))(hv:v<V)(hn:p.length<2^40)(hK:K+K+1<2^34)(hL:L+3<2^34):
 aL Tryz.prog 219 [de false p,.i v] (de false<|uf p v):=by
 refine bE Tryz.func219 rfl<|r0 rfl<|loop (λi:Nat=>[(0,de false p),(1,.i v),(5,de true<|pZ (p.take i) v),(6,.i i)]) (λi=>i<=p.length) (λi=>p.length-i) 0 (abC _) ⟨ab,ab,ab,ab,ao⟩ ?_;intro i hi;refine r0 rfl<|bH rfl (λh1=>?_) (λh1=>?_)
 ·have aZ:i<p.length:=by omega
  have ei:(i:Int).toNat=i:=by omega
  have eg:p.getD i default=p[i]:=aw aZ;have RA:=hp _<|ab9 aZ;have hl:(pZ (p.take i) v).length<=i:=acX (Dx _ _) (by rw[ac2];omega);have evv:(v:Int).toNat=v:=by omega
  have Ek:v<p[i].pw.length:=by rw[RA.1];exact hv
  have hx:=RA.2.1.2 _<|bz (d:=0) Ek;have iD:=RA.2.1.1;refine r1 rfl (by simp only[ag,and_true,ei,eg,evv];omega) ?_;refine bH rfl (λh2=>?_) (λh2=>?_)
  ·rw[ei,eg,evv]at h2;have h2:0<p[i].pw.getD v 0:=h2;have hz:Sz ((p[i].pw.getD v 0:Int):Rat) 3:=by
    refine⟨?_,?_⟩
    ·rw[Rat.num_intCast];exact ji (by omega)
    rw[Rat.den_intCast,iz];decide
   refine r1 rfl (by simp only[ag,and_true,ei,eg,evv,len];omega) ?_;refine cd rfl (by rw[ei,eg,evv];rfl) (uD (p[i].pw.getD v 0)<|by omega) rfl ?_;refine r1 rfl (by simp[ag,and_true])<|cd rfl (by rw[ei,eg];rfl) (fT p[i].c ((p[i].pw.getD v 0:Int):Rat) RA.2.2 hz hL) rfl ?_;refine k1 rfl (by kernel_rfl) (by simp[ag,and_true,ei,len,acZ,acU,acY]<;>omega) ?_;refine again (i+1) (by omega) (by omega) ⟨ab,ab,⟨rfl,rfl,rfl,?_⟩,ab,ao⟩;rw[ei,eg,evv,c8,Gq aZ,ac9,AN,if_pos h2];exact jd.append (jd.refl _) ⟨.inr rfl,rfl⟩
  rw[ei,eg,evv]at h2;have h2:¬0<p[i].pw.getD v 0:=h2;refine r1 rfl (by simp[ag,and_true];omega) ?_;refine again (i+1) (by omega) (by omega) ⟨ab,ab,⟨rfl,an.of_eq<|congrArg (de true) ?_⟩,ab,ao⟩;rw[Gq aZ,AN,if_neg h2,adw]
 have e:pZ (p.take i) v=pZ p v:=by rw[acR<|by omega]
 rw[e];refine r0 rfl<|bF rfl (qK (pZ p v) h (by have:=Dx p v;omega) hK) rfl ?_;refine r0 rfl<|bB rfl
def tg(c:Rat)(n:Nat)(hn:n<2^40):aL Tryz.prog 146 [.s<|qt c,.i n] (de false<|fQ c n):=by
 refine bE Tryz.func146 rfl<|r0 rfl<|bF rfl (nc c) rfl<|nB rfl rfl rfl (λh=>?_) (λh=>?_)
 ·have h:c=0:=by simpa using h
  refine r0 rfl<|aG rfl ?_;unfold fQ;rw[if_pos h];exact rfl
 have h:¬c=0:=by simpa using h
 refine r1 rfl (by simp[ag];omega) ?_;unfold fQ;rw[if_neg h];refine Xe rfl<|kL
def sg(v n:Nat)(hv:v<=n)(hn:n<2^40):aL Tryz.prog 141 [.i v,.i n] (de false<|vN v n):=by
 refine bE Tryz.func141 rfl<|r1 rfl (by simp[ag];omega) ?_;have e:(vN v n).map NQ=[SV.agg [.s [49],.ints .i64 false<|(List.replicate (n+1) 0).set v 1]]:=by simp[vN,NQ,MC]
 refine Xe rfl<|⟨rfl,rfl,e.symm⟩
noncomputable def vh(p:List cN):Int:=if(∃u∈p,12<u.pw.sum)then 4 else if 64<p.length then 5 else if∃u∈p,vg u.c≠0 then 4 else 0
def Bb(p:List cN)(hp:∀u∈p,Ea V K u)(hn:p.length<2^50)(hK:K<2^36):aL Tryz.prog 140 [de false p] (.i<|vh p):=by
 refine bE Tryz.func140 rfl<|b8 2 [(0,de false p)] (¬∃u∈p,12<u.pw.sum) ?_ λhd=>?_
 ·refine r0 rfl<|loop (λi:Nat=>[(0,de false p),(3,.i i)]) (λi=>i<=p.length/\¬∃u∈p.take i,12<u.pw.sum) (λi=>p.length-i) 0 ⟨abC _,by simp⟩ ⟨ab,ab,ao⟩ ?_;rintro i⟨hi,hf⟩;refine r0 rfl<|bH rfl (λh1=>?_) (λh1=>?_)
  ·have aZ:i<p.length:=by omega
   have ei:(i:Int).toNat=i:=by omega
   have eg:p.getD i default=p[i]:=aw aZ;have RA:=hp _<|ab9 aZ;refine r1 rfl (by simp[ag,and_true,ei];omega) ?_;refine cl rfl (by rw[ei,eg];rfl) (kW p[i].pw RA.2.1) rfl ?_;refine r0 rfl<|bH rfl (λh2=>?_) (λh2=>?_)
   ·refine r0 rfl<|aG rfl<|bC ?_;unfold vh;rw[if_pos ⟨_,ab9 aZ,h2⟩]
   refine r1 rfl (by simp[ag,and_true];omega) ?_;refine again (i+1) (by omega) ⟨by omega,?_⟩ ⟨ab,ab,ao⟩;rw[ac6 aZ];rintro⟨u,hu,g⟩;rcases ac5.1 hu with hu|hu
   ·exact hf ⟨u,hu,g⟩
   simp at hu;subst hu;exact h2 g
  refine r0 rfl ?_;rw[acR<|by omega]at hf;exact aP hf ⟨ab,ao⟩
 have hL:vh p=if 64<p.length then 5 else if∃u∈p,vg u.c≠0 then 4 else 0:=by unfold vh;rw[if_neg hd]
 refine r0 rfl<|bH rfl (λh1=>?_) (λh1=>?_)
 ·refine r0 rfl<|aG rfl<|an.of_eq<|congrArg SV.i<|by rw[hL,if_pos<|by omega]
 rw[if_neg<|by omega]at hL;refine r0 rfl<|loop (λi:Nat=>[(0,de false p),(4,.i i)]) (λi=>i<=p.length/\¬∃u∈p.take i,vg u.c≠0) (λi=>p.length-i) 0 ⟨abC _,by simp⟩ ⟨ab,ab,ao⟩ ?_;rintro i⟨hi,hf⟩;refine r0 rfl<|bH rfl (λh1=>?_) (λh1=>?_)
 ·have aZ:i<p.length:=by omega
  have ei:(i:Int).toNat=i:=by omega
  have eg:p.getD i default=p[i]:=aw aZ;have RA:=hp _<|ab9 aZ;refine r1 rfl (by simp[ag,and_true,ei];omega) ?_;refine cl rfl (by rw[ei,eg];rfl) (Kc p[i].c RA.2.2 hK) rfl ?_;refine r0 rfl<|bH rfl (λh2=>?_) (λh2=>?_)
  ·refine r0 rfl<|aG rfl<|bC ?_;rw[hL,if_pos ⟨_,ab9 aZ,h2⟩]
  refine r1 rfl (by simp[ag,and_true];omega) ?_;refine again (i+1) (by omega) ⟨by omega,?_⟩ ⟨ab,ab,ao⟩;rw[ac6 aZ];rintro⟨u,hu,g⟩;rcases ac5.1 hu with hu|hu
  ·exact hf ⟨u,hu,g⟩
  simp at hu;subst hu;exact h2 g
 refine r0 rfl ?_;rw[acR<|by omega]at hf;exact aG rfl<|an.of_eq<|congrArg SV.i<|by rw[hL,if_neg hf]
def kY(aW:List (List cN))(p:List cN):Nat->List cN
 |0=>uf p 0
 |i+1=>EV (kY aW p i)<|lI (uf p<|i+1)<|aW.getD i []
def mN(aW:List (List cN))(p:List cN):List cN:=kY aW p aW.length
structure agD(V K:Nat)(aW:List (List cN))(p:List cN):Prop where
 d0:vL V K (pZ p 0)
 d:∀i,i<aW.length->vL V K (pZ p<|i+1)
 m:∀i,i<aW.length->vL V K (jv (uf p<|i+1)<|aW.getD i [])
 a:∀i,i<aW.length->vL V K (kY aW p i++lI (uf p<|i+1) (aW.getD i []))
 r:∀i,i<aW.length->(∀u∈aW.getD i [],Ea V K u)/\(aW.getD i []).length<2^40
def vL.norm{l:List cN}(h:vL V K l):(∀u∈fN l,Ea V K u)/\(fN l).length<2^30:=h.2 l<|List.prefix_refl l
def oe(own:Bool)(l:List (List cN)):SV:=.bT own 1 default (de false) l
end
structure EY where
 sh:Int
 dU:bK
 deriving Inhabited
def pd(f:EY):SV:=.agg [.i f.sh,.s f.dU]
structure bO where
 kind:bK
 ah:List EY
 out:Int
 k:bK
 dD:List bK
 deriving Inhabited
def dM(u:bO):SV:=.agg [.s u.kind,.bT false 2 default pd u.ah,.i u.out,.s u.k,.strs false u.dD]
structure kx where
 n:Int
 aa:List bO
 ints:List Int
 deriving Inhabited
def bh(p:kx):SV:=.agg [.i p.n,.bT false 5 default dM p.aa,.ints .i64 false p.ints]
def bo:bK:=[105,110,116,101,103,114,97,116,111,114]
def jJ:bK:=[97,100,100,101,114]
def dQ:bK:=[116,97,98,108,101]
structure UOk(u:bO):Prop where
 ah:u.ah.length<2^40
 dU:∀f∈u.ah,cR f.dU
 k:cR u.k
 dD:u.dD.length<2^40
 Mf:∀s∈u.dD,cR s
structure ye(p:kx):Prop where
 aa:p.aa.length<2^40
 unit:∀u∈p.aa,UOk u
 ints:p.ints.length<2^40
def oP(p:kx)(h:ye p):aL Tryz.prog 70 [bh p] (.i<|p.aa.countP λu=>decide (u.kind=bo)):=by
 have hl:=h.aa;refine bE Tryz.func70 rfl<|r0 rfl<|loop (λi:Nat=>[(1,.box true<|bh p),(3,.i<|(p.aa.take i).countP λu=>decide (u.kind=bo)),(4,.i i)]) (λi=>i<=p.aa.length) (λi=>p.aa.length-i) 0 (abC _) ⟨ab,ab,ab,ao⟩ ?_;intro i hi;have hc:((p.aa.take i).countP λu=>decide (u.kind=bo))<=i:=acX agV (by simp;omega);refine r0 rfl<|bH rfl (λh1=>?_) (λh1=>?_)
 ·have aZ:i<p.aa.length:=by omega
  have ei:(i:Int).toNat=i:=by omega
  have eg:p.aa.getD i default=p.aa[i]:=aw aZ;have hs:((p.aa.take<|i+1).countP λu=>decide (u.kind=bo))=((p.aa.take i).countP λu=>decide (u.kind=bo))+(if p.aa[i].kind=bo then 1 else 0):=by rw[ac6 aZ,ahj,ajp];by_cases g:p.aa[i].kind=bo<;>simp[g]
  refine r1 rfl (by simp[ag,and_true,ei];omega) ?_;refine bH rfl (λh2=>?_) (λh2=>?_)
  ·rw[ei,eg]at h2;have h2:p.aa[i].kind=bo:=h2;rw[if_pos h2]at hs;refine r1 rfl (by simp[ag,and_true];omega) ?_;exact again (i+1) (by omega) (by omega) ⟨ab,⟨rfl,an.of_eq<|congrArg SV.i<|by rw[hs];omega⟩,ab,ao⟩
  rw[ei,eg]at h2;have h2:¬p.aa[i].kind=bo:=h2;rw[if_neg h2]at hs;refine r1 rfl (by simp[ag,and_true];omega) ?_;exact again (i+1) (by omega) (by omega) ⟨ab,⟨rfl,an.of_eq<|congrArg SV.i<|by rw[hs];omega⟩,ab,ao⟩
 refine r0 rfl<|aG rfl<|bC ?_;rw[acR<|by omega]
noncomputable def fY(n:Int)(f:EY):Int:=if f.sh<0\/n<=f.sh then 10 else if aJ f.dU≠0 then aJ f.dU else if bI f.dU=0 then 6 else 0
def jQ(u:bO)(lo hi:Int):Prop:=(u.ah.length:Int)<lo\/hi<u.ah.length\/(u.kind=dQ/\(u.dD.length<1\/13<u.dD.length))\/(u.kind≠dQ/\0<u.dD.length)
instance(u:bO)(lo hi:Int):Decidable (jQ u lo hi):=by unfold jQ;infer_instance
def D6(u:bO):Int:=if u.kind=bo then 2 else 1
def x9(u:bO):Int:=if u.kind=bo then 2 else if u.kind=jJ then 8 else 1
noncomputable def fL(n:Int)(u:bO):Int:=
 if u.kind≠bo/\u.kind≠jJ/\u.kind≠dQ then 13
 else if jQ u (D6 u) (x9 u)then 2
 else if aK (fY n) u.ah≠0 then aK (fY n) u.ah
 else if u.out<1\/n<=u.out then 10
 else if aJ u.k≠0 then aJ u.k else aK aJ u.dD
def Bm(p:kx)(u:bO)(hu:UOk u):aL Tryz.prog 69 [bh p,dM u] (.i<|fL p.n u):=by
 have Rw:=hu.ah;have X4:=hu.dD;refine bE Tryz.func69 rfl<|b8 3 [(2,.box true<|bh p),(3,.box true<|dM u),(5,.i<|D6 u),(6,.i<|x9 u)] (u.kind=bo\/u.kind=jJ\/u.kind=dQ) ?_ λhk=>?_
 ·refine r0 rfl<|bH rfl (λh=>?_) (λh=>?_)
  ·have h:u.kind=bo:=h;refine r0 rfl<|aP (.inl h) ⟨ab,ab,⟨rfl,an.of_eq<|congrArg SV.i<|by unfold D6;rw[if_pos h]⟩,⟨rfl,an.of_eq<|congrArg SV.i<|by unfold x9;rw[if_pos h]⟩,ao⟩
  have h:¬u.kind=bo:=h;refine r0 rfl<|bH rfl (λh2=>?_) (λh2=>?_)
  ·have h2:u.kind=jJ:=h2;refine r0 rfl<|aP (.inr<|.inl h2) ⟨ab,ab,⟨rfl,an.of_eq<|congrArg SV.i<|by unfold D6;rw[if_neg h]⟩,⟨rfl,an.of_eq<|congrArg SV.i<|by unfold x9;rw[if_neg h,if_pos h2]⟩,ao⟩
  have h2:¬u.kind=jJ:=h2;refine r0 rfl<|bH rfl (λh3=>?_) (λh3=>?_)
  ·have h3:u.kind=dQ:=h3;refine r0 rfl<|aP (.inr<|.inr h3) ⟨ab,ab,⟨rfl,an.of_eq<|congrArg SV.i<|by unfold D6;rw[if_neg h]⟩,⟨rfl,an.of_eq<|congrArg SV.i<|by unfold x9;rw[if_neg h,if_neg h2]⟩,ao⟩
  have h3:¬u.kind=dQ:=h3;refine r0 rfl<|aG rfl<|an.of_eq<|congrArg SV.i<|by unfold fL;rw[if_pos ⟨h,h2,h3⟩]
 have vq:fL p.n u=if jQ u (D6 u) (x9 u)then 2
  else if aK (fY p.n) u.ah≠0 then aK (fY p.n) u.ah
  else if u.out<1\/p.n<=u.out then 10
  else if aJ u.k≠0 then aJ u.k else aK aJ u.dD:=by
  unfold fL;rw[if_neg<|by rintro⟨h1,h2,h3⟩;rcases hk with h|h|h<;>contradiction]
 generalize D6 u=lo at*;generalize x9 u=hi at*;refine b8 2 [(2,.box true<|bh p),(3,.box true<|dM u)] (¬jQ u lo hi) ?_ λhw=>?_
 ·have bad:jQ u lo hi->(2:Int)=fL p.n u:=by intro h;rw[vq,if_pos h]
  refine r0 rfl<|aC 28 rfl (λh=>?_) (λh=>?_)
  ·refine r0 rfl<|aG rfl<|an.of_eq<|congrArg SV.i<|bad<|.inl<|by omega
  refine r0 rfl<|aC 35 rfl (λh2=>?_) (λh2=>?_)
  ·refine r0 rfl<|aG rfl<|an.of_eq<|congrArg SV.i<|bad<|.inr<|.inl<|by omega
  refine r0 rfl<|aC 39 rfl (λh3=>?_) (λh3=>?_)
  ·have h3:u.kind=dQ:=h3;refine r0 rfl<|aC 42 rfl (λh4=>?_) (λh4=>?_)
   ·refine r0 rfl<|aG rfl<|an.of_eq<|congrArg SV.i<|bad<|.inr<|.inr<|.inl ⟨h3,by omega⟩
   refine r0 rfl<|aC 48 rfl (λh5=>?_) (λh5=>?_)
   ·refine r0 rfl<|aG rfl<|an.of_eq<|congrArg SV.i<|bad<|.inr<|.inr<|.inl ⟨h3,by omega⟩
   refine r0 rfl<|aC 52 rfl (λh6=>absurd h3 h6) λh6=>?_;refine r0 rfl<|aP ?_ ⟨ab,ab,ao⟩;rintro(g|g|g|g)
   ·omega
   ·omega
   ·have:=g.2;omega
   exact g.1 h3
  have h3:¬u.kind=dQ:=h3;refine r0 rfl<|aC 52 rfl (λh6=>?_) λh6=>absurd h3 h6;refine r0 rfl<|bH rfl (λh7=>?_) (λh7=>?_)
  ·refine r0 rfl<|aG rfl<|an.of_eq<|congrArg SV.i<|bad<|.inr<|.inr<|.inr ⟨h3,by omega⟩
  refine r0 rfl<|aP ?_ ⟨ab,ab,ao⟩;rintro(g|g|g|g)
  ·omega
  ·omega
  ·exact h3 g.1
  have:=g.2;omega
 rw[if_neg hw]at vq;refine r0 rfl<|loop (λi:Nat=>[(2,.box true<|bh p),(3,.box true<|dM u),(8,.i i)]) (λi=>i<=u.ah.length/\aK (fY p.n) u.ah=aK (fY p.n) (u.ah.drop i)) (λi=>u.ah.length-i) 0 ⟨abC _,rfl⟩ ⟨ab,ab,ab,ao⟩ ?_;rintro i⟨hi,hf⟩;refine r0 rfl<|bH rfl (λh1=>?_) (λh1=>?_)
 ·have aZ:i<u.ah.length:=by omega
  have ei:(i:Int).toNat=i:=by omega
  have eg:u.ah.getD i default=u.ah[i]:=aw aZ;rw[dp _ aZ]at hf;have ab0:=hu.dU _<|ab9 aZ;refine r1 rfl (by simp only[ag,and_true,ei];omega) ?_;rw[ei,eg];generalize u.ah[i]=f at*;have bad:fY p.n f≠0->fY p.n f=fL p.n u:=by intro h;rw[if_pos h]at hf;rw[vq,if_pos<|by rw[hf];exact h,hf]
  refine aC 72 rfl (λh2=>?_) (λh2=>?_)
  ·have e:fY p.n f=10:=by unfold fY;rw[if_pos<|.inl h2]
   refine r0 rfl<|aG rfl<|an.of_eq<|congrArg SV.i<|by rw[<-bad (by rw[e];decide),e]
  refine r0 rfl<|bH rfl (λh3=>?_) (λh3=>?_)
  ·have e:fY p.n f=10:=by unfold fY;rw[if_pos<|.inr h3]
   refine r0 rfl<|aG rfl<|an.of_eq<|congrArg SV.i<|by rw[<-bad (by rw[e];decide),e]
  have e0:fY p.n f=if aJ f.dU≠0 then aJ f.dU else if bI f.dU=0 then 6 else 0:=by unfold fY;rw[if_neg<|by rintro(g|g)<;>contradiction]
  refine r0 rfl<|bF rfl (check_sound f.dU ab0) rfl<|r0 rfl<|aC 84 rfl (λh4=>?_) (λh4=>?_)
  ·have h4:aJ f.dU=0:=h4;rw[if_neg<|by rw[h4];simp]at e0;refine r0 rfl ?_;have hz:=nc<|bI f.dU;rw[fO h4]at hz;refine bF rfl hz rfl<|r0 rfl<|nB rfl rfl rfl (λh5=>?_) (λh5=>?_)
   ·have h5:bI f.dU=0:=by simpa using h5
    rw[if_pos h5]at e0;refine r0 rfl<|bH rfl (λ_=>?_) λh6=>absurd (by decide) h6;refine r0 rfl<|aG rfl<|an.of_eq<|congrArg SV.i<|by rw[<-bad (by rw[e0];decide),e0]
   have h5:¬bI f.dU=0:=by simpa using h5
   rw[if_neg h5]at e0;rw[if_neg<|by rw[e0];simp]at hf;refine r0 rfl<|bH rfl (λh6=>absurd h4 h6) λh6=>?_;refine r1 rfl (by simp only[ag,and_true];omega) ?_;exact again (i+1) (by omega) ⟨by omega,hf⟩ ⟨ab,ab,ab,ao⟩
  have h4:¬aJ f.dU=0:=h4;rw[if_pos h4]at e0;refine r0 rfl<|bH rfl (λh6=>?_) λh6=>absurd h4<|by simpa using h6
  refine r0 rfl<|aG rfl<|an.of_eq<|congrArg SV.i<|by rw[<-bad (by rw[e0];exact h4),e0]
 have hz:aK (fY p.n) u.ah=0:=by rw[hf,adt<|by omega];rfl
 rw[if_neg<|by rw[hz];simp]at vq;refine r0 rfl<|aC 95 rfl (λh2=>?_) (λh2=>?_)
 ·refine r0 rfl<|aG rfl<|an.of_eq<|congrArg SV.i<|by rw[vq,if_pos<|.inl h2]
 refine r0 rfl<|bH rfl (λh3=>?_) (λh3=>?_)
 ·refine r0 rfl<|aG rfl<|an.of_eq<|congrArg SV.i<|by rw[vq,if_pos<|.inr h3]
 rw[if_neg<|by rintro(g|g)<;>contradiction]at vq;refine r0 rfl<|bF rfl (check_sound u.k hu.k) rfl<|r0 rfl<|bH rfl (λh4=>?_) (λh4=>?_)
 ·have h4:aJ u.k=0:=h4;rw[if_neg<|by rw[h4];simp]at vq;refine r0 rfl<|bF rfl (DI u.dD hu.Mf<|by omega) rfl<|r0 rfl<|aG rfl<|an.of_eq<|congrArg SV.i vq.symm
 have h4:¬aJ u.k=0:=h4;rw[if_pos h4]at vq;refine r0 rfl<|aG rfl<|an.of_eq<|congrArg SV.i vq.symm
def w6(xs:List Int)(n:Int)(hl:xs.length<2^60):aL Tryz.prog 132 [.ints .i64 false xs,.i n] (.u<|decide (n∈xs)):=by
 refine bE Tryz.func132 rfl<|r0 rfl<|loop (λi:Nat=>[(0,.ints .i64 false xs),(1,.i n),(5,.i i)]) (λi=>i<=xs.length/\(n∈xs↔n∈xs.drop i)) (λi=>xs.length-i) 0 ⟨abC _,Iff.rfl⟩ ⟨ab,ab,ab,ao⟩ ?_;rintro i⟨hi,hf⟩;refine r0 rfl<|bH rfl (λh1=>?_) (λh1=>?_)
 ·have aZ:i<xs.length:=by omega
  have ei:(i:Int).toNat=i:=by omega
  have eg:xs.getD i 0=xs[i]:=aw aZ;rw[ac4 aZ,aci]at hf;refine r1 rfl (by simp[ag,ei];omega) ?_;rw[ei,eg];refine bH rfl (λh2=>?_) (λh2=>?_)
  ·have h2:xs[i]=n:=h2;refine r0 rfl<|aG rfl ?_;show true=_;rw[eq_comm,decide_eq_true_eq,hf];exact .inl h2.symm
  have h2:¬xs[i]=n:=h2;refine r1 rfl (by simp[ag];omega) ?_;exact again (i+1) (by omega) ⟨by omega,hf.trans ⟨λh=>h.resolve_left λe=>h2 e.symm,.inr⟩⟩ ⟨ab,ab,ab,ao⟩
 refine r0 rfl<|aG rfl ?_;show false=_;rw[eq_comm,decide_eq_false_iff_not,hf,adt<|by omega];simp
def cH(u:bO):List EY:=if u.kind=bo then u.ah.drop 1 else u.ah
def wJ(u:bO)(hu:UOk u)(hf:u.kind=bo->1<=u.ah.length):aL Tryz.prog 133 [dM u] (.bT false 2 default pd<|cH u):=by
 refine bE Tryz.func133 rfl<|r0 rfl<|bH rfl (λh=>?_) (λh=>?_)
 ·have h:u.kind=bo:=h;have:=hf h;refine r1 rfl (by simp[ag];omega) ?_;have e:(u.ah.drop (1:Int).toNat).take (u.ah.length-(1:Int).toNat)=cH u:=by unfold cH;rw[if_pos h];exact acR (by simp)
  exact aG rfl<|an.of_eq<|congrArg (SV.bT false 2 default pd) e
 have h:¬u.kind=bo:=h;refine r0 rfl<|aG rfl<|an.of_eq<|congrArg (SV.bT false 2 default pd)<|by unfold cH;rw[if_neg h]
def cg(s:Int):Nat->List bO->Int
 |_,[]=> -1
 |k,u::r=>if u.out=s then k else cg s (k+1) r
def dY(us:List bO)(s:Int):Int:=cg s 0 us
def Ic(p:kx)(h:ye p)(s:Int):aL Tryz.prog 134 [bh p,.i s] (.i<|dY p.aa s):=by
 have hl:=h.aa;refine bE Tryz.func134 rfl<|r0 rfl<|loop (λi:Nat=>[(1,.i s),(2,.box true<|bh p),(5,.i i)]) (λi=>i<=p.aa.length/\dY p.aa s=cg s i (p.aa.drop i)) (λi=>p.aa.length-i) 0 ⟨abC _,rfl⟩ ⟨ab,ab,ab,ao⟩ ?_;rintro i⟨hi,hf⟩;refine r0 rfl<|bH rfl (λh1=>?_) (λh1=>?_)
 ·have aZ:i<p.aa.length:=by omega
  have ei:(i:Int).toNat=i:=by omega
  have eg:p.aa.getD i default=p.aa[i]:=aw aZ;rw[ac4 aZ,cg]at hf;refine r1 rfl (by simp[ag,ei];omega) ?_;rw[ei,eg];refine bH rfl (λh2=>?_) (λh2=>?_)
  ·have h2:p.aa[i].out=s:=h2;rw[if_pos h2]at hf;refine r0 rfl<|aG rfl<|an.of_eq<|congrArg SV.i hf.symm
  have h2:¬p.aa[i].out=s:=h2;rw[if_neg h2]at hf;refine r1 rfl (by simp[ag,and_true];omega) ?_;exact again (i+1) (by omega) ⟨by omega,hf⟩ ⟨ab,ab,ab,ao⟩
 refine r0 rfl<|aG rfl<|bC ?_;rw[hf,adt<|by omega];rfl
def xj{s:Int}:∀{us:List bO}{k:Nat},cg s k us<(k+us.length:Nat)
 |[],k=>by simp[cg];omega
 |u::r,k=>by have:=xj (s:=s) (us:=r) (k:=k+1);simp[cg];split<;>omega
def zb(us:List bO)(s:Int):dY us s<us.length:=by have:=xj (s:=s) (us:=us) (k:=0);unfold dY;omega
def kP(us:List bO)(out:List Int)(f:EY):Bool:=decide (dY us f.sh<0\/dY us f.sh∈out)
def jT(us:List bO)(out:List Int)(j:Nat):Bool:=decide (¬(j:Int)∈out)&&(cH<|us.getD j default).all (kP us out)
def cU(us:List bO)(out:List Int)(j:Nat):Int:=if j<us.length then(if jT us out j=true then(j:Int)else cU us out (j+1))else -1
 termination_by us.length-j
def jH{us:List bO}{out:List Int}{j:Nat}(h:j<us.length):cU us out j=if jT us out j=true then(j:Int)else cU us out (j+1):=by rw[cU,if_pos h]
def mX{us:List bO}{out:List Int}{j:Nat}(h:us.length<=j):cU us out j= -1:=by rw[cU,if_neg<|by omega]
def oY(us:List bO)(out:List Int)(j:Nat):cU us out j= -1\/∃i:Nat,cU us out j=i/\j<=i/\i<us.length/\jT us out i=true:=by
 induction hm:us.length-j generalizing j with
 |zero=>exact .inl (mX<|by omega)
 |succ m ih=>
  rw[jH<|by omega];split
  ·rename_i h;exact .inr ⟨j,rfl,.refl,by omega,h⟩
  rcases ih (j+1) (by omega)with h|⟨i,h1,h2,h3⟩
  ·exact .inl h
  exact .inr ⟨i,h1,by omega,h3⟩
def ee(us:List bO):Nat->List Int->List Int
 |0,out=>out
 |k+1,out=>if cU us out 0<0 then out else ee us k (out++[cU us out 0])
def az(us:List bO):List Int:=ee us (us.length+1) []
def wE{us:List bO}{out:List Int}(hn:out.Nodup)(hb:∀x∈out,0<=x/\x<us.length):out.length<=us.length:=by
 have:=yG (m:=(List.range us.length).map λ(x:Nat)=>(x:Int)) hn λx hx=>by have:=hb x hx;exact ac0.2 ⟨x.toNat,ae5.2<|by omega,by omega⟩
 simpa using this
def wz{us:List bO}{out:List Int}(hn:out.Nodup)(hb:∀x∈out,0<=x/\x<us.length)(h:¬cU us out 0<0):(out++[cU us out 0]).Nodup/\∀x∈out++[cU us out 0],0<=x/\x<us.length:=by
 rcases oY us out 0 with e|⟨i,e,_,h2,h3⟩
 ·rw[e]at h;simp_all
 rw[e];have h4:¬(i:Int)∈out:=by unfold jT at h3;simp at h3;exact h3.1
 refine⟨?_,λx hx=>?_⟩
 ·rw[acT];refine⟨hn,by simp,λa ha b hb=>?_⟩;simp at hb;subst hb;rintro rfl;exact h4 ha
 rcases ac5.1 hx with hx|hx
 ·exact hb x hx
 simp at hx;omega
def Fdd(us:List bO):Prop:=∀u∈us,u.kind=bo->1<=u.ah.length
def sG(p:kx)(h:ye p)(hF:Fdd p.aa):aL Tryz.prog 71 [bh p] (.ints .i64 true<|az p.aa):=by
 have hl:=h.aa;refine bE Tryz.func71 rfl<|r0 rfl<|loop (λout:List Int=>[(1,.box true<|bh p),(3,.ints .i64 true out)]) (λout=>out.Nodup/\(∀x∈out,0<=x/\x<p.aa.length)/\az p.aa=ee p.aa (p.aa.length+1-out.length) out) (λout=>p.aa.length+1-out.length) [] ⟨adn,by simp,rfl⟩ ⟨ab,ab,ao⟩ ?_;rintro out⟨hn,hb,ho⟩;have LU:=wE hn hb;refine r1 rfl (by simp only[ag,and_true];omega) ?_;refine loop (λj:Nat=>[(1,.box true<|bh p),(3,.ints .i64 true out),(4,.i<|cU p.aa out j),(5,.i<|(j:Int)-1)]) (λj=>j<=p.aa.length) (λj=>j) p.aa.length (abZ _)
  ⟨ab,ab,⟨rfl,an.of_eq<|congrArg SV.i (mX<|abZ _).symm⟩,ab,ao⟩ ?_
 intro j hj;refine r0 rfl<|bH rfl (λh1=>?_) (λh1=>?_)
 ·obtain⟨i,rfl⟩:∃i,j=i+1:=⟨j-1,by omega⟩;have e1:((i+1:Nat):Int)-1=i:=by omega
  have ei:(i:Int).toNat=i:=by omega
  have hi:i<p.aa.length:=by omega
  have eg:p.aa.getD i default=p.aa[i]:=aw hi;have hu:=h.unit _<|ab9 hi;have eR:=jH (out:=out) hi;have Kq:(cH p.aa[i]).length<=p.aa[i].ah.length:=by unfold cH;split<;>simp
  have bt:=hu.ah;rw[e1];refine r0 rfl<|bF rfl (w6 out i<|by omega) rfl<|r1 rfl (by simp only[ag,and_true,ei];omega) ?_;refine cl rfl (by rw[ei,eg];rfl) (wJ p.aa[i] hu<|hF _<|ab9 hi) rfl ?_;refine r0 rfl<|kh (λ(k:Nat)(r:Bool)=>[(1,.box true<|bh p),(3,.ints .i64 true out),(4,.i<|cU p.aa out<|i+1),(5,.i i),(6,.u r),(7,.bT false 2 default pd<|cH p.aa[i]),(8,.i k)])
   (λk r=>k<=(cH p.aa[i]).length/\jT p.aa out i=(r&&((cH p.aa[i]).drop k).all (kP p.aa out))) (λk _=>(cH p.aa[i]).length-k) 0 (!decide ((i:Int)∈out)) ⟨abC _,by unfold jT;rw[eg];simp⟩
   ⟨ab,ab,ab,ab,ab,ab,ab,ao⟩ ?_
  rintro k r⟨hk,hr⟩;have stop:k<(cH p.aa[i]).length/\r=true\/jT p.aa out i=r:=by
   rcases ac1 k (cH p.aa[i]).length with g|g
   ·cases r
    ·exact .inr (by simpa using hr)
    exact .inl ⟨g,rfl⟩
   exact .inr (by rw[hr,adt g];simp)
  have fin:∀b:Bool,jT p.aa out i=b->cU p.aa out i=if b=true then(i:Int)else cU p.aa out (i+1):=by intro b hb;rw[eR,hb]
  refine r0 rfl<|aC 32 rfl (λh2=>?_) (λh2=>?_)
  ·refine r0 rfl<|nB rfl rfl rfl (λh3=>?_) (λh3=>?_)
   ·have h3:r=true:=h3;subst h3;have gp:k<(cH p.aa[i]).length:=by omega
    have ek:(k:Int).toNat=k:=by omega
    have Dm:(cH p.aa[i]).getD k default=(cH p.aa[i])[k]:=aw gp;rw[ac4 gp,adl,adx]at hr;refine r1 rfl (by simp only[ag,and_true,ek];omega) ?_;refine cd rfl (by rw[ek,Dm];rfl) (Ic p h (cH p.aa[i])[k].sh) rfl ?_;refine k0 rfl (by kernel_rfl)<|aC 46 rfl (λh4=>?_) (λh4=>?_)
    ·refine r1 rfl (by simp only[ag,and_true];omega) ?_;have hm:kP p.aa out (cH p.aa[i])[k]=true:=by unfold kP;rw[decide_eq_true_eq];exact .inl h4
     rw[hm]at hr;exact again (k+1,true) (by dsimp only;omega) ⟨by dsimp only;omega,hr⟩ ⟨ab,ab,ab,ab,ab,ab,ab,ao⟩
    refine r0 rfl<|bF rfl (w6 out (dY p.aa (cH p.aa[i])[k].sh)<|by omega) rfl<|r1 rfl (by simp only[ag,and_true];omega) ?_;have hm:kP p.aa out (cH p.aa[i])[k]=decide (dY p.aa (cH p.aa[i])[k].sh∈out):=by unfold kP;congr 1;exact propext ⟨λg=>g.resolve_left h4,.inr⟩
    rw[hm]at hr;exact again (k+1,decide (dY p.aa (cH p.aa[i])[k].sh∈out)) (by dsimp only;omega) ⟨by dsimp only;omega,hr⟩ ⟨ab,ab,ab,ab,ab,ab,ab,ao⟩
   have h3:r=false:=h3;subst h3;have hf:=fin false (by simpa using hr);refine r0 rfl<|nB rfl rfl rfl (λg=>absurd g<|by decide) λ_=>?_;refine r1 rfl (by simp only[ag,and_true];omega) ?_;exact again i (by omega) (by omega) ⟨ab,ab,⟨rfl,an.of_eq<|congrArg SV.i<|by rw[hf];simp⟩,ab,ao⟩
  have hf:=fin r (stop.resolve_left λg=>by omega);refine r0 rfl<|nB rfl rfl rfl (λh3=>?_) (λh3=>?_)
  ·have h3:r=true:=h3;subst h3;refine r1 rfl (by simp only[ag,and_true];omega) ?_;exact again i (by omega) (by omega) ⟨ab,ab,⟨rfl,an.of_eq<|congrArg SV.i<|by rw[hf];simp⟩,ab,ao⟩
  have h3:r=false:=h3;subst h3;refine r1 rfl (by simp only[ag,and_true];omega) ?_;exact again i (by omega) (by omega) ⟨ab,ab,⟨rfl,an.of_eq<|congrArg SV.i<|by rw[hf];simp⟩,ab,ao⟩
 have hj0:j=0:=by omega
 subst hj0;have lV:p.aa.length+1-out.length=(p.aa.length-out.length)+1:=by omega
 rw[lV,ee]at ho;refine r0 rfl<|bH rfl (λh2=>?_) (λh2=>?_)
 ·rw[if_pos h2]at ho;refine r0 rfl<|aG rfl<|an.of_eq<|congrArg (SV.ints .i64 true) ho.symm
 rw[if_neg h2]at ho;obtain⟨g1,g2⟩:=wz hn hb h2;have g3:=wE g1 g2;simp only[acW,acU,acY]at g3;refine r1 rfl (by simp only[ag,and_true,len,acU,acY]<;>omega) ?_;refine again (out++[cU p.aa out 0]) (by simp only[acW,acU,acY];omega) ⟨g1,g2,?_⟩ ⟨ab,ab,ao⟩;rw[ho];congr 1;simp only[acW,acU,acY];omega
def mS(n:Nat)(us:List bO)(i:Nat):List bK:=(us.take i).foldl (λ(o:List bK)u=>o.set u.out.toNat u.k)<|List.replicate n<|qt 0
def Ml(n:Nat)(us:List bO):List bK:=mS n us us.length
def zR(n:Nat)(us:List bO):∀i,i<=us.length->(mS n us i).length=n
 |0,_=>by simp[mS]
 |i+1,h=>by have:=zR n us i (by omega);unfold mS at*;rw[ac6<|by omega,afW];simpa using this
def GU{n:Nat}{us:List bO}{i:Nat}(h:i<us.length):mS n us (i+1)=(mS n us i).set us[i].out.toNat us[i].k:=by unfold mS;rw[ac6 h,afW];rfl
def agw(n:Nat)(us:List bO):Prop:=∀u∈us,0<=u.out/\u.out<n
def vS(p:kx)(h:ye p)(n:Nat)(hn:p.n=n)(UH:n<2^40)(ho:agw n p.aa):aL Tryz.prog 72 [bh p] (.strs true<|Ml n p.aa):=by
 have hl:=h.aa;refine bE Tryz.func72 rfl<|r0 rfl<|cl rfl (by rw[hn];rfl) (IP n UH) rfl ?_;refine r0 rfl<|loop (λi:Nat=>[(1,.box true<|bh p),(3,.strs true<|mS n p.aa i),(4,.i i)]) (λi=>i<=p.aa.length) (λi=>p.aa.length-i) 0 (abC _) ⟨ab,ab,ab,ao⟩ ?_;intro i hi;refine r0 rfl<|bH rfl (λh1=>?_) (λh1=>?_)
 ·have aZ:i<p.aa.length:=by omega
  have ei:(i:Int).toNat=i:=by omega
  have eg:p.aa.getD i default=p.aa[i]:=aw aZ;have hu:=ho _<|ab9 aZ;have wX:=zR n p.aa i hi;refine k1 rfl (by kernel_rfl) (by simp only[ag,and_true,ei,eg,wX];omega) ?_;refine again (i+1) (by omega) (by omega) ⟨ab,⟨rfl,an.of_eq<|congrArg (SV.strs true) ?_⟩,ab,ao⟩;rw[GU aZ,ei,eg]
 refine r0 rfl<|aG rfl<|an.of_eq<|congrArg (SV.strs true) ?_;have:i=p.aa.length:=by omega
 subst this;rfl
def uA(x:Rat)(cs:List Rat):Rat:=cs.foldr (λa s=>s*x+a) 0
def Kn{x:Rat}{K L:Nat}(hx:Sz x L):∀{cs:List Rat},(∀c∈cs,Sz c K)->Sz (uA x cs) (cs.length*(L+K+1)+1)
 |[],_=>by have:Sz (0:Rat) 1:=⟨by simp[cD],by simp[iz]⟩;simpa[uA]using this
 |c::cs,h=>by
  have h1:=Kn hx (cs:=cs) λc hc=>h c (by simp[hc]);have h2:=(h1.mul hx).add<|h c<|by simp
  refine h2.mono ?_;rw[acU,aiv];omega
def HL(cs:List Rat)(x:Rat){K L:Nat}(hx:Sz x L)(hc:∀c∈cs,Sz c K)(hK:(cs.length+1)*(L+K+1)+1<2^33)(hl:cs.length<2^40):
 aL Tryz.prog 73 [.strs false<|cs.map qt,.s<|qt x] (.s<|qt<|uA x cs):=by
 refine bE Tryz.func73 rfl<|r1 rfl (by simp[ag,and_true,acZ];omega) ?_;refine loop (λj:Nat=>[(0,.strs false<|cs.map qt),(1,.s<|qt x),(5,.s<|qt<|uA x<|cs.drop j),(6,.i<|(j:Int)-1)]) (λj=>j<=cs.length) (λj=>j) cs.length (abZ _)
  ⟨ab,ab,⟨rfl,an.of_eq<|congrArg SV.s<|by rw[aey];exact Bw.symm⟩,⟨rfl,an.of_eq<|congrArg SV.i<|by rw[acZ]⟩,ao⟩ ?_
 intro j hj;refine r0 rfl<|bH rfl (λh1=>?_) (λh1=>?_)
 ·obtain⟨i,rfl⟩:∃i,j=i+1:=⟨j-1,by omega⟩;have e1:((i+1:Nat):Int)-1=i:=by omega
  have ei:(i:Int).toNat=i:=by omega
  have hi:i<cs.length:=by omega
  have eg:(cs.map qt).getD i []=qt cs[i]:=by rw[aca];simp[hi]
  have h2:=Kn hx (cs:=cs.drop<|i+1) λc cm=>hc c<|afT cm;have h3:(cs.drop<|i+1).length*(L+K+1)<=cs.length*(L+K+1):=adb _ (by simp);rw[aiv]at hK;rw[e1];refine r1 rfl (by simp[ag,and_true,ei,acZ]<;>omega) ?_;refine bG rfl (fT (uA x<|cs.drop<|i+1) x h2 hx<|by omega) rfl<|r1 rfl (by simp[ag,and_true,ei,acZ];omega) ?_;refine cd rfl (by rw[ei,eg];rfl) (zB (uA x (cs.drop<|i+1)*x) cs[i] (h2.mul hx) (hc _<|ab9 hi)<|by omega) rfl ?_;refine k1 rfl (by kernel_rfl) (by simp[ag,and_true];omega) ?_;refine again i (by omega) (by omega) ⟨ab,ab,⟨rfl,an.of_eq<|congrArg SV.s ?_⟩,ab,ao⟩;rw[ac4 hi];rfl
 have:j=0:=by omega
 subst this;refine r0 rfl<|bB rfl
end Go.Ai
section
namespace Go.Ai
open Go.Proofs Go.RowKit
section
variable{n:Int}{u:bO}
structure jc(n:Int)(u:bO):Prop where
 kind:u.kind=bo\/u.kind=jJ\/u.kind=dQ
 BZ:¬jQ u (D6 u) (x9 u)
 feed:∀f∈u.ah,0<=f.sh/\f.sh<n/\aJ f.dU=0/\bI f.dU≠0
 out:1<=u.out/\u.out<n
 k:aJ u.k=0
 dD:∀c∈u.dD,aJ c=0
def NF{f:EY}(h:fY n f=0):0<=f.sh/\f.sh<n/\aJ f.dU=0/\bI f.dU≠0:=by
 unfold fY at h;split at h
 ·cases h
 rename_i h1;split at h
 ·contradiction
 rename_i h2;split at h
 ·cases h
 rename_i h3;simp_all
def qw(h:fL n u=0):jc n u:=by
 unfold fL at h;split at h
 ·cases h
 rename_i h1;split at h
 ·cases h
 rename_i h2;split at h
 ·contradiction
 rename_i h3;split at h
 ·cases h
 rename_i h4;split at h
 ·contradiction
 rename_i h5;have h3:=dG.1 (show aK (fY n) u.ah=0 by simpa using h3);have h6:=dG.1 h;refine⟨?_,h2,λf hf=>NF<|h3 f hf,by omega,by simpa using h5,h6⟩;by_cases g1:u.kind=bo
 ·exact .inl g1
 by_cases g2:u.kind=jJ
 ·simp_all
 by_cases g3:u.kind=dQ
 all_goals simp_all
def BC:bo≠jJ:=by decide
def wQ:bo≠dQ:=by decide
def BD:jJ≠dQ:=by decide
def jc.int(h:jc n u)(hk:u.kind=bo):u.ah.length=2/\u.dD=[]:=by
 have h1:=h.BZ;unfold jQ D6 x9 at h1;rw[if_pos hk,if_pos hk]at h1;have h2:¬u.kind=dQ:=by rw[hk];exact wQ
 refine⟨by omega,af4.1 ?_⟩;rcases adp u.dD.length with g|g
 ·exact g
 simp_all
def jc.add(h:jc n u)(hk:u.kind=jJ):1<=u.ah.length/\u.ah.length<=8/\u.dD=[]:=by
 have h1:=h.BZ;unfold jQ D6 x9 at h1;have h2:¬u.kind=dQ:=by rw[hk];exact BD
 refine⟨by omega,by omega,af4.1 ?_⟩;rcases adp u.dD.length with g|g
 ·exact g
 simp_all
def jc.table(h:jc n u)(hk:u.kind=dQ):u.ah.length=1/\1<=u.dD.length/\u.dD.length<=13:=by
 have h1:=h.BZ;have h3:¬u.kind=bo:=by rw[hk];exact wQ.symm
 have h4:¬u.kind=jJ:=by rw[hk];exact BD.symm
 unfold jQ D6 x9 at h1;rw[if_neg h3,if_neg h3,if_neg h4]at h1;by_cases g:u.dD.length<1\/13<u.dD.length
 ·exact absurd (.inr<|.inr<|.inl ⟨hk,g⟩) h1
 omega
def jc.fdd{us:List bO}(h:∀u∈us,jc n u):Fdd us:=λu hu hk=>by have:=((h u hu).int hk).1;omega
def jc.outs{m:Nat}{us:List bO}(h:∀u∈us,jc n u)(hm:n=m):agw m us:=λu hu=>by have:=(h u hu).out;omega
noncomputable def bW(n:Nat)(us:List bO):List Rat:=us.foldl (λ(o:List Rat)u=>o.set u.out.toNat<|bI u.k)<|List.replicate n 0
def Mk{us:List bO}(h:∀u∈us,aJ u.k=0):∀(o:List Rat),us.foldl (λ(o:List bK)u=>o.set u.out.toNat u.k) (o.map qt)=(us.foldl (λ(o:List Rat)u=>o.set u.out.toNat<|bI u.k) o).map qt:=by
 induction us with
 |nil=>intro o;rfl
 |cons u us ih=>intro o;simp;rw[<-ih λv hv=>h v<|by simp[hv],afQ,fO<|h u<|by simp]
def Fe{n:Nat}{us:List bO}(h:∀u∈us,aJ u.k=0):Ml n us=(bW n us).map qt:=by unfold Ml mS bW;rw[adF,<-Mk h,aiw]
def BV(n:Nat)(us:List bO):(bW n us).length=n:=by
 unfold bW;have:∀(us:List bO)(o:List Rat),(us.foldl (λ(o:List Rat)u=>o.set u.out.toNat<|bI u.k) o).length=o.length:=by
  intro us
  induction us with
  |nil=>intro o;rfl
  |cons u us ih=>intro o;rw[aeK,ih];simp
 rw[this];simp
def BW{n:Nat}{us:List bO}{A:Rat->Prop}(h0:A 0)(h:∀u∈us,A<|bI u.k):∀q∈bW n us,A q:=by
 have:∀(us:List bO)(o:List Rat),(∀u∈us,A<|bI u.k)->(∀q∈o,A q)->∀q∈us.foldl (λ(o:List Rat)u=>o.set u.out.toNat<|bI u.k) o,A q:=by
  intro us
  induction us with
  |nil=>intro o _ h;exact h
  |cons u us ih=>
   intro o h1 h2;refine ih _ (λv hv=>h1 v<|by simp[hv]) λq hq=>?_;rcases aif hq with hq|rfl
   ·exact h2 q hq
   simp_all
 exact this us _ h λq hq=>by rw[ahw hq];exact h0
def OG:Sz 0 1:=⟨by simp[cD],by simp[iz]⟩
noncomputable def adP(n:Nat)(us:List bO)(u:bO):Rat:=uA (bI (u.ah.getD 0 default).dU*(bW n us).getD (u.ah.getD 0 default).sh.toNat 0) (u.dD.map bI)
def conflict(n:Nat)(us:List bO)(u:bO):Prop:=u.kind=dQ/\bI u.k≠adP n us u
def vF(n:Nat)(us:List bO):Prop:=∀s:Nat,1<=s->s<n->us.countP (λu=>decide (u.out=(s:Int)))=1
def c7(us:List bO):Nat:=us.countP λu=>decide (u.kind=bo)
end
open Classical in
noncomputable def dR(p:kx):Int:=
 if p.n<1\/100<p.n then 3
 else if 96<p.aa.length then 5
 else if aK (fL p.n) p.aa≠0 then aK (fL p.n) p.aa
 else if 24<p.ints.length then 5
 else if∃k∈p.ints,k<0\/p.n<=k then 10
 else if 24<c7 p.aa then 5
 else if¬vF p.n.toNat p.aa then 19
 else if(az p.aa).length<p.aa.length then 18
 else if∃u∈p.aa,conflict p.n.toNat p.aa u then 30 else 0
def aaR{l:List bK}(h:∀c∈l,aJ c=0):(l.map bI).map qt=l:=by
 rw[agN]
 conv=>rhs;rw[<-List.map_id l]
 exact adE λc hc=>fO<|h c hc
def JZ{l:List Rat}{k:Nat}(h:k<l.length):(l.map qt).getD k []=qt (l.getD k 0):=by rw[aca,aca,af1,acL h];rfl
def jI{α:Type}{l:List α}{i:Nat}(h:i<l.length){P:α->Prop}(h1:¬∃x∈l.take i,P x)(h2:¬P l[i]):¬∃x∈l.take (i+1),P x:=by
 rw[ac6 h];rintro⟨u,hu,g⟩;rcases ac5.1 hu with hu|hu
 ·simp_all
 simp at hu;subst hu;exact h2 g
def mM(p:kx)(h:ye p):aL Tryz.prog 31 [bh p] (.i<|dR p):=by
 have D8:=h.aa;have Nq:=h.ints;refine bE Tryz.func31 rfl<|b8 4 [(1,.box true<|bh p)] (1<=p.n/\p.n<=100/\p.aa.length<=96/\aK (fL p.n) p.aa=0) ?_ ?_
 ·refine r0 rfl<|aC 15 rfl (λh1=>?_) (λh1=>?_)
  ·refine r0 rfl<|aG rfl<|an.of_eq<|congrArg SV.i<|by unfold dR;rw[if_pos<|.inl h1]
  refine r0 rfl<|bH rfl (λh2=>?_) (λh2=>?_)
  ·refine r0 rfl<|aG rfl<|an.of_eq<|congrArg SV.i<|by unfold dR;rw[if_pos<|.inr h2]
  have hp:dR p=dR p:=rfl
  conv at hp=>rhs;unfold dR
  rw[if_neg<|by rintro(g|g)<;>contradiction]at hp;refine r0 rfl<|bH rfl (λh3=>?_) (λh3=>?_)
  ·refine r0 rfl<|aG rfl<|an.of_eq<|congrArg SV.i<|by rw[hp,if_pos<|by omega]
  rw[if_neg<|by omega]at hp;refine r0 rfl<|loop (λi:Nat=>[(1,.box true<|bh p),(3,.i i)]) (λi=>i<=p.aa.length/\aK (fL p.n) p.aa=aK (fL p.n) (p.aa.drop i)) (λi=>p.aa.length-i) 0 ⟨abC _,rfl⟩ ⟨ab,ab,ao⟩ ?_;rintro i⟨hi,hf⟩;refine r0 rfl<|bH rfl (λh4=>?_) (λh4=>?_)
  ·have aZ:i<p.aa.length:=by omega
   have ei:(i:Int).toNat=i:=by omega
   have eg:p.aa.getD i default=p.aa[i]:=aw aZ;rw[dp _ aZ]at hf;refine r1 rfl (by simp only[ag,and_true,ei]<;>omega) ?_;refine cd rfl (by rw[ei,eg];rfl) (Bm p p.aa[i]<|h.unit _<|ab9 aZ) rfl ?_;refine k0 rfl (by kernel_rfl)<|bH rfl (λh5=>?_) (λh5=>?_)
   ·have h5:fL p.n p.aa[i]≠0:=h5;rw[if_pos h5]at hf;refine r0 rfl<|aG rfl<|an.of_eq<|congrArg SV.i<|by rw[hp,if_pos<|by rw[hf];exact h5,hf]
   have h5:¬fL p.n p.aa[i]≠0:=h5;rw[if_neg h5]at hf;refine r1 rfl (by simp only[ag,and_true]<;>omega) ?_;exact again (i+1) (by omega) ⟨by omega,hf⟩ ⟨ab,ab,ao⟩
  refine r0 rfl<|aP ⟨by omega,by omega,by omega,?_⟩ ⟨ab,ao⟩;rw[hf,adt<|by omega];rfl
 rintro⟨Nn,UH,Rw,X4⟩;obtain⟨n,hn⟩:∃n:Nat,p.n=n:=⟨p.n.toNat,by omega⟩;have hv:∀u∈p.aa,jc p.n u:=λu hu=>qw<|dG.1 X4 u hu;have hp:dR p=dR p:=rfl
 conv at hp=>rhs;unfold dR
 rw[if_neg<|by omega,if_neg<|by omega,if_neg<|by rw[X4];simp]at hp;refine b8 2 [(1,.box true<|bh p)] (p.ints.length<=24/\¬∃k∈p.ints,k<0\/p.n<=k) ?_ ?_
 ·refine r0 rfl<|bH rfl (λh1=>?_) (λh1=>?_)
  ·refine r0 rfl<|aG rfl<|an.of_eq<|congrArg SV.i<|by rw[hp,if_pos<|by omega]
  rw[if_neg<|by omega]at hp;refine r0 rfl<|loop (λi:Nat=>[(1,.box true<|bh p),(5,.i i)]) (λi=>i<=p.ints.length/\¬∃k∈p.ints.take i,k<0\/p.n<=k) (λi=>p.ints.length-i) 0 ⟨abC _,by simp⟩ ⟨ab,ab,ao⟩ ?_;rintro i⟨hi,hf⟩;refine r0 rfl<|bH rfl (λh4=>?_) (λh4=>?_)
  ·have aZ:i<p.ints.length:=by omega
   have ei:(i:Int).toNat=i:=by omega
   have eg:p.ints.getD i 0=p.ints[i]:=aw aZ;have bad:(p.ints[i]<0\/p.n<=p.ints[i])->(10:Int)=dR p:=λg=>by rw[hp,if_pos ⟨_,ab9 aZ,g⟩]
   refine k1 rfl (by kernel_rfl) (by simp only[ag,and_true,ei]<;>omega) ?_;rw[ei,eg];refine aC 58 rfl (λh5=>?_) (λh5=>?_)
   ·refine k0 rfl (by kernel_rfl)<|aG rfl<|an.of_eq<|congrArg SV.i<|bad<|.inl h5
   refine k1 rfl (by kernel_rfl) (by simp only[ag,and_true,ei]<;>omega) ?_;rw[ei,eg];refine bH rfl (λh6=>?_) (λh6=>?_)
   ·refine r0 rfl<|aG rfl<|an.of_eq<|congrArg SV.i<|bad<|.inr h6
   refine r1 rfl (by simp only[ag,and_true]<;>omega) ?_;exact again (i+1) (by omega) ⟨by omega,jI aZ hf<|by rintro(g|g)<;>contradiction⟩ ⟨⟨rfl,rfl⟩,⟨rfl,rfl⟩,ao⟩
  rw[acR<|by omega]at hf;refine r0 rfl<|aP ⟨by omega,hf⟩ ⟨ab,ao⟩
 rintro⟨ho1,Ya⟩;rw[if_neg<|by omega,if_neg Ya]at hp;have hen:p.n.toNat=n:=by omega
 rw[hen]at hp;have hcI:c7 p.aa<=p.aa.length:=agV;refine b8 2 [(1,.box true<|bh p)] (c7 p.aa<=24/\vF n p.aa) ?_ ?_
 ·refine r0 rfl<|bF rfl (oP p h) rfl<|r0 rfl<|bH rfl (λh1=>?_) (λh1=>?_)
  ·have h1:(24:Int)<(c7 p.aa:Nat):=h1;refine r0 rfl<|aG rfl<|an.of_eq<|congrArg SV.i<|by rw[hp,if_pos<|by omega]
  have h1:¬(24:Int)<(c7 p.aa:Nat):=h1;rw[if_neg<|by omega]at hp;refine r0 rfl<|loop (λs:Nat=>[(1,.box true<|bh p),(6,.i s)]) (λs=>s<=n/\1<=s/\∀t:Nat,1<=t->t<s->p.aa.countP (λu=>decide (u.out=(t:Int)))=1) (λs=>n-s) 1 ⟨by omega,by omega,λt h1 h2=>by omega⟩ ⟨ab,ab,ao⟩ ?_;rintro s⟨hs,jn,hf⟩;refine r0 rfl<|bH rfl (λh2=>?_) (λh2=>?_)
  ·refine r0 rfl<|loop (λi:Nat=>[(1,.box true<|bh p),(6,.i s),(7,.i<|(p.aa.take i).countP λu=>decide (u.out=(s:Int))),(8,.i i)]) (λi=>i<=p.aa.length) (λi=>p.aa.length-i) 0 (abC _) ⟨ab,ab,ab,ab,ao⟩ ?_;intro i hi;have hc:((p.aa.take i).countP λu=>decide (u.out=(s:Int)))<=i:=acX agV (by simp;omega);refine r0 rfl<|bH rfl (λh3=>?_) (λh3=>?_)
   ·have aZ:i<p.aa.length:=by omega
    have ei:(i:Int).toNat=i:=by omega
    have eg:p.aa.getD i default=p.aa[i]:=aw aZ;have eR:((p.aa.take<|i+1).countP λu=>decide (u.out=(s:Int)))=((p.aa.take i).countP λu=>decide (u.out=(s:Int)))+(if p.aa[i].out=(s:Int)then 1 else 0):=by rw[ac6 aZ,ahj,ajp];by_cases g:p.aa[i].out=(s:Int)<;>simp[g]
    refine r1 rfl (by simp only[ag,and_true,ei]<;>omega) ?_;rw[ei,eg];refine bH rfl (λh4=>?_) (λh4=>?_)
    ·have h4:p.aa[i].out=(s:Int):=h4;rw[if_pos h4]at eR;refine r1 rfl (by simp only[ag,and_true]<;>omega) ?_;exact again (i+1) (by omega) (by omega) ⟨ab,ab,⟨rfl,an.of_eq<|congrArg SV.i<|by rw[eR];omega⟩,ab,ao⟩
    have h4:¬p.aa[i].out=(s:Int):=h4;rw[if_neg h4]at eR;refine r1 rfl (by simp only[ag,and_true]<;>omega) ?_;exact again (i+1) (by omega) (by omega) ⟨ab,ab,⟨rfl,an.of_eq<|congrArg SV.i<|by rw[eR];omega⟩,ab,ao⟩
   rw[acR<|by omega];refine r0 rfl<|bH rfl (λh4=>?_) (λh4=>?_)
   ·refine r0 rfl<|aG rfl<|bC ?_;rw[hp,if_pos];intro g;have:=g s jn (by omega);exact h4 (by rw[this];rfl)
   have h4:p.aa.countP (λu=>decide (u.out=(s:Int)))=1:=by omega
   refine r1 rfl (by simp only[ag,and_true]<;>omega) ?_;refine again (s+1) (by omega) ⟨by omega,by omega,λt g1 g2=>?_⟩ ⟨ab,ab,ao⟩;rcases ac1 t s with g|g
   ·exact hf t g1 g
   have:t=s:=by omega
   subst this;exact h4
  refine r0 rfl<|aP ⟨by omega,λt g1 g2=>hf t g1<|by omega⟩ ⟨ab,ao⟩
 rintro⟨se,RJ⟩;rw[if_neg<|by omega,if_neg λg=>g RJ]at hp;refine r0 rfl<|bG rfl (sG p h<|jc.fdd hv) rfl<|k0 rfl (by kernel_rfl)<|bH rfl (λh1=>?_) (λh1=>?_)
 ·refine r0 rfl<|aG rfl<|an.of_eq<|congrArg SV.i<|by rw[hp,if_pos<|by omega]
 rw[if_neg<|by omega]at hp;have hk:∀u∈p.aa,aJ u.k=0:=λu hu=>(hv u hu).k;refine r0 rfl<|bF rfl (vS p h n hn (by omega)<|jc.outs hv hn) rfl ?_;rw[Fe hk];refine r0 rfl<|loop (λi:Nat=>[(1,.box true<|bh p),(9,.strs true<|(bW n p.aa).map qt),(10,.i i)]) (λi=>i<=p.aa.length/\¬∃u∈p.aa.take i,conflict n p.aa u) (λi=>p.aa.length-i) 0 ⟨abC _,by simp⟩ ⟨ab,ab,ab,ao⟩ ?_;rintro i⟨hi,hf⟩;refine r0 rfl<|bH rfl (λh2=>?_) (λh2=>?_)
 ·have aZ:i<p.aa.length:=by omega
  have ei:(i:Int).toNat=i:=by omega
  have eg:p.aa.getD i default=p.aa[i]:=aw aZ;have X1:=hv _<|ab9 aZ;refine r1 rfl (by simp only[ag,and_true,ei]<;>omega) ?_;rw[ei,eg];refine aC 120 rfl (λh3=>?_) (λh3=>?_)
  ·have h3:p.aa[i].kind=dQ:=h3;obtain⟨t1,t2,t3⟩:=X1.table h3;have f0:p.aa[i].ah.getD 0 default∈p.aa[i].ah:=bz (by omega);obtain⟨b1,b2,b3,b4⟩:=X1.feed _ f0;have wX:=BV n p.aa;have cM:∀q∈bW n p.aa,Sz q 67:=BW (OG.mono<|by decide) λu hu=>eU<|hk u hu;have Kt:(p.aa[i].ah.getD 0 default).sh.toNat<(bW n p.aa).length:=by omega
   have gE:((bW n p.aa).map qt).getD (p.aa[i].ah.getD 0 default).sh.toNat []=qt ((bW n p.aa).getD (p.aa[i].ah.getD 0 default).sh.toNat 0):=JZ Kt;have hq:=cM _<|bz (d:=0) Kt;have hm:=fT (bI (p.aa[i].ah.getD 0 default).dU) ((bW n p.aa).getD (p.aa[i].ah.getD 0 default).sh.toNat 0) (eU b3) hq (by omega);rw[fO b3]at hm;have hh:=HL (p.aa[i].dD.map bI) (bI (p.aa[i].ah.getD 0 default).dU*(bW n p.aa).getD (p.aa[i].ah.getD 0 default).sh.toNat 0) (K:=67) ((eU b3).mul hq) (λc hc=>by obtain⟨s,hs,rfl⟩:=ac0.1 hc;exact eU<|X1.dD s hs) (by rw[acZ];omega) (by rw[acZ];omega)
   rw[aaR X1.dD]at hh;have afd:(p.aa[i].k≠qt (adP n p.aa p.aa[i]))↔conflict n p.aa p.aa[i]:=by
    unfold conflict;rw[and_iff_right h3]
    conv=>lhs;rw[<-fO X1.k]
    rw[ne_eq,ME]
   have uF:Int.toNat 0=0:=rfl;refine r1 rfl (by simp only[ag,and_true,acZ,uF]<;>omega) ?_;rw[uF];refine cd rfl (by rw[gE];rfl) hm rfl ?_;refine r1 rfl (by simp only[ag,and_true,acZ]<;>omega) ?_;refine bG rfl hh rfl<|k1 rfl (by kernel_rfl) (by simp only[ag,and_true]<;>omega) ?_;refine bH rfl (λh4=>?_) (λh4=>?_)
   ·refine r0 rfl<|aG rfl<|bC ?_;rw[hp,if_pos ⟨_,ab9 aZ,afd.1 h4⟩]
   refine r1 rfl (by simp only[ag,and_true]<;>omega) ?_;exact again (i+1) (by omega) ⟨by omega,jI aZ hf λg=>h4<|afd.2 g⟩ ⟨ab,ab,ab,ao⟩
  refine k1 rfl (by kernel_rfl) (by simp only[ag,and_true]<;>omega) ?_;exact again (i+1) (by omega) ⟨by omega,jI aZ hf λg=>h3 g.1⟩ ⟨ab,ab,ab,ao⟩
 rw[acR<|by omega]at hf;refine r0 rfl<|aG rfl<|an.of_eq<|congrArg SV.i<|by rw[hp,if_neg hf]
end Go.Ai
end
