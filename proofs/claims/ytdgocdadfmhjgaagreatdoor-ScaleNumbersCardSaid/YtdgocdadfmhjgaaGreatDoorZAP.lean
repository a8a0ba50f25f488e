/- Parts of the proof of ScaleNumbers (CheckBench, Exponent and Largest answer as the reference does), at every input, with no further conditions. -/
import Derived.Test.YtdgocdadfmhjgaaGreatDoorZAO
set_option linter.unusedVariables false
set_option linter.unusedSimpArgs false
namespace Go.Ai.Pg
open Go.Proofs Go.Ai Go.Ai.b6
set_option maxRecDepth 100000
noncomputable def QK(s:bw):Int:=if aG s≠0 then 0 else if cq s<=0 then 0 else oQ (cq s)
noncomputable def QL(s:bw):Int:=if aG s≠0 then aG s else if cq s<=0 then 3 else 0
theorem ZG(s:bw)(hl:s.length<2^45):aO Tryz.prog 24 [.s s] (.bC [.i (QK s),.i (QL s)]):=by
 refine enter (fn:=Tryz.f24) Tryz.func24 rfl rfl rfl rfl ?_;refine r0 rfl ?_;refine cl rfl rfl (qG s hl) rfl ?_;refine r0 rfl ?_;refine br rfl rfl rfl (fun g=>?_) (fun g=>?_)
 ·refine r0 rfl ?_;refine aF rfl ⟨congrArg SV.i ?_,congrArg SV.i ?_,trivial⟩
  ·unfold QK;rw[if_pos g]
  unfold QL;rw[if_pos g]
 have h0:aG s=0:=by simpa using g
 have e1:QK s=if cq s<=0 then 0 else oQ (cq s):=by unfold QK;rw[if_neg g]
 have e2:QL s=if cq s<=0 then 3 else 0:=by unfold QL;rw[if_neg g]
 rw[e1,e2];have hp:0<cq s↔0<(cq s).num:=by rw[Rat.lt_iff];simp
 have hs:(cq s).num.sign<=0↔cq s<=0:=by
  have h1:(cq s).num.sign<=0↔(cq s).num<=0:=by
   rcases Int.lt_trichotomy (cq s).num 0 with h|h|h
   ·rw[Int.sign_eq_neg_one_of_neg h];omega
   ·rw[h];simp
   rw[Int.sign_eq_one_of_pos h];omega
  rw[h1];rw[<-Int.not_lt,<-Rat.not_lt,hp]
 refine r0 rfl ?_;refine cl rfl rfl (mP h0) rfl ?_;refine r0 rfl ?_;refine cl rfl rfl (Dx _ (cP _)) rfl ?_;refine r0 rfl ?_;refine br rfl rfl rfl (fun g1=>?_) (fun g1=>?_)
 ·have g1:=hs.1 g1;rw[if_pos g1,if_pos g1];refine r0 rfl ?_;exact aF rfl (au.refl _)
 have g1:¬cq s<=0:=fun h=>g1 (hs.2 h);rw[if_neg g1,if_neg g1];refine r0 rfl ?_;refine cl rfl rfl (zB _ (cP _) (dB h0) (by decide) (hp.1 (Rat.not_le.1 g1))) rfl ?_;refine r0 rfl ?_;exact aF rfl (au.refl _)
noncomputable def TC(s:iv):bw:=if fi s≠0 then[]else qt (BV s)
theorem rR(s:iv)(h1:dq s.lo)(h2:dq s.hi):aO Tryz.prog 25 [jB s] (.bC [.s (TC s),.i (fi s)]):=by
 refine enter (fn:=Tryz.f25) Tryz.func25 rfl rfl rfl rfl ?_;refine r0 rfl ?_;refine cl rfl rfl (Nn s h1 h2) rfl ?_;refine r0 rfl ?_;refine br rfl rfl rfl (fun g=>?_) (fun g=>?_)
 ·refine r0 rfl ?_;exact aF rfl ⟨congrArg SV.s (by unfold TC;rw[if_pos g]),rfl,trivial⟩
 have h0:fi s=0:=by simpa using g
 have hv:=xY h0;obtain⟨q1,q2⟩:=yL hv;refine r0 rfl ?_;refine cl rfl rfl (nu s hv) rfl ?_;refine r0 rfl ?_;refine cl rfl rfl (UG _ q1 q2 (by decide)) rfl ?_;refine r0 rfl ?_;exact aF rfl ⟨congrArg SV.s (by unfold TC;rw[if_neg g]),congrArg SV.i h0.symm,trivial⟩
set_option maxHeartbeats 4000000 in
theorem Lz(Zg:aO Tryz.prog 9 [] (.b true))(b:ia)(a:bw)(s:iv)(la:a.length<=9223372036854775807)(l1:s.lo.length<=9223372036854775807)(l2:s.hi.length<=9223372036854775807):aO Tryz.prog 6 [eK b,.s a,jB s] (.b true):=by
 refine enter (fn:=Tryz.f6) Tryz.func6 rfl rfl rfl rfl ?_;refine r1 rfl (by simp only[ae,and_true]<;>omega) ?_;refine aB 15 rfl (fun g1=>?_) (fun g1=>?_)
 ·refine r0 rfl ?_;refine cl rfl rfl Zg rfl ?_;refine r0 rfl ?_;exact aF rfl (au.refl _)
 refine r1 rfl (by simp only[ae,and_true]<;>omega) ?_;refine aB 21 rfl (fun g2=>?_) (fun g2=>?_)
 ·refine r0 rfl ?_;refine cl rfl rfl Zg rfl ?_;refine r0 rfl ?_;exact aF rfl (au.refl _)
 refine r1 rfl (by simp only[ae,and_true]<;>omega) ?_;refine br rfl rfl rfl (fun g3=>?_) (fun g3=>?_)
 ·refine r0 rfl ?_;refine cl rfl rfl Zg rfl ?_;refine r0 rfl ?_;exact aF rfl (au.refl _)
 have ka:a.length<2^45:=by omega
 have k1:dq s.lo:=by unfold dq;omega
 have k2:dq s.hi:=by unfold dq;omega
 refine r0 rfl ?_;refine cd rfl rfl (KI b) rfl ?_;refine r0 rfl ?_;refine cd rfl rfl (vC b) rfl ?_;refine k0 rfl (by kernel_rfl) ?_;refine br rfl rfl rfl (fun g=>absurd rfl g) (fun _=>?_);refine rn 1 rfl ?_;refine cg 5 [(5,.box true (jB s)),(9,.s (TC s)),(10,.i (fi s))] True ?_ fun _=>?_
 ·have he:=ZG a ka;by_cases h0:aG a=0
  ·have Yv:=jW (cq a) ((ki h0).zo (by decide));rw[lH h0]at Yv;have hsi:(cq a).num.sign<=0↔cq a<=0:=by
    have h1:(cq a).num.sign<=0↔(cq a).num<=0:=by
     rcases Int.lt_trichotomy (cq a).num 0 with h|h|h
     ·rw[Int.sign_eq_neg_one_of_neg h];omega
     ·rw[h];simp
     rw[Int.sign_eq_one_of_pos h];omega
    rw[h1,<-Int.not_lt,<-Rat.not_lt];have hp:0<cq a↔0<(cq a).num:=by rw[Rat.lt_iff];simp
    rw[hp]
   by_cases hp:cq a<=0
   ·have e1:QK a=0:=by unfold QK;rw[if_neg (by rw[h0];simp),if_pos hp]
    have e2:QL a=3:=by unfold QL;rw[if_neg (by rw[h0];simp),if_pos hp]
    rw[e1,e2]at he;refine r0 rfl ?_;refine cl rfl rfl he rfl ?_;refine r0 rfl ?_;refine cl rfl rfl (rR s k1 k2) rfl ?_;refine r0 rfl ?_;refine cl rfl rfl (check_sound a ka) rfl ?_;refine r0 rfl ?_;refine aB 47 rfl (fun _=>?_) (fun g=>absurd h0 g);refine r0 rfl ?_;refine cl rfl rfl Yv rfl ?_;refine r0 rfl ?_;refine br rfl rfl rfl (fun _=>?_) (fun g=>absurd (hsi.2 hp) g);refine r0 rfl ?_;refine aB 55 rfl (fun g=>absurd rfl g) (fun _=>?_);refine r0 rfl ?_;refine aB 58 rfl (fun _=>?_) (fun g=>absurd (by decide) g);refine r0 rfl ?_;refine aB 63 rfl (fun g=>absurd rfl g) (fun _=>?_);refine r0 rfl ?_;refine aB 66 rfl (fun g=>absurd g (by decide)) (fun _=>?_);refine r0 rfl ?_;exact aQ trivial ⟨⟨rfl,rfl⟩,⟨rfl,rfl⟩,⟨rfl,rfl⟩,trivial⟩
   have pJ:0<cq a:=Rat.not_le.1 hp;have e1:QK a=oQ (cq a):=by unfold QK;rw[if_neg (by rw[h0];simp),if_neg hp]
   have e2:QL a=0:=by unfold QL;rw[if_neg (by rw[h0];simp),if_neg hp]
   rw[e1,e2]at he;have hex:=(lZ (cq a) pJ (ki h0) (by decide)).2;rw[lH h0]at hex;have hck:=check_sound a ka;rw[h0]at hck;refine r0 rfl ?_;refine cl rfl rfl he rfl ?_;refine r0 rfl ?_;refine cl rfl rfl (rR s k1 k2) rfl ?_;refine r0 rfl ?_;refine cl rfl rfl hck rfl ?_;refine r0 rfl ?_;refine aB 47 rfl (fun _=>?_) (fun g=>absurd rfl g);refine r0 rfl ?_;refine cl rfl rfl Yv rfl ?_;refine r0 rfl ?_;refine br rfl rfl rfl (fun g=>absurd (hsi.1 g) hp) (fun _=>?_);refine r0 rfl ?_;refine aB 55 rfl (fun g=>absurd rfl g) (fun _=>?_);refine r0 rfl ?_;refine aB 58 rfl (fun g=>absurd rfl g) (fun _=>?_);refine r0 rfl ?_;refine aB 66 rfl (fun _=>?_) (fun g=>absurd rfl g);refine r0 rfl ?_;refine cl rfl rfl hex rfl ?_;refine r0 rfl ?_;refine br rfl rfl rfl (fun g=>absurd rfl g) (fun _=>?_);refine r0 rfl ?_;exact aQ trivial ⟨⟨rfl,rfl⟩,⟨rfl,rfl⟩,⟨rfl,rfl⟩,trivial⟩
  have e1:QK a=0:=by unfold QK;rw[if_pos h0]
  have e2:QL a=aG a:=by unfold QL;rw[if_pos h0]
  rw[e1,e2]at he;refine r0 rfl ?_;refine cl rfl rfl he rfl ?_;refine r0 rfl ?_;refine cl rfl rfl (rR s k1 k2) rfl ?_;refine r0 rfl ?_;refine cl rfl rfl (check_sound a ka) rfl ?_;refine r0 rfl ?_;refine aB 47 rfl (fun g=>absurd g h0) (fun _=>?_);refine r0 rfl ?_;refine aB 55 rfl (fun g=>absurd rfl g) (fun _=>?_);refine r0 rfl ?_;refine aB 58 rfl (fun _=>?_) (fun g=>absurd h0 g);refine r0 rfl ?_;refine aB 63 rfl (fun g=>absurd rfl g) (fun _=>?_);refine r0 rfl ?_;refine aB 66 rfl (fun g=>absurd g h0) (fun _=>?_);refine r0 rfl ?_;exact aQ trivial ⟨⟨rfl,rfl⟩,⟨rfl,rfl⟩,⟨rfl,rfl⟩,trivial⟩
 refine r0 rfl ?_;refine cl rfl rfl (xj s k1 k2) rfl ?_;by_cases h0:fi s=0
 ·have hv:=re s (xY h0).1;have e1:TC s=qt (BV s):=by unfold TC;rw[if_neg (by rw[h0];simp)]
  rw[<-e1]at hv;rw[h0];refine r0 rfl ?_;refine br rfl rfl rfl (fun g=>absurd rfl g) (fun _=>?_);refine r0 rfl ?_;refine aB 89 rfl (fun _=>?_) (fun g=>absurd rfl g);refine r0 rfl ?_;refine cl rfl rfl hv rfl ?_;refine r0 rfl ?_;refine gS 95 rfl (fun g=>?_) (fun g=>?_)
  ·refine r0 rfl ?_;refine cl rfl rfl Zg rfl ?_;refine r0 rfl ?_;exact aF rfl (au.refl _)
  exact absurd g (by simp)
 have e1:TC s=[]:=by unfold TC;rw[if_pos h0]
 rw[e1];refine r0 rfl ?_;refine br rfl rfl rfl (fun _=>?_) (fun g=>absurd h0 g);refine r0 rfl ?_;refine aB 80 rfl (fun _=>?_) (fun g=>absurd rfl g);refine r0 rfl ?_;refine aB 84 rfl (fun _=>?_) (fun g=>absurd rfl g);refine r0 rfl ?_;refine cl rfl rfl Zg rfl ?_;refine r0 rfl ?_;exact aF rfl (au.refl _)
def fc:dW:=⟨di,[⟨1,[49]⟩,⟨0,[49]⟩],1,[49],[]⟩
def dP:ru:=⟨2,[fc],[1]⟩
theorem check_1:aG [49]=0:=by decide +kernel
theorem XX:cq [49]≠0:=by intro h;have h1:=lH check_1;rw[h,JA]at h1;exact absurd h1 (by decide)
theorem En:iY 2 fc=0:=by
 have hf:∀k:Int,0<=k->k<2->kx 2 ⟨k,[49]⟩=0:=by intro k h0 h1;unfold kx;rw[if_neg (by show¬(k<0\/2<=k);omega),if_neg (by rw[check_1];simp),if_neg XX]
 have hfe:aL (kx 2) fc.aC=0:=dj.2 (by
  intro f Xo;simp only[fc,List.mem_cons,List.not_mem_nil,or_false]at Xo;rcases Xo with rfl|rfl
  ·exact hf 1 (by decide) (by decide)
  exact hf 0 (by decide) (by decide))
 unfold iY;rw[if_neg (by simp[fc]),if_neg (by decide),if_neg (by rw[hfe];simp),if_neg (by decide),if_neg (by show¬aG [49]≠0;rw[check_1];simp)];rfl
theorem C1:jv [fc]=[0]:=by
 have h1:cW [fc] [] 0=0:=by rw[jL (by decide),if_pos (by decide)];rfl
 have h2:cW [fc] [0] 0= -1:=by rw[jL (by decide),if_neg (by decide),n8 (by decide)]
 show jb [fc] 2 []=[0];rw[jb,h1,if_neg (by decide)];show jb [fc] 1 [0]=[0];rw[jb,h2,if_pos (by decide)]
theorem wj:jY dP=0:=by
 have hu:aL (iY dP.n) dP.ah=0:=dj.2 (by
  intro u h;have:u=fc:=by simpa[dP]using h
  subst this;exact En)
 unfold jY;rw[if_neg (by decide),if_neg (by decide),if_neg (by rw[hu];simp),if_neg (by decide),if_neg (by decide),if_neg (by decide),if_neg,if_neg (by show¬(jv [fc]).length<1;rw[C1];decide),if_neg]
 ·rintro⟨u,h,h2,-⟩;have:u=fc:=by simpa[dP]using h
  subst this;exact absurd h2 (by decide)
 intro h;refine h fun s h1 h2=>?_;have:s=1:=by have:s<2:=h2;omega
 subst this;decide
def oR:List iv:=[⟨[48],[50]⟩,⟨[49],[56]⟩]
def nA:ia:=⟨3,5,10,4⟩
def qQ:ia:=⟨40,5,10,0⟩
theorem PG{n:Nat}(h:n<10):decl n 1=[MZ n]:=by
 have e:n/10=0:=by omega
 have e2:n%10=n:=by omega
 rw[bc (by omega),e,e2,bR];rfl
theorem Kx:aG [48]=0:=by decide +kernel
theorem Kw:aG [50]=0:=by decide +kernel
theorem Kv:aG [56]=0:=by decide +kernel
theorem xr{s:bw}(n:Nat)(h:n<10)(hc:aG s=0)(he:s=[MZ n]):cq s=(n:Rat):=by rw[<-NR,lH hc,he,UX,PG h]
theorem Tv:cq [48]=0:=xr 0 (by decide) Kx rfl
theorem CR:cq [49]=1:=xr 1 (by decide) check_1 rfl
theorem Tu:cq [50]=2:=xr 2 (by decide) Kw rfl
theorem Tt:cq [56]=8:=xr 8 (by decide) Kv rfl
theorem UK:fi ⟨[48],[50]⟩=0:=by unfold fi;rw[Kx,Kw,Tv,Tu];decide +kernel
theorem UJ:fi ⟨[49],[56]⟩=0:=by unfold fi;rw[check_1,Kv,CR,Tt];decide +kernel
theorem Vb:BV ⟨[48],[50]⟩=2:=by unfold BV;rw[Tv,Tu];decide +kernel
theorem Va:BV ⟨[49],[56]⟩=8:=by unfold BV;rw[CR,Tt];decide +kernel
theorem yI:kq 2 10=9:=by unfold kq;rw[if_neg (by decide +kernel),ij (e:=9) ⟨by decide +kernel,by decide +kernel⟩];rfl
theorem FE:kq 8 10=7:=by unfold kq;rw[if_neg (by decide +kernel),ij (e:=7) ⟨by decide +kernel,by decide +kernel⟩];rfl
theorem RJ:kq 8 5=2:=by unfold kq;rw[if_neg (by decide +kernel),ij (e:=2) ⟨by decide +kernel,by decide +kernel⟩];rfl
theorem HF(b:ia)(hb:b.s=10):lA oR b=[9,7]:=by unfold lA oR;simp only[List.map_cons,List.map_nil,Vb,Va,hb,yI,FE]
theorem Yh:FM oR ⟨1,[49]⟩=8:=by unfold FM;rw[show oR.getD (Int.toNat (Hp.sh ⟨1,[49]⟩)) default=⟨[49],[56]⟩from rfl,Va,show Hp.kt ⟨1,[49]⟩=[49]from rfl,CR];decide +kernel
theorem Yg:FM oR ⟨0,[49]⟩=2:=by unfold FM;rw[show oR.getD (Int.toNat (Hp.sh ⟨0,[49]⟩)) default=⟨[48],[50]⟩from rfl,Vb,show Hp.kt ⟨0,[49]⟩=[49]from rfl,CR];decide +kernel
theorem Yf(b:ia)(hb:b.d=5):uU oR b fc 0=2:=by unfold uU;rw[show fc.aC.getD 0 default=⟨1,[49]⟩from rfl,Yh,if_pos ⟨rfl,rfl⟩,hb,RJ]
theorem in_1(b:ia)(hb:b.s=10):uU oR b fc 1=9:=by unfold uU;rw[show fc.aC.getD 1 default=⟨0,[49]⟩from rfl,Yg,if_neg (by simp),hb,yI]
theorem Ig(b:ia)(hd:b.d=5)(hs:b.s=10):oq oR b dP.ah=[[2,9]]:=by show[jd oR b fc]=_;unfold jd;show[[uU oR b fc 0,uU oR b fc 1]]=_;rw[Yf b hd,in_1 b hs]
theorem lK:M3 dP:=⟨by decide,fun u h=>by
 have:u=fc:=by simpa[dP]using h
 subst this;exact⟨by decide,fun f hf=>by
  have:f.kt=[49]:=by simp only[fc,List.mem_cons,List.not_mem_nil,or_false]at hf;rcases hf with rfl|rfl<;>rfl
  rw[this];exact(by unfold dq;decide:dq [49]),(by unfold dq;decide:dq [49]),by decide,fun s hs=>by simp[fc]at hs⟩,by decide⟩
theorem vc:∀s∈oR,dq s.lo/\dq s.hi:=by intro s hs;simp only[oR,List.mem_cons,List.not_mem_nil,or_false]at hs;rcases hs with rfl|rfl<;>exact⟨by unfold dq;decide,by unfold dq;decide⟩
theorem xu(b:ia)(hb:MO b):py dP oR b=0:=by
 have h1:mr dP.n oR=0:=by
  unfold mr;rw[if_neg (by decide)];refine dj.2 fun s hs=>?_;simp only[oR,List.mem_cons,List.not_mem_nil,or_false]at hs;rcases hs with rfl|rfl
  ·exact UK
  exact UJ
 have h2:lG dP oR=0:=by unfold lG;rw[if_neg (by rw[wj];simp)];exact h1
 unfold py;rw[if_neg (by rw[h2];simp)];exact wT.2 hb
theorem S6:MO nA:=⟨by decide,by decide,by decide,by decide⟩
theorem WM:MO qQ:=⟨by decide,by decide,by decide,by decide⟩
def WB:List Ji:=[⟨0,-1,9⟩,⟨-1,0,40⟩,⟨1,-1,7⟩,⟨-1,1,40⟩,⟨-1,-1,42⟩,⟨1,-1,6⟩,⟨-1,1,2⟩,⟨1,-1,8⟩,⟨-1,1,41⟩,⟨1,0,3⟩,⟨0,1,5⟩]
def ZO:List Ji:=[⟨0,-1,9⟩,⟨-1,0,40⟩,⟨1,-1,7⟩,⟨-1,1,40⟩,⟨-1,-1,42⟩,⟨1,-1,2⟩,⟨-1,1,-2⟩,⟨1,-1,-29⟩,⟨-1,1,78⟩,⟨1,0,-38⟩,⟨0,1,38⟩]
theorem XT(b:ia)(hs:b.s=10):Ra oR b 0=9:=by unfold Ra;rw[show oR.getD 0 default=⟨[48],[50]⟩from rfl,Vb,hs,yI]
theorem XS(b:ia)(hs:b.s=10):Ra oR b 1=7:=by unfold Ra;rw[show oR.getD 1 default=⟨[49],[56]⟩from rfl,Va,hs,FE]
theorem PR(b:ia)(hd:b.d=5)(hs:b.s=10):vB 2 dP.ah oR b=
 [⟨0,-1,9⟩,⟨-1,0,40⟩,⟨1,-1,7⟩,⟨-1,1,40⟩,⟨-1,-1,2+40⟩,⟨1,-1,2+b.g⟩,⟨-1,1,b.g-2⟩,⟨1,-1,9+2-b.c⟩,⟨-1,1,40+b.c-2⟩,⟨1,0,b.g+2-b.c⟩,⟨0,1,b.g-2+b.c⟩]:=by
 show([⟨0,-1,Ra oR b 0⟩,⟨-1,0,40⟩,⟨1,-1,Ra oR b 1⟩,⟨-1,1,40⟩]:List Ji)++(GS 2 oR b fc++[])=_;have hu:GS 2 oR b fc=I2 oR b fc:=if_pos rfl;rw[hu];unfold I2;rw[XT b hs,XS b hs,Yf b hd,in_1 b hs];rfl
theorem Kr:vB 2 dP.ah oR nA=WB:=(PR nA rfl rfl).trans rfl
theorem SP:vB 2 dP.ah oR qQ=ZO:=(PR qQ rfl rfl).trans rfl
def xP:SV:=fo dP
def xR:SV:=.cJ false 2 default jB oR
def Jl(b:ia)(o:Bool):SV:=.agg [.i dP.n,.cJ false 5 default gN dP.ah,.ints .i64 false dP.ints,.cJ false 2 default jB oR,.i b.c,.i b.d,.i b.s,.i b.g,.ints .i64 o [9,7],.cJ o 1 [] (SV.ints .i64 o) [[2,9]]]
theorem DG:oR.length<2^40:=by decide
theorem NZ(b:ia)(hb:MO b)(hd:b.d=5)(hs:b.s=10):aO Tryz.prog 40 [xP,xR,eK b] (.bC [.box true (Jl b true),.i 0]):=by have h:=HS dP lK oR vc DG b (xu b hb);unfold tx at h;rw[HF b hs,Ig b hd hs]at h;exact h
theorem Ok:aO Tryz.prog 10 [xP,xR,eK nA] (.bC [.ints .i64 false [9,7],.cJ false 1 [] (SV.ints .i64 false) [[2,9]],.i 0]):=by have h:=LK dP lK oR vc DG nA (xu nA S6);rw[HF nA rfl,Ig nA rfl rfl]at h;exact h
theorem SN:aO Tryz.prog 11 [xP,xR,eK nA] (.bC [.cJ true 3 default xh WB,.i 0]):=by have h:=PQ dP lK oR vc DG nA (xu nA S6);rw[show dP.n.toNat=2 from rfl,Kr]at h;exact h
theorem tG(b:ia)(hb:MO b)(hd:b.d=5)(hs:b.s=10):aO Tryz.prog 41 [.box false (Jl b false)] (.bC [.cJ true 3 default xh (vB 2 dP.ah oR b),.i 2]):=by have v:=uH (xu b hb);have h:=tH dP lK 2 rfl (by decide) v.ah v.val oR b v.rg v.bn;unfold Ki at h;rw[HF b hs,Ig b hd hs]at h;exact h
end Go.Ai.Pg
namespace Go.Ai
open Go.RowKit
def Am:Bool->Bool->Bool
 |true,b=>b
 |false,true=>false
 |false,false=>true
theorem vF{a b:Bool}(h:Am a b=true):a=b:=by cases a<;>cases b<;>simp_all[Am]
def OD:Int->Int->Bool
 |.ofNat a,.ofNat b=>Nat.beq a b
 |.negSucc a,.negSucc b=>Nat.beq a b
 |_,_=>false
theorem OC{a b:Int}(h:OD a b=true):a=b:=by
 cases a<;>cases b<;>simp only[OD]at h<;>first
  |(rw[Nat.eq_of_beq_eq_true h])
  |simp at h
def uw:bw->bw->Bool
 |[],[]=>true
 |a::x,b::y=>match Nat.beq a.toNat b.toNat with
  |true=>uw x y
  |false=>false
 |_,_=>false
theorem Bt:∀{a b:bw},uw a b=true->a=b
 |[],[],_=>rfl
 |[],_::_,h=>by simp[uw]at h
 |_::_,[],h=>by simp[uw]at h
 |a::x,b::y,h=>by
  unfold uw at h;split at h
  ·rename_i e;rw[Bt h,UInt8.toNat_inj.1 (Nat.eq_of_beq_eq_true e)]
  simp at h
def Nb:Value->Value->Bool
 |.pointer none,.pointer none=>true
 |.map none,.map none=>true
 |.nilFunc,.nilFunc=>true
 |.nilIface,.nilIface=>true
 |_,_=>false
theorem Na{a b:Value}(h:Nb a b=true):a=b:=by unfold Nb at h;split at h<;>first|rfl|simp at h
def can:SV->SV
 |.dH _ []=>.nil
 |.dH k (x::xs)=>.row false 1 ((x::xs).map (.n k))
 |.ints k o xs=>.row o 1 (xs.map (.n k))
 |.strs o xs=>.row o 1 (xs.map .s)
 |.bB o xs=>.row o 1 (xs.map .b)
 |.cJ o sz _ e xs=>.row o sz (xs.map e)
 |.u x=>.b x
 |x=>x
theorem KB(x:SV):(can x).den=x.den:=by
 cases x<;>try rfl
 case dH k xs=>cases xs<;>simp[can,SV.den,ZE,XO,fl,bx]
 all_goals simp[can,SV.den,bx,Function.comp_def]
def allEq(f:SV->SV->Bool):List SV->List SV->Bool
 |[],[]=>true
 |x::xs,y::ys=>match f x y with
  |true=>allEq f xs ys
  |false=>false
 |_,_=>false
def WC(f:SV->SV->Bool):SV->SV->Bool
 |.n k a,.n k' b=>b8 (pH k k') (OD a b)
 |.b a,.b b=>Am a b
 |.s a,.s b=>uw a b
 |.c a,.c b=>Nb a b
 |.nil,.nil=>true
 |.row o sz xs,.row o' fe ys=>b8 (Am o o') (b8 (Nat.beq sz fe) (allEq f xs ys))
 |.agg xs,.agg ys=>allEq f xs ys
 |.bC xs,.bC ys=>allEq f xs ys
 |.box o x,.box o' y=>b8 (Am o o') (f x y)
 |.fn (.func g) xs ys,.fn (.func g') o8 KL=>b8 (Nat.beq g g') (b8 (allEq f xs o8) (allEq f ys KL))
 |_,_=>false
def Ko:Nat->SV->SV->Bool
 |0,_,_=>false
 |n+1,x,y=>WC (Ko n) (can x) (can y)
theorem iG{f:SV->SV->Bool}(hf:∀x y,f x y=true->x.den=y.den):∀{xs ys:List SV},allEq f xs ys=true->an xs=an ys
 |[],[],_=>rfl
 |[],_::_,h=>by simp[allEq]at h
 |_::_,[],h=>by simp[allEq]at h
 |x::xs,y::ys,h=>by
  unfold allEq at h;split at h
  ·rename_i e;simp only[an,hf _ _ e,iG hf h]
  simp at h
theorem PV{f:SV->SV->Bool}(hf:∀x y,f x y=true->x.den=y.den){x y:SV}(h:WC f x y=true):x.den=y.den:=by
 unfold WC at h;split at h
 ·rw[aH]at h;rw[kV h.1,OC h.2]
 ·rw[vF h]
 ·rw[Bt h]
 ·rw[Na h]
 ·rfl
 ·rw[aH,aH]at h;simp only[SV.den,vF h.1,Nat.eq_of_beq_eq_true h.2.1,iG hf h.2.2]
 ·simp only[SV.den,iG hf h]
 ·simp only[SV.den,iG hf h]
 ·rw[aH]at h;simp only[SV.den,vF h.1,hf _ _ h.2]
 ·rw[aH,aH]at h;simp only[SV.den,Nat.eq_of_beq_eq_true h.1,iG hf h.2.1,iG hf h.2.2]
 simp at h
theorem Ci:∀{n:Nat}{x y:SV},Ko n x y=true->x.den=y.den
 |0,_,_,h=>by simp[Ko]at h
 |n+1,x,y,h=>by rw[<-KB x,<-KB y];exact PV (fun _ _ h=>Ci h) h
theorem aO.shr{P:Program}{f:FuncId}{aas:List SV}{r:SV}(h:aO P f aas r):aO P f aas r.bf:=by
 intro w S vs hG hS hc;intro rd o a next Q hn
 refine h w S vs hG hS hc rd o a next Q fun v w'⟨S',F,h1,h2,h3,h4,h5,h6,h7⟩=>hn v w' ?_
 refine⟨fun b=>S' b\/b∈F,[],h1,fun b hb=>.inl (h2 b hb),fun b hb=>?_,fun b hb=>?_,?_,List.nodup_nil,fun b hb=>by simp at hb⟩
 ·rcases hb with hb|hb
  ·exact h3 b hb
  exact .inr (h7 b hb).1
 ·rcases hb with hb|hb
  ·exact h4 b hb
  exact(h7 b hb).2.1
 rw[<-ew];exact Rel.share (fun b hb=>.inl hb) _ h5 fun b hb=>.inr hb
abbrev vN:=FuncId×List SV×SV
def yG:List vN->nL
 |[],_,_=>none
 |(g',ZX,r)::L,g,aas=>match Nat.beq g g' with
  |true=>match allEq (Ko 100) aas ZX with
   |true=>some r
   |false=>yG L g aas
  |false=>yG L g aas
def Tl(P:Program):List vN->Prop
 |[]=>True
 |(g,aas,r)::L=>aO P g aas r/\Tl P L
theorem mB{P:Program}:∀{L:List vN},Tl P L->∀{g:FuncId}{aas:List SV}{r:SV},yG L g aas=some r->aO P g aas r
 |[],_,_,_,_,h=>by simp[yG]at h
 |(g',ZX,r')::L,hL,g,aas,r,h=>by
  unfold yG at h;split at h
  ·rename_i e1;split at h
   ·rename_i e2;simp only[Option.some.injEq]at h;rw[Nat.eq_of_beq_eq_true e1,<-h];exact hL.1.same (iG (fun _ _ h=>Ci h) e2).symm rfl
   exact mB hL.2 h
  exact mB hL.2 h
def orK(T T':nL):nL:=fun g aas=>match T g aas with
 |some r=>some r
 |none=>T' g aas
theorem Lo{P:Program}{T T':nL}(h:∀g aas r,T g aas=some r->aO P g aas r)(h':∀g aas r,T' g aas=some r->aO P g aas r):∀g aas r,orK T T' g aas=some r->aO P g aas r:=by
 intro g aas r e;unfold orK at e;split at e
 ·rename_i e1;simp only[Option.some.injEq]at e;subst e;exact h _ _ _ e1
 exact h' _ _ _ e
end Go.Ai
namespace Go.Ai.Pg
open Go.Proofs Go.Ai Go.Ai.b6
set_option maxRecDepth 100000
theorem hW:Tryz.prog.funcs.toList.all Fa=true:=by kernel_rfl
def rf(f:FuncId)(t:List SV->Option SV)(T:nL):nL:=fun g xs=>match Nat.beq g f with
 |true=>t xs
 |false=>T g xs
theorem fH{P:Program}{f:FuncId}{t:List SV->Option SV}{T:nL}(h:∀xs r,t xs=some r->aO P f xs r)(hT:∀g xs r,T g xs=some r->aO P g xs r):∀g xs r,rf f t T g xs=some r->aO P g xs r:=by
 intro g xs r e;unfold rf at e;split at e
 ·rename_i e1;rw[Nat.eq_of_beq_eq_true e1];exact h _ _ e
 exact hT _ _ _ e
def IU:Nat->Nat->Nat->bw->bw
 |0,_,_,t=>t
 |m+1,n,k,t=>match b8 (Nat.beq n 0) (Nat.beq k 0)with
  |true=>t
  |false=>IU m (n/10) (k-1) (MZ (n%10)::t)
theorem DU:∀m n k t,n<10^m->k<=m->IU m n k t=decl n k++t
 |0,n,k,t,h,hk=>by
  have e1:n=0:=by simp at h;omega
  have e2:k=0:=by omega
  subst e1;subst e2;rw[bR];rfl
 |m+1,n,k,t,h,hk=>by
  unfold IU;split
  ·rename_i e;rw[aH]at e;rw[Nat.eq_of_beq_eq_true e.1,Nat.eq_of_beq_eq_true e.2,bR];rfl
  rename_i e;have hn:¬(n=0/\k=0):=fun⟨a,b⟩=>by subst a;subst b;simp[b8]at e
  rw[DU m (n/10) (k-1) _ (by rw[Nat.pow_succ]at h;omega) (by omega),bc hn,List.append_assoc];rfl
def Vg:Int->bw
 |.ofNat n=>IU 30 n 1 []
 |.negSucc n=>45::IU 30 (n+1) 1 []
theorem JM{z:Int}(h0: -9223372036854775808<=z)(h1:z<=9223372036854775807):Vg z=bM z:=by
 have hp:(9223372036854775809:Nat)<10^30:=by decide
 unfold bM;cases z with
 |ofNat n=>have hn:n<10^30:=Nat.lt_trans (by have:Int.ofNat n=(n:Int):=rfl;omega:n<9223372036854775809) hp;rw[if_neg (by have:Int.ofNat n=(n:Int):=rfl;omega)];show IU 30 n 1 []=_;rw[DU 30 n 1 [] hn (by decide),List.append_nil];rfl
 |negSucc n=>have hn:n+1<10^30:=Nat.lt_trans (by omega:n+1<9223372036854775809) hp;rw[if_pos (by omega)];show 45::IU 30 (n+1) 1 []=_;rw[DU 30 (n+1) 1 [] hn (by decide),List.append_nil];rfl
def W7(a b:Int):Bool:=match b-a with
 |.ofNat (_+1)=>true
 |_=>false
theorem xy{a b:Int}(h:W7 a b=true):a<b:=by
 unfold W7 at h;split at h
 ·rename_i n e;have:b-a=((n:Int)+1):=e;omega
 simp at h
def Ic:List SV->Option SV
 |[.n .u64 (.ofNat x),.n .u64 (.ofNat y),.n .u64 (.ofNat c)]=>match Nat.ble c 1 with
  |true=>some (.bC [.n .u64 (.ofNat ((x+y+c)%18446744073709551616)),.n .u64 (.ofNat ((x+y+c)/18446744073709551616))])
  |false=>none
 |_=>none
def H9:List SV->Option SV
 |[.n .u64 (.ofNat x),.n .u64 (.ofNat y),.n .u64 (.ofNat c)]=>match Nat.ble c 1 with
  |true=>some (.bC [.n .u64 (.ofNat ((x+18446744073709551616-y-c)%18446744073709551616)),.n .u64 (.ofNat (match Nat.blt x (y+c)with|true=>1|false=>0))])
  |false=>none
 |_=>none
def Ia:List SV->Option SV
 |[.n .u64 (.ofNat x),.n .u64 (.ofNat y)]=>match b8 (Nat.blt x 18446744073709551616) (Nat.blt y 18446744073709551616)with
  |true=>some (.bC [.n .u64 (.ofNat (x*y/18446744073709551616)),.n .u64 (.ofNat (x*y%18446744073709551616))])
  |false=>none
 |_=>none
def Ib:List SV->Option SV
 |[.s s,.n .u8 (.ofNat c)]=>match Nat.beq c 47 with
  |true=>some (.i (Nq s))
  |false=>none
 |_=>none
def Ov:List SV->Option SV
 |[.n .i64 z]=>match b8 (W7 (-9223372036854775809) z) (W7 z 9223372036854775808)with
  |true=>some (.s (Vg z))
  |false=>none
 |_=>none
def Ot:List SV->Option SV
 |[.agg [.n .i64 z,.nil]]=>match b8 (W7 (-9223372036854775809) z) (W7 z 9223372036854775808)with
  |true=>some (.s (Vg z))
  |false=>none
 |_=>none
def SI:bw->Bool
 |[]=>true
 |c::s=>match b8 (Nat.ble 48 c.toNat) (Nat.ble c.toNat 57)with
  |true=>SI s
  |false=>false
theorem GJ:∀{s:bw},SI s=true->cp s
 |[],_=>fun c hc=>by simp at hc
 |c::s,h=>by
  unfold SI at h;split at h
  ·rename_i e;rw[aH]at e;intro x hx;rcases List.mem_cons.1 hx with rfl|hx
   ·exact⟨Nat.le_of_ble_eq_true e.1,Nat.le_of_ble_eq_true e.2⟩
   exact GJ h x hx
  simp at h
def Ox:List SV->Option SV
 |[.s (c::s)]=>match b8 (SI (c::s)) (Nat.ble (len s) 17)with
  |true=>some (.bC [.n .i64 (.ofNat (bL (c::s))),.c .nilIface])
  |false=>none
 |_=>none
def Ve:List SV->Option SV
 |[.ints .i64 false [x],.n .i64 (.ofNat n)]=>match b8 (Nat.ble 1 n) (Nat.blt n 1048576)with
  |true=>some (.ints .i64 true (List.replicate n x))
  |false=>none
 |_=>none
theorem LQ(xs:List SV)(r:SV)(h:Ic xs=some r):aO Tryz.prog 239 xs r:=by
 unfold Ic at h;split at h
 ·split at h
  ·rename_i x y c _ e;simp only[Option.some.injEq]at h;subst h;exact dJ x y c (Nat.le_of_ble_eq_true e)
  simp at h
 simp at h
theorem LN(xs:List SV)(r:SV)(h:H9 xs=some r):aO Tryz.prog 253 xs r:=by
 unfold H9 at h;split at h
 ·split at h
  ·rename_i x y c _ e;simp only[Option.some.injEq]at h;subst h;have hh:=mY x y c (Nat.le_of_ble_eq_true e);have e2:(match Nat.blt x (y+c)with|true=>1|false=>0)=if x<y+c then 1 else 0:=by
    by_cases g:x<y+c
    ·rw[if_pos g];have:Nat.blt x (y+c)=true:=Nat.ble_eq_true_of_le g;rw[this]
    rw[if_neg g];have:Nat.blt x (y+c)=false:=by
     cases hb:Nat.blt x (y+c)with
     |false=>rfl
     |true=>exact absurd (Nat.le_of_ble_eq_true hb) g
    rw[this]
   rw[e2];exact hh
  simp at h
 simp at h
theorem LO(xs:List SV)(r:SV)(h:Ia xs=some r):aO Tryz.prog 185 xs r:=by
 unfold Ia at h;split at h
 ·split at h
  ·rename_i x y _ e;simp only[Option.some.injEq]at h;subst h;rw[aH]at e;exact iO x y (Nat.le_of_ble_eq_true e.1) (Nat.le_of_ble_eq_true e.2)
  simp at h
 simp at h
theorem LP(xs:List SV)(r:SV)(h:Ib xs=some r):aO Tryz.prog 283 xs r:=by
 unfold Ib at h;split at h
 ·split at h
  ·rename_i s c _ e;simp only[Option.some.injEq]at h;subst h;rw[Nat.eq_of_beq_eq_true e];exact yT s
  simp at h
 simp at h
theorem Ou(xs:List SV)(r:SV)(h:Ov xs=some r):aO Tryz.prog 201 xs r:=by
 unfold Ov at h;split at h
 ·split at h
  ·rename_i z _ e;simp only[Option.some.injEq]at h;subst h;rw[aH]at e;have e1:=xy e.1;have e2:=xy e.2;rw[JM (by omega) (by omega)];exact Oz z (by omega) (by omega)
  simp at h
 simp at h
theorem Oq(xs:List SV)(r:SV)(h:Ot xs=some r):aO Tryz.prog 123 xs r:=by
 unfold Ot at h;split at h
 ·split at h
  ·rename_i z _ e;simp only[Option.some.injEq]at h;subst h;rw[aH]at e;have e1:=xy e.1;have e2:=xy e.2;rw[JM (by omega) (by omega)];have hd:(b6.aa z.natAbs).length<=1:=b6.fj (m:=z.natAbs) (by omega);have hz:aV ⟨z,none⟩:=show -9223372036854775808<=z/\z<=9223372036854775807 from⟨by omega,by omega⟩;exact xT ⟨z,none⟩ hz (K:=1) hd (by decide)
  simp at h
 simp at h
theorem Ow(xs:List SV)(r:SV)(h:Ox xs=some r):aO Tryz.prog 193 xs r:=by
 unfold Ox at h;split at h
 ·split at h
  ·rename_i c s _ e;simp only[Option.some.injEq]at h;subst h;rw[aH]at e;have hl:=Nat.le_of_ble_eq_true e.2;rw[dA]at hl;exact Qc (c::s) (GJ e.1) (by simp) (by simp;omega)
  simp at h
 simp at h
theorem RN(xs:List SV)(r:SV)(h:Ve xs=some r):aO Tryz.prog 52 xs r:=by
 unfold Ve at h;split at h
 ·split at h
  ·rename_i x n _ e;simp only[Option.some.injEq]at h;subst h;rw[aH]at e;exact BC x n (Nat.le_of_ble_eq_true e.1) (Nat.le_of_ble_eq_true e.2)
  simp at h
 simp at h
def T0:nL:=rf 239 Ic<|rf 253 H9<|rf 185 Ia<|rf 283 Ib<|rf 201 Ov<|rf 123 Ot<|rf 193 Ox<|rf 52 Ve fun _ _=>none
theorem fA:∀g xs r,T0 g xs=some r->aO Tryz.prog g xs r:=fH LQ<|fH LN<|fH LO<|fH LP<|fH Ou<|fH Oq<|fH Ow<|fH RN fun _ _ _ h=>by simp at h
end Go.Ai.Pg
