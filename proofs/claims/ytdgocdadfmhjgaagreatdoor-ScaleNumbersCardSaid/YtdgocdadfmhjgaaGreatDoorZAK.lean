/- Parts of the proof of ScaleNumbers (CheckBench, Exponent and Largest answer as the reference does), at every input, with no further conditions. -/
import Derived.Test.YtdgocdadfmhjgaaGreatDoorZAJ
import Derived.Shelf.Spec.BitsCarry
set_option linter.unusedVariables false
set_option linter.unusedSimpArgs false
namespace Go.Ai
open Go.Proofs
set_option maxRecDepth 100000
theorem Fe(a b:Int)(hb:b≠0)(h1: -9223372036854775808<a/\a<=9223372036854775807)(h2: -9223372036854775808<b/\b<=9223372036854775807):aO Tryz.prog 99 [.i a,.i b] (.s (qt (Rat.divInt a b))):=by
 refine enter (fn:=Tryz.f99) Tryz.func99 rfl rfl rfl rfl ?_;refine cg 2 [(0,.i a),(1,.i b)] (-4000000000000000000<=a/\a<=4000000000000000000/\ -4000000000000000000<=b/\b<=4000000000000000000) ?_ fun hc=>?_
 ·have hla:=og (m:=a.natAbs) (by omega);have hlb:=og (m:=b.natAbs) (by omega);have big:∀{K:List It}{l:aP},True:=fun{_ _}=>trivial;refine r0 rfl ?_;refine aB 9 rfl (fun g1=>?_) (fun g1=>?_)
  ·refine r0 rfl ?_;refine cl rfl rfl (eB a h1) rfl ?_;refine r0 rfl ?_;refine cl rfl rfl (eB b h2) rfl ?_;refine r0 rfl ?_;refine cl rfl rfl (dS a b hb (by omega) (by omega)) rfl ?_;refine r0 rfl ?_;exact aF rfl (au.refl _)
  refine r0 rfl ?_;refine aB 13 rfl (fun g2=>?_) (fun g2=>?_)
  ·refine r0 rfl ?_;refine cl rfl rfl (eB a h1) rfl ?_;refine r0 rfl ?_;refine cl rfl rfl (eB b h2) rfl ?_;refine r0 rfl ?_;refine cl rfl rfl (dS a b hb (by omega) (by omega)) rfl ?_;refine r0 rfl ?_;exact aF rfl (au.refl _)
  refine r0 rfl ?_;refine aB 17 rfl (fun g3=>?_) (fun g3=>?_)
  ·refine r0 rfl ?_;refine cl rfl rfl (eB a h1) rfl ?_;refine r0 rfl ?_;refine cl rfl rfl (eB b h2) rfl ?_;refine r0 rfl ?_;refine cl rfl rfl (dS a b hb (by omega) (by omega)) rfl ?_;refine r0 rfl ?_;exact aF rfl (au.refl _)
  refine r0 rfl ?_;refine br rfl rfl rfl (fun g4=>?_) (fun g4=>?_)
  ·refine r0 rfl ?_;refine cl rfl rfl (eB a h1) rfl ?_;refine r0 rfl ?_;refine cl rfl rfl (eB b h2) rfl ?_;refine r0 rfl ?_;refine cl rfl rfl (dS a b hb (by omega) (by omega)) rfl ?_;refine r0 rfl ?_;exact aF rfl (au.refl _)
  refine r0 rfl ?_;exact aQ (by omega) ⟨⟨rfl,rfl⟩,⟨rfl,rfl⟩,trivial⟩
 obtain⟨c1,c2,c3,c4⟩:=hc;refine wO 1 (fun(n d:Int)=>[(0,.i n),(1,.i d)]) (fun n d=>0<d/\Rat.divInt n d=Rat.divInt a b/\n.natAbs=a.natAbs/\d.natAbs=b.natAbs) ?_ ?_
 ·refine r0 rfl ?_;refine br rfl rfl rfl (fun g1=>?_) (fun g1=>?_)
  ·refine r1 rfl (by simp only[ae,and_true,len]<;>omega) ?_;refine meet (-a,-b) ⟨?_,Rat.neg_divInt_neg _ _,?_,?_⟩ ⟨⟨rfl,au.of_eq (congrArg SV.i (by omega))⟩,⟨rfl,au.of_eq (congrArg SV.i (by omega))⟩,trivial⟩<;>dsimp only<;>omega
  refine r0 rfl ?_;refine meet (a,b) ⟨?_,rfl,rfl,rfl⟩ ⟨⟨rfl,rfl⟩,⟨rfl,rfl⟩,trivial⟩;dsimp only;omega
 rintro n d⟨hd,hq,MU,V5⟩;rw[<-hq];have uW:=zg (n:=n) hd;have xc:=zj (n:=n) hd;have O3:0<Nat.gcd n.natAbs d.natAbs:=Nat.gcd_pos_of_pos_right _ (by omega);have hgn:=Nat.gcd_dvd_left n.natAbs d.natAbs;have Xm:=Nat.gcd_dvd_right n.natAbs d.natAbs;have YE:(Rat.divInt n d).num.natAbs<=n.natAbs:=by rw[uW,jw];exact Nat.div_le_self _ _
 have Se:(Rat.divInt n d).den<=d.natAbs:=by rw[xc];exact Nat.div_le_self _ _
 have Sg:=(Rat.divInt n d).den_nz;have ed:(d.natAbs:Int)=d:=by omega
 have Wu:qM false n (0-n)=(n.natAbs:Int):=by simp only[qM];omega
 have t1:n.tdiv (Nat.gcd n.natAbs d.natAbs:Nat)=(Rat.divInt n d).num:=by
  rw[uW];unfold xn;by_cases h:n<0
  ·have e2:n= -(n.natAbs:Int):=by omega
   simp only[h,decide_true,if_true]
   conv=>lhs;rw[e2]
   rw[Int.neg_tdiv,Int.tdiv_eq_ediv_of_nonneg (by omega)];simp
  have e2:n=(n.natAbs:Int):=by omega
  simp only[h,decide_false,Bool.false_eq_true,if_false]
  conv=>lhs;rw[e2]
  rw[Int.tdiv_eq_ediv_of_nonneg (by omega)];simp
 have t2:d.tdiv (Nat.gcd n.natAbs d.natAbs:Nat)=((Rat.divInt n d).den:Int):=by
  rw[xc]
  conv=>lhs;rw[<-ed]
  rw[Int.tdiv_eq_ediv_of_nonneg (by omega)];simp
 have w1:IntKind.i64.wrap (n.tdiv (Nat.gcd n.natAbs d.natAbs:Nat))=(Rat.divInt n d).num:=by rw[t1];exact mV ⟨by omega,by omega⟩
 have w2:IntKind.i64.wrap (d.tdiv (Nat.gcd n.natAbs d.natAbs:Nat))=((Rat.divInt n d).den:Int):=by rw[t2];exact mV ⟨by omega,by omega⟩
 refine cg 2 [(0,.i (Rat.divInt n d).num),(1,.i (Rat.divInt n d).den)] True ?_ fun _=>?_
 ·refine r1 rfl (by simp only[ae,and_true,len]<;>omega) ?_;refine cl rfl (by rw[Wu,<-ed];rfl) (Mk n.natAbs d.natAbs) rfl ?_;refine kw [40,43] rfl (by kernel_rfl) (by simp only[ae,and_true,len]<;>omega) ?_;exact aQ trivial ⟨⟨rfl,au.of_eq (congrArg SV.i w1)⟩,⟨rfl,au.of_eq (congrArg SV.i w2)⟩,trivial⟩
 generalize Rat.divInt n d=q at*;have L9:(decl q.num.natAbs 1).length<=19:=dp _ _ 19 (by omega) (by omega);have agH:(decl q.den 1).length<=19:=dp _ _ 19 (by omega) (by omega);have Wu:qM false q.num (0-q.num)=(q.num.natAbs:Int):=by simp only[qM];omega
 refine cg 2 [(0,.i q.num),(1,.i q.den),(6,.s (if q.num<0 then[45]else[]))] True ?_ fun _=>?_
 ·refine r0 rfl ?_;refine br rfl rfl rfl (fun h=>?_) (fun h=>?_)
  ·refine r0 rfl ?_;exact aQ trivial ⟨⟨rfl,rfl⟩,⟨rfl,rfl⟩,⟨rfl,au.of_eq (congrArg SV.s (by rw[if_pos h]))⟩,trivial⟩
  refine r0 rfl ?_;exact aQ trivial ⟨⟨rfl,rfl⟩,⟨rfl,rfl⟩,⟨rfl,au.of_eq (congrArg SV.s (by rw[if_neg h]))⟩,trivial⟩
 have hs:(if q.num<0 then[45]else([]:bw)).length<=1:=by split<;>simp
 have es:(if q.num<0 then[45]else([]:bw))++decl q.num.natAbs 1=bM q.num:=by unfold bM;split<;>simp
 refine r1 rfl (by simp only[ae,and_true,len]<;>omega) ?_;refine cl rfl (by rw[Wu];rfl) (jP q.num.natAbs 1 (by omega) (by omega)) rfl ?_;refine r1 rfl (by simp only[ae,and_true,len]<;>omega) ?_;refine br rfl rfl rfl (fun h=>?_) (fun h=>?_)
 ·refine r1 rfl (by simp only[ae,and_true,len,List.length_append,List.length_cons,List.length_nil]<;>omega) ?_;refine cl rfl rfl (jP q.den 1 (by omega) (by omega)) rfl ?_;refine r1 rfl (by simp only[ae,and_true,len,List.length_append,List.length_cons,List.length_nil]<;>omega) ?_;refine aF rfl (au.of_eq (congrArg SV.s ?_));rw[es];unfold qt qJ;rw[lv (by omega),List.append_assoc];rfl
 refine r0 rfl ?_;refine aF rfl (au.of_eq (congrArg SV.s ?_));rw[es];unfold qt qJ dD;rw[if_pos (by omega),List.append_nil]
def Sz(q:Rat)(K:Nat):Prop:=(aa q.num.natAbs).length<=K/\(aa q.den).length<=K
theorem Sz.zo{q:Rat}{K:Nat}(h:Sz q K)(hK:K<2^40):Hi q:=⟨Nat.lt_of_le_of_lt h.1 hK,Nat.lt_of_le_of_lt h.2 hK⟩
theorem Sz.mono{q:Rat}{K L:Nat}(h:Sz q K)(hK:K<=L):Sz q L:=⟨Nat.le_trans h.1 hK,Nat.le_trans h.2 hK⟩
theorem Sz.neg{q:Rat}{K:Nat}(h:Sz q K):Sz (-q) K:=by unfold Sz at *;rw[Rat.neg_num,Rat.neg_den,Int.natAbs_neg];exact h
theorem Bs{n d:Int}{K:Nat}(hd:0<d)(h1:(aa n.natAbs).length<=K)(h2:(aa d.natAbs).length<=K):Sz (Rat.divInt n d) K:=by unfold Sz;rw[zg hd,zj hd,jw];exact⟨Nat.le_trans (jz _ _) h1,Nat.le_trans (jz _ _) h2⟩
theorem n9(p q:Rat):Rat.divInt (p.num*q.num) ((p.den:Int)*q.den)=p*q:=by rw[Rat.mul_def',<-Rat.divInt_ofNat,Int.natCast_mul]
theorem ma(p q:Rat):Rat.divInt (p.num*q.den+q.num*p.den) ((p.den:Int)*q.den)=p+q:=by rw[Rat.add_def',<-Rat.divInt_ofNat,Int.natCast_mul]
theorem den_pos(p:Rat):(0:Int)<p.den:=by have:=p.den_nz;omega
theorem Sz.mul{p q:Rat}{K L:Nat}(h:Sz p K)(h':Sz q L):Sz (p*q) (K+L):=by
 rw[<-n9];refine Bs (Int.mul_pos (den_pos p) (den_pos q)) ?_ ?_
 ·rw[Int.natAbs_mul];exact Nat.le_trans (fQ _ _) (Nat.add_le_add h.1 h'.1)
 rw[Int.natAbs_mul];exact Nat.le_trans (fQ _ _) (Nat.add_le_add h.2 h'.2)
theorem length_le{m n:Nat}(h:m<=n):(aa m).length<=(aa n).length:=by
 rcases Nat.lt_or_ge (aa n).length (aa m).length with g|g
 ·have:=bz g;omega
 exact g
theorem wx(x y:Int){K:Nat}(h1:(aa x.natAbs).length<=K)(h2:(aa y.natAbs).length<=K):(aa (x+y).natAbs).length<=K+1:=Nat.le_trans (length_le (Int.natAbs_add_le x y)) (lR h1 h2)
theorem fG(x y:Int){K L:Nat}(h1:(aa x.natAbs).length<=K)(h2:(aa y.natAbs).length<=L):(aa (x*y).natAbs).length<=K+L:=by rw[Int.natAbs_mul];exact Nat.le_trans (fQ _ _) (Nat.add_le_add h1 h2)
theorem Sz.add{p q:Rat}{K L:Nat}(h:Sz p K)(h':Sz q L):Sz (p+q) (K+L+1):=by
 rw[<-ma];refine Bs (Int.mul_pos (den_pos p) (den_pos q)) ?_ ?_
 ·exact wx _ _ (fG _ _ h.1 h'.2) (Nat.add_comm K L▸fG _ _ h'.1 h.2)
 exact Nat.le_succ_of_le (fG (p.den:Int) (q.den:Int) h.2 h'.2)
theorem nq{x y:Int}(hx:x.natAbs<1000000000)(hy:y.natAbs<1000000000):(x*y).natAbs<=1000000000000000000:=by rw[Int.natAbs_mul];exact Nat.mul_le_mul (Nat.le_of_lt hx) (Nat.le_of_lt hy)
theorem np(p q:Rat){K L:Nat}(hp:Sz p K)(hq:Sz q L)(hK:K+L<2^34):aO Tryz.prog 45 [.s (qt p),.s (qt q)] (.s (qt (p*q))):=by
 have fp:=hp.zo (by omega);have fq:=hq.zo (by omega);have h1:=hp.1;have h2:=hp.2;have h3:=hq.1;have h4:=hq.2;refine enter (fn:=Tryz.f45) Tryz.func45 rfl rfl rfl rfl ?_;refine cg 4 [(0,.s (qt p)),(1,.s (qt q))] True ?_ fun _=>?_
 ·refine r0 rfl ?_;refine cl rfl rfl (mu p fp) rfl ?_;refine r0 rfl ?_;refine cl rfl rfl (mu q fq) rfl ?_;refine r0 rfl ?_;refine gS 28 rfl (fun g1=>?_) (fun g1=>?_)
  ·refine r0 rfl ?_;refine o5 rfl rfl rfl (fun g2=>?_) (fun g2=>?_)
   ·simp only[g1,g2,if_true];have m1:=nq (sP g1) (sP g2);have m2:=nq (x:=(p.den:Int)) (y:=(q.den:Int)) (qk g1) (qk g2);have m3:=Int.mul_pos (den_pos p) (den_pos q);refine r1 rfl (by simp only[ae,and_true,len]<;>omega) ?_;refine cl rfl rfl (Fe (p.num*q.num) ((p.den:Int)*q.den) (by omega) (by omega) (by omega)) rfl ?_;refine r0 rfl ?_;rw[n9];exact aF rfl (au.refl _)
   refine r0 rfl ?_;exact aQ trivial ⟨⟨rfl,rfl⟩,⟨rfl,rfl⟩,trivial⟩
  refine r0 rfl ?_;exact aQ trivial ⟨⟨rfl,rfl⟩,⟨rfl,rfl⟩,trivial⟩
 refine r0 rfl ?_;refine cl rfl rfl (cS p fp) rfl ?_;refine r0 rfl ?_;refine cl rfl rfl (cS q fq) rfl ?_;refine r0 rfl ?_;refine cd rfl rfl (jU p.num q.num (by unfold Ek;omega) (by unfold Ek;omega)) rfl ?_;refine r0 rfl ?_;refine cd rfl rfl (jU (p.den:Int) (q.den:Int) (by show(aa p.den).length<_;omega) (by show(aa q.den).length<_;omega)) rfl ?_;refine r0 rfl ?_;have m3:=Int.mul_pos (den_pos p) (den_pos q);have l1:=fG p.num q.num h1 h3;have l2:=fG (p.den:Int) (q.den:Int) h2 h4;refine cd rfl rfl (dS (p.num*q.num) ((p.den:Int)*q.den) (by omega) (by omega) (by omega)) rfl ?_;rw[n9];refine k0 rfl (by kernel_rfl) ?_;exact aF rfl (au.refl _)
theorem MK(p q:Rat){K L:Nat}(hp:Sz p K)(hq:Sz q L)(hK:K+L+1<2^34):aO Tryz.prog 136 [.s (qt p),.s (qt q)] (.s (qt (p+q))):=by
 have fp:=hp.zo (by omega);have fq:=hq.zo (by omega);have h1:=hp.1;have h2:=hp.2;have h3:=hq.1;have h4:=hq.2;refine enter (fn:=Tryz.f136) Tryz.func136 rfl rfl rfl rfl ?_;refine cg 4 [(0,.s (qt p)),(1,.s (qt q))] True ?_ fun _=>?_
 ·refine r0 rfl ?_;refine cl rfl rfl (mu p fp) rfl ?_;refine r0 rfl ?_;refine cl rfl rfl (mu q fq) rfl ?_;refine r0 rfl ?_;refine gS 28 rfl (fun g1=>?_) (fun g1=>?_)
  ·refine r0 rfl ?_;refine o5 rfl rfl rfl (fun g2=>?_) (fun g2=>?_)
   ·simp only[g1,g2,if_true];have m1:=nq (y:=(q.den:Int)) (sP g1) (qk g2);have m0:=nq (y:=(p.den:Int)) (sP g2) (qk g1);have m2:=nq (x:=(p.den:Int)) (y:=(q.den:Int)) (qk g1) (qk g2);have m3:=Int.mul_pos (den_pos p) (den_pos q);refine r1 rfl (by simp only[ae,and_true,len]<;>omega) ?_;refine cl rfl rfl (Fe (p.num*q.den+q.num*p.den) ((p.den:Int)*q.den) (by omega) (by omega) (by omega)) rfl ?_;refine r0 rfl ?_;rw[ma];exact aF rfl (au.refl _)
   refine r0 rfl ?_;exact aQ trivial ⟨⟨rfl,rfl⟩,⟨rfl,rfl⟩,trivial⟩
  refine r0 rfl ?_;exact aQ trivial ⟨⟨rfl,rfl⟩,⟨rfl,rfl⟩,trivial⟩
 have l1:=fG p.num (q.den:Int) h1 h4;have l2:=fG q.num (p.den:Int) h3 h2;have l3:=fG (p.den:Int) (q.den:Int) h2 h4;have l4:=wx (p.num*q.den) (q.num*p.den) l1 (by omega);have m3:=Int.mul_pos (den_pos p) (den_pos q);have d1:Ek (p.den:Int):=by show(aa p.den).length<_;omega
 have d2:Ek (q.den:Int):=by show(aa q.den).length<_;omega
 refine r0 rfl ?_;refine cl rfl rfl (cS p fp) rfl ?_;refine r0 rfl ?_;refine cl rfl rfl (cS q fq) rfl ?_;refine r0 rfl ?_;refine cd rfl rfl (jU p.num (q.den:Int) (by unfold Ek;omega) d2) rfl ?_;refine r0 rfl ?_;refine cd rfl rfl (jU q.num (p.den:Int) (by unfold Ek;omega) d1) rfl ?_;refine r0 rfl ?_;refine cd rfl rfl (HR (p.num*q.den) (q.num*p.den) (by unfold Ek;omega) (by unfold Ek;omega)) rfl ?_;refine r0 rfl ?_;refine cd rfl rfl (jU (p.den:Int) (q.den:Int) d1 d2) rfl ?_;refine r0 rfl ?_;refine cd rfl rfl (dS (p.num*q.den+q.num*p.den) ((p.den:Int)*q.den) (by omega) (by omega) (by omega)) rfl ?_;rw[ma];refine k0 rfl (by kernel_rfl) ?_;exact aF rfl (au.refl _)
theorem KX(p q:Rat){K L:Nat}(hp:Sz p K)(hq:Sz q L)(hK:K+L+1<2^34):aO Tryz.prog 128 [.s (qt p),.s (qt q)] (.s (qt (p-q))):=by refine enter (fn:=Tryz.f128) Tryz.func128 rfl rfl rfl rfl ?_;refine r0 rfl ?_;refine cl rfl rfl (nn q (hq.zo (by omega))) rfl ?_;refine r0 rfl ?_;refine cl rfl rfl (MK p (-q) hp hq.neg hK) rfl ?_;refine r0 rfl ?_;rw[<-Rat.sub_eq_add_neg];exact aF rfl (au.refl _)
theorem Sz.sub{p q:Rat}{K L:Nat}(h:Sz p K)(h':Sz q L):Sz (p-q) (K+L+1):=by rw[Rat.sub_eq_add_neg];exact h.add h'.neg
def Ac(p q:Rat):Int:=(p-q).num.sign
theorem qE(p q:Rat){K L:Nat}(hp:Sz p K)(hq:Sz q L)(hK:K+L+1<2^34):aO Tryz.prog 66 [.s (qt p),.s (qt q)] (.i (Ac p q)):=by refine enter (fn:=Tryz.f66) Tryz.func66 rfl rfl rfl rfl ?_;refine r0 rfl ?_;refine cl rfl rfl (KX p q hp hq hK) rfl ?_;refine r0 rfl ?_;refine cl rfl rfl (jW (p-q) ((hp.sub hq).zo (by omega))) rfl ?_;refine r0 rfl ?_;exact aF rfl (au.refl _)
theorem Sz.inv{q:Rat}{K:Nat}(h:Sz q K):Sz q⁻¹ (K+1):=by
 unfold Sz;rw[Rat.num_inv,Rat.den_inv];constructor
 ·rcases Int.lt_trichotomy q.num 0 with g|g|g
  ·rw[Int.sign_eq_neg_one_of_neg g];simpa using Nat.le_succ_of_le h.2
  ·rw[g];simp[b9]
  rw[Int.sign_eq_one_of_pos g];simpa using Nat.le_succ_of_le h.2
 split
 ·rw[pX];simp
 exact Nat.le_succ_of_le h.1
theorem mZ(q:Rat){K:Nat}(h:Sz q K)(hK:K<2^34)(h0:q≠0):aO Tryz.prog 129 [.s (qt q)] (.s (qt q⁻¹)):=by have h1:=h.1;have h2:=h.2;have hn:q.num≠0:=fun h=>h0 (Rat.num_eq_zero.1 h);refine enter (fn:=Tryz.f129) Tryz.func129 rfl rfl rfl rfl ?_;refine r0 rfl ?_;refine cl rfl rfl (cS q (h.zo (by omega))) rfl ?_;refine r0 rfl ?_;refine cl rfl rfl (dS (q.den:Int) q.num hn (by show(aa q.den).length<_;omega) (by omega)) rfl ?_;refine r0 rfl ?_;rw[Rat.inv_def];exact aF rfl (au.refl _)
theorem Ms(p q:Rat){K L:Nat}(hp:Sz p K)(hq:Sz q L)(hK:K+L+1<2^34)(h0:q≠0):aO Tryz.prog 97 [.s (qt p),.s (qt q)] (.s (qt (p/q))):=by refine enter (fn:=Tryz.f97) Tryz.func97 rfl rfl rfl rfl ?_;refine r0 rfl ?_;refine cl rfl rfl (mZ q hq (by omega) h0) rfl ?_;refine r0 rfl ?_;refine cl rfl rfl (np p q⁻¹ hp hq.inv (by omega)) rfl ?_;refine r0 rfl ?_;rw[<-Rat.div_def];exact aF rfl (au.refl _)
theorem Sz.div{p q:Rat}{K L:Nat}(h:Sz p K)(h':Sz q L):Sz (p/q) (K+L+1):=by rw[Rat.div_def];exact h.mul h'.inv
def jQ(s:bw):Bool:=s.all fun c=>decide (48<=c.toNat/\c.toNat<=57)
theorem kf{s:bw}:jQ s=true↔cp s:=by simp[jQ,cp,List.all_eq_true]
theorem Bb(s:bw)(hl:s.length<2^60):aO Tryz.prog 124 [.s s] (.u (jQ s)):=by
 refine enter (fn:=Tryz.f124) Tryz.func124 rfl rfl rfl rfl ?_;refine r0 rfl ?_;refine loop (fun i:Nat=>[(0,.s s),(3,.i i)]) (fun i=>i<=s.length/\∀k,k<i->48<=(s.getD k 0).toNat/\(s.getD k 0).toNat<=57) (fun i=>s.length-i) 0 ⟨Nat.zero_le _,fun k h=>by omega⟩ ⟨⟨rfl,rfl⟩,⟨rfl,rfl⟩,trivial⟩ ?_;rintro i⟨hi,hb⟩;refine r0 rfl ?_;refine br rfl rfl rfl (fun h=>?_) (fun h=>?_)
 ·have cO:i<s.length:=by omega
  have ei:(i:Int).toNat=i:=by omega
  have bad:¬(48<=(s.getD i 0).toNat/\(s.getD i 0).toNat<=57)->false=jQ s:=by
   intro hn;symm;rw[Bool.eq_false_iff];intro ht;have:=kf.1 ht s[i] (List.getElem_mem cO);have e:s.getD i 0=s[i]:=by simp[List.getD_eq_getElem?_getD,List.getElem?_eq_getElem cO]
   rw[<-e]at this;exact hn this
  refine r1 rfl (by simp only[ae,and_true,ei];omega) ?_;refine aB 14 rfl (fun h1=>?_) (fun h1=>?_)
  ·rw[ei]at h1;refine r0 rfl ?_;exact aF rfl (bad (by omega))
  rw[ei]at h1;refine r1 rfl (by simp only[ae,and_true,ei];omega) ?_;refine br rfl rfl rfl (fun h2=>?_) (fun h2=>?_)
  ·rw[ei]at h2;refine r0 rfl ?_;exact aF rfl (bad (by omega))
  rw[ei]at h2;refine r1 rfl (by simp only[ae,and_true];omega) ?_;refine again (i+1) (by omega) ⟨by omega,fun k hk=>?_⟩ ⟨⟨rfl,rfl⟩,⟨rfl,rfl⟩,trivial⟩;rcases Nat.lt_or_ge k i with g|g
  ·exact hb k g
  rw[show k=i by omega];omega
 refine r0 rfl ?_;refine aF rfl ?_;show true=jQ s;symm;rw[kf];intro c hc;obtain⟨k,hk,rfl⟩:=List.getElem_of_mem hc;have e:s.getD k 0=s[k]:=by simp[List.getD_eq_getElem?_getD,List.getElem?_eq_getElem hk]
 rw[<-e];exact hb k (by omega)
def dU(s:bw):Bool:=if s.length=0 then false else if 1<s.length/\(s.getD 0 0).toNat=48 then false else jQ s
theorem mD(s:bw)(hl:s.length<2^60):aO Tryz.prog 63 [.s s] (.u (dU s)):=by
 have e0:(0:Int).toNat=0:=rfl;refine enter (fn:=Tryz.f63) Tryz.func63 rfl rfl rfl rfl ?_;refine cg 2 [(0,.s s)] (dU s=jQ s) ?_ fun hd=>?_
 ·refine r0 rfl ?_;refine aB 6 rfl (fun h1=>?_) (fun h1=>?_)
  ·refine r0 rfl ?_;refine aF rfl ?_;show false=dU s;unfold dU;rw[if_pos (by omega)]
  have hd:dU s=if 1<s.length/\(s.getD 0 0).toNat=48 then false else jQ s:=by unfold dU;rw[if_neg (by omega)]
  refine r0 rfl ?_;refine aB 10 rfl (fun h2=>?_) (fun h2=>?_)
  ·refine r1 rfl (by simp only[ae,and_true];omega) ?_;refine br rfl rfl rfl (fun h3=>?_) (fun h3=>?_)
   ·rw[e0]at h3;refine r0 rfl ?_;refine aF rfl ?_;show false=dU s;rw[hd,if_pos ⟨by omega,by omega⟩]
   rw[e0]at h3;refine r0 rfl ?_;exact aQ (by rw[hd,if_neg (by omega)]) ⟨⟨rfl,rfl⟩,trivial⟩
  refine r0 rfl ?_;exact aQ (by rw[hd,if_neg (by omega)]) ⟨⟨rfl,rfl⟩,trivial⟩
 refine r0 rfl ?_;refine cl rfl rfl (Bb s hl) rfl ?_;refine r0 rfl ?_;refine aF rfl ?_;rw[hd];exact au.refl _
theorem kZ{s:bw}(h:dU s=true):cp s/\0<s.length:=by
 unfold dU at h;split at h
 ·simp at h
 split at h
 ·simp at h
 exact⟨kf.1 h,by omega⟩
theorem BY{s:bw}(h:cp s):isNeg s=false:=by
 unfold isNeg;refine decide_eq_false ?_;rintro⟨h1,h2⟩;have hm:s.getD 0 0∈s:=by simp[List.getD_eq_getElem?_getD,List.getElem?_eq_getElem h1]
 have:=h _ hm;omega
theorem tT{s:bw}(h:cp s):ba s=s:=by unfold ba;rw[BY h];rfl
theorem tc{s:bw}(h:cp s):yP s=bL s:=by unfold yP;rw[BY h,tT h];rfl
theorem sV(s:bw)(hs:cp s)(hl:s.length<2^46):aO Tryz.prog 125 [.s s] (iE (bL s:Int)):=by have:=wk s (by rw[tT hs];exact hs) hl;rwa[tc hs]at this
theorem C0(b:bw)(hb:aj b<b.length)(hu:cp (b.take (aj b)))(hv:cp (b.drop (aj b+1)))(hl:b.length<2^46):
 aO Tryz.prog 64 [.s b] (.bC [iE (bL (b.take (aj b)):Int),iE (bL (b.drop (aj b+1)):Int)]):=by
 refine enter (fn:=Tryz.f64) Tryz.func64 rfl rfl rfl rfl ?_;refine r0 rfl ?_;refine cl rfl rfl (mn b (by omega)) rfl ?_;refine r0 rfl ?_;refine br rfl rfl rfl (fun h3=>absurd h3 (by omega)) (fun h3=>?_);have e1:((aj b:Nat):Int).toNat=aj b:=by omega
 have e2:(((aj b:Nat):Int)+1).toNat=aj b+1:=by omega
 refine r1 rfl (by simp only[ae,and_true];omega) ?_;refine cd rfl (by rw[e1];rfl) (sV _ hu (by simp;omega)) rfl ?_;refine r1 rfl (by simp only[ae,and_true];omega) ?_;refine cd rfl (by rw[e2,List.take_length];rfl) (sV _ hv (by simp;omega)) rfl ?_;refine k0 rfl (by kernel_rfl) ?_;exact aF rfl (au.refl _)
theorem AN{t:bw}(h:cp t):(aa (bL t)).length<=t.length+1:=by
 have h1:=jK h;rcases eM (bL t)with g|g
 ·rw[g];simp
 rcases Nat.lt_or_ge (t.length+1) (aa (bL t)).length with h'|h'
 ·rw[sS]at g;have:=Nat.pow_le_pow_right (show 0<10 by decide) (show t.length<=9*((aa (bL t)).length-1) by omega);omega
 exact h'
def fU(s:bw):Bool:=dU ((ba s).take (aj (ba s)))&& !(isNeg s&&decide ((ba s).take (aj (ba s))=[48]))
def gZ(s:bw):Bool:= !decide (aj (ba s)<(ba s).length)||(dU ((ba s).drop (aj (ba s)+1))&& !decide ((ba s).drop (aj (ba s)+1)=[48])&& !decide ((ba s).drop (aj (ba s)+1)=[49]))
def mR(s:bw):Bool:= !decide (aj (ba s)<(ba s).length)||decide (Nat.gcd (bL ((ba s).take (aj (ba s)))) (bL ((ba s).drop (aj (ba s)+1)))=1)
def aG(s:bw):Int:=if fU s then(if gZ s then(if 600<aj (ba s)\/aj (ba s)+601<(ba s).length then 4 else if mR s then 0 else 1)else 1)else 1
theorem check_sound(s:bw)(hl:s.length<2^45):aO Tryz.prog 26 [.s s] (.i (aG s)):=by
 have F6:=tS s;have yV:=kP (ba s);have e0:(0:Int).toNat=0:=rfl;refine enter (fn:=Tryz.f26) Tryz.func26 rfl rfl rfl rfl ?_;refine cg 3 [(0,.s s),(3,.s (ba s))] True ?_ fun _=>?_
 ·refine r0 rfl ?_;refine aB 12 rfl (fun h=>?_) (fun h=>?_)
  ·refine r1 rfl (by simp only[ae,and_true];omega) ?_;refine br rfl rfl rfl (fun h2=>?_) (fun h2=>?_)
   ·have hn:isNeg s=true:=by unfold isNeg;exact decide_eq_true ⟨by omega,by simpa using Int.ofNat.inj h2⟩
    refine r1 rfl (by simp only[ae,and_true];omega) ?_;exact aQ trivial ⟨⟨rfl,rfl⟩,⟨rfl,au.of_eq (congrArg SV.s (by simp[ba,hn]))⟩,trivial⟩
   have hn:isNeg s=false:=by unfold isNeg;exact decide_eq_false fun hh=>h2 (by rw[show(s.getD (0:Int).toNat 0).toNat=45 from hh.2];rfl)
   refine r0 rfl ?_;exact aQ trivial ⟨⟨rfl,rfl⟩,⟨rfl,au.of_eq (congrArg SV.s (by simp[ba,hn]))⟩,trivial⟩
  have hn:isNeg s=false:=by unfold isNeg;exact decide_eq_false fun hh=>by omega
  refine r0 rfl ?_;exact aQ trivial ⟨⟨rfl,rfl⟩,⟨rfl,au.of_eq (congrArg SV.s (by simp[ba,hn]))⟩,trivial⟩
 have e1:((aj (ba s):Nat):Int).toNat=aj (ba s):=by omega
 have e2:(((aj (ba s):Nat):Int)+1).toNat=aj (ba s)+1:=by omega
 refine cg 2 [(0,.s s),(3,.s (ba s)),(4,.i (aj (ba s)))] (fU s=true) ?_ fun hU=>?_
 ·refine r0 rfl ?_;refine cl rfl rfl (mn (ba s) (by omega)) rfl ?_;refine r1 rfl (by simp only[ae,and_true];omega) ?_;refine cl rfl (by rw[e1];rfl) (mD ((ba s).take (aj (ba s))) (by simp;omega)) rfl ?_;refine r0 rfl ?_;refine gS 26 rfl (fun h=>?_) (fun h=>?_)
  ·have hU:fU s=false:=by unfold fU;simp at h;simp[h]
   refine r0 rfl ?_;refine aF rfl (au.of_eq (congrArg SV.i ?_));unfold aG;rw[hU];rfl
  have ig:dU ((ba s).take (aj (ba s)))=true:=by simpa using h
  have hp:=(kZ ig).2;have JW:0<s.length:=by simp at hp;omega
  refine r1 rfl (by simp only[ae,and_true];omega) ?_;refine aB 30 rfl (fun h2=>?_) (fun h2=>?_)
  ·have hn:isNeg s=true:=by unfold isNeg;exact decide_eq_true ⟨JW,by simpa using Int.ofNat.inj h2⟩
   refine r1 rfl (by simp only[ae,and_true];omega) ?_;refine br rfl rfl rfl (fun h3=>?_) (fun h3=>?_)
   ·rw[e1]at h3;have h3:(ba s).take (aj (ba s))=[48]:=h3;have hU:fU s=false:=by unfold fU;rw[hn,ig,decide_eq_true h3];rfl
    refine r0 rfl ?_;refine aF rfl (au.of_eq (congrArg SV.i ?_));unfold aG;rw[hU];rfl
   rw[e1]at h3;have h3:¬(ba s).take (aj (ba s))=[48]:=h3;refine r0 rfl ?_;exact aQ (by unfold fU;rw[hn,ig,decide_eq_false h3];rfl) ⟨⟨rfl,rfl⟩,⟨rfl,rfl⟩,⟨rfl,rfl⟩,trivial⟩
  have hn:isNeg s=false:=by unfold isNeg;exact decide_eq_false fun hh=>h2 (by rw[show(s.getD (0:Int).toNat 0).toNat=45 from hh.2];rfl)
  refine r0 rfl ?_;exact aQ (by unfold fU;rw[hn,ig];rfl) ⟨⟨rfl,rfl⟩,⟨rfl,rfl⟩,⟨rfl,rfl⟩,trivial⟩
 have Dt:aG s=(if gZ s then(if 600<aj (ba s)\/aj (ba s)+601<(ba s).length then 4 else if mR s then 0 else 1)else 1):=by unfold aG;rw[hU];rfl
 have len_d:∀k,((ba s).drop k).length<=s.length:=fun k=>by simp;omega
 have len_t:∀k,((ba s).take k).length<=s.length:=fun k=>by simp;omega
 refine cg 1 [(0,.s s),(3,.s (ba s)),(4,.i (aj (ba s)))] (gZ s=true) ?_ fun hV=>?_
 ·refine r0 rfl ?_;refine aB 41 rfl (fun h=>?_) (fun h=>?_)
  ·have hk:aj (ba s)<(ba s).length:=by omega
   have hVe:gZ s=(dU ((ba s).drop (aj (ba s)+1))&& !decide ((ba s).drop (aj (ba s)+1)=[48])&& !decide ((ba s).drop (aj (ba s)+1)=[49])):=by unfold gZ;rw[decide_eq_true hk];rfl
   have bad:gZ s=false->(1:Int)=aG s:=by intro h;rw[Dt,h];rfl
   have e3:(List.take (ba s).length (ba s))=ba s:=List.take_length;refine r1 rfl (by simp only[ae,and_true];omega) ?_;refine cl rfl (by rw[e2,e3];rfl) (mD ((ba s).drop (aj (ba s)+1)) (by have:=len_d (aj (ba s)+1);omega)) rfl ?_;refine r0 rfl ?_;refine gS 48 rfl (fun h1=>?_) (fun h1=>?_)
   ·refine r0 rfl ?_;exact aF rfl (au.of_eq (congrArg SV.i (bad (by rw[hVe];simp at h1;rw[h1];rfl))))
   have h1:dU ((ba s).drop (aj (ba s)+1))=true:=by simpa using h1
   refine r1 rfl (by simp only[ae,and_true];omega) ?_;refine aB 55 rfl (fun h2=>?_) (fun h2=>?_)
   ·rw[e2,e3]at h2;have h2:(ba s).drop (aj (ba s)+1)=[48]:=h2;refine r0 rfl ?_;exact aF rfl (au.of_eq (congrArg SV.i (bad (by rw[hVe,h1,decide_eq_true h2];rfl))))
   rw[e2,e3]at h2;have h2:¬(ba s).drop (aj (ba s)+1)=[48]:=h2;refine r1 rfl (by simp only[ae,and_true];omega) ?_;refine br rfl rfl rfl (fun h3=>?_) (fun h3=>?_)
   ·rw[e2,e3]at h3;have h3:(ba s).drop (aj (ba s)+1)=[49]:=h3;refine r0 rfl ?_;exact aF rfl (au.of_eq (congrArg SV.i (bad (by rw[hVe,h1,decide_eq_true h3,Bool.and_comm];rfl))))
   rw[e2,e3]at h3;have h3:¬(ba s).drop (aj (ba s)+1)=[49]:=h3;refine r0 rfl ?_;exact aQ (by rw[hVe,h1,decide_eq_false h2,decide_eq_false h3];rfl) ⟨⟨rfl,rfl⟩,⟨rfl,rfl⟩,⟨rfl,rfl⟩,trivial⟩
  have hk:¬aj (ba s)<(ba s).length:=by omega
  refine r0 rfl ?_;exact aQ (by unfold gZ;rw[decide_eq_false hk];rfl) ⟨⟨rfl,rfl⟩,⟨rfl,rfl⟩,⟨rfl,rfl⟩,trivial⟩
 rw[hV]at Dt;refine cg 1 [(3,.s (ba s)),(4,.i (aj (ba s)))] (¬(600<aj (ba s)\/aj (ba s)+601<(ba s).length)) ?_ fun hS=>?_
 ·have bad:(600<aj (ba s)\/aj (ba s)+601<(ba s).length)->(4:Int)=aG s:=by intro h;rw[Dt,if_pos rfl,if_pos h]
  refine r0 rfl ?_;refine aB 65 rfl (fun h=>?_) (fun h=>?_)
  ·refine r0 rfl ?_;exact aF rfl (au.of_eq (congrArg SV.i (bad (by omega))))
  refine r1 rfl (by simp only[ae,and_true,len]<;>omega) ?_;refine br rfl rfl rfl (fun h2=>?_) (fun h2=>?_)
  ·refine r0 rfl ?_;exact aF rfl (au.of_eq (congrArg SV.i (bad (by omega))))
  refine r0 rfl ?_;exact aQ (by omega) ⟨⟨rfl,rfl⟩,⟨rfl,rfl⟩,trivial⟩
 rw[if_pos rfl,if_neg hS]at Dt;refine r0 rfl ?_;refine br rfl rfl rfl (fun h=>?_) (fun h=>?_)
 ·have hk:aj (ba s)<(ba s).length:=by omega
  have hu:cp ((ba s).take (aj (ba s))):=by unfold fU at hU;exact(kZ (by simp at hU;exact hU.1)).1
  have hv:cp ((ba s).drop (aj (ba s)+1)):=by unfold gZ at hV;rw[decide_eq_true hk]at hV;exact(kZ (by simp at hV;exact hV.1.1)).1
  have hG:mR s=decide (Nat.gcd (bL ((ba s).take (aj (ba s)))) (bL ((ba s).drop (aj (ba s)+1)))=1):=by unfold mR;rw[decide_eq_true hk];rfl
  have small:∀t:bw,cp t->t.length<=600->(aa (bL t)).length<2^36:=by intro t h1 h2;have:=AN h1;omega
  refine r0 rfl ?_;refine cl rfl rfl (C0 (ba s) hk hu hv (by omega)) rfl ?_;refine r0 rfl ?_;refine cl rfl rfl (tI (bL ((ba s).take (aj (ba s)))) (bL ((ba s).drop (aj (ba s)+1))) (small _ hu (by rw[List.length_take];omega)) (small _ hv (by rw[List.length_drop];omega))) rfl ?_;rw[hG]at Dt;have qN:=wN (q:=Nat.gcd (bL ((ba s).take (aj (ba s)))) (bL ((ba s).drop (aj (ba s)+1))));refine r0 rfl ?_;refine aB 90 rfl (fun h1=>?_) (fun h1=>?_)
  ·refine r0 rfl ?_;refine aF rfl (au.of_eq (congrArg SV.i ?_));rw[Dt,decide_eq_false (fun h=>h1 (by have:=(qN.2 h).1;omega))];rfl
  refine r1 rfl (by simp only[ae,and_true]<;>omega) ?_;refine br rfl rfl rfl (fun h2=>?_) (fun h2=>?_)
  ·refine r0 rfl ?_;refine aF rfl (au.of_eq (congrArg SV.i ?_));rw[Dt,decide_eq_false (fun h=>h2 (qN.2 h).2)];rfl
  refine r0 rfl ?_;refine aF rfl (au.of_eq (congrArg SV.i ?_));rw[Dt,decide_eq_true (qN.1 ⟨by omega,by simpa using h2⟩)];rfl
 have hk:¬aj (ba s)<(ba s).length:=by omega
 refine r0 rfl ?_;refine aF rfl (au.of_eq (congrArg SV.i ?_));rw[Dt];unfold mR;rw[decide_eq_false hk];rfl
theorem Iz{t:bw}{c:UInt8}(h:t≠[]):(t++[c]).getD 0 0=t.getD 0 0:=tj (List.length_pos_iff.2 h)
theorem Ck:∀(n:Nat)(s:bw),s.length=n->cp s->0<s.length->(1<s.length->(s.getD 0 0).toNat≠48)->decl (bL s) 1=s/\((s.getD 0 0).toNat≠48->0<bL s)
 |0,s,h,_,hp,_=>by omega
 |n+1,s,h,hd,hp,hz=>by
  obtain⟨t,c,rfl⟩:∃t c,s=t++[c]:=by have:=List.dropLast_concat_getLast (l:=s) (List.length_pos_iff.1 hp);exact⟨_,_,this.symm⟩
  have hc:=hd c (by simp);have Xr:MZ (c.toNat-48)=c:=by apply UInt8.toNat_inj.1;rw[vz (by omega)];omega
  rw[qu];by_cases ht:t=[]
  ·subst ht;have e:bL []=0:=rfl;rw[e];constructor
   ·rw[bc (by omega),show(10*0+(c.toNat-48))/10=0 by omega,show(10*0+(c.toNat-48))%10=c.toNat-48 by omega,Xr];rw[show(1:Nat)-1=0 from rfl,bR]
   intro h1;have h1:c.toNat≠48:=by simpa using h1
   omega
  have htl:=List.length_pos_iff.2 ht;have Vo:=hz (by simp;omega);rw[Iz ht]at Vo;obtain⟨ih1,ih2⟩:=Ck n t (by simpa using h) (fun x hx=>hd x (by simp[hx])) htl (fun _=>Vo);have ih2:=ih2 Vo;constructor
  ·rw[bc (by omega),show(10*bL t+(c.toNat-48))/10=bL t by omega,show(10*bL t+(c.toNat-48))%10=c.toNat-48 by omega,Xr];rw[show(1:Nat)-1=0 from rfl,tE ih2,ih1]
  intro _;omega
theorem zS{s:bw}(h:dU s=true):decl (bL s) 1=s:=by have h1:=kZ h;refine(Ck _ s rfl h1.1 h1.2 fun h2 h3=>?_).1;unfold dU at h;rw[if_neg (by omega),if_pos ⟨h2,h3⟩]at h;simp at h
theorem Ct(s:bw):s=(if isNeg s then[45]else[])++ba s:=by
 unfold ba;by_cases h:isNeg s=true
 ·rw[h];have h':=of_decide_eq_true h
  match s,h' with
  |c::t,h'=>have:c=45:=UInt8.toNat_inj.1 (by simpa using h'.2);subst this;rfl
 simp at h;rw[h];rfl
theorem EK{b:bw}(h:aj b<b.length):b=b.take (aj b)++47::b.drop (aj b+1):=by
 have h1:=ux h;have e:b.getD (aj b) 0=b[aj b]:=by simp[List.getD_eq_getElem?_getD,List.getElem?_eq_getElem h]
 rw[e]at h1
 conv=>lhs;rw[<-List.take_append_drop (aj b) b,List.drop_eq_getElem_cons h,h1]
def Dc(q:Rat)(n:Nat):Prop:=(decl q.num.natAbs 1).length<=n/\(decl q.den 1).length<=n
theorem sg{s:bw}(h:aG s=0):∃q:Rat,s=qt q/\Dc q 600:=by
 unfold aG at h;split at h<;>try(simp at h;done)
 rename_i hU;split at h<;>try(simp at h;done)
 rename_i hV;split at h<;>try(simp at h;done)
 rename_i hS;split at h<;>try(simp at h;done)
 rename_i hG;have yV:=kP (ba s);simp only[fU,Bool.and_eq_true,Bool.not_eq_true']at hU;obtain⟨hU1,Zo⟩:=hU;have hu:=zS hU1;have FO:((ba s).take (aj (ba s))).length<=600:=by rw[List.length_take];omega
 generalize hua:bL ((ba s).take (aj (ba s)))=a at hu;have oX:isNeg s=true->a≠0:=by intro hn h0;rw[hn,Bool.true_and]at Zo;have:=of_decide_eq_false Zo;rw[<-hu,h0]at this;exact this (by simp[bc,bR];rfl)
 have key:∀b:Nat,b≠0->Nat.gcd a b=1->ba s=decl a 1++dD b->(decl b 1).length<=600->∃q:Rat,s=qt q/\Dc q 600:=by
  intro b hb Sj acw F6;have acB:(xn (isNeg s) (a:Int)).natAbs.Coprime b:=by rw[jw];exact Sj
  refine⟨⟨xn (isNeg s) (a:Int),b,hb,acB⟩,?_,?_,F6⟩
  ·conv=>lhs;rw[Ct s,acw]
   unfold qt qJ bM;dsimp only;rw[jw];by_cases hn:isNeg s=true
   ·have:=oX hn;rw[if_pos hn,if_pos (by rw[hn];simp[xn];omega)];rfl
   simp only[Bool.not_eq_true]at hn;rw[if_neg (by rw[hn];simp),if_neg (by rw[hn];simp[xn])];rfl
  show(decl (xn (isNeg s) (a:Int)).natAbs 1).length<=600;rw[jw,hu];exact FO
 by_cases hk:aj (ba s)<(ba s).length
 ·simp only[gZ,decide_eq_true hk,Bool.not_true,Bool.false_or,Bool.and_eq_true,Bool.not_eq_true']at hV;obtain⟨⟨Pb,Xt⟩,hV3⟩:=hV;have hv:=zS Pb;have Dk:((ba s).drop (aj (ba s)+1)).length<=600:=by rw[List.length_drop];omega
  simp only[mR,decide_eq_true hk,Bool.not_true,Bool.false_or,decide_eq_true_eq,hua]at hG;generalize hvb:bL ((ba s).drop (aj (ba s)+1))=b at hv hG;have b0:b≠0:=by intro h0;rw[h0]at hv;exact of_decide_eq_false Xt (by rw[<-hv];simp[bc,bR];rfl)
  have b1:b≠1:=by intro h0;rw[h0]at hv;exact of_decide_eq_false hV3 (by rw[<-hv];simp[bc,bR];rfl)
  refine key b b0 hG ?_ (by rw[hv];exact Dk)
  conv=>lhs;rw[EK hk]
  rw[hu,lv b1,hv]
 refine key 1 (by decide) (by simp) ?_ (by simp[bc,bR]);rw[hu];have:aj (ba s)=(ba s).length:=by omega
 rw[this,List.take_length];simp[dD]
theorem zU{n k:Nat}(h:(decl n 1).length<=9*k):(aa n).length<=k:=by
 have h1:=DT h;rcases eM n with g|g
 ·rw[g];simp
 rcases Nat.lt_or_ge k (aa n).length with h'|h'
 ·rw[sS]at g;have:=Nat.pow_le_pow_right (show 0<10 by decide) (show 9*k<=9*((aa n).length-1) by omega);omega
 exact h'
theorem Dc.sz{q:Rat}(h:Dc q 600):Sz q 67:=⟨zU (k:=67) (by have:=h.1;omega),zU (k:=67) (by have:=h.2;omega)⟩
def aL{α:Type}(f:α->Int):List α->Int
 |[]=>0
 |x::l=>if f x≠0 then f x else aL f l
theorem eJ{α:Type}[Inhabited α](f:α->Int){l:List α}{i:Nat}(h:i<l.length):aL f (l.drop i)=if f (l[i])≠0 then f (l[i])else aL f (l.drop (i+1)):=by rw[List.drop_eq_getElem_cons h];rfl
theorem bk{α:Type}{l:List α}{i:Nat}{d:α}(h:i<l.length):l.getD i d=l[i]:=by simp[List.getD_eq_getElem?_getD,List.getElem?_eq_getElem h]
def dq(s:bw):Prop:=s.length<2^45
theorem dj{α:Type}{f:α->Int}:∀{l:List α},aL f l=0↔∀x∈l,f x=0
 |[]=>by simp[aL]
 |x::l=>by
  simp only[aL];by_cases h:f x=0
  ·rw[if_neg (by simpa using h),dj];simp[h]
  rw[if_pos h];simp[h]
structure iv where
 lo:bw
 hi:bw
 deriving Inhabited
def jB(s:iv):SV:=.agg [.s s.lo,.s s.hi]
noncomputable def cq(s:bw):Rat:=if h:aG s=0 then(sg h).choose else 0
theorem lH{s:bw}(h:aG s=0):qt (cq s)=s:=by unfold cq;rw[dif_pos h];exact(sg h).choose_spec.1.symm
theorem IV{s:bw}(h:aG s=0):Dc (cq s) 600:=by unfold cq;rw[dif_pos h];exact(sg h).choose_spec.2
theorem ki{s:bw}(h:aG s=0):Sz (cq s) 67:=(IV h).sz
noncomputable def fi(s:iv):Int:=if aG s.lo≠0 then aG s.lo else if aG s.hi≠0 then aG s.hi else if 0<Ac (cq s.lo) (cq s.hi)then 11 else 0
theorem xj(s:iv)(h1:dq s.lo)(h2:dq s.hi):aO Tryz.prog 29 [jB s] (.i (fi s)):=by
 refine enter (fn:=Tryz.f29) Tryz.func29 rfl rfl rfl rfl ?_;refine r0 rfl ?_;refine cl rfl rfl (check_sound s.lo h1) rfl ?_;refine r0 rfl ?_;refine br rfl rfl rfl (fun h3=>?_) (fun h3=>?_)
 ·refine r0 rfl ?_;refine cl rfl rfl (check_sound s.hi h2) rfl ?_;refine r0 rfl ?_;refine aB 14 rfl (fun h4=>?_) (fun h4=>?_)
  ·refine r0 rfl ?_;have hc:=qE (cq s.lo) (cq s.hi) (ki h3) (ki h4) (by decide);rw[lH h3,lH h4]at hc;refine cl rfl rfl hc rfl ?_;refine r0 rfl ?_;have hs:fi s=if 0<Ac (cq s.lo) (cq s.hi)then 11 else 0:=by unfold fi;rw[if_neg (by simpa using h3),if_neg (by simpa using h4)]
   refine br rfl rfl rfl (fun h5=>?_) (fun h5=>?_)
   ·refine r0 rfl ?_;exact aF rfl (au.of_eq (congrArg SV.i (by rw[hs,if_pos h5])))
   refine r0 rfl ?_;exact aF rfl (au.of_eq (congrArg SV.i (by rw[hs,if_neg h5,h4])))
  refine r0 rfl ?_;exact aF rfl (au.of_eq (congrArg SV.i (by unfold fi;rw[if_neg (by simpa using h3),if_pos h4])))
 have XA:¬aG s.lo=0:=h3;refine r0 rfl ?_;refine aB 14 rfl (fun h4=>absurd h4 XA) (fun h4=>?_);refine r0 rfl ?_;exact aF rfl (au.of_eq (congrArg SV.i (by unfold fi;rw[if_pos XA])))
theorem UX(d:Nat):qt (d:Rat)=decl d 1:=(CS (d:Int)).trans (FH d)
instance(q:Rat)(n:Nat):Decidable (Dc q n):=by unfold Dc;infer_instance
def w7(p q:Rat):Rat:=if 0<=Ac p q then p else q
theorem H0(p q:Rat){K L:Nat}(hp:Sz p K)(hq:Sz q L)(hK:K+L+1<2^34):aO Tryz.prog 68 [.s (qt p),.s (qt q)] (.s (qt (w7 p q))):=by
 refine enter (fn:=Tryz.f68) Tryz.func68 rfl rfl rfl rfl ?_;refine r0 rfl ?_;refine cl rfl rfl (qE p q hp hq hK) rfl ?_;refine r0 rfl ?_;refine br rfl rfl rfl (fun g=>?_) (fun g=>?_)
 ·refine r0 rfl ?_;exact aF rfl (au.of_eq (congrArg (fun q=>SV.s (qt q)) (by unfold w7;rw[if_pos g])))
 refine r0 rfl ?_;exact aF rfl (au.of_eq (congrArg (fun q=>SV.s (qt q)) (by unfold w7;rw[if_neg g])))
def TF:List Int->List Int->Bool
 |x::a,y::b=>if x≠y then decide (y<x)else TF a b
 |_,_=>false
def beforeL(a b:List Int):Bool:=if a.sum≠b.sum then decide (b.sum<a.sum)else TF a b
structure vM where
 c:Rat
 pw:List Int
instance:Inhabited vM:=⟨⟨0,[]⟩⟩
def NK(t:vM):List vM->Rat×List vM
 |u::r=>if u.pw=t.pw then(u.c+t.c,r)else(t.c,u::r)
 |[]=>(t.c,[])
def XZ(p:List vM)(t:vM):List vM:=(p.takeWhile fun u:vM=>beforeL u.pw t.pw)++(if(NK t (p.dropWhile fun u:vM=>beforeL u.pw t.pw)).1=0 then[]else[⟨(NK t (p.dropWhile fun u:vM=>beforeL u.pw t.pw)).1,t.pw⟩])++(NK t (p.dropWhile fun u:vM=>beforeL u.pw t.pw)).2
theorem Fs{α:Type}{l:List α}{i:Nat}{d:α}(h:i<l.length):l.getD i d∈l:=by rw[bk h];exact List.getElem_mem h
def TA(l:List vM):List vM:=l.foldl XZ []
def ZY(a b:List vM):List vM:=TA (a++b)
end Go.Ai
namespace Go.Ai
theorem BH{α:Type}[DecidableEq α]:∀{l m:List α},l.Nodup->(∀x∈l,x∈m)->l.length<=m.length
 |[],_,_,_=>by simp
 |x::l,m,hn,hs=>by
  have hx:x∈m:=hs x (by simp);have h1:=List.nodup_cons.1 hn;have:=BH (l:=l) (m:=m.erase x) h1.2 fun y hy=>by
   have:y≠x:=by rintro rfl;exact h1.1 hy
   exact(List.mem_erase_of_ne this).2 (hs y (by simp[hy]))
  rw[List.length_erase_of_mem hx]at this;have:=List.length_pos_of_mem hx;simp only[List.length_cons];omega
def abc(c:Rat)(p:List vM):List vM:=p.map fun t=>⟨c*t.c,t.pw⟩
def UP(c:Rat)(p:List vM):List vM:=TA (abc c p)
def WA(c:Rat)(n:Nat):List vM:=if c=0 then[]else[⟨c,List.replicate (n+1) 0⟩]
def XJ(v n:Nat):List vM:=[⟨1,(List.replicate (n+1) 0).set v 1⟩]
end Go.Ai
namespace Go.Ai
open Go.Proofs
set_option maxRecDepth 100000
structure Hp where
 sh:Int
 kt:bw
 deriving Inhabited
def vp(f:Hp):SV:=.agg [.i f.sh,.s f.kt]
structure dW where
 kind:bw
 aC:List Hp
 out:Int
 k:bw
 mG:List bw
 deriving Inhabited
def gN(u:dW):SV:=.agg [.s u.kind,.cJ false 2 default vp u.aC,.i u.out,.s u.k,.strs false u.mG]
structure ru where
 n:Int
 ah:List dW
 ints:List Int
 deriving Inhabited
def fo(p:ru):SV:=.agg [.i p.n,.cJ false 5 default gN p.ah,.ints .i64 false p.ints]
def di:bw:=[105,110,116,101,103,114,97,116,111,114]
def oo:bw:=[97,100,100,101,114]
def iA:bw:=[116,97,98,108,101]
structure UOk(u:dW):Prop where
 aC:u.aC.length<2^40
 kt:∀f∈u.aC,dq f.kt
 k:dq u.k
 mG:u.mG.length<2^40
 aa9:∀s∈u.mG,dq s
structure M3(p:ru):Prop where
 ah:p.ah.length<2^40
 unit:∀u∈p.ah,UOk u
 ints:p.ints.length<2^40
noncomputable def kx(n:Int)(f:Hp):Int:=if f.sh<0\/n<=f.sh then 10 else if aG f.kt≠0 then aG f.kt else if cq f.kt=0 then 6 else 0
def mF(u:dW)(lo hi:Int):Prop:=(u.aC.length:Int)<lo\/hi<u.aC.length\/(u.kind=iA/\(u.mG.length<1\/13<u.mG.length))\/(u.kind≠iA/\0<u.mG.length)
instance(u:dW)(lo hi:Int):Decidable (mF u lo hi):=by unfold mF;infer_instance
def JF(u:dW):Int:=if u.kind=di then 2 else 1
def Ee(u:dW):Int:=if u.kind=di then 2 else if u.kind=oo then 8 else 1
noncomputable def iY(n:Int)(u:dW):Int:=
 if u.kind≠di/\u.kind≠oo/\u.kind≠iA then 13
 else if mF u (JF u) (Ee u)then 2
 else if aL (kx n) u.aC≠0 then aL (kx n) u.aC
 else if u.out<1\/n<=u.out then 10
 else if aG u.k≠0 then aG u.k else aL aG u.mG
def jx(u:dW):List Hp:=if u.kind=di then u.aC.drop 1 else u.aC
def cu(s:Int):Nat->List dW->Int
 |_,[]=> -1
 |k,u::r=>if u.out=s then k else cu s (k+1) r
def fu(us:List dW)(s:Int):Int:=cu s 0 us
theorem tA{s:Int}:∀{us:List dW}{k:Nat},cu s k us<(k+us.length:Nat)
 |[],k=>by simp only[cu];omega
 |u::r,k=>by have:=tA (s:=s) (us:=r) (k:=k+1);simp only[cu,List.length_cons];split<;>omega
theorem vr(us:List dW)(s:Int):fu us s<us.length:=by have:=tA (s:=s) (us:=us) (k:=0);unfold fu;omega
def sZ(us:List dW)(out:List Int)(f:Hp):Bool:=decide (fu us f.sh<0\/fu us f.sh∈out)
def rM(us:List dW)(out:List Int)(j:Nat):Bool:=decide (¬(j:Int)∈out)&&(jx (us.getD j default)).all (sZ us out)
def cW(us:List dW)(out:List Int)(j:Nat):Int:=if j<us.length then(if rM us out j=true then(j:Int)else cW us out (j+1))else -1
 termination_by us.length-j
theorem jL{us:List dW}{out:List Int}{j:Nat}(h:j<us.length):cW us out j=if rM us out j=true then(j:Int)else cW us out (j+1):=by rw[cW,if_pos h]
theorem n8{us:List dW}{out:List Int}{j:Nat}(h:us.length<=j):cW us out j= -1:=by rw[cW,if_neg (by omega)]
theorem ra(us:List dW)(out:List Int)(j:Nat):cW us out j= -1\/∃i:Nat,cW us out j=i/\j<=i/\i<us.length/\rM us out i=true:=by
 induction hm:us.length-j generalizing j with
 |zero=>exact .inl (n8 (by omega))
 |succ m ih=>
  rw[jL (by omega)];split
  ·rename_i h;exact .inr ⟨j,rfl,Nat.le_refl _,by omega,h⟩
  rcases ih (j+1) (by omega)with h|⟨i,h1,h2,h3⟩
  ·exact .inl h
  exact .inr ⟨i,h1,by omega,h3⟩
def jb(us:List dW):Nat->List Int->List Int
 |0,out=>out
 |k+1,out=>if cW us out 0<0 then out else jb us k (out++[cW us out 0])
def jv(us:List dW):List Int:=jb us (us.length+1) []
theorem JC{us:List dW}{out:List Int}(hn:out.Nodup)(hb:∀x∈out,0<=x/\x<us.length):out.length<=us.length:=by
 have:=BH (m:=(List.range us.length).map fun(x:Nat)=>(x:Int)) hn fun x hx=>by have:=hb x hx;exact List.mem_map.2 ⟨x.toNat,List.mem_range.2 (by omega),by omega⟩
 simpa using this
theorem NX{us:List dW}{out:List Int}(hn:out.Nodup)(hb:∀x∈out,0<=x/\x<us.length)(h:¬cW us out 0<0):(out++[cW us out 0]).Nodup/\∀x∈out++[cW us out 0],0<=x/\x<us.length:=by
 rcases ra us out 0 with e|⟨i,e,_,h2,h3⟩
 ·rw[e]at h;exact absurd (by decide) h
 rw[e];have h4:¬(i:Int)∈out:=by unfold rM at h3;simp only[Bool.and_eq_true,decide_eq_true_eq]at h3;exact h3.1
 refine⟨?_,fun x hx=>?_⟩
 ·rw[List.nodup_append];refine⟨hn,by simp,fun a ha b hb=>?_⟩;simp at hb;subst hb;rintro rfl;exact h4 ha
 rcases List.mem_append.1 hx with hx|hx
 ·exact hb x hx
 simp at hx;subst hx;omega
def OT(x:Rat)(cs:List Rat):Rat:=cs.foldr (fun a s=>s*x+a) 0
end Go.Ai
section
namespace Go.Ai
open Go.Proofs
set_option maxRecDepth 100000
structure o6(n:Int)(u:dW):Prop where
 kind:u.kind=di\/u.kind=oo\/u.kind=iA
 Bv:¬mF u (JF u) (Ee u)
 feed:∀f∈u.aC,0<=f.sh/\f.sh<n/\aG f.kt=0/\cq f.kt≠0
 out:1<=u.out/\u.out<n
 k:aG u.k=0
 mG:∀c∈u.mG,aG c=0
theorem IC{n:Int}{f:Hp}(h:kx n f=0):0<=f.sh/\f.sh<n/\aG f.kt=0/\cq f.kt≠0:=by
 unfold kx at h;split at h
 ·simp at h
 rename_i h1;split at h
 ·contradiction
 rename_i h2;split at h
 ·simp at h
 rename_i h3;exact⟨by omega,by omega,by simpa using h2,h3⟩
theorem xK{n:Int}{u:dW}(h:iY n u=0):o6 n u:=by
 unfold iY at h;split at h
 ·simp at h
 rename_i h1;split at h
 ·simp at h
 rename_i h2;split at h
 ·contradiction
 rename_i h3;split at h
 ·simp at h
 rename_i h4;split at h
 ·contradiction
 rename_i h5;have h3:=dj.1 (show aL (kx n) u.aC=0 by simpa using h3);have h6:=dj.1 h;refine⟨?_,h2,fun f hf=>IC (h3 f hf),by omega,by simpa using h5,h6⟩;by_cases g1:u.kind=di
 ·exact .inl g1
 by_cases g2:u.kind=oo
 ·exact .inr (.inl g2)
 by_cases g3:u.kind=iA
 ·exact .inr (.inr g3)
 exact absurd ⟨g1,g2,g3⟩ h1
theorem De:di≠oo:=by decide
theorem xz:di≠iA:=by decide
theorem Df:oo≠iA:=by decide
theorem o6.int{n:Int}{u:dW}(h:o6 n u)(hk:u.kind=di):u.aC.length=2/\u.mG=[]:=by
 have h1:=h.Bv;unfold mF JF Ee at h1;rw[if_pos hk,if_pos hk]at h1;have h2:¬u.kind=iA:=by rw[hk];exact xz
 refine⟨by omega,List.length_eq_zero_iff.1 ?_⟩;rcases Nat.eq_zero_or_pos u.mG.length with g|g
 ·exact g
 exact absurd (.inr (.inr (.inr ⟨h2,g⟩))) h1
theorem o6.add{n:Int}{u:dW}(h:o6 n u)(hk:u.kind=oo):1<=u.aC.length/\u.aC.length<=8/\u.mG=[]:=by
 have h1:=h.Bv;have h3:¬u.kind=di:=by rw[hk];exact De.symm
 unfold mF JF Ee at h1;rw[if_neg h3,if_neg h3,if_pos hk]at h1;have h2:¬u.kind=iA:=by rw[hk];exact Df
 refine⟨by omega,by omega,List.length_eq_zero_iff.1 ?_⟩;rcases Nat.eq_zero_or_pos u.mG.length with g|g
 ·exact g
 exact absurd (.inr (.inr (.inr ⟨h2,g⟩))) h1
theorem o6.table{n:Int}{u:dW}(h:o6 n u)(hk:u.kind=iA):u.aC.length=1/\1<=u.mG.length/\u.mG.length<=13:=by
 have h1:=h.Bv;have h3:¬u.kind=di:=by rw[hk];exact xz.symm
 have h4:¬u.kind=oo:=by rw[hk];exact Df.symm
 unfold mF JF Ee at h1;rw[if_neg h3,if_neg h3,if_neg h4]at h1;by_cases g:u.mG.length<1\/13<u.mG.length
 ·exact absurd (.inr (.inr (.inl ⟨hk,g⟩))) h1
 omega
noncomputable def HC(n:Nat)(us:List dW):List Rat:=us.foldl (fun(o:List Rat)u=>o.set u.out.toNat (cq u.k)) (List.replicate n 0)
noncomputable def aba(n:Nat)(us:List dW)(u:dW):Rat:=OT (cq (u.aC.getD 0 default).kt*(HC n us).getD (u.aC.getD 0 default).sh.toNat 0) (u.mG.map cq)
def conflict(n:Nat)(us:List dW)(u:dW):Prop:=u.kind=iA/\cq u.k≠aba n us u
def zM(n:Nat)(us:List dW):Prop:=∀s:Nat,1<=s->s<n->us.countP (fun u=>decide (u.out=(s:Int)))=1
def jg(us:List dW):Nat:=us.countP fun u=>decide (u.kind=di)
open Classical in
noncomputable def jY(p:ru):Int:=
 if p.n<1\/100<p.n then 3
 else if 96<p.ah.length then 5
 else if aL (iY p.n) p.ah≠0 then aL (iY p.n) p.ah
 else if 24<p.ints.length then 5
 else if∃k∈p.ints,k<0\/p.n<=k then 10
 else if 24<jg p.ah then 5
 else if¬zM p.n.toNat p.ah then 19
 else if(jv p.ah).length<p.ah.length then 18
 else if∃u∈p.ah,conflict p.n.toNat p.ah u then 30 else 0
theorem rb{α:Type}{l:List α}{i:Nat}(h:i<l.length){P:α->Prop}(h1:¬∃x∈l.take i,P x)(h2:¬P l[i]):¬∃x∈l.take (i+1),P x:=by
 rw[List.take_succ_eq_append_getElem h];rintro⟨u,hu,g⟩;rcases List.mem_append.1 hu with hu|hu
 ·exact h1 ⟨u,hu,g⟩
 simp at hu;subst hu;exact h2 g
end Go.Ai
end
namespace Go.Ai
open Go.Proofs
set_option maxRecDepth 100000
theorem rn{R:Option Nat->Prop}{N:Nat}{F:St->Prop}{k:List It}{l:aP}(m:Nat){k':List It}{l':aP}(h:run tt [] N m k l [] []=([],[],k',l'))(hk:AK R Tryz.prog N F k' l'):AK R Tryz.prog N F k l:=(kQ hA hm h trivial rfl).2.2 hk
theorem AX{l:List Int}{i:Nat}{x:Int}(h:i<l.length):(l.set i x).getD i 0=x:=by rw[List.getD_eq_getElem?_getD,List.getElem?_set_self h];rfl
theorem getD_set_ne{l:List Int}{i j:Nat}{x:Int}(h:i≠j):(l.set i x).getD j 0=l.getD j 0:=by rw[List.getD_eq_getElem?_getD,List.getElem?_set_ne h,<-List.getD_eq_getElem?_getD]
def adg(us:List dW)(i:Nat):Nat:=jg (us.take i)
def UN(n m:Nat):List (List vM):=(List.replicate n []).set 0 (XJ 0 m)
def shI(us:List dW)(n m:Nat):Nat->List (List vM)
 |0=>UN n m
 |i+1=>if(us.getD i default).kind=di then(shI us n m i).set (us.getD i default).out.toNat (XJ (adg us (i+1)) m)else shI us n m i
noncomputable def KK(sh:List (List vM))(st:List Rat)(u:dW):Nat->List vM×Rat
 |0=>([],cq u.k)
 |i+1=>(ZY (KK sh st u i).1 (UP (cq (u.aC.getD i default).kt) (sh.getD (u.aC.getD i default).sh.toNat [])),
   (KK sh st u i).2-cq (u.aC.getD i default).kt*st.getD (u.aC.getD i default).sh.toNat 0)
noncomputable def Tg(sh:List (List vM))(st:List Rat)(m:Nat)(u:dW):List vM:=ZY (KK sh st u u.aC.length).1 (WA (KK sh st u u.aC.length).2 m)
end Go.Ai
section
namespace Go.Ai
open Go.Proofs
set_option maxRecDepth 100000
theorem qF{p q:Rat}:Ac p q<=0↔p<=q:=by
 have h1:(p-q).num<=0↔0<=(-(p-q)).num:=by rw[Rat.neg_num];omega
 unfold Ac;rw[Int.sign_nonpos_iff,h1,Rat.num_nonneg];constructor<;>intro h<;>grind
theorem ER(q:Rat)(n m:Nat):q^(n+m)=q^n*q^m:=by
 induction m with
 |zero=>rw[Nat.add_zero,Rat.pow_zero];grind
 |succ m ih=>rw[<-Nat.add_assoc,Rat.pow_succ,Rat.pow_succ,ih];grind
theorem Sz.pow{q:Rat}{K:Nat}(h:Sz q K):∀n,Sz (q^n) (K*n+1)
 |0=>by rw[Rat.pow_zero];exact⟨by simp[pX],by simp[pX]⟩
 |n+1=>by have:=(Sz.pow h n).mul h;rw[Rat.pow_succ];exact this.mono (by rw[Nat.mul_succ];omega)
theorem BF(q:Rat)(n:Nat){K:Nat}(h:Sz q K)(hn:n<2^40)(hK:2*(K*(2*n)+1)<2^34):aO Tryz.prog 130 [.s (qt q),.i n] (.s (qt (q^n))):=by
 refine enter (fn:=Tryz.f130) Tryz.func130 rfl rfl rfl rfl ?_;refine r0 rfl ?_;refine br rfl rfl rfl (fun h1=>absurd h1 (by omega)) (fun _=>?_);refine r0 rfl ?_;refine mA (fun(k d e:Nat)=>[(0,.s (qt (q^d))),(1,.i k),(5,.s (qt (q^e)))]) (fun k d e=>k<=n/\e+d*k=n/\(k=0\/d<=n)) (fun k _ _=>k) n 1 0 ⟨Nat.le_refl _,by omega,by omega⟩
  ⟨⟨rfl,au.of_eq (congrArg SV.s (by rw[Rat.pow_succ,Rat.pow_zero,Rat.one_mul]))⟩,⟨rfl,rfl⟩,⟨rfl,au.of_eq (congrArg SV.s (by rw[Rat.pow_zero,UW]))⟩,trivial⟩ ?_
 rintro k d e⟨hk,he,hd⟩;refine r0 rfl ?_;refine br rfl rfl rfl (fun h1=>?_) (fun h1=>?_)
 ·have h0:0<k:=by omega
  have TZ:d<=n:=hd.resolve_left (by omega);have hdk:d<=d*k:=Nat.le_mul_of_pos_right _ h0;have hen:e<=n:=by omega
  have b1:K*d+1<=K*(2*n)+1:=Nat.add_le_add_right (Nat.mul_le_mul_left _ (by omega)) 1;have b2:K*e+1<=K*(2*n)+1:=Nat.add_le_add_right (Nat.mul_le_mul_left _ (by omega)) 1;have s1:=(h.pow d).mono b1;have s2:=(h.pow e).mono b2;have hdv:k=2*(k/2)+k%2:=by omega
  have TS:d*k=2*d*(k/2)+d*(k%2):=by
   conv=>lhs;rw[hdv,Nat.mul_add]
   rw[Nat.mul_comm 2 d,Nat.mul_assoc]
  have sq:q^d*q^d=q^(2*d):=by rw[<-ER];congr 1;omega
  refine r1 rfl (by simp only[ae,and_true]<;>omega) ?_;refine br rfl rfl rfl (fun h2=>?_) (fun h2=>?_)
  ·have h2:k%2=1:=by
    have h2:(k:Int).tmod 2=1:=h2;have:(k:Int).tmod 2=((k%2:Nat):Int):=rfl;omega
   rw[h2,Nat.mul_one]at TS;refine r0 rfl ?_;refine cl rfl rfl (np (q^e) (q^d) s2 s1 (by omega)) rfl ?_;refine r0 rfl ?_;refine cl rfl rfl (np (q^d) (q^d) s1 s1 (by omega)) rfl ?_;refine r1 rfl (by simp only[ae,and_true]<;>omega) ?_;refine again (k/2,2*d,e+d) (by dsimp only;omega) ⟨by dsimp only;omega,by dsimp only;omega,?_⟩ ⟨⟨rfl,au.of_eq (congrArg SV.s (by rw[sq]))⟩,⟨rfl,rfl⟩,⟨rfl,au.of_eq (congrArg SV.s (by rw[ER]))⟩,trivial⟩;dsimp only;rcases Nat.eq_zero_or_pos (k/2)with g|g
   ·exact .inl g
   have:2*d<=2*d*(k/2):=Nat.le_mul_of_pos_right _ g;exact .inr (by omega)
  have h2:k%2=0:=by have h2:¬(k:Int).tmod 2=1:=h2;have:(k:Int).tmod 2=((k%2:Nat):Int):=rfl;omega
  rw[h2,Nat.mul_zero]at TS;refine r0 rfl ?_;refine cl rfl rfl (np (q^d) (q^d) s1 s1 (by omega)) rfl ?_;refine r1 rfl (by simp only[ae,and_true]<;>omega) ?_;refine again (k/2,2*d,e) (by dsimp only;omega) ⟨by dsimp only;omega,by dsimp only;omega,?_⟩ ⟨⟨rfl,au.of_eq (congrArg SV.s (by rw[sq]))⟩,⟨rfl,rfl⟩,⟨rfl,rfl⟩,trivial⟩;dsimp only;rcases Nat.eq_zero_or_pos (k/2)with g|g
  ·exact .inl g
  have:2*d<=2*d*(k/2):=Nat.le_mul_of_pos_right _ g;exact .inr (by omega)
 have:k=0:=by omega
 subst this;refine r0 rfl ?_;exact aF rfl (au.of_eq (congrArg SV.s (by rw[show e=n by omega])))
def gj(n:Int):Rat:=if n<0 then((2:Rat)^(-n).toNat)⁻¹ else(2:Rat)^n.toNat
theorem two_pos:(0:Rat)<2:=by decide
theorem nf(n:Nat):(0:Rat)<(2:Rat)^n:=by
 induction n with
 |zero=>rw[Rat.pow_zero];decide
 |succ n ih=>rw[Rat.pow_succ];exact Rat.mul_pos ih two_pos
theorem qm(n:Int):0<gj n:=by
 unfold gj;split
 ·exact Rat.inv_pos.2 (nf _)
 exact nf _
theorem NT(n:Int):gj (n+1)=gj n*2:=by
 unfold gj;rcases Int.lt_trichotomy n (-1)with h|h|h
 ·rw[if_pos (by omega),if_pos (by omega),show(-n).toNat=(-(n+1)).toNat+1 by omega,Rat.pow_succ];have:=nf (-(n+1)).toNat
  grind
 ·subst h;rw[if_neg (by decide),if_pos (by decide)];have e1:((-1:Int)+1).toNat=0:=rfl;have e2:(-(-1:Int)).toNat=0+1:=rfl;rw[e1,e2,Rat.pow_succ,Rat.pow_zero];grind
 rw[if_neg (by omega),if_neg (by omega),show(n+1).toNat=n.toNat+1 by omega,Rat.pow_succ]
theorem iL(n:Int)(k:Nat):gj (n+k)=gj n*(2:Rat)^k:=by
 induction k with
 |zero=>rw[Rat.pow_zero];simp
 |succ k ih=>rw[show n+((k+1:Nat):Int)=n+k+1 by omega,NT,ih,Rat.pow_succ];grind
theorem E9(n:Nat):(1:Rat)<=(2:Rat)^n:=by
 induction n with
 |zero=>rw[Rat.pow_zero];exact Rat.le_refl
 |succ n ih=>rw[Rat.pow_succ];grind
theorem lI{m n:Int}(h:m<=n):gj m<=gj n:=by
 obtain⟨k,rfl⟩:∃k:Nat,n=m+k:=⟨(n-m).toNat,by omega⟩;rw[iL];have h1:=E9 k;have h2:=qm m;have:=Rat.mul_le_mul_of_nonneg_left h1 (Rat.le_of_lt h2)
 grind
def mT(a:Rat)(e:Int):Prop:=gj e<=a/\¬gj (e+1)<=a
theorem AQ{a:Rat}{e f:Int}(h:mT a e)(g:mT a f):e=f:=by
 rcases Int.lt_trichotomy e f with k|k|k
 ·exact absurd (Rat.le_trans (lI (by omega)) g.1) h.2
 ·exact k
 exact absurd (Rat.le_trans (lI (by omega)) h.1) g.2
open Classical in
noncomputable def oQ(a:Rat):Int:=if h:∃e,mT a e then h.choose else 0
theorem ij{a:Rat}{e:Int}(h:mT a e):oQ a=e:=by unfold oQ;rw[dif_pos ⟨e,h⟩];exact AQ (Exists.choose_spec (⟨e,h⟩:∃e,mT a e)) h
theorem xO:Sz 2 1:=⟨by rw[show(2:Rat).num.natAbs=2 from rfl,kd (f:=2) (by decide) (by decide)];decide,by rw[show(2:Rat).den=1 from rfl,pX];decide⟩
theorem Sz.gj(n:Int):Sz (gj n) (n.natAbs+2):=by
 unfold Go.Ai.gj;split
 ·have:=(xO.pow (-n).toNat).inv;exact this.mono (by omega)
 exact(xO.pow n.toNat).mono (by omega)
theorem NO:qt 2=[50]:=by have:=CS 2;rw[show((2:Int):Rat)=2 from rfl]at this;rw[this];unfold bM;rw[if_neg (by decide),bc (by decide)];show decl 0 0++[MZ 2]=[50];rw[bR];decide
theorem pt(n:Int)(h:n.natAbs<2^30):aO Tryz.prog 67 [.i n] (.s (qt (gj n))):=by
 refine enter (fn:=Tryz.f67) Tryz.func67 rfl rfl rfl rfl ?_;refine r0 rfl ?_;refine br rfl rfl rfl (fun h1=>?_) (fun h1=>?_)
 ·have e:(0:Int)-n=((-n).toNat:Nat):=by omega
  have hp:=BF 2 (-n).toNat xO (by omega) (by omega);rw[NO]at hp;refine r1 rfl (by simp only[ae,and_true]<;>omega) ?_;refine cl rfl (by rw[e];rfl) hp rfl ?_;refine r0 rfl ?_;refine cl rfl rfl (mZ ((2:Rat)^(-n).toNat) (xO.pow _) (by omega) (by have:=nf (-n).toNat;grind)) rfl ?_;refine r0 rfl ?_;exact aF rfl (au.of_eq (congrArg SV.s (by unfold gj;rw[if_pos h1])))
 have e:n=(n.toNat:Nat):=by omega
 have hp:=BF 2 n.toNat xO (by omega) (by omega);rw[NO]at hp;refine r0 rfl ?_;refine Ej (us:=[.s [50],.i (n.toNat:Nat)]) rfl rfl trivial ⟨rfl,congrArg SV.i e,trivial⟩ hp rfl ?_;refine r0 rfl ?_;exact aF rfl (au.of_eq (congrArg SV.s (by unfold gj;rw[if_neg h1])))
theorem HN{q:Rat}(h:0<q):q<=(q.num:Rat):=by
 have hd:(q.den:Rat)≠0:=by
  intro g;have:q.den=0:=by exact_mod_cast g
  exact q.den_nz this
 have h1:q*(q.den:Rat)=(q.num:Rat):=by
  have:=Rat.num_divInt_den q;rw[Rat.divInt_eq_div,Rat.intCast_natCast]at this
  conv=>lhs;lhs;rw[<-this]
  grind
 have h2:(1:Rat)<=(q.den:Rat):=by
  have:=q.den_nz;have:1<=q.den:=by omega
  exact_mod_cast this
 have:=Rat.mul_le_mul_of_nonneg_left h2 (Rat.le_of_lt h)
 grind
theorem IP{n k:Nat}(h:(aa n).length<=k):n<2^(30*k):=by
 have h1:=bq n;have h2:(1000000000:Nat)^(aa n).length<=1000000000^k:=Nat.pow_le_pow_right (by decide) h;have Ei:(n:Int)<((1000000000^(aa n).length:Nat):Int):=by rw[Int.natCast_pow];exact h1
 have h3:(1000000000:Nat)^k<=(2^30)^k:=Nat.pow_le_pow_left (by decide) k;rw[<-Nat.pow_mul]at h3;omega
theorem Fo(n:Nat):((2^n:Nat):Rat)=(2:Rat)^n:=by
 induction n with
 |zero=>rw[Rat.pow_zero];rfl
 |succ n ih=>rw[Rat.pow_succ,<-ih,Nat.pow_succ,Rat.natCast_mul];rfl
theorem od{q:Rat}{K:Nat}(h:0<q)(hs:Sz q K):q<gj ((30*K:Nat):Int):=by
 have h1:=HN h;have h0:0<=q.num:=Rat.num_nonneg.2 (Rat.le_of_lt h);have h2:=IP hs.1;have h3:(q.num:Rat)=((q.num.natAbs:Nat):Rat):=by rw[<-Rat.intCast_natCast];congr 1;omega
 have h4:((q.num.natAbs:Nat):Rat)<((2^(30*K):Nat):Rat):=by exact_mod_cast h2
 have h5:gj ((30*K:Nat):Int)=(2:Rat)^(30*K):=by unfold gj;rw[if_neg (by omega)];rfl
 rw[h5,<-Fo];rw[h3]at h1
 grind
theorem RS(n:Int):(gj n)⁻¹ =gj (-n):=by
 unfold gj;rcases Int.lt_trichotomy n 0 with h|h|h
 ·rw[if_pos h,if_neg (by omega),Rat.inv_inv]
 ·subst h;rw[if_neg (by decide),if_neg (by decide)];show((2:Rat)^0)⁻¹ =(2:Rat)^0;rw[Rat.pow_zero];grind
 rw[if_neg (by omega),if_pos (by omega),Int.neg_neg]
theorem sQ{q:Rat}{K:Nat}(h:0<q)(hs:Sz q K):gj (-((30*(K+1):Nat):Int))<q:=by
 have h1:=od (Rat.inv_pos.2 h) hs.inv;rw[<-RS];have h2:=qm ((30*(K+1):Nat):Int);have h3:q*q⁻¹ =1:=Rat.mul_inv_cancel q (by grind);have h4:gj ((30*(K+1):Nat):Int)*(gj ((30*(K+1):Nat):Int))⁻¹ =1:=Rat.mul_inv_cancel _ (by grind);have h5:=Rat.inv_pos.2 h2;generalize gj ((30*(K+1):Nat):Int)=x at*;generalize x⁻¹ =y at*;generalize q⁻¹ =r at*;have h6:0<y*q:=Rat.mul_pos h5 h;have h7:(y*q)*r<(y*q)*x:=Rat.mul_lt_mul_of_pos_left h1 h6;have h8:(y*q)*r=y:=by rw[Rat.mul_assoc,h3,Rat.mul_one]
 have h9:(y*q)*x=q:=by rw[Rat.mul_comm y q,Rat.mul_assoc,Rat.mul_comm y x,h4,Rat.mul_one]
 rw[h8,h9]at h7;exact h7
theorem Gr{q:Rat}{K:Nat}{e:Int}(h:0<q)(hs:Sz q K)(he:mT q e): -(30*(K+1:Int))-1<=e/\e<=30*K:=by
 have h1:=od h hs;have h2:=sQ h hs;obtain⟨g1,g2⟩:=he;refine⟨?_,?_⟩
 ·rcases Decidable.em (e+1< -((30*(K+1):Nat):Int))with g|g
  ·exact absurd (Rat.le_trans (lI (Int.le_of_lt g)) (Rat.le_of_lt h2)) g2
  omega
 rcases Decidable.em (((30*K:Nat):Int)<e)with g|g
 ·have:=lI (Int.le_of_lt g);exact absurd (Rat.le_trans this g1) (Rat.not_le.2 h1)
 omega
theorem lZ(a:Rat){K:Nat}(ha:0<a)(hs:Sz a K)(hK:K<2^20):(∃e,mT a e)/\aO Tryz.prog 28 [.s (qt a)] (.i (oQ a)):=by
 have h1:=od ha hs;have h2:=sQ ha hs;have hup:∀e:Int,gj e<=a->e<30*K:=by
  intro e he;rcases Decidable.em (e<30*K)with g|g
  ·exact g
  exact absurd (Rat.le_trans (lI (show((30*K:Nat):Int)<=e by omega)) he) (Rat.not_le.2 h1)
 have Y8:∀e:Int,¬gj e<=a-> -((30*(K+1):Nat):Int)<e:=by
  intro e he;rcases Decidable.em (-((30*(K+1):Nat):Int)<e)with g|g
  ·exact g
  exact absurd (Rat.le_trans (lI (by omega)) (Rat.le_of_lt h2)) he
 have hex:∃e,mT a e:=by
  have:∀(n:Nat)(e:Int),gj e<=a->30*(K:Int)-e<=n->∃e,mT a e:=by
   intro n
   induction n with
   |zero=>intro e he hn;exact absurd (hup e he) (by omega)
   |succ n ih=>
    intro e he hn;by_cases g:gj (e+1)<=a
    ·exact ih (e+1) g (by omega)
    exact⟨e,he,g⟩
  exact this (30*(K:Int)+((30*(K+1):Nat):Int)).toNat _ (Rat.le_of_lt h2) (by omega)
 refine⟨hex,?_⟩;obtain⟨E,hE⟩:=hex;have heq:=ij hE;refine enter (fn:=Tryz.f28) Tryz.func28 rfl rfl rfl rfl ?_;refine PJ 3 (fun e:Int=>[(0,.s (qt a)),(3,.i e)]) (fun e=>0<=e/\e<=30*K/\¬gj e<=a) ?_ ?_
 ·refine r0 rfl ?_;refine loop (fun e:Nat=>[(0,.s (qt a)),(3,.i e)]) (fun e=>(e:Int)<=30*K) (fun e=>30*K-e) 0 (by omega) ⟨⟨rfl,rfl⟩,⟨rfl,rfl⟩,trivial⟩ ?_;intro e he;refine r0 rfl ?_;refine cl rfl rfl (pt e (by omega)) rfl ?_;refine r0 rfl ?_;refine cl rfl rfl (qE (gj e) a (Sz.gj e) hs (by omega)) rfl ?_;refine r0 rfl ?_;refine br rfl rfl rfl (fun h=>?_) (fun h=>?_)
  ·have h:=hup _ (qF.1 h);refine r1 rfl (by simp only[ae,and_true]<;>omega) ?_;exact again (e+1) (by omega) (by omega) ⟨⟨rfl,rfl⟩,⟨rfl,rfl⟩,trivial⟩
  have h:¬gj e<=a:=fun g=>h (qF.2 g);refine r0 rfl ?_;exact meet (e:Int) ⟨by omega,he,h⟩ ⟨⟨rfl,rfl⟩,⟨rfl,rfl⟩,trivial⟩
 rintro e0⟨h3,h4,h5⟩;refine r0 rfl ?_;refine loop (fun e:Int=>[(0,.s (qt a)),(3,.i e)]) (fun e=>¬gj (e+1)<=a/\e<=30*K/\ -((30*(K+1):Nat):Int)<=e) (fun e=>(e+((30*(K+1):Nat):Int)).toNat) e0
  ⟨fun g=>h5 (Rat.le_trans (lI (by omega)) g),h4,by omega⟩ ⟨⟨rfl,rfl⟩,⟨rfl,rfl⟩,trivial⟩ ?_
 rintro e⟨g1,g2,g3⟩;refine r0 rfl ?_;refine cl rfl rfl (pt e (by omega)) rfl ?_;refine r0 rfl ?_;refine cl rfl rfl (qE (gj e) a (Sz.gj e) hs (by omega)) rfl ?_;refine r0 rfl ?_;refine br rfl rfl rfl (fun h=>?_) (fun h=>?_)
 ·have h:¬gj e<=a:=fun g=>by have:=qF.2 g;omega
  have:=Y8 e h;refine r1 rfl (by simp only[ae,and_true]<;>omega) ?_;exact again (e-1) (by omega) ⟨by rw[show e-1+1=e by omega];exact h,by omega,by omega⟩ ⟨⟨rfl,rfl⟩,⟨rfl,rfl⟩,trivial⟩
 have h:gj e<=a:=qF.1 (by omega);refine r0 rfl ?_;refine aF rfl (au.of_eq (congrArg SV.i ?_));exact(ij ⟨h,g1⟩).symm
end Go.Ai
end
namespace Go.Ai
open Go.Proofs
set_option maxRecDepth 100000
theorem mE(q:Rat):0<=kL q:=by
 unfold kL;split
 ·rename_i h;have:0<=(-q).num:=by rw[Rat.neg_num];omega
  exact Rat.num_nonneg.1 this
 exact Rat.num_nonneg.1 (by omega)
theorem Sz.kL{q:Rat}{K:Nat}(h:Sz q K):Sz (kL q) K:=by
 unfold Go.Ai.kL;split
 ·exact h.neg
 exact h
theorem Sz.w7{p q:Rat}{K:Nat}(h:Sz p K)(g:Sz q K):Sz (w7 p q) K:=by
 unfold Go.Ai.w7;split
 ·exact h
 exact g
theorem Fu{p q:Rat}(h:0<=p)(g:0<=q):0<=w7 p q:=by
 unfold w7;split
 ·exact h
 exact g
noncomputable def kq(a:Rat)(jj:Int):Int:=if a=0 then 40 else min 40 (oQ (gj jj/a))
theorem yJ{a:Rat}(h:0<=a)(h0:a≠0)(jj:Int):0<gj jj/a:=by
 rw[Rat.div_def];refine Rat.mul_pos (qm _) (Rat.inv_pos.2 ?_)
 grind
theorem FD(a:Rat)(jj:Int){K:Nat}(h:0<=a)(hs:Sz a K)(hm:0<=jj/\jj<=40)(hK:K<=1000):aO Tryz.prog 43 [.s (qt a),.i jj] (.i (kq a jj))/\ -40000<=kq a jj/\kq a jj<=40:=by
 have hz:a≠0->Sz (gj jj/a) (42+K+1):=fun h0=>((Sz.gj jj).mono (by omega)).div hs;refine⟨?_,?_⟩
 ·refine enter (fn:=Tryz.f43) Tryz.func43 rfl rfl rfl rfl ?_;refine r0 rfl ?_;refine cl rfl rfl (Dg a) rfl ?_;refine r0 rfl ?_;refine o5 rfl rfl rfl (fun h1=>?_) (fun h1=>?_)
  ·have h1:a=0:=by simpa using h1
   refine r0 rfl ?_;exact aF rfl (au.of_eq (congrArg SV.i (by unfold kq;rw[if_pos h1])))
  have h1:¬a=0:=by simpa using h1
  refine r0 rfl ?_;refine cl rfl rfl (pt jj (by omega)) rfl ?_;refine r0 rfl ?_;refine cl rfl rfl (Ms (gj jj) a (Sz.gj jj) hs (by omega) h1) rfl ?_;refine r0 rfl ?_;refine cl rfl rfl (lZ (gj jj/a) (yJ h h1 jj) (hz h1) (by omega)).2 rfl ?_;refine r0 rfl ?_;refine aF rfl (au.of_eq (congrArg SV.i ?_));unfold kq;rw[if_neg h1];rfl
 unfold kq;split
 ·omega
 rename_i h1;obtain⟨e,he⟩:=(lZ (gj jj/a) (yJ h h1 jj) (hz h1) (by omega)).1;have:=Gr (yJ h h1 jj) (hz h1) he;rw[ij he];omega
def Z1(s:iv):Prop:=aG s.lo=0/\aG s.hi=0
noncomputable def BV(s:iv):Rat:=w7 (kL (cq s.lo)) (kL (cq s.hi))
theorem Ol{s:iv}(h:Z1 s):Sz (BV s) 67:=(ki h.1).kL.w7 (ki h.2).kL
theorem yK(s:iv):0<=BV s:=Fu (mE _) (mE _)
theorem re(s:iv)(h:Z1 s):aO Tryz.prog 30 [jB s] (.s (qt (BV s))):=by have h1:=vK (cq s.lo) ((ki h.1).zo (by decide));have h2:=vK (cq s.hi) ((ki h.2).zo (by decide));rw[lH h.1]at h1;rw[lH h.2]at h2;refine enter (fn:=Tryz.f30) Tryz.func30 rfl rfl rfl rfl ?_;refine r0 rfl ?_;refine cd rfl rfl h1 rfl ?_;refine r0 rfl ?_;refine cd rfl rfl h2 rfl ?_;refine r0 rfl ?_;refine cd rfl rfl (H0 (kL (cq s.lo)) (kL (cq s.hi)) (ki h.1).kL (ki h.2).kL (by decide)) rfl ?_;refine k0 rfl (by kernel_rfl) ?_;exact aF rfl (au.refl _)
structure ia where
 c:Int
 d:Int
 s:Int
 g:Int
def eK(b:ia):SV:=.agg [.i b.c,.i b.d,.i b.s,.i b.g]
def oF(b:ia):List Int:=[b.c,b.d,b.s,b.g]
def oG(b:ia):Int:=aL (fun x:Int=>if x<0\/40<x then 3 else 0) (oF b)
structure MO(b:ia):Prop where
 c:0<=b.c/\b.c<=40
 d:0<=b.d/\b.d<=40
 s:0<=b.s/\b.s<=40
 g:0<=b.g/\b.g<=40
theorem wT{b:ia}:oG b=0↔MO b:=by
 unfold oG oF;rw[dj];have hx:∀x:Int,(if x<0\/40<x then(3:Int)else 0)=0↔0<=x/\x<=40:=by intro x;split<;>omega
 simp only[List.mem_cons,List.not_mem_nil,or_false,forall_eq_or_imp,forall_eq,hx];exact⟨fun⟨h1,h2,h3,h4⟩=>⟨h1,h2,h3,h4⟩,fun⟨h1,h2,h3,h4⟩=>⟨h1,h2,h3,h4⟩⟩
theorem vC(b:ia):aO Tryz.prog 23 [eK b] (.i (oG b)):=by
 refine enter (fn:=Tryz.f23) Tryz.func23 rfl rfl rfl rfl ?_;refine r0 rfl ?_;refine loop (fun i:Nat=>[(3,.ints .i64 true (oF b)),(4,.i i)]) (fun i=>i<=(oF b).length/\oG b=aL (fun x:Int=>if x<0\/40<x then 3 else 0) ((oF b).drop i)) (fun i=>(oF b).length-i) 0 ⟨Nat.zero_le _,rfl⟩ ⟨⟨rfl,rfl⟩,⟨rfl,rfl⟩,trivial⟩ ?_;rintro i⟨hi,hf⟩;have h4:(oF b).length=4:=rfl;refine r0 rfl ?_;refine br rfl rfl rfl (fun h1=>?_) (fun h1=>?_)
 ·have cO:i<(oF b).length:=by omega
  have ei:(i:Int).toNat=i:=by omega
  have eg:(oF b).getD i 0=(oF b)[i]:=bk cO;rw[eJ _ cO]at hf;refine r1 rfl (by simp only[ae,and_true,ei]<;>omega) ?_;rw[ei,eg];generalize (oF b)[i]=x at*;refine aB 25 rfl (fun h2=>?_) (fun h2=>?_)
  ·have e:(if x<0\/40<x then(3:Int)else 0)=3:=if_pos (.inl h2);simp only[e]at hf;refine r0 rfl ?_;exact aF rfl (au.of_eq (congrArg SV.i hf.symm))
  refine r1 rfl (by simp only[ae,and_true,ei]<;>omega) ?_;rw[ei,eg];refine br rfl rfl rfl (fun h3=>?_) (fun h3=>?_)
  ·have e:(if x<0\/40<x then(3:Int)else 0)=3:=if_pos (.inr h3);simp only[e]at hf;refine r0 rfl ?_;exact aF rfl (au.of_eq (congrArg SV.i hf.symm))
  have e:(if x<0\/40<x then(3:Int)else 0)=0:=if_neg (by rintro(g|g)<;>contradiction);simp only[e]at hf;refine r1 rfl (by simp only[ae,and_true]<;>omega) ?_;exact again (i+1) (by omega) ⟨by omega,hf⟩ ⟨⟨rfl,rfl⟩,⟨rfl,rfl⟩,trivial⟩
 refine r0 rfl ?_;refine aF rfl (au.of_eq (congrArg SV.i ?_));rw[hf,List.drop_of_length_le (by omega)];rfl
noncomputable def mr(n:Int)(rs:List iv):Int:=if(rs.length:Int)≠n then 2 else aL fi rs
theorem vX{s:iv}(h:fi s=0):Z1 s:=by
 unfold fi at h;split at h
 ·contradiction
 rename_i h1;split at h
 ·contradiction
 rename_i h2;exact⟨by simpa using h1,by simpa using h2⟩
structure XE(n:Int)(rs:List iv):Prop where
 len:(rs.length:Int)=n
 val:∀s∈rs,Z1 s
theorem CQ{n:Int}{rs:List iv}(h:mr n rs=0):XE n rs:=by
 unfold mr at h;split at h
 ·simp at h
 rename_i h1;exact⟨by simpa using h1,fun s hs=>vX (dj.1 h s hs)⟩
noncomputable def Ra(rs:List iv)(b:ia)(s:Nat):Int:=kq (BV (rs.getD s default)) b.s
noncomputable def FM(rs:List iv)(f:Hp):Rat:=kL (cq f.kt*BV (rs.getD f.sh.toNat default))
noncomputable def uU(rs:List iv)(b:ia)(u:dW)(i:Nat):Int:=kq (FM rs (u.aC.getD i default)) (if u.kind=di/\i=0 then b.d else b.s)
theorem LW(rs:List iv)(b:ia)(u:dW)(i:Nat){n:Int}(hu:o6 n u)(hi:i<u.aC.length)(hr:XE n rs)(hl:rs.length<2^40)(bj:u.aC.length<2^40)(hb:MO b):
 aO Tryz.prog 15 [.cJ false 2 default jB rs,eK b,gN u,.i i] (.i (uU rs b u i))/\ -40000<=uU rs b u i/\uU rs b u i<=40:=by
 have hf:=hu.feed _ (Fs (d:=default) hi);have VF:=hr.len;have hm:=hr.val _ (Fs (d:=default) (show(u.aC.getD i default).sh.toNat<rs.length by omega));have ct:Sz (cq (u.aC.getD i default).kt*BV (rs.getD (u.aC.getD i default).sh.toNat default)) (67+67):=(ki hf.2.2.1).mul (Ol hm);have ha:0<=FM rs (u.aC.getD i default):=mE _;have hs:Sz (FM rs (u.aC.getD i default)) (67+67):=ct.kL;have hmul:=np (cq (u.aC.getD i default).kt) (BV (rs.getD (u.aC.getD i default).sh.toNat default)) (ki hf.2.2.1) (Ol hm) (by decide);rw[lH hf.2.2.1]at hmul;have hL:∀m:Int,0<=m/\m<=40->aO Tryz.prog 43 [.s (qt (FM rs (u.aC.getD i default))),.i m] (.i (kq (FM rs (u.aC.getD i default)) m))/\ -40000<=kq (FM rs (u.aC.getD i default)) m/\kq (FM rs (u.aC.getD i default)) m<=40:=fun m hm=>FD (FM rs (u.aC.getD i default)) m ha hs hm (by decide);have abW:0<=(if u.kind=di/\i=0 then b.d else b.s)/\(if u.kind=di/\i=0 then b.d else b.s)<=40:=by split;exact hb.d;exact hb.s
 refine⟨?_,(hL _ abW).2⟩;have ei:(i:Int).toNat=i:=by omega
 refine enter (fn:=Tryz.f15) Tryz.func15 rfl rfl rfl rfl ?_;refine r1 rfl (by simp only[ae,and_true,ei]<;>omega) ?_;rw[ei];refine cd rfl rfl (re (rs.getD (u.aC.getD i default).sh.toNat default) hm) rfl ?_;refine r1 rfl (by simp only[ae,and_true,ei]<;>omega) ?_;refine cd rfl rfl hmul rfl ?_;refine r0 rfl ?_;refine cd rfl rfl (vK (cq (u.aC.getD i default).kt*BV (rs.getD (u.aC.getD i default).sh.toNat default)) (ct.zo (by decide))) rfl ?_;refine k0 rfl (by kernel_rfl) ?_;refine aB 31 rfl (fun h1=>?_) (fun h1=>?_)
 ·have h1:u.kind=di:=h1;refine r0 rfl ?_;refine br rfl rfl rfl (fun h2=>?_) (fun h2=>?_)
  ·have hc:u.kind=di/\i=0:=⟨h1,by omega⟩;refine r0 rfl ?_;refine cl rfl rfl (hL b.d hb.d).1 rfl ?_;refine r0 rfl ?_;exact aF rfl (au.of_eq (congrArg SV.i (by unfold uU;rw[if_pos hc])))
  have hc:¬(u.kind=di/\i=0):=fun g=>h2 (by omega);refine r0 rfl ?_;refine cl rfl rfl (hL b.s hb.s).1 rfl ?_;refine r0 rfl ?_;exact aF rfl (au.of_eq (congrArg SV.i (by unfold uU;rw[if_neg hc])))
 have hc:¬(u.kind=di/\i=0):=fun g=>h1 g.1;refine r0 rfl ?_;refine cl rfl rfl (hL b.s hb.s).1 rfl ?_;refine r0 rfl ?_;exact aF rfl (au.of_eq (congrArg SV.i (by unfold uU;rw[if_neg hc])))
structure Ji where
 less:Int
 aa8:Int
 jj:Int
 deriving Inhabited
def xh(c:Ji):SV:=.agg [.i c.less,.i c.aa8,.i c.jj]
noncomputable def PT(rs:List iv)(b:ia)(s:Nat):List Ji:=[⟨s,-1,Ra rs b s⟩,⟨-1,s,40⟩]
noncomputable def I2(rs:List iv)(b:ia)(u:dW):List Ji:=
 [⟨-1,-1,uU rs b u 0+40⟩,⟨(u.aC.getD 0 default).sh,-1,uU rs b u 0+b.g⟩,⟨-1,(u.aC.getD 0 default).sh,b.g-uU rs b u 0⟩,⟨u.out,-1,uU rs b u 1+uU rs b u 0-b.c⟩,
  ⟨-1,u.out,40+b.c-uU rs b u 0⟩,⟨u.out,(u.aC.getD 1 default).sh,b.g+uU rs b u 0-b.c⟩,⟨(u.aC.getD 1 default).sh,u.out,b.g-uU rs b u 0+b.c⟩]
noncomputable def GU(rs:List iv)(b:ia)(u:dW)(k:Nat):List Ji:=[⟨u.out,-1,uU rs b u k⟩,⟨u.out,(u.aC.getD k default).sh,b.g⟩,⟨(u.aC.getD k default).sh,u.out,b.g⟩]
noncomputable def PS(n:Int)(rs:List iv)(b:ia)(u:dW):List Ji:=[⟨n,-1,uU rs b u 0⟩,⟨-1,n,40⟩,⟨n,(u.aC.getD 0 default).sh,b.g⟩,⟨(u.aC.getD 0 default).sh,n,b.g⟩]
noncomputable def GS(n:Int)(rs:List iv)(b:ia)(u:dW):List Ji:=if u.kind=di then I2 rs b u else if u.kind=oo then(List.range u.aC.length).flatMap (GU rs b u)else if u.kind=iA then PS n rs b u else[]
def Bc(us:List dW)(i:Nat):Nat:=(us.take i).countP fun u=>decide (u.kind=iA)
theorem Mx{us:List dW}{i:Nat}(h:i<us.length):Bc us (i+1)=Bc us i+if us[i].kind=iA then 1 else 0:=by unfold Bc;rw[List.take_succ_eq_append_getElem h,List.countP_append,List.countP_singleton];by_cases g:us[i].kind=iA<;>simp[g]
theorem SO(us:List dW)(i:Nat):Bc us i<=i:=Nat.le_trans List.countP_le_length (by simp;omega)
noncomputable def Ab(rs:List iv)(b:ia)(s:Nat):List Ji:=(List.range s).flatMap (PT rs b)
noncomputable def tJ(n:Nat)(us:List dW)(rs:List iv)(b:ia)(i:Nat):List Ji:=Ab rs b n++(List.range i).flatMap fun j=>GS ((n+Bc us j:Nat):Int) rs b (us.getD j default)
noncomputable def vB(n:Nat)(us:List dW)(rs:List iv)(b:ia):List Ji:=tJ n us rs b us.length
theorem jN{α:Type}(f:Nat->List α)(i:Nat):(List.range (i+1)).flatMap f=(List.range i).flatMap f++f i:=by rw[List.range_succ,List.flatMap_append];simp
theorem fm{α:Type}{f:Nat->List α}{c:Nat}(h:∀i,(f i).length<=c):∀n,((List.range n).flatMap f).length<=n*c
 |0=>by simp
 |n+1=>by have:=fm h n;have:=h n;rw[jN,List.length_append,Nat.succ_mul];omega
theorem Aa(n:Nat)(us:List dW)(rs:List iv)(b:ia)(i:Nat):tJ n us rs b (i+1)=tJ n us rs b i++GS ((n+Bc us i:Nat):Int) rs b (us.getD i default):=by unfold tJ;rw[jN,List.append_assoc]
end Go.Ai
namespace Go.Ai.b6
def B9:Nat:=18446744073709551616
def aa(n:Nat):List Int:=if h:n=0 then[]else((n%B9:Nat):Int)::aa (n/B9)
 termination_by n
 decreasing_by exact Nat.div_lt_self (Nat.pos_of_ne_zero h) (by decide)
def val:List Int->Int
 |[]=>0
 |d::l=>d+18446744073709551616*val l
def fD(l:List Int):Prop:=∀d∈l,0<=d/\d<18446744073709551616
theorem b9:aa 0=[]:=by rw[aa];simp
theorem aX(n:Nat):val (aa n)=n:=by
 induction n using Nat.strongRecOn with
 |_ n ih=>
  rw[aa];split
  ·rename_i h;subst h;rfl
  rename_i h;have cB:n/B9<n:=Nat.div_lt_self (Nat.pos_of_ne_zero h) (by decide);simp only[val,ih _ cB];unfold B9;omega
theorem a8(n:Nat):fD (aa n):=by
 induction n using Nat.strongRecOn with
 |_ n ih=>
  rw[aa];split
  ·intro d hd;simp at hd
  rename_i h;have cB:n/B9<n:=Nat.div_lt_self (Nat.pos_of_ne_zero h) (by decide);intro d hd;rcases List.mem_cons.1 hd with rfl|hd
  ·unfold B9;omega
  exact ih _ cB d hd
theorem aT:∀{l:List Int},fD l->0<=val l
 |[],_=>by simp[val]
 |d::l,h=>by have h1:=h d (by simp);have h2:=aT (l:=l) fun x hx=>h x (by simp[hx]);simp only[val];omega
theorem dw(l:List Int)(d:Int):val (l++[d])=val l+d*18446744073709551616^l.length:=by
 induction l with
 |nil=>simp[val]
 |cons x l ih=>simp only[List.cons_append,val,ih,List.length_cons,Int.pow_succ];rw[Int.mul_add];simp only[Int.add_assoc];congr 2;rw[<-Int.mul_assoc,Int.mul_comm 18446744073709551616,Int.mul_assoc,Int.mul_comm 18446744073709551616]
theorem fI:∀{l:List Int},fD l->val l<18446744073709551616^l.length
 |[],_=>by simp[val]
 |d::l,h=>by have h1:=h d (by simp);have h2:=fI (l:=l) fun x hx=>h x (by simp[hx]);simp only[val,List.length_cons,Int.pow_succ];omega
theorem pW:∀{l:List Int},fD l->l.getLast?≠some 0->aa (val l).toNat=l
 |[],_,_=>by simp[val,b9]
 |d::l,h,hz=>by
  have h1:=h d (by simp);have hl:fD l:=fun x hx=>h x (by simp[hx]);have h2:=aT hl;have Vo:l.getLast?≠some 0:=by
   cases l with
   |nil=>simp
   |cons x l=>simpa using hz
  have ih:=pW hl Vo;have cR:(val (d::l)).toNat≠0:=by
   simp only[val];intro h0;have hd:d=0:=by omega
   have hv:val l=0:=by omega
   cases l with
   |nil=>subst hd;simp at hz
   |cons x l=>rw[hv]at ih;simp[b9]at ih
  rw[aa,dif_neg cR];have e1:(((val (d::l)).toNat%B9:Nat):Int)=d:=by simp only[val];unfold B9;omega
  have e2:(val (d::l)).toNat/B9=(val l).toNat:=by simp only[val];unfold B9;omega
  rw[e1,e2,ih]
theorem qD{l:List Int}{n:Nat}(h:fD l)(hz:l.getLast?≠some 0)(hv:val l=n):l=aa n:=by have:=pW h hz;rw[hv]at this;simpa using this.symm
theorem nF(n:Nat):(aa n).getLast?≠some 0:=by
 induction n using Nat.strongRecOn with
 |_ n ih=>
  rw[aa];split
  ·simp
  rename_i h;have cB:n/B9<n:=Nat.div_lt_self (Nat.pos_of_ne_zero h) (by decide);have:=ih _ cB;cases hl:aa (n/B9)with
  |nil=>simp only[List.getLast?_singleton];intro he;have hv:=aX (n/B9);rw[hl]at hv;simp only[val]at hv;simp only[Option.some.injEq]at he;unfold B9 at he hv;omega
  |cons x l=>rw[hl]at this;simpa using this
theorem aA(l:List Int)(i:Nat):val (l.take (i+1))=val (l.take i)+l.getD i 0*18446744073709551616^i:=by
 by_cases h:i<l.length
 ·rw[List.take_succ_eq_append_getElem h,dw];simp[List.getD_eq_getElem?_getD,List.getElem?_eq_getElem h,Nat.min_eq_left (Nat.le_of_lt h)]
 rw[List.take_of_length_le (by omega),List.take_of_length_le (by omega)];simp[List.getD_eq_getElem?_getD,List.getElem?_eq_none (show l.length<=i by omega)]
theorem aU{l:List Int}(h:fD l)(i:Nat):0<=l.getD i 0/\l.getD i 0<18446744073709551616:=by
 by_cases hi:i<l.length
 ·have:=h l[i] (List.getElem_mem hi);simpa[List.getD_eq_getElem?_getD,List.getElem?_eq_getElem hi]using this
 simp[List.getD_eq_getElem?_getD,List.getElem?_eq_none (show l.length<=i by omega)]
theorem bV(n:Nat):(0:Int)<18446744073709551616^n:=Int.pow_pos (by decide)
theorem ov{l:List Int}(h:fD l)(hl:l.getLast?≠some 0):l=[]\/18446744073709551616^(l.length-1)<=val l:=by
 rcases List.eq_nil_or_concat l with rfl|⟨l,d,rfl⟩
 ·exact .inl rfl
 right;rw[List.concat_eq_append]at*;rw[dw];have h1:=aT (l:=l) fun x hx=>h x (by simp[hx]);have h2:=h d (by simp);simp only[List.getLast?_concat,ne_eq,Option.some.injEq]at hl;simp only[List.length_append,List.length_singleton,Nat.add_sub_cancel];have h3:=bV l.length;have:1*18446744073709551616^l.length<=d*18446744073709551616^l.length:=Int.mul_le_mul_of_nonneg_right (by omega) (by omega);omega
theorem eM(n:Nat):aa n=[]\/(18446744073709551616:Int)^((aa n).length-1)<=n:=by have:=ov (a8 n) (nF n);rwa[aX]at this
def bY:List Int->List Int
 |[]=>[]
 |d::l=>match bY l with
  |[]=>if d=0 then[]else[d]
  |x::r=>d::x::r
theorem jT:∀l:List Int,bY (l++[0])=bY l
 |[]=>by simp[bY]
 |d::l=>by simp only[List.cons_append,bY,jT l]
theorem lp:∀{l:List Int},l.getLast?≠some 0->bY l=l
 |[],_=>rfl
 |[d],h=>by simp at h;simp[bY,h]
 |d::x::l,h=>by have:=lp (l:=x::l) (by simpa using h);rw[bY,this]
theorem rC{w:List Int}{n:Nat}(hn:n+1=w.length)(h:w.getD n 0=0):bY (w.take n)=bY w:=by
 have e:w=w.take n++[0]:=by
  have h1:n<w.length:=by omega
  have h2:w[n]=0:=by simpa[List.getD_eq_getElem?_getD,List.getElem?_eq_getElem h1]using h
  have h3:=List.take_succ_eq_append_getElem h1;rw[List.take_of_length_le (by omega),h2]at h3;exact h3
 conv=>rhs;rw[e,jT]
theorem mW:∀l:List Int,val (bY l)=val l
 |[]=>rfl
 |d::l=>by
  have ih:=mW l;simp only[bY];split
  ·rename_i h;rw[h]at ih;simp only[val]at ih⊢;split
   ·rename_i h0;subst h0;simp only[val];omega
   simp only[val];omega
  rename_i x r h;rw[h]at ih;simp only[val]at ih⊢;omega
theorem c7{l:List Int}(h:fD l):bY l=aa (val l).toNat:=by
 have h1:fD (bY l)/\(bY l).getLast?≠some 0:=by
  induction l with
  |nil=>exact⟨h,by simp[bY]⟩
  |cons d l ih=>
   obtain⟨i1,i2⟩:=ih fun x hx=>h x (by simp[hx]);have hd:=h d (by simp);simp only[bY];split
   ·split
    ·exact⟨fun x hx=>by simp at hx,by simp⟩
    rename_i h0;exact⟨fun x hx=>by simp at hx;subst hx;exact hd,by simpa using h0⟩
   rename_i x r he;rw[he]at i1 i2;exact⟨fun y hy=>by
    rcases List.mem_cons.1 hy with rfl|hy
    ·exact hd
    exact i1 y hy,by simpa using i2⟩
 rw[qD h1.1 h1.2 (n:=(val l).toNat) (by rw[mW];have:=aT h;omega)]
theorem fh(l:List Int)(k:Nat):val l=val (l.take k)+18446744073709551616^(l.take k).length*val (l.drop k):=by
 induction l generalizing k with
 |nil=>simp[val]
 |cons d l ih=>
  cases k with
  |zero=>simp[val]
  |succ k=>simp only[List.take_succ_cons,List.drop_succ_cons,val,List.length_cons,Int.pow_succ,ih k];grind
theorem eO{l:List Int}(h:fD l)(k:Nat):fD (l.take k):=fun x hx=>h x (List.mem_of_mem_take hx)
theorem bq(n:Nat):(n:Int)<18446744073709551616^(aa n).length:=by have:=fI (a8 n);rwa[aX]at this
theorem dm{n:Nat}(h:n≠0):0<(aa n).length:=by rw[aa,dif_neg h];simp
theorem fN{a b:Nat}(h:a<=b):(18446744073709551616:Int)^a<=18446744073709551616^b:=by obtain⟨k,rfl⟩:=Nat.exists_eq_add_of_le h;rw[Int.pow_add];have h1:=bV a;have h2:=bV k;have:=Int.mul_le_mul_of_nonneg_left (show(1:Int)<=18446744073709551616^k by omega) (Int.le_of_lt h1);omega
theorem bz{m n:Nat}(h:(aa m).length<(aa n).length):m<n:=by
 have h1:=bq m;rcases eM n with h2|h2
 ·rw[h2]at h;simp at h
 have h3:(18446744073709551616:Int)^(aa m).length<=18446744073709551616^((aa n).length-1):=fN (by omega);omega
def l9(m n:Nat):Int:=if m<n then -1 else if n<m then 1 else 0
theorem j6{m n k:Nat}(hk:k<(aa m).length)(hl:(aa m).length=(aa n).length)(hd:(aa m).drop (k+1)=(aa n).drop (k+1))(h:(aa m).getD k 0<(aa n).getD k 0):m<n:=by
 have e1:=fh (aa m) (k+1);have e2:=fh (aa n) (k+1);rw[aX,aA]at e1 e2;rw[hd]at e1;have l1:((aa m).take (k+1)).length=k+1:=by simp;omega
 have l2:((aa n).take (k+1)).length=k+1:=by simp;omega
 rw[l1]at e1;rw[l2]at e2;have b1:=fI (eO (a8 m) k);have b2:=aT (eO (a8 n) k);have l3:((aa m).take k).length=k:=by simp;omega
 rw[l3]at b1;have hp:=bV k;have:((aa m).getD k 0+1)*18446744073709551616^k<=(aa n).getD k 0*18446744073709551616^k:=Int.mul_le_mul_of_nonneg_right (by omega) (by omega);rw[Int.add_mul]at this;omega
theorem iX:∀{l:List Int}{j:Nat}(y:Int),j<l.length->val (l.set j y)=val l+(y-l.getD j 0)*18446744073709551616^j
 |[],j,y,h=>by simp at h
 |d::l,0,y,_=>by simp[val];omega
 |d::l,j+1,y,h=>by have:=iX (l:=l) (j:=j) y (by simpa using h);simp only[List.set_cons_succ,val,this,List.getD_cons_succ,Int.pow_succ];grind
theorem du{l:List Int}(h:fD l){j:Nat}{y:Int}(hy:0<=y/\y<18446744073709551616):fD (l.set j y):=by
 intro x hx;rcases List.mem_or_eq_of_mem_set hx with hx|hx
 ·exact h x hx
 subst hx;exact hy
theorem bA(l:List Int)(j k:Nat)(y:Int):(l.set j y).getD k 0=if j=k/\k<l.length then y else l.getD k 0:=by
 simp only[List.getD_eq_getElem?_getD,List.getElem?_set];by_cases h:j=k
 ·subst h;by_cases h2:j<l.length
  ·simp[h2]
  simp[h2,List.getElem?_eq_none (show l.length<=j by omega)]
 simp[h]
theorem gi(n:Nat):val (List.replicate n 0)=0:=by
 induction n with
 |zero=>rfl
 |succ n ih=>simp[List.replicate_succ,val,ih]
theorem dI(n:Nat):fD (List.replicate n 0):=fun x hx=>by rw[List.eq_of_mem_replicate hx];omega
theorem dQ(n k:Nat):(List.replicate n (0:Int)).getD k 0=0:=by simp only[List.getD_eq_getElem?_getD,List.getElem?_replicate];split<;>rfl
def b7:Nat->Int->Int->Int->Int->Int->Int
 |0,t,_,_,_,_=>t
 |k+1,t,r,v1,v2,u2=>if 18446744073709551616<=t\/r*18446744073709551616+u2<t*v2 then(if 18446744073709551616<=r+v1 then t-1 else b7 k (t-1) (r+v1) v1 v2 u2)else t
theorem eC{a b c:Int}(h:a<=b)(hc:0<=c):a*c<=b*c:=Int.mul_le_mul_of_nonneg_right h hc
theorem pM{v1 v2 u2 top P vl ul U V:Int}(hP:0<P)(LZ:1<=v1)(Vw:0<=v2/\v2<18446744073709551616)(Yq:0<=u2/\u2<18446744073709551616)(Dk:0<=vl/\vl<P)(FO:0<=ul/\ul<P)
 (hV:V=v1*(18446744073709551616*P)+v2*P+vl)(hU:U=top*(18446744073709551616*P)+u2*P+ul)(hUV:U<18446744073709551616*V):
 ∀(k:Nat)(t r:Int),k=t.toNat->0<=t->0<=r->t*v1+r=top->U<(t+1)*V->U<(b7 k t r v1 v2 u2+1)*V/\(b7 k t r v1 v2 u2-1)*V<=U/\0<=b7 k t r v1 v2 u2/\b7 k t r v1 v2 u2<=t:=by
 have hvP:v2*P+vl<18446744073709551616*P:=by have:=eC (show v2+1<=18446744073709551616 by omega) (Int.le_of_lt hP);rw[Int.add_mul]at this;omega
 have abA:0<=v2*P:=Int.mul_nonneg Vw.1 (by omega);have Eh:0<V:=by have:=eC LZ (show 0<=18446744073709551616*P by omega);omega
 have OL:top<18446744073709551616*v1+18446744073709551616:=by
  have h1:top*(18446744073709551616*P)<(18446744073709551616*v1+18446744073709551616)*(18446744073709551616*P):=by
   have h2:0<=u2*P:=Int.mul_nonneg Yq.1 (by omega);have h3:(18446744073709551616*v1+18446744073709551616)*(18446744073709551616*P)=18446744073709551616*(v1*(18446744073709551616*P))+18446744073709551616*(18446744073709551616*P):=by grind
   omega
  exact Int.lt_of_mul_lt_mul_right h1 (by omega)
 have Iy:∀t r:Int,0<=t->t<18446744073709551616->t*v1+r=top->t*v2<=r*18446744073709551616+u2->(t-1)*V<=U:=by
  intro t r h0 h1 h2 h3;have e1:t*V=t*v1*(18446744073709551616*P)+t*v2*P+t*vl:=by rw[hV];grind
  have e2:t*v1*(18446744073709551616*P)=top*(18446744073709551616*P)-r*18446744073709551616*P:=by rw[<-h2];grind
  have e3:=eC h3 (Int.le_of_lt hP);rw[Int.add_mul]at e3;have e4:t*vl<=18446744073709551616*P:=by have a:=Int.mul_le_mul_of_nonneg_left (Int.le_of_lt Dk.2) h0;have b:=eC (Int.le_of_lt h1) (Int.le_of_lt hP);omega
  have e5:=eC LZ (show 0<=18446744073709551616*P by omega);rw[Int.sub_mul,Int.one_mul,e1,e2,hU];omega
 have less:∀t r:Int,0<=t->t*v1+r=top->(18446744073709551616<=t\/r*18446744073709551616+u2<t*v2)->U<t*V:=by
  intro t r h0 h2 h3;rcases h3 with h3|h3
  ·have:=eC h3 (Int.le_of_lt Eh);omega
  have e1:t*V=t*v1*(18446744073709551616*P)+t*v2*P+t*vl:=by rw[hV];grind
  have e2:t*v1*(18446744073709551616*P)=top*(18446744073709551616*P)-r*18446744073709551616*P:=by rw[<-h2];grind
  have e3:=eC (show r*18446744073709551616+u2+1<=t*v2 by omega) (Int.le_of_lt hP);rw[Int.add_mul,Int.add_mul]at e3;have e4:0<=t*vl:=Int.mul_nonneg h0 Dk.1;rw[e1,e2,hU];omega
 intro k
 induction k with
 |zero=>
  intro t r hk h0 hr h2 hq;have:t=0:=by omega
  subst this;simp only[b7];refine⟨hq,?_,by omega,by omega⟩;exact Iy 0 r (by omega) (by omega) h2 (by omega)
 |succ k ih=>
  intro t r hk h0 hr h2 hq;simp only[b7];by_cases hc:18446744073709551616<=t\/r*18446744073709551616+u2<t*v2
  ·rw[if_pos hc];have hl:=less t r h0 h2 hc;have MY:(t-1)*v1+(r+v1)=top:=by rw[Int.sub_mul];omega
   by_cases xA:18446744073709551616<=r+v1
   ·rw[if_pos xA];have e:t-1+1=t:=by omega
    rw[e];refine⟨hl,?_,by omega,by omega⟩;have hs:t-1<18446744073709551616:=by
     have:(t-1)*v1<18446744073709551616*v1:=by omega
     exact Int.lt_of_mul_lt_mul_right this (by omega)
    refine Iy (t-1) (r+v1) (by omega) hs MY ?_;have a:(t-1)*v2<=(t-1)*18446744073709551616:=Int.mul_le_mul_of_nonneg_left (by omega) (by omega);omega
   rw[if_neg xA];have e:t-1+1=t:=by omega
   obtain⟨a,b,c,d⟩:=ih (t-1) (r+v1) (by omega) (by omega) (by omega) MY (by rw[e];exact hl);exact⟨a,b,c,by omega⟩
  rw[if_neg hc];refine⟨hq,?_,h0,by omega⟩;have h4:t<18446744073709551616:=by omega
  exact Iy t r h0 h4 h2 (by omega)
theorem dt{w:List Int}{j k:Nat}{y:Int}(h:j<=k):(w.set k y).take j=w.take j:=by rw[List.take_set_of_le h]
theorem kd{f:Nat}(h0:0<f)(h1:f<18446744073709551616):aa f=[(f:Int)]:=by
 refine(qD (fun d hd=>?_) ?_ ?_).symm
 ·simp at hd;omega
 ·simp;omega
 simp[val]
end Go.Ai.b6
namespace Go.Ai.b6
open Go.Proofs Go.Ai
set_option maxRecDepth 100000
theorem Gh{P:Program}{f:FuncId}{k:IntKind}{qs rs:List Int}(h:∀w:World,(callFunc f (qs.map fun a=>Value.int k a).toArray).run P w=.ok (.value (.tuple (rs.map fun a=>Value.int k a).toArray)) w):
 aO P f (qs.map fun a=>SV.n k a) (.bC (rs.map fun a=>SV.n k a)):=by
 intro w S vs _ hS hc;have key:∀(l:List Int)(vs:List Value),Cells w S false (an (l.map fun a=>SV.n k a)) vs []->vs=l.map fun a=>Value.int k a:=by
  intro l
  induction l with
  |nil=>intro vs hc;simp only[List.map_nil,an,Cells]at hc;exact hc.1
  |cons a l ih=>intro vs hc;simp only[List.map_cons,an,Cells]at hc;obtain⟨y,l',F1,F2,rfl,hF,_,hr,hc⟩:=hc;obtain⟨rfl,rfl⟩:=List.append_eq_nil_iff.1 hF.symm;simp only[SV.den,Rel]at hr;rw[hr.2.1,ih l' hc];rfl
 have e:=key qs vs hc;subst e;have gg:∀l:List Int,Cells w S false (an (l.map fun a=>SV.n k a)) (l.map fun a=>Value.int k a) []:=by
  intro l
  induction l with
  |nil=>simp[an,Cells]
  |cons a l ih=>simp only[List.map_cons,an,Cells];exact⟨_,_,[],[],rfl,rfl,by simp,by simp[SV.den,Rel,scalar],ih⟩
 intro rd o a next Q hK
 rw[h w];refine hK _ _ ⟨S,[],Go.RowKit.Below.refl _ _,fun _ h=>h,fun _ h=>.inl h,hS,?_,List.nodup_nil,by simp⟩;simp only[SV.den,Rel];exact⟨_,rfl,gg rs⟩
theorem dJ(x y c:Nat)(hc:c<=1):aO Tryz.prog 239 [.n .u64 x,.n .u64 y,.n .u64 c] (.bC [.n .u64 ((x+y+c)%18446744073709551616:Nat),.n .u64 ((x+y+c)/18446744073709551616:Nat)]):=by
 refine Gh (qs:=[(x:Int),y,c]) (rs:=[(((x+y+c)%18446744073709551616:Nat):Int),(((x+y+c)/18446744073709551616:Nat):Int)]) fun w=>?_;refine(run_callFunc_extern (fn:=Tryz.f239) Tryz.func239 (by kernel_rfl) (by kernel_rfl) (by kernel_rfl) (e:=add64Entry) (by kernel_rfl) _ w).trans ?_;have:=run_add64 (P:=Tryz.prog) x y c (by omega) (by omega) (by omega) (by omega) w;simp only[List.map_cons,List.map_nil];rw[this];simp only[Result.andThen]
 congr 4<;>simp
theorem mY(x y b:Nat)(hb:b<=1):aO Tryz.prog 253 [.n .u64 x,.n .u64 y,.n .u64 b] (.bC [.n .u64 ((x+18446744073709551616-y-b)%18446744073709551616:Nat),.n .u64 ((if x<y+b then 1 else 0:Nat):Int)]):=by refine Gh (qs:=[(x:Int),y,b]) (rs:=[(((x+18446744073709551616-y-b)%18446744073709551616:Nat):Int),((if x<y+b then 1 else 0:Nat):Int)]) fun w=>?_;refine(run_callFunc_extern (fn:=Tryz.f253) Tryz.func253 (by kernel_rfl) (by kernel_rfl) (by kernel_rfl) (e:=sub64Entry) (by kernel_rfl) _ w).trans ?_;have:=run_sub64 (P:=Tryz.prog) x y b hb w;simp only[List.map_cons,List.map_nil];rw[this];rfl
theorem cC(xs:List Int)(hx:xs.length<2^60):aO Tryz.prog 240 [.ints .u64 false xs] (.ints .u64 false (bY xs)):=by
 refine enter (fn:=Tryz.f240) Tryz.func240 rfl rfl rfl rfl ?_;refine r0 rfl ?_;refine loop (fun n:Nat=>[(0,.ints .u64 false xs),(3,.i n)]) (fun n=>n<=xs.length/\bY (xs.take n)=bY xs) (fun n=>n) xs.length ⟨Nat.le_refl _,by rw[List.take_length]⟩ ⟨⟨rfl,rfl⟩,⟨rfl,rfl⟩,trivial⟩ ?_;rintro n⟨hn,hw⟩;refine r0 rfl ?_;refine aB 8 rfl (fun h=>?_) (fun h=>?_)
 ·have e:(((n:Nat):Int)-1).toNat=n-1:=by omega
  refine r1 rfl (by simp only[ae,and_true]<;>omega) ?_;rw[e];refine br rfl rfl rfl (fun h0=>?_) (fun h0=>?_)
  ·refine r1 rfl (by simp only[ae,and_true]<;>omega) ?_;refine again (n-1) (by omega) ⟨by omega,?_⟩ ⟨⟨rfl,rfl⟩,⟨rfl,au.of_eq (congrArg SV.i (by omega))⟩,trivial⟩;rw[<-hw];have:=rC (w:=xs.take n) (n:=n-1) (by rw[List.length_take];omega) (by
    rw[List.getD_eq_getElem?_getD,List.getElem?_take_of_lt (by omega),<-List.getD_eq_getElem?_getD];exact h0)
   rw[List.take_take,Nat.min_eq_left (by omega)]at this;exact this
  have en:(n:Int).toNat=n:=by omega
  refine r1 rfl (by simp only[ae,and_true]<;>omega) ?_;refine aF rfl ?_;rw[en];refine au.of_eq (congrArg (SV.ints .u64 false) ?_);rw[List.drop_zero,Nat.sub_zero,<-hw];refine(lp ?_).symm;intro hl;rw[List.getLast?_eq_getElem?,List.length_take,Nat.min_eq_left hn,List.getElem?_take_of_lt (by omega)]at hl;apply h0;rw[List.getD_eq_getElem?_getD,hl];rfl
 have:n=0:=by omega
 subst this;refine r1 rfl (by simp only[ae,and_true]<;>omega) ?_;refine aF rfl ?_;refine au.of_eq (congrArg (SV.ints .u64 false) ?_);rw[<-hw];simp[bY]
theorem l8(m n:Nat)(h1:(aa m).length<2^60)(h2:(aa n).length<2^60):aO Tryz.prog 223 [.ints .u64 false (aa m),.ints .u64 false (aa n)] (.i (l9 m n)):=by
 refine enter (fn:=Tryz.f223) Tryz.func223 rfl rfl rfl rfl ?_;refine r0 rfl ?_;refine br rfl rfl rfl (fun h=>?_) (fun h=>?_)
 ·refine r0 rfl ?_;refine br rfl rfl rfl (fun h3=>?_) (fun h3=>?_)
  ·refine r0 rfl ?_;refine aF rfl (au.of_eq (congrArg SV.i ?_));have:=bz (m:=m) (n:=n) (by omega);simp[l9,this]
  refine r0 rfl ?_;refine aF rfl (au.of_eq (congrArg SV.i ?_));have:=bz (m:=n) (n:=m) (by omega);simp only[l9];rw[if_neg (by omega),if_pos this]
 have hl:(aa m).length=(aa n).length:=by omega
 refine r1 rfl (by simp only[ae,and_true];omega) ?_;refine loop (fun i:Nat=>[(0,.ints .u64 false (aa m)),(1,.ints .u64 false (aa n)),(5,.i ((i:Int)-1))]) (fun i=>i<=(aa m).length/\(aa m).drop i=(aa n).drop i) (fun i=>i) (aa m).length ⟨by omega,?_⟩
  ⟨⟨rfl,rfl⟩,⟨rfl,rfl⟩,⟨rfl,rfl⟩,trivial⟩ ?_
 ·rw[List.drop_of_length_le (Nat.le_refl _),List.drop_of_length_le (by omega)]
 rintro i⟨hi,hd⟩;refine r0 rfl ?_;refine br rfl rfl rfl (fun h3=>?_) (fun h3=>?_)
 ·obtain⟨k,rfl⟩:∃k,i=k+1:=⟨i-1,by omega⟩;have et:(((k+1:Nat):Int)-1).toNat=k:=by omega
  refine k1 rfl (by kernel_rfl) (by simp only[ae,and_true];omega) ?_;refine br rfl rfl rfl (fun h4=>?_) (fun h4=>?_)
  ·rw[et]at h4;refine k1 rfl (by kernel_rfl) (by simp only[ae,and_true];omega) ?_;refine br rfl rfl rfl (fun h5=>?_) (fun h5=>?_)
   ·rw[et]at h5;refine r0 rfl ?_;refine aF rfl (au.of_eq (congrArg SV.i ?_));have:=j6 (by omega) hl hd h5;simp[l9,this]
   rw[et]at h5;refine r0 rfl ?_;refine aF rfl (au.of_eq (congrArg SV.i ?_));have:=j6 (by omega) hl.symm hd.symm (by omega);simp only[l9];rw[if_neg (by omega),if_pos this]
  rw[et]at h4;refine r1 rfl (by simp only[ae,and_true];omega) ?_;refine again k (Nat.lt_succ_self _) ⟨by omega,?_⟩ ⟨⟨rfl,rfl⟩,⟨rfl,rfl⟩,⟨rfl,au.of_eq (congrArg SV.i (by omega))⟩,trivial⟩;have e:(aa m).getD k 0=(aa n).getD k 0:=by omega
  rw[List.drop_eq_getElem_cons (show k<(aa m).length by omega),List.drop_eq_getElem_cons (show k<(aa n).length by omega),hd]
  congr 1
  simpa[List.getD_eq_getElem?_getD,List.getElem?_eq_getElem (show k<(aa m).length by omega),List.getElem?_eq_getElem (show k<(aa n).length by omega)]using e
 have:i=0:=by omega
 subst this;refine r0 rfl ?_;refine aF rfl (au.of_eq (congrArg SV.i ?_));have e:aa m=aa n:=by simpa using hd
 have:m=n:=by have:=congrArg val e;rw[aX,aX]at this;omega
 simp[l9,this]
end Go.Ai.b6
