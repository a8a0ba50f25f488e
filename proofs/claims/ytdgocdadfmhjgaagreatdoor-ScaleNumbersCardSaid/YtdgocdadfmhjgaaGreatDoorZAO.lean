/- Parts of the proof of ScaleNumbers (CheckBench, Exponent and Largest answer as the reference does), at every input, with no further conditions. -/
import Derived.Test.YtdgocdadfmhjgaaGreatDoorZAN
import Derived.Shelf.Strings.Builder1
set_option linter.unusedVariables false
set_option linter.unusedSimpArgs false
section
namespace Go.Ai.Pg
open Go.Proofs Go.Ai Go.Ai.b6
set_option maxRecDepth 100000
theorem ZV{n:Nat}{us:List dW}(h:∀u∈us,aG u.k=0)(s:Nat)(hs:s<n):ff ((Bh n us).getD s f0) ((HC n us).getD s 0)/\oH ((Bh n us).getD s f0) 600:=by
 have key:∀(us:List dW)(o:List Fr)(q:List Rat),(∀u∈us,aG u.k=0)->o.length=q.length->(∀s,s<o.length->ff (o.getD s f0) (q.getD s 0)/\oH (o.getD s f0) 600)->
  (us.foldl (fun(o:List Fr)u=>o.set u.out.toNat (eI (cq u.k))) o).length=o.length/\∀s,s<o.length->ff ((us.foldl (fun(o:List Fr)u=>o.set u.out.toNat (eI (cq u.k))) o).getD s f0) ((us.foldl (fun(o:List Rat)u=>o.set u.out.toNat (cq u.k)) q).getD s 0)/\oH ((us.foldl (fun(o:List Fr)u=>o.set u.out.toNat (eI (cq u.k))) o).getD s f0) 600:=by
  intro us
  induction us with
  |nil=>intro o q _ _ h;exact⟨rfl,h⟩
  |cons u us ih=>
   intro o q hk hl h;have:=ih (o.set u.out.toNat (eI (cq u.k))) (q.set u.out.toNat (cq u.k)) (fun v hv=>hk v (by simp[hv])) (by simpa using hl) (fun s hs=>by
    rw[List.length_set]at hs;have hq:s<q.length:=by omega
    rw[List.getD_eq_getElem?_getD,List.getD_eq_getElem?_getD,List.getElem?_set,List.getElem?_set];by_cases e:u.out.toNat=s
    ·subst e;rw[if_pos rfl,if_pos rfl,if_pos hs,if_pos hq];exact⟨cP _,dB (hk u (by simp))⟩
    rw[if_neg e,if_neg e];have:=h s hs;rwa[List.getD_eq_getElem?_getD,List.getD_eq_getElem?_getD]at this)
   rw[List.length_set]at this;exact this
 have h0:=key us (List.replicate n f0) (List.replicate n 0) h (by simp) (fun s hs=>by simp at hs;rw[bk (by simpa using hs),bk (by simpa using hs),List.getElem_replicate,List.getElem_replicate];exact⟨Ue,Gi Ud (by decide)⟩)
 exact h0.2 s (by simpa using hs)
open Classical in
theorem wQ(p:ru)(h:M3 p):aO Tryz.prog 83 [fo p] (.i (jY p)):=by
 have FO:=h.ah;have L9:=h.ints;refine enter (fn:=Tryz.f83) Tryz.func83 rfl rfl rfl rfl ?_;refine cg 3 [(1,.box true (fo p))] (1<=p.n/\p.n<=100/\p.ah.length<=96/\aL (iY p.n) p.ah=0) ?_ ?_
 ·have e1:p.n<1\/100<p.n->3=jY p:=fun a=>by unfold jY;rw[if_pos a]
  have e2:¬(p.n<1\/100<p.n)->96<p.ah.length->5=jY p:=fun a b=>by unfold jY;rw[if_neg a,if_pos b]
  have e3:¬(p.n<1\/100<p.n)->¬96<p.ah.length->aL (iY p.n) p.ah≠0->aL (iY p.n) p.ah=jY p:=fun a b c=>by unfold jY;rw[if_neg a,if_neg b,if_pos c]
  refine r0 rfl ?_;refine aB 20 rfl (fun g1=>?_) (fun g1=>?_)
  ·refine r0 rfl ?_;refine cd rfl rfl (lj true 3) rfl ?_;refine r0 rfl ?_;refine cd rfl rfl (lj _ 5) rfl ?_;refine r0 rfl ?_;refine cd rfl rfl (qB _ (by simp)) rfl ?_;refine k0 rfl (by kernel_rfl) ?_;refine br rfl rfl rfl (fun g2=>?_) (fun g2=>absurd (by simp[aL]) g2);refine r0 rfl ?_;refine aF rfl (au.of_eq (congrArg SV.i ?_));rw[<-e1 (.inl (by omega))];simp[aL]
  refine r0 rfl ?_;refine cd rfl rfl (lj _ 3) rfl ?_;refine r0 rfl ?_;refine cd rfl rfl (lj _ 5) rfl ?_;refine r0 rfl ?_;refine cd rfl rfl (qB _ (by simp)) rfl ?_;refine k0 rfl (by kernel_rfl) ?_;refine br rfl rfl rfl (fun g2=>?_) (fun g2=>?_)
  ·refine r0 rfl ?_;refine aF rfl (au.of_eq (congrArg SV.i ?_));by_cases a:100<p.n
   ·rw[<-e1 (.inr a)];simp[aL,a]
   have b:96<p.ah.length:=by
    apply Decidable.byContradiction;intro b;apply g2;have b':¬(96:Int)<p.ah.length:=by omega
    simp[aL,a,b']
   have b':(96:Int)<p.ah.length:=by omega
   rw[<-e2 (by omega) b];simp[aL,a,b']
  have g2:=Decidable.not_not.1 g2;have a:¬100<p.n:=fun a=>by simp[aL,a]at g2
  have b:¬96<p.ah.length:=fun b=>by
   have b':(96:Int)<p.ah.length:=by omega
   simp[aL,a,b']at g2
  have e4:=e3 (by omega) b;refine r0 rfl ?_;refine loop (fun i:Nat=>[(1,.box true (fo p)),(37,.cJ false 5 default gN p.ah),(38,.i p.ah.length),(39,.i i)]) (fun i=>i<=p.ah.length/\aL (iY p.n) p.ah=aL (iY p.n) (p.ah.drop i)) (fun i=>p.ah.length-i) 0 ⟨Nat.zero_le _,rfl⟩ ⟨⟨rfl,rfl⟩,⟨rfl,rfl⟩,⟨rfl,rfl⟩,⟨rfl,rfl⟩,trivial⟩ ?_;rintro i⟨hi,hf⟩;refine r0 rfl ?_;refine br rfl rfl rfl (fun h1=>?_) (fun h1=>?_)
  ·have cO:i<p.ah.length:=by omega
   have ei:(i:Int).toNat=i:=by omega
   have eg:p.ah.getD i default=p.ah[i]:=bk cO;rw[eJ _ cO]at hf;refine r1 rfl (by simp only[ae,and_true,ei];omega) ?_;rw[ei,eg];refine cl rfl rfl (GW p _ (h.unit _ (List.getElem_mem cO))) rfl ?_;refine r0 rfl ?_;refine br rfl rfl rfl (fun h2=>?_) (fun h2=>?_)
   ·rw[if_pos h2]at hf;refine r0 rfl ?_;refine aF rfl (au.of_eq (congrArg SV.i ?_));rw[<-e4 (by rw[hf];exact h2),hf]
   rw[if_neg h2]at hf;refine r1 rfl (by simp only[ae,and_true];omega) ?_;exact again (i+1) (by omega) ⟨by omega,hf⟩ ⟨⟨rfl,rfl⟩,⟨rfl,rfl⟩,⟨rfl,rfl⟩,⟨rfl,rfl⟩,trivial⟩
  refine r0 rfl ?_;refine aQ ⟨by omega,by omega,by omega,?_⟩ ⟨⟨rfl,rfl⟩,trivial⟩;rw[hf,List.drop_eq_nil_of_le (by omega)];rfl
 rintro⟨n1,n2,Yo,hz⟩;obtain⟨n,hn⟩:∃n:Nat,p.n=n:=⟨p.n.toNat,by omega⟩;have hv:∀u∈p.ah,o6 p.n u:=fun u hu=>xK (dj.1 hz u hu);have Il:∀u∈p.ah,1<=u.out/\u.out<n:=fun u hu=>by have:=(hv u hu).out;omega
 have htn:p.n.toNat=n:=by omega
 have hN:jY p=if 24<p.ints.length then 5
  else if∃k∈p.ints,k<0\/p.n<=k then 10
  else if 24<jg p.ah then 5
  else if¬zM n p.ah then 19
  else if(jv p.ah).length<p.ah.length then 18
  else if∃u∈p.ah,conflict n p.ah u then 30 else 0:=by
  unfold jY;rw[if_neg (by omega),if_neg (by omega),if_neg (by rw[hz];simp),htn]
 refine nV (r:=1) (p:=[]) rfl rfl trivial ?_;refine cg 2 [(1,.box false (fo p))] (¬24<p.ints.length/\(¬∃k∈p.ints,k<0\/p.n<=k)/\¬24<jg p.ah) ?_ ?_
 ·refine r0 rfl ?_;refine cl rfl rfl (GQ p p.ints (by omega)) rfl ?_;refine r0 rfl ?_;refine cd rfl rfl (lj _ 5) rfl ?_;refine r0 rfl ?_;refine cd rfl rfl (lj _ 10) rfl ?_;refine r0 rfl ?_;refine cd rfl rfl (SM p h) rfl ?_;refine r0 rfl ?_;refine cd rfl rfl (lj _ 5) rfl ?_;refine r0 rfl ?_;refine cd rfl rfl (qB _ (by simp)) rfl ?_;refine k0 rfl (by kernel_rfl) ?_;by_cases a:24<p.ints.length
  ·have a':(24:Int)<p.ints.length:=by omega
   rw[if_pos a]at hN;refine br rfl rfl rfl (fun g=>?_) (fun g=>absurd (by simp[aL,a']) g);refine r0 rfl ?_;refine aF rfl (au.of_eq (congrArg SV.i ?_));rw[hN];simp[aL,a']
  have a':¬(24:Int)<p.ints.length:=by omega
  rw[if_neg a]at hN;by_cases b:∃k∈p.ints,k<0\/p.n<=k
  ·rw[if_pos b]at hN;have he:aL id [if decide ((24:Int)<p.ints.length)=true then 5 else 0,if decide (∃k∈p.ints,k<0\/p.n<=k)=true then 10 else 0,if decide ((24:Int)<jg p.ah)=true then(5:Int)else 0]=10:=by
    rw[decide_eq_true b];simp[aL,a']
   refine br rfl rfl rfl (fun g=>?_) (fun g=>absurd (by rw[he];decide) g);refine r0 rfl ?_;refine aF rfl (au.of_eq (congrArg SV.i ?_));rw[hN];exact he
  rw[if_neg b]at hN;have he:aL id [if decide ((24:Int)<p.ints.length)=true then 5 else 0,if decide (∃k∈p.ints,k<0\/p.n<=k)=true then 10 else 0,if decide ((24:Int)<jg p.ah)=true then(5:Int)else 0]=if 24<jg p.ah then 5 else 0:=by
   rw[decide_eq_false b];by_cases c:24<jg p.ah
   ·have c':(24:Int)<jg p.ah:=by omega
    simp[aL,a',c,c']
   have c':¬(24:Int)<jg p.ah:=by omega
   simp[aL,a',c,c']
  refine br rfl rfl rfl (fun g=>?_) (fun g=>?_)
  ·refine r0 rfl ?_;refine aF rfl (au.of_eq (congrArg SV.i ?_));by_cases c:24<jg p.ah
   ·rw[if_pos c]at hN he;rw[hN];exact he
   rw[if_neg c]at he;exact absurd he g
  have g:=Decidable.not_not.1 g;refine r0 rfl ?_;refine aQ ⟨a,b,fun c=>?_⟩ ⟨⟨rfl,rfl⟩,trivial⟩;rw[if_pos c]at he;have g:aL id [if decide ((24:Int)<p.ints.length)=true then 5 else 0,if decide (∃k∈p.ints,k<0\/p.n<=k)=true then 10 else 0,if decide ((24:Int)<jg p.ah)=true then(5:Int)else 0]=0:=g;rw[he]at g;simp at g
 rintro⟨a1,a2,a3⟩;rw[if_neg a1,if_neg a2,if_neg a3]at hN;obtain⟨d1,d2⟩:=Mn (us:=p.ah) (n:=n) (by omega) Il;refine r0 rfl ?_;refine cl rfl rfl (Mp p h n hn (by omega) (by omega) Il) rfl ?_;refine r0 rfl ?_;refine o5 rfl rfl rfl (fun g=>?_) (fun g=>?_)
 ·have g:(DR n p.ah).2=false:=by simpa using g
  refine r0 rfl ?_;refine aF rfl (au.of_eq (congrArg SV.i ?_));rw[hN,if_pos (fun hd=>by rw[d1.2 hd]at g;simp at g)]
 have g:(DR n p.ah).2=true:=by simpa using g
 rw[if_neg (fun hd=>hd (d1.1 g))]at hN;rw[d2 g];refine r0 rfl ?_;refine cl rfl rfl (Rs p h n hn hv Yo) rfl ?_;refine r0 rfl ?_;refine o5 rfl rfl rfl (fun g2=>?_) (fun g2=>?_)
 ·have g2:¬p.ah.length<=(jv p.ah).length:=by simpa using g2
  refine r0 rfl ?_;refine aF rfl (au.of_eq (congrArg SV.i ?_));rw[hN,if_pos (by omega)]
 have g2:p.ah.length<=(jv p.ah).length:=by simpa using g2
 rw[if_neg (by omega)]at hN;refine r0 rfl ?_;refine cl rfl rfl (S9 p h n hn (by omega) (by omega) hv) rfl ?_;refine r0 rfl ?_;refine loop (fun i:Nat=>[(13,.cJ true 4 f0 eF (Bh n p.ah)),(88,.cJ false 5 default gN p.ah),(89,.i p.ah.length),(90,.i i)]) (fun i=>i<=p.ah.length/\¬∃u∈p.ah.take i,conflict n p.ah u) (fun i=>p.ah.length-i) 0 ⟨Nat.zero_le _,by simp⟩ ⟨⟨rfl,rfl⟩,⟨rfl,rfl⟩,⟨rfl,rfl⟩,⟨rfl,rfl⟩,trivial⟩ ?_;rintro i⟨hi,fS⟩;refine r0 rfl ?_;refine br rfl rfl rfl (fun h1=>?_) (fun h1=>?_)
 ·have cO:i<p.ah.length:=by omega
  have ei:(i:Int).toNat=i:=by omega
  have eg:p.ah.getD i default=p.ah[i]:=bk cO;have RW:=hv _ (List.getElem_mem cO);refine r1 rfl (by simp only[ae,and_true,ei];omega) ?_;rw[ei,eg];refine br rfl rfl rfl (fun h2=>?_) (fun h2=>?_)
  ·have h2:p.ah[i].kind=iA:=h2;have ht:=RW.table h2;have Sc:p.ah[i].aC.getD 0 default∈p.ah[i].aC:=by rw[bk (by omega)];exact List.getElem_mem _
   have V4:=RW.feed _ Sc;have F6:=G8 n p.ah;obtain⟨b1,b2⟩:=ZV (n:=n) (us:=p.ah) (fun u hu=>(hv u hu).k) (p.ah[i].aC.getD 0 default).sh.toNat (by omega);refine r1 rfl (by simp only[ae,and_true];omega) ?_;refine cd rfl rfl (mP V4.2.2.1) rfl ?_;refine r1 rfl (by simp only[ae,and_true,F6,Int.toNat_zero];omega) ?_;obtain⟨m1,m2⟩:=qx _ _ (cP (cq (p.ah[i].aC.getD 0 default).kt)) b1 (dB V4.2.2.1) b2;refine cd rfl rfl (zk _ _ (cP _) b1 (dB V4.2.2.1) b2 (by decide)) rfl ?_;refine k0 rfl (by kernel_rfl) ?_;refine cd rfl rfl (QS _ RW.mG (by omega) _ m1 m2 (by decide)) rfl ?_;refine r0 rfl ?_;refine cd rfl rfl (mP RW.k) rfl ?_;refine r0 rfl ?_;obtain⟨v1,v2⟩:=vJ m1 m2 (cs:=p.ah[i].mG) RW.mG;refine cd rfl rfl (Sx _ _ v1 (cP (cq p.ah[i].k)) v2 (dB RW.k) (by have:p.ah[i].mG.length*(600+600+601)<=13*(600+600+601):=Nat.mul_le_mul_right _ ht.2.2;omega)) rfl ?_;refine k0 rfl (by kernel_rfl) ?_;have gL:conflict n p.ah p.ah[i]↔¬OT (cq (p.ah[i].aC.getD 0 default).kt*(HC n p.ah).getD (p.ah[i].aC.getD 0 default).sh.toNat 0) (p.ah[i].mG.map cq)=cq p.ah[i].k:=⟨fun hc e=>hc.2 e.symm,fun cR=>⟨h2,fun e=>cR e.symm⟩⟩
   refine o5 rfl rfl rfl (fun g3=>?_) (fun g3=>?_)
   ·simp only[Bool.not_eq_true',decide_eq_false_iff_not]at g3;refine r0 rfl ?_;refine aF rfl (au.of_eq (congrArg SV.i ?_));rw[hN,if_pos ⟨_,List.getElem_mem cO,gL.2 g3⟩]
   simp only[Bool.not_eq_false',decide_eq_true_eq]at g3;refine r1 rfl (by simp only[ae,and_true];omega) ?_;exact again (i+1) (by omega) ⟨by omega,rb cO fS fun hc=>gL.1 hc g3⟩ ⟨⟨rfl,rfl⟩,⟨rfl,rfl⟩,⟨rfl,rfl⟩,⟨rfl,rfl⟩,trivial⟩
  have h2:¬p.ah[i].kind=iA:=h2;refine r1 rfl (by simp only[ae,and_true];omega) ?_;exact again (i+1) (by omega) ⟨by omega,rb cO fS fun hc=>h2 hc.1⟩ ⟨⟨rfl,rfl⟩,⟨rfl,rfl⟩,⟨rfl,rfl⟩,⟨rfl,rfl⟩,trivial⟩
 refine r0 rfl ?_;refine aF rfl (au.of_eq (congrArg SV.i ?_));rw[List.take_of_length_le (by omega)]at fS;rw[hN,if_neg fS]
end Go.Ai.Pg
end
namespace Go.Ai.Pg
open Go.Proofs Go.Ai Go.Ai.b6
set_option maxRecDepth 100000
theorem pZ(q:Rat):(0:Rat)<((q.den:Int):Rat):=by have:=q.den_pos;exact Rat.intCast_pos.2 (by omega)
theorem xw(q:Rat):q*((q.den:Int):Rat)=(q.num:Rat):=by
 have hd:=pZ q;have h:=Rat.num_divInt_den q;rw[Rat.divInt_eq_div]at h;have hn:((q.den:Int):Rat)≠0:=fun e=>by rw[e]at hd;exact absurd hd (by decide)
 have:(q.num:Rat)/((q.den:Int):Rat)*((q.den:Int):Rat)=q.num:=Rat.div_mul_cancel hn;rw[h]at this;exact this
theorem mX(k:Nat):(((2:Int)^k:Int):Rat)=(2:Rat)^k:=by
 induction k with
 |zero=>rfl
 |succ k ih=>rw[Int.pow_succ,Rat.pow_succ,<-ih,Rat.intCast_mul];rfl
theorem Lg(k:Nat)(q:Rat):(2:Rat)^k<=q↔(2:Int)^k*q.den<=q.num:=by
 have hd:=pZ q;have he:=xw q;rw[<-Rat.intCast_le_intCast,Rat.intCast_mul,mX];constructor
 ·intro h;have:=Rat.mul_le_mul_of_nonneg_right h (Rat.le_of_lt hd);rw[he]at this;exact this
 intro h;rw[<-he]at h;exact Rat.le_of_mul_le_mul_right h hd
theorem Lf(k:Nat)(q:Rat):((2:Rat)^k)⁻¹ <=q↔(q.den:Int)<=(2:Int)^k*q.num:=by
 have hd:=pZ q;have he:=xw q;have ht:=nf k;rw[<-Rat.intCast_le_intCast,Rat.intCast_mul,mX,<-he];generalize (2:Rat)^k=t at*;generalize ((q.den:Int):Rat)=d at*;have hi:t*t⁻¹ =1:=Rat.mul_inv_cancel t (fun e=>by rw[e]at ht;exact absurd ht (by decide));constructor
 ·intro h;have h1:=Rat.mul_le_mul_of_nonneg_left h (Rat.le_of_lt ht);rw[hi]at h1;have h2:=Rat.mul_le_mul_of_nonneg_right h1 (Rat.le_of_lt hd)
  grind
 intro h;have h1:(1:Rat)*d<=(t*q)*d:=by grind
 have h2:=Rat.le_of_mul_le_mul_right h1 hd;have h3:=Rat.mul_le_mul_of_nonneg_left h2 (Rat.le_of_lt (Rat.inv_pos.2 ht));have h4:t⁻¹ *(t*q)=q:=by rw[<-Rat.mul_assoc,Rat.mul_comm t⁻¹ t,hi,Rat.one_mul]
 rw[h4,Rat.mul_one]at h3;exact h3
theorem CU(n:Nat):dL (uE ⟨2,none⟩ n) (n+1):=by
 have h2:aV ⟨2,none⟩:=show(-9223372036854775808:Int)<=2/\(2:Int)<=9223372036854775807 by decide
 obtain⟨e,-⟩:=nc ⟨2,none⟩ n h2;unfold dL;rw[e];show(b6.aa ((2:Int)^n).natAbs).length<=n+1;have e2:((2:Int)^n).natAbs=2^n:=by rw[Int.natAbs_pow];rfl
 rw[e2];clear e e2
 induction n with
 |zero=>exact fj (by decide)
 |succ n ih=>rw[Nat.pow_succ];have h1:=b6.fQ (2^n) 2;have h3:(b6.aa 2).length<=1:=fj (by decide);omega
theorem Ws(f:Fr){q:Rat}(hf:ff f q){K:Nat}(lf:oH f K)(hK:K<2^20)(k:Int)(hk: -1048576<k/\k<1048576):aO Tryz.prog 114 [.i k,.box false (eF f)] (.u (decide (gj k<=q))):=by
 have h2:aV ⟨2,none⟩:=show(-9223372036854775808:Int)<=2/\(2:Int)<=9223372036854775807 by decide
 refine enter (fn:=Tryz.f114) Tryz.func114 rfl rfl rfl rfl ?_;refine r0 rfl ?_;have gw:dL ⟨2,none⟩ 1:=fj (m:=2) (by decide);refine br rfl rfl rfl (fun g=>?_) (fun g=>?_)
 ·obtain⟨j,rfl⟩:∃j:Nat,k=j:=⟨k.toNat,by omega⟩;obtain⟨p1,p2⟩:=nc ⟨2,none⟩ j h2;obtain⟨m1,m2⟩:=bP (uE ⟨2,none⟩ j) f.d p2 hf.d;have hz:=eD p2 hf.d (CU j) lf.2;refine r0 rfl ?_;refine cd rfl rfl (Fg 2) rfl ?_;refine r0 rfl ?_;refine cd rfl rfl (NV _ j h2 gw (by omega) (by omega)) rfl ?_;refine r0 rfl ?_;refine cd rfl rfl (oK _ f.d p2 hf.d (CU j) lf.2 (by omega)) rfl ?_;refine r0 rfl ?_;refine cd rfl rfl (PU _ f.n m2 hf.n hz (cM lf.1 (show K<=j+1+K by omega)) (by omega)) rfl ?_;refine k0 rfl (by kernel_rfl) ?_;refine aF rfl (au.of_eq (congrArg SV.u ?_));rw[decide_eq_decide];have e:gj (j:Int)=(2:Rat)^j:=by unfold gj;rw[if_neg (by omega)];rfl
  rw[e,Lg,m1,p1,hf.vd,hf.vn,show nv ⟨2,none⟩=2 from rfl];show Int.sign _<=0↔_;rw[Int.sign_nonpos_iff];constructor<;>intro h<;>omega
 obtain⟨j,rfl⟩:∃j:Nat,k= -(j:Int):=⟨(-k).toNat,by omega⟩;obtain⟨p1,p2⟩:=nc ⟨2,none⟩ j h2;obtain⟨m1,m2⟩:=bP (uE ⟨2,none⟩ j) f.n p2 hf.n;have hz:=eD p2 hf.n (CU j) lf.1;refine r0 rfl ?_;refine cd rfl rfl (Fg 2) rfl ?_;refine r1 rfl (by simp only[ae,and_true]<;>omega) ?_;refine WH (us:=[eN ⟨2,none⟩,.i j]) rfl rfl trivial ⟨⟨rfl,rfl,trivial⟩,congrArg SV.i (by omega),trivial⟩ (NV _ j h2 gw (by omega) (by omega)) rfl ?_;refine r0 rfl ?_;refine cd rfl rfl (oK _ f.n p2 hf.n (CU j) lf.1 (by omega)) rfl ?_;refine r0 rfl ?_;refine cd rfl rfl (PU f.d _ hf.d m2 (cM lf.2 (show K<=j+1+K by omega)) hz (by omega)) rfl ?_;refine k0 rfl (by kernel_rfl) ?_;refine aF rfl (au.of_eq (congrArg SV.u ?_));rw[decide_eq_decide];have e:gj (-(j:Int))=((2:Rat)^j)⁻¹ :=by unfold gj;rw[if_pos (by omega)];congr 2;omega
 rw[e,Lf,m1,p1,hf.vd,hf.vn,show nv ⟨2,none⟩=2 from rfl];show Int.sign _<=0↔_;rw[Int.sign_nonpos_iff];constructor<;>intro h<;>omega
theorem KG{q:Rat}(h:0<q.num):gj ((bl q.num.natAbs:Int)-bl q.den-1)<=q:=by
 have hd:=pZ q;have he:=xw q;have hN:2^(bl q.num.natAbs-1)<=q.num.natAbs:=tW (by omega);have hD:=G7 q.den;have hb:=vG (x:=q.num.natAbs) (by omega);have e1:gj ((bl q.num.natAbs:Int)-bl q.den-1)*(2:Rat)^bl q.den=(2:Rat)^(bl q.num.natAbs-1):=by rw[<-iL];unfold gj;rw[if_neg (by omega)];congr 1;omega
 have h1:((q.den:Int):Rat)<=(2:Rat)^bl q.den:=by
  rw[<-mX];refine Rat.intCast_le_intCast.2 ?_;have:(q.den:Int)<((2^bl q.den:Nat):Int):=by exact_mod_cast hD
  have e:((2^bl q.den:Nat):Int)=(2:Int)^bl q.den:=by norm_cast
  omega
 have h2:(2:Rat)^(bl q.num.natAbs-1)<=(q.num:Rat):=by
  rw[<-mX];refine Rat.intCast_le_intCast.2 ?_;have e:((2^(bl q.num.natAbs-1):Nat):Int)=(2:Int)^(bl q.num.natAbs-1):=by norm_cast
  omega
 have h3:=Rat.mul_le_mul_of_nonneg_left h1 (Rat.le_of_lt (qm ((bl q.num.natAbs:Int)-bl q.den-1)));rw[e1]at h3;have h4:=Rat.le_trans h3 h2;rw[<-he]at h4;exact Rat.le_of_mul_le_mul_right h4 hd
theorem KH{q:Rat}(h:0<q.num):¬gj ((bl q.num.natAbs:Int)-bl q.den+1)<=q:=by
 intro hle;have hd:=pZ q;have he:=xw q;have hD:2^(bl q.den-1)<=q.den:=tW (by have:=q.den_pos;omega);have hN:=G7 q.num.natAbs;have hb:=vG (x:=q.den) (by have:=q.den_pos;omega);have e1:gj ((bl q.num.natAbs:Int)-bl q.den+1)*(2:Rat)^(bl q.den-1)=(2:Rat)^bl q.num.natAbs:=by rw[<-iL];unfold gj;rw[if_neg (by omega)];congr 1;omega
 have h1:(2:Rat)^(bl q.den-1)<=((q.den:Int):Rat):=by
  rw[<-mX];refine Rat.intCast_le_intCast.2 ?_;have e:((2^(bl q.den-1):Nat):Int)=(2:Int)^(bl q.den-1):=by norm_cast
  omega
 have h2:(q.num:Rat)<(2:Rat)^bl q.num.natAbs:=by
  rw[<-mX];refine Rat.intCast_lt_intCast.2 ?_;have e:((2^bl q.num.natAbs:Nat):Int)=(2:Int)^bl q.num.natAbs:=by norm_cast
  omega
 have h3:=Rat.mul_le_mul_of_nonneg_left h1 (Rat.le_of_lt (qm ((bl q.num.natAbs:Int)-bl q.den+1)));rw[e1]at h3;have h4:=Rat.mul_le_mul_of_nonneg_right hle (Rat.le_of_lt hd);rw[he]at h4;exact absurd (Rat.le_trans h3 h4) (Rat.not_le.2 h2)
theorem KF{x K:Nat}(h:(b6.aa x).length<=K):bl x<=64*K:=by
 apply Decidable.byContradiction;intro hn;have h0:x≠0:=fun e=>by rw[e]at hn;simp[bl]at hn
 have h1:=tW h0;have h2:2^(64*K)<=2^(bl x-1):=Nat.pow_le_pow_right (by decide) (by omega);have h3:=b6.jO x;have h4:18446744073709551616^(b6.aa x).length<=18446744073709551616^K:=Nat.pow_le_pow_right (by decide) h;have h5:(18446744073709551616:Nat)^K=2^(64*K):=by rw[Nat.pow_mul]
 omega
theorem zB(f:Fr){q:Rat}(hf:ff f q){K:Nat}(lf:oH f K)(hK:K<2^12)(h0:0<q.num):aO Tryz.prog 58 [eF f] (.i (oQ q)):=by
 have kh:=KG h0;have uf:=KH h0;have b1:bl q.num.natAbs<2^19:=by have:=KF lf.1;rw[hf.vn]at this;omega
 have b2:bl q.den<2^19:=by have:=KF lf.2;rw[hf.vd,Int.natAbs_natCast]at this;omega
 obtain⟨e0,he0⟩:∃e0,e0=(bl q.num.natAbs:Int)-bl q.den:=⟨_,rfl⟩;have Hm:∀e:Int,e0-3<=e/\e<=e0+3->aO Tryz.prog 114 [.i e,.box false (eF f)] (.u (decide (gj e<=q))):=fun e h=>Ws f hf lf (by omega) e (by omega);have n1:=P4 f.n hf.n lf.1 (by omega);have n2:=P4 f.d hf.d lf.2 (by omega);rw[hf.vn]at n1;rw[hf.vd,Int.natAbs_natCast]at n2;refine enter (fn:=Tryz.f58) Tryz.func58 rfl rfl rfl rfl ?_;refine cg 2 [(1,.box true (eF f)),(3,.i e0)] True ?_ fun _=>?_
 ·refine r0 rfl ?_;refine cd rfl rfl n1 rfl ?_;refine r0 rfl ?_;refine cd rfl rfl n2 rfl ?_;refine k1 rfl (by kernel_rfl) (by simp only[ae,and_true]<;>omega) ?_;exact aQ trivial ⟨⟨rfl,rfl⟩,⟨rfl,au.of_eq (congrArg SV.i he0.symm)⟩,trivial⟩
 refine nV (r:=1) (p:=[]) rfl rfl trivial ?_;refine PJ 2 (fun e:Int=>[(3,.i e),(4,.fn (.func 114) [] [.box false (eF f)])]) (fun e=>gj e<=q/\e<=e0/\e0-1<=e) ?_ ?_
 ·refine r0 rfl ?_;refine loop (fun e:Int=>[(3,.i e),(4,.fn (.func 114) [] [.box false (eF f)])]) (fun e=>e<=e0/\e0-1<=e) (fun e=>(e-(e0-1)).toNat) e0 ⟨by omega,by omega⟩ ⟨⟨rfl,rfl⟩,⟨rfl,rfl⟩,trivial⟩ ?_;rintro e⟨g1,g2⟩;refine r0 rfl ?_;refine cl rfl rfl (Hm e (by omega)) rfl ?_;refine r0 rfl ?_;refine o5 rfl rfl rfl (fun g3=>?_) (fun g3=>?_)
  ·have g3:¬gj e<=q:=by simpa using g3
   have:e≠e0-1:=fun h=>by rw[h,he0]at g3;exact g3 kh
   refine r1 rfl (by simp only[ae,and_true]<;>omega) ?_;exact again (e-1) (by omega) ⟨by omega,by omega⟩ ⟨⟨rfl,rfl⟩,⟨rfl,rfl⟩,trivial⟩
  have g3:gj e<=q:=by simpa using g3
  refine r0 rfl ?_;exact meet e ⟨g3,g1,g2⟩ ⟨⟨rfl,rfl⟩,⟨rfl,rfl⟩,trivial⟩
 rintro e⟨g1,g2,g3⟩;refine r0 rfl ?_;refine loop (fun e:Int=>[(3,.i e),(4,.fn (.func 114) [] [.box false (eF f)])]) (fun e=>gj e<=q/\e<=e0/\e0-1<=e) (fun e=>(e0-e).toNat) e ⟨g1,g2,g3⟩ ⟨⟨rfl,rfl⟩,⟨rfl,rfl⟩,trivial⟩ ?_;rintro e⟨g1,g2,g3⟩;refine r1 rfl (by simp only[ae,and_true]<;>omega) ?_;refine cl rfl rfl (Hm (e+1) (by omega)) rfl ?_;refine r0 rfl ?_;refine o5 rfl rfl rfl (fun g4=>?_) (fun g4=>?_)
 ·have g4:gj (e+1)<=q:=by simpa using g4
  have:e≠e0:=fun h=>by rw[h,he0]at g4;exact uf g4
  refine r1 rfl (by simp only[ae,and_true]<;>omega) ?_;exact again (e+1) (by omega) ⟨g4,by omega,by omega⟩ ⟨⟨rfl,rfl⟩,⟨rfl,rfl⟩,trivial⟩
 have g4:¬gj (e+1)<=q:=by simpa using g4
 refine r0 rfl ?_;exact aF rfl (au.of_eq (congrArg SV.i (ij ⟨g1,g4⟩).symm))
end Go.Ai.Pg
section
namespace Go.Ai.Pg
open Go.Proofs Go.Ai Go.Ai.b6
set_option maxRecDepth 100000
theorem Pu(l:List Int)(hl:l.length<2^60):aO Tryz.prog 48 [.ints .i64 false l] (.i (aL id l)):=by
 refine enter (fn:=Tryz.f48) Tryz.func48 rfl rfl rfl rfl ?_;refine r0 rfl ?_;refine loop (fun i:Nat=>[(5,.ints .i64 false l),(6,.i l.length),(7,.i i)]) (fun i=>i<=l.length/\aL id l=aL id (l.drop i)) (fun i=>l.length-i) 0 ⟨Nat.zero_le _,rfl⟩ ⟨⟨rfl,rfl⟩,⟨rfl,rfl⟩,⟨rfl,rfl⟩,trivial⟩ ?_;rintro i⟨hi,hf⟩;refine r0 rfl ?_;refine br rfl rfl rfl (fun h=>?_) (fun h=>?_)
 ·have cO:i<l.length:=by omega
  have ei:(i:Int).toNat=i:=by omega
  rw[eJ _ cO]at hf;refine r1 rfl (by simp only[ae,and_true,ei];omega) ?_;rw[ei,bk cO];refine br rfl rfl rfl (fun h2=>?_) (fun h2=>?_)
  ·refine r0 rfl ?_;refine aF rfl (au.of_eq (congrArg SV.i ?_));rw[hf];exact(if_pos (show id l[i]≠0 from h2)).symm
  refine r1 rfl (by simp only[ae,and_true];omega) ?_;refine again (i+1) (by omega) ⟨by omega,?_⟩ ⟨⟨rfl,rfl⟩,⟨rfl,rfl⟩,⟨rfl,rfl⟩,trivial⟩;rw[hf];exact if_neg (show¬id l[i]≠0 from h2)
 refine r0 rfl ?_;refine aF rfl (au.of_eq (congrArg SV.i ?_));rw[hf,List.drop_eq_nil_of_le (by omega)];rfl
theorem QP(b:Bool)(e:Int):aO Tryz.prog 49 [.u b,.i e] (.i (if b then e else 0)):=by
 refine enter (fn:=Tryz.f49) Tryz.func49 rfl rfl rfl rfl ?_;refine r0 rfl ?_;refine o5 rfl rfl rfl (fun h=>?_) (fun h=>?_)
 ·refine r0 rfl ?_;refine aF rfl (au.of_eq (congrArg SV.i ?_));rw[h];rfl
 refine r0 rfl ?_;refine aF rfl (au.of_eq (congrArg SV.i ?_));rw[h];rfl
theorem uF(n lo hi:Int):aO Tryz.prog 54 [.i n,.i lo,.i hi] (.u (decide (n<lo\/hi<n))):=by
 refine enter (fn:=Tryz.f54) Tryz.func54 rfl rfl rfl rfl ?_;refine r0 rfl ?_;refine aB 10 rfl (fun h=>?_) (fun h=>?_)
 ·refine r0 rfl ?_;exact aF rfl (show true=decide (n<lo\/hi<n)from(decide_eq_true (.inl h)).symm)
 refine r0 rfl ?_;refine aF rfl (au.of_eq (congrArg SV.u ?_));rw[decide_eq_decide];exact⟨.inr,fun g=>g.resolve_left h⟩
theorem KI(b:ia):aO Tryz.prog 22 [eK b] (.i (oG b)):=by
 refine enter (fn:=Tryz.f22) Tryz.func22 rfl rfl rfl rfl ?_;refine r0 rfl ?_;refine loop (fun i:Nat=>[(13,.ints .i64 true (oF b)),(14,.i 4),(15,.i i)]) (fun i=>i<=4/\oG b=aL (fun x:Int=>if x<0\/40<x then 3 else 0) ((oF b).drop i)) (fun i=>4-i) 0 ⟨Nat.zero_le _,rfl⟩ ⟨⟨rfl,rfl⟩,⟨rfl,rfl⟩,⟨rfl,rfl⟩,trivial⟩ ?_;rintro i⟨hi,hf⟩;have hlen:(oF b).length=4:=rfl;refine r0 rfl ?_;refine br rfl rfl rfl (fun h=>?_) (fun h=>?_)
 ·have cO:i<(oF b).length:=by omega
  have ei:(i:Int).toNat=i:=by omega
  rw[eJ _ cO]at hf;refine r1 rfl (by simp only[ae,and_true,ei,hlen];omega) ?_;rw[ei,bk cO];refine cl rfl rfl (uF _ 0 40) rfl ?_;refine r0 rfl ?_;refine o5 rfl rfl rfl (fun h2=>?_) (fun h2=>?_)
  ·have h2:(oF b)[i]<0\/40<(oF b)[i]:=by simpa using h2
   refine r0 rfl ?_;refine aF rfl (au.of_eq (congrArg SV.i ?_));rw[hf,if_pos h2];rfl
  have h2:¬((oF b)[i]<0\/40<(oF b)[i]):=by simpa using h2
  refine r1 rfl (by simp only[ae,and_true];omega) ?_;refine again (i+1) (by omega) ⟨by omega,?_⟩ ⟨⟨rfl,rfl⟩,⟨rfl,rfl⟩,⟨rfl,rfl⟩,trivial⟩;rw[hf,if_neg h2];rfl
 refine r0 rfl ?_;refine aF rfl (au.of_eq (congrArg SV.i ?_));rw[hf,List.drop_eq_nil_of_le (by omega)];rfl
theorem Q4(rs:List iv)(hx:∀s∈rs,dq s.lo/\dq s.hi)(hl:rs.length<2^60):aO Tryz.prog 171 [.cJ false 2 default jB rs] (.i (aL fi rs)):=by
 refine enter (fn:=Tryz.f171) Tryz.func171 rfl rfl rfl rfl ?_;refine r0 rfl ?_;refine loop (fun i:Nat=>[(6,.cJ false 2 default jB rs),(7,.i rs.length),(8,.i i)]) (fun i=>i<=rs.length/\aL fi rs=aL fi (rs.drop i)) (fun i=>rs.length-i) 0 ⟨Nat.zero_le _,rfl⟩ ⟨⟨rfl,rfl⟩,⟨rfl,rfl⟩,⟨rfl,rfl⟩,trivial⟩ ?_;rintro i⟨hi,hf⟩;refine r0 rfl ?_;refine br rfl rfl rfl (fun h=>?_) (fun h=>?_)
 ·have cO:i<rs.length:=by omega
  have ei:(i:Int).toNat=i:=by omega
  have eg:rs.getD i default=rs[i]:=bk cO;rw[eJ _ cO]at hf;refine r1 rfl (by simp only[ae,and_true,ei];omega) ?_;rw[ei,eg];have:=hx _ (List.getElem_mem cO);refine cl rfl rfl (Nn rs[i] this.1 this.2) rfl ?_;refine r0 rfl ?_;refine br rfl rfl rfl (fun h2=>?_) (fun h2=>?_)
  ·refine r0 rfl ?_;refine aF rfl (au.of_eq (congrArg SV.i ?_));rw[hf,if_pos h2]
  refine r1 rfl (by simp only[ae,and_true];omega) ?_;refine again (i+1) (by omega) ⟨by omega,?_⟩ ⟨⟨rfl,rfl⟩,⟨rfl,rfl⟩,⟨rfl,rfl⟩,trivial⟩;rw[hf,if_neg h2]
 refine r0 rfl ?_;refine aF rfl (au.of_eq (congrArg SV.i ?_));rw[hf,List.drop_eq_nil_of_le (by omega)];rfl
open Classical in
noncomputable def lG(p:ru)(rs:List iv):Int:=if jY p≠0 then jY p else mr p.n rs
theorem Bd(p:ru)(h:M3 p)(rs:List iv)(hx:∀s∈rs,dq s.lo/\dq s.hi)(hl:rs.length<2^40):aO Tryz.prog 91 [fo p,.cJ false 2 default jB rs] (.i (lG p rs)):=by
 refine enter (fn:=Tryz.f91) Tryz.func91 rfl rfl rfl rfl ?_;refine r0 rfl ?_;refine cl rfl rfl (wQ p h) rfl ?_;refine r0 rfl ?_;refine br rfl rfl rfl (fun g=>?_) (fun g=>?_)
 ·refine r0 rfl ?_;exact aF rfl (au.of_eq (congrArg SV.i (by unfold lG;rw[if_pos g])))
 refine r0 rfl ?_;refine cl rfl rfl (QP _ 2) rfl ?_;refine r0 rfl ?_;refine cl rfl rfl (Q4 rs hx (by omega)) rfl ?_;refine r0 rfl ?_;refine cl rfl rfl (Pu _ (by simp)) rfl ?_;refine r0 rfl ?_;refine aF rfl (au.of_eq (congrArg SV.i ?_));unfold lG mr;rw[if_neg g];by_cases e:(rs.length:Int)≠p.n
 ·rw[if_pos e];have:decide ((rs.length:Int)≠p.n)=true:=decide_eq_true e;simp[aL,e]
 rw[if_neg e];have e:(rs.length:Int)=p.n:=Decidable.not_not.1 e;by_cases g2:aL fi rs≠0
 ·simp[aL,e,g2]
 have g2:=Decidable.not_not.1 g2;simp[aL,e,g2]
end Go.Ai.Pg
end
namespace Go.Ai.Pg
open Go.Proofs Go.Ai Go.Ai.b6
set_option maxRecDepth 100000
theorem tZ(q:Rat):kL q=if q<0 then -q else q:=by
 unfold kL;by_cases h:q<0
 ·rw[if_pos h,if_pos (Int.not_le.1 fun g=>absurd (Rat.num_nonneg.1 g) (Rat.not_le.2 h))]
 rw[if_neg h,if_neg (Int.not_lt.2 (Rat.num_nonneg.2 (Rat.not_lt.1 h)))]
theorem Ks(p q:Rat):0<=Ac p q↔q<=p:=by unfold Ac;rw[Int.sign_nonneg_iff,Rat.num_nonneg];constructor<;>intro h<;>grind
theorem RI(p q:Rat):w7 p q=if q<=p then p else q:=by
 unfold w7;by_cases h:q<=p
 ·rw[if_pos h,if_pos ((Ks p q).2 h)]
 rw[if_neg h,if_neg (fun g=>h ((Ks p q).1 g))]
def XD(s:iv):Prop:=Z1 s/\cq s.lo<=cq s.hi
theorem xY{s:iv}(h:fi s=0):XD s:=by have hv:=vX h;refine⟨hv,?_⟩;unfold fi at h;rw[if_neg (by rw[hv.1];simp),if_neg (by rw[hv.2];simp)]at h;exact qF.1 (Int.not_lt.1 fun g=>by rw[if_pos g]at h;simp at h)
theorem Vc{s:iv}(h:XD s):BV s=if cq s.hi< -cq s.lo then -cq s.lo else cq s.hi:=by
 have hl:=h.2;unfold BV;rw[RI,tZ,tZ];generalize cq s.lo=a at*;generalize cq s.hi=b at*
 grind
noncomputable def TD(s:iv):Fr:=if cq s.hi< -cq s.lo then⟨gE (eI (cq s.lo)).n,(eI (cq s.lo)).d⟩else eI (cq s.hi)
theorem C8{f:Fr}{q:Rat}(h:ff f q){K:Nat}(hs:oH f K):oH ⟨gE f.n,f.d⟩ K:=⟨my h.n hs.1,hs.2⟩
theorem yL{s:iv}(h:XD s):ff (TD s) (BV s)/\oH (TD s) 600:=by
 rw[Vc h];unfold TD;obtain⟨-,h2⟩:=DE (eI (cq s.lo)) (cP _) (dB h.1.1).1 (by decide);by_cases g:cq s.hi< -cq s.lo
 ·rw[if_pos g,if_pos g];exact⟨h2,C8 (cP _) (dB h.1.1)⟩
 rw[if_neg g,if_neg g];exact⟨cP _,dB h.1.2⟩
theorem nu(s:iv)(h:XD s):aO Tryz.prog 60 [jB s] (eF (TD s)):=by
 obtain⟨n1,n2⟩:=DE (eI (cq s.lo)) (cP _) (dB h.1.1).1 (by decide);refine enter (fn:=Tryz.f60) Tryz.func60 rfl rfl rfl rfl ?_;refine r0 rfl ?_;refine cd rfl rfl (mP h.1.1) rfl ?_;refine r0 rfl ?_;refine cd rfl rfl n1 rfl ?_;refine r0 rfl ?_;refine cd rfl rfl (mP h.1.2) rfl ?_;refine k0 rfl (by kernel_rfl) ?_;refine cl rfl rfl (ID _ _ n2 (cP _) (C8 (cP _) (dB h.1.1)) (dB h.1.2) (by decide)) rfl ?_;have hs:((-cq s.lo).num*(cq s.hi).den-(cq s.hi).num*(-cq s.lo).den).sign>0↔cq s.hi< -cq s.lo:=by rw[Rat.lt_iff,gt_iff_lt,Int.sign_pos_iff];omega
 refine r0 rfl ?_;refine br rfl rfl rfl (fun g=>?_) (fun g=>?_)
 ·have g:=hs.1 g;refine r0 rfl ?_;refine aF rfl (au.of_eq ?_);unfold TD;rw[if_pos g];rfl
 have g:=fun h=>g (hs.2 h);refine r0 rfl ?_;refine aF rfl (au.of_eq ?_);unfold TD;rw[if_neg g];rfl
theorem Ke{q:Rat}(h:0<q.num):∃e,mT q e/\(bl q.num.natAbs:Int)-bl q.den-1<=e/\e<=(bl q.num.natAbs:Int)-bl q.den:=by
 have kh:=KG h;have uf:=KH h;generalize (bl q.num.natAbs:Int)-bl q.den=e0 at*;by_cases g:gj e0<=q
 ·exact⟨e0,⟨g,uf⟩,by omega,by omega⟩
 refine⟨e0-1,⟨kh,?_⟩,by omega,by omega⟩;rw[show e0-1+1=e0 by omega];exact g
theorem SC(f:Fr){q:Rat}(hf:ff f q){K:Nat}(lf:oH f K)(hK:K<2^12)(h:0<q.num): -524289<=oQ q/\oQ q<=524289:=by obtain⟨e,h1,h2,h3⟩:=Ke h;rw[ij h1];have b1:=KF lf.1;rw[hf.vn]at b1;have b2:=KF lf.2;rw[hf.vd,Int.natAbs_natCast]at b2;omega
theorem IE(m:Int){x:Rat}(h:0<x.num):oQ (gj m*x)=m+oQ x:=by
 obtain⟨e,h1,-,-⟩:=Ke h;rw[ij h1];have add:∀k:Int,gj (m+k)=gj m*gj k:=by
  intro k;rcases Int.le_total 0 k with g|g
  ·obtain⟨j,rfl⟩:∃j:Nat,k=j:=⟨k.toNat,by omega⟩;rw[iL];have e:gj (j:Int)=(2:Rat)^j:=by unfold gj;rw[if_neg (by omega)];rfl
   rw[e]
  obtain⟨j,rfl⟩:∃j:Nat,k= -(j:Int):=⟨(-k).toNat,by omega⟩;have h2:=iL (m+ -(j:Int)) j;have h3:=iL (-(j:Int)) j;rw[show m+ -(j:Int)+j=m by omega]at h2;rw[show -(j:Int)+j=0 by omega]at h3;have h4:gj 0=1:=rfl;rw[h4]at h3;have h5:=nf j;generalize (2:Rat)^j=t at*;rw[h2,Rat.mul_assoc,Rat.mul_comm t,<-h3,Rat.mul_one]
 have hp:=qm m;refine ij ⟨?_,?_⟩
 ·rw[add];exact Rat.mul_le_mul_of_nonneg_left h1.1 (Rat.le_of_lt hp)
 rw[show m+e+1=m+(e+1) by omega,add];intro hle;refine h1.2 ?_;rw[Rat.mul_comm (gj m),Rat.mul_comm (gj m)]at hle;exact Rat.le_of_mul_le_mul_right hle hp
theorem JG(f:Fr){a:Rat}(hf:ff f a){K:Nat}(lf:oH f K)(hK:K<2^12)(ha:0<=a)(jj:Int)(hm: -1000000<=jj/\jj<=1000000):aO Tryz.prog 92 [eF f,.i jj] (.i (kq a jj)):=by
 refine enter (fn:=Tryz.f92) Tryz.func92 rfl rfl rfl rfl ?_;refine r0 rfl ?_;refine cl rfl rfl (Dx f hf) rfl ?_;refine r0 rfl ?_;refine br rfl rfl rfl (fun g=>?_) (fun g=>?_)
 ·have g:a.num=0:=by rwa[Int.sign_eq_zero_iff_zero]at g
  refine r0 rfl ?_;refine aF rfl (au.of_eq (congrArg SV.i ?_));unfold kq;rw[if_pos (Rat.num_eq_zero.1 g)]
 have g:¬a.num=0:=by rwa[Int.sign_eq_zero_iff_zero]at g
 have g0:a≠0:=fun h=>g (by rw[h];rfl);obtain⟨i1,i2⟩:=LU f hf g0 lf;have pJ:0<a⁻¹ :=Rat.inv_pos.2 (by grind);have uW:0<(a⁻¹).num:=by
  have h1:=Rat.num_nonneg.2 (Rat.le_of_lt pJ);rcases Int.lt_or_eq_of_le h1 with h2|h2
  ·exact h2
  have:=Rat.num_eq_zero.1 h2.symm;rw[this]at pJ;exact absurd pJ (by decide)
 have hbd:=SC _ i1 i2 hK uW;refine r0 rfl ?_;refine cl rfl rfl (Wq f hf g0 lf (by omega)) rfl ?_;refine r0 rfl ?_;refine cl rfl rfl (zB _ i1 i2 hK uW) rfl ?_;refine r1 rfl (by simp only[ae,and_true]<;>omega) ?_;refine aF rfl (au.of_eq (congrArg SV.i ?_));unfold kq;rw[if_neg g0,Rat.div_def,IE jj uW];rfl
theorem Wo(u:Nat)(hu:u<18446744073709551616):aO Tryz.prog 246 [.n .u64 u,.i 10] (.s (decl u 1)):=by intro w S vs hG hS hc;simp only[an,Cells]at hc;obtain⟨y,l',F1,F2,rfl,hF,_,hr,y2,l2,F3,F4,rfl,Ua,_,xA,rfl,rfl⟩:=hc;simp only[SV.den,Rel]at hr xA;obtain⟨_,rfl,rfl⟩:=hr;obtain⟨_,rfl,rfl⟩:=xA;refine qg.nj (fn:=Tryz.f246) Tryz.func246 rfl rfl ?_;refine(Tryz.ac4 u hu w hG).mono ?_;rintro e w'⟨rfl,k,os,rfl⟩;have hb:=An w k os;exact⟨_,rfl,S,[],hb,fun _ h=>h,fun _ h=>.inl h,fun b dr=>Nat.lt_of_lt_of_le (hS b dr) hb.size,by simp[SV.den,Rel,scalar,bs,decDigits_eq],List.nodup_nil,by simp⟩
theorem ZD(u:Nat)(hu:u<18446744073709551616):aO Tryz.prog 203 [.n .u64 u,.i 10] (.s (decl u 1)):=by refine enter (fn:=Tryz.f203) Tryz.func203 rfl rfl rfl rfl ?_;refine r0 rfl ?_;refine cl rfl rfl (Wo u hu) rfl ?_;refine r0 rfl ?_;exact aF rfl (au.refl _)
theorem Rr(c:UInt8)(t:bw)(hl:t.length<2^40):aO Tryz.prog 235 [.s (c::t),.s [48]] (.u (decide (c=48))):=by
 refine enter (fn:=Tryz.f235) Tryz.func235 rfl rfl rfl rfl ?_;refine r0 rfl ?_;refine aB 10 rfl (fun h=>?_) (fun h=>absurd (show((1:Nat):Int)<=((t.length+1:Nat):Int) by omega) h);refine r1 rfl (by simp only[ae,and_true,List.length_cons,List.length_nil]<;>omega) ?_;refine aF rfl (au.of_eq (congrArg SV.u ?_));have e:(List.drop 0 (List.take (([48]:bw).length:Int).toNat (c::t)))=[c]:=by simp
 rw[e,decide_eq_decide];simp
theorem HP(c:UInt8)(t:bw)(hl:t.length<2^40):aO Tryz.prog 191 [.s (c::t),.s [48]] (.u (decide (c=48))):=by refine enter (fn:=Tryz.f191) Tryz.func191 rfl rfl rfl rfl ?_;refine r0 rfl ?_;refine cl rfl rfl (Rr c t hl) rfl ?_;refine r0 rfl ?_;exact aF rfl (au.refl _)
theorem UU(n:Nat)(hn:n<=64):aO Tryz.prog 204 [.s [48],.i n] (.s (List.replicate n 48)):=by
 refine enter (fn:=Tryz.f204) Tryz.func204 rfl rfl rfl rfl ?_;refine r0 rfl ?_;refine br rfl rfl rfl (fun h=>?_) (fun h=>?_)
 ·have:n=0:=by omega
  subst this;refine r0 rfl ?_;exact aF rfl (au.refl _)
 refine r0 rfl ?_;refine br rfl rfl rfl (fun h1=>?_) (fun h1=>?_)
 ·have:n=1:=by omega
  subst this;refine r0 rfl ?_;exact aF rfl (au.refl _)
 refine r0 rfl ?_;refine br rfl rfl rfl (fun h2=>absurd h2 (by omega)) (fun _=>?_);refine kw [23,25] rfl rfl trivial ?_;refine Ej (us:=[.n .u64 (1:Nat),.n .u64 n]) rfl rfl trivial ⟨rfl,congrArg (SV.n .u64) (wr (by omega)),trivial⟩ (yq 1 n (by decide) (by omega)) rfl ?_;rw[Nat.one_mul,Nat.div_eq_of_lt (by omega:n<18446744073709551616),Nat.mod_eq_of_lt (by omega:n<18446744073709551616)];refine r0 rfl ?_;refine aB 31 rfl (fun h=>absurd h (by decide)) (fun _=>?_);refine r0 rfl ?_;refine br rfl rfl rfl (fun h=>absurd h (by omega)) (fun _=>?_);refine r1 rfl (by simp only[ae,and_true]<;>omega) ?_;refine br rfl rfl rfl (fun h=>absurd h (by decide)) (fun _=>?_);refine r1 rfl (by simp only[ae,and_true]<;>decide) ?_;refine br rfl rfl rfl (fun h=>absurd h (by decide)) (fun _=>?_);refine r0 rfl ?_;refine br rfl rfl rfl (fun h=>absurd h (by decide)) (fun _=>?_);refine r0 rfl ?_;refine br rfl rfl rfl (fun _=>?_) (fun h=>absurd rfl h);refine r0 rfl ?_;refine br rfl rfl rfl (fun _=>?_) (fun h=>absurd rfl h);refine r0 rfl ?_;refine aB 52 rfl (fun h=>?_) (fun h=>absurd (show(n:Int)<=128 by omega) h);refine r0 rfl ?_;refine cl rfl rfl (HP _ _ (by decide)) rfl ?_;refine r0 rfl ?_;refine br rfl rfl rfl (fun h=>absurd h (by decide)) (fun _=>?_);refine r0 rfl ?_;refine aB 61 rfl (fun h=>?_) (fun h=>absurd (show(n:Int)<=128 by omega) h);refine r0 rfl ?_;refine cl rfl rfl (HP _ _ (by decide)) rfl ?_;refine r0 rfl ?_;refine br rfl rfl rfl (fun h=>absurd h (by decide)) (fun _=>?_);refine r0 rfl ?_;refine aB 70 rfl (fun h=>?_) (fun h=>absurd (show(n:Int)<=64 by omega) h);refine r0 rfl ?_;refine cl rfl rfl (HP _ _ (by decide)) rfl ?_;refine r0 rfl ?_;refine br rfl rfl rfl (fun _=>?_) (fun h=>absurd rfl h);refine r1 rfl (by simp only[ae,and_true]<;>simp<;>omega) ?_;refine aF rfl (au.of_eq (congrArg SV.s ?_));show List.drop 0 (List.take (n:Int).toNat (List.replicate 64 48))=_;rw[List.drop_zero,Int.toNat_natCast,List.take_replicate,Nat.min_eq_left hn]
end Go.Ai.Pg
section
namespace Go.Lib
open Go.Proofs
variable{P:Program}{w:World}
theorem CN(t u ty e:TypeId)(i:TypeInfo)(ht:P.underlying t=some (.slice e))(hu:P.underlying u=some .string)(hi:P.info? e=some i)(hz:i.zero=some (.int .u8 0))
 (gb:i.size=1)(Ze:i.bytes=1)
 (v:Value)(n:Nat)(xs:List Value)(dz:w.ownsRow 0 e 1 v n xs)(s:ByteArray)
 (Zw:n+s.size<=maxLen)(mM:n+s.size<=140737488355328):
 ∃v' w',(Builtin.append_ #[t,u] ty #[v,.string s]).run P w=.ok v' w'/\w'.ownsRow 0 e 1 v' (n+s.size) (xs++strCells s)/\w.grownBy w' v.ownBlock/\(∀g,v'.ownBlock=some g->v.ownBlock=some g\/w.heap.size<=g):=by
 obtain⟨v',w',h1,h2,h3,h4⟩:=run_append_own_string (P:=P) w 0 t u ty e i ht hu hi hz gb Ze v n xs dz s Zw mM (Nat.zero_le _);refine⟨v',w',h1,h2,h3,fun g' J1=>?_⟩;have Yk:xs.length=n:=by simpa using dz.1
 rcases dz.2 with⟨rfl,rfl⟩|⟨g,cap,cur,rfl,hbg,hg,hnc,Xq,pL,JS⟩
 ·have YB:w.ownsRow w.heap.size e 1 (.slice none 0 0) 0 xs:=⟨dz.1,.inl ⟨rfl,rfl⟩⟩;obtain⟨v2,w2,k1,k2,-,-⟩:=run_append_own_string (P:=P) w w.heap.size t u ty e i ht hu hi hz gb Ze _ 0 xs YB s Zw mM (Nat.le_refl _);rw[h1]at k1;simp only[Result.ok.injEq]at k1;obtain⟨rfl,rfl⟩:=k1;right;rcases k2.2 with⟨rfl,-⟩|⟨g2,ZP,ahO,rfl,Ds,-⟩
  ·simp[Value.ownBlock]at J1
  simp only[Value.ownBlock,Option.some.injEq]at J1;omega
 by_cases yY:n+s.size<=cap
 ·have agO:cur.size=cap:=by simpa using pL
  have hr:=run_append_room_string (P:=P) (w:=w) t u ty e i ht hu hi gb g n cap cur hg s yY (by omega);rw[h1]at hr;simp only[Result.ok.injEq]at hr;obtain⟨rfl,-⟩:=hr;left;simpa[Value.ownBlock]using J1
 have holds:∀j u,xs[j]?=some u->w.cell? ((⟨g,0,none⟩:Addr).add j)=some u:=dz.cells (g:=g) rfl;have hr:=run_append_grow_string (P:=P) (w:=w) t u ty e i (.int .u8 0) ht hu hi hz ⟨g,0,none⟩ n cap xs (by rw[gb];simpa using Yk) holds s (by omega) (by simp only[maxLen]at Zw;omega) (by rw[Ze];exact growslice_fits (by omega) (by omega));rw[h1]at hr;simp only[Result.ok.injEq]at hr;obtain⟨rfl,-⟩:=hr;right;simp only[Value.ownBlock,Option.some.injEq]at J1;omega
theorem wY{ops:Array Oper}{rest:List Oper}{o:Oper}{a:Act}{Q:Exit->Act->World->Prop}(Xm:o.guard=none)(sl x:Operand)(t u:TypeId)
 (ho:o.op=.call {callee:=.builtin .append,args:=#[sl,x],argTypes:=#[t,u]})
 (e:TypeId)(i:TypeInfo)(ht:P.underlying t=some (.slice e))(hu:P.underlying u=some .string)(hi:P.info? e=some i)(hz:i.zero=some (.int .u8 0))
 (gb:i.size=1)(Ze:i.bytes=1)
 (v:Value)(n:Nat)(xs:List Value)(hs:a.eval sl=v)(dz:w.ownsRow 0 e 1 v n xs)(s:ByteArray)(hx:a.eval x=.string s)
 (Zw:n+s.size<=maxLen)(mM:n+s.size<=140737488355328)
 (h:∀v' w',w'.ownsRow 0 e 1 v' (n+s.size) (xs++strCells s)->w.grownBy w' v.ownBlock->(∀g,v'.ownBlock=some g->v.ownBlock=some g\/w.heap.size<=g)->wpList P ops Q rest (a.put o.dst v') w'):wpList P ops Q (o::rest) a w:=by
 refine wpList_plain Xm fun K hK=>?_;obtain⟨v',w',hr,h2,h3,h4⟩:=CN (P:=P) (w:=w) t u o.type e i ht hu hi hz gb Ze v n xs dz s Zw mM;unfold Oper.wp execOp;simp only[ho,resolve,invoke,builtin,Sem.run_bind,Sem.run_pure,Result.andThen_ok,List.map_toArray,List.map_cons,List.map_nil,hs,hx,hr];exact hK _ _ (h v' w' h2 h3 h4)
end Go.Lib
end
namespace Go.Proofs
open Go.Shelf Go.RowKit Go.Sort Go.Lib
theorem Tryz.To:(Tryz.prog.info? 279).map (·.size)=some 2:=by kernel_rfl
theorem Tryz.Yc:liesAt Tryz.prog Tryz.prog.depth 279 (2/Tryz.prog.cellsOf 279) 0 279 1=true:=by kernel_rfl
set_option maxHeartbeats 1000000 in
set_option maxRecDepth 100000 in
theorem Tryz.SX(b:Nat)(w:World)(h0:w.cell? ⟨b,0,none⟩=some (.pointer (some ⟨b,0,none⟩))):
 Calls Tryz.prog 249 #[.pointer (some ⟨b,0,none⟩)] w fun e w'=>e=.returned (.tuple #[])/\w'=w:=by
 obtain⟨j,hj,_⟩:=Option.map_eq_some_iff.1 Tryz.To
 go_enter Tryz.func249,Tryz.ntmps249
 go_wp2
 rw[Lib.run_neq_ptr_same w _ Tryz.underlying276 hj]
 go_wp2
 go_end0
 exact⟨rfl,rfl⟩
set_option maxHeartbeats 1000000 in
set_option maxRecDepth 100000 in
theorem Tryz.P1(b:Nat)(w:World)(h0:w.cell? ⟨b,0,none⟩=some (.pointer none))(Ed:w.shape? b=some (279,2))(hfz:w.frozen? ⟨b,0,none⟩=false):
 Calls Tryz.prog 249 #[.pointer (some ⟨b,0,none⟩)] w fun e w'=>e=.returned (.tuple #[])/\w'=w.setCell ⟨b,0,none⟩ (.pointer (some ⟨b,0,none⟩)):=by
 obtain⟨j,hj,hjs⟩:=Option.map_eq_some_iff.1 Tryz.To
 go_enter Tryz.func249,Tryz.ntmps249
 go_wp2
 rw[Lib.run_to_unsafe w ⟨b,0,none⟩ Tryz.underlying276 Tryz.underlying333 hj (by rw[hjs];decide) Ed (Nat.zero_lt_succ 1)];simp only[Result.andThen];rw[Oper.upon_value]
 go_wp2
 rw[run_callFunc_extern Tryz.func276 (by kernel_rfl) (by kernel_rfl) (by kernel_rfl) (e:=Extern.AbiNoEscape.same) (by kernel_rfl)];rw[Lib.run_noEscape];simp only[Result.andThen];rw[Oper.upon_value]
 go_wp2
 rw[Lib.run_from_unsafe w ⟨b,0,none⟩ Tryz.underlying333 Tryz.underlying276 hj Ed Tryz.Yc];simp only[Result.andThen];rw[Oper.upon_value]
 go_wp2
 go_end0
 exact⟨rfl,rfl⟩
theorem Tryz.cc(b:Nat)(p v:Value)(bs:List Value)(w:World)(hp:p=.pointer none\/p=.pointer (some ⟨b,0,none⟩))(xC:w.heap[b]?=some (.cells #[p,v] 279 (0,0)))(dz:w.ownsRow 0 5 1 v bs.length bs)(cR:v.ownBlock≠some b):
 Calls Tryz.prog 249 #[.pointer (some ⟨b,0,none⟩)] w fun e w'=>e=.returned (.tuple #[])/\w'.heap[b]?=some (.cells #[.pointer (some ⟨b,0,none⟩),v] 279 (0,0))/\w'.ownsRow 0 5 1 v bs.length bs/\w.grownBy w' (some b):=by
 rcases hp with rfl|rfl
 ·have hB:Lib.BuilderAt 279 5 0 b (.pointer none) bs w:=⟨Nat.zero_le _,v,xC,dz,cR⟩;refine(Tryz.P1 b w hB.cell0 hB.shape hB.frozen0).mono ?_;rintro e w'⟨rfl,rfl⟩;have hg:w.grownBy (w.setCell ⟨b,0,none⟩ (.pointer (some ⟨b,0,none⟩))) (some b):=⟨rfl,rfl,rfl,by simp[World.setCell],fun k _ hk=>Below.heap_setCell _ _ _ _ (fun e=>hk (by simp[e]))⟩;refine⟨rfl,by simp[World.setCell,Array.getElem?_modify,xC],dz.kept (row:=some b) hg (Or.inr cR),hg⟩
 have hB:Lib.BuilderAt 279 5 0 b (.pointer (some ⟨b,0,none⟩)) bs w:=⟨Nat.zero_le _,v,xC,dz,cR⟩;refine(Tryz.SX b w hB.cell0).mono ?_;rintro e w'⟨rfl,rfl⟩;exact⟨rfl,xC,dz,rfl,rfl,rfl,Nat.le_refl _,fun _ _ _=>rfl⟩
set_option maxHeartbeats 2000000 in
set_option maxRecDepth 100000 in
theorem Tryz.wrS(b:Nat)(p v:Value)(bs:List Value)(s:ByteArray)(w:World)(hp:p=.pointer none\/p=.pointer (some ⟨b,0,none⟩))(xC:w.heap[b]?=some (.cells #[p,v] 279 (0,0)))(dz:w.ownsRow 0 5 1 v bs.length bs)(cR:v.ownBlock≠some b)(hlen:bs.length+s.size<=140737488355328):
 Calls Tryz.prog 205 #[.pointer (some ⟨b,0,none⟩),.string s] w fun e w'=>e=.returned (.tuple #[.int .i64 s.size,.nilIface])/\∃v',w'.heap[b]?=some (.cells #[.pointer (some ⟨b,0,none⟩),v'] 279 (0,0))/\
  w'.ownsRow 0 5 1 v' (bs++Lib.strCells s).length (bs++Lib.strCells s)/\v'.ownBlock≠some b/\(∀g,v'.ownBlock=some g->v.ownBlock=some g\/w.heap.size<=g)/\
  w'.os=w.os/\w'.tape=w.tape/\w'.output=w.output/\w.heap.size<=w'.heap.size/\∀k,k<w.heap.size->k≠b->v.ownBlock≠some k->w'.heap[k]?=w.heap[k]?:=by
 have hib:(Tryz.prog.info? 5).map (fun i=>(i.zero,i.size,i.bytes))=some (some (.int .u8 0),1,1):=by kernel_rfl
 obtain⟨i0,hi,QA,Vn,TK⟩:=info_parts hib
 go_enter Tryz.func205,Tryz.ntmps205
 go_wp2_with (go_at_call 249;refine(Tryz.cc b p v bs _ hp xC dz cR).mono ?_)
 rintro e w1⟨rfl,xC,dz,Y0⟩;have c0:w1.cell? ⟨b,0,none⟩=some (.pointer (some ⟨b,0,none⟩)):=by rw[Lib.cell_of_heap xC];rfl
 have c1:w1.cell? ⟨b,1,none⟩=some v:=by rw[Lib.cell_of_heap xC];rfl
 go_wp2_with (at_builtin;refine Lib.wY rfl _ _ 277 9 rfl 5 i0 Tryz.underlying277 Tryz.underlying9 hi QA Vn TK _ _ _ rfl dz s rfl ?c3 ?c4 ?_)
 case c3=>unfold maxLen;omega
 case c4=>omega
 intro v' w2 OR tf OY;have cB:b<w1.heap.size:=by
  rcases Nat.lt_or_ge b w1.heap.size with h'|h'
  ·exact h'
  simp[Array.getElem?_eq_none h']at xC
 have Ds:w2.heap[b]?=some (.cells #[.pointer (some ⟨b,0,none⟩),v] 279 (0,0)):=by rw[tf.block b cB (fun e=>cR e.symm)];exact xC
 have d0:w2.cell? ⟨b,0,none⟩=some (.pointer (some ⟨b,0,none⟩)):=by rw[Lib.cell_of_heap Ds];rfl
 have d1:w2.cell? ⟨b,1,none⟩=some v:=by rw[Lib.cell_of_heap Ds];rfl
 have f1:w2.frozen? ⟨b,1,none⟩=false:=Lib.frozen_of_heap Ds 1;obtain⟨ao,n',cap,rfl⟩:∃ao n' cap,v'=.slice ao n' cap:=by
  rcases OR.2 with⟨hv,_⟩|⟨g,cap,cur,hv,_⟩
  ·exact⟨_,_,_,hv⟩
  exact⟨_,_,_,hv⟩
 go_wp2
 go_ret2
 have Dp:=Lib.ownBlock_ne OR Ds (by decide:(279:TypeId)≠5);have Xn:w2.grownBy (w2.setCell ⟨b,1,none⟩ (.slice ao n' cap)) (some b):=⟨rfl,rfl,rfl,by simp[World.setCell],fun k _ hk=>Below.heap_setCell _ _ _ _ (fun e=>hk (by simp[e]))⟩;have jl:=Y0.size;have gw:=tf.size;have hs3:=Xn.size;refine⟨rfl,.slice ao n' cap,by simp[World.setCell,Array.getElem?_modify,Ds],?_,Dp,fun g hg=>(OY g hg).imp id fun h=>by omega,?_,?_,?_,by omega,fun k hk hkb hkv=>?_⟩
 ·have:=OR.kept (row:=some b) Xn (Or.inr Dp);simpa[Lib.strCells_length]using this
 ·exact(Xn.os.trans tf.os).trans Y0.os
 ·exact(Xn.tape.trans tf.tape).trans Y0.tape
 ·exact(Xn.output.trans tf.output).trans Y0.output
 have e1:some k≠some b:=fun e=>hkb (by simpa using e);rw[Xn.block k (by omega) e1,tf.block k (by omega) (fun e=>hkv e.symm),Y0.block k hk e1]
theorem Dy(w:World)(g n:Nat):(w.drew.freeze ⟨g,0,none⟩ n).os=w.os/\(w.drew.freeze ⟨g,0,none⟩ n).tape=w.tape/\(w.drew.freeze ⟨g,0,none⟩ n).output=w.output/\w.heap.size<=(w.drew.freeze ⟨g,0,none⟩ n).heap.size/\
 ∀k,k≠g->(w.drew.freeze ⟨g,0,none⟩ n).heap[k]?=w.heap[k]?:=by
 unfold World.freeze;split
 ·exact⟨rfl,rfl,rfl,Nat.le_refl _,fun _ _=>rfl⟩
 refine⟨rfl,rfl,rfl,?_,fun k h=>?_⟩
 ·simp only[Array.size_modify];exact Nat.le_refl _
 show(w.heap.modify g _)[k]?=_;rw[Array.getElem?_modify,if_neg (fun e=>h e.symm)]
set_option maxHeartbeats 1000000 in
set_option maxRecDepth 100000 in
theorem Tryz.adj(b:Nat)(p v:Value)(l:List UInt8)(w:World)(xC:w.heap[b]?=some (.cells #[p,v] 279 (0,0)))(dz:w.ownsRow 0 5 1 v (Lib.byteCells l).length (Lib.byteCells l))(h0:l≠[]):
 Calls Tryz.prog 206 #[.pointer (some ⟨b,0,none⟩)] w fun e w'=>e=.returned (.string ⟨l.toArray⟩)/\
  w'.os=w.os/\w'.tape=w.tape/\w'.output=w.output/\w.heap.size<=w'.heap.size/\∀k,k<w.heap.size->v.ownBlock≠some k->w'.heap[k]?=w.heap[k]?:=by
 have hl0:l.length≠0:=by simpa using h0
 rw[Lib.byteCells_length]at dz;obtain⟨g,cap,cur,rfl,hbg,hg,hnc,Xq,pL,JS⟩:∃g cap cur,v=.slice (some ⟨g,0,none⟩) l.length cap/\0<=g/\w.heap[g]?=some (.cells cur 5 (0,0))/\l.length<=cap/\cap<=maxLen/\cur.size=cap*1/\cur.toList.take (l.length*1)=Lib.byteCells l:=by
  rcases dz.2 with⟨_,hz⟩|⟨g,cap,cur,hv,r⟩
  ·exact absurd hz hl0
  exact⟨g,cap,cur,hv,r⟩
 have c1:w.drew.cell? ⟨b,1,none⟩=some (.slice (some ⟨g,0,none⟩) l.length cap):=by have:w.drew.heap[b]?=some (.cells #[p,.slice (some ⟨g,0,none⟩) l.length cap] 279 (0,0)):=xC;rw[Lib.cell_of_heap this];rfl
 have hSD:(Builtin.unsafeSliceData_ #[277] 315 #[.slice (some ⟨g,0,none⟩) l.length cap]).run Tryz.prog w.drew=.ok (.pointer (some ⟨g,0,none⟩)) w.drew:=Lib.run_unsafeSliceData_row _ _ _ _ _ _ (by omega)
 have hUS:(Builtin.unsafeString_ #[315,3] 9 #[.pointer (some ⟨g,0,none⟩),.int .i64 l.length]).run Tryz.prog w.drew=.ok (.string ⟨l.toArray⟩) (w.drew.freeze ⟨g,0,none⟩ l.length):=by refine Lib.run_unsafeString_row w.drew 315 3 9 5 Tryz.underlying315 (by kernel_rfl) g cur.size (by have J1:w.drew.heap[g]?=some (.cells cur 5 (0,0)):=hg;simp[World.shape?,J1]) l h0 (by omega) (by unfold maxLen at Xq;omega) ?_;intro j x hx;have:=dz.cells (g:=g) rfl j (.int .u8 x.toNat) (by simp[Lib.byteCells,hx]);exact this
 have Mc:=Dy w g l.length;have mixed:Tryz.prog.follows .mixedOrders=true:=by rfl
 go_enter Tryz.func206,Tryz.ntmps206
 go_wp2
 go_region_o
 all_goals(go_wp2;go_ret;exact⟨rfl,Mc.1,Mc.2.1,Mc.2.2.1,Mc.2.2.2.1,fun k _ hkv=>Mc.2.2.2.2 k (fun e=>hkv (by simp[Value.ownBlock,e]))⟩)
end Go.Proofs
namespace Go.Ai.Pg
open Go.Proofs Go.Ai Go.Ai.b6
set_option maxRecDepth 100000
def Jj(b:Nat)(l:bw):o7:=fun w _ F=>∃p v,(p=.pointer none\/p=.pointer (some ⟨b,0,none⟩))/\w.heap[b]?=some (.cells #[p,v] 279 (0,0))/\w.ownsRow 0 5 1 v (Lib.byteCells l).length (Lib.byteCells l)/\v.ownBlock≠some b/\F=b::v.ownBlock.toList
theorem Jj.closed{b:Nat}{l:bw}{w:World}{S:Nat->Prop}{F:List Nat}(h:Jj b l w S F):o7.here (Jj b l) w S F:=by
 intro w' S' h1 _;obtain⟨p,v,hp,hb,ho,cR,rfl⟩:=h;refine⟨p,v,hp,by rw[h1 b (.inr (by simp))];exact hb,?_,cR,rfl⟩;refine⟨ho.1,?_⟩;rcases ho.2 with h|⟨g,cap,cur,rfl,r1,r2,r3⟩
 ·exact .inl h
 exact .inr ⟨g,cap,cur,rfl,r1,by rw[h1 g (.inr (by simp[Value.ownBlock]))];exact r2,r3⟩
theorem Jj.new(b:Nat)(w:World)(S:Nat->Prop)(h:w.heap[b]?=some (.cells #[.pointer none,.slice none 0 0] 279)):Jj b [] w S [b]:=⟨_,_,.inl rfl,h,⟨rfl,.inl ⟨rfl,rfl⟩⟩,by simp[Value.ownBlock],rfl⟩
theorem yw(b:Nat)(l s:bw)(hl:l.length+s.length<2^46):Qp Tryz.prog 205 (·=.pointer (some ⟨b,0,none⟩)) (Jj b l) (Jj b (l++s)) (an [.s s]) (SV.bC [.i s.length,.c .nilIface]).den:=by
 rintro v rfl w S F vs hL hN hJ AG hF hS hc;obtain⟨p,v,hp,hb,ho,cR,rfl⟩:=hJ w S (fun _ _=>rfl) (fun _ h=>h);simp only[an,Cells]at hc;obtain⟨y,l',F1,F2,rfl,hFF,_,hr,rfl,rfl⟩:=hc;simp only[SV.den,Rel]at hr;obtain⟨_,rfl,rfl⟩:=hr;have ct:(bs s).size=s.length:=by show s.toArray.size=_;simp
 refine qg.nj (fn:=Tryz.f205) Tryz.func205 rfl rfl ?_;refine(Tryz.wrS b p v (Lib.byteCells l) (bs s) w hp hb ho cR (by rw[Lib.byteCells_length,ct];omega)).mono ?_;rintro e w'⟨rfl,v',k1,k2,k3,k4,k5,k6,k7,k8,k9⟩;have ec:Lib.byteCells l++Lib.strCells (bs s)=Lib.byteCells (l++s):=by rw[Lib.byteCells_append];rfl
 rw[ec]at k2;have F6:b<w'.heap.size:=by apply Decidable.byContradiction;intro h;rw[Array.getElem?_eq_none (by omega)]at k1;simp at k1
 have hJ':Jj b (l++s) w' S (b::v'.ownBlock.toList):=⟨_,v',.inr rfl,k1,k2,k3,rfl⟩;have R9:∀g,v'.ownBlock=some g->g<w'.heap.size:=by
  intro g hg;rcases k2.2 with⟨rfl,-⟩|⟨g',cap,cur,rfl,-,r,-⟩
  ·simp[Value.ownBlock]at hg
  simp only[Value.ownBlock,Option.some.injEq]at hg;subst hg;apply Decidable.byContradiction;intro h;rw[Array.getElem?_eq_none (by omega)]at r;simp at r
 refine⟨_,rfl,S,b::v'.ownBlock.toList,k5,k6,k7,k8,fun k hk VV=>k9 k hk (fun e=>VV (by simp[e])) (fun e=>VV (by simp[e])),fun _ h=>h,fun _ h=>.inl h,fun c hc=>Nat.lt_of_lt_of_le (hS c hc) k8,hJ'.closed,?_,?_,?_⟩
 ·cases hv:v'.ownBlock with
  |none=>simp
  |some g=>rw[hv]at k3;simp at k3⊢;exact fun e=>k3 e.symm
 ·intro c hc;rcases List.mem_cons.1 hc with rfl|hc
  ·exact⟨.inr (by simp),F6,(hF _ (by simp)).2⟩
  have hc:v'.ownBlock=some c:=by simpa using hc
  refine⟨(k4 c hc).symm.imp id fun h=>by simp[h],R9 c hc,?_⟩;rcases k4 c hc with h|h
  ·exact(hF c (by simp[h])).2
  exact fun hs=>by have:=hS c hs;omega
 intro w2 S2;simp only[SV.den,an,Rel,Cells];refine⟨_,rfl,_,_,[],[],rfl,rfl,by simp,?_,_,_,[],[],rfl,rfl,by simp,?_,rfl,rfl⟩
 ·simp[Rel,scalar,ct]
 simp[Rel,scalar]
def Z5:o7:=fun _ _ F=>F=[]
theorem Fq(b:Nat)(l:bw)(h0:l≠[]):Qp Tryz.prog 206 (·=.pointer (some ⟨b,0,none⟩)) (Jj b l) Z5 (an []) (SV.s l).den:=by rintro v rfl w S F vs hL hN hJ AG hF hS hc;obtain⟨p,v,hp,hb,ho,cR,rfl⟩:=hJ w S (fun _ _=>rfl) (fun _ h=>h);simp only[an,Cells]at hc;obtain⟨rfl,-⟩:=hc;refine qg.nj (fn:=Tryz.f206) Tryz.func206 rfl rfl ?_;refine(Tryz.adj b p v l w hb ho h0).mono ?_;rintro e w'⟨rfl,k5,k6,k7,k8,k9⟩;exact⟨_,rfl,S,[],k5,k6,k7,k8,fun k hk VV=>k9 k hk (fun e=>VV (by simp[e])),fun _ h=>h,fun _ h=>.inl h,fun c hc=>Nat.lt_of_lt_of_le (hS c hc) k8,fun _ _ _ _=>rfl,List.nodup_nil,by simp,fun _ _=>by simp[SV.den,Rel,scalar,bs]⟩
def kv(m:Nat):List bw:=if h:m=0 then[]else if m/1000000000000000000=0 then[decl m 1]else decl (m%1000000000000000000) 18::kv (m/1000000000000000000)
 termination_by m
 decreasing_by exact Nat.div_lt_self (Nat.pos_of_ne_zero h) (by decide)
theorem Ad:kv 0=[]:=by rw[kv];simp
theorem tL{m:Nat}(h:m≠0)(h2:m/1000000000000000000=0):kv m=[decl m 1]:=by rw[kv,dif_neg h,if_pos h2]
theorem tK{m:Nat}(h2:m/1000000000000000000≠0):kv m=decl (m%1000000000000000000) 18::kv (m/1000000000000000000):=by
 have h:m≠0:=by rintro rfl;exact h2 rfl
 rw[kv,dif_neg h,if_neg h2]
theorem GV(m:Nat)(h:m≠0):(kv m).reverse.flatten=decl m 1:=by
 induction m using Nat.strongRecOn with
 |ind m ih=>
  by_cases h2:m/1000000000000000000=0
  ·rw[tL h h2];simp
  rw[tK h2,List.reverse_cons,List.flatten_append,ih _ (Nat.div_lt_self (by omega) (by decide)) h2];have hs:=sf (q:=m/1000000000000000000) (by omega) 18 (m%1000000000000000000) 1 (Nat.mod_lt _ (by decide));have e:m/1000000000000000000*10^18+m%1000000000000000000=m:=by
   have:=Nat.div_add_mod m 1000000000000000000;have e10:(10:Nat)^18=1000000000000000000:=by decide
   rw[e10];omega
  rw[e]at hs;rw[hs,show 1-18=0 by rfl,tE (by omega)];simp
theorem WD{m:Nat}(h:m≠0):kv m≠[]:=by
 by_cases h2:m/1000000000000000000=0
 ·rw[tL h h2];simp
 rw[tK h2];simp
theorem Ku(m:Nat):∀(k:Nat),m<1000000000000000000^k->(kv m).length<=k:=by
 induction m using Nat.strongRecOn with
 |ind m ih=>
  intro k hk;by_cases h:m=0
  ·subst h;rw[Ad];simp
  cases k with
  |zero=>simp at hk;omega
  |succ k=>
   by_cases h2:m/1000000000000000000=0
   ·rw[tL h h2];simp
   rw[tK h2,List.length_cons];have:=ih (m/1000000000000000000) (Nat.div_lt_self (by omega) (by decide)) k (by rw[Nat.pow_succ]at hk;exact Nat.div_lt_of_lt_mul (by rw[Nat.mul_comm];exact hk))
   omega
theorem XN:(10:Nat)^18=1000000000000000000:=by decide
theorem SK{m:Nat}(h:m<1000000000000000000):(decl m 1).length<=18:=dp m 1 18 (by rw[XN];exact h) (by decide)
theorem PH:∀j,decl 0 j=List.replicate j 48
 |0=>bR
 |j+1=>by rw[bc (by omega),show(0:Nat)/10=0 by rfl,show j+1-1=j by omega,PH j,List.replicate_succ'];rfl
theorem IS(m:Nat):∀k,1<=k->(decl m 1).length<=k->decl m k=List.replicate (k-(decl m 1).length) 48++decl m 1:=by
 induction m using Nat.strongRecOn with
 |ind m ih=>
  intro k hk hl;have h1:decl m 1=decl (m/10) 0++[MZ (m%10)]:=bc (by omega);rw[bc (n:=m) (k:=k) (by omega)];by_cases h:m/10=0
  ·rw[h1,h,bR,PH];simp
  have h2:decl (m/10) 0=decl (m/10) 1:=tE (by omega);rw[h1,h2]at hl⊢;rw[List.length_append,List.length_singleton]at hl⊢;have cR:1<=(decl (m/10) 1).length:=by rw[bc (by omega)];simp
  rw[ih (m/10) (Nat.div_lt_self (by omega) (by decide)) (k-1) (by omega) (by omega)];rw[show k-1-(decl (m/10) 1).length=k-((decl (m/10) 1).length+1) by omega,List.append_assoc]
theorem GD:b6.aa 1000000000000000000=[1000000000000000000]:=jC (f:=1000000000000000000) (by decide) (by decide)
theorem yF{M K:Nat}(h:(b6.aa M).length<=K):M<100000000000000000000^K:=by
 have h1:=b6.bq M;have h0:∀(B n:Nat),(M:Int)<(B:Int)^n->M<B^n:=fun B n h=>by exact_mod_cast h
 have h2:(M:Nat)<18446744073709551616^(b6.aa M).length:=h0 18446744073709551616 _ h1;have h3:18446744073709551616^(b6.aa M).length<=18446744073709551616^K:=Nat.pow_le_pow_right (by decide) h;have h4:18446744073709551616^K<=100000000000000000000^K:=Nat.pow_le_pow_left (by decide) K;omega
theorem Eu{M K:Nat}(h:(b6.aa M).length<=K)(hK:1<=K):(decl M 1).length<=20*K:=by
 have:=yF h;have e:100000000000000000000^K=10^(20*K):=by rw[Nat.pow_mul]
 rw[e]at this;exact dp M 1 _ this (by omega)
theorem KZ(a:Nm)(h:aV a){K:Nat}(hl:dL a K)(hK:K<2^36):aO Tryz.prog 123 [mg a] (.s (bM (nv a))):=by
 have hp:=b6.cS a h;obtain⟨s,w⟩:=a;cases w with
 |none=>have h: -9223372036854775808<=s/\s<=9223372036854775807:=h;refine enter (fn:=Tryz.f123) Tryz.func123 rfl rfl rfl rfl ?_;refine r0 rfl ?_;refine cl rfl rfl (Oz s h.1 h.2) rfl ?_;refine r0 rfl ?_;exact aF rfl (au.refl _)
 |some m0=>
  obtain⟨h1,h2⟩:(s=1\/s= -1)/\9223372036854775808<=m0:=h;obtain⟨M,hM⟩:∃M,M=(nv ⟨s,some m0⟩).natAbs:=⟨_,rfl⟩;have hMm:M=m0:=by rw[hM];show(s*m0).natAbs=m0;rcases h1 with rfl|rfl<;>omega
  have hl:(b6.aa M).length<=K:=by rw[hM];exact hl
  rw[<-hM]at hp;have hM0:M≠0:=by omega
  refine enter (fn:=Tryz.f123) Tryz.func123 rfl rfl rfl rfl ?_;have cR:b6.aa m0≠[]:=by intro e;have:=b6.aX m0;rw[e]at this;simp[b6.val]at this;omega
  refine r1 rfl (by simp only[ae,and_true];exact cR) ?_;refine cl rfl rfl hp rfl ?_;refine r0 rfl ?_;refine JL [(3,.u (decide (s<0))),(4,.ints .u64 false (b6.aa M)),(5,.ints .u64 false (b6.aa 1000000000000000000)),(6,.strs true [])] ⟨⟨rfl,rfl,.refl _⟩,⟨rfl,rfl,.refl _⟩,⟨rfl,rfl,.shr (by rw[GD];rfl)⟩,⟨rfl,rfl,.le (show au .nil (.strs true [])from rfl)⟩,trivial⟩ ?_;refine lP (fun(m:Nat)(L:List bw)=>[(3,.u (decide (s<0))),(4,.ints .u64 false (b6.aa m)),(5,.ints .u64 false (b6.aa 1000000000000000000)),(6,.strs true L)]) (fun m L=>L++kv m=kv M/\m<=M) (fun m _=>m) M [] ⟨rfl,Nat.le_refl _⟩ ⟨⟨rfl,rfl⟩,⟨rfl,rfl⟩,⟨rfl,rfl⟩,⟨rfl,rfl⟩,trivial⟩ ?_;rintro m L⟨hL,hm⟩;refine r0 rfl ?_;refine br rfl rfl rfl (fun g=>?_) (fun g=>?_)
  ·have g:0<m:=by
    rcases Nat.eq_zero_or_pos m with h|h
    ·subst h;have g:(0:Int)<((b6.aa 0).length:Int):=g;rw[b6.b9]at g;simp at g
    exact h
   have YM:(b6.aa m).length<2^40:=by
    have:(b6.aa m).length<=(b6.aa M).length:=by apply Decidable.byContradiction;intro h;have:=b6.bz (Nat.lt_of_not_le h);omega
    omega
   obtain⟨r,hr⟩:∃r,r=m%1000000000000000000:=⟨_,rfl⟩;obtain⟨q,hq⟩:∃q,q=m/1000000000000000000:=⟨_,rfl⟩;have abP:r<1000000000000000000:=by rw[hr];exact Nat.mod_lt _ (by decide)
   have VF:=SK abP;have hqm:q<m:=by rw[hq];exact Nat.div_lt_self g (by decide)
   have Zc:kv m=(if q=0 then decl r 1 else decl r 18)::kv q:=by
    by_cases h:q=0
    ·rw[if_pos h,tL (by omega) (by rw[<-hq];exact h),h,Ad];have:m%1000000000000000000=m:=by
      rw[hq]at h;exact Nat.mod_eq_of_lt (by omega)
     rw[hr,this]
    rw[if_neg h,tK (by rw[<-hq];exact h),hr,hq]
   have hLl:L.length+1<=2*K:=by
    have e:=congrArg List.length hL;rw[Zc,List.length_append,List.length_cons]at e;have h1:=yF hl;have h2:M<1000000000000000000^(2*K):=by refine Nat.lt_of_lt_of_le h1 ?_;rw[Nat.pow_mul];exact Nat.pow_le_pow_left (by decide) K
    have:=Ku M (2*K) h2;omega
   refine r0 rfl ?_;refine cl rfl rfl (tC m 1000000000000000000 (by decide) YM (by rw[GD];decide)) rfl ?_;rw[<-hq,<-hr];refine rn 6 rfl ?_;refine cg 2 [(3,.u (decide (s<0))),(5,.ints .u64 false (b6.aa 1000000000000000000)),(6,.strs true L),(7,.ints .u64 false (b6.aa q)),(9,.s (decl r 1))] True ?_ fun _=>?_
   ·refine r0 rfl ?_;refine br rfl rfl rfl (fun g1=>?_) (fun g1=>?_)
    ·have xB:0<r:=by
      rcases Nat.eq_zero_or_pos r with h|h
      ·rw[h]at g1;have g1:(0:Int)<((b6.aa 0).length:Int):=g1;rw[b6.b9]at g1;simp at g1
      exact h
     have ed:=jC xB (by omega);rw[ed];refine r1 rfl (by simp only[ae,and_true]<;>simp) ?_;refine cl rfl rfl (ZD r (by omega)) rfl ?_;refine r0 rfl ?_;exact aQ trivial ⟨⟨rfl,rfl⟩,⟨rfl,rfl⟩,⟨rfl,rfl⟩,⟨rfl,rfl⟩,⟨rfl,rfl⟩,trivial⟩
    have xB:r=0:=by
     rcases Nat.eq_zero_or_pos r with h|h
     ·exact h
     exact absurd (show(0:Int)<((b6.aa r).length:Int) by have:=b6.dm (n:=r) (by omega);omega) g1
    refine r0 rfl ?_;rw[xB];exact aQ trivial ⟨⟨rfl,rfl⟩,⟨rfl,rfl⟩,⟨rfl,rfl⟩,⟨rfl,rfl⟩,⟨rfl,au.of_eq (congrArg SV.s (by rw[bc (by omega)];simp[bR];rfl))⟩,trivial⟩
   refine cg 1 [(3,.u (decide (s<0))),(5,.ints .u64 false (b6.aa 1000000000000000000)),(6,.strs true L),(7,.ints .u64 false (b6.aa q)),(9,.s (if q=0 then decl r 1 else decl r 18))] True ?_ fun _=>?_
   ·refine r0 rfl ?_;refine br rfl rfl rfl (fun g1=>?_) (fun g1=>?_)
    ·have Xe:¬q=0:=by
      intro h;rw[h]at g1;have g1:(0:Int)<((b6.aa 0).length:Int):=g1;rw[b6.b9]at g1;simp at g1
     refine r1 rfl (by simp only[ae,and_true]<;>omega) ?_;refine Ej (us:=[.s [48],.i (18-(decl r 1).length:Nat)]) rfl rfl trivial ⟨rfl,congrArg SV.i (by omega),trivial⟩ (UU _ (by omega)) rfl ?_;refine r1 rfl (by simp only[ae,and_true]<;>simp<;>omega) ?_;refine aQ trivial ⟨⟨rfl,rfl⟩,⟨rfl,rfl⟩,⟨rfl,rfl⟩,⟨rfl,rfl⟩,⟨rfl,au.of_eq (congrArg SV.s ?_)⟩,trivial⟩;rw[if_neg Xe,IS r 18 (by decide) VF]
    have Xe:q=0:=by
     rcases Nat.eq_zero_or_pos q with h|h
     ·exact h
     exact absurd (show(0:Int)<((b6.aa q).length:Int) by have:=b6.dm (n:=q) (by omega);omega) g1
    refine r0 rfl ?_;exact aQ trivial ⟨⟨rfl,rfl⟩,⟨rfl,rfl⟩,⟨rfl,rfl⟩,⟨rfl,rfl⟩,⟨rfl,au.of_eq (congrArg SV.s (by rw[if_pos Xe]))⟩,trivial⟩
   refine r1 rfl (by simp only[ae,and_true,List.length_cons,List.length_nil]<;>omega) ?_;refine again (q,L++[if q=0 then decl r 1 else decl r 18]) hqm ⟨by rw[<-hL,Zc];simp,by omega⟩ ⟨⟨rfl,rfl⟩,⟨rfl,rfl⟩,⟨rfl,rfl⟩,⟨rfl,rfl⟩,trivial⟩
  have g:m=0:=by
   rcases Nat.eq_zero_or_pos m with h|h
   ·exact h
   exact absurd (show(0:Int)<((b6.aa m).length:Int) by have:=b6.dm (n:=m) (by omega);omega) g
  subst g;rw[Ad,List.append_nil]at hL;subst hL;have B6:∀t,((if s<0 then[45]else[])++((kv M).drop t).reverse.flatten).length<=20*K+1:=by
   intro t;have hK1:1<=K:=by have:=b6.dm (n:=M) hM0;omega
   have h1:=Eu hl hK1;rw[<-GV M hM0]at h1;have h2:(kv M).reverse=((kv M).drop t).reverse++((kv M).take t).reverse:=by rw[<-List.reverse_append,List.take_append_drop]
   rw[h2,List.flatten_append,List.length_append]at h1;rw[List.length_append];have h3:(if s<0 then[45]else[]:bw).length<=1:=by split<;>simp
   omega
  have MU:=WD hM0;have YE:(kv M).length<=2*K:=by
   have h1:=yF hl;have h2:M<1000000000000000000^(2*K):=by refine Nat.lt_of_lt_of_le h1 ?_;rw[Nat.pow_mul];exact Nat.pow_le_pow_left (by decide) K
   exact Ku M (2*K) h2
  have OZ:0<(kv M).length:=by
   rcases Nat.eq_zero_or_pos (kv M).length with h|h
   ·exact absurd (List.length_eq_zero_iff.1 h) MU
   exact h
  refine rn 2 rfl ?_;refine WU (fun b=>Jj b []) rfl rfl (zs:=#[.pointer none,.slice none 0 0]) (fun w=>by simp[Instr.alloc,Tryz.zeroValue279,newVar,newRow];rfl) (fun b w S h=>Jj.new b w S h) fun b=>?_;refine cg 1 [(6,.strs true (kv M)),(10,.pv (·=.pointer (some ⟨b,0,none⟩))),(1000000,.abs (Jj b (if s<0 then[45]else[])))] True ?_ fun _=>?_
  ·refine r0 rfl ?_;refine br rfl rfl rfl (fun g1=>?_) (fun g1=>?_)
   ·refine r0 rfl ?_;refine Og rfl rfl trivial (yw b [] [45] (by decide)) (J':=Jj b [45]) (r:=.bC [.i 1,.c .nilIface]) rfl ?_;refine r0 rfl ?_;rw[if_pos g1];exact aQ trivial ⟨⟨rfl,rfl⟩,⟨rfl,rfl⟩,rfl,trivial⟩
   refine r0 rfl ?_;rw[if_neg g1];exact aQ trivial ⟨⟨rfl,rfl⟩,⟨rfl,rfl⟩,rfl,trivial⟩
  refine r1 rfl (by simp only[ae,and_true]<;>omega) ?_;refine loop (fun t:Nat=>[(6,.strs true (kv M)),(10,.pv (·=.pointer (some ⟨b,0,none⟩))),(11,.i ((t:Int)-1)),(1000000,.abs (Jj b ((if s<0 then[45]else[])++((kv M).drop t).reverse.flatten)))]) (fun t=>t<=(kv M).length) (fun t=>t) (kv M).length (Nat.le_refl _)
   ⟨⟨rfl,rfl⟩,⟨rfl,rfl⟩,⟨rfl,rfl⟩,(by show SV.abs _=SV.abs _;rw[List.drop_length];simp),trivial⟩ ?_
  intro t ht;refine r0 rfl ?_;refine br rfl rfl rfl (fun g1=>?_) (fun g1=>?_)
  ·obtain⟨t,rfl⟩:∃u,t=u+1:=⟨t-1,by omega⟩;have et:(((t+1:Nat):Int)-1).toNat=t:=by omega
   refine r1 rfl (by simp only[ae,and_true,et];omega) ?_;rw[et];have eg:(kv M).getD t []=(kv M)[t]:=bk (by omega);have ed:(kv M).drop t=(kv M)[t]::(kv M).drop (t+1):=List.drop_eq_getElem_cons (by omega);have en:((if s<0 then[45]else[])++((kv M).drop (t+1)).reverse.flatten)++(kv M)[t]=(if s<0 then[45]else[])++((kv M).drop t).reverse.flatten:=by rw[ed,List.reverse_cons,List.flatten_append,List.append_assoc];simp only[List.flatten_cons,List.flatten_nil,List.append_nil]
   rw[eg];refine Og rfl rfl trivial (yw b _ (kv M)[t] (by have:=B6 t;rw[<-en,List.length_append]at this;omega)) (J':=Jj b (((if s<0 then[45]else[])++((kv M).drop (t+1)).reverse.flatten)++(kv M)[t])) (r:=.bC [.i ((kv M)[t].length:Int),.c .nilIface]) rfl ?_
   rw[en];refine r1 rfl (by simp only[ae,and_true]<;>omega) ?_;exact again t (by omega) (by omega) ⟨⟨rfl,rfl⟩,⟨rfl,rfl⟩,⟨rfl,au.of_eq (congrArg SV.i (by omega))⟩,rfl,trivial⟩
  have:t=0:=by omega
  subst this;rw[List.drop_zero,GV M hM0];have O5:(if s<0 then[45]else[])++decl M 1=bM (nv ⟨s,some m0⟩):=by
   unfold bM;rw[<-hM];have hv:nv ⟨s,some m0⟩=s*m0:=rfl;rw[hv];rcases h1 with rfl|rfl
   ·rw[if_neg (show¬(1:Int)<0 by omega),if_neg (show¬(1:Int)*m0<0 by omega)];rfl
   rw[if_pos (show(-1:Int)<0 by omega),if_pos (show(-1:Int)*m0<0 by omega)];rfl
  rw[O5];refine r0 rfl ?_;refine Og rfl rfl trivial (Fq b _ (by rw[<-O5];intro e;have:=congrArg List.length e;rw[List.length_append,bc (by omega)]at this;simp at this)) (J':=Z5) (r:=.s (bM (nv ⟨s,some m0⟩))) rfl ?_
  refine r0 rfl ?_;exact aF rfl (au.refl _)
theorem xT(a:Nm)(h:aV a){K:Nat}(hl:dL a K)(hK:K<2^36):aO Tryz.prog 123 [eN a] (.s (bM (nv a))):=(KZ a h hl hK).same (by simp only[an,oD h]) rfl
theorem Kn{f:Fr}{q:Rat}(h:ff f q):(f.d.w=none/\f.d.s=1)↔q.den=1:=by
 have hv:=h.vd;have hd:=h.d;obtain⟨n,d,w⟩:=f;cases w with
 |none=>have hv:d=q.den:=hv;simp;omega
 |some m=>have hd:(d=1\/d= -1)/\9223372036854775808<=m:=hd;have hv:d*(m:Int)=q.den:=hv;simp;rcases hd.1 with rfl|rfl<;>omega
theorem nw{z:Int}{K:Nat}(h:(b6.aa z.natAbs).length<=K):(bM z).length<=20*(K+1)+1:=by
 have:=Eu (M:=z.natAbs) (K:=K+1) (by omega) (by omega);unfold bM;split
 ·rw[List.length_cons];omega
 omega
theorem UG(f:Fr){q:Rat}(h:ff f q){K:Nat}(hl:oH f K)(hK:K<2^36):aO Tryz.prog 61 [eF f] (.s (qt q)):=by
 have h1:=xT f.n h.n hl.1 hK;have h2:=xT f.d h.d hl.2 hK;rw[h.vn]at h1;rw[h.vd]at h2;have n1:=nw (show(b6.aa q.num.natAbs).length<=K by rw[<-h.vn];exact hl.1);have n2:=nw (show(b6.aa (q.den:Int).natAbs).length<=K by rw[<-h.vd];exact hl.2);refine enter (fn:=Tryz.f61) Tryz.func61 rfl rfl rfl rfl ?_;refine r0 rfl ?_;refine cl rfl rfl (uR f h) rfl ?_;refine br rfl rfl rfl (fun g=>?_) (fun g=>?_)
 ·have g:=(Kn h).1 g;refine r0 rfl ?_;refine cl rfl rfl h1 rfl ?_;refine r0 rfl ?_;refine aF rfl (au.of_eq (congrArg SV.s ?_));unfold qt qJ dD;rw[if_pos g];simp
 have g:¬q.den=1:=fun h'=>g ((Kn h).2 h');refine r0 rfl ?_;refine cd rfl rfl h1 rfl ?_;refine r1 rfl (by simp only[ae,and_true,List.length_cons,List.length_nil];omega) ?_;refine cd rfl rfl h2 rfl ?_;refine k1 rfl (by kernel_rfl) (by simp only[ae,and_true,List.length_append,List.length_cons,List.length_nil];omega) ?_;refine aF rfl (au.of_eq (congrArg SV.s ?_));unfold qt qJ dD;rw[if_neg g];have:bM (q.den:Int)=decl q.den 1:=by unfold bM;rw[if_neg (by omega)];rfl
 rw[this];simp
def tx(p:ru)(rs:List iv)(b:ia)(S:List Int)(I:List (List Int)):SV:=
 .agg [.i p.n,.cJ false 5 default gN p.ah,.ints .i64 false p.ints,.cJ false 2 default jB rs,.i b.c,.i b.d,.i b.s,.i b.g,.ints .i64 true S,.cJ true 1 [] (SV.ints .i64 true) I]
theorem XY(p:ru)(rs:List iv)(b:ia):Az (.box true (.agg [.i p.n,.cJ false 5 default gN p.ah,.ints .i64 false p.ints,.cJ false 2 default jB rs,.i b.c,.i b.d,.i b.s,.i b.g,.nil,.nil])) (.box true (tx p rs b [] [])):=by have h1:Az .nil (.ints .i64 true []):=.le (show au .nil (.ints .i64 true [])from rfl);have h2:Az .nil (.cJ true 1 [] (SV.ints .i64 true) []):=.le (show au .nil (.cJ true 1 [] (SV.ints .i64 true) [])from rfl);exact .box (.agg (.cons (.refl _) (.cons (.refl _) (.cons (.refl _) (.cons (.refl _) (.cons (.refl _) (.cons (.refl _) (.cons (.refl _) (.cons (.refl _) (.cons h1 (.cons h2 .nil)))))))))))
noncomputable def py(p:ru)(rs:List iv)(b:ia):Int:=if lG p rs≠0 then lG p rs else oG b
noncomputable def lA(rs:List iv)(b:ia):List Int:=rs.map fun s=>kq (BV s) b.s
noncomputable def jd(rs:List iv)(b:ia)(u:dW):List Int:=(List.range u.aC.length).map fun k=>uU rs b u k
noncomputable def oq(rs:List iv)(b:ia)(us:List dW):List (List Int):=us.map (jd rs b)
noncomputable def QJ(f:Hp):Fr:=if cq f.kt<0 then⟨gE (eI (cq f.kt)).n,(eI (cq f.kt)).d⟩else eI (cq f.kt)
theorem Pv{f:Hp}(h:aG f.kt=0):ff (QJ f) (kL (cq f.kt))/\oH (QJ f) 600:=by
 obtain⟨-,h2⟩:=DE (eI (cq f.kt)) (cP _) (dB h).1 (by decide);rw[tZ];unfold QJ;by_cases g:cq f.kt<0
 ·rw[if_pos g,if_pos g];exact⟨h2,C8 (cP _) (dB h)⟩
 rw[if_neg g,if_neg g];exact⟨cP _,dB h⟩
theorem Qk{a b:Rat}(hb:0<=b):kL (a*b)=b*kL a:=by
 rw[tZ,tZ];by_cases g:a<0
 ·have h1:0<=(-a)*b:=Rat.mul_nonneg (by grind) hb;rw[if_pos g];split<;>grind
 have h1:0<=a*b:=Rat.mul_nonneg (by grind) hb;rw[if_neg g,if_neg (by grind)]
 grind
noncomputable def inF(p:ru)(rs:List iv)(b:ia)(j:Nat)(u:dW)(k:Nat):List (Nat×SV):=
 [(1,.cJ false 2 default jB rs),(3,.box true (fo p)),(5,.box true (eK b)),(15,.ints .i64 true ((jd rs b u).take k)),(14,.box true (gN u)),(35,.box true (tx p rs b (lA rs b) ((oq rs b p.ah).take j))),(10,.bg 35 0 0 []),
  (65,.cJ false 2 default vp u.aC),(66,.i u.aC.length),(67,.i k),(58,.cJ false 5 default gN p.ah),(59,.i p.ah.length),(60,.i j)]
noncomputable def X0(p:ru)(rs:List iv)(b:ia)(j:Nat):List (Nat×SV):=[(1,.cJ false 2 default jB rs),(3,.box true (fo p)),(5,.box true (eK b)),(35,.box true (tx p rs b (lA rs b) ((oq rs b p.ah).take j))),(10,.bg 35 0 0 []),(58,.cJ false 5 default gN p.ah),(59,.i p.ah.length),(60,.i j)]
theorem Rt(p:ru)(h:M3 p)(rs:List iv)(hx:∀s∈rs,dq s.lo/\dq s.hi)(hl:rs.length<2^40)(b:ia)(he:py p rs b=0)(hv:∀u∈p.ah,o6 p.n u)(hr:XE p.n rs)(nM:∀s∈rs,XD s)(hb:MO b)(h96:p.ah.length<=96)(hn:p.n<=100):
 aO Tryz.prog 40 [fo p,.cJ false 2 default jB rs,eK b] (.bC [.box true (tx p rs b (lA rs b) (oq rs b p.ah)),.i 0]):=by
 have xB:lG p rs=0:=by apply Decidable.byContradiction;intro g;unfold py at he;rw[if_pos g]at he;exact g he
 have cU:oG b=0:=by unfold py at he;rwa[if_neg (by rw[xB];simp)]at he
 have VF:=hr.len;refine enter (fn:=Tryz.f40) Tryz.func40 rfl rfl rfl rfl ?_;refine r0 rfl ?_;refine cl rfl rfl (Bd p h rs hx hl) rfl ?_;rw[xB];refine r0 rfl ?_;refine br rfl rfl rfl (fun g=>absurd rfl g) (fun _=>?_);refine r0 rfl ?_;refine cl rfl rfl (KI b) rfl ?_;rw[cU];refine r0 rfl ?_;refine br rfl rfl rfl (fun g=>absurd rfl g) (fun _=>?_);refine r0 rfl ?_;refine JL [(1,.cJ false 2 default jB rs),(3,.box true (fo p)),(5,.box true (eK b)),(35,.box true (tx p rs b [] [])),(10,.bg 35 0 0 []),(36,.cJ false 2 default jB rs),(37,.i rs.length),(38,.i 0)]
  ⟨⟨rfl,rfl,.refl _⟩,⟨rfl,rfl,.refl _⟩,⟨rfl,rfl,.refl _⟩,⟨rfl,rfl,XY p rs b⟩,⟨rfl,rfl,rfl⟩,⟨rfl,rfl,.refl _⟩,⟨rfl,rfl,.refl _⟩,⟨rfl,rfl,.refl _⟩,trivial⟩ ?_
 refine loop (fun i:Nat=>[(1,.cJ false 2 default jB rs),(3,.box true (fo p)),(5,.box true (eK b)),(35,.box true (tx p rs b ((lA rs b).take i) [])),(10,.bg 35 0 0 []),(36,.cJ false 2 default jB rs),(37,.i rs.length),(38,.i i)]) (fun i=>i<=rs.length) (fun i=>rs.length-i) 0 (Nat.zero_le _) ⟨⟨rfl,rfl⟩,⟨rfl,rfl⟩,⟨rfl,rfl⟩,⟨rfl,rfl⟩,⟨rfl,rfl,rfl⟩,⟨rfl,rfl⟩,⟨rfl,rfl⟩,⟨rfl,rfl⟩,trivial⟩ ?_;intro i hi;have yV:(lA rs b).length=rs.length:=by simp[lA]
 refine r0 rfl ?_;refine br rfl rfl rfl (fun g1=>?_) (fun g1=>?_)
 ·have cO:i<rs.length:=by omega
  have ei:(i:Int).toNat=i:=by omega
  have eg:rs.getD i default=rs[i]:=bk cO;have hs:=nM _ (List.getElem_mem cO);obtain⟨l1,l2⟩:=yL hs;refine r1 rfl (by simp only[ae,and_true,ei];omega) ?_;rw[ei,eg];refine cd rfl rfl (nu _ hs) rfl ?_;refine r0 rfl ?_;refine cd rfl rfl (JG _ l1 l2 (by decide) (yK _) b.s (by have:=hb.s;omega)) rfl ?_;refine k1 rfl (by kernel_rfl) (by simp only[ae,and_true,List.length_take,yV]<;>simp<;>omega) ?_;refine again (i+1) (by omega) (by omega) ⟨⟨rfl,rfl⟩,⟨rfl,rfl⟩,⟨rfl,rfl⟩,⟨rfl,au.of_eq ?_⟩,⟨rfl,rfl,rfl⟩,⟨rfl,rfl⟩,⟨rfl,rfl⟩,⟨rfl,rfl⟩,trivial⟩;have e:(lA rs b).take (i+1)=(lA rs b).take i++[kq (BV rs[i]) b.s]:=by rw[List.take_succ_eq_append_getElem (by omega)];simp[lA]
  rw[e];rfl
 have:i=rs.length:=by omega
 subst this;rw[<-yV,List.take_length];refine r0 rfl ?_;have L9:(oq rs b p.ah).length=p.ah.length:=by simp[oq]
 refine loop (X0 p rs b) (fun j=>j<=p.ah.length) (fun j=>p.ah.length-j) 0 (Nat.zero_le _) ⟨⟨rfl,rfl⟩,⟨rfl,rfl⟩,⟨rfl,rfl⟩,⟨rfl,rfl⟩,⟨rfl,rfl,rfl⟩,⟨rfl,rfl⟩,⟨rfl,rfl⟩,⟨rfl,rfl⟩,trivial⟩ ?_;intro j hj;unfold X0;refine r0 rfl ?_;refine br rfl rfl rfl (fun g2=>?_) (fun g2=>?_)
 ·have QE:j<p.ah.length:=by omega
  have ej:(j:Int).toNat=j:=by omega
  have hum:p.ah[j]∈p.ah:=List.getElem_mem QE;have eu:p.ah.getD j default=p.ah[j]:=bk QE;refine r1 rfl (by simp only[ae,and_true,ej]<;>omega) ?_;rw[ej,eu];have hu:=hv _ hum;have Vz:=(h.unit _ hum).aC;generalize hug:p.ah[j]=u at*;have MV:(jd rs b u).length=u.aC.length:=by simp[jd]
  refine loop (inF p rs b j u) (fun k=>k<=u.aC.length) (fun k=>u.aC.length-k) 0 (Nat.zero_le _) ⟨⟨rfl,rfl⟩,⟨rfl,rfl⟩,⟨rfl,rfl⟩,⟨rfl,rfl⟩,⟨rfl,rfl⟩,⟨rfl,rfl⟩,⟨rfl,rfl,rfl⟩,⟨rfl,rfl⟩,⟨rfl,rfl⟩,⟨rfl,rfl⟩,⟨rfl,rfl⟩,⟨rfl,rfl⟩,⟨rfl,rfl⟩,trivial⟩ ?_;intro k hk;unfold inF;refine r0 rfl ?_;refine br rfl rfl rfl (fun g3=>?_) (fun g3=>?_)
  ·have qO:k<u.aC.length:=by omega
   have ek:(k:Int).toNat=k:=by omega
   have ef:u.aC.getD k default=u.aC[k]:=bk qO;have V4:=hu.feed _ (List.getElem_mem qO);have V4:=hu.feed _ (List.getElem_mem qO);have YW:uU rs b u k=kq (FM rs u.aC[k]) (if u.kind=di/\k=0 then b.d else b.s):=by unfold uU;rw[ef]
   have Xc:(jd rs b u).take (k+1)=(jd rs b u).take k++[uU rs b u k]:=by rw[List.take_succ_eq_append_getElem (by omega)];simp[jd]
   obtain⟨f,hf⟩:∃f,u.aC[k]=f:=⟨_,rfl⟩;rw[hf]at V4 YW ef;obtain⟨f1,f2,f3,f4⟩:=V4;obtain⟨n1,n2⟩:=DE (eI (cq f.kt)) (cP _) (dB f3).1 (by decide);obtain⟨m1,m2⟩:=Pv f3;refine rn 3 rfl ?_;refine cg 3 [(1,.cJ false 2 default jB rs),(3,.box true (fo p)),(5,.box true (eK b)),(15,.ints .i64 true ((jd rs b u).take k)),(14,.box true (gN u)),(35,.box true (tx p rs b (lA rs b) ((oq rs b p.ah).take j))),(10,.bg 35 0 0 []),(65,.cJ false 2 default vp u.aC),(66,.i u.aC.length),(67,.i k),(58,.cJ false 5 default gN p.ah),(59,.i p.ah.length),(60,.i j),(16,.i k),(17,.box true (vp f)),(18,.box true (eF (QJ f)))] True ?_ fun _=>?_
   ·refine r1 rfl (by simp only[ae,and_true,ek]<;>omega) ?_;rw[ek,ef];refine cl rfl rfl (mP f3) rfl ?_;refine r0 rfl ?_;refine cl rfl rfl (Dx _ (cP _)) rfl ?_;refine r0 rfl ?_;have hs:(cq f.kt).num.sign<0↔cq f.kt<0:=by
     rw[Int.sign_neg_iff];have:=Rat.num_nonneg (q:=cq f.kt);constructor<;>intro h<;>grind
    refine br rfl rfl rfl (fun h1=>?_) (fun h1=>?_)
    ·have h1:=hs.1 h1;refine r0 rfl ?_;refine cl rfl rfl n1 rfl ?_;refine r0 rfl ?_;have e:QJ f=⟨gE (eI (cq f.kt)).n,(eI (cq f.kt)).d⟩:=by unfold QJ;rw[if_pos h1]
     rw[e];exact aQ trivial ⟨⟨rfl,rfl⟩,⟨rfl,rfl⟩,⟨rfl,rfl⟩,⟨rfl,rfl⟩,⟨rfl,rfl⟩,⟨rfl,rfl⟩,⟨rfl,rfl,rfl⟩,⟨rfl,rfl⟩,⟨rfl,rfl⟩,⟨rfl,rfl⟩,⟨rfl,rfl⟩,⟨rfl,rfl⟩,⟨rfl,rfl⟩,⟨rfl,rfl⟩,⟨rfl,rfl⟩,⟨rfl,rfl⟩,trivial⟩
    have h1:¬cq f.kt<0:=fun h=>h1 (hs.2 h);have e:QJ f=eI (cq f.kt):=by unfold QJ;rw[if_neg h1]
    rw[e];refine r0 rfl ?_;exact aQ trivial ⟨⟨rfl,rfl⟩,⟨rfl,rfl⟩,⟨rfl,rfl⟩,⟨rfl,rfl⟩,⟨rfl,rfl⟩,⟨rfl,rfl⟩,⟨rfl,rfl,rfl⟩,⟨rfl,rfl⟩,⟨rfl,rfl⟩,⟨rfl,rfl⟩,⟨rfl,rfl⟩,⟨rfl,rfl⟩,⟨rfl,rfl⟩,⟨rfl,rfl⟩,⟨rfl,rfl⟩,⟨rfl,rfl⟩,trivial⟩
   have Ed:f.sh.toNat<rs.length:=by omega
   have er:rs.getD f.sh.toNat default=rs[f.sh.toNat]:=bk Ed;have hsr:=nM _ (List.getElem_mem Ed);obtain⟨l1,l2⟩:=yL hsr;obtain⟨q1,q2⟩:=qx (TD rs[f.sh.toNat]) (QJ f) l1 m1 l2 m2;have FQ:BV rs[f.sh.toNat]*kL (cq f.kt)=FM rs f:=by unfold FM;rw[er,Qk (yK _)]
   rw[FQ]at q1;have hL:∀m:Int,0<=m/\m<=40->aO Tryz.prog 92 [eF (N9 (TD rs[f.sh.toNat]) (QJ f)),.i m] (.i (kq (FM rs f) m)):=fun m hm=>JG _ q1 q2 (by decide) (mE _) m (by omega);refine r0 rfl ?_;have yZ:∀m:Int,0<=m/\m<=40->m=(if u.kind=di/\k=0 then b.d else b.s)->au (.ints .i64 true ((jd rs b u).take k++[kq (FM rs f) m])) (.ints .i64 true ((jd rs b u).take (k+1))):=by intro m hm e;refine au.of_eq ?_;rw[Xc,YW,e]
   refine aB 84 rfl (fun h1=>?_) (fun h1=>?_)
   ·refine r0 rfl ?_;refine br rfl rfl rfl (fun h2=>?_) (fun h2=>?_)
    ·have h2:u.kind=di:=h2;have hc:b.d=(if u.kind=di/\k=0 then b.d else b.s):=by rw[if_pos ⟨h2,by omega⟩]
     refine r1 rfl (by simp only[ae,and_true];omega) ?_;rw[er];refine cd rfl rfl (nu _ hsr) rfl ?_;refine r0 rfl ?_;refine cd rfl rfl (zk _ _ l1 m1 l2 m2 (by decide)) rfl ?_;refine r0 rfl ?_;refine cd rfl rfl (hL b.d hb.d) rfl ?_;refine k1 rfl (by kernel_rfl) (by simp only[ae,and_true,List.length_take,MV]<;>simp<;>omega) ?_;exact again (k+1) (by omega) (by omega) ⟨⟨rfl,rfl⟩,⟨rfl,rfl⟩,⟨rfl,rfl⟩,⟨rfl,yZ _ hb.d hc⟩,⟨rfl,rfl⟩,⟨rfl,rfl⟩,⟨rfl,rfl,rfl⟩,⟨rfl,rfl⟩,⟨rfl,rfl⟩,⟨rfl,rfl⟩,⟨rfl,rfl⟩,⟨rfl,rfl⟩,⟨rfl,rfl⟩,trivial⟩
    have h2:¬u.kind=di:=h2;have hc:b.s=(if u.kind=di/\k=0 then b.d else b.s):=by rw[if_neg (fun h=>h2 h.1)]
    refine r1 rfl (by simp only[ae,and_true];omega) ?_;rw[er];refine cd rfl rfl (nu _ hsr) rfl ?_;refine r0 rfl ?_;refine cd rfl rfl (zk _ _ l1 m1 l2 m2 (by decide)) rfl ?_;refine r0 rfl ?_;refine cd rfl rfl (hL b.s hb.s) rfl ?_;refine k1 rfl (by kernel_rfl) (by simp only[ae,and_true,List.length_take,MV]<;>simp<;>omega) ?_;exact again (k+1) (by omega) (by omega) ⟨⟨rfl,rfl⟩,⟨rfl,rfl⟩,⟨rfl,rfl⟩,⟨rfl,yZ _ hb.s hc⟩,⟨rfl,rfl⟩,⟨rfl,rfl⟩,⟨rfl,rfl,rfl⟩,⟨rfl,rfl⟩,⟨rfl,rfl⟩,⟨rfl,rfl⟩,⟨rfl,rfl⟩,⟨rfl,rfl⟩,⟨rfl,rfl⟩,trivial⟩
   have hc:b.s=(if u.kind=di/\k=0 then b.d else b.s):=by rw[if_neg (fun h=>h1 (by have:=h.2;show(k:Int)=0;omega))]
   refine r1 rfl (by simp only[ae,and_true];omega) ?_;rw[er];refine cd rfl rfl (nu _ hsr) rfl ?_;refine r0 rfl ?_;refine cd rfl rfl (zk _ _ l1 m1 l2 m2 (by decide)) rfl ?_;refine r0 rfl ?_;refine cd rfl rfl (hL b.s hb.s) rfl ?_;refine k1 rfl (by kernel_rfl) (by simp only[ae,and_true,List.length_take,MV]<;>simp<;>omega) ?_;exact again (k+1) (by omega) (by omega) ⟨⟨rfl,rfl⟩,⟨rfl,rfl⟩,⟨rfl,rfl⟩,⟨rfl,yZ _ hb.s hc⟩,⟨rfl,rfl⟩,⟨rfl,rfl⟩,⟨rfl,rfl,rfl⟩,⟨rfl,rfl⟩,⟨rfl,rfl⟩,⟨rfl,rfl⟩,⟨rfl,rfl⟩,⟨rfl,rfl⟩,⟨rfl,rfl⟩,trivial⟩
  have:k=u.aC.length:=by omega
  subst this;have Y1:(jd rs b u).take u.aC.length=jd rs b u:=by rw[<-MV,List.take_length]
  rw[Y1];refine r1 rfl (by simp only[ae,and_true,len,List.length_map,List.length_take,L9]<;>omega) ?_;refine WV (j+1) (by omega) (by omega) ⟨⟨rfl,rfl,.refl _⟩,⟨rfl,rfl,.refl _⟩,⟨rfl,rfl,.refl _⟩,⟨rfl,rfl,.box (.agg (.cons (.refl _) (.cons (.refl _) (.cons (.refl _) (.cons (.refl _) (.cons (.refl _) (.cons (.refl _) (.cons (.refl _) (.cons (.refl _) (.cons (.refl _) (.cons (.row ?_) .nil)))))))))))⟩,⟨rfl,rfl,rfl⟩,⟨rfl,rfl,.refl _⟩,⟨rfl,rfl,.refl _⟩,⟨rfl,rfl,.refl _⟩,trivial⟩;have e:(oq rs b p.ah).take (j+1)=(oq rs b p.ah).take j++[jd rs b u]:=by rw[List.take_succ_eq_append_getElem (by omega)];simp[oq,hug]
  rw[ee,e,List.map_append];exact ss.refl _
 have:j=p.ah.length:=by omega
 subst this;rw[<-L9,List.take_length];refine r0 rfl ?_;exact aF rfl (au.refl _)
def sJ(f:Nat):SV:=.agg [.fn (.func f) [] []]
def sI(f:Nat):Value:=.agg #[.func (.func f) #[] #[]]
def Tq:xl:=[(di,sI 173),(oo,sI 174),(iA,sI 175)]
theorem Rf:aO Tryz.prog 94 [] (.mp (yB Tq)):=by refine enter (fn:=Tryz.f94) Tryz.func94 rfl rfl rfl rfl ?_;refine r0 rfl ?_;refine ex rfl rfl rfl (Fz rfl) rfl ?_;refine r0 rfl ?_;refine ex rfl rfl rfl (qn (k:=di) (v:=sI 173) (x:=sJ 173) (.inl rfl) rfl Tryz.underlying174 Tryz.underlying9 rfl) rfl ?_;refine r0 rfl ?_;refine ex rfl rfl rfl (qn (k:=oo) (v:=sI 174) (x:=sJ 174) (.inl rfl) rfl Tryz.underlying174 Tryz.underlying9 rfl) rfl ?_;refine r0 rfl ?_;refine ex rfl rfl rfl (qn (k:=iA) (v:=sI 175) (x:=sJ 175) (.inl rfl) rfl Tryz.underlying174 Tryz.underlying9 rfl) rfl ?_;refine r0 rfl ?_;refine aF rfl (au.refl _)
def SE(u:dW)(L:List Int)(n:Int)(b:ia):SV:=.agg [.s u.kind,.cJ false 2 default vp u.aC,.i u.out,.s u.k,.strs false u.mG,.ints .i64 false L,.i n,.i b.c,.i b.d,.i b.s,.i b.g]
def cI(L:List Int)(b:ia)(u:dW):List Ji:=
 [⟨-1,-1,L.getD 0 0+40⟩,⟨(u.aC.getD 0 default).sh,-1,L.getD 0 0+b.g⟩,⟨-1,(u.aC.getD 0 default).sh,b.g-L.getD 0 0⟩,⟨u.out,-1,L.getD 1 0+L.getD 0 0-b.c⟩,
  ⟨-1,u.out,40+b.c-L.getD 0 0⟩,⟨u.out,(u.aC.getD 1 default).sh,b.g+L.getD 0 0-b.c⟩,⟨(u.aC.getD 1 default).sh,u.out,b.g-L.getD 0 0+b.c⟩]
def cA(L:List Int)(b:ia)(u:dW)(k:Nat):List Ji:=[⟨u.out,-1,L.getD k 0⟩,⟨u.out,(u.aC.getD k default).sh,b.g⟩,⟨(u.aC.getD k default).sh,u.out,b.g⟩]
def cT(L:List Int)(n:Int)(b:ia)(u:dW):List Ji:=[⟨n,-1,L.getD 0 0⟩,⟨-1,n,40⟩,⟨n,(u.aC.getD 0 default).sh,b.g⟩,⟨(u.aC.getD 0 default).sh,n,b.g⟩]
def Lim(x:Int):Prop:= -1000000<=x/\x<=1000000
theorem Rh(u:dW)(L:List Int)(n:Int)(b:ia)(hb:MO b)(hf:u.aC.length=2)(hL:L.length=2)(hl:∀x∈L,Lim x):
 aO Tryz.prog 173 [SE u L n b] (.cJ true 3 default xh (cI L b u)):=by
 obtain⟨x,y,rfl⟩:∃x y,L=[x,y]:=by
  match L,hL with
  |[x,y],_=>exact⟨x,y,rfl⟩
 have hx:=hl x (by simp);have hy:=hl y (by simp);unfold Lim at hx hy;have hg:=hb.g;have hc:=hb.c;have Kj:Int.toNat 0=0:=rfl;have e11:Int.toNat 1=1:=rfl;refine enter (fn:=Tryz.f173) Tryz.func173 rfl rfl rfl rfl ?_;refine k1 rfl (by kernel_rfl) (by simp only[ae,and_true,Kj,e11,hf,List.length_cons,List.length_nil,List.getD_cons_zero,List.getD_cons_succ]<;>omega) ?_;exact aF rfl ⟨rfl,rfl,rfl⟩
theorem Ri(u:dW)(L:List Int)(n:Int)(b:ia)(hf:u.aC.length=L.length)(hL:L.length<=8):
 aO Tryz.prog 174 [SE u L n b] (.cJ true 3 default xh ((List.range u.aC.length).flatMap (cA L b u))):=by
 refine enter (fn:=Tryz.f174) Tryz.func174 rfl rfl rfl rfl ?_;refine r0 rfl ?_;refine loop (fun k:Nat=>[(1,.box true (SE u L n b)),(3,.cJ true 3 default xh ((List.range k).flatMap (cA L b u))),(8,.cJ false 2 default vp u.aC),(9,.i u.aC.length),(10,.i k)])
  (fun k=>k<=u.aC.length) (fun k=>u.aC.length-k) 0 (Nat.zero_le _) ⟨⟨rfl,rfl⟩,⟨rfl,rfl⟩,⟨rfl,rfl⟩,⟨rfl,rfl⟩,⟨rfl,rfl⟩,trivial⟩ ?_
 intro k hk;have MV:((List.range k).flatMap (cA L b u)).length<=k*3:=fm (f:=cA L b u) (c:=3) (fun k=>by simp[cA]) k;refine r0 rfl ?_;refine br rfl rfl rfl (fun h4=>?_) (fun h4=>?_)
 ·have qO:k<u.aC.length:=by omega
  have ek:(k:Int).toNat=k:=by omega
  refine k1 rfl (by kernel_rfl) (by simp only[ae,and_true,ek,len,List.length_map,List.length_cons,List.length_nil]<;>omega) ?_;refine again (k+1) (by omega) (by omega) ⟨⟨rfl,rfl⟩,⟨rfl,rfl,rfl,?_⟩,⟨rfl,rfl⟩,⟨rfl,rfl⟩,⟨rfl,rfl⟩,trivial⟩;rw[ee,jN,List.map_append,ek];exact qT.refl _
 have:k=u.aC.length:=by omega
 subst this;refine r0 rfl ?_;exact aF rfl (au.refl _)
theorem Rg(u:dW)(L:List Int)(n:Int)(b:ia)(hf:u.aC.length=1)(hL:L.length=1):
 aO Tryz.prog 175 [SE u L n b] (.cJ true 3 default xh (cT L n b u)):=by
 have Kj:Int.toNat 0=0:=rfl;refine enter (fn:=Tryz.f175) Tryz.func175 rfl rfl rfl rfl ?_;refine k1 rfl (by kernel_rfl) (by simp only[ae,and_true,Kj,hf,hL]<;>omega) ?_;exact aF rfl ⟨rfl,rfl,rfl⟩
def Ki(p:ru)(rs:List iv)(b:ia)(S:List Int)(I:List (List Int)):SV:=
 .agg [.i p.n,.cJ false 5 default gN p.ah,.ints .i64 false p.ints,.cJ false 2 default jB rs,.i b.c,.i b.d,.i b.s,.i b.g,.ints .i64 false S,.cJ false 1 [] (SV.ints .i64 false) I]
theorem Q7(rs:List iv)(b:ia){s:Nat}(h:s<rs.length):(lA rs b).getD s 0=Ra rs b s:=by unfold lA Ra;rw[List.getD_eq_getElem?_getD,List.getD_eq_getElem?_getD,List.getElem?_map,List.getElem?_eq_getElem h];rfl
theorem OE(rs:List iv)(b:ia)(u:dW):(jd rs b u).length=u.aC.length:=by simp[jd]
theorem td(rs:List iv)(b:ia)(u:dW){k:Nat}(h:k<u.aC.length):(jd rs b u).getD k 0=uU rs b u k:=by unfold jd;rw[List.getD_eq_getElem?_getD,List.getElem?_map,List.getElem?_range h];rfl
theorem OF(rs:List iv)(b:ia)(us:List dW){i:Nat}(h:i<us.length):(oq rs b us).getD i []=jd rs b us[i]:=by unfold oq;rw[List.getD_eq_getElem?_getD,List.getElem?_map,List.getElem?_eq_getElem h];rfl
theorem RU(rs:List iv)(b:ia)(u:dW){n:Int}(hu:o6 n u)(hr:XE n rs)(hl:rs.length<2^40)(bj:u.aC.length<2^40)(hb:MO b):∀x∈jd rs b u,Lim x:=by intro x hx;unfold jd at hx;rw[List.mem_map]at hx;obtain⟨k,hk,rfl⟩:=hx;have hk:=List.mem_range.1 hk;obtain⟨-,c2,c3⟩:=LW rs b u k hu hk hr hl bj hb;unfold Lim;omega
theorem ZS(rs:List iv)(b:ia)(u:dW)(h:u.aC.length=2):cI (jd rs b u) b u=I2 rs b u:=by unfold cI I2;rw[td rs b u (by omega),td rs b u (by omega)]
theorem ZT(rs:List iv)(b:ia)(u:dW):(List.range u.aC.length).flatMap (cA (jd rs b u) b u)=(List.range u.aC.length).flatMap (GU rs b u):=by
 have:∀k∈List.range u.aC.length,cA (jd rs b u) b u k=GU rs b u k:=by intro k hk;unfold cA GU;rw[td rs b u (List.mem_range.1 hk)]
 rw[List.flatMap_def,List.flatMap_def,List.map_congr_left this]
theorem ZR(rs:List iv)(b:ia)(u:dW)(n:Int)(h:u.aC.length=1):cT (jd rs b u) n b u=PS n rs b u:=by unfold cT PS;rw[td rs b u (by omega)]
theorem tH(p:ru)(h:M3 p)(n:Nat)(hn:p.n=n)(hn2:n<=100)(Yo:p.ah.length<=96)(hv:∀u∈p.ah,o6 p.n u)(rs:List iv)(b:ia)(hr:XE p.n rs)(hb:MO b):
 aO Tryz.prog 41 [.box false (Ki p rs b (lA rs b) (oq rs b p.ah))] (.bC [.cJ true 3 default xh (vB n p.ah rs b),.i ((n+Bc p.ah p.ah.length:Nat):Int)]):=by
 have FO:=h.ah;have VF:rs.length=n:=by have:=hr.len;omega
 have yV:(lA rs b).length=n:=by simp[lA,VF]
 have L9:(oq rs b p.ah).length=p.ah.length:=by simp[oq]
 have hU:∀i,(hi:i<p.ah.length)->(GS ((n+Bc p.ah i:Nat):Int) rs b (p.ah.getD i default)).length<=24:=by
  intro i hi;have hu:=hv _ (List.getElem_mem hi);rw[bk hi];unfold GS;split
  ·simp[I2]
  split
  ·rename_i g;have:=fm (f:=GU rs b p.ah[i]) (c:=3) (fun k=>by simp[GU]) p.ah[i].aC.length;have:=(hu.add g).2.1;omega
  split
  ·simp[PS]
  simp
 have hto:∀i,i<=p.ah.length->(tJ n p.ah rs b i).length<=200+24*i:=by
  intro i
  induction i with
  |zero=>intro _;have:=fm (f:=PT rs b) (c:=2) (fun k=>by simp[PT]) n;simp only[tJ,Ab,List.range_zero,List.flatMap_nil,List.append_nil];omega
  |succ i ih=>intro hi;have:=ih (by omega);have:=hU i (by omega);rw[Aa,List.length_append];omega
 refine enter (fn:=Tryz.f41) Tryz.func41 rfl rfl rfl rfl ?_;refine r0 rfl ?_;refine loop (fun s:Nat=>[(0,.box false (Ki p rs b (lA rs b) (oq rs b p.ah))),(4,.cJ true 3 default xh (Ab rs b s)),(14,.ints .i64 false (lA rs b)),(15,.i (lA rs b).length),(16,.i s)]) (fun s=>s<=n) (fun s=>n-s) 0 (Nat.zero_le _) ⟨⟨rfl,rfl⟩,⟨rfl,rfl⟩,⟨rfl,rfl⟩,⟨rfl,rfl⟩,⟨rfl,rfl⟩,trivial⟩ ?_;intro s hs;have af6:(Ab rs b s).length<=s*2:=fm (f:=PT rs b) (c:=2) (fun k=>by simp[PT]) s;refine r0 rfl ?_;refine br rfl rfl rfl (fun h1=>?_) (fun h1=>?_)
 ·have ON:s<n:=by omega
  have es:(s:Int).toNat=s:=by omega
  have eg:=Q7 rs b (show s<rs.length by omega);refine r1 rfl (by simp only[ae,and_true,es,yV,len,List.length_map,List.length_cons,List.length_nil]<;>omega) ?_;rw[es,eg];refine again (s+1) (by omega) (by omega) ⟨⟨rfl,rfl⟩,⟨rfl,rfl,rfl,?_⟩,⟨rfl,rfl⟩,⟨rfl,rfl⟩,⟨rfl,rfl⟩,trivial⟩;rw[ee,Ab,Ab,jN,List.map_append];exact qT.refl _
 have:s=n:=by omega
 subst this;have h0:Ab rs b s=tJ s p.ah rs b 0:=by unfold tJ;simp
 rw[h0];refine r0 rfl ?_;refine cl rfl rfl Rf rfl ?_;refine r0 rfl ?_;refine loop (fun i:Nat=>[(0,.box false (Ki p rs b (lA rs b) (oq rs b p.ah))),(4,.cJ true 3 default xh (tJ s p.ah rs b i)),(7,.mp (yB Tq)),(8,.i ((s+Bc p.ah i:Nat):Int)),(40,.cJ false 5 default gN p.ah),(41,.i p.ah.length),(42,.i i)])
  (fun i=>i<=p.ah.length) (fun i=>p.ah.length-i) 0 (Nat.zero_le _) ⟨⟨rfl,rfl⟩,⟨rfl,rfl⟩,⟨rfl,rfl⟩,⟨rfl,au.of_eq (congrArg SV.i (by rw[hn];simp[Bc]))⟩,⟨rfl,rfl⟩,⟨rfl,rfl⟩,⟨rfl,rfl⟩,trivial⟩ ?_
 intro i hi;refine r0 rfl ?_;refine br rfl rfl rfl (fun h1=>?_) (fun h1=>?_)
 ·have cO:i<p.ah.length:=by omega
  have ei:(i:Int).toNat=i:=by omega
  have eg:p.ah.getD i default=p.ah[i]:=bk cO;have hu:=hv _ (List.getElem_mem cO);have Vz:=(h.unit _ (List.getElem_mem cO)).aC;have hlen:=hto i hi;have ny:=Aa s p.ah rs b i;have V6:=Mx cO;have B6:=SO p.ah i;have hig:=OF rs b p.ah cO;rw[eg]at ny;obtain⟨u,eu⟩:∃u,p.ah[i]=u:=⟨_,rfl⟩;rw[eu]at hu Vz ny V6 hig eg;have ab0:=RU rs b u hu hr (by omega) Vz hb;have YE:=OE rs b u;have kIA:=De;have kIT:=xz;have kAT:=Df;refine r1 rfl (by simp only[ae,and_true,ei]<;>omega) ?_;rw[ei,eg];by_cases h2:u.kind=di
  ·have YH:¬u.kind=iA:=by rw[h2];exact kIT
   have hf2:=(hu.int h2).1;rw[if_neg YH]at V6;unfold GS at ny;rw[if_pos h2]at ny;refine Qx (sJ 173) rfl rfl rfl (eG (k:=u.kind) (x:=sJ 173) Tryz.underlying174 Tryz.underlying9 (v:=sI 173) (by rw[h2];rfl) rfl false) rfl ?_;refine r1 rfl (by simp only[ae,and_true,ei,L9]<;>omega) ?_;rw[ei,hig];refine cd rfl rfl (Rh u (jd rs b u) _ b hb hf2 (by omega) ab0) rfl ?_;rw[ZS rs b u hf2];refine k1 rfl (by kernel_rfl) (by simp only[ae,and_true,len,List.length_map,I2,List.length_cons,List.length_nil];exact⟨fun _=>rfl,fun _=>rfl,by omega⟩) ?_;refine br rfl rfl rfl (fun h3=>absurd h3 YH) (fun _=>?_);refine r1 rfl (by simp only[ae,and_true]<;>omega) ?_;refine again (i+1) (by omega) (by omega) ⟨⟨rfl,rfl⟩,⟨rfl,rfl,rfl,?_⟩,⟨rfl,rfl⟩,⟨rfl,au.of_eq (congrArg SV.i (by rw[V6];rfl))⟩,⟨rfl,rfl⟩,⟨rfl,rfl⟩,⟨rfl,rfl⟩,trivial⟩;rw[ee,ny,List.map_append];exact qT.refl _
  unfold GS at ny;rw[if_neg h2]at ny;by_cases h3:u.kind=oo
  ·have YH:¬u.kind=iA:=by rw[h3];exact kAT
   rw[if_neg YH]at V6;rw[if_pos h3]at ny;have hf8:=(hu.add h3).2.1;have bj:=fm (f:=GU rs b u) (c:=3) (fun k=>by simp[GU]) u.aC.length;refine Qx (sJ 174) rfl rfl rfl (eG (k:=u.kind) (x:=sJ 174) Tryz.underlying174 Tryz.underlying9 (v:=sI 174) (by rw[h3];rfl) rfl false) rfl ?_;refine r1 rfl (by simp only[ae,and_true,ei,L9]<;>omega) ?_;rw[ei,hig];refine cd rfl rfl (Ri u (jd rs b u) _ b YE.symm (by omega)) rfl ?_;rw[ZT rs b u];refine k1 rfl (by kernel_rfl) (by simp only[ae,and_true,len,List.length_map];exact⟨fun _=>rfl,fun _=>rfl,by omega⟩) ?_;refine br rfl rfl rfl (fun h4=>absurd h4 YH) (fun _=>?_);refine r1 rfl (by simp only[ae,and_true]<;>omega) ?_;refine again (i+1) (by omega) (by omega) ⟨⟨rfl,rfl⟩,⟨rfl,rfl,rfl,?_⟩,⟨rfl,rfl⟩,⟨rfl,au.of_eq (congrArg SV.i (by rw[V6];rfl))⟩,⟨rfl,rfl⟩,⟨rfl,rfl⟩,⟨rfl,rfl⟩,trivial⟩;rw[ee,ny,List.map_append];exact qT.refl _
  rw[if_neg h3]at ny;have h4:u.kind=iA:=by
   rcases hu.kind with g|g|g
   ·exact absurd g h2
   ·exact absurd g h3
   exact g
  rw[if_pos h4]at ny V6;have TX:=(hu.table h4).1;refine Qx (sJ 175) rfl rfl rfl (eG (k:=u.kind) (x:=sJ 175) Tryz.underlying174 Tryz.underlying9 (v:=sI 175) (by rw[h4];rfl) rfl false) rfl ?_;refine r1 rfl (by simp only[ae,and_true,ei,L9]<;>omega) ?_;rw[ei,hig];refine cd rfl rfl (Rg u (jd rs b u) _ b TX (by omega)) rfl ?_;rw[ZR rs b u _ TX];refine k1 rfl (by kernel_rfl) (by simp only[ae,and_true,len,List.length_map,PS,List.length_cons,List.length_nil];exact⟨fun _=>rfl,fun _=>rfl,by omega⟩) ?_;refine br rfl rfl rfl (fun _=>?_) (fun h5=>absurd h4 h5);refine r1 rfl (by simp only[ae,and_true]<;>omega) ?_;refine again (i+1) (by omega) (by omega) ⟨⟨rfl,rfl⟩,⟨rfl,rfl,rfl,?_⟩,⟨rfl,rfl⟩,⟨rfl,au.of_eq (congrArg SV.i (by rw[V6];omega))⟩,⟨rfl,rfl⟩,⟨rfl,rfl⟩,⟨rfl,rfl⟩,trivial⟩;rw[ee,ny,List.map_append];exact qT.refl _
 have:i=p.ah.length:=by omega
 subst this;refine r0 rfl ?_;exact aF rfl (au.refl _)
structure OpV(p:ru)(rs:List iv)(b:ia):Prop where
 ae8:jY p=0
 n1:1<=p.n
 n:p.n<=100
 ah:p.ah.length<=96
 val:∀u∈p.ah,o6 p.n u
 rg:XE p.n rs
 sp:∀s∈rs,XD s
 bn:MO b
theorem Lj{p:ru}(h:jY p=0):1<=p.n/\p.n<=100/\p.ah.length<=96/\∀u∈p.ah,o6 p.n u:=by
 unfold jY at h;split at h
 ·simp at h
 rename_i h1;split at h
 ·simp at h
 rename_i h2;split at h
 ·rename_i h3;exact absurd h h3
 rename_i h3;refine⟨by omega,by omega,by omega,fun u hu=>?_⟩;exact xK (dj.1 (by simpa using h3) u hu)
theorem uH{p:ru}{rs:List iv}{b:ia}(h:py p rs b=0):OpV p rs b:=by
 have h1:lG p rs=0:=by apply Decidable.byContradiction;intro g;unfold py at h;rw[if_pos g]at h;exact g h
 have h2:oG b=0:=by unfold py at h;rwa[if_neg (by rw[h1];simp)]at h
 have h3:jY p=0:=by apply Decidable.byContradiction;intro g;unfold lG at h1;rw[if_pos g]at h1;exact g h1
 have h4:mr p.n rs=0:=by unfold lG at h1;rwa[if_neg (by rw[h3];simp)]at h1
 obtain⟨a1,a2,a3,a4⟩:=Lj h3;refine⟨h3,a1,a2,a3,a4,CQ h4,fun s hs=>?_,wT.1 h2⟩;unfold mr at h4;split at h4
 ·simp at h4
 exact xY (dj.1 h4 s hs)
theorem HS(p:ru)(h:M3 p)(rs:List iv)(hx:∀s∈rs,dq s.lo/\dq s.hi)(hl:rs.length<2^40)(b:ia)(he:py p rs b=0):
 aO Tryz.prog 40 [fo p,.cJ false 2 default jB rs,eK b] (.bC [.box true (tx p rs b (lA rs b) (oq rs b p.ah)),.i 0]):=
 have v:=uH he
 Rt p h rs hx hl b he v.val v.rg v.sp v.bn v.ah v.n
theorem LK(p:ru)(h:M3 p)(rs:List iv)(hx:∀s∈rs,dq s.lo/\dq s.hi)(hl:rs.length<2^40)(b:ia)(he:py p rs b=0):
 aO Tryz.prog 10 [fo p,.cJ false 2 default jB rs,eK b] (.bC [.ints .i64 false (lA rs b),.cJ false 1 [] (SV.ints .i64 false) (oq rs b p.ah),.i 0]):=by
 refine enter (fn:=Tryz.f10) Tryz.func10 rfl rfl rfl rfl ?_;refine r0 rfl ?_;refine cl rfl rfl (HS p h rs hx hl b he) rfl ?_;refine r0 rfl ?_;refine br rfl rfl rfl (fun g=>absurd rfl g) (fun _=>?_);refine nV (r:=9) (p:=[]) rfl rfl trivial ?_;refine k0 rfl (by kernel_rfl) ?_;exact aF rfl (au.refl _)
theorem PQ(p:ru)(h:M3 p)(rs:List iv)(hx:∀s∈rs,dq s.lo/\dq s.hi)(hl:rs.length<2^40)(b:ia)(he:py p rs b=0):
 aO Tryz.prog 11 [fo p,.cJ false 2 default jB rs,eK b] (.bC [.cJ true 3 default xh (vB p.n.toNat p.ah rs b),.i 0]):=by
 have v:=uH he;have hn:p.n=(p.n.toNat:Int):=by have:=v.n1;omega
 refine enter (fn:=Tryz.f11) Tryz.func11 rfl rfl rfl rfl ?_;refine r0 rfl ?_;refine cl rfl rfl (HS p h rs hx hl b he) rfl ?_;refine r0 rfl ?_;refine br rfl rfl rfl (fun g=>absurd rfl g) (fun _=>?_);refine r0 rfl ?_;refine call rfl rfl trivial (tH p h p.n.toNat hn (by have:=v.n;omega) v.ah v.val rs b v.rg v.bn) rfl ⟨fun _=>rfl,trivial⟩ ?_;refine r0 rfl ?_;exact aF rfl (au.refl _)
end Go.Ai.Pg
