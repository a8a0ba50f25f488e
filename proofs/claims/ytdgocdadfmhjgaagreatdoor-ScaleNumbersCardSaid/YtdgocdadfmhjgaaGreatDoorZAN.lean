/- Parts of the proof of ScaleNumbers (CheckBench, Exponent and Largest answer as the reference does), at every input, with no further conditions. -/
import Derived.Test.YtdgocdadfmhjgaaGreatDoorZAM
set_option linter.unusedVariables false
set_option linter.unusedSimpArgs false
namespace Go.Ai.Pg
open Go.Proofs Go.Ai Go.Ai.b6
set_option maxRecDepth 100000
def GI(s:bw):Bool:=jQ s&& !decide (s=[])
theorem SH(s:bw)(hl:s.length<2^60):aO Tryz.prog 188 [.s s] (.u (GI s)):=by
 refine enter (fn:=Tryz.f188) Tryz.func188 rfl rfl rfl rfl ?_;refine r0 rfl ?_;refine loop (fun i:Nat=>[(0,.s s),(5,.i s.length),(6,.i i)]) (fun i=>i<=s.length/\∀k,k<i->48<=(s.getD k 0).toNat/\(s.getD k 0).toNat<=57) (fun i=>s.length-i) 0 ⟨Nat.zero_le _,fun k h=>by omega⟩ ⟨⟨rfl,rfl⟩,⟨rfl,rfl⟩,⟨rfl,rfl⟩,trivial⟩ ?_;rintro i⟨hi,hb⟩;refine r0 rfl ?_;refine br rfl rfl rfl (fun h=>?_) (fun h=>?_)
 ·have cO:i<s.length:=by omega
  have ei:(i:Int).toNat=i:=by omega
  have bad:¬(48<=(s.getD i 0).toNat/\(s.getD i 0).toNat<=57)->false=GI s:=by
   intro hn;symm;unfold GI;rw[Bool.and_eq_false_iff];left;rw[Bool.eq_false_iff];intro ht;have:=kf.1 ht s[i] (List.getElem_mem cO);have e:s.getD i 0=s[i]:=by simp[List.getD_eq_getElem?_getD,List.getElem?_eq_getElem cO]
   rw[<-e]at this;exact hn this
  refine r1 rfl (by simp only[ae,and_true,ei];omega) ?_;refine aB 13 rfl (fun h1=>?_) (fun h1=>?_)
  ·rw[ei]at h1;refine r0 rfl ?_;exact aF rfl (bad (by omega))
  rw[ei]at h1;refine r1 rfl (by simp only[ae,and_true,ei];omega) ?_;refine br rfl rfl rfl (fun h2=>?_) (fun h2=>?_)
  ·rw[ei]at h2;refine r0 rfl ?_;exact aF rfl (bad (by omega))
  rw[ei]at h2;refine r1 rfl (by simp only[ae,and_true];omega) ?_;refine again (i+1) (by omega) ⟨by omega,fun k hk=>?_⟩ ⟨⟨rfl,rfl⟩,⟨rfl,rfl⟩,⟨rfl,rfl⟩,trivial⟩;rcases Nat.lt_or_ge k i with g|g
  ·exact hb k g
  rw[show k=i by omega];omega
 have iC:jQ s=true:=by
  rw[kf];intro c hc;obtain⟨k,hk,rfl⟩:=List.getElem_of_mem hc;have e:s.getD k 0=s[k]:=by simp[List.getD_eq_getElem?_getD,List.getElem?_eq_getElem hk]
  rw[<-e];exact hb k (by omega)
 refine r0 rfl ?_;refine aF rfl (au.of_eq (congrArg SV.u ?_));unfold GI;rw[iC,Bool.true_and];exact decide_not
theorem Hv(s:bw)(hl:s.length<2^60):aO Tryz.prog 107 [.s s] (.u (dU s)):=by
 refine enter (fn:=Tryz.f107) Tryz.func107 rfl rfl rfl rfl ?_;refine r0 rfl ?_;refine cl rfl rfl (SH s hl) rfl ?_;refine r0 rfl ?_;refine gS 5 rfl (fun h=>?_) (fun h=>?_)
 ·have h:GI s=true:=h;unfold GI at h;simp only[Bool.and_eq_true,Bool.not_eq_true',decide_eq_false_iff_not]at h;have hp:=List.length_pos_iff.2 h.2;refine r0 rfl ?_;refine aB 8 rfl (fun g=>?_) (fun g=>?_)
  ·have g:s=[48]:=g;subst g;refine r0 rfl ?_;exact aF rfl (show true=dU [48] by decide)
  have g:¬s=[48]:=g;refine r1 rfl (by simp only[ae,and_true]<;>omega) ?_;refine aF rfl (au.of_eq (congrArg SV.u ?_));unfold dU;rw[if_neg (by omega),h.1];by_cases k:(s.getD 0 0).toNat=48
  ·have h1:1<s.length:=by
    match s,hp with
    |[c],_=>exact absurd (congrArg (fun x=>[x]) (UInt8.toNat_inj.1 (show c.toNat=(48:UInt8).toNat by simpa using k))) g
    |_::_::_,_=>simp
   rw[if_pos ⟨h1,k⟩];exact decide_eq_false (fun hh=>hh (by show((s.getD (Int.toNat 0) 0).toNat:Int)=48;have:Int.toNat 0=0:=rfl;rw[this];omega))
  rw[if_neg (fun hh=>k hh.2)];exact decide_eq_true (fun hh=>k (by have hh:((s.getD (Int.toNat 0) 0).toNat:Int)=48:=hh;have:Int.toNat 0=0:=rfl;rw[this]at hh;omega))
 have h:GI s=false:=h;refine r0 rfl ?_;refine aF rfl ?_;show false=dU s;unfold GI at h;unfold dU;rw[Bool.and_eq_false_iff]at h;rcases h with h|h
 ·rw[h];split;rfl;split<;>rfl
 simp only[Bool.not_eq_false',decide_eq_true_eq]at h;subst h;rfl
theorem Tf(s:bw)(hs:cp s)(h0:0<s.length)(hl:s.length<=18):aO Tryz.prog 237 [.s s] (.bC [.i (bL s),.c .nilIface]):=by
 refine enter (fn:=Tryz.f237) Tryz.func237 rfl rfl rfl rfl ?_;refine r0 rfl ?_;refine aB 25 rfl (fun _=>?_) (fun h=>absurd (show(0:Int)<s.length by omega) h);refine r0 rfl ?_;refine br rfl rfl rfl (fun _=>?_) (fun h=>absurd (show(s.length:Int)<19 by omega) h);have Sg:48<=(s.getD 0 0).toNat/\(s.getD 0 0).toNat<=57:=by
  have hm:s.getD 0 0∈s:=by simp[List.getD_eq_getElem?_getD,List.getElem?_eq_getElem h0]
  exact hs _ hm
 have e0:(0:Int).toNat=0:=rfl;refine r1 rfl (by simp only[ae,and_true]<;>omega) ?_;refine aB 35 rfl (fun h=>absurd h (by rw[e0];omega)) (fun _=>?_);refine r1 rfl (by simp only[ae,and_true]<;>omega) ?_;refine br rfl rfl rfl (fun h=>absurd h (by rw[e0];omega)) (fun _=>?_);refine r0 rfl ?_;refine ex rfl rfl rfl (IZ s rfl rfl rfl rfl) rfl ?_;refine r0 rfl ?_;have F6:(s.map fun c=>(c.toNat:Int)).length=s.length:=by simp
 refine loop (fun i:Nat=>[(5,.s s),(6,.i (bL (s.take i))),(47,.ints .u8 false (s.map fun c=>(c.toNat:Int))),(48,.i s.length),(49,.i i)]) (fun i=>i<=s.length) (fun i=>s.length-i) 0 (by omega) ⟨⟨rfl,rfl⟩,⟨rfl,rfl⟩,⟨rfl,rfl⟩,⟨rfl,au.of_eq (congrArg SV.i (by rw[F6]))⟩,⟨rfl,rfl⟩,trivial⟩ ?_;intro i hi;refine r0 rfl ?_;refine br rfl rfl rfl (fun h=>?_) (fun h=>?_)
 ·have cO:i<s.length:=by omega
  have ei:(i:Int).toNat=i:=by omega
  have hc:(s.map fun c=>(c.toNat:Int)).getD i 0=(s[i].toNat:Int):=by rw[bk (by omega)];simp
  have hd:=hs s[i] (List.getElem_mem cO);have hv:=jK (s:=s.take i) fun c hc=>hs c (List.mem_of_mem_take hc);have hp:10^(s.take i).length<=10^17:=Nat.pow_le_pow_right (by decide) (by simp;omega);refine r1 rfl (by simp only[ae,and_true,ei,hc,F6];omega) ?_;have hw:IntKind.u8.wrap ((s[i].toNat:Int)-48)=(s[i].toNat:Int)-48:=by have e:IntKind.u8.wrap ((s[i].toNat:Int)-48)=((s[i].toNat:Int)-48)%256:=rfl;rw[e];omega
  refine br rfl rfl rfl (fun h=>absurd h (by rw[ei,hc,hw];omega)) (fun _=>?_);refine r1 rfl (by simp only[ae,and_true,ei,hc,hw];omega) ?_;refine again (i+1) (by omega) (by omega) ⟨⟨rfl,rfl⟩,⟨rfl,au.of_eq (congrArg SV.i ?_)⟩,⟨rfl,rfl⟩,⟨rfl,rfl⟩,⟨rfl,rfl⟩,trivial⟩;rw[ei,hc,hw,List.take_succ_eq_append_getElem cO,qu];omega
 have:i=s.length:=by omega
 subst this;refine r1 rfl (by simp only[ae,and_true]<;>omega) ?_;refine br rfl rfl rfl (fun h=>absurd h (by rw[e0];omega)) (fun _=>?_);refine r0 rfl ?_;refine aF rfl ⟨au.of_eq (congrArg SV.i ?_),rfl,trivial⟩;rw[List.take_of_length_le (Nat.le_refl _)]
theorem Qc(s:bw)(hs:cp s)(h0:0<s.length)(hl:s.length<=18):aO Tryz.prog 193 [.s s] (.bC [.i (bL s),.c .nilIface]):=by refine enter (fn:=Tryz.f193) Tryz.func193 rfl rfl rfl rfl ?_;refine r0 rfl ?_;refine cl rfl rfl (Tf s hs h0 hl) rfl ?_;refine r0 rfl ?_;refine ex rfl rfl rfl (RD rfl rfl) rfl ?_;refine r0 rfl ?_;exact aF rfl (au.refl _)
theorem xv{a:Nm}{L:Nat}(h:(nv a).natAbs<10^L):dL a L:=by
 unfold dL;rcases Nat.eq_zero_or_pos (nv a).natAbs with h0|h0
 ·rw[h0,b6.b9];simp
 have h1:=Kl h0;have h2:(10:Nat)^L<=18446744073709551616^L:=Nat.pow_le_pow_left (by decide) L;have h3:(18446744073709551616:Nat)^((b6.aa (nv a).natAbs).length-1)<18446744073709551616^L:=Nat.lt_of_le_of_lt h1 (Nat.lt_of_lt_of_le h h2);have h4:=(Nat.pow_lt_pow_iff_right (by decide)).1 h3;exact Nat.le_of_pred_lt h4
theorem Ye{R:Option Nat->Prop}{N:Nat}{F:St->Prop}{k:List It}{l:aP}{c:Code}(l':List (Nat×SV))(hf:rA l l')(h:AK R Tryz.prog N F (.code c::k) (sl l')):AK R Tryz.prog N F (.code c::k) l:=vH hf h
theorem Of(a b:Nat):qM true (a:Int) (b:Int)=((min a b:Nat):Int):=by simp only[qM];omega
def rdStep(t:bw)(a:Nm):Nm:=tY (gV a (uE ⟨10,none⟩ (min 18 t.length))) ⟨bL (t.take 18),none⟩
def yb:Nat->bw->Nm->Nm
 |0,_,a=>a
 |k+1,t,a=>if t.length=0 then a else yb k (t.drop 18) (rdStep t a)
def iK(s:bw):Nm:=if isNeg s then gE (yb (ba s).length (ba s) ⟨0,none⟩)else yb (ba s).length (ba s) ⟨0,none⟩
theorem Hx:aV ⟨10,none⟩:=show(-9223372036854775808:Int)<=10/\(10:Int)<=9223372036854775807 by decide
theorem Jk:aV ⟨0,none⟩:=show(-9223372036854775808:Int)<=0/\(0:Int)<=9223372036854775807 by decide
theorem EI{n:Nat}(h:n<10^18):aV ⟨n,none⟩:=show(-9223372036854775808:Int)<=n/\(n:Int)<=9223372036854775807 by omega
theorem uq{t:bw}(h:cp t):bL (t.take 18)<10^18:=by have h1:=jK (s:=t.take 18) fun c hc=>h c (List.mem_of_mem_take hc);exact Nat.lt_of_lt_of_le h1 (Nat.pow_le_pow_right (by decide) (by simp;omega))
theorem wg{t:bw}{a:Nm}(h:cp t)(ha:aV a):nv (rdStep t a)=nv a*10^min 18 t.length+bL (t.take 18)/\aV (rdStep t a):=by obtain⟨p1,p2⟩:=nc ⟨10,none⟩ (min 18 t.length) Hx;obtain⟨m1,m2⟩:=bP a (uE ⟨10,none⟩ (min 18 t.length)) ha p2;obtain⟨s1,s2⟩:=iU _ ⟨bL (t.take 18),none⟩ m2 (EI (uq h));refine⟨?_,s2⟩;unfold rdStep;rw[s1,m1,p1];rfl
theorem wW{t:bw}(h:cp t)(n:Nat):cp (t.drop n):=fun c hc=>h c (List.mem_of_mem_drop hc)
theorem BD:∀(k:Nat)(t:bw)(a:Nm),cp t->t.length<=k->aV a->nv (yb k t a)=nv a*10^t.length+bL t/\aV (yb k t a)
 |0,t,a,h,hk,ha=>by have:t=[]:=List.eq_nil_of_length_eq_zero (by omega);subst this;refine⟨?_,ha⟩;show nv a=nv a*10^0+((bL []:Nat):Int);have:bL []=0:=rfl;rw[this];simp
 |k+1,t,a,h,hk,ha=>by
  rw[yb];split
  ·rename_i h0;have:t=[]:=List.eq_nil_of_length_eq_zero h0;subst this;refine⟨?_,ha⟩;show nv a=nv a*10^0+((bL []:Nat):Int);have:bL []=0:=rfl;rw[this];simp
  obtain⟨e1,e2⟩:=wg h ha;obtain⟨g1,g2⟩:=BD k (t.drop 18) (rdStep t a) (wW h 18) (by simp;omega) e2;refine⟨?_,g2⟩;have hs:=pA (t.take 18) (t.drop 18);rw[List.take_append_drop]at hs;rw[g1,e1,hs];have hl:min 18 t.length+(t.drop 18).length=t.length:=by simp;omega
  have:(10:Int)^t.length=10^min 18 t.length*10^(t.drop 18).length:=by rw[<-Int.pow_add,hl]
  rw[this]
  push_cast
  grind
theorem lF{s:bw}(h:cp (ba s)):nv (iK s)=yP s/\aV (iK s):=by
 obtain⟨e1,e2⟩:=BD (ba s).length (ba s) ⟨0,none⟩ h (Nat.le_refl _) Jk;have e1:nv (yb (ba s).length (ba s) ⟨0,none⟩)=bL (ba s):=by rw[e1];show(0:Int)*_+_=_;rw[Int.zero_mul,Int.zero_add]
 unfold iK yP;by_cases g:isNeg s=true
 ·rw[if_pos g,g];obtain⟨n1,n2⟩:=cX _ e2;exact⟨by rw[n1,e1];rfl,n2⟩
 have g:isNeg s=false:=by simpa using g
 rw[g];exact⟨e1,e2⟩
theorem sO{s:bw}(h:cp (ba s)):dL (iK s) (ba s).length:=by
 refine xv ?_;rw[(lF h).1];have:=jK h;unfold yP;cases isNeg s
 ·show((bL (ba s):Nat):Int).natAbs<_;simpa using this
 show(-((bL (ba s):Nat):Int)).natAbs<_;simpa using this
theorem ya(s:bw)(h:cp (ba s))(hl:s.length<2^20):aO Tryz.prog 109 [.s s] (eN (iK s)):=by
 have F6:=tS s;refine enter (fn:=Tryz.f109) Tryz.func109 rfl rfl rfl rfl ?_;refine r0 rfl ?_;refine cl rfl rfl (Wc s (by omega)) rfl ?_;refine r0 rfl ?_;refine cl rfl rfl (QX s (by omega)) rfl ?_;refine r0 rfl ?_;refine Ye [(0,.s (ba s)),(2,.box true (.agg [.i 0,.nil])),(3,.u (isNeg s)),(4,.box true (eN ⟨0,none⟩))] ⟨.inl ⟨rfl,rfl,ry.of_le (qf.refl _)⟩,.inl ⟨rfl,rfl,ry.of_le (qf.refl _)⟩,.inl ⟨rfl,rfl,ry.of_le (qf.refl _)⟩,.inl ⟨rfl,rfl,ry.of_le (qf.refl _)⟩,trivial⟩ ?_;refine lP (fun(t:bw)(a:Nm)=>[(0,.s t),(2,.box true (.agg [.i 0,.nil])),(3,.u (isNeg s)),(4,.box true (eN a))])
  (fun t a=>cp t/\aV a/\(∃m,yb m t a=yb (ba s).length (ba s) ⟨0,none⟩/\t.length<=m)/\t.length<=(ba s).length/\nv a*10^t.length+bL t=bL (ba s)/\0<=nv a) (fun t _=>t.length) (ba s) ⟨0,none⟩ ?_ ?_ ?_
 ·exact⟨h,Jk,⟨_,rfl,Nat.le_refl _⟩,Nat.le_refl _,by show(0:Int)*_+_=_;rw[Int.zero_mul,Int.zero_add],Int.le_refl 0⟩
 ·exact⟨⟨rfl,rfl⟩,⟨rfl,rfl⟩,⟨rfl,rfl⟩,⟨rfl,rfl⟩,trivial⟩
 rintro t a⟨h1,h2,⟨m,h3,h4⟩,h5,h6,h7⟩;have ha:dL a (ba s).length:=by
  refine xv ?_;have hv:=jK h;have hp:(1:Int)<=10^t.length:=by have:0<10^t.length:=Nat.pow_pos (show 0<10 by decide);exact_mod_cast this
  have hm:nv a<=nv a*10^t.length:=by have:=Int.mul_le_mul_of_nonneg_left hp h7;rwa[Int.mul_one]at this
  have hc:(bL (ba s):Int)<((10^(ba s).length:Nat):Int):=by exact_mod_cast hv
  generalize (10^(ba s).length:Nat)=X at hc⊢;omega
 refine r0 rfl ?_;refine br rfl rfl rfl (fun g=>?_) (fun g=>?_)
 ·have g:0<t.length:=by omega
  have em:((min 18 t.length:Nat):Int)=min 18 (t.length:Int):=by omega
  have et:t.take (min 18 t.length)=t.take 18:=by
   rcases Nat.le_total 18 t.length with k|k
   ·rw[Nat.min_eq_left k]
   rw[Nat.min_eq_right k,List.take_of_length_le (Nat.le_refl _),List.take_of_length_le k]
  have e5:=Of 18 t.length;have e6:(((min 18 t.length:Nat):Int)).toNat=min 18 t.length:=by omega
  refine r1 rfl ?_ ?_
  ·have e5:qM true 18 (t.length:Int)=((min 18 t.length:Nat):Int):=e5;simp only[ae,and_true,e5];omega
  have eS:List.drop 0 (List.take (qM true 18 (t.length:Int)).toNat t)=t.take 18:=by have e5:qM true 18 (t.length:Int)=((min 18 t.length:Nat):Int):=e5;rw[e5,e6,et,List.drop_zero]
  refine Ej (us:=[.s (t.take 18)]) rfl rfl trivial ⟨congrArg SV.s eS,trivial⟩ (Qc (t.take 18) (fun c hc=>h1 c (List.mem_of_mem_take hc)) (by simp;omega) (by simp;omega)) rfl ?_;refine r0 rfl ?_;refine cd rfl rfl (Fg 10) rfl ?_;refine r0 rfl ?_;have abT:dL ⟨10,none⟩ 1:=fj (m:=10) (by decide);obtain⟨p1,p2⟩:=nc ⟨10,none⟩ (min 18 t.length) Hx;refine WH (us:=[eN ⟨10,none⟩,.i ((min 18 t.length:Nat):Int)]) rfl rfl trivial ⟨au.refl _,congrArg SV.i e5,trivial⟩ (NV ⟨10,none⟩ (min 18 t.length) Hx abT (by omega) (by omega)) rfl ?_;refine r0 rfl ?_;have L4:dL (uE ⟨10,none⟩ (min 18 t.length)) 19:=by refine xv ?_;rw[p1];have:nv ⟨10,none⟩=10:=rfl;rw[this,Int.natAbs_pow];exact Nat.pow_lt_pow_right (by decide) (by omega)
  refine cd rfl rfl (oK a _ h2 p2 ha L4 (by omega)) rfl ?_;refine r0 rfl ?_;refine cd rfl rfl (Fg _) rfl ?_;refine r0 rfl ?_;obtain⟨m1,m2⟩:=bP a _ h2 p2;have kr:=eD h2 p2 ha L4;have hns:dL ⟨bL (t.take 18),none⟩ 18:=xv (by show((bL (t.take 18):Nat):Int).natAbs<_;have:=uq h1;omega);refine cd rfl rfl (KJ _ _ m2 (EI (uq h1)) kr (cM hns (by omega)) (by omega)) rfl ?_;obtain⟨q1,q2⟩:=wg h1 h2;have e5':(qM true 18 (t.length:Int)).toNat=min 18 t.length:=by have e5:qM true 18 (t.length:Int)=((min 18 t.length:Nat):Int):=e5;rw[e5,e6]
  have ed:(t.take t.length).drop (qM true 18 (t.length:Int)).toNat=t.drop 18:=by
   rw[List.take_of_length_le (Nat.le_refl _),e5'];rcases Nat.le_total 18 t.length with k|k
   ·rw[Nat.min_eq_left k]
   rw[Nat.min_eq_right k,List.drop_eq_nil_of_le (Nat.le_refl _),List.drop_eq_nil_of_le k]
  refine k1 rfl (by kernel_rfl) ?_ ?_
  ·have e5:qM true 18 (t.length:Int)=((min 18 t.length:Nat):Int):=e5;simp only[ae,and_true,e5];omega
  refine again (t.drop 18,rdStep t a) (by dsimp only;rw[List.length_drop];omega) ⟨wW h1 18,q2,?_,by dsimp only;rw[List.length_drop];omega,?_,?_⟩ ⟨⟨rfl,au.of_eq (congrArg SV.s ed)⟩,⟨rfl,rfl⟩,⟨rfl,rfl⟩,⟨rfl,rfl⟩,trivial⟩
  ·match m,h3,h4 with
   |0,_,h4=>omega
   |m+1,h3,h4=>refine⟨m,?_,by dsimp only;rw[List.length_drop];omega⟩;rw[yb,if_neg (by omega)]at h3;exact h3
  ·dsimp only;rw[q1,<-h6];have hs:=pA (t.take 18) (t.drop 18);rw[List.take_append_drop]at hs;rw[hs];have Ir:min 18 t.length+(t.drop 18).length=t.length:=by simp;omega
   have:(10:Int)^t.length=10^min 18 t.length*10^(t.drop 18).length:=by rw[<-Int.pow_add,Ir]
   rw[this]
   push_cast
   grind
  dsimp only;rw[q1];have:(0:Int)<=nv a*10^min 18 t.length:=Int.mul_nonneg h7 (Int.le_of_lt (Int.pow_pos (by decide)));omega
 have ht:t=[]:=List.eq_nil_of_length_eq_zero (by omega);subst ht;have O5:a=yb (ba s).length (ba s) ⟨0,none⟩:=by rw[<-h3];cases m<;>rfl
 refine r0 rfl ?_;refine o5 rfl rfl rfl (fun g2=>?_) (fun g2=>?_)
 ·refine r0 rfl ?_;refine cl rfl rfl (BI a h2 ha (by omega)) rfl ?_;refine r0 rfl ?_;refine aF rfl (au.of_eq ?_);unfold iK;rw[if_pos g2,<-O5];rfl
 refine r0 rfl ?_;refine aF rfl (au.of_eq ?_);unfold iK;rw[if_neg (by rw[g2];simp),<-O5];rfl
theorem qB(l:List Int)(hl:l.length<2^60):aO Tryz.prog 155 [.ints .i64 false l] (.i (aL id l)):=by
 refine enter (fn:=Tryz.f155) Tryz.func155 rfl rfl rfl rfl ?_;refine r0 rfl ?_;refine loop (fun i:Nat=>[(5,.ints .i64 false l),(6,.i l.length),(7,.i i)]) (fun i=>i<=l.length/\aL id l=aL id (l.drop i)) (fun i=>l.length-i) 0 ⟨Nat.zero_le _,rfl⟩ ⟨⟨rfl,rfl⟩,⟨rfl,rfl⟩,⟨rfl,rfl⟩,trivial⟩ ?_;rintro i⟨hi,hf⟩;refine r0 rfl ?_;refine br rfl rfl rfl (fun h=>?_) (fun h=>?_)
 ·have cO:i<l.length:=by omega
  have ei:(i:Int).toNat=i:=by omega
  rw[eJ _ cO]at hf;refine r1 rfl (by simp only[ae,and_true,ei];omega) ?_;refine br rfl rfl rfl (fun h2=>?_) (fun h2=>?_)
  ·rw[ei,bk cO]at h2;refine r0 rfl ?_;refine aF rfl (au.of_eq (congrArg SV.i ?_));rw[ei,bk cO,hf];exact(if_pos (show id l[i]≠0 from h2)).symm
  rw[ei,bk cO]at h2;refine r1 rfl (by simp only[ae,and_true];omega) ?_;refine again (i+1) (by omega) ⟨by omega,?_⟩ ⟨⟨rfl,rfl⟩,⟨rfl,rfl⟩,⟨rfl,rfl⟩,trivial⟩;rw[hf];exact if_neg (show¬id l[i]≠0 from h2)
 refine r0 rfl ?_;refine aF rfl (au.of_eq (congrArg SV.i ?_));rw[hf,List.drop_eq_nil_of_le (by omega)];rfl
theorem lj(b:Bool)(e:Int):aO Tryz.prog 156 [.u b,.i e] (.i (if b then e else 0)):=by
 refine enter (fn:=Tryz.f156) Tryz.func156 rfl rfl rfl rfl ?_;refine r0 rfl ?_;refine o5 rfl rfl rfl (fun h=>?_) (fun h=>?_)
 ·refine r0 rfl ?_;refine aF rfl (au.of_eq (congrArg SV.i ?_));rw[h];rfl
 refine r0 rfl ?_;refine aF rfl (au.of_eq (congrArg SV.i ?_));rw[h];rfl
def jr(n k:Int):Bool:=decide (0<=k/\k<n)
theorem uS(p:ru)(k:Int):aO Tryz.prog 159 [fo p,.i k] (.u (jr p.n k)):=by
 refine enter (fn:=Tryz.f159) Tryz.func159 rfl rfl rfl rfl ?_;refine r0 rfl ?_;refine aB 7 rfl (fun h=>?_) (fun h=>?_)
 ·refine r0 rfl ?_;refine aF rfl (au.of_eq (congrArg SV.u ?_));unfold jr;rw[decide_eq_decide];exact⟨fun g=>⟨h,g⟩,fun g=>g.2⟩
 refine r0 rfl ?_;exact aF rfl (show false=jr p.n k from(decide_eq_false (fun g=>h g.1)).symm)
theorem SM(p:ru)(h:M3 p):aO Tryz.prog 160 [fo p] (.i (jg p.ah)):=by
 have hl:=h.ah;refine enter (fn:=Tryz.f160) Tryz.func160 rfl rfl rfl rfl ?_;refine r0 rfl ?_;refine loop (fun i:Nat=>[(3,.i ((p.ah.take i).countP fun u=>decide (u.kind=di))),(7,.cJ false 5 default gN p.ah),(8,.i p.ah.length),(9,.i i)]) (fun i=>i<=p.ah.length) (fun i=>p.ah.length-i) 0 (Nat.zero_le _) ⟨⟨rfl,rfl⟩,⟨rfl,rfl⟩,⟨rfl,rfl⟩,⟨rfl,rfl⟩,trivial⟩ ?_;intro i hi;have hc:((p.ah.take i).countP fun u=>decide (u.kind=di))<=i:=Nat.le_trans List.countP_le_length (by simp;omega);refine r0 rfl ?_;refine br rfl rfl rfl (fun h1=>?_) (fun h1=>?_)
 ·have cO:i<p.ah.length:=by omega
  have ei:(i:Int).toNat=i:=by omega
  have eg:p.ah.getD i default=p.ah[i]:=bk cO;have hs:((p.ah.take (i+1)).countP fun u=>decide (u.kind=di))=((p.ah.take i).countP fun u=>decide (u.kind=di))+(if p.ah[i].kind=di then 1 else 0):=by rw[List.take_succ_eq_append_getElem cO,List.countP_append,List.countP_singleton];by_cases g:p.ah[i].kind=di<;>simp[g]
  refine r1 rfl (by simp only[ae,and_true,ei];omega) ?_;refine br rfl rfl rfl (fun h2=>?_) (fun h2=>?_)
  ·rw[ei,eg]at h2;have h2:p.ah[i].kind=di:=h2;rw[if_pos h2]at hs;refine r1 rfl (by simp only[ae,and_true];omega) ?_;refine again (i+1) (by omega) (by omega) ⟨⟨rfl,au.of_eq (congrArg SV.i ?_)⟩,⟨rfl,rfl⟩,⟨rfl,rfl⟩,⟨rfl,rfl⟩,trivial⟩;rw[hs];rfl
  rw[ei,eg]at h2;have h2:¬p.ah[i].kind=di:=h2;rw[if_neg h2]at hs;refine r1 rfl (by simp only[ae,and_true];omega) ?_;refine again (i+1) (by omega) (by omega) ⟨⟨rfl,au.of_eq (congrArg SV.i ?_)⟩,⟨rfl,rfl⟩,⟨rfl,rfl⟩,⟨rfl,rfl⟩,trivial⟩;rw[hs];rfl
 refine r0 rfl ?_;refine aF rfl (au.of_eq (congrArg SV.i ?_));unfold jg;rw[List.take_of_length_le (by omega)]
theorem KP(p:ru)(k:Int):aO Tryz.prog 158 [.i k,.box false (fo p)] (.u (!jr p.n k)):=by refine enter (fn:=Tryz.f158) Tryz.func158 rfl rfl rfl rfl ?_;refine r0 rfl ?_;refine cl rfl rfl (uS p k) rfl ?_;refine r0 rfl ?_;exact aF rfl (au.refl _)
def oP{α:Type}(f:α->Bool):List α->Int->Int
 |[],_=> -1
 |x::l,i=>if f x then i else oP f l (i+1)
theorem zq{α:Type}(f:α->Bool){l:List α}{i:Nat}(h:i<l.length):oP f (l.drop i) i=if f l[i]then(i:Int)else oP f (l.drop (i+1)) ((i+1:Nat):Int):=by rw[List.drop_eq_getElem_cons h];rfl
theorem oz{α:Type}(f:α->Bool):∀(l:List α)(i:Int),0<=i->(0<=oP f l i↔∃x∈l,f x=true)
 |[],i,_=>by simp[oP]
 |x::l,i,hi=>by
  unfold oP;by_cases h:f x=true
  ·rw[if_pos h];simp[h,hi]
  rw[if_neg h,oz f l (i+1) (by omega)];simp[h]
theorem OH(p:ru)(l:List Int)(hl:l.length<2^60):aO Tryz.prog 102 [.ints .i64 false l,.fn (.func 158) [] [.box false (fo p)]] (.i (oP (fun k=> !jr p.n k) l 0)):=by
 refine enter (fn:=Tryz.f102) Tryz.func102 rfl rfl rfl rfl ?_;refine r0 rfl ?_;refine loop (fun i:Nat=>[(0,.ints .i64 false l),(1,.fn (.func 158) [] [.box false (fo p)]),(7,.i l.length),(8,.i i)]) (fun i=>i<=l.length/\oP (fun k=> !jr p.n k) l 0=oP (fun k=> !jr p.n k) (l.drop i) i) (fun i=>l.length-i) 0 ⟨Nat.zero_le _,rfl⟩ ⟨⟨rfl,rfl⟩,⟨rfl,rfl⟩,⟨rfl,rfl⟩,⟨rfl,rfl⟩,trivial⟩ ?_;rintro i⟨hi,hf⟩;refine r0 rfl ?_;refine br rfl rfl rfl (fun h=>?_) (fun h=>?_)
 ·have cO:i<l.length:=by omega
  have ei:(i:Int).toNat=i:=by omega
  rw[zq _ cO]at hf;refine r1 rfl (by simp only[ae,and_true,ei];omega) ?_;refine cl rfl rfl (KP p _) rfl ?_;rw[ei,bk cO];refine r0 rfl ?_;refine o5 rfl rfl rfl (fun h2=>?_) (fun h2=>?_)
  ·refine r0 rfl ?_;refine aF rfl (au.of_eq (congrArg SV.i ?_));rw[hf,if_pos h2]
  refine r1 rfl (by simp only[ae,and_true];omega) ?_;refine again (i+1) (by omega) ⟨by omega,?_⟩ ⟨⟨rfl,rfl⟩,⟨rfl,rfl⟩,⟨rfl,rfl⟩,⟨rfl,rfl⟩,trivial⟩;rw[hf,if_neg (by rw[h2];simp)]
 refine r0 rfl ?_;refine aF rfl (au.of_eq (congrArg SV.i ?_));rw[hf,List.drop_eq_nil_of_le (by omega)];rfl
theorem GQ(p:ru)(l:List Int)(hl:l.length<2^60):aO Tryz.prog 46 [.ints .i64 false l,.fn (.func 158) [] [.box false (fo p)]] (.u (decide (∃k∈l,k<0\/p.n<=k))):=by refine enter (fn:=Tryz.f46) Tryz.func46 rfl rfl rfl rfl ?_;refine r0 rfl ?_;refine cl rfl rfl (OH p l hl) rfl ?_;refine r0 rfl ?_;refine aF rfl (au.of_eq (congrArg SV.u ?_));rw[decide_eq_decide,oz _ _ _ (Int.le_refl 0)];refine exists_congr fun k=>and_congr Iff.rfl ?_;unfold jr;simp only[Bool.not_eq_true',decide_eq_false_iff_not];omega
theorem OG(l:List Int)(v:Int)(hl:l.length<2^60):aO Tryz.prog 258 [.ints .i64 false l,.i v] (.i (oP (fun k=>decide (v=k)) l 0)):=by
 refine enter (fn:=Tryz.f258) Tryz.func258 rfl rfl rfl rfl ?_;refine r0 rfl ?_;refine loop (fun i:Nat=>[(0,.ints .i64 false l),(1,.i v),(7,.i l.length),(8,.i i)]) (fun i=>i<=l.length/\oP (fun k=>decide (v=k)) l 0=oP (fun k=>decide (v=k)) (l.drop i) i) (fun i=>l.length-i) 0 ⟨Nat.zero_le _,rfl⟩ ⟨⟨rfl,rfl⟩,⟨rfl,rfl⟩,⟨rfl,rfl⟩,⟨rfl,rfl⟩,trivial⟩ ?_;rintro i⟨hi,hf⟩;refine r0 rfl ?_;refine br rfl rfl rfl (fun h=>?_) (fun h=>?_)
 ·have cO:i<l.length:=by omega
  have ei:(i:Int).toNat=i:=by omega
  rw[zq _ cO]at hf;refine r1 rfl (by simp only[ae,and_true,ei];omega) ?_;refine br rfl rfl rfl (fun h2=>?_) (fun h2=>?_)
  ·rw[ei,bk cO]at h2;refine r0 rfl ?_;refine aF rfl (au.of_eq (congrArg SV.i ?_));rw[hf,if_pos (decide_eq_true h2)]
  rw[ei,bk cO]at h2;refine r1 rfl (by simp only[ae,and_true];omega) ?_;refine again (i+1) (by omega) ⟨by omega,?_⟩ ⟨⟨rfl,rfl⟩,⟨rfl,rfl⟩,⟨rfl,rfl⟩,⟨rfl,rfl⟩,trivial⟩;rw[hf,if_neg (by simpa using h2)]
 refine r0 rfl ?_;refine aF rfl (au.of_eq (congrArg SV.i ?_));rw[hf,List.drop_eq_nil_of_le (by omega)];rfl
theorem I0(l:List Int)(v:Int)(hl:l.length<2^60):aO Tryz.prog 227 [.ints .i64 false l,.i v] (.u (decide (v∈l))):=by refine enter (fn:=Tryz.f227) Tryz.func227 rfl rfl rfl rfl ?_;refine r0 rfl ?_;refine cl rfl rfl (OG l v hl) rfl ?_;refine r0 rfl ?_;refine aF rfl (au.of_eq (congrArg SV.u ?_));rw[decide_eq_decide,oz _ _ _ (Int.le_refl 0)];simp
theorem LB(s:bw):isNeg (s.take (aj s))=isNeg s/\ba (s.take (aj s))=(ba s).take (aj (ba s))/\s.drop (aj s+1)=(ba s).drop (aj (ba s)+1)/\(aj s<s.length↔aj (ba s)<(ba s).length)/\aj s=(if isNeg s then 1 else 0)+aj (ba s)/\s.length=(if isNeg s then 1 else 0)+(ba s).length:=by
 by_cases h:isNeg s=true
 ·have hs:=Ct s;rw[if_pos h]at hs;generalize ba s=b at hs⊢;subst hs;have e:aj ([45]++b)=aj b+1:=by simp[aj]
  rw[e,if_pos h];refine⟨?_,?_,?_,?_,?_,?_⟩
  ·rw[h];simp[isNeg]
  ·have hn:isNeg (([45]++b).take (aj b+1))=true:=by simp[isNeg]
   unfold ba;rw[if_pos hn];simp
  ·simp
  ·simp
  ·omega
  simp;omega
 have hb:ba s=s:=by unfold ba;rw[if_neg h]
 have hf:isNeg s=false:=by simpa using h
 rw[hb,if_neg h];have hn:isNeg (s.take (aj s))=false:=by
  unfold isNeg at hf⊢;simp only[decide_eq_false_iff_not]at hf⊢;rintro⟨h1,h2⟩;have hl:0<aj s/\0<s.length:=by simp at h1;omega
  have e:(s.take (aj s)).getD 0 0=s.getD 0 0:=by rw[List.getD_eq_getElem?_getD,List.getD_eq_getElem?_getD,List.getElem?_take,if_pos hl.1]
  rw[e]at h2;exact hf ⟨hl.2,h2⟩
 refine⟨by rw[hn,hf],?_,rfl,Iff.rfl,by omega,by omega⟩;unfold ba;rw[hn];rfl
theorem gcd_one{a:Nm}(h:aV a):(ws a=[]/\a.s=1)↔nv a=1:=by
 rw[rB h];obtain⟨s,w⟩:=a;cases w with
 |none=>simp[nv]
 |some m=>
  obtain⟨h1,h2⟩:=h;simp only[nv,reduceCtorEq,false_and,false_iff];intro hh;rcases h1 with h1|h1
  ·have h1:s=1:=h1;subst h1;omega
  have h1:s= -1:=h1;subst h1;omega
theorem qG(s:bw)(hl:s.length<2^45):aO Tryz.prog 55 [.s s] (.i (aG s)):=by
 obtain⟨p1,p2,p3,p4,p5,p6⟩:=LB s;have hle:=kP (ba s);refine enter (fn:=Tryz.f55) Tryz.func55 rfl rfl rfl rfl ?_;refine r0 rfl ?_;refine cl rfl rfl (Uk s (by omega)) rfl ?_;refine r0 rfl ?_;refine cl rfl rfl (Wy (s.take (aj s)) (by simp;omega)) rfl ?_;refine rn 6 rfl ?_;rw[p1,p2,p3,show decide (aj s<s.length)=decide (aj (ba s)<(ba s).length)from decide_eq_decide.2 p4];obtain⟨Z,hZ⟩:∃Z,Z=(ba s).take (aj (ba s)):=⟨_,rfl⟩;obtain⟨D,hD⟩:∃D,D=(ba s).drop (aj (ba s)+1):=⟨_,rfl⟩;have hZl:Z.length=aj (ba s):=by rw[hZ,List.length_take];omega
 have hDl:D.length=(ba s).length-(aj (ba s)+1):=by rw[hD,List.length_drop]
 have F6:=tS s;have hU:fU s=(dU Z&& !(isNeg s&&decide (Z=[48]))):=by rw[hZ];rfl
 have hV:gZ s=(!decide (aj (ba s)<(ba s).length)||(dU D&& !decide (D=[48])&& !decide (D=[49]))):=by rw[hD];rfl
 have hG:mR s=(!decide (aj (ba s)<(ba s).length)||decide (Nat.gcd (bL Z) (bL D)=1)):=by rw[hZ,hD];rfl
 rw[<-hZ,<-hD];obtain⟨fr,Mc⟩:∃fr,fr=decide (aj (ba s)<(ba s).length):=⟨_,rfl⟩;have hN:aG s=if fU s then(if gZ s then(if 600<Z.length\/600<D.length then 4 else if mR s then 0 else 1)else 1)else 1:=by
  unfold aG;have:(600<aj (ba s)\/aj (ba s)+601<(ba s).length)↔(600<Z.length\/600<D.length):=by omega
  simp only[this]
 rw[<-Mc]at hV hG⊢;rw[hN];refine cg 1 [(4,.s D),(5,.u fr),(6,.s Z)] (fU s=true/\gZ s=true) ?_ ?_
 ·have one:¬(fU s=true/\gZ s=true)->(1:Int)=if fU s then(if gZ s then(if 600<Z.length\/600<D.length then 4 else if mR s then 0 else 1)else 1)else 1:=by
   intro hn;by_cases a:fU s=true
   ·rw[if_pos a,if_neg (fun b=>hn ⟨a,b⟩)]
   rw[if_neg a]
  refine r0 rfl ?_;refine cl rfl rfl (Hv Z (by omega)) rfl ?_;refine r0 rfl ?_;refine gS 24 rfl (fun h=>?_) (fun h=>?_)
  ·have h:dU Z=false:=by simpa using h
   refine r0 rfl ?_;exact aF rfl (au.of_eq (congrArg SV.i (one fun⟨a,_⟩=>by rw[hU,h]at a;simp at a)))
  have h:dU Z=true:=by simpa using h
  refine r0 rfl ?_;refine gS 26 rfl (fun g=>?_) (fun g=>?_)
  ·have Zo:fU s= !decide (Z=[48]):=by rw[hU,h,g];simp
   refine r0 rfl ?_;refine aB 31 rfl (fun g2=>?_) (fun g2=>?_)
   ·have g2:Z=[48]:=g2;refine r0 rfl ?_;exact aF rfl (au.of_eq (congrArg SV.i (one fun⟨a,_⟩=>by rw[Zo,g2]at a;simp at a)))
   have g2:¬Z=[48]:=g2;have Zn:fU s=true:=by rw[Zo];simp[g2]
   refine r0 rfl ?_;refine gS 33 rfl (fun f1=>?_) (fun f1=>?_)
   ·have Pb:gZ s=(dU D&& !decide (D=[48])&& !decide (D=[49])):=by rw[hV,f1];simp
    refine r0 rfl ?_;refine cl rfl rfl (Hv D (by omega)) rfl ?_;refine r0 rfl ?_;refine gS 37 rfl (fun f2=>?_) (fun f2=>?_)
    ·have f2:dU D=false:=by simpa using f2
     refine r0 rfl ?_;exact aF rfl (au.of_eq (congrArg SV.i (one fun⟨_,a⟩=>by rw[Pb,f2]at a;simp at a)))
    have f2:dU D=true:=by simpa using f2
    refine r0 rfl ?_;refine aB 41 rfl (fun f3=>?_) (fun f3=>?_)
    ·have f3:D=[48]:=f3;refine r0 rfl ?_;exact aF rfl (au.of_eq (congrArg SV.i (one fun⟨_,a⟩=>by rw[Pb,f3]at a;simp at a)))
    have f3:¬D=[48]:=f3;refine r0 rfl ?_;refine br rfl rfl rfl (fun f4=>?_) (fun f4=>?_)
    ·have f4:D=[49]:=f4;refine r0 rfl ?_;exact aF rfl (au.of_eq (congrArg SV.i (one fun⟨_,a⟩=>by rw[Pb,f4]at a;simp at a)))
    have f4:¬D=[49]:=f4;refine r0 rfl ?_;exact aQ ⟨Zn,by rw[Pb,f2];simp[f3,f4]⟩ ⟨⟨rfl,rfl⟩,⟨rfl,rfl⟩,⟨rfl,rfl⟩,trivial⟩
   refine r0 rfl ?_;exact aQ ⟨Zn,by rw[hV,f1];rfl⟩ ⟨⟨rfl,rfl⟩,⟨rfl,rfl⟩,⟨rfl,rfl⟩,trivial⟩
  have Zn:fU s=true:=by rw[hU,h,g];simp
  refine r0 rfl ?_;refine gS 33 rfl (fun f1=>?_) (fun f1=>?_)
  ·have Pb:gZ s=(dU D&& !decide (D=[48])&& !decide (D=[49])):=by rw[hV,f1];simp
   refine r0 rfl ?_;refine cl rfl rfl (Hv D (by omega)) rfl ?_;refine r0 rfl ?_;refine gS 37 rfl (fun f2=>?_) (fun f2=>?_)
   ·have f2:dU D=false:=by simpa using f2
    refine r0 rfl ?_;exact aF rfl (au.of_eq (congrArg SV.i (one fun⟨_,a⟩=>by rw[Pb,f2]at a;simp at a)))
   have f2:dU D=true:=by simpa using f2
   refine r0 rfl ?_;refine aB 41 rfl (fun f3=>?_) (fun f3=>?_)
   ·have f3:D=[48]:=f3;refine r0 rfl ?_;exact aF rfl (au.of_eq (congrArg SV.i (one fun⟨_,a⟩=>by rw[Pb,f3]at a;simp at a)))
   have f3:¬D=[48]:=f3;refine r0 rfl ?_;refine br rfl rfl rfl (fun f4=>?_) (fun f4=>?_)
   ·have f4:D=[49]:=f4;refine r0 rfl ?_;exact aF rfl (au.of_eq (congrArg SV.i (one fun⟨_,a⟩=>by rw[Pb,f4]at a;simp at a)))
   have f4:¬D=[49]:=f4;refine r0 rfl ?_;exact aQ ⟨Zn,by rw[Pb,f2];simp[f3,f4]⟩ ⟨⟨rfl,rfl⟩,⟨rfl,rfl⟩,⟨rfl,rfl⟩,trivial⟩
  refine r0 rfl ?_;exact aQ ⟨Zn,by rw[hV,f1];rfl⟩ ⟨⟨rfl,rfl⟩,⟨rfl,rfl⟩,⟨rfl,rfl⟩,trivial⟩
 rintro⟨u1,v1⟩;rw[if_pos u1,if_pos v1];have Zl:cp Z:=by rw[hU,Bool.and_eq_true]at u1;exact(kZ u1.1).1
 refine r0 rfl ?_;refine aB 50 rfl (fun g=>?_) (fun g=>?_)
 ·have g:600<Z.length:=by omega
  refine r0 rfl ?_;refine aF rfl (au.of_eq (congrArg SV.i ?_));rw[if_pos (.inl g)]
 have g:¬600<Z.length:=by omega
 refine r0 rfl ?_;refine br rfl rfl rfl (fun g2=>?_) (fun g2=>?_)
 ·have g2:600<D.length:=by omega
  refine r0 rfl ?_;refine aF rfl (au.of_eq (congrArg SV.i ?_));rw[if_pos (.inr g2)]
 have g2:¬600<D.length:=by omega
 rw[if_neg (fun h=>h.elim g g2)];refine r0 rfl ?_;refine o5 rfl rfl rfl (fun f1=>?_) (fun f1=>?_)
 ·have Zv:cp D:=by
   rw[hV,f1]at v1;simp only[Bool.not_true,Bool.false_or,Bool.and_eq_true]at v1;exact(kZ v1.1.1).1
  have bZ:=tT Zl;have bD:=tT Zv;obtain⟨z1,z2⟩:=lF (s:=Z) (by rw[bZ];exact Zl);obtain⟨d1,d2⟩:=lF (s:=D) (by rw[bD];exact Zv);have zs:=sO (s:=Z) (by rw[bZ];exact Zl);have ds:=sO (s:=D) (by rw[bD];exact Zv);rw[bZ]at zs;rw[bD]at ds;have zs:=cM zs (show Z.length<=600 by omega);have ds:=cM ds (show D.length<=600 by omega);obtain⟨c1,c2,c3⟩:=u4 _ _ z2 d2 zs ds;refine r0 rfl ?_;refine cl rfl rfl (ya Z (by rw[bZ];exact Zl) (by omega)) rfl ?_;refine r0 rfl ?_;refine cl rfl rfl (ya D (by rw[bD];exact Zv) (by omega)) rfl ?_;refine r0 rfl ?_;refine cl rfl rfl (Ub _ _ z2 d2 zs ds (by omega)) rfl ?_;refine r0 rfl ?_;refine cl rfl rfl (Q5 _) rfl ?_;have qN:=gcd_one c2;have hGG:mR s=true↔nv (mf (iK Z) (iK D))=1:=by rw[hG,f1,c1,z1,d1,tc Zl,tc Zv];simp only[Bool.not_true,Bool.false_or,decide_eq_true_eq];show _↔((Int.gcd ((bL Z:Nat):Int) ((bL D:Nat):Int):Nat):Int)=1;rw[Int.gcd_natCast_natCast];omega
  refine r0 rfl ?_;refine gS 67 rfl (fun e1=>?_) (fun e1=>?_)
  ·have e1:¬ws (mf (iK Z) (iK D))=[]:=by simpa using e1
   refine r0 rfl ?_;refine aF rfl (au.of_eq (congrArg SV.i ?_));rw[if_neg (fun hh=>e1 (qN.2 (hGG.1 hh)).1)]
  have e1:ws (mf (iK Z) (iK D))=[]:=by simpa using e1
  refine r0 rfl ?_;refine br rfl rfl rfl (fun e2=>?_) (fun e2=>?_)
  ·refine r0 rfl ?_;refine aF rfl (au.of_eq (congrArg SV.i ?_));rw[if_neg (fun hh=>e2 (qN.2 (hGG.1 hh)).2)]
  have e2:(mf (iK Z) (iK D)).s=1:=Decidable.not_not.1 e2;refine r0 rfl ?_;refine aF rfl (au.of_eq (congrArg SV.i ?_));rw[if_pos (hGG.2 (qN.1 ⟨e1,e2⟩))]
 refine r0 rfl ?_;refine aF rfl (au.of_eq (congrArg SV.i ?_));rw[hG,f1];rfl
theorem ik(z:Int):ba (bM z)=decl z.natAbs 1:=by
 have:=KE z 1;have e:qJ z 1=bM z:=by unfold qJ dD;simp
 rw[e]at this;rw[this];simp[dD]
theorem lT(z:Int):isNeg (bM z)=decide (z<0):=by
 have:=uT z 1;have e:qJ z 1=bM z:=by unfold qJ dD;simp
 rwa[e]at this
theorem Ie(z:Int):yP (bM z)=z:=by
 unfold yP;rw[ik,lT,iM];by_cases h:z<0
 ·rw[decide_eq_true h];show -((z.natAbs:Nat):Int)=z;omega
 rw[decide_eq_false h];show((z.natAbs:Nat):Int)=z;omega
def eI(q:Rat):Fr:=⟨iK (bM q.num),if q.den=1 then⟨1,none⟩else iK (decl q.den 1)⟩
theorem tU(n:Nat):ba (decl n 1)=decl n 1:=tT (bN n 1)
theorem cP(q:Rat):ff (eI q) q:=by
 obtain⟨a1,a2⟩:=lF (s:=bM q.num) (by rw[ik];exact bN _ 1);obtain⟨b1,b2⟩:=lF (s:=decl q.den 1) (by rw[tU];exact bN _ 1);rw[Ie]at a1;rw[tc (bN _ 1),iM]at b1;unfold eI;refine⟨a2,?_,a1,?_⟩
 ·show aV (if q.den=1 then(⟨1,none⟩:Nm)else iK (decl q.den 1));split
  ·exact C3
  exact b2
 show nv (if q.den=1 then(⟨1,none⟩:Nm)else iK (decl q.den 1))=q.den;split
 ·rename_i h;rw[h];rfl
 exact b1
theorem Pp{q:Rat}{n:Nat}(h:Dc q n)(hn:1<=n):oH (eI q) n:=by
 have a:=sO (s:=bM q.num) (by rw[ik];exact bN _ 1);have b:=sO (s:=decl q.den 1) (by rw[tU];exact bN _ 1);rw[ik]at a;rw[tU]at b;refine⟨cM a h.1,?_⟩;show dL (if q.den=1 then(⟨1,none⟩:Nm)else iK (decl q.den 1)) n;split
 ·exact cM (fj (m:=1) (by decide)) hn
 exact cM b h.2
theorem Wl(q:Rat){n:Nat}(hd:Dc q n)(hn:n<2^19):aO Tryz.prog 56 [.s (qt q)] (eF (eI q)):=by
 have l1:(bM q.num).length<=n+1:=by
  have:=ik q.num;have h2:(bM q.num).length<=(ba (bM q.num)).length+1:=by unfold ba;split<;>simp<;>omega
  rw[this]at h2;have:=hd.1;omega
 have l2:=hd.2;have hlen:(qt q).length<=2*n+2:=by
  unfold qt qJ dD;rw[List.length_append];split
  ·simp;omega
  simp;omega
 have hs:aj (qt q)=(bM q.num).length:=nU _ _;refine enter (fn:=Tryz.f56) Tryz.func56 rfl rfl rfl rfl ?_;refine r0 rfl ?_;refine cl rfl rfl (Uk (qt q) (by omega)) rfl ?_;have et:(qt q).take (aj (qt q))=bM q.num:=by rw[hs];exact sy _ _
 rw[et];refine r0 rfl ?_;refine o5 rfl rfl rfl (fun h=>?_) (fun h=>?_)
 ·have h1:q.den=1:=by
   by_cases g:q.den=1
   ·exact g
   exfalso;have h:¬aj (qt q)<(qt q).length:=by simpa using h
   apply h;rw[hs];unfold qt qJ;rw[lv g];simp
  refine r0 rfl ?_;refine cl rfl rfl (ya (bM q.num) (by rw[ik];exact bN _ 1) (by omega)) rfl ?_;refine r0 rfl ?_;refine cl rfl rfl (b6.Cy _) rfl ?_;refine r0 rfl ?_;refine aF rfl (au.of_eq ?_);unfold eI;rw[if_pos h1];rfl
 have h1:q.den≠1:=by
  intro g;have h:aj (qt q)<(qt q).length:=by simpa using h
  rw[hs]at h;unfold qt qJ dD at h;rw[if_pos g]at h;simp at h
 have ed:(qt q).drop (aj (qt q)+1)=decl q.den 1:=by rw[hs];exact tz _ _ h1
 rw[ed];refine r0 rfl ?_;refine cl rfl rfl (ya (bM q.num) (by rw[ik];exact bN _ 1) (by omega)) rfl ?_;refine r0 rfl ?_;refine cl rfl rfl (ya (decl q.den 1) (by rw[tU];exact bN _ 1) (by omega)) rfl ?_;refine r0 rfl ?_;refine aF rfl (au.of_eq ?_);unfold eI;rw[if_neg h1];rfl
theorem mP{s:bw}(h:aG s=0):aO Tryz.prog 56 [.s s] (eF (eI (cq s))):=by have:=Wl (cq s) (IV h) (by decide);rwa[lH h]at this
theorem dB{s:bw}(h:aG s=0):oH (eI (cq s)) 600:=Pp (IV h) (by decide)
theorem Wv(xs:List bw)(hx:∀s∈xs,dq s)(hl:xs.length<2^60):aO Tryz.prog 200 [.strs false xs,.fn (.func 55) [] []] (.i (aL aG xs)):=by
 refine enter (fn:=Tryz.f200) Tryz.func200 rfl rfl rfl rfl ?_;refine r0 rfl ?_;refine loop (fun i:Nat=>[(1,.fn (.func 55) [] []),(8,.strs false xs),(9,.i xs.length),(10,.i i)]) (fun i=>i<=xs.length/\aL aG xs=aL aG (xs.drop i)) (fun i=>xs.length-i) 0 ⟨Nat.zero_le _,rfl⟩ ⟨⟨rfl,rfl⟩,⟨rfl,rfl⟩,⟨rfl,rfl⟩,⟨rfl,rfl⟩,trivial⟩ ?_;rintro i⟨hi,hf⟩;refine r0 rfl ?_;refine br rfl rfl rfl (fun h=>?_) (fun h=>?_)
 ·have cO:i<xs.length:=by omega
  have ei:(i:Int).toNat=i:=by omega
  rw[eJ _ cO]at hf;have eg:xs.getD (i:Int).toNat []=xs[i]:=by rw[ei];exact bk cO
  refine r1 rfl (by simp only[ae,and_true,ei];omega) ?_;refine Ej (us:=[.s xs[i]]) rfl rfl trivial ⟨congrArg SV.s eg,trivial⟩ (qG xs[i] (hx _ (List.getElem_mem cO))) rfl ?_;refine r0 rfl ?_;refine br rfl rfl rfl (fun h2=>?_) (fun h2=>?_)
  ·refine r0 rfl ?_;refine aF rfl (au.of_eq (congrArg SV.i ?_));rw[hf,if_pos h2]
  refine r1 rfl (by simp only[ae,and_true];omega) ?_;refine again (i+1) (by omega) ⟨by omega,?_⟩ ⟨⟨rfl,rfl⟩,⟨rfl,rfl⟩,⟨rfl,rfl⟩,⟨rfl,rfl⟩,trivial⟩;rw[hf,if_neg h2]
 refine r0 rfl ?_;refine aF rfl (au.of_eq (congrArg SV.i ?_));rw[hf,List.drop_eq_nil_of_le (by omega)];rfl
theorem PZ(xs:List bw)(hx:∀s∈xs,dq s)(hl:xs.length<2^60):aO Tryz.prog 119 [.strs false xs] (.i (aL aG xs)):=by refine enter (fn:=Tryz.f119) Tryz.func119 rfl rfl rfl rfl ?_;refine r0 rfl ?_;refine cl rfl rfl (Wv xs hx hl) rfl ?_;refine r0 rfl ?_;exact aF rfl (au.refl _)
theorem QQ(b:Bool)(e:Int):aO Tryz.prog 120 [.u b,.i e] (.i (if b then e else 0)):=by
 refine enter (fn:=Tryz.f120) Tryz.func120 rfl rfl rfl rfl ?_;refine r0 rfl ?_;refine o5 rfl rfl rfl (fun h=>?_) (fun h=>?_)
 ·refine r0 rfl ?_;refine aF rfl (au.of_eq (congrArg SV.i ?_));rw[h];rfl
 refine r0 rfl ?_;refine aF rfl (au.of_eq (congrArg SV.i ?_));rw[h];rfl
theorem Nn(s:iv)(h1:dq s.lo)(h2:dq s.hi):aO Tryz.prog 59 [jB s] (.i (fi s)):=by
 refine enter (fn:=Tryz.f59) Tryz.func59 rfl rfl rfl rfl ?_;refine r0 rfl ?_;refine cl rfl rfl (PZ [s.lo,s.hi] (fun x hx=>by simp at hx;rcases hx with rfl|rfl<;>assumption) (by simp)) rfl ?_;have hf:aL aG [s.lo,s.hi]=if aG s.lo≠0 then aG s.lo else if aG s.hi≠0 then aG s.hi else 0:=rfl;rw[hf];refine r0 rfl ?_;refine br rfl rfl rfl (fun h=>?_) (fun h=>?_)
 ·refine r0 rfl ?_;refine aF rfl (au.of_eq (congrArg SV.i ?_));unfold fi;by_cases a:aG s.lo≠0
  ·rw[if_pos a,if_pos a]
  rw[if_neg a]at h;rw[if_neg a,if_neg a];by_cases b:aG s.hi≠0
  ·rw[if_pos b,if_pos b]
  rw[if_neg b]at h;exact absurd rfl h
 have kh:aG s.lo=0:=by apply Decidable.byContradiction;intro a;apply h;rw[if_pos a];exact a
 have uf:aG s.hi=0:=by apply Decidable.byContradiction;intro b;apply h;rw[if_neg (fun a=>a kh),if_pos b];exact b
 have nM:fi s=if 0<Ac (cq s.lo) (cq s.hi)then 11 else 0:=by unfold fi;rw[if_neg (fun a=>a kh),if_neg (fun a=>a uf)]
 refine r0 rfl ?_;refine cd rfl rfl (mP kh) rfl ?_;refine r0 rfl ?_;refine cd rfl rfl (mP uf) rfl ?_;refine r0 rfl ?_;refine cd rfl rfl (ID _ _ (cP _) (cP _) (dB kh) (dB uf) (by decide)) rfl ?_;refine r0 rfl ?_;refine cd rfl rfl (QQ _ 11) rfl ?_;refine k0 rfl (by kernel_rfl) ?_;refine aF rfl (au.of_eq (congrArg SV.i ?_));rw[nM,Ew];have hc:=qF (p:=cq s.lo) (q:=cq s.hi);by_cases g1:cq s.lo<=cq s.hi
 ·rw[if_neg (show¬0<Ac (cq s.lo) (cq s.hi) by have:=hc.2 g1;omega)];have:¬cq s.hi<cq s.lo:=Rat.not_lt.2 g1;rw[if_neg this];split<;>simp
 rw[if_pos (show 0<Ac (cq s.lo) (cq s.hi)from Int.not_le.1 fun h=>g1 (hc.1 h))];have g2:cq s.hi<cq s.lo:=Rat.not_le.1 g1;have g3:¬cq s.lo<cq s.hi:=fun h=>g1 (Rat.le_of_lt h);rw[if_neg g3,if_pos g2];simp
def Oo(a b:Int)(f:Nat)(p:SV):SV:=.agg [.i a,.i b,.fn (.func f) [] [],p]
def kI:SV:=Oo 2 2 255 (.c .nilFunc)
def kA:SV:=Oo 1 8 254 (.fn (.func 256) [] [])
def kT:SV:=Oo 1 1 254 (.fn (.func 257) [] [])
def tb(a b:Int)(f:Nat)(p:Value):Value:=.agg #[.int .i64 a,.int .i64 b,.func (.func f) #[] #[],p]
def BW:xl:=[(di,tb 2 2 255 .nilFunc),(oo,tb 1 8 254 (.func (.func 256) #[] #[])),(iA,tb 1 1 254 (.func (.func 257) #[] #[]))]
theorem JJ:aO Tryz.prog 226 [] (.mp (yB BW)):=by refine enter (fn:=Tryz.f226) Tryz.func226 rfl rfl rfl rfl ?_;refine r0 rfl ?_;refine ex rfl rfl rfl (Fz rfl) rfl ?_;refine r0 rfl ?_;refine ex rfl rfl rfl (qn (k:=di) (v:=tb 2 2 255 .nilFunc) (x:=kI) (.inl rfl) rfl Tryz.underlying297 Tryz.underlying9 rfl) rfl ?_;refine r0 rfl ?_;refine ex rfl rfl rfl (qn (k:=oo) (v:=tb 1 8 254 (.func (.func 256) #[] #[])) (x:=kA) (.inl rfl) rfl Tryz.underlying297 Tryz.underlying9 rfl) rfl ?_;refine r0 rfl ?_;refine ex rfl rfl rfl (qn (k:=iA) (v:=tb 1 1 254 (.func (.func 257) #[] #[])) (x:=kT) (.inl rfl) rfl Tryz.underlying297 Tryz.underlying9 rfl) rfl ?_;refine r0 rfl ?_;refine aF rfl (au.refl _)
theorem Ge:qP di BW=some (tb 2 2 255 .nilFunc):=rfl
theorem Gf:qP oo BW=some (tb 1 8 254 (.func (.func 256) #[] #[])):=rfl
theorem Gd:qP iA BW=some (tb 1 1 254 (.func (.func 257) #[] #[])):=rfl
theorem Mi{k:bw}(h1:k≠di)(h2:k≠oo)(h3:k≠iA):qP k BW=none:=by
 have e:∀{a b:bw},a≠b->pk a b=false:=by
  intro a b h;cases hh:pk a b with
  |false=>rfl
  |true=>exact absurd (qh.1 hh) h
 simp only[BW,qP,e h1,e h2,e h3]
theorem GW(p:ru)(u:dW)(hu:UOk u):aO Tryz.prog 157 [fo p,gN u] (.i (iY p.n u)):=by
 have OK:=hu.aC;have Yq:=hu.mG;refine enter (fn:=Tryz.f157) Tryz.func157 rfl rfl rfl rfl ?_;refine cg 6 [(2,.box true (fo p)),(3,.box true (gN u))] ((u.kind=di\/u.kind=oo\/u.kind=iA)/\¬mF u (JF u) (Ee u)) ?_ ?_
 ·refine r0 rfl ?_;refine cd rfl rfl JJ rfl ?_;refine r0 rfl ?_;have hw:(u.kind=di\/u.kind=oo\/u.kind=iA)->mF u (JF u) (Ee u)->2=iY p.n u:=by
   intro hk hh;unfold iY;rw[if_neg (fun h=>hk.elim h.1 fun k=>k.elim h.2.1 h.2.2),if_pos hh]
  by_cases h1:u.kind=di
  ·have hl:JF u=2:=by unfold JF;rw[if_pos h1]
   have hh:Ee u=2:=by unfold Ee;rw[if_pos h1]
   have VO:¬u.kind=iA:=by rw[h1];decide
   refine Qx (.bC [kI,.b true]) rfl rfl rfl (eG (k:=u.kind) (x:=kI) Tryz.underlying297 Tryz.underlying9 (by rw[h1];exact Ge) rfl true) rfl ?_;refine k0 rfl (by kernel_rfl) ?_;refine br rfl rfl rfl (fun h=>absurd h VO) (fun _=>?_);refine r0 rfl ?_;refine aB 47 rfl (fun h3=>?_) (fun h3=>?_)
   ·refine r0 rfl ?_;refine aF rfl (au.of_eq (congrArg SV.i (hw (.inl h1) ?_)));rw[hl,hh];exact .inl h3
   refine r0 rfl ?_;refine aB 55 rfl (fun h4=>?_) (fun h4=>?_)
   ·refine r0 rfl ?_;refine aF rfl (au.of_eq (congrArg SV.i (hw (.inl h1) ?_)));rw[hl,hh];exact .inr (.inl h4)
   refine r0 rfl ?_;refine o5 rfl rfl rfl (fun h5=>?_) (fun h5=>?_)
   ·refine r0 rfl ?_;refine aF rfl (au.of_eq (congrArg SV.i (hw (.inl h1) ?_)));have h5:¬(u.mG.length:Int)=0:=by simpa using h5
    exact .inr (.inr (.inr ⟨VO,by omega⟩))
   have h5:(u.mG.length:Int)=0:=by simpa using h5
   refine r0 rfl ?_;refine aQ ⟨.inl h1,?_⟩ ⟨⟨rfl,rfl⟩,⟨rfl,rfl⟩,trivial⟩;rw[hl,hh];rintro(q|q|q|q)
   ·exact h3 q
   ·exact h4 q
   ·exact VO q.1
   omega
  by_cases h1:u.kind=oo
  ·rename_i h0;have hl:JF u=1:=by unfold JF;rw[if_neg h0]
   have hh:Ee u=8:=by unfold Ee;rw[if_neg h0,if_pos h1]
   have VO:¬u.kind=iA:=by rw[h1];decide
   refine Qx (.bC [kA,.b true]) rfl rfl rfl (eG (k:=u.kind) (x:=kA) Tryz.underlying297 Tryz.underlying9 (by rw[h1];exact Gf) rfl true) rfl ?_;refine k0 rfl (by kernel_rfl) ?_;refine br rfl rfl rfl (fun h=>absurd h VO) (fun _=>?_);refine r0 rfl ?_;refine aB 47 rfl (fun h3=>?_) (fun h3=>?_)
   ·refine r0 rfl ?_;refine aF rfl (au.of_eq (congrArg SV.i (hw (.inr (.inl h1)) ?_)));rw[hl,hh];exact .inl h3
   refine r0 rfl ?_;refine aB 55 rfl (fun h4=>?_) (fun h4=>?_)
   ·refine r0 rfl ?_;refine aF rfl (au.of_eq (congrArg SV.i (hw (.inr (.inl h1)) ?_)));rw[hl,hh];exact .inr (.inl h4)
   refine r0 rfl ?_;refine o5 rfl rfl rfl (fun h5=>?_) (fun h5=>?_)
   ·refine r0 rfl ?_;refine aF rfl (au.of_eq (congrArg SV.i (hw (.inr (.inl h1)) ?_)));have h5:¬(u.mG.length:Int)=0:=by simpa using h5
    exact .inr (.inr (.inr ⟨VO,by omega⟩))
   have h5:(u.mG.length:Int)=0:=by simpa using h5
   refine r0 rfl ?_;refine aQ ⟨.inr (.inl h1),?_⟩ ⟨⟨rfl,rfl⟩,⟨rfl,rfl⟩,trivial⟩;rw[hl,hh];rintro(q|q|q|q)
   ·exact h3 q
   ·exact h4 q
   ·exact VO q.1
   omega
  rename_i h0;by_cases h2:u.kind=iA
  ·have hl:JF u=1:=by unfold JF;rw[if_neg h0]
   have hh:Ee u=1:=by unfold Ee;rw[if_neg h0,if_neg h1]
   refine Qx (.bC [kT,.b true]) rfl rfl rfl (eG (k:=u.kind) (x:=kT) Tryz.underlying297 Tryz.underlying9 (by rw[h2];exact Gd) rfl true) rfl ?_;refine k0 rfl (by kernel_rfl) ?_;refine br rfl rfl rfl (fun _=>?_) (fun h=>absurd h2 h);refine r0 rfl ?_;refine aB 35 rfl (fun g1=>?_) (fun g1=>?_)
   ·refine r0 rfl ?_;refine aB 47 rfl (fun h3=>?_) (fun h3=>?_)
    ·refine r0 rfl ?_;refine aF rfl (au.of_eq (congrArg SV.i (hw (.inr (.inr h2)) ?_)));rw[hl,hh];exact .inl h3
    refine r0 rfl ?_;refine aB 55 rfl (fun h4=>?_) (fun h4=>?_)
    ·refine r0 rfl ?_;refine aF rfl (au.of_eq (congrArg SV.i (hw (.inr (.inr h2)) ?_)));rw[hl,hh];exact .inr (.inl h4)
    refine r0 rfl ?_;refine o5 rfl rfl rfl (fun h5=>?_) (fun h5=>?_)
    ·have h5:¬(u.mG.length:Int)<=13:=by simpa using h5
     refine r0 rfl ?_;refine aF rfl (au.of_eq (congrArg SV.i (hw (.inr (.inr h2)) ?_)));exact .inr (.inr (.inl ⟨h2,by omega⟩))
    have h5:(u.mG.length:Int)<=13:=by simpa using h5
    refine r0 rfl ?_;refine aQ ⟨.inr (.inr h2),?_⟩ ⟨⟨rfl,rfl⟩,⟨rfl,rfl⟩,trivial⟩;rw[hl,hh];rintro(q|q|q|q)
    ·exact h3 q
    ·exact h4 q
    ·have:=q.2;omega
    exact q.1 h2
   refine r0 rfl ?_;have Wa:mF u (JF u) (Ee u):=.inr (.inr (.inl ⟨h2,by omega⟩));refine aB 47 rfl (fun h3=>?_) (fun h3=>?_)
   ·refine r0 rfl ?_;exact aF rfl (au.of_eq (congrArg SV.i (hw (.inr (.inr h2)) Wa)))
   refine r0 rfl ?_;refine aB 55 rfl (fun h4=>?_) (fun h4=>?_)
   ·refine r0 rfl ?_;exact aF rfl (au.of_eq (congrArg SV.i (hw (.inr (.inr h2)) Wa)))
   refine r0 rfl ?_;exact aF rfl (au.of_eq (congrArg SV.i (hw (.inr (.inr h2)) Wa)))
  obtain⟨i,i1,i2⟩:∃i,Tryz.prog.info? 295=some i/\i.zero=some (.agg #[.int .i64 0,.int .i64 0,.nilFunc,.nilFunc]):=⟨_,rfl,rfl⟩;refine Qx (.bC [.agg [.i 0,.i 0,.c .nilFunc,.c .nilFunc],.b false]) rfl rfl rfl (H4 (k:=u.kind) (x:=.agg [.i 0,.i 0,.c .nilFunc,.c .nilFunc]) Tryz.underlying297 Tryz.underlying9 (Mi h0 h1 h2) i1 i2 rfl true) rfl ?_;refine k0 rfl (by kernel_rfl) ?_;exact aF rfl (au.of_eq (congrArg SV.i (by unfold iY;rw[if_pos ⟨h0,h1,h2⟩])))
 rintro⟨hk,hw⟩;have Dt:iY p.n u=if aL (kx p.n) u.aC≠0 then aL (kx p.n) u.aC
  else if u.out<1\/p.n<=u.out then 10
  else if aG u.k≠0 then aG u.k else aL aG u.mG:=by
  unfold iY;rw[if_neg (fun h=>hk.elim h.1 fun k=>k.elim h.2.1 h.2.2),if_neg hw]
 refine cg 1 [(2,.box true (fo p)),(3,.box true (gN u))] (aL (kx p.n) u.aC=0) ?_ fun hz=>?_
 ·refine r0 rfl ?_;refine loop (fun i:Nat=>[(2,.box true (fo p)),(3,.box true (gN u)),(60,.cJ false 2 default vp u.aC),(61,.i u.aC.length),(62,.i i)]) (fun i=>i<=u.aC.length/\aL (kx p.n) u.aC=aL (kx p.n) (u.aC.drop i)) (fun i=>u.aC.length-i) 0 ⟨Nat.zero_le _,rfl⟩ ⟨⟨rfl,rfl⟩,⟨rfl,rfl⟩,⟨rfl,rfl⟩,⟨rfl,rfl⟩,⟨rfl,rfl⟩,trivial⟩ ?_;rintro i⟨hi,hf⟩;refine r0 rfl ?_;refine br rfl rfl rfl (fun h1=>?_) (fun h1=>?_)
  ·have cO:i<u.aC.length:=by omega
   have ei:(i:Int).toNat=i:=by omega
   have eg:u.aC.getD i default=u.aC[i]:=bk cO;rw[eJ _ cO]at hf;have aci:=hu.kt _ (List.getElem_mem cO);refine r1 rfl (by simp only[ae,and_true,ei];omega) ?_;rw[ei,eg];generalize u.aC[i]=f at*;refine cd rfl rfl (uS p _) rfl ?_;refine r0 rfl ?_;refine cd rfl rfl (lj _ 10) rfl ?_;refine r0 rfl ?_;refine cd rfl rfl (qG f.kt aci) rfl ?_;refine r0 rfl ?_;refine cd rfl rfl (lj _ 6) rfl ?_;refine r0 rfl ?_;refine cd rfl rfl (qB _ (by simp)) rfl ?_;refine k0 rfl (by kernel_rfl) ?_;have he:aL id [if !jr p.n f.sh then(10:Int)else 0,aG f.kt,if decide (f.kt=[48])then 6 else 0]=kx p.n f:=by
    unfold kx jr;by_cases a:f.sh<0\/p.n<=f.sh
    ·rw[if_pos a,decide_eq_false (by omega)];rfl
    rw[if_neg a,decide_eq_true (by omega)];by_cases b:aG f.kt≠0
    ·rw[if_pos b];simp[aL,b]
    rw[if_neg b];have b:aG f.kt=0:=by simpa using b
    have:f.kt=[48]↔cq f.kt=0:=by have:=CT (q:=cq f.kt);rwa[lH b]at this
    by_cases c:cq f.kt=0
    ·rw[if_pos c,decide_eq_true (this.2 c)];simp[aL,b]
    rw[if_neg c,decide_eq_false (fun h=>c (this.1 h))];simp[aL,b]
   rw[show aL id [if !jr p.n f.sh then(10:Int)else 0,aG f.kt,if decide (f.kt=[48])then 6 else 0]=kx p.n f from he];refine br rfl rfl rfl (fun h2=>?_) (fun h2=>?_)
   ·refine r0 rfl ?_;refine aF rfl (au.of_eq (congrArg SV.i ?_));rw[if_pos h2]at hf;rw[Dt,if_pos (by rw[hf];exact h2),hf]
   refine r1 rfl (by simp only[ae,and_true];omega) ?_;refine again (i+1) (by omega) ⟨by omega,?_⟩ ⟨⟨rfl,rfl⟩,⟨rfl,rfl⟩,⟨rfl,rfl⟩,⟨rfl,rfl⟩,⟨rfl,rfl⟩,trivial⟩;rw[hf,if_neg h2]
  refine r0 rfl ?_;refine aQ ?_ ⟨⟨rfl,rfl⟩,⟨rfl,rfl⟩,trivial⟩;rw[hf,List.drop_eq_nil_of_le (by omega)];rfl
 rw[if_neg (by rw[hz];simp)]at Dt;have hk:=hu.k;refine cg 1 [(3,.box true (gN u))] (iY p.n u=aL aG u.mG) ?_ fun Xv=>?_
 ·refine r0 rfl ?_;refine aB 88 rfl (fun h1=>?_) (fun h1=>?_)
  ·refine r0 rfl ?_;refine cd rfl rfl (lj true 10) rfl ?_;refine r0 rfl ?_;refine cd rfl rfl (qG u.k hk) rfl ?_;refine r0 rfl ?_;refine cd rfl rfl (qB _ (by simp)) rfl ?_;refine k0 rfl (by kernel_rfl) ?_;refine br rfl rfl rfl (fun h2=>?_) (fun h2=>absurd (by simp[aL]) h2);refine r0 rfl ?_;refine aF rfl (au.of_eq (congrArg SV.i ?_));rw[Dt,if_pos (show u.out<1\/p.n<=u.out from .inl (by omega))];simp[aL]
  refine r0 rfl ?_;refine cd rfl rfl (uS p _) rfl ?_;refine r0 rfl ?_;refine cd rfl rfl (lj _ 10) rfl ?_;refine r0 rfl ?_;refine cd rfl rfl (qG u.k hk) rfl ?_;refine r0 rfl ?_;refine cd rfl rfl (qB _ (by simp)) rfl ?_;refine k0 rfl (by kernel_rfl) ?_;have he:aL id [if !jr p.n u.out then(10:Int)else 0,aG u.k]=if u.out<1\/p.n<=u.out then 10 else if aG u.k≠0 then aG u.k else 0:=by
   unfold jr;by_cases a:u.out<1\/p.n<=u.out
   ·rw[if_pos a,decide_eq_false (by omega)];rfl
   rw[if_neg a,decide_eq_true (by omega)];by_cases b:aG u.k≠0
   ·rw[if_pos b];simp[aL,b]
   rw[if_neg b];simp at b;simp[aL,b]
  rw[he];refine br rfl rfl rfl (fun h2=>?_) (fun h2=>?_)
  ·refine r0 rfl ?_;refine aF rfl (au.of_eq (congrArg SV.i ?_));rw[Dt];by_cases a:u.out<1\/p.n<=u.out
   ·rw[if_pos a,if_pos a]
   rw[if_neg a]at h2;rw[if_neg a,if_neg a];by_cases b:aG u.k≠0
   ·rw[if_pos b,if_pos b]
   rw[if_neg b]at h2;exact absurd rfl h2
  refine r0 rfl ?_;refine aQ ?_ ⟨⟨rfl,rfl⟩,trivial⟩;rw[Dt];by_cases a:u.out<1\/p.n<=u.out
  ·rw[if_pos a]at h2;simp at h2
  rw[if_neg a]at h2⊢;by_cases b:aG u.k≠0
  ·rw[if_pos b]at h2;exact absurd b h2
  rw[if_neg b]
 refine r0 rfl ?_;refine loop (fun i:Nat=>[(3,.box true (gN u)),(105,.strs false u.mG),(106,.i u.mG.length),(107,.i i)]) (fun i=>i<=u.mG.length/\aL aG u.mG=aL aG (u.mG.drop i)) (fun i=>u.mG.length-i) 0 ⟨Nat.zero_le _,rfl⟩ ⟨⟨rfl,rfl⟩,⟨rfl,rfl⟩,⟨rfl,rfl⟩,⟨rfl,rfl⟩,trivial⟩ ?_;rintro i⟨hi,hf⟩;refine r0 rfl ?_;refine br rfl rfl rfl (fun h1=>?_) (fun h1=>?_)
 ·have cO:i<u.mG.length:=by omega
  have ei:(i:Int).toNat=i:=by omega
  rw[eJ _ cO]at hf;refine r1 rfl (by simp only[ae,and_true,ei];omega) ?_;refine Ej (us:=[.s u.mG[i]]) rfl rfl trivial ⟨congrArg SV.s (by rw[ei];exact bk cO),trivial⟩ (qG u.mG[i] (hu.aa9 _ (List.getElem_mem cO))) rfl ?_;refine r0 rfl ?_;refine br rfl rfl rfl (fun h2=>?_) (fun h2=>?_)
  ·refine r0 rfl ?_;refine aF rfl (au.of_eq (congrArg SV.i ?_));rw[Xv,hf,if_pos h2]
  refine r1 rfl (by simp only[ae,and_true];omega) ?_;refine again (i+1) (by omega) ⟨by omega,?_⟩ ⟨⟨rfl,rfl⟩,⟨rfl,rfl⟩,⟨rfl,rfl⟩,⟨rfl,rfl⟩,trivial⟩;rw[hf,if_neg h2]
 refine r0 rfl ?_;refine aF rfl (au.of_eq (congrArg SV.i ?_));rw[Xv,hf,List.drop_eq_nil_of_le (by omega)];rfl
theorem yq(x y:Nat)(hx:x<18446744073709551616)(hy:y<18446744073709551616):aO Tryz.prog 104 [.n .u64 x,.n .u64 y] (.bC [.n .u64 (x*y/18446744073709551616:Nat),.n .u64 (x*y%18446744073709551616:Nat)]):=by refine enter (fn:=Tryz.f104) Tryz.func104 rfl rfl rfl rfl ?_;refine r0 rfl ?_;refine cl rfl rfl (iO x y hx hy) rfl ?_;refine r0 rfl ?_;exact aF rfl (au.refl _)
theorem EX{α:Type _}(x z:α){m r k:Nat}(hk:k<=m)(hr:k<=r):(List.replicate m x++List.replicate r z).take m++(List.replicate m x++List.replicate r z).take k++(List.replicate m x++List.replicate r z).drop (m+k)=List.replicate (m+k) x++List.replicate (r-k) z:=by
 rw[List.take_append,List.take_append,List.drop_append];simp only[List.length_replicate,List.take_replicate,List.drop_replicate,Nat.min_self,Nat.sub_self,Nat.min_eq_left hk];have e1:m-(m+k)=0:=by omega
 have e2:k-m=0:=by omega
 have e3:m+k-m=k:=by omega
 simp only[e1,e2,e3,List.replicate_zero,List.nil_append,List.append_nil,Nat.zero_min];rw[List.replicate_append_replicate]
theorem BC(x:Int)(n:Nat)(h0:1<=n)(hn:n<2^20):aO Tryz.prog 52 [.ints .i64 false [x],.i n] (.ints .i64 true (List.replicate n x)):=by
 refine enter (fn:=Tryz.f52) Tryz.func52 rfl rfl rfl rfl ?_;refine r0 rfl ?_;refine br rfl rfl rfl (fun h=>by omega) (fun h=>?_);refine kw [15,17] rfl rfl trivial ?_;refine Ej (us:=[.n .u64 (1:Nat),.n .u64 n]) rfl rfl trivial ⟨rfl,congrArg (SV.n .u64) (wr (by omega)),trivial⟩ (yq 1 n (by decide) (by omega)) rfl ?_;rw[Nat.one_mul,Nat.div_eq_of_lt (by omega:n<18446744073709551616),Nat.mod_eq_of_lt (by omega:n<18446744073709551616)];refine r0 rfl ?_;refine aB 23 rfl (fun h=>by omega) (fun h=>?_);refine r0 rfl ?_;refine br rfl rfl rfl (fun h=>by omega) (fun h=>?_);refine r1 rfl (by simp only[ae,and_true]<;>omega) ?_;refine ex rfl rfl rfl (PL (P:=Tryz.prog) (ti:=⟨false,1,8,.v (.int .i64 0)⟩) rfl rfl Tryz.underlying23 rfl rfl rfl (by simp;omega) (by simp) (n:=1) (by rw[List.length_replicate,Int.toNat_natCast];exact Nat.min_eq_left h0)) rfl ?_;refine r0 rfl ?_;refine loop (fun m:Nat=>[(7,.ints .i64 true (List.replicate m x++List.replicate (n-m) 0)),(8,.i m)]) (fun m=>1<=m/\m<=n) (fun m=>n-m) 1 ⟨Nat.le_refl _,h0⟩ ⟨⟨rfl,au.of_eq (congrArg (SV.ints .i64 true) (by rw[List.drop_replicate,Int.toNat_natCast];rfl))⟩,⟨rfl,rfl⟩,trivial⟩ ?_;rintro m⟨h1,h2⟩;have hlen:(List.replicate m x++List.replicate (n-m) (0:Int)).length=n:=by rw[List.length_append,List.length_replicate,List.length_replicate];omega
 refine r0 rfl ?_;refine br rfl rfl rfl (fun h3=>?_) (fun h3=>?_)
 ·have h3:m<n:=by rw[hlen]at h3;omega
  refine W5 6 rfl trivial ?_;refine Z8 rfl rfl ?_ ?_
  ·simp only[ae,app,and_true,hlen];omega
  refine W5 2 rfl trivial ?_;refine Z8 rfl rfl ?_ ?_
  ·simp only[ae,app,and_true,hlen];omega
  have cR:List.replicate m x++List.replicate (n-m) (0:Int)≠[]:=fun e=>by rw[e]at hlen;simp at hlen;omega
  refine exd rfl rfl rfl (kO.same (IX (P:=Tryz.prog) (ti:=⟨false,1,8,.v (.int .i64 0)⟩) (k:=.i64) (xs:=List.replicate m x++List.replicate (n-m) (0:Int)) rfl rfl Tryz.underlying23 rfl rfl rfl cR (off:=m) (m1:=n-m) (m2:=m) (n:=min m (n-m)) rfl (by rw[hlen];omega) (by rw[hlen];omega) (by omega) (by omega)) rfl ?_ rfl rfl) rfl ?_
  ·show an [_,_]=an [SV.bg 1000000 0 0 [Step.jI 1 (m:Int).toNat ((List.replicate m x++List.replicate (n-m) (0:Int)).length-(m:Int).toNat)],SV.bg 1000000 0 0 [Step.jI 1 0 ((m:Int).toNat-0)]];rw[hlen,Int.toNat_natCast,Nat.sub_zero]
  refine k1 rfl (by kernel_rfl) (by simp only[ae,and_true]<;>omega) ?_;rw[EX x 0 (Nat.min_le_left _ _) (Nat.min_le_right _ _)];refine again (m+min m (n-m)) (by omega) (by omega) ⟨⟨rfl,au.of_eq (congrArg (SV.ints .i64 true) ?_)⟩,⟨rfl,au.of_eq (congrArg SV.i ?_)⟩,trivial⟩
  ·congr 2;omega
  omega
 have h3:n<=m:=by rw[hlen]at h3;omega
 refine r0 rfl ?_;refine aF rfl (au.of_eq (congrArg (SV.ints .i64 true) ?_));have:m=n:=by omega
 subst this;rw[Nat.sub_self];simp
def zF:SV:=.agg [.i 0,.nil,.i 0,.nil]
def XL:ua:=⟨true,4,64,zF⟩
theorem CO{x:SV}(h:x.az=true):∀n,eV (List.replicate n x)=true
 |0=>rfl
 |n+1=>by simp only[List.replicate_succ,eV,h];exact CO h n
theorem NI{x:SV}(h:x.az=true)(m n:Nat):eV (List.replicate m x++List.replicate n zF)=true:=by
 induction m with
 |zero=>simpa using CO (by decide) n
 |succ m ih=>simp only[List.replicate_succ,List.cons_append,eV,h];exact ih
theorem NJ{x:SV}(h:kb XL x=true)(m n:Nat):∀y∈List.replicate m x++List.replicate n zF,kb XL y=true:=by
 intro y hy;rcases List.mem_append.1 hy with hy|hy
 ·rw[(List.mem_replicate.1 hy).2];exact h
 rw[(List.mem_replicate.1 hy).2];rfl
theorem La(x:SV)(hf:kb XL x=true)(fS:x.az=true)(n:Nat)(h0:1<=n)(hn:n<2^20):aO Tryz.prog 230 [.row false 4 [x],.i n] (.row true 4 (List.replicate n x)):=by
 refine enter (fn:=Tryz.f230) Tryz.func230 rfl rfl rfl rfl ?_;refine r0 rfl ?_;refine br rfl rfl rfl (fun h=>by omega) (fun h=>?_);refine kw [15,17] rfl rfl trivial ?_;refine Ej (us:=[.n .u64 (1:Nat),.n .u64 n]) rfl rfl trivial ⟨rfl,congrArg (SV.n .u64) (wr (by omega)),trivial⟩ (yq 1 n (by decide) (by omega)) rfl ?_;rw[Nat.one_mul,Nat.div_eq_of_lt (by omega:n<18446744073709551616),Nat.mod_eq_of_lt (by omega:n<18446744073709551616)];refine r0 rfl ?_;refine aB 23 rfl (fun h=>by omega) (fun h=>?_);refine r0 rfl ?_;refine br rfl rfl rfl (fun h=>by omega) (fun h=>?_);refine r1 rfl (by simp only[ae,and_true]<;>omega) ?_;refine ex rfl rfl rfl (PK (P:=Tryz.prog) (ti':=XL) rfl rfl Tryz.underlying149 rfl (by simp;omega) (by simp) (CO (by decide) _) (by simpa using hf) (n:=1) (by rw[List.length_replicate,Int.toNat_natCast];exact Nat.min_eq_left h0)) rfl ?_;refine r0 rfl ?_;refine loop (fun m:Nat=>[(7,.row true 4 (List.replicate m x++List.replicate (n-m) zF)),(8,.i m)]) (fun m=>1<=m/\m<=n) (fun m=>n-m) 1 ⟨Nat.le_refl _,h0⟩ ⟨⟨rfl,au.of_eq (congrArg (SV.row true 4) (by rw[List.drop_replicate,Int.toNat_natCast];rfl))⟩,⟨rfl,rfl⟩,trivial⟩ ?_;rintro m⟨h1,h2⟩;have hlen:(List.replicate m x++List.replicate (n-m) zF).length=n:=by rw[List.length_append,List.length_replicate,List.length_replicate];omega
 refine r0 rfl ?_;refine br rfl rfl rfl (fun h3=>?_) (fun h3=>?_)
 ·have h3:m<n:=by rw[dA,hlen]at h3;omega
  refine W5 6 rfl trivial ?_;refine Z8 rfl rfl ?_ ?_
  ·simp only[ae,app,and_true,dA,hlen];omega
  refine W5 2 rfl trivial ?_;refine Z8 rfl rfl ?_ ?_
  ·simp only[ae,app,and_true,dA,hlen];omega
  have cR:List.replicate m x++List.replicate (n-m) zF≠[]:=fun e=>by rw[e]at hlen;simp at hlen;omega
  refine exd rfl rfl rfl (kO.same (IW (P:=Tryz.prog) (ti':=XL) (xs:=List.replicate m x++List.replicate (n-m) zF) rfl rfl Tryz.underlying149 rfl cR (NI fS _ _) (NJ hf _ _) (off:=m) (m1:=n-m) (m2:=m) (n:=min m (n-m)) rfl (by rw[hlen];omega) (by rw[hlen];omega) (by omega) (by omega)) rfl ?_ rfl rfl) rfl ?_
  ·show an [_,_]=an [SV.bg 1000000 0 0 [Step.jI 4 (m:Int).toNat (len (List.replicate m x++List.replicate (n-m) zF)-(m:Int).toNat)],SV.bg 1000000 0 0 [Step.jI 4 0 ((m:Int).toNat-0)]];rw[dA,hlen,Int.toNat_natCast,Nat.sub_zero];rfl
  refine k1 rfl (by kernel_rfl) (by simp only[ae,and_true]<;>omega) ?_;rw[EX x zF (Nat.min_le_left _ _) (Nat.min_le_right _ _)];refine again (m+min m (n-m)) (by omega) (by omega) ⟨⟨rfl,au.of_eq (congrArg (SV.row true 4) ?_)⟩,⟨rfl,au.of_eq (congrArg SV.i ?_)⟩,trivial⟩
  ·congr 2;omega
  omega
 have h3:n<=m:=by rw[dA,hlen]at h3;omega
 refine r0 rfl ?_;refine aF rfl (au.of_eq (congrArg (SV.row true 4) ?_));have:m=n:=by omega
 subst this;rw[Nat.sub_self];simp
theorem nD(s:Int)(u:dW):∀(xs:List dW)(k:Nat),cu s k (xs++[u])=if 0<=cu s k xs then cu s k xs else if u.out=s then((k+xs.length:Nat):Int)else -1
 |[],k=>by simp[cu]
 |x::xs,k=>by
  simp only[List.cons_append,cu];by_cases h:x.out=s
  ·simp[h]
  simp only[h,if_false,nD s u xs (k+1),List.length_cons];have:k+1+xs.length=k+(xs.length+1):=by omega
  rw[this]
theorem nC{s:Int}:∀{xs:List dW}{k:Nat},0<=cu s k xs↔1<=xs.countP fun u=>decide (u.out=s)
 |[],k=>by simp[cu]
 |x::xs,k=>by
  simp only[cu,List.countP_cons];by_cases h:x.out=s
  ·simp[h]
  simp only[h,if_false,decide_false,Bool.false_eq_true,nC (xs:=xs) (k:=k+1)];omega
theorem vq{s:Int}:∀{xs:List dW}{k:Nat},¬0<=cu s k xs->cu s k xs= -1
 |[],k,_=>rfl
 |x::xs,k,h=>by
  simp only[cu]at h⊢;by_cases g:x.out=s
  ·rw[if_pos g]at h;exact absurd (by omega) h
  rw[if_neg g]at h⊢;exact vq h
theorem zX{xs:List dW}{i:Nat}(h:i<xs.length)(P:dW->Bool):(xs.take (i+1)).countP P=(xs.take i).countP P+if P xs[i]then 1 else 0:=by rw[List.take_succ_eq_append_getElem h,List.countP_append,List.countP_singleton]
def Ho(n:Nat)(us:List dW):List Int:=(List.range n).map fun(s:Nat)=>fu us (s:Int)
theorem SZ{n s:Nat}{us:List dW}(h:s<n):(Ho n us).getD s 0=fu us s:=by unfold Ho;rw[List.getD_eq_getElem?_getD,List.getElem?_map,List.getElem?_range h];rfl
def rq:Int->List dW->List Int->List Int×Bool
 |_,[],L=>(L,!decide (-1∈L.drop 1))
 |k,u::r,L=>if 0<=L.getD u.out.toNat 0 then(L,false)else rq (k+1) r (L.set u.out.toNat k)
def DR(n:Nat)(us:List dW):List Int×Bool:=rq 0 us (List.replicate n (-1))
theorem Mp(p:ru)(h:M3 p)(n:Nat)(hn:p.n=n)(h1:1<=n)(hn2:n<2^20)(ho:∀u∈p.ah,1<=u.out/\u.out<n):aO Tryz.prog 161 [fo p] (.bC [.ints .i64 false (DR n p.ah).1,.u (DR n p.ah).2]):=by
 have hl:=h.ah;refine enter (fn:=Tryz.f161) Tryz.func161 rfl rfl rfl rfl ?_;refine r0 rfl ?_;refine Ej (us:=[.ints .i64 false [-1],.i n]) rfl rfl trivial ⟨rfl,congrArg SV.i hn,trivial⟩ (BC (-1) n h1 hn2) rfl ?_;refine r0 rfl ?_;refine lP (fun(i:Nat)(L:List Int)=>[(4,.ints .i64 true L),(12,.cJ false 5 default gN p.ah),(13,.i p.ah.length),(14,.i i)]) (fun i L=>i<=p.ah.length/\L.length=n/\DR n p.ah=rq i (p.ah.drop i) L) (fun i _=>p.ah.length-i) 0 (List.replicate n (-1)) ⟨Nat.zero_le _,by simp,rfl⟩ ⟨⟨rfl,rfl⟩,⟨rfl,rfl⟩,⟨rfl,rfl⟩,⟨rfl,rfl⟩,trivial⟩ ?_;rintro i L⟨hi,hL,hd⟩;refine r0 rfl ?_;refine br rfl rfl rfl (fun g1=>?_) (fun g1=>?_)
 ·have cO:i<p.ah.length:=by omega
  have ei:(i:Int).toNat=i:=by omega
  have eg:p.ah.getD i default=p.ah[i]:=bk cO;rw[List.drop_eq_getElem_cons cO,rq]at hd;have hu:=ho _ (List.getElem_mem cO);refine r1 rfl (by simp only[ae,and_true,ei,eg,hL];omega) ?_;rw[ei,eg];refine br rfl rfl rfl (fun g2=>?_) (fun g2=>?_)
  ·have g2:0<=L.getD p.ah[i].out.toNat 0:=g2;rw[if_pos g2]at hd;refine r0 rfl ?_;refine rtS rfl ?_;rw[hd];exact⟨rfl,rfl,trivial⟩
  have g2:¬0<=L.getD p.ah[i].out.toNat 0:=g2;rw[if_neg g2]at hd;refine r1 rfl (by simp only[ae,and_true,hL];omega) ?_;refine again (i+1,L.set p.ah[i].out.toNat i) (by dsimp only;omega) ⟨by dsimp only;omega,by simpa using hL,by simpa using hd⟩ ⟨⟨rfl,rfl⟩,⟨rfl,rfl⟩,⟨rfl,rfl⟩,⟨rfl,rfl⟩,trivial⟩
 rw[List.drop_eq_nil_of_le (by omega),rq]at hd;refine r1 rfl (by simp only[ae,and_true,hL];omega) ?_;refine cl rfl rfl (I0 _ (-1) (by simp;omega)) rfl ?_;refine r0 rfl ?_;refine rtS rfl ?_;rw[hd];have:((L.drop (1:Int).toNat).take (L.length-(1:Int).toNat))=L.drop 1:=List.take_of_length_le (by simp);refine⟨rfl,?_,trivial⟩;show(!decide (-1∈(L.drop (1:Int).toNat).take (L.length-(1:Int).toNat)))= !decide (-1∈L.drop 1);rw[this]
theorem IM(n:Nat)(us:List dW)(h1:1<=n)(ho:∀u∈us,1<=u.out/\u.out<n):∀(i:Nat)(L:List Int),i<=us.length->L.length=n->(∀s:Nat,s<n->L.getD s 0=fu (us.take i) s)->(∀s:Nat,((us.take i).countP fun u=>decide (u.out=(s:Int)))<=1)->
 ((rq i (us.drop i) L).2=true↔zM n us)/\((rq i (us.drop i) L).2=true->(rq i (us.drop i) L).1=Ho n us):=by
 intro i
 induction hm:us.length-i generalizing i with
 |zero=>
  intro L hi hL hd hc;have ei:us.take i=us:=List.take_of_length_le (by omega);rw[ei]at hd hc;rw[List.drop_eq_nil_of_le (by omega)];simp only[rq,Bool.not_eq_true',decide_eq_false_iff_not];have fC:¬ -1∈L.drop 1↔zM n us:=by
   constructor
   ·intro hn s jl gw;have h2:=hd s gw;have:0<=fu us s:=Decidable.byContradiction fun oX=>by
     refine hn (List.mem_iff_getElem.2 ⟨s-1,by simp;omega,?_⟩);rw[List.getElem_drop];have e:1+(s-1)=s:=by omega
     simp only[e];have h5:fu us s= -1:=vq oX;rw[<-h5,<-h2,List.getD_eq_getElem?_getD,List.getElem?_eq_getElem (by omega)];rfl
    have h3:=nC.1 this;have h4:=hc s;omega
   intro O8 fC;obtain⟨j,hj,e⟩:=List.mem_iff_getElem.1 fC;rw[List.getElem_drop]at e;simp at hj;have h2:=hd (1+j) (by omega);rw[List.getD_eq_getElem?_getD,List.getElem?_eq_getElem (by omega),Option.getD_some,e]at h2;have h3:=O8 (1+j) (by omega) (by omega);have h4:=(nC (s:=((1+j:Nat):Int)) (xs:=us) (k:=0)).2 (by omega);unfold fu at h2;omega
  refine⟨fC,fun _=>?_⟩;apply List.ext_getElem
  ·simp[Ho,hL]
  intro s k1 k2;have h2:=hd s (by omega);rw[List.getD_eq_getElem?_getD,List.getElem?_eq_getElem k1,Option.getD_some]at h2;simp[Ho,h2]
 |succ m ih=>
  intro L hi hL hd hc;have cO:i<us.length:=by omega
  have hu:=ho _ (List.getElem_mem cO);have eu:((us[i].out.toNat:Nat):Int)=us[i].out:=by omega
  rw[List.drop_eq_getElem_cons cO,rq];have h0:=hd us[i].out.toNat (by omega);rw[eu]at h0;by_cases g:0<=L.getD us[i].out.toNat 0
  ·rw[if_pos g];refine⟨⟨fun h=>by simp at h,fun O8=>?_⟩,fun h=>by simp at h⟩;rw[h0]at g;have h2:=nC.1 g;have h3:=O8 us[i].out.toNat (by omega) (by omega);rw[eu]at h3;have h4:=zX cO fun u=>decide (u.out=us[i].out);simp only[decide_true,if_true]at h4;have h5:((us.take (i+1)).countP fun u=>decide (u.out=us[i].out))<=us.countP fun u=>decide (u.out=us[i].out):=List.Sublist.countP_le (List.take_sublist _ _);omega
  rw[if_neg g];have:=ih (i+1) (by omega) (L.set us[i].out.toNat i) (by omega) (by simpa using hL) ?_ ?_
  ·simpa using this
  ·intro s hs;rw[List.getD_eq_getElem?_getD,List.getElem?_set];rw[List.take_succ_eq_append_getElem cO];unfold fu;rw[nD];have h2:=hd s hs;rw[List.getD_eq_getElem?_getD]at h2;by_cases e:us[i].out.toNat=s
   ·subst e;rw[h0]at g;unfold fu at g;rw[if_pos rfl,if_pos (by omega),eu,if_neg g,if_pos rfl];simp;omega
   rw[if_neg e,h2];have e2:¬us[i].out=(s:Int):=by omega
   rw[if_neg e2];by_cases g2:0<=cu (s:Int) 0 (us.take i)
   ·rw[if_pos g2];rfl
   rw[if_neg g2];exact vq g2
  intro s;rw[zX cO];have h2:=hc s;by_cases e:us[i].out=(s:Int)
  ·have g2:¬0<=cu us[i].out 0 (us.take i):=by rw[h0]at g;exact g
   rw[nC]at g2;rw[e]at g2;simp only[e,decide_true,if_true];omega
  simp only[e,decide_false,Bool.false_eq_true,if_false];omega
theorem Mn{n:Nat}{us:List dW}(h1:1<=n)(ho:∀u∈us,1<=u.out/\u.out<n):((DR n us).2=true↔zM n us)/\((DR n us).2=true->(DR n us).1=Ho n us):=by have:=IM n us h1 ho 0 (List.replicate n (-1)) (Nat.zero_le _) (by simp) (fun s hs=>by simp[List.getD_eq_getElem?_getD,hs,fu,cu]) (fun s=>by simp);simpa[DR]using this
def f0:Fr:=⟨⟨0,none⟩,⟨1,none⟩⟩
instance:Inhabited Fr:=⟨f0⟩
theorem Ue:ff f0 0:=⟨by simp[f0,aV],by simp[f0,aV],rfl,rfl⟩
noncomputable def Bh(n:Nat)(us:List dW):List Fr:=us.foldl (fun(o:List Fr)u=>o.set u.out.toNat (eI (cq u.k))) (List.replicate n f0)
theorem G8(n:Nat)(us:List dW):(Bh n us).length=n:=by
 unfold Bh;have:∀(us:List dW)(o:List Fr),(us.foldl (fun(o:List Fr)u=>o.set u.out.toNat (eI (cq u.k))) o).length=o.length:=by
  intro us
  induction us with
  |nil=>intro o;rfl
  |cons u us ih=>intro o;rw[List.foldl_cons,ih];simp
 rw[this];simp
theorem MH{n:Nat}{us:List dW}{i:Nat}(h:i<us.length):Bh n (us.take (i+1))=(Bh n (us.take i)).set us[i].out.toNat (eI (cq us[i].k)):=by unfold Bh;rw[List.take_succ_eq_append_getElem h,List.foldl_append];rfl
def x0:SV:=.agg [.i 0,.nil,.i 1,.nil]
theorem map_unit{x:SV}:∀n,an (List.replicate n x)=(List.replicate n ()).map fun _=>x.den
 |0=>rfl
 |n+1=>by simp only[List.replicate_succ,an,List.map_cons,map_unit n]
theorem Lb(n:Nat)(h0:1<=n)(hn:n<2^20):aO Tryz.prog 230 [.row false 4 [eF f0],.i n] (.cJ true 4 () (fun _=>x0) (List.replicate n ())):=(La x0 rfl rfl n h0 hn).same rfl (by simp only[SV.den];rw[map_unit])
theorem S9(p:ru)(h:M3 p)(n:Nat)(hn:p.n=n)(h1:1<=n)(hn2:n<2^20)(hu:∀u∈p.ah,o6 p.n u):aO Tryz.prog 163 [fo p] (.cJ true 4 f0 eF (Bh n p.ah)):=by
 have hl:=h.ah;refine enter (fn:=Tryz.f163) Tryz.func163 rfl rfl rfl rfl ?_;refine r0 rfl ?_;refine cd rfl rfl (f_s 0) rfl ?_;refine r0 rfl ?_;have hr:=Lb n h1 hn2;rw[<-hn]at hr;refine P3 rfl rfl trivial hr rfl ⟨fun _=>rfl,trivial⟩ ?_;refine k0 rfl (by kernel_rfl) ?_;refine JL [(3,.cJ true 4 f0 eF (List.replicate n f0)),(12,.cJ false 5 default gN p.ah),(13,.i p.ah.length),(14,.i 0)] ⟨⟨rfl,rfl,.cJ ?_⟩,⟨rfl,rfl,.refl _⟩,⟨rfl,rfl,.refl _⟩,⟨rfl,rfl,.refl _⟩,trivial⟩ ?_
 ·rw[List.map_replicate,List.map_replicate];exact ss.rep (.agg (.cons (.refl _) (.cons (.le (show au .nil (.dH .u64 [])from rfl)) (.cons (.refl _) (.cons (.le (show au .nil (.dH .u64 [])from rfl)) .nil))))) n
 refine loop (fun i:Nat=>[(3,.cJ true 4 f0 eF (Bh n (p.ah.take i))),(12,.cJ false 5 default gN p.ah),(13,.i p.ah.length),(14,.i i)]) (fun i=>i<=p.ah.length) (fun i=>p.ah.length-i) 0 (Nat.zero_le _) ⟨⟨rfl,rfl⟩,⟨rfl,rfl⟩,⟨rfl,rfl⟩,⟨rfl,rfl⟩,trivial⟩ ?_;intro i hi;refine r0 rfl ?_;refine br rfl rfl rfl (fun g1=>?_) (fun g1=>?_)
 ·have cO:i<p.ah.length:=by omega
  have ei:(i:Int).toNat=i:=by omega
  have eg:p.ah.getD i default=p.ah[i]:=bk cO;have hv:=hu _ (List.getElem_mem cO);have ho:=hv.out;have hlen:=G8 n (p.ah.take i);refine r1 rfl (by simp only[ae,and_true,ei];omega) ?_;rw[ei,eg];refine cd rfl rfl (mP hv.k) rfl ?_;refine k1 rfl (by kernel_rfl) (by simp only[ae,and_true,hlen]<;>omega) ?_;refine again (i+1) (by omega) (by omega) ⟨⟨rfl,?_⟩,⟨rfl,rfl⟩,⟨rfl,rfl⟩,⟨rfl,rfl⟩,trivial⟩;refine⟨rfl,rfl,?_⟩;rw[MH cO,List.map_set];exact qT.refl _
 refine r0 rfl ?_;refine aF rfl (au.of_eq ?_);rw[List.take_of_length_le (by omega)];rfl
theorem I9(l:List bw):aO Tryz.prog 232 [.strs false l] (.fn (.func 260) [] [.box false (.strs false l)]):=by
 refine enter (fn:=Tryz.f232) Tryz.func232 rfl rfl rfl rfl ?_;refine cg 1 [(1,.box true (.strs false l))] True ?_ fun _=>?_
 ·refine r0 rfl ?_;exact aQ trivial ⟨⟨rfl,rfl⟩,trivial⟩
 refine nV (r:=1) (p:=[]) rfl rfl trivial ?_;refine r0 rfl ?_;exact aF rfl (au.refl _)
theorem Ha(l:List bw)(hl:l.length<2^40)(C:Value->Prop)(J:Nat->o7)(hy:∀v,C v->∀k,k<l.length->Yields Tryz.prog (J k) (J (k+1)) (an [.i ((l.length-1-k:Nat):Int),.s (l.getD (l.length-1-k) [])]) true v):
 jH Tryz.prog 260 [.abs (J 0)] [.pv C,.box false (.strs false l)] [.abs (J l.length)] (.bC []):=by
 refine vo (fn:=Tryz.f260) Tryz.func260 rfl rfl rfl rfl rfl ?_;refine r1 rfl (by simp only[ae,and_true];omega) ?_;refine loop (fun k:Nat=>[(0,.pv C),(1,.box false (.strs false l)),(3,.i (l.length-1-k)),(1000000,.abs (J k))]) (fun k=>k<=l.length) (fun k=>l.length-k) 0 (Nat.zero_le _) ⟨⟨rfl,rfl⟩,⟨rfl,rfl⟩,⟨rfl,au.of_eq (congrArg SV.i (by omega))⟩,rfl,trivial⟩ ?_;intro k hk;refine r0 rfl ?_;refine br rfl rfl rfl (fun g=>?_) (fun g=>?_)
 ·have qO:k<l.length:=by omega
  have e1:((l.length:Int)-1-k)=((l.length-1-k:Nat):Int):=by omega
  rw[e1];refine r1 rfl (by simp only[ae,and_true];omega) ?_;rw[Int.toNat_natCast];refine yk rfl rfl trivial (fun v hv=>hy v hv k qO) rfl ?_;refine r0 rfl ?_;refine o5 rfl rfl rfl (fun h=>by simp at h) (fun _=>?_);refine r1 rfl (by simp only[ae,and_true];omega) ?_;refine again (k+1) (by omega) (by omega) ⟨⟨rfl,rfl⟩,⟨rfl,rfl⟩,⟨rfl,au.of_eq (congrArg SV.i (by omega))⟩,rfl,trivial⟩
 have:k=l.length:=by omega
 subst this;refine r0 rfl ?_;exact Tr [(1000000,.abs (J l.length))] ⟨rfl,trivial⟩ rfl trivial ⟨⟨rfl,rfl⟩,trivial⟩
noncomputable def Jf(x:Fr)(cs:List bw):Fr:=cs.foldr (fun c s=>Je (N9 s x) (eI (cq c))) f0
theorem Ud:oH f0 1:=⟨fj (m:=0) (by decide),fj (m:=1) (by decide)⟩
theorem vJ{x:Fr}{q:Rat}(hx:ff x q){L:Nat}(lx:oH x L):∀{cs:List bw},(∀c∈cs,aG c=0)->ff (Jf x cs) (OT q (cs.map cq))/\oH (Jf x cs) (cs.length*(L+601)+1)
 |[],_=>⟨Ue,by simpa[Jf]using Ud⟩
 |c::cs,h=>by obtain⟨h1,h2⟩:=vJ hx lx (cs:=cs) fun c hc=>h c (by simp[hc]);obtain⟨h3,h4⟩:=qx _ _ h1 hx h2 lx;obtain⟨h5,h6⟩:=ML _ _ h3 (cP (cq c)) h4 (dB (h c (by simp)));refine⟨h5,Gi h6 ?_⟩;rw[List.length_cons,Nat.succ_mul];omega
theorem QS(cs:List bw)(hc:∀c∈cs,aG c=0)(hl:cs.length<2^10)(x:Fr){q:Rat}(hx:ff x q){L:Nat}(lx:oH x L)(hL:L<2^20):aO Tryz.prog 164 [.strs false cs,eF x] (eF (Jf x cs)):=by
 refine enter (fn:=Tryz.f164) Tryz.func164 rfl rfl rfl rfl ?_;refine r0 rfl ?_;refine cl rfl rfl (f_s 0) rfl ?_;refine r0 rfl ?_;refine cl rfl rfl (I9 cs) rfl ?_;refine r0 rfl ?_;refine yc [5,3] [5,3] cs.length cs.length (fun k=>[.i ((cs.length-1-k:Nat):Int),.s (cs.getD (cs.length-1-k) [])]) (fun k=>[.box true (eF (Jf x (cs.drop (cs.length-k)))),.box true (eF x)]) (fun _=>true) (fun _=>none) (.bC [])
  rfl rfl rfl rfl rfl Tryz.func260 rfl rfl rfl rfl rfl rfl (fun _ _=>rfl) (fun _=>rfl) ?_ ?_ rfl (fun _ _ _=>rfl) (fun C J hy=>Ha cs (by omega) C J fun v hv k hk=>hy v hv k hk fun _ _=>rfl) ?_ ?_ (fun c h=>by cases h)
 ·intro k hk z hz;simp only[List.mem_cons,List.not_mem_nil,or_false]at hz;rcases hz with rfl|rfl<;>rfl
 ·show[SV.box true (eF (Jf x (cs.drop (cs.length-0)))),SV.box true (eF x)]=_;rw[Nat.sub_zero,List.drop_length];rfl
 ·intro k hk _;have YU:cs.length-1-k<cs.length:=by omega
  obtain⟨a1,a2⟩:=vJ hx lx (cs:=cs.drop (cs.length-k)) fun c h=>hc c (List.mem_of_mem_drop h);have hlen:(cs.drop (cs.length-k)).length=k:=by simp;omega
  rw[hlen]at a2;have a3:k*(L+601)<=1024*(L+601):=Nat.mul_le_mul_right _ (by omega);refine r0 rfl ?_;refine pg ?_;refine r0 rfl ?_;refine cl rfl rfl (zk _ _ a1 hx a2 lx (by omega)) rfl ?_;refine r0 rfl ?_;have hcj:=hc _ (List.getElem_mem YU);refine Ej (us:=[.s cs[cs.length-1-k]]) rfl rfl trivial ⟨congrArg SV.s (bk YU),trivial⟩ (mP hcj) rfl ?_;refine r0 rfl ?_;obtain⟨b1,b2⟩:=qx _ _ a1 hx a2 lx;refine cl rfl rfl (Wr _ _ b1 (cP _) b2 (dB hcj) (by omega)) rfl ?_;refine r0 rfl ?_;have e1:cs.drop (cs.length-(k+1))=cs[cs.length-1-k]::cs.drop (cs.length-k):=by
   have e2:cs.length-(k+1)=cs.length-1-k:=by omega
   have e3:cs.length-k=cs.length-1-k+1:=by omega
   rw[e2,e3,List.drop_eq_getElem_cons YU]
  refine wm [(1000000,.box true (eF (Jf x (cs.drop (cs.length-(k+1)))))),(1000001,.box true (eF x))] rfl rfl ⟨⟨rfl,rfl,?_⟩,⟨rfl,rfl,.refl _⟩,trivial⟩ ⟨⟨rfl,rfl⟩,⟨rfl,rfl⟩,trivial⟩;rw[e1];exact .refl _
 intro _;rw[Nat.sub_self,List.drop_zero];refine r0 rfl ?_;exact aF rfl (au.refl _)
theorem Oc(p:ru)(L:List Int)(u:dW):aO Tryz.prog 229 [fo p,.ints .i64 false L,gN u] (.fn (.func 259) [] [.box false (gN u),.box false (.ints .i64 false L)]):=by
 refine enter (fn:=Tryz.f229) Tryz.func229 rfl rfl rfl rfl ?_;refine cg 1 [(4,.box true (.ints .i64 false L)),(5,.box true (gN u))] True ?_ fun _=>?_
 ·refine r0 rfl ?_;exact aQ trivial ⟨⟨rfl,rfl⟩,⟨rfl,rfl⟩,trivial⟩
 refine nV (r:=4) (p:=[]) rfl rfl trivial ?_;refine nV (r:=5) (p:=[]) rfl rfl trivial ?_;refine r0 rfl ?_;exact aF rfl (au.refl _)
theorem JK(u:dW):aO Tryz.prog 254 [gN u] (.cJ false 2 default vp u.aC):=by refine enter (fn:=Tryz.f254) Tryz.func254 rfl rfl rfl rfl ?_;refine r0 rfl ?_;exact aF rfl (au.refl _)
theorem RM(u:dW)(h:1<=u.aC.length):aO Tryz.prog 255 [gN u] (.cJ false 2 default vp (u.aC.drop 1)):=by refine enter (fn:=Tryz.f255) Tryz.func255 rfl rfl rfl rfl ?_;refine r1 rfl (by simp only[ae,and_true];omega) ?_;have e:(u.aC.drop (1:Int).toNat).take (u.aC.length-(1:Int).toNat)=u.aC.drop 1:=List.take_of_length_le (by simp);exact aF rfl (au.of_eq (congrArg (SV.cJ false 2 default vp) e))
def j5(L:List Int)(fs:List Hp):List Int:=(fs.map fun f=>L.getD f.sh.toNat 0).filter fun i=>decide (0<=i)
theorem BL{L:List Int}{fs:List Hp}{i:Nat}(h:i<fs.length):j5 L (fs.take (i+1))=j5 L (fs.take i)++if 0<=L.getD fs[i].sh.toNat 0 then[L.getD fs[i].sh.toNat 0]else[]:=by
 unfold j5;rw[List.take_succ_eq_append_getElem h,List.map_append,List.filter_append]
 congr 1
 by_cases g:0<=L.getD fs[i].sh.toNat 0
 ·rw[if_pos g];simp only[List.map_cons,List.map_nil,List.filter_cons,decide_eq_true g,if_true,List.filter_nil]
 rw[if_neg g];simp only[List.map_cons,List.map_nil,List.filter_cons,decide_eq_false g,Bool.false_eq_true,if_false,List.filter_nil]
theorem HY{L:List Int}{fs:List Hp}{i:Nat}(h:i<fs.length):j5 L fs=j5 L (fs.take i)++((if 0<=L.getD fs[i].sh.toNat 0 then[L.getD fs[i].sh.toNat 0]else[])++j5 L (fs.drop (i+1))):=by rw[<-List.append_assoc,<-BL h];unfold j5;rw[<-List.filter_append,<-List.map_append,List.take_append_drop]
def Qs(b:Nat->Bool)(n m:Nat):Prop:=(∀k,k<n->(∀j,j<k->b j=true)->b k=false->m=k+1)/\((∀k,k<n->b k=true)->m=n)
theorem LC(u:dW)(hu:UOk u){n:Int}(hv:o6 n u)(L:List Int)(hL:n<=L.length)(b:Nat->Bool)(m:Nat)(hm:Qs b (j5 L (jx u)).length m)(C:Value->Prop)(J:Nat->o7)
 (hy:∀v,C v->∀k,k<(j5 L (jx u)).length->(∀j,j<k->b j=true)->Yields Tryz.prog (J k) (J (k+1)) (an [.i ((j5 L (jx u)).getD k 0)]) (b k) v):
 jH Tryz.prog 259 [.abs (J 0)] [.pv C,.box false (gN u),.box false (.ints .i64 false L)] [.abs (J m)] (.bC []):=by
 have bj:=hu.aC;have Ip:(jx u).length<2^40:=by unfold jx;split<;>simp<;>omega
 have Y2:∀f∈jx u,0<=f.sh/\f.sh<n:=fun f hf=>by
  have:f∈u.aC:=by
   unfold jx at hf;split at hf
   ·exact List.mem_of_mem_drop hf
   exact hf
  have:=hv.feed f this;exact⟨this.1,this.2.1⟩
 refine vo (fn:=Tryz.f259) Tryz.func259 rfl rfl rfl rfl rfl ?_;refine cg 1 [(0,.pv C),(1,.box false (gN u)),(2,.box false (.ints .i64 false L)),(13,.cJ false 2 default vp (jx u)),(14,.i (jx u).length),(15,.i 0),(1000000,.abs (J 0))] True ?_ fun _=>?_
 ·refine r0 rfl ?_;refine cd rfl rfl JJ rfl ?_;refine r0 rfl ?_;rcases hv.kind with h|h|h
  ·have QD:jx u=u.aC.drop 1:=by unfold jx;rw[if_pos h]
   refine Qx kI rfl rfl rfl (eG (k:=u.kind) (x:=kI) Tryz.underlying297 Tryz.underlying9 (by rw[h];exact Ge) rfl false) rfl ?_;refine r0 rfl ?_;refine cd rfl rfl (RM u (by have:=(hv.int h).1;omega)) rfl ?_;refine k0 rfl (by kernel_rfl) ?_;rw[<-QD];exact aQ trivial ⟨⟨rfl,rfl⟩,⟨rfl,rfl⟩,⟨rfl,rfl⟩,⟨rfl,rfl⟩,⟨rfl,rfl⟩,⟨rfl,rfl⟩,rfl,trivial⟩
  ·have QD:jx u=u.aC:=by unfold jx;rw[if_neg (by rw[h];exact De.symm)]
   refine Qx kA rfl rfl rfl (eG (k:=u.kind) (x:=kA) Tryz.underlying297 Tryz.underlying9 (by rw[h];exact Gf) rfl false) rfl ?_;refine r0 rfl ?_;refine cd rfl rfl (JK u) rfl ?_;refine k0 rfl (by kernel_rfl) ?_;rw[<-QD];exact aQ trivial ⟨⟨rfl,rfl⟩,⟨rfl,rfl⟩,⟨rfl,rfl⟩,⟨rfl,rfl⟩,⟨rfl,rfl⟩,⟨rfl,rfl⟩,rfl,trivial⟩
  have QD:jx u=u.aC:=by unfold jx;rw[if_neg (by rw[h];exact xz.symm)]
  refine Qx kT rfl rfl rfl (eG (k:=u.kind) (x:=kT) Tryz.underlying297 Tryz.underlying9 (by rw[h];exact Gd) rfl false) rfl ?_;refine r0 rfl ?_;refine cd rfl rfl (JK u) rfl ?_;refine k0 rfl (by kernel_rfl) ?_;rw[<-QD];exact aQ trivial ⟨⟨rfl,rfl⟩,⟨rfl,rfl⟩,⟨rfl,rfl⟩,⟨rfl,rfl⟩,⟨rfl,rfl⟩,⟨rfl,rfl⟩,rfl,trivial⟩
 generalize jx u=fs at*;refine r0 rfl ?_;refine loop (fun i:Nat=>[(0,.pv C),(2,.box false (.ints .i64 false L)),(13,.cJ false 2 default vp fs),(14,.i fs.length),(15,.i i),(1000000,.abs (J (j5 L (fs.take i)).length))]) (fun i=>i<=fs.length/\∀j,j<(j5 L (fs.take i)).length->b j=true) (fun i=>fs.length-i) 0 ⟨Nat.zero_le _,fun j hj=>by simp[j5]at hj⟩ ⟨⟨rfl,rfl⟩,⟨rfl,rfl⟩,⟨rfl,rfl⟩,⟨rfl,rfl⟩,⟨rfl,rfl⟩,rfl,trivial⟩ ?_;rintro i⟨hi,hb⟩;refine r0 rfl ?_;refine br rfl rfl rfl (fun g=>?_) (fun g=>?_)
 ·have cO:i<fs.length:=by omega
  have ei:(i:Int).toNat=i:=by omega
  have eg:fs.getD i default=fs[i]:=bk cO;obtain⟨f1,f2⟩:=Y2 _ (List.getElem_mem cO);have hs:=BL (L:=L) cO;have nM:=HY (L:=L) cO;refine r1 rfl (by simp only[ae,and_true,ei,eg];omega) ?_;rw[ei,eg];obtain⟨c,hc⟩:∃c,c=(j5 L (fs.take i)).length:=⟨_,rfl⟩;rw[<-hc]at hb⊢;refine aB 26 rfl (fun g2=>?_) (fun g2=>?_)
  ·have g2:0<=L.getD fs[i].sh.toNat 0:=g2;rw[if_pos g2]at hs nM;have hcn:c<(j5 L fs).length:=by rw[nM];simp;omega
   have jm:(j5 L fs).getD c 0=L.getD fs[i].sh.toNat 0:=by rw[nM,List.getD_eq_getElem?_getD,List.getElem?_append_right (by omega),hc];simp
   refine r0 rfl ?_;refine yk rfl rfl trivial (fun v hv=>by have:=hy v hv c hcn hb;rw[jm]at this;exact this) rfl ?_;refine r0 rfl ?_;refine o5 rfl rfl rfl (fun g3=>?_) (fun g3=>?_)
   ·have g3:b c=false:=by simpa using g3
    have:=hm.1 c hcn hb g3;subst this;refine r0 rfl ?_;exact Tr [(1000000,.abs (J (c+1)))] ⟨rfl,trivial⟩ rfl trivial ⟨⟨rfl,rfl⟩,trivial⟩
   have g3:b c=true:=by simpa using g3
   refine r1 rfl (by simp only[ae,and_true];omega) ?_;have hlen:(j5 L (fs.take (i+1))).length=c+1:=by rw[hs,List.length_append,<-hc];rfl
   refine again (i+1) (by omega) ⟨by omega,fun j hj=>?_⟩ ⟨⟨rfl,rfl⟩,⟨rfl,rfl⟩,⟨rfl,rfl⟩,⟨rfl,rfl⟩,⟨rfl,rfl⟩,?_,trivial⟩
   ·rw[hlen]at hj;by_cases e:j=c
    ·rw[e];exact g3
    exact hb j (by omega)
   rw[hlen];rfl
  have g2:¬0<=L.getD fs[i].sh.toNat 0:=g2;rw[if_neg g2,List.append_nil]at hs;refine r1 rfl (by simp only[ae,and_true];omega) ?_;refine again (i+1) (by omega) ⟨by omega,fun j hj=>?_⟩ ⟨⟨rfl,rfl⟩,⟨rfl,rfl⟩,⟨rfl,rfl⟩,⟨rfl,rfl⟩,⟨rfl,rfl⟩,?_,trivial⟩
  ·rw[hs,<-hc]at hj;exact hb j hj
  rw[hs,<-hc];rfl
 have:i=fs.length:=by omega
 subst this;rw[List.take_length]at hb⊢;have:=hm.2 hb;subst this;refine r0 rfl ?_;exact Tr [(1000000,.abs (J (j5 L fs).length))] ⟨rfl,trivial⟩ rfl trivial ⟨⟨rfl,rfl⟩,trivial⟩
theorem Ch(b:Nat->Bool):∀n,∃m,Qs b n m/\(((∀k,k<n->b k=true)/\m=n)\/∃k,k<n/\m=k+1/\b k=false/\∀j,j<k->b j=true)
 |0=>⟨0,⟨fun k hk=>by omega,fun _=>rfl⟩,.inl ⟨fun k hk=>by omega,rfl⟩⟩
 |n+1=>by
  obtain⟨m,h1,h2⟩:=Ch b n;rcases h2 with⟨h2,rfl⟩|⟨k,k1,rfl,k3,k4⟩
  ·cases hb:b m with
   |true=>
    have iC:∀k,k<m+1->b k=true:=fun k hk=>by
     by_cases e:k=m
     ·rw[e];exact hb
     exact h2 k (by omega)
    exact⟨m+1,⟨fun k hk hj hf=>by rw[iC k hk]at hf;simp at hf,fun _=>rfl⟩,.inl ⟨iC,rfl⟩⟩
   |false=>
    refine⟨m+1,⟨fun k hk hj hf=>?_,fun h=>absurd (h m (by omega)) (by rw[hb];simp)⟩,.inr ⟨m,by omega,rfl,hb,h2⟩⟩;by_cases e:k=m
    ·rw[e]
    have:=h2 k (by omega);rw[this]at hf;simp at hf
  refine⟨k+1,⟨fun k' qO hj hf=>?_,fun h=>absurd (h k (by omega)) (by rw[k3];simp)⟩,.inr ⟨k,by omega,rfl,k3,k4⟩⟩;rcases Nat.lt_trichotomy k' k with e|e|e
  ·rw[k4 k' e]at hf;simp at hf
  ·rw[e]
  rw[hj k e]at k3;simp at k3
def As(b:Nat->Bool):Nat->Bool
 |0=>true
 |k+1=>As b k&&b k
theorem il{b:Nat->Bool}:∀{k},As b k=true↔∀j,j<k->b j=true
 |0=>by simp[As]
 |k+1=>by
  simp only[As,Bool.and_eq_true,il (k:=k)];constructor
  ·rintro⟨h1,h2⟩j hj;by_cases e:j=k
   ·rw[e];exact h2
   exact h1 j (by omega)
  intro h;exact⟨fun j hj=>h j (by omega),h k (by omega)⟩
theorem Rm(p:ru)(u:dW)(hu:UOk u){n:Int}(hv:o6 n u)(L:List Int)(hL:n<=L.length)(D:List Bool)(hD:∀x∈L,x<D.length):
 jH Tryz.prog 228 [.box true (fo p),.box true (.ints .i64 false L),.box true (.bB true D)] [gN u,.bg 1000000 0 0 [],.bg 1000001 0 0 [],.bg 1000002 0 0 []]
  [.box true (fo p),.box true (.ints .i64 false L),.box true (.bB true D)] (.u ((j5 L (jx u)).all fun i=>D.getD i.toNat false)):=by
 have fC:∀x∈j5 L (jx u),0<=x/\x<D.length:=by
  intro x hx;unfold j5 at hx;rw[List.mem_filter]at hx;obtain⟨h1,h2⟩:=hx;obtain⟨f,hf,rfl⟩:=List.mem_map.1 h1;have Xo:f∈u.aC:=by
   unfold jx at hf;split at hf
   ·exact List.mem_of_mem_drop hf
   exact hf
  have:=hv.feed f Xo;have h3:f.sh.toNat<L.length:=by omega
  refine⟨by simpa using h2,?_⟩;rw[List.getD_eq_getElem?_getD,List.getElem?_eq_getElem h3];exact hD _ (List.getElem_mem h3)
 obtain⟨ys,mC⟩:∃ys,ys=j5 L (jx u):=⟨_,rfl⟩;obtain⟨b,hb⟩:∃b:Nat->Bool,b=fun k=>D.getD (ys.getD k 0).toNat false:=⟨_,rfl⟩;obtain⟨m,hm,T3⟩:=Ch b ys.length;have iC:ys.all (fun i=>D.getD i.toNat false)=As b ys.length:=by
  rw[Bool.eq_iff_iff,il,List.all_eq_true,hb];constructor
  ·intro h k hk;have:=h _ (List.getElem_mem hk);rw[<-bk (d:=(0:Int)) hk]at this;exact this
  intro h x hx;obtain⟨k,hk,rfl⟩:=List.mem_iff_getElem.1 hx;have:=h k hk;dsimp only at this;rw[bk hk]at this;exact this
 rw[<-mC]at fC⊢;rw[iC];refine vo (fn:=Tryz.f228) Tryz.func228 rfl rfl rfl rfl rfl ?_;refine r0 rfl ?_;refine cl rfl rfl (Oc p L u) rfl ?_;refine r0 rfl ?_;refine yc [5,1000002] [5,3] ys.length m (fun k=>[.i (ys.getD k 0)]) (fun _=>[.box true (.b false),.box true (.bB true D)]) b (fun k=>if As b k=true then none else some .ret) (.bC [])
  rfl rfl rfl rfl rfl Tryz.func259 rfl rfl rfl rfl rfl rfl (fun _ _=>rfl) (fun _=>rfl) ?_ rfl rfl (fun k _ h=>if_pos (il.2 h)) (fun C J hy=>LC u hu hv L hL b m (by rw[<-mC];exact hm) C J (by rw[<-mC];exact hy)) ?_ ?_ ?_
 ·intro k hk z hz;simp only[List.mem_cons,List.not_mem_nil,or_false]at hz;rcases hz with rfl|rfl<;>rfl
 ·intro k hk xC;have hx:=fC _ (List.getElem_mem hk);rw[<-bk (d:=(0:Int)) hk]at hx;have Sh:b k=D.getD (ys.getD k 0).toNat false:=by rw[hb]
  refine r0 rfl ?_;refine pg ?_;refine r1 rfl (by simp only[ae,and_true];omega) ?_;refine o5 rfl rfl rfl (fun g=>?_) (fun g=>?_)
  ·have g:b k=false:=by rw[Sh];simpa using g
   refine r0 rfl ?_;exact XP [(1000000,.box true (.b false)),(1000001,.box true (.bB true D))] g (if_neg fun h=>by rw[il]at h;have:=h k (by omega);rw[g]at this;simp at this) ⟨⟨rfl,rfl,.refl _⟩,⟨rfl,rfl,.refl _⟩,trivial⟩ ⟨⟨rfl,rfl⟩,⟨rfl,rfl⟩,trivial⟩
  have g:b k=true:=by rw[Sh];simpa using g
  refine r0 rfl ?_;exact wm [(1000000,.box true (.b false)),(1000001,.box true (.bB true D))] g (if_pos (il.2 fun j hj=>by
   by_cases e:j=k
   ·rw[e];exact g
   exact xC j (by omega))) ⟨⟨rfl,rfl,.refl _⟩,⟨rfl,rfl,.refl _⟩,trivial⟩ ⟨⟨rfl,rfl⟩,⟨rfl,rfl⟩,trivial⟩
 ·intro hp;have ha:As b ys.length=true:=by
   rcases T3 with⟨h1,h2⟩|⟨k,k1,rfl,k3,k4⟩
   ·exact il.2 h1
   exfalso;by_cases e:As b (k+1)=true
   ·have:=il.1 e k (by omega);rw[k3]at this;simp at this
   rw[if_neg e]at hp;simp at hp
  rw[ha];refine r0 rfl ?_;exact Tr [(5,.box true (.b true)),(1000000,.box true (fo p)),(1000001,.box true (.ints .i64 false L)),(1000002,.box true (.bB true D))] ⟨⟨rfl,rfl,.refl _⟩,⟨rfl,rfl,.refl _⟩,⟨rfl,rfl,.refl _⟩,⟨rfl,rfl,.refl _⟩,trivial⟩ rfl (show true=true from rfl) ⟨⟨rfl,rfl⟩,⟨rfl,rfl⟩,⟨rfl,rfl⟩,trivial⟩
 intro c hp;rcases T3 with⟨h1,rfl⟩|⟨k,k1,rfl,k3,k4⟩
 ·rw[if_pos (il.2 h1)]at hp;simp at hp
 have e:¬As b (k+1)=true:=fun h=>by have:=il.1 h k (by omega);rw[k3]at this;simp at this
 rw[if_neg e,Option.some.injEq]at hp;have ha:As b ys.length=false:=by
  cases h:As b ys.length with
  |false=>rfl
  |true=>have:=il.1 h k k1;rw[k3]at this;simp at this
 rw[ha];refine⟨hp.symm,?_⟩;exact Tr [(5,.box true (.b false)),(1000000,.box true (fo p)),(1000001,.box true (.ints .i64 false L)),(1000002,.box true (.bB true D))] ⟨⟨rfl,rfl,.refl _⟩,⟨rfl,rfl,.refl _⟩,⟨rfl,rfl,.refl _⟩,⟨rfl,rfl,.refl _⟩,trivial⟩ rfl (show false=false from rfl) ⟨⟨rfl,rfl⟩,⟨rfl,rfl⟩,⟨rfl,rfl⟩,trivial⟩
def ky(n:Nat)(O:List Int):List Bool:=(List.range n).map fun(i:Nat)=>decide ((i:Int)∈O)
theorem vt(n:Nat)(O:List Int):(ky n O).length=n:=by simp[ky]
theorem vu{n i:Nat}{O:List Int}(h:i<n):(ky n O).getD i false=decide ((i:Int)∈O):=by unfold ky;rw[List.getD_eq_getElem?_getD,List.getElem?_map,List.getElem?_range h];rfl
theorem Mq{n i:Nat}{O:List Int}(h:i<n):(ky n O).set i true=ky n (O++[(i:Int)]):=by
 apply List.ext_getElem
 ·simp[ky]
 intro j k1 k2;simp[ky]at k1;rw[List.getElem_set];simp only[ky,List.getElem_map,List.getElem_range,List.mem_append,List.mem_singleton];by_cases e:i=j
 ·subst e;simp
 have:¬(j:Int)=(i:Int):=by omega
 simp[e,this]
theorem Mr(n:Nat):ky n []=List.replicate n false:=by
 apply List.ext_getElem
 ·simp[ky]
 intro j k1 k2;simp[ky]
theorem NN{us:List dW}{n:Nat}{O:List Int}{u:dW}(hn:∀f∈jx u,0<=f.sh/\f.sh<n):((j5 (Ho n us) (jx u)).all fun i=>(ky us.length O).getD i.toNat false)=(jx u).all (sZ us O):=by
 generalize jx u=fs at*;rw[Bool.eq_iff_iff,List.all_eq_true,List.all_eq_true];have jm:∀f∈fs,(Ho n us).getD f.sh.toNat 0=fu us f.sh:=fun f hf=>by
  have:=hn f hf;rw[SZ (by omega)]
  congr 1;omega
 constructor
 ·intro h f hf;unfold sZ;rw[decide_eq_true_eq];by_cases g:fu us f.sh<0
  ·exact .inl g
  right;have hm:fu us f.sh∈j5 (Ho n us) fs:=by unfold j5;rw[List.mem_filter];exact⟨List.mem_map.2 ⟨f,hf,jm f hf⟩,by simpa using g⟩
  have h2:=h _ hm;have h3:=vr us f.sh;rw[vu (by omega),decide_eq_true_eq]at h2;have:((fu us f.sh).toNat:Int)=fu us f.sh:=by omega
  rwa[this]at h2
 intro h x hx;unfold j5 at hx;rw[List.mem_filter]at hx;obtain⟨h1,h2⟩:=hx;obtain⟨f,hf,rfl⟩:=List.mem_map.1 h1;rw[jm f hf]at h2⊢;have h3:=h f hf;unfold sZ at h3;rw[decide_eq_true_eq]at h3 h2;have h4:=vr us f.sh;rw[vu (by omega),decide_eq_true_eq];have:((fu us f.sh).toNat:Int)=fu us f.sh:=by omega
 rw[this];rcases h3 with h3|h3
 ·omega
 exact h3
theorem Rs(p:ru)(h:M3 p)(n:Nat)(hn:p.n=n)(hv:∀u∈p.ah,o6 p.n u)(hlen:p.ah.length<=96):
 aO Tryz.prog 162 [fo p,.ints .i64 false (Ho n p.ah)] (.bC [.ints .i64 true (if p.ah.length<=(jv p.ah).length then jv p.ah else[]),.u (decide (p.ah.length<=(jv p.ah).length))]):=by
 have F6:(Ho n p.ah).length=n:=by simp[Ho]
 have hD:∀x∈Ho n p.ah,x<(p.ah.length:Int):=by intro x hx;obtain⟨s,-,rfl⟩:=List.mem_map.1 hx;exact vr _ _
 refine enter (fn:=Tryz.f162) Tryz.func162 rfl rfl rfl rfl ?_;refine r1 rfl (by simp only[ae,and_true];omega) ?_;refine mkf rfl rfl ?_;refine r0 rfl ?_;refine loop (fun O:List Int=>[(2,.box true (fo p)),(3,.box true (.ints .i64 false (Ho n p.ah))),(6,.ints .i64 true O),(7,.box true (.bB true (ky p.ah.length O))),(8,.dY 228 [(2,0),(3,0),(7,0)])])
  (fun O=>O.Nodup/\(∀x∈O,0<=x/\x<p.ah.length)/\jv p.ah=jb p.ah (p.ah.length+1-O.length) O) (fun O=>p.ah.length-O.length) [] ⟨List.nodup_nil,by simp,rfl⟩
  ⟨⟨rfl,rfl⟩,⟨rfl,rfl⟩,⟨rfl,rfl⟩,⟨rfl,au.of_eq (by rw[Mr];rfl)⟩,⟨rfl,rfl⟩,trivial⟩ ?_
 rintro O⟨hO1,hO2,hO3⟩;have hOl:=JC hO1 hO2;refine r0 rfl ?_;refine br rfl rfl rfl (fun g=>?_) (fun g=>?_)
 ·have g:O.length<p.ah.length:=by omega
  refine r0 rfl ?_;refine loop (fun i:Nat=>[(2,.box true (fo p)),(3,.box true (.ints .i64 false (Ho n p.ah))),(6,.ints .i64 true O),(7,.box true (.bB true (ky p.ah.length O))),(8,.dY 228 [(2,0),(3,0),(7,0)]),(23,.cJ false 5 default gN p.ah),(24,.i p.ah.length),(25,.i i)])
   (fun i=>i<=p.ah.length/\cW p.ah O 0=cW p.ah O i) (fun i=>p.ah.length-i) 0 ⟨Nat.zero_le _,rfl⟩
   ⟨⟨rfl,rfl⟩,⟨rfl,rfl⟩,⟨rfl,rfl⟩,⟨rfl,rfl⟩,⟨rfl,rfl⟩,⟨rfl,rfl⟩,⟨rfl,rfl⟩,⟨rfl,rfl⟩,trivial⟩ ?_
  rintro i⟨hi,Hl⟩;refine r0 rfl ?_;refine br rfl rfl rfl (fun g1=>?_) (fun g1=>?_)
  ·have cO:i<p.ah.length:=by omega
   have ei:(i:Int).toNat=i:=by omega
   have eg:p.ah.getD i default=p.ah[i]:=bk cO;have RW:=hv _ (List.getElem_mem cO);rw[jL cO]at Hl;have ue:rM p.ah O i=(decide (¬(i:Int)∈O)&&(jx p.ah[i]).all (sZ p.ah O)):=by unfold rM;rw[eg]
   rw[ue]at Hl;refine r1 rfl (by simp only[ae,and_true,ei,vt];omega) ?_;rw[ei,eg,vu cO];refine gS 35 rfl (fun g2=>?_) (fun g2=>?_)
   ·have g2:¬(i:Int)∈O:=by simpa using g2
    rw[decide_eq_true g2,Bool.true_and]at Hl;refine r0 rfl ?_;refine cc rfl rfl (Rm p p.ah[i] (h.unit _ (List.getElem_mem cO)) RW (Ho n p.ah) (by rw[F6,hn];omega) (ky p.ah.length O) (by rw[vt];exact hD)) rfl ?_;rw[NN (O:=O) fun f hf=>by
     have Xo:f∈p.ah[i].aC:=by
      unfold jx at hf;split at hf
      ·exact List.mem_of_mem_drop hf
      exact hf
     have:=RW.feed f Xo;rw[hn]at this;exact⟨this.1,this.2.1⟩]
    refine r0 rfl ?_;refine o5 rfl rfl rfl (fun g3=>?_) (fun g3=>?_)
    ·rw[if_pos g3]at Hl;have fS:¬cW p.ah O 0<0:=by rw[Hl];omega
     obtain⟨q1,q2⟩:=NX hO1 hO2 fS;have hO4:jv p.ah=jb p.ah (p.ah.length+1-(O++[(i:Int)]).length) (O++[(i:Int)]):=by
      have e:p.ah.length+1-O.length=(p.ah.length+1-(O++[(i:Int)]).length)+1:=by rw[List.length_append,List.length_singleton];omega
      rw[hO3,e,jb,if_neg fS,Hl]
     rw[Hl]at q1 q2;refine r1 rfl (by simp only[ae,and_true,ei,vt];simp;omega) ?_;refine again (O++[(i:Int)]) (by simp;omega) ⟨q1,q2,hO4⟩ ⟨⟨rfl,rfl⟩,⟨rfl,rfl⟩,⟨rfl,rfl⟩,⟨rfl,au.of_eq (congrArg (SV.box true) (congrArg (SV.bB true) ?_))⟩,⟨rfl,rfl⟩,trivial⟩;rw[ei,Mq cO]
    rw[if_neg (by rw[g3];simp)]at Hl;refine r1 rfl (by simp only[ae,and_true];omega) ?_;refine again (i+1) (by omega) ⟨by omega,Hl⟩ ⟨⟨rfl,rfl⟩,⟨rfl,rfl⟩,⟨rfl,rfl⟩,⟨rfl,rfl⟩,⟨rfl,rfl⟩,⟨rfl,rfl⟩,⟨rfl,rfl⟩,⟨rfl,rfl⟩,trivial⟩
   have g2:(i:Int)∈O:=by simpa using g2
   rw[decide_eq_false (fun hh=>hh g2),Bool.false_and,if_neg (by simp)]at Hl;refine r1 rfl (by simp only[ae,and_true];omega) ?_;refine again (i+1) (by omega) ⟨by omega,Hl⟩ ⟨⟨rfl,rfl⟩,⟨rfl,rfl⟩,⟨rfl,rfl⟩,⟨rfl,rfl⟩,⟨rfl,rfl⟩,⟨rfl,rfl⟩,⟨rfl,rfl⟩,⟨rfl,rfl⟩,trivial⟩
  rw[n8 (j:=i) (by omega)]at Hl;have Xf:jv p.ah=O:=by
   have e:p.ah.length+1-O.length=(p.ah.length-O.length)+1:=by omega
   rw[hO3,e,jb,if_pos (by rw[Hl];decide)]
  rw[Xf,if_neg (by omega),decide_eq_false (by omega)];refine r0 rfl ?_;exact aF rfl ⟨rfl,rfl,trivial⟩
 have hOe:O.length=p.ah.length:=by omega
 have Xf:jv p.ah=O:=by
  have e:p.ah.length+1-O.length=0+1:=by omega
  rw[hO3,e,jb];have:cW p.ah O 0<0:=by
   rcases ra p.ah O 0 with e|⟨i,-,-,h2,h3⟩
   ·rw[e];decide
   exfalso;unfold rM at h3;simp only[Bool.and_eq_true,decide_eq_true_eq]at h3;have:=JC (us:=p.ah) (out:=(i:Int)::O) (List.nodup_cons.2 ⟨h3.1,hO1⟩) (fun x hx=>by
    rcases List.mem_cons.1 hx with rfl|hx
    ·omega
    exact hO2 x hx)
   simp at this;omega
  rw[if_pos this]
 rw[Xf,if_pos (by omega),decide_eq_true (by omega)];refine r0 rfl ?_;exact aF rfl ⟨rfl,rfl,trivial⟩
end Go.Ai.Pg
