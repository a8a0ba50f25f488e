/- Parts of the proof of ScaleNumbers (CheckBench, Exponent and Largest answer as the reference does), at every input, with no further conditions. -/
import Derived.Test.YtdgocdadfmhjgaaGreatDoorZAL
import Derived.Laws.StandIn
set_option linter.unusedVariables false
set_option linter.unusedSimpArgs false
namespace Go.Ai.b6
theorem lW(pre w post:List Int){i:Nat}(h:i<w.length):(pre++w++post).getD (pre.length+i) 0=w.getD i 0:=by rw[List.getD_eq_getElem?_getD,List.getD_eq_getElem?_getD,List.append_assoc,List.getElem?_append_right (by omega),Nat.add_sub_cancel_left,List.getElem?_append_left h]
theorem xp(pre w post:List Int){i:Nat}(y:Int)(h:i<w.length):(pre++w++post).set (pre.length+i) y=pre++w.set i y++post:=by rw[List.append_assoc,List.set_append_right _ _ (by omega),Nat.add_sub_cancel_left,List.set_append_left _ _ h,List.append_assoc]
theorem wF{k:Nat}{t r v1 v2 u2:Int}(h1:0<=t/\t<18446744073709551616)(h2:18446744073709551616<=r)(hv:0<=v2/\v2<18446744073709551616)(hu:0<=u2):b7 k t r v1 v2 u2=t:=by
 cases k with
 |zero=>rfl
 |succ k=>
  unfold b7;rw[if_neg];rintro(h|h)
  ·omega
  have:t*v2<=18446744073709551615*18446744073709551615:=Int.mul_le_mul (by omega) (by omega) hv.1 (by omega);omega
theorem F9{k:Nat}{t r v1 v2 u2:Int}(h1:t<18446744073709551616)(h2:t*v2<=r*18446744073709551616+u2):b7 k t r v1 v2 u2=t:=by
 cases k with
 |zero=>rfl
 |succ k=>unfold b7;rw[if_neg];rintro(h|h)<;>omega
theorem Ga{t r v1 v2 u2:Int}(h0:1<=t)(h2:r*18446744073709551616+u2<t*v2)(h3:r+v1<18446744073709551616):b7 t.toNat t r v1 v2 u2=b7 (t-1).toNat (t-1) (r+v1) v1 v2 u2:=by
 have:t.toNat=(t-1).toNat+1:=by omega
 rw[this]
 conv=>lhs;unfold b7
 rw[if_pos (.inr h2),if_neg (by omega)]
theorem Gb{t r v1 v2 u2:Int}(h0:1<=t)(h2:r*18446744073709551616+u2<t*v2)(h3:18446744073709551616<=r+v1):b7 t.toNat t r v1 v2 u2=t-1:=by
 have:t.toNat=(t-1).toNat+1:=by omega
 rw[this]
 conv=>lhs;unfold b7
 rw[if_pos (.inr h2),if_pos (by omega)]
theorem Ll{w:List Int}{L:Nat}(hw:w.length=L+1)(hL:2<=L):val w=(w.getD L 0*18446744073709551616+w.getD (L-1) 0)*(18446744073709551616*18446744073709551616^(L-2))+w.getD (L-2) 0*18446744073709551616^(L-2)+val (w.take (L-2)):=by
 have e0:w.take (L+1)=w:=List.take_of_length_le (by omega);have e1:=aA w L;have e2:=aA w (L-1);have e3:=aA w (L-2);rw[e0]at e1;rw[show L-1+1=L by omega]at e2;rw[show L-2+1=L-1 by omega]at e3;have p1:(18446744073709551616:Int)^L=18446744073709551616^(L-2)*18446744073709551616*18446744073709551616:=by rw[<-Int.pow_succ,<-Int.pow_succ];congr 1;omega
 have p2:(18446744073709551616:Int)^(L-1)=18446744073709551616^(L-2)*18446744073709551616:=by rw[<-Int.pow_succ];congr 1;omega
 rw[p1]at e1;rw[p2]at e2;generalize (18446744073709551616:Int)^(L-2)=P at*;rw[e1,e2,e3];generalize w.getD L 0=a;generalize w.getD (L-1) 0=b;generalize w.getD (L-2) 0=c;have q1:a*(P*18446744073709551616*18446744073709551616)=(a*P)*18446744073709551616*18446744073709551616:=by simp only[Int.mul_assoc]
 have q2:b*(P*18446744073709551616)=(b*P)*18446744073709551616:=by simp only[Int.mul_assoc]
 have q3:(a*18446744073709551616+b)*(18446744073709551616*P)=(a*P)*18446744073709551616*18446744073709551616+(b*P)*18446744073709551616:=by
  rw[Int.add_mul]
  congr 1
  ·rw[Int.mul_comm 18446744073709551616 P,Int.mul_assoc,<-Int.mul_assoc 18446744073709551616 P,Int.mul_comm 18446744073709551616 P];simp only[Int.mul_assoc]
  rw[Int.mul_comm 18446744073709551616 P];simp only[Int.mul_assoc]
 rw[q1,q2,q3];omega
theorem Lm{v:List Int}{L:Nat}(hv:v.length=L)(hL:2<=L):val v=v.getD (L-1) 0*(18446744073709551616*18446744073709551616^(L-2))+v.getD (L-2) 0*18446744073709551616^(L-2)+val (v.take (L-2)):=by
 have e0:v.take L=v:=List.take_of_length_le (by omega);have e2:=aA v (L-1);have e3:=aA v (L-2);rw[show L-1+1=L by omega,e0]at e2;rw[show L-2+1=L-1 by omega]at e3;have p2:(18446744073709551616:Int)^(L-1)=18446744073709551616*18446744073709551616^(L-2):=by rw[Int.mul_comm,<-Int.pow_succ];congr 1;omega
 rw[p2]at e2;rw[e2,e3];omega
structure MS(w v:List Int)(L q i:Nat)(u:List Int)(carry borrow:Nat):Prop where
 len:u.length=L+1
 dig:fD u
 same:∀k,i<=k->u.getD k 0=w.getD k 0
 c:carry<18446744073709551616
 b:borrow<=1
 eq:val (u.take i)+q*val (v.take i)=val (w.take i)+((carry:Int)+borrow)*18446744073709551616^i
theorem MS.start{w v:List Int}{L q:Nat}(h:w.length=L+1)(hd:fD w):MS w v L q 0 w 0 0:=⟨h,hd,fun _ _=>rfl,by omega,by omega,by simp[val]⟩
theorem split_mul{p c:Nat}:(p%18446744073709551616+c)%18446744073709551616=(p+c)%18446744073709551616/\p/18446744073709551616+(p%18446744073709551616+c)/18446744073709551616=(p+c)/18446744073709551616:=by omega
theorem BK{q x c:Nat}(h1:q<18446744073709551616)(h2:x<18446744073709551616)(h3:c<18446744073709551616):(q*x+c)/18446744073709551616<18446744073709551616:=by have:q*x<=18446744073709551615*18446744073709551615:=Nat.mul_le_mul (by omega) (by omega);omega
theorem MS.next{w v u:List Int}{L q i carry borrow vi ui:Nat}(h:MS w v L q i u carry borrow)(hi:i<L)(hq:q<18446744073709551616)(ev:v.getD i 0=vi)(eu:w.getD i 0=ui)(hv:vi<18446744073709551616)(hu:ui<18446744073709551616):
 MS w v L q (i+1) (u.set i ((ui+18446744073709551616-(q*vi+carry)%18446744073709551616-borrow)%18446744073709551616:Nat)) ((q*vi+carry)/18446744073709551616) (if ui<(q*vi+carry)%18446744073709551616+borrow then 1 else 0):=by
 obtain⟨h1,h2,h3,h4,h5,h6⟩:=h;have hc:=BK hq hv h4;have hm:=Nat.mod_lt (q*vi+carry) (show 0<18446744073709551616 by decide);have B4:=Nat.mod_add_div (q*vi+carry) 18446744073709551616;refine⟨by simp[h1],du h2 (by omega),fun k hk=>?_,hc,by split<;>omega,?_⟩
 ·rw[bA,if_neg (by omega)];exact h3 k (by omega)
 rw[aA,dt (Nat.le_refl _),bA,if_pos (by omega),aA v,aA w,ev,eu];have e1:(q:Int)*(val (v.take i)+(vi:Int)*18446744073709551616^i)=q*val (v.take i)+((q*vi:Nat):Int)*18446744073709551616^i:=by rw[Int.mul_add,<-Int.mul_assoc,Int.natCast_mul]
 rw[e1,Int.pow_succ];generalize (q:Int)*val (v.take i)=A at*;generalize val (v.take i)=A2 at*;generalize val (u.take i)=Uu at*;generalize val (w.take i)=Ww at*;obtain⟨lo,kh⟩:∃lo,lo=(q*vi+carry)%18446744073709551616:=⟨_,rfl⟩;obtain⟨cy,Xp⟩:∃cy,cy=(q*vi+carry)/18446744073709551616:=⟨_,rfl⟩;rw[<-kh]at hm B4⊢;rw[<-Xp]at B4 hc⊢;obtain⟨b',dr⟩:∃b',b'=if ui<lo+borrow then 1 else 0:=⟨_,rfl⟩;rw[<-dr];have key:(((ui+18446744073709551616-lo-borrow)%18446744073709551616:Nat):Int)=(ui:Int)-lo-borrow+18446744073709551616*b':=by rw[dr];split<;>omega
 rw[key];have e2:((q*vi:Nat):Int)=(lo:Int)+18446744073709551616*cy-carry:=by omega
 rw[e2];generalize (18446744073709551616:Int)^i=P at*;have x1:((carry:Int)+borrow)*P=carry*P+borrow*P:=Int.add_mul ..;have x2:((ui:Int)-lo-borrow+18446744073709551616*b')*P=ui*P-lo*P-borrow*P+18446744073709551616*(b'*P):=by rw[Int.add_mul,Int.sub_mul,Int.sub_mul,Int.mul_assoc]
 have x3:((lo:Int)+18446744073709551616*cy-carry)*P=lo*P+18446744073709551616*(cy*P)-carry*P:=by rw[Int.sub_mul,Int.add_mul,Int.mul_assoc]
 have x4:((cy:Int)+b')*(P*18446744073709551616)=18446744073709551616*(cy*P)+18446744073709551616*(b'*P):=by rw[Int.mul_comm P,<-Int.mul_assoc,Int.mul_comm _ 18446744073709551616,Int.mul_assoc,Int.add_mul,Int.mul_add]
 rw[x1]at h6;rw[x2,x3,x4];omega
theorem MS.last{w v u:List Int}{L q carry borrow ui:Nat}(h:MS w v L q L u carry borrow)(hw:w.length=L+1)(hv:v.length=L)(eu:w.getD L 0=ui)(hu:ui<18446744073709551616):
 (u.set L ((ui+18446744073709551616-carry-borrow)%18446744073709551616:Nat)).length=L+1/\fD (u.set L ((ui+18446744073709551616-carry-borrow)%18446744073709551616:Nat))/\
   val (u.set L ((ui+18446744073709551616-carry-borrow)%18446744073709551616:Nat))+q*val v=val w+((if ui<carry+borrow then 1 else 0:Nat):Int)*18446744073709551616^(L+1):=by
 obtain⟨h1,h2,h3,h4,h5,h6⟩:=h;refine⟨by simp[h1],du h2 (by omega),?_⟩;obtain⟨x,hx⟩:∃x,x=(ui+18446744073709551616-carry-borrow)%18446744073709551616:=⟨_,rfl⟩;rw[<-hx];have e0:(u.set L (x:Int)).take (L+1)=u.set L (x:Int):=List.take_of_length_le (by simp[h1]);have e1:=aA (u.set L (x:Int)) L;rw[e0,dt (Nat.le_refl _),bA,if_pos (by omega)]at e1;have e2:=aA w L;rw[List.take_of_length_le (by omega),eu]at e2;rw[List.take_of_length_le (show v.length<=L by omega)]at h6;rw[e1,e2,Int.pow_succ];obtain⟨b',dr⟩:∃b':Nat,b'=if ui<carry+borrow then 1 else 0:=⟨_,rfl⟩;rw[<-dr];have key:(x:Int)=(ui:Int)-carry-borrow+18446744073709551616*b':=by rw[hx,dr];split<;>omega
 rw[key];generalize (q:Int)*val v=A at*;generalize (18446744073709551616:Int)^L=P at*;have x1:((carry:Int)+borrow)*P=carry*P+borrow*P:=Int.add_mul ..;have x2:((ui:Int)-carry-borrow+18446744073709551616*b')*P=ui*P-carry*P-borrow*P+18446744073709551616*(b'*P):=by rw[Int.add_mul,Int.sub_mul,Int.sub_mul,Int.mul_assoc]
 have x4:(b':Int)*(P*18446744073709551616)=18446744073709551616*(b'*P):=by rw[Int.mul_comm P,<-Int.mul_assoc,Int.mul_comm _ 18446744073709551616,Int.mul_assoc]
 rw[x1]at h6;rw[x2,x4];omega
structure AB(u2 v:List Int)(L i:Nat)(u:List Int)(c:Nat):Prop where
 len:u.length=L+1
 dig:fD u
 same:∀k,i<=k->u.getD k 0=u2.getD k 0
 hc:c<=1
 eq:val (u.take i)+(c:Int)*18446744073709551616^i=val (u2.take i)+val (v.take i)
theorem AB.start{w v:List Int}{L:Nat}(h:w.length=L+1)(hd:fD w):AB w v L 0 w 0:=⟨h,hd,fun _ _=>rfl,by omega,by simp[val]⟩
theorem AB.next{u2 v u:List Int}{L i c vi ui:Nat}(h:AB u2 v L i u c)(hi:i<L)(ev:v.getD i 0=vi)(eu:u2.getD i 0=ui)(hv:vi<18446744073709551616)(hu:ui<18446744073709551616):
 AB u2 v L (i+1) (u.set i ((ui+vi+c)%18446744073709551616:Nat)) ((ui+vi+c)/18446744073709551616):=by
 obtain⟨h1,h2,h3,h4,h6⟩:=h;refine⟨by simp[h1],du h2 (by omega),fun k hk=>?_,by omega,?_⟩
 ·rw[bA,if_neg (by omega)];exact h3 k (by omega)
 rw[aA,dt (Nat.le_refl _),bA,if_pos (by omega),aA v,aA u2,ev,eu,Int.pow_succ];generalize val (v.take i)=A2 at*;generalize val (u.take i)=Uu at*;generalize val (u2.take i)=Ww at*;obtain⟨lo,kh⟩:∃lo,lo=(ui+vi+c)%18446744073709551616:=⟨_,rfl⟩;obtain⟨cy,Xp⟩:∃cy,cy=(ui+vi+c)/18446744073709551616:=⟨_,rfl⟩;rw[<-kh,<-Xp];have key:(lo:Int)=(ui:Int)+vi+c-18446744073709551616*cy:=by omega
 rw[key];generalize (18446744073709551616:Int)^i=P at*;have x2:((ui:Int)+vi+c-18446744073709551616*cy)*P=ui*P+vi*P+c*P-18446744073709551616*(cy*P):=by rw[Int.sub_mul,Int.add_mul,Int.add_mul,Int.mul_assoc]
 have x4:(cy:Int)*(P*18446744073709551616)=18446744073709551616*(cy*P):=by rw[Int.mul_comm P,<-Int.mul_assoc,Int.mul_comm _ 18446744073709551616,Int.mul_assoc]
 rw[x2,x4];omega
theorem AB.last{u2 v u:List Int}{L c ui:Nat}(h:AB u2 v L L u c)(hw:u2.length=L+1)(hv:v.length=L)(eu:u2.getD L 0=ui):
 (u.set L ((ui+c)%18446744073709551616:Nat)).length=L+1/\fD (u.set L ((ui+c)%18446744073709551616:Nat))/\
   val (u.set L ((ui+c)%18446744073709551616:Nat))+(((ui+c)/18446744073709551616:Nat):Int)*18446744073709551616^(L+1)=val u2+val v:=by
 obtain⟨h1,h2,h3,h4,h6⟩:=h;refine⟨by simp[h1],du h2 (by omega),?_⟩;obtain⟨x,hx⟩:∃x,x=(ui+c)%18446744073709551616:=⟨_,rfl⟩;obtain⟨cy,Xp⟩:∃cy,cy=(ui+c)/18446744073709551616:=⟨_,rfl⟩;rw[<-hx,<-Xp];have e0:(u.set L (x:Int)).take (L+1)=u.set L (x:Int):=List.take_of_length_le (by simp[h1]);have e1:=aA (u.set L (x:Int)) L;rw[e0,dt (Nat.le_refl _),bA,if_pos (by omega)]at e1;have e2:=aA u2 L;rw[List.take_of_length_le (by omega),eu]at e2;rw[List.take_of_length_le (show v.length<=L by omega)]at h6;rw[e1,e2,Int.pow_succ];have key:(x:Int)=(ui:Int)+c-18446744073709551616*cy:=by omega
 rw[key];generalize (18446744073709551616:Int)^L=P at*;have x2:((ui:Int)+c-18446744073709551616*cy)*P=ui*P+c*P-18446744073709551616*(cy*P):=by rw[Int.sub_mul,Int.add_mul,Int.mul_assoc]
 have x4:(cy:Int)*(P*18446744073709551616)=18446744073709551616*(cy*P):=by rw[Int.mul_comm P,<-Int.mul_assoc,Int.mul_comm _ 18446744073709551616,Int.mul_assoc]
 rw[x2,x4];omega
theorem EB{u:List Int}{L U V q:Nat}(hl:u.length=L+1)(hd:fD u)(h:val u+q*V=(U:Int))(hq:(U:Int)<((q:Int)+1)*V):u=fx (L+1) (U%V)/\U/V=q:=by
 have h0:=aT hd;rw[Int.add_mul,Int.one_mul]at hq;have cB:(val u).toNat<V:=by omega
 have e:U=(val u).toNat+V*q:=by
  have:((V*q:Nat):Int)=(q:Int)*V:=by rw[Int.natCast_mul,Int.mul_comm]
  omega
 have e1:U%V=(val u).toNat:=by rw[e,Nat.add_mul_mod_self_left,Nat.mod_eq_of_lt cB]
 have e2:U/V=q:=by rw[e,Nat.add_mul_div_left _ _ (by omega),Nat.div_eq_of_lt cB,Nat.zero_add]
 refine⟨?_,e2⟩;rw[e1,<-hl];exact Ka hd (by omega)
theorem K1{u2 u:List Int}{L U V q cy:Nat}(hl:u.length=L+1)(hd:fD u)(Ir:u2.length=L+1)(Za:fD u2)(h:val u2+q*V=(U:Int)+18446744073709551616^(L+1))(hV:(V:Int)<18446744073709551616^(L+1))
 (hb:((q:Int)-1)*V<=U)(h4:val u+(cy:Int)*18446744073709551616^(L+1)=val u2+V)(Xp:cy<=1):u=fx (L+1) (U%V)/\U/V=q-1/\1<=q:=by
 have h0:=aT hd;have h1:=fI hd;have h2:=fI Za;have h3:=aT Za;rw[hl]at h1;rw[Ir]at h2;rw[Int.sub_mul,Int.one_mul]at hb;generalize (18446744073709551616:Int)^(L+1)=P at*;have hq1:1<=q:=by
  rcases Nat.eq_zero_or_pos q with e|e
  ·subst e;simp at h;omega
  exact e
 obtain⟨p,rfl⟩:∃p,q=p+1:=⟨q-1,by omega⟩;have ep:(((p+1:Nat):Int))*V=(p:Int)*V+V:=by rw[Int.natCast_add,Int.add_mul];simp
 rw[ep]at h hb;have AH:cy=1:=by
  rcases Nat.lt_or_ge cy 1 with e|e
  ·have:cy=0:=by omega
   subst this;simp at h4;omega
  omega
 subst AH;simp only[Int.natCast_one,Int.one_mul]at h4;have:=EB (u:=u) (L:=L) (U:=U) (V:=V) (q:=p) hl hd (by omega) (by rw[Int.add_mul,Int.one_mul];omega);exact⟨this.1,by rw[this.2];omega,by omega⟩
end Go.Ai.b6
namespace Go.Ai.b6
open Go.Proofs Go.Ai
set_option maxRecDepth 100000
theorem UF{uL u1 u2 v1 v2 P rl vl:Int}(hP:0<P)(h1:0<=u1)(h2:0<=u2)(hr:0<=rl)(h3:0<=v2/\v2<18446744073709551616)(hv:0<=vl/\vl<P)
 (h:(uL*18446744073709551616+u1)*(18446744073709551616*P)+u2*P+rl<18446744073709551616*(v1*(18446744073709551616*P)+v2*P+vl)):uL<=v1:=by
 rcases Int.lt_or_le v1 uL with g|g
 ·have a1:(v1*18446744073709551616+18446744073709551616)*(18446744073709551616*P)<=(uL*18446744073709551616+u1)*(18446744073709551616*P):=Int.mul_le_mul_of_nonneg_right (by omega) (by omega);have a2:(v2+1)*P<=18446744073709551616*P:=Int.mul_le_mul_of_nonneg_right (by omega) (by omega);have a3:0<=u2*P:=Int.mul_nonneg h2 (by omega);rw[Int.add_mul]at a2;have a4:(v1*18446744073709551616+18446744073709551616)*(18446744073709551616*P)=18446744073709551616*(v1*(18446744073709551616*P))+18446744073709551616*(18446744073709551616*P):=by
   rw[Int.add_mul,Int.mul_comm v1,Int.mul_assoc]
  rw[a4]at a1;generalize v1*(18446744073709551616*P)=X at*;generalize (uL*18446744073709551616+u1)*(18446744073709551616*P)=Y at*;generalize v2*P=Z at*;generalize u2*P=Z2 at*;omega
 exact g
theorem UE{t top u2 v1 v2 P rl vl:Int}(hP:0<P)(ht:0<=t)(h2:0<=u2/\u2<18446744073709551616)(hr:rl<P)(h3:0<=v2)(hv:0<=vl)(h:top<(t+1)*v1):
 top*(18446744073709551616*P)+u2*P+rl<(t+1)*(v1*(18446744073709551616*P)+v2*P+vl):=by
 have a1:(top+1)*(18446744073709551616*P)<=((t+1)*v1)*(18446744073709551616*P):=Int.mul_le_mul_of_nonneg_right (by omega) (by omega);have a2:(u2+1)*P<=18446744073709551616*P:=Int.mul_le_mul_of_nonneg_right (by omega) (by omega);have a3:0<=(t+1)*(v2*P+vl):=Int.mul_nonneg (by omega) (by have:=Int.mul_nonneg h3 (Int.le_of_lt hP);omega);have a4:(t+1)*(v1*(18446744073709551616*P)+v2*P+vl)=((t+1)*v1)*(18446744073709551616*P)+(t+1)*(v2*P+vl):=by rw[Int.add_assoc,Int.mul_add,Int.mul_assoc]
 rw[a4];rw[Int.add_mul]at a1 a2;generalize (t+1)*(v2*P+vl)=X at*;generalize ((t+1)*v1)*(18446744073709551616*P)=Y at*;generalize top*(18446744073709551616*P)=Z at*;generalize u2*P=Z2 at*;omega
set_option maxHeartbeats 2000000 in
theorem nS(pre w post:List Int)(V:Nat)(hw:w.length=(aa V).length+1)(TM:fD w)(hL:2<=(aa V).length)(OL:9223372036854775808<=(aa V).getD ((aa V).length-1) 0)
 (hU:val w<18446744073709551616*(V:Int))(ct:pre.length+w.length+post.length<2^50):
 jH Tryz.prog 245 [.ints .u64 true (pre++w++post)] [.bg 1000000 0 0 [.jI 1 pre.length ((aa V).length+1)],.ints .u64 false (aa V)]
  [.ints .u64 true (pre++fx ((aa V).length+1) ((val w).toNat%V)++post)] (.n .u64 ((val w).toNat/V:Nat)):=by
 have Vv:=a8 V;have Ym:=aX V;have Eh:0<V:=by
  rcases Nat.eq_zero_or_pos V with e|e
  ·subst e;rw[b9]at hL;simp at hL
  exact e
 generalize aa V=v at*;have Hk:∀l:List Int,l.length=v.length+1->(pre++l++post).length=pre.length+(v.length+1)+post.length:=fun l hl=>by simp[hl,Nat.add_assoc]
 have nat:∀(l:List Int),fD l->∀i,∃x:Nat,l.getD i 0=x/\x<18446744073709551616:=fun l hd i=>by have:=aU hd i;exact⟨(l.getD i 0).toNat,by omega,by omega⟩
 obtain⟨v1,Ug,LZ⟩:=nat v Vv (v.length-1);obtain⟨v2,XB,Vw⟩:=nat v Vv (v.length-2);obtain⟨uL,euL,huL⟩:=nat w TM v.length;obtain⟨u1,eu1,OK⟩:=nat w TM (v.length-1);obtain⟨u2,eu2,Yq⟩:=nat w TM (v.length-2);have eL:(v.length:Int).toNat=v.length:=by omega
 have Hn:((v.length:Int)-1).toNat=v.length-1:=by omega
 have ZN:((v.length:Int)-2).toNat=v.length-2:=by omega
 have FO:=Hk w hw;have m0:(pre++w++post).getD (pre.length+v.length) 0=uL:=by rw[lW _ _ _ (by omega),euL]
 have m1:(pre++w++post).getD (pre.length+(v.length-1)) 0=u1:=by rw[lW _ _ _ (by omega),eu1]
 have m2:(pre++w++post).getD (pre.length+(v.length-2)) 0=u2:=by rw[lW _ _ _ (by omega),eu2]
 obtain⟨P,hP⟩:∃P:Int,P=18446744073709551616^(v.length-2):=⟨_,rfl⟩;have hPp:0<P:=by rw[hP];exact bV _
 have pw:=Ll hw hL;have pv:=Lm rfl hL;rw[euL,eu1,eu2,<-hP]at pw;rw[Ug,XB,Ym,<-hP]at pv;have Yn:=aT (eO TM (v.length-2));have Vy:=fI (eO TM (v.length-2));have Vu:=aT (eO Vv (v.length-2));have Vt:=fI (eO Vv (v.length-2));rw[List.length_take,show min (v.length-2) w.length=v.length-2 by omega,<-hP]at Vy;rw[List.length_take,show min (v.length-2) v.length=v.length-2 by omega,<-hP]at Vt;have afQ:9223372036854775808<=v1:=by rw[Ug]at OL;omega
 have Yr:∀t:Int,0<=t->(uL:Int)*18446744073709551616+u1<(t+1)*v1->val w<(t+1)*V:=by intro t ht h;have:=UE hPp ht (show 0<=(u2:Int)/\(u2:Int)<18446744073709551616 by omega) Vy (show 0<=(v2:Int) by omega) Vu h;rw[<-pw,<-pv]at this;exact this
 refine vo (fn:=Tryz.f245) Tryz.func245 rfl rfl rfl rfl rfl ?_;refine wO 5 (fun t r:Nat=>[(0,.bg 1000000 0 0 [.jI 1 pre.length (v.length+1)]),(1,.ints .u64 false v),(5,.i v.length),(6,.n .u64 t),(7,.n .u64 (r%18446744073709551616:Nat)),(8,.n .u64 (r/18446744073709551616:Nat)),(1000000,.ints .u64 true (pre++w++post))])
  (fun t r=>t<18446744073709551616/\r<2*18446744073709551616/\(t:Int)*v1+r=(uL:Int)*18446744073709551616+u1/\val w<((t:Int)+1)*V) ?_ fun t r⟨ht,hr,htr,htV⟩=>?_
 ·refine k1 rfl (by kernel_rfl) ?_ ?_
  ·simp only[ae,and_true,eL,Hn,FO]<;>omega
  refine br rfl rfl rfl (fun hc=>?_) (fun hc=>?_)
  ·rw[eL,Hn,m0,Ug]at hc;have hle:(uL:Int)<=v1:=UF (u1:=u1) (u2:=u2) (v2:=v2) hPp (by omega) (by omega) Yn (by omega) ⟨Vu,Vt⟩ (by rw[<-pw,<-pv];exact hU);have heq:uL=v1:=by omega
   refine r1 rfl ?_ ?_
   ·simp only[ae,and_true,eL,Hn,FO]<;>omega
   refine WH (us:=[.n .u64 u1,.n .u64 v1,.n .u64 ((0:Nat):Int)]) rfl rfl trivial ⟨congrArg (SV.n .u64) (by rw[Hn,m1]),congrArg (SV.n .u64) (by rw[Hn,Ug]),rfl,trivial⟩ (dJ u1 v1 0 (by decide)) rfl ?_;refine k0 rfl (by kernel_rfl) ?_;refine meet (18446744073709551615,u1+v1) ⟨by omega,by omega,?_,?_⟩ ⟨⟨rfl,rfl,rfl⟩,⟨rfl,rfl⟩,⟨rfl,rfl⟩,⟨rfl,rfl⟩,⟨rfl,rfl⟩,⟨rfl,rfl⟩,⟨rfl,rfl⟩,trivial⟩
   ·dsimp only;omega
   dsimp only;exact hU
  rw[eL,Hn,m0,Ug]at hc;have cB:uL<v1:=by omega
  refine r1 rfl ?_ ?_
  ·simp only[ae,and_true,eL,Hn,FO]<;>omega
  refine WH (us:=[.n .u64 uL,.n .u64 u1,.n .u64 v1]) rfl rfl trivial ⟨congrArg (SV.n .u64) (by rw[eL,m0]),congrArg (SV.n .u64) (by rw[Hn,m1]),congrArg (SV.n .u64) (by rw[Hn,Ug]),trivial⟩ (wM uL u1 v1 cB LZ OK) rfl ?_;refine k0 rfl (by kernel_rfl) ?_;have B4:=Nat.mod_add_div (uL*18446744073709551616+u1) v1;have Ip:=Nat.mod_lt (uL*18446744073709551616+u1) (show 0<v1 by omega);have Se:(uL*18446744073709551616+u1)/v1<18446744073709551616:=by rw[Nat.div_lt_iff_lt_mul (by omega)];omega
  obtain⟨q,hq⟩:∃q,q=(uL*18446744073709551616+u1)/v1:=⟨_,rfl⟩;obtain⟨r,hr⟩:∃r,r=(uL*18446744073709551616+u1)%v1:=⟨_,rfl⟩;rw[<-hq,<-hr];rw[<-hq]at B4 Se;rw[<-hr]at B4 Ip;have hi:(q:Int)*v1+r=(uL:Int)*18446744073709551616+u1:=by
   have:((v1*q:Nat):Int)=(q:Int)*v1:=by rw[Int.natCast_mul,Int.mul_comm]
   omega
  refine meet (q,r) ⟨Se,by dsimp only;omega,hi,?_⟩ ⟨⟨rfl,rfl,rfl⟩,⟨rfl,rfl⟩,⟨rfl,rfl⟩,⟨rfl,rfl⟩,⟨rfl,congrArg (SV.n .u64) (by dsimp only;omega)⟩,⟨rfl,congrArg (SV.n .u64) (by dsimp only;omega)⟩,⟨rfl,rfl⟩,trivial⟩;dsimp only;refine Yr q (by omega) ?_;rw[Int.add_mul,Int.one_mul];omega
 obtain⟨G,hG⟩:∃G,G=b7 (t:Int).toNat t r v1 v2 u2:=⟨_,rfl⟩;have JU:=pM hPp (show(1:Int)<=v1 by omega) (show 0<=(v2:Int)/\(v2:Int)<18446744073709551616 by omega) (show 0<=(u2:Int)/\(u2:Int)<18446744073709551616 by omega) ⟨Vu,Vt⟩ ⟨Yn,Vy⟩ pv pw hU (t:Int).toNat t r rfl (by omega) (by omega) htr htV;rw[<-hG]at JU;refine PJ 1 (fun q:Nat=>[(0,.bg 1000000 0 0 [.jI 1 pre.length (v.length+1)]),(1,.ints .u64 false v),(5,.i v.length),(6,.n .u64 q),(1000000,.ints .u64 true (pre++w++post))]) (fun q=>(q:Int)=G) ?_ fun q hq=>?_
 ·refine r0 rfl ?_;refine lP (fun t r:Nat=>[(0,.bg 1000000 0 0 [.jI 1 pre.length (v.length+1)]),(1,.ints .u64 false v),(5,.i v.length),(6,.n .u64 t),(7,.n .u64 (r%18446744073709551616:Nat)),(8,.n .u64 (r/18446744073709551616:Nat)),(1000000,.ints .u64 true (pre++w++post))])
   (fun t r=>t<18446744073709551616/\r<2*18446744073709551616/\b7 (t:Int).toNat t r v1 v2 u2=G) (fun t _=>t) t r ⟨ht,hr,hG.symm⟩
   ⟨⟨rfl,rfl,rfl⟩,⟨rfl,rfl⟩,⟨rfl,rfl⟩,⟨rfl,rfl⟩,⟨rfl,rfl⟩,⟨rfl,rfl⟩,⟨rfl,rfl⟩,trivial⟩ ?_
  rintro t r⟨ht,hr,hG⟩;have ue:r/18446744073709551616=0↔r<18446744073709551616:=by omega
  refine r0 rfl ?_;refine br rfl rfl rfl (fun hc=>?_) (fun hc=>?_)
  ·have hrW:r<18446744073709551616:=by omega
   have er:r%18446744073709551616=r:=by omega
   have ny:∀(h:t*v2<=r*18446744073709551616+u2),(t:Int)=G:=by
    intro h;rw[<-hG];exact(F9 (by omega) (by have:((t*v2:Nat):Int)<=((r*18446744073709551616+u2:Nat):Int):=by omega
                                             rw[Int.natCast_mul]at this;omega)).symm
   refine r1 rfl ?_ ?_
   ·simp only[ae,and_true,ZN]<;>omega
   refine Ej (us:=[.n .u64 t,.n .u64 v2]) rfl rfl trivial ⟨rfl,congrArg (SV.n .u64) (by rw[ZN,XB]),trivial⟩ (iO t v2 ht Vw) rfl ?_;refine r0 rfl ?_;have TU:=Nat.mod_add_div (t*v2) 18446744073709551616;have Ip:=Nat.mod_lt (t*v2) (show 0<18446744073709551616 by decide);obtain⟨hi,uf⟩:∃hi,hi=t*v2/18446744073709551616:=⟨_,rfl⟩;obtain⟨lo,kh⟩:∃lo,lo=t*v2%18446744073709551616:=⟨_,rfl⟩;rw[<-uf,<-kh];rw[<-uf,<-kh]at TU;rw[<-kh]at Ip;rw[er];refine aB 78 rfl (fun h=>?_) (fun h=>?_)
   ·refine r0 rfl ?_;exact meet t (ny (by omega)) ⟨⟨rfl,rfl,rfl⟩,⟨rfl,rfl⟩,⟨rfl,rfl⟩,⟨rfl,rfl⟩,⟨rfl,rfl⟩,trivial⟩
   refine r0 rfl ?_;have Hl:r*18446744073709551616+u2<t*v2->1<=t/\b7 ((t-1:Nat):Int).toNat ((t-1:Nat):Int) ((r+v1:Nat):Int) v1 v2 u2=G:=by
    intro h;have h1:1<=t:=by
     rcases Nat.eq_zero_or_pos t with e|e
     ·subst e;simp at h
     exact e
    have h2:(r:Int)*18446744073709551616+u2<(t:Int)*v2:=by
     have:((r*18446744073709551616+u2:Nat):Int)<((t*v2:Nat):Int):=by omega
     rw[Int.natCast_mul t]at this;omega
    refine⟨h1,?_⟩;have e1:((t-1:Nat):Int)=(t:Int)-1:=by omega
    have e2:((r+v1:Nat):Int)=(r:Int)+v1:=by omega
    rw[e1,e2,<-hG];rcases Int.lt_or_le ((r:Int)+v1) 18446744073709551616 with g|g
    ·exact(Ga (by omega) h2 g).symm
    rw[Gb (by omega) h2 g];exact wF ⟨by omega,by omega⟩ g ⟨by omega,by omega⟩ (by omega)
   refine aB 82 rfl (fun h2=>?_) (fun h2=>?_)
   ·refine r1 rfl ?_ ?_
    ·simp only[ae,and_true,ZN,FO]<;>omega
    refine br rfl rfl rfl (fun h3=>?_) (fun h3=>?_)
    ·rw[ZN,m2]at h3;refine r0 rfl ?_;exact meet t (ny (by omega)) ⟨⟨rfl,rfl,rfl⟩,⟨rfl,rfl⟩,⟨rfl,rfl⟩,⟨rfl,rfl⟩,⟨rfl,rfl⟩,trivial⟩
    rw[ZN,m2]at h3;obtain⟨g1,g2⟩:=Hl (by omega);refine r1 rfl ?_ ?_
    ·simp only[ae,and_true,Hn]<;>omega
    refine Ej (us:=[.n .u64 r,.n .u64 v1,.n .u64 ((0:Nat):Int)]) rfl rfl trivial ⟨rfl,congrArg (SV.n .u64) (by rw[Hn,Ug]),rfl,trivial⟩ (dJ r v1 0 (by decide)) rfl ?_;refine r0 rfl ?_;exact again (t-1,r+v1) (by dsimp only;omega) ⟨by dsimp only;omega,by dsimp only;omega,g2⟩ ⟨⟨rfl,rfl,rfl⟩,⟨rfl,rfl⟩,⟨rfl,rfl⟩,⟨rfl,congrArg (SV.n .u64) (KY (b:=1) g1 ht)⟩,⟨rfl,rfl⟩,⟨rfl,rfl⟩,⟨rfl,rfl⟩,trivial⟩
   obtain⟨g1,g2⟩:=Hl (by omega);refine r1 rfl ?_ ?_
   ·simp only[ae,and_true,Hn]<;>omega
   refine Ej (us:=[.n .u64 r,.n .u64 v1,.n .u64 ((0:Nat):Int)]) rfl rfl trivial ⟨rfl,congrArg (SV.n .u64) (by rw[Hn,Ug]),rfl,trivial⟩ (dJ r v1 0 (by decide)) rfl ?_;refine r0 rfl ?_;exact again (t-1,r+v1) (by dsimp only;omega) ⟨by dsimp only;omega,by dsimp only;omega,g2⟩ ⟨⟨rfl,rfl,rfl⟩,⟨rfl,rfl⟩,⟨rfl,rfl⟩,⟨rfl,congrArg (SV.n .u64) (KY (b:=1) g1 ht)⟩,⟨rfl,rfl⟩,⟨rfl,rfl⟩,⟨rfl,rfl⟩,trivial⟩
  have:(t:Int)=G:=by rw[<-hG];exact(wF ⟨by omega,by omega⟩ (by omega) ⟨by omega,by omega⟩ (by omega)).symm
  refine r0 rfl ?_;exact meet t this ⟨⟨rfl,rfl,rfl⟩,⟨rfl,rfl⟩,⟨rfl,rfl⟩,⟨rfl,rfl⟩,⟨rfl,rfl⟩,trivial⟩
 have hqW:q<18446744073709551616:=by omega
 rw[<-hq]at JU;refine r0 rfl ?_;refine Ya (fun(i:Nat)(u:List Int)(c b:Nat)=>[(0,.bg 1000000 0 0 [.jI 1 pre.length (v.length+1)]),(1,.ints .u64 false v),(5,.i v.length),(6,.n .u64 q),(11,.n .u64 b),(12,.n .u64 c),(104,.i v.length),(105,.i i),(1000000,.ints .u64 true (pre++u++post))])
  (fun i u c b=>i<=v.length/\MS w v v.length q i u c b) (fun i _ _ _=>v.length-i) 0 w 0 0 ⟨Nat.zero_le _,MS.start hw TM⟩
  ⟨⟨rfl,rfl,rfl⟩,⟨rfl,rfl⟩,⟨rfl,rfl⟩,⟨rfl,rfl⟩,⟨rfl,rfl⟩,⟨rfl,rfl⟩,⟨rfl,rfl⟩,⟨rfl,rfl⟩,⟨rfl,rfl⟩,trivial⟩ ?_
 rintro i u c b⟨hi,hM⟩;have ei:(i:Int).toNat=i:=by omega
 have RY:=Hk u hM.len;refine r0 rfl ?_;refine br rfl rfl rfl (fun cB=>?_) (fun QF=>?_)
 ·have cO:i<v.length:=by omega
  obtain⟨vi,ZH,MT⟩:=nat v Vv i;obtain⟨ui,ZI,hui⟩:=nat w TM i;have mi:(pre++u++post).getD (pre.length+i) 0=ui:=by rw[lW _ _ _ (by have:=hM.len;omega),hM.same i (Nat.le_refl _),ZI]
  have hc:=hM.c;have hb:=hM.b;refine r1 rfl ?_ ?_
  ·simp only[ae,and_true,ei]<;>omega
  refine Ej (us:=[.n .u64 q,.n .u64 vi]) rfl rfl trivial ⟨rfl,congrArg (SV.n .u64) (by rw[ei,ZH]),trivial⟩ (iO q vi hqW MT) rfl ?_;refine r0 rfl ?_;refine cl rfl rfl (dJ (q*vi%18446744073709551616) c 0 (by decide)) rfl ?_;refine r1 rfl ?_ ?_
  ·simp only[ae,and_true,ei,RY]<;>omega
  obtain⟨k1,k2⟩:=split_mul (p:=q*vi) (c:=c);have hmb:=BK hqW MT hc;refine Ej (us:=[.n .u64 ui,.n .u64 ((q*vi+c)%18446744073709551616:Nat),.n .u64 b]) rfl rfl trivial ⟨congrArg (SV.n .u64) (by rw[ei,mi]),congrArg (SV.n .u64) (by rw[Nat.add_zero,k1]),rfl,trivial⟩ (mY ui ((q*vi+c)%18446744073709551616) b hb) rfl ?_;refine r1 rfl ?_ ?_
  ·simp only[ae,and_true,ei,RY]<;>omega
  refine again (i+1,u.set i ((ui+18446744073709551616-(q*vi+c)%18446744073709551616-b)%18446744073709551616:Nat),(q*vi+c)/18446744073709551616,(if ui<(q*vi+c)%18446744073709551616+b then 1 else 0)) (by dsimp only;omega)
   ⟨by dsimp only;omega,hM.next cO hqW ZH ZI MT hui⟩
   ⟨⟨rfl,rfl,rfl⟩,⟨rfl,rfl⟩,⟨rfl,rfl⟩,⟨rfl,rfl⟩,⟨rfl,rfl⟩,⟨rfl,congrArg (SV.n .u64) (by rw[Nat.add_zero,Tg (by omega),k2])⟩,⟨rfl,rfl⟩,⟨rfl,rfl⟩,⟨rfl,congrArg (SV.ints .u64 true) (by rw[ei,xp _ _ _ _ (by have:=hM.len;omega)])⟩,trivial⟩
 have:i=v.length:=by omega
 subst this;have ml:(pre++u++post).getD (pre.length+v.length) 0=uL:=by rw[lW _ _ _ (by have:=hM.len;omega),hM.same _ (Nat.le_refl _),euL]
 have hc:=hM.c;have hb:=hM.b;obtain⟨l1,l2,l3⟩:=hM.last hw rfl euL huL;have hVW:(V:Int)<18446744073709551616^(v.length+1):=by have:=fI Vv;rw[Ym]at this;rw[Int.pow_succ];have:=bV v.length;generalize (18446744073709551616:Int)^v.length=Q at*;omega
 have hU0:=aT TM;have hUn:((val w).toNat:Int)=val w:=by omega
 refine r1 rfl ?_ ?_
 ·simp only[ae,and_true,ei,RY]<;>omega
 refine Ej (us:=[.n .u64 uL,.n .u64 c,.n .u64 b]) rfl rfl trivial ⟨congrArg (SV.n .u64) (by rw[ei,ml]),rfl,rfl,trivial⟩ (mY uL c b hb) rfl ?_;refine r1 rfl ?_ ?_
 ·simp only[ae,and_true,ei,RY]<;>omega
 rw[ei,xp _ _ _ _ (by have:=hM.len;omega)];obtain⟨XK,Yp⟩:∃z,z=u.set v.length ((uL+18446744073709551616-c-b)%18446744073709551616:Nat):=⟨_,rfl⟩;rw[<-Yp]at l1 l2 l3⊢;obtain⟨bb,Sh⟩:∃z:Nat,z=if uL<c+b then 1 else 0:=⟨_,rfl⟩;rw[<-Sh]at l3⊢;have agT:bb<=1:=by rw[Sh];split<;>omega
 refine br rfl rfl rfl (fun hz=>?_) (fun hz=>?_)
 ·have QA:bb=0:=by omega
  subst QA;have lV:=EB (U:=(val w).toNat) (V:=V) (q:=q) l1 l2 (by rw[<-Ym,l3,hUn];simp) (by rw[hUn];exact JU.1);refine r0 rfl ?_;refine Tr [(4,.n .u64 q),(1000000,.ints .u64 true (pre++XK++post))] ⟨⟨rfl,rfl,.le rfl⟩,⟨rfl,rfl,.le rfl⟩,trivial⟩ rfl ?_ ⟨⟨?_,rfl⟩,trivial⟩
  ·exact congrArg (SV.n .u64) (by rw[lV.2])
  exact congrArg (SV.ints .u64 true) (by rw[<-lV.1])
 have Vn:bb=1:=by omega
 subst Vn;refine r0 rfl ?_;refine mA (fun(i:Nat)(u:List Int)(c:Nat)=>[(0,.bg 1000000 0 0 [.jI 1 pre.length (v.length+1)]),(1,.ints .u64 false v),(5,.i v.length),(6,.n .u64 q),(17,.n .u64 c),(156,.i v.length),(157,.i i),(1000000,.ints .u64 true (pre++u++post))])
  (fun i u c=>i<=v.length/\AB XK v v.length i u c) (fun i _ _=>v.length-i) 0 XK 0 ⟨Nat.zero_le _,AB.start l1 l2⟩
  ⟨⟨rfl,rfl,rfl⟩,⟨rfl,rfl⟩,⟨rfl,rfl⟩,⟨rfl,rfl⟩,⟨rfl,rfl⟩,⟨rfl,rfl⟩,⟨rfl,rfl⟩,⟨rfl,rfl⟩,trivial⟩ ?_
 clear hM RY Yp ml;rintro i u c⟨hi,hM⟩;have ei:(i:Int).toNat=i:=by omega
 have RY:=Hk u hM.len;refine r0 rfl ?_;refine br rfl rfl rfl (fun cB=>?_) (fun QF=>?_)
 ·have cO:i<v.length:=by omega
  obtain⟨vi,ZH,MT⟩:=nat v Vv i;obtain⟨ui,ZI,hui⟩:=nat XK l2 i;have mi:(pre++u++post).getD (pre.length+i) 0=ui:=by rw[lW _ _ _ (by have:=hM.len;omega),hM.same i (Nat.le_refl _),ZI]
  have hc:=hM.hc;refine r1 rfl ?_ ?_
  ·simp only[ae,and_true,ei,RY]<;>omega
  refine WH (us:=[.n .u64 ui,.n .u64 vi,.n .u64 c]) rfl rfl trivial ⟨congrArg (SV.n .u64) (by rw[ei,mi]),congrArg (SV.n .u64) (by rw[ei,ZH]),rfl,trivial⟩ (dJ ui vi c hc) rfl ?_;refine k1 rfl (by kernel_rfl) ?_ ?_
  ·simp only[ae,and_true,ei,RY]<;>omega
  refine again (i+1,u.set i ((ui+vi+c)%18446744073709551616:Nat),(ui+vi+c)/18446744073709551616) (by dsimp only;omega)
   ⟨by dsimp only;omega,hM.next cO ZH ZI MT hui⟩
   ⟨⟨rfl,rfl,rfl⟩,⟨rfl,rfl⟩,⟨rfl,rfl⟩,⟨rfl,rfl⟩,⟨rfl,rfl⟩,⟨rfl,rfl⟩,⟨rfl,rfl⟩,⟨rfl,congrArg (SV.ints .u64 true) (by rw[ei,xp _ _ _ _ (by have:=hM.len;omega)])⟩,trivial⟩
 have:i=v.length:=by omega
 subst this;obtain⟨uu,euu,afR⟩:=nat XK l2 v.length;have ml:(pre++u++post).getD (pre.length+v.length) 0=uu:=by rw[lW _ _ _ (by have:=hM.len;omega),hM.same _ (Nat.le_refl _),euu]
 obtain⟨n1,n2,n3⟩:=hM.last l1 rfl euu;have hc:=hM.hc;have xC:=K1 (U:=(val w).toNat) (V:=V) (q:=q) (cy:=(uu+c)/18446744073709551616) n1 n2 l1 l2 (by rw[<-Ym,l3,hUn];simp) hVW (by rw[hUn];exact JU.2.1) (by rw[n3,Ym]) (by omega);refine r1 rfl ?_ ?_
 ·simp only[ae,and_true,ei,RY]<;>omega
 have es:(pre++u++post).set (pre.length+v.length) (IntKind.u64.wrap ((uu:Int)+(c:Int)))=pre++fx (v.length+1) ((val w).toNat%V)++post:=by rw[xp _ _ _ _ (by have:=hM.len;omega),<-Int.natCast_add,WZ,xC.1]
 rw[ei,ml,es];refine Tr [(4,.n .u64 (q-1:Nat)),(1000000,.ints .u64 true (pre++fx (v.length+1) ((val w).toNat%V)++post))] ⟨⟨rfl,rfl,.le ?_⟩,⟨rfl,rfl,.le rfl⟩,trivial⟩ rfl ?_ ⟨⟨rfl,rfl⟩,trivial⟩
 ·exact congrArg (SV.n .u64) (KY (b:=1) xC.2.2 hqW)
 exact congrArg (SV.n .u64) (by rw[xC.2.1])
theorem iQ:∀(a b v:Nat),fx (a+b) v=fx a v++fx b (v/18446744073709551616^a)
 |0,b,v=>by simp[fx]
 |a+1,b,v=>by rw[show a+1+b=(a+b)+1 by omega];simp only[fx,List.cons_append];rw[iQ a b,Nat.div_div_eq_div_mul,Nat.pow_succ,Nat.mul_comm 18446744073709551616]
theorem rU:∀(j v:Nat),fx j (v%18446744073709551616^j)=fx j v
 |0,v=>rfl
 |j+1,v=>by simp only[fx];rw[Nat.pow_succ,Nat.mul_comm,Nat.mod_mul_right_div_self,rU j,Nat.mod_mod_of_dvd _ (Nat.dvd_mul_right _ _)]
theorem Dw(j v x:Nat):fx j (v+18446744073709551616^j*x)=fx j v:=by rw[<-rU,Nat.add_mul_mod_self_left,rU]
theorem Dv:∀k:Nat,fx k 0=List.replicate k 0
 |0=>rfl
 |k+1=>by simp only[fx,Nat.zero_mod,Nat.zero_div,Dv k,List.replicate_succ];rfl
theorem tp:∀{m v j:Nat},j<m->(fx m v).getD j 0=((v/18446744073709551616^j%18446744073709551616:Nat):Int)
 |m+1,v,0,h=>by simp[fx]
 |m+1,v,j+1,h=>by simp only[fx,List.getD_cons_succ];rw[tp (by omega),Nat.div_div_eq_div_mul,Nat.pow_succ,Nat.mul_comm 18446744073709551616]
theorem Pn{m v j d:Nat}(h:j<m)(hd:d<18446744073709551616):(fx m v).set j d=fx m (v%18446744073709551616^j+18446744073709551616^j*(d+18446744073709551616*(v/18446744073709551616^(j+1)))):=by
 obtain⟨r,rfl⟩:∃r,m=j+(r+1):=⟨m-j-1,by omega⟩;have hp:0<18446744073709551616^j:=Nat.pow_pos (by decide);rw[iQ j (r+1),iQ j (r+1),Dw,rU,List.set_append_right _ _ (by rw[dR];omega),dR,Nat.sub_self]
 congr 1
 rw[Nat.add_mul_div_left _ _ hp,Nat.div_eq_of_lt (Nat.mod_lt _ hp),Nat.zero_add];simp only[fx,List.set_cons_zero];rw[Nat.div_div_eq_div_mul,<-Nat.pow_succ];generalize v/18446744073709551616^(j+1)=y
 congr 1
 ·omega
 congr 1;omega
theorem Sw{m n v:Nat}(h:n<=m):(fx m v).take n=fx n v:=by obtain⟨r,rfl⟩:∃r,m=n+r:=⟨m-n,by omega⟩;rw[iQ,List.take_append_of_le_length (by rw[dR];exact Nat.le_refl _),List.take_of_length_le (by rw[dR];exact Nat.le_refl _)]
theorem Km(v:Nat):aa v=fx (aa v).length v:=Ka (a8 v) (aX v)
theorem jO(n:Nat):n<18446744073709551616^(aa n).length:=by
 have h:=bq n;have e:((18446744073709551616^(aa n).length:Nat):Int)=18446744073709551616^(aa n).length:=by rw[Int.natCast_pow];rfl
 omega
theorem Kl{n:Nat}(hn:0<n):18446744073709551616^((aa n).length-1)<=n:=by
 rcases eM n with h|h
 ·have:=dm (n:=n) (by omega);rw[h]at this;simp at this
 have e:((18446744073709551616^((aa n).length-1):Nat):Int)=18446744073709551616^((aa n).length-1):=by rw[Int.natCast_pow];rfl
 omega
theorem GC{X L:Nat}(h1:18446744073709551616^L<=X)(h2:X<18446744073709551616^(L+1)):(aa X).length=L+1:=by
 have hX:0<X:=Nat.lt_of_lt_of_le (Nat.pow_pos (by decide)) h1;have a:=jO X;have b:=Kl hX;have c:=dm (n:=X) (by omega);rcases Nat.lt_trichotomy (aa X).length (L+1)with g|g|g
 ·have:=Nat.pow_le_pow_right (show 0<18446744073709551616 by decide) (show(aa X).length<=L by omega);omega
 ·exact g
 have:=Nat.pow_le_pow_right (show 0<18446744073709551616 by decide) (show L+1<=(aa X).length-1 by omega);omega
theorem tn{k v:Nat}(h:v<18446744073709551616^k):bY (fx k v)=aa v:=by
 apply Sv;have e:((18446744073709551616^k:Nat):Int)=18446744073709551616^k:=by rw[Int.natCast_pow];rfl
 omega
theorem QT{k v:Nat}(h:v<18446744073709551616^k):val (fx k v)=v:=by
 apply M9;have e:((18446744073709551616^k:Nat):Int)=18446744073709551616^k:=by rw[Int.natCast_pow];rfl
 omega
theorem Ng{B x s:Nat}(hB:0<B)(hx:(aa B).getD ((aa B).length-1) 0=x)(hs:s=64-bl x):
 s<64/\bl x<=64/\9223372036854775808*18446744073709551616^((aa B).length-1)<=B*2^s/\B*2^s<18446744073709551616^(aa B).length:=by
 obtain⟨t1,t2⟩:=Jp (A:=B) (by omega);rw[hx,Int.toNat_natCast]at t1;have hL:=dm (n:=B) (by omega);have cB:=jO B;obtain⟨Q,hQ⟩:∃Q,Q=18446744073709551616^((aa B).length-1):=⟨_,rfl⟩;have e1:2^(64*((aa B).length-1))=Q:=by rw[hQ,Nat.pow_mul]
 have e2:18446744073709551616^(aa B).length=18446744073709551616*Q:=by rw[hQ,Nat.mul_comm,<-Nat.pow_succ];congr 1;omega
 rw[e1]at t1 t2;rw[e2]at cB⊢;rw[<-hQ];have hQp:0<Q:=by rw[hQ];exact Nat.pow_pos (by decide)
 have B4:=Nat.mod_add_div B Q;have Ip:=Nat.mod_lt B hQp;rw[t1]at B4;have hx0:0<x:=by
  rcases Nat.eq_zero_or_pos x with g|g
  ·subst g;simp at B4;omega
  exact g
 have hxW:x<18446744073709551616:=by rw[<-t1,Nat.div_lt_iff_lt_mul hQp];exact cB
 have b1:=vG (x:=x) (by omega);have b2:=tW (x:=x) (by omega);have b3:=G7 x;have b4:=WN hxW;have p1:2^(bl x)*2^s=18446744073709551616:=by rw[<-Nat.pow_add];rw[show bl x+s=64 by omega]
 have p2:2^(bl x-1)*2^s=9223372036854775808:=by rw[<-Nat.pow_add];rw[show bl x-1+s=63 by omega]
 have hp:0<2^s:=Nat.pow_pos (by decide);refine⟨by omega,b4,?_,?_⟩
 ·have h1:9223372036854775808*Q<=x*2^s*Q:=Nat.mul_le_mul_right _ (by rw[<-p2];exact Nat.mul_le_mul_right _ b2);have h2:x*2^s*Q<=B*2^s:=by
   rw[Nat.mul_assoc,Nat.mul_comm (2^s),<-Nat.mul_assoc];exact Nat.mul_le_mul_right _ (by rw[Nat.mul_comm];omega)
  exact Nat.le_trans h1 h2
 have h1:B*2^s<(x+1)*Q*2^s:=Nat.mul_lt_mul_of_pos_right (by rw[Nat.add_mul,Nat.one_mul,Nat.mul_comm x];omega) hp;have h2:(x+1)*Q*2^s<=18446744073709551616*Q:=by rw[Nat.mul_assoc,Nat.mul_comm Q,<-Nat.mul_assoc];exact Nat.mul_le_mul_right _ (by rw[<-p1];exact Nat.mul_le_mul_right _ b3)
 omega
theorem wX(k:Nat):0<18446744073709551616^k:=Nat.pow_pos (by decide)
theorem zR(A k:Nat):A/18446744073709551616^k=A/18446744073709551616^(k+1)*18446744073709551616+A/18446744073709551616^k%18446744073709551616:=by rw[Nat.pow_succ,<-Nat.div_div_eq_div_mul];generalize A/18446744073709551616^k=x;omega
theorem uI(R x Y:Nat)(hY:0<Y):(R*18446744073709551616+x)/Y=R/Y*18446744073709551616+(R%Y*18446744073709551616+x)/Y/\(R*18446744073709551616+x)%Y=(R%Y*18446744073709551616+x)%Y:=by have:=xL 18446744073709551616 0 R x Y hY;simpa using this
theorem GG{r x Y:Nat}(h:r<Y)(hx:x<18446744073709551616):(r*18446744073709551616+x)/Y<18446744073709551616:=by rw[Nat.div_lt_iff_lt_mul (by omega),Nat.mul_comm 18446744073709551616];have:(r+1)*18446744073709551616<=Y*18446744073709551616:=Nat.mul_le_mul_right _ h;omega
theorem NS{A V m j d:Nat}(hV:0<V)(hj:j<m)(hd:d=(A/18446744073709551616^(j+1)%V*18446744073709551616+A/18446744073709551616^j%18446744073709551616)/V):
 (fx m (A/18446744073709551616^(j+1)/V*18446744073709551616^(j+1))).set j d=fx m (A/18446744073709551616^j/V*18446744073709551616^j):=by
 have hp:=wX j;have Se:d<18446744073709551616:=by rw[hd];exact GG (Nat.mod_lt _ hV) (Nat.mod_lt _ (by decide))
 rw[Pn hj Se,Nat.mul_div_cancel _ (wX (j+1)),Nat.pow_succ,<-Nat.mul_assoc];have e1:(A/(18446744073709551616^j*18446744073709551616)/V*18446744073709551616^j*18446744073709551616)%18446744073709551616^j=0:=by rw[Nat.mul_assoc,Nat.mul_comm (18446744073709551616^j),<-Nat.mul_assoc];exact Nat.mul_mod_left _ _
 rw[e1,Nat.zero_add];have e2:=(uI (A/18446744073709551616^(j+1)) (A/18446744073709551616^j%18446744073709551616) V hV).1;rw[<-zR,<-hd,Nat.pow_succ]at e2;rw[e2,Nat.mul_comm (18446744073709551616^j)]
 congr 2
 omega
def uk(A V k:Nat):Nat:=A%18446744073709551616^k+18446744073709551616^k*(A/18446744073709551616^k%V)
theorem QU(A V:Nat):uk A V 0=A%V:=by simp[uk,Nat.mod_one]
theorem UB{A V k:Nat}(h:A/18446744073709551616^k<V):uk A V k=A:=by unfold uk;rw[Nat.mod_eq_of_lt h];exact Nat.mod_add_div _ _
theorem Jo(A V k:Nat):uk A V (k+1)=A%18446744073709551616^k+18446744073709551616^k*(A/18446744073709551616^(k+1)%V*18446744073709551616+A/18446744073709551616^k%18446744073709551616):=by
 unfold uk;rw[Nat.mod_pow_succ,Nat.pow_succ,Nat.add_assoc,Nat.mul_assoc,<-Nat.mul_add]
 congr 2
 omega
theorem UC(A V k:Nat):uk A V (k+1)/18446744073709551616^k=A/18446744073709551616^(k+1)%V*18446744073709551616+A/18446744073709551616^k%18446744073709551616:=by rw[Jo,Nat.add_mul_div_left _ _ (wX k),Nat.div_eq_of_lt (Nat.mod_lt _ (wX k)),Nat.zero_add]
theorem QV(A V k:Nat):uk A V k/18446744073709551616^k=A/18446744073709551616^k%V:=by unfold uk;rw[Nat.add_mul_div_left _ _ (wX k),Nat.div_eq_of_lt (Nat.mod_lt _ (wX k)),Nat.zero_add]
theorem ZB(A V k:Nat):fx k (uk A V k)=fx k A:=by unfold uk;rw[Dw,rU]
theorem Wk(A V k:Nat):fx k (uk A V (k+1))=fx k A:=by rw[Jo,Dw,rU]
theorem zQ(A V m j:Nat)(hL:2<=(aa V).length)(OL:9223372036854775808<=(aa V).getD ((aa V).length-1) 0)(hm:m<2^48)(hj:j+(aa V).length+1<=m):
 jH Tryz.prog 245 [.ints .u64 true (fx m (uk A V (j+1)))] [.bg 1000000 0 0 [.jI 1 j ((aa V).length+1)],.ints .u64 false (aa V)]
  [.ints .u64 true (fx m (uk A V j))] (.n .u64 ((A/18446744073709551616^(j+1)%V*18446744073709551616+A/18446744073709551616^j%18446744073709551616)/V:Nat)):=by
 have Eh:0<V:=by
  rcases Nat.eq_zero_or_pos V with e|e
  ·subst e;rw[b9]at hL;simp at hL
  exact e
 obtain⟨n,hn⟩:∃n,n=(aa V).length:=⟨_,rfl⟩;have hVl:=jO V;rw[<-hn]at hVl;obtain⟨r,hr⟩:∃r,m=j+((n+1)+r):=⟨m-j-(n+1),by omega⟩;obtain⟨T,hT⟩:∃T,T=A/18446744073709551616^(j+1)%V*18446744073709551616+A/18446744073709551616^j%18446744073709551616:=⟨_,rfl⟩;have hRl:=Nat.mod_lt (A/18446744073709551616^(j+1)) Eh;have Yk:=Nat.mod_lt (A/18446744073709551616^j) (show 0<18446744073709551616 by decide);have hTV:T<V*18446744073709551616:=by have:(A/18446744073709551616^(j+1)%V+1)*18446744073709551616<=V*18446744073709551616:=Nat.mul_le_mul_right _ hRl;omega
 have hTW:T<18446744073709551616^(n+1):=by rw[Nat.pow_succ];exact Nat.lt_of_lt_of_le hTV (Nat.mul_le_mul_right _ (Nat.le_of_lt hVl))
 have eT:uk A V (j+1)/18446744073709551616^j=T:=by rw[UC,hT]
 have eT2:A/18446744073709551616^j%V=T%V:=by rw[hT,<-(uI _ _ V Eh).2,<-zR]
 have hTm:T%V<18446744073709551616^(n+1):=Nat.lt_of_le_of_lt (Nat.mod_le _ _) hTW;have e1:fx m (uk A V (j+1))=fx j A++fx (n+1) T++fx r 0:=by rw[hr,iQ,iQ,eT,Wk,Nat.div_eq_of_lt hTW,List.append_assoc]
 have e2:fx m (uk A V j)=fx j A++fx (n+1) (T%V)++fx r 0:=by rw[hr,iQ,iQ,QV,ZB,eT2,Nat.div_eq_of_lt hTm,List.append_assoc]
 have hv:val (fx (n+1) T)=T:=QT hTW;have:=nS (fx j A) (fx (n+1) T) (fx r 0) V (by rw[dR,hn]) (IQ _ _) hL OL (by rw[hv];have:((T:Nat):Int)<((V*18446744073709551616:Nat):Int):=by omega
                                                                                                                rw[Int.natCast_mul]at this;omega) (by rw[dR,dR,dR];omega)
 rw[hv,Int.toNat_natCast,dR,<-hn,<-e2,<-e1,hT]at this;rw[<-hn];exact this
def sk(R s k:Nat):Nat:=R%18446744073709551616^k+18446744073709551616^k*(R*2^s/18446744073709551616^k)
theorem Q6(R s:Nat):sk R s 0=R*2^s:=by simp[sk,Nat.mod_one]
theorem Ns(R s k:Nat):sk R s k/18446744073709551616^k=R*2^s/18446744073709551616^k:=by unfold sk;rw[Nat.add_mul_div_left _ _ (wX k),Nat.div_eq_of_lt (Nat.mod_lt _ (wX k)),Nat.zero_add]
theorem UL(R s k:Nat):sk R s k%18446744073709551616^k=R%18446744073709551616^k:=by unfold sk;rw[Nat.add_mul_mod_self_left,Nat.mod_mod]
theorem Jw(R s k:Nat):sk R s k/18446744073709551616^(k+1)=R*2^s/18446744073709551616^(k+1):=by rw[Nat.pow_succ,<-Nat.div_div_eq_div_mul,Ns,Nat.div_div_eq_div_mul]
theorem ZC(R s k:Nat):fx k (sk R s k)=fx k R:=by unfold sk;rw[Dw,rU]
theorem Jv{R s m k d:Nat}(hk:k<m)(hd:d=R/18446744073709551616^k%18446744073709551616):(fx m (sk R s k)).set k d=fx m (sk R s (k+1)):=by
 have Se:d<18446744073709551616:=by rw[hd];exact Nat.mod_lt _ (by decide)
 rw[Pn hk Se,UL,Jw]
 congr 1
 conv=>rhs;unfold sk
 rw[Nat.mod_pow_succ,<-hd,Nat.mul_add,Nat.add_assoc]
 congr 2
 rw[Nat.pow_succ,Nat.mul_assoc]
theorem EM{R s k x y:Nat}(hs:s<64)(hx:x=R*2^s/18446744073709551616^k%18446744073709551616)(hy:y=R*2^s/18446744073709551616^(k+1)%18446744073709551616):
 (y*2^(64-s)%18446744073709551616)+x/2^s=R/18446744073709551616^k%18446744073709551616/\x/2^s<2^(64-s)/\y*2^(64-s)%18446744073709551616=y%2^s*2^(64-s):=by
 have hp:0<2^s:=Nat.pow_pos (by decide);have hq:0<2^(64-s):=Nat.pow_pos (by decide);have e3:2^s*2^(64-s)=18446744073709551616:=by rw[<-Nat.pow_add];rw[show s+(64-s)=64 by omega]
 obtain⟨Z,hZ⟩:∃Z,Z=R*2^s/18446744073709551616^k:=⟨_,rfl⟩;have hR:R/18446744073709551616^k=Z/2^s:=by rw[hZ,Nat.div_div_eq_div_mul,Nat.mul_comm (18446744073709551616^k),<-Nat.div_div_eq_div_mul,Nat.mul_div_cancel _ hp]
 rw[Nat.pow_succ,<-Nat.div_div_eq_div_mul,<-hZ]at hy;rw[<-hZ]at hx;rw[hR];obtain⟨y',AF⟩:∃y',y'=Z/18446744073709551616:=⟨_,rfl⟩;rw[<-AF]at hy;have eZ:Z=x+18446744073709551616*y':=by omega
 have e4:Z/2^s=x/2^s+2^(64-s)*y':=by rw[eZ,<-e3,Nat.mul_assoc,Nat.add_mul_div_left _ _ hp]
 have Yk:x/2^s<2^(64-s):=by rw[Nat.div_lt_iff_lt_mul hp,Nat.mul_comm,e3];omega
 have e5:y*2^(64-s)%18446744073709551616=y%2^s*2^(64-s):=by rw[<-e3,Nat.mul_mod_mul_right]
 have e6:y%2^s=y'%2^s:=by rw[hy,<-e3,Nat.mod_mul_right_mod]
 refine⟨?_,Yk,e5⟩;rw[e5,e6,e4];have e7:=Nat.mod_add_div y' (2^s);have h8:=Nat.mod_lt y' hp;have e9:x/2^s+2^(64-s)*y'=(y'%2^s*2^(64-s)+x/2^s)+18446744073709551616*(y'/2^s):=by
  conv=>lhs;rw[<-e7]
  rw[Nat.mul_add,<-Nat.mul_assoc,Nat.mul_comm (2^(64-s)) (2^s),e3,Nat.mul_comm (2^(64-s))];omega
 have Sp:(y'%2^s+1)*2^(64-s)<=2^s*2^(64-s):=Nat.mul_le_mul_right _ h8;rw[e3,Nat.add_mul,Nat.one_mul]at Sp;have ZA:y'%2^s*2^(64-s)+x/2^s<18446744073709551616:=by omega
 rw[e9,Nat.add_mul_mod_self_left,Nat.mod_eq_of_lt ZA]
set_option maxHeartbeats 2000000 in
theorem tC(A B:Nat)(hB:0<B)(hA:(aa A).length<2^40)(hBl:(aa B).length<2^40):
 aO Tryz.prog 202 [.ints .u64 false (aa A),.ints .u64 false (aa B)] (.bC [.ints .u64 false (aa (A/B)),.ints .u64 false (aa (A%B))]):=by
 have cU:=dm (n:=B) (by omega);refine enter (fn:=Tryz.f202) Tryz.func202 rfl rfl rfl rfl ?_;refine r0 rfl ?_;refine cl rfl rfl (l8 A B (by omega) (by omega)) rfl ?_;refine r0 rfl ?_;refine br rfl rfl rfl (fun h=>?_) (fun h=>?_)
 ·have cB:A<B:=by unfold l9 at h;split at h<;>omega
  refine r0 rfl ?_;refine aF rfl ⟨?_,au.of_eq (congrArg (SV.ints .u64 false) ?_),trivial⟩
  ·rw[Nat.div_eq_of_lt cB,b9];exact(rfl:([]:List Int)=[])
  rw[Nat.mod_eq_of_lt cB]
 have QF:B<=A:=by unfold l9 at h;split at h<;>omega
 have hlen:=length_le QF;refine r0 rfl ?_;refine br rfl rfl rfl (fun h1=>?_) (fun h1=>?_)
 ·have YS:(aa B).length=1:=by omega
  have hA0:0<(aa A).length:=dm (by omega);have hBW:B<18446744073709551616:=by have:=jO B;rw[YS]at this;simpa using this
  have eA:(((aa A).length:Nat):Int).toNat=(aa A).length:=by omega
  have hbd:(aa B).getD 0 0=B:=by rw[jC hB hBW];rfl
  refine r1 rfl (by simp only[ae,and_true]<;>omega) ?_;refine loop (fun k:Nat=>[(0,.ints .u64 false (aa A)),(1,.ints .u64 false (aa B)),(6,.ints .u64 true (fx (aa A).length (A/18446744073709551616^k/B*18446744073709551616^k))),(7,.n .u64 (A/18446744073709551616^k%B:Nat)),(8,.i ((k:Int)-1))])
   (fun k=>k<=(aa A).length) (fun k=>k) (aa A).length (Nat.le_refl _) ⟨⟨rfl,rfl⟩,⟨rfl,rfl⟩,⟨rfl,au.of_eq (congrArg (SV.ints .u64 true) ?_)⟩,⟨rfl,au.of_eq (congrArg (SV.n .u64) ?_)⟩,⟨rfl,rfl⟩,trivial⟩ ?_
  ·rw[eA,Nat.div_eq_of_lt (jO A),Nat.zero_div,Nat.zero_mul,Dv]
  ·rw[Nat.div_eq_of_lt (jO A),Nat.zero_mod];rfl
  intro k hk;refine r0 rfl ?_;refine br rfl rfl rfl (fun h=>?_) (fun h=>?_)
  ·obtain⟨j,rfl⟩:∃j,k=j+1:=⟨k-1,by omega⟩;have ej:(((j+1:Nat):Int)-1).toNat=j:=by omega
   have hx:(aa A).getD j 0=((A/18446744073709551616^j%18446744073709551616:Nat):Int):=by rw[Km A];exact tp (by omega)
   have hr:=Nat.mod_lt (A/18446744073709551616^(j+1)) hB;refine k1 rfl (by kernel_rfl) ?_ ?_
   ·simp only[ae,and_true,ej]<;>omega
   have hd:=GG hr (Nat.mod_lt (A/18446744073709551616^j) (show 0<18446744073709551616 by decide));refine WH (us:=[.n .u64 (A/18446744073709551616^(j+1)%B:Nat),.n .u64 (A/18446744073709551616^j%18446744073709551616:Nat),.n .u64 B]) rfl rfl trivial ⟨rfl,congrArg (SV.n .u64) (by rw[ej,hx]),congrArg (SV.n .u64) hbd,trivial⟩
    (wM _ _ B hr hBW (Nat.mod_lt _ (by decide))) rfl ?_
   refine k1 rfl (by kernel_rfl) ?_ ?_
   ·simp only[ae,and_true,ej,dR]<;>omega
   refine again j (by omega) (by omega) ⟨⟨rfl,rfl⟩,⟨rfl,rfl⟩,⟨rfl,au.of_eq (congrArg (SV.ints .u64 true) ?_)⟩,⟨rfl,au.of_eq (congrArg (SV.n .u64) ?_)⟩,⟨rfl,au.of_eq (congrArg (SV.n .i64) ?_)⟩,trivial⟩
   ·rw[ej];exact NS hB (by omega) rfl
   ·rw[<-(uI _ _ B hB).2,<-zR]
   omega
  have hk0:k=0:=by omega
  subst hk0;rw[Nat.pow_zero,Nat.div_one,Nat.mul_one];have hm:=Nat.mod_lt A hB;refine r0 rfl ?_;refine cl rfl rfl (cC (fx (aa A).length (A/B)) (by rw[dR];omega)) rfl ?_;refine r0 rfl ?_;refine Ej (us:=[.ints .u64 false [((A%B:Nat):Int)]]) rfl rfl trivial ⟨au.of_eq rfl,trivial⟩ (cC [((A%B:Nat):Int)] (by simp)) rfl ?_;refine r0 rfl ?_;refine aF rfl ⟨au.of_eq (congrArg (SV.ints .u64 false) ?_),au.of_eq (congrArg (SV.ints .u64 false) ?_),trivial⟩
  ·exact tn (Nat.lt_of_le_of_lt (Nat.div_le_self _ _) (jO A))
  rw[c7 (fun d hd=>by simp at hd;omega)];generalize A%B=r;simp[val]
 obtain⟨x,hx,hxW⟩:=j8 B ((aa B).length-1);obtain⟨s,hs⟩:∃s,s=64-bl x:=⟨_,rfl⟩;obtain⟨n1,n2,n3,n4⟩:=Ng hB hx hs;have es:(64:Int)-(bl x:Int)=(s:Int):=by omega
 have Hn:(((aa B).length:Int)-1).toNat=(aa B).length-1:=by omega
 have Ir:(aa B).length=(aa B).length-2+2:=by omega
 obtain⟨V,hV⟩:∃V,V=B*2^s:=⟨_,rfl⟩;obtain⟨X,hX⟩:∃X,X=A*2^s:=⟨_,rfl⟩;have JW:0<2^s:=Nat.pow_pos (by decide);have QI:X/V=A/B/\X%V=A%B*2^s:=by rw[hX,hV];exact⟨Nat.mul_div_mul_right _ _ JW,Nat.mul_mod_mul_right _ _ _⟩
 rw[<-hV]at n3 n4;have J5:(aa V).length=(aa B).length:=by
  have:=GC (X:=V) (L:=(aa B).length-1) (by have:=wX ((aa B).length-1);generalize 18446744073709551616^((aa B).length-1)=Q at*;omega) (by rw[show(aa B).length-1+1=(aa B).length by omega];exact n4)
  omega
 have Zm:9223372036854775808<=(aa V).getD ((aa V).length-1) 0:=by
  rw[J5];have e:=tp (m:=(aa B).length) (v:=V) (j:=(aa B).length-1) (by omega);rw[<-J5,<-Km,J5]at e;rw[e];have hq:=wX ((aa B).length-1);have h1:9223372036854775808<=V/18446744073709551616^((aa B).length-1):=by rw[Nat.le_div_iff_mul_le hq];exact n3
  have h2:V/18446744073709551616^((aa B).length-1)<18446744073709551616:=by rw[Nat.div_lt_iff_lt_mul hq,Nat.mul_comm,<-Nat.pow_succ];rw[Nat.succ_eq_add_one,show(aa B).length-1+1=(aa B).length by omega];exact n4
  generalize V/18446744073709551616^((aa B).length-1)=t at*;omega
 have Eh:0<V:=by rw[hV];exact Nat.mul_pos hB JW
 have Xc:X/18446744073709551616^((aa A).length-(aa B).length+1)<V:=by
  rw[Nat.div_lt_iff_lt_mul (wX _)];have h1:X<18446744073709551616^(aa A).length*2^s:=by rw[hX];exact Nat.mul_lt_mul_of_pos_right (jO A) JW
  have h2:18446744073709551616^(aa A).length=18446744073709551616^((aa B).length-1)*18446744073709551616^((aa A).length-(aa B).length+1):=by rw[<-Nat.pow_add];congr 1;omega
  have h3:2^s<=9223372036854775808:=by have:=Nat.pow_le_pow_right (show 0<2 by decide) (show s<=63 by omega);exact this
  have h4:2^s*18446744073709551616^((aa B).length-1)<=V:=Nat.le_trans (Nat.mul_le_mul_right _ h3) n3;have h5:=Nat.mul_le_mul_right (18446744073709551616^((aa A).length-(aa B).length+1)) h4;have h6:18446744073709551616^(aa A).length*2^s=2^s*18446744073709551616^((aa B).length-1)*18446744073709551616^((aa A).length-(aa B).length+1):=by rw[h2,Nat.mul_comm,<-Nat.mul_assoc]
  rw[h6]at h1;exact Nat.lt_of_lt_of_le h1 h5
 refine r1 rfl (by simp only[ae,and_true,Hn]<;>omega) ?_;refine Ej (us:=[.n .u64 x]) rfl rfl trivial ⟨congrArg (SV.n .u64) (by rw[Hn,hx]),trivial⟩ (yN x hxW) rfl ?_;rw[es];refine r0 rfl ?_;refine cl rfl rfl (qW B s n1 hBl) rfl ?_;refine r0 rfl ?_;refine cl rfl rfl (cC (fx ((aa B).length+1) (B*2^s)) (by rw[dR];omega)) rfl ?_;rw[<-hV,tn (show V<18446744073709551616^((aa B).length+1) by rw[Nat.pow_succ];generalize 18446744073709551616^(aa B).length=Q at*;omega)]
 refine r0 rfl ?_;refine cl rfl rfl (qW A s n1 hA) rfl ?_;rw[<-hX];refine r1 rfl (by simp only[ae,and_true]<;>omega) ?_;rw[J5];have c1:(((aa A).length:Int)-((aa B).length:Int)+1).toNat=(aa A).length-(aa B).length+1:=by omega
 refine loop (fun k:Nat=>[(9,.i s),(10,.ints .u64 false (aa V)),(11,.ints .u64 true (fx ((aa A).length+1) (uk X V k))),(12,.i (aa B).length),(13,.ints .u64 true (fx ((aa A).length-(aa B).length+1) (X/18446744073709551616^k/V*18446744073709551616^k))),(14,.i ((k:Int)-1))])
  (fun k=>k<=(aa A).length-(aa B).length+1) (fun k=>k) ((aa A).length-(aa B).length+1) (Nat.le_refl _) ⟨⟨rfl,rfl⟩,⟨rfl,rfl⟩,⟨rfl,au.of_eq (congrArg (SV.ints .u64 true) ?_)⟩,⟨rfl,rfl⟩,⟨rfl,au.of_eq (congrArg (SV.ints .u64 true) ?_)⟩,⟨rfl,au.of_eq (congrArg (SV.n .i64) ?_)⟩,trivial⟩ ?_
 ·rw[UB Xc]
 ·rw[c1,Nat.div_eq_of_lt Xc,Nat.zero_mul,Dv]
 ·omega
 intro k hk;refine r0 rfl ?_;refine br rfl rfl rfl (fun h=>?_) (fun h=>?_)
 ·obtain⟨j,rfl⟩:∃j,k=j+1:=⟨k-1,by omega⟩;have ej:(((j+1:Nat):Int)-1)=(j:Int):=by omega
  rw[ej];refine W5 12 rfl (by simp only[ae,and_true]<;>omega) ?_;refine wn rfl rfl ?_ ?_
  ·simp only[ae,app,and_true,dR]<;>omega
  refine r0 rfl ?_;refine cr rfl rfl (jH.same (zQ X V ((aa A).length+1) j (by omega) Zm (by omega) (by omega)) rfl ?_ rfl rfl) rfl ?_
  ·show an [_,_]=an [SV.bg 1000000 0 0 [Step.jI 1 (j:Int).toNat (((j:Int)+((aa B).length:Int)+1).toNat-(j:Int).toNat)],SV.ints IntKind.u64 false (aa V)];rw[show(((j:Int)+((aa B).length:Int)+1).toNat-(j:Int).toNat)=(aa V).length+1 by omega,Int.toNat_natCast]
  refine r1 rfl (by simp only[ae,and_true,dR]<;>omega) ?_;refine again j (by omega) (by omega) ⟨⟨rfl,rfl⟩,⟨rfl,rfl⟩,⟨rfl,rfl⟩,⟨rfl,rfl⟩,⟨rfl,au.of_eq (congrArg (SV.ints .u64 true) ?_)⟩,⟨rfl,rfl⟩,trivial⟩;rw[Int.toNat_natCast];exact NS Eh (by omega) rfl
 have hk0:k=0:=by omega
 subst hk0;rw[Nat.pow_zero,Nat.div_one,Nat.mul_one,QU,QI.1,QI.2];have hRB:=Nat.mod_lt A hB;refine r0 rfl ?_;refine loop (fun k:Nat=>[(9,.i s),(11,.ints .u64 true (fx ((aa A).length+1) (sk (A%B) s k))),(12,.i (aa B).length),(13,.ints .u64 true (fx ((aa A).length-(aa B).length+1) (A/B))),(96,.i (aa B).length),(97,.i k)])
  (fun k=>k<=(aa B).length) (fun k=>(aa B).length-k) 0 (Nat.zero_le _) ⟨⟨rfl,rfl⟩,⟨rfl,au.of_eq (congrArg (SV.ints .u64 true) (by rw[Q6]))⟩,⟨rfl,rfl⟩,⟨rfl,rfl⟩,⟨rfl,rfl⟩,⟨rfl,rfl⟩,trivial⟩ ?_
 intro k hk;have ek:(k:Int).toNat=k:=by omega
 refine r0 rfl ?_;refine br rfl rfl rfl (fun h=>?_) (fun h=>?_)
 ·obtain⟨x,hx⟩:∃x,x=A%B*2^s/18446744073709551616^k%18446744073709551616:=⟨_,rfl⟩;obtain⟨y,hy⟩:∃y,y=A%B*2^s/18446744073709551616^(k+1)%18446744073709551616:=⟨_,rfl⟩;obtain⟨d1,d2,d3⟩:=EM n1 hx hy;have gx:(fx ((aa A).length+1) (sk (A%B) s k)).getD k 0=x:=by rw[tp (by omega),Ns,<-hx]
  have gy:(fx ((aa A).length+1) (sk (A%B) s k)).getD (k+1) 0=y:=by rw[tp (by omega),Jw,<-hy]
  refine r1 rfl (by simp only[ae,app,and_true,dR]<;>omega) ?_;have R3:((x:Nat):Int).fdiv (2^min ((s:Nat):Int).toNat IntKind.u64.bits)=((x/2^s:Nat):Int):=Q8 x s (by omega);refine aB 109 rfl (fun h=>?_) (fun h=>?_)
  ·refine r1 rfl (by simp only[ae,app,and_true]<;>omega) ?_;refine br rfl rfl rfl (fun h2=>?_) (fun h2=>?_)
   ·have AS:((64:Int)-(s:Int))=((64-s:Nat):Int):=by omega
    refine k1 rfl (by kernel_rfl) (by simp only[ae,app,and_true,List.length_set,dR]<;>omega) ?_;refine again (k+1) (by omega) (by omega) ⟨⟨rfl,rfl⟩,⟨rfl,au.of_eq (congrArg (SV.ints .u64 true) ?_)⟩,⟨rfl,rfl⟩,⟨rfl,rfl⟩,⟨rfl,rfl⟩,⟨rfl,rfl⟩,trivial⟩;have g2:((fx ((aa A).length+1) (sk (A%B) s k)).set k ((x/2^s:Nat):Int)).getD (k+1) 0=y:=by rw[getD_set_ne (by omega),gy]
    rw[ek,gx,R3,AX (by rw[dR];omega),show((k:Int)+1).toNat=k+1 by omega,g2,AS,Nu y (64-s) (by omega),d3,X1 (y%2^s) (x/2^s) (64-s) (by rw[<-d3,d1];exact Nat.mod_lt _ (by decide)) d2,List.set_set];exact Jv (by omega) (by rw[<-d3,d1])
   rw[List.length_set,dR]at h2;exact absurd (by omega) h2
  have VE:s=0:=by omega
  refine r1 rfl (by simp only[ae,app,and_true]<;>omega) ?_;refine again (k+1) (by omega) (by omega) ⟨⟨rfl,rfl⟩,⟨rfl,au.of_eq (congrArg (SV.ints .u64 true) ?_)⟩,⟨rfl,rfl⟩,⟨rfl,rfl⟩,⟨rfl,rfl⟩,⟨rfl,rfl⟩,trivial⟩;rw[ek,gx,R3];refine Jv (by omega) ?_;rw[hx,VE];simp
 have hk:k=(aa B).length:=by omega
 subst hk;refine k1 rfl (by kernel_rfl) (by simp only[ae,app,and_true,dR]<;>omega) ?_;have t1:bY (fx ((aa A).length-(aa B).length+1) (A/B))=aa (A/B):=by apply tn;rw[<-QI.1,Nat.div_lt_iff_lt_mul Eh,Nat.mul_comm];rw[Nat.div_lt_iff_lt_mul (wX _)]at Xc;exact Xc
 have t2:bY ((fx ((aa A).length+1) (sk (A%B) s (aa B).length)).take (aa B).length)=aa (A%B):=by rw[Sw (by omega),ZC];exact tn (Nat.lt_trans hRB (jO B))
 refine cd rfl rfl (cC _ (by rw[dR];omega)) rfl ?_;rw[t1];refine k1 rfl (by kernel_rfl) (by simp only[ae,app,and_true,dR]<;>omega) ?_;refine WH (us:=[.ints .u64 false ((fx ((aa A).length+1) (sk (A%B) s (aa B).length)).take (aa B).length)]) rfl rfl trivial ⟨au.of_eq (congrArg (SV.ints .u64 false) ?_),trivial⟩ (cC _ (by rw[List.length_take,dR];omega)) rfl ?_
 ·simp
 rw[t2];refine k0 rfl (by kernel_rfl) ?_;exact aF rfl ⟨au.of_eq rfl,au.of_eq rfl,trivial⟩
def i1:Nm:=⟨1,none⟩
def IN(a b:Nm):Nm×Nm:=
 if a.w=none/\b.w=none/\a.s≠ -9223372036854775808 then(⟨a.s/b.s,none⟩,⟨a.s%b.s,none⟩)
 else if a.s<0/\(nv a).natAbs%(nv b).natAbs≠0 then(Ez (o9 (decide (a.s<0)) ((nv a).natAbs/(nv b).natAbs)) i1,tY (o9 (decide (a.s<0)) ((nv a).natAbs%(nv b).natAbs)) b)
 else(o9 (decide (a.s<0)) ((nv a).natAbs/(nv b).natAbs),o9 (decide (a.s<0)) ((nv a).natAbs%(nv b).natAbs))
theorem TJ:aV i1:=⟨by decide,by decide⟩
theorem Yi:nv i1=1:=rfl
theorem TH{K:Nat}(h:1<=K):dL i1 K:=Nat.le_trans (fj (by decide)) h
theorem nE{a b q r:Int}(hb:0<b)(h:q*b+r=a)(h0:0<=r)(h1:r<b):a/b=q/\a%b=r:=by
 have e:a=r+b*q:=by rw[Int.mul_comm];omega
 subst e;rw[Int.add_mul_ediv_left _ _ (by omega),Int.add_mul_emod_self_left,Int.ediv_eq_zero_of_lt h0 h1,Int.emod_eq_of_lt h0 h1];exact⟨by omega,rfl⟩
theorem tB(a b:Nm)(ha:aV a)(hb:aV b)(h0:0<nv b):(nv (IN a b).1=nv a/nv b/\aV (IN a b).1)/\(nv (IN a b).2=nv a%nv b/\aV (IN a b).2):=by
 have va:=gq a ha;have vb:=gq b hb;have hN:0<(nv b).natAbs:=by omega
 have B4:=Nat.mod_add_div (nv a).natAbs (nv b).natAbs;have Ip:=Nat.mod_lt (nv a).natAbs hN;have hc:((nv b).natAbs:Int)=nv b:=by omega
 have agG:(((nv a).natAbs%(nv b).natAbs:Nat):Int)+nv b*(((nv a).natAbs/(nv b).natAbs:Nat):Int)=((nv a).natAbs:Int):=by have:=congrArg (Nat.cast:Nat->Int) B4;rw[Int.natCast_add,Int.natCast_mul,hc]at this;exact this
 unfold IN;split
 ·rename_i g;obtain⟨s,w⟩:=a;obtain⟨t,v⟩:=b;obtain⟨rfl,rfl,g3⟩:w=none/\v=none/\s≠_:=g;have hs: -9223372036854775808<=s/\s<=9223372036854775807:=ha;have ht: -9223372036854775808<=t/\t<=9223372036854775807:=hb;have h0:0<t:=h0;have h1:=Int.emod_nonneg s (show t≠0 by omega);have h2:=Int.emod_lt_of_pos s h0;refine⟨⟨rfl,?_⟩,⟨rfl,?_⟩⟩
  ·show -9223372036854775808<=s/t/\s/t<=9223372036854775807;constructor
   ·have:s<=s/t\/0<=s/t:=by
     rcases Int.lt_or_le s 0 with g|g
     ·left;have:=Int.mul_ediv_add_emod s t;have h4:s/t<0:=Int.ediv_neg_of_neg_of_pos g h0;have h5:t*(s/t)<=1*(s/t):=Int.mul_le_mul_of_nonpos_right (by omega) (by omega);have h6:=Int.le_ediv_of_mul_le h0 (show s*t<=s by
       have h7: -s*1<= -s*t:=Int.mul_le_mul_of_nonneg_left (show 1<=t by omega) (show 0<= -s by omega);rw[Int.neg_mul s t]at h7;omega)
      exact h6
     right;exact Int.ediv_nonneg g (by omega)
    omega
   have:s/t<=s\/s/t<=0:=by
    rcases Int.lt_or_le s 0 with g|g
    ·right;have:=Int.ediv_neg_of_neg_of_pos g h0;omega
    left;exact Int.ediv_le_self _ g
   omega
  show -9223372036854775808<=s%t/\s%t<=9223372036854775807;omega
 have qv:=kE (decide (a.s<0)) ((nv a).natAbs/(nv b).natAbs);have qo:=mK (decide (a.s<0)) ((nv a).natAbs/(nv b).natAbs);have rv:=kE (decide (a.s<0)) ((nv a).natAbs%(nv b).natAbs);have ro:=mK (decide (a.s<0)) ((nv a).natAbs%(nv b).natAbs);generalize o9 (decide (a.s<0)) ((nv a).natAbs/(nv b).natAbs)=Q at*;generalize o9 (decide (a.s<0)) ((nv a).natAbs%(nv b).natAbs)=R at*;generalize (nv a).natAbs/(nv b).natAbs=q at*;generalize (nv a).natAbs%(nv b).natAbs=r at*;split
 ·rename_i g;obtain⟨g1,g2⟩:=g;obtain⟨e1,e2⟩:=uv Q i1 qo TJ;obtain⟨e3,e4⟩:=iU R b ro hb;rw[if_pos (by simpa using g1)]at qv rv;have oX:nv a<0:=va.1.1 g1;have:=nE (a:=nv a) (b:=nv b) (q:= -(q:Int)-1) (r:= -(r:Int)+nv b) h0 (by rw[Int.sub_mul,Int.neg_mul,Int.one_mul,Int.mul_comm];omega) (by omega) (by omega);rw[Yi]at e1;exact⟨⟨by dsimp only;rw[this.1];omega,e2⟩,⟨by dsimp only;rw[this.2];omega,e4⟩⟩
 rename_i g;by_cases g1:a.s<0
 ·have g2:r=0:=by
   rcases Nat.eq_zero_or_pos r with e|e
   ·exact e
   exact absurd ⟨g1,by omega⟩ g
  rw[if_pos (by simpa using g1)]at qv rv;have oX:nv a<0:=va.1.1 g1;subst g2;have:=nE (a:=nv a) (b:=nv b) (q:= -(q:Int)) (r:=0) h0 (by rw[Int.neg_mul,Int.mul_comm];omega) (by omega) (by omega);exact⟨⟨by dsimp only;rw[this.1];omega,qo⟩,⟨by dsimp only;rw[this.2];omega,ro⟩⟩
 rw[if_neg (by simpa using g1)]at qv rv;have Im:0<=nv a:=by
  rcases Int.lt_or_le (nv a) 0 with e|e
  ·exact absurd (va.1.2 e) g1
  exact e
 have:=nE (a:=nv a) (b:=nv b) (q:=(q:Int)) (r:=r) h0 (by rw[Int.mul_comm];omega) (by omega) (by omega);exact⟨⟨by dsimp only;rw[this.1];omega,qo⟩,⟨by dsimp only;rw[this.2];omega,ro⟩⟩
theorem Hy{a b:Int}(hb:0<b):(a.tmod b<0->a/b=a.tdiv b-1/\a%b=a.tmod b+b)/\(0<=a.tmod b->a/b=a.tdiv b/\a%b=a.tmod b)/\ -b<a.tmod b/\a.tmod b<b/\a.natAbs/b.natAbs=(a.tdiv b).natAbs:=by
 have key:a.tdiv b*b+a.tmod b=a/\ -b<a.tmod b/\a.tmod b<b/\a.natAbs/b.natAbs=(a.tdiv b).natAbs:=by
  rcases Int.lt_or_le a 0 with g|g
  ·obtain⟨n,rfl⟩:∃n:Nat,a= -(n:Int):=⟨a.natAbs,by omega⟩;obtain⟨m,rfl⟩:∃m:Nat,b=(m:Int):=⟨b.natAbs,by omega⟩;rw[Int.neg_tdiv,Int.neg_tmod,Int.tdiv_eq_ediv_of_nonneg (by omega),Int.tmod_eq_emod_of_nonneg (by omega),<-Int.natCast_ediv,<-Int.natCast_emod,Int.neg_mul,<-Int.natCast_mul];have h1:=Nat.div_add_mod n m;have h2:=Nat.mod_lt n (show 0<m by omega);rw[Nat.mul_comm]at h1;refine⟨by omega,by omega,by omega,?_⟩;rw[Int.natAbs_neg,Int.natAbs_neg];rfl
  obtain⟨n,rfl⟩:∃n:Nat,a=(n:Int):=⟨a.natAbs,by omega⟩;obtain⟨m,rfl⟩:∃m:Nat,b=(m:Int):=⟨b.natAbs,by omega⟩;rw[Int.tdiv_eq_ediv_of_nonneg (by omega),Int.tmod_eq_emod_of_nonneg (by omega),<-Int.natCast_ediv,<-Int.natCast_emod,<-Int.natCast_mul];have h1:=Nat.div_add_mod n m;have h2:=Nat.mod_lt n (show 0<m by omega);rw[Nat.mul_comm]at h1;exact⟨by omega,by omega,by omega,rfl⟩
 obtain⟨k1,k2,k3,k4⟩:=key;refine⟨fun h=>?_,fun h=>?_,k2,k3,k4⟩
 ·exact nE hb (by rw[Int.sub_mul,Int.one_mul];omega) (by omega) (by omega)
 exact nE hb k1 h k3
theorem zP(a b:Nm)(ha:aV a)(hb:aV b)(h0:0<nv b){K:Nat}(la:dL a K)(lb:dL b K)(hK:K<2^38):
 aO Tryz.prog 190 [eN a,eN b] (.bC [eN (IN a b).1,eN (IN a b).2]):=by
 have na:=rB ha;have nb:=rB hb;have va:=gq a ha;have vb:=gq b hb;have hN:0<(nv b).natAbs:=by omega
 have pa:=CZ a ha;have pb:=CZ b hb;have hd:=tC (nv a).natAbs (nv b).natAbs hN (by have:(aa (nv a).natAbs).length<=K:=la;omega) (by have:(aa (nv b).natAbs).length<=K:=lb;omega);have lq:(aa ((nv a).natAbs/(nv b).natAbs)).length<=K:=Nat.le_trans (jz _ _) la;have lr:(aa ((nv a).natAbs%(nv b).natAbs)).length<=K:=Nat.le_trans (length_le (Nat.mod_le _ _)) la;refine enter (fn:=Tryz.f190) Tryz.func190 rfl rfl rfl rfl ?_;refine cg 2 [(2,.box true (eN a)),(3,.box true (eN b)),(4,.box true (.agg [.i 0,.nil])),(5,.box true (.agg [.i 0,.nil]))] (¬(a.w=none/\b.w=none/\a.s≠ -9223372036854775808)) ?_ fun hg=>?_
 ·refine r0 rfl ?_;refine aB 19 rfl (fun g1=>?_) (fun g1=>?_)
  ·refine r0 rfl ?_;refine aB 24 rfl (fun g2=>?_) (fun g2=>?_)
   ·have ea:=na.1 g1;have eb:=nb.1 g2;refine r0 rfl ?_;refine br rfl rfl rfl (fun g3=>?_) (fun g3=>?_)
    ·have g3:a.s≠ -9223372036854775808:=g3;have B4:IN a b=(⟨a.s/b.s,none⟩,⟨a.s%b.s,none⟩):=by unfold IN;rw[if_pos ⟨ea,eb,g3⟩]
     rw[B4];have hs: -9223372036854775808<=a.s/\a.s<=9223372036854775807:=by unfold aV at ha;rw[ea]at ha;exact ha
     have ht: -9223372036854775808<=b.s/\b.s<=9223372036854775807:=by unfold aV at hb;rw[eb]at hb;exact hb
     have hbs:0<b.s:=by rw[<-vb.2 eb];exact h0
     refine kw [33,38] rfl (by kernel_rfl) ?_ ?_
     ·simp only[ae,and_true];omega
     obtain⟨f1,f2,f3,f4,f5⟩:=Hy (a:=a.s) hbs;have hql:(a.s.tdiv b.s).natAbs<=a.s.natAbs:=by rw[<-f5];exact Nat.div_le_self _ _
     have hqb: -9223372036854775808<a.s.tdiv b.s/\a.s.tdiv b.s<=9223372036854775807:=by omega
     have hw:IntKind.i64.wrap (a.s.tdiv b.s)=a.s.tdiv b.s:=by rw[Uw];omega
     rw[hw];refine br rfl rfl rfl (fun h=>?_) (fun h=>?_)
     ·obtain⟨e1,e2⟩:=f1 h;refine k1 rfl (by kernel_rfl) (by simp only[ae,and_true]<;>omega) ?_;refine aF rfl ⟨⟨au.of_eq (congrArg SV.i e1.symm),rfl,trivial⟩,⟨au.of_eq (congrArg SV.i e2.symm),rfl,trivial⟩,trivial⟩
     obtain⟨e1,e2⟩:=f2 (by omega);refine k1 rfl (by kernel_rfl) (by simp only[ae,and_true]<;>omega) ?_;refine aF rfl ⟨⟨au.of_eq (congrArg SV.i e1.symm),rfl,trivial⟩,⟨au.of_eq (congrArg SV.i e2.symm),rfl,trivial⟩,trivial⟩
    have g3:¬a.s≠ -9223372036854775808:=g3;refine r0 rfl ?_;exact aQ (fun g=>g3 g.2.2) ⟨⟨rfl,rfl⟩,⟨rfl,rfl⟩,⟨rfl,rfl⟩,⟨rfl,rfl⟩,trivial⟩
   refine r0 rfl ?_;exact aQ (fun g=>g2 (nb.2 g.2.1)) ⟨⟨rfl,rfl⟩,⟨rfl,rfl⟩,⟨rfl,rfl⟩,⟨rfl,rfl⟩,trivial⟩
  refine r0 rfl ?_;exact aQ (fun g=>g1 (na.2 g.1)) ⟨⟨rfl,rfl⟩,⟨rfl,rfl⟩,⟨rfl,rfl⟩,⟨rfl,rfl⟩,trivial⟩
 unfold IN;rw[if_neg hg];have agL:decide (a.s<0)=decide (nv a<0):=by rw[decide_eq_decide];exact va.1
 have qv:=kE (decide (a.s<0)) ((nv a).natAbs/(nv b).natAbs);have qo:=mK (decide (a.s<0)) ((nv a).natAbs/(nv b).natAbs);have rv:=kE (decide (a.s<0)) ((nv a).natAbs%(nv b).natAbs);have ro:=mK (decide (a.s<0)) ((nv a).natAbs%(nv b).natAbs);have m1:=Oi (decide (a.s<0)) ((nv a).natAbs/(nv b).natAbs) (by omega);have m2:=Oi (decide (a.s<0)) ((nv a).natAbs%(nv b).natAbs) (by omega);have Ik:nv (o9 (decide (a.s<0)) ((nv a).natAbs%(nv b).natAbs))<0↔(a.s<0/\(nv a).natAbs%(nv b).natAbs≠0):=by
  rw[rv];by_cases g:a.s<0
  ·rw[if_pos (by simpa using g)];constructor
   ·intro h;exact⟨g,by omega⟩
   rintro⟨-,h⟩;omega
  rw[if_neg (by simpa using g)];constructor
  ·intro h;omega
  rintro⟨h,-⟩;exact absurd h g
 have sq:dL (o9 (decide (a.s<0)) ((nv a).natAbs/(nv b).natAbs)) (K+1):=by
  unfold dL;rw[qv];have e:(if decide (a.s<0)=true then -(((nv a).natAbs/(nv b).natAbs:Nat):Int)else(((nv a).natAbs/(nv b).natAbs:Nat):Int)).natAbs=(nv a).natAbs/(nv b).natAbs:=by generalize (nv a).natAbs/(nv b).natAbs=z;split<;>omega
  rw[e];omega
 have sr:dL (o9 (decide (a.s<0)) ((nv a).natAbs%(nv b).natAbs)) (K+1):=by
  unfold dL;rw[rv];have e:(if decide (a.s<0)=true then -(((nv a).natAbs%(nv b).natAbs:Nat):Int)else(((nv a).natAbs%(nv b).natAbs:Nat):Int)).natAbs=(nv a).natAbs%(nv b).natAbs:=by generalize (nv a).natAbs%(nv b).natAbs=z;split<;>omega
  rw[e];omega
 refine r0 rfl ?_;refine cl rfl rfl pa rfl ?_;refine r0 rfl ?_;refine cl rfl rfl pb rfl ?_;refine r0 rfl ?_;refine cl rfl rfl hd rfl ?_;refine r0 rfl ?_;refine cl rfl rfl m1 rfl ?_;refine r0 rfl ?_;refine cl rfl rfl m2 rfl ?_;refine r0 rfl ?_;have Yv:=uy _ ro;have AS:=Tn _ i1 qo TJ sq (TH (by omega)) (by omega);have We:=KJ _ b ro hb sr (Nat.le_trans lb (Nat.le_succ _)) (by omega);generalize o9 (decide (a.s<0)) ((nv a).natAbs/(nv b).natAbs)=Q at*;generalize o9 (decide (a.s<0)) ((nv a).natAbs%(nv b).natAbs)=R at*;refine cl rfl rfl Yv rfl ?_;refine r0 rfl ?_;refine br rfl rfl rfl (fun h=>?_) (fun h=>?_)
 ·have h:(nv R).sign<0:=h;rw[if_pos (Ik.1 (Int.sign_neg_iff.1 h))];refine r0 rfl ?_;refine cd rfl rfl (Fg 1) rfl ?_;refine r0 rfl ?_;refine cd rfl rfl AS rfl ?_;refine r0 rfl ?_;refine cd rfl rfl We rfl ?_;refine k0 rfl (by kernel_rfl) ?_;exact aF rfl (au.refl _)
 have h:¬(nv R).sign<0:=h;rw[if_neg (fun g=>h (Int.sign_neg_iff.2 (Ik.2 g)))];refine k0 rfl (by kernel_rfl) ?_;exact aF rfl (au.refl _)
theorem cM{a:Nm}{K L:Nat}(h:dL a K)(hl:K<=L):dL a L:=Nat.le_trans h hl
theorem uN{a b:Nm}{K:Nat}(h:(nv b).natAbs<=(nv a).natAbs)(ha:dL a K):dL b K:=Nat.le_trans (length_le h) ha
def AL(a b:Nm):Nm:=if nv b<0 then(IN (gE a) (gE b)).1 else(IN a b).1
theorem uD(a b:Nm)(ha:aV a)(hb:aV b)(h0:nv b≠0)(hd:nv b∣nv a):nv (AL a b)=nv a/nv b/\aV (AL a b):=by
 unfold AL;split
 ·rename_i g;obtain⟨e1,e2⟩:=cX a ha;obtain⟨e3,e4⟩:=cX b hb;obtain⟨⟨f1,f2⟩,-⟩:=tB (gE a) (gE b) e2 e4 (by omega);refine⟨?_,f2⟩;rw[f1,e1,e3];obtain⟨c,hc⟩:=hd;rw[hc,<-Int.neg_mul,Int.mul_ediv_cancel_left _ (by omega),Int.mul_ediv_cancel_left _ h0]
 exact(tB a b ha hb (by omega)).1
theorem Tw(a b:Nm)(ha:aV a)(hb:aV b)(h0:nv b≠0){K:Nat}(la:dL a K)(lb:dL b K)(hK:K<2^38):aO Tryz.prog 225 [eN a,eN b] (eN (AL a b)):=by
 have hs:=uy b hb;have hna:=BI a ha la (by omega);have Io:=BI b hb lb (by omega);obtain⟨e1,e2⟩:=cX a ha;obtain⟨e3,e4⟩:=cX b hb;unfold AL;refine enter (fn:=Tryz.f225) Tryz.func225 rfl rfl rfl rfl ?_;refine r0 rfl ?_;refine cl rfl rfl hs rfl ?_;refine r0 rfl ?_;refine br rfl rfl rfl (fun h=>?_) (fun h=>?_)
 ·have h:(nv b).sign<0:=h;have h:=Int.sign_neg_iff.1 h;have B4:=zP (gE a) (gE b) e2 e4 (by omega) (my ha la) (my hb lb) hK;rw[if_pos h];refine r0 rfl ?_;refine cd rfl rfl hna rfl ?_;refine r0 rfl ?_;refine cd rfl rfl Io rfl ?_;refine k0 rfl (by kernel_rfl) ?_;refine cl rfl rfl B4 rfl ?_;refine r0 rfl ?_;exact aF rfl (au.refl _)
 have h:¬(nv b).sign<0:=h;have h:¬nv b<0:=fun g=>h (Int.sign_neg_iff.2 g);have B4:=zP a b ha hb (by omega) la lb hK;rw[if_neg h];refine r0 rfl ?_;refine cl rfl rfl B4 rfl ?_;refine r0 rfl ?_;exact aF rfl (au.refl _)
def rj:Nat->Nm->Nm->Nm
 |0,a,_=>a
 |k+1,a,b=>if nv b=0 then a else rj k b (IN a b).2
theorem IA(k:Nat)(a b:Nm)(h:nv b=0):rj k a b=a:=by
 cases k with
 |zero=>rfl
 |succ k=>unfold rj;rw[if_pos h]
theorem ze:∀(k:Nat)(a b:Nm){K:Nat},aV a->aV b->0<=nv a->0<=nv b->(nv b).natAbs<=k->dL a K->dL b K->nv (rj k a b)=(Int.gcd (nv a) (nv b):Nat)/\aV (rj k a b)/\dL (rj k a b) K
 |0,a,b,K,ha,hb,na,nb,hk,la,lb=>by
  have:nv b=0:=by omega
  refine⟨?_,ha,la⟩;show nv a=_;rw[this,Int.gcd_zero_right];omega
 |k+1,a,b,K,ha,hb,na,nb,hk,la,lb=>by
  unfold rj;split
  ·rename_i h;refine⟨?_,ha,la⟩;rw[h,Int.gcd_zero_right];omega
  rename_i h;obtain⟨-,e1,e2⟩:=tB a b ha hb (by omega);have h1:=Int.emod_nonneg (nv a) h;have h2:=Int.emod_lt_of_pos (nv a) (show 0<nv b by omega);obtain⟨f1,f2,f3⟩:=ze k b (IN a b).2 hb e2 nb (by omega) (by omega) lb (uN (a:=b) (by omega) lb);refine⟨?_,f2,f3⟩;rw[f1,e1]
  congr 1
  rw[Int.gcd_comm (nv a),Int.gcd_eq_natAbs_gcd_natAbs,Int.gcd_eq_natAbs_gcd_natAbs];obtain⟨x,hx⟩:∃x:Nat,nv a=x:=⟨(nv a).toNat,by omega⟩;obtain⟨y,hy⟩:∃y:Nat,nv b=y:=⟨(nv b).toNat,by omega⟩;rw[hx,hy,<-Int.natCast_emod,Int.natAbs_natCast,Int.natAbs_natCast,Int.natAbs_natCast];rw[Nat.gcd_comm y (x%y),<-Nat.gcd_rec]
def mf(a b:Nm):Nm:=rj (nv b).natAbs (vL a) (vL b)
theorem xG{a:Nm}(h:aV a){K:Nat}(l:dL a K):dL (vL a) K:=by unfold dL at *;rw[(lh a h).1];exact l
theorem u4(a b:Nm)(ha:aV a)(hb:aV b){K:Nat}(la:dL a K)(lb:dL b K):nv (mf a b)=(Int.gcd (nv a) (nv b):Nat)/\aV (mf a b)/\dL (mf a b) K:=by obtain⟨e1,e2⟩:=lh a ha;obtain⟨e3,e4⟩:=lh b hb;have:=ze (nv b).natAbs (vL a) (vL b) e2 e4 (by omega) (by omega) (by omega) (xG ha la) (xG hb lb);refine⟨?_,this.2⟩;rw[mf,this.1,e1,e3];rw[Int.gcd_eq_natAbs_gcd_natAbs,Int.gcd_eq_natAbs_gcd_natAbs,Int.natAbs_natCast,Int.natAbs_natCast]
theorem Ub(a b:Nm)(ha:aV a)(hb:aV b){K:Nat}(la:dL a K)(lb:dL b K)(hK:K<2^38):aO Tryz.prog 108 [eN a,eN b] (eN (mf a b)):=by
 have hA:=Uo a ha la (by omega);have hB:=Uo b hb lb (by omega);obtain⟨e1,e2⟩:=lh a ha;obtain⟨e3,e4⟩:=lh b hb;refine enter (fn:=Tryz.f108) Tryz.func108 rfl rfl rfl rfl ?_;refine r0 rfl ?_;refine cd rfl rfl hA rfl ?_;refine r0 rfl ?_;refine cd rfl rfl hB rfl ?_;refine k0 rfl (by kernel_rfl) ?_;refine mA (fun(k:Nat)(x y:Nm)=>[(2,.box true (eN x)),(3,.box true (eN y)),(4,.box true (.agg [.i 0,.nil]))])
  (fun k x y=>aV x/\aV y/\0<=nv x/\0<=nv y/\dL x K/\dL y K/\(nv y).natAbs<=k/\rj k x y=mf a b) (fun k _ _=>k) (nv b).natAbs (vL a) (vL b)
  ⟨e2,e4,by omega,by omega,xG ha la,xG hb lb,by omega,rfl⟩ ⟨⟨rfl,rfl⟩,⟨rfl,rfl⟩,⟨rfl,rfl⟩,trivial⟩ ?_
 rintro k x y⟨hx,hy,x0,y0,lx,ly,hk,hG⟩;have hs:=uy y hy;refine r0 rfl ?_;refine cl rfl rfl hs rfl ?_;refine r0 rfl ?_;refine br rfl rfl rfl (fun h=>?_) (fun h=>?_)
 ·have h:(nv y).sign≠0:=h;have BZ:nv y≠0:=fun g=>h (by rw[g];rfl);obtain⟨k',rfl⟩:∃k',k=k'+1:=⟨k-1,by omega⟩;obtain⟨-,f1,f2⟩:=tB x y hx hy (by omega);have h1:=Int.emod_nonneg (nv x) BZ;have h2:=Int.emod_lt_of_pos (nv x) (show 0<nv y by omega);have B4:=zP x y hx hy (by omega) lx ly hK;unfold rj at hG;rw[if_neg BZ]at hG;refine r0 rfl ?_;refine cl rfl rfl B4 rfl ?_;refine k0 rfl (by kernel_rfl) ?_;exact again (k',y,(IN x y).2) (by dsimp only;omega) ⟨hy,f2,y0,by dsimp only;omega,ly,uN (a:=y) (by dsimp only;omega) ly,by dsimp only;omega,hG⟩ ⟨⟨rfl,rfl⟩,⟨rfl,rfl⟩,⟨rfl,rfl⟩,trivial⟩
 have h:¬(nv y).sign≠0:=h;have BZ:nv y=0:=Int.sign_eq_zero_iff_zero.1 (by omega);rw[IA _ _ _ BZ]at hG;rw[<-hG];refine r0 rfl ?_;exact aF rfl (au.refl _)
theorem Jz{a b:Nm}(ha:aV a)(hb:aV b)(h0:nv b≠0)(hd:nv b∣nv a){K:Nat}(la:dL a K):dL (AL a b) K:=by refine uN ?_ la;rw[(uD a b ha hb h0 hd).1];exact Int.natAbs_ediv_le_natAbs _ _
def TB(n d:Nm):Fr:=if d.w=none/\d.s=1 then⟨n,d⟩else⟨AL n (mf n d),AL d (mf n d)⟩
def Qv(n d:Nm):Fr:=if nv d<0 then TB (gE n) (gE d)else TB n d
def oH(f:Fr)(K:Nat):Prop:=dL f.n K/\dL f.d K
theorem Gi{f:Fr}{K L:Nat}(h:oH f K)(hl:K<=L):oH f L:=⟨cM h.1 hl,cM h.2 hl⟩
theorem Fp(n d:Nm)(hn:aV n)(hd:aV d)(h0:0<nv d){K:Nat}(ln:dL n K)(ld:dL d K):ff (TB n d) (Rat.divInt (nv n) (nv d))/\oH (TB n d) K:=by
 have uW:=Rat.num_divInt (nv n) (nv d);have xc:=Rat.den_divInt (nv n) (nv d);rw[Int.sign_eq_one_of_pos h0,Int.one_mul]at uW;rw[if_neg (by omega)]at xc;unfold TB;split
 ·rename_i g;have hv:=(gq d hd).2 g.1;rw[g.2]at hv;refine⟨⟨hn,hd,?_,?_⟩,ln,ld⟩
  ·rw[uW,hv];simp
  rw[xc,hv];simp
 obtain⟨g1,g2,g3⟩:=u4 n d hn hd ln ld;have O3:nv (mf n d)≠0:=by rw[g1];have:=Int.gcd_pos_of_ne_zero_right (nv n) (show nv d≠0 by omega);omega
 have Y8:nv (mf n d)∣nv n:=by rw[g1];exact Int.gcd_dvd_left ..
 have hdd:nv (mf n d)∣nv d:=by rw[g1];exact Int.gcd_dvd_right ..
 obtain⟨q1,q2⟩:=uD n (mf n d) hn g2 O3 Y8;obtain⟨q3,q4⟩:=uD d (mf n d) hd g2 O3 hdd;refine⟨⟨q2,q4,?_,?_⟩,Jz hn g2 O3 Y8 ln,Jz hd g2 O3 hdd ld⟩
 ·show nv (AL n (mf n d))=_;rw[q1,g1,uW,Int.gcd_comm]
 show nv (AL d (mf n d))=_;rw[q3,g1,xc,Int.gcd_comm,Int.natCast_ediv]
 congr 1;omega
theorem yu(n d:Nm)(hn:aV n)(hd:aV d)(h0:nv d≠0){K:Nat}(ln:dL n K)(ld:dL d K):ff (Qv n d) (Rat.divInt (nv n) (nv d))/\oH (Qv n d) K:=by
 unfold Qv;split
 ·rename_i g;obtain⟨e1,e2⟩:=cX n hn;obtain⟨e3,e4⟩:=cX d hd;have:=Fp (gE n) (gE d) e2 e4 (by omega) (my hn ln) (my hd ld);rw[e1,e3,Rat.neg_divInt_neg]at this;exact this
 exact Fp n d hn hd (by omega) ln ld
theorem H3(n d:Nm)(hn:aV n)(hd:aV d)(h0:nv d≠0){K:Nat}(ln:dL n K)(ld:dL d K)(hK:K<2^38):aO Tryz.prog 153 [eN n,eN d] (eF (Qv n d)):=by
 have hs:=uy d hd;have Im:=BI n hn ln (by omega);have AG:=BI d hd ld (by omega);obtain⟨e1,e2⟩:=cX n hn;obtain⟨e3,e4⟩:=cX d hd;refine enter (fn:=Tryz.f153) Tryz.func153 rfl rfl rfl rfl ?_;refine wO 2 (fun(x y:Nm)=>[(2,.box true (eN x)),(3,.box true (eN y)),(4,.box true (.agg [.i 0,.nil,.i 0,.nil]))]) (fun x y=>aV x/\aV y/\0<nv y/\dL x K/\dL y K/\TB x y=Qv n d) ?_ ?_
 ·refine r0 rfl ?_;refine cl rfl rfl hs rfl ?_;refine r0 rfl ?_;refine br rfl rfl rfl (fun h=>?_) (fun h=>?_)
  ·have h:(nv d).sign<0:=h;have h:=Int.sign_neg_iff.1 h;refine r0 rfl ?_;refine cd rfl rfl Im rfl ?_;refine r0 rfl ?_;refine cd rfl rfl AG rfl ?_;refine k0 rfl (by kernel_rfl) ?_;exact meet (gE n,gE d) ⟨e2,e4,by dsimp only;omega,my hn ln,my hd ld,by unfold Qv;rw[if_pos h]⟩ ⟨⟨rfl,rfl⟩,⟨rfl,rfl⟩,⟨rfl,rfl⟩,trivial⟩
  have h:¬(nv d).sign<0:=h;have h:¬nv d<0:=fun g=>h (Int.sign_neg_iff.2 g);refine r0 rfl ?_;exact meet (n,d) ⟨hn,hd,by dsimp only;omega,ln,ld,by unfold Qv;rw[if_neg h]⟩ ⟨⟨rfl,rfl⟩,⟨rfl,rfl⟩,⟨rfl,rfl⟩,trivial⟩
 rintro x y⟨hx,hy,y0,lx,ly,hG⟩;rw[<-hG];have wy:=rB hy;have hg:=Ub x y hx hy lx ly hK;obtain⟨g1,g2,g3⟩:=u4 x y hx hy lx ly;have O3:nv (mf x y)≠0:=by rw[g1];have:=Int.gcd_pos_of_ne_zero_right (nv x) (show nv y≠0 by omega);omega
 have q1:=Tw x (mf x y) hx g2 O3 lx g3 hK;have q2:=Tw y (mf x y) hy g2 O3 ly g3 hK;refine cg 1 [(2,.box true (eN x)),(3,.box true (eN y)),(4,.box true (.agg [.i 0,.nil,.i 0,.nil]))] (¬(y.w=none/\y.s=1)) ?_ fun hc=>?_
 ·refine r0 rfl ?_;refine aB 16 rfl (fun g=>?_) (fun g=>?_)
  ·refine r0 rfl ?_;refine br rfl rfl rfl (fun h=>?_) (fun h=>?_)
   ·have h:y.s=1:=h;unfold TB;rw[if_pos ⟨wy.1 g,h⟩];refine r0 rfl ?_;exact aF rfl (au.refl _)
   have h:¬y.s=1:=h;refine r0 rfl ?_;exact aQ (fun q=>h q.2) ⟨⟨rfl,rfl⟩,⟨rfl,rfl⟩,⟨rfl,rfl⟩,trivial⟩
  refine r0 rfl ?_;exact aQ (fun q=>g (wy.2 q.1)) ⟨⟨rfl,rfl⟩,⟨rfl,rfl⟩,⟨rfl,rfl⟩,trivial⟩
 unfold TB;rw[if_neg hc];refine r0 rfl ?_;refine cl rfl rfl hg rfl ?_;refine r0 rfl ?_;refine cd rfl rfl q1 rfl ?_;refine r0 rfl ?_;refine cd rfl rfl q2 rfl ?_;refine k0 rfl (by kernel_rfl) ?_;exact aF rfl (au.refl _)
theorem Gn{f:Fr}{q:Rat}(h:ff f q):0<nv f.d:=by rw[h.vd];have:=q.den_pos;omega
theorem uR(f:Fr){q:Rat}(h:ff f q):aO Tryz.prog 122 [eF f] (.u (decide (f.d.w=none/\f.d.s=1))):=by
 have wd:=rB h.d;refine enter (fn:=Tryz.f122) Tryz.func122 rfl rfl rfl rfl ?_;refine r0 rfl ?_;refine aB 7 rfl (fun g=>?_) (fun g=>?_)
 ·refine r0 rfl ?_;refine aF rfl (au.of_eq (congrArg SV.u ?_));rw[decide_eq_decide];exact⟨fun h=>⟨wd.1 g,h⟩,fun h=>h.2⟩
 refine r0 rfl ?_;refine aF rfl ?_;exact(decide_eq_false (fun h=>g (wd.2 h.1))).symm
theorem ID(f g:Fr){p q:Rat}(hf:ff f p)(hg:ff g q){K L:Nat}(lf:oH f K)(lg:oH g L)(hK:K+L<2^38):aO Tryz.prog 121 [eF f,eF g] (.i (p.num*q.den-q.num*p.den).sign):=by have m1:=oK f.n g.d hf.n hg.d lf.1 lg.2 (by omega);have m2:=oK g.n f.d hg.n hf.d lg.1 lf.2 (by omega);obtain⟨e1,e2⟩:=bP f.n g.d hf.n hg.d;obtain⟨e3,e4⟩:=bP g.n f.d hg.n hf.d;have hc:=PU _ _ e2 e4 (eD hf.n hg.d lf.1 lg.2) (cM (eD hg.n hf.d lg.1 lf.2) (by omega)) (show K+L<2^39 by omega);rw[e1,e3,hf.vn,hf.vd,hg.vn,hg.vd]at hc;refine enter (fn:=Tryz.f121) Tryz.func121 rfl rfl rfl rfl ?_;refine r0 rfl ?_;refine cd rfl rfl m1 rfl ?_;refine r0 rfl ?_;refine cd rfl rfl m2 rfl ?_;refine r0 rfl ?_;refine cd rfl rfl hc rfl ?_;refine k0 rfl (by kernel_rfl) ?_;exact aF rfl (au.refl _)
theorem Ew(p q:Rat):(p.num*q.den-q.num*p.den).sign=if p<q then -1 else if q<p then 1 else 0:=by
 have h1:p<q↔p.num*q.den<q.num*p.den:=Rat.lt_iff p q;have h2:q<p↔q.num*p.den<p.num*q.den:=Rat.lt_iff q p;split
 ·rename_i h;exact Int.sign_eq_neg_one_of_neg (by have:=h1.1 h;omega)
 split
 ·rename_i h;exact Int.sign_eq_one_of_pos (by have:=h2.1 h;omega)
 rename_i g h;have:p.num*q.den-q.num*p.den=0:=by have a:¬(p.num*q.den<q.num*p.den):=fun x=>g (h1.2 x);have b:¬(q.num*p.den<p.num*q.den):=fun x=>h (h2.2 x);omega
 rw[this];rfl
theorem Sx(f g:Fr){p q:Rat}(hf:ff f p)(hg:ff g q){K L:Nat}(lf:oH f K)(lg:oH g L)(hK:K+L<2^38):aO Tryz.prog 165 [eF f,eF g] (.u (decide (p=q))):=by
 have hc:=ID f g hf hg lf lg hK;have e:=Ew p q;refine enter (fn:=Tryz.f165) Tryz.func165 rfl rfl rfl rfl ?_;refine r0 rfl ?_;refine cl rfl rfl hc rfl ?_;refine r0 rfl ?_;refine aF rfl (au.of_eq (congrArg SV.u ?_));rw[decide_eq_decide,e];constructor
 ·intro h;split at h
  ·omega
  split at h
  ·omega
  rename_i a b;exact Rat.le_antisymm (Rat.not_lt.1 b) (Rat.not_lt.1 a)
 rintro rfl;rw[if_neg (Rat.lt_irrefl),if_neg (Rat.lt_irrefl)]
def N9(f g:Fr):Fr:=Qv (gV f.n g.n) (gV f.d g.d)
theorem qx(f g:Fr){p q:Rat}(hf:ff f p)(hg:ff g q){K L:Nat}(lf:oH f K)(lg:oH g L):ff (N9 f g) (p*q)/\oH (N9 f g) (K+L):=by obtain⟨e1,e2⟩:=bP f.n g.n hf.n hg.n;obtain⟨e3,e4⟩:=bP f.d g.d hf.d hg.d;have h0:=Int.mul_pos (Gn hf) (Gn hg);have:=yu (gV f.n g.n) (gV f.d g.d) e2 e4 (by omega) (eD hf.n hg.n lf.1 lg.1) (eD hf.d hg.d lf.2 lg.2);rw[e1,e3,hf.vn,hf.vd,hg.vn,hg.vd,n9]at this;exact this
theorem zk(f g:Fr){p q:Rat}(hf:ff f p)(hg:ff g q){K L:Nat}(lf:oH f K)(lg:oH g L)(hK:K+L<2^38):aO Tryz.prog 88 [eF f,eF g] (eF (N9 f g)):=by have m1:=oK f.n g.n hf.n hg.n lf.1 lg.1 (by omega);have m2:=oK f.d g.d hf.d hg.d lf.2 lg.2 (by omega);obtain⟨e1,e2⟩:=bP f.n g.n hf.n hg.n;obtain⟨e3,e4⟩:=bP f.d g.d hf.d hg.d;have h0:=Int.mul_pos (Gn hf) (Gn hg);have hm:=H3 _ _ e2 e4 (by omega) (eD hf.n hg.n lf.1 lg.1) (eD hf.d hg.d lf.2 lg.2) (by omega);refine enter (fn:=Tryz.f88) Tryz.func88 rfl rfl rfl rfl ?_;refine r0 rfl ?_;refine cd rfl rfl m1 rfl ?_;refine r0 rfl ?_;refine cd rfl rfl m2 rfl ?_;refine r0 rfl ?_;refine cd rfl rfl hm rfl ?_;refine k0 rfl (by kernel_rfl) ?_;exact aF rfl (au.refl _)
def Vh(f:Fr):Fr:=Qv f.d f.n
theorem LU(f:Fr){p:Rat}(hf:ff f p)(h0:p≠0){K:Nat}(lf:oH f K):ff (Vh f) p⁻¹ /\oH (Vh f) K:=by
 have hn:nv f.n≠0:=by rw[hf.vn];exact fun h=>h0 (Rat.num_eq_zero.1 h)
 have:=yu f.d f.n hf.d hf.n hn lf.2 lf.1;rw[hf.vn,hf.vd,<-Rat.inv_def]at this;exact this
theorem Wq(f:Fr){p:Rat}(hf:ff f p)(h0:p≠0){K:Nat}(lf:oH f K)(hK:K<2^38):aO Tryz.prog 154 [eF f] (eF (Vh f)):=by
 have hn:nv f.n≠0:=by rw[hf.vn];exact fun h=>h0 (Rat.num_eq_zero.1 h)
 have hm:=H3 f.d f.n hf.d hf.n hn lf.2 lf.1 hK;refine enter (fn:=Tryz.f154) Tryz.func154 rfl rfl rfl rfl ?_;refine r0 rfl ?_;refine cl rfl rfl hm rfl ?_;refine r0 rfl ?_;exact aF rfl (au.refl _)
def RR(f:Fr):Prop:=f.d.w=none/\f.d.s=1
instance(f:Fr):Decidable (RR f):=by unfold RR;infer_instance
theorem JN{f:Fr}{p:Rat}(hf:ff f p)(h:RR f):p.den=1:=by have:=(gq f.d hf.d).2 h.1;rw[h.2,hf.vd]at this;omega
def Je(f g:Fr):Fr:=if RR f/\RR g then⟨tY f.n g.n,⟨1,none⟩⟩else Qv (tY (gV f.n g.d) (gV g.n f.d)) (gV f.d g.d)
theorem ML(f g:Fr){p q:Rat}(hf:ff f p)(hg:ff g q){K L:Nat}(lf:oH f K)(lg:oH g L):ff (Je f g) (p+q)/\oH (Je f g) (K+L+1):=by
 unfold Je;split
 ·rename_i h;obtain⟨e1,e2⟩:=iU f.n g.n hf.n hg.n;have d1:=JN hf h.1;have d2:=JN hg h.2;have hs:=ma p q;rw[d1,d2]at hs;have hn:=Rat.num_divInt (p.num*(1:Nat)+q.num*(1:Nat)) (((1:Nat):Int)*((1:Nat):Int));have hd:=Rat.den_divInt (p.num*(1:Nat)+q.num*(1:Nat)) (((1:Nat):Int)*((1:Nat):Int));rw[hs]at hn hd;have hK:1<=K:=by
   have:=lf.2;unfold dL at this;rw[hf.vd,d1]at this;have e:aa (Int.natAbs ((1:Nat):Int))=[(1:Int)]:=jC (f:=1) (by decide) (by decide);rw[e]at this;exact this
  refine⟨⟨e2,C3,?_,?_⟩,?_,?_⟩
  ·show nv (tY f.n g.n)=_;rw[e1,hf.vn,hg.vn,hn];simp
  ·show(1:Int)=_;rw[hd];simp
  ·exact cM (Ea hf.n hg.n (cM lf.1 (show K<=K+L by omega)) (cM lg.1 (show L<=K+L by omega))) (by omega)
  exact TH (by omega)
 obtain⟨e1,e2⟩:=bP f.n g.d hf.n hg.d;obtain⟨e3,e4⟩:=bP g.n f.d hg.n hf.d;obtain⟨e5,e6⟩:=bP f.d g.d hf.d hg.d;obtain⟨e7,e8⟩:=iU _ _ e2 e4;have h0:=Int.mul_pos (Gn hf) (Gn hg);have:=yu _ _ e8 e6 (by omega) (Ea e2 e4 (eD hf.n hg.d lf.1 lg.2) (cM (eD hg.n hf.d lg.1 lf.2) (show L+K<=K+L by omega))) (cM (eD hf.d hg.d lf.2 lg.2) (Nat.le_succ _));rw[e7,e1,e3,e5,hf.vn,hf.vd,hg.vn,hg.vd,ma]at this;exact this
theorem Wr(f g:Fr){p q:Rat}(hf:ff f p)(hg:ff g q){K L:Nat}(lf:oH f K)(lg:oH g L)(hK:K+L<2^37):aO Tryz.prog 233 [eF f,eF g] (eF (Je f g)):=by
 have w1:=uR f hf;have w2:=uR g hg;have a1:=KJ f.n g.n hf.n hg.n (cM lf.1 (show K<=K+L by omega)) (cM lg.1 (show L<=K+L by omega)) (by omega);have m1:=oK f.n g.d hf.n hg.d lf.1 lg.2 (by omega);have m2:=oK g.n f.d hg.n hf.d lg.1 lf.2 (by omega);have m3:=oK f.d g.d hf.d hg.d lf.2 lg.2 (by omega);obtain⟨e1,e2⟩:=bP f.n g.d hf.n hg.d;obtain⟨e3,e4⟩:=bP g.n f.d hg.n hf.d;obtain⟨e5,e6⟩:=bP f.d g.d hf.d hg.d;obtain⟨e7,e8⟩:=iU _ _ e2 e4;have h0:=Int.mul_pos (Gn hf) (Gn hg);have a2:=KJ _ _ e2 e4 (eD hf.n hg.d lf.1 lg.2) (cM (eD hg.n hf.d lg.1 lf.2) (show L+K<=K+L by omega)) (by omega);have mk:=H3 _ _ e8 e6 (by omega) (Ea e2 e4 (eD hf.n hg.d lf.1 lg.2) (cM (eD hg.n hf.d lg.1 lf.2) (show L+K<=K+L by omega))) (cM (eD hf.d hg.d lf.2 lg.2) (Nat.le_succ _)) (by omega);refine enter (fn:=Tryz.f233) Tryz.func233 rfl rfl rfl rfl ?_;refine cg 2 [(2,.box true (eF f)),(3,.box true (eF g)),(4,.box true (.agg [.i 0,.nil,.i 0,.nil]))] (¬(RR f/\RR g)) ?_ fun hc=>?_
 ·refine r0 rfl ?_;refine cl rfl rfl w1 rfl ?_;refine r0 rfl ?_;refine aB 7 rfl (fun h1=>?_) (fun h1=>?_)
  ·refine r0 rfl ?_;refine cl rfl rfl w2 rfl ?_;refine r0 rfl ?_;refine br rfl rfl rfl (fun h2=>?_) (fun h2=>?_)
   ·have hw:RR f/\RR g:=⟨h1,h2⟩;unfold Je;rw[if_pos hw];refine r0 rfl ?_;refine cl rfl rfl a1 rfl ?_;refine r0 rfl ?_;refine cl rfl rfl (Cy _) rfl ?_;refine r0 rfl ?_;exact aF rfl (au.refl _)
   refine r0 rfl ?_;exact aQ (fun h=>h2 h.2) ⟨⟨rfl,rfl⟩,⟨rfl,rfl⟩,⟨rfl,rfl⟩,trivial⟩
  refine r0 rfl ?_;exact aQ (fun h=>h1 h.1) ⟨⟨rfl,rfl⟩,⟨rfl,rfl⟩,⟨rfl,rfl⟩,trivial⟩
 unfold Je;rw[if_neg hc];refine r0 rfl ?_;refine cd rfl rfl m1 rfl ?_;refine r0 rfl ?_;refine cd rfl rfl m2 rfl ?_;refine r0 rfl ?_;refine cd rfl rfl a2 rfl ?_;refine r0 rfl ?_;refine cd rfl rfl m3 rfl ?_;refine r0 rfl ?_;refine cd rfl rfl mk rfl ?_;refine k0 rfl (by kernel_rfl) ?_;exact aF rfl (au.refl _)
end Go.Ai.b6
namespace Go.Ai.Pg
open Go.Proofs Go.Ai Go.Ai.b6
set_option maxRecDepth 100000
theorem find_congr{α:Type}{p q:α->Bool}:∀{l:List α},(∀x∈l,p x=q x)->l.find? p=l.find? q
 |[],_=>rfl
 |x::l,h=>by rw[List.find?_cons,List.find?_cons,h x (by simp),find_congr fun y hy=>h y (by simp[hy])]
theorem zp:∀(s:bw)(n:Nat),(List.range' n s.length).find? (fun i=>(s.getD (i-n) 0)==47)=if aj s<s.length then some (n+aj s)else none
 |[],n=>by simp[aj]
 |c::t,n=>by
  rw[List.length_cons,List.range'_succ,List.find?_cons];simp only[Nat.sub_self,List.getD_cons_zero,aj];by_cases h:c=47
  ·simp[h]
  have hb:(c==47)=false:=by simpa using h
  simp only[hb,h,if_false];have e:(List.range' (n+1) t.length).find? (fun i=>((c::t).getD (i-n) 0)==47)=(List.range' (n+1) t.length).find? (fun i=>(t.getD (i-(n+1)) 0)==47):=by refine find_congr ?_;intro i hi;have:=(List.mem_range'_1.1 hi).1;rw[show i-n=(i-(n+1))+1 by omega,List.getD_cons_succ]
  rw[e,zp t (n+1)];by_cases g:aj t<t.length
  ·rw[if_pos g,if_pos (by omega)];congr 1;omega
  rw[if_neg g,if_neg (by omega)]
def Nq(s:bw):Int:=if aj s<s.length then aj s else -1
theorem zn(s:bw):firstIdx (bs s) 47=Nq s:=by
 unfold firstIdx Nq;have e:(List.range (bs s).size).find? (fun i=>(bs s)[i]! ==47)=(List.range' 0 s.length).find? (fun i=>(s.getD (i-0) 0)==47):=by
  have ct:(bs s).size=s.length:=rfl;rw[ct,List.range_eq_range'];refine find_congr ?_;intro i hi;have cO:i<s.length:=by have:=(List.mem_range'_1.1 hi).2;omega
  have:(bs s)[i]! =s.getD i 0:=by have h2:i<(bs s).size:=cO;rw[getElem!_pos (bs s) i h2,bk cO];rfl
  rw[this];rfl
 rw[e,zp s 0];split
 ·rename_i i hi;split at hi
  ·simp only[Option.some.injEq]at hi;rw[if_pos (by assumption),<-hi];simp
  simp at hi
 rename_i hi;split at hi
 ·simp at hi
 rw[if_neg (by assumption)]
theorem yT(s:bw):aO Tryz.prog 283 [.s s,.n .u8 47] (.i (Nq s)):=by
 intro w S vs _ hS hc;simp only[an,Cells]at hc;obtain⟨y,l',F1,F2,rfl,hF,_,hr,y2,l2,F3,F4,rfl,Ua,_,xA,rfl,rfl⟩:=hc;simp only[SV.den,Rel]at hr xA;obtain⟨_,rfl,rfl⟩:=hr;obtain⟨_,rfl,rfl⟩:=xA;have bp:(callFunc 283 #[.string (bs s),.int .u8 47]).run Tryz.prog w=.ok (.value (.int .i64 (Nq s))) w:=by refine(run_callFunc_indexByte (fn:=Tryz.f283) Tryz.func283 (by kernel_rfl) (by kernel_rfl) (by kernel_rfl) (by kernel_rfl) _ w).trans ?_;rw[run_indexByte_string];simp only[Result.andThen];have:(47:Int).toNat.toUInt8=47:=rfl;rw[this,zn]
 intro rd o a next Q hK
 have e:[Value.string (bs s),Value.int .u8 47].toArray=#[.string (bs s),.int .u8 47]:=rfl;rw[e,bp];exact hK _ _ ⟨S,[],Go.RowKit.Below.refl _ _,fun _ h=>h,fun _ h=>.inl h,hS,by simp[SV.den,Rel,scalar],List.nodup_nil,by simp⟩
theorem Vk(s:bw):aO Tryz.prog 261 [.s s,.n .u8 47] (.i (Nq s)):=by refine enter (fn:=Tryz.f261) Tryz.func261 rfl rfl rfl rfl ?_;refine r0 rfl ?_;refine cl rfl rfl (yT s) rfl ?_;refine r0 rfl ?_;exact aF rfl (au.refl _)
theorem RT(s:bw):aO Tryz.prog 234 [.s s,.s [47]] (.i (Nq s)):=by
 refine enter (fn:=Tryz.f234) Tryz.func234 rfl rfl rfl rfl ?_;refine r0 rfl ?_;refine aB 19 rfl (fun h=>absurd h (by decide)) (fun _=>?_);refine r0 rfl ?_;refine br rfl rfl rfl (fun h=>?_) (fun _=>?_)
 ·have h:[47]=s:=h;subst h;refine r0 rfl ?_;exact aF rfl (au.refl _)
 refine r0 rfl ?_;refine br rfl rfl rfl (fun _=>?_) (fun h=>absurd rfl h);refine r1 rfl (by simp only[ae,and_true]<;>decide) ?_;refine cl rfl rfl (Vk s) rfl ?_;refine r0 rfl ?_;exact aF rfl (au.refl _)
theorem BX{s:bw}(h:isNeg s=true):1<=s.length/\ba s=s.drop 1:=by unfold ba;rw[if_pos h];unfold isNeg at h;simp only[decide_eq_true_eq]at h;exact⟨h.1,rfl⟩
theorem Np{s:bw}:0<=Nq s↔aj s<s.length:=by unfold Nq;split<;>simp<;>omega
theorem Wx(s:bw)(hl:s.length<2^60):aO Tryz.prog 186 [.s s,.s [47]] (.bC [.s (s.take (aj s)),.s (s.drop (aj s+1)),.u (decide (aj s<s.length))]):=by
 have hle:=kP s;refine enter (fn:=Tryz.f186) Tryz.func186 rfl rfl rfl rfl ?_;refine r0 rfl ?_;refine cl rfl rfl (RT s) rfl ?_;refine r0 rfl ?_;refine br rfl rfl rfl (fun h=>?_) (fun h=>?_)
 ·have h1:=Np.1 h;have e:Nq s=aj s:=by unfold Nq;rw[if_pos h1]
  rw[e];refine k1 rfl (by kernel_rfl) (by simp only[ae,and_true,List.length_cons,List.length_nil]<;>omega) ?_;refine aF rfl ⟨au.of_eq (congrArg SV.s ?_),au.of_eq (congrArg SV.s ?_),(decide_eq_true h1).symm,trivial⟩
  ·simp
  have e2:((aj s:Int)+(([47]:bw).length:Nat)).toNat=aj s+1:=by simp
  rw[e2,List.take_of_length_le (Nat.le_refl _)]
 have h1:¬aj s<s.length:=fun g=>h (Np.2 g);refine r0 rfl ?_;refine aF rfl ⟨au.of_eq (congrArg SV.s ?_),au.of_eq (congrArg SV.s ?_),(decide_eq_false h1).symm,trivial⟩
 ·rw[List.take_of_length_le (by omega)]
 rw[List.drop_eq_nil_of_le (by omega)]
theorem Uk(s:bw)(hl:s.length<2^60):aO Tryz.prog 105 [.s s,.s [47]] (.bC [.s (s.take (aj s)),.s (s.drop (aj s+1)),.u (decide (aj s<s.length))]):=by refine enter (fn:=Tryz.f105) Tryz.func105 rfl rfl rfl rfl ?_;refine r0 rfl ?_;refine cl rfl rfl (Wx s hl) rfl ?_;refine r0 rfl ?_;exact aF rfl (au.refl _)
theorem ye(s:bw)(hl:s.length<2^60):aO Tryz.prog 235 [.s s,.s [45]] (.u (isNeg s)):=by
 refine enter (fn:=Tryz.f235) Tryz.func235 rfl rfl rfl rfl ?_;refine r0 rfl ?_;refine aB 10 rfl (fun h=>?_) (fun h=>?_)
 ·have h:1<=s.length:=by have h:((1:Nat):Int)<=s.length:=h;omega
  refine r1 rfl (by simp only[ae,and_true,List.length_cons,List.length_nil]<;>omega) ?_;refine aF rfl (au.of_eq (congrArg SV.u ?_))
  match s,h with
  |c::t,_=>
   have e:(List.drop 0 (List.take (([45]:bw).length:Int).toNat (c::t)))=[c]:=by simp
   rw[e];unfold isNeg;rw[decide_eq_decide];simp only[List.length_cons,List.getD_cons_zero,List.cons.injEq,and_true,Nat.zero_lt_succ,true_and];exact⟨fun h=>by rw[h];rfl,fun h=>UInt8.toNat_inj.1 h⟩
 have h:¬((1:Nat):Int)<=s.length:=h;refine r0 rfl ?_;refine aF rfl ?_;show false=isNeg s;unfold isNeg;exact(decide_eq_false (fun hh=>h (by omega))).symm
theorem SL(s:bw)(hl:s.length<2^60):aO Tryz.prog 187 [.s s,.s [45]] (.bC [.s (ba s),.u (isNeg s)]):=by
 refine enter (fn:=Tryz.f187) Tryz.func187 rfl rfl rfl rfl ?_;refine r0 rfl ?_;refine cl rfl rfl (ye s hl) rfl ?_;refine r0 rfl ?_;refine o5 rfl rfl rfl (fun h=>?_) (fun h=>?_)
 ·have hn:isNeg s=false:=by simpa using h
  refine r0 rfl ?_;refine aF rfl ⟨au.of_eq (congrArg SV.s ?_),hn.symm,trivial⟩;unfold ba;rw[hn];rfl
 have hn:isNeg s=true:=by simpa using h
 obtain⟨g1,g2⟩:=BX hn;refine r1 rfl (by simp only[ae,and_true,List.length_cons,List.length_nil]<;>omega) ?_;refine aF rfl ⟨au.of_eq (congrArg SV.s ?_),hn.symm,trivial⟩;rw[g2];show(s.take s.length).drop 1=_;rw[List.take_of_length_le (Nat.le_refl _)]
theorem Wy(s:bw)(hl:s.length<2^60):aO Tryz.prog 106 [.s s,.s [45]] (.bC [.s (ba s),.u (isNeg s)]):=by refine enter (fn:=Tryz.f106) Tryz.func106 rfl rfl rfl rfl ?_;refine r0 rfl ?_;refine cl rfl rfl (SL s hl) rfl ?_;refine r0 rfl ?_;exact aF rfl (au.refl _)
theorem Wc(s:bw)(hl:s.length<2^60):aO Tryz.prog 191 [.s s,.s [45]] (.u (isNeg s)):=by refine enter (fn:=Tryz.f191) Tryz.func191 rfl rfl rfl rfl ?_;refine r0 rfl ?_;refine cl rfl rfl (ye s hl) rfl ?_;refine r0 rfl ?_;exact aF rfl (au.refl _)
theorem Nf(s:bw)(hl:s.length<2^60):aO Tryz.prog 236 [.s s,.s [45]] (.s (ba s)):=by
 refine enter (fn:=Tryz.f236) Tryz.func236 rfl rfl rfl rfl ?_;refine r0 rfl ?_;refine cl rfl rfl (ye s hl) rfl ?_;refine r0 rfl ?_;refine o5 rfl rfl rfl (fun h=>?_) (fun h=>?_)
 ·obtain⟨g1,g2⟩:=BX h;refine r1 rfl (by simp only[ae,and_true,List.length_cons,List.length_nil]<;>omega) ?_;refine aF rfl (au.of_eq (congrArg SV.s ?_));rw[g2];show(s.take s.length).drop 1=_;rw[List.take_of_length_le (Nat.le_refl _)]
 refine r0 rfl ?_;refine aF rfl (au.of_eq (congrArg SV.s ?_));unfold ba;rw[h];rfl
theorem QX(s:bw)(hl:s.length<2^60):aO Tryz.prog 192 [.s s,.s [45]] (.s (ba s)):=by refine enter (fn:=Tryz.f192) Tryz.func192 rfl rfl rfl rfl ?_;refine r0 rfl ?_;refine cl rfl rfl (Nf s hl) rfl ?_;refine r0 rfl ?_;exact aF rfl (au.refl _)
end Go.Ai.Pg
