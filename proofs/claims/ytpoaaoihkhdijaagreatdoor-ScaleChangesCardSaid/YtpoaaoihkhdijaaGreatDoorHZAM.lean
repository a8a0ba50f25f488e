/- Parts of the proof of ScaleChanges (as AIM.md's row tells), at every input, with no further conditions. -/
import Derived.Test.YtpoaaoihkhdijaaGreatDoorHZAL
import Derived.Laws.StandIn
set_option linter.all false
set_option maxRecDepth 100000
set_option maxHeartbeats 0
namespace Go.Ai.eE
open Go.Proofs Go.Ai
section
variable{f:Fr}{K L:Nat}{p q:Rat}
def Jf(h:gW f q):0<nv f.d:=by rw[h.vd];have:=q.den_pos;omega
def EJ(f:Fr)(h:gW f q):aM Tryz.prog 264 [eF f] (.u<|decide (f.d.w=none/\f.d.s=1)):=by
 have a:=uw h.d;refine bS Tryz.func264 W<|bJ W 7 W ?_ ?_<;>intro g
 ·refine bK W W<|ar.of_eq<|congrArg SV.u ?_;simp_all
 refine bK W W<|(decide_eq_false λh=>g<|a.2 h.1).symm
def Lk(f g:Fr)(b:gW f p)(a:gW g q)(d:ri f K)(c:ri g L)(m:K+L<2^38):aM Tryz.prog 174 [eF f,eF g] (.i (p.num*q.den-q.num*p.den).sign):=by have m1:=qY f.n g.d b.n a.d d.1 c.2 E;have e:=qY g.n f.d a.n b.d c.1 d.2 E;obtain⟨l,k⟩:=cP f.n g.d b.n a.d;obtain⟨j,h⟩:=cP g.n f.d a.n b.d;have hc:=R3 _ _ k h (gp b.n a.d d.1 c.2) (dF (gp a.n b.d c.1 d.2) E) (show K+L<2^39 from E);rw[l,j,b.vn,b.vd,a.vn,a.vd]at hc;refine bS Tryz.func174 W<|bO W W m1 W<|bO W W e W<|bH W hc W<|k0 W aW<|bF W
def Hw(p q:Rat):(p.num*q.den-q.num*p.den).sign=if p<q then -1 else if q<p then 1 else 0:=by
 have d:=Rat.lt_iff p q;have c:=Rat.lt_iff q p;split
 ·rename_i h;exact ahI (by have:=d.1 h;omega)
 split
 ·rename_i h;exact agp (by have:=c.1 h;omega)
 rename_i g h;have:p.num*q.den-q.num*p.den=0:=by have a:¬(p.num*q.den<q.num*p.den):=λx=>g<|d.2 x;have b:¬(q.num*p.den<p.num*q.den):=λx=>h<|c.2 x;omega
 rw[this];rfl
def Uu(f g:Fr)(j:gW f p)(i:gW g q)(d:ri f K)(c:ri g L)(k:K+L<2^38):aM Tryz.prog 191 [eF f,eF g] (.u<|decide (p=q)):=by
 have hc:=Lk f g j i d c k;have e:=Hw p q;refine bS Tryz.func191 W<|bP W W hc W<|bK W W<|ar.of_eq<|congrArg SV.u ?_;rw[decide_eq_decide,e];constructor
 ·intro h;split at h
  ·omega
  split at h
  ·omega
  rename_i a b;exact Rat.le_antisymm (Rat.not_lt.1 b)<|Rat.not_lt.1 a
 rintro rfl;rw[if_neg<|Rat.lt_irrefl,if_neg<|Rat.lt_irrefl]
def QV(f g:Fr):Fr:=SO (jy f.n g.n)<|jy f.d g.d
def tg(f g:Fr)(b:gW f p)(a:gW g q)(d:ri f K)(c:ri g L):gW (QV f g) (p*q)/\ri (QV f g) (K+L):=by obtain⟨j,i⟩:=cP f.n g.n b.n a.n;obtain⟨h,e⟩:=cP f.d g.d b.d a.d;have k:=agf (Jf b)<|Jf a;have:=BO (jy f.n g.n) (jy f.d g.d) i e E (gp b.n a.n d.1 c.1)<|gp b.d a.d d.2 c.2;rw[j,h,b.vn,b.vd,a.vn,a.vd,qz]at this;exact this
def Ch(f g:Fr)(b:gW f p)(a:gW g q)(d:ri f K)(c:ri g L)(j:K+L<2^38):aM Tryz.prog 98 [eF f,eF g] (eF<|QV f g):=by have m1:=qY f.n g.n b.n a.n d.1 c.1 E;have e:=qY f.d g.d b.d a.d d.2 c.2 E;obtain⟨m,i⟩:=cP f.n g.n b.n a.n;obtain⟨l,h⟩:=cP f.d g.d b.d a.d;have k:=agf (Jf b)<|Jf a;have hm:=KZ _ _ i h E (gp b.n a.n d.1 c.1) (gp b.d a.d d.2 c.2) E;refine bS Tryz.func98 W<|bO W W m1 W<|bO W W e W<|bH W hm W<|k0 W aW<|bF W
def WU(f:Fr):Fr:=SO f.d f.n
def OQ(f:Fr)(a:gW f p)(c:p≠0)(b:ri f K):gW (WU f) p⁻¹ /\ri (WU f) K:=by
 have hn:nv f.n≠0:=by rw[a.vn];simp_all
 have:=BO f.d f.n a.d a.n hn b.2 b.1;rw[a.vn,a.vd,<-Rat.inv_def]at this;exact this
def W7(f:Fr)(a:gW f p)(d:p≠0)(b:ri f K)(c:K<2^38):aM Tryz.prog 112 [eF f] (eF<|WU f):=by
 have hn:nv f.n≠0:=by rw[a.vn];simp_all
 have hm:=KZ f.d f.n a.d a.n hn b.2 b.1 c;refine bS Tryz.func112 W<|bP W W hm W<|bN W W
def acM(f g:Fr)(h:gW f p)(b:gW g q)(c:q≠0)(d:ri f K)(a:ri g L)(i:K+L<2^38):aM Tryz.prog 101 [eF f,eF g] (eF<|QV f<|WU g):=by obtain⟨i1,e⟩:=OQ g b c a;have k:=W7 g b c a E;have j:=Ch f (WU g) h i1 d e i;refine bS Tryz.func101 W<|bO W W k W<|bH W j W<|k0 W aW<|bF W
def Uj(f:Fr):Prop:=f.d.w=none/\f.d.s=1
instance(f:Fr):Decidable (Uj f):=by unfold Uj;infer_instance
def MJ(a:gW f p)(h:Uj f):p.den=1:=by have:=(jm f.d a.d).2 h.1;rw[h.2,a.vd]at this;omega
def LZ(f g:Fr):Fr:=if Uj f/\Uj g then⟨xh f.n g.n,⟨1,none⟩⟩else SO (xh (jy f.n g.d)<|jy g.n f.d) (jy f.d g.d)
def Pt(f g:Fr)(b:gW f p)(a:gW g q)(d:ri f K)(c:ri g L):gW (LZ f g) (p+q)/\ri (LZ f g) (K+L+1):=by
 unfold LZ;split
 ·rename_i h;obtain⟨i,e⟩:=kv f.n g.n b.n a.n;have t:=MJ b h.1;have s:=MJ a h.2;have hs:=oe p q;rw[t,s]at hs;have hn:=Rat.num_divInt (p.num*(1:Nat)+q.num*(1:Nat))<|((1:Nat):Int)*((1:Nat):Int);have j:=Rat.den_divInt (p.num*(1:Nat)+q.num*(1:Nat))<|((1:Nat):Int)*((1:Nat):Int);rw[hs]at hn j;refine⟨⟨e,Ga,?_,?_⟩,?_,?_⟩
  ·show nv (xh f.n g.n)=_;rw[i,b.vn,a.vn,hn];simp
  ·show(1:Int)=_;rw[j];simp
  ·exact dF (Hg b.n a.n (dF d.1<|show K<=K+L from E)<|dF c.1<|show L<=K+L from E) E
  exact VA E
 obtain⟨i,e⟩:=cP f.n g.d b.n a.d;obtain⟨r,k⟩:=cP g.n f.d a.n b.d;obtain⟨o,n⟩:=cP f.d g.d b.d a.d;obtain⟨m,l⟩:=kv _ _ e k;have u:=agf (Jf b)<|Jf a;have:=BO _ _ l n E (Hg e k (gp b.n a.d d.1 c.2)<|dF (gp a.n b.d c.1 d.2)<|show L+K<=K+L from E)<|dF (gp b.d a.d d.2 c.2)<|agT _;rw[m,i,r,o,b.vn,b.vd,a.vn,a.vd,oe]at this;exact this
def Xa(f g:Fr)(b:gW f p)(a:gW g q)(d:ri f K)(c:ri g L)(w:K+L<2^37):aM Tryz.prog 263 [eF f,eF g] (eF<|LZ f g):=by
 have m:=EJ f b;have l:=EJ g a;have v:=NA f.n g.n b.n a.n (dF d.1<|show K<=K+L from E) (dF c.1<|show L<=K+L from E) E;have m1:=qY f.n g.d b.n a.d d.1 c.2 E;have o:=qY g.n f.d a.n b.d c.1 d.2 E;have n:=qY f.d g.d b.d a.d d.2 c.2 E;obtain⟨B,k⟩:=cP f.n g.d b.n a.d;obtain⟨A,j⟩:=cP g.n f.d a.n b.d;obtain⟨z,t⟩:=cP f.d g.d b.d a.d;obtain⟨y,s⟩:=kv _ _ k j;have x:=agf (Jf b)<|Jf a;have u:=NA _ _ k j (gp b.n a.d d.1 c.2) (dF (gp a.n b.d c.1 d.2)<|show L+K<=K+L from E) E;have mk:=KZ _ _ s t E (Hg k j (gp b.n a.d d.1 c.2)<|dF (gp a.n b.d c.1 d.2)<|show L+K<=K+L from E) (dF (gp b.d a.d d.2 c.2)<|agT _) E;refine bS Tryz.func263 W<|cx 2 [(2,.box true<|eF f),(3,.box true<|eF g),(4,.box true<|.agg [.i 0,.nil,.i 0,.nil])] (¬(Uj f/\Uj g)) ?_ λhc=>?_
 ·refine bP W W m W<|bJ W 7 W ?_ ?_<;>intro i
  ·refine bP W W l W<|bQ W W ?_ ?_<;>intro e
   ·have r:Uj f/\Uj g:=⟨i,e⟩;unfold LZ;rw[if_pos r];refine bP W W v W<|bP W W (Fs _) W<|bN W W
   refine r0 W<|gm λh=>e h.2
  refine r0 W<|gm λh=>i h.1
 unfold LZ;rw[if_neg hc];refine bO W W m1 W<|bO W W o W<|bO W W u W<|bO W W n W<|bO W W mk W<|k0 W aW<|bF W
end
end Go.Ai.eE
namespace Go.Ai.Pg
open Go.Proofs Go.Ai Go.Ai.eE
def find_congr{α:Type}{p q:α->Bool}:∀{l:List α},(∀x∈l,p x=q x)->l.find? p=l.find? q
 |[],_=>rfl
 |x::l,h=>by rw[List.find?_cons,List.find?_cons,h x I,find_congr λy a=>h y<|by simp[a]]
def Ck:∀(s:hO)(n:Nat),(List.range' n s.length).find? (λi=>(s.getD (i-n) 0)==47)=if aw s<s.length then some (n+aw s)else none
 |[],n=>I
 |c::t,n=>by
  rw[adX,List.range'_succ,List.find?_cons];simp only[agY,ain,aw];by_cases h:c=47
  ·simp[h]
  have a:(c==47)=false:=by simpa using h
  simp only[a,h,if_false];have e:(List.range' (n+1) t.length).find? (λi=>((c::t).getD (i-n) 0)==47)=(List.range' (n+1) t.length).find? (λi=>(t.getD (i-(n+1)) 0)==47):=by refine find_congr ?_;intro i hi;have:=(List.mem_range'_1.1 hi).1;rw[show i-n=(i-(n+1))+1 from E,aix]
  rw[e,Ck t<|n+1];by_cases g:aw t<t.length
  ·rw[if_pos g,if_pos E];congr 1;omega
  rw[if_neg g,if_neg E]
def P5(s:hO):Int:=if aw s<s.length then aw s else -1
def Cj(s:hO):firstIdx (bs s) 47=P5 s:=by
 unfold firstIdx P5;have e:(List.range (bs s).size).find? (λi=>(bs s)[i]! ==47)=(List.range' 0 s.length).find? (λi=>(s.getD (i-0) 0)==47):=by
  have b:(bs s).size=s.length:=W;rw[List.range_eq_range'];refine find_congr ?_;intro i hi;have a:i<s.length:=by have:=(List.mem_range'_1.1 hi).2;omega
  have:(bs s)[i]! =s.getD i 0:=by have c:=a;rw[getElem!_pos (bs s) i c,au a];rfl
  rw[this];rfl
 rw[e,Ck s 0];split
 ·rename_i i hi;split at hi
  ·simp only[ada]at hi;rw[if_pos<|by assumption,<-hi];simp
  cases hi
 rename_i hi;split at hi
 ·cases hi
 rw[if_neg<|by assumption]
def Ca(s:hO):aM Tryz.prog 346 [.s s,.n .u8 47] (.i<|P5 s):=by
 intro w S k _ e hc;obtain⟨y,m,u,t,rfl,p,_,d,j,l,r,q,rfl,g,_,c,rfl,rfl⟩:=hc;obtain⟨_,rfl,rfl⟩:=d;obtain⟨_,rfl,rfl⟩:=c;have b:(callFunc 346 #[.string (bs s),.int .u8 47]).run Tryz.prog w=.ok (.value<|.int .i64<|P5 s) w:=by refine(run_callFunc_indexByte (fn:=Tryz.f346) Tryz.func346 aW aW aW aW _ w).trans ?_;rw[run_indexByte_string];simp only[Result.andThen];have:(47:Int).toNat.toUInt8=47:=W;rw[this,Cj]
 intro rd o a next Q f
 rw[b];exact f _ _ ⟨S,[],Go.RowKit.Below.refl _ _,λ_ h=>h,λ_ h=>.inl h,e,by simp[SV.den,Rel,scalar],ae5,I⟩
def WW(s:hO):aM Tryz.prog 319 [.s s,.n .u8 47] (.i<|P5 s):=by refine bS Tryz.func319 W<|bP W W (Ca s) W<|bN W W
def Ul(s:hO):aM Tryz.prog 290 [.s s,.s [47]] (.i<|P5 s):=by
 refine bS Tryz.func290 W<|bJ W 19 W (λh=>absurd h fh) λ_=>?_;refine bQ W W (λh=>?_) (λ_=>?_)
 ·have h:=h;subst h;refine bN W W
 refine bQ W W (λ_=>?_) λh=>absurd W h;refine r1 W (by simp[bo]<;>decide) ?_;refine bG W (WW s) W<|bN W W
def EK{s:hO}(h:isNeg s=true):1<=s.length/\bz s=s.drop 1:=by unfold bz;rw[if_pos h];unfold isNeg at h;simp at h;exact⟨h.1,W⟩
def P4{s:hO}:0<=P5 s↔aw s<s.length:=by unfold P5;split<;>omega
def Xd(s:hO)(hl:s.length<2^60):aM Tryz.prog 251 [.s s,.s [47]] (.bW [.s<|s.take<|aw s,.s<|s.drop<|aw s+1,.u<|decide (aw s<s.length)]):=by
 refine bS Tryz.func251 W<|bP W W (Ul s) W<|bQ W W ?_ ?_<;>intro h
 ·have a:=P4.1 h;have e:P5 s=aw s:=by unfold P5;rw[if_pos a]
  rw[e];refine k1 W aW (by simp[bo,aeg]<;>omega) ?_;refine aE W ⟨ar.of_eq<|congrArg SV.s ?_,ar.of_eq<|congrArg SV.s ?_,(decide_eq_true a).symm,U⟩
  ·simp
  have b:((aw s:Int)+(([47]:hO).length:Nat)).toNat=aw s+1:=I;rw[b,adM .refl]
 have a:¬aw s<s.length:=λg=>h<|P4.2 g;refine bK W W ⟨ar.of_eq<|congrArg SV.s ?_,ar.of_eq<|congrArg SV.s ?_,(decide_eq_false a).symm,U⟩
 ·rw[adM E]
 rw[afo E]
def VN(s:hO)(hl:s.length<2^60):aM Tryz.prog 171 [.s s,.s [47]] (.bW [.s<|s.take<|aw s,.s<|s.drop<|aw s+1,.u<|decide (aw s<s.length)]):=by refine bS Tryz.func171 W<|bP W W (Xd s hl) W<|bN W W
def Bz(s:hO)(hl:s.length<2^60):aM Tryz.prog 291 [.s s,.s [45]] (.u<|isNeg s):=by
 refine bS Tryz.func291 W<|bJ W 10 W ?_ ?_<;>intro h
 ·have h:1<=s.length:=by have h:((1:Nat):Int)<=s.length:=h;omega
  refine r1 W (by simp[bo,aeg]<;>omega) ?_;refine aE W<|ar.of_eq<|congrArg SV.u ?_
  match s,h with
  |c::t,_=>unfold isNeg;simp[true_and];exact⟨λh=>by rw[h];rfl,λh=>ahg.1 h⟩
 have h:¬((1:Nat):Int)<=s.length:=h;refine bK W W<|(decide_eq_false λhh=>h E).symm
def UF(s:hO)(hl:s.length<2^60):aM Tryz.prog 281 [.s s,.s [45]] (.bW [.s<|bz s,.u<|isNeg s]):=by
 refine bS Tryz.func281 W<|bP W W (Bz s hl) W<|r0 W<|ni W W W ?_ ?_<;>intro h
 ·have hn:isNeg s=false:=by simpa using h
  refine bK W W ⟨ar.of_eq<|congrArg SV.s ?_,hn.symm,U⟩;unfold bz;rw[hn];rfl
 have hn:isNeg s=true:=by simpa using h
 obtain⟨g1,g2⟩:=EK hn;refine r1 W aX<|aE W ⟨ar.of_eq<|congrArg SV.s ?_,hn.symm,U⟩;rw[g2];show(s.take s.length).drop 1=_;rw[adM .refl]
def Xe(s:hO)(hl:s.length<2^60):aM Tryz.prog 224 [.s s,.s [45]] (.bW [.s<|bz s,.u<|isNeg s]):=by refine bS Tryz.func224 W<|bP W W (UF s hl) W<|bN W W
def WY(s:hO)(hl:s.length<2^60):aM Tryz.prog 252 [.s s,.s [45]] (.u<|isNeg s):=by refine bS Tryz.func252 W<|bP W W (Bz s hl) W<|bN W W
def PM(s:hO)(hl:s.length<2^60):aM Tryz.prog 292 [.s s,.s [45]] (.s<|bz s):=by
 refine bS Tryz.func292 W<|bP W W (Bz s hl) W<|ni W W W ?_ ?_<;>intro h
 ·obtain⟨g1,g2⟩:=EK h;refine r1 W aX<|aE W<|ar.of_eq<|congrArg SV.s ?_;rw[g2];show(s.take s.length).drop 1=_;rw[adM .refl]
 refine bK W W<|ar.of_eq<|congrArg SV.s ?_;unfold bz;rw[h];rfl
def Ta(s:hO)(hl:s.length<2^60):aM Tryz.prog 253 [.s s,.s [45]] (.s<|bz s):=by refine bS Tryz.func253 W<|bP W W (PM s hl) W<|bN W W
def Jy(s:hO):Bool:=mb s&& !decide (s=[])
def UC(s:hO)(hl:s.length<2^60):aM Tryz.prog 282 [.s s] (.u<|Jy s):=by
 refine bS Tryz.func282 W<|r0 W<|ra (λi:Nat=>[(0,.s s),(5,.i s.length),(6,.i i)]) (λi=>i<=s.length/\∀k,k<i->48<=(s.getD k 0).toNat/\(s.getD k 0).toNat<=57) (λi=>s.length-i) 0 ⟨adk _,λk h=>E⟩ ?_;rintro i⟨hi,n⟩;refine bQ W W ?_ ?_<;>intro h
 ·have b:i<s.length:=E;have a:(i:Int).toNat=i:=E;have f:¬(48<=(s.getD i 0).toNat/\(s.getD i 0).toNat<=57)->false=Jy s:=by
   intro hn;symm;unfold Jy;rw[Bool.and_eq_false_iff];left;rw[Bool.eq_false_iff];intro o;have:=mC.1 o s[i]<|adC b;have e:s.getD i 0=s[i]:=by simp[adY,aeF b]
   rw[<-e]at this;exact hn this
  refine r1 W (by simp[bo,and_true,a];omega) ?_;refine aC 13 W ?_ ?_<;>intro l
  ·rw[a]at l;refine bK W W<|f E
  rw[a]at l;refine r1 W (by simp[bo,and_true,a];omega) ?_;refine gb W ?_ ?_<;>intro j
  ·rw[a]at j;refine bK W W<|f E
  rw[a]at j;refine r1 W (by simp[bo,and_true];omega) ?_;refine gS (i+1) ⟨E,λk m=>?_⟩;rcases aeQ k i with g|g
  ·exact n k g
  rw[show k=i from E];omega
 have d:mb s=true:=by
  rw[mC];intro c hc;obtain⟨k,m,rfl⟩:=agP hc;have e:s.getD k 0=s[k]:=by simp[adY,aeF m]
  rw[<-e];exact n k E
 refine bK W W<|ar.of_eq<|congrArg SV.u ?_;unfold Jy;rw[d,afa];exact decide_not
def Kf(s:hO)(hl:s.length<2^60):aM Tryz.prog 225 [.s s] (.u<|fY s):=by
 refine bS Tryz.func225 W<|bP W W (UC s hl) W<|r0 W<|iN 5 W ?_ ?_<;>intro h
 ·have h:Jy s=true:=h;unfold Jy at h;simp[adD,af9,decide_eq_false_iff_not]at h;have a:=agy.2 h.2;refine bJ W 8 W ?_ ?_<;>intro g
  ·have g:s=[48]:=g;subst g;refine bK W W (show true=fY [48]from fh)
  have g:¬s=[48]:=g;refine r1 W a7<|aE W<|ar.of_eq<|congrArg SV.u ?_;unfold fY;rw[if_neg E,h.1];by_cases k:(s.getD 0 0).toNat=48
  ·have b:1<s.length:=by
    match s,a with
    |[c],_=>exact absurd (congrArg (λx=>[x])<|ahg.1<|show c.toNat=(48:UInt8).toNat by simpa using k) g
    |_::_::_,_=>simp
   rw[if_pos ⟨b,k⟩];exact decide_eq_false λhh=>hh (by show((s.getD (Int.toNat 0) 0).toNat:Int)=48;have:Int.toNat 0=0:=W;rw[this];omega)
  rw[if_neg λhh=>k hh.2];exact decide_eq_true λhh=>k (by have hh:((s.getD (Int.toNat 0) 0).toNat:Int)=48:=hh;have:Int.toNat 0=0:=W;rw[this]at hh;omega)
 have h:Jy s=false:=h;refine bK W W ?_;unfold Jy at h;unfold fY;rw[Bool.and_eq_false_iff]at h;rcases h with h|h
 ·rw[h];split;rfl;split<;>rfl
 simp[Bool.not_eq_false',decide_eq_true_eq]at h;subst h;rfl
def U9(s:hO)(hs:dh s)(j:0<s.length)(hl:s.length<=18):aM Tryz.prog 293 [.s s] (.bW [.i<|cJ s,.c .nilIface]):=by
 refine bS Tryz.func293 W<|bJ W 25 W (λ_=>?_) λh=>absurd (show(0:Int)<s.length from E) h;refine bQ W W (λ_=>?_) λh=>absurd (show(s.length:Int)<19 from E) h;have Cc:48<=(s.getD 0 0).toNat/\(s.getD 0 0).toNat<=57:=by
  have hm:s.getD 0 0∈s:=by simp[adY,aeF j]
  exact hs _ hm
 have g:(0:Int).toNat=0:=W;refine r1 W a7<|aC 35 W (λh=>absurd h<|by rw[g];omega) λ_=>?_;refine r1 W a7<|gb W (λh=>absurd h<|by rw[g];omega) λ_=>?_;refine r0 W<|ex W W W (LH s W W W W) W<|r0 W ?_;have b:(s.map λc=>(c.toNat:Int)).length=s.length:=I;refine loop (λi:Nat=>[(5,.s s),(6,.i<|cJ<|s.take i),(47,.ints .u8 false<|s.map λc=>(c.toNat:Int)),(48,.i s.length),(49,.i i)]) (λi=>i<=s.length) (λi=>s.length-i) 0 E ⟨G,G,G,⟨W,ar.of_eq<|congrArg SV.i<|by rw[b]⟩,G,U⟩ ?_;intro i hi;refine bQ W W ?_ ?_<;>intro h
 ·have a:i<s.length:=E;have d:(i:Int).toNat=i:=E;have hc:(s.map λc=>(c.toNat:Int)).getD i 0=(s[i].toNat:Int):=by rw[au E];simp
  have m:=hs s[i]<|adC a;have k:=l0 (s:=s.take i) λc hc=>hs c<|agA hc;have l:10^(s.take i).length<=10^17:=ae2 fh (by simp;omega);refine r1 W (by simp[bo,and_true,d,hc,b];omega) ?_;have f:IntKind.u8.wrap ((s[i].toNat:Int)-48)=(s[i].toNat:Int)-48:=by have e:IntKind.u8.wrap ((s[i].toNat:Int)-48)=((s[i].toNat:Int)-48)%256:=W;rw[e];omega
  refine gb W (λh=>absurd h<|by rw[d,hc,f];omega) λ_=>?_;refine r1 W (by simp only[bo,and_true,d,hc,f];omega) ?_;refine again (i+1) E E ⟨G,⟨W,bR ?_⟩,G,G,G,U⟩;rw[d,hc,f,aey a,tc];omega
 have:i=s.length:=E;subst this;refine r1 W a7<|gb W (λh=>absurd h<|by rw[g];omega) λ_=>?_;refine bK W W ⟨bR ?_,W,U⟩;rw[adM<|adp _]
def Sq(s:hO)(hs:dh s)(a:0<s.length)(hl:s.length<=18):aM Tryz.prog 254 [.s s] (.bW [.i<|cJ s,.c .nilIface]):=by refine bS Tryz.func254 W<|bP W W (U9 s hs a hl) W<|r0 W<|ex W W W (T4 W W) W<|bN W W
section
variable{a:Nm}{s t:hO}
def AP{L:Nat}(h:(nv a).natAbs<10^L):fV a L:=by
 unfold fV;rcases afd (nv a).natAbs with b|b
 ·rw[b,eE.dm];simp
 have e:=Nc b;have d:(10:Nat)^L<=18446744073709551616^L:=agW fh L;have c:=af2 e<|ae3 h d;have f:=(Nat.pow_lt_pow_iff_right fh).1 c;omega
def Yq{R:Option Nat->Prop}{N:Nat}{F:St->Prop}{k:List It}{l:aU}{c:Code}(l':List (Nat×SV))(b:ur l l')(h:AK R Tryz.prog N F (.code c::k) (sl l')):AK R Tryz.prog N F (.code c::k) l:=yE b h
def Q0(a b:Nat):abP true (a:Int) (b:Int)=((min a b:Nat):Int):=by simp[abP];omega
def rdStep(t:hO)(a:Nm):Nm:=xh (jy a<|xI ⟨10,none⟩<|min 18 t.length) ⟨cJ<|t.take 18,none⟩
def Bu:Nat->hO->Nm->Nm
 |0,_,a=>a
 |k+1,t,a=>if t.length=0 then a else Bu k (t.drop 18) (rdStep t a)
def kb(s:hO):Nm:=if isNeg s then jc (Bu (bz s).length (bz s) ⟨0,none⟩)else Bu (bz s).length (bz s) ⟨0,none⟩
def Kh:bj ⟨10,none⟩:=show(-9223372036854775808:Int)<=10/\(10:Int)<=9223372036854775807 from fh
def L9:bj ⟨0,none⟩:=show(-9223372036854775808:Int)<=0/\(0:Int)<=9223372036854775807 from fh
def HH{n:Nat}(h:n<10^18):bj ⟨n,none⟩:=show(-9223372036854775808:Int)<=n/\(n:Int)<=9223372036854775807 from E
def xu(h:dh t):cJ (t.take 18)<10^18:=by have b:=l0 (s:=t.take 18) λc hc=>h c<|agA hc;exact ae3 b<|ae2 fh<|by simp;omega
def zn(h:dh t)(g:bj a):nv (rdStep t a)=nv a*10^min 18 t.length+cJ (t.take 18)/\bj (rdStep t a):=by obtain⟨e,d⟩:=pr ⟨10,none⟩ (min 18 t.length) Kh;obtain⟨m1,f⟩:=cP a (xI ⟨10,none⟩<|min 18 t.length) g d;obtain⟨c,b⟩:=kv _ ⟨cJ<|t.take 18,none⟩ f<|HH<|xu h;refine⟨?_,b⟩;unfold rdStep;rw[c,m1,e];rfl
def Ae(h:dh t)(n:Nat):dh (t.drop n):=λc hc=>h c<|agd hc
def Ef:∀(k:Nat)(t:hO)(a:Nm),dh t->t.length<=k->bj a->nv (Bu k t a)=nv a*10^t.length+cJ t/\bj (Bu k t a)
 |0,t,a,h,c,b=>by have:t=[]:=aiy E;subst this;refine⟨?_,b⟩;show nv a=nv a*10^0+((cJ []:Nat):Int);have:cJ []=0:=W;rw[this];simp
 |k+1,t,a,h,c,b=>by
  rw[Bu];split
  ·rename_i d;have:=aiy d;subst this;refine⟨?_,b⟩;have:cJ []=0:=W;rw[this];simp
  obtain⟨f,e⟩:=zn h b;obtain⟨g1,g2⟩:=Ef k (t.drop 18) (rdStep t a) (Ae h 18) (by simp;omega) e;have hs:=sd (t.take 18)<|t.drop 18;rw[agE]at hs;rw[hs];have hl:min 18 t.length+(t.drop 18).length=t.length:=by simp;omega
  grind
def nK(h:dh (bz s)):nv (kb s)=B5 s/\bj (kb s):=by
 obtain⟨b,c⟩:=Ef (bz s).length (bz s) ⟨0,none⟩ h .refl L9;have b:nv (Bu (bz s).length (bz s) ⟨0,none⟩)=cJ (bz s):=by rw[b];show(0:Int)*_+_=_;rw[Int.zero_mul,Int.zero_add]
 unfold kb B5;by_cases g:isNeg s=true
 ·rw[if_pos g,g];obtain⟨n1,d⟩:=dR _ c;exact⟨by rw[n1,b];rfl,d⟩
 have g:isNeg s=false:=by simpa using g
 rw[g];exact⟨b,c⟩
def vN(h:dh (bz s)):fV (kb s) (bz s).length:=by
 refine AP ?_;rw[(nK h).1];have:=l0 h;unfold B5;cases isNeg s
 ·show((cJ (bz s):Nat):Int).natAbs<_;simpa using this
 show(-((cJ (bz s):Nat):Int)).natAbs<_;simpa using this
def Bt(s:hO)(h:dh (bz s))(hl:s.length<2^20):aM Tryz.prog 172 [.s s] (eN<|kb s):=by
 have H:=xa s;refine bS Tryz.func172 W<|bP W W (WY s E) W<|bP W W (Ta s E) W<|r0 W<|Yq [(0,.s<|bz s),(2,.box true<|.agg [.i 0,.nil]),(3,.u<|isNeg s),(4,.box true<|eN ⟨0,none⟩)] ⟨.inl ⟨W,W,uq.of_le<|sS.refl _⟩,.inl ⟨W,W,uq.of_le<|sS.refl _⟩,.inl ⟨W,W,uq.of_le<|sS.refl _⟩,.inl ⟨W,W,uq.of_le<|sS.refl _⟩,U⟩<|kR (λ(t:hO)(a:Nm)=>[(0,.s t),(2,.box true<|.agg [.i 0,.nil]),(3,.u<|isNeg s),(4,.box true<|eN a)])
  (λt a=>dh t/\bj a/\(∃m,Bu m t a=Bu (bz s).length (bz s) ⟨0,none⟩/\t.length<=m)/\t.length<=(bz s).length/\nv a*10^t.length+cJ t=cJ (bz s)/\0<=nv a) (λt _=>t.length) (bz s) ⟨0,none⟩ ?_ ?_ ?_
 ·exact⟨h,L9,⟨_,W,adp _⟩,adp _,by show(0:Int)*_+_=_;rw[Int.zero_mul,Int.zero_add],aff 0⟩
 ·exact⟨G,G,G,G,U⟩
 rintro t a⟨l,j,⟨m,i,u⟩,N,J,x⟩;have r:fV a (bz s).length:=by
  refine AP ?_;have C:=l0 h;have F:(1:Int)<=10^t.length:=by have:0<10^t.length:=afe (show 0<10 from fh);exact_mod_cast this
  have hm:nv a<=nv a*10^t.length:=by have:=afg F x;rwa[ahe]at this
  have hc:(cJ (bz s):Int)<((10^(bz s).length:Nat):Int):=by exact_mod_cast C
  generalize (10^(bz s).length:Nat)=X at hc⊢;omega
 refine bQ W W ?_ ?_<;>intro g
 ·have g:0<t.length:=E;have em:((min 18 t.length:Nat):Int)=min 18 (t.length:Int):=E;have K:t.take (min 18 t.length)=t.take 18:=by
   rcases Nat.le_total 18 t.length with k|k
   ·rw[af3 k]
   rw[Nat.min_eq_right k,adM<|adp _,adM k]
  have b:=Q0 18 t.length;have y:(((min 18 t.length:Nat):Int)).toNat=min 18 t.length:=E;refine r1 W ?_ ?_
  ·have b:abP true 18 (t.length:Int)=((min 18 t.length:Nat):Int):=b;simp[bo,and_true,b];omega
  have M:List.drop 0 (List.take (abP true 18 (t.length:Int)).toNat t)=t.take 18:=by have b:abP true 18 (t.length:Int)=((min 18 t.length:Nat):Int):=b;rw[b,y,K,afG]
  refine JJ (us:=[.s<|t.take 18]) W W U ⟨congrArg SV.s M,U⟩ (Sq (t.take 18) (λc hc=>l c<|agA hc) (by simp;omega)<|by simp;omega) W ?_;refine bO W W (Ii 10) W<|r0 W ?_;have f:fV ⟨10,none⟩ 1:=iJ (m:=10) fh;obtain⟨A,n⟩:=pr ⟨10,none⟩ (min 18 t.length) Kh;refine VP (us:=[eN ⟨10,none⟩,.i ((min 18 t.length:Nat):Int)]) W W U ⟨ar.refl _,congrArg SV.i b,U⟩ (QC ⟨10,none⟩ (min 18 t.length) Kh f E E) W<|r0 W ?_;have e:fV (xI ⟨10,none⟩<|min 18 t.length) 19:=by refine AP ?_;rw[A];have:nv ⟨10,none⟩=10:=W;rw[this,Int.natAbs_pow];exact Nat.pow_lt_pow_right fh E
  refine bH W (qY a _ j n r e E) W<|bO W W (Ii _) W<|r0 W ?_;obtain⟨m1,B⟩:=cP a _ j n;have p:=gp j n r e;have o:fV ⟨cJ<|t.take 18,none⟩ 18:=AP (by show((cJ (t.take 18):Nat):Int).natAbs<_;have:=xu l;omega);refine bH W (NA _ _ B (HH<|xu l) p (dF o E) E) W ?_;obtain⟨w,z⟩:=zn l j;have v:(abP true 18 (t.length:Int)).toNat=min 18 t.length:=by have b:abP true 18 (t.length:Int)=((min 18 t.length:Nat):Int):=b;rw[b,y]
  have L:(t.take t.length).drop (abP true 18 (t.length:Int)).toNat=t.drop 18:=by
   rw[adM<|adp _,v];rcases Nat.le_total 18 t.length with k|k
   ·rw[af3 k]
   rw[Nat.min_eq_right k,afo<|adp _,afo k]
  refine k1 W aW ?_ ?_
  ·have b:abP true 18 (t.length:Int)=((min 18 t.length:Nat):Int):=b;simp[bo,and_true,b];omega
  refine again (t.drop 18,rdStep t a) (by dsimp only;rw[aio];omega) ⟨Ae l 18,z,?_,by dsimp only;rw[aio];omega,?_,?_⟩ ⟨⟨W,ar.of_eq<|congrArg SV.s L⟩,G,G,G,U⟩
  ·match m,i,u with
   |0,_,u=>omega
   |m+1,i,u=>refine⟨m,?_,by dsimp only;rw[aio];omega⟩;rw[Bu,if_neg E]at i;exact i
  ·dsimp only;rw[w,<-J];have hs:=sd (t.take 18)<|t.drop 18;rw[agE]at hs;rw[hs];have q:min 18 t.length+(t.drop 18).length=t.length:=by simp;omega
   have:(10:Int)^t.length=10^min 18 t.length*10^(t.drop 18).length:=by rw[<-af1,q]
   rw[this]
   push_cast
   grind
  dsimp only;rw[w];have:(0:Int)<=nv a*10^min 18 t.length:=afs x<|afh<|Int.pow_pos fh;omega
 have D:t=[]:=aiy E;subst D;have d:a=Bu (bz s).length (bz s) ⟨0,none⟩:=by rw[<-i];cases m<;>rfl
 refine r0 W<|ni W W W ?_ ?_<;>intro g2
 ·refine bP W W (Er a j r E) W<|bK W W<|ar.of_eq ?_;unfold kb;rw[if_pos g2,<-d];rfl
 refine bK W W<|ar.of_eq ?_;unfold kb;rw[if_neg<|by rw[g2];simp,<-d];rfl
end
def tp(l:List Int)(hl:l.length<2^60):aM Tryz.prog 181 [.ints .i64 false l] (.i<|aK id l):=by
 refine bS Tryz.func181 W<|r0 W<|ra (λi:Nat=>[(5,.ints .i64 false l),(6,.i l.length),(7,.i i)]) (λi=>i<=l.length/\aK id l=aK id (l.drop i)) (λi=>l.length-i) 0 ⟨adk _,W⟩ ?_;rintro i⟨hi,b⟩;refine bQ W W ?_ ?_<;>intro h
 ·have a:i<l.length:=E;have c:(i:Int).toNat=i:=E;rw[dA _ a]at b;refine r1 W (by simp[bo,c];omega) ?_;refine gb W ?_ ?_<;>intro d
  ·rw[c,au a]at d;refine bK W W<|bR ?_;rw[c,au a,b];simp_all
  rw[c,au a]at d;refine r1 W (by simp[bo];omega) ?_;refine gS (i+1) ⟨E,?_⟩;rw[b];simp_all
 refine bK W W<|bR ?_;rw[b,afo E];rfl
def nA(b:Bool)(e:Int):aM Tryz.prog 182 [.u b,.i e] (.i<|if b then e else 0):=by
 refine bS Tryz.func182 W<|r0 W<|ni W W W ?_ ?_<;>intro h
 ·refine bK W W<|bR ?_;rw[h];rfl
 refine bK W W<|bR ?_;rw[h];rfl
def lH(n k:Int):Bool:=decide (0<=k/\k<n)
def xY(p:gV)(k:Int):aM Tryz.prog 185 [bh p,.i k] (.u<|lH p.n k):=by
 refine bS Tryz.func185 W<|bJ W 7 W ?_ ?_<;>intro h
 ·refine bK W W<|ar.of_eq<|congrArg SV.u ?_;unfold lH;simp_all
 refine bK W W (show false=lH p.n k from(decide_eq_false λg=>h g.1).symm)
def UG(p:gV)(h:rA p):aM Tryz.prog 186 [bh p] (.i<|dq p.aa):=by
 have hl:=h.aa;refine bS Tryz.func186 W<|r0 W<|ra (λi:Nat=>[(3,.i<|(p.aa.take i).countP λu=>decide (u.kind=bq)),(7,.bA false 5 default dQ p.aa),(8,.i p.aa.length),(9,.i i)]) (λi=>i<=p.aa.length) (λi=>p.aa.length-i) 0 (adk _) ?_;intro i hi;have hc:((p.aa.take i).countP λu=>decide (u.kind=bq))<=i:=ad0 agG (by simp;omega);refine bQ W W ?_ ?_<;>intro e
 ·have b:i<p.aa.length:=E;have c:(i:Int).toNat=i:=E;have d:p.aa.getD i default=p.aa[i]:=au b;have hs:((p.aa.take<|i+1).countP λu=>decide (u.kind=bq))=((p.aa.take i).countP λu=>decide (u.kind=bq))+(if p.aa[i].kind=bq then 1 else 0):=by
   rw[aey b,agZ,aih];by_cases g:p.aa[i].kind=bq<;>simp[g]
  refine r1 W (by simp[bo,and_true,c];omega) ?_;refine gb W ?_ ?_<;>intro a
  ·rw[c,d]at a;have a:p.aa[i].kind=bq:=a;rw[if_pos a]at hs;refine r1 W (by simp[bo,and_true];omega) ?_;refine again (i+1) E E ⟨⟨W,bR ?_⟩,G,G,G,U⟩;rw[hs];rfl
  rw[c,d]at a;have a:¬p.aa[i].kind=bq:=a;rw[if_neg a]at hs;refine r1 W (by simp[bo,and_true];omega) ?_;refine again (i+1) E E ⟨⟨W,bR ?_⟩,G,G,G,U⟩;rw[hs];rfl
 refine bK W W<|bR ?_;unfold dq;rw[adM E]
def NM(p:gV)(k:Int):aM Tryz.prog 184 [.i k,.box false<|bh p] (.u<|!lH p.n k):=by refine bS Tryz.func184 W<|bP W W (xY p k) W<|bN W W
def rf{α:Type}(f:α->Bool):List α->Int->Int
 |[],_=> -1
 |x::l,i=>if f x then i else rf f l (i+1)
def Cm{α:Type}(f:α->Bool){l:List α}{i:Nat}(h:i<l.length):rf f (l.drop i) i=if f l[i]then(i:Int)else rf f (l.drop<|i+1) ((i+1:Nat):Int):=by rw[aeE h];rfl
def qK{α:Type}(f:α->Bool):∀(l:List α)(i:Int),0<=i->(0<=rf f l i↔∃x∈l,f x=true)
 |[],i,_=>by simp[rf]
 |x::l,i,hi=>by
  unfold rf;by_cases h:f x=true
  ·rw[if_pos h];simp[h,hi]
  rw[if_neg h,qK f l (i+1) E];simp[h]
def Rm(p:gV)(l:List Int)(hl:l.length<2^60):aM Tryz.prog 148 [.ints .i64 false l,.fn (.func 184) [] [.box false<|bh p]] (.i<|rf (λk=> !lH p.n k) l 0):=by
 refine bS Tryz.func148 W<|r0 W<|ra (λi:Nat=>[(0,.ints .i64 false l),(1,.fn (.func 184) [] [.box false<|bh p]),(7,.i l.length),(8,.i i)]) (λi=>i<=l.length/\rf (λk=> !lH p.n k) l 0=rf (λk=> !lH p.n k) (l.drop i) i) (λi=>l.length-i) 0 ⟨adk _,W⟩ ?_;rintro i⟨hi,b⟩;refine bQ W W ?_ ?_<;>intro h
 ·have a:i<l.length:=E;have d:(i:Int).toNat=i:=E;rw[Cm _ a]at b;refine r1 W (by simp[bo,d];omega) ?_;refine bG W (NM p _) W ?_;rw[d,au a];refine ni W W W ?_ ?_<;>intro c
  ·refine bK W W<|bR ?_;rw[b,if_pos c]
  refine r1 W (by simp[bo,and_true];omega) ?_;refine gS (i+1) ⟨E,?_⟩;rw[b,if_neg<|by rw[c];simp]
 refine bK W W<|bR ?_;rw[b,afo E];rfl
def JH(p:gV)(l:List Int)(hl:l.length<2^60):aM Tryz.prog 73 [.ints .i64 false l,.fn (.func 184) [] [.box false<|bh p]] (.u<|decide (∃k∈l,k<0\/p.n<=k)):=by refine bS Tryz.func73 W<|bP W W (Rm p l hl) W<|bK W W<|ar.of_eq<|congrArg SV.u ?_;rw[decide_eq_decide,qK _ _ _<|aff 0];refine exists_congr λk=>and_congr Iff.rfl ?_;unfold lH;simp only[af9,decide_eq_false_iff_not];omega
def Rl(l:List Int)(v:Int)(hl:l.length<2^60):aM Tryz.prog 299 [.ints .i64 false l,.i v] (.i<|rf (λk=>decide (v=k)) l 0):=by
 refine bS Tryz.func299 W<|r0 W<|ra (λi:Nat=>[(0,.ints .i64 false l),(1,.i v),(7,.i l.length),(8,.i i)]) (λi=>i<=l.length/\rf (λk=>decide (v=k)) l 0=rf (λk=>decide (v=k)) (l.drop i) i) (λi=>l.length-i) 0 ⟨adk _,W⟩ ?_;rintro i⟨hi,c⟩;refine bQ W W ?_ ?_<;>intro h
 ·have a:i<l.length:=E;have d:(i:Int).toNat=i:=E;rw[Cm _ a]at c;refine r1 W (by simp[bo,d];omega) ?_;refine gb W ?_ ?_<;>intro b
  ·rw[d,au a]at b;refine bK W W<|bR ?_;rw[c,if_pos<|decide_eq_true b]
  rw[d,au a]at b;refine r1 W (by simp[bo,and_true];omega) ?_;refine gS (i+1) ⟨E,?_⟩;rw[c,if_neg<|by simpa using b]
 refine bK W W<|bR ?_;rw[c,afo E];rfl
def LI(l:List Int)(v:Int)(hl:l.length<2^60):aM Tryz.prog 258 [.ints .i64 false l,.i v] (.u<|decide (v∈l)):=by refine bS Tryz.func258 W<|bP W W (Rl l v hl) W<|bK W W<|ar.of_eq<|congrArg SV.u ?_;rw[decide_eq_decide,qK _ _ _<|aff 0];simp
def Oz(s:hO):isNeg (s.take<|aw s)=isNeg s/\bz (s.take<|aw s)=(bz s).take (aw<|bz s)/\s.drop (aw s+1)=(bz s).drop (aw (bz s)+1)/\(aw s<s.length↔aw (bz s)<(bz s).length)/\aw s=(if isNeg s then 1 else 0)+aw (bz s)/\s.length=(if isNeg s then 1 else 0)+(bz s).length:=by
 by_cases h:isNeg s=true
 ·have hs:=Fk s;rw[if_pos h]at hs;generalize bz s=b at hs⊢;subst hs;have e:aw ([45]++b)=aw b+1:=by simp[aw]
  rw[e,if_pos h];refine⟨?_,?_,?_,?_,?_,?_⟩
  ·rw[h];simp[isNeg]
  ·have hn:isNeg (([45]++b).take<|aw b+1)=true:=by simp[isNeg]
   unfold bz;rw[if_pos hn];simp
  ·simp
  ·simp
  ·omega
  simp;omega
 have c:bz s=s:=by unfold bz;rw[if_neg h]
 have a:isNeg s=false:=by simpa using h
 rw[c,if_neg h];have hn:isNeg (s.take<|aw s)=false:=by
  unfold isNeg at a⊢;simp only[decide_eq_false_iff_not]at a⊢;rintro⟨d,f⟩;have hl:0<aw s/\0<s.length:=by simp at d;omega
  have e:(s.take<|aw s).getD 0 0=s.getD 0 0:=by rw[adY,adY,ahW,if_pos hl.1]
  simp_all
 refine⟨by rw[hn,a],?_,W,Iff.rfl,E,E⟩;unfold bz;rw[hn];rfl
def gcd_one{a:Nm}(h:bj a):(ws a=[]/\a.s=1)↔nv a=1:=by
 rw[uw h];obtain⟨s,w⟩:=a;cases w with
 |none=>simp[nv]
 |some m=>
  obtain⟨b,c⟩:=h;simp[nv];rcases b with b|b
  ·have b:=b;subst b;omega
  have b:=b;subst b;omega
def wW(s:hO)(hl:s.length<2^45):aM Tryz.prog 139 [.s s] (.i<|aL s):=by
 obtain⟨P,O,N,M,p5,p6⟩:=Oz s;have Q:=pf<|bz s;refine bS Tryz.func139 W<|bP W W (VN s E) W<|bP W W (Xe (s.take<|aw s)<|by simp;omega) W ?_;refine rn 6 W ?_;rw[P,O,N,show decide (aw s<s.length)=decide (aw (bz s)<(bz s).length)from decide_eq_decide.2 M];obtain⟨Z,x⟩:∃Z,Z=(bz s).take (aw<|bz s):=⟨_,W⟩;obtain⟨D,z⟩:∃D,D=(bz s).drop (aw (bz s)+1):=⟨_,W⟩;have S:Z.length=aw (bz s):=by rw[x,afm];omega
 have V:D.length=(bz s).length-(aw (bz s)+1):=by rw[z,aio]
 have R:=xa s;have y:iw s=(fY Z&& !(isNeg s&&decide (Z=[48]))):=by rw[x];rfl
 have q:jB s=(!decide (aw (bz s)<(bz s).length)||(fY D&& !decide (D=[48])&& !decide (D=[49]))):=by rw[z];rfl
 have H:oY s=(!decide (aw (bz s)<(bz s).length)||decide (Nat.gcd (cJ Z) (cJ D)=1)):=by rw[x,z];rfl
 rw[<-x,<-z];obtain⟨fr,F⟩:∃fr,fr=decide (aw (bz s)<(bz s).length):=⟨_,W⟩;have T:aL s=if iw s then(if jB s then(if 600<Z.length\/600<D.length then 4 else if oY s then 0 else 1)else 1)else 1:=by unfold aL;have:(600<aw (bz s)\/aw (bz s)+601<(bz s).length)↔(600<Z.length\/600<D.length):=E;simp only[this]
 rw[<-F]at q H⊢;rw[T];refine cx 1 [(4,.s D),(5,.u fr),(6,.s Z)] (iw s=true/\jB s=true) ?_ ?_
 ·have one:¬(iw s=true/\jB s=true)->(1:Int)=if iw s then(if jB s then(if 600<Z.length\/600<D.length then 4 else if oY s then 0 else 1)else 1)else 1:=by
   intro hn;by_cases a:iw s=true
   ·rw[if_pos a,if_neg λb=>hn ⟨a,b⟩]
   rw[if_neg a]
  refine bP W W (Kf Z E) W<|r0 W<|iN 24 W ?_ ?_<;>intro h
  ·have h:fY Z=false:=by simpa using h
   refine bK W W<|ar.of_eq<|congrArg SV.i<|one λ⟨a,_⟩=>by rw[y,h]at a;simp at a
  have h:fY Z=true:=by simpa using h
  refine r0 W<|iN 26 W ?_ ?_<;>intro g
  ·have t:iw s= !decide (Z=[48]):=by rw[y,h,g];simp
   refine bJ W 31 W ?_ ?_<;>intro g2
   ·have g2:Z=[48]:=g2;refine bK W W<|ar.of_eq<|congrArg SV.i<|one λ⟨a,_⟩=>by rw[t,g2]at a;simp at a
   have g2:¬Z=[48]:=g2;have m:iw s=true:=by rw[t];simp[g2]
   refine r0 W<|iN 33 W ?_ ?_<;>intro j
   ·have c:jB s=(fY D&& !decide (D=[48])&& !decide (D=[49])):=by rw[q,j];simp
    refine bP W W (Kf D E) W<|r0 W<|iN 37 W ?_ ?_<;>intro f
    ·have f:fY D=false:=by simpa using f
     refine bK W W<|ar.of_eq<|congrArg SV.i<|one λ⟨_,a⟩=>by rw[c,f]at a;simp at a
    have f:fY D=true:=by simpa using f
    refine bJ W 41 W ?_ ?_<;>intro e
    ·have e:D=[48]:=e;refine bK W W<|ar.of_eq<|congrArg SV.i<|one λ⟨_,a⟩=>by rw[c,e]at a;simp at a
    have e:¬D=[48]:=e;refine bQ W W ?_ ?_<;>intro d
    ·have d:D=[49]:=d;refine bK W W<|ar.of_eq<|congrArg SV.i<|one λ⟨_,a⟩=>by rw[c,d]at a;simp at a
    have d:¬D=[49]:=d;refine r0 W<|gm ⟨m,by rw[c,f];simp[e,d]⟩
   refine r0 W<|gm ⟨m,by rw[q,j];rfl⟩
  have m:iw s=true:=by rw[y,h,g];simp
  refine r0 W<|iN 33 W ?_ ?_<;>intro j
  ·have c:jB s=(fY D&& !decide (D=[48])&& !decide (D=[49])):=by rw[q,j];simp
   refine bP W W (Kf D E) W<|r0 W<|iN 37 W ?_ ?_<;>intro f
   ·have f:fY D=false:=by simpa using f
    refine bK W W<|ar.of_eq<|congrArg SV.i<|one λ⟨_,a⟩=>by rw[c,f]at a;simp at a
   have f:fY D=true:=by simpa using f
   refine bJ W 41 W ?_ ?_<;>intro e
   ·have e:D=[48]:=e;refine bK W W<|ar.of_eq<|congrArg SV.i<|one λ⟨_,a⟩=>by rw[c,e]at a;simp at a
   have e:¬D=[48]:=e;refine bQ W W ?_ ?_<;>intro d
   ·have d:D=[49]:=d;refine bK W W<|ar.of_eq<|congrArg SV.i<|one λ⟨_,a⟩=>by rw[c,d]at a;simp at a
   have d:¬D=[49]:=d;refine r0 W<|gm ⟨m,by rw[c,f];simp[e,d]⟩
  refine r0 W<|gm ⟨m,by rw[q,j];rfl⟩
 rintro⟨C,w⟩;rw[if_pos C,if_pos w];have l:dh Z:=by rw[y,adD]at C;exact(ny C.1).1
 refine bJ W 50 W ?_ ?_<;>intro g
 ·have g:600<Z.length:=E;refine bK W W<|bR ?_;rw[if_pos<|.inl g]
 have g:¬600<Z.length:=E;refine bQ W W ?_ ?_<;>intro g2
 ·have g2:600<D.length:=E;refine bK W W<|bR ?_;rw[if_pos<|.inr g2]
 have g2:¬600<D.length:=E;rw[if_neg λh=>h.elim g g2];refine r0 W<|ni W W W ?_ ?_<;>intro j
 ·have n:dh D:=by
   rw[q,j]at w;simp only[aid,ahx,adD]at w;exact(ny w.1.1).1
  have A:=xb l;have B:=xb n;obtain⟨L,J⟩:=nK (s:=Z) (by rw[A];exact l);obtain⟨X,K⟩:=nK (s:=D) (by rw[B];exact n);have r:=vN (s:=Z) (by rw[A];exact l);have v:=vN (s:=D) (by rw[B];exact n);rw[A]at r;rw[B]at v;have r:=dF r (show Z.length<=600 from E);have v:=dF v (show D.length<=600 from E);obtain⟨c1,Y,c3⟩:=ya _ _ J K r v;refine bP W W (Bt Z (by rw[A];exact l) E) W ?_;refine bP W W (Bt D (by rw[B];exact n) E) W ?_;refine bP W W (VD _ _ J K r v E) W<|bP W W (Tk _) W ?_;have k:=gcd_one Y;have o:oY s=true↔nv (oo (kb Z)<|kb D)=1:=by rw[H,j,c1,L,X,wo l,wo n];simp only[aid,ahx,decide_eq_true_eq];show _↔((Int.gcd ((cJ Z:Nat):Int) ((cJ D:Nat):Int):Nat):Int)=1;rw[Int.gcd_natCast_natCast];omega
  refine r0 W<|iN 67 W ?_ ?_<;>intro p
  ·have p:¬ws (oo (kb Z)<|kb D)=[]:=by simpa using p
   refine bK W W<|bR ?_;rw[if_neg λhh=>p (k.2<|o.1 hh).1]
  have p:ws (oo (kb Z)<|kb D)=[]:=by simpa using p
  refine bQ W W ?_ ?_<;>intro u
  ·refine bK W W<|bR ?_;rw[if_neg λhh=>u (k.2<|o.1 hh).2]
  have u:(oo (kb Z)<|kb D).s=1:=afI.1 u;refine bK W W<|bR ?_;rw[if_pos<|o.2<|k.1 ⟨p,u⟩]
 refine bK W W<|bR ?_;rw[H,j];rfl
def jN(z:Int):bz (cK z)=decl z.natAbs 1:=by
 have:=Nu z 1;have e:uI z 1=cK z:=by unfold uI fk;simp
 rw[e]at this;rw[this];simp[fk]
def nV(z:Int):isNeg (cK z)=decide (z<0):=by
 have:=xZ z 1;have e:uI z 1=cK z:=by unfold uI fk;simp
 rwa[e]at this
def Lc(z:Int):B5 (cK z)=z:=by
 unfold B5;rw[jN,nV,ke];by_cases h:z<0
 ·rw[decide_eq_true h];show -((z.natAbs:Nat):Int)=z;omega
 rw[decide_eq_false h];show((z.natAbs:Nat):Int)=z;omega
def aac(q:Rat):Fr:=⟨kb<|cK q.num,if q.den=1 then⟨1,none⟩else kb (decl q.den 1)⟩
def xc(n:Nat):bz (decl n 1)=decl n 1:=xb<|cM n 1
def dP(q:Rat):gW (aac q) q:=by
 obtain⟨b,d⟩:=nK (s:=cK q.num) (by rw[jN];exact cM _ 1);obtain⟨a,c⟩:=nK (s:=decl q.den 1) (by rw[xc];exact cM _ 1);rw[Lc]at b;rw[wo<|cM _ 1,ke]at a;refine⟨d,?_,b,?_⟩
 ·show bj (if q.den=1 then(⟨1,none⟩:Nm)else kb (decl q.den 1));split
  ·exact Ga
  exact c
 show nv (if q.den=1 then(⟨1,none⟩:Nm)else kb (decl q.den 1))=q.den;split
 ·rename_i h;rw[h];rfl
 exact a
def RA{q:Rat}{n:Nat}(h:Dc q n)(hn:1<=n):ri (aac q) n:=by
 have a:=vN (s:=cK q.num) (by rw[jN];exact cM _ 1);have b:=vN (s:=decl q.den 1) (by rw[xc];exact cM _ 1);rw[jN]at a;rw[xc]at b;refine⟨dF a h.1,?_⟩;show fV (if q.den=1 then(⟨1,none⟩:Nm)else kb (decl q.den 1)) n;split
 ·exact dF (iJ (m:=1) fh) hn
 exact dF b h.2
def W5(q:Rat){n:Nat}(c:Dc q n)(hn:n<2^19):aM Tryz.prog 97 [.s<|qt q] (eF<|aac q):=by
 have j:(cK q.num).length<=n+1:=by
  have:=jN q.num;have d:(cK q.num).length<=(bz<|cK q.num).length+1:=by unfold bz;split<;>simp<;>omega
  rw[this]at d;have:=c.1;omega
 have i:=c.2;have b:(qt q).length<=2*n+2:=by
  unfold qt uI fk;split
  ·simp;omega
  simp;omega
 have hs:aw (qt q)=(cK q.num).length:=lE _ _;refine bS Tryz.func97 W<|bP W W (VN (qt q) E) W ?_;have e:(qt q).take (aw<|qt q)=cK q.num:=by rw[hs];exact rI _ _
 rw[e];refine r0 W<|ni W W W ?_ ?_<;>intro h
 ·have a:q.den=1:=by
   by_cases g:q.den=1
   ·exact g
   exfalso;have h:¬aw (qt q)<(qt q).length:=by simpa using h
   apply h;rw[hs];unfold qt uI;rw[nF g];simp
  refine bP W W (Bt (cK q.num) (by rw[jN];exact cM _ 1) E) W ?_;refine bP W W (eE.Fs _) W<|bK W W<|ar.of_eq ?_;unfold aac;rw[if_pos a];rfl
 have a:q.den≠1:=by
  intro g;have h:aw (qt q)<(qt q).length:=by simpa using h
  rw[hs]at h;unfold qt uI fk at h;rw[if_pos g]at h;simp at h
 have f:(qt q).drop (aw (qt q)+1)=decl q.den 1:=by rw[hs];exact sG _ _ a
 rw[f];refine bP W W (Bt (cK q.num) (by rw[jN];exact cM _ 1) E) W ?_;refine bP W W (Bt (decl q.den 1) (by rw[xc];exact cM _ 1) E) W ?_;refine bK W W<|ar.of_eq ?_;unfold aac;rw[if_neg a];rfl
def qG{s:hO}(h:aL s=0):aM Tryz.prog 97 [.s s] (eF<|aac<|bV s):=by have:=W5 (bV s) (LB h) fh;rwa[fZ h]at this
def fQ{s:hO}(h:aL s=0):ri (aac<|bV s) 600:=RA (LB h) fh
def Xc(xs:List hO)(e:∀s∈xs,ct s)(hl:xs.length<2^60):aM Tryz.prog 308 [.strs false xs,.fn (.func 139) [] []] (.i<|aK aL xs):=by
 refine bS Tryz.func308 W<|r0 W<|ra (λi:Nat=>[(1,.fn (.func 139) [] []),(8,.strs false xs),(9,.i xs.length),(10,.i i)]) (λi=>i<=xs.length/\aK aL xs=aK aL (xs.drop i)) (λi=>xs.length-i) 0 ⟨adk _,W⟩ ?_;rintro i⟨hi,b⟩;refine bQ W W ?_ ?_<;>intro h
 ·have a:i<xs.length:=E;have d:(i:Int).toNat=i:=E;rw[dA _ a]at b;have f:xs.getD (i:Int).toNat []=xs[i]:=by rw[d];exact au a
  refine r1 W (by simp[bo,d];omega) ?_;refine JJ (us:=[.s xs[i]]) W W U ⟨congrArg SV.s f,U⟩ (wW xs[i]<|e _<|adC a) W<|bQ W W ?_ ?_<;>intro c
  ·refine bK W W<|bR ?_;rw[b,if_pos c]
  refine r1 W (by simp[bo,and_true];omega) ?_;refine gS (i+1) ⟨E,?_⟩;rw[b,if_neg c]
 refine bK W W<|bR ?_;rw[b,afo E];rfl
def R8(xs:List hO)(a:∀s∈xs,ct s)(hl:xs.length<2^60):aM Tryz.prog 267 [.strs false xs] (.i<|aK aL xs):=by refine bS Tryz.func267 W<|bP W W (Xc xs a hl) W<|bN W W
def SY(b:Bool)(e:Int):aM Tryz.prog 268 [.u b,.i e] (.i<|if b then e else 0):=by
 refine bS Tryz.func268 W<|r0 W<|ni W W W ?_ ?_<;>intro h
 ·refine bK W W<|bR ?_;rw[h];rfl
 refine bK W W<|bR ?_;rw[h];rfl
def Wi(s:fD)(l:ct s.lo)(k:ct s.hi):aM Tryz.prog 200 [dX s] (.i<|iz s):=by
 refine bS Tryz.func200 W<|bP W W (R8 [s.lo,s.hi] (λx f=>by simp at f;rcases f with rfl|rfl<;>assumption) I) rfl ?_;have g:aK aL [s.lo,s.hi]=if aL s.lo≠0 then aL s.lo else if aL s.hi≠0 then aL s.hi else 0:=W;rw[g];refine bQ W W ?_ ?_<;>intro h
 ·refine bK W W<|bR ?_;unfold iz;by_cases a:aL s.lo≠0
  ·rw[if_pos a,if_pos a]
  rw[if_neg a]at h;by_cases b:aL s.hi≠0
  ·rw[if_pos b,if_pos b]
  rw[if_neg b]at h;exact absurd W h
 have c:aL s.lo=0:=by apply afC;intro a;apply h;rw[if_pos a];exact a
 have d:aL s.hi=0:=by apply afC;intro b;apply h;rw[if_neg λa=>a c,if_pos b];exact b
 have e:iz s=if 0<CV (bV s.lo) (bV s.hi)then 11 else 0:=by unfold iz;rw[if_neg λa=>a c,if_neg λa=>a d]
 refine bO W W (qG c) W<|bO W W (qG d) W<|bH W (Lk _ _ (dP _) (dP _) (fQ c) (fQ d) fh) W<|bO W W (SY _ 11) W<|k0 W aW<|aE W<|bR ?_;rw[e,Hw];have hc:=tB (p:=bV s.lo) (q:=bV s.hi);by_cases g1:bV s.lo<=bV s.hi
 ·rw[if_neg (show¬0<CV (bV s.lo) (bV s.hi) by have:=hc.2 g1;omega)];have:¬bV s.hi<bV s.lo:=Rat.not_lt.2 g1;rw[if_neg this];split<;>simp
 rw[if_pos<|show 0<CV (bV s.lo) (bV s.hi)from Int.not_le.1 λh=>g1<|hc.1 h];have g2:bV s.hi<bV s.lo:=ahN.1 g1;have j:¬bV s.lo<bV s.hi:=λh=>g1<|afB h;rw[if_neg j,if_pos g2];simp
def Q7(a b:Int)(f:Nat)(p:SV):SV:=.agg [.i a,.i b,.fn (.func f) [] [],p]
def kI:SV:=Q7 2 2 296 (.c .nilFunc)
def kA:SV:=Q7 1 8 295 (.fn (.func 297) [] [])
def kT:SV:=Q7 1 1 295 (.fn (.func 298) [] [])
def wk(a b:Int)(f:Nat)(p:Value):Value:=.agg #[.int .i64 a,.int .i64 b,.func (.func f) #[] #[],p]
def EH:AF:=[(bq,wk 2 2 296 .nilFunc),(jz,wk 1 8 295 (.func (.func 297) #[] #[])),(dy,wk 1 1 295 (.func (.func 298) #[] #[]))]
def MG:aM Tryz.prog 257 [] (.mp<|BU EH):=by refine bS Tryz.func257 W<|r0 W<|ex W W W (Iz W) W<|r0 W<|ex W W W (s9 (k:=bq) (v:=wk 2 2 296 .nilFunc) (x:=kI) (.inl W) W Tryz.underlying337 Tryz.underlying9 W) W<|r0 W<|ex W W W (s9 (k:=jz) (v:=wk 1 8 295 (.func (.func 297) #[] #[])) (x:=kA) (.inl W) W Tryz.underlying337 Tryz.underlying9 W) W<|r0 W<|ex W W W (s9 (k:=dy) (v:=wk 1 1 295 (.func (.func 298) #[] #[])) (x:=kT) (.inl W) W Tryz.underlying337 Tryz.underlying9 W) W<|bN W W
def I6:tN bq EH=some (wk 2 2 296 .nilFunc):=W
def I7:tN jz EH=some (wk 1 8 295 (.func (.func 297) #[] #[])):=W
def I5:tN dy EH=some (wk 1 1 295 (.func (.func 298) #[] #[])):=W
def OU{k:hO}(f:k≠bq)(d:k≠jz)(c:k≠dy):tN k EH=none:=by
 have e:∀{a b:hO},a≠b->rK a b=false:=by
  intro a b h;cases hh:rK a b with
  |false=>rfl
  |true=>exact absurd (sT.1 hh) h
 simp[EH,tN,e f,e d,e c]
def JM(p:gV)(u:bT)(hu:XH u):aM Tryz.prog 183 [bh p,dQ u] (.i<|fW p.n u):=by
 have H:=hu.ah;have F:=hu.dI;refine bS Tryz.func183 W<|cx 6 [(2,.box true<|bh p),(3,.box true<|dQ u)] ((u.kind=bq\/u.kind=jz\/u.kind=dy)/\¬jT u (Dh u) (xq u)) ?_ ?_
 ·refine bO W W MG W<|r0 W ?_;have m:(u.kind=bq\/u.kind=jz\/u.kind=dy)->jT u (Dh u) (xq u)->2=fW p.n u:=by
   intro y hh;unfold fW;rw[if_neg λh=>y.elim h.1 λk=>k.elim h.2.1 h.2.2,if_pos hh]
  by_cases e:u.kind=bq
  ·have hl:Dh u=2:=by unfold Dh;rw[if_pos e]
   have hh:xq u=2:=by unfold xq;rw[if_pos e]
   have j:¬u.kind=dy:=by rw[e];decide
   refine SQ (.bW [kI,.b true]) W W W (gq (k:=u.kind) (x:=kI) Tryz.underlying337 Tryz.underlying9 (by rw[e];exact I6) W true) W ?_;refine k0 W aW<|gb W (λh=>absurd h j) λ_=>?_;refine bJ W 47 W ?_ ?_<;>intro r
   ·refine bK W W<|ar.of_eq<|congrArg SV.i<|m (.inl e) ?_;rw[hl,hh];exact .inl r
   refine bJ W 55 W ?_ ?_<;>intro o
   ·refine bK W W<|ar.of_eq<|congrArg SV.i<|m (.inl e) ?_;rw[hl,hh];exact .inr<|.inl o
   refine r0 W<|ni W W W ?_ ?_<;>intro g
   ·refine bK W W<|ar.of_eq<|congrArg SV.i<|m (.inl e) ?_;have g:¬(u.dI.length:Int)=0:=by simpa using g
    exact .inr<|.inr<|.inr ⟨j,E⟩
   have g:(u.dI.length:Int)=0:=by simpa using g
   refine r0 W<|gm ⟨.inl e,?_⟩;rw[hl,hh];rintro(q|q|q|q)
   ·exact r q
   ·exact o q
   ·exact j q.1
   omega
  by_cases e:u.kind=jz
  ·rename_i w;have hl:Dh u=1:=by unfold Dh;rw[if_neg w]
   have hh:xq u=8:=by unfold xq;rw[if_neg w,if_pos e]
   have j:¬u.kind=dy:=by rw[e];decide
   refine SQ (.bW [kA,.b true]) W W W (gq (k:=u.kind) (x:=kA) Tryz.underlying337 Tryz.underlying9 (by rw[e];exact I7) W true) W ?_;refine k0 W aW<|gb W (λh=>absurd h j) λ_=>?_;refine bJ W 47 W ?_ ?_<;>intro r
   ·refine bK W W<|ar.of_eq<|congrArg SV.i<|m (.inr<|.inl e) ?_;rw[hl,hh];exact .inl r
   refine bJ W 55 W ?_ ?_<;>intro o
   ·refine bK W W<|ar.of_eq<|congrArg SV.i<|m (.inr<|.inl e) ?_;rw[hl,hh];exact .inr<|.inl o
   refine r0 W<|ni W W W ?_ ?_<;>intro g
   ·refine bK W W<|ar.of_eq<|congrArg SV.i<|m (.inr<|.inl e) ?_;have g:¬(u.dI.length:Int)=0:=by simpa using g
    exact .inr<|.inr<|.inr ⟨j,E⟩
   have g:(u.dI.length:Int)=0:=by simpa using g
   refine r0 W<|gm ⟨.inr<|.inl e,?_⟩;rw[hl,hh];rintro(q|q|q|q)
   ·exact r q
   ·exact o q
   ·exact j q.1
   omega
  rename_i w;by_cases d:u.kind=dy
  ·have hl:Dh u=1:=by unfold Dh;rw[if_neg w]
   have hh:xq u=1:=by unfold xq;rw[if_neg w,if_neg e]
   refine SQ (.bW [kT,.b true]) W W W (gq (k:=u.kind) (x:=kT) Tryz.underlying337 Tryz.underlying9 (by rw[d];exact I5) W true) W ?_;refine k0 W aW<|gb W (λ_=>?_) λh=>absurd d h;refine bJ W 35 W ?_ ?_<;>intro g1
   ·refine bJ W 47 W ?_ ?_<;>intro r
    ·refine bK W W<|ar.of_eq<|congrArg SV.i<|m (.inr<|.inr d) ?_;rw[hl,hh];exact .inl r
    refine bJ W 55 W ?_ ?_<;>intro o
    ·refine bK W W<|ar.of_eq<|congrArg SV.i<|m (.inr<|.inr d) ?_;rw[hl,hh];exact .inr<|.inl o
    refine r0 W<|ni W W W ?_ ?_<;>intro g
    ·have g:¬(u.dI.length:Int)<=13:=by simpa using g
     refine bK W W<|ar.of_eq<|congrArg SV.i<|m (.inr<|.inr d)<|.inr<|.inr<|.inl ⟨d,E⟩
    have g:(u.dI.length:Int)<=13:=by simpa using g
    refine r0 W<|gm ⟨.inr<|.inr d,?_⟩;rw[hl,hh];rintro(q|q|q|q)
    ·exact r q
    ·exact o q
    ·have:=q.2;omega
    exact q.1 d
   refine r0 W ?_;have t:jT u (Dh u) (xq u):=.inr<|.inr<|.inl ⟨d,E⟩;refine aC 47 W ?_ ?_<;>intro r
   ·refine bK W W<|ar.of_eq<|congrArg SV.i<|m (.inr<|.inr d) t
   refine bJ W 55 W ?_ ?_<;>intro o
   ·refine bK W W<|ar.of_eq<|congrArg SV.i<|m (.inr<|.inr d) t
   refine bK W W<|ar.of_eq<|congrArg SV.i<|m (.inr<|.inr d) t
  obtain⟨i,i1,C⟩:∃i,Tryz.prog.info? 335=some i/\i.zero=some (.agg #[.int .i64 0,.int .i64 0,.nilFunc,.nilFunc]):=⟨_,W,W⟩;refine SQ (.bW [.agg [.i 0,.i 0,.c .nilFunc,.c .nilFunc],.b false]) W W W (K1 (k:=u.kind) (x:=.agg [.i 0,.i 0,.c .nilFunc,.c .nilFunc]) Tryz.underlying337 Tryz.underlying9 (OU w e d) i1 C W true) W<|k0 W aW<|aE W<|ar.of_eq<|congrArg SV.i<|by unfold fW;rw[if_pos ⟨w,e,d⟩]
 rintro⟨y,m⟩;have v:fW p.n u=if aK (gu p.n) u.ah≠0 then aK (gu p.n) u.ah
  else if u.out<1\/p.n<=u.out then 10
  else if aL u.k≠0 then aL u.k else aK aL u.dI:=by
  unfold fW;rw[if_neg λh=>y.elim h.1 λk=>k.elim h.2.1 h.2.2,if_neg m]
 refine cx 1 [(2,.box true<|bh p),(3,.box true<|dQ u)] (aK (gu p.n) u.ah=0) ?_ λD=>?_
 ·refine r0 W<|ra (λi:Nat=>[(2,.box true<|bh p),(3,.box true<|dQ u),(60,.bA false 2 default oX u.ah),(61,.i u.ah.length),(62,.i i)]) (λi=>i<=u.ah.length/\aK (gu p.n) u.ah=aK (gu p.n) (u.ah.drop i)) (λi=>u.ah.length-i) 0 ⟨adk _,W⟩ ?_;rintro i⟨hi,s⟩;refine bQ W W ?_ ?_<;>intro e
  ·have l:i<u.ah.length:=E;have B:(i:Int).toNat=i:=E;have J:u.ah.getD i default=u.ah[i]:=au l;rw[dA _ l]at s;have z:=hu.dZ _<|adC l;refine r1 W (by simp only[bo,and_true,B];omega) ?_;rw[B,J];generalize u.ah[i]=f at*;refine bH W (xY p _) W<|bO W W (nA _ 10) W<|bO W W (wW f.dZ z) W<|bO W W (nA _ 6) W<|bO W W (tp _ I) W<|k0 W aW ?_;have he:aK id [if !lH p.n f.sh then(10:Int)else 0,aL f.dZ,if decide (f.dZ=[48])then 6 else 0]=gu p.n f:=by
    unfold gu lH;by_cases a:f.sh<0\/p.n<=f.sh
    ·rw[if_pos a,decide_eq_false E];rfl
    rw[if_neg a,decide_eq_true E];by_cases b:aL f.dZ≠0
    ·rw[if_pos b];simp[aK,b]
    rw[if_neg b];have b:aL f.dZ=0:=by simpa using b
    have:f.dZ=[48]↔bV f.dZ=0:=by have:=FR (q:=bV f.dZ);rwa[fZ b]at this
    by_cases c:bV f.dZ=0
    ·rw[if_pos c,decide_eq_true<|this.2 c];simp[aK,b]
    rw[if_neg c,decide_eq_false λh=>c<|this.1 h];simp[aK,b]
   rw[show aK id [if !lH p.n f.sh then(10:Int)else 0,aL f.dZ,if decide (f.dZ=[48])then 6 else 0]=gu p.n f from he];refine gb W ?_ ?_<;>intro d
   ·refine bK W W<|bR ?_;rw[if_pos d]at s;rw[v,if_pos<|by rw[s];exact d,s]
   refine r1 W (by simp only[bo,and_true];omega) ?_;refine gS (i+1) ⟨E,?_⟩;rw[s,if_neg d]
  refine r0 W<|gm ?_;rw[s,afo E];rfl
 rw[if_neg<|by rw[D];simp]at v;have y:=hu.k;refine cx 1 [(3,.box true<|dQ u)] (fW p.n u=aK aL u.dI) ?_ λA=>?_
 ·refine bJ W 88 W ?_ ?_<;>intro e
  ·refine bO W W (nA true 10) W<|bO W W (wW u.k y) W<|bO W W (tp _ I) W<|k0 W aW<|gb W (λd=>?_) λd=>absurd (by simp[aK]) d;refine bK W W<|bR ?_;rw[v,if_pos<|show u.out<1\/p.n<=u.out from .inl E];simp[aK]
  refine bO W W (xY p _) W<|bO W W (nA _ 10) W<|bO W W (wW u.k y) W<|bO W W (tp _ I) W<|k0 W aW ?_;have he:aK id [if !lH p.n u.out then(10:Int)else 0,aL u.k]=if u.out<1\/p.n<=u.out then 10 else if aL u.k≠0 then aL u.k else 0:=by
   unfold lH;by_cases a:u.out<1\/p.n<=u.out
   ·rw[if_pos a,decide_eq_false E];rfl
   rw[if_neg a,decide_eq_true E];by_cases b:aL u.k≠0
   ·rw[if_pos b];simp[aK,b]
   rw[if_neg b];simp at b;simp[aK,b]
  rw[he];refine gb W ?_ ?_<;>intro d
  ·refine bK W W<|bR ?_;rw[v];by_cases a:u.out<1\/p.n<=u.out
   ·rw[if_pos a,if_pos a]
   rw[if_neg a]at d;rw[if_neg a,if_neg a];by_cases b:aL u.k≠0
   ·rw[if_pos b,if_pos b]
   rw[if_neg b]at d;exact absurd W d
  refine r0 W<|gm ?_;rw[v];by_cases a:u.out<1\/p.n<=u.out
  ·rw[if_pos a]at d;simp at d
  rw[if_neg a]at d⊢;by_cases b:aL u.k≠0
  ·rw[if_pos b]at d;exact absurd b d
  rw[if_neg b]
 refine r0 W<|ra (λi:Nat=>[(3,.box true<|dQ u),(105,.strs false u.dI),(106,.i u.dI.length),(107,.i i)]) (λi=>i<=u.dI.length/\aK aL u.dI=aK aL (u.dI.drop i)) (λi=>u.dI.length-i) 0 ⟨adk _,W⟩ ?_;rintro i⟨hi,s⟩;refine bQ W W ?_ ?_<;>intro e
 ·have l:i<u.dI.length:=E;have B:(i:Int).toNat=i:=E;rw[dA _ l]at s;refine r1 W (by simp only[bo,and_true,B];omega) ?_;refine JJ (us:=[.s u.dI[i]]) W W U ⟨congrArg SV.s<|by rw[B];exact au l,U⟩ (wW u.dI[i]<|hu.Kj _<|adC l) W ?_;refine bQ W W ?_ ?_<;>intro d
  ·refine bK W W<|bR ?_;rw[A,s,if_pos d]
  refine r1 W (by simp only[bo,and_true];omega) ?_;refine gS (i+1) ⟨E,?_⟩;rw[s,if_neg d]
 refine bK W W<|bR ?_;rw[A,s,afo E];rfl
def Ip(x y:Nat)(b:x<18446744073709551616)(a:y<18446744073709551616):aM Tryz.prog 142 [.n .u64 x,.n .u64 y] (.bW [.n .u64 (x*y/18446744073709551616:Nat),.n .u64 (x*y%18446744073709551616:Nat)]):=by refine bS Tryz.func142 W<|bP W W (kg x y b a) W<|bN W W
def HZ{α:Type _}(x z:α){m r k:Nat}(a:k<=m)(e:k<=r):(List.replicate m x++List.replicate r z).take m++(List.replicate m x++List.replicate r z).take k++(List.replicate m x++List.replicate r z).drop (m+k)=List.replicate (m+k) x++List.replicate (r-k) z:=by rw[List.take_append,List.take_append,ahZ];simp only[agi,List.take_replicate,List.drop_replicate,Nat.min_self,agY,af3 a];have d:m-(m+k)=0:=E;have c:k-m=0:=E;have b:m+k-m=k:=E;simp only[d,c,b,List.replicate_zero,afS,afN,Nat.zero_min];rw[List.replicate_append_replicate]
def adA(x:Int)(n:Nat)(d:1<=n)(hn:n<2^20):aM Tryz.prog 64 [.ints .i64 false [x],.i n] (.ints .i64 true<|List.replicate n x):=by
 refine bS Tryz.func64 W<|bQ W W (λh=>E) λh=>?_;refine kw [15,17] W W U<|JJ (us:=[.n .u64 (1:Nat),.n .u64 n]) W W U ⟨W,congrArg (SV.n .u64)<|wr E,U⟩ (Ip 1 n fh E) W ?_;rw[Nat.one_mul,afw (E:n<18446744073709551616),afy (E:n<18446744073709551616)];refine bJ W 23 W (λh=>E) λh=>?_;refine bQ W W (λh=>E) λh=>?_;refine r1 W a7<|ex W W W (RW (P:=Tryz.prog) (ti:=⟨false,1,8,.v<|.int .i64 0⟩) W W Tryz.underlying23 W W W (by simp;omega) I (n:=1)<|by rw[agi,afk];exact af3 d) W ?_;refine bM W (λm:Nat=>[(7,.ints .i64 true<|List.replicate m x++List.replicate (n-m) 0),(8,.i m)]) (λm=>1<=m/\m<=n) (λm=>n-m) 1 ⟨adp _,d⟩ ⟨⟨W,ar.of_eq<|congrArg (SV.ints .i64 true)<|by rw[List.drop_replicate,afk];rfl⟩,G,U⟩ ?_;rintro m⟨g,f⟩;have a:(List.replicate m x++List.replicate (n-m) (0:Int)).length=n:=by rw[aeP,agi,agi];omega
 refine bQ W W ?_ ?_<;>intro b
 ·have b:m<n:=by rw[a]at b;omega
  refine Qr 6 W U<|Y1 W W ?_ ?_
  ·simp[bo,app,and_true,a];omega
  refine Qr 2 W U<|Y1 W W ?_ ?_
  ·simp[bo,app,and_true,a];omega
  have c:List.replicate m x++List.replicate (n-m) (0:Int)≠[]:=λe=>by rw[e]at a;simp at a;omega
  refine Y9 W W W (mE.same (LF (P:=Tryz.prog) (ti:=⟨false,1,8,.v<|.int .i64 0⟩) (k:=.i64) (xs:=List.replicate m x++List.replicate (n-m) (0:Int)) W W Tryz.underlying23 W W W c (off:=m) (m1:=n-m) (m2:=m) (n:=min m<|n-m) W (by rw[a];omega) (by rw[a];omega) E E) W ?_ W W) W ?_
  ·show aB [_,_]=aB [SV.bC 1000000 0 0 [Step.lZ 1 (m:Int).toNat<|(List.replicate m x++List.replicate (n-m) (0:Int)).length-(m:Int).toNat],SV.bC 1000000 0 0 [Step.lZ 1 0 ((m:Int).toNat-0)]];rw[a,afk,ahf]
  refine k1 W aW a7 ?_;rw[HZ x 0 (Nat.min_le_left _ _)<|Nat.min_le_right _ _];refine again (m+min m (n-m)) E E ⟨⟨W,ar.of_eq<|congrArg (SV.ints .i64 true) ?_⟩,⟨W,bR ?_⟩,U⟩
  ·congr 2;omega
  omega
 have b:n<=m:=by rw[a]at b;omega
 refine bK W W<|ar.of_eq<|congrArg (SV.ints .i64 true) ?_;have:m=n:=E;subst this;rw[agY];simp
def zF:SV:=.agg [.i 0,.nil,.i 0,.nil]
def XN:xk:=⟨true,4,64,zF⟩
def sZ{x:SV}(h:x.aG=true):∀n,gE (List.replicate n x)=true
 |0=>rfl
 |n+1=>by simp[agR,gE,h];exact sZ h n
def Qp{x:SV}(h:x.aG=true)(m n:Nat):gE (List.replicate m x++List.replicate n zF)=true:=by
 induction m with
 |zero=>simpa using sZ fh n
 |succ m a=>simp[agR,gE,h];exact a
def Qq{x:SV}(h:my XN x=true)(m n:Nat):∀y∈List.replicate m x++List.replicate n zF,my XN y=true:=by
 intro y a;rcases afR.1 a with a|a
 ·rw[(List.mem_replicate.1 a).2];exact h
 rw[(List.mem_replicate.1 a).2];rfl
def N6(x:SV)(f:my XN x=true)(c:x.aG=true)(n:Nat)(g:1<=n)(hn:n<2^20):aM Tryz.prog 261 [.row false 4 [x],.i n] (.row true 4 (List.replicate n x)):=by
 refine bS Tryz.func261 W<|bQ W W (λh=>E) λh=>?_;refine kw [15,17] W W U<|JJ (us:=[.n .u64 (1:Nat),.n .u64 n]) W W U ⟨W,congrArg (SV.n .u64)<|wr E,U⟩ (Ip 1 n fh E) W ?_;rw[Nat.one_mul,afw (E:n<18446744073709551616),afy (E:n<18446744073709551616)];refine bJ W 23 W (λh=>E) λh=>?_;refine bQ W W (λh=>E) λh=>?_;refine r1 W a7<|ex W W W (RV (P:=Tryz.prog) (ti':=XN) W W Tryz.underlying161 W (by simp;omega) I (sZ fh _) (by simpa using f) (n:=1)<|by rw[agi,afk];exact af3 g) W ?_;refine bM W (λm:Nat=>[(7,.row true 4 (List.replicate m x++List.replicate (n-m) zF)),(8,.i m)]) (λm=>1<=m/\m<=n) (λm=>n-m) 1 ⟨adp _,g⟩ ⟨⟨W,ar.of_eq<|congrArg (SV.row true 4)<|by rw[List.drop_replicate,afk];rfl⟩,G,U⟩ ?_;rintro m⟨k,j⟩;have a:(List.replicate m x++List.replicate (n-m) zF).length=n:=by rw[aeP,agi,agi];omega
 refine bQ W W ?_ ?_<;>intro b
 ·have b:m<n:=by rw[fH,a]at b;omega
  refine Qr 6 W U<|Y1 W W ?_ ?_
  ·simp[bo,app,and_true,fH,a];omega
  refine Qr 2 W U<|Y1 W W ?_ ?_
  ·simp[bo,app,and_true,fH,a];omega
  have d:List.replicate m x++List.replicate (n-m) zF≠[]:=λe=>by rw[e]at a;simp at a;omega
  refine Y9 W W W (mE.same (LD (P:=Tryz.prog) (ti':=XN) (xs:=List.replicate m x++List.replicate (n-m) zF) W W Tryz.underlying161 W d (Qp c _ _) (Qq f _ _) (off:=m) (m1:=n-m) (m2:=m) (n:=min m<|n-m) W (by rw[a];omega) (by rw[a];omega) E E) W ?_ W W) W ?_
  ·show aB [_,_]=aB [SV.bC 1000000 0 0 [Step.lZ 4 (m:Int).toNat<|len (List.replicate m x++List.replicate (n-m) zF)-(m:Int).toNat],SV.bC 1000000 0 0 [Step.lZ 4 0 ((m:Int).toNat-0)]];rw[fH,a,afk,ahf];rfl
  refine k1 W aW a7 ?_;rw[HZ x zF (Nat.min_le_left _ _)<|Nat.min_le_right _ _];refine again (m+min m (n-m)) E E ⟨⟨W,ar.of_eq<|congrArg (SV.row true 4) ?_⟩,⟨W,bR ?_⟩,U⟩
  ·congr 2;omega
  omega
 have b:n<=m:=by rw[fH,a]at b;omega
 refine bK W W<|ar.of_eq<|congrArg (SV.row true 4) ?_;have:m=n:=E;subst this;rw[agY];simp
def pH(s:Int)(u:bT):∀(xs:List bT)(k:Nat),cB s k (xs++[u])=if 0<=cB s k xs then cB s k xs else if u.out=s then((k+xs.length:Nat):Int)else -1
 |[],k=>by simp[cB]
 |x::xs,k=>by
  simp only[agx,cB];by_cases h:x.out=s
  ·simp[h]
  simp only[h,if_false,pH s u xs<|k+1,adX];have:k+1+xs.length=k+(xs.length+1):=E;rw[this]
def pG{s:Int}:∀{xs:List bT}{k:Nat},0<=cB s k xs↔1<=xs.countP λu=>decide (u.out=s)
 |[],k=>by simp[cB]
 |x::xs,k=>by
  simp[cB,List.countP_cons];by_cases h:x.out=s
  ·simp[h]
  simp only[h,if_false,pG (xs:=xs) (k:=k+1)];omega
def yn{s:Int}:∀{xs:List bT}{k:Nat},¬0<=cB s k xs->cB s k xs= -1
 |[],k,_=>rfl
 |x::xs,k,h=>by
  simp only[cB]at h⊢;by_cases g:x.out=s
  ·rw[if_pos g]at h;simp_all
  rw[if_neg g]at h⊢;exact yn h
def CQ{xs:List bT}{i:Nat}(h:i<xs.length)(P:bT->Bool):(xs.take<|i+1).countP P=(xs.take i).countP P+if P xs[i]then 1 else 0:=by rw[aey h,agZ,aih]
def Ka(n:Nat)(us:List bT):List Int:=(List.range n).map λ(s:Nat)=>eh us (s:Int)
def UX{n s:Nat}{us:List bT}(h:s<n):(Ka n us).getD s 0=eh us s:=by unfold Ka;rw[adY,agb,ahL h];rfl
def uj:Int->List bT->List Int->List Int×Bool
 |_,[],L=>(L,!decide (-1∈L.drop 1))
 |k,u::r,L=>if 0<=L.getD u.out.toNat 0 then(L,false)else uj (k+1) r (L.set u.out.toNat k)
def GL(n:Nat)(us:List bT):List Int×Bool:=uj 0 us<|List.replicate n<|-1
def O2(p:gV)(h:rA p)(n:Nat)(hn:p.n=n)(j:1<=n)(d:n<2^20)(g:∀u∈p.aa,1<=u.out/\u.out<n):aM Tryz.prog 187 [bh p] (.bW [.ints .i64 false (GL n p.aa).1,.u (GL n p.aa).2]):=by
 have hl:=h.aa;refine bS Tryz.func187 W<|r0 W<|JJ (us:=[.ints .i64 false [-1],.i n]) W W U ⟨W,congrArg SV.i hn,U⟩ (adA (-1) n j d) W<|r0 W<|kR (λ(i:Nat)(L:List Int)=>[(4,.ints .i64 true L),(12,.bA false 5 default dQ p.aa),(13,.i p.aa.length),(14,.i i)]) (λi L=>i<=p.aa.length/\L.length=n/\GL n p.aa=uj i (p.aa.drop i) L) (λi _=>p.aa.length-i) 0 (List.replicate n<|-1) ⟨adk _,I,W⟩ ⟨G,G,G,G,U⟩ ?_;rintro i L⟨hi,c,b⟩;refine bQ W W ?_ ?_<;>intro g1
 ·have a:i<p.aa.length:=E;have e:(i:Int).toNat=i:=E;have f:p.aa.getD i default=p.aa[i]:=au a;rw[aeE a,uj]at b;have hu:=g _<|adC a;refine r1 W (by simp only[bo,and_true,e,f,c];omega) ?_;rw[e,f];refine gb W ?_ ?_<;>intro g2
  ·have g2:0<=L.getD p.aa[i].out.toNat 0:=g2;rw[if_pos g2]at b;refine r0 W<|TA W ?_;rw[b];exact⟨W,W,U⟩
  have g2:¬0<=L.getD p.aa[i].out.toNat 0:=g2;rw[if_neg g2]at b;refine r1 W (by simp[bo,and_true,c];omega) ?_;refine gS (i+1,L.set p.aa[i].out.toNat i) ⟨by dsimp only;omega,by simpa using c,by simpa using b⟩
 rw[afo E,uj]at b;refine r1 W (by simp[bo,and_true,c];omega) ?_;refine bG W (LI _ (-1)<|by simp;omega) W ?_;refine r0 W<|TA W ?_;rw[b];have:((L.drop (1:Int).toNat).take<|L.length-(1:Int).toNat)=L.drop 1:=adM I;refine⟨W,?_,U⟩;show(!decide (-1∈(L.drop (1:Int).toNat).take (L.length-(1:Int).toNat)))= !decide (-1∈L.drop 1);rw[this]
def Lv(n:Nat)(us:List bT)(D:1<=n)(z:∀u∈us,1<=u.out/\u.out<n):∀(i:Nat)(L:List Int),i<=us.length->L.length=n->(∀s:Nat,s<n->L.getD s 0=eh (us.take i) s)->(∀s:Nat,((us.take i).countP λu=>decide (u.out=(s:Int)))<=1)->
 ((uj i (us.drop i) L).2=true↔u9 n us)/\((uj i (us.drop i) L).2=true->(uj i (us.drop i) L).1=Ka n us):=by
 intro i
 induction hm:us.length-i generalizing i with
 |zero=>
  intro L hi q f hc;have B:us.take i=us:=adM E;rw[B]at f hc;rw[afo E];simp only[uj,af9,decide_eq_false_iff_not];have b:¬ -1∈L.drop 1↔u9 n us:=by
   constructor
   ·intro hn s y p;have a:=f s p;have:0<=eh us s:=afC λl=>by
     refine hn<|ahK.2 ⟨s-1,by simp;omega,?_⟩;rw[List.getElem_drop];have e:1+(s-1)=s:=E;simp[e];have w:eh us s= -1:=yn l;rw[<-w,<-a,adY,aeF E];rfl
    have t:=pG.1 this;have r:=hc s;omega
   intro d b;obtain⟨j,A,e⟩:=ahK.1 b;rw[List.getElem_drop]at e;simp at A;have a:=f (1+j) E;rw[adY,aeF E,Option.getD_some,e]at a;have t:=d (1+j) E E;have r:=(pG (s:=((1+j:Nat):Int)) (xs:=us) (k:=0)).2 E;unfold eh at a;omega
  refine⟨b,λ_=>?_⟩;apply afz
  ·simp[Ka,q]
  intro s k1 k2;have a:=f s E;rw[adY,aeF k1,Option.getD_some]at a;simp[Ka,a]
 |succ m x=>
  intro L hi q f hc;have c:i<us.length:=E;have hu:=z _<|adC c;have v:((us[i].out.toNat:Nat):Int)=us[i].out:=E;rw[aeE c,uj];have o:=f us[i].out.toNat E;rw[v]at o;by_cases g:0<=L.getD us[i].out.toNat 0
  ·rw[if_pos g];refine⟨⟨λh=>by simp at h,λd=>?_⟩,λh=>by simp at h⟩;rw[o]at g;have a:=pG.1 g;have t:=d us[i].out.toNat E E;rw[v]at t;have r:=CQ c λu=>decide (u.out=us[i].out);simp[decide_true,if_true]at r;have w:((us.take<|i+1).countP λu=>decide (u.out=us[i].out))<=us.countP λu=>decide (u.out=us[i].out):=List.Sublist.countP_le<|List.take_sublist _ _;omega
  rw[if_neg g];have:=x (i+1) E (L.set us[i].out.toNat i) E (by simpa using q) ?_ ?_
  ·simpa using this
  ·intro s hs;rw[adY,agO];rw[aey c];unfold eh;rw[pH];have a:=f s hs;rw[adY]at a;by_cases e:us[i].out.toNat=s
   ·subst e;rw[o]at g;unfold eh at g;rw[if_pos W,if_pos E,v,if_neg g,if_pos W];simp;omega
   rw[if_neg e,a];have C:¬us[i].out=(s:Int):=E;rw[if_neg C];by_cases g2:0<=cB (s:Int) 0 (us.take i)
   ·rw[if_pos g2];rfl
   rw[if_neg g2];exact yn g2
  intro s;rw[CQ c];have a:=hc s;by_cases e:us[i].out=(s:Int)
  ·have g2:¬0<=cB us[i].out 0 (us.take i):=by rw[o]at g;exact g
   rw[pG]at g2;rw[e]at g2;simp only[e,decide_true,if_true];omega
  simp[e,decide_false,agw,if_false];omega
def O0{n:Nat}{us:List bT}(b:1<=n)(a:∀u∈us,1<=u.out/\u.out<n):((GL n us).2=true↔u9 n us)/\((GL n us).2=true->(GL n us).1=Ka n us):=by have:=Lv n us b a 0 (List.replicate n<|-1) (adk _) I (λs hs=>by simp[hs,eh,cB]) λs=>I;simpa[GL]using this
def f0:Fr:=⟨⟨0,none⟩,⟨1,none⟩⟩
instance:Inhabited Fr:=⟨f0⟩
def VG:gW f0 0:=⟨by simp[f0,bj],by simp[f0,bj],W,W⟩
noncomputable def DO(n:Nat)(us:List bT):List Fr:=us.foldl (λ(o:List Fr)u=>o.set u.out.toNat<|aac<|bV u.k)<|List.replicate n f0
def JW(n:Nat)(us:List bT):(DO n us).length=n:=by
 unfold DO;have:∀(us:List bT)(o:List Fr),(us.foldl (λ(o:List Fr)u=>o.set u.out.toNat<|aac<|bV u.k) o).length=o.length:=by
  intro us
  induction us with
  |nil=>intro o;rfl
  |cons u us a=>intro o;rw[afT,a];simp
 rw[this];simp
def Pp{n:Nat}{us:List bT}{i:Nat}(h:i<us.length):DO n (us.take<|i+1)=(DO n<|us.take i).set us[i].out.toNat (aac<|bV us[i].k):=by unfold DO;rw[aey h,age];rfl
def x0:SV:=.agg [.i 0,.nil,.i 1,.nil]
def map_unit{x:SV}:∀n,aB (List.replicate n x)=(List.replicate n ()).map λ_=>x.den
 |0=>rfl
 |n+1=>by simp[agR,aB,map_unit n]
def N7(n:Nat)(a:1<=n)(hn:n<2^20):aM Tryz.prog 261 [.row false 4 [eF f0],.i n] (.bA true 4 () (λ_=>x0)<|List.replicate n ()):=(N6 x0 W W n a hn).same W (by simp only[SV.den];rw[map_unit])
def U3(p:gV)(h:rA p)(n:Nat)(hn:p.n=n)(g:1<=n)(c:n<2^20)(hu:∀u∈p.aa,iQ p.n u):aM Tryz.prog 189 [bh p] (.bA true 4 f0 eF<|DO n p.aa):=by
 have hl:=h.aa;refine bS Tryz.func189 W<|bO W W (Z3 0) W<|r0 W ?_;have e:=N7 n g c;rw[<-hn]at e;refine Sb W W U e W ⟨λ_=>rfl,U⟩<|k0 W aW<|EI [(3,.bA true 4 f0 eF<|List.replicate n f0),(12,.bA false 5 default dQ p.aa),(13,.i p.aa.length),(14,.i 0)] ⟨⟨W,W,.bA ?_⟩,⟨W,W,.refl _⟩,⟨W,W,.refl _⟩,⟨W,W,.refl _⟩,U⟩ ?_
 ·rw[ahm,ahm];exact o6.rep (.agg<|.cons (.refl _)<|.cons (.le<|show ar .nil (.fv .u64 [])from W)<|.cons (.refl _)<|.cons (.le<|show ar .nil (.fv .u64 [])from W) .nil) n
 refine ra (λi:Nat=>[(3,.bA true 4 f0 eF<|DO n<|p.aa.take i),(12,.bA false 5 default dQ p.aa),(13,.i p.aa.length),(14,.i i)]) (λi=>i<=p.aa.length) (λi=>p.aa.length-i) 0 (adk _) ?_;intro i hi;refine bQ W W ?_ ?_<;>intro g1
 ·have a:i<p.aa.length:=E;have f:(i:Int).toNat=i:=E;have j:p.aa.getD i default=p.aa[i]:=au a;have d:=hu _<|adC a;have k:=d.out;have b:=JW n<|p.aa.take i;refine r1 W (by simp[bo,and_true,f];omega) ?_;rw[f,j];refine bH W (qG d.k) W<|k1 W aW (by simp[bo,and_true,b]<;>omega) ?_;refine again (i+1) E E ⟨⟨W,?_⟩,G,G,G,U⟩;refine⟨W,W,?_⟩;rw[Pp a,afO];exact jC.refl _
 refine bK W W<|ar.of_eq ?_;rw[adM E];rfl
def LS(l:List hO):aM Tryz.prog 262 [.strs false l] (.fn (.func 301) [] [.box false<|.strs false l]):=by
 refine bS Tryz.func262 W<|cx 1 [(1,.box true<|.strs false l)] True ?_ λ_=>?_
 ·refine r0 W<|gm U
 refine oN (r:=1) (p:=[]) W W U<|bN W W
def J1(l:List hO)(hl:l.length<2^40)(C:Value->Prop)(J:Nat->tD)(b:∀v,C v->∀k,k<l.length->Yields Tryz.prog (J k) (J<|k+1) (aB [.i ((l.length-1-k:Nat):Int),.s<|l.getD (l.length-1-k) []]) true v):
 lp Tryz.prog 301 [.abs<|J 0] [.pv C,.box false<|.strs false l] [.abs<|J l.length] (.bW []):=by
 refine sE (fn:=Tryz.f301) Tryz.func301 W W W W W<|r1 W (by simp[bo];omega) ?_;refine loop (λk:Nat=>[(0,.pv C),(1,.box false<|.strs false l),(3,.i<|l.length-1-k),(1000000,.abs<|J k)]) (λk=>k<=l.length) (λk=>l.length-k) 0 (adk _) ⟨G,G,⟨W,ar.of_eq<|congrArg SV.i E⟩,W,U⟩ ?_;intro k e;refine bQ W W ?_ ?_<;>intro g
 ·have a:k<l.length:=E;have d:((l.length:Int)-1-k)=((l.length-1-k:Nat):Int):=E;rw[d];refine r1 W (by simp[bo];omega) ?_;refine yk W W U (λv c=>b v c k a) W<|r0 W<|ni W W W (λh=>by cases h) λ_=>?_;refine r1 W (by simp[bo,and_true];omega) ?_;refine again (k+1) E E ⟨G,G,⟨W,ar.of_eq<|congrArg SV.i E⟩,W,U⟩
 have:k=l.length:=E;subst this;refine r0 W<|SN [(1000000,.abs<|J l.length)] ⟨W,U⟩ W U ⟨G,U⟩
noncomputable def L3(x:Fr)(cs:List hO):Fr:=cs.foldr (λc s=>LZ (QV s x)<|aac<|bV c) f0
def VF:ri f0 1:=⟨iJ (m:=0) fh,iJ (m:=1) fh⟩
def yI{x:Fr}{q:Rat}(b:gW x q){L:Nat}(a:ri x L):∀{cs:List hO},(∀c∈cs,aL c=0)->gW (L3 x cs) (wu q<|cs.map bV)/\ri (L3 x cs) (cs.length*(L+601)+1)
 |[],_=>⟨VG,by simpa[L3]using VF⟩
 |c::cs,h=>by obtain⟨j,i⟩:=yI b a (cs:=cs) λc hc=>h c (by simp[hc]);obtain⟨g,f⟩:=tg _ _ j b i a;obtain⟨e,d⟩:=Pt _ _ g (dP<|bV c) f<|fQ<|h c I;refine⟨e,Ja d ?_⟩;rw[adX,ahJ];omega
def S5(cs:List hO)(hc:∀c∈cs,aL c=0)(hl:cs.length<2^10)(x:Fr){q:Rat}(f:gW x q){L:Nat}(e:ri x L)(u:L<2^20):aM Tryz.prog 190 [.strs false cs,eF x] (eF<|L3 x cs):=by
 refine bS Tryz.func190 W<|bP W W (Z3 0) W<|bP W W (LS cs) W<|r0 W<|Bv [5,3] [5,3] cs.length cs.length (λk=>[.i ((cs.length-1-k:Nat):Int),.s<|cs.getD (cs.length-1-k) []]) (λk=>[.box true<|eF<|L3 x<|cs.drop<|cs.length-k,.box true<|eF x]) (λ_=>true) (λ_=>none) (.bW [])
  rfl W W W W Tryz.func301 W W W W W W (λ_ _=>rfl) (λ_=>rfl) ?_ ?_ W (λ_ _ _=>rfl) (λC J m=>J1 cs E C J λv n k g=>m v n k g λ_ _=>rfl) ?_ ?_ (λc h=>by cases h)
 ·intro k g z j;simp[adZ,afY,or_false]at j;rcases j with rfl|rfl<;>rfl
 ·show[SV.box true<|eF<|L3 x<|cs.drop<|cs.length-0,SV.box true<|eF x]=_;rw[ahf,afU];rfl
 ·intro k g _;have a:cs.length-1-k<cs.length:=E;obtain⟨l,i⟩:=yI f e (cs:=cs.drop<|cs.length-k) λc h=>hc c<|agd h;have b:(cs.drop<|cs.length-k).length=k:=by simp;omega
  rw[b]at i;have w:k*(L+601)<=1024*(L+601):=aeX _ E;refine r0 W<|rH<|bP W W (Ch _ _ l f i e E) W<|r0 W ?_;have d:=hc _<|adC a;refine JJ (us:=[.s cs[cs.length-1-k]]) W W U ⟨congrArg SV.s<|au a,U⟩ (qG d) W<|r0 W ?_;obtain⟨t,s⟩:=tg _ _ l f i e;refine bG W (Xa _ _ t (dP _) s (fQ d) E) W<|r0 W ?_;have r:cs.drop (cs.length-(k+1))=cs[cs.length-1-k]::cs.drop (cs.length-k):=by have p:cs.length-(k+1)=cs.length-1-k:=E;have o:cs.length-k=cs.length-1-k+1:=E;rw[p,o,aeE a]
  refine zA [(1000000,.box true<|eF<|L3 x<|cs.drop<|cs.length-(k+1)),(1000001,.box true<|eF x)] W W ⟨⟨W,W,?_⟩,⟨W,W,.refl _⟩,U⟩ ⟨G,G,U⟩;rw[r];exact .refl _
 intro _;rw[agY,afG];refine bN W W
section
variable{fs:List Hi}{L:List Int}{i:Nat}
def QW(p:gV)(L:List Int)(u:bT):aM Tryz.prog 260 [bh p,.ints .i64 false L,dQ u] (.fn (.func 300) [] [.box false<|dQ u,.box false<|.ints .i64 false L]):=by
 refine bS Tryz.func260 W<|cx 1 [(4,.box true<|.ints .i64 false L),(5,.box true<|dQ u)] True ?_ λ_=>?_
 ·refine r0 W<|gm U
 refine oN (r:=4) (p:=[]) W W U<|oN (r:=5) (p:=[]) W W U<|bN W W
def MH(u:bT):aM Tryz.prog 295 [dQ u] (.bA false 2 default oX u.ah):=by refine bS Tryz.func295 W<|bN W W
def Ue(u:bT)(h:1<=u.ah.length):aM Tryz.prog 296 [dQ u] (.bA false 2 default oX<|u.ah.drop 1):=by refine bS Tryz.func296 W<|r1 W (by simp[bo];omega) ?_;have e:(u.ah.drop (1:Int).toNat).take (u.ah.length-(1:Int).toNat)=u.ah.drop 1:=adM I;exact aE W<|ar.of_eq<|congrArg (SV.bA false 2 default oX) e
def mu(L:List Int)(fs:List Hi):List Int:=(fs.map λf=>L.getD f.sh.toNat 0).filter λi=>decide (0<=i)
def Ev(h:i<fs.length):mu L (fs.take<|i+1)=mu L (fs.take i)++if 0<=L.getD fs[i].sh.toNat 0 then[L.getD fs[i].sh.toNat 0]else[]:=by
 unfold mu;rw[aey h,aeY,List.filter_append];by_cases g:0<=L.getD fs[i].sh.toNat 0
 ·rw[if_pos g];simp only[afc,afZ,List.filter_cons,decide_eq_true g,if_true,List.filter_nil]
 rw[if_neg g];simp only[afc,afZ,List.filter_cons,decide_eq_false g,agw,if_false,List.filter_nil]
def KW(h:i<fs.length):mu L fs=mu L (fs.take i)++((if 0<=L.getD fs[i].sh.toNat 0 then[L.getD fs[i].sh.toNat 0]else[])++mu L (fs.drop<|i+1)):=by rw[<-aeZ,<-Ev h];unfold mu;rw[<-List.filter_append,<-aeY,agE]
def SJ(b:Nat->Bool)(n m:Nat):Prop:=(∀k,k<n->(∀j,j<k->b j=true)->b k=false->m=k+1)/\((∀k,k<n->b k=true)->m=n)
def OA(u:bT)(hu:XH u){n:Int}(t:iQ n u)(L:List Int)(K:n<=L.length)(b:Nat->Bool)(m:Nat)(hm:SJ b (mu L<|cR u).length m)(C:Value->Prop)(J:Nat->tD)
 (D:∀v,C v->∀k,k<(mu L<|cR u).length->(∀j,j<k->b j=true)->Yields Tryz.prog (J k) (J<|k+1) (aB [.i<|(mu L<|cR u).getD k 0]) (b k) v):
 lp Tryz.prog 300 [.abs<|J 0] [.pv C,.box false<|dQ u,.box false<|.ints .i64 false L] [.abs<|J m] (.bW []):=by
 have H:=hu.ah;have F:(cR u).length<2^40:=by unfold cR;split<;>simp<;>omega
 have p:∀f∈cR u,0<=f.sh/\f.sh<n:=λf z=>by
  have:f∈u.ah:=by
   unfold cR at z;split at z
   ·exact agd z
   exact z
  have:=t.feed f this;exact⟨this.1,this.2.1⟩
 refine sE (fn:=Tryz.f300) Tryz.func300 W W W W W<|cx 1 [(0,.pv C),(1,.box false<|dQ u),(2,.box false<|.ints .i64 false L),(13,.bA false 2 default oX<|cR u),(14,.i (cR u).length),(15,.i 0),(1000000,.abs<|J 0)] True ?_ λ_=>?_
 ·refine bO W W MG W<|r0 W ?_;rcases t.kind with h|h|h
  ·have a:cR u=u.ah.drop 1:=by unfold cR;rw[if_pos h]
   refine SQ kI W W W (gq (k:=u.kind) (x:=kI) Tryz.underlying337 Tryz.underlying9 (by rw[h];exact I6) W false) W ?_;refine bO W W (Ue u (by have:=(t.int h).1;omega)) W ?_;refine k0 W aW ?_;rw[<-a];exact aN U ⟨G,G,G,G,G,G,W,U⟩
  ·have a:cR u=u.ah:=by unfold cR;rw[if_neg<|by rw[h];exact Gp.symm]
   refine SQ kA W W W (gq (k:=u.kind) (x:=kA) Tryz.underlying337 Tryz.underlying9 (by rw[h];exact I7) W false) W ?_;refine bO W W (MH u) W<|k0 W aW ?_;rw[<-a];exact aN U ⟨G,G,G,G,G,G,W,U⟩
  have a:cR u=u.ah:=by unfold cR;rw[if_neg<|by rw[h];exact wm.symm]
  refine SQ kT W W W (gq (k:=u.kind) (x:=kT) Tryz.underlying337 Tryz.underlying9 (by rw[h];exact I5) W false) W ?_;refine bO W W (MH u) W<|k0 W aW ?_;rw[<-a];exact aN U ⟨G,G,G,G,G,G,W,U⟩
 generalize cR u=fs at*;refine bM W (λi:Nat=>[(0,.pv C),(2,.box false<|.ints .i64 false L),(13,.bA false 2 default oX fs),(14,.i fs.length),(15,.i i),(1000000,.abs<|J (mu L<|fs.take i).length)]) (λi=>i<=fs.length/\∀j,j<(mu L<|fs.take i).length->b j=true) (λi=>fs.length-i) 0 ⟨adk _,λj s=>by simp[mu]at s⟩ ⟨G,G,G,G,G,W,U⟩ ?_;rintro i⟨hi,q⟩;refine bQ W W ?_ ?_<;>intro g
 ·have d:i<fs.length:=E;have A:(i:Int).toNat=i:=E;have B:fs.getD i default=fs[i]:=au d;obtain⟨N,M⟩:=p _<|adC d;have hs:=Ev (L:=L) d;have o:=KW (L:=L) d;refine r1 W (by simp only[bo,and_true,A,B];omega) ?_;rw[A,B];obtain⟨c,hc⟩:∃c,c=(mu L<|fs.take i).length:=⟨_,W⟩;rw[<-hc]at q⊢;refine aC 26 W ?_ ?_<;>intro g2
  ·have g2:0<=L.getD fs[i].sh.toNat 0:=g2;rw[if_pos g2]at hs o;have y:c<(mu L fs).length:=by rw[o];simp;omega
   have w:(mu L fs).getD c 0=L.getD fs[i].sh.toNat 0:=by rw[o,adY,afD E,hc];simp
   refine r0 W<|yk W W U (λv t=>by have:=D v t c y q;rw[w]at this;exact this) W ?_;refine r0 W<|ni W W W ?_ ?_<;>intro r
   ·have r:b c=false:=by simpa using r
    have:=hm.1 c y q r;subst this;refine r0 W<|SN [(1000000,.abs<|J<|c+1)] ⟨W,U⟩ W U ⟨G,U⟩
   have r:b c=true:=by simpa using r
   refine r1 W (by simp[bo,and_true];omega) ?_;have l:(mu L<|fs.take<|i+1).length=c+1:=by rw[hs,aeP,<-hc];rfl
   refine again (i+1) E ⟨E,λj s=>?_⟩ ⟨G,G,G,G,G,?_,U⟩
   ·rw[l]at s;by_cases e:j=c
    ·rw[e];exact r
    exact q j E
   rw[l];rfl
  have g2:¬0<=L.getD fs[i].sh.toNat 0:=g2;rw[if_neg g2,afN]at hs;refine r1 W (by simp[bo,and_true];omega) ?_;refine again (i+1) E ⟨E,λj s=>?_⟩ ⟨G,G,G,G,G,?_,U⟩
  ·rw[hs,<-hc]at s;exact q j s
  rw[hs,<-hc];rfl
 have:i=fs.length:=E;subst this;rw[afA]at q⊢;have:=hm.2 q;subst this;refine r0 W<|SN [(1000000,.abs<|J (mu L fs).length)] ⟨W,U⟩ W U ⟨G,U⟩
end
def EZ(b:Nat->Bool):∀n,∃m,SJ b n m/\(((∀k,k<n->b k=true)/\m=n)\/∃k,k<n/\m=k+1/\b k=false/\∀j,j<k->b j=true)
 |0=>⟨0,⟨λk d=>E,λ_=>rfl⟩,.inl ⟨λk d=>E,W⟩⟩
 |n+1=>by
  obtain⟨m,p,f⟩:=EZ b n;rcases f with⟨f,rfl⟩|⟨k,k1,rfl,k3,k4⟩
  ·cases i:b m with
   |true=>
    have c:∀k,k<m+1->b k=true:=λk d=>by
     by_cases e:k=m
     ·rw[e];exact i
     exact f k E
    exact⟨m+1,⟨λk d g a=>by rw[c k d]at a;simp at a,λ_=>rfl⟩,.inl ⟨c,W⟩⟩
   |false=>
    refine⟨m+1,⟨λk d g a=>?_,λh=>absurd (h m E)<|by rw[i];simp⟩,.inr ⟨m,E,W,i,f⟩⟩;by_cases e:k=m
    ·rw[e]
    have:=f k E;rw[this]at a;cases a
  refine⟨k+1,⟨λl o g a=>?_,λh=>absurd (h k E)<|by rw[k3];simp⟩,.inr ⟨k,E,W,k3,k4⟩⟩;rcases aim l k with e|e|e
  ·rw[k4 l e]at a;cases a
  ·rw[e]
  rw[g k e]at k3;cases k3
def Db(b:Nat->Bool):Nat->Bool
 |0=>true
 |k+1=>Db b k&&b k
def jO{b:Nat->Bool}:∀{k},Db b k=true↔∀j,j<k->b j=true
 |0=>by simp[Db]
 |k+1=>by
  simp[Db,jO (k:=k)];constructor
  ·rintro⟨d,c⟩j a;by_cases e:j=k
   ·rw[e];exact c
   exact d j E
  intro h;exact⟨λj a=>h j E,h k E⟩
def TJ(p:gV)(u:bT)(hu:XH u){n:Int}(M:iQ n u)(L:List Int)(R:n<=L.length)(D:List Bool)(S:∀x∈L,x<D.length):
 lp Tryz.prog 259 [.box true<|bh p,.box true<|.ints .i64 false L,.box true<|.cz true D] [dQ u,.bC 1000000 0 0 [],.bC 1000001 0 0 [],.bC 1000002 0 0 []]
  [.box true<|bh p,.box true<|.ints .i64 false L,.box true<|.cz true D] (.u<|(mu L<|cR u).all λi=>D.getD i.toNat false):=by
 have q:∀x∈mu L (cR u),0<=x/\x<D.length:=by
  intro x s;unfold mu at s;rw[List.mem_filter]at s;obtain⟨y,P⟩:=s;obtain⟨f,A,rfl⟩:=aeN.1 y;have B:f∈u.ah:=by
   unfold cR at A;split at A
   ·exact agd A
   exact A
  have:=M.feed f B;have O:f.sh.toNat<L.length:=E;refine⟨by simpa using P,?_⟩;rw[adY,aeF O];exact S _<|adC O
 obtain⟨a,r⟩:∃a,a=mu L (cR u):=⟨_,W⟩;obtain⟨b,N⟩:∃b:Nat->Bool,b=λk=>D.getD (a.getD k 0).toNat false:=⟨_,W⟩;obtain⟨m,hm,l⟩:=EZ b a.length;have w:a.all (λi=>D.getD i.toNat false)=Db b a.length:=by
  rw[aip,jO,aeI,N];constructor
  ·intro h k o;have:=h _<|adC o;rw[<-au (d:=(0:Int)) o]at this;exact this
  intro h x s;obtain⟨k,o,rfl⟩:=ahK.1 s;have:=h k o;dsimp only at this;rw[au o]at this;exact this
 rw[<-r]at q⊢;rw[w];refine sE (fn:=Tryz.f259) Tryz.func259 W W W W W<|bP W W (QW p L u) W<|r0 W<|Bv [5,1000002] [5,3] a.length m (λk=>[.i<|a.getD k 0]) (λ_=>[.box true<|.b false,.box true<|.cz true D]) b (λk=>if Db b k=true then none else some .ret) (.bW [])
  rfl W W W W Tryz.func300 W W W W W W (λ_ _=>rfl) (λ_=>rfl) ?_ W W (λk _ h=>if_pos<|jO.2 h) (λC J Q=>OA u hu M L R b m (by rw[<-r];exact hm) C J<|by rw[<-r];exact Q) ?_ ?_ ?_
 ·intro k o z K;simp[adZ,afY,or_false]at K;rcases K with rfl|rfl<;>rfl
 ·intro k o F;have s:=q _<|adC o;rw[<-au (d:=(0:Int)) o]at s;have v:b k=D.getD (a.getD k 0).toNat false:=by rw[N]
  refine r0 W<|rH<|r1 W (by simp only[bo,and_true];omega) ?_;refine ni W W W ?_ ?_<;>intro g
  ·have g:b k=false:=by rw[v];simpa using g
   refine r0 W<|XS [(1000000,.box true<|.b false),(1000001,.box true<|.cz true D)] g (if_neg λh=>by rw[jO]at h;have:=h k E;rw[g]at this;cases this) ⟨⟨W,W,.refl _⟩,⟨W,W,.refl _⟩,U⟩ ⟨G,G,U⟩
  have g:b k=true:=by rw[v];simpa using g
  refine r0 W<|zA [(1000000,.box true<|.b false),(1000001,.box true<|.cz true D)] g (if_pos (jO.2 λj T=>by
   by_cases e:j=k
   ·rw[e];exact g
   exact F j E)) ⟨⟨W,W,.refl _⟩,⟨W,W,.refl _⟩,U⟩ ⟨G,G,U⟩
 ·intro t;have H:Db b a.length=true:=by
   rcases l with⟨y,P⟩|⟨k,k1,rfl,k3,k4⟩
   ·exact jO.2 y
   exfalso;by_cases e:Db b (k+1)=true
   ·have:=jO.1 e k E;rw[k3]at this;cases this
   rw[if_neg e]at t;cases t
  rw[H];refine r0 W<|SN [(5,.box true<|.b true),(1000000,.box true<|bh p),(1000001,.box true<|.ints .i64 false L),(1000002,.box true<|.cz true D)] ⟨⟨W,W,.refl _⟩,⟨W,W,.refl _⟩,⟨W,W,.refl _⟩,⟨W,W,.refl _⟩,U⟩ W (show true=true from W) ⟨G,G,G,U⟩
 intro c t;rcases l with⟨y,rfl⟩|⟨k,k1,rfl,k3,k4⟩
 ·rw[if_pos<|jO.2 y]at t;cases t
 have e:¬Db b (k+1)=true:=λh=>by have:=jO.1 h k E;rw[k3]at this;cases this
 rw[if_neg e,ada]at t;have H:Db b a.length=false:=by
  cases h:Db b a.length with
  |false=>rfl
  |true=>have:=jO.1 h k k1;rw[k3]at this;cases this
 rw[H];refine⟨t.symm,?_⟩;exact SN [(5,.box true<|.b false),(1000000,.box true<|bh p),(1000001,.box true<|.ints .i64 false L),(1000002,.box true<|.cz true D)] ⟨⟨W,W,.refl _⟩,⟨W,W,.refl _⟩,⟨W,W,.refl _⟩,⟨W,W,.refl _⟩,U⟩ W (show false=false from W) ⟨G,G,G,U⟩
def n6(n:Nat)(O:List Int):List Bool:=(List.range n).map λ(i:Nat)=>decide ((i:Int)∈O)
def yp(n:Nat)(O:List Int):(n6 n O).length=n:=by simp[n6]
def yq{n i:Nat}{O:List Int}(h:i<n):(n6 n O).getD i false=decide ((i:Int)∈O):=by unfold n6;rw[adY,agb,ahL h];rfl
def O3{n i:Nat}{O:List Int}(h:i<n):(n6 n O).set i true=n6 n (O++[(i:Int)]):=by
 apply afz
 ·simp[n6]
 intro j k1 k2;simp[n6];by_cases e:i=j
 ·subst e;simp
 have:¬(j:Int)=(i:Int):=E;simp[e,this]
def O4(n:Nat):n6 n []=List.replicate n false:=by
 apply afz
 ·simp[n6]
 intro j k1 k2;simp[n6]
def Qv{us:List bT}{n:Nat}{O:List Int}{u:bT}(hn:∀f∈cR u,0<=f.sh/\f.sh<n):((mu (Ka n us)<|cR u).all λi=>(n6 us.length O).getD i.toNat false)=(cR u).all (kP us O):=by
 generalize cR u=j at*;rw[aip,aeI,aeI];have a:∀f∈j,(Ka n us).getD f.sh.toNat 0=eh us f.sh:=λf b=>by
  have:=hn f b;rw[UX E]
  congr 1;omega
 constructor
 ·intro h f b;unfold kP;rw[decide_eq_true_eq];by_cases g:eh us f.sh<0
  ·exact .inl g
  right;have hm:eh us f.sh∈mu (Ka n us) j:=by unfold mu;rw[List.mem_filter];exact⟨aeN.2 ⟨f,b,a f b⟩,by simpa using g⟩
  have d:=h _ hm;have c:=yo us f.sh;rw[yq E,decide_eq_true_eq]at d;have:((eh us f.sh).toNat:Int)=eh us f.sh:=E;rwa[this]at d
 intro h x e;unfold mu at e;rw[List.mem_filter]at e;obtain⟨k,d⟩:=e;obtain⟨f,b,rfl⟩:=aeN.1 k;rw[a f b]at d⊢;have c:=h f b;unfold kP at c;rw[decide_eq_true_eq]at c d;have l:=yo us f.sh;rw[yq E,decide_eq_true_eq];have:((eh us f.sh).toNat:Int)=eh us f.sh:=E;rw[this];rcases c with c|c
 ·omega
 exact c
def TP(p:gV)(h:rA p)(n:Nat)(hn:p.n=n)(J:∀u∈p.aa,iQ p.n u)(F:p.aa.length<=96):
 aM Tryz.prog 188 [bh p,.ints .i64 false<|Ka n p.aa] (.bW [.ints .i64 true<|if p.aa.length<=(az p.aa).length then az p.aa else[],.u<|decide (p.aa.length<=(az p.aa).length)]):=by
 have y:(Ka n p.aa).length=n:=by simp[Ka]
 have M:∀x∈Ka n p.aa,x<(p.aa.length:Int):=by intro x m;obtain⟨s,-,rfl⟩:=aeN.1 m;exact yo _ _
 refine bS Tryz.func188 W<|r1 W (by simp only[bo,and_true];omega) ?_;refine mkf W W<|bM W (λO:List Int=>[(2,.box true<|bh p),(3,.box true<|.ints .i64 false<|Ka n p.aa),(6,.ints .i64 true O),(7,.box true<|.cz true<|n6 p.aa.length O),(8,.fS 259 [(2,0),(3,0),(7,0)])])
  (λO=>O.Nodup/\(∀x∈O,0<=x/\x<p.aa.length)/\az p.aa=ew p.aa (p.aa.length+1-O.length) O) (λO=>p.aa.length-O.length) [] ⟨ae5,I,W⟩
  ⟨G,G,G,⟨W,ar.of_eq<|by rw[O4];rfl⟩,G,U⟩ ?_
 rintro O⟨l,k,d⟩;have K:=vX l k;refine bQ W W ?_ ?_<;>intro g
 ·have g:O.length<p.aa.length:=E;refine r0 W<|ra (λi:Nat=>[(2,.box true<|bh p),(3,.box true<|.ints .i64 false<|Ka n p.aa),(6,.ints .i64 true O),(7,.box true<|.cz true<|n6 p.aa.length O),(8,.fS 259 [(2,0),(3,0),(7,0)]),(23,.bA false 5 default dQ p.aa),(24,.i p.aa.length),(25,.i i)]) (λi=>i<=p.aa.length/\cY p.aa O 0=cY p.aa O i) (λi=>p.aa.length-i) 0 ⟨adk _,W⟩ ?_;rintro i⟨hi,a⟩;refine bQ W W ?_ ?_<;>intro g1
  ·have b:i<p.aa.length:=E;have t:(i:Int).toNat=i:=E;have H:p.aa.getD i default=p.aa[i]:=au b;have o:=J _<|adC b;rw[jH b]at a;have v:jV p.aa O i=(decide (¬(i:Int)∈O)&&(cR p.aa[i]).all (kP p.aa O)):=by unfold jV;rw[H]
   rw[v]at a;refine r1 W (by simp only[bo,and_true,t,yp];omega) ?_;rw[t,H,yq b];refine iN 35 W ?_ ?_<;>intro g2
   ·have g2:¬(i:Int)∈O:=by simpa using g2
    rw[decide_eq_true g2,afa]at a;refine r0 W<|cc W W (TJ p p.aa[i] (h.unit _<|adC b) o (Ka n p.aa) (by rw[y,hn];omega) (n6 p.aa.length O)<|by rw[yp];exact M) W ?_;rw[Qv (O:=O) λf r=>by
     have w:f∈p.aa[i].ah:=by
      unfold cR at r;split at r
      ·exact agd r
      exact r
     have:=o.feed f w;rw[hn]at this;exact⟨this.1,this.2.1⟩]
    refine r0 W<|ni W W W ?_ ?_<;>intro B
    ·rw[if_pos B]at a;have q:¬cY p.aa O 0<0:=by rw[a];omega
     obtain⟨D,C⟩:=vW l k q;have z:az p.aa=ew p.aa (p.aa.length+1-(O++[(i:Int)]).length) (O++[(i:Int)]):=by
      have e:p.aa.length+1-O.length=(p.aa.length+1-(O++[(i:Int)]).length)+1:=by rw[aeP,aia];omega
      rw[d,e,ew,if_neg q,a]
     rw[a]at D C;refine r1 W (by simp only[bo,and_true,t,yp];simp;omega) ?_;refine again (O++[(i:Int)]) (by simp;omega) ⟨D,C,z⟩ ⟨G,G,G,⟨W,ar.of_eq<|congrArg (SV.box true)<|congrArg (SV.cz true) ?_⟩,G,U⟩;rw[t,O3 b]
    rw[if_neg<|by rw[B];simp]at a;refine r1 W (by simp only[bo,and_true];omega) ?_;refine gS (i+1) ⟨E,a⟩
   have g2:(i:Int)∈O:=by simpa using g2
   rw[decide_eq_false λhh=>hh g2,Bool.false_and,if_neg I]at a;refine r1 W (by simp only[bo,and_true];omega) ?_;refine gS (i+1) ⟨E,a⟩
  rw[mV (j:=i) E]at a;have c:az p.aa=O:=by have e:p.aa.length+1-O.length=(p.aa.length-O.length)+1:=E;rw[d,e,ew,if_pos<|by rw[a];decide]
  rw[c,if_neg E,decide_eq_false E];refine bK W W ⟨W,W,U⟩
 have L:O.length=p.aa.length:=E;have c:az p.aa=O:=by
  have e:p.aa.length+1-O.length=0+1:=E;rw[d,e,ew];have:cY p.aa O 0<0:=by
   rcases oR p.aa O 0 with e|⟨i,-,-,N,A⟩
   ·rw[e];decide
   exfalso;unfold jV at A;simp only[adD,decide_eq_true_eq]at A;have:=vX (us:=p.aa) (out:=(i:Int)::O) (afv.2 ⟨A.1,l⟩) (λx m=>by
    rcases adZ.1 m with rfl|m
    ·omega
    exact k x m)
   simp at this;omega
  rw[if_pos this]
 rw[c,if_pos E,decide_eq_true E];refine bK W W ⟨W,W,U⟩
end Go.Ai.Pg
section
namespace Go.Ai.Pg
open Go.Proofs Go.Ai Go.Ai.eE
def YO{n:Nat}{us:List bT}(h:∀u∈us,aL u.k=0)(s:Nat)(hs:s<n):gW ((DO n us).getD s f0) ((cp n us).getD s 0)/\ri ((DO n us).getD s f0) 600:=by
 have a:∀(us:List bT)(o:List Fr)(q:List Rat),(∀u∈us,aL u.k=0)->o.length=q.length->(∀s,s<o.length->gW (o.getD s f0) (q.getD s 0)/\ri (o.getD s f0) 600)->
  (us.foldl (λ(o:List Fr)u=>o.set u.out.toNat<|aac<|bV u.k) o).length=o.length/\∀s,s<o.length->gW ((us.foldl (λ(o:List Fr)u=>o.set u.out.toNat<|aac<|bV u.k) o).getD s f0) ((us.foldl (λ(o:List Rat)u=>o.set u.out.toNat<|bV u.k) q).getD s 0)/\ri ((us.foldl (λ(o:List Fr)u=>o.set u.out.toNat<|aac<|bV u.k) o).getD s f0) 600:=by
  intro us
  induction us with
  |nil=>intro o q _ _ h;exact⟨W,h⟩
  |cons u us c=>
   intro o q b hl h;have:=c (o.set u.out.toNat<|aac<|bV u.k) (q.set u.out.toNat<|bV u.k) (λv d=>b v<|by simp[d]) (by simpa using hl) (λs hs=>by
    rw[ad2]at hs;have f:s<q.length:=E;rw[adY,adY,agO,agO];by_cases e:u.out.toNat=s
    ·subst e;rw[if_pos W,if_pos W,if_pos hs,if_pos f];exact⟨dP _,fQ<|b u I⟩
    rw[if_neg e,if_neg e];have:=h s hs;rwa[adY]at this)
   rw[ad2]at this;exact this
 have g:=a us (List.replicate n f0) (List.replicate n 0) h I (λs hs=>by rw[au hs,au<|by simpa using hs,List.getElem_replicate,List.getElem_replicate];exact⟨VG,Ja VF fh⟩)
 exact g.2 s (by simpa using hs)
open Classical in
def zX(p:gV)(h:rA p):aM Tryz.prog 107 [bh p] (.i<|dT p):=by
 have V:=h.aa;have Y:=h.ints;refine bS Tryz.func107 W<|cx 3 [(1,.box true<|bh p)] (1<=p.n/\p.n<=100/\p.aa.length<=96/\aK (fW p.n) p.aa=0) ?_ ?_
 ·have O:p.n<1\/100<p.n->3=dT p:=λa=>by unfold dT;rw[if_pos a]
  have e2:¬(p.n<1\/100<p.n)->96<p.aa.length->5=dT p:=λa b=>by unfold dT;rw[if_neg a,if_pos b]
  have e3:¬(p.n<1\/100<p.n)->¬96<p.aa.length->aK (fW p.n) p.aa≠0->aK (fW p.n) p.aa=dT p:=λa b c=>by unfold dT;rw[if_neg a,if_neg b,if_pos c]
  refine bJ W 20 W ?_ ?_<;>intro g1
  ·refine bO W W (nA true 3) W<|bO W W (nA _ 5) W<|bO W W (tp _ I) W<|k0 W aW<|gb W (λg2=>?_) λg2=>absurd (by simp[aK]) g2;refine bK W W<|bR ?_;rw[<-O (.inl E)];simp[aK]
  refine bO W W (nA _ 3) W<|bO W W (nA _ 5) W<|bO W W (tp _ I) W<|k0 W aW<|gb W ?_ ?_<;>intro g2
  ·refine bK W W<|bR ?_;by_cases a:100<p.n
   ·rw[<-O (.inr a)];simp[aK,a]
   have b:96<p.aa.length:=by apply afC;intro b;apply g2;have A:¬(96:Int)<p.aa.length:=E;simp[aK,a,A]
   have A:(96:Int)<p.aa.length:=E;rw[<-e2 E b];simp[aK,a,A]
  have g2:=afI.1 g2;have a:¬100<p.n:=λa=>by simp[aK,a]at g2
  have b:¬96<p.aa.length:=λb=>by have A:(96:Int)<p.aa.length:=E;simp[aK,a,A]at g2
  have Z:=e3 E b;refine r0 W<|ra (λi:Nat=>[(1,.box true<|bh p),(37,.bA false 5 default dQ p.aa),(38,.i p.aa.length),(39,.i i)]) (λi=>i<=p.aa.length/\aK (fW p.n) p.aa=aK (fW p.n) (p.aa.drop i)) (λi=>p.aa.length-i) 0 ⟨adk _,W⟩ ?_;rintro i⟨hi,s⟩;refine bQ W W ?_ ?_<;>intro J
  ·have d:i<p.aa.length:=E;have z:(i:Int).toNat=i:=E;have K:p.aa.getD i default=p.aa[i]:=au d;rw[dA _ d]at s;refine r1 W (by simp only[bo,and_true,z];omega) ?_;rw[z,K];refine bG W (JM p _<|h.unit _<|adC d) W<|bQ W W ?_ ?_<;>intro l
   ·rw[if_pos l]at s;refine bK W W<|bR ?_;rw[<-Z (by rw[s];exact l),s]
   rw[if_neg l]at s;refine r1 W (by simp only[bo,and_true];omega) ?_;exact gS (i+1) ⟨E,s⟩
  refine r0 W<|gm ⟨E,E,E,?_⟩;rw[s,afo E];rfl
 rintro⟨n1,n2,w,N⟩;obtain⟨n,hn⟩:∃n:Nat,p.n=n:=⟨p.n.toNat,E⟩;have v:∀u∈p.aa,iQ p.n u:=λu hu=>p9<|dK.1 N u hu;have o:∀u∈p.aa,1<=u.out/\u.out<n:=λu hu=>by have:=(v u hu).out;omega
 have B:p.n.toNat=n:=E;have f:dT p=if 24<p.ints.length then 5
  else if∃k∈p.ints,k<0\/p.n<=k then 10
  else if 24<dq p.aa then 5
  else if¬u9 n p.aa then 19
  else if(az p.aa).length<p.aa.length then 18
  else if∃u∈p.aa,conflict n p.aa u then 30 else 0:=by
  unfold dT;rw[if_neg E,if_neg E,if_neg<|by rw[N];simp,B]
 refine oN (r:=1) (p:=[]) W W U<|cx 2 [(1,.box false<|bh p)] (¬24<p.ints.length/\(¬∃k∈p.ints,k<0\/p.n<=k)/\¬24<dq p.aa) ?_ ?_
 ·refine bP W W (JH p p.ints E) W<|bO W W (nA _ 5) W<|bO W W (nA _ 10) W<|bO W W (UG p h) W<|bO W W (nA _ 5) W<|bO W W (tp _ I) W<|k0 W aW ?_;by_cases a:24<p.ints.length
  ·have t:(24:Int)<p.ints.length:=E;rw[if_pos a]at f;refine gb W (λg=>?_) λg=>absurd (by simp[aK,t]) g;refine bK W W<|bR ?_;rw[f];simp[aK,t]
  have t:¬(24:Int)<p.ints.length:=E;rw[if_neg a]at f;by_cases b:∃k∈p.ints,k<0\/p.n<=k
  ·rw[if_pos b]at f;have he:aK id [if decide ((24:Int)<p.ints.length)=true then 5 else 0,if decide (∃k∈p.ints,k<0\/p.n<=k)=true then 10 else 0,if decide ((24:Int)<dq p.aa)=true then(5:Int)else 0]=10:=by
    rw[decide_eq_true b];simp[aK,t]
   refine gb W (λg=>?_) λg=>absurd (by rw[he];decide) g;refine bK W W<|bR ?_;rw[f];exact he
  rw[if_neg b]at f;have he:aK id [if decide ((24:Int)<p.ints.length)=true then 5 else 0,if decide (∃k∈p.ints,k<0\/p.n<=k)=true then 10 else 0,if decide ((24:Int)<dq p.aa)=true then(5:Int)else 0]=if 24<dq p.aa then 5 else 0:=by
   rw[decide_eq_false b];by_cases c:24<dq p.aa
   ·have L:(24:Int)<dq p.aa:=E;simp[aK,t,c,L]
   have L:¬(24:Int)<dq p.aa:=E;simp[aK,t,c,L]
  refine gb W ?_ ?_<;>intro g
  ·refine bK W W<|bR ?_;by_cases c:24<dq p.aa
   ·rw[if_pos c]at f he;rw[f];exact he
   rw[if_neg c]at he;exact absurd he g
  have g:=afI.1 g;refine r0 W<|gm ⟨a,b,λc=>?_⟩;rw[if_pos c]at he;have g:aK id [if decide ((24:Int)<p.ints.length)=true then 5 else 0,if decide (∃k∈p.ints,k<0\/p.n<=k)=true then 10 else 0,if decide ((24:Int)<dq p.aa)=true then(5:Int)else 0]=0:=g;rw[he]at g;simp at g
 rintro⟨a1,a2,a3⟩;rw[if_neg a1,if_neg a2,if_neg a3]at f;obtain⟨P,d2⟩:=O0 (us:=p.aa) (n:=n) E o;refine bP W W (O2 p h n hn E E o) W<|r0 W<|ni W W W ?_ ?_<;>intro g
 ·have g:(GL n p.aa).2=false:=by simpa using g
  refine bK W W<|bR ?_;rw[f,if_pos λF=>by rw[P.2 F]at g;simp at g]
 have g:(GL n p.aa).2=true:=by simpa using g
 rw[if_neg λF=>F<|P.1 g]at f;rw[d2 g];refine bP W W (TP p h n hn v w) W<|r0 W<|ni W W W ?_ ?_<;>intro g2
 ·have g2:¬p.aa.length<=(az p.aa).length:=by simpa using g2
  refine bK W W<|bR ?_;rw[f,if_pos E]
 have g2:p.aa.length<=(az p.aa).length:=by simpa using g2
 rw[if_neg E]at f;refine bP W W (U3 p h n hn E E v) W<|r0 W<|ra (λi:Nat=>[(13,.bA true 4 f0 eF<|DO n p.aa),(88,.bA false 5 default dQ p.aa),(89,.i p.aa.length),(90,.i i)]) (λi=>i<=p.aa.length/\¬∃u∈p.aa.take i,conflict n p.aa u) (λi=>p.aa.length-i) 0 ⟨adk _,I⟩ ?_;rintro i⟨hi,m⟩;refine bQ W W ?_ ?_<;>intro J
 ·have d:i<p.aa.length:=E;have z:(i:Int).toNat=i:=E;have K:p.aa.getD i default=p.aa[i]:=au d;have j:=v _<|adC d;refine r1 W (by simp only[bo,and_true,z];omega) ?_;rw[z,K];refine gb W ?_ ?_<;>intro l
  ·have l:p.aa[i].kind=dy:=l;have X:=j.table l;have D:p.aa[i].ah.getD 0 default∈p.aa[i].ah:=by rw[au E];exact adC _
   have q:=j.feed _ D;have H:=JW n p.aa;obtain⟨R,Q⟩:=YO (n:=n) (us:=p.aa) (λu hu=>(v u hu).k) (p.aa[i].ah.getD 0 default).sh.toNat E;refine r1 W (by simp only[bo,and_true];omega) ?_;refine bH W (qG q.2.2.1) W<|r1 W (by simp only[bo,and_true,H,Int.toNat_zero];omega) ?_;obtain⟨m1,M⟩:=tg _ _ (dP<|bV (p.aa[i].ah.getD 0 default).dZ) R (fQ q.2.2.1) Q;refine bH W (Ch _ _ (dP _) R (fQ q.2.2.1) Q fh) W<|k0 W aW<|bH W (S5 _ j.dI E _ m1 M fh) W<|bO W W (qG j.k) W<|r0 W ?_;obtain⟨T,S⟩:=yI m1 M (cs:=p.aa[i].dI) j.dI;refine bH W (Uu _ _ T (dP<|bV p.aa[i].k) S (fQ j.k) (by have:p.aa[i].dI.length*(600+600+601)<=13*(600+600+601):=aeX _ X.2.2;omega)) W ?_;refine k0 W aW ?_;have x:conflict n p.aa p.aa[i]↔¬wu (bV (p.aa[i].ah.getD 0 default).dZ*(cp n p.aa).getD (p.aa[i].ah.getD 0 default).sh.toNat 0) (p.aa[i].dI.map bV)=bV p.aa[i].k:=⟨λhc e=>hc.2 e.symm,λC=>⟨l,λe=>C e.symm⟩⟩
   refine ni W W W ?_ ?_<;>intro y
   ·simp only[af9,decide_eq_false_iff_not]at y;refine bK W W<|bR ?_;rw[f,if_pos ⟨_,adC d,x.2 y⟩]
   simp only[Bool.not_eq_false',decide_eq_true_eq]at y;refine r1 W (by simp only[bo,and_true];omega) ?_;exact gS (i+1) ⟨E,jI d m λhc=>x.1 hc y⟩
  have l:¬p.aa[i].kind=dy:=l;refine r1 W (by simp only[bo,and_true];omega) ?_;exact gS (i+1) ⟨E,jI d m λhc=>l hc.1⟩
 refine bK W W<|bR ?_;rw[adM E]at m;rw[f,if_neg m]
end Go.Ai.Pg
end
