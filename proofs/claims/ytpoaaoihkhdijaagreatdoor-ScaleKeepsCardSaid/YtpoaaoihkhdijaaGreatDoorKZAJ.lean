/- Parts of the proof of ScaleKeeps (as AIM.md's row tells), at every input, with no further conditions. -/
import Derived.Test.YtpoaaoihkhdijaaGreatDoorKZAI
set_option linter.all false
set_option maxRecDepth 100000
set_option maxHeartbeats 0
namespace Go.Ai
open Go.Proofs Go.RowKit
section
variable{s:ck}
def mb(s:ck):Bool:=s.all λc=>decide (48<=c.toNat/\c.toNat<=57)
def mC:mb s=true↔dh s:=by simp[mb,dh]
def DG(s:ck)(hl:s.length<2^60):aM Tryz.prog 266 [.s s] (.u<|mb s):=by
 refine bS Tryz.func266 W<|bM W (λi:Nat=>[(0,.s s),(3,.i i)]) (λi=>i<=s.length/\∀k,k<i->48<=(s.getD k 0).toNat/\(s.getD k 0).toNat<=57) (λi=>s.length-i) 0 ⟨aaM _,λk h=>E⟩ ⟨G,G,U⟩ ?_;rintro i⟨hi,m⟩;refine bQ W W ?_ ?_<;>intro h
 ·have b:i<s.length:=E;have a:(i:Int).toNat=i:=E;have d:¬(48<=(s.getD i 0).toNat/\(s.getD i 0).toNat<=57)->false=mb s:=by
   intro hn;symm;rw[Bool.eq_false_iff];intro n;have:=mC.1 n s[i]<|abw b;have e:s.getD i 0=s[i]:=by simp[abx,abA b]
   rw[<-e]at this;exact hn this
  refine r1 W (by simp[ag,and_true,a];omega) ?_;refine aC 14 W ?_ ?_<;>intro j
  ·rw[a]at j;refine bK W W<|d E
  rw[a]at j;refine r1 W (by simp[ag,and_true,a];omega) ?_;refine gg W ?_ ?_<;>intro f
  ·rw[a]at f;refine bK W W<|d E
  rw[a]at f;refine r1 W (by simp[ag,and_true];omega) ?_;refine again (i+1) E ⟨E,λk l=>?_⟩ ⟨G,G,U⟩;rcases abM k i with g|g
  ·exact m k g
  rw[show k=i from E];omega
 refine bK W W ?_;show true=mb s;symm;rw[mC];intro c hc;obtain⟨k,l,rfl⟩:=adz hc;have e:s.getD k 0=s[k]:=by simp[abx,abA l]
 rw[<-e];exact m k E
def fY(s:ck):Bool:=if s.length=0 then false else if 1<s.length/\(s.getD 0 0).toNat=48 then false else mb s
def oH(s:ck)(hl:s.length<2^60):aM Tryz.prog 197 [.s s] (.u<|fY s):=by
 have c:(0:Int).toNat=0:=W;refine bS Tryz.func197 W<|cx 2 [(0,.s s)] (fY s=mb s) ?_ λa=>?_
 ·refine bJ W 6 W ?_ ?_<;>intro e
  ·refine bK W W ?_;show false=fY s;unfold fY;rw[if_pos E]
  have a:fY s=if 1<s.length/\(s.getD 0 0).toNat=48 then false else mb s:=by unfold fY;rw[if_neg E]
  refine bJ W 10 W ?_ ?_<;>intro d
  ·refine r1 W (by simp[ag];omega) ?_;refine gg W ?_ ?_<;>intro b
   ·rw[c]at b;refine bK W W ?_;show false=fY s;rw[a,if_pos ⟨E,E⟩]
   rw[c]at b;refine bL W (by rw[a,if_neg E]) ⟨G,U⟩
  refine bL W (by rw[a,if_neg E]) ⟨G,U⟩
 refine bP W W (DG s hl) W<|bK W W ?_;rw[a];exact ar.refl _
def ny(h:fY s=true):dh s/\0<s.length:=by
 unfold fY at h;split at h
 ·cases h
 split at h
 ·cases h
 exact⟨mC.1 h,E⟩
def EL(h:dh s):isNeg s=false:=by
 refine decide_eq_false ?_;rintro⟨a,b⟩;have hm:s.getD 0 0∈s:=by simp[abA a]
 have:=h _ hm;omega
def xb(h:dh s):bz s=s:=by unfold bz;rw[EL h];rfl
def wo(h:dh s):B5 s=cJ s:=by unfold B5;rw[EL h,xb h];rfl
def vV(s:ck)(hs:dh s)(hl:s.length<2^46):aM Tryz.prog 156 [.s s] (j0 (cJ s:Int)):=by have:=zu s (by rw[xb hs];exact hs) hl;rwa[wo hs]at this
def F6(b:ck)(e:aw b<b.length)(hu:dh (b.take<|aw b))(c:dh (b.drop<|aw b+1))(hl:b.length<2^46):
 aM Tryz.prog 82 [.s b] (.bW [j0 (cJ (b.take<|aw b):Int),j0 (cJ (b.drop<|aw b+1):Int)]):=by
 refine bS Tryz.func82 W<|bP W W (j9 b E) W<|bQ W W (λa=>absurd a E) λa=>?_;have d:((aw b:Nat):Int).toNat=aw b:=E;refine r1 W (by simp[ag];omega) ?_;refine cd W (by rw[d];rfl) (vV _ hu<|by simp;omega) W ?_;refine r1 W (by simp[ag];omega) ?_;refine cd W (by rw[acz];rfl) (vV _ c<|by simp;omega) W ?_;refine k0 W aW<|bF W
def Dq{t:ck}(h:dh t):(ae<|cJ t).length<=t.length+1:=by
 have b:=l0 h;rcases gw (cJ t)with g|g
 ·rw[g];simp
 rcases abM (t.length+1) (ae<|cJ t).length with a|a
 ·rw[vS]at g;have:=acp (show 0<10 from fh) (show t.length<=9*((ae<|cJ t).length-1)from E);omega
 exact a
def iw(s:ck):Bool:=fY ((bz s).take<|aw<|bz s)&& !(isNeg s&&decide ((bz s).take (aw<|bz s)=[48]))
def jB(s:ck):Bool:= !decide (aw (bz s)<(bz s).length)||(fY ((bz s).drop<|aw (bz s)+1)&& !decide ((bz s).drop (aw (bz s)+1)=[48])&& !decide ((bz s).drop (aw (bz s)+1)=[49]))
def oY(s:ck):Bool:= !decide (aw (bz s)<(bz s).length)||decide (Nat.gcd (cJ<|(bz s).take<|aw<|bz s) (cJ<|(bz s).drop<|aw (bz s)+1)=1)
def aL(s:ck):Int:=if iw s then(if jB s then(if 600<aw (bz s)\/aw (bz s)+601<(bz s).length then 4 else if oY s then 0 else 1)else 1)else 1
def check_sound(s:ck)(hl:s.length<2^45):aM Tryz.prog 117 [.s s] (.i<|aL s):=by
 have B:=xa s;have z:=pf<|bz s;have F:(0:Int).toNat=0:=W;refine bS Tryz.func117 W<|cx 3 [(0,.s s),(3,.s<|bz s)] True ?_ λ_=>?_
 ·refine bJ W 12 W ?_ ?_<;>intro h
  ·refine r1 W (by simp only[ag,and_true];omega) ?_;refine gg W ?_ ?_<;>intro a
   ·have hn:isNeg s=true:=by unfold isNeg;exact decide_eq_true ⟨E,by simpa using aeB a⟩
    refine r1 W (by simp only[ag,and_true];omega) ?_;exact aN U ⟨G,⟨W,ar.of_eq<|congrArg SV.s<|by simp[bz,hn]⟩,U⟩
   have hn:isNeg s=false:=by unfold isNeg;exact decide_eq_false λhh=>a (by rw[show(s.getD (0:Int).toNat 0).toNat=45 from hh.2];rfl)
   refine bL W U ⟨G,⟨W,ar.of_eq<|congrArg SV.s<|by simp[bz,hn]⟩,U⟩
  have hn:isNeg s=false:=by unfold isNeg;exact decide_eq_false λhh=>E
  refine bL W U ⟨G,⟨W,ar.of_eq<|congrArg SV.s<|by simp[bz,hn]⟩,U⟩
 have x:((aw (bz s):Nat):Int).toNat=aw (bz s):=E;have u:(((aw (bz s):Nat):Int)+1).toNat=aw (bz s)+1:=E;refine cx 2 [(0,.s s),(3,.s<|bz s),(4,.i<|aw<|bz s)] (iw s=true) ?_ λn=>?_
 ·refine bP W W (j9 (bz s) E) W<|r1 W (by simp only[ag,and_true];omega) ?_;refine cl W (by rw[x];rfl) (oH ((bz s).take<|aw<|bz s)<|by simp;omega) W ?_;refine r0 W<|iN 26 W ?_ ?_<;>intro h
  ·have n:iw s=false:=by unfold iw;simp at h;simp[h]
   refine bK W W<|bR ?_;unfold aL;rw[n];rfl
  have l:fY ((bz s).take<|aw<|bz s)=true:=by simpa using h
  have A:=(ny l).2;have w:0<s.length:=by simp at A;omega
  refine r1 W (by simp only[ag,and_true];omega) ?_;refine aC 30 W ?_ ?_<;>intro a
  ·have hn:isNeg s=true:=by unfold isNeg;exact decide_eq_true ⟨w,by simpa using aeB a⟩
   refine r1 W (by simp only[ag,and_true];omega) ?_;refine gg W ?_ ?_<;>intro c
   ·rw[x]at c;have c:(bz s).take (aw<|bz s)=[48]:=c;have n:iw s=false:=by unfold iw;rw[hn,l,decide_eq_true c];rfl
    refine bK W W<|bR ?_;unfold aL;rw[n];rfl
   rw[x]at c;have c:¬(bz s).take (aw<|bz s)=[48]:=c;refine bL W (by unfold iw;rw[hn,l,decide_eq_false c];rfl) ⟨G,G,G,U⟩
  have hn:isNeg s=false:=by unfold isNeg;exact decide_eq_false λhh=>a (by rw[show(s.getD (0:Int).toNat 0).toNat=45 from hh.2];rfl)
  refine bL W (by unfold iw;rw[hn,l];rfl) ⟨G,G,G,U⟩
 have b:aL s=(if jB s then(if 600<aw (bz s)\/aw (bz s)+601<(bz s).length then 4 else if oY s then 0 else 1)else 1):=by unfold aL;rw[n];rfl
 have o:∀k,((bz s).drop k).length<=s.length:=λk=>by simp;omega
 have v:∀k,((bz s).take k).length<=s.length:=λk=>by simp;omega
 refine cx 1 [(0,.s s),(3,.s<|bz s),(4,.i<|aw<|bz s)] (jB s=true) ?_ λp=>?_
 ·refine bJ W 41 W ?_ ?_<;>intro h
  ·have j:aw (bz s)<(bz s).length:=E;have m:jB s=(fY ((bz s).drop<|aw (bz s)+1)&& !decide ((bz s).drop (aw (bz s)+1)=[48])&& !decide ((bz s).drop (aw (bz s)+1)=[49])):=by unfold jB;rw[decide_eq_true j];rfl
   have e:jB s=false->(1:Int)=aL s:=by intro h;rw[b,h];rfl
   have r:(List.take (bz s).length<|bz s)=bz s:=acz;refine r1 W (by simp only[ag,and_true];omega) ?_;refine cl W (by rw[u,r];rfl) (oH ((bz s).drop<|aw (bz s)+1) (by have:=o<|aw (bz s)+1;omega)) W ?_;refine r0 W<|iN 48 W ?_ ?_<;>intro d
   ·refine bK W W<|ar.of_eq<|congrArg SV.i<|e<|by rw[m];simp at d;rw[d];rfl
   have d:fY ((bz s).drop<|aw (bz s)+1)=true:=by simpa using d
   refine r1 W (by simp only[ag,and_true];omega) ?_;refine aC 55 W ?_ ?_<;>intro a
   ·rw[u,r]at a;have a:(bz s).drop (aw (bz s)+1)=[48]:=a;refine bK W W<|ar.of_eq<|congrArg SV.i<|e<|by rw[m,d,decide_eq_true a];rfl
   rw[u,r]at a;have a:¬(bz s).drop (aw (bz s)+1)=[48]:=a;refine r1 W (by simp only[ag,and_true];omega) ?_;refine gg W ?_ ?_<;>intro c
   ·rw[u,r]at c;have c:(bz s).drop (aw (bz s)+1)=[49]:=c;refine bK W W<|ar.of_eq<|congrArg SV.i<|e<|by rw[m,d,decide_eq_true c,Bool.and_comm];rfl
   rw[u,r]at c;have c:¬(bz s).drop (aw (bz s)+1)=[49]:=c;refine bL W (by rw[m,d,decide_eq_false a,decide_eq_false c];rfl) ⟨G,G,G,U⟩
  have j:¬aw (bz s)<(bz s).length:=E;refine bL W (by unfold jB;rw[decide_eq_false j];rfl) ⟨G,G,G,U⟩
 rw[p]at b;refine cx 1 [(3,.s<|bz s),(4,.i<|aw<|bz s)] (¬(600<aw (bz s)\/aw (bz s)+601<(bz s).length)) ?_ λC=>?_
 ·have e:(600<aw (bz s)\/aw (bz s)+601<(bz s).length)->(4:Int)=aL s:=by intro h;rw[b,if_pos W,if_pos h]
  refine bJ W 65 W ?_ ?_<;>intro h
  ·refine bK W W<|ar.of_eq<|congrArg SV.i<|e E
  refine r1 W (by simp only[ag,and_true,len]<;>omega) ?_;refine gg W ?_ ?_<;>intro a
  ·refine bK W W<|ar.of_eq<|congrArg SV.i<|e E
  refine bL W E ⟨G,G,U⟩
 rw[if_pos W,if_neg C]at b;refine bQ W W ?_ ?_<;>intro h
 ·have j:aw (bz s)<(bz s).length:=E;have hu:dh ((bz s).take<|aw<|bz s):=by
   unfold iw at n;exact(ny<|by simp at n;exact n.1).1
  have y:dh ((bz s).drop<|aw (bz s)+1):=by unfold jB at p;rw[decide_eq_true j]at p;exact(ny<|by simp at p;exact p.1.1).1
  have D:oY s=decide (Nat.gcd (cJ<|(bz s).take<|aw<|bz s) (cJ<|(bz s).drop<|aw (bz s)+1)=1):=by unfold oY;rw[decide_eq_true j];rfl
  have f:∀t:ck,dh t->t.length<=600->(ae<|cJ t).length<2^36:=by intro t d a;have:=Dq d;omega
  refine bP W W (F6 (bz s) j hu y E) W<|bP W W (wV (cJ<|(bz s).take<|aw<|bz s) (cJ<|(bz s).drop<|aw (bz s)+1) (f _ hu<|by rw[abH];omega)<|f _ y<|by rw[acB];omega) W ?_;rw[D]at b;have g:=zU (q:=Nat.gcd (cJ<|(bz s).take<|aw<|bz s)<|cJ<|(bz s).drop<|aw (bz s)+1);refine bJ W 90 W ?_ ?_<;>intro d
  ·refine bK W W<|bR ?_;rw[b,decide_eq_false λh=>d (by have:=(g.2 h).1;omega)];rfl
  refine r1 W ba<|gg W ?_ ?_<;>intro a
  ·refine bK W W<|bR ?_;rw[b,decide_eq_false λh=>a (g.2 h).2];rfl
  refine bK W W<|bR ?_;rw[b,decide_eq_true<|g.1 ⟨E,by simpa using a⟩];rfl
 have j:¬aw (bz s)<(bz s).length:=E;refine bK W W<|bR ?_;rw[b];unfold oY;rw[decide_eq_false j];rfl
end
def Lg{t:ck}{c:UInt8}(h:t≠[]):(t++[c]).getD 0 0=t.getD 0 0:=wz<|adX.2 h
def E6:∀(n:Nat)(s:ck),s.length=n->dh s->0<s.length->(1<s.length->(s.getD 0 0).toNat≠48)->decl (cJ s) 1=s/\((s.getD 0 0).toNat≠48->0<cJ s)
 |0,s,h,_,j,_=>E
 |n+1,s,h,k,j,o=>by
  obtain⟨t,c,rfl⟩:∃t c,s=t++[c]:=by have:=List.dropLast_concat_getLast (l:=s)<|adX.1 j;exact⟨_,_,this.symm⟩
  have hc:=k c I;have d:RU (c.toNat-48)=c:=by apply aeA.1;rw[yu E];omega
  rw[tc];by_cases i:t=[]
  ·subst i;have e:cJ []=0:=W;rw[e];constructor
   ·rw[cC E,show(10*0+(c.toNat-48))/10=0 from E,show(10*0+(c.toNat-48))%10=c.toNat-48 from E,d];rw[dp]
   intro m;have m:c.toNat≠48:=m;omega
  have g:=adX.2 i;have b:=o (by simp;omega);rw[Lg i]at b;obtain⟨f,a⟩:=E6 n t (by simpa using h) (λx p=>k x<|by simp[p]) g λ_=>b;have a:=a b;constructor
  ·rw[cC E,show(10*cJ t+(c.toNat-48))/10=cJ t from E,show(10*cJ t+(c.toNat-48))%10=c.toNat-48 from E,d];rw[JC a,f]
  intro _;omega
def CJ{s:ck}(h:fY s=true):decl (cJ s) 1=s:=by have a:=ny h;refine(E6 _ s W a.1 a.2 λc b=>?_).1;unfold fY at h;rw[if_neg E,if_pos ⟨c,b⟩]at h;cases h
def Fk(s:ck):s=(if isNeg s then[45]else[])++bz s:=by
 unfold bz;by_cases h:isNeg s=true
 ·rw[h];have a:=of_decide_eq_true h
  match s,a with
  |c::t,a=>have:c=45:=aeA.1 a.2;subst this;rfl
 simp at h;rw[h];rfl
def HJ{b:ck}(h:aw b<b.length):b=b.take (aw b)++47::b.drop (aw b+1):=by
 have a:=xA h;have e:b.getD (aw b) 0=b[aw b]:=by simp[abA h]
 rw[e]at a
 conv=>lhs;rw[<-aed (aw b) b,abO h,a]
def Dc(q:Rat)(n:Nat):Prop:=(decl q.num.natAbs 1).length<=n/\(decl q.den 1).length<=n
def vc{s:ck}(h:aL s=0):∃q:Rat,s=qt q/\Dc q 600:=by
 unfold aL at h;split at h<;>try(cases h)
 rename_i y;split at h<;>try(cases h)
 rename_i x;split at h<;>try(cases h)
 split at h<;>try(cases h)
 rename_i w;have A:=pf<|bz s;simp only[iw,aby,ado]at y;obtain⟨v,i⟩:=y;have hu:=CJ v;have l:((bz s).take<|aw<|bz s).length<=600:=by rw[abH];omega
 generalize m:cJ ((bz s).take<|aw<|bz s)=a at hu;have e:isNeg s=true->a≠0:=by intro hn j;rw[hn,ab3]at i;have:=of_decide_eq_false i;rw[<-hu,j]at this;exact this (by simp[cC,dp];rfl)
 have d:∀b:Nat,b≠0->Nat.gcd a b=1->bz s=decl a 1++fk b->(decl b 1).length<=600->∃q:Rat,s=qt q/\Dc q 600:=by
  intro b B p f o;have g:(AG (isNeg s) (a:Int)).natAbs.Coprime b:=by rw[lO];exact p
  refine⟨⟨AG (isNeg s) (a:Int),b,B,g⟩,?_,?_,o⟩
  ·conv=>lhs;rw[Fk s,f]
   unfold qt uI cK;dsimp only;rw[lO];by_cases hn:isNeg s=true
   ·have:=e hn;rw[if_pos hn,if_pos<|by rw[hn];simp[AG];omega];rfl
   simp[Bool.not_eq_true]at hn;rw[if_neg<|by rw[hn];simp,if_neg<|by rw[hn];simp[AG]];rfl
  show(decl (AG (isNeg s) (a:Int)).natAbs 1).length<=600;rw[lO,hu];exact l
 by_cases n:aw (bz s)<(bz s).length
 ·simp only[jB,decide_eq_true n,aeZ,ad0,aby,ado]at x;obtain⟨⟨u,t⟩,r⟩:=x;have c:=CJ u;have k:((bz s).drop<|aw (bz s)+1).length<=600:=by rw[acB];omega
  simp[oY,decide_eq_true n,aeZ,ad0,decide_eq_true_eq,m]at w;generalize z:cJ ((bz s).drop<|aw (bz s)+1)=b at c w;have D:b≠0:=by intro j;rw[j]at c;exact of_decide_eq_false t (by rw[<-c];simp[cC,dp];rfl)
  have C:b≠1:=by intro j;rw[j]at c;exact of_decide_eq_false r (by rw[<-c];simp[cC,dp];rfl)
  refine d b D w ?_ (by rw[c];exact k)
  conv=>lhs;rw[HJ n]
  rw[hu,nF C,c]
 refine d 1 fh I ?_ (by simp[cC,dp]);rw[hu];have:aw (bz s)=(bz s).length:=E;rw[this,acz];simp[fk]
def qO{n k:Nat}(h:(decl n 1).length<=9*k):(ae n).length<=k:=by
 have b:=wQ h;rcases gw n with g|g
 ·rw[g];simp
 rcases abM k (ae n).length with a|a
 ·rw[vS]at g;have:=acp (show 0<10 from fh) (show 9*k<=9*((ae n).length-1)from E);omega
 exact a
def Dc.sz{q:Rat}(h:Dc q 600):Sz q 67:=⟨qO (k:=67) (by have:=h.1;omega),qO (k:=67) (by have:=h.2;omega)⟩
section
variable{i:Nat}{s:ck}{α:Type}{l:List α}
def aK{α:Type}(f:α->Int):List α->Int
 |[]=>0
 |x::l=>if f x≠0 then f x else aK f l
def dA[Inhabited α](f:α->Int)(h:i<l.length):aK f (l.drop i)=if f (l[i])≠0 then f (l[i])else aK f (l.drop<|i+1):=by rw[abO h];rfl
def au{d:α}(h:i<l.length):l.getD i d=l[i]:=by simp[abA h]
def ct(s:ck):Prop:=s.length<2^45
def CX(xs:List ck)(e:∀s∈xs,ct s)(hl:xs.length<2^60):aM Tryz.prog 176 [.strs false xs] (.i<|aK aL xs):=by
 refine bS Tryz.func176 W<|bM W (λi:Nat=>[(0,.strs false xs),(3,.i i)]) (λi=>i<=xs.length/\aK aL xs=aK aL (xs.drop i)) (λi=>xs.length-i) 0 ⟨aaM _,W⟩ ⟨G,G,U⟩ ?_;rintro i⟨hi,b⟩;refine bQ W W ?_ ?_<;>intro h
 ·have a:i<xs.length:=E;have d:(i:Int).toNat=i:=E;have f:xs.getD i []=xs[i]:=au a;rw[dA _ a]at b;refine r1 W (by simp[ag,d];omega) ?_;refine cl W (by rw[d,f];rfl) (check_sound xs[i]<|e _<|abw a) W ?_;refine bQ W W ?_ ?_<;>intro c
  ·refine bK W W<|ar.of_eq<|congrArg SV.i<|by rw[b,if_pos c]
  refine r1 W (by simp[ag];omega) ?_;exact again (i+1) E ⟨E,by rw[b,if_neg c]⟩ ⟨G,G,U⟩
 refine bK W W<|bR ?_;rw[b,show i=xs.length from E,acN];rfl
def dK{α:Type}{f:α->Int}:∀{l:List α},aK f l=0↔∀x∈l,f x=0
 |[]=>by simp[aK]
 |x::l=>by
  simp only[aK];by_cases h:f x=0
  ·rw[if_neg<|by simpa using h,dK];simp[h]
  rw[if_pos h];simp[h]
structure fD where
 lo:ck
 hi:ck
 deriving Inhabited
def dX(s:fD):SV:=.agg [.s s.lo,.s s.hi]
noncomputable def bV(s:ck):Rat:=if h:aL s=0 then(vc h).choose else 0
def fZ(h:aL s=0):qt (bV s)=s:=by unfold bV;rw[dif_pos h];exact(vc h).choose_spec.1.symm
def LB(h:aL s=0):Dc (bV s) 600:=by unfold bV;rw[dif_pos h];exact(vc h).choose_spec.2
def fi(h:aL s=0):Sz (bV s) 67:=(LB h).sz
noncomputable def iz(s:fD):Int:=if aL s.lo≠0 then aL s.lo else if aL s.hi≠0 then aL s.hi else if 0<CV (bV s.lo) (bV s.hi)then 11 else 0
def AA(s:fD)(f:ct s.lo)(e:ct s.hi):aM Tryz.prog 125 [dX s] (.i<|iz s):=by
 refine bS Tryz.func125 W<|bP W W (check_sound s.lo f) W<|bQ W W ?_ ?_<;>intro b
 ·refine bP W W (check_sound s.hi e) W<|bJ W 14 W ?_ ?_<;>intro a
  ·refine r0 W ?_;have hc:=tA (bV s.lo) (bV s.hi) (fi b) (fi a) fh;rw[fZ b,fZ a]at hc;refine bG W hc W<|r0 W ?_;have hs:iz s=if 0<CV (bV s.lo) (bV s.hi)then 11 else 0:=by unfold iz;rw[if_neg<|by simpa using b,if_neg<|by simpa using a]
   refine gg W ?_ ?_<;>intro d
   ·refine bK W W<|ar.of_eq<|congrArg SV.i<|by rw[hs,if_pos d]
   refine bK W W<|ar.of_eq<|congrArg SV.i<|by rw[hs,if_neg d,a]
  refine bK W W<|ar.of_eq<|congrArg SV.i<|by unfold iz;rw[if_neg<|by simpa using b,if_pos a]
 have c:¬aL s.lo=0:=b;refine bJ W 14 W (λa=>absurd a c) λa=>?_;refine bK W W<|ar.of_eq<|congrArg SV.i<|by unfold iz;rw[if_pos c]
def CY(xs:List fD)(e:∀s∈xs,ct s.lo/\ct s.hi)(hl:xs.length<2^60):aM Tryz.prog 51 [.bA false 2 default dX xs] (.i<|aK iz xs):=by
 refine bS Tryz.func51 W<|bM W (λi:Nat=>[(0,.bA false 2 default dX xs),(3,.i i)]) (λi=>i<=xs.length/\aK iz xs=aK iz (xs.drop i)) (λi=>xs.length-i) 0 ⟨aaM _,W⟩ ⟨G,G,U⟩ ?_;rintro i⟨hi,b⟩;refine bQ W W ?_ ?_<;>intro h
 ·have a:i<xs.length:=E;have d:(i:Int).toNat=i:=E;have f:xs.getD i default=xs[i]:=au a;rw[dA _ a]at b;have hh:=e _<|abw a;refine r1 W (by simp[ag,d];omega) ?_;refine cl W (by rw[d,f];rfl) (AA xs[i] hh.1 hh.2) W ?_;refine bQ W W ?_ ?_<;>intro c
  ·refine bK W W<|ar.of_eq<|congrArg SV.i<|by rw[b,if_pos c]
  refine r1 W (by simp[ag];omega) ?_;exact again (i+1) E ⟨E,by rw[b,if_neg c]⟩ ⟨G,G,U⟩
 refine bK W W<|bR ?_;rw[b,show i=xs.length from E,acN];rfl
end
def Sz.num{q:Rat}{K:Nat}(h:Sz q K):Sz (q.num:Rat) (K+1):=by
 constructor
 ·simpa using aeY h.1
 simp[iG]
def Eg(z:Int):qt (mD (z:Rat))=decl z.natAbs 1:=by
 unfold mD;rw[Rat.num_intCast];split
 ·rename_i h;have:=(Rat.intCast_neg z).symm;rw[this,nL];unfold cK;rw[if_neg E,aez]
 rename_i h;rw[nL];unfold cK;rw[if_neg h]
def KI(d:Nat):qt (d:Rat)=decl d 1:=(nL (d:Int)).trans<|IK d
instance(q:Rat)(n:Nat):Decidable (Dc q n):=by unfold Dc;infer_instance
noncomputable def mL(s:ck)(n:Nat):Bool:=decide (s.length<=2*n+2/\aL s=0/\Dc (bV s) n)
def yf(s:ck)(n:Nat)(d:ct s)(hn:n<2^40):aM Tryz.prog 221 [.s s,.i n] (.u<|mL s n):=by
 refine bS Tryz.func221 W<|r1 W (by simp[ag,and_true];omega) ?_;refine aC 11 W ?_ ?_<;>intro g1
 ·refine bP W W (check_sound s d) W<|bJ W 16 W ?_ ?_<;>intro g2
  ·have a:=fi g2;have e:=fZ g2;have n1:=En (bV s)<|a.tQ fh;have c:=E3 (bV s)<|a.tQ fh;rw[e]at n1 c;refine bP W W n1 W<|bG W (pV ((bV s).num:Rat)<|a.num.tQ fh) W ?_;rw[Eg];refine bJ W 24 W ?_ ?_<;>intro b
   ·refine bP W W c W ?_;rw[KI];refine bK W W<|ar.of_eq<|congrArg SV.u<|decide_eq_decide.2 ?_;constructor
    ·intro f;exact⟨E,g2,E,E⟩
    rintro⟨_,_,_,f⟩;omega
   refine bK W W ?_;show false=mL s n;symm;exact decide_eq_false λhh=>b (by have:=hh.2.2.1;omega)
  refine bK W W ?_;show false=mL s n;symm;exact decide_eq_false λhh=>g2 hh.2.1
 refine bK W W ?_;show false=mL s n;symm;exact decide_eq_false λhh=>g1 (by have:=hh.1;omega)
def Dx(xs:List ck)(m n:Nat)(e:∀s∈xs,ct s)(hl:xs.length<2^60)(hm:m<2^60)(hn:n<2^40):
 aM Tryz.prog 222 [.strs false xs,.i m,.i n] (.u<|decide (xs.length<=m)&&xs.all λs=>mL s n):=by
 refine bS Tryz.func222 W<|bQ W W ?_ ?_<;>intro h
 ·refine bK W W ?_;show false=_;rw[decide_eq_false E];rfl
 rw[decide_eq_true E,ab3];refine bM W (λi:Nat=>[(0,.strs false xs),(2,.i n),(7,.i i)]) (λi=>i<=xs.length/\(xs.all λs=>mL s n)=((xs.drop i).all λs=>mL s n)) (λi=>xs.length-i) 0 ⟨aaM _,W⟩ ⟨G,G,G,U⟩ ?_;rintro i⟨hi,c⟩;refine bQ W W ?_ ?_<;>intro h
 ·have a:i<xs.length:=E;have d:(i:Int).toNat=i:=E;have f:xs.getD i []=xs[i]:=au a;rw[abO a,ab7]at c;refine r1 W (by simp[ag,and_true,d];omega) ?_;refine cl W (by rw[d,f];rfl) (yf xs[i] n (e _<|abw a) hn) W ?_;refine r0 W<|ni W W W ?_ ?_<;>intro b
  ·refine bK W W ?_;simp at b;rw[c,b];rfl
  simp at b;refine r1 W (by simp[ag,and_true];omega) ?_;exact again (i+1) E ⟨E,by rw[c,b];rfl⟩ ⟨G,G,G,U⟩
 refine bK W W ?_;show true=_;rw[c,show i=xs.length from E,acN];rfl
noncomputable def uS(q:Rat):Int:=if 600<(decl q.num.natAbs 1).length\/600<(decl q.den 1).length then 4 else 0
def IH(q:Rat){K:Nat}(h:Sz q K)(a:K<2^36):aM Tryz.prog 119 [.s<|qt q] (.i<|uS q):=by
 refine bS Tryz.func119 W<|bP W W (En q<|h.tQ E) W<|bG W (pV (q.num:Rat)<|h.num.tQ E) W ?_;rw[Eg];refine bJ W 8 W ?_ ?_<;>intro g
 ·refine bK W W<|ar.of_eq<|congrArg SV.i<|by unfold uS;rw[if_pos<|.inl E]
 refine bP W W (E3 q<|h.tQ E) W ?_;rw[KI];refine bQ W W ?_ ?_<;>intro g2
 ·refine bK W W<|ar.of_eq<|congrArg SV.i<|by unfold uS;rw[if_pos<|.inr E]
 refine bK W W<|ar.of_eq<|congrArg SV.i<|by unfold uS;rw[if_neg E]
def An(p q:Rat):Rat:=if 0<=CV p q then p else q
def KY(p q:Rat){K L:Nat}(b:Sz p K)(a:Sz q L)(c:K+L+1<2^34):aM Tryz.prog 106 [.s<|qt p,.s<|qt q] (.s<|qt<|An p q):=by
 refine bS Tryz.func106 W<|bP W W (tA p q b a c) W<|bQ W W ?_ ?_<;>intro g
 ·refine bK W W<|ar.of_eq<|congrArg (λq=>SV.s<|qt q)<|by unfold An;rw[if_pos g]
 refine bK W W<|ar.of_eq<|congrArg (λq=>SV.s<|qt q)<|by unfold An;rw[if_neg g]
def Dr{α:Type}{xs ys:List α}{d:α}(hl:xs.length=ys.length)(h:∀k,k<xs.length->xs.getD k d=ys.getD k d):xs=ys:=by apply aex hl;intro k a b;have:=h k a;rwa[au a,au b]at this
def rN(xs ys:List Int)(hl:xs.length<2^60):aM Tryz.prog 60 [.ints .i64 false xs,.ints .i64 false ys] (.u<|decide (xs=ys)):=by
 refine bS Tryz.func60 W<|bQ W W ?_ ?_<;>intro h
 ·refine bK W W ?_;show false=_;symm;exact decide_eq_false λe=>h (by rw[e])
 have a:xs.length=ys.length:=E;refine bM W (λi:Nat=>[(0,.ints .i64 false xs),(1,.ints .i64 false ys),(5,.i i)]) (λi=>i<=xs.length/\∀k,k<i->xs.getD k 0=ys.getD k 0) (λi=>xs.length-i) 0 ⟨aaM _,λk h=>E⟩ ⟨G,G,G,U⟩ ?_;rintro i⟨hi,d⟩;refine bQ W W ?_ ?_<;>intro h
 ·have c:(i:Int).toNat=i:=E;refine k1 W aW (by simp[ag,and_true,c];omega) ?_;refine gg W ?_ ?_<;>intro b
  ·rw[c]at b;refine bK W W ?_;show false=_;symm;exact decide_eq_false λe=>b (by rw[e])
  rw[c]at b;refine r1 W (by simp[ag,and_true];omega) ?_;refine again (i+1) E ⟨E,λk f=>?_⟩ ⟨G,G,G,U⟩;rcases abM k i with g|g
  ·exact d k g
  rw[show k=i from E];omega
 refine bK W W ?_;show true=_;symm;exact decide_eq_true<|Dr a λk f=>d k E
def Hm(n:Nat)(hn:n<2^40):aM Tryz.prog 180 [.i n] (.strs true<|List.replicate n<|qt 0):=by
 rw[AL];refine bS Tryz.func180 W<|bM W (λi:Nat=>[(0,.i n),(3,.strs true<|List.replicate i [48]),(4,.i i)]) (λi=>i<=n) (λi=>n-i) 0 (aaM _) ⟨G,G,G,U⟩ ?_;intro i hi;refine bQ W W ?_ ?_<;>intro h
 ·refine r1 W aX<|again (i+1) E E ⟨G,⟨W,ar.of_eq<|congrArg (SV.strs true)<|by rw[List.replicate_succ']⟩,G,U⟩
 refine bK W W<|ar.of_eq<|congrArg (SV.strs true) ?_;rw[show i=n from E]
def YS(xs:List Int):Prop:=xs.length<2^20/\∀x∈xs,0<=x/\x<2^31
def PU(xs:List Int)(y:Int):(xs++[y]).sum=xs.sum+y:=I
def PT{xs:List Int}{i:Nat}(h:i<xs.length):(xs.take<|i+1).sum=(xs.take i).sum+xs.getD i 0:=by rw[abR h,PU,au h]
def D2:∀{xs:List Int},(∀x∈xs,0<=x/\x<2^31)->0<=xs.sum/\xs.sum<=xs.length*2^31
 |[],_=>I
 |x::xs,h=>by have c:=D2 (xs:=xs) λy a=>h y (by simp[a]);have b:=h x I;simp;omega
def kY(xs:List Int)(h:YS xs):aM Tryz.prog 218 [.ints .i64 false xs] (.i xs.sum):=by
 have hl:=h.1;refine bS Tryz.func218 W<|bM W (λi:Nat=>[(0,.ints .i64 false xs),(3,.i (xs.take i).sum),(4,.i i)]) (λi=>i<=xs.length) (λi=>xs.length-i) 0 (aaM _) ⟨G,G,G,U⟩ ?_;intro i hi;refine bQ W W ?_ ?_<;>intro e
 ·have a:i<xs.length:=E;have c:(i:Int).toNat=i:=E;have d:=D2 (xs:=xs.take i) λx b=>h.2 x<|adq b;have b:=h.2 xs[i]<|abw a;have f:xs.getD i 0=xs[i]:=au a;simp at d;refine r1 W (by simp only[ag,and_true,c];omega) ?_;exact again (i+1) E E ⟨G,⟨W,ar.of_eq<|congrArg SV.i<|by rw[c,PT a]⟩,G,U⟩
 refine bK W W<|bR ?_;rw[abB E]
def kl:List Int->List Int->Bool
 |x::a,y::b=>if x≠y then decide (y<x)else kl a b
 |_,_=>false
def beforeL(a b:List Int):Bool:=if a.sum≠b.sum then decide (b.sum<a.sum)else kl a b
def K7{a b:List Int}{i:Nat}(d:i<a.length)(c:i<b.length):kl (a.drop i) (b.drop i)=if a[i]≠b[i]then decide (b[i]<a[i])else kl (a.drop<|i+1) (b.drop<|i+1):=by rw[abO d,abO c];rfl
def G9(a b:List Int)(j:YS a)(m:YS b)(hl:a.length=b.length):aM Tryz.prog 280 [.ints .i64 false a,.ints .i64 false b] (.u<|beforeL a b):=by
 have n:=j.1;refine bS Tryz.func280 W<|bP W W (kY a j) W<|bP W W (kY b m) W<|bQ W W ?_ ?_<;>intro h
 ·have h:a.sum≠b.sum:=h;refine bP W W (kY a j) W<|bP W W (kY b m) W<|bK W W<|ar.of_eq<|congrArg SV.u ?_;unfold beforeL;rw[if_pos h]
 have h:¬a.sum≠b.sum:=h;have o:beforeL a b=kl a b:=by unfold beforeL;rw[if_neg h]
 refine bM W (λi:Nat=>[(0,.ints .i64 false a),(1,.ints .i64 false b),(5,.i i)]) (λi=>i<=a.length/\beforeL a b=kl (a.drop i) (b.drop i)) (λi=>a.length-i) 0 ⟨aaM _,o⟩ ⟨G,G,G,U⟩ ?_;rintro i⟨hi,d⟩;refine bQ W W ?_ ?_<;>intro p
 ·have f:i<a.length:=E;have e:i<b.length:=E;have g:(i:Int).toNat=i:=E;have l:a.getD i 0=a[i]:=au f;have k:b.getD i 0=b[i]:=au e;rw[K7 f e]at d;refine k1 W aW (by simp[ag,and_true,g];omega) ?_;refine gg W ?_ ?_<;>intro c
  ·rw[g,l,k]at c;have c:a[i]≠b[i]:=c;rw[if_pos c]at d;refine k1 W aW (by simp[ag,and_true,g];omega) ?_;refine aE W<|ar.of_eq<|congrArg SV.u ?_;rw[g,l,k,d]
  rw[g,l,k]at c;have c:¬a[i]≠b[i]:=c;rw[if_neg c]at d;refine r1 W (by simp[ag,and_true];omega) ?_;exact again (i+1) E ⟨E,d⟩ ⟨G,G,G,U⟩
 refine bK W W ?_;show false=_;rw[d,show i=a.length from E,acN];simp[kl]
structure cU where
 c:Rat
 pw:List Int
instance:Inhabited cU:=⟨⟨0,[]⟩⟩
def Lu(t:cU):SV:=.agg [.s<|qt t.c,.ints .i64 false t.pw]
def di(own:Bool)(p:List cU):SV:=.bA own 2 default Lu p
def Di(V K:Nat)(t:cU):Prop:=t.pw.length=V/\YS t.pw/\Sz t.c K
def vL(t:cU):List cU->Rat×List cU
 |u::r=>if u.pw=t.pw then(u.c+t.c,r)else(t.c,u::r)
 |[]=>(t.c,[])
def mn(p:List cU)(t:cU):List cU:=(p.takeWhile λu:cU=>beforeL u.pw t.pw)++(if(vL t (p.dropWhile λu:cU=>beforeL u.pw t.pw)).1=0 then[]else[⟨(vL t (p.dropWhile λu:cU=>beforeL u.pw t.pw)).1,t.pw⟩])++(vL t (p.dropWhile λu:cU=>beforeL u.pw t.pw)).2
def A9{α:Type}{f:α->Bool}{p:List α}{i:Nat}(hi:i<=p.length)(b:∀k(h:k<p.length),k<i->f p[k]=true)(a:∀h:i<p.length,f p[i]=false):p.takeWhile f=p.take i/\p.dropWhile f=p.drop i:=by
 induction p generalizing i with
 |nil=>cases hi;simp
 |cons x p d=>
  cases i with
  |zero=>have:=a I;simp at this;simp[this]
  |succ i=>
   have c:=b 0 I I;simp at c;have:=d (i:=i) (by simpa using hi) (λk h e=>b (k+1) (by simpa using h) E) λh=>a<|by simpa using h
   simp[c,this.1,this.2]
def bw{α:Type}{l:List α}{i:Nat}{d:α}(h:i<l.length):l.getD i d∈l:=by rw[au h];simp_all
def zp(p:List cU)(t:cU){V K:Nat}(z:∀u∈p,Di V K u)(q:Di V K t)(hl:p.length<2^40)(M:K+K+1<2^34):
 aM Tryz.prog 216 [di false p,Lu t] (di false<|mn p t):=by
 have F:=q.2.1.1;refine bS Tryz.func216 W<|cx 4 [(0,di false p),(3,.box true<|Lu t),(5,di true<|p.takeWhile λu=>beforeL u.pw t.pw),(6,.i (p.takeWhile λu=>beforeL u.pw t.pw).length)] True ?_ λ_=>?_
 ·refine bM W (λi:Nat=>[(0,di false p),(3,.box true<|Lu t),(5,di true<|p.take i),(6,.i i)]) (λi=>i<=p.length/\∀k(h:k<p.length),k<i->beforeL p[k].pw t.pw=true) (λi=>p.length-i) 0 ⟨aaM _,λk h L=>E⟩ ⟨G,G,G,G,U⟩ ?_;rintro i⟨hi,B⟩;have out:(∀h:i<p.length,beforeL p[i].pw t.pw=false)->(p.takeWhile λu=>beforeL u.pw t.pw)=p.take i/\(p.takeWhile λu=>beforeL u.pw t.pw).length=i:=by
   intro h;have:=(A9 (f:=λu:cU=>beforeL u.pw t.pw) hi B h).1;rw[this];exact⟨W,by rw[abH];omega⟩
  refine bJ W 12 W ?_ ?_<;>intro h
  ·have l:i<p.length:=E;have d:(i:Int).toNat=i:=E;have w:p.getD i default=p[i]:=au l;have v:=z _<|abw l;refine r1 W (by simp only[ag,and_true,d];omega) ?_;refine cd W (by rw[d,w];rfl) (G9 p[i].pw t.pw v.2.1 q.2.1<|v.1.trans q.1.symm) W ?_;refine k0 W aW<|ni W W W ?_ ?_<;>intro m
   ·refine r1 W (by simp only[ag,and_true,d,len,abH,abL,abD,abK]<;>omega) ?_;refine again (i+1) E ⟨E,λk h L=>?_⟩ ⟨G,G,⟨W,W,W,?_⟩,G,U⟩
    ·rcases abM k i with g|g
     ·exact B k h g
     have:k=i:=E;subst this;exact m
    rw[d,w,cX,abR l,abQ];exact jC.append (jC.refl _) ⟨.inl W,W⟩
   refine r0 W ?_;have o:=out λ_=>m;exact aN U ⟨G,G,⟨W,ar.of_eq<|congrArg (di true) o.1.symm⟩,⟨W,ar.of_eq<|congrArg SV.i<|by rw[o.2]⟩,U⟩
  have o:=out λN=>absurd N E;refine k0 W aW<|aN U ⟨G,G,⟨W,ar.of_eq<|congrArg (di true) o.1.symm⟩,⟨W,ar.of_eq<|congrArg SV.i<|by rw[o.2]⟩,U⟩
 have b:(p.takeWhile λu=>beforeL u.pw t.pw)++(p.dropWhile λu=>beforeL u.pw t.pw)=p:=List.takeWhile_append_dropWhile;unfold mn;generalize (p.takeWhile λu=>beforeL u.pw t.pw)=a at*;generalize (p.dropWhile λu=>beforeL u.pw t.pw)=r at*;subst b;simp only[abE]at hl;have y:(a++r).drop a.length=r:=List.drop_left;refine wR 2 (λ(c:Rat)(j:Nat)=>[(0,di false<|a++r),(3,.box true<|Lu t),(5,di true a),(6,.i j),(7,.s<|qt c)])
  (λc j=>vL t r=(c,(a++r).drop j)/\j<=a.length+r.length/\Sz c (K+K+1)) ?_ ?_
 ·have s:Sz t.c (K+K+1):=q.2.2.mono E;refine bJ W 37 W ?_ ?_<;>intro h
  ·have h:a.length<(a++r).length:=E;have d:((a.length:Nat):Int).toNat=a.length:=E;obtain⟨u,n,rfl⟩:∃u n,r=u::n:=by
    cases r with
    |nil=>simp at h
    |cons u n=>exact⟨u,n,W⟩
   have w:(a++u::n).getD a.length default=u:=by simp[abx]
   have hu:=z u I;have D:=hu.2.1.1;refine r1 W (by simp only[ag,and_true,d];omega) ?_;refine cd W (by rw[d,w];rfl) (rN u.pw t.pw E) W ?_;refine k0 W aW<|gg W ?_ ?_<;>intro m
   ·refine r1 W (by simp only[ag,and_true,d];omega) ?_;refine cd W (by rw[d,w];rfl) (yG u.c t.c hu.2.2 q.2.2 M) W ?_;refine k1 W aW (by simp only[ag,and_true,len];omega) ?_;refine meet (u.c+t.c,a.length+1) ⟨?_,?_,hu.2.2.add q.2.2⟩ ⟨G,G,G,G,G,U⟩
    ·simp[vL,m,afn]
    dsimp only[List.length_cons];omega
   refine r0 W<|meet (t.c,a.length) ⟨?_,?_,s⟩ ⟨G,G,G,G,G,U⟩
   ·simp[vL,m]
   dsimp only;omega
  have h:¬a.length<(a++r).length:=E;have H:r=[]:=by
   cases r with
   |nil=>rfl
   |cons u n=>simp at h
  subst H;refine k0 W aW<|meet (t.c,a.length) ⟨?_,?_,s⟩ ⟨G,G,G,G,G,U⟩
  ·simp[vL]
  dsimp only;omega
 rintro c j⟨hm,O,hc⟩;rw[hm];refine cx 1 [(0,di false<|a++r),(5,di true<|a++if c=0 then[]else[⟨c,t.pw⟩]),(6,.i j)] True ?_ λ_=>?_
 ·refine bP W W (mY c) W<|r0 W<|ni W W W ?_ ?_<;>intro h
  ·have h:¬c=0:=by simpa using h
   refine r1 W (by simp only[ag,and_true,len,abL,abD,abK]<;>omega) ?_;refine aN U ⟨G,⟨W,W,W,?_⟩,G,U⟩;rw[if_neg h,cX,abQ];exact jC.append (jC.refl _) ⟨.inr W,W⟩
  have h:c=0:=by simpa using h
  refine bL W U ⟨G,⟨W,ar.of_eq<|congrArg (di true)<|by rw[if_pos h,acj]⟩,G,U⟩
 have A:(a++if c=0 then[]else[(⟨c,t.pw⟩:cU)]).length<=a.length+1:=by split<;>simp
 have C:(j:Int).toNat=j:=E;have J:(a++r).length=a.length+r.length:=abE;have P:((a++r).drop j).length<=a.length+r.length:=by simp only[acB];omega
 have e:((a++r).drop j).take ((a++r).length-j)=(a++r).drop j:=abB (by simp only[acB];omega);refine r1 W (by simp only[ag,and_true,C,e,len,abL];refine⟨λx=>rfl,λx=>rfl,?_⟩;omega) ?_;refine TA W ⟨W,W,?_⟩;rw[uy,nE λ_=>rfl,nE λ_=>rfl,cX,C,e,<-abQ]
def si(l:List cU):List cU:=l.foldl mn []
def KR{l:List cU}{i:Nat}(h:i<l.length):si (l.take<|i+1)=mn (si<|l.take i) l[i]:=by unfold si;rw[abR h,adk];rfl
def DS(a b:List cU):List cU:=si<|a++b
section
variable{d:Int}{a b:List Int}{l:List cU}{D K M V k m n v w:Nat}{c p q:Rat}
def Wn(D M n w:Nat)(q:Rat):Prop:=∃a:Int,a.natAbs<=n*M^w/\q*((D^w:Nat):Rat)=(a:Rat)
structure pY(D M k:Nat):Prop where
 pos:0<D
 le:D*10^18<=M
 ZI:(ae M).length<=k
def pY.YZ(h:pY D M k):D<=M:=abI (afz _ fh) h.le
def Wn.zero(D M n w:Nat):Wn D M n w 0:=⟨0,I,I⟩
def Wn.le(h:Wn D M n w q)(hn:n<=m):Wn D M m w q:=by obtain⟨a,f,e⟩:=h;exact⟨a,abI f<|abT _ hn,e⟩
def Wn.add(h:Wn D M n w p)(g:Wn D M m w q):Wn D M (n+m) w (p+q):=by
 obtain⟨a,f,e⟩:=h;obtain⟨b,g1,g2⟩:=g;refine⟨a+b,?_,?_⟩
 ·rw[abP];omega
 rw[Rat.add_mul,e,g2,Rat.intCast_add]
def Wn.neg(h:Wn D M n w p):Wn D M n w (-p):=by obtain⟨a,f,e⟩:=h;refine⟨-a,E,?_⟩;rw[Rat.neg_mul,e,Rat.intCast_neg]
def Wn.mul(h:Wn D M n w p)(g:Wn D M m v q):Wn D M (n*m) (w+v) (p*q):=by
 obtain⟨a,e,f⟩:=h;obtain⟨b,g1,g2⟩:=g;refine⟨a*b,?_,?_⟩
 ·rw[adi];have:=adI e g1;rw[ac1]
  calc a.natAbs*b.natAbs<=(n*M^w)*(m*M^v):=this
   _=n*m*(M^w*M^v):=by grind
 rw[aef];grind
def Wn.up(g:pY D M k)(h:Wn D M n w q)(f:w<=v):Wn D M n v q:=by
 obtain⟨a,i,j⟩:=h;obtain⟨e,rfl⟩:=Nat.exists_eq_add_of_le f;refine⟨a*(D^e:Nat),?_,?_⟩
 ·rw[adi,ac1]
  calc a.natAbs*D^e<=(n*M^w)*M^e:=adI i (afA g.YZ e)
   _=n*(M^w*M^e):=by grind
 rw[aef,aeg];grind
def Wn.one(e:pY D M k)(h:Wn D M n w q)(hn:n<=10^18):Wn D M 1 (w+1) q:=by
 obtain⟨a,f,g⟩:=h;refine⟨a*(D:Nat),?_,?_⟩
 ·rw[adi]
  calc a.natAbs*D<=(n*M^w)*D:=abT _ f
   _=M^w*(D*n):=by grind
   _<=M^w*(D*10^18):=acx _<|acx _ hn
   _<=M^w*M:=acx _ e.le
   _=1*(M^w*M):=by grind
 rw[aef,aeg];grind
def Ju{M k:Nat}(h:(ae M).length<=k):∀w,(ae<|M^w).length<=k*w+1
 |0=>by rw[Nat.pow_zero,iG];simp
 |w+1=>by have f:=Ju h w;have e:=dO (M^w) M;rw[acm,Nat.mul_succ];omega
def Wn.sz(f:pY D M k)(h:Wn D M n w q):Sz q ((ae n).length+k*w+1):=by
 obtain⟨a,j,r⟩:=h;have i:0<D^w:=acD f.pos;have e:q=Rat.divInt a ((D^w:Nat):Int):=by
  rw[ae0,aeg];have:((D^w:Nat):Rat)≠0:=by
   intro g;have:(D^w:Nat)=0:=by exact_mod_cast g
   omega
  grind
 rw[e];have o:=Ju f.ZI w;refine xw (by exact_mod_cast i) ?_ ?_
 ·have:=length_le j;have:=dO n<|M^w;omega
 have:=length_le<|afA f.YZ w;simp;omega
def EG:∀a:List Int,kl a a=false
 |[]=>rfl
 |x::a=>by simp[kl];exact EG a
def JY(a:List Int):beforeL a a=false:=by unfold beforeL;simp[EG]
def zE:∀{a b c:List Int},kl a b=true->kl b c=true->kl a c=true
 |[],_,_,h,_=>by simp[kl]at h
 |_::_,[],_,h,_=>by simp[kl]at h
 |_::_,_::_,[],_,g=>by simp[kl]at g
 |x::a,y::b,z::c,h,g=>by
  simp[kl]at h g⊢;by_cases f:x=y
  ·subst f;by_cases e:x=z
   ·subst e;simp at h g⊢;exact zE h g
   simp[e]at g⊢;exact g
  simp[f]at h;by_cases e:y=z
  ·subst e;simp[f];exact h
  simp[e]at g;have:x≠z:=E;simp[this];omega
def DP{c:List Int}(h:beforeL a b=true)(g:beforeL b c=true):beforeL a c=true:=by
 unfold beforeL at*;by_cases f:a.sum=b.sum
 ·by_cases e:b.sum=c.sum
  ·rw[if_neg<|by simpa using f]at h;rw[if_neg<|by simpa using e]at g;rw[if_neg<|by simp;omega];exact zE h g
  rw[if_pos e]at g;rw[if_pos<|by simp;omega];simp at *;omega
 rw[if_pos f]at h;by_cases e:b.sum=c.sum
 ·rw[if_pos<|by simp;omega];simp at *;omega
 rw[if_pos e]at g;simp only[decide_eq_true_eq]at*;rw[if_pos<|by simp;omega];simp;omega
def EF:∀{a b:List Int},a.length=b.length->kl a b=false->kl b a=false->a=b
 |[],[],_,_,_=>rfl
 |[],_::_,h,_,_=>by cases h
 |_::_,[],h,_,_=>by cases h
 |x::a,y::b,h,g1,g2=>by
  simp[kl]at g1 g2;by_cases f:x=y
  ·subst f;simp at g1 g2;rw[EF (by simpa using h) g1 g2]
  have g:¬y=x:=λe=>f e.symm;simp[f,g]at g1 g2;omega
def JX(hl:a.length=b.length)(h:beforeL a b=false)(hn:a≠b):beforeL b a=true:=by
 unfold beforeL at*;by_cases e:a.sum=b.sum
 ·rw[if_neg<|by simpa using e]at h;rw[if_neg<|by simp;omega];rcases Bool.eq_false_or_eq_true (kl b a)with g|g
  ·exact g
  exact absurd (EF hl h g) hn
 rw[if_pos e]at h;rw[if_pos<|by simp;omega];simp at *;omega
def x8(t:cU):List cU->List cU
 |[]=>if t.c=0 then[]else[t]
 |u::r=>if beforeL u.pw t.pw=true then u::x8 t r else if u.pw=t.pw then(if u.c+t.c=0 then r else⟨u.c+t.c,t.pw⟩::r)else if t.c=0 then u::r else t::u::r
def rV:∀(p:List cU)(t:cU),mn p t=x8 t p
 |[],t=>by simp[mn,vL,x8];split<;>simp_all
 |u::r,t=>by
  have e:=rV r t;unfold mn x8;unfold mn at e;by_cases h:beforeL u.pw t.pw=true
  ·simp only[List.takeWhile_cons,List.dropWhile_cons,h,if_true,adM];rw[e]
  simp[h,vL];by_cases f:u.pw=t.pw
  all_goals simp[f];split<;>simp
def Xy(p:List cU):Prop:=p.Pairwise λa b=>beforeL a.pw b.pw=true
def AS{t:cU}:∀{p:List cU}{u:cU},u∈x8 t p->u∈p\/u.pw=t.pw
 |[],u,h=>by
  simp only[x8]at h;split at h
  ·cases h
  simp at h;subst h;exact .inr W
 |v::r,u,h=>by
  simp[x8]at h;split at h
  ·rcases abz.1 h with rfl|h
   ·simp_all
   rcases AS h with h|h
   ·simp_all
   exact .inr h
  split at h
  ·split at h
   ·simp_all
   rcases abz.1 h with rfl|h
   ·exact .inr W
   simp_all
  split at h
  ·exact .inl h
  rcases abz.1 h with rfl|h
  ·exact .inr W
  exact .inl h
def IP{t:cU}{V:Nat}(j:t.pw.length=V):∀{p:List cU},(∀u∈p,u.pw.length=V)->Xy p->Xy (x8 t p)
 |[],_,_=>by simp[x8];split<;>simp[Xy]
 |v::r,hl,h=>by
  have g:∀u∈r,beforeL v.pw u.pw=true:=λu hu=>List.rel_of_pairwise_cons h hu;have f:=List.Pairwise.of_cons h;simp[x8];split
  ·rename_i e;refine List.Pairwise.cons (λu hu=>?_)<|IP j (λu hu=>hl u<|by simp[hu]) f;rcases AS hu with hu|hu
   ·exact g u hu
   rw[hu];exact e
  rename_i e;split
  ·rename_i he;split
   ·exact f
   exact List.Pairwise.cons (λu hu=>by have:=g u hu;rw[he]at this;exact this) f
  rename_i he;split
  ·exact h
  have i:=JX ((hl v I).trans j.symm) (by simpa using e) he;refine List.Pairwise.cons (λu hu=>?_) h;rcases abz.1 hu with rfl|hu
  ·exact i
  exact DP i<|g u hu
def xT{α:Type}[DecidableEq α]:∀{l m:List α},l.Nodup->(∀x∈l,x∈m)->l.length<=m.length
 |[],_,_,_=>I
 |x::l,m,hn,hs=>by
  have e:=hs x I;have f:=acb.1 hn;have:=xT (l:=l) (m:=m.erase x) f.2 λy g=>by
   have:y≠x:=by rintro rfl;exact f.1 g
   simp_all
  rw[List.length_erase_of_mem e]at this;have:=List.length_pos_of_mem e;simp;omega
def NL(d:Nat):Nat->List (List Int)
 |0=>[[]]
 |V+1=>(NL d V).flatMap λv=>(List.range<|d+1).map λ(x:Nat)=>(x:Int)::v
def sA{α e:Type}{f:α->List e}{c:Nat}(h:∀a,(f a).length=c):∀l:List α,(l.flatMap f).length=l.length*c
 |[]=>I
 |a::l=>by rw[List.flatMap_cons,abE,h,sA h l,abD,ae1];omega
def Hn(d:Nat):∀V,(NL d V).length=(d+1)^V
 |0=>rfl
 |V+1=>by rw[NL,sA (c:=d+1) λv=>I,Hn d V,acm]
def Is{d:Nat}:∀{v:List Int},(∀x∈v,0<=x/\x<=d)->v∈NL d v.length
 |[],_=>by simp[NL]
 |x::v,h=>by have g:=h x I;have f:=Is (v:=v) λy e=>h y (by simp[e]);simp only[abD,NL,ab1,abF,ab9];exact⟨v,f,x.toNat,E,by congr 1;omega⟩
def kX:∀{v:List Int},(∀x∈v,0<=x)->∀x∈v,x<=v.sum
 |[],_,x,e=>by cases e
 |y::v,h,x,e=>by
  have o:0<=v.sum:=by
   clear e;have g:∀z∈v,0<=z:=λz f=>h z (by simp[f])
   induction v with
   |nil=>simp
   |cons z v i=>have:=g z I;have:=i (λw hw=>h w<|by rcases abz.1 hw with rfl|hw<;>simp[*]) λw hw=>g w (by simp[hw]);simp;omega
  have j:=h y I;simp;rcases abz.1 e with rfl|e
  ·omega
  have:=kX (v:=v) (λz f=>h z<|by simp[f]) x e;omega
def VY(V:Nat)(d:Int)(v:List Int):Prop:=v.length=V/\(∀x∈v,0<=x)/\v.sum<=d
def Ti{d:Nat}{p:List cU}(hs:Xy p)(h:∀u∈p,VY V d u.pw):p.length<=(d+1)^V:=by
 rw[<-Hn d V,<-abL (f:=cU.pw)];refine xT ?_ ?_
 ·rw[List.Nodup,List.pairwise_map];refine List.Pairwise.imp (λ{a b}g he=>?_) hs;rw[he,JY]at g;simp_all
 intro x e;obtain⟨u,hu,rfl⟩:=abF.1 e;obtain⟨o,i,j⟩:=h u hu;rw[<-o];exact Is λx e=>⟨i x e,acI (kX i x e) j⟩
def Ep{V:Nat}:∀{l p:List cU},(∀u∈l,u.pw.length=V)->(∀u∈p,u.pw.length=V)->Xy p->Xy (l.foldl mn p)/\∀u∈l.foldl mn p,u.pw.length=V
 |[],p,_,h,e=>⟨e,h⟩
 |t::l,p,hl,h,e=>by
  have f:=hl t I;refine Ep (l:=l) (p:=mn p t) (λu hu=>hl u<|by simp[hu]) (λu hu=>?_) ?_
  ·rw[rV]at hu;rcases AS hu with hu|hu
   ·exact h u hu
   rw[hu];exact f
  rw[rV];exact IP f h e
def BL:∀{l p:List cU}{u:cU},u∈l.foldl mn p->(∃t∈l,u.pw=t.pw)\/∃t∈p,u.pw=t.pw
 |[],p,u,h=>.inr ⟨u,h,W⟩
 |t::l,p,u,h=>by
  rcases BL (l:=l) (p:=mn p t) h with⟨v,f,e⟩|⟨v,f,e⟩
  ·exact .inl ⟨v,by simp[f],e⟩
  rw[rV]at f;rcases AS f with f|f
  ·exact .inr ⟨v,f,e⟩
  simp_all
def MM{D M w n m:Nat}{t:cU}(e:Wn D M m w t.c):∀{p:List cU},(∀u∈p,Wn D M n w u.c)->∀u∈x8 t p,Wn D M (n+m) w u.c
 |[],_,u,hu=>by
  simp only[x8]at hu;split at hu
  ·cases hu
  simp at hu;subst hu;exact e.le E
 |v::r,h,u,hu=>by
  have f:∀u∈v::r,Wn D M (n+m) w u.c:=λu hu=>(h u hu).le E;simp[x8]at hu;split at hu
  ·rcases abz.1 hu with rfl|hu
   ·simp_all
   exact MM e (λu hu=>h u<|by simp[hu]) u hu
  split at hu
  ·split at hu
   ·simp_all
   rcases abz.1 hu with rfl|hu
   ·exact(h v I).add e
   simp_all
  split at hu
  ·exact f u hu
  rcases abz.1 hu with rfl|hu
  ·exact e.le E
  exact f u hu
def Im{D M w:Nat}:∀{l p:List cU}{n:Nat},(∀u∈l,Wn D M 1 w u.c)->(∀u∈p,Wn D M n w u.c)->∀u∈l.foldl mn p,Wn D M (n+l.length) w u.c
 |[],p,n,_,e=>e
 |t::l,p,n,hl,e=>by
  intro u hu;have:=Im (l:=l) (p:=mn p t) (n:=n+1) (λu hu=>hl u<|by simp[hu]) (λu hu=>by rw[rV]at hu;exact MM (hl t I) e u hu) u hu
  rw[abD];exact this.le E
def PW(D M V:Nat)(d:Int)(w:Nat)(l:List cU):Prop:=∀u∈l,VY V d u.pw/\Wn D M 1 w u.c
def PW.mono{e:Int}(i:pY D M k)(h:PW D M V d w l)(g:d<=e)(f:w<=v):PW D M V e v l:=λu hu=>⟨⟨(h u hu).1.1,(h u hu).1.2.1,acI (h u hu).1.2.2 g⟩,(h u hu).2.up i f⟩
def PW.append{m:List cU}(h:PW D M V d w l)(g:PW D M V d w m):PW D M V d w (l++m):=λu hu=>(abJ.1 hu).elim (h u)<|g u
def PW.nil:PW D M V d w []:=λ_ h=>by cases h
structure b8(D M V:Nat)(d:Int)(w:Nat)(p:List cU):Prop where
 ZT:Xy p
 pw:PW D M V d w p
def b8.mono{e:Int}(i:pY D M k)(h:b8 D M V d w l)(g:d<=e)(f:w<=v):b8 D M V e v l:=⟨h.ZT,h.pw.mono i g f⟩
def b8.nil:b8 D M V d w []:=⟨List.Pairwise.nil,PW.nil⟩
def Oe(h:V<=9):(6+1)^V<=40353607:=abI (acp fh h) fh
def b8.len{p:List cU}(h:b8 D M V d w p)(f:V<=9)(e:d<=6):p.length<=40353607:=abI (Ti (V:=V) (d:=6) h.ZT λu hu=>⟨(h.pw u hu).1.1,(h.pw u hu).1.2.1,acI (h.pw u hu).1.2.2 e⟩) (Oe f)
def VY.ok{v:List Int}(h:VY V d v)(i:V<=9)(g:d<=6):YS v:=by obtain⟨o,f,j⟩:=h;exact⟨E,λx e=>⟨f x e,by have:=kX f x e;omega⟩⟩
def PW.tok(i:pY D M k)(h:PW D M V d w l)(g:V<=9)(f:d<=6)(o:k*w+2<=K):∀u∈l,Di V K u:=by intro u hu;obtain⟨e,j⟩:=h u hu;refine⟨e.1,e.ok g f,(j.sz i).mono ?_⟩;rw[iG];simp;omega
def PW.norm(g:pY D M k)(h:PW D M V d w l)(hl:l.length<=10^18):b8 D M V d (w+1) (si l):=by
 refine⟨(Ep (V:=V) (λu hu=>(h u hu).1.1) I List.Pairwise.nil).1,λu hu=>⟨?_,?_⟩⟩
 ·rcases BL hu with⟨t,f,e⟩|⟨t,f,e⟩
  ·rw[e];exact(h t f).1
  cases f
 have:=Im (n:=0) (λu hu=>(h u hu).2) I u hu;exact this.one g E
def vj(V K:Nat)(l:List cU):Prop:=(∀u∈l,Di V K u)/\∀m,m <+:l->(∀u∈si m,Di V K u)/\(si m).length<2^30
def PW.Y5(g:pY D M k)(h:PW D M V d w l)(f:V<=9)(e:d<=6)(hl:l.length<=10^18)(i:k*(w+1)+2<=K):vj V K l:=by refine⟨h.tok g f e<|abI (adv (acx k<|ad4 w) 2) i,λm hm=>?_⟩;have o:PW D M V d w m:=λu hu=>h u<|hm.subset hu;have j:=o.norm g (by have:=hm.length_le;omega);exact⟨j.pw.tok g f e i,by have:=j.len f e;omega⟩
def pk(c:Rat)(p:List cU):List cU:=p.map λt=>⟨c*t.c,t.pw⟩
def kJ(c:Rat)(p:List cU):List cU:=si<|pk c p
def PW.Vj(hc:Wn D M 1 v c)(h:PW D M V d w l):PW D M V d (v+w) (pk c l):=by intro u hu;obtain⟨t,e,rfl⟩:=abF.1 hu;exact⟨(h t e).1,hc.mul (h t e).2⟩
def jx(a b:List cU):List cU:=a.flatMap λt=>b.map λu=>⟨t.c*u.c,List.zipWith (·+ ·) t.pw u.pw⟩
def lP(a b:List cU):List cU:=si<|jx a b
def L8:∀{a b:List Int},a.length=b.length->(List.zipWith (·+ ·) a b).sum=a.sum+b.sum
 |[],[],_=>I
 |[],_::_,h=>by cases h
 |_::_,[],h=>by cases h
 |x::a,y::b,h=>by have:=L8 (a:=a) (b:=b) (by simpa using h);simp;omega
def A1:∀{a b:List Int},(∀x∈a,0<=x)->(∀x∈b,0<=x)->∀x∈List.zipWith (·+ ·) a b,0<=x
 |[],_,_,_,_,e=>by cases e
 |_::_,[],_,_,_,e=>by cases e
 |y::a,z::b,g,f,x,e=>by
  have i:=g y I;have h:=f z I;rcases abz.1 e with rfl|e
  ·show 0<=y+z;omega
  exact A1 (λx e=>g x<|by simp[e]) (λx e=>f x<|by simp[e]) x e
def VY.zip{e:Int}(g:VY V d a)(f:VY V e b):VY V (d+e) (List.zipWith (·+ ·) a b):=by refine⟨by rw[List.length_zipWith,g.1,f.1];omega,A1 g.2.1 f.2.1,?_⟩;rw[L8<|g.1.trans f.1.symm];have:=g.2.2;have:=f.2.2;omega
def PW.mul{e:Int}{a b:List cU}(h:PW D M V d w a)(g:PW D M V e v b):PW D M V (d+e) (w+v) (jx a b):=by intro u hu;obtain⟨t,f,hu⟩:=ab1.1 hu;obtain⟨s,hs,rfl⟩:=abF.1 hu;exact⟨(h t f).1.zip (g s hs).1,by simpa using(h t f).2.mul (g s hs).2⟩
def QT(a b:List cU):(jx a b).length=a.length*b.length:=sA (λt=>I) a
def zV(v:Nat)(t:cU):List cU:=if 0<t.pw.getD v 0 then[⟨t.c*((t.pw.getD v 0:Int):Rat),t.pw.set v<|t.pw.getD v 0-1⟩]else[]
def pM(p:List cU)(v:Nat):List cU:=p.flatMap<|zV v
def tT(p:List cU)(v:Nat):List cU:=si<|pM p v
def FK:∀{a:List Int}{v:Nat}{x:Int},v<a.length->(a.set v x).sum=a.sum-a.getD v 0+x
 |[],_,_,h=>by cases h
 |y::a,0,x,_=>by simp;omega
 |y::a,v+1,x,h=>by have:=FK (a:=a) (v:=v) (x:=x) (by simpa using h);simp only[List.set_cons_succ,ae2,afB];omega
def Iu{x y:Int}(h:y∈a.set v x):y∈a\/y=x:=aeU h
def Wn.int(n:Int):Wn D M n.natAbs 0 (n:Rat):=⟨n,I,I⟩
def PW.der{p:List cU}(j:pY D M k)(h:PW D M V d w p)(z:d<=6)(v:Nat)(s:v<V):PW D M V (d-1) (w+1) (pM p v):=by
 intro u hu;obtain⟨t,g,hu⟩:=ab1.1 hu;obtain⟨⟨r,f,A⟩,o⟩:=h t g;unfold zV at hu;split at hu
 ·rename_i y;have hm:t.pw.getD v 0∈t.pw:=bw E;have i:=kX f _ hm;rw[adC]at hu;subst hu;refine⟨⟨by simpa using r,λx e=>?_,?_⟩,?_⟩
  ·rcases Iu e with e|rfl
   ·exact f x e
   omega
  ·rw[FK E];omega
  have:=o.mul<|Wn.int (D:=D) (M:=M)<|t.pw.getD v 0;exact this.one j E
 cases hu
def CK(p:List cU)(v:Nat):(pM p v).length<=p.length:=by
 unfold pM
 induction p with
 |nil=>simp
 |cons t p e=>
  have:(zV v t).length<=1:=by unfold zV;split<;>simp
  rw[List.flatMap_cons,abE,abD];omega
def aaa(c:Rat)(n:Nat):List cU:=if c=0 then[]else[⟨c,List.replicate (n+1) 0⟩]
def vm(v n:Nat):List cU:=[⟨1,(List.replicate (n+1) 0).set v 1⟩]
def TD(n:Nat):(List.replicate n (0:Int)).sum=0:=by
 induction n with
 |zero=>rfl
 |succ n e=>rw[ad1,ae2,e];rfl
def b8.const(h:Wn D M 1 w c):b8 D M (n+1) 0 w (aaa c n):=by
 unfold aaa;split
 ·exact b8.nil
 refine⟨List.pairwise_singleton _ _,λu hu=>?_⟩;simp at hu;subst hu;exact⟨⟨I,λx e=>by have:=ad7 e;omega,by rw[TD];exact ab2 _⟩,h⟩
def Wn.WA:Wn D M 1 0 1:=⟨1,I,I⟩
def b8.var(f:v<=n):b8 D M (n+1) 1 0 (vm v n):=by
 refine⟨List.pairwise_singleton _ _,λu hu=>?_⟩;simp[vm]at hu;subst hu;refine⟨⟨I,λx e=>?_,?_⟩,Wn.WA⟩
 ·rcases Iu e with e|rfl
  ·have:=ad7 e;omega
  decide
 show(List.set _ _ _).sum<=1;rw[FK<|by simp;omega];simp[adO];split<;>simp
end
section
variable{a b:List Int}{p:List cU}{K L V i v:Nat}
def qy(l:List cU)(h:vj V K l)(hn:l.length<2^50)(j:K+K+1<2^34):aM Tryz.prog 215 [di false l] (di false<|si l):=by
 refine bS Tryz.func215 W<|r0 W<|ra (λi:Nat=>[(0,di false l),(3,di false<|si<|l.take i),(4,.i i)]) (λi=>i<=l.length) (λi=>l.length-i) 0 (aaM _) ?_;intro i hi;refine bQ W W ?_ ?_<;>intro e
 ·have c:i<l.length:=E;have f:(i:Int).toNat=i:=E;have g:l.getD i default=l[i]:=au c;obtain⟨d,k⟩:=h.2 (l.take i)<|List.take_prefix _ _;refine qp W<|cl W (by rw[f,g];rfl) (zp (si<|l.take i) l[i] (V:=V) (K:=K) d (h.1 _<|abw c) E E) W ?_;rw[<-KR c];refine qp W<|gS (i+1) E
 refine bK W W<|ar.of_eq<|congrArg (di false) ?_;rw[abB E]
def mc(a b:List cU)(h:vj V K (a++b))(hn:a.length+b.length<2^40)(c:K+K+1<2^34):
 aM Tryz.prog 129 [di false a,di false b] (di false<|DS a b):=by
 refine bS Tryz.func129 W<|r1 W (by simp[ag,len];refine⟨λx=>rfl,λx=>rfl,?_,λx=>rfl,λx=>rfl,?_⟩<;>omega) ?_;refine JJ W W U (by refine⟨⟨W,W,?_⟩,U⟩;rw[uy,nE λ_=>rfl,nE λ_=>rfl,cX,<-abQ]) (qy (a++b) h (by rw[abE];omega) c) W ?_
 refine bN W W
def NY{c:Rat}(h:i<p.length):pk c (p.take<|i+1)=pk c (p.take i)++[⟨c*p[i].c,p[i].pw⟩]:=by unfold pk;rw[abR h,abQ];rfl
def HM(c:Rat)(p:List cU):(pk c p).length=p.length:=by unfold pk;simp
def mF(c:Rat)(p:List cU)(hc:Sz c L)(k:∀u∈p,Di V K u)(h:vj V K (pk c p))(hn:p.length<2^40)(l:K+K+1<2^34)(n:L+K<2^34):
 aM Tryz.prog 130 [.s<|qt c,di false p] (di false<|kJ c p):=by
 refine bS Tryz.func130 W<|r0 W<|ra (λi:Nat=>[(0,.s<|qt c),(1,di false p),(5,di true<|pk c<|p.take i),(6,.i i)]) (λi=>i<=p.length) (λi=>p.length-i) 0 (aaM _) ?_;intro i hi;refine bQ W W ?_ ?_<;>intro m
 ·have d:i<p.length:=E;have g:(i:Int).toNat=i:=E;have j:p.getD i default=p[i]:=au d;have f:=k _<|abw d;have hl:(pk c<|p.take i).length=i:=by rw[HM,abH];omega
  refine qp W<|cd W (by rw[g,j];rfl) (gi c p[i].c hc f.2.2 E) W ?_;refine II W ?_ (by simp[ag,and_true,g,len,hl,abL,abD,abK]<;>omega);refine gS (i+1) E ⟨G,G,⟨W,W,W,?_⟩,G,U⟩;rw[g,j,cX,NY d,abQ];exact jC.append (jC.refl _) ⟨.inr W,W⟩
 have e:pk c (p.take i)=pk c p:=by rw[abB E]
 rw[e];refine bP W W (qy (pk c p) h (by rw[HM];omega) l) W ?_;refine bN W W
def rT(t u:cU):cU:=⟨t.c*u.c,List.zipWith (·+ ·) t.pw u.pw⟩
def Eu{a b:List cU}(h:i<a.length):jx (a.take<|i+1) b=jx (a.take i) b++b.map (rT a[i]):=by unfold jx;rw[abR h,afq];simp[rT]
def Iq{a b:List cU}{k:Nat}(h:i<a.length):jx (a.take i) b++(b.take k).map (rT a[i]) <+:jx a b:=by
 have c:jx (a.take<|i+1) b <+:jx a b:=by
  conv=>rhs;rw[<-aed (i+1) a]
  unfold jx;rw[afq];simp_all
 refine List.IsPrefix.trans ?_ c;rw[Eu h];exact(List.prefix_append_right_inj _).2<|(List.take_prefix k b).map _
def KS(l:List cU)(t:cU):si (l++[t])=mn (si l) t:=by unfold si;rw[adk];rfl
def rD(a b:List Int)(v:Nat):List Int:=List.zipWith (·+ ·) (a.take v) (b.take v)++a.drop v
def NG(h:a.length=b.length)(v:Nat):(rD a b v).length=a.length:=by unfold rD;simp;omega
def A2(h:a.length=b.length)(c:v<a.length):(rD a b v).getD v 0=a.getD v 0:=by
 have hl:(List.zipWith (·+ ·) (a.take v)<|b.take v).length=v:=by simp;omega
 unfold rD;rw[abx,acu E,hl];simp
def NF(h:a.length=b.length)(c:v<a.length):(rD a b v).set v (a.getD v 0+b.getD v 0)=rD a b (v+1):=by
 have hl:(List.zipWith (·+ ·) (a.take v)<|b.take v).length=v:=by simp;omega
 unfold rD;rw[List.set_append_right _ _ E,hl,adN,abO c,abR c,abR (h▸c),
  List.zipWith_append (by simp;omega),au c,au (h▸c),abG]
 rfl
def NH(h:a.length=b.length):rD a b a.length=List.zipWith (·+ ·) a b:=by unfold rD;rw[acz,h,acz,ab5 E,acj]
def oS(a b:List cU){M:Nat}(z:∀u∈a,Di V L u)(x:∀u∈b,Di V M u)(h:vj V K (jx a b))(w:a.length<2^40)(t:b.length<2^40)(Q:V<2^40)(R:K+K+1<2^34)(A:L+M<2^34):
 aM Tryz.prog 132 [di false a,di false b] (di false<|lP a b):=by
 refine bS Tryz.func132 W<|r0 W<|ra (λi:Nat=>[(0,di false a),(1,di false b),(5,di false<|si<|jx (a.take i) b),(6,.i i)]) (λi=>i<=a.length) (λi=>a.length-i) 0 (aaM _) ?_;intro i hi;refine bQ W W ?_ ?_<;>intro H
 ·have f:i<a.length:=E;have r:(i:Int).toNat=i:=E;have s:a.getD i default=a[i]:=au f;have j:=z _<|abw f;refine bM W (λk:Nat=>[(0,di false a),(1,di false b),(5,di false<|si<|jx (a.take i) b++(b.take k).map (rT a[i])),(6,.i i),(7,.i k)]) (λk=>k<=b.length) (λk=>b.length-k) 0 (aaM _) ⟨G,G,⟨W,ar.of_eq<|congrArg (di false) I⟩,G,G,U⟩ ?_;intro k P;refine bQ W W ?_ ?_<;>intro F
  ·have g:k<b.length:=E;have n:(k:Int).toNat=k:=E;have m:b.getD k default=b[k]:=au g;have l:=x _<|abw g;have c:a[i].pw.length=b[k].pw.length:=j.1.trans l.1.symm;have y:=j.2.1.1;have q:si (jx (a.take i) b++(b.take<|k+1).map (rT a[i]))=mn (si<|jx (a.take i) b++(b.take k).map (rT a[i])) (rT a[i] b[k]):=by
    rw[abR g,abQ,<-abG];exact KS _ _
   obtain⟨D,S⟩:=h.2 _<|Iq (b:=b) (k:=k) f;have C:Di V K (rT a[i] b[k]):=h.1 _ (by refine ab1.2 ⟨a[i],abw f,?_⟩;exact abF.2 ⟨b[k],abw g,W⟩)
   refine r1 W (by simp only[ag,and_true,r,s,len,abK];omega) ?_;rw[r,s];refine loop (λv:Nat=>[(0,di false a),(1,di false b),(5,di false<|si<|jx (a.take i) b++(b.take k).map (rT a[i])),(6,.i i),(7,.i k),(8,.ints .i64 true<|rD a[i].pw b[k].pw v),(9,.i v)])
    (λv=>v<=a[i].pw.length) (λv=>a[i].pw.length-v) 0 (aaM _) ⟨G,G,G,G,G,⟨W,ar.of_eq<|congrArg (SV.ints .i64 true)<|by simp[rD,cX]⟩,G,U⟩ ?_
   intro v O;have o:=NG c v;refine bQ W W ?_ ?_<;>intro B
   ·have e:v<a[i].pw.length:=E;have ev:(v:Int).toNat=v:=E;have N:=j.2.1.2 _<|bw (d:=0) e;have J:=l.2.1.2 _<|bw (d:=0) (c▸e);refine II W ?_ (by simp only[ag,and_true,n,m,ev,A2 c e,o];omega);refine gS (v+1) E ⟨G,G,G,G,G,⟨W,ar.of_eq<|congrArg (SV.ints .i64 true) ?_⟩,G,U⟩;rw[n,m,ev,A2 c e,NF c e]
   have ev:v=a[i].pw.length:=E;subst ev;rw[NH c];refine qp W<|cd W (by rw[r,n,s,m];rfl) (gi a[i].c b[k].c j.2.2 l.2.2 A) W ?_;refine qp W<|bH W (zp (si<|jx (a.take i) b++(b.take k).map (rT a[i])) (rT a[i] b[k]) (V:=V) (K:=K) D C E E) W ?_;rw[<-q];refine II W<|gS (k+1) E
  have n:k=b.length:=E;refine qp W<|gS (i+1) E ⟨G,G,⟨W,ar.of_eq<|congrArg (di false) ?_⟩,G,U⟩;rw[Eu f,n,acz]
 refine bK W W<|ar.of_eq<|congrArg (di false) ?_;rw[abB E];rfl
def E0(h:i<p.length):pM (p.take<|i+1) v=pM (p.take i) v++zV v p[i]:=by unfold pM;rw[abR h,afq];simp
def pL(p:List cU)(v:Nat)(r:∀u∈p,Di V L u)(h:vj V K (pM p v))(o:v<V)(hn:p.length<2^40)(t:K+K+1<2^34)(s:L+3<2^34):
 aM Tryz.prog 217 [di false p,.i v] (di false<|tT p v):=by
 refine bS Tryz.func217 W<|r0 W<|ra (λi:Nat=>[(0,di false p),(1,.i v),(5,di true<|pM (p.take i) v),(6,.i i)]) (λi=>i<=p.length) (λi=>p.length-i) 0 (aaM _) ?_;intro i hi;refine bQ W W ?_ ?_<;>intro w
 ·have g:i<p.length:=E;have k:(i:Int).toNat=i:=E;have l:p.getD i default=p[i]:=au g;have f:=r _<|abw g;have hl:(pM (p.take i) v).length<=i:=abI (CK _ _) (by rw[abH];omega);have c:(v:Int).toNat=v:=E;have m:v<p[i].pw.length:=by rw[f.1];exact o
  have x:=f.2.1.2 _<|bw (d:=0) m;have q:=f.2.1.1;refine r1 W (by simp only[ag,and_true,k,l,c];omega) ?_;refine gg W ?_ ?_<;>intro j
  ·rw[k,l,c]at j;have j:0<p[i].pw.getD v 0:=j;have n:Sz ((p[i].pw.getD v 0:Int):Rat) 3:=by
    refine⟨?_,?_⟩
    ·rw[Rat.num_intCast];exact jn E
    rw[Rat.den_intCast,iG];decide
   refine r1 W (by simp only[ag,and_true,k,l,c,len];omega) ?_;refine cd W (by rw[k,l,c];rfl) (ug (p[i].pw.getD v 0) E) W ?_;refine qp W<|cd W (by rw[k,l];rfl) (gi p[i].c ((p[i].pw.getD v 0:Int):Rat) f.2.2 n s) W ?_;refine II W ?_ (by simp[ag,and_true,k,len,abL,abD,abK]<;>omega);refine gS (i+1) E ⟨G,G,⟨W,W,W,?_⟩,G,U⟩;rw[k,l,c,cX,E0 g,abQ,zV,if_pos j];exact jC.append (jC.refl _) ⟨.inr W,W⟩
  rw[k,l,c]at j;have j:¬0<p[i].pw.getD v 0:=j;refine qp W<|gS (i+1) E ⟨G,G,⟨W,ar.of_eq<|congrArg (di true) ?_⟩,G,U⟩;rw[E0 g,zV,if_neg j,acj]
 have e:pM (p.take i) v=pM p v:=by rw[abB E]
 rw[e];refine bP W W (qy (pM p v) h (by have:=CK p v;omega) t) W ?_;refine bN W W
def sN(c:Rat)(n:Nat)(hn:n<2^40):aM Tryz.prog 131 [.s<|qt c,.i n] (di false<|aaa c n):=by
 refine bS Tryz.func131 W<|bP W W (mY c) W<|ni W W W ?_ ?_<;>intro h
 ·have h:c=0:=by simpa using h
  refine bK W W ?_;unfold aaa;rw[if_pos h];exact W
 have h:¬c=0:=by simpa using h
 refine qp W ?_;unfold aaa;rw[if_neg h];refine TA W<|kL
def rE(v n:Nat)(c:v<=n)(hn:n<2^40):aM Tryz.prog 126 [.i v,.i n] (di false<|vm v n):=by
 refine bS Tryz.func126 W<|r1 W (by simp[ag];omega) ?_;have e:(vm v n).map Lu=[SV.agg [.s [49],.ints .i64 false<|(List.replicate (n+1) 0).set v 1]]:=by simp[vm,Lu,KH]
 refine TA W<|⟨W,W,e.symm⟩
noncomputable def uT(p:List cU):Int:=if(∃u∈p,12<u.pw.sum)then 4 else if 64<p.length then 5 else if∃u∈p,uS u.c≠0 then 4 else 0
def Aq(p:List cU)(m:∀u∈p,Di V K u)(hn:p.length<2^50)(o:K<2^36):aM Tryz.prog 134 [di false p] (.i<|uT p):=by
 refine bS Tryz.func134 W<|cx 2 [(0,di false p)] (¬∃u∈p,12<u.pw.sum) ?_ λn=>?_
 ·refine r0 W<|ra (λi:Nat=>[(0,di false p),(3,.i i)]) (λi=>i<=p.length/\¬∃u∈p.take i,12<u.pw.sum) (λi=>p.length-i) 0 ⟨aaM _,I⟩ ?_;rintro i⟨hi,e⟩;refine bQ W W ?_ ?_<;>intro h
  ·have c:i<p.length:=E;have k:(i:Int).toNat=i:=E;have l:p.getD i default=p[i]:=au c;have d:=m _<|abw c;refine qp W<|cl W (by rw[k,l];rfl) (kY p[i].pw d.2.1) W ?_;refine bQ W W ?_ ?_<;>intro f
   ·refine bK W W<|bR ?_;unfold uT;rw[if_pos ⟨_,abw c,f⟩]
   refine qp W<|gS (i+1) ⟨E,?_⟩;rw[abR c];rintro⟨u,hu,g⟩;rcases abJ.1 hu with hu|hu
   ·exact e ⟨u,hu,g⟩
   simp at hu;subst hu;exact f g
  refine r0 W ?_;rw[abB E]at e;exact aN e ⟨G,U⟩
 have j:uT p=if 64<p.length then 5 else if∃u∈p,uS u.c≠0 then 4 else 0:=by unfold uT;rw[if_neg n]
 refine bQ W W ?_ ?_<;>intro h
 ·refine bK W W<|ar.of_eq<|congrArg SV.i<|by rw[j,if_pos E]
 rw[if_neg E]at j;refine r0 W<|ra (λi:Nat=>[(0,di false p),(4,.i i)]) (λi=>i<=p.length/\¬∃u∈p.take i,uS u.c≠0) (λi=>p.length-i) 0 ⟨aaM _,I⟩ ?_;rintro i⟨hi,e⟩;refine bQ W W ?_ ?_<;>intro h
 ·have c:i<p.length:=E;have k:(i:Int).toNat=i:=E;have l:p.getD i default=p[i]:=au c;have d:=m _<|abw c;refine qp W<|cl W (by rw[k,l];rfl) (IH p[i].c d.2.2 o) W ?_;refine bQ W W ?_ ?_<;>intro f
  ·refine bK W W<|bR ?_;rw[j,if_pos ⟨_,abw c,f⟩]
  refine qp W<|gS (i+1) ⟨E,?_⟩;rw[abR c];rintro⟨u,hu,g⟩;rcases abJ.1 hu with hu|hu
  ·exact e ⟨u,hu,g⟩
  simp at hu;subst hu;exact f g
 refine r0 W ?_;rw[abB E]at e;exact aE W<|ar.of_eq<|congrArg SV.i<|by rw[j,if_neg e]
def ll(bd:List (List cU))(p:List cU):Nat->List cU
 |0=>tT p 0
 |i+1=>DS (ll bd p i)<|lP (tT p<|i+1)<|bd.getD i []
def mO(bd:List (List cU))(p:List cU):List cU:=ll bd p bd.length
structure Y0(V K:Nat)(bd:List (List cU))(p:List cU):Prop where
 d0:vj V K (pM p 0)
 d:∀i,i<bd.length->vj V K (pM p<|i+1)
 m:∀i,i<bd.length->vj V K (jx (tT p<|i+1)<|bd.getD i [])
 a:∀i,i<bd.length->vj V K (ll bd p i++lP (tT p<|i+1) (bd.getD i []))
 r:∀i,i<bd.length->(∀u∈bd.getD i [],Di V K u)/\(bd.getD i []).length<2^40
def vj.norm{l:List cU}(h:vj V K l):(∀u∈si l,Di V K u)/\(si l).length<2^30:=h.2 l<|List.prefix_refl l
def n5(own:Bool)(l:List (List cU)):SV:=.bA own 1 default (di false) l
end
structure Hi where
 sh:Int
 dZ:ck
 deriving Inhabited
def oX(f:Hi):SV:=.agg [.i f.sh,.s f.dZ]
structure bT where
 kind:ck
 ah:List Hi
 out:Int
 k:ck
 dI:List ck
 deriving Inhabited
def dQ(u:bT):SV:=.agg [.s u.kind,.bA false 2 default oX u.ah,.i u.out,.s u.k,.strs false u.dI]
structure gV where
 n:Int
 aa:List bT
 ints:List Int
 deriving Inhabited
def bh(p:gV):SV:=.agg [.i p.n,.bA false 5 default dQ p.aa,.ints .i64 false p.ints]
def bq:ck:=[105,110,116,101,103,114,97,116,111,114]
def jz:ck:=[97,100,100,101,114]
def dy:ck:=[116,97,98,108,101]
structure XH(u:bT):Prop where
 ah:u.ah.length<2^40
 dZ:∀f∈u.ah,ct f.dZ
 k:ct u.k
 dI:u.dI.length<2^40
 Kj:∀s∈u.dI,ct s
structure rA(p:gV):Prop where
 aa:p.aa.length<2^40
 unit:∀u∈p.aa,XH u
 ints:p.ints.length<2^40
def oD(p:gV)(h:rA p):aM Tryz.prog 50 [bh p] (.i<|p.aa.countP λu=>decide (u.kind=bq)):=by
 have hl:=h.aa;refine bS Tryz.func50 W<|bM W (λi:Nat=>[(1,.box true<|bh p),(3,.i<|(p.aa.take i).countP λu=>decide (u.kind=bq)),(4,.i i)]) (λi=>i<=p.aa.length) (λi=>p.aa.length-i) 0 (aaM _) ⟨G,G,G,U⟩ ?_;intro i hi;have hc:((p.aa.take i).countP λu=>decide (u.kind=bq))<=i:=abI adU (by simp;omega);refine bQ W W ?_ ?_<;>intro e
 ·have b:i<p.aa.length:=E;have c:(i:Int).toNat=i:=E;have d:p.aa.getD i default=p.aa[i]:=au b;have hs:((p.aa.take<|i+1).countP λu=>decide (u.kind=bq))=((p.aa.take i).countP λu=>decide (u.kind=bq))+(if p.aa[i].kind=bq then 1 else 0):=by
   rw[abR b,aeh,afC];by_cases g:p.aa[i].kind=bq<;>simp[g]
  refine r1 W (by simp[ag,and_true,c];omega) ?_;refine gg W ?_ ?_<;>intro a
  ·rw[c,d]at a;have a:p.aa[i].kind=bq:=a;rw[if_pos a]at hs;refine r1 W (by simp[ag,and_true];omega) ?_;exact again (i+1) E E ⟨G,⟨W,ar.of_eq<|congrArg SV.i<|by rw[hs];omega⟩,G,U⟩
  rw[c,d]at a;have a:¬p.aa[i].kind=bq:=a;rw[if_neg a]at hs;refine r1 W (by simp[ag,and_true];omega) ?_;exact again (i+1) E E ⟨G,⟨W,ar.of_eq<|congrArg SV.i<|by rw[hs];omega⟩,G,U⟩
 refine bK W W<|bR ?_;rw[abB E]
noncomputable def gu(n:Int)(f:Hi):Int:=if f.sh<0\/n<=f.sh then 10 else if aL f.dZ≠0 then aL f.dZ else if bV f.dZ=0 then 6 else 0
def jT(u:bT)(lo hi:Int):Prop:=(u.ah.length:Int)<lo\/hi<u.ah.length\/(u.kind=dy/\(u.dI.length<1\/13<u.dI.length))\/(u.kind≠dy/\0<u.dI.length)
instance(u:bT)(lo hi:Int):Decidable (jT u lo hi):=by unfold jT;infer_instance
def Dh(u:bT):Int:=if u.kind=bq then 2 else 1
def xq(u:bT):Int:=if u.kind=bq then 2 else if u.kind=jz then 8 else 1
noncomputable def fW(n:Int)(u:bT):Int:=
 if u.kind≠bq/\u.kind≠jz/\u.kind≠dy then 13
 else if jT u (Dh u) (xq u)then 2
 else if aK (gu n) u.ah≠0 then aK (gu n) u.ah
 else if u.out<1\/n<=u.out then 10
 else if aL u.k≠0 then aL u.k else aK aL u.dI
def Az(p:gV)(u:bT)(hu:XH u):aM Tryz.prog 102 [bh p,dQ u] (.i<|fW p.n u):=by
 have y:=hu.ah;have x:=hu.dI;refine bS Tryz.func102 W<|cx 3 [(2,.box true<|bh p),(3,.box true<|dQ u),(5,.i<|Dh u),(6,.i<|xq u)] (u.kind=bq\/u.kind=jz\/u.kind=dy) ?_ λz=>?_
 ·refine bQ W W ?_ ?_<;>intro h
  ·have h:u.kind=bq:=h;refine bL W (.inl h) ⟨G,G,⟨W,ar.of_eq<|congrArg SV.i<|by unfold Dh;rw[if_pos h]⟩,⟨W,ar.of_eq<|congrArg SV.i<|by unfold xq;rw[if_pos h]⟩,U⟩
  have h:¬u.kind=bq:=h;refine bQ W W ?_ ?_<;>intro j
  ·have j:u.kind=jz:=j;refine bL W (.inr<|.inl j) ⟨G,G,⟨W,ar.of_eq<|congrArg SV.i<|by unfold Dh;rw[if_neg h]⟩,⟨W,ar.of_eq<|congrArg SV.i<|by unfold xq;rw[if_neg h,if_pos j]⟩,U⟩
  have j:¬u.kind=jz:=j;refine bQ W W ?_ ?_<;>intro a
  ·have a:u.kind=dy:=a;refine bL W (.inr<|.inr a) ⟨G,G,⟨W,ar.of_eq<|congrArg SV.i<|by unfold Dh;rw[if_neg h]⟩,⟨W,ar.of_eq<|congrArg SV.i<|by unfold xq;rw[if_neg h,if_neg j]⟩,U⟩
  have a:¬u.kind=dy:=a;refine bK W W<|ar.of_eq<|congrArg SV.i<|by unfold fW;rw[if_pos ⟨h,j,a⟩]
 have b:fW p.n u=if jT u (Dh u) (xq u)then 2
  else if aK (gu p.n) u.ah≠0 then aK (gu p.n) u.ah
  else if u.out<1\/p.n<=u.out then 10
  else if aL u.k≠0 then aL u.k else aK aL u.dI:=by
  unfold fW;rw[if_neg<|by rintro⟨t,j,a⟩;rcases z with h|h|h<;>contradiction]
 generalize Dh u=lo at*;generalize xq u=hi at*;refine cx 2 [(2,.box true<|bh p),(3,.box true<|dQ u)] (¬jT u lo hi) ?_ λw=>?_
 ·have d:jT u lo hi->(2:Int)=fW p.n u:=by intro h;rw[b,if_pos h]
  refine bJ W 28 W ?_ ?_<;>intro h
  ·refine bK W W<|ar.of_eq<|congrArg SV.i<|d<|.inl E
  refine bJ W 35 W ?_ ?_<;>intro j
  ·refine bK W W<|ar.of_eq<|congrArg SV.i<|d<|.inr<|.inl E
  refine bJ W 39 W ?_ ?_<;>intro a
  ·have a:u.kind=dy:=a;refine bJ W 42 W ?_ ?_<;>intro c
   ·refine bK W W<|ar.of_eq<|congrArg SV.i<|d<|.inr<|.inr<|.inl ⟨a,E⟩
   refine bJ W 48 W ?_ ?_<;>intro l
   ·refine bK W W<|ar.of_eq<|congrArg SV.i<|d<|.inr<|.inr<|.inl ⟨a,E⟩
   refine bJ W 52 W (λk=>absurd a k) λk=>?_;refine bL W ?_ ⟨G,G,U⟩;rintro(g|g|g|g)
   ·omega
   ·omega
   ·have:=g.2;omega
   exact g.1 a
  have a:¬u.kind=dy:=a;refine bJ W 52 W (λk=>?_) λk=>absurd a k;refine bQ W W ?_ ?_<;>intro A
  ·refine bK W W<|ar.of_eq<|congrArg SV.i<|d<|.inr<|.inr<|.inr ⟨a,E⟩
  refine bL W ?_ ⟨G,G,U⟩;rintro(g|g|g|g)
  ·omega
  ·omega
  ·exact a g.1
  have:=g.2;omega
 rw[if_neg w]at b;refine bM W (λi:Nat=>[(2,.box true<|bh p),(3,.box true<|dQ u),(8,.i i)]) (λi=>i<=u.ah.length/\aK (gu p.n) u.ah=aK (gu p.n) (u.ah.drop i)) (λi=>u.ah.length-i) 0 ⟨aaM _,W⟩ ⟨G,G,G,U⟩ ?_;rintro i⟨hi,q⟩;refine bQ W W ?_ ?_<;>intro t
 ·have o:i<u.ah.length:=E;have v:(i:Int).toNat=i:=E;have B:u.ah.getD i default=u.ah[i]:=au o;rw[dA _ o]at q;have r:=hu.dZ _<|abw o;refine r1 W (by simp only[ag,and_true,v];omega) ?_;rw[v,B];generalize u.ah[i]=f at*;have d:gu p.n f≠0->gu p.n f=fW p.n u:=by
   intro h;rw[if_pos h]at q;rw[b,if_pos<|by rw[q];exact h,q]
  refine aC 72 W ?_ ?_<;>intro j
  ·have e:gu p.n f=10:=by unfold gu;rw[if_pos<|.inl j]
   refine bK W W<|ar.of_eq<|congrArg SV.i<|by rw[<-d (by rw[e];decide),e]
  refine bQ W W ?_ ?_<;>intro a
  ·have e:gu p.n f=10:=by unfold gu;rw[if_pos<|.inr a]
   refine bK W W<|ar.of_eq<|congrArg SV.i<|by rw[<-d (by rw[e];decide),e]
  have m:gu p.n f=if aL f.dZ≠0 then aL f.dZ else if bV f.dZ=0 then 6 else 0:=by unfold gu;rw[if_neg<|by rintro(g|g)<;>contradiction]
  refine bP W W (check_sound f.dZ r) W<|bJ W 84 W ?_ ?_<;>intro c
  ·have c:aL f.dZ=0:=c;rw[if_neg<|by rw[c];simp]at m;refine r0 W ?_;have s:=mY<|bV f.dZ;rw[fZ c]at s;refine bG W s W<|r0 W<|ni W W W ?_ ?_<;>intro l
   ·have l:bV f.dZ=0:=by simpa using l
    rw[if_pos l]at m;refine bQ W W (λ_=>?_) λk=>absurd fh k;refine bK W W<|ar.of_eq<|congrArg SV.i<|by rw[<-d (by rw[m];decide),m]
   have l:¬bV f.dZ=0:=by simpa using l
   rw[if_neg l]at m;rw[if_neg<|by rw[m];simp]at q;refine bQ W W (λk=>absurd c k) λk=>?_;refine r1 W (by simp only[ag,and_true];omega) ?_;exact again (i+1) E ⟨E,q⟩ ⟨G,G,G,U⟩
  have c:¬aL f.dZ=0:=c;rw[if_pos c]at m;refine bQ W W (λk=>?_) λk=>absurd c<|by simpa using k
  refine bK W W<|ar.of_eq<|congrArg SV.i<|by rw[<-d (by rw[m];exact c),m]
 have s:aK (gu p.n) u.ah=0:=by rw[q,ab5 E];rfl
 rw[if_neg<|by rw[s];simp]at b;refine bJ W 95 W ?_ ?_<;>intro j
 ·refine bK W W<|ar.of_eq<|congrArg SV.i<|by rw[b,if_pos<|.inl j]
 refine bQ W W ?_ ?_<;>intro a
 ·refine bK W W<|ar.of_eq<|congrArg SV.i<|by rw[b,if_pos<|.inr a]
 rw[if_neg<|by rintro(g|g)<;>contradiction]at b;refine bP W W (check_sound u.k hu.k) W<|bQ W W ?_ ?_<;>intro c
 ·have c:aL u.k=0:=c;rw[if_neg<|by rw[c];simp]at b;refine bP W W (CX u.dI hu.Kj E) W<|bK W W<|ar.of_eq<|congrArg SV.i b.symm
 have c:¬aL u.k=0:=c;rw[if_pos c]at b;refine bK W W<|ar.of_eq<|congrArg SV.i b.symm
def wx(xs:List Int)(n:Int)(hl:xs.length<2^60):aM Tryz.prog 177 [.ints .i64 false xs,.i n] (.u<|decide (n∈xs)):=by
 refine bS Tryz.func177 W<|bM W (λi:Nat=>[(0,.ints .i64 false xs),(1,.i n),(5,.i i)]) (λi=>i<=xs.length/\(n∈xs↔n∈xs.drop i)) (λi=>xs.length-i) 0 ⟨aaM _,Iff.rfl⟩ ⟨G,G,G,U⟩ ?_;rintro i⟨hi,c⟩;refine bQ W W ?_ ?_<;>intro f
 ·have b:i<xs.length:=E;have d:(i:Int).toNat=i:=E;have g:xs.getD i 0=xs[i]:=au b;rw[abO b,abz]at c;refine r1 W (by simp[ag,d];omega) ?_;rw[d,g];refine gg W ?_ ?_<;>intro a
  ·have a:xs[i]=n:=a;refine bK W W ?_;show true=_;rw[eq_comm,decide_eq_true_eq,c];exact .inl a.symm
  have a:¬xs[i]=n:=a;refine r1 W (by simp[ag];omega) ?_;exact again (i+1) E ⟨E,c.trans ⟨λh=>h.resolve_left λe=>a e.symm,.inr⟩⟩ ⟨G,G,G,U⟩
 refine bK W W ?_;show false=_;rw[eq_comm,decide_eq_false_iff_not,c,ab5 E];simp
def cR(u:bT):List Hi:=if u.kind=bq then u.ah.drop 1 else u.ah
def wb(u:bT)(hu:XH u)(a:u.kind=bq->1<=u.ah.length):aM Tryz.prog 178 [dQ u] (.bA false 2 default oX<|cR u):=by
 refine bS Tryz.func178 W<|bQ W W ?_ ?_<;>intro h
 ·have h:u.kind=bq:=h;have:=a h;refine r1 W (by simp[ag];omega) ?_;have e:(u.ah.drop (1:Int).toNat).take (u.ah.length-(1:Int).toNat)=cR u:=by unfold cR;rw[if_pos h];exact abB I
  exact aE W<|ar.of_eq<|congrArg (SV.bA false 2 default oX) e
 have h:¬u.kind=bq:=h;refine bK W W<|ar.of_eq<|congrArg (SV.bA false 2 default oX)<|by unfold cR;rw[if_neg h]
def cB(s:Int):Nat->List bT->Int
 |_,[]=> -1
 |k,u::r=>if u.out=s then k else cB s (k+1) r
def eh(us:List bT)(s:Int):Int:=cB s 0 us
def GM(p:gV)(h:rA p)(s:Int):aM Tryz.prog 179 [bh p,.i s] (.i<|eh p.aa s):=by
 have hl:=h.aa;refine bS Tryz.func179 W<|bM W (λi:Nat=>[(1,.i s),(2,.box true<|bh p),(5,.i i)]) (λi=>i<=p.aa.length/\eh p.aa s=cB s i (p.aa.drop i)) (λi=>p.aa.length-i) 0 ⟨aaM _,W⟩ ⟨G,G,G,U⟩ ?_;rintro i⟨hi,b⟩;refine bQ W W ?_ ?_<;>intro e
 ·have c:i<p.aa.length:=E;have d:(i:Int).toNat=i:=E;have f:p.aa.getD i default=p.aa[i]:=au c;rw[abO c,cB]at b;refine r1 W (by simp[ag,d];omega) ?_;rw[d,f];refine gg W ?_ ?_<;>intro a
  ·have a:p.aa[i].out=s:=a;rw[if_pos a]at b;refine bK W W<|ar.of_eq<|congrArg SV.i b.symm
  have a:¬p.aa[i].out=s:=a;rw[if_neg a]at b;refine r1 W (by simp[ag,and_true];omega) ?_;exact again (i+1) E ⟨E,b⟩ ⟨G,G,G,U⟩
 refine bK W W<|bR ?_;rw[b,ab5 E];rfl
def wN{s:Int}:∀{us:List bT}{k:Nat},cB s k us<(k+us.length:Nat)
 |[],k=>by simp[cB];omega
 |u::r,k=>by have:=wN (s:=s) (us:=r) (k:=k+1);simp[cB];split<;>omega
def yo(us:List bT)(s:Int):eh us s<us.length:=by have:=wN (s:=s) (us:=us) (k:=0);unfold eh;omega
def kP(us:List bT)(out:List Int)(f:Hi):Bool:=decide (eh us f.sh<0\/eh us f.sh∈out)
def jV(us:List bT)(out:List Int)(j:Nat):Bool:=decide (¬(j:Int)∈out)&&(cR<|us.getD j default).all (kP us out)
def cY(us:List bT)(out:List Int)(j:Nat):Int:=if j<us.length then(if jV us out j=true then(j:Int)else cY us out (j+1))else -1
 termination_by us.length-j
def jH{us:List bT}{out:List Int}{j:Nat}(h:j<us.length):cY us out j=if jV us out j=true then(j:Int)else cY us out (j+1):=by rw[cY,if_pos h]
def mV{us:List bT}{out:List Int}{j:Nat}(h:us.length<=j):cY us out j= -1:=by rw[cY,if_neg E]
def oR(us:List bT)(out:List Int)(j:Nat):cY us out j= -1\/∃i:Nat,cY us out j=i/\j<=i/\i<us.length/\jV us out i=true:=by
 induction hm:us.length-j generalizing j with
 |zero=>exact .inl (mV E)
 |succ m a=>
  rw[jH E];split
  ·rename_i h;exact .inr ⟨j,W,.refl,E,h⟩
  rcases a (j+1) E with h|⟨i,c,d,b⟩
  ·exact .inl h
  exact .inr ⟨i,c,E,b⟩
def ew(us:List bT):Nat->List Int->List Int
 |0,out=>out
 |k+1,out=>if cY us out 0<0 then out else ew us k (out++[cY us out 0])
def az(us:List bT):List Int:=ew us (us.length+1) []
def vX{us:List bT}{out:List Int}(hn:out.Nodup)(b:∀x∈out,0<=x/\x<us.length):out.length<=us.length:=by
 have:=xT (m:=(List.range us.length).map λ(x:Nat)=>(x:Int)) hn λx a=>by have:=b x a;exact abF.2 ⟨x.toNat,ab9.2 E,E⟩
 simpa using this
def vW{us:List bT}{out:List Int}(hn:out.Nodup)(d:∀x∈out,0<=x/\x<us.length)(h:¬cY us out 0<0):(out++[cY us out 0]).Nodup/\∀x∈out++[cY us out 0],0<=x/\x<us.length:=by
 rcases oR us out 0 with e|⟨i,e,_,k,f⟩
 ·rw[e]at h;simp_all
 rw[e];have j:¬(i:Int)∈out:=by unfold jV at f;simp at f;exact f.1
 refine⟨?_,λx c=>?_⟩
 ·rw[abC];refine⟨hn,I,λa g b d=>?_⟩;simp at d;subst d;rintro rfl;exact j g
 rcases abJ.1 c with c|c
 ·exact d x c
 simp at c;omega
def Fdd(us:List bT):Prop:=∀u∈us,u.kind=bq->1<=u.ah.length
def rY(p:gV)(h:rA p)(B:Fdd p.aa):aM Tryz.prog 103 [bh p] (.ints .i64 true<|az p.aa):=by
 have hl:=h.aa;refine bS Tryz.func103 W<|bM W (λout:List Int=>[(1,.box true<|bh p),(3,.ints .i64 true out)]) (λout=>out.Nodup/\(∀x∈out,0<=x/\x<p.aa.length)/\az p.aa=ew p.aa (p.aa.length+1-out.length) out) (λout=>p.aa.length+1-out.length) [] ⟨acd,I,W⟩ ⟨G,G,U⟩ ?_;rintro out⟨hn,m,e⟩;have y:=vX hn m;refine r1 W (by simp only[ag,and_true];omega) ?_;refine loop (λj:Nat=>[(1,.box true<|bh p),(3,.ints .i64 true out),(4,.i<|cY p.aa out j),(5,.i<|(j:Int)-1)]) (λj=>j<=p.aa.length) (λj=>j) p.aa.length (abq _)
  ⟨G,G,⟨W,ar.of_eq<|congrArg SV.i (mV<|abq _).symm⟩,G,U⟩ ?_
 intro j J;refine bQ W W ?_ ?_<;>intro C
 ·obtain⟨i,rfl⟩:∃i,j=i+1:=⟨j-1,E⟩;have F:((i+1:Nat):Int)-1=i:=E;have v:(i:Int).toNat=i:=E;have hi:i<p.aa.length:=E;have w:p.aa.getD i default=p.aa[i]:=au hi;have hu:=h.unit _<|abw hi;have n:=jH (out:=out) hi;have z:(cR p.aa[i]).length<=p.aa[i].ah.length:=by unfold cR;split<;>simp
  have A:=hu.ah;rw[F];refine bP W W (wx out i E) W<|r1 W (by simp only[ag,and_true,v];omega) ?_;refine cl W (by rw[v,w];rfl) (wb p.aa[i] hu<|B _<|abw hi) W ?_;refine r0 W<|kR (λ(k:Nat)(r:Bool)=>[(1,.box true<|bh p),(3,.ints .i64 true out),(4,.i<|cY p.aa out<|i+1),(5,.i i),(6,.u r),(7,.bA false 2 default oX<|cR p.aa[i]),(8,.i k)])
   (λk r=>k<=(cR p.aa[i]).length/\jV p.aa out i=(r&&((cR p.aa[i]).drop k).all (kP p.aa out))) (λk _=>(cR p.aa[i]).length-k) 0 (!decide ((i:Int)∈out)) ⟨aaM _,by unfold jV;rw[w];simp⟩
   ⟨G,G,G,G,G,G,G,U⟩ ?_
  rintro k r⟨H,c⟩;have stop:k<(cR p.aa[i]).length/\r=true\/jV p.aa out i=r:=by
   rcases abM k (cR p.aa[i]).length with g|g
   ·cases r
    ·exact .inr (by simpa using c)
    exact .inl ⟨g,W⟩
   exact .inr (by rw[c,ab5 g];simp)
  have fin:∀b:Bool,jV p.aa out i=b->cY p.aa out i=if b=true then(i:Int)else cY p.aa out (i+1):=by intro b m;rw[n,m]
  refine bJ W 32 W ?_ ?_<;>intro d
  ·refine r0 W<|ni W W W ?_ ?_<;>intro a
   ·have a:r=true:=a;subst a;have f:k<(cR p.aa[i]).length:=E;have u:(k:Int).toNat=k:=E;have t:(cR p.aa[i]).getD k default=(cR p.aa[i])[k]:=au f;rw[abO f,ab7,ab3]at c;refine r1 W (by simp only[ag,and_true,u];omega) ?_;refine cd W (by rw[u,t];rfl) (GM p h (cR p.aa[i])[k].sh) W ?_;refine k0 W aW<|aC 46 W ?_ ?_<;>intro s
    ·refine r1 W (by simp only[ag,and_true];omega) ?_;have hm:kP p.aa out (cR p.aa[i])[k]=true:=by unfold kP;rw[decide_eq_true_eq];exact .inl s
     rw[hm]at c;exact again (k+1,true) (by dsimp only;omega) ⟨by dsimp only;omega,c⟩ ⟨G,G,G,G,G,G,G,U⟩
    refine bP W W (wx out (eh p.aa (cR p.aa[i])[k].sh) E) W<|r1 W (by simp only[ag,and_true];omega) ?_;have hm:kP p.aa out (cR p.aa[i])[k]=decide (eh p.aa (cR p.aa[i])[k].sh∈out):=by unfold kP;congr 1;exact propext ⟨λg=>g.resolve_left s,.inr⟩
    rw[hm]at c;exact again (k+1,decide (eh p.aa (cR p.aa[i])[k].sh∈out)) (by dsimp only;omega) ⟨by dsimp only;omega,c⟩ ⟨G,G,G,G,G,G,G,U⟩
   have a:r=false:=a;subst a;have l:=fin false (by simpa using c);refine r0 W<|ni W W W (λg=>absurd g fh) λ_=>?_;refine r1 W (by simp only[ag,and_true];omega) ?_;exact again i E E ⟨G,G,⟨W,ar.of_eq<|congrArg SV.i<|by rw[l];simp⟩,G,U⟩
  have l:=fin r<|stop.resolve_left λg=>E;refine r0 W<|ni W W W ?_ ?_<;>intro a
  ·have a:r=true:=a;subst a;refine r1 W (by simp only[ag,and_true];omega) ?_;exact again i E E ⟨G,G,⟨W,ar.of_eq<|congrArg SV.i<|by rw[l];simp⟩,G,U⟩
  have a:r=false:=a;subst a;refine r1 W (by simp only[ag,and_true];omega) ?_;exact again i E E ⟨G,G,⟨W,ar.of_eq<|congrArg SV.i<|by rw[l];simp⟩,G,U⟩
 have q:j=0:=E;subst q;have o:p.aa.length+1-out.length=(p.aa.length-out.length)+1:=E;rw[o,ew]at e;refine bQ W W ?_ ?_<;>intro d
 ·rw[if_pos d]at e;refine bK W W<|ar.of_eq<|congrArg (SV.ints .i64 true) e.symm
 rw[if_neg d]at e;obtain⟨g1,g2⟩:=vW hn m d;have D:=vX g1 g2;simp only[abE,abD,abK]at D;refine r1 W (by simp only[ag,and_true,len,abD,abK]<;>omega) ?_;refine again (out++[cY p.aa out 0]) (by simp only[abE,abD,abK];omega) ⟨g1,g2,?_⟩ ⟨G,G,U⟩;rw[e];congr 1;simp only[abE,abD,abK];omega
def mS(n:Nat)(us:List bT)(i:Nat):List ck:=(us.take i).foldl (λ(o:List ck)u=>o.set u.out.toNat u.k)<|List.replicate n<|qt 0
def Kq(n:Nat)(us:List bT):List ck:=mS n us us.length
def yV(n:Nat)(us:List bT):∀i,i<=us.length->(mS n us i).length=n
 |0,_=>by simp[mS]
 |i+1,h=>by have:=yV n us i E;unfold mS at*;rw[abR E,adk];simpa using this
def FC{n:Nat}{us:List bT}{i:Nat}(h:i<us.length):mS n us (i+1)=(mS n us i).set us[i].out.toNat us[i].k:=by unfold mS;rw[abR h,adk];rfl
def YT(n:Nat)(us:List bT):Prop:=∀u∈us,0<=u.out/\u.out<n
def vt(p:gV)(h:rA p)(n:Nat)(hn:p.n=n)(c:n<2^40)(f:YT n p.aa):aM Tryz.prog 104 [bh p] (.strs true<|Kq n p.aa):=by
 have hl:=h.aa;refine bS Tryz.func104 W<|r0 W<|cl W (by rw[hn];rfl) (Hm n c) W ?_;refine bM W (λi:Nat=>[(1,.box true<|bh p),(3,.strs true<|mS n p.aa i),(4,.i i)]) (λi=>i<=p.aa.length) (λi=>p.aa.length-i) 0 (aaM _) ⟨G,G,G,U⟩ ?_;intro i hi;refine bQ W W ?_ ?_<;>intro g
 ·have a:i<p.aa.length:=E;have d:(i:Int).toNat=i:=E;have e:p.aa.getD i default=p.aa[i]:=au a;have hu:=f _<|abw a;have b:=yV n p.aa i hi;refine k1 W aW (by simp only[ag,and_true,d,e,b];omega) ?_;refine again (i+1) E E ⟨G,⟨W,ar.of_eq<|congrArg (SV.strs true) ?_⟩,G,U⟩;rw[FC a,d,e]
 refine bK W W<|ar.of_eq<|congrArg (SV.strs true) ?_;have:i=p.aa.length:=E;subst this;rfl
def wu(x:Rat)(cs:List Rat):Rat:=cs.foldr (λa s=>s*x+a) 0
def IU{x:Rat}{K L:Nat}(a:Sz x L):∀{cs:List Rat},(∀c∈cs,Sz c K)->Sz (wu x cs) (cs.length*(L+K+1)+1)
 |[],_=>by have:Sz (0:Rat) 1:=⟨by simp[dm],by simp[iG]⟩;simpa[wu]using this
 |c::cs,h=>by have d:=IU a (cs:=cs) λc hc=>h c (by simp[hc]);have b:=(d.mul a).add<|h c I;refine b.mono ?_;rw[abD,ae1];omega
def Gs(cs:List Rat)(x:Rat){K L:Nat}(a:Sz x L)(hc:∀c∈cs,Sz c K)(f:(cs.length+1)*(L+K+1)+1<2^33)(hl:cs.length<2^40):
 aM Tryz.prog 105 [.strs false<|cs.map qt,.s<|qt x] (.s<|qt<|wu x cs):=by
 refine bS Tryz.func105 W<|r1 W (by simp[ag,and_true,abL];omega) ?_;refine loop (λj:Nat=>[(0,.strs false<|cs.map qt),(1,.s<|qt x),(5,.s<|qt<|wu x<|cs.drop j),(6,.i<|(j:Int)-1)]) (λj=>j<=cs.length) (λj=>j) cs.length (abq _)
  ⟨G,G,⟨W,ar.of_eq<|congrArg SV.s<|by rw[acN];exact AL.symm⟩,⟨W,ar.of_eq<|congrArg SV.i<|by rw[abL]⟩,U⟩ ?_
 intro j l;refine bQ W W ?_ ?_<;>intro g
 ·obtain⟨i,rfl⟩:∃i,j=i+1:=⟨j-1,E⟩;have k:((i+1:Nat):Int)-1=i:=E;have d:(i:Int).toNat=i:=E;have hi:i<cs.length:=E;have h:(cs.map qt).getD i []=qt cs[i]:=by rw[abx];simp[hi]
  have e:=IU a (cs:=cs.drop<|i+1) λc b=>hc c<|adg b;have m:(cs.drop<|i+1).length*(L+K+1)<=cs.length*(L+K+1):=abT _ I;rw[ae1]at f;rw[k];refine r1 W (by simp[ag,and_true,d,abL]<;>omega) ?_;refine bH W (gi (wu x<|cs.drop<|i+1) x e a E) W<|r1 W (by simp[ag,and_true,d,abL];omega) ?_;refine cd W (by rw[d,h];rfl) (yG (wu x (cs.drop<|i+1)*x) cs[i] (e.mul a) (hc _<|abw hi) E) W ?_;refine k1 W aW (by simp[ag,and_true];omega) ?_;refine again i E E ⟨G,G,⟨W,ar.of_eq<|congrArg SV.s ?_⟩,G,U⟩;rw[abO hi];rfl
 have:j=0:=E;subst this;refine bN W W
end Go.Ai
section
namespace Go.Ai
open Go.Proofs Go.RowKit
section
variable{n:Int}{u:bT}
structure iQ(n:Int)(u:bT):Prop where
 kind:u.kind=bq\/u.kind=jz\/u.kind=dy
 Bj:¬jT u (Dh u) (xq u)
 feed:∀f∈u.ah,0<=f.sh/\f.sh<n/\aL f.dZ=0/\bV f.dZ≠0
 out:1<=u.out/\u.out<n
 k:aL u.k=0
 dI:∀c∈u.dI,aL c=0
def Lj{f:Hi}(h:gu n f=0):0<=f.sh/\f.sh<n/\aL f.dZ=0/\bV f.dZ≠0:=by
 unfold gu at h;split at h
 ·cases h
 rename_i c;split at h
 ·contradiction
 rename_i b;split at h
 ·cases h
 rename_i a;simp_all
def p9(h:fW n u=0):iQ n u:=by
 unfold fW at h;split at h
 ·cases h
 rename_i i;split at h
 ·cases h
 rename_i e;split at h
 ·contradiction
 rename_i a;split at h
 ·cases h
 rename_i g;split at h
 ·contradiction
 rename_i d;have a:=dK.1 (show aK (gu n) u.ah=0 by simpa using a);have c:=dK.1 h;refine⟨?_,e,λf b=>Lj<|a f b,E,by simpa using d,c⟩;by_cases g1:u.kind=bq
 ·exact .inl g1
 by_cases g2:u.kind=jz
 ·simp_all
 by_cases j:u.kind=dy
 all_goals simp_all
def Gp:bq≠jz:=fh
def wm:bq≠dy:=fh
def AR:jz≠dy:=fh
def iQ.int(h:iQ n u)(a:u.kind=bq):u.ah.length=2/\u.dI=[]:=by
 have b:=h.Bj;unfold jT Dh xq at b;rw[if_pos a,if_pos a]at b;have c:¬u.kind=dy:=by rw[a];exact wm
 refine⟨E,adp.1 ?_⟩;rcases ace u.dI.length with g|g
 ·exact g
 simp_all
def iQ.add(h:iQ n u)(a:u.kind=jz):1<=u.ah.length/\u.ah.length<=8/\u.dI=[]:=by
 have b:=h.Bj;unfold jT Dh xq at b;have c:¬u.kind=dy:=by rw[a];exact AR
 refine⟨E,E,adp.1 ?_⟩;rcases ace u.dI.length with g|g
 ·exact g
 simp_all
def iQ.table(h:iQ n u)(a:u.kind=dy):u.ah.length=1/\1<=u.dI.length/\u.dI.length<=13:=by
 have b:=h.Bj;have c:¬u.kind=bq:=by rw[a];exact wm.symm
 have d:¬u.kind=jz:=by rw[a];exact AR.symm
 unfold jT Dh xq at b;rw[if_neg c,if_neg c,if_neg d]at b;by_cases g:u.dI.length<1\/13<u.dI.length
 ·exact absurd (.inr<|.inr<|.inl ⟨a,g⟩) b
 omega
def iQ.ZD{us:List bT}(h:∀u∈us,iQ n u):Fdd us:=λu hu a=>by have:=((h u hu).int a).1;omega
def iQ.outs{m:Nat}{us:List bT}(h:∀u∈us,iQ n u)(hm:n=m):YT m us:=λu hu=>by have:=(h u hu).out;omega
noncomputable def cp(n:Nat)(us:List bT):List Rat:=us.foldl (λ(o:List Rat)u=>o.set u.out.toNat<|bV u.k)<|List.replicate n 0
def Kp{us:List bT}(h:∀u∈us,aL u.k=0):∀(o:List Rat),us.foldl (λ(o:List ck)u=>o.set u.out.toNat u.k) (o.map qt)=(us.foldl (λ(o:List Rat)u=>o.set u.out.toNat<|bV u.k) o).map qt:=by
 induction us with
 |nil=>intro o;rfl
 |cons u us a=>intro o;simp;rw[<-a λv b=>h v<|by simp[b],ade,fZ<|h u I]
def D6{n:Nat}{us:List bT}(h:∀u∈us,aL u.k=0):Kq n us=(cp n us).map qt:=by unfold Kq mS cp;rw[acz,<-Kp h,ae3]
def Bd(n:Nat)(us:List bT):(cp n us).length=n:=by
 unfold cp;have:∀(us:List bT)(o:List Rat),(us.foldl (λ(o:List Rat)u=>o.set u.out.toNat<|bV u.k) o).length=o.length:=by
  intro us
  induction us with
  |nil=>intro o;rfl
  |cons u us a=>intro o;rw[acK,a];simp
 rw[this];simp
def Be{n:Nat}{us:List bT}{A:Rat->Prop}(f:A 0)(h:∀u∈us,A<|bV u.k):∀q∈cp n us,A q:=by
 have:∀(us:List bT)(o:List Rat),(∀u∈us,A<|bV u.k)->(∀q∈o,A q)->∀q∈us.foldl (λ(o:List Rat)u=>o.set u.out.toNat<|bV u.k) o,A q:=by
  intro us
  induction us with
  |nil=>intro o _ h;exact h
  |cons u us b=>
   intro o e d;refine b _ (λv c=>e v<|by simp[c]) λq a=>?_;rcases aeU a with a|rfl
   ·exact d q a
   simp_all
 exact this us _ h λq a=>by rw[ad7 a];exact f
def Mg:Sz 0 1:=⟨by simp[dm],by simp[iG]⟩
noncomputable def XP(n:Nat)(us:List bT)(u:bT):Rat:=wu (bV (u.ah.getD 0 default).dZ*(cp n us).getD (u.ah.getD 0 default).sh.toNat 0) (u.dI.map bV)
def conflict(n:Nat)(us:List bT)(u:bT):Prop:=u.kind=dy/\bV u.k≠XP n us u
def u9(n:Nat)(us:List bT):Prop:=∀s:Nat,1<=s->s<n->us.countP (λu=>decide (u.out=(s:Int)))=1
def dq(us:List bT):Nat:=us.countP λu=>decide (u.kind=bq)
end
open Classical in
noncomputable def dT(p:gV):Int:=
 if p.n<1\/100<p.n then 3
 else if 96<p.aa.length then 5
 else if aK (fW p.n) p.aa≠0 then aK (fW p.n) p.aa
 else if 24<p.ints.length then 5
 else if∃k∈p.ints,k<0\/p.n<=k then 10
 else if 24<dq p.aa then 5
 else if¬u9 p.n.toNat p.aa then 19
 else if(az p.aa).length<p.aa.length then 18
 else if∃u∈p.aa,conflict p.n.toNat p.aa u then 30 else 0
def Wv{l:List ck}(h:∀c∈l,aL c=0):(l.map bV).map qt=l:=by
 rw[adA]
 conv=>rhs;rw[<-List.map_id l]
 exact acr λc hc=>fZ<|h c hc
def Ix{l:List Rat}{k:Nat}(h:k<l.length):(l.map qt).getD k []=qt (l.getD k 0):=by rw[abx,abx,adb,abA h];rfl
def jI{α:Type}{l:List α}{i:Nat}(h:i<l.length){P:α->Prop}(b:¬∃x∈l.take i,P x)(a:¬P l[i]):¬∃x∈l.take (i+1),P x:=by
 rw[abR h];rintro⟨u,hu,g⟩;rcases abJ.1 hu with hu|hu
 ·simp_all
 simp at hu;subst hu;exact a g
def mN(p:gV)(h:rA p):aM Tryz.prog 33 [bh p] (.i<|dT p):=by
 have S:=h.aa;have A0:=h.ints;refine bS Tryz.func33 W<|cx 4 [(1,.box true<|bh p)] (1<=p.n/\p.n<=100/\p.aa.length<=96/\aK (fW p.n) p.aa=0) ?_ ?_
 ·refine bJ W 15 W ?_ ?_<;>intro j
  ·refine bK W W<|ar.of_eq<|congrArg SV.i<|by unfold dT;rw[if_pos<|.inl j]
  refine bQ W W ?_ ?_<;>intro z
  ·refine bK W W<|ar.of_eq<|congrArg SV.i<|by unfold dT;rw[if_pos<|.inr z]
  have b:dT p=dT p:=W
  conv at b=>rhs;unfold dT
  rw[if_neg<|by rintro(g|g)<;>contradiction]at b;refine bQ W W ?_ ?_<;>intro o
  ·refine bK W W<|ar.of_eq<|congrArg SV.i<|by rw[b,if_pos E]
  rw[if_neg E]at b;refine r0 W<|ra (λi:Nat=>[(1,.box true<|bh p),(3,.i i)]) (λi=>i<=p.aa.length/\aK (fW p.n) p.aa=aK (fW p.n) (p.aa.drop i)) (λi=>p.aa.length-i) 0 ⟨aaM _,W⟩ ?_;rintro i⟨hi,f⟩;refine bQ W W ?_ ?_<;>intro e
  ·have a:i<p.aa.length:=E;have x:(i:Int).toNat=i:=E;have y:p.aa.getD i default=p.aa[i]:=au a;rw[dA _ a]at f;refine qp W<|cd W (by rw[x,y];rfl) (Az p p.aa[i]<|h.unit _<|abw a) W ?_;refine Zz W<|gg W ?_ ?_<;>intro m
   ·have m:fW p.n p.aa[i]≠0:=m;rw[if_pos m]at f;refine bK W W<|ar.of_eq<|congrArg SV.i<|by rw[b,if_pos<|by rw[f];exact m,f]
   have m:¬fW p.n p.aa[i]≠0:=m;rw[if_neg m]at f;refine qp W<|gS (i+1) ⟨E,f⟩
  refine bL W ⟨E,E,E,?_⟩ ⟨G,U⟩;rw[f,ab5 E];rfl
 rintro⟨Z,Y,T,A⟩;obtain⟨n,hn⟩:∃n:Nat,p.n=n:=⟨p.n.toNat,E⟩;have F:∀u∈p.aa,iQ p.n u:=λu hu=>p9<|dK.1 A u hu;have b:dT p=dT p:=W
 conv at b=>rhs;unfold dT
 rw[if_neg E,if_neg E,if_neg<|by rw[A];simp]at b;refine cx 2 [(1,.box true<|bh p)] (p.ints.length<=24/\¬∃k∈p.ints,k<0\/p.n<=k) ?_ ?_
 ·refine bQ W W ?_ ?_<;>intro j
  ·refine bK W W<|ar.of_eq<|congrArg SV.i<|by rw[b,if_pos E]
  rw[if_neg E]at b;refine r0 W<|ra (λi:Nat=>[(1,.box true<|bh p),(5,.i i)]) (λi=>i<=p.ints.length/\¬∃k∈p.ints.take i,k<0\/p.n<=k) (λi=>p.ints.length-i) 0 ⟨aaM _,I⟩ ?_;rintro i⟨hi,f⟩;refine bQ W W ?_ ?_<;>intro e
  ·have a:i<p.ints.length:=E;have x:(i:Int).toNat=i:=E;have y:p.ints.getD i 0=p.ints[i]:=au a;have D:(p.ints[i]<0\/p.n<=p.ints[i])->(10:Int)=dT p:=λg=>by rw[b,if_pos ⟨_,abw a,g⟩]
   refine II W ?_;rw[x,y];refine aC 58 W ?_ ?_<;>intro m
   ·refine Zz W<|aE W<|ar.of_eq<|congrArg SV.i<|D<|.inl m
   refine II W ?_;rw[x,y];refine gg W ?_ ?_<;>intro R
   ·refine bK W W<|ar.of_eq<|congrArg SV.i<|D<|.inr R
   refine qp W<|gS (i+1) ⟨E,jI a f<|by rintro(g|g)<;>contradiction⟩
  rw[abB E]at f;refine bL W ⟨E,f⟩ ⟨G,U⟩
 rintro⟨X,L⟩;rw[if_neg E,if_neg L]at b;have M:p.n.toNat=n:=E;rw[M]at b;have B0:dq p.aa<=p.aa.length:=adU;refine cx 2 [(1,.box true<|bh p)] (dq p.aa<=24/\u9 n p.aa) ?_ ?_
 ·refine bP W W (oD p h) W<|bQ W W ?_ ?_<;>intro j
  ·have j:(24:Int)<(dq p.aa:Nat):=j;refine bK W W<|ar.of_eq<|congrArg SV.i<|by rw[b,if_pos E]
  have j:¬(24:Int)<(dq p.aa:Nat):=j;rw[if_neg E]at b;refine r0 W<|ra (λs:Nat=>[(1,.box true<|bh p),(6,.i s)]) (λs=>s<=n/\1<=s/\∀t:Nat,1<=t->t<s->p.aa.countP (λu=>decide (u.out=(t:Int)))=1) (λs=>n-s) 1 ⟨E,E,λt j z=>E⟩ ?_;rintro s⟨hs,J,f⟩;refine bQ W W ?_ ?_<;>intro z
  ·refine r0 W<|ra (λi:Nat=>[(1,.box true<|bh p),(6,.i s),(7,.i<|(p.aa.take i).countP λu=>decide (u.out=(s:Int))),(8,.i i)]) (λi=>i<=p.aa.length) (λi=>p.aa.length-i) 0 (aaM _) ?_;intro i hi;have hc:((p.aa.take i).countP λu=>decide (u.out=(s:Int)))<=i:=abI adU (by simp;omega);refine bQ W W ?_ ?_<;>intro o
   ·have a:i<p.aa.length:=E;have x:(i:Int).toNat=i:=E;have y:p.aa.getD i default=p.aa[i]:=au a;have r:((p.aa.take<|i+1).countP λu=>decide (u.out=(s:Int)))=((p.aa.take i).countP λu=>decide (u.out=(s:Int)))+(if p.aa[i].out=(s:Int)then 1 else 0):=by
     rw[abR a,aeh,afC];by_cases g:p.aa[i].out=(s:Int)<;>simp[g]
    refine qp W ?_;rw[x,y];refine gg W ?_ ?_<;>intro e
    ·have e:p.aa[i].out=(s:Int):=e;rw[if_pos e]at r;refine qp W<|gS (i+1) E ⟨G,G,⟨W,ar.of_eq<|congrArg SV.i<|by rw[r];omega⟩,G,U⟩
    have e:¬p.aa[i].out=(s:Int):=e;rw[if_neg e]at r;refine qp W<|gS (i+1) E ⟨G,G,⟨W,ar.of_eq<|congrArg SV.i<|by rw[r];omega⟩,G,U⟩
   rw[abB E];refine bQ W W ?_ ?_<;>intro e
   ·refine bK W W<|bR ?_;rw[b,if_pos];intro g;have:=g s J E;exact e (by rw[this];rfl)
   have e:p.aa.countP (λu=>decide (u.out=(s:Int)))=1:=E;refine qp W<|gS (s+1) ⟨E,E,λt g1 g2=>?_⟩;rcases abM t s with g|g
   ·exact f t g1 g
   have:t=s:=E;subst this;exact e
  refine bL W ⟨E,λt g1 g2=>f t g1 E⟩ ⟨G,U⟩
 rintro⟨E1,N⟩;rw[if_neg E,if_neg λg=>g N]at b;refine bO W W (rY p h<|iQ.ZD F) W<|Zz W<|gg W ?_ ?_<;>intro j
 ·refine bK W W<|ar.of_eq<|congrArg SV.i<|by rw[b,if_pos E]
 rw[if_neg E]at b;have Q:∀u∈p.aa,aL u.k=0:=λu hu=>(F u hu).k;refine bP W W (vt p h n hn E<|iQ.outs F hn) W ?_;rw[D6 Q];refine r0 W<|ra (λi:Nat=>[(1,.box true<|bh p),(9,.strs true<|(cp n p.aa).map qt),(10,.i i)]) (λi=>i<=p.aa.length/\¬∃u∈p.aa.take i,conflict n p.aa u) (λi=>p.aa.length-i) 0 ⟨aaM _,I⟩ ?_;rintro i⟨hi,f⟩;refine bQ W W ?_ ?_<;>intro z
 ·have a:i<p.aa.length:=E;have x:(i:Int).toNat=i:=E;have y:p.aa.getD i default=p.aa[i]:=au a;have l:=F _<|abw a;refine qp W ?_;rw[x,y];refine aC 120 W ?_ ?_<;>intro o
  ·have o:p.aa[i].kind=dy:=o;obtain⟨t1,t2,t3⟩:=l.table o;have f0:p.aa[i].ah.getD 0 default∈p.aa[i].ah:=bw E;obtain⟨b1,b2,O,b4⟩:=l.feed _ f0;have V:=Bd n p.aa;have H:∀q∈cp n p.aa,Sz q 67:=Be (Mg.mono fh) λu hu=>fi<|Q u hu;have w:(p.aa[i].ah.getD 0 default).sh.toNat<(cp n p.aa).length:=E;have B:((cp n p.aa).map qt).getD (p.aa[i].ah.getD 0 default).sh.toNat []=qt ((cp n p.aa).getD (p.aa[i].ah.getD 0 default).sh.toNat 0):=Ix w;have P:=H _<|bw (d:=0) w;have hm:=gi (bV (p.aa[i].ah.getD 0 default).dZ) ((cp n p.aa).getD (p.aa[i].ah.getD 0 default).sh.toNat 0) (fi O) P E;rw[fZ O]at hm;have hh:=Gs (p.aa[i].dI.map bV) (bV (p.aa[i].ah.getD 0 default).dZ*(cp n p.aa).getD (p.aa[i].ah.getD 0 default).sh.toNat 0) (K:=67) ((fi O).mul P) (λc hc=>by
    obtain⟨s,hs,rfl⟩:=abF.1 hc;exact fi<|l.dI s hs) (by rw[abL];omega) (by rw[abL];omega)
   rw[Wv l.dI]at hh;have v:(p.aa[i].k≠qt (XP n p.aa p.aa[i]))↔conflict n p.aa p.aa[i]:=by
    unfold conflict;rw[and_iff_right o]
    conv=>lhs;rw[<-fZ l.k]
    rw[ne_eq,KK]
   have C:Int.toNat 0=0:=W;refine r1 W (by simp only[ag,and_true,abL,C]<;>omega) ?_;rw[C];refine cd W (by rw[B];rfl) hm W ?_;refine qp W<|bH W hh W<|II W<|gg W ?_ ?_<;>intro e
   ·refine bK W W<|bR ?_;rw[b,if_pos ⟨_,abw a,v.1 e⟩]
   refine qp W<|gS (i+1) ⟨E,jI a f λg=>e<|v.2 g⟩
  refine II W<|gS (i+1) ⟨E,jI a f λg=>o g.1⟩
 rw[abB E]at f;refine bK W W<|ar.of_eq<|congrArg SV.i<|by rw[b,if_neg f]
end Go.Ai
end
