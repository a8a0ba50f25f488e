/- TopRefused holds. -/
import Derived.Test.YtacjimehcbbkbaaGreatDoorTZAE
set_option linter.all false
set_option maxRecDepth 100000
set_option maxHeartbeats 0
noncomputable section
namespace Go.Ai
open Go.Proofs Go.RowKit Go.Proofs.Tryz
def ZG(q:Rat):Bool:=decide ((qt q).length<=20/\(decl q.num.natAbs 1).length<=9/\(eR q.den).length<=10)
def An{n j:Nat}(h:(decl n 1).length<=j):n<10^j:=by have a:=nD<|cP n 1;rw[gK]at a;exact aey a<|aeh gC h
def yY{q:Rat}(h:ZG q=true):q.num.natAbs<1000000000:=An (of_decide_eq_true h).2.1
def we{q:Rat}(h:ZG q=true):q.den<1000000000:=by have a:=(of_decide_eq_true h).2.2;by_cases b:q.den=1;omega;rw[rL b]at a;exact An (ci)
def BO(q:Rat):bR (qt q)=decl q.num.natAbs 1++eR q.den:=Sq _ _
def HH(q:Rat):aF (bR<|qt q)=(decl q.num.natAbs 1).length:=by rw[BO,rb _<|BQ<|cP _ _,yK];omega
def qN(q:Rat)(h:Hq q):ab 97 [.s<|qt q] (.de [.i<|if ZG q then q.num else 0,.i<|if ZG q then(q.den:Int)else 0,.u<|ZG q]):=by
 have t:=O8 q;have v:=AA<|qt q;have c:=E8 q;have g:=HH q;have m:(bR<|qt q).length=(decl q.num.natAbs 1).length+(eR q.den).length:=by rw[BO];simp
 refine cx func97 W<|cU 5 [(5,.s<|bR<|qt q),(6,.u<|decide (q.num<0))] ((qt q).length<=20) ?_ λhc=>?_;refine cv W W ?_ ?_<;>intro a;have b:ZG q=false:=decide_eq_false λd=>E;rw[b];refine cm W W ⟨aB.refl _,aB.refl _,W,U⟩;refine ck W 17 W (λf=>?_) λf=>abK f E;refine r1 W bg<|cg W ?_ ?_<;>intro d;have hn:isNeg (qt q)=true:=d6
 refine r1 W (e9) ?_;refine eV E ⟨⟨W,aj8 SV.s<|by simp[bR,hn]⟩,⟨W,aj8 SV.u<|(decide_eq_true d).trans<|hn.symm.trans c⟩,U⟩;have hn:isNeg (qt q)=false:=d6
 refine cn W E ⟨⟨W,aj8 SV.s<|by simp[bR,hn]⟩,⟨W,aj8 SV.u<|(decide_eq_false d).trans<|hn.symm.trans c⟩,U⟩;refine cU 2 [(6,.u<|decide (q.num<0)),(5,.s<|bR<|qt q),(7,.i<|aF<|bR<|qt q)] (ZG q=true) ?_ λb=>?_;refine cu W W (lG (bR<|qt q) E) W<|ck W 29 W ?_ ?_<;>intro a;have b:ZG q=false:=decide_eq_false λd=>E;rw[b];refine cm W W ⟨aB.refl _,aB.refl _,W,U⟩;refine r1 W (e9) ?_;refine cg W ?_ ?_<;>intro d;have b:ZG q=false:=decide_eq_false λd=>E;rw[b];refine cm W W ⟨aB.refl _,aB.refl _,W,U⟩;refine r0 W<|bo<|decide_eq_true ⟨hc,E,E⟩;have j:=of_decide_eq_true b;have k:=yY b;have r:((aF (bR<|qt q):Nat):Int).toNat=(decl q.num.natAbs 1).length:=E;have p:(((aF (bR<|qt q):Nat):Int)+1).toNat=(decl q.num.natAbs 1).length+1:=E;have o:(bR<|qt q).take (decl q.num.natAbs 1).length=decl q.num.natAbs 1:=by rw[BO];simp
 refine cU 2 [(6,.u<|decide (q.num<0)),(8,.i q.num.natAbs),(9,.i q.den)] True ?_ λ_=>?_;refine r1 W (e9) ?_;refine cl W (by rw[r,o];rfl) (qC (decl q.num.natAbs 1) (cP _ _) E) W ?_;rw[gK];refine cv W W ?_ ?_<;>intro a;have e:q.den≠1:=λe=>by have:=iC.2 e;omega
 have n:(bR<|qt q).drop ((decl q.num.natAbs 1).length+1)=decl q.den 1:=by rw[BO,rL e,ajq];simp
 have l:(decl q.den 1).length<=9:=by grind
 refine r1 W (e9) ?_;refine cl W (by rw[p,aed,n];rfl) (qC (decl q.den 1) (cP _ _) E) W ?_;rw[gK];refine r0 W<|bo U;have e:q.den=1:=iC.1 E;refine cn W U ⟨G,G,⟨W,aj8 SV.i<|by rw[e];rfl⟩,U⟩;rw[b];refine r0 W<|qq W W W ?_ ?_<;>intro a;have a:q.num<0:=of_decide_eq_true a;refine r1 W bg<|aJ W ⟨aj8 SV.i<|by rw[abx W];omega,aB.refl _,W,U⟩;have a:¬q.num<0:=of_decide_eq_false a;refine cm W W ⟨aj8 SV.i<|by rw[abx W];omega,aB.refl _,W,U⟩
def Mh(a b:Int)(g:b≠0)(k: -9223372036854775808<a/\a<2^63)(j: -9223372036854775808<b/\b<2^63):ab 98 [.i a,.i b] (.s<|qt<|Rat.divInt a b):=by
 refine cx func98 W<|cU 2 [(0,.i a),(1,.i b)] (-4000000000000000000<=a/\a<=4000000000000000000/\ -4000000000000000000<=b/\b<=4000000000000000000) ?_ λhc=>?_;have B:=eH (m:=a.natAbs) E;have A:=eH (m:=b.natAbs) E;have R:∀{K:L It}{l:bJ},True:=λ{_ _}=>trivial;refine ck W 9 W ?_ ?_<;>intro g1;refine cu W W (gG a k) W<|cu W W (gG b j) W<|cu W W (gR a b g E E) W<|cq W W;refine ck W 13 W ?_ ?_<;>intro g2;refine cu W W (gG a k) W<|cu W W (gG b j) W<|cu W W (gR a b g E E) W<|cq W W;refine ck W 17 W ?_ ?_<;>intro N;refine cu W W (gG a k) W<|cu W W (gG b j) W<|cu W W (gR a b g E E) W<|cq W W;refine cv W W ?_ ?_<;>intro M;refine cu W W (gG a k) W<|cu W W (gG b j) W<|cu W W (gR a b g E E) W<|cq W W;refine r0 W<|bo E;let⟨V,T,c3,S⟩:=hc;refine Ao 1 (λ(n d:Int)=>[(0,.i n),(1,.i d)]) (λn d=>0<d/\Rat.divInt n d=Rat.divInt a b/\n.natAbs=a.natAbs/\d.natAbs=b.natAbs) ?_ ?_;refine cv W W ?_ ?_<;>intro g1;refine r1 W (e8) ?_;refine meet (-a,-b) ⟨?_,Rat.neg_divInt_neg _ _,?_,?_⟩ ⟨⟨W,aj8 SV.i E⟩,⟨W,aj8 SV.i E⟩,U⟩<;>dsimp only<;>omega;refine r0 W<|iX (a,b) ⟨?_,W,W,W⟩;dsimp only;omega;rintro n d⟨p,x,z,Xf⟩;rw[<-x];have e:=Fp (n:=n) p;have f:=Fq (n:=n) p;have H:0<Nat.gcd n.natAbs d.natAbs:=Nat.gcd_pos_of_pos_right _ E;have D:=Nat.gcd_dvd_left n.natAbs d.natAbs;have F:=Nat.gcd_dvd_right n.natAbs d.natAbs;have y:(Rat.divInt n d).num.natAbs<=n.natAbs:=by rw[e,nk];exact aif _ _
 have J:(Rat.divInt n d).den<=d.natAbs:=by rw[f];exact aif _ _
 have Fg:=(Rat.divInt n d).den_nz;have O:(d.natAbs:Int)=d:=E;have c:wT false n (0-n)=(n.natAbs:Int):=by simp only[wT];omega
 have w:n.tdiv (Nat.gcd n.natAbs d.natAbs:Nat)=(Rat.divInt n d).num:=by
  rw[e];unfold DB;by_cases h:n<0;have P:n= -(n.natAbs:Int):=E;simp only[h,decide_true,if_true]
  conv=>lhs;rw[P]
  simp
  grind
 have v:d.tdiv (Nat.gcd n.natAbs d.natAbs:Nat)=((Rat.divInt n d).den:Int):=by grind
 have u:IntKind.i64.wrap (n.tdiv (Nat.gcd n.natAbs d.natAbs:Nat))=(Rat.divInt n d).num:=by rw[w];exact rI ⟨E,E⟩
 have t:IntKind.i64.wrap (d.tdiv (Nat.gcd n.natAbs d.natAbs:Nat))=((Rat.divInt n d).den:Int):=by rw[v];exact rI ⟨E,E⟩
 refine cU 2 [(0,.i (Rat.divInt n d).num),(1,.i (Rat.divInt n d).den)] True ?_ λ_=>?_;refine r1 W (e8) ?_;refine cl W (by rw[c,<-O];rfl) (Ud n.natAbs d.natAbs) W ?_;refine kw [40,43] W aP (e8) ?_;exact eV U ⟨⟨W,aj8 SV.i u⟩,⟨W,aj8 SV.i t⟩,U⟩;generalize Rat.divInt n d=q at*;have C:(decl q.num.natAbs 1).length<=19:=cY _ _ 19 E E;have o:(decl q.den 1).length<=19:=cY _ _ 19 E E;have c:wT false q.num (0-q.num)=(q.num.natAbs:Int):=by simp only[wT];omega
 refine cU 2 [(0,.i q.num),(1,.i q.den),(6,.s<|if q.num<0 then[45]else[])] True ?_ λ_=>?_;refine cv W W ?_ ?_<;>intro h;refine cn W U ⟨G,G,⟨W,aj8 SV.s<|by rw[abx h]⟩,U⟩;refine cn W U ⟨G,G,⟨W,aj8 SV.s<|by rw[abl h]⟩,U⟩;have hs:(if q.num<0 then[45]else([]:cj)).length<=1:=by split<;>simp
 have r:(if q.num<0 then[45]else([]:cj))++decl q.num.natAbs 1=b7 q.num:=by unfold b7;split<;>simp
 refine r1 W (e8) ?_;refine cl W (by rw[c];rfl) (nH q.num.natAbs 1 E E) W ?_;refine r1 W (e8) ?_;refine cg W ?_ ?_<;>intro h;refine r1 W (zaU) ?_;refine b8 W (nH q.den 1 E E) W<|r1 W (zaU) ?_;refine aJ W<|aj8 SV.s ?_;rw[r];unfold qt wP;rw[rL E,aen];rfl;refine cm W W<|aj8 SV.s ?_;rw[r];unfold qt wP eR
 grind
section
variable{K L:Nat}{p q:Rat}
def Sz(q:Rat)(K:Nat):Prop:=(ah q.num.natAbs).length<=K/\(ah q.den).length<=K
def Sz.wW(h:Sz q K)(a:K<2^40):Hq q:=⟨ahn h.1 a,ahn h.2 a⟩
def Sz.mono(h:Sz q K)(a:K<=L):Sz q L:=⟨ab7 h.1 a,ab7 h.2 a⟩
def Sz.neg(h:Sz q K):Sz (-q) K:=by unfold Sz at *;simp_all
def AY{n d:Int}(a:0<d)(c:(ah n.natAbs).length<=K)(b:(ah d.natAbs).length<=K):Sz (Rat.divInt n d) K:=by unfold Sz;rw[Fp a,Fq a,nk];exact⟨ab7 (nr _ _) c,ab7 (nr _ _) b⟩
def tw(p q:Rat):Rat.divInt (p.num*q.num) ((p.den:Int)*q.den)=p*q:=by rw[Rat.mul_def',<-Rat.divInt_ofNat,ah0]
def qw(p q:Rat):Rat.divInt (p.num*q.den+q.num*p.den) ((p.den:Int)*q.den)=p+q:=by rw[Rat.add_def',<-Rat.divInt_ofNat,ah0]
def den_pos(p:Rat):(0:Int)<p.den:=by have:=p.den_nz;omega
def Sz.mul(h:Sz p K)(a:Sz q L):Sz (p*q) (K+L):=by rw[<-tw];refine AY (ahV (den_pos p)<|den_pos q) ?_ ?_;rw[age];exact ab7 (eW _ _)<|ajB h.1 a.1;exact ab7 (eW _ _)<|ajB h.2 a.2
def length_le{m n:Nat}(h:m<=n):(ah m).length<=(ah n).length:=zar
def Cz(x y:Int)(b:(ah x.natAbs).length<=K)(a:(ah y.natAbs).length<=K):(ah (x+y).natAbs).length<=K+1:=ab7 (length_le<|Int.natAbs_add_le x y) (pY b a)
def jn(x y:Int)(b:(ah x.natAbs).length<=K)(a:(ah y.natAbs).length<=L):(ah (x*y).natAbs).length<=K+L:=by rw[age];exact ab7 (eW _ _)<|ajB b a
def Sz.add(h:Sz p K)(a:Sz q L):Sz (p+q) (K+L+1):=by rw[<-qw];refine AY (ahV (den_pos p)<|den_pos q) ?_ ?_;exact Cz _ _ (jn _ _ h.1 a.2) (Nat.add_comm K L▸jn _ _ a.1 h.2);exact aja<|jn _ _ h.2 a.2
def rW{x y:Int}(b:x.natAbs<1000000000)(a:y.natAbs<1000000000):(x*y).natAbs<=1000000000000000000:=by rw[age];exact agW (ais b)<|ais a
def gZ(p q:Rat)(b:Sz p K)(a:Sz q L)(l:K+L<2^34):ab 27 [.s<|qt p,.s<|qt q] (.s<|qt<|p*q):=by have c:=b.wW E;have fq:=a.wW E;have h:=b.1;have g:=b.2;have f:=a.1;have e:=a.2;refine cx func27 W<|cU 4 [(0,.s<|qt p),(1,.s<|qt q)] True ?_ λ_=>?_;refine cu W W (qN p c) W<|cu W W (qN q fq) W<|r0 W<|iD 28 W ?_ ?_<;>intro g1;refine r0 W<|qq W W W ?_ ?_<;>intro g2;simp[g1,g2,if_true];have m1:=rW (yY g1)<|yY g2;have i:=rW (x:=(p.den:Int)) (y:=(q.den:Int)) (we g1)<|we g2;have d:=ahV (den_pos p)<|den_pos q;refine r1 W (e9) ?_;refine b8 W (Mh (p.num*q.num) ((p.den:Int)*q.den) E E E) W<|r0 W ?_;rw[tw];exact bY W;refine r0 W<|bo U;refine r0 W<|bo U;refine cu W W (eM p c) W<|cu W W (eM q fq) W<|ct W W (nN p.num q.num (eS)<|eS) W ?_;refine ct W W (nN (p.den:Int) (q.den:Int) (by show(ah p.den).length<_;omega)<|by show(ah q.den).length<_;omega) W ?_;refine r0 W ?_;have d:=ahV (den_pos p)<|den_pos q;have k:=jn p.num q.num h f;have j:=jn (p.den:Int) (q.den:Int) g e;refine b9 W (gR (p.num*q.num) ((p.den:Int)*q.den) E E E) W ?_;rw[tw];refine k0 W aP<|bY W
def BR(p q:Rat)(b:Sz p K)(a:Sz q L)(t:K+L+1<2^34):ab 145 [.s<|qt p,.s<|qt q] (.s<|qt<|p+q):=by
 have e:=b.wW E;have fq:=a.wW E;have k:=b.1;have d:=b.2;have j:=a.1;have c:=a.2;refine cx func145 W<|cU 4 [(0,.s<|qt p),(1,.s<|qt q)] True ?_ λ_=>?_;refine cu W W (qN p e) W<|cu W W (qN q fq) W<|r0 W<|iD 28 W ?_ ?_<;>intro g1;refine r0 W<|qq W W W ?_ ?_<;>intro g2;simp[g1,g2,if_true];have m1:=rW (y:=(q.den:Int)) (yY g1)<|we g2;have m:=rW (y:=(p.den:Int)) (yY g2)<|we g1;have l:=rW (x:=(p.den:Int)) (y:=(q.den:Int)) (we g1)<|we g2;have h:=ahV (den_pos p)<|den_pos q;refine r1 W (e9) ?_;refine b8 W (Mh (p.num*q.den+q.num*p.den) ((p.den:Int)*q.den) E E E) W<|r0 W ?_;rw[qw];exact bY W;refine r0 W<|bo U;refine r0 W<|bo U;have i:=jn p.num (q.den:Int) k c;have r:=jn q.num (p.den:Int) j d;have o:=jn (p.den:Int) (q.den:Int) d c;have n:=Cz (p.num*q.den) (q.num*p.den) i E;have h:=ahV (den_pos p)<|den_pos q;have g:K6 (p.den:Int):=by show(ah p.den).length<_;omega
 have f:K6 (q.den:Int):=by show(ah q.den).length<_;omega
 refine cu W W (eM p e) W<|cu W W (eM q fq) W<|ct W W (nN p.num (q.den:Int) (eS) f) W ?_;refine ct W W (nN q.num (p.den:Int) (eS) g) W ?_;refine ct W W (Pc (p.num*q.den) (q.num*p.den) (eS)<|eS) W ?_;refine ct W W (nN (p.den:Int) (q.den:Int) g f) W<|ct W W (gR (p.num*q.den+q.num*p.den) ((p.den:Int)*q.den) E E E) W ?_;rw[qw];refine k0 W aP<|bY W
def HE(p q:Rat)(b:Sz p K)(a:Sz q L)(c:K+L+1<2^34):ab 67 [.s<|qt p,.s<|qt q] (.s<|qt<|p-q):=by refine enter func67 W W W W<|cu W W (rV q<|a.wW E) W<|b8 W (BR p _ b a.neg c) W<|r0 W ?_;rw[<-ajC];exact bY W
def Sz.sub(h:Sz p K)(a:Sz q L):Sz (p-q) (K+L+1):=by rw[ajC];exact h.add a.neg
def wY(p q:Rat):Int:=(p-q).num.sign
def sD(p q:Rat)(b:Sz p K)(a:Sz q L)(c:K+L+1<2^34):ab 146 [.s<|qt p,.s<|qt q] (.i<|wY p q):=by refine enter func146 W W W W<|cu W W (HE p q b a c) W<|b8 W (qG _<|(b.sub a).wW E) W<|cq W W
def Sz.inv(h:Sz q K):Sz q⁻¹ (K+1):=by unfold Sz;rw[Rat.num_inv,Rat.den_inv];constructor;rcases ajD _ 0 with g|g|g;rw[Int.sign_eq_neg_one_of_neg g];simpa using aja h.2;rw[g];simp[dj];rw[ajy g];simpa using aja h.2;split;rw[ir];simp;exact aja h.1
def rR(q:Rat)(h:Sz q K)(b:K<2^34)(a:q≠0):ab 31 [.s<|qt q] (.s<|qt q⁻¹):=by have d:=h.1;have c:=h.2;refine enter func31 W W W W<|cu W W (eM q<|h.wW E) W<|cu W W (gR _ _ (λh=>a<|ait.1 h) (by grind) E) W<|r0 W ?_;rw[Rat.inv_def];exact bY W
def Up(p q:Rat)(b:Sz p K)(a:Sz q L)(d:K+L+1<2^34)(c:q≠0):ab 24 [.s<|qt p,.s<|qt q] (.s<|qt<|p/q):=by refine enter func24 W W W W<|cu W W (rR q a E c) W<|b8 W (gZ p q⁻¹ b a.inv E) W<|cq W W
def Sz.div(h:Sz p K)(a:Sz q L):Sz (p/q) (K+L+1):=by rw[Rat.div_def];exact h.mul a.inv
end
section
variable{s:cj}
def nI(s:cj):Bool:=s.all λc=>decide (48<=c.toNat/\c.toNat<=57)
def lT:nI s=true↔eG s:=by simp[nI,eG]
def Hg(s:cj)(hl:s.length<2^63):ab 261 [.s s] (.u<|nI s):=by
 refine cx func261 W<|r0 W<|aU (λi:Nat=>[(0,.s s),(3,.i i)]) (λi=>i<=s.length/\∀k,k<i->48<=(s.getD k 0).toNat/\(s.getD k 0).toNat<=57) (λi=>s.length-i) 0 ⟨abX _,λk h=>E⟩ ?_;rintro i⟨hi,l⟩;refine cv W W ?_ ?_<;>intro h;have d:i<s.length:=E;have a:(i:Int).toNat=i:=E;have b:¬(48<=(s.getD i 0).toNat/\(s.getD i 0).toNat<=57)->false=nI s:=by intro hn;symm;rw[Bool.eq_false_iff];intro g;have:=lT.1 g s[i]<|ab3 d;simp_all
 refine r1 W (gd) ?_;refine aI 14 W ?_ ?_<;>intro f;rw[a]at f;refine cm W W<|b E;rw[a]at f;refine r1 W (gd) ?_;refine cg W ?_ ?_<;>intro e;rw[a]at e;refine cm W W<|b E;rw[a]at e;refine r1 W (aD) ?_;refine aL (i+1) ⟨E,λk j=>?_⟩
 grind
 refine cm W W ?_;show true=nI s;symm;rw[lT];intro c hc;obtain⟨k,j,rfl⟩:=ahJ hc
 grind
def jL(s:cj):Bool:=if s.length=0 then false else if 1<s.length/\(s.getD 0 0).toNat=48 then false else nI s
def qX(s:cj)(hl:s.length<2^63):ab 187 [.s s] (.u<|jL s):=by
 have c:(0:Int).toNat=0:=W;refine cx func187 W<|cU 2 [(0,.s s)] (jL s=nI s) ?_ λb=>?_;refine ck W 6 W ?_ ?_<;>intro e;refine cm W W ?_;show false=jL s;unfold jL;rw[abx E];have b:jL s=if 1<s.length/\(s.getD 0 0).toNat=48 then false else nI s:=by unfold jL;rw[abl E]
 refine ck W 10 W ?_ ?_<;>intro d;refine r1 W (bi) ?_;refine cg W ?_ ?_<;>intro a;refine cm W W ?_;show false=jL s
 grind
 rw[c]at a;exact r0 W<|bo<|by grind
 refine r0 W<|bo (by grind);refine cu W W (Hg s hl) W<|cm W W ?_;rw[b];exact aB.refl _
def pt(h:jL s=true):eG s/\0<s.length:=by unfold jL at h;split at h;cases h;split at h;cases h;exact⟨lT.1 h,E⟩
def IC(h:eG s):isNeg s=false:=by refine decide_eq_false ?_;rintro⟨b,a⟩;have hm:s.getD 0 0∈s:=gn;have:=h _ hm;omega
def AD(h:eG s):bR s=s:=by unfold bR;rw[IC h];rfl
def zT(h:eG s):E5 s=dy s:=by unfold E5;rw[IC h,AD h];rfl
def zp(s:cj)(hs:eG s)(hl:s.length<2^46):ab 197 [.s s] (lu (dy s:Int)):=by have:=Cq s (by rwa[AD hs]) hl;rwa[zT hs]at this
def JS(b:cj)(e:aF b<b.length)(hu:eG (b.take<|aF b))(c:eG (b.drop<|aF b+1))(hl:b.length<2^46):
 ab 99 [.s b] (.de [lu (dy (b.take<|aF b):Int),lu (dy (b.drop<|aF b+1):Int)]):=by
 refine enter func99 W W W W<|cu W W (lG b E) W<|cv W W (λa=>abK a E) λa=>?_;have d:((aF b:Nat):Int).toNat=aF b:=E;refine r1 W (bi) ?_;refine cd W (by rw[d];rfl) (zp _ hu<|by simp;omega) W ?_;refine r1 W (bi) ?_;refine cd W (by rw[aed];rfl) (zp _ c<|by simp;omega) W ?_;exact k0 W aP<|bY W
def GS{t:cj}(h:eG t):(ah<|dy t).length<=t.length+1:=by have b:=nD h;rcases iv _ with g|g;rw[g];simp;rcases aef (t.length+1) (ah<|dy t).length with a|a;rw[zk]at g;have:=aeh (show 0<10 from gC) (show t.length<=9*((ah<|dy t).length-1)from E);omega;exact a
def lz(s:cj):Bool:=jL ((bR s).take<|aF<|bR s)&& !(isNeg s&&decide ((bR s).take (aF<|bR s)=[48]))
def mO(s:cj):Bool:= !decide (aF (bR s)<(bR s).length)||(jL ((bR s).drop<|aF (bR s)+1)&& !decide ((bR s).drop (aF (bR s)+1)=[48])&& !decide ((bR s).drop (aF (bR s)+1)=[49]))
def qp(s:cj):Bool:= !decide (aF (bR s)<(bR s).length)||decide (Nat.gcd (dy<|(bR s).take<|aF<|bR s) (dy<|(bR s).drop<|aF (bR s)+1)=1)
def aV(s:cj):Int:=if lz s then(if mO s then(if 600<aF (bR s)\/aF (bR s)+601<(bR s).length then 4 else if qp s then 0 else 1)else 1)else 1
def check_sound(s:cj)(hl:s.length<2^63):ab 94 [.s s] (.i<|aV s):=by
 have A:=AA s;have x:=rN<|bR s;have F:(0:Int).toNat=0:=W;refine cx func94 W<|cU 3 [(0,.s s),(3,.s<|bR s)] True ?_ λ_=>?_;refine ck W 12 W ?_ ?_<;>intro h;refine r1 W (am) ?_;refine cg W ?_ ?_<;>intro a;have hn:isNeg s=true:=d6
 refine r1 W (am) ?_;exact eV U ⟨G,⟨W,aj8 SV.s<|by simp[bR,hn]⟩,U⟩;have hn:isNeg s=false:=d6
 refine cn W U ⟨G,⟨W,aj8 SV.s<|by simp[bR,hn]⟩,U⟩;have hn:isNeg s=false:=qr
 refine cn W U ⟨G,⟨W,aj8 SV.s<|by simp[bR,hn]⟩,U⟩;have u:((aF (bR s):Nat):Int).toNat=aF (bR s):=E;have n:(((aF (bR s):Nat):Int)+1).toNat=aF (bR s)+1:=E;refine cU 2 [(0,.s s),(3,.s<|bR s),(4,.i<|aF<|bR s)] (lz s=true) ?_ λf=>?_;refine cu W W (lG (bR s) E) W<|r1 W (am) ?_;refine cl W (by rw[u];rfl) (qX ((bR s).take<|aF<|bR s)<|by simp;omega) W ?_;refine r0 W<|iD 26 W ?_ ?_<;>intro h;have f:lz s=false:=by unfold lz;simp at h;simp[h]
 refine cm W W<|cw ?_;unfold aV;rw[f];rfl;have l:jL ((bR s).take<|aF<|bR s)=true:=aR
 have z:=(pt l).2;have y:0<s.length:=by simp at z;omega
 refine r1 W (am) ?_;refine aI 30 W ?_ ?_<;>intro a;have hn:isNeg s=true:=d6
 refine r1 W (am) ?_;refine cg W ?_ ?_<;>intro b;rw[u]at b;have b:(bR s).take (aF<|bR s)=[48]:=b;have f:lz s=false:=by unfold lz;simp_all
 refine cm W W<|cw ?_;unfold aV;rw[f];rfl;rw[u]at b;have b:¬(bR s).take (aF<|bR s)=[48]:=b;refine r0 W<|bo (by unfold lz;simp_all);have hn:isNeg s=false:=d6
 refine r0 W<|bo (by unfold lz;rw[hn,l];rfl);have e:aV s=(if mO s then(if 600<aF (bR s)\/aF (bR s)+601<(bR s).length then 4 else if qp s then 0 else 1)else 1):=by unfold aV;rw[f];rfl
 have p:∀k,((bR s).drop k).length<=s.length:=λk=>by simp;omega
 have o:∀k,((bR s).take k).length<=s.length:=λk=>by simp;omega
 refine cU 1 [(0,.s s),(3,.s<|bR s),(4,.i<|aF<|bR s)] (mO s=true) ?_ λr=>?_;refine ck W 41 W ?_ ?_<;>intro h;have j:aF (bR s)<(bR s).length:=E;have B:mO s=(jL ((bR s).drop<|aF (bR s)+1)&& !decide ((bR s).drop (aF (bR s)+1)=[48])&& !decide ((bR s).drop (aF (bR s)+1)=[49])):=by unfold mO;simp_all
 have c:mO s=false->(1:Int)=aV s:=by grind
 have m:(List.take (bR s).length<|bR s)=bR s:=aed;refine r1 W (am) ?_;refine cl W (by rw[n,m];rfl) (qX ((bR s).drop<|aF (bR s)+1)<|by grind) W ?_;refine r0 W<|iD 48 W ?_ ?_<;>intro g;refine cm W W<|aj8 SV.i<|c gn;have g:jL ((bR s).drop<|aF (bR s)+1)=true:=eT
 refine r1 W (am) ?_;refine aI 55 W ?_ ?_<;>intro a;rw[n,m]at a;have a:(bR s).drop (aF (bR s)+1)=[48]:=a;refine cm W W<|aj8 SV.i<|c<|by grind
 rw[n,m]at a;have a:¬(bR s).drop (aF (bR s)+1)=[48]:=a;refine r1 W (am) ?_;refine cg W ?_ ?_<;>intro b;rw[n,m]at b;have b:(bR s).drop (aF (bR s)+1)=[49]:=b;refine cm W W<|aj8 SV.i<|c<|by grind
 rw[n,m]at b;have b:¬(bR s).drop (aF (bR s)+1)=[49]:=b;refine r0 W<|bo gn;have j:¬aF (bR s)<(bR s).length:=E;refine r0 W<|bo (by unfold mO;simp_all);rw[r]at e;refine cU 1 [(3,.s<|bR s),(4,.i<|aF<|bR s)] (¬(600<aF (bR s)\/aF (bR s)+601<(bR s).length)) ?_ λC=>?_;have c:(600<aF (bR s)\/aF (bR s)+601<(bR s).length)->(4:Int)=aV s:=gn;refine ck W 65 W ?_ ?_<;>intro h;refine cm W W<|aj8 SV.i<|c E;refine r1 W (e8) ?_;refine cg W ?_ ?_<;>intro a;refine cm W W<|aj8 SV.i<|c E;refine r0 W<|bo E;rw[abx W,abl C]at e;refine cv W W ?_ ?_<;>intro h;have j:aF (bR s)<(bR s).length:=E;have hu:eG ((bR s).take<|aF<|bR s):=by unfold lz at f;exact(pt<|by simp at f;exact f.1).1
 have v:eG ((bR s).drop<|aF (bR s)+1):=by unfold mO at r;rw[decide_eq_true j]at r;exact(pt gn).1
 have D:qp s=decide (Nat.gcd (dy<|(bR s).take<|aF<|bR s) (dy<|(bR s).drop<|aF (bR s)+1)=1):=by unfold qp;simp_all
 have d:∀t:cj,eG t->t.length<=600->(ah<|dy t).length<2^36:=by intro t g a;have:=GS g;omega
 refine cu W W (JS (bR s) j hu v E) W<|cu W W (Aq (dy<|(bR s).take<|aF<|bR s) (dy<|(bR s).drop<|aF (bR s)+1) (d _ hu gn)<|d _ v<|by grind) W ?_;rw[D]at e;have w:=CR (q:=Nat.gcd (dy<|(bR s).take<|aF<|bR s)<|dy<|(bR s).drop<|aF (bR s)+1);refine ck W 90 W ?_ ?_<;>intro g;refine cm W W<|cw ?_
 grind
 refine r1 W bj<|cg W ?_ ?_<;>intro a;refine cm W W<|cw ?_;simp_all;refine cm W W<|cw ?_
 grind
 have j:¬aF (bR s)<(bR s).length:=E;refine cm W W<|cw ?_;rw[e];unfold qp;simp_all
end
def PO{t:cj}{c:UInt8}(h:t≠[]):(t++[c]).getD 0 0=t.getD 0 0:=Kf<|ah8.2 h
def IX:∀(n:Nat)(s:cj),s.length=n->eG s->0<s.length->(1<s.length->(s.getD 0 0).toNat≠48)->decl (dy s) 1=s/\((s.getD 0 0).toNat≠48->0<dy s)
 |0,s,h,_,j,_=>E
 |n+1,s,h,k,j,l=>by
  obtain⟨t,c,rfl⟩:∃t c,s=t++[c]:=by
   have:=List.dropLast_concat_getLast<|ah8.1 j
   grind
  have hc:=k c I;have b:XK (c.toNat-48)=c:=by apply ai8.1;rw[wJ E];omega
  rw[wk];by_cases i:t=[];subst i;have e:dy []=0:=W;rw[bu E,show _/10=0 from E,show _%10=c.toNat-48 from E,b];rw[dm]
  grind
  have g:=ah8.2 i;have a:=l (by simp;omega);rw[PO i]at a;let⟨f,d⟩:=IX n t (aR) (λx m=>k x<|by simp[m]) g λ_=>a;constructor;rw[bu E,show _/10=dy t from E,show _%10=c.toNat-48 from E,b];rw[Am<|d a,f];intro _;omega
def F6{s:cj}(h:jL s=true):decl (dy s) 1=s:=by have a:=pt h;refine(IX _ s W a.1 a.2 λc b=>?_).1;unfold jL at h;grind
def I9(s:cj):s=(if isNeg s then[45]else[])++bR s:=by
 unfold bR;by_cases h:isNeg s=true;have a:=of_decide_eq_true h
 match s,a with
 |c::t,a=>have:c=45:=ai8.1 a.2;grind
 grind
def LB{b:cj}(h:aF b<b.length):b=b.take (aF b)++47::b.drop (aF b+1):=by
 have a:=A1 h;simp_all
 conv=>lhs;rw[<-ah1 _ b,ad5 h,a]
def Dc(q:Rat)(n:Nat):Prop:=(decl q.num.natAbs 1).length<=n/\(decl q.den 1).length<=n
def ac1:dy [48]=0:=gC
def Qn{s:cj}(h:aV s=0):∃q:Rat,s=qt q/\Dc q 600:=by
 unfold aV at h;split at h<;>try(cases h)
 rename_i u;split at h<;>try(cases h)
 rename_i t;split at h<;>try(cases h)
 split at h<;>try(cases h)
 rename_i r;have y:=rN<|bR s;simp only[lz,adS,ahZ]at u;let⟨p,g⟩:=u;have hu:=F6 p;have x:((bR s).take<|aF<|bR s).length<=600:=gn;generalize j:dy _=a at hu;have d:isNeg s=true->a≠0:=by intro hn i;rw[hn,ahL]at g;have:=of_decide_eq_false g;rw[<-hu,i]at this;exact this (by simp[bu,dm];rfl)
 have key:∀b:Nat,b≠0->Nat.gcd a b=1->bR s=decl a 1++eR b->(decl b 1).length<=600->∃q:Rat,s=qt q/\Dc q 600:=by
  intro b z A e l;have f:(DB (isNeg s) (a:Int)).natAbs.Coprime b:=by rwa[nk]
  refine⟨⟨DB (isNeg s) (a:Int),b,z,f⟩,?_,?_,l⟩
  conv=>lhs;rw[I9 s,e]
  unfold qt wP b7;dsimp only;rw[nk];by_cases hn:isNeg s=true;have:=d hn;rw[abx hn,abx<|by rw[hn];simp[DB];omega];rfl;simp[Bool.not_eq_true]at hn;rw[abl<|by rw[hn];simp,abl<|by rw[hn];simp[DB]];rfl;show(decl (DB (isNeg s) (a:Int)).natAbs 1).length<=600;rwa[nk,hu]
 by_cases k:aF (bR s)<(bR s).length;simp only[mO,decide_eq_true k,ajE,aiE,adS,ahZ]at t;let⟨⟨o,n⟩,m⟩:=t;have c:=F6 o;have v:((bR s).drop<|aF (bR s)+1).length<=600:=by grind
 simp[qp,decide_eq_true k,ajE,aiE,decide_eq_true_eq,j]at r;generalize w:dy ((bR s).drop<|aF (bR s)+1)=b at c r;have C:b≠0:=by intro i;rw[i]at c;exact of_decide_eq_false n (by rw[<-c];simp[bu,dm];rfl)
 have B:b≠1:=by intro i;rw[i]at c;exact of_decide_eq_false m (by rw[<-c];simp[bu,dm];rfl)
 refine key b C r ?_ (by rwa[c])
 conv=>lhs;rw[LB k]
 rw[hu,rL B,c];refine key 1 gC I ?_ (by simp[bu,dm]);rw[hu];have:aF (bR s)=(bR s).length:=E;rw[this,aed];simp[eR]
def nu{n k:Nat}(h:(decl n 1).length<=9*k):(ah n).length<=k:=by have b:=An h;rcases iv n with g|g;rw[g];simp;rcases aef k (ah n).length with a|a;rw[zk]at g;have:=aeh (show 0<10 from gC) (show 9*k<=9*((ah n).length-1)from E);omega;exact a
def Dc.sz{q:Rat}(h:Dc q 600):Sz q 67:=⟨nu (by have:=h.1;omega),nu (by have:=h.2;omega)⟩
section
variable{i:Nat}{s:cj}{α:Type}{l:L α}
def bE{α:Type}(f:α->Int):L α->Int
 |[]=>0
 |x::l=>if f x≠0 then f x else bE f l
def im[Inhabited α](f:α->Int)(h:i<l.length):bE f (l.drop i)=if f (l[i])≠0 then f (l[i])else bE f (l.drop<|i+1):=by rw[ad5 h];rfl
def az{d:α}(h:i<l.length):l.getD i d=l[i]:=gn
def cE(s:cj):Prop:=s.length<2^63
def Gk(xs:L cj)(e:∀s∈xs,cE s)(hl:xs.length<2^63):ab 23 [.strs false xs] (.i<|bE aV xs):=by
 refine enter func23 W W W W<|r0 W<|aU (λi:Nat=>[(0,.strs _ xs),(3,.i i)]) (λi=>i<=xs.length/\bE _ xs=bE aV (xs.drop i)) (λi=>xs.length-i) 0 ⟨abX _,W⟩ ?_;rintro i⟨hi,b⟩;refine cv W W ?_ ?_<;>intro h;have a:i<xs.length:=E;have d:(i:Int).toNat=i:=E;have f:xs.getD i []=xs[i]:=az a;rw[im _ a]at b;refine r1 W (eD) ?_;refine cl W (by rw[d,f];rfl) (check_sound xs[i]<|e _<|ab3 a) W ?_;refine cv W W ?_ ?_<;>intro c;exact cm W W<|aj8 SV.i<|by rw[b,abx c]
 refine r1 W (bi) ?_;exact aL (i+1) ⟨E,by rw[b,abl c]⟩;refine cm W W<|cw ?_;rw[b,show i=xs.length from E,ahw];rfl
def a8{α:Type}{f:α->Int}:∀{l:L α},bE f l=0↔∀x∈l,f x=0
 |[]=>by simp[bE]
 |x::l=>by simp only[bE];by_cases h:f x=0;rw[abl<|aR,a8];simp[h];grind
structure fG where
 lo:cj
 hi:cj
 deriving Inhabited
def fc(s:fG):SV:=.agg [.s s.lo,.s s.hi]
abbrev aj2:=SV.bm false 2 default fc
def bp(s:cj):Rat:=if h:aV s=0 then(Qn h).choose else 0
def dU(h:aV s=0):qt (bp s)=s:=by unfold bp;grind
def BH(h:aV s=0):Dc (bp s) 600:=by unfold bp;grind
def eU(h:aV s=0):Sz (bp s) 67:=(BH h).sz
def fP(s:fG):Int:=if aV s.lo≠0 then aV s.lo else if aV s.hi≠0 then aV s.hi else if 0<wY (bp s.lo) (bp s.hi)then 11 else 0
def Du(s:fG)(f:cE s.lo)(e:cE s.hi):ab 61 [fc s] (.i<|fP s):=by
 refine cx func61 W<|cu W W (check_sound s.lo f) W<|cv W W ?_ ?_<;>intro c;refine cu W W (check_sound s.hi e) W<|ck W 14 W ?_ ?_<;>intro a;refine r0 W ?_;have hc:=sD (bp s.lo) (bp s.hi) (eU c) (eU a) gC;rw[dU c,dU a]at hc;refine b8 W hc W<|r0 W ?_;have hs:fP s=if 0<wY (bp s.lo) (bp s.hi)then 11 else 0:=by unfold fP;omega
 refine cg W ?_ ?_<;>intro d;refine cm W W<|aj8 SV.i<|by rw[hs,abx d]
 refine cm W W<|aj8 SV.i<|by rw[hs,abl d,a]
 refine cm W W<|aj8 SV.i<|by unfold fP;omega
 have b:=c;refine ck W 14 W (λa=>abK a b) λa=>?_;refine cm W W<|aj8 SV.i<|by unfold fP;rw[abx b]
def Gl(xs:L fG)(e:∀s∈xs,cE s.lo/\cE s.hi)(hl:xs.length<2^63):ab 13 [aj2 xs] (.i<|bE fP xs):=by
 refine enter func13 W W W W<|r0 W<|aU (λi:Nat=>[(0,.bm _ 2 _ _ xs),(3,.i i)]) (λi=>i<=xs.length/\bE _ xs=bE fP (xs.drop i)) (λi=>xs.length-i) 0 ⟨abX _,W⟩ ?_;rintro i⟨hi,b⟩;refine cv W W ?_ ?_<;>intro h;have a:i<xs.length:=E;have d:(i:Int).toNat=i:=E;have f:xs.getD i default=xs[i]:=az a;rw[im _ a]at b;have hh:=e _<|ab3 a;refine r1 W (eD) ?_;refine cl W (by rw[d,f];rfl) (Du xs[i] hh.1 hh.2) W ?_;refine cv W W ?_ ?_<;>intro c;exact cm W W<|aj8 SV.i<|by rw[b,abx c]
 refine r1 W (bi) ?_;exact aL (i+1) ⟨E,by rw[b,abl c]⟩;refine cm W W<|cw ?_;rw[b,show i=xs.length from E,ahw];rfl
end
def Sz.num{q:Rat}{K:Nat}(h:Sz q K):Sz (q.num:Rat) (K+1):=by constructor;simpa using aja h.1;simp[ir]
def HU(z:Int):qt (o8 (z:Rat))=decl z.natAbs 1:=by unfold o8;rw[Rat.num_intCast];split;have:=(Rat.intCast_neg z).symm;rw[this,pN];unfold b7;grind;rw[pN];unfold b7;grind
def Eo(d:Nat):qt (d:Rat)=decl d 1:=(pN _).trans<|MP d
instance(q:Rat)(n:Nat):Decidable (Dc q n):=by unfold Dc;infer_instance
def je(s:cj)(n:Nat):Bool:=decide (s.length<=2*n+2/\aV s=0/\Dc (bp s) n)
def sj(s:cj)(n:Nat)(d:cE s)(hn:n<2^40):ab 103 [.s s,.i n] (.u<|je s n):=by refine cx func103 W<|r1 W (aD) ?_;refine aI 11 W ?_ ?_<;>intro g1;refine cu W W (check_sound s d) W<|ck W 16 W ?_ ?_<;>intro g2;have a:=eU g2;have e:=dU g2;have n1:=Ia (bp s)<|a.wW gC;have c:=IW (bp s)<|a.wW gC;rw[e]at n1 c;refine cu W W n1 W<|b8 W (sN ((bp s).num:Rat)<|a.num.wW gC) W ?_;rw[HU];refine ck W 24 W ?_ ?_<;>intro b;refine cu W W c W ?_;rw[Eo];refine cm W W<|aj8 SV.u<|decide_eq_decide.2 ?_;constructor;intro f;exact⟨E,g2,E,E⟩;rintro⟨_,_,_,f⟩;omega;refine cm W W ?_;show false=je s n;symm;exact decide_eq_false λhh=>b (by have:=hh.2.2.1;omega);refine cm W W ?_;show false=je s n;symm;exact decide_eq_false λhh=>g2 hh.2.1;refine cm W W ?_;show false=je s n;symm;exact decide_eq_false λhh=>g1 (by have:=hh.1;omega)
def G6(xs:L cj)(m n:Nat)(e:∀s∈xs,cE s)(hl:xs.length<2^63)(hm:m<2^60)(hn:n<2^40):
 ab 29 [.strs false xs,.i m,.i n] (.u<|decide (xs.length<=m)&&xs.all λs=>je s n):=by
 refine cx func29 W<|cv W W ?_ ?_<;>intro h;refine cm W W ?_;show false=_
 grind
 rw[decide_eq_true E,ahL];refine r0 W<|aU (λi:Nat=>[(0,.strs false xs),(2,.i n),(7,.i i)]) (λi=>i<=xs.length/\(xs.all λs=>je s n)=((xs.drop i).all λs=>je s n)) (λi=>xs.length-i) 0 ⟨abX _,W⟩ ?_;rintro i⟨hi,c⟩;refine cv W W ?_ ?_<;>intro h;have a:i<xs.length:=E;have d:(i:Int).toNat=i:=E;have f:xs.getD i []=xs[i]:=az a;rw[ad5 a,af5]at c;refine r1 W (rc) ?_;refine cl W (by rw[d,f];rfl) (sj xs[i] n (e _<|ab3 a) hn) W ?_;refine r0 W<|qq W W W ?_ ?_<;>intro b;refine cm W W ?_;simp at b;rw[c,b];rfl;simp at b;refine r1 W (aD) ?_;exact aL (i+1) ⟨E,by rw[c,b];rfl⟩;refine cm W W ?_;show true=_
 grind
def ja(q:Rat):Int:=if 600<(decl q.num.natAbs 1).length\/600<(decl q.den 1).length then 4 else 0
def MK(q:Rat){K:Nat}(h:Sz q K)(a:K<2^36):ab 154 [.s<|qt q] (.i<|ja q):=by
 refine enter func154 W W W W<|cu W W (Ia q<|h.wW E) W<|b8 W (sN _<|h.num.wW E) W ?_;rw[HU];refine ck W 8 W ?_ ?_<;>intro g;refine cm W W<|aj8 SV.i<|by unfold ja;omega
 refine cu W W (IW q<|h.wW E) W ?_;rw[Eo];refine cv W W ?_ ?_<;>intro g2;refine cm W W<|aj8 SV.i<|by unfold ja;omega
 refine cm W W<|aj8 SV.i<|by unfold ja;rw[abl E]
def qR{q:Rat}:ja q=0↔Dc q 600:=by unfold ja Dc;omega
def pV(p q:Rat):Rat:=if 0<=wY p q then p else q
def Px(p q:Rat){K L:Nat}(b:Sz p K)(a:Sz q L)(c:K+L+1<2^34):ab 156 [.s<|qt p,.s<|qt q] (.s<|qt<|pV p q):=by
 refine enter func156 W W W W<|cu W W (sD p q b a c) W<|cv W W ?_ ?_<;>intro g;refine cm W W<|aj8 (λq=>SV.s _)<|by unfold pV;grind
 refine cm W W<|aj8 (λq=>SV.s _)<|by unfold pV;rw[abl g]
def GU{α:Type}{xs ys:L α}{d:α}(hl:xs.length=ys.length)(h:∀k,k<xs.length->xs.getD k d=ys.getD k d):xs=ys:=by apply ahT hl;grind
def Ee(xs ys:L Int)(hl:xs.length<2^63):ab 47 [gm xs,gm ys] (.u<|decide (xs=ys)):=by
 refine enter func47 W W W W<|cv W W ?_ ?_<;>intro h;refine cm W W ?_;show false=_
 grind
 have a:xs.length=ys.length:=E;refine r0 W<|aU (λi:Nat=>[(0,.ints _ _ xs),(1,gm ys),(5,.i i)]) (λi=>i<=xs.length/\∀k,k<i->xs.getD k 0=ys.getD k 0) (λi=>xs.length-i) 0 ⟨abX _,λk h=>E⟩ ?_;rintro i⟨hi,e⟩;refine cv W W ?_ ?_<;>intro h;have c:(i:Int).toNat=i:=E;refine k1 W aP (rl) ?_;refine cg W ?_ ?_<;>intro b;rw[c]at b;refine cm W W ?_;show false=_
 grind
 rw[c]at b;refine r1 W (aD) ?_;refine aL (i+1) ⟨E,λk d=>?_⟩
 grind
 refine cm W W ?_;show true=_;symm;exact decide_eq_true<|GU a λk d=>e k E
def K8(n:Nat)(hn:n<2^40):ab 144 [.i n] (.strs true<|List.replicate n<|qt 0):=by
 rw[DG];refine enter func144 W W W W<|r0 W<|aU (λi:Nat=>[(0,.i n),(3,.strs true<|List.replicate i [48]),(4,.i i)]) (λi=>i<=n) (λi=>n-i) 0 (abX _) ?_;intro i hi;refine cv W W ?_ ?_<;>intro h;refine r1 W bc<|again (i+1) E E ⟨G,⟨W,aj8 (SV.strs _)<|by rw[List.replicate_succ']⟩,G,U⟩;refine cm W W<|aj8 (SV.strs _) ?_
 grind
def UO(xs:L Int):Prop:=xs.length<2^20/\∀x∈xs,0<=x/\x<2^31
def Vq(xs:L Int)(y:Int):(xs++[y]).sum=xs.sum+y:=I
def Vp{xs:L Int}{i:Nat}(h:i<xs.length):(xs.take<|i+1).sum=(xs.take i).sum+xs.getD i 0:=by rw[adY h,Vq,az h]
def HD:∀{xs:L Int},(∀x∈xs,0<=x/\x<2^31)->0<=xs.sum/\xs.sum<=xs.length*2^31
 |[],_=>I
 |x::xs,h=>by have c:=HD (xs:=xs) λy a=>h y (by simp[a]);have b:=h x I;grind
def mN(xs:L Int)(h:UO xs):ab 153 [gm xs] (.i xs.sum):=by
 have hl:=h.1;refine enter func153 W W W W<|r0 W<|aU (λi:Nat=>[(0,.ints _ _ xs),(3,.i (xs.take i).sum),(4,.i i)]) (λi=>i<=xs.length) (λi=>xs.length-i) 0 (abX _) ?_;intro i hi;refine cv W W ?_ ?_<;>intro e;have a:i<xs.length:=E;have c:(i:Int).toNat=i:=E;have d:=HD (xs:=xs.take i) λx b=>h.2 x<|ahv b;have b:=h.2 xs[i]<|ab3 a;have f:xs.getD i 0=xs[i]:=az a;simp at d;refine r1 W (by simp only[aj,abu,c];omega) ?_;exact again (i+1) E E ⟨G,⟨W,aj8 SV.i<|by rw[c,Vp a]⟩,G,U⟩;refine cm W W<|cw ?_
 grind
def kB:L Int->L Int->Bool
 |x::a,y::b=>if x≠y then decide (y<x)else kB a b
 |_,_=>false
def beforeL(a b:L Int):Bool:=if a.sum≠b.sum then decide (b.sum<a.sum)else kB a b
def PE{a b:L Int}{i:Nat}(d:i<a.length)(c:i<b.length):kB (a.drop i) (b.drop i)=if a[i]≠b[i]then decide (b[i]<a[i])else kB (a.drop<|i+1) (b.drop<|i+1):=by rw[ad5 d,ad5 c];rfl
def KN(a b:L Int)(j:UO a)(m:UO b)(hl:a.length=b.length):ab 240 [gm a,gm b] (.u<|beforeL a b):=by
 have n:=j.1;refine cx func240 W<|cu W W (mN a j) W<|cu W W (mN b m) W<|cv W W ?_ ?_<;>intro h;have h:a.sum≠b.sum:=h;refine cu W W (mN a j) W<|cu W W (mN b m) W<|cm W W<|aj8 SV.u ?_;unfold beforeL;rw[abx h];have h:¬a.sum≠b.sum:=h;have o:beforeL a b=kB a b:=by unfold beforeL;rw[abl h]
 refine r0 W<|aU (λi:Nat=>[(0,gm a),(1,gm b),(5,.i i)]) (λi=>i<=a.length/\beforeL a b=kB (a.drop i) (b.drop i)) (λi=>a.length-i) 0 ⟨abX _,o⟩ ?_;rintro i⟨hi,d⟩;refine cv W W ?_ ?_<;>intro p;have f:i<a.length:=E;have e:i<b.length:=E;have g:(i:Int).toNat=i:=E;have l:a.getD i 0=a[i]:=az f;have k:b.getD i 0=b[i]:=az e;rw[PE f e]at d;refine k1 W aP (by simp[aj,abu,g];omega) ?_;refine cg W ?_ ?_<;>intro c;rw[g,l,k]at c;have c:a[i]≠b[i]:=c;rw[abx c]at d;refine k1 W aP (by simp[aj,abu,g];omega) ?_;refine aJ W<|aj8 SV.u ?_;rw[g,l,k,d];rw[g,l,k]at c;have c:¬a[i]≠b[i]:=c;rw[abl c]at d;exact r1 W (aD)<|aL (i+1) ⟨E,d⟩;refine cm W W ?_;show false=_;rw[d,show i=a.length from E,ahw];simp[kB]
structure aZ where
 c:Rat
 pw:List Int
instance:Inhabited aZ:=⟨⟨0,[]⟩⟩
def Kv(t:aZ):SV:=.agg [.s<|qt t.c,gm t.pw]
def c7(own:Bool)(p:L aZ):SV:=.bm own 2 default Kv p
def Dy(V K:Nat)(t:aZ):Prop:=t.pw.length=V/\UO t.pw/\Sz t.c K
def yS(t:aZ):L aZ->Rat×L aZ
 |u::r=>if u.pw=t.pw then(u.c+t.c,r)else(t.c,u::r)
 |[]=>(t.c,[])
def jK(p:L aZ)(t:aZ):L aZ:=(p.takeWhile λu:aZ=>beforeL u.pw t.pw)++(if(yS t (p.dropWhile λu:aZ=>beforeL u.pw t.pw)).1=0 then[]else[⟨(yS t (p.dropWhile λu:aZ=>beforeL u.pw t.pw)).1,t.pw⟩])++(yS t (p.dropWhile λu:aZ=>beforeL u.pw t.pw)).2
def D6{α:Type}{f:α->Bool}{p:L α}{i:Nat}(hi:i<=p.length)(a:∀k(h:k<p.length),k<i->f p[k]=true)(c:∀h:i<p.length,f p[i]=false):p.takeWhile f=p.take i/\p.dropWhile f=p.drop i:=by
 induction p generalizing i with
 |nil=>simp
 |cons x p b=>
  cases i with
  |zero=>simp_all
  |succ i=>
   have e:=a 0 I I;have:=b (ce) (λk h d=>a (k+1) (aR) E) λh=>c<|aR
   simp_all
def aN{α:Type}{l:L α}{i:Nat}{d:α}(h:i<l.length):l.getD i d∈l:=gn
def Co(p:L aZ)(t:aZ){V K:Nat}(y:∀u∈p,Dy V K u)(l:Dy V K t)(hl:p.length<2^40)(M:K+K+1<2^34):
 ab 151 [c7 false p,Kv t] (c7 false<|jK p t):=by
 have C:=l.2.1.1;refine cx func151 W<|cU 4 [(0,c7 false p),(3,.box true<|Kv t),(5,c7 true<|p.takeWhile λu=>beforeL u.pw t.pw),(6,.i (p.takeWhile λu=>beforeL u.pw t.pw).length)] True ?_ λ_=>?_;refine r0 W<|aU (λi:Nat=>[(0,c7 false p),(3,.box true<|Kv t),(5,c7 true<|p.take i),(6,.i i)]) (λi=>i<=p.length/\∀k(h:k<p.length),k<i->beforeL p[k].pw t.pw=true) (λi=>p.length-i) 0 ⟨abX _,λk h H=>E⟩ ?_;rintro i⟨hi,J⟩;have out:(∀h:i<p.length,beforeL p[i].pw t.pw=false)->(p.takeWhile λu=>beforeL u.pw t.pw)=p.take i/\(p.takeWhile λu=>beforeL u.pw t.pw).length=i:=by intro h;have:=(D6 (f:=λu:aZ=>beforeL u.pw t.pw) hi J h).1;simp_all
 refine ck W 12 W ?_ ?_<;>intro h;have g:i<p.length:=E;have d:(i:Int).toNat=i:=E;have v:p.getD i default=p[i]:=az g;have s:=y _<|ab3 g;refine r1 W (pb) ?_;refine cd W (by rw[d,v];rfl) (KN p[i].pw t.pw s.2.1 l.2.1<|s.1.trans l.1.symm) W ?_;refine k0 W aP<|qq W W W ?_ ?_<;>intro m;refine r1 W (by simp only[aj,abu,d,len,afS,adZ,acC,ad1]<;>omega) ?_;refine again (i+1) E ⟨E,λk h H=>?_⟩ ⟨G,G,⟨W,W,W,?_⟩,G,U⟩
 grind
 rw[d,v,dA,adY g,adW];exact lB.append (lB.refl _) ⟨.inl W,W⟩;refine r0 W ?_;have o:=out λ_=>m;exact eV U ⟨G,G,⟨W,aj8 (c7 true) o.1.symm⟩,⟨W,aj8 SV.i<|by rw[o.2]⟩,U⟩;have o:=out λN=>abK N E;refine k0 W aP<|eV U ⟨G,G,⟨W,aj8 (c7 true) o.1.symm⟩,⟨W,aj8 SV.i<|by rw[o.2]⟩,U⟩;have b:(p.takeWhile λu=>beforeL u.pw t.pw)++(p.dropWhile λu=>beforeL u.pw t.pw)=p:=List.takeWhile_append_dropWhile;unfold jK;generalize (p.takeWhile λu=>beforeL u.pw t.pw)=a at*;generalize (p.dropWhile λu=>beforeL u.pw t.pw)=r at*;subst b;simp only[ad9]at hl;have w:(a++r).drop a.length=r:=List.drop_left;refine Ao 2 (λ(c:Rat)(j:Nat)=>[(0,c7 false<|a++r),(3,.box true<|Kv t),(5,c7 true a),(6,.i j),(7,.s<|qt c)])
  (λc j=>yS t r=(c,(a++r).drop j)/\j<=a.length+r.length/\Sz c (K+K+1)) ?_ ?_
 have q:Sz t.c (K+K+1):=l.2.2.mono E;refine ck W 37 W ?_ ?_<;>intro h;have h:a.length<(a++r).length:=E;have d:((a.length:Nat):Int).toNat=a.length:=E;obtain⟨u,n,rfl⟩:∃u n,r=u::n:=by
  cases r with
  |nil=>simp at h
  |cons u n=>exact⟨u,n,W⟩
 have v:(a++u::n).getD a.length default=u:=I;have hu:=y u I;have B:=hu.2.1.1;refine r1 W (pb) ?_;refine cd W (by rw[d,v];rfl) (Ee u.pw t.pw E) W ?_;refine k0 W aP<|cg W ?_ ?_<;>intro m;refine r1 W (pb) ?_;refine cd W (by rw[d,v];rfl) (BR u.c t.c hu.2.2 l.2.2 M) W ?_;refine k1 W aP (by simp only[aj,abu,len];omega) ?_;refine iX (u.c+t.c,a.length+1) ⟨?_,?_,hu.2.2.add l.2.2⟩;simp[yS,m,ajq];simp;refine r0 W<|iX (t.c,a.length) ⟨?_,?_,q⟩;simp[yS,m];dsimp only;omega;have h:¬a.length<(a++r).length:=E;have D:r=[]:=by simp_all
 subst D;refine k0 W aP<|iX (t.c,a.length) ⟨?_,?_,q⟩;simp[yS];dsimp only;omega;rintro c j⟨hm,O,hc⟩;rw[hm];refine cU 1 [(0,c7 false<|a++r),(5,c7 true<|a++if c=0 then[]else[⟨c,t.pw⟩]),(6,.i j)] True ?_ λ_=>?_;refine cu W W (oS c) W<|r0 W<|qq W W W ?_ ?_<;>intro h;have h:¬c=0:=aR
 refine r1 W (by simp only[aj,abu,len,adZ,acC,ad1]<;>omega) ?_;refine eV U ⟨G,⟨W,W,W,?_⟩,G,U⟩;rw[abl h,dA,adW];exact lB.append (lB.refl _) ⟨.inr W,W⟩;have h:c=0:=aR
 refine cn W U ⟨G,⟨W,aj8 (c7 true) gn⟩,G,U⟩;have z:(a++if c=0 then[]else[(⟨c,t.pw⟩:aZ)]).length<=a.length+1:=by split<;>simp
 have A:(j:Int).toNat=j:=E;have F:(a++r).length=a.length+r.length:=ad9;have P:((a++r).drop j).length<=a.length+r.length:=I;have e:((a++r).drop j).take ((a++r).length-j)=(a++r).drop j:=ad2 I;refine r1 W (by simp only[aj,abu,A,e,len,adZ];refine⟨λx=>rfl,λx=>rfl,?_⟩;omega) ?_;refine OZ W ⟨W,W,?_⟩;rw[xw,pG λ_=>rfl,pG λ_=>rfl,dA,A,e,<-adW]
def fA(l:L aZ):L aZ:=l.foldl jK []
def Pp{l:L aZ}{i:Nat}(h:i<l.length):fA (l.take<|i+1)=jK (fA<|l.take i) l[i]:=by unfold fA;rw[adY h,ahm];rfl
def vQ(a b:L aZ):L aZ:=fA<|a++b
section
variable{d:Int}{a b:L Int}{l:L aZ}{D K M V k m n v w:Nat}{c p q:Rat}
def Wn(D M n w:Nat)(q:Rat):Prop:=∃a:Int,a.natAbs<=n*M^w/\q*((D^w:Nat):Rat)=(a:Rat)
structure sU(D M k:Nat):Prop where
 pos:0<D
 le:D*10^18<=M
 dig:(ah M).length<=k
def sU.af1(h:sU D M k):D<=M:=ab7 (ajF _ gC) h.le
def Wn.zero(D M n w:Nat):Wn D M n w 0:=⟨0,I,I⟩
def Wn.le(h:Wn D M n w q)(hn:n<=m):Wn D M m w q:=by let⟨a,f,e⟩:=h;exact⟨a,ab7 f<|ad6 _ hn,e⟩
def Wn.add(h:Wn D M n w p)(g:Wn D M m w q):Wn D M (n+m) w (p+q):=by
 let⟨a,f,e⟩:=h;let⟨b,g1,g2⟩:=g;refine⟨a+b,?_,?_⟩;grind
 grind
def Wn.neg(h:Wn D M n w p):Wn D M n w (-p):=by
 let⟨a,f,e⟩:=h;refine⟨-a,E,?_⟩
 grind
def Wn.mul(h:Wn D M n w p)(g:Wn D M m v q):Wn D M (n*m) (w+v) (p*q):=by
 let⟨a,e,f⟩:=h;let⟨b,g1,g2⟩:=g;refine⟨a*b,?_,?_⟩;rw[age];have:=agW e g1
 grind
 grind
def Wn.up(g:sU D M k)(h:Wn D M n w q)(f:w<=v):Wn D M n v q:=by
 let⟨a,i,j⟩:=h;obtain⟨e,rfl⟩:=Nat.exists_eq_add_of_le f;refine⟨a*(D^e:Nat),?_,?_⟩;rw[age,aga]
 calc _*D^e<=(n*M^w)*M^e:=agW i (ah2 g.af1 e)
  _=n*(M^w*M^e):=by grind
 rw[aho,ahg];grind
def Wn.one(e:sU D M k)(h:Wn D M n w q)(hn:n<=10^18):Wn D M 1 (w+1) q:=by
 let⟨a,f,g⟩:=h;refine⟨a*(D:Nat),?_,?_⟩;rw[age]
 calc _*D<=(n*M^w)*D:=ad6 _ f
  _=M^w*(D*n):=by grind
  _<=M^w*(D*10^18):=ae6 _<|ae6 _ hn
  _<=M^w*M:=ae6 _ e.le
  _=1*(M^w*M):=by grind
 rw[aho,ahg];grind
def Ny{M k:Nat}(h:(ah M).length<=k):∀w,(ah<|M^w).length<=k*w+1
 |0=>by rw[Nat.pow_zero,ir];simp
 |w+1=>by
  have f:=Ny h w;have e:=eW (M^w) M
  grind
def Wn.sz(f:sU D M k)(h:Wn D M n w q):Sz q ((ah n).length+k*w+1):=by
 let⟨a,j,r⟩:=h;have i:0<D^w:=ae9 f.pos;have e:q=Rat.divInt a ((D^w:Nat):Int):=by
  rw[ajG,ahg];have:((D^w:Nat):Rat)≠0:=by
   intro g;have:(D^w:Nat)=0:=by exact_mod_cast g
   omega
  grind
 rw[e];have o:=Ny f.dig w;refine AY E ?_ ?_;have:=length_le j;have:=eW n<|M^w;omega;have:=length_le<|ah2 f.af1 w;grind
def Iy:∀a:L Int,kB a a=false
 |[]=>rfl
 |x::a=>by simp[kB];exact Iy a
def iy(a:L Int):beforeL a a=false:=by unfold beforeL;simp[Iy]
def Cx:∀{a b c:L Int},kB a b=true->kB b c=true->kB a c=true
 |[],_,_,h,_=>by simp[kB]at h
 |_::_,[],_,h,_=>by simp[kB]at h
 |_::_,_::_,[],_,g=>by simp[kB]at g
 |x::a,y::b,z::c,h,g=>by
  simp[kB]at h g⊢;by_cases f:x=y;subst f;by_cases e:x=z;subst e;simp at h g⊢;exact Cx h g;grind
  grind
def iL{c:L Int}(h:beforeL a b=true)(g:beforeL b c=true):beforeL a c=true:=by
 unfold beforeL at*;by_cases f:a.sum=b.sum;by_cases e:b.sum=c.sum;rw[abl<|e7]at h;rw[abl<|b6]at g;rw[abl<|by grind];exact Cx h g;grind
 grind
def Ix:∀{a b:L Int},a.length=b.length->kB a b=false->kB b a=false->a=b
 |[],[],_,_,_=>rfl
 |[],_::_,h,_,_=>by cases h
 |_::_,[],h,_,_=>by cases h
 |x::a,y::b,h,g1,g2=>by
  simp[kB]at g1 g2;by_cases e:x=y;subst e;simp at g1 g2;rw[Ix (aR) g1 g2]
  grind
def oh(hl:a.length=b.length)(h:beforeL a b=false)(hn:a≠b):beforeL b a=true:=by
 unfold beforeL at*;by_cases e:a.sum=b.sum;rw[abl<|b6]at h;rw[abl<|by grind];rcases Bool.eq_false_or_eq_true _ with g|g;exact g;exact abK (Ix hl h g) hn
 grind
def nX(t:aZ):L aZ->L aZ
 |[]=>if t.c=0 then[]else[t]
 |u::r=>if beforeL u.pw t.pw=true then u::nX t r else if u.pw=t.pw then(if u.c+t.c=0 then r else⟨u.c+t.c,t.pw⟩::r)else if t.c=0 then u::r else t::u::r
def jA:∀(p:L aZ)(t:aZ),jK p t=nX t p
 |[],t=>by simp[jK,yS,nX];split<;>simp_all
 |u::r,t=>by
  have e:=jA r t;unfold jK nX;unfold jK at e;by_cases h:beforeL u.pw t.pw=true;simp_all;simp[h,yS];by_cases f:u.pw=t.pw
  all_goals simp[f];split<;>simp
def AM(p:L aZ):Prop:=p.Pairwise λa b=>beforeL a.pw b.pw=true
def zV{t:aZ}:∀{p:L aZ}{u:aZ},u∈nX t p->u∈p\/u.pw=t.pw
 |[],u,h=>by simp[nX]at h;grind
 |v::r,u,h=>by
  simp[nX]at h;split at h;rcases adb.1 h with rfl|h;simp_all;rcases zV h with h|h;simp_all;grind
  grind
def Fc{t:aZ}{V:Nat}(g:t.pw.length=V):∀{p:L aZ},(∀u∈p,u.pw.length=V)->AM p->AM (nX t p)
 |[],_,_=>by simp[nX];split<;>simp[AM]
 |v::r,hl,h=>by have j:∀u∈r,beforeL _ _=true:=λu hu=>List.rel_of_pairwise_cons h hu;have e:=List.Pairwise.of_cons h;simp[nX];split;refine List.Pairwise.cons (λu hu=>?_)<|Fc g (λu hu=>hl u<|by simp[hu]) e;rcases zV hu with hu|hu;exact j u hu;rwa[hu];rename_i i;split;split;exact e;exact List.Pairwise.cons (λu hu=>gn) e;rename_i he;split;exact h;have f:=oh ((hl v I).trans g.symm) (by simpa using i) he;refine List.Pairwise.cons (λu hu=>?_) h;rcases adb.1 hu with rfl|hu;exact f;exact iL f<|j u hu
def nj{α:Type}[DecidableEq α]:∀{l m:L α},l.Nodup->(∀x∈l,x∈m)->l.length<=m.length
 |[],_,_,_=>I
 |x::l,m,hn,hs=>by
  have:=nj (m:=m.erase x) (af6.1 hn).2 λy e=>by grind
  grind
def SK(d:Nat):Nat->L (L Int)
 |0=>[[]]
 |V+1=>(SK d V).flatMap λv=>(List.range<|d+1).map λ(x:Nat)=>(x:Int)::v
def qU{α e:Type}{f:α->L e}{c:Nat}(h:∀a,(f a).length=c):∀l:L α,(l.flatMap f).length=l.length*c
 |[]=>I
 |a::l=>by rw[ai2,ad9,h,qU h l,acC,ajb];omega
def La(d:Nat):∀V,(SK d V).length=(d+1)^V
 |0=>rfl
 |V+1=>by rw[SK,qU (c:=d+1) λv=>I,La d V,agS]
def Ms{d:Nat}:∀{v:L Int},(∀x∈v,0<=x/\x<=d)->v∈SK d v.length
 |[],_=>by simp[SK]
 |x::v,h=>by have g:=h x I;have f:=Ms (v:=v) λy e=>h y (by simp[e]);simp[acC,SK,af2,ab4,aec];exact⟨v,f,x.toNat,E,by grind⟩
def jx:∀{v:L Int},(∀x∈v,0<=x)->∀x∈v,x<=v.sum
 |[],_,x,e=>by cases e
 |y::v,h,x,e=>by
  have o:0<=v.sum:=by
   clear e;have g:∀z∈v,0<=z:=λz f=>h z (by simp[f])
   induction v with
   |nil=>simp
   |cons z v i=>
    simp_all
    grind
  have j:=h y I;simp;rcases adb.1 e with rfl|e;omega;have:=jx (λz f=>h z<|by simp[f]) x e;omega
def PwD(V:Nat)(d:Int)(v:L Int):Prop:=v.length=V/\(∀x∈v,0<=x)/\v.sum<=d
def Zc{d:Nat}{p:L aZ}(hs:AM p)(h:∀u∈p,PwD V d u.pw):p.length<=(d+1)^V:=by rw[<-La d V,<-adZ (f:=aZ.pw)];refine nj ?_ ?_;rw[List.Nodup,ajc];refine List.Pairwise.imp (λ{a b}g he=>?_) hs;rw[he,iy]at g;simp_all;intro x e;obtain⟨u,hu,rfl⟩:=ab4.1 e;let⟨o,i,j⟩:=h u hu;rw[<-o];exact Ms λx e=>⟨i x e,agH (jx i x e) j⟩
def wm{V:Nat}:∀{l p:L aZ},(∀u∈l,u.pw.length=V)->(∀u∈p,u.pw.length=V)->AM p->AM (l.foldl jK p)/\∀u∈l.foldl jK p,u.pw.length=V
 |[],p,_,h,e=>⟨e,h⟩
 |t::l,p,hl,h,e=>by have f:=hl t I;refine wm (p:=jK p t) (λu hu=>hl u<|by grind) (λu hu=>?_) ?_;rw[jA]at hu;rcases zV hu with hu|hu;exact h u hu;rwa[hu];rw[jA];exact Fc f h e
def EI:∀{l p:L aZ}{u:aZ},u∈l.foldl jK p->(∃t∈l,u.pw=t.pw)\/∃t∈p,u.pw=t.pw
 |[],p,u,h=>.inr ⟨u,h,W⟩
 |t::l,p,u,h=>by
  rcases EI (p:=jK p t) h with⟨v,f,e⟩|⟨v,f,e⟩
  grind
  rw[jA]at f;rcases zV f with f|f
  grind
  grind
def RE{D M w n m:Nat}{t:aZ}(e:Wn D M m w t.c):∀{p:L aZ},(∀u∈p,Wn D M n w u.c)->∀u∈nX t p,Wn D M (n+m) w u.c
 |[],_,u,hu=>by simp only[nX]at hu;split at hu;cases hu;simp at hu;subst hu;exact e.le E
 |v::r,h,u,hu=>by have f:∀u∈v::r,Wn D M (n+m) w u.c:=λu hu=>(h u hu).le E;simp[nX]at hu;split at hu;rcases adb.1 hu with rfl|hu;simp_all;exact RE e (λu hu=>h u<|by simp[hu]) u hu;split at hu;split at hu;simp_all;rcases adb.1 hu with rfl|hu;exact(h v I).add e;simp_all;split at hu;exact f u hu;rcases adb.1 hu with rfl|hu;exact e.le E;exact f u hu
def Mm{D M w:Nat}:∀{l p:L aZ}{n:Nat},(∀u∈l,Wn D M 1 w u.c)->(∀u∈p,Wn D M n w u.c)->∀u∈l.foldl jK p,Wn D M (n+l.length) w u.c
 |[],p,n,_,e=>e
 |t::l,p,n,hl,e=>by
  intro u hu;have:=Mm (p:=jK p t) (λu hu=>hl u<|by grind) (λu hu=>by rw[jA]at hu;exact RE (hl t I) e u hu) u hu
  grind
def PW(D M V:Nat)(d:Int)(w:Nat)(l:L aZ):Prop:=∀u∈l,PwD V d u.pw/\Wn D M 1 w u.c
def PW.mono{e:Int}(i:sU D M k)(h:PW D M V d w l)(g:d<=e)(f:w<=v):PW D M V e v l:=λu hu=>⟨⟨(h u hu).1.1,(h u hu).1.2.1,agH (h u hu).1.2.2 g⟩,(h u hu).2.up i f⟩
def PW.append{m:L aZ}(h:PW D M V d w l)(g:PW D M V d w m):PW D M V d w (l++m):=λu hu=>(aeM.1 hu).elim (h u)<|g u
def PW.nil:PW D M V d w []:=λ_ h=>by cases h
structure cJ(D M V:Nat)(d:Int)(w:Nat)(p:List aZ):Prop where
 S5:AM p
 pw:PW D M V d w p
def cJ.mono{e:Int}(i:sU D M k)(h:cJ D M V d w l)(g:d<=e)(f:w<=v):cJ D M V e v l:=⟨h.S5,h.pw.mono i g f⟩
def cJ.nil:cJ D M V d w []:=⟨List.Pairwise.nil,PW.nil⟩
def Tr(h:V<=9):(6+1)^V<=40353607:=ab7 (aeh gC h) gC
def cJ.len{p:L aZ}(h:cJ D M V d w p)(f:V<=9)(e:d<=6):p.length<=40353607:=ab7 (Zc h.S5 λu hu=>⟨(h.pw u hu).1.1,(h.pw u hu).1.2.1,agH (h.pw u hu).1.2.2 e⟩) (Tr f)
def PwD.ok{v:L Int}(h:PwD V d v)(i:V<=9)(g:d<=6):UO v:=by let⟨o,f,j⟩:=h;exact⟨E,λx e=>⟨f x e,by have:=jx f x e;omega⟩⟩
def PW.tok(i:sU D M k)(h:PW D M V d w l)(g:V<=9)(f:d<=6)(o:k*w+2<=K):∀u∈l,Dy V K u:=by intro u hu;let⟨e,j⟩:=h u hu;refine⟨e.1,e.ok g f,(j.sz i).mono ?_⟩;rw[ir];grind
def PW.norm(g:sU D M k)(h:PW D M V d w l)(hl:l.length<=10^18):cJ D M V d (w+1) (fA l):=by refine⟨(wm (λu hu=>(h u hu).1.1) I List.Pairwise.nil).1,λu hu=>⟨?_,?_⟩⟩;rcases EI hu with⟨t,f,e⟩|⟨t,f,e⟩;rw[e];exact(h t f).1;cases f;have:=Mm (n:=0) (λu hu=>(h u hu).2) I u hu;exact this.one g E
def uA(V K:Nat)(l:L aZ):Prop:=(∀u∈l,Dy V K u)/\∀m,m <+:l->(∀u∈fA m,Dy V K u)/\(fA m).length<2^30
def PW.nok(g:sU D M k)(h:PW D M V d w l)(f:V<=9)(e:d<=6)(hl:l.length<=10^18)(i:k*(w+1)+2<=K):uA V K l:=by refine⟨h.tok g f e<|ab7 (ahG (ae6 k<|ain w) 2) i,λm hm=>?_⟩;have o:PW D M V d w m:=λu hu=>h u<|hm.subset hu;have j:=o.norm g (by grind);exact⟨j.pw.tok g f e i,by have:=j.len f e;omega⟩
def kP(c:Rat)(p:L aZ):L aZ:=p.map λt=>⟨c*t.c,t.pw⟩
def iU(c:Rat)(p:L aZ):L aZ:=fA<|kP c p
def PW.JA(hc:Wn D M 1 v c)(h:PW D M V d w l):PW D M V d (v+w) (kP c l):=by intro u hu;obtain⟨t,e,rfl⟩:=ab4.1 hu;exact⟨(h t e).1,hc.mul (h t e).2⟩
def iH(a b:L aZ):L aZ:=a.flatMap λt=>b.map λu=>⟨t.c*u.c,List.zipWith (·+ ·) t.pw u.pw⟩
def jG(a b:L aZ):L aZ:=fA<|iH a b
def QG:∀{a b:L Int},a.length=b.length->(List.zipWith (·+ ·) a b).sum=a.sum+b.sum
 |[],[],_=>I
 |[],_::_,h=>by cases h
 |_::_,[],h=>by cases h
 |x::a,y::b,h=>by have:=QG (aR);simp;omega
def DZ:∀{a b:L Int},(∀x∈a,0<=x)->(∀x∈b,0<=x)->∀x∈List.zipWith (·+ ·) a b,0<=x
 |[],_,_,_,_,e=>by cases e
 |_::_,[],_,_,_,e=>by cases e
 |y::a,z::b,g,f,x,e=>by have i:=g y I;have h:=f z I;rcases adb.1 e with rfl|e;show 0<=y+z;omega;exact DZ (λx e=>g x<|by simp[e]) (λx e=>f x<|by simp[e]) x e
def PwD.zip{e:Int}(g:PwD V d a)(f:PwD V e b):PwD V (d+e) (List.zipWith (·+ ·) a b):=by refine⟨by rw[List.length_zipWith,g.1,f.1];omega,DZ g.2.1 f.2.1,?_⟩;rw[QG<|g.1.trans f.1.symm];have:=g.2.2;have:=f.2.2;omega
def PW.mul{e:Int}{a b:L aZ}(h:PW D M V d w a)(g:PW D M V e v b):PW D M V (d+e) (w+v) (iH a b):=by intro u hu;let⟨t,f,hu⟩:=af2.1 hu;obtain⟨s,hs,rfl⟩:=ab4.1 hu;exact⟨(h t f).1.zip (g s hs).1,by simpa using(h t f).2.mul (g s hs).2⟩
def WB(a b:L aZ):(iH a b).length=a.length*b.length:=qU (λt=>I) a
def CT(v:Nat)(t:aZ):L aZ:=if 0<t.pw.getD v 0 then[⟨t.c*((t.pw.getD v 0:Int):Rat),t.pw.set v<|t.pw.getD v 0-1⟩]else[]
def oY(p:L aZ)(v:Nat):L aZ:=p.flatMap<|CT v
def uz(p:L aZ)(v:Nat):L aZ:=fA<|oY p v
def Jz:∀{a:L Int}{v:Nat}{x:Int},v<a.length->(a.set v x).sum=a.sum-a.getD v 0+x
 |[],_,_,h=>by cases h
 |y::a,0,x,_=>by grind
 |y::a,v+1,x,h=>by
  have:=Jz (x:=x) (aR)
  grind
def Wn.int(n:Int):Wn D M n.natAbs 0 (n:Rat):=⟨n,I,I⟩
def PW.der{p:L aZ}(g:sU D M k)(h:PW D M V d w p)(z:d<=6)(v:Nat)(s:v<V):PW D M V (d-1) (w+1) (oY p v):=by
 intro u hu;let⟨t,e,hu⟩:=af2.1 hu;let⟨⟨o,j,A⟩,i⟩:=h t e;unfold CT at hu;split at hu;have hm:t.pw.getD v 0∈t.pw:=aN E;have f:=jx j _ hm;rw[ah9]at hu;subst hu;refine⟨⟨by simpa using o,λx r=>?_,?_⟩,?_⟩
 grind
 rw[Jz E];omega;have:=i.mul<|Wn.int<|t.pw.getD v 0;exact this.one g E;cases hu
def F7(p:L aZ)(v:Nat):(oY p v).length<=p.length:=by
 unfold oY
 induction p with
 |nil=>simp
 |cons t p e=>
  have:(CT v t).length<=1:=by unfold CT;grind
  grind
def cZ(c:Rat)(n:Nat):L aZ:=if c=0 then[]else[⟨c,List.replicate (n+1) 0⟩]
def iN(v n:Nat):L aZ:=[⟨1,(List.replicate (n+1) 0).set v 1⟩]
def cJ.const(h:Wn D M 1 w c):cJ D M (n+1) 0 w (cZ c n):=by unfold cZ;split;exact cJ.nil;refine⟨List.pairwise_singleton _ _,λu hu=>?_⟩;simp at hu;subst hu;exact⟨⟨I,λx e=>gn,I⟩,h⟩
def Wn.acW:Wn D M 1 0 1:=⟨1,I,I⟩
def cJ.var(f:v<=n):cJ D M (n+1) 1 0 (iN v n):=by
 refine⟨List.pairwise_singleton _ _,λu hu=>?_⟩;simp[iN]at hu;subst hu;refine⟨⟨I,λx e=>?_,?_⟩,Wn.acW⟩
 grind
 show(List.set _ _ _).sum<=1;rw[Jz<|by grind];simp;grind
end
section
variable{a b:List Int}{p:List aZ}{K L V i v:Nat}
def tp(l:List aZ)(h:uA V K l)(hn:l.length<2^50)(j:K+K+1<2^34):ab 149 [c7 false l] (c7 false<|fA l):=by
 refine enter func149 W W W W<|r0 W<|aU (λi:Nat=>[(0,c7 _ l),(3,c7 false<|fA<|l.take i),(4,.i i)]) (λi=>i<=l.length) (λi=>l.length-i) 0 (abX _) ?_;intro i hi;refine cv W W ?_ ?_<;>intro e;have c:i<l.length:=E;have f:(i:Int).toNat=i:=E;have g:l.getD i default=l[i]:=az c;obtain⟨d,k⟩:=h.2 _<|ajH _ _;refine fM W<|cl W (by rw[f,g];rfl) (Co _ l[i] (V:=V) d (h.1 _<|ab3 c) E E) W ?_;rw[<-Pp c];exact fM W<|aL (i+1) E;refine cm W W<|aj8 (c7 false) ?_
 grind
def nJ(a b:List aZ)(h:uA V K (a++b))(hn:a.length+b.length<2^40)(c:K+K+1<2^34):
 ab 65 [c7 false a,c7 false b] (c7 false<|vQ a b):=by
 refine enter func65 W W W W<|r1 W (by simp[aj,len];refine⟨λx=>rfl,λx=>rfl,?_,λx=>rfl,λx=>rfl,?_⟩<;>omega) ?_;refine Hh W W U (by refine⟨⟨W,W,?_⟩,U⟩;rw[xw,pG λ_=>rfl,pG λ_=>rfl,dA,<-adW]) (tp _ h (by grind) c) W ?_
 exact cq W W
def S7{c:Rat}(h:i<p.length):kP c (p.take<|i+1)=kP c (p.take i)++[⟨c*p[i].c,p[i].pw⟩]:=by unfold kP;rw[adY h,adW];rfl
def LG(c:Rat)(p:List aZ):(kP c p).length=p.length:=by unfold kP;simp
def ox(c:Rat)(p:List aZ)(hc:Sz c L)(k:∀u∈p,Dy V K u)(h:uA V K (kP c p))(hn:p.length<2^40)(l:K+K+1<2^34)(n:L+K<2^34):
 ab 66 [.s<|qt c,c7 false p] (c7 false<|iU c p):=by
 refine cx func66 W<|r0 W<|aU (λi:Nat=>[(0,.s<|qt c),(1,c7 false p),(5,c7 true<|kP c<|p.take i),(6,.i i)]) (λi=>i<=p.length) (λi=>p.length-i) 0 (abX _) ?_;intro i hi;refine cv W W ?_ ?_<;>intro m;have d:i<p.length:=E;have g:(i:Int).toNat=i:=E;have j:p.getD i default=p[i]:=az d;have f:=k _<|ab3 d;have hl:(kP c<|p.take i).length=i:=by rw[LG,afS];omega
 refine fM W<|cd W (by rw[g,j];rfl) (gZ c p[i].c hc f.2.2 E) W ?_;refine xf W ?_ (by simp[aj,abu,g,len,hl,adZ,acC,ad1]<;>omega);refine aL (i+1) E ⟨G,G,⟨W,W,W,?_⟩,G,U⟩;rw[g,j,dA,S7 d,adW];exact lB.append (lB.refl _) ⟨.inr W,W⟩;have e:kP c (p.take i)=kP c p:=by grind
 rw[e];refine cu W W (tp (kP c p) h (by rw[LG];omega) l) W ?_;refine cq W W
def uR(t u:aZ):aZ:=⟨t.c*u.c,List.zipWith (·+ ·) t.pw u.pw⟩
def Ih{a b:List aZ}(h:i<a.length):iH (a.take<|i+1) b=iH (a.take i) b++b.map (uR a[i]):=by unfold iH;rw[adY h,ai6];simp[uR]
def Mo{a b:List aZ}{k:Nat}(h:i<a.length):iH (a.take i) b++(b.take k).map (uR a[i]) <+:iH a b:=by
 have c:iH (a.take<|i+1) b <+:iH a b:=by
  conv=>rhs;rw[<-ah1 (i+1) a]
  unfold iH;grind
 refine List.IsPrefix.trans ?_ c;rw[Ih h];exact(List.prefix_append_right_inj _).2<|(ajH k b).map _
def Pq(l:List aZ)(t:aZ):fA (l++[t])=jK (fA l) t:=by unfold fA;simp
def rH(a b:List Int)(v:Nat):List Int:=List.zipWith (·+ ·) (a.take v) (b.take v)++a.drop v
def Hs(h:a.length=b.length)(v:Nat):(rH a b v).length=a.length:=by unfold rH;grind
def sW(h:a.length=b.length)(c:v<a.length):(rH a b v).getD v 0=a.getD v 0:=by
 unfold rH
 grind
def Hr(h:a.length=b.length)(c:v<a.length):(rH a b v).set v (a.getD v 0+b.getD v 0)=rH a b (v+1):=by
 have hl:(List.zipWith (·+ ·) (a.take v)<|b.take v).length=v:=by grind
 unfold rH;rw[List.set_append_right _ _ E,hl,aiQ,ad5 c,adY c,adY _,
  List.zipWith_append (by grind),az c,az (h▸c),aen]
 rfl
def Ht(h:a.length=b.length):rH a b a.length=List.zipWith (·+ ·) a b:=by unfold rH;grind
def rj(a b:List aZ){M:Nat}(z:∀u∈a,Dy V L u)(x:∀u∈b,Dy V M u)(h:uA V K (iH a b))(w:a.length<2^40)(t:b.length<2^40)(R:V<2^40)(S:K+K+1<2^34)(A:L+M<2^34):
 ab 69 [c7 false a,c7 false b] (c7 false<|jG a b):=by
 refine cx func69 W<|r0 W<|aU (λi:Nat=>[(0,c7 false a),(1,c7 false b),(5,c7 false<|fA<|iH (a.take i) b),(6,.i i)]) (λi=>i<=a.length) (λi=>a.length-i) 0 (abX _) ?_;intro i hi;refine cv W W ?_ ?_<;>intro H;have f:i<a.length:=E;have r:(i:Int).toNat=i:=E;have s:a.getD i default=a[i]:=az f;have j:=z _<|ab3 f;refine cp W (λk:Nat=>[(0,c7 false a),(1,c7 false b),(5,c7 false<|fA<|iH (a.take i) b++(b.take k).map (uR a[i])),(6,.i i),(7,.i k)]) (λk=>k<=b.length) (λk=>b.length-k) 0 (abX _) ⟨G,G,⟨W,aj8 (c7 false) I⟩,G,G,U⟩ ?_;intro k P;refine cv W W ?_ ?_<;>intro F;have g:k<b.length:=E;have n:(k:Int).toNat=k:=E;have m:b.getD k default=b[k]:=az g;have l:=x _<|ab3 g;have c:a[i].pw.length=b[k].pw.length:=j.1.trans l.1.symm;have y:=j.2.1.1;have q:fA (iH (a.take i) b++(b.take<|k+1).map (uR a[i]))=jK (fA<|iH (a.take i) b++(b.take k).map (uR a[i])) (uR a[i] b[k]):=by rw[adY g,adW,<-aen];exact Pq _ _
 let⟨D,T⟩:=h.2 _<|Mo (b:=b) (k:=k) f;have C:Dy V K (uR a[i] b[k]):=h.1 _ (by refine af2.2 ⟨a[i],ab3 f,?_⟩;exact ab4.2 ⟨b[k],ab3 g,W⟩)
 refine r1 W (by simp only[aj,abu,r,s,len,ad1];omega) ?_;rw[r,s];refine loop (λv:Nat=>[(0,c7 false a),(1,c7 false b),(5,c7 false<|fA<|iH (a.take i) b++(b.take k).map (uR a[i])),(6,.i i),(7,.i k),(8,gu<|rH a[i].pw b[k].pw v),(9,.i v)])
  (λv=>v<=a[i].pw.length) (λv=>a[i].pw.length-v) 0 (abX _) ⟨G,G,G,G,G,⟨W,aj8 (gu)<|by simp[rH,dA]⟩,G,U⟩ ?_
 intro v O;have o:=Hs c v;refine cv W W ?_ ?_<;>intro B;have e:v<a[i].pw.length:=E;have ev:(v:Int).toNat=v:=E;have N:=j.2.1.2 _<|aN (d:=0) e;have J:=l.2.1.2 _<|aN (d:=0) (c▸e);refine xf W ?_ (by simp only[aj,abu,n,m,ev,sW c e,o];omega);refine aL (v+1) E ⟨G,G,G,G,G,⟨W,aj8 (gu) ?_⟩,G,U⟩;rw[n,m,ev,sW c e,Hr c e];have ev:v=a[i].pw.length:=E;subst ev;rw[Ht c];refine fM W<|cd W (by rw[r,n,s,m];rfl) (gZ a[i].c b[k].c j.2.2 l.2.2 A) W ?_;refine fM W<|b9 W (Co (fA<|iH (a.take i) b++(b.take k).map (uR a[i])) (uR a[i] b[k]) (V:=V) (K:=K) D C E E) W ?_;rw[<-q];refine xf W<|aL (k+1) E;have n:k=b.length:=E;refine fM W<|aL (i+1) E ⟨G,G,⟨W,aj8 (c7 false) ?_⟩,G,U⟩;rw[Ih f,n,aed];refine cm W W<|aj8 (c7 false) ?_;rw[ad2 E];rfl
def IU(h:i<p.length):oY (p.take<|i+1) v=oY (p.take i) v++CT v p[i]:=by unfold oY;rw[adY h,ai6];simp
def sy(p:List aZ)(v:Nat)(r:∀u∈p,Dy V L u)(h:uA V K (oY p v))(o:v<V)(hn:p.length<2^40)(t:K+K+1<2^34)(s:L+3<2^34):
 ab 152 [c7 false p,.i v] (c7 false<|uz p v):=by
 refine cx func152 W<|r0 W<|aU (λi:Nat=>[(0,c7 false p),(1,.i v),(5,c7 true<|oY (p.take i) v),(6,.i i)]) (λi=>i<=p.length) (λi=>p.length-i) 0 (abX _) ?_;intro i hi;refine cv W W ?_ ?_<;>intro w;have g:i<p.length:=E;have j:(i:Int).toNat=i:=E;have l:p.getD i default=p[i]:=az g;have f:=r _<|ab3 g;have hl:(oY (p.take i) v).length<=i:=ab7 (F7 _ _) gn;have c:(v:Int).toNat=v:=E;have m:v<p[i].pw.length:=by rw[f.1];exact o
 have x:=f.2.1.2 _<|aN (d:=0) m;have q:=f.2.1.1;refine r1 W (by simp only[aj,abu,j,l,c];omega) ?_;refine cg W ?_ ?_<;>intro k;rw[j,l,c]at k;have n:Sz ((p[i].pw.getD v 0:Int):Rat) 3:=by refine⟨?_,?_⟩;rw[Rat.num_intCast];exact eH E;rw[Rat.den_intCast,ir];decide
 refine r1 W (by simp only[aj,abu,j,l,c,len];omega) ?_;refine cd W (by rw[j,l,c];rfl) (xh (p[i].pw.getD v 0) E) W ?_;refine fM W<|cd W (by rw[j,l];rfl) (gZ p[i].c ((p[i].pw.getD v 0:Int):Rat) f.2.2 n s) W ?_;refine xf W ?_ (by simp[aj,abu,j,len,adZ,acC,ad1]<;>omega);refine aL (i+1) E ⟨G,G,⟨W,W,W,?_⟩,G,U⟩;rw[j,l,c,dA,IU g,adW,CT,abx k];exact lB.append (lB.refl _) ⟨.inr W,W⟩;rw[j,l,c]at k;have k:¬0<p[i].pw.getD v 0:=k;refine fM W<|aL (i+1) E ⟨G,G,⟨W,aj8 (c7 true) ?_⟩,G,U⟩;rw[IU g,CT,abl k,ahl];have e:oY (p.take i) v=oY p v:=by grind
 rw[e];refine cu W W (tp (oY p v) h (by have:=F7 p v;omega) t) W ?_;refine cq W W
def vI(c:Rat)(n:Nat)(hn:n<2^40):ab 68 [.s<|qt c,.i n] (c7 false<|cZ c n):=by
 refine enter func68 W W W W<|cu W W (oS c) W<|qq W W W ?_ ?_<;>intro h;have h:=aR
 refine cm W W ?_;unfold cZ;rw[abx h];exact W;have h:=aR
 refine fM W ?_;unfold cZ;rw[abl h];exact OZ W<|mv
def uD(v n:Nat)(c:v<=n)(hn:n<2^40):ab 62 [.i v,.i n] (c7 false<|iN v n):=by
 refine enter func62 W W W W<|r1 W (bi) ?_;have e:(iN v n).map Kv=[SV.agg [.s [49],gm<|(List.replicate (n+1) 0).set v 1]]:=by simp[iN,Kv,O9]
 exact OZ W<|⟨W,W,e.symm⟩
def eSp(a b:Rat):SV:=fc ⟨qt a,qt b⟩
def jY(p:List aZ):Int:=if(∃u∈p,12<u.pw.sum)then 4 else if 64<p.length then 5 else if∃u∈p,ja u.c≠0 then 4 else 0
def Dk(p:List aZ)(l:∀u∈p,Dy V K u)(hn:p.length<2^50)(n:K<2^36):ab 71 [c7 false p] (.i<|jY p):=by
 refine cx func71 W<|cU 2 [(0,c7 false p)] (¬∃u∈p,12<u.pw.sum) ?_ λm=>?_;refine r0 W<|aU (λi:Nat=>[(0,c7 false p),(3,.i i)]) (λi=>i<=p.length/\¬∃u∈p.take i,12<u.pw.sum) (λi=>p.length-i) 0 ⟨abX _,I⟩ ?_;rintro i⟨hi,e⟩;refine cv W W ?_ ?_<;>intro g;have c:i<p.length:=E;have j:(i:Int).toNat=i:=E;have k:p.getD i default=p[i]:=az c;have d:=l _<|ab3 c;refine fM W<|cl W (by rw[j,k];rfl) (mN p[i].pw d.2.1) W ?_;refine cv W W ?_ ?_<;>intro f;refine cm W W<|cw ?_;unfold jY;rw[abx ⟨_,ab3 c,f⟩];refine fM W<|aL (i+1) ⟨E,?_⟩;rw[adY c]
 grind
 refine r0 W ?_;rw[ad2 E]at e;exact bo e;have h:jY p=if 64<p.length then 5 else if∃u∈p,ja u.c≠0 then 4 else 0:=by unfold jY;rw[abl m]
 refine cv W W ?_ ?_<;>intro g;refine cm W W<|aj8 SV.i E;rw[abl E]at h;refine r0 W<|aU (λi:Nat=>[(0,c7 false p),(4,.i i)]) (λi=>i<=p.length/\¬∃u∈p.take i,ja u.c≠0) (λi=>p.length-i) 0 ⟨abX _,I⟩ ?_;rintro i⟨hi,e⟩;refine cv W W ?_ ?_<;>intro g;have c:i<p.length:=E;have j:(i:Int).toNat=i:=E;have k:p.getD i default=p[i]:=az c;have d:=l _<|ab3 c;refine fM W<|cl W (by rw[j,k];rfl) (MK p[i].c d.2.2 n) W ?_;refine cv W W ?_ ?_<;>intro f;refine cm W W<|cw ?_;rw[h,abx ⟨_,ab3 c,f⟩];refine fM W<|aL (i+1) ⟨E,?_⟩;rw[adY c]
 grind
 refine r0 W ?_;rw[ad2 E]at e;exact aJ W<|aj8 SV.i<|by rw[h,abl e]
def jM(bq:List (List aZ))(p:List aZ):Nat->List aZ
 |0=>uz p 0
 |i+1=>vQ (jM bq p i)<|jG (uz p<|i+1)<|bq.getD i []
def ke(bq:List (List aZ))(p:List aZ):List aZ:=jM bq p bq.length
structure abc(V K:Nat)(bq:List (List aZ))(p:List aZ):Prop where
 d0:uA V K (oY p 0)
 d:∀i,i<bq.length->uA V K (oY p<|i+1)
 m:∀i,i<bq.length->uA V K (iH (uz p<|i+1)<|bq.getD i [])
 a:∀i,i<bq.length->uA V K (jM bq p i++jG (uz p<|i+1) (bq.getD i []))
 r:∀i,i<bq.length->(∀u∈bq.getD i [],Dy V K u)/\(bq.getD i []).length<2^40
def uA.norm{l:List aZ}(h:uA V K l):(∀u∈fA l,Dy V K u)/\(fA l).length<2^30:=h.2 l<|List.prefix_refl l
def oE(own:Bool)(l:List (List aZ)):SV:=.bm own 1 default (c7 false) l
end
structure GJ where
 sh:Int
 dQ:cj
 deriving Inhabited
def uy(f:GJ):SV:=.agg [.i f.sh,.s f.dQ]
abbrev aj5:=SV.bm false 2 default uy
structure bw where
 kind:cj
 ai:List GJ
 out:Int
 k:cj
 c8:List cj
 deriving Inhabited
def fb(u:bw):SV:=.agg [.s u.kind,aj5 u.ai,.i u.out,.s u.k,.strs false u.c8]
abbrev aj3:=SV.bm false 5 default fb
structure fZ where
 n:Int
 aa:List bw
 ints:List Int
 deriving Inhabited
def bV(p:fZ):SV:=.agg [.i p.n,aj3 p.aa,gm p.ints]
def bk:cj:=[105,110,116,101,103,114,97,116,111,114]
def jN:cj:=[97,100,100,101,114]
def dO:cj:=[116,97,98,108,101]
structure UOk(u:bw):Prop where
 ai:u.ai.length<2^63
 dQ:∀f∈u.ai,cE f.dQ
 k:cE u.k
 c8:u.c8.length<2^63
 OB:∀s∈u.c8,cE s
structure uC(p:fZ):Prop where
 aa:p.aa.length<2^63
 unit:∀u∈p.aa,UOk u
 ints:p.ints.length<2^63
def mH(p:fZ)(h:uC p):ab 12 [bV p] (.i<|p.aa.countP λu=>decide (u.kind=bk)):=by
 have hl:=h.aa;refine cx func12 W<|r0 W<|aU (λi:Nat=>[(1,.box true<|bV p),(3,.i<|(p.aa.take i).countP λu=>decide (u.kind=bk)),(4,.i i)]) (λi=>i<=p.aa.length) (λi=>p.aa.length-i) 0 (abX _) ?_;intro i hi;have hc:((p.aa.take i).countP λu=>decide (u.kind=bk))<=i:=ab7 ahN (by simp;omega);refine cv W W ?_ ?_<;>intro e;have b:i<p.aa.length:=E;have c:(i:Int).toNat=i:=E;have d:p.aa.getD i default=p.aa[i]:=az b;have hs:((p.aa.take<|i+1).countP λu=>decide (u.kind=bk))=((p.aa.take i).countP λu=>decide (u.kind=bk))+(if p.aa[i].kind=bk then 1 else 0):=by rw[adY b,aiR,ajI];simp
 refine r1 W (rl) ?_;refine cg W ?_ ?_<;>intro a;rw[c,d]at a;have a:p.aa[i].kind=bk:=a;rw[abx a]at hs;refine r1 W (aD) ?_;exact again (i+1) E E ⟨G,⟨W,aj8 SV.i<|by rw[hs];omega⟩,G,U⟩;rw[c,d]at a;have a:¬p.aa[i].kind=bk:=a;rw[abl a]at hs;refine r1 W (aD) ?_;exact again (i+1) E E ⟨G,⟨W,aj8 SV.i<|by rw[hs];omega⟩,G,U⟩;refine cm W W<|cw ?_
 grind
def mJ(n:Int)(f:GJ):Int:=if f.sh<0\/n<=f.sh then 10 else if aV f.dQ≠0 then aV f.dQ else if bp f.dQ=0 then 6 else 0
def jO(u:bw)(lo hi:Int):Prop:=(u.ai.length:Int)<lo\/hi<u.ai.length\/(u.kind=dO/\(u.c8.length<1\/13<u.c8.length))\/(u.kind≠dO/\0<u.c8.length)
instance(u:bw)(lo hi:Int):Decidable (jO u lo hi):=by unfold jO;infer_instance
def J2(u:bw):Int:=if u.kind=bk then 2 else 1
def Bq(u:bw):Int:=if u.kind=bk then 2 else if u.kind=jN then 8 else 1
def mg(n:Int)(u:bw):Int:=
 if u.kind≠bk/\u.kind≠jN/\u.kind≠dO then 13
 else if jO u (J2 u) (Bq u)then 2
 else if bE (mJ n) u.ai≠0 then bE (mJ n) u.ai
 else if u.out<1\/n<=u.out then 10
 else if aV u.k≠0 then aV u.k else bE aV u.c8
def Dt(p:fZ)(u:bw)(hu:UOk u):ab 57 [bV p,fb u] (.i<|mg p.n u):=by
 have x:=hu.ai;have w:=hu.c8;refine cx func57 W<|cU 3 [(2,.box true<|bV p),(3,.box true<|fb u),(5,.i<|J2 u),(6,.i<|Bq u)] (u.kind=bk\/u.kind=jN\/u.kind=dO) ?_ λB=>?_;refine cv W W ?_ ?_<;>intro h;have h:u.kind=bk:=h;refine cn W (.inl h) ⟨G,G,⟨W,aj8 SV.i<|by unfold J2;rw[abx h]⟩,⟨W,aj8 SV.i<|by unfold Bq;rw[abx h]⟩,U⟩;have h:¬u.kind=bk:=h;refine cv W W ?_ ?_<;>intro j;have j:u.kind=jN:=j;refine cn W (.inr<|.inl j) ⟨G,G,⟨W,aj8 SV.i<|by unfold J2;rw[abl h]⟩,⟨W,aj8 SV.i<|by unfold Bq;simp_all⟩,U⟩;have j:¬u.kind=jN:=j;refine cv W W ?_ ?_<;>intro a;have a:u.kind=dO:=a;refine cn W (.inr<|.inr a) ⟨G,G,⟨W,aj8 SV.i<|by unfold J2;rw[abl h]⟩,⟨W,aj8 SV.i<|by unfold Bq;simp_all⟩,U⟩;have a:¬u.kind=dO:=a;refine cm W W<|aj8 SV.i<|by unfold mg;simp_all
 have c:mg p.n u=if jO u (J2 u) (Bq u)then 2
  else if bE (mJ p.n) u.ai≠0 then bE (mJ p.n) u.ai
  else if u.out<1\/p.n<=u.out then 10
  else if aV u.k≠0 then aV u.k else bE aV u.c8:=by
  unfold mg;grind
 generalize J2 u=lo at*;generalize Bq u=hi at*;refine cU 2 [(2,.box true<|bV p),(3,.box true<|fb u)] (¬jO u lo hi) ?_ λv=>?_;have k:jO u lo hi->(2:Int)=mg p.n u:=gn;refine ck W 28 W ?_ ?_<;>intro h;refine cm W W<|aj8 SV.i<|k<|.inl E;refine ck W 35 W ?_ ?_<;>intro j;refine cm W W<|aj8 SV.i<|k<|.inr<|.inl E;refine ck W 39 W ?_ ?_<;>intro a;have a:u.kind=dO:=a;refine ck W 42 W ?_ ?_<;>intro b;refine cm W W<|aj8 SV.i<|k<|.inr<|.inr<|.inl ⟨a,E⟩;refine ck W 48 W ?_ ?_<;>intro l;refine cm W W<|aj8 SV.i<|k<|.inr<|.inr<|.inl ⟨a,E⟩;refine ck W 52 W (λd=>abK a d) λd=>?_;refine r0 W<|bo ?_;rintro(g|g|g|g);omega;omega;have:=g.2;omega;exact g.1 a;have a:¬u.kind=dO:=a;refine ck W 52 W (λd=>?_) λd=>abK a d;refine cv W W ?_ ?_<;>intro y;refine cm W W<|aj8 SV.i<|k<|.inr<|.inr<|.inr ⟨a,E⟩;refine r0 W<|bo ?_;rintro(g|g|g|g);omega;omega;exact a g.1;have:=g.2;omega;rw[abl v]at c;refine r0 W<|aU (λi:Nat=>[(2,.box true<|bV p),(3,.box true<|fb u),(8,.i i)]) (λi=>i<=u.ai.length/\bE (mJ p.n) u.ai=bE (mJ p.n) (u.ai.drop i)) (λi=>u.ai.length-i) 0 ⟨abX _,W⟩ ?_;rintro i⟨hi,s⟩;refine cv W W ?_ ?_<;>intro z;have m:i<u.ai.length:=E;have t:(i:Int).toNat=i:=E;have A:u.ai.getD i default=u.ai[i]:=az m;rw[im _ m]at s;have o:=hu.dQ _<|ab3 m;refine r1 W (by simp only[aj,abu,t];omega) ?_;rw[t,A];generalize u.ai[i]=f at*;have k:mJ p.n f≠0->mJ p.n f=mg p.n u:=by omega
 refine aI 72 W ?_ ?_<;>intro j;have e:mJ p.n f=10:=by unfold mJ;rw[abx<|.inl j]
 refine cm W W<|aj8 SV.i E;refine cv W W ?_ ?_<;>intro a;have e:mJ p.n f=10:=by unfold mJ;rw[abx<|.inr a]
 refine cm W W<|aj8 SV.i E;have q:mJ p.n f=if aV f.dQ≠0 then aV f.dQ else if bp f.dQ=0 then 6 else 0:=by unfold mJ;omega
 refine cu W W (check_sound f.dQ o) W<|ck W 84 W ?_ ?_<;>intro b;have b:aV f.dQ=0:=b;rw[abl<|by rw[b];simp]at q;refine r0 W ?_;have r:=oS<|bp f.dQ;rw[dU b]at r;refine b8 W r W<|r0 W<|qq W W W ?_ ?_<;>intro l;have l:bp f.dQ=0:=by simpa using l
 rw[abx l]at q;refine cv W W (λ_=>?_) λd=>abK gC d;refine cm W W<|aj8 SV.i E;have l:¬bp f.dQ=0:=by simpa using l
 rw[abl l]at q;rw[abl<|by rw[q];simp]at s;refine cv W W (λd=>abK b d) λd=>?_;exact r1 W (am)<|aL (i+1) ⟨E,s⟩;have b:¬aV f.dQ=0:=b;rw[abx b]at q;refine cv W W (λd=>?_) λd=>abK b<|b5
 refine cm W W<|aj8 SV.i E;have r:bE (mJ p.n) u.ai=0:=by rw[s,agt E];rfl
 rw[abl<|by rw[r];simp]at c;refine ck W 95 W ?_ ?_<;>intro j;refine cm W W<|aj8 SV.i E;refine cv W W ?_ ?_<;>intro a;refine cm W W<|aj8 SV.i E;rw[abl E]at c;refine cu W W (check_sound u.k hu.k) W<|cv W W ?_ ?_<;>intro b;have b:aV u.k=0:=b;rw[abl<|by rw[b];simp]at c;refine cu W W (Gk u.c8 hu.OB E) W<|cm W W<|aj8 SV.i c.symm;have b:¬aV u.k=0:=b;rw[abx b]at c;refine cm W W<|aj8 SV.i c.symm
def zW(xs:L Int)(n:Int)(hl:xs.length<2^60):ab 142 [gm xs,.i n] (.u<|decide (n∈xs)):=by
 refine enter func142 W W W W<|r0 W<|aU (λi:Nat=>[(0,.ints _ _ xs),(1,.i n),(5,.i i)]) (λi=>i<=xs.length/\(n∈xs↔n∈xs.drop i)) (λi=>xs.length-i) 0 ⟨abX _,Iff.rfl⟩ ?_;rintro i⟨hi,c⟩;refine cv W W ?_ ?_<;>intro f;have a:i<xs.length:=E;have d:(i:Int).toNat=i:=E;have g:xs.getD i 0=xs[i]:=az a;rw[ad5 a,adb]at c;refine r1 W (eD) ?_;rw[d,g];refine cg W ?_ ?_<;>intro b;refine cm W W ?_;show true=_;simp_all;refine r1 W (bi) ?_;exact aL _ ⟨E,c.trans ⟨λh=>h.resolve_left λe=>b e.symm,.inr⟩⟩;refine cm W W ?_;show false=_
 grind
def bU(u:bw):L GJ:=if u.kind=bk then u.ai.drop 1 else u.ai
def zJ(u:bw)(hu:UOk u)(a:u.kind=bk->1<=u.ai.length):ab 76 [fb u] (aj5<|bU u):=by
 refine enter func76 W W W W<|cv W W ?_ ?_<;>intro h;have h:u.kind=bk:=h;have:=a h;refine r1 W (bi) ?_;have e:(u.ai.drop (1:Int).toNat).take (u.ai.length-(1:Int).toNat)=bU u:=by unfold bU;rw[abx h];exact ad2 I
 exact aJ W<|aj8 _ e;have h:¬u.kind=bk:=h;refine cm W W<|aj8 (SV.bm _ 2 _ _)<|by unfold bU;rw[abl h]
def db(s:Int):Nat->L bw->Int
 |_,[]=> -1
 |k,u::r=>if u.out=s then k else db s (k+1) r
def gT(us:L bw)(s:Int):Int:=db s 0 us
def Kw(p:fZ)(h:uC p)(s:Int):ab 143 [bV p,.i s] (.i<|gT p.aa s):=by have hl:=h.aa;refine cx func143 W<|r0 W<|aU (λi:Nat=>[(1,.i s),(2,.box true<|bV p),(5,.i i)]) (λi=>i<=p.aa.length/\gT p.aa s=db s i (p.aa.drop i)) (λi=>p.aa.length-i) 0 ⟨abX _,W⟩ ?_;rintro i⟨hi,a⟩;refine cv W W ?_ ?_<;>intro e;have b:i<p.aa.length:=E;have d:(i:Int).toNat=i:=E;have f:p.aa.getD i default=p.aa[i]:=az b;rw[ad5 b,db]at a;refine r1 W (eD) ?_;rw[d,f];refine cg W ?_ ?_<;>intro c;rw[abx c]at a;refine cm W W<|aj8 SV.i a.symm;rw[abl c]at a;refine r1 W (aD) ?_;exact aL (i+1) ⟨E,a⟩;refine cm W W<|cw ?_;rw[a,agt E];rfl
def Ag{s:Int}:∀{us:L bw}{k:Nat},db s k us<(k+us.length:Nat)
 |[],k=>by simp[db];omega
 |u::r,k=>by have:=Ag (s:=s) (us:=r) (k:=k+1);simp[db];grind
def BD(us:L bw)(s:Int):gT us s<us.length:=by have:=Ag (s:=s) (us:=us) (k:=0);unfold gT;omega
def mC(us:L bw)(out:L Int)(f:GJ):Bool:=decide (gT us f.sh<0\/gT us f.sh∈out)
def kF(us:L bw)(out:L Int)(j:Nat):Bool:=decide (¬(j:Int)∈out)&&(bU<|us.getD j default).all (mC us out)
def dE(us:L bw)(out:L Int)(j:Nat):Int:=if j<us.length then(if kF us out j=true then(j:Int)else dE us out (j+1))else -1
 termination_by us.length-j
def kQ{us:L bw}{out:L Int}{j:Nat}(h:j<us.length):dE us out j=if kF us out j=true then(j:Int)else dE us out (j+1):=by rw[dE,abx h]
def oO{us:L bw}{out:L Int}{j:Nat}(h:us.length<=j):dE us out j= -1:=by rw[dE,abl E]
def ri(us:L bw)(out:L Int)(j:Nat):dE us out j= -1\/∃i:Nat,dE us out j=i/\j<=i/\i<us.length/\kF us out i=true:=by
 induction hm:us.length-j generalizing j with
 |zero=>exact .inl (oO E)
 |succ m a=>
  rw[kQ E]
  grind
def fD(us:L bw):Nat->L Int->L Int
 |0,out=>out
 |k+1,out=>if dE us out 0<0 then out else fD us k (out++[dE us out 0])
def aA(us:L bw):L Int:=fD us (us.length+1) []
def zu{us:L bw}{out:L Int}(hn:out.Nodup)(b:∀x∈out,0<=x/\x<us.length):out.length<=us.length:=by
 have:=nj (m:=(List.range us.length).map λ(x:Nat)=>(x:Int)) hn λx a=>by have:=b x a;exact ab4.2 ⟨x.toNat,aec.2 E,E⟩
 grind
def zr{us:L bw}{out:L Int}(hn:out.Nodup)(b:∀x∈out,0<=x/\x<us.length)(h:¬dE us out 0<0):(out++[dE us out 0]).Nodup/\∀x∈out++[dE us out 0],0<=x/\x<us.length:=by
 rcases ri us out 0 with e|⟨i,e,_,d,a⟩;simp_all;have c:¬(i:Int)∈out:=by unfold kF at a;grind
 grind
def Fdd(us:L bw):Prop:=∀u∈us,u.kind=bk->1<=u.ai.length
def uW(p:fZ)(h:uC p)(q:p.aa.length<=96)(B:Fdd p.aa):ab 58 [bV p] (gu<|aA p.aa):=by
 have hl:=h.aa;refine cx func58 W<|r0 W<|aU (λout:L Int=>[(1,.box true<|bV p),(3,gu out)]) (λout=>out.Nodup/\(∀x∈out,0<=x/\x<p.aa.length)/\aA p.aa=fD p.aa (p.aa.length+1-out.length) out) (λout=>p.aa.length+1-out.length) [] ⟨aee,I,W⟩ ?_;rintro out⟨hn,s,f⟩;have y:=zu hn s;refine r1 W (am) ?_;refine loop (λj:Nat=>[(1,.box true<|bV p),(3,gu out),(4,.i<|dE p.aa out j),(5,.i<|(j:Int)-1)]) (λj=>j<=p.aa.length) (λj=>j) p.aa.length (abY _)
  ⟨G,G,⟨W,aj8 SV.i (oO<|abY _).symm⟩,G,U⟩ ?_
 intro j K;refine cv W W ?_ ?_<;>intro D;obtain⟨i,rfl⟩:∃i,j=i+1:=⟨j-1,E⟩;have H:((i+1:Nat):Int)-1=i:=E;have u:(i:Int).toNat=i:=E;have hi:i<p.aa.length:=E;have v:p.aa.getD i default=p.aa[i]:=az hi;have hu:=h.unit _<|ab3 hi;have w:=kQ (out:=out) hi;have z:(bU p.aa[i]).length<=p.aa[i].ai.length:=by unfold bU;split<;>simp
 have A:=hu.ai;rw[H];refine cu W W (zW out i E) W<|r1 W (by simp only[aj,abu,u];omega) ?_;refine cl W (by rw[u,v];rfl) (zJ p.aa[i] hu<|B _<|ab3 hi) W ?_;refine r0 W<|lM (λ(k:Nat)(r:Bool)=>[(1,.box true<|bV p),(3,gu out),(4,.i<|dE p.aa out<|i+1),(5,.i i),(6,.u r),(7,aj5<|bU p.aa[i]),(8,.i k)])
  (λk r=>k<=(bU p.aa[i]).length/\kF p.aa out i=(r&&((bU p.aa[i]).drop k).all (mC p.aa out))) (λk _=>(bU p.aa[i]).length-k) 0 (!decide ((i:Int)∈out)) ⟨abX _,by unfold kF;rw[v];simp⟩
  ⟨G,G,G,G,G,G,G,U⟩ ?_
 rintro k r⟨J,c⟩;have stop:k<(bU p.aa[i]).length/\r=true\/kF p.aa out i=r:=by grind
 have fin:∀b:Bool,kF p.aa out i=b->dE p.aa out i=if b=true then(i:Int)else dE p.aa out (i+1):=by simp_all
 refine ck W 32 W ?_ ?_<;>intro d;refine r0 W<|qq W W W ?_ ?_<;>intro a;have a:r=true:=a;subst a;have e:k<(bU p.aa[i]).length:=E;have t:(k:Int).toNat=k:=E;have o:(bU p.aa[i]).getD k default=(bU p.aa[i])[k]:=az e;rw[ad5 e,af5,ahL]at c;refine r1 W (by simp only[aj,abu,t];omega) ?_;refine cd W (by rw[t,o];rfl) (Kw p h (bU p.aa[i])[k].sh) W ?_;refine k0 W aP<|aI 46 W ?_ ?_<;>intro C;refine r1 W (am) ?_;have hm:mC p.aa out (bU p.aa[i])[k]=true:=by unfold mC;simp_all
 rw[hm]at c;exact aL (k+1,true) ⟨ac,c⟩;refine cu W W (zW out (gT p.aa (bU p.aa[i])[k].sh) E) W<|r1 W (am) ?_;have hm:mC p.aa out (bU p.aa[i])[k]=decide (gT p.aa (bU p.aa[i])[k].sh∈out):=by unfold mC;grind
 rw[hm]at c;exact aL (k+1,decide (gT p.aa (bU p.aa[i])[k].sh∈out)) ⟨ac,c⟩;have a:r=false:=a;subst a;have l:=fin false (f8);refine r0 W<|qq W W W (λg=>abK g gC) λ_=>?_;refine r1 W (am) ?_;exact again i E E ⟨G,G,⟨W,aj8 SV.i<|by rw[l];simp⟩,G,U⟩;have l:=fin r<|stop.resolve_left λg=>E;refine r0 W<|qq W W W ?_ ?_<;>intro a;have a:r=true:=a;subst a;refine r1 W (am) ?_;exact again i E E ⟨G,G,⟨W,aj8 SV.i<|by rw[l];simp⟩,G,U⟩;have a:r=false:=a;subst a;refine r1 W (am) ?_;exact again i E E ⟨G,G,⟨W,aj8 SV.i<|by rw[l];simp⟩,G,U⟩;have n:j=0:=E;subst n;have m:p.aa.length+1-out.length=(p.aa.length-out.length)+1:=E;rw[m,fD]at f;refine cv W W ?_ ?_<;>intro d;rw[abx d]at f;refine cm W W<|aj8 (gu) f.symm;rw[abl d]at f;let⟨g1,g2⟩:=zr hn s d;have F:=zu g1 g2;simp only[ad9,acC,ad1]at F;refine r1 W (by simp only[aj,abu,len,acC,ad1]<;>omega) ?_;refine again (out++[dE p.aa out 0]) gn ⟨g1,g2,?_⟩ ⟨G,G,U⟩;simp_all
def oJ(n:Nat)(us:L bw)(i:Nat):L cj:=(us.take i).foldl (λ(o:L cj)u=>o.set u.out.toNat u.k)<|List.replicate n<|qt 0
def OL(n:Nat)(us:L bw):L cj:=oJ n us us.length
def B7(n:Nat)(us:L bw):∀i,i<=us.length->(oJ n us i).length=n
 |0,_=>by simp[oJ]
 |i+1,h=>by have:=B7 n us i E;unfold oJ at*;rw[adY E];grind
def Jt{n:Nat}{us:L bw}{i:Nat}(h:i<us.length):oJ n us (i+1)=(oJ n us i).set us[i].out.toNat us[i].k:=by unfold oJ;rw[adY h,ahm];rfl
def afX(n:Nat)(us:L bw):Prop:=∀u∈us,0<=u.out/\u.out<n
def yF(p:fZ)(h:uC p)(n:Nat)(hn:p.n=n)(b:n<2^40)(e:afX n p.aa):ab 59 [bV p] (.strs true<|OL n p.aa):=by have hl:=h.aa;refine enter func59 W W W W<|r0 W<|cl W (by rw[hn];rfl) (K8 n b) W ?_;refine r0 W<|aU (λi:Nat=>[(1,.box _ _),(3,.strs true<|oJ n p.aa i),(4,.i i)]) (λi=>i<=p.aa.length) (λi=>p.aa.length-i) 0 (abX _) ?_;intro i hi;refine cv W W ?_ ?_<;>intro f;have a:i<p.aa.length:=E;have c:(i:Int).toNat=i:=E;have d:p.aa.getD i default=p.aa[i]:=az a;have hu:=e _<|ab3 a;refine k1 W aP (by simp only[aj,abu,c,d,B7 n p.aa i hi];omega) ?_;refine again (i+1) E E ⟨G,⟨W,aj8 (SV.strs true) ?_⟩,G,U⟩;rw[Jt a,c,d];refine cm W W<|aj8 (SV.strs true) ?_;have:i=p.aa.length:=E;subst this;rfl
def CB(x:Rat)(cs:L Rat):Rat:=cs.foldr (λa s=>s*x+a) 0
def MZ{x:Rat}{K L:Nat}(a:Sz x L):∀{cs:List Rat},(∀c∈cs,Sz c K)->Sz (CB x cs) (cs.length*(L+K+1)+1)
 |[],_=>by have:Sz (0:Rat) 1:=⟨by simp[dj],by simp[ir]⟩;simpa[CB]using this
 |c::cs,h=>by have d:=MZ a (cs:=cs) λc hc=>h c (by grind);refine ((d.mul a).add<|h c I).mono ?_;rw[acC,ajb];omega
def Kb(cs:List Rat)(x:Rat){K L:Nat}(a:Sz x L)(hc:∀c∈cs,Sz c K)(f:(cs.length+1)*(L+K+1)+1<2^33)(hl:cs.length<2^40):
 ab 60 [.strs false<|cs.map qt,.s<|qt x] (.s<|qt<|CB x cs):=by
 refine cx func60 W<|r1 W (by simp[aj,abu,adZ];omega) ?_;refine loop (λj:Nat=>[(0,.strs false<|cs.map qt),(1,.s<|qt x),(5,.s<|qt<|CB x<|cs.drop j),(6,.i<|(j:Int)-1)]) (λj=>j<=cs.length) (λj=>j) cs.length (abY _)
  ⟨G,G,⟨W,aj8 SV.s<|by rw[ahw];exact DG.symm⟩,⟨W,aj8 SV.i<|by rw[adZ]⟩,U⟩ ?_
 intro j l;refine cv W W ?_ ?_<;>intro g;obtain⟨i,rfl⟩:∃i,j=i+1:=⟨j-1,E⟩;have k:((i+1:Nat):Int)-1=i:=E;have d:(i:Int).toNat=i:=E;have hi:i<cs.length:=E;have h:(cs.map qt).getD i []=qt cs[i]:=gn;have e:=MZ a (cs:=cs.drop<|i+1) λc b=>hc c<|aic b;have m:(cs.drop<|i+1).length*(L+K+1)<=cs.length*(L+K+1):=ad6 _ I;rw[ajb]at f;rw[k];refine r1 W (by simp[aj,abu,d,adZ]<;>omega) ?_;refine b9 W (gZ (CB x<|cs.drop<|i+1) x e a E) W<|r1 W (by simp[aj,abu,d,adZ];omega) ?_;refine cd W (by rw[d,h];rfl) (BR (CB x (cs.drop<|i+1)*x) cs[i] (e.mul a) (hc _<|ab3 hi) E) W ?_;refine k1 W aP (aD) ?_;refine again i E E ⟨G,G,⟨W,aj8 SV.s ?_⟩,G,U⟩;rw[ad5 hi];rfl;have:j=0:=E;subst this;refine cq W W
end Go.Ai
section
namespace Go.Ai
open Go.Proofs Go.RowKit Go.Proofs.Tryz
section
variable{n:Int}{u:bw}
structure gF(n:Int)(u:bw):Prop where
 kind:u.kind=bk\/u.kind=jN\/u.kind=dO
 uI:¬jO u (J2 u) (Bq u)
 feed:∀f∈u.ai,0<=f.sh/\f.sh<n/\aV f.dQ=0/\bp f.dQ≠0
 out:1<=u.out/\u.out<n
 k:aV u.k=0
 c8:∀c∈u.c8,aV c=0
def PT{f:GJ}(h:mJ n f=0):0<=f.sh/\f.sh<n/\aV f.dQ=0/\bp f.dQ≠0:=by
 unfold mJ at h
 grind
def pD(h:mg n u=0):gF n u:=by
 unfold mg at h;split at h;cases h;split at h;cases h;rename_i d;split at h;contradiction;rename_i a;split at h;cases h;split at h;contradiction;rename_i c;refine⟨?_,d,λf b=>PT<|(a8.1 (ci)) f b,E,f8,a8.1 h⟩
 grind
def Rv:bk≠jN:=gC
def DP:bk≠dO:=gC
def J8:jN≠dO:=gC
def gF.int(h:gF n u)(a:u.kind=bk):u.ai.length=2/\u.c8=[]:=by
 have b:=h.uI;unfold jO J2 Bq at b;have c:¬u.kind=dO:=by rw[a];exact DP
 grind
def gF.add(h:gF n u)(a:u.kind=jN):1<=u.ai.length/\u.ai.length<=8/\u.c8=[]:=by
 have b:=h.uI;unfold jO J2 Bq at b;have c:¬u.kind=dO:=by rw[a];exact J8
 grind
def gF.table(h:gF n u)(a:u.kind=dO):u.ai.length=1/\1<=u.c8.length/\u.c8.length<=13:=by
 have b:=h.uI;have d:¬u.kind=bk:=by rw[a];exact DP.symm
 have c:¬u.kind=jN:=by rw[a];exact J8.symm
 unfold jO J2 Bq at b
 grind
def gF.fl(h:gF n u):u.ai.length<2^40/\u.c8.length<2^40:=by rcases h.kind with k|k|k;let⟨a,b⟩:=h.int k;rw[a,b];decide;let⟨_,a,b⟩:=h.add k;rw[b];exact⟨E,gC⟩;let⟨a,_,b⟩:=h.table k;omega
def gF.fdd{us:L bw}(h:∀u∈us,gF n u):Fdd us:=λu hu a=>by have:=((h u hu).int a).1;omega
def gF.outs{m:Nat}{us:L bw}(h:∀u∈us,gF n u)(hm:n=m):afX m us:=λu hu=>by have:=(h u hu).out;omega
def bC(n:Nat)(us:L bw):L Rat:=us.foldl (λ(o:L Rat)u=>o.set u.out.toNat<|bp u.k)<|List.replicate n 0
def OJ{us:L bw}(h:∀u∈us,aV u.k=0):∀(o:L Rat),us.foldl (λ(o:L cj)u=>o.set u.out.toNat u.k) (o.map qt)=(us.foldl (λ(o:L Rat)u=>o.set u.out.toNat<|bp u.k) o).map qt:=by
 induction us with
 |nil=>grind
 |cons u _ a=>intro o;simp;rw[<-a λv b=>h v<|by simp[b],agJ,dU<|h u I]
def HF{n:Nat}{us:L bw}(h:∀u∈us,aV u.k=0):OL n us=(bC n us).map qt:=by unfold OL oJ bC;rw[aed,<-OJ h,aiv]
def pH(n:Nat)(us:L bw):(bC n us).length=n:=by
 unfold bC;have:∀(us:L bw)(o:L _),(us.foldl (λ(o:L _)u=>o.set u.out.toNat<|bp u.k) o).length=o.length:=by
  intro us
  induction us with
  |nil=>grind
  |cons u _ a=>grind
 grind
def s6{n:Nat}{us:L bw}{A:Rat->Prop}(c:A 0)(h:∀u∈us,A<|bp u.k):∀q∈bC n us,A q:=by
 have:∀(us:L bw)(o:L _),(∀u∈us,A<|bp u.k)->(∀q∈o,A q)->∀q∈us.foldl (λ(o:L _)u=>o.set u.out.toNat<|bp u.k) o,A q:=by
  intro us
  induction us with
  |nil=>grind
  |cons u _ a=>grind
 exact this _ _ h λq b=>gn
def qF:Sz 0 1:=⟨by simp[dj],by simp[ir]⟩
def aet(n:Nat)(us:L bw)(u:bw):Rat:=CB (bp (u.ai.getD 0 default).dQ*(bC n us).getD (u.ai.getD 0 default).sh.toNat 0) (u.c8.map bp)
def conflict(n:Nat)(us:L bw)(u:bw):Prop:=u.kind=dO/\bp u.k≠aet n us u
def ym(n:Nat)(us:L bw):Prop:=∀s:Nat,1<=s->s<n->us.countP (λu=>decide (u.out=(s:Int)))=1
def aW(us:L bw):Nat:=us.countP λu=>decide (u.kind=bk)
end
open Classical in
def gg(p:fZ):Int:=
 if p.n<1\/100<p.n then 3
 else if 96<p.aa.length then 5
 else if bE (mg p.n) p.aa≠0 then bE (mg p.n) p.aa
 else if 24<p.ints.length then 5
 else if∃k∈p.ints,k<0\/p.n<=k then 10
 else if 24<aW p.aa then 5
 else if¬ym p.n.toNat p.aa then 19
 else if(aA p.aa).length<p.aa.length then 18
 else if∃u∈p.aa,conflict p.n.toNat p.aa u then 30 else 0
def acJ{l:L cj}(h:∀c∈l,aV c=0):(l.map bp).map qt=l:=by
 rw[af9]
 conv=>rhs;rw[<-List.map_id l]
 exact af3 λc hc=>dU<|h c hc
def Mz{l:L Rat}{k:Nat}(h:k<l.length):(l.map qt).getD k []=qt (l.getD k 0):=by simp_all
def rm{α:Type}{l:L α}{i:Nat}(h:i<l.length){P:α->Prop}(b:¬∃x∈l.take i,P x)(a:¬P l[i]):¬∃x∈l.take (i+1),P x:=by
 rw[adY h]
 grind
def Dv(p:fZ)(h:uC p):ab 11 [bV p] (.i<|gg p):=by
 have V:=h.aa;have E2:=h.ints;refine cx func11 W<|cU 4 [(1,.box true<|bV p)] (1<=p.n/\p.n<=100/\p.aa.length<=96/\bE (mg p.n) p.aa=0) ?_ ?_;refine ck W 15 W ?_ ?_<;>intro j;refine cm W W<|aj8 SV.i<|by unfold gg;rw[abx<|.inl j]
 refine cv W W ?_ ?_<;>intro z;refine cm W W<|aj8 SV.i<|by unfold gg;rw[abx<|.inr z]
 have e:gg p=gg p:=W
 conv at e=>rhs;unfold gg
 rw[abl E]at e;refine cv W W ?_ ?_<;>intro o;refine cm W W<|aj8 SV.i E;rw[abl E]at e;refine r0 W<|aU (λi:Nat=>[(1,.box true<|bV p),(3,.i i)]) (λi=>i<=p.aa.length/\bE (mg p.n) p.aa=bE (mg p.n) (p.aa.drop i)) (λi=>p.aa.length-i) 0 ⟨abX _,W⟩ ?_;rintro i⟨hi,f⟩;refine cv W W ?_ ?_<;>intro b;have a:i<p.aa.length:=E;have x:(i:Int).toNat=i:=E;have y:p.aa.getD i default=p.aa[i]:=az a;rw[im _ a]at f;refine fM W<|cd W (by rw[x,y];rfl) (Dt p p.aa[i]<|h.unit _<|ab3 a) W ?_;refine GW W<|cg W ?_ ?_<;>intro m;have m:mg p.n p.aa[i]≠0:=m;rw[abx m]at f;refine cm W W<|aj8 SV.i E;have m:¬mg p.n p.aa[i]≠0:=m;rw[abl m]at f;refine fM W<|aL (i+1) ⟨E,f⟩;refine r0 W<|bo ⟨E,E,E,?_⟩;rw[f,agt E];rfl;rintro⟨E1,A0,X,A⟩;obtain⟨n,hn⟩:∃n:Nat,p.n=n:=⟨p.n.toNat,E⟩;have F:∀u∈p.aa,gF p.n u:=λu hu=>pD<|a8.1 A u hu;have e:gg p=gg p:=W
 conv at e=>rhs;unfold gg
 rw[abl E,abl E,abl<|by rw[A];simp]at e;refine cU 2 [(1,.box true<|bV p)] (p.ints.length<=24/\¬∃k∈p.ints,k<0\/p.n<=k) ?_ ?_;refine cv W W ?_ ?_<;>intro j;refine cm W W<|aj8 SV.i E;rw[abl E]at e;refine r0 W<|aU (λi:Nat=>[(1,.box true<|bV p),(5,.i i)]) (λi=>i<=p.ints.length/\¬∃k∈p.ints.take i,k<0\/p.n<=k) (λi=>p.ints.length-i) 0 ⟨abX _,I⟩ ?_;rintro i⟨hi,f⟩;refine cv W W ?_ ?_<;>intro b;have a:i<p.ints.length:=E;have x:(i:Int).toNat=i:=E;have y:p.ints.getD i 0=p.ints[i]:=az a;have D:(p.ints[i]<0\/p.n<=p.ints[i])->(10:Int)=gg p:=λg=>by rw[e,abx ⟨_,ab3 a,g⟩]
 refine xf W ?_;rw[x,y];refine aI 58 W ?_ ?_<;>intro m;refine GW W<|aJ W<|aj8 SV.i<|D<|.inl m;refine xf W ?_;rw[x,y];refine cg W ?_ ?_<;>intro T;refine cm W W<|aj8 SV.i<|D<|.inr T;refine fM W<|aL (i+1) ⟨E,rm a f E⟩;rw[ad2 E]at f;refine r0 W<|bo ⟨E,f⟩;rintro⟨Z,M⟩;rw[abl E,abl M]at e;have N:p.n.toNat=n:=E;rw[N]at e;have F0:aW p.aa<=p.aa.length:=ahN;refine cU 2 [(1,.box true<|bV p)] (aW p.aa<=24/\ym n p.aa) ?_ ?_;refine cu W W (mH p h) W<|cv W W ?_ ?_<;>intro j;have j:(24:Int)<(aW p.aa:Nat):=j;refine cm W W<|aj8 SV.i E;have j:¬(24:Int)<(aW p.aa:Nat):=j;rw[abl E]at e;refine r0 W<|aU (λs:Nat=>[(1,.box true<|bV p),(6,.i s)]) (λs=>s<=n/\1<=s/\∀t:Nat,1<=t->t<s->p.aa.countP (λu=>decide (u.out=(t:Int)))=1) (λs=>n-s) 1 ⟨E,E,λt j z=>E⟩ ?_;rintro s⟨hs,J,f⟩;refine cv W W ?_ ?_<;>intro z;refine r0 W<|aU (λi:Nat=>[(1,.box true<|bV p),(6,.i s),(7,.i<|(p.aa.take i).countP λu=>decide (u.out=(s:Int))),(8,.i i)]) (λi=>i<=p.aa.length) (λi=>p.aa.length-i) 0 (abX _) ?_;intro i hi;have hc:((p.aa.take i).countP λu=>decide (u.out=(s:Int)))<=i:=ab7 ahN (by simp;omega);refine cv W W ?_ ?_<;>intro o;have a:i<p.aa.length:=E;have x:(i:Int).toNat=i:=E;have y:p.aa.getD i default=p.aa[i]:=az a;have r:((p.aa.take<|i+1).countP λu=>decide (u.out=(s:Int)))=((p.aa.take i).countP λu=>decide (u.out=(s:Int)))+(if p.aa[i].out=(s:Int)then 1 else 0):=by rw[adY a,aiR,ajI];simp
 refine fM W ?_;rw[x,y];refine cg W ?_ ?_<;>intro b;have b:p.aa[i].out=(s:Int):=b;rw[abx b]at r;refine fM W<|aL (i+1) E ⟨G,G,⟨W,aj8 SV.i<|by rw[r];omega⟩,G,U⟩;have b:¬p.aa[i].out=(s:Int):=b;rw[abl b]at r;refine fM W<|aL (i+1) E ⟨G,G,⟨W,aj8 SV.i<|by rw[r];omega⟩,G,U⟩;rw[ad2 E];refine cv W W ?_ ?_<;>intro b;refine cm W W<|cw ?_;rw[e,abx];intro g;have:=g s J E;omega;have b:p.aa.countP (λu=>decide (u.out=(s:Int)))=1:=E;refine fM W<|aL (s+1) ⟨E,E,λt g1 g2=>?_⟩
 grind
 refine r0 W<|bo ⟨E,λt g1 g2=>f t g1 E⟩;rintro⟨F1,O⟩;rw[abl E,abl λg=>g O]at e;refine ct W W (uW p h E<|gF.fdd F) W<|GW W<|cg W ?_ ?_<;>intro j;refine cm W W<|aj8 SV.i E;rw[abl E]at e;have S:∀u∈p.aa,aV u.k=0:=λu hu=>(F u hu).k;refine cu W W (yF p h n hn E<|gF.outs F hn) W ?_;rw[HF S];refine r0 W<|aU (λi:Nat=>[(1,.box true<|bV p),(9,.strs true<|(bC n p.aa).map qt),(10,.i i)]) (λi=>i<=p.aa.length/\¬∃u∈p.aa.take i,conflict n p.aa u) (λi=>p.aa.length-i) 0 ⟨abX _,I⟩ ?_;rintro i⟨hi,f⟩;refine cv W W ?_ ?_<;>intro z;have a:i<p.aa.length:=E;have x:(i:Int).toNat=i:=E;have y:p.aa.getD i default=p.aa[i]:=az a;have l:=F _<|ab3 a;refine fM W ?_;rw[x,y];refine aI 120 W ?_ ?_<;>intro o;have o:p.aa[i].kind=dO:=o;let⟨t1,t2,t3⟩:=l.table o;have f0:p.aa[i].ai.getD 0 default∈p.aa[i].ai:=aN E;let⟨b1,b2,P,b4⟩:=l.feed _ f0;have Y:=pH n p.aa;have H:∀q∈bC n p.aa,Sz q 67:=s6 (qF.mono gC) λu hu=>eU<|S u hu;have w:(p.aa[i].ai.getD 0 default).sh.toNat<(bC n p.aa).length:=E;have B:((bC n p.aa).map qt).getD (p.aa[i].ai.getD 0 default).sh.toNat []=qt ((bC n p.aa).getD (p.aa[i].ai.getD 0 default).sh.toNat 0):=Mz w;have R:=H _<|aN (d:=0) w;have hm:=gZ (bp (p.aa[i].ai.getD 0 default).dQ) ((bC n p.aa).getD (p.aa[i].ai.getD 0 default).sh.toNat 0) (eU P) R E;rw[dU P]at hm;have hh:=Kb (p.aa[i].c8.map bp) (bp (p.aa[i].ai.getD 0 default).dQ*(bC n p.aa).getD (p.aa[i].ai.getD 0 default).sh.toNat 0) (K:=67) ((eU P).mul R) (λc hc=>by obtain⟨s,hs,rfl⟩:=ab4.1 hc;exact eU<|l.c8 s hs) (by grind) (by grind)
 rw[acJ l.c8]at hh;have v:(p.aa[i].k≠qt (aet n p.aa p.aa[i]))↔conflict n p.aa p.aa[i]:=by
  unfold conflict;rw[and_iff_right o]
  conv=>lhs;rw[<-dU l.k]
  rw[ne_eq,Er]
 have C:Int.toNat 0=0:=W;refine r1 W (by simp only[aj,abu,adZ,C]<;>omega) ?_;rw[C];refine cd W (by rw[B];rfl) hm W ?_;refine fM W<|b9 W hh W<|xf W<|cg W ?_ ?_<;>intro b;refine cm W W<|cw ?_;rw[e,abx ⟨_,ab3 a,v.1 b⟩];refine fM W<|aL (i+1) ⟨E,rm a f λg=>b<|v.2 g⟩;refine xf W<|aL (i+1) ⟨E,rm a f λg=>o g.1⟩;rw[ad2 E]at f;refine cm W W<|aj8 SV.i<|by rw[e,abl f]
end Go.Ai
end
namespace Go.Ai
open Go.Proofs Go.RowKit Go.Proofs.Tryz
section
variable{m x:Int}{l:L Int}{i:Nat}
def rn{R:Q Nat->Prop}{N:Nat}{F:St->Prop}{k:L It}{l:bJ}(m:Nat){a:L It}{l':bJ}(h:run tt [] N m k l [] []=([],[],a,l'))(b:AK R prog N F a l'):AK R prog N F k l:=(pc hA hm h U W).2.2 b
def qI{α:Type}(l:L α)(i:Nat)(x:α):(l.set i x).length=l.length:=ahy
def GZ(h:i<l.length):(l.set i x).getD i 0=x:=by simp_all
def getD_set_ne{j:Nat}(h:i≠j):(l.set i x).getD j 0=l.getD j 0:=by simp_all
def BX(l:L Int)(m:Int):Prop:=∀x∈l,0<=x/\x<=m
def BX.getD(h:BX l m)(hm:0<=m)(i:Nat):0<=l.getD i 0/\l.getD i 0<=m:=by rcases aef i _ with g|g;exact h _<|aN g;grind
def BX.set(h:BX l m)(b:0<=x/\x<=m):BX (l.set i x) m:=by intro y a;rcases ajs a with a|rfl;exact h y a;exact b
def BX.mono{n:Int}(h:BX l m)(hn:m<=n):BX l n:=λx a=>⟨(h x a).1,agH (h x a).2 hn⟩
def BX.rep(n:Nat)(h:0<=m):BX (List.replicate n 0) m:=λx a=>gn
def iI(u:bw):Int:=if u.kind=dO then max 1 ((u.c8.length:Int)-1)else 1
def jI(u:bw)(dg:L Int)(f:GJ):L Int:=dg.set u.out.toNat<|max (dg.getD u.out.toNat 0)<|dg.getD f.sh.toNat 0*iI u
def qk(us:L bw)(dg:L Int)(i:Int):L Int:=if(us.getD i.toNat default).kind=bk then dg else(us.getD i.toNat default).ai.foldl (jI<|us.getD i.toNat default) dg
def F5(us:L bw)(dM:Int):L Int->L Int->Q (L Int)
 |[],dg=>some dg
 |i::r,dg=>if dM<(qk us dg i).getD (us.getD i.toNat default).out.toNat 0 then none else F5 us dM r (qk us dg i)
def fu(us:L bw)(n i:Nat):L Int:=(us.take i).foldl (λ(dg:L Int)u=>if u.kind=bk then dg.set u.out.toNat 1 else dg)<|(List.replicate n 0).set 0 1
def jo{us:L bw}{n:Nat}(h:i<us.length):fu us n (i+1)=if us[i].kind=bk then(fu us n i).set us[i].out.toNat 1 else fu us n i:=by unfold fu;rw[adY h,ahm];rfl
def pr(us:L bw)(n:Nat):∀i,i<=us.length->(fu us n i).length=n/\BX (fu us n i) 6
 |0,_=>⟨by simp[fu],(BX.rep n gC).set gC⟩
 |i+1,h=>by let⟨b,a⟩:=pr us n i E;rw[jo E];split;exact⟨by rw[qI];exact b,a.set gC⟩;grind
def jS(u:bw)(dg rt:L Int)(f:GJ):L Int:=rt.set u.out.toNat<|max (rt.getD u.out.toNat 0)<|rt.getD f.sh.toNat 0+dg.getD f.sh.toNat 0-1
def LN(u:bw)(dg rt:L Int):L Int:=(bU u).foldl (jS u dg) rt
def uf(u:bw)(dg rt:L Int):L Int:=if u.kind=dO then rt.set u.out.toNat (rt.getD u.out.toNat 0+dg.getD u.out.toNat 0)else rt
def qK(u:bw)(dg rt:L Int):L Int:=if u.kind=bk then rt.set u.out.toNat (rt.getD u.out.toNat 0+dg.getD (u.ai.getD 0 default).sh.toNat 0)else rt
def uO(us:L bw)(dg rt:L Int)(i:Int):L Int:=qK (us.getD i.toNat default) dg<|uf (us.getD i.toNat default) dg<|LN (us.getD i.toNat default) dg rt
def JF(us:L bw)(dM:Int)(dg:L Int):L Int->L Int->Q (L Int)
 |[],rt=>some rt
 |i::r,rt=>if dM<(uO us dg rt i).getD (us.getD i.toNat default).out.toNat 0 then none else JF us dM dg r (uO us dg rt i)
def Pz(us:L bw)(n:Nat):Bool:=match F5 us 6 (aA us) (fu us n us.length)with
 |none=>false
 |some dg=>(JF us 6 dg (aA us)<|List.replicate n 0).isSome
def H7:∀{us:L bw}(k:Nat){out:L Int},out.Nodup->(∀x∈out,0<=x/\x<us.length)->∀x∈fD us k out,0<=x/\x<us.length
 |us,0,out,_,h=>h
 |us,k+1,out,hn,h=>by rw[fD];split;exact h;rename_i g;let⟨b,a⟩:=zr hn h g;exact H7 k b a
def Cr:∀{us:L bw}(k:Nat){out:L Int},out.Nodup->(∀x∈out,0<=x/\x<us.length)->(fD us k out).Nodup
 |us,0,out,hn,_=>hn
 |us,k+1,out,hn,h=>by rw[fD];split;exact hn;rename_i g;let⟨b,a⟩:=zr hn h g;exact Cr k b a
def fo{us:L bw}:∀x∈aA us,0<=x/\x<us.length:=H7 _ aee I
def zw(us:L bw):(aA us).Nodup:=Cr _ aee I
def xO(us:L bw):(aA us).length<=us.length:=zu (zw _) fo
end
structure Sys where
 names:List cj
 bq:List (List aZ)
 start:List fG
def aaF(s:Sys):SV:=.agg [.strs false s.names,oE false s.bq,aj2 s.start]
def Bk(l:L (L aZ)):Int:=bE jY l
def J5(s:Sys)(sh:L (L aZ)){V K:Nat}(h:∀p∈sh++s.bq,(∀u∈p,Dy V K u)/\p.length<2^50)(hl:sh.length+s.bq.length<2^40)(f:K<2^36):
 ab 15 [aaF s,oE false sh] (.i<|Bk<|sh++s.bq):=by
 refine cx func15 W<|k1 W aP (by simp[aj,abu,len,adZ];refine⟨λx=>rfl,λx=>rfl,?_,λx=>rfl,λx=>rfl,?_⟩<;>omega) ?_;refine loop (λi:Nat=>[(5,oE true<|sh++s.bq),(6,.i i)]) (λi=>i<=(sh++s.bq).length/\Bk (sh++s.bq)=Bk ((sh++s.bq).drop i)) (λi=>(sh++s.bq).length-i) 0 ⟨abX _,W⟩
  ⟨⟨W,W,W,by rw[dA,adW];exact lB.refl _⟩,G,U⟩ ?_
 rintro i⟨hi,b⟩;have d:(sh++s.bq).length=sh.length+s.bq.length:=ad9;refine cv W W ?_ ?_<;>intro g;have a:i<(sh++s.bq).length:=E;have e:(i:Int).toNat=i:=E;have j:(sh++s.bq).getD i default=(sh++s.bq)[i]:=az a;unfold Bk at b⊢;rw[im _ a]at b;let⟨g1,g2⟩:=h _<|ab3 a;refine r1 W (by simp[aj,abu,e]<;>omega) ?_;refine cl W (by rw[e,j];rfl) (Dk (sh++s.bq)[i] g1 g2 f) W ?_;refine cv W W ?_ ?_<;>intro c;have c:jY (sh++s.bq)[i]≠0:=c;rw[abx c]at b;refine cm W W<|aj8 SV.i b.symm;have c:¬jY (sh++s.bq)[i]≠0:=c;rw[abl c]at b;refine r1 W bg<|aL (i+1) ⟨E,b⟩;refine cm W W<|cw ?_;rw[b,agt E];rfl
def wa(l:L (L aZ)):cz (l.map λp=>(c7 false p).den)=true:=pf (by intro x a;obtain⟨p,-,rfl⟩:=ab4.1 a;rfl)
def KT{wh:Bool}(bq:List (List aZ))(p:List aZ){V K L:Nat}(l:∀u∈p,Dy V L u)(d:p.length<2^40)(h:abc V K bq p)(x:bq.length<2^20)(z:bq.length<V)(t:V<2^20)(f:K+K+1<2^34)(n:L+3<2^34):
 yw prog 70 0 wh (oE true bq) [c7 false p] (c7 false<|ke bq p):=by
 refine yw.of (sz:=1) (X:=bq.map λp=>(c7 false p).den) W (wa bq) W I λk r o b=>?_;rw[adZ]at b;refine ns (fn:=Tryz.f70) func70 W W W W W<|cu W W (sy p 0 (V:=V) (K:=K) (L:=L) l h.d0 E d f n) W<|cp W (λi:Nat=>[(0,.pv (·=k)),(500,.abs<|JL (.list .own 1 (bq.map λp=>(c7 false p).den)) k r o),(1,c7 false p),(5,c7 false<|jM bq p i),(6,.i i)]) (λi=>i<=bq.length) (λi=>bq.length-i) 0 (abX _) ⟨G,W,G,G,G,U⟩ ?_;intro i hi;refine r0 W<|oA W W W (WV (P:=prog) W W underlying36 b) W<|cv W W ?_ ?_<;>intro q;have a:i<bq.length:=E;have w:(i:Int)+1=((i+1:Nat):Int):=E;have v:bq.getD i []=bq[i]:=az a;have c:=h.d i a;let⟨j,g⟩:=h.r i a;have s:=h.a i a;have hm:=h.m i a;have e:(jM bq p i++jG (uz p<|i+1) (bq.getD i [])).length<2^40:=by
  rw[ad9];have q:(jM bq p i).length<2^30:=by
   cases i with
   |zero=>exact h.d0.norm.2
   |succ i=>exact(h.a i E).norm.2
  have A:=hm.norm.2;unfold jG;omega
 rw[ad9]at e;refine r1 W bg<|cd W (by rw[w];rfl) (sy p (i+1) (V:=V) (K:=K) (L:=L) l c E d f n) W ?_;refine r0 W<|ry W W W (PJ (P:=prog) (m:=i) W underlying36 (eQ hA W) a b) W<|zO W W (EY (y:=(c7 false<|bq.getD i []).den) (eQ hA W) (wa bq) (by rw[ahB,ad7 a,v];rfl) W) W W ?_;refine b9 W (rj (uz p<|i+1) (bq.getD i []) (V:=V) (K:=K) (L:=K) (M:=K) c.norm.1 j hm (by have:=c.norm.2;unfold uz;omega) g E f E) W ?_;refine b9 W (nJ (jM bq p i) (jG (uz p<|i+1)<|bq.getD i []) (V:=V) (K:=K) s e f) W<|k1 W aP bg<|again (i+1) E E ⟨G,W,G,G,G,U⟩;have:i=bq.length:=E;subst this;refine r0 W<|LM [(4,c7 false<|jM bq p bq.length),(500,.abs<|JL (.list .own 1 (bq.map λp=>(c7 false p).den)) k r o)] ⟨ak,W,U⟩ W (aB.refl _) ⟨G,U⟩
def JM(s:cj):ab 64 [.s s] (fc ⟨s,s⟩):=enter func64 W W W W<|cq W W
def fN(us:L bw)(i:Nat):Nat:=aW<|us.take i
def ny{us:L bw}{i:Nat}(h:i<us.length):fN us (i+1)=fN us i+if us[i].kind=bk then 1 else 0:=by unfold fN aW;rw[adY h];grind
def DS(us:L bw)(i:Nat):fN us i<=aW us:=List.Sublist.countP_le<|List.take_sublist _ _
def A3(n m:Nat):L (L aZ):=(List.replicate n []).set 0 (iN 0 m)
def DA(us:L bw)(n m:Nat):Nat->L (L aZ)
 |0=>A3 n m
 |i+1=>if(us.getD i default).kind=bk then(DA us n m i).set (us.getD i default).out.toNat (iN (fN us<|i+1) m)else DA us n m i
def Dg(us:L bw)(i:Nat):L Int:=(List.range i).map λj=>(fN us j:Int)
def lh(us:L bw)(i:Nat):L cj:=(List.range<|fN us i).map λ(j:Nat)=>122::b7 ((j:Int)+1)
def kX(us:L bw):Nat->L fG
 |0=>[]
 |i+1=>if(us.getD i default).kind=bk then kX us i++[⟨(us.getD i default).k,(us.getD i default).k⟩]else kX us i
def Ib(us:L bw)(i:Nat):Dg us (i+1)=Dg us i++[(fN us i:Int)]:=by unfold Dg;rw[ahs,adW];rfl
def xE(us:L bw):∀i,(kX us i).length<=i
 |0=>.refl
 |i+1=>by have:=xE us i;rw[kX];grind
def oL(us:L bw)(n m:Nat):∀i,(DA us n m i).length=n
 |0=>by simp[DA,A3]
 |i+1=>by have:=oL us n m i;rw[DA];grind
def fg(sh:L (L aZ))(st:L Rat)(u:bw):Nat->L aZ×Rat
 |0=>([],bp u.k)
 |i+1=>(vQ (fg sh st u i).1<|iU (bp (u.ai.getD i default).dQ)<|sh.getD (u.ai.getD i default).sh.toNat [],
   (fg sh st u i).2-bp (u.ai.getD i default).dQ*st.getD (u.ai.getD i default).sh.toNat 0)
def Dw(sh:L (L aZ))(st:L Rat)(m:Nat)(u:bw):L aZ:=vQ (fg sh st u u.ai.length).1<|cZ (fg sh st u u.ai.length).2 m
def lY(sh:L (L aZ))(u:bw):L aZ:=iU (bp (u.ai.getD 0 default).dQ)<|sh.getD (u.ai.getD 0 default).sh.toNat []
def jj(m:Nat)(x:L aZ)(cs:L Rat):L aZ:=cs.foldr (λa s=>vQ (jG s x)<|cZ a m) []
def Vl(sh:L (L aZ))(m:Nat)(u:bw):L aZ:=jj m (lY sh u)<|u.c8.map bp
def mu(us:L bw)(st:L Rat)(m:Nat)(sh:L (L aZ))(o:Int):L (L aZ):=
 if(us.getD o.toNat default).kind=jN then sh.set (us.getD o.toNat default).out.toNat (Dw sh st m<|us.getD o.toNat default)
 else if(us.getD o.toNat default).kind=dO then sh.set (us.getD o.toNat default).out.toNat (Vl sh m<|us.getD o.toNat default)else sh
def fB(us:L bw)(n m k:Nat):L (L aZ):=((aA us).take k).foldl (mu us (bC n us) m)<|DA us n m us.length
def mb(us:L bw)(n m:Nat):L (L aZ):=fB us n m (aA us).length
def yW(sh bq:L (L aZ))(u:bw):L aZ:=iU (bp (u.ai.getD 0 default).dQ*bp (u.ai.getD 1 default).dQ) (jG (sh.getD (u.ai.getD 0 default).sh.toNat [])<|ke bq<|sh.getD (u.ai.getD 1 default).sh.toNat [])
def qJ(us:L bw)(sh bq:L (L aZ))(o:Int):L (L aZ):=if(us.getD o.toNat default).kind=bk then bq.set (fN us o.toNat) (yW sh bq<|us.getD o.toNat default)else bq
def fI(us:L bw)(n m k:Nat):L (L aZ):=((aA us).take k).foldl (qJ us<|mb us n m)<|List.replicate m []
def A7(us:L bw)(n m:Nat):L (L aZ):=fI us n m (aA us).length
def Ck(us:L bw)(n m:Nat):Sys:=⟨lh us us.length,A7 us n m,kX us us.length⟩
def mY{us:L bw}{n m k:Nat}(h:k<(aA us).length):fB us n m (k+1)=mu us (bC n us) m (fB us n m k) (aA us)[k]:=by unfold fB;rw[adY h,ahm];rfl
def xJ{us:L bw}{n m k:Nat}(h:k<(aA us).length):fI us n m (k+1)=qJ us (mb us n m) (fI us n m k) (aA us)[k]:=by unfold fI;rw[adY h,ahm];rfl
def OS(us:L bw)(st:L Rat)(m:Nat)(sh:L (L aZ))(o:Int):(mu us st m sh o).length=sh.length:=by unfold mu;grind
def ic(us:L bw)(n m k:Nat):(fB us n m k).length=n:=by
 have:∀(l:L _)(sh:List _),(l.foldl (mu us (bC n us) m) sh).length=sh.length:=by
  intro l
  induction l with
  |nil=>grind
  |cons o l a=>intro sh;rw[agf,a,OS]
 unfold fB;rw[this,oL]
def kn(us:L bw)(n m k:Nat):(fI us n m k).length=m:=by
 have:∀(l:L _)(r:List _),(l.foldl (qJ us<|mb us n m) r).length=r.length:=by
  intro l
  induction l with
  |nil=>grind
  |cons o l a=>intro sh;rw[agf,a];unfold qJ;grind
 unfold fI;grind
structure GM(V K L:Nat)(sh:List (List aZ))(st:List Rat)(m:Nat)(u:bw):Prop where
 JA:∀f∈u.ai,uA V K<|kP (bp f.dQ)<|sh.getD f.sh.toNat []
 sum:∀i,i<u.ai.length->uA V K ((fg sh st u i).1++iU (bp (u.ai.getD i default).dQ) (sh.getD (u.ai.getD i default).sh.toNat []))
 num:∀i,i<=u.ai.length->Sz (fg sh st u i).2 L
 fin:uA V K ((fg sh st u u.ai.length).1++cZ (fg sh st u u.ai.length).2 m)
structure GF(V K:Nat)(sh:List (List aZ))(m:Nat)(u:bw):Prop where
 JA:uA V K (kP (bp (u.ai.getD 0 default).dQ)<|sh.getD (u.ai.getD 0 default).sh.toNat [])
 mul:∀i,i<u.c8.length->uA V K (iH (jj m (lY sh u)<|(u.c8.map bp).drop<|i+1)<|lY sh u)
 sum:∀i,i<u.c8.length->uA V K (jG (jj m (lY sh u)<|(u.c8.map bp).drop<|i+1) (lY sh u)++cZ (bp<|u.c8.getD i []) m)
structure GH(V K:Nat)(sh bq:List (List aZ))(u:bw):Prop where
 al:abc V K bq (sh.getD (u.ai.getD 1 default).sh.toNat [])
 along:(∀t∈ke bq (sh.getD (u.ai.getD 1 default).sh.toNat []),Dy V K t)/\(ke bq<|sh.getD (u.ai.getD 1 default).sh.toNat []).length<2^30
 mul:uA V K (iH (sh.getD (u.ai.getD 0 default).sh.toNat [])<|ke bq<|sh.getD (u.ai.getD 1 default).sh.toNat [])
 JA:uA V K (kP (bp (u.ai.getD 0 default).dQ*bp (u.ai.getD 1 default).dQ)<|jG (sh.getD (u.ai.getD 0 default).sh.toNat [])<|ke bq<|sh.getD (u.ai.getD 1 default).sh.toNat [])
structure Yy(V K L:Nat)(us:List bw)(n m:Nat):Prop where
 sh:∀k,k<=(aA us).length->∀p∈fB us n m k,(∀u∈p,Dy V K u)/\p.length<2^30
 rt:∀k,k<=(aA us).length->∀p∈fI us n m k,(∀u∈p,Dy V K u)/\p.length<2^30
 add:∀k(h:k<(aA us).length),(us.getD (aA us)[k].toNat default).kind=jN->GM V K L (fB us n m k) (bC n us) m (us.getD (aA us)[k].toNat default)
 c8:∀k(h:k<(aA us).length),(us.getD (aA us)[k].toNat default).kind=dO->GF V K (fB us n m k) m (us.getD (aA us)[k].toNat default)
 aeW:∀k(h:k<(aA us).length),(us.getD (aA us)[k].toNat default).kind=bk->GH V K (mb us n m) (fI us n m k) (us.getD (aA us)[k].toNat default)
def CM(s:Sys):SV:=.agg [.strs true s.names,oE true s.bq,.bm true 2 default fc s.start]
def rdI(p:fZ)(n m i:Nat):L (Nat×SV):=[(1,.box true<|bV p),(2,.box true<|.agg [.nil,.nil,.nil]),(4,.i m),(5,oE true<|DA p.aa n m i),(6,.strs true<|(bC n p.aa).map qt),(7,.box true<|CM ⟨lh p.aa i,List.replicate m [],kX p.aa i⟩),(8,gu<|Dg p.aa i),(9,.i i)]
def rdK(p:fZ)(n m:Nat)(sh:L (L aZ))(k:Nat):L (Nat×SV):=[(1,.box true<|bV p),(2,.box true<|.agg [.nil,.nil,.nil]),(4,.i m),(5,oE true sh),(6,.strs true<|(bC n p.aa).map qt),(7,.box true<|CM ⟨lh p.aa p.aa.length,List.replicate m [],kX p.aa p.aa.length⟩),(8,gu<|Dg p.aa p.aa.length),(11,gu<|aA p.aa),(12,.i k)]
def O4(p:fZ)(h:uC p)(n m:Nat)(hn:p.n=n)(hm:m=aW p.aa)(V0:0<n)(T0:n<=100)(M2:p.aa.length<=96)(hv:∀u∈p.aa,gF p.n u){K L:Nat}(hR:Yy (m+1) K L p.aa n m)(hK:K+K+1<2^34)(hL:L+135<2^34)(hKL:L<=K):
 ab 14 [bV p] (.de [aaF<|Ck p.aa n m,oE true<|mb p.aa n m]):=by
 have hl:=h.aa;have V1:m<=p.aa.length:=by rw[hm];exact ahN
 refine cx func14 W<|cU 3 [(1,.box true<|bV p),(2,.box true<|.agg [.nil,.nil,.nil]),(4,.i m),(5,oE true<|List.replicate n [])] True ?_ λ_=>?_;refine cu W W (mH p h) W<|fM W<|afa () U ⟨ak,ak,⟨W,W,.le<|aj8 SV.i<|by rw[hm];rfl⟩,⟨W,W,?_⟩,U⟩;refine .row ?_;rw[hn,aiv];exact mS.rep (x:=.nil) (y:=c7 false []) (.le W) n;refine cu W W (uD 0 m (abX _) E) W<|r1 W (io) ?_;refine b8 W (yF p h n hn E<|gF.outs hv hn) W<|r1 W (io) ?_;rw[HF λu hu=>(hv u hu).k];refine vm (rdI p n m 0)
  ⟨ak,ak,ak,⟨W,W,.row ?_⟩,ak,⟨W,W,.box<|.agg<|.cons (.le W)<|.cons (.row ?_)<|.cons (.le W) .nil⟩,⟨W,W,.le W⟩,ak,U⟩ ?_
 rw[DA,A3,agJ];exact mS.refl _;show mS (List.replicate (m:Int).toNat .nil) (List.map (c7 false)<|List.replicate m []);rw[aiv,show(m:Int).toNat=m from E];exact mS.rep (x:=.nil) (y:=c7 false []) (.le W) m;have H3:∀i,fN p.aa i<=m:=λi=>hm▸DS p.aa i;refine aU (λi:Nat=>rdI p n m i) (λi=>i<=p.aa.length) (λi=>p.aa.length-i) 0 (abX _) ?_;intro i hi;have B:(lh p.aa i).length=fN p.aa i:=by simp[lh]
 have H1:(Dg p.aa i).length=i:=by simp[Dg]
 refine cv W W ?_ ?_<;>intro h1;have w:i<p.aa.length:=E;have ei:(i:Int).toNat=i:=E;have eg:p.aa.getD i default=p.aa[i]:=az w;have a:=ny w;have S1:=xE p.aa i;have hu:=hv _<|ab3 w;have l:=H3<|i+1;have G0:=hu.out;refine r1 W (by simp only[aj,abu,ei,len,H1,acC,ad1]<;>omega) ?_;rw[ei,eg];refine cg W ?_ ?_<;>intro b;have b:p.aa[i].kind=bk:=b;rw[abx b]at a;refine r1 W (by simp only[aj,abu,B]<;>omega) ?_;have W1:=jZ ((fN p.aa i:Int)+1) (k:=3)<|eH E;refine cd W (by rw[B];rfl) (xh ((fN p.aa i:Int)+1) E) W ?_;rw[pN];refine k1 W aP (by simp only[aj,abu,len,B,acC,ad1,ad9]<;>omega) ?_;refine b9 W (JM p.aa[i].k) W<|k1 W aP (by simp only[aj,abu,len,B,adZ,acC,ad1,ad9]<;>omega) ?_;refine UY (us:=[.i (fN p.aa (i+1):Nat),.i m]) W W U ⟨aal SV.i<|by simp only[ad9,B,acC,ad1];omega,W,U⟩ (uD (fN p.aa<|i+1) m l E) W ?_;refine k1 W aP (by simp only[aj,abu,len,B,adZ,acC,ad1,oL]<;>omega) ?_;refine kL (i+1) E E ⟨ak,ak,ak,⟨W,W,.row ?_⟩,ak,⟨W,W,.box<|.agg<|.cons (.le<|aj8 (SV.strs true) ?_)<|.cons (.refl _)<|.cons (.row ?_) .nil⟩,⟨W,W,.le<|aj8 (gu) ?_⟩,ak,U⟩;rw[DA,eg,abx b,agJ];exact mS.refl _;rw[lh,lh,a,ahs,adW];rfl;rw[kX,eg,abx b,dA,adW];exact mS.refl _;rw[Ib,B];have b:¬p.aa[i].kind=bk:=b;rw[abl b]at a;refine fM W<|again (i+1) E E ⟨G,G,G,⟨W,aj8 (oE true) ?_⟩,G,⟨W,aj8 (λs=>SV.box true<|CM s) ?_⟩,⟨W,aj8 (gu) ?_⟩,G,U⟩;rw[DA,eg,abl b];rw[lh,lh,a,kX,eg,abl b];rfl;rw[Ib,B];have Bq:i=p.aa.length:=E;subst Bq;have S4:=xO p.aa;have H6:=pH n p.aa;have G1:∀q∈bC n p.aa,Sz q 67:=s6 (qF.mono gC) λu hu=>eU (hv u hu).k;refine cu W W (uW p h E<|gF.fdd hv) W<|r0 W<|aU (λk:Nat=>rdK p n m (fB p.aa n m k) k) (λk=>k<=(aA p.aa).length) (λk=>(aA p.aa).length-k) 0 (abX _) ?_;intro k hk;refine cv W W ?_ ?_<;>intro h1;have c:k<(aA p.aa).length:=E;have ek:(k:Int).toNat=k:=E;have F:(aA p.aa).getD k 0=(aA p.aa)[k]:=az c;let⟨o1,o2⟩:=fo _<|ab3 c;have a:=mY (n:=n) (m:=m) c;have X:=hR.add k c;have R:=hR.c8 k c;have A0:=hR.sh k hk;have A:=ic p.aa n m k;obtain⟨o,eo⟩:∃o,(aA p.aa)[k]=o:=⟨_,W⟩;rw[eo]at F o1 o2 a X R;have v:p.aa.getD o.toNat default∈p.aa:=aN E;unfold mu at a;obtain⟨u,eu⟩:∃u,p.aa.getD o.toNat default=u:=⟨_,W⟩;rw[eu]at v a X R;have hu:=hv _ v;have G0:=hu.out;have S0:=h.unit _ v;refine k1 W aP (by simp only[aj,abu,ek,F]<;>omega) ?_;rw[ek,F,eu];generalize fB p.aa n m k=sh at*;have C:∀f∈u.ai,(∀t∈sh.getD f.sh.toNat [],Dy (m+1) K t)/\(sh.getD f.sh.toNat []).length<2^30:=λf Z=>zaS
 refine cg W ?_ ?_<;>intro b;have b:u.kind=jN:=b;rw[abx b]at a;have z:=X b;have X2:=(hu.add b).2.1;refine cp W (λi:Nat=>(13,.box true<|fb u)::(14,.s<|qt (fg sh (bC n p.aa) u i).2)::(15,c7 false (fg sh (bC n p.aa) u i).1)::(16,.i i)::rdK p n m sh k)
  (λi=>i<=u.ai.length) (λi=>u.ai.length-i) 0 (abX _) ⟨G,⟨W,aj8 SV.s (dU hu.k).symm⟩,G,G,G,G,G,G,G,G,G,G,G,U⟩ ?_
 intro i hi;have P0:(fg sh (bC n p.aa) u i).1.length<2^30:=by
  cases i with
  |zero=>simp[fg]
  |succ i=>exact(z.sum i E).norm.2
 refine cv W W ?_ ?_<;>intro Y;have w:i<u.ai.length:=E;have ei:(i:Int).toNat=i:=E;have H:u.ai.getD i default=u.ai[i]:=az w;have Z:=hu.feed _<|ab3 w;let⟨g1,g2⟩:=C _<|ab3 w;have N:=z.JA _<|ab3 w;have J:=z.sum i w;have L0:=z.num i hi;have S:fg sh (bC n p.aa) u (i+1)=(vQ (fg sh (bC n p.aa) u i).1<|iU (bp u.ai[i].dQ)<|sh.getD u.ai[i].sh.toNat [],(fg sh (bC n p.aa) u i).2-bp u.ai[i].dQ*(bC n p.aa).getD u.ai[i].sh.toNat 0):=by rw[fg,H]
 rw[H]at J;obtain⟨f,ef⟩:∃f,u.ai[i]=f:=⟨_,W⟩;rw[ef]at Z g1 g2 N J S H;have hq:=G1 _<|aN (d:=0)<|show f.sh.toNat<(bC n p.aa).length from E;have l:=ox (bp f.dQ) (sh.getD f.sh.toNat []) (V:=m+1) (K:=K) (L:=67) (eU Z.2.2.1) g1 N E hK E;rw[dU Z.2.2.1]at l;have H5:=gZ (bp f.dQ) ((bC n p.aa).getD f.sh.toNat 0) (eU Z.2.2.1) hq E;rw[dU Z.2.2.1]at H5;refine r1 W (by simp only[aj,abu,ei,H,A]<;>omega) ?_;rw[ei,H];refine b9 W l W<|fM W<|b9 W (nJ (fg sh (bC n p.aa) u i).1 (iU (bp f.dQ)<|sh.getD f.sh.toNat []) (V:=m+1) (K:=K) J (by have:=N.norm.2;unfold iU;omega) hK) W ?_;refine k1 W aP (by simp only[aj,abu,adZ,H6]<;>omega) ?_;refine cd W (by rw[Mz E];rfl) H5 W ?_;refine fM W<|b9 W (HE (fg sh (bC n p.aa) u i).2 (bp f.dQ*(bC n p.aa).getD f.sh.toNat 0) L0 ((eU Z.2.2.1).mul hq) E) W<|xf W<|again (i+1) E E ⟨G,⟨W,aj8 SV.s<|by rw[S]⟩,⟨W,aj8 (c7 false)<|by rw[S]⟩,G,G,G,G,G,G,G,G,G,G,U⟩;have:i=u.ai.length:=E;subst this;have H2:=z.fin;have M1:(cZ (fg sh (bC n p.aa) u u.ai.length).2 m).length<=1:=i7
 refine ct W W (vI (fg sh (bC n p.aa) u u.ai.length).2 m E) W<|fM W<|b9 W (nJ (fg sh (bC n p.aa) u u.ai.length).1 (cZ (fg sh (bC n p.aa) u u.ai.length).2 m) (V:=m+1) (K:=K) H2 E hK) W<|xf W<|kL (k+1) E E ⟨ak,ak,ak,⟨W,W,.row ?_⟩,ak,ak,ak,ak,ak,U⟩;rw[a,agJ];exact mS.refl _;have b:¬u.kind=jN:=b;rw[abl b]at a;refine cv W W ?_ ?_<;>intro Y;have Y:u.kind=dO:=Y;rw[abx Y]at a;have z:=R Y;let⟨t1,t2,t3⟩:=hu.table Y;have P:Int.toNat 0=0:=W;have D:u.ai.getD 0 default∈u.ai:=aN E;have O:=hu.feed _ D;let⟨g1,g2⟩:=C _ D;have l:=ox (bp (u.ai.getD 0 default).dQ) (sh.getD (u.ai.getD 0 default).sh.toNat []) (V:=m+1) (K:=K) (L:=67) (eU O.2.2.1) g1 z.JA E hK E;rw[dU O.2.2.1]at l;have hX:=z.JA.norm;refine k1 W aP (by simp only[aj,abu,P,A]<;>omega) ?_;rw[P];refine b9 W l W<|xf W<|loop (λj:Nat=>(13,.box true<|fb u)::(18,c7 false<|lY sh u)::(19,c7 false<|jj m (lY sh u)<|(u.c8.map bp).drop j)::(20,.i<|(j:Int)-1)::rdK p n m sh k)
  (λj=>j<=u.c8.length) (λj=>j) u.c8.length (abY _) ⟨G,G,⟨W,?_⟩,G,G,G,G,G,G,G,G,G,G,U⟩ ?_
 rw[agt<|md];exact W;intro j hj;refine cv W W ?_ ?_<;>intro h4;obtain⟨i,rfl⟩:∃i,j=i+1:=⟨j-1,E⟩;have e1:((i+1:Nat):Int)-1=i:=E;have ei:(i:Int).toNat=i:=E;have hi:i<u.c8.length:=E;have H:u.c8.getD i []=u.c8[i]:=az hi;have N:=z.mul i hi;have J:=z.sum i hi;rw[H]at J;have L1:=hu.c8 _<|ab3 hi;have hT:(∀t∈jj m (lY sh u) ((u.c8.map bp).drop<|i+1),Dy (m+1) K t)/\(jj m (lY sh u)<|(u.c8.map bp).drop<|i+1).length<2^30:=by rcases aef (i+1) u.c8.length with g|g;have G3:=(z.sum (i+1) g).norm;rw[ad5<|by rw[adZ];exact g,ah3];have e:u.c8.getD (i+1) []=u.c8[i+1]:=az g;rw[e]at G3;exact G3;rw[agt<|by rw[adZ];exact g];exact⟨by simp[jj],by simp[jj]⟩
 have S:jj m (lY sh u) ((u.c8.map bp).drop i)=vQ (jG (jj m (lY sh u)<|(u.c8.map bp).drop<|i+1)<|lY sh u) (cZ (bp u.c8[i]) m):=by rw[ad5<|by rw[adZ];exact hi,ah3];rfl
 have H4:=vI (bp u.c8[i]) m E;rw[dU L1]at H4;have M1:(cZ (bp u.c8[i]) m).length<=1:=i7
 rw[e1];refine fM W<|b9 W (rj (jj m (lY sh u)<|(u.c8.map bp).drop<|i+1) (lY sh u) (V:=m+1) (K:=K) (L:=K) (M:=K) hT.1 hX.1 N E (by unfold lY iU;omega) E hK E) W ?_;refine fM W<|cd W (by rw[ei,H];rfl) H4 W ?_;refine fM W<|b9 W (nJ (jG (jj m (lY sh u)<|(u.c8.map bp).drop<|i+1)<|lY sh u) (cZ (bp u.c8[i]) m) (V:=m+1) (K:=K) J (by have:=N.norm.2;unfold jG;omega) hK) W ?_;refine xf W<|again i E E ⟨G,G,⟨W,aj8 (c7 false) S.symm⟩,G,G,G,G,G,G,G,G,G,G,U⟩;have:j=0:=E;subst this;rw[ahe];refine xf W<|kL (k+1) E E ⟨ak,ak,ak,⟨W,W,.row ?_⟩,ak,ak,ak,ak,ak,U⟩;rw[a,agJ];exact mS.refl _;have Y:¬u.kind=dO:=Y;rw[abl Y]at a;refine fM W<|again (k+1) E E ⟨G,G,G,⟨W,aj8 (oE true) a.symm⟩,G,G,G,G,G,U⟩;have:k=(aA p.aa).length:=E;subst this;have A:=ic p.aa n m (aA p.aa).length;have A0:=hR.sh _<|abY _;have F0:=hR.aeW;have K0:=hR.rt;have G2:fB p.aa n m (aA p.aa).length=mb p.aa n m:=W;rw[G2]at A A0⊢;refine r0 W<|aU (λk:Nat=>[(1,.box true<|bV p),(2,.box true<|.agg [.nil,.nil,.nil]),(5,oE true<|mb p.aa n m),(7,.box true<|CM ⟨lh p.aa p.aa.length,fI p.aa n m k,kX p.aa p.aa.length⟩),(8,gu<|Dg p.aa p.aa.length),(11,gu<|aA p.aa),(21,.i k)]) (λk=>k<=(aA p.aa).length) (λk=>(aA p.aa).length-k) 0 (abX _) ?_;intro k hk;refine cv W W ?_ ?_<;>intro h1;have c:k<(aA p.aa).length:=E;have ek:(k:Int).toNat=k:=E;have F:(aA p.aa).getD k 0=(aA p.aa)[k]:=az c;let⟨o1,o2⟩:=fo _<|ab3 c;have a:=xJ (n:=n) (m:=m) c;have F1:=F0 k c;have S2:=K0 k hk;have K2:=kn p.aa n m k;obtain⟨o,eo⟩:∃o,(aA p.aa)[k]=o:=⟨_,W⟩;rw[eo]at F o1 o2 a F1;have v:p.aa.getD o.toNat default∈p.aa:=aN E;unfold qJ at a;have G4:(p.aa.getD o.toNat default).kind=bk->fN p.aa o.toNat<m:=by intro g;have b:=ny (us:=p.aa) (i:=o.toNat) E;rw[az<|show o.toNat<p.aa.length from E]at g;rw[abx g]at b;have:=H3<|o.toNat+1;omega
 have T:(Dg p.aa p.aa.length).getD o.toNat 0=(fN p.aa o.toNat:Int):=by rw[Dg,ad8,ahB,List.getElem?_range E];rfl
 have F2:(Dg p.aa p.aa.length).length=p.aa.length:=by simp[Dg]
 obtain⟨u,eu⟩:∃u,p.aa.getD o.toNat default=u:=⟨_,W⟩;rw[eu]at v a F1 G4;have hu:=hv _ v;have G0:=hu.out;refine xf W ?_;rw[ek,F,eu];generalize fI p.aa n m k=E2 at*;generalize mb p.aa n m=sh at*;have C:∀f∈u.ai,(∀t∈sh.getD f.sh.toNat [],Dy (m+1) K t)/\(sh.getD f.sh.toNat []).length<2^30:=λf Z=>zaS
 refine cg W ?_ ?_<;>intro b;have b:u.kind=bk:=b;rw[abx b]at a;have z:=F1 b;have P1:=G4 b;have hf2:=(hu.int b).1;have P:Int.toNat 0=0:=W;have F4:Int.toNat 1=1:=W;have D:u.ai.getD 0 default∈u.ai:=aN E;have O:=hu.feed _ D;have E1:u.ai.getD 1 default∈u.ai:=aN E;have F3:=hu.feed _ E1;let⟨g1,g2⟩:=C _ D;let⟨g3,g4⟩:=C _ E1;have l:=gZ (bp (u.ai.getD 0 default).dQ) (bp (u.ai.getD 1 default).dQ) (eU O.2.2.1) (eU F3.2.2.1) E;rw[dU O.2.2.1,dU F3.2.2.1]at l;have V2:(fN p.aa o.toNat:Int).toNat=fN p.aa o.toNat:=E;refine xf W ?_;rw[P,F4];refine b9 W l W<|k1 W aP (by simp only[aj,abu,P,F4,ek,F,T,F2,A,K2]<;>omega) ?_;rw[ek,F,P,F4,T];refine cqd 0 W W (KT E2 (sh.getD (u.ai.getD 1 default).sh.toNat []) (V:=m+1) (K:=K) (L:=K) g3 E z.al E E E hK E) W<|fM W<|b9 W (rj (sh.getD (u.ai.getD 0 default).sh.toNat []) (ke E2<|sh.getD (u.ai.getD 1 default).sh.toNat []) (V:=m+1) (K:=K) (L:=K) (M:=K) g1 z.along.1 z.mul E (by have:=z.along.2;omega) E hK E) W ?_;refine fM W<|b9 W (ox (bp (u.ai.getD 0 default).dQ*bp (u.ai.getD 1 default).dQ) (jG (sh.getD (u.ai.getD 0 default).sh.toNat [])<|ke E2<|sh.getD (u.ai.getD 1 default).sh.toNat []) (V:=m+1) (K:=K) (L:=134) ((eU O.2.2.1).mul<|eU F3.2.2.1) z.mul.norm.1 z.JA (by have:=z.mul.norm.2;unfold jG;omega) hK E) W ?_;refine xf W<|kL (k+1) E E ⟨ak,ak,ak,⟨W,W,.box<|.agg<|.cons (.refl _)<|.cons (.row ?_)<|.cons (.refl _) .nil⟩,ak,ak,ak,U⟩;dsimp only;rw[a,agJ];exact mS.refl _;have b:¬u.kind=bk:=b;rw[abl b]at a;refine fM W<|again (k+1) E E ⟨G,G,G,⟨W,aj8 (λr=>SV.box true<|CM ⟨lh p.aa p.aa.length,r,kX p.aa p.aa.length⟩) a.symm⟩,G,G,G,U⟩;have:k=(aA p.aa).length:=E;subst this;refine cq W W
end Go.Ai
section
namespace Go.Ai
open Go.Proofs Go.RowKit Go.Proofs.Tryz
def oZ{p q:Rat}:wY p q<=0↔p<=q:=by
 have a:(p-q).num<=0↔0<=(-(p-q)).num:=by simp
 unfold wY;rw[Int.sign_nonpos_iff,a,ahH];grind
def LQ(q:Rat)(n m:Nat):q^(n+m)=q^n*q^m:=by grind
def Sz.pow{q:Rat}{K:Nat}(h:Sz q K):∀n,Sz (q^n) (K*n+1)
 |0=>by exact⟨by simp[ir],by simp[ir]⟩
 |n+1=>by
  have:=(Sz.pow h n).mul h
  grind
def HY(q:Rat)(n:Nat){K:Nat}(h:Sz q K)(hn:n<2^40)(u:2*(K*(2*n)+1)<2^34):ab 95 [.s<|qt q,.i n] (.s<|qt<|q^n):=by
 refine cx func95 W<|cv W W (λf=>abK f E) λ_=>?_;refine r0 W<|qQ (λ(k d e:Nat)=>[(0,.s<|qt<|q^d),(1,.i k),(5,.s<|qt<|q^e)]) (λk d e=>k<=n/\e+d*k=n/\(k=0\/d<=n)) (λk _ _=>k) n 1 0 ⟨abY _,E,E⟩
  ⟨⟨W,aj8 SV.s I⟩,G,⟨W,aj8 SV.s<|by rw[Rat.pow_zero,O9]⟩,U⟩ ?_
 rintro k d e⟨r,he,t⟩;refine cv W W ?_ ?_<;>intro f;have v:0<k:=E;have p:K*d+1<=K*(2*n)+1:=ahG (ae6 _ E) 1;have o:K*e+1<=K*(2*n)+1:=ahG (ae6 _ E) 1;have a:=(h.pow d).mono p;have l:=(h.pow e).mono o;have m:k=2*(k/2)+k%2:=E;have b:d*k=2*d*(k/2)+d*(k%2):=by grind
 have j:q^d*q^d=q^(2*d):=by rw[<-LQ];congr 1;omega
 refine r1 W bg<|cg W ?_ ?_<;>intro c;have c:k%2=1:=by omega
 rw[c,Nat.mul_one]at b;refine cu W W (gZ (q^e) (q^d) l a E) W<|cu W W (gZ (q^d) (q^d) a a E) W<|r1 W bg<|again (k/2,2*d,e+d) (ac) ⟨ac,ac,?_⟩ ⟨⟨W,aj8 SV.s<|by rw[j]⟩,G,⟨W,aj8 SV.s<|by rw[LQ]⟩,U⟩;dsimp only;rcases af8 (k/2)with g|g;exact .inl g;have:2*d<=2*d*(k/2):=ajF _ g;exact .inr E;have c:k%2=0:=by omega
 rw[c,Nat.mul_zero]at b;refine cu W W (gZ (q^d) (q^d) a a E) W<|r1 W bg<|again (k/2,2*d,e) (ac) ⟨ac,ac,?_⟩ ⟨⟨W,aj8 SV.s<|by rw[j]⟩,G,G,U⟩;dsimp only;rcases af8 (k/2)with g|g;exact .inl g;have:2*d<=2*d*(k/2):=ajF _ g;exact .inr E;have:k=0:=E;subst this;refine cm W W<|aj8 SV.s gn
def iO(n:Int):Rat:=if n<0 then((2:Rat)^(-n).toNat)⁻¹ else(2:Rat)^n.toNat
def zj(n:Nat):(0:Rat)<(2:Rat)^n:=zaJ
def wg(n:Int):0<iO n:=by unfold iO;split;exact aiS.2<|zj _;exact zj _
def yZ(n:Int):iO (n+1)=iO n*2:=by
 unfold iO;rcases ajD n (-1)with h|h|h;rw[show(-n).toNat=(-(n+1)).toNat+1 from E]
 grind
 subst h
 grind
 rw[abl E,abl E,show(n+1).toNat=n.toNat+1 from E,aje]
def lJ(n:Int)(k:Nat):iO (n+k)=iO n*(2:Rat)^k:=by
 induction k with
 |zero=>grind
 |succ k a=>rw[show n+((k+1:Nat):Int)=n+k+1 from E,yZ];grind
def Mg(n:Nat):(1:Rat)<=(2:Rat)^n:=zaJ
def pO{m n:Int}(h:m<=n):iO m<=iO n:=by
 obtain⟨k,rfl⟩:∃k:Nat,n=m+k:=⟨(n-m).toNat,E⟩;rw[lJ];have:=aiw (Mg k)<|ahh<|wg m
 grind
def ua(a:Rat)(e:Int):Prop:=iO e<=a/\¬iO (e+1)<=a
def GX{a:Rat}{e f:Int}(h:ua a e)(g:ua a f):e=f:=by rcases ajD e f with k|k|k;exact abK (aix (pO E) g.1) h.2;exact k;exact abK (aix (pO E) h.1) g.2
open Classical in
def vy(a:Rat):Int:=if h:∃e,ua a e then h.choose else 0
def jB{a:Rat}{e:Int}(h:ua a e):vy a=e:=by unfold vy;rw[dif_pos ⟨e,h⟩];exact GX (Exists.choose_spec _) h
def D8:Sz 2 1:=⟨by rw[j7 gC gC];decide,by rw[show(2:Rat).den=1 from W,ir];decide⟩
def Sz.iO(n:Int):Sz (iO n) (n.natAbs+2):=by
 unfold Go.Ai.iO;split;have:=(D8.pow (-n).toNat).inv
 grind
 exact(D8.pow _).mono E
def V7:qt 2=[50]:=by have:=pN 2;rw[show((2:Int):Rat)=2 from W]at this;rw[this];unfold b7;rw[bu gC];show decl 0 0++[XK 2]=[50];rw[dm];decide
def uS(n:Int)(h:n.natAbs<2^30):ab 25 [.i n] (.s<|qt<|iO n):=by
 refine enter func25 W W W W<|cv W W ?_ ?_<;>intro b;have e:(0:Int)-n=((-n).toNat:Nat):=E;have a:=HY 2 (-n).toNat D8 E E;rw[V7]at a;refine r1 W bc<|cl W (by rw[e];rfl) a W ?_;refine b8 W (rR _ (D8.pow _) E (by have:=zj (-n).toNat;grind)) W ?_;refine cm W W<|aj8 SV.s<|by unfold iO;rw[abx b]
 have e:n=(n.toNat:Nat):=E;have a:=HY 2 n.toNat D8 E E;rw[V7]at a;refine r0 W<|Hh (us:=[.s [50],.i (n.toNat:Nat)]) W W U ⟨W,aal SV.i e,U⟩ a W<|cm W W<|aj8 SV.s<|by unfold iO;rw[abl b]
def O6{q:Rat}(h:0<q):q<=(q.num:Rat):=by
 have b:q*(q.den:Rat)=(q.num:Rat):=by
  have:=ajT q;rw[ajG,ahg]at this
  grind
 have a:(1:Rat)<=(q.den:Rat):=by
  have:=q.den_nz;have:1<=q.den:=E
  exact_mod_cast this
 have:=aiw a<|ahh h
 grind
def P7{n k:Nat}(h:(ah n).length<=k):n<2^(30*k):=by have d:=bT n;have c:(1000000000:Nat)^(ah n).length<=1000000000^k:=aeh gC h;have b:(n:Int)<((1000000000^(ah n).length:Nat):Int):=gn;have a:(1000000000:Nat)^k<=(2^30)^k:=ah2 gC k;rw[<-ahU]at a;omega
def tA{q:Rat}{K:Nat}(h:0<q)(hs:Sz q K):q<iO ((30*K:Nat):Int):=by
 have d:=O6 h;have e:=ahH.2<|ahh h;have c:(q.num:Rat)=((q.num.natAbs:Nat):Rat):=by rw[<-ahg];grind
 have b:((q.num.natAbs:Nat):Rat)<((2^(30*K):Nat):Rat):=by exact_mod_cast (P7 hs.1)
 have a:iO ((30*K:Nat):Int)=(2:Rat)^(30*K):=gq
 grind
def aam(n:Int):(iO n)⁻¹ =iO (-n):=by
 unfold iO;rcases ajD n 0 with h|h|h
 grind
 subst h;grind
 grind
def y9{q:Rat}{K:Nat}(h:0<q)(hs:Sz q K):iO (-((30*(K+1):Nat):Int))<q:=by
 have c:=tA (aiS.2 h) hs.inv;rw[<-aam];have b:=wg ((30*(K+1):Nat):Int);have i:=Rat.mul_inv_cancel q (by grind);have g:iO _*(iO ((30*(K+1):Nat):Int))⁻¹ =1:=Rat.mul_inv_cancel _ (by grind);have a:=aiS.2 b;generalize iO _=x at*;generalize x⁻¹ =y at*;generalize q⁻¹ =r at*;have f:=Rat.mul_lt_mul_of_pos_left c<|Rat.mul_pos a h;have e:(y*q)*r=y:=by grind
 have d:(y*q)*x=q:=by grind
 simp_all
def No{q:Rat}{K:Nat}{e:Int}(h:0<q)(hs:Sz q K)(he:ua q e): -(30*(K+1:Int))-1<=e/\e<=30*K:=by
 have a:=tA h hs;let⟨g1,g2⟩:=he;constructor;rcases Decidable.em (e+1< -((30*(K+1):Nat):Int))with g|g;exact abK (aix (pO<|af7 g)<|ahh<|y9 h hs) g2;omega;rcases Decidable.em (((30*K:Nat):Int)<e)with g|g;have:=pO<|af7 g
 grind
 omega
def vu(a:Rat){K:Nat}(j:0<a)(hs:Sz a K)(u:K<2^20):(∃e,ua a e)/\ab 311 [.s<|qt a] (.i<|vy a):=by
 have q:=tA j hs;have k:=y9 j hs;have d:∀e:Int,iO e<=a->e<30*K:=by intro e he;rcases Decidable.em (e<30*K)with g|g;exact g;exact abK (aix (pO<|show((30*K:Nat):Int)<=e from E) he)<|aiT.2 q
 have f:∀e:Int,¬iO e<=a-> -((30*(K+1):Nat):Int)<e:=by intro e he;rcases Decidable.em (-((30*(K+1):Nat):Int)<e)with g|g;exact g;exact abK (aix (pO E)<|ahh k) he
 have c:∃e,ua a e:=by
  have:∀(n:Nat)(e:Int),iO e<=a->30*(K:Int)-e<=n->∃e,ua a e:=by
   intro n
   induction n with
   |zero=>grind
   |succ n t=>
    intro e he hn;by_cases g:iO (e+1)<=a
    grind
    exact⟨e,he,g⟩
  exact this (30*(K:Int)+((30*(K+1):Nat):Int)).toNat _ (ahh k) E
 refine⟨c,?_⟩;let⟨b,m⟩:=c;have l:=jB m;refine cx func311 W<|Gb 3 (λe:Int=>[(0,.s<|qt a),(3,.i e)]) (λe=>0<=e/\e<=30*K/\¬iO e<=a) ?_ ?_;refine r0 W<|aU (λe:Nat=>[(0,.s<|qt a),(3,.i e)]) (λe=>(e:Int)<=30*K) (λe=>30*K-e) 0 E ?_;intro e he;refine cu W W (uS e E) W<|cu W W (sD (iO e) a (Sz.iO e) hs E) W<|cv W W ?_ ?_<;>intro h;have h:=d _<|oZ.1 h;refine r1 W bg<|aL (e+1) E;have h:¬iO e<=a:=λg=>h<|oZ.2 g;refine r0 W<|iX (e:Int) ⟨E,he,h⟩;rintro r⟨v,p,o⟩;refine r0 W<|aU (λe:Int=>[(0,.s<|qt a),(3,.i e)]) (λe=>¬iO (e+1)<=a/\e<=30*K/\ -((30*(K+1):Nat):Int)<=e) (λe=>(e+((30*(K+1):Nat):Int)).toNat) r ⟨λg=>o<|aix (pO E) g,p,E⟩ ?_;rintro e⟨g1,g2,w⟩;refine cu W W (uS e E) W<|cu W W (sD (iO e) a (Sz.iO e) hs E) W<|cv W W ?_ ?_<;>intro h;have h:¬iO e<=a:=λg=>by have:=oZ.2 g;omega
 have:=f e h;refine r1 W bg<|aL (e-1) ⟨gn,E,E⟩;have h:iO e<=a:=oZ.1 E;refine cm W W<|cw<|(jB ⟨h,g1⟩).symm
end Go.Ai
end
namespace Go.Ai
open Go.Proofs Go.RowKit Go.Proofs.Tryz
section
variable{n:Int}{K:Nat}{p q:Rat}{s:fG}
def oq(q:Rat):0<=o8 q:=by
 unfold o8;split;have:0<=(-q).num:=by rw[aiu];omega
 exact ahH.1 this;simp_all
def Sz.o8(h:Sz q K):Sz (o8 q) K:=by unfold Go.Ai.o8;split;exact h.neg;exact h
def Sz.pV(h:Sz p K)(g:Sz q K):Sz (pV p q) K:=by unfold Go.Ai.pV;grind
def Mw(h:0<=p)(g:0<=q):0<=pV p q:=by unfold pV;grind
def kS(a:Rat)(dM:Int):Int:=if a=0 then 40 else min 40 (vy<|iO dM/a)
def zP{a:Rat}(h:0<=a)(b:a≠0)(dM:Int):0<iO dM/a:=by
 refine Rat.mul_pos (wg _)<|aiS.2 ?_
 grind
def Cw(a:Rat)(dM:Int)(h:0<=a)(hs:Sz a K)(hm:0<=dM/\dM<=40)(d:K<=1000):ab 241 [.s<|qt a,.i dM] (.i<|kS a dM)/\ -40000<=kS a dM/\kS a dM<=40:=by
 have c:a≠0->Sz _ (42+K+1):=λf=>((Sz.iO dM).mono E).div hs;constructor;refine cx func241 W<|cu W W (oS a) W<|qq W W W ?_ ?_<;>intro b;have b:=ed
 refine cm W W<|aj8 SV.i<|by unfold kS;rw[abx b]
 have b:=ed
 refine cu W W (uS dM E) W<|cu W W (Up (iO dM) a (Sz.iO dM) hs E b) W<|b8 W (vu (iO dM/a) (zP h b dM) (c b) E).2 W<|cm W W<|cw ?_;unfold kS;rw[abl b];rfl;unfold kS;split;omega;rename_i b;let⟨e,he⟩:=(vu (iO dM/a) (zP h b dM) (c b) E).1;have:=No (zP h b dM) (c b) he;rw[jB he];omega
def SpV(s:fG):Prop:=aV s.lo=0/\aV s.hi=0
def J4(s:fG):Rat:=pV (o8<|bp s.lo)<|o8<|bp s.hi
def PD(h:SpV s):Sz (J4 s) 67:=(eU h.1).o8.pV (eU h.2).o8
def tB(s:fG):0<=J4 s:=Mw (oq _)<|oq _
def xe(s:fG)(h:SpV s):ab 242 [fc s] (.s<|qt<|J4 s):=by have b:=sN _<|(eU h.1).wW gC;have a:=sN _<|(eU h.2).wW gC;rw[dU h.1]at b;rw[dU h.2]at a;refine enter func242 W W W W<|ct W W b W<|ct W W a W<|b9 W (Px _ _ (eU h.1).o8 (eU h.2).o8 gC) W<|k0 W aP<|bY W
structure iM where
 c:Int
 d:Int
 s:Int
 g:Int
def oc(b:iM):SV:=.agg [.i b.c,.i b.d,.i b.s,.i b.g]
def wZ(b:iM):L Int:=[b.c,b.d,b.s,b.g]
def tY(b:iM):Int:=bE (λx:Int=>if x<0\/40<x then 3 else 0)<|wZ b
structure US(b:iM):Prop where
 c:0<=b.c/\b.c<=40
 d:0<=b.d/\b.d<=40
 s:0<=b.s/\b.s<=40
 g:0<=b.g/\b.g<=40
def C1{b:iM}:tY b=0↔US b:=by unfold tY wZ;rw[a8];simp;exact⟨λ⟨e,d,c,a⟩=>⟨e,d,c,a⟩,λ⟨e,d,c,a⟩=>⟨e,d,c,a⟩⟩
def sG(b:iM):ab 34 [oc b] (.i<|tY b):=by refine cx func34 W<|r0 W<|aU (λi:Nat=>[(3,gu<|wZ b),(4,.i i)]) (λi=>i<=(wZ b).length/\tY b=bE (λx:Int=>if x<0\/40<x then 3 else 0) ((wZ b).drop i)) (λi=>(wZ b).length-i) 0 ⟨abX _,W⟩ ?_;rintro i⟨hi,a⟩;have k:(wZ b).length=4:=W;refine cv W W ?_ ?_<;>intro j;have c:i<(wZ b).length:=E;have d:(i:Int).toNat=i:=E;have h:(wZ b).getD i 0=(wZ b)[i]:=az c;rw[im _ c]at a;refine r1 W (by simp[aj,abu,d]<;>omega) ?_;rw[d,h];generalize (wZ b)[i]=x at*;refine aI 25 W ?_ ?_<;>intro g;have e:(if x<0\/40<x then(3:Int)else 0)=3:=abx<|.inl g;simp[e]at a;refine cm W W<|aj8 SV.i a.symm;refine r1 W (by simp[aj,abu,d]<;>omega) ?_;rw[d,h];refine cg W ?_ ?_<;>intro f;have e:(if x<0\/40<x then(3:Int)else 0)=3:=abx<|.inr f;simp[e]at a;refine cm W W<|aj8 SV.i a.symm;have e:(if x<0\/40<x then(3:Int)else 0)=0:=abl E;simp[e]at a;refine r1 W bg<|aL (i+1) ⟨E,a⟩;refine cm W W<|cw ?_;rw[a,agt E];rfl
def my(n:Int)(rs:L fG):Int:=if(rs.length:Int)≠n then 2 else bE fP rs
def Av(p:fZ)(rs:L fG)(b:∀s∈rs,cE s.lo/\cE s.hi)(hl:rs.length<2^40):ab 36 [bV p,aj2 rs] (.i<|my p.n rs):=by
 refine enter func36 W W W W<|cv W W ?_ ?_<;>intro a;refine cm W W<|aj8 SV.i<|by unfold my;rw[abx a]
 refine cu W W (Gl rs b E) W<|cm W W<|aj8 SV.i<|by unfold my;rw[abl a]
def B8(h:fP s=0):SpV s:=by unfold fP at h;split at h;contradiction;rename_i b;split at h;contradiction;rename_i a;exact⟨ed,ci⟩
structure RgV(n:Int)(rs:List fG):Prop where
 len:(rs.length:Int)=n
 val:∀s∈rs,SpV s
def yX{rs:L fG}(h:my n rs=0):RgV n rs:=by unfold my at h;split at h;cases h;rename_i a;exact⟨ci,λs hs=>B8<|a8.1 h s hs⟩
def Q0(rs:L fG)(b:iM)(s:Nat):Int:=kS (J4<|rs.getD s default) b.s
def HL(rs:L fG)(b:iM)(s:Nat)(hs:s<rs.length)(hl:rs.length<2^40)(c:∀x∈rs,SpV x)(e:US b):
 ab 159 [aj2 rs,oc b,.i s] (.i<|Q0 rs b s)/\ -40000<=Q0 rs b s/\Q0 rs b s<=40:=by
 have hm:=c _<|aN (d:=default) hs;have a:=Cw (J4<|rs.getD s default) b.s (tB _) (PD hm) e.s gC;refine⟨?_,a.2⟩;have f:(s:Int).toNat=s:=E;refine cx func159 W<|r1 W bc<|cd W (by rw[f];rfl) (xe (rs.getD s default) hm) W ?_;refine ct W W a.1 W<|k0 W aP<|bY W
def MY(rs:L fG)(f:GJ):Rat:=o8<|bp f.dQ*J4 (rs.getD f.sh.toNat default)
def tE(rs:L fG)(b:iM)(u:bw)(i:Nat):Int:=kS (MY rs<|u.ai.getD i default)<|if u.kind=bk/\i=0 then b.d else b.s
def wE(rs:L fG)(b:iM)(u:bw)(i:Nat)(hu:gF n u)(hi:i<u.ai.length)(l:RgV n rs)(hl:rs.length<2^40)(v:u.ai.length<2^40)(f:US b):
 ab 160 [aj2 rs,oc b,fb u,.i i] (.i<|tE rs b u i)/\ -40000<=tE rs b u i/\tE rs b u i<=40:=by
 have k:=hu.feed _<|aN (d:=default) hi;have t:=l.len;have hm:=l.val _<|aN (d:=default)<|show(u.ai.getD i default).sh.toNat<rs.length from E;have c:Sz (bp (u.ai.getD i default).dQ*J4 (rs.getD (u.ai.getD i default).sh.toNat default)) (67+67):=(eU k.2.2.1).mul<|PD hm;have w:0<=MY rs (u.ai.getD i default):=oq _;have hs:Sz (MY rs<|u.ai.getD i default) (67+67):=c.o8;have a:=gZ (bp (u.ai.getD i default).dQ) (J4<|rs.getD (u.ai.getD i default).sh.toNat default) (eU k.2.2.1) (PD hm) gC;rw[dU k.2.2.1]at a;have j:∀m:Int,0<=m/\m<=40->ab 241 [.s<|qt<|MY rs<|u.ai.getD i default,.i m] (.i<|kS (MY rs<|u.ai.getD i default) m)/\ -40000<=kS (MY rs<|u.ai.getD i default) m/\kS (MY rs<|u.ai.getD i default) m<=40:=λm hm=>Cw (MY rs<|u.ai.getD i default) m w hs hm gC;have e:0<=(if u.kind=bk/\i=0 then b.d else b.s)/\(if u.kind=bk/\i=0 then b.d else b.s)<=40:=by split;exact f.d;exact f.s
 refine⟨?_,(j _ e).2⟩;have r:(i:Int).toNat=i:=E;refine cx func160 W<|r1 W (by simp only[aj,abu,r]<;>omega) ?_;refine b9 W (xe (rs.getD (u.ai.getD i default).sh.toNat default) hm) W<|r1 W (by simp[aj,abu,r]<;>omega) ?_;refine b9 W a W<|ct W W (sN (bp (u.ai.getD i default).dQ*J4 (rs.getD (u.ai.getD i default).sh.toNat default))<|c.wW gC) W<|k0 W aP<|aI 31 W ?_ ?_<;>intro h;have h:u.kind=bk:=h;refine cv W W ?_ ?_<;>intro o;have hc:u.kind=bk/\i=0:=⟨h,E⟩;refine cu W W (j b.d f.d).1 W<|cm W W<|aj8 SV.i<|by unfold tE;rw[abx hc]
 have hc:¬(u.kind=bk/\i=0):=λg=>o E;refine cu W W (j b.s f.s).1 W<|cm W W<|aj8 SV.i<|by unfold tE;rw[abl hc]
 have hc:¬(u.kind=bk/\i=0):=λg=>h g.1;refine cu W W (j b.s f.s).1 W<|cm W W<|aj8 SV.i<|by unfold tE;rw[abl hc]
end
structure jz where
 less:Int
 oI:Int
 dM:Int
 deriving Inhabited
def oW(c:jz):SV:=.agg [.i c.less,.i c.oI,.i c.dM]
abbrev aj6:=SV.bm false 3 default oW
abbrev aj7:=SV.bm true 3 default oW
def Gg(rs:L fG)(b:iM)(s:Nat):L jz:=[⟨s,-1,Q0 rs b s⟩,⟨-1,s,40⟩]
def Gh(rs:L fG)(b:iM)(u:bw):L jz:=
 [⟨-1,-1,tE rs b u 0+40⟩,⟨(u.ai.getD 0 default).sh,-1,tE rs b u 0+b.g⟩,⟨-1,(u.ai.getD 0 default).sh,b.g-tE rs b u 0⟩,⟨u.out,-1,tE rs b u 1+tE rs b u 0-b.c⟩,
  ⟨-1,u.out,40+b.c-tE rs b u 0⟩,⟨u.out,(u.ai.getD 1 default).sh,b.g+tE rs b u 0-b.c⟩,⟨(u.ai.getD 1 default).sh,u.out,b.g-tE rs b u 0+b.c⟩]
def BL(rs:L fG)(b:iM)(u:bw)(k:Nat):L jz:=[⟨u.out,-1,tE rs b u k⟩,⟨u.out,(u.ai.getD k default).sh,b.g⟩,⟨(u.ai.getD k default).sh,u.out,b.g⟩]
def KE(n:Int)(rs:L fG)(b:iM)(u:bw):L jz:=[⟨n,-1,tE rs b u 0⟩,⟨-1,n,40⟩,⟨n,(u.ai.getD 0 default).sh,b.g⟩,⟨(u.ai.getD 0 default).sh,n,b.g⟩]
def vK(n:Int)(rs:L fG)(b:iM)(u:bw):L jz:=if u.kind=bk then Gh rs b u else if u.kind=jN then(List.range u.ai.length).flatMap (BL rs b u)else if u.kind=dO then KE n rs b u else[]
def j9(us:L bw)(i:Nat):Nat:=(us.take i).countP λu=>decide (u.kind=dO)
def py{us:L bw}{i:Nat}(h:i<us.length):j9 us (i+1)=j9 us i+if us[i].kind=dO then 1 else 0:=by unfold j9;rw[adY h,aiR];simp
def Ar(us:L bw)(i:Nat):j9 us i<=i:=ab7 ahN (by grind)
def sC(rs:L fG)(b:iM)(s:Nat):L jz:=(List.range s).flatMap<|Gg rs b
def oG(n:Nat)(us:L bw)(rs:L fG)(b:iM)(i:Nat):L jz:=sC rs b n++(List.range i).flatMap λj=>vK ((n+j9 us j:Nat):Int) rs b<|us.getD j default
def kK(n:Nat)(us:L bw)(rs:L fG)(b:iM):L jz:=oG n us rs b us.length
def nF{α:Type}(f:Nat->L α)(i:Nat):(List.range<|i+1).flatMap f=(List.range i).flatMap f++f i:=by rw[ahs];simp
def fL{α:Type}{f:Nat->L α}{c:Nat}(h:∀i,(f i).length<=c):∀n,((List.range n).flatMap f).length<=n*c
 |0=>I
 |n+1=>by have:=fL h n;have:=h n;rw[nF,ad9,ajb];omega
def yo(n:Nat)(us:L bw)(rs:L fG)(b:iM)(i:Nat):oG n us rs b (i+1)=oG n us rs b i++vK ((n+j9 us i:Nat):Int) rs b (us.getD i default):=by unfold oG;rw[nF,aen]
def aS.shr{P:Program}{f:FuncId}{asx:L SV}{r:SV}(h:aS P f asx r):aS P f asx r.cK:=by
 intro w S g j i hc;intro rd o a _ c hn;refine h w S g j i hc _ o a _ c λv e⟨n,F,m,l,t,s,k,q,p⟩=>hn v e ?_;refine⟨λb=>n b\/b∈F,[],m,λb d=>.inl<|l b d,λb d=>?_,λb d=>?_,?_,aee,λb d=>by grind⟩
 grind
 grind
 rw[<-gY];exact Rel.share (λb d=>.inl d) _ k λb d=>.inr d
def Uz{P:Program}{w:World}{f:FuncId}{fn:Func}{b:Array Value}{R:Value->World->Prop}(k:P.funcs[f]?=some fn)(n:fn.body.isNone=false)(hn:(fn.name== "runtime.NumGoroutine")=false)
 (h:sT P f b w R):Calls P f b w λe w'=>∃v,e=.returned v/\R v w':=by
 have a:(callFunc f b).run P w=.ok (.enter f b) w:=by
  have c:=ft
  have d:¬fn.body=none:=by grind
  unfold callFunc;simp_all
 have i:=h none {dst:=some 0,op:=.move<|.const<|.bool true,type:=0,pos:= "",after:=#[],guard:=none} {tmps:=#[undef],defers:=[]} (λm w'=>∃v,m.tmps=#[v]/\R v w') (λ_ _ _=>False) λv w' g=>⟨v,by simp[Act.put],g⟩;rw[a]at i;refine(callsIn_wide.1 i.2).mono λe w' he=>?_;cases e with
 |returned v=>
  let⟨j,l,g⟩:=he;have o:v=j:=by simpa[Act.put]using l
  simp_all
 |panicked _=>exact he.elim
 |outgrown=>exact abK he (by simp[LetsOut])
def aS.K9{P:Program}{f:FuncId}{xs ys:L SV}{r:SV}(h:aS P f ys r)(hl:mS xs ys):aS P f xs r:=by intro w S a j i hc;let⟨n,m,d,c⟩:=hl.cells hc;have e:=List.nil_perm.1 d;have l:=(aia.1 e).1;have k:=(aia.1 e).2;subst l;subst k;exact h w S a j i<|c S (λ_ h=>h) λb g=>by cases g
end Go.Ai
section
namespace Go.Ai
open Go.Proofs Go.RowKit Go.Proofs.Tryz
variable{P:Program}{w:World}{S:Nat->Prop}
section
variable{o:Oper}{a:Operand}{t:TypeId}
def I7{args H:L AV}(d:args.length=1)(c:H.length=1){i:Nat}(a:i≠0)(b:i≠500):both args H i=⟨.dead,0,0⟩:=by by_cases h:i<500;rw[fT h,agc E];obtain⟨k,rfl⟩:∃k,i=500+k:=⟨i-500,E⟩;rw[fi E,agc E]
def TY{y:AV}{ti:TI}(u:o.op=.load t a)(p:cC P t=some ti)(j:fits ti y=true):
 YC P o [.box true y] [.bH 500 0 0 []] [.box true<|kH y] y:=by
 intro w S V r F hl hc q D;obtain⟨x0,rfl⟩:∃x0,r=[x0]:=by
  match r,hl with
  |[x0],_=>exact⟨x0,W⟩
 have f:=fi (args:=[.bH 500 0 0 []]) (H:=[.box true y]) I 0;have Z:=mT (i:=0) E hc W;have x:a7 V [x0] 500=V.v 500:=gq;let⟨c,z,F1,R,k1,k2,k3,d,N,M⟩:=hc.take 500 0 [.deref] (y:=y) (av':=.box true<|kH y) E (by rw[f];rfl) (by rw[f];rfl) (by rw[f];rfl);have s:=hc.rel 500;rw[an.aC<|by rw[f];rfl,x]at s;obtain⟨b,cs,Y,F2,T,O,-⟩:=s;rw[x,O]at k1;simp[loc,step1,cH]at k1;subst k1;have K:q a=.pointer (some ⟨b,0,none⟩):=by
  have X:o.op.operands.toList=[a]:=by rw[u];rfl
  simp_all
 have g:(Instr.loadAt t<|q a).run P w=.ok z w:=by simp[K,Result.andThen_ok];exact gP p k2<|kU j k3
 have n:a7 V [z] 0=z:=gq;have l:both [y] [.box true<|kH y] 0=⟨y,0,0⟩:=gq;refine⟨.value z,z,w,by simp[execOp,u,g],.inl W,S,R,⟨W,W,W,abY _,λ_ _ _=>rfl⟩,λ_ h=>h,λ_ h=>.inl h,?_⟩;refine⟨λi=>?_,d.nodup,d.dz,λi b J=>?_,d.shr⟩;by_cases e:i=0;subst e;rw[an.aC<|by rw[l];exact k3.plain,l,n];simp_all;by_cases m:i=500;subst m;have:=d.rel 500;exact this;have:=d.rel i;have v:=I7 (args:=[.bH 500 0 0 []]) (H:=[.box true y]) W W e m;have k:=I7 (args:=[y]) (H:=[.box true<|kH y]) W W e m;rw[an.aC<|by rw[ar _ _ e,ar _ _ m,v];rfl,ar _ _ e,ar _ _ m,v]at this;rwa[an.aC<|by rw[k];rfl,k];let⟨C,B,A⟩:=d.own i b J;exact⟨.inr C,B,A⟩
def afd{y:SV}{ti:AL}(d:o.op=.load t a)(b:cC P t=some ti.den)(c:oa ti y=true)(hc:y.den.cell=false):kf P o [.box true y] [.bH 500 0 0 []] [.box true .dead] y:=by
 have h:=TY (y:=y.den) d b (by rwa[j6]);have e:kH y.den=.dead:=by unfold kH;grind
 rwa[e]at h
end
end Go.Ai
end
namespace Go.Ai
open Go.Proofs Go.RowKit Go.Proofs.Tryz
section
variable{R:Option Nat->Prop}{P:Program}{N:Nat}{V:Hid}{w0 w:World}{S0:Nat->Prop}{a:Act}{base:St}{r p0 Z h:Nat}{Q s:Path}
section
variable{y:AV}{L:Loc}{i sz':Nat}{s':Path}{v:Value}
def YH(base:St)(r p0:Nat)(av:AV)(q:Path):St:=jg (jg base r ⟨av,0,0⟩) p0 ⟨.ptr r 0 0 q,0,0⟩
def yO(base:St)(r p0 Z h:Nat)(av y:AV)(s:Path):St:=jg (jg (jg (jg base r ⟨av,0,0⟩) p0 ⟨.ptr Z 0 0 s,0,0⟩) Z ⟨y,0,0⟩) h ⟨.bH Z 0 0 [],0,0⟩
def Hid.D1(V:Hid)(Z h:Nat)(v:Value):Hid:={V with v:=jg (jg V.v Z v) h v}
structure Names(N r p0 Z h:Nat):Prop where
 n:N<=500
 z:500<=Z
 hh:500<=h
 rp:r≠p0
 rz:r≠Z
 rh:r≠h
 pz:p0≠Z
 ph:p0≠h
 zh:Z≠h
def Lf(hn:Names N r p0 Z h)(b:a.tmps.size=N)(v:Value):tv (V.D1 Z h v) a=jg (jg (tv V a) Z v) h v:=by
 have e:=hn.n;have d:=hn.z;have c:=hn.hh;unfold tv Hid.D1 jg
 grind
def VK{av:AV}:yO base r p0 Z h av y s h=⟨.bH Z 0 0 [],0,0⟩:=by unfold yO;rw[aG]
def xH(hn:Names N r p0 Z h){av:AV}:yO base r p0 Z h av y s Z=⟨y,0,0⟩:=by unfold yO;rw[ar _ _ hn.zh,aG]
def VJ(hn:Names N r p0 Z h){av:AV}:yO base r p0 Z h av y s p0=⟨.ptr Z 0 0 s,0,0⟩:=by unfold yO;rw[ar _ _ hn.ph,ar _ _ hn.pz,aG]
def JB(hn:Names N r p0 Z h){av:AV}:yO base r p0 Z h av y s r=⟨av,0,0⟩:=by unfold yO;rw[ar _ _ hn.rh,ar _ _ hn.rz,ar _ _ hn.rp,aG]
def JC{av:AV}(e:i≠r)(d:i≠p0)(c:i≠Z)(b:i≠h):yO base r p0 Z h av y s i=base i:=by unfold yO;rw[ar _ _ b,ar _ _ c,ar _ _ d,ar _ _ e]
def abh{av:AV}:YH base r p0 av Q p0=⟨.ptr r 0 0 Q,0,0⟩:=by unfold YH;rw[aG]
def HM(b:r≠p0){av:AV}:YH base r p0 av Q r=⟨av,0,0⟩:=by unfold YH;rw[ar _ _ b,aG]
def HN{av:AV}(c:i≠r)(b:i≠p0):YH base r p0 av Q i=base i:=by unfold YH;rw[ar _ _ b,ar _ _ c]
def MB{x:Loc}{sz:Nat}(hl:loc w x Q=some L)(hh:holds w L v)(hc:v.cells=#[v]):loc w x (Q++.idx i sz::s')=loc w (.val v) (.idx i sz::s'):=by rw[jv,hl];simp[loc];rw[du hh hc I];rfl
def M3{z b:Value}(d:holds w L z)(c:holds w L b)(c1:z.cells=#[z])(c2:b.cells=#[b]):z=b:=by
 cases L with
 |val q=>simp[holds]at d c;rw[d,c]
 |addr g=>have f:=At.cell d c1;have e:=At.cell c c2;grind
def Th{sz:Nat}{xs:List AV}{o:AV}{X:(Value->Prop)->AV}(hn:Names N r p0 Z h)(c:∀i,(base i).av.plain=true)(G3:(base Z).av=.dead)(M:(base h).av=.dead)(hp:o.plain=true)
 (hg:bM o Q=some (.list .own sz xs))(hs:∀C,fH o Q (.pv C)=some (X C))(F2:∃u,bM o (Q++.idx i sz'::s')=some u)
 (hi:ma N V w0 S0 (YH base r p0 o<|Q++.idx i sz'::s') a w):∃v,ma N (V.D1 Z h v) w0 S0 (yO base r p0 Z h (X (·=v)) (.list .own sz xs)<|.idx i sz'::s') a w:=by
 let⟨S,F,ds,hc,hN,F3,A0,Y,n,hm⟩:=hi;have hr:=hc.rel r;rw[an.aC<|by rw[HM hn.rp];exact hp,HM hn.rp]at hr;obtain⟨L0,v,Fv,l1,l2,l3,-⟩:=Rel.read Q (L:=.val<|tv V a r) hr W hg;have c1:v.cells=#[v]:=cells_one<|l3.one W;let⟨L,z,A,F1,B,k1,k2,k3,k4,k5,k6⟩:=Rel.jg Q (L:=.val<|tv V a r) hr W hg (hs (·=v)) (hc.nodup r) (λb c=>(hc.own r b c).2.2) (dl);rw[l1]at k1;cases k1;have ez:z=v:=M3 k2 l2 (cells_one<|k3.one W) c1;subst ez;obtain⟨z',j1,-,-,j4⟩:=k6 w S z [] (λ_ h=>h) W (λh=>h) (λ_ _ _=>rfl) (pE k2) (by simp[Rel]);simp[xr]at j4;subst j4;have F4:=hc.nodup r;rw[k4,ad4,ad4]at F4;have m:∀b,b∈A++[]++B->b∈F r:=λb c=>by grind
 have f:∀b,b∈F1->b∈F r:=λb c=>by rw[k4];simp[c]
 have G2:∀b,b∈F1->b∉A++[]++B:=λb c p=>by grind
 have G1:F h=[]:=by have:=hc.rel h;rw[an.aC<|by rw[HN (λe=>hn.rh e.symm) λe=>hn.ph e.symm,M];rfl,HN (λe=>hn.rh e.symm) λe=>hn.ph e.symm,M]at this;simpa[Rel]using this
 have g:=hc.rel p0;unfold an at g;rw[abh]at g;simp only[HM hn.rp]at g;obtain⟨G0,-,-,E2,E1⟩:=g;let⟨ad,q1,q2⟩:=E1 U (.inr U) λ_=>F2;rw[MB l1 k2 c1]at q1;have hT:=Lf (V:=V) (a:=a) hn hN z;refine⟨z,S,λi=>if i=r then A++[]++B else if i=Z then F1 else F i,ds,⟨λj=>?_,λj=>?_,λj k x b c=>?_,λj b c=>?_,hc.shr⟩,hN,F3,A0,Y,⟨n.os,n.tape,n.output,n.size,n.block⟩,hm.1,λd hd=>?_⟩;rw[hT];by_cases T:j=h;subst T;unfold an;rw[VK];simp only[xH hn,aG];rw[abl λe=>hn.rh e.symm,abl λe=>hn.zh e.symm];exact⟨G1,abY _,abY _,λ_ _ _=>⟨.val z,by rw[ar _ _ hn.zh,aG];rfl,W,I⟩⟩;by_cases t:j=Z;subst t;rw[an.aC<|by rw[xH hn];rfl,xH hn,abl λe=>hn.rz e.symm,abx W,ar _ _ hn.zh,aG];exact k3;by_cases K:j=p0;subst K;unfold an;rw[VJ hn];simp only[xH hn];rw[abl λe=>hn.rp e.symm,abl hn.pz,ar _ _ hn.ph,ar _ _ hn.pz];exact⟨G0,abY _,abY _,E2,λ_ _ _=>⟨ad,by rw[ar _ _ hn.zh,aG];exact q1,q2⟩⟩;by_cases J:j=r;subst J;rw[an.aC<|by rw[JB hn];exact j1.plain,JB hn,abx W,ar _ _ hn.rh,ar _ _ hn.rz];exact j1;have hj:=hc.rel j;rw[an.aC<|by rw[HN J K];exact c j,HN J K]at hj;rw[an.aC<|by rw[JC J K t T];exact c j,JC J K t T,abl J,abl t,ar _ _ T,ar _ _ t];exact hj;by_cases e:j=r
 grind
 simp[e,if_false];by_cases t:j=Z;simp_all;simp[t,if_false];exact hc.nodup j;by_cases q:j=r;simp only[q,if_true]at c;have hk:k≠r:=λe=>x<|q.trans e.symm;simp[hk,if_false];by_cases H:k=Z
 grind
 simp[H,if_false];exact hc.dz r k (λe=>hk e.symm) b<|m b c;simp[q,if_false]at c;by_cases l:j=Z;simp[l,if_true]at c;by_cases H:k=r;simp_all;have F0:k≠Z:=λe=>x<|l.trans e.symm;simp[H,F0,if_false];exact hc.dz r k (λe=>H e.symm) b<|f b c;simp[l,if_false]at c;by_cases H:k=r;simp only[H,if_true];exactλp=>hc.dz j r q b c<|m b p;simp[H,if_false];by_cases O:k=Z;simp[O,if_true];exactλp=>hc.dz j r q b c<|f b p;simp[O,if_false];exact hc.dz j k x b c;by_cases q:j=r;simp only[q,if_true]at c;exact hc.own r b<|m b c;simp[q,if_false]at c;by_cases l:j=Z;simp[l,if_true]at c;exact hc.own r b<|f b c;simp[l,if_false]at c;exact hc.own j b c;let⟨D,T,t,K,J,e5⟩:=hm.2 d hd
 grind
def O2{sz:Nat}{ys:List AV}{n av3:AV}(hn:Names N r p0 Z h)(c:∀i,(base i).av.plain=true)(Y:(base Z).av=.dead)(A0:(base h).av=.dead)(hp:n.plain=true)
 (hg:bM n Q=some (.pv (·=v)))(hs:fH n Q (.list .own sz ys)=some av3)(G0:flat (.idx i sz'::s')=true)
 (hi:ma N (V.D1 Z h v) w0 S0 (yO base r p0 Z h n (.list .own sz ys)<|.idx i sz'::s') a w):ma N V w0 S0 (YH base r p0 av3<|Q++.idx i sz'::s') a w:=by
 let⟨S,F,ds,hc,hN,X,O,M,l,hm⟩:=hi;have hT:=Lf (V:=V) (a:=a) hn hN v;rw[hT]at hc;have hr:=hc.rel r;rw[an.aC<|by rw[JB hn];exact hp,JB hn,ar _ _ hn.rh,ar _ _ hn.rz]at hr;have K:=hc.rel Z;rw[an.aC<|by rw[xH hn];rfl,xH hn,ar _ _ hn.zh,aG]at K;have c1:v.cells=#[v]:=cells_one<|K.one W;let⟨L,z,A,F1,B,k1,k2,k3,k4,k5,k6⟩:=Rel.jg Q (L:=.val<|tv V a r) hr W hg hs (hc.nodup r) (λb c=>(hc.own r b c).2.2) (dl);let⟨ez,eF⟩:=k3;subst ez;subst eF;obtain⟨z',j1,-,-,j4⟩:=k6 w S z (F Z) (λ_ h=>h) W (λh=>h) (λ_ _ _=>rfl) (pE k2) K;simp[xr]at j4;subst j4;have p:=hc.nodup r;rw[k4,ahl,ad4]at p;have g:∀b,b∈A++F Z++B->b∈F r\/b∈F Z:=λb c=>by grind
 have F3:∀b,b∈F Z->b∉F r:=λb c=>hc.dz Z r (λe=>hn.rz e.symm) b c;have F4:(A++F Z++B).Nodup:=by
  rw[ad4,ad4];refine⟨⟨p.1,hc.nodup Z,λa ha b c e=>?_⟩,p.2.1,λa ha b c e=>?_⟩;simp_all
  grind
 have F0:F h=[]:=by have:=hc.rel h;unfold an at this;rw[VK]at this;exact this.1
 have f:=hc.rel p0;unfold an at f;rw[VJ hn]at f;simp only[xH hn]at f;obtain⟨E2,-,-,x,T⟩:=f;let⟨ad,q1,q2⟩:=T U (.inr U) λhh=>gn;rw[ar _ _ hn.zh,aG]at q1;rw[ar _ _ hn.ph,ar _ _ hn.pz]at q2 x;refine⟨S,λi=>if i=r then A++F Z++B else if i=Z then[]else F i,ds,⟨λj=>?_,λj=>?_,λj k C b c=>?_,λj b c=>?_,hc.shr⟩,hN,X,O,M,⟨l.os,l.tape,l.output,l.size,l.block⟩,hm.1,λd hd=>?_⟩;by_cases u:j=p0;subst u;unfold an;rw[abh];simp only[HM hn.rp];rw[abl λe=>hn.rp e.symm,abl hn.pz];exact⟨E2,abY _,abY _,x,λ_ _ _=>⟨ad,by rw[MB k1 k2 c1];exact q1,q2⟩⟩;by_cases t:j=r;subst t;rw[an.aC<|by rw[HM hn.rp];exact j1.plain,HM hn.rp,abx W];exact j1;rw[an.aC<|by rw[HN t u];exact c j,HN t u,abl t];by_cases o:j=Z;subst o;rw[Y,abx W];simp[Rel];rw[abl o];by_cases J:j=h;subst J;rw[A0,F0];simp[Rel];have hj:=hc.rel j;rw[an.aC<|by rw[JC t u o J];exact c j,JC t u o J,ar _ _ J,ar _ _ o]at hj;exact hj;by_cases e:j=r;simp_all;simp[e,if_false];by_cases o:j=Z;simp_all;simp[o,if_false];exact hc.nodup j;by_cases q:j=r;simp only[q,if_true]at c;have hk:k≠r:=λe=>C<|q.trans e.symm;simp only[hk,if_false];by_cases H:k=Z;simp_all;simp[H,if_false];rcases g b c with h1|h1;exact hc.dz r k (λe=>hk e.symm) b h1;exact hc.dz Z k (λe=>H e.symm) b h1;simp only[q,if_false]at c;by_cases m:j=Z;simp_all;simp[m,if_false]at c;by_cases H:k=r;simp only[H,if_true];intro E1;rcases g b E1 with h1|h1;exact hc.dz j r q b c h1;exact hc.dz j Z m b c h1;simp only[H,if_false];by_cases F2:k=Z;simp_all;simp[F2,if_false];exact hc.dz j k C b c;by_cases q:j=r;simp only[q,if_true]at c;rcases g b c with h1|h1;exact hc.own r b h1;exact hc.own Z b h1;simp only[q,if_false]at c;by_cases m:j=Z;simp_all;simp[m,if_false]at c;exact hc.own j b c;let⟨D,J,o,u,t,e5⟩:=hm.2 d hd
 grind
end
end
end Go.Ai
