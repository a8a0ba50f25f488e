/- ScaleRanges holds of the program, under no condition. -/
import Derived.Test.YtacjimehcbbkbaaGreatDoorRZAI
import Derived.Shelf.Strings.Builder1
set_option linter.all false
set_option maxRecDepth 100000
set_option maxHeartbeats 0
open Go.Proofs Go.Ai Go.Ai.bG Go.RowKit Go.Proofs.Tryz
noncomputable section
namespace Go.Ai.Pg
def p7(l:L Int)(hl:l.length<2^60):ab 128 [fO l] (.i<|aG id l):=by refine cp func128 W<|r0 W<|ba (λi:Nat=>[(5,fO l),(6,.i l.length),(7,.i i)]) (λi=>i<=l.length/\aG id l=aG id (l.drop i)) (λi=>l.length-i) 0 ⟨aaQ _,W⟩ ?_;rintro i⟨hi,b⟩;refine cm W W ?_ ?_<;>intro h;have a:i<l.length:=E;have d:(i:Int).toNat=i:=E;rw[cP _ a]at b;refine r1 W (by simp[aj,d];omega) ?_;refine bY W ?_ ?_<;>intro c;rw[d,az a]at c;refine b7 W W<|cn ?_;simp_all;rw[d,az a]at c;refine r1 W (by simp[aj];omega) ?_;refine aM (i+1) ⟨E,?_⟩;rw[b];simp_all;refine b7 W W<|cn ?_;rw[b,aew E];rfl
def lI(b:Bool)(e:Int):ab 161 [.u b,.i e] (.i<|if b then e else 0):=by refine cp func161 W<|r0 W<|nS W W W ?_ ?_<;>intro h;refine b7 W W<|cn ?_;rw[h];rfl;refine b7 W W<|cn ?_;rw[h];rfl
def mu(n k:Int):Bool:=decide (0<=k/\k<n)
def zZ(p:jZ)(k:Int):ab 164 [bI p,.i k] (.u<|mu p.n k):=by refine cp func164 W<|b6 W 7 W ?_ ?_<;>intro h;refine b7 W W<|aij SV.u ?_;unfold mu;simp_all;refine b7 W W (show false=mu p.n k from(decide_eq_false λg=>h g.1).symm)
def JU(p:jZ)(h:AS p):ab 125 [bI p] (.i<|aT p.aa):=by
 have hl:=h.aa;refine cp func125 W<|r0 W<|ba (λi:Nat=>[(3,.i<|(p.aa.take i).countP λu=>decide (u.kind=bF)),(7,aic p.aa),(8,.i p.aa.length),(9,.i i)]) (λi=>i<=p.aa.length) (λi=>p.aa.length-i) 0 (aaQ _) ?_;intro i hi;have hc:((p.aa.take i).countP λu=>decide (u.kind=bF))<=i:=acI agk (by simp;omega);refine cm W W ?_ ?_<;>intro e;have b:i<p.aa.length:=E;have c:(i:Int).toNat=i:=E;have d:p.aa.getD i default=p.aa[i]:=az b;have hs:((p.aa.take<|i+1).countP λu=>decide (u.kind=bF))=((p.aa.take i).countP λu=>decide (u.kind=bF))+(if p.aa[i].kind=bF then 1 else 0):=by rw[ace b,ag0,ahM];simp
 refine r1 W (by simp[aj,aag,c];omega) ?_;refine bY W ?_ ?_<;>intro a;rw[c,d]at a;have a:p.aa[i].kind=bF:=a;rw[aas a]at hs;refine r1 W (by simp[aj,aag];omega) ?_;refine again (i+1) E E ⟨⟨W,cn ?_⟩,G,G,G,U⟩;rw[hs];rfl;rw[c,d]at a;have a:¬p.aa[i].kind=bF:=a;rw[aaq a]at hs;refine r1 W (by simp[aj,aag];omega) ?_;refine again (i+1) E E ⟨⟨W,cn ?_⟩,G,G,G,U⟩;rw[hs];rfl;refine b7 W W<|cn ?_;unfold aT
 grind
def RG(p:jZ)(k:Int):ab 163 [.i k,.box false<|bI p] (.u<|!mu p.n k):=by refine cp func163 W<|ck W W (zZ p k) W<|cg W W
def s8{α:Type}(f:α->Bool):L α->Int->Int
 |[],_=> -1
 |x::l,i=>if f x then i else s8 f l (i+1)
def Es{α:Type}(f:α->Bool){l:L α}{i:Nat}(h:i<l.length):s8 f (l.drop i) i=if f l[i]then(i:Int)else s8 f (l.drop<|i+1) ((i+1:Nat):Int):=by rw[acJ h];rfl
def sJ{α:Type}(f:α->Bool):∀(l:L α)(i:Int),0<=i->(0<=s8 f l i↔∃x∈l,f x=true)
 |[],i,_=>by simp[s8]
 |x::l,i,hi=>by unfold s8;by_cases h:f x=true;simp_all;rw[aaq h,sJ f l (i+1) E];simp[h]
def VZ(p:jZ)(l:L Int)(hl:l.length<2^60):ab 211 [fO l,.fn (.func 163) [] [.box false<|bI p]] (.i<|s8 (λk=> !mu p.n k) l 0):=by refine cp func211 W<|r0 W<|ba (λi:Nat=>[(0,fO l),(1,.fn (.func 163) [] [.box false<|bI p]),(7,.i l.length),(8,.i i)]) (λi=>i<=l.length/\s8 (λk=> !mu p.n k) l 0=s8 (λk=> !mu p.n k) (l.drop i) i) (λi=>l.length-i) 0 ⟨aaQ _,W⟩ ?_;rintro i⟨hi,b⟩;refine cm W W ?_ ?_<;>intro h;have a:i<l.length:=E;have d:(i:Int).toNat=i:=E;rw[Es _ a]at b;refine r1 W (by simp[aj,d];omega) ?_;refine bW W (RG p _) W ?_;rw[d,az a];refine nS W W W ?_ ?_<;>intro c;refine b7 W W<|cn ?_;rw[b,aas c];refine r1 W (by simp[aj,aag];omega) ?_;refine aM (i+1) ⟨E,?_⟩;simp_all;refine b7 W W<|cn ?_;rw[b,aew E];rfl
def Nd(p:jZ)(l:L Int)(hl:l.length<2^60):ab 116 [fO l,.fn (.func 163) [] [.box false<|bI p]] (.u<|decide (∃k∈l,k<0\/p.n<=k)):=by refine cp func116 W<|ck W W (VZ p l hl) W<|b7 W W<|aij SV.u ?_;rw[decide_eq_decide,sJ _ _ _<|aet 0];refine exists_congr λk=>and_congr Iff.rfl ?_;unfold mu;simp
def VY(l:L Int)(v:Int)(hl:l.length<2^60):ab 312 [fO l,.i v] (.i<|s8 (λk=>decide (v=k)) l 0):=by refine cp func312 W<|r0 W<|ba (λi:Nat=>[(0,fO l),(1,.i v),(7,.i l.length),(8,.i i)]) (λi=>i<=l.length/\s8 (λk=>decide (v=k)) l 0=s8 (λk=>decide (v=k)) (l.drop i) i) (λi=>l.length-i) 0 ⟨aaQ _,W⟩ ?_;rintro i⟨hi,d⟩;refine cm W W ?_ ?_<;>intro h;have a:i<l.length:=E;have c:(i:Int).toNat=i:=E;rw[Es _ a]at d;refine r1 W (by simp[aj,c];omega) ?_;refine bY W ?_ ?_<;>intro b;rw[c,az a]at b;refine b7 W W<|cn ?_;simp_all;rw[c,az a]at b;refine r1 W (by simp[aj,aag];omega) ?_;refine aM (i+1) ⟨E,?_⟩;simp_all;refine b7 W W<|cn ?_;rw[d,aew E];rfl
def Pw(l:L Int)(v:Int)(hl:l.length<2^60):ab 243 [fO l,.i v] (.u<|decide (v∈l)):=by refine cp func243 W<|ck W W (VY l v hl) W<|b7 W W<|aij SV.u ?_;rw[decide_eq_decide,sJ _ _ _<|aet 0];simp
def SC(s:cq):isNeg (s.take<|aE s)=isNeg s/\bM (s.take<|aE s)=(bM s).take (aE<|bM s)/\s.drop (aE s+1)=(bM s).drop (aE (bM s)+1)/\(aE s<s.length↔aE (bM s)<(bM s).length)/\aE s=(if isNeg s then 1 else 0)+aE (bM s)/\s.length=(if isNeg s then 1 else 0)+(bM s).length:=by
 by_cases h:isNeg s=true;have hs:=Ii s;rw[aas h]at hs;generalize bM s=b at hs⊢;subst hs;have e:aE ([45]++b)=aE b+1:=by simp[aE]
 rw[e,aas h];refine⟨?_,?_,?_,?_,?_,?_⟩;rw[h];simp[isNeg];rfl;simp;simp;omega;simp;omega;have c:bM s=s:=by unfold bM;rw[aaq h]
 have a:isNeg s=false:=by simpa using h
 rw[c,aaq h];have hn:isNeg (s.take<|aE s)=false:=by unfold isNeg at a⊢;simp_all
 refine⟨by rw[hn,a],?_,W,Iff.rfl,E,E⟩;unfold bM;rw[hn];rfl
def gcd_one{a:Nm}(h:bu a):(ws a=[]/\a.s=1)↔nv a=1:=by
 rw[vT h];obtain⟨s,w⟩:=a;cases w with
 |none=>simp[nv]
 |some m=>
  obtain⟨c,b⟩:=h;simp[nv]
  grind
def vh(s:cq)(hl:s.length<2^45):ab 122 [.s s] (.i<|aQ s):=by
 obtain⟨P,O,N,M,p5,p6⟩:=SC s;have R:=qN<|bM s;refine cp func122 W<|ck W W (aaG s E) W<|ck W W (acb (s.take<|aE s)<|by simp;omega) W ?_;refine rn 6 W ?_;rw[P,O,N,show decide (aE s<s.length)=decide (aE (bM s)<(bM s).length)from decide_eq_decide.2 M];obtain⟨Z,v⟩:∃Z,Z=(bM s).take (aE<|bM s):=⟨_,W⟩;obtain⟨D,A⟩:∃D,D=(bM s).drop (aE (bM s)+1):=⟨_,W⟩;have T:Z.length=aE (bM s):=fP;have Y:D.length=(bM s).length-(aE (bM s)+1):=fP;have S:=yV s;have y:iL s=(gg Z&& !(isNeg s&&decide (Z=[48]))):=by rw[v];rfl
 have l:jt s=(!decide (aE (bM s)<(bM s).length)||(gg D&& !decide (D=[48])&& !decide (D=[49]))):=by rw[A];rfl
 have z:nP s=(!decide (aE (bM s)<(bM s).length)||decide (Nat.gcd (cX Z) (cX D)=1)):=by rw[v,A];rfl
 rw[<-v,<-A];obtain⟨B,u⟩:∃B,B=decide (aE (bM s)<(bM s).length):=⟨_,W⟩;have V:aQ s=if iL s then(if jt s then(if 600<Z.length\/600<D.length then 4 else if nP s then 0 else 1)else 1)else 1:=by
  unfold aQ
  grind
 rw[<-u]at l z⊢;rw[V];refine cQ 1 [(4,.s D),(5,.u B),(6,.s Z)] (iL s=true/\jt s=true) ?_ ?_;have one:¬(iL s=true/\jt s=true)->(1:Int)=if iL s then(if jt s then(if 600<Z.length\/600<D.length then 4 else if nP s then 0 else 1)else 1)else 1:=by grind
 refine ck W W (NR Z E) W<|r0 W<|iC 24 W ?_ ?_<;>intro h;have h:gg Z=false:=by simpa using h
 refine b7 W W<|aij SV.i<|one λ⟨a,_⟩=>fP;have h:gg Z=true:=by simpa using h
 refine r0 W<|iC 26 W ?_ ?_<;>intro g;have x:iL s= !decide (Z=[48]):=by rw[y,h,g];simp
 refine b6 W 31 W ?_ ?_<;>intro g2;have g2:Z=[48]:=g2;refine b7 W W<|aij SV.i<|one λ⟨a,_⟩=>by grind
 have g2:¬Z=[48]:=g2;have d:iL s=true:=by rw[x];simp[g2]
 refine r0 W<|iC 33 W ?_ ?_<;>intro b;have w:jt s=(gg D&& !decide (D=[48])&& !decide (D=[49])):=by rw[l,b];simp
 refine ck W W (NR D E) W<|r0 W<|iC 37 W ?_ ?_<;>intro k;have k:gg D=false:=by simpa using k
 refine b7 W W<|aij SV.i<|one λ⟨_,a⟩=>by grind
 have k:gg D=true:=by simpa using k
 refine b6 W 41 W ?_ ?_<;>intro j;have j:D=[48]:=j;refine b7 W W<|aij SV.i<|one λ⟨_,a⟩=>by grind
 have j:¬D=[48]:=j;refine cm W W ?_ ?_<;>intro f;have f:D=[49]:=f;refine b7 W W<|aij SV.i<|one λ⟨_,a⟩=>by grind
 have f:¬D=[49]:=f;refine r0 W<|bm ⟨d,by grind⟩;refine r0 W<|bm ⟨d,by rw[l,b];rfl⟩;have d:iL s=true:=by rw[y,h,g];simp
 refine r0 W<|iC 33 W ?_ ?_<;>intro b;have w:jt s=(gg D&& !decide (D=[48])&& !decide (D=[49])):=by rw[l,b];simp
 refine ck W W (NR D E) W<|r0 W<|iC 37 W ?_ ?_<;>intro k;have k:gg D=false:=by simpa using k
 refine b7 W W<|aij SV.i<|one λ⟨_,a⟩=>by grind
 have k:gg D=true:=by simpa using k
 refine b6 W 41 W ?_ ?_<;>intro j;have j:D=[48]:=j;refine b7 W W<|aij SV.i<|one λ⟨_,a⟩=>by grind
 have j:¬D=[48]:=j;refine cm W W ?_ ?_<;>intro f;have f:D=[49]:=f;refine b7 W W<|aij SV.i<|one λ⟨_,a⟩=>by grind
 have f:¬D=[49]:=f;refine r0 W<|bm ⟨d,by grind⟩;refine r0 W<|bm ⟨d,by rw[l,b];rfl⟩;rintro⟨t,p⟩;rw[aas t,aas p];have c:dG Z:=by rw[y,abi]at t;exact(oG t.1).1
 refine b6 W 50 W ?_ ?_<;>intro g;have g:600<Z.length:=E;refine b7 W W<|cn ?_;rw[aas<|.inl g];have g:¬600<Z.length:=E;refine cm W W ?_ ?_<;>intro g2;have g2:600<D.length:=E;refine b7 W W<|cn ?_;rw[aas<|.inr g2];have g2:¬600<D.length:=E;rw[aaq λh=>h.elim g g2];refine r0 W<|nS W W W ?_ ?_<;>intro b;have e:dG D:=by rw[l,b]at p;simp only[ahI,ag8,abi]at p;exact(oG p.1.1).1
 have q:=yW c;have r:=yW e;obtain⟨K,F⟩:=oV (s:=Z) (by rw[q];exact c);obtain⟨d1,J⟩:=oV (s:=D) (by rw[r];exact e);have m:=xF (s:=Z) (by rw[q];exact c);have o:=xF (s:=D) (by rw[r];exact e);rw[q]at m;rw[r]at o;have m:=dS m (show Z.length<=600 from E);have o:=dS o (show D.length<=600 from E);obtain⟨c1,c2,c3⟩:=Ag _ _ F J m o;refine ck W W (Dj Z (by rw[q];exact c) E) W ?_;refine ck W W (Dj D (by rw[r];exact e) E) W ?_;refine ck W W (aax _ _ F J m o E) W<|ck W W (X8 _) W ?_;have H:=gcd_one c2;have X:nP s=true↔nv (pH (kZ Z)<|kZ D)=1:=by rw[z,b,c1,K,d1,ym c,ym e];simp only[ahI,ag8,decide_eq_true_eq];show _↔((Int.gcd ((cX Z:Nat):Int) ((cX D:Nat):Int):Nat):Int)=1;rw[Int.gcd_natCast_natCast];omega
 refine r0 W<|iC 67 W ?_ ?_<;>intro n;have n:¬ws (pH (kZ Z)<|kZ D)=[]:=by simpa using n
 refine b7 W W<|cn ?_;simp_all;have n:ws (pH (kZ Z)<|kZ D)=[]:=by simpa using n
 refine cm W W ?_ ?_<;>intro C;refine b7 W W<|cn ?_;simp_all;have C:(pH (kZ Z)<|kZ D).s=1:=agE.1 C;refine b7 W W<|cn ?_;simp_all;refine b7 W W<|cn ?_;rw[z,b];rfl
def jO(z:Int):bM (bS z)=decl z.natAbs 1:=by
 have:=Rs z 1;have e:vo z 1=bS z:=by unfold vo eG;simp
 rw[e]at this;rw[this];simp[eG]
def pk(z:Int):isNeg (bS z)=decide (z<0):=by
 have:=Aa z 1;have e:vo z 1=bS z:=by unfold vo eG;simp
 rwa[e]at this
def OX(z:Int):D3 (bS z)=z:=by unfold D3;rw[jO,pk,gn];by_cases h:z<0;rw[decide_eq_true h];show -((z.natAbs:Nat):Int)=z;omega;rw[decide_eq_false h];show((z.natAbs:Nat):Int)=z;omega
def db(q:Rat):Fr:=⟨kZ<|bS q.num,if q.den=1 then⟨1,none⟩else kZ (decl q.den 1)⟩
def yX(n:Nat):bM (decl n 1)=decl n 1:=yW<|cE n 1
def bz(q:Rat):cL (db q) q:=by obtain⟨b,d⟩:=oV (s:=bS q.num) (by rw[jO];exact cE _ 1);obtain⟨a,c⟩:=oV (s:=decl q.den 1) (by rw[yX];exact cE _ 1);rw[OX]at b;rw[ym<|cE _ 1,gn]at a;refine⟨d,?_,b,?_⟩;show bu (if q.den=1 then(⟨1,none⟩:Nm)else kZ (decl q.den 1));split;exact I9;exact c;show nv (if q.den=1 then(⟨1,none⟩:Nm)else kZ (decl q.den 1))=q.den;split;rename_i h;rw[h];rfl;exact a
def Wd{q:Rat}{n:Nat}(h:Dc q n)(hn:1<=n):mc (db q) n:=by have a:=xF (s:=bS q.num) (by rw[jO];exact cE _ 1);have b:=xF (s:=decl q.den 1) (by rw[yX];exact cE _ 1);rw[jO]at a;rw[yX]at b;refine⟨dS a h.1,?_⟩;show gj (if q.den=1 then(⟨1,none⟩:Nm)else kZ (decl q.den 1)) n;split;exact dS (gm (m:=1) fV) hn;exact dS b h.2
def JB(q:Rat){n:Nat}(c:Dc q n)(hn:n<2^19):ab 123 [.s<|qt q] (eF<|db q):=by
 have j:(bS q.num).length<=n+1:=by
  have:=jO q.num;have d:(bS q.num).length<=(bM<|bS q.num).length+1:=by unfold bM;grind
  rw[this]at d;have:=c.1;omega
 have i:=c.2;have b:(qt q).length<=2*n+2:=by
  unfold qt vo eG
  grind
 have hs:aE (qt q)=(bS q.num).length:=mq _ _;refine cp func123 W<|ck W W (aaG (qt q) E) W ?_;have e:(qt q).take (aE<|qt q)=bS q.num:=by rw[hs];exact tB _ _
 rw[e];refine r0 W<|nS W W W ?_ ?_<;>intro h;have a:q.den=1:=by
  by_cases g:q.den=1;exact g;exfalso;have h:¬aE (qt q)<(qt q).length:=by simpa using h
  apply h;rw[hs];unfold qt vo;rw[qI g];simp
 refine ck W W (Dj (bS q.num) (by rw[jO];exact cE _ 1) E) W ?_;refine ck W W (bG.Ir _) W<|b7 W W<|aw.of_eq ?_;unfold db;rw[aas a];rfl;have a:q.den≠1:=by
  intro g;have h:aE (qt q)<(qt q).length:=by simpa using h
  rw[hs]at h;unfold qt vo eG at h;simp_all
 have f:(qt q).drop (aE (qt q)+1)=decl q.den 1:=by rw[hs];exact uy _ _ a
 rw[f];refine ck W W (Dj (bS q.num) (by rw[jO];exact cE _ 1) E) W ?_;refine ck W W (Dj (decl q.den 1) (by rw[yX];exact cE _ 1) E) W ?_;refine b7 W W<|aw.of_eq ?_;unfold db;rw[aaq a];rfl
def kL{s:cq}(h:aQ s=0):ab 123 [.s s] (eF<|db<|bQ s):=by have:=JB (bQ s) (Az h) fV;rwa[fW h]at this
def gG{s:cq}(h:aQ s=0):mc (db<|bQ s) 600:=Wd (Az h) fV
def ab7(xs:L cq)(d:∀s∈xs,dI s)(hl:xs.length<2^60):ab 288 [.strs false xs,.fn (.func 122) [] []] (.i<|aG aQ xs):=by refine cp func288 W<|r0 W<|ba (λi:Nat=>[(1,.fn (.func 122) [] []),(8,.strs false xs),(9,.i xs.length),(10,.i i)]) (λi=>i<=xs.length/\aG aQ xs=aG aQ (xs.drop i)) (λi=>xs.length-i) 0 ⟨aaQ _,W⟩ ?_;rintro i⟨hi,b⟩;refine cm W W ?_ ?_<;>intro h;have a:i<xs.length:=E;have e:(i:Int).toNat=i:=E;rw[cP _ a]at b;have f:xs.getD (i:Int).toNat []=xs[i]:=fP;refine r1 W (by simp[aj,e];omega) ?_;refine Gm (us:=[.s xs[i]]) W W U ⟨aaf SV.s f,U⟩ (vh xs[i]<|d _<|aaZ a) W<|cm W W ?_ ?_<;>intro c;refine b7 W W<|cn ?_;rw[b,aas c];refine r1 W (by simp[aj,aag];omega) ?_;refine aM (i+1) ⟨E,?_⟩;rw[b,aaq c];refine b7 W W<|cn ?_;rw[b,aew E];rfl
def WW(xs:L cq)(a:∀s∈xs,dI s)(hl:xs.length<2^60):ab 223 [.strs false xs] (.i<|aG aQ xs):=by refine cp func223 W<|ck W W (ab7 xs a hl) W<|cg W W
def xc(b:Bool)(e:Int):ab 224 [.u b,.i e] (.i<|if b then e else 0):=by refine cp func224 W<|r0 W<|nS W W W ?_ ?_<;>intro h;refine b7 W W<|cn ?_;rw[h];rfl;refine b7 W W<|cn ?_;rw[h];rfl
def Uq(s:jh)(g:dI s.lo)(f:dI s.hi):ab 126 [fA s] (.i<|dQ s):=by
 refine cp func126 W<|ck W W (WW [s.lo,s.hi] (λx e=>by grind) I) W ?_;have d:aG aQ [s.lo,s.hi]=if aQ s.lo≠0 then aQ s.lo else if aQ s.hi≠0 then aQ s.hi else 0:=W;rw[d];refine cm W W ?_ ?_<;>intro h;refine b7 W W<|cn ?_;unfold dQ;omega;have a:aQ s.lo=0:=by omega
 have b:aQ s.hi=0:=by omega
 have c:dQ s=if 0<wW (bQ s.lo) (bQ s.hi)then 11 else 0:=by unfold dQ;omega
 refine cj W W (kL a) W<|cj W W (kL b) W<|bX W (JK _ _ (bz _) (bz _) (gG a) (gG b) fV) W<|cj W W (xc _ 11) W<|k0 W aP<|aH W<|cn ?_;rw[c,KC];have hc:=mR (p:=bQ s.lo) (q:=bQ s.hi)
 grind
def VK(a b:Int)(f:Nat)(p:SV):SV:=.agg [.i a,.i b,.fn (.func f) [] [],p]
def kI:SV:=VK 2 2 290 (.c .nilFunc)
def kA:SV:=VK 1 8 289 (.fn (.func 291) [] [])
def kT:SV:=VK 1 1 289 (.fn (.func 292) [] [])
def HF:jj cq:=[(bF,kI),(kg,kA),(eJ,kT)]
def Jo:ab 226 [] (.mx HF):=by refine cp func226 W<|r0 W<|ex W W W (sw (κ:=cq) W) W<|r0 W<|ex W W W (rY (k:=bF) (x:=kI) (.inl W) W underlying309 underlying9 W W) W<|r0 W<|ex W W W (rY (k:=kg) (x:=kA) (.inl W) W underlying309 underlying9 W W) W<|r0 W<|ex W W W (rY (k:=eJ) (x:=kT) (.inl W) W underlying309 underlying9 W W) W<|cg W W
def Ef:pr bF HF=some kI:=W
def Eg:pr kg HF=some kA:=W
def Ee:pr eJ HF=some kT:=W
def Tb{k:cq}(f:k≠bF)(d:k≠kg)(c:k≠eJ):pr k HF=none:=by
 have e:∀{a b:cq},a≠b->qL a b=false:=by
  intro a b h;cases hh:qL a b with
  |false=>rfl
  |true=>exact aaF (qK.1 hh) h
 simp[HF,pr,Mk.eq,e f,e d,e c]
def Nl(p:jZ)(u:bN)(hu:UOk u):ab 162 [bI p,dZ u] (.i<|gL p.n u):=by
 have H:=hu.ai;have F:=hu.cW;refine cp func162 W<|cQ 6 [(2,.box true<|bI p),(3,.box true<|dZ u)] ((u.kind=bF\/u.kind=kg\/u.kind=eJ)/\¬j8 u (Cd u) (vJ u)) ?_ ?_;refine cj W W Jo W<|r0 W ?_;have m:(u.kind=bF\/u.kind=kg\/u.kind=eJ)->j8 u (Cd u) (vJ u)->2=gL p.n u:=by intro y hh;unfold gL;rw[aaq λh=>y.elim h.1 λk=>k.elim h.2.1 h.2.2,aas hh]
 by_cases e:u.kind=bF;have hl:Cd u=2:=by unfold Cd;rw[aas e]
 have hh:vJ u=2:=by unfold vJ;rw[aas e]
 have j:¬u.kind=eJ:=by rw[e];decide
 refine SO (.bU [kI,.b true]) W W W (lV (k:=u.kind) (x:=kI) underlying309 underlying9 (by rw[e];exact Ef) true) W ?_;refine k0 W aP<|bY W (λh=>aaF h j) λ_=>?_;refine b6 W 47 W ?_ ?_<;>intro r;refine b7 W W<|aij SV.i<|m (.inl e) ?_;rw[hl,hh];exact .inl r;refine b6 W 55 W ?_ ?_<;>intro o;refine b7 W W<|aij SV.i<|m (.inl e) ?_;rw[hl,hh];exact .inr<|.inl o;refine r0 W<|nS W W W ?_ ?_<;>intro g;refine b7 W W<|aij SV.i<|m (.inl e) ?_;have g:¬(u.cW.length:Int)=0:=by simpa using g
 exact .inr<|.inr<|.inr ⟨j,E⟩;have g:(u.cW.length:Int)=0:=by simpa using g
 refine r0 W<|bm ⟨.inl e,?_⟩;rw[hl,hh];rintro(q|q|q|q);exact r q;exact o q;exact j q.1;omega;by_cases e:u.kind=kg;rename_i w;have hl:Cd u=1:=by unfold Cd;rw[aaq w]
 have hh:vJ u=8:=by unfold vJ;rw[aaq w,aas e]
 have j:¬u.kind=eJ:=by rw[e];decide
 refine SO (.bU [kA,.b true]) W W W (lV (k:=u.kind) (x:=kA) underlying309 underlying9 (by rw[e];exact Eg) true) W ?_;refine k0 W aP<|bY W (λh=>aaF h j) λ_=>?_;refine b6 W 47 W ?_ ?_<;>intro r;refine b7 W W<|aij SV.i<|m (.inr<|.inl e) ?_;rw[hl,hh];exact .inl r;refine b6 W 55 W ?_ ?_<;>intro o;refine b7 W W<|aij SV.i<|m (.inr<|.inl e) ?_;rw[hl,hh];exact .inr<|.inl o;refine r0 W<|nS W W W ?_ ?_<;>intro g;refine b7 W W<|aij SV.i<|m (.inr<|.inl e) ?_;have g:¬(u.cW.length:Int)=0:=by simpa using g
 exact .inr<|.inr<|.inr ⟨j,E⟩;have g:(u.cW.length:Int)=0:=by simpa using g
 refine r0 W<|bm ⟨.inr<|.inl e,?_⟩;rw[hl,hh];rintro(q|q|q|q);exact r q;exact o q;exact j q.1;omega;rename_i w;by_cases d:u.kind=eJ;have hl:Cd u=1:=by unfold Cd;rw[aaq w]
 have hh:vJ u=1:=by unfold vJ;rw[aaq w,aaq e]
 refine SO (.bU [kT,.b true]) W W W (lV (k:=u.kind) (x:=kT) underlying309 underlying9 (by rw[d];exact Ee) true) W ?_;refine k0 W aP<|bY W (λ_=>?_) λh=>aaF d h;refine b6 W 35 W ?_ ?_<;>intro g1;refine b6 W 47 W ?_ ?_<;>intro r;refine b7 W W<|aij SV.i<|m (.inr<|.inr d) ?_;rw[hl,hh];exact .inl r;refine b6 W 55 W ?_ ?_<;>intro o;refine b7 W W<|aij SV.i<|m (.inr<|.inr d) ?_;rw[hl,hh];exact .inr<|.inl o;refine r0 W<|nS W W W ?_ ?_<;>intro g;have g:¬(u.cW.length:Int)<=13:=by simpa using g
 refine b7 W W<|aij SV.i<|m (.inr<|.inr d)<|.inr<|.inr<|.inl ⟨d,E⟩;have g:(u.cW.length:Int)<=13:=by simpa using g
 refine r0 W<|bm ⟨.inr<|.inr d,?_⟩;rw[hl,hh];rintro(q|q|q|q);exact r q;exact o q;have:=q.2;omega;exact q.1 d;refine r0 W ?_;have t:j8 u (Cd u) (vJ u):=.inr<|.inr<|.inl ⟨d,E⟩;refine aF 47 W ?_ ?_<;>intro r;refine b7 W W<|aij SV.i<|m (.inr<|.inr d) t;refine b6 W 55 W ?_ ?_<;>intro o;refine b7 W W<|aij SV.i<|m (.inr<|.inr d) t;refine b7 W W<|aij SV.i<|m (.inr<|.inr d) t;obtain⟨i,i1,C⟩:∃i,prog.info? 308=some i/\i.zero=some (.agg #[.int .i64 0,.int .i64 0,.nilFunc,.nilFunc]):=⟨_,W,W⟩;refine SO (.bU [.agg [.i 0,.i 0,.c .nilFunc,.c .nilFunc],.b false]) W W W (uf (k:=u.kind) (x:=.agg [.i 0,.i 0,.c .nilFunc,.c .nilFunc]) underlying309 underlying9 (Tb w e d) i1 C (λ_ _=>(xe W).1) true) W<|k0 W aP<|aH W<|aij SV.i<|by unfold gL;rw[aas ⟨w,e,d⟩]
 rintro⟨y,m⟩;have v:gL p.n u=if aG (gV p.n) u.ai≠0 then aG (gV p.n) u.ai
  else if u.out<1\/p.n<=u.out then 10
  else if aQ u.k≠0 then aQ u.k else aG aQ u.cW:=by
  unfold gL;rw[aaq λh=>y.elim h.1 λk=>k.elim h.2.1 h.2.2,aaq m]
 refine cQ 1 [(2,.box true<|bI p),(3,.box true<|dZ u)] (aG (gV p.n) u.ai=0) ?_ λD=>?_;refine r0 W<|ba (λi:Nat=>[(2,.box true<|bI p),(3,.box true<|dZ u),(60,aie u.ai),(61,.i u.ai.length),(62,.i i)]) (λi=>i<=u.ai.length/\aG (gV p.n) u.ai=aG (gV p.n) (u.ai.drop i)) (λi=>u.ai.length-i) 0 ⟨aaQ _,W⟩ ?_;rintro i⟨hi,s⟩;refine cm W W ?_ ?_<;>intro e;have l:i<u.ai.length:=E;have B:(i:Int).toNat=i:=E;have J:u.ai.getD i default=u.ai[i]:=az l;rw[cP _ l]at s;have z:=hu.dU _<|aaZ l;refine r1 W (by simp only[aj,aag,B];omega) ?_;rw[B,J];generalize u.ai[i]=f at*;refine bX W (zZ p _) W<|cj W W (lI _ 10) W<|cj W W (vh f.dU z) W<|cj W W (lI _ 6) W<|cj W W (p7 _ I) W<|k0 W aP ?_;have he:aG id [if !mu p.n f.sh then(10:Int)else 0,aQ f.dU,if decide (f.dU=[48])then 6 else 0]=gV p.n f:=by
  unfold gV mu;by_cases a:f.sh<0\/p.n<=f.sh;rw[aas a,decide_eq_false E];rfl;rw[aaq a,decide_eq_true E];by_cases b:aQ f.dU≠0;rw[aas b];simp[aG,b];rw[aaq b];have b:aQ f.dU=0:=by simpa using b
  have:f.dU=[48]↔bQ f.dU=0:=by have:=IY (q:=bQ f.dU);rwa[fW b]at this
  by_cases c:bQ f.dU=0;rw[aas c,decide_eq_true<|this.2 c];simp[aG,b];rw[aaq c,decide_eq_false λh=>c<|this.1 h];simp[aG,b]
 rw[show aG id [if !mu p.n f.sh then(10:Int)else 0,aQ f.dU,if decide (f.dU=[48])then 6 else 0]=gV p.n f from he];refine bY W ?_ ?_<;>intro d;refine b7 W W<|cn ?_;rw[aas d]at s;rw[v,aas<|by rw[s];exact d,s];refine r1 W (by simp only[aj,aag];omega) ?_;refine aM (i+1) ⟨E,?_⟩;rw[s,aaq d];refine r0 W<|bm ?_;rw[s,aew E];rfl;rw[aaq<|by rw[D];simp]at v;have y:=hu.k;refine cQ 1 [(3,.box true<|dZ u)] (gL p.n u=aG aQ u.cW) ?_ λA=>?_;refine b6 W 88 W ?_ ?_<;>intro e;refine cj W W (lI true 10) W<|cj W W (vh u.k y) W<|cj W W (p7 _ I) W<|k0 W aP<|bY W (λd=>?_) λd=>aaF (by simp[aG]) d;refine b7 W W<|cn ?_;rw[v,aas<|show u.out<1\/p.n<=u.out from .inl E];simp[aG];refine cj W W (zZ p _) W<|cj W W (lI _ 10) W<|cj W W (vh u.k y) W<|cj W W (p7 _ I) W<|k0 W aP ?_;have he:aG id [if !mu p.n u.out then(10:Int)else 0,aQ u.k]=if u.out<1\/p.n<=u.out then 10 else if aQ u.k≠0 then aQ u.k else 0:=by unfold mu;by_cases a:u.out<1\/p.n<=u.out;rw[aas a,decide_eq_false E];rfl;rw[aaq a,decide_eq_true E];by_cases b:aQ u.k≠0;rw[aas b];simp[aG,b];rw[aaq b];simp at b;simp[aG,b]
 rw[he];refine bY W ?_ ?_<;>intro d;refine b7 W W<|cn ?_;rw[v];by_cases a:u.out<1\/p.n<=u.out;rw[aas a,aas a];rw[aaq a]at d;rw[aaq a,aaq a];by_cases b:aQ u.k≠0;rw[aas b,aas b];rw[aaq b]at d;exact aaF W d;refine r0 W<|bm ?_;rw[v];by_cases a:u.out<1\/p.n<=u.out;rw[aas a]at d;simp at d;rw[aaq a]at d⊢;by_cases b:aQ u.k≠0;rw[aas b]at d;exact aaF b d;rw[aaq b];refine r0 W<|ba (λi:Nat=>[(3,.box true<|dZ u),(105,.strs false u.cW),(106,.i u.cW.length),(107,.i i)]) (λi=>i<=u.cW.length/\aG aQ u.cW=aG aQ (u.cW.drop i)) (λi=>u.cW.length-i) 0 ⟨aaQ _,W⟩ ?_;rintro i⟨hi,s⟩;refine cm W W ?_ ?_<;>intro e;have l:i<u.cW.length:=E;have B:(i:Int).toNat=i:=E;rw[cP _ l]at s;refine r1 W (by simp only[aj,aag,B];omega) ?_;refine Gm (us:=[.s u.cW[i]]) W W U ⟨aaf SV.s<|by rw[B];exact az l,U⟩ (vh u.cW[i]<|hu.N0 _<|aaZ l) W ?_;refine cm W W ?_ ?_<;>intro d;refine b7 W W<|cn ?_;rw[A,s,aas d];refine r1 W (by simp only[aj,aag];omega) ?_;refine aM (i+1) ⟨E,?_⟩;rw[s,aaq d];refine b7 W W<|cn ?_;rw[A,s,aew E];rfl
def DE(x y:Nat)(b:x<18446744073709551616)(a:y<18446744073709551616):ab 207 [.n .u64 x,.n .u64 y] (.bU [.n .u64 (x*y/18446744073709551616:Nat),.n .u64 (x*y%18446744073709551616:Nat)]):=by refine cp func207 W<|ck W W (ll x y b a) W<|cg W W
def K9{α:Type _}(x z:α){m r k:Nat}(b:k<=m)(a:k<=r):(List.replicate m x++List.replicate r z).take m++(List.replicate m x++List.replicate r z).take k++(List.replicate m x++List.replicate r z).drop (m+k)=List.replicate (m+k) x++List.replicate (r-k) z:=by rw[List.take_append,List.take_append,ahv];simp_all
def G9(x:Int)(n:Nat)(d:1<=n)(hn:n<2^20):ab 113 [fO [x],.i n] (fR<|List.replicate n x):=by
 refine cp func113 W<|cm W W (λh=>E) λh=>?_;refine kw [15,17] W W U<|Gm (us:=[.n .u64 (1:Nat),.n .u64 n]) W W U ⟨W,aaf (SV.n .u64)<|wr E,U⟩ (DE 1 n fV E) W ?_;rw[Nat.one_mul,ae5 (E:n<18446744073709551616),afz (E:n<18446744073709551616)];refine b6 W 23 W (λh=>E) λh=>?_;refine cm W W (λh=>E) λh=>?_;refine r1 W bh<|ex W W W (WI (P:=prog) (ti:=⟨false,1,8,.v<|.int .i64 0⟩) W W underlying23 W W W (by simp;omega) I (n:=1) fP) W ?_;refine b9 W (λm:Nat=>[(7,fR<|List.replicate m x++List.replicate (n-m) 0),(8,.i m)]) (λm=>1<=m/\m<=n) (λm=>n-m) 1 ⟨aaU _,d⟩ ⟨⟨W,aij (fR) I⟩,G,U⟩ ?_;rintro m⟨g,f⟩;have a:(List.replicate m x++List.replicate (n-m) (0:Int)).length=n:=fP;refine cm W W ?_ ?_<;>intro b;have b:m<n:=by rw[a]at b;omega
 refine rno 6 W U<|wnd W W ?_ ?_;simp[aj,app,aag,a];omega;refine rno 2 W U<|wnd W W ?_ ?_;simp[aj,app,aag,a];omega;have c:List.replicate m x++List.replicate (n-m) (0:Int)≠[]:=λe=>fP;refine FL W W W (ji.same (Pt (P:=prog) (ti:=⟨false,1,8,.v<|.int .i64 0⟩) (k:=.i64) (xs:=List.replicate m x++List.replicate (n-m) (0:Int)) W W underlying23 W W W c (off:=m) (m1:=n-m) (m2:=m) (n:=min m<|n-m) W (by rw[a];omega) (by rw[a];omega) E E) W ?_ W W) W ?_;simp;refine k1 W aP bh ?_;rw[K9 x 0 (Nat.min_le_left _ _)<|Nat.min_le_right _ _];refine again (m+min m (n-m)) E E ⟨⟨W,aij (fR) ?_⟩,⟨W,cn ?_⟩,U⟩
 congr 2;omega
 omega;have b:n<=m:=by rw[a]at b;omega
 refine b7 W W<|aij (fR) ?_;simp_all
def zF:SV:=.agg [.i 0,.nil,.i 0,.nil]
def tiF:zj:=⟨true,4,64,zF⟩
def uR{x:SV}(h:x.aK=true):∀n,ij (List.replicate n x)=true
 |0=>rfl
 |n+1=>by simp[agL,ij,h];exact uR h n
def UO{x:SV}(h:x.aK=true)(m n:Nat):ij (List.replicate m x++List.replicate n zF)=true:=by
 induction m with
 |zero=>simpa using uR fV n
 |succ m a=>simp[agL,ij,h];exact a
def UP{x:SV}(h:ns tiF x=true)(m n:Nat):∀y∈List.replicate m x++List.replicate n zF,ns tiF y=true:=by intro y a;rcases ac6.1 a with a|a;simp_all;rw[(ah6.1 a).2];rfl
def R5(x:SV)(f:ns tiF x=true)(c:x.aK=true)(n:Nat)(g:1<=n)(hn:n<2^20):ab 246 [.row false 4 [x],.i n] (.row true 4 (List.replicate n x)):=by
 refine cp func246 W<|cm W W (λh=>E) λh=>?_;refine kw [15,17] W W U<|Gm (us:=[.n .u64 (1:Nat),.n .u64 n]) W W U ⟨W,aaf (SV.n .u64)<|wr E,U⟩ (DE 1 n fV E) W ?_;rw[Nat.one_mul,ae5 (E:n<18446744073709551616),afz (E:n<18446744073709551616)];refine b6 W 23 W (λh=>E) λh=>?_;refine cm W W (λh=>E) λh=>?_;refine r1 W bh<|ex W W W (WH (P:=prog) (ti':=tiF) W W underlying168 W (by simp;omega) I (uR fV _) (by simpa using f) (n:=1) fP) W ?_;refine b9 W (λm:Nat=>[(7,.row true 4 (List.replicate m x++List.replicate (n-m) zF)),(8,.i m)]) (λm=>1<=m/\m<=n) (λm=>n-m) 1 ⟨aaU _,g⟩ ⟨⟨W,aij (SV.row true 4)<|by rw[List.drop_replicate,agc];rfl⟩,G,U⟩ ?_;rintro m⟨k,j⟩;have a:(List.replicate m x++List.replicate (n-m) zF).length=n:=fP;refine cm W W ?_ ?_<;>intro b;have b:m<n:=by rw[fk,a]at b;omega
 refine rno 6 W U<|wnd W W ?_ ?_;simp[aj,app,aag,fk,a];omega;refine rno 2 W U<|wnd W W ?_ ?_;simp[aj,app,aag,fk,a];omega;have d:List.replicate m x++List.replicate (n-m) zF≠[]:=λe=>fP;refine FL W W W (ji.same (Ps (P:=prog) (ti':=tiF) (xs:=List.replicate m x++List.replicate (n-m) zF) W W underlying168 W d (UO c _ _) (UP f _ _) (off:=m) (m1:=n-m) (m2:=m) (n:=min m<|n-m) W (by rw[a];omega) (by rw[a];omega) E E) W ?_ W W) W ?_;show aB [_,_]=aB [SV.bw 1000000 0 0 [Step.nF 4 (m:Int).toNat<|len (List.replicate m x++List.replicate (n-m) zF)-(m:Int).toNat],SV.bw 1000000 0 0 [Step.nF 4 0 ((m:Int).toNat-0)]];rw[fk,a,agc,agT];rfl;refine k1 W aP bh ?_;rw[K9 x zF (Nat.min_le_left _ _)<|Nat.min_le_right _ _];refine again (m+min m (n-m)) E E ⟨⟨W,aij (SV.row true 4) ?_⟩,⟨W,cn ?_⟩,U⟩
 congr 2;omega
 omega;have b:n<=m:=by rw[fk,a]at b;omega
 refine b7 W W<|aij (SV.row true 4) ?_;simp_all
def ri(s:Int)(u:bN):∀(xs:L bN)(k:Nat),cV s k (xs++[u])=if 0<=cV s k xs then cV s k xs else if u.out=s then((k+xs.length:Nat):Int)else -1
 |[],k=>by simp[cV]
 |x::xs,k=>by simp[cV];by_cases h:x.out=s;simp[h];simp[ri s u xs<|k+1];omega
def rf{s:Int}:∀{xs:L bN}{k:Nat},0<=cV s k xs↔1<=xs.countP λu=>decide (u.out=s)
 |[],k=>by simp[cV]
 |x::xs,k=>by simp[cV,List.countP_cons];by_cases h:x.out=s;simp[h];simp only[h,if_false,rf (xs:=xs) (k:=k+1)];omega
def As{s:Int}:∀{xs:L bN}{k:Nat},¬0<=cV s k xs->cV s k xs= -1
 |[],k,_=>rfl
 |x::xs,k,h=>by simp only[cV]at h⊢;by_cases g:x.out=s;omega;rw[aaq g]at h⊢;exact As h
def EX{xs:L bN}{i:Nat}(h:i<xs.length)(P:bN->Bool):(xs.take<|i+1).countP P=(xs.take i).countP P+if P xs[i]then 1 else 0:=by rw[ace h,ag0,ahM]
def NL(n:Nat)(us:L bN):L Int:=(List.range n).map λ(s:Nat)=>gE us (s:Int)
def ZS{n s:Nat}{us:L bN}(h:s<n):(NL n us).getD s 0=gE us s:=by unfold NL;simp_all
def vO:Int->List bN->List Int->List Int×Bool
 |_,[],L=>(L,!decide (-1∈L.drop 1))
 |k,u::r,L=>if 0<=L.getD u.out.toNat 0 then(L,false)else vO (k+1) r (L.set u.out.toNat k)
def JQ(n:Nat)(us:L bN):L Int×Bool:=vO 0 us<|List.replicate n<|-1
def HV(p:jZ)(h:AS p)(n:Nat)(hn:p.n=n)(k:1<=n)(e:n<2^20)(j:∀u∈p.aa,1<=u.out/\u.out<n):ab 165 [bI p] (.bU [fO (JQ n p.aa).1,.u (JQ n p.aa).2]):=by have hl:=h.aa;refine cp func165 W<|r0 W<|Gm (us:=[fO [-1],.i n]) W W U ⟨W,aaf SV.i hn,U⟩ (G9 (-1) n k e) W<|r0 W<|lp (λ(i:Nat)(a:L Int)=>[(4,fR a),(12,aic p.aa),(13,.i p.aa.length),(14,.i i)]) (λi a=>i<=p.aa.length/\a.length=n/\JQ n p.aa=vO i (p.aa.drop i) a) (λi _=>p.aa.length-i) 0 (List.replicate n<|-1) ⟨aaQ _,I,W⟩ ⟨G,G,G,G,U⟩ ?_;rintro i a⟨hi,d,c⟩;refine cm W W ?_ ?_<;>intro g1;have b:i<p.aa.length:=E;have f:(i:Int).toNat=i:=E;have g:p.aa.getD i default=p.aa[i]:=az b;rw[acJ b,vO]at c;have hu:=j _<|aaZ b;refine r1 W (by simp only[aj,aag,f,g,d];omega) ?_;rw[f,g];refine bY W ?_ ?_<;>intro g2;have g2:0<=a.getD p.aa[i].out.toNat 0:=g2;rw[aas g2]at c;refine r0 W<|RY W ?_;rw[c];exact⟨W,W,U⟩;have g2:¬0<=a.getD p.aa[i].out.toNat 0:=g2;rw[aaq g2]at c;refine r1 W (by simp[aj,aag,d];omega) ?_;refine aM (i+1,a.set p.aa[i].out.toNat i) ⟨by dsimp only;omega,by simpa using d,by simpa using c⟩;rw[aew E,vO]at c;refine r1 W (by simp[aj,aag,d];omega) ?_;refine bW W (Pw _ (-1)<|by simp;omega) W ?_;refine r0 W<|RY W ?_;rw[c];have:((a.drop (1:Int).toNat).take<|a.length-(1:Int).toNat)=a.drop 1:=acD I;refine⟨W,?_,U⟩;show(!decide (-1∈(a.drop (1:Int).toNat).take (a.length-(1:Int).toNat)))= !decide (-1∈a.drop 1);rw[this]
def Pj(n:Nat)(us:List bN)(D:1<=n)(y:∀u∈us,1<=u.out/\u.out<n):∀(i:Nat)(L:List Int),i<=us.length->L.length=n->(∀s:Nat,s<n->L.getD s 0=gE (us.take i) s)->(∀s:Nat,((us.take i).countP λu=>decide (u.out=(s:Int)))<=1)->
 ((vO i (us.drop i) L).2=true↔wU n us)/\((vO i (us.drop i) L).2=true->(vO i (us.drop i) L).1=NL n us):=by
 intro i
 induction hm:us.length-i generalizing i with
 |zero=>
  intro L hi p f hc;have B:us.take i=us:=acD E;rw[B]at f hc;rw[aew E];simp only[vO,af8,decide_eq_false_iff_not];have a:¬ -1∈L.drop 1↔wU n us:=by
   constructor;intro hn s x w;have:0<=gE us s:=afw λl=>by refine hn<|ahm.2 ⟨s-1,by simp;omega,?_⟩;rw[List.getElem_drop];have e:1+(s-1)=s:=E;simp[e];have A:gE us s= -1:=As l;simp_all
   have r:=rf.1 this;have q:=hc s;omega;intro d a;obtain⟨j,z,e⟩:=ahm.1 a;rw[List.getElem_drop]at e;simp at z;have c:=f (1+j) E;rw[acO,acL E,Option.getD_some,e]at c;have r:=d (1+j) E E;have q:=(rf (s:=((1+j:Nat):Int)) (xs:=us) (k:=0)).2 E;unfold gE at c;omega
  refine⟨a,λ_=>?_⟩;apply agd;simp[NL,p];intro s k1 k2;have c:=f s E;rw[acO,acL k1,Option.getD_some]at c;simp[NL,c]
 |succ m v=>
  intro L hi p f hc;have b:i<us.length:=E;have hu:=y _<|aaZ b;have t:((us[i].out.toNat:Nat):Int)=us[i].out:=E;rw[acJ b,vO];have o:=f us[i].out.toNat E;rw[t]at o;by_cases g:0<=L.getD us[i].out.toNat 0;rw[aas g];refine⟨⟨λh=>by simp at h,λd=>?_⟩,λh=>by simp at h⟩;rw[o]at g;have c:=rf.1 g;have r:=d us[i].out.toNat E E;rw[t]at r;have q:=EX b λu=>decide (u.out=us[i].out);simp[decide_true,if_true]at q;have A:((us.take<|i+1).countP λu=>decide (u.out=us[i].out))<=us.countP λu=>decide (u.out=us[i].out):=List.Sublist.countP_le<|List.take_sublist _ _;omega;rw[aaq g];have:=v (i+1) E (L.set us[i].out.toNat i) E (by simpa using p) ?_ ?_;simpa using this;intro s hs;rw[acO,agH];rw[ace b];unfold gE;rw[ri];have c:=f s hs;rw[acO]at c;by_cases e:us[i].out.toNat=s;subst e;rw[o]at g;unfold gE at g
  grind
  rw[aaq e,c];have C:¬us[i].out=(s:Int):=E;rw[aaq C];by_cases g2:0<=cV (s:Int) 0 (us.take i);rw[aas g2];rfl;rw[aaq g2];exact As g2;intro s;rw[EX b];have c:=hc s;by_cases e:us[i].out=(s:Int);have g2:¬0<=cV us[i].out 0 (us.take i):=by rw[o]at g;exact g
  rw[rf]at g2;simp_all;simp_all
def HU{n:Nat}{us:L bN}(b:1<=n)(a:∀u∈us,1<=u.out/\u.out<n):((JQ n us).2=true↔wU n us)/\((JQ n us).2=true->(JQ n us).1=NL n us):=by have:=Pj n us b a 0 (List.replicate n<|-1) (aaQ _) I (λs hs=>by simp[hs,gE,cV]) λs=>I;simpa[JQ]using this
def f0:Fr:=⟨⟨0,none⟩,⟨1,none⟩⟩
instance:Inhabited Fr:=⟨f0⟩
def Wl:cL f0 0:=⟨by simp[f0,bu],by simp[f0,bu],W,W⟩
def mg(n:Nat)(us:L bN):L Fr:=us.foldl (λ(o:L Fr)u=>o.set u.out.toNat<|db<|bQ u.k)<|List.replicate n f0
def y9(n:Nat)(us:L bN):(mg n us).length=n:=by
 unfold mg;have:∀(us:L bN)(o:L Fr),(us.foldl (λ(o:L Fr)u=>o.set u.out.toNat<|db<|bQ u.k) o).length=o.length:=by
  intro us
  induction us with
  |nil=>intro o;rfl
  |cons u us a=>intro o;rw[aeC,a];simp
 rw[this];simp
def TD{n:Nat}{us:L bN}{i:Nat}(h:i<us.length):mg n (us.take<|i+1)=(mg n<|us.take i).set us[i].out.toNat (db<|bQ us[i].k):=by unfold mg;rw[ace h,afv];rfl
def x0:SV:=.agg [.i 0,.nil,.i 1,.nil]
def map_unit{x:SV}:∀n,aB (List.replicate n x)=(List.replicate n ()).map λ_=>x.den
 |0=>rfl
 |n+1=>by simp[agL,aB,map_unit n]
def R6(n:Nat)(a:1<=n)(hn:n<2^20):ab 246 [.row false 4 [eF f0],.i n] (.bc true 4 () (λ_=>x0)<|List.replicate n ()):=(R5 x0 W W n a hn).same W (by simp only[SV.den];rw[map_unit])
def Rw(p:jZ)(h:AS p)(n:Nat)(hn:p.n=n)(g:1<=n)(c:n<2^20)(hu:∀u∈p.aa,iq p.n u):ab 167 [bI p] (.bc true 4 f0 eF<|mg n p.aa):=by have hl:=h.aa;refine cp func167 W<|cj W W (f_s 0) W<|r0 W ?_;have e:=R6 n g c;rw[<-hn]at e;refine W2 W W U e W ⟨λ_=>rfl,U⟩<|k0 W aP<|sY [(3,.bc true 4 f0 eF<|List.replicate n f0),(12,aic p.aa),(13,.i p.aa.length),(14,.i 0)] ⟨⟨W,W,.bc ?_⟩,ak,ak,ak,U⟩ ?_;rw[agB,agB];exact mh.rep (.agg<|.cons (.refl _)<|.cons (.le<|show aw .nil (.eI .u64 [])from W)<|.cons (.refl _)<|.cons (.le<|show aw .nil (.eI .u64 [])from W) .nil) n;refine ba (λi:Nat=>[(3,.bc true 4 f0 eF<|mg n<|p.aa.take i),(12,aic p.aa),(13,.i p.aa.length),(14,.i i)]) (λi=>i<=p.aa.length) (λi=>p.aa.length-i) 0 (aaQ _) ?_;intro i hi;refine cm W W ?_ ?_<;>intro g1;have a:i<p.aa.length:=E;have f:(i:Int).toNat=i:=E;have j:p.aa.getD i default=p.aa[i]:=az a;have d:=hu _<|aaZ a;have k:=d.out;have b:=y9 n<|p.aa.take i;refine r1 W (by simp[aj,aag,f];omega) ?_;rw[f,j];refine bX W (kL d.k) W<|k1 W aP (by simp[aj,aag,b]<;>omega) ?_;refine again (i+1) E E ⟨⟨W,?_⟩,G,G,G,U⟩;refine⟨W,W,?_⟩;rw[TD a,aeE];exact kS.refl _;refine b7 W W<|aw.of_eq ?_;rw[acD E];rfl
def Fm(l:L cq):ab 247 [.strs false l] (.fn (.func 314) [] [.box false<|.strs false l]):=by refine cp func247 W<|cQ 1 [(1,.box true<|.strs false l)] True ?_ λ_=>?_;refine r0 W<|bm U;refine oQ (r:=1) (p:=[]) W W U<|cg W W
def BY(l:L cq)(hl:l.length<2^40)(C:Value->Prop)(J:Nat->qg)(b:∀v,C v->∀k,k<l.length->Yields prog (J k) (J<|k+1) (aB [.i ((l.length-1-k:Nat):Int),.s<|l.getD (l.length-1-k) []]) true v):
 iQ prog 314 [.abs<|J 0] [.pv C,.box false<|.strs false l] [.abs<|J l.length] (.bU []):=by
 refine mF (fn:=Tryz.f314) func314 W W W W W<|r1 W (by simp[aj];omega) ?_;refine loop (λk:Nat=>[(0,.pv C),(1,.box false<|.strs false l),(3,.i<|l.length-1-k),(1000000,.abs<|J k)]) (λk=>k<=l.length) (λk=>l.length-k) 0 (aaQ _) ⟨G,G,⟨W,aij SV.i E⟩,W,U⟩ ?_;intro k e;refine cm W W ?_ ?_<;>intro g;have a:k<l.length:=E;have d:((l.length:Int)-1-k)=((l.length-1-k:Nat):Int):=E;rw[d];refine r1 W (by simp[aj];omega) ?_;refine yk W W U (λv c=>b v c k a) W<|r0 W<|nS W W W (λh=>by cases h) λ_=>?_;refine r1 W (by simp[aj,aag];omega) ?_;refine again (k+1) E E ⟨G,G,⟨W,aij SV.i E⟩,W,U⟩;have:k=l.length:=E;subst this;refine r0 W<|NJ [(1000000,.abs<|J l.length)] ⟨W,U⟩ W U ⟨G,U⟩
def PQ(x:Fr)(cs:L cq):Fr:=cs.foldr (λc s=>tl (jH s x)<|db<|bQ c) f0
def aaz:mc f0 1:=⟨gm (m:=0) fV,gm (m:=1) fV⟩
def AO{x:Fr}{q:Rat}(b:cL x q){L:Nat}(a:mc x L):∀{cs:List cq},(∀c∈cs,aQ c=0)->cL (PQ x cs) (yp q<|cs.map bQ)/\mc (PQ x cs) (cs.length*(L+601)+1)
 |[],_=>⟨Wl,by simpa[PQ]using aaz⟩
 |c::cs,h=>by obtain⟨j,i⟩:=AO b a (cs:=cs) λc hc=>h c (by simp[hc]);obtain⟨g,f⟩:=qX _ _ j b i a;obtain⟨e,d⟩:=Io _ _ g (bz<|bQ c) f<|gG<|h c I;refine⟨e,Mu d ?_⟩;rw[abo,ahk];omega
def XN(cs:List cq)(hc:∀c∈cs,aQ c=0)(hl:cs.length<2^10)(x:Fr){q:Rat}(f:cL x q){L:Nat}(e:mc x L)(s:L<2^20):ab 168 [.strs false cs,eF x] (eF<|PQ x cs):=by
 refine cp func168 W<|ck W W (f_s 0) W<|ck W W (Fm cs) W<|r0 W<|zI [5,3] [5,3] cs.length cs.length (λk=>[.i ((cs.length-1-k:Nat):Int),.s<|cs.getD (cs.length-1-k) []]) (λk=>[.box true<|eF<|PQ x<|cs.drop<|cs.length-k,.box true<|eF x]) (λ_=>true) (λ_=>none) (.bU [])
  rfl W W W W func314 W W W W W W (λ_ _=>rfl) (λ_=>rfl) ?_ ?_ W (λ_ _ _=>rfl) (λC J m=>BY cs E C J λv n k g=>m v n k g λ_ _=>rfl) ?_ ?_ (λc h=>by cases h)
 intro k g z j;simp[abm,ae8,or_false]at j;rcases j with rfl|rfl<;>rfl;show[SV.box true<|eF<|PQ x<|cs.drop<|cs.length-0,SV.box true<|eF x]=_;rw[agT,aeM];rfl;intro k g _;have b:cs.length-1-k<cs.length:=E;obtain⟨l,i⟩:=AO f e (cs:=cs.drop<|cs.length-k) λc h=>hc c<|agv h;have a:(cs.drop<|cs.length-k).length=k:=by simp;omega
 rw[a]at i;have w:k*(L+601)<=1024*(L+601):=acM _ E;refine r0 W<|rN<|ck W W (lY _ _ l f i e E) W<|r0 W ?_;have d:=hc _<|aaZ b;refine Gm (us:=[.s cs[cs.length-1-k]]) W W U ⟨aaf SV.s<|az b,U⟩ (kL d) W<|r0 W ?_;obtain⟨r,p⟩:=qX _ _ l f i e;refine bW W (Ey _ _ r (bz _) p (gG d) E) W<|r0 W ?_;have o:cs.drop (cs.length-(k+1))=cs[cs.length-1-k]::cs.drop (cs.length-k):=by have u:cs.length-(k+1)=cs.length-1-k:=E;have t:cs.length-k=cs.length-1-k+1:=E;simp_all
 refine yb [(1000000,.box true<|eF<|PQ x<|cs.drop<|cs.length-(k+1)),(1000001,.box true<|eF x)] W W ⟨⟨W,W,?_⟩,ak,U⟩ ⟨G,G,U⟩;rw[o];exact .refl _;intro _;rw[agZ,aeW];refine cg W W
section
variable{fs:List Kk}{L:List Int}{i:Nat}
def Vt(p:jZ)(L:List Int)(u:bN):ab 245 [bI p,fO L,dZ u] (.fn (.func 313) [] [.box false<|dZ u,.box false<|fO L]):=by refine cp func245 W<|cQ 1 [(4,.box true<|fO L),(5,.box true<|dZ u)] True ?_ λ_=>?_;refine r0 W<|bm U;refine oQ (r:=4) (p:=[]) W W U<|oQ (r:=5) (p:=[]) W W U<|cg W W
def Qy(u:bN):ab 289 [dZ u] (aie u.ai):=by refine cp func289 W<|cg W W
def Y7(u:bN)(h:1<=u.ai.length):ab 290 [dZ u] (aie<|u.ai.drop 1):=by refine cp func290 W<|r1 W (by simp[aj];omega) ?_;have e:(u.ai.drop (1:Int).toNat).take (u.ai.length-(1:Int).toNat)=u.ai.drop 1:=acD I;exact aH W<|aij (aie) e
def nj(L:List Int)(fs:List Kk):List Int:=(fs.map λf=>L.getD f.sh.toNat 0).filter λi=>decide (0<=i)
def Hr(h:i<fs.length):nj L (fs.take<|i+1)=nj L (fs.take i)++if 0<=L.getD fs[i].sh.toNat 0 then[L.getD fs[i].sh.toNat 0]else[]:=by unfold nj;rw[ace h,acB,ahS];by_cases g:0<=L.getD fs[i].sh.toNat 0;rw[aas g];simp only[acK,afu,List.filter_cons,decide_eq_true g,if_true,List.filter_nil];rw[aaq g];simp only[acK,afu,List.filter_cons,decide_eq_false g,agq,if_false,List.filter_nil]
def OJ(h:i<fs.length):nj L fs=nj L (fs.take i)++((if 0<=L.getD fs[i].sh.toNat 0 then[L.getD fs[i].sh.toNat 0]else[])++nj L (fs.drop<|i+1)):=by rw[<-acT,<-Hr h];unfold nj;rw[<-ahS,<-acB,af3]
def Xz(b:Nat->Bool)(n m:Nat):Prop:=(∀k,k<n->(∀j,j<k->b j=true)->b k=false->m=k+1)/\((∀k,k<n->b k=true)->m=n)
def SE(u:bN)(hu:UOk u){n:Int}(t:iq n u)(L:List Int)(K:n<=L.length)(b:Nat->Bool)(m:Nat)(hm:Xz b (nj L<|dm u).length m)(C:Value->Prop)(J:Nat->qg)
 (D:∀v,C v->∀k,k<(nj L<|dm u).length->(∀j,j<k->b j=true)->Yields prog (J k) (J<|k+1) (aB [.i<|(nj L<|dm u).getD k 0]) (b k) v):
 iQ prog 313 [.abs<|J 0] [.pv C,.box false<|dZ u,.box false<|fO L] [.abs<|J m] (.bU []):=by
 have H:=hu.ai;have F:(dm u).length<2^40:=by unfold dm;split<;>simp<;>omega
 have p:∀f∈dm u,0<=f.sh/\f.sh<n:=λf z=>by
  have:f∈u.ai:=by unfold dm at z;split at z;exact agv z;exact z
  have:=t.feed f this;exact⟨this.1,this.2.1⟩
 refine mF (fn:=Tryz.f313) func313 W W W W W<|cQ 1 [(0,.pv C),(1,.box false<|dZ u),(2,.box false<|fO L),(13,aie<|dm u),(14,.i (dm u).length),(15,.i 0),(1000000,.abs<|J 0)] True ?_ λ_=>?_;refine cj W W Jo W<|r0 W ?_;rcases t.kind with h|h|h;have a:dm u=u.ai.drop 1:=by unfold dm;rw[aas h]
 refine SO kI W W W (lV (k:=u.kind) (x:=kI) underlying309 underlying9 (by rw[h];exact Ef) false) W ?_;refine cj W W (Y7 u (by have:=(t.int h).1;omega)) W ?_;refine k0 W aP ?_;rw[<-a];exact eU U ⟨G,G,G,G,G,G,W,U⟩;have a:dm u=u.ai:=by unfold dm;rw[aaq<|by rw[h];exact Qz.symm]
 refine SO kA W W W (lV (k:=u.kind) (x:=kA) underlying309 underlying9 (by rw[h];exact Eg) false) W ?_;refine cj W W (Qy u) W<|k0 W aP ?_;rw[<-a];exact eU U ⟨G,G,G,G,G,G,W,U⟩;have a:dm u=u.ai:=by unfold dm;rw[aaq<|by rw[h];exact CL.symm]
 refine SO kT W W W (lV (k:=u.kind) (x:=kT) underlying309 underlying9 (by rw[h];exact Ee) false) W ?_;refine cj W W (Qy u) W<|k0 W aP ?_;rw[<-a];exact eU U ⟨G,G,G,G,G,G,W,U⟩;generalize dm u=fs at*;refine b9 W (λi:Nat=>[(0,.pv C),(2,.box false<|fO L),(13,aie fs),(14,.i fs.length),(15,.i i),(1000000,.abs<|J (nj L<|fs.take i).length)]) (λi=>i<=fs.length/\∀j,j<(nj L<|fs.take i).length->b j=true) (λi=>fs.length-i) 0 ⟨aaQ _,λj s=>by simp[nj]at s⟩ ⟨G,G,G,G,G,W,U⟩ ?_;rintro i⟨hi,q⟩;refine cm W W ?_ ?_<;>intro g;have d:i<fs.length:=E;have A:(i:Int).toNat=i:=E;have B:fs.getD i default=fs[i]:=az d;obtain⟨N,M⟩:=p _<|aaZ d;have hs:=Hr (L:=L) d;have o:=OJ (L:=L) d;refine r1 W (by simp only[aj,aag,A,B];omega) ?_;rw[A,B];obtain⟨c,hc⟩:∃c,c=(nj L<|fs.take i).length:=⟨_,W⟩;rw[<-hc]at q⊢;refine aF 26 W ?_ ?_<;>intro g2;have g2:0<=L.getD fs[i].sh.toNat 0:=g2;rw[aas g2]at hs o;have y:c<(nj L fs).length:=by rw[o];simp;omega
 have w:(nj L fs).getD c 0=L.getD fs[i].sh.toNat 0:=by rw[o,acO,afx E,hc];simp
 refine r0 W<|yk W W U (λv t=>by have:=D v t c y q;rw[w]at this;exact this) W ?_;refine r0 W<|nS W W W ?_ ?_<;>intro r;have r:b c=false:=by simpa using r
 have:=hm.1 c y q r;subst this;refine r0 W<|NJ [(1000000,.abs<|J<|c+1)] ⟨W,U⟩ W U ⟨G,U⟩;have r:b c=true:=by simpa using r
 refine r1 W (by simp[aj,aag];omega) ?_;have l:(nj L<|fs.take<|i+1).length=c+1:=by rw[hs,acU,<-hc];rfl
 refine again (i+1) E ⟨E,λj s=>?_⟩ ⟨G,G,G,G,G,?_,U⟩;rw[l]at s;by_cases e:j=c;rw[e];exact r;exact q j E;rw[l];rfl;have g2:¬0<=L.getD fs[i].sh.toNat 0:=g2;rw[aaq g2,afd]at hs;refine r1 W (by simp[aj,aag];omega) ?_;refine again (i+1) E ⟨E,λj s=>?_⟩ ⟨G,G,G,G,G,?_,U⟩;rw[hs,<-hc]at s;exact q j s;rw[hs,<-hc];rfl;have:i=fs.length:=E;subst this;rw[acS]at q⊢;have:=hm.2 q;subst this;refine r0 W<|NJ [(1000000,.abs<|J (nj L fs).length)] ⟨W,U⟩ W U ⟨G,U⟩
end
def HT(b:Nat->Bool):∀n,∃m,Xz b n m/\(((∀k,k<n->b k=true)/\m=n)\/∃k,k<n/\m=k+1/\b k=false/\∀j,j<k->b j=true)
 |0=>⟨0,⟨λk c=>E,λ_=>rfl⟩,.inl ⟨λk c=>E,W⟩⟩
 |n+1=>by
  obtain⟨m,o,d⟩:=HT b n;rcases d with⟨d,rfl⟩|⟨k,k1,rfl,k3,k4⟩;cases g:b m with
  |true=>
   have a:∀k,k<m+1->b k=true:=λk c=>by grind
   exact⟨m+1,⟨λk c e f=>fP,λ_=>rfl⟩,.inl ⟨a,W⟩⟩
  |false=>
   refine⟨m+1,⟨λk c e f=>?_,λh=>aaF (h m E)<|by rw[g];simp⟩,.inr ⟨m,E,W,g,d⟩⟩
   grind
  ·refine⟨k+1,⟨λl i e f=>?_,λh=>aaF (h k E)<|by rw[k3];simp⟩,.inr ⟨k,E,W,k3,k4⟩⟩
   grind
def Gw(b:Nat->Bool):Nat->Bool
 |0=>true
 |k+1=>Gw b k&&b k
def nC{b:Nat->Bool}:∀{k},Gw b k=true↔∀j,j<k->b j=true
 |0=>by simp[Gw]
 |k+1=>by
  simp[Gw,nC (k:=k)]
  grind
def Yu(p:jZ)(u:bN)(hu:UOk u){n:Int}(H:iq n u)(L:List Int)(P:n<=L.length)(D:List Bool)(T:∀x∈L,x<D.length):
 iQ prog 244 [.box true<|bI p,.box true<|fO L,.box true<|.cR true D] [dZ u,.bw 1000000 0 0 [],.bw 1000001 0 0 [],.bw 1000002 0 0 []]
  [.box true<|bI p,.box true<|fO L,.box true<|.cR true D] (.u<|(nj L<|dm u).all λi=>D.getD i.toNat false):=by
 have o:∀x∈nj L (dm u),0<=x/\x<D.length:=by
  intro x r;unfold nj at r;rw[afZ]at r;obtain⟨w,R⟩:=r;obtain⟨f,N,rfl⟩:=abS.1 w;have A:f∈u.ai:=by
   unfold dm at N
   grind
  have:=H.feed f A;have V:f.sh.toNat<L.length:=E;simp_all
 obtain⟨a,q⟩:∃a,a=nj L (dm u):=⟨_,W⟩;obtain⟨b,K⟩:∃b:Nat->Bool,b=λk=>D.getD (a.getD k 0).toNat false:=⟨_,W⟩;obtain⟨m,hm,l⟩:=HT b a.length;have v:a.all (λi=>D.getD i.toNat false)=Gw b a.length:=by rw[Bool.eq_iff_iff,nC,acZ,K];constructor;simp_all;intro h x r;obtain⟨k,y,rfl⟩:=ahm.1 r;simp_all
 rw[<-q]at o⊢;rw[v];refine mF (fn:=Tryz.f244) func244 W W W W W<|ck W W (Vt p L u) W<|r0 W<|zI [5,1000002] [5,3] a.length m (λk=>[.i<|a.getD k 0]) (λ_=>[.box true<|.b false,.box true<|.cR true D]) b (λk=>if Gw b k=true then none else some .ret) (.bU [])
  rfl W W W W func313 W W W W W W (λ_ _=>rfl) (λ_=>rfl) ?_ W W (λk _ h=>aas<|nC.2 h) (λC J M=>SE u hu H L P b m (by rw[<-q];exact hm) C J<|by rw[<-q];exact M) ?_ ?_ ?_
 intro k y z F;simp[abm,ae8,or_false]at F;rcases F with rfl|rfl<;>rfl;intro k y O;have r:=o _<|aaZ y;rw[<-az (d:=(0:Int)) y]at r;have t:b k=D.getD (a.getD k 0).toNat false:=by rw[K]
 refine r0 W<|rN<|r1 W (by simp only[aj,aag];omega) ?_;refine nS W W W ?_ ?_<;>intro g;have g:b k=false:=by rw[t];simpa using g
 refine r0 W<|ac8 [(1000000,.box true<|.b false),(1000001,.box true<|.cR true D)] g (aaq λh=>by rw[nC]at h;grind) ⟨ak,ak,U⟩ ⟨G,G,U⟩;have g:b k=true:=by rw[t];simpa using g
 refine r0 W<|yb [(1000000,.box true<|.b false),(1000001,.box true<|.cR true D)] g (aas (nC.2 λj S=>by grind)) ⟨ak,ak,U⟩ ⟨G,G,U⟩
 intro s;have B:Gw b a.length=true:=by rcases l with⟨w,R⟩|⟨k,k1,rfl,k3,k4⟩;exact nC.2 w;exfalso;by_cases e:Gw b (k+1)=true;have:=nC.1 e k E;simp_all;simp_all
 rw[B];refine r0 W<|NJ [(5,.box true<|.b true),(1000000,.box true<|bI p),(1000001,.box true<|fO L),(1000002,.box true<|.cR true D)] ⟨ak,ak,ak,ak,U⟩ W (show true=true from W) ⟨G,G,G,U⟩;intro c s;rcases l with⟨w,rfl⟩|⟨k,k1,rfl,k3,k4⟩;rw[aas<|nC.2 w]at s;cases s;have e:¬Gw b (k+1)=true:=λh=>fP;rw[aaq e,aaP]at s;have B:Gw b a.length=false:=by grind
 rw[B];refine⟨s.symm,?_⟩;exact NJ [(5,.box true<|.b false),(1000000,.box true<|bI p),(1000001,.box true<|fO L),(1000002,.box true<|.cR true D)] ⟨ak,ak,ak,ak,U⟩ W (show false=false from W) ⟨G,G,G,U⟩
def pA(n:Nat)(O:L Int):L Bool:=(List.range n).map λ(i:Nat)=>decide ((i:Int)∈O)
def Av(n:Nat)(O:L Int):(pA n O).length=n:=by simp[pA]
def Aw{n i:Nat}{O:L Int}(h:i<n):(pA n O).getD i false=decide ((i:Int)∈O):=by unfold pA;simp_all
def Ti{n i:Nat}{O:L Int}(h:i<n):(pA n O).set i true=pA n (O++[(i:Int)]):=by
 apply agd;simp[pA];intro j k1 k2;simp[pA]
 grind
def Tj(n:Nat):pA n []=List.replicate n false:=by apply agd;simp[pA];intro j k1 k2;simp[pA]
def UT{us:L bN}{n:Nat}{O:L Int}{u:bN}(hn:∀f∈dm u,0<=f.sh/\f.sh<n):((nj (NL n us)<|dm u).all λi=>(pA us.length O).getD i.toNat false)=(dm u).all (lT us O):=by
 generalize dm u=j at*;rw[Bool.eq_iff_iff,acZ,acZ];have a:∀f∈j,(NL n us).getD f.sh.toNat 0=gE us f.sh:=λf b=>by
  have:=hn f b;rw[ZS E]
  congr 1;omega
 constructor;intro h f b;unfold lT;rw[decide_eq_true_eq];by_cases g:gE us f.sh<0;exact .inl g;right;have hm:gE us f.sh∈nj (NL n us) j:=by
  unfold nj
  grind
 have c:=h _ hm;have e:=Au us f.sh;rw[Aw E,decide_eq_true_eq]at c
 grind
 intro h x d;unfold nj at d;rw[afZ]at d;obtain⟨k,c⟩:=d;obtain⟨f,b,rfl⟩:=abS.1 k;rw[a f b]at c⊢;have e:=h f b;unfold lT at e;rw[decide_eq_true_eq]at e c;have l:=Au us f.sh;rw[Aw E,decide_eq_true_eq]
 grind
def Qq(p:jZ)(h:AS p)(n:Nat)(hn:p.n=n)(H:∀u∈p.aa,iq p.n u)(D:p.aa.length<=96):
 ab 166 [bI p,fO<|NL n p.aa] (.bU [fR<|if p.aa.length<=(aA p.aa).length then aA p.aa else[],.u<|decide (p.aa.length<=(aA p.aa).length)]):=by
 have v:(NL n p.aa).length=n:=by simp[NL]
 have N:∀x∈NL n p.aa,x<(p.aa.length:Int):=by intro x C;obtain⟨s,-,rfl⟩:=abS.1 C;exact Au _ _
 refine cp func166 W<|r1 W (by simp only[aj,aag];omega) ?_;refine mkf W W<|b9 W (λO:L Int=>[(2,.box true<|bI p),(3,.box true<|fO<|NL n p.aa),(6,fR O),(7,.box true<|.cR true<|pA p.aa.length O),(8,.gI 244 [(2,0),(3,0),(7,0)])])
  (λO=>O.Nodup/\(∀x∈O,0<=x/\x<p.aa.length)/\aA p.aa=eW p.aa (p.aa.length+1-O.length) O) (λO=>p.aa.length-O.length) [] ⟨acP,I,W⟩
  ⟨G,G,G,⟨W,aw.of_eq<|by rw[Tj];rfl⟩,G,U⟩ ?_
 rintro O⟨k,o,d⟩;have K:=xX k o;refine cm W W ?_ ?_<;>intro g;have g:O.length<p.aa.length:=E;refine r0 W<|ba (λi:Nat=>[(2,.box true<|bI p),(3,.box true<|fO<|NL n p.aa),(6,fR O),(7,.box true<|.cR true<|pA p.aa.length O),(8,.gI 244 [(2,0),(3,0),(7,0)]),(23,aic p.aa),(24,.i p.aa.length),(25,.i i)]) (λi=>i<=p.aa.length/\dw p.aa O 0=dw p.aa O i) (λi=>p.aa.length-i) 0 ⟨aaQ _,W⟩ ?_;rintro i⟨hi,a⟩;refine cm W W ?_ ?_<;>intro g1;have b:i<p.aa.length:=E;have q:(i:Int).toNat=i:=E;have F:p.aa.getD i default=p.aa[i]:=az b;have l:=H _<|aaZ b;rw[ku b]at a;have r:kE p.aa O i=(decide (¬(i:Int)∈O)&&(dm p.aa[i]).all (lT p.aa O)):=by unfold kE;rw[F]
 rw[r]at a;refine r1 W (by simp only[aj,aag,q,Av];omega) ?_;rw[q,F,Aw b];refine iC 35 W ?_ ?_<;>intro g2;have g2:¬(i:Int)∈O:=by simpa using g2
 rw[decide_eq_true g2,aeD]at a;refine r0 W<|cc W W (Yu p p.aa[i] (h.unit _<|aaZ b) l (NL n p.aa) (by rw[v,hn];omega) (pA p.aa.length O)<|by rw[Av];exact N) W ?_;rw[UT (O:=O) λf J=>by
  have t:f∈p.aa[i].ai:=by
   unfold dm at J
   grind
  have:=l.feed f t;omega]
 refine r0 W<|nS W W W ?_ ?_<;>intro z;rw[aas z]at a;have m:¬dw p.aa O 0<0:=by rw[a];omega
 obtain⟨B,A⟩:=xW k o m;have w:aA p.aa=eW p.aa (p.aa.length+1-(O++[(i:Int)]).length) (O++[(i:Int)]):=by
  have e:p.aa.length+1-O.length=(p.aa.length+1-(O++[(i:Int)]).length)+1:=by grind
  rw[d,e,eW,aaq m,a]
 rw[a]at B A;refine r1 W (by simp only[aj,aag,q,Av];simp;omega) ?_;refine again (O++[(i:Int)]) (by simp;omega) ⟨B,A,w⟩ ⟨G,G,G,⟨W,aij (SV.box true)<|aaf (SV.cR true) ?_⟩,G,U⟩;rw[q,Ti b];rw[aaq<|by rw[z];simp]at a;refine r1 W (by simp only[aj,aag];omega) ?_;refine aM (i+1) ⟨E,a⟩;have g2:(i:Int)∈O:=by simpa using g2
 rw[decide_eq_false λhh=>hh g2,Bool.false_and,aaq I]at a;refine r1 W (by simp only[aj,aag];omega) ?_;refine aM (i+1) ⟨E,a⟩;rw[nX (j:=i) E]at a;have c:aA p.aa=O:=by have e:p.aa.length+1-O.length=(p.aa.length-O.length)+1:=E;rw[d,e,eW,aas<|by rw[a];decide]
 rw[c,aaq E,decide_eq_false E];refine b7 W W ⟨W,W,U⟩;have M:O.length=p.aa.length:=E;have c:aA p.aa=O:=by
  have e:p.aa.length+1-O.length=0+1:=E;rw[d,e,eW];have:dw p.aa O 0<0:=by
   rcases qq p.aa O 0 with e|⟨i,-,-,P,y⟩;rw[e];decide;exfalso;unfold kE at y;simp only[abi,decide_eq_true_eq]at y;have:=xX (us:=p.aa) (out:=(i:Int)::O) (ad2.2 ⟨y.1,k⟩) (λx C=>by grind)
   simp at this;omega
  rw[aas this]
 rw[c,aas E,decide_eq_true E];refine b7 W W ⟨W,W,U⟩
end Go.Ai.Pg
section
namespace Go.Ai.Pg
def aaK{n:Nat}{us:L bN}(h:∀u∈us,aQ u.k=0)(s:Nat)(hs:s<n):cL ((mg n us).getD s f0) ((cw n us).getD s 0)/\mc ((mg n us).getD s f0) 600:=by
 have key:∀(us:L bN)(o:L Fr)(q:L Rat),(∀u∈us,aQ u.k=0)->o.length=q.length->(∀s,s<o.length->cL (o.getD s f0) (q.getD s 0)/\mc (o.getD s f0) 600)->
  (us.foldl (λ(o:L Fr)u=>o.set u.out.toNat<|db<|bQ u.k) o).length=o.length/\∀s,s<o.length->cL ((us.foldl (λ(o:L Fr)u=>o.set u.out.toNat<|db<|bQ u.k) o).getD s f0) ((us.foldl (λ(o:L Rat)u=>o.set u.out.toNat<|bQ u.k) q).getD s 0)/\mc ((us.foldl (λ(o:L Fr)u=>o.set u.out.toNat<|db<|bQ u.k) o).getD s f0) 600:=by
  intro us
  induction us with
  |nil=>simp
  |cons u us b=>
   intro o q a hl h;have:=b (o.set u.out.toNat<|db<|bQ u.k) (q.set u.out.toNat<|bQ u.k) (λv c=>a v<|by simp[c]) (by simpa using hl) (λs hs=>by rw[afL]at hs;have d:s<q.length:=E;rw[acO,acO,agH,agH];by_cases e:u.out.toNat=s;subst e;rw[aas W,aas W,aas hs,aas d];exact⟨bz _,gG<|a u I⟩;simp_all)
   grind
 have f:=key us (List.replicate n f0) (List.replicate n 0) h I (λs hs=>by rw[az hs,az<|by simpa using hs,List.getElem_replicate,List.getElem_replicate];exact⟨Wl,Mu aaz fV⟩)
 exact f.2 s (by simpa using hs)
open Classical in
def qb(p:jZ)(h:AS p):ab 80 [bI p] (.i<|dH p):=by
 have V:=h.aa;have X:=h.ints;refine cp func80 W<|cQ 3 [(1,.box true<|bI p)] (1<=p.n/\p.n<=100/\p.aa.length<=96/\aG (gL p.n) p.aa=0) ?_ ?_;have O:p.n<1\/100<p.n->3=dH p:=λa=>by unfold dH;rw[aas a]
 have e2:¬(p.n<1\/100<p.n)->96<p.aa.length->5=dH p:=λa b=>by unfold dH;rw[aaq a,aas b]
 have Z:¬(p.n<1\/100<p.n)->¬96<p.aa.length->aG (gL p.n) p.aa≠0->aG (gL p.n) p.aa=dH p:=λa b c=>by unfold dH;omega
 refine b6 W 20 W ?_ ?_<;>intro g1;refine cj W W (lI true 3) W<|cj W W (lI _ 5) W<|cj W W (p7 _ I) W<|k0 W aP<|bY W (λg2=>?_) λg2=>aaF (by simp[aG]) g2;refine b7 W W<|cn ?_;rw[<-O (.inl E)];simp[aG];refine cj W W (lI _ 3) W<|cj W W (lI _ 5) W<|cj W W (p7 _ I) W<|k0 W aP<|bY W ?_ ?_<;>intro g2;refine b7 W W<|cn ?_;by_cases a:100<p.n;rw[<-O (.inr a)];simp[aG,a];have b:96<p.aa.length:=by apply afw;intro b;apply g2;have A:¬(96:Int)<p.aa.length:=E;simp[aG,a,A]
 have A:(96:Int)<p.aa.length:=E;rw[<-e2 E b];simp[aG,a,A];have g2:=agE.1 g2;have a:¬100<p.n:=λa=>by simp[aG,a]at g2
 have b:¬96<p.aa.length:=λb=>by have A:(96:Int)<p.aa.length:=E;simp[aG,a,A]at g2
 have e4:=Z E b;refine r0 W<|ba (λi:Nat=>[(1,.box true<|bI p),(37,aic p.aa),(38,.i p.aa.length),(39,.i i)]) (λi=>i<=p.aa.length/\aG (gL p.n) p.aa=aG (gL p.n) (p.aa.drop i)) (λi=>p.aa.length-i) 0 ⟨aaQ _,W⟩ ?_;rintro i⟨hi,w⟩;refine cm W W ?_ ?_<;>intro H;have d:i<p.aa.length:=E;have z:(i:Int).toNat=i:=E;have J:p.aa.getD i default=p.aa[i]:=az d;rw[cP _ d]at w;refine r1 W (by simp only[aj,aag,z];omega) ?_;rw[z,J];refine bW W (Nl p _<|h.unit _<|aaZ d) W<|cm W W ?_ ?_<;>intro j;rw[aas j]at w;refine b7 W W<|cn ?_;omega;rw[aaq j]at w;refine r1 W (by simp only[aj,aag];omega) ?_;exact aM (i+1) ⟨E,w⟩;refine r0 W<|bm ⟨E,E,E,?_⟩;rw[w,aew E];rfl;rintro⟨n1,n2,t,N⟩;obtain⟨n,hn⟩:∃n:Nat,p.n=n:=⟨p.n.toNat,E⟩;have s:∀u∈p.aa,iq p.n u:=λu hu=>rM<|bO.1 N u hu;have m:∀u∈p.aa,1<=u.out/\u.out<n:=λu hu=>by have:=(s u hu).out;omega
 have B:p.n.toNat=n:=E;have l:dH p=if 24<p.ints.length then 5
  else if∃k∈p.ints,k<0\/p.n<=k then 10
  else if 24<aT p.aa then 5
  else if¬wU n p.aa then 19
  else if(aA p.aa).length<p.aa.length then 18
  else if∃u∈p.aa,conflict n p.aa u then 30 else 0:=by
  unfold dH;rw[aaq E,aaq E,aaq<|by rw[N];simp,B]
 refine oQ (r:=1) (p:=[]) W W U<|cQ 2 [(1,.box false<|bI p)] (¬24<p.ints.length/\(¬∃k∈p.ints,k<0\/p.n<=k)/\¬24<aT p.aa) ?_ ?_;refine ck W W (Nd p p.ints E) W<|cj W W (lI _ 5) W<|cj W W (lI _ 10) W<|cj W W (JU p h) W<|cj W W (lI _ 5) W<|cj W W (p7 _ I) W<|k0 W aP ?_;by_cases a:24<p.ints.length;have q:(24:Int)<p.ints.length:=E;rw[aas a]at l;refine bY W (λg=>?_) λg=>aaF (by simp[aG,q]) g;refine b7 W W<|cn ?_;rw[l];simp[aG,q];have q:¬(24:Int)<p.ints.length:=E;rw[aaq a]at l;by_cases b:∃k∈p.ints,k<0\/p.n<=k;rw[aas b]at l;have he:aG id [if decide ((24:Int)<p.ints.length)=true then 5 else 0,if decide (∃k∈p.ints,k<0\/p.n<=k)=true then 10 else 0,if decide ((24:Int)<aT p.aa)=true then(5:Int)else 0]=10:=by rw[decide_eq_true b];simp[aG,q]
 refine bY W (λg=>?_) λg=>aaF (by rw[he];decide) g;refine b7 W W<|cn ?_;rw[l];exact he;rw[aaq b]at l;have he:aG id [if decide ((24:Int)<p.ints.length)=true then 5 else 0,if decide (∃k∈p.ints,k<0\/p.n<=k)=true then 10 else 0,if decide ((24:Int)<aT p.aa)=true then(5:Int)else 0]=if 24<aT p.aa then 5 else 0:=by rw[decide_eq_false b];by_cases c:24<aT p.aa;have K:(24:Int)<aT p.aa:=E;simp[aG,q,c,K];have K:¬(24:Int)<aT p.aa:=E;simp[aG,q,c,K]
 refine bY W ?_ ?_<;>intro g;refine b7 W W<|cn ?_;omega;have g:=agE.1 g;refine r0 W<|bm ⟨a,b,λc=>?_⟩;omega;rintro⟨a1,a2,a3⟩;rw[aaq a1,aaq a2,aaq a3]at l;obtain⟨d1,d2⟩:=HU (us:=p.aa) (n:=n) E m;refine ck W W (HV p h n hn E E m) W<|r0 W<|nS W W W ?_ ?_<;>intro g;have g:(JQ n p.aa).2=false:=by simpa using g
 refine b7 W W<|cn ?_;simp_all;have g:(JQ n p.aa).2=true:=by simpa using g
 rw[aaq λY=>Y<|d1.1 g]at l;rw[d2 g];refine ck W W (Qq p h n hn s t) W<|r0 W<|nS W W W ?_ ?_<;>intro g2;have g2:¬p.aa.length<=(aA p.aa).length:=by simpa using g2
 refine b7 W W<|cn ?_;omega;have g2:p.aa.length<=(aA p.aa).length:=by simpa using g2
 rw[aaq E]at l;refine ck W W (Rw p h n hn E E s) W<|r0 W<|ba (λi:Nat=>[(13,.bc true 4 f0 eF<|mg n p.aa),(88,aic p.aa),(89,.i p.aa.length),(90,.i i)]) (λi=>i<=p.aa.length/\¬∃u∈p.aa.take i,conflict n p.aa u) (λi=>p.aa.length-i) 0 ⟨aaQ _,I⟩ ?_;rintro i⟨hi,v⟩;refine cm W W ?_ ?_<;>intro H;have d:i<p.aa.length:=E;have z:(i:Int).toNat=i:=E;have J:p.aa.getD i default=p.aa[i]:=az d;have f:=s _<|aaZ d;refine r1 W (by simp only[aj,aag,z];omega) ?_;rw[z,J];refine bY W ?_ ?_<;>intro j;have j:p.aa[i].kind=eJ:=j;have ht:=f.table j;have D:p.aa[i].ai.getD 0 default∈p.aa[i].ai:=fP;have o:=f.feed _ D;have F:=y9 n p.aa;obtain⟨R,P⟩:=aaK (n:=n) (us:=p.aa) (λu hu=>(s u hu).k) (p.aa[i].ai.getD 0 default).sh.toNat E;refine r1 W (by simp only[aj,aag];omega) ?_;refine bX W (kL o.2.2.1) W<|r1 W (by simp only[aj,aag,F,Int.toNat_zero];omega) ?_;obtain⟨m1,M⟩:=qX _ _ (bz<|bQ (p.aa[i].ai.getD 0 default).dU) R (gG o.2.2.1) P;refine bX W (lY _ _ (bz _) R (gG o.2.2.1) P fV) W<|k0 W aP<|bX W (XN _ f.cW E _ m1 M fV) W<|cj W W (kL f.k) W<|r0 W ?_;obtain⟨T,S⟩:=AO m1 M (cs:=p.aa[i].cW) f.cW;refine bX W (Zo _ _ T (bz<|bQ p.aa[i].k) S (gG f.k) E) W<|k0 W aP ?_;have x:conflict n p.aa p.aa[i]↔¬yp (bQ (p.aa[i].ai.getD 0 default).dU*(cw n p.aa).getD (p.aa[i].ai.getD 0 default).sh.toNat 0) (p.aa[i].cW.map bQ)=bQ p.aa[i].k:=⟨λhc e=>hc.2 e.symm,λC=>⟨j,λe=>C e.symm⟩⟩
 refine nS W W W ?_ ?_<;>intro y;simp only[af8,decide_eq_false_iff_not]at y;refine b7 W W<|cn ?_;rw[l,aas ⟨_,aaZ d,x.2 y⟩];simp only[Bool.not_eq_false',decide_eq_true_eq]at y;refine r1 W (by simp only[aj,aag];omega) ?_;exact aM (i+1) ⟨E,kx d v λhc=>x.1 hc y⟩;have j:¬p.aa[i].kind=eJ:=j;refine r1 W (by simp only[aj,aag];omega) ?_;exact aM (i+1) ⟨E,kx d v λhc=>j hc.1⟩;refine b7 W W<|cn ?_
 grind
end Go.Ai.Pg
end
namespace Go.Ai.Pg
section
variable{K:Nat}{q:Rat}
def uE(q:Rat):(0:Rat)<((q.den:Int):Rat):=by have:=q.den_pos;exact Rat.intCast_pos.2 E
def uY(q:Rat):q*((q.den:Int):Rat)=(q.num:Rat):=by
 have a:=uE q;have h:=ah2 q;rw[ahK]at h
 grind
def qH(k:Nat):(((2:Int)^k:Int):Rat)=(2:Rat)^k:=by simp
def Sb(k:Nat)(q:Rat):(2:Rat)^k<=q↔(2:Int)^k*q.den<=q.num:=by have a:=uE q;have he:=uY q;rw[<-ahp,ahj,qH];constructor;intro h;have:=ah7 h<|afr a;simp_all;intro h;rw[<-he]at h;exact ahT h a
def Sa(k:Nat)(q:Rat):((2:Rat)^k)⁻¹ <=q↔(q.den:Int)<=(2:Int)^k*q.num:=by
 have c:=uE q;have he:=uY q;have b:=xK k;rw[<-ahp,ahj,qH,<-he];generalize (2:Rat)^k=t at*;generalize ((q.den:Int):Rat)=d at*;have hi:=Rat.mul_inv_cancel t λe=>fP;constructor;intro h;have a:=agC h<|afr b;rw[hi]at a;have f:=ah7 a<|afr c
 grind
 intro h;have a:(1:Rat)*d<=(t*q)*d:=by grind
 have f:=ahT a c;have i:=agC f<|afr<|ag1.2 b;have g:t⁻¹ *(t*q)=q:=by grind
 simp_all
def IZ(n:Nat):gj (tS ⟨2,none⟩ n) (n+1):=by
 have b:=show(-9223372036854775808:Int)<=2/\(2:Int)<=9223372036854775807 from fV;obtain⟨e,-⟩:=my ⟨2,none⟩ n b;unfold gj;rw[e];show(bG.ah ((2:Int)^n).natAbs).length<=n+1;have a:((2:Int)^n).natAbs=2^n:=fQ;rw[a];clear e a
 induction n with
 |zero=>exact gm fV
 |succ n c=>rw[afi];have f:=bG.eC (2^n) 2;have d:(bG.ah 2).length<=1:=gm fV;omega
def ab6(f:Fr)(a:cL f q)(c:mc f K)(r:K<2^20)(k:Int)(p: -1048576<k/\k<1048576):ab 221 [.i k,.box false<|eF f] (.u<|decide (jx k<=q)):=by
 have h:bu ⟨2,none⟩:=show(-9223372036854775808:Int)<=2/\(2:Int)<=9223372036854775807 from fV;refine cp func221 W<|r0 W ?_;have d:gj ⟨2,none⟩ 1:=gm (m:=2) fV;refine bY W ?_ ?_<;>intro g;obtain⟨j,rfl⟩:∃j:Nat,k=j:=⟨k.toNat,E⟩;obtain⟨l,b⟩:=my ⟨2,none⟩ j h;obtain⟨m1,n⟩:=dh (tS ⟨2,none⟩ j) f.d b a.d;have o:=gT b a.d (IZ j) c.2;refine cj W W (Jc 2) W<|cj W W (Ld _ j h d E E) W<|cj W W (sX _ f.d b a.d (IZ j) c.2 E) W<|cj W W (WR _ f.n n a.n o (dS c.1<|show K<=j+1+K from E) E) W<|k0 W aP<|aH W<|aij SV.u ?_;rw[decide_eq_decide];have e:jx (j:Int)=(2:Rat)^j:=fQ;rw[e,Sb,m1,l,a.vd,a.vn,show nv ⟨2,none⟩=2 from W]
 grind
 obtain⟨j,rfl⟩:∃j:Nat,k= -(j:Int):=⟨(-k).toNat,E⟩;obtain⟨l,b⟩:=my ⟨2,none⟩ j h;obtain⟨m1,n⟩:=dh (tS ⟨2,none⟩ j) f.n b a.n;have o:=gT b a.n (IZ j) c.1;refine cj W W (Jc 2) W<|r1 W bh<|TV (us:=[eN ⟨2,none⟩,.i j]) W W U ⟨⟨W,W,U⟩,aaf SV.i E,U⟩ (Ld _ j h d E E) W<|cj W W (sX _ f.n b a.n (IZ j) c.1 E) W<|cj W W (WR f.d _ a.d n (dS c.2<|show K<=j+1+K from E) o E) W<|k0 W aP<|aH W<|aij SV.u ?_;rw[decide_eq_decide];have e:jx (-(j:Int))=((2:Rat)^j)⁻¹ :=by unfold jx;simp_all
 rw[e,Sa,m1,l,a.vd,a.vn,show nv ⟨2,none⟩=2 from W]
 grind
def Ru(h:0<q.num):jx ((bl q.num.natAbs:Int)-bl q.den-1)<=q:=by
 have c:=uE q;have he:=uY q;have i:2^(bl q.num.natAbs-1)<=q.num.natAbs:=yZ E;have j:=Ij q.den;have g:=AI (x:=q.num.natAbs) E;have f:jx ((bl q.num.natAbs:Int)-bl q.den-1)*(2:Rat)^bl q.den=(2:Rat)^(bl q.num.natAbs-1):=by rw[<-lh];unfold jx;grind
 have e:((q.den:Int):Rat)<=(2:Rat)^bl q.den:=by
  rw[<-qH];refine ahp.2 ?_
  grind
 have d:(2:Rat)^(bl q.num.natAbs-1)<=(q.num:Rat):=by
  rw[<-qH];refine ahp.2 ?_
  grind
 have b:=agC e<|afr<|uT<|(bl q.num.natAbs:Int)-bl q.den-1;rw[f]at b;have a:=agD b d;rw[<-he]at a;exact ahT a c
def Rv(h:0<q.num):¬jx ((bl q.num.natAbs:Int)-bl q.den+1)<=q:=by
 intro a;have b:=uE q;have he:=uY q;have f:2^(bl q.den-1)<=q.den:=yZ (by have:=q.den_pos;omega);have e:=Ij q.num.natAbs;have d:=AI (x:=q.den) (by grind);have k:jx ((bl q.num.natAbs:Int)-bl q.den+1)*(2:Rat)^(bl q.den-1)=(2:Rat)^bl q.num.natAbs:=by rw[<-lh];unfold jx;grind
 have c:(2:Rat)^(bl q.den-1)<=((q.den:Int):Rat):=by
  rw[<-qH];refine ahp.2 ?_
  grind
 have j:(q.num:Rat)<(2:Rat)^bl q.num.natAbs:=by
  rw[<-qH];refine Rat.intCast_lt_intCast.2 ?_
  grind
 have i:=agC c<|afr<|uT<|(bl q.num.natAbs:Int)-bl q.den+1;have g:=ah7 a<|afr b
 grind
def Rt{x:Nat}(h:(bG.ah x).length<=K):bl x<=64*K:=by
 apply afw;intro hn;have a:x≠0:=λe=>by rw[e]at hn;simp[bl]at hn
 have g:=yZ a;have f:2^(64*K)<=2^(bl x-1):=adi fV E;have d:=bG.mP x;have c:18446744073709551616^(bG.ah x).length<=18446744073709551616^K:=adi fV h;have b:(18446744073709551616:Nat)^K=2^(64*K):=by rw[agh]
 omega
def O9(f:Fr)(c:cL f q)(g:mc f K)(s:K<2^12)(m:0<q.num):ab 124 [eF f] (.i<|yw q):=by
 have n:=Ru m;have o:=Rv m;have u:bl q.num.natAbs<2^19:=by have:=Rt g.1;rw[c.vn]at this;omega
 have t:bl q.den<2^19:=by have:=Rt g.2;rw[c.vd,ag3]at this;omega
 obtain⟨a,k⟩:∃a,a=(bl q.num.natAbs:Int)-bl q.den:=⟨_,W⟩;have j:∀e:Int,a-3<=e/\e<=a+3->ab 221 [.i e,.box false<|eF f] (.u<|decide (jx e<=q)):=λe h=>ab6 f c g E e E;have n1:=PI f.n c.n g.1 E;have l:=PI f.d c.d g.2 E;rw[c.vn]at n1;rw[c.vd,ag3]at l;refine cp func124 W<|cQ 2 [(1,.box true<|eF f),(3,.i a)] True ?_ λ_=>?_;refine cj W W n1 W<|cj W W l W<|k1 W aP bh<|eU U ⟨G,⟨W,aij SV.i k.symm⟩,U⟩;refine oQ (r:=1) (p:=[]) W W U<|Cp 2 (λe:Int=>[(3,.i e),(4,.fn (.func 221) [] [.box false<|eF f])]) (λe=>jx e<=q/\e<=a/\a-1<=e) ?_ ?_;refine r0 W<|ba (λe:Int=>[(3,.i e),(4,.fn (.func 221) [] [.box false<|eF f])]) (λe=>e<=a/\a-1<=e) (λe=>(e-(a-1)).toNat) a ⟨E,E⟩ ?_;rintro e⟨g1,g2⟩;refine ck W W (j e E) W<|r0 W<|nS W W W ?_ ?_<;>intro b;have b:¬jx e<=q:=by simpa using b
 have:e≠a-1:=λh=>fP;refine r1 W bh<|aM (e-1) ⟨E,E⟩;have b:jx e<=q:=by simpa using b
 refine r0 W<|fL e ⟨b,g1,g2⟩;rintro e⟨g1,g2,b⟩;refine r0 W<|ba (λe:Int=>[(3,.i e),(4,.fn (.func 221) [] [.box false<|eF f])]) (λe=>jx e<=q/\e<=a/\a-1<=e) (λe=>(a-e).toNat) e ⟨g1,g2,b⟩ ?_;rintro e⟨g1,g2,b⟩;refine r1 W bh<|bW W (j (e+1) E) W<|r0 W<|nS W W W ?_ ?_<;>intro d;have d:jx (e+1)<=q:=by simpa using d
 have:e≠a:=λh=>fP;refine r1 W bh<|aM (e+1) ⟨d,E,E⟩;have d:¬jx (e+1)<=q:=by simpa using d
 refine b7 W W<|aij SV.i (kz ⟨g1,d⟩).symm
end
end Go.Ai.Pg
section
namespace Go.Ai.Pg
def MD(l:L Int)(hl:l.length<2^60):ab 52 [fO l] (.i<|aG id l):=by refine cp func52 W<|r0 W<|ba (λi:Nat=>[(5,fO l),(6,.i l.length),(7,.i i)]) (λi=>i<=l.length/\aG id l=aG id (l.drop i)) (λi=>l.length-i) 0 ⟨aaQ _,W⟩ ?_;rintro i⟨hi,a⟩;refine cm W W ?_ ?_<;>intro h;have b:i<l.length:=E;have d:(i:Int).toNat=i:=E;rw[cP _ b]at a;refine r1 W (by simp[aj,d];omega) ?_;refine bY W ?_ ?_<;>intro c;refine b7 W W<|cn ?_;rw[a];simp_all;refine r1 W (by simp[aj];omega) ?_;refine aM (i+1) ⟨E,?_⟩;rw[a];simp_all;refine b7 W W<|cn ?_;rw[a,aew E];rfl
def PZ(b:Bool)(e:Int):ab 53 [.u b,.i e] (.i<|if b then e else 0):=by refine cp func53 W<|r0 W<|nS W W W ?_ ?_<;>intro h;refine b7 W W<|cn ?_;rw[h];rfl;refine b7 W W<|cn ?_;rw[h];rfl
def zM(n lo hi:Int):ab 170 [.i n,.i lo,.i hi] (.u<|decide (n<lo\/hi<n)):=by
 refine cp func170 W<|b6 W 10 W ?_ ?_<;>intro h;refine b7 W W (show true=decide (n<lo\/hi<n)from(decide_eq_true<|.inl h).symm);refine b7 W W<|aij SV.u ?_
 grind
def ZY(b:kp):ab 81 [iw b] (.i<|wX b):=by
 refine cp func81 W<|r0 W<|ba (λi:Nat=>[(13,fR<|Gs b),(14,.i 4),(15,.i i)]) (λi=>i<=4/\wX b=aG (λx:Int=>if x<0\/40<x then 3 else 0) ((Gs b).drop i)) (λi=>4-i) 0 ⟨aaQ _,W⟩ ?_;rintro i⟨hi,e⟩;have c:(Gs b).length=4:=W;refine cm W W ?_ ?_<;>intro h;have d:i<(Gs b).length:=E;have f:(i:Int).toNat=i:=E;rw[cP _ d]at e;refine r1 W (by simp[aj,aag,f,c];omega) ?_;rw[f,az d];refine bW W (zM _ 0 40) W<|nS W W W ?_ ?_<;>intro a;have a:(Gs b)[i]<0\/40<(Gs b)[i]:=by simpa using a
 refine b7 W W<|cn ?_;rw[e,aas a];rfl;have a:¬((Gs b)[i]<0\/40<(Gs b)[i]):=by simpa using a
 refine r1 W (by simp[aj,aag];omega) ?_;refine aM (i+1) ⟨E,?_⟩;rw[e,aaq a];rfl;refine b7 W W<|cn ?_;rw[e,aew E];rfl
def Qc(rs:L jh)(e:∀s∈rs,dI s.lo/\dI s.hi)(hl:rs.length<2^60):ab 54 [aib rs] (.i<|aG dQ rs):=by refine cp func54 W<|r0 W<|ba (λi:Nat=>[(6,aib rs),(7,.i rs.length),(8,.i i)]) (λi=>i<=rs.length/\aG dQ rs=aG dQ (rs.drop i)) (λi=>rs.length-i) 0 ⟨aaQ _,W⟩ ?_;rintro i⟨hi,b⟩;refine cm W W ?_ ?_<;>intro h;have a:i<rs.length:=E;have d:(i:Int).toNat=i:=E;have f:rs.getD i default=rs[i]:=az a;rw[cP _ a]at b;refine r1 W (by simp[aj,d];omega) ?_;rw[d,f];have:=e _<|aaZ a;refine bW W (Uq rs[i] this.1 this.2) W<|cm W W ?_ ?_<;>intro c;refine b7 W W<|cn ?_;rw[b,aas c];refine r1 W (by simp[aj,aag];omega) ?_;refine aM (i+1) ⟨E,?_⟩;rw[b,aaq c];refine b7 W W<|cn ?_;rw[b,aew E];rfl
open Classical in
def oW(p:jZ)(rs:L jh):Int:=if dH p≠0 then dH p else rW p.n rs
def Gn(p:jZ)(h:AS p)(rs:L jh)(a:∀s∈rs,dI s.lo/\dI s.hi)(hl:rs.length<2^40):ab 205 [bI p,aib rs] (.i<|oW p rs):=by
 refine cp func205 W<|ck W W (qb p h) W<|cm W W ?_ ?_<;>intro g;refine b7 W W<|aij SV.i<|by unfold oW;rw[aas g]
 refine ck W W (PZ _ 2) W<|ck W W (Qc rs a E) W<|ck W W (MD _ I) W<|b7 W W<|cn ?_;unfold oW rW;rw[aaq g];by_cases e:(rs.length:Int)≠p.n;rw[aas e];simp[aG,e];rw[aaq e];by_cases g2:aG dQ rs≠0;simp[aG,e,g2];have g2:=agE.1 g2;simp[aG,e,g2]
end Go.Ai.Pg
end
namespace Go.Ai.Pg
section
variable{K:Nat}{q:Rat}{s:jh}
def zg(q:Rat):nD q=if q<0 then -q else q:=by unfold nD;by_cases h:q<0;rw[aas h,aas<|Int.not_le.1 λg=>aaF (afP.1 g)<|ag2.2 h];rw[aaq h,aaq<|Int.not_lt.2<|afP.2<|Rat.not_lt.1 h]
def JZ(p q:Rat):0<=wW p q↔q<=p:=by unfold wW;rw[Int.sign_nonneg_iff,afP];constructor<;>grind
def uZ(p q:Rat):qx p q=if q<=p then p else q:=by unfold qx;by_cases h:q<=p;rw[aas h,aas<|(JZ p q).2 h];rw[aaq h,aaq λg=>h<|(JZ p q).1 g]
def SpL(s:jh):Prop:=SpV s/\bQ s.lo<=bQ s.hi
def C9(h:dQ s=0):SpL s:=by have a:=A7 h;refine⟨a,?_⟩;unfold dQ at h;rw[aaq<|by rw[a.1];simp,aaq<|by rw[a.2];simp]at h;exact mR.1<|Int.not_lt.1 λg=>E
def abQ(h:SpL s):Kn s=if bQ s.hi< -bQ s.lo then -bQ s.lo else bQ s.hi:=by
 have hl:=h.2;unfold Kn;rw[uZ,zg,zg]
 grind
def lgF(s:jh):Fr:=if bQ s.hi< -bQ s.lo then⟨jd (db<|bQ s.lo).n,(db<|bQ s.lo).d⟩else db (bQ s.hi)
def Jg{f:Fr}(h:cL f q)(hs:mc f K):mc ⟨jd f.n,f.d⟩ K:=⟨nY h.n hs.1,hs.2⟩
def LR(h:SpL s):cL (lgF s) (Kn s)/\mc (lgF s) 600:=by rw[abQ h];unfold lgF;obtain⟨-,a⟩:=Em (db<|bQ s.lo) (bz _) (gG h.1.1).1 fV;by_cases g:bQ s.hi< -bQ s.lo;rw[aas g,aas g];exact⟨a,Jg (bz _)<|gG h.1.1⟩;rw[aaq g,aaq g];exact⟨bz _,gG h.1.2⟩
def u5(s:jh)(h:SpL s):ab 120 [fA s] (eF<|lgF s):=by
 obtain⟨n1,a⟩:=Em (db<|bQ s.lo) (bz _) (gG h.1.1).1 fV;refine cp func120 W<|cj W W (kL h.1.1) W<|bX W n1 W<|cj W W (kL h.1.2) W<|k0 W aP<|bW W (JK _ _ a (bz _) (Jg (bz _)<|gG h.1.1) (gG h.1.2) fV) W ?_;have hs:((-bQ s.lo).num*(bQ s.hi).den-(bQ s.hi).num*(-bQ s.lo).den).sign>0↔bQ s.hi< -bQ s.lo:=by rw[Rat.lt_iff,gt_iff_lt,Int.sign_pos_iff];omega
 refine cm W W ?_ ?_<;>intro g;have g:=hs.1 g;refine b7 W W<|aw.of_eq ?_;unfold lgF;rw[aas g];rfl;have g:=λh=>g<|hs.2 h;refine b7 W W<|aw.of_eq ?_;unfold lgF;rw[aaq g];rfl
def QX(h:0<q.num):∃e,qC q e/\(bl q.num.natAbs:Int)-bl q.den-1<=e/\e<=(bl q.num.natAbs:Int)-bl q.den:=by have a:=Ru h;have b:=Rv h;generalize (bl q.num.natAbs:Int)-bl q.den=c at*;by_cases g:jx c<=q;exact⟨c,⟨g,b⟩,E,E⟩;refine⟨c-1,⟨a,?_⟩,E,E⟩;simp_all
def Zs(f:Fr)(b:cL f q)(a:mc f K)(i:K<2^12)(h:0<q.num): -524289<=yw q/\yw q<=524289:=by obtain⟨e,c,k,j⟩:=QX h;rw[kz c];have g:=Rt a.1;rw[b.vn]at g;have d:=Rt a.2;rw[b.vd,ag3]at d;omega
def Pa(m:Int){x:Rat}(h:0<x.num):yw (jx m*x)=m+yw x:=by
 obtain⟨e,b,-,-⟩:=QX h;rw[kz b];have add:∀k:Int,jx (m+k)=jx m*jx k:=by
  intro k;rcases Int.le_total 0 k with g|g;obtain⟨j,rfl⟩:∃j:Nat,k=j:=⟨k.toNat,E⟩;rw[lh];rfl;obtain⟨j,rfl⟩:∃j:Nat,k= -(j:Int):=⟨(-k).toNat,E⟩;have f:=lh (m+ -(j:Int)) j;have d:=lh (-(j:Int)) j;rw[show m+ -(j:Int)+j=m from E]at f;rw[show -(j:Int)+j=0 from E]at d;have i:jx 0=1:=W
  grind
 have c:=uT m;refine kz ⟨?_,?_⟩;rw[add];exact agC b.1<|afr c;rw[show m+e+1=m+(e+1)from E,add];intro a;refine b.2 ?_;rw[Rat.mul_comm<|jx m,Rat.mul_comm<|jx m]at a;exact ahT a c
def Qv(f:Fr){a:Rat}(d:cL f a)(k:mc f K)(m:K<2^12)(p:0<=a)(jI:Int)(hm: -1000000<=jI/\jI<=1000000):ab 208 [eF f,.i jI] (.i<|nL a jI):=by
 refine cp func208 W<|ck W W (sE f d) W<|cm W W ?_ ?_<;>intro g;have g:a.num=0:=fP;refine b7 W W<|cn ?_;unfold nL;simp_all;have g:¬a.num=0:=fP;have j:a≠0:=λh=>g (by rw[h];rfl);obtain⟨i1,l⟩:=S7 f d j k;have c:0<a⁻¹ :=ag1.2 (by grind);have b:0<(a⁻¹).num:=by
  have o:=afP.2<|afr c;rcases Int.lt_or_eq_of_le o with e|e;exact e;have:=agX.1 e.symm
  grind
 have n:=Zs _ i1 l m b;refine ck W W (ab4 f d j k E) W<|bW W (O9 _ i1 l m b) W<|r1 W bd<|aH W<|cn ?_;unfold nL;rw[aaq j,Rat.div_def,Pa jI b];rfl
end
def ab2(u:Nat)(hu:u<2^64):ab 335 [.n .u64 u,.i 10] (.s<|decl u 1):=by intro w S p j g hc;simp only[aB,Cells]at hc;obtain⟨y,r,A,z,rfl,t,_,d,m,q,x,v,rfl,l,_,a,rfl,rfl⟩:=hc;simp only[SV.den,Rel]at d a;obtain⟨_,rfl,rfl⟩:=d;obtain⟨_,rfl,rfl⟩:=a;refine qD.lS (fn:=Tryz.f335) func335 W W<|(Tryz.afb u hu w j).mono ?_;rintro e o⟨rfl,k,os,rfl⟩;have f:=wY w k os;exact⟨_,W,S,[],f,λ_ h=>h,λ_ h=>.inl h,λb c=>acW (g b c) f.size,by simp[SV.den,Rel,scalar,bs,decDigits_eq],acP,I⟩
def adX(u:Nat)(hu:u<2^64):ab 300 [.n .u64 u,.i 10] (.s<|decl u 1):=by refine cp func300 W<|ck W W (ab2 u hu) W<|cg W W
def YC(c:UInt8)(t:cq)(hl:t.length<2^40):ab 323 [.s<|c::t,.s [48]] (.u<|decide (c=48)):=by refine cp func323 W<|b6 W 10 W (λh=>?_) λh=>aaF (show((1:Nat):Int)<=((t.length+1:Nat):Int)from E) h;refine r1 W (by simp only[aj,aag,abo,acC]<;>omega) ?_;refine aH W<|aij SV.u ?_;simp
def Ou(c:UInt8)(t:cq)(hl:t.length<2^40):ab 283 [.s<|c::t,.s [48]] (.u<|decide (c=48)):=by refine cp func283 W<|ck W W (YC c t hl) W<|cg W W
def abp(n:Nat)(hn:n<=64):ab 301 [.s [48],.i n] (.s<|List.replicate n 48):=by
 refine cp func301 W<|cm W W ?_ ?_<;>intro h;have:n=0:=E;subst this;refine cg W W;refine cm W W ?_ ?_<;>intro b;have:n=1:=E;subst this;refine cg W W;refine cm W W (λa=>aaF a E) λ_=>?_;refine kw [23,25] W W U<|Gm (us:=[.n .u64 (1:Nat),.n .u64 n]) W W U ⟨W,aaf (SV.n .u64)<|wr E,U⟩ (DE 1 n fV E) W ?_;rw[Nat.one_mul,ae5 (E:n<2^64),afz (E:n<2^64)];refine b6 W 31 W (λh=>aaF h fV) λ_=>?_;refine cm W W (λh=>aaF h E) λ_=>?_;refine r1 W bk<|bY W (λh=>aaF h fV) λ_=>?_;refine r1 W (by simp only[aj,aag]<;>decide) ?_;refine bY W (λh=>aaF h fV) λ_=>?_;refine cm W W (λh=>aaF h fV) λ_=>?_;refine cm W W (λ_=>?_) λh=>aaF W h;refine cm W W (λ_=>?_) λh=>aaF W h;refine b6 W 52 W (λh=>?_) λh=>aaF (show(n:Int)<=128 from E) h;refine ck W W (Ou _ _ fV) W<|cm W W (λh=>aaF h fV) λ_=>?_;refine b6 W 61 W (λh=>?_) λh=>aaF (show(n:Int)<=128 from E) h;refine ck W W (Ou _ _ fV) W<|cm W W (λh=>aaF h fV) λ_=>?_;refine b6 W 70 W (λh=>?_) λh=>aaF (show(n:Int)<=64 from E) h;refine ck W W (Ou _ _ fV) W<|cm W W (λ_=>?_) λh=>aaF W h;refine r1 W (by simp only[aj,aag]<;>simp<;>omega) ?_;refine aH W<|aij SV.s ?_;show List.drop 0 (List.take (n:Int).toNat<|List.replicate 64 48)=_
 grind
def BM(p:jZ)(rs:L jh)(b:kp)(S:L Int)(a:L (L Int)):SV:=
 .agg [.i p.n,aic p.aa,fO p.ints,aib rs,.i b.c,.i b.d,.i b.s,.i b.g,fR S,.bc true 1 [] (fR) a]
def adp(p:jZ)(rs:L jh)(b:kp):FE (.box true<|.agg [.i p.n,aic p.aa,fO p.ints,aib rs,.i b.c,.i b.d,.i b.s,.i b.g,.nil,.nil]) (.box true<|BM p rs b [] []):=by have e:FE .nil (fR []):=.le (show aw .nil (fR [])from W);have a:FE .nil (.bc true 1 [] (fR) []):=.le (show aw .nil (.bc true 1 [] (fR) [])from W);exact .box<|.agg<|.cons (.refl _)<|.cons (.refl _)<|.cons (.refl _)<|.cons (.refl _)<|.cons (.refl _)<|.cons (.refl _)<|.cons (.refl _)<|.cons (.refl _)<|.cons e<|.cons a .nil
def tW(p:jZ)(rs:L jh)(b:kp):Int:=if oW p rs≠0 then oW p rs else wX b
def oP(rs:L jh)(b:kp):L Int:=rs.map λs=>nL (Kn s) b.s
def mE(rs:L jh)(b:kp)(u:bN):L Int:=(List.range u.ai.length).map λk=>Ac rs b u k
def sC(rs:L jh)(b:kp)(us:L bN):L (L Int):=us.map<|mE rs b
def XG(f:Kk):Fr:=if bQ f.dU<0 then⟨jd (db<|bQ f.dU).n,(db<|bQ f.dU).d⟩else db (bQ f.dU)
def Wk{f:Kk}(h:aQ f.dU=0):cL (XG f) (nD<|bQ f.dU)/\mc (XG f) 600:=by obtain⟨-,a⟩:=Em (db<|bQ f.dU) (bz _) (gG h).1 fV;rw[zg];unfold XG;by_cases g:bQ f.dU<0;rw[aas g,aas g];exact⟨a,Jg (bz _)<|gG h⟩;rw[aaq g,aaq g];exact⟨bz _,gG h⟩
def Xq{a b:Rat}(c:0<=b):nD (a*b)=b*nD a:=by
 rw[zg,zg];by_cases g:a<0;have d:0<=(-a)*b:=Rat.mul_nonneg (by grind) c;split<;>grind;have d:0<=a*b:=Rat.mul_nonneg (by grind) c
 grind
def inF(p:jZ)(rs:L jh)(b:kp)(j:Nat)(u:bN)(k:Nat):L (Nat×SV):=
 [(1,aib rs),(3,.box true<|bI p),(5,.box true<|iw b),(15,fR<|(mE rs b u).take k),(14,.box true<|dZ u),(35,.box true<|BM p rs b (oP rs b)<|(sC rs b p.aa).take j),(10,.bw 35 0 0 []),
  (65,aie u.ai),(66,.i u.ai.length),(67,.i k),(58,aic p.aa),(59,.i p.aa.length),(60,.i j)]
def adq(p:jZ)(rs:L jh)(b:kp)(j:Nat):L (Nat×SV):=[(1,aib rs),(3,.box true<|bI p),(5,.box true<|iw b),(35,.box true<|BM p rs b (oP rs b)<|(sC rs b p.aa).take j),(10,.bw 35 0 0 []),(58,aic p.aa),(59,.i p.aa.length),(60,.i j)]
def YE(p:jZ)(h:AS p)(rs:L jh)(hx:∀s∈rs,dI s.lo/\dI s.hi)(hl:rs.length<2^40)(b:kp)(he:tW p rs b=0)(hv:∀u∈p.aa,iq p.n u)(hr:RgV p.n rs)(z:∀s∈rs,SpL s)(v:TO b)(B0:p.aa.length<=96)(hn:p.n<=100):
 ab 114 [bI p,aib rs,iw b] (.bU [.box true<|BM p rs b (oP rs b)<|sC rs b p.aa,.i 0]):=by
 have P:oW p rs=0:=by apply afw;intro g;unfold tW at he;omega
 have S:wX b=0:=by unfold tW at he;omega
 have A0:=hr.len;refine cp func114 W<|ck W W (Gn p h rs hx hl) W ?_;rw[P];refine cm W W (λg=>aaF W g) λ_=>?_;refine ck W W (ZY b) W ?_;rw[S];refine cm W W (λg=>aaF W g) λ_=>?_;refine r0 W<|sY [(1,aib rs),(3,.box true<|bI p),(5,.box true<|iw b),(35,.box true<|BM p rs b [] []),(10,.bw 35 0 0 []),(36,aib rs),(37,.i rs.length),(38,.i 0)]
  ⟨ak,ak,ak,⟨W,W,adp p rs b⟩,lO,ak,ak,ak,U⟩<|ba (λi:Nat=>[(1,aib rs),(3,.box true<|bI p),(5,.box true<|iw b),(35,.box true<|BM p rs b ((oP rs b).take i) []),(10,.bw 35 0 0 []),(36,aib rs),(37,.i rs.length),(38,.i i)]) (λi=>i<=rs.length) (λi=>rs.length-i) 0 (aaQ _) ?_
 intro i hi;have A:(oP rs b).length=rs.length:=by simp[oP]
 refine cm W W ?_ ?_<;>intro g1;have H:i<rs.length:=E;have ei:(i:Int).toNat=i:=E;have eg:rs.getD i default=rs[i]:=az H;have hs:=z _<|aaZ H;obtain⟨x,w⟩:=LR hs;refine r1 W (by simp only[aj,aag,ei];omega) ?_;rw[ei,eg];refine bX W (u5 _ hs) W<|cj W W (Qv _ x w fV (DY _) b.s (by have:=v.s;omega)) W ?_;refine k1 W aP (by simp only[aj,aag,ade,A]<;>simp<;>omega) ?_;refine again (i+1) E E ⟨G,G,G,⟨W,aw.of_eq ?_⟩,lO,G,G,G,U⟩;have e:(oP rs b).take (i+1)=(oP rs b).take i++[nL (Kn rs[i]) b.s]:=by rw[ace E];simp[oP]
 rw[e];rfl;have:i=rs.length:=E;subst this;rw[<-A,acS];refine r0 W ?_;have F:(sC rs b p.aa).length=p.aa.length:=by simp[sC]
 refine ba (adq p rs b) (λj=>j<=p.aa.length) (λj=>p.aa.length-j) 0 (aaQ _) ?_;intro j hj;unfold adq;refine cm W W ?_ ?_<;>intro g2;have C:j<p.aa.length:=E;have ej:(j:Int).toNat=j:=E;have y:p.aa[j]∈p.aa:=aaZ C;have eu:p.aa.getD j default=p.aa[j]:=az C;refine r1 W (by simp only[aj,aag,ej]<;>omega) ?_;rw[ej,eu];have hu:=hv _ y;have Z:=(h.unit _ y).ai;generalize N:p.aa[j]=u at*;have l:(mE rs b u).length=u.ai.length:=by simp[mE]
 refine ba (inF p rs b j u) (λk=>k<=u.ai.length) (λk=>u.ai.length-k) 0 (aaQ _) ?_;intro k hk;unfold inF;refine cm W W ?_ ?_<;>intro g3;have o:k<u.ai.length:=E;have ek:(k:Int).toNat=k:=E;have X:u.ai.getD k default=u.ai[k]:=az o;have t:=hu.feed _<|aaZ o;have t:=hu.feed _<|aaZ o;have D:Ac rs b u k=nL (Mc rs u.ai[k]) (if u.kind=bF/\k=0 then b.d else b.s):=by unfold Ac;rw[X]
 have O:(mE rs b u).take (k+1)=(mE rs b u).take k++[Ac rs b u k]:=by rw[ace E];simp[mE]
 obtain⟨f,hf⟩:∃f,u.ai[k]=f:=⟨_,W⟩;rw[hf]at t D X;obtain⟨f1,f2,V,f4⟩:=t;obtain⟨n1,n2⟩:=Em (db<|bQ f.dU) (bz _) (gG V).1 fV;obtain⟨m1,K⟩:=Wk V;refine rn 3 W<|cQ 3 [(1,aib rs),(3,.box true<|bI p),(5,.box true<|iw b),(15,fR<|(mE rs b u).take k),(14,.box true<|dZ u),(35,.box true<|BM p rs b (oP rs b)<|(sC rs b p.aa).take j),(10,.bw 35 0 0 []),(65,aie u.ai),(66,.i u.ai.length),(67,.i k),(58,aic p.aa),(59,.i p.aa.length),(60,.i j),(16,.i k),(17,.box true<|pJ f),(18,.box true<|eF<|XG f)] True ?_ λ_=>?_;refine r1 W (by simp only[aj,aag,ek]<;>omega) ?_;rw[ek,X];refine bW W (kL V) W<|ck W W (sE _<|bz _) W<|r0 W ?_;have hs:(bQ f.dU).num.sign<0↔bQ f.dU<0:=by
  rw[afI];have:=afP (q:=bQ f.dU)
  grind
 refine bY W ?_ ?_<;>intro d;have d:=hs.1 d;refine ck W W n1 W<|r0 W ?_;have e:XG f=⟨jd (db<|bQ f.dU).n,(db<|bQ f.dU).d⟩:=by unfold XG;rw[aas d]
 rw[e];exact bm U;have d:¬bQ f.dU<0:=λh=>d<|hs.2 h;have e:XG f=db (bQ f.dU):=by unfold XG;rw[aaq d]
 rw[e];refine r0 W<|bm U;have B:f.sh.toNat<rs.length:=E;have M:rs.getD f.sh.toNat default=rs[f.sh.toNat]:=az B;have c:=z _<|aaZ B;obtain⟨x,w⟩:=LR c;obtain⟨Y,q2⟩:=qX (lgF rs[f.sh.toNat]) (XG f) x m1 w K;have R:Kn rs[f.sh.toNat]*nD (bQ f.dU)=Mc rs f:=by unfold Mc;rw[M,Xq<|DY _]
 rw[R]at Y;have T:∀m:Int,0<=m/\m<=40->ab 208 [eF<|jH (lgF rs[f.sh.toNat])<|XG f,.i m] (.i<|nL (Mc rs f) m):=λm hm=>Qv _ Y q2 fV (qf _) m E;refine r0 W ?_;have a:∀m:Int,0<=m/\m<=40->m=(if u.kind=bF/\k=0 then b.d else b.s)->aw (fR<|(mE rs b u).take k++[nL (Mc rs f) m]) (fR<|(mE rs b u).take<|k+1):=by intro m hm e;refine aw.of_eq ?_;rw[O,D,e]
 refine aF 84 W ?_ ?_<;>intro d;refine cm W W ?_ ?_<;>intro J;have J:u.kind=bF:=J;have hc:b.d=(if u.kind=bF/\k=0 then b.d else b.s):=fP;refine r1 W (by simp only[aj,aag];omega) ?_;rw[M];refine bX W (u5 _ c) W<|cj W W (lY _ _ x m1 w K fV) W<|cj W W (T b.d v.d) W<|k1 W aP (by simp only[aj,aag,ade,l]<;>simp<;>omega) ?_;exact again (k+1) E E ⟨G,G,G,⟨W,a _ v.d hc⟩,G,G,lO,G,G,G,G,G,G,U⟩;have J:¬u.kind=bF:=J;have hc:b.s=(if u.kind=bF/\k=0 then b.d else b.s):=fP;refine r1 W (by simp only[aj,aag];omega) ?_;rw[M];refine bX W (u5 _ c) W<|cj W W (lY _ _ x m1 w K fV) W<|cj W W (T b.s v.s) W<|k1 W aP (by simp only[aj,aag,ade,l]<;>simp<;>omega) ?_;exact again (k+1) E E ⟨G,G,G,⟨W,a _ v.s hc⟩,G,G,lO,G,G,G,G,G,G,U⟩;have hc:b.s=(if u.kind=bF/\k=0 then b.d else b.s):=E;refine r1 W (by simp only[aj,aag];omega) ?_;rw[M];refine bX W (u5 _ c) W<|cj W W (lY _ _ x m1 w K fV) W<|cj W W (T b.s v.s) W<|k1 W aP (by simp only[aj,aag,ade,l]<;>simp<;>omega) ?_;exact again (k+1) E E ⟨G,G,G,⟨W,a _ v.s hc⟩,G,G,lO,G,G,G,G,G,G,U⟩;have:k=u.ai.length:=E;subst this;have r:(mE rs b u).take u.ai.length=mE rs b u:=by grind
 rw[r];refine r1 W (by simp only[aj,aag,len,acx,ade,F]<;>omega) ?_;refine ko (j+1) E E ⟨ak,ak,ak,⟨W,W,.box<|.agg<|.cons (.refl _)<|.cons (.refl _)<|.cons (.refl _)<|.cons (.refl _)<|.cons (.refl _)<|.cons (.refl _)<|.cons (.refl _)<|.cons (.refl _)<|.cons (.refl _)<|.cons (.row ?_) .nil⟩,lO,ak,ak,ak,U⟩;have e:(sC rs b p.aa).take (j+1)=(sC rs b p.aa).take j++[mE rs b u]:=by rw[ace E];simp[sC,N]
 rw[dj,e,acB];exact mh.refl _;have:j=p.aa.length:=E;subst this;rw[<-F,acS];refine cg W W
def sV(f:Nat):SV:=.agg [.fn (.func f) [] []]
def aae:jj cq:=[(bF,sV 275),(kg,sV 276),(eJ,sV 277)]
def Ym:ab 210 [] (.mx aae):=by refine cp func210 W<|r0 W<|ex W W W (sw (κ:=cq) W) W<|r0 W<|ex W W W (rY (k:=bF) (x:=sV 275) (.inl W) W underlying287 underlying9 W W) W<|r0 W<|ex W W W (rY (k:=kg) (x:=sV 276) (.inl W) W underlying287 underlying9 W W) W<|r0 W<|ex W W W (rY (k:=eJ) (x:=sV 277) (.inl W) W underlying287 underlying9 W W) W<|cg W W
def Zw(u:bN)(L:List Int)(n:Int)(b:kp):SV:=.agg [.s u.kind,aie u.ai,.i u.out,.s u.k,.strs false u.cW,fO L,.i n,.i b.c,.i b.d,.i b.s,.i b.g]
def cI(L:List Int)(b:kp)(u:bN):List FH:=
 [⟨-1,-1,L.getD 0 0+40⟩,⟨(u.ai.getD 0 default).sh,-1,L.getD 0 0+b.g⟩,⟨-1,(u.ai.getD 0 default).sh,b.g-L.getD 0 0⟩,⟨u.out,-1,L.getD 1 0+L.getD 0 0-b.c⟩,
  ⟨-1,u.out,40+b.c-L.getD 0 0⟩,⟨u.out,(u.ai.getD 1 default).sh,b.g+L.getD 0 0-b.c⟩,⟨(u.ai.getD 1 default).sh,u.out,b.g-L.getD 0 0+b.c⟩]
def cA(L:List Int)(b:kp)(u:bN)(k:Nat):List FH:=[⟨u.out,-1,L.getD k 0⟩,⟨u.out,(u.ai.getD k default).sh,b.g⟩,⟨(u.ai.getD k default).sh,u.out,b.g⟩]
def cT(L:List Int)(n:Int)(b:kp)(u:bN):List FH:=[⟨n,-1,L.getD 0 0⟩,⟨-1,n,40⟩,⟨n,(u.ai.getD 0 default).sh,b.g⟩,⟨(u.ai.getD 0 default).sh,n,b.g⟩]
def Lim(x:Int):Prop:= -1000000<=x/\x<=1000000
def Yo(u:bN)(L:List Int)(n:Int)(b:kp)(d:TO b)(g:u.ai.length=2)(h:L.length=2)(hl:∀x∈L,Lim x):
 ab 275 [Zw u L n b] (aih<|cI L b u):=by
 obtain⟨x,y,rfl⟩:∃x y,L=[x,y]:=by
  match L,h with
  |[x,y],_=>exact⟨x,y,W⟩
 have f:=hl x I;have e:=hl y I;unfold Lim at f e;have i:=d.g;have hc:=d.c;have c:Int.toNat 0=0:=W;have a:Int.toNat 1=1:=W;refine cp func275 W<|k1 W aP (by simp[aj,aag,c,a,g,abo,acC,List.getD_cons_zero,List.getD_cons_succ]<;>omega) ?_;exact aH W lO
def Yp(u:bN)(L:List Int)(n:Int)(b:kp)(i:u.ai.length=L.length)(j:L.length<=8):
 ab 276 [Zw u L n b] (aih<|(List.range u.ai.length).flatMap<|cA L b u):=by
 refine cp func276 W<|r0 W<|ba (λk:Nat=>[(1,.box true<|Zw u L n b),(3,aih<|(List.range k).flatMap<|cA L b u),(8,aie u.ai),(9,.i u.ai.length),(10,.i k)]) (λk=>k<=u.ai.length) (λk=>u.ai.length-k) 0 (aaQ _) ?_;intro k h;have d:((List.range k).flatMap<|cA L b u).length<=k*3:=iK (f:=cA L b u) (c:=3) (λk=>by simp[cA]) k;refine cm W W ?_ ?_<;>intro g;have e:k<u.ai.length:=E;have a:(k:Int).toNat=k:=E;refine k1 W aP (by simp only[aj,aag,a,len,acx,abo,acC]<;>omega) ?_;refine again (k+1) E E ⟨G,⟨W,W,W,?_⟩,G,G,G,U⟩;rw[dj,mO,acB,a];exact kS.refl _;have:k=u.ai.length:=E;subst this;refine cg W W
def Yn(u:bN)(L:List Int)(n:Int)(b:kp)(c:u.ai.length=1)(a:L.length=1):
 ab 277 [Zw u L n b] (aih<|cT L n b u):=by
 refine cp func277 W<|k1 W aP (by simp[aj,a]<;>omega) ?_;exact aH W lO
def Wx(p:jZ)(rs:L jh)(b:kp)(S:L Int)(a:L (L Int)):SV:=
 .agg [.i p.n,aic p.aa,fO p.ints,aib rs,.i b.c,.i b.d,.i b.s,.i b.g,fO S,.bc false 1 [] (fO) a]
def Ya(rs:L jh)(b:kp){s:Nat}(h:s<rs.length):(oP rs b).getD s 0=Ye rs b s:=by unfold oP Ye;rw[acO,acO,afE,acL h];rfl
def VV(rs:L jh)(b:kp)(u:bN):(mE rs b u).length=u.ai.length:=by simp[mE]
def yn(rs:L jh)(b:kp)(u:bN){k:Nat}(h:k<u.ai.length):(mE rs b u).getD k 0=Ac rs b u k:=by unfold mE;rw[acO,afE,List.getElem?_range h];rfl
def VW(rs:L jh)(b:kp)(us:L bN){i:Nat}(h:i<us.length):(sC rs b us).getD i []=mE rs b us[i]:=by unfold sC;rw[acO,afE,acL h];rfl
def Zg(rs:L jh)(b:kp)(u:bN){n:Int}(hu:iq n u)(e:RgV n rs)(hl:rs.length<2^40)(d:u.ai.length<2^40)(f:TO b):∀x∈mE rs b u,Lim x:=by intro x a;unfold mE at a;rw[abS]at a;obtain⟨k,c,rfl⟩:=a;have c:=afH.1 c;obtain⟨-,g,c3⟩:=S8 rs b u k hu c e hl d f;unfold Lim;omega
def aee(rs:L jh)(b:kp)(u:bN)(h:u.ai.length=2):cI (mE rs b u) b u=Pz rs b u:=by unfold cI Pz;rw[yn rs b u E,yn rs b u E]
def aef(rs:L jh)(b:kp)(u:bN):(List.range u.ai.length).flatMap (cA (mE rs b u) b u)=(List.range u.ai.length).flatMap (Nj rs b u):=by
 have:∀k∈List.range u.ai.length,cA (mE rs b u) b u k=Nj rs b u k:=by intro k a;unfold cA Nj;rw[yn rs b u<|afH.1 a]
 rw[List.flatMap_def,List.flatMap_def,adx this]
def aeb(rs:L jh)(b:kp)(u:bN)(n:Int)(h:u.ai.length=1):cT (mE rs b u) n b u=WO n rs b u:=by unfold cT WO;rw[yn rs b u E]
def yL(p:jZ)(h:AS p)(n:Nat)(hn:p.n=n)(A0:n<=100)(N:p.aa.length<=96)(M:∀u∈p.aa,iq p.n u)(rs:L jh)(b:kp)(P:RgV p.n rs)(S:TO b):
 ab 115 [.box false<|Wx p rs b (oP rs b)<|sC rs b p.aa] (.bU [aih<|AD n p.aa rs b,.i ((n+Gl p.aa p.aa.length:Nat):Int)]):=by
 have Y:=h.aa;have H:rs.length=n:=by have:=P.len;omega
 have F:(oP rs b).length=n:=by simp[oP,H]
 have r:(sC rs b p.aa).length=p.aa.length:=by simp[sC]
 have hU:∀i,(hi:i<p.aa.length)->(Ni ((n+Gl p.aa i:Nat):Int) rs b<|p.aa.getD i default).length<=24:=by intro i hi;have hu:=M _<|aaZ hi;rw[az hi];unfold Ni;split;simp[Pz];split;rename_i g;have:=iK (f:=Nj rs b p.aa[i]) (c:=3) (λk=>by simp[Nj]) p.aa[i].ai.length;have:=(hu.add g).2.1;omega;split;simp[WO];simp
 have D:∀i,i<=p.aa.length->(yN n p.aa rs b i).length<=200+24*i:=by
  intro i
  induction i with
  |zero=>intro _;have:=iK (f:=WQ rs b) (c:=2) (λk=>by simp[WQ]) n;simp only[yN,E4,List.range_zero,List.flatMap_nil,afd];omega
  |succ i X=>intro hi;have:=X E;have:=hU i E;rw[E3,acU];omega
 refine cp func115 W<|r0 W<|ba (λs:Nat=>[(0,.box false<|Wx p rs b (oP rs b)<|sC rs b p.aa),(4,aih<|E4 rs b s),(14,fO<|oP rs b),(15,.i (oP rs b).length),(16,.i s)]) (λs=>s<=n) (λs=>n-s) 0 (aaQ _) ?_;intro s hs;have O:(E4 rs b s).length<=s*2:=iK (f:=WQ rs b) (c:=2) (λk=>by simp[WQ]) s;refine cm W W ?_ ?_<;>intro K;have Z:s<n:=E;have T:(s:Int).toNat=s:=E;have A:=Ya rs b (show s<rs.length from E);refine r1 W (by simp only[aj,aag,T,F,len,acx,abo,acC]<;>omega) ?_;rw[T,A];refine again (s+1) E E ⟨G,⟨W,W,W,?_⟩,G,G,G,U⟩;rw[dj,E4,E4,mO,acB];exact kS.refl _;have:s=n:=E;subst this;have h0:E4 rs b s=yN s p.aa rs b 0:=by unfold yN;simp
 rw[h0];refine ck W W Ym W<|b9 W (λi:Nat=>[(0,.box false<|Wx p rs b (oP rs b)<|sC rs b p.aa),(4,aih<|yN s p.aa rs b i),(7,.mx aae),(8,.i ((s+Gl p.aa i:Nat):Int)),(40,aic p.aa),(41,.i p.aa.length),(42,.i i)])
  (λi=>i<=p.aa.length) (λi=>p.aa.length-i) 0 (aaQ _) ⟨G,G,G,⟨W,aij SV.i<|by rw[hn];simp[Gl]⟩,G,G,G,U⟩ ?_
 intro i hi;refine cm W W ?_ ?_<;>intro K;have j:i<p.aa.length:=E;have q:(i:Int).toNat=i:=E;have A:p.aa.getD i default=p.aa[i]:=az j;have hu:=M _<|aaZ j;have m:=(h.unit _<|aaZ j).ai;have R:=D i hi;have a:=E3 s p.aa rs b i;have d:=Tt j;have E2:=ZG p.aa i;have l:=VW rs b p.aa j;rw[A]at a;obtain⟨u,eu⟩:∃u,p.aa[i]=u:=⟨_,W⟩;rw[eu]at hu m a d l A;have w:=Zg rs b u hu P E m S;have J:=VV rs b u;have V:=Qz;have B:=CL;have C:=Jq;refine r1 W (by simp only[aj,aag,q]<;>omega) ?_;rw[q,A];by_cases v:u.kind=bF;have e:¬u.kind=eJ:=by rw[v];exact B
 have y:=(hu.int v).1;rw[aaq e]at d;unfold Ni at a;rw[aas v]at a;refine SO (sV 275) W W W (lV (k:=u.kind) (x:=sV 275) underlying287 underlying9 (by rw[v];rfl) false) W ?_;refine r1 W (by simp only[aj,aag,q,r]<;>omega) ?_;rw[q,l];refine bX W (Yo u (mE rs b u) _ b S y E w) W ?_;rw[aee rs b u y];refine k1 W aP (by simp only[aj,aag,len,acx,Pz,abo,acC];exact⟨λ_=>rfl,λ_=>rfl,E⟩) ?_;refine bY W (λo=>aaF o e) λ_=>?_;refine r1 W bk<|again (i+1) E E ⟨G,⟨W,W,W,?_⟩,G,⟨W,aij SV.i<|by rw[d];rfl⟩,G,G,G,U⟩;rw[dj,a,acB];exact kS.refl _;unfold Ni at a;rw[aaq v]at a;by_cases o:u.kind=kg;have e:¬u.kind=eJ:=by rw[o];exact C
 rw[aaq e]at d;rw[aas o]at a;have E1:=(hu.add o).2.1;have B0:=iK (f:=Nj rs b u) (c:=3) (λk=>by simp[Nj]) u.ai.length;refine SO (sV 276) W W W (lV (k:=u.kind) (x:=sV 276) underlying287 underlying9 (by rw[o];rfl) false) W ?_;refine r1 W (by simp only[aj,aag,q,r]<;>omega) ?_;rw[q,l];refine bX W (Yp u (mE rs b u) _ b J.symm E) W ?_;rw[aef rs b u];refine k1 W aP (by simp only[aj,aag,len,acx];exact⟨λ_=>rfl,λ_=>rfl,E⟩) ?_;refine bY W (λt=>aaF t e) λ_=>?_;refine r1 W bk<|again (i+1) E E ⟨G,⟨W,W,W,?_⟩,G,⟨W,aij SV.i<|by rw[d];rfl⟩,G,G,G,U⟩;rw[dj,a,acB];exact kS.refl _;rw[aaq o]at a;have t:u.kind=eJ:=by rcases hu.kind with g|g|g;exact aaF g v;exact aaF g o;exact g
 rw[aas t]at a d;have z:=(hu.table t).1;refine SO (sV 277) W W W (lV (k:=u.kind) (x:=sV 277) underlying287 underlying9 (by rw[t];rfl) false) W ?_;refine r1 W (by simp only[aj,aag,q,r]<;>omega) ?_;rw[q,l];refine bX W (Yn u (mE rs b u) _ b z E) W ?_;rw[aeb rs b u _ z];refine k1 W aP (by simp only[aj,aag,len,acx,WO,abo,acC];exact⟨λ_=>rfl,λ_=>rfl,E⟩) ?_;refine bY W (λ_=>?_) λh5=>aaF t h5;refine r1 W bk<|again (i+1) E E ⟨G,⟨W,W,W,?_⟩,G,⟨W,aij SV.i<|by rw[d];omega⟩,G,G,G,U⟩;rw[dj,a,acB];exact kS.refl _;have:i=p.aa.length:=E;subst this;refine cg W W
structure OpV(p:jZ)(rs:List jh)(b:kp):Prop where
 afU:dH p=0
 n1:1<=p.n
 n:p.n<=100
 aa:p.aa.length<=96
 val:∀u∈p.aa,iq p.n u
 rg:RgV p.n rs
 sp:∀s∈rs,SpL s
 bn:TO b
def Sg{p:jZ}(h:dH p=0):1<=p.n/\p.n<=100/\p.aa.length<=96/\∀u∈p.aa,iq p.n u:=by unfold dH at h;split at h;cases h;rename_i c;split at h;cases h;rename_i b;split at h;rename_i a;exact aaF h a;rename_i a;refine⟨E,E,E,λu hu=>?_⟩;exact rM<|bO.1 (by simpa using a) u hu
def zN{p:jZ}{rs:L jh}{b:kp}(h:tW p rs b=0):OpV p rs b:=by
 have a:oW p rs=0:=by apply afw;intro g;unfold tW at h;rw[aas g]at h;exact g h
 have e:wX b=0:=by unfold tW at h;rwa[aaq<|by rw[a];simp]at h
 have d:dH p=0:=by apply afw;intro g;unfold oW at a;rw[aas g]at a;exact g a
 have c:rW p.n rs=0:=by unfold oW at a;rwa[aaq<|by rw[d];simp]at a
 obtain⟨k,j,i,f⟩:=Sg d;refine⟨d,k,j,i,f,IU c,λs hs=>?_,BW.1 e⟩;unfold rW at c;split at c;cases c;exact C9<|bO.1 c s hs
def Oy(p:jZ)(h:AS p)(rs:L jh)(a:∀s∈rs,dI s.lo/\dI s.hi)(hl:rs.length<2^40)(b:kp)(he:tW p rs b=0):
 ab 114 [bI p,aib rs,iw b] (.bU [.box true<|BM p rs b (oP rs b)<|sC rs b p.aa,.i 0]):=
 have v:=zN he
 YE p h rs a hl b he v.val v.rg v.sp v.bn v.aa v.n
def SP(p:jZ)(h:AS p)(rs:L jh)(a:∀s∈rs,dI s.lo/\dI s.hi)(hl:rs.length<2^40)(b:kp)(he:tW p rs b=0):
 ab 44 [bI p,aib rs,iw b] (.bU [fO<|oP rs b,.bc false 1 [] (fO)<|sC rs b p.aa,.i 0]):=by
 refine cp func44 W<|ck W W (Oy p h rs a hl b he) W<|cm W W (λg=>aaF W g) λ_=>?_;refine oQ (r:=9) (p:=[]) W W U<|k0 W aP<|bV W
def WL(p:jZ)(h:AS p)(rs:L jh)(a:∀s∈rs,dI s.lo/\dI s.hi)(hl:rs.length<2^40)(b:kp)(he:tW p rs b=0):
 ab 39 [bI p,aib rs,iw b] (.bU [aih<|AD p.n.toNat p.aa rs b,.i 0]):=by
 have v:=zN he;have hn:p.n=(p.n.toNat:Int):=by have:=v.n1;omega
 refine cp func39 W<|ck W W (Oy p h rs a hl b he) W<|cm W W (λg=>aaF W g) λ_=>?_;refine r0 W<|call W W U (yL p h p.n.toNat hn (by have:=v.n;omega) v.aa v.val rs b v.rg v.bn) W ⟨λ_=>rfl,U⟩ ?_;refine cg W W
def cAt(cs:L FH)(i:Int):FH:=cs.getD i.toNat default
def aed(cs:L FH):Int->L Int->Prop
 |_,[]=>True
 |p,i::l=>(cAt cs i).aa6=(cAt cs p).less/\aed cs i l
instance aec(cs:List FH):∀p l,Decidable (aed cs p l)
 |_,[]=>.isTrue U
 |p,i::l=>@instDecidableAnd _ _ _<|aec cs i l
structure Rx where
 v:List Int
 b:List Int
 l:Int
def nl(c:FH):Nat:=(c.less+1).toNat
def nt(c:FH):Nat:=(c.aa6+1).toNat
abbrev ga(x:L Int)(i:Nat):Int:=x.getD i 0
def aeR(s:Rx)(c:FH):Prop:=ga s.v (nt c)<1099511627776/\ga s.v (nt c)+c.jI<ga s.v (nl c)
instance(s:Rx)(c:FH):Decidable (aeR s c):=inferInstanceAs<|Decidable<|_/\_
def iI:bN:=⟨bF,[⟨1,[49]⟩,⟨0,[49]⟩],1,[49],[]⟩
def gB:jZ:=⟨2,[iI],[1]⟩
def check_1:aQ [49]=0:=by decide +kernel
def ado:bQ [49]≠0:=by intro h;have a:=fW check_1;rw[h,rX]at a;simp_all
def Ku:gL 2 iI=0:=by
 have c:∀k:Int,0<=k->k<2->gV 2 ⟨k,[49]⟩=0:=by intro k e d;unfold gV;rw[aaq<|by show¬(k<0\/2<=k);omega,aaq<|by rw[check_1];simp,aaq ado]
 have b:aG (gV 2) iI.ai=0:=bO.2 (by intro f a;simp[iI]at a;rcases a with rfl|rfl;simp_all;exact c 0 fV fV)
 unfold gL;rw[aaq<|by simp[iI],aaq fV,aaq<|by rw[b];simp];rfl
def I7:aA [iI]=[0]:=by
 have b:dw [iI] [] 0=0:=by rw[ku fV];rfl
 have a:dw [iI] [0] 0= -1:=by rw[ku fV,aaq fV,nX fV]
 show eW [iI] 2 []=[0];rw[eW,b];show eW [iI] 1 [0]=[0];rw[eW,a,aas fV]
def Bq:dH gB=0:=by
 have hu:aG (gL gB.n) gB.aa=0:=bO.2 (by
  intro u h;have:u=iI:=by simpa[gB]using h
  subst this;exact Ku)
 unfold dH;rw[aaq fV,aaq fV,aaq<|by rw[hu];simp,aaq fV,aaq fV,aaq fV,aaq,aaq<|by show¬(aA [iI]).length<1;rw[I7];decide,aaq];rintro⟨u,h,a,-⟩;have:u=iI:=by simpa[gB]using h
 subst this;exact aaF a fV;intro h;refine h λs b a=>?_;have:s=1:=by have:s<2:=a;omega
 subst this;decide
def th:L jh:=[⟨[48],[50]⟩,⟨[49],[56]⟩]
def ra:kp:=⟨3,5,10,4⟩
def vu:kp:=⟨40,5,10,0⟩
def WD{n:Nat}(h:n<10):decl n 1=[TU n]:=by have e:n/10=0:=E;have a:n%10=n:=E;rw[bC E,e,a,c7];rfl
def ZO:aQ [48]=0:=by decide +kernel
def ZN:aQ [50]=0:=by decide +kernel
def ZM:aQ [56]=0:=by decide +kernel
def CD{s:cq}(n:Nat)(h:n<10)(hc:aQ s=0)(he:s=[TU n]):bQ s=(n:Rat):=by rw[<-IX,fW hc,he,Ot,WD h]
def aaj:bQ [48]=0:=CD 0 fV ZO W
def IV:bQ [49]=1:=CD 1 fV check_1 W
def aai:bQ [50]=2:=CD 2 fV ZN W
def aah:bQ [56]=8:=CD 8 fV ZM W
def abe:dQ ⟨[48],[50]⟩=0:=by unfold dQ;rw[aaj,aai];decide +kernel
def abd:dQ ⟨[49],[56]⟩=0:=by unfold dQ;rw[IV,aah];decide +kernel
def abP:Kn ⟨[48],[50]⟩=2:=by unfold Kn;rw[aaj,aai];decide +kernel
def abO:Kn ⟨[49],[56]⟩=8:=by unfold Kn;rw[IV,aah];decide +kernel
def DW:nL 2 10=9:=by unfold nL;rw[kz (e:=9) ⟨by decide +kernel,by decide +kernel⟩];rfl
def LP:nL 8 10=7:=by unfold nL;rw[kz (e:=7) ⟨by decide +kernel,by decide +kernel⟩];rfl
def YZ:nL 8 5=2:=by unfold nL;rw[kz (e:=2) ⟨by decide +kernel,by decide +kernel⟩];rfl
def N9(b:kp)(a:b.s=10):oP th b=[9,7]:=by unfold oP th;simp[abP,abO,a,DW,LP]
def adT:Mc th ⟨1,[49]⟩=8:=by unfold Mc;rw[show th.getD (Int.toNat<|Kk.sh ⟨1,[49]⟩) default=⟨[49],[56]⟩from W,abO,IV];decide +kernel
def adS:Mc th ⟨0,[49]⟩=2:=by unfold Mc;rw[show th.getD (Int.toNat<|Kk.sh ⟨0,[49]⟩) default=⟨[48],[50]⟩from W,abP,IV];decide +kernel
theorem adR(b:kp)(a:b.d=5):Ac th b iI 0=2:=by unfold Ac;rw[show iI.ai.getD 0 default=⟨1,[49]⟩from W,adT,aas ⟨W,W⟩,a,YZ]
def in_1(b:kp)(a:b.s=10):Ac th b iI 1=9:=by unfold Ac;rw[show iI.ai.getD 1 default=⟨0,[49]⟩from W,adS,aaq I,a,DW]
def OY(b:kp)(a:b.d=5)(hs:b.s=10):sC th b gB.aa=[[2,9]]:=by show[[Ac th b iI 0,Ac th b iI 1]]=_;rw[adR b a,in_1 b hs]
def o5:AS gB:=⟨fV,λu h=>by
 have:u=iI:=by simpa[gB]using h
 subst this;exact⟨fV,λf a=>by
  have:f.dU=[49]:=by
   simp[iI]at a
   grind
  rw[this];exact(by unfold dI;decide:dI [49]),(by unfold dI;decide:dI [49]),fV,λs hs=>by simp[iI]at hs⟩,fV⟩
def An:∀s∈th,dI s.lo/\dI s.hi:=by intro s hs;simp[th]at hs;rcases hs with rfl|rfl<;>exact⟨by unfold dI;decide,by unfold dI;decide⟩
def CH(b:kp)(a:TO b):tW gB th b=0:=by
 have d:rW gB.n th=0:=by refine bO.2 λs hs=>?_;simp[th]at hs;rcases hs with rfl|rfl;exact abe;exact abd
 have c:oW gB th=0:=by unfold oW;rw[aaq<|by rw[Bq];simp];exact d
 unfold tW;rw[aaq<|by rw[c];simp];exact BW.2 a
def ZV:TO ra:=⟨fV,fV,fV,fV⟩
def acr:TO vu:=⟨fV,fV,fV,fV⟩
def acg:L FH:=[⟨0,-1,9⟩,⟨-1,0,40⟩,⟨1,-1,7⟩,⟨-1,1,40⟩,⟨-1,-1,42⟩,⟨1,-1,6⟩,⟨-1,1,2⟩,⟨1,-1,8⟩,⟨-1,1,41⟩,⟨1,0,3⟩,⟨0,1,5⟩]
def ad9:L FH:=[⟨0,-1,9⟩,⟨-1,0,40⟩,⟨1,-1,7⟩,⟨-1,1,40⟩,⟨-1,-1,42⟩,⟨1,-1,2⟩,⟨-1,1,-2⟩,⟨1,-1,-29⟩,⟨-1,1,78⟩,⟨1,0,-38⟩,⟨0,1,38⟩]
def adh(b:kp)(hs:b.s=10):Ye th b 0=9:=by unfold Ye;rw[show th.getD 0 default=⟨[48],[50]⟩from W,abP,hs,DW]
def adg(b:kp)(hs:b.s=10):Ye th b 1=7:=by unfold Ye;rw[show th.getD 1 default=⟨[49],[56]⟩from W,abO,hs,LP]
def WN(b:kp)(a:b.d=5)(hs:b.s=10):AD 2 gB.aa th b=
 [⟨0,-1,9⟩,⟨-1,0,40⟩,⟨1,-1,7⟩,⟨-1,1,40⟩,⟨-1,-1,2+40⟩,⟨1,-1,2+b.g⟩,⟨-1,1,b.g-2⟩,⟨1,-1,9+2-b.c⟩,⟨-1,1,40+b.c-2⟩,⟨1,0,b.g+2-b.c⟩,⟨0,1,b.g-2+b.c⟩]:=by
 show([⟨0,-1,Ye th b 0⟩,⟨-1,0,40⟩,⟨1,-1,Ye th b 1⟩,⟨-1,1,40⟩]:L FH)++(Ni 2 th b iI++[])=_;have hu:Ni 2 th b iI=Pz th b iI:=aas W;rw[hu];unfold Pz;rw[adh b hs,adg b hs,adR b a,in_1 b hs];rfl
def Rh:AD 2 gB.aa th ra=acg:=(WN ra W W).trans W
def ZH:AD 2 gB.aa th vu=ad9:=(WN vu W W).trans W
def xP:SV:=bI gB
def xR:SV:=aib th
def PX(b:kp)(o:Bool):SV:=.agg [.i gB.n,aic gB.aa,fO gB.ints,aib th,.i b.c,.i b.d,.i b.s,.i b.g,.ints .i64 o [9,7],.bc o 1 [] (SV.ints .i64 o) [[2,9]]]
def JM:th.length<2^40:=fV
def U9(b:kp)(c:TO b)(a:b.d=5)(hs:b.s=10):ab 114 [xP,xR,iw b] (.bU [.box true<|PX b true,.i 0]):=by have h:=Oy gB o5 th An JM b<|CH b c;rw[N9 b hs,OY b a hs]at h;exact h
def VC:ab 44 [xP,xR,iw ra] (.bU [fO [9,7],.bc false 1 [] (fO) [[2,9]],.i 0]):=by have h:=SP gB o5 th An JM ra<|CH ra ZV;rw[N9 ra W,OY ra W W]at h;exact h
def ZF:ab 39 [xP,xR,iw ra] (.bU [aih acg,.i 0]):=by have h:=WL gB o5 th An JM ra<|CH ra ZV;rw[show gB.n.toNat=2 from W,Rh]at h;exact h
def yK(b:kp)(c:TO b)(a:b.d=5)(hs:b.s=10):ab 115 [.box false<|PX b false] (.bU [aih<|AD 2 gB.aa th b,.i 2]):=by have v:=zN<|CH b c;have h:=yL gB o5 2 W fV v.aa v.val th b v.rg v.bn;rw[N9 b hs,OY b a hs]at h;exact h
def hW:prog.funcs.toList.all Ls=true:=aP
def vI(f:FuncId)(t:L SV->Q SV)(T:rF):rF:=λg a=>match Nat.beq g f with
 |true=>t a
 |false=>T g a
def iV{P:Program}{f:FuncId}{t:L SV->Q SV}{T:rF}(h:∀xs r,t xs=some r->aN P f xs r)(b:∀g xs r,T g xs=some r->aN P g xs r):∀g xs r,vI f t T g xs=some r->aN P g xs r:=by intro g xs r e;unfold vI at e;split at e;rename_i a;rw[ac2 a];exact h _ _ e;simp_all
def Pq:Nat->Nat->Nat->cq->cq
 |0,_,_,t=>t
 |m+1,n,k,t=>match dt (Nat.beq n 0) (Nat.beq k 0)with
  |true=>t
  |false=>Pq m (n/10) (k-1)<|TU (n%10)::t
def JT:∀m n k t,n<10^m->k<=m->Pq m n k t=decl n k++t
 |0,n,k,t,h,c=>by
  have f:n=0:=by simp at h;omega
  have d:k=0:=E;subst f;subst d;rw[c7];rfl
 |m+1,n,k,t,h,c=>by
  unfold Pq;split;rename_i e;rw[aW]at e;rw[ac2 e.1,ac2 e.2,c7];rfl;rename_i e;have hn:¬(n=0/\k=0):=λ⟨a,b⟩=>by subst a;subst b;simp[dt]at e
  rw[JT m (n/10) (k-1) _ E E,bC hn,acT];rfl
def abT:Int->cq
 |.ofNat n=>Pq 30 n 1 []
 |.negSucc n=>45::Pq 30 (n+1) 1 []
def QB{z:Int}(c: -(2^63)<=z)(b:z<=9223372036854775807):abT z=bS z:=by
 have a:(9223372036854775809:Nat)<10^30:=fV;unfold bS;cases z with
 |ofNat n=>have hn:=agz (by grind:n<9223372036854775809) a;show Pq 30 n 1 []=_;rw[JT 30 n 1 [] hn fV,afd];rfl
 |negSucc n=>have hn:=agz (E:n+1<9223372036854775809) a;rw[aas E];show 45::Pq 30 (n+1) 1 []=_;rw[JT 30 (n+1) 1 [] hn fV,afd];rfl
def ltI(a b:Int):Bool:=match b-a with
 |.ofNat (_+1)=>true
 |_=>false
def CK{a b:Int}(h:ltI a b=true):a<b:=by
 unfold ltI at h
 grind
def OW:L SV->Q SV
 |[.n .u64<|.ofNat x,.n .u64<|.ofNat y,.n .u64<|.ofNat c]=>match Nat.ble c 1 with
  |true=>some (.bU [.n .u64<|.ofNat<|(x+y+c)%2^64,.n .u64<|.ofNat<|(x+y+c)/2^64])
  |false=>none
 |_=>none
def OT:L SV->Q SV
 |[.n .u64<|.ofNat x,.n .u64<|.ofNat y,.n .u64<|.ofNat c]=>match Nat.ble c 1 with
  |true=>some (.bU [.n .u64<|.ofNat<|(x+2^64-y-c)%2^64,.n .u64<|.ofNat<|match Nat.blt x (y+c)with|true=>1|false=>0])
  |false=>none
 |_=>none
def OU:L SV->Q SV
 |[.n .u64<|.ofNat x,.n .u64<|.ofNat y]=>match dt (Nat.blt x (2^64)) (Nat.blt y (2^64))with
  |true=>some (.bU [.n .u64<|.ofNat<|x*y/2^64,.n .u64<|.ofNat<|x*y%2^64])
  |false=>none
 |_=>none
def OV:L SV->Q SV
 |[.s s,.n .u8<|.ofNat c]=>match Nat.beq c 47 with
  |true=>some (.i<|Ut s)
  |false=>none
 |_=>none
def VP:L SV->Q SV
 |[.n .i64 z]=>match dt (ltI (-9223372036854775809) z) (ltI z (2^63))with
  |true=>some (.s<|abT z)
  |false=>none
 |_=>none
def VN:L SV->Q SV
 |[.agg [.n .i64 z,.nil]]=>match dt (ltI (-9223372036854775809) z) (ltI z (2^63))with
  |true=>some (.s<|abT z)
  |false=>none
 |_=>none
def Zz:cq->Bool
 |[]=>true
 |c::s=>match dt (Nat.ble 48 c.toNat) (Nat.ble c.toNat 57)with
  |true=>Zz s
  |false=>false
def M3:∀{s:cq},Zz s=true->dG s
 |[],_=>λc hc=>by cases hc
 |c::s,h=>by unfold Zz at h;split at h;rename_i e;rw[aW]at e;intro x a;rcases abm.1 a with rfl|a;simp_all;exact M3 h x a;cases h
def VR:L SV->Q SV
 |[.s<|c::s]=>match dt (Zz<|c::s) (Nat.ble (len s) 17)with
  |true=>some (.bU [.n .i64<|.ofNat<|cX<|c::s,.c .nilIface])
  |false=>none
 |_=>none
def abR:List SV->Option SV
 |[.ints .i64 false [x],.n .i64<|.ofNat n]=>match dt (Nat.ble 1 n) (Nat.blt n 1048576)with
  |true=>some (.ints .i64 true<|List.replicate n x)
  |false=>none
 |_=>none
def S3(xs:L SV)(r:SV)(h:OW xs=some r):ab 315 xs r:=by unfold OW at h;split at h;split at h;rename_i x y c _ e;cases h;exact gi x y c<|acR e;cases h;cases h
def SX(xs:L SV)(r:SV)(h:OT xs=some r):ab 317 xs r:=by
 unfold OT at h;split at h;split at h;rename_i x y c _ e;cases h;have hh:=qJ x y c<|acR e;have b:(match Nat.blt x (y+c)with|true=>1|false=>0)=if x<y+c then 1 else 0:=by
  by_cases g:x<y+c;rw[aas g];have:Nat.blt x (y+c)=true:=Nat.ble_eq_true_of_le g;rw[this];rw[aaq g];have:Nat.blt x (y+c)=false:=by
   cases a:Nat.blt x (y+c)with
   |false=>rfl
   |true=>exact aaF (acR a) g
  rw[this]
 rw[b];exact hh;cases h;cases h
def SY(xs:L SV)(r:SV)(h:OU xs=some r):ab 255 xs r:=by unfold OU at h;split at h;split at h;rename_i x y _ e;cases h;rw[aW]at e;exact ll x y (acR e.1)<|acR e.2;cases h;cases h
def SZ(xs:L SV)(r:SV)(h:OV xs=some r):ab 379 xs r:=by unfold OV at h;split at h;split at h;rename_i s c _ e;cases h;rw[ac2 e];exact Ea s;cases h;cases h
def VO(xs:L SV)(r:SV)(h:VP xs=some r):ab 298 xs r:=by unfold VP at h;split at h;split at h;rename_i z _ e;cases h;rw[aW]at e;have b:=CK e.1;have a:=CK e.2;rw[QB E E];exact Js z E E;cases h;cases h
def VM(xs:L SV)(r:SV)(h:VN xs=some r):ab 232 xs r:=by unfold VN at h;split at h;split at h;rename_i z _ e;cases h;rw[aW]at e;have b:=CK e.1;have a:=CK e.2;rw[QB E E];refine cp func232 W<|ck W W (Js z E E) W<|cg W W;cases h;cases h
def VQ(xs:L SV)(r:SV)(h:VR xs=some r):ab 285 xs r:=by unfold VR at h;split at h;split at h;rename_i c s _ e;cases h;rw[aW]at e;have hl:=acR e.2;rw[fk]at hl;exact Xb (c::s) (M3 e.1) I (by simp;omega);cases h;cases h
def Y8(xs:L SV)(r:SV)(h:abR xs=some r):ab 113 xs r:=by unfold abR at h;split at h;split at h;rename_i x n _ e;cases h;rw[aW]at e;exact G9 x n (acR e.1)<|acR e.2;cases h;cases h
def T0:rF:=vI 315 OW<|vI 317 OT<|vI 255 OU<|vI 379 OV<|vI 298 VP<|vI 232 VN<|vI 285 VR<|vI 113 abR λ_ _=>none
def iN:∀g xs r,T0 g xs=some r->ab g xs r:=iV S3<|iV SX<|iV SY<|iV SZ<|iV VO<|iV VM<|iV VQ<|iV Y8 λ_ _ _ h=>by cases h
def jk{T:rF}(a:∀g xs r,T g xs=some r->ab g xs r){B:L Nat}{g:FuncId}{xs:L SV}{r:SV}(h:X5 (exec prog tt T B 100000) prog tt T g xs=some r):ab g xs r:=C6 hA hW a (sK hA hm hW a 100000) h
def zn:SV:=.agg [.i 1,.nil,.i 2,.nil,.i 4,.nil,.i 8,.nil,.i 16,.nil,.i 32,.nil,.i 64,.nil,.i 128,.nil,.i 256,.nil,.i 512,.nil,.i 1024,.nil,.i 2048,.nil,.i 4096,.nil,.i 8192,.nil,.i 16384,.nil,.i 32768,.nil,.i 65536,.nil,.i 131072,.nil,.i 262144,.nil,.i 524288,.nil,.i 1048576,.nil,.i 2097152,.nil,.i 4194304,.nil,.i 8388608,.nil,.i 16777216,.nil,.i 33554432,.nil,.i 67108864,.nil,.i 134217728,.nil,.i 268435456,.nil,.i 536870912,.nil,.i 1073741824,.nil,.i 2147483648,.nil,.i (2^32),.nil,.i 8589934592,.nil,.i 17179869184,.nil,.i 34359738368,.nil,.i 68719476736,.nil,.i 137438953472,.nil,.i 274877906944,.nil,.i 549755813888,.nil,.i 1099511627776,.nil,.i 2199023255552,.nil,.i 4398046511104,.nil,.i 8796093022208,.nil,.i 17592186044416,.nil,.i 35184372088832,.nil,.i 70368744177664,.nil,.i 140737488355328,.nil,.i 281474976710656,.nil,.i 562949953421312,.nil,.i 1125899906842624,.nil,.i 2251799813685248,.nil,.i 4503599627370496,.nil,.i 9007199254740992,.nil,.i 18014398509481984,.nil,.i 36028797018963968,.nil,.i 72057594037927936,.nil,.i 144115188075855872,.nil,.i 288230376151711744,.nil,.i 576460752303423488,.nil,.i 1152921504606846976,.nil,.i 2305843009213693952,.nil,.i 4611686018427387904,.nil,.i 1,fS [2^63],.i 1,fS [0,1],.i 1,fS [0,2],.i 1,fS [0,4],.i 1,fS [0,8],.i 1,fS [0,16],.i 1,fS [0,32],.i 1,fS [0,64],.i 1,fS [0,128],.i 1,fS [0,256],.i 1,fS [0,512],.i 1,fS [0,1024],.i 1,fS [0,2048],.i 1,fS [0,4096],.i 1,fS [0,8192],.i 1,fS [0,16384],.i 1,fS [0,32768],.i 1,fS [0,65536]]
def Iy:ab 84 [] zn:=jk iN (B:=[]) aP
def adZ(x:L It×a7)(rs:L ResultVar):Q SV:=match x.1 with
 |[]=>match jl tt x.2 rs with
  |some a=>some (xB a)
  |none=>none
 |_::_=>none
def Wv{N:Nat}{R:Q Nat->Prop}{k:L It}{l:a7}{T:rF}(c:∀g xs r,T g xs=some r->ab g xs r){B:L Nat}{rs:L ResultVar}{r:SV}(h:adZ (exec prog tt T B 100000 N k l) rs=some r):AK R prog N (TK prog rs r) k l:=by
 refine sK (B:=B) hA hm hW c 100000 N R _ k l ?_;unfold adZ at h;generalize exec prog tt T B 100000 N k l=x at h;obtain⟨a,d⟩:=x;cases a with
 |cons i a=>cases h
 |nil=>simp only at h;split at h;rename_i xs b;simp at h;exact aH b<|aw.of_eq h;cases h
def xS:SV:=.agg [fO [9,6],.row false 1 [fO [2,7]]]
def xU(c:SV):SV:=.agg [.s bF,.row false 2 [.agg [.i 1,.s [49]],.agg [.i 0,.s [49]]],.i 1,.s [49],c]
def xPc(c:SV):SV:=.agg [.i 2,.row false 5 [xU c],fO [1]]
def xQ:SV:=xPc<|.strs false []
def xN:SV:=xPc .nil
def Is:ab 86 [xQ,xS] (.fn (.func 177) [] [.box false xQ,.box false xS]):=by refine cp func86 W<|cQ 1 [(2,.box true xQ),(3,.box true xS)] True ?_ λ_=>?_;refine r0 W<|bm U;refine oQ (r:=2) (p:=[]) W W U<|oQ (r:=3) (p:=[]) W W U<|cg W W
def xV:Nat->SV
 |0=>.agg [.i 0,.i 0,.i 2,.i 6]
 |_=>.agg [.i 0,.i 1,.i 7,.i 9]
def C0(C:Value->Prop)(J:Nat->qg)(b:∀v,C v->∀k,k<2->Yields prog (J k) (J<|k+1) (aB [xV k]) true v):
 iQ prog 177 [.abs<|J 0] [.pv C,.box false xQ,.box false xS] [.abs<|J 2] (.bU []):=by
 refine mF (fn:=Tryz.f177) func177 W W W W W<|r0 W<|iM<|cm W W (λ_=>?_) λg=>aaF fV g;refine r1 W (aZ W)<|iM<|cm W W (λ_=>?_) λg=>aaF fV g;refine r1 W (aZ W)<|TY W W U (λv a=>b v a 0 fV) W<|k0 W aP<|nS W W W (λg=>aaF g fV) λ_=>?_;refine r1 W (aZ W)<|iM<|cm W W (λ_=>?_) λg=>aaF fV g;refine r1 W (aZ W)<|TY W W U (λv a=>b v a 1 fV) W<|k0 W aP<|nS W W W (λg=>aaF g fV) λ_=>?_;refine r1 W (aZ W)<|iM<|cm W W (λg=>aaF g fV) λ_=>?_;refine r1 W (aZ W)<|iM<|cm W W (λg=>aaF g fV) λ_=>?_;refine r0 W<|NJ [(1000000,.abs<|J 2)] ⟨W,U⟩ W U ⟨G,U⟩
def BF(n d:Int):SV:=.agg [.i n,.nil,.i d,.nil]
def aam:ab 87 [zn,.i<|-4] (BF 1 16):=jk iN (B:=[]) aP
def aan:ab 87 [zn,.i<|-2] (BF 1 4):=jk iN (B:=[]) aP
def Wc:ab 123 [.s [49]] (BF 1 1):=jk iN (B:=[]) aP
def abL:ab 88 [BF 1 16,BF 1 1] (BF 1 16):=jk iN (B:=[]) aP
def adC:ab 88 [BF 1 4,BF 1 1] (BF 1 4):=jk iN (B:=[]) aP
def gY:Nat->SV
 |0=>.row true 1 [.nil]
 |1=>.row true 1 [.row true 4 [BF 1 16]]
 |_=>.row true 1 [.row true 4 [BF 1 16,BF 1 4]]
def Zh:ab 92 [xQ,xS] (.row false 1 [.row false 4 [BF 1 16,BF 1 4]]):=by
 refine cp func92 W<|ck W W Iy W<|r1 W (aZ W)<|bW W Is W<|r0 W<|zI [2,5,6] [2,5,6] 2 2 (λk=>[xV k]) (λk=>[.box true xQ,.box true zn,.box true<|gY k]) (λ_=>true) (λ_=>none) (.bU [])
  rfl W W W W func177 W W W W W W (λ_ _=>rfl) (λ_=>rfl) ?_ W W (λk _ h=>rfl) (λC J d=>C0 C J λv e k a=>d v e k a λ_ _=>rfl) ?_ ?_ ?_
 intro k a z b;simp only[abm,ae8,or_false]at b;rcases b with rfl|rfl|rfl;rfl;rfl
 match k,a with
 |0,_=>rfl
 |1,_=>rfl
 ·intro k a _
  match k,a with
  |0,_=>refine r0 W<|rN<|r1 W (aZ W)<|bX W aam W<|r1 W (aZ W)<|bX W Wc W<|cj W W abL W<|k1 W aP (aZ W)<|yb [(1000000,.box true xQ),(1000001,.box true zn),(1000002,.box true<|gY 1)] W W ⟨ak,ak,ak,U⟩ ⟨G,G,G,U⟩
  |1,_=>refine r0 W<|rN<|r1 W (aZ W)<|bX W aan W<|r1 W (aZ W)<|bX W Wc W<|cj W W adC W<|k1 W aP (aZ W)<|yb [(1000000,.box true xQ),(1000001,.box true zn),(1000002,.box true<|gY 2)] W W ⟨ak,ak,ak,U⟩ ⟨G,G,G,U⟩
 intro _;refine cg W W;intro c f;simp at f
def cq2:SV:=.row false 3 (ad9.map Co)
def yJ:ab 115 [.box false<|PX vu false] (.bU [cq2,.i 2]):=by have h:=yK vu acr W W;rw[ZH]at h;exact h.shr.same W W
def R7:ab 40 [xQ,xR,iw vu,fO [7,6]] (.i 0):=by refine cp func40 W<|ck W W ((U9 vu acr W W).same W W) W<|cm W W (λg=>aaF W g) λ_=>?_;refine ck W W (yJ.same W W) W<|rno 7 W U<|oQ (r:=11) (p:=[]) W W U<|Wv iN (B:=[]) aP
def Qg:ab 82 [xQ,xS] (.i 0):=jk iN (B:=[]) aP
def BS:ab 83 [xQ,xS,iw ra] (.b false):=jk iN (B:=[]) aP
def abA:ab 170 [.i<|-4,.i<|-4,.i 4] (.b false):=(zM _ _ _).same W W
def abB:ab 170 [.i<|-2,.i<|-4,.i 4] (.b false):=(zM _ _ _).same W W
def ZL:ab 119 [.box false<|PX ra false,xS] (.i 0):=by
 refine cp func119 W<|cj W W (Qg.same W W) W<|k0 W aP<|bY W (λg=>aaF W g) λ_=>?_;refine r0 W<|iM<|cm W W (λ_=>?_) λg=>aaF fV g;refine r1 W (aZ W)<|bY W (λg=>aaF g fV) λ_=>?_;refine r1 W (aZ W)<|iM<|cm W W (λ_=>?_) λg=>aaF fV g;refine r1 W (aZ W)<|bY W (λg=>aaF g fV) λ_=>?_;refine r1 W (aZ W)<|iM<|cm W W (λg=>aaF g fV) λ_=>?_;refine cj W W (Is.same W W) W<|k0 W aP<|zI [2,8] [2,8] 2 2 (λk=>[xV k]) (λ_=>[.box true<|.box false<|PX ra false,.box true<|.b false]) (λ_=>true) (λ_=>none) (.bU [])
  rfl W W W W func177 W W W W W W (λ_ _=>rfl) (λ_=>rfl) ?_ W W (λk _ h=>rfl) (λC J d=>C0 C J λv e k a=>d v e k a λ_ _=>rfl) ?_ ?_ ?_
 intro k a z b;simp only[abm,ae8,or_false]at b;rcases b with rfl|rfl<;>rfl;intro k a _
 match k,a with
 |0,_=>refine r0 W<|rN<|k1 W aP (aZ W)<|bY W (λg=>aaF g fV) λ_=>?_;refine r1 W (aZ W)<|bX W abA W<|k1 W aP (aZ W)<|yb [(1000000,.box true<|.box false<|PX ra false),(1000001,.box true<|.b false)] W W ⟨ak,ak,U⟩ ⟨G,G,U⟩
 |1,_=>refine r0 W<|rN<|k1 W aP (aZ W)<|bY W (λg=>aaF g fV) λ_=>?_;refine r1 W (aZ W)<|bX W abB W<|k1 W aP (aZ W)<|yb [(1000000,.box true<|.box false<|PX ra false),(1000001,.box true<|.b false)] W W ⟨ak,ak,U⟩ ⟨G,G,U⟩
 ·intro _;refine cj W W (BS.same W W) W<|Wv iN (B:=[]) aP
 intro c f;simp at f
def Jh:FE xN (bI gB):=
 .agg (.cons (.refl _)<|.cons (.row (d:=default) (e:=dZ) (ys:=[iI])<|.cons (.agg<|.cons (.refl _)<|.cons (.row (d:=default) (e:=pJ) (ys:=iI.ai)<|.cons (.refl _)<|.cons (.refl _) .nil)<|.cons (.refl _)<|.cons (.refl _)<|.cons (.le W) .nil) .nil)<|.cons (.refl _) .nil)
def cq1:SV:=.row false 3 (acg.map Co)
def JW:ab 115 [.box false<|PX ra false] (.bU [cq1,.i 2]):=by have h:=yK ra ZV W W;rw[Rh]at h;exact h.shr.same W W
def U7:ab 80 [xN] (.i 0):=by have h:=qb gB o5;rw[Bq]at h;exact h.xd<|.cons Jh .nil
def Va(b:kp)(c:TO b)(a:b.d=5)(hs:b.s=10):ab 114 [xN,xR,iw b] (.bU [.box true<|PX b true,.i 0]):=(U9 b c a hs).xd<|.cons Jh<|.cons (.refl _)<|.cons (.refl _) .nil
def LN:ab 44 [xN,xR,iw ra] (.bU [fO [9,7],.row false 1 [fO [2,9]],.i 0]):=(VC.xd<|.cons Jh<|.cons (.refl _)<|.cons (.refl _) .nil).same W W
def Rf:ab 39 [xN,xR,iw ra] (.bU [cq1,.i 0]):=((ZF.xd<|.cons Jh<|.cons (.refl _)<|.cons (.refl _) .nil).shr).same W W
def Zi:ab 92 [xN,xS] (.row false 1 [.row false 4 [BF 1 16,BF 1 4]]):=(Zh.same (bs:=[bI gB,xS]) W W).xd<|.cons Jh<|.cons (.refl _) .nil
def R8:ab 40 [xN,xR,iw vu,fO [7,6]] (.i 0):=(R7.same (bs:=[bI gB,xR,iw vu,fO [7,6]]) W W).xd<|.cons Jh<|.cons (.refl _)<|.cons (.refl _)<|.cons (.refl _) .nil
def td(f:FuncId)(xs:L SV)(r:SV):AR:=(f,xs,r)
def L1:L AR:=[td 84 [] zn,td 80 [xN]<|.i 0,td 114 [xN,xR,iw ra]<|.bU [.box true<|PX ra true,.i 0],td 114 [xN,xR,iw vu]<|.bU [.box true<|PX vu true,.i 0],td 115 [.box false<|PX ra false]<|.bU [cq1,.i 2],td 115 [.box false<|PX vu false]<|.bU [cq2,.i 2],
 td 119 [.box false<|PX ra false,xS] (.i 0),td 92 [xN,xS]<|.row false 1 [.row false 4 [BF 1 16,BF 1 4]]]
def T1:rF:=orK (DT L1) T0
def aep:Z8 prog L1:=⟨Iy,U7,Va ra ZV W W,Va vu acr W W,JW,yJ,ZL,Zi,U⟩
def Ip:∀g xs r,T1 g xs=some r->ab g xs r:=Sm (λ_ _ _ h=>pW aep h) iN
def kno{R:Q Nat->Prop}{N:Nat}{F:St->Prop}{k:L It}{l:a7}{b:L It}{a:a7}(m:Nat){ob:L Pd}{qs:L Bool}(h:run tt [] N m k l [] []=(ob,qs,b,a))(c:Go.Ai.nG qs=true)(d:aj ob)(e:AK R prog N F b a):AK R prog N F k l:=(ow hA hm h d c).2.2 e
def fdR(o:Bool):SV:=.row o 2 [.agg [.i 1,.s [49]],.agg [.i 0,.s [49]]]
def ZJ:ab 112 [fO [1]] (fR [1]):=jk iN (B:=[]) aP
def ZK:ab 175 [fdR false] (fdR true):=jk iN (B:=[]) aP
def ZI:ab 176 [.nil] .nil:=jk iN (B:=[]) aP
def rmV(a b c:cq):SV:=.agg [.i 2,.row true 5 [.agg [.s bF,.row true 2 [.agg [.i 1,.s a],.agg [.i 0,.s b]],.i 1,.s c,.nil]],fR [1],.i 0]
def xU1:SV:=.agg [.s bF,.row true 2 [.agg [.i 1,.s [49]],.agg [.i 0,.s [49]]],.i 1,.s [49],.nil]
def tiU:zj:=match Iw tt 69 with|some t=>t|none=>⟨false,0,0,.dead⟩
def WJ:ab 85 [xN] (.box true<|rmV [49] [49] [49]):=by refine cp func85 W<|cj W W ZJ W<|k0 W aP<|iM<|cm W W (λ_=>?_) λg=>aaF fV g;refine r1 W (aZ W)<|bX W ZK W<|cj W W ZI W<|kno 12 W aP U<|FL W W W (ji.same (adH (P:=prog) (y:=xU1) (ti:=tiU) W W W W) W W W W) W<|Wv iN (B:=[]) aP
def ZX:ab 81 [iw ra] (.i 0):=jk iN (B:=[]) aP
def Yc:ab 82 [xN,xS] (.i 0):=(Qg.same (bs:=[bI gB,xS]) W W).xd<|.cons Jh<|.cons (.refl _) .nil
def Zq:ab 52 [fO [0,0]] (.i 0):=jk iN (B:=[]) aP
def Ng:ab 83 [xN,xS,iw ra] (.b false):=(BS.same (bs:=[bI gB,xS,iw ra]) W W).xd<|.cons Jh<|.cons (.refl _)<|.cons (.refl _) .nil
def XL:ab 86 [xN,xS] (.fn (.func 177) [] [.box false xQ,.box false xS]):=(Is.same (bs:=[bI gB,xS]) W W).xd<|.cons Jh<|.cons (.refl _) .nil
def adu:ab 87 [zn,.i<|-3] (BF 1 8):=jk iN (B:=[]) aP
def YS:ab 88 [BF 1 16,BF 1 8] (BF 1 128):=jk iN (B:=[]) aP
def zC:cq:=[49,47,49,50,56]
def UD:cq:=[49,47,52]
def rmY:Nat->SV
 |0=>rmV [49] [49] [49]
 |1=>rmV zC [49] [49]
 |_=>rmV zC UD [49]
def UM{T:rF}(a:∀g xs r,T g xs=some r->ab g xs r){B:L Nat}{g:FuncId}{xs H out:L SV}{r:SV}(h:US (exec prog tt T B 100000) prog tt g xs H=some (out,r)):iQ prog g H xs out r:=Dh hA hW (sK (B:=B) hA hm hW a 100000) h
def pR(k:Nat):Path:=[.deref,.deref,.at 0 (some 3),.at 1 none,.idx 0 5,.at 1 none,.idx k 2,.at 1 none]
def XY:iQ prog 89 [.box true<|.box true<|rmY 0] [.bw 1000000 0 0 [.deref],.ptr 1000000 0 0 (pR 0),BF 1 128] [.box true<|.box true<|rmY 1] (.bU []):=UM iN (B:=[]) aP
def XX:iQ prog 89 [.box true<|.box true<|rmY 1] [.bw 1000000 0 0 [.deref],.ptr 1000000 0 0 (pR 1),BF 1 4] [.box true<|.box true<|rmY 2] (.bU []):=UM iN (B:=[]) aP
def unV(a:cq):SV:=.row true 5 [.agg [.s bF,.row true 2 [.agg [.i 1,.s zC],.agg [.i 0,.s UD]],.i 1,.s a,.nil]]
def rmC(C:Value->Prop):SV:=.box true<|.box true<|.agg [.i 2,.pv C,fR [1],.i 0]
def aeX:ab 87 [zn,.i 6] (BF 64 1):=jk iN (B:=[]) aP
def XW(C:Value->Prop):iQ prog 89 [rmC C,unV [49]] [.bw 1000000 0 0 [.deref],.ptr 1000001 0 0 [.idx 0 5,.at 3 none],BF 64 1] [rmC C,unV [54,52]] (.bU []):=UM iN (B:=[]) aP
def pU:Path:=[.deref,.deref,.at 0 (some 3),.at 1 none]
def kU:L (Nat×SV):=[(6,.box true<|.agg [.i 0,.nil,.nil]),(10,.box true zn),(16,.i 6),(96,.i 1),(97,.i 0)]
theorem Ms:ab 21 [xN,iw ra,xS] (.bU [.agg [.i 2,.row false 5 [.agg [.s bF,.row false 2 [.agg [.i 1,.s zC],.agg [.i 0,.s UD]],.i 1,.s [54,52],.nil]],fO [1]],.i 0]):=by
 refine enter (fn:=Tryz.f21) func21 W W W W ?_;refine r0 W ?_;refine cl W W U7 W ?_;refine r0 W ?_;refine br W W W (fun g=>aaF W g) (fun _=>?_);refine r0 W ?_;refine cd W W ZX W ?_;refine r0 W ?_;refine cd W W Yc W ?_;refine r0 W ?_;refine cd W W Zq W ?_;refine k0 W aP ?_;refine br W W W (fun g=>aaF W g) (fun _=>?_);refine r0 W ?_;refine cl W W Ng W ?_;refine r0 W ?_;refine cl W W Iy W ?_;refine r0 W ?_;refine cl W W WJ W ?_;refine r0 W ?_;refine cl W W XL W ?_;refine r0 W ?_;refine zI [3,4,10,11] [3,4,10,11] 2 2 (fun k=>[xV k]) (fun k=>[.box true xN,.box true (iw ra),.box true zn,.box true (.box true (rmY k))]) (fun _=>true) (fun _=>none) (.bU [])
  rfl W W W W func177 W W W W W W (fun _ _=>rfl) (fun _=>rfl) ?_ W W (fun k _ h=>rfl) (fun C J d=>C0 C J fun v e k a=>d v e k a fun _ _=>rfl) ?_ ?_ ?_
 intro k a z b;simp only[abm,ae8,or_false]at b;rcases b with rfl|rfl|rfl|rfl<;>rfl;intro k a _
 match k,a with
 |0,_=>refine r0 W ?_;refine rN ?_;refine r1 W (aZ W) ?_;refine cl W W aam W ?_;refine r0 W ?_;refine aF 57 W (fun _=>?_) (fun g=>aaF W g);refine r1 W (aZ W) ?_;refine br W W W (fun _=>?_) (fun g=>aaF W g);refine r1 W (aZ W) ?_;refine cd W W adu W ?_;refine r0 W ?_;refine cd W W YS W ?_;refine k1 W aP (aZ W) ?_;refine crd W W (XY.same W W W W) W ?_;refine k0 W aP ?_;exact yb [(1000000,.box true xN),(1000001,.box true (iw ra)),(1000002,.box true zn),(1000003,.box true (.box true (rmY 1)))] W W ⟨ak,ak,ak,ak,trivial⟩ ⟨⟨W,W⟩,⟨W,W⟩,⟨W,W⟩,⟨W,W⟩,trivial⟩
 |1,_=>refine r0 W ?_;refine rN ?_;refine r1 W (aZ W) ?_;refine cl W W aan W ?_;refine r0 W ?_;refine aF 57 W (fun g=>aaF g fV) (fun _=>?_);refine r1 W (aZ W) ?_;refine crd W W (XX.same W W W W) W ?_;refine k0 W aP ?_;exact yb [(1000000,.box true xN),(1000001,.box true (iw ra)),(1000002,.box true zn),(1000003,.box true (.box true (rmY 2)))] W W ⟨ak,ak,ak,ak,trivial⟩ ⟨⟨W,W⟩,⟨W,W⟩,⟨W,W⟩,⟨W,W⟩,trivial⟩
 ·intro _;refine r0 W ?_;refine iM ?_;refine r0 W ?_;refine br W W W (fun _=>?_) (fun g=>aaF fV g);refine kno 32 W aP (aZ W) ?_;refine sY (V3 11 15 (.box true (.box true (rmY 2))) (pU++.idx 0 5::[]) kU) ⟨⟨W,W,W⟩,ak,ak,ak,ak,ak,ak,trivial⟩ ?_;refine Ys (Z:=1000000) (h:=1000001) (y:=unV [49]) (y2:=unV [54,52]) (v1:=rmC) (v2:=rmC) (v3:=.box true (.box true (rmV zC UD [54,52]))) (K2:=kU)
   ⟨fV,fV,fV,fV,fV,fV,fV,fV,fV⟩ W W W (fun _=>rfl) W W (fun _=>rfl) W trivial (fun _=>rfl) W (fun _=>rfl) W (fun C=>?_) ?_
  refine r0 W ?_;refine cd W W aeX W ?_;refine r0 W ?_;refine crd W W ((XW C).same W W W W) W ?_;refine k0 W aP ?_;exact⟨_,W,⟨⟨W,W,W⟩,ak,⟨W,W,W⟩,ak,ak,ak,ak,ak,ak,trivial⟩⟩;exact Wv iN (B:=[]) aP
 intro c f;simp at f
def Lb:ab 22 [xN,xS] (.bU [.row true 1 [.strs true [[49,47,49,54],[49,47,52]]],.i 0]):=jk Ip (B:=[]) aP
def Qd:ab 45 [xN,xR,iw ra,xS] (.bU [.strs true [[49],[50]],.i 0]):=jk Ip (B:=[]) aP
def Yg:ab 49 [xN,xR,iw ra,xS] (.i 0):=jk Ip (B:=[]) aP
def W5:ab 38 [xN,xR,iw ra] (.bU [xS,.i 0]):=jk Ip (B:=[]) aP
def acv:ab 38 [xN,xR,iw vu] (.bU [.agg [.nil,.nil],.i 24]):=jk Ip (B:=[]) aP
def Wm:ab 46 [.s [57,47,49,48]] (.bU [.i<|-1,.i 0]):=jk Ip (B:=[]) aP
def Zj:SV:=.bU [.agg [.i 2,.row false 5 [.agg [.s bF,.row false 2 [.agg [.i 1,.s zC],.agg [.i 0,.s UD]],.i 1,.s [54,52],.nil]],fO [1]],.i 0]
def L2:L AR:=[td 44 [xN,xR,iw ra]<|.bU [fO [9,7],.row false 1 [fO [2,9]],.i 0],td 39 [xN,xR,iw ra]<|.bU [cq1,.i 0],td 38 [xN,xR,iw ra]<|.bU [xS,.i 0],td 38 [xN,xR,iw vu]<|.bU [.agg [.nil,.nil],.i 24],
 td 22 [xN,xS] (.bU [.row true 1 [.strs true [[49,47,49,54],[49,47,52]]],.i 0]),td 45 [xN,xR,iw ra,xS]<|.bU [.strs true [[49],[50]],.i 0],td 21 [xN,iw ra,xS] Zj,td 46 [.s [57,47,49,48]]<|.bU [.i<|-1,.i 0],
 td 49 [xN,xR,iw ra,xS] (.i 0),td 40 [xN,xR,iw vu,fO [7,6]]<|.i 0]
def T2:rF:=DT L2
def aeo:Z8 prog L2:=⟨LN,Rf,W5,acv,Lb,Qd,Ms,Wm,Yg,R8,U⟩
def aej:∀g xs r,T2 g xs=some r->ab g xs r:=λ_ _ _ h=>pW aeo h
def V8:ab 43 [] (.agg [.i 2,.row true 5 [.agg [.s [105,110,116,101,103,114,97,116,111,114],.row true 2 [.agg [.i 1,.s [49]],.agg [.i 0,.s [49]]],.i 1,.s [49],.nil]],fR [1]]):=jk iN (B:=[]) aP
def Yk:ab 47 [fO [9,7],fO [9,7]] (.b true):=jk iN (B:=[]) aP
def Yl:ab 47 [fO [2,9],fO [2,9]] (.b true):=jk iN (B:=[]) aP
def YQ{o:Oper}{x y:Operand}{a b c:Int}{u:TypeId}(m:o.op=.binOp .neq 97 x y u):ji prog o [] [.agg [.i a,.i b,.i c],.agg [.i a,.i b,.i c]] [] (.b false):=by
 refine mN W W I ?_;intro w S p C hc l d;have j:prog.underlying 97=some (.struct<|prog.fieldsOf 97):=aP;have B:prog.stoodInHeld 97=false:=aP;have A:p=[.agg #[.int .i64 a,.int .i64 b,.int .i64 c],.agg #[.int .i64 a,.int .i64 b,.int .i64 c]]:=by
  simp only[aB,SV.den,Cells,Rel]at hc;obtain⟨r,T,F1,F2,rfl,-,-,g,q,R,F3,F4,rfl,-,-,f,rfl,-⟩:=hc;have key:∀(v:Value)(F:L Nat),(∃k:Array Value,v=.agg k/\Cells w S true [.v<|.int .i64 a,.v<|.int .i64 b,.v<|.int .i64 c] k.toList F)->v=.agg #[.int .i64 a,.int .i64 b,.int .i64 c]:=by rintro v F⟨⟨k⟩,rfl,h⟩;simp only[Cells,Rel]at h;obtain⟨N,m1,G1,G2,n,-,-,r1,M,P,Z,Y,J,-,-,t,K,O,X,V,H,-,-,s,D,-⟩:=h;rw[r1.2.1,J,t.2.1,H,s.2.1,D]at n;rw[n]
  rw[key r _<|by simp only[Cells,Rel];exact g,key q _<|by simp only[Cells,Rel];exact f]
 have z:l x=.agg #[.int .i64 a,.int .i64 b,.int .i64 c]/\l y=.agg #[.int .i64 a,.int .i64 b,.int .i64 c]:=by
  have:o.op.operands.toList=[x,y]:=by rw[m];rfl
  rw[this,A]at d;simp[acK,afu,List.cons.injEq,aag]at d;exact d
 have e:(binOp .neq 97 (.agg #[.int .i64 a,.int .i64 b,.int .i64 c])<|.agg #[.int .i64 a,.int .i64 b,.int .i64 c]).run prog w=.ok (.bool false) w:=by
  rw[run_neq_struct,show(10000:Nat)=9999+1 from W,run_equalIn_agg w 9999 97 _ _ j B];simp[Program.fieldsOf,underlying97]
  go_simp
 refine⟨.value<|.bool false,.bool false,w,?_,.inl W,S,[],⟨W,W,W,aaU _,λ_ _=>rfl⟩,λ_ h=>h,λ_ h=>.inl h,λb h=>C b h,by simp[SV.den,Rel,scalar],acP,I⟩;simp[execOp,m,z,run_eqGuard_agg,hm,e]
def CS(l:L Int)(a:l≠[])(hl:l.length<2^40):ab 112 [fO l] (fR l):=by
 cases l with
 |nil=>exact aaF W a
 |cons x l=>refine cp func112 W<|r1 W (by simp only[abo]at hl;simp[aj,len];omega) ?_;exact bV W
def ae4(p:jZ)(sh:L Int)(is:L (L Int)):Prop:=(sh.length:Int)=p.n/\is.length=p.aa.length/\∀i<p.aa.length,(is.getD i []).length=(p.aa.getD i default).ai.length
instance(p:jZ)(sh:List Int)(is:List (List Int)):Decidable (ae4 p sh is):=inferInstanceAs<|Decidable<|_/\_
def cfU(b:kp)(sh:L Int)(u:bN)(l:L Int):Bool:=if u.kind=kg then l.any λk=>decide (k≠sh.getD u.out.toNat 0)else if u.kind=bF then decide (l.getD 0 0+l.getD 1 0-b.c≠sh.getD u.out.toNat 0)else false
def ad8(p:jZ)(sh:L Int)(is:L (L Int))(b:kp):Prop:=∃j<p.aa.length,cfU b sh (p.aa.getD j default) (is.getD j [])=true
instance(p:jZ)(sh:List Int)(is:List (List Int))(b:kp):Decidable (ad8 p sh is b):=inferInstanceAs<|Decidable<|∃j,j<p.aa.length/\_
def ZZ:ab 9 [] (.b true):=by
 refine cp func9 W<|ck W W V8 W<|ck W W (LN.same W W) W<|ck W W (Rf.same W W) W<|ck W W (W5.same W W) W<|ck W W (Lb.same W W) W<|ck W W (Qd.same W W) W<|ck W W (Ms.same W W) W<|ck W W (Wm.same W W) W<|r1 W (aZ W)<|aF 87 W (λg=>aaF g fV) λ_=>?_;refine r1 W (aZ W)<|aF 91 W (λg=>aaF g fV) λ_=>?_;refine r1 W (aZ W)<|bW W (Yk.same W W) W<|r1 W (aZ W) ?_
 first
  |refine aF 102 rfl (λg=>aaF g fV) (λ_=>?_)
  |refine aF 97 rfl (λg=>aaF g fV) (λ_=>?_)
  |refine aF 110 rfl (λg=>aaF g fV) (λ_=>?_)
  |refine aF 115 rfl (λg=>aaF g fV) λ_=>?_
 refine r1 W (aZ W)<|bW W (Yl.same W W) W<|r1 W (aZ W) ?_
 first
  |refine aF 115 rfl (λg=>aaF g fV) (λ_=>?_)
  |refine aF 110 rfl (λg=>aaF g fV) λ_=>?_
 refine r1 W (aZ W)<|ex W W W (ji.same (YQ (a:=1) (b:=0) (c:=3) W) W W W W) W<|Wv aej (B:=[]) aP
end Go.Ai.Pg
section
namespace Go.Lib
open Go.Proofs Go.Proofs.Tryz
variable{P:Program}{w:World}
def IQ(t u ty e:TypeId)(i:TypeInfo)(r:P.underlying t=some (.slice e))(hu:P.underlying u=some .string)(hi:P.info? e=some i)(y:i.zero=some (.int .u8 0))
 (a:i.size=1)(m:i.bytes=1)
 (v:Value)(n:Nat)(xs:L Value)(b:w.ownsRow 0 e 1 v n xs)(s:ByteArray)
 (o:n+s.size<=maxLen)(c:n+s.size<=140737488355328):
 ∃p w',(Builtin.append_ #[t,u] ty #[v,.string s]).run P w=.ok p w'/\w'.ownsRow 0 e 1 p (n+s.size) (xs++strCells s)/\w.grownBy w' v.ownBlock/\(∀g,p.ownBlock=some g->v.ownBlock=some g\/w.heap.size<=g):=by
 obtain⟨p,w',x,R,O,V⟩:=run_append_own_string (P:=P) w 0 t u ty e i r hu hi y a m v n xs b s o c<|aaQ _;refine⟨p,w',x,R,O,λX d=>?_⟩;have z:xs.length=n:=by simpa using b.1
 rcases b.2 with⟨rfl,rfl⟩|⟨g,f,q,rfl,M,J,H,K,B,A⟩;have l:w.ownsRow w.heap.size e 1 (.slice none 0 0) 0 xs:=⟨b.1,.inl G⟩;obtain⟨T,S,k1,k2,-,-⟩:=run_append_own_string (P:=P) w w.heap.size t u ty e i r hu hi y a m _ 0 xs l s o c<|aaU _;rw[x]at k1;simp only[Result.ok.injEq]at k1;obtain⟨rfl,rfl⟩:=k1;right;rcases k2.2 with⟨rfl,-⟩|⟨g2,F,D,rfl,N,-⟩;simp[Value.ownBlock]at d;simp only[Value.ownBlock,aaP]at d;omega;by_cases h:n+s.size<=f;have C:q.size=f:=by simpa using B
 have k:=run_append_room_string (P:=P) (w:=w) t u ty e i r hu hi a g n f q J s h E;rw[x]at k;simp only[Result.ok.injEq]at k;obtain⟨rfl,-⟩:=k;left;simpa[Value.ownBlock]using d;have holds:∀j u,xs[j]?=some u->w.cell? ((⟨g,0,none⟩:Addr).add j)=some u:=b.cells (g:=g) W;have k:=run_append_grow_string (P:=P) (w:=w) t u ty e i (.int .u8 0) r hu hi y ⟨g,0,none⟩ n f xs (by rw[a];simpa using z) holds s E (by simp only[maxLen]at o;omega) (by rw[m];exact growslice_fits E E);rw[x]at k;simp only[Result.ok.injEq]at k;obtain⟨rfl,-⟩:=k;right;simp only[Value.ownBlock,aaP]at d;omega
def B4{ops:Array Oper}{rest:L Oper}{o:Oper}{a:Act}{Q:Exit->Act->World->Prop}(l:o.guard=none)(sl x:Operand)(t u:TypeId)
 (A:o.op=.call {callee:=.builtin .append,args:=#[sl,x],argTypes:=#[t,u]})
 (e:TypeId)(i:TypeInfo)(y:P.underlying t=some (.slice e))(hu:P.underlying u=some .string)(hi:P.info? e=some i)(q:i.zero=some (.int .u8 0))
 (c:i.size=1)(m:i.bytes=1)
 (v:Value)(n:Nat)(k:L Value)(hs:a.eval sl=v)(j:w.ownsRow 0 e 1 v n k)(s:ByteArray)(r:a.eval x=.string s)
 (p:n+s.size<=maxLen)(b:n+s.size<=140737488355328)
 (h:∀f d,d.ownsRow 0 e 1 f (n+s.size) (k++strCells s)->w.grownBy d v.ownBlock->(∀g,f.ownBlock=some g->v.ownBlock=some g\/w.heap.size<=g)->wpList P ops Q rest (a.put o.dst f) d):wpList P ops Q (o::rest) a w:=by
 refine wpList_plain l λK B=>?_;obtain⟨f,d,z,F,D,C⟩:=IQ (P:=P) (w:=w) t u o.type e i y hu hi q c m v n k j s p b;unfold Oper.wp execOp;simp only[A,resolve,invoke,builtin,Sem.run_bind,Sem.run_pure,Result.andThen_ok,List.map_toArray,acK,afu,hs,r,z];exact B _ _<|h f d F D C
end Go.Lib
end
namespace Go.Proofs
open Go.Shelf Go.RowKit Go.Sort Go.Lib Go.Proofs.Tryz
def Tryz.aac:(prog.info? 375).map (·.size)=some 2:=by kernel_rfl
def Tryz.adM:liesAt prog prog.depth 375 (2/prog.cellsOf 375) 0 375 1=true:=by kernel_rfl
theorem Tryz.ZQ(b:Nat)(w:World)(h0:w.cell? ⟨b,0,none⟩=some (.pointer<|some ⟨b,0,none⟩)):
 Calls prog 338 #[.pointer (some ⟨b,0,none⟩)] w λe w'=>e=.returned (.tuple #[])/\w'=w:=by
 obtain⟨j,hj,_⟩:=aeT.1 Tryz.aac
 go_enter func338,Tryz.ntmps338
 go_wp2
 rw[Lib.run_neq_ptr_same w _ underlying372 hj]
 go_wp2
 go_end0
 exact G
theorem Tryz.WZ(b:Nat)(w:World)(h0:w.cell? ⟨b,0,none⟩=some (.pointer none))(hsh:w.shape? b=some (375,2))(hfz:w.frozen? ⟨b,0,none⟩=false):
 Calls prog 338 #[.pointer (some ⟨b,0,none⟩)] w λe w'=>e=.returned (.tuple #[])/\w'=w.setCell ⟨b,0,none⟩ (.pointer<|some ⟨b,0,none⟩):=by
 obtain⟨j,hj,hjs⟩:=aeT.1 Tryz.aac
 go_enter func338,Tryz.ntmps338
 go_wp2
 rw[Lib.run_to_unsafe w ⟨b,0,none⟩ underlying372 underlying417 hj (by rw[hjs];decide) hsh<|Nat.zero_lt_succ 1];simp only[Result.andThen];rw[Oper.upon_value]
 go_wp2
 rw[run_callFunc_extern func367 (by kernel_rfl) (by kernel_rfl) (by kernel_rfl) (e:=Extern.AbiNoEscape.same)<|by kernel_rfl];rw[Lib.run_noEscape];simp only[Result.andThen];rw[Oper.upon_value]
 go_wp2
 rw[Lib.run_from_unsafe w ⟨b,0,none⟩ underlying417 underlying372 hj hsh Tryz.adM];simp only[Result.andThen];rw[Oper.upon_value]
 go_wp2
 go_end0
 exact G
def Tryz.cc(b:Nat)(p v:Value)(bs:L Value)(w:World)(h:p=.pointer none\/p=.pointer (some ⟨b,0,none⟩))(c:w.heap[b]?=some (.cells #[p,v] 375 (0,0)))(a:w.ownsRow 0 5 1 v bs.length bs)(d:v.ownBlock≠some b):
 Calls prog 338 #[.pointer (some ⟨b,0,none⟩)] w λe w'=>e=.returned (.tuple #[])/\w'.heap[b]?=some (.cells #[.pointer (some ⟨b,0,none⟩),v] 375 (0,0))/\w'.ownsRow 0 5 1 v bs.length bs/\w.grownBy w' (some b):=by
 rcases h with rfl|rfl;have f:Lib.BuilderAt 375 5 0 b (.pointer none) bs w:=⟨aaQ _,v,c,a,d⟩;refine(Tryz.WZ b w f.cell0 f.shape f.frozen0).mono ?_;rintro e w'⟨rfl,rfl⟩;have g:w.grownBy (w.setCell ⟨b,0,none⟩<|.pointer<|some ⟨b,0,none⟩) (some b):=⟨W,W,W,by simp[World.setCell],λk _ i=>Below.heap_setCell _ _ _ _ λe=>i<|by simp[e]⟩;refine⟨W,by simp[World.setCell,ag4,c],a.kept (row:=some b) g<|Or.inr d,g⟩;have f:Lib.BuilderAt 375 5 0 b (.pointer<|some ⟨b,0,none⟩) bs w:=⟨aaQ _,v,c,a,d⟩;refine(Tryz.ZQ b w f.cell0).mono ?_;rintro e w'⟨rfl,rfl⟩;exact⟨W,c,a,W,W,W,aaU _,λ_ _ _=>rfl⟩
theorem Tryz.wrS(b:Nat)(p v:Value)(bs:List Value)(s:ByteArray)(w:World)(hp:p=.pointer none\/p=.pointer (some ⟨b,0,none⟩))(hbk:w.heap[b]?=some (.cells #[p,v] 375 (0,0)))(hown:w.ownsRow 0 5 1 v bs.length bs)(hne:v.ownBlock≠some b)(hlen:bs.length+s.size<=140737488355328):
 Calls prog 302 #[.pointer (some ⟨b,0,none⟩),.string s] w λe w'=>e=.returned (.tuple #[.int .i64 s.size,.nilIface])/\∃v',w'.heap[b]?=some (.cells #[.pointer (some ⟨b,0,none⟩),v'] 375 (0,0))/\
  w'.ownsRow 0 5 1 v' (bs++Lib.strCells s).length (bs++Lib.strCells s)/\v'.ownBlock≠some b/\(∀g,v'.ownBlock=some g->v.ownBlock=some g\/w.heap.size<=g)/\
  w'.os=w.os/\w'.tape=w.tape/\w'.output=w.output/\w.heap.size<=w'.heap.size/\∀k,k<w.heap.size->k≠b->v.ownBlock≠some k->w'.heap[k]?=w.heap[k]?:=by
 have hib:(prog.info? 5).map (λi=>(i.zero,i.size,i.bytes))=some (some<|.int .u8 0,1,1):=by kernel_rfl
 obtain⟨i0,hi,hz0,hz1,hz2⟩:=info_parts hib
 go_enter func302,Tryz.ntmps302
 go_wp2_with (go_at_call 338;refine(Tryz.cc b p v bs _ hp hbk hown hne).mono ?_)
 rintro e w1⟨rfl,hbk,hown,hg1⟩;have c0:w1.cell? ⟨b,0,none⟩=some (.pointer<|some ⟨b,0,none⟩):=by rw[Lib.cell_of_heap hbk];rfl
 have c1:w1.cell? ⟨b,1,none⟩=some v:=by rw[Lib.cell_of_heap hbk];rfl
 go_wp2_with (at_builtin;refine Lib.B4 W _ _ 373 9 W 5 i0 underlying373 underlying9 hi hz0 hz1 hz2 _ _ _ W hown s W ?c3 ?c4 ?_)
 case c3=>unfold maxLen;omega
 case c4=>omega
 intro v' w2 hown' hgrow hnew;have hlt:b<w1.heap.size:=by grind
 have hb2:w2.heap[b]?=some (.cells #[.pointer (some ⟨b,0,none⟩),v] 375 (0,0)):=by rw[hgrow.block b hlt λe=>hne e.symm];exact hbk
 have d0:w2.cell? ⟨b,0,none⟩=some (.pointer<|some ⟨b,0,none⟩):=by rw[Lib.cell_of_heap hb2];rfl
 have d1:w2.cell? ⟨b,1,none⟩=some v:=by rw[Lib.cell_of_heap hb2];rfl
 have f1:w2.frozen? ⟨b,1,none⟩=false:=Lib.frozen_of_heap hb2 1;obtain⟨ao,n',cap,rfl⟩:∃ao n' cap,v'=.slice ao n' cap:=by rcases hown'.2 with⟨hv,_⟩|⟨g,cap,cur,hv,_⟩;exact⟨_,_,_,hv⟩;simp_all
 go_wp2
 go_ret2
 have hne':=Lib.ownBlock_ne hown' hb2 (fV:(375:TypeId)≠5);have hg3:w2.grownBy (w2.setCell ⟨b,1,none⟩<|.slice ao n' cap) (some b):=⟨W,W,W,by simp[World.setCell],λk _ hk=>Below.heap_setCell _ _ _ _ λe=>hk<|by simp[e]⟩;have hs1:=hg1.size;have hs2:=hgrow.size;have hs3:=hg3.size;refine⟨W,.slice ao n' cap,by simp[World.setCell,ag4,hb2],?_,hne',λg hg=>(hnew g hg).imp id λh=>E,?_,?_,?_,E,λk hk hkb hkv=>?_⟩;have:=hown'.kept (row:=some b) hg3<|Or.inr hne';simpa[Lib.strCells_length]using this;exact(hg3.os.trans hgrow.os).trans hg1.os;exact(hg3.tape.trans hgrow.tape).trans hg1.tape;exact(hg3.output.trans hgrow.output).trans hg1.output;have e1:some k≠some b:=λe=>hkb (by simpa using e);rw[hg3.block k E e1,hgrow.block k E λe=>hkv e.symm,hg1.block k hk e1]
def JC(w:World)(g n:Nat):(w.drew.freeze ⟨g,0,none⟩ n).os=w.os/\(w.drew.freeze ⟨g,0,none⟩ n).tape=w.tape/\(w.drew.freeze ⟨g,0,none⟩ n).output=w.output/\w.heap.size<=(w.drew.freeze ⟨g,0,none⟩ n).heap.size/\
 ∀k,k≠g->(w.drew.freeze ⟨g,0,none⟩ n).heap[k]?=w.heap[k]?:=by
 unfold World.freeze;split;exact⟨W,W,W,aaU _,λ_ _=>rfl⟩;refine⟨W,W,W,?_,λk h=>?_⟩;simp only[Array.size_modify];exact aaU _;show(w.heap.modify g _)[k]?=_;rw[ag4,aaq λe=>h e.symm]
theorem Tryz.afn(b:Nat)(p v:Value)(l:List UInt8)(w:World)(hbk:w.heap[b]?=some (.cells #[p,v] 375 (0,0)))(hown:w.ownsRow 0 5 1 v (Lib.byteCells l).length (Lib.byteCells l))(h0:l≠[]):
 Calls prog 303 #[.pointer (some ⟨b,0,none⟩)] w λe w'=>e=.returned (.string ⟨l.toArray⟩)/\
  w'.os=w.os/\w'.tape=w.tape/\w'.output=w.output/\w.heap.size<=w'.heap.size/\∀k,k<w.heap.size->v.ownBlock≠some k->w'.heap[k]?=w.heap[k]?:=by
 have hl0:l.length≠0:=by simpa using h0
 rw[Lib.byteCells_length]at hown;obtain⟨g,cap,cur,rfl,hbg,hg,hnc,hcm,hcs,htake⟩:∃g cap cur,v=.slice (some ⟨g,0,none⟩) l.length cap/\0<=g/\w.heap[g]?=some (.cells cur 5 (0,0))/\l.length<=cap/\cap<=maxLen/\cur.size=cap*1/\cur.toList.take (l.length*1)=Lib.byteCells l:=by rcases hown.2 with⟨_,hz⟩|⟨g,cap,cur,hv,r⟩;exact aaF hz hl0;exact⟨g,cap,cur,hv,r⟩
 have c1:w.drew.cell? ⟨b,1,none⟩=some (.slice (some ⟨g,0,none⟩) l.length cap):=by have:w.drew.heap[b]?=some (.cells #[p,.slice (some ⟨g,0,none⟩) l.length cap] 375 (0,0)):=hbk;rw[Lib.cell_of_heap this];rfl
 have hSD:(Builtin.unsafeSliceData_ #[373] 395 #[.slice (some ⟨g,0,none⟩) l.length cap]).run prog w.drew=.ok (.pointer<|some ⟨g,0,none⟩) w.drew:=Lib.run_unsafeSliceData_row _ _ _ _ _ _ E
 have hUS:(Builtin.unsafeString_ #[395,3] 9 #[.pointer (some ⟨g,0,none⟩),.int .i64 l.length]).run prog w.drew=.ok (.string ⟨l.toArray⟩) (w.drew.freeze ⟨g,0,none⟩ l.length):=by refine Lib.run_unsafeString_row w.drew 395 3 9 5 underlying395 (by kernel_rfl) g cur.size (by have hg':w.drew.heap[g]?=some (.cells cur 5 (0,0)):=hg;simp[World.shape?,hg']) l h0 E (by unfold maxLen at hcm;omega) ?_;intro j x hx;have:=hown.cells (g:=g) W j (.int .u8 x.toNat) (by simp[Lib.byteCells,hx]);exact this
 have hfr:=JC w g l.length;have mixed:prog.follows .mixedOrders=true:=fQ
 go_enter func303,Tryz.ntmps303
 go_wp2
 go_region_o
 all_goals(go_wp2;go_ret;exact⟨W,hfr.1,hfr.2.1,hfr.2.2.1,hfr.2.2.2.1,λk _ hkv=>hfr.2.2.2.2 k λe=>hkv<|by simp[Value.ownBlock,e]⟩)
end Go.Proofs
namespace Go.Ai.Pg
def FI(b:Nat)(l:cq):qg:=λw _ F=>∃p v,(p=.pointer none\/p=.pointer (some ⟨b,0,none⟩))/\w.heap[b]?=some (.cells #[p,v] 375 (0,0))/\w.ownsRow 0 5 1 v (Lib.byteCells l).length (Lib.byteCells l)/\v.ownBlock≠some b/\F=b::v.ownBlock.toList
def FI.closed{b:Nat}{l:cq}{w:World}{S:Nat->Prop}{F:L Nat}(h:FI b l w S F):qg.here (FI b l) w S F:=by intro n o f _;obtain⟨p,v,k,m,e,a,rfl⟩:=h;refine⟨p,v,k,by rw[f b<|.inr I];exact m,?_,a,W⟩;refine⟨e.1,?_⟩;rcases e.2 with h|⟨g,d,c,rfl,r1,j,i⟩;exact .inl h;exact .inr ⟨g,d,c,W,r1,by rw[f g<|.inr<|by simp[Value.ownBlock]];exact j,i⟩
def FI.new(b:Nat)(w:World)(S:Nat->Prop)(h:w.heap[b]?=some (.cells #[.pointer none,.slice none 0 0] 375)):FI b [] w S [b]:=⟨_,_,.inl W,h,⟨W,.inl G⟩,by simp[Value.ownBlock],W⟩
def wE(b:Nat)(l s:cq)(hl:l.length+s.length<2^46):TN prog 302 (·=.pointer (some ⟨b,0,none⟩)) (FI b l) (FI b<|l++s) (aB [.s s]) (SV.bU [.i s.length,.c .nilIface]).den:=by
 rintro v rfl w S F T Y X K D z x hc;obtain⟨p,v,B,J,C,m,rfl⟩:=K w S (λ_ _=>rfl) λ_ h=>h;simp only[aB,Cells]at hc;obtain⟨y,V,F1,F2,rfl,M,_,u,rfl,rfl⟩:=hc;simp only[SV.den,Rel]at u;obtain⟨_,rfl,rfl⟩:=u;have d:(bs s).size=s.length:=by show s.toArray.size=_;simp
 refine qD.lS (fn:=Tryz.f302) func302 W W<|(Tryz.wrS b p v (Lib.byteCells l) (bs s) w B J C m<|by rw[Lib.byteCells_length,d];omega).mono ?_;rintro e j⟨rfl,a,k1,k2,k3,k4,k5,k6,k7,k8,k9⟩;have N:Lib.byteCells l++Lib.strCells (bs s)=Lib.byteCells (l++s):=by rw[Lib.byteCells_append];rfl
 rw[N]at k2;have q:b<j.heap.size:=by apply afw;intro h;rw[ago E]at k1;simp at k1
 have t:FI b (l++s) j S (b::a.ownBlock.toList):=⟨_,a,.inr W,k1,k2,k3,W⟩;have n:∀g,a.ownBlock=some g->g<j.heap.size:=by intro g o;rcases k2.2 with⟨rfl,-⟩|⟨Z,P,O,rfl,-,r,-⟩;simp[Value.ownBlock]at o;simp only[Value.ownBlock,aaP]at o;subst o;apply afw;intro h;rw[ago E]at r;simp at r
 refine⟨_,W,S,b::a.ownBlock.toList,k5,k6,k7,k8,λk H f=>k9 k H (λe=>f<|by simp[e]) λe=>f<|by simp[e],λ_ h=>h,λ_ h=>.inl h,λc hc=>acW (x c hc) k8,t.closed,?_,?_,?_⟩;cases A:a.ownBlock with
 |none=>simp
 |some g=>rw[A]at k3;simp at k3⊢;exactλe=>k3 e.symm
 ·intro c hc;rcases abm.1 hc with rfl|hc;exact⟨.inr I,q,(z _ I).2⟩;have hc:a.ownBlock=some c:=by simpa using hc
  refine⟨(k4 c hc).symm.imp id λh=>by simp[h],n c hc,?_⟩;rcases k4 c hc with h|h;exact(z c<|by simp[h]).2;exactλhs=>by have:=x c hs;omega
 intro R S2;simp only[SV.den,aB,Rel,Cells];refine⟨_,W,_,_,[],[],W,W,I,?_,_,_,[],[],W,W,I,?_,W,W⟩;simp[Rel,scalar,d];simp[Rel,scalar]
def acF:qg:=λ_ _ F=>F=[]
def Bu(b:Nat)(l:cq)(o:l≠[]):TN prog 303 (·=.pointer (some ⟨b,0,none⟩)) (FI b l) acF (aB []) (SV.s l).den:=by rintro v rfl w S F r x u n g y m hc;obtain⟨p,v,t,j,d,f,rfl⟩:=n w S (λ_ _=>rfl) λ_ h=>h;simp only[aB,Cells]at hc;obtain⟨rfl,-⟩:=hc;refine qD.lS (fn:=Tryz.f303) func303 W W<|(Tryz.afn b p v l w j d o).mono ?_;rintro e q⟨rfl,k5,k6,k7,k8,k9⟩;exact⟨_,W,S,[],k5,k6,k7,k8,λk i a=>k9 k i λe=>a<|by simp[e],λ_ h=>h,λ_ h=>.inl h,λc hc=>acW (m c hc) k8,λ_ _ _ _=>rfl,acP,I,λ_ _=>by simp[SV.den,Rel,scalar,bs]⟩
end Go.Ai.Pg
