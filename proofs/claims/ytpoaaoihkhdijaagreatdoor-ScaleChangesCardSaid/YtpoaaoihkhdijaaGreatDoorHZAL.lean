/- Parts of the proof of ScaleChanges (as AIM.md's row tells), at every input, with no further conditions. -/
import Derived.Test.YtpoaaoihkhdijaaGreatDoorHZAK
set_option linter.all false
set_option maxRecDepth 100000
set_option maxHeartbeats 0
namespace Go.Ai.eE
open Go.Proofs Go.Ai
def bl(x:Nat):Nat:=if x=0 then 0 else Nat.log2 x+1
def JU(x:Nat):x<2^bl x:=by
 unfold bl;split
 ·rename_i h;subst h;decide
 rename_i h;exact(Nat.log2_lt h).1<|ahD _
def xe{x:Nat}(h:x≠0):2^(bl x-1)<=x:=by unfold bl;rw[if_neg h];exact(Nat.le_log2 h).1 .refl
def VS{x n:Nat}(e:x<2^(n+1))(d:2^n<=x):bl x=n+1:=by
 have c:x≠0:=by have:0<2^n:=afe fh;omega
 unfold bl;rw[if_neg c];have a:=(Nat.log2_lt c).2 e;have b:=(Nat.le_log2 c).2 d;omega
def yD{x:Nat}(h:x≠0):0<bl x:=by unfold bl;rw[if_neg h];omega
def xd{x k:Nat}(h:2^k<=x):bl x=k+bl (x/2^k):=by
 have b:0<2^k:=afe fh;have d:x/2^k≠0:=by have:=Nat.div_pos h b;omega
 have c:=JU<|x/2^k;have a:=xe d;have e:=yD d;obtain⟨n,hn⟩:∃n,bl (x/2^k)=n+1:=⟨bl (x/2^k)-1,E⟩;rw[hn]at c a⊢;rw[<-agN];refine VS ?_ ?_
 ·rw[agN,afV];rw[afx b]at c;rw[aeO];exact c
 rw[Nat.add_sub_cancel]at a;rw[ail b]at a;rw[afV,aeO];exact a
def Wm{s:Int}{m:Nat}(y:Nat)(hm:0<m)(h:(2:Int)^min s.toNat IntKind.u64.bits=m):(y:Int).fdiv (2^min s.toNat IntKind.u64.bits)=((y/m:Nat):Int):=by rw[h,aik _ E];rfl
def uB:List UInt8:=[0,1,2,2,3,3,3,3,4,4,4,4,4,4,4,4,5,5,5,5,5,5,5,5,5,5,5,5,5,5,5,5,6,6,6,6,6,6,6,6,6,6,6,6,6,6,6,6,6,6,6,6,6,6,6,6,6,6,6,6,6,6,6,6,7,7,7,7,7,7,7,7,7,7,7,7,7,7,7,7,7,7,7,7,7,7,7,7,7,7,7,7,7,7,7,7,7,7,7,7,7,7,7,7,7,7,7,7,7,7,7,7,7,7,7,7,7,7,7,7,7,7,7,7,7,7,7,7,8,8,8,8,8,8,8,8,8,8,8,8,8,8,8,8,8,8,8,8,8,8,8,8,8,8,8,8,8,8,8,8,8,8,8,8,8,8,8,8,8,8,8,8,8,8,8,8,8,8,8,8,8,8,8,8,8,8,8,8,8,8,8,8,8,8,8,8,8,8,8,8,8,8,8,8,8,8,8,8,8,8,8,8,8,8,8,8,8,8,8,8,8,8,8,8,8,8,8,8,8,8,8,8,8,8,8,8,8,8,8,8,8,8,8,8,8,8,8,8,8,8,8,8,8,8,8,8]
def PS:uB.length=256:=fh
def Te:∀u,u<256->u<2^(uB.getD u 0).toNat/\(u=0\/2^((uB.getD u 0).toNat-1)<=u/\0<(uB.getD u 0).toNat)/\(u=0->(uB.getD u 0).toNat=0):=fh
def Tf{u:Nat}(h:u<256):(uB.getD u 0).toNat=bl u:=by
 obtain⟨b,a,d⟩:=Te u h;rcases a with a|⟨a,c⟩
 ·rw[a];rfl
 obtain⟨n,hn⟩:∃n,(uB.getD u 0).toNat=n+1:=⟨(uB.getD u 0).toNat-1,E⟩;rw[hn]at b a⊢;exact(VS b a).symm
def zI(x:Nat)(e:x<18446744073709551616):aM Tryz.prog 285 [.n .u64 x] (.i<|bl x):=by
 refine bS Tryz.func285 W<|wR 2 (λ(y n:Nat)=>[(0,.n .u64 y),(2,.i n)]) (λy n=>y<4294967296/\bl x=n+bl y/\n<=32) ?_ ?_
 ·refine bQ W W ?_ ?_<;>intro h
  ·have h:(4294967296:Int)<=x:=h;have hs:bl x=32+bl (x/4294967296):=xd (x:=x) (k:=32) E;refine r1 W (by simp only[bo];decide) ?_;exact meet (x/4294967296,32) ⟨by dsimp only;omega,hs,by dsimp only;omega⟩ ⟨⟨W,ar.of_eq<|congrArg (SV.n .u64)<|Wm (m:=4294967296) x fh fh⟩,G,U⟩
  have h:¬(4294967296:Int)<=x:=h;refine r0 W<|il (x,0) ⟨by dsimp only;omega,by dsimp only;omega,by dsimp only;omega⟩
 rintro y n⟨g,c,f⟩;refine wR 1 (λ(z k:Nat)=>[(0,.n .u64 z),(2,.i k)]) (λz k=>z<65536/\bl x=k+bl z/\k<=48) ?_ ?_
 ·refine bQ W W ?_ ?_<;>intro h
  ·have h:(65536:Int)<=y:=h;have hs:bl y=16+bl (y/65536):=xd (x:=y) (k:=16) E;refine r1 W (by simp only[bo,and_true,true_and]<;>omega) ?_;exact meet (y/65536,n+16) ⟨by dsimp only;omega,by dsimp only;rw[c,hs];omega,by dsimp only;omega⟩ ⟨⟨W,ar.of_eq<|congrArg (SV.n .u64)<|Wm (m:=65536) y fh fh⟩,G,U⟩
  have h:¬(65536:Int)<=y:=h;refine r0 W<|il (y,n) ⟨by dsimp only;omega,c,by dsimp only;omega⟩
 rintro z k⟨g1,g2,j⟩;refine wR 1 (λ(z k:Nat)=>[(0,.n .u64 z),(2,.i k)]) (λz k=>z<256/\bl x=k+bl z/\k<=56) ?_ ?_
 ·refine bQ W W ?_ ?_<;>intro h
  ·have h:(256:Int)<=z:=h;have hs:bl z=8+bl (z/256):=xd (x:=z) (k:=8) E;refine r1 W (by simp only[bo,and_true,true_and]<;>omega) ?_;exact meet (z/256,k+8) ⟨by dsimp only;omega,by dsimp only;rw[g2,hs];omega,by dsimp only;omega⟩ ⟨⟨W,ar.of_eq<|congrArg (SV.n .u64)<|Wm (m:=256) z fh fh⟩,G,U⟩
  have h:¬(256:Int)<=z:=h;refine r0 W<|il (z,k) ⟨by dsimp only;omega,g2,by dsimp only;omega⟩
 rintro u m⟨k1,k2,k3⟩;have b:IntKind.u8.wrap (u:Int)=(u:Int):=by show(u:Int)%256=u;omega
 have hu:(u:Int).toNat=u:=E;have a:=Tf k1;have d:bl u<=8:=by rw[<-a];have:∀v,v<256->(uB.getD v 0).toNat<=8:=fh;exact this u k1
 have hl:=PS;refine r1 W ?_ ?_
 ·show bo [(m:Int)+((uB.getD (IntKind.u8.wrap u).toNat 0).toNat:Nat)<=9223372036854775807,-9223372036854775808<=(m:Int)+((uB.getD (IntKind.u8.wrap u).toNat 0).toNat:Nat),(((uB.getD (IntKind.u8.wrap u).toNat 0).toNat:Nat):Int)<=9223372036854775807,-9223372036854775808<=(((uB.getD (IntKind.u8.wrap u).toNat 0).toNat:Nat):Int),IntKind.u8.wrap u<(uB.length:Nat),0<=IntKind.u8.wrap u];simp only[bo,and_true,b,hu,a,hl];omega
 refine aE W<|bR ?_;show(m:Int)+((uB.getD (IntKind.u8.wrap u).toNat 0).toNat:Nat)=_;rw[b,hu,a];omega
def B2(x:Nat)(a:x<18446744073709551616):aM Tryz.prog 332 [.n .u64 x] (.i<|64-(bl x:Int)):=by
 have b:bl x<=64:=by
  rcases afd x with g|g
  ·subst g;decide
  have c:=xe (x:=x) E;rcases aeQ 64 (bl x)with h|h
  ·have:2^64<=2^(bl x-1):=ae2 fh E;omega
  exact h
 refine bS Tryz.func332 W<|bP W W (zI x a) W<|r1 W aX<|bF W
def Me{A:Nat}(h:A≠0):A/2^(64*((ae A).length-1))=((ae A).getD ((ae A).length-1) 0).toNat/\2^(64*((ae A).length-1))<=A:=by
 have hl:=iF h;have hs:=gN (ae A)<|(ae A).length-1;rw[ai]at hs;have j:(ae A).drop ((ae A).length-1)=[(ae A).getD ((ae A).length-1) 0]:=by rw[aeE E,au E,afi E]
 have d:((ae A).take<|(ae A).length-1).length=(ae A).length-1:=by rw[afm];omega
 have a:=ic<|gA (eC A)<|(ae A).length-1;have i:=bm<|gA (eC A)<|(ae A).length-1;have m:=bf (eC A)<|(ae A).length-1;have b:=gw A;rw[j,d]at hs;rw[d]at a;have f:(18446744073709551616:Int)^((ae A).length-1)=((2^(64*((ae A).length-1)):Nat):Int):=by rw[agn];rfl
 rw[f]at hs a b;have k:0<2^(64*((ae A).length-1)):=afe fh;simp only[val]at hs;generalize 2^(64*((ae A).length-1))=P at*;generalize val ((ae A).take<|(ae A).length-1)=lo at*;obtain⟨t,c⟩:∃t:Nat,(ae A).getD ((ae A).length-1) 0=t:=⟨((ae A).getD ((ae A).length-1) 0).toNat,E⟩;rw[c]at hs⊢;constructor
 ·have e:(A:Int)=lo+P*t:=by rw[hs];simp
  have l:A=lo.toNat+P*t:=by omega
  rw[l,agL _ _ k,afw E];simp
 rcases b with g|g
 ·rw[g]at hl;cases hl
 omega
def Sd(a:Nm)(h:bj a){K:Nat}(hl:fV a K)(m:K<2^40):aM Tryz.prog 228 [eN a] (.i<|bl (nv a).natAbs):=by
 have k:=F5 a h;unfold fV at hl;generalize (nv a).natAbs=A at*;refine bS Tryz.func228 W<|bP W W k W<|bQ W W ?_ ?_<;>intro b
 ·have hA:A=0:=by
   rcases afd A with g|g
   ·exact g
   have:=iF (n:=A) E;omega
  subst hA;refine bK W W<|ar.of_eq<|congrArg SV.i W
 have b:¬((ae A).length:Int)=0:=b;have hA:A≠0:=by rintro rfl;rw[dm]at b;exact b W
 obtain⟨d,j⟩:=Me hA;obtain⟨x,e,c⟩:=mw A<|(ae A).length-1;rw[e]at d;have hs:=xd j;rw[d]at hs;have f:(((ae A).length:Int)-1).toNat=(ae A).length-1:=E;have ex:(x:Int).toNat=x:=E;rw[ex]at hs;have l:bl x<=64:=by
  rcases afd x with g|g
  ·subst g;decide
  have b:=xe (x:=x) E;rcases aeQ 64 (bl x)with h|h
  ·have:2^64<=2^(bl x-1):=ae2 fh E;omega
  exact h
 refine r1 W (by simp[bo,and_true,f]<;>omega) ?_;refine cl W (by rw[f,e];rfl) (zI x c) W ?_;refine r1 W a7<|aE W<|bR ?_;rw[hs];omega
structure Fr where
 n:Nm
 d:Nm
def eF(f:Fr):SV:=.agg [.i f.n.s,.fv .u64<|ws f.n,.i f.d.s,.fv .u64<|ws f.d]
structure gW(f:Fr)(q:Rat):Prop where
 n:bj f.n
 d:bj f.d
 vn:nv f.n=q.num
 vd:nv f.d=q.den
def Fs(a:Nm):aM Tryz.prog 170 [eN a] (eF ⟨a,⟨1,none⟩⟩):=by refine bS Tryz.func170 W<|bO W W (Ii 1) W<|k0 W aW<|bF W
def Z3(n:Int):aM Tryz.prog 208 [.i n] (eF ⟨⟨n,none⟩,⟨1,none⟩⟩):=by refine bS Tryz.func208 W<|bP W W (Ii n) W<|bG W (Fs ⟨n,none⟩) W<|bN W W
def MV(f:Fr){q:Rat}(h:gW f q):aM Tryz.prog 100 [eF f] (.i q.num.sign):=by have hs:=xB f.n h.n;rw[h.vn]at hs;refine bS Tryz.func100 W<|bP W W hs W<|bN W W
def GG(f:Fr){q:Rat}(h:gW f q){K:Nat}(hl:fV f.n K)(a:K<2^40):aM Tryz.prog 144 [eF f] (eF ⟨jc f.n,f.d⟩)/\gW ⟨jc f.n,f.d⟩ (-q):=by refine⟨?_,⟨(dR f.n h.n).2,h.d,by rw[(dR f.n h.n).1,h.vn,ahF],by rw[h.vd,Rat.neg_den]⟩⟩;refine bS Tryz.func144 W<|bO W W (Er f.n h.n hl a) W<|k0 W aW<|bF W
section
variable{B d q r u y0 y1:Nat}
structure DL(B u d y1 y0 q r:Nat):Prop where
 eq:r+q*y1=u
 up:(u*B+d)/(y1*B+y0)<=q
 hi:q<=B+1
 lt:r<B
structure DH(B u d y1 y0:Nat):Prop where
 b:4<=B
 n:B<=2*y1
 m:y1<B
 l:y0<B
 u:u<y1*B+y0
 d:d<B
def DH.pos(h:DH B u d y1 y0):0<y1*B+y0:=by have:=ahd (show 0<y1 by have:=h.n;have:=h.b;omega) (show 0<B by have:=h.b;omega);omega
def DH.Ww(h:DH B u d y1 y0):(u*B+d)/(y1*B+y0)<B:=by rw[afx h.pos];have:(u+1)*B<=(y1*B+y0)*B:=aeX _ h.u;rw[ae9]at this;have:=h.d;rw[aeO B];omega
def DL.start(h:DH B u d y1 y0):DL B u d y1 y0 (u/y1) (u%y1):=by
 have b:=h.pos;obtain⟨o,n,m,l,k,j⟩:=h;have a:0<y1:=E;have e:=afX u y1;have hm:=aeV u a;have g:u/y1<B+2:=by rw[afx a,ae9,aeO B];omega
 refine⟨by rw[aeO];exact e,?_,E,E⟩;rw[<-Nat.lt_succ_iff,afx b];have f:u+1<=(u/y1+1)*y1:=by rw[ae9,aeO];omega
 have c:(u+1)*B<=(u/y1+1)*y1*B:=aeX _ f;have i:(u/y1+1)*y1*B<=(u/y1+1)*(y1*B+y0):=by rw[afl];exact afr _ E
 rw[ae9]at c;show _<(u/y1+1)*_;omega
def DL.prod(h:DL B u d y1 y0 q r):q*(y1*B+y0)+r*B=u*B+q*y0:=by
 have e:q*(y1*B+y0)=q*y1*B+q*y0:=by rw[ag2,afl]
 rw[<-h.eq,ae9];omega
def DL.step(hh:DH B u d y1 y0)(h:DL B u d y1 y0 q r)(hc:B<=q\/r*B+d<q*y0):
 1<=q/\(r+y1<B->DL B u d y1 y0 (q-1) (r+y1))/\(B<=r+y1->(u*B+d)/(y1*B+y0)=q-1/\q-1<B):=by
 have k:=h.prod;have l:=hh.Ww;have a:=hh.pos;obtain⟨v,t,s,o,n,m⟩:=hh;have b:(u*B+d)/(y1*B+y0)<q:=by
  rcases hc with hc|hc
  ·omega
  rw[afx a];have:u*B+d<q*(y1*B+y0):=by omega
  exact this
 have f:=af2 (adk _) b;obtain⟨p,rfl⟩:∃p,q=p+1:=⟨q-1,E⟩;have he:=h.eq;have i:=h.hi;rw[ae9]at he;simp only[Nat.add_sub_cancel];refine⟨E,λc=>⟨E,E,E,c⟩,λc=>?_⟩;have g:p<=(u*B+d)/(y1*B+y0):=by
  rw[ail a];have e:p*(y1*B+y0)=p*y1*B+p*y0:=by rw[ag2,afl]
  have w:p*y0<=B*B:=agr E E;have j:(p*y1+B)*B<=u*B:=aeX _ E;rw[ae9]at j;omega
 omega
def DL.stop(hh:DH B u d y1 y0)(h:DL B u d y1 y0 q r)(hc:q*y0<=r*B+d):(u*B+d)/(y1*B+y0)=q:=by
 have b:=h.prod;have a:=h.up;have:q<=(u*B+d)/(y1*B+y0):=by rw[ail hh.pos];omega
 omega
def Ee{Y:Nat}(h:(u*4294967296+d)/Y=q)(hY:0<Y)(hl:Y<=18446744073709551616):
 IntKind.u64.wrap (IntKind.u64.wrap (IntKind.u64.wrap ((u:Int)*4294967296)+d)-IntKind.u64.wrap ((q:Int)*Y))=(((u*4294967296+d)%Y:Nat):Int):=by
 have e:=afX (u*4294967296+d) Y;have hm:=aeV (u*4294967296+d) hY;rw[h]at e;generalize (u*4294967296+d)%Y=r at*;have a:(u:Int)*4294967296+d=(r:Int)+(q:Int)*Y:=by rw[afj (q:Int)];omega
 simp[PE];omega
def A8(B U a d0 Y:Nat)(hY:0<Y):
 ((U*B+a)*B+d0)/Y=(U*B+a)/Y*B+((U*B+a)%Y*B+d0)/Y/\((U*B+a)*B+d0)%Y=((U*B+a)%Y*B+d0)%Y:=by
 have e:=afX (U*B+a) Y;have b:(U*B+a)*B+d0=((U*B+a)%Y*B+d0)+Y*((U*B+a)/Y*B):=by
  rw[<-afl]
  conv=>lhs;rw[<-e]
  rw[ae9];omega
 rw[b];exact⟨by rw[agL _ _ hY,Nat.add_comm],by rw[ahO]⟩
end
section
variable{Y a b s u y:Nat}
def acp(a b:Nat)(h:a<18446744073709551616):IntKind.u64.wrap ((a:Int).tdiv (b:Int))=((a/b:Nat):Int):=by exact wr<|af2 (agF _ _) h
def NT(h:b<=a)(c:a<18446744073709551616):IntKind.u64.wrap ((a:Int)-(b:Int))=((a-b:Nat):Int):=by rw[<-Int.natCast_sub h];exact wr E
def Ps(h:a+b<18446744073709551616):IntKind.u64.wrap ((a:Int)+(b:Int))=((a+b:Nat):Int):=by rw[<-ag4];exact wr h
def WJ(h:a*b<18446744073709551616):IntKind.u64.wrap ((a:Int)*(b:Int))=((a*b:Nat):Int):=by rw[<-afn];exact wr h
def X1(h:a<18446744073709551616):IntKind.u64.wrap ((a:Int)-IntKind.u64.wrap (((a/b:Nat):Int)*(b:Int)))=((a%b:Nat):Int):=by
 have e:=afX a b;rw[aeO]at e;rw[WJ E,NT E h]
 congr 1;omega
def Ew(h:s<=64):min ((s:Nat):Int).toNat IntKind.u64.bits=s:=by show min ((s:Nat):Int).toNat 64=s;omega
def P8(x s:Nat)(h:s<=64):IntKind.u64.wrap ((x:Int)*2^min ((s:Nat):Int).toNat IntKind.u64.bits)=((x*2^s%18446744073709551616:Nat):Int):=by rw[Ew h,<-XA];rw[afn];rfl
def To(x s:Nat)(h:s<=64):(x:Int).fdiv (2^min ((s:Nat):Int).toNat IntKind.u64.bits)=((x/2^s:Nat):Int):=by rw[Ew h,aik _<|by exact afh<|Int.pow_pos fh];rw[ahP];rfl
def ZX(a b s:Nat)(h:a*2^s+b<18446744073709551616)(d:b<2^s):
 IntKind.u64.wrap ((BitVec.ofInt IntKind.u64.bits ((a*2^s:Nat):Int)|||BitVec.ofInt IntKind.u64.bits (b:Int)).toNat:Int)=((a*2^s+b:Nat):Int):=by
 rw[XA]
 congr 1
 have c:(BitVec.ofNat 64 (a*2^s)|||BitVec.ofNat 64 b).toNat=(a*2^s%2^64)|||(b%2^64):=I;have f:a*2^s%2^64=a*2^s:=afy E;have e:b%2^64=b:=afy E;rw[f,e,aeO a,<-Nat.two_pow_add_eq_or_of_lt d,aeO]at c;show(BitVec.ofNat 64 (a*2^s)|||BitVec.ofNat 64 b).toNat%_=_;rw[c,afy h]
def Xp{x:Nat}(c:x<18446744073709551616):bl x<=64:=by
 rcases afd x with g|g
 ·subst g;decide
 have d:=xe (x:=x) E;rcases aeQ 64 (bl x)with h|h
 ·have:2^64<=2^(bl x-1):=ae2 fh E;omega
 exact h
structure J6(hi lo y s Y u d1 d0:Nat):Prop where
 hs:s<64
 hY:Y=y*2^s
 hn:9223372036854775808<=Y
 hl:Y<18446744073709551616
 he:u*18446744073709551616+(d1*4294967296+d0)=(hi*18446744073709551616+lo)*2^s
 Rr:d1<4294967296
 Cc:d0<4294967296
 hu:u<Y
 ZA:u=hi*2^s+lo/2^(64-s)
 ZB:lo*2^s%18446744073709551616=d1*4294967296+d0
def J6.mk'{hi lo:Nat}(j:hi<y)(h:y<18446744073709551616)(hl:lo<18446744073709551616):
 J6 hi lo y (64-bl y) (y*2^(64-bl y)) (hi*2^(64-bl y)+lo/2^(64-(64-bl y))) (lo*2^(64-bl y)%18446744073709551616/4294967296) (lo*2^(64-bl y)%18446744073709551616%4294967296):=by
 have i:=yD (x:=y) E;have e:=xe (x:=y) E;have d:=JU y;have n:=Xp h;obtain⟨s,hs⟩:∃s,s=64-bl y:=⟨_,W⟩;rw[<-hs];have m:2^(bl y)*2^s=18446744073709551616:=by rw[<-afV];rw[show bl y+s=64 from E]
 have l:2^(bl y-1)*2^s=9223372036854775808:=by rw[<-afV];rw[show bl y-1+s=63 from E]
 have g:2^(64-s)*2^s=18446744073709551616:=by rw[<-afV];rw[show 64-s+s=64 from E]
 have f:0<2^s:=afe fh;have c:0<2^(64-s):=afe fh;have g1:9223372036854775808<=y*2^s:=by rw[<-l];exact aeX _ e
 have g2:y*2^s<18446744073709551616:=by rw[<-m];exact Nat.mul_lt_mul_of_pos_right d f
 have r:lo/2^(64-s)<2^s:=by rw[afx c,aeO,g];exact hl
 have k:(hi+1)*2^s<=y*2^s:=aeX _ j;rw[ae9]at k;have q:lo*2^s/18446744073709551616=lo/2^(64-s):=by rw[<-g];exact ah7 _ _ f
 refine⟨E,W,g1,g2,?_,E,E,E,W,E⟩;have p:=afX (lo*2^s) 18446744073709551616;have o:(hi*18446744073709551616+lo)*2^s=hi*2^s*18446744073709551616+lo*2^s:=by rw[ae9];generalize (18446744073709551616:Nat)=M;rw[afl,aeO M,<-afl]
 omega
def J6.VM{hi lo c d0:Nat}(h:J6 hi lo y s Y u c d0):DH 4294967296 u c (Y/4294967296) (Y%4294967296):=by have:=h.hn;have:=h.hl;have:=h.hu;have:=h.Rr;exact⟨E,E,E,E,E,E⟩
def J6.yy:Y/4294967296*4294967296+Y%4294967296=Y:=E
def J6.Z5{hi lo c d0:Nat}(h:J6 hi lo y s Y u c d0):DH 4294967296 ((u*4294967296+c)%Y) d0 (Y/4294967296) (Y%4294967296):=by have f:=h.hn;have e:=h.hl;have d:=h.Cc;have:=aeV (u*4294967296+c) (show 0<Y from E);exact⟨E,E,E,E,E,E⟩
def J6.quo{hi lo c d0:Nat}(h:J6 hi lo y s Y u c d0):
 (u*4294967296+c)/Y*4294967296+((u*4294967296+c)%Y*4294967296+d0)/Y=(hi*18446744073709551616+lo)/y/\
 ((u*4294967296+c)%Y*4294967296+d0)%Y/2^s=(hi*18446744073709551616+lo)%y:=by
 have hn:=h.hn;have d:0<2^s:=afe fh;obtain⟨g,f⟩:=A8 4294967296 u c d0 Y E;have e:(u*4294967296+c)*4294967296+d0=(hi*18446744073709551616+lo)*2^s:=by rw[<-h.he];omega
 rw[<-g,<-f,e,h.hY];refine⟨ah7 _ _ d,?_⟩;rw[ah8,ah9 _ d]
def zT(hi lo y:Nat)(N:hi<y)(Q:y<18446744073709551616)(hl:lo<18446744073709551616):
 aM Tryz.prog 331 [.n .u64 hi,.n .u64 lo,.n .u64 y] (.bW [.n .u64 ((hi*18446744073709551616+lo)/y:Nat),.n .u64 ((hi*18446744073709551616+lo)%y:Nat)]):=by
 refine bS Tryz.func331 W<|bQ W W (λh=>absurd h E) λ_=>?_;refine bQ W W (λh=>absurd h E) λ_=>?_;refine bQ W W ?_ ?_<;>intro h
 ·have h0:hi=0:=E;subst h0;refine k1 W aW ?_ ?_
  ·simp only[bo,and_true]<;>omega
  have e:(0*18446744073709551616+lo)=lo:=E;rw[e];refine aE W ⟨congrArg (SV.n .u64) ?_,congrArg (SV.n .u64) ?_,U⟩
  ·rw[ahC E,<-ahP];exact wr<|af2 (agF _ _) hl
  rfl
 obtain⟨s,S⟩:∃s,s=64-bl y:=⟨_,W⟩;have c:=J6.mk' N Q hl;rw[<-S]at c;generalize y*2^s=Y at c;generalize hi*2^s+lo/2^(64-s)=u at c;generalize lo*2^s%18446744073709551616/4294967296=i at c;generalize lo*2^s%18446744073709551616%4294967296=d0 at c;have E1:=yD (x:=y) E;have D2:=Xp Q;have hs:=c.hs;have j:IntKind.u64.wrap (64-(bl y:Int))=(s:Int):=by rw[PE];omega
 have t:IntKind.u64.wrap (64-(s:Int))=((64-s:Nat):Int):=by rw[PE];omega
 have J:IntKind.u64.wrap ((y:Int)*2^min ((s:Nat):Int).toNat IntKind.u64.bits)=(Y:Int):=by rw[P8 y s E,<-c.hY,afy c.hl]
 have Z:hi*2^s<18446744073709551616:=by
  have N:=c.hu;have h2:=c.hl;have:hi*2^s<=u:=by rw[c.ZA];exact Nat.le_add_right _ _
  omega
 have eu:IntKind.u64.wrap ((BitVec.ofInt IntKind.u64.bits (IntKind.u64.wrap<|(hi:Int)*2^min ((s:Nat):Int).toNat IntKind.u64.bits)|||BitVec.ofInt IntKind.u64.bits ((lo:Int).fdiv<|2^min ((64-s:Nat):Int).toNat IntKind.u64.bits)).toNat:Int)=(u:Int):=by
  rw[P8 hi s E,afy Z,To lo (64-s) E,ZX hi (lo/2^(64-s)) s]
  ·rw[c.ZA]
  ·have N:=c.hu;have h2:=c.hl;rw[<-c.ZA];omega
  have e3:2^(64-s)*2^s=18446744073709551616:=by rw[<-afV];rw[show 64-s+s=64 from E]
  rw[afx<|afe fh,aeO,e3];exact hl
 have el:IntKind.u64.wrap ((lo:Int)*2^min ((s:Nat):Int).toNat IntKind.u64.bits)=((i*4294967296+d0:Nat):Int):=by rw[P8 lo s E,c.ZB]
 have Rr:=c.Rr;have Cc:=c.Cc;have B0:((i*4294967296+d0)/4294967296)=i:=E;have D1:((i*4294967296+d0)%4294967296)=d0:=E;have C:u<18446744073709551616:=by have N:=c.hu;have h2:=c.hl;omega
 refine rn 1 W<|cx 11 [(2,.n .u64 Y),(8,.n .u64 s),(9,.n .u64 (Y/4294967296:Nat)),(10,.n .u64 (Y%4294967296:Nat)),(11,.n .u64 u),(13,.n .u64 i),(14,.n .u64 d0),(15,.n .u64 ((u*4294967296+i)/Y:Nat))] True ?_ λ_=>?_
 ·refine bP W W (B2 y Q) W<|r1 W ?_ ?_
  ·simp only[bo,and_true,j,t,J,D8];have:=c.hn;refine⟨?_,E,E,E,E,E,E⟩;omega
  refine kR (λ(q r:Nat)=>[(2,.n .u64 Y),(8,.n .u64 s),(9,.n .u64 (Y/4294967296:Nat)),(10,.n .u64 (Y%4294967296:Nat)),(11,.n .u64 u),(13,.n .u64 i),(14,.n .u64 d0),(15,.n .u64 q),(16,.n .u64 r)])
   (λq r=>DL 4294967296 u i (Y/4294967296) (Y%4294967296) q r) (λq _=>q) (u/(Y/4294967296)) (u%(Y/4294967296)) (DL.start c.VM)
   ⟨⟨W,congrArg (SV.n .u64)<|by rw[j,J]⟩,⟨W,congrArg (SV.n .u64) j⟩,⟨W,congrArg (SV.n .u64)<|by rw[j,J,D8]⟩,⟨W,congrArg (SV.n .u64)<|by rw[j,J,Q1]⟩,
     ⟨W,congrArg (SV.n .u64)<|by rw[j,t,eu]⟩,⟨W,congrArg (SV.n .u64)<|by rw[j,el,D8,B0]⟩,⟨W,congrArg (SV.n .u64)<|by rw[j,el,Q1,D1]⟩,
     ⟨W,congrArg (SV.n .u64)<|by rw[j,t,eu,J,D8,acp _ _ C]⟩,⟨W,congrArg (SV.n .u64)<|by rw[j,t,eu,J,D8,acp _ _ C,X1 C]⟩,U⟩ ?_
  intro q r w;have X:=w.hi;have T:=w.lt;have O:Y/4294967296<4294967296:=c.VM.m;have P:Y%4294967296<4294967296:=c.VM.l;have f:(4294967296<=q\/r*4294967296+i<q*(Y%4294967296))->IntKind.u64.wrap ((q:Int)-1)=((q-1:Nat):Int)/\IntKind.u64.wrap ((r:Int)+((Y/4294967296:Nat):Int))=((r+Y/4294967296:Nat):Int):=by intro hc;obtain⟨g1,-,-⟩:=w.step c.VM hc;exact⟨NT (b:=1) g1 E,Ps E⟩
  refine bJ W 69 W ?_ ?_<;>intro hc
  ·obtain⟨A,p⟩:=f (.inl E);obtain⟨g1,g2,H⟩:=w.step c.VM<|.inl E;refine bQ W W ?_ ?_<;>intro o
   ·rw[p]at o;obtain⟨m,g5⟩:=H E;rw[J6.yy]at m;refine bL W U ⟨G,G,G,G,G,G,G,⟨W,congrArg (SV.n .u64)<|by rw[A,m]⟩,U⟩
   rw[p]at o;refine r0 W<|again (q-1,r+Y/4294967296) (by dsimp only;omega) (g2 E) ⟨G,G,G,G,G,G,G,⟨W,congrArg (SV.n .u64) A⟩,⟨W,congrArg (SV.n .u64) p⟩,U⟩
  have V:q<4294967296:=E;have D:q*(Y%4294967296)<18446744073709551616:=by have:q*(Y%4294967296)<=4294967295*4294967295:=agr E E;omega
  have M:IntKind.u64.wrap ((q:Int)*((Y%4294967296:Nat):Int))=((q*(Y%4294967296):Nat):Int):=WJ D;have L:IntKind.u64.wrap (IntKind.u64.wrap (4294967296*(r:Int))+(i:Int))=((r*4294967296+i:Nat):Int):=by rw[PE,PE];omega
  refine bQ W W ?_ ?_<;>intro g
  ·rw[M,L]at g;have k:r*4294967296+i<q*(Y%4294967296):=by exact_mod_cast g
   obtain⟨A,p⟩:=f<|.inr k;obtain⟨g1,g2,H⟩:=w.step c.VM<|.inr k;refine bQ W W ?_ ?_<;>intro o
   ·rw[p]at o;obtain⟨m,g5⟩:=H E;rw[J6.yy]at m;refine bL W U ⟨G,G,G,G,G,G,G,⟨W,congrArg (SV.n .u64)<|by rw[A,m]⟩,U⟩
   rw[p]at o;refine r0 W<|again (q-1,r+Y/4294967296) (by dsimp only;omega) (g2 E) ⟨G,G,G,G,G,G,G,⟨W,congrArg (SV.n .u64) A⟩,⟨W,congrArg (SV.n .u64) p⟩,U⟩
  rw[M,L]at g;have k:q*(Y%4294967296)<=r*4294967296+i:=by
   rcases aeQ (r*4294967296+i) (q*(Y%4294967296))with h|h
   ·exact absurd (by exact_mod_cast h) g
   exact h
  have m:=w.stop c.VM k;rw[J6.yy]at m;refine bL W U ⟨G,G,G,G,G,G,G,⟨W,congrArg (SV.n .u64)<|by rw[m]⟩,U⟩
 have F:0<Y:=by have:=c.hn;omega
 have A0:=Ee (u:=u) (d:=i) (Y:=Y) W F<|ago c.hl;have ev:IntKind.u64.wrap (IntKind.u64.wrap (IntKind.u64.wrap ((u:Int)*4294967296)+(i:Int))-IntKind.u64.wrap ((((u*4294967296+i)/Y:Nat):Int)*(Y:Int)))=(((u*4294967296+i)%Y:Nat):Int):=A0;have l:=c.Z5;have R:(u*4294967296+i)%Y<Y:=aeV _ F;obtain⟨w1,w2⟩:=c.quo;have K:=c.VM.Ww;have z:=c.Z5.Ww;rw[J6.yy]at K z;obtain⟨v,hv⟩:∃v,v=(u*4294967296+i)%Y:=⟨_,W⟩;rw[<-hv]at ev l R w1 w2 z;have B:v<18446744073709551616:=by have:=c.hl;omega
 refine cx 4 [(2,.n .u64 Y),(8,.n .u64 s),(14,.n .u64 d0),(15,.n .u64 ((u*4294967296+i)/Y:Nat)),(17,.n .u64 v),(18,.n .u64 ((v*4294967296+d0)/Y:Nat))] True ?_ λ_=>?_
 ·refine r1 W ?_ ?_
  ·simp only[bo,and_true];have:=c.hn;omega
  refine kR (λ(q r:Nat)=>[(2,.n .u64 Y),(8,.n .u64 s),(9,.n .u64 (Y/4294967296:Nat)),(10,.n .u64 (Y%4294967296:Nat)),(14,.n .u64 d0),(15,.n .u64 ((u*4294967296+i)/Y:Nat)),(17,.n .u64 v),(18,.n .u64 q),(16,.n .u64 r)])
   (λq r=>DL 4294967296 v d0 (Y/4294967296) (Y%4294967296) q r) (λq _=>q) (v/(Y/4294967296)) (v%(Y/4294967296)) (DL.start l)
   ⟨G,G,G,G,G,G,⟨W,congrArg (SV.n .u64) ev⟩,⟨W,congrArg (SV.n .u64)<|by rw[ev,acp _ _ B]⟩,⟨W,congrArg (SV.n .u64)<|by rw[ev,acp _ _ B,X1 B]⟩,U⟩ ?_
  intro q r w;have X:=w.hi;have T:=w.lt;have O:Y/4294967296<4294967296:=l.m;have P:Y%4294967296<4294967296:=l.l;have f:(4294967296<=q\/r*4294967296+d0<q*(Y%4294967296))->IntKind.u64.wrap ((q:Int)-1)=((q-1:Nat):Int)/\IntKind.u64.wrap ((r:Int)+((Y/4294967296:Nat):Int))=((r+Y/4294967296:Nat):Int):=by intro hc;obtain⟨g1,-,-⟩:=w.step l hc;exact⟨NT (b:=1) g1 E,Ps E⟩
  refine bJ W 104 W ?_ ?_<;>intro hc
  ·obtain⟨A,p⟩:=f (.inl E);obtain⟨g1,g2,H⟩:=w.step l<|.inl E;refine bQ W W ?_ ?_<;>intro o
   ·rw[p]at o;obtain⟨m,g5⟩:=H E;rw[J6.yy]at m;refine bL W U ⟨G,G,G,G,G,⟨W,congrArg (SV.n .u64)<|by rw[A,m]⟩,U⟩
   rw[p]at o;refine r0 W<|again (q-1,r+Y/4294967296) (by dsimp only;omega) (g2 E) ⟨G,G,G,G,G,G,G,⟨W,congrArg (SV.n .u64) A⟩,⟨W,congrArg (SV.n .u64) p⟩,U⟩
  have V:q<4294967296:=E;have D:q*(Y%4294967296)<18446744073709551616:=by have:q*(Y%4294967296)<=4294967295*4294967295:=agr E E;omega
  have M:IntKind.u64.wrap ((q:Int)*((Y%4294967296:Nat):Int))=((q*(Y%4294967296):Nat):Int):=WJ D;have L:IntKind.u64.wrap (IntKind.u64.wrap (4294967296*(r:Int))+(d0:Int))=((r*4294967296+d0:Nat):Int):=by rw[PE,PE];omega
  refine bQ W W ?_ ?_<;>intro g
  ·rw[M,L]at g;have k:r*4294967296+d0<q*(Y%4294967296):=by exact_mod_cast g
   obtain⟨A,p⟩:=f<|.inr k;obtain⟨g1,g2,H⟩:=w.step l<|.inr k;refine bQ W W ?_ ?_<;>intro o
   ·rw[p]at o;obtain⟨m,g5⟩:=H E;rw[J6.yy]at m;refine bL W U ⟨G,G,G,G,G,⟨W,congrArg (SV.n .u64)<|by rw[A,m]⟩,U⟩
   rw[p]at o;refine r0 W<|again (q-1,r+Y/4294967296) (by dsimp only;omega) (g2 E) ⟨G,G,G,G,G,G,G,⟨W,congrArg (SV.n .u64) A⟩,⟨W,congrArg (SV.n .u64) p⟩,U⟩
  rw[M,L]at g;have k:q*(Y%4294967296)<=r*4294967296+d0:=by
   rcases aeQ (r*4294967296+d0) (q*(Y%4294967296))with h|h
   ·exact absurd (by exact_mod_cast h) g
   exact h
  have m:=w.stop l k;rw[J6.yy]at m;refine bL W U ⟨G,G,G,G,G,⟨W,congrArg (SV.n .u64)<|by rw[m]⟩,U⟩
 refine r1 W ?_ ?_
 ·simp only[bo,and_true]<;>omega
 refine aE W ⟨congrArg (SV.n .u64) ?_,congrArg (SV.n .u64) ?_,U⟩
 ·rw[<-w1];obtain⟨a,ha⟩:∃a,a=(u*4294967296+i)/Y:=⟨_,W⟩;obtain⟨b,hb⟩:∃b,b=(v*4294967296+d0)/Y:=⟨_,W⟩;rw[<-ha]at K⊢;rw[<-hb]at z⊢;rw[PE,PE];omega
 rw[<-w2];have e3:=Ee (u:=v) (d:=d0) (Y:=Y) W F<|ago c.hl;have e4:IntKind.u64.wrap (IntKind.u64.wrap (IntKind.u64.wrap ((v:Int)*4294967296)+(d0:Int))-IntKind.u64.wrap ((((v*4294967296+d0)/Y:Nat):Int)*(Y:Int)))=(((v*4294967296+d0)%Y:Nat):Int):=e3;rw[e4,To _ s E]
end
def fx:Nat->Nat->List Int
 |0,_=>[]
 |k+1,v=>((v%18446744073709551616:Nat):Int)::fx k (v/18446744073709551616)
def fL:∀(k v:Nat),(fx k v).length=k
 |0,_=>rfl
 |k+1,v=>by simp[fx,fL k]
def Lz:∀(k v:Nat),gX (fx k v)
 |0,_,d,h=>by simp[fx]at h
 |k+1,v,d,h=>by
  simp[fx]at h;rcases h with rfl|h
  ·omega
  exact Lz k _ d h
def MU:∀{l:List Int}{v:Nat},gX l->val l=v->l=fx l.length v
 |[],v,_,h=>rfl
 |d::l,v,a,h=>by have g:=a d I;have c:gX l:=λx b=>a x (by simp[b]);simp[val]at h;simp only[adX,fx];have f:d=((v%18446744073709551616:Nat):Int):=E;have e:val l=((v/18446744073709551616:Nat):Int):=E;rw[<-f,<-MU c e]
def PH{k v:Nat}(h:(v:Int)<18446744073709551616^k):val (fx k v)=v:=by
 induction k generalizing v with
 |zero=>
  have:v=0:=by simp at h;omega
  subst this;rfl
 |succ k a=>
  simp[fx,val];rw[a]
  ·omega
  rw[ae1]at h;omega
def Us{k v:Nat}(h:(v:Int)<18446744073709551616^k):cW (fx k v)=ae v:=by rw[ee<|Lz k v,PH h];simp
def X8(a b s:Nat)(h:a*2^s+b<18446744073709551616)(c:b<2^s):
 IntKind.u64.wrap ((BitVec.ofInt IntKind.u64.bits (b:Int)|||BitVec.ofInt IntKind.u64.bits ((a*2^s:Nat):Int)).toNat:Int)=((a*2^s+b:Nat):Int):=by
 rw[BitVec.or_comm];exact ZX a b s h c
def Kw{x s:Nat}(hs:s<64)(c:x<18446744073709551616):
 x*2^s%18446744073709551616=x%2^(64-s)*2^s/\x*2^s=x%2^(64-s)*2^s+x/2^(64-s)*18446744073709551616/\x/2^(64-s)<2^s/\x%2^(64-s)*2^s+(2^s-1)<18446744073709551616:=by
 have b:2^(64-s)*2^s=18446744073709551616:=by rw[<-afV];rw[show 64-s+s=64 from E]
 have a:0<2^(64-s):=afe fh;have h:=afX x<|2^(64-s);have f:=aeV x a;have g:x/2^(64-s)<2^s:=by rw[afx a,aeO,b];exact c
 have d:(x%2^(64-s)+1)*2^s<=2^(64-s)*2^s:=aeX _ f;rw[ae9]at d;have e:x*2^s=x%2^(64-s)*2^s+x/2^(64-s)*18446744073709551616:=by
  conv=>lhs;rw[<-h]
  rw[ae9,aeO<|2^(64-s),afl,b]
 omega
def tY(A s:Nat)(hs:s<64)(h1:(ae A).length<2^40):aM Tryz.prog 333 [.ints .u64 false<|ae A,.i s] (.ints .u64 true<|fx ((ae A).length+1)<|A*2^s):=by
 have M:=eC A;have hp:0<2^s:=afe fh;obtain⟨w,K⟩:∃w,w=ae A:=⟨_,W⟩;rw[<-K]at M h1⊢;have hA:val w=A:=by rw[K,ai]
 refine bS Tryz.func333 W<|r1 W ba ?_;have F:((w.length:Int)+1).toNat=w.length+1:=E;refine kR (λ(i:Nat)(out:List Int)=>[(0,.ints .u64 false w),(1,.i s),(5,.ints .u64 true out),(12,.ints .u64 false w),(13,.i w.length),(14,.i i)])
  (λi out=>i<=w.length/\out.length=w.length+1/\gX out/\out.getD i 0<((2^s:Nat):Int)/\(∀k,i<k->out.getD k 0=0)/\val (out.take<|i+1)=val (w.take i)*((2^s:Nat):Int))
  (λi _=>w.length-i) 0 (List.replicate (w.length+1) 0) ⟨adk _,I,fw _,by rw[fK];omega,λk _=>fK _ _,by rw[List.take_replicate,iH];simp[val]⟩
  ⟨G,G,⟨W,by rw[F];rfl⟩,G,G,G,U⟩ ?_
 rintro i out⟨hi,f,e,hc,r,o⟩;refine bQ W W (λX=>?_) (λA0=>?_)
 ·have T:=bf M i;have hb:=bf e i;obtain⟨x,ex⟩:∃x:Nat,w.getD i 0=x:=⟨(w.getD i 0).toNat,E⟩;obtain⟨b,q⟩:∃b:Nat,out.getD i 0=b:=⟨(out.getD i 0).toNat,E⟩;rw[ex]at T;rw[q]at hb hc;have p:(i:Int).toNat=i:=E;have n:((i:Int)+1).toNat=i+1:=E;obtain⟨g1,g2,g3,g4⟩:=Kw hs (show x<18446744073709551616 from E);have h:IntKind.u64.wrap ((BitVec.ofInt IntKind.u64.bits (b:Int)|||BitVec.ofInt IntKind.u64.bits (IntKind.u64.wrap<|(x:Int)*2^min ((s:Nat):Int).toNat IntKind.u64.bits)).toNat:Int)=((x%2^(64-s)*2^s+b:Nat):Int):=by
   rw[P8 x s E,g1];exact X8 _ b s E E
  obtain⟨y,u⟩:∃y,y=x%2^(64-s)*2^s+b:=⟨_,W⟩;obtain⟨c,g⟩:∃c,c=x/2^(64-s):=⟨_,W⟩;have S:y<18446744073709551616:=E;have L:i<w.length:=E;have m:∀a:List Int,a.length=w.length+1->gX a->(∀k,i+1<k->a.getD k 0=0)->a.getD i 0=y->a.getD (i+1) 0=c->a.take i=out.take i->
   i+1<=w.length/\a.length=w.length+1/\gX a/\a.getD (i+1) 0<((2^s:Nat):Int)/\(∀k,i+1<k->a.getD k 0=0)/\val (a.take<|i+1+1)=val (w.take<|i+1)*((2^s:Nat):Int):=by
   intro a R Q P O J N;refine⟨E,R,Q,by rw[J];omega,P,?_⟩;rw[aI,aI a,N,O,J,aI w,ex];rw[aI,q]at o;have B:(x:Int)*((2^s:Nat):Int)=(y:Int)-b+(c:Int)*18446744073709551616:=by
    have:((x*2^s:Nat):Int)=((x%2^(64-s)*2^s+x/2^(64-s)*18446744073709551616:Nat):Int):=by rw[g2]
    rw[<-g]at this;generalize x%2^(64-s)*2^s=t at*;rw[afn]at this;rw[this,u];omega
   rw[ae7,<-o,ae8,afj<|18446744073709551616^i,<-ae8,B,ae1,ae7,afH,ae8 (c:Int),afj (18446744073709551616^i) 18446744073709551616];omega
  have V:IntKind.i64.wrap (64-(s:Int))=((64-s:Nat):Int):=by rw[V6];omega
  have d:∀(l:List Int)(j k:Nat)(z:Int),(l.set j z).getD k 0=if j=k/\k<l.length then z else l.getD k 0:=cv;refine k1 W aW ?_ ?_
  ·simp only[bo,and_true,p]<;>omega
  refine gb W ?_ ?_<;>intro h0
  ·refine r1 W ?_ ?_
   ·simp only[bo,and_true,p,n,ad2]<;>omega
   refine again (i+1,(out.set i (y:Int)).set (i+1) (c:Int)) (by dsimp only;omega) ?_ ⟨G,G,⟨W,congrArg (SV.ints .u64 true) ?_⟩,G,G,⟨W,congrArg (SV.n .i64) E⟩,U⟩
   ·refine m _ (by simp[f]) (eM (eM e E) E) (λk Y=>?_) ?_ ?_ ?_
    ·rw[d,if_neg E,d,if_neg E];exact r k E
    ·rw[d,if_neg E,d,if_pos E]
    ·rw[d,if_pos<|by simp;omega]
    rw[eK E,eK<|adp _]
   dsimp only;rw[p,n];rw[ex,q,h,u];have H:(64-(s:Int))=((64-s:Nat):Int):=E;rw[H,To x (64-s) E,g]
  refine r1 W ?_ ?_
  ·simp only[bo,and_true]<;>omega
  have C:s=0:=E;have D:c=0:=by rw[g,C];exact afw (by show x<2^64;omega)
  refine again (i+1,out.set i (y:Int)) (by dsimp only;omega) ?_ ⟨G,G,⟨W,congrArg (SV.ints .u64 true) ?_⟩,G,G,⟨W,congrArg (SV.n .i64) E⟩,U⟩
  ·refine m _ (by simp[f]) (eM e E) (λk Y=>?_) ?_ ?_ ?_
   ·rw[d,if_neg E];exact r k E
   ·rw[d,if_pos E]
   ·rw[d,if_neg E,r _ E,D];rfl
   rw[eK<|adp _]
  dsimp only;rw[p,ex,q,h,u]
 refine r0 W ?_;have Z:i=w.length:=E;refine aE W ?_;show SV.ints .u64 true out=_;have e1:out.take (i+1)=out:=adM E;have e2:w.take i=w:=adM E;rw[e1,e2,hA]at o;rw[<-f,<-MU (v:=A*2^s) e (by rw[o,afn])]
end Go.Ai.eE
namespace Go.Ai.eE
section
variable{r t u2:Int}{u v w:List Int}{L U V c i k q ui vi:Nat}
def nX(a w b:List Int)(h:i<w.length):(a++w++b).getD (a.length+i) 0=w.getD i 0:=by rw[adY,adY,aeZ,afD E,ag9,afK h]
def AH(b w a:List Int)(y:Int)(h:i<w.length):(b++w++a).set (b.length+i) y=b++w.set i y++a:=by rw[aeZ,aif _ _ E,ag9,List.set_append_left _ _ h,aeZ]
def zJ{v1 v2:Int}(d:0<=t/\t<18446744073709551616)(b:18446744073709551616<=r)(a:0<=v2/\v2<18446744073709551616)(hu:0<=u2):cZ k t r v1 v2 u2=t:=by
 cases k with
 |zero=>rfl
 |succ k=>
  unfold cZ;rw[if_neg];rintro(h|h)
  ·omega
  have:t*v2<=18446744073709551615*18446744073709551615:=ah6 E E a.1 E;omega
def I1{v1 v2:Int}(b:t<18446744073709551616)(a:t*v2<=r*18446744073709551616+u2):cZ k t r v1 v2 u2=t:=by
 cases k with
 |zero=>rfl
 |succ k=>unfold cZ;rw[if_neg];rintro(h|h)<;>omega
def aaF{v1 v2:Int}(d:1<=t)(a:r*18446744073709551616+u2<t*v2)(b:r+v1<18446744073709551616):cZ t.toNat t r v1 v2 u2=cZ (t-1).toNat (t-1) (r+v1) v1 v2 u2:=by
 have:t.toNat=(t-1).toNat+1:=E;rw[this]
 conv=>lhs;unfold cZ
 rw[if_pos<|.inr a,if_neg E]
def I3{v1 v2:Int}(d:1<=t)(a:r*18446744073709551616+u2<t*v2)(b:18446744073709551616<=r+v1):cZ t.toNat t r v1 v2 u2=t-1:=by
 have:t.toNat=(t-1).toNat+1:=E;rw[this]
 conv=>lhs;unfold cZ
 rw[if_pos<|.inr a,if_pos E]
def Oi(o:w.length=L+1)(p:2<=L):val w=(w.getD L 0*18446744073709551616+w.getD (L-1) 0)*(18446744073709551616*18446744073709551616^(L-2))+w.getD (L-2) 0*18446744073709551616^(L-2)+val (w.take<|L-2):=by
 have j:w.take (L+1)=w:=adM E;have e:=aI w L;have d:=aI w<|L-1;have h:=aI w<|L-2;rw[j]at e;rw[show L-1+1=L from E]at d;rw[show L-2+1=L-1 from E]at h;have g:(18446744073709551616:Int)^L=18446744073709551616^(L-2)*18446744073709551616*18446744073709551616:=by rw[<-ae1,<-ae1];congr 1;omega
 have f:(18446744073709551616:Int)^(L-1)=18446744073709551616^(L-2)*18446744073709551616:=by rw[<-ae1];congr 1;omega
 rw[g]at e;rw[f]at d;generalize (18446744073709551616:Int)^(L-2)=P at*;rw[e,d];generalize w.getD L 0=a;generalize w.getD (L-1) 0=b;have n:a*(P*18446744073709551616*18446744073709551616)=(a*P)*18446744073709551616*18446744073709551616:=by simp[ae8]
 have m:b*(P*18446744073709551616)=(b*P)*18446744073709551616:=by simp[ae8]
 have l:(a*18446744073709551616+b)*(18446744073709551616*P)=(a*P)*18446744073709551616*18446744073709551616+(b*P)*18446744073709551616:=by
  rw[ae7]
  congr 1
  ·rw[afj 18446744073709551616 P,ae8,<-ae8 18446744073709551616 P,afj 18446744073709551616 P];simp[ae8]
  rw[afj 18446744073709551616 P];simp[ae8]
 omega
def Oj(f:v.length=L)(g:2<=L):val v=v.getD (L-1) 0*(18446744073709551616*18446744073709551616^(L-2))+v.getD (L-2) 0*18446744073709551616^(L-2)+val (v.take<|L-2):=by
 have e:v.take L=v:=adM E;have a:=aI v<|L-1;have d:=aI v<|L-2;rw[show L-1+1=L from E,e]at a;rw[show L-2+1=L-1 from E]at d;have b:(18446744073709551616:Int)^(L-1)=18446744073709551616*18446744073709551616^(L-2):=by rw[afj,<-ae1];congr 1;omega
 rw[b]at a;omega
structure MS(w v:List Int)(L q i:Nat)(u:List Int)(carry borrow:Nat):Prop where
 len:u.length=L+1
 ZI:gX u
 same:∀k,i<=k->u.getD k 0=w.getD k 0
 c:carry<18446744073709551616
 b:borrow<=1
 eq:val (u.take i)+q*val (v.take i)=val (w.take i)+((carry:Int)+borrow)*18446744073709551616^i
def MS.start(h:w.length=L+1)(a:gX w):MS w v L q 0 w 0 0:=⟨h,a,λ_ _=>rfl,E,E,by simp[val]⟩
def split_mul{p:Nat}:(p%18446744073709551616+c)%18446744073709551616=(p+c)%18446744073709551616/\p/18446744073709551616+(p%18446744073709551616+c)/18446744073709551616=(p+c)/18446744073709551616:=by omega
def Et{x:Nat}(d:q<18446744073709551616)(b:x<18446744073709551616)(a:c<18446744073709551616):(q*x+c)/18446744073709551616<18446744073709551616:=by have:q*x<=18446744073709551615*18446744073709551615:=agr E E;omega
def MS.next{a b:Nat}(h:MS w v L q i u a b)(hi:i<L)(o:q<18446744073709551616)(ev:v.getD i 0=vi)(z:w.getD i 0=ui)(n:vi<18446744073709551616)(hu:ui<18446744073709551616):
 MS w v L q (i+1) (u.set i ((ui+18446744073709551616-(q*vi+a)%18446744073709551616-b)%18446744073709551616:Nat)) ((q*vi+a)/18446744073709551616) (if ui<(q*vi+a)%18446744073709551616+b then 1 else 0):=by
 obtain⟨y,x,s,p,M,K⟩:=h;have hc:=Et o n p;have hm:=aeV (q*vi+a) (show 0<18446744073709551616 from fh);have f:=afX (q*vi+a) 18446744073709551616;refine⟨by simp[y],eM x E,λk J=>?_,hc,by split<;>omega,?_⟩
 ·rw[cv,if_neg E];exact s k E
 rw[aI,eK<|adp _,cv,if_pos E,aI v,aI w,ev,z];have B:(q:Int)*(val (v.take i)+(vi:Int)*18446744073709551616^i)=q*val (v.take i)+((q*vi:Nat):Int)*18446744073709551616^i:=by rw[Int.mul_add,<-ae8,afn]
 rw[B,ae1];obtain⟨lo,l⟩:∃lo,lo=(q*vi+a)%18446744073709551616:=⟨_,W⟩;obtain⟨d,m⟩:∃d,d=(q*vi+a)/18446744073709551616:=⟨_,W⟩;rw[<-l]at hm f⊢;rw[<-m]at f hc⊢;obtain⟨e,g⟩:∃e,e=if ui<lo+b then 1 else 0:=⟨_,W⟩;rw[<-g];have j:(((ui+18446744073709551616-lo-b)%18446744073709551616:Nat):Int)=(ui:Int)-lo-b+18446744073709551616*e:=by rw[g];split<;>omega
 rw[j];have A:((q*vi:Nat):Int)=(lo:Int)+18446744073709551616*d-a:=E;rw[A];generalize (18446744073709551616:Int)^i=P at*;have H:((a:Int)+b)*P=a*P+b*P:=ae7 ..;have F:((ui:Int)-lo-b+18446744073709551616*e)*P=ui*P-lo*P-b*P+18446744073709551616*(e*P):=by rw[ae7,afH,afH,ae8]
 have D:((lo:Int)+18446744073709551616*d-a)*P=lo*P+18446744073709551616*(d*P)-a*P:=by rw[afH,ae7,ae8]
 have C:((d:Int)+e)*(P*18446744073709551616)=18446744073709551616*(d*P)+18446744073709551616*(e*P):=by rw[afj P,<-ae8,afj _ 18446744073709551616,ae8,ae7,Int.mul_add]
 omega
def MS.last{b a:Nat}(h:MS w v L q L u b a)(B:w.length=L+1)(C:v.length=L)(o:w.getD L 0=ui)(hu:ui<18446744073709551616):
 (u.set L ((ui+18446744073709551616-b-a)%18446744073709551616:Nat)).length=L+1/\gX (u.set L ((ui+18446744073709551616-b-a)%18446744073709551616:Nat))/\
   val (u.set L ((ui+18446744073709551616-b-a)%18446744073709551616:Nat))+q*val v=val w+((if ui<b+a then 1 else 0:Nat):Int)*18446744073709551616^(L+1):=by
 obtain⟨g,n,H,F,D,m⟩:=h;refine⟨by simp[g],eM n E,?_⟩;obtain⟨x,l⟩:∃x,x=(ui+18446744073709551616-b-a)%18446744073709551616:=⟨_,W⟩;rw[<-l];have s:(u.set L (x:Int)).take (L+1)=u.set L (x:Int):=adM (by simp[g]);have j:=aI (u.set L (x:Int)) L;rw[s,eK .refl,cv,if_pos E]at j;have p:=aI w L;rw[adM E,o]at p;rw[adM<|show v.length<=L from E]at m;rw[j,ae1];obtain⟨d,e⟩:∃d:Nat,d=if ui<b+a then 1 else 0:=⟨_,W⟩;rw[<-e];have f:(x:Int)=(ui:Int)-b-a+18446744073709551616*d:=by rw[e];split<;>omega
 rw[f];generalize (18446744073709551616:Int)^L=P at*;have A:((b:Int)+a)*P=b*P+a*P:=ae7 ..;have z:((ui:Int)-b-a+18446744073709551616*d)*P=ui*P-b*P-a*P+18446744073709551616*(d*P):=by rw[ae7,afH,afH,ae8]
 have y:(d:Int)*(P*18446744073709551616)=18446744073709551616*(d*P):=by rw[afj P,<-ae8,afj _ 18446744073709551616,ae8]
 omega
structure AB(u2 v:List Int)(L i:Nat)(u:List Int)(c:Nat):Prop where
 len:u.length=L+1
 ZI:gX u
 same:∀k,i<=k->u.getD k 0=u2.getD k 0
 hc:c<=1
 eq:val (u.take i)+(c:Int)*18446744073709551616^i=val (u2.take i)+val (v.take i)
def AB.start(h:w.length=L+1)(a:gX w):AB w v L 0 w 0:=⟨h,a,λ_ _=>rfl,E,by simp[val]⟩
def AB.next{u2:List Int}(h:AB u2 v L i u c)(hi:i<L)(ev:v.getD i 0=vi)(l:u2.getD i 0=ui)(o:vi<18446744073709551616)(hu:ui<18446744073709551616):
 AB u2 v L (i+1) (u.set i ((ui+vi+c)%18446744073709551616:Nat)) ((ui+vi+c)/18446744073709551616):=by
 obtain⟨j,g,f,x,s⟩:=h;refine⟨by simp[j],eM g E,λk p=>?_,E,?_⟩
 ·rw[cv,if_neg E];exact f k E
 rw[aI,eK .refl,cv,if_pos E,aI v,aI u2,ev,l,ae1];obtain⟨lo,d⟩:∃lo,lo=(ui+vi+c)%18446744073709551616:=⟨_,W⟩;obtain⟨a,e⟩:∃a,a=(ui+vi+c)/18446744073709551616:=⟨_,W⟩;rw[<-d,<-e];have b:(lo:Int)=(ui:Int)+vi+c-18446744073709551616*a:=E;rw[b];generalize (18446744073709551616:Int)^i=P at*;have n:((ui:Int)+vi+c-18446744073709551616*a)*P=ui*P+vi*P+c*P-18446744073709551616*(a*P):=by rw[afH,ae7,ae7,ae8]
 have m:(a:Int)*(P*18446744073709551616)=18446744073709551616*(a*P):=by rw[afj P,<-ae8,afj _ 18446744073709551616,ae8]
 omega
def AB.last{u2:List Int}(h:AB u2 v L L u c)(y:u2.length=L+1)(z:v.length=L)(m:u2.getD L 0=ui):
 (u.set L ((ui+c)%18446744073709551616:Nat)).length=L+1/\gX (u.set L ((ui+c)%18446744073709551616:Nat))/\
   val (u.set L ((ui+c)%18446744073709551616:Nat))+(((ui+c)/18446744073709551616:Nat):Int)*18446744073709551616^(L+1)=val u2+val v:=by
 obtain⟨e,l,B,A,j⟩:=h;refine⟨by simp[e],eM l E,?_⟩;obtain⟨x,g⟩:∃x,x=(ui+c)%18446744073709551616:=⟨_,W⟩;obtain⟨a,d⟩:∃a,a=(ui+c)/18446744073709551616:=⟨_,W⟩;rw[<-g,<-d];have o:(u.set L (x:Int)).take (L+1)=u.set L (x:Int):=adM (by simp[e]);have f:=aI (u.set L (x:Int)) L;rw[o,eK .refl,cv,if_pos E]at f;have n:=aI u2 L;rw[adM E,m]at n;rw[adM<|show v.length<=L from E]at j;rw[f,ae1];have b:(x:Int)=(ui:Int)+c-18446744073709551616*a:=E;rw[b];generalize (18446744073709551616:Int)^L=P at*;have s:((ui:Int)+c-18446744073709551616*a)*P=ui*P+c*P-18446744073709551616*(a*P):=by rw[afH,ae7,ae8]
 have p:(a:Int)*(P*18446744073709551616)=18446744073709551616*(a*P):=by rw[afj P,<-ae8,afj _ 18446744073709551616,ae8]
 omega
def HA(hl:u.length=L+1)(b:gX u)(h:val u+q*V=(U:Int))(d:(U:Int)<((q:Int)+1)*V):u=fx (L+1) (U%V)/\U/V=q:=by
 have g:=bm b;rw[ae7]at d;have a:(val u).toNat<V:=E;have e:U=(val u).toNat+V*q:=by
  have:((V*q:Nat):Int)=(q:Int)*V:=by rw[afn,afj]
  omega
 have j:U%V=(val u).toNat:=by rw[e,ahO,afy a]
 have f:U/V=q:=by rw[e,agL _ _ E,afw a,af7]
 refine⟨?_,f⟩;rw[<-hl];exact MU b E
def NU{u2:List Int}{cy:Nat}(hl:u.length=L+1)(f:gX u)(a:u2.length=L+1)(b:gX u2)(h:val u2+q*V=(U:Int)+18446744073709551616^(L+1))(o:(V:Int)<18446744073709551616^(L+1))
 (l:((q:Int)-1)*V<=U)(s:val u+(cy:Int)*18446744073709551616^(L+1)=val u2+V)(j:cy<=1):u=fx (L+1) (U%V)/\U/V=q-1/\1<=q:=by
 have n:=ic f;have m:=ic b;rw[hl]at n;rw[a]at m;rw[afH]at l;have g:1<=q:=by
  rcases afd q with e|e
  ·subst e;omega
  exact e
 obtain⟨p,rfl⟩:∃p,q=p+1:=⟨q-1,E⟩;have x:(((p+1:Nat):Int))*V=(p:Int)*V+V:=by rw[ag4,ae7];simp
 have d:cy=1:=by
  rcases aeQ cy 1 with e|e
  ·have:cy=0:=E;subst this;omega
  omega
 subst d;have:=HA (u:=u) (L:=L) (U:=U) (V:=V) (q:=p) hl f E (by rw[ae7];omega);simp_all
end
end Go.Ai.eE
namespace Go.Ai.eE
open Go.Proofs Go.Ai
def Wg{a u1 u2 v1 v2 P c b:Int}(j:0<P)(l:0<=u1)(d:0<=u2)(i:0<=c)(k:0<=v2/\v2<18446744073709551616)(f:0<=b/\b<P)
 (h:(a*18446744073709551616+u1)*(18446744073709551616*P)+u2*P+c<18446744073709551616*(v1*(18446744073709551616*P)+v2*P+b)):a<=v1:=by
 rcases agD v1 a with g|g
 ·have o:(v1*18446744073709551616+18446744073709551616)*(18446744073709551616*P)<=(a*18446744073709551616+u1)*(18446744073709551616*P):=af4 E E;have e:(v2+1)*P<=18446744073709551616*P:=af4 E E;have n:0<=u2*P:=afs d E;rw[ae7]at e;have m:(v1*18446744073709551616+18446744073709551616)*(18446744073709551616*P)=18446744073709551616*(v1*(18446744073709551616*P))+18446744073709551616*(18446744073709551616*P):=by
   rw[ae7,afj v1,ae8]
  omega
 exact g
def Wf{t a u2 v1 v2 P c b:Int}(d:0<P)(j:0<=t)(l:0<=u2/\u2<18446744073709551616)(k:c<P)(e:0<=v2)(i:0<=b)(h:a<(t+1)*v1):
 a*(18446744073709551616*P)+u2*P+c<(t+1)*(v1*(18446744073709551616*P)+v2*P+b):=by
 have g:(a+1)*(18446744073709551616*P)<=((t+1)*v1)*(18446744073709551616*P):=af4 E E;have f:(u2+1)*P<=18446744073709551616*P:=af4 E E;have n:0<=(t+1)*(v2*P+b):=afs E (by have:=afs e<|afh d;omega);have m:(t+1)*(v1*(18446744073709551616*P)+v2*P+b)=((t+1)*v1)*(18446744073709551616*P)+(t+1)*(v2*P+b):=by rw[Int.add_assoc,Int.mul_add,ae8]
 rw[ae7]at g f;omega
theorem qg(pre w post:List Int)(V:Nat)(hw:w.length=(ae V).length+1)(hwd:gX w)(hL:2<=(ae V).length)(htop:9223372036854775808<=(ae V).getD ((ae V).length-1) 0)
 (hU:val w<18446744073709551616*(V:Int))(hsz:pre.length+w.length+post.length<2^50):
 lp Tryz.prog 334 [.ints .u64 true<|pre++w++post] [.bC 1000000 0 0 [.lZ 1 pre.length<|(ae V).length+1],.ints .u64 false<|ae V]
  [.ints .u64 true<|pre++fx ((ae V).length+1) ((val w).toNat%V)++post] (.n .u64 ((val w).toNat/V:Nat)):=by
 have hvd:=eC V;have hvV:=ai V;have hV0:0<V:=by
  rcases afd V with e|e
  ·subst e;rw[dm]at hL;simp at hL
  exact e
 generalize ae V=v at*;have hus:∀l:List Int,l.length=v.length+1->(pre++l++post).length=pre.length+(v.length+1)+post.length:=λl hl=>by simp[hl,agN]
 have nat:∀(l:List Int),gX l->∀i,∃x:Nat,l.getD i 0=x/\x<18446744073709551616:=λl hd i=>by have:=bf hd i;exact⟨(l.getD i 0).toNat,E,E⟩
 obtain⟨v1,ev1,hv1⟩:=nat v hvd<|v.length-1;obtain⟨v2,ev2,hv2⟩:=nat v hvd<|v.length-2;obtain⟨uL,euL,huL⟩:=nat w hwd v.length;obtain⟨u1,eu1,hu1⟩:=nat w hwd<|v.length-1;obtain⟨u2,eu2,hu2⟩:=nat w hwd<|v.length-2;have eL:(v.length:Int).toNat=v.length:=E;have eL1:((v.length:Int)-1).toNat=v.length-1:=E;have eL2:((v.length:Int)-2).toNat=v.length-2:=E;have hul:=hus w hw;have m0:(pre++w++post).getD (pre.length+v.length) 0=uL:=by rw[nX _ _ _ E,euL]
 have m1:(pre++w++post).getD (pre.length+(v.length-1)) 0=u1:=by rw[nX _ _ _ E,eu1]
 have m2:(pre++w++post).getD (pre.length+(v.length-2)) 0=u2:=by rw[nX _ _ _ E,eu2]
 obtain⟨P,hP⟩:∃P:Int,P=18446744073709551616^(v.length-2):=⟨_,W⟩;have hPp:0<P:=by rw[hP];exact dE _
 have pw:=Oi hw hL;have pv:=Oj W hL;rw[euL,eu1,eu2,<-hP]at pw;rw[ev1,ev2,hvV,<-hP]at pv;have hul0:=bm<|gA hwd<|v.length-2;have hul1:=ic<|gA hwd<|v.length-2;have hvl0:=bm<|gA hvd<|v.length-2;have hvl1:=ic<|gA hvd<|v.length-2;rw[afm,show min (v.length-2) w.length=v.length-2 from E,<-hP]at hul1;rw[afm,show min (v.length-2) v.length=v.length-2 from E,<-hP]at hvl1;have hv1b:9223372036854775808<=v1:=by rw[ev1]at htop;omega
 have htopU:∀t:Int,0<=t->(uL:Int)*18446744073709551616+u1<(t+1)*v1->val w<(t+1)*V:=by intro t ht h;have:=Wf hPp ht (show 0<=(u2:Int)/\(u2:Int)<18446744073709551616 from E) hul1 (show 0<=(v2:Int)from E) hvl0 h;rw[<-pw,<-pv]at this;exact this
 refine sE (fn:=Tryz.f334) Tryz.func334 W W W W W<|wR 5 (λt r:Nat=>[(0,.bC 1000000 0 0 [.lZ 1 pre.length<|v.length+1]),(1,.ints .u64 false v),(5,.i v.length),(6,.n .u64 t),(7,.n .u64 (r%18446744073709551616:Nat)),(8,.n .u64 (r/18446744073709551616:Nat)),(1000000,.ints .u64 true<|pre++w++post)])
  (λt r=>t<18446744073709551616/\r<2*18446744073709551616/\(t:Int)*v1+r=(uL:Int)*18446744073709551616+u1/\val w<((t:Int)+1)*V) ?_ λt r⟨ht,hr,htr,htV⟩=>?_
 ·refine k1 W aW ?_ ?_
  ·simp only[bo,and_true,eL,eL1,hul]<;>omega
  refine gb W ?_ ?_<;>intro hc
  ·rw[eL,eL1,m0,ev1]at hc;have hle:(uL:Int)<=v1:=Wg (u1:=u1) (u2:=u2) (v2:=v2) hPp E E hul0 E ⟨hvl0,hvl1⟩ (by rw[<-pw,<-pv];exact hU);have heq:uL=v1:=E;refine r1 W ?_ ?_
   ·simp only[bo,and_true,eL,eL1,hul]<;>omega
   refine VP (us:=[.n .u64 u1,.n .u64 v1,.n .u64 ((0:Nat):Int)]) W W trivial ⟨congrArg (SV.n .u64)<|by rw[eL1,m1],congrArg (SV.n .u64)<|by rw[eL1,ev1],W,trivial⟩ (fA u1 v1 0 fh) W<|k0 W aW<|il (18446744073709551615,u1+v1) ⟨E,E,?_,?_⟩
   ·dsimp only;omega
   dsimp only;exact hU
  rw[eL,eL1,m0,ev1]at hc;have hlt:uL<v1:=E;refine r1 W ?_ ?_
  ·simp only[bo,and_true,eL,eL1,hul]<;>omega
  refine VP (us:=[.n .u64 uL,.n .u64 u1,.n .u64 v1]) W W trivial ⟨congrArg (SV.n .u64)<|by rw[eL,m0],congrArg (SV.n .u64)<|by rw[eL1,m1],congrArg (SV.n .u64)<|by rw[eL1,ev1],trivial⟩ (zT uL u1 v1 hlt hv1 hu1) W<|k0 W aW ?_;have hdm:=afX (uL*18446744073709551616+u1) v1;have hml:=aeV (uL*18446744073709551616+u1) (show 0<v1 from E);have hdl:(uL*18446744073709551616+u1)/v1<18446744073709551616:=by rw[afx E];omega
  obtain⟨q,hq⟩:∃q,q=(uL*18446744073709551616+u1)/v1:=⟨_,W⟩;obtain⟨r,hr⟩:∃r,r=(uL*18446744073709551616+u1)%v1:=⟨_,W⟩;rw[<-hq,<-hr];rw[<-hq]at hdm hdl;rw[<-hr]at hdm hml;have hi:(q:Int)*v1+r=(uL:Int)*18446744073709551616+u1:=by
   have:((v1*q:Nat):Int)=(q:Int)*v1:=by rw[afn,afj]
   omega
  refine meet (q,r) ⟨hdl,by dsimp only;omega,hi,?_⟩ ⟨⟨W,W,W⟩,⟨W,W⟩,⟨W,W⟩,⟨W,W⟩,⟨W,congrArg (SV.n .u64)<|by dsimp only;omega⟩,⟨W,congrArg (SV.n .u64)<|by dsimp only;omega⟩,⟨W,W⟩,trivial⟩;dsimp only;refine htopU q E ?_;rw[ae7,agK];omega
 obtain⟨G,hG⟩:∃G,G=cZ (t:Int).toNat t r v1 v2 u2:=⟨_,W⟩;have hspec:=sx hPp (show(1:Int)<=v1 from E) (show 0<=(v2:Int)/\(v2:Int)<18446744073709551616 from E) (show 0<=(u2:Int)/\(u2:Int)<18446744073709551616 from E) ⟨hvl0,hvl1⟩ ⟨hul0,hul1⟩ pv pw hU (t:Int).toNat t r W E E htr htV;rw[<-hG]at hspec;refine CP 1 (λq:Nat=>[(0,.bC 1000000 0 0 [.lZ 1 pre.length<|v.length+1]),(1,.ints .u64 false v),(5,.i v.length),(6,.n .u64 q),(1000000,.ints .u64 true<|pre++w++post)]) (λq=>(q:Int)=G) ?_ λq hq=>?_
 ·refine r0 W<|kR (λt r:Nat=>[(0,.bC 1000000 0 0 [.lZ 1 pre.length<|v.length+1]),(1,.ints .u64 false v),(5,.i v.length),(6,.n .u64 t),(7,.n .u64 (r%18446744073709551616:Nat)),(8,.n .u64 (r/18446744073709551616:Nat)),(1000000,.ints .u64 true<|pre++w++post)])
   (λt r=>t<18446744073709551616/\r<2*18446744073709551616/\cZ (t:Int).toNat t r v1 v2 u2=G) (λt _=>t) t r ⟨ht,hr,hG.symm⟩
   ⟨⟨W,W,W⟩,⟨W,W⟩,⟨W,W⟩,⟨W,W⟩,⟨W,W⟩,⟨W,W⟩,⟨W,W⟩,trivial⟩ ?_
  rintro t r⟨ht,hr,hG⟩;have hrd:r/18446744073709551616=0↔r<18446744073709551616:=E;refine bQ W W ?_ ?_<;>intro hc
  ·have hrW:r<18446744073709551616:=E;have er:r%18446744073709551616=r:=E;have hst:∀(h:t*v2<=r*18446744073709551616+u2),(t:Int)=G:=by
    intro h;rw[<-hG];exact(I1 E (by have:((t*v2:Nat):Int)<=((r*18446744073709551616+u2:Nat):Int):=E;rw[afn]at this;omega)).symm
   refine r1 W ?_ ?_
   ·simp only[bo,and_true,eL2]<;>omega
   refine JJ (us:=[.n .u64 t,.n .u64 v2]) W W trivial ⟨W,congrArg (SV.n .u64)<|by rw[eL2,ev2],trivial⟩ (kg t v2 ht hv2) W<|r0 W ?_;have hmd:=afX (t*v2) 18446744073709551616;have hml:=aeV (t*v2) (show 0<18446744073709551616 from fh);obtain⟨hi,hhi⟩:∃hi,hi=t*v2/18446744073709551616:=⟨_,W⟩;obtain⟨lo,hlo⟩:∃lo,lo=t*v2%18446744073709551616:=⟨_,W⟩;rw[<-hhi,<-hlo];rw[<-hhi,<-hlo]at hmd;rw[<-hlo]at hml;rw[er];refine aC 78 W ?_ ?_<;>intro h
   ·refine r0 W<|il t<|hst E
   refine r0 W ?_;have hnx:r*18446744073709551616+u2<t*v2->1<=t/\cZ ((t-1:Nat):Int).toNat ((t-1:Nat):Int) ((r+v1:Nat):Int) v1 v2 u2=G:=by
    intro h;have h1:1<=t:=by
     rcases afd t with e|e
     ·subst e;simp at h
     exact e
    have h2:(r:Int)*18446744073709551616+u2<(t:Int)*v2:=by have:((r*18446744073709551616+u2:Nat):Int)<((t*v2:Nat):Int):=E;rw[afn t]at this;omega
    refine⟨h1,?_⟩;have e1:((t-1:Nat):Int)=(t:Int)-1:=E;have e2:((r+v1:Nat):Int)=(r:Int)+v1:=E;rw[e1,e2,<-hG];rcases agD ((r:Int)+v1) 18446744073709551616 with g|g
    ·exact(aaF E h2 g).symm
    rw[I3 E h2 g];exact zJ ⟨E,E⟩ g ⟨E,E⟩ E
   refine aC 82 W ?_ ?_<;>intro h2
   ·refine r1 W ?_ ?_
    ·simp only[bo,and_true,eL2,hul]<;>omega
    refine gb W ?_ ?_<;>intro h3
    ·rw[eL2,m2]at h3;refine r0 W<|il t<|hst E
    rw[eL2,m2]at h3;obtain⟨g1,g2⟩:=hnx E;refine r1 W ?_ ?_
    ·simp only[bo,and_true,eL1]<;>omega
    refine JJ (us:=[.n .u64 r,.n .u64 v1,.n .u64 ((0:Nat):Int)]) W W trivial ⟨W,congrArg (SV.n .u64)<|by rw[eL1,ev1],W,trivial⟩ (fA r v1 0 fh) W<|r0 W<|again (t-1,r+v1) (by dsimp only;omega) ⟨by dsimp only;omega,by dsimp only;omega,g2⟩ ⟨⟨W,W,W⟩,⟨W,W⟩,⟨W,W⟩,⟨W,congrArg (SV.n .u64)<|NT (b:=1) g1 ht⟩,⟨W,W⟩,⟨W,W⟩,⟨W,W⟩,trivial⟩
   obtain⟨g1,g2⟩:=hnx E;refine r1 W ?_ ?_
   ·simp only[bo,and_true,eL1]<;>omega
   refine JJ (us:=[.n .u64 r,.n .u64 v1,.n .u64 ((0:Nat):Int)]) W W trivial ⟨W,congrArg (SV.n .u64)<|by rw[eL1,ev1],W,trivial⟩ (fA r v1 0 fh) W<|r0 W<|again (t-1,r+v1) (by dsimp only;omega) ⟨by dsimp only;omega,by dsimp only;omega,g2⟩ ⟨⟨W,W,W⟩,⟨W,W⟩,⟨W,W⟩,⟨W,congrArg (SV.n .u64)<|NT (b:=1) g1 ht⟩,⟨W,W⟩,⟨W,W⟩,⟨W,W⟩,trivial⟩
  have:(t:Int)=G:=by rw[<-hG];exact(zJ ⟨E,E⟩ E ⟨E,E⟩ E).symm
  refine r0 W<|il t this
 have hqW:q<18446744073709551616:=E;rw[<-hq]at hspec;refine r0 W<|Yj (λ(i:Nat)(u:List Int)(c b:Nat)=>[(0,.bC 1000000 0 0 [.lZ 1 pre.length<|v.length+1]),(1,.ints .u64 false v),(5,.i v.length),(6,.n .u64 q),(11,.n .u64 b),(12,.n .u64 c),(104,.i v.length),(105,.i i),(1000000,.ints .u64 true<|pre++u++post)])
  (λi u c b=>i<=v.length/\MS w v v.length q i u c b) (λi _ _ _=>v.length-i) 0 w 0 0 ⟨adk _,MS.start hw hwd⟩
  ⟨⟨W,W,W⟩,⟨W,W⟩,⟨W,W⟩,⟨W,W⟩,⟨W,W⟩,⟨W,W⟩,⟨W,W⟩,⟨W,W⟩,⟨W,W⟩,trivial⟩ ?_
 rintro i u c b⟨hi,hM⟩;have ei:(i:Int).toNat=i:=E;have huu:=hus u hM.len;refine bQ W W (λhlt=>?_) (λhge=>?_)
 ·have hi':i<v.length:=E;obtain⟨vi,evi,hvi⟩:=nat v hvd i;obtain⟨ui,eui,hui⟩:=nat w hwd i;have mi:(pre++u++post).getD (pre.length+i) 0=ui:=by rw[nX _ _ _ (by have:=hM.len;omega),hM.same i<|adp _,eui]
  have hc:=hM.c;have hb:=hM.b;refine r1 W ?_ ?_
  ·simp only[bo,and_true,ei]<;>omega
  refine JJ (us:=[.n .u64 q,.n .u64 vi]) W W trivial ⟨W,congrArg (SV.n .u64)<|by rw[ei,evi],trivial⟩ (kg q vi hqW hvi) W<|bP W W (fA (q*vi%18446744073709551616) c 0 fh) W<|r1 W ?_ ?_
  ·simp only[bo,and_true,ei,huu]<;>omega
  obtain⟨k1,k2⟩:=split_mul (p:=q*vi) (c:=c);have hmb:=Et hqW hvi hc;refine JJ (us:=[.n .u64 ui,.n .u64 ((q*vi+c)%18446744073709551616:Nat),.n .u64 b]) W W trivial ⟨congrArg (SV.n .u64)<|by rw[ei,mi],congrArg (SV.n .u64)<|by rw[agQ,k1],W,trivial⟩ (pd ui ((q*vi+c)%18446744073709551616) b hb) W<|r1 W ?_ ?_
  ·simp only[bo,and_true,ei,huu]<;>omega
  refine again (i+1,u.set i ((ui+18446744073709551616-(q*vi+c)%18446744073709551616-b)%18446744073709551616:Nat),(q*vi+c)/18446744073709551616,(if ui<(q*vi+c)%18446744073709551616+b then 1 else 0)) (by dsimp only;omega)
   ⟨by dsimp only;omega,hM.next hi' hqW evi eui hvi hui⟩
   ⟨⟨W,W,W⟩,⟨W,W⟩,⟨W,W⟩,⟨W,W⟩,⟨W,W⟩,⟨W,congrArg (SV.n .u64)<|by rw[agQ,Ps E,k2]⟩,⟨W,W⟩,⟨W,W⟩,⟨W,congrArg (SV.ints .u64 true)<|by rw[ei,AH _ _ _ _ (by have:=hM.len;omega)]⟩,trivial⟩
 have:i=v.length:=E;subst this;have ml:(pre++u++post).getD (pre.length+v.length) 0=uL:=by rw[nX _ _ _ (by have:=hM.len;omega),hM.same _<|adp _,euL]
 have hc:=hM.c;have hb:=hM.b;obtain⟨l1,l2,l3⟩:=hM.last hw W euL huL;have hVW:(V:Int)<18446744073709551616^(v.length+1):=by have:=ic hvd;rw[hvV]at this;rw[ae1];have:=dE v.length;generalize (18446744073709551616:Int)^v.length=Q at*;omega
 have hU0:=bm hwd;have hUn:((val w).toNat:Int)=val w:=E;refine r1 W ?_ ?_
 ·simp only[bo,and_true,ei,huu]<;>omega
 refine JJ (us:=[.n .u64 uL,.n .u64 c,.n .u64 b]) W W trivial ⟨congrArg (SV.n .u64)<|by rw[ei,ml],W,W,trivial⟩ (pd uL c b hb) W<|r1 W ?_ ?_
 ·simp only[bo,and_true,ei,huu]<;>omega
 rw[ei,AH _ _ _ _ (by have:=hM.len;omega)];obtain⟨u2',hu2'⟩:∃z,z=u.set v.length ((uL+18446744073709551616-c-b)%18446744073709551616:Nat):=⟨_,W⟩;rw[<-hu2']at l1 l2 l3⊢;obtain⟨bb,hbb⟩:∃z:Nat,z=if uL<c+b then 1 else 0:=⟨_,W⟩;rw[<-hbb]at l3⊢;have hbb1:bb<=1:=by rw[hbb];split<;>omega
 refine gb W ?_ ?_<;>intro hz
 ·have hz0:bb=0:=E;subst hz0;have hfit:=HA (U:=(val w).toNat) (V:=V) (q:=q) l1 l2 (by rw[<-hvV,l3,hUn];simp) (by rw[hUn];exact hspec.1);refine r0 W<|SN [(4,.n .u64 q),(1000000,.ints .u64 true<|pre++u2'++post)] ⟨⟨W,W,.le W⟩,⟨W,W,.le W⟩,trivial⟩ W ?_ ⟨⟨?_,W⟩,trivial⟩
  ·exact congrArg (SV.n .u64) (by rw[hfit.2])
  exact congrArg (SV.ints .u64 true) (by rw[<-hfit.1])
 have hz1:bb=1:=E;subst hz1;refine r0 W<|oB (λ(i:Nat)(u:List Int)(c:Nat)=>[(0,.bC 1000000 0 0 [.lZ 1 pre.length<|v.length+1]),(1,.ints .u64 false v),(5,.i v.length),(6,.n .u64 q),(17,.n .u64 c),(156,.i v.length),(157,.i i),(1000000,.ints .u64 true<|pre++u++post)])
  (λi u c=>i<=v.length/\AB u2' v v.length i u c) (λi _ _=>v.length-i) 0 u2' 0 ⟨adk _,AB.start l1 l2⟩
  ⟨⟨W,W,W⟩,⟨W,W⟩,⟨W,W⟩,⟨W,W⟩,⟨W,W⟩,⟨W,W⟩,⟨W,W⟩,⟨W,W⟩,trivial⟩ ?_
 clear hM huu hu2' ml;rintro i u c⟨hi,hM⟩;have ei:(i:Int).toNat=i:=E;have huu:=hus u hM.len;refine bQ W W (λhlt=>?_) (λhge=>?_)
 ·have hi':i<v.length:=E;obtain⟨vi,evi,hvi⟩:=nat v hvd i;obtain⟨ui,eui,hui⟩:=nat u2' l2 i;have mi:(pre++u++post).getD (pre.length+i) 0=ui:=by rw[nX _ _ _ (by have:=hM.len;omega),hM.same i<|adp _,eui]
  have hc:=hM.hc;refine r1 W ?_ ?_
  ·simp only[bo,and_true,ei,huu]<;>omega
  refine VP (us:=[.n .u64 ui,.n .u64 vi,.n .u64 c]) W W trivial ⟨congrArg (SV.n .u64)<|by rw[ei,mi],congrArg (SV.n .u64)<|by rw[ei,evi],W,trivial⟩ (fA ui vi c hc) W<|k1 W aW ?_ ?_
  ·simp only[bo,and_true,ei,huu]<;>omega
  refine again (i+1,u.set i ((ui+vi+c)%18446744073709551616:Nat),(ui+vi+c)/18446744073709551616) (by dsimp only;omega)
   ⟨by dsimp only;omega,hM.next hi' evi eui hvi hui⟩
   ⟨⟨W,W,W⟩,⟨W,W⟩,⟨W,W⟩,⟨W,W⟩,⟨W,W⟩,⟨W,W⟩,⟨W,W⟩,⟨W,congrArg (SV.ints .u64 true)<|by rw[ei,AH _ _ _ _ (by have:=hM.len;omega)]⟩,trivial⟩
 have:i=v.length:=E;subst this;obtain⟨uu,euu,huu2⟩:=nat u2' l2 v.length;have ml:(pre++u++post).getD (pre.length+v.length) 0=uu:=by rw[nX _ _ _ (by have:=hM.len;omega),hM.same _<|adp _,euu]
 obtain⟨n1,n2,n3⟩:=hM.last l1 W euu;have hc:=hM.hc;have hbk:=NU (U:=(val w).toNat) (V:=V) (q:=q) (cy:=(uu+c)/18446744073709551616) n1 n2 l1 l2 (by rw[<-hvV,l3,hUn];simp) hVW (by rw[hUn];exact hspec.2.1) (by rw[n3,hvV]) E;refine r1 W ?_ ?_
 ·simp only[bo,and_true,ei,huu]<;>omega
 have es:(pre++u++post).set (pre.length+v.length) (IntKind.u64.wrap<|(uu:Int)+(c:Int))=pre++fx (v.length+1) ((val w).toNat%V)++post:=by rw[AH _ _ _ _ (by have:=hM.len;omega),<-ag4,XA,hbk.1]
 rw[ei,ml,es];refine SN [(4,.n .u64 (q-1:Nat)),(1000000,.ints .u64 true<|pre++fx (v.length+1) ((val w).toNat%V)++post)] ⟨⟨W,W,.le ?_⟩,⟨W,W,.le W⟩,trivial⟩ W ?_ ⟨⟨W,W⟩,trivial⟩
 ·exact congrArg (SV.n .u64)<|NT (b:=1) hbk.2.2 hqW
 exact congrArg (SV.n .u64) (by rw[hbk.2.1])
section
variable{k m n v:Nat}
def kn:∀(a b v:Nat),fx (a+b) v=fx a v++fx b (v/18446744073709551616^a)
 |0,b,v=>by simp[fx]
 |a+1,b,v=>by rw[show a+1+b=(a+b)+1 from E];simp[fx];rw[kn a b,agu,afu,aeO 18446744073709551616]
def uW:∀(j v:Nat),fx j (v%18446744073709551616^j)=fx j v
 |0,v=>rfl
 |j+1,v=>by simp only[fx];rw[afu,aeO,Nat.mod_mul_right_div_self,uW j,Nat.mod_mod_of_dvd _<|Nat.dvd_mul_right _ _]
def Gz(j v x:Nat):fx j (v+18446744073709551616^j*x)=fx j v:=by rw[<-uW,ahO,uW]
def Gx:∀k:Nat,fx k 0=List.replicate k 0
 |0=>rfl
 |k+1=>by simp[fx,Gx k];rfl
def wG:∀{m v j:Nat},j<m->(fx m v).getD j 0=((v/18446744073709551616^j%18446744073709551616:Nat):Int)
 |m+1,v,0,h=>by simp[fx]
 |m+1,v,j+1,h=>by simp only[fx,aix];rw[wG E,agu,afu,aeO 18446744073709551616]
def Ry{j d:Nat}(h:j<m)(b:d<18446744073709551616):(fx m v).set j d=fx m (v%18446744073709551616^j+18446744073709551616^j*(d+18446744073709551616*(v/18446744073709551616^(j+1)))):=by
 obtain⟨r,rfl⟩:∃r,m=j+(r+1):=⟨m-j-1,E⟩;have a:0<18446744073709551616^j:=afe fh;rw[kn j<|r+1,kn j<|r+1,Gz,uW,aif _ _<|by rw[fL];omega,fL,agY]
 congr 1
 rw[agL _ _ a,afw<|aeV _ a];simp only[fx,List.set_cons_zero];rw[agu,<-afu];generalize v/18446744073709551616^(j+1)=y
 congr 1
 ·omega
 congr 1;omega
def Ut(h:n<=m):(fx m v).take n=fx n v:=by obtain⟨r,rfl⟩:∃r,m=n+r:=⟨m-n,E⟩;rw[kn,ahy<|by rw[fL];exact adp _,adM<|by rw[fL];exact adp _]
def Nd(v:Nat):ae v=fx (ae v).length v:=MU (eC v)<|ai v
def l9(n:Nat):n<18446744073709551616^(ae n).length:=by
 have h:=cw n;have e:((18446744073709551616^(ae n).length:Nat):Int)=18446744073709551616^(ae n).length:=by rw[agI];rfl
 omega
def Nc(hn:0<n):18446744073709551616^((ae n).length-1)<=n:=by
 rcases gw n with h|h
 ·have:=iF (n:=n) E;rw[h]at this;cases this
 have e:((18446744073709551616^((ae n).length-1):Nat):Int)=18446744073709551616^((ae n).length-1):=by rw[agI];rfl
 omega
def Jv{X L:Nat}(d:18446744073709551616^L<=X)(e:X<18446744073709551616^(L+1)):(ae X).length=L+1:=by
 have c:=ae3 (afe fh) d;have a:=l9 X;have b:=Nc c;rcases aim (ae X).length (L+1)with g|g|g
 ·have:=ae2 (show 0<18446744073709551616 from fh) (show(ae X).length<=L from E);omega
 ·exact g
 have:=ae2 (show 0<18446744073709551616 from fh) (show L+1<=(ae X).length-1 from E);omega
def wF(h:v<18446744073709551616^k):cW (fx k v)=ae v:=by
 apply Us;have e:((18446744073709551616^k:Nat):Int)=18446744073709551616^k:=by rw[agI];rfl
 omega
def S6(h:v<18446744073709551616^k):val (fx k v)=v:=by
 apply PH;have e:((18446744073709551616^k:Nat):Int)=18446744073709551616^k:=by rw[agI];rfl
 omega
def PN{B x s:Nat}(F:0<B)(q:(ae B).getD ((ae B).length-1) 0=x)(hs:s=64-bl x):
 s<64/\bl x<=64/\9223372036854775808*18446744073709551616^((ae B).length-1)<=B*2^s/\B*2^s<18446744073709551616^(ae B).length:=by
 obtain⟨c,j⟩:=Me (A:=B) E;rw[q,afk]at c;have D:=iF (n:=B) E;have a:=l9 B;obtain⟨Q,d⟩:∃Q,Q=18446744073709551616^((ae B).length-1):=⟨_,W⟩;have w:2^(64*((ae B).length-1))=Q:=by rw[d,agn]
 have u:18446744073709551616^(ae B).length=18446744073709551616*Q:=by rw[d,aeO,<-afu];congr 1;omega
 rw[w]at c j;rw[u]at a⊢;rw[<-d];have b:0<Q:=by rw[d];exact afe fh
 have f:=afX B Q;have t:=aeV B b;rw[c]at f;have p:0<x:=by
  rcases afd x with g|g
  ·subst g;omega
  exact g
 have e:x<18446744073709551616:=by rw[<-c,afx b];exact a
 have H:=yD (x:=x) E;have C:=xe (x:=x) E;have z:=JU x;have y:=Xp e;have o:2^(bl x)*2^s=18446744073709551616:=by rw[<-afV];rw[show bl x+s=64 from E]
 have l:2^(bl x-1)*2^s=9223372036854775808:=by rw[<-afV];rw[show bl x-1+s=63 from E]
 have r:0<2^s:=afe fh;refine⟨E,y,?_,?_⟩
 ·have i:9223372036854775808*Q<=x*2^s*Q:=aeX _ (by rw[<-l];exact aeX _ C);have h:x*2^s*Q<=B*2^s:=by
   rw[afl,aeO<|2^s,<-afl];exact aeX _ (by rw[aeO];omega)
  exact ad0 i h
 have i:B*2^s<(x+1)*Q*2^s:=Nat.mul_lt_mul_of_pos_right (by rw[ae9,aeO x];omega) r;have h:(x+1)*Q*2^s<=18446744073709551616*Q:=by rw[afl,aeO Q,<-afl];exact aeX _ (by rw[<-o];exact aeX _ z)
 omega
end
def A3(k:Nat):0<18446744073709551616^k:=afe fh
def CH(A k:Nat):A/18446744073709551616^k=A/18446744073709551616^(k+1)*18446744073709551616+A/18446744073709551616^k%18446744073709551616:=by rw[afu,<-agu];omega
def xL(R x Y:Nat)(hY:0<Y):(R*18446744073709551616+x)/Y=R/Y*18446744073709551616+(R%Y*18446744073709551616+x)/Y/\(R*18446744073709551616+x)%Y=(R%Y*18446744073709551616+x)%Y:=by have:=A8 18446744073709551616 0 R x Y hY;simpa using this
def Jw{r x Y:Nat}(h:r<Y)(a:x<18446744073709551616):(r*18446744073709551616+x)/Y<18446744073709551616:=by rw[afx E];omega
def Qz{A V m j d:Nat}(c:0<V)(e:j<m)(b:d=(A/18446744073709551616^(j+1)%V*18446744073709551616+A/18446744073709551616^j%18446744073709551616)/V):
 (fx m<|A/18446744073709551616^(j+1)/V*18446744073709551616^(j+1)).set j d=fx m (A/18446744073709551616^j/V*18446744073709551616^j):=by
 have a:d<18446744073709551616:=by rw[b];exact Jw (aeV _ c)<|aeV _ fh
 rw[Ry e a,ah9 _<|A3<|j+1,afu,<-afl];have g:(A/(18446744073709551616^j*18446744073709551616)/V*18446744073709551616^j*18446744073709551616)%18446744073709551616^j=0:=by rw[afl,aeO<|18446744073709551616^j,<-afl];simp_all
 rw[g,af7];have f:=(xL (A/18446744073709551616^(j+1)) (A/18446744073709551616^j%18446744073709551616) V c).1;rw[<-CH,<-b,afu]at f;rw[aeO<|18446744073709551616^j]
 congr 2
 omega
def uk(A V k:Nat):Nat:=A%18446744073709551616^k+18446744073709551616^k*(A/18446744073709551616^k%V)
def S7(A V:Nat):uk A V 0=A%V:=by simp[uk,Nat.mod_one]
def Wc{A V k:Nat}(h:A/18446744073709551616^k<V):uk A V k=A:=by unfold uk;rw[afy h];exact afX _ _
def Md(A V k:Nat):uk A V (k+1)=A%18446744073709551616^k+18446744073709551616^k*(A/18446744073709551616^(k+1)%V*18446744073709551616+A/18446744073709551616^k%18446744073709551616):=by
 unfold uk;rw[Nat.mod_pow_succ,afu,agN,afl,<-ag2]
 congr 2
 omega
def Wd(A V k:Nat):uk A V (k+1)/18446744073709551616^k=A/18446744073709551616^(k+1)%V*18446744073709551616+A/18446744073709551616^k%18446744073709551616:=by rw[Md,agL _ _<|A3 k,afw<|aeV _<|A3 k,af7]
def S8(A V k:Nat):uk A V k/18446744073709551616^k=A/18446744073709551616^k%V:=by unfold uk;rw[agL _ _<|A3 k,afw<|aeV _<|A3 k,af7]
def Yv(A V k:Nat):fx k (uk A V k)=fx k A:=by unfold uk;rw[Gz,uW]
def W3(A V k:Nat):fx k (uk A V<|k+1)=fx k A:=by rw[Md,Gz,uW]
def CG(A V m j:Nat)(i:2<=(ae V).length)(b:9223372036854775808<=(ae V).getD ((ae V).length-1) 0)(hm:m<2^48)(u:j+(ae V).length+1<=m):
 lp Tryz.prog 334 [.ints .u64 true<|fx m<|uk A V<|j+1] [.bC 1000000 0 0 [.lZ 1 j<|(ae V).length+1],.ints .u64 false<|ae V]
  [.ints .u64 true<|fx m<|uk A V j] (.n .u64 ((A/18446744073709551616^(j+1)%V*18446744073709551616+A/18446744073709551616^j%18446744073709551616)/V:Nat)):=by
 have d:0<V:=by
  rcases afd V with e|e
  ·subst e;rw[dm]at i;cases i
  exact e
 obtain⟨n,hn⟩:∃n,n=(ae V).length:=⟨_,W⟩;have c:=l9 V;rw[<-hn]at c;obtain⟨r,o⟩:∃r,m=j+((n+1)+r):=⟨m-j-(n+1),E⟩;obtain⟨T,h⟩:∃T,T=A/18446744073709551616^(j+1)%V*18446744073709551616+A/18446744073709551616^j%18446744073709551616:=⟨_,W⟩;have p:=aeV (A/18446744073709551616^(j+1)) d;have g:T<V*18446744073709551616:=by omega
 have a:T<18446744073709551616^(n+1):=by exact ae3 g<|aeX _<|ago c
 have q:uk A V (j+1)/18446744073709551616^j=T:=by rw[Wd,h]
 have k:A/18446744073709551616^j%V=T%V:=by rw[h,<-(xL _ _ V d).2,<-CH]
 have f:T%V<18446744073709551616^(n+1):=af2 (Nat.mod_le _ _) a;have t:fx m (uk A V<|j+1)=fx j A++fx (n+1) T++fx r 0:=by rw[o,kn,kn,q,W3,afw a,aeZ]
 have s:fx m (uk A V j)=fx j A++fx (n+1) (T%V)++fx r 0:=by rw[o,kn,kn,S8,Yv,k,afw f,aeZ]
 have l:val (fx (n+1) T)=T:=S6 a;have:=qg (fx j A) (fx (n+1) T) (fx r 0) V (by rw[fL,hn]) (Lz _ _) i b (by rw[l];have:((T:Nat):Int)<((V*18446744073709551616:Nat):Int):=E;rw[afn]at this;omega) (by rw[fL,fL,fL];omega);rw[l,afk,fL,<-hn,<-s,<-t,h]at this;rw[<-hn];exact this
def sk(R s k:Nat):Nat:=R%18446744073709551616^k+18446744073709551616^k*(R*2^s/18446744073709551616^k)
def Tl(R s:Nat):sk R s 0=R*2^s:=by simp[sk,Nat.mod_one]
def P6(R s k:Nat):sk R s k/18446744073709551616^k=R*2^s/18446744073709551616^k:=by unfold sk;rw[agL _ _<|A3 k,afw<|aeV _<|A3 k,af7]
def Wl(R s k:Nat):sk R s k%18446744073709551616^k=R%18446744073709551616^k:=by unfold sk;rw[ahO,Nat.mod_mod]
def Mk(R s k:Nat):sk R s k/18446744073709551616^(k+1)=R*2^s/18446744073709551616^(k+1):=by rw[afu,<-agu,P6,agu]
def Yw(R s k:Nat):fx k (sk R s k)=fx k R:=by unfold sk;rw[Gz,uW]
def Mj{R s m k d:Nat}(b:k<m)(c:d=R/18446744073709551616^k%18446744073709551616):(fx m<|sk R s k).set k d=fx m (sk R s<|k+1):=by
 have a:d<18446744073709551616:=E;rw[Ry b a,Wl,Mk]
 conv=>rhs;unfold sk
 rw[Nat.mod_pow_succ,<-c,ag2,agN];rw[afu,afl]
def HL{R s k x y:Nat}(hs:s<64)(t:x=R*2^s/18446744073709551616^k%18446744073709551616)(e:y=R*2^s/18446744073709551616^(k+1)%18446744073709551616):
 (y*2^(64-s)%18446744073709551616)+x/2^s=R/18446744073709551616^k%18446744073709551616/\x/2^s<2^(64-s)/\y*2^(64-s)%18446744073709551616=y%2^s*2^(64-s):=by
 have b:0<2^s:=afe fh;have c:2^s*2^(64-s)=18446744073709551616:=by rw[<-afV];rw[show s+(64-s)=64 from E]
 obtain⟨Z,i⟩:∃Z,Z=R*2^s/18446744073709551616^k:=⟨_,W⟩;have l:R/18446744073709551616^k=Z/2^s:=by rw[i,agu,aeO<|18446744073709551616^k,<-agu,ah9 _ b]
 rw[afu,<-agu,<-i]at e;rw[l];obtain⟨a,d⟩:∃a,a=Z/18446744073709551616:=⟨_,W⟩;rw[<-d]at e;have n:Z=x+18446744073709551616*a:=E;have r:Z/2^s=x/2^s+2^(64-s)*a:=by rw[n,<-c,afl,agL _ _ b]
 have f:x/2^s<2^(64-s):=by rw[afx b,aeO];omega
 have j:y*2^(64-s)%18446744073709551616=y%2^s*2^(64-s):=by rw[<-c,ah8]
 have q:y%2^s=a%2^s:=by rw[e,<-c,Nat.mod_mul_right_mod]
 refine⟨?_,f,j⟩;rw[j,q,r];have p:=afX a<|2^s;have m:=aeV a b;have o:x/2^s+2^(64-s)*a=(a%2^s*2^(64-s)+x/2^s)+18446744073709551616*(a/2^s):=by
  conv=>lhs;rw[<-p]
  rw[ag2,<-afl,aeO (2^(64-s))<|2^s,c,aeO<|2^(64-s)];omega
 have h:(a%2^s+1)*2^(64-s)<=2^s*2^(64-s):=aeX _ m;rw[ae9]at h;have g:a%2^s*2^(64-s)+x/2^s<18446744073709551616:=E;rw[o,ahO,afy g]
theorem GN(A B:Nat)(hB:0<B)(hA:(ae A).length<2^40)(hBl:(ae B).length<2^40):
 aM Tryz.prog 303 [.ints .u64 false<|ae A,.ints .u64 false<|ae B] (.bW [.ints .u64 false<|ae<|A/B,.ints .u64 false<|ae<|A%B]):=by
 have hb0:=iF (n:=B) E;refine bS Tryz.func303 W<|bP W W (n8 A B E E) W<|bQ W W ?_ ?_<;>intro h
 ·have hlt:A<B:=by unfold oc at h;split at h<;>omega
  refine bK W W ⟨?_,ar.of_eq<|congrArg (SV.ints .u64 false) ?_,U⟩
  ·rw[afw hlt,dm];exact(rfl:([]:List Int)=[])
  rw[afy hlt]
 have hge:B<=A:=by unfold oc at h;split at h<;>omega
 have hlen:=length_le hge;refine bQ W W ?_ ?_<;>intro h1
 ·have hl1:(ae B).length=1:=E;have hA0:0<(ae A).length:=iF E;have hBW:B<18446744073709551616:=by have:=l9 B;rw[hl1]at this;simpa using this
  have eA:(((ae A).length:Nat):Int).toNat=(ae A).length:=E;have hbd:(ae B).getD 0 0=B:=by rw[tr hB hBW];rfl
  refine r1 W ba<|loop (λk:Nat=>[(0,.ints .u64 false<|ae A),(1,.ints .u64 false<|ae B),(6,.ints .u64 true<|fx (ae A).length<|A/18446744073709551616^k/B*18446744073709551616^k),(7,.n .u64 (A/18446744073709551616^k%B:Nat)),(8,.i<|(k:Int)-1)])
   (λk=>k<=(ae A).length) (λk=>k) (ae A).length (adp _) ⟨G,G,⟨W,ar.of_eq<|congrArg (SV.ints .u64 true) ?_⟩,⟨W,ar.of_eq<|congrArg (SV.n .u64) ?_⟩,G,U⟩ ?_
  ·rw[eA,afw<|l9 A,Nat.zero_div,Nat.zero_mul,Gx]
  ·rw[afw<|l9 A,Nat.zero_mod];rfl
  intro k hk;refine bQ W W ?_ ?_<;>intro h
  ·obtain⟨j,rfl⟩:∃j,k=j+1:=⟨k-1,E⟩;have ej:(((j+1:Nat):Int)-1).toNat=j:=E;have hx:(ae A).getD j 0=((A/18446744073709551616^j%18446744073709551616:Nat):Int):=by
    rw[Nd A];exact wG E
   have hr:=aeV (A/18446744073709551616^(j+1)) hB;refine k1 W aW ?_ ?_
   ·simp only[bo,and_true,ej]<;>omega
   have hd:=Jw hr<|aeV (A/18446744073709551616^j)<|show 0<18446744073709551616 from fh;refine VP (us:=[.n .u64 (A/18446744073709551616^(j+1)%B:Nat),.n .u64 (A/18446744073709551616^j%18446744073709551616:Nat),.n .u64 B]) W W U ⟨W,congrArg (SV.n .u64)<|by rw[ej,hx],congrArg (SV.n .u64) hbd,U⟩
    (zT _ _ B hr hBW<|aeV _ fh) W<|k1 W aW ?_ ?_
   ·simp only[bo,and_true,ej,fL]<;>omega
   refine again j E E ⟨G,G,⟨W,ar.of_eq<|congrArg (SV.ints .u64 true) ?_⟩,⟨W,ar.of_eq<|congrArg (SV.n .u64) ?_⟩,⟨W,ar.of_eq<|congrArg (SV.n .i64) ?_⟩,U⟩
   ·rw[ej];exact Qz hB E W
   ·rw[<-(xL _ _ B hB).2,<-CH]
   omega
  have hk0:k=0:=E;subst hk0;rw[Nat.pow_zero,Nat.div_one,Nat.mul_one];have hm:=aeV A hB;refine bP W W (dw (fx (ae A).length<|A/B)<|by rw[fL];omega) W ?_;refine r0 W<|JJ (us:=[.ints .u64 false [((A%B:Nat):Int)]]) W W U ⟨ar.of_eq W,U⟩ (dw [((A%B:Nat):Int)] I) W<|bK W W ⟨ar.of_eq<|congrArg (SV.ints .u64 false) ?_,ar.of_eq<|congrArg (SV.ints .u64 false) ?_,U⟩
  ·exact wF<|af2 (agF _ _)<|l9 A
  rw[ee λd hd=>by simp at hd;omega];generalize A%B=r;simp[val]
 obtain⟨x,hx,hxW⟩:=mw B<|(ae B).length-1;obtain⟨s,hs⟩:∃s,s=64-bl x:=⟨_,W⟩;obtain⟨n1,n2,n3,n4⟩:=PN hB hx hs;have es:(64:Int)-(bl x:Int)=(s:Int):=E;have eL1:(((ae B).length:Int)-1).toNat=(ae B).length-1:=E;have hl2:(ae B).length=(ae B).length-2+2:=E;obtain⟨V,hV⟩:∃V,V=B*2^s:=⟨_,W⟩;obtain⟨X,hX⟩:∃X,X=A*2^s:=⟨_,W⟩;have hp2:0<2^s:=afe fh;have hVB:X/V=A/B/\X%V=A%B*2^s:=by rw[hX,hV];exact⟨ah7 _ _ hp2,ah8 _ _ _⟩
 rw[<-hV]at n3 n4;have hVlen:(ae V).length=(ae B).length:=by
  have:=Jv (X:=V) (L:=(ae B).length-1) (by have:=A3<|(ae B).length-1;generalize 18446744073709551616^((ae B).length-1)=Q at*;omega) (by rw[show(ae B).length-1+1=(ae B).length from E];exact n4)
  omega
 have hVtop:9223372036854775808<=(ae V).getD ((ae V).length-1) 0:=by
  rw[hVlen];have e:=wG (m:=(ae B).length) (v:=V) (j:=(ae B).length-1) E;rw[<-hVlen,<-Nd,hVlen]at e;rw[e];have hq:=A3<|(ae B).length-1;have h1:9223372036854775808<=V/18446744073709551616^((ae B).length-1):=by rw[ail hq];exact n3
  have h2:V/18446744073709551616^((ae B).length-1)<18446744073709551616:=by rw[afx hq,aeO,<-afu];rw[Nat.succ_eq_add_one,show(ae B).length-1+1=(ae B).length from E];exact n4
  generalize V/18446744073709551616^((ae B).length-1)=t at*;omega
 have hV0:0<V:=by rw[hV];exact ahd hB hp2
 have htk:X/18446744073709551616^((ae A).length-(ae B).length+1)<V:=by
  rw[afx<|A3 _];have h1:X<18446744073709551616^(ae A).length*2^s:=by rw[hX];exact Nat.mul_lt_mul_of_pos_right (l9 A) hp2
  have h2:18446744073709551616^(ae A).length=18446744073709551616^((ae B).length-1)*18446744073709551616^((ae A).length-(ae B).length+1):=by rw[<-afV];congr 1;omega
  have h3:2^s<=9223372036854775808:=by have:=ae2 (show 0<2 from fh) (show s<=63 from E);exact this
  have h4:2^s*18446744073709551616^((ae B).length-1)<=V:=ad0 (aeX _ h3) n3;have h5:=aeX (18446744073709551616^((ae A).length-(ae B).length+1)) h4;have h6:18446744073709551616^(ae A).length*2^s=2^s*18446744073709551616^((ae B).length-1)*18446744073709551616^((ae A).length-(ae B).length+1):=by rw[h2,aeO,<-afl]
  rw[h6]at h1;exact ae3 h1 h5
 refine r1 W (by simp only[bo,and_true,eL1]<;>omega) ?_;refine JJ (us:=[.n .u64 x]) W W U ⟨congrArg (SV.n .u64)<|by rw[eL1,hx],U⟩ (B2 x hxW) W ?_;rw[es];refine bP W W (tY B s n1 hBl) W<|bP W W (dw (fx ((ae B).length+1)<|B*2^s)<|by rw[fL];omega) W ?_;rw[<-hV,wF (show V<18446744073709551616^((ae B).length+1) by rw[afu];generalize 18446744073709551616^(ae B).length=Q at*;omega)]
 refine bP W W (tY A s n1 hA) W ?_;rw[<-hX];refine r1 W ba ?_;rw[hVlen];have c1:(((ae A).length:Int)-((ae B).length:Int)+1).toNat=(ae A).length-(ae B).length+1:=E;refine loop (λk:Nat=>[(9,.i s),(10,.ints .u64 false<|ae V),(11,.ints .u64 true<|fx ((ae A).length+1)<|uk X V k),(12,.i (ae B).length),(13,.ints .u64 true<|fx ((ae A).length-(ae B).length+1)<|X/18446744073709551616^k/V*18446744073709551616^k),(14,.i<|(k:Int)-1)])
  (λk=>k<=(ae A).length-(ae B).length+1) (λk=>k) ((ae A).length-(ae B).length+1) (adp _) ⟨G,G,⟨W,ar.of_eq<|congrArg (SV.ints .u64 true) ?_⟩,G,⟨W,ar.of_eq<|congrArg (SV.ints .u64 true) ?_⟩,⟨W,ar.of_eq<|congrArg (SV.n .i64) ?_⟩,U⟩ ?_
 ·rw[Wc htk]
 ·rw[c1,afw htk,Nat.zero_mul,Gx]
 ·omega
 intro k hk;refine bQ W W ?_ ?_<;>intro h
 ·obtain⟨j,rfl⟩:∃j,k=j+1:=⟨k-1,E⟩;have ej:(((j+1:Nat):Int)-1)=(j:Int):=E;rw[ej];refine Qr 12 W ba<|wn W W ?_ ?_
  ·simp only[bo,app,and_true,fL]<;>omega
  refine r0 W<|cr W W (lp.same (CG X V ((ae A).length+1) j E hVtop E E) W ?_ W W) W ?_
  ·show aB [_,_]=aB [SV.bC 1000000 0 0 [Step.lZ 1 (j:Int).toNat<|((j:Int)+((ae B).length:Int)+1).toNat-(j:Int).toNat],SV.ints IntKind.u64 false<|ae V];rw[show(((j:Int)+((ae B).length:Int)+1).toNat-(j:Int).toNat)=(ae V).length+1 from E,afk]
  refine r1 W (by simp only[bo,and_true,fL]<;>omega) ?_;refine again j E E ⟨G,G,G,G,⟨W,ar.of_eq<|congrArg (SV.ints .u64 true) ?_⟩,G,U⟩;rw[afk];exact Qz hV0 E W
 have hk0:k=0:=E;subst hk0;rw[Nat.pow_zero,Nat.div_one,Nat.mul_one,S7,hVB.1,hVB.2];have hRB:=aeV A hB;refine bM W (λk:Nat=>[(9,.i s),(11,.ints .u64 true<|fx ((ae A).length+1)<|sk (A%B) s k),(12,.i (ae B).length),(13,.ints .u64 true<|fx ((ae A).length-(ae B).length+1)<|A/B),(96,.i (ae B).length),(97,.i k)])
  (λk=>k<=(ae B).length) (λk=>(ae B).length-k) 0 (adk _) ⟨G,⟨W,ar.of_eq<|congrArg (SV.ints .u64 true)<|by rw[Tl]⟩,G,G,G,G,U⟩ ?_
 intro k hk;have ek:(k:Int).toNat=k:=E;refine bQ W W ?_ ?_<;>intro h
 ·obtain⟨x,hx⟩:∃x,x=A%B*2^s/18446744073709551616^k%18446744073709551616:=⟨_,W⟩;obtain⟨y,hy⟩:∃y,y=A%B*2^s/18446744073709551616^(k+1)%18446744073709551616:=⟨_,W⟩;obtain⟨d1,d2,d3⟩:=HL n1 hx hy;have gx:(fx ((ae A).length+1)<|sk (A%B) s k).getD k 0=x:=by rw[wG E,P6,<-hx]
  have gy:(fx ((ae A).length+1)<|sk (A%B) s k).getD (k+1) 0=y:=by rw[wG E,Mk,<-hy]
  refine r1 W (by simp only[bo,app,and_true,fL]<;>omega) ?_;have hshr:((x:Nat):Int).fdiv (2^min ((s:Nat):Int).toNat IntKind.u64.bits)=((x/2^s:Nat):Int):=To x s E;refine aC 109 W ?_ ?_<;>intro h
  ·refine r1 W (by simp only[bo,app,and_true]<;>omega) ?_;refine gb W ?_ ?_<;>intro h2
   ·have hsub:((64:Int)-(s:Int))=((64-s:Nat):Int):=E;refine k1 W aW (by simp only[bo,app,and_true,ad2,fL]<;>omega) ?_;refine again (k+1) E E ⟨G,⟨W,ar.of_eq<|congrArg (SV.ints .u64 true) ?_⟩,G,G,G,G,U⟩;have g2:((fx ((ae A).length+1)<|sk (A%B) s k).set k ((x/2^s:Nat):Int)).getD (k+1) 0=y:=by rw[getD_set_ne E,gy]
    rw[ek,gx,hshr,Du<|by rw[fL];omega,show((k:Int)+1).toNat=k+1 from E,g2,hsub,P8 y (64-s) E,d3,X8 (y%2^s) (x/2^s) (64-s) (by rw[<-d3,d1];exact aeV _ fh) d2,List.set_set];exact Mj E (by rw[<-d3,d1])
   rw[ad2,fL]at h2;exact absurd E h2
  have hs0:s=0:=E;refine r1 W (by simp only[bo,app,and_true]<;>omega) ?_;refine again (k+1) E E ⟨G,⟨W,ar.of_eq<|congrArg (SV.ints .u64 true) ?_⟩,G,G,G,G,U⟩;rw[ek,gx,hshr];refine Mj E ?_;rw[hx,hs0];simp
 have hk:k=(ae B).length:=E;subst hk;refine k1 W aW (by simp only[bo,app,and_true,fL]<;>omega) ?_;have t1:cW (fx ((ae A).length-(ae B).length+1)<|A/B)=ae (A/B):=by apply wF;rw[<-hVB.1,afx hV0,aeO];rw[afx<|A3 _]at htk;exact htk
 have t2:cW ((fx ((ae A).length+1)<|sk (A%B) s (ae B).length).take (ae B).length)=ae (A%B):=by rw[Ut E,Yw];exact wF<|agq hRB<|l9 B
 refine bH W (dw _<|by rw[fL];omega) W ?_;rw[t1];refine k1 W aW (by simp only[bo,app,and_true,fL]<;>omega) ?_;refine VP (us:=[.ints .u64 false<|(fx ((ae A).length+1)<|sk (A%B) s (ae B).length).take (ae B).length]) W W U ⟨ar.of_eq<|congrArg (SV.ints .u64 false) ?_,U⟩ (dw _<|by rw[afm,fL];omega) W ?_
 ·simp
 rw[t2];refine k0 W aW<|aE W ⟨ar.of_eq W,ar.of_eq W,U⟩
def i1:Nm:=⟨1,none⟩
def Lw(a b:Nm):Nm×Nm:=
 if a.w=none/\b.w=none/\a.s≠ -9223372036854775808 then(⟨a.s/b.s,none⟩,⟨a.s%b.s,none⟩)
 else if a.s<0/\(nv a).natAbs%(nv b).natAbs≠0 then(Hy (rB (decide (a.s<0))<|(nv a).natAbs/(nv b).natAbs) i1,xh (rB (decide (a.s<0))<|(nv a).natAbs%(nv b).natAbs) b)
 else(rB (decide (a.s<0))<|(nv a).natAbs/(nv b).natAbs,rB (decide (a.s<0))<|(nv a).natAbs%(nv b).natAbs)
def VC:bj i1:=⟨fh,fh⟩
def Yu:nv i1=1:=W
def VA{K:Nat}(h:1<=K):fV i1 K:=ad0 (iJ fh) h
def pI{a b q r:Int}(f:0<b)(h:q*b+r=a)(d:0<=r)(c:r<b):a/b=q/\a%b=r:=by
 have e:a=r+b*q:=by rw[afj];omega
 subst e;rw[Int.add_mul_ediv_left _ _ E,Int.add_mul_emod_self_left,Int.ediv_eq_zero_of_lt d c,Int.emod_eq_of_lt d c];simp_all
def wO(a b:Nm)(o:bj a)(n:bj b)(c:0<nv b):(nv (Lw a b).1=nv a/nv b/\bj (Lw a b).1)/\(nv (Lw a b).2=nv a%nv b/\bj (Lw a b).2):=by
 have f:=jm a o;have x:0<(nv b).natAbs:=E;have l:=afX (nv a).natAbs (nv b).natAbs;have u:=aeV (nv a).natAbs x;have hc:((nv b).natAbs:Int)=nv b:=E;have m:(((nv a).natAbs%(nv b).natAbs:Nat):Int)+nv b*(((nv a).natAbs/(nv b).natAbs:Nat):Int)=((nv a).natAbs:Int):=by have:=congrArg (Nat.cast:Nat->Int) l;rw[ag4,afn,hc]at this;exact this
 unfold Lw;split
 ·rename_i g;obtain⟨s,w⟩:=a;obtain⟨t,v⟩:=b;obtain⟨rfl,rfl,K⟩:w=none/\v=none/\s≠_:=g;have hs: -9223372036854775808<=s/\s<=9223372036854775807:=o;have D: -9223372036854775808<=t/\t<=9223372036854775807:=n;have c:0<t:=c;have J:=agB s (show t≠0 from E);have H:=agC s c;refine⟨⟨W,?_⟩,⟨W,?_⟩⟩
  ·show -9223372036854775808<=s/t/\s/t<=9223372036854775807;constructor
   ·have:s<=s/t\/0<=s/t:=by
     rcases agD s 0 with g|g
     ·left;have F:s/t<0:=Int.ediv_neg_of_neg_of_pos g c;have z:=Int.le_ediv_of_mul_le c (show s*t<=s by
       have y: -s*1<= -s*t:=afg (show 1<=t from E) (show 0<= -s from E);rw[aho s t]at y;omega)
      exact z
     right;exact ahb g E
    omega
   have:s/t<=s\/s/t<=0:=by
    rcases agD s 0 with g|g
    ·right;have:=Int.ediv_neg_of_neg_of_pos g c;omega
    left;exact Int.ediv_le_self _ g
   omega
  show -9223372036854775808<=s%t/\s%t<=9223372036854775807;omega
 have j:=mW (decide (a.s<0))<|(nv a).natAbs/(nv b).natAbs;have k:=oT (decide (a.s<0))<|(nv a).natAbs/(nv b).natAbs;have h:=mW (decide (a.s<0))<|(nv a).natAbs%(nv b).natAbs;have i:=oT (decide (a.s<0))<|(nv a).natAbs%(nv b).natAbs;generalize rB (decide (a.s<0)) ((nv a).natAbs/(nv b).natAbs)=Q at*;generalize rB (decide (a.s<0)) ((nv a).natAbs%(nv b).natAbs)=R at*;generalize (nv a).natAbs/(nv b).natAbs=q at*;generalize (nv a).natAbs%(nv b).natAbs=r at*;split
 ·rename_i g;obtain⟨g1,g2⟩:=g;obtain⟨C,B⟩:=xy Q i1 k VC;obtain⟨L,A⟩:=kv R b i n;rw[if_pos<|by simpa using g1]at j h;have d:nv a<0:=f.1.1 g1;have:=pI (a:=nv a) (b:=nv b) (q:= -(q:Int)-1) (r:= -(r:Int)+nv b) c (by rw[afH,aho,agK,afj];omega) E E;rw[Yu]at C;exact⟨⟨by dsimp only;rw[this.1];omega,B⟩,⟨by dsimp only;rw[this.2];omega,A⟩⟩
 rename_i g;by_cases g1:a.s<0
 ·have g2:r=0:=by
   rcases afd r with e|e
   ·exact e
   exact absurd ⟨g1,E⟩ g
  rw[if_pos<|by simpa using g1]at j h;have d:nv a<0:=f.1.1 g1;subst g2;have:=pI (a:=nv a) (b:=nv b) (q:= -(q:Int)) (r:=0) c (by rw[aho,afj];omega) E E;exact⟨⟨by dsimp only;rw[this.1];omega,k⟩,⟨by dsimp only;rw[this.2];omega,i⟩⟩
 rw[if_neg<|by simpa using g1]at j h;have p:0<=nv a:=by
  rcases agD (nv a) 0 with e|e
  ·exact absurd (f.1.2 e) g1
  exact e
 have:=pI (a:=nv a) (b:=nv b) (q:=(q:Int)) (r:=r) c (by rw[afj];omega) E E;exact⟨⟨by dsimp only;rw[this.1];omega,k⟩,⟨by dsimp only;rw[this.2];omega,i⟩⟩
def Ki{a b:Int}(e:0<b):(a.tmod b<0->a/b=a.tdiv b-1/\a%b=a.tmod b+b)/\(0<=a.tmod b->a/b=a.tdiv b/\a%b=a.tmod b)/\ -b<a.tmod b/\a.tmod b<b/\a.natAbs/b.natAbs=(a.tdiv b).natAbs:=by
 have c:a.tdiv b*b+a.tmod b=a/\ -b<a.tmod b/\a.tmod b<b/\a.natAbs/b.natAbs=(a.tdiv b).natAbs:=by
  rcases agD a 0 with g|g
  ·obtain⟨n,rfl⟩:∃n:Nat,a= -(n:Int):=⟨a.natAbs,E⟩;obtain⟨m,rfl⟩:∃m:Nat,b=(m:Int):=⟨b.natAbs,E⟩;rw[Int.neg_tdiv,Int.neg_tmod,ahC E,ait E,<-ahP,aho];have d:=aij n m;have f:=aeV n (show 0<m from E);rw[aeO]at d;refine⟨E,E,E,?_⟩;rw[Int.natAbs_neg,Int.natAbs_neg];rfl
  obtain⟨n,rfl⟩:∃n:Nat,a=(n:Int):=⟨a.natAbs,E⟩;obtain⟨m,rfl⟩:∃m:Nat,b=(m:Int):=⟨b.natAbs,E⟩;rw[ahC E,ait E,<-ahP];have d:=aij n m;have f:=aeV n (show 0<m from E);rw[aeO]at d;exact⟨E,E,E,W⟩
 obtain⟨k1,k2,k3,k4⟩:=c;refine⟨λh=>?_,λh=>?_,k2,k3,k4⟩
 ·exact pI e (by rw[afH];omega) E E
 exact pI e k1 h k3
def CF(a b:Nm)(f:bj a)(c:bj b)(X:0<nv b){K:Nat}(l:fV a K)(w:fV b K)(hK:K<2^38):
 aM Tryz.prog 284 [eN a,eN b] (.bW [eN (Lw a b).1,eN (Lw a b).2]):=by
 have v:=uw f;have u:=uw c;have B:=jm a f;have A:=jm b c;have V:0<(nv b).natAbs:=E;have L:=F5 a f;have J:=F5 b c;have T:=GN (nv a).natAbs (nv b).natAbs V (by have:(ae (nv a).natAbs).length<=K:=l;omega) (by have:(ae (nv b).natAbs).length<=K:=w;omega);have lq:(ae<|(nv a).natAbs/(nv b).natAbs).length<=K:=ad0 (lR _ _) l;have lr:(ae<|(nv a).natAbs%(nv b).natAbs).length<=K:=ad0 (length_le<|Nat.mod_le _ _) l;refine bS Tryz.func284 W<|cx 2 [(2,.box true<|eN a),(3,.box true<|eN b),(4,.box true<|.agg [.i 0,.nil]),(5,.box true<|.agg [.i 0,.nil])] (¬(a.w=none/\b.w=none/\a.s≠ -9223372036854775808)) ?_ λS=>?_
 ·refine bJ W 19 W ?_ ?_<;>intro g1
  ·refine bJ W 24 W ?_ ?_<;>intro g2
   ·have y:=v.1 g1;have p:=u.1 g2;refine bQ W W ?_ ?_<;>intro d
    ·have d:a.s≠ -9223372036854775808:=d;have n:Lw a b=(⟨a.s/b.s,none⟩,⟨a.s%b.s,none⟩):=by unfold Lw;rw[if_pos ⟨y,p,d⟩]
     rw[n];have hs: -9223372036854775808<=a.s/\a.s<=9223372036854775807:=by unfold bj at f;rw[y]at f;exact f
     have ht: -9223372036854775808<=b.s/\b.s<=9223372036854775807:=by unfold bj at c;rw[p]at c;exact c
     have o:0<b.s:=by rw[<-A.2 p];exact X
     refine kw [33,38] W aW ?_ ?_
     ·simp only[bo,and_true];omega
     obtain⟨f1,Z,f3,f4,Y⟩:=Ki (a:=a.s) o;have O:(a.s.tdiv b.s).natAbs<=a.s.natAbs:=by rw[<-Y];exact agF _ _
     have P: -9223372036854775808<a.s.tdiv b.s/\a.s.tdiv b.s<=9223372036854775807:=E;have N:IntKind.i64.wrap (a.s.tdiv b.s)=a.s.tdiv b.s:=by rw[V6];omega
     rw[N];refine gb W ?_ ?_<;>intro h
     ·obtain⟨r,q⟩:=f1 h;refine k1 W aW ba<|aE W ⟨⟨ar.of_eq<|congrArg SV.i r.symm,W,U⟩,⟨ar.of_eq<|congrArg SV.i q.symm,W,U⟩,U⟩
     obtain⟨r,q⟩:=Z E;refine k1 W aW ba<|aE W ⟨⟨ar.of_eq<|congrArg SV.i r.symm,W,U⟩,⟨ar.of_eq<|congrArg SV.i q.symm,W,U⟩,U⟩
    have d:¬a.s≠ -9223372036854775808:=d;refine r0 W<|gm λg=>d g.2.2
   refine r0 W<|gm λg=>g2<|u.2 g.2.1
  refine r0 W<|gm λg=>g1<|v.2 g.1
 unfold Lw;rw[if_neg S];have x:decide (a.s<0)=decide (nv a<0):=by rw[decide_eq_decide];exact B.1
 have F:=mW (decide (a.s<0))<|(nv a).natAbs/(nv b).natAbs;have H:=oT (decide (a.s<0))<|(nv a).natAbs/(nv b).natAbs;have s:=mW (decide (a.s<0))<|(nv a).natAbs%(nv b).natAbs;have t:=oT (decide (a.s<0))<|(nv a).natAbs%(nv b).natAbs;have m1:=Q2 (decide (a.s<0)) ((nv a).natAbs/(nv b).natAbs) E;have M:=Q2 (decide (a.s<0)) ((nv a).natAbs%(nv b).natAbs) E;have j:nv (rB (decide (a.s<0))<|(nv a).natAbs%(nv b).natAbs)<0↔(a.s<0/\(nv a).natAbs%(nv b).natAbs≠0):=by
  rw[s];by_cases g:a.s<0
  ·rw[if_pos<|by simpa using g];constructor
   ·intro h;exact⟨g,E⟩
   rintro⟨-,h⟩;omega
  rw[if_neg<|by simpa using g];constructor
  ·intro h;omega
  rintro⟨h,-⟩;exact absurd h g
 have D:fV (rB (decide (a.s<0))<|(nv a).natAbs/(nv b).natAbs) (K+1):=by
  unfold fV;rw[F];have e:(if decide (a.s<0)=true then -(((nv a).natAbs/(nv b).natAbs:Nat):Int)else(((nv a).natAbs/(nv b).natAbs:Nat):Int)).natAbs=(nv a).natAbs/(nv b).natAbs:=by generalize (nv a).natAbs/(nv b).natAbs=z;split<;>omega
  rw[e];omega
 have C:fV (rB (decide (a.s<0))<|(nv a).natAbs%(nv b).natAbs) (K+1):=by
  unfold fV;rw[s];have e:(if decide (a.s<0)=true then -(((nv a).natAbs%(nv b).natAbs:Nat):Int)else(((nv a).natAbs%(nv b).natAbs:Nat):Int)).natAbs=(nv a).natAbs%(nv b).natAbs:=by generalize (nv a).natAbs%(nv b).natAbs=z;split<;>omega
  rw[e];omega
 refine bP W W L W<|bP W W J W<|bP W W T W<|bP W W m1 W<|bP W W M W<|r0 W ?_;have m:=xB _ t;have i:=Vh _ i1 H VC D (VA E) E;have k:=NA _ b t c C (ad0 w<|agT _) E;generalize rB (decide (a.s<0)) ((nv a).natAbs/(nv b).natAbs)=Q at*;generalize rB (decide (a.s<0)) ((nv a).natAbs%(nv b).natAbs)=R at*;refine bG W m W<|bQ W W ?_ ?_<;>intro h
 ·have h:(nv R).sign<0:=h;rw[if_pos<|j.1<|af6.1 h];refine bO W W (Ii 1) W<|bO W W i W<|bO W W k W<|k0 W aW<|bF W
 have h:¬(nv R).sign<0:=h;rw[if_neg λg=>h<|af6.2<|j.2 g];refine k0 W aW<|bF W
section
variable{K:Nat}{a:Nm}
def dF{L:Nat}(h:fV a K)(hl:K<=L):fV a L:=ad0 h hl
def xO{b:Nm}(h:(nv b).natAbs<=(nv a).natAbs)(c:fV a K):fV b K:=ad0 (length_le h) c
def Dn(a b:Nm):Nm:=if nv b<0 then(Lw (jc a)<|jc b).1 else(Lw a b).1
def xH(a b:Nm)(e:bj a)(d:bj b)(h:nv b≠0)(f:nv b∣nv a):nv (Dn a b)=nv a/nv b/\bj (Dn a b):=by
 unfold Dn;split
 ·rename_i g;obtain⟨n,m⟩:=dR a e;obtain⟨l,k⟩:=dR b d;obtain⟨⟨j,i⟩,-⟩:=wO (jc a) (jc b) m k E;refine⟨?_,i⟩;rw[j,n,l];obtain⟨c,hc⟩:=f;rw[hc,<-aho,Int.mul_ediv_cancel_left _ E,Int.mul_ediv_cancel_left _ h]
 exact(wO a b e d E).1
def Vq(a b:Nm)(e:bj a)(d:bj b)(o:nv b≠0)(i:fV a K)(f:fV b K)(l:K<2^38):aM Tryz.prog 250 [eN a,eN b] (eN<|Dn a b):=by
 have hs:=xB b d;have k:=Er a e i E;have j:=Er b d f E;obtain⟨q,n⟩:=dR a e;obtain⟨p,m⟩:=dR b d;unfold Dn;refine bS Tryz.func250 W<|bP W W hs W<|bQ W W ?_ ?_<;>intro h
 ·have h:(nv b).sign<0:=h;have h:=af6.1 h;have c:=CF (jc a) (jc b) n m E (oA e i) (oA d f) l;rw[if_pos h];refine bO W W k W<|bO W W j W<|k0 W aW<|bG W c W<|bN W W
 have h:¬(nv b).sign<0:=h;have h:¬nv b<0:=λg=>h<|af6.2 g;have c:=CF a b e d E i f l;rw[if_neg h];refine bP W W c W<|bN W W
def uf:Nat->Nm->Nm->Nm
 |0,a,_=>a
 |k+1,a,b=>if nv b=0 then a else uf k b (Lw a b).2
def Lh(k:Nat)(a b:Nm)(h:nv b=0):uf k a b=a:=by
 cases k with
 |zero=>rfl
 |succ k=>unfold uf;rw[if_pos h]
def Cd:∀(k:Nat)(a b:Nm){K:Nat},bj a->bj b->0<=nv a->0<=nv b->(nv b).natAbs<=k->fV a K->fV b K->nv (uf k a b)=(Int.gcd (nv a) (nv b):Nat)/\bj (uf k a b)/\fV (uf k a b) K
 |0,a,b,K,c,f,i,g,m,e,d=>by have:nv b=0:=E;refine⟨?_,c,e⟩;show nv a=_;rw[this,Int.gcd_zero_right];omega
 |k+1,a,b,K,c,f,i,g,m,e,d=>by
  unfold uf;split
  ·rename_i h;refine⟨?_,c,e⟩;rw[h,Int.gcd_zero_right];omega
  rename_i h;obtain⟨-,r,q⟩:=wO a b c f E;have t:=agB (nv a) h;have s:=agC (nv a) (show 0<nv b from E);obtain⟨p,o,n⟩:=Cd k b (Lw a b).2 f q g E E d<|xO (a:=b) E d;refine⟨?_,o,n⟩;rw[p,r];rw[Int.gcd_comm<|nv a,ahh,ahh];obtain⟨x,l⟩:∃x:Nat,nv a=x:=⟨(nv a).toNat,E⟩;obtain⟨y,j⟩:∃y:Nat,nv b=y:=⟨(nv b).toNat,E⟩;rw[l,j,<-Int.natCast_emod,afQ,afQ,afQ];rw[agV y<|x%y,<-Nat.gcd_rec]
def oo(a b:Nm):Nm:=uf (nv b).natAbs (yJ a)<|yJ b
def AZ(h:bj a)(l:fV a K):fV (yJ a) K:=by unfold fV at *;rw[(nz a h).1];exact l
def ya(a b:Nm)(d:bj a)(c:bj b)(f:fV a K)(e:fV b K):nv (oo a b)=(Int.gcd (nv a) (nv b):Nat)/\bj (oo a b)/\fV (oo a b) K:=by obtain⟨j,i⟩:=nz a d;obtain⟨h,g⟩:=nz b c;have:=Cd (nv b).natAbs (yJ a) (yJ b) i g E E E (AZ d f)<|AZ c e;refine⟨?_,this.2⟩;rw[oo,this.1,j,h];rw[ahh,ahh,afQ,afQ]
def VD(a b:Nm)(m:bj a)(l:bj b)(o:fV a K)(n:fV b K)(s:K<2^38):aM Tryz.prog 226 [eN a,eN b] (eN<|oo a b):=by
 have hA:=VU a m o E;have t:=VU b l n E;obtain⟨F,w⟩:=nz a m;obtain⟨D,v⟩:=nz b l;refine bS Tryz.func226 W<|bO W W hA W<|bO W W t W<|k0 W aW<|oB (λ(k:Nat)(x y:Nm)=>[(2,.box true<|eN x),(3,.box true<|eN y),(4,.box true<|.agg [.i 0,.nil])])
  (λk x y=>bj x/\bj y/\0<=nv x/\0<=nv y/\fV x K/\fV y K/\(nv y).natAbs<=k/\uf k x y=oo a b) (λk _ _=>k) (nv b).natAbs (yJ a) (yJ b)
  ⟨w,v,E,E,AZ m o,AZ l n,E,W⟩ ⟨G,G,G,U⟩ ?_
 rintro k x y⟨p,e,x0,q,r,f,z,d⟩;have hs:=xB y e;refine bP W W hs W<|bQ W W ?_ ?_<;>intro h
 ·have h:(nv y).sign≠0:=h;have c:nv y≠0:=λg=>h (by rw[g];rfl);obtain⟨i,rfl⟩:∃i,k=i+1:=⟨k-1,E⟩;obtain⟨-,C,u⟩:=wO x y p e E;have B:=agB (nv x) c;have A:=agC (nv x) (show 0<nv y from E);have j:=CF x y p e E r f s;unfold uf at d;rw[if_neg c]at d;refine bP W W j W<|k0 W aW<|gS (i,y,(Lw x y).2) ⟨e,u,q,by dsimp only;omega,f,xO (a:=y) (by dsimp only;omega) f,by dsimp only;omega,d⟩
 have h:¬(nv y).sign≠0:=h;have c:nv y=0:=aib.1 E;rw[Lh _ _ _ c]at d;rw[<-d];refine bN W W
end
def Mt{a b:Nm}(f:bj a)(e:bj b)(g:nv b≠0)(d:nv b∣nv a){K:Nat}(c:fV a K):fV (Dn a b) K:=by refine xO ?_ c;rw[(xH a b f e g d).1];exact Int.natAbs_ediv_le_natAbs _ _
def Vv(n d:Nm):Fr:=if d.w=none/\d.s=1 then⟨n,d⟩else⟨Dn n<|oo n d,Dn d<|oo n d⟩
def SO(n d:Nm):Fr:=if nv d<0 then Vv (jc n) (jc d)else Vv n d
def ri(f:Fr)(K:Nat):Prop:=fV f.n K/\fV f.d K
def Ja{f:Fr}{K L:Nat}(h:ri f K)(hl:K<=L):ri f L:=⟨dF h.1 hl,dF h.2 hl⟩
def Ir(n d:Nm)(hn:bj n)(h:bj d)(q:0<nv d){K:Nat}(i:fV n K)(j:fV d K):gW (Vv n d) (Rat.divInt (nv n)<|nv d)/\ri (Vv n d) K:=by
 have a:=Rat.num_divInt (nv n)<|nv d;have b:=Rat.den_divInt (nv n)<|nv d;rw[agp q,agK]at a;rw[if_neg E]at b;unfold Vv;split
 ·rename_i g;have k:=(jm d h).2 g.1;rw[g.2]at k;refine⟨⟨hn,h,?_,?_⟩,i,j⟩
  ·rw[a,k];simp
  rw[b,k];simp
 obtain⟨g1,g2,r⟩:=ya n d hn h i j;have c:nv (oo n d)≠0:=by have:=Int.gcd_pos_of_ne_zero_right (nv n) (show nv d≠0 from E);omega
 have e:nv (oo n d)∣nv n:=by rw[g1];exact Int.gcd_dvd_left ..
 have f:nv (oo n d)∣nv d:=by rw[g1];exact Int.gcd_dvd_right ..
 obtain⟨p,o⟩:=xH n (oo n d) hn g2 c e;obtain⟨m,l⟩:=xH d (oo n d) h g2 c f;refine⟨⟨o,l,?_,?_⟩,Mt hn g2 c e i,Mt h g2 c f j⟩
 ·show nv (Dn n<|oo n d)=_;rw[p,g1,a,Int.gcd_comm]
 show nv (Dn d<|oo n d)=_;rw[m,b,Int.gcd_comm,ahP]
 congr 1;omega
def BO(n d:Nm)(hn:bj n)(a:bj d)(j:nv d≠0){K:Nat}(b:fV n K)(c:fV d K):gW (SO n d) (Rat.divInt (nv n)<|nv d)/\ri (SO n d) K:=by
 unfold SO;split
 ·rename_i g;obtain⟨i,h⟩:=dR n hn;obtain⟨f,e⟩:=dR d a;have:=Ir (jc n) (jc d) h e E (oA hn b)<|oA a c;rw[i,f,Rat.neg_divInt_neg]at this;exact this
 exact Ir n d hn a E b c
def KZ(n d:Nm)(hn:bj n)(b:bj d)(B:nv d≠0){K:Nat}(i:fV n K)(j:fV d K)(o:K<2^38):aM Tryz.prog 169 [eN n,eN d] (eF<|SO n d):=by
 have hs:=xB d b;have l:=Er n hn i E;have m:=Er d b j E;obtain⟨D,z⟩:=dR n hn;obtain⟨C,w⟩:=dR d b;refine bS Tryz.func169 W<|wR 2 (λ(x y:Nm)=>[(2,.box true<|eN x),(3,.box true<|eN y),(4,.box true<|.agg [.i 0,.nil,.i 0,.nil])]) (λx y=>bj x/\bj y/\0<nv y/\fV x K/\fV y K/\Vv x y=SO n d) ?_ ?_
 ·refine bP W W hs W<|bQ W W ?_ ?_<;>intro h
  ·have h:(nv d).sign<0:=h;have h:=af6.1 h;refine bO W W l W<|bO W W m W<|k0 W aW<|il (jc n,jc d) ⟨z,w,by dsimp only;omega,oA hn i,oA b j,by unfold SO;rw[if_pos h]⟩
  have h:¬(nv d).sign<0:=h;have h:¬nv d<0:=λg=>h<|af6.2 g;refine r0 W<|il (n,d) ⟨hn,b,by dsimp only;omega,i,j,by unfold SO;rw[if_neg h]⟩
 rintro x y⟨k,c,A,f,e,v⟩;rw[<-v];have p:=uw c;have u:=VD x y k c f e o;obtain⟨g1,g2,r⟩:=ya x y k c f e;have a:nv (oo x y)≠0:=by rw[g1];have:=Int.gcd_pos_of_ne_zero_right (nv x) (show nv y≠0 from E);omega
 have t:=Vq x (oo x y) k g2 a f r o;have s:=Vq y (oo x y) c g2 a e r o;refine cx 1 [(2,.box true<|eN x),(3,.box true<|eN y),(4,.box true<|.agg [.i 0,.nil,.i 0,.nil])] (¬(y.w=none/\y.s=1)) ?_ λhc=>?_
 ·refine bJ W 16 W ?_ ?_<;>intro g
  ·refine bQ W W ?_ ?_<;>intro h
   ·have h:y.s=1:=h;unfold Vv;rw[if_pos ⟨p.1 g,h⟩];refine bN W W
   have h:¬y.s=1:=h;refine r0 W<|gm λq=>h q.2
  refine r0 W<|gm λq=>g<|p.2 q.1
 unfold Vv;rw[if_neg hc];refine bP W W u W<|bO W W t W<|bO W W s W<|k0 W aW<|bF W
end Go.Ai.eE
