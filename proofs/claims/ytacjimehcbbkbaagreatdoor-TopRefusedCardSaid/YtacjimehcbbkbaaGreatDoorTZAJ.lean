/- TopRefused holds. -/
import Derived.Test.YtacjimehcbbkbaaGreatDoorTZAI
import Derived.Shelf.Strings.Builder1
import Derived.Shelf.SlSortCmp.NoneTotal
import Derived.Shelf.SlicesG.Cmp
import Derived.Ground.SlsfProg
import Derived.Ground.SlgcProg
set_option linter.all false
set_option maxRecDepth 100000
set_option maxHeartbeats 0
open Go.Proofs Go.Ai Go.Ai.bI Go.RowKit Go.Proofs.Tryz
noncomputable section
namespace Go.Proofs
open Go.Shelf Go.RowKit Go.Sort Go.Lib Go.Proofs.Tryz
section
variable{l p:L Int}{k:Nat}{a:Q Addr}{w:World}
def jf(w:World)(a:Q Addr)(pw:L Int):Prop:=∀j,j<pw.length->∃b,a=some b/\w.cell? (b.add j)=some (.int .i64<|pw.getD j 0)
def Vo(h:∀x∈l,0<=x/\x<2147483648):0<=l.sum/\l.sum<=2147483648*l.length:=by
 induction l with
 |nil=>simp
 |cons x l b=>have:=b λy c=>h y (by simp[c]);have:=h x I;simp;omega
def Lj(h:k<l.length):(l.take<|k+1).sum=(l.take k).sum+l.getD k 0:=by rw[adY h,aiy];simp[h]
theorem Tryz.afG(a:Option Addr)(c:Nat)(pw:List Int)(w:World)(hn:pw.length<2^20)(hb:∀x∈pw,0<=x/\x<2147483648)(hc:jf w a pw):
 Calls prog 295 #[.slice a pw.length c] w λe w'=>e=.returned (.int .i64 pw.sum)/\w'=w:=by
 go_enter func295,Tryz.ntmps295
 go_wp2
 go_loop [3,8] (λs i=>∃k:Nat,k<=pw.length/\i=.int .i64 k/\s=.int .i64 (pw.take k).sum) λ_ i=>pw.length-(RowKit.intOf i).toNat
 case atStart=>exact⟨0,abX _,W,I⟩
 case round=>
  obtain⟨k,hk,rfl,rfl⟩:=hrel;by_cases hlt:k<pw.length
  ·obtain⟨ad,rfl,hcell⟩:=hc k hlt
   go_wp2
   have h1:=Vo (l:=pw.take k) λy hy=>hb y<|ahv hy;have h2:=hb pw[k] I;have h3:=Lj hlt;rw[afS]at h1;simp[hlt]at h3
   go_round
   case rel=>exact⟨k+1,E,by go_num,by congr 1;rw[h3];unfold wrap64;omega⟩
   case measure=>simp[RowKit.intOf];omega
  go_wp2
  have:k=pw.length:=E;subst this
  go_ret
  simp
def uq{x y:Int}:Lib.compareInt x y=0↔x=y:=by unfold Lib.compareInt;(repeat' split)<;>omega
def xW:L Int->L Int->Int
 |[],[]=>0
 |[],_::_=> -1
 |_::_,[]=>1
 |x::l,y::m=>if x=y then xW l m else Lib.compareInt x y
def T2{q:L Int}(c:k<p.length)(b:k<q.length):xW (p.drop k) (q.drop k)=if p.getD k 0=q.getD k 0 then xW (p.drop<|k+1) (q.drop<|k+1)else Lib.compareInt (p.getD k 0) (q.getD k 0):=by rw[ad5 c,ad5 b];simp[xW,c,b]
theorem Tryz.agF(hcmp:∀x y W,Calls prog 340 #[.int .i64 x,.int .i64 y] W λe w'=>e=.returned (.int .i64<|Lib.compareInt x y)/\w'=W)
 (a b:Option Addr)(c d:Nat)(p q:List Int)(w:World)(hn:p.length<2^20)(hm:q.length=p.length)(hc:jf w a p)(hd:jf w b q):
 Calls prog 341 #[.slice a p.length c,.slice b p.length d] w λe w'=>e=.returned (.int .i64<|xW p q)/\w'=w:=by
 go_enter func341,Tryz.ntmps341
 go_wp2
 go_loop [11] (λi=>∃k:Nat,k<=p.length/\i=.int .i64 k/\xW p q=xW (p.drop k) (q.drop k)) λi=>p.length-(RowKit.intOf i).toNat
 case atStart=>exact⟨0,abX _,rfl,I⟩
 case round=>
  obtain⟨k,hk,rfl,hl⟩:=hrel;by_cases hlt:k<p.length
  ·obtain⟨ad,rfl,hcell⟩:=hc k hlt;obtain⟨ae,rfl,hcell2⟩:=hd k E;rw[T2 hlt E]at hl;generalize p.getD k 0=x at hcell hl;generalize q.getD k 0=y at hcell2 hl;have A:=Lib.hid hl;clear hl hc hd;have H:=hcmp x y;have Z:=Lib.hid<|@uq x y;generalize Lib.compareInt x y=r at H Z A
   go_wp2_with (go_at_call 340;refine(H _).mono ?_;rintro e w'⟨rfl,rfl⟩)
   ·have hne:(r !=0)=true:=by assumption
    go_ret
    have:=A.out;rw[abl λe=>by rw[Z.out.2 e]at hne;cases hne]at this;exact⟨by rw[this];rfl,rfl⟩
   have he:(r !=0)=false:=by assumption
   have:=A.out;rw[abx<|Z.out.1<|gv]at this
   go_round
   case rel=>exact⟨k+1,E,by go_num,this⟩
   case measure=>simp[RowKit.intOf];omega
  go_wp2
  have:k=p.length:=E;subst this
  go_ret
  have e:xW (p.drop p.length) (q.drop p.length)=0:=by rw[ahw,agt E];rfl
  exact⟨by rw[e];rfl,rfl⟩
theorem Tryz.orC(g:Nat)(x y:Int)(w:World)(h0:w.cell? ⟨g,0,none⟩=some (.int .i64 x))(h1:w.cell? ⟨g,1,none⟩=some (.int .i64 y)):
 Calls prog 339 #[.slice (some ⟨g,0,none⟩) 2 2] w λe w'=>e=.returned (.int .i64<|if x≠0 then x else y)/\w'=w:=by
 have hc:∀k,k<2->w.cell? ⟨g,k,none⟩=some (.int .i64<|if k=0 then x else y):=λk hk=>by rcases(show k=0\/k=1 from E)with rfl|rfl;exact h0;exact h1
 clear h0 h1;generalize hr:(if x≠0 then x else y)=r;have R:=Lib.hid hr;clear hr
 go_enter func339,Tryz.ntmps339
 go_wp2
 go_loop [8] (λi=>∃k:Nat,k<=2/\i=.int .i64 k/\(k≠0->x=0)/\(k=2->y=0)) λi=>2-(RowKit.intOf i).toNat
 case atStart=>exact⟨0,E,W,E,E⟩
 case round=>
  obtain⟨k,hk,rfl,hx,hy⟩:=hrel;by_cases hlt:k<2
  ·have hcell:=hc k hlt;have A:=Lib.hid<|And.intro hx hy;clear hx hy hc;generalize hz:(if k=0 then x else y)=z at hcell;have B:=Lib.hid hz;clear hz
   go_wp2
   ·have hne:(z !=0)=true:=by assumption
    go_ret
    have hz:z≠0:=by simpa using hne
    refine⟨?_,W⟩;show Ending.returned (Value.int .i64 z)=_;have h1:=R.out;have h2:=B.out;have h3:=A.out
    congr 2
    by_cases e:k=0;rw[abx e]at h2;subst h2;rw[abx hz]at h1;exact h1;rw[abl e]at h2;rw[abl<|by simp[h3.1 e]]at h1;omega
   have hne:(z !=0)=false:=by assumption
   have hz:z=0:=by simpa using hne
   have h2:=B.out;have h3:=A.out
   go_round
   case rel=>refine⟨k+1,E,by go_num,λ_=>?_,λe=>?_⟩;by_cases e:k=0;rw[abx e]at h2;omega;exact h3.1 e;rw[abl E]at h2;omega
   case measure=>simp[RowKit.intOf];omega
  go_wp2
  have:k=2:=E;subst this
  go_ret
  have h1:=R.out;rw[abl<|by simp[hx E],hy W]at h1;exact⟨by rw[<-h1];rfl,W⟩
def Ds(p q:L Int):Int:=if Lib.compareInt q.sum p.sum≠0 then Lib.compareInt q.sum p.sum else xW q p
def jf.grow(h:jf w a p)(n:Nat)(os:Array Obj):jf (grow (w.drewN n) os) a p:=λj d=>by
 obtain⟨c,f,b⟩:=h j d;exact⟨c,f,by
  have e:(c.add j).block<w.heap.size:=by apply aha;intro hh;simp[World.cell?,aik<|Nat.le_of_not_lt hh]at b
  rw[cell?_grow _ _ _<|by exact e];exact b⟩
theorem Tryz.afL(hcmp:∀x y W,Calls prog 340 #[.int .i64 x,.int .i64 y] W λe w'=>e=.returned (.int .i64<|Lib.compareInt x y)/\w'=W)
 (a b:Option Addr)(c d:Nat)(p q:List Int)(w:World)(hn:p.length<2^20)(hm:q.length=p.length)(hp:∀x∈p,0<=x/\x<2147483648)(hq:∀x∈q,0<=x/\x<2147483648)(hc:jf w a p)(hd:jf w b q):
 Calls prog 305 #[.slice a p.length c,.slice b p.length d] w λe w'=>e=.returned (.int .i64<|Ds p q)/\∃n os,w'=grow (w.drewN n) os:=by
 have H1:=Tryz.afG a c p w hn hp hc;have H2:=Tryz.afG b d q w E hq hd;have H3:=hcmp q.sum p.sum w;have H4:=Tryz.agF hcmp b a d c q p w E E hd hc;rw[hm]at H2 H4;have H5:=λW g=>Tryz.orC g (Lib.compareInt q.sum p.sum) (xW q p) W;have e:Ds p q=if Lib.compareInt q.sum p.sum≠0 then Lib.compareInt q.sum p.sum else xW q p:=rfl;rw[<-e]at H5;clear e hcmp hc hd hp hq;generalize Ds p q=r at H5⊢;generalize Lib.compareInt q.sum p.sum=x at H3 H5;generalize xW q p=y at H4 H5
 go_enter func305,Tryz.ntmps305
 go_wp2_with fail
 refine H2.mono ?_;rintro e w'⟨rfl,hw⟩;subst hw;clear H2
 go_wp2_with fail
 refine H1.mono ?_;rintro e w'⟨rfl,hw⟩;subst hw;clear H1
 go_wp2_with fail
 refine H3.mono ?_;rintro e w'⟨rfl,hw⟩;subst hw;clear H3
 go_wp2_with fail
 refine H4.mono ?_;rintro e w'⟨rfl,hw⟩;subst hw;clear H4;have H6:=H5 (w'.alloc<|.cells #[.int .i64 x,.int .i64 y] 3) w'.heap.size I I;clear H5
 go_wp2_with fail
 refine H6.mono ?_;rintro e w2⟨rfl,hw⟩;subst hw
 go_wp2
 go_ret
 exact⟨rfl,0,_,by rw[alloc_eq_grow];rfl⟩
def jf.alloc(h:jf w a p)(o:Obj):jf (w.alloc o) a p:=by have:=h.grow 0 #[o];rwa[alloc_eq_grow]
theorem Tryz.ag1(hcmp:∀x y W,Calls prog 340 #[.int .i64 x,.int .i64 y] W λe w'=>e=.returned (.int .i64<|Lib.compareInt x y)/\w'=W)
 (c0 c1 c2 c3 d0 d1 d2 d3:Value)(a b:Option Addr)(c d:Nat)(p q:List Int)(w:World)(hn:p.length<2^20)(hm:q.length=p.length)(hp:∀x∈p,0<=x/\x<2147483648)(hq:∀x∈q,0<=x/\x<2147483648)(hc:jf w a p)(hd:jf w b q):
 Calls prog 308 #[.agg #[c0,c1,c2,c3,.slice a p.length c],.agg #[d0,d1,d2,d3,.slice b p.length d]] w λe w'=>e=.returned (.int .i64<|Ds p q)/\∃n os,w'=grow (w.drewN n) os:=by
 have H:=λo1 o2=>Tryz.afL hcmp a b c d p q ((w.alloc o1).alloc o2) hn hm hp hq ((hc.alloc _).alloc _)<|(hd.alloc _).alloc _;clear hcmp hp hq hc hd;generalize Ds p q=r at H⊢
 go_enter func308,Tryz.ntmps308
 go_wp2_with fail
 refine(H _ _).mono ?_;rintro e w2⟨rfl,n,os,hw⟩;subst hw
 go_wp2
 go_ret
 have e:∀o1 o2,grow (((w.alloc o1).alloc o2).drewN n) os=grow (w.drewN n) ((#[o1]++#[o2])++os):=λo1 o2=>by rw[alloc_eq_grow,alloc_eq_grow,<-grow_grow,<-grow_grow];rfl
 exact⟨rfl,n,_,e _ _⟩
end
end Go.Proofs
namespace Go.Ai.Pg
def adn(u:Nat)(hu:u<2^64):ab 335 [.n .u64 u,.i 10] (.s<|decl u 1):=by intro w S p j g hc;obtain⟨y,r,A,z,rfl,t,_,f,m,q,x,v,rfl,l,_,a,rfl,rfl⟩:=hc;obtain⟨_,rfl,rfl⟩:=f;obtain⟨_,rfl,rfl⟩:=a;refine sT.mB func335 W W<|(Tryz.agO u hu w j).mono ?_;rintro e o⟨rfl,k,os,rfl⟩;have d:=yp w k os;exact⟨_,W,S,[],d,λ_ h=>h,λ_ h=>.inl h,λb c=>aey (g b c) d.size,by simp[SV.den,Rel,scalar,bs,decDigits_eq],aee,I⟩
def afy(u:Nat)(hu:u<2^64):ab 300 [.n .u64 u,.i 10] (.s<|decl u 1):=by refine enter func300 W W W W<|cu W W (adn u hu) W<|cq W W
def ZI(c:UInt8)(t:cj)(hl:t.length<2^40):ab 323 [.s<|c::t,.s [48]] (.u<|decide (c=48)):=by refine enter func323 W W W W<|ck W 10 W (λh=>?_) λh=>abK (show((1:Nat):Int)<=((t.length+1:Nat):Int)from E) h;refine r1 W (by simp only[aj,abu,acC,ad1]<;>omega) ?_;refine aJ W<|aj8 SV.u ?_;simp
def Pa(c:UInt8)(t:cj)(hl:t.length<2^40):ab 283 [.s<|c::t,.s [48]] (.u<|decide (c=48)):=by refine enter func283 W W W W<|cu W W (ZI c t hl) W<|cq W W
def acF(n:Nat)(hn:n<=64):ab 301 [.s [48],.i n] (.s<|List.replicate n 48):=by
 refine cx func301 W<|cv W W ?_ ?_<;>intro h;have:n=0:=E;subst this;refine cq W W;refine cv W W ?_ ?_<;>intro b;have:n=1:=E;subst this;refine cq W W;refine cv W W (λa=>abK a E) λ_=>?_;refine kw [23,25] W W U<|Hh (us:=[.n .u64 (1:Nat),.n .u64 n]) W W U ⟨W,aal (SV.n .u64)<|wr E,U⟩ (EK 1 n gC E) W ?_;rw[aiV,ahf (E:n<2^64),ahr (E:n<2^64)];refine ck W 31 W (λh=>abK h gC) λ_=>?_;refine cv W W (λh=>abK h E) λ_=>?_;refine r1 W bj<|cg W (λh=>abK h gC) λ_=>?_;refine r1 W (by simp only[aj,abu]<;>decide) ?_;refine cg W (λh=>abK h gC) λ_=>?_;refine cv W W (λh=>abK h gC) λ_=>?_;refine cv W W (λ_=>?_) λh=>abK W h;refine cv W W (λ_=>?_) λh=>abK W h;refine ck W 52 W (λh=>?_) λh=>abK (show(n:Int)<=128 from E) h;refine cu W W (Pa _ _ gC) W<|cv W W (λh=>abK h gC) λ_=>?_;refine ck W 61 W (λh=>?_) λh=>abK (show(n:Int)<=128 from E) h;refine cu W W (Pa _ _ gC) W<|cv W W (λh=>abK h gC) λ_=>?_;refine ck W 70 W (λh=>?_) λh=>abK (show(n:Int)<=64 from E) h;refine cu W W (Pa _ _ gC) W<|cv W W (λ_=>?_) λh=>abK W h;refine r1 W (by simp only[aj,abu]<;>simp<;>omega) ?_;refine aJ W<|aj8 SV.s ?_;show List.drop 0 (List.take (n:Int).toNat<|List.replicate 64 48)=_
 grind
def check_1:aV [49]=0:=be
def XH{n:Nat}(h:n<10):decl n 1=[XK n]:=by have e:n/10=0:=E;have a:n%10=n:=E;rw[bu E,e,a,dm];rfl
def DF{s:cj}(n:Nat)(h:n<10)(hc:aV s=0)(he:s=[XK n]):bp s=(n:Rat):=by rw[<-Er,dU hc,he,Eo,XH h]
def mz:bp [49]=1:=DF 1 gC check_1 W
def aeX:bp [49]≠0:=by rw[mz];decide
def tH(k:cj):bw:=⟨bk,[⟨1,[49]⟩,⟨0,[49]⟩],1,k,[]⟩
def ou(k:cj):fZ:=⟨2,[tH k],[1]⟩
def Vb{k:cj}(d:aV k=0):mg 2 (tH k)=0:=by
 have c:∀j:Int,0<=j->j<2->mJ 2 ⟨j,[49]⟩=0:=by intro j g e;unfold mJ;rw[abl<|by show¬(j<0\/2<=j);omega,abl<|by rw[check_1];simp,abl aeX]
 have b:bE _ (tH k).ai=0:=a8.2 (by intro f a;simp[tH]at a;rcases a with rfl|rfl;exact c 1 gC gC;exact c 0 gC gC)
 unfold mg;rw[abl<|by simp[tH],abl<|by unfold jO J2 Bq tH;simp[bk,dO],abl<|by rw[b];simp,abl<|by simp[tH],abl<|by show¬aV k≠0;rw[d];simp];rfl
def wj(k:cj):aA [tH k]=[0]:=by
 have b:dE [tH k] [] 0=0:=by rw[kQ I];rfl
 have a:dE [tH k] [0] 0= -1:=by rw[kQ I,abl<|by simp[kF],oO I]
 show fD [tH k] 2 []=[0];rw[fD,b];show fD [tH k] 1 [0]=[0];rw[fD,a,abx gC]
def JN{k:cj}(c:aV k=0):gg (ou k)=0:=by
 have hu:bE (mg (ou k).n) (ou k).aa=0:=a8.2 (by
  intro u h;have:u=tH k:=gl
  subst this;exact Vb c)
 have a:aW [tH k]<=24:=ab7 ahN I;unfold gg;rw[abl<|by simp[ou],abl<|by simp[ou],abl<|by rw[hu];simp,abl<|by simp[ou],abl<|by simp[ou],abl<|by simp[ou,a],abl,abl<|by show¬(aA [tH k]).length<1;rw[wj];decide,abl];rintro⟨u,h,b,-⟩;have:u=tH k:=gl
 subst this;exact abK b (by simp[tH,bk,dO]);intro h;refine h λs d b=>?_;have:s=1:=by have:s<2:=b;omega
 subst this;simp[ou,tH]
abbrev CD:bw:=tH [49]
abbrev qS:fZ:=ou [49]
def L6:gg qS=0:=JN check_1
def qW:L fG:=[⟨[48],[50]⟩,⟨[49],[56]⟩]
def Xr:iM:=⟨3,5,10,4⟩
def Sd:aV [48]=0:=be
def o5:aV [50]=0:=be
def Sc:aV [56]=0:=be
def Rb:bp [48]=0:=DF 0 gC Sd W
def Cn:bp [50]=2:=DF 2 gC o5 W
def LZ:bp [56]=8:=DF 8 gC Sc W
def aco:fP ⟨[48],[50]⟩=0:=by unfold fP;rw[Rb,Cn];decide +kernel
def acn:fP ⟨[49],[56]⟩=0:=by unfold fP;rw[mz,LZ];decide +kernel
def afl:J4 ⟨[48],[50]⟩=2:=by unfold J4;rw[Rb,Cn];decide +kernel
def afk:J4 ⟨[49],[56]⟩=8:=by unfold J4;rw[mz,LZ];decide +kernel
def MD:kS 2 10=9:=by unfold kS;rw[jB (e:=9) ⟨be,be⟩];rfl
def WU:kS 8 10=7:=by unfold kS;rw[jB (e:=7) ⟨be,be⟩];rfl
def aaa:kS 8 5=2:=by unfold kS;rw[jB (e:=2) ⟨be,be⟩];rfl
def afu:MY qW ⟨1,[49]⟩=8:=by unfold MY;rw[show qW.getD _ _=⟨[49],[56]⟩from W,afk,mz];decide +kernel
def afs:MY qW ⟨0,[49]⟩=2:=by unfold MY;rw[show qW.getD _ _=⟨[48],[50]⟩from W,afl,mz];decide +kernel
theorem afr(b:iM)(a:b.d=5):tE qW b CD 0=2:=by unfold tE;rw[show CD.ai.getD 0 _=⟨1,[49]⟩from W,afu,abx ⟨W,W⟩,a,aaa]
def in_1(b:iM)(a:b.s=10):tE qW b CD 1=9:=by unfold tE;rw[show CD.ai.getD 1 _=⟨0,[49]⟩from W,afs,abl I,a,MD]
def abn{k:cj}(a:cE k):uC (ou k):=⟨(gC:1<2^63),λu h=>by
 have:u=tH k:=gl
 subst this;exact⟨(gC:2<2^63),λf b=>by
  have:f.dQ=[49]:=by
   simp[tH]at b
   grind
  rw[this];exact(by unfold cE;decide:cE [49]),a,(gC:0<2^63),λs hs=>by simp[tH]at hs⟩,(gC:1<2^63)⟩
def th:uC qS:=abn (lf)
def By:∀s∈qW,cE s.lo/\cE s.hi:=by intro s hs;simp[qW]at hs;rcases hs with rfl|rfl<;>exact⟨lf,lf⟩
def abE:bE fP qW=0:=a8.2 (by intro s h;simp[qW]at h;rcases h with rfl|rfl;exact aco;exact acn)
def abj:nc qS qW=0:=by unfold nc;rw[abl<|by rw[L6];simp];exact abE
def ZM(b:iM)(a:US b):oD qS qW b=0:=by unfold oD;rw[abl<|by rw[abj];simp];exact C1.2 a
def ag3:US Xr:=⟨gC,gC,gC,gC⟩
def adB:L jz:=[⟨0,-1,9⟩,⟨-1,0,40⟩,⟨1,-1,7⟩,⟨-1,1,40⟩,⟨-1,-1,42⟩,⟨1,-1,6⟩,⟨-1,1,2⟩,⟨1,-1,8⟩,⟨-1,1,41⟩,⟨1,0,3⟩,⟨0,1,5⟩]
def aeH(b:iM)(hs:b.s=10):Q0 qW b 0=9:=by unfold Q0;rw[show qW.getD 0 _=⟨[48],[50]⟩from W,afl,hs,MD]
def aeG(b:iM)(hs:b.s=10):Q0 qW b 1=7:=by unfold Q0;rw[show qW.getD 1 _=⟨[49],[56]⟩from W,afk,hs,WU]
def adA(b:iM)(a:b.d=5)(hs:b.s=10):kK 2 qS.aa qW b=
 [⟨0,-1,9⟩,⟨-1,0,40⟩,⟨1,-1,7⟩,⟨-1,1,40⟩,⟨-1,-1,2+40⟩,⟨1,-1,2+b.g⟩,⟨-1,1,b.g-2⟩,⟨1,-1,9+2-b.c⟩,⟨-1,1,40+b.c-2⟩,⟨1,0,b.g+2-b.c⟩,⟨0,1,b.g-2+b.c⟩]:=by
 show([⟨0,-1,Q0 qW b 0⟩,⟨-1,0,40⟩,⟨1,-1,Q0 qW b 1⟩,⟨-1,1,40⟩]:L jz)++(vK 2 qW b CD++[])=_;have hu:vK 2 qW b CD=Gh qW b _:=abx W;rw[hu];unfold Gh;rw[aeH b hs,aeG b hs,afr b a,in_1 b hs];rfl
def aaO:kK 2 qS.aa qW Xr=adB:=(adA Xr W W).trans W
def xR:SV:=aj2 qW
def Kq:qW.length<2^40:=gC
end Go.Ai.Pg
section
namespace Go.Lib
open Go.Proofs Go.Proofs.Tryz
variable{P:Program}{w:World}
def JE(t u ty e:TypeId)(i:TypeInfo)(p:P.underlying t=some (.slice e))(hu:P.underlying u=some .string)(hi:P.info? e=some i)(r:i.zero=some (.int .u8 0))
 (a:i.size=1)(k:i.bytes=1)
 (v:Value)(n:Nat)(xs:L Value)(b:w.ownsRow 0 e 1 v n xs)(s:ByteArray)
 (l:n+s.size<=maxLen)(c:n+s.size<=140737488355328):
 ∃m w',(Builtin.append_ #[t,u] ty #[v,.string s]).run P w=.ok m w'/\w'.ownsRow 0 e 1 m (n+s.size) (xs++strCells s)/\w.grownBy w' v.ownBlock/\(∀g,m.ownBlock=some g->v.ownBlock=some g\/w.heap.size<=g):=by
 obtain⟨m,w',q,N,M,S⟩:=run_append_own_string w 0 t u ty e i p hu hi r a k v n xs b s l c<|abX _;refine⟨m,w',q,N,M,λT d=>?_⟩;have x:xs.length=n:=by simpa using b.1
 rcases b.2 with⟨rfl,rfl⟩|⟨g,f,cur,rfl,J,F,D,H,z,y⟩;have j:w.ownsRow w.heap.size e 1 _ 0 xs:=⟨b.1,.inl G⟩;obtain⟨R,O,k1,k2,-,-⟩:=run_append_own_string w _ t u ty e i p hu hi r a k _ 0 xs j s l c<|abY _;rw[q]at k1;obtain⟨rfl,rfl⟩:=k1;rcases k2.2 with⟨rfl,-⟩|⟨g2,C,B,rfl,K,-⟩;simp[Value.ownBlock]at d;simp only[Value.ownBlock,abL]at d;omega;by_cases h:n+s.size<=f;have A:cur.size=f:=by simpa using z
 have o:=run_append_room_string (w:=w) t u ty e i p hu hi a g n f cur F s h E;rw[q]at o;obtain⟨rfl,-⟩:=o;left;simpa[Value.ownBlock]using d;have o:=run_append_grow_string (P:=P) (w:=w) t u ty e i (.int .u8 0) p hu hi r ⟨g,0,none⟩ n f xs (by rw[a];simpa using x) (b.cells (g:=g) W) s E (by simp only[maxLen]at l;omega) (by rw[k];exact growslice_fits E E);rw[q]at o;obtain⟨rfl,-⟩:=o;simp only[Value.ownBlock,abL]at d;omega
def C9{ops:Array Oper}{rest:L Oper}{o:Oper}{a:Act}{Q:Exit->Act->World->Prop}(l:o.guard=none)(sl x:Operand)(t u:TypeId)
 (A:o.op=.call {callee:=.builtin .append,args:=#[sl,x],argTypes:=#[t,u]})
 (e:TypeId)(i:TypeInfo)(y:P.underlying t=some (.slice e))(hu:P.underlying u=some .string)(hi:P.info? e=some i)(q:i.zero=some (.int .u8 0))
 (c:i.size=1)(m:i.bytes=1)
 (v:Value)(n:Nat)(k:L Value)(hs:a.eval sl=v)(j:w.ownsRow 0 e 1 v n k)(s:ByteArray)(r:a.eval x=.string s)
 (p:n+s.size<=maxLen)(b:n+s.size<=140737488355328)
 (h:∀f d,d.ownsRow 0 e 1 f (n+s.size) (k++strCells s)->w.grownBy d v.ownBlock->(∀g,f.ownBlock=some g->v.ownBlock=some g\/w.heap.size<=g)->wpList P ops Q rest (a.put o.dst f) d):wpList P ops Q (o::rest) a w:=by
 refine wpList_plain l λK B=>?_;obtain⟨f,d,z,F,D,C⟩:=JE t u o.type e i y hu hi q c m v n k j s p b;unfold Oper.wp execOp;simp only[A,resolve,invoke,builtin,Sem.run_bind,Sem.run_pure,Result.andThen_ok,List.map_toArray,ad3,ahj,hs,r,z];exact B _ _<|h f d F D C
end Go.Lib
end
namespace Go.Proofs
open Go.Shelf Go.RowKit Go.Sort Go.Lib Go.Proofs.Tryz
def Tryz.abg:(prog.info? 375).map (·.size)=some 2:=by kernel_rfl
def Tryz.afj:liesAt prog prog.depth 375 (2/prog.cellsOf 375) 0 375 1=true:=by kernel_rfl
theorem Tryz.aaU(b:Nat)(w:World)(h0:w.cell? ⟨b,0,none⟩=some (.pointer<|some ⟨b,0,none⟩)):
 Calls prog 338 #[.pointer (some ⟨b,0,none⟩)] w λe w'=>e=.returned (.tuple #[])/\w'=w:=by
 obtain⟨j,hj,_⟩:=ahc.1 Tryz.abg
 go_enter func338,Tryz.ntmps338
 go_wp2
 rw[Lib.run_neq_ptr_same w _ underlying372 hj]
 go_wp2
 go_end0
 exact G
theorem Tryz.XY(b:Nat)(w:World)(h0:w.cell? ⟨b,0,none⟩=some (.pointer none))(hsh:w.shape? b=some (375,2))(hfz:w.frozen? ⟨b,0,none⟩=false):
 Calls prog 338 #[.pointer (some ⟨b,0,none⟩)] w λe w'=>e=.returned (.tuple #[])/\w'=w.setCell ⟨b,0,none⟩ (.pointer<|some ⟨b,0,none⟩):=by
 obtain⟨j,hj,hjs⟩:=ahc.1 Tryz.abg
 go_enter func338,Tryz.ntmps338
 go_wp2
 rw[Lib.run_to_unsafe w ⟨b,0,none⟩ underlying372 underlying417 hj (by rw[hjs];decide) hsh<|Nat.zero_lt_succ 1];simp only[Result.andThen];rw[Oper.upon_value]
 go_wp2
 rw[run_callFunc_extern func367 (by kernel_rfl) (by kernel_rfl) (by kernel_rfl) (e:=Extern.AbiNoEscape.same)<|by kernel_rfl];rw[Lib.run_noEscape];simp only[Result.andThen];rw[Oper.upon_value]
 go_wp2
 rw[Lib.run_from_unsafe w ⟨b,0,none⟩ underlying417 underlying372 hj hsh Tryz.afj];simp only[Result.andThen];rw[Oper.upon_value]
 go_wp2
 go_end0
 exact G
def Tryz.cc(b:Nat)(p v:Value)(bs:L Value)(w:World)(h:p=.pointer none\/p=.pointer (some ⟨b,0,none⟩))(c:w.heap[b]?=some (.cells #[p,v] 375 (0,0)))(a:w.ownsRow 0 5 1 v bs.length bs)(d:v.ownBlock≠some b):
 Calls prog 338 #[.pointer (some ⟨b,0,none⟩)] w λe w'=>e=.returned (.tuple #[])/\w'.heap[b]?=some (.cells #[.pointer (some ⟨b,0,none⟩),v] 375 (0,0))/\w'.ownsRow 0 5 1 v bs.length bs/\w.grownBy w' (some b):=by
 rcases h with rfl|rfl;have f:Lib.BuilderAt 375 5 0 b _ bs w:=⟨abX _,v,c,a,d⟩;refine(Tryz.XY b w f.cell0 f.shape f.frozen0).mono ?_;rintro e w'⟨rfl,rfl⟩;have g:w.grownBy (w.setCell ⟨b,0,none⟩<|.pointer<|some ⟨b,0,none⟩) (some b):=⟨W,W,W,by simp[World.setCell],λk _ i=>Below.heap_setCell _ _ _ _ λe=>i<|by simp[e]⟩;refine⟨W,by simp[World.setCell,aiX,c],a.kept g<|Or.inr d,g⟩;have f:Lib.BuilderAt 375 5 0 b _ bs w:=⟨abX _,v,c,a,d⟩;refine(Tryz.aaU b w f.cell0).mono ?_;rintro e w'⟨rfl,rfl⟩;exact⟨W,c,a,W,W,W,abY _,λ_ _ _=>rfl⟩
theorem Tryz.wrS(b:Nat)(p v:Value)(bs:List Value)(s:ByteArray)(w:World)(hp:p=.pointer none\/p=.pointer (some ⟨b,0,none⟩))(hbk:w.heap[b]?=some (.cells #[p,v] 375 (0,0)))(hown:w.ownsRow 0 5 1 v bs.length bs)(hne:v.ownBlock≠some b)(hlen:bs.length+s.size<=140737488355328):
 Calls prog 302 #[.pointer (some ⟨b,0,none⟩),.string s] w λe w'=>e=.returned (.tuple #[.int .i64 s.size,.nilIface])/\∃v',w'.heap[b]?=some (.cells #[.pointer (some ⟨b,0,none⟩),v'] 375 (0,0))/\
  w'.ownsRow 0 5 1 v' (bs++Lib.strCells s).length (bs++Lib.strCells s)/\v'.ownBlock≠some b/\(∀g,v'.ownBlock=some g->v.ownBlock=some g\/w.heap.size<=g)/\
  w'.os=w.os/\w'.tape=w.tape/\w'.output=w.output/\w.heap.size<=w'.heap.size/\∀k,k<w.heap.size->k≠b->v.ownBlock≠some k->w'.heap[k]?=w.heap[k]?:=by
 have hib:(prog.info? 5).map (λi=>(i.zero,i.size,i.bytes))=some (some<|.int .u8 0,1,1):=by kernel_rfl
 obtain⟨i0,hi,hz0,hz1,hz2⟩:=info_parts hib
 go_enter func302,Tryz.ntmps302
 go_wp2_with (go_at_call 338;refine(Tryz.cc b p v bs _ hp hbk hown hne).mono ?_)
 rintro e w1⟨rfl,hbk,hown,hg1⟩;have c0:w1.cell? ⟨b,0,none⟩=some (.pointer<|some ⟨b,0,none⟩):=ip
 have c1:w1.cell? ⟨b,1,none⟩=some v:=ip
 go_wp2_with (at_builtin;refine Lib.C9 W _ _ 373 9 W 5 i0 underlying373 underlying9 hi hz0 hz1 hz2 _ _ _ W hown s W ?c3 ?c4 ?_)
 case c3=>unfold maxLen;omega
 case c4=>omega
 intro v' w2 hown' hgrow hnew;have hlt:b<w1.heap.size:=by grind
 have hb2:w2.heap[b]?=some (.cells #[.pointer (some ⟨b,0,none⟩),v] 375 (0,0)):=by rw[hgrow.block b hlt λe=>hne e.symm];exact hbk
 have d0:w2.cell? ⟨b,0,none⟩=some (.pointer<|some ⟨b,0,none⟩):=iu
 have d1:w2.cell? ⟨b,1,none⟩=some v:=iu
 have f1:w2.frozen? ⟨b,1,none⟩=false:=Lib.frozen_of_heap hb2 1;obtain⟨ao,n',cap,rfl⟩:∃ao n' cap,v'=.slice ao n' cap:=by rcases hown'.2 with⟨hv,_⟩|⟨g,cap,cur,hv,_⟩;exact⟨_,_,_,hv⟩;simp_all
 go_wp2
 go_ret2
 have hne':=Lib.ownBlock_ne hown' hb2 (gC:(375:TypeId)≠5);have hg3:w2.grownBy (w2.setCell ⟨b,1,none⟩<|.slice ao n' cap) (some b):=⟨W,W,W,by simp[World.setCell],λk _ hk=>Below.heap_setCell _ _ _ _ λe=>hk<|by simp[e]⟩;have hs1:=hg1.size;have hs2:=hgrow.size;have hs3:=hg3.size;refine⟨W,.slice ao n' cap,by simp[World.setCell,aiX,hb2],?_,hne',λg hg=>(hnew g hg).imp id λh=>E,?_,?_,?_,E,λk hk hkb hkv=>?_⟩;have:=hown'.kept (row:=some b) hg3<|Or.inr hne';simpa[Lib.strCells_length]using this;exact(hg3.os.trans hgrow.os).trans hg1.os;exact(hg3.tape.trans hgrow.tape).trans hg1.tape;exact(hg3.output.trans hgrow.output).trans hg1.output;have e1:some k≠some b:=λe=>hkb (b6);rw[hg3.block k E e1,hgrow.block k E λe=>hkv e.symm,hg1.block k hk e1]
def Kj(w:World)(g n:Nat):(w.drew.freeze ⟨g,0,none⟩ n).os=w.os/\(w.drew.freeze ⟨g,0,none⟩ n).tape=w.tape/\(w.drew.freeze ⟨g,0,none⟩ n).output=w.output/\w.heap.size<=(w.drew.freeze ⟨g,0,none⟩ n).heap.size/\
 ∀k,k≠g->(w.drew.freeze ⟨g,0,none⟩ n).heap[k]?=w.heap[k]?:=by
 unfold World.freeze;split;exact⟨W,W,W,abY _,λ_ _=>rfl⟩;refine⟨W,W,W,?_,λk h=>?_⟩;simp only[Array.size_modify];exact abY _;show(w.heap.modify g _)[k]?=_;rw[aiX,abl λe=>h e.symm]
theorem Tryz.ag4(b:Nat)(p v:Value)(l:List UInt8)(w:World)(hbk:w.heap[b]?=some (.cells #[p,v] 375 (0,0)))(hown:w.ownsRow 0 5 1 v (Lib.byteCells l).length (Lib.byteCells l))(h0:l≠[]):
 Calls prog 303 #[.pointer (some ⟨b,0,none⟩)] w λe w'=>e=.returned (.string ⟨l.toArray⟩)/\
  w'.os=w.os/\w'.tape=w.tape/\w'.output=w.output/\w.heap.size<=w'.heap.size/\∀k,k<w.heap.size->v.ownBlock≠some k->w'.heap[k]?=w.heap[k]?:=by
 have hl0:l.length≠0:=by simpa using h0
 rw[Lib.byteCells_length]at hown;obtain⟨g,cap,cur,rfl,hbg,hg,hnc,hcm,hcs,htake⟩:∃g cap cur,v=.slice (some ⟨g,0,none⟩) l.length cap/\0<=g/\w.heap[g]?=some (.cells cur 5 (0,0))/\l.length<=cap/\cap<=maxLen/\cur.size=cap*1/\cur.toList.take (l.length*1)=Lib.byteCells l:=by rcases hown.2 with⟨_,hz⟩|⟨g,cap,cur,hv,r⟩;exact abK hz hl0;exact⟨g,cap,cur,hv,r⟩
 have c1:w.drew.cell? ⟨b,1,none⟩=some (.slice (some ⟨g,0,none⟩) l.length cap):=by have:w.drew.heap[b]?=some (.cells #[p,.slice (some ⟨g,0,none⟩) l.length cap] 375 (0,0)):=hbk;rw[Lib.cell_of_heap this];rfl
 have hSD:(Builtin.unsafeSliceData_ #[373] 395 #[.slice (some ⟨g,0,none⟩) l.length cap]).run prog w.drew=.ok (.pointer<|some ⟨g,0,none⟩) w.drew:=Lib.run_unsafeSliceData_row _ _ _ _ _ _ E
 have hUS:(Builtin.unsafeString_ #[395,3] 9 #[.pointer (some ⟨g,0,none⟩),.int .i64 l.length]).run prog w.drew=.ok (.string ⟨l.toArray⟩) (w.drew.freeze ⟨g,0,none⟩ l.length):=by refine Lib.run_unsafeString_row w.drew 395 3 9 5 underlying395 (by kernel_rfl) g cur.size (by have hg':w.drew.heap[g]?=some (.cells cur 5 (0,0)):=hg;simp[World.shape?,hg']) l h0 E (by unfold maxLen at hcm;omega) ?_;intro j x hx;have:=hown.cells (g:=g) W j (.int .u8 x.toNat) (by simp[Lib.byteCells,hx]);exact this
 have hfr:=Kj w g l.length;have mixed:prog.follows .mixedOrders=true:=gq
 go_enter func303,Tryz.ntmps303
 go_wp2
 go_region_o
 all_goals(go_wp2;go_ret;exact⟨W,hfr.1,hfr.2.1,hfr.2.2.1,hfr.2.2.2.1,λk _ hkv=>hfr.2.2.2.2 k λe=>hkv<|by simp[Value.ownBlock,e]⟩)
end Go.Proofs
namespace Go.Ai.Pg
def GL(b:Nat)(l:cj):sV:=λw _ F=>∃p v,(p=.pointer none\/p=.pointer (some ⟨b,0,none⟩))/\w.heap[b]?=some (.cells #[p,v] 375 (0,0))/\w.ownsRow 0 5 1 v (Lib.byteCells l).length (Lib.byteCells l)/\v.ownBlock≠some b/\F=b::v.ownBlock.toList
def GL.closed{b:Nat}{l:cj}{w:World}{S:Nat->Prop}{F:L Nat}(h:GL b l w S F):sV.here (GL b l) w S F:=by intro m n e _;obtain⟨p,v,j,k,d,a,rfl⟩:=h;refine⟨p,v,j,by rw[e b<|.inr I];exact k,?_,a,W⟩;refine⟨d.1,?_⟩;rcases d.2 with h|⟨g,c,cur,rfl,r1,i,f⟩;exact .inl h;exact .inr ⟨g,c,cur,W,r1,by rw[e g<|.inr<|by simp[Value.ownBlock]];exact i,f⟩
def GL.new(b:Nat)(w:World)(S:Nat->Prop)(h:w.heap[b]?=some (.cells #[.pointer none,.slice none 0 0] 375)):GL b [] w S [b]:=⟨_,_,.inl W,h,⟨W,.inl G⟩,by simp[Value.ownBlock],W⟩
def xU(b:Nat)(l s:cj)(hl:l.length+s.length<2^46):UQ prog 302 (·=.pointer (some ⟨b,0,none⟩)) (GL b l) (GL b<|l++s) (aE [.s s]) (SV.de [.i s.length,.c .nilIface]).den:=by
 rintro v rfl w S F R X V K D x u hc;obtain⟨p,v,B,J,C,m,rfl⟩:=K w S (λ_ _=>rfl) λ_ h=>h;obtain⟨y,T,F1,F2,rfl,M,_,A,rfl,rfl⟩:=hc;obtain⟨_,rfl,rfl⟩:=A;have d:(bs s).size=s.length:=by show s.toArray.size=_;simp
 refine sT.mB func302 W W<|(Tryz.wrS b p v _ _ w B J C m<|by rw[Lib.byteCells_length,d];omega).mono ?_;rintro e j⟨rfl,a,k1,k2,k3,k4,k5,k6,k7,k8,k9⟩;have N:Lib.byteCells l++Lib.strCells (bs s)=Lib.byteCells (l++s):=by rw[Lib.byteCells_append];rfl
 rw[N]at k2;have q:b<j.heap.size:=by apply aha;intro h;rw[aik E]at k1;simp at k1
 have t:GL b (l++s) j S (b::a.ownBlock.toList):=⟨_,a,.inr W,k1,k2,k3,W⟩;have n:∀g,a.ownBlock=some g->g<j.heap.size:=by intro g o;rcases k2.2 with⟨rfl,-⟩|⟨Y,O,cur,rfl,-,r,-⟩;simp[Value.ownBlock]at o;simp only[Value.ownBlock,abL]at o;subst o;apply aha;intro h;rw[aik E]at r;simp at r
 refine⟨_,W,S,b::a.ownBlock.toList,k5,k6,k7,k8,λk H f=>k9 k H (λe=>f<|by simp[e]) λe=>f<|by simp[e],λ_ h=>h,λ_ h=>.inl h,λc hc=>aey (u c hc) k8,t.closed,?_,?_,?_⟩;cases z:a.ownBlock with
 |none=>simp
 |some g=>rw[z]at k3;simp at k3⊢;exactλe=>k3 e.symm
 ·intro c hc;rcases adb.1 hc with rfl|hc;exact⟨.inr I,q,(x _ I).2⟩;have hc:a.ownBlock=some c:=by simpa using hc
  refine⟨(k4 c hc).symm.imp id λh=>by simp[h],n c hc,?_⟩;rcases k4 c hc with h|h;exact(x c<|by simp[h]).2;exactλhs=>by have:=u c hs;omega
 intro P Z;simp only[SV.den,aE,Rel,Cells];refine⟨_,W,_,_,[],[],W,W,I,?_,_,_,[],[],W,W,I,?_,W,W⟩;simp[Rel,scalar,d];simp[Rel,scalar]
def ad0:sV:=λ_ _ F=>F=[]
def Ct(b:Nat)(l:cj)(o:l≠[]):UQ prog 303 (·=.pointer (some ⟨b,0,none⟩)) (GL b l) ad0 (aE []) (SV.s l).den:=by rintro v rfl w S F r x u n g y m hc;obtain⟨p,v,t,j,d,f,rfl⟩:=n w S (λ_ _=>rfl) λ_ h=>h;obtain⟨rfl,-⟩:=hc;refine sT.mB func303 W W<|(Tryz.ag4 b p v l w j d o).mono ?_;rintro e q⟨rfl,k5,k6,k7,k8,k9⟩;exact⟨_,W,S,[],k5,k6,k7,k8,λk i a=>k9 k i λe=>a<|by simp[e],λ_ h=>h,λ_ h=>.inl h,λc hc=>aey (m c hc) k8,λ_ _ _ _=>rfl,aee,I,λ_ _=>by simp[SV.den,Rel,scalar,bs]⟩
def ov(m:Nat):L cj:=if h:m=0 then[]else if m/10^18=0 then[decl m 1]else decl (m%10^18) 18::ov (m/10^18)
 termination_by m
 decreasing_by exact ahu (ahD h) gC
def Gi:ov 0=[]:=by rw[ov];simp
def Au{m:Nat}(h:m≠0)(a:m/10^18=0):ov m=[decl m 1]:=by rw[ov,dif_neg h,abx a]
def As{m:Nat}(a:m/10^18≠0):ov m=decl (m%10^18) 18::ov (m/10^18):=by
 have h:m≠0:=by rintro rfl;exact a W
 rw[ov,dif_neg h,abl a]
def NW(m:Nat)(h:m≠0):(ov m).reverse.flatten=decl m 1:=by
 induction m using Nat.strongRecOn with
 |ind m c=>
  by_cases a:m/10^18=0;rw[Au h a];simp;rw[As a,List.reverse_cons,List.flatten_append,c _ (ahu E gC) a];have hs:=yn (q:=m/10^18) E 18 (m%10^18) 1 (aea _ gC);have e:m/10^18*10^18+m%10^18=m:=by have b:(10:Nat)^18=10^18:=gC;rw[b];omega
  rw[e]at hs;rw[hs,show 1-18=0 from gq,Am E];simp
def adD{m:Nat}(h:m≠0):ov m≠[]:=by by_cases a:m/10^18=0;rw[Au h a];simp;rw[As a];simp
def Sb(m:Nat):∀(k:Nat),m<1000000000000000000^k->(ov m).length<=k:=by
 induction m using Nat.strongRecOn with
 |ind m b=>
  intro k c;by_cases h:m=0;subst h;rw[Gi];simp;cases k with
  |zero=>simp at c;omega
  |succ k=>
   by_cases a:m/10^18=0;rw[Au h a];simp;rw[As a,acC];have:=b (m/10^18) (ahu E gC) k (by exact Nat.div_lt_of_lt_mul<|by rwa[aej])
   omega
def aep:(10:Nat)^18=10^18:=gC
def aaJ{m:Nat}(h:m<10^18):(decl m 1).length<=18:=cY m 1 18 (by rwa[aep]) gC
def XI:∀j,decl 0 j=List.replicate j 48
 |0=>dm
 |j+1=>by rw[bu E,show _/10=0 from gq,show j+1-1=j from E,XI j,List.replicate_succ'];rfl
def Qc(m:Nat):∀k,1<=k->(decl m 1).length<=k->decl m k=List.replicate (k-(decl m 1).length) 48++decl m 1:=by
 induction m using Nat.strongRecOn with
 |ind m b=>
  intro k e hl;have a:decl m 1=decl _ 0++[XK _]:=bu E;rw[bu E];by_cases h:m/10=0;rw[a,h,dm,XI];simp;have d:decl _ 0=decl (m/10) 1:=Am E;rw[a,d]at hl⊢;rw[ad9,ajx]at hl⊢;have c:1<=(decl (m/10) 1).length:=by rw[bu E];simp
  rw[b _ (ahu E gC) _ E E];rw[show k-1-(decl _ 1).length=k-((decl (m/10) 1).length+1)from E,aen]
def NC:bI.ah (10^18)=[10^18]:=pq gC gC
def EW{M K:Nat}(h:(bI.ah M).length<=K):M<100000000000000000000^K:=by
 have a:∀(B n:Nat),(M:Int)<(B:Int)^n->M<B^n:=λB n h=>by exact_mod_cast h
 have d:=a 18446744073709551616 _<|bI.bT M;have c:18446744073709551616^(bI.ah M).length<=18446744073709551616^K:=aeh gC h;have b:18446744073709551616^K<=100000000000000000000^K:=ah2 gC K;omega
def Lh{M K:Nat}(h:(bI.ah M).length<=K)(a:1<=K):(decl M 1).length<=20*K:=by
 have:=EW h;have e:100000000000000000000^K=10^(20*K):=by rw[ahU]
 rw[e]at this;exact cY M 1 _ this E
def SY(a:Nm)(h:bz a){K:Nat}(hl:fY a K)(hK:K<2^36):ab 232 [qA a] (.s<|b7<|nv a):=by
 have J:=bI.eM a h;obtain⟨s,w⟩:=a;cases w with
 |none=>have h: -9223372036854775808<=s/\s<=9223372036854775807:=h;refine cx func232 W<|cu W W (W3 s h.1 h.2) W<|cq W W
 |some d=>
  obtain⟨o,v⟩:(s=1\/s= -1)/\9223372036854775808<=d:=h;obtain⟨M,y⟩:∃M,M=(nv ⟨s,some d⟩).natAbs:=⟨_,W⟩;have X:M=d:=by
   rw[y];show(s*d).natAbs=d
   grind
  have hl:(bI.ah M).length<=K:=by rw[y];exact hl
  rw[<-y]at J;have f:M≠0:=E;refine cx func232 W ?_;have C:bI.ah d≠[]:=by intro e;have:=bI.bF d;rw[e]at this;simp[bI.val]at this;omega
  refine r1 W (by simp only[aj,abu];exact C) ?_;refine b8 W J W<|r0 W<|vm [(3,.u<|decide (s<0)),(4,gw<|bI.ah M),(5,gw<|bI.ah 1000000000000000000),(6,.strs true [])] ⟨ak,ak,⟨W,W,.shr<|by rw[NC];rfl⟩,⟨W,W,.le<|show aB .nil (.strs true [])from W⟩,U⟩ ?_;refine lM (λ(m:Nat)(c:L cj)=>[(3,.u<|decide (s<0)),(4,gw<|bI.ah m),(5,gw<|bI.ah 1000000000000000000),(6,.strs true c)]) (λm c=>c++ov m=ov M/\m<=M) (λm _=>m) M [] ⟨W,abY _⟩ ⟨G,G,G,G,U⟩ ?_;rintro m c⟨z,hm⟩;refine cv W W ?_ ?_<;>intro g;have g:0<m:=by rcases af8 m with h|h;subst h;have g:(0:Int)<((bI.ah 0).length:Int):=g;rw[bI.dj]at g;simp at g;exact h
  have D:(bI.ah m).length<2^40:=by
   have:(bI.ah m).length<=(bI.ah M).length:=by apply aha;intro h;have:=bI.cX<|Nat.lt_of_not_le h;omega
   omega
  obtain⟨r,H⟩:∃r,r=m%1000000000000000000:=⟨_,W⟩;obtain⟨q,x⟩:∃q,q=m/1000000000000000000:=⟨_,W⟩;have p:r<1000000000000000000:=E;have A:=aaJ p;have B:q<m:=E;have j:ov m=(if q=0 then decl r 1 else decl r 18)::ov q:=by
   by_cases h:q=0;rw[abx h,Au E<|by rw[<-x];exact h,h,Gi]
   grind
   rw[abl h,As<|by rw[<-x];exact h,H,x]
  have Y:c.length+1<=2*K:=by
   have e:=aal List.length z;rw[j,ad9,acC]at e;have o:=EW hl;have v:M<1000000000000000000^(2*K):=by refine aey o ?_;rw[ahU];exact ah2 gC K
   have:=Sb M (2*K) v;omega
  refine cu W W (Aj m 1000000000000000000 gC D<|by rw[NC];decide) W ?_;rw[<-x,<-H];refine rn 6 W<|cU 2 [(3,.u<|decide (s<0)),(5,gw<|bI.ah 1000000000000000000),(6,.strs true c),(7,gw<|bI.ah q),(9,.s<|decl r 1)] True ?_ λ_=>?_;refine cv W W ?_ ?_<;>intro g1;have k:0<r:=by rcases af8 r with h|h;rw[h]at g1;have g1:(0:Int)<((bI.ah 0).length:Int):=g1;rw[bI.dj]at g1;simp at g1;exact h
  have O:=pq k E;rw[O];refine r1 W (by simp only[aj,abu]<;>simp) ?_;refine b8 W (afy r E) W<|r0 W<|bo U;have k:r=0:=by rcases af8 r with h|h;exact h;exact abK (show(0:Int)<((bI.ah r).length:Int) by have:=bI.gU (n:=r) E;omega) g1
  refine r0 W ?_;rw[k];exact eV U ⟨G,G,G,G,⟨W,aj8 SV.s<|by rw[bu E];simp[dm];rfl⟩,U⟩;refine cU 1 [(3,.u<|decide (s<0)),(5,gw<|bI.ah 1000000000000000000),(6,.strs true c),(7,gw<|bI.ah q),(9,.s<|if q=0 then decl r 1 else decl r 18)] True ?_ λ_=>?_;refine cv W W ?_ ?_<;>intro g1;have l:¬q=0:=by intro h;rw[h]at g1;have g1:(0:Int)<((bI.ah 0).length:Int):=g1;rw[bI.dj]at g1;simp at g1
  refine r1 W bj<|Hh (us:=[.s [48],.i (18-(decl r 1).length:Nat)]) W W U ⟨W,aal SV.i E,U⟩ (acF _ E) W<|r1 W (by simp only[aj,abu]<;>simp<;>omega) ?_;refine eV U ⟨G,G,G,G,⟨W,aj8 SV.s ?_⟩,U⟩;rw[abl l,Qc r 18 gC A];have l:q=0:=by rcases af8 q with h|h;exact h;exact abK (show(0:Int)<((bI.ah q).length:Int) by have:=bI.gU (n:=q) E;omega) g1
  refine cn W U ⟨G,G,G,G,⟨W,aj8 SV.s<|by rw[abx l]⟩,U⟩;refine r1 W (by simp only[aj,abu,acC,ad1]<;>omega) ?_;refine again (q,c++[if q=0 then decl r 1 else decl r 18]) B ⟨by rw[<-z,j];simp,E⟩ ⟨G,G,G,G,U⟩;have g:m=0:=by rcases af8 m with h|h;exact h;exact abK (show(0:Int)<((bI.ah m).length:Int) by have:=bI.gU (n:=m) E;omega) g
  subst g;rw[Gi,ahl]at z;subst z;have V:∀t,((if s<0 then[45]else[])++((ov M).drop t).reverse.flatten).length<=20*K+1:=by
   intro t;have F:1<=K:=by have:=bI.gU (n:=M) f;omega
   have o:=Lh hl F;rw[<-NW M f]at o;have v:(ov M).reverse=((ov M).drop t).reverse++((ov M).take t).reverse:=by simp
   grind
  have R:=adD f;have P:(ov M).length<=2*K:=by
   have o:=EW hl;have v:M<1000000000000000000^(2*K):=by refine aey o ?_;rw[ahU];exact ah2 gC K
   exact Sb M (2*K) v
  have T:0<(ov M).length:=by grind
  refine rn 2 W<|Yj (λb=>GL b []) W W (zs:=#[.pointer none,.slice none 0 0]) (λw=>gq) (λb w S h=>GL.new b w S h) λb=>?_;refine cU 1 [(6,.strs true<|ov M),(10,.pv (·=.pointer (some ⟨b,0,none⟩))),(500,.abs<|GL b<|if s<0 then[45]else[])] True ?_ λ_=>?_;refine cv W W ?_ ?_<;>intro g1;refine r0 W<|Il W W U (xU b [] [45] gC) (J':=GL b [45]) (r:=.de [.i 1,.c .nilIface]) W<|r0 W ?_;rw[abx g1];exact eV U ⟨G,G,W,U⟩;refine r0 W ?_;rw[abl g1];exact eV U ⟨G,G,W,U⟩;refine r1 W bj<|loop (λt:Nat=>[(6,.strs true<|ov M),(10,.pv (·=.pointer (some ⟨b,0,none⟩))),(11,.i<|(t:Int)-1),(500,.abs<|GL b<|(if s<0 then[45]else[])++((ov M).drop t).reverse.flatten)]) (λt=>t<=(ov M).length) (λt=>t) (ov M).length (abY _)
   ⟨G,G,G,(by show SV.abs _=SV.abs _;simp),U⟩ ?_
  intro t ht;refine cv W W ?_ ?_<;>intro g1;obtain⟨t,rfl⟩:∃u,t=u+1:=⟨t-1,E⟩;have N:(((t+1:Nat):Int)-1).toNat=t:=E;refine r1 W (by simp only[aj,abu,N];omega) ?_;rw[N];have eg:(ov M).getD t []=(ov M)[t]:=az E;have O:(ov M).drop t=(ov M)[t]::(ov M).drop (t+1):=ad5 E;have Z:((if s<0 then[45]else[])++((ov M).drop<|t+1).reverse.flatten)++(ov M)[t]=(if s<0 then[45]else[])++((ov M).drop t).reverse.flatten:=by grind
  rw[eg];refine Il W W U (xU b _ (ov M)[t] (by grind)) (J':=GL b<|((if s<0 then[45]else[])++((ov M).drop<|t+1).reverse.flatten)++(ov M)[t]) (r:=.de [.i ((ov M)[t].length:Int),.c .nilIface]) W ?_
  rw[Z];refine r1 W bj<|again t E E ⟨G,G,⟨W,aj8 SV.i E⟩,W,U⟩;have:t=0:=E;subst this;rw[ahe,NW M f];have i:(if s<0 then[45]else[])++decl M 1=b7 (nv ⟨s,some d⟩):=by
   unfold b7;rw[<-y];have hv:nv ⟨s,some d⟩=s*d:=W
   grind
  rw[i];refine r0 W<|Il W W U (Ct b _ (by rw[<-i];intro e;have:=aal List.length e;rw[ad9,bu E]at this;simp at this)) (J':=ad0) (r:=.s<|b7<|nv ⟨s,some d⟩) W<|cq W W
def yE(a:Nm)(h:bz a){K:Nat}(hl:fY a K)(b:K<2^36):ab 232 [eN a] (.s<|b7<|nv a):=(SY a h hl b).same (by simp only[aE,tT h]) W
def R7{f:Fr}{q:Rat}(h:cB f q):(f.d.w=none/\f.d.s=1)↔q.den=1:=by
 have a:=h.vd;have b:=h.d;obtain⟨n,d,w⟩:=f;cases w with
 |none=>have a:d=q.den:=a;simp;omega
 |some m=>have b:(d=1\/d= -1)/\9223372036854775808<=m:=b;have a:d*(m:Int)=q.den:=a;simp;rcases b.1 with rfl|rfl<;>omega
def jZ{z:Int}{K:Nat}(h:(bI.ah z.natAbs).length<=K):(b7 z).length<=20*(K+1)+1:=by have:=Lh (M:=z.natAbs) (K:=K+1) E E;unfold b7;split;rw[acC];omega;omega
def AS(f:Fr){q:Rat}(h:cB f q){K:Nat}(hl:kV f K)(b:K<2^36):ab 183 [eF f] (.s<|qt q):=by
 have a:=yE f.n h.n hl.1 b;have c:=yE f.d h.d hl.2 b;rw[h.vn]at a;rw[h.vd]at c;have n1:=jZ (show(bI.ah q.num.natAbs).length<=K by rw[<-h.vn];exact hl.1);have e:=jZ (show(bI.ah (q.den:Int).natAbs).length<=K by rw[<-h.vd];exact hl.2);refine cx func183 W<|cu W W (Bm f h) W<|cg W ?_ ?_<;>intro g;have g:=(R7 h).1 g;refine cu W W a W<|cm W W<|aj8 SV.s ?_;unfold qt wP eR;rw[abx g];simp;have g:¬q.den=1:=λd=>g<|(R7 h).2 d;refine ct W W a W<|r1 W (na) ?_;refine b9 W c W<|k1 W aP (by simp only[aj,abu,ad9,acC,ad1];omega) ?_;refine aJ W<|aj8 SV.s ?_;unfold qt wP eR;rw[abl g];have:b7 (q.den:Int)=decl q.den 1:=by unfold b7;rw[abl E];rfl
 rw[this];simp
end Go.Ai.Pg
namespace Go.Ai.bI
section
variable{f:Fr}{k:L Int}{p:L aZ}{q:Rat}
def D0(n:Nat):(bI.ah n).length<=(Go.Ai.ah n).length:=by by_cases a:n=0;subst a;rw[bI.dj];simp;have e:=bI.Kx (n:=n) E;have d:n<1000000000^(Go.Ai.ah n).length:=Int.ofNat_lt.1 (by rw[Int.natCast_pow];exact Go.Ai.bT n);apply Nat.le_of_not_lt;intro h;have c:(1000000000:Nat)^(Go.Ai.ah n).length<=1000000000^((bI.ah n).length-1):=aeh gC E;have b:(1000000000:Nat)^((bI.ah n).length-1)<=18446744073709551616^((bI.ah n).length-1):=ah2 gC _;omega
def eX{K:Nat}(h:cB f q)(hs:Sz q K):kV f K:=by constructor;unfold fY;rw[h.vn];exact ab7 (D0 _) hs.1;unfold fY;rw[h.vd];exact ab7 (D0 _) hs.2
structure Tm where
 f:Fr
 pw:List Int
instance:Inhabited Tm:=⟨⟨⟨⟨0,none⟩,⟨0,none⟩⟩,[]⟩⟩
def fq(f:Fr):Rat:=Rat.divInt (nv f.n)<|nv f.d
def cB.fq(h:cB f q):fq f=q:=by unfold bI.fq;rw[h.vn,h.vd];simp
def Tm.tr(t:Tm):aZ:=⟨fq t.f,t.pw⟩
def Tm.ok(t:Tm):Prop:=cB t.f<|fq t.f
def cB.self(h:cB f q):cB f (bI.fq f):=by rwa[h.fq]
def l9(f:Fr)(pw:L Int):L Tm->L Tm
 |[]=>[⟨f,pw⟩]
 |t::E=>if t.pw=pw then⟨w7 f t.f,pw⟩::E else t::l9 f pw E
def sB(l:L Tm):L Tm:=l.foldl (λa t=>l9 t.f t.pw a) []
def Dr(p:L aZ)(k:L Int):Rat:=match p.find? (λu=>decide (u.pw=k))with
 |some u=>u.c
 |none=>0
def R9(k:L Int):Dr [] k=0:=W
def eE(u:aZ)(p:L aZ)(k:L Int):Dr (u::p) k=if u.pw=k then u.c else Dr p k:=by unfold Dr;grind
def Ge(h:∀u∈p,u.pw≠k):Dr p k=0:=by
 induction p with
 |nil=>rfl
 |cons u p a=>rw[eE,abl<|h u I,a λv b=>h v<|by simp[b]]
def KC(hn:(p.map (·.pw)).Nodup){u:aZ}(h:u∈p):Dr p u.pw=u.c:=by
 induction p with
 |nil=>cases h
 |cons v p a=>
  rw[eE]
  grind
def vJ(h:Dr p k≠0):∃u∈p,u.pw=k/\u.c=Dr p k:=by
 induction p with
 |nil=>exact abK W h
 |cons v p a=>
  rw[eE]at h⊢
  grind
def AM.nodup(h:AM p):(p.map (·.pw)).Nodup:=by refine ajc.2<|List.Pairwise.imp (λ{a b}g e=>?_) h;rw[e,iy]at g;cases g
def NU{t:aZ}:∀{p:L aZ},AM p->(∀u∈p,u.pw.length=t.pw.length)->∀k,Dr (nX t p) k=Dr p k+if t.pw=k then t.c else 0
 |[],_,_,k=>by
  unfold nX;split
  grind
  rw[eE,R9];split<;>grind
 |u::r,h,l,k=>by
  have hu:=(ahp.1 h).1;unfold nX;split;rename_i d;have j:u.pw≠t.pw:=λe=>by rw[e,iy]at d;cases d
  rw[eE,eE,NU ((ahp.1 h).2) (λv b=>l v<|by simp[b]) k]
  grind
  rename_i d;split;rename_i e;have a:∀v∈r,v.pw≠t.pw:=λv b g=>by grind
  split;rename_i i;rw[eE];by_cases g:u.pw=k;subst g;rw[abx W,abx e.symm,Ge (λv b=>e▸a v b)];exact i.symm
  grind
  rw[eE,eE]
  grind
  rename_i e;have a:∀v∈u::r,v.pw≠t.pw:=λv b g=>by grind
  split
  grind
  rw[eE];by_cases g:t.pw=k;rw[abx g,abx g];rw[Ge (g▸a)];grind
  grind
def Nz(p:L aZ):Prop:=∀u∈p,u.c≠0
def RF{t:aZ}:∀{p:L aZ},Nz p->Nz (nX t p)
 |[],_,u,hu=>by unfold nX at hu;simp_all
 |v::r,h,u,hu=>by
  have a:Nz r:=λw b=>h w (by simp[b]);unfold nX at hu;split at hu;rcases adb.1 hu with rfl|hu;exact h _ I;exact RF a u hu;split at hu;split at hu;exact a u hu;rcases adb.1 hu with rfl|hu
  assumption
  exact a u hu;split at hu;exact h u hu;rcases adb.1 hu with rfl|hu
  assumption
  exact h u hu
def EG:∀{l p:L aZ},Nz p->Nz (l.foldl jK p)
 |[],_,h=>h
 |t::l,p,h=>EG (p:=jK p t) (by rw[jA];exact RF h)
def QV:∀{p q:L aZ},AM p->AM q->Nz p->Nz q->(∀k,Dr p k=Dr q k)->p=q
 |[],[],_,_,_,_,_=>rfl
 |[],v::q,_,_,_,hn,h=>abK ((h _).symm.trans W) (by rw[eE,abx W];exact hn v I)
 |u::p,[],_,_,hn,_,h=>abK ((h _).trans W) (by rw[eE,abx W];exact hn u I)
 |u::p,v::q,o,n,np,l,h=>by
  have hu:=(ahp.1 o).1;have m:=(ahp.1 n).1;have A:Dr (v::q) u.pw=u.c:=by rw[<-h,eE,abx W]
  have y:Dr (u::p) v.pw=v.c:=by rw[h,eE,abx W]
  have e:u.pw=v.pw:=by obtain⟨a,j,t,-⟩:=vJ (by rw[A];exact np u I);obtain⟨b,i,s,-⟩:=vJ (by rw[y];exact l v I);rcases adb.1 j with rfl|j;exact t.symm;rcases adb.1 i with rfl|i;exact s;have g1:=m a j;have g2:=hu b i;rw[t]at g1;rw[s]at g2;have:=iL g1 g2;rw[iy]at this;cases this
  have B:u=v:=by cases u;cases v;simp_all
  subst B;rw[QV (ahp.1 o).2 (ahp.1 n).2 (λw c=>np w<|by simp[c]) (λw c=>l w<|by simp[c]) λk=>?_];by_cases d:u.pw=k;subst d;have z:∀{r:L aZ},(∀w∈r,beforeL _ w.pw=true)->Dr r u.pw=0:=λ{r}x=>Ge λw c g=>by have:=x w c;rw[g,iy]at this;cases this
  rw[z hu,z m];have:=h k;rwa[eE,eE,abl d,abl d]at this
structure K7(E:List Tm)(p:List aZ):Prop where
 ok:∀t∈E,t.ok
 nd:(E.map (·.pw)).Nodup
 co:∀k,Dr (E.map Tm.tr) k=Dr p k
def K7.nil:K7 [] []:=⟨I,I,λ_=>rfl⟩
def Kk{g:Fr}{p:Rat}(b:cB f p)(a:cB g q):cB (w7 f g) (p+q):=(Jf f g b a ⟨aiO _ (ah (nv f.d).natAbs).length,aiP _ _⟩ ⟨aiO _ (ah (nv g.d).natAbs).length,aiP _ _⟩).1
def Je{f:Fr}{pw:L Int}(c:cB f (fq f)):∀{E:L Tm},(∀t∈E,t.ok)->(E.map (·.pw)).Nodup->
 (∀t∈l9 f pw E,t.ok)/\((l9 f pw E).map (·.pw)).Nodup/\(∀x,x∈(l9 f pw E).map (·.pw)->x=pw\/x∈E.map (·.pw))/\∀k,Dr ((l9 f pw E).map Tm.tr) k=Dr (E.map Tm.tr) k+if pw=k then fq f else 0
 |[],_,_=>by refine⟨λt d=>?_,by simp[l9],by simp[l9],λk=>?_⟩;simp[l9]at d;subst d;exact c;show Dr [Tm.tr ⟨f,pw⟩] k=_;rw[eE];show(if pw=k then fq f else Dr [] k)=Dr [] k+_;rw[R9];split<;>grind
 |t::E,g,hn=>by
  have b:=hn;rw[ad3,af6]at b;unfold l9;by_cases e:t.pw=pw;rw[abx e];have a:=Kk c<|g t<|by simp
  refine⟨λu hu=>?_,by simp_all,by simp_all,λk=>?_⟩;rcases adb.1 hu with rfl|hu;exact a.self;simp_all;rw[ad3,ad3,eE,eE];show(if pw=k then fq _ else _)=(if t.pw=k then fq t.f else _)+_;rw[a.fq,e];split<;>grind;rw[abl e];obtain⟨m,l,j,h⟩:=Je (pw:=pw) c (λu hu=>g u<|by simp[hu]) b.2;refine⟨λu hu=>?_,?_,λx i=>?_,λk=>?_⟩
  grind
  grind
  grind
  rw[ad3,ad3,eE,eE,h];show(if t.pw=k then fq t.f else _)=(if t.pw=k then fq t.f else _)+_
  grind
def K7.add{E:L Tm}{t:Tm}(h:K7 E p)(a:t.ok)(hs:AM p)(hl:∀u∈p,u.pw.length=t.pw.length):K7 (l9 t.f t.pw E) (jK p t.tr):=by obtain⟨d,c,-,b⟩:=Je a h.ok h.nd;exact⟨d,c,λk=>by rw[b,h.co,jA,NU hs hl];rfl⟩
def K7.fold{V:Nat}:∀{l E:L Tm}{p:L aZ},K7 E p->AM p->(∀u∈p,u.pw.length=V)->(∀t∈l,t.ok/\t.pw.length=V)->K7 (l.foldl (λE t=>l9 t.f t.pw E) E) ((l.map Tm.tr).foldl jK p)
 |[],_,_,h,_,_,_=>h
 |t::l,E,p,h,hs,b,hl=>by have a:=hl t (by simp);refine K7.fold (E:=l9 t.f t.pw E) (h.add a.1 hs λu hu=>(b u hu).trans a.2.symm) (by rw[jA];exact Fc (t:=t.tr) a.2 b hs) (λu hu=>?_) λu hu=>hl u (by simp[hu]);rw[jA]at hu;rcases zV hu with hu|hu;exact b u hu;rw[hu];exact a.2
def K7.norm{V:Nat}{l:L Tm}(hl:∀t∈l,t.ok/\t.pw.length=V):K7 (sB l) (fA<|l.map Tm.tr):=K7.fold .nil .nil I hl
def Df(E:L Tm):L Tm:=E.filter λt=>decide (fq t.f≠0)
def K7.agA{E L:List Tm}(h:K7 E p)(i:AM p)(e:Nz p)(c:L.Perm (Df E))(hs:AM (L.map Tm.tr)):L.map Tm.tr=p:=by
 refine QV hs i (λu hu=>?_) e λk=>?_;obtain⟨t,a,rfl⟩:=ab4.1 hu;have:=(ahx.1<|c.mem_iff.1 a).2;exact of_decide_eq_true this;rw[<-h.co k];have b:((E.map Tm.tr).map (·.pw)).Nodup:=by rw[af9];exact h.nd
 by_cases hc:Dr (E.map Tm.tr) k=0;rw[hc];apply aiY;intro g;obtain⟨u,hu,j,d⟩:=vJ g;obtain⟨t,a,rfl⟩:=ab4.1 hu;have:=KC b<|ahC (ahx.1<|c.mem_iff.1 a).1;simp_all;obtain⟨u,hu,j,d⟩:=vJ hc;obtain⟨t,a,rfl⟩:=ab4.1 hu;have hm:=c.mem_iff.2<|ahx.2 ⟨a,decide_eq_true λg=>hc<|d.symm.trans g⟩;have:=KC (AM.nodup hs)<|ahC hm;simp_all
end
def jb:L Int->cj
 |[]=>[]
 |k::l=>b7 k++32::jb l
def Rw{k:Int}:∀c∈b7 k,c≠(32:UInt8):=by intro c hc e;subst e;unfold b7 at hc;split at hc;rcases adb.1 hc with h|h;simp_all;exact abK (cP _ _ _ h).1 gC;exact abK (cP _ _ _ hc).1 gC
def Vx{a b c d:cj}(h:a++32::b=c++32::d)(f:∀x∈a,x≠(32:UInt8))(hc:∀x∈c,x≠(32:UInt8)):a=c/\b=d:=by
 induction a generalizing c with
 |nil=>
  cases c with
  |nil=>simp_all
  |cons y c=>simp_all
 |cons x a e=>
  cases c with
  |nil=>simp_all
  |cons y c=>simp_all
def ML:∀{a b:L Int},jb a=jb b->a=b
 |[],[],_=>rfl
 |[],k::l,h=>za1
 |k::l,[],h=>za1
 |k::l,f::e,h=>by obtain⟨d,c⟩:=Vx h Rw Rw;rw[MQ d,ML c]
def E4{a b:L Int}:uG (jb a) (jb b)=true↔a=b:=by rw[vY];exact⟨ML,λh=>by rw[h]⟩
def J7{a b:L Int}(h:a≠b):uG (jb a) (jb b)=false:=by
 cases e:uG _ _ with
 |true=>exact abK (E4.1 e) h
 |false=>rfl
def fj(t:Tm):SV:=.agg [.i t.f.n.s,.gh .u64<|ws t.f.n,.i t.f.d.s,.gh .u64<|ws t.f.d,gm t.pw]
abbrev aj1:=SV.bm false 5 default fj
abbrev aj4:=SV.bm true 5 default fj
def mL(E:L Tm):jy cj:=E.map λt=>(jb t.pw,fj t)
def CG(pw:L Int)(E:L Tm):Q Tm:=E.find? λt=>decide (t.pw=pw)
def Nd(pw:L Int):∀E:L Tm,rq (jb pw) (mL E)=(CG pw E).map fj
 |[]=>rfl
 |t::E=>by show(match uG _ _ with|true=>some _|false=>rq _ _)=_;unfold CG;by_cases h:t.pw=pw;rw[E4.2 h.symm];simp[h];rw[J7 λe=>h e.symm];simp[h];exact Nd pw E
def HV{f:Fr}{pw:L Int}:∀{E:L Tm}{t:Tm},CG pw E=some t->Dd (jb pw) (fj ⟨w7 f t.f,pw⟩) (mL E)=mL (l9 f pw E)
 |[],t,h=>by cases h
 |u::E,t,h=>by unfold CG at h;show(match uG _ _ with|true=>(jb pw,fj ⟨w7 f t.f,pw⟩)::mL E|false=>(jb _,fj u)::Dd _ _ (mL E))=_;unfold l9;by_cases e:u.pw=pw;simp[e]at h;subst h;rw[E4.2 e.symm,abx e];rfl;simp[e]at h;rw[J7 λg=>e g.symm,abl e];rw[HV h];rfl
def HW{f:Fr}{pw:L Int}:∀{E:L Tm},CG pw E=none->Dd (jb pw) (fj ⟨f,pw⟩) (mL E)=mL (l9 f pw E)
 |[],h=>rfl
 |u::E,h=>by unfold CG at h;show(match uG _ _ with|true=>(jb pw,fj ⟨f,pw⟩)::mL E|false=>(jb _,fj u)::Dd _ _ (mL E))=_;unfold l9;by_cases e:u.pw=pw;simp[e]at h;rw[J7 λg=>e g.symm,abl e];rw[HW<|by unfold CG;simpa[e]using h];rfl
def PG(t:Tm):List Tm->List Tm
 |[]=>[t]
 |u::L=>if beforeL t.pw u.pw then t::u::L else u::PG t L
def nP:List Tm->List Tm
 |[]=>[]
 |t::L=>PG t<|nP L
def Bp(t:Tm):∀L,(PG t L).Perm (t::L)
 |[]=>.refl _
 |u::L=>by unfold PG;split;exact .refl _;exact((Bp t L).cons u).trans<|.swap _ _ _
def iE:∀L,(nP L).Perm L
 |[]=>.refl _
 |t::L=>(Bp t _).trans<|(iE L).cons t
def KX(L:List Tm):Prop:=L.Pairwise λa b=>beforeL a.pw b.pw=true
def KX.tr{L:List Tm}(h:KX L):AM (L.map Tm.tr):=ajc.2 h
def MV{t:Tm}:∀{L:List Tm},(∀u∈L,u.pw.length=t.pw.length/\u.pw≠t.pw)->KX L->KX (PG t L)
 |[],_,_=>by simp[PG,KX]
 |u::L,hl,h=>by have hu:=(ahp.1 h).1;unfold PG;split;rename_i b;refine ahp.2 ⟨λv a=>?_,h⟩;rcases adb.1 a with rfl|a;exact b;exact iL b<|hu v a;rename_i b;have c:=oh (hl u I).1.symm (ed) (hl u I).2.symm;refine ahp.2 ⟨λv a=>?_,MV (λv a=>hl v<|by simp[a]) (ahp.1 h).2⟩;rcases adb.1 ((Bp t L).mem_iff.1 a)with rfl|a;exact c;exact hu v a
def rM{V:Nat}:∀{L:List Tm},(∀u∈L,u.pw.length=V)->(L.map (·.pw)).Nodup->KX (nP L)
 |[],_,_=>List.Pairwise.nil
 |t::L,hl,hn=>by rw[ad3,af6]at hn;refine MV (λu hu=>?_)<|rM (λu hu=>hl u<|by simp[hu]) hn.2;have hu:=(iE L).mem_iff.1 hu;simp_all
def Ea:∀{L M:List Tm},KX L->KX M->L.Perm M->L=M
 |[],M,_,_,h=>by simpa using h.symm
 |t::L,[],_,_,h=>by simp at h
 |t::L,u::M,b,a,h=>by
  have e:t=u:=by rcases adb.1 (h.mem_iff.1<|ahQ ..)with e|h1;exact e;rcases adb.1 (h.mem_iff.2<|ahQ ..)with e|c;exact e.symm;have:=iL (((ahp.1 a).1) t h1)<|((ahp.1 b).1) u c;rw[iy]at this;cases this
  subst e;rw[Ea (ahp.1 b).2 (ahp.1 a).2<|(List.perm_cons t).1 h]
def kE(l:L Tm):L Tm:=nP<|Df<|sB l
end Go.Ai.bI
section
namespace Go.Lib
open Go.Proofs Go.Proofs.Tryz
variable{P:Program}{w:World}
def JD(t ty e:TypeId)(i:TypeInfo)(z:Value)(A:P.underlying t=some (.slice e))(hi:P.info? e=some i)(C:i.zero=some z)(r:z.cells.size=1)
 (a:i.size=1)(m:i.bytes=1)
 (v:Value)(n:Nat)(xs:L Value)(d:w.ownsRow 0 e 1 v n xs)(p:Addr)(c:Nat)(u:Value)(hu:w.cell? (p.add 0)=some u)(Y:u.oneCell'=true)
 (y:n+1<=maxLen)(B:n+1<=140737488355328):
 ∃q w',(Builtin.append_ #[t,t] ty #[v,.slice (some p) 1 c]).run P w=.ok q w'/\w'.ownsRow 0 e 1 q (n+1) (xs++[u])/\w.grownBy w' v.ownBlock/\(∀g,q.ownBlock=some g->v.ownBlock=some g\/w.heap.size<=g):=by
 have b:∀j x,[u][j]?=some x->w.cell? (p.add j)=some x:=λj x hj=>by grind
 have o:∀x∈[u],x.oneCell'=true:=by simpa using Y
 obtain⟨q,w',k1,k2,k3,-⟩:=run_append_own w 0 t ty e i z 1 1 A hi C a m r gC v n xs d p 1 c [u] W b o y E<|abX _;refine⟨q,w',k1,k2,k3,λg' f=>?_⟩;have O:xs.length=n:=by simpa using d.1
 rcases d.2 with⟨rfl,rfl⟩|⟨g,h,cur,rfl,V,S,R,T,F,D⟩;have l:w.ownsRow w.heap.size e 1 _ 0 xs:=⟨d.1,.inl G⟩;obtain⟨v2,Z,H,N,-,-⟩:=run_append_own w _ t ty e i z 1 1 A hi C a m r gC _ 0 xs l p 1 c [u] W b o y E<|abY _;rw[k1]at H;obtain⟨rfl,rfl⟩:=H;rcases N.2 with⟨rfl,-⟩|⟨g2,M,K,rfl,X,-⟩;simp[Value.ownBlock]at f;simp[Value.ownBlock,abL]at f;omega;by_cases k:n+1<=h;have J:cur.size=h:=by simpa using F
 have s:=run_append_room w t ty e i A hi g n h cur S p 1 c [u] (by rw[a];rfl) b o k (by rw[a];simp;omega);rw[k1]at s;obtain⟨rfl,-⟩:=s;left;simpa[Value.ownBlock]using f;have s:=run_append_grow (P:=P) w t ty e i z A hi C ⟨g,0,none⟩ n h xs gn (d.cells (g:=g) W) p 1 c [u] (by rw[a];rfl) b E E<|growslice_fits E<|by rw[m];omega
 rw[k1]at s;obtain⟨rfl,-⟩:=s;simp[Value.ownBlock,abL]at f;omega
def C8{ops:Array Oper}{rest:L Oper}{o:Oper}{a:Act}{Q:Exit->Act->World->Prop}(p:o.guard=none)(sl x:Operand)(t:TypeId)
 (D:o.op=.call {callee:=.builtin .append,args:=#[sl,x],argTypes:=#[t,t]})
 (e:TypeId)(i:TypeInfo)(z:Value)(B:P.underlying t=some (.slice e))(hi:P.info? e=some i)(y:i.zero=some z)(m:z.cells.size=1)
 (d:i.size=1)(q:i.bytes=1)
 (v:Value)(n:Nat)(l:L Value)(hs:a.eval sl=v)(k:w.ownsRow 0 e 1 v n l)(s:Addr)(c:Nat)(u:Value)(A:a.eval x=.slice (some s) 1 c)(hu:w.cell? (s.add 0)=some u)(N:u.oneCell'=true)
 (r:n+1<=maxLen)(b:n+1<=140737488355328)
 (h:∀j f,f.ownsRow 0 e 1 j (n+1) (l++[u])->w.grownBy f v.ownBlock->(∀g,j.ownBlock=some g->v.ownBlock=some g\/w.heap.size<=g)->wpList P ops Q rest (a.put o.dst j) f):wpList P ops Q (o::rest) a w:=by
 refine wpList_plain p λK F=>?_;obtain⟨j,f,C,M,J,H⟩:=JD t o.type e i z B hi y m d q v n l k s c u hu N r b;unfold Oper.wp execOp;simp[D,resolve,invoke,builtin,hs,A,C];exact F _ _<|h j f M J H
end Go.Lib
namespace Go.Proofs
open Go.Shelf Go.RowKit Go.Sort Go.Lib Go.Proofs.Tryz
theorem Tryz.wrB(b:Nat)(p v:Value)(bs:List Value)(c:UInt8)(w:World)(hp:p=.pointer none\/p=.pointer (some ⟨b,0,none⟩))(hbk:w.heap[b]?=some (.cells #[p,v] 375 (0,0)))(hown:w.ownsRow 0 5 1 v bs.length bs)(hne:v.ownBlock≠some b)(hl:bs.length<2^46):
 Calls Tryz.prog 342 #[.pointer (some ⟨b,0,none⟩),.int .u8 (c.toNat:Int)] w λe w'=>e=.returned .nilIface/\∃v',w'.heap[b]?=some (.cells #[.pointer (some ⟨b,0,none⟩),v'] 375 (0,0))/\
  w'.ownsRow 0 5 1 v' (bs.length+1) (bs++[Value.int .u8 (c.toNat:Int)])/\v'.ownBlock≠some b/\(∀g,v'.ownBlock=some g->v.ownBlock=some g\/w.heap.size<=g)/\
  w'.os=w.os/\w'.tape=w.tape/\w'.output=w.output/\w.heap.size<=w'.heap.size/\∀k,k<w.heap.size->k≠b->v.ownBlock≠some k->w'.heap[k]?=w.heap[k]?:=by
 have hib:(Tryz.prog.info? 5).map (λi=>(i.zero,i.size,i.bytes))=some (some<|.int .u8 0,1,1):=by kernel_rfl
 obtain⟨i0,hi,hz0,hz1,hz2⟩:=info_parts hib
 go_enter Tryz.func342,Tryz.ntmps342
 go_wp2_with (go_at_call 338;refine(Tryz.cc b p v bs _ hp hbk hown hne).mono ?_)
 rintro e w1⟨rfl,hbk,hown,hg1⟩;have c0:w1.cell? ⟨b,0,none⟩=some (.pointer<|some ⟨b,0,none⟩):=ip
 have c1:w1.cell? ⟨b,1,none⟩=some v:=ip
 go_wp2_with (at_builtin;refine Lib.C8 rfl _ _ 373 rfl 5 i0 (.int .u8 0) Tryz.underlying373 hi hz0 rfl hz1 hz2 _ _ _ rfl (hown.alloc _) _ _ (Value.int .u8 (c.toNat:Int)) rfl ?c5 rfl ?c3 ?c4 ?_)
 case c3=>unfold maxLen;omega
 case c4=>omega
 case c5=>show(w1.alloc<|.cells #[.int .u8 (c.toNat:Int)] 5).cell? ⟨w1.heap.size,0,none⟩=_;simp
 intro v' w2 hown' hgrow hnew;have hlt:b<w1.heap.size:=by grind
 have hga:=World.grownBy_alloc w1 (.cells #[.int .u8 (c.toNat:Int)] 5) none;have hb1:(w1.alloc<|.cells #[.int .u8 (c.toNat:Int)] 5).heap[b]?=some (.cells #[.pointer (some ⟨b,0,none⟩),v] 375 (0,0)):=by rw[hga.block b hlt<|by simp];exact hbk
 have hb2:w2.heap[b]?=some (.cells #[.pointer (some ⟨b,0,none⟩),v] 375 (0,0)):=by rw[hgrow.block b (by have:=hga.size;omega) λe=>hne e.symm];exact hb1
 have d0:w2.cell? ⟨b,0,none⟩=some (.pointer<|some ⟨b,0,none⟩):=iu
 have d1:w2.cell? ⟨b,1,none⟩=some v:=iu
 have f1:w2.frozen? ⟨b,1,none⟩=false:=Lib.frozen_of_heap hb2 1;obtain⟨ao,n',cap,rfl⟩:∃ao n' cap,v'=.slice ao n' cap:=by
  rcases hown'.2 with⟨hv,_⟩|⟨g,cap,cur,hv,_⟩
  ·exact⟨_,_,_,hv⟩
  simp_all
 go_wp2
 go_ret
 have hne':=Lib.ownBlock_ne hown' hb2 (by decide:(375:TypeId)≠5);have hg3:w2.grownBy (w2.setCell ⟨b,1,none⟩<|.slice ao n' cap) (some b):=⟨rfl,rfl,rfl,by simp[World.setCell],λk _ hk=>Below.heap_setCell _ _ _ _ λe=>hk<|by simp[e]⟩;have hs1:=hg1.size;have hs0:=hga.size;have hs2:=hgrow.size;have hs3:=hg3.size;refine⟨rfl,.slice ao n' cap,by simp[World.setCell,aiX,hb2],?_,hne',λg hg=>(hnew g hg).imp id λh=>by omega,?_,?_,?_,by omega,λk hk hkb hkv=>?_⟩
 ·exact hown'.kept (row:=some b) hg3 (Or.inr hne')
 ·exact((hg3.os.trans hgrow.os).trans hga.os).trans hg1.os
 ·exact((hg3.tape.trans hgrow.tape).trans hga.tape).trans hg1.tape
 ·exact((hg3.output.trans hgrow.output).trans hga.output).trans hg1.output
 have e1:some k≠some b:=λe=>hkb (b6);rw[hg3.block k (by omega) e1,hgrow.block k (by omega) λe=>hkv e.symm,hga.block k (by omega)<|by simp,hg1.block k hk e1]
end Go.Proofs
namespace Go.Ai.Pg
open Go.Proofs Go.Ai Go.Ai.bI Go.Proofs.Tryz
def TS(b:Nat)(l:cj)(c:UInt8)(hl:l.length+1<2^46):UQ prog 342 (·=.pointer (some ⟨b,0,none⟩)) (GL b l) (GL b<|l++[c]) (aE [.n .u8 (c.toNat:Int)]) (SV.c .nilIface).den:=by
 rintro v rfl w S F K O N C u R B hc;obtain⟨p,v,s,A,t,f,rfl⟩:=C w S (λ_ _=>rfl) λ_ h=>h;obtain⟨y,M,Y,X,rfl,D,_,q,rfl,rfl⟩:=hc;obtain⟨_,rfl,rfl⟩:=q;refine sT.mB func342 W W<|(Tryz.wrB b p v _ c w s A t f<|by rw[Lib.byteCells_length];omega).mono ?_;rintro e j⟨rfl,d,k1,k2,k3,k4,k5,k6,k7,k8,k9⟩;have o:Lib.byteCells l++[.int .u8 (c.toNat:Int)]=Lib.byteCells (l++[c]):=by rw[Lib.byteCells_append];rfl
 rw[o,show(Lib.byteCells l).length+1=(Lib.byteCells _).length by rw[<-o];simp]at k2;have i:GL b (l++[c]) j S (b::d.ownBlock.toList):=⟨_,d,.inr W,k1,k2,k3,W⟩;have z:∀g,d.ownBlock=some g->g<j.heap.size:=by intro g m;rcases k2.2 with⟨rfl,-⟩|⟨T,H,cur,rfl,-,r,-⟩;simp[Value.ownBlock]at m;simp[Value.ownBlock,abL]at m;grind
 refine⟨_,W,S,b::d.ownBlock.toList,k5,k6,k7,k8,λk x a=>k9 k x (λe=>a<|by simp[e]) λe=>a<|by simp[e],λ_ h=>h,λ_ h=>.inl h,λc hc=>aey (B c hc) k8,i.closed,?_,?_,?_⟩
 grind
 grind
 intro J V;simp[SV.den,Rel];simp[scalar]
end Go.Ai.Pg
end
namespace Go.Ai.Pg
def MM:∀(a b:L Int),jb (a++b)=jb a++jb b
 |[],b=>rfl
 |k::a,b=>by simp[jb,MM a b]
def T4{pw:L Int}{t:Nat}(h:t<pw.length):jb (pw.take<|t+1)=jb (pw.take t)++b7 pw[t]++[32]:=by rw[adY h,MM];simp[jb]
def W0{pw:L Int}(a:∀x∈pw,0<=x/\x<2147483648):(jb pw).length<=30*pw.length:=by
 induction pw with
 |nil=>simp[jb]
 |cons x l b=>have:=b λy c=>a y (by simp[c]);have d:=a x I;have e:=Go.Ai.jZ x<|Go.Ai.eH E;simp[jb];omega
def afn(pw:L Int)(i:pw≠[])(hl:pw.length<2^20)(c:∀x∈pw,0<=x/\x<2147483648):ab 306 [gm pw] (.s<|jb pw):=by
 refine cx func306 W<|rn 5 W<|Yj (P:=prog) (λb=>GL b []) W W (zs:=#[.pointer none,.slice none 0 0]) (λw=>gq) (λb w S h=>GL.new b w S h) λb=>?_;refine fM W<|loop (λt:Nat=>[(6,gm pw),(7,.i pw.length),(3,.pv (·=.pointer (some ⟨b,0,none⟩))),(8,.i t),(500,.abs<|GL b<|jb<|pw.take t)]) (λt=>t<=pw.length) (λt=>pw.length-t) 0 (abX _)
  ⟨G,G,G,G,W,U⟩ ?_
 intro t g;refine cv W W ?_ ?_<;>intro g1;have e:(t:Int).toNat=t:=E;refine fM W ?_;have ev:pw.getD t 0=pw[t]'(by omega):=az E;rw[e,ev];have f:=c (pw[t]'(by omega)) I;have a:=T4 (pw:=pw) (t:=t) E;have hn:=W0 (pw:=pw.take<|t+1) λy d=>c y<|ahv d;rw[a,ad9,ad9,afS]at hn;have hm:min (t+1) pw.length<=2^20:=E;simp[acC,ad1]at hn;refine b8 W (W3 (pw[t]'(by omega)) E E) W<|Il W W U (xU b (jb<|pw.take t) (b7<|pw[t]'(by omega)) E) (J':=GL b<|jb (pw.take t)++b7 (pw[t]'(by omega))) (r:=.de [.i (b7<|pw[t]'(by omega)).length,.c .nilIface]) W<|r0 W<|Il W W U (TS b (jb (pw.take t)++b7 (pw[t]'(by omega))) 32 (by grind)) (J':=GL b<|jb (pw.take t)++b7 (pw[t]'(by omega))++[32]) (r:=.c .nilIface) W ?_;rw[<-a];refine fM W<|aL (t+1) E ⟨G,G,G,G,W,U⟩;have:t=pw.length:=E;subst this;rw[aed];refine r0 W<|Il W W U (Ct b (jb pw)<|by cases pw<;>simp_all[jb]) (J':=ad0) (r:=.s<|jb pw) W ?_;refine cq W W
def YP(w:World)(S:Nat->Prop):Rel w S (SV.agg [.i 0,.nil,.i 0,.nil,.nil]).den (.agg #[.int .i64 0,.slice none 0 0,.int .i64 0,.slice none 0 0,.slice none 0 0]) []:=⟨_,W,.int _ 0,_,[],[],W,W,λ_=>rfl,mv,.slice _ 0 0,_,[],[],W,W,λ_=>rfl,mv,.int _ 0,_,[],[],W,W,λ_=>rfl,mv,.slice _ 0 0,_,[],[],W,W,λ_=>rfl,mv,.slice _ 0 0,_,[],[],W,W,λ_=>rfl,mv,W,W⟩
def afV(E:L Tm)(f:Fr)(pw:L Int){K:Nat}(g:cB f (fq f))(d:kV f K)(c:∀t∈E,t.ok/\kV t.f K)(l:K<2^32)(j:pw≠[])(hl:pw.length<2^20)(h:∀x∈pw,0<=x/\x<2147483648):
 kg prog 235 [.mx<|mL E] [.bH 500 0 0 [],eF f,gm pw] [.mx<|mL<|l9 f pw E] (.de []):=by
 refine ns (fn:=Tryz.f235) func235 W W W W W<|cu W W (afn pw j hl h) W<|r0 W ?_;have a:=Nd pw E;cases hm:CG pw E with
 |some t=>rw[hm]at a;refine Z7 (.de [fj t,.b true]) W W W (mE (k:=jb pw) (x:=fj t) underlying316 underlying9 a true) W<|r0 W ?_;have b:t∈E:=List.mem_of_find?_eq_some hm;refine b8 W (FH f t.f g (c t b).1 d (c t b).2<|by omega) W<|r0 W<|oA W W W (te (k:=jb pw) (x:=fj ⟨w7 f t.f,pw⟩) (.inr W) W underlying316 underlying9 W W) W ?_;rw[HV hm];refine r0 W<|LM [(500,.mx<|mL<|l9 f pw E)] ⟨ak,U⟩ W (aB.refl _) ⟨G,U⟩
 |none=>rw[hm]at a;obtain⟨i,i1,e⟩:∃i,prog.info? 229=some i/\i.zero=some (.agg #[.int .i64 0,.slice none 0 0,.int .i64 0,.slice none 0 0,.slice none 0 0]):=⟨_,W,W⟩;refine Z7 (.de [.agg [.i 0,.nil,.i 0,.nil,.nil],.b false]) W W W (Cu (k:=jb pw) (x:=.agg [.i 0,.nil,.i 0,.nil,.nil]) underlying316 underlying9 a i1 e (λw S=>YP w S) true) W<|r0 W<|oA W W W (te (k:=jb pw) (x:=fj ⟨f,pw⟩) (.inr W) W underlying316 underlying9 W W) W ?_;rw[HW hm];refine r0 W<|LM [(500,.mx<|mL<|l9 f pw E)] ⟨ak,U⟩ W (aB.refl _) ⟨G,U⟩
def Qv(E:L Tm)(done:L Nat):L Tm:=done.map λi=>E.getD i default
def Yd{E:L Tm}{done:L Nat}(hn:done.Nodup)(f:∀i∈done,i<E.length)(d:∀i,i<E.length->i∈done):(Df<|Qv E done).Perm (Df E):=by
 have c:=(List.perm_ext_iff_of_nodup hn List.nodup_range).2 λi=>⟨λh=>aec.2<|f i h,λh=>d i<|aec.1 h⟩;have e:(List.range E.length).map (λi=>E.getD i default)=E:=by apply ahT (by simp);intro i a b;simp[b]
 have:=(c.map λi=>E.getD i default).filter λt:Tm=>decide (fq t.f≠0);rwa[e]at this
def GQ{V:Nat}{L M:List Tm}(h:L.Perm M)(hl:∀u∈L,u.pw.length=V)(hn:(L.map (·.pw)).Nodup):nP L=nP M:=Ea (rM hl hn) (rM (λu hu=>hl u<|h.mem_iff.2 hu)<|(h.map _).nodup_iff.1 hn) ((iE L).trans<|h.trans (iE M).symm)
def Po{E:L Tm}(h:(E.map (·.pw)).Nodup):((Df E).map (·.pw)).Nodup:=h.sublist<|List.filter_sublist.map _
def ZU{E:L Tm}{done:L Nat}(hn:(E.map (·.pw)).Nodup)(p:done.Nodup)(k:∀i∈done,i<E.length):(Df<|Qv E done).length<=(Df E).length:=by
 have f:=aio.1 hn;have g:((Qv E done).map (·.pw)).Nodup:=by unfold Qv;rw[af9];refine ajc.2<|p.imp_of_mem λ{a b}o n j=>?_;have d:=k a o;have c:=k b n;show(E.getD a _).pw≠(E.getD b _).pw;rw[az d,az c];rcases Nat.lt_or_gt_of_ne j with h|h;have:=f a b (b5) (f8) h;simpa using this;have:=f b a (f8) (b5) h;intro e;simp_all
 have:=nj (m:=(Df E).map (·.pw)) (Po g) λx l=>by obtain⟨u,hu,rfl⟩:=ab4.1 l;obtain⟨g1,g2⟩:=ahx.1 hu;obtain⟨i,hi,rfl⟩:=ab4.1 g1;refine ahC<|ahx.2 ⟨?_,g2⟩;simp_all
 simpa using this
def acO(A:∀{L:List Tm}{V:Nat},(∀u∈L,u.pw.length=V/\UO u.pw)->(L.map (·.pw)).Nodup->L.length<2^40->kg prog 307 [aj4 L] [.bH 500 0 0 [],.fn (.func 308) [] []] [aj4<|nP L] (.de []))
 (E:List Tm){K V:Nat}(v:∀t∈E,t.pw.length=V/\UO t.pw)(hn:(E.map (·.pw)).Nodup)(B:∀t∈E,t.ok/\kV t.f K)(hl:(Df E).length<2^40):
 kg prog 236 [.mx<|mL E] [.bH 500 0 0 []] [.dead] (aj4<|nP<|Df E):=by
 refine ns (fn:=Tryz.f236) func236 W W W W W<|r0 W<|oA W W W (V6 W underlying316) W<|r0 W<|aU (λdone:List Nat=>[(3,aj4<|Df<|Qv E done),(7,.it (mL E) done)]) (λdone=>done.Nodup/\∀i∈done,i<E.length) (λdone=>E.length-done.length) [] ⟨by simp,by simp⟩ ?_;intro done o;refine rn 1 W<|ae7 W W W W W W (λi hi q=>?_) (λp=>?_)
 ·have n:i<E.length:=by simpa[mL]using hi
  have hm:=B E[i] (by simp);have c:(done++[i]).Nodup/\∀j∈done++[i],j<E.length:=⟨by rw[ad4];simp;exact⟨o.1,λa z e=>q (e▸z)⟩,by simp;rintro j(h|rfl);exact o.2 j h;exact n⟩;have d:(done++[i]).length<=E.length:=by have:=nj (l:=done++[i]) (m:=List.range E.length) c.1 λj y=>aec.2<|c.2 j y;simpa using this
  have w:E.getD i default=E[i]:=az n;refine r0 W<|oA W W W (Xw (i:=i) (k:=jb E[i].pw) (x:=fj E[i]) W<|by simp[mL,n]) W<|cu W W (tK E[i].f hm.1) W<|cv W W ?_ ?_<;>intro g
  ·have C:(Df<|Qv E done).length<2^40:=by
    exact ahn (ZU hn o.1 o.2) hl
   refine r1 W (by simp[aj,abu,fW,acC,ad1];omega) ?_;refine kL (done++[i]) (by simp at d⊢;omega) c ⟨⟨W,W,.row ?_⟩,ak,U⟩;rw[show Df (Qv E<|done++[i])=Df (Qv E done)++[E[i]] by unfold Df Qv;rw[adW,aji,ad3,w];have s:fq E[i].f≠0:=λh=>g (by rw[h];rfl);simp[s],dA,adW]
   exact mS.refl _
  refine r0 W ?_;have:Df (Qv E<|done++[i])=Df (Qv E done):=by
   unfold Df Qv;rw[adW,aji,ad3,w];have s:fq E[i].f=0:=by have g:¬¬(fq E[i].f).num.sign=0:=g;exact ait.1<|ajA.1<|ajZ.1 g
   simp[s]
  exact again (done++[i]) (by simp at d⊢;omega) c ⟨⟨W,by rw[this];exact aB.refl _⟩,G,U⟩
 have b:=Yd o.1 o.2 λi hi=>p i (by simpa[mL]using hi);have hm:∀u∈Df (Qv E done),u∈E:=λu hu=>(ahx.1<|b.mem_iff.1 hu).1;have c:((Df<|Qv E done).map (·.pw)).Nodup:=((b.map (·.pw)).nodup_iff).2<|Po hn;have r:(Df<|Qv E done).length<2^40:=by rw[b.length_eq];exact hl
 refine r0 W<|cr W W (A (λu hu=>v u<|hm u hu) c r) W ?_;rw[GQ b (λu hu=>(v u<|hm u hu).1) c];refine r0 W<|LM [(2,aj4<|nP<|Df E),(500,.dead)] ⟨ak,ak,U⟩ W (aB.refl _) ⟨G,U⟩
def cM(f:Fr)(n:Nat):L Tm:=if fq f=0 then[]else[⟨f,List.replicate n 0⟩]
def sign_zero{q:Rat}:q.num.sign=0↔q=0:=⟨λh=>ait.1<|ajA.1 h,λh=>by rw[h];rfl⟩
def Qk(f:Fr)(a:cB f (fq f))(n:Nat)(hn:0<n/\n<2^20):ab 328 [eF f,.i n] (aj1<|cM f n):=by refine enter func328 W W W W<|cu W W (tK f a) W<|cv W W ?_ ?_<;>intro g;have e:cM f n=[]:=abx<|sign_zero.1 g;rw[e];exact cm W W W;have e:cM f n=[⟨f,List.replicate n 0⟩]:=abl λh=>g<|sign_zero.2 h;rw[e];exact xf W<|OZ W mv
def vM(v n:Nat):L Tm:=[⟨⟨⟨1,none⟩,⟨1,none⟩⟩,(List.replicate n 0).set v 1⟩]
def Ow(v n:Nat)(a:v<n)(hn:n<2^20):ab 225 [.i v,.i n] (aj1<|vM v n):=by refine enter func225 W W W W<|r1 W (bi) ?_;exact b8 W (f_s 1) W<|r0 W<|OZ W mv
section
variable{l:L Tm}{K V:Nat}
def PwS(pw:L Int):Prop:=pw≠[]/\pw.length<2^20/\∀x∈pw,0<=x/\x<2147483648
structure sP(V K:Nat)(l:List Tm):Prop where
 tm:∀t∈l,t.ok/\kV t.f K/\PwS t.pw/\t.pw.length=V
 col:∀m,m <+:l->∀t∈sB m,t.ok/\kV t.f K
 len:l.length<2^60
 nz:(Df<|sB l).length<2^40
def Uw(l:L Tm)(t:Tm):sB (l++[t])=l9 t.f t.pw (sB l):=by unfold sB;simp
def Oe{f:Fr}{pw:L Int}:∀{E:L Tm}{t:Tm},t∈l9 f pw E->t.pw=pw\/∃u∈E,u.pw=t.pw
 |[],t,h=>by simp[l9]at h;subst h;exact .inl W
 |u::E,t,h=>by
  unfold l9 at h;split at h
  grind
  rcases adb.1 h with rfl|h;simp;rcases Oe h with h|⟨v,a,e⟩;exact .inl h
  grind
def Of(f:Fr)(pw:L Int):∀E:L Tm,(l9 f pw E).length<=E.length+1
 |[]=>by simp[l9]
 |u::E=>by unfold l9;split<;>simp;exact Of f pw E
def adz:∀(l E:L Tm),(l.foldl (λE t=>l9 t.f t.pw E) E).length<=E.length+l.length/\∀t∈l.foldl (λE t=>l9 t.f t.pw E) E,(∃u∈l,u.pw=t.pw)\/∃u∈E,u.pw=t.pw
 |[],E=>⟨by simp,λt h=>.inr ⟨t,h,W⟩⟩
 |a::l,E=>by
  obtain⟨d,c⟩:=adz l<|l9 a.f a.pw E;have:=Of a.f a.pw E;refine⟨by simp at d⊢;omega,λt b=>?_⟩;rcases c t b with⟨u,hu,e⟩|⟨u,hu,e⟩
  grind
  rcases Oe hu with g|⟨v,i,g⟩;simp_all
  grind
def QD:Prop:=∀{a:L Tm}{V:Nat},(∀u∈a,u.pw.length=V/\UO u.pw)->(a.map (·.pw)).Nodup->a.length<2^40->kg prog 307 [aj4 a] [.bH 500 0 0 [],.fn (.func 308) [] []] [aj4<|nP a] (.de [])
def DI(c:QD)(h:sP V K l):kg prog 236 [.mx<|mL<|sB l] [.bH 500 0 0 []] [.dead] (aj4<|kE l):=by refine acO c _ (V:=V) (λt a=>?_) (K7.norm (V:=V) λt a=>⟨(h.tm t a).1,(h.tm t a).2.2.2⟩).nd (h.col l<|List.prefix_refl l) h.nz;rcases(adz l []).2 t a with⟨u,hu,e⟩|⟨u,hu,-⟩;have:=h.tm u hu;rw[<-e];exact⟨this.2.2.2,this.2.2.1.2.1,λx b=>⟨(this.2.2.1.2.2 x b).1,by have:=(this.2.2.1.2.2 x b).2;omega⟩⟩;cases hu
def GA(h:sP V K l)(b:K<2^32){m:L Tm}{t:Tm}(hm:m++[t] <+:l):
 kg prog 235 [.mx<|mL<|sB m] [.bH 500 0 0 [],eF t.f,gm t.pw] [.mx<|mL<|sB<|m++[t]] (.de []):=by
 have a:=h.tm t<|hm.subset I;rw[Uw];exact afV _ t.f _ a.1 a.2.1 (h.col m<|(List.prefix_append _ _).trans hm) b a.2.2.1.1 a.2.2.1.2.1 a.2.2.1.2.2
def agz(p q:L Tm):Nat->L Tm
 |0=>[]
 |1=>p
 |_=>p++q
def adU(j:QD)(p q:L Tm)(h:sP V K (p++q))(f:K<2^32):ab 294 [aj1 p,aj1 q] (aj4<|kE<|p++q):=by refine cx func294 W<|r0 W<|oA W W W (tz (κ:=cj) W) W<|r0 W<|aU (λs:Nat=>[(5,.mx<|mL<|sB<|agz p q s),(13,.row true 1 [aj1 p,aj1 q]),(14,.i 2),(15,.i s)]) (λs=>s<=2) (λs=>2-s) 0 gC ?_;intro s hs;refine cv W W ?_ ?_<;>intro g;have b:=h.len;rw[ad9]at b;rcases(show s=0\/s=1 from E)with rfl|rfl;refine r1 W (by simp[aj,len])<|aU (λi:Nat=>[(5,.mx<|mL<|sB<|[]++p.take i),(13,.row true 1 [aj1 p,aj1 q]),(14,.i 2),(15,.i 0),(19,aj1 p),(20,.i p.length),(21,.i i)]) (λi=>i<=p.length) (λi=>p.length-i) 0 (abX _) ?_;intro i hi;refine cv W W ?_ ?_<;>intro g1;have a:i<p.length:=E;have d:(i:Int).toNat=i:=E;have e:p.getD i default=p[i]:=az a;have c:[]++p.take (i+1)=[]++p.take i++[p[i]]:=I;refine fM W ?_;rw[d,e];refine cr W W (GA h f (m:=[]++p.take i) (t:=p[i])<|by grind) W ?_;rw[<-c];refine fM W<|aL (i+1) E;have:i=p.length:=E;subst this;rw[aed];refine fM W<|aL 1 E;refine r1 W (by simp[aj,len])<|aU (λi:Nat=>[(5,.mx<|mL<|sB<|p++q.take i),(13,.row true 1 [aj1 p,aj1 q]),(14,.i 2),(15,.i 1),(19,aj1 q),(20,.i q.length),(21,.i i)]) (λi=>i<=q.length) (λi=>q.length-i) 0 (abX _) ?_ (by simp only[aiW,ahl];repeat(first|exact rrA|exact U|exact rfl|refine⟨?_,?_⟩));intro i hi;refine cv W W ?_ ?_<;>intro g1;have a:i<q.length:=E;have d:(i:Int).toNat=i:=E;have e:q.getD i default=q[i]:=az a;have c:p++q.take (i+1)=p++q.take i++[q[i]]:=I;refine fM W ?_;rw[d,e];refine cr W W (GA h f (m:=p++q.take i) (t:=q[i])<|by rw[<-c];exact(List.prefix_append_right_inj p).2<|ajH _ _) W ?_;rw[<-c];refine fM W<|aL (i+1) E;have:i=q.length:=E;subst this;rw[aed];refine fM W<|aL 2 E;have:s=2:=E;subst this;refine r0 W<|cr W W (DI j h) W<|cq W W
end
def sM(a:Fr)(p:L Tm):L Tm:=p.map λt=>⟨jW t.f a,t.pw⟩
def Zp(a:Fr)(c:cB a (fq a))(p:List Tm){K L:Nat}(d:kV a L)(j:∀t∈p,t.ok/\kV t.f K)(k:K+L<2^38)(hl:p.length<2^40):ab 229 [aj1 p,eF a] (aj4<|if fq a=0 then[]else sM a p):=by
 refine cx func229 W<|cu W W (tK a c) W<|cv W W ?_ ?_<;>intro g;rw[abx<|sign_zero.1 g];refine cm W W W;rw[abl λh=>g<|sign_zero.2 h];refine r0 W<|aU (λi:Nat=>[(3,.box true<|eF a),(5,aj4<|sM a<|p.take i),(11,aj1 p),(12,.i p.length),(13,.i i)]) (λi=>i<=p.length) (λi=>p.length-i) 0 (abX _) ?_;intro i hi;refine cv W W ?_ ?_<;>intro g1;have b:i<p.length:=E;have l:(i:Int).toNat=i:=E;have m:p.getD i default=p[i]:=az b;have hm:=j p[i] I;refine fM W ?_;rw[l,m];refine b9 W (j5 p[i].f a hm.1 c hm.2 d k) W ?_;have e:(sM a<|p.take i).length<2^40:=by unfold sM;grind
 refine xf W ?_ (by simp[aj,abu,fW,acC,ad1];omega);refine kL (i+1) E E ⟨ak,⟨W,W,.row ?_⟩,ak,ak,ak,U⟩;rw[show sM a (p.take<|i+1)=sM a (p.take i)++[⟨jW p[i].f a,p[i].pw⟩] by unfold sM;rw[adY b,adW];rfl,dA,adW];exact mS.refl _;have:i=p.length:=E;subst this;rw[aed];refine cq W W
def aci{l:L Int}(h:∀x∈l,0<=x/\x<2147483648):0<=l.sum/\l.sum<=2147483648*l.length:=by
 induction l with
 |nil=>simp
 |cons x l a=>have:=a λy b=>h y (by simp[b]);have:=h x I;simp;omega
def XG(pw:L Int)(hl:pw.length<2^20)(b:∀x∈pw,0<=x/\x<2147483648):ab 295 [gm pw] (.i pw.sum):=by
 refine enter func295 W W W W<|r0 W<|aU (λi:Nat=>[(3,.i (pw.take i).sum),(6,gm pw),(7,.i pw.length),(8,.i i)]) (λi=>i<=pw.length) (λi=>pw.length-i) 0 (abX _) ?_;intro i hi;refine cv W W ?_ ?_<;>intro g1;have a:i<pw.length:=E;have f:(i:Int).toNat=i:=E;have g:pw.getD i 0=pw[i]:=az a;have d:=aci (l:=pw.take i) λy c=>b y<|ahv c;have h:=b pw[i] I;rw[afS]at d;have e:(pw.take<|i+1).sum=(pw.take i).sum+pw[i]:=by rw[adY a,aiy];simp
 refine fM W ?_;rw[f,g,<-e];exact aL (i+1) E;have:i=pw.length:=E;subst this;rw[aed];exact cq W W
end Go.Ai.Pg
section
namespace Go.Proofs
open Go.Shelf Go.Proofs.Tryz
def Tryz.Wl:Go.Shelf.Ren:=⟨λ|14=>343|20=>369|21=>370|22=>371|23=>372|24=>373|25=>374|26=>375|27=>376|46=>389|47=>390|48=>391|49=>392|50=>393|15=>344|57=>398|28=>377|29=>286|n=>n,λ|24=>229|22=>218|3=>3|25=>380|4=>4|0=>0|46=>421|45=>420|50=>299|66=>439|39=>283|55=>337|70=>443|76=>449|77=>450|53=>83|5=>5|9=>9|n=>n,λ|n=>n⟩
theorem Tryz.acS:Go.Proofs.SlLaysF0.n14 prog Tryz.Wl where
 mixed:=Go.Ai.aP
 f14:=⟨ "slices.pdqsortCmpFunc[integraph/poly.Term]",by decide,func343.trans<|aal some Go.Ai.aP⟩
 f15:=func344.trans<|aal some Go.Ai.aP
 f20:=⟨ "slices.insertionSortCmpFunc[integraph/poly.Term]",by decide,func369.trans<|aal some Go.Ai.aP⟩
 f21:=⟨ "slices.heapSortCmpFunc[integraph/poly.Term]",by decide,func370.trans<|aal some Go.Ai.aP⟩
 f22:=⟨ "slices.breakPatternsCmpFunc[integraph/poly.Term]",by decide,func371.trans<|aal some Go.Ai.aP⟩
 f23:=⟨ "slices.choosePivotCmpFunc[integraph/poly.Term]",by decide,func372.trans<|aal some Go.Ai.aP⟩
 f24:=⟨ "slices.reverseRangeCmpFunc[integraph/poly.Term]",by decide,func373.trans<|aal some Go.Ai.aP⟩
 f25:=⟨ "slices.partialInsertionSortCmpFunc[integraph/poly.Term]",by decide,func374.trans<|aal some Go.Ai.aP⟩
 f26:=⟨ "slices.partitionEqualCmpFunc[integraph/poly.Term]",by decide,func375.trans<|aal some Go.Ai.aP⟩
 f27:=⟨ "slices.partitionCmpFunc[integraph/poly.Term]",by decide,func376.trans<|aal some Go.Ai.aP⟩
 f28:=func377.trans<|aal some Go.Ai.aP
 f29:=func286.trans<|aal some Go.Ai.aP
 f46:=⟨ "slices.siftDownCmpFunc[integraph/poly.Term]",by decide,func389.trans<|aal some Go.Ai.aP⟩
 f47:=func390.trans<|aal some Go.Ai.aP
 f48:=func391.trans<|aal some Go.Ai.aP
 f49:=⟨ "slices.medianAdjacentCmpFunc[integraph/poly.Term]",by decide,func392.trans<|aal some Go.Ai.aP⟩
 f50:=⟨ "slices.medianCmpFunc[integraph/poly.Term]",by decide,func393.trans<|aal some Go.Ai.aP⟩
 f57:=⟨ "slices.order2CmpFunc[integraph/poly.Term]",by decide,func398.trans<|aal some Go.Ai.aP⟩
 t0:=underlying0
 a0:=isAgg0
 z0:=sizeOf0
 v0:=zeroValue0
 t3:=underlying3
 a3:=isAgg3
 z3:=sizeOf3
 v3:=zeroValue3
 t4:=underlying4
 a4:=isAgg4
 z4:=sizeOf4
 v4:=zeroValue4
 t5:=underlying5
 a5:=isAgg5
 z5:=sizeOf5
 v5:=zeroValue5
 t9:=underlying9
 a9:=isAgg9
 z9:=sizeOf9
 v9:=zeroValue9
 t22:=underlying218
 a22:=isAgg218
 z22:=sizeOf218
 v22:=zeroValue218
 t25:=underlying380
 a25:=isAgg380
 z25:=sizeOf380
 v25:=zeroValue380
 t39:=underlying283
 a39:=isAgg283
 z39:=sizeOf283
 v39:=zeroValue283
 t45:=underlying420
 a45:=isAgg420
 z45:=sizeOf420
 v45:=zeroValue420
 t46:=underlying421
 a46:=isAgg421
 z46:=sizeOf421
 v46:=zeroValue421
 t50:=underlying299
 a50:=isAgg299
 z50:=sizeOf299
 v50:=zeroValue299
 t53:=underlying83
 a53:=isAgg83
 z53:=sizeOf83
 v53:=zeroValue83
 t55:=underlying337
 a55:=isAgg337
 z55:=sizeOf337
 v55:=zeroValue337
 t66:=underlying439
 a66:=isAgg439
 z66:=sizeOf439
 v66:=zeroValue439
 t70:=underlying443
 a70:=isAgg443
 z70:=sizeOf443
 v70:=zeroValue443
 t76:=underlying449
 a76:=isAgg449
 z76:=sizeOf449
 v76:=zeroValue449
 t77:=underlying450
 a77:=isAgg450
 z77:=sizeOf450
 v77:=zeroValue450
def Tryz.Qm:Go.Shelf.Ren:=⟨λ|5=>340|7=>368|n=>n,λ|22=>3|3=>3|4=>4|n=>n,λ|n=>n⟩
theorem Tryz.XT:Go.Proofs.SlLaysC2.n5 prog Tryz.Qm where
 mixed:=Go.Ai.aP
 f5:=⟨ "cmp.Compare[int]",by decide,func340.trans<|aal some Go.Ai.aP⟩
 f7:=⟨ "cmp.isNaN[int]",by decide,func368.trans<|aal some Go.Ai.aP⟩
 t3:=underlying3
 a3:=isAgg3
 z3:=sizeOf3
 v3:=zeroValue3
 t4:=underlying4
 a4:=isAgg4
 z4:=sizeOf4
 v4:=zeroValue4
 t22:=underlying3
 a22:=isAgg3
 z22:=sizeOf3
 v22:=zeroValue3
open Go.RowKit Go.Lib Go.Sort Go.Proofs.Tryz
def Tryz.afm(n:Nat)(h:n<4611686018427387904)(w:World):Calls prog 344 #[.int .u64 (n:Int)] w λe w'=>e=.returned (.int .i64 (Lib.bitLen n:Nat))/\w'=w:=by have h:=Any.bits_Len (SlLaysF0.n15.bits {Tryz.acS with}) (n:Int) w E E;rwa[agL]at h
theorem Tryz.aeD(p:Option Addr)(cap:Nat)(fv:Value)(w:World):Calls prog 307 #[.slice p 0 cap,fv] w λe w'=>e=.returned (.tuple #[])/\w'=w:=by
 have hl:=λW=>Tryz.afm 0 E W;have hp:=λW=>AnyF.pdqsortCmpFunc_none Tryz.acS p cap (Lib.bitLen 0:Nat) fv W;change∀W,Calls prog 343 _ _ _ at hp;change∀W,Calls prog 344 #[.int .u64 0] _ _ at hl
 go_enter func307,Tryz.ntmps307
 go_wp2_with (first|(go_at_call 344;refine(hl _).mono ?_;rintro e w'⟨rfl,rfl⟩)|(go_at_call 343;refine(hp _).mono ?_;rintro e w'⟨rfl,rfl⟩))
 go_end0
 exact G
theorem Tryz.aeC{α:Type}[Inhabited α](enc:α->List Value)(hk:∀x,(enc x).length=5)(h1:∀x,∀v∈enc x,v.oneCell'=true)(cf:α->α->Int)(hO:SWO (ltOf cf))(fU cap:Nat)(d:Array α)(w:World)
 (hcmp:CmpLays Tryz.prog 308 #[] enc 5 cf fU 0 d.size w)(hH:HoldsK enc 5 w fU 0 d)(hblk:fU<w.heap.size)(hsz:d.size<4611686018427387904):
 Calls Tryz.prog 307 #[.slice (some ⟨fU,0,none⟩) d.size cap,.func (.func 308) #[] #[]] w λe w'=>e=.returned (.tuple #[])/\∃d' n os,PermIn 0 d.size d d'/\SortedIn (ltOf cf) 0 d.size d'/\w'=sortWorldK enc 5 w fU 0 n d' os:=by
 have hlim:Lib.bitLen d.size<4611686018427387904:=ahn (Lib.bitLen_le d.size 62 (by omega)<|by omega) (by omega);have hp:=AnyQ.pdqsortCmpFunc_all Tryz.acS 5 Tryz.isAgg229 Tryz.sizeOf229 enc cf 308 #[] hO fU 0 cap d w (enters_of Tryz.func308 (by kernel_rfl) rfl) hcmp ⟨hk,h1,hH,hblk⟩ (d.size+1) 0 d.size (Lib.bitLen d.size) d w (by omega) rfl (SWK.start hH) (abX _) (abY _) hsz hlim<|Or.inl rfl;have hl:=Tryz.afm d.size hsz w;have hso:=pdq_sorts (ltOf cf) hO d 0 d.size (Lib.bitLen d.size) true true (abX _) (abY _)<|Or.inl rfl;generalize pdq (ltOf cf) d 0 d.size (Lib.bitLen d.size) true true=r at hp hso;change Calls Tryz.prog 343 _ _ _ at hp;have wr:IntKind.u64.wrap (d.size:Int)=d.size:=by simp[IntKind.wrap,IntKind.bits,IntKind.signed];omega
 generalize (Lib.bitLen d.size:Nat)=bl at hp hl;clear hH hcmp hk h1 hO;generalize d.size=m at*
 go_enter Tryz.func307,Tryz.ntmps307
 go_wp2_with (first|(go_at_call 344;refine hl.mono ?_;rintro e w'⟨rfl,hw⟩;subst hw)|(go_at_call 343;refine hp.mono ?_;rintro e w'⟨rfl,n,os,rfl⟩))
 go_end0
 exact⟨rfl,_,n,os,hso.1,hso.2,rfl⟩
end Go.Proofs
namespace Go.Ai.Pg
open Go.Proofs Go.Ai Go.Ai.bI Go.Sort Go.Proofs.Tryz
def Iz:∀{p q:L Int},p.length=q.length->(xW q p<0↔kB p q=true)
 |[],[],_=>by simp[xW,kB]
 |[],_::_,h=>by cases h
 |_::_,[],h=>by cases h
 |x::p,y::q,h=>by unfold xW kB;by_cases e:y=x;subst e;simp;exact Iz (aR);rw[abx λh=>e h.symm];unfold Lib.compareInt;simp;(repeat' split)<;>omega
def vL{p q:L Int}(h:p.length=q.length):Ds p q<0↔beforeL p q=true:=by unfold Ds beforeL;by_cases e:p.sum=q.sum;rw[abl λh=>h<|uq.2 e.symm,abl<|by simp[e]];exact Iz h;rw[abx e];unfold Lib.compareInt;simp;(repeat' split)<;>omega
def uv(w:World)(S:Nat->Prop)(t:Tm)(a:L Value):Prop:=a.length=5/\Rel w S (fj t).den (.agg a.toArray) []
def uv.YN{w:World}{S:Nat->Prop}:∀{L:List Tm}{l:List Value}{F:List Nat},dG w S 5 (L.map λt=>(fj t).den) l F->F=[]/\l.length=L.length*5/\∀i(h:i<L.length),uv w S L[i] ((l.drop<|i*5).take 5)
 |[],l,F,h=>by simp at h;obtain⟨rfl,rfl⟩:=h;simp
 |t::L,l,F,h=>by
  obtain⟨y,b,k,j,rfl,rfl,hs,c,d⟩:=h;obtain⟨rfl,g,f⟩:=uv.YN d;have hn:=Rel.aK _ c<|(cO _).trans W;subst hn;obtain⟨a,rfl,-⟩:=id c;have hl:a.toList.length=5:=hs;refine⟨W,by simp;simp at hl;have:(Value.agg a).cells=a:=W;omega,λi hi=>?_⟩;cases i with
  |zero=>
   refine⟨by simp;simp at hl;omega,?_⟩;have:List.take 5 (List.drop (0*5)<|(Value.agg a).cells.toList++b)=a.toList:=by rw[show(Value.agg a).cells=a from W,ahe,ai1<|by rw[hl];exact abY _,ad2<|by rw[hl];exact abY _]
   rwa[this]
  |succ i=>
   have:=f i (ce);have e:List.drop ((i+1)*5) ((Value.agg a).cells.toList++b)=b.drop (i*5):=by rw[show(Value.agg a).cells=a from W,show _*5=a.toList.length+i*5 from E,List.drop_length_add_append]
   rwa[e]
def uv.back{w:World}{S:Nat->Prop}:∀{L:List Tm}{l:List Value},l.length=L.length*5->(∀i(h:i<L.length),uv w S L[i]<|(l.drop<|i*5).take 5)->dG w S 5 (L.map λt=>(fj t).den) l []
 |[],l,h,_=>by simp at h;subst h;simp[dG]
 |t::L,l,h,k=>by have a:=k 0 I;refine⟨.agg (l.take 5).toArray,l.drop 5,[],[],?_,W,?_,?_,uv.back (by simp at h⊢;omega) λi hi=>?_⟩;rw[show(Value.agg (l.take 5).toArray).cells=(l.take 5).toArray from W];simp;rw[show(Value.agg (l.take 5).toArray).cells=(l.take 5).toArray from W];simp at h⊢;omega;simpa using a.2;have:=k (i+1) (ce);rwa[ahX,show 5+i*5=(i+1)*5 from E]
def Ek{w:World}{S:Nat->Prop}{xs:L Int}{v:Value}(h:Rel w S (gm xs).den v []):∃a c,v=.slice a xs.length c/\jf w a xs/\∀d,a=some d->xs≠[]->S d.block:=by
 simp only[SV.den,Rel,adZ]at h;rcases h with⟨p,⟨d,rfl⟩,-⟩|⟨b,f,g,r,q,rfl,m,k,l,he,-⟩;have:xs=[]:=by simpa using p
 subst this;exact⟨d,0,W,λj i=>by simp at i,λ_ _ h=>abK W h⟩;refine⟨some ⟨b,f,none⟩,g,W,λj i=>⟨_,W,?_⟩,λd e _=>by cases e;exact m⟩;obtain⟨y,A,s,B,-,-,o,n,-⟩:=dG.lens 1 j (x:=.v<|.int .i64 xs[j]) he I;obtain⟨-,rfl,-⟩:=o;have:=n 0 (.int .i64 xs[j]) W;simp[ah6]at this;rw[Lib.add_plain,oe W k];simp[this]
def uv.parts{w:World}{S:Nat->Prop}{t:Tm}{b:L Value}(h:uv w S t b):∃r c1 c2 c3 a c,b=[r,c1,c2,c3,.slice a t.pw.length c]/\(∀v∈b,v.oneCell'=true)/\jf w a t.pw/\∀k,a=some k->t.pw≠[]->S k.block:=by obtain⟨hl,X,e,hc⟩:=h;cases e;simp only[aE,Cells]at hc;obtain⟨i,D,F0,G0,V,f0,p,r0,g,C,F1,G1,T,M,o,r1,f,B,F2,G2,R,K,n,y,d,A,F3,Z,P,J,o3,x,u,z,s,Y,O,H,m,l,N,F⟩:=hc;have q:s=[]:=gn;subst q;obtain⟨a,c,rfl,k1,k2⟩:=Ek l;refine⟨i,g,f,d,a,c,gn,?_,k1,k2⟩;have:b=[i,g,f,d,.slice a t.pw.length c]:=gn;subst this;intro v j;simp at j;rcases j with rfl|rfl|rfl|rfl|rfl;exact p U;exact o U;exact n U;exact o3 U;exact m U
def jf.sorted{α:Type}[Inhabited α]{w:World}{S:Nat->Prop}{a:Q Addr}{p:L Int}(h:jf w a p)(n:∀b,a=some b->p≠[]->S b.block){fU off:Nat}(l:¬S fU)(enc:α->L Value)(k m:Nat)(q:Array α)(os:Array Obj):jf (sortWorldK enc k w fU off m q os) a p:=λj d=>by
 obtain⟨b,f,o⟩:=h j d;have g:b.block≠fU:=λe=>l (e▸n b f (by intro e;simp[e]at d));have i:b.block<w.heap.size:=by
  apply aha;intro hh;have:(b.add j).block=b.block:=by unfold Addr.add;split<;>rfl
  simp[World.cell?,this,aik<|Nat.le_of_not_lt hh]at o
 have c:(b.add j).block=b.block:=by unfold Addr.add;split<;>rfl
 refine⟨b,f,?_⟩;unfold sortWorldK;rwa[cell?_grow _ _ _<|by rwa[size_putRowK,c],cell?_putRowK_other _ _ _ _ _ _ _<|by rwa[c]]
def KJ{α:Type}[Inhabited α]{w:World}{enc:α->L Value}{k fU:Nat}{cs:Array Value}(a:row? w fU=some (cs,(0,0)))(m:Nat)(c:Array α)(os:Array Obj):row? (sortWorldK enc k w fU 0 m c os) fU=some (putCells id 0 (flatK enc k c) cs,(0,0)):=by
 obtain⟨b,hh⟩:∃b,w.heap[fU]?=some (.cells cs b (0,0)):=by unfold row? at a;split at a;rename_i h;simp_all;cases a
 have d:fU<w.heap.size:=zaW
 unfold row? sortWorldK;rw[heap_grow_old _ _<|by rwa[size_putRowK]];unfold putRowK putRow mapBlock;simp[aiX,hh,onCells]
def xd{α:Type}[Inhabited α]{w:World}{enc:α->L Value}{k fU b:Nat}(c:b≠fU)(a:b<w.heap.size)(m:Nat)(d:Array α)(os:Array Obj):(sortWorldK enc k w fU 0 m d os).heap[b]?=w.heap[b]?:=by unfold sortWorldK;rw[heap_grow_old _ _<|by rwa[size_putRowK]];unfold putRowK putRow mapBlock;simp[aiX,Ne.symm c]
def SU{L:List Tm}{V:Nat}(c:∀u∈L,u.pw.length=V):SWO (ltOf λi j:Fin L.length=>Ds L[i].pw L[j].pw):=by
 have e:∀i j:Fin _,ltOf (λi j:Fin L.length=>Ds L[i].pw L[j].pw) i j=beforeL L[i].pw L[j].pw:=λi j=>by unfold ltOf;have:=vL (p:=L[i].pw) (q:=L[j].pw)<|(c _ I).trans (c _ I).symm;cases k:beforeL L[i].pw L[j].pw<;>simp_all
 refine⟨λx=>by rw[e];exact iy _,λx y z h g=>by rw[e]at *;exact iL h g,λx y z h g=>?_⟩;rw[e]at*;by_cases f:L[x].pw=L[y].pw;rwa[f];by_cases d:L[y].pw=L[z].pw;rwa[<-d];have a:=oh ((c L[x] I).trans (c L[y] I).symm) h f;have b:=oh ((c L[y] I).trans (c L[z] I).symm) g d;cases hc:beforeL L[x].pw L[z].pw with
 |false=>rfl
 |true=>have:=iL hc<|iL b a;rw[iy]at this;cases this
def Lw{L:List Tm}{V:Nat}(k:∀u∈L,u.pw.length=V)(hn:(L.map (·.pw)).Nodup)[Inhabited<|Fin L.length]{d d':Array (Fin L.length)}(t:d.toList=List.finRange L.length)(r:PermIn 0 L.length d d')(hs:SortedIn (ltOf λi j:Fin L.length=>Ds L[i].pw L[j].pw) 0 L.length d'):d'.toList.map (λi=>L[i])=nP L:=by
 have m:d.size=L.length:=by rw[<-ahi,t,List.length_finRange]
 have q:d'.size=L.length:=r.1.trans m;have f:d'.toList.Perm d.toList:=by have:=r.2.2;rwa[show d'.extract 0 L.length=d' from Array.ext (by simp;omega) λi l w=>I,show d.extract 0 L.length=d from Array.ext (by simp;omega) λi l w=>I]at this
 have c:(d'.toList.map λi=>L[i]).Perm L:=by
  have:=f.map λi:Fin L.length=>L[i];rw[t]at this;have e:(List.finRange L.length).map (λi=>L[i])=L:=by apply ahT I;intro i a b;simp
  rwa[e]at this
 have g:((d'.toList.map λi=>L[i]).map (·.pw)).Nodup:=((c.map (·.pw)).nodup_iff).2 hn;refine Ea ?_ (rM k hn)<|c.trans (iE L).symm;unfold KX;rw[aio];intro i j hi s h;have p:i<d'.size:=ce
 have o:j<d'.size:=by simpa using s
 have l:=hs i j (abX _) h E;rw[getElem!_pos d' i p,getElem!_pos d' j o]at l;simp[ah3,Array.getElem_toList];have n:L[d'[j]].pw≠L[d'[i]].pw:=λe=>by have:=(aio.1<|List.nodup_iff_pairwise_ne.1 g) i j (ce) (by simpa using s) h;simp[ah3,Array.getElem_toList]at this;exact this e.symm
 refine oh ((k _ I).trans (k _ I).symm) ?_ n;cases v:beforeL L[d'[j]].pw L[d'[i]].pw with
 |false=>rfl
 |true=>exact abK ((vL<|(k _ I).trans (k _ I).symm).2 v)<|of_decide_eq_false l
def Zd(K:∀x y f,Calls prog 340 #[.int .i64 x,.int .i64 y] f λe w'=>e=.returned (.int .i64<|Lib.compareInt x y)/\w'=f)
 {L:List Tm}{V:Nat}(O:∀u∈L,u.pw.length=V/\UO u.pw)(hn:(L.map (·.pw)).Nodup)(h0:0<L.length){w:World}{S:Nat->Prop}{fU cap:Nat}{cs:Array Value}{F:List Nat}
 (p:row? w fU=some (cs,(0,0)))(E1:cs.size=cap*5)(F1:L.length<=cap)(hE:dG w S 5 (L.map λt=>(fj t).den) (cs.toList.take<|L.length*5) F)(hb:¬S fU)(hS:∀b,S b->b<w.heap.size)
 (q:∀[Inhabited<|Fin L.length](enc:Fin L.length->List Value)(_:∀x,(enc x).length=5)(_:∀x,∀v∈enc x,v.oneCell'=true)(cf:Fin L.length->Fin L.length->Int)(_:SWO (ltOf cf))(d:Array (Fin L.length))(_:d.size=L.length)(_:CmpLays prog 308 #[] enc 5 cf fU 0 L.length w)(_:HoldsK enc 5 w fU 0 d),
   Calls prog 307 #[.slice (some ⟨fU,0,none⟩) L.length cap,.func (.func 308) #[] #[]] w λe w'=>e=.returned (.tuple #[])/\∃d' n os,PermIn 0 L.length d d'/\SortedIn (ltOf cf) 0 L.length d'/\w'=sortWorldK enc 5 w fU 0 n d' os):
 Calls prog 307 #[.slice (some ⟨fU,0,none⟩) L.length cap,.func (.func 308) #[] #[]] w λe w'=>e=.returned (.tuple #[])/\w'.os=w.os/\w'.tape=w.tape/\w'.output=w.output/\w.heap.size<=w'.heap.size/\(∀b,b<w.heap.size->b≠fU->w'.heap[b]?=w.heap[b]?)/\
  ∃cs',row? w' fU=some (cs',(0,0))/\cs'.size=cap*5/\dG w' S 5 ((nP L).map λt=>(fj t).den) (cs'.toList.take<|L.length*5) []:=by
 obtain⟨rfl,hl,F0⟩:=uv.YN hE
 haveI:Inhabited (Fin L.length):=⟨⟨0,h0⟩⟩
 let enc:Fin L.length->List Value:=λi=>((cs.toList.take<|L.length*5).drop<|i.val*5).take 5
 have g:∀i:Fin L.length,uv w S L[i] (enc i):=λi=>F0 i i.isLt
 let d:Array (Fin L.length):=(List.finRange L.length).toArray
 have N:d.size=L.length:=by simp[d]
 have Z:∀i(h:i<L.length),d[i]! =⟨i,h⟩:=λi h=>by rw[getElem!_pos d i E];simp[d]
 have l:∀(e:Array (Fin L.length))(i c:Nat),e.size=L.length->i<L.length->c<5->(flatK enc 5 e)[i*5+c]?=(enc e[i]!)[c]?:=λe i c he hi hc=>by have r:i*5+c<e.size*5:=E;have h5:(enc e[i]!).length=5:=(g _).1;rw[agd<|by simpa using r];unfold flatK;rw[Array.getElem_map,Array.getElem_range,show(i*5+c)/5=i from E,show(i*5+c)%5=c from E,getElem!_pos (enc e[i]!) c E];simp[h5,hc]
 have s:∀j,j<L.length*5->(flatK enc 5 d)[j]?=cs[j]?:=λj H=>by have:=l d (j/5) (j%5) N E E;rw[show j/5*5+j%5=j from E,Z _ E]at this;rw[this];show(((cs.toList.take<|L.length*5).drop<|j/5*5).take 5)[j%5]?=_;rw[ah6,abx E,ah5,ah6,show j/5*5+j%5=j from E,abx H,ail]
 have C:∀{e:Array (Fin L.length)}{m os},row? (sortWorldK enc 5 w fU 0 m e os) fU=some (putCells id 0 (flatK enc 5 e) cs,(0,0)):=λ{e m os}=>KJ p m e os;obtain⟨el,hh⟩:∃el,w.heap[fU]?=some (.cells cs el (0,0)):=by unfold row? at p;split at p;rename_i h;simp at p;exact⟨_,by rw[h,p.1,p.2]⟩;cases p
 have F3:fU<w.heap.size:=zaW
 have E2:∀b,S b->b≠fU:=λb o e=>hb (e▸o);refine(q enc (λx=>(g x).1) (λx v T=>by obtain⟨c0,c1,c2,c3,a,c,e,k1,-⟩:=(g x).parts;exact k1 v T) (λi j=>Ds L[i].pw L[j].pw) (SU λu hu=>(O u hu).1) d N ?_ ?_).mono ?_;intro m os dk F2 x y;obtain⟨c0,c1,c2,c3,a,c,e1,-,k1,k2⟩:=(g x).parts;obtain⟨d0,d1,d2,d3,b,c',e2,-,k3,k4⟩:=(g y).parts;have B:=O L[x] I;have M:=O L[y] I;rw[M.1.trans B.1.symm]at e2;rw[e1,e2,Array.append_empty];refine(Tryz.ag1 K c0 c1 c2 c3 d0 d1 d2 d3 a b c c' L[x].pw L[y].pw _ B.2.1 (M.1.trans B.1.symm) (λz A=>⟨(B.2.2 z A).1,by have:=(B.2.2 z A).2;omega⟩) (λz A=>⟨(M.2.2 z A).1,by have:=(M.2.2 z A).2;omega⟩) (jf.sorted k1 k2 hb enc 5 m dk os)<|jf.sorted k3 k4 hb enc 5 m dk os).mono ?_;rintro e w'⟨rfl,n,R,rfl⟩;exact⟨W,n,R,W⟩;intro j H;have Y:j<L.length*5:=by simpa[N]using H
 have:=s j Y;rw[agd H]at this;refine⟨?_,?_⟩;rw[oe W p,getElem!_pos _ j H];simp;exact this.symm;unfold World.frozen?;simp[hh];rintro e w'⟨rfl,d',n,os,hp,hs,rfl⟩;have A0:d'.size=L.length:=hp.1.trans N;have k:=Lw (λu hu=>(O u hu).1) hn (by simp[d]) hp hs;refine⟨W,W,W,W,?_,λb r X=>xd X r n d' os,_,C,?_,?_⟩;unfold sortWorldK;rw[size_grow,size_putRowK];exact Nat.le_add_right _ _;unfold putCells;simp[E1];have D:(nP L).length=L.length:=(iE L).length_eq;refine uv.back (by rw[D];simp[putCells];omega) λi hi=>?_;have J:i<d'.size:=E;have hg:(nP L)[i]=L[d'[i]]:=by have:(d'.toList.map λi=>L[i])[i]'(by simpa using J)=L[d'[i]]:=I;rw[<-this];congr 1;exact k.symm
 rw[hg];have he:=g d'[i];have T:((List.take (L.length*5) (putCells id 0 (flatK enc 5 d') cs).toList).drop<|i*5).take 5=enc d'[i]:=by
  apply aiz;intro c;rw[ah6,ah5,ah6];by_cases hc:c<5;rw[abx hc,abx E,ail];have hf:=l d' i c A0 E hc;rw[getElem!_pos d' i J]at hf;rw[<-hf];unfold putCells;have h1:i*5+c<cs.size:=E;have P:i*5+c<(flatK enc 5 d').size:=by rw[size_flatK];omega
  rw[Array.getElem?_mapIdx,agd h1,agd P];simp;rw[abx<|by rw[size_flatK]at P;exact P,getElem!_pos (flatK enc 5 d') (i*5+c) P];rw[abl hc,agc<|by rw[he.1];omega]
 rw[T];exact⟨he.1,Rel.frame _ he.2 λb o=>xd (E2 b<|by simpa using o) (hS b<|by simpa using o) n d' os⟩
def Ca{V:Hid}{n:List Value}{F:Nat->List Nat}{w w':World}{S:Nat->Prop}{args:List AV}{L M:List Tm}(hc:aT S V.g (both args [(aj4 L).den]) (a7 V n) w F)
 (d:w'.os=w.os)(t:w'.tape=w.tape)(s:w'.output=w.output)(l:w.heap.size<=w'.heap.size)(r:∀b,b<w.heap.size->b∉F 500->w'.heap[b]?=w.heap[b]?)(q:Rel w' S (aj4 M).den (V.v 500) (F 500)):
 ∃S' F',tZ V w w w'/\(∀b,S b->S' b)/\(∀b,S' b->S b\/c6 V w b)/\aT S' (c6 V w) (both [(SV.de []).den] [(aj4 M).den]) (a7 V [.tuple #[]]) w' F':=by
 refine⟨S,λi=>if i=500 then F 500 else[],⟨d,t,s,l,λk o p=>r k o λe=>p (hc.own _ k e).1⟩,λ_ h=>h,λ_ h=>.inl h,
  ⟨λi=>?_,λi=>?_,λi j f c a=>?_,λi c a=>?_,λc h=>aey (hc.shr c h) l⟩⟩
 rw[an.aC<|gb,kx];by_cases m:i=0;subst m;exact⟨_,W,W,W⟩;by_cases d:i=500;subst d;exact q;simp[m,d,Rel];split;exact hc.nodup _;simp;split at a;rw[abl λe=>f E];simp;cases a;split at a;have:=hc.own _ c a;exact⟨.inr this.1,E,this.2.2⟩;cases a
def Jx:QD:=by
 intro L V Y hn N w S H K F hl hG hc;obtain⟨x0,j,rfl⟩:∃x0 j,K=[x0,j]:=by
  match K,hl with
  |[x0,j],_=>exact⟨_,_,W⟩
 have e0:=mT (i:=0) E hc W;have e1:j=.func (.func 308) #[] #[]:=by
  have r:=hc.rel 1;obtain⟨a,c,F1,F2,h,n,m,-⟩:=r;have X:a=#[]:=by have:=n.1;simpa using this
  have z:c=#[]:=by have:=m.1;simpa using this
  rw[X,z]at h;exact h
 have r:=hc.rel 500;have s:=fi (args:=aE [.bH 500 0 0 [],.fn (.func 308) [] []]) (H:=aE [aj4 L]) (by simp[aE]) 0;rw[an.aC<|by rw[s];rfl,s]at r;have ev:a7 H [x0,j] 500=H.v 500:=by unfold a7;rw[abl E]
 have l:Rel w S (aj4 L).den (H.v 500) (F 500):=r;have o:x0=H.v 500:=e0;subst e1;refine sT.mB (fn:=Tryz.f307) func307 W W ?_;have nil:∀p g,H.v 500=.slice p 0 g->L=[]->Calls prog 307 #[x0,.func (.func 308) #[] #[]] w λe q=>∃v,e=.returned v/\∃J R,tZ H w w q/\(∀b,S b->J b)/\(∀b,J b->S b\/c6 H w b)/\aT J (c6 H w) (both [(SV.de []).den]<|aE [aj4<|nP L]) (a7 H [v]) q R:=by intro p g T B;subst B;rw[o,T];refine(Tryz.aeD p g _ w).mono ?_;rintro e q⟨rfl,rfl⟩;exact⟨_,W,Ca (L:=[]) (M:=[]) hc W W W (abY _) (λ_ _ _=>rfl) l⟩
 have k:=l;simp only[SV.den,fl,Rel,adZ]at k;rcases k with⟨h,n,m⟩|⟨fU,g,cs,R,h,n,m,h4,Z,O,t⟩;exact nil none 0 n (aR);by_cases P:L.length=0;rw[P]at h;exact nil _ _ h<|ai7.1 P;obtain⟨rfl,-⟩:=uv.YN O;have A:=(hc.own 500 fU<|by rw[t];simp).2.2;show Calls prog 307 #[x0,.func (.func 308) #[] #[]] w _;rw[o,h];refine(Zd (V:=V) (λx y f=>AnyG.cmp_Compare_int Tryz.XT x y f) Y hn E n Z m O A hc.shr λC k1 k2 cf k3 d k4 k5 k6=>?_).mono ?_;have:=Tryz.aeC C k1 k2 cf k3 fU g d w (by rw[k4];exact k5) k6 (by have:=(hc.own 500 fU<|by rw[t];simp).2.1;exact this) E
 rw[k4]at this;exact this;rintro e q⟨rfl,g1,g2,g3,g4,g5,D,g6,g7,g8⟩;refine⟨_,W,Ca (M:=nP L) hc g1 g2 g3 g4 (λb s u=>g5 b s λe=>u<|by rw[t,e];simp) ?_⟩;simp only[SV.den,fl,Rel,adZ,(iE L).length_eq];exact .inr ⟨fU,g,D,[],h,g6,m,h4,g7,g8,t⟩
end Go.Ai.Pg
end
namespace Go.Ai.Pg
def YI(t u:Tm):Tm:=⟨jW t.f u.f,List.zipWith (·+ ·) t.pw u.pw⟩
def mulM(a b:L Tm):L Tm:=a.flatMap λt=>b.map<|YI t
def Ii{a b:L Tm}{i:Nat}(h:i<a.length):mulM (a.take<|i+1) b=mulM (a.take i) b++b.map (YI a[i]):=by unfold mulM;rw[adY h,ai6];simp
def Mp{a b:L Tm}{i k:Nat}(h:i<a.length):mulM (a.take i) b++(b.take k).map (YI a[i]) <+:mulM a b:=by
 have c:mulM (a.take<|i+1) b <+:mulM a b:=by
  conv=>rhs;rw[<-ah1 (i+1) a]
  unfold mulM;grind
 refine List.IsPrefix.trans ?_ c;rw[Ii h];exact(List.prefix_append_right_inj _).2<|(ajH k b).map _
def ae8(p q:List Tm){V K L M:Nat}(x:∀t∈p,t.ok/\kV t.f L/\PwS t.pw/\t.pw.length=V)(u:∀t∈q,t.ok/\kV t.f M/\PwS t.pw/\t.pw.length=V)(h:sP V K (mulM p q))(z:K<2^32)(y:L+M<2^38)(w:p.length<2^40)(s:q.length<2^40):
 ab 227 [aj1 p,aj1 q] (aj4<|kE<|mulM p q):=by
 refine cx func227 W<|r0 W<|oA W W W (tz (κ:=cj) W) W<|r0 W<|aU (λi:Nat=>[(1,aj1 q),(5,.mx<|mL<|sB<|mulM (p.take i) q),(14,aj1 p),(15,.i p.length),(16,.i i)]) (λi=>i<=p.length) (λi=>p.length-i) 0 (abX _) ?_;intro i hi;refine cv W W ?_ ?_<;>intro g1;have c:i<p.length:=E;have o:(i:Int).toNat=i:=E;have B:p.getD i default=p[i]:=az c;have hm:=x p[i] I;refine r1 W (pi) ?_;rw[o,B];refine aU (λk:Nat=>[(1,aj1 q),(5,.mx<|mL<|sB<|mulM (p.take i) q++(q.take k).map (YI p[i])),(7,.box true<|fj p[i]),(14,aj1 p),(15,.i p.length),(16,.i i),(20,aj1 q),(21,.i q.length),(22,.i k)]) (λk=>k<=q.length) (λk=>q.length-k) 0 (abX _) ?_ (by simp only[aiW,ahj,ahl];repeat(first|exact rrA|exact U|exact rfl|refine⟨?_,?_⟩));intro k H;refine cv W W ?_ ?_<;>intro g2;have e:k<q.length:=E;have g:(k:Int).toNat=k:=E;have l:q.getD k default=q[k]:=az e;have hn:=u q[k] I;have a:p[i].pw.length=q[k].pw.length:=hm.2.2.2.trans hn.2.2.2.symm;refine r1 W (by simp only[aj,abu,g];omega) ?_;rw[g,l];refine b8 W (wK p[i].pw hm.2.2.1.1 (by have:=hm.2.2.1.2.1;omega)) W ?_;refine r0 W<|aU (λv:Nat=>[(1,aj1 q),(5,.mx<|mL<|sB<|mulM (p.take i) q++(q.take k).map (YI p[i])),(7,.box true<|fj p[i]),(9,.box true<|fj q[k]),(10,gu<|rH p[i].pw q[k].pw v),(14,aj1 p),(15,.i p.length),(16,.i i),(20,aj1 q),(21,.i q.length),(22,.i k),(30,gm q[k].pw),(31,.i q[k].pw.length),(32,.i v)])
  (λv=>v<=p[i].pw.length) (λv=>p[i].pw.length-v) 0 (abX _) ?_ (by simp only[rH,aiW,List.zipWith_nil_left,ahA,ahe];repeat(first|exact rrA|exact U|exact rfl|refine⟨?_,?_⟩))
 intro v F;have j:=Hs a v;refine cv W W ?_ ?_<;>intro A;have b:v<p[i].pw.length:=E;have ev:(v:Int).toNat=v:=E;have D:=hm.2.2.1.2.2 _<|aN (d:=0) b;have C:=hn.2.2.1.2.2 _<|aN (d:=0) (a▸b);have J:=hm.2.2.1.2.1;refine r1 W (by simp only[aj,abu,ev,sW a b,j];omega) ?_;rw[ev,sW a b,Hr a b];exact aL (v+1) E;have ev:v=p[i].pw.length:=E;subst ev;rw[Ht a];refine rn 1 W<|s8 (r:=10) (p:=[]) W W U<|cu W W (j5 p[i].f q[k].f hm.1 hn.1 hm.2.1 hn.2.1 y) W<|r0 W ?_;have n:mulM (p.take i) q++(q.take<|k+1).map (YI p[i])=mulM (p.take i) q++(q.take k).map (YI p[i])++[YI p[i] q[k]]:=by rw[adY e,adW,aen];rfl
 refine cr W W (GA h z (m:=mulM (p.take i) q++(q.take k).map (YI p[i])) (t:=YI p[i] q[k])<|by rw[<-n];exact Mp c) W ?_;rw[<-n];refine r1 W bj<|aL (k+1) E;have g:k=q.length:=E;subst g;rw[aed,<-Ii c];refine r1 W bj<|aL (i+1) E;have:i=p.length:=E;subst this;rw[aed];refine r0 W<|cr W W (DI Jx h) W<|cq W W
def CU(v:Nat)(t:Tm):L Tm:=if 0<t.pw.getD v 0 then[⟨jW t.f ⟨⟨t.pw.getD v 0,none⟩,⟨1,none⟩⟩,t.pw.set v<|t.pw.getD v 0-1⟩]else[]
def mM(p:L Tm)(v:Nat):L Tm:=p.flatMap<|CU v
def IV{p:L Tm}{v i:Nat}(h:i<p.length):mM (p.take<|i+1) v=mM (p.take i) v++CU v p[i]:=by unfold mM;rw[adY h,ai6];simp
def NJ{p:L Tm}{v i:Nat}:mM (p.take i) v <+:mM p v:=by
 conv=>rhs;rw[<-ah1 i p]
 unfold mM;grind
def si(n:Int)(h: -(2^63)<=n/\n<=9223372036854775807):cB ⟨⟨n,none⟩,⟨1,none⟩⟩ (n:Rat):=⟨h,show -(2^63)<=(1:Int)/\(1:Int)<=9223372036854775807 from gC,by simp[nv],by simp[nv]⟩
def aaw{n:Int}(h:n.natAbs<2^64):kV ⟨⟨n,none⟩,⟨1,none⟩⟩ 1:=⟨gJ<|by simpa[nv]using h,gJ (m:=1) gC⟩
def XE(p:List Tm)(v:Nat){V K L:Nat}(j:∀t∈p,t.ok/\kV t.f L/\PwS t.pw/\t.pw.length=V)(n:v<V)(h:sP V K (mM p v))(k:K<2^32)(q:L<2^37)(g:p.length<2^40):
 ab 293 [aj1 p,.i v] (aj4<|kE<|mM p v):=by
 refine cx func293 W<|r0 W<|oA W W W (tz (κ:=cj) W) W<|r0 W<|aU (λi:Nat=>[(1,.i v),(5,.mx<|mL<|sB<|mM (p.take i) v),(11,aj1 p),(12,.i p.length),(13,.i i)]) (λi=>i<=p.length) (λi=>p.length-i) 0 (abX _) ?_;intro i hi;refine cv W W ?_ ?_<;>intro g1;have a:i<p.length:=E;have c:(i:Int).toNat=i:=E;have ev:(v:Int).toNat=v:=E;have e:p.getD i default=p[i]:=az a;have hm:=j p[i] I;have l:=hm.2.2.1.2.2 _<|aN (d:=0)<|show v<p[i].pw.length from E;have o:=hm.2.2.1.2.1;refine r1 W (by simp only[aj,abu,c,ev,e];omega) ?_;rw[c,ev,e];refine cg W ?_ ?_<;>intro g2;refine cu W W (wK p[i].pw hm.2.2.1.1 E) W<|UW 11 W (by simp only[aj,abu,ev];omega) ?_;refine s8 (r:=9) (p:=[]) W W U<|ct W W (f_s<|p[i].pw.getD v 0) W<|ct W W (j5 p[i].f ⟨⟨p[i].pw.getD v 0,none⟩,⟨1,none⟩⟩ hm.1 (si _ E).self hm.2.1 (aaw E) E) W<|r0 W ?_;rw[ev];have b:mM (p.take<|i+1) v=mM (p.take i) v++[⟨jW p[i].f ⟨⟨p[i].pw.getD v 0,none⟩,⟨1,none⟩⟩,p[i].pw.set v<|p[i].pw.getD v 0-1⟩]:=by rw[IV a];unfold CU;rw[abx g2]
 refine crd W W (GA h k (m:=mM (p.take i) v) (t:=⟨jW p[i].f ⟨⟨p[i].pw.getD v 0,none⟩,⟨1,none⟩⟩,p[i].pw.set v<|p[i].pw.getD v 0-1⟩)<|by rw[<-b];exact NJ) W ?_;rw[<-b];refine xf W<|aL (i+1) E;have:mM (p.take<|i+1) v=mM (p.take i) v:=by rw[IV a];unfold CU;simp_all
 refine fM W ?_;rw[<-this];exact aL (i+1) E;have:i=p.length:=E;subst this;rw[aed];refine r0 W<|cr W W (DI Jx h) W<|cq W W
def vg(n:Nat):Bool:=decide (600<(decl n 1).length)
def vf{n k:Nat}(g:k<=1800)(h:n<2^k):vg n=false:=by have a:=cY n 1 600 (aey h<|ab7 (aeh gC g)<|be) gC;unfold vg;simp_all
def WS(a:Nm)(c:bz a){K:Nat}(hl:fY a K)(d:K<2^32):ab 258 [eN a] (.u<|vg (nv a).natAbs):=by
 refine enter func258 W W W W<|cu W W (Qu a c hl E) W<|ck W 6 W ?_ ?_<;>intro g;refine cu W W (yE a c hl E) W ?_;have b:=jZ hl;refine b8 W (QM _ E) W ?_;rw[kb];refine cm W W<|aj8 SV.u ?_;unfold vg;grind;have:vg (nv a).natAbs=false:=by exact vf (show bl (nv a).natAbs<=1800 from E)<|Ja _
 rw[this];exact cm W W W
def lgB(q:Rat):Bool:=vg q.num.natAbs||vg q.den
def Iw(q:Rat):ja q=if lgB q=true then 4 else 0:=by unfold ja lgB vg;simp
def DO(f:Fr){q:Rat}(h:cB f q){K:Nat}(hl:kV f K)(a:K<2^32)(e:ja q=0):ab 182 [eF f] (.b false):=by
 obtain⟨m,l,k,j⟩:=h;have d:=WS f.n m hl.1 a;have c:=WS f.d l hl.2 a;rw[Iw,lgB]at e;obtain⟨i,g⟩:vg q.num.natAbs=false/\vg q.den=false:=by grind
 rw[k,i]at d;rw[j,show vg (q.den:Int).natAbs=false from g]at c;refine enter func182 W W W W<|cu W W (d.same (q:=.b false) W W) W<|cu W W (c.same (q:=.b false) W W) W<|cq W W
def WX(p:L Tm){K:Nat}(h:∀t∈p,t.ok/\kV t.f K/\ja (fq t.f)=0)(j:K<2^32)(hl:p.length<2^40):ab 231 [aj1 p] (.b false):=by
 have hi:ab 329 [aj1 p,.fn (.func 297) [] []] (.i<|-1):=by
  refine cx func329 W<|r0 W<|aU (λi:Nat=>[(0,aj1 p),(1,.fn (.func 297) [] []),(7,.i p.length),(8,.i i)]) (λi=>i<=p.length) (λi=>p.length-i) 0 (abX _) ?_;intro i hi;refine cv W W ?_ ?_<;>intro g;have k:(i:Int).toNat=i:=E;obtain⟨m1,c,a⟩:=h _<|aN (d:=default)<|show i<p.length from E;have e:ab 297 [fj<|p.getD i default] (.b false):=by refine enter func297 W W W W<|cu W W (DO _ m1 c j a) W<|cq W W
  refine fM W ?_;rw[k];refine b8 W e W<|fM W<|aL (i+1) E;exact cq W W
 have hc:ab 296 [aj1 p,.fn (.func 297) [] []] (.b false):=by refine enter func296 W W W W<|cu W W hi W<|cm W W W
 refine enter func231 W W W W<|cu W W hc W<|cq W W
def Ut(p:L Tm):Int:=match p with
 |[]=>0
 |t::_=>t.pw.sum
def adv(p:L Tm)(h:∀t∈p,PwS t.pw):ab 230 [aj1 p] (.i<|Ut p):=by refine enter func230 W W W W<|cv W W ?_ ?_<;>intro g;have:p=[]:=ai7.1 E;subst this;exact cm W W W;obtain⟨t,l,rfl⟩:∃t l,p=t::l:=List.exists_cons_of_ne_nil λe=>g (by rw[e];rfl);have a:=h t I;refine fM W<|b8 W (XG _ a.2.1 a.2.2) W<|cq W W
def Kz{s:cj}(h:aV s=0):Dc (bp s) s.length:=by
 have e:=aal List.length<|dU h;have d:=jX (bp s).num (bp s).den;have c:(decl (bp s).num.natAbs 1).length<=(b7 (bp s).num).length:=by unfold b7;split<;>simp
 have b:1<=(decl (bp s).num.natAbs 1).length:=ah8.2<|Ky _ gC;have a:(decl (bp s).den 1).length<=(eR (bp s).den).length+1:=by unfold eR;split;rename_i g;rw[g];exact cY 1 1 1 gC gC;simp;omega
 unfold qt at e;exact⟨E,E⟩
structure MdF(f:Fr)(q:Rat):Prop where
 ok:cB f q
 sz:kV f 700
 n:q.num.natAbs<2^1800
 d:q.den<2^1800
def Rs(f:Fr){q:Rat}(h:MdF f q):ab 182 [eF f] (.b false):=DO f h.ok h.sz gC (by rw[Iw,lgB,vf (abY _) h.n,vf (abY _) h.d];rfl)
def abv{f:Fr}{q:Rat}(h:cB f q)(hs:kV f 700)(a:Sz q 60):MdF f q:=by
 have b:∀n:Nat,(Go.Ai.ah n).length<=60->n<2^1800:=λn hn=>by
  have d:=Go.Ai.bT n;have c:(1000000000:Nat)^(Go.Ai.ah n).length<=1000000000^60:=aeh gC hn
  grind
 exact⟨h,hs,b _ a.1,b _ a.2⟩
def OE{s:cj}(h:aV s=0)(hl:s.length<=27):Sz (bp s) 3:=⟨nu<|ab7 (Kz h).1 hl,nu<|ab7 (Kz h).2 hl⟩
def aev{e:Int}(h: -80<=e/\e<=80):Sz (iO e) 3:=by
 have a:∀n:Nat,(2:Rat)^n=((2^n:Nat):Rat):=λn=>I;have b:∀n:Nat,n<=80->2^n<1000000000000000000000000000:=λn hn=>ahn (aeh gC hn) gC;have c:(Go.Ai.ah 1).length<=3:=eH gC;unfold iO;split;have d:(0:Int)<((2^(-e).toNat:Nat):Int):=by have:=ae9 (n:=(-e).toNat) (show 0<2 from gC);omega
 rw[a];unfold Sz;rw[Rat.num_inv,Rat.den_inv,Rat.num_natCast,Rat.den_natCast,ajy d,abl E,ahW];exact⟨c,eH<|b _ E⟩;rw[a];unfold Sz;exact⟨eH<|b _ E,c⟩
def rtL(p:fZ)(sh:L Int)(is:L (L Int))(i:Nat):L Rat:=(List.range (p.aa.getD i default).ai.length).map<|rtQ p sh is i
def uX(o:Bool)(k:cj):SV:=.agg [.s bk,.row o 2 [.agg [.i 1,.s [49]],.agg [.i 0,.s [49]]],.i 1,.s k,.nil]
def gN:SV:=.agg [.i 2,.row false 5 [uX false [49]],gm [1]]
def nL:L cj:=[[49],[50]]
def aem(k:cj):AO (.row false 5 [uX false k]) (aj3 [tH k]):=
 .row (.cons (.agg<|.cons (.refl _)<|.cons (.row (d:=default) (e:=uy) (ys:=(tH k).ai)<|.cons (.refl _)<|.cons (.refl _) .nil)<|.cons (.refl _)<|.cons (.refl _)<|.cons (.le W) .nil) .nil)
def aat:AO gN (bV qS):=.agg<|.cons (.refl _)<|.cons (aem _)<|.cons (.refl _) .nil
def Uj:ab 104 [gN,.strs false nL] (.i 0):=by
 refine cx func104 W<|cv W W (λg=>abK W g) λ_=>?_;refine r0 W<|aU (λi:Nat=>[(1,.strs false nL),(13,.strs false nL),(14,.i 2),(15,.i i)]) (λi=>i<=2) (λi=>2-i) 0 gC ?_;intro i hi;refine cv W W ?_ ?_<;>intro h
 ·rcases(E:i=0\/i=1)with rfl|rfl
  all_goals
   refine r1 W (aQ W)<|b8 W (sF gC<|be) W<|cu W W (qB false 6) W<|cu W W (Ab [0,0] gC) W<|cv W W (λg=>abK W g) λ_=>?_;refine r1 W (aQ W) ?_
   first|exact aL 1 gC|exact aL 2 gC
 refine r1 W (aQ W)<|b8 W (qB false 3) W<|cq W W
def rX(x:SV):SV:=.box true<|.agg [.i 2,x,gu [1],.i 0]
def aaQ:ab 175 [.row false 2 [.agg [.i 1,.s [49]],.agg [.i 0,.s [49]]]] (.row true 2 [.agg [.i 1,.s [49]],.agg [.i 0,.s [49]]]):=by refine enter func175 W W W W<|r1 W (aQ W)<|bY W
def aaP:ab 176 [.nil] .nil:=by refine enter func176 W W W W<|cq W W
def uL:Nat->SV
 |0=>.nil
 |_=>.row true 5 [uX true [49]]
def XO:ab 85 [gN] (rX<|uL 1):=by refine cx func85 W<|ct W W (wK [1] gC gC) W<|k0 W aP<|aU (λi:Nat=>[(3,.bH 13 0 0 []),(13,rX<|uL i),(15,.row false 5 [uX false [49]]),(16,.i 1),(17,.i i)]) (λi=>i<=1) (λi=>1-i) 0 gC ?_;intro i hi;refine cv W W ?_ ?_<;>intro h;obtain rfl:i=0:=E;refine r1 W (aQ W)<|b9 W aaQ W<|ct W W aaP W<|kno 12 W aP U<|ry W W W (kf.same (afd (P:=prog) (y:=uX true [49]) (ti:=tiU) W W W W) W W W W) W<|k1 W aP (aQ W)<|aL 1 gC;obtain rfl:i=1:=E;refine cq W W
def aX:Fr:=dq<|bp [50]
def bX:Fr:=dq<|bp [49]
def Hp:cB aX 2/\kV aX 1:=⟨Cn▸bt _,Fo (Kz o5) gC⟩
def N6:cB bX 1/\kV bX 1:=⟨mz▸bt _,Fo (Kz check_1) gC⟩
def Uf:ab 105 [.strs false nL] (.row true 4 [eF bX,eF aX]):=by
 refine cx func105 W<|r1 W (aQ W)<|aU (λi:Nat=>[(3,.row true 4 (match i with
  |0=>[zF,zF]
  |1=>[eF bX,zF]
  |_=>[eF bX,eF aX])),(9,.strs false nL),(10,.i 2),(11,.i i)]) (λi=>i<=2) (λi=>2-i) 0 gC ?_
 intro i hi;refine cv W W ?_ ?_<;>intro h;rcases(E:i=0\/i=1)with rfl|rfl;refine r1 W (aQ W)<|b8 W (jd check_1) W<|r1 W (aQ W)<|aL 1 gC;refine r1 W (aQ W)<|b8 W (jd o5) W<|r1 W (aQ W)<|aL 2 gC;obtain rfl:i=2:=E;refine cq W W
def uY(k r:cj):SV:=.agg [.s bk,.row true 2 [.agg [.i 1,.s r],.agg [.i 0,.s [49]]],.i 1,.s k,.nil]
def QP(C:Value->Prop){f:Fr}{q:Rat}(a:cB f q)(hs:kV f 600)(c:Sz q 60)(k:cj):
 kg prog 89 [rX<|.pv C,.row true 5 [uY [49] k]] [.bH 500 0 0 [],.ptr 501 0 0 [.idx 0 5,.at 3 none],eF f] [rX<|.pv C,.row true 5 [uY (qt q) k]] (.de [])/\
 kg prog 89 [rX<|.pv C,.row true 5 [uY k [49]]] [.bH 500 0 0 [],.ptr 501 0 0 [.idx 0 5,.at 1 none,.idx 0 2,.at 1 none],eF f] [rX<|.pv C,.row true 5 [uY k<|qt q]] (.de []):=by
 obtain⟨m1,b⟩:=ku bX f N6.1 a N6.2 hs;rw[Rat.one_mul]at m1;have m:=abv m1 (sg b gC) c;constructor
 all_goals
  refine ns (fn:=Tryz.f89) func89 W W W W W<|r1 W (aQ W)<|b9 W (jd check_1) W<|ct W W (j5 bX f N6.1 a N6.2 hs gC) W<|k0 W aP<|b8 W (Rs _ m) W<|cu W W (AS _ m.ok m.sz gC) W<|r1 W (aQ W)<|LM [(500,rX<|.pv C),(501,.row true 5 [uY _ _])] ⟨ak,ak,U⟩ W U ⟨G,G,U⟩
def aar:ab 90 [.box false<|.agg [.i 2,.row false 5 [uX false [50]],gm [1],.i 0]] (.de [bV<|ou [50],.i 0]):=by
 have h:ab 90 [.box false<|.agg [.i 2,aj3 [tH [50]],gm [1],.i 0]] (.de [bV<|ou [50],.i 0]):=by refine enter func90 W W W W<|cv W W (λg=>abK W g) λ_=>?_;exact cq W W
 exact h.K9<|.cons (.box<|.agg<|.cons (.refl _)<|.cons (aem _)<|mS.refl _) .nil
def agx:qt 1=[49]:=by rw[<-mz,dU check_1]
def agw:qt 2=[50]:=by rw[<-Cn,dU o5]
def agq:Sz 1 3:=mz▸OE check_1 gC
def agp:Sz 2 3:=Cn▸OE o5 gC
def sK(i:Nat):L (Nat×SV):=[(4,.box true<|.agg [.i 0,.nil,.nil]),(8,.row false 4 [eF bX,eF aX]),(38,.i 1),(39,.i i)]
def sH(C:Value->Prop):L (Nat×SV):=(501,.bH 500 0 0 [])::(500,.row true 5 [uY [50] [49]])::(11,.ptr 500 0 0 [.idx 0 5])::(9,rX<|.pv C)::(12,.box true<|eF aX)::sK 0
def wL:Nat->SV
 |0=>.row true 5 [uY [49] [49]]
 |_=>.row true 5 [uY [50] [49]]
def S9:ab 30 [gN,.strs false nL] (.de [bV<|ou [50],.i 0]):=by
 have c:=(o6 qS th<|JN check_1).K9<|.cons aat .nil;obtain⟨i1,o⟩:=wx aX Hp.1 gC Hp.2;obtain⟨l,k⟩:=ku aX _ Hp.1 i1 Hp.2 o;obtain⟨n,m⟩:=wx bX N6.1 gC N6.2;obtain⟨j,p⟩:=ku _ _ l n k m;rw[show(2:Rat)*2⁻¹ *1⁻¹ =1 from be]at j;have e:=λC=>(QP C Hp.1 (sg Hp.2 gC) (agp.mono gC) [49]).1;have f:=λC=>(QP C j (sg p gC) (agq.mono gC) [50]).2;rw[agw]at e;rw[agx]at f;refine cx func30 W<|cu W W c W<|cv W W (λg=>abK W g) λ_=>?_;refine cu W W Uj W<|cv W W (λg=>abK W g) λ_=>?_;refine cu W W (Uf.shr.same (q:=.row false 4 [eF bX,eF aX]) W W) W<|cu W W XO W<|r0 W<|aes (d:=9) W W W W U W U<|aU (λi:Nat=>(9,rX<|wL i)::sK i) (λi=>i<=1) (λi=>1-i) 0 gC ?_;intro i hi;refine cv W W ?_ ?_<;>intro g;obtain rfl:i=0:=E;refine kno 19 W aP (aQ W)<|afp (r:=9) (p0:=11) (v:=rX<|wL 0) (q:=[.deref,.at 0 (some 3),.at 1 none]++.idx 0 5::[]) (K:=sK 0) W W W W (aQ W) ⟨ak,ak,ak,ak,ak,U⟩<|Zx (Z:=500) (h:=501) (y:=wL 0) (y2:=wL 1) (v1:=λC=>rX<|.pv C) (v2:=λC=>rX<|.pv C) (v3:=rX<|wL 1) (K2:=sK 0)
  ⟨gC,gC,gC,gC,gC,gC,gC,gC,gC⟩ W W W (λ_=>rfl) W W (λ_=>rfl) W (aQ W) (λ_=>rfl) W (λ_=>rfl) W (λC=>?_) ?_
 refine k1 W aP (aQ W)<|crd W W ((e C).same W W W W) W<|k1 W aP (aQ W)<|aU (λ_:Nat=>(66,.i 0)::(67,.i 0)::sH C) (λ_=>True) id 0 U ?_;intro a t;refine cv W W (λg=>abK g gC) λ_=>?_;refine r1 W (aQ W)<|aU (λb:Nat=>(84,.i 2)::(85,.i b)::sH C) (λb=>b<=2) (λb=>2-b) 0 gC ?_;intro b s;refine cv W W ?_ ?_<;>intro g;rcases(E:b=0\/b=1)with rfl|rfl;refine r1 W (aQ W)<|aI 100 W (λ_=>?_) λg=>abK W g;refine cv W W (λ_=>?_) λg=>abK W g;refine r1 W (aQ W)<|b9 W (Xm aX aX Hp.1 Hp.1 gC Hp.2 Hp.2 gC) W<|r1 W (aQ W)<|b9 W (Xm _ bX l N6.1 gC k N6.2 gC) W<|r0 W<|crd W W ((f C).same W W W W) W<|k1 W aP (aQ W)<|aL 1 gC;refine r1 W (aQ W)<|aI 100 W (λ_=>?_) λg=>abK W g;refine cv W W (λg=>abK g gC) λ_=>?_;refine r1 W (aQ W)<|cg W (λg=>abK g gC) λ_=>?_;refine r1 W (aQ W)<|cg W (λg=>abK g gC) λ_=>?_;refine r1 W (aQ W)<|aL 2 gC;refine r0 W<|⟨_,W,⟨mv,ak,mv,ak,ak,ak,ak,ak,U⟩⟩;refine r1 W (aQ W)<|aL 1 gC;obtain rfl:i=1:=E;refine cu W W aar W<|cq W W
def ae0{e:Int}(h:e=9\/e=6\/e=2\/e=7):ab 171 [.i e] (.b false):=by
 refine enter func171 W W W W<|cu W W (H0 e _ 40) W<|r0 W ?_;rcases h with rfl|rfl|rfl|rfl
 all_goals exact aJ W W
def Qi{a b:Int}(h:(a=9/\b=6)\/(a=2/\b=7)):ab 116 [gm [a,b],.fn (.func 171) [] []] (.u false):=by
 have hi:ab 211 [gm [a,b],.fn (.func 171) [] []] (.i<|-1):=by
  refine cx func211 W<|r0 W<|aU (λi:Nat=>[(0,gm [a,b]),(1,.fn (.func 171) [] []),(7,.i 2),(8,.i i)]) (λi=>i<=2) (λi=>2-i) 0 gC ?_;intro i hi;refine cv W W ?_ ?_<;>intro g
  ·rcases(E:i=0\/i=1)with rfl|rfl
   all_goals
    refine r1 W (aQ W)<|b8 W (ae0<|by rcases h with⟨rfl,rfl⟩|⟨rfl,rfl⟩<;>decide) rfl ?_;refine r1 W (aQ W) ?_
    first|exact aL 1 gC|exact aL 2 gC
  refine cq W W
 refine enter func116 W W W W<|cu W W hi W<|cm W W W
def sX:SV:=.agg [gm [9,6],.row false 1 [gm [2,7]]]
def Zj:ab 82 [gN,sX] (.i 0):=by
 refine cx func82 W<|ck W 15 W (λg=>abK W g) λ_=>?_;refine cv W W (λg=>abK W g) λ_=>?_;refine r0 W<|aU (λi:Nat=>[(2,.box true gN),(3,.box true sX),(25,.row false 5 [uX false [49]]),(26,.i 1),(27,.i i)]) (λi=>i<=1) (λi=>1-i) 0 gC ?_;intro i hi;refine cv W W (λg=>?_) λ_=>?_;obtain rfl:i=0:=E;refine k1 W aP (aQ W)<|cg W (λg=>abK W g) λ_=>?_;refine r1 W (aQ W)<|aL 1 gC;refine r1 W (aQ W)<|aU (λi:Nat=>[(48,.row true 1 [gm [9,6],gm [2,7]]),(49,.i 2),(50,.i i)]) (λi=>i<=2) (λi=>2-i) 0 gC ?_;intro i hi;refine cv W W (λg=>?_) (λ_=>?_)
 ·rcases(E:i=0\/i=1)with rfl|rfl
  all_goals
   refine r1 W (aQ W)<|b8 W (Qi gC) W<|r0 W<|qq W W W (λg=>nomatch g) λ_=>?_;refine r1 W (aQ W) ?_
   first|exact aL 1 gC|exact aL 2 gC
 refine cq W W
def pX(e:Int):Fr:=⟨pn e.toNat,⟨1,none⟩⟩
def agB{e:Int}(h:e=9\/e=6):ab 87 [ach,.i e] (eF<|pX e):=by
 have a:∀n:Nat,n<10->ab 178 [eN ⟨2,none⟩,.i n] (eN<|uT ⟨2,none⟩ n):=λn h=>HZ ⟨2,none⟩ n (show bz ⟨2,none⟩from by unfold bz;decide) (K:=1) (by unfold fY;rw[show(nv ⟨2,none⟩).natAbs=2 from W,bI.j7 (f:=2) gC gC];decide) E E;refine cx func87 W ?_;rcases h with rfl|rfl
 all_goals
  refine r1 W (aQ W)<|b8 W (EF 2) W<|r0 W ?_
  first|refine cl rfl rfl (a 9 gC) rfl ?_|refine cl rfl rfl (a 6 gC) rfl ?_
  refine cv W W (λ_=>?_) λg=>abK gC g;refine r1 W (aQ W)<|cg W (λg=>abK g gC) λ_=>?_;refine r0 W ?_
 refine b8 W ((yA<|pn 9).same W W) W<|cq W W;refine b8 W ((yA<|pn 6).same W W) W<|cq W W
def Jh{s:cj}(h:aV s=0)(hl:s.length<=27){e:Int}(he:0<=e/\e<=80):MdF (jW (dq<|bp s)<|pX e) (bp s*iO e)/\ab 88 [eF<|dq<|bp s,eF<|pX e] (eF<|jW (dq<|bp s)<|pX e):=by
 have a:kV (pX e) 2:=⟨Wf E,acU⟩;have b:cB (pX e) (iO e):=by unfold iO;rw[abl E,show(2:Rat)^e.toNat=((2^e.toNat:Nat):Rat)from I];exact⟨Wg _,EE,by rw[pX,We,Rat.num_natCast],gq⟩
 obtain⟨m1,c⟩:=ku _ _ (bt<|bp s) b (fR h) a;exact⟨abv m1 (sg c gC)<|((OE h hl).mul<|aev E).mono gC,j5 _ _ (bt<|bp s) b (fR h) a gC⟩
def Y4{f g:Fr}{p q:Rat}(b:MdF f p)(a:MdF g q):ab 93 [.row false 4 [eF f,eF g]] (.de [.strs true [qt p,qt q],.i 0]):=by
 have hi:ab 260 [.row false 4 [eF f,eF g],.fn (.func 182) [] []] (.i<|-1):=by
  refine cx func260 W<|r0 W<|aU (λi:Nat=>[(0,.row false 4 [eF f,eF g]),(1,.fn (.func 182) [] []),(7,.i 2),(8,.i i)]) (λi=>i<=2) (λi=>2-i) 0 gC ?_;intro i hi;refine cv W W ?_ ?_<;>intro g
  ·rcases(E:i=0\/i=1)with rfl|rfl
   all_goals
    refine r1 W (aQ W)<|b8 W (Rs _<|by first|exact b|exact a) rfl<|r1 W (aQ W) ?_
    first|exact aL 1 gC|exact aL 2 gC
  refine cq W W
 have hc:ab 184 [.row false 4 [eF f,eF g],.fn (.func 182) [] []] (.b false):=by refine enter func184 W W W W<|cu W W hi W<|cm W W W
 have c:ab 185 [.row false 4 [eF f,eF g]] (.strs true [qt p,qt q]):=by
  refine cx func185 W<|r1 W (by simp[aj,len])<|aU (λi:Nat=>[(0,.row false 4 [eF f,eF g]),(3,.strs true (match i with
   |0=>[[],[]]
   |1=>[qt p,[]]
   |_=>[qt p,qt q])),(9,.row false 4 [eF f,eF g]),(10,.i 2),(11,.i i)]) (λi=>i<=2) (λi=>2-i) 0 gC ?_
  intro i hi;refine cv W W ?_ ?_<;>intro g;rcases(E:i=0\/i=1)with rfl|rfl;refine r1 W (aQ W)<|b8 W (AS f b.ok b.sz gC) W<|r1 W (aQ W)<|aL 1 gC;refine r1 W (aQ W)<|b8 W (AS _ a.ok a.sz gC) W<|r1 W (aQ W)<|aL 2 gC;obtain rfl:i=2:=E;refine cq W W
 refine enter func93 W W W W<|cu W W hc W<|cu W W c W<|cq W W
def tX(a b:cj)(e:Int):SV:=.agg [.s<|qt<|bp a*iO e,.s<|qt<|bp b*iO e]
def tL:Nat->SV
 |0=>.nil
 |1=>.row true 2 [tX [48] [50] 9]
 |_=>.row true 2 [tX [48] [50] 9,tX [49] [56] 6]
def Vd:ab 110 [gN,xR,sX] (.de [tL 2,.i 0]):=by
 have a:=(vN qS th qW By Kq abj).K9<|.cons aat<|.cons (.refl _) .nil;refine cx func110 W<|cu W W a W<|cv W W (λg=>abK W g) λ_=>?_;refine cu W W Zj W<|cv W W (λg=>abK W g) λ_=>?_;refine cu W W Y6 W<|r0 W<|aU (λi:Nat=>[(5,.box true sX),(10,.box true ach),(11,tL i),(30,xR),(31,.i 2),(32,.i i)]) (λi=>i<=2) (λi=>2-i) 0 gC ?_;intro i hi;refine cv W W ?_ ?_<;>intro g
 ·rcases(E:i=0\/i=1)with rfl|rfl
  all_goals
   refine r1 W (aQ W)<|b9 W (agB gC) W<|k0 W aP<|b9 W (jd<|be) W<|ct W W (Jh (be) gC gC).2 W<|ct W W (jd<|be) W<|ct W W (Jh (be) gC gC).2 W<|ct W W ((Y4 (Jh (be) gC gC).1 (Jh (be) gC gC).1).shr.same (q:=.de [.strs false [_,_],.i 0]) W W) W<|k0 W aP<|cg W (λg=>abK W g) λ_=>?_;refine k1 W aP (aQ W) ?_
   first|exact aL 1 gC|exact aL 2 gC
 obtain rfl:i=2:=E;refine cq W W
def Y5(p:L Tm){K:Nat}(h:∀t∈p,t.ok/\kV t.f K/\PwS t.pw)(d:K<2^32)(hl:p.length<2^40):ab 131 [aj1 p] (c7 true<|p.map Tm.tr):=by refine cx func131 W<|r0 W<|aU (λi:Nat=>[(3,c7 true<|(p.take i).map Tm.tr),(6,aj1 p),(7,.i p.length),(8,.i i)]) (λi=>i<=p.length) (λi=>p.length-i) 0 (abX _) ?_;intro i hi;refine cv W W ?_ ?_<;>intro g;have a:i<p.length:=E;have b:(i:Int).toNat=i:=E;have c:p.getD i default=p[i]:=az a;have hm:=h p[i] I;refine fM W ?_;rw[b,c];refine b9 W (AS p[i].f hm.1 hm.2.1 E) W<|ct W W (wK p[i].pw hm.2.2.1 (by have:=hm.2.2.2.1;omega)) W ?_;refine xf W ?_ (by simp[aj,abu,fW,adZ,afS,acC,ad1];omega);refine aL (i+1) E ⟨⟨W,W,W,?_⟩,G,G,G,U⟩;rw[dA,adY a,adW,adW];exact lB.append (lB.refl _) ⟨.inr W,W⟩;have:i=p.length:=E;subst this;rw[aed];refine cq W W
def QO(l:L aZ):L Tm:=l.map λt=>⟨dq t.c,t.pw⟩
def Vg(l:L aZ):(QO l).map Tm.tr=l:=by unfold QO;rw[af9];refine(af3 λt _=>?_).trans<|List.map_id l;show(⟨bI.fq _,t.pw⟩:aZ)=t;rw[(bt t.c).fq]
def ZC(l:L aZ){V K:Nat}(f:∀t∈l,Dc t.c 600)(h:sP V K (QO l))(j:K<2^32)(hl:l.length<2^40):ab 136 [c7 false l] (aj4<|kE<|QO l):=by
 refine cx func136 W<|r0 W<|oA W W W (tz (κ:=cj) W) W<|r0 W<|aU (λi:Nat=>[(3,.mx<|mL<|sB<|QO<|l.take i),(7,c7 false l),(8,.i l.length),(9,.i i)]) (λi=>i<=l.length) (λi=>l.length-i) 0 (abX _) ?_;intro i hi;refine cv W W ?_ ?_<;>intro g;have b:i<l.length:=E;have k:(i:Int).toNat=i:=E;have n:l.getD i default=l[i]:=az b;have hm:=f l[i] I;have e:QO (l.take<|i+1)=QO (l.take i)++[⟨dq l[i].c,l[i].pw⟩]:=by unfold QO;rw[adY b,adW];rfl
 have a:(⟨dq l[i].c,l[i].pw⟩:Tm)∈QO l:=ab4.2 ⟨l[i],I,W⟩;have d:=h.tm _ a;have o:l[i].pw.length<2^20:=d.2.2.1.2.1;refine fM W ?_;rw[k,n];refine b9 W (Ki l[i].c hm gC) W<|ct W W ((wK l[i].pw d.2.2.1.1 E).shr.same (q:=gm l[i].pw) W W) W<|r0 W<|crd W W (GA h j (m:=QO<|l.take i) (t:=⟨dq l[i].c,l[i].pw⟩)<|by rw[<-e];unfold QO;grind) W ?_;rw[<-e];refine xf W<|aL (i+1) E;have:i=l.length:=E;subst this;rw[aed];refine r0 W<|cr W W (DI Jx h) W<|cq W W
end Go.Ai.Pg
namespace Go.Ai
open Go.Proofs Go.RowKit Go.Proofs.Tryz
section
variable{K L:Nat}{p q:Rat}
def wU(p q:Rat):Rat:=if p<=q then p else q
def Jo(b:Sz p K)(a:Sz q K):Sz (pV p q) K:=by unfold pV;split<;>assumption
def Jn(b:Sz p K)(a:Sz q K):Sz (wU p q) K:=by unfold wU;split<;>assumption
def xB{q:Rat}{K:Nat}(h:Sz q K):∀n:Nat,Sz (q^n) (n*K+1)
 |0=>by rw[Rat.pow_zero];exact Sz.mono (show Sz 1 1 from⟨by simp[ir],by simp[ir]⟩) E
 |n+1=>by rw[aje];exact((xB h n).mul h).mono (gz)
def Q2:q.num.sign<0↔q<0:=by rw[ahF,<-aiT,<-ahH];omega
def Q1:q.num.sign>0↔0<q:=by rw[<-aiT,<-Rat.neg_neg q,<-Rat.neg_zero,Rat.neg_le_neg_iff,<-ahH];simp
structure QS where
 lo:Rat
 hi:Rat
instance:Inhabited QS:=⟨⟨0,0⟩⟩
def XB(s:QS):SV:=eSp s.lo s.hi
structure AR(s:QS)(K:Nat):Prop where
 lo:Sz s.lo K
 hi:Sz s.hi K
def AR.mono{s:QS}(h:AR s K)(hl:K<=L):AR s L:=⟨h.lo.mono hl,h.hi.mono hl⟩
def Dh(a b:QS):QS:=⟨wU (wU (a.lo*b.lo)<|a.lo*b.hi)<|wU (a.hi*b.lo)<|a.hi*b.hi,pV (pV (a.lo*b.lo)<|a.lo*b.hi)<|pV (a.hi*b.lo)<|a.hi*b.hi⟩
def KV(a b:QS):QS:=⟨a.lo+b.lo,a.hi+b.hi⟩
def xN(s:QS)(n:Nat):QS:=⟨if 0<n/\n%2=0/\s.lo<0/\0<s.hi then 0 else wU (s.lo^n) (s.hi^n),pV (s.lo^n)<|s.hi^n⟩
def AR.mul{a b:QS}(d:AR a K)(c:AR b L):AR (Dh a b) (K+L):=⟨Jn (Jn (d.lo.mul c.lo)<|d.lo.mul c.hi)<|Jn (d.hi.mul c.lo)<|d.hi.mul c.hi,Jo (Jo (d.lo.mul c.lo)<|d.lo.mul c.hi)<|Jo (d.hi.mul c.lo)<|d.hi.mul c.hi⟩
def AR.add{a b:QS}(d:AR a K)(c:AR b L):AR (KV a b) (K+L+1):=⟨d.lo.add c.lo,d.hi.add c.hi⟩
def AR.pow{a:QS}(b:AR a K)(n:Nat):AR (xN a n) (n*K+1):=⟨by unfold xN;split;exact qF.mono E;exact Jn (xB b.lo n)<|xB b.hi n,Jo (xB b.lo n)<|xB b.hi n⟩
def kD(box:List QS)(t:aZ)(v:Nat):QS:=(List.range v).foldl (λx v=>Dh x<|xN (box.getD v default) (t.pw.getD v 0).toNat) ⟨t.c,t.c⟩
def nO(box:List QS)(t:aZ)(v:Nat):kD box t (v+1)=Dh (kD box t v) (xN (box.getD v default) (t.pw.getD v 0).toNat):=by unfold kD;rw[ahs,ahm];rfl
def gD(box:List QS)(p:List aZ):QS:=p.foldl (λs t=>KV s<|kD box t box.length) ⟨0,0⟩
def CI(box:List QS)(p:List aZ)(t:aZ):gD box (p++[t])=KV (gD box p) (kD box t box.length):=by unfold gD;simp
structure ahb(A B:Nat)(box:List QS)(p:List aZ):Prop where
 bx:∀s∈box,AR s A
 tm:∀t∈p,Sz t.c B/\t.pw.length=box.length/\∀x∈t.pw,0<=x/\x<=12
def AT{A B:Nat}{box:List QS}{t:aZ}(a:∀s∈box,AR s A)(hc:Sz t.c B)(b:∀x∈t.pw,0<=x/\x<=12):∀v,v<=box.length->AR (kD box t v) (B+v*(12*A+1))
 |0,_=>⟨by show Sz t.c _;simp_all,by show Sz t.c _;simp_all⟩
 |v+1,h=>by
  rw[nO];have f:=AT a hc b v E;have e:AR (box.getD v default) A:=a _ (by grind);have d:(t.pw.getD v 0).toNat<=12:=by by_cases g:v<t.pw.length;simp_all;simp_all
  exact(f.mul<|(e.pow (t.pw.getD v 0).toNat).mono<|ahG (ad6 _ d) 1).mono (gz)
def II{A B:Nat}{box:List QS}(b:∀s∈box,AR s A):∀{p:List aZ},(∀t∈p,Sz t.c B/\∀x∈t.pw,0<=x/\x<=12)->∀i,i<=p.length->AR (gD box<|p.take i) (1+i*(B+box.length*(12*A+1)+1))
 |p,h,0,_=>⟨qF.mono E,qF.mono E⟩
 |p,h,i+1,hi=>by rw[adY E,CI];have a:=h p[i] I;exact((II b h i E).add<|AT b a.1 a.2 _ .refl).mono (gz)
def mG(s:QS):Int:=if ja s.lo≠0\/ja s.hi≠0 then 4 else 0
end
def Uu(n:Nat)(h:n≠0):∃c l,decl n 1=c::l/\c.toNat≠48:=by
 induction n using Nat.strongRecOn with
 |ind n a=>
  rw[bu E];by_cases b:n<10;rw[show n/10=0 from E,dm];refine⟨_,[],W,?_⟩;have:=wJ (d:=n%10) E;omega;have e:decl (n/10) (1-1)=decl (n/10) 1:=by rw[bu (n:=n/10) (k:=1) E,bu (n:=n/10) (k:=1-1) E]
  obtain⟨c,l,g,f⟩:=a (n/10) E E;simp_all
def NI(n:Nat):jL (decl n 1)=true:=by unfold jL;rw[abl λh=>Ky n gC<|ai7.1 h,abl,lT.2<|cP _ _];rintro⟨a,f⟩;by_cases e:n=0;subst e;rw[bu E]at a;simp[dm]at a;obtain⟨c,l,d,b⟩:=Uu n e;simp_all
def Gj{q:Rat}(h:Dc q 600):aV (qt q)=0:=by
 have hs:=HH q;have f:=BO q;have c:(bR<|qt q).take (aF<|bR<|qt q)=decl q.num.natAbs 1:=gn;have i:lz (qt q)=true:=by
  unfold lz;rw[c,NI,E8];by_cases g:q.num<0;have:decl q.num.natAbs 1≠[48]:=λe=>by have:=aal dy e;rw[gK]at this;rw[ac1]at this;omega
  simp[this];simp[g]
 by_cases b:q.den=1;have hn:¬aF (bR<|qt q)<(bR<|qt q).length:=by rw[hs,f];unfold eR;rw[abx b];simp
 have hl:(bR<|qt q).length=(decl q.num.natAbs 1).length:=gn;unfold aV;rw[abx i,abx<|by unfold mO;simp[hn],abl (by rw[hl];have:=h.1;omega),abx<|by unfold qp;simp[hn]];have a:eR q.den=47::decl q.den 1:=by unfold eR;rw[abl b]
 have d:(bR<|qt q).drop (aF (bR<|qt q)+1)=decl q.den 1:=by simp_all
 have hl:(bR<|qt q).length=(decl q.num.natAbs 1).length+((decl q.den 1).length+1):=by rw[f,a];simp
 have k:decl _ 1≠[48]:=λe=>by have:=aal dy e;rw[gK]at this;exact q.den_nz this
 have j:decl _ 1≠[49]:=λe=>by have:=aal dy e;rw[gK]at this;exact b this
 unfold aV;rw[abx i,abx<|by unfold mO;rw[d,NI];simp[k,j],abl (by rw[hs,hl];have:=h.1;have:=h.2;omega),abx];unfold qp;rw[c,d,gK,gK];have:=q.reduced;simp[this]
end Go.Ai
namespace Go.Ai.Pg
section
variable{n:Nat}{q:Rat}{t:aZ}
def Fw(l:L Int)(hl:l.length<2^60):ab 233 [gm l] (.i<|bE id l):=by refine enter func233 W W W W<|r0 W<|aU (λi:Nat=>[(5,.ints _ _ l),(6,.i _),(7,.i i)]) (λi=>i<=l.length/\bE id l=bE id (l.drop i)) (λi=>l.length-i) 0 ⟨abX _,W⟩ ?_;rintro i⟨hi,a⟩;refine cv W W ?_ ?_<;>intro h;have b:i<l.length:=E;rw[im _ b]at a;refine fM W<|cg W ?_ ?_<;>intro c;refine cm W W<|cw ?_;rw[a];simp_all;refine fM W<|aL (i+1) ⟨E,?_⟩;rw[a];simp_all;refine cm W W<|cw ?_;rw[a,ahK E];rfl
def Uv(p q:L Int)(l:UO p)(o:UO q)(hl:q.length=p.length):ab 305 [gm p,gm q] (.i<|Ds p q):=by intro w S J N v hc;obtain⟨y,M,F,R,rfl,O,-,u,z,K,D,P,rfl,A,-,j,rfl,rfl⟩:=hc;have C:F=[]:=gn;have B:D=[]:=gn;subst C;subst B;obtain⟨a,c,rfl,n1,-⟩:=Ek u;obtain⟨b,d,rfl,s,-⟩:=Ek j;refine sT.mB func305 W W ?_;rw[hl];refine(Tryz.afL (λx y f=>AnyG.cmp_Compare_int Tryz.XT x y f) a b c d p q w l.1 hl (λz g=>⟨(l.2 z g).1,by have:=(l.2 z g).2;omega⟩) (λz g=>⟨(o.2 z g).1,by have:=(o.2 z g).2;omega⟩) n1 s).mono ?_;rintro e H⟨rfl,k,os,rfl⟩;have r:=yp w k os;exact⟨_,W,S,[],r,λ_ h=>h,λ_ h=>.inl h,λb m=>aey (v b m) r.size,ep,aee,I⟩
structure TmV(n:Nat)(t:aZ):Prop where
 dc:Dc t.c 600
 nz:t.c≠0
 len:t.pw.length=n
 pos:∀x∈t.pw,0<=x
 sum:t.pw.sum<=12
def D9{l:L Int}(h:∀x∈l,0<=x):∀i,i<=l.length->(l.take i).sum<=l.sum:=by
 intro i _
 conv=>rhs;rw[<-ah1 i l]
 rw[aiy];have:0<=(l.drop i).sum:=by
  have:∀{m:L Int},(∀x∈m,0<=x)->0<=m.sum:=by
   intro m hm
   induction m with
   |nil=>simp
   |cons x m a=>have:=a λy b=>hm y (by simp[b]);have:=hm x I;simp;omega
  grind
 omega
def TmV.le(h:TmV n t):∀x∈t.pw,0<=x/\x<=12:=λx a=>⟨h.pos x a,agH (jx h.pos x a) h.sum⟩
def TmV.pwb(h:TmV n t)(hn:n<2^20):UO t.pw:=⟨by rw[h.len];exact hn,λx a=>⟨h.pos x a,by have:=(h.le x a).2;omega⟩⟩
def td(h:Dc q 600):(qt q).length<2^20:=by
 have a:(qt q).length<=(bR<|qt q).length+1:=by unfold bR;grind
 have b:(eR q.den).length<=(decl q.den 1).length+1:=by unfold eR;split<;>simp
 rw[BO q,ad9]at a;have:=h.1;have:=h.2;omega
def acf(t:aZ)(h:TmV (n+1) t)(hn:n<1000):ab 304 [Kv t,.i n] (.i 0):=by
 have f:=h.len;refine cx func304 W<|fM W<|cg W (λg=>abK (show(t.pw.length:Int)=n+1 from E) g) λg=>?_;refine r0 W<|aU (λi:Nat=>[(1,.i n),(2,.box true<|Kv t),(5,.i (t.pw.take i).sum),(15,gm t.pw),(16,.i t.pw.length),(17,.i i)]) (λi=>i<=t.pw.length) (λi=>t.pw.length-i) 0 (abX _) ?_;intro i hi;have k:=D9 h.pos i hi;have hs:=h.sum;have j:0<=(t.pw.take i).sum:=by have:=D9 (l:=t.pw.take i) (λx d=>h.pos x<|ahv d) 0 (abX _);simpa using this
 refine cv W W ?_ ?_<;>intro g;have c:i<t.pw.length:=E;have m:(i:Int).toNat=i:=E;have e:t.pw.getD i 0=t.pw[i]:=az c;have d:=h.le t.pw[i] I;refine fM W ?_;rw[m,e];refine cg W (λg2=>abK g2 E) λg2=>?_;have a:(t.pw.take<|i+1).sum=(t.pw.take i).sum+t.pw[i]:=by rw[Lj c,e]
 have b:wT true t.pw[i] 13=t.pw[i]:=by unfold wT;simp;omega
 refine fM W ?_;rw[b,<-a];exact aL (i+1) E;have:i=t.pw.length:=E;subst this;rw[aed]at k j;rw[aed];refine ct W W (yB _ 4) W<|ct W W (sF (s:=qt t.c) (by have:=td h.dc;omega)<|Gj h.dc) W ?_;rw[abl<|by simp;omega];refine ct W W (Fw [0,0] I) W<|GW W<|aJ W W
structure QF(n:Nat)(p:List aZ):Prop where
 tm:∀t∈p,TmV n t
 S5:AM p
 len:p.length<=64
def acK(h:q≠0):qt q≠[48]:=λe=>h<|Er.1<|e.trans DG.symm
def KI(p:L aZ)(h:QF (n+1) p)(hn:n<1000):ab 234 [c7 false p,.i n] (.i 0):=by
 have hl:=h.len;refine cx func234 W<|cv W W (λg=>abK g E) λg=>?_;refine r0 W<|aU (λi:Nat=>[(0,c7 false p),(1,.i n),(11,c7 false p),(12,.i p.length),(13,.i i)]) (λi=>i<=p.length) (λi=>p.length-i) 0 (abX _) ?_;intro i hi;refine cv W W ?_ ?_<;>intro g;have c:i<p.length:=E;have l:(i:Int).toNat=i:=E;have m:p.getD i default=p[i]:=az c;have b:=h.tm p[i] I;refine fM W ?_;rw[l,m];refine b9 W (acf p[i] b hn) W<|r0 W ?_;have f:ab 224 [.u<|decide (qt p[i].c=[48]),.i 6] (.i 0):=by have:=yB (decide (qt p[i].c=[48])) 6;rwa[abl<|by simp[acK b.nz]]at this
 refine b9 W f W<|ct W W (Fw [0,0] I) W<|GW W<|aI 29 W (λ_=>?_) λg=>abK W g;refine ck W 33 W ?_ ?_<;>intro g1;have e:i-1<p.length:=E;have k:((i:Int)-1).toNat=i-1:=E;have a:=h.tm p[i-1] I;have d:p.getD (i-1) default=p[i-1]:=az e;refine fM W ?_;rw[k,d];have j:=aio.1 h.S5 (i-1) i e c E;have hc:=(vL<|a.len.trans b.len.symm).2 j;refine b9 W (Uv p[i-1].pw p[i].pw (a.pwb E) (b.pwb E)<|b.len.trans a.len.symm) W<|GW W<|cg W (λg2=>abK g2 E) λ_=>?_;refine cv W W (λg2=>abK W g2) λ_=>?_;refine fM W<|aL (i+1) E;refine GW W<|cg W (λg2=>abK W g2) λ_=>?_;refine fM W<|aL (i+1) E;refine cm W W W
end
section
variable{K:Nat}{p q:Rat}
def Wj(p:L aZ){n:Nat}(h:QF (n+1) p)(hn:n<25):ab 132 [c7 false p,.i (n+1:Nat)] (.i 0):=by
 have b:ab 224 [.u<|decide (((n+1:Nat):Int)=0),.i 2] (.i 0):=by have:=yB (decide (((n+1:Nat):Int)=0)) 2;rwa[abl<|by simp;omega]at this
 have a:ab 224 [.u<|decide (((n+1:Nat):Int)>25),.i 5] (.i 0):=by have:=yB (decide (((n+1:Nat):Int)>25)) 5;rwa[abl<|by simp;omega]at this
 refine enter func132 W W W W<|cu W W b W<|cu W W a W<|cu W W (Fw [0,0] I) W<|cv W W (λg=>abK W g) λ_=>?_;refine fM W<|Hh (us:=[c7 false p,.i n]) W W U ⟨W,aal SV.i E,U⟩ (KI p h E) W<|cm W W W
def Xz(l:L fG)(h:∀s∈l,cE s.lo/\cE s.hi)(b:bE fP l=0)(hl:l.length<2^40):ab 133 [aj2 l,.fn (.func 126) [] []] (.i 0):=by refine cx func133 W<|r0 W<|aU (λi:Nat=>[(1,.fn (.func 126) [] []),(8,aj2 l),(9,.i l.length),(10,.i i)]) (λi=>i<=l.length) (λi=>l.length-i) 0 (abX _) ?_;intro i hi;refine cv W W ?_ ?_<;>intro g;have a:i<l.length:=E;have c:(i:Int).toNat=i:=E;have hm:=ab3 a;refine fM W ?_;rw[c,az a];refine b8 W (QW l[i] (h _ hm).1 (h _ hm).2<|a8.1 b _ hm) W<|cv W W (λg2=>abK W g2) λ_=>?_;refine fM W<|aL (i+1) E;refine cq W W
structure Sp where
 l:Fr
 h:Fr
def GN(s:Sp):SV:=.agg [.i s.l.n.s,.gh .u64<|ws s.l.n,.i s.l.d.s,.gh .u64<|ws s.l.d,.i s.h.n.s,.gh .u64<|ws s.h.n,.i s.h.d.s,.gh .u64<|ws s.h.d]
structure w8(s:Sp)(q:QS):Prop where
 l:cB s.l q.lo
 h:cB s.h q.hi
def Xn(f g:Fr)(b:cB f p)(a:cB g q)(d:Sz p K)(c:Sz q K)(h:K<2^32):ab 212 [eF f,eF g] (.i<|wY p q):=by
 have:=Ko f g b a (eX b d) (eX a c) E;have e:(p.num*q.den-q.num*p.den).sign=wY p q:=by
  have m:(p.num*q.den-q.num*p.den<0)↔p<q:=by rw[Rat.lt_iff];omega
  have l:(p.num*q.den-q.num*p.den<=0)↔p<=q:=by rw[Rat.le_iff];omega
  unfold wY;have k:(p-q).num<0↔p<q:=by
   rw[show(p-q).num<0↔¬0<=(p-q).num from E,ahH]
   grind
  have j:(p-q).num<=0↔p<=q:=by have:=oZ (p:=p) (q:=q);unfold wY at this;grind
  grind
 rwa[e]at this
def Hn(s:Sp)(x:Fr):Sp:=⟨if bI.fq x<bI.fq s.l then x else s.l,if bI.fq s.h<bI.fq x then x else s.h⟩
def Sx(a:Fr)(l:L Fr):Sp:=l.foldl Hn ⟨a,a⟩
def DT:wY p q<0↔p<q:=by rw[<-aiT,<-KG];omega
def DU:wY p q>0↔q<p:=by rw[<-aiT,<-oZ];omega
structure SFz(K:Nat)(s:Sp):Prop where
 l:cB s.l (bI.fq s.l)
 h:cB s.h (bI.fq s.h)
 zl:Sz (bI.fq s.l) K
 zh:Sz (bI.fq s.h) K
def afU{s:Sp}{x:Fr}(h:SFz K s)(b:cB x (bI.fq x))(a:Sz (bI.fq x) K):SFz K (Hn s x):=by unfold Hn;constructor;dsimp only;split;exact b;exact h.l;dsimp only;split;exact b;exact h.h;dsimp only;split;exact a;exact h.zl;dsimp only;split;exact a;exact h.zh
def Yh{K:Nat}:∀{l:L Fr}{s:Sp},SFz K s->(∀x∈l,cB x (bI.fq x)/\Sz (bI.fq x) K)->SFz K (l.foldl Hn s)
 |[],_,h,_=>h
 |x::l,s,h,hl=>Yh (l:=l) (afU h (hl x I).1 (hl x I).2) λy a=>hl y (by simp[a])
def Yf(a:Fr)(l:L Fr)(k:cB a (bI.fq a))(j:Sz (bI.fq a) K)(h:∀x∈l,cB x (bI.fq x)/\Sz (bI.fq x) K)(m:K<2^32)(hl:l.length<2^40):kg prog 134 [.bm true 4 default eF l] [eF a,.bH 500 0 0 []] [.bm true 4 default eF l] (GN<|Sx a l):=by
 refine ns (fn:=Tryz.f134) func134 W W W W W<|r0 W<|aU (λi:Nat=>[(4,.box true<|.agg [.i 0,.nil,.i 0,.nil,.i 0,.nil,.i 0,.nil]),(5,.box true<|GN<|Sx a<|l.take i),(11,.bH 500 0 0 []),(12,.i l.length),(13,.i i),(500,.bm true 4 default eF l)]) (λi=>i<=l.length) (λi=>l.length-i) 0 (abX _) ?_;intro i hi;refine cv W W ?_ ?_<;>intro g;have f:i<l.length:=E;have n:(i:Int).toNat=i:=E;have o:l.getD i default=l[i]:=az f;have c:=h l[i] I;have e:SFz K (Sx a<|l.take i):=Yh ⟨k,k,j,j⟩ λx c=>h x<|ahv c;have b:Sx a (l.take<|i+1)=Hn (Sx a<|l.take i) l[i]:=by unfold Sx;rw[adY f,ahm];rfl
 refine fM W ?_;rw[n,o];generalize Sx a (l.take i)=s at e b;refine b8 W (Xn l[i] s.l c.1 e.l c.2 e.zl m) W<|r0 W ?_;have d:=Xn l[i] s.h c.1 e.h c.2 e.zh m;refine cg W ?_ ?_<;>intro g1;refine cu W W d W<|cv W W ?_ ?_<;>intro g2;refine fM W ?_;rw[show Hn s l[i]=⟨l[i],l[i]⟩ by unfold Hn;rw[abx<|DT.1 g1,abx<|DU.1 g2]]at b;refine aL (i+1) E ⟨G,⟨W,i8⟩,mv,G,G,G,U⟩;refine fM W ?_;rw[show Hn s l[i]=⟨l[i],s.h⟩ by unfold Hn;rw[abx<|DT.1 g1,abl λh=>g2<|DU.2 h]]at b;refine aL (i+1) E ⟨G,⟨W,i8⟩,mv,G,G,G,U⟩;refine cu W W d W<|cv W W ?_ ?_<;>intro g2;refine fM W ?_;rw[show Hn s l[i]=⟨s.l,l[i]⟩ by unfold Hn;rw[abl λh=>g1<|DT.2 h,abx<|DU.1 g2]]at b;refine aL (i+1) E ⟨G,⟨W,i8⟩,mv,G,G,G,U⟩;refine fM W ?_;rw[show Hn s l[i]=s by unfold Hn;rw[abl λh=>g1<|DT.2 h,abl λh=>g2<|DU.2 h]]at b;refine aL (i+1) E ⟨G,⟨W,i8⟩,mv,G,G,G,U⟩;have:i=l.length:=E;subst this;rw[aed];refine r0 W<|LM [(4,.box true<|GN<|Sx a l),(500,.bm true 4 default eF l)] ⟨ak,ak,U⟩ W (aB.refl _) ⟨G,U⟩
def N8(a:Fr):ab 134 [eF a,.nil] (GN ⟨a,a⟩):=by refine enter func134 W W W W<|r0 W<|aU (λ_:Unit=>[(4,.box _ _),(5,.box _ _),(12,.i 0),(13,.i 0)]) (λ_=>True) (λ_=>0) () U ?_;intro _ _;refine cv W W (λg=>abK g gC) λ_=>?_;exact cq W W
end
section
variable{f:Fr}{K L:Nat}{q:Rat}
def Ba(f:Fr)(n:Nat):Fr:=⟨uT f.n n,uT f.d n⟩
def Rg(h:cB f q)(n:Nat):cB (Ba f n) (q^n):=by obtain⟨d,c⟩:=nf f.n n h.n;obtain⟨b,a⟩:=nf f.d n h.d;exact⟨c,a,by show nv (uT f.n n)=_;rw[d,h.vn,Rat.num_pow],by show nv (uT f.d n)=_;rw[b,h.vd];simp⟩
def Wc(f:Fr)(n:Nat)(h:cB f q)(a:Sz q K)(b:K<=100000)(hn:n<=12):ab 237 [eF f,.i n] (eF<|Ba f n):=by have hs:=eX h a;have c:K*(2*n)<=100000*24:=agW b E;refine enter func237 W W W W<|ct W W (HZ f.n n h.n hs.1 E E) W<|ct W W (HZ f.d n h.d hs.2 E E) W<|GW W<|bY W
def Wo(s:QS):Sp:=⟨dq s.lo,dq s.hi⟩
def acT(s:QS)(b:Dc s.lo 600)(a:Dc s.hi 600):ab 138 [XB s] (GN<|Wo s):=by refine enter func138 W W W W<|ct W W (Ki _ b gC) W<|ct W W (Ki _ a gC) W<|GW W<|bY W
def Wm(s:QS):w8 (Wo s) s:=⟨bt _,bt _⟩
def Jk(s t:Sp):Sp:=Sx (jW s.l t.l) [jW s.l t.h,jW s.h t.l,jW s.h t.h]
def RO{c:Prop}[Decidable c]{x y:Fr}:bI.fq (if c then x else y)=if c then bI.fq x else bI.fq y:=by split<;>rfl
def w8.of{s:Sp}{q:QS}(h:SFz K s)(b:bI.fq s.l=q.lo)(a:bI.fq s.h=q.hi):w8 s q:=⟨by rw[<-b];exact h.l,by rw[<-a];exact h.h⟩
def fm{g:Fr}{p:Rat}(b:cB f p)(a:cB g q):cB (jW f g) (p*q):=(ku f g b a ⟨aiO _ (bI.ah (nv f.d).natAbs).length,aiP _ _⟩ ⟨aiO _ (bI.ah (nv g.d).natAbs).length,aiP _ _⟩).1
def N7(a:Fr)(l:List Fr)(h:∀x∈a::l,∃q,cB x q/\Sz q K)(g:K<2^32)(hl:l.length<2^40):kg prog 134 [.bm true 4 default eF l] [eF a,.bH 500 0 0 []] [.bm true 4 default eF l] (GN<|Sx a l)/\SFz K (Sx a l):=by
 have d:∀x∈a::l,cB x (bI.fq x)/\Sz (bI.fq x) K:=λx c=>by obtain⟨q,e,i⟩:=h x c;rw[e.fq];exact⟨e,i⟩
 have b:=d a I;exact⟨Yf a l b.1 b.2 (λx c=>d x<|by simp[c]) g hl,Yh ⟨b.1,b.1,b.2,b.2⟩ λx c=>d x<|by simp[c]⟩
def Y3(s t:Sp)(p q:QS)(hs:w8 s p)(a:w8 t q)(zs:AR p K)(b:AR q L)(l:K+L<2^30):ab 137 [GN s,GN t] (GN<|Jk s t)/\w8 (Jk s t) (Dh p q):=by
 have g:=fm hs.l a.l;have e:=fm hs.l a.h;have d:=fm hs.h a.l;have c:=fm hs.h a.h;obtain⟨k,j⟩:=N7 (jW s.l t.l) [jW s.l t.h,jW s.h t.l,jW s.h t.h] (K:=K+L) (by intro x h;simp only[adb,ahd,or_false]at h;rcases h with rfl|rfl|rfl|rfl;exact⟨_,g,zs.lo.mul b.lo⟩;exact⟨_,e,zs.lo.mul b.hi⟩;exact⟨_,d,zs.hi.mul b.lo⟩;exact⟨_,c,zs.hi.mul b.hi⟩) E (show 3<2^40 from gC)
 constructor;refine cx func137 W<|ct W W (j5 s.l t.l hs.l a.l (eX hs.l zs.lo) (eX a.l b.lo) E) W<|ct W W (j5 s.l t.h hs.l a.h (eX hs.l zs.lo) (eX a.h b.hi) E) W<|ct W W (j5 s.h t.l hs.h a.l (eX hs.h zs.hi) (eX a.l b.lo) E) W<|ct W W (j5 s.h t.h hs.h a.h (eX hs.h zs.hi) (eX a.h b.hi) E) W<|r0 W ?_;have i:kg prog 134 [.row true 4 [eF<|jW s.l t.h,eF<|jW s.h t.l,eF<|jW s.h t.h]] [eF<|jW s.l t.l,.bH 500 0 0 []] [.row true 4 [eF<|jW s.l t.h,eF<|jW s.h t.l,eF<|jW s.h t.h]] (GN<|Jk s t):=k.same W W W W;refine crd W W i W<|GW W<|bY W;refine w8.of j ?_ ?_;show bI.fq (List.foldl Hn ⟨_,_⟩ _).l=_;simp only[agf,aii,Hn,RO,g.fq,e.fq,d.fq,c.fq,Dh];unfold wU;grind;show bI.fq (List.foldl Hn ⟨_,_⟩ _).h=_;simp only[agf,aii,Hn,RO,g.fq,e.fq,d.fq,c.fq,Dh,wq]
 grind
def Wi(s t:Sp):Sp:=⟨w7 s.l t.l,w7 s.h t.h⟩
def acR(s t:Sp)(p q:QS)(hs:w8 s p)(a:w8 t q)(zs:AR p K)(b:AR q L)(c:K+L<2^30):ab 140 [GN s,GN t] (GN<|Wi s t)/\w8 (Wi s t) (KV p q):=by constructor;refine enter func140 W W W W<|ct W W (FH s.l t.l hs.l a.l (eX hs.l zs.lo) (eX a.l b.lo) E) W<|ct W W (FH s.h t.h hs.h a.h (eX hs.h zs.hi) (eX a.h b.hi) E) W<|GW W<|bY W;exact⟨Kk hs.l a.l,Kk hs.h a.h⟩
def ZJ(s:Sp)(p:QS)(n:Nat)(hs:w8 s p)(zs:AR p K)(b:K<=100000)(hn:n<=12):∃r,w8 r (xN p n)/\ab 139 [GN s,.i n] (GN r):=by
 have u:=Rg hs.l n;have t:=Rg hs.h n;have j:n*K+1<=12*100000+1:=ahG (agW hn b) 1;have y:=(xB zs.lo n).mono j;have x:=(xB zs.hi n).mono j;obtain⟨m,e⟩:=N7 (Ba s.l n) [Ba s.h n] (K:=12*100000+1) (by grind) gC (show 1<2^40 from gC)
 have o:bI.fq (Sx (Ba s.l n) [Ba s.h n]).l=wU (p.lo^n) (p.hi^n):=by show bI.fq (List.foldl Hn ⟨_,_⟩ _).l=_;simp only[agf,aii,Hn,RO,u.fq,t.fq];unfold wU;grind
 have g:bI.fq (Sx (Ba s.l n) [Ba s.h n]).h=pV (p.lo^n) (p.hi^n):=by
  show bI.fq (List.foldl Hn ⟨_,_⟩ _).h=_;simp only[agf,aii,Hn,RO,u.fq,t.fq,wq]
  grind
 generalize z:Sx (Ba s.l n) [Ba s.h n]=r at m e o g;have g1:=tK s.l hs.l;have g2:=tK s.h hs.h;have w:kg prog 134 [.row true 4 [eF<|Ba s.h n]] [eF<|Ba s.l n,.bH 500 0 0 []] [.row true 4 [eF<|Ba s.h n]] (GN r):=m.same W W W W;have start:∀{q:Sp},(0<n/\n%2=0/\p.lo<0/\0<p.hi->q=⟨⟨⟨0,none⟩,⟨1,none⟩⟩,r.h⟩)->(¬(0<n/\n%2=0/\p.lo<0/\0<p.hi)->q=r)->ab 139 [GN s,.i n] (GN q):=by intro q v a;refine cx func139 W<|ct W W (Wc s.l n hs.l zs.lo b hn) W<|ct W W (Wc s.h n hs.h zs.hi b hn) W<|r0 W<|crd W W w W<|GW W<|aI 18 W ?_ ?_<;>intro l;refine fM W<|aI 23 W ?_ ?_<;>intro k;refine cu W W g1 W<|ck W 29 W ?_ ?_<;>intro d;refine cu W W g2 W<|cv W W ?_ ?_<;>intro c;rw[v ⟨E,E,Q2.1 d,Q1.1 c⟩];refine cu W W (f_s 0) W<|cq W W;rw[a λh=>c<|Q1.2 h.2.2.2];refine cq W W;rw[a λh=>d<|Q2.2 h.2.2.1];refine cq W W;rw[a λh=>k E];refine cq W W;rw[a λh=>l E];refine cq W W
 by_cases hc:0<n/\n%2=0/\p.lo<0/\0<p.hi;refine⟨⟨⟨⟨0,none⟩,⟨1,none⟩⟩,r.h⟩,⟨?_,?_⟩,start (λ_=>rfl) λh=>abK hc h⟩;show cB _ (xN p n).lo;unfold xN;dsimp only;rw[abx hc];exact si 0 gC;show cB _ (xN p n).hi;have:=e.h;rw[g]at this;exact this;refine⟨r,w8.of e ?_ g,start (λh=>abK h hc) λ_=>rfl⟩;rw[o];unfold xN;simp_all
def adi(s:Sp)(p:QS)(hs:w8 s p)(zs:AR p K)(a:K<2^32)(d:mG p=0):ab 141 [GN s] (.de [XB p,.i 0]):=by
 obtain⟨c,b⟩:ja p.lo=0/\ja p.hi=0:=by unfold mG at d;grind
 refine cx func141 W<|cu W W (DO s.l hs.l (eX hs.l zs.lo) a c) W<|cu W W (DO s.h hs.h (eX hs.h zs.hi) a b) W<|ct W W (AS s.l hs.l (eX hs.l zs.lo) E) W<|ct W W (AS s.h hs.h (eX hs.h zs.hi) E) W<|GW W<|bY W
end
section
variable{l:L Tm}{p:L aZ}{K V n:Nat}
structure jh(L:List Tm)(p:List aZ):Prop where
 tr:L.map Tm.tr=p
 ok:∀t∈L,t.ok
def jh.nil:jh [] []:=⟨W,I⟩
def HR(d:∀t∈l,t.ok/\t.pw.length=V)(g:l.map Tm.tr=p):jh (kE l) (fA p):=by
 have hc:=K7.norm d;have c:∀u∈l.map Tm.tr,u.pw.length=V:=λu hu=>by obtain⟨t,a,rfl⟩:=ab4.1 hu;exact(d t a).2
 have hs:=(wm c I List.Pairwise.nil).1;have f:Nz (fA<|l.map Tm.tr):=EG (ka);have b:∀u∈Df _,u.pw.length=V:=λu hu=>by
  rcases(adz l []).2 u (ahx.1 hu).1 with⟨t,a,e⟩|⟨t,a,-⟩
  grind
  cases a
 refine⟨?_,λt a=>hc.ok t (ahx.1<|(iE _).mem_iff.1 a).1⟩;rw[<-g];exact K7.agA hc hs f (iE _) (rM b<|Po hc.nd).tr
def sP.iV(f:∀t∈l,t.ok)(h:uA V K (l.map Tm.tr))(q:0<V)(k:1<=K)(hl:l.length<2^60):sP V K l:=by have tok:∀t∈l,Dy V K _:=λt d=>h.1 _<|ahC d;refine⟨λt d=>?_,λm hm t d=>?_,hl,?_⟩;obtain⟨a,b,c⟩:=tok t d;refine⟨f t d,eX (f t d) c,⟨λe=>?_,b.1,λx i=>⟨(b.2 x i).1,by have:=(b.2 x i).2;omega⟩⟩,a⟩;have:t.pw.length=V:=a;simp_all;have hc:=K7.norm λt d=>⟨f t<|hm.subset d,(tok t<|hm.subset d).1⟩;have ok:=hc.ok t d;refine⟨ok,eX ok ?_⟩;have e:Dr ((sB m).map Tm.tr) t.pw=bI.fq t.f:=KC (by rw[af9];exact hc.nd)<|ahC d;rw[<-e,hc.co];by_cases g:Dr (fA<|m.map Tm.tr) t.pw=0;rw[g];exact qF.mono k;obtain⟨u,hu,-,j⟩:=vJ g;rw[<-j];have:m.map _ <+:l.map Tm.tr:=hm.map _;exact((h.2 _ this).1 u hu).2.2;have o:=aal List.length (HR (λt d=>⟨f t d,(tok t d).1⟩) W).tr;have j:=(iE<|Df<|sB l).length_eq;rw[adZ]at o;have s:=h.norm.2;have r:(kE l).length=(nP _).length:=W;omega
def yT(h:sP V K l)(b:l.map Tm.tr=p):jh (kE l) (fA p):=HR (λt a=>⟨(h.tm t a).1,(h.tm t a).2.2.2⟩) b
def MU{t:aZ}(a:t.c≠0):∀{p:L aZ},(∀u∈p,beforeL u.pw t.pw=true)->nX t p=p++[t]
 |[],_=>by unfold nX;rw[abl a];rfl
 |u::p,h=>by unfold nX;rw[abx<|h u I,MU a λv b=>h v<|by simp[b]];rfl
def Fs:∀{l p:L aZ},AM (p++l)->Nz l->l.foldl jK p=p++l
 |[],p,_,_=>I
 |t::l,p,h,a=>by have b:=λu hu=>(List.pairwise_append.1 h).2.2 u hu t I;rw[agf,jA,MU (a t I) b,Fs gn λu hu=>a u<|by simp[hu],aen];rfl
def tq(h:AM p)(a:Nz p):fA p=p:=Fs h a
def QF.nz(h:QF n p):Nz p:=λt a=>(h.tm t a).nz
def QF.tok(h:QF n p)(hn:n<2^20):∀t∈p,Dy n 67 t:=λt a=>⟨(h.tm t a).len,(h.tm t a).pwb hn,(h.tm t a).dc.sz⟩
def QF.pre{m:L aZ}(h:QF n p)(hm:m <+:p):QF n m:=⟨λt a=>h.tm t<|hm.subset a,List.Pairwise.sublist hm.sublist h.S5,ab7 hm.length_le h.len⟩
def QF.nok(h:QF n p)(hn:n<2^20):uA n 67 p:=
 ⟨h.tok hn,λm hm=>by have a:=h.pre hm;rw[tq a.S5 a.nz];exact⟨a.tok hn,ahn a.len gC⟩⟩
def ace(l:L aZ):∀t∈QO l,t.ok:=λt a=>by obtain⟨u,-,rfl⟩:=ab4.1 a;exact(bt u.c).self
def Y1(l:L aZ):(QO l).length=l.length:=by unfold QO;simp
def Tl(h:QF n p)(hn:n<2^20)(c:0<n):∃L,jh L p/\ab 136 [c7 false p] (aj4 L):=by have hl:=h.len;have a:=sP.iV (ace p) (by rw[Vg];exact h.nok hn) c gC (by rw[Y1];omega);refine⟨kE _,?_,ZC p (λt b=>(h.tm t b).dc) a gC E⟩;have:=yT a<|Vg p;rwa[tq h.S5 h.nz]at this
end
end Go.Ai.Pg
