/- ScaleRanges holds of the program, under no condition. -/
import Derived.Test.YtacjimehcbbkbaaGreatDoorRZAA
set_option linter.all false
set_option maxRecDepth 100000
set_option maxHeartbeats 0
namespace Go.Ai
open Go.RowKit
section
variable{P:Program}{N:Nat}{w0 w:World}{V:Hid}{S S0:Nat->Prop}{B:Nat->Prop}{σ σ':St}{a:Act}{F:Nat->L Nat}
section
variable{y:AV}{F1:L Nat}{d o t:Nat}{z:Value}
def dJ(h:aU S B σ (tv V a) w F)(x:Operand)(c:aO x=true){v:Value}(hc:(resolve σ x).cont=some (.v v)):a.eval x=v:=by obtain⟨F1,b,-⟩:=aV h x c hc;simp[Rel]at b;exact b.2.1
def fi{r:Result Value}(h:Inv N V w0 S0 σ a w)(f:d<N)(e:Mv.runs σ [.put d y]=some σ')
 (b:r=.ok z w)(c:∀S F,aU S (cK V w0) σ (tv V a) w F->Rel w S y z []):Good N V w0 S0 σ' a d r:=by
 simp[Mv.cG]at e;subst e;exact⟨z,w,b,h.ju f c⟩
def Rel.kJ{f:Fl}{sz:Nat}{xs:L AV}(h:Rel w S (.list f sz xs) z F1):
 ∃c cap,z=.slice c xs.length cap/\xs.length<=cap/\(f=.nil->c=none/\xs=[]/\cap=0)/\(f≠.nil->xs≠[]->∃b off,c=some ⟨b,off,none⟩)/\(c=none->xs=[]/\cap=0):=by
 cases f with
 |nil=>simp[Rel]at h;grind
 |shr=>simp only[Rel]at h;grind
 |own=>simp only[Rel]at h;grind
def Kt:∀(p:Path){q:Path}{sz o n:Nat},GG p=some (q,sz,o,n)->p=q++[.nF sz o n]
 |[],_,_,_,_,h=>by simp[GG]at h
 |s::p,q,sz,o,n,h=>by
  unfold GG at h;split at h
  grind
  split at h;rename_i c u b;cases h;rw[Kt _ b];rfl;cases h
def GD(h:aU S B σ (tv V a) w F)(x:Operand)(hx:aO x=true){r g1 g2 sz n:Nat}{q:Path}(c:(resolve σ x).nF=some (r,g1,g2,q,sz,o,n)):
 ∃f xs b off cap len L,bH (σ r).av q=some (.list f sz xs)/\o+n<=xs.length/\0<n/\g1=(σ r).g1/\g2=(σ r).g2/\loc w (.val<|tv V a r) q=some L/\holds w L (.slice (some ⟨b,off,none⟩) len cap)/\
  a.eval x=.slice (some ⟨b,off+o*sz,none⟩) n (cap-o):=by
 cases x with
 |const v=>have Z:=eV v;simp[resolve,cx.nF]at c;split at c;rename_i hv;rw[hv]at Z;simp[AV.plain]at Z;cases c
 |func f=>simp[resolve,cx.nF]at c
 |global g=>simp[resolve,cx.nF,Sl.none]at c
 |tmp t=>
  rw[gW V a<|gD hx];unfold cx.nF at c;split at c
  ·rename_i l J H p j;have j:(σ t).av=.bw l J H p:=by
    revert j;simp[resolve,cx.of];split<;>first|exact id|(intro h;simp[Sl.none]at h)
   split at c
   ·rename_i K B0 o' n' hu;simp only[resolve,cx.of,j]at c;split at c<;>try(cases c;done)
    rename_i e1;split at c<;>try(cases c;done)
    rename_i e2;split at c<;>try(cases c;done)
    rename_i f A0 xs i;split at c<;>try(cases c;done)
    rename_i k;obtain⟨rfl,k1,k2⟩:=k;simp[aaP,acQ]at c;obtain⟨rfl,rfl,rfl,rfl,rfl,rfl,rfl⟩:=c;have T:=Kt _ hu;have u:=h.rel t;unfold an at u;rw[j]at u;simp only at u;obtain⟨-,-,-,h4⟩:=u;obtain⟨L,O,M,-⟩:=h4 e1 e2 λ_=>⟨.dead,by rw[T,BE,i];simp[bH,k1,k2]⟩;rw[T,je]at O;obtain⟨Lq,m1,s⟩:=aaV.1 O;have C:(σ l).av.plain=true:=by cases hh:(σ l).av<;>simp[AV.plain]<;>(rw[hh]at i;cases K<;>simp[bH]at i)
    have m:=h.rel l;rw[an.aC C]at m;obtain⟨L1,z1,F1,r1,A,r3,r4,r5⟩:=Rel.read K (L:=.val<|tv V a l) m W i;rw[m1]at r1;cases r1;obtain⟨ad,cap,R,Y,X,D⟩:=r3.kJ;have hf:f≠.nil:=λe=>by simp_all
    obtain⟨b,off,rfl⟩:=D.1 hf λe=>fP;refine⟨f,xs,b,off,cap,xs.length,Lq,i,k2,k1,e1.symm,W,m1,by rw[<-R];exact A,?_⟩;simp[loc]at s;rw[R]at A;rw[de A W I]at s;simp[cF,aeu,aaP]at s;subst s;simp[holds]at M;rw[M,cv W]
   cases c
  cases c
def Cg(h:Inv N V w0 S0 σ a w)(hd:d<N)(x i:Operand)(s:aO x=true)(K:aO i=true){ms:L Mv}
 (hm:il P d t (resolve σ x) (resolve σ i)=some ms)(O:Mv.runs σ ms=some σ'):Good N V w0 S0 σ' a d ((Instr.indexAt t (a.eval x)<|a.eval i).run P w):=by
 unfold il at hm;split at hm;rename_i k n hi;split at hm;rename_i e hu;split at hm;rename_i ti H;split at hm;rename_i r g1 g2 q sz o m T;split at hm;rename_i g;obtain⟨rfl,A,v⟩:=g;split at hm;cases hm;rename_i u;cases hm;simp only[Mv.cG,aaP]at O;subst O;have Z:=h;obtain⟨S,F,hc,-⟩:=h;have C:=dJ hc i K hi;obtain⟨f,xs,b,l,E1,len,c,z1,z2,z3,z4,z5,z6,z7,z8⟩:=GD hc x s T;have j:(Instr.indexAt t (a.eval x)<|a.eval i).run P w=.ok (.pointer<|some<|(⟨b,l,none⟩:Addr).add<|(o+n.toNat)*ti.size) w:=by
  rw[z8,C];have:(⟨b,l+o*ti.size,none⟩:Addr).add (n.toNat*ti.size)=(⟨b,l,none⟩:Addr).add ((o+n.toNat)*ti.size):=by rw[cv W,cv W,adD];grind
  rw[<-this];simp[Instr.indexAt,asIntOf,run_underlying hu,A,v,dM H]
 refine⟨_,w,j,Z.put hd λS' F' D=>?_⟩;obtain⟨f',G0,b',E2,F4,F0,L',y1,y2,y3,y4,y5,y6,y7,y8⟩:=GD D x s T;rw[y6]at z6;cases z6;unfold an;simp only[aI,ar _ _ u];refine⟨U,E,E,⟨_,W⟩,λ_ _ _=>⟨(⟨b,l,none⟩:Addr).add<|(o+n.toNat)*ti.size,?_,W⟩⟩;rw[je,y6];simp only[aeu,loc];rw[de z7 W I];rfl;cases hm;split at hm;rename_i f sz xs R;split at hm;rename_i g;obtain⟨rfl,A,v⟩:=g;split at hm;rename_i r g1 g2 p hp;split at hm;cases hm;rename_i u;cases hm;simp only[Mv.cG,aaP]at O;subst O;have Z:=h;obtain⟨S,F,hc,-⟩:=h;have C:=dJ hc i K hi;obtain⟨F1,e1,-⟩:=aV hc x s R;obtain⟨ad,E1,hz,F3,F2,B0⟩:=e1.kJ;have hf:f≠.nil:=λe=>by grind
 obtain⟨b,l,rfl⟩:=B0.1 hf (λe=>by grind);have j:(Instr.indexAt t (a.eval x)<|a.eval i).run P w=.ok (.pointer<|some<|(⟨b,l,none⟩:Addr).add<|n.toNat*ti.size) w:=by rw[hz,C];simp[Instr.indexAt,asIntOf,run_underlying hu,A,v,dM H]
 refine⟨_,w,j,Z.put hd λS' F' D=>?_⟩;obtain⟨q1,q2,q3,q4,q5,q6,c,q7,q8,q9⟩:=jF D x s R hp;unfold an;simp only[aI,ar _ _ u];refine⟨U,q4,q5,⟨_,W⟩,λ_ _ _=>⟨(⟨b,l,none⟩:Addr).add<|n.toNat*ti.size,?_,W⟩⟩;rw[je,q7];simp only[aeu,loc];rw[hz]at q8;rw[de q8 W I];rfl;cases hm;cases hm;cases hm;cases hm;rename_i len e hu;split at hm;rename_i ti H;split at hm;rename_i r g1 g2 p av R;split at hm;rename_i g;obtain⟨A,v,u⟩:=g;split at hm;rename_i y hy;cases hm;simp only[Mv.cG,aaP]at O;subst O;have Z:=h;obtain⟨S,F,hc,-⟩:=h;have C:=dJ hc i K hi;have X:flat p=false->∃y,bH av p=some y:=aaL λ_=>⟨y,hy⟩;obtain⟨-,-,-,-,Y⟩:=kQ hc x s R;obtain⟨ad,l1,l2⟩:=Y X;have j:(Instr.indexAt t (a.eval x)<|a.eval i).run P w=.ok (.pointer<|some<|ad.add<|n.toNat*ti.size) w:=by rw[l2,C];simp[Instr.indexAt,asIntOf,run_underlying hu,A,v,Instr.sureAddr,dM H]
 refine⟨_,w,j,Z.put hd λS' F' D=>?_⟩;obtain⟨e1,e2,e3,-,M⟩:=kQ D x s R;obtain⟨G1,A0,J⟩:=M X;rw[l2]at J;simp only[Value.pointer.injEq,aaP]at J;subst J;unfold an;simp only[aI,ar _ _ u];refine⟨U,E,E,⟨_,W⟩,λ_ _ _=>⟨ad.add<|n.toNat*ti.size,?_,W⟩⟩;rw[je,A0];rfl;simp at hm;simp at hm;simp at hm;simp at hm;simp at hm;simp at hm
def Ga{i:Nat}(h:Inv N V w0 S0 σ a w)(T:d<N)(x:Operand)(m:aO x=true){O:L Mv}
 (hm:py d (resolve σ x) i=some O)(v:Mv.runs σ O=some σ'):Good N V w0 S0 σ' a d ((Instr.extract (a.eval x) i).run P w):=by
 unfold py at hm;split at hm;rename_i xs R;split at hm;rename_i y hy;have c:∀S F,aU S (cK V w0) σ (tv V a) w F->∃z F1 l,a.eval x=.tuple l/\l[i]?=some z/\Rel w S y z F1/\(Instr.extract (a.eval x) i).run P w=.ok z w:=by
  intro S F hc;obtain⟨F1,e1,-⟩:=aV hc x m R;obtain⟨l,q,hC⟩:=e1;obtain⟨J,A,Fx,B',-,-,hR,hl,-⟩:=Cells.lens i hC hy;have n:l[i]?=some J:=by simpa using hl
  exact⟨J,Fx,l,q,n,hR,by rw[q];simp[Instr.extract,n]⟩
 split at hm;rename_i D;cases hm;have H:=h;obtain⟨S,F,hc,-⟩:=h;obtain⟨z,F1,l,Y,X,h3,s⟩:=c S F hc;refine fi H T v s λZ F' g=>?_;obtain⟨z',E2,E1,B0,A0,k,j⟩:=c Z F' g;rw[s]at j;simp at j;subst j;rw[Rel.aK _ k D]at k;exact k;split at hm;rename_i r g1 g2 p hp;split at hm;cases hm;rename_i f;have u:=λe=>f<|.inl e;have C:=Classical.byContradiction λe=>f<|.inr e;subst C;cases hm;simp[Mv.cG]at v;subst v;have H:=h;obtain⟨S,F,hc,-⟩:=h;obtain⟨z,F1,l,Y,X,h3,s⟩:=c S F hc;refine⟨z,w,s,H.put T λZ F' g=>?_⟩;obtain⟨q1,q2,q3,q4,q5,q6,b,M,K,q9⟩:=jF g x m R hp;unfold an;simp only[aI,ar _ _ u];simp[loc]at M;subst M;simp[holds]at K;refine⟨U,q4,q5,λ_ _ _=>⟨.val z,?_,W,I⟩⟩;simp[loc,step1,<-K,Y,cF,X];cases hm;cases hm;cases hm
def HK{av:AV}{ti:TI}{g:Nat}(c:ct P g=some ti)(j:Rel w S av z F1)(f:bH av [jP ti o]=some y)(e:y.aK=true):
 ∃cs v,z=.agg cs/\(part g cs o).run P w=.ok v w/\Rel w S y v []:=by
 have:=Rel.read [jP ti o] (L:=.val z) j W f;obtain⟨L1,h,k,k1,k2,k3,-⟩:=this;rw[Rel.aK _ k3 e]at k3;unfold jP at k1;cases b:ti.agg with
 |false=>simp[b]at k1 f;simp[loc,step1]at k1;cases z<;>simp[cF]at k1;rename_i cs;obtain⟨v,i,rfl⟩:=k1;simp[holds]at k2;subst k2;exact⟨cs,h,W,by simp[part,zD c,b,i],k3⟩
 |true=>simp[b]at k1 f;simp[loc,step1]at k1;cases z<;>simp[cF]at k1;rename_i cs;subst k1;simp[holds]at k2;subst k2;exact⟨cs,_,W,by simp[part,zD c,b,dM c],k3⟩
def MG{f:Nat}(h:Inv N V w0 S0 σ a w)(s:d<N)(x:Operand)(e:aO x=true){k:L Mv}
 (hm:Al P d t (resolve σ x) f=some k)(q:Mv.runs σ k=some σ'):Good N V w0 S0 σ' a d ((Instr.field t (a.eval x) f).run P w):=by
 unfold Al at hm;split at hm;rename_i o H b;split at hm;rename_i ti g;split at hm;rename_i av n;split at hm;rename_i y m;split at hm;rename_i i;cases hm;have c:∀S F,aU S (cK V w0) σ (tv V a) w F->∃v,(Instr.field t (a.eval x) f).run P w=.ok v w/\Rel w S y v []:=by intro S F hc;obtain⟨F1,D,-⟩:=aV hc x e n;obtain⟨K,v,l,r,p⟩:=HK g D m i;refine⟨v,?_,p⟩;unfold p8 at b;split at b;rename_i J hu;split at b;rename_i fl j;cases b;simp[Instr.field,run_underlying hu,j,l,asAgg,r];cases b;cases b
 have A:=h;obtain⟨S,F,hc,-⟩:=h;obtain⟨v,C,-⟩:=c S F hc;refine fi A s q C λM O u=>?_
 grind
 cases hm;cases hm;cases hm;cases hm;cases hm
def Ma(h:Inv N V w0 S0 σ a w)(C:d<N)(x i:Operand)(c:aO x=true)(j:aO i=true){u:L Mv}
 (hm:wJ P d t (resolve σ x) (resolve σ i)=some u)(A:Mv.runs σ u=some σ'):Good N V w0 S0 σ' a d ((Instr.index t (a.eval x)<|a.eval i).run P w):=by
 unfold wJ at hm;split at hm;rename_i k n hi;split at hm;rename_i hu;split at hm;rename_i s m;split at hm;rename_i hn;split at hm;rename_i b M;cases hm;have r:=h;obtain⟨S,F,hc,-⟩:=h;have l:=dJ hc i j hi;have O:=dJ hc x c m;refine fi (z:=.int .u8 b.toNat) r C A ?_ λT X q=>by simp[Rel,scalar]
 rw[l,O];simp[Instr.index,asIntOf,run_underlying hu,hn,M];cases hm;cases hm;cases hm;rename_i len e hu;split at hm;rename_i ti f;split at hm;rename_i av m;split at hm;rename_i hn;split at hm;rename_i y H;split at hm;rename_i p;cases hm;have g:∀S F,aU S (cK V w0) σ (tv V a) w F->∃v,(Instr.index t (a.eval x)<|a.eval i).run P w=.ok v w/\Rel w S y v []:=by intro S F hc;have l:=dJ hc i j hi;obtain⟨F1,R,-⟩:=aV hc x c m;obtain⟨Y,v,D,K,J⟩:=HK f R H p;exact⟨v,by rw[l,D];simp[Instr.index,asIntOf,run_underlying hu,hn.1,hn.2,dM f,K],J⟩
 have r:=h;obtain⟨S,F,hc,-⟩:=h;obtain⟨v,l,-⟩:=g S F hc;refine fi r C A l λT X q=>?_
 grind
 cases hm;cases hm;cases hm;cases hm;cases hm;cases hm;cases hm
def Pu{s:Nat}(h:Inv N V w0 S0 σ a w)(p:d<N)(x:Operand)(b:aO x=true){l:L Mv}
 (hm:EY P d s t (resolve σ x)=some l)(m:Mv.runs σ l=some σ'):Good N V w0 S0 σ' a d ((convert s t<|a.eval x).run P w):=by
 unfold EY at hm;split at hm;rename_i u k A n j i g;simp only[aaP]at hm;subst hm;have e:=h;obtain⟨S,F,hc,-⟩:=h;have f:=dJ hc x b g;refine fi (z:=.int k<|k.wrap n) e p m ?_ λr v c=>by simp[Rel,scalar]
 rw[f];cases u<;>simp[convert,run_underlying j,run_underlying i,Conv.intToInt];rename_i q j i g;simp only[aaP]at hm;subst hm;have e:=h;obtain⟨S,F,hc,-⟩:=h;have f:=dJ hc x b g;refine fi (z:=.string q) e p m ?_ λr v c=>by simp[Rel,scalar]
 rw[f];simp[convert,run_underlying j,run_underlying i];simp at hm
end
end
section
variable{P:Program}{N:Nat}{w0 w:World}{V:Hid}{S S0:Nat->Prop}{B:Nat->Prop}{σ σ':St}{a:Act}{F:Nat->L Nat}
def jA{t e:TypeId}(h:dO P t=some e):P.underlying t=some (.slice e):=by
 unfold dO at h
 grind
def fJ(h:aU S B σ (tv V a) w F)(x:Q Operand)(d:∀o,x=some o->aO o=true){b l y:Nat}{code:BoundsCode}(hi:od (x.map<|resolve σ) b=some l)(f:l<=y):
 match x with
 |none=>l=b
 |some o=>∃k,(Instr.sliceBound (a.eval o) y code).run P w=.ok l w/\a.eval o=.int k l:=by
 cases x with
 |none=>simp[od]at hi;exact hi.symm
 |some o=>simp[od]at hi;split at hi;rename_i k n hc;split at hi;rename_i hn;cases hi;have c:=dJ h o (d o W) hc;have e:=ahV hn;refine⟨k,?_,by rw[c,e]⟩;rw[c];have:n<=(y:Int):=E;simp[Instr.sliceBound,asIntOf,hn,this];cases hi;cases hi
def kD(h:aU S B σ (tv V a) w F)(sl:Bool){len cap:Nat}(lo hi mx:Q Operand)(f:∀o,lo=some o->aO o=true)(c:∀o,hi=some o->aO o=true)(d:∀o,mx=some o->aO o=true)
 {l q m:Nat}(e:od (lo.map<|resolve σ) 0=some l)(g:od (hi.map<|resolve σ) len=some q)(p:od (mx.map<|resolve σ) cap=some m)(hl:l<=q)(hm:q<=m)(hc:m<=cap)(hh:mx=none\/hi.isSome):
 (Instr.sliceBounds sl len cap (lo.map a.eval) (hi.map a.eval)<|mx.map a.eval).run P w=.ok (l,q,m) w:=by
 cases mx with
 |none=>
  simp[od]at p;subst p;cases hi with
  |none=>
   simp[od]at g;subst g;cases lo with
   |none=>simp[od]at e;subst e;rfl
   |some o=>obtain⟨k,j,-⟩:=fJ (P:=P) h (some o) f (y:=len) (code:=.sliceB) e hl;simp[Instr.sliceBounds,j]
  |some n=>
   cases lo with
   |none=>simp[od]at e;subst e;cases sl;obtain⟨k,b,-⟩:=fJ (P:=P) h (some n) c (y:=cap) (code:=.sliceAlen) g E;simp[Instr.sliceBounds,b];obtain⟨k,b,-⟩:=fJ (P:=P) h (some n) c (y:=cap) (code:=.sliceAcap) g E;simp[Instr.sliceBounds,b]
   |some o=>obtain⟨k,j,-⟩:=fJ (P:=P) h (some o) f (y:=q) (code:=.sliceB) e hl;cases sl;obtain⟨k,b,-⟩:=fJ (P:=P) h (some n) c (y:=cap) (code:=.sliceAlen) g E;simp[Instr.sliceBounds,j,b];obtain⟨k,b,-⟩:=fJ (P:=P) h (some n) c (y:=cap) (code:=.sliceAcap) g E;simp[Instr.sliceBounds,j,b]
 |some o3=>
  rcases hh with hh|hh;cases hh;cases hi with
  |none=>cases hh
  |some n=>
   obtain⟨k,b,-⟩:=fJ (P:=P) h (some n) c (y:=m) (code:=.slice3B) g E;cases lo with
   |none=>simp[od]at e;subst e;cases sl;obtain⟨k,i,-⟩:=fJ (P:=P) h (some o3) d (y:=cap) (code:=.slice3Alen) p hc;simp[Instr.sliceBounds,b,i];obtain⟨k,i,-⟩:=fJ (P:=P) h (some o3) d (y:=cap) (code:=.slice3Acap) p hc;simp[Instr.sliceBounds,b,i]
   |some o=>obtain⟨k,j,-⟩:=fJ (P:=P) h (some o) f (y:=q) (code:=.slice3C) e hl;cases sl;obtain⟨k,i,-⟩:=fJ (P:=P) h (some o3) d (y:=cap) (code:=.slice3Alen) p hc;simp[Instr.sliceBounds,j,b,i];obtain⟨k,i,-⟩:=fJ (P:=P) h (some o3) d (y:=cap) (code:=.slice3Acap) p hc;simp[Instr.sliceBounds,j,b,i]
def du.sub(sz:Nat){xs:L AV}{l:L Value}(i n:Nat)(h:du w S sz xs l [])(b:i+n<=xs.length):du w S sz ((xs.drop i).take n) ((l.drop<|i*sz).take<|n*sz) []:=by
 obtain⟨k,j,e,m,c⟩:=du.split sz i h;have:k=[]/\j=[]:=by simpa using e.symm
 obtain⟨rfl,rfl⟩:=this;obtain⟨g,f,d,k1,k2⟩:=du.split sz n c;have:g=[]/\f=[]:=by simpa using d.symm
 grind
def Qa{sz:Nat}{xs:L AV}{i:Q Addr}{cap l h m:Nat}(j:Rel w S (.list .shr sz xs) (.slice i xs.length cap) [])(r:l<=h)(s:h<=m)(hm:m<=cap)(hh:h<=xs.length):
 Rel w S (.list .shr sz<|(xs.drop l).take<|h-l) (.slice (if m=l then i else i.map (·.add (l*sz))) (h-l)<|m-l) []:=by
 simp only[Rel]at j⊢;rcases j with⟨rfl,⟨u,e⟩,-⟩|⟨b,f,q,p,o,e,n,c,k,t,-⟩;simp_all;right;obtain⟨rfl,-,rfl⟩:=e;have d:((xs.drop l).take<|h-l).length=h-l:=by simp;omega
 by_cases g:m=l;have:h=l:=E;subst this;subst g;refine⟨b,f,0,p,o,I,n,c,I,by simp[du],U⟩;refine⟨b,f+l*sz,m-l,p,o,by rw[d];simp[g,cv],n,c,E,?_,U⟩;rw[d];have:=du.sub sz l (h-l) t E;rw[List.drop_take,afQ,List.take_take]at this;have v:min ((h-l)*sz) (xs.length*sz-l*sz)=(h-l)*sz:=by rw[<-Nat.sub_mul];simp_all
 simp_all
def KP{d t:Nat}(h:Inv N V w0 S0 σ a w)(Z:d<N)(x:Operand)(lo hi mx:Q Operand)(g:aO x=true)(K:∀o,lo=some o->aO o=true)(O:∀o,hi=some o->aO o=true)
 (B0:∀o,mx=some o->aO o=true)(E2:mx=none\/hi.isSome){ms:L Mv}
 (hm:rQ P d t (resolve σ x) (lo.map<|resolve σ) (hi.map<|resolve σ) (mx.map<|resolve σ)=some ms)(Y:Mv.runs σ ms=some σ'):
 Good N V w0 S0 σ' a d ((Instr.sliceAt t (a.eval x) (lo.map a.eval) (hi.map a.eval)<|mx.map a.eval).run P w):=by
 unfold rQ at hm;split at hm;rename_i hu;split at hm;rename_i s u;cases mx with
 |some o=>cases hm
 |none=>
  simp[Option.map_none]at hm⊢;split at hm;rename_i l C h1 h2;split at hm;rename_i hc;cases hm;have T:=h;obtain⟨S,F,c,-⟩:=h;have hv:=dJ c x g u;refine fi (z:=.string<|s.extract l C) T Z Y ?_ λS' F' i=>by simp[Rel,scalar]
  have hb:=kD (P:=P) c false (len:=s.size) (cap:=s.size) lo hi none K O I h1 h2 W hc.1 hc.2 (aaU _)<|.inl W;rw[hv];simp[Option.map_none]at hb;simp[Instr.sliceAt,run_underlying hu,Instr.slice,hb];cases hm;cases hm
 ·cases hm
 rename_i e hu;split at hm;rename_i ti A0;split at hm;rename_i f sz X u;split at hm;rename_i l C h1 h2;split at hm;rename_i m h3;split at hm;rename_i hc;obtain⟨y,F4,R⟩:=hc;have J:∀S F H cap,aU S (cK V w0) σ (tv V a) w F->a.eval x=.slice H X.length cap->X.length<=cap->∃j,j<=cap/\C<=j/\
  (Instr.sliceAt t (a.eval x) (lo.map a.eval) (hi.map a.eval)<|mx.map a.eval).run P w=.ok (.slice (if j=l then H else H.map (·.add (l*ti.size))) (C-l)<|j-l) w:=by
  intro S F H cap c A n;have E1:∃j,od (mx.map<|resolve σ) cap=some j/\C<=j/\j<=cap:=by
   cases mx with
   |none=>exact⟨cap,W,E,aaU _⟩
   |some o=>
    have:od (Option.map (resolve σ)<|some o) cap=some m:=by simp[ag6,od]at h3⊢;exact h3
    grind
  obtain⟨j,e1,k,D⟩:=E1;have hb:=kD (P:=P) c true (len:=X.length) (cap:=cap) lo hi mx K O B0 h1 h2 e1 y k D E2;refine⟨j,D,k,?_⟩;rw[A];simp[Instr.sliceAt,run_underlying hu,Instr.slice,hb,dM A0]
 have T:=h;obtain⟨S,F,c,-⟩:=h;obtain⟨F1,e1,-⟩:=aV c x g u;obtain⟨H,cap,A,n,-⟩:=e1.kJ;obtain⟨j,q1,q2,q3⟩:=J S F H cap c A n;split at hm;cases hm;refine fi T Z Y q3 λS' F' i=>?_;obtain⟨F2,k,-⟩:=aV i x g u;simp only[Rel]at k;obtain⟨rfl,D,-⟩:=k;rw[A]at D;simp only[Value.slice.injEq]at D;obtain⟨rfl,-,rfl⟩:=D;simp only[acC]at R;have:l=0/\C=0/\j=0:=E;obtain⟨rfl,rfl,rfl⟩:=this;simp[Rel];split at hm;rename_i v;subst v;cases hm;refine fi T Z Y q3 λS' F' i=>?_;obtain⟨F2,k,-⟩:=aV i x g u;rw[A,Rel.aK _ k W]at k;exact Qa k y q2 q1 E;cases hm;split at hm;rename_i v;subst v;split at hm;rename_i r g1 g2 p hp;split at hm;cases hm;rename_i F3;cases hm;obtain⟨p1,-,-,-,-,p6,-⟩:=jF c x g u hp;refine⟨_,w,q3,T.GV Z p6 p1 Y λS' F' b z G1 i k1 k2 k3 G0 hS=>?_⟩;obtain⟨-,-,-,-,-,-,L',l1,l2,l3⟩:=jF i x g u hp;rw[k1]at l1;cases l1;have:z=a.eval x:=by
  cases b with
  |val q=>simp only[holds]at k2 l2;rw[k2,l2]
  |addr F0=>have e1:=At.cell k2<|cells_one<|k3.one W;have k:=At.cell l2<|cells_one<|l3 F0 W;simp_all
 rw[this,A]at hS;simp only[AV.cC]at hS;have M:=kq X;rw[<-M]at hS R;exact Qa hS y q2 q1 E;cases hm;cases hm;cases hm;cases hm;cases hm;cases hm;cases hm;cases hm
end
section
variable{P:Program}{N:Nat}{w0 w:World}{V:Hid}{S S0:Nat->Prop}{B:Nat->Prop}{σ σ':St}{a:Act}{F:Nat->L Nat}
def Mh{b:Nat}{cs:Array Value}{c:Nat×Nat}(h:row? w b=some (cs,c)):∃e,w.heap[b]?=some (.cells cs e c):=by
 unfold row? at h
 grind
def Bf{b:Nat}{cs:Array Value}{e:TypeId}{c:Nat×Nat}(h:w.heap[b]?=some (.cells cs e c)):row? w b=some (cs,c):=by unfold row?;rw[h]
def Rel.OO{f:Fl}{sz:Nat}{xs:L AV}{z:Value}{g:L Nat}(h:Rel w S (.list f sz xs) z g):
 ∃l F',du w S sz xs l F'/\(∀b∈F',b∈g)/\(g.Nodup->F'.Nodup)/\(((∃c,z=.slice c 0 0)/\xs=[]/\l=[])\/
  ∃c cap,z=.slice (some c) xs.length cap/\c.spot=none/\∀j u,l[j]?=some u->w.cell? (c.add j)=some u):=by
 cases f with
 |nil=>simp[Rel]at h;obtain⟨rfl,rfl,rfl⟩:=h;exact⟨[],[],by simp[du],I,I,.inl ⟨⟨_,W⟩,W,W⟩⟩
 |shr=>
  rcases h with⟨rfl,⟨c,rfl⟩,rfl⟩|⟨b,i,cap,m,o,rfl,n,d,hc,e,rfl⟩;exact⟨[],[],by simp[du],I,I,.inl ⟨⟨_,W⟩,W,W⟩⟩;refine⟨_,[],e,I,I,.inr ⟨_,cap,W,W,λj u hu=>?_⟩⟩;rw[cv W,ny W d]
  grind
 |own=>
  rcases h with⟨rfl,rfl,rfl⟩|⟨b,cap,m,F',rfl,d,hc,hm,hs,e,rfl⟩;exact⟨[],[],by simp[du],I,I,.inl ⟨⟨_,W⟩,W,W⟩⟩;refine⟨_,F',e,λb k=>by simp[k],λhn=>(ad2.1 hn).2,.inr ⟨_,cap,W,W,λj u hu=>?_⟩⟩;rw[cv W,ny W d]
  grind
def du.one(sz:Nat){ti:TI}(c:sz=ti.size):∀{xs:L AV}{l:L Value}{f:L Nat},du w S sz xs l f->xs.all (fits ti)=true->∀u∈l,u.oneCell'=true
 |[],l,f,h,_=>by simp[du]at h;simp[h.1]
 |x::xs,l,f,h,b=>by
  simp only[ac4,abi]at b;obtain⟨y,k,r,q,rfl,rfl,n,e,g⟩:=h;intro u hu;rcases ac6.1 hu with hu|hu;unfold fits at b;split at b;simp[Rel]at e;obtain⟨p,rfl,hc⟩:=e;rw[bK]at hu;obtain⟨j,m,rfl⟩:=af7 hu;have d:j<(‹L AV›).length:=by have:=Cells.length hc;omega
  obtain⟨i,A,s,t,-,o,-,hl,-⟩:=Cells.lens j hc<|acL d
  grind
  simp at b;have:=e.one b.1.2;rw[cells_one this]at hu;simp_all;exact du.one sz c g b.2 u hu
def du.aK(sz:Nat):∀{xs:L AV}{l:L Value}{b:L Nat},du w S sz xs l b->bR xs=true->b=[]
 |[],l,b,h,_=>by simp[du]at h;exact h.2
 |x::xs,l,b,h,c=>by simp[bR]at c;obtain⟨y,f,j,i,rfl,rfl,g,e,d⟩:=h;rw[Rel.aK x e c.1,du.aK sz d c.2];rfl
def zE(t ty e e':TypeId)(i:TypeInfo)(q:P.underlying t=some (.slice e))(hi:P.info? e=some i)
 (g d f:Nat)(h:Array Value)(r:w.heap[g]?=some (.cells h e' (0,0)))
 (p:Addr)(m c:Nat)(b:L Value)(hl:b.length=m*i.size)(l:∀j u,b[j]?=some u->w.cell? (p.add j)=some u)(v:∀u∈b,u.oneCell'=true)
 (k:d+m<=f)(n:d*i.size+b.length<=h.size):
 (Builtin.append_ #[t,t] ty #[.slice (some ⟨g,0,none⟩) d f,.slice (some p) m c]).run P w=
   .ok (.slice (some ⟨g,0,none⟩) (d+m) f) (w.setRow g (h.toList.take (d*i.size)++b++h.toList.drop (d*i.size+b.length)).toArray):=by
 have s:=run_firstCells_some (P:=P) w i.size m p m c b hl l;have o:=run_storeCells_at P g (d*i.size) e' b 0 h w r n v;simp[Builtin.append_,run_underlying q,sizeOf,typeInfo,hi,Builtin.lenOf,k,s,Addr.add_lit,o]
def B6(z:Array Value)(n:Nat):(Builtin.zeroCells z n).size=n*z.size:=by simp[Builtin.zeroCells]
def rA(w:World)(o:Obj):Below w.heap.size w (w.drew.alloc o):=((Below.refl _ _).drew).alloc I o
def pL{l m z:L Value}{n:Nat}(h:l.length+m.length=n):(l++m++z).take n=l++m:=by grind
def wZ{t ty e:TypeId}{ti:TI}{zx zy:Value}{fx:Fl}{F1 y:Nat}{xs ys:L AV}{X q:L Nat}(he:dO P t=some e)(H6:ct P e=some ti)(S2:ti.size≠0)
 (M:Rel w S (.list fx F1 xs) zx X){g:L Value}(r:du w S y ys g q)(W1:((∃k,zy=.slice k 0 0)/\ys=[]/\g=[])\/
   ∃k cap,zy=.slice (some k) ys.length cap/\k.spot=none/\∀j u,g[j]?=some u->w.cell? (k.add j)=some u)(B0:fx=.nil\/(fx=.own/\F1=ti.size))(M2:ys=[]\/y=ti.size)(G5:ys.all (fits ti)=true)
 (hN:(X++q).Nodup)(hS:∀b,S b->b<w.heap.size)(hFx:∀b∈X,b<w.heap.size/\¬S b)(hFy:∀b∈q,b<w.heap.size)
 (hb1:(xs.length+ys.length)*ti.bytes<=140737488355328)(G4:xs.length+ys.length<=maxLen):
 ∃v w' K,(Builtin.append_ #[t,t] ty #[zx,zy]).run P w=.ok v w'/\Rel w' S (if fx=.nil/\ys=[]then .list .nil 0 []else .list .own ti.size (xs++ys)) v K/\K.Nodup/\
  (∀b∈K,b∈X\/b∈q\/w.heap.size<=b/\b<w'.heap.size)/\w.heap.size<=w'.heap.size/\(∀b,b<w.heap.size->b∉X->w'.heap[b]?=w.heap[b]?)/\
  w'.os=w.os/\w'.tape=w.tape/\w'.output=w.output:=by
 obtain⟨i,u,z,hi,hu,hz,d,T,H3,V0,H4,X2⟩:=mn H6;have ht:=jA he;have V2:∀b∈q,b∈q:=λ_ h=>h;have V1:q.Nodup->q.Nodup:=id;have G6:=acH.1 hN;have H2:xs.length+ys.length<=9223372036854775807:=by simp only[maxLen]at G4;omega
 by_cases O:ys=[];subst O;simp only[du]at r;obtain⟨rfl,rfl⟩:=r;have F2:∀k n c,n<=c->(Builtin.append_ #[t,t] ty #[.slice k n c,zy]).run P w=.ok (.slice k n c) w:=by
  intro k n c hn;have H5:∃F0 c',zy=.slice F0 0 c':=by grind
  obtain⟨F0,c',rfl⟩:=H5;cases k<;>cases F0<;>simp[Builtin.append_,run_underlying ht,sizeOf,typeInfo,hi,Builtin.lenOf,hn,Builtin.firstCells,loadCells,loadCellsFrom,storeCells]
 obtain⟨k,cap,rfl,Z,G0,-⟩:=M.kJ;refine⟨_,w,X,F2 k _ _ Z,?_,G6.1,λb l=>.inl l,aaU _,λ_ _ _=>rfl,W,W,W⟩;rcases B0 with rfl|⟨rfl,rfl⟩;obtain⟨rfl,rfl,rfl⟩:=G0 W;simp only[Rel]at M;simp[Rel,M.2.2];simpa using M;have f:y=ti.size:=M2.resolve_left O;have C:=du.length y r;have F4:=du.one y f r G5;have A:0<ys.length:=ags.2 O;obtain⟨k,J,rfl,K0,p⟩:∃k cap,zy=.slice (some k) ys.length cap/\k.spot=none/\∀j u,g[j]?=some u->w.cell? (k.add j)=some u:=by simp_all
 have H:∀(m:Nat)(lx:L Value)(s:L Nat),du w S ti.size xs lx s->(∀b∈s,b∈X)->s.Nodup->m<xs.length+ys.length->
  ∃K,Rel (w.drew.alloc<|.cells (lx.toArray++g.toArray++Builtin.zeroCells z.cells (grownCap w (xs.length+ys.length) m e-(xs.length+ys.length))) e) S (.list .own ti.size<|xs++ys)
   (.slice (some ⟨w.heap.size,0,none⟩) (xs.length+ys.length)<|grownCap w (xs.length+ys.length) m e) K/\K.Nodup/\
   (∀b∈K,b∈X\/b∈q\/w.heap.size<=b/\b<w.heap.size+1):=by
  intro m lx s H1 S1 hnd S4;have A0:=du.length ti.size H1;have hge:=grownCap_ge w (xs.length+ys.length) m e;have M1:=grownCap_le_maxLen w (xs.length+ys.length) m e G4;generalize grownCap w (xs.length+ys.length) m e=cap at*;refine⟨w.heap.size::(s++q),?_,?_,λb l=>?_⟩;simp only[Rel];refine .inr ⟨w.heap.size,cap,_,s++q,I,mK w.drew _ e,by simp;omega,M1,?_,?_,W⟩;simp only[Array.size_append,List.size_toArray,B6,A0,C,f,H4,<-adD]
  congr 1;omega
  have hE:=du.append ti.size H1 (f▸r);have E2:=du.frame ti.size _ (w':=w.drew.alloc<|.cells (lx.toArray++g.toArray++Builtin.zeroCells z.cells (cap-(xs.length+ys.length))) e) hE λb l=>?_;have:(lx.toArray++g.toArray++Builtin.zeroCells z.cells (cap-(xs.length+ys.length))).toList.take ((xs++ys).length*ti.size)=lx++g:=by
   simp only[Array.toList_append];refine pL ?_
   grind
  rw[this];exact E2;have L0:b<w.heap.size:=by grind
  exact qn w.drew _ L0
  grind
  grind
 have R:ti.size=i.size:=d;have F3:(if fx=.nil/\ys=[]then AV.list .nil 0 []else .list .own ti.size (xs++ys))=.list .own ti.size (xs++ys):=by simp[O]
 rw[F3];by_cases hq:xs=[]/\zx=.slice none 0 0/\X=[];obtain⟨rfl,rfl,rfl⟩:=hq;clear B0;simp only[acC,af0]at*;have hr:=run_append_nil (P:=P) w t ty e i z ht hi hz k ys.length J g (by rw[C,f,d]) p A E (by rw[<-T];omega);obtain⟨K,g1,g2,g3⟩:=H 0 [] [] (by simp[du]) I acP A;simp only[afy,Array.empty_append]at g1 hr⊢;have l:=rA w<|.cells (g.toArray++Builtin.zeroCells z.cells (grownCap w ys.length 0 e-ys.length)) e;exact⟨_,_,K,hr,g1,g2,λb l=>(g3 b l).imp id<|Or.imp id λh=>⟨h.1,fP⟩,l.size,λb E1 _=>l.block b E1,l.os,l.tape,l.output⟩;rcases B0 with rfl|⟨rfl,rfl⟩;simp only[Rel]at M;exact aaF M hq;simp only[Rel]at M;rcases M with M|⟨b,cap,x,F',rfl,Y,Z,G2,P0,hE,rfl⟩;exact aaF M hq;obtain⟨e',D⟩:=Mh Y;have A0:=du.length ti.size hE;by_cases o:xs.length+ys.length<=cap;have G3:xs.length*i.size+g.length<=x.size:=by rw[C,P0,f,<-d,<-adD];exact acM _ o
 have hr:=zE (P:=P) (ty:=ty) t e e' i ht hi b xs.length cap x D k ys.length J g (by rw[C,f,d]) p F4 o G3;have hnb:b∉F'/\b∉q:=by simp_all
 refine⟨_,_,b::(F'++q),hr,?_,?_,λc hc=>?_,I,λc _ hc=>setRow_other w b c _ λe=>hc<|by simp[e],W,W,W⟩;simp only[Rel];have G1:=setRow_heap w b x (x.toList.take (xs.length*i.size)++g++x.toList.drop (xs.length*i.size+g.length)).toArray e' _ D;refine .inr ⟨b,cap,_,F'++q,I,Bf G1,by simp;exact o,G2,?_,?_,W⟩
 grind
 have P1:=du.append ti.size hE (f▸r);have E2:=du.frame ti.size _ (w':=w.setRow b (x.toList.take (xs.length*i.size)++g++x.toList.drop (xs.length*i.size+g.length)).toArray) P1 λc hc=>?_;have:(x.toList.take (xs.length*i.size)++g++x.toList.drop (xs.length*i.size+g.length)).toArray.toList.take ((xs++ys).length*ti.size)=x.toList.take (xs.length*ti.size)++g:=by
  rw[R];simp only;refine pL ?_
  grind
 rw[this];exact E2;have K2:c≠b:=by grind
 rw[setRow_other w b c _ K2];simp_all
 grind
 have holds:∀j u,(x.toList.take<|xs.length*ti.size)[j]?=some u->w.cell? ((⟨b,0,none⟩:Addr).add j)=some u:=by
  intro j u hu;rw[cv W,ny W Y]
  grind
 have hr:=run_append_grow (P:=P) w t ty e i z ht hi hz ⟨b,0,none⟩ xs.length cap _ (by rw[A0,d]) holds k ys.length J g (by rw[C,f,d]) p E E
  (growslice_fits E fP)
 obtain⟨K,g1,g2,g3⟩:=H cap _ F' hE (λc hc=>by simp[hc]) (ad2.1 G6.1).2 E;have l:=rA w<|.cells ((x.toList.take<|xs.length*ti.size).toArray++g.toArray++Builtin.zeroCells z.cells (grownCap w (xs.length+ys.length) cap e-(xs.length+ys.length))) e;exact⟨_,_,K,hr,g1,g2,λb l=>(g3 b l).imp id<|Or.imp id λh=>⟨h.1,fP⟩,l.size,λb E1 _=>l.block b E1,l.os,l.tape,l.output⟩
end
section
variable{P:Program}{N:Nat}{w0 w:World}{V:Hid}{S S0:Nat->Prop}{B:Nat->Prop}{σ σ':St}{a:Act}{F:Nat->L Nat}
def xE{sz:Nat}{xs:L AV}{v:Value}{b:L Nat}(h:Rel w S (.list .nil sz xs) v b):xs=[]/\v=.slice none 0 0/\b=[]:=by simpa[Rel]using h
def Ka{t c ty e f:TypeId}{x y:Value}(d:P.underlying t=some (.slice e))(b:P.underlying c=some (.slice f)):(Builtin.append_ #[t,c] ty #[x,y]).run P w=(Builtin.append_ #[t,t] ty #[x,y]).run P w:=by cases x<;>simp[Builtin.append_,run_underlying d,run_underlying b]
def Kb{d t ty:Nat}(h:Inv N V w0 S0 σ a w)(hd:d<N)(x y:Operand)(G3:aO x=true)(L0:aO y=true){ms:L Mv}
 (hm:ma P d t (resolve σ x) (resolve σ y)=some ms)(hr:Mv.runs σ ms=some σ'):Good N V w0 S0 σ' a d ((Builtin.append_ #[t,t] ty #[a.eval x,a.eval y]).run P w):=by
 unfold ma at hm;split at hm;rename_i e he;split at hm;rename_i ti G4;split at hm;cases hm;rename_i B0;split at hm;rename_i fy T C hy;obtain⟨A,D,hm⟩:∃A,(A=[]/\bR C=true\/∃s,A=[s]/\y=.tmp s/\(σ s).av.plain=true)/\(if(C.isEmpty||(T==ti.size&&C.all (fits ti)))&& !A.contains d then
  match(resolve σ x).cont with
  |some (.list .nil _ _)=>if(C.length*ti.bytes)<=140737488355328/\C.length<=maxLen then
    some [Mv.make A d<|if C.isEmpty then .list .nil 0 []else .list .own ti.size C]else none
  |some (.list .own G2 xs)=>if G2=ti.size/\(xs.length+C.length)*ti.bytes<=140737488355328/\xs.length+C.length<=maxLen then
    match(resolve σ x).sl.av with
    |.bw r _ _ p=>if r∈A then none else some [.take r d p,.make (d::A) d<|.list .own ti.size<|xs++C]
    |_=>match(resolve σ x).s with
     |some s=>if s∈A then none else some [.make (s::A) d<|.list .own ti.size<|xs++C]
     |none=>none
   else none
  |_=>none
  else none)=some ms:=by
  dsimp only at hm;split at hm;cases hm;rename_i A D;refine⟨A,?_,hm⟩;split at D;simp_all;split at D;rename_i h1 h2;split at D;rename_i s hs;simp only[aaP]at D;cases y with
  |tmp o=>
   have X:(resolve σ<|.tmp o).s=some o/\(resolve σ<|.tmp o).sl=σ o:=by revert hs;simp only[resolve,cx.of];grind
   rw[X.1]at hs;simp only[aaP]at hs;subst hs;rw[X.2]at h2;exact .inr ⟨o,D.symm,W,by rw[h2];rfl⟩
  |const v=>simp[resolve]at hs
  |func f=>simp[resolve]at hs
  |global g=>simp[resolve]at hs
  ·cases D
  cases D
 have K:∀S F,aU S (cK V w0) σ (tv V a) w F->∃ly R,du w S T C ly R/\(((∃ad,a.eval y=.slice ad 0 0)/\C=[]/\ly=[])\/
  ∃ad S2,a.eval y=.slice (some ad) C.length S2/\ad.spot=none/\∀j u,ly[j]?=some u->w.cell? (ad.add j)=some u)/\(∀b∈R,∃m∈A,b∈F m)/\R.Nodup:=by
  intro S F hc;obtain⟨Fy,e1,e2,e3,-⟩:=aV hc y L0 hy;obtain⟨ly,R,q1,q2,q3,q4⟩:=e1.OO;rcases D with⟨rfl,H6⟩|⟨s,rfl,rfl,G5⟩;exact⟨ly,R,q1,q4,by rw[du.aK T q1 H6];simp,by rw[du.aK T q1 H6];exact acP⟩;obtain⟨rfl,-⟩:=e3 s W G5;exact⟨ly,R,q1,q4,λb n=>⟨s,I,q2 b n⟩,q3<|hc.nodup s⟩
 split at hm;rename_i F1;simp only[abi,af8,agK,beq_iff_eq,List.isEmpty_iff]at F1;obtain⟨P0,S1⟩:=F1;have S4:d∉A:=by simpa using S1
 have E2:C=[]\/T=ti.size:=P0.imp id (·.1);have F4:C.all (fits ti)=true:=by grind
 split at hm;rename_i G2 xs hx;split at hm;rename_i n;cases hm;simp only[iD,aaP]at hr;subst hr;obtain⟨S,F,hc,hN,F0,Z,Y,q⟩:=h;obtain⟨Fx,ex,-⟩:=aV hc x G3 hx;obtain⟨rfl,-,rfl⟩:=xE ex;obtain⟨ly,R,q1,q2,q3,q4⟩:=K S F hc;obtain⟨v,w',Fv,r1,r2,r3,r4,r5,r6,r7,r8,r9⟩:=wZ (P:=P) (ty:=ty) he G4 B0 ex q1 q2 (.inl W) E2 F4 (by simpa using q4) hc.shr I
  (λb n=>by obtain⟨m,-,hm⟩:=q3 b n;exact(hc.own m b hm).2.1) (by simpa using n.1) (by simpa using n.2)
 have H:Below w.heap.size w w':=⟨r7,r8,r9,r5,λk hk=>r6 k hk I⟩;refine⟨v,w',r1,S,λi=>if i=d then Fv else if i∈A then[]else F i,?_,by rw[size_put];exact hN,by rw[eQ];exact F0,Z,Y,q.P7 H⟩;rw[lL<|by rw[hN];exact hd];have M1:(if C.isEmpty then AV.list .nil 0 []else .list .own ti.size C)=(if Fl.nil=Fl.nil/\C=[]then AV.list .nil 0 []else .list .own ti.size ([]++C)):=by simp
 rw[M1];exact hc.make A d _ v Fv q.new r5 (λb H3 _=>r6 b H3 I) r3
  (λb n=>(r4 b n).elim (λh=>by cases h) λh=>h.imp (q3 b) id) r2
 simp at hm;rename_i G2 xs hx;split at hm;rename_i n;obtain⟨rfl,K2,K0⟩:=n;split at hm;rename_i r g1 g2 p F3;split at hm;simp at hm;rename_i W1;cases hm;cases x with
 |const v=>simp only[resolve]at F3;have:=eV v;rw[F3]at this;simp[AV.plain]at this
 |func f=>simp[resolve]at F3
 |global g=>simp[resolve,Sl.none]at F3
 |tmp o=>
  have G1:(σ o).av=.bw r g1 g2 p:=by revert F3;simp only[resolve,cx.of];split<;>first|exact id|(intro h;simp[Sl.none]at h)
  obtain⟨O,H5,H4⟩:=EZ G1 hx;have G0:(σ r).av.plain=true:=by by_cases hp:p=[];subst hp;simp only[bH,aaP]at O;rw[O];exact H4;exact H5 hp
  simp only[Mv.runs,Mv.run]at hr;split at hr;rename_i V1 M;cases hr;split at M;simp at M;rename_i P1;rw[O]at M;simp only at M;split at M;rename_i X2 hs;cases M;obtain⟨S,F,hc,hN,F0,Z,Y,q⟩:=h;obtain⟨l,z,Fx,F',k1,k2,k3,k4,k5,k6⟩:=hc.take r d p P1 G0 O hs;have hz:=J5 hc G1 hx k1 k2 k3;obtain⟨ly,R,q1,q2,q3,q4⟩:=K S F hc;have A0:∀b∈R,∃m∈A,m≠d/\b∈F' m:=by grind
  have E1:(Fx++R).Nodup:=by rw[acH];refine⟨k5▸k4.nodup d,q4,λb n c H2 e=>?_⟩;subst e;obtain⟨m,-,H1,F2⟩:=A0 b H2;exact k4.di d m (λe=>H1 e.symm) b (k5▸n) F2
  obtain⟨v,w',Fv,r1,r2,r3,r4,r5,r6,r7,r8,r9⟩:=wZ (P:=P) (ty:=ty) he G4 B0 k3 q1 q2 (.inr G) E2 F4 E1 hc.shr
   (λb n=>(k4.own d b (k5▸n)).2) (λb n=>by obtain⟨m,-,-,hm⟩:=A0 b n;exact(k4.own m b hm).2.1) K2 K0
  have H:sS V w0 w w':=⟨r7,r8,r9,r5,λk hk G6=>r6 k (acW hk q.size) λn=>yd (k4.own d k (k5▸n)).1 hk G6⟩;rw[hz,<-gW V a (gD G3)]at r1;refine⟨v,w',r1,S,λi=>if i=d then Fv else if i∈d::A then[]else F' i,?_,by rw[size_put];exact hN,by rw[eQ];exact F0,Z,Y,q.trans H⟩;rw[lL<|by rw[hN];exact hd];have hT:iy (tv V a) d v=iy (iy (tv V a) d z) d v:=by funext i;simp only[iy];split<;>rfl
  rw[hT];refine k4.make (d::A) d _ v Fv q.new r5 (λb H3 F2=>?_) r3 (λb n=>?_) r2;simp_all
  grind
  simp at M;simp at hr
 ·rename_i M2;split at hm;rename_i s hs;split at hm;simp at hm;rename_i V2;cases hm;simp only[iD,aaP]at hr;subst hr;obtain⟨o,rfl⟩:∃o,x=.tmp o:=by cases x<;>simp[resolve]at hs;exact⟨_,W⟩
  have X:(resolve σ<|.tmp o).s=some o/\(resolve σ<|.tmp o).sl=σ o:=by revert hs;simp only[resolve,cx.of];grind
  rw[X.1]at hs;simp only[aaP]at hs;subst hs;rw[X.2]at M2;have G5:(σ o).av.plain=true:=by
   cases hh:(σ o).av with
   |bw r g1 g2 p=>grind
   |ptr r g1 g2 p=>simp[resolve,cx.of,hh,cx.cont]at hx
   |abs J=>simp[resolve,cx.of,hh,cx.cont,Sl.none]at hx
   |gI g V0=>simp[resolve,cx.of,hh,cx.cont]at hx
   |_=>rfl
  obtain⟨S,F,hc,hN,F0,Z,Y,q⟩:=h;obtain⟨Fx,ex,-,e3,-⟩:=aV hc (.tmp o) G3 hx;obtain⟨rfl,-⟩:=e3 o W G5;obtain⟨ly,R,q1,q2,q3,q4⟩:=K S F hc;have A0:∀b∈R,∃m∈A,m≠o/\b∈F m:=by grind
  have E1:(F o++R).Nodup:=by rw[acH];refine⟨hc.nodup o,q4,λb n c H2 e=>?_⟩;subst e;obtain⟨m,-,H1,F2⟩:=A0 b H2;exact hc.di o m (λe=>H1 e.symm) b n F2
  obtain⟨v,w',Fv,r1,r2,r3,r4,r5,r6,r7,r8,r9⟩:=wZ (P:=P) (ty:=ty) he G4 B0 ex q1 q2 (.inr G) E2 F4 E1 hc.shr
   (λb n=>(hc.own o b n).2) (λb n=>by obtain⟨m,-,-,hm⟩:=A0 b n;exact(hc.own m b hm).2.1) K2 K0
  have H:sS V w0 w w':=⟨r7,r8,r9,r5,λk hk G6=>r6 k (acW hk q.size) λn=>yd (hc.own o k n).1 hk G6⟩;refine⟨v,w',r1,S,λi=>if i=d then Fv else if i∈o::A then[]else F i,?_,by rw[size_put];exact hN,by rw[eQ];exact F0,Z,Y,q.trans H⟩;rw[lL<|by rw[hN];exact hd];refine hc.make (o::A) d _ v Fv q.new r5 (λb H3 F2=>?_) r3 (λb n=>?_) r2;simp_all
  grind
  simp at hm
 simp at hm;simp at hm;simp at hm;simp at hm;simp at hm;simp at hm
end
section
variable{P:Program}{N:Nat}{w0 w:World}{V:Hid}{S S0:Nat->Prop}{B:Nat->Prop}{σ σ':St}{a:Act}{F:Nat->L Nat}
section
variable{p r:Array TypeId}{b:Bool}{d:Nat}{t:TypeId}
def Q6(d:Nat)(hu:P.underlying t=some .bool)(x y:Bool)(w:World):(Op.equalIn (d+1) t (.bool x)<|.bool y).run P w=.ok (x==y) w:=by simp[Op.equalIn,run_underlying hu]
def EE(d:Nat){e:TypeId}(hu:P.underlying t=some (.slice e))(x:Q Addr)(n c:Nat)(w:World):(Op.equalIn (d+1) t (.slice x n c)<|.slice none 0 0).run P w=.ok x.isNone w:=by cases x<;>simp[Op.equalIn,run_underlying hu]
def EF(d:Nat){e:TypeId}(hu:P.underlying t=some (.pointer e))(x:Q Addr)(w:World):(Op.equalIn (d+1) t (.pointer x)<|.pointer none).run P w=.ok x.isNone w:=by cases x<;>simp[Op.equalIn,run_underlying hu]
def Zu(d:Nat)(hu:P.underlying t=some (.func p r b))(f:Fn)(x y:Array Value)(w:World):(Op.equalIn (d+1) t (.func f x y) .nilFunc).run P w=.ok false w:=by simp[Op.equalIn,run_underlying hu]
def Pe(d:Nat)(hu:P.underlying t=some (.func p r b))(w:World):(Op.equalIn (d+1) t .nilFunc .nilFunc).run P w=.ok true w:=by simp[Op.equalIn,run_underlying hu]
def MO(t:TypeId)(x y:Value):Op.equal t x y=Op.equalIn (9999+1) t x y:=W
theorem UL{op:BinOp}{t:TypeId}{x y v:Value}(X Y:Operand)(h:zB P op t x y=some v)(w:World):
 (do eqGuard op t X Y x y;binOp op t x y:Sem Value).run P w=.ok v w:=by
 unfold zB at h;split at h;rename_i k n k' m;rw[eqGuard_at_int];split at h;split at h;simp at h;rename_i hb;simp only[aaP]at h;subst h;simp[binOp,Op.shift,hb];split at h;simp at h;rename_i hb;simp only[aaP]at h;subst h;simp[binOp,Op.shift,hb];split at h;rename_i hk;subst hk;split at h;simp only[aaP]at h;subst h;simp[binOp,Op.intArith];simp only[aaP]at h;subst h;simp[binOp,Op.intArith];simp only[aaP]at h;subst h;simp[binOp,Op.intArith];split at h;simp at h;rename_i hb;simp only[aaP]at h;subst h;simp[binOp,Op.intDiv,hb];split at h;simp at h;rename_i hb;simp only[aaP]at h;subst h;simp[binOp,Op.intDiv,hb];simp only[aaP]at h;subst h;simp[binOp,Op.intBits];simp only[aaP]at h;subst h;simp[binOp,Op.intBits];simp only[aaP]at h;subst h;simp[binOp,Op.intBits];simp only[aaP]at h;subst h;simp[binOp,Op.intBits];simp only[aaP]at h;subst h;simp[binOp,Op.intCmp];simp only[aaP]at h;subst h;simp[binOp,Op.intCmp];simp only[aaP]at h;subst h;simp[binOp,Op.intCmp];simp only[aaP]at h;subst h;simp[binOp,Op.intCmp];simp only[aaP]at h;subst h;simp[binOp,Op.intCmp];simp only[aaP]at h;subst h;simp[binOp,Op.intCmp];simp at h;simp at h;rename_i s s';rw[eqGuard_at_string];split at h;split at h;simp at h;rename_i hb;simp only[aaP]at h;subst h;simp only[Sem.run_bind,Sem.run_pure,Result.andThen_ok,binOp,Op.stringOp,hb,if_false];simp only[aaP]at h;subst h;rfl;simp only[aaP]at h;subst h;rfl;simp only[aaP]at h;subst h;rfl;simp at h;rename_i b b';rw[eqGuard_at_bool];split at h;rename_i hu;split at h;simp only[aaP]at h;subst h;simp only[binOp,Sem.run_bind,Sem.run_pure,Result.andThen_ok,MO,Q6 9999 hu];simp only[aaP]at h;subst h;simp only[binOp,Sem.run_bind,Sem.run_pure,Result.andThen_ok,MO,Q6 9999 hu];simp at h;simp at h;simp at h
def RX{op:BinOp}{x y:AV}{c g:Value}{J H:L Nat}(X Y:Operand)(h:isNil P t x y=some b)(i:Rel w S x c J)(l:Rel w S y g H)(cF:op=.eql\/op=.neq):
 (do eqGuard op t X Y c g;binOp op t c g:Sem Value).run P w=.ok (.bool<|if op=.eql then b else !b) w:=by
 have fin:∀u,P.underlying t=some u->(eqGuard op t X Y c g=pure ())->((Op.equal t c g).run P w=.ok b w)->(∀k n,c≠.int k n)->(∀s,c≠.string s)->(∀k n,c≠.float k n)->(∀k n m,c≠.complex k n m)->
  (do eqGuard op t X Y c g;binOp op t c g:Sem Value).run P w=.ok (.bool<|if op=.eql then b else !b) w:=by
  intro u hu C he q o O M;rw[C];rcases cF with rfl|rfl;have:binOp .eql t c g=(do pure (.bool<|←Op.equal t c g)):=by cases c<;>first|rfl|exact aaF rfl (q _ _)|exact aaF rfl (o _)|simp_all|simp_all
  simp[this,he];have:binOp .neq t c g=(do pure (.bool<|!(←Op.equal t c g))):=by cases c<;>first|rfl|exact aaF rfl (q _ _)|exact aaF rfl (o _)|simp_all|simp_all
  simp[this,he]
 unfold isNil at h;split at h;split at h;rename_i f _ K;split at h;rename_i e hu;obtain⟨rfl,rfl,-⟩:=xE l;obtain⟨ad,D,rfl,-,q,o,-⟩:=i.kJ;refine fin _ hu (eqGuard_at_slice ..) ?_ I I I I;cases f with
 |nil=>obtain⟨rfl,-,-⟩:=q W;cases h;exact EE 9999 hu _ _ _ w
 |shr=>simp only at h;split at h;cases h;rename_i j;obtain⟨v,A,rfl⟩:=o I (by simpa using j);cases h;exact EE 9999 hu _ _ _ w
 |own=>simp only at h;split at h;cases h;rename_i j;obtain⟨v,A,rfl⟩:=o I (by simpa using j);cases h;exact EE 9999 hu _ _ _ w
 ·cases h
 cases h;split at h;rename_i e hu;simp[Rel]at l;obtain⟨-,rfl,-⟩:=l;split at h;cases h;simp only[Rel]at i;obtain⟨v,T,R,F',z,rfl,-⟩:=i;exact fin _ hu (eqGuard_at_pointer ..) (EF 9999 hu _ w) I I I I;cases h;simp[Rel]at i;obtain⟨-,rfl,-⟩:=i;exact fin _ hu (eqGuard_at_pointer ..) (EF 9999 hu _ w) I I I I;cases h;cases h;split at h;rename_i hu;simp[Rel]at l;obtain⟨-,rfl,-⟩:=l;split at h;cases h;simp only[Rel]at i;obtain⟨a',Z,F3,F4,rfl,-⟩:=i;exact fin _ hu (eqGuard_at_func ..) (Zu 9999 hu _ _ _ w) I I I I;cases h;simp[Rel]at i;obtain⟨-,rfl,-⟩:=i;exact fin _ hu (eqGuard_at_nilFunc ..) (Pe 9999 hu w) I I I I;cases h;cases h;cases h
def TC{t:Nat}{op:BinOp}(h:Inv N V w0 S0 σ a w)(C:d<N)(x y:Operand)(g:aO x=true)(f:aO y=true){j i v:AV}
 (u:(resolve σ x).cont=some j)(s:(resolve σ y).cont=some i)(hm:nA P op t j i=some v)(z:Mv.runs σ [.put d v]=some σ'):
 Good N V w0 S0 σ' a d ((do eqGuard op t x y (a.eval x) (a.eval y);binOp op t (a.eval x) (a.eval y):Sem Value).run P w):=by
 have A:∀b,isNil P t j i=some b->(op=.eql/\v=.v (.bool b)\/op=.neq/\v=.v (.bool !b))->Good N V w0 S0 σ' a d ((do eqGuard op t x y (a.eval x) (a.eval y);binOp op t (a.eval x) (a.eval y):Sem Value).run P w):=by intro b m H;have n:=h;obtain⟨S,F,hc,-⟩:=h;obtain⟨T,q,-⟩:=aV hc x g u;obtain⟨R,o,-⟩:=aV hc y f s;have c:=RX (P:=P) (op:=op) x y m q o (by grind);refine fi n C z c λJ K l=>?_;rcases H with⟨rfl,rfl⟩|⟨rfl,rfl⟩<;>simp[Rel,scalar]
 have e:OH op (isNil P t j i)=some v->Good N V w0 S0 σ' a d ((do eqGuard op t x y (a.eval x) (a.eval y);binOp op t (a.eval x) (a.eval y):Sem Value).run P w):=by
  intro hm;cases m:isNil P t j i with
  |none=>rw[m]at hm;cases op<;>simp[OH]at hm
  |some b=>cases op<;>simp[OH]at hm;simp_all;simp_all
 unfold nA at hm;split at hm
 ·rename_i O;split at hm
  ·rename_i M;split at hm
   ·rename_i D hs;cases hm;have n:=h;obtain⟨S,F,hc,-⟩:=h;have q:=dJ hc x g u;have o:=dJ hc y f s;have c:=UL (P:=P) x y hs w;rw[<-q,<-o]at c;refine fi n C z c λJ K l=>?_;have k:scalar D=true:=by
     unfold zB at hs
     repeat' split at hs
     all_goals first|(cases hs;rfl)|cases hs
    simp[Rel,k]
   exact e hm
  cases hm
 exact e hm
def Ua{op:UnOp}(h:Inv N V w0 S0 σ a w)(j:d<N)(x:Operand)(c:aO x=true){f v:Value}
 (g:(resolve σ x).cont=some (.v f))(hm:uno op f=some v)(i:Mv.runs σ [.put d<|.v v]=some σ'):Good N V w0 S0 σ' a d ((Op.unary op<|a.eval x).run P w):=by
 have l:=h;obtain⟨S,F,hc,-⟩:=h;have m:=dJ hc x c g;refine fi (z:=v) l j i ?_ λn o k=>?_;rw[m];unfold uno at hm;split at hm<;>first|(cases hm;simp[Op.unary,Op.intArith,Op.intBits])|cases hm
 have e:scalar v=true:=by unfold uno at hm;split at hm<;>first|(cases hm;rfl)|cases hm
 simp[Rel,e]
end
end
section
variable{P:Program}{N:Nat}{w0 w:World}{V:Hid}{S S0:Nat->Prop}{B:Nat->Prop}{σ σ':St}{a:Act}{F:Nat->L Nat}
def Aj(off:Nat):∀(l:L Value)(k:Nat)(cs:Array Value),off+k+l.length<=cs.size->
 ((l.zipIdx k).foldl (λcs(p:Value×Nat)=>cs.setIfInBounds (off+p.2) p.1) cs).toList=cs.toList.take (off+k)++l++cs.toList.drop (off+k+l.length)
 |[],k,cs,h=>I
 |v::l,k,cs,h=>by
  simp only[List.zipIdx_cons,aeC];simp[abo]at h;rw[Aj off l (k+1) _<|by simp;omega];simp only[Array.toList_setIfInBounds];apply agG;intro j;by_cases d:j<off+k;rw[acT,acT,afM<|by simp;omega,afM<|by simp;omega]
  grind
  by_cases b:j=off+k;subst b;rw[acT,acT,afM<|by simp;omega,afx<|by simp;omega]
  grind
  by_cases c:j<off+k+1+l.length;rw[acT,acT,afx<|by simp;omega,afM<|by simp;omega,afx<|by simp;omega,afM<|by simp;omega]
  grind
  rw[afx<|by simp;omega,afx<|by simp;omega];simp only[acU,ade,afL,ae7,agp,abo]
  grind
def ID{xs g:L AV}{cs:Array Value}{m e:L Nat}{o n:Nat}{y:AV}{v:Value}(h:Cells w S true xs cs.toList m)(hs:C8 xs o n y=some g)(l:Rel w S y v e)(H:(m++e).Nodup):
 v.cells.size=n/\o+n<=cs.size/\∃F',Cells w S true g (cs.toList.take o++v.cells.toList++cs.toList.drop (o+n)) F'/\F'.Nodup/\∀b∈F',b∈m\/b∈e:=by
 have i:=Cells.length h;simp at i;unfold C8 at hs;split at hs;rename_i t;obtain⟨A,c,rfl,z,x⟩:=Cells.split o h;obtain⟨C,s,rfl,J,r⟩:=Cells.split n x;rw[afQ,afQ]at r;have d:∀f,Cells w S true f v.cells.toList e->∃F',Cells w S true (xs.take o++f++xs.drop (o+n)) (cs.toList.take o++v.cells.toList++cs.toList.drop (o+n)) F'/\F'.Nodup/\∀b∈F',b∈A++(C++s)\/b∈e:=by
  intro f k;refine⟨A++e++s,Cells.append (Cells.append z k) r,?_,λb D=>?_⟩
  grind
  grind
 split at hs;rename_i f;split at hs;rename_i hl;cases hs;obtain⟨K,rfl,p⟩:=l;have:=Cells.length p;simp at this;exact⟨by rw[bK];omega,E,d f<|by simpa[bK]using p⟩;cases hs;split at hs;rename_i u hc;simp[decide_eq_true_eq]at hc;obtain⟨rfl,hc⟩:=hc;cases hs;have q:=l.one hc;have j:=cells_one q;refine⟨by rw[j];rfl,E,?_⟩;have:=d [y] (by rw[j];exact⟨v,[],e,[],W,I,λ_=>q,l,W,W⟩);rw[List.set_eq_take_append_cons_drop,aas E];simpa using this;cases hs;cases hs
def BI(l:L (Nat×Nat)):∀(is:L Nat)(ys:L AV)(g:L Value){xs c:L AV}{cs:Array Value}{e f:L Nat},is.length=ys.length->Cells w S true xs cs.toList e->
 uq l xs (is.zip ys)=some c->Cells w S false ys g f->(e++f).Nodup->
 ∃cs' F',Instr.fill (l.toArray[·]?) cs (is.zip g)=some cs'/\Cells w S true c cs'.toList F'/\F'.Nodup/\∀b∈F',b∈e\/b∈f
 |[],ys,g,xs,c,cs,e,f,hl,j,d,m,s=>by simp[uq]at d;subst d;exact⟨cs,e,by simp[Instr.fill],j,(acH.1 s).1,λb u=>.inl u⟩
 |i::is,[],g,xs,c,cs,e,f,hl,j,d,m,s=>by cases hl
 |i::is,y::ys,g,xs,c,cs,e,f,hl,j,d,m,s=>by
  simp[Nat.add_right_cancel_iff]at hl;obtain⟨v,k,K,Fr,rfl,rfl,-,C,D⟩:=m;simp[uq]at d;split at d;rename_i o n H;split at d;rename_i x hs;have r:(e++K).Nodup:=by grind
  obtain⟨J,R,F',k1,k2,k3⟩:=ID j hs C r;have h:(v.cells.zipIdx.foldl (λcs(p:Value×Nat)=>cs.setIfInBounds (o+p.2) p.1) cs).toList=cs.toList.take o++v.cells.toList++cs.toList.drop (o+n):=by have:=Aj o v.cells.toList 0 cs (by simp;omega);simp only[ag7,ae7,J]at this;rw[<-this];rw[<-ahu];simp
  have q:(F'++Fr).Nodup:=by grind
  obtain⟨cs',t,O,A,z,M⟩:=BI l is ys k hl (cs:=v.cells.zipIdx.foldl (λcs(p:Value×Nat)=>cs.setIfInBounds (o+p.2) p.1) cs) (by rw[h];exact k1) d D q;refine⟨cs',t,?_,A,z,λb u=>?_⟩;simp only[List.zip_cons_cons,Instr.fill];simp_all
  grind
  cases d;cases d
def AY{α b c:Type}(l:L (α×b))(f:b->c):(l.map (·.1)).zip (l.map λp=>f p.2)=l.map λp=>(p.1,f p.2):=by grind
def DQ{M:L Nat}{d:Nat}{y:AV}{z:Value}{w':World}(h:Inv N V w0 S0 σ a w)(g:d<N)(e:Mv.runs σ [.make M d y]=some σ')(i:Below w.heap.size w w')
 (f:∀S F,aU S (cK V w0) σ (tv V a) w F->∃c,Rel w' S y z c/\c.Nodup/\∀b∈c,(∃m∈M,b∈F m)\/w.heap.size<=b/\b<w'.heap.size):
 Inv N V w0 S0 σ' (a.put (some d) z) w':=by
 simp[iD]at e;subst e;exact h.make g i f
def Nr{d t:Nat}(h:Inv N V w0 S0 σ a w)(hd:d<N)(f:Array (Nat×Operand))(O:(f.toList.map (·.2)).all aO=true){ti:TI}(J:ct P t=some ti){z cs:L AV}(hz:ti.zero=.agg z)
 {A:L (Nat×Nat)}(j:placesOf P t=some A){ys:L AV}{M:L Nat}(hg:gU (f.toList.map λp=>resolve σ p.2)=some (ys,M))(hf:uq A z ((f.toList.map (·.1)).zip ys)=some cs)
 (hr:Mv.runs σ [.make M d<|.agg cs]=some σ'):Good N V w0 S0 σ' a d ((Instr.build t<|f.map λ(i,x)=>(i,a.eval x)).run P w):=by
 obtain⟨i,u,zv,hi,hu,C,K,r,k,A0,E1,D⟩:=mn J;have R:gU ((f.toList.map (·.2)).map<|resolve σ)=some (ys,M):=by rw[aer];exact hg
 have g:∀S F,aU S (cK V w0) σ (tv V a) w F->∃cells l,P.built t (f.map λ(i,x)=>(i,a.eval x)).toList=some cells/\Cells w S true cs cells.toList l/\l.Nodup/\∀b∈l,∃m∈M,b∈F m:=by
  intro S F hc;obtain⟨Fy,g1,g2,g3⟩:=mM hc _ O R;have o:=iS w S zv D;rw[<-k,hz]at o;obtain⟨zc,rfl,H⟩:=o;have q:=Cells.length g1;obtain⟨Y,l,q1,q2,q3,q4⟩:=BI A (f.toList.map (·.1)) ys ((f.toList.map (·.2)).map a.eval) (by simp at q⊢;omega) H hf g1 g2;refine⟨Y,l,?_,q2,q3,λb hb=>?_⟩;unfold placesOf at j;split at j;rename_i fs T;unfold Program.built;simp only[hi,T,C,j];have e:(f.map λ(i,x)=>(i,a.eval x)).toList=(f.toList.map (·.1)).zip ((f.toList.map (·.2)).map a.eval):=by have:=AY f.toList a.eval;simpa[Function.comp_def]using this.symm
  rw[e];exact q1;cases j;simp_all
 have hI:=h;obtain⟨S,F,hc,-⟩:=h;obtain⟨cells,l,r1,r2,r3,r4⟩:=g S F hc;refine⟨.agg cells,w,run_build w t _ cells r1,DQ hI hd hr (.refl _ _) λS' c X=>?_⟩;obtain⟨s,Z,n,B0,y,v⟩:=g S' c X;rw[r1]at n;cases n;refine⟨Z,by simp only[Rel];simp_all,y,λb hb=>.inl<|v b hb⟩
end
section
variable{P:Program}{N:Nat}{w0 w:World}{V:Hid}{S S0:Nat->Prop}{B:Nat->Prop}{σ σ':St}{a:Act}{F:Nat->L Nat}
def Xr(w:World)(L:Loc):Prop:=∀a,L=.addr a->∃b,row? w a.block=some (b,(0,0))
def Rel.RK:∀(p:Path){x T y y':AV}{z:Value}{F:List Nat}{L L1:Loc},Rel w S x z F->holds w L z->Xr w L->bH x p=some y->ff x p y'=some T->
 loc w L p=some L1->Xr w L1
 |[],x,T,y,y',z,F,L,L1,h,m,M,e,hs,hl=>by simp[loc,aaP]at hl;subst hl;exact M
 |s::p,x,T,y,y',z,F,L,L1,h,m,M,e,hs,hl=>by
  unfold bH at e;split at e;rename_i f sz xs i X;split at e;rename_i Y;subst Y;cases f with
  |nil=>simp[ff]at hs
  |shr=>simp[ff]at hs
  |own=>
   obtain⟨xi,k,e⟩:=aaV.1 e;simp[ff,k,if_true,aeu,aeT]at hs;obtain⟨R,hs,rfl⟩:=hs;rcases h with⟨rfl,-,-⟩|⟨b,G5,D,F',rfl,H,hc,hm,Z,hE,rfl⟩;cases k;obtain⟨yi,A0,O,B0,rfl,hy,t,F0,G4,C⟩:=du.lens sz i hE k;have hA:At w ⟨b,i*sz,none⟩ yi:=gq H λj u hu=>by grind
   rw[loc,de m W I,cF,cv W]at hl;exact Rel.RK p (L:=.addr ⟨b,i*sz,none⟩) t hA (λa r=>by grind) e hs (by simpa using hl)
  ·cases e
  rename_i own x0;cases own with
  |false=>simp[ff]at hs
  |true=>simp[ff,aeT]at hs;obtain⟨G1,hs,rfl⟩:=hs;simp only[Rel,if_true]at h;obtain⟨b,D,fz,F',z0,rfl,H,t,G2,rfl,rfl⟩:=h;have hA:At w ⟨b,0,none⟩ z0:=gq H λj u hu=>fP;rw[loc,de m W I,cF]at hl;exact Rel.RK p (L:=.addr ⟨b,0,none⟩) t hA (λa r=>by grind) e hs (by simpa using hl)
  ·rename_i xs o;obtain⟨xo,J,e⟩:=aaV.1 e;simp[ff,J,aeu,aeT]at hs;obtain⟨G0,hs,rfl⟩:=hs;simp[Rel]at h;obtain⟨D,rfl,K⟩:=h;obtain⟨A,A0,O,B0,rfl,h1,t,g,C⟩:=Cells.lens o K J;have F1:=cells_one<|h1 W;have g:D[o]?=some A:=by simpa using g
   have d:∃v,step1 w L (.at o none)=some v/\holds w v A/\Xr w v:=by
    cases L with
    |val q=>simp[holds]at m;subst m;exact⟨.val A,by simp[step1,cF];simp[g],W,λa r=>by cases r⟩
    |addr a=>
     obtain⟨F2,E1⟩:=M a W;obtain⟨l,F3,fz,H,hc⟩:=m;refine⟨_,W,?_,?_⟩;rw[cv l];refine gq H λj u hu=>?_;rw[F1]at hu
     match j,hu with
     |0,hu=>cases hu;simpa[bK]using hc o A (by simpa[bK]using g)
     ·rw[cv l];intro a' r;grind
   obtain⟨v,e1,e2,e3⟩:=d;rw[loc,e1]at hl;exact Rel.RK p t e2 e3 e hs hl
  rename_i xs o n;split at e;rename_i E2;simp[ff,E2,if_true,aaV]at hs;obtain⟨F4,hs,G3⟩:=hs;simp[Rel]at h;obtain⟨D,rfl,K⟩:=h;obtain⟨A0,c,rfl,c1,c2⟩:=Cells.split o K;obtain⟨O,B0,rfl,d1,d2⟩:=Cells.split n c2;have t:Rel w S (.agg<|(xs.drop o).take n) (.agg<|D.extract o<|o+n) O:=by simp only[Rel];simp_all
  have d:∃v,step1 w L (.at o<|some n)=some v/\holds w v (.agg<|D.extract o<|o+n)/\Xr w v:=by
   cases L with
   |val q=>simp[holds]at m;subst m;exact⟨_,W,W,λa r=>by cases r⟩
   |addr a=>obtain⟨F2,E1⟩:=M a W;obtain⟨l,F3,fz,H,hc⟩:=m;refine⟨_,W,?_,?_⟩;rw[cv l];refine gq H λj u hu=>?_;rw[bK,ahr]at hu;split at hu;have:=hc (o+j) u (by rw[bK];exact hu);grind;cases hu;rw[cv l];intro a' r;grind
  obtain⟨v,e1,e2,e3⟩:=d;rw[loc,e1]at hl;exact Rel.RK p t e2 e3 e hs hl;cases e;rename_i xs i;obtain⟨xi,k,e⟩:=aaV.1 e;simp[ff,k,aeu,aeT]at hs;obtain⟨R,hs,rfl⟩:=hs;simp[Rel]at h;obtain⟨D,rfl,K⟩:=h;obtain⟨A,A0,O,B0,rfl,-,t,g,C⟩:=Cells.lens i K k;have g:D[i]?=some A:=by simpa using g
  have d:step1 w L (.bU i)=some (.val A):=by rw[de m W I];simp[cF,g]
  rw[loc,d]at hl;exact Rel.RK p (L:=.val A) t W (λa r=>by cases r) e hs hl;rename_i f sz xs X o n;cases f<;>simp[ff]at hs;cases e
def Gp{z:Value}(h:z.oneCell'=true):∀v∈z.cells.toList,v.oneCell'=true:=by rw[cells_one h];simp[h]
def KW{t:TypeId}{ti:TI}(i:ct P t=some ti){b off:Nat}{cs:Array Value}(j:row? w b=some (cs,(0,0))){f:Value}(g:f.cells.size=ti.size)(k:∀v∈f.cells.toList,v.oneCell'=true)
 (h:off+ti.size<=cs.size):∃w',(storeVar t ⟨b,off,none⟩ f).run P w=.ok () w'/\w'.heap.size=w.heap.size/\Below w.heap.size w w'=Below w.heap.size w w'/\(∀c,c≠b->w'.heap[c]?=w.heap[c]?)/\
   row? w' b=some ((cs.toList.take off++f.cells.toList++cs.toList.drop (off+ti.size)).toArray,(0,0))/\w'=w.setRow b (cs.toList.take off++f.cells.toList++cs.toList.drop (off+ti.size)).toArray:=by
 have hh:∃e,w.heap[b]?=some (.cells cs e (0,0)):=by
  unfold row? at j
  grind
 obtain⟨e,he⟩:=hh;have d:=run_storeCells_at P b off e f.cells.toList 0 cs w he (by simp;omega) k;simp only[ae7,g]at d;refine⟨_,?_,?_,W,λc hc=>?_,?_,W⟩;unfold storeVar;simp only[Sem.run_bind,dM i,Result.andThen_ok,g,ne_eq];exact d;simp;simp[World.setRow]
 grind
 have:=setRow_heap w b cs (cs.toList.take off++f.cells.toList++cs.toList.drop (off+ti.size)).toArray e (0,0) he;simp only[row?,this]
end
section
variable{P:Program}{N:Nat}{w0 w:World}{V:Hid}{S S0:Nat->Prop}{B:Nat->Prop}{σ σ':St}{a:Act}{F:Nat->L Nat}
section
variable{y:AV}{ys:L AV}{M:L Nat}{ts:L TypeId}{d t:Nat}{z:Value}
def J3{ti:TI}{b:L Nat}(e:fits ti y=true)(f:Rel w S y z b):∀v∈z.cells.toList,v.oneCell'=true:=by
 unfold fits at e;split at e;simp[Rel]at f;obtain⟨o,rfl,g⟩:=f;have:∀(c:L AV)(l:L Value)(b:L Nat),Cells w S true c l b->∀v∈l,v.oneCell'=true:=by
  intro c
  induction c with
  |nil=>intro l b h;simp[h.1]
  |cons x c j=>
   intro l b h;obtain⟨y,i,b,p,rfl,rfl,n,m,k⟩:=h
   grind
 exact this _ _ _ g;simp at e;exact Gp<|f.one e.2
def KF(h:Inv N V w0 S0 σ a w)(x y:Operand)(J:aO x=true)(H:aO y=true){ms:List Mv}
 (hm:v7 P t (resolve σ x) (resolve σ y)=some ms)(A:Mv.runs σ ms=some σ'):
 ∃w',(Instr.storeAt t (a.eval x)<|a.eval y).run P w=.ok () w'/\Inv N V w0 S0 σ' a w':=by
 unfold v7 at hm;split at hm;rename_i ti K;split at hm;rename_i r g1 g2 p av hx;split at hm;rename_i y0 C;split at hm;rename_i s;split at hm;rename_i y1 M Z;split at hm;rename_i m;cases hm;obtain⟨S,F,hc,hN,A0,R,O,E2⟩:=h;obtain⟨-,-,rfl,-,u⟩:=kQ hc x J hx;obtain⟨i,hl,he⟩:=u λ_=>⟨y0,C⟩;have hp:=xM C hl;simp[Mv.runs,Mv.run]at A;obtain⟨Fv,v,q2,q3⟩:=qz hc y H Z;split at A;rename_i F3 b;cases A;split at b;cases b;rename_i T;split at b;rename_i G3 f;cases b;obtain⟨z,hA,⟨F1,hz⟩,hB,l⟩:=hc.store r M p T hp C f hl v q2 q3;have F4:=vc (by simp[abi]at s;exact s.1) hz;have n:=vc m v;have j:Xr w (.addr i):=by have hR:=hc.rel r;rw[an.aC hp]at hR;exact Rel.RK p (L:=.val<|tv V a r) hR W (λa ha=>by cases ha) C f hl
 obtain⟨cs,g⟩:=j i W;obtain⟨G0,F0,fz,c,B0⟩:=hA;rw[g]at c;obtain⟨rfl,rfl⟩:cs=F0/\(0,0)=fz:=by simpa using c
 have F2:0<ti.size:=by grind
 have q:fits ti y0=true:=fP;have o:i.off+ti.size<=cs.size:=by
  have Y:z.cells[ti.size-1]?=some (z.cells[ti.size-1]'(by omega)):=aev _
  grind
 obtain⟨w',e1,e2,-,e3,e4,e5⟩:=KW (P:=P) K g n (J3 m v) o;obtain⟨F',E1⟩:=l E (λD=>by
  rcases ky q hz with⟨_,_,rfl,_⟩|⟨e,_⟩;simp[Value.oneCell']at D;rcases ky m v with⟨e',_⟩|⟨_,e'⟩;simp[e]at e';exact e') w' e2 e3 (λG2 G1 h0=>by
  grind)
 refine⟨w',?_,S,F',E1,hN,A0,R,O,?_⟩;have:i=⟨i.block,i.off,none⟩:=by cases i;simp_all
 unfold Instr.storeAt;rw[he];simp[Instr.sureAddr]
 grind
 rw[e5];exact E2.trans ⟨W,W,W,by simp[World.setRow],λk hk X=>setRow_other w i.block k _ λe=>yd hB (e▸hk) (e▸X)⟩;cases b;cases A;cases hm;cases hm;cases hm;cases hm;cases hm;cases hm
def DR{e:TypeId}(h:Inv N V w0 S0 σ a w)(k:d<N)(i:Mv.runs σ [.make M d<|.box true y]=some σ')
 (j:∀S F,aU S (cK V w0) σ (tv V a) w F->∃f,Rel w S y z f/\f.Nodup/\∀b∈f,∃m∈M,b∈F m):
 Inv N V w0 S0 σ' (a.put (some d)<|.pointer<|some ⟨w.heap.size,0,none⟩) (w.alloc<|.cells z.cells e):=by
 refine DQ h k i ((Below.refl _ _).alloc .refl _) λS F hc=>?_;obtain⟨f,o,n,l⟩:=j S F hc;have g:∀b∈f,b<w.heap.size:=λb c=>by obtain⟨m,_,hm⟩:=l b c;exact(hc.own m b hm).2.1
 refine⟨w.heap.size::f,?_,ad2.2 ⟨λc=>by have:=g _ c;omega,n⟩,λb c=>?_⟩;simp only[Rel];exact⟨w.heap.size,z.cells,(0,0),f,z,W,mK _ _ _,Rel.frame _ o λb c=>qn _ _<|by rcases c with c|c;exact hc.shr b c;exact g b c,W,W,W⟩;rcases abm.1 c with rfl|c
 all_goals simp_all
def Ny(h:Inv N V w0 S0 σ a w)(k:d<N){ti:TI}(f:ct P t=some ti)(j:Mv.runs σ [.make [] d<|.box true ti.zero]=some σ'):
 Good N V w0 S0 σ' a d ((Instr.alloc t true<|.tuple #[]).run P w):=by
 obtain⟨z,i,c,g,b⟩:=Dd f w;refine⟨_,_,?_,DR (z:=z) (e:=t) h k j λS F hc=>⟨[],by rw[c];exact iS w S z b,I,I⟩⟩;simp[Instr.alloc,i,newVar,newRow]
def Tz(h:Inv N V w0 S0 σ a w)(g:d<N)(x:Operand)(b:aO x=true)(f:eX (resolve σ x)=some (y,M))
 (c:Mv.runs σ [.make M d<|.box true y]=some σ'):Good N V w0 S0 σ' a d ((Instr.box t<|a.eval x).run P w):=by
 refine⟨_,_,?_,DR (z:=a.eval x) (e:=t) h g c λS F hc=>qz hc x b f⟩;rfl
def Cells.XH{ti:TI}:∀{ys:L AV}{one:Bool}{b:L Value}{F:L Nat},Cells w S one ys b F->ys.all (fits ti)=true->du w S ti.size ys (b.flatMap (·.cells.toList)) F
 |[],one,b,F,h,_=>by simp[Cells]at h;obtain⟨rfl,rfl⟩:=h;simp[du]
 |y::ys,one,b,F,h,c=>by obtain⟨z,j,i,g,rfl,rfl,k,e,f⟩:=h;simp only[ac4,abi]at c;exact⟨z,_,i,g,W,W,vc c.1 e,e,Cells.XH f c.2⟩
def Ev(size:Nat):∀(b:L Value)(k:Nat)(cs:Array Value),(∀v∈b,v.cells.size=size)->(k+b.length)*size<=cs.size->
 Instr.fill (λi=>some (i*size,size)) cs ((List.range' k b.length).zip b)=some (cs.toList.take (k*size)++b.flatMap (·.cells.toList)++cs.toList.drop ((k+b.length)*size)).toArray
 |[],k,cs,_,_=>by simp[Instr.fill]
 |v::b,k,cs,h,hl=>by
  simp[abo]at hl⊢;have e:=h v I;have m:(k+(b.length+1))*size=k*size+size+b.length*size:=by grind
  have l:(k+1+b.length)*size=k*size+size+b.length*size:=by grind
  have j:(k+1)*size=k*size+size:=by rw[adD];omega
  simp only[List.range'_succ,List.zip_cons_cons,Instr.fill,e,ne_eq,not_true,decide_false,ag8,decide_eq_true_eq];have c:(v.cells.zipIdx.foldl (λcs(p:Value×Nat)=>cs.setIfInBounds (k*size+p.2) p.1) cs).toList=cs.toList.take (k*size)++v.cells.toList++cs.toList.drop (k*size+size):=by have:=Aj (k*size) v.cells.toList 0 cs (by simp;omega);simp only[ag7,ae7,e]at this;rw[<-this];rw[<-ahu];simp
  have f:(v.cells.zipIdx.foldl (λcs(p:Value×Nat)=>cs.setIfInBounds (k*size+p.2) p.1) cs).size=cs.size:=by rw[<-ae7,c];simp[e];omega
  rw[Ev size b (k+1) _ (λx g=>h x<|by simp[g])<|by rw[f];omega,c,m,l,j];rw[ag9<|by simp[e];omega,acD<|by simp[e];omega,ahv,aew<|by simp[e];omega];simp[acU,ade,ae7,e,afQ,ahw,afy,acT];omega
def Cells.BG{size:Nat}:∀(b:L Value),(∀v∈b,v.cells.size=size)->(b.flatMap (·.cells.toList)).length=b.length*size
 |[],_=>I
 |v::b,h=>by simp[adD,Cells.BG b λx c=>h x<|by simp[c],h v I];omega
def Cells.Bc{ti:TI}:∀{ys:L AV}{one:Bool}{b:L Value}{F:L Nat},Cells w S one ys b F->ys.all (fits ti)=true->∀v∈b,v.cells.size=ti.size
 |[],one,b,F,h,_=>by simp[Cells]at h;simp[h.1]
 |y::ys,one,b,F,h,e=>by obtain⟨z,i,l,k,rfl,rfl,j,g,f⟩:=h;simp only[ac4,abi]at e;intro v c;rcases abm.1 c with rfl|c;exact vc e.1 g;exact Cells.Bc f e.2 v c
def Hy{ti:TI}{cs:Array Value}{c:Nat}{e:TypeId}(h:Inv N V w0 S0 σ a w)(p:d<N)(n:Mv.runs σ [.make M d<|.list .own ti.size ys]=some σ')(l:ys.length<=c)(k:c<=maxLen)(j:cs.size=c*ti.size)
 (o:∀S F,aU S (cK V w0) σ (tv V a) w F->∃g,du w S ti.size ys (cs.toList.take<|ys.length*ti.size) g/\g.Nodup/\∀b∈g,∃m∈M,b∈F m):
 Inv N V w0 S0 σ' (a.put (some d)<|.slice (some ⟨w.heap.size,0,none⟩) ys.length c) (w.alloc<|.cells cs e):=by
 refine DQ h p n ((Below.refl _ _).alloc .refl _) λS F hc=>?_;obtain⟨g,s,r,q⟩:=o S F hc;have i:∀b∈g,b<w.heap.size:=λb f=>by obtain⟨m,_,hm⟩:=q b f;exact(hc.own m b hm).2.1
 refine⟨w.heap.size::g,?_,ad2.2 ⟨λf=>by have:=i _ f;omega,r⟩,λb f=>?_⟩;simp only[Rel];exact .inr ⟨w.heap.size,c,cs,g,W,mK _ _ _,l,k,j,du.frame _ _ s λb f=>qn _ _<|by rcases f with f|f;exact hc.shr b f;exact i b f,W⟩;rcases abm.1 f with rfl|f
 all_goals simp_all
def AF{e n:Nat}(h:Inv N V w0 S0 σ a w)(hd:d<N)(f:Array (Nat×Operand))(o:(f.toList.map (·.2)).all aO=true){ti:TI}(he:dO P t=some e)(l:ct P e=some ti)
 (Z:gU (f.toList.map λp=>resolve σ p.2)=some (ys,M))(q:f.toList.map (·.1)=List.range n)(j:ys.all (fits ti)=true)(hn:n*ti.size<=2^24)(v:n<=maxLen)
   (Y:Mv.runs σ [.make M d<|.list .own ti.size ys]=some σ'):Good N V w0 S0 σ' a d ((Instr.buildSlice t n<|f.map λ(i,x)=>(i,a.eval x)).run P w):=by
  have r:gU ((f.toList.map (·.2)).map<|resolve σ)=some (ys,M):=by rw[aer];exact Z
  obtain⟨z,X,T,R,O⟩:=Dd l w;have g:f.size=n:=by have:=aaf List.length q;simpa using this
  have hI:=h;obtain⟨S,F,hc,-⟩:=h;obtain⟨Fy,g1,g2,g3⟩:=mM hc _ o r;have m:=Cells.Bc g1 j;have u:=Cells.length g1;simp[ae7]at u;have k:(f.map λ(i,x)=>(i,a.eval x)).toList=(List.range' 0 ((f.toList.map (·.2)).map a.eval).length).zip ((f.toList.map (·.2)).map a.eval):=by
   have:=AY f.toList a.eval;rw[q]at this;simp[g];rw[<-List.range_eq_range']
   grind
  have s:=Cells.BG _ m;simp only[acx,ae7,g]at s;have b:∀base:Array Value,base.size=n*ti.size->Instr.fill (λi=>some (i*ti.size,ti.size)) base (f.map λ(i,x)=>(i,a.eval x)).toList=some (((f.toList.map (·.2)).map a.eval).flatMap (·.cells.toList)).toArray:=by intro base hb;rw[k,Ev ti.size _ 0 base m<|by simp[g,hb]];simp_all
  refine⟨.slice (some ⟨w.heap.size,0,none⟩) ys.length n,_,?_,Hy (e:=e) hI hd Y E v (c:=n) (cs:=(((f.toList.map (·.2)).map a.eval).flatMap (·.cells.toList)).toArray) (by simpa using s) λS' F' A=>?_⟩;have hu:=jA he;unfold Instr.buildSlice;simp only[Sem.run_bind,run_underlying hu,Result.andThen_ok,dM l];rw[aaq E];by_cases C:n*ti.size=0;simp only[C,if_true,Sem.run_bind,Sem.run_pure,Result.andThen_ok];have:=b ((Array.range 0).map ((#[]:Array Value)[·%(#[]:Array Value).size]!)) (by simp[C]);simp only[this];simp[newRow];omega;simp only[C,if_false,Sem.run_bind,X,Sem.run_pure,Result.andThen_ok];have:=b ((Array.range<|n*ti.size).map (z.cells[·%z.cells.size]!)) I;simp only[this];simp[newRow];omega;obtain⟨K,J,H,D⟩:=mM A _ o r;refine⟨K,?_,H,D⟩;have:=Cells.XH J j
  grind
def qY(z:Array Value):∀n,(madeCells z<|n*z.size).toList=(List.replicate n z.toList).flatten
 |0=>by simp[madeCells]
 |n+1=>by
  rw[agL,List.flatten_cons,<-qY z n];simp[madeCells];rw[show(n+1)*z.size=z.size+n*z.size by rw[adD];omega,List.range_add,acB,aer]
  congr 1
  apply agG;intro j;simp;by_cases b:j<z.size;rw[aev b];simp[afz b,b];simp_all;simp
def vN{x:AV}{z:Value}{sz:Nat}(h:Rel w S x z [])(hs:z.cells.size=sz):∀n,du w S sz (List.replicate n x) (List.replicate n z.cells.toList).flatten []
 |0=>by simp[du]
 |n+1=>by exact⟨z,_,[],[],W,W,hs,h,vN h hs n⟩
def Cb{e:Nat}(h:Inv N V w0 S0 σ a w)(hd:d<N)(l c:Operand)(hl:aO l=true)(D:aO c=true){ti:TI}(he:dO P t=some e)(g:ct P e=some ti)
 {k K:IntKind}{x y:Int}(h1:(resolve σ l).cont=some (.v<|.int k x))(h2:(resolve σ c).cont=some (.v<|.int K y))(H:0<=x/\x<=y/\y*ti.bytes<=140737488355328/\y<=maxLen/\0<ti.size)
 (R:Mv.runs σ [.make [] d<|.list .own ti.size<|List.replicate x.toNat ti.zero]=some σ'):Good N V w0 S0 σ' a d ((Instr.makeSlice t (a.eval l)<|a.eval c).run P w):=by
 obtain⟨z,hz,s,f,r⟩:=Dd g w;obtain⟨i,u,b,p,Z,o,n,Y,X,T⟩:=mn g;have hu:=jA he;have hI:=h;obtain⟨S,F,hc,-⟩:=h;rw[dJ hc l hl h1,dJ hc c D h2];have q:b=z:=by
  have:(zeroValue e).run P w=.ok b w:=by simp[zeroValue,typeInfo,p,o]
  simp_all
 subst q;have j:=run_make (P:=P) w t e i b hu p o k K x y H.1 H.2.1 (by grind) (by have:=H.2.2.2.1;simp[maxLen]at this;omega);have C:y.toNat<=maxLen:=E;have A:(madeCells b.cells<|y.toNat*i.size).size=y.toNat*ti.size:=by rw[size_madeCells,n]
 refine⟨_,_,j,?_⟩;have key:=Hy (e:=e) hI hd R (cs:=madeCells b.cells<|y.toNat*i.size) (c:=y.toNat) (by simp;omega) C A λJ F' A0=>⟨[],?_,I,I⟩;simpa using key;have m:Rel w J ti.zero b []:=by rw[s];exact iS w J b r
 have:=vN (S:=J) (w:=w) m f x.toNat;have O:y.toNat=x.toNat+(y.toNat-x.toNat):=E;rw[<-n,<-f,qY,O,<-List.replicate_append_replicate,List.flatten_append];rw[ag9 I,acD I];exact f▸this
def SS{ty:Nat}(h:Inv N V w0 S0 σ a w)(j:d<N)(x:Operand)(g:aO x=true){c:L Mv}(hm:lG P d .len (t::ts) [resolve σ x]=some c)(i:Mv.runs σ c=some σ'):
 Good N V w0 S0 σ' a d ((Builtin.len_ (t::ts).toArray ty #[a.eval x]).run P w):=by
 obtain⟨S,F,hc,-⟩:=id h;simp[lG]at hm;split at hm;rename_i s b;split at hm;rename_i hu;cases hm;refine fi (z:=.int .i64 s.size) h j i ?_ (λS F _=>by simp[Rel,scalar]);rw[dJ hc x g b];simp[Builtin.len_,run_underlying hu,goInt];cases hm;rename_i f sz k b;split at hm;rename_i e hu;cases hm;refine fi (z:=.int .i64 k.length) h j i ?_ (λS F _=>by simp[Rel,scalar]);obtain⟨p,m,-⟩:=aV hc x g b;obtain⟨o,n,l,-⟩:=m.kJ;rw[l];simp[Builtin.len_,run_underlying hu,goInt];cases hm;cases hm
def SG{ty:Nat}(h:Inv N V w0 S0 σ a w)(g:d<N)(x y:Operand)(e:aO x=true)(c:aO y=true){b:L Mv}(hm:lG P d .min ts [resolve σ x,resolve σ y]=some b)(f:Mv.runs σ b=some σ'):
 Good N V w0 S0 σ' a d ((Builtin.min_ ts.toArray ty #[a.eval x,a.eval y]).run P w):=by
 obtain⟨S,F,hc,-⟩:=id h;simp[lG]at hm;split at hm;rename_i k u l v j i;split at hm;rename_i m;cases hm;refine fi (z:=.int k<|min u v) h g f ?_ (λS F _=>by simp[Rel,scalar]);rw[dJ hc x e j,dJ hc y c i,run_min_int2]
 grind
 cases hm;cases hm
def SK{ty:Nat}(h:Inv N V w0 S0 σ a w)(g:d<N)(x y:Operand)(e:aO x=true)(c:aO y=true){b:L Mv}(hm:lG P d .max ts [resolve σ x,resolve σ y]=some b)(f:Mv.runs σ b=some σ'):
 Good N V w0 S0 σ' a d ((Builtin.max_ ts.toArray ty #[a.eval x,a.eval y]).run P w):=by
 obtain⟨S,F,hc,-⟩:=id h;simp[lG]at hm;split at hm;rename_i k u l v j i;split at hm;rename_i m;cases hm;refine fi (z:=.int k<|max u v) h g f ?_ (λS F _=>by simp[Rel,scalar]);rw[dJ hc x e j,dJ hc y c i,run_max_int2]
 grind
 cases hm;cases hm
def Bz(h:aU S B σ (tv V a) w F):∀(xs:L Operand),xs.all aO=true->∀{ys:L AV},iH (xs.map<|resolve σ)=some ys->
 ∀{S':Nat->Prop},(∀b,S b\/(∃i,b∈F i)->S' b)->Cells w S' false ys (xs.map a.eval) []
 |[],_,ys,hl,S',_=>by simp[iH]at hl;subst hl;simp[Cells]
 |x::xs,e,ys,hl,S',j=>by simp only[ac4,abi]at e;simp[iH]at hl;split at hl;rename_i y k c l;cases hl;unfold Y1 at c;split at c;rename_i m f;cases c;obtain⟨n,k1,k2⟩:=aV h x e.1 f;exact⟨_,_,[],[],W,W,I,Rel.share (λb g=>j b<|.inl g) _ k1 λb g=>j b<|.inr<|k2.1 b g,Bz h xs e.2 l j⟩;cases c;cases hl
end
end
section
variable{P:Program}{N:Nat}{w0 w w':World}{V:Hid}{S S0 S':Nat->Prop}{B:Nat->Prop}{σ σ':St}{a:Act}{F:Nat->L Nat}
mutual
theorem Rel.Tn:∀(x:AV){y z:Value}{F F':List Nat},Rel w S x y F->Rel w S' x z F'->y.cells=z.cells->F=F'
 |.v _,y,z,F,F',h,k,_=>by simp[Rel]at h k;rw[h.2.2,k.2.2]
 |.list .nil _ _,y,z,F,F',h,k,_=>by simp[Rel]at h k;rw[h.2.2,k.2.2]
 |.list .shr _ _,y,z,F,F',h,k,_=>by rcases h with⟨-,-,h⟩|⟨_,_,_,_,_,_,_,_,_,_,h⟩<;>rcases k with⟨-,-,k⟩|⟨_,_,_,_,_,_,_,_,_,_,k⟩<;>rw[h,k]
 |.list .own sz xs,y,z,F,F',h,k,e=>by rcases h with⟨rfl,rfl,rfl⟩|⟨b,cap,cs,d,rfl,m,-,-,-,g,rfl⟩<;>rcases k with⟨k0,rfl,rfl⟩|⟨O,t,cs',R,rfl,k1,-,-,-,k2,rfl⟩;rfl;simp[Value.cells]at e;simp[Value.cells]at e;obtain⟨rfl,rfl⟩:=e;rw[m]at k1;simp[aaP,acQ,aag]at k1;subst k1;rw[du.Tn sz xs g k2]
 |.box own x,y,z,F,F',h,k,e=>by
  obtain⟨b,cs,X,d,u,rfl,m,g,j,r⟩:=h;obtain⟨O,cs',K,R,T,rfl,k1,k2,k3,k4⟩:=k;simp[Value.cells]at e;subst e;rw[m]at k1;cases k1;have:=Rel.Tn x g k2 (by rw[j,k3])
  grind
 |.agg xs,y,z,F,F',h,k,e=>by obtain⟨cs,rfl,h⟩:=h;obtain⟨cs',rfl,k⟩:=k;simp[Value.cells]at e;subst e;exact Cells.Tn xs h k
 |.bU xs,y,z,F,F',h,k,e=>by simp[Rel]at h k;obtain⟨cs,rfl,h⟩:=h;obtain⟨cs',rfl,k⟩:=k;simp[Value.cells]at e;subst e;exact Cells.Tn xs h k
 |.fn f p q,y,z,F,F',h,k,e=>by simp only[Rel]at h k;obtain⟨a,c,C,A,rfl,m,g,rfl⟩:=h;obtain⟨Z,Y,o,n,rfl,k1,k2,rfl⟩:=k;simp[Value.cells]at e;obtain⟨rfl,rfl⟩:=e;rw[Cells.Tn p m k1,Cells.Tn q g k2]
 |.bw ..,_,_,_,_,h,_,_=>by simp[Rel]at h
 |.pv _,_,_,_,_,h,k,_=>by simp[Rel]at h k;rw[h.2,k.2]
 |.abs _,_,_,_,_,h,_,_=>by simp[Rel]at h
 |.gI ..,_,_,_,_,h,_,_=>by simp[Rel]at h
 |.ob J,y,z,F,F',h,k,e=>by rw[h.2.1,k.2.1];unfold qp;rw[e]
 |.ptr ..,_,_,_,_,h,_,_=>by simp[Rel]at h
 |.hole,y,z,F,F',h,k,_=>by simp[Rel]at h k;rw[h.2,k.2]
 |.dead,y,z,F,F',h,k,_=>by simp[Rel]at h k;rw[h,k]
theorem Cells.Tn:∀(xs:List AV){one i:Bool}{l:List Value}{F F':List Nat},Cells w S one xs l F->Cells w S' i xs l F'->F=F'
 |[],_,_,l,F,F',h,k=>by simp[Cells]at h k;rw[h.2,k.2]
 |x::xs,_,_,l,F,F',h,k=>by simp only[Cells]at h k;obtain⟨y,H,C,A,rfl,rfl,-,j,r⟩:=h;obtain⟨D,s,o,n,e,rfl,-,k3,k4⟩:=k;simp[List.cons.injEq]at e;obtain⟨rfl,rfl⟩:=e;rw[Rel.Tn x j k3 W,Cells.Tn xs r k4]
theorem du.Tn(sz:Nat):∀(xs:List AV){l:List Value}{F F':List Nat},du w S sz xs l F->du w S' sz xs l F'->F=F'
 |[],l,F,F',h,k=>by simp[du]at h k;rw[h.2,k.2]
 |x::xs,l,F,F',h,k=>by simp only[du]at h k;obtain⟨y,H,C,A,rfl,rfl,g,j,r⟩:=h;obtain⟨D,s,o,n,e,rfl,k2,k3,k4⟩:=k;obtain⟨M,rfl⟩:=List.append_inj e (by simp[g,k2]);rw[Rel.Tn x j k3<|by simpa using M,du.Tn sz xs r k4]
end
def oa(h:aU S B σ (tv V a) w F){S1:Nat->Prop}(l:∀b,S b->S1 b):∀(xs:List Operand),xs.all aO=true->∀{ys:List AV},iH (xs.map<|resolve σ)=some ys->
 (∀m∈shares (xs.map<|resolve σ),∃r p,m=.share r p/\∀y z L j,bH (σ r).av p=some y->loc w (.val<|tv V a r) p=some L->holds w L z->(∀u,L=.addr u->z.oneCell'=true)->Rel w S y z j->∀b∈j,S1 b)->
 Cells w S1 false ys (xs.map a.eval) []
 |[],_,ys,hl,_=>by simp[iH]at hl;subst hl;simp[Cells]
 |x::xs,g,ys,hl,hm=>by
  simp only[ac4,abi]at g;simp[iH]at hl;split at hl;rename_i y n i t;cases hl;unfold Y1 at i;split at i;rename_i o d;cases i;obtain⟨j,k1,k2,-⟩:=aV h x g.1 d;simp[shares,d]at hm;have c:=oa h l xs g.2 t (λm s=>hm m (by grind))
  refine⟨_,_,[],[],W,W,I,Rel.share l _ k1 λb k=>?_,c⟩;by_cases f:o.aK=true;rw[Rel.aK _ k1 f]at k;cases k;rw[aaq f]at hm;split at hm;rename_i r g1 g2 p q;obtain⟨v,C,e,hm⟩:=hm _<|ahW ..;obtain⟨rfl,rfl⟩:=e;obtain⟨A,-,-,-,-,-,L,J,H,D⟩:=jF h x g.1 d q
  grind
  simp_all;cases i;cases hl
def Below.row{w w':World}{n:Nat}(h:Below n w w'){b:Nat}(c:b<n):w'.heap[b]?=w.heap[b]?:=h.block b c
def aU.after(h:aU S B σ (tv V a) w F)(f:Below w.heap.size w w')(j:∀b,S b->S' b)(k:∀b,S' b->S b\/w.heap.size<=b)(g:∀b,S' b->b<w'.heap.size):aU S' B σ (tv V a) w' F:=by
 have d:∀b,(S b\/∃i,b∈F i)->w'.heap[b]?=w.heap[b]?:=λb c=>Below.row f (by rcases c with c|⟨i,c⟩;exact h.shr b c;exact(h.own i b c).2.1);refine h.step (S':=S') ⟨λr=>.refl,λr=>.refl,λr _=>rfl,λr _ _=>⟨λp y e=>⟨y,e⟩,λb c=>d b<|c.elim .inl λc=>.inr ⟨r,c⟩⟩⟩ j
  (λi=>.inl ⟨W,W,W,λb c=>d b<|c.elim .inl λc=>.inr ⟨i,c⟩⟩) h.nodup h.di (λi b c=>?_) g
 obtain⟨k1,k2,k3⟩:=h.own i b c
 grind
def Inv.end{d:Q Nat}{y:AV}{z:Value}{n:L Nat}(H:∀x,d=some x->x<N)(t:a.tmps.size=N)(o:a.defers=V.df)(hc:aU S (cK V w0) σ (tv V a) w F)
 (c:Below w.heap.size w w')(m:mb V w0 w)(D:∀b,S b->S' b)(C:∀b,S' b->S b\/w.heap.size<=b)(A:∀b,S' b->b<w'.heap.size)
 (O:∀b,S0 b->S b)(M:∀b,S b->S0 b\/cK V w0 b)(u:Rel w' S' y z n)(hn:n.Nodup)(K:∀b∈n,w.heap.size<=b/\b<w'.heap.size/\¬S' b)
 (f:Mv.runs σ (dz d y [])=some σ'):Inv N V w0 S0 σ' (a.put d z) w':=by
 have l:=hc.after c D C A;have p:=m.P7 c;have k:(∀b,S0 b->S' b)/\(∀b,S' b->S0 b\/cK V w0 b):=⟨λb c=>D b<|O b c,λb c=>(C b c).elim (M b) λh=>.inr<|m.new b h⟩;cases d with
 |none=>simp[dz,Mv.runs]at f;subst f;exact⟨S',F,l,t,o,k.1,k.2,p⟩
 |some d=>
  simp[dz,iD]at f;subst f;refine⟨S',λi=>if i=d then n else if i∈([]:L Nat)then[]else F i,?_,by rw[size_put];exact t,by rw[eQ];exact o,k.1,k.2,p⟩;rw[lL<|by rw[t];exact H d W];have v:=λi b c=>(hc.own i b c).2.1;have q:∀i,∀b∈F i,b∉n:=λi b c J=>by grind
  refine l.step (w':=w') (S':=S') ⟨λr=>?_,λr=>?_,λr g=>?_,λr g _=>?_⟩ (λ_ h=>h) (λi=>?_) (λi=>?_) (λi j s b c=>?_) (λi b c=>?_) A;unfold made
  grind
  unfold made
  grind
  unfold made at g;split at g;simp_all;rename_i e;rw[ar _ _ e];unfold made at g⊢
  grind
  by_cases e:i=d;subst e;right;rw[an.aC<|by unfold made;simp;exact u.plain];simp[made,aI];exact u;left;simp only[made,e,if_false,ae8];exact⟨U,ar _ _ e,U,λ_ _=>trivial⟩;show(if i=d then n else if i∈([]:L Nat)then[]else F i).Nodup;split;exact hn;simp;exact hc.nodup i;simp at c⊢;split at c
  grind
  split;exact q i b c;exact hc.di i j s b c;simp at c;split at c;have:=K b c;exact⟨m.new b E,this.2.1,this.2.2⟩;exact l.own i b c
def Bd(h:aU S B σ (tv V a) w F):∀(xs:L Operand),xs.all aO=true->∀m∈shares (xs.map<|resolve σ),m=.take 0 0 []\/∃r p,m=.share r p/\(σ r).av.plain=true
 |[],_,m,hm=>by simp[shares]at hm
 |x::xs,b,m,hm=>by
  simp only[ac4,abi]at b;have d:=Bd h xs b.2 m;simp[shares]at hm;split at hm;rename_i y c;split at hm;exact d hm;split at hm;rename_i r g1 g2 p e;obtain⟨-,-,-,-,-,f,-⟩:=jF h x b.1 c e
  grind
  grind
  grind
def MP(d:Q Nat)(b:AV)(c:L Mv):dz d b c=c++dz d b []:=by cases d<;>simp[dz]
def Be(σ:St):∀(l m:L Mv),Mv.runs σ (l++m)=(Mv.runs σ l).bind (Mv.runs · m)
 |[],m=>rfl
 |x::l,m=>by
  simp[Mv.runs];cases x.run σ with
  |none=>rfl
  |some b=>exact Be b l m
def Fg{d:Q Nat}(hG:lE P V w0)(h:Inv N V w0 S0 σ a w)(hd:∀x,d=some x->x<N)(f:Operand)(hf:aO f=true)(asx:L Operand)(R:asx.all aO=true){n:AV}{ms:L Mv}{kG:L Obl}
 (hm:Fh d (resolve σ f) (asx.map<|resolve σ) n=some (ms,kG))(hr:Mv.runs σ ms=some σ')(hs:∀o∈kG,Sound P o.1 o.2.1 o.2.2):
 ∃g first captured,a.eval f=.func (.func g) first captured/\qD P g (first++(asx.map a.eval).toArray++captured) w λv w'=>Inv N V w0 S0 σ' (a.put d v) w':=by
 obtain⟨S,F,hc,hN,A0,Y,X,O⟩:=h;unfold Fh at hm;split at hm
 ·rename_i g first captured G1
  split at hm
  ·rename_i Z;simp[abi]at Z;split at hm
   ·rename_i ys hl;obtain⟨Ff,q1,-⟩:=aV hc f hf G1;obtain⟨af,cf,F1,F2,qe,qa,qc,-⟩:=q1;have G4:=Cells.aK _ qa Z.1;have G3:=Cells.aK _ qc Z.2;subst G4 G3;refine⟨g,af,cf,qe,?_⟩;have main:∀(S1:Nat->Prop),(∀b,S b->S1 b)->(∀b,S1 b->b<w.heap.size)->Cells w S1 false ys (asx.map a.eval) []->Sound P g (first++ys++captured) n->
     qD P g (af++(asx.map a.eval).toArray++cf) w λv w'=>∃S' F',Below w.heap.size w w'/\(∀b,S1 b->S' b)/\(∀b,S' b->S1 b\/w.heap.size<=b)/\(∀b,S' b->b<w'.heap.size)/\
      Rel w' S' n v F'/\F'.Nodup/\∀b∈F',w.heap.size<=b/\b<w'.heap.size/\¬S' b:=by
     intro S1 hS G2 t H;have M:Cells w S1 false (first++ys++captured) (af.toList++asx.map a.eval++cf.toList) ([]++[]++[]):=Cells.append (Cells.append (Cells.mono hS _ qa) t) (Cells.mono hS _ qc)
     have:=H w S1 _ (hG.L3 O) G2 (by simpa using M);have e:(af.toList++(asx.map a.eval++cf.toList)).toArray=af++(asx.map a.eval).toArray++cf:=by simp
     simp_all
    split at hm
    ·rename_i B0;split at hm
     ·rename_i F3;cases hm;have t:=oa hc (S1:=S) (λ_ h=>h) asx R hl (by rw[F3];simp);have:=main S (λ_ h=>h) hc.shr t<|hs (g,first++ys++captured,n) I;intro rd o a' next c hK
      refine this rd o a' next c λv w'⟨S',F',k1,k2,k3,k4,k5,k6,k7⟩=>hK v w' ?_
      exact Inv.end hd hN A0 hc k1 O k2 k3 k4 Y X k5 k6 k7 hr
     ·rename_i m T;cases hm;rw[MP,Be]at hr;obtain⟨H1,A,F4⟩:=aaV.1 hr;have K:∃r p,m=.share r p/\(σ r).av.plain=true:=by
       rcases Bd hc asx R m (by rw[T];simp)with rfl|h;simp[Mv.runs,Mv.run]at A;exact h
      obtain⟨r,p,rfl,G0⟩:=K;simp[Mv.runs,Mv.run]at A;split at A
      ·rename_i G5 s;cases A;split at s
       ·rename_i y hg;split at s
        ·rename_i H3 E1;cases s;obtain⟨j,z,k,F',k1,k2,k3,k4,k5⟩:=hc.share r p G0 hg E1;have F0:∀b∈k,cK V w0 b:=λb l=>(hc.own r b<|k5 b l).1;have t:=oa hc (S1:=λb=>S b\/b∈k) (λ_ h=>.inl h) asx R hl (by
          rw[T];intro m hm;simp[af9]at hm;subst hm;refine⟨r,p,W,λy' z' L' F1 e1 e2 e3 e4 u b l=>?_⟩;rw[hg]at e1;cases e1;rw[k1]at e2;cases e2;have hz:z'=z:=by
           cases j with
           |val q=>simp[holds]at k2 e3;rw[k2,e3]
           |addr ad=>
            have ho:=e4 ad W;have D:z.oneCell'=true\/F1=[]:=by
             cases y with
             |agg xs=>simp[Rel]at u;obtain⟨cs,rfl,-⟩:=u;simp[Value.oneCell']at ho
             |bU xs=>simp[Rel]at u;obtain⟨cs,rfl,-⟩:=u;simp[Value.oneCell']at ho
             |dead=>simp[Rel]at u;exact .inr u
             |v x=>exact .inl (k3.one W)
             |list f sz xs=>exact .inl (k3.one W)
             |box o x=>exact .inl (k3.one W)
             |fn f x y=>exact .inl (k3.one W)
             |hole=>exact .inl (k3.one W)
             |bw=>simp[Rel]at u
             |ptr=>simp[Rel]at u
             |pv C=>simp[Rel]at u;exact .inr u.2
             |abs J=>simp[Rel]at u
             |gI g G6=>simp[Rel]at u
             |ob J=>exact .inl k3.1
            rcases D with D|D;have e1:=At.cell k2<|cells_one D;have e2:=At.cell e3<|cells_one ho;simp_all;subst D;cases l
          subst hz;rw[Rel.Tn _ u k3 W]at l;exact .inr l)
         have:=main (λb=>S b\/b∈k) (λ_ h=>.inl h) k4.shr t<|hs (g,first++ys++captured,n) I;intro rd o a' next c hK
         refine this rd o a' next c λv w'⟨S',H4,l1,l2,l3,l4,l5,l6,l7⟩=>hK v w' ?_
         exact Inv.end hd hN A0 k4 l1 O l2 l3 l4 (λb l=>.inl<|Y b l) (λb l=>l.elim (X b) λl=>.inr<|F0 b l) l5 l6 l7 F4
        cases s
       cases s
      cases A
     cases hm
    rename_i B0;cases hm;have t:=Bz hc asx R hl (S':=λb=>S b\/∃i,b∈F i) λb l=>l;have:=main (λb=>S b\/∃i,b∈F i) (λ_ h=>.inl h) (λb l=>by rcases l with l|⟨i,l⟩;exact hc.shr b l;exact(hc.own i b l).2.1) t<|hs (g,first++ys++captured,n) I;intro rd o a' next c hK
    refine this rd o a' next c λv w'⟨S',F',k1,k2,k3,k4,k5,k6,k7⟩=>hK v w' ?_
    have E2:n.da=true:=by simpa using B0
    have H2:=hc.shr;exact Inv.end (S':=S) hd hN A0 hc k1 O (λ_ h=>h) (λ_ h=>.inl h) (λb l=>acW (hc.shr b l) k1.size) Y X (Rel.da n k5 E2) k6
     (λb l=>⟨(k7 b l).1,(k7 b l).2.1,λhS=>by grind⟩) hr
   cases hm
  cases hm
 cases hm
end
def gM(N:Nat)(o:Oper):Bool:=
 (match o.dst with|some d=>decide (d<N)|none=>true)&&
 match o.op with
 |.move x|.assign x|.box _ x|.nilCheck x|.unOp _ _ x|.convert _ _ x|.field _ x _|.extract x _=>aO x
 |.store _ x y=>aO x&&aO y
 |.load _ x|.fieldAddr _ x _=>aO x
 |.pick c x y=>aO c&&aO x&&aO y
 |.build _ b|.buildSlice _ _ b=>(b.toList.map (·.2)).all aO
 |.binOp _ _ x y _|.makeSlice _ x y|.indexAddr _ x y|.index _ x y=>aO x&&aO y
 |.makeFunc _ p q=>p.toList.all aO&&q.toList.all aO
 |.slice _ x l h m=>aO x&&l.all aO&&h.all aO&&m.all aO&&(m.isNone||h.isSome)
 |.call c=>c.args.toList.all aO&&(match c.callee with|.value f=>aO f|_=>true)
 |.lookup _ m x _=>aO m&&aO x
 |_=>true
section
variable{P:Program}{N:Nat}{w0 w w':World}{V:Hid}{S S0 S':Nat->Prop}{B:Nat->Prop}{σ σ':St}{a:Act}{F:Nat->L Nat}{K:Act->World->Prop}{Q:Exit->Act->World->Prop}
def tc{o:Oper}{d:Nat}(f:o.dst=some d){s:Sem Value}(he:execOp a.eval o=(do pure (.value<|←s)))(e:Good N V w0 S0 σ' a d (s.run P w))(g:∀b w',Inv N V w0 S0 σ' b w'->K b w'):Oper.T3 V.rd P o a w K Q:=by obtain⟨v,w',c,hi⟩:=e;refine fK (v:=v) (w':=w') ?_ ?_;rw[he];simp[c];rw[f];simp_all
def XJ{o:Oper}{d:Nat}(f:o.dst=some d){s:Sem Value}(he:(execOp a.eval o).run P w=(s.run P w).andThen λv w'=>.ok (.value v) w')(e:Good N V w0 S0 σ' a d (s.run P w))(g:∀b w',Inv N V w0 S0 σ' b w'->K b w'):Oper.T3 V.rd P o a w K Q:=by obtain⟨v,w',c,hi⟩:=e;refine fK (v:=v) (w':=w') ?_ ?_;rw[he,c];rfl;rw[f];simp_all
def dC{m:Option (L Mv)}{b:L Mv}{kG:L Obl}(h:gS m=some (b,kG)):m=some b/\kG=[]:=by
 unfold gS at h
 grind
def yh:∀{xs ys:L cx}{a b:L AV},iH xs=some a->iH ys=some b->iH (xs++ys)=some (a++b)
 |[],ys,a,b,c,d=>by simp[iH]at c;subst c;exact d
 |x::xs,ys,a,b,c,d=>by simp[iH]at c;split at c;rename_i y g f e;cases c;simp[iH,f,yh e d];cases c
def yg:∀{xs:L cx}{a:L AV},iH xs=some a->a.length=xs.length
 |[],a,b=>by simp[iH]at b;subst b;rfl
 |x::xs,a,b=>by simp[iH]at b;split at b;rename_i y e d c;cases b;simp[yg c];cases b
def ry{one:Bool}:∀{c b:L AV}{l m:L Value},c.length=l.length->Cells w S one (c++b) (l++m) []->Cells w S one c l []/\Cells w S one b m []
 |[],b,[],m,_,h=>⟨by simp[Cells],h⟩
 |[],b,y::l,m,e,h=>by cases e
 |x::c,b,[],m,e,h=>by cases e
 |x::c,b,y::l,m,e,h=>by obtain⟨y',k,o,n,j,i,g,f,d⟩:=h;obtain⟨rfl,rfl⟩:=j;obtain⟨rfl,rfl⟩:=aga.1 i.symm;obtain⟨k1,k2⟩:=ry (by simpa using e) d;exact⟨⟨y,l,[],[],W,W,g,f,k1⟩,k2⟩
def afp{α:Type}{x:Array α}{a:α}(h:x.toList=[a]):x=#[a]:=by grind
def afo{α:Type}{x:Array α}{a b:α}(h:x.toList=[a,b]):x=#[a,b]:=by grind
def TB(h:Inv N V w0 S0 σ a w){o:Oper}{d:Nat}(p:d<N)(k:o.dst=some d){c:Call}(cF:o.op=.call c){b:Builtin}(hc:c.callee=.builtin b)(g:c.args.toList.all aO=true){v:L Mv}
 (hm:lG P d b c.argTypes.toList (c.args.toList.map<|resolve σ)=some v)(n:Mv.runs σ v=some σ')(q:∀A w',Inv N V w0 S0 σ' A w'->K A w'):Oper.T3 V.rd P o a w K Q:=by
 generalize r:c.argTypes.toList=l at hm;have j:c.argTypes=l.toArray:=by rw[<-r]
 cases hl:c.args.toList with
 |nil=>rw[hl]at hm;simp[lG]at hm
 |cons x i=>
  rw[hl]at hm g;simp only[ac4,abi]at g;cases i with
  |nil=>
   have f:=afp hl;cases b<;>try(simp[lG]at hm;done)
   cases l with
   |nil=>simp[lG]at hm
   |cons t l=>refine XJ (s:=Builtin.len_ c.argTypes o.type #[a.eval x]) k ?_ ?_ q;simp[execOp,cF,Go.resolve,hc,f,invoke,builtin];rw[j];exact SS h p x g.1 hm n
  |cons y i=>
   simp[ac4,abi]at g;cases i with
   |nil=>
    have f:=afo hl;cases b<;>try(simp[lG]at hm;done)
    cases l with
    |nil=>simp[lG]at hm
    |cons t l=>cases l with
     |nil=>simp[lG]at hm
     |cons C l=>cases l with
      |cons _ _=>simp[lG]at hm
      |nil=>
       simp[lG,acK,afu]at hm;split at hm;rename_i D u;refine XJ (s:=Builtin.append_ c.argTypes o.type #[a.eval x,a.eval y]) k ?_ ?_ q;simp[execOp,cF,Go.resolve,hc,f,invoke,builtin];rw[j];cases m:dO P t with
       |none=>simp[ma,m]at hm
       |some e=>rw[Ka (jA m)<|jA u];exact Kb h p x y g.1 g.2.1 hm n
       ·cases hm
    ·refine XJ (s:=Builtin.max_ c.argTypes o.type #[a.eval x,a.eval y]) k ?_ ?_ q
     ·simp[execOp,cF,Go.resolve,hc,f,invoke,builtin]
     rw[j];exact SK h p x y g.1 g.2.1 hm n
    refine XJ (s:=Builtin.min_ c.argTypes o.type #[a.eval x,a.eval y]) k ?_ ?_ q;simp[execOp,cF,Go.resolve,hc,f,invoke,builtin];rw[j];exact SG h p x y g.1 g.2.1 hm n
   |cons z i=>cases b<;>simp[lG]at hm
def Ss(hG:lE P V w0)(h:Inv N V w0 S0 σ a w)(o:Oper)(j:gM N o=true){A0:AV}{ms:L Mv}{kG:L Obl}(hm:B8 P σ o A0=some (ms,kG))(C:Mv.runs σ ms=some σ')
 (hs:∀o∈kG,Sound P o.1 o.2.1 o.2.2)(H:∀a' w',Inv N V w0 S0 σ' a' w'->K a' w'):Oper.T3 V.rd P o a w K Q:=by
 unfold gM at j;rw[abi]at j;obtain⟨D,j⟩:=j;unfold B8 at hm;split at hm;rename_i u;split at hm;rename_i t x y cF;rw[cF]at j;obtain⟨A,rfl⟩:=dC hm;replace hm:=A;obtain⟨w',h1,h2⟩:=KF h x y (Bool.and_eq_true_iff.1 j).1 (Bool.and_eq_true_iff.1 j).2 hm C;refine Oper.qj (by simp[cF]) ?_;have:(execOp a.eval o).run P w=.ok .skip w':=by simp[execOp,cF,h1]
 rw[this];show K (a.put o.dst undef) w';rw[u];exact H _ _ h2;rename_i c cF;rw[cF]at j;split at hm;rename_i f hc;simp only[hc,abi]at j;obtain⟨g,p,q,T,e2⟩:=Fg hG h (d:=none) I f j.2 c.args.toList j.1 hm C hs;have X:execOp a.eval o=callFunc g (p++(c.args.toList.map a.eval).toArray++q):=by
  have:(c.args.toList.map a.eval).toArray=c.args.map a.eval:=by apply afN;simp
  simp only[execOp,cF,Go.resolve,hc,Deferred.ofValue,T,this];rfl
 refine Oper.qj (by simp[cF]) ?_;rw[X];refine e2 _ o a K Q λv w' hi=>?_;simp_all;cases hm;cases hm;rename_i d u;simp only[u,decide_eq_true_eq]at D;split at hm;rename_i x cF;rw[cF]at j;obtain⟨A,rfl⟩:=dC hm;replace hm:=A;refine fK (v:=a.eval x) (w':=w) (by simp[execOp,cF]) ?_;rw[u];exact H _ _<|mG h D x j hm C;rename_i x cF;rw[cF]at j;obtain⟨S,F,R,-⟩:=id h;split at hm;rename_i o1 x1 O;obtain⟨A,rfl⟩:=dC hm;replace hm:=A;obtain⟨F1,hR,-⟩:=aV R x j O;simp only[Rel]at hR;obtain⟨b,cs,fz,F',z,T,-⟩:=hR;refine fK (v:=a.eval x) (w':=w) (by simp[execOp,cF,T]) ?_;rw[u];exact H _ _<|mG h D x j hm C;rename_i g p q O;obtain⟨A,rfl⟩:=dC hm;replace hm:=A;obtain⟨F1,hR,-⟩:=aV R x j O;simp only[Rel]at hR;obtain⟨p',q',F1,F2,T,-⟩:=hR;refine fK (v:=a.eval x) (w':=w) (by simp[execOp,cF,T]) ?_;rw[u];exact H _ _<|mG h D x j hm C;split at hm;split at hm;rename_i q hq;obtain⟨A,rfl⟩:=dC hm;replace hm:=A;obtain⟨r,g1,g2,p,av⟩:=q;obtain⟨-,-,-,⟨ad,T⟩,-⟩:=kQ R x j hq;refine fK (v:=a.eval x) (w':=w) (by simp[execOp,cF,T]) ?_;rw[u];exact H _ _<|mG h D x j hm C;cases hm;cases hm;rename_i x cF;rw[cF]at j;obtain⟨A,rfl⟩:=dC hm;replace hm:=A;refine fK (v:=a.eval x) (w':=w) (by simp[execOp,cF]) ?_;rw[u];exact H _ _<|J9 h D x j hm C;rename_i c x y cF;simp only[cF,abi]at j;obtain⟨S,F,R,-⟩:=id h;split at hm;rename_i b O;have hb:=dJ R c j.1.1 O;split at hm;obtain⟨A,rfl⟩:=dC hm;replace hm:=A;refine fK (v:=a.eval x) (w':=w) (by simp[execOp,cF,hb,asBool]) ?_;rw[u];exact H _ _<|mG h D x j.1.2 hm C;obtain⟨A,rfl⟩:=dC hm;replace hm:=A;refine fK (v:=a.eval y) (w':=w) (by simp[execOp,cF,hb,asBool]) ?_;rw[u];exact H _ _<|mG h D y j.2 hm C;cases hm;rename_i t cF;split at hm;rename_i ti J;cases hm;exact tc u (by simp only[execOp,cF]) (Ny h D J C) H;cases hm;rename_i t x cF;rw[cF]at j;split at hm;split at hm;rename_i y M Z;split at hm;cases hm;exact tc u (by simp only[execOp,cF]) (Tz (t:=t) h D x j Z C) H;cases hm;cases hm;cases hm;rename_i t ps cF;rw[cF]at j;split at hm;rename_i ti J;split at hm;rename_i z hz;split at hm;rename_i pl E1;split at hm;rename_i ys M Z;split at hm;rename_i cs hf;cases hm;exact tc u (by simp only[execOp,cF]) (Nr h D ps j J hz E1 Z hf C) H;cases hm;cases hm;cases hm;cases hm;cases hm;rename_i t n ps cF;rw[cF]at j;split at hm;rename_i e he;split at hm;rename_i ti J;split at hm;rename_i ys M Z;split at hm;rename_i hc;cases hm;exact tc u (by simp only[execOp,cF]) (AF h D ps j he J Z hc.1 hc.2.1 hc.2.2.1 hc.2.2.2 C) H;simp at hm;simp at hm;simp at hm;simp at hm;rename_i t x cF;rw[cF]at j;obtain⟨A,rfl⟩:=dC hm;replace hm:=A;exact tc u (by simp only[execOp,cF]) (ON h D x j hm C) H;rename_i t x f cF;rw[cF]at j;obtain⟨A,rfl⟩:=dC hm;replace hm:=A;exact tc u (by simp only[execOp,cF]) (Ch h D x j hm C) H;rename_i t x f cF;rw[cF]at j;obtain⟨A,rfl⟩:=dC hm;replace hm:=A;exact tc u (by simp only[execOp,cF]) (MG h D x j hm C) H;rename_i t x i cF;simp only[cF,abi]at j;obtain⟨A,rfl⟩:=dC hm;replace hm:=A;exact tc u (by simp only[execOp,cF]) (Cg h D x i j.1 j.2 hm C) H;rename_i t x i cF;simp only[cF,abi]at j;obtain⟨A,rfl⟩:=dC hm;replace hm:=A;exact tc u (by simp only[execOp,cF]) (Ma h D x i j.1 j.2 hm C) H;rename_i x i cF;rw[cF]at j;obtain⟨A,rfl⟩:=dC hm;replace hm:=A;exact tc u (by simp only[execOp,cF]) (Ga h D x j hm C) H;rename_i op t x y t' cF;simp only[cF,abi]at j;split at hm;rename_i ax X;split at hm;rename_i ay hy;split at hm;rename_i v hv;cases hm;exact tc u (by simp only[execOp,cF]) (TC h D x y j.1 j.2 X hy hv C) H;simp at hm;simp at hm;simp at hm;rename_i op t x cF;rw[cF]at j;split at hm;rename_i vx X;split at hm;rename_i v hv;cases hm;exact tc u (by simp only[execOp,cF]) (Ua h D x j X hv C) H;simp at hm;simp at hm;rename_i s t x cF;rw[cF]at j;obtain⟨A,rfl⟩:=dC hm;replace hm:=A;exact tc u (by simp only[execOp,cF]) (Pu h D x j hm C) H;rename_i t x l hh m cF;simp only[cF,abi,Option.all_eq_true,agK,Option.isNone_iff_eq_none]at j;obtain⟨A,rfl⟩:=dC hm;replace hm:=A;exact tc u (by simp only[execOp,cF]) (KP h D x l hh m j.1.1.1.1 j.1.1.1.2 j.1.1.2 j.1.2 j.2 hm C) H;rename_i t l c cF;simp only[cF,abi]at j;split at hm;rename_i e he;split at hm;rename_i ti J;split at hm;rename_i k x k' y h1 h2;split at hm;rename_i hb;cases hm;exact tc u (by simp only[execOp,cF]) (Cb h D l c j.1 j.2 he J h1 h2 hb C) H;simp at hm;simp at hm;simp at hm;simp at hm;rename_i f p q cF;simp only[cF,abi]at j;split at hm;rename_i ap aq hp hq;split at hm;rename_i B0;cases hm;refine tc (s:=Instr.makeFunc f (p.map a.eval)<|q.map a.eval) u (by simp only[execOp,cF]) (fi (z:=.func f (p.map a.eval)<|q.map a.eval) h D C W λS F hc=>?_) H;have Y:shares ((p.toList++q.toList).map<|resolve σ)=[]:=by simpa using B0
 have E2:∀(x:Operand),x∈p.toList++q.toList->aO x=true:=by grind
 have hl:iH ((p.toList++q.toList).map<|resolve σ)=some (ap++aq):=by rw[acB];exact yh hp hq
 have:=oa hc (S1:=S) (λ_ h=>h) (p.toList++q.toList) (acZ.2 E2) hl (by rw[Y];simp);rw[acB]at this;obtain⟨c1,c2⟩:=ry (by rw[yg hp];simp) this;simp only[Rel];exact⟨_,_,[],[],W,by simpa using c1,by simpa using c2,W⟩;simp at hm;simp at hm;rename_i c cF;rw[cF]at j;split at hm;rename_i f hc;simp only[hc,abi]at j;obtain⟨g,p,q,T,e2⟩:=Fg hG h (d:=some d) (by simpa using D) f j.2 c.args.toList j.1 hm C hs;have X:execOp a.eval o=callFunc g (p++(c.args.toList.map a.eval).toArray++q):=by
  have:(c.args.toList.map a.eval).toArray=c.args.map a.eval:=by apply afN;simp
  simp only[execOp,cF,Go.resolve,hc,Deferred.ofValue,T,this];rfl
 refine Oper.qj (by simp[cF]) ?_;rw[X];refine e2 _ o a K Q λv w' hi=>?_;simp_all;rename_i b hc;obtain⟨A,rfl⟩:=dC hm;replace hm:=A;simp only[hc,Bool.and_true]at j;exact TB h D u cF hc j hm C H;simp at hm;simp at hm
end
def Mv.keys:Mv->L Nat
 |.share r _=>[r]
 |.take r n _=>[r,n]
 |.make M n _=>n::M
 |.put n _=>[n]
 |.store r _ M _=>r::M
 |.back R=>R.map (·.1)
def bp:L Mv->L Nat
 |[]=>[]
 |m::a=>m.keys++bp a
def BZ{σ:St}:∀{R:L (Nat×AV)}{s:Nat},s∉R.map (·.1)->l9 σ R s=σ s
 |[],s,_=>rfl
 |(r,y)::R,s,h=>by simp only[acK,abm,not_or]at h;simp[l9];rw[ar _ _ h.1,BZ h.2]
def Mv.GY{σ f τ:St}(m:Mv)(h:∀s∈m.keys,τ s=σ s)(a:m.run σ=some f):∃b,m.run τ=some b/\(∀s∈m.keys,b s=f s)/\∀s,s∉m.keys->b s=τ s:=by
 cases m with
 |share r p=>simp[Mv.keys,af9,forall_eq]at h;simp[Mv.run]at a⊢;rw[h];split at a;rename_i y k;split at a;rename_i av l;cases a;refine⟨_,W,?_,?_⟩;simp[Mv.keys,aI];intro s hs;simp[Mv.keys,af9]at hs;exact ar _ _ hs;cases a;cases a
 |take r n p=>simp[Mv.keys,abm,ae8,or_false,forall_eq_or_imp,forall_eq]at h;simp only[Mv.run]at a⊢;rw[h.1];split at a;cases a;rename_i c;simp[c,if_false];split at a;rename_i y k;split at a;rename_i av l;cases a;refine⟨_,W,?_,?_⟩;intro s hs;simp[Mv.keys,abm,ae8,or_false]at hs;rcases hs with rfl|rfl;rw[ar _ _ λe=>c e.symm,ar _ _ λe=>c e.symm,aI,aI];rw[aI,aI,h.2];intro s hs;simp[Mv.keys,abm,ae8,or_false,not_or]at hs;rw[ar _ _ hs.2,ar _ _ hs.1];cases a;cases a
 |make M n y=>simp only[Mv.run,aaP]at a⊢;subst a;refine⟨_,W,?_,?_⟩;intro s hs;have hn:=h n (by simp[Mv.keys]);simp[made,hn,h s hs];intro s hs;simp[Mv.keys,abm,not_or]at hs;simp[made,hs.1,hs.2,if_false]
 |put n y=>simp only[Mv.run,aaP]at a⊢;subst a;have hn:=h n (by simp[Mv.keys]);refine⟨_,W,?_,?_⟩;intro s hs;simp[Mv.keys,af9]at hs;subst hs;rw[aI,aI,hn];intro s hs;simp[Mv.keys,af9]at hs;exact ar _ _ hs
 |store r p M y=>have g:=h r (by simp[Mv.keys]);simp only[Mv.run]at a⊢;rw[g];split at a;cases a;rename_i i;simp[i,if_false];split at a;rename_i av k;cases a;refine⟨_,W,?_,?_⟩;intro s hs;simp[stored,g,h s hs];intro s hs;simp[Mv.keys,abm,not_or]at hs;simp[stored,hs.1,hs.2,if_false];cases a
 |back R=>
  simp only[Mv.run,aaP]at a⊢;subst a;simp only[Mv.keys]at h⊢;refine⟨_,W,?_,λs hs=>BZ hs⟩;have:∀(d:L (Nat×AV)),(∀s∈d.map (·.1),τ s=σ s)->∀s∈d.map (·.1),l9 τ d s=l9 σ d s:=by
   intro d
   induction d with
   |nil=>intro _ s hs;cases hs
   |cons q d o=>
    intro j s hs;obtain⟨r,y⟩:=q;simp only[acK,abm,forall_eq_or_imp]at j hs;simp[l9];by_cases e:s=r;subst e;rw[aI,aI,j.1];rw[ar _ _ e,ar _ _ e]
    grind
  exact this R h
def rS:∀(c:L Mv){σ b τ:St},(∀s∈bp c,τ s=σ s)->Mv.runs σ c=some b->∃a,Mv.runs τ c=some a/\(∀s∈bp c,a s=b s)/\∀s,s∉bp c->a s=τ s
 |[],σ,b,τ,h,d=>by simp[Mv.runs]at d;exact⟨τ,W,by simp[bp],λ_ _=>rfl⟩
 |m::c,σ,b,τ,h,d=>by
  simp[Mv.runs]at d⊢;split at d;rename_i e i;obtain⟨g,k1,k2,k3⟩:=m.GY (τ:=τ) (λs hs=>h s<|by simp[bp,hs]) i;obtain⟨j,n,v,t⟩:=m.GY (σ:=σ) (τ:=σ) (λs hs=>rfl) i;rw[i]at n;cases n;have f:=λs hs=>by by_cases hm:s∈m.keys;exact k2 s hm;rw[k3 s hm,t s hm,h s hs]
  obtain⟨a,q,p,k⟩:=rS c (σ:=e) (τ:=g) (λs hs=>f s<|by simp[bp,hs]) d;obtain⟨o,l,u,r⟩:=rS c (σ:=e) (τ:=e) (λs hs=>rfl) d;rw[d]at l;cases l;rw[k1];refine⟨a,q,λs hs=>?_,λs hs=>?_⟩;by_cases hm:s∈bp c;exact p s hm;rw[k s hm,r s hm,f s hs];simp[bp]at hs;rw[k s hs.2,k3 s hs.1];cases d
def wg{b:L Mv}{σ a:St}(h:Mv.runs σ b=some a){s:Nat}(hs:s∉bp b):a s=σ s:=by obtain⟨c,e,-,d⟩:=rS b (σ:=σ) (τ:=σ) (λ_ _=>rfl) h;simp_all
def roots(σ:St)(t:Nat):L Nat:=
 match(σ t).av with
 |.bw r _ _ _=>[t,r]
 |.ptr r _ _ _=>[t,r]
 |.gI _ a=>t::a.map (·.1)
 |_=>[t]
def s7(σ:St):Operand->L Nat
 |.tmp t=>roots σ t
 |_=>[]
def resolve_congr{σ τ:St}(x:Operand)(h:∀s∈s7 σ x,τ s=σ s):resolve τ x=resolve σ x:=by
 cases x with
 |tmp t=>
  have b:=h t (by simp[s7,roots];split<;>simp);simp[resolve,cx.of,b];cases a:(σ t).av with
  |bw r g1 g2 p=>simp only;rw[h r<|by simp only[s7,roots,a];simp]
  |ptr r g1 g2 p=>simp only;rw[h r<|by simp only[s7,roots,a];simp]
  |_=>rfl
 |_=>rfl
end Go.Ai
