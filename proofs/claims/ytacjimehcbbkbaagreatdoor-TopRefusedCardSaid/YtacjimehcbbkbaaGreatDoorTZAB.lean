/- TopRefused holds. -/
import Derived.Test.YtacjimehcbbkbaaGreatDoorTZAA
import Derived.RangeFuncSeq
set_option linter.all false
set_option maxRecDepth 100000
set_option maxHeartbeats 0
namespace Go.Ai
open Go.RowKit
section
variable{P:Program}{N:Nat}{w0 w:World}{V:Hid}{S S0:Nat->Prop}{B:Nat->Prop}{σ σ':St}{a:Act}{F:Nat->L Nat}
section
variable{y:AV}{F1:L Nat}{d o t:Nat}{z:Value}
def dR(h:aT S B σ (tv V a) w F)(x:Operand)(c:aO x=true){v:Value}(hc:(resolve σ x).cont=some (.v v)):a.eval x=v:=by obtain⟨F1,b,-⟩:=ba h x c hc;exact b.2.1
def fK{r:Result Value}(h:Inv N V w0 S0 σ a w)(f:d<N)(e:Mv.runs σ [.put d y]=some σ')
 (b:r=.ok z w)(c:∀S F,aT S (c6 V w0) σ (tv V a) w F->Rel w S y z []):Good N V w0 S0 σ' a d r:=by
 simp[Mv.cQ]at e;subst e;exact⟨z,w,b,h.jJ f c⟩
def Rel.ll{f:Fl}{sz:Nat}{xs:L AV}(h:Rel w S (.list f sz xs) z F1):
 ∃c cap,z=.slice c xs.length cap/\xs.length<=cap/\(f=.nil->c=none/\xs=[]/\cap=0)/\(f≠.nil->xs≠[]->∃b off,c=some ⟨b,off,none⟩)/\(c=none->xs=[]/\cap=0):=by
 cases f with
 |nil=>simp[Rel]at h;grind
 |shr=>simp[Rel]at h;grind
 |own=>simp[Rel]at h;grind
def Lc:∀(p:Path){q:Path}{sz o n:Nat},Hx p=some (q,sz,o,n)->p=q++[.oC sz o n]
 |[],_,_,_,_,h=>by simp[Hx]at h
 |s::p,q,sz,o,n,h=>by
  unfold Hx at h;split at h
  grind
  split at h;rename_i c u b;cases h;rw[Lc _ b];rfl;cases h
def Hv(h:aT S B σ (tv V a) w F)(x:Operand)(hx:aO x=true){r g1 g2 sz n:Nat}{q:Path}(c:(resolve σ x).oC=some (r,g1,g2,q,sz,o,n)):
 ∃f xs b off cap len L,bM (σ r).av q=some (.list f sz xs)/\o+n<=xs.length/\0<n/\g1=(σ r).g1/\g2=(σ r).g2/\loc w (.val<|tv V a r) q=some L/\holds w L (.slice (some ⟨b,off,none⟩) len cap)/\
  a.eval x=.slice (some ⟨b,off+o*sz,none⟩) n (cap-o):=by
 cases x with
 |const v=>have Z:=fC v;simp[resolve,cF.oC]at c;split at c;rename_i hv;rw[hv]at Z;simp[AV.plain]at Z;cases c
 |func f=>simp[resolve,cF.oC]at c
 |global g=>simp[resolve,cF.oC,Sl.none]at c
 |tmp t=>
  rw[iq V a<|gS hx];unfold cF.oC at c;split at c
  ·rename_i l J H p j;have j:(σ t).av=.bH l J H p:=by
    revert j;simp[resolve,cF.of];split<;>first|exact id|(intro h;simp[Sl.none]at h)
   split at c
   ·rename_i K E1 o' n' hu;simp only[resolve,cF.of,j]at c;split at c<;>try(cases c;done)
    rename_i e1;split at c<;>try(cases c;done)
    rename_i e2;split at c<;>try(cases c;done)
    rename_i f A0 xs i;split at c<;>try(cases c;done)
    rename_i k;obtain⟨rfl,k1,k2⟩:=k;simp[abL,aeb]at c;obtain⟨rfl,rfl,rfl,rfl,rfl,rfl,rfl⟩:=c;have T:=Lc _ hu;have A:=h.rel t;unfold an at A;rw[j]at A;obtain⟨L,O,M,-⟩:=A.2.2.2 e1 e2 λ_=>⟨.dead,by rw[T,CE,i];simp[bM,k1,k2]⟩;rw[T,jv]at O;let⟨Lq,m1,s⟩:=abZ.1 O;have C:(σ l).av.plain=true:=by cases hh:(σ l).av<;>simp[AV.plain]<;>(rw[hh]at i;cases K<;>simp[bM]at i)
    have m:=h.rel l;rw[an.aC C]at m;let⟨L1,z1,F1,r1,u,r3,r4,r5⟩:=Rel.read K (L:=.val<|tv V a l) m W i;rw[m1]at r1;cases r1;let⟨ad,cap,R,Y,X,D⟩:=r3.ll;have hf:f≠.nil:=λe=>by simp_all
    obtain⟨b,off,rfl⟩:=D.1 hf λe=>gn;refine⟨f,xs,b,off,cap,xs.length,Lq,i,k2,k1,e1.symm,W,m1,by rw[<-R];exact u,?_⟩;simp[loc]at s;rw[R]at u;rw[du u W I]at s;simp[cH,agb,abL]at s;subst s;simp[holds]at M;rw[M,cD W]
   cases c
  cases c
def Dl(h:Inv N V w0 S0 σ a w)(hd:d<N)(x i:Operand)(s:aO x=true)(K:aO i=true){ms:L Mv}
 (hm:iJ P d t (resolve σ x) (resolve σ i)=some ms)(O:Mv.runs σ ms=some σ'):Good N V w0 S0 σ' a d ((Instr.indexAt t (a.eval x)<|a.eval i).run P w):=by
 unfold iJ at hm;split at hm;rename_i k n hi;split at hm;rename_i e hu;split at hm;rename_i ti H;split at hm;rename_i r g1 g2 q sz o m T;split at hm;rename_i g;obtain⟨rfl,A,v⟩:=g;split at hm;cases hm;rename_i u;cases hm;simp only[Mv.cQ,abL]at O;subst O;have Z:=h;obtain⟨S,F,hc,-⟩:=h;have C:=dR hc i K hi;let⟨f,xs,b,l,E2,len,c,z1,z2,z3,z4,z5,z6,z7,z8⟩:=Hv hc x s T;have j:(Instr.indexAt t (a.eval x)<|a.eval i).run P w=.ok (.pointer<|some<|(⟨b,l,none⟩:Addr).add<|(o+n.toNat)*ti.size) w:=by
  rw[z8,C];have:(⟨b,l+o*ti.size,none⟩:Addr).add (n.toNat*ti.size)=(⟨b,l,none⟩:Addr).add ((o+n.toNat)*ti.size):=by rw[cD W,cD W,aer];grind
  rw[<-this];simp[Instr.indexAt,asIntOf,run_underlying hu,A,v,dW H]
 refine⟨_,w,j,Z.put hd λS' F' D=>?_⟩;let⟨f',G1,b',F0,G0,F2,L',y1,y2,y3,y4,y5,y6,y7,y8⟩:=Hv D x s T;rw[y6]at z6;cases z6;unfold an;simp only[aG,ar _ _ u];refine⟨U,E,E,⟨_,W⟩,λ_ _ _=>⟨(⟨b,l,none⟩:Addr).add<|(o+n.toNat)*ti.size,?_,W⟩⟩;rw[jv,y6];simp only[agb,loc];rw[du z7 W I];rfl;cases hm;split at hm;rename_i f sz xs R;split at hm;rename_i g;obtain⟨rfl,A,v⟩:=g;split at hm;rename_i r g1 g2 p hp;split at hm;cases hm;rename_i u;cases hm;simp only[Mv.cQ,abL]at O;subst O;have Z:=h;obtain⟨S,F,hc,-⟩:=h;have C:=dR hc i K hi;obtain⟨F1,e1,-⟩:=ba hc x s R;let⟨ad,E2,hz,F4,F3,E1⟩:=e1.ll;have hf:f≠.nil:=λe=>by grind
 obtain⟨b,l,rfl⟩:=E1.1 hf (λe=>by grind);have j:(Instr.indexAt t (a.eval x)<|a.eval i).run P w=.ok (.pointer<|some<|(⟨b,l,none⟩:Addr).add<|n.toNat*ti.size) w:=by rw[hz,C];simp[Instr.indexAt,asIntOf,run_underlying hu,A,v,dW H]
 refine⟨_,w,j,Z.put hd λS' F' D=>?_⟩;let⟨q1,q2,q3,q4,q5,q6,c,q7,q8,q9⟩:=jV D x s R hp;unfold an;simp only[aG,ar _ _ u];refine⟨U,q4,q5,⟨_,W⟩,λ_ _ _=>⟨(⟨b,l,none⟩:Addr).add<|n.toNat*ti.size,?_,W⟩⟩;rw[jv,q7];simp only[agb,loc];rw[hz]at q8;rw[du q8 W I];rfl;cases hm;cases hm;cases hm;cases hm;rename_i len e hu;split at hm;rename_i ti H;split at hm;rename_i r g1 g2 p av R;split at hm;rename_i g;let⟨A,v,u⟩:=g;split at hm;rename_i y hy;cases hm;simp only[Mv.cQ,abL]at O;subst O;have Z:=h;obtain⟨S,F,hc,-⟩:=h;have C:=dR hc i K hi;have X:flat p=false->∃y,bM av p=some y:=abT λ_=>⟨y,hy⟩;obtain⟨-,-,-,-,Y⟩:=lA hc x s R;let⟨ad,l1,l2⟩:=Y X;have j:(Instr.indexAt t (a.eval x)<|a.eval i).run P w=.ok (.pointer<|some<|ad.add<|n.toNat*ti.size) w:=by rw[l2,C];simp[Instr.indexAt,asIntOf,run_underlying hu,A,v,Instr.sureAddr,dW H]
 refine⟨_,w,j,Z.put hd λS' F' D=>?_⟩;obtain⟨e1,e2,e3,-,M⟩:=lA D x s R;let⟨G2,A0,J⟩:=M X;rw[l2]at J;simp only[Value.pointer.injEq,abL]at J;subst J;unfold an;simp only[aG,ar _ _ u];refine⟨U,E,E,⟨_,W⟩,λ_ _ _=>⟨ad.add<|n.toNat*ti.size,?_,W⟩⟩;rw[jv,A0];rfl;simp at hm;simp at hm;simp at hm;simp at hm;simp at hm;simp at hm
def G7{i:Nat}(h:Inv N V w0 S0 σ a w)(T:d<N)(x:Operand)(l:aO x=true){O:L Mv}
 (hm:qh d (resolve σ x) i=some O)(v:Mv.runs σ O=some σ'):Good N V w0 S0 σ' a d ((Instr.extract (a.eval x) i).run P w):=by
 unfold qh at hm;split at hm;rename_i xs R;split at hm;rename_i y hy;have c:∀S F,aT S (c6 V w0) σ (tv V a) w F->∃z F1 k,a.eval x=.tuple k/\k[i]?=some z/\Rel w S y z F1/\(Instr.extract (a.eval x) i).run P w=.ok z w:=by
  intro S F hc;obtain⟨F1,e1,-⟩:=ba hc x l R;let⟨k,n,hC⟩:=e1;obtain⟨J,A,Fx,B',-,-,hR,hl,-⟩:=Cells.lens i hC hy;have m:=d8
  exact⟨J,Fx,k,n,m,hR,by rw[n];simp[Instr.extract,m]⟩
 split at hm;rename_i D;cases hm;have H:=h;obtain⟨S,F,hc,-⟩:=h;let⟨z,F1,k,Y,X,h3,s⟩:=c S F hc;refine fK H T v s λZ F' g=>?_;let⟨z',F0,E2,E1,A0,q,j⟩:=c Z F' g;rw[s]at j;simp at j;subst j;rwa[Rel.aK _ q D]at q;split at hm;rename_i r g1 g2 p hp;split at hm;cases hm;rename_i f;have C:=aiY λe=>f<|.inr e;subst C;cases hm;simp[Mv.cQ]at v;subst v;have H:=h;obtain⟨S,F,hc,-⟩:=h;let⟨z,F1,k,Y,X,h3,s⟩:=c S F hc;refine⟨z,w,s,H.put T λZ F' g=>?_⟩;let⟨q1,q2,q3,q4,q5,q6,b,M,K,q9⟩:=jV g x l R hp;unfold an;simp only[aG,ar _ _ (λe=>f<|.inl e)];simp[loc]at M;subst M;simp[holds]at K;refine⟨U,q4,q5,λ_ _ _=>⟨.val z,?_,W,I⟩⟩;simp[loc,step1,<-K,Y,cH,X];cases hm;cases hm;cases hm
def IE{av:AV}{ti:TI}{g:Nat}(c:cC P g=some ti)(j:Rel w S av z F1)(f:bM av [kd ti o]=some y)(e:y.aK=true):
 ∃cs v,z=.agg cs/\(part g cs o).run P w=.ok v w/\Rel w S y v []:=by
 have:=Rel.read [kd ti o] (L:=.val z) j W f;obtain⟨k,h,l,k1,k2,k3,-⟩:=this;rw[Rel.aK _ k3 e]at k3;unfold kd at k1;cases b:ti.agg with
 |false=>simp[b]at k1 f;simp[loc,step1]at k1;cases z<;>simp[cH]at k1;rename_i cs;obtain⟨v,i,rfl⟩:=k1;subst k2;exact⟨cs,h,W,by simp[part,A5 c,b,i],k3⟩
 |true=>simp[b]at k1 f;simp[loc,step1]at k1;cases z<;>simp[cH]at k1;rename_i cs;subst k1;subst k2;exact⟨cs,_,W,by simp[part,A5 c,b,dW c],k3⟩
def Nn{f:Nat}(h:Inv N V w0 S0 σ a w)(s:d<N)(x:Operand)(e:aO x=true){k:L Mv}
 (hm:Bv P d t (resolve σ x) f=some k)(q:Mv.runs σ k=some σ'):Good N V w0 S0 σ' a d ((Instr.field t (a.eval x) f).run P w):=by
 unfold Bv at hm;split at hm;rename_i o H b;split at hm;rename_i ti g;split at hm;rename_i av n;split at hm;rename_i y m;split at hm;rename_i i;cases hm;have c:∀S F,aT S (c6 V w0) σ (tv V a) w F->∃v,(Instr.field t (a.eval x) f).run P w=.ok v w/\Rel w S y v []:=by intro S F hc;obtain⟨F1,D,-⟩:=ba hc x e n;let⟨K,v,l,r,p⟩:=IE g D m i;refine⟨v,?_,p⟩;unfold qV at b;split at b;rename_i J hu;split at b;rename_i fl j;cases b;simp[Instr.field,run_underlying hu,j,l,asAgg,r];cases b;cases b
 have A:=h;obtain⟨S,F,hc,-⟩:=h;obtain⟨v,C,-⟩:=c S F hc;refine fK A s q C λM O u=>?_
 grind
 cases hm;cases hm;cases hm;cases hm;cases hm
def MW(h:Inv N V w0 S0 σ a w)(A:d<N)(x i:Operand)(c:aO x=true)(j:aO i=true){r:L Mv}
 (hm:x8 P d t (resolve σ x) (resolve σ i)=some r)(u:Mv.runs σ r=some σ'):Good N V w0 S0 σ' a d ((Instr.index t (a.eval x)<|a.eval i).run P w):=by
 unfold x8 at hm;split at hm;rename_i k n hi;split at hm;rename_i hu;split at hm;rename_i s l;split at hm;rename_i hn;split at hm;rename_i b K;cases hm;have q:=h;obtain⟨S,F,hc,-⟩:=h;refine fK (z:=.int .u8 b.toNat) q A u ?_ λT X p=>d7
 rw[dR hc i j hi,dR hc x c l];simp[Instr.index,asIntOf,run_underlying hu,hn,K];cases hm;cases hm;cases hm;rename_i len e hu;split at hm;rename_i ti f;split at hm;rename_i av l;split at hm;rename_i hn;split at hm;rename_i y D;split at hm;rename_i m;cases hm;have g:∀S F,aT S (c6 V w0) σ (tv V a) w F->∃v,(Instr.index t (a.eval x)<|a.eval i).run P w=.ok v w/\Rel w S y v []:=by intro S F hc;obtain⟨F1,R,-⟩:=ba hc x c l;let⟨Y,v,C,J,H⟩:=IE f R D m;exact⟨v,by rw[dR hc i j hi,C];simp[Instr.index,asIntOf,run_underlying hu,hn.1,hn.2,dW f,J],H⟩
 have q:=h;obtain⟨S,F,hc,-⟩:=h;obtain⟨v,O,-⟩:=g S F hc;refine fK q A u O λT X p=>?_
 grind
 cases hm;cases hm;cases hm;cases hm;cases hm;cases hm;cases hm
def Qg{s:Nat}(h:Inv N V w0 S0 σ a w)(p:d<N)(x:Operand)(b:aO x=true){l:L Mv}
 (hm:Gd P d s t (resolve σ x)=some l)(m:Mv.runs σ l=some σ'):Good N V w0 S0 σ' a d ((convert s t<|a.eval x).run P w):=by
 unfold Gd at hm;split at hm;rename_i u k A n j i g;simp only[abL]at hm;subst hm;have e:=h;obtain⟨S,F,hc,-⟩:=h;have f:=dR hc x b g;refine fK (z:=.int k<|k.wrap n) e p m ?_ λr v c=>d7
 rw[f];cases u<;>simp[convert,run_underlying j,run_underlying i,Conv.intToInt];rename_i q j i g;simp only[abL]at hm;subst hm;have e:=h;obtain⟨S,F,hc,-⟩:=h;have f:=dR hc x b g;refine fK (z:=.string q) e p m ?_ λr v c=>d7
 rw[f];simp[convert,run_underlying j,run_underlying i];simp at hm
end
end
section
variable{P:Program}{N:Nat}{w0 w:World}{V:Hid}{S S0:Nat->Prop}{B:Nat->Prop}{σ σ':St}{a:Act}{F:Nat->L Nat}
def jR{t e:TypeId}(h:dY P t=some e):P.underlying t=some (.slice e):=by
 unfold dY at h
 grind
def fX(h:aT S B σ (tv V a) w F)(x:Q Operand)(d:∀o,x=some o->aO o=true){b l y:Nat}{code:BoundsCode}(hi:oT (x.map<|resolve σ) b=some l)(e:l<=y):
 match x with
 |none=>l=b
 |some o=>∃k,(Instr.sliceBound (a.eval o) y code).run P w=.ok l w/\a.eval o=.int k l:=by
 cases x with
 |none=>simp[oT]at hi;grind
 |some o=>simp[oT]at hi;split at hi;rename_i k n hc;split at hi;rename_i hn;cases hi;have c:=dR h o (d o W) hc;refine⟨k,?_,by grind⟩;rw[c];have:n<=(y:Int):=E;simp[Instr.sliceBound,asIntOf,hn,this];cases hi;cases hi
def kY(h:aT S B σ (tv V a) w F)(sl:Bool){len cap:Nat}(lo hi mx:Q Operand)(f:∀o,lo=some o->aO o=true)(c:∀o,hi=some o->aO o=true)(d:∀o,mx=some o->aO o=true)
 {l q m:Nat}(e:oT (lo.map<|resolve σ) 0=some l)(g:oT (hi.map<|resolve σ) len=some q)(p:oT (mx.map<|resolve σ) cap=some m)(hl:l<=q)(hm:q<=m)(hc:m<=cap)(hh:mx=none\/hi.isSome):
 (Instr.sliceBounds sl len cap (lo.map a.eval) (hi.map a.eval)<|mx.map a.eval).run P w=.ok (l,q,m) w:=by
 cases mx with
 |none=>
  simp[oT]at p;subst p;cases hi with
  |none=>
   simp[oT]at g;subst g;cases lo with
   |none=>simp[oT]at e;subst e;rfl
   |some o=>obtain⟨k,j,-⟩:=fX (P:=P) h (some o) f (y:=len) (code:=.sliceB) e hl;simp[Instr.sliceBounds,j]
  |some n=>
   cases lo with
   |none=>simp[oT]at e;subst e;cases sl;obtain⟨k,b,-⟩:=fX (P:=P) h (some n) c (y:=cap) (code:=.sliceAlen) g E;simp[Instr.sliceBounds,b];obtain⟨k,b,-⟩:=fX (P:=P) h (some n) c (y:=cap) (code:=.sliceAcap) g E;simp[Instr.sliceBounds,b]
   |some o=>obtain⟨k,j,-⟩:=fX (P:=P) h (some o) f (y:=q) (code:=.sliceB) e hl;cases sl;obtain⟨k,b,-⟩:=fX (P:=P) h (some n) c (y:=cap) (code:=.sliceAlen) g E;simp[Instr.sliceBounds,j,b];obtain⟨k,b,-⟩:=fX (P:=P) h (some n) c (y:=cap) (code:=.sliceAcap) g E;simp[Instr.sliceBounds,j,b]
 |some o3=>
  rcases hh with hh|hh;cases hh;cases hi with
  |none=>cases hh
  |some n=>
   obtain⟨k,b,-⟩:=fX (P:=P) h (some n) c (y:=m) (code:=.slice3B) g E;cases lo with
   |none=>simp[oT]at e;subst e;cases sl;obtain⟨k,i,-⟩:=fX (P:=P) h (some o3) d (y:=cap) (code:=.slice3Alen) p hc;simp[Instr.sliceBounds,b,i];obtain⟨k,i,-⟩:=fX (P:=P) h (some o3) d (y:=cap) (code:=.slice3Acap) p hc;simp[Instr.sliceBounds,b,i]
   |some o=>obtain⟨k,j,-⟩:=fX (P:=P) h (some o) f (y:=q) (code:=.slice3C) e hl;cases sl;obtain⟨k,i,-⟩:=fX (P:=P) h (some o3) d (y:=cap) (code:=.slice3Alen) p hc;simp[Instr.sliceBounds,j,b,i];obtain⟨k,i,-⟩:=fX (P:=P) h (some o3) d (y:=cap) (code:=.slice3Acap) p hc;simp[Instr.sliceBounds,j,b,i]
def dG.sub(sz:Nat){xs:L AV}{l:L Value}(i n:Nat)(h:dG w S sz xs l [])(b:i+n<=xs.length):dG w S sz ((xs.drop i).take n) ((l.drop<|i*sz).take<|n*sz) []:=by
 let⟨k,j,e,m,c⟩:=dG.split _ i h;have:k=[]/\j=[]:=by simp_all
 obtain⟨rfl,rfl⟩:=this;let⟨g,f,d,k1,k2⟩:=dG.split _ n c;have:g=[]/\f=[]:=by simpa using d.symm
 grind
def QT{sz:Nat}{xs:L AV}{i:Q Addr}{cap l h m:Nat}(j:Rel w S (.list .shr sz xs) (.slice i xs.length cap) [])(r:l<=h)(s:h<=m)(hm:m<=cap)(hh:h<=xs.length):
 Rel w S (.list .shr sz<|(xs.drop l).take<|h-l) (.slice (if m=l then i else i.map (·.add (l*sz))) (h-l)<|m-l) []:=by
 simp only[Rel]at j⊢;rcases j with⟨rfl,⟨u,e⟩,-⟩|⟨b,d,q,p,o,e,n,c,k,t,-⟩;simp_all;right;obtain⟨rfl,-,rfl⟩:=e;have g:((xs.drop l).take<|h-l).length=h-l:=by simp;omega
 by_cases f:m=l;have:h=l:=E;subst this;subst f;refine⟨b,d,0,p,o,I,n,c,I,by simp[dG],U⟩;refine⟨b,d+l*sz,m-l,p,o,by rw[g];simp[f,cD],n,c,E,?_,U⟩;have:=dG.sub sz l (h-l) t E;rw[List.drop_take,ahX,List.take_take]at this;have v:min ((h-l)*sz) (xs.length*sz-l*sz)=(h-l)*sz:=by rw[<-Nat.sub_mul];simp_all
 simp_all
def LA{d t:Nat}(h:Inv N V w0 S0 σ a w)(Z:d<N)(x:Operand)(lo hi mx:Q Operand)(g:aO x=true)(K:∀o,lo=some o->aO o=true)(O:∀o,hi=some o->aO o=true)
 (E1:∀o,mx=some o->aO o=true)(F0:mx=none\/hi.isSome){ms:L Mv}
 (hm:s7 P d t (resolve σ x) (lo.map<|resolve σ) (hi.map<|resolve σ) (mx.map<|resolve σ)=some ms)(Y:Mv.runs σ ms=some σ'):
 Good N V w0 S0 σ' a d ((Instr.sliceAt t (a.eval x) (lo.map a.eval) (hi.map a.eval)<|mx.map a.eval).run P w):=by
 unfold s7 at hm;split at hm;rename_i hu;split at hm;rename_i s u;cases mx with
 |some o=>cases hm
 |none=>
  simp[Option.map_none]at hm⊢;split at hm;rename_i l C h1 h2;split at hm;rename_i hc;cases hm;have T:=h;obtain⟨S,F,c,-⟩:=h;have hv:=dR c x g u;refine fK (z:=.string<|s.extract l C) T Z Y ?_ λS' F' i=>d7
  have hb:=kY (P:=P) c false (len:=s.size) (cap:=s.size) lo hi none K O I h1 h2 W hc.1 hc.2 (abY _)<|.inl W;rw[hv];simp[Option.map_none]at hb;simp[Instr.sliceAt,run_underlying hu,Instr.slice,hb];cases hm;cases hm
 ·cases hm
 rename_i e hu;split at hm;rename_i ti A0;split at hm;rename_i f sz X u;split at hm;rename_i l C h1 h2;split at hm;rename_i m h3;split at hm;rename_i hc;let⟨y,G0,R⟩:=hc;have J:∀S F H cap,aT S (c6 V w0) σ (tv V a) w F->a.eval x=.slice H X.length cap->X.length<=cap->∃j,j<=cap/\C<=j/\
  (Instr.sliceAt t (a.eval x) (lo.map a.eval) (hi.map a.eval)<|mx.map a.eval).run P w=.ok (.slice (if j=l then H else H.map (·.add (l*ti.size))) (C-l)<|j-l) w:=by
  intro S F H cap c A n;have E2:∃j,oT (mx.map<|resolve σ) cap=some j/\C<=j/\j<=cap:=by
   cases mx with
   |none=>exact⟨cap,W,E,abY _⟩
   |some o=>
    have:oT (Option.map (resolve σ)<|some o) cap=some m:=by simp[aiZ,oT]at h3⊢;exact h3
    grind
  let⟨j,e1,k,D⟩:=E2;have hb:=kY (P:=P) c true (len:=X.length) (cap:=cap) lo hi mx K O E1 h1 h2 e1 y k D F0;refine⟨j,D,k,?_⟩;rw[A];simp[Instr.sliceAt,run_underlying hu,Instr.slice,hb,dW A0]
 have T:=h;obtain⟨S,F,c,-⟩:=h;obtain⟨F1,e1,-⟩:=ba c x g u;obtain⟨H,cap,A,n,-⟩:=e1.ll;let⟨j,q1,q2,q3⟩:=J S F H cap c A n;split at hm;cases hm;refine fK T Z Y q3 λS' F' i=>?_;obtain⟨F2,k,-⟩:=ba i x g u;simp only[Rel]at k;obtain⟨rfl,D,-⟩:=k;rw[A]at D;simp only[Value.slice.injEq]at D;obtain⟨rfl,-,rfl⟩:=D;simp only[ad1]at R;have:l=0/\C=0/\j=0:=E;obtain⟨rfl,rfl,rfl⟩:=this;simp[Rel];split at hm;rename_i v;subst v;cases hm;refine fK T Z Y q3 λS' F' i=>?_;obtain⟨F2,k,-⟩:=ba i x g u;rw[A,Rel.aK _ k W]at k;exact QT k y q2 q1 E;cases hm;split at hm;rename_i v;subst v;split at hm;rename_i r g1 g2 p hp;split at hm;cases hm;rename_i F4;cases hm;obtain⟨p1,-,-,-,-,p6,-⟩:=jV c x g u hp;refine⟨_,w,q3,T.HK Z p6 p1 Y λS' F' b z G2 i k1 k2 k3 G1 hS=>?_⟩;obtain⟨-,-,-,-,-,-,L',l1,l2,l3⟩:=jV i x g u hp;rw[k1]at l1;cases l1;have:z=a.eval x:=by
  cases b with
  |val q=>simp only[holds]at k2 l2;rw[k2,l2]
  |addr F3=>have e1:=At.cell k2<|cells_one<|k3.one W;have k:=At.cell l2<|cells_one<|l3 F3 W;simp_all
 rw[this,A]at hS;simp only[AV.cK]at hS;have M:=kO X;rw[<-M]at hS R;exact QT hS y q2 q1 E;cases hm;cases hm;cases hm;cases hm;cases hm;cases hm;cases hm;cases hm
end
section
variable{P:Program}{N:Nat}{w0 w:World}{V:Hid}{S S0:Nat->Prop}{B:Nat->Prop}{σ σ':St}{a:Act}{F:Nat->L Nat}
def M6{b:Nat}{cs:Array Value}{c:Nat×Nat}(h:row? w b=some (cs,c)):∃e,w.heap[b]?=some (.cells cs e c):=by
 unfold row? at h
 grind
def Cg{b:Nat}{cs:Array Value}{e:TypeId}{c:Nat×Nat}(h:w.heap[b]?=some (.cells cs e c)):row? w b=some (cs,c):=by unfold row?;rw[h]
def Rel.PB{f:Fl}{sz:Nat}{xs:L AV}{z:Value}{g:L Nat}(h:Rel w S (.list f sz xs) z g):
 ∃l F',dG w S sz xs l F'/\(∀b∈F',b∈g)/\(g.Nodup->F'.Nodup)/\(((∃c,z=.slice c 0 0)/\xs=[]/\l=[])\/
  ∃c cap,z=.slice (some c) xs.length cap/\c.spot=none/\∀j u,l[j]?=some u->w.cell? (c.add j)=some u):=by
 cases f with
 |nil=>simp[Rel]at h;obtain⟨rfl,rfl,rfl⟩:=h;exact⟨[],[],by simp[dG],I,I,.inl ⟨⟨_,W⟩,W,W⟩⟩
 |shr=>
  rcases h with⟨rfl,⟨c,rfl⟩,rfl⟩|⟨b,i,cap,m,o,rfl,n,d,hc,e,rfl⟩;exact⟨[],[],by simp[dG],I,I,.inl ⟨⟨_,W⟩,W,W⟩⟩;refine⟨_,[],e,I,I,.inr ⟨_,cap,W,W,λj u hu=>?_⟩⟩;rw[cD W,oe W d]
  grind
 |own=>
  rcases h with⟨rfl,rfl,rfl⟩|⟨b,cap,m,F',rfl,d,hc,hm,hs,e,rfl⟩;exact⟨[],[],by simp[dG],I,I,.inl ⟨⟨_,W⟩,W,W⟩⟩;refine⟨_,F',e,λb k=>by simp[k],λhn=>(af6.1 hn).2,.inr ⟨_,cap,W,W,λj u hu=>?_⟩⟩;rw[cD W,oe W d]
  grind
def dG.one(sz:Nat){ti:TI}(c:sz=ti.size):∀{xs:L AV}{l:L Value}{f:L Nat},dG w S sz xs l f->xs.all (fits ti)=true->∀u∈l,u.oneCell'=true
 |[],l,f,h,_=>by simp[dG]at h;grind
 |x::xs,l,f,h,b=>by
  simp only[af5,adS]at b;obtain⟨y,l',q,p,rfl,rfl,m,e,g⟩:=h;intro u hu;rcases aeM.1 hu with hu|hu;unfold fits at b;split at b;obtain⟨o,rfl,hc⟩:=e;rw[bO]at hu;obtain⟨j,k,rfl⟩:=ahJ hu;have d:j<(‹L AV›).length:=by have:=Cells.length hc;omega
  obtain⟨i,A,r,s,-,n,-,hl,-⟩:=Cells.lens j hc<|ad7 d
  grind
  simp at b;have:=e.one b.1.2;rw[cells_one this]at hu;simp_all;exact dG.one sz c g b.2 u hu
def dG.aK(sz:Nat):∀{xs:L AV}{l:L Value}{b:L Nat},dG w S sz xs l b->cz xs=true->b=[]
 |[],l,b,h,_=>by simp[dG]at h;grind
 |x::xs,l,b,h,c=>by simp[cz]at c;obtain⟨y,l',i,g,rfl,rfl,f,e,d⟩:=h;rw[Rel.aK x e c.1,dG.aK _ d c.2];rfl
def A6(t ty e e':TypeId)(i:TypeInfo)(o:P.underlying t=some (.slice e))(hi:P.info? e=some i)
 (g b f:Nat)(cur:Array Value)(p:w.heap[g]?=some (.cells cur e' (0,0)))
 (n:Addr)(m c:Nat)(d:L Value)(hl:d.length=m*i.size)(k:∀j u,d[j]?=some u->w.cell? (n.add j)=some u)(q:∀u∈d,u.oneCell'=true)
 (h:b+m<=f)(l:b*i.size+d.length<=cur.size):
 (Builtin.append_ #[t,t] ty #[.slice (some ⟨g,0,none⟩) b f,.slice (some n) m c]).run P w=
   .ok (.slice (some ⟨g,0,none⟩) (b+m) f) (w.setRow g (cur.toList.take (b*i.size)++d++cur.toList.drop (b*i.size+d.length)).toArray):=by
 simp[Builtin.append_,run_underlying o,sizeOf,typeInfo,hi,Builtin.lenOf,h,run_firstCells_some w _ m n m c _ hl k,Addr.add_lit,run_storeCells_at P g (b*i.size) e' _ 0 cur w p l q]
def Da(z:Array Value)(n:Nat):(Builtin.zeroCells z n).size=n*z.size:=by simp[Builtin.zeroCells]
def sL(w:World)(o:Obj):Below w.heap.size w (w.drew.alloc o):=((Below.refl _ _).drew).alloc I o
def qE{l m z:L Value}{n:Nat}(h:l.length+m.length=n):(l++m++z).take n=l++m:=by grind
def yr{t ty e:TypeId}{ti:TI}{zx zy:Value}{fx:Fl}{F2 y:Nat}{xs ys:L AV}{X q:L Nat}(he:dY P t=some e)(L0:cC P e=some ti)(T0:ti.size≠0)
 (M:Rel w S (.list fx F2 xs) zx X){g:L Value}(r:dG w S y ys g q)(X2:((∃k,zy=.slice k 0 0)/\ys=[]/\g=[])\/
   ∃k cap,zy=.slice (some k) ys.length cap/\k.spot=none/\∀j u,g[j]?=some u->w.cell? (k.add j)=some u)(E1:fx=.nil\/(fx=.own/\F2=ti.size))(P1:ys=[]\/y=ti.size)(H2:ys.all (fits ti)=true)
 (hN:(X++q).Nodup)(hS:∀b,S b->b<w.heap.size)(hFx:∀b∈X,b<w.heap.size/\¬S b)(hFy:∀b∈q,b<w.heap.size)
 (hb1:(xs.length+ys.length)*ti.bytes<=140737488355328)(H1:xs.length+ys.length<=maxLen):
 ∃v w' K,(Builtin.append_ #[t,t] ty #[zx,zy]).run P w=.ok v w'/\Rel w' S (if fx=.nil/\ys=[]then .list .nil 0 []else .list .own ti.size (xs++ys)) v K/\K.Nodup/\
  (∀b∈K,b∈X\/b∈q\/w.heap.size<=b/\b<w'.heap.size)/\w.heap.size<=w'.heap.size/\(∀b,b<w.heap.size->b∉X->w'.heap[b]?=w.heap[b]?)/\
  w'.os=w.os/\w'.tape=w.tape/\w'.output=w.output:=by
 let⟨i,u,z,hi,hu,hz,d,T,H6,V1,K0,hzf⟩:=mU L0;have ht:=jR he;have W1:∀b∈q,b∈q:=λ_ h=>h;have V2:q.Nodup->q.Nodup:=id;have H3:=ad4.1 hN;have H5:xs.length+ys.length<=(2^63-1):=by simp only[maxLen]at H1;omega
 by_cases O:ys=[];subst O;simp only[dG]at r;obtain⟨rfl,rfl⟩:=r;have F3:∀k n c,n<=c->(Builtin.append_ #[t,t] ty #[.slice k n c,zy]).run P w=.ok (.slice k n c) w:=by
  intro k n c hn;have K2:∃F1 c',zy=.slice F1 0 c':=by grind
  obtain⟨F1,c',rfl⟩:=K2;cases k<;>cases F1<;>simp[Builtin.append_,run_underlying ht,sizeOf,typeInfo,hi,Builtin.lenOf,hn,Builtin.firstCells,loadCells,loadCellsFrom,storeCells]
 obtain⟨k,cap,rfl,Z,G1,-⟩:=M.ll;refine⟨_,w,X,F3 k _ _ Z,?_,H3.1,λb l=>.inl l,abY _,λ_ _ _=>rfl,W,W,W⟩;rcases E1 with rfl|⟨rfl,rfl⟩;obtain⟨rfl,rfl,rfl⟩:=G1 W;simp only[Rel]at M;simp[Rel,M.2.2];simpa using M;have f:y=ti.size:=P1.resolve_left O;have C:=dG.length y r;have G0:=dG.one y f r H2;have A:0<ys.length:=ah8.2 O;obtain⟨k,J,rfl,L1,p⟩:∃k cap,zy=.slice (some k) ys.length cap/\k.spot=none/\∀j u,g[j]?=some u->w.cell? (k.add j)=some u:=by simp_all
 have H:∀(m:Nat)(lx:L Value)(s:L Nat),dG w S ti.size xs lx s->(∀b∈s,b∈X)->s.Nodup->m<xs.length+ys.length->
  ∃K,Rel (w.drew.alloc<|.cells (lx.toArray++g.toArray++Builtin.zeroCells z.cells (grownCap w (xs.length+ys.length) m e-(xs.length+ys.length))) e) S (.list .own ti.size<|xs++ys)
   (.slice (some ⟨w.heap.size,0,none⟩) (xs.length+ys.length)<|grownCap w (xs.length+ys.length) m e) K/\K.Nodup/\
   (∀b∈K,b∈X\/b∈q\/w.heap.size<=b/\b<w.heap.size+1):=by
  intro m lx s H4 S4 hnd V0;have A0:=dG.length ti.size H4;have hge:=grownCap_ge w (xs.length+ys.length) m e;have P0:=grownCap_le_maxLen w (xs.length+ys.length) m e H1;generalize grownCap w (xs.length+ys.length) m e=cap at*;refine⟨w.heap.size::(s++q),?_,?_,λb l=>?_⟩;simp only[Rel];refine .inr ⟨w.heap.size,cap,_,s++q,I,nC w.drew _ e,by simp;omega,P0,?_,?_,W⟩;simp only[Array.size_append,List.size_toArray,Da,A0,C,f,K0,<-aer]
  congr 1;omega
  have hE:=dG.append ti.size H4 (f▸r);have F0:=dG.frame ti.size _ (w':=w.drew.alloc<|.cells (lx.toArray++g.toArray++Builtin.zeroCells z.cells (cap-(xs.length+ys.length))) e) hE λb l=>?_;have:(lx.toArray++g.toArray++Builtin.zeroCells z.cells (cap-(xs.length+ys.length))).toList.take ((xs++ys).length*ti.size)=lx++g:=by
   simp only[Array.toList_append];refine qE ?_
   grind
  rw[this];exact F0;have M2:b<w.heap.size:=by grind
  exact re w.drew _ M2
  grind
  grind
 have R:ti.size=i.size:=d;have F4:(if fx=.nil/\ys=[]then AV.list .nil 0 []else .list .own ti.size (xs++ys))=.list .own ti.size (xs++ys):=by simp[O]
 rw[F4];by_cases hq:xs=[]/\zx=.slice none 0 0/\X=[];obtain⟨rfl,rfl,rfl⟩:=hq;clear E1;simp only[ad1,ahY]at*;have hr:=run_append_nil (P:=P) w t ty e i z ht hi hz k ys.length J g (by rw[C,f,d]) p A E (by rw[<-T];omega);let⟨K,g1,g2,g3⟩:=H 0 [] [] (by simp[dG]) I aee A;simp only[ahA,Array.empty_append]at g1 hr⊢;have l:=sL w<|.cells (g.toArray++Builtin.zeroCells z.cells (grownCap w ys.length 0 e-ys.length)) e;exact⟨_,_,K,hr,g1,g2,λb l=>(g3 b l).imp id<|Or.imp id λh=>⟨h.1,gn⟩,l.size,λb E2 _=>l.block b E2,l.os,l.tape,l.output⟩;rcases E1 with rfl|⟨rfl,rfl⟩;simp only[Rel]at M;exact abK M hq;simp only[Rel]at M;rcases M with M|⟨b,cap,x,F',rfl,Y,Z,G3,S1,hE,rfl⟩;exact abK M hq;let⟨e',D⟩:=M6 Y;have A0:=dG.length ti.size hE;by_cases o:xs.length+ys.length<=cap;have G4:xs.length*i.size+g.length<=x.size:=by rw[C,S1,f,<-d,<-aer];exact ad6 _ o
 have hr:=A6 (P:=P) (ty:=ty) t e e' i ht hi b xs.length cap x D k ys.length J g (by rw[C,f,d]) p G0 o G4;have hnb:b∉F'/\b∉q:=by simp_all
 refine⟨_,_,b::(F'++q),hr,?_,?_,λc hc=>?_,I,λc _ hc=>setRow_other w b c _ λe=>hc<|by simp[e],W,W,W⟩;simp only[Rel];have G2:=setRow_heap w b x (x.toList.take (xs.length*i.size)++g++x.toList.drop (xs.length*i.size+g.length)).toArray e' _ D;refine .inr ⟨b,cap,_,F'++q,I,Cg G2,by simp;exact o,G3,?_,?_,W⟩
 grind
 have S2:=dG.append ti.size hE (f▸r);have F0:=dG.frame ti.size _ (w':=w.setRow b (x.toList.take (xs.length*i.size)++g++x.toList.drop (xs.length*i.size+g.length)).toArray) S2 λc hc=>?_;have:(x.toList.take (xs.length*i.size)++g++x.toList.drop (xs.length*i.size+g.length)).toArray.toList.take ((xs++ys).length*ti.size)=x.toList.take (xs.length*ti.size)++g:=by
  rw[R];simp only;refine qE ?_
  grind
 rw[this];exact F0;have M1:c≠b:=by grind
 rw[setRow_other w b c _ M1];simp_all
 grind
 have holds:∀j u,(x.toList.take<|xs.length*ti.size)[j]?=some u->w.cell? ((⟨b,0,none⟩:Addr).add j)=some u:=by
  intro j u hu;rw[cD W,oe W Y]
  grind
 have hr:=run_append_grow (P:=P) w t ty e i z ht hi hz ⟨b,0,none⟩ xs.length cap _ (by rw[A0,d]) holds k ys.length J g (by rw[C,f,d]) p E E
  (growslice_fits E gn)
 let⟨K,g1,g2,g3⟩:=H cap _ F' hE (λc hc=>by simp[hc]) (af6.1 H3.1).2 E;have l:=sL w<|.cells ((x.toList.take<|xs.length*ti.size).toArray++g.toArray++Builtin.zeroCells z.cells (grownCap w (xs.length+ys.length) cap e-(xs.length+ys.length))) e;exact⟨_,_,K,hr,g1,g2,λb l=>(g3 b l).imp id<|Or.imp id λh=>⟨h.1,gn⟩,l.size,λb E2 _=>l.block b E2,l.os,l.tape,l.output⟩
end
section
variable{P:Program}{N:Nat}{w0 w:World}{V:Hid}{S S0:Nat->Prop}{B:Nat->Prop}{σ σ':St}{a:Act}{F:Nat->L Nat}
def yU{sz:Nat}{xs:L AV}{v:Value}{b:L Nat}(h:Rel w S (.list .nil sz xs) v b):xs=[]/\v=.slice none 0 0/\b=[]:=eZ
def KQ{t c ty e f:TypeId}{x y:Value}(d:P.underlying t=some (.slice e))(b:P.underlying c=some (.slice f)):(Builtin.append_ #[t,c] ty #[x,y]).run P w=(Builtin.append_ #[t,t] ty #[x,y]).run P w:=by cases x<;>simp[Builtin.append_,run_underlying d,run_underlying b]
def KR{d t ty:Nat}(h:Inv N V w0 S0 σ a w)(hd:d<N)(x y:Operand)(G4:aO x=true)(M2:aO y=true){ms:L Mv}
 (hm:mP P d t (resolve σ x) (resolve σ y)=some ms)(hr:Mv.runs σ ms=some σ'):Good N V w0 S0 σ' a d ((Builtin.append_ #[t,t] ty #[a.eval x,a.eval y]).run P w):=by
 unfold mP at hm;split at hm;rename_i e he;split at hm;rename_i ti H1;split at hm;cases hm;rename_i E1;split at hm;rename_i fy T C hy;obtain⟨A,D,hm⟩:∃A,(A=[]/\cz C=true\/∃s,A=[s]/\y=.tmp s/\(σ s).av.plain=true)/\(if(C.isEmpty||(T==ti.size&&C.all (fits ti)))&& !A.contains d then
  match(resolve σ x).cont with
  |some (.list .nil _ _)=>if(C.length*ti.bytes)<=2^47/\C.length<=maxLen then
    some [Mv.make A d<|if C.isEmpty then .list .nil 0 []else .list .own ti.size C]else none
  |some (.list .own G3 xs)=>if G3=ti.size/\(xs.length+C.length)*ti.bytes<=2^47/\xs.length+C.length<=maxLen then
    match(resolve σ x).sl.av with
    |.bH r _ _ p=>if r∈A then none else some [.take r d p,.make (d::A) d<|.list .own ti.size<|xs++C]
    |_=>match(resolve σ x).s with
     |some s=>if s∈A then none else some [.make (s::A) d<|.list .own ti.size<|xs++C]
     |none=>none
   else none
  |_=>none
  else none)=some ms:=by
  dsimp only at hm;split at hm;cases hm;rename_i A D;refine⟨A,?_,hm⟩;split at D;simp_all;split at D;rename_i h1 h2;split at D;rename_i s hs;simp only[abL]at D;cases y with
  |tmp o=>
   have X:(resolve σ<|.tmp o).s=some o/\(resolve σ<|.tmp o).sl=σ o:=zaX
   rw[X.1]at hs;simp only[abL]at hs;subst hs;rw[X.2]at h2;exact .inr ⟨o,D.symm,W,by rw[h2];rfl⟩
  |const v=>simp[resolve]at hs
  |func f=>simp[resolve]at hs
  |global g=>simp[resolve]at hs
  ·cases D
  cases D
 have K:∀S F,aT S (c6 V w0) σ (tv V a) w F->∃ly R,dG w S T C ly R/\(((∃ad,a.eval y=.slice ad 0 0)/\C=[]/\ly=[])\/
  ∃ad T0,a.eval y=.slice (some ad) C.length T0/\ad.spot=none/\∀j u,ly[j]?=some u->w.cell? (ad.add j)=some u)/\(∀b∈R,∃m∈A,b∈F m)/\R.Nodup:=by
  intro S F hc;obtain⟨Fy,e1,e2,e3,-⟩:=ba hc y M2 hy;let⟨ly,R,q1,q2,q3,q4⟩:=e1.PB;rcases D with⟨rfl,L0⟩|⟨s,rfl,rfl,H2⟩;exact⟨ly,R,q1,q4,by rw[dG.aK T q1 L0];simp,by rw[dG.aK T q1 L0];exact aee⟩;obtain⟨rfl,-⟩:=e3 s W H2;exact⟨ly,R,q1,q4,λb n=>⟨s,I,q2 b n⟩,q3<|hc.nodup s⟩
 split at hm;rename_i F2;simp only[adS,ahZ,aiD,beq_iff_eq,List.isEmpty_iff]at F2;let⟨S1,S4⟩:=F2;have V0:d∉A:=by simpa using S4
 have F0:C=[]\/T=ti.size:=S1.imp id (·.1);have G0:C.all (fits ti)=true:=by grind
 split at hm;rename_i G3 xs hx;split at hm;rename_i n;cases hm;simp only[kl,abL]at hr;subst hr;let⟨S,F,hc,hN,F1,Z,Y,q⟩:=h;obtain⟨Fx,ex,-⟩:=ba hc x G4 hx;obtain⟨rfl,-,rfl⟩:=yU ex;let⟨ly,R,q1,q2,q3,q4⟩:=K S F hc;let⟨v,w',Fv,r1,r2,r3,r4,r5,r6,r7,r8,r9⟩:=yr (P:=P) (ty:=ty) he H1 E1 ex q1 q2 (.inl W) F0 G0 (by simpa using q4) hc.shr I
  (λb n=>by obtain⟨m,-,hm⟩:=q3 b n;exact(hc.own m b hm).2.1) (by simpa using n.1) (by simpa using n.2)
 have H:Below w.heap.size w w':=⟨r7,r8,r9,r5,λk hk=>r6 k hk I⟩;refine⟨v,w',r1,S,λi=>if i=d then Fv else if i∈A then[]else F i,?_,fa,by rw[fw];exact F1,Z,Y,q.QQ H⟩;rw[mj<|by rw[hN];exact hd];have P0:(if C.isEmpty then AV.list .nil 0 []else .list .own ti.size C)=(if Fl.nil=Fl.nil/\C=[]then AV.list .nil 0 []else .list .own ti.size ([]++C)):=by simp
 rw[P0];exact hc.make A d _ v Fv q.new r5 (λb H6 _=>r6 b H6 I) r3
  (λb n=>(r4 b n).elim (λh=>by cases h) λh=>h.imp (q3 b) id) r2
 simp at hm;rename_i G3 xs hx;split at hm;rename_i n;obtain⟨rfl,M1,L1⟩:=n;split at hm;rename_i r g1 g2 p F4;split at hm;simp at hm;rename_i X2;cases hm;cases x with
 |const v=>simp only[resolve]at F4;have:=fC v;rw[F4]at this;simp[AV.plain]at this
 |func f=>simp[resolve]at F4
 |global g=>simp[resolve,Sl.none]at F4
 |tmp o=>
  have G2:(σ o).av=.bH r g1 g2 p:=by revert F4;simp only[resolve,cF.of];split<;>first|exact id|(intro h;simp[Sl.none]at h)
  let⟨O,K2,K0⟩:=Ap G2 hx;have G1:(σ r).av.plain=true:=by by_cases hp:p=[];subst hp;simp only[bM,abL]at O;rw[O];exact K0;exact K2 hp
  simp only[Mv.runs,Mv.run]at hr;split at hr;rename_i V2 M;cases hr;split at M;simp at M;rename_i S2;rw[O]at M;simp only at M;split at M;rename_i av' hs;cases M;let⟨S,F,hc,hN,F1,Z,Y,q⟩:=h;let⟨l,z,Fx,F',k1,k2,k3,k4,k5,k6⟩:=hc.take r d p S2 G1 O hs;have hz:=DW hc G2 hx k1 k2 k3;let⟨ly,R,q1,q2,q3,q4⟩:=K S F hc;have A0:∀b∈R,∃m∈A,m≠d/\b∈F' m:=by grind
  have E2:(Fx++R).Nodup:=by rw[ad4];refine⟨k5▸k4.nodup d,q4,λb n c H5 e=>?_⟩;subst e;obtain⟨m,-,H4,F3⟩:=A0 b H5;exact k4.dz d m (λe=>H4 e.symm) b (k5▸n) F3
  let⟨v,w',Fv,r1,r2,r3,r4,r5,r6,r7,r8,r9⟩:=yr (P:=P) (ty:=ty) he H1 E1 k3 q1 q2 (.inr G) F0 G0 E2 hc.shr
   (λb n=>(k4.own d b (k5▸n)).2) (λb n=>by obtain⟨m,-,-,hm⟩:=A0 b n;exact(k4.own m b hm).2.1) M1 L1
  have H:tZ V w0 w w':=⟨r7,r8,r9,r5,λk hk H3=>r6 k (aey hk q.size) λn=>zK (k4.own d k (k5▸n)).1 hk H3⟩;rw[hz,<-iq V a (gS G4)]at r1;refine⟨v,w',r1,S,λi=>if i=d then Fv else if i∈d::A then[]else F' i,?_,fa,by rw[fw];exact F1,Z,Y,q.trans H⟩;rw[mj<|by rw[hN];exact hd];have hT:jg (tv V a) d v=jg (jg (tv V a) d z) d v:=by funext i;simp only[jg];split<;>rfl
  rw[hT];refine k4.make (d::A) d _ v Fv q.new r5 (λb H6 F3=>?_) r3 (λb n=>?_) r2;simp_all
  grind
  simp at M;simp at hr
 ·rename_i P1;split at hm;rename_i s hs;split at hm;simp at hm;rename_i W1;cases hm;simp only[kl,abL]at hr;subst hr;obtain⟨o,rfl⟩:∃o,x=.tmp o:=by cases x<;>simp[resolve]at hs;exact⟨_,W⟩
  have X:(resolve σ<|.tmp o).s=some o/\(resolve σ<|.tmp o).sl=σ o:=zaX
  rw[X.1]at hs;simp only[abL]at hs;subst hs;rw[X.2]at P1;have H2:(σ o).av.plain=true:=by
   cases hh:(σ o).av with
   |bH r g1 g2 p=>grind
   |ptr r g1 g2 p=>simp[resolve,cF.of,hh,cF.cont]at hx
   |abs J=>simp[resolve,cF.of,hh,cF.cont,Sl.none]at hx
   |ix g V1=>simp[resolve,cF.of,hh,cF.cont]at hx
   |_=>rfl
  let⟨S,F,hc,hN,F1,Z,Y,q⟩:=h;obtain⟨Fx,ex,-,e3,-⟩:=ba hc (.tmp o) G4 hx;obtain⟨rfl,-⟩:=e3 o W H2;let⟨ly,R,q1,q2,q3,q4⟩:=K S F hc;have A0:∀b∈R,∃m∈A,m≠o/\b∈F m:=by grind
  have E2:(F o++R).Nodup:=by rw[ad4];refine⟨hc.nodup o,q4,λb n c H5 e=>?_⟩;subst e;obtain⟨m,-,H4,F3⟩:=A0 b H5;exact hc.dz o m (λe=>H4 e.symm) b n F3
  let⟨v,w',Fv,r1,r2,r3,r4,r5,r6,r7,r8,r9⟩:=yr (P:=P) (ty:=ty) he H1 E1 ex q1 q2 (.inr G) F0 G0 E2 hc.shr
   (λb n=>(hc.own o b n).2) (λb n=>by obtain⟨m,-,-,hm⟩:=A0 b n;exact(hc.own m b hm).2.1) M1 L1
  have H:tZ V w0 w w':=⟨r7,r8,r9,r5,λk hk H3=>r6 k (aey hk q.size) λn=>zK (hc.own o k n).1 hk H3⟩;refine⟨v,w',r1,S,λi=>if i=d then Fv else if i∈o::A then[]else F i,?_,fa,by rw[fw];exact F1,Z,Y,q.trans H⟩;rw[mj<|by rw[hN];exact hd];refine hc.make (o::A) d _ v Fv q.new r5 (λb H6 F3=>?_) r3 (λb n=>?_) r2;simp_all
  grind
  simp at hm
 simp at hm;simp at hm;simp at hm;simp at hm;simp at hm;simp at hm
end
section
variable{P:Program}{N:Nat}{w0 w:World}{V:Hid}{S S0:Nat->Prop}{B:Nat->Prop}{σ σ':St}{a:Act}{F:Nat->L Nat}
section
variable{p r:Array TypeId}{b:Bool}{d:Nat}{t:TypeId}
def R2(d:Nat)(hu:P.underlying t=some .bool)(x y:Bool)(w:World):(Op.equalIn (d+1) t (.bool x)<|.bool y).run P w=.ok (x==y) w:=m5
def FN(d:Nat){e:TypeId}(hu:P.underlying t=some (.slice e))(x:Q Addr)(n c:Nat)(w:World):(Op.equalIn (d+1) t (.slice x n c)<|.slice none 0 0).run P w=.ok x.isNone w:=zaQ
def FO(d:Nat){e:TypeId}(hu:P.underlying t=some (.pointer e))(x:Q Addr)(w:World):(Op.equalIn (d+1) t (.pointer x)<|.pointer none).run P w=.ok x.isNone w:=zaQ
def aaC(d:Nat)(hu:P.underlying t=some (.func p r b))(f:Fn)(x y:Array Value)(w:World):(Op.equalIn (d+1) t (.func f x y) .nilFunc).run P w=.ok false w:=m5
def PZ(d:Nat)(hu:P.underlying t=some (.func p r b))(w:World):(Op.equalIn (d+1) t .nilFunc .nilFunc).run P w=.ok true w:=m5
def Nu(t:TypeId)(x y:Value):Op.equal t x y=Op.equalIn (9999+1) t x y:=W
theorem VR{op:BinOp}{t:TypeId}{x y v:Value}(X Y:Operand)(h:A4 P op t x y=some v)(w:World):
 (do eqGuard op t X Y x y;binOp op t x y:Sem Value).run P w=.ok v w:=by
 unfold A4 at h;split at h;rename_i k n k' m;rw[eqGuard_at_int];split at h;split at h;simp at h;rename_i hb;simp only[abL]at h;subst h;simp[binOp,Op.shift,hb];split at h;simp at h;rename_i hb;simp only[abL]at h;subst h;simp[binOp,Op.shift,hb];split at h;rename_i hk;subst hk;split at h;simp only[abL]at h;subst h;simp[binOp,Op.intArith];simp only[abL]at h;subst h;simp[binOp,Op.intArith];simp only[abL]at h;subst h;simp[binOp,Op.intArith];split at h;simp at h;rename_i hb;simp only[abL]at h;subst h;simp[binOp,Op.intDiv,hb];split at h;simp at h;rename_i hb;simp only[abL]at h;subst h;simp[binOp,Op.intDiv,hb];simp only[abL]at h;subst h;simp[binOp,Op.intBits];simp only[abL]at h;subst h;simp[binOp,Op.intBits];simp only[abL]at h;subst h;simp[binOp,Op.intBits];simp only[abL]at h;subst h;simp[binOp,Op.intBits];simp only[abL]at h;subst h;simp[binOp,Op.intCmp];simp only[abL]at h;subst h;simp[binOp,Op.intCmp];simp only[abL]at h;subst h;simp[binOp,Op.intCmp];simp only[abL]at h;subst h;simp[binOp,Op.intCmp];simp only[abL]at h;subst h;simp[binOp,Op.intCmp];simp only[abL]at h;subst h;simp[binOp,Op.intCmp];simp at h;simp at h;rename_i s s';rw[eqGuard_at_string];split at h;split at h;simp at h;rename_i hb;simp only[abL]at h;subst h;simp only[Sem.run_bind,Sem.run_pure,Result.andThen_ok,binOp,Op.stringOp,hb,if_false];simp only[abL]at h;subst h;rfl;simp only[abL]at h;subst h;rfl;simp only[abL]at h;subst h;rfl;simp at h;rename_i b b';rw[eqGuard_at_bool];split at h;rename_i hu;split at h;simp only[abL]at h;subst h;simp only[binOp,Sem.run_bind,Sem.run_pure,Result.andThen_ok,Nu,R2 9999 hu];simp only[abL]at h;subst h;simp only[binOp,Sem.run_bind,Sem.run_pure,Result.andThen_ok,Nu,R2 9999 hu];simp at h;simp at h;simp at h
def Tb{op:BinOp}{x y:AV}{c g:Value}{J H:L Nat}(X Y:Operand)(h:isNil P t x y=some b)(i:Rel w S x c J)(o:Rel w S y g H)(cH:op=.eql\/op=.neq):
 (do eqGuard op t X Y c g;binOp op t c g:Sem Value).run P w=.ok (.bool<|if op=.eql then b else !b) w:=by
 have fin:∀u,P.underlying t=some u->(eqGuard op t X Y c g=pure ())->((Op.equal t c g).run P w=.ok b w)->(∀k n,c≠.int k n)->(∀s,c≠.string s)->(∀k n,c≠.float k n)->(∀k n m,c≠.complex k n m)->
  (do eqGuard op t X Y c g;binOp op t c g:Sem Value).run P w=.ok (.bool<|if op=.eql then b else !b) w:=by
  intro u hu C he q l O M;rw[C];rcases cH with rfl|rfl;have:binOp .eql t c g=(do pure (.bool<|←Op.equal t c g)):=zap
  simp[this,he];have:binOp .neq t c g=(do pure (.bool<|!(←Op.equal t c g))):=zap
  simp[this,he]
 unfold isNil at h;split at h;split at h;rename_i f _ K;split at h;rename_i e hu;obtain⟨rfl,rfl,-⟩:=yU o;obtain⟨ad,D,rfl,-,q,l,-⟩:=i.ll;refine fin _ hu (eqGuard_at_slice ..) ?_ I I I I;cases f with
 |nil=>obtain⟨rfl,-,-⟩:=q W;cases h;exact FN 9999 hu _ _ _ w
 |shr=>simp only at h;split at h;cases h;rename_i j;obtain⟨v,A,rfl⟩:=l I (by simpa using j);cases h;exact FN 9999 hu _ _ _ w
 |own=>simp only at h;split at h;cases h;rename_i j;obtain⟨v,A,rfl⟩:=l I (by simpa using j);cases h;exact FN 9999 hu _ _ _ w
 ·cases h
 cases h;split at h;rename_i e hu;obtain⟨-,rfl,-⟩:=o;split at h;cases h;simp only[Rel]at i;obtain⟨v,T,R,F',z,rfl,-⟩:=i;exact fin _ hu (eqGuard_at_pointer ..) (FO 9999 hu _ w) I I I I;cases h;simp[Rel]at i;obtain⟨-,rfl,-⟩:=i;exact fin _ hu (eqGuard_at_pointer ..) (FO 9999 hu _ w) I I I I;cases h;cases h;split at h;rename_i hu;simp[Rel]at o;obtain⟨-,rfl,-⟩:=o;split at h;cases h;simp only[Rel]at i;obtain⟨a',Z,F3,F4,rfl,-⟩:=i;exact fin _ hu (eqGuard_at_func ..) (aaC 9999 hu _ _ _ w) I I I I;cases h;simp[Rel]at i;obtain⟨-,rfl,-⟩:=i;exact fin _ hu (eqGuard_at_nilFunc ..) (PZ 9999 hu w) I I I I;cases h;cases h;cases h
def UJ{t:Nat}{op:BinOp}(h:Inv N V w0 S0 σ a w)(A:d<N)(x y:Operand)(g:aO x=true)(f:aO y=true){j i v:AV}
 (s:(resolve σ x).cont=some j)(q:(resolve σ y).cont=some i)(hm:og P op t j i=some v)(u:Mv.runs σ [.put d v]=some σ'):
 Good N V w0 S0 σ' a d ((do eqGuard op t x y (a.eval x) (a.eval y);binOp op t (a.eval x) (a.eval y):Sem Value).run P w):=by
 have z:∀b,isNil P t j i=some b->(op=.eql/\v=.v (.bool b)\/op=.neq/\v=.v (.bool !b))->Good N V w0 S0 σ' a d ((do eqGuard op t x y (a.eval x) (a.eval y);binOp op t (a.eval x) (a.eval y):Sem _).run P w):=by intro b m D;have n:=h;obtain⟨S,F,hc,-⟩:=h;obtain⟨T,H,-⟩:=ba hc x g s;obtain⟨R,o,-⟩:=ba hc y f q;have c:=Tb (op:=op) x y m H o (by grind);refine fK n A u c λJ K l=>?_;rcases D with⟨rfl,rfl⟩|⟨rfl,rfl⟩<;>simp[Rel,scalar]
 have e:Ps op (isNil P t j i)=some v->Good N V w0 S0 σ' a d ((do eqGuard op t x y (a.eval x) (a.eval y);binOp op t (a.eval x) (a.eval y):Sem Value).run P w):=by
  intro hm;cases m:isNil P t j i with
  |none=>rw[m]at hm;cases op<;>simp[Ps]at hm
  |some b=>cases op<;>simp[Ps]at hm;simp_all;simp_all
 unfold og at hm;split at hm
 ·rename_i O;split at hm
  ·rename_i M;split at hm
   ·rename_i C hs;cases hm;have n:=h;obtain⟨S,F,hc,-⟩:=h;have c:=VR (P:=P) x y hs w;rw[<-(dR hc x g s),<-(dR hc y f q)]at c;refine fK n A u c λJ K l=>?_;have k:scalar C=true:=by
     unfold A4 at hs
     repeat' split at hs
     all_goals first|(cases hs;rfl)|cases hs
    simp[Rel,k]
   exact e hm
  cases hm
 exact e hm
def Vc{op:UnOp}(h:Inv N V w0 S0 σ a w)(j:d<N)(x:Operand)(c:aO x=true){f v:Value}
 (g:(resolve σ x).cont=some (.v f))(hm:uno op f=some v)(i:Mv.runs σ [.put d<|.v v]=some σ'):Good N V w0 S0 σ' a d ((Op.unary op<|a.eval x).run P w):=by
 have l:=h;obtain⟨S,F,hc,-⟩:=h;refine fK (z:=v) l j i ?_ λm n k=>?_;rw[dR hc x c g];unfold uno at hm;split at hm<;>first|(cases hm;simp[Op.unary,Op.intArith,Op.intBits])|cases hm
 have e:scalar v=true:=by unfold uno at hm;split at hm<;>first|(cases hm;rfl)|cases hm
 simp[Rel,e]
end
end
section
variable{P:Program}{N:Nat}{w0 w:World}{V:Hid}{S S0:Nat->Prop}{B:Nat->Prop}{σ σ':St}{a:Act}{F:Nat->L Nat}
def Bt(off:Nat):∀(l:L Value)(k:Nat)(cs:Array Value),off+k+l.length<=cs.size->
 ((l.zipIdx k).foldl (λcs(p:Value×Nat)=>cs.setIfInBounds (off+p.2) p.1) cs).toList=cs.toList.take (off+k)++l++cs.toList.drop (off+k+l.length)
 |[],k,cs,h=>I
 |v::l,k,cs,h=>by
  simp only[List.zipIdx_cons,agf];simp[acC]at h;rw[Bt off l (k+1) _<|by simp;omega];simp only[Array.toList_setIfInBounds];apply aiz;intro j;by_cases d:j<off+k;rw[aen,aen,ahI<|by simp;omega,ahI<|by simp;omega]
  grind
  by_cases b:j=off+k;subst b;rw[aen,aen,ahI<|by simp;omega,ahq<|by simp;omega]
  grind
  by_cases c:j<off+k+1+l.length;rw[aen,aen,ahq<|by simp;omega,ahI<|by simp;omega,ahq<|by simp;omega,ahI<|by simp;omega]
  grind
  rw[ahq<|by simp;omega,ahq<|by simp;omega];simp only[ad9,afS,ahy,ahi,ah5,acC]
  grind
def Ju{xs g:L AV}{cs:Array Value}{m e:L Nat}{o n:Nat}{y:AV}{v:Value}(h:Cells w S true xs cs.toList m)(hs:Eb xs o n y=some g)(l:Rel w S y v e)(H:(m++e).Nodup):
 v.cells.size=n/\o+n<=cs.size/\∃F',Cells w S true g (cs.toList.take o++v.cells.toList++cs.toList.drop (o+n)) F'/\F'.Nodup/\∀b∈F',b∈m\/b∈e:=by
 have i:=Cells.length h;simp at i;unfold Eb at hs;split at hs;rename_i t;obtain⟨A,c,rfl,z,x⟩:=Cells.split o h;obtain⟨C,s,rfl,J,r⟩:=Cells.split n x;rw[ahX,ahX]at r;have d:∀f,Cells w S true f v.cells.toList e->∃F',Cells w S true (xs.take o++f++xs.drop (o+n)) (cs.toList.take o++v.cells.toList++cs.toList.drop (o+n)) F'/\F'.Nodup/\∀b∈F',b∈A++(C++s)\/b∈e:=by
  intro f k;refine⟨A++e++s,Cells.append (Cells.append z k) r,?_,λb D=>?_⟩
  grind
  grind
 split at hs;rename_i f;split at hs;rename_i hl;cases hs;obtain⟨K,rfl,p⟩:=l;have:=Cells.length p;simp at this;exact⟨by rw[bO];omega,E,d f<|by simpa[bO]using p⟩;cases hs;split at hs;rename_i u hc;simp[decide_eq_true_eq]at hc;obtain⟨rfl,hc⟩:=hc;cases hs;have q:=l.one hc;have j:=cells_one q;refine⟨by rw[j];rfl,E,?_⟩;have:=d [y] (by rw[j];exact⟨v,[],e,[],W,I,λ_=>q,l,W,W⟩);rw[List.set_eq_take_append_cons_drop,abx E];simpa using this;cases hs;cases hs
def CH(l:L (Nat×Nat)):∀(is:L Nat)(ys:L AV)(g:L Value){xs c:L AV}{cs:Array Value}{e f:L Nat},is.length=ys.length->Cells w S true xs cs.toList e->
 vq l xs (is.zip ys)=some c->Cells w S false ys g f->(e++f).Nodup->
 ∃cs' F',Instr.fill (l.toArray[·]?) cs (is.zip g)=some cs'/\Cells w S true c cs'.toList F'/\F'.Nodup/\∀b∈F',b∈e\/b∈f
 |[],ys,g,xs,c,cs,e,f,hl,j,d,m,s=>by simp[vq]at d;subst d;exact⟨cs,e,by simp[Instr.fill],j,(ad4.1 s).1,λb u=>.inl u⟩
 |i::is,[],g,xs,c,cs,e,f,hl,j,d,m,s=>by cases hl
 |i::is,y::ys,g,xs,c,cs,e,f,hl,j,d,m,s=>by
  simp[Nat.add_right_cancel_iff]at hl;obtain⟨v,k,K,Fr,rfl,rfl,-,C,D⟩:=m;simp[vq]at d;split at d;rename_i o n H;split at d;rename_i x hs;have r:(e++K).Nodup:=by grind
  let⟨J,R,F',k1,k2,k3⟩:=Ju j hs C r;have h:(v.cells.zipIdx.foldl (λcs(p:Value×Nat)=>cs.setIfInBounds (o+p.2) p.1) cs).toList=cs.toList.take o++v.cells.toList++cs.toList.drop (o+n):=by have:=Bt o v.cells.toList 0 cs (by simp;omega);simp only[ai0,ahi,J]at this;rw[<-this];rw[<-ajp];simp
  have q:(F'++Fr).Nodup:=by grind
  let⟨cs',t,O,A,z,M⟩:=CH l is ys k hl (cs:=v.cells.zipIdx.foldl (λcs(p:Value×Nat)=>cs.setIfInBounds (o+p.2) p.1) cs) (by rwa[h]) d D q;refine⟨cs',t,?_,A,z,λb u=>?_⟩;simp only[List.zip_cons_cons,Instr.fill];simp_all
  grind
  cases d;cases d
def BY{α b c:Type}(l:L (α×b))(f:b->c):(l.map (·.1)).zip (l.map λp=>f p.2)=l.map λp=>(p.1,f p.2):=by grind
def EU{M:L Nat}{d:Nat}{y:AV}{z:Value}{w':World}(h:Inv N V w0 S0 σ a w)(g:d<N)(e:Mv.runs σ [.make M d y]=some σ')(i:Below w.heap.size w w')
 (f:∀S F,aT S (c6 V w0) σ (tv V a) w F->∃c,Rel w' S y z c/\c.Nodup/\∀b∈c,(∃m∈M,b∈F m)\/w.heap.size<=b/\b<w'.heap.size):
 Inv N V w0 S0 σ' (a.put (some d) z) w':=by
 simp[kl]at e;subst e;exact h.make g i f
def N2{d t:Nat}(h:Inv N V w0 S0 σ a w)(hd:d<N)(ps:Array (Nat×Operand))(J:(ps.toList.map (·.2)).all aO=true){ti:TI}(D:cC P t=some ti){z cs:L AV}(hz:ti.zero=.agg z)
 {v:L (Nat×Nat)}(g:placesOf P t=some v){ys:L AV}{M:L Nat}(hg:ij (ps.toList.map λp=>resolve σ p.2)=some (ys,M))(hf:vq v z ((ps.toList.map (·.1)).zip ys)=some cs)
 (hr:Mv.runs σ [.make M d<|.agg cs]=some σ'):Good N V w0 S0 σ' a d ((Instr.build t<|ps.map λ(i,x)=>(i,a.eval x)).run P w):=by
 let⟨i,u,zv,hi,hu,y,H,o,j,Z,E2,A⟩:=mU D;have K:ij ((ps.toList.map (·.2)).map<|resolve σ)=some (ys,M):=by rwa[af9]
 have f:∀S F,aT S (c6 V w0) σ (tv V a) w F->∃cells k,P.built t (ps.map λ(i,x)=>(i,a.eval x)).toList=some cells/\Cells w S true cs cells.toList k/\k.Nodup/\∀b∈k,∃m∈M,b∈F m:=by
  intro S F hc;let⟨Fy,g1,g2,g3⟩:=nE hc _ J K;have l:=jl w S zv A;rw[<-j,hz]at l;obtain⟨zc,rfl,C⟩:=l;have n:=Cells.length g1;let⟨T,k,q1,q2,q3,q4⟩:=CH v _ ys _ (by simp at n⊢;omega) C hf g1 g2;refine⟨T,k,?_,q2,q3,λb Y=>?_⟩;unfold placesOf at g;split at g;rename_i fs O;unfold Program.built;simp only[hi,O,y,g];have e:(ps.map λ(i,x)=>(i,a.eval x)).toList=(ps.toList.map (·.1)).zip ((ps.toList.map (·.2)).map a.eval):=by have:=BY ps.toList a.eval;simpa[Function.comp_def]using this.symm
  rwa[e];cases g;simp_all
 have hI:=h;obtain⟨S,F,hc,-⟩:=h;let⟨cells,k,r1,r2,r3,r4⟩:=f S F hc;refine⟨.agg _,w,run_build w t _ _ r1,EU hI hd hr (.refl _ _) λS' c R=>?_⟩;let⟨q,X,E1,A0,s,r⟩:=f S' c R;refine⟨X,by simp only[Rel];simp_all,s,λb Y=>.inl<|r b Y⟩
end
section
variable{P:Program}{N:Nat}{w0 w:World}{V:Hid}{S S0:Nat->Prop}{B:Nat->Prop}{σ σ':St}{a:Act}{F:Nat->L Nat}
def Yr(w:World)(L:Loc):Prop:=∀a,L=.addr a->∃b,row? w a.block=some (b,(0,0))
def Rel.SP:∀(p:Path){x X y y':AV}{z:Value}{F:List Nat}{L O:Loc},Rel w S x z F->holds w L z->Yr w L->bM x p=some y->fH x p y'=some X->
 loc w L p=some O->Yr w O
 |[],x,X,y,y',z,F,L,O,h,m,M,e,hs,hl=>by simp[loc,abL]at hl;subst hl;exact M
 |s::p,x,X,y,y',z,F,L,O,h,m,M,e,hs,hl=>by
  unfold bM at e;split at e;rename_i f sz xs i Y;split at e;rename_i Z;subst Z;cases f with
  |nil=>simp[fH]at hs
  |shr=>simp[fH]at hs
  |own=>
   let⟨xi,k,e⟩:=abZ.1 e;simp[fH,k,if_true,agb,ahc]at hs;obtain⟨T,hs,rfl⟩:=hs;rcases h with⟨rfl,-,-⟩|⟨b,H2,D,F',rfl,H,hc,hm,E1,hE,rfl⟩;cases k;obtain⟨yi,A0,R,B0,rfl,hy,t,F1,H1,C⟩:=dG.lens sz i hE k;have hA:At w ⟨b,i*sz,none⟩ yi:=gM H λj u hu=>by grind
   rw[loc,du m W I,cH,cD W]at hl;exact Rel.SP p (L:=.addr ⟨b,i*sz,none⟩) t hA (λa r=>by grind) e hs (d8)
  ·cases e
  rename_i own x0;cases own with
  |false=>simp[fH]at hs
  |true=>simp[fH,ahc]at hs;obtain⟨G2,hs,rfl⟩:=hs;obtain⟨b,D,fz,F',z0,rfl,H,t,G3,rfl,rfl⟩:=h;have hA:At w ⟨b,0,none⟩ z0:=gM H λj u hu=>gn;rw[loc,du m W I,cH]at hl;exact Rel.SP p (L:=.addr ⟨b,0,none⟩) t hA (λa r=>by grind) e hs (d8)
  ·rename_i xs o;let⟨xo,J,e⟩:=abZ.1 e;simp[fH,J,agb,ahc]at hs;obtain⟨G1,hs,rfl⟩:=hs;simp[Rel]at h;obtain⟨D,rfl,K⟩:=h;obtain⟨A,A0,R,B0,rfl,h1,t,g,C⟩:=Cells.lens o K J;have F2:=cells_one<|h1 W;have g:D[o]?=some A:=by simpa using g
   have d:∃v,step1 w L (.at o none)=some v/\holds w v A/\Yr w v:=by
    cases L with
    |val q=>simp[holds]at m;subst m;exact⟨.val A,by simp[step1,cH];simp[g],W,λa r=>by cases r⟩
    |addr a=>
     let⟨F3,E2⟩:=M a W;let⟨l,F4,fz,H,hc⟩:=m;refine⟨_,W,?_,?_⟩;rw[cD l];refine gM H λj u hu=>?_;rw[F2]at hu
     match j,hu with
     |0,hu=>cases hu;simpa[bO]using hc o A (by simpa[bO]using g)
     ·rw[cD l];intro a' r;grind
   let⟨v,e1,e2,e3⟩:=d;rw[loc,e1]at hl;exact Rel.SP p t e2 e3 e hs hl
  rename_i xs o n;split at e;rename_i F0;simp[fH,F0,if_true,abZ]at hs;let⟨G0,hs,G4⟩:=hs;simp[Rel]at h;obtain⟨D,rfl,K⟩:=h;obtain⟨A0,c,rfl,c1,c2⟩:=Cells.split o K;obtain⟨R,B0,rfl,d1,d2⟩:=Cells.split n c2;have t:Rel w S (.agg<|(xs.drop o).take n) (.agg<|D.extract o<|o+n) R:=by simp only[Rel];simp_all
  have d:∃v,step1 w L (.at o<|some n)=some v/\holds w v (.agg<|D.extract o<|o+n)/\Yr w v:=by
   cases L with
   |val q=>simp[holds]at m;subst m;exact⟨_,W,W,λa r=>by cases r⟩
   |addr a=>let⟨F3,E2⟩:=M a W;let⟨l,F4,fz,H,hc⟩:=m;refine⟨_,W,?_,?_⟩;rw[cD l];refine gM H λj u hu=>?_;rw[bO,ajl]at hu;split at hu;have:=hc (o+j) u (fr);grind;cases hu;rw[cD l];intro a' r;grind
  let⟨v,e1,e2,e3⟩:=d;rw[loc,e1]at hl;exact Rel.SP p t e2 e3 e hs hl;cases e;rename_i xs i;let⟨xi,k,e⟩:=abZ.1 e;simp[fH,k,agb,ahc]at hs;obtain⟨T,hs,rfl⟩:=hs;simp[Rel]at h;obtain⟨D,rfl,K⟩:=h;obtain⟨A,A0,R,B0,rfl,-,t,g,C⟩:=Cells.lens i K k;have g:D[i]?=some A:=eT
  have d:step1 w L (.de i)=some (.val A):=by rw[du m W I];simp[cH,g]
  rw[loc,d]at hl;exact Rel.SP p (L:=.val A) t W (λa r=>by cases r) e hs hl;rename_i f sz xs Y o n;cases f<;>simp[fH]at hs;cases e
def Hi{z:Value}(h:z.oneCell'=true):∀v∈z.cells.toList,v.oneCell'=true:=by rw[cells_one h];simp[h]
def LH{t:TypeId}{ti:TI}(i:cC P t=some ti){b off:Nat}{cs:Array Value}(j:row? w b=some (cs,(0,0))){f:Value}(g:f.cells.size=ti.size)(k:∀v∈f.cells.toList,v.oneCell'=true)
 (h:off+ti.size<=cs.size):∃w',(storeVar t ⟨b,off,none⟩ f).run P w=.ok () w'/\w'.heap.size=w.heap.size/\Below w.heap.size w w'=Below w.heap.size w w'/\(∀c,c≠b->w'.heap[c]?=w.heap[c]?)/\
   row? w' b=some ((cs.toList.take off++f.cells.toList++cs.toList.drop (off+ti.size)).toArray,(0,0))/\w'=w.setRow b (cs.toList.take off++f.cells.toList++cs.toList.drop (off+ti.size)).toArray:=by
 have hh:∃e,w.heap[b]?=some (.cells cs e (0,0)):=by
  unfold row? at j
  grind
 let⟨e,he⟩:=hh;have d:=run_storeCells_at P b off e _ 0 cs w he (by grind) k;simp only[ahi,g]at d;refine⟨_,?_,?_,W,λc hc=>?_,?_,W⟩;unfold storeVar;simp only[Sem.run_bind,dW i,Result.andThen_ok,g,ne_eq];exact d;simp;simp[World.setRow]
 grind
 have:=setRow_heap w b cs (cs.toList.take off++f.cells.toList++cs.toList.drop (off+ti.size)).toArray e _ he;simp only[row?,this]
end
section
variable{P:Program}{N:Nat}{w0 w:World}{V:Hid}{S S0:Nat->Prop}{B:Nat->Prop}{σ σ':St}{a:Act}{F:Nat->L Nat}
section
variable{y:AV}{ys:L AV}{M:L Nat}{ts:L TypeId}{d t:Nat}{z:Value}
def KK{ti:TI}{b:L Nat}(e:fits ti y=true)(f:Rel w S y z b):∀v∈z.cells.toList,v.oneCell'=true:=by
 unfold fits at e;split at e;obtain⟨o,rfl,g⟩:=f;have:∀(c:L _)(l:List _)(b:L _),Cells w S true c l b->∀v∈l,v.oneCell'=true:=by
  intro c
  induction c with
  |nil=>intro l b h;simp[h.1]
  |cons x c j=>
   intro l b h;obtain⟨y,i,b,p,rfl,rfl,n,m,k⟩:=h
   grind
 exact this _ _ _ g;simp at e;exact Hi<|f.one e.2
def Ln(h:Inv N V w0 S0 σ a w)(x y:Operand)(J:aO x=true)(H:aO y=true){ms:List Mv}
 (hm:xC P t (resolve σ x) (resolve σ y)=some ms)(A:Mv.runs σ ms=some σ'):
 ∃w',(Instr.storeAt t (a.eval x)<|a.eval y).run P w=.ok () w'/\Inv N V w0 S0 σ' a w':=by
 unfold xC at hm;split at hm;rename_i ti K;split at hm;rename_i r g1 g2 p av hx;split at hm;rename_i y0 C;split at hm;rename_i s;split at hm;rename_i y1 M Z;split at hm;rename_i m;cases hm;let⟨S,F,hc,hN,A0,R,O,F0⟩:=h;obtain⟨-,-,rfl,-,u⟩:=lA hc x J hx;let⟨i,hl,he⟩:=u λ_=>⟨y0,C⟩;have hp:=zn C hl;simp[Mv.runs,Mv.run]at A;let⟨Fv,v,q2,q3⟩:=ru hc y H Z;split at A;rename_i F4 b;cases A;split at b;cases b;rename_i T;split at b;rename_i G4 f;cases b;let⟨z,hA,⟨F1,hz⟩,hB,l⟩:=hc.store r M p T hp C f hl v q2 q3;have G0:=wG (by simp[adS]at s;exact s.1) hz;have n:=wG m v;have j:Yr w (.addr i):=by have hR:=hc.rel r;rw[an.aC hp]at hR;exact Rel.SP p (L:=.val<|tv V a r) hR W (λa ha=>by cases ha) C f hl
 let⟨cs,g⟩:=j i W;let⟨G1,F2,fz,c,E1⟩:=hA;rw[g]at c;obtain⟨rfl,rfl⟩:cs=F2/\(0,0)=fz:=f8
 have F3:0<ti.size:=by grind
 have q:fits ti y0=true:=gn;have o:i.off+ti.size<=cs.size:=by
  have Y:z.cells[ti.size-1]?=some (z.cells[ti.size-1]'(by omega)):=agd _
  grind
 obtain⟨w',e1,e2,-,e3,e4,e5⟩:=LH (P:=P) K g n (KK m v) o;let⟨F',E2⟩:=l E (λD=>by
  rcases kU q hz with⟨_,_,rfl,_⟩|⟨e,_⟩;simp[Value.oneCell']at D;rcases kU m v with⟨e',_⟩|⟨_,e'⟩;simp[e]at e';exact e') w' e2 e3 (λG3 G2 h0=>by
  grind)
 refine⟨w',?_,S,F',E2,hN,A0,R,O,?_⟩;have:i=⟨i.block,i.off,none⟩:=by cases i;simp_all
 unfold Instr.storeAt;rw[he];simp[Instr.sureAddr]
 grind
 rw[e5];exact F0.trans ⟨W,W,W,by simp[World.setRow],λk hk X=>setRow_other w i.block k _ λe=>zK hB (e▸hk) (e▸X)⟩;cases b;cases A;cases hm;cases hm;cases hm;cases hm;cases hm;cases hm
def EV{e:TypeId}(h:Inv N V w0 S0 σ a w)(k:d<N)(i:Mv.runs σ [.make M d<|.box true y]=some σ')
 (j:∀S F,aT S (c6 V w0) σ (tv V a) w F->∃f,Rel w S y z f/\f.Nodup/\∀b∈f,∃m∈M,b∈F m):
 Inv N V w0 S0 σ' (a.put (some d)<|.pointer<|some ⟨w.heap.size,0,none⟩) (w.alloc<|.cells z.cells e):=by
 refine EU h k i ((Below.refl _ _).alloc .refl _) λS F hc=>?_;let⟨f,o,n,l⟩:=j S F hc;have g:∀b∈f,b<w.heap.size:=λb c=>by let⟨m,_,hm⟩:=l b c;exact(hc.own m b hm).2.1
 refine⟨w.heap.size::f,?_,af6.2 ⟨λc=>by have:=g _ c;omega,n⟩,λb c=>?_⟩;exact⟨w.heap.size,z.cells,(0,0),f,z,W,nC _ _ _,Rel.frame _ o λb c=>re _ _<|by rcases c with c|c;exact hc.shr b c;exact g b c,W,W,W⟩;rcases adb.1 c with rfl|c
 all_goals simp_all
def Oc(h:Inv N V w0 S0 σ a w)(k:d<N){ti:TI}(f:cC P t=some ti)(j:Mv.runs σ [.make [] d<|.box true ti.zero]=some σ'):
 Good N V w0 S0 σ' a d ((Instr.alloc t true<|.tuple #[]).run P w):=by
 let⟨z,i,c,g,b⟩:=Ef f w;refine⟨_,_,?_,EV (e:=t) h k j λS F hc=>⟨[],by rw[c];exact jl w S z b,I,I⟩⟩;simp[Instr.alloc,i,newVar,newRow]
def UG(h:Inv N V w0 S0 σ a w)(g:d<N)(x:Operand)(b:aO x=true)(f:fE (resolve σ x)=some (y,M))
 (c:Mv.runs σ [.make M d<|.box true y]=some σ'):Good N V w0 S0 σ' a d ((Instr.box t<|a.eval x).run P w):=by
 refine⟨_,_,?_,EV (e:=t) h g c λS F hc=>ru hc x b f⟩;rfl
def Cells.YN{ti:TI}:∀{ys:L AV}{one:Bool}{b:L Value}{F:L Nat},Cells w S one ys b F->ys.all (fits ti)=true->dG w S ti.size ys (b.flatMap (·.cells.toList)) F
 |[],one,b,F,h,_=>by simp[Cells]at h;obtain⟨rfl,rfl⟩:=h;simp[dG]
 |y::ys,one,b,F,h,c=>by obtain⟨z,j,i,g,rfl,rfl,k,e,f⟩:=h;simp only[af5,adS]at c;exact⟨z,_,i,g,W,W,wG c.1 e,e,Cells.YN f c.2⟩
def FD(size:Nat):∀(b:L Value)(k:Nat)(cs:Array Value),(∀v∈b,v.cells.size=size)->(k+b.length)*size<=cs.size->
 Instr.fill (λi=>some (i*size,size)) cs ((List.range' k b.length).zip b)=some (cs.toList.take (k*size)++b.flatMap (·.cells.toList)++cs.toList.drop ((k+b.length)*size)).toArray
 |[],k,cs,_,_=>by simp[Instr.fill]
 |v::b,k,cs,h,hl=>by
  simp[acC]at hl⊢;have e:=h v I;have m:(k+(b.length+1))*size=k*size+size+b.length*size:=by grind
  have l:(k+1+b.length)*size=k*size+size+b.length*size:=by grind
  have j:(k+1)*size=k*size+size:=gz
  simp only[List.range'_succ,List.zip_cons_cons,Instr.fill,e,ne_eq,not_true,decide_false,aiE,decide_eq_true_eq];have c:(v.cells.zipIdx.foldl (λcs(p:Value×Nat)=>cs.setIfInBounds (k*size+p.2) p.1) cs).toList=cs.toList.take (k*size)++v.cells.toList++cs.toList.drop (k*size+size):=by have:=Bt (k*size) v.cells.toList 0 cs (by simp;omega);simp only[ai0,ahi,e]at this;rw[<-this];rw[<-ajp];simp
  have f:(v.cells.zipIdx.foldl (λcs(p:Value×Nat)=>cs.setIfInBounds (k*size+p.2) p.1) cs).size=cs.size:=by rw[<-ahi,c];simp[e];omega
  rw[FD _ b _ _ (λx g=>h x<|by simp[g])<|by rw[f];omega,c,m,l,j];rw[ai1<|by simp[e];omega,ad2<|by simp[e];omega,ajq,ahK<|by simp[e];omega];simp[ad9,afS,ahi,e,ahX,ai2,ahA,aen];omega
def Cells.CF{size:Nat}:∀(b:L Value),(∀v∈b,v.cells.size=size)->(b.flatMap (·.cells.toList)).length=b.length*size
 |[],_=>I
 |v::b,h=>by simp[aer,Cells.CF b λx c=>h x<|by simp[c],h v I];omega
def Cells.uI{ti:TI}:∀{ys:L AV}{one:Bool}{b:L Value}{F:L Nat},Cells w S one ys b F->ys.all (fits ti)=true->∀v∈b,v.cells.size=ti.size
 |[],one,b,F,h,_=>by simp[Cells]at h;grind
 |y::ys,one,b,F,h,e=>by obtain⟨z,l',k,j,rfl,rfl,i,g,f⟩:=h;simp only[af5,adS]at e;intro v c;rcases adb.1 c with rfl|c;exact wG e.1 g;exact Cells.uI f e.2 v c
def Ir{ti:TI}{cs:Array Value}{c:Nat}{e:TypeId}(h:Inv N V w0 S0 σ a w)(p:d<N)(n:Mv.runs σ [.make M d<|.list .own ti.size ys]=some σ')(l:ys.length<=c)(k:c<=maxLen)(j:cs.size=c*ti.size)
 (o:∀S F,aT S (c6 V w0) σ (tv V a) w F->∃g,dG w S ti.size ys (cs.toList.take<|ys.length*ti.size) g/\g.Nodup/\∀b∈g,∃m∈M,b∈F m):
 Inv N V w0 S0 σ' (a.put (some d)<|.slice (some ⟨w.heap.size,0,none⟩) ys.length c) (w.alloc<|.cells cs e):=by
 refine EU h p n ((Below.refl _ _).alloc .refl _) λS F hc=>?_;let⟨g,s,r,q⟩:=o S F hc;have i:∀b∈g,b<w.heap.size:=λb f=>by let⟨m,_,hm⟩:=q b f;exact(hc.own m b hm).2.1
 refine⟨w.heap.size::g,?_,af6.2 ⟨λf=>by have:=i _ f;omega,r⟩,λb f=>?_⟩;exact .inr ⟨w.heap.size,c,cs,g,W,nC _ _ _,l,k,j,dG.frame _ _ s λb f=>re _ _<|by rcases f with f|f;exact hc.shr b f;exact i b f,W⟩;rcases adb.1 f with rfl|f
 all_goals simp_all
def BN{e n:Nat}(h:Inv N V w0 S0 σ a w)(R:d<N)(ps:Array (Nat×Operand))(m:(ps.toList.map (·.2)).all aO=true){ti:TI}(he:dY P t=some e)(k:cC P e=some ti)
 (hg:ij (ps.toList.map λp=>resolve σ p.2)=some (ys,M))(u:ps.toList.map (·.1)=List.range n)(g:ys.all (fits ti)=true)(hn:n*ti.size<=2^24)(s:n<=maxLen)
   (O:Mv.runs σ [.make M d<|.list .own ti.size ys]=some σ'):Good N V w0 S0 σ' a d ((Instr.buildSlice t n<|ps.map λ(i,x)=>(i,a.eval x)).run P w):=by
  have o:ij ((ps.toList.map (·.2)).map<|resolve σ)=some (ys,M):=by rwa[af9]
  let⟨z,K,J,H,D⟩:=Ef k w;have f:ps.size=n:=by have:=aal List.length u;simpa using this
  have X:=h;obtain⟨S,F,hc,-⟩:=h;let⟨Fy,g1,g2,g3⟩:=nE hc _ m o;have l:=Cells.uI g1 g;have r:=Cells.length g1;simp[ahi]at r;have j:(ps.map λ(i,x)=>(i,a.eval x)).toList=(List.range' 0 ((ps.toList.map (·.2)).map a.eval).length).zip ((ps.toList.map (·.2)).map a.eval):=by
   have:=BY ps.toList a.eval;simp[f];rw[<-List.range_eq_range']
   grind
  have q:=Cells.CF _ l;simp only[adZ,ahi,f]at q;have b:∀base:Array Value,base.size=n*ti.size->Instr.fill (λi=>some (i*ti.size,ti.size)) base (ps.map λ(i,x)=>(i,a.eval x)).toList=some (((ps.toList.map (·.2)).map a.eval).flatMap (·.cells.toList)).toArray:=by intro base T;rw[j,FD ti.size _ 0 base l<|by simp[f,T]];simp_all
  refine⟨.slice (some ⟨w.heap.size,0,none⟩) ys.length n,_,?_,Ir (e:=e) X R O E s (c:=n) (cs:=(((ps.toList.map (·.2)).map a.eval).flatMap (·.cells.toList)).toArray) (by simpa using q) λS' F' v=>?_⟩;unfold Instr.buildSlice;simp only[Sem.run_bind,run_underlying<|jR he,Result.andThen_ok,dW k];rw[abl E];by_cases A:n*ti.size=0;simp only[A,if_true,Sem.run_bind,Sem.run_pure,Result.andThen_ok];have:=b ((Array.range 0).map ((#[]:Array Value)[·%(#[]:Array Value).size]!)) (by simp[A]);simp only[this];simp[newRow];omega;simp only[A,if_false,Sem.run_bind,K,Sem.run_pure,Result.andThen_ok];have:=b ((Array.range<|n*ti.size).map (z.cells[·%z.cells.size]!)) I;simp only[this];simp[newRow];omega;let⟨A0,C,Z,Y⟩:=nE v _ m o;have:=Cells.YN C g
  grind
def rY(z:Array Value):∀n,(madeCells z<|n*z.size).toList=(List.replicate n z.toList).flatten
 |0=>by simp[madeCells]
 |n+1=>by
  rw[aiF,List.flatten_cons,<-rY z n];simp[madeCells];rw[show _*z.size=z.size+n*z.size from gz,List.range_add,adW]
  congr 1
  apply aiz;intro j;by_cases b:j<z.size;simp[ahr b,b];simp_all;simp
def xj{x:AV}{z:Value}{sz:Nat}(h:Rel w S x z [])(hs:z.cells.size=sz):∀n,dG w S sz (List.replicate n x) (List.replicate n z.cells.toList).flatten []
 |0=>by simp[dG]
 |n+1=>by exact⟨z,_,[],[],W,W,hs,h,xj h hs n⟩
def Di{e:Nat}(h:Inv N V w0 S0 σ a w)(hd:d<N)(l c:Operand)(hl:aO l=true)(D:aO c=true){ti:TI}(he:dY P t=some e)(g:cC P e=some ti)
 {k K:IntKind}{x y:Int}(h1:(resolve σ l).cont=some (.v<|.int k x))(h2:(resolve σ c).cont=some (.v<|.int K y))(H:0<=x/\x<=y/\y*ti.bytes<=140737488355328/\y<=maxLen/\0<ti.size)
 (R:Mv.runs σ [.make [] d<|.list .own ti.size<|List.replicate x.toNat ti.zero]=some σ'):Good N V w0 S0 σ' a d ((Instr.makeSlice t (a.eval l)<|a.eval c).run P w):=by
 let⟨z,hz,s,f,r⟩:=Ef g w;let⟨i,u,b,p,Z,o,n,Y,X,T⟩:=mU g;have hI:=h;obtain⟨S,F,hc,-⟩:=h;rw[dR hc l hl h1,dR hc c D h2];have q:b=z:=by
  have:(zeroValue e).run P w=.ok b w:=by simp[zeroValue,typeInfo,p,o]
  simp_all
 subst q;have j:=run_make w t e i b (jR he) p o k K x y H.1 H.2.1 (by grind) (by have:=H.2.2.2.1;simp[maxLen]at this;omega);have C:y.toNat<=maxLen:=E;have A:(madeCells b.cells<|y.toNat*i.size).size=y.toNat*ti.size:=by rw[size_madeCells,n]
 refine⟨_,_,j,?_⟩;have key:=Ir (e:=e) hI hd R (cs:=madeCells b.cells<|y.toNat*i.size) (c:=y.toNat) (by simp;omega) C A λJ F' A0=>⟨[],?_,I,I⟩;simpa using key;have m:Rel w J ti.zero b []:=by rw[s];exact jl w J b r
 have:=xj (S:=J) (w:=w) m f x.toNat;have O:y.toNat=x.toNat+(y.toNat-x.toNat):=E;rw[<-n,<-f,rY,O,<-List.replicate_append_replicate,List.flatten_append];rw[ai1 I,ad2 I];exact f▸this
def T3{ty:Nat}(h:Inv N V w0 S0 σ a w)(j:d<N)(x:Operand)(g:aO x=true){c:L Mv}(hm:l8 P d .len (t::ts) [resolve σ x]=some c)(i:Mv.runs σ c=some σ'):
 Good N V w0 S0 σ' a d ((Builtin.len_ (t::ts).toArray ty #[a.eval x]).run P w):=by
 obtain⟨S,F,hc,-⟩:=id h;simp[l8]at hm;split at hm;rename_i s b;split at hm;rename_i hu;cases hm;refine fK (z:=.int .i64 s.size) h j i ?_ (λS F _=>d7);rw[dR hc x g b];simp[Builtin.len_,run_underlying hu,goInt];cases hm;rename_i f sz k b;split at hm;rename_i e hu;cases hm;refine fK (z:=.int .i64 k.length) h j i ?_ (λS F _=>d7);obtain⟨p,m,-⟩:=ba hc x g b;obtain⟨o,n,l,-⟩:=m.ll;rw[l];simp[Builtin.len_,run_underlying hu,goInt];cases hm;cases hm
def TR{ty:Nat}(h:Inv N V w0 S0 σ a w)(g:d<N)(x y:Operand)(e:aO x=true)(c:aO y=true){b:L Mv}(hm:l8 P d .min ts [resolve σ x,resolve σ y]=some b)(f:Mv.runs σ b=some σ'):
 Good N V w0 S0 σ' a d ((Builtin.min_ ts.toArray ty #[a.eval x,a.eval y]).run P w):=by
 obtain⟨S,F,hc,-⟩:=id h;simp[l8]at hm;split at hm;rename_i k u l v j i;split at hm;cases hm;refine fK (z:=.int k<|min u v) h g f ?_ (λS F _=>d7);rw[dR hc x e j,dR hc y c i,run_min_int2]
 grind
 cases hm;grind
def TV{ty:Nat}(h:Inv N V w0 S0 σ a w)(g:d<N)(x y:Operand)(e:aO x=true)(c:aO y=true){b:L Mv}(hm:l8 P d .max ts [resolve σ x,resolve σ y]=some b)(f:Mv.runs σ b=some σ'):
 Good N V w0 S0 σ' a d ((Builtin.max_ ts.toArray ty #[a.eval x,a.eval y]).run P w):=by
 obtain⟨S,F,hc,-⟩:=id h;simp[l8]at hm;split at hm;rename_i k u l v j i;split at hm;cases hm;refine fK (z:=.int k<|max u v) h g f ?_ (λS F _=>d7);rw[dR hc x e j,dR hc y c i,run_max_int2]
 grind
 cases hm;grind
def Cy(h:aT S B σ (tv V a) w F):∀(xs:L Operand),xs.all aO=true->∀{ys:L AV},iZ (xs.map<|resolve σ)=some ys->
 ∀{S':Nat->Prop},(∀b,S b\/(∃i,b∈F i)->S' b)->Cells w S' false ys (xs.map a.eval) []
 |[],_,ys,hl,S',_=>by simp[iZ]at hl;subst hl;simp[Cells]
 |x::xs,e,ys,hl,S',j=>by simp only[af5,adS]at e;simp[iZ]at hl;split at hl;rename_i y k c l;cases hl;unfold aab at c;split at c;rename_i m f;cases c;let⟨n,k1,k2⟩:=ba h x e.1 f;exact⟨_,_,[],[],W,W,I,Rel.share (λb g=>j b<|.inl g) _ k1 λb g=>j b<|.inr<|k2.1 b g,Cy h xs e.2 l j⟩;cases c;cases hl
end
end
section
variable{P:Program}{N:Nat}{w0 w w':World}{V:Hid}{S S0 S':Nat->Prop}{B:Nat->Prop}{σ σ':St}{a:Act}{F:Nat->L Nat}
mutual
theorem Rel.Us:∀(x:AV){y z:Value}{F F':List Nat},Rel w S x y F->Rel w S' x z F'->y.cells=z.cells->F=F'
 |.v _,y,z,F,F',h,k,_=>by simp[Rel]at h k;rw[h.2.2,k.2.2]
 |.list .nil _ _,y,z,F,F',h,k,_=>by simp[Rel]at h k;rw[h.2.2,k.2.2]
 |.list .shr _ _,y,z,F,F',h,k,_=>by rcases h with⟨-,-,h⟩|⟨_,_,_,_,_,_,_,_,_,_,h⟩<;>rcases k with⟨-,-,k⟩|⟨_,_,_,_,_,_,_,_,_,_,k⟩<;>rw[h,k]
 |.list .own sz xs,y,z,F,F',h,k,e=>by rcases h with⟨rfl,rfl,rfl⟩|⟨b,cap,cs,d,rfl,m,-,-,-,g,rfl⟩<;>rcases k with⟨k0,rfl,rfl⟩|⟨O,t,cs',R,rfl,k1,-,-,-,k2,rfl⟩;rfl;simp[Value.cells]at e;simp[Value.cells]at e;obtain⟨rfl,rfl⟩:=e;rw[m]at k1;simp[abL,aeb,abu]at k1;subst k1;rw[dG.Us sz xs g k2]
 |.box own x,y,z,F,F',h,k,e=>by
  obtain⟨b,cs,X,d,u,rfl,m,g,j,r⟩:=h;obtain⟨O,cs',K,R,T,rfl,k1,k2,k3,k4⟩:=k;simp[Value.cells]at e;subst e;rw[m]at k1;cases k1;have:=Rel.Us x g k2 (by rw[j,k3])
  grind
 |.agg xs,y,z,F,F',h,k,e=>zal
 |.de xs,y,z,F,F',h,k,e=>zal
 |.fn f p q,y,z,F,F',h,k,e=>by obtain⟨a,c,C,A,rfl,m,g,rfl⟩:=h;obtain⟨Z,Y,o,n,rfl,k1,k2,rfl⟩:=k;obtain⟨rfl,rfl⟩:=e;rw[Cells.Us p m k1,Cells.Us q g k2]
 |.bH ..,_,_,_,_,h,_,_=>ch
 |.pv _,_,_,_,_,h,k,_=>by simp[Rel]at h k;rw[h.2,k.2]
 |.abs _,_,_,_,_,h,_,_=>ch
 |.ix ..,_,_,_,_,h,_,_=>ch
 |.ob J,y,z,F,F',h,k,e=>by rw[h.2.1,k.2.1];unfold rf;rw[e]
 |.ptr ..,_,_,_,_,h,_,_=>ch
 |.hole,y,z,F,F',h,k,_=>by simp[Rel]at h k;rw[h.2,k.2]
 |.dead,y,z,F,F',h,k,_=>by simp[Rel]at h k;rw[h,k]
theorem Cells.Us:∀(xs:List AV){one i:Bool}{l:List Value}{F F':List Nat},Cells w S one xs l F->Cells w S' i xs l F'->F=F'
 |[],_,_,l,F,F',h,k=>by simp[Cells]at h k;rw[h.2,k.2]
 |x::xs,_,_,l,F,F',h,k=>by obtain⟨y,H,C,A,rfl,rfl,-,j,r⟩:=h;obtain⟨D,s,o,n,e,rfl,-,k3,k4⟩:=k;obtain⟨rfl,rfl⟩:=e;rw[Rel.Us x j k3 W,Cells.Us xs r k4]
theorem dG.Us(sz:Nat):∀(xs:List AV){l:List Value}{F F':List Nat},dG w S sz xs l F->dG w S' sz xs l F'->F=F'
 |[],l,F,F',h,k=>by simp[dG]at h k;rw[h.2,k.2]
 |x::xs,l,F,F',h,k=>by obtain⟨y,H,C,A,rfl,rfl,g,j,r⟩:=h;obtain⟨D,s,o,n,e,rfl,k2,k3,k4⟩:=k;obtain⟨M,rfl⟩:=List.append_inj e (by simp[g,k2]);rw[Rel.Us x j k3<|by simpa using M,dG.Us sz xs r k4]
end
def oR(h:aT S B σ (tv V a) w F){S1:Nat->Prop}(l:∀b,S b->S1 b):∀(xs:List Operand),xs.all aO=true->∀{ys:List AV},iZ (xs.map<|resolve σ)=some ys->
 (∀m∈shares (xs.map<|resolve σ),∃r p,m=.share r p/\∀y z L j,bM (σ r).av p=some y->loc w (.val<|tv V a r) p=some L->holds w L z->(∀u,L=.addr u->z.oneCell'=true)->Rel w S y z j->∀b∈j,S1 b)->
 Cells w S1 false ys (xs.map a.eval) []
 |[],_,ys,hl,_=>by simp[iZ]at hl;subst hl;simp[Cells]
 |x::xs,g,ys,hl,hm=>by
  simp only[af5,adS]at g;simp[iZ]at hl;split at hl;rename_i y n i t;cases hl;unfold aab at i;split at i;rename_i o d;cases i;obtain⟨j,k1,k2,-⟩:=ba h x g.1 d;simp[shares,d]at hm;have c:=oR h l xs g.2 t (λm s=>hm m (by grind))
  refine⟨_,_,[],[],W,W,I,Rel.share l _ k1 λb k=>?_,c⟩;by_cases f:o.aK=true;rw[Rel.aK _ k1 f]at k;cases k;rw[abl f]at hm;split at hm;rename_i r g1 g2 p q;let⟨v,C,e,hm⟩:=hm _<|ahQ ..;obtain⟨A,-,-,-,-,-,L,J,H,D⟩:=jV h x g.1 d q
  grind
  simp_all;cases i;cases hl
def Below.row{w w':World}{n:Nat}(h:Below n w w'){b:Nat}(c:b<n):w'.heap[b]?=w.heap[b]?:=h.block b c
def aT.after(h:aT S B σ (tv V a) w F)(f:Below w.heap.size w w')(j:∀b,S b->S' b)(k:∀b,S' b->S b\/w.heap.size<=b)(g:∀b,S' b->b<w'.heap.size):aT S' B σ (tv V a) w' F:=by
 have d:∀b,(S b\/∃i,b∈F i)->w'.heap[b]?=w.heap[b]?:=λb c=>Below.row f (by rcases c with c|⟨i,c⟩;exact h.shr b c;exact(h.own i b c).2.1);refine h.step ⟨λr=>.refl,λr=>.refl,λr _=>rfl,λr _ _=>⟨λp y e=>⟨y,e⟩,λb c=>d b<|c.elim .inl λc=>.inr ⟨r,c⟩⟩⟩ j
  (λi=>.inl ⟨W,W,W,λb c=>d b<|c.elim .inl λc=>.inr ⟨i,c⟩⟩) h.nodup h.dz (λi b c=>?_) g
 let⟨k1,k2,k3⟩:=h.own i b c
 grind
def Inv.end{d:Q Nat}{y:AV}{z:Value}{n:L Nat}(H:∀x,d=some x->x<N)(t:a.tmps.size=N)(o:a.defers=V.df)(hc:aT S (c6 V w0) σ (tv V a) w F)
 (c:Below w.heap.size w w')(m:mQ V w0 w)(D:∀b,S b->S' b)(C:∀b,S' b->S b\/w.heap.size<=b)(A:∀b,S' b->b<w'.heap.size)
 (O:∀b,S0 b->S b)(M:∀b,S b->S0 b\/c6 V w0 b)(u:Rel w' S' y z n)(hn:n.Nodup)(K:∀b∈n,w.heap.size<=b/\b<w'.heap.size/\¬S' b)
 (f:Mv.runs σ (dS d y [])=some σ'):Inv N V w0 S0 σ' (a.put d z) w':=by
 have l:=hc.after c D C A;have p:=m.QQ c;have k:(∀b,S0 b->S' b)/\(∀b,S' b->S0 b\/c6 V w0 b):=⟨λb c=>D b<|O b c,λb c=>(C b c).elim (M b) λh=>.inr<|m.new b h⟩;cases d with
 |none=>simp[dS,Mv.runs]at f;subst f;exact⟨S',F,l,t,o,k.1,k.2,p⟩
 |some d=>
  simp[dS,kl]at f;subst f;refine⟨S',λi=>if i=d then n else if i∈([]:L Nat)then[]else F i,?_,by rw[size_put];exact t,by rw[fw];exact o,k.1,k.2,p⟩;rw[mj<|by rw[t];exact H d W];have v:=λi b c=>(hc.own i b c).2.1;have q:∀i,∀b∈F i,b∉n:=λi b c J=>by grind
  refine l.step ⟨λr=>?_,λr=>?_,λr g=>?_,λr g _=>?_⟩ (λ_ h=>h) (λi=>?_) (λi=>?_) (λi j s b c=>?_) (λi b c=>?_) A;unfold made
  grind
  unfold made
  grind
  unfold made at g;split at g;simp_all;rename_i e;rw[ar _ _ e];unfold made at g⊢
  grind
  by_cases e:i=d;subst e;right;rw[an.aC<|by unfold made;simp;exact u.plain];simp[made,aG];exact u;left;simp only[made,e,if_false,ahd];exact⟨U,ar _ _ e,U,λ_ _=>trivial⟩;show(if i=d then n else if i∈([]:L Nat)then[]else F i).Nodup;split;exact hn;simp;exact hc.nodup i;simp at c⊢;split at c
  grind
  split;exact q i b c;exact hc.dz i j s b c;simp at c;split at c;have:=K b c;exact⟨m.new b E,this.2.1,this.2.2⟩;exact l.own i b c
def Cd(h:aT S B σ (tv V a) w F):∀(xs:L Operand),xs.all aO=true->∀m∈shares (xs.map<|resolve σ),m=.take 0 0 []\/∃r p,m=.share r p/\(σ r).av.plain=true
 |[],_,m,hm=>by simp[shares]at hm
 |x::xs,b,m,hm=>by
  simp only[af5,adS]at b;have d:=Cd h _ b.2 m;simp[shares]at hm;split at hm;rename_i y c;split at hm;exact d hm;split at hm;rename_i r _ _ p e;obtain⟨-,-,-,-,-,f,-⟩:=jV h x b.1 c e
  grind
  grind
  grind
def Nv(d:Q Nat)(res:AV)(b:L Mv):dS d res b=b++dS d res []:=by cases d<;>simp[dS]
def Cf(σ:St):∀(l m:L Mv),Mv.runs σ (l++m)=(Mv.runs σ l).bind (Mv.runs · m)
 |[],m=>rfl
 |x::l,m=>by
  simp[Mv.runs];cases x.run σ with
  |none=>rfl
  |some b=>exact Cf b l m
def Gr{d:Q Nat}(hG:lW P V w0)(h:Inv N V w0 S0 σ a w)(hd:∀x,d=some x->x<N)(f:Operand)(hf:aO f=true)(asx:L Operand)(O:asx.all aO=true){res:AV}{ms:L Mv}{lK:L Obl}
 (hm:Gs d (resolve σ f) (asx.map<|resolve σ) res=some (ms,lK))(hr:Mv.runs σ ms=some σ')(hs:∀o∈lK,Sound P o.1 o.2.1 o.2.2):
 ∃g first captured,a.eval f=.func (.func g) first captured/\sT P g (first++(asx.map a.eval).toArray++captured) w λv w'=>Inv N V w0 S0 σ' (a.put d v) w':=by
 let⟨S,F,hc,hN,Z,X,T,M⟩:=h;unfold Gs at hm;split at hm
 ·rename_i g first captured G1
  split at hm
  ·rename_i Y;simp[adS]at Y;split at hm
   ·rename_i ys hl;obtain⟨Ff,q1,-⟩:=ba hc f hf G1;obtain⟨af,cf,F1,F2,qe,qa,qc,-⟩:=q1;have G4:=Cells.aK _ qa Y.1;have G3:=Cells.aK _ qc Y.2;subst G4 G3;refine⟨g,af,cf,qe,?_⟩;have main:∀(S1:Nat->Prop),(∀b,S b->S1 b)->(∀b,S1 b->b<w.heap.size)->Cells w S1 false ys (asx.map a.eval) []->Sound P g (first++ys++captured) res->
     sT P g (af++(asx.map a.eval).toArray++cf) w λv w'=>∃S' F',Below w.heap.size w w'/\(∀b,S1 b->S' b)/\(∀b,S' b->S1 b\/w.heap.size<=b)/\(∀b,S' b->b<w'.heap.size)/\
      Rel w' S' res v F'/\F'.Nodup/\∀b∈F',w.heap.size<=b/\b<w'.heap.size/\¬S' b:=by
     intro S1 hS G2 s D;have K:=Cells.append (Cells.append (Cells.mono hS _ qa) s) (Cells.mono hS _ qc)
     have:=D w S1 _ (hG.MN M) G2 (by simpa using K);have e:(af.toList++(asx.map a.eval++cf.toList)).toArray=af++(asx.map a.eval).toArray++cf:=by simp
     simp_all
    split at hm
    ·rename_i A0;split at hm
     ·rename_i F3;cases hm;have s:=oR hc (S1:=S) (λ_ h=>h) asx O hl (by rw[F3];simp);have:=main S (λ_ h=>h) hc.shr s<|hs (g,first++ys++captured,res) I;intro rd o a' next c hK
      refine this rd o a' next c λv w'⟨S',F',k1,k2,k3,k4,k5,k6,k7⟩=>hK v w' ?_
      exact Inv.end hd hN Z hc k1 M k2 k3 k4 X T k5 k6 k7 hr
     ·rename_i m R;cases hm;rw[Nv,Cf]at hr;let⟨H3,u,F4⟩:=abZ.1 hr;have H:∃r p,m=.share r p/\(σ r).av.plain=true:=by
       rcases Cd hc asx O m (by rw[R];simp)with rfl|h;simp[Mv.runs,Mv.run]at u;exact h
      obtain⟨r,p,rfl,G0⟩:=H;simp[Mv.runs,Mv.run]at u;split at u
      ·rename_i H1 n;cases u;split at n
       ·rename_i y hg;split at n
        ·rename_i H5 E1;cases n;let⟨j,z,k,F',k1,k2,k3,k4,k5⟩:=hc.share r p G0 hg E1;have F0:=λb l=>(hc.own r b<|k5 b l).1;have s:=oR hc (S1:=λb=>S b\/b∈k) (λ_ h=>.inl h) asx O hl (by
          rw[R];intro m hm;simp[ah9]at hm;subst hm;refine⟨r,p,W,λy' z' L' F1 e1 e2 e3 e4 t b l=>?_⟩;rw[hg]at e1;cases e1;rw[k1]at e2;cases e2;have hz:z'=z:=by
           cases j with
           |val q=>simp[holds]at k2 e3;rw[k2,e3]
           |addr ad=>
            have ho:=e4 ad W;have A:z.oneCell'=true\/F1=[]:=by
             cases y with
             |agg xs=>simp[Rel]at t;obtain⟨cs,rfl,-⟩:=t;simp[Value.oneCell']at ho
             |de xs=>simp[Rel]at t;obtain⟨cs,rfl,-⟩:=t;simp[Value.oneCell']at ho
             |dead=>simp[Rel]at t;exact .inr t
             |v x=>exact .inl (k3.one W)
             |list f sz xs=>exact .inl (k3.one W)
             |box o x=>exact .inl (k3.one W)
             |fn f x y=>exact .inl (k3.one W)
             |hole=>exact .inl (k3.one W)
             |bH=>simp[Rel]at t
             |ptr=>simp[Rel]at t
             |pv C=>simp[Rel]at t;exact .inr t.2
             |abs J=>simp[Rel]at t
             |ix g H2=>simp[Rel]at t
             |ob J=>exact .inl k3.1
            rcases A with A|A;have e1:=At.cell k2<|cells_one A;have e2:=At.cell e3<|cells_one ho;simp_all;subst A;cases l
          subst hz;rw[Rel.Us _ t k3 W]at l;exact .inr l)
         have:=main (λb=>S b\/b∈k) (λ_ h=>.inl h) k4.shr s<|hs (g,first++ys++captured,res) I;intro rd o a' next c hK
         refine this rd o a' next c λv w'⟨S',H6,l1,l2,l3,l4,l5,l6,l7⟩=>hK v w' ?_
         exact Inv.end hd hN Z k4 l1 M l2 l3 l4 (λb l=>.inl<|X b l) (λb l=>l.elim (T b) λl=>.inr<|F0 b l) l5 l6 l7 F4
        cases n
       cases n
      cases u
     cases hm
    rename_i A0;cases hm;have:=main (λb=>S b\/∃i,b∈F i) (λ_ h=>.inl h) (λb l=>by rcases l with l|⟨i,l⟩;exact hc.shr b l;exact(hc.own i b l).2.1) (Cy hc asx O hl (S':=λb=>S b\/∃i,b∈F i) λb l=>l)<|hs (g,first++ys++captured,res) I;intro rd o a' next c hK
    refine this rd o a' next c λv w'⟨S',F',k1,k2,k3,k4,k5,k6,k7⟩=>hK v w' ?_
    have E2:res.dp=true:=by simpa using A0
    have H4:=hc.shr;exact Inv.end (S':=S) hd hN Z hc k1 M (λ_ h=>h) (λ_ h=>.inl h) (λb l=>aey (hc.shr b l) k1.size) X T (Rel.dp res k5 E2) k6
     (λb l=>⟨(k7 b l).1,(k7 b l).2.1,λhS=>by grind⟩) hr
   cases hm
  cases hm
 cases hm
end
def ni(N:Nat)(o:Oper):Bool:=
 (match o.dst with|some d=>decide (d<N)|none=>true)&&
 match o.op with
 |.move x|.assign x|.box _ x|.nilCheck x|.unOp _ _ x|.convert _ _ x|.field _ x _|.extract x _=>aO x
 |.store _ x y=>aO x&&aO y
 |.load _ x|.fieldAddr _ x _=>aO x
 |.pick c x y=>aO c&&aO x&&aO y
 |.build _ b|.buildSlice _ _ b=>(b.toList.map (·.2)).all aO
 |.binOp _ _ x y _|.makeSlice _ x y|.indexAddr _ x y|.index _ x y=>aO x&&aO y
 |.makeFunc _ p q=>p.toList.all aO&&q.toList.all aO
 |.slice _ x l h m=>aO x&&l.all aO&&h.all aO&&m.all aO&&(m.isNone||h.isSome)
 |.call c=>c.args.toList.all aO&&(match c.callee with|.value f=>aO f|_=>true)
 |.lookup _ m x _=>aO m&&aO x
 |_=>true
section
variable{P:Program}{N:Nat}{w0 w w':World}{V:Hid}{S S0 S':Nat->Prop}{B:Nat->Prop}{σ σ':St}{a:Act}{F:Nat->L Nat}{K:Act->World->Prop}{Q:Exit->Act->World->Prop}
def uw{o:Oper}{d:Nat}(f:o.dst=some d){s:Sem Value}(he:execOp a.eval o=(do pure (.value<|←s)))(e:Good N V w0 S0 σ' a d (s.run P w))(g:∀b w',Inv N V w0 S0 σ' b w'->K b w'):Oper.UT V.rd P o a w K Q:=by let⟨v,w',c,hi⟩:=e;refine ib (v:=v) (w':=w') ?_ ?_;rw[he];simp[c];grind
def YQ{o:Oper}{d:Nat}(f:o.dst=some d){s:Sem Value}(he:(execOp a.eval o).run P w=(s.run P w).andThen λv w'=>.ok (.value v) w')(e:Good N V w0 S0 σ' a d (s.run P w))(g:∀b w',Inv N V w0 S0 σ' b w'->K b w'):Oper.UT V.rd P o a w K Q:=by let⟨v,w',c,hi⟩:=e;refine ib (v:=v) (w':=w') ?_ ?_;rw[he,c];rfl;grind
def dK{m:Option (L Mv)}{b:L Mv}{lK:L Obl}(h:ie m=some (b,lK)):m=some b/\lK=[]:=by
 unfold ie at h
 grind
def zR:∀{xs ys:L cF}{a b:L AV},iZ xs=some a->iZ ys=some b->iZ (xs++ys)=some (a++b)
 |[],ys,a,b,c,d=>by simp[iZ]at c;grind
 |x::xs,ys,a,b,c,d=>by simp[iZ]at c;split at c;rename_i y g f e;cases c;simp[iZ,f,zR e d];cases c
def zQ:∀{xs:L cF}{a:L AV},iZ xs=some a->a.length=xs.length
 |[],a,b=>by simp[iZ]at b;grind
 |x::xs,a,b=>by simp[iZ]at b;split at b;rename_i y e d c;cases b;simp[zQ c];cases b
def sI{one:Bool}:∀{c b:L AV}{l m:L Value},c.length=l.length->Cells w S one (c++b) (l++m) []->Cells w S one c l []/\Cells w S one b m []
 |[],b,[],m,_,h=>⟨by simp[Cells],h⟩
 |[],b,y::l,m,e,h=>by cases e
 |x::c,b,[],m,e,h=>by cases e
 |x::c,b,y::l,m,e,h=>by let⟨y',l',n,k,j,i,g,f,d⟩:=h;obtain⟨rfl,rfl⟩:=j;obtain⟨rfl,rfl⟩:=aia.1 i.symm;let⟨k1,k2⟩:=sI (b6) d;exact⟨⟨y,l,[],[],W,W,g,f,k1⟩,k2⟩
def ag6{α:Type}{x:Array α}{a:α}(h:x.toList=[a]):x=#[a]:=by grind
def ag5{α:Type}{x:Array α}{a b:α}(h:x.toList=[a,b]):x=#[a,b]:=by grind
def UI(h:Inv N V w0 S0 σ a w){o:Oper}{d:Nat}(p:d<N)(k:o.dst=some d){c:Call}(cH:o.op=.call c){b:Builtin}(hc:c.callee=.builtin b)(g:c.args.toList.all aO=true){v:L Mv}
 (hm:l8 P d b c.argTypes.toList (c.args.toList.map<|resolve σ)=some v)(n:Mv.runs σ v=some σ')(q:∀A w',Inv N V w0 S0 σ' A w'->K A w'):Oper.UT V.rd P o a w K Q:=by
 generalize r:c.argTypes.toList=l at hm;have j:c.argTypes=l.toArray:=by rw[<-r]
 cases hl:c.args.toList with
 |nil=>rw[hl]at hm;simp[l8]at hm
 |cons x i=>
  rw[hl]at hm g;simp only[af5,adS]at g;cases i with
  |nil=>
   have f:=ag6 hl;cases b<;>try(simp[l8]at hm;done)
   cases l with
   |nil=>simp[l8]at hm
   |cons t l=>refine YQ (s:=Builtin.len_ c.argTypes o.type #[a.eval x]) k ?_ ?_ q;simp[execOp,cH,Go.resolve,hc,f,invoke,builtin];rw[j];exact T3 h p x g.1 hm n
  |cons y i=>
   simp[af5,adS]at g;cases i with
   |nil=>
    have f:=ag5 hl;cases b<;>try(simp[l8]at hm;done)
    cases l with
    |nil=>simp[l8]at hm
    |cons t l=>cases l with
     |nil=>simp[l8]at hm
     |cons C l=>cases l with
      |cons _ _=>simp[l8]at hm
      |nil=>
       simp[l8,ad3,ahj]at hm;split at hm;rename_i D u;refine YQ (s:=Builtin.append_ c.argTypes o.type #[a.eval x,a.eval y]) k ?_ ?_ q;simp[execOp,cH,Go.resolve,hc,f,invoke,builtin];rw[j];cases m:dY P t with
       |none=>simp[mP,m]at hm
       |some e=>rw[KQ (jR m)<|jR u];exact KR h p x y g.1 g.2.1 hm n
       ·cases hm
    ·refine YQ (s:=Builtin.max_ c.argTypes o.type #[a.eval x,a.eval y]) k ?_ ?_ q
     ·simp[execOp,cH,Go.resolve,hc,f,invoke,builtin]
     rw[j];exact TV h p x y g.1 g.2.1 hm n
    refine YQ (s:=Builtin.min_ c.argTypes o.type #[a.eval x,a.eval y]) k ?_ ?_ q;simp[execOp,cH,Go.resolve,hc,f,invoke,builtin];rw[j];exact TR h p x y g.1 g.2.1 hm n
   |cons z i=>cases b<;>simp[l8]at hm
def TC(hG:lW P V w0)(h:Inv N V w0 S0 σ a w)(o:Oper)(j:ni N o=true){res:AV}{ms:L Mv}{lK:L Obl}(hm:De P σ o res=some (ms,lK))(C:Mv.runs σ ms=some σ')
 (hs:∀o∈lK,Sound P o.1 o.2.1 o.2.2)(H:∀a' w',Inv N V w0 S0 σ' a' w'->K a' w'):Oper.UT V.rd P o a w K Q:=by
 unfold ni at j;rw[adS]at j;let⟨D,j⟩:=j;unfold De at hm;split at hm;rename_i u;split at hm;rename_i t x y cH;rw[cH]at j;obtain⟨A,rfl⟩:=dK hm;replace hm:=A;let⟨w',h1,h2⟩:=Ln h x y (Bool.and_eq_true_iff.1 j).1 (Bool.and_eq_true_iff.1 j).2 hm C;refine Oper.qZ (by simp[cH]) ?_;have:(execOp a.eval o).run P w=.ok .skip w':=by simp[execOp,cH,h1]
 rw[this];show K (a.put o.dst undef) w';rw[u];exact H _ _ h2;rename_i c cH;rw[cH]at j;split at hm;rename_i f hc;simp only[hc,adS]at j;let⟨g,p,q,T,e2⟩:=Gr hG h (d:=none) I f j.2 c.args.toList j.1 hm C hs;have X:execOp a.eval o=callFunc g (p++(c.args.toList.map a.eval).toArray++q):=zai
 refine Oper.qZ (by simp[cH]) ?_;rw[X];refine e2 _ o a K Q λv w' hi=>?_;simp_all;cases hm;cases hm;rename_i d u;simp only[u,decide_eq_true_eq]at D;split at hm;rename_i x cH;rw[cH]at j;obtain⟨A,rfl⟩:=dK hm;replace hm:=A;refine ib (v:=a.eval x) (w':=w) (by simp[execOp,cH]) ?_;rw[u];exact H _ _<|nw h D x j hm C;rename_i x cH;rw[cH]at j;obtain⟨S,F,R,-⟩:=id h;split at hm;rename_i o1 x1 O;obtain⟨A,rfl⟩:=dK hm;replace hm:=A;obtain⟨F1,hR,-⟩:=ba R x j O;simp only[Rel]at hR;obtain⟨b,cs,fz,F',z,T,-⟩:=hR;refine ib (v:=a.eval x) (w':=w) (by simp[execOp,cH,T]) ?_;rw[u];exact H _ _<|nw h D x j hm C;rename_i g p q O;obtain⟨A,rfl⟩:=dK hm;replace hm:=A;obtain⟨F1,hR,-⟩:=ba R x j O;simp only[Rel]at hR;obtain⟨p',q',F1,F2,T,-⟩:=hR;refine ib (v:=a.eval x) (w':=w) (by simp[execOp,cH,T]) ?_;rw[u];exact H _ _<|nw h D x j hm C;split at hm;split at hm;rename_i q hq;obtain⟨A,rfl⟩:=dK hm;replace hm:=A;let⟨r,g1,g2,p,av⟩:=q;obtain⟨-,-,-,⟨ad,T⟩,-⟩:=lA R x j hq;refine ib (v:=a.eval x) (w':=w) (by simp[execOp,cH,T]) ?_;rw[u];exact H _ _<|nw h D x j hm C;cases hm;cases hm;rename_i x cH;rw[cH]at j;obtain⟨A,rfl⟩:=dK hm;replace hm:=A;refine ib (v:=a.eval x) (w':=w) (by simp[execOp,cH]) ?_;rw[u];exact H _ _<|KP h D x j hm C;rename_i c x y cH;simp only[cH,adS]at j;obtain⟨S,F,R,-⟩:=id h;split at hm;rename_i b O;have hb:=dR R c j.1.1 O;split at hm;obtain⟨A,rfl⟩:=dK hm;replace hm:=A;refine ib (v:=a.eval x) (w':=w) (by simp[execOp,cH,hb,asBool]) ?_;rw[u];exact H _ _<|nw h D x j.1.2 hm C;obtain⟨A,rfl⟩:=dK hm;replace hm:=A;refine ib (v:=a.eval y) (w':=w) (by simp[execOp,cH,hb,asBool]) ?_;rw[u];exact H _ _<|nw h D y j.2 hm C;cases hm;rename_i t cH;split at hm;rename_i ti J;cases hm;exact uw u (bD) (Oc h D J C) H;cases hm;rename_i t x cH;rw[cH]at j;split at hm;split at hm;rename_i y M Z;split at hm;cases hm;exact uw u (bD) (UG (t:=t) h D x j Z C) H;cases hm;cases hm;cases hm;rename_i t ps cH;rw[cH]at j;split at hm;rename_i ti J;split at hm;rename_i z hz;split at hm;rename_i pl E1;split at hm;rename_i ys M Z;split at hm;rename_i cs hf;cases hm;exact uw u (bD) (N2 h D ps j J hz E1 Z hf C) H;cases hm;cases hm;cases hm;cases hm;cases hm;rename_i t n ps cH;rw[cH]at j;split at hm;rename_i e he;split at hm;rename_i ti J;split at hm;rename_i ys M Z;split at hm;rename_i hc;cases hm;exact uw u (bD) (BN h D ps j he J Z hc.1 hc.2.1 hc.2.2.1 hc.2.2.2 C) H;simp at hm;simp at hm;simp at hm;simp at hm;rename_i t x cH;rw[cH]at j;obtain⟨A,rfl⟩:=dK hm;replace hm:=A;exact uw u (bD) (PA h D x j hm C) H;rename_i t x f cH;rw[cH]at j;obtain⟨A,rfl⟩:=dK hm;replace hm:=A;exact uw u (bD) (Dm h D x j hm C) H;rename_i t x f cH;rw[cH]at j;obtain⟨A,rfl⟩:=dK hm;replace hm:=A;exact uw u (bD) (Nn h D x j hm C) H;rename_i t x i cH;simp only[cH,adS]at j;obtain⟨A,rfl⟩:=dK hm;replace hm:=A;exact uw u (bD) (Dl h D x i j.1 j.2 hm C) H;rename_i t x i cH;simp only[cH,adS]at j;obtain⟨A,rfl⟩:=dK hm;replace hm:=A;exact uw u (bD) (MW h D x i j.1 j.2 hm C) H;rename_i x i cH;rw[cH]at j;obtain⟨A,rfl⟩:=dK hm;replace hm:=A;exact uw u (bD) (G7 h D x j hm C) H;rename_i op t x y t' cH;simp only[cH,adS]at j;split at hm;rename_i ax X;split at hm;rename_i ay hy;split at hm;rename_i v hv;cases hm;exact uw u (bD) (UJ h D x y j.1 j.2 X hy hv C) H;simp at hm;simp at hm;simp at hm;rename_i op t x cH;rw[cH]at j;split at hm;rename_i vx X;split at hm;rename_i v hv;cases hm;exact uw u (bD) (Vc h D x j X hv C) H;simp at hm;simp at hm;rename_i s t x cH;rw[cH]at j;obtain⟨A,rfl⟩:=dK hm;replace hm:=A;exact uw u (bD) (Qg h D x j hm C) H;rename_i t x l hh m cH;simp only[cH,adS,Option.all_eq_true,aiD,Option.isNone_iff_eq_none]at j;obtain⟨A,rfl⟩:=dK hm;replace hm:=A;exact uw u (bD) (LA h D x l hh m j.1.1.1.1 j.1.1.1.2 j.1.1.2 j.1.2 j.2 hm C) H;rename_i t l c cH;simp only[cH,adS]at j;split at hm;rename_i e he;split at hm;rename_i ti J;split at hm;rename_i k x k' y h1 h2;split at hm;rename_i hb;cases hm;exact uw u (bD) (Di h D l c j.1 j.2 he J h1 h2 hb C) H;simp at hm;simp at hm;simp at hm;simp at hm;rename_i f p q cH;simp only[cH,adS]at j;split at hm;rename_i ap aq hp hq;split at hm;rename_i A0;cases hm;refine uw (s:=Instr.makeFunc f (p.map a.eval)<|q.map a.eval) u (bD) (fK (z:=.func f (p.map a.eval)<|q.map a.eval) h D C W λS F hc=>?_) H;have Y:shares ((p.toList++q.toList).map<|resolve σ)=[]:=by simpa using A0
 have E2:∀(x:Operand),x∈p.toList++q.toList->aO x=true:=by grind
 have hl:iZ ((p.toList++q.toList).map<|resolve σ)=some (ap++aq):=by rw[adW];exact zR hp hq
 have:=oR hc (S1:=S) (λ_ h=>h) (p.toList++q.toList) (afY.2 E2) hl (by rw[Y];simp);rw[adW]at this;let⟨c1,c2⟩:=sI (by rw[zQ hp];simp) this;simp only[Rel];exact⟨_,_,[],[],W,by simpa using c1,by simpa using c2,W⟩;simp at hm;simp at hm;rename_i c cH;rw[cH]at j;split at hm;rename_i f hc;simp only[hc,adS]at j;let⟨g,p,q,T,e2⟩:=Gr hG h (d:=some d) (by simpa using D) f j.2 c.args.toList j.1 hm C hs;have X:execOp a.eval o=callFunc g (p++(c.args.toList.map a.eval).toArray++q):=zai
 refine Oper.qZ (by simp[cH]) ?_;rw[X];refine e2 _ o a K Q λv w' hi=>?_;simp_all;rename_i b hc;obtain⟨A,rfl⟩:=dK hm;replace hm:=A;simp only[hc,Bool.and_true]at j;exact UI h D u cH hc j hm C H;simp at hm;simp at hm
end
def Mv.keys:Mv->L Nat
 |.share r _=>[r]
 |.take r n _=>[r,n]
 |.make M n _=>n::M
 |.put n _=>[n]
 |.store r _ M _=>r::M
 |.back R=>R.map (·.1)
def bA:L Mv->L Nat
 |[]=>[]
 |m::a=>m.keys++bA a
def C4{σ:St}:∀{R:L (Nat×AV)}{s:Nat},s∉R.map (·.1)->lS σ R s=σ s
 |[],s,_=>rfl
 |(r,y)::R,s,h=>by simp only[ad3,adb,not_or]at h;simp[lS];rw[ar _ _ h.1,C4 h.2]
def Mv.HP{σ f τ:St}(m:Mv)(h:∀s∈m.keys,τ s=σ s)(a:m.run σ=some f):∃b,m.run τ=some b/\(∀s∈m.keys,b s=f s)/\∀s,s∉m.keys->b s=τ s:=by
 cases m with
 |share r p=>simp[Mv.keys,ah9,forall_eq]at h;simp[Mv.run]at a⊢;rw[h];split at a;split at a;cases a;refine⟨_,W,?_,?_⟩;simp[Mv.keys,aG];intro s hs;simp[Mv.keys,ah9]at hs;exact ar _ _ hs;cases a;cases a
 |take r n p=>simp[Mv.keys,adb,ahd,or_false,forall_eq_or_imp,forall_eq]at h;simp only[Mv.run]at a⊢;rw[h.1];split at a;cases a;rename_i c;simp[c,if_false];split at a;split at a;cases a;refine⟨_,W,?_,?_⟩;intro s hs;simp[Mv.keys,adb,ahd,or_false]at hs;rcases hs with rfl|rfl;rw[ar _ _ λe=>c e.symm,ar _ _ λe=>c e.symm,aG,aG];rw[aG,aG,h.2];intro s hs;simp[Mv.keys,adb,ahd,or_false,not_or]at hs;rw[ar _ _ hs.2,ar _ _ hs.1];cases a;cases a
 |make M n y=>simp only[Mv.run,abL]at a⊢;subst a;refine⟨_,W,?_,?_⟩;intro s hs;have hn:=h n (by simp[Mv.keys]);simp[made,hn,h s hs];intro s hs;simp[Mv.keys,adb,not_or]at hs;simp[made,hs.1,hs.2,if_false]
 |put n y=>simp only[Mv.run,abL]at a⊢;subst a;have hn:=h n (by simp[Mv.keys]);refine⟨_,W,?_,?_⟩;intro s hs;simp[Mv.keys,ah9]at hs;subst hs;rw[aG,aG,hn];intro s hs;simp[Mv.keys,ah9]at hs;exact ar _ _ hs
 |store r p M y=>have g:=h r (by simp[Mv.keys]);simp only[Mv.run]at a⊢;rw[g];split at a;cases a;rename_i i;simp[i,if_false];split at a;rename_i av k;cases a;refine⟨_,W,?_,?_⟩;intro s hs;simp[stored,g,h s hs];intro s hs;simp[Mv.keys,adb,not_or]at hs;simp[stored,hs.1,hs.2,if_false];cases a
 |back R=>
  simp only[Mv.run,abL]at a⊢;subst a;refine⟨_,W,?_,λs hs=>C4 hs⟩;have:∀(d:List _),(∀s∈d.map (·.1),τ s=σ s)->∀s∈d.map (·.1),lS τ d s=lS σ d s:=by
   intro d
   induction d with
   |nil=>intro _ s hs;cases hs
   |cons q d o=>
    intro j s hs;simp only[ad3,adb,forall_eq_or_imp]at j hs;simp[lS];by_cases e:s=q.1;subst e;rw[aG,aG,j.1];rw[ar _ _ e,ar _ _ e]
    grind
  exact this R h
def s9:∀(c:L Mv){σ b τ:St},(∀s∈bA c,τ s=σ s)->Mv.runs σ c=some b->∃a,Mv.runs τ c=some a/\(∀s∈bA c,a s=b s)/\∀s,s∉bA c->a s=τ s
 |[],σ,b,τ,h,d=>by simp[Mv.runs]at d;exact⟨τ,W,by grind⟩
 |m::c,σ,b,τ,h,d=>by
  simp[Mv.runs]at d⊢;split at d;rename_i o f;let⟨l,k1,k2,k3⟩:=m.HP (λs hs=>h s<|by simp[bA,hs]) f;let⟨g,k,v,t⟩:=m.HP (λs hs=>rfl) f;rw[f]at k;cases k;have e:=λs hs=>by by_cases hm:s∈m.keys;exact k2 s hm;rw[k3 s hm,t s hm,h s hs]
  let⟨a,q,p,i⟩:=s9 c (λs hs=>e s<|by simp[bA,hs]) d;let⟨n,j,u,r⟩:=s9 c (λs hs=>rfl) d;rw[d]at j;cases j;rw[k1];refine⟨a,q,λs hs=>?_,λs hs=>?_⟩;by_cases hm:s∈bA c;exact p s hm;rw[i s hm,r s hm,e s hs];simp[bA]at hs;rw[i s hs.2,k3 s hs.1];cases d
def xI{b:L Mv}{σ a:St}(h:Mv.runs σ b=some a){s:Nat}(hs:s∉bA b):a s=σ s:=by obtain⟨c,e,-,d⟩:=s9 b (λ_ _=>rfl) h;grind
def roots(σ:St)(t:Nat):L Nat:=
 match(σ t).av with
 |.bH r _ _ _=>[t,r]
 |.ptr r _ _ _=>[t,r]
 |.ix _ a=>t::a.map (·.1)
 |_=>[t]
def uo(σ:St):Operand->L Nat
 |.tmp t=>roots σ t
 |_=>[]
def resolve_congr{σ τ:St}(x:Operand)(h:∀s∈uo σ x,τ s=σ s):resolve τ x=resolve σ x:=by
 cases x with
 |tmp t=>
  have b:=h t (by simp[uo,roots];grind);simp[resolve,cF.of,b];cases a:(σ t).av with
  |bH r _ _ p=>simp only;rw[h r<|by simp only[uo,roots,a];simp]
  |ptr r _ _ p=>simp only;rw[h r<|by simp only[uo,roots,a];simp]
  |_=>rfl
 |_=>rfl
def mk:L (Nat×Sl)->St
 |[]=>λ_=>⟨.dead,0,0⟩
 |(d,x)::l=>λi=>if i=d then x else mk l i
def entry:Nat->L AV->L (Nat×Sl)
 |_,[]=>[]
 |k,x::xs=>(k,⟨x,0,0⟩)::entry (k+1) xs
def sn:∀(xs:L AV)(k i:Nat),mk (entry k xs) i=if k<=i then(match xs[i-k]?with|some x=>⟨x,0,0⟩|none=>⟨.dead,0,0⟩)else⟨.dead,0,0⟩
 |[],k,i=>by simp[entry,mk]
 |x::xs,k,i=>by
  simp[entry,mk];rw[sn _ _ i]
  grind
def Bh:∀(l m:L (Nat×Sl))(i:Nat),i∉l.map (·.1)->mk (l++m) i=mk m i
 |[],m,i,_=>rfl
 |(d,x)::l,m,i,h=>by simp only[ad3,adb,not_or]at h;simp[mk,h.1];exact Bh l m i h.2
def vc:∀(l m:L (Nat×Sl))(i:Nat),i∈l.map (·.1)->mk (l++m) i=mk l i
 |[],m,i,h=>by cases h
 |(d,x)::l,m,i,h=>by simp only[ad3,adb]at h;simp[mk];by_cases e:i=d;simp[e];simp[e];exact vc l m i<|h.resolve_left e
def tS:∀(xs:L AV)(k i:Nat),i∈(entry k xs).map (·.1)↔k<=i/\i<k+xs.length
 |[],k,i=>by simp[entry]
 |x::xs,k,i=>by simp[entry,tS _ _ i];omega
def both(args H:L AV):St:=mk<|entry 0 args++entry 500 H
def fT{args H:L AV}{i:Nat}(h:i<500):both args H i=match args[i]?with|some x=>⟨x,0,0⟩|none=>⟨.dead,0,0⟩:=by unfold both;by_cases hi:i<args.length;rw[vc _ _ _<|(tS _ 0 i).2 ⟨E,E⟩,sn];simp;rw[Bh _ _ _ (λhh=>by have:=(tS _ 0 i).1 hh;omega),sn,abl E,agc E]
def fi{args H:L AV}(b:args.length<=500)(k:Nat):both args H (500+k)=match H[k]?with|some x=>⟨x,0,0⟩|none=>⟨.dead,0,0⟩:=by unfold both;rw[Bh _ _ _ (λhh=>by have:=(tS _ 0 _).1 hh;omega),sn];simp
def Qt{args H:L AV}:∀i,(both args H i).g1=0/\(both args H i).g2=0:=by
 intro i;have:∀(l:List _),(∀q∈l,q.2.g1=0/\q.2.g2=0)->(mk l i).g1=0/\(mk l i).g2=0:=by
  intro l
  induction l with
  |nil=>intro _;simp[mk]
  |cons q l d=>
   simp[mk]
   grind
 refine this _ λq c=>?_;have hh:∀(b:L _)(k:Nat),∀q∈entry k b,q.2.g1=0/\q.2.g2=0:=by
  intro b
  induction b with
  |nil=>intro k q c;simp[entry]at c
  |cons x b d=>
   intro k q c;simp[entry]at c
   grind
 grind
def a7(V:Hid)(b:L Value):Nat->Value:=λi=>if i<500 then b.getD i undef else V.v i
def KY(P:Program)(f:FuncId)(H args d:L AV)(r:AV):Prop:=
 ∀(w:World)(S:Nat->Prop)(V:Hid)(c:L Value)(F:Nat->L Nat),c.length=args.length->lW P V w->aT S V.g (both args H) (a7 V c) w F->
  sT P f c.toArray w λv w'=>∃S' e,tZ V w w w'/\(∀b,S b->S' b)/\(∀b,S' b->S b\/c6 V w b)/\aT S' (c6 V w) (both [r] d) (a7 V [v]) w' e
abbrev sV:=World->(Nat->Prop)->L Nat->Prop
def sV.here(J:sV)(w:World)(S:Nat->Prop)(F:L Nat):Prop:=∀w' S',(∀b,S b\/b∈F->w'.heap[b]?=w.heap[b]?)->(∀b,S b->S' b)->J w' S' F
def Yields(P:Program)(J J':sV)(x:L AV)(b:Bool)(v:Value):Prop:=
 ∃l,v=.func (.yield l) #[] #[]/\∀(rd:Q Nat)(w:World)(S:Nat->Prop)(F:L Nat)(f:L Value),Laid P w->C6 P (·∈F)->J.here w S F->F.Nodup->(∀c∈F,c<w.heap.size/\¬S c)->(∀c,S c->c<w.heap.size)->Cells w S false x f []->
  YieldAt (FW rd) 0 P l f.toArray w λe w'=>e=.returned (.bool b)/\∃S' d,w'.os=w.os/\w'.tape=w.tape/\w'.output=w.output/\w.heap.size<=w'.heap.size/\(∀k,k<w.heap.size->k∉F->w'.heap[k]?=w.heap[k]?)/\
   (∀c,S c->S' c)/\(∀c,S' c->S c\/w.heap.size<=c\/c∈F)/\(∀c,S' c->c<w'.heap.size)/\J'.here w' S' d/\d.Nodup/\∀c∈d,(w.heap.size<=c\/c∈F)/\c<w'.heap.size/\¬S' c
def UQ(P:Program)(g:FuncId)(C:Value->Prop)(J J':sV)(x:L AV)(r:AV):Prop:=
 ∀(v:Value),C v->∀(w:World)(S:Nat->Prop)(F:L Nat)(d:L Value),Laid P w->C6 P (·∈F)->J.here w S F->F.Nodup->(∀c∈F,c<w.heap.size/\¬S c)->(∀c,S c->c<w.heap.size)->Cells w S false x d []->
  sT P g (v::d).toArray w λy w'=>∃S' b,w'.os=w.os/\w'.tape=w.tape/\w'.output=w.output/\w.heap.size<=w'.heap.size/\(∀k,k<w.heap.size->k∉F->w'.heap[k]?=w.heap[k]?)/\
   (∀c,S c->S' c)/\(∀c,S' c->S c\/w.heap.size<=c\/c∈F)/\(∀c,S' c->c<w'.heap.size)/\J'.here w' S' b/\b.Nodup/\(∀c∈b,(w.heap.size<=c\/c∈F)/\c<w'.heap.size/\¬S' c)/\∀e f,Rel e f r y []
def Looks(P:Program)(t:TypeId)(ok:Bool)(J:World->(Nat->Prop)->Value->Prop)(k y:AV):Prop:=∀(w:World)(S:Nat->Prop)(m b:Value),J w S m->Rel w S k b []->∃v,(Instr.lookup t m b ok).run P w=.ok v w/\Rel w S y v []
def ins{α:Type _}:Nat->α->L α->L α
 |0,x,l=>x::l
 |_+1,x,[]=>[x]
 |k+1,x,y::l=>y::ins k x l
def pick{α:Type _}:Nat->L α->Q (α×L α)
 |_,[]=>none
 |0,x::l=>some (x,l)
 |k+1,y::l=>match pick k l with
  |some (x,q)=>some (x,y::q)
  |none=>none
def L8{α:Type _}:∀{k:Nat}{l:L α}{x:α}{q:L α},pick k l=some (x,q)->ins k x q=l
 |0,[],x,q,h=>by cases h
 |_+1,[],x,q,h=>by cases h
 |0,y::l,x,q,h=>by cases h;rfl
 |k+1,y::l,x,q,h=>by simp[pick]at h;split at h<;>cases h;rename_i b;simp[ins,L8 b]
def RD{α b:Type _}(f:α->b):∀{k:Nat}{x:α}{q:L α},(ins k x q).map f=ins k (f x) (q.map f)
 |0,x,q=>rfl
 |_+1,x,[]=>rfl
 |k+1,x,y::q=>by simp[ins,RD f]
def EA{α:Type _}:∀{k:Nat}{l:L α}{x:α}{q:L α},pick k l=some (x,q)->x∈l/\∀y∈q,y∈l
 |0,[],x,q,h=>by cases h
 |_+1,[],x,q,h=>by cases h
 |0,y::l,x,q,h=>by cases h;grind
 |k+1,y::l,x,q,h=>by simp[pick]at h;split at h<;>cases h;rename_i b;have:=EA b;grind
def Query(P:Program)(g:FuncId)(k:Nat)(x:AV)(ys:L AV)(r:AV):Prop:=
 ∀(w:World)(S:Nat->Prop)(e:Value)(d:L Value)(c:L Nat),Laid P w->C6 P (·∈c)->Rel w S x e c->c.Nodup->(∀b∈c,b<w.heap.size/\¬S b)->(∀b,S b->b<w.heap.size)->Cells w S false ys d []->
  sT P g (ins k e d).toArray w λv w'=>∃S' F,Below w.heap.size w w'/\(∀b,S b->S' b)/\(∀b,S' b->S b\/w.heap.size<=b)/\(∀b,S' b->b<w'.heap.size)/\Rel w' S' r v F/\F.Nodup/\∀b∈F,w.heap.size<=b/\b<w'.heap.size/\¬S' b
def Re(y s:AV):Bool:=match s with
 |.bH _ _ _ []=>true
 |_=>match y with
  |.list .own _ X=>cz X
  |_=>false
def C7(P:Program)(t:TypeId)(C:Value->Prop)(J:sV)(y:AV):Prop:=∀(w:World)(S:Nat->Prop)(F:L Nat)(v:Value),J.here w S F->C v->∃z,(Instr.loadAt t v).run P w=.ok z w/\Rel w S y z []
def Obs(P:Program)(o:Oper)(K:World->(Nat->Prop)->Value->Prop)(y:AV):Prop:=∀(w:World)(S:Nat->Prop)(m:Value)(b:Operand->Value),K w S m->o.op.operands.toList.map b=[m]->∃v,(execOp b o).run P w=.ok (.value v) w/\Rel w S y v []
def Ext(P:Program)(o:Oper)(c:Array Value)(w:World)(R:Value->World->Prop):Prop:=∀b:Operand->Value,o.op.operands.toList.map b=c.toList->∃nx v w',(execOp b o).run P w=.ok nx w'/\(nx=.value v\/(nx=.skip/\o.dst=none))/\R v w'
def Ext.mono{P:Program}{o:Oper}{c:Array Value}{w:World}{R d:Value->World->Prop}(f:∀v w',R v w'->d v w')(h:Ext P o c w R):Ext P o c w d:=λe b=>by
 let⟨nx,v,w',k1,k2,k3⟩:=h e b
 grind
def YC(P:Program)(o:Oper)(H args d:L AV)(r:AV):Prop:=
 ∀(w:World)(S:Nat->Prop)(V:Hid)(c:L Value)(F:Nat->L Nat),c.length=args.length->aT S V.g (both args H) (a7 V c) w F->
  Ext P o c.toArray w λv w'=>∃S' e,tZ V w w w'/\(∀b,S b->S' b)/\(∀b,S' b->S b\/c6 V w b)/\aT S' (c6 V w) (both [r] d) (a7 V [v]) w' e
inductive Ob
 |call (o:Obl)
 |refs (g:FuncId) (H args out:List AV) (r:AV)
 |U0 (C:Value->Prop) (J J':sV) (x:List AV) (b:Bool)
 |Z8 (t:TypeId) (ok:Bool) (K:World->(Nat->Prop)->Value->Prop) (k y:AV)
 |ext (o:Oper) (H args out:List AV) (r:AV)
 |WH (g:FuncId) (C:Value->Prop) (J J':sV) (x:List AV) (r:AV)
 |V9 (g:FuncId) (k:Nat) (x:AV) (ys:List AV) (r:AV)
 |W2 (t:TypeId) (C:Value->Prop) (J:sV) (y:AV)
 |lK (o:Oper) (K:World->(Nat->Prop)->Value->Prop) (y:AV)
def Ob.ok(P:Program):Ob->Prop
 |.call o=>Sound P o.1 o.2.1 o.2.2
 |.refs g H args out r=>KY P g H args out r
 |.U0 C J J' x b=>∀v,C v->Yields P J J' x b v
 |.Z8 t ok K k y=>Looks P t ok K k y
 |.ext o H args out r=>YC P o H args out r
 |.WH g C J J' x r=>UQ P g C J J' x r
 |.V9 g k x ys r=>Query P g k x ys r
 |.W2 t C J y=>C7 P t C J y
 |.lK o K y=>Obs P o K y
def ug(x:cF):Q (Nat×AV):=
 match x.sl.av with
 |.bH r _ _ _=>some (r,x.rt.av)
 |.ptr r _ _ _=>some (r,x.rt.av)
 |y=>if y.aK then none else match x.s with
  |some s=>some (s,y)
  |none=>none
def jU:L (Nat×AV)->Nat->Q Nat
 |[],_=>none
 |(r,_)::R,s=>if r=s then some 0 else match jU R s with
  |some k=>some (k+1)
  |none=>none
def eJ:L (Nat×AV)->L cF->L (Nat×AV)
 |R,[]=>R
 |R,x::xs=>match ug x with
  |some (r,y)=>match jU R r with
   |some _=>eJ R xs
   |none=>eJ (R++[(r,y)]) xs
  |none=>eJ R xs
def w6(R:L (Nat×AV))(x:cF):Q AV:=
 match x.sl.av with
 |.bH r g1 g2 p=>match jU R r with
  |some k=>if x.rt.g1=g1 then if lN p=true\/x.rt.g2=g2 then some (.bH (500+k) 0 0 p)else none else none
  |none=>none
 |.ptr r g1 g2 p=>match jU R r with
  |some k=>if x.rt.g1=g1 then if flat p=true\/x.rt.g2=g2 then some (.ptr (500+k) 0 0 p)else none else none
  |none=>none
 |y=>if y.aK then some y else match x.s with
  |some s=>match jU R s with
   |some k=>some (.bH (500+k) 0 0 [])
   |none=>none
  |none=>none
def xq(R:L (Nat×AV)):L cF->Q (L AV)
 |[]=>some []
 |x::xs=>match w6 R x,xq R xs with
  |some y,some ys=>some (y::ys)
  |_,_=>none
def qY:L (Nat×AV)->L AV->L (Nat×AV)
 |[],_=>[]
 |(r,_)::R,ys=>match ys with
  |[]=>[]
  |y::ys=>(r,y)::qY R ys
def Mt:L (Nat×AV)->Q Nat->Bool
 |_,none=>false
 |[],_=>false
 |(r,_)::R,some d=>if r=d then true else Mt R (some d)
def pR:L AV->Bool
 |[]=>true
 |x::xs=>x.plain&&pR xs
def xl(d:Q Nat)(f:cF)(asx:L cF)(out:L AV)(r:AV):Q (L Mv×L Ob):=
 match f.cont with
 |some (.fn (.func g) first b)=>if cz first&&cz b then match xq (eJ [] asx) asx with
   |some c=>if pR ((eJ [] asx).map (·.2))&&pR out&&decide ((eJ [] asx).length=out.length)&&r.plain&& !Mt (eJ [] asx) d&&decide (first.length+c.length+b.length<=500)then
     some (dS d r [.back<|qY (eJ [] asx) out],[.refs g ((eJ [] asx).map (·.2)) (first++c++b) out r])else none
   |none=>none
  else none
 |_=>none
section
variable{P:Program}{N:Nat}{w0 w w':World}{V:Hid}{S S0 S':Nat->Prop}{B:Nat->Prop}{σ σ' σ0:St}{T0:Nat->Value}{a:Act}{F:Nat->L Nat}{R:L (Nat×AV)}
def rT:∀{R:L (Nat×AV)}{s k:Nat},jU R s=some k->(R.map (·.1))[k]?=some s
 |[],s,k,h=>by simp[jU]at h
 |(r,y)::R,s,k,h=>by
  simp[jU]at h;split at h
  grind
  split at h;rename_i c b;cases h;simpa using rT b;cases h
def rU:∀{R:L (Nat×AV)}{s:Nat},jU R s=none->s∉R.map (·.1)
 |[],s,h=>I
 |(r,y)::R,s,h=>by simp[jU]at h;split at h;cases h;rename_i e;split at h;cases h;rename_i b;simp only[ad3,adb,not_or];exact⟨λe'=>e e'.symm,rU b⟩
def JK:∀{R:L (Nat×AV)}{k s:Nat},(R.map (·.1)).Nodup->(R.map (·.1))[k]?=some s->jU R s=some k
 |[],k,s,_,h=>by cases h
 |(r,y)::R,k,s,hn,h=>by
  simp only[ad3,af6]at hn;simp[jU];cases k with
  |zero=>grind
  |succ k=>have hm:s∈R.map _:=ai3 h;rw[abl λe=>hn.1<|by rwa[e],JK hn.2 h]
def Tf(_:aT S B σ (tv V a) w F)(x:Operand){r:Nat}{y:AV}(b:ug (resolve σ x)=some (r,y)):y=(σ r).av:=by
 cases x with
 |const v=>have d:=fC v;simp[ug,resolve]at b;split at b;rename_i e;rw[e]at d;simp[AV.plain]at d;rename_i e;rw[e]at d;simp[AV.plain]at d;simp at b
 |func f=>simp[ug,resolve]at b
 |global g=>simp[ug,resolve,Sl.none]at b
 |tmp t=>
  simp[resolve]at b;cases c:(σ t).av with
  |bH h g1 g2 p=>simp[cF.of,ug]at b;grind
  |ptr h g1 g2 p=>simp[cF.of,ug]at b;grind
  |abs J=>simp[cF.of,c,ug,Sl.none]at b
  |_=>
   all_goals
    simp only[cF.of,c,ug]at b;split at b;cases b;cases b;exact c.symm
def qL(h:aT S B σ (tv V a) w F):∀(xs:L Operand){R:L (Nat×AV)},(∀q∈R,q.2=(σ q.1).av)->(R.map (·.1)).Nodup->
 (∀q∈eJ R (xs.map<|resolve σ),q.2=(σ q.1).av)/\((eJ R<|xs.map<|resolve σ).map (·.1)).Nodup
 |[],R,c,b=>⟨c,b⟩
 |x::xs,R,c,b=>by
  simp only[ad3,eJ];split;rename_i r y g;have j:=Tf h x g;split;exact qL h xs c b;rename_i i;refine qL h xs (λq k=>?_) ?_
  grind
  simp only[adW,ad4];refine⟨b,I,λx f y d e=>?_⟩;simp at d;subst d e;exact rU i f;exact qL h xs c b
def ArgRel(w:World)(S:Nat->Prop)(σ:St)(T:Nat->Value)(y:AV)(v:Value):Prop:=
 match y with
 |.bH r g1 g2 p=>g1<=(σ r).g1/\g2<=(σ r).g2/\((σ r).g1=g1->(lN p=true\/(σ r).g2=g2)->(lN p=false->∃y,bM (σ r).av p=some y)->
   ∃b,loc w (.val<|T r) p=some b/\holds w b v/\∀c,b=.addr c->v.oneCell'=true)
 |.ptr r g1 g2 p=>g1<=(σ r).g1/\g2<=(σ r).g2/\(∃c,v=.pointer (some c))/\((σ r).g1=g1->(flat p=true\/(σ r).g2=g2)->(flat p=false->∃y,bM (σ r).av p=some y)->
   ∃c,loc w (.val<|T r) p=some (.addr c)/\v=.pointer (some c))
 |av=>Rel w S av v []
def ArgRel.slot{T:Nat->Value}{y:AV}{v:Value}{i:Nat}(h:ArgRel w S σ T y v)(c:(σ i).av=y)(b:T i=v):an w S σ T i []:=by unfold an;unfold ArgRel at h;subst c b;cases hh:(σ i).av<;>rw[hh]at h<;>first|exact⟨rfl,h⟩|exact h|(simp[Rel]at h)
def ArgRel.Pj{T:Nat->Value}{y:AV}{v:Value}(h:Rel w S y v []):ArgRel w S σ T y v:=by have:=h.plain;cases y<;>simp[AV.plain]at this<;>exact h
def dX(w:World)(S:Nat->Prop)(σ:St)(T:Nat->Value):L AV->L Value->Prop
 |[],c=>c=[]
 |y::ys,c=>∃v b,c=v::b/\ArgRel w S σ T y v/\dX w S σ T ys b
def dX.append{T:Nat->Value}:∀{ys zs:L AV}{us b:L Value},dX w S σ T ys us->dX w S σ T zs b->dX w S σ T (ys++zs) (us++b)
 |[],zs,us,b,h,k=>by simp[dX]at h;grind
 |y::ys,zs,us,b,h,k=>by obtain⟨v,c,rfl,e,d⟩:=h;exact⟨v,_,W,e,dX.append d k⟩
def dX.length{T:Nat->Value}:∀{ys:L AV}{us:L Value},dX w S σ T ys us->us.length=ys.length
 |[],us,h=>by simp[dX]at h;simp[h]
 |y::ys,us,h=>by obtain⟨v,b,rfl,d,c⟩:=h;simp[dX.length c]
def dX.get{T:Nat->Value}:∀{ys:L AV}{us:L Value}(i:Nat){y:AV},dX w S σ T ys us->ys[i]?=some y->ArgRel w S σ T y (us.getD i undef)
 |[],us,i,y,h,b=>by cases b
 |e::ys,us,i,y,h,b=>by
  obtain⟨v,c,rfl,f,d⟩:=h;cases i with
  |zero=>grind
  |succ i=>simpa using dX.get i d b
def dX.uZ{T:Nat->Value}:∀{ys:L AV}{us:L Value}{F:L Nat},Cells w S false ys us F->F=[]->dX w S σ T ys us
 |[],us,F,h,_=>by simp[Cells]at h;exact h.1
 |y::ys,us,F,h,b=>by obtain⟨v,l',f,e,rfl,rfl,-,d,c⟩:=h;obtain⟨rfl,rfl⟩:=aia.1 b;exact⟨v,l',W,.Pj d,dX.uZ c W⟩
def UL(h:aT S B σ (tv V a) w F)(n:∀r k,jU R r=some k->σ0 (500+k)=⟨(σ r).av,0,0⟩/\T0 (500+k)=tv V a r)(x:Operand)(u:aO x=true){y:AV}
 (b:w6 R (resolve σ x)=some y):ArgRel w S σ0 T0 y (a.eval x):=by
 cases x with
 |const v=>
  have o:=fC v;have:y=iS v:=by simp[w6,resolve]at b;split at b;rename_i e;rw[e]at o;simp[AV.plain]at o;rename_i e;rw[e]at o;simp[AV.plain]at o;simp_all
  subst this;exact .Pj (jl w S v u)
 |func f=>simp[w6,resolve,AV.aK,cz]at b;subst b;exact⟨#[],#[],[],[],W,by simp[Cells],by simp[Cells],W⟩
 |global g=>simp[w6,resolve,Sl.none,AV.aK]at b;subst b;rfl
 |tmp t=>
  rw[iq V a<|gS u];have i:=h.rel t;simp[resolve]at b;cases c:(σ t).av with
  |bH r g1 g2 p=>simp[cF.of,c,w6]at b;unfold an at i;split at b;rename_i k j;let⟨m,l⟩:=n r k j;split at b;rename_i C;split at b;rename_i A;cases b;unfold ArgRel;simp_all;cases b;cases b;cases b
  |ptr r g1 g2 p=>simp[cF.of,c,w6]at b;unfold an at i;rw[c]at i;simp only at i;split at b;rename_i k j;let⟨m,l⟩:=n r k j;split at b;rename_i C;split at b;rename_i A;cases b;unfold ArgRel;simp_all;cases b;cases b;cases b
  |abs J=>simp[cF.of,c,w6,Sl.none,AV.aK,if_true,abL]at b;subst b;rfl
  |ix g z=>simp[cF.of,c,w6,AV.aK,aim,if_false]at b;split at b;rename_i k j;let⟨m,l⟩:=n t k j;cases b;unfold ArgRel;simp only[m,l];exact⟨abX _,abX _,λ_ _ _=>⟨_,W,W,I⟩⟩;cases b
  |_=>
   all_goals
    have q:(σ t).av.plain=true:=by rw[c];rfl
    rw[an.aC q]at i;have d:(if(σ t).av.aK then some (σ t).av else match jU R t with|some k=>some (AV.bH (500+k) 0 0 [])|none=>none)=some y:=by simpa only[cF.of,c,w6]using b
    split at d;rename_i s;cases d;rw[Rel.aK _ i s]at i;exact .Pj i;split at d;rename_i k j;let⟨m,l⟩:=n t k j;cases d;unfold ArgRel;simp only[m,l];exact⟨abY _,abY _,λ_ _ _=>⟨.val _,W,W,I⟩⟩;cases d
def Gv(h:aT S B σ (tv V a) w F)(d:∀r k,jU R r=some k->σ0 (500+k)=⟨(σ r).av,0,0⟩/\T0 (500+k)=tv V a r):∀(xs:L Operand),xs.all aO=true->∀{ys:L AV},
 xq R (xs.map<|resolve σ)=some ys->dX w S σ0 T0 ys (xs.map a.eval)
 |[],_,ys,b=>by simp[xq]at b;subst b;rfl
 |x::xs,c,ys,b=>by simp only[af5,adS]at c;simp[xq]at b;split at b;rename_i y e g f;cases b;exact⟨_,_,W,UL h d x c.1 g,Gv h d _ c.2 f⟩;cases b
def Jc{σ:St}:∀{R:L (Nat×AV)}{out:L AV}(i:Nat),R.length=out.length->
 lS σ (qY R out) i=match jU R i with|some k=>⟨out.getD k .dead,(σ i).g1,(σ i).g2+1⟩|none=>σ i
 |[],out,i,h=>gq
 |(r,y)::R,[],i,h=>by cases h
 |(r,y)::R,z::out,i,h=>by
  simp at h;simp[qY,lS,jU];by_cases e:r=i;subst e;simp[aG];rw[ar _ _ λe'=>e e'.symm,Jc i h]
  grind
def tj:∀{xs:L AV}{k:Nat}{x:AV},pR xs=true->xs[k]?=some x->x.plain=true
 |[],k,x,_,h=>by cases h
 |y::xs,k,x,b,h=>by
  simp[pR]at b;cases k with
  |zero=>grind
  |succ k=>exact tj b.2 h
def aT.WR{d:Nat}{T:Nat->Value}{y:AV}{z:Value}{g:L Nat}(h:aT S B σ T w F)(m:Rel w S y z g)(hn:g.Nodup)(n:∀b∈g,B b/\b<w.heap.size/\¬S b)(k:∀i,∀b∈F i,b∉g):
 aT S B (made σ [] d y) (jg T d z) w (λi=>if i=d then g else F i):=by
 refine h.step ⟨λr=>?_,λr=>?_,λr f=>?_,λr f _=>?_⟩ (λ_ h=>h) (λi=>?_) (λi=>?_) (λi j l b c=>?_) (λi b c=>?_) h.shr;unfold made
 grind
 unfold made
 grind
 unfold made at f;split at f;simp_all;rename_i e;rw[ar _ _ e];unfold made at f⊢
 grind
 by_cases e:i=d;subst e;right;rw[an.aC<|by unfold made;simp;exact m.plain];simp[made,aG];exact m;left;simp only[made,e,if_false,ahd];exact⟨U,ar _ _ e,U,λ_ _=>trivial⟩;split;exact hn;exact h.nodup i
 replace c:b∈if i=d then g else F i:=c
 split at c
 grind
 split;exact k i b c;exact h.dz i j l b c
 replace c:b∈if i=d then g else F i:=c
 split at c;exact n b c;exact h.own i b c
def Ip:∀{R:L (Nat×AV)}{d:Nat},Mt R (some d)=false->jU R d=none
 |[],d,_=>rfl
 |(r,y)::R,d,h=>by simp only[Mt]at h;split at h;cases h;rename_i e;simp[jU,e,Ip h]
def EZ{D:Array Value->World->(Value->World->Prop)->Prop}(F1:∀(n:Array Value)(w:World)(R R':Value->World->Prop),(∀v w',R v w'->R' v w')->D n w R->D n w R')
 {d:Q Nat}(hG:lW P V w0)(h:Inv N V w0 S0 σ a w)(hd:∀x,d=some x->x<N)(asx:L Operand)(S1:asx.all aO=true){first ys captured out:L AV}{r:AV}{af cf:Array Value}
 (hq:∀S F,aT S (c6 V w0) σ (tv V a) w F->Cells w S false first af.toList []/\Cells w S false captured cf.toList [])
 (H6:xq (eJ []<|asx.map<|resolve σ) (asx.map<|resolve σ)=some ys)
 (J:(pR ((eJ []<|asx.map<|resolve σ).map (·.2))&&pR out&&decide ((eJ []<|asx.map<|resolve σ).length=out.length)&&r.plain&& !Mt (eJ []<|asx.map<|resolve σ) d&&decide (first.length+ys.length+captured.length<=500))=true)
 (O:Mv.runs σ (dS d r [.back<|qY (eJ []<|asx.map<|resolve σ) out])=some σ')
 (G0:∀(w:World)(S:Nat->Prop)(V:Hid)(n:L Value)(F:Nat->L Nat),n.length=(first++ys++captured).length->lW P V w->aT S V.g (both (first++ys++captured) ((eJ []<|asx.map<|resolve σ).map (·.2))) (a7 V n) w F->
   D n.toArray w λv w'=>∃S' F',tZ V w w w'/\(∀b,S b->S' b)/\(∀b,S' b->S b\/c6 V w b)/\aT S' (c6 V w) (both [r] out) (a7 V [v]) w' F'):
 D (af++(asx.map a.eval).toArray++cf) w λv w'=>Inv N V w0 S0 σ' (a.put d v) w':=by
 let⟨S,F,hc,hN,H3,K2,K0,Y⟩:=h;simp[adS,decide_eq_true_eq,ahZ]at J;let⟨⟨⟨⟨⟨p1,p2⟩,p3⟩,L1⟩,p4⟩,p5⟩:=J;let⟨v1,v2⟩:=qL hc asx (R:=[]) I I;generalize hRe:eJ [] (asx.map<|resolve σ)=R at*;let⟨qa,qc⟩:=hq S F hc;obtain⟨ex,C⟩:∃ex:L Nat,ex=R.map (·.1):=⟨_,W⟩;obtain⟨u,t⟩:∃u:Hid,u={v:=λi=>tv V a<|ex.getD (i-500) 0,g:=λb=>∃r∈ex,b∈F r}:=⟨_,W⟩;have V2:(R.map (·.2)).length=ex.length:=by rw[C];simp
 have A0:∀(k:Nat)(y:AV),(R.map (·.2))[k]?=some y->∃r,ex[k]?=some r/\y=(σ r).av/\y.plain=true:=by
  intro k y hy;have s:=tj p1 hy;simp only[ahB,ahc]at hy
  grind
 obtain⟨n,F4⟩:∃n,n=af.toList++asx.map a.eval++cf.toList:=⟨_,W⟩;obtain⟨args,f⟩:∃args,args=first++ys++captured:=⟨_,W⟩
 have H5:args.length<=500:=by rw[f];simp;omega
 have hR:∀(r k:Nat),jU R r=some k->both args (R.map (·.2)) (500+k)=⟨(σ r).av,0,0⟩/\a7 u n (500+k)=tv V a r:=by
  intro r k hk;have H2:=rT hk;rw[<-C]at H2;have G4:k<(R.map (·.2)).length:=by grind
  obtain⟨r',e1,e2,-⟩:=A0 k _<|ad7 G4;rw[H2]at e1;cases e1;refine⟨by rw[fi H5,ad7 G4];simp[e2],?_⟩;simp[a7,t]
  grind
 have hA:dX w S (both args (R.map (·.2))) (a7 u n) args n:=by rw[f,F4];rw[f]at hR;rw[F4]at hR;exact((dX.uZ qa W).append<|Gv hc hR asx S1 H6).append<|dX.uZ qc W
 have F3:aT S u.g (both args (R.map (·.2))) (a7 u n) w (λi=>if i<500 then[]else match ex[i-500]?with|some r=>F r|none=>[]):=by
  refine⟨λi=>?_,λi=>?_,λi j X b c=>?_,λi b c=>?_,hc.shr⟩;by_cases hi:i<500;simp[hi,if_true];have c:=fT (args:=args) (H:=R.map (·.2)) hi;cases hx:args[i]?with
  |none=>rw[hx]at c;rw[an.aC<|by rw[c];rfl,c];simp[Rel]
  |some y=>rw[hx]at c;refine(hA.get i hx).slot (by rw[c]) ?_;simp[a7,hi,if_true]
  ·obtain⟨k,rfl⟩:∃k,i=500+k:=⟨i-500,E⟩;simp[hi,if_false,ajr];have c:=fi (H:=R.map (·.2)) H5 k;cases hx:(R.map (·.2))[k]?with
   |none=>rw[hx]at c;rw[an.aC<|by rw[c];rfl,c];have:ex[k]?=none:=gn;simp[Rel,this]
   |some y=>
    rw[hx]at c;obtain⟨r',e1,rfl,s⟩:=A0 k y hx;have L0:=hc.rel r';rw[an.aC s]at L0;rw[an.aC<|by rw[c];exact s,c];simp[e1,a7,t]
    grind
  show(if i<500 then[]else match ex[i-500]?with|some r=>F r|none=>[]).Nodup;split;simp;split;exact hc.nodup _;simp
  replace c:b∈if i<500 then[]else match ex[i-500]?with|some r=>F r|none=>[]:=c
  show b∉if j<500 then[]else match ex[j-500]?with|some r=>F r|none=>[]
  split at c;cases c;rename_i hi;split at c;rename_i r1 h1;split;simp;rename_i hj;split;rename_i r2 h2;refine hc.dz r1 r2 (λe=>X ?_) b c;subst e;have g1:=JK v2 (by rw[<-C];exact h1);have g2:=JK v2 (by rw[<-C];exact h2)
  grind
  simp;cases c
  replace c:b∈if i<500 then[]else match ex[i-500]?with|some r=>F r|none=>[]:=c
  split at c;cases c;split at c;rename_i r1 h1;rw[t];exact⟨⟨r1,ai3 h1,c⟩,(hc.own r1 b c).2⟩;cases c
 rw[<-f]at G0;have V0:lW P u w:=⟨hG.MN Y,hG.c6.mono λb c=>by rw[t]at c;obtain⟨r,-,O⟩:=c;exact(hc.own r b O).1⟩;have:=G0 w S u n _ (by rw[dX.length hA]) V0 F3;have e:n.toArray=af++(asx.map a.eval).toArray++cf:=by grind
 rw[e]at this;refine F1 _ _ _ _ (λv w'⟨S',m,o,k1,k2,l⟩=>?_) this;have hg:∀b,u.g b↔∃r∈ex,b∈F r:=λb=>by rw[t]
 have G3:∀b,c6 u w b->w.heap.size<=b\/∃r∈ex,b∈F r:=λb c=>c.imp id (hg b).1;have T:∀b,c6 u w b->c6 V w0 b:=λb c=>(G3 b c).elim (λh=>Y.new b h) λ⟨r,_,O⟩=>(hc.own r b O).1;have E1:∀b,b<w.heap.size->¬u.g b->w'.heap[b]?=w.heap[b]?:=λb h1 h2=>o.block b h1 h2;have S2:∀b,S b->w'.heap[b]?=w.heap[b]?:=λb c=>E1 b (hc.shr b c) (λF2=>by obtain⟨r,-,O⟩:=(hg b).1 F2;exact(hc.own r b O).2.2 c);have V1:∀i,jU R i=none->∀b∈F i,w'.heap[b]?=w.heap[b]?:=λi hi b c=>E1 b (hc.own i b c).2.1 (λF2=>by let⟨r,G1,z⟩:=(hg b).1 F2;exact hc.dz i r (λe=>rU hi<|by grind) b c z)
 have M:∀i,∀b∈m i,(w.heap.size<=b\/∃r∈ex,b∈F r)/\c6 V w0 b/\b<w'.heap.size/\¬S' b:=λi b c=>by
  have:=l.own i b c
  grind
 have F0:∀i,jU R i=none->∀j,∀b∈F i,b∉m j:=λi hi j b c P1=>by
  rcases(M j b P1).1 with G2|⟨r,G1,z⟩
  grind
  exact hc.dz i r (λe=>rU hi<|by grind) b c z
 have M1:∀{i j k:Nat},jU R i=some k->jU R j=some k->i=j:=λhi hj=>by
  have a1:=rT hi;have a2:=rT hj
  grind
 have E2:aT S' (c6 V w0) (lS σ<|qY R out) (tv V a) w' (λi=>match jU R i with|some k=>m (500+k)|none=>F i):=by
  have W1:∀i,lS σ (qY R out) i=match jU R i with|some k=>⟨out.getD k .dead,(σ i).g1,(σ i).g2+1⟩|none=>σ i:=λi=>Jc i p3
  refine hc.step (w':=w') (S':=S') ⟨λi=>?_,λi=>?_,λi _=>rfl,λi hi1 hi2=>?_⟩ k1 (λi=>?_) (λi=>?_) (λi j X b c=>?_) (λi b c=>?_) l.shr
  grind
  grind
  grind
  cases hp:jU R i with
  |none=>grind
  |some k=>
   right;have hk:=rT hp;rw[<-C]at hk;have H1:k<out.length:=by grind
   have q:=l.rel<|500+k;have c:=fi (args:=[r]) (H:=out) I k;rw[ad7 H1]at c;have s:=tj p2<|ad7 H1;rw[an.aC<|by rw[c];exact s,c]at q;have H4:(lS σ (qY R out) i).av=out[k]:=by grind
   rw[an.aC<|by rw[H4];exact s,H4];have X2:a7 u [v] (500+k)=tv V a i:=by
    simp[a7,t]
    grind
   grind
  ·show(match jU R i with|some k=>m (500+k)|none=>F i).Nodup;split;exact l.nodup _;exact hc.nodup i
  replace c:b∈match jU R i with|some k=>m (500+k)|none=>F i:=c
  show b∉match jU R j with|some k=>m (500+k)|none=>F j
  split at c;rename_i k hk;split;rename_i k2 hk2;refine l.dz _ _ (λe=>X ?_) b c
  grind
  grind
  rename_i hi;split;exact F0 i hi _ b c;exact hc.dz i j X b c
  replace c:b∈match jU R i with|some k=>m (500+k)|none=>F i:=c
  split at c;exact(M _ b c).2;rename_i hi;have ho:=hc.own i b c;refine⟨ho.1,aey ho.2.1 o.size,λS4=>?_⟩;rcases k2 b S4 with hS|hm;exact ho.2.2 hS;rcases G3 b hm with G2|⟨r,G1,z⟩;omega;exact hc.dz i r (λe=>rU hi<|by grind) b c z
 have A:mQ V w0 w':=Y.trans ⟨o.os,o.tape,o.output,o.size,λk hk P0=>o.block k (aey hk Y.size) (λM2=>by obtain⟨r,-,O⟩:=(hg k).1 M2;exact zK (hc.own r k O).1 hk P0)⟩
 have Z:(∀b,S0 b->S' b)/\(∀b,S' b->S0 b\/c6 V w0 b):=⟨λb c=>k1 b<|K2 b c,λb c=>(k2 b c).elim (K0 b) λh=>.inr<|T b h⟩;have p:Mv.runs (lS σ<|qY R out) (dS d r [])=some σ':=by rw[Nv]at O;simpa[Mv.runs,Mv.run]using O
 cases d with
 |none=>simp[dS,Mv.runs,abL]at p;subst p;exact⟨S',_,E2,hN,H3,Z.1,Z.2,A⟩
 |some d=>
  simp[dS,ahA,kl,abL]at p;subst p;have hdn:=Ip p4;have q:=l.rel 0;have K:=fT (args:=[r]) (H:=out) (i:=0) E;simp[ajP]at K;rw[an.aC<|by rw[K];exact L1,K]at q;have:=E2.WR (d:=d) q (l.nodup 0) (λb c=>(M 0 b c).2) (λi b c=>by
   replace c:b∈match jU R i with|some k=>m (500+k)|none=>F i:=c
   split at c;exact l.dz _ _ E b c
   grind)
  rw[<-mj (by rw[hN];exact hd d W)]at this;exact⟨S',_,this,fa,by rw[fw];exact H3,Z.1,Z.2,A⟩
def CZ{d:Q Nat}(M:lW P V w0)(h:Inv N V w0 S0 σ a w)(C:∀x,d=some x->x<N)(f:Operand)(n:aO f=true)(asx:L Operand)(l:asx.all aO=true){out:L AV}{r:AV}{m:L Mv}{lK:L Ob}
 (hm:xl d (resolve σ f) (asx.map<|resolve σ) out r=some (m,lK))(z:Mv.runs σ m=some σ')(hs:∀o∈lK,o.ok P):
 ∃g first captured,a.eval f=.func (.func g) first captured/\sT P g (first++(asx.map a.eval).toArray++captured) w λv w'=>Inv N V w0 S0 σ' (a.put d v) w':=by
 let⟨S,F,hc,hN,A,y,u,D⟩:=h;unfold xl at hm;split at hm<;>try(cases hm)
 rename_i g _ _ i;split at hm<;>try(cases hm)
 rename_i c;simp at c;split at hm<;>try(cases hm)
 rename_i ys k;split at hm<;>try(cases hm;done)
 rename_i e;cases hm;obtain⟨Ff,j,-⟩:=ba hc f n i;obtain⟨af,cf,F1,F2,q,-,-,-⟩:=j;refine⟨g,af,cf,q,?_⟩;refine EZ (λvs w R R' Y X rd o a _ b J=>X rd o a _ b λv w' H=>J v w'<|Y v w' H) M h C asx l (λS F hc=>?_) k e z<|hs (.refs g _ _ out r) I;obtain⟨Ff,j,-⟩:=ba hc f n i;obtain⟨A0,Z,F1,F2,p,t,s,-⟩:=j;have T:=Cells.aK _ t c.1;have O:=Cells.aK _ s c.2;simp_all
def cF.gen(x:cF):Nat:=match x.sl.av with|.bH .. =>x.rt.g2|_=>x.sl.g2
def U5(P:Program)(d:Nat)(t:TypeId)(x:cF)(lo hi:Q cF):Q (L Mv):=
 match P.underlying t with
 |some (.slice e)=>match cC P e with
  |some ti=>match x.cont with
   |some (.list .own sz b)=>match oT lo 0,oT hi b.length with
    |some l,some h=>if sz=ti.size/\l<h/\h<=b.length then match x.place with
      |some (r,g1,_,p)=>if r=d then none else some [.put d<|.bH r g1 x.gen<|p++[.oC sz l<|h-l]]
      |none=>none
     else none
    |_,_=>none
   |_=>none
  |none=>none
 |_=>none
def Uc(x:Operand){r g1 g2:Nat}{p:Path}{y:AV}(hc:(resolve σ x).cont=some y)(c:(resolve σ x).place=some (r,g1,g2,p)):cF.gen (resolve σ x)=(σ r).g2:=by
 cases x with
 |const v=>simp[resolve,cF.place]at c;have j:=fC v;split at c<;>simp_all[AV.plain]
 |func f=>simp[resolve,cF.place]at c
 |global g=>simp[resolve,cF.place,Sl.none]at c
 |tmp t=>
  simp[resolve]at c⊢;cases b:(σ t).av with
  |bH h e d i=>simp[cF.of,b,cF.place]at c⊢;obtain⟨rfl,rfl,rfl,rfl⟩:=c;simp[cF.gen,b]
  |ptr=>simp[cF.of,b,cF.place]at c
  |abs=>simp[cF.of,b,cF.place,Sl.none]at c
  |ix=>simp[resolve,cF.of,b,cF.cont]at hc
  |_=>
   all_goals
    simp[cF.of,b,cF.place]at c⊢;obtain⟨rfl,rfl,rfl,rfl⟩:=c;simp[cF.gen,b]
def Ou{d t:Nat}(h:Inv N V w0 S0 σ a w)(hd:d<N)(x:Operand)(lo hi:Q Operand)(i:aO x=true)(u:∀o,lo=some o->aO o=true)(v:∀o,hi=some o->aO o=true)
 {A:L Mv}(hm:U5 P d t (resolve σ x) (lo.map<|resolve σ) (hi.map<|resolve σ)=some A)(D:Mv.runs σ A=some σ'):
 Good N V w0 S0 σ' a d ((Instr.sliceAt t (a.eval x) (lo.map a.eval) (hi.map a.eval) none).run P w):=by
 unfold U5 at hm;split at hm<;>try(cases hm)
 rename_i e hu;split at hm<;>try(cases hm)
 rename_i ti n;split at hm<;>try(cases hm)
 rename_i sz X m;split at hm<;>try(cases hm)
 rename_i l T h1 h2;split at hm<;>try(cases hm)
 rename_i f;obtain⟨rfl,E1,A0⟩:=f;split at hm<;>try(cases hm)
 rename_i r g1 g2 p H;split at hm<;>try(cases hm;done)
 rename_i q;cases hm;simp[Mv.cQ]at D;subst D;have K:=Uc x m H;have hI:=h;obtain⟨S,F,k,-⟩:=h;obtain⟨F1,e1,-⟩:=ba k x i m;let⟨ad,cap,C,M,J,s⟩:=e1.ll;obtain⟨b,g,rfl⟩:=s.1 I λe=>gn;have O:=kY (P:=P) k true (len:=X.length) (cap:=cap) lo hi none u v I h1 h2 W E E (abY _)<|.inl W;have j:(Instr.sliceAt t (a.eval x) (lo.map a.eval) (hi.map a.eval) none).run P w=.ok (.slice (some<|(⟨b,g,none⟩:Addr).add<|l*ti.size) (T-l)<|cap-l) w:=by rw[C];simp at O;have:cap≠l:=E;simp[Instr.sliceAt,run_underlying hu,Instr.slice,O,dW n,this]
 refine⟨_,w,j,hI.put hd λS' F' y=>?_⟩;let⟨q1,q2,q3,Z,q5,q6,c,Y,z,q9⟩:=jV y x i m H;unfold an;simp only[aG,ar _ _ q];refine⟨U,Z,E,λ_ _ _=>⟨.val<|.slice (some<|(⟨b,g,none⟩:Addr).add<|l*ti.size) (T-l)<|cap-l,?_,W,I⟩⟩;rw[jv,Y];simp[agb,loc];rw[C]at z;rw[du z W I];rfl
inductive Ask
 |Vv (r:AV)
 |refs (out:List AV) (r:AV)
 |oC
 |U0 (J':sV) (b:Bool)
 |mkc
 |ix (out:List AV) (r:AV)
 |Z8 (y:AV)
 |ext (out:List AV) (r:AV)
 |WH (J':sV) (r:AV)
 |V9 (k:Nat) (r:AV)
 |W2 (y:AV)
 |lK (y:AV)
def Rq(d:Q Nat)(asx:L cF)(out:L AV)(r:AV):Q (L Mv×L AV×L AV):=
 match xq (eJ [] asx) asx with
 |some b=>if(pR ((eJ [] asx).map (·.2))&&pR out&&decide ((eJ [] asx).length=out.length)&&r.plain&& !Mt (eJ [] asx) d&&decide (([]:L AV).length+b.length+([]:L AV).length<=500))=true then
   some (dS d r [.back<|qY (eJ [] asx) out],(eJ [] asx).map (·.2),b)else none
 |none=>none
def slotsOf:L Operand->Q (L Nat)
 |[]=>some []
 |.tmp t::l=>match slotsOf l with
  |some b=>some (t::b)
  |none=>none
 |_::_=>none
def um:L cF->Q (L AV)
 |[]=>some []
 |x::xs=>match x.cont with
  |some y=>if y.aK then match um xs with
   |some ys=>some (y::ys)
   |none=>none
   else none
  |none=>none
def RQ(op:Op):Bool:=op.operands.toList.all aO&&(match op with
 |.move _=>false
 |.call ⟨.builtin .append,_,_⟩=>false
 |_=>true)
def wF(x:Sl):Sl:=match x.av with
 |.box o (.list f sz _)=>⟨.box o<|.list f sz [],x.g1,x.g2⟩
 |_=>x
def Pe:AV->Bool
 |.box _ (.list .own _ _)=>true
 |_=>false
def uc(σ:St)(a:Nat):Q (Nat×Nat):=match(σ a).av with
 |.bH r g1 _ p=>if p=[]/\Pe (σ r).av=true/\(σ r).g1=g1 then some (a,r)else none
 |x=>if Pe x=true then some (a,a)else none
def yG(σ:St):Op->Q (Nat×Nat)
 |.load _ (.tmp a)=>uc σ a
 |_=>none
def wX(σ:St)(op:Op):Bool:=match RQ op with
 |true=>match yG σ op with
  |some _=>false
  |none=>true
 |false=>false
def aay{σ:St}{op:Op}(h:wX σ op=true):RQ op=true/\yG σ op=none:=by
 unfold wX at h
 grind
def kZ(P:Program)(σ:St)(o:Oper):Ask->Q (L Mv×L Ob)
 |.mkc=>match o.dst with
  |some d=>match o.op with
   |.makeFunc (.func g) first e=>match first.toList with
    |[]=>match slotsOf e.toList with
     |some j=>if j.all (λt=>t !=d)=true then some ([.put d<|.ix g<|j.map λt=>(t,(σ t).g1)],[])else none
     |none=>none
    |_::_=>none
   |_=>none
  |none=>none
 |.ix out r=>match o.op with
  |.call c=>match c.callee with
   |.value (.tmp t)=>match(σ t).av with
    |.ix g e=>if e.all (λq=>decide (q.1<500)&&(σ q.1).av.plain&&(σ q.1).g1==q.2)=true then xl o.dst (resolve σ<|.func g) (c.args.toList.map (resolve σ)++e.map λq=>resolve σ<|.tmp q.1) out r else none
    |_=>none
   |_=>none
  |_=>none
 |.ext out r=>if wX σ o.op=true then match Rq o.dst (o.op.operands.toList.map<|resolve σ) out r with
   |some (i,H,ys)=>some (i,[.ext o H ys out r])
   |none=>none
  else none
 |.WH J' r=>match o.op with
  |.call c=>match c.callee with
   |.value f=>match c.args.toList with
    |[]=>none
    |x::xs=>match(resolve σ x).sl.av with
     |.pv C=>match(resolve σ f).cont with
      |some (.fn (.func g) [] [])=>match(σ 500).av with
       |.abs J=>match um (xs.map<|resolve σ)with
        |some ys=>some (dS o.dst r [.back [(500,.abs J')]],[.WH g C J J' ys r])
        |none=>none
       |_=>none
      |_=>none
     |_=>none
   |_=>none
  |_=>none
 |.V9 k r=>match o.op with
  |.call c=>match c.callee with
   |.value f=>match pick k c.args.toList with
    |none=>none
    |some (x,xs)=>match(resolve σ f).cont with
     |some (.fn (.func g) [] [])=>match(resolve σ x).cont with
      |some y=>match um (xs.map<|resolve σ)with
       |some ys=>if Re y (resolve σ x).sl.av=true then some (dS o.dst r [],[.V9 g k y ys r])else none
       |none=>none
      |none=>none
     |_=>none
   |_=>none
  |_=>none
 |.lK y=>match o.op with
  |.call c=>match c.callee with
   |.builtin _=>match c.args.toList with
    |[x]=>match(resolve σ x).cont with
     |some (.ob K)=>if y.aK=true then some (dS o.dst y [],[.lK o K y])else none
     |_=>none
    |_=>none
   |_=>none
  |_=>none
 |.W2 y=>match o.op with
  |.load t x=>match(resolve σ x).sl.av with
   |.pv C=>match(σ 500).av with
    |.abs J=>if y.aK=true then some (dS o.dst y [],[.W2 t C J y])else none
    |_=>none
   |_=>none
  |_=>none
 |.Z8 y=>match o.op with
  |.lookup t m x ok=>match(resolve σ m).cont,(resolve σ x).cont with
   |some (.ob K),some k=>if k.aK&&y.aK then some (dS o.dst y [],[.Z8 t ok K k y])else none
   |_,_=>none
  |_=>none
 |.Vv r=>match De P σ o r with
  |some (i,lK)=>some (i,lK.map .call)
  |none=>none
 |.refs out r=>match o.op with
  |.call c=>match c.callee with
   |.value f=>xl o.dst (resolve σ f) (c.args.toList.map<|resolve σ) out r
   |_=>none
  |_=>none
 |.oC=>match o.dst with
  |some d=>match o.op with
   |.slice t x l h m=>match m with
    |none=>match U5 P d t (resolve σ x) (l.map<|resolve σ) (h.map<|resolve σ)with
     |some i=>some (i,[])
     |none=>none
    |some _=>none
   |_=>none
  |none=>none
 |.U0 J' b=>match o.op with
  |.call c=>match c.callee with
   |.value f=>match(resolve σ f).sl.av with
    |.pv C=>match(σ 500).av with
     |.abs J=>match um (c.args.toList.map<|resolve σ)with
      |some ys=>some (dS o.dst (.v<|.bool b) [.back [(500,.abs J')]],[.U0 C J J' ys b])
      |none=>none
     |_=>none
    |_=>none
   |_=>none
  |_=>none
def qT(h:aT S B σ (tv V a) w F):∀(xs:L Operand){ys:L AV},xs.all aO=true->um (xs.map<|resolve σ)=some ys->Cells w S false ys (xs.map a.eval) []
 |[],ys,_,b=>by simp[um]at b;subst b;simp[Cells]
 |x::xs,ys,d,b=>by
  simp only[af5,adS]at d;simp[um]at b;split at b<;>try(cases b)
  rename_i y g;split at b<;>try(cases b)
  rename_i hn;split at b<;>try(cases b;done)
  rename_i f c;cases b;obtain⟨i,e,-⟩:=ba h x d.1 g;rw[Rel.aK _ e hn]at e;exact⟨_,_,[],[],W,W,I,e,qT h _ d.2 c⟩
def yI:∀{xs:L Operand}{b:L Nat},slotsOf xs=some b->xs.all aO=true->xs.map a.eval=b.map λt=>tv V a t
 |[],b,h,_=>by simp[slotsOf]at h;grind
 |.tmp t::xs,b,h,c=>by
  simp only[af5,adS]at c;simp[slotsOf]at h;split at h<;>try(cases h;done)
  rename_i d e;cases h;simp only[ad3];rw[iq V a<|gS c.1,yI e c.2]
 |.const _::_,b,h,_=>fp
 |.func _::_,b,h,_=>fp
 |.global _::_,b,h,_=>fp
def Inv.yielded{J J':sV}{w':World}{S':Nat->Prop}{F':L Nat}(hc:aT S (c6 V w0) σ (tv V a) w F)(D:a.tmps.size=N)(t:a.defers=V.df)(s:∀b,S0 b->S b)(C:∀b,S b->S0 b\/c6 V w0 b)(f:mQ V w0 w)
 (K:(σ 500).av=.abs J)(k1:w'.os=w.os)(k2:w'.tape=w.tape)(k3:w'.output=w.output)(k4:w.heap.size<=w'.heap.size)(k5:∀k,k<w.heap.size->k∉F 500->w'.heap[k]?=w.heap[k]?)
 (k6:∀c,S c->S' c)(k7:∀c,S' c->S c\/w.heap.size<=c\/c∈F 500)(k8:∀c,S' c->c<w'.heap.size)(k9:J'.here w' S' F')(k10:F'.Nodup)(YK:∀c∈F',(w.heap.size<=c\/c∈F 500)/\c<w'.heap.size/\¬S' c):
 Inv N V w0 S0 (lS σ [(500,.abs J')]) a w':=by
 have m:=f.size;have q:lS σ [(500,.abs J')]=jg σ 500 ⟨.abs J',(σ 500).g1,(σ 500).g2+1⟩:=W;rw[q];have n:∀c,(w.heap.size<=c\/c∈F 500)->c6 V w0 c:=λc u=>u.elim (λh=>.inl<|ab7 m h) λh=>(hc.own _ c h).1;have l:∀i,i≠500->∀b∈F i,b<w.heap.size/\b∉F 500:=λi hi b d=>⟨(hc.own i b d).2.1,hc.dz i 500 hi b d⟩;have v:∀b,S b->b<w.heap.size/\b∉F 500:=λb d=>⟨hc.shr b d,λh=>(hc.own _ b h).2.2 d⟩;refine⟨S',jg F 500 F',?_,D,t,λb d=>k6 b<|s b d,λb d=>?_,?_⟩;refine hc.step (w':=w') (T':=tv V a) ⟨λr=>?_,λr=>?_,λ_ _=>rfl,λr M A=>?_⟩ k6 (λi=>?_) (λi=>?_) (λi j o b d=>?_) (λi b d=>?_) k8;by_cases g:r=500;subst g;exact .refl;rw[ar _ _ g];exact .refl;by_cases g:r=500;subst g;exact ain _;rw[ar _ _ g];exact .refl;by_cases g:r=500;subst g;rw[aG]at A;simp at A;rw[ar _ _ g]
 grind
 by_cases hi:i=500;subst hi;right;exact k9;rw[ar _ _ hi,ar _ _ hi]
 grind
 by_cases hi:i=500;subst hi;exact k10;rw[ar _ _ hi];exact hc.nodup i;by_cases hi:i=500;subst hi;rw[ar _ _ λe=>o e.symm];intro p;have:=l j (λe=>o e.symm) b p;rcases(YK b d).1 with h|h;omega;exact this.2 h;rw[ar _ _ hi]at d;by_cases y:j=500;subst y;intro p;have:=l i hi b d;rcases(YK b p).1 with h|h;omega;exact this.2 h;rw[ar _ _ y];exact hc.dz i j o b d;by_cases hi:i=500;subst hi;exact⟨n b (YK b d).1,(YK b d).2⟩;rw[ar _ _ hi]at d;have H:=hc.own i b d
 grind
 grind
 refine⟨k1.trans f.os,k2.trans f.tape,k3.trans f.output,ab7 m k4,λk x z=>?_⟩;rw[k5 k (aey x m) λh=>?_];exact f.block k x z;rcases(hc.own _ k h).1 with h|h;omega;exact z h
def wp_pure{K:Act->World->Prop}{Q:Exit->Act->World->Prop}(h:Inv N V w0 S0 σ a w){o:Oper}(j:∀d,o.dst=some d->d<N){y:AV}(c:Mv.runs σ (dS o.dst y [])=some σ')(f:∀g w',Inv N V w0 S0 σ' g w'->K g w')
 (k:∀S F,aT S (c6 V w0) σ (tv V a) w F->∃v,(execOp a.eval o).run P w=.ok (.value v) w/\Rel w S y v []):Oper.UT V.rd P o a w K Q:=by
 obtain⟨v,i⟩:∃v,(execOp a.eval o).run P w=.ok (.value v) w:=by
  obtain⟨S,F,e,-⟩:=h
  grind
 refine ib i ?_;cases b:o.dst with
 |none=>rw[b]at c;cases c;exact f _ _ h
 |some d=>rw[b]at c;simp[dS,kl]at c;subst c;exact f _ _<|h.make (j d b) (Below.refl _ _) λS F e=>⟨[],by grind⟩
def Inv.Hu{K:Act->World->Prop}{J':sV}(hi:Inv N V w0 S0 (lS σ [(500,.abs J')]) a w'){o:Oper}(h:∀d,o.dst=some d->d<N){r:AV}{v:Value}(c:Mv.runs σ (dS o.dst r [.back [(500,.abs J')]])=some σ')(e:∀f w',Inv N V w0 S0 σ' f w'->K f w')
 (g:∀S,Rel w' S r v []):K (a.put o.dst v) w':=by
 cases b:o.dst with
 |none=>rw[b]at c;cases c;exact e _ _ hi
 |some d=>rw[b]at c;cases c;exact e _ _<|hi.make (h d b) (Below.refl _ _) λS F _=>⟨[],g _,I,I⟩
def aT.res{J:sV}(h:aT S B σ T0 w F)(b:(σ 500).av=.abs J):J.here w S (F 500):=by have:=h.rel 500;unfold an at this;rwa[b]at this
def wM{α b:Type}(xs:Array α)(f:α->b):(xs.toList.map f).toArray=xs.map f:=by apply aib;simp
def Nk(h:aT S B σ (tv V a) w F){f:Operand}(c:aO f=true){g:FuncId}(hc:(resolve σ f).cont=some (.fn (.func g) [] [])):a.eval f=.func (.func g) #[] #[]:=by obtain⟨n,b,-⟩:=ba h f c hc;simp[Rel,Cells]at b;grind
def TA{K:Act->World->Prop}{Q:Exit->Act->World->Prop}(hG:lW P V w0)(h:Inv N V w0 S0 σ a w)(o:Oper)(j:ni N o=true){res:Ask}{ms:L Mv}{lK:L Ob}(hm:kZ P σ o res=some (ms,lK))(hr:Mv.runs σ ms=some σ')
 (hs:∀o∈lK,o.ok P)(hK:∀a' w',Inv N V w0 S0 σ' a' w'->K a' w'):Oper.UT V.rd P o a w K Q:=by
 have hd:∀d,o.dst=some d->d<N:=by
  unfold ni at j
  grind
 have K2:=j;unfold ni at j
 replace j:=(adS _ _▸j:_/\_).2
 cases res with
 |Vv r=>simp only[kZ]at hm;split at hm;rename_i H4 S4 h1;cases hm;exact TC hG h o K2 h1 hr (λob M1=>hs (.call ob)<|ahC M1) hK;simp at hm
 |refs out r=>
  simp only[kZ]at hm;split at hm<;>try(simp at hm;done)
  rename_i c cH;split at hm<;>try(simp at hm;done)
  rename_i f hc;rw[cH]at j;simp only[hc,adS]at j;let⟨g,p,q,Z,e2⟩:=CZ hG h (d:=o.dst) hd f j.2 c.args.toList j.1 hm hr hs;have hx:execOp a.eval o=callFunc g (p++(c.args.toList.map a.eval).toArray++q):=by have:=wM c.args a.eval;simp only[execOp,cH,Go.resolve,hc,Deferred.ofValue,Z,this];rfl
  refine Oper.qZ (by simp[cH]) ?_;rw[hx];exact e2 _ o a K Q λv w' hi=>hK _ _ hi
 |oC=>
  simp only[kZ]at hm;split at hm<;>try(simp at hm;done)
  rename_i d T;split at hm<;>try(simp at hm;done)
  rename_i t x l hh m cH;split at hm<;>try(simp at hm;done)
  split at hm<;>try(simp at hm;done)
  rename_i H4 hw;cases hm;rw[cH]at j;simp only[adS,Option.all_eq_true,aiD,Option.isNone_iff_eq_none]at j;exact uw T (by simp only[execOp,cH];rfl) (Ou h (hd d T) x l hh j.1.1.1.1 j.1.1.1.2 j.1.1.2 hw hr) hK
 |U0 J' b=>
  simp only[kZ]at hm;split at hm<;>try(simp at hm;done)
  rename_i c cH;split at hm<;>try(simp at hm;done)
  rename_i f hc;split at hm<;>try(simp at hm;done)
  rename_i C hC;split at hm<;>try(simp at hm;done)
  rename_i J hJ;split at hm<;>try(simp at hm;done)
  rename_i ys F0;cases hm;rw[cH]at j;simp only[hc,adS]at j;let⟨S,F,n,ha,G2,G0,F4,E2⟩:=h;have Y:(resolve σ f).cont=some (.pv C):=px
  obtain⟨F1,Z,-⟩:=ba n f j.2 Y;simp only[Rel]at Z;have u:=qT n c.args.toList j.1 F0;let⟨l,hv,hy⟩:=hs (.U0 C J J' ys b) I _ Z.1;have G1:=n.res hJ;let⟨fn,H3,G4,body,q1,q2⟩:=hy V.rd w S (F 500) _ (hG.MN E2) (hG.c6.mono λb hb=>(n.own _ b hb).1) G1 (n.nodup _) (λb hb=>(n.own _ b hb).2) n.shr u;have hx:(execOp a.eval o).run P w=.ok (.round l fn H3 G4 body) w:=by
   have:=wM c.args a.eval;rw[this]at q1;simp only[execOp,cH,Go.resolve,hc,Deferred.ofValue,hv];simp only[Sem.run_bind,Sem.run_pure,Result.andThen_ok];have e2:invoke (.fn (.yield l) #[]) (#[]++Array.map a.eval c.args)=Instr.yield l (Array.map a.eval c.args):=by simp[invoke]
   rw[e2];exact q1
  refine Oper.qZ (by simp[cH]) ?_;rw[hx,Oper.uponIn_round];refine⟨(λh=>by cases h),q2.mono ?_⟩;rintro e w'⟨rfl,S',F',k1,k2,k3,k4,k5,k6,k7,k8,k9,k10,YK⟩;have hi:=Inv.yielded (J':=J') n ha G2 G0 F4 E2 hJ k1 k2 k3 k4 k5 k6 k7 k8 k9 k10 YK;exact hi.Hu hd hr hK λS=>d7
 |WH J' r=>
  simp only[kZ]at hm;split at hm<;>try(simp at hm;done)
  rename_i c cH;split at hm<;>try(simp at hm;done)
  rename_i f hc;split at hm<;>try(simp at hm;done)
  rename_i x xs u;split at hm<;>try(simp at hm;done)
  rename_i C hC;split at hm<;>try(simp at hm;done)
  rename_i g hf;split at hm<;>try(simp at hm;done)
  rename_i J hJ;split at hm<;>try(simp at hm;done)
  rename_i ys F0;cases hm;rw[cH]at j;simp only[hc,u,af5,adS]at j;let⟨S,F,n,ha,G2,G0,F4,E2⟩:=h;have Y:(resolve σ x).cont=some (.pv C):=px
  obtain⟨F1,Z,-⟩:=ba n x j.1.1 Y;simp only[Rel]at Z;have E1:=qT n xs j.1.2 F0;have qe:=Nk n j.2 hf;have G1:=n.res hJ;have F3:=hs (.WH g C J J' ys r) I _ Z.1 w S (F 500) _ (hG.MN E2) (hG.c6.mono λb hb=>(n.own _ b hb).1) G1 (n.nodup _) (λb hb=>(n.own _ b hb).2) n.shr E1;have hx:execOp a.eval o=callFunc g (a.eval x::xs.map a.eval).toArray:=by have:=wM c.args a.eval;rw[u,ad3]at this;simp only[execOp,cH,Go.resolve,hc,Deferred.ofValue,qe,this];simp[invoke]
  refine Oper.qZ (by simp[cH]) ?_;rw[hx];refine F3 _ o a K Q λv w' hq=>?_;let⟨S',F',k1,k2,k3,k4,k5,k6,k7,k8,k9,k10,YK,k12⟩:=hq;have hi:=Inv.yielded (J':=J') n ha G2 G0 F4 E2 hJ k1 k2 k3 k4 k5 k6 k7 k8 k9 k10 YK;exact hi.Hu hd hr hK λS=>k12 _ _
 |mkc=>
  simp only[kZ]at hm;split at hm<;>try(simp at hm;done)
  rename_i d T;split at hm<;>try(simp at hm;done)
  rename_i g first A cH
  split at hm<;>try(simp at hm;done)
  rename_i K2;split at hm<;>try(simp at hm;done)
  rename_i ts L1;split at hm<;>try(simp at hm;done)
  rename_i M2;cases hm;have H1:∀t∈ts,t≠d:=by simpa using M2
  rw[cH]at j;simp only[adS]at j;refine uw (s:=Instr.makeFunc (.func g) (first.map a.eval)<|A.map a.eval) T (bD) ?_ hK;simp only[Mv.cQ,abL]at hr;subst hr;have Z:first.map a.eval=#[]:=gn;have e2:A.map a.eval=(ts.map λt=>tv V a t).toArray:=by apply aib;rw[Array.toList_map,yI (V:=V) L1 j.2]
  refine⟨.func (.func g) #[] (ts.map λt=>tv V a t).toArray,w,by rw[Z,e2];rfl,h.put (hd d T) λS F hc=>?_⟩;unfold an;simp only[aG];refine⟨U,λq hq=>?_,λ_=>?_⟩;obtain⟨t,ht,rfl⟩:=ab4.1 hq;rw[ar _ _<|H1 t ht];exact abY _;rw[af9]
  congr 2
  exact af3 λt ht=>by simp only[Function.comp];rw[ar _ _<|H1 t ht]
 |ix out r=>
  simp only[kZ]at hm;split at hm<;>try(simp at hm;done)
  rename_i c cH;split at hm<;>try(simp at hm;done)
  rename_i t hc;split at hm<;>try(simp at hm;done)
  rename_i g A V0;split at hm<;>try(simp at hm;done)
  rename_i G3;rw[cH]at j;simp only[hc,adS]at j;simp only[afY,adS,decide_eq_true_eq,beq_iff_eq]at G3;have H5:a.eval (.tmp t)=.func (.func g) #[] (A.map λq=>tv V a q.1).toArray:=by
   obtain⟨S,F,n,-⟩:=h;rw[iq V a<|gS j.2];have:=n.rel t;unfold an at this
   grind
  have M:(c.args.toList++A.map λq=>Operand.tmp q.1).all aO=true:=by rw[List.all_append,j.1,ahL,afY];intro x hx;obtain⟨q,hq,rfl⟩:=ab4.1 hx;simpa[aO]using(G3 q hq).1.1
  have P0:xl o.dst (resolve σ<|.func g) ((c.args.toList++A.map λq=>Operand.tmp q.1).map<|resolve σ) out r=some (ms,lK):=by rw[adW,af9];exact hm
  let⟨g',p,q,Z,e2⟩:=CZ hG h (d:=o.dst) hd (.func g) W _ M P0 hr hs;have S2:g=g'/\#[]=p/\#[]=q:=by have:Value.func (.func g) #[] #[]=.func (.func g') p q:=Z;simpa using this
  obtain⟨rfl,rfl,rfl⟩:=S2;have S1:A.map (λq=>a.eval<|.tmp q.1)=A.map λq=>tv V a q.1:=af3 λq hq=>iq V a (G3 q hq).1.1;have hx:execOp a.eval o=callFunc g (#[]++((c.args.toList++A.map λq=>Operand.tmp q.1).map a.eval).toArray++#[]):=by
   have e3:((c.args.toList++A.map λq=>Operand.tmp q.1).map a.eval).toArray=c.args.map a.eval++(A.map λq=>tv V a q.1).toArray:=by apply aib;rw[adW,af9];simp only[Array.toList_append,Array.toList_map];rw[<-S1];rfl
   rw[e3];simp only[execOp,cH,Go.resolve,hc,Deferred.ofValue,H5];simp[invoke]
  refine Oper.qZ (by simp[cH]) ?_;rw[hx];exact e2 _ o a K Q λv w' hi=>hK _ _ hi
 |ext out r=>
  simp only[kZ]at hm;split at hm<;>try(simp at hm;done)
  rename_i M
  replace M:=(adS _ _▸(aay M).1:_/\_).1
  split at hm<;>try(simp at hm;done)
  rename_i H4 H ys hl;cases hm;unfold Rq at hl;split at hl<;>try(simp at hl;done)
  rename_i L0 F0;split at hl<;>try(simp at hl;done)
  rename_i H2;simp only[abL,aeb]at hl;obtain⟨rfl,rfl,rfl⟩:=hl;have hE:=EZ (D:=Ext P o) (λvs w R R' h1 h2=>Ext.mono h1 h2) (first:=[]) (captured:=[]) (af:=#[]) (cf:=#[]) hG h hd o.op.operands.toList M (λS F hc=>by simp[Cells]) F0 H2 hr (by have:=hs (.ext o ((eJ []<|o.op.operands.toList.map<|resolve σ).map (·.2)) L0 out r) I;rw[ahA,ahl];exactλw S V vs F hl _ hc=>this w S V vs F hl hc)
  let⟨nx,v,w',k1,k2,k3⟩:=hE a.eval I;rcases k2 with rfl|⟨rfl,T⟩;exact ib k1<|hK _ _ k3;refine Oper.qZ (λc hc=>?_) (by rw[k1,Oper.uponIn_skip];rw[T]at k3⊢;exact hK _ _ k3);simp only[execOp,hc]at k1;cases hz:(Go.resolve a.eval c o.type).run P w<;>simp[hz]at k1
 |Z8 y=>
  simp only[kZ]at hm;split at hm<;>try(simp at hm;done)
  rename_i t m x ok cH;split at hm<;>try(simp at hm;done)
  rename_i K0 k h1 h2;split at hm<;>try(simp at hm;done)
  rename_i A0;simp only[adS]at A0;cases hm;rw[cH]at j;simp only[adS]at j;refine wp_pure h hd hr hK λS F n=>?_;obtain⟨F1,Z,-⟩:=ba n m j.1 h1;obtain⟨F2,e2,-⟩:=ba n x j.2 h2;rw[Rel.aK _ e2 A0.1]at e2;let⟨v,hv,hy⟩:=hs (.Z8 t ok K0 k y) I w S _ _ (Z.2.2 w S (λ_ _=>rfl) λ_ h=>h) e2;exact⟨v,by simp[execOp,cH,hv],hy⟩
 |lK y=>
  simp only[kZ]at hm;split at hm<;>try(simp at hm;done)
  rename_i c cH;split at hm<;>try(simp at hm;done)
  rename_i b hc;split at hm<;>try(simp at hm;done)
  rename_i x u;split at hm<;>try(simp at hm;done)
  rename_i K0 h1;split at hm<;>try(simp at hm;done)
  rename_i A0;cases hm;rw[cH]at j;have hx:aO x=true:=by
   simp only[hc,u,af5,List.all_nil,adS]at j
   grind
  have H6:o.op.operands.toList.map a.eval=[a.eval x]:=by rw[cH];simp[Op.operands,Call.operands,hc,u]
  refine wp_pure h hd hr hK λS F n=>?_;obtain⟨F1,Z,-⟩:=ba n x hx h1;exact hs (.lK o K0 y) I w S _ a.eval (Z.2.2 w S (λ_ _=>rfl) λ_ h=>h) H6
 |V9 k r=>
  simp only[kZ]at hm;split at hm<;>try(simp at hm;done)
  rename_i c cH;split at hm<;>try(simp at hm;done)
  rename_i f hc;split at hm<;>try(simp at hm;done)
  rename_i x xs u;split at hm<;>try(simp at hm;done)
  rename_i g hf;split at hm<;>try(simp at hm;done)
  rename_i y hx;split at hm<;>try(simp at hm;done)
  rename_i ys F0;split at hm<;>try(simp at hm;done)
  rename_i A0;cases hm;rw[cH]at j;simp only[hc,adS]at j;have M:=afY.1 j.1;let⟨p1,p2⟩:=EA u;let⟨S,F,n,ha,G2,G0,F4,E2⟩:=h;obtain⟨F1,Z,e2,-,e4⟩:=ba n x (M x p1) hx;have hn:F1.Nodup:=by
   unfold Re at A0;split at A0;rename_i r' g1 g2 O;cases x with
   |tmp t=>
    have ht:(σ t).av=.bH r' g1 g2 []:=by have e:(cF.of σ t).sl.av=.bH r' g1 g2 []:=O;unfold cF.of at e;split at e<;>first|exact e|(simp[Sl.none]at e)
    rw[(e4 t r' g1 g2 W ht).1];exact n.nodup _
   |const v=>exfalso;have hs:(resolve σ<|.const v).sl.av=iS v:=W;rw[hs]at O;unfold iS nA at O;split at O;cases O;split at O;cases O;split at O<;>cases O
   |func g'=>cases O
   |global g'=>cases O
   ·split at A0
    ·rename_i sz X _;simp only[Rel]at Z;rcases Z with⟨-,-,rfl⟩|⟨b,V1,cs,F',-,-,-,-,-,k,rfl⟩;exact aee;rw[dG.aK _ k A0];simp
    cases A0
  have E1:=qT n xs (afY.2 λz hz=>M z<|p2 z hz) F0;have qe:=Nk n j.2 hf;have F3:=hs (.V9 g k y ys r) I w S (a.eval x) _ F1 (hG.MN E2) (hG.c6.mono λb hb=>by let⟨i,hi⟩:=e2 b hb;exact(n.own i b hi).1) Z hn (λb hb=>by let⟨i,hi⟩:=e2 b hb;exact(n.own i b hi).2) n.shr E1;have P1:execOp a.eval o=callFunc g (ins k (a.eval x)<|xs.map a.eval).toArray:=by have:=wM c.args a.eval;rw[<-L8 u,RD]at this;simp only[execOp,cH,Go.resolve,hc,Deferred.ofValue,qe,this];simp[invoke]
  refine Oper.qZ (by simp[cH]) ?_;rw[P1];refine F3 _ o a K Q λv w' hq=>?_;let⟨S',F',k1,k2,k3,k4,k5,k6,k7⟩:=hq;exact hK _ _ (Inv.end hd ha G2 n k1 E2 k2 k3 k4 G0 F4 k5 k6 k7 hr)
 |W2 y=>
  simp only[kZ]at hm;split at hm<;>try(simp at hm;done)
  rename_i t x cH;split at hm<;>try(simp at hm;done)
  rename_i C hC;split at hm<;>try(simp at hm;done)
  rename_i J hJ;split at hm<;>try(simp at hm;done)
  cases hm;rw[cH]at j;have Y:(resolve σ x).cont=some (.pv C):=px
  refine wp_pure h hd hr hK λS F n=>?_;obtain⟨F1,Z,-⟩:=ba n x j Y;simp only[Rel]at Z;let⟨v,hv,hy⟩:=hs (.W2 t C J y) I w S _ _ (n.res hJ) Z.1;exact⟨v,by simp[execOp,cH,hv],hy⟩
end
end Go.Ai
