/- ScaleRanges holds of the program, under no condition. -/
import Derived.Test.YtacjimehcbbkbaaGreatDoorRZAD
import Derived.Lib.ConvBytes
import Derived.Laws.AppendOwn
import Derived.MapKept
set_option linter.all false
set_option maxRecDepth 100000
set_option maxHeartbeats 0
namespace Go.Ai
open Go.RowKit
section
variable{R:Q Nat->Prop}{P:Program}{N:Nat}{V:Hid}{w w0:World}{S S0:Nat->Prop}
def XS{a:L Value}(b:N<=1000000)(hl:a.length<=N):tv V {tmps:=a.toArray++Array.replicate (N-a.toArray.size) undef,defers:=[]}=a8 V a:=by
 funext i
 simp only[tv,a8];have hs:(a.toArray++Array.replicate (N-a.toArray.size) undef).size=N:=by simp;omega
 rw[hs];by_cases hi:i<1000000;simp only[hi];simp
 grind
 grind
def Sv{xs:L AV}{c:L Value}{F:L Nat}(h:Cells w S false xs c F):Rel w S (tN xs) (xZ c.toArray) F:=by
 generalize d:c.toArray=b;have e:c=b.toList:=by rw[<-d]
 rw[e]at h;unfold xZ;have a:=Cells.length h;cases xs with
 |nil=>rw[dif_neg fP];exact⟨b,W,h⟩
 |cons x xs=>cases xs with
  |nil=>
   have f:b.size=1:=a;rw[dif_pos f];obtain⟨y,i,n,m,j,rfl,-,k5,rfl,rfl⟩:=h;have:b[0]=y:=by grind
   rw[this];simpa[tN]using k5
  |cons g xs=>rw[dif_neg<|by simp at a;omega];exact⟨b,W,h⟩
def afg(Q:St->Prop):Exit->St->Prop
 |.normal,σ=>Q σ
 |.ret,σ=>Q σ
 |_,_=>False
def IG{f:FuncId}{fn:Func}{c:Code}{H args s:L AV}{r:AV}{Q:St->Prop}(hf:P.funcs[f]?=some fn)(m:fn.body=some c)(hn:(fn.name== "runtime.NumGoroutine")=false)(H2:args.length<=fn.ntmps)(hN:fn.ntmps<=1000000)
 (hd:fh fn.results.toList []=true)(h:AW R0 P fn.ntmps c (afg Q) (both args H))
 (hQ:∀σ,Q σ->∀V w0 S0 a w,Inv fn.ntmps V w0 S0 σ a w->∃A,Inv fn.ntmps V w0 S0 A a w/\(∃xs,jC P A fn.results.toList=some xs/\w9 (tN xs) r)/\∀(k:Nat)(y:AV),s[k]?=some y->(A<|1000000+k).av=y/\y.ig=true):
 Ki P f H args s r:=by
 intro w S V M F hl hG hc;obtain⟨C,u⟩:∃C:Hid,C={v:=V.v,g:=V.g}:=⟨_,W⟩;have ev:C.v=V.v:=by rw[u]
 have eg:C.g=V.g:=by rw[u]
 have em:cK C w=cK V w:=by unfold cK;rw[eg]
 have F0:Inv fn.ntmps C w S (both args H) {tmps:=M.toArray++Array.replicate (fn.ntmps-M.toArray.size) undef,defers:=[]} w:=by
  refine⟨S,F,?_,by simp;omega,by rw[u],λ_ h=>h,λ_ h=>.inl h,mb.refl _ _⟩;rw[XS hN E,em];have e2:a8 C M=a8 V M:=by unfold a8;rw[ev]
  rw[e2];exact⟨hc.rel,hc.nodup,hc.di,λi b m=>⟨.inr (hc.own i b m).1,(hc.own i b m).2⟩,hc.shr⟩
 have G1:C.rd=none:=by rw[u]
 have hh:=h C w S _ w ⟨by rw[u];rfl,hG.laid,by rw[eg];exact hG.apart⟩ F0;rw[G1]at hh;refine qD.lS hf (by rw[m];rfl) hn<|(callsIn_wide (n:=0)).1<|callsIn_of_wp_marks hf m U<|wpIn_mono hh λe O w1⟨B,h1,S1,T,ds,F1,G6,H3,E2,E1,o,hm⟩=>?_;have X:O.defers=ds:=fP;have gen:Q B->LeavesInM Fence.wide 0 P fn O.tmps (λe t=>∃Z,e=.returned Z/\∃x K,sS V w w t/\(∀b,S b->x b)/\(∀b,x b->S b\/cK V w b)/\aU x (cK V w) (both [r] s) (a8 V [Z]) t K) O.defers .returning w1:=by
  intro G2;rw[X];refine sB ds w1 hm.1 (λd hd=>by obtain⟨D,k1,k2,-⟩:=hm.2 d hd;exact⟨D,k1,k2⟩) λt B0=>?_;have hi:Inv fn.ntmps {v:=V.v,g:=V.g,df:=ds} w S B O t:=by have k1:=F1.shut hm B0;have k2:=o.shut hm B0;subst u;exact⟨S1,T,k1,G6,X,E2,E1,⟨k2.os,k2.tape,k2.output,k2.size,k2.block⟩⟩
  have key:Q B->∃v,(results fn O.tmps).run P t=.ok v t/\∃Z,Ending.returned v=.returned Z/\
   ∃x K,sS V w w t/\(∀b,S b->x b)/\(∀b,x b->S b\/cK V w b)/\aU x (cK V w) (both [r] s) (a8 V [Z]) t K:=by
   intro hq;obtain⟨A,⟨x,F,q,H6,X,F4,F3,p⟩,⟨xs,hx,G3⟩,hH⟩:=hQ B hq _ w S O t hi;obtain⟨M,K,k1,k2,k3,k4⟩:=rV q _ [] hd hx;have H1:∀b∈K,cK V w b/\b<t.heap.size/\¬x b:=λb m=>by obtain⟨i,-,-,hi⟩:=k4 b m;exact q.own i b hi
   have G0:(results fn O.tmps).run P t=.ok (xZ M.toArray) t:=by rw[De,Array.mapM_eq_mapM_toList];simp_all
   obtain⟨T,F2,hp,hq⟩:=G3 t x (xZ M.toArray) K<|Sv k2;have m1:∀b∈T,b∈K:=λb m=>hp.mem_iff.2 (by simp[m]);have m2:∀b∈F2,b∈K:=λb m=>hp.mem_iff.2 (by simp[m]);have hn:=acH.1<|hp.nodup_iff.1 k3;have H4:∀k,∀b∈F (1000000+k),b∉K:=λk b m Y=>by obtain⟨i,-,H5,hi⟩:=k4 b Y;exact q.di (1000000+k) i E b m hi
   have hr:=hq (λb=>x b\/b∈F2) (λb m=>.inl m) λb m=>.inr m;refine⟨_,G0,_,W,λb=>x b\/b∈F2,λi=>if i=0 then T else if 1000000<=i/\i-1000000<s.length then F i else[],⟨p.os,p.tape,p.output,p.size,p.block⟩,λb m=>.inl<|F4 b m,?_,?_⟩;rintro b(m|m);exact F3 b m;simp_all;have A0:∀b,x b\/b∈F2->b<t.heap.size:=by rintro b(m|m);exact q.shr b m;simp_all
   refine⟨λi=>?_,λi=>?_,λi j G4 b m=>?_,λi b m=>?_,A0⟩;by_cases h0:i=0;subst h0;simp[if_true];have p:=fe (args:=[r]) (H:=s) (i:=0) E;simp[ahb]at p;rw[an.aC<|by rw[p];exact hr.plain,p];simpa[a8]using hr;by_cases h1:i<1000000;have o:=fe (args:=[r]) (H:=s) h1;rw[aex<|by simp;omega]at o;rw[an.aC<|by rw[o];rfl,o];have:¬(1000000<=i/\i-1000000<s.length):=E;simp[h0,this,if_false,Rel];obtain⟨k,rfl⟩:∃k,i=1000000+k:=⟨i-1000000,E⟩;have o:=ew (args:=[r]) (H:=s) I k;by_cases hk:k<s.length;rw[acL hk]at o;obtain⟨e1,e2⟩:=hH k _<|acL hk;have z:=q.rel<|1000000+k;have G5:1000000<=1000000+k/\1000000+k-1000000<s.length:=E;simp only[h0,if_false,G5,and_self,if_true];have ht:tv V O (1000000+k)=a8 V [xZ M.toArray] (1000000+k):=by simp[tv,a8];rw[aaq E,aaq E]
   generalize s[k]=y at*;cases y with
   |abs J=>
    unfold an at z⊢
    grind
   |bw _ _ _ _=>simp[AV.ig]at e2
   |ptr _ _ _ _=>simp[AV.ig]at e2
   |gI _ _=>simp[AV.ig]at e2
   |_=>rw[an.aC<|by rw[e1];rfl,e1]at z;rw[an.aC<|by rw[o];rfl,o,<-ht];exact Rel.mono (λb m=>.inl m) _ z
   ·rw[aex E]at o;rw[an.aC<|by rw[o];rfl,o];have:¬(1000000<=1000000+k/\1000000+k-1000000<s.length):=E;simp only[h0,this,if_false,Rel]
   show(if i=0 then T else if 1000000<=i/\i-1000000<s.length then F i else[]).Nodup;split;exact hn.1;split;exact q.nodup i;simp
   replace m:b∈if i=0 then T else if 1000000<=i/\i-1000000<s.length then F i else[]:=m
   show b∉if j=0 then T else if 1000000<=j/\j-1000000<s.length then F j else[];split at m;split;omega;split;rename_i hj;intro Y;have e:j=1000000+(j-1000000):=E
   grind
   simp;split at m;rename_i hi;split;intro Y;have e:i=1000000+(i-1000000):=E
   grind
   split;exact q.di i j G4 b m;simp;cases m
   replace m:b∈if i=0 then T else if 1000000<=i/\i-1000000<s.length then F i else[]:=m
   split at m
   grind
   split at m;rename_i hi;have ho:=q.own i b m;refine⟨ho.1,ho.2.1,?_⟩;rintro(h|h);exact ho.2.2 h;have e:i=1000000+(i-1000000):=E
   grind
   cases m
  exact key G2
 cases e with
 |normal=>exact gen h1
 |ret=>exact gen h1
 |_=>exact h1.elim
def iQ(P:Program)(f:FuncId)(H args a:L SV)(r:SV):Prop:=Ki P f (aB H) (aB args) (aB a) r.den
def iQ.same{P:Program}{f:FuncId}{H b asx bs a c:L SV}{r q:SV}(h:iQ P f H asx a r)(i:aB H=aB b)(g:aB asx=aB bs)(e:aB a=aB c)(d:r.den=q.den):iQ P f b bs c q:=by unfold iQ at *;rw[<-i,<-g,<-e,<-d];exact h
def HS:∀(k:Nat)(xs:List SV)(m:a7)(L:List (Nat×Sl)),dn m=mk L->dn (cat (Cn k xs) m)=mk (entry k (aB xs)++L)
 |_,[],m,L,h=>h
 |k,x::xs,m,L,h=>by simp[Cn,cat,fb,HS (k+1) xs m L h];rfl
def Wu(args H:L SV):a7:=cat (Cn 0 args)<|Cn 1000000 H
def Wt(args H:L SV):dn (Wu args H)=both (aB args) (aB H):=HS 0 args _ _<|EG 1000000 H
def V5(l:a7):Nat->L SV->Prop
 |_,[]=>True
 |k,y::ys=>((gt l k).v=y/\y.plain=true)/\V5 l (k+1) ys
def Jw(l:a7):Nat->L SV->Prop
 |_,[]=>True
 |k,y::ys=>((gt l k).v=y/\y.ig=true)/\Jw l (k+1) ys
def Eb{l:a7}:∀{ys:L SV}{k:Nat}(j:Nat){y:AV},Jw l k ys->(aB ys)[j]?=some y->(dn l<|k+j).av=y/\y.ig=true
 |[],k,j,y,_,h=>by simp[aB]at h
 |x::ys,k,j,y,hh,h=>by
  cases j with
  |zero=>simp[aB]at h;subst h;exact⟨by rw[ee,ag7,hh.1.1],by rw[nh];exact hh.1.2⟩
  |succ j=>
   have:=Eb j hh.2 h
   grind
def V5.n{l:a7}:∀{ys:L SV}{k:Nat},V5 l k ys->Jw l k ys
 |[],_,_=>trivial
 |y::ys,k,h=>⟨⟨h.1.1,by have:=h.1.2;cases y<;>first|rfl|(simp[SV.plain]at this)⟩,V5.n h.2⟩
def Xu(P:Program)(rs:L ResultVar)(r:SV)(c:L SV)(σ:St):Prop:=∃l a,σ=dn l/\qh l a/\(∃b,jC P (dn<|sl a) rs=some b/\w9 (tN b) r.den)/\Jw (sl a) 1000000 c
variable{tt:TT}{F:St->Prop}{k:L It}{l:a7}
def mF{f:FuncId}{fn:Func}{c:Code}{H args b:L SV}{r:SV}(m:P.funcs[f]?=some fn)(o:fn.body=some c)(hn:(fn.name== "runtime.NumGoroutine")=false)(d:Nat.ble (len args) fn.ntmps=true)(p:Nat.ble fn.ntmps 1000000=true)
 (n:fh fn.results.toList []=true)(h:AK R0 P fn.ntmps (Xu P fn.results.toList r b) [.code c] (Wu args H)):iQ P f H args b r:=by
 refine IG (Q:=Xu P fn.results.toList r b) m o hn (by rw[bP,<-fk];simp_all) (acR p) n ?_ ?_;rw[<-Wt];exact jY (h:AW R0 P fn.ntmps c (gK R0 P fn.ntmps (Xu P fn.results.toList r b) []) (dn<|Wu args H)) λe g h=>by cases e<;>exact h
 rintro u⟨l,i,rfl,t,s,q⟩V w0 S0 a w hi;exact⟨dn<|sl i,Ju t hi,s,λk y j=>Eb k q j⟩
def aeS(hA:c8 P tt){rs:L ResultVar}{r:SV}{b:L SV}{xs:L SV}(a:L (Nat×SV))(d:ta l a)(h:jl tt (sl a) rs=some xs)(c:aw (xB xs) r)(hh:Jw (sl a) 1000000 b):
 AK R P N (Xu P rs r b) [] l:=by
 refine⟨l,a,W,d.Km,⟨_,ox hA h,?_⟩,hh⟩;rw[xA];exact w9.of_le c.den
def K7(x:SR):Q (Nat×SV):=
 match x.sl.v with
 |.bw r _ _ _=>some (r,x.rt.v)
 |.ptr r _ _ _=>some (r,x.rt.v)
 |y=>match y.aK with
  |true=>none
  |false=>match x.s with
   |some s=>some (s,y)
   |none=>none
def kB:L (Nat×SV)->L (Nat×AV)
 |[]=>[]
 |(r,y)::R=>(r,y.den)::kB R
def FU:L (Nat×SV)->Nat->Q Nat
 |[],_=>none
 |(r,_)::R,s=>match Nat.beq r s with
  |true=>some 0
  |false=>match FU R s with
   |some k=>some (k+1)
   |none=>none
def qR:∀(R:L (Nat×SV))(s:Nat),jD (kB R) s=FU R s
 |[],s=>rfl
 |(r,y)::R,s=>by
  simp[kB,jD,FU,qR R s];cases h:Nat.beq r s with
  |true=>simp_all
  |false=>rw[aaq λe=>by subst e;simp at h];cases FU R s<;>rfl
def K8{x:cx}(h:x.sl.av.ig=true):sW x=if x.sl.av.aK then none else x.s.map λs=>(s,x.sl.av):=by unfold sW;cases hh:x.sl.av<;>rw[hh]at h<;>first|(simp[AV.ig]at h;done)|(dsimp only;split<;>first|rfl|(cases x.s<;>rfl))
def K6{x:SR}(h:x.sl.v.ig=true):K7 x=if x.sl.v.aK then none else x.s.map λs=>(s,x.sl.v):=by unfold K7;cases hh:x.sl.v<;>rw[hh]at h<;>first|(simp[SV.ig]at h;done)|(dsimp only;split<;>rename_i a<;>simp[a]<;>first|rfl|(cases x.s<;>rfl))
def RZ(x:SR):sW x.den=(K7 x).map λq=>(q.1,q.2.den):=by
 cases a:x.sl.v.ig with
 |true=>rw[K6 a,K8 (x:=x.den)<|by rw[<-a,<-nh];rfl];have e:x.den.sl.av=x.sl.v.den:=W;have b:x.den.s=x.s:=W;rw[e,b,cD];split;rfl;cases x.s<;>rfl
 |false=>obtain⟨s,⟨v,g1,g2⟩,rt⟩:=x;cases v<;>first|(simp[SV.ig]at a;done)|rfl|(cases s<;>rfl)
def fH:L (Nat×SV)->L SR->L (Nat×SV)
 |R,[]=>R
 |R,x::xs=>match K7 x with
  |some (r,y)=>match FU R r with
   |some _=>fH R xs
   |none=>fH (cat R [(r,y)]) xs
  |none=>fH R xs
def M8:∀(R:L (Nat×SV))(r:Nat)(y:SV),kB (cat R [(r,y)])=kB R++[(r,y.den)]
 |[],r,y=>rfl
 |(s,z)::R,r,y=>by simp[cat,kB,M8 R r y]
def mw:∀(R:L (Nat×SV))(xs:L SR),dR (kB R) (xs.map SR.den)=kB (fH R xs)
 |R,[]=>rfl
 |R,x::xs=>by
  simp[dR,fH,RZ];cases K7 x with
  |none=>exact mw R xs
  |some q=>
   obtain⟨r,y⟩:=q;simp[qR];cases FU R r with
   |some k=>exact mw R xs
   |none=>rw[<-M8];exact mw _ xs
def PL(R:L (Nat×SV))(x:SR):Q SV:=
 match x.sl.v with
 |.bw r g1 g2 p=>match FU R r with
  |some k=>match dt (Nat.beq x.rt.g1 g1) (Gr (lu p)<|Nat.beq x.rt.g2 g2)with
   |true=>some (.bw (1000000+k) 0 0 p)
   |false=>none
  |none=>none
 |.ptr r g1 g2 p=>match FU R r with
  |some k=>match dt (Nat.beq x.rt.g1 g1) (Gr (flat p)<|Nat.beq x.rt.g2 g2)with
   |true=>some (.ptr (1000000+k) 0 0 p)
   |false=>none
  |none=>none
 |y=>match y.aK with
  |true=>some y
  |false=>match x.s with
   |some s=>match FU R s with
    |some k=>some (.bw (1000000+k) 0 0 [])
    |none=>none
   |none=>none
def PM{R:L (Nat×AV)}{x:cx}(h:x.sl.av.ig=true):vy R x=if x.sl.av.aK then some x.sl.av else match x.s with
 |some s=>match jD R s with
  |some k=>some (.bw (1000000+k) 0 0 [])
  |none=>none
 |none=>none:=by
 unfold vy;cases hh:x.sl.av<;>rw[hh]at h<;>first|(simp[AV.ig]at h;done)|rfl
def PK{R:L (Nat×SV)}{x:SR}(h:x.sl.v.ig=true):PL R x=match x.sl.v.aK with
 |true=>some x.sl.v
 |false=>match x.s with
  |some s=>match FU R s with
   |some k=>some (.bw (1000000+k) 0 0 [])
   |none=>none
  |none=>none:=by
 unfold PL;cases hh:x.sl.v<;>rw[hh]at h<;>first|(simp[SV.ig]at h)|rfl
def Xg{R:L (Nat×SV)}{x:SR}{y:SV}(h:PL R x=some y):vy (kB R) x.den=some y.den:=by
 cases d:x.sl.v.ig with
 |true=>
  rw[PK d]at h;rw[PM (x:=x.den)<|by rw[<-d,<-nh];rfl];have e:x.den.sl.av=x.sl.v.den:=W;have j:x.den.s=x.s:=W;rw[e,j,cD];split at h;simp_all;rename_i c;rw[aaq<|by rw[c];simp];split at h<;>try(cases h)
  rename_i s hs;split at h<;>try(cases h;done)
  rename_i k f;cases h;simp[qR,f,SV.den]
 |false=>
  obtain⟨s,⟨v,g1,g2⟩,rt⟩:=x;cases v with
  |bw r a b p=>
   simp[PL]at h;simp[vy,SR.den,Cl.den,qR];split at h<;>try(cases h)
   split at h<;>try(cases h;done)
   rename_i c;simp[aW,sR]at c;cases h;simp_all[SV.den]
  |ptr r a b p=>
   simp[PL]at h;simp[vy,SR.den,Cl.den,qR];split at h<;>try(cases h)
   split at h<;>try(cases h;done)
   rename_i c;simp[aW,sR]at c;cases h;simp_all[SV.den]
  |gI g i=>
   simp[PL,SV.aK]at h;simp[vy,SR.den,Cl.den,SV.den,qR,AV.aK,agq,if_false];cases s<;>simp only at h<;>try(cases h)
   split at h<;>try(cases h;done)
   rename_i f;cases h;simp[f,SV.den]
  |_=>simp[SV.ig]at d
def Fq(R:L (Nat×SV)):L SR->Q (L SV)
 |[]=>some []
 |x::xs=>match PL R x with
  |some y=>match Fq R xs with
   |some ys=>some (y::ys)
   |none=>none
  |none=>none
def vj{R:L (Nat×SV)}:∀{xs:L SR}{ys:L SV},Fq R xs=some ys->uI (kB R) (xs.map SR.den)=some (aB ys)
 |[],ys,h=>by simp[Fq]at h;subst h;rfl
 |x::xs,ys,h=>by
  simp[Fq]at h;split at h<;>try(cases h)
  rename_i y c;split at h<;>try(cases h;done)
  rename_i b a;cases h;simp[uI,Xg c,vj a,aB]
def mo:L (Nat×SV)->L SV
 |[]=>[]
 |(_,y)::R=>y::mo R
def xn:∀(R:L (Nat×SV)),(kB R).map (·.2)=aB (mo R)
 |[]=>rfl
 |(r,y)::R=>by simp[kB,mo,aB,xn R]
def Te:L (Nat×SV)->L Nat
 |[]=>[]
 |(r,_)::R=>r::Te R
def nW:L SV->Bool
 |[]=>true
 |x::xs=>match x.plain with
  |true=>nW xs
  |false=>false
def iT:∀(xs:L SV),nW xs=true->o6 (aB xs)=true
 |[],_=>rfl
 |x::xs,h=>by
  simp[nW]at h;split at h<;>try(cases h)
  rename_i a;simp[aB,o6,cU,a,iT xs h]
def YW:L (Nat×SV)->Q Nat->Bool
 |_,none=>false
 |[],_=>false
 |(r,_)::R,some d=>match Nat.beq r d with
  |true=>true
  |false=>YW R<|some d
def ye:∀(R:L (Nat×SV))(d:Q Nat),YW R d=false->LF (kB R) d=false
 |[],d,h=>by cases d<;>rfl
 |(r,y)::R,none,h=>rfl
 |(r,y)::R,some d,h=>by
  simp[YW]at h;split at h<;>try(cases h)
  rename_i a;simp only[kB,LF];rw[aaq λe=>by subst e;simp at a,ye R (some d) h]
structure mJ where
 g:FuncId
 asx:List SV
 R:List (Nat×SV)
def um(l:a7)(f:Operand)(asx:L Operand):Q (L Pd×mJ):=
 (eB l f).bind λf=>(dq f).bind λ(ob,v)=>match v with
   |.fn (.func g) first a=>(iz<|dt (ij first)<|ij a).bind λ_=>(jR l asx).bind λc=>match fH [] c with
    |R=>(Fq R c).bind λb=>(iz<|Nat.ble (len first+len b+len a) 1000000).bind λ_=>some (ob,⟨g,cat first<|cat b a,R⟩)
   |_=>none
def rB(l:a7):L (Nat×SV)->L SV->a7
 |[],_=>l
 |(r,_)::R,ys=>match ys with
  |[]=>l
  |y::ys=>match gt l r with
   |⟨_,a,b⟩=>(r,⟨y,a,b+1⟩)::rB l R ys
def jX(l:a7):∀(R:L (Nat×SV))(ys:L SV),l9 (dn l) (qi (kB R)<|aB ys)=dn (rB l R ys)
 |[],ys=>rfl
 |(r,z)::R,[]=>rfl
 |(r,z)::R,y::ys=>by simp[kB,aB,qi,l9,rB,fb,jX l R ys,Cl.den,BN,Q8]
def ja(l:a7)(a:Q Nat)(R:L (Nat×SV))(out:L SV)(r:SV):Q (a7×L Nat):=
 match dt (Nat.beq (len R)<|len out) (dt (nW<|mo R)<|dt (nW out)<|dt r.plain<|not'<|YW R a)with
 |false=>none
 |true=>match a with
  |none=>some (rB l R out,Te R)
  |some d=>nk (rB l R out) [] d r λb=>some (b,cat (Te R) [d])
def pg:∀(R:L (Nat×SV))(ys:L SV),len R=len ys->(qi (kB R)<|aB ys).map (·.1)=Te R
 |[],ys,_=>by cases ys<;>rfl
 |(r,z)::R,[],h=>by simp[fk]at h
 |(r,z)::R,y::ys,h=>by simp[kB,aB,qi,Te];rw[pg R ys<|by simpa[fk]using h]
def EU(R:L (Nat×SV)):(kB R).length=R.length:=by
 induction R with
 |nil=>rfl
 |cons q R a=>obtain⟨r,y⟩:=q;simp[kB,a]
def acm{b:Q Nat}{f:Operand}{asx:L Operand}{ob:L Pd}{h:mJ}{out:L SV}{r:SV}{p:a7}{q:L Nat}(hh:um l f asx=some (ob,h))(y:aj ob)(e:ja l b h.R out r=some (p,q)):
 ∃n,Ai.vP b (resolve (dn l) f) (asx.map<|resolve<|dn l) (aB out) r.den=some (n,[.refs h.g (aB<|mo h.R) (aB h.asx) (aB out) r.den])/\Mv.runs (dn l) n=some (dn p)/\bp n=q:=by
 simp[um,aaV]at hh;obtain⟨x,J,u,v,H,j⟩:=hh;cases v<;>try(cases j)
 rename_i fn first a
 cases fn<;>try(cases j)
 rename_i g;simp only[aaV,bT,aW,acQ]at j;obtain⟨_,⟨D,C⟩,i,t,o,B,_,A,rfl,rfl⟩:=j;have z:x.den.cont=some (.fn (.func g) (aB first)<|aB a):=aJ H y;simp[ja]at e;split at e<;>try(cases e)
 rename_i s;simp[aW,not_iff]at s;obtain⟨m,Y,X,T,O⟩:=s;have M:dR [] (asx.map<|resolve<|dn l)=kB (fH [] i):=by rw[fg l t];exact mw [] i
 have K:uI (kB<|fH [] i) (asx.map<|resolve<|dn l)=some (aB o):=by rw[fg l t];exact vj B
 have c:Ai.vP b (resolve (dn l) f) (asx.map<|resolve<|dn l) (aB out) r.den=some (dz b r.den [.back<|qi (kB<|fH [] i)<|aB out],[.refs g (aB<|mo<|fH [] i) (aB<|cat first<|cat o a) (aB out) r.den]):=by unfold Ai.vP;rw[cS J,z];simp only[eH,D,C,agJ,if_true,M,K,xn];rw[aas];simp[dj,cJ];simp[iT _ Y,iT _ X,cU,T,ye _ _ O,EU,bP,Bool.not_false,agJ,Bool.and_true,aeD,abi,decide_eq_true_eq];have:=acR A;simp[fk]at this m;exact⟨m,this⟩
 refine⟨_,c,?_⟩;cases b with
 |none=>cases e;exact⟨by simp[dz,Mv.runs,Mv.run,jX],by simp[dz,bp,Mv.keys,afd];exact pg _ _ m⟩
 |some d=>simp[iG,aaP,acQ]at e;obtain⟨rfl,rfl⟩:=e;exact⟨by simp[dz,agr,afy,Mv.runs,Mv.run,jX,gQ],by simp[dz,agr,afy,bp,Mv.keys,afd,dj];rw[pg _ _ m]⟩
def IN{all:Array Oper}{a:Q Nat}{f:Operand}{asx e:Array _}{ty:TypeId}{pos:String}{c:Array Edge}{g:Q (Nat×Bool)}{K:L Mv->St->Prop}{ob:L Pd}{h:mJ}{out:L SV}{r:SV}{d:a7}{i:L Nat}
 (p:cN l all.toList g=some true)(hh:um l f asx.toList=some (ob,h))(m:aj ob)(hs:iQ P h.g (mo h.R) h.asx out r)(j:ja l a h.R out r=some (d,i))(n:∀b,bp b=i->K b (dn d)):
 KV P all ⟨a,.call ⟨.value f,asx,e⟩,ty,pos,c,g⟩ (dn l) K:=by
 obtain⟨b,t,s,q⟩:=acm hh m j;refine⟨.refs (aB out) r.den,b,[.refs h.g (aB<|mo h.R) (aB h.asx) (aB out) r.den],dn d,?_,?_,s,n b q⟩;unfold fD;rw[dL (o:=⟨a,.call ⟨.value f,asx,e⟩,ty,pos,c,g⟩) p];exact t;simp;exact hs
def Tv{all:Array Oper}{rest:L Oper}{a:Q Nat}{f:Operand}{asx d:Array _}{ty:TypeId}{pos:String}{b:Array Edge}{g:Q (Nat×Bool)}{ob:L Pd}{h:mJ}{out:L SV}{r:SV}{c:a7}{e:L Nat}
 (n:cN l all.toList g=some true)(hh:um l f asx.toList=some (ob,h))(j:aj ob)(hs:iQ P h.g (mo h.R) h.asx out r)(i:ja l a h.R out r=some (c,e))(m:AK R P N F (.ops all rest::k) c):
 AK R P N F (.ops all (⟨a,.call ⟨.value f,asx,d⟩,ty,pos,b,g⟩::rest)::k) l:=by
 exact IN n hh j hs i λo _=>m
def PE{all:Array Oper}{i:L Nat}{c:L (L Nat×L Nat)}{rest:L Oper}{a:Q Nat}{f:Operand}{asx e:Array _}{ty:TypeId}{pos:String}{b:Array Edge}{g:Q (Nat×Bool)}{ob:L Pd}{h:mJ}{out:L SV}{r:SV}{j:a7}{m:L Nat}
 (q:cN l all.toList g=some true)(hh:um l f asx.toList=some (ob,h))(o:aj ob)(hs:iQ P h.g (mo h.R) h.asx out r)(n:ja l a h.R out r=some (j,m))
 (p:AK R P N F (.nu all i rest ((iP (dn l) all ⟨a,.call ⟨.value f,asx,e⟩,ty,pos,b,g⟩,m)::c)::k) j):
 AK R P N F (.nu all i (⟨a,.call ⟨.value f,asx,e⟩,ty,pos,b,g⟩::rest) c::k) l:=by
 exact IN q hh o hs n λs d=>by rw[d];exact p
def aaB(tt:TT)(l:a7)(d:Nat)(t:TypeId)(x:SR)(lo hi:Q SR):pF:=
 (slice? tt t).bind λe=>(Iw tt e).bind λti=>(dq x).bind λ(ob,v)=>(uh v).bind λ(sz,n)=>(iz<|dt (mA v)<|Nat.beq sz ti.size).bind λ_=>(EW 0 0 v).bind λ_=>
   (qB lo 0).bind λ(f,a)=>(qB hi n).bind λ(c,b)=>(zL x).bind λ(r,g1,_,p)=>(iz<|ne' r d).bind λ_=>dB ((a<b)::(b<=n)::app ob (app f c)) l d (.bw r g1 (match x.sl.v with|.bw .. =>x.rt.g2|_=>x.sl.g2)<|p++[.nF sz a<|b-a])
def MJ(hA:c8 P tt)(d:Nat)(t:TypeId)(x:SR)(lo hi:Q SR):dF l (T4 P d t x.den (lo.map SR.den)<|hi.map SR.den) (aaB tt l d t x lo hi):=by
 refine au _ λe T=>au _ λti O=>au _ λ⟨ob,v⟩M=>au _ λ⟨sz,n⟩K=>bB λi=>au _ λz J=>au _ λ⟨B,a⟩H=>au _ λ⟨A,b⟩D=>au _ λ⟨r,g1,g2,p⟩C=>bB λj=>Rr _ _ λc=>?_
 obtain⟨k1,k2,c⟩:=c;obtain⟨c0,c⟩:=aY.1 c;obtain⟨Z,Y⟩:=aY.1 c;rw[aW,beq_iff]at i;obtain⟨f,X,u,q⟩:=mC K;obtain⟨y,X2,m,-⟩:=Nb J;rw[u]at m;obtain⟨rfl,rfl,rfl⟩:=m;have hc:=aJ M c0;rw[u,i.1]at hc;have o:=fc D Y;rw[<-q]at o;have h:=i.2;have g:cx.gen x.den=match x.sl.v with|.bw .. =>x.rt.g2|_=>x.sl.g2:=by obtain⟨s,⟨v,g1,g2⟩,rt⟩:=x;cases v<;>rfl
 unfold T4;simp only[xq hA T,ey hA O,hc,fl,fc H Z,o,o7,C,g];rw[aas ⟨h,k1,by rw[q];exact k2⟩,aaq<|ne_iff.1 j]
def Ao(tt:TT)(l:a7)(d:Nat)(t:TypeId)(x:Operand)(a b:Q Operand):pF:=(eB l x).bind λx=>(ev.I8 l a).bind λa=>(ev.I8 l b).bind λb=>aaB tt l d t x a b
def UF(hA:c8 P tt){all:Array Oper}{d:Nat}{t:TypeId}{x:Operand}{lo hi:Q Operand}{ty:TypeId}{pos:String}{b:Array Edge}{g:Q (Nat×Bool)}{K:L Mv->St->Prop}{ob:L Pd}{c:a7}{e:L Nat}
 (p:cN l all.toList g=some true)(h:Ao tt l d t x lo hi=some (ob,c,e))(m:aj ob)(n:∀a,bp a=e->K a (dn c)):
 KV P all ⟨some d,.slice t x lo hi none,ty,pos,b,g⟩ (dn l) K:=by
 simp[Ao,aaV]at h;obtain⟨f,u,y,s,v,r,q⟩:=h;obtain⟨a,m1,j,i⟩:=MJ hA d t f y v ob c e q m;refine⟨.nF,a,[],dn c,?_,I,j,n a i⟩;unfold fD;rw[dL (o:=⟨some d,.slice t x lo hi none,ty,pos,b,g⟩) p];simp[kF,cS u,Dz s,Dz r,m1]
def aeF(hA:c8 P tt){all:Array Oper}{rest:L Oper}{d:Nat}{t:TypeId}{x:Operand}{lo hi:Q Operand}{ty:TypeId}{pos:String}{a:Array Edge}{g:Q (Nat×Bool)}{ob:L Pd}{b:a7}{c:L Nat}
 (i:cN l all.toList g=some true)(h:Ao tt l d t x lo hi=some (ob,b,c))(e:aj ob)(f:AK R P N F (.ops all rest::k) b):
 AK R P N F (.ops all (⟨some d,.slice t x lo hi none,ty,pos,a,g⟩::rest)::k) l:=by
 exact UF hA i h e λj _=>f
def oQ{c:Code}{r:Nat}{p:Path}{ob:L Pd}{o:a7}(q:(gt l r).v.plain=true)(h:tE l r p=some (ob,o))(s:aj ob)(t:AK R P N F (.code c::k) o):AK R P N F (.code c::k) l:=by intro V w0 S0 a w x hi;refine t V w0 S0 a w x ?_;have e:=mr h s;simp[Mv.run]at e;split at e;rename_i y u;split at e;rename_i B hs;simp at e;rw[<-e];obtain⟨S,F,hc,A,m,j,i,n⟩:=hi;obtain⟨d,z,C,D,k1,k2,k3,k4,k5⟩:=hc.share r p (by rw[ee,cU];exact q) u hs;have g:=λb f=>(hc.own r b<|k5 b f).1;exact⟨_,_,k4,A,m,λb f=>.inl<|j b f,λb f=>f.elim (i b) λf=>.inr<|g b f,n⟩;cases e;cases e
end
section
variable{R:Q Nat->Prop}{P:Program}{N:Nat}{F:St->Prop}{k:L It}{l:a7}
section
variable{aft:Array Edge}{ts:Array _}{b:Bool}{K:L Mv->St->Prop}{ks:L Nat}{f:Operand}{g:Q (Nat×Bool)}{J':qg}{r:SV}{l':a7}
def wL:L SR->Q (L Pd×L SV)
 |[]=>some ([],[])
 |x::xs=>(dq x).bind λ(ob,y)=>(iz y.aK).bind λ_=>(wL xs).bind λ(a,ys)=>some (app ob a,y::ys)
def sF:∀{xs:L SR}{ob:L Pd}{ys:L SV},wL xs=some (ob,ys)->aj ob->s6 (xs.map SR.den)=some (aB ys)
 |[],ob,ys,h,_=>by simp[wL]at h;obtain⟨rfl,rfl⟩:=h;rfl
 |x::xs,ob,ys,h,hc=>by simp only[wL,aaV,bT,afh]at h;obtain⟨d,y,j,_,i,c,a,e,rfl,rfl⟩:=h;obtain⟨n,m⟩:=aY.1 hc;simp[s6,aJ j n,cD,i,sF e m,aB]
structure NH where
 C:Value->Prop
 J:qg
 asx:List SV
def Mi(l:a7)(f:Operand)(asx:L Operand):Q (L Pd×NH):=
 (eB l f).bind λx=>match x.sl.v with
   |.pv C=>match(gt l 1000000).v with
    |.abs J=>(jR l asx).bind λc=>(wL c).bind λ(ob,a)=>some (ob,⟨C,J,a⟩)
    |_=>none
   |_=>none
def P9(l:a7)(a:Q Nat)(J':qg)(b:Bool):Q (a7×L Nat):=
 match a with
 |none=>some (rB l [(1000000,.dead)] [.abs J'],[1000000])
 |some d=>nk (rB l [(1000000,.dead)] [.abs J']) [] d (.u b) λl'=>some (l',[1000000,d])
def UE{all:Array Oper}{a:Q Nat}{asx:Array _}{ty:TypeId}{pos:String}{ob:L Pd}{h:NH}
 (u:cN l all.toList g=some true)(hh:Mi l f asx.toList=some (ob,h))(s:aj ob)(hs:∀v,h.C v->Yields P h.J J' (aB h.asx) b v)(n:P9 l a J' b=some (l',ks))(t:∀m,bp m=ks->K m (dn l')):
 KV P all ⟨a,.call ⟨.value f,asx,ts⟩,ty,pos,aft,g⟩ (dn l) K:=by
 simp[Mi,aaV]at hh;obtain⟨x,B,c⟩:=hh;split at c<;>try(cases c)
 rename_i C y;split at c<;>try(cases c)
 rename_i J w;simp[aaV,acQ]at c;obtain⟨O,A,q,j,z,rfl,rfl⟩:=c;have M:(resolve (dn l) f).sl.av=.pv C:=by rw[cS B];show x.sl.v.den=_;rw[y];rfl
 have H:(dn l 1000000).av=.abs J:=by rw[ee,w];rfl
 have D:s6 (asx.toList.map<|resolve<|dn l)=some (aB j):=by rw[fg l A];exact sF z s
 have p:l9 (dn l) [(1000000,.abs J')]=dn (rB l [(1000000,.dead)] [.abs J']):=jX l [(1000000,.dead)] [.abs J'];have e:kF P (dn l) ⟨a,.call ⟨.value f,asx,ts⟩,ty,pos,aft,g⟩ (.TX J' b)=some (dz a (.v<|.bool b) [.back [(1000000,.abs J')]],[.TX C J J' (aB j) b]):=by simp[kF,M,H,D]
 have i:Mv.runs (dn l) (dz a (.v<|.bool b) [.back [(1000000,.abs J')]])=some (dn l')/\bp (dz a (.v<|.bool b) [.back [(1000000,AV.abs J')]])=ks:=by
  cases a with
  |none=>obtain⟨rfl,rfl⟩:=n;exact⟨by simp[dz,Mv.runs,Mv.run,p],fQ⟩
  |some d=>obtain⟨rfl,rfl⟩:=n;refine⟨?_,fQ⟩;have:=gQ (rB l [(1000000,.dead)] [.abs J']) [] d<|.u b;simp only[dz,agr,Mv.runs,Mv.run,p];exact aaf some this
 refine⟨.TX J' b,_,[.TX C J J' (aB j) b],dn l',?_,?_,i.1,t _ i.2⟩;unfold fD;rw[dL (o:=⟨a,.call ⟨.value f,asx,ts⟩,ty,pos,aft,g⟩) u];exact e;simp[Ob.ok];exact hs
def aaT{all:Array Oper}{rest:L Oper}{a:Q Nat}{asx:Array _}{ty:TypeId}{pos:String}{ob:L Pd}{h:NH}
 (i:cN l all.toList g=some true)(hh:Mi l f asx.toList=some (ob,h))(d:aj ob)(hs:∀v,h.C v->Yields P h.J J' (aB h.asx) b v)(c:P9 l a J' b=some (l',ks))(e:AK R P N F (.ops all rest::k) l'):
 AK R P N F (.ops all (⟨a,.call ⟨.value f,asx,ts⟩,ty,pos,aft,g⟩::rest)::k) l:=by
 exact UE i hh d hs c λj _=>e
def TY{all:Array Oper}{e:L Nat}{c:L (L Nat×L Nat)}{rest:L Oper}{a:Q Nat}{asx:Array _}{ty:TypeId}{pos:String}{ob:L Pd}{h:NH}
 (n:cN l all.toList g=some true)(hh:Mi l f asx.toList=some (ob,h))(j:aj ob)(hs:∀v,h.C v->Yields P h.J J' (aB h.asx) b v)(i:P9 l a J' b=some (l',ks))
 (m:AK R P N F (.nu all e rest ((iP (dn l) all ⟨a,.call ⟨.value f,asx,ts⟩,ty,pos,aft,g⟩,ks)::c)::k) l'):
 AK R P N F (.nu all e (⟨a,.call ⟨.value f,asx,ts⟩,ty,pos,aft,g⟩::rest) c::k) l:=by
 exact UE n hh j hs i λo d=>by rw[d];exact m
structure Xx where
 g:FuncId
 C:Value->Prop
 J:qg
 asx:List SV
def V6(l:a7)(f:Operand)(asx:L Operand):Q (L Pd×Xx):=
 match asx with
 |[]=>none
 |x::d=>(eB l x).bind λz=>match z.sl.v with
  |.pv C=>(eB l f).bind λq=>(dq q).bind λ(a,y)=>match y with
   |.fn (.func g) [] []=>match(gt l 1000000).v with
    |.abs J=>(jR l d).bind λe=>(wL e).bind λ(ob,c)=>some (app a ob,⟨g,C,J,c⟩)
    |_=>none
   |_=>none
  |_=>none
def Ug(l:a7)(a:Q Nat)(J':qg)(r:SV):Q (a7×L Nat):=
 match a with
 |none=>some (rB l [(1000000,.dead)] [.abs J'],[1000000])
 |some d=>nk (rB l [(1000000,.dead)] [.abs J']) [] d r λl'=>some (l',[1000000,d])
def abl{all:Array Oper}{a:Q Nat}{asx:Array _}{ty:TypeId}{pos:String}{ob:L Pd}{h:Xx}
 (D:cN l all.toList g=some true)(hh:V6 l f asx.toList=some (ob,h))(A:aj ob)(hs:TN P h.g h.C h.J J' (aB h.asx) r.den)(n:Ug l a J' r=some (l',ks))(B:∀s,bp s=ks->K s (dn l')):
 KV P all ⟨a,.call ⟨.value f,asx,ts⟩,ty,pos,aft,g⟩ (dn l) K:=by
 unfold V6 at hh;split at hh<;>try(cases hh)
 rename_i x u e;simp[aaV]at hh;obtain⟨z,X,c⟩:=hh;split at c<;>try(cases c)
 rename_i C M;simp[aaV,afh]at c;obtain⟨q,S,v,y,O,c⟩:=c;split at c<;>try(cases c)
 rename_i p;split at c<;>try(cases c)
 rename_i J H;simp[aaV,afh,aaP,acQ]at c;obtain⟨us,V,w,m,T,rfl,rfl⟩:=c;obtain⟨c1,c2⟩:=aY.1 A;have e1:(resolve (dn l) x).sl.av=.pv C:=by rw[cS X];show z.sl.v.den=_;rw[M];rfl
 have e2:(dn l 1000000).av=.abs J:=by rw[ee,H];rfl
 have Z:s6 (u.map<|resolve<|dn l)=some (aB m):=by rw[fg l V];exact sF T c2
 have Y:(resolve (dn l) f).cont=some (.fn (.func p) [] []):=by rw[cS S];exact aJ O c1
 have t:l9 (dn l) [(1000000,.abs J')]=dn (rB l [(1000000,.dead)] [.abs J']):=jX l [(1000000,.dead)] [.abs J'];have i:kF P (dn l) ⟨a,.call ⟨.value f,asx,ts⟩,ty,pos,aft,g⟩ (.Vs J' r.den)=some (dz a r.den [.back [(1000000,.abs J')]],[.Vs p C J J' (aB m) r.den]):=by simp[kF,e,e1,e2,Z,Y]
 have j:Mv.runs (dn l) (dz a r.den [.back [(1000000,.abs J')]])=some (dn l')/\bp (dz a r.den [.back [(1000000,AV.abs J')]])=ks:=by
  cases a with
  |none=>obtain⟨rfl,rfl⟩:=n;exact⟨by simp[dz,Mv.runs,Mv.run,t],fQ⟩
  |some d=>simp[Ug,iG,aaP,acQ]at n;obtain⟨rfl,rfl⟩:=n;refine⟨?_,fQ⟩;have:=gQ (rB l [(1000000,.dead)] [.abs J']) [] d r;simp only[dz,agr,afy,Mv.runs,Mv.run,t];simp_all
 refine⟨.Vs J' r.den,_,[.Vs p C J J' (aB m) r.den],dn l',?_,?_,j.1,B _ j.2⟩;unfold fD;rw[dL (o:=⟨a,.call ⟨.value f,asx,ts⟩,ty,pos,aft,g⟩) D];exact i;simp[af9,forall_eq,Ob.ok];exact hs
def Ht{all:Array Oper}{rest:L Oper}{a:Q Nat}{asx:Array _}{ty:TypeId}{pos:String}{ob:L Pd}{h:Xx}
 (i:cN l all.toList g=some true)(hh:V6 l f asx.toList=some (ob,h))(d:aj ob)(hs:TN P h.g h.C h.J J' (aB h.asx) r.den)(c:Ug l a J' r=some (l',ks))(e:AK R P N F (.ops all rest::k) l'):
 AK R P N F (.ops all (⟨a,.call ⟨.value f,asx,ts⟩,ty,pos,aft,g⟩::rest)::k) l:=by
 exact abl i hh d hs c λj _=>e
end
end
section
variable{v:AV}{F:L Nat}{S:Nat->Prop}{T:Nat->Value}{y:Value}{w:World}
def ni{f:Nat->L Nat}:∀n,((List.range n).flatMap f).Nodup↔(∀j,j<n->(f j).Nodup)/\∀i j,i<n->j<n->i≠j->∀c∈f i,c∉f j
 |0=>I
 |n+1=>by
  rw[agO,ahf,acH,ni n];have e:[n].flatMap f=f n:=I;rw[e];constructor;rintro⟨⟨g,h⟩,m,k⟩;have l:=λj b c hc a=>k c (afG.2 ⟨j,afH.2 b,hc⟩) c a W;refine⟨λj b=>?_,λi j hi b d c hc a=>?_⟩
  grind
  grind
  rintro⟨g,h⟩;refine⟨⟨λj b=>g j E,λi j hi b d=>h i j E E d⟩,g n E,λc hc o a e=>?_⟩
  grind
def vp(fn:FuncId)(tmps:Array Value)(ps:Array Tmp)(assign body:Code)(D:Nat)(pe:Q Code):Loop:={state:=if pe.isNone then .ready else .done,pending:=pe,fn,tmps,params:=ps,assign,body,defers:=D}
def uM(w:World)(S:Nat->Prop)(v:AV)(y:Value)(F:L Nat):Prop:=match v with
 |.abs J=>qg.here J w S F
 |v=>Rel w S v y F
def uM.ig(h:uM w S v y F):v.ig=true:=by cases v<;>first|rfl|exact Rel.plain (av:=_) h
def uM.frame{w':World}(h:uM w S v y F)(c:∀b,S b\/b∈F->w'.heap[b]?=w.heap[b]?):uM w' S v y F:=by cases v<;>first|exact Rel.frame _ h c|exactλd g f e=>h d g (λb a=>(f b a).trans<|c b a) e
def uM.mono{S':Nat->Prop}(c:∀b,S b->S' b)(h:uM w S v y F):uM w S' v y F:=by cases v<;>first|exact Rel.mono c _ h|exactλd i f e=>h d i (λb a=>f b<|a.imp (c b) id) λb g=>e b<|c b g
def an.ofX{σ:St}{i:Nat}(a:(σ i).av.ig=true):an w S σ T i F↔uM w S (σ i).av (T i) F:=by unfold an;cases h:(σ i).av<;>rw[h]at a<;>first|(cases a;done)|exact Iff.rfl
def Jr(cs:L (AV×Value))(ex:L Nat)(T:Nat->Value)(l D:Nat)(r:Q Code->Loop)(pe:Q Code)(y:L AV):qg:=λw S F=>
 ∃a:Nat->L Nat,F.Perm (D::l::(List.range ex.length).flatMap a)/\(∀(j:Nat)(v:AV),y[j]?=some v->j<ex.length->uM w S v (T<|ex.getD j 0) (a j))/\
  (∀q∈cs,Rel w S q.1 q.2 [])/\w.heap[l]?=some (.loop<|r pe)/\w.heap[D]?=some (.deferred<|some [])
def Jr.closed{cs:L (AV×Value)}{ex:L Nat}{l D:Nat}{r:Q Code->Loop}{pe:Q Code}{y:L AV}(h:Jr cs ex T l D r pe y w S F):qg.here (Jr cs ex T l D r pe y) w S F:=by
 intro p t g f;obtain⟨i,e,m,d,hl,s⟩:=h;have hm:∀c,c∈F↔c∈D::l::(List.range ex.length).flatMap i:=λc=>e.mem_iff;refine⟨i,e,λj v k o=>?_,λq n=>Rel.mono f _<|Rel.frame _ (d q n) λb a=>g b<|.inl<|by simpa using a,?_,?_⟩;refine uM.mono f<|uM.frame (m j v k o) λb a=>g b<|a.imp id λa=>(hm b).2 ?_
 grind
 simp_all;simp_all
def ad5(y':L AV)(b:Bool)(a:Q Code):Exit->St->Prop:=λe c=>
 (match e with
   |.normal=>b=true/\a=none
   |.ret=>b=false/\a=some .ret
   |.exit id=>b=false/\a=some (.exit id)
   |_=>False)/\∀(j:Nat)(v:AV),y'[j]?=some v->(c<|1000000+j).av=v/\v.ig=true
end
section
variable{P:Program}{N:Nat}
def aU.aa2{S B:Nat->Prop}{σ:St}{T:Nat->Value}{w w':World}{F:Nat->L Nat}(h:aU S B σ T w F)(hs:w'.heap.size=w.heap.size)(c:∀b,(S b\/∃i,b∈F i)->w'.heap[b]?=w.heap[b]?):aU S B σ T w' F:=
 h.step (w':=w') (S':=S) ⟨λ_=>.refl,λ_=>.refl,λ_ _=>rfl,λ_ _ _=>⟨λ_ y d=>⟨y,d⟩,λb a=>c b<|a.imp id λa=>⟨_,a⟩⟩⟩ (λ_ h=>h)
  (λi=>.inl ⟨W,W,W,λb a=>c b<|a.imp id λa=>⟨i,a⟩⟩) h.nodup h.di (λi b a=>by rw[hs];exact h.own i b a) (λb a=>by rw[hs];exact h.shr b a)
def IS(hN:N<=1000000){fn:FuncId}{tmps:Array Value}{ps:Array Tmp}{assign body:Code}{l D:Nat}{cs:L (AV×Value)}{ex:L Nat}{T:Nat->Value}{y y' x:L AV}{b:Bool}{jump:Q Code}{σB:St}
 (ht:tmps.size=N)(hx:x.length=ps.size)(hy':y'.length=ex.length)
 (hstart:∀(w:World)(S:Nat->Prop)(FF:Nat->L Nat)(vs:L Value)(V:Hid),(∀q∈cs,Rel w S q.1 q.2 [])->(∀(j:Nat)(v:AV),y[j]?=some v->j<ex.length->uM w S v (T<|ex.getD j 0) (FF j))->
   (∀j,j<ex.length->(FF j).Nodup)->(∀i j,i<ex.length->j<ex.length->i≠j->∀c∈FF i,c∉FF j)->(∀j,j<ex.length->∀c∈FF j,c<w.heap.size/\¬S c)->(∀c,S c->c<w.heap.size)->Cells w S false x vs []->
   V.v=(λi=>T<|ex.getD (i-1000000) 0)->(∀j,j<ex.length->∀c∈FF j,V.g c)->
   aU S (cK V w) σB (tv V {tmps:=(ps.zip vs.toArray).foldl (λtmps(t,a)=>tmps.setIfInBounds t a) tmps,defers:=[]}) w λi=>if 1000000<=i/\i-1000000<ex.length then FF (i-1000000)else[])
 (hcode:AW R1 P N assign (λe σ1=>e=.normal/\AW R1 P N body (ad5 y' b jump) σ1) σB):
 Yields P (Jr cs ex T l D (vp fn tmps ps assign body D) none y) (Jr cs ex T l D (vp fn tmps ps assign body D) jump y') x b (.func (.yield l) #[] #[]):=by
 refine⟨l,W,λrd w S F vs hLd hNT hJ hnd hF hS hargs=>?_⟩;obtain⟨FF,hp,hrel,hcs,hl,hD⟩:=hJ w S (λ_ _=>rfl) λ_ h=>h;have hm:∀c,c∈F↔c∈D::l::(List.range ex.length).flatMap FF:=λc=>hp.mem_iff;have hnd2:=hp.nodup_iff.1 hnd;obtain⟨hD1,hnd3⟩:=ad2.1 hnd2;obtain⟨hl1,hnd4⟩:=ad2.1 hnd3;have hlD:l≠D:=λe=>hD1 (by simp[e]);have hin:∀j,j<ex.length->∀c∈FF j,c∈(List.range ex.length).flatMap FF:=λj hj c hc=>afG.2 ⟨j,afH.2 hj,hc⟩;have hlF:l∈F:=(hm l).2 I;have hDF:D∈F:=(hm D).2 I;have hFF:∀j,j<ex.length->∀c∈FF j,c∈F:=λj hj c hc=>(hm c).2 (by grind);have hvl:=Cells.length hargs;refine⟨_,_,_,_,run_yield hl<|by show vs.toArray.size=ps.size;simp;omega,roundIn_of_wpIn U ?_⟩;obtain⟨a1,ha1⟩:∃a1:Act,a1={tmps:=(ps.zip vs.toArray).foldl (λtmps(t,a)=>tmps.setIfInBounds t a) tmps,defers:=[]}:=⟨_,W⟩;obtain⟨VB,hVB⟩:∃VB:Hid,VB={v:=λi=>T<|ex.getD (i-1000000) 0,g:=λc=>∃j,j<ex.length/\c∈FF j,rd:=some l,df:=[]}:=⟨_,W⟩;have hg:∀c,VB.g c->c∈F/\c∈(List.range ex.length).flatMap FF:=by simp_all
 have hgl:¬VB.g l:=λh=>hl1 (hg l h).2;have hgD:¬VB.g D:=λh=>hD1 (by simp[(hg D h).2]);obtain⟨hnodj,hdisj⟩:=(ni ex.length).1 hnd4;have hcore:=hstart w S FF vs VB hcs hrel hnodj hdisj (λj hj c hc=>hF c<|hFF j hj c hc) hS hargs (by rw[hVB]) (λj hj c hc=>by rw[hVB];exact⟨j,hj,hc⟩);rw[<-ha1]at hcore;have hsz1:a1.tmps.size=N:=by
  rw[ha1];rw[<-ht];have:∀(q:L (Tmp×Value))(t:Array Value),(q.foldl (λtmps p=>tmps.setIfInBounds p.1 p.2) t).size=t.size:=by
   intro q
   induction q with
   |nil=>intro t;rfl
   |cons p q ih=>simp_all
  rw[<-ahu];exact this _ tmps
 have hinv:Inv N VB w S σB a1 w:=⟨S,_,hcore,hsz1,by rw[ha1,hVB],λ_ h=>h,λ_ h=>.inl h,mb.refl _ _⟩;have hrd:VB.rd=some l:=by rw[hVB]
 have hA:=hcode VB w S a1 w ⟨U,hLd,hNT.mono λb hb=>(hg b hb).1⟩ hinv;rw[hrd,ha1]at hA;refine wpIn_mono hA ?_;rintro e a2 w2⟨σ1,⟨rfl,h1⟩,S2,F2,ds2,hc2,hN2,hdf2,hs1,hs2,hk2,hm2⟩;have hlw:l<w.heap.size:=(afR.1 hl).1;have hDw:D<w.heap.size:=(afR.1 hD).1;have hno:∀c,c<w.heap.size->¬VB.g c->¬cK VB w c:=λc h h' hh=>hh.elim (λhh=>E) h';have hl2:w2.heap[l]?=some (.loop<|vp fn tmps ps assign body D none):=by rw[hk2.block l hlw hgl];exact hl
 have hlS2:¬S2 l:=λh=>(hs2 l h).elim (hF l hlF).2<|hno l hlw hgl;have hlF2:∀i,l∉F2 i:=λi h=>hno l hlw hgl (hc2.own i l h).1;have hlw2:l<w2.heap.size:=(afR.1 hl2).1;refine⟨_,run_beginRound hl2<|by simp[vp],?_⟩;obtain⟨w3,hw3⟩:∃w3,w3=w2.putObj l (.loop {vp fn tmps ps assign body D none with state:=.busy}):=⟨_,W⟩;rw[<-hw3];have h3s:w3.heap.size=w2.heap.size:=fP;have h3o:∀k,k≠l->w3.heap[k]?=w2.heap[k]?:=λk hk=>by rw[hw3];exact World.putObj_heap_other hk
 have h3l:w3.heap[l]?=some (.loop {vp fn tmps ps assign body D none with state:=.busy}):=by rw[hw3];exact World.putObj_heap_same hlw2
 have hc3:=hc2.aa2 h3s λb hb=>h3o b λe=>by grind
 obtain⟨V2,hV2⟩:∃V2,V2=VB.Xi F2 a2.defers:=⟨_,W⟩;have hi3:Inv N V2 w3 S2 σ1 a2 w3:=by rw[hV2];exact⟨S2,F2,⟨hc3.rel,hc3.nodup,hc3.di,λi b hb=>⟨.inr ⟨i,hb⟩,(hc3.own i b hb).2⟩,hc3.shr⟩,hN2,W,λ_ h=>h,λ_ h=>.inl h,mb.refl _ _⟩
 have hg2:∀c,V2.g c->VB.g c\/w.heap.size<=c:=by rw[hV2];rintro c⟨i,h⟩;exact(hc2.own i c h).1.symm
 have hsz2:=hk2.size;have hno2:∀c,c<w.heap.size->¬VB.g c->¬cK V2 w3 c:=by
  intro c h h' hh;rcases hh with hh|hh;omega
  grind
 have hrd2:V2.rd=some l:=by rw[hV2];exact hrd
 have hL3:lE P V2 w3:=by have hLB:lE P VB w:=⟨hLd,hNT.mono λb hb=>(hg b hb).1⟩;refine⟨(hLB.L3 hk2).same λg hn _=>h3o g λe=>hNT g hn<|by subst e;exact hlF,λg hn hb=>?_⟩;rcases hg2 g hb with hb|hb;exact hLB.apart g hn hb;have:=hLd.lt hn;omega
 have hB:=h1 V2 w3 S2 a2 w3 ⟨U,hL3⟩ hi3;rw[hrd2]at hB;refine wpIn_mono hB ?_;rintro e a3 w4⟨σ2,⟨he,hy2⟩,S4,F4,ds4,hc4,hN4,hdf4,hs3,hs4,hk4,hm4⟩;have hsz4:=hk4.size;have hl4:w4.heap[l]?=some (.loop {vp fn tmps ps assign body D none with state:=.busy}):=by rw[hk4.block l E λh=>hno2 l hlw hgl<|.inr h];exact h3l
 have hlw4:l<w4.heap.size:=(afR.1 hl4).1;have hlS4:¬S4 l:=λh=>(hs4 l h).elim hlS2<|hno2 l hlw hgl;have hlF4:∀i,l∉F4 i:=λi h=>hno2 l hlw hgl (hc4.own i l h).1;have hDS2:¬S2 D:=λh=>(hs2 D h).elim (hF D hDF).2<|hno D hDw hgD;have hDS4:¬S4 D:=λh=>(hs4 D h).elim hDS2<|hno2 D hDw hgD;have hDF4:∀i,D∉F4 i:=λi h=>hno2 D hDw hgD (hc4.own i D h).1;obtain⟨w5,hw5⟩:∃w5,w5=w4.putObj l (.loop<|vp fn tmps ps assign body D jump):=⟨_,W⟩;have h5s:w5.heap.size=w4.heap.size:=by rw[hw5];simp[World.putObj]
 have h5o:∀k,k≠l->w5.heap[k]?=w4.heap[k]?:=λk hk=>by rw[hw5];exact World.putObj_heap_other hk
 have h5l:w5.heap[l]?=some (.loop<|vp fn tmps ps assign body D jump):=by rw[hw5];exact World.putObj_heap_same hlw4
 have hold:∀k,k<w.heap.size->¬VB.g k->k≠l->w5.heap[k]?=w.heap[k]?:=by intro k hk hgk hkl;rw[h5o k hkl,hk4.block k E λh=>hno2 k hk hgk<|.inr h,h3o k hkl,hk2.block k hk hgk]
 have hend:(Instr.endRound l jump).run P w4=.ok (.bool jump.isNone) w5:=by rw[run_endRound jump hl4,hw5];rfl
 have hpost:∃S' F',w5.os=w.os/\w5.tape=w.tape/\w5.output=w.output/\w.heap.size<=w5.heap.size/\(∀k,k<w.heap.size->k∉F->w5.heap[k]?=w.heap[k]?)/\
  (∀c,S c->S' c)/\(∀c,S' c->S c\/w.heap.size<=c\/c∈F)/\(∀c,S' c->c<w5.heap.size)/\qg.here (Jr cs ex T l D (vp fn tmps ps assign body D) jump y') w5 S' F'/\F'.Nodup/\∀c∈F',(w.heap.size<=c\/c∈F)/\c<w5.heap.size/\¬S' c:=by
  have hmine:∀c,cK V2 w3 c->w.heap.size<=c\/c∈F:=by grind
  refine⟨S4,D::l::(List.range ex.length).flatMap λj=>F4<|1000000+j,?_,?_,?_,E,λk hk hkF=>hold k hk (λh=>hkF (hg k h).1) λe=>hkF<|by rw[e];exact hlF,λc hc=>hs3 c<|hs1 c hc,λc hc=>?_,λc hc=>?_,Jr.closed ⟨λj=>F4<|1000000+j,List.Perm.refl _,λj v hv hj=>?_,λq hq=>?_,h5l,?_⟩,?_,?_⟩;rw[hw5];show w4.os=_;rw[hk4.os,hw3];exact hk2.os;rw[hw5];show w4.tape=_;rw[hk4.tape,hw3];exact hk2.tape;rw[hw5];show w4.output=_;rw[hk4.output,hw3];exact hk2.output
  grind
  rw[h5s];exact hc4.shr c hc;obtain⟨e1,e2⟩:=hy2 j v hv;have hr:=hc4.rel<|1000000+j;rw[an.ofX<|by rw[e1];exact e2,e1]at hr;have hT:tv V2 a3 (1000000+j)=T (ex.getD j 0):=by unfold tv;rw[aaq E,hV2];show VB.v (1000000+j)=_;rw[hVB];simp
  rw[hT]at hr;exact uM.frame hr λb hb=>h5o b (λe=>by grind);refine Rel.mono (λc hc=>hs3 c<|hs1 c hc) _<|Rel.frame _ (hcs q hq) λb hb=>?_
  grind
  grind
  refine ad2.2 ⟨λh=>?_,ad2.2 ⟨λh=>?_,(ni _).2 ⟨λj _=>hc4.nodup _,λi j _ _ hij=>hc4.di _ _ E⟩⟩⟩
  grind
  grind
  intro c hc;rcases abm.1 hc with rfl|hc
  grind
  rcases abm.1 hc with rfl|hc
  grind
  obtain⟨j,-,hj⟩:=afG.1 hc;have ho:=hc4.own _ c hj
  grind
 cases e with
 |normal=>obtain⟨rfl,rfl⟩:=he;exact⟨_,_,hend,W,hpost⟩
 |ret=>obtain⟨rfl,rfl⟩:=he;exact⟨_,_,hend,W,hpost⟩
 |exit id=>obtain⟨rfl,rfl⟩:=he;exact⟨_,_,hend,W,hpost⟩
 |_=>exact he.elim
end
section
variable{P:Program}{N:Nat}{w w':World}{σ:St}
def enters{f:FuncId}{fn:Func}(d:P.funcs[f]?=some fn)(e:fn.body.isNone=false)(hn:(fn.name== "runtime.NumGoroutine")=false)(c:Array Value)(w:World):(callFunc f c).run P w=.ok (.enter f c) w:=by
 have a:¬fn.name= "runtime.NumGoroutine":=by simpa using hn
 have b:¬fn.body=none:=by grind
 unfold callFunc;simp[d,b,a]
def Gq{f:FuncId}{a:Array Value}{R:Value->World->Prop}(d:(callFunc f a).run P w=.ok (.enter f a) w)(h:qD P f a w R){rd:Q Nat}:
 CallsIn (FW rd) 0 P f a w λe w'=>∃b,e=.returned b/\∃v,R v w':=by
 have:=h rd {dst:=none,op:=.move<|.const<|.bool true,type:=0,pos:= "",after:=#[],guard:=none} {tmps:=#[],defers:=[]} (λ_ w'=>∃v,R v w') (λ_ _ _=>False) λv w' c=>⟨v,c⟩;rw[d]at this;refine this.2.mono λe w' he=>?_;cases e with
 |returned v=>simp_all
 |panicked _=>exact he.elim
 |outgrown=>obtain⟨_,_,h⟩:=he;exact h.elim
def idxOf(ex:L Nat)(i:Nat):Q Nat:=match ex with
 |[]=>none
 |r::ex=>if r=i then some 0 else(idxOf ex i).map (·+1)
def gA:∀{ex:L Nat}{i j:Nat},idxOf ex i=some j->j<ex.length/\ex.getD j 0=i
 |[],i,j,h=>by simp[idxOf]at h
 |r::ex,i,j,h=>by
  unfold idxOf at h;split at h
  grind
  simp at h;obtain⟨k,a,rfl⟩:=h;have:=gA a
  grind
def pq:∀{ex:L Nat}{i:Nat},idxOf ex i=none->i∉ex
 |[],i,_=>I
 |r::ex,i,h=>by unfold idxOf at h;split at h;cases h;rename_i e;simp at h;simp;exact⟨λe'=>e e'.symm,pq h⟩
def ub(σ:St)(ex:L Nat)(y:L AV):St:=λi=>match idxOf ex i with
 |some j=>⟨y.getD j .dead,(σ i).g1,(σ i).g2+1⟩
 |none=>σ i
def Xs(N:Nat)(cs:L (AV×Value))(ex:L Nat)(T:Nat->Value)(tmps:Array Value)(e:Array Tmp)(y x:L AV)(σB:St):Prop:=
 ∀(w:World)(S:Nat->Prop)(b:Nat->L Nat)(d:L Value)(V:Hid),(∀q∈cs,Rel w S q.1 q.2 [])->(∀(j:Nat)(v:AV),y[j]?=some v->j<ex.length->uM w S v (T<|ex.getD j 0) (b j))->
    (∀j,j<ex.length->(b j).Nodup)->(∀i j,i<ex.length->j<ex.length->i≠j->∀c∈b i,c∉b j)->(∀j,j<ex.length->∀c∈b j,c<w.heap.size/\¬S c)->(∀c,S c->c<w.heap.size)->Cells w S false x d []->
    V.v=(λi=>T<|ex.getD (i-1000000) 0)->(∀j,j<ex.length->∀c∈b j,V.g c)->
    aU S (cK V w) σB (tv V {tmps:=(e.zip d.toArray).foldl (λtmps(t,a)=>tmps.setIfInBounds t a) tmps,defers:=[]}) w λi=>if 1000000<=i/\i-1000000<ex.length then b (i-1000000)else[]
def W8{g:Operand}{ps:Array Tmp}{o body:Code}{Q:Exit->St->Prop}{gf:FuncId}{V2:Func}{captured:L AV}{r:AV}{ex is:L Nat}{n m:Nat}{x y:Nat->L AV}{b:Nat->Bool}{pe:Nat->Option Code}{σB:Nat->St}
 (hN:N<=1000000)(hgf:aO g=true)(hg:(resolve σ g).cont=some (.fn (.func gf) [] captured))(hno:bR captured=true)(hf:P.funcs[gf]?=some V2)(hfb:V2.body.isNone=false)(hfn:(V2.name== "runtime.NumGoroutine")=false)(hcl:captured.length<999999)
 (hex:ex.Nodup)(hpl:∀r∈ex,(σ r).av.ig=true)(his:∀i∈is,(σ i).av.plain=true/\(σ i).av.aK=true)
 (hx:∀k,k<n->(x k).length=ps.size)(hy:∀k,(y k).length=ex.length)(hy0:∀j,j<ex.length->(y 0)[j]?=some (σ<|ex.getD j 0).av)(hpe0:pe 0=none)(hpe:∀k,k<n->(∀j,j<k->b j=true)->pe k=none)
 (hit:∀(C:Value->Prop)(J:Nat->qg),(∀v,C v->∀k,k<n->(∀j,j<k->b j=true)->Yields P (J k) (J<|k+1) (x k) (b k) v)->Ki P gf [.abs<|J 0] (.pv C::captured) [.abs<|J m] r)
 (G3:∀(V:Hid)(a:Act)(w:World)(S:Nat->Prop)(B:Nat->Prop)(F:Nat->L Nat),a.tmps.size=N->aU S B σ (tv V a) w F->∀k,k<n->Xs N (is.map λi=>((σ i).av,tv V a i)) ex (tv V a) a.tmps ps (y k) (x k) (σB k))
 (S2:∀k,k<n->(∀j,j<k->b j=true)->AW R1 P N o (λe σ1=>e=.normal/\AW R1 P N body (ad5 (y<|k+1) (b k)<|pe<|k+1) σ1) (σB k))
 (A0:match pe m with
   |none=>Q .normal (ub σ ex<|y m)
   |some .ret=>Q .ret (ub σ ex<|y m)
   |some (.exit id)=>Q (.exit id) (ub σ ex<|y m)
   |_=>False):AW R0 P N (.rangeFunc g ps o body) Q σ:=by
 intro V w0 S0 a w hR hi;obtain⟨S,F,hc,K2,hdf,hs1,hs2,E1⟩:=hi;have hG:=hR.2;have hR:V.rd=none:=hR.1;refine wpIn_rangeFunc ?_;intro fn _;obtain⟨F1,e1,-⟩:=aV hc g hgf hg;simp only[Rel]at e1;obtain⟨af,cf,G1,G2,hev,ha1,ha2,-⟩:=e1;have haf:af=#[]:=by simp[Cells]at ha1;simp_all
 have hG2:=Cells.aK _ ha2 hno;subst haf hG2;obtain⟨D,hD⟩:∃D,D=w.heap.size:=⟨_,W⟩;obtain⟨l,hl⟩:∃l,l=w.heap.size+1:=⟨_,W⟩;obtain⟨T,Z⟩:∃T,T=(w.alloc<|.deferred<|some []).alloc (.loop<|vp fn a.tmps ps o body D none):=⟨_,W⟩;have h1s:T.heap.size=w.heap.size+2:=fP;have h1l:T.heap[l]?=some (.loop<|vp fn a.tmps ps o body D none):=by rw[Z,hl];have:=World.alloc_heap_new (w.alloc<|.deferred<|some [])<|.loop<|vp fn a.tmps ps o body D none;simp_all
 have h1D:T.heap[D]?=some (.deferred<|some []):=by rw[Z,hD];exact(Below.heap_alloc _ _ _ I).trans<|World.alloc_heap_new w _
 have G0:∀k,k<w.heap.size->T.heap[k]?=w.heap[k]?:=λk hk=>by rw[Z];exact(Below.heap_alloc _ _ _<|by simp;omega).trans<|Below.heap_alloc _ _ _ hk
 have hce:∀vs f,(callFunc gf vs).run P f=.ok (.enter gf vs) f:=enters hf hfb hfn;refine⟨l,[{target:=.collected D,args:=#[]}],T,{target:=.fn (.func gf) cf,args:=#[.func (.yield l) #[] #[]]},T,gf,#[.func (.yield l) #[] #[]]++cf,T,?_,?_,λ_ _=>trivial,?_,λh=>(by cases h),?_⟩;show(Instr.enterLoop fn a.tmps ps o body V.rd).run P w=_;rw[hR,run_enterLoop_outer,Z,hD,hl];rfl;simp[Go.resolve,rangeCall,hev];rfl;simp[invoke,hce];have H2:∀c,S c->c<w.heap.size:=hc.shr;have hlw:w.heap.size<=l:=E;have hlD:l≠D:=E;obtain⟨X,R⟩:∃X:Nat->L Nat,X=λj=>F (ex.getD j 0):=⟨_,W⟩;have hexn:∀i j,i<ex.length->j<ex.length->i≠j->ex.getD i 0≠ex.getD j 0:=by
  intro i j hi s B0 e;rw[acO,acO,acL hi,acL s]at e;have e:ex[i]=ex[j]:=by simpa using e
  have hpw:=agP.1 hex
  grind
 have H5:∀j,j<ex.length->ex.getD j 0∈ex:=λj s=>by simp_all
 obtain⟨cs,hcs⟩:∃cs,cs=is.map λi=>((σ i).av,tv V a i):=⟨_,W⟩;obtain⟨J,hJ⟩:∃J:Nat->qg,J=λk=>Jr cs ex (tv V a) l D (vp fn a.tmps ps o body D) (pe k) (y k):=⟨_,W⟩;have hyl:∀k,k<n->(∀j,j<k->b j=true)->Yields P (J k) (J<|k+1) (x k) (b k) (.func (.yield l) #[] #[]):=by intro k hk S4;rw[hJ];dsimp only;rw[hpe k hk S4];exact IS hN K2 (hx k hk) (hy<|k+1) (by rw[hcs];exact G3 V a w S _ F K2 hc k hk)<|S2 k hk S4
 have G4:=hit (λv=>v=.func (.yield l) #[] #[]) J λv hv k hk S4=>fP;obtain⟨Vi,hVi⟩:∃Vi:Hid,Vi={v:=λ_=>undef,g:=λc=>c=D\/c=l\/∃j,j<ex.length/\c∈X j}:=⟨_,W⟩;obtain⟨Fi,E2⟩:∃Fi:Nat->L Nat,Fi=λi=>if i=1000000 then D::l::(List.range ex.length).flatMap X else[]:=⟨_,W⟩;have hFw:∀i,∀c∈F i,c<w.heap.size:=λi c u=>(hc.own i c u).2.1;have hnd:((List.range ex.length).flatMap X).Nodup:=(ni _).2 ⟨λj _=>by rw[R];exact hc.nodup _,λi j hi s B0=>by rw[R];exact hc.di _ _<|hexn i j hi s B0⟩;have hmem:∀c,c∈(List.range ex.length).flatMap X->c<w.heap.size/\¬S c:=by intro c u;obtain⟨j,-,s⟩:=afG.1 u;rw[R]at s;exact(hc.own _ c s).2
 have hJ0:qg.here (J 0) T S (D::l::(List.range ex.length).flatMap X):=by rw[hJ];dsimp only;rw[hpe0];refine Jr.closed ⟨X,List.Perm.refl _,λj v hv s=>?_,λq hq=>?_,h1l,h1D⟩;have:=hy0 j s;rw[this]at hv;cases hv;have hr:=hc.rel<|ex.getD j 0;rw[an.ofX<|hpl _<|H5 j s]at hr;rw[R];exact uM.frame hr λc u=>G0 c<|u.elim (H2 c)<|hFw _ c;rw[hcs]at hq;obtain⟨i,hi,rfl⟩:=abS.1 hq;have hr:=hc.rel i;rw[an.aC (his i hi).1]at hr;rw[Rel.aK _ hr (his i hi).2]at hr;exact Rel.frame _ hr λc u=>G0 c<|H2 c<|by simpa using u
 have H6:Cells T S false captured cf.toList []:=Cells.frame _ ha2 λc u=>G0 c<|H2 c<|by simpa using u
 have hcl2:=Cells.length H6;have M2:([Value.func (.yield l) #[] #[]]++cf.toList).toArray=#[.func (.yield l) #[] #[]]++cf:=by apply afN;simp
 have S1:aU S Vi.g (both (.pv (λv=>v=.func (.yield l) #[] #[])::captured) [.abs<|J 0]) (a8 Vi<|[Value.func (.yield l) #[] #[]]++cf.toList) T Fi:=by
  have G5:Cells T S false (.pv (λv=>v=.func (.yield l) #[] #[])::captured) ([Value.func (.yield l) #[] #[]]++cf.toList) []:=by simp only[Cells];exact⟨_,_,[],[],W,W,I,by simp[Rel],H6⟩
  refine⟨λi=>?_,λi=>?_,λi j B0 c K=>?_,λi c K=>?_,λc K=>by grind⟩;by_cases hi:i<1000000;have K:=fe (args:=.pv (λv=>v=.func (.yield l) #[] #[])::captured) (H:=[.abs<|J 0]) hi;have hFe:Fi i=[]:=by rw[E2];grind
  rw[hFe];cases K0:(AV.pv (λv=>v=.func (.yield l) #[] #[])::captured)[i]?with
  |none=>rw[K0]at K;rw[an.aC<|by rw[K];rfl,K];simp[Rel]
  |some v=>
   rw[K0]at K;have H4:=Cells.get i G5 W;rw[K0]at H4;obtain⟨z,q1,q2⟩:=H4;rw[an.aC<|by rw[K];exact q2.plain,K];have hz:a8 Vi ([Value.func (.yield l) #[] #[]]++cf.toList) i=z:=by unfold a8;simp_all
   rw[hz];exact q2
  ·by_cases h2:i=1000000
   ·subst h2;have e:(both (.pv (λv=>v=.func (.yield l) #[] #[])::captured) [.abs<|J 0] 1000000).av=.abs (J 0):=by
     rw[show(1000000:Nat)=1000000+0 from fQ,ew<|by simp;omega];rfl
    unfold an;rw[e,E2];exact hJ0
   obtain⟨j,rfl⟩:∃j,i=1000000+(j+1):=⟨i-1000001,E⟩;have e:(both (.pv (λv=>v=.func (.yield l) #[] #[])::captured) [.abs<|J 0]<|1000000+(j+1)).av=.dead:=by rw[ew<|by simp;omega];rfl
   rw[an.aC<|by rw[e];rfl,e];rw[E2];dsimp only;rw[aaq h2];simp[Rel]
  rw[E2];grind;rw[E2]at K⊢;grind;rw[E2]at K;dsimp only at K;split at K;rw[hVi,h1s]
  grind
  cases K
 have hLi:lE P Vi T:=by have hLw:=hG.L3 E1;refine⟨hLw.same λg hn hlt=>G0 g hlt,λg hn K=>?_⟩;have hlt:=hLw.lt hn;rw[hVi]at K;rcases K with rfl|rfl|⟨j,-,K⟩;omega;omega;rw[R]at K;exact hG.cK g hn (hc.own _ g K).1
 have F4:=G4 T S Vi ([Value.func (.yield l) #[] #[]]++cf.toList) Fi (by simp;omega) hLi S1;rw[M2]at F4;refine(Gq (hce _ _) F4).mono ?_;rintro e w2⟨v0,rfl,v,S',F',F2,k1,k2,kc⟩;have X2:qg.here (J m) w2 S' (F' 1000000):=by have:=kc.rel 1000000;unfold an at this;have e:(both [r] [.abs<|J m] 1000000).av=.abs (J m):=fQ;rw[e]at this;exact this
 have F3:=X2 w2 S' (λ_ _=>rfl) λ_ h=>h;rw[hJ]at F3;obtain⟨FF,hp,hrel,-,hl2,hD2⟩:=F3;obtain⟨w4,F0⟩:∃w4,w4=w2.putObj l (.loop {vp fn a.tmps ps o body D (pe m)with state:=.exhausted}):=⟨_,W⟩;have P0:(Instr.endLoop l).run P w2=.ok (pe m) w4:=by rw[run_endLoop hl2<|by simp[vp];split<;>simp,F0];rfl
 have hX:kV N V w0 S0 (ub σ ex<|y m) {a with defers:=[{target:=.collected D,args:=#[]}]++a.defers} w4:=by
  have V1:w4.heap.size=w2.heap.size:=fP;have h4o:∀k,k≠l->w4.heap[k]?=w2.heap[k]?:=λk hk=>by rw[F0];exact World.putObj_heap_other hk
  have hm:∀c,c∈F' 1000000↔c∈D::l::(List.range ex.length).flatMap FF:=λc=>hp.mem_iff;have hnd2:=hp.nodup_iff.1<|kc.nodup 1000000;obtain⟨hD1,hnd3⟩:=ad2.1 hnd2;obtain⟨hl1,hnd4⟩:=ad2.1 hnd3;obtain⟨L0,P1⟩:=(ni ex.length).1 hnd4;have hin:∀j,j<ex.length->∀c∈FF j,c∈(List.range ex.length).flatMap FF:=λj s c hc=>afG.2 ⟨j,afH.2 s,hc⟩;have O:∀j,j<ex.length->∀c∈FF j,cK Vi T c/\c<w2.heap.size/\¬S' c/\c≠l/\c≠D:=by
   intro j s c u;have hcm:=hin j s c u;have:=kc.own 1000000 c<|(hm c).2<|by simp[hcm]
   grind
  have V0:=kc.own 1000000 D<|(hm D).2 I;have hlown:=kc.own 1000000 l<|(hm l).2 I;have H1:∀c,Vi.g c->c=D\/c=l\/∃j,j<ex.length/\c∈F (ex.getD j 0):=fP;have hsz0:=E1.size;have M1:∀c,cK Vi T c->cK V w0 c:=by rintro c(h|h);exact .inl E;rcases H1 c h with rfl|rfl|⟨j,s,h⟩;exact .inl E;exact .inl E;exact(hc.own _ c h).1
  have hst2:=F2.size;have Y:∀c,c<w.heap.size->(∀j,j<ex.length->c∉F (ex.getD j 0))->w4.heap[c]?=w.heap[c]?:=by intro c hc1 hc2;rw[h4o c E,F2.block c E λh=>?_,G0 c hc1];rcases H1 c h with h|h|⟨j,s,h⟩;omega;omega;exact hc2 j s h
  have hSk:∀c,S c->w4.heap[c]?=w.heap[c]?:=λc hcS=>Y c (H2 c hcS) λj s h=>(hc.own _ c h).2.2 hcS;have hFk:∀i,i∉ex->∀c∈F i,w4.heap[c]?=w.heap[c]?:=λi hi c G6=>Y c (hFw i c G6) λj s h=>hc.di i (ex.getD j 0) (λe=>hi<|by rw[e];exact H5 j s) c G6 h;obtain⟨Fn,hFn⟩:∃Fn:Nat->L Nat,Fn=λi=>match idxOf ex i with|some j=>FF j|none=>F i:=⟨_,W⟩
  have A:∀{i j},idxOf ex i=some j->Fn i=FF j:=λh=>by grind
  have M:∀{i},idxOf ex i=none->Fn i=F i:=λh=>by grind
  have hmv:∀{i},idxOf ex i=none->ub σ ex (y m) i=σ i:=λh=>by unfold ub;rw[h]
  have hms:∀{i j},idxOf ex i=some j->ub σ ex (y m) i=⟨(y m).getD j .dead,(σ i).g1,(σ i).g2+1⟩:=λh=>by unfold ub;rw[h]
  have H3:∀i j,idxOf ex i=none->j<ex.length->∀c∈FF j,c∉F i:=by
   intro i j hi s c G6 hci;rcases(O j s c G6).1 with h|h
   grind
   rcases H1 c h with h|h|⟨j',hj',h⟩
   grind
   grind
   exact hc.di i (ex.getD j' 0) (λe=>pq hi<|by grind) c hci h
  have hS'c:∀c,S' c->S c\/cK V w0 c:=λc h=>(k2 c h).imp id<|M1 c;refine⟨S',Fn,[{target:=.collected D,args:=#[]}],?_,K2,by rw[hdf],λc h=>k1 c<|hs1 c h,λc h=>(hS'c c h).elim (hs2 c) .inr,?_,I,?_⟩;have hT:tv V {a with defers:=[{target:=.collected D,args:=#[]}]++a.defers}=tv V a:=W;rw[hT];refine hc.step (w':=w4) (T':=tv V a) (S':=S') ⟨λi=>?_,λi=>?_,λ_ _=>rfl,λi q1 q2=>?_⟩ k1 (λi=>?_) (λi=>?_) (λi j B0 c t=>?_) (λi c t=>?_) (λc h=>by rw[V1];exact kc.shr c h)
  grind
  grind
  cases hi:idxOf ex i with
  |none=>rw[hmv hi];exact⟨λp z hz=>⟨z,hz⟩,λc t=>t.elim (hSk c)<|hFk i (pq hi) c⟩
  |some j=>grind
  ·cases hi:idxOf ex i with
   |none=>left;rw[hmv hi,M hi];exact⟨W,W,W,λc t=>t.elim (hSk c)<|hFk i (pq hi) c⟩
   |some j=>
    right;obtain⟨s,he⟩:=gA hi;have hyj:(y m)[j]?=some ((y m).getD j .dead):=by grind
    have hr:=hrel j _ hyj s;rw[an.ofX<|by rw[hms hi];exact hr.ig,hms hi,A hi];rw[he]at hr;exact uM.frame hr λc t=>h4o c (λe=>by grind)
  cases hi:idxOf ex i with
  |none=>rw[M hi];exact hc.nodup i
  |some j=>rw[A hi];exact L0 j (gA hi).1
  ·cases hi:idxOf ex i with
   |none=>
    rw[M hi]at t;cases s:idxOf ex j with
    |none=>rw[M s];exact hc.di i j B0 c t
    |some j'=>rw[A s];exactλh=>H3 i j' hi (gA s).1 c h t
   |some i'=>
    rw[A hi]at t;cases s:idxOf ex j with
    |none=>rw[M s];exact H3 j i' s (gA hi).1 c t
    |some j'=>rw[A s];refine P1 i' j' (gA hi).1 (gA s).1 (λe=>B0 ?_) c t;rw[<-(gA hi).2,<-(gA s).2,e]
  cases hi:idxOf ex i with
  |none=>rw[M hi]at t;have ho:=hc.own i c t;refine⟨ho.1,by rw[V1];omega,λh=>?_⟩;rcases k2 c h with h|h;exact ho.2.2 h;rcases h with h|h;omega;rcases H1 c h with h|h|⟨j',hj',h⟩;omega;omega;exact hc.di i (ex.getD j' 0) (λe=>pq hi<|by grind) c t h
  |some j=>
   rw[A hi]at t;have ho:=O j (gA hi).1 c t
   grind
  ·refine⟨?_,?_,?_,by rw[V1];omega,λk hk hgk=>?_⟩
   ·rw[F0];show w2.os=_;rw[F2.os,Z];exact E1.os
   rw[F0];show w2.tape=_;rw[F2.tape,Z];exact E1.tape;rw[F0];show w2.output=_;rw[F2.output,Z];exact E1.output;rw[Y k E λj s h=>?_];exact E1.block k hk hgk;rcases(hc.own _ k h).1 with h|h;omega;exact hgk h
  intro d hd;simp[af9]at hd;subst hd;refine⟨D,W,by grind,E,V0.2.2,λi h=>?_⟩;cases hi:idxOf ex i with
  |none=>grind
  |some j=>rw[A hi]at h;exact(O j (gA hi).1 D h).2.2.2.2 W
 show∃W1 w4,(Instr.endLoop l).run P w2=.ok W1 w4/\_;refine⟨pe m,w4,P0,?_⟩;cases hpm:pe m with
 |none=>grind
 |some c=>
  rw[hpm]at A0;cases c<;>try exact A0.elim
  case ret=>exact wpIn_ret ⟨_,A0,hX⟩
  case exit id=>exact wpIn_exit ⟨_,A0,hX⟩
end
def Hv:∀{L:List (Nat×SV)}{i:Nat},(gt (sl L) i).v=.dead\/(i,(gt (sl L) i).v)∈L
 |[],i=>.inl W
 |(j,y)::L,i=>by simp[sl,gt];split;simp_all;rcases Hv (L:=L) (i:=i)with h|h;exact .inl h;simp_all
def wM:∀(q:L (Tmp×Value))(t:Array Value)(i:Nat),i∉q.map (·.1)->(q.foldl (λa p=>a.setIfInBounds p.1 p.2) t).getD i undef=t.getD i undef
 |[],t,i,_=>rfl
 |p::q,t,i,h=>by
  simp only[acK,abm,not_or]at h;simp only[aeC];rw[wM q _ i h.2];simp
  grind
def MC:∀(q:L (Tmp×Value))(t:Array Value)(i:Nat)(v:Value),(q.map (·.1)).Nodup->(i,v)∈q->i<t.size->(q.foldl (λa p=>a.setIfInBounds p.1 p.2) t).getD i undef=v
 |[],t,i,v,_,h,_=>by cases h
 |p::q,t,i,v,hn,h,hi=>by simp only[acK,ad2]at hn;simp only[aeC];rcases abm.1 h with h|h;subst h;rw[wM q _ i hn.1];simp[hi];exact MC q _ i v hn.2 h (by simpa using hi)
inductive View(σ:St)(ex is:List Nat):Nat->AV->Prop
 |own {i j:Nat} (h:ex[j]?=some i):View σ ex is i (.bw (1000000+j) 0 0 [])
 |bw {i j r g1 g2:Nat} {p:Path} (h:ex[j]?=some r) (h1:(σ i).av=.bw r g1 g2 p) (h2:lu p=true) (h3:(σ r).g1=g1):View σ ex is i (.bw (1000000+j) 0 0 p)
 |ptr {i j r g1 g2:Nat} {p:Path} (h:ex[j]?=some r) (h1:(σ i).av=.ptr r g1 g2 p) (h2:flat p=true) (h3:(σ r).g1=g1):View σ ex is i (.ptr (1000000+j) 0 0 p)
 |val {i:Nat} (h:i∈is):View σ ex is i (σ i).av
def te:Nat->L SV->L (Nat×SV)
 |_,[]=>[]
 |k,v::a=>(k,v)::te (k+1) a
def tU:L Nat->L SV->L (Nat×SV)
 |[],_=>[]
 |t::a,xs=>match xs with
  |[]=>[]
  |x::xs=>(t,x)::tU a xs
def Dy:∀{a:L Nat}{xs:L SV}{i:Nat}{v:SV},(i,v)∈tU a xs->∃j:Nat,a[j]?=some i/\xs[j]?=some v
 |[],xs,i,v,h=>by simp[tU]at h
 |t::a,[],i,v,h=>by simp[tU]at h
 |t::a,x::xs,i,v,h=>by simp[tU]at h;rcases h with⟨rfl,rfl⟩|h;exact⟨0,W,W⟩;obtain⟨j,c,b⟩:=Dy h;exact⟨j+1,c,b⟩
def Jx:∀{A B:L (Nat×SV)}{i:Nat},(∀q∈A,q.1≠i)->gt (sl<|cat A B) i=gt (sl B) i
 |[],B,i,_=>rfl
 |(r,y)::A,B,i,h=>by
  simp[cat,sl,gt];have:Nat.beq i r=false:=by
   cases b:Nat.beq i r with
   |false=>rfl
   |true=>simp_all
  rw[this];exact Jx λq a=>h q (by simp[a])
def QP:∀(zs:L SV)(k j:Nat),gt (sl<|te k zs) (k+j)=match zs[j]?with|some v=>⟨v,0,0⟩|none=>⟨.dead,0,0⟩
 |[],k,j=>by simp[te,sl,gt]
 |v::zs,k,j=>by
  simp[te,sl,gt];cases j with
  |zero=>simp
  |succ j=>
   have:Nat.beq (k+(j+1)) k=false:=by
    cases a:Nat.beq (k+(j+1)) k with
    |false=>rfl
    |true=>simp_all
   rw[this];have:=QP zs (k+1) j
   grind
def QL:∀{zs:L SV}{k i:Nat}{v:SV},(i,v)∈te k zs->k<=i
 |[],k,i,v,h=>by simp[te]at h
 |z::zs,k,i,v,h=>by simp[te]at h;rcases h with⟨rfl,-⟩|h;exact .refl;have:=QL h;omega
section
variable{P:Program}{N:Nat}{σ:St}
def RS{ex is:List Nat}{k:List (Nat×SV)}{xs zs:List SV}{b:Array Tmp}{F:Hid}{a:Act}{w0:World}{S0:Nat->Prop}{B:Nat->Prop}{F0:Nat->List Nat}(hN:N<=1000000)(ha:a.tmps.size=N)(hc:aU S0 B σ (tv F a) w0 F0)
 (G5:∀i∈is,(σ i).av.plain=true/\(σ i).av.aK=true)(B0:∀q∈k,View σ ex is q.1 q.2.den/\q.1<N/\q.1∉b.toList)
 (E1:b.toList.Nodup)(E2:∀t∈b.toList,t<N)(hx:xs.length=b.size)(G2:zs.length=ex.length)(G1:∀z∈zs,z.ig=true):
 Xs N (is.map λi=>((σ i).av,tv F a i)) ex (tv F a) a.tmps b (aB zs) (aB xs) (dn<|sl<|cat k<|cat (tU b.toList xs)<|te 1000000 zs):=by
 intro w S FF Z V F3 M G4 H1 O hS m hv hg;obtain⟨n,Y⟩:∃n:Act,n={tmps:=(b.zip Z.toArray).foldl (λtmps(t,a)=>tmps.setIfInBounds t a) a.tmps,defers:=[]}:=⟨_,W⟩;rw[<-Y];have K:=Cells.length m;rw[bP]at K;have f:n.tmps=(b.toList.zip Z).foldl (λtmps p=>tmps.setIfInBounds p.1 p.2) a.tmps:=by rw[Y];rw[<-ahu];simp
 have l:(b.toList.zip Z).map (·.1)=b.toList:=by exact List.map_fst_zip (by rw[K,hx];simp)
 have F4:∀i,i<N->i∉b.toList->tv V n i=tv F a i:=by intro i hi C;rw[xf _ _<|.inl E,xf _ _<|.inl E,f];exact wM _ _ _ (by rw[l];exact C)
 have o:∀j,tv V n (1000000+j)=tv F a (ex.getD j 0):=by
  intro j;have G3:n.tmps.size=N:=by
   rw[f,<-ha];have:∀(q:List (Tmp×Value))(t:Array Value),(q.foldl (λtmps p=>tmps.setIfInBounds p.1 p.2) t).size=t.size:=by
    intro q
    induction q with
    |nil=>intro t;rfl
    |cons p q ih=>simp_all
   exact this _ _
  unfold tv;rw[aaq E,hv];show tv F a (ex.getD (1000000+j-1000000) 0)=_;rw[ahX];rfl
 have D:∀{j r:Nat},ex[j]?=some r->ex.getD j 0=r/\j<ex.length:=λh=>⟨fP,(agn.1 h).1⟩;have T:∀j,gt (sl<|cat k<|cat (tU b.toList xs)<|te 1000000 zs) (1000000+j)=match zs[j]?with|some v=>⟨v,0,0⟩|none=>⟨.dead,0,0⟩:=by
  intro j;have g1:∀q∈k,q.1≠1000000+j:=λq hq e=>by grind
  have g2:∀q∈tU b.toList xs,q.1≠1000000+j:=by
   intro q hq e;obtain⟨t,h1,-⟩:=Dy (i:=q.1) (v:=q.2) hq
   grind
  rw[Jx g1,Jx g2,QP]
 have R:∀{i:Nat}{v:SV},(i,v)∈cat k (cat (tU b.toList xs)<|te 1000000 zs)->(i,v)∈k\/(i,v)∈tU b.toList xs\/(i,v)∈te 1000000 zs:=by intro i v h;rw[dj,dj]at h;simpa using h
 refine⟨λi=>?_,λi=>?_,λi j G6 c X=>?_,λi c X=>?_,hS⟩;by_cases hi:1000000<=i;obtain⟨j,rfl⟩:∃j,i=1000000+j:=⟨i-1000000,E⟩;have hh:=T j;by_cases A:j<ex.length;rw[aas ⟨E,E⟩,ahX];obtain⟨z,hz⟩:∃z,zs[j]?=some z:=⟨_,acL E⟩;rw[hz]at hh;rw[an.ofX<|by rw[ee,hh,nh];grind,ee,hh,o];exact M j z.den (by rw[jm];simp[hz]) A;rw[aaq E];rw[aex E]at hh;rw[an.aC<|by rw[ee,hh];rfl,ee,hh];simp[SV.den,Rel];rw[aaq E];rcases Hv (L:=cat k<|cat (tU b.toList xs)<|te 1000000 zs) (i:=i)with h|h;rw[an.aC<|by rw[ee,h];rfl,ee,h];simp[SV.den,Rel];rcases R h with h|h|h;obtain⟨g,vJ,C⟩:=B0 _ h;have H:=F4 i vJ C;have e:(dn (sl<|cat k<|cat (tU b.toList xs)<|te 1000000 zs) i).av=(gt (sl<|cat k<|cat (tU b.toList xs)<|te 1000000 zs) i).v.den:=ee _ _
 replace g:View σ ex is i (gt (sl<|cat k<|cat (tU b.toList xs)<|te 1000000 zs) i).v.den:=g
 rw[<-e]at g;generalize G0:dn (sl<|cat k<|cat (tU b.toList xs)<|te 1000000 zs)=A0 at g⊢;generalize hd:(A0 i).av=d at g;cases g with
 |own A=>obtain⟨J,q2⟩:=D A;unfold an;rw[hd];refine⟨W,aaQ _,aaQ _,λ_ _ _=>⟨.val<|tv V n<|1000000+_,W,?_,I⟩⟩;show tv V n i=_;rw[o,J,H]
 |bw A p1 s p3=>
  obtain⟨J,q2⟩:=D A;have y:=hc.rel i;unfold an at y⊢;rw[p1]at y;rw[hd];obtain⟨L,k1,k2,k3⟩:=y.2.2.2 p3 (.inl s) λh=>by rw[s]at h;cases h
  obtain⟨u,rfl⟩:=HB s k1;refine⟨W,aaQ _,aaQ _,λ_ _ _=>⟨.val u,?_,?_,I⟩⟩;rw[o,J,<-Hz (w:=w0) s];exact k1;show tv V n i=u;rw[H];exact k2
 |ptr A p1 s p3=>
  obtain⟨J,q2⟩:=D A;have y:=hc.rel i;unfold an at y⊢;rw[p1]at y;rw[hd];obtain⟨ad,k1,k2⟩:=y.2.2.2.2 p3 (.inl s) λh=>by rw[s]at h;cases h
  refine⟨W,aaQ _,aaQ _,fP,λ_ _ _=>⟨ad,?_,by rw[H];exact k2⟩⟩;rw[o,J,<-LM (w:=w0) s];exact k1
 |val F2=>rw[an.aC<|by grind,hd,H];exact F3 ((σ i).av,tv F a i) (abS.2 ⟨i,F2,W⟩)
 ·obtain⟨t,h1,h2⟩:=Dy h;have x:=Cells.get t m W;rw[jm,h2]at x;obtain⟨z,z1,z2⟩:=x;have F1:(i,z)∈b.toList.zip Z:=by
   grind
  have vJ:=E2 i<|aha h1;have H:tv V n i=z:=by rw[xf _ _<|.inl E,f];exact MC _ _ _ _ (by rw[l];exact E1) F1 (by rw[ha];exact vJ)
  rw[an.aC<|by rw[ee];exact z2.plain,ee,H];exact z2
 have:=QL h;omega
 grind
 grind
 split at X;rename_i h;have:=O _ h.2 c X;exact⟨.inr<|hg _ h.2 c X,this⟩;cases X
end
section
variable{R:Q Nat->Prop}{P:Program}{N:Nat}{F:St->Prop}{k:L It}{l:a7}
def Fc(l:a7):L Nat->L (Nat×Nat)
 |[]=>[]
 |t::b=>match gt l t with
  |⟨_,a,_⟩=>(t,a)::Fc l b
def Nq(l:a7):∀a:L Nat,Fc l a=a.map λt=>(t,(dn l t).g1)
 |[]=>rfl
 |t::a=>by simp[Fc,Nq l a,BN]
def Qt(d:Nat):L Nat->Bool
 |[]=>true
 |t::a=>dt (ne' t d)<|Qt d a
def Hn{d:Nat}:∀{a:L Nat},Qt d a=true->a.all (λt=>t !=d)=true
 |[],_=>rfl
 |t::a,h=>by simp[Qt,aW]at h;simp only[ac4,abi];exact⟨by simpa using ne_iff.1 h.1,Hn h.2⟩
def Vu(l:a7)(d:Nat)(g:FuncId)(first a:L Operand):Q (a7×L Nat):=
 match first with
 |[]=>(slotsOf a).bind λb=>(iz<|Qt d b).bind λ_=>Lc l d (.gI g<|Fc l b) λc=>some (c,[d])
 |_::_=>none
def UG{all:Array Oper}{d:Nat}{b:FuncId}{first a:Array Operand}{ty:TypeId}{pos:String}{c:Array Edge}{g:Q (Nat×Bool)}{K:L Mv->St->Prop}{i:a7}{j:L Nat}
 (n:cN l all.toList g=some true)(h:Vu l d b first.toList a.toList=some (i,j))(m:∀f,bp f=j->K f (dn i)):
 KV P all ⟨some d,.makeFunc (.func b) first a,ty,pos,c,g⟩ (dn l) K:=by
 unfold Vu at h;split at h<;>try(cases h)
 rename_i p;simp only[aaV,bT]at h;obtain⟨e,r,_,q,rfl,rfl⟩:=h;refine⟨.mkc,[.put d<|.gI b<|Fc l e],[],dn<|Sd l d<|.gI b<|Fc l e,?_,I,?_,m _ W⟩;unfold fD;rw[dL (o:=⟨some d,.makeFunc (.func b) first a,ty,pos,c,g⟩) n];simp[kF,p,r,Hn q,Nq];have:=lR l d<|.gI b<|Fc l e;rw[<-this];rfl
def ae0{all:Array Oper}{rest:L Oper}{d:Nat}{e:FuncId}{first a:Array Operand}{ty:TypeId}{pos:String}{b:Array Edge}{g:Q (Nat×Bool)}{c:a7}{f:L Nat}
 (j:cN l all.toList g=some true)(h:Vu l d e first.toList a.toList=some (c,f))(i:AK R P N F (.ops all rest::k) c):
 AK R P N F (.ops all (⟨some d,.makeFunc (.func e) first a,ty,pos,b,g⟩::rest)::k) l:=by
 exact UG j h λm _=>i
def No(l:a7):L (Nat×Nat)->Q (L SR)
 |[]=>some []
 |(t,a)::q=>match gt l t with
  |⟨v,g1,g2⟩=>(iz<|dt (Nat.ble (t+1) 1000000)<|dt v.plain<|Nat.beq g1 a).bind λ_=>(No l q).bind λxs=>some<|⟨some t,⟨v,g1,g2⟩,⟨.dead,0,0⟩⟩::xs
def Fa:∀{b:L (Nat×Nat)}{xs:L SR},No l b=some xs->b.all (λq=>decide (q.1<1000000)&&(dn l q.1).av.plain&&(dn l q.1).g1==q.2)=true/\(b.map λq=>resolve (dn l)<|.tmp q.1)=xs.map SR.den
 |[],xs,h=>by simp[No]at h;simp_all
 |(t,a)::q,xs,h=>by
  simp only[No,aaV,bT,aW,beq_iff,aaP]at h;obtain⟨_,⟨i,g,f⟩,ys,e,rfl⟩:=h;obtain⟨k1,k2⟩:=Fa e;have c:(dn l t).av.plain=true:=by rw[ee,cU];exact g
  constructor;simp only[ac4,abi,decide_eq_true_eq,beq_iff_eq];exact⟨⟨⟨acR i,c⟩,by rw[BN];exact f⟩,k1⟩;simp[k2];have:cx.of (dn l) t=⟨some t,dn l t,.none⟩:=by unfold cx.of;cases d:(dn l t).av<;>rw[d]at c<;>first|rfl|(simp[AV.plain]at c)
  show cx.of (dn l) t=_;rw[this];rfl
def Ec(l:a7)(f:Operand)(asx:L Operand):Q mJ:=
 match f with
 |.tmp t=>match(gt l t).v with
  |.gI g a=>(jR l asx).bind λd=>(No l a).bind λe=>match cat d e with
   |b=>match fH [] b with
    |R=>(Fq R b).bind λc=>(iz<|Nat.ble (len c) 1000000).bind λ_=>some ⟨g,c,R⟩
  |_=>none
 |_=>none
def UK{all:Array Oper}{a:Q Nat}{f:Operand}{asx z:Array _}{ty:TypeId}{pos:String}{n:Array Edge}{g:Q (Nat×Bool)}{K:L Mv->St->Prop}{h:mJ}{out:L SV}{r:SV}{p:a7}{u:L Nat}
 (H:cN l all.toList g=some true)(hh:Ec l f asx.toList=some h)(hs:iQ P h.g (mo h.R) h.asx out r)(i:ja l a h.R out r=some (p,u))(D:∀A,bp A=u->K A (dn p)):
 KV P all ⟨a,.call ⟨.value f,asx,z⟩,ty,pos,n,g⟩ (dn l) K:=by
 unfold Ec at hh;split at hh<;>try(cases hh)
 rename_i t;split at hh<;>try(cases hh)
 rename_i j e C;simp only[aaV,bT,aaP]at hh;obtain⟨b,T,c,S,s,O,_,M,rfl⟩:=hh;obtain⟨c1,Y⟩:=Fa S;have x:(dn l t).av=.gI j e:=by rw[ee,C];rfl
 have v:(asx.toList.map (resolve<|dn l)++e.map λq=>resolve (dn l)<|.tmp q.1)=(cat b c).map SR.den:=by rw[fg l T,Y,dj,acB]
 simp[ja]at i;split at i<;>try(cases i)
 rename_i B;simp[aW,not_iff]at B;obtain⟨y,b2,b3,b4,Z⟩:=B;have X:dR [] ((cat b c).map SR.den)=kB (fH []<|cat b c):=mw [] _;have V:uI (kB<|fH []<|cat b c) ((cat b c).map SR.den)=some (aB s):=vj O;have w:Ai.vP a (resolve (dn l)<|.func j) ((cat b c).map SR.den) (aB out) r.den=some (dz a r.den [.back<|qi (kB<|fH []<|cat b c)<|aB out],[.refs j (aB<|mo<|fH []<|cat b c) (aB s) (aB out) r.den]):=by unfold Ai.vP;have J:(resolve (dn l)<|.func j).cont=some (.fn (.func j) [] []):=W;rw[J];simp only[bR,agJ,if_true,X,V,xn];rw[aas];simp;simp[iT _ b2,iT _ b3,cU,b4,ye _ _ Z,EU,bP,decide_eq_true_eq];have:=acR M;simp[fk]at this y;omega
 have m:Mv.runs (dn l) (dz a r.den [.back<|qi (kB<|fH []<|cat b c)<|aB out])=some (dn p)/\bp (dz a r.den [.back<|qi (kB<|fH []<|cat b c)<|aB out])=u:=by
  cases a with
  |none=>cases i;exact⟨by simp[dz,Mv.runs,Mv.run,jX],by simp[dz,bp,afd];exact pg _ _ y⟩
  |some d=>simp[iG,acQ]at i;obtain⟨rfl,rfl⟩:=i;exact⟨by simp[dz,Mv.runs,Mv.run,jX,gQ],by simp[dz,bp,Mv.keys,dj<|Te _];rw[pg _ _ y]⟩
 refine⟨.gI (aB out) r.den,_,[.refs j (aB<|mo<|fH []<|cat b c) (aB s) (aB out) r.den],dn p,?_,?_,m.1,D _ m.2⟩;unfold fD;rw[dL (o:=⟨a,.call ⟨.value<|.tmp t,asx,z⟩,ty,pos,n,g⟩) H];simp only[kF,x]
 grind
 simp[Ob.ok];exact hs
def afl{all:Array Oper}{rest:L Oper}{a:Q Nat}{f:Operand}{asx d:Array _}{ty:TypeId}{pos:String}{b:Array Edge}{g:Q (Nat×Bool)}{h:mJ}{out:L SV}{r:SV}{c:a7}{e:L Nat}
 (m:cN l all.toList g=some true)(hh:Ec l f asx.toList=some h)(hs:iQ P h.g (mo h.R) h.asx out r)(i:ja l a h.R out r=some (c,e))(j:AK R P N F (.ops all rest::k) c):
 AK R P N F (.ops all (⟨a,.call ⟨.value f,asx,d⟩,ty,pos,b,g⟩::rest)::k) l:=by
 exact UK m hh hs i λn _=>j
def Ae(l:a7)(m x:Operand):Q ((World->(Nat->Prop)->Value->Prop)×SV):=
 (eB l m).bind λm=>(dq m).bind λ(ob,v)=>match ob with
   |[]=>match v with
    |.ob K=>(eB l x).bind λx=>(dq x).bind λ(a,y)=>match a with
     |[]=>(iz y.aK).bind λ_=>some (K,y)
     |_::_=>none
    |_=>none
   |_::_=>none
def UH{all:Array Oper}{d:Nat}{t:TypeId}{m x:Operand}{a:Bool}{ty:TypeId}{pos:String}{c:Array Edge}{g:Q (Nat×Bool)}{K:L Mv->St->Prop}{h:(World->(Nat->Prop)->Value->Prop)×SV}{y:SV}{e:a7}{n:L Nat}
 (w:cN l all.toList g=some true)(hh:Ae l m x=some h)(s:y.aK=true)(hs:Looks P t a h.1 h.2.den y.den)(p:nk l [] d y (λe=>some (e,[d]))=some (e,n))(u:∀j,bp j=n->K j (dn e)):
 KV P all ⟨some d,.lookup t m x a,ty,pos,c,g⟩ (dn l) K:=by
 simp[Ae,aaV]at hh;obtain⟨O,D,ob,v,C,b⟩:=hh;split at b<;>try(cases b)
 split at b<;>try(cases b)
 rename_i q;simp[aaV]at b;obtain⟨M,B,r,i,A,f⟩:=b;split at f<;>try(cases f)
 simp only[aaV,bT,aaP]at f;obtain⟨_,z,rfl⟩:=f;simp[iG]at p;obtain⟨rfl,rfl⟩:=p;refine⟨.XE y.den,dz (some d) y.den [],[.XE t a q i.den y.den],dn<|LJ l [] d y,?_,?_,?_,u _ fQ⟩;unfold fD;rw[dL (o:=⟨some d,.lookup t m x a,ty,pos,c,g⟩) w];have J:(resolve (dn l) m).cont=some (.ob q):=by rw[cS D];exact aJ C U
 have H:(resolve (dn l) x).cont=some i.den:=by rw[cS B];exact aJ A U
 simp[kF,J,H,cD,z,s];simp;exact hs;have:=gQ l [] d y;simp[dz,iD];rw[this]
def ae1{all:Array Oper}{rest:L Oper}{d:Nat}{t:TypeId}{m x:Operand}{a:Bool}{ty:TypeId}{pos:String}{c:Array Edge}{g:Q (Nat×Bool)}{h:(World->(Nat->Prop)->Value->Prop)×SV}{b:a7}{e:L Nat}(y:SV)
 (n:cN l all.toList g=some true)(hh:Ae l m x=some h)(f:y.aK=true)(hs:Looks P t a h.1 h.2.den y.den)(i:nk l [] d y (λb=>some (b,[d]))=some (b,e))(j:AK R P N F (.ops all rest::k) b):
 AK R P N F (.ops all (⟨some d,.lookup t m x a,ty,pos,c,g⟩::rest)::k) l:=by
 exact UH n hh f hs i λo _=>j
def ae2{all:Array Oper}{i:L Nat}{c:L (L Nat×L Nat)}{rest:L Oper}{d:Nat}{t:TypeId}{m x:Operand}{a:Bool}{ty:TypeId}{pos:String}{b:Array Edge}{g:Q (Nat×Bool)}{h:(World->(Nat->Prop)->Value->Prop)×SV}{e:a7}{j:L Nat}(y:SV)
 (q:cN l all.toList g=some true)(hh:Ae l m x=some h)(n:y.aK=true)(hs:Looks P t a h.1 h.2.den y.den)(o:nk l [] d y (λe=>some (e,[d]))=some (e,j))
 (p:AK R P N F (.nu all i rest ((iP (dn l) all ⟨some d,.lookup t m x a,ty,pos,b,g⟩,j)::c)::k) e):
 AK R P N F (.nu all i (⟨some d,.lookup t m x a,ty,pos,b,g⟩::rest) c::k) l:=by
 exact UH q hh n hs o λr f=>by rw[f];exact p
def QN(l:a7)(asx:L Operand):Q (World->(Nat->Prop)->Value->Prop):=
 match asx with
 |[]=>none
 |m::q=>match q with
  |[]=>(eB l m).bind λm=>(dq m).bind λ(ob,v)=>match ob with
   |[]=>match v with
    |.ob K=>some K
    |_=>none
   |_::_=>none
  |_::_=>none
def abk{all:Array Oper}{d:Nat}{b:Builtin}{asx f:Array _}{ty:TypeId}{pos:String}{a:Array Edge}{g:Q (Nat×Bool)}{K:L Mv->St->Prop}{J:World->(Nat->Prop)->Value->Prop}{y:SV}{h:a7}{n:L Nat}
 (t:cN l all.toList g=some true)(hh:QN l asx.toList=some J)(r:y.aK=true)(hs:Obs P ⟨some d,.call ⟨.builtin b,asx,f⟩,ty,pos,a,g⟩ J y.den)(p:nk l [] d y (λh=>some (h,[d]))=some (h,n))(s:∀j,bp j=n->K j (dn h)):
 KV P all ⟨some d,.call ⟨.builtin b,asx,f⟩,ty,pos,a,g⟩ (dn l) K:=by
 unfold QN at hh;split at hh<;>try(cases hh)
 rename_i m q c;split at hh<;>try(cases hh)
 simp[aaV]at hh;obtain⟨z,w,ob,v,u,e⟩:=hh;split at e<;>try(cases e;done)
 split at e<;>try(cases e;done)
 rename_i i;obtain rfl:i=J:=by simpa using e
 simp[iG]at p;obtain⟨rfl,rfl⟩:=p;refine⟨.kG y.den,dz (some d) y.den [],[.kG ⟨some d,.call ⟨.builtin b,asx,f⟩,ty,pos,a,g⟩ i y.den],dn<|LJ l [] d y,?_,?_,?_,s _ fQ⟩;unfold fD;rw[dL (o:=⟨some d,.call ⟨.builtin b,asx,f⟩,ty,pos,a,g⟩) t];have x:(resolve (dn l) m).cont=some (.ob i):=by rw[cS w];exact aJ u U
 simp[kF,c,x,cD,r];simp;exact hs;have:=gQ l [] d y;simp[dz,iD];rw[this]
def aeY{all:Array Oper}{i:L Nat}{c:L (L Nat×L Nat)}{rest:L Oper}{d:Nat}{b:Builtin}{asx f:Array _}{ty:TypeId}{pos:String}{a:Array Edge}{g:Q (Nat×Bool)}{J:World->(Nat->Prop)->Value->Prop}{e:a7}{j:L Nat}(y:SV)
 (p:cN l all.toList g=some true)(hh:QN l asx.toList=some J)(m:y.aK=true)(hs:Obs P ⟨some d,.call ⟨.builtin b,asx,f⟩,ty,pos,a,g⟩ J y.den)(n:nk l [] d y (λe=>some (e,[d]))=some (e,j))
 (o:AK R P N F (.nu all i rest ((iP (dn l) all ⟨some d,.call ⟨.builtin b,asx,f⟩,ty,pos,a,g⟩,j)::c)::k) e):
 AK R P N F (.nu all i (⟨some d,.call ⟨.builtin b,asx,f⟩,ty,pos,a,g⟩::rest) c::k) l:=by
 exact abk p hh m hs n λq h=>by rw[h];exact o
end
section
variable{R:Q Nat->Prop}{P:Program}{N:Nat}{F:St->Prop}{k:L It}{l:a7}
section
variable{b:Bool}{y:L SV}{i:Nat}{pe:Q Code}{σ:St}
def kV.fit{V:Hid}{w0 w:World}{S0:Nat->Prop}{a:Act}{s:L (Nat×SV)}(x:qh l s)(h:kV N V w0 S0 (dn l) a w):kV N V w0 S0 (dn<|sl s) a w:=by
 obtain⟨S,F,A,hc,t,o,g,f,p,m,hm⟩:=h;have hi:Inv N (V.Xi F a.defers) w S (dn l) a w:=⟨S,F,⟨hc.rel,hc.nodup,hc.di,λi b e=>⟨.inr ⟨i,e⟩,(hc.own i b e).2⟩,hc.shr⟩,t,W,λ_ h=>h,λ_ h=>.inl h,mb.refl _ _⟩
 obtain⟨u,v,c,z,-,k1,k2,-⟩:=Ju x hi;have r:∀i b,b∈v i->∃j,b∈F j:=λi b e=>by have:=c.own i b e;rcases this.1 with h|h;omega;exact h
 have q:∀b,u b->S b\/∃j,b∈F j:=λb e=>by rcases k2 b e with h|h;exact .inl h;rcases h with h|h;exact aaF (c.shr b e)<|Nat.not_lt.2 h;exact .inr h
 refine⟨u,v,A,⟨c.rel,c.nodup,c.di,λi b e=>?_,c.shr⟩,t,o,λb e=>k1 b<|g b e,λb e=>?_,p,m,λd B=>?_⟩;obtain⟨j,n⟩:=r i b e;exact⟨(hc.own j b n).1,(c.own i b e).2⟩;rcases q b e with h|⟨j,n⟩;exact f b h;exact .inr (hc.own j b n).1
 grind
def Z3{c:Code}{Q g:Exit->St->Prop}(h:AW R P N c Q σ)(m:∀e f,Q e f->∃d,g e d/\∀V w0 S0 a w,kV N V w0 S0 f a w->kV N V w0 S0 d a w):AW R P N c g σ:=by
 intro V w0 S0 a w j hi;refine wpIn_mono (h V w0 S0 a w j hi) ?_
 grind
def Ov:L Nat->Nat->Q Nat
 |[],_=>none
 |r::ex,i=>match Nat.beq r i with
  |true=>some 0
  |false=>match Ov ex i with
   |some k=>some (k+1)
   |none=>none
def uU:∀{ex:L Nat}{i j:Nat},Ov ex i=some j->ex[j]?=some i
 |[],i,j,h=>by simp[Ov]at h
 |r::ex,i,j,h=>by
  simp[Ov]at h;split at h;rename_i e;cases h;simp_all;split at h<;>try(cases h;done)
  rename_i k a;cases h;simpa using uU a
def T5(l:a7)(ex:L Nat)(i:Nat):Q (SV×Bool):=
 match Ov ex i with
 |some j=>some (.bw (1000000+j) 0 0 [],false)
 |none=>match(gt l i).v with
  |.bw r g1 _ p=>match Ov ex r with
   |some j=>(iz<|dt (lu p)<|Nat.beq (gt l r).g1 g1).bind λ_=>some (.bw (1000000+j) 0 0 p,false)
   |none=>none
  |.ptr r g1 _ p=>match Ov ex r with
   |some j=>(iz<|dt (flat p)<|Nat.beq (gt l r).g1 g1).bind λ_=>some (.ptr (1000000+j) 0 0 p,false)
   |none=>none
  |v=>(iz<|dt v.plain v.aK).bind λ_=>some (v,true)
def NT{ex:L Nat}{v:SV}{t:Bool}(h:T5 l ex i=some (v,t)):(t=false->∀is,View (dn l) ex is i v.den)/\(t=true->(dn l i).av=v.den/\v.den.plain=true/\v.den.aK=true):=by
 unfold T5 at h;split at h;rename_i j a;cases h;exact⟨λ_ _=>.own<|uU a,λh=>by simp at h⟩;split at h;rename_i r g1 g2 p e;split at h<;>try(cases h)
 rename_i j a;simp only[aaV,bT,aW,beq_iff]at h;obtain⟨_,⟨d,c⟩,rfl,rfl⟩:=h;exact⟨λ_ _=>.bw (uU a) (by rw[ee,e];rfl) d<|by rw[BN];exact c,λh=>by simp at h⟩;rename_i r g1 g2 p e;split at h<;>try(cases h)
 rename_i j a;simp only[aaV,bT,aW,beq_iff]at h;obtain⟨_,⟨d,c⟩,rfl,rfl⟩:=h;exact⟨λ_ _=>.ptr (uU a) (by rw[ee,e];rfl) d<|by rw[BN];exact c,λh=>by simp at h⟩;simp only[aaV,bT,aW]at h;obtain⟨_,⟨d,c⟩,rfl,rfl⟩:=h;exact⟨λh=>by simp at h,λ_=>⟨by rw[ee],by rw[cU];exact d,by rw[cD];exact c⟩⟩
def SJ:L Nat->Nat->Bool
 |[],_=>false
 |r::q,i=>Gr (Nat.beq r i)<|SJ q i
def DO:∀{q:L Nat}{i:Nat},SJ q i=true↔i∈q
 |[],i=>by simp[SJ]
 |r::q,i=>by
  simp[SJ,sR,DO (q:=q)]
  grind
def C1(l:a7)(ex c:L Nat)(N:Nat):L Nat->Q (L (Nat×SV)×L Nat)
 |[]=>some ([],[])
 |i::q=>(iz<|dt (Nat.ble (i+1) N)<|not'<|SJ c i).bind λ_=>(T5 l ex i).bind λ(v,t)=>(C1 l ex c N q).bind λ(a,is)=>match t with
  |true=>some ((i,v)::a,i::is)
  |false=>some ((i,v)::a,is)
def View.more{ex is a:L Nat}{v:AV}(h:View σ ex is i v)(hs:∀j∈is,j∈a):View σ ex a i v:=by
 cases h with
 |own h=>exact .own h
 |bw h e d c=>exact .bw h e d c
 |ptr h e d c=>exact .ptr h e d c
 |val h=>exact .val<|hs _ h
def A2{ex c:L Nat}:∀{q:L Nat}{a:L (Nat×SV)}{is:L Nat},C1 l ex c N q=some (a,is)->
 (∀i∈is,(dn l i).av.plain=true/\(dn l i).av.aK=true)/\∀x∈a,View (dn l) ex is x.1 x.2.den/\x.1<N/\x.1∉c
 |[],a,is,h=>by simp[C1]at h;simp_all
 |i::q,a,is,h=>by
  simp only[C1,aaV,bT,aW,afh]at h;obtain⟨_,⟨u,f⟩,v,t,s,g,n,r,p⟩:=h;obtain⟨k1,k2⟩:=A2 r;obtain⟨m1,m⟩:=NT s;have hn:=acR u;have o:i∉c:=λhh=>by rw[DO.2 hh]at f;cases f
  cases t with
  |true=>
   cases p;obtain⟨w,D,C⟩:=m W;refine⟨λj e=>?_,λx d=>?_⟩
   grind
   rcases abm.1 d with rfl|d;exact⟨by dsimp only;rw[<-w];exact .val I,hn,o⟩;obtain⟨B,A,z⟩:=k2 x d;exact⟨B.more λj e=>List.mem_cons_of_mem _ e,A,z⟩
  |false=>grind
def Ly:L Nat->Bool
 |[]=>true
 |i::q=>dt (not'<|SJ q i)<|Ly q
def wu:∀{q:L Nat},Ly q=true->q.Nodup
 |[],_=>acP
 |i::q,h=>by simp[Ly,aW,not_iff]at h;exact ad2.2 ⟨λhh=>by rw[DO.2 hh]at h;simp at h,wu h.2⟩
def J6(N:Nat):L Nat->Bool
 |[]=>true
 |i::q=>dt (Nat.ble (i+1) N)<|J6 N q
def BX:∀{q:L Nat},J6 N q=true->∀i∈q,i<N
 |[],_,i,hi=>by cases hi
 |j::q,h,i,hi=>by simp only[J6,aW]at h;rcases abm.1 hi with rfl|hi;exact acR h.1;exact BX h.2 i hi
def CG(l:a7):L Nat->Bool
 |[]=>true
 |i::q=>dt (gt l i).v.ig<|CG l q
def xO:∀{q:L Nat},CG l q=true->∀i∈q,(dn l i).av.ig=true
 |[],_,i,hi=>by cases hi
 |j::q,h,i,hi=>by simp[CG,aW]at h;rcases abm.1 hi with rfl|hi;rw[ee,nh];exact h.1;exact xO h.2 i hi
def Xe(l:a7):L Nat->L SV
 |[]=>[]
 |i::q=>(gt l i).v::Xe l q
def Il:∀(q:L Nat)(j:Nat),j<q.length->(aB<|Xe l q)[j]?=some (dn l<|q.getD j 0).av
 |[],j,h=>by cases h
 |i::q,j,h=>by
  cases j with
  |zero=>rfl
  |succ j=>exact Il q j (by simpa using h)
def wz(l:a7):L Nat->L SV->a7
 |[],_=>l
 |r::ex,ys=>match ys with
  |[]=>(match gt l r with|⟨_,a,b⟩=>(r,⟨.dead,a,b+1⟩)::wz l ex [])
  |y::ys=>(match gt l r with|⟨_,a,b⟩=>(r,⟨y,a,b+1⟩)::wz l ex ys)
def ss:∀(ex:L Nat)(ys:L SV),ub (dn l) ex (aB ys)=dn (wz l ex ys)
 |[],ys=>fQ
 |r::ex,ys=>by
  funext i
  cases ys with
  |nil=>
   simp[wz,fb,iy,Cl.den,SV.den,<-ss ex []];unfold ub;simp[idxOf,aB];by_cases h:r=i;subst h;simp[BN,Q8]
   grind
  |cons y ys=>
   simp[wz,fb,iy,Cl.den,<-ss ex ys];unfold ub;simp[idxOf,aB];by_cases h:r=i;subst h;simp[BN,Q8]
   grind
def PT(y:L SV)(σ:St):Prop:=∃l a,σ=dn l/\qh l a/\Jw (sl a) 1000000 y
def NB(y:L SV)(b:Bool)(pe:Q Code)(σ:St):Prop:=(b=true/\pe=none)/\PT y σ
def RB(y:L SV)(b:Bool)(pe:Q Code)(σ:St):Prop:=(b=false/\pe=some .ret)/\PT y σ
def Body(P:Program)(N:Nat)(body:Code)(y:L SV)(b:Bool)(pe:Q Code)(σ:St):Prop:=gK R1 P N (RB y b pe) [.code body,.inv<|NB y b pe] .normal σ
def rN{body:Code}(h:AK R1 P N (RB y b pe) [.code body,.inv<|NB y b pe] l):AK R P N F [.inv<|Body P N body y b pe] l:=h
def yb(a:L (Nat×SV))(e:b=true)(c:pe=none)(d:ta l a)(hh:Jw (sl a) 1000000 y):AK R P N F (.inv (NB y b pe)::k) l:=⟨⟨e,c⟩,l,a,W,d.Km,hh⟩
def ac8(a:L (Nat×SV))(e:b=false)(c:pe=some .ret)(d:ta l a)(hh:Jw (sl a) 1000000 y):AK R P N (RB y b pe) [] l:=⟨⟨e,c⟩,l,a,W,d.Km,hh⟩
def Bi(h:PT y σ):∃c,(∀(j:Nat)(v:AV),(aB y)[j]?=some v->(c<|1000000+j).av=v/\v.ig=true)/\∀V w0 S0 a w,kV N V w0 S0 σ a w->kV N V w0 S0 c a w:=by obtain⟨l,d,rfl,g,f⟩:=h;exact⟨dn<|sl d,λj v e=>Eb j f e,λV w0 S0 a w hi=>hi.fit g⟩
def zI{g:Operand}{o:Array Tmp}{d body:Code}{gf:FuncId}{A:Func}{captured:L SV}{sr:SR}{T:L (Nat×SV)}{is:L Nat}(ex vs:L Nat)(n m:Nat)(x y:Nat->L SV)(b:Nat->Bool)(pe:Nat->Q Code)(r:SV)
 (hN:Nat.ble N 1000000=true)(E2:aO g=true)(hg:eB l g=some sr)(F0:dq sr=some ([],.fn (.func gf) [] captured))(B0:ij captured=true)(hf:P.funcs[gf]?=some A)(F2:A.body.isNone=false)(F1:(A.name== "runtime.NumGoroutine")=false)(F3:Nat.ble (len captured+1) 999999=true)
 (q:dt (Ly ex) (CG l ex)=true)(p:dt (Ly o.toList) (J6 N o.toList)=true)(Z:C1 l ex o.toList N vs=some (T,is))
 (hx:∀k,k<n->(x k).length=o.size)(hy:∀k,(y k).length=ex.length)(X:∀k,k<n->∀z∈y k,z.ig=true)(Y:y 0=Xe l ex)(K:pe 0=none)(A0:∀k,k<n->(∀j,j<k->b j=true)->pe k=none)
 (E1:∀(C:Value->Prop)(J:Nat->qg),(∀v,C v->∀k,k<n->(∀j,j<k->b j=true)->Yields P (J k) (J<|k+1) (aB<|x k) (b k) v)->iQ P gf [.abs<|J 0] (.pv C::captured) [.abs<|J m] r)
 (u:∀k,k<n->(∀j,j<k->b j=true)->AK R1 P N (λ_=>False) [.code d,.inv<|Body P N body (y<|k+1) (b k)<|pe<|k+1] (sl<|cat T<|cat (tU o.toList<|x k)<|te 1000000 (y k)))
 (t:pe m=none->AK R0 P N F k (wz l ex<|y m))(s:∀c,pe m=some c->c=.ret/\AK R0 P N F [] (wz l ex<|y m)):AK R0 P N F (.code (.rangeFunc g o d body)::k) l:=by
 rw[aW]at q p;obtain⟨v1,v2⟩:=A2 Z;have O:=acR hN;have M:(aB captured).length<999999:=by rw[bP,<-fk];exact acR F3
 refine W8 (σ:=dn l) (σB:=λk=>dn<|sl<|cat T<|cat (tU o.toList<|x k)<|te 1000000 (y k)) (captured:=aB captured) (r:=r.den) (ex:=ex) (is:=is) (n:=n) (m:=m) (x:=λk=>aB<|x k) (y:=λk=>aB<|y k) (b:=b) (pe:=pe) O E2 ?_ ?_ hf F2 F1 M (wu q.1) (xO q.2) v1 ?_ ?_ ?_ K A0 ?_ ?_ ?_ ?_;rw[cS hg];exact aJ F0 U;rw[eH];exact B0;intro k D;rw[bP];exact hx k D;intro k;rw[bP];exact hy k;intro j hj;rw[Y];exact Il ex j hj;exactλC J h=>E1 C J h;intro V a w S B F' ha hc k D;exact RS O ha hc v1 v2 (wu p.1) (BX p.2) (hx k D) (hy k)<|X k D;intro k D hb;have h1:=u k D hb;refine jY h1 λe G0 he=>?_;cases e with
 |normal=>
  refine⟨W,?_⟩;have h2:=he;refine Z3 h2 λe F4 h3=>?_;cases e with
  |normal=>obtain⟨h4,h5⟩:=h3;obtain⟨f,h6,h7⟩:=Bi (N:=N) h5;exact⟨f,⟨h4,h6⟩,h7⟩
  |ret=>obtain⟨h4,h5⟩:=h3;obtain⟨f,h6,h7⟩:=Bi (N:=N) h5;exact⟨f,⟨h4,h6⟩,h7⟩
  |_=>exact(show False from h3).elim
 |_=>exact(show False from he).elim
 ·cases H:pe m with
  |none=>rw[ss];exact t H
  |some c=>obtain⟨rfl,h2⟩:=s c H;rw[ss,nf];exact h2
end
end
section
variable{R:Q Nat->Prop}{P:Program}{N:Nat}{F:St->Prop}{k:L It}{l:a7}
section
variable{ks:L Nat}{o:Oper}{r:SV}{l':a7}
def ji(P:Program)(o:Oper)(H args a:L SV)(r:SV):Prop:=Xy P o (aB H) (aB args) (aB a) r.den
def ji.same{H b asx bs a c:L SV}{q:SV}(h:ji P o H asx a r)(g:aB H=aB b)(f:aB asx=aB bs)(e:aB a=aB c)(d:r.den=q.den):ji P o b bs c q:=by unfold ji at *;simp_all
structure AU where
 R:List (Nat×SV)
 asx:List SV
def Ad(l:a7)(ops:L Operand):Q AU:=
 (jR l ops).bind λb=>match fH [] b with
   |R=>(Fq R b).bind λa=>(iz<|Nat.ble (len a) 1000000).bind λ_=>some ⟨R,a⟩
def UJ{all:Array Oper}{K:L Mv->St->Prop}{h:AU}{out:L SV}
 (q:cN l all.toList o.guard=some true)(f:tg (dn l) o.op=true)(hh:Ad l o.op.operands.toList=some h)(hs:ji P o (mo h.R) h.asx out r)(b:ja l o.dst h.R out r=some (l',ks))(p:∀j,bp j=ks->K j (dn l')):
 KV P all o (dn l) K:=by
 unfold Ad at hh;simp only[aaV,bT,aaP]at hh;obtain⟨a,u,i,t,_,s,rfl⟩:=hh;simp[ja]at b;split at b<;>try(cases b)
 rename_i n;simp[aW,not_iff]at n;obtain⟨g,z,y,A,x⟩:=n;have w:dR [] (a.map SR.den)=kB (fH [] a):=mw [] _;have v:=vj t;have c:Qw o.dst (a.map SR.den) (aB out) r.den=some (dz o.dst r.den [.back<|qi (kB<|fH [] a)<|aB out],aB<|mo<|fH [] a,aB i):=by unfold Qw;simp[w,v,xn];simp[iT _ z,iT _ y,cU,ye _ _ x,EU,bP];have:=acR s;simp[fk]at this g;simp_all
 have e:Mv.runs (dn l) (dz o.dst r.den [.back<|qi (kB<|fH [] a)<|aB out])=some (dn l')/\bp (dz o.dst r.den [.back<|qi (kB<|fH [] a)<|aB out])=ks:=by
  cases m:o.dst with
  |none=>rw[m]at b;cases b;exact⟨by simp[dz,Mv.runs,Mv.run,jX],by simp[dz,bp];exact pg _ _ g⟩
  |some d=>rw[m]at b;simp[iG]at b;obtain⟨rfl,rfl⟩:=b;exact⟨by simp[dz,Mv.runs,Mv.run,jX,gQ],by simp[dz,bp,Mv.keys,dj];rw[pg _ _ g]⟩
 refine⟨.ext (aB out) r.den,_,[.ext o (aB<|mo<|fH [] a) (aB i) (aB out) r.den],dn l',?_,?_,e.1,p _ e.2⟩;unfold fD;rw[dL q];simp[kF,f,fg l u,c];simp[Ob.ok];exact hs
def afe{all:Array Oper}{rest:L Oper}{h:AU}{out:L SV}
 (d:cN l all.toList o.guard=some true)(a:tg (dn l) o.op=true)(hh:Ad l o.op.operands.toList=some h)(hs:ji P o (mo h.R) h.asx out r)(b:ja l o.dst h.R out r=some (l',ks))(c:AK R P N F (.ops all rest::k) l'):
 AK R P N F (.ops all (o::rest)::k) l:=by
 exact UJ d a hh hs b λe _=>c
def aff{all:Array Oper}{d:L Nat}{a:L (L Nat×L Nat)}{rest:L Oper}{h:AU}{out:L SV}
 (g:cN l all.toList o.guard=some true)(c:tg (dn l) o.op=true)(hh:Ad l o.op.operands.toList=some h)(hs:ji P o (mo h.R) h.asx out r)(e:ja l o.dst h.R out r=some (l',ks))
 (f:AK R P N F (.nu all d rest ((iP (dn l) all o,ks)::a)::k) l'):
 AK R P N F (.nu all d (o::rest) a::k) l:=by
 exact UJ g c hh hs e λi b=>by rw[b];exact f
end
end
def yQ{w:World}{S:Nat->Prop}:∀{xs:L AV}{a:L Value},a.length=xs.length->(∀i(h:i<xs.length),Rel w S xs[i] (a.getD i undef) [])->Cells w S false xs a []
 |[],a,h,_=>by simp at h;simp[Cells,h]
 |x::xs,[],h,_=>by cases h
 |x::xs,v::a,h,k=>by refine⟨v,a,[],[],W,W,I,k 0 I,yQ (by simpa using h) λi hi=>?_⟩;have:=k (i+1) (by simp;omega);simpa using this
def mN{P:Program}{o:Oper}{args:L SV}{r:SV}(s:ij args=true)(q:nW args=true)(D:args.length<1000000)
 (h:∀(w:World)(S:Nat->Prop)(g:L Value),(∀b,S b->b<w.heap.size)->Cells w S false (aB args) g []->Ext P o g.toArray w λv w'=>∃S' F,Below w.heap.size w w'/\(∀b,S b->S' b)/\(∀b,S' b->S b\/w.heap.size<=b)/\(∀b,S' b->b<w'.heap.size)/\
   Rel w' S' r.den v F/\F.Nodup/\∀b∈F,w.heap.size<=b/\b<w'.heap.size/\¬S' b):
 ji P o [] args [] r:=by
 intro w S V g F hl hc;rw[bP]at hl;have c:Cells w S false (aB args) g []:=by
  refine yQ (by rw[bP];exact hl) λi hi=>?_;have M:i<args.length:=by rwa[bP]at hi
  have n:=hc.rel i;have f:=fe (args:=aB args) (H:=aB []) (i:=i) E;rw[acL hi]at f;have B:(aB args)[i].plain=true:=by have:=se (iT _ q)<|acL hi;exact this
  rw[an.aC<|by rw[f];exact B,f]at n;have hn:(aB args)[i].aK=true:=by
   have T:bR (aB args)=true:=by rw[eH];exact s
   have:∀(l:L AV),bR l=true->∀x∈l,x.aK=true:=by
    intro l
    induction l with
    |nil=>intro _ x A;cases A
    |cons y l Y=>
     intro hl x A;simp[bR]at hl
     grind
   exact this _ T _<|aaZ hi
  have e:=Rel.aK _ n hn;rw[e]at n;have Z:a8 V g i=g.getD i undef:=by unfold a8;rw[aas E]
  simp_all
 refine Ext.mono ?_<|h w S g hc.shr c;rintro v w'⟨S',X,a,z,u,t,d,C,O⟩;have p:=d.plain;have m:∀i,(both [r.den] (aB []) i).av=if i=0 then r.den else .dead:=by
  intro i;by_cases hi:i<1000000;rw[fe hi]
  grind
  obtain⟨j,rfl⟩:∃j,i=1000000+j:=⟨i-1000000,E⟩;rw[ew I];simp[aB]
 refine⟨S',λi=>if i=0 then X else[],⟨a.os,a.tape,a.output,a.size,λk J _=>a.block k J⟩,z,λb h=>(u b h).imp id .inl,⟨λi=>?_,λi=>?_,λi j K b f=>?_,λi b f=>?_,t⟩⟩;rw[an.aC<|by rw[m];split;exact p;rfl,m];by_cases hi:i=0;subst hi;have:a8 V [v] 0=v:=W;rw[this];exact d;simp[hi,Rel]
 grind
 grind
 split at f;have:=O b f;exact⟨.inl this.1,this.2⟩;cases f
def Pv{P:Program}{o:Oper}{d f e:TypeId}{x:Operand}(s:cq){u:TypeDesc}(cF:o.op=.convert d f x)(hs:P.underlying d=some u)(A:P.underlying f=some (.slice e))(he:P.underlying e=some (.int .u8)):
 ji P o [] [.s s] [] (.ints .u8 false<|s.map λc=>(c.toNat:Int)):=by
 refine mN W W I ?_;intro w S B C hc n g;obtain⟨y,l',J,H,rfl,D,_,v,rfl,rfl⟩:=hc;obtain⟨_,rfl,rfl⟩:=v;have q:n x=.string (bs s):=by rw[cF]at g;simpa[Op.operands]using g
 have i:=Lib.run_convert_string_bytes (P:=P) w d f e (bs s) hs A he;refine⟨_,.slice (some ⟨w.heap.size,0,none⟩) (bs s).size<|grownCap w (bs s).size 0 e,Lib.bytesWorld w e<|bs s,?_,.inl W,λb=>S b\/b=w.heap.size,[],?_,λb h=>.inl h,λb h=>h.imp id λh=>E,λb h=>?_,?_,acP,I⟩;simp[execOp,cF,q];simp[i];refine⟨W,W,W,by rw[Lib.bytesWorld_size];omega,λk z=>Lib.bytesWorld_at_old w e (bs s) k z⟩;rw[Lib.bytesWorld_size]
 grind
 simp only[SV.den,Rel];right;have j:(bs s).size=s.length:=W;have m:=grownCap_ge w (bs s).size 0 e;refine⟨w.heap.size,0,_,_,_,by rw[acx,acx,j],.inr W,by unfold row?;rw[Lib.bytesWorld_at_new],?_,?_,U⟩;simp_all;have hl:(((Lib.bytesCells w e<|bs s).toList.drop 0).take<|(((s.map λc=>(c.toNat:Int)).map λa=>AV.v<|.int .u8 a).length*1))=s.map λc=>Value.int .u8 c.toNat:=by rw[aeW];unfold Lib.bytesCells;rw[Array.toList_append,ag9<|by simp[bs]];simp[bs];exact acD I
 rw[hl];have:∀t:cq,du (Lib.bytesWorld w e<|bs s) (λb=>S b\/b=w.heap.size) 1 ((t.map λc=>(c.toNat:Int)).map λa=>AV.v<|.int .u8 a) (t.map λc=>Value.int .u8 c.toNat) []:=by
  intro t
  induction t with
  |nil=>simp[du]
  |cons c t p=>exact⟨.int .u8 c.toNat,_,[],[],W,W,W,by simp[Rel,scalar],p⟩
 exact this s
def YP{P:Program}{o:Oper}{t rt:TypeId}{x:Operand}{e:Array (String×TypeId)}(cF:o.op=.binOp .neq t x (.const .nilIface) rt)(hu:P.underlying t=some (.interface e)):
 ji P o [] [.c .nilIface,.c .nilIface] [] (.b false):=by
 refine mN W W I ?_;intro w S q g hc n a;obtain⟨y,l',B,A,rfl,u,_,f,p,s,z,v,rfl,i,_,d,rfl,rfl⟩:=hc;obtain⟨_,rfl,rfl⟩:=f;obtain⟨_,rfl,rfl⟩:=d;rw[cF]at a;simp[Op.operands,aag]at a;obtain⟨m,j⟩:=a;refine⟨_,.bool false,w,?_,.inl W,S,[],Below.refl _ _,λ_ h=>h,λ_ h=>.inl h,g,by simp[SV.den,Rel,scalar],acP,I⟩;simp[execOp,cF,m,j];have he:(Op.equalIn 10000 t Value.nilIface Value.nilIface).run P w=.ok true w:=by unfold Op.equalIn;simp[run_underlying hu]
 simp[eqGuard,binOp,Op.equal,Op.maxDepth,he]
section
variable{P:Program}{w:World}{S:Nat->Prop}
section
variable{ts:Array TypeId}{V:Hid}{X Y:L AV}{vs:L Value}{b i n:Nat}{F:Nat->L Nat}{o:Oper}{d s:Operand}{t:TypeId}{w':World}
def KX{ty e:TypeId}{ti:TI}(l:ts[0]?=some t)(hu:P.underlying t=some (.slice e))(h:ct P e=some ti){off m1 c1 n2 c2:Nat}{a:Addr}{cs:Array Value}{us:L Value}
 (m:row? w b=some (cs,(0,0)))(hn:Nat.min n2 m1=n)(f:us.length=n*ti.size)(g:∀j v,us[j]?=some v->w.cell? (a.add j)=some v)(q:∀u∈us,u.oneCell'=true)(k:off+n*ti.size<=cs.size):
 (Builtin.copy_ ts ty #[.slice (some ⟨b,off,none⟩) m1 c1,.slice (some a) n2 c2]).run P w=.ok (.int .i64 n) (w.setRow b (cs.toList.take off++us++cs.toList.drop (off+n*ti.size)).toArray):=by
 have hh:∃e,w.heap[b]?=some (.cells cs e (0,0)):=by
  unfold row? at m
  grind
 obtain⟨r,he⟩:=hh;have c:=run_storeCells_at P b off r us 0 cs w he (by simp;omega) q;simp[f]at c;have p:=run_firstCells_some (P:=P) w ti.size n a n2 c2 us f g;simp[Builtin.copy_,l,run_underlying hu,dM h,Builtin.lenOf,hn,p,c,goInt]
def setRow_other(b:Nat)(cs:Array Value){c:Nat}(h:c≠b):(w.setRow b cs).heap[c]?=w.heap[c]?:=by
 simp[World.setRow]
 grind
def Og{cs:Array Value}(cs':Array Value)(a:row? w b=some (cs,(0,0))):row? (w.setRow b cs') b=some (cs',(0,0)):=by
 have hh:∃e,w.heap[b]?=some (.cells cs e (0,0)):=by
  unfold row? at a
  grind
 obtain⟨c,he⟩:=hh;have:=setRow_heap w b cs cs' c (0,0) he;simp[row?,this]
def jW(r x:AV):∀i,(both [r] [x] i).av=if i=0 then r else if i=1000000 then x else .dead:=by
 intro i;by_cases hi:i<1000000;rw[fe hi]
 grind
 obtain⟨j,rfl⟩:∃j,i=1000000+j:=⟨i-1000000,E⟩;rw[ew I]
 grind
def copied{args:L AV}{sz:Nat}{X':L AV}{cap:Nat}{cs cs':Array Value}{n:Int}(J:args.length<=1000000)(hc:aU S V.g (both args [.list .own sz X]) (a8 V vs) w F)
 (C:V.v 1000000=.slice (some ⟨b,0,none⟩) X.length cap)(x:row? w b=some (cs,(0,0)))(A:F 1000000=[b])(l:X.length<=cap/\cap<=maxLen)(q:cs'.size=cap*sz)(f:X'.length=X.length)
 (B:du (w.setRow b cs') S sz X' (cs'.toList.take<|X.length*sz) []):
 ∃S' F',sS V w w (w.setRow b cs')/\(∀b,S b->S' b)/\(∀b,S' b->S b\/cK V w b)/\aU S' (cK V w) (both [.v<|.int .i64 n] [.list .own sz X']) (a8 V [.int .i64 n]) (w.setRow b cs') F':=by
 have a:=hc.own 1000000 b (by rw[A];simp);have p:(w.setRow b cs').heap.size=w.heap.size:=I;refine⟨S,λi=>if i=1000000 then[b]else[],⟨W,W,W,E,λk D H=>setRow_other b cs' λe=>fP⟩,λ_ h=>h,λ_ h=>.inl h,
  ⟨λi=>?_,λi=>?_,λi j y c m=>?_,λi c m=>?_,λc h=>by rw[p];exact hc.shr c h⟩⟩
 rw[an.aC<|by rw[jW];split;rfl;split<;>rfl,jW];by_cases u:i=0;subst u;exact lO;by_cases r:i=1000000;subst r;have z:a8 V [.int .i64 n] 1000000=.slice (some ⟨b,0,none⟩) X'.length cap:=by unfold a8;simp_all
 rw[z];exact .inr ⟨b,cap,cs',[],W,Og cs' x,by rw[f];exact l.1,l.2,q,by rw[f];exact B,W⟩;simp[u,r,Rel];split<;>simp
 grind
 split at m;simp at m;subst m;exact⟨.inr a.1,E,a.2.2⟩;cases m
def Q7{sz off cap:Nat}{cs:Array Value}{us:L Value}(j:du w' S sz X (cs.toList.take<|X.length*sz) [])(hY:du w' S sz (Y.take n) us [])(hn:(Y.take n).length=n)(c:off+n<=X.length)(f:cs.size=cap*sz)(a:X.length<=cap):
 du w' S sz (X.take off++Y.take n++X.drop (off+n)) ((cs.toList.take (off*sz)++us++cs.toList.drop (off*sz+n*sz)).take<|X.length*sz) []:=by
 have p:us.length=n*sz:=by have:=du.length sz hY;simp_all
 have hc:cs.toList.length=cap*sz:=f;have m1:X.length*sz<=cap*sz:=acM _ a;have m:(off+n)*sz<=X.length*sz:=acM _ c;have k:off*sz+n*sz=(off+n)*sz:=(adD _ _ _).symm;have h:=du.sub sz 0 off j E;have g:=du.sub sz (off+n) (X.length-(off+n)) j E;simp at h;rw[List.take_take,Nat.min_eq_left E]at h;rw[acD (l:=X.drop<|off+n) I]at g;have q:((cs.toList.take<|X.length*sz).drop<|(off+n)*sz).take ((X.length-(off+n))*sz)=(cs.toList.drop<|(off+n)*sz).take ((X.length-(off+n))*sz):=by
  rw[List.drop_take,List.take_take,Nat.min_eq_left]
  grind
 rw[q]at g;have e:(cs.toList.take (off*sz)++us++cs.toList.drop (off*sz+n*sz)).take (X.length*sz)=cs.toList.take (off*sz)++us++(cs.toList.drop<|(off+n)*sz).take ((X.length-(off+n))*sz):=by
  have hl:(cs.toList.take (off*sz)++us).length=(off+n)*sz:=by grind
  rw[List.take_append,acD<|by rw[hl];exact m,hl,k,Nat.sub_mul]
 rw[e];have:=(h.append sz hY).append sz g;simpa using this
def Mg{args:L AV}{sz:Nat}(l:args.length<=1000000)(hc:aU S V.g (both args [.list .own sz X]) (a8 V vs) w F)(x:X≠[])(a:bR X=true):
 ∃b cap cs,V.v 1000000=.slice (some ⟨b,0,none⟩) X.length cap/\row? w b=some (cs,(0,0))/\F 1000000=[b]/\X.length<=cap/\cap<=maxLen/\cs.size=cap*sz/\du w S sz X (cs.toList.take<|X.length*sz) []/\¬S b:=by
 have e:=hc.rel 1000000;have f:=ew (args:=args) (H:=[.list .own sz X]) l 0;rw[an.aC<|by rw[f];rfl,f]at e;rcases e with⟨h,-⟩|⟨b,cap,cs,y,u,r,q,p,m,k,j⟩;simp_all;have c:=du.aK sz k a;subst c;exact⟨b,cap,cs,u,r,j,q,p,m,k,(hc.own 1000000 b<|by rw[j];simp).2.2⟩
def HP{ρ:Operand->Value}(c:o.op=.call ⟨.builtin .copy,#[d,s],ts⟩)(a:o.op.operands.toList.map ρ=vs){v:Value}(h:∀x y,vs=[x,y]->(Builtin.copy_ ts o.type #[x,y]).run P w=.ok v w'):
 (execOp ρ o).run P w=.ok (.value v) w':=by
 have:=h (ρ d) (ρ s) (by rw[<-a,c];rfl);simp[execOp,c,Go.resolve,invoke,builtin,this]
def PY{args:L AV}{sz cap f m:Nat}(hi:i<1000000)(hc:aU S V.g (both args [.list .own sz X]) (a8 V vs) w F)(p:V.v 1000000=.slice (some ⟨b,0,none⟩) n cap)
 (q:args[i]?=some (.bw 1000000 0 0 [.nF sz f m]))(k:args.length<=1000000)(r:0<m/\f+m<=X.length):vs.getD i undef=.slice (some ⟨b,f*sz,none⟩) m (cap-f):=by
 have j:a8 V vs 1000000=V.v 1000000:=fQ;have hs:=hc.rel i;have l:=fe (args:=args) (H:=[.list .own sz X]) hi;rw[q]at l;unfold an at hs;rw[l]at hs;obtain⟨-,-,-,h⟩:=hs;obtain⟨a,k1,k2,-⟩:=h (PH _).1 (.inr (PH _).2) λ_=>by have c:=ew (args:=args) (H:=[.list .own sz X]) k 0;simp at c;rw[c];simp only[bH];simp_all
 rw[j,p]at k1;simp[loc,step1,Go.Ai.cF]at k1;subst k1;have e:a8 V vs i=vs.getD i undef:=by unfold a8;rw[aas hi]
 rw[e]at k2;rw[k2,Addr.add_lit];simp
def mj{args:L AV}{x:AV}(hi:i<1000000)(hc:aU S V.g (both args [x]) (a8 V vs) w F)
 (j:args[i]?=some (.bw 1000000 0 0 [])):vs.getD i undef=V.v 1000000:=by
 have c:a8 V vs 1000000=V.v 1000000:=fQ;have hs:=hc.rel i;have f:=fe (args:=args) (H:=[x]) hi;rw[j]at f;unfold an at hs;rw[f]at hs;obtain⟨-,-,-,h⟩:=hs;obtain⟨a,k1,k2,-⟩:=h (PH _).1 (.inl W) λh=>by simp[lu]at h
 simp[loc]at k1;subst k1;have e:a8 V vs i=vs.getD i undef:=by unfold a8;rw[aas hi]
 rw[e]at k2;rw[k2,c]
def Rm{off:Nat}{cs:Array Value}{a:Nat×Nat}(c:row? w b=some (cs,a)){us:L Value}(h:∀j v,us[j]?=some v->cs.toList[off+j]?=some v)(j:Nat)(v:Value)(f:us[j]?=some v):w.cell? ((⟨b,off,none⟩:Addr).add j)=some v:=by
 have hh:∃e,w.heap[b]?=some (.cells cs e a):=by
  unfold row? at c
  grind
 obtain⟨e,he⟩:=hh;rw[Addr.add_lit];simp[World.cell?,he];simp_all
def H9{e:TypeId}{ti:TI}(Z:o.op=.call ⟨.builtin .copy,#[d,s],ts⟩)(T:ts[0]?=some t)(hu:P.underlying t=some (.slice e))(H:ct P e=some ti){sz:Nat}(k:sz=ti.size)
 (hX:X≠[])(K:bR X=true)(M:X.all (fits ti)=true){off m1 m2:Nat}(hn:Nat.min m2 m1=n)(h1:off+m1<=X.length)(h2:m2<=X.length)(g1:0<m1)(g2:0<m2):
   Xy P o [.list .own sz X] [.bw 1000000 0 0 [.nF sz off m1],.bw 1000000 0 0 [.nF sz 0 m2]] [.list .own sz<|X.take off++X.take n++X.drop (off+n)] (.v<|.int .i64 n):=by
  intro w S V vs F hl hc ρ A;obtain⟨b,f,l,B,J,hF,g,p,r,O,N⟩:=Mg I hc hX K;have A0:n<=m1/\n<=m2:=by grind
  obtain⟨x,y,rfl⟩:∃x y,vs=[x,y]:=by
   match vs,hl with
   |[x,y],_=>exact⟨x,y,W⟩
  have hx:x=.slice (some ⟨b,off*sz,none⟩) m1 (f-off):=PY (i:=0) E hc B W I ⟨g1,h1⟩;have hy:y=.slice (some ⟨b,0*sz,none⟩) m2 (f-0):=PY (i:=1) E hc B W I ⟨g2,E⟩;have B0:l.toList.length=f*sz:=by simpa using r
  have q2:(off+n)*sz<=f*sz:=acM _ E;have q3:(off+n)*sz=off*sz+n*sz:=adD _ _ _;have q4:n*sz<=X.length*sz:=acM _ E;obtain⟨us,R⟩:∃us,us=l.toList.take (n*sz):=⟨_,W⟩;have C:us.length=n*sz:=by grind
  have z:du w S sz (X.take n) us []:=by
   have:=du.sub sz 0 n O E
   grind
  have m:=KX (P:=P) (w:=w) (ty:=o.type) T hu H (m1:=m1) (c1:=f-off) (n2:=m2) (c2:=f-0) (a:=⟨b,0*sz,none⟩) (off:=off*sz) (us:=us) J hn (by rw[<-k];exact C) (by
   refine Rm J λj v hj=>?_
   grind) (by
   intro u D;refine du.one sz k z ?_ u D
   grind) fP
  rw[<-k]at m;refine⟨_,.int .i64 n,_,HP Z A λx' y' e=>?_,.inl W,copied I hc B J hF ⟨g,p⟩ (cs':=(l.toList.take (off*sz)++us++l.toList.drop (off*sz+n*sz)).toArray) ?_ ?_ ?_⟩;simp_all
  grind
  grind
  have q:∀c,S c\/c∈([]:L Nat)->(w.setRow b (l.toList.take (off*sz)++us++l.toList.drop (off*sz+n*sz)).toArray).heap[c]?=w.heap[c]?:=by rintro c(h|h);exact setRow_other b _ λe=>N (e▸h);cases h
  exact Q7 (du.frame sz _ O q) (du.frame sz _ z q) (by simp;omega) E r g
def Re{e:TypeId}{ti:TI}(ho:o.op=.call ⟨.builtin .copy,#[d,s],ts⟩)(ht:ts[0]?=some t)(hu:P.underlying t=some (.slice e))(O:ct P e=some ti){sz:Nat}(p:sz=ti.size)
 (hX:X≠[])(R:bR X=true)(hY:Y≠[])(T:Y.all (fits ti)=true)(hn:Nat.min Y.length X.length=n):
   Xy P o [.list .own sz X] [.bw 1000000 0 0 [],.list .shr sz Y] [.list .own sz<|Y.take n++X.drop n] (.v<|.int .i64 n):=by
  intro w S V vs F hl hc ρ J;obtain⟨b,g,f,hv,hr,hF,m,A,C,hE,Z⟩:=Mg I hc hX R;have E1:n<=Y.length/\n<=X.length:=by grind
  obtain⟨x,y,rfl⟩:∃x y,vs=[x,y]:=by
   match vs,hl with
   |[x,y],_=>exact⟨x,y,W⟩
  have hx:x=.slice (some ⟨b,0,none⟩) X.length g:=(mj (i:=0) E hc W).trans hv;have q:=hc.rel 1;have r:=fe (args:=[.bw 1000000 0 0 [],.list .shr sz Y]) (H:=[.list .own sz X]) (i:=1) E;simp[List.getElem?_cons_succ,ahb]at r;rw[an.aC<|by rw[r];rfl,r]at q;have K:a8 V [x,y] 1=y:=W;rw[K]at q;rcases q with⟨h,-⟩|⟨b2,k,D,A0,F0,h3,h4,h5,h6,h7,h8⟩;exact aaF h hY;have E2:f.toList.length=g*sz:=by simpa using C
  have q1:n*sz<=g*sz:=acM _ E;have q4:n*sz<=Y.length*sz:=acM _ E;obtain⟨us,B0⟩:∃us,us=(A0.toList.drop k).take (n*sz):=⟨_,W⟩;have z:du w S sz (Y.take n) us []:=by
   have:=du.sub sz 0 n h7 E
   grind
  have M:us.length=n*sz:=by have:=du.length sz z;simp_all
  have l:=KX (P:=P) (w:=w) (ty:=o.type) ht hu O (m1:=X.length) (c1:=g) (n2:=Y.length) (c2:=D) (a:=⟨b2,k,none⟩) (off:=0) (us:=us) hr hn (by rw[<-p];exact M) (by
   refine Rm h5 λj v hj=>?_
   grind) (by
   intro u N;refine du.one sz p z ?_ u N
   grind) fP
  rw[<-p]at l;have e0:Y.take n++X.drop n=X.take 0++Y.take n++X.drop (0+n):=I;have e1:f.toList.take 0++us++f.toList.drop (0+n*sz)=f.toList.take (0*sz)++us++f.toList.drop (0*sz+n*sz):=I;rw[e1]at l;refine⟨_,.int .i64 n,_,HP ho J λx' y' e=>?_,.inl W,copied I hc hv hr hF ⟨m,A⟩ (cs':=(f.toList.take (0*sz)++us++f.toList.drop (0*sz+n*sz)).toArray) ?_ ?_ ?_⟩;simp_all;simp_all;simp_all;have B:∀c,S c\/c∈([]:L Nat)->(w.setRow b (f.toList.take (0*sz)++us++f.toList.drop (0*sz+n*sz)).toArray).heap[c]?=w.heap[c]?:=by rintro c(h|h);exact setRow_other b _ λe=>Z (e▸h);cases h
  rw[e0];exact Q7 (du.frame sz _ hE B) (du.frame sz _ z B) (by simp;omega) E C m
end
end
def oN{a:Machine->Prop}{P:Program}{m s t:Machine}(h:StepsIn a P m t)(hs:step P m=.next s)(b:m≠t):StepsIn a P s t:=by
 cases h with
 |refl=>simp_all
 |head c e d=>simp_all
def wO{id:Nat}:∀{k a:L Item},exitTo id k=some a->a.length<=k.length
 |[],a,h=>by simp[exitTo]at h
 |x::k,a,h=>by
  cases x with
  |inBlock b=>simp[exitTo]at h;split at h;cases h;simp;have:=wO h;simp;omega
  |_=>simp[exitTo]at h;have:=wO h;simp;omega
def aa9:Exit->Bool
 |.normal|.exit _|.ret=>true
 |_=>false
def adz(Q:Exit->St->Prop)(K:St->Prop):Exit->St->Prop
 |.normal,σ=>K σ
 |e,σ=>Q e σ
section
variable{R:Q Nat->Prop}{P:Program}{N:Nat}{F:St->Prop}{k:L It}{l:a7}{σ:St}
def TF{c:Code}{Q:Exit->St->Prop}(Z:∀e σ,Q e σ->aa9 e=true)(h:AW R P N c (adz Q λT=>AW R P N (.loop c) Q T) σ):AW R P N (.loop c) Q σ:=by
 intro V Y S0 a w X hi b k q C S O;obtain⟨e,j,i,⟨f,v,g⟩,m⟩:=h V Y S0 a w X hi b (.inLoop c::k) q C S O;have first:∀{e M z},ArrivesIn (Machine.fenced P<|FW V.rd) P (lone (b.atR a<|.code c::.inLoop c::k) q w) b k q e M z->ArrivesIn (Machine.fenced P<|FW V.rd) P (lone (b.atR a<|.code (.loop c)::k) q w) b k q e M z:=λh=>.of_steps (.one (fenced_calm S O W) stepR_loop) h
 cases e with
 |normal=>
  obtain⟨s,K,y,⟨t,p,u⟩,d⟩:=AW.x (v:AW R P N (.loop c) Q f) X g b k q C S O;refine⟨s,K,y,⟨t,p,u⟩,first<|.of_steps m<|.of_steps (.one (fenced_calm S O W) stepR_inLoop) ?_⟩;have o:step P (lone (b.atR j<|.code (.loop c)::k) q i)=.next (lone (b.atR j<|.code c::.inLoop c::k) q i):=stepR_loop;have r:∀{B:L Item}{M:Act}{z:World},lone (b.atR j<|.code (.loop c)::k) q i=lone (b.atR M B) q z->.code (.loop c)::k=B:=by intro B M z hh;simp[lone,Frame.atR,Frame.mk.injEq]at hh;simp_all
  have tm:=Z _ _ p;cases s with
  |normal=>refine oN d o λhh=>?_;have:=aaf List.length<|r hh;simp at this
  |exit id=>
   refine⟨λB D=>oN (d.1 B D) o λhh=>?_,λJ h2=>?_⟩;have e1:=aaf List.length<|r hh;have e2:=wO D;simp at e1;omega;obtain⟨n,h3,H⟩:=d.2 J h2;refine⟨n,h3,oN H o λhh=>?_⟩
   grind
  |ret=>
   refine⟨λJ=>?_,λJ=>?_⟩;obtain⟨A,H⟩:=d.1 J;refine⟨A,oN H o λhh=>?_⟩;simp[lone,Frame.atR]at hh;obtain⟨n,H⟩:=d.2 J;refine⟨n,oN H o λhh=>?_⟩
   grind
  |_=>simp[aa9]at tm
 |exit id=>exact⟨_,j,i,⟨f,v,g⟩,first<|.pass (x:=.inLoop c) W (λ_ _=>.inl I) m⟩
 |goto l=>exact⟨_,j,i,⟨f,v,g⟩,first<|.pass (x:=.inLoop c) W (λ_ _=>.inl I) m⟩
 |ret=>exact⟨_,j,i,⟨f,v,g⟩,first<|.pass (x:=.inLoop c) W (λ_ _=>.inl I) m⟩
 |panic ch=>exact⟨_,j,i,⟨f,v,g⟩,first<|.pass (x:=.inLoop c) W (λ_ _=>.inl I) m⟩
 |outgrown=>exact⟨_,j,i,⟨f,v,g⟩,first<|.pass (x:=.inLoop c) W (λ_ _=>.inl I) m⟩
def mz:∀{k:L It}{e:Exit}{σ:St},gK R P N F k e σ->aa9 e=true
 |[],e,σ,h=>by cases e<;>first|rfl|exact h.elim
 |.code c::k,e,σ,h=>by cases e<;>first|rfl|exact mz (k:=k) h
 |.fu id::k,e,σ,h=>by cases e<;>first|rfl|exact mz (k:=k) h
 |.scp::k,e,σ,h=>by cases e<;>first|rfl|exact h.elim|exact mz (k:=k) h
 |.ops all b::k,e,σ,h=>by cases e<;>first|rfl|exact mz (k:=k) h
 |.nu all f b d::k,e,σ,h=>by cases e<;>first|rfl|exact mz (k:=k) h
 |.inv a::k,e,σ,h=>by cases e<;>first|rfl|exact mz (k:=k) h
def iM{c:Code}(h:AK R P N F (.code c::.code (.loop c)::k) l):AK R P N F (.code (.loop c)::k) l:=by refine TF (λe σ h=>mz h)<|jY (h:AW R P N c (gK R P N F<|.code (.loop c)::k) (dn l)) λe a h=>?_;cases e<;>exact h
end
def J0:L Pd->Bool
 |[]=>true
 |⟨_,b,_⟩::l=>match b with
  |true=>J0 l
  |false=>false
def aZ:∀{l:L Pd},J0 l=true->aj l
 |[],_=>trivial
 |⟨p,b,h⟩::l,hc=>by
  cases b with
  |true=>exact⟨h W,aZ hc⟩
  |false=>cases hc
def qA{α:Type _}(n:Nat)(k:Nat->α):α:=match n with
 |0=>k 0
 |m+1=>k<|Nat.succ m
def sG{α:Type _}(n:Nat)(k:Nat->α):qA n k=k n:=by cases n<;>rfl
def Wf{α:Type _}(a:Int)(k:Int->α):α:=match a with
 |.ofNat n=>qA n λn=>k (.ofNat n)
 |.negSucc n=>qA n λn=>k<|.negSucc n
def JF{α:Type _}(a:Int)(k:Int->α):Wf a k=k a:=by cases a<;>simp[Wf,sG]
def F8{α:Type _}(b:Bool)(k:Bool->α):α:=match b with
 |true=>k true
 |false=>k false
def og{α:Type _}(b:Bool)(k:Bool->α):F8 b k=k b:=by cases b<;>rfl
def Mw{α:Type _}:L Int->(L Int->α)->α
 |[],k=>k []
 |x::xs,k=>Wf x λx=>Mw xs λxs=>k<|x::xs
def Ei{α:Type _}:∀(l:L Int)(k:L Int->α),Mw l k=k l
 |[],k=>rfl
 |x::xs,k=>by simp[Mw,JF,Ei xs]
def Wi{α:Type _}:cq->(cq->α)->α
 |[],k=>k []
 |x::xs,k=>qA x.toNat λn=>Wi xs λxs=>k<|UInt8.ofNat n::xs
def JG{α:Type _}:∀(l:cq)(k:cq->α),Wi l k=k l
 |[],k=>rfl
 |x::xs,k=>by simp[Wi,sG,JG xs]
def QR{α:Type _}:L cq->(L cq->α)->α
 |[],k=>k []
 |x::xs,k=>Wi x λx=>QR xs λxs=>k<|x::xs
def Mz{α:Type _}:∀(l:L cq)(k:L cq->α),QR l k=k l
 |[],k=>rfl
 |x::xs,k=>by simp[QR,JG,Mz xs]
def QT{α:Type _}:L Bool->(L Bool->α)->α
 |[],k=>k []
 |x::xs,k=>F8 x λx=>QT xs λxs=>k<|x::xs
def MA{α:Type _}:∀(l:L Bool)(k:L Bool->α),QT l k=k l
 |[],k=>rfl
 |x::xs,k=>by simp[QT,og,MA xs]
def JE{α:Type _}:Path->(Path->α)->α
 |[],k=>k []
 |x::xs,k=>match x with
  |.idx i sz=>qA i λi=>qA sz λsz=>JE xs λxs=>k (.idx i sz::xs)
  |.at o n=>JE xs λxs=>k (.at o n::xs)
  |.deref=>JE xs λxs=>k (.deref::xs)
  |.bU i=>JE xs λxs=>k (.bU i::xs)
  |.nF a b c=>qA a λa=>qA b λb=>qA c λc=>JE xs λxs=>k<|.nF a b c::xs
def JD{α:Type _}:∀(l:Path)(k:Path->α),JE l k=k l
 |[],k=>rfl
 |x::xs,k=>by cases x<;>simp[JE,sG,JD xs]
def Wh{α:Type _}{a:Type}(g:a->(SV->α)->α):L a->(L SV->α)->α
 |[],f=>f []
 |x::xs,f=>g x λx=>Wh g xs λxs=>f<|x::xs
mutual
def oe{α:Type _}:SV->(SV->α)->α
 |.n k a,f=>Wf a λa=>f (.n k a)
 |.b x,f=>F8 x λx=>f (.b x)
 |.u x,f=>F8 x λx=>f (.b x)
 |.s x,f=>Wi x λx=>f (.s x)
 |.c x,f=>f (.c x)
 |.nil,f=>f .nil
 |.ints k o xs,f=>F8 o λo=>Mw xs λxs=>f (.ints k o xs)
 |.eI k xs,f=>match xs with
  |[]=>f .nil
  |x::xs=>Wf x λx=>Mw xs λxs=>f (.ints k false<|x::xs)
 |.strs o xs,f=>F8 o λo=>QR xs λxs=>f (.strs o xs)
 |.cR o xs,f=>F8 o λo=>QT xs λxs=>f (.cR o xs)
 |.bc o sz _ e xs,f=>F8 o λo=>Wh (λx=>oe<|e x) xs λxs=>f (.row o sz xs)
 |.row o sz xs,f=>F8 o λo=>F7 xs λxs=>f (.row o sz xs)
 |.agg xs,f=>F7 xs λxs=>f (.agg xs)
 |.bU xs,f=>F7 xs λxs=>f (.bU xs)
 |.box o x,f=>F8 o λo=>oe x λx=>f (.box o x)
 |.fn g a c,f=>F7 a λa=>F7 c λc=>f (.fn g a c)
 |.bw r a b p,f=>qA a λa=>qA b λb=>JE p λp=>f (.bw r a b p)
 |.ptr r a b p,f=>qA a λa=>qA b λb=>JE p λp=>f (.ptr r a b p)
 |.hole,f=>f .hole
 |.dead,f=>f .dead
 |.pv C,f=>f (.pv C)
 |.abs J,f=>f (.abs J)
 |.gI g d,f=>f (.gI g d)
 |.ob J,f=>f<|.ob J
def F7{α:Type _}:List SV->(List SV->α)->α
 |[],f=>f []
 |x::xs,f=>oe x λx=>F7 xs λxs=>f<|x::xs
end
def HM{α:Type _}{a:Type}{g:a->(SV->α)->α}{e:a->SV}(h:∀x k,∃y,y.den=(e x).den/\g x k=k y):∀(l:L a)(k:L SV->α),∃ys,aB ys=aB (l.map e)/\Wh g l k=k ys
 |[],k=>⟨[],W,W⟩
 |x::xs,k=>by obtain⟨y,f,d⟩:=h x λy=>Wh g xs λxs=>k<|y::xs;obtain⟨ys,c,b⟩:=HM h xs λxs=>k<|y::xs;exact⟨y::ys,by simp[aB,f,c],by simp[Wh,d,b]⟩
mutual
theorem u9{α:Type _}:∀(x:SV)(k:SV->α),∃y,y.den=x.den/\oe x k=k y
 |.n k a,f=>⟨.n k a,W,by simp[oe,JF]⟩
 |.b x,f=>⟨.b x,W,by simp[oe,og]⟩
 |.u x,f=>⟨.b x,W,by simp[oe,og]⟩
 |.s x,f=>⟨.s x,W,by simp[oe,JG]⟩
 |.c x,f=>⟨.c x,W,W⟩
 |.nil,f=>⟨.nil,W,W⟩
 |.ints k o xs,f=>⟨.ints k o xs,W,by simp[oe,og,Ei]⟩
 |.eI k xs,f=>by
  cases xs with
  |nil=>exact⟨.nil,W,W⟩
  |cons x xs=>exact⟨.ints k false<|x::xs,W,by simp[oe,JF,Ei]⟩
 |.strs o xs,f=>⟨.strs o xs,W,by simp[oe,og,Mz]⟩
 |.cR o xs,f=>⟨.cR o xs,W,by simp[oe,og,MA]⟩
 |.bc o sz _ e xs,f=>by obtain⟨ys,h,d⟩:=HM (g:=λx=>oe<|e x) (λx k=>u9 (e x) k) xs λxs=>f<|.row o sz xs;exact⟨.row o sz ys,by simp only[SV.den,h,cJ,aer];rfl,by simp[oe,og,d]⟩
 |.row o sz xs,f=>by obtain⟨ys,h,d⟩:=oB xs λxs=>f<|.row o sz xs;exact⟨.row o sz ys,by simp[SV.den,h],by simp[oe,og,d]⟩
 |.agg xs,f=>by obtain⟨ys,h,d⟩:=oB xs λxs=>f<|.agg xs;exact⟨.agg ys,by simp[SV.den,h],by simp[oe,d]⟩
 |.bU xs,f=>by obtain⟨ys,h,d⟩:=oB xs λxs=>f<|.bU xs;exact⟨.bU ys,by simp[SV.den,h],by simp[oe,d]⟩
 |.box o x,f=>by obtain⟨y,h,d⟩:=u9 x λx=>f<|.box o x;exact⟨.box o y,by simp[SV.den,h],by simp[oe,og,d]⟩
 |.fn g a c,f=>by obtain⟨ys,h,d⟩:=oB a λa=>F7 c λc=>f<|.fn g a c;obtain⟨m,l,j⟩:=oB c λc=>f<|.fn g ys c;exact⟨.fn g ys m,by simp[SV.den,h,l],by simp[oe,d,j]⟩
 |.bw r a b p,f=>⟨.bw r a b p,W,by simp[oe,sG,JD]⟩
 |.ptr r a b p,f=>⟨.ptr r a b p,W,by simp[oe,sG,JD]⟩
 |.hole,f=>⟨.hole,W,W⟩
 |.dead,f=>⟨.dead,W,W⟩
 |.pv C,f=>⟨.pv C,W,W⟩
 |.abs J,f=>⟨.abs J,W,W⟩
 |.gI g i,f=>⟨.gI g i,W,W⟩
 |.ob J,f=>⟨.ob J,W,W⟩
theorem oB{α:Type _}:∀(x:List SV)(k:List SV->α),∃y,aB y=aB x/\F7 x k=k y
 |[],k=>⟨[],W,W⟩
 |x::xs,k=>by obtain⟨y,h,d⟩:=u9 x λy=>F7 xs λxs=>k<|y::xs;obtain⟨ys,l,j⟩:=oB xs λxs=>k<|y::xs;exact⟨y::ys,by simp[aB,h,l],by simp[F7,d,j]⟩
end
def To{α:Type _}(d:Nat):a7->(a7->α)->α
 |[],k=>k []
 |(e,x)::l,k=>match Nat.beq d e with
  |true=>k l
  |false=>To d l λa=>k<|(e,x)::a
def H0{α:Type _}(d:Nat):∀(l:a7)(k:a7->α),∃a,(∀i,i≠d->gt a i=gt l i)/\To d l k=k a
 |[],k=>⟨[],λ_ _=>rfl,W⟩
 |(e,x)::l,k=>by
  cases b:Nat.beq d e with
  |true=>
   have:=ac2 b;subst this;refine⟨l,λi hi=>?_,by simp[To]⟩;have:Nat.beq i d=false:=by
    cases b:Nat.beq i d with
    |false=>rfl
    |true=>simp_all
   simp[gt,this]
  |false=>
   obtain⟨a,f,c⟩:=H0 d l λa=>k<|(e,x)::a;refine⟨(e,x)::a,λi hi=>?_,by simp[To,b,c]⟩;simp[gt];cases Nat.beq i e with
   |true=>rfl
   |false=>exact f i hi
def Wg{α:Type _}:Nat->a7->(a7->α)->α
 |0,l,k=>k l
 |n+1,l,k=>match l with
  |[]=>k []
  |(d,x)::l=>match x with
   |⟨v,a,b⟩=>Wg n l λl=>To d l λl=>oe v λv=>qA a λa=>qA b λb=>k<|(d,⟨v,a,b⟩)::l
def Ah{α:Type _}:∀(n:Nat)(l:a7)(k:a7->α),∃e,dn e=dn l/\Wg n l k=k e
 |0,l,k=>⟨l,W,W⟩
 |n+1,[],k=>⟨[],W,W⟩
 |n+1,(d,⟨v,a,b⟩)::l,k=>by
  obtain⟨f,p,o⟩:=Ah n l λl=>To d l λl=>oe v λv=>qA a λa=>qA b λb=>k<|(d,⟨v,a,b⟩)::l;obtain⟨c,m,j⟩:=H0 d f λl=>oe v λv=>qA a λa=>qA b λb=>k<|(d,⟨v,a,b⟩)::l;obtain⟨y,h,g⟩:=u9 v λv=>qA a λa=>qA b λb=>k<|(d,⟨v,a,b⟩)::c;refine⟨(d,⟨y,a,b⟩)::c,?_,by show Wg n l _=_;rw[o,j,g,sG,sG]⟩;rw[fb,fb,<-p]
  funext i
  unfold iy;by_cases hi:i=d;simp[hi,Cl.den,h];simp[hi,dn,m i hi]
abbrev rF:=FuncId->L SV->Q SV
structure FnI where
 nt:Nat
 body:Code
 rs:List ResultVar
def Zp(P:Program)(g:FuncId):Q FnI:=match nth P.funcs.toList g with
 |some fn=>match fn.body with
  |some c=>some ⟨fn.ntmps,c,fn.results.toList⟩
  |none=>none
 |none=>none
def Ls(fn:Func):Bool:=dt (not'<|fn.name== "runtime.NumGoroutine")<|fh fn.results.toList []
abbrev Ex:=Nat->L It->a7->L It×a7
def X5(ex:Ex)(P:Program)(tt:TT)(T:rF)(g:FuncId)(asx:L SV):Q SV:=
 match T g asx with
 |some r=>some r
 |none=>match Zp P g with
  |some ⟨nt,c,rs⟩=>match Nat.ble (len asx) nt with
   |true=>match ex nt [.code c] (Cn 0 asx)with
    |(k,l)=>match k with
     |[]=>match jl tt l rs with
      |some a=>some (xB a)
      |none=>none
     |_::_=>none
   |false=>none
  |none=>none
def Nt(l:a7):Nat->Nat->Q (L SV)
 |_,0=>some []
 |k,n+1=>match gt l k with
  |⟨v,_,_⟩=>match v.plain with
   |true=>match Nt l (k+1) n with
    |some a=>some (v::a)
    |none=>none
   |false=>none
def US(ex:Ex)(P:Program)(tt:TT)(g:FuncId)(asx H:L SV):Q (L SV×SV):=
 match Zp P g with
 |some ⟨nt,c,rs⟩=>match dt (Nat.ble (len asx) nt) (Nat.ble nt 1000000)with
  |true=>match ex nt [.code c] (Wu asx H)with
   |(k,l)=>match k with
    |[]=>match jl tt l rs,Nt l 1000000 (len H)with
     |some b,some a=>some (a,xB b)
     |_,_=>none
    |_::_=>none
  |false=>none
 |none=>none
def ac9(ex:Ex)(P:Program)(tt:TT)(T:rF)(B:L Nat)(l:a7)(b:Q Nat)(f:Operand)(asx:L Operand):Q (a7×L Nat):=
 match pX l f asx with
 |some (ob,⟨g,c,sh⟩)=>match dt (not'<|Jk g B) (J0 ob)with
  |true=>match X5 ex P tt T g c with
   |some r=>match kr l b r sh with
    |some (a,d,e)=>match J0 a with
     |true=>some (d,e)
     |false=>none
    |none=>none
   |none=>none
  |false=>none
 |none=>none
def Yt(ex:Ex)(P:Program)(tt:TT)(l:a7)(a:Q Nat):mJ->Q (a7×L Nat)
 |⟨g,xs,R⟩=>match US ex P tt g xs (mo R)with
  |some (out,r)=>ja l a R out r
  |none=>none
def aaI(ex:Ex)(P:Program)(tt:TT)(T:rF)(B:L Nat)(l:a7)(a:Q Nat)(f:Operand)(asx:L Operand):Q (a7×L Nat):=
 match ac9 ex P tt T B l a f asx with
 |some y=>some y
 |none=>match um l f asx with
  |some (ob,h)=>match J0 ob with
   |true=>Yt ex P tt l a h
   |false=>none
  |none=>match Ec l f asx with
   |some h=>Yt ex P tt l a h
   |none=>none
def KI(tt:TT)(a:L Nat)(all:L Oper)(l:a7)(o:Oper):Q (a7×L Nat):=
 match KH tt a all l o with
 |some (ob,b,c)=>match J0 ob with
  |true=>some (b,c)
  |false=>none
 |none=>none
def IF(ex:Ex)(P:Program)(tt:TT)(T:rF)(B:L Nat)(all:L Oper)(l:a7)(o:Oper):Q (a7×L Nat):=
 match o with
 |⟨a,op,e,pos,c,g⟩=>match cN l all g with
  |some true=>match op with
   |.call ⟨.value f,asx,_⟩=>aaI ex P tt T B l a f asx.toList
   |.makeFunc (.func h) first b=>match a with
    |some d=>Vu l d h first.toList b.toList
    |none=>none
   |op=>match a with
    |some d=>KI tt [d] all l ⟨some d,op,e,pos,c,g⟩
    |none=>none
  |_=>none
def Zx(ex:Ex)(P:Program)(tt:TT)(T:rF)(B:L Nat)(all:L Oper)(l:a7)(o:Oper):Q (a7×L Nat):=
 match KI tt [] all l o with
 |some (a,b)=>Wg (len b) a λa=>some (a,b)
 |none=>match IF ex P tt T B all l o with
  |some (a,b)=>Wg (len b) a λa=>some (a,b)
  |none=>none
def unr:Code->Q Code
 |.loop c=>some c
 |_=>none
def exec(P:Program)(tt:TT)(T:rF)(B:L Nat):Nat->Ex
 |0,_,k,l=>(k,l)
 |n+1,N,k,l=>match k with
  |[]=>([],l)
  |i::k0=>match i with
   |.ops all (o::rest)=>match Zx (exec P tt T B n) P tt T B all.toList l o with
    |some (b,_)=>exec P tt T B n N (.ops all rest::k0) b
    |none=>(.ops all (o::rest)::k0,l)
   |.nu all d (o::rest) a=>match Zx (exec P tt T B n) P tt T B all.toList l o with
    |some (b,f)=>exec P tt T B n N (.nu all d rest ((iP (dn l) all o,f)::a)::k0) b
    |none=>(.nu all d (o::rest) a::k0,l)
   |.nu all d [] a=>match apart d a.reverse all.size with
    |true=>exec P tt T B n N k0 l
    |false=>(.nu all d [] a::k0,l)
   |.code c=>match unr c with
    |some g=>exec P tt T B n N (.code g::.code c::k0) l
    |none=>match GP tt [] N (.code c::k0) l with
     |some (ob,e,b)=>match J0 ob with
      |true=>exec P tt T B n N e b
      |false=>(.code c::k0,l)
     |none=>(.code c::k0,l)
   |i=>match GP tt [] N (i::k0) l with
    |some (ob,e,b)=>match J0 ob with
     |true=>exec P tt T B n N e b
     |false=>(i::k0,l)
    |none=>(i::k0,l)
section
variable{P:Program}{tt:TT}{T:rF}{B:L Nat}
def HO(hW:P.funcs.toList.all Ls=true){g:FuncId}{nt:Nat}{c:Code}{rs:L ResultVar}(h:Zp P g=some ⟨nt,c,rs⟩):
 ∃fn,P.funcs[g]?=some fn/\fn.body=some c/\fn.ntmps=nt/\fn.results.toList=rs/\(fn.name== "runtime.NumGoroutine")=false/\fh fn.results.toList []=true:=by
 unfold Zp at h;split at h<;>try(cases h)
 rename_i fn b;split at h<;>try(cases h;done)
 rename_i e hc;obtain⟨rfl,rfl,rfl⟩:=h;rw[nJ]at b;have a:=aha b;have d:=acZ.1 hW fn a;simp only[Ls,aW,not_iff]at d;simp_all
def ExS(P:Program)(ex:Ex):Prop:=∀(N:Nat)(R:Q Nat->Prop)(F:St->Prop)(k:L It)(l:a7),AK R P N F (ex N k l).1 (ex N k l).2->AK R P N F k l
def C6(hA:c8 P tt)(hW:P.funcs.toList.all Ls=true)(s:∀g asx r,T g asx=some r->aN P g asx r){ex:Ex}(f:ExS P ex){g:FuncId}{asx:L SV}{r:SV}(h:X5 ex P tt T g asx=some r):aN P g asx r:=by
 unfold X5 at h;split at h;rename_i p q;simp_all;split at h<;>try(cases h)
 rename_i nt c rs j;split at h<;>try(cases h)
 rename_i a;obtain⟨b,i,e⟩:∃b i,ex nt [.code c] (Cn 0 asx)=(b,i):=⟨_,_,W⟩;rw[e]at h;cases b with
 |cons _ _=>cases h
 |nil=>
  simp only at h;split at h<;>try(cases h;done)
  rename_i o d;cases h;obtain⟨fn,n,m,rfl,rfl,l,k⟩:=HO hW j;refine enter n m l a k<|f _ _ _ _ _ ?_;rw[e];exact ret hA d<|aw.refl _
def slK(l:a7):L Nat->L (Nat×SV)
 |[]=>[]
 |i::q=>(i,(gt l i).v)::slK l q
def II(l:a7):∀{q:L Nat}{i:Nat},i∈q->(gt (sl<|slK l q) i).v=(gt l i).v
 |[],i,h=>by cases h
 |j::q,i,h=>by
  simp[slK,sl,gt];cases a:Nat.beq i j with
  |true=>simp_all
  |false=>refine II l ?_;rcases abm.1 h with rfl|h;simp_all;exact h
def KR{l:a7}:∀{q:L Nat},(∀i∈q,(gt l i).v.plain=true)->qh l (slK l q)
 |[],_=>trivial
 |i::q,h=>⟨.inl ⟨h i I,h i I,w9.of_le<|uN.refl _⟩,KR λj a=>h j<|by simp[a]⟩
def TR:L ResultVar->L Nat
 |[]=>[]
 |.tmp t::rs=>t::TR rs
 |.cell t _::rs=>t::TR rs
def tK{l m:a7}:∀{rs:L ResultVar},(∀i∈TR rs,(gt m i).v=(gt l i).v)->jl tt m rs=jl tt l rs
 |[],_=>rfl
 |.tmp t::rs,h=>by simp[jl,h t<|by simp[TR],tK (rs:=rs) λi hi=>h i<|by simp[TR,hi]]
 |.cell t a::rs,h=>by simp[jl,h t<|by simp[TR],tK (rs:=rs) λi hi=>h i<|by simp[TR,hi]]
def tJ{l:a7}:∀{rs:L ResultVar}{xs:L SV},jl tt l rs=some xs->∀i∈TR rs,(gt l i).v.plain=true
 |[],xs,h,i,hi=>by simp[TR]at hi
 |.tmp t::rs,xs,h,i,hi=>by
  simp[jl]at h;split at h<;>try(cases h)
  rename_i c;split at h<;>try(cases h)
  rename_i ys a;simp[TR]at hi;rcases hi with rfl|hi;exact c;exact tJ a i hi
 |.cell t ty::rs,xs,h,i,hi=>by
  simp[jl]at h;split at h<;>try(cases h)
  rename_i x b;split at h<;>try(cases h)
  split at h<;>try(cases h)
  split at h<;>try(cases h)
  rename_i ys a;simp[TR]at hi;rcases hi with rfl|hi;rw[b];rfl;exact tJ a i hi
def Fo{l:a7}:∀{n k:Nat}{ys:L SV},Nt l k n=some ys->(∀i,k<=i->i<k+n->(gt l i).v.plain=true)/\∀{m:a7},(∀i,k<=i->i<k+n->(gt m i).v=(gt l i).v)->V5 m k ys
 |0,k,ys,h=>by simp[Nt]at h;subst h;exact⟨λi d b=>E,λ_=>trivial⟩
 |n+1,k,ys,h=>by
  simp[Nt]at h;split at h<;>try(cases h)
  rename_i c;split at h<;>try(cases h;done)
  rename_i e a;cases h;obtain⟨d,b⟩:=Fo a;refine⟨λi k1 k2=>?_,λ{m}hm=>⟨⟨hm k E E,c⟩,b λi k1 k2=>hm i E E⟩⟩
  grind
def Dh(hA:c8 P tt)(hW:P.funcs.toList.all Ls=true){ex:Ex}(l:ExS P ex){g:FuncId}{asx H out:L SV}{r:SV}(h:US ex P tt g asx H=some (out,r)):iQ P g H asx out r:=by
 unfold US at h;split at h<;>try(cases h)
 rename_i nt c rs o;split at h<;>try(cases h)
 rename_i a;rw[aW]at a;obtain⟨j,b,e⟩:∃j b,ex nt [.code c] (Wu asx H)=(j,b):=⟨_,_,W⟩;rw[e]at h;cases j with
 |cons _ _=>cases h
 |nil=>
  simp only at h;split at h<;>try(cases h;done)
  rename_i m v d k;cases h;obtain⟨fn,u,t,rfl,rfl,s,p⟩:=HO hW o;obtain⟨w,n⟩:=Fo k;refine mF u t s a.1 a.2 p<|l _ _ _ _ _ ?_;rw[e]
  let q:=TR fn.results.toList++List.range' 1000000 (len H)
  have f:∀i,1000000<=i->i<1000000+len H->i∈q:=λi k1 k2=>ac6.2<|.inr fP;refine⟨b,slK b q,W,KR λi hi=>?_,⟨aB m,?_,?_⟩,(n λi k1 k2=>II b<|f i k1 k2).n⟩;rcases ac6.1 hi with hi|hi;exact tJ d i hi;simp_all;refine ox hA ?_;rw[tK λi hi=>II b<|ac6.2<|.inl hi];exact d;rw[xA];exact w9.of_le<|uN.refl _
def FO(hA:c8 P tt)(hW:P.funcs.toList.all Ls=true)(F:∀g asx r,T g asx=some r->aN P g asx r){ex:Ex}(k:ExS P ex){all:Array Oper}{l c:a7}{o:Oper}{e:L Nat}{K:L Mv->St->Prop}
 (h:IF ex P tt T B all.toList l o=some (c,e))(j:∀x,bp x=e->K x (dn c)):KV P all o (dn l) K:=by
 obtain⟨m,p,w,pos,n,g⟩:=o;unfold IF at h;simp only at h;split at h<;>try(cases h)
 rename_i s;have plain:∀{d:Nat}{p:Op},KI tt [d] all.toList l ⟨some d,p,w,pos,n,g⟩=some (c,e)->KV P all ⟨some d,p,w,pos,n,g⟩ (dn l) K:=by
  intro d p h;unfold KI at h;split at h<;>try(cases h)
  rename_i ob C t hs;split at h<;>try(cases h;done)
  rename_i hc;cases h;exact oT<|xj hA hs (aZ hc) j
 have refs:∀{b:mJ},Yt ex P tt l m b=some (c,e)->∃out r,iQ P b.g (mo b.R) b.asx out r/\ja l m b.R out r=some (c,e):=by
  intro b hh;unfold Yt at hh;cases i:US ex P tt b.g b.asx (mo b.R)with
  |none=>simp[i]at hh
  |some q=>obtain⟨out,r⟩:=q;simp[i]at hh;exact⟨out,r,Dh hA hW k i,hh⟩
 split at h
 ·rename_i f asx J;unfold aaI at h;split at h
  ·rename_i y a;cases h;unfold ac9 at a;split at a<;>try(cases a)
   rename_i ob M H sh hh;split at a<;>try(cases a)
   rename_i z;rw[aW]at z;split at a<;>try(cases a)
   rename_i r i;split at a<;>try(cases a)
   rename_i A C t D;split at a<;>try(cases a;done)
   rename_i hc;cases a;exact oT<|J4 s hh (aZ z.2) (C6 hA hW F k i) D (aZ hc) j
  split at h;rename_i ob b hh;split at h<;>try(cases h)
  rename_i hc;obtain⟨out,r,v,u⟩:=refs h;exact IN s hh (aZ hc) v u j;split at h<;>try(cases h)
  rename_i b hh;obtain⟨out,r,v,u⟩:=refs h;exact UK s hh v u j
 split at h<;>try(cases h)
 exact UG s h j
 grind
def EM(hA:c8 P tt)(hW:P.funcs.toList.all Ls=true)(s:∀g asx r,T g asx=some r->aN P g asx r){ex:Ex}(i:ExS P ex){all:Array Oper}{l d:a7}{o:Oper}{m:L Nat}{K:L Mv->St->Prop}
 (h:Zx ex P tt T B all.toList l o=some (d,m))(n:∀c,bp c=m->K c (dn d)):KV P all o (dn l) K:=by
 unfold Zx at h;split at h
 ·rename_i e a hs;obtain⟨p,k,j⟩:=Ah (len a) e λd=>some (d,a);rw[j]at h;cases h;unfold KI at hs;split at hs<;>try(cases hs)
  rename_i ob t q f;split at hs<;>try(cases hs;done)
  rename_i hc;cases hs;exact oT (xj hA f (aZ hc) λc b=>k▸n c b)
 split at h<;>try(cases h)
 rename_i e a hs;obtain⟨p,k,j⟩:=Ah (len a) e λd=>some (d,a);rw[j]at h;cases h;exact FO hA hW s i hs λc b=>k▸n c b
def aaX{c a:Code}(h:unr c=some a):c=.loop a:=by cases c<;>simp[unr]at h;subst h;rfl
def sK(hA:c8 P tt)(hm:P.follows .mixedOrders=true)(hW:P.funcs.toList.all Ls=true)(q:∀g asx r,T g asx=some r->aN P g asx r):∀n:Nat,ExS P (exec P tt T B n)
 |0,N,R,F,k,l,h=>h
 |n+1,N,R,F,k,l,h=>by
  have d:=sK hA hm hW q n;have y:∀(i:It)(k0:L It)(b:L It×a7),(match GP tt [] N (i::k0) l with
   |some (ob,t,f)=>match J0 ob with
    |true=>exec P tt T B n N t f
    |false=>(i::k0,l)
   |none=>(i::k0,l))=b->AK R P N F b.1 b.2->AK R P N F (i::k0) l:=by
   intro i k0 b a m;split at a;rename_i ob t f hs;split at a;rename_i hc;subst a;exact rP hA hm hs (aZ hc)<|d _ _ _ _ _ m;subst a;exact m;subst a;exact m
  obtain⟨b,a⟩:∃b,exec P tt T B (n+1) N k l=b:=⟨_,W⟩;rw[a]at h;unfold exec at a;split at a;subst a;exact h;rename_i i k0;split at a;rename_i all o e;split at a;rename_i f w p;subst a;exact EM hA hW q d p λu _=>d _ _ _ _ _ h;subst a;exact h;rename_i all v o e s;split at a;rename_i f w p;subst a;refine EM hA hW q d p λu j=>?_;rw[j];exact d _ _ _ _ _ h;subst a;exact h;rename_i all v s;split at a;rename_i x;subst a;exact⟨x,d _ _ _ _ _ h⟩;subst a;exact h;rename_i c;split at a;rename_i z hu;have:=aaX hu;subst this;subst a;exact iM<|d _ _ _ _ _ h;simp_all;simp_all
end
mutual
def vU:SV->Option Value
 |.n k a=>some (.int k a)
 |.b x=>some (.bool x)
 |.u x=>some (.bool x)
 |.s x=>some (.string<|bs x)
 |.c v=>match scalar v with
  |true=>some v
  |false=>none
 |.fn f a c=>match a,c with
  |[],[]=>some (.func f #[] #[])
  |_,_=>none
 |.agg xs=>match Ks xs with
  |some d=>some (.agg d.toArray)
  |none=>none
 |_=>none
def Ks:List SV->Option (List Value)
 |[]=>some []
 |x::xs=>match vU x,Ks xs,x.cell with
  |some v,some d,true=>some (v::d)
  |_,_,_=>none
end
def WY{x:SV}{v:Value}(h:vU x=some v)(hc:x.cell=true):v.oneCell'=true:=by
 cases x<;>simp[vU]at h<;>try(cases h;done)
 case c w=>
  split at h<;>try(cases h;done)
  rename_i hs;simp at h;subst h;cases w<;>simp[scalar]at hs<;>rfl
 case fn f a c=>
  split at h<;>try(cases h;done)
  cases h;rfl
 case agg b=>simp[SV.cell]at hc
 all_goals(subst h;rfl)
section
variable{w:World}{S:Nat->Prop}
mutual
theorem xe:∀{x:SV}{v:Value},vU x=some v->Rel w S x.den v []/\∀{y F},Rel w S x.den y F->y=v/\F=[]
 |.n k a,v,h=>by simp[vU,aaP]at h;subst h;exact⟨lO,λh=>⟨h.2.1,h.2.2⟩⟩
 |.b x,v,h=>by simp[vU,aaP]at h;subst h;exact⟨lO,λh=>⟨h.2.1,h.2.2⟩⟩
 |.u x,v,h=>by simp[vU,aaP]at h;subst h;exact⟨lO,λh=>⟨h.2.1,h.2.2⟩⟩
 |.s x,v,h=>by simp[vU,aaP]at h;subst h;exact⟨lO,λh=>⟨h.2.1,h.2.2⟩⟩
 |.c x,v,h=>by
  simp[vU]at h;split at h<;>try(cases h;done)
  rename_i hs;cases h;exact⟨⟨hs,W,W⟩,λh=>⟨h.2.1,h.2.2⟩⟩
 |.fn f a c,v,h=>by
  simp[vU]at h;split at h<;>try(cases h;done)
  cases h;refine⟨?_,λ{y F}h=>?_⟩;simp only[SV.den,aB,Rel,Cells];simp;simp only[SV.den,aB,Rel,Cells]at h;obtain⟨a,c,t,r,rfl,⟨j,rfl⟩,⟨o,rfl⟩,rfl⟩:=h;simp_all
 |.agg i,v,h=>by
  simp[vU]at h;split at h<;>try(cases h;done)
  rename_i g d;cases h;obtain⟨j,o⟩:=GF d;refine⟨?_,λ{y F}h=>?_⟩;simp only[SV.den,Rel];exact⟨_,W,j⟩;simp[SV.den,Rel]at h;obtain⟨B,rfl,hc⟩:=h;obtain⟨e,rfl⟩:=o hc;rw[<-e];exact G
 |.nil,_,h|.ints ..,_,h|.eI ..,_,h|.strs ..,_,h|.cR ..,_,h|.bc ..,_,h|.row ..,_,h|.bU _,_,h|.box ..,_,h|.bw ..,_,h|.ptr ..,_,h|.hole,_,h|.dead,_,h|.pv _,_,h|.abs _,_,h|.gI ..,_,h|.ob _,_,h=>by simp[vU]at h
theorem GF:∀{i:List SV}{g:List Value},Ks i=some g->Cells w S true (aB i) g []/\∀{l F},Cells w S true (aB i) l F->l=g/\F=[]
 |[],g,h=>by simp[Ks,aaP]at h;subst h;exact⟨G,λh=>h⟩
 |x::i,g,h=>by
  simp[Ks]at h;split at h<;>try(cases h;done)
  rename_i v m p d hc;cases h;obtain⟨j,o⟩:=xe p;obtain⟨q,A⟩:=GF d;refine⟨⟨v,m,[],[],W,W,λ_=>WY p hc,j,q⟩,λ{l F}h=>?_⟩;obtain⟨y,z,t,r,rfl,rfl,_,k1,k2⟩:=h
  grind
end
end
abbrev xb(κ:Type):=L<|κ×Value
def qL(a b:cq):Bool:=match decEq a b with
 |isTrue _=>true
 |isFalse _=>false
def qK{a b:cq}:qL a b=true↔a=b:=by unfold qL;split<;>simp_all
def acn{a b:cq}(h:bs a=bs b):a=b:=by have:=aaf (λx:ByteArray=>x.data.toList) h;simpa[bs]using this
def acp(a b:cq):(bs a==bs b)=qL a b:=by
 cases h:qL a b with
 |true=>exact(MapKept.bytes_beq _ _).2 (aaf bs<|qK.1 h)
 |false=>
  cases c:(bs a==bs b)with
  |false=>rfl
  |true=>rw[qK.2<|acn<|(MapKept.bytes_beq _ _).1 c]at h;cases h
class Mk (κ:Type) where
 v:κ->Value
 sv:κ->SV
 d:TypeDesc
 eq:κ->κ->Bool
 iff:∀{a b},eq a b=true↔a=b
 now:∀a b,Instr.sameNow d (v a) (v b)=some (eq a b)
 key:∀a,MapKept.IsKey d<|v a
 den:∀a,(sv a).den=.v (v a)
 val:∀a,vU (sv a)=some (v a)
 sc:∀a,scalar (v a)=true
instance:Mk cq:=⟨λs=>.string<|bs s,.s,.string,qL,qK,λa b=>aaf some<|acp a b,λ_=>trivial,λ_=>rfl,λ_=>rfl,λ_=>rfl⟩
def mkEq(a b:Int):Bool:=match Int.instDecidableEq a b with
 |isTrue _=>true
 |isFalse _=>false
def DK{a b:Int}:mkEq a b=true↔a=b:=by unfold mkEq;split<;>simp_all
instance:Mk Int:=⟨λn=>.int .i64 n,.i,.int .i64,mkEq,DK,λa b=>aaf some (by
 show(a==b)=_;cases h:mkEq a b with
 |true=>simp[DK.1 h]
 |false=>simp;exactλe=>by rw[DK.2 e]at h;cases h),λ_=>rfl,λ_=>rfl,λ_=>rfl,λ_=>rfl⟩
section
variable{κ:Type}[Mk κ]
def Af(k:κ):xb κ->Q Value
 |[]=>none
 |(a,v)::b=>match Mk.eq k a with
  |true=>some v
  |false=>Af k b
def xI(k:κ)(v:Value):xb κ->xb κ
 |[]=>[(k,v)]
 |(a,u)::b=>match Mk.eq k a with
  |true=>(k,v)::b
  |false=>(a,u)::xI k v b
def sI{k:κ}:∀{c:xb κ}{a:L MapEntry}{i:Nat},a.map (λe=>(e.key,e.val))=c.map (λq=>(Mk.v q.1,q.2))->Af k c=none->Instr.findNow (Mk.d κ) (Mk.v k) a i=some none
 |[],a,i,h,_=>by
  have:a=[]:=by simpa using h
  subst this;rfl
 |(f,u)::c,[],i,h,_=>by cases h
 |(f,u)::c,m::a,i,h,b=>by
  simp at h;obtain⟨⟨j,l⟩,g⟩:=h;simp[Af]at b;cases he:Mk.eq k f with
  |true=>simp[he]at b
  |false=>simp[he]at b;simp[Instr.findNow,j,Mk.now,he];exact sI g b
def sH{k:κ}{v:Value}:∀{c:xb κ}{b:L MapEntry}{i:Nat},b.map (λe=>(e.key,e.val))=c.map (λq=>(Mk.v q.1,q.2))->Af k c=some v->
 ∃j:Nat,Instr.findNow (Mk.d κ) (Mk.v k) b i=some (some (i+j,v))/\∃m,b[j]?=some m/\m.key=Mk.v k/\∀u,(b.modify j λe=>{e with key:=Mk.v k,val:=u}).map (λe=>(e.key,e.val))=(xI k u c).map λq=>(Mk.v q.1,q.2)
 |[],b,i,h,a=>by simp[Af]at a
 |(g,u)::c,[],i,h,_=>by cases h
 |(g,u)::c,m::b,i,h,a=>by
  simp at h;obtain⟨⟨f,n⟩,l⟩:=h;simp[Af]at a;cases he:Mk.eq k g with
  |true=>simp[he]at a;have p:=Mk.iff.1 he;refine⟨0,by simp[Instr.findNow,f,Mk.now,he,n,a],m,W,by rw[f,p],λu=>?_⟩;simp[xI,he,l]
  |false=>
   simp[he]at a;obtain⟨j,k1,o,k2,k3,k4⟩:=sH (i:=i+1) l a;refine⟨j+1,?_,o,k2,k3,λu=>?_⟩;simp[Instr.findNow,f,Mk.now]
   grind
   simp[xI,he,f,n,k4 u]
def He{k:κ}{v:Value}:∀{a:xb κ},Af k a=none->xI k v a=a++[(k,v)]
 |[],_=>rfl
 |(b,u)::a,h=>by
  simp[Af]at h;cases he:Mk.eq k b with
  |true=>simp[he]at h
  |false=>simp[he]at h;simp[xI,he,He h]
end
section
variable{P:Program}{w:World}{S:Nat->Prop}
def We{V:Hid}{a:L Value}{F:Nat->L Nat}{args H:L SV}{i:Nat}{x:SV}{v:Value}(hi:i<1000000)(hc:aU S V.g (both (aB args)<|aB H) (a8 V a) w F)(h:args[i]?=some x)(d:vU x=some v):a.getD i undef=v:=by
 have b:=hc.rel i;have c:=fe (args:=aB args) (H:=aB H) hi;rw[jm,h]at c;have f:x.den.plain=true:=by rw[cU];cases x<;>simp[vU]at d<;>rfl
 rw[an.aC<|by rw[c];exact f,c]at b;have e:a8 V a i=a.getD i undef:=by unfold a8;rw[aas hi]
 rw[e]at b;exact((xe d).2 b).1
end
section
variable{R:Q Nat->Prop}{P:Program}{tt:TT}{N:Nat}{F:St->Prop}{k:L It}{l:a7}
def aeG(hA:c8 P tt){all:Array Oper}{f:L Nat}{b:L (L Nat×L Nat)}{rest:L Oper}{d:Nat}{t:TypeId}{x:Operand}{lo hi:Q Operand}{ty:TypeId}{pos:String}{a:Array Edge}{g:Q (Nat×Bool)}{ob:L Pd}{i:a7}{j:L Nat}
 (p:cN l all.toList g=some true)(h:Ao tt l d t x lo hi=some (ob,i,j))(m:aj ob)
 (n:AK R P N F (.nu all f rest ((iP (dn l) all ⟨some d,.slice t x lo hi none,ty,pos,a,g⟩,j)::b)::k) i):
 AK R P N F (.nu all f (⟨some d,.slice t x lo hi none,ty,pos,a,g⟩::rest) b::k) l:=by
 exact UF hA p h m λq c=>by rw[c];exact n
end
section
variable{P:Program}{o:Oper}{ts:Array TypeId}{t e:TypeId}{ti:TI}{d s:Operand}
def L7{k:IntKind}{ti:TI}(c:ti.agg=false)(f:ti.size=1)(xs:L Int):(xs.map λa=>AV.v<|.int k a).all (fits ti)=true:=by rw[acZ];intro x b;obtain⟨y,-,rfl⟩:=abS.1 b;simp[fits,c,f,AV.cell]
def QF{k:IntKind}(xs:L Int):bR (xs.map λa=>AV.v<|.int k a)=true:=by refine oz λx b=>?_;obtain⟨y,-,rfl⟩:=abS.1 b;rfl
def WI{k:IntKind}(m:o.op=.call ⟨.builtin .copy,#[d,s],ts⟩)(j:ts[0]?=some t)(hu:P.underlying t=some (.slice e))(b:ct P e=some ti)(p:ti.agg=false)(c:ti.size=1){xs ys:L Int}(g:xs≠[])(f:ys≠[]){n:Nat}(hn:Nat.min ys.length xs.length=n):
 ji P o [.ints k true xs] [.bw 1000000 0 0 [],.ints k false ys] [.ints k true<|ys.take n++xs.drop n] (.i n):=by
 have h:=Re (P:=P) m j hu b (sz:=1) c.symm (X:=xs.map λa=>.v<|.int k a) (Y:=ys.map λa=>.v<|.int k a) (by simpa using g) (QF xs) (by simpa using f) (L7 p c ys) (n:=n) (by simpa using hn);rw[<-ahc,<-agM,<-acB]at h;exact h
def Pt{k:IntKind}(j:o.op=.call ⟨.builtin .copy,#[d,s],ts⟩)(g:ts[0]?=some t)(hu:P.underlying t=some (.slice e))(b:ct P e=some ti)(m:ti.agg=false)(c:ti.size=1){xs:L Int}(f:xs≠[]){off m1 m2 n:Nat}(hn:Nat.min m2 m1=n)(k1:off+m1<=xs.length)(k2:m2<=xs.length)(g1:0<m1)(g2:0<m2):
 ji P o [.ints k true xs] [.bw 1000000 0 0 [.nF 1 off m1],.bw 1000000 0 0 [.nF 1 0 m2]] [.ints k true<|xs.take off++xs.take n++xs.drop (off+n)] (.i n):=by
 have h:=H9 (P:=P) j g hu b (sz:=1) c.symm (X:=xs.map λa=>.v<|.int k a) (by simpa using f) (QF xs) (L7 m c xs) (off:=off) (m1:=m1) (m2:=m2) (n:=n) hn (by simpa using k1) (by simpa using k2) g1 g2;rw[<-ahc,<-ahc,<-agM,<-acB,<-acB]at h;exact h
def WH{ti':zj}(m:o.op=.call ⟨.builtin .copy,#[d,s],ts⟩)(j:ts[0]?=some t)(hu:P.underlying t=some (.slice e))(f:ct P e=some ti'.den){xs ys:L SV}(b:xs≠[])(c:ys≠[])(g:ij xs=true)(p:∀y∈ys,ns ti' y=true){n:Nat}(hn:Nat.min ys.length xs.length=n):
 ji P o [.row true ti'.size xs] [.bw 1000000 0 0 [],.row false ti'.size ys] [.row true ti'.size<|ys.take n++xs.drop n] (.i n):=by
 have a:(aB ys).all (fits ti'.den)=true:=by rw[acZ];intro x b;rw[cJ]at b;obtain⟨y,c,rfl⟩:=abS.1 b;exact jL ti' y<|p y c
 have h:=Re (P:=P) m j hu f (sz:=ti'.size) W (X:=aB xs) (Y:=aB ys) (by cases xs;exact aaF W b;simp[aB]) (by rw[eH];exact g) (by cases ys;exact aaF W c;simp[aB]) a (n:=n) (by simpa only[bP]using hn);have e:(aB ys).take n++(aB xs).drop n=aB (ys.take n++xs.drop n):=by simp[cJ]
 rw[e]at h;exact h
def Ps{ti':zj}(m:o.op=.call ⟨.builtin .copy,#[d,s],ts⟩)(j:ts[0]?=some t)(hu:P.underlying t=some (.slice e))(c:ct P e=some ti'.den){xs:L SV}(b:xs≠[])(f:ij xs=true)(p:∀y∈xs,ns ti' y=true){off m1 m2 n:Nat}(hn:Nat.min m2 m1=n)(k1:off+m1<=xs.length)(k2:m2<=xs.length)(g1:0<m1)(g2:0<m2):
 ji P o [.row true ti'.size xs] [.bw 1000000 0 0 [.nF ti'.size off m1],.bw 1000000 0 0 [.nF ti'.size 0 m2]] [.row true ti'.size<|xs.take off++xs.take n++xs.drop (off+n)] (.i n):=by
 have a:(aB xs).all (fits ti'.den)=true:=by rw[acZ];intro x b;rw[cJ]at b;obtain⟨y,g,rfl⟩:=abS.1 b;exact jL ti' y<|p y g
 have h:=H9 (P:=P) m j hu c (sz:=ti'.size) W (X:=aB xs) (by cases xs;exact aaF W b;simp[aB]) (by rw[eH];exact f) a (off:=off) (m1:=m1) (m2:=m2) (n:=n) hn (by simpa only[bP]using k1) (by simpa only[bP]using k2) g1 g2;have e:(aB xs).take off++(aB xs).take n++(aB xs).drop (off+n)=aB (xs.take off++xs.take n++xs.drop (off+n)):=by simp[cJ]
 rw[e]at h;exact h
end
def aU.ae9{S B:Nat->Prop}{σ:St}{T:Nat->Value}{w:World}{F:Nat->L Nat}(h:aU S B σ T w F){J:qg}{Fb:L Nat}(hn:Fb.Nodup)(o:∀b∈Fb,B b/\b<w.heap.size/\¬S b)(c:∀i,i≠1000000->∀b∈F i,b∉Fb)(p:J.here w S Fb):
 aU S B (iy σ 1000000 ⟨.abs J,(σ 1000000).g1+1,(σ 1000000).g2⟩) T w (iy F 1000000 Fb):=by
 refine h.step (w':=w) (S':=S) (T':=T) ⟨λr=>?_,λr=>?_,λ_ _=>rfl,λr n q=>?_⟩ (λ_ h=>h) (λi=>?_) (λi=>?_) (λi j f b d=>?_) (λi b d=>?_) h.shr;by_cases a:r=1000000;subst a;exact agt _;rw[ar _ _ a];exact .refl;by_cases a:r=1000000;subst a;exact .refl;rw[ar _ _ a];exact .refl;by_cases a:r=1000000;subst a;rw[aI]at n;simp at n;rw[ar _ _ a];simp_all;by_cases hi:i=1000000;subst hi;right;exact p;left;rw[ar _ _ hi,ar _ _ hi];simp_all;by_cases hi:i=1000000;subst hi;exact hn;rw[ar _ _ hi];exact h.nodup i;by_cases hi:i=1000000;subst hi;rw[ar _ _ λe=>f e.symm];exactλg=>c j (λe=>f e.symm) b g d;rw[ar _ _ hi]at d;by_cases m:j=1000000;subst m;exact c i hi b d;rw[ar _ _ m];exact h.di i j f b d;by_cases hi:i=1000000;subst hi;exact o b d;rw[ar _ _ hi]at d;exact h.own i b d
section
variable{R:Q Nat->Prop}{P:Program}{N:Nat}{F:St->Prop}{k:L It}{l:a7}
def Xj{id d:Nat}{T ty:TypeId}{pos:String}{q:Array Edge}{zs:Array Value}(J:Nat->qg)(A:Nat.ble (d+1) N=true)(s:Nat.ble (d+1) 1000000=true)
 (r:∀w,(Instr.alloc T true<|.tuple #[]).run P w=.ok (.pointer<|some ⟨w.heap.size,0,none⟩) (w.alloc<|.cells zs T))
 (hJ:∀b w S,w.heap[b]?=some (.cells zs T)->J b w S [b])
 (hk:∀b,AK R P N F k ((1000000,⟨.abs<|J b,(gt l 1000000).g1+1,(gt l 1000000).g2⟩)::(d,⟨.pv (·=.pointer (some ⟨b,0,none⟩)),(gt l d).g1+1,(gt l d).g2⟩)::l)):
 AK R P N F (.code (.region id #[⟨some d,.alloc T,ty,pos,q,none⟩] false)::k) l:=by
 have A:=acR A;have s:=acR s;have y:(1000000:Nat)≠d:=E;intro V t K a w hR hi;refine wpIn_region_list ?_;obtain⟨b,hb⟩:∃b,b=w.heap.size:=⟨_,W⟩;obtain⟨v,M⟩:∃v:Value,v=.pointer (some ⟨b,0,none⟩):=⟨_,W⟩;obtain⟨w',m⟩:∃w',w'=w.alloc (.cells zs T):=⟨_,W⟩;have f:Below w.heap.size w w':=by rw[m];exact(Below.refl _ _).alloc .refl _
 have B0:w'.heap[b]?=some (.cells zs T):=by rw[m,hb];exact World.alloc_heap_new w _
 have A0:w'.heap.size=w.heap.size+1:=fP;have key:kV N V t K (dn ((1000000,⟨.abs<|J b,(gt l 1000000).g1+1,(gt l 1000000).g2⟩)::(d,⟨.pv (·=.pointer (some ⟨b,0,none⟩)),(gt l d).g1+1,(gt l d).g2⟩)::l)) (a.put (some d) v) w':=by
  refine Inv.x ?_;obtain⟨S,Fr,hc,O,z,x,u,p⟩:=hi;have Y:=hc.make (w':=w') [] d (.pv (·=v)) v [] p.new f.size (λb D _=>f.block b D) acP I (by simp[Rel]);have X:=Y.ae9 (J:=J b) (Fb:=[b]) I (λc C=>by
   simp at C;exact⟨p.new _ E,E,λh=>by have:=hc.shr _ h;omega⟩) (λi _ c j B=>by
   simp at B;split at j;cases j;rw[aaq I]at j;have:=(hc.own i c j).2.1;omega) λZ S2 Y _=>hJ b Z S2 fP
  rw[<-lL (V:=V) (by rw[O];exact A)]at X;have e:dn ((1000000,⟨.abs<|J b,(gt l 1000000).g1+1,(gt l 1000000).g2⟩)::(d,⟨.pv (·=.pointer (some ⟨b,0,none⟩)),(gt l d).g1+1,(gt l d).g2⟩)::l)
   =iy (made (dn l) [] d (.pv (·=v))) 1000000 ⟨.abs<|J b,(made (dn l) [] d (.pv (·=v)) 1000000).g1+1,(made (dn l) [] d (.pv (·=v)) 1000000).g2⟩:=by
   simp[fb]
   funext i
   by_cases o:i=1000000;subst o;simp[made,aaq y];rfl;rw[ar _ _ o,ar _ _ o];by_cases hid:i=d;subst hid;rw[aI,M];simp[made];rfl;rw[ar _ _ hid];simp[made,hid]
  rw[e];exact⟨S,_,X,by rw[size_put];exact O,by rw[eQ];exact z,x,u,p.P7 f⟩
 unfold wpListIn;have n:Oper.T3 V.rd P ⟨some d,.alloc T,ty,pos,q,none⟩ a w (wpListIn (FW V.rd) 0 P #[⟨some d,.alloc T,ty,pos,q,none⟩] (λe H w'=>∃g,gK R P N F k e g/\kV N V t K g H w') []) (λe H w'=>∃g,gK R P N F k e g/\kV N V t K g H w'):=by refine fK (v:=v) (w':=w') (by simp[execOp,r,M,m])<|wpListIn_nil ⟨_,hk b,key⟩
 split;exact n;rename_i hw;exact aaF W hw
end
end Go.Ai
