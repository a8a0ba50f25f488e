/- Parts of the proof of ScaleChanges (as AIM.md's row tells), at every input, with no further conditions. -/
import Derived.Test.YtpoaaoihkhdijaaGreatDoorHZAF
import Derived.Lib.ConvBytes
import Derived.Laws.AppendOwn
set_option linter.all false
set_option maxRecDepth 100000
set_option maxHeartbeats 0
namespace Go.Ai
open Go.RowKit
section
variable{R:Option Nat->Prop}{P:Program}{N:Nat}{V:Hid}{w w0:World}{S S0:Nat->Prop}
def S9{a:List Value}(b:N<=1000000)(hl:a.length<=N):tv V {tmps:=a.toArray++Array.replicate (N-a.toArray.size) undef,defers:=[]}=bg V a:=by
 funext i
 simp only[tv,bg];have hs:(a.toArray++Array.replicate (N-a.toArray.size) undef).size=N:=by simp;omega
 rw[hs];by_cases hi:i<1000000
 ·simp only[hi];simp
  grind
 grind
def Ot{xs:List AV}{c:List Value}{F:List Nat}(h:Cells w S false xs c F):Rel w S (rS xs) (vZ c.toArray) F:=by
 generalize d:c.toArray=b;have e:c=b.toList:=by rw[<-d]
 rw[e]at h;unfold vZ;have a:=Cells.length h;cases xs with
 |nil=>rw[dif_neg eW];exact⟨b,W,h⟩
 |cons x xs=>cases xs with
  |nil=>
   have f:b.size=1:=a;rw[dif_pos f];obtain⟨y,i,n,m,j,rfl,-,k5,rfl,rfl⟩:=h;have:b[0]=y:=by grind
   rw[this];simpa[rS]using k5
  |cons g xs=>rw[dif_neg<|by simp at a;omega];exact⟨b,W,h⟩
def ZG(Q:St->Prop):Exit->St->Prop
 |.normal,σ=>Q σ
 |.ret,σ=>Q σ
 |_,_=>False
def FH{f:FuncId}{fn:Func}{c:Code}{H args s:List AV}{r:AV}{Q:St->Prop}(hf:P.funcs[f]?=some fn)(m:fn.body=some c)(hn:(fn.name== "runtime.NumGoroutine")=false)(H1:args.length<=fn.ntmps)(hN:fn.ntmps<=1000000)
 (hd:eG fn.results.toList []=true)(h:AW R0 P fn.ntmps c (ZG Q) (both args H))
 (hQ:∀σ,Q σ->∀V w0 S0 a w,Inv fn.ntmps V w0 S0 σ a w->∃A,Inv fn.ntmps V w0 S0 A a w/\(∃xs,ja P A fn.results.toList=some xs/\uq (rS xs) r)/\∀(k:Nat)(y:AV),s[k]?=some y->(A<|1000000+k).av=y/\y.jG=true):
 Hh P f H args s r:=by
 intro w S V L F hl hG hc;obtain⟨C,u⟩:∃C:Hid,C={v:=V.v,g:=V.g}:=⟨_,W⟩;have ev:C.v=V.v:=by rw[u]
 have eg:C.g=V.g:=by rw[u]
 have em:cQ C w=cQ V w:=by unfold cQ;rw[eg]
 have D2:Inv fn.ntmps C w S (both args H) {tmps:=L.toArray++Array.replicate (fn.ntmps-L.toArray.size) undef,defers:=[]} w:=by
  refine⟨S,F,?_,by simp;omega,by rw[u],λ_ h=>h,λ_ h=>.inl h,lW.refl _ _⟩;rw[S9 hN E,em];have e2:bg C L=bg V L:=by unfold bg;rw[ev]
  rw[e2];exact⟨hc.rel,hc.nodup,hc.du,λi b m=>⟨.inr (hc.own i b m).1,(hc.own i b m).2⟩,hc.shr⟩
 have F4:C.rd=none:=by rw[u]
 have hh:=h C w S _ w ⟨by rw[u];rfl,hG.laid,by rw[eg];exact hG.apart⟩ D2;rw[F4]at hh;refine vh.BJ hf (by rw[m];rfl) hn<|(callsIn_wide (n:=0)).1<|callsIn_of_wp_marks hf m U<|wpIn_mono hh λe M w1⟨B,h1,S1,O,ds,E1,G5,H2,D1,B0,o,hm⟩=>?_;have T:M.defers=ds:=eW;have gen:Q B->LeavesInM Fence.wide 0 P fn M.tmps (λe t=>∃Y,e=.returned Y/\∃x K,tV V w w t/\(∀b,S b->x b)/\(∀b,x b->S b\/cQ V w b)/\aT x (cQ V w) (both [r] s) (bg V [Y]) t K) M.defers .returning w1:=by
  intro G1;rw[T];refine qE ds w1 hm.1 (λd hd=>by obtain⟨D,k1,k2,-⟩:=hm.2 d hd;exact⟨D,k1,k2⟩) λt A0=>?_;have hi:Inv fn.ntmps {v:=V.v,g:=V.g,df:=ds} w S B M t:=by have k1:=E1.shut hm A0;have k2:=o.shut hm A0;subst u;exact⟨S1,O,k1,G5,T,D1,B0,⟨k2.os,k2.tape,k2.output,k2.size,k2.block⟩⟩
  have E2:Q B->∃v,(results fn M.tmps).run P t=.ok v t/\∃Y,Ending.returned v=.returned Y/\
   ∃x K,tV V w w t/\(∀b,S b->x b)/\(∀b,x b->S b\/cQ V w b)/\aT x (cQ V w) (both [r] s) (bg V [Y]) t K:=by
   intro hq;obtain⟨A,⟨x,F,q,L0,T,F1,F0,p⟩,⟨xs,hx,G2⟩,hH⟩:=hQ B hq _ w S M t hi;obtain⟨L,K,k1,k2,k3,k4⟩:=qn q _ [] hd hx;have G6:∀b∈K,cQ V w b/\b<t.heap.size/\¬x b:=λb m=>by obtain⟨i,-,-,hi⟩:=k4 b m;exact q.own i b hi
   have F3:(results fn M.tmps).run P t=.ok (vZ L.toArray) t:=by rw[Bq,Array.mapM_eq_mapM_toList];simp_all
   obtain⟨O,F2,hp,hq⟩:=G2 t x (vZ L.toArray) K<|Ot k2;have m1:∀b∈O,b∈K:=λb m=>hp.mem_iff.2 (by simp[m]);have m2:∀b∈F2,b∈K:=λb m=>hp.mem_iff.2 (by simp[m]);have hn:=aeJ.1<|hp.nodup_iff.1 k3;have K0:∀k,∀b∈F (1000000+k),b∉K:=λk b m X=>by obtain⟨i,-,K2,hi⟩:=k4 b X;exact q.du (1000000+k) i E b m hi
   have hr:=hq (λb=>x b\/b∈F2) (λb m=>.inl m) λb m=>.inr m;refine⟨_,F3,_,W,λb=>x b\/b∈F2,λi=>if i=0 then O else if 1000000<=i/\i-1000000<s.length then F i else[],⟨p.os,p.tape,p.output,p.size,p.block⟩,λb m=>.inl<|F1 b m,?_,?_⟩
   ·rintro b(m|m)
    ·exact F0 b m
    simp_all
   have Z:∀b,x b\/b∈F2->b<t.heap.size:=by
    rintro b(m|m)
    ·exact q.shr b m
    simp_all
   refine⟨λi=>?_,λi=>?_,λi j G3 b m=>?_,λi b m=>?_,Z⟩
   ·by_cases h0:i=0
    ·subst h0;simp[if_true];have p:=gM (args:=[r]) (H:=s) (i:=0) E;simp[ahz]at p;rw[an.aA<|by rw[p];exact hr.plain,p];simpa[bg]using hr
    by_cases h1:i<1000000
    ·have o:=gM (args:=[r]) (H:=s) h1;rw[afL<|by simp;omega]at o;rw[an.aA<|by rw[o];rfl,o];have:¬(1000000<=i/\i-1000000<s.length):=E;simp[h0,this,if_false,Rel]
    obtain⟨k,rfl⟩:∃k,i=1000000+k:=⟨i-1000000,E⟩;have o:=fT (args:=[r]) (H:=s) I k;by_cases hk:k<s.length
    ·rw[aeF hk]at o;obtain⟨e1,e2⟩:=hH k _<|aeF hk;have z:=q.rel<|1000000+k;have G4:1000000<=1000000+k/\1000000+k-1000000<s.length:=E;simp only[h0,if_false,G4,and_self,if_true];have ht:tv V M (1000000+k)=bg V [vZ L.toArray] (1000000+k):=by
      simp[tv,bg];rw[if_neg E,if_neg E]
     generalize s[k]=y at*;cases y with
     |abs J=>
      unfold an at z⊢
      grind
     |bC _ _ _ _=>simp[AV.jG]at e2
     |ptr _ _ _ _=>simp[AV.jG]at e2
     |fS _ _=>simp[AV.jG]at e2
     |_=>rw[an.aA<|by rw[e1];rfl,e1]at z;rw[an.aA<|by rw[o];rfl,o,<-ht];exact Rel.mono (λb m=>.inl m) _ z
    rw[afL E]at o;rw[an.aA<|by rw[o];rfl,o];have:¬(1000000<=1000000+k/\1000000+k-1000000<s.length):=E;simp only[h0,this,if_false,Rel]
   ·show(if i=0 then O else if 1000000<=i/\i-1000000<s.length then F i else[]).Nodup;split
    ·exact hn.1
    split
    ·exact q.nodup i
    simp
   ·replace m:b∈if i=0 then O else if 1000000<=i/\i-1000000<s.length then F i else[]:=m
    show b∉if j=0 then O else if 1000000<=j/\j-1000000<s.length then F j else[];split at m
    ·split
     ·omega
     split
     ·rename_i hj;intro X;have e:j=1000000+(j-1000000):=E
      grind
     simp
    split at m
    ·rename_i hi;split
     ·intro X;have e:i=1000000+(i-1000000):=E
      grind
     split
     ·exact q.du i j G3 b m
     simp
    cases m
   replace m:b∈if i=0 then O else if 1000000<=i/\i-1000000<s.length then F i else[]:=m
   split at m
   ·grind
   split at m
   ·rename_i hi;have ho:=q.own i b m;refine⟨ho.1,ho.2.1,?_⟩;rintro(h|h)
    ·exact ho.2.2 h
    have e:i=1000000+(i-1000000):=E
    grind
   cases m
  exact E2 G1
 cases e with
 |normal=>exact gen h1
 |ret=>exact gen h1
 |_=>exact h1.elim
def lp(P:Program)(f:FuncId)(H args a:List SV)(r:SV):Prop:=Hh P f (aB H) (aB args) (aB a) r.den
def lp.same{P:Program}{f:FuncId}{H b asx bs a c:List SV}{r q:SV}(h:lp P f H asx a r)(i:aB H=aB b)(g:aB asx=aB bs)(e:aB a=aB c)(d:r.den=q.den):lp P f b bs c q:=by unfold lp at *;rw[<-i,<-g,<-e,<-d];exact h
def EY:∀(k:Nat)(xs:List SV)(m:aU)(L:List (Nat×Sl)),dn m=mk L->dn (cat (Ay k xs) m)=mk (entry k (aB xs)++L)
 |_,[],m,L,h=>h
 |k,x::xs,m,L,h=>by simp[Ay,cat,fR,EY (k+1) xs m L h];rfl
def RO(args H:List SV):aU:=cat (Ay 0 args)<|Ay 1000000 H
def RN(args H:List SV):dn (RO args H)=both (aB args) (aB H):=EY 0 args _ _<|Cy 1000000 H
def Gt(l:aU):Nat->List SV->Prop
 |_,[]=>True
 |k,y::ys=>((gt l k).v=y/\y.plain=true)/\Gt l (k+1) ys
def IX{l:aU}:∀{ys:List SV}{k:Nat}(j:Nat){y:AV},Gt l k ys->(aB ys)[j]?=some y->(dn l<|k+j).av=y/\y.plain=true
 |[],k,j,y,_,h=>by simp[aB]at h
 |x::ys,k,j,y,hh,h=>by
  cases j with
  |zero=>simp[aB]at h;subst h;exact⟨by rw[dL,agQ,hh.1.1],by rw[dj];exact hh.1.2⟩
  |succ j=>
   have:=IX j hh.2 h
   grind
def OS(l:aU):Nat->List SV->Prop
 |_,[]=>True
 |k,y::ys=>((gt l k).v=y/\y.jG=true)/\OS l (k+1) ys
def IW{l:aU}:∀{ys:List SV}{k:Nat}(j:Nat){y:AV},OS l k ys->(aB ys)[j]?=some y->(dn l<|k+j).av=y/\y.jG=true
 |[],k,j,y,_,h=>by simp[aB]at h
 |x::ys,k,j,y,hh,h=>by
  cases j with
  |zero=>simp[aB]at h;subst h;exact⟨by rw[dL,agQ,hh.1.1],by rw[pA];exact hh.1.2⟩
  |succ j=>
   have:=IW j hh.2 h
   grind
def Gt.n{l:aU}:∀{ys:List SV}{k:Nat},Gt l k ys->OS l k ys
 |[],_,_=>trivial
 |y::ys,k,h=>⟨⟨h.1.1,by have:=h.1.2;cases y<;>first|rfl|(simp[SV.plain]at this)⟩,Gt.n h.2⟩
def SE(P:Program)(rs:List ResultVar)(r:SV)(c:List SV)(σ:St):Prop:=∃l a,σ=dn l/\ur l a/\(∃b,ja P (dn<|sl a) rs=some b/\uq (rS b) r.den)/\OS (sl a) 1000000 c
variable{tt:TT}{F:St->Prop}{k:List It}{l:aU}
def sE{f:FuncId}{fn:Func}{c:Code}{H args b:List SV}{r:SV}(m:P.funcs[f]?=some fn)(o:fn.body=some c)(hn:(fn.name== "runtime.NumGoroutine")=false)(d:Nat.ble (len args) fn.ntmps=true)(p:Nat.ble fn.ntmps 1000000=true)
 (n:eG fn.results.toList []=true)(h:AK R0 P fn.ntmps (SE P fn.results.toList r b) [.code c] (RO args H)):lp P f H args b r:=by
 refine FH (Q:=SE P fn.results.toList r b) m o hn (by rw[bB,<-fH];simp_all) (ae4 p) n ?_ ?_
 ·rw[<-RN];exact jr (h:AW R0 P fn.ntmps c (iR R0 P fn.ntmps (SE P fn.results.toList r b) []) (dn<|RO args H)) λe g h=>by cases e<;>exact h
 rintro u⟨l,i,rfl,t,s,q⟩V w0 S0 a w hi;exact⟨dn<|sl i,Gr t hi,s,λk y j=>IW k q j⟩
def Zq(hA:cH P tt){rs:List ResultVar}{r:SV}{a:List SV}{xs:List SV}(l':List (Nat×SV))(c:Aj l l')(h:iB tt (sl l') rs=some xs)(b:ar (vK xs) r)(hh:OS (sl l') 1000000 a):
 AK R P N (SE P rs r a) [] l:=by
 refine⟨l,l',W,c.Hj,⟨_,nk hA h,?_⟩,hh⟩;rw[vJ];exact uq.of_le b.den
def HX(x:SR):Option (Nat×SV):=
 match x.sl.v with
 |.bC r _ _ _=>some (r,x.rt.v)
 |.ptr r _ _ _=>some (r,x.rt.v)
 |y=>match y.aG with
  |true=>none
  |false=>match x.s with
   |some s=>some (s,y)
   |none=>none
def jK:List (Nat×SV)->List (Nat×AV)
 |[]=>[]
 |(r,y)::R=>(r,y.den)::jK R
def Dp:List (Nat×SV)->Nat->Option Nat
 |[],_=>none
 |(r,_)::R,s=>match Nat.beq r s with
  |true=>some 0
  |false=>match Dp R s with
   |some k=>some (k+1)
   |none=>none
def pt:∀(R:List (Nat×SV))(s:Nat),iP (jK R) s=Dp R s
 |[],s=>rfl
 |(r,y)::R,s=>by
  simp[jK,iP,Dp,pt R s];cases h:Nat.beq r s with
  |true=>simp_all
  |false=>rw[if_neg λe=>by subst e;simp at h];cases Dp R s<;>rfl
def HY{x:bY}(h:x.sl.av.jG=true):qX x=if x.sl.av.aG then none else x.s.map λs=>(s,x.sl.av):=by unfold qX;cases hh:x.sl.av<;>rw[hh]at h<;>first|(simp[AV.jG]at h;done)|(dsimp only;split<;>first|rfl|(cases x.s<;>rfl))
def HW{x:SR}(h:x.sl.v.jG=true):HX x=if x.sl.v.aG then none else x.s.map λs=>(s,x.sl.v):=by unfold HX;cases hh:x.sl.v<;>rw[hh]at h<;>first|(simp[SV.jG]at h;done)|(dsimp only;split<;>rename_i a<;>simp[a]<;>first|rfl|(cases x.s<;>rfl))
def N2(x:SR):qX x.den=(HX x).map λq=>(q.1,q.2.den):=by
 cases a:x.sl.v.jG with
 |true=>
  rw[HW a,HY (x:=x.den)<|by rw[<-a,<-pA];rfl];have e:x.den.sl.av=x.sl.v.den:=W;have b:x.den.s=x.s:=W;rw[e,b,cO];split
  ·rfl
  cases x.s<;>rfl
 |false=>obtain⟨s,⟨v,g1,g2⟩,rt⟩:=x;cases v<;>first|(simp[SV.jG]at a;done)|rfl|(cases s<;>rfl)
def eP:List (Nat×SV)->List SR->List (Nat×SV)
 |R,[]=>R
 |R,x::xs=>match HX x with
  |some (r,y)=>match Dp R r with
   |some _=>eP R xs
   |none=>eP (cat R [(r,y)]) xs
  |none=>eP R xs
def JB:∀(R:List (Nat×SV))(r:Nat)(y:SV),jK (cat R [(r,y)])=jK R++[(r,y.den)]
 |[],r,y=>rfl
 |(s,z)::R,r,y=>by simp[cat,jK,JB R r y]
def lK:∀(R:List (Nat×SV))(xs:List SR),dD (jK R) (xs.map SR.den)=jK (eP R xs)
 |R,[]=>rfl
 |R,x::xs=>by
  simp[dD,eP,N2];cases HX x with
  |none=>exact lK R xs
  |some q=>
   obtain⟨r,y⟩:=q;simp[pt];cases Dp R r with
   |some k=>exact lK R xs
   |none=>rw[<-JB];exact lK _ xs
def LV(R:List (Nat×SV))(x:SR):Option SV:=
 match x.sl.v with
 |.bC r g1 g2 p=>match Dp R r with
  |some k=>match eX (Nat.beq x.rt.g1 g1) (DN (kh p)<|Nat.beq x.rt.g2 g2)with
   |true=>some (.bC (1000000+k) 0 0 p)
   |false=>none
  |none=>none
 |.ptr r g1 g2 p=>match Dp R r with
  |some k=>match eX (Nat.beq x.rt.g1 g1) (DN (flat p)<|Nat.beq x.rt.g2 g2)with
   |true=>some (.ptr (1000000+k) 0 0 p)
   |false=>none
  |none=>none
 |y=>match y.aG with
  |true=>some y
  |false=>match x.s with
   |some s=>match Dp R s with
    |some k=>some (.bC (1000000+k) 0 0 [])
    |none=>none
   |none=>none
def LW{R:List (Nat×AV)}{x:bY}(h:x.sl.av.jG=true):tU R x=if x.sl.av.aG then some x.sl.av else match x.s with
 |some s=>match iP R s with
  |some k=>some (.bC (1000000+k) 0 0 [])
  |none=>none
 |none=>none:=by
 unfold tU;cases hh:x.sl.av<;>rw[hh]at h<;>first|(simp[AV.jG]at h;done)|rfl
def LU{R:List (Nat×SV)}{x:SR}(h:x.sl.v.jG=true):LV R x=match x.sl.v.aG with
 |true=>some x.sl.v
 |false=>match x.s with
  |some s=>match Dp R s with
   |some k=>some (.bC (1000000+k) 0 0 [])
   |none=>none
  |none=>none:=by
 unfold LV;cases hh:x.sl.v<;>rw[hh]at h<;>first|(simp[SV.jG]at h)|rfl
def Ss{R:List (Nat×SV)}{x:SR}{y:SV}(h:LV R x=some y):tU (jK R) x.den=some y.den:=by
 cases d:x.sl.v.jG with
 |true=>
  rw[LU d]at h;rw[LW (x:=x.den)<|by rw[<-d,<-pA];rfl];have e:x.den.sl.av=x.sl.v.den:=W;have j:x.den.s=x.s:=W;rw[e,j,cO];split at h
  ·simp_all
  rename_i c;rw[if_neg<|by rw[c];simp];split at h<;>try(cases h)
  rename_i s hs;split at h<;>try(cases h;done)
  rename_i k f;cases h;simp[pt,f,SV.den]
 |false=>
  obtain⟨s,⟨v,g1,g2⟩,rt⟩:=x;cases v with
  |bC r a b p=>
   simp[LV]at h;simp[tU,SR.den,Cl.den,pt];split at h<;>try(cases h)
   split at h<;>try(cases h;done)
   rename_i c;simp[aO,qS]at c;cases h;simp_all[SV.den]
  |ptr r a b p=>
   simp[LV]at h;simp[tU,SR.den,Cl.den,pt];split at h<;>try(cases h)
   split at h<;>try(cases h;done)
   rename_i c;simp[aO,qS]at c;cases h;simp_all[SV.den]
  |fS g i=>
   simp[LV,SV.aG]at h;simp[tU,SR.den,Cl.den,SV.den,pt,AV.aG,agw,if_false];cases s<;>simp only at h<;>try(cases h)
   split at h<;>try(cases h;done)
   rename_i f;cases h;simp[f,SV.den]
  |_=>simp[SV.jG]at d
def C9(R:List (Nat×SV)):List SR->Option (List SV)
 |[]=>some []
 |x::xs=>match LV R x with
  |some y=>match C9 R xs with
   |some ys=>some (y::ys)
   |none=>none
  |none=>none
def tC{R:List (Nat×SV)}:∀{xs:List SR}{ys:List SV},C9 R xs=some ys->sP (jK R) (xs.map SR.den)=some (aB ys)
 |[],ys,h=>by simp[C9]at h;subst h;rfl
 |x::xs,ys,h=>by
  simp[C9]at h;split at h<;>try(cases h)
  rename_i y c;split at h<;>try(cases h;done)
  rename_i b a;cases h;simp[sP,Ss c,tC a,aB]
def lD:List (Nat×SV)->List SV
 |[]=>[]
 |(_,y)::R=>y::lD R
def vy:∀(R:List (Nat×SV)),(jK R).map (·.2)=aB (lD R)
 |[]=>rfl
 |(r,y)::R=>by simp[jK,lD,aB,vy R]
def OX:List (Nat×SV)->List Nat
 |[]=>[]
 |(r,_)::R=>r::OX R
def tb:List SV->Bool
 |[]=>true
 |x::xs=>match x.plain with
  |true=>tb xs
  |false=>false
def iu:∀(xs:List SV),tb xs=true->nP (aB xs)=true
 |[],_=>rfl
 |x::xs,h=>by
  simp[tb]at h;split at h<;>try(cases h)
  rename_i a;simp[aB,nP,dj,a,iu xs h]
def T8:List (Nat×SV)->Option Nat->Bool
 |_,none=>false
 |[],_=>false
 |(r,_)::R,some d=>match Nat.beq r d with
  |true=>true
  |false=>T8 R<|some d
def we:∀(R:List (Nat×SV))(d:Option Nat),T8 R d=false->Iv (jK R) d=false
 |[],d,h=>by cases d<;>rfl
 |(r,y)::R,none,h=>rfl
 |(r,y)::R,some d,h=>by
  simp[T8]at h;split at h<;>try(cases h)
  rename_i a;simp only[jK,Iv];rw[if_neg λe=>by subst e;simp at a,we R (some d) h]
structure aaj where
 g:FuncId
 asx:List SV
 R:List (Nat×SV)
def sw(l:aU)(f:Operand)(asx:List Operand):Option (List Pd×aaj):=
 (dW l f).bind λf=>(c6 f).bind λ(d,v)=>match v with
   |.fn (.func g) first a=>(TL<|eX (gE first)<|gE a).bind λ_=>(jQ l asx).bind λc=>match eP [] c with
    |R=>(C9 R c).bind λb=>(TL<|Nat.ble (len first+len b+len a) 1000000).bind λ_=>some (d,⟨g,cat first<|cat b a,R⟩)
   |_=>none
def xf(l:aU):List (Nat×SV)->List SV->aU
 |[],_=>l
 |(r,_)::R,ys=>match ys with
  |[]=>l
  |y::ys=>match gt l r with
   |⟨_,a,b⟩=>(r,⟨y,a,b+1⟩)::xf l R ys
def kr(l:aU):∀(R:List (Nat×SV))(ys:List SV),lh (dn l) (oh (jK R)<|aB ys)=dn (xf l R ys)
 |[],ys=>rfl
 |(r,z)::R,[]=>rfl
 |(r,z)::R,y::ys=>by simp[jK,aB,oh,lh,xf,fR,kr l R ys,Cl.den,zS,Nb]
def ij(l:aU)(a:Option Nat)(R:List (Nat×SV))(out:List SV)(r:SV):Option (aU×List Nat):=
 match eX (Nat.beq (len R)<|len out) (eX (tb<|lD R)<|eX (tb out)<|eX r.plain<|not'<|T8 R a)with
 |false=>none
 |true=>match a with
  |none=>some (xf l R out,OX R)
  |some d=>aan (xf l R out) [] d r λb=>some (b,cat (OX R) [d])
def nU:∀(R:List (Nat×SV))(ys:List SV),len R=len ys->(oh (jK R)<|aB ys).map (·.1)=OX R
 |[],ys,_=>by cases ys<;>rfl
 |(r,z)::R,[],h=>by simp[fH]at h
 |(r,z)::R,y::ys,h=>by simp[jK,aB,oh,OX];rw[nU R ys<|by simpa[fH]using h]
def CL(R:List (Nat×SV)):(jK R).length=R.length:=by
 induction R with
 |nil=>rfl
 |cons q R a=>obtain⟨r,y⟩:=q;simp[jK,a]
def Xk{b:Option Nat}{f:Operand}{asx:List Operand}{p:List Pd}{h:aaj}{out:List SV}{r:SV}{l':aU}{q:List Nat}(hh:sw l f asx=some (p,h))(y:bo p)(e:ij l b h.R out r=some (l',q)):
 ∃n,Ai.uo b (resolve (dn l) f) (asx.map<|resolve<|dn l) (aB out) r.den=some (n,[.refs h.g (aB<|lD h.R) (aB h.asx) (aB out) r.den])/\Mv.runs (dn l) n=some (dn l')/\bc n=q:=by
 simp[sw,ads]at hh;obtain⟨x,J,u,v,H,j⟩:=hh;cases v<;>try(cases j)
 rename_i fn first a
 cases fn<;>try(cases j)
 rename_i g;simp only[ads,bE,aO,ae0]at j;obtain⟨_,⟨D,C⟩,i,t,o,B,_,A,rfl,rfl⟩:=j;have z:x.den.cont=some (.fn (.func g) (aB first)<|aB a):=aF H y;simp[ij]at e;split at e<;>try(cases e)
 rename_i s;simp[aO,not_iff]at s;obtain⟨m,T,Q,O,M⟩:=s;have L:dD [] (asx.map<|resolve<|dn l)=jK (eP [] i):=by rw[fo l t];exact lK [] i
 have K:sP (jK<|eP [] i) (asx.map<|resolve<|dn l)=some (aB o):=by rw[fo l t];exact tC B
 have c:Ai.uo b (resolve (dn l) f) (asx.map<|resolve<|dn l) (aB out) r.den=some (gF b r.den [.back<|oh (jK<|eP [] i)<|aB out],[.refs g (aB<|lD<|eP [] i) (aB<|cat first<|cat o a) (aB out) r.den]):=by
  unfold Ai.uo;rw[c8 J,z];simp only[dV,D,C,ag7,if_true,L,K,vy];rw[if_pos]
  ·simp[cX,cn]
  simp[iu _ T,iu _ Q,dj,O,we _ _ M,CL,bB,Bool.not_false,ag7,Bool.and_true,afa,adD,decide_eq_true_eq];have:=ae4 A;simp[fH]at this m;exact⟨m,this⟩
 refine⟨_,c,?_⟩;cases b with
 |none=>cases e;exact⟨by simp[gF,Mv.runs,Mv.run,kr],by simp[gF,bc,Mv.keys,afN];exact nU _ _ m⟩
 |some d=>simp[jd,ada,ae0]at e;obtain⟨rfl,rfl⟩:=e;exact⟨by simp[gF,agx,afS,Mv.runs,Mv.run,kr,iL],by simp[gF,agx,afS,bc,Mv.keys,afN,cX];rw[nU _ _ m]⟩
def FN{all:Array Oper}{a:Option Nat}{f:Operand}{asx d:Array _}{ty:TypeId}{pos:String}{c:Array Edge}{g:Option (Nat×Bool)}{K:List Mv->St->Prop}{e:List Pd}{h:aaj}{out:List SV}{r:SV}{l':aU}{i:List Nat}
 (p:cV l all.toList g=some true)(hh:sw l f asx.toList=some (e,h))(m:bo e)(hs:lp P h.g (lD h.R) h.asx out r)(j:ij l a h.R out r=some (l',i))(n:∀b,bc b=i->K b (dn l')):
 Mo P all ⟨a,.call ⟨.value f,asx,d⟩,ty,pos,c,g⟩ (dn l) K:=by
 obtain⟨b,t,s,q⟩:=Xk hh m j;refine⟨.refs (aB out) r.den,b,[.refs h.g (aB<|lD h.R) (aB h.asx) (aB out) r.den],dn l',?_,?_,s,n b q⟩
 ·unfold fu;rw[dS (o:=⟨a,.call ⟨.value f,asx,d⟩,ty,pos,c,g⟩) p];exact t
 simp;exact hs
def Pe{all:Array Oper}{rest:List Oper}{a:Option Nat}{f:Operand}{asx d:Array _}{ty:TypeId}{pos:String}{b:Array Edge}{g:Option (Nat×Bool)}{c:List Pd}{h:aaj}{out:List SV}{r:SV}{l':aU}{e:List Nat}
 (n:cV l all.toList g=some true)(hh:sw l f asx.toList=some (c,h))(j:bo c)(hs:lp P h.g (lD h.R) h.asx out r)(i:ij l a h.R out r=some (l',e))(m:AK R P N F (.ops all rest::k) l'):
 AK R P N F (.ops all (⟨a,.call ⟨.value f,asx,d⟩,ty,pos,b,g⟩::rest)::k) l:=by
 exact FN n hh j hs i λo _=>m
def LM{all:Array Oper}{j:List Nat}{c:List (List Nat×List Nat)}{rest:List Oper}{a:Option Nat}{f:Operand}{asx e:Array _}{ty:TypeId}{pos:String}{b:Array Edge}{g:Option (Nat×Bool)}{i:List Pd}{h:aaj}{out:List SV}{r:SV}{l':aU}{m:List Nat}
 (q:cV l all.toList g=some true)(hh:sw l f asx.toList=some (i,h))(o:bo i)(hs:lp P h.g (lD h.R) h.asx out r)(n:ij l a h.R out r=some (l',m))
 (p:AK R P N F (.ng all j rest ((iD (dn l) all ⟨a,.call ⟨.value f,asx,e⟩,ty,pos,b,g⟩,m)::c)::k) l'):
 AK R P N F (.ng all j (⟨a,.call ⟨.value f,asx,e⟩,ty,pos,b,g⟩::rest) c::k) l:=by
 exact FN q hh o hs n λs d=>by rw[d];exact p
def VI(tt:TT)(l:aU)(d:Nat)(t:TypeId)(x:SR)(lo hi:Option SR):og:=
 (slice? tt t).bind λe=>(Fw tt e).bind λti=>(c6 x).bind λ(g,v)=>(ss v).bind λ(sz,n)=>(TL<|eX (lN v)<|Nat.beq sz ti.size).bind λ_=>(CO 0 0 v).bind λ_=>
   (oZ lo 0).bind λ(f,a)=>(oZ hi n).bind λ(c,b)=>(xJ x).bind λ(r,g1,_,p)=>(TL<|ne' r d).bind λ_=>da ((a<b)::(b<=n)::app g (app f c)) l d (.bC r g1 (match x.sl.v with|.bC .. =>x.rt.g2|_=>x.sl.g2)<|p++[.lZ sz a<|b-a])
def Jj(hA:cH P tt)(d:Nat)(t:TypeId)(x:SR)(lo hi:Option SR):de l (PF P d t x.den (lo.map SR.den)<|hi.map SR.den) (VI tt l d t x lo hi):=by
 refine ak _ λe O=>ak _ λti M=>ak _ λ⟨Z,v⟩L=>ak _ λ⟨sz,n⟩K=>bk λi=>ak _ λz J=>ak _ λ⟨B,a⟩H=>ak _ λ⟨A,b⟩D=>ak _ λ⟨r,g1,g2,p⟩C=>bk λj=>Nt _ _ λc=>?_
 obtain⟨k1,k2,c⟩:=c;obtain⟨Y,c⟩:=aS.1 c;obtain⟨T,Q⟩:=aS.1 c;rw[aO,beq_iff]at i;obtain⟨f,X,u,q⟩:=lQ K;obtain⟨y,X2,m,-⟩:=JF J;rw[u]at m;obtain⟨rfl,rfl,rfl⟩:=m;have hc:=aF L Y;rw[u,i.1]at hc;have o:=eD D Q;rw[<-q]at o;have h:=i.2;have g:bY.gen x.den=match x.sl.v with|.bC .. =>x.rt.g2|_=>x.sl.g2:=by obtain⟨s,⟨v,g1,g2⟩,rt⟩:=x;cases v<;>rfl
 unfold PF;simp only[vA hA O,j7 hA M,hc,fl,eD H T,o,nQ,C,g];rw[if_pos ⟨h,k1,by rw[q];exact k2⟩,if_neg<|ne_iff.1 j]
def yh(tt:TT)(l:aU)(d:Nat)(t:TypeId)(x:Operand)(a b:Option Operand):og:=(dW l x).bind λx=>(ev.F8 l a).bind λa=>(ev.F8 l b).bind λb=>VI tt l d t x a b
def Qg(hA:cH P tt){all:Array Oper}{d:Nat}{t:TypeId}{x:Operand}{lo hi:Option Operand}{ty:TypeId}{pos:String}{b:Array Edge}{g:Option (Nat×Bool)}{K:List Mv->St->Prop}{c:List Pd}{l':aU}{e:List Nat}
 (p:cV l all.toList g=some true)(h:yh tt l d t x lo hi=some (c,l',e))(m:bo c)(n:∀a,bc a=e->K a (dn l')):
 Mo P all ⟨some d,.slice t x lo hi none,ty,pos,b,g⟩ (dn l) K:=by
 simp[yh,ads]at h;obtain⟨f,u,y,s,v,r,q⟩:=h;obtain⟨a,m1,j,i⟩:=Jj hA d t f y v c l' e q m;refine⟨.lZ,a,[],dn l',?_,I,j,n a i⟩;unfold fu;rw[dS (o:=⟨some d,.slice t x lo hi none,ty,pos,b,g⟩) p];simp[lv,c8 u,BH s,BH r,m1]
def Zd(hA:cH P tt){all:Array Oper}{rest:List Oper}{d:Nat}{t:TypeId}{x:Operand}{lo hi:Option Operand}{ty:TypeId}{pos:String}{a:Array Edge}{g:Option (Nat×Bool)}{b:List Pd}{l':aU}{c:List Nat}
 (i:cV l all.toList g=some true)(h:yh tt l d t x lo hi=some (b,l',c))(e:bo b)(f:AK R P N F (.ops all rest::k) l'):
 AK R P N F (.ops all (⟨some d,.slice t x lo hi none,ty,pos,a,g⟩::rest)::k) l:=by
 exact Qg hA i h e λj _=>f
def oN{c:Code}{r:Nat}{p:Path}{n:List Pd}{l':aU}(o:(gt l r).v.plain=true)(h:rM l r p=some (n,l'))(q:bo n)(s:AK R P N F (.code c::k) l'):AK R P N F (.code c::k) l:=by
 intro V w0 S0 a w u hi;refine s V w0 S0 a w u ?_;have d:=lG h q;simp[Mv.run]at d;split at d
 ·rename_i y t;split at d
  ·rename_i A hs;simp at d;rw[<-d];obtain⟨S,F,hc,x,j,i,g,m⟩:=hi;obtain⟨L,z,B,C,k1,k2,k3,k4,k5⟩:=hc.share r p (by rw[dL,dj];exact o) t hs;have f:=λb e=>(hc.own r b<|k5 b e).1;exact⟨_,_,k4,x,j,λb e=>.inl<|i b e,λb e=>e.elim (g b) λe=>.inr<|f b e,m⟩
  cases d
 cases d
def aeR{c:Code}{d r g1 g2:Nat}{p:Path}{y:SV}{C:List Pd}{l':aU}(T:(gt l d).v=.bC r g1 g2 p){g:List Pd}{j:SV}{q:SR}(K:(gt l r).v.plain=true)(J:dW l (.tmp d)=some q)(A:c6 q=some (g,j))(t:bo g)
 (h:adu l r d p=some (C,y,l'))(M:bo C)(O:AK R P N F (.code c::k) l'):AK R P N F (.code c::k) l:=by
 intro V w0 S0 a w X hi;refine O V w0 S0 a w X ?_;have f:=D0 h M;simp only[Mv.run]at f;split at f
 ·cases f
 rename_i u;split at f
 ·rename_i D Q;split at f
  ·rename_i Z hs;simp at f;rw[<-f];obtain⟨S,F,hc,Y,x,o,n,B⟩:=hi;have i:(dn l d).av=.bC r g1 g2 p:=by rw[dL,T];rfl
   obtain⟨L,z,F2,F',k1,k2,k3,k4,-⟩:=hc.take r d p u (by rw[dL,dj];exact K) Q hs;have b:(resolve (dn l)<|.tmp d).cont=some j.den:=by rw[c8 J];exact aF A t
   have m:D=j.den:=by have:=(CS i b).1;simp_all
   have H:=GZ hc i b k1 k2 (m▸k3);refine⟨S,F',?_,Y,x,o,n,B⟩;rw[H]at k4;have:iI (tv V a) d (tv V a d)=tv V a:=funext λs=>by
    by_cases e:s=d
    ·subst e;rw[aH]
    rw[b6 _ _ e]
   simp_all
  cases f
 cases f
end
section
variable{R:Option Nat->Prop}{P:Program}{N:Nat}{F:St->Prop}{k:List It}{l:aU}
section
variable{aft:Array Edge}{ts:Array _}{b:Bool}{K:List Mv->St->Prop}{ks:List Nat}{ob:List Pd}{f:Operand}{g:Option (Nat×Bool)}{J':tD}{r:SV}{l':aU}
def yb:List SR->Option (List Pd×List SV)
 |[]=>some ([],[])
 |x::xs=>(c6 x).bind λ(ob,y)=>(TL y.aG).bind λ_=>(yb xs).bind λ(a,ys)=>some (app ob a,y::ys)
def uX:∀{xs:List SR}{ob:List Pd}{ys:List SV},yb xs=some (ob,ys)->bo ob->sy (xs.map SR.den)=some (aB ys)
 |[],ob,ys,h,_=>by simp[yb]at h;obtain⟨rfl,rfl⟩:=h;rfl
 |x::xs,ob,ys,h,hc=>by simp only[yb,ads,bE,afF]at h;obtain⟨d,y,j,_,i,c,a,e,rfl,rfl⟩:=h;obtain⟨n,m⟩:=aS.1 hc;simp[sy,aF j n,cO,i,uX e m,aB]
structure J7 where
 C:Value->Prop
 J:tD
 asx:List SV
def IZ(l:aU)(f:Operand)(asx:List Operand):Option (List Pd×J7):=
 (dW l f).bind λx=>match x.sl.v with
   |.pv C=>match(gt l 1000000).v with
    |.abs J=>(jQ l asx).bind λc=>(yb c).bind λ(ob,a)=>some (ob,⟨C,J,a⟩)
    |_=>none
   |_=>none
def Mf(l:aU)(a:Option Nat)(J':tD)(b:Bool):Option (aU×List Nat):=
 match a with
 |none=>some (xf l [(1000000,.dead)] [.abs J'],[1000000])
 |some d=>aan (xf l [(1000000,.dead)] [.abs J']) [] d (.u b) λl'=>some (l',[1000000,d])
def Qf{all:Array Oper}{a:Option Nat}{asx:Array _}{ty:TypeId}{pos:String}{h:J7}
 (u:cV l all.toList g=some true)(hh:IZ l f asx.toList=some (ob,h))(s:bo ob)(hs:∀v,h.C v->Yields P h.J J' (aB h.asx) b v)(n:Mf l a J' b=some (l',ks))(t:∀m,bc m=ks->K m (dn l')):
 Mo P all ⟨a,.call ⟨.value f,asx,ts⟩,ty,pos,aft,g⟩ (dn l) K:=by
 simp[IZ,ads]at hh;obtain⟨x,B,c⟩:=hh;split at c<;>try(cases c)
 rename_i C y;split at c<;>try(cases c)
 rename_i J w;simp[ads,ae0]at c;obtain⟨M,A,q,j,z,rfl,rfl⟩:=c;have L:(resolve (dn l) f).sl.av=.pv C:=by rw[c8 B];show x.sl.v.den=_;rw[y];rfl
 have H:(dn l 1000000).av=.abs J:=by rw[dL,w];rfl
 have D:sy (asx.toList.map<|resolve<|dn l)=some (aB j):=by rw[fo l A];exact uX z s
 have p:lh (dn l) [(1000000,.abs J')]=dn (xf l [(1000000,.dead)] [.abs J']):=kr l [(1000000,.dead)] [.abs J'];have e:lv P (dn l) ⟨a,.call ⟨.value f,asx,ts⟩,ty,pos,aft,g⟩ (.PC J' b)=some (gF a (.v<|.bool b) [.back [(1000000,.abs J')]],[.PC C J J' (aB j) b]):=by simp[lv,L,H,D]
 have i:Mv.runs (dn l) (gF a (.v<|.bool b) [.back [(1000000,.abs J')]])=some (dn l')/\bc (gF a (.v<|.bool b) [.back [(1000000,AV.abs J')]])=ks:=by
  cases a with
  |none=>obtain⟨rfl,rfl⟩:=n;exact⟨by simp[gF,Mv.runs,Mv.run,p],fb⟩
  |some d=>obtain⟨rfl,rfl⟩:=n;refine⟨?_,fb⟩;have:=iL (xf l [(1000000,.dead)] [.abs J']) [] d<|.u b;simp only[gF,agx,Mv.runs,Mv.run,p];exact congrArg some this
 refine⟨.PC J' b,_,[.PC C J J' (aB j) b],dn l',?_,?_,i.1,t _ i.2⟩
 ·unfold fu;rw[dS (o:=⟨a,.call ⟨.value f,asx,ts⟩,ty,pos,aft,g⟩) u];exact e
 simp[Ob.ok];exact hs
def V4{all:Array Oper}{rest:List Oper}{a:Option Nat}{asx:Array _}{ty:TypeId}{pos:String}{h:J7}
 (i:cV l all.toList g=some true)(hh:IZ l f asx.toList=some (ob,h))(d:bo ob)(hs:∀v,h.C v->Yields P h.J J' (aB h.asx) b v)(c:Mf l a J' b=some (l',ks))(e:AK R P N F (.ops all rest::k) l'):
 AK R P N F (.ops all (⟨a,.call ⟨.value f,asx,ts⟩,ty,pos,aft,g⟩::rest)::k) l:=by
 exact Qf i hh d hs c λj _=>e
def PD{all:Array Oper}{e:List Nat}{c:List (List Nat×List Nat)}{rest:List Oper}{a:Option Nat}{asx:Array _}{ty:TypeId}{pos:String}{h:J7}
 (n:cV l all.toList g=some true)(hh:IZ l f asx.toList=some (ob,h))(j:bo ob)(hs:∀v,h.C v->Yields P h.J J' (aB h.asx) b v)(i:Mf l a J' b=some (l',ks))
 (m:AK R P N F (.ng all e rest ((iD (dn l) all ⟨a,.call ⟨.value f,asx,ts⟩,ty,pos,aft,g⟩,ks)::c)::k) l'):
 AK R P N F (.ng all e (⟨a,.call ⟨.value f,asx,ts⟩,ty,pos,aft,g⟩::rest) c::k) l:=by
 exact Qf n hh j hs i λo d=>by rw[d];exact m
structure acj where
 g:FuncId
 C:Value->Prop
 J:tD
 asx:List SV
def acb(l:aU)(f:Operand)(asx:List Operand):Option (List Pd×acj):=
 match asx with
 |[]=>none
 |x::d=>(dW l x).bind λz=>match z.sl.v with
  |.pv C=>(dW l f).bind λq=>(c6 q).bind λ(a,y)=>match y with
   |.fn (.func g) [] []=>match(gt l 1000000).v with
    |.abs J=>(jQ l d).bind λe=>(yb e).bind λ(ob,c)=>some (app a ob,⟨g,C,J,c⟩)
    |_=>none
   |_=>none
  |_=>none
def ab1(l:aU)(a:Option Nat)(J':tD)(r:SV):Option (aU×List Nat):=
 match a with
 |none=>some (xf l [(1000000,.dead)] [.abs J'],[1000000])
 |some d=>aan (xf l [(1000000,.dead)] [.abs J']) [] d r λl'=>some (l',[1000000,d])
def acG{all:Array Oper}{a:Option Nat}{asx:Array _}{ty:TypeId}{pos:String}{h:acj}
 (D:cV l all.toList g=some true)(hh:acb l f asx.toList=some (ob,h))(A:bo ob)(hs:ZP P h.g h.C h.J J' (aB h.asx) r.den)(n:ab1 l a J' r=some (l',ks))(B:∀s,bc s=ks->K s (dn l')):
 Mo P all ⟨a,.call ⟨.value f,asx,ts⟩,ty,pos,aft,g⟩ (dn l) K:=by
 unfold acb at hh;split at hh<;>try(cases hh)
 rename_i x u e;simp[ads]at hh;obtain⟨z,T,c⟩:=hh;split at c<;>try(cases c)
 rename_i C L;simp[ads,afF]at c;obtain⟨q,O,v,y,M,c⟩:=c;split at c<;>try(cases c)
 rename_i p;split at c<;>try(cases c)
 rename_i J H;simp[ads,afF,ada,ae0]at c;obtain⟨us,S,w,m,Q,rfl,rfl⟩:=c;obtain⟨c1,c2⟩:=aS.1 A;have Z:(resolve (dn l) x).sl.av=.pv C:=by rw[c8 T];show z.sl.v.den=_;rw[L];rfl
 have Y:(dn l 1000000).av=.abs J:=by rw[dL,H];rfl
 have X:sy (u.map<|resolve<|dn l)=some (aB m):=by rw[fo l S];exact uX Q c2
 have V:(resolve (dn l) f).cont=some (.fn (.func p) [] []):=by rw[c8 O];exact aF M c1
 have t:lh (dn l) [(1000000,.abs J')]=dn (xf l [(1000000,.dead)] [.abs J']):=kr l [(1000000,.dead)] [.abs J'];have i:lv P (dn l) ⟨a,.call ⟨.value f,asx,ts⟩,ty,pos,aft,g⟩ (.WL J' r.den)=some (gF a r.den [.back [(1000000,.abs J')]],[.WL p C J J' (aB m) r.den]):=by simp[lv,e,Z,Y,X,V]
 have j:Mv.runs (dn l) (gF a r.den [.back [(1000000,.abs J')]])=some (dn l')/\bc (gF a r.den [.back [(1000000,AV.abs J')]])=ks:=by
  cases a with
  |none=>obtain⟨rfl,rfl⟩:=n;exact⟨by simp[gF,Mv.runs,Mv.run,t],fb⟩
  |some d=>simp[ab1,jd,ada,ae0]at n;obtain⟨rfl,rfl⟩:=n;refine⟨?_,fb⟩;have:=iL (xf l [(1000000,.dead)] [.abs J']) [] d r;simp only[gF,agx,afS,Mv.runs,Mv.run,t];simp_all
 refine⟨.WL J' r.den,_,[.WL p C J J' (aB m) r.den],dn l',?_,?_,j.1,B _ j.2⟩
 ·unfold fu;rw[dS (o:=⟨a,.call ⟨.value f,asx,ts⟩,ty,pos,aft,g⟩) D];exact i
 simp[agl,forall_eq,Ob.ok];exact hs
def ab8{all:Array Oper}{rest:List Oper}{a:Option Nat}{asx:Array _}{ty:TypeId}{pos:String}{h:acj}
 (i:cV l all.toList g=some true)(hh:acb l f asx.toList=some (ob,h))(d:bo ob)(hs:ZP P h.g h.C h.J J' (aB h.asx) r.den)(c:ab1 l a J' r=some (l',ks))(e:AK R P N F (.ops all rest::k) l'):
 AK R P N F (.ops all (⟨a,.call ⟨.value f,asx,ts⟩,ty,pos,aft,g⟩::rest)::k) l:=by
 exact acG i hh d hs c λj _=>e
end
end
def mq{f:Nat->List Nat}:∀n,((List.range n).flatMap f).Nodup↔(∀j,j<n->(f j).Nodup)/\∀i j,i<n->j<n->i≠j->∀c∈f i,c∉f j
 |0=>I
 |n+1=>by
  rw[ah3,aiu,aeJ,mq n];have e:[n].flatMap f=f n:=I;rw[e];constructor
  ·rintro⟨⟨g,h⟩,m,k⟩;have l:=λj b c hc a=>k c (agc.2 ⟨j,agm.2 b,hc⟩) c a W;refine⟨λj b=>?_,λi j hi b d c hc a=>?_⟩
   ·grind
   grind
  rintro⟨g,h⟩;refine⟨⟨λj b=>g j E,λi j hi b d=>h i j E E d⟩,g n E,λc hc o a e=>?_⟩
  grind
def abZ(fn:FuncId)(tmps:Array Value)(ps:Array Tmp)(assign body:Code)(D:Nat)(pe:Option Code):Loop:={state:=if pe.isNone then .ready else .done,pending:=pe,fn,tmps,params:=ps,assign,body,defers:=D}
def Jr(cs:List (AV×Value))(ex:List Nat)(T:Nat->Value)(l D:Nat)(r:Option Code->Loop)(pe:Option Code)(y:List AV):tD:=λw S F=>
 ∃a:Nat->List Nat,F.Perm (D::l::(List.range ex.length).flatMap a)/\(∀(j:Nat)(v:AV),y[j]?=some v->j<ex.length->Rel w S v (T<|ex.getD j 0) (a j))/\
  (∀q∈cs,Rel w S q.1 q.2 [])/\w.heap[l]?=some (.loop<|r pe)/\w.heap[D]?=some (.deferred<|some [])
def Jr.closed{cs:List (AV×Value)}{ex:List Nat}{T:Nat->Value}{l D:Nat}{r:Option Code->Loop}{pe:Option Code}{y:List AV}{w:World}{S:Nat->Prop}{F:List Nat}(h:Jr cs ex T l D r pe y w S F):tD.here (Jr cs ex T l D r pe y) w S F:=by
 intro p t g f;obtain⟨i,e,m,d,hl,s⟩:=h;have hm:∀c,c∈F↔c∈D::l::(List.range ex.length).flatMap i:=λc=>e.mem_iff;refine⟨i,e,λj v k o=>?_,λq n=>Rel.mono f _<|Rel.frame _ (d q n) λb a=>g b<|.inl<|by simpa using a,?_,?_⟩
 ·refine Rel.mono f _ (Rel.frame _ (m j v k o) λb a=>g b<|a.imp id λa=>(hm b).2 ?_)
  grind
 ·simp_all
 simp_all
def YD(d:List AV)(b:Bool)(a:Option Code):Exit->St->Prop:=λe c=>
 (match e with
   |.normal=>b=true/\a=none
   |.ret=>b=false/\a=some .ret
   |.exit id=>b=false/\a=some (.exit id)
   |_=>False)/\∀(j:Nat)(v:AV),d[j]?=some v->(c<|1000000+j).av=v/\v.plain=true
section
variable{P:Program}{N:Nat}
def aT.We{S B:Nat->Prop}{σ:St}{T:Nat->Value}{w w':World}{F:Nat->List Nat}(h:aT S B σ T w F)(hs:w'.heap.size=w.heap.size)(c:∀b,(S b\/∃i,b∈F i)->w'.heap[b]?=w.heap[b]?):aT S B σ T w' F:=
 h.step (w':=w') (S':=S) ⟨λ_=>.refl,λ_=>.refl,λ_ _=>rfl,λ_ _ _=>⟨λ_ y d=>⟨y,d⟩,λb a=>c b<|a.imp id λa=>⟨_,a⟩⟩⟩ (λ_ h=>h)
  (λi=>.inl ⟨W,W,W,λb a=>c b<|a.imp id λa=>⟨i,a⟩⟩) h.nodup h.du (λi b a=>by rw[hs];exact h.own i b a) (λb a=>by rw[hs];exact h.shr b a)
def FO(hN:N<=1000000){fn:FuncId}{tmps:Array Value}{ps:Array Tmp}{assign body:Code}{l D:Nat}{cs:List (AV×Value)}{ex:List Nat}{T:Nat->Value}{y y' x:List AV}{b:Bool}{jump:Option Code}{σB:St}
 (ht:tmps.size=N)(hx:x.length=ps.size)(hy':y'.length=ex.length)
 (hstart:∀(w:World)(S:Nat->Prop)(FF:Nat->List Nat)(vs:List Value)(V:Hid),(∀q∈cs,Rel w S q.1 q.2 [])->(∀(j:Nat)(v:AV),y[j]?=some v->j<ex.length->Rel w S v (T<|ex.getD j 0) (FF j))->
   (∀j,j<ex.length->(FF j).Nodup)->(∀i j,i<ex.length->j<ex.length->i≠j->∀c∈FF i,c∉FF j)->(∀j,j<ex.length->∀c∈FF j,c<w.heap.size/\¬S c)->(∀c,S c->c<w.heap.size)->Cells w S false x vs []->
   V.v=(λi=>T<|ex.getD (i-1000000) 0)->(∀j,j<ex.length->∀c∈FF j,V.g c)->
   aT S (cQ V w) σB (tv V {tmps:=(ps.zip vs.toArray).foldl (λtmps(t,a)=>tmps.setIfInBounds t a) tmps,defers:=[]}) w λi=>if 1000000<=i/\i-1000000<ex.length then FF (i-1000000)else[])
 (hcode:AW R1 P N assign (λe σ1=>e=.normal/\AW R1 P N body (YD y' b jump) σ1) σB):
 Yields P (Jr cs ex T l D (abZ fn tmps ps assign body D) none y) (Jr cs ex T l D (abZ fn tmps ps assign body D) jump y') x b (.func (.yield l) #[] #[]):=by
 refine⟨l,W,λrd w S F vs hLd hNT hJ hnd hF hS hargs=>?_⟩;obtain⟨FF,hp,hrel,hcs,hl,hD⟩:=hJ w S (λ_ _=>rfl) λ_ h=>h;have hm:∀c,c∈F↔c∈D::l::(List.range ex.length).flatMap FF:=λc=>hp.mem_iff;have hnd2:=hp.nodup_iff.1 hnd;obtain⟨hD1,hnd3⟩:=afv.1 hnd2;obtain⟨hl1,hnd4⟩:=afv.1 hnd3;have hlD:l≠D:=λe=>hD1 (by simp[e]);have hin:∀j,j<ex.length->∀c∈FF j,c∈(List.range ex.length).flatMap FF:=λj hj c hc=>agc.2 ⟨j,agm.2 hj,hc⟩;have hlF:l∈F:=(hm l).2 I;have hDF:D∈F:=(hm D).2 I;have hFF:∀j,j<ex.length->∀c∈FF j,c∈F:=λj hj c hc=>(hm c).2 (by grind);have hvl:=Cells.length hargs;refine⟨_,_,_,_,run_yield hl<|by show vs.toArray.size=ps.size;simp;omega,roundIn_of_wpIn U ?_⟩;obtain⟨a1,ha1⟩:∃a1:Act,a1={tmps:=(ps.zip vs.toArray).foldl (λtmps(t,a)=>tmps.setIfInBounds t a) tmps,defers:=[]}:=⟨_,W⟩;obtain⟨VB,hVB⟩:∃VB:Hid,VB={v:=λi=>T<|ex.getD (i-1000000) 0,g:=λc=>∃j,j<ex.length/\c∈FF j,rd:=some l,df:=[]}:=⟨_,W⟩;have hg:∀c,VB.g c->c∈F/\c∈(List.range ex.length).flatMap FF:=by simp_all
 have hgl:¬VB.g l:=λh=>hl1 (hg l h).2;have hgD:¬VB.g D:=λh=>hD1 (by simp[(hg D h).2]);obtain⟨hnodj,hdisj⟩:=(mq ex.length).1 hnd4;have hcore:=hstart w S FF vs VB hcs hrel hnodj hdisj (λj hj c hc=>hF c<|hFF j hj c hc) hS hargs (by rw[hVB]) (λj hj c hc=>by rw[hVB];exact⟨j,hj,hc⟩);rw[<-ha1]at hcore;have hsz1:a1.tmps.size=N:=by
  rw[ha1];rw[<-ht];have:∀(q:List (Tmp×Value))(t:Array Value),(q.foldl (λtmps p=>tmps.setIfInBounds p.1 p.2) t).size=t.size:=by
   intro q
   induction q with
   |nil=>intro t;rfl
   |cons p q ih=>simp_all
  rw[<-ahY];exact this _ tmps
 have hinv:Inv N VB w S σB a1 w:=⟨S,_,hcore,hsz1,by rw[ha1,hVB],λ_ h=>h,λ_ h=>.inl h,lW.refl _ _⟩;have hrd:VB.rd=some l:=by rw[hVB]
 have hA:=hcode VB w S a1 w ⟨U,hLd,hNT.mono λb hb=>(hg b hb).1⟩ hinv;rw[hrd,ha1]at hA;refine wpIn_mono hA ?_;rintro e a2 w2⟨σ1,⟨rfl,h1⟩,S2,F2,ds2,hc2,hN2,hdf2,hs1,hs2,hk2,hm2⟩;have hlw:l<w.heap.size:=(af8.1 hl).1;have hDw:D<w.heap.size:=(af8.1 hD).1;have hno:∀c,c<w.heap.size->¬VB.g c->¬cQ VB w c:=λc h h' hh=>hh.elim (λhh=>E) h';have hl2:w2.heap[l]?=some (.loop<|abZ fn tmps ps assign body D none):=by rw[hk2.block l hlw hgl];exact hl
 have hlS2:¬S2 l:=λh=>(hs2 l h).elim (hF l hlF).2<|hno l hlw hgl;have hlF2:∀i,l∉F2 i:=λi h=>hno l hlw hgl (hc2.own i l h).1;have hlw2:l<w2.heap.size:=(af8.1 hl2).1;refine⟨_,run_beginRound hl2<|by simp[abZ],?_⟩;obtain⟨w3,hw3⟩:∃w3,w3=w2.putObj l (.loop {abZ fn tmps ps assign body D none with state:=.busy}):=⟨_,W⟩;rw[<-hw3];have h3s:w3.heap.size=w2.heap.size:=eW;have h3o:∀k,k≠l->w3.heap[k]?=w2.heap[k]?:=λk hk=>by rw[hw3];exact World.putObj_heap_other hk
 have h3l:w3.heap[l]?=some (.loop {abZ fn tmps ps assign body D none with state:=.busy}):=by rw[hw3];exact World.putObj_heap_same hlw2
 have hc3:=hc2.We h3s λb hb=>h3o b λe=>by grind
 obtain⟨V2,hV2⟩:∃V2,V2=VB.Su F2 a2.defers:=⟨_,W⟩;have hi3:Inv N V2 w3 S2 σ1 a2 w3:=by rw[hV2];exact⟨S2,F2,⟨hc3.rel,hc3.nodup,hc3.du,λi b hb=>⟨.inr ⟨i,hb⟩,(hc3.own i b hb).2⟩,hc3.shr⟩,hN2,W,λ_ h=>h,λ_ h=>.inl h,lW.refl _ _⟩
 have hg2:∀c,V2.g c->VB.g c\/w.heap.size<=c:=by rw[hV2];rintro c⟨i,h⟩;exact(hc2.own i c h).1.symm
 have hsz2:=hk2.size;have hno2:∀c,c<w.heap.size->¬VB.g c->¬cQ V2 w3 c:=by
  intro c h h' hh;rcases hh with hh|hh
  ·omega
  grind
 have hrd2:V2.rd=some l:=by rw[hV2];exact hrd
 have hL3:kx P V2 w3:=by
  have hLB:kx P VB w:=⟨hLd,hNT.mono λb hb=>(hg b hb).1⟩;refine⟨(hLB.Ar hk2).same λg hn _=>h3o g λe=>hNT g hn<|by subst e;exact hlF,λg hn hb=>?_⟩;rcases hg2 g hb with hb|hb
  ·exact hLB.apart g hn hb
  have:=hLd.lt hn;omega
 have hB:=h1 V2 w3 S2 a2 w3 ⟨U,hL3⟩ hi3;rw[hrd2]at hB;refine wpIn_mono hB ?_;rintro e a3 w4⟨σ2,⟨he,hy2⟩,S4,F4,ds4,hc4,hN4,hdf4,hs3,hs4,hk4,hm4⟩;have hsz4:=hk4.size;have hl4:w4.heap[l]?=some (.loop {abZ fn tmps ps assign body D none with state:=.busy}):=by rw[hk4.block l E λh=>hno2 l hlw hgl<|.inr h];exact h3l
 have hlw4:l<w4.heap.size:=(af8.1 hl4).1;have hlS4:¬S4 l:=λh=>(hs4 l h).elim hlS2<|hno2 l hlw hgl;have hlF4:∀i,l∉F4 i:=λi h=>hno2 l hlw hgl (hc4.own i l h).1;have hDS2:¬S2 D:=λh=>(hs2 D h).elim (hF D hDF).2<|hno D hDw hgD;have hDS4:¬S4 D:=λh=>(hs4 D h).elim hDS2<|hno2 D hDw hgD;have hDF4:∀i,D∉F4 i:=λi h=>hno2 D hDw hgD (hc4.own i D h).1;obtain⟨w5,hw5⟩:∃w5,w5=w4.putObj l (.loop<|abZ fn tmps ps assign body D jump):=⟨_,W⟩;have h5s:w5.heap.size=w4.heap.size:=by rw[hw5];simp[World.putObj]
 have h5o:∀k,k≠l->w5.heap[k]?=w4.heap[k]?:=λk hk=>by rw[hw5];exact World.putObj_heap_other hk
 have h5l:w5.heap[l]?=some (.loop<|abZ fn tmps ps assign body D jump):=by rw[hw5];exact World.putObj_heap_same hlw4
 have hold:∀k,k<w.heap.size->¬VB.g k->k≠l->w5.heap[k]?=w.heap[k]?:=by intro k hk hgk hkl;rw[h5o k hkl,hk4.block k E λh=>hno2 k hk hgk<|.inr h,h3o k hkl,hk2.block k hk hgk]
 have hend:(Instr.endRound l jump).run P w4=.ok (.bool jump.isNone) w5:=by rw[run_endRound jump hl4,hw5];rfl
 have hpost:∃S' F',w5.os=w.os/\w5.tape=w.tape/\w5.output=w.output/\w.heap.size<=w5.heap.size/\(∀k,k<w.heap.size->k∉F->w5.heap[k]?=w.heap[k]?)/\
  (∀c,S c->S' c)/\(∀c,S' c->S c\/w.heap.size<=c\/c∈F)/\(∀c,S' c->c<w5.heap.size)/\tD.here (Jr cs ex T l D (abZ fn tmps ps assign body D) jump y') w5 S' F'/\F'.Nodup/\∀c∈F',(w.heap.size<=c\/c∈F)/\c<w5.heap.size/\¬S' c:=by
  have hmine:∀c,cQ V2 w3 c->w.heap.size<=c\/c∈F:=by grind
  refine⟨S4,D::l::(List.range ex.length).flatMap λj=>F4<|1000000+j,?_,?_,?_,E,λk hk hkF=>hold k hk (λh=>hkF (hg k h).1) λe=>hkF<|by rw[e];exact hlF,λc hc=>hs3 c<|hs1 c hc,λc hc=>?_,λc hc=>?_,Jr.closed ⟨λj=>F4<|1000000+j,List.Perm.refl _,λj v hv hj=>?_,λq hq=>?_,h5l,?_⟩,?_,?_⟩
  ·rw[hw5];show w4.os=_;rw[hk4.os,hw3];exact hk2.os
  ·rw[hw5];show w4.tape=_;rw[hk4.tape,hw3];exact hk2.tape
  ·rw[hw5];show w4.output=_;rw[hk4.output,hw3];exact hk2.output
  ·grind
  ·rw[h5s];exact hc4.shr c hc
  ·obtain⟨e1,e2⟩:=hy2 j v hv;have hr:=hc4.rel<|1000000+j;rw[an.aA<|by rw[e1];exact e2,e1]at hr;have hT:tv V2 a3 (1000000+j)=T (ex.getD j 0):=by
    unfold tv;rw[if_neg E,hV2];show VB.v (1000000+j)=_;rw[hVB];simp
   rw[hT]at hr;exact Rel.frame _ hr λb hb=>h5o b (λe=>by grind)
  ·refine Rel.mono (λc hc=>hs3 c<|hs1 c hc) _ (Rel.frame _ (hcs q hq) λb hb=>?_)
   grind
  ·grind
  ·refine afv.2 ⟨λh=>?_,afv.2 ⟨λh=>?_,(mq _).2 ⟨λj _=>hc4.nodup _,λi j _ _ hij=>hc4.du _ _ E⟩⟩⟩
   ·grind
   grind
  intro c hc;rcases adZ.1 hc with rfl|hc
  ·grind
  rcases adZ.1 hc with rfl|hc
  ·grind
  obtain⟨j,-,hj⟩:=agc.1 hc;have ho:=hc4.own _ c hj
  grind
 cases e with
 |normal=>obtain⟨rfl,rfl⟩:=he;exact⟨_,_,hend,W,hpost⟩
 |ret=>obtain⟨rfl,rfl⟩:=he;exact⟨_,_,hend,W,hpost⟩
 |exit id=>obtain⟨rfl,rfl⟩:=he;exact⟨_,_,hend,W,hpost⟩
 |_=>exact he.elim
end
section
variable{P:Program}{N:Nat}{w w':World}{σ:St}
def enters{f:FuncId}{fn:Func}(d:P.funcs[f]?=some fn)(e:fn.body.isNone=false)(hn:(fn.name== "runtime.NumGoroutine")=false)(c:Array Value)(w:World):(callFunc f c).run P w=.ok (.enter f c) w:=by
 have a:¬fn.name= "runtime.NumGoroutine":=by simpa using hn
 have b:¬fn.body=none:=by grind
 unfold callFunc;simp[d,b,a]
def DK{f:FuncId}{a:Array Value}{R:Value->World->Prop}(d:(callFunc f a).run P w=.ok (.enter f a) w)(h:vh P f a w R){rd:Option Nat}:
 CallsIn (FW rd) 0 P f a w λe w'=>∃b,e=.returned b/\∃v,R v w':=by
 have:=h rd {dst:=none,op:=.move<|.const<|.bool true,type:=0,pos:= "",after:=#[],guard:=none} {tmps:=#[],defers:=[]} (λ_ w'=>∃v,R v w') (λ_ _ _=>False) λv w' c=>⟨v,c⟩;rw[d]at this;refine this.2.mono λe w' he=>?_;cases e with
 |returned v=>simp_all
 |panicked _=>exact he.elim
 |outgrown=>obtain⟨_,_,h⟩:=he;exact h.elim
def idxOf(ex:List Nat)(i:Nat):Option Nat:=match ex with
 |[]=>none
 |r::ex=>if r=i then some 0 else(idxOf ex i).map (·+1)
def fI:∀{ex:List Nat}{i j:Nat},idxOf ex i=some j->j<ex.length/\ex.getD j 0=i
 |[],i,j,h=>by simp[idxOf]at h
 |r::ex,i,j,h=>by
  unfold idxOf at h;split at h
  ·grind
  simp at h;obtain⟨k,a,rfl⟩:=h;have:=fI a
  grind
def nW:∀{ex:List Nat}{i:Nat},idxOf ex i=none->i∉ex
 |[],i,_=>I
 |r::ex,i,h=>by
  unfold idxOf at h;split at h
  ·cases h
  rename_i e;simp at h;simp;exact⟨λe'=>e e'.symm,nW h⟩
def qZ(σ:St)(ex:List Nat)(y:List AV):St:=λi=>match idxOf ex i with
 |some j=>⟨y.getD j .dead,(σ i).g1,(σ i).g2+1⟩
 |none=>σ i
def SC(N:Nat)(cs:List (AV×Value))(ex:List Nat)(T:Nat->Value)(tmps:Array Value)(e:Array Tmp)(y x:List AV)(σB:St):Prop:=
 ∀(w:World)(S:Nat->Prop)(b:Nat->List Nat)(d:List Value)(V:Hid),(∀q∈cs,Rel w S q.1 q.2 [])->(∀(j:Nat)(v:AV),y[j]?=some v->j<ex.length->Rel w S v (T<|ex.getD j 0) (b j))->
    (∀j,j<ex.length->(b j).Nodup)->(∀i j,i<ex.length->j<ex.length->i≠j->∀c∈b i,c∉b j)->(∀j,j<ex.length->∀c∈b j,c<w.heap.size/\¬S c)->(∀c,S c->c<w.heap.size)->Cells w S false x d []->
    V.v=(λi=>T<|ex.getD (i-1000000) 0)->(∀j,j<ex.length->∀c∈b j,V.g c)->
    aT S (cQ V w) σB (tv V {tmps:=(e.zip d.toArray).foldl (λtmps(t,a)=>tmps.setIfInBounds t a) tmps,defers:=[]}) w λi=>if 1000000<=i/\i-1000000<ex.length then b (i-1000000)else[]
def Sn{g:Operand}{ps:Array Tmp}{o body:Code}{Q:Exit->St->Prop}{gf:FuncId}{X2:Func}{captured:List AV}{r:AV}{ex is:List Nat}{n m:Nat}{x y:Nat->List AV}{b:Nat->Bool}{pe:Nat->Option Code}{σB:Nat->St}
 (hN:N<=1000000)(hgf:aJ g=true)(hg:(resolve σ g).cont=some (.fn (.func gf) [] captured))(hno:bU captured=true)(hf:P.funcs[gf]?=some X2)(hfb:X2.body.isNone=false)(hfn:(X2.name== "runtime.NumGoroutine")=false)(hcl:captured.length<999999)
 (hex:ex.Nodup)(hpl:∀r∈ex,(σ r).av.plain=true)(his:∀i∈is,(σ i).av.plain=true/\(σ i).av.aG=true)
 (hx:∀k,k<n->(x k).length=ps.size)(hy:∀k,(y k).length=ex.length)(hy0:∀j,j<ex.length->(y 0)[j]?=some (σ<|ex.getD j 0).av)(hpe0:pe 0=none)(hpe:∀k,k<n->(∀j,j<k->b j=true)->pe k=none)
 (hit:∀(C:Value->Prop)(J:Nat->tD),(∀v,C v->∀k,k<n->(∀j,j<k->b j=true)->Yields P (J k) (J<|k+1) (x k) (b k) v)->Hh P gf [.abs<|J 0] (.pv C::captured) [.abs<|J m] r)
 (F3:∀(V:Hid)(a:Act)(w:World)(S:Nat->Prop)(B:Nat->Prop)(F:Nat->List Nat),a.tmps.size=N->aT S B σ (tv V a) w F->∀k,k<n->SC N (is.map λi=>((σ i).av,tv V a i)) ex (tv V a) a.tmps ps (y k) (x k) (σB k))
 (U1:∀k,k<n->(∀j,j<k->b j=true)->AW R1 P N o (λe σ1=>e=.normal/\AW R1 P N body (YD (y<|k+1) (b k)<|pe<|k+1) σ1) (σB k))
 (Z:match pe m with
   |none=>Q .normal (qZ σ ex<|y m)
   |some .ret=>Q .ret (qZ σ ex<|y m)
   |some (.exit id)=>Q (.exit id) (qZ σ ex<|y m)
   |_=>False):AW R0 P N (.rangeFunc g ps o body) Q σ:=by
 intro V w0 S0 a w hR hi;obtain⟨S,F,hc,M1,hdf,hs1,hs2,B0⟩:=hi;have hG:=hR.2;have hR:V.rd=none:=hR.1;refine wpIn_rangeFunc ?_;intro fn _;obtain⟨F1,e1,-⟩:=aQ hc g hgf hg;simp only[Rel]at e1;obtain⟨af,cf,G1,G2,hev,ha1,ha2,-⟩:=e1;have haf:af=#[]:=by simp[Cells]at ha1;simp_all
 have hG2:=Cells.aG _ ha2 hno;subst haf hG2;obtain⟨D,hD⟩:∃D,D=w.heap.size:=⟨_,W⟩;obtain⟨l,hl⟩:∃l,l=w.heap.size+1:=⟨_,W⟩;obtain⟨R,Y⟩:∃R,R=(w.alloc<|.deferred<|some []).alloc (.loop<|abZ fn a.tmps ps o body D none):=⟨_,W⟩;have h1s:R.heap.size=w.heap.size+2:=eW;have h1l:R.heap[l]?=some (.loop<|abZ fn a.tmps ps o body D none):=by rw[Y,hl];have:=World.alloc_heap_new (w.alloc<|.deferred<|some [])<|.loop<|abZ fn a.tmps ps o body D none;simp_all
 have h1D:R.heap[D]?=some (.deferred<|some []):=by rw[Y,hD];exact(Below.heap_alloc _ _ _ I).trans<|World.alloc_heap_new w _
 have F2:∀k,k<w.heap.size->R.heap[k]?=w.heap[k]?:=λk hk=>by rw[Y];exact(Below.heap_alloc _ _ _<|by simp;omega).trans<|Below.heap_alloc _ _ _ hk
 have hce:∀vs f,(callFunc gf vs).run P f=.ok (.enter gf vs) f:=enters hf hfb hfn;refine⟨l,[{target:=.collected D,args:=#[]}],R,{target:=.fn (.func gf) cf,args:=#[.func (.yield l) #[] #[]]},R,gf,#[.func (.yield l) #[] #[]]++cf,R,?_,?_,λ_ _=>trivial,?_,λh=>(by cases h),?_⟩
 ·show(Instr.enterLoop fn a.tmps ps o body V.rd).run P w=_;rw[hR,run_enterLoop_outer,Y,hD,hl];rfl
 ·simp[Go.resolve,rangeCall,hev];rfl
 ·simp[invoke,hce]
 have G6:∀c,S c->c<w.heap.size:=hc.shr;have hlw:w.heap.size<=l:=E;have hlD:l≠D:=E;obtain⟨T,O⟩:∃T:Nat->List Nat,T=λj=>F (ex.getD j 0):=⟨_,W⟩;have hexn:∀i j,i<ex.length->j<ex.length->i≠j->ex.getD i 0≠ex.getD j 0:=by
  intro i j hi s A0 e;rw[adY,adY,aeF hi,aeF s]at e;have e:ex[i]=ex[j]:=by simpa using e
  have hpw:=List.pairwise_iff_getElem.1 hex
  grind
 have K0:∀j,j<ex.length->ex.getD j 0∈ex:=λj s=>by simp_all
 obtain⟨cs,hcs⟩:∃cs,cs=is.map λi=>((σ i).av,tv V a i):=⟨_,W⟩;obtain⟨J,hJ⟩:∃J:Nat->tD,J=λk=>Jr cs ex (tv V a) l D (abZ fn a.tmps ps o body D) (pe k) (y k):=⟨_,W⟩;have hyl:∀k,k<n->(∀j,j<k->b j=true)->Yields P (J k) (J<|k+1) (x k) (b k) (.func (.yield l) #[] #[]):=by intro k hk V0;rw[hJ];dsimp only;rw[hpe k hk V0];exact FO hN M1 (hx k hk) (hy<|k+1) (by rw[hcs];exact F3 V a w S _ F M1 hc k hk)<|U1 k hk V0
 have F4:=hit (λv=>v=.func (.yield l) #[] #[]) J λv hv k hk V0=>eW;obtain⟨Vi,hVi⟩:∃Vi:Hid,Vi={v:=λ_=>undef,g:=λc=>c=D\/c=l\/∃j,j<ex.length/\c∈T j}:=⟨_,W⟩;obtain⟨Fi,D1⟩:∃Fi:Nat->List Nat,Fi=λi=>if i=1000000 then D::l::(List.range ex.length).flatMap T else[]:=⟨_,W⟩;have hFw:∀i,∀c∈F i,c<w.heap.size:=λi c u=>(hc.own i c u).2.1;have hnd:((List.range ex.length).flatMap T).Nodup:=(mq _).2 ⟨λj _=>by rw[O];exact hc.nodup _,λi j hi s A0=>by rw[O];exact hc.du _ _<|hexn i j hi s A0⟩;have hmem:∀c,c∈(List.range ex.length).flatMap T->c<w.heap.size/\¬S c:=by intro c u;obtain⟨j,-,s⟩:=agc.1 u;rw[O]at s;exact(hc.own _ c s).2
 have hJ0:tD.here (J 0) R S (D::l::(List.range ex.length).flatMap T):=by
  rw[hJ];dsimp only;rw[hpe0];refine Jr.closed ⟨T,List.Perm.refl _,λj v hv s=>?_,λq hq=>?_,h1l,h1D⟩
  ·have:=hy0 j s;rw[this]at hv;cases hv;have hr:=hc.rel<|ex.getD j 0;rw[an.aA<|hpl _<|K0 j s]at hr;rw[O];exact Rel.frame _ hr λc u=>F2 c<|u.elim (G6 c)<|hFw _ c
  rw[hcs]at hq;obtain⟨i,hi,rfl⟩:=aeN.1 hq;have hr:=hc.rel i;rw[an.aA (his i hi).1]at hr;rw[Rel.aG _ hr (his i hi).2]at hr;exact Rel.frame _ hr λc u=>F2 c<|G6 c<|by simpa using u
 have K2:Cells R S false captured cf.toList []:=Cells.frame _ ha2 λc u=>F2 c<|G6 c<|by simpa using u
 have hcl2:=Cells.length K2;have P1:([Value.func (.yield l) #[] #[]]++cf.toList).toArray=#[.func (.yield l) #[] #[]]++cf:=by apply aga;simp
 have S4:aT S Vi.g (both (.pv (λv=>v=.func (.yield l) #[] #[])::captured) [.abs<|J 0]) (bg Vi<|[Value.func (.yield l) #[] #[]]++cf.toList) R Fi:=by
  have G3:Cells R S false (.pv (λv=>v=.func (.yield l) #[] #[])::captured) ([Value.func (.yield l) #[] #[]]++cf.toList) []:=by simp only[Cells];exact⟨_,_,[],[],W,W,I,by simp[Rel],K2⟩
  refine⟨λi=>?_,λi=>?_,λi j A0 c K=>?_,λi c K=>?_,λc K=>by grind⟩
  ·by_cases hi:i<1000000
   ·have K:=gM (args:=.pv (λv=>v=.func (.yield l) #[] #[])::captured) (H:=[.abs<|J 0]) hi;have hFe:Fi i=[]:=by rw[D1];grind
    rw[hFe];cases L0:(AV.pv (λv=>v=.func (.yield l) #[] #[])::captured)[i]?with
    |none=>rw[L0]at K;rw[an.aA<|by rw[K];rfl,K];simp[Rel]
    |some v=>
     rw[L0]at K;have H2:=Cells.get i G3 W;rw[L0]at H2;obtain⟨z,q1,q2⟩:=H2;rw[an.aA<|by rw[K];exact q2.plain,K];have hz:bg Vi ([Value.func (.yield l) #[] #[]]++cf.toList) i=z:=by unfold bg;simp_all
     rw[hz];exact q2
   by_cases h2:i=1000000
   ·subst h2;have e:(both (.pv (λv=>v=.func (.yield l) #[] #[])::captured) [.abs<|J 0] 1000000).av=.abs (J 0):=by
     rw[show(1000000:Nat)=1000000+0 from fb,fT<|by simp;omega];rfl
    unfold an;rw[e,D1];exact hJ0
   have e:(both (.pv (λv=>v=.func (.yield l) #[] #[])::captured) [.abs<|J 0] i).av=.dead:=by rw[show i=1000000+(i-1000000)from E,fT<|by simp;omega];have:[AV.abs<|J 0][i-1000000]?=none:=afL (by simp;omega);rw[this]
   rw[an.aA<|by rw[e];rfl,e];rw[D1];dsimp only;rw[if_neg h2];simp[Rel]
  ·rw[D1];grind
  ·rw[D1]at K⊢;grind
  rw[D1]at K;dsimp only at K;split at K
  ·rw[hVi,h1s]
   grind
  cases K
 have hLi:kx P Vi R:=by
  have hLw:=hG.Ar B0;refine⟨hLw.same λg hn hlt=>F2 g hlt,λg hn K=>?_⟩;have hlt:=hLw.lt hn;rw[hVi]at K;rcases K with rfl|rfl|⟨j,-,K⟩
  ·omega
  ·omega
  rw[O]at K;exact hG.cQ g hn (hc.own _ g K).1
 have F0:=F4 R S Vi ([Value.func (.yield l) #[] #[]]++cf.toList) Fi (by simp;omega) hLi S4;rw[P1]at F0;refine(DK (hce _ _) F0).mono ?_;rintro e w2⟨v0,rfl,v,S',F',E1,k1,k2,kc⟩;have hres:tD.here (J m) w2 S' (F' 1000000):=by have:=kc.rel 1000000;unfold an at this;have e:(both [r] [.abs<|J m] 1000000).av=.abs (J m):=fb;rw[e]at this;exact this
 have E2:=hres w2 S' (λ_ _=>rfl) λ_ h=>h;rw[hJ]at E2;obtain⟨FF,hp,hrel,-,hl2,hD2⟩:=E2;obtain⟨w4,D2⟩:∃w4,w4=w2.putObj l (.loop {abZ fn a.tmps ps o body D (pe m)with state:=.exhausted}):=⟨_,W⟩;have S1:(Instr.endLoop l).run P w2=.ok (pe m) w4:=by rw[run_endLoop hl2<|by simp[abZ];split<;>simp,D2];rfl
 have hX:o5 N V w0 S0 (qZ σ ex<|y m) {a with defers:=[{target:=.collected D,args:=#[]}]++a.defers} w4:=by
  have W1:w4.heap.size=w2.heap.size:=eW;have h4o:∀k,k≠l->w4.heap[k]?=w2.heap[k]?:=λk hk=>by rw[D2];exact World.putObj_heap_other hk
  have hm:∀c,c∈F' 1000000↔c∈D::l::(List.range ex.length).flatMap FF:=λc=>hp.mem_iff;have hnd2:=hp.nodup_iff.1<|kc.nodup 1000000;obtain⟨hD1,hnd3⟩:=afv.1 hnd2;obtain⟨hl1,hnd4⟩:=afv.1 hnd3;obtain⟨M2,S2⟩:=(mq ex.length).1 hnd4;have hin:∀j,j<ex.length->∀c∈FF j,c∈(List.range ex.length).flatMap FF:=λj s c hc=>agc.2 ⟨j,agm.2 s,hc⟩;have M:∀j,j<ex.length->∀c∈FF j,cQ Vi R c/\c<w2.heap.size/\¬S' c/\c≠l/\c≠D:=by
   intro j s c u;have hcm:=hin j s c u;have:=kc.own 1000000 c<|(hm c).2<|by simp[hcm]
   grind
  have V2:=kc.own 1000000 D<|(hm D).2 I;have hlown:=kc.own 1000000 l<|(hm l).2 I;have G5:∀c,Vi.g c->c=D\/c=l\/∃j,j<ex.length/\c∈F (ex.getD j 0):=eW;have hsz0:=B0.size;have P0:∀c,cQ Vi R c->cQ V w0 c:=by
   rintro c(h|h)
   ·exact .inl E
   rcases G5 c h with rfl|rfl|⟨j,s,h⟩
   ·exact .inl E
   ·exact .inl E
   exact(hc.own _ c h).1
  have hst2:=E1.size;have X:∀c,c<w.heap.size->(∀j,j<ex.length->c∉F (ex.getD j 0))->w4.heap[c]?=w.heap[c]?:=by
   intro c hc1 hc2;rw[h4o c E,E1.block c E λh=>?_,F2 c hc1];rcases G5 c h with h|h|⟨j,s,h⟩
   ·omega
   ·omega
   exact hc2 j s h
  have hSk:∀c,S c->w4.heap[c]?=w.heap[c]?:=λc hcS=>X c (G6 c hcS) λj s h=>(hc.own _ c h).2.2 hcS;have hFk:∀i,i∉ex->∀c∈F i,w4.heap[c]?=w.heap[c]?:=λi hi c G4=>X c (hFw i c G4) λj s h=>hc.du i (ex.getD j 0) (λe=>hi<|by rw[e];exact K0 j s) c G4 h;obtain⟨Fn,hFn⟩:∃Fn:Nat->List Nat,Fn=λi=>match idxOf ex i with|some j=>FF j|none=>F i:=⟨_,W⟩
  have A:∀{i j},idxOf ex i=some j->Fn i=FF j:=λh=>by grind
  have L:∀{i},idxOf ex i=none->Fn i=F i:=λh=>by grind
  have hmv:∀{i},idxOf ex i=none->qZ σ ex (y m) i=σ i:=λh=>by unfold qZ;rw[h]
  have hms:∀{i j},idxOf ex i=some j->qZ σ ex (y m) i=⟨(y m).getD j .dead,(σ i).g1,(σ i).g2+1⟩:=λh=>by unfold qZ;rw[h]
  have H1:∀i j,idxOf ex i=none->j<ex.length->∀c∈FF j,c∉F i:=by
   intro i j hi s c G4 hci;rcases(M j s c G4).1 with h|h
   ·grind
   rcases G5 c h with h|h|⟨j',hj',h⟩
   ·grind
   ·grind
   exact hc.du i (ex.getD j' 0) (λe=>nW hi<|by grind) c hci h
  have hS'c:∀c,S' c->S c\/cQ V w0 c:=λc h=>(k2 c h).imp id<|P0 c;refine⟨S',Fn,[{target:=.collected D,args:=#[]}],?_,M1,by rw[hdf],λc h=>k1 c<|hs1 c h,λc h=>(hS'c c h).elim (hs2 c) .inr,?_,I,?_⟩
  ·have hT:tv V {a with defers:=[{target:=.collected D,args:=#[]}]++a.defers}=tv V a:=W;rw[hT];refine hc.step (w':=w4) (T':=tv V a) (S':=S') ⟨λi=>?_,λi=>?_,λ_ _=>rfl,λi q1 q2=>?_⟩ k1 (λi=>?_) (λi=>?_) (λi j A0 c t=>?_) (λi c t=>?_) (λc h=>by rw[W1];exact kc.shr c h)
   ·grind
   ·grind
   ·cases hi:idxOf ex i with
    |none=>rw[hmv hi];exact⟨λp z hz=>⟨z,hz⟩,λc t=>t.elim (hSk c)<|hFk i (nW hi) c⟩
    |some j=>grind
   ·cases hi:idxOf ex i with
    |none=>left;rw[hmv hi,L hi];exact⟨W,W,W,λc t=>t.elim (hSk c)<|hFk i (nW hi) c⟩
    |some j=>
     right;obtain⟨s,he⟩:=fI hi;have hyj:(y m)[j]?=some ((y m).getD j .dead):=by grind
     have hr:=hrel j _ hyj s;rw[an.aA<|by rw[hms hi];exact hr.plain,hms hi,A hi];rw[he]at hr;exact Rel.frame _ hr λc t=>h4o c (λe=>by grind)
   ·cases hi:idxOf ex i with
    |none=>rw[L hi];exact hc.nodup i
    |some j=>rw[A hi];exact M2 j (fI hi).1
   ·cases hi:idxOf ex i with
    |none=>
     rw[L hi]at t;cases s:idxOf ex j with
     |none=>rw[L s];exact hc.du i j A0 c t
     |some j'=>rw[A s];exactλh=>H1 i j' hi (fI s).1 c h t
    |some i'=>
     rw[A hi]at t;cases s:idxOf ex j with
     |none=>rw[L s];exact H1 j i' s (fI hi).1 c t
     |some j'=>rw[A s];refine S2 i' j' (fI hi).1 (fI s).1 (λe=>A0 ?_) c t;rw[<-(fI hi).2,<-(fI s).2,e]
   cases hi:idxOf ex i with
   |none=>
    rw[L hi]at t;have ho:=hc.own i c t;refine⟨ho.1,by rw[W1];omega,λh=>?_⟩;rcases k2 c h with h|h
    ·exact ho.2.2 h
    rcases h with h|h
    ·omega
    rcases G5 c h with h|h|⟨j',hj',h⟩
    ·omega
    ·omega
    exact hc.du i (ex.getD j' 0) (λe=>nW hi<|by grind) c t h
   |some j=>
    rw[A hi]at t;have ho:=M j (fI hi).1 c t
    grind
  ·refine⟨?_,?_,?_,by rw[W1];omega,λk hk hgk=>?_⟩
   ·rw[D2];show w2.os=_;rw[E1.os,Y];exact B0.os
   ·rw[D2];show w2.tape=_;rw[E1.tape,Y];exact B0.tape
   ·rw[D2];show w2.output=_;rw[E1.output,Y];exact B0.output
   rw[X k E λj s h=>?_]
   ·exact B0.block k hk hgk
   rcases(hc.own _ k h).1 with h|h
   ·omega
   exact hgk h
  intro d hd;simp[agl]at hd;subst hd;refine⟨D,W,by grind,E,V2.2.2,λi h=>?_⟩;cases hi:idxOf ex i with
  |none=>grind
  |some j=>rw[A hi]at h;exact(M j (fI hi).1 D h).2.2.2.2 W
 show∃jump w4,(Instr.endLoop l).run P w2=.ok jump w4/\_;refine⟨pe m,w4,S1,?_⟩;cases hpm:pe m with
 |none=>grind
 |some c=>
  rw[hpm]at Z;cases c<;>try exact Z.elim
  case ret=>exact wpIn_ret ⟨_,Z,hX⟩
  case exit id=>exact wpIn_exit ⟨_,Z,hX⟩
end
def Ez:∀{L:List (Nat×SV)}{i:Nat},(gt (sl L) i).v=.dead\/(i,(gt (sl L) i).v)∈L
 |[],i=>.inl W
 |(j,y)::L,i=>by
  simp[sl,gt];split
  ·simp_all
  rcases Ez (L:=L) (i:=i)with h|h
  ·exact .inl h
  simp_all
def uY:∀(q:List (Tmp×Value))(t:Array Value)(i:Nat),i∉q.map (·.1)->(q.foldl (λa p=>a.setIfInBounds p.1 p.2) t).getD i undef=t.getD i undef
 |[],t,i,_=>rfl
 |p::q,t,i,h=>by
  simp only[afc,adZ,not_or]at h;simp only[afT];rw[uY q _ i h.2];simp
  grind
def Jg:∀(q:List (Tmp×Value))(t:Array Value)(i:Nat)(v:Value),(q.map (·.1)).Nodup->(i,v)∈q->i<t.size->(q.foldl (λa p=>a.setIfInBounds p.1 p.2) t).getD i undef=v
 |[],t,i,v,_,h,_=>by cases h
 |p::q,t,i,v,hn,h,hi=>by
  simp only[afc,afv]at hn;simp only[afT];rcases adZ.1 h with h|h
  ·subst h;rw[uY q _ i hn.1];simp[hi]
  exact Jg q _ i v hn.2 h (by simpa using hi)
inductive View(σ:St)(ex is:List Nat):Nat->AV->Prop
 |own {i j:Nat} (h:ex[j]?=some i):View σ ex is i (.bC (1000000+j) 0 0 [])
 |bC {i j r g1 g2:Nat} {p:Path} (h:ex[j]?=some r) (h1:(σ i).av=.bC r g1 g2 p) (h2:kh p=true) (h3:(σ r).g1=g1):View σ ex is i (.bC (1000000+j) 0 0 p)
 |ptr {i j r g1 g2:Nat} {p:Path} (h:ex[j]?=some r) (h1:(σ i).av=.ptr r g1 g2 p) (h2:flat p=true) (h3:(σ r).g1=g1):View σ ex is i (.ptr (1000000+j) 0 0 p)
 |val {i:Nat} (h:i∈is):View σ ex is i (σ i).av
def rm:Nat->List SV->List (Nat×SV)
 |_,[]=>[]
 |k,v::a=>(k,v)::rm (k+1) a
def rX:List Nat->List SV->List (Nat×SV)
 |[],_=>[]
 |t::a,xs=>match xs with
  |[]=>[]
  |x::xs=>(t,x)::rX a xs
def BG:∀{a:List Nat}{xs:List SV}{i:Nat}{v:SV},(i,v)∈rX a xs->∃j:Nat,a[j]?=some i/\xs[j]?=some v
 |[],xs,i,v,h=>by simp[rX]at h
 |t::a,[],i,v,h=>by simp[rX]at h
 |t::a,x::xs,i,v,h=>by
  simp[rX]at h;rcases h with⟨rfl,rfl⟩|h
  ·exact⟨0,W,W⟩
  obtain⟨j,c,b⟩:=BG h;exact⟨j+1,c,b⟩
def Gv:∀{A B:List (Nat×SV)}{i:Nat},(∀q∈A,q.1≠i)->gt (sl<|cat A B) i=gt (sl B) i
 |[],B,i,_=>rfl
 |(r,y)::A,B,i,h=>by
  simp[cat,sl,gt];have:Nat.beq i r=false:=by
   cases b:Nat.beq i r with
   |false=>rfl
   |true=>simp_all
  rw[this];exact Gv λq a=>h q (by simp[a])
def MT:∀(zs:List SV)(k j:Nat),gt (sl<|rm k zs) (k+j)=match zs[j]?with|some v=>⟨v,0,0⟩|none=>⟨.dead,0,0⟩
 |[],k,j=>by simp[rm,sl,gt]
 |v::zs,k,j=>by
  simp[rm,sl,gt];cases j with
  |zero=>simp
  |succ j=>
   have:Nat.beq (k+(j+1)) k=false:=by
    cases a:Nat.beq (k+(j+1)) k with
    |false=>rfl
    |true=>simp_all
   rw[this];have:=MT zs (k+1) j
   grind
def MP:∀{zs:List SV}{k i:Nat}{v:SV},(i,v)∈rm k zs->k<=i
 |[],k,i,v,h=>by simp[rm]at h
 |z::zs,k,i,v,h=>by
  simp[rm]at h;rcases h with⟨rfl,-⟩|h
  ·exact .refl
  have:=MP h;omega
section
variable{P:Program}{N:Nat}{σ:St}
def NV{ex is:List Nat}{k:List (Nat×SV)}{xs zs:List SV}{b:Array Tmp}{F:Hid}{a:Act}{w0:World}{S0:Nat->Prop}{B:Nat->Prop}{F0:Nat->List Nat}(hN:N<=1000000)(ha:a.tmps.size=N)(hc:aT S0 B σ (tv F a) w0 F0)
 (G4:∀i∈is,(σ i).av.plain=true/\(σ i).av.aG=true)(B0:∀q∈k,View σ ex is q.1 q.2.den/\q.1<N/\q.1∉b.toList)
 (D1:b.toList.Nodup)(D2:∀t∈b.toList,t<N)(hx:xs.length=b.size)(G1:zs.length=ex.length)(F4:∀z∈zs,z.plain=true):
 SC N (is.map λi=>((σ i).av,tv F a i)) ex (tv F a) a.tmps b (aB zs) (aB xs) (dn<|sl<|cat k<|cat (rX b.toList xs)<|rm 1000000 zs):=by
 intro w S FF Y V F1 M G3 G6 O hS m hv hg;obtain⟨n,X⟩:∃n:Act,n={tmps:=(b.zip Y.toArray).foldl (λtmps(t,a)=>tmps.setIfInBounds t a) a.tmps,defers:=[]}:=⟨_,W⟩;rw[<-X];have K:=Cells.length m;rw[bB]at K;have f:n.tmps=(b.toList.zip Y).foldl (λtmps p=>tmps.setIfInBounds p.1 p.2) a.tmps:=by rw[X];rw[<-ahY];simp
 have l:(b.toList.zip Y).map (·.1)=b.toList:=by exact List.map_fst_zip (by rw[K,hx];simp)
 have F2:∀i,i<N->i∉b.toList->tv V n i=tv F a i:=by intro i hi C;rw[vp _ _<|.inl E,vp _ _<|.inl E,f];exact uY _ _ _ (by rw[l];exact C)
 have o:∀j,tv V n (1000000+j)=tv F a (ex.getD j 0):=by
  intro j;have G2:n.tmps.size=N:=by
   rw[f,<-ha];have:∀(q:List (Tmp×Value))(t:Array Value),(q.foldl (λtmps p=>tmps.setIfInBounds p.1 p.2) t).size=t.size:=by
    intro q
    induction q with
    |nil=>intro t;rfl
    |cons p q ih=>simp_all
   exact this _ _
  unfold tv;rw[if_neg E,hv];show tv F a (ex.getD (1000000+j-1000000) 0)=_;rw[ag9];rfl
 have D:∀{j r:Nat},ex[j]?=some r->ex.getD j 0=r/\j<ex.length:=λh=>⟨eW,(agj.1 h).1⟩;have R:∀j,gt (sl<|cat k<|cat (rX b.toList xs)<|rm 1000000 zs) (1000000+j)=match zs[j]?with|some v=>⟨v,0,0⟩|none=>⟨.dead,0,0⟩:=by
  intro j;have g1:∀q∈k,q.1≠1000000+j:=λq hq e=>by grind
  have g2:∀q∈rX b.toList xs,q.1≠1000000+j:=by
   intro q hq e;obtain⟨t,h1,-⟩:=BG (i:=q.1) (v:=q.2) hq
   grind
  rw[Gv g1,Gv g2,MT]
 have Q:∀{i:Nat}{v:SV},(i,v)∈cat k (cat (rX b.toList xs)<|rm 1000000 zs)->(i,v)∈k\/(i,v)∈rX b.toList xs\/(i,v)∈rm 1000000 zs:=by intro i v h;rw[cX,cX]at h;simpa using h
 refine⟨λi=>?_,λi=>?_,λi j G5 c T=>?_,λi c T=>?_,hS⟩
 ·by_cases hi:1000000<=i
  ·obtain⟨j,rfl⟩:∃j,i=1000000+j:=⟨i-1000000,E⟩;have hh:=R j;by_cases A:j<ex.length
   ·rw[if_pos ⟨E,E⟩,ag9];obtain⟨z,hz⟩:∃z,zs[j]?=some z:=⟨_,aeF E⟩;rw[hz]at hh;rw[an.aA<|by rw[dL,hh,dj];grind,dL,hh,o];exact M j z.den (by rw[ji];simp[hz]) A
   rw[if_neg E];rw[afL E]at hh;rw[an.aA<|by rw[dL,hh];rfl,dL,hh];simp[SV.den,Rel]
  rw[if_neg E];rcases Ez (L:=cat k<|cat (rX b.toList xs)<|rm 1000000 zs) (i:=i)with h|h
  ·rw[an.aA<|by rw[dL,h];rfl,dL,h];simp[SV.den,Rel]
  rcases Q h with h|h|h
  ·obtain⟨g,xq,C⟩:=B0 _ h;have H:=F2 i xq C;have e:(dn (sl<|cat k<|cat (rX b.toList xs)<|rm 1000000 zs) i).av=(gt (sl<|cat k<|cat (rX b.toList xs)<|rm 1000000 zs) i).v.den:=dL _ _
   replace g:View σ ex is i (gt (sl<|cat k<|cat (rX b.toList xs)<|rm 1000000 zs) i).v.den:=g
   rw[<-e]at g;generalize F3:dn (sl<|cat k<|cat (rX b.toList xs)<|rm 1000000 zs)=A0 at g⊢;generalize Z:(A0 i).av=d at g;cases g with
   |own A=>obtain⟨J,q2⟩:=D A;unfold an;rw[Z];refine⟨W,adk _,adk _,λ_ _ _=>⟨.val<|tv V n<|1000000+_,W,?_,I⟩⟩;show tv V n i=_;rw[o,J,H]
   |bC A p1 s p3=>
    obtain⟨J,q2⟩:=D A;have y:=hc.rel i;unfold an at y⊢;rw[p1]at y;rw[Z];obtain⟨L,k1,k2,k3⟩:=y.2.2.2 p3 (.inl s) λh=>by rw[s]at h;cases h
    obtain⟨u,rfl⟩:=EE s k1;refine⟨W,adk _,adk _,λ_ _ _=>⟨.val u,?_,?_,I⟩⟩
    ·rw[o,J,<-ED (w:=w0) s];exact k1
    show tv V n i=u;rw[H];exact k2
   |ptr A p1 s p3=>
    obtain⟨J,q2⟩:=D A;have y:=hc.rel i;unfold an at y⊢;rw[p1]at y;rw[Z];obtain⟨ad,k1,k2⟩:=y.2.2.2.2 p3 (.inl s) λh=>by rw[s]at h;cases h
    refine⟨W,adk _,adk _,eW,λ_ _ _=>⟨ad,?_,by rw[H];exact k2⟩⟩;rw[o,J,<-IB (w:=w0) s];exact k1
   |val E2=>rw[an.aA<|by grind,Z,H];exact F1 ((σ i).av,tv F a i) (aeN.2 ⟨i,E2,W⟩)
  ·obtain⟨t,h1,h2⟩:=BG h;have x:=Cells.get t m W;rw[ji,h2]at x;obtain⟨z,z1,z2⟩:=x;have E1:(i,z)∈b.toList.zip Y:=by
    grind
   have xq:=D2 i<|ah1 h1;have H:tv V n i=z:=by rw[vp _ _<|.inl E,f];exact Jg _ _ _ _ (by rw[l];exact D1) E1 (by rw[ha];exact xq)
   rw[an.aA<|by rw[dL];exact z2.plain,dL,H];exact z2
  have:=MP h;omega
 ·grind
 ·grind
 split at T
 ·rename_i h;have:=O _ h.2 c T;exact⟨.inr<|hg _ h.2 c T,this⟩
 cases T
end
section
variable{R:Option Nat->Prop}{P:Program}{N:Nat}{F:St->Prop}{k:List It}{l:aU}
section
variable{aft:Array Edge}{caps:Array Operand}{ts:Array _}{okb:Bool}{gf:FuncId}{h:aaj}{K:List Mv->St->Prop}{ks:List Nat}{d:Nat}{f m x:Operand}{g:Option (Nat×Bool)}{r:SV}{l':aU}{t:TypeId}
def C1(l:aU):List Nat->List (Nat×Nat)
 |[]=>[]
 |t::ts=>match gt l t with
  |⟨_,a,_⟩=>(t,a)::C1 l ts
def JR(l:aU):∀ts:List Nat,C1 l ts=ts.map λt=>(t,(dn l t).g1)
 |[]=>rfl
 |t::ts=>by simp[C1,JR l ts,zS]
def MB(d:Nat):List Nat->Bool
 |[]=>true
 |t::ts=>eX (ne' t d)<|MB d ts
def Es{d:Nat}:∀{ts:List Nat},MB d ts=true->ts.all (λt=>t !=d)=true
 |[],_=>rfl
 |t::ts,h=>by simp[MB,aO]at h;simp only[ae6,adD];exact⟨by simpa using ne_iff.1 h.1,Es h.2⟩
def QY(l:aU)(d:Nat)(g:FuncId)(first caps:List Operand):Option (aU×List Nat):=
 match first with
 |[]=>(slotsOf caps).bind λts=>(TL<|MB d ts).bind λ_=>H3 l d (.fS g<|C1 l ts) λl'=>some (l',[d])
 |_::_=>none
def Qh{all:Array Oper}{first:Array Operand}{ty:TypeId}{pos:String}
 (c:cV l all.toList g=some true)(h:QY l d gf first.toList caps.toList=some (l',ks))(b:∀a,bc a=ks->K a (dn l')):
 Mo P all ⟨some d,.makeFunc (.func gf) first caps,ty,pos,aft,g⟩ (dn l) K:=by
 unfold QY at h;split at h<;>try(cases h)
 rename_i e;simp only[ads,bE]at h;obtain⟨ts,j,_,i,rfl,rfl⟩:=h;refine⟨.Y7,[.put d<|.fS gf<|C1 l ts],[],dn<|Od l d<|.fS gf<|C1 l ts,?_,I,?_,b _ W⟩
 ·unfold fu;rw[dS (o:=⟨some d,.makeFunc (.func gf) first caps,ty,pos,aft,g⟩) c];simp[lv,e,j,Es i,JR]
 have:=kM l d<|.fS gf<|C1 l ts;rw[<-this];rfl
def Zv{all:Array Oper}{rest:List Oper}{first:Array Operand}{ty:TypeId}{pos:String}
 (b:cV l all.toList g=some true)(h:QY l d gf first.toList caps.toList=some (l',ks))(a:AK R P N F (.ops all rest::k) l'):
 AK R P N F (.ops all (⟨some d,.makeFunc (.func gf) first caps,ty,pos,aft,g⟩::rest)::k) l:=by
 exact Qh b h λc _=>a
def JP(l:aU):List (Nat×Nat)->Option (List SR)
 |[]=>some []
 |(t,a)::q=>match gt l t with
  |⟨v,g1,g2⟩=>(TL<|eX (Nat.ble (t+1) 1000000)<|eX v.plain<|Nat.beq g1 a).bind λ_=>(JP l q).bind λxs=>some<|⟨some t,⟨v,g1,g2⟩,⟨.dead,0,0⟩⟩::xs
def C0:∀{caps:List (Nat×Nat)}{xs:List SR},JP l caps=some xs->caps.all (λq=>decide (q.1<1000000)&&(dn l q.1).av.plain&&(dn l q.1).g1==q.2)=true/\(caps.map λq=>resolve (dn l)<|.tmp q.1)=xs.map SR.den
 |[],xs,h=>by simp[JP]at h;simp_all
 |(t,a)::q,xs,h=>by
  simp only[JP,ads,bE,aO,beq_iff,ada]at h;obtain⟨_,⟨n,j,i⟩,ys,e,rfl⟩:=h;obtain⟨k1,k2⟩:=C0 e;have b:(dn l t).av.plain=true:=by rw[dL,dj];exact j
  constructor
  ·simp only[ae6,adD,decide_eq_true_eq,beq_iff_eq];exact⟨⟨⟨ae4 n,b⟩,by rw[zS];exact i⟩,k1⟩
  simp[k2];have:bY.of (dn l) t=⟨some t,dn l t,.none⟩:=by unfold bY.of;cases c:(dn l t).av<;>rw[c]at b<;>first|rfl|(simp[AV.plain]at b)
  show bY.of (dn l) t=_;rw[this];rfl
def Cb(l:aU)(f:Operand)(asx:List Operand):Option aaj:=
 match f with
 |.tmp t=>match(gt l t).v with
  |.fS g caps=>(jQ l asx).bind λc=>(JP l caps).bind λe=>match cat c e with
   |a=>match eP [] a with
    |R=>(C9 R a).bind λb=>(TL<|Nat.ble (len b) 1000000).bind λ_=>some ⟨g,b,R⟩
  |_=>none
 |_=>none
def Qj{all:Array Oper}{a:Option Nat}{asx:Array _}{ty:TypeId}{pos:String}{out:List SV}
 (A:cV l all.toList g=some true)(hh:Cb l f asx.toList=some h)(hs:lp P h.g (lD h.R) h.asx out r)(e:ij l a h.R out r=some (l',ks))(z:∀v,bc v=ks->K v (dn l')):
 Mo P all ⟨a,.call ⟨.value f,asx,ts⟩,ty,pos,aft,g⟩ (dn l) K:=by
 unfold Cb at hh;split at hh<;>try(cases hh)
 rename_i t;split at hh<;>try(cases hh)
 rename_i gf caps y;simp only[ads,bE,ada]at hh;obtain⟨b,J,c,H,j,D,_,C,rfl⟩:=hh;obtain⟨X,O⟩:=C0 H;have s:(dn l t).av=.fS gf caps:=by rw[dL,y];rfl
 have n:(asx.toList.map (resolve<|dn l)++caps.map λq=>resolve (dn l)<|.tmp q.1)=(cat b c).map SR.den:=by rw[fo l J,O,cX,aeY]
 simp[ij]at e;split at e<;>try(cases e)
 rename_i w;simp[aO,not_iff]at w;obtain⟨u,V,T,S,Q⟩:=w;have M:dD [] ((cat b c).map SR.den)=jK (eP []<|cat b c):=lK [] _;have L:sP (jK<|eP []<|cat b c) ((cat b c).map SR.den)=some (aB j):=tC D;have p:Ai.uo a (resolve (dn l)<|.func gf) ((cat b c).map SR.den) (aB out) r.den=some (gF a r.den [.back<|oh (jK<|eP []<|cat b c)<|aB out],[.refs gf (aB<|lD<|eP []<|cat b c) (aB j) (aB out) r.den]):=by
  unfold Ai.uo;have B:(resolve (dn l)<|.func gf).cont=some (.fn (.func gf) [] []):=W;rw[B];simp only[bU,ag7,if_true,M,L,vy];rw[if_pos]
  ·simp
  simp[iu _ V,iu _ T,dj,S,we _ _ Q,CL,bB,decide_eq_true_eq];have:=ae4 C;simp[fH]at this u;omega
 have i:Mv.runs (dn l) (gF a r.den [.back<|oh (jK<|eP []<|cat b c)<|aB out])=some (dn l')/\bc (gF a r.den [.back<|oh (jK<|eP []<|cat b c)<|aB out])=ks:=by
  cases a with
  |none=>cases e;exact⟨by simp[gF,Mv.runs,Mv.run,kr],by simp[gF,bc,afN];exact nU _ _ u⟩
  |some d=>simp[jd,ae0]at e;obtain⟨rfl,rfl⟩:=e;exact⟨by simp[gF,Mv.runs,Mv.run,kr,iL],by simp[gF,bc,Mv.keys,cX<|OX _];rw[nU _ _ u]⟩
 refine⟨.fS (aB out) r.den,_,[.refs gf (aB<|lD<|eP []<|cat b c) (aB j) (aB out) r.den],dn l',?_,?_,i.1,z _ i.2⟩
 ·unfold fu;rw[dS (o:=⟨a,.call ⟨.value<|.tmp t,asx,ts⟩,ty,pos,aft,g⟩) A];simp only[lv,s]
  grind
 simp[Ob.ok];exact hs
def ZM{all:Array Oper}{rest:List Oper}{a:Option Nat}{asx:Array _}{ty:TypeId}{pos:String}{out:List SV}
 (e:cV l all.toList g=some true)(hh:Cb l f asx.toList=some h)(hs:lp P h.g (lD h.R) h.asx out r)(b:ij l a h.R out r=some (l',ks))(c:AK R P N F (.ops all rest::k) l'):
 AK R P N F (.ops all (⟨a,.call ⟨.value f,asx,ts⟩,ty,pos,aft,g⟩::rest)::k) l:=by
 exact Qj e hh hs b λi _=>c
def Gu(l:aU)(m x:Operand):Option ((Obj->Prop)×SV):=
 (dW l m).bind λm=>(c6 m).bind λ(b,v)=>match b with
   |[]=>match v with
    |.mp K=>(dW l x).bind λx=>(c6 x).bind λ(a,y)=>match a with
     |[]=>(TL y.aG).bind λ_=>some (K,y)
     |_::_=>none
    |_=>none
   |_::_=>none
def Wr{all:Array Oper}{ty:TypeId}{pos:String}{h:(Obj->Prop)×SV}{y:SV}
 (s:cV l all.toList g=some true)(hh:Gu l m x=some h)(p:y.aG=true)(hs:Looks P t okb h.1 h.2.den y.den)(i:aan l [] d y (λl'=>some (l',[d]))=some (l',ks))(q:∀e,bc e=ks->K e (dn l')):
 Mo P all ⟨some d,.lookup t m x okb,ty,pos,aft,g⟩ (dn l) K:=by
 simp[Gu,ads]at hh;obtain⟨J,B,L,v,A,a⟩:=hh;split at a<;>try(cases a)
 split at a<;>try(cases a)
 rename_i j;simp[ads]at a;obtain⟨H,z,n,c,w,b⟩:=a;split at b<;>try(cases b)
 simp only[ads,bE,ada]at b;obtain⟨_,u,rfl⟩:=b;simp[jd]at i;obtain⟨rfl,rfl⟩:=i;refine⟨.SP y.den,gF (some d) y.den [],[.SP t okb j c.den y.den],dn<|MC l [] d y,?_,?_,?_,q _ fb⟩
 ·unfold fu;rw[dS (o:=⟨some d,.lookup t m x okb,ty,pos,aft,g⟩) s];have D:(resolve (dn l) m).cont=some (.mp j):=by rw[c8 B];exact aF A U
  have C:(resolve (dn l) x).cont=some c.den:=by rw[c8 z];exact aF w U
  simp[lv,D,C,cO,u,p]
 ·simp;exact hs
 have:=iL l [] d y;simp[gF,jl];rw[this]
def Zw{all:Array Oper}{c:List Nat}{a:List (List Nat×List Nat)}{rest:List Oper}{ty:TypeId}{pos:String}{h:(Obj->Prop)×SV}(y:SV)
 (n:cV l all.toList g=some true)(hh:Gu l m x=some h)(e:y.aG=true)(hs:Looks P t okb h.1 h.2.den y.den)(i:aan l [] d y (λl'=>some (l',[d]))=some (l',ks))
 (j:AK R P N F (.ng all c rest ((iD (dn l) all ⟨some d,.lookup t m x okb,ty,pos,aft,g⟩,ks)::a)::k) l'):
 AK R P N F (.ng all c (⟨some d,.lookup t m x okb,ty,pos,aft,g⟩::rest) a::k) l:=by
 exact Wr n hh e hs i λo b=>by rw[b];exact j
end
end
section
variable{R:Option Nat->Prop}{P:Program}{N:Nat}{F:St->Prop}{k:List It}{l:aU}
section
variable{b:Bool}{y:List SV}{i:Nat}{pe:Option Code}{σ:St}
def o5.fit{V:Hid}{w0 w:World}{S0:Nat->Prop}{a:Act}{l':List (Nat×SV)}(v:ur l l')(h:o5 N V w0 S0 (dn l) a w):o5 N V w0 S0 (dn<|sl l') a w:=by
 obtain⟨S,F,z,hc,s,o,g,f,p,m,hm⟩:=h;have hi:Inv N (V.Su F a.defers) w S (dn l) a w:=⟨S,F,⟨hc.rel,hc.nodup,hc.du,λi b e=>⟨.inr ⟨i,e⟩,(hc.own i b e).2⟩,hc.shr⟩,s,W,λ_ h=>h,λ_ h=>.inl h,lW.refl _ _⟩
 obtain⟨t,u,c,x,-,k1,k2,-⟩:=Gr v hi;have r:∀i b,b∈u i->∃j,b∈F j:=λi b e=>by
  have:=c.own i b e;rcases this.1 with h|h
  ·omega
  exact h
 have q:∀b,t b->S b\/∃j,b∈F j:=λb e=>by
  rcases k2 b e with h|h
  ·exact .inl h
  rcases h with h|h
  ·exact absurd (c.shr b e)<|Nat.not_lt.2 h
  exact .inr h
 refine⟨t,u,z,⟨c.rel,c.nodup,c.du,λi b e=>?_,c.shr⟩,s,o,λb e=>k1 b<|g b e,λb e=>?_,p,m,λd A=>?_⟩
 ·obtain⟨j,n⟩:=r i b e;exact⟨(hc.own j b n).1,(c.own i b e).2⟩
 ·rcases q b e with h|⟨j,n⟩
  ·exact f b h
  exact .inr (hc.own j b n).1
 grind
def U8{c:Code}{Q g:Exit->St->Prop}(h:AW R P N c Q σ)(m:∀e f,Q e f->∃d,g e d/\∀V w0 S0 a w,o5 N V w0 S0 f a w->o5 N V w0 S0 d a w):AW R P N c g σ:=by
 intro V w0 S0 a w j hi;refine wpIn_mono (h V w0 S0 a w j hi) ?_
 grind
def abL:List Nat->Nat->Option Nat
 |[],_=>none
 |r::ex,i=>match Nat.beq r i with
  |true=>some 0
  |false=>match abL ex i with
   |some k=>some (k+1)
   |none=>none
def ta:∀{ex:List Nat}{i j:Nat},abL ex i=some j->ex[j]?=some i
 |[],i,j,h=>by simp[abL]at h
 |r::ex,i,j,h=>by
  simp[abL]at h;split at h
  ·rename_i e;cases h;simp_all
  split at h<;>try(cases h;done)
  rename_i k a;cases h;simpa using ta a
def PG(l:aU)(ex:List Nat)(i:Nat):Option (SV×Bool):=
 match abL ex i with
 |some j=>some (.bC (1000000+j) 0 0 [],false)
 |none=>match(gt l i).v with
  |.bC r g1 _ p=>match abL ex r with
   |some j=>(TL<|eX (kh p)<|Nat.beq (gt l r).g1 g1).bind λ_=>some (.bC (1000000+j) 0 0 p,false)
   |none=>none
  |.ptr r g1 _ p=>match abL ex r with
   |some j=>(TL<|eX (flat p)<|Nat.beq (gt l r).g1 g1).bind λ_=>some (.ptr (1000000+j) 0 0 p,false)
   |none=>none
  |v=>(TL<|eX v.plain v.aG).bind λ_=>some (v,true)
def Kg{ex:List Nat}{v:SV}{t:Bool}(h:PG l ex i=some (v,t)):(t=false->∀is,View (dn l) ex is i v.den)/\(t=true->(dn l i).av=v.den/\v.den.plain=true/\v.den.aG=true):=by
 unfold PG at h;split at h
 ·rename_i j a;cases h;exact⟨λ_ _=>.own<|ta a,λh=>by simp at h⟩
 split at h
 ·rename_i r g1 g2 p e;split at h<;>try(cases h)
  rename_i j a;simp only[ads,bE,aO,beq_iff]at h;obtain⟨_,⟨d,c⟩,rfl,rfl⟩:=h;exact⟨λ_ _=>.bC (ta a) (by rw[dL,e];rfl) d<|by rw[zS];exact c,λh=>by simp at h⟩
 ·rename_i r g1 g2 p e;split at h<;>try(cases h)
  rename_i j a;simp only[ads,bE,aO,beq_iff]at h;obtain⟨_,⟨d,c⟩,rfl,rfl⟩:=h;exact⟨λ_ _=>.ptr (ta a) (by rw[dL,e];rfl) d<|by rw[zS];exact c,λh=>by simp at h⟩
 simp only[ads,bE,aO]at h;obtain⟨_,⟨d,c⟩,rfl,rfl⟩:=h;exact⟨λh=>by simp at h,λ_=>⟨by rw[dL],by rw[dj];exact d,by rw[cO];exact c⟩⟩
def OD:List Nat->Nat->Bool
 |[],_=>false
 |r::q,i=>DN (Nat.beq r i)<|OD q i
def BR:∀{q:List Nat}{i:Nat},OD q i=true↔i∈q
 |[],i=>by simp[OD]
 |r::q,i=>by
  simp[OD,qS,BR (q:=q)]
  grind
def A7(l:aU)(ex c:List Nat)(N:Nat):List Nat->Option (List (Nat×SV)×List Nat)
 |[]=>some ([],[])
 |i::q=>(TL<|eX (Nat.ble (i+1) N)<|not'<|OD c i).bind λ_=>(PG l ex i).bind λ(v,t)=>(A7 l ex c N q).bind λ(a,is)=>match t with
  |true=>some ((i,v)::a,i::is)
  |false=>some ((i,v)::a,is)
def View.more{ex is a:List Nat}{v:AV}(h:View σ ex is i v)(hs:∀j∈is,j∈a):View σ ex a i v:=by
 cases h with
 |own h=>exact .own h
 |bC h e d c=>exact .bC h e d c
 |ptr h e d c=>exact .ptr h e d c
 |val h=>exact .val<|hs _ h
def yR{ex c:List Nat}:∀{q:List Nat}{a:List (Nat×SV)}{is:List Nat},A7 l ex c N q=some (a,is)->
 (∀i∈is,(dn l i).av.plain=true/\(dn l i).av.aG=true)/\∀x∈a,View (dn l) ex is x.1 x.2.den/\x.1<N/\x.1∉c
 |[],a,is,h=>by simp[A7]at h;simp_all
 |i::q,a,is,h=>by
  simp only[A7,ads,bE,aO,afF]at h;obtain⟨_,⟨u,f⟩,v,t,s,g,n,r,p⟩:=h;obtain⟨k1,k2⟩:=yR r;obtain⟨m1,m⟩:=Kg s;have hn:=ae4 u;have o:i∉c:=λhh=>by rw[BR.2 hh]at f;cases f
  cases t with
  |true=>
   cases p;obtain⟨w,D,C⟩:=m W;refine⟨λj e=>?_,λx d=>?_⟩
   ·grind
   rcases adZ.1 d with rfl|d
   ·exact⟨by dsimp only;rw[<-w];exact .val I,hn,o⟩
   obtain⟨B,A,z⟩:=k2 x d;exact⟨B.more λj e=>List.mem_cons_of_mem _ e,A,z⟩
  |false=>grind
def Io:List Nat->Bool
 |[]=>true
 |i::q=>eX (not'<|OD q i)<|Io q
def uN:∀{q:List Nat},Io q=true->q.Nodup
 |[],_=>ae5
 |i::q,h=>by simp[Io,aO,not_iff]at h;exact afv.2 ⟨λhh=>by rw[BR.2 hh]at h;simp at h,uN h.2⟩
def G8(N:Nat):List Nat->Bool
 |[]=>true
 |i::q=>eX (Nat.ble (i+1) N)<|G8 N q
def Ac:∀{q:List Nat},G8 N q=true->∀i∈q,i<N
 |[],_,i,hi=>by cases hi
 |j::q,h,i,hi=>by
  simp only[G8,aO]at h;rcases adZ.1 hi with rfl|hi
  ·exact ae4 h.1
  exact Ac h.2 i hi
def AM(l:aU):List Nat->Bool
 |[]=>true
 |i::q=>eX (gt l i).v.plain<|AM l q
def vU:∀{q:List Nat},AM l q=true->∀i∈q,(dn l i).av.plain=true
 |[],_,i,hi=>by cases hi
 |j::q,h,i,hi=>by
  simp[AM,aO]at h;rcases adZ.1 hi with rfl|hi
  ·rw[dL,dj];exact h.1
  exact vU h.2 i hi
def Nz(l:aU):List Nat->List SV
 |[]=>[]
 |i::q=>(gt l i).v::Nz l q
def Fp:∀(q:List Nat)(j:Nat),j<q.length->(aB<|Nz l q)[j]?=some (dn l<|q.getD j 0).av
 |[],j,h=>by cases h
 |i::q,j,h=>by
  cases j with
  |zero=>rfl
  |succ j=>exact Fp q j (by simpa using h)
def sf(l:aU):List Nat->List SV->aU
 |[],_=>l
 |r::ex,ys=>match ys with
  |[]=>(match gt l r with|⟨_,a,b⟩=>(r,⟨.dead,a,b+1⟩)::sf l ex [])
  |y::ys=>(match gt l r with|⟨_,a,b⟩=>(r,⟨y,a,b+1⟩)::sf l ex ys)
def qA:∀(ex:List Nat)(ys:List SV),qZ (dn l) ex (aB ys)=dn (sf l ex ys)
 |[],ys=>fb
 |r::ex,ys=>by
  funext i
  cases ys with
  |nil=>
   simp[sf,fR,iI,Cl.den,SV.den,<-qA ex []];unfold qZ;simp[idxOf,aB];by_cases h:r=i
   ·subst h;simp[zS,Nb]
   grind
  |cons y ys=>
   simp[sf,fR,iI,Cl.den,<-qA ex ys];unfold qZ;simp[idxOf,aB];by_cases h:r=i
   ·subst h;simp[zS,Nb]
   grind
def L5(y:List SV)(σ:St):Prop:=∃l a,σ=dn l/\ur l a/\Gt (sl a) 1000000 y
def NB(y:List SV)(b:Bool)(pe:Option Code)(σ:St):Prop:=(b=true/\pe=none)/\L5 y σ
def RB(y:List SV)(b:Bool)(pe:Option Code)(σ:St):Prop:=(b=false/\pe=some .ret)/\L5 y σ
def Body(P:Program)(N:Nat)(body:Code)(y:List SV)(b:Bool)(pe:Option Code)(σ:St):Prop:=iR R1 P N (RB y b pe) [.code body,.inv<|NB y b pe] .normal σ
def rH{body:Code}(h:AK R1 P N (RB y b pe) [.code body,.inv<|NB y b pe] l):AK R P N F [.inv<|Body P N body y b pe] l:=h
def zA(l':List (Nat×SV))(d:b=true)(a:pe=none)(c:Aj l l')(hh:Gt (sl l') 1000000 y):AK R P N F (.inv (NB y b pe)::k) l:=⟨⟨d,a⟩,l,l',W,c.Hj,hh⟩
def XS(l':List (Nat×SV))(d:b=false)(a:pe=some .ret)(c:Aj l l')(hh:Gt (sl l') 1000000 y):AK R P N (RB y b pe) [] l:=⟨⟨d,a⟩,l,l',W,c.Hj,hh⟩
def zk(h:L5 y σ):∃c,(∀(j:Nat)(v:AV),(aB y)[j]?=some v->(c<|1000000+j).av=v/\v.plain=true)/\∀V w0 S0 a w,o5 N V w0 S0 σ a w->o5 N V w0 S0 c a w:=by obtain⟨l,d,rfl,g,f⟩:=h;exact⟨dn<|sl d,λj v e=>IX j f e,λV w0 S0 a w hi=>hi.fit g⟩
def Bv{g:Operand}{o:Array Tmp}{d body:Code}{gf:FuncId}{A:Func}{captured:List SV}{sr:SR}{O:List (Nat×SV)}{is:List Nat}(ex vs:List Nat)(n m:Nat)(x y:Nat->List SV)(b:Nat->Bool)(pe:Nat->Option Code)(r:SV)
 (hN:Nat.ble N 1000000=true)(B0:aJ g=true)(hg:dW l g=some sr)(D1:c6 sr=some ([],.fn (.func gf) [] captured))(Z:gE captured=true)(hf:P.funcs[gf]?=some A)(E1:A.body.isNone=false)(D2:(A.name== "runtime.NumGoroutine")=false)(E2:Nat.ble (len captured+1) 999999=true)
 (q:eX (Io ex) (AM l ex)=true)(p:eX (Io o.toList) (G8 N o.toList)=true)(X:A7 l ex o.toList N vs=some (O,is))
 (hx:∀k,k<n->(x k).length=o.size)(hy:∀k,(y k).length=ex.length)(Q:∀k,k<n->∀z∈y k,z.plain=true)(T:y 0=Nz l ex)(K:pe 0=none)(Y:∀k,k<n->(∀j,j<k->b j=true)->pe k=none)
 (A0:∀(C:Value->Prop)(J:Nat->tD),(∀v,C v->∀k,k<n->(∀j,j<k->b j=true)->Yields P (J k) (J<|k+1) (aB<|x k) (b k) v)->lp P gf [.abs<|J 0] (.pv C::captured) [.abs<|J m] r)
 (u:∀k,k<n->(∀j,j<k->b j=true)->AK R1 P N (λ_=>False) [.code d,.inv<|Body P N body (y<|k+1) (b k)<|pe<|k+1] (sl<|cat O<|cat (rX o.toList<|x k)<|rm 1000000 (y k)))
 (t:pe m=none->AK R0 P N F k (sf l ex<|y m))(s:∀c,pe m=some c->c=.ret/\AK R0 P N F [] (sf l ex<|y m)):AK R0 P N F (.code (.rangeFunc g o d body)::k) l:=by
 rw[aO]at q p;obtain⟨v1,v2⟩:=yR X;have M:=ae4 hN;have L:(aB captured).length<999999:=by rw[bB,<-fH];exact ae4 E2
 refine Sn (σ:=dn l) (σB:=λk=>dn<|sl<|cat O<|cat (rX o.toList<|x k)<|rm 1000000 (y k)) (captured:=aB captured) (r:=r.den) (ex:=ex) (is:=is) (n:=n) (m:=m) (x:=λk=>aB<|x k) (y:=λk=>aB<|y k) (b:=b) (pe:=pe) M B0 ?_ ?_ hf E1 D2 L (uN q.1) (vU q.2) v1 ?_ ?_ ?_ K Y ?_ ?_ ?_ ?_
 ·rw[c8 hg];exact aF D1 U
 ·rw[dV];exact Z
 ·intro k D;rw[bB];exact hx k D
 ·intro k;rw[bB];exact hy k
 ·intro j hj;rw[T];exact Fp ex j hj
 ·exactλC J h=>A0 C J h
 ·intro V a w S B F' ha hc k D;exact NV M ha hc v1 v2 (uN p.1) (Ac p.2) (hx k D) (hy k) (Q k D)
 ·intro k D hb;have h1:=u k D hb;refine jr h1 λe F1 he=>?_;cases e with
  |normal=>
   refine⟨W,?_⟩;have h2:=he;refine U8 h2 λe F0 h3=>?_;cases e with
   |normal=>obtain⟨h4,h5⟩:=h3;obtain⟨f,h6,h7⟩:=zk (N:=N) h5;exact⟨f,⟨h4,h6⟩,h7⟩
   |ret=>obtain⟨h4,h5⟩:=h3;obtain⟨f,h6,h7⟩:=zk (N:=N) h5;exact⟨f,⟨h4,h6⟩,h7⟩
   |_=>exact(show False from h3).elim
  |_=>exact(show False from he).elim
 cases H:pe m with
 |none=>rw[qA];exact t H
 |some c=>obtain⟨rfl,h2⟩:=s c H;rw[qA,mj];exact h2
end
end
section
variable{R:Option Nat->Prop}{P:Program}{N:Nat}{F:St->Prop}{k:List It}{l:aU}
section
variable{ks:List Nat}{o:Oper}{r:SV}{l':aU}
def mE(P:Program)(o:Oper)(H args a:List SV)(r:SV):Prop:=SI P o (aB H) (aB args) (aB a) r.den
def mE.same{H b asx bs a c:List SV}{q:SV}(h:mE P o H asx a r)(g:aB H=aB b)(f:aB asx=aB bs)(e:aB a=aB c)(d:r.den=q.den):mE P o b bs c q:=by unfold mE at *;simp_all
structure yM where
 R:List (Nat×SV)
 asx:List SV
def aaY(l:aU)(ops:List Operand):Option yM:=
 (jQ l ops).bind λb=>match eP [] b with
   |R=>(C9 R b).bind λa=>(TL<|Nat.ble (len a) 1000000).bind λ_=>some ⟨R,a⟩
def Qi{all:Array Oper}{K:List Mv->St->Prop}{h:yM}{out:List SV}
 (q:cV l all.toList o.guard=some true)(f:rq (dn l) o.op=true)(hh:aaY l o.op.operands.toList=some h)(hs:mE P o (lD h.R) h.asx out r)(b:ij l o.dst h.R out r=some (l',ks))(p:∀j,bc j=ks->K j (dn l')):
 Mo P all o (dn l) K:=by
 unfold aaY at hh;simp only[ads,bE,ada]at hh;obtain⟨a,u,i,t,_,s,rfl⟩:=hh;simp[ij]at b;split at b<;>try(cases b)
 rename_i n;simp[aO,not_iff]at n;obtain⟨g,z,y,A,x⟩:=n;have w:dD [] (a.map SR.den)=jK (eP [] a):=lK [] _;have v:=tC t;have c:ME o.dst (a.map SR.den) (aB out) r.den=some (gF o.dst r.den [.back<|oh (jK<|eP [] a)<|aB out],aB<|lD<|eP [] a,aB i):=by unfold ME;simp[w,v,vy];simp[iu _ z,iu _ y,dj,we _ _ x,CL,bB];have:=ae4 s;simp[fH]at this g;simp_all
 have e:Mv.runs (dn l) (gF o.dst r.den [.back<|oh (jK<|eP [] a)<|aB out])=some (dn l')/\bc (gF o.dst r.den [.back<|oh (jK<|eP [] a)<|aB out])=ks:=by
  cases m:o.dst with
  |none=>rw[m]at b;cases b;exact⟨by simp[gF,Mv.runs,Mv.run,kr],by simp[gF,bc];exact nU _ _ g⟩
  |some d=>rw[m]at b;simp[jd]at b;obtain⟨rfl,rfl⟩:=b;exact⟨by simp[gF,Mv.runs,Mv.run,kr,iL],by simp[gF,bc,Mv.keys,cX];rw[nU _ _ g]⟩
 refine⟨.ext (aB out) r.den,_,[.ext o (aB<|lD<|eP [] a) (aB i) (aB out) r.den],dn l',?_,?_,e.1,p _ e.2⟩
 ·unfold fu;rw[dS q];simp[lv,f,fo l u,c]
 simp[Ob.ok];exact hs
def ZE{all:Array Oper}{rest:List Oper}{h:yM}{out:List SV}
 (d:cV l all.toList o.guard=some true)(a:rq (dn l) o.op=true)(hh:aaY l o.op.operands.toList=some h)(hs:mE P o (lD h.R) h.asx out r)(b:ij l o.dst h.R out r=some (l',ks))(c:AK R P N F (.ops all rest::k) l'):
 AK R P N F (.ops all (o::rest)::k) l:=by
 exact Qi d a hh hs b λe _=>c
def ZF{all:Array Oper}{d:List Nat}{a:List (List Nat×List Nat)}{rest:List Oper}{h:yM}{out:List SV}
 (g:cV l all.toList o.guard=some true)(c:rq (dn l) o.op=true)(hh:aaY l o.op.operands.toList=some h)(hs:mE P o (lD h.R) h.asx out r)(e:ij l o.dst h.R out r=some (l',ks))
 (f:AK R P N F (.ng all d rest ((iD (dn l) all o,ks)::a)::k) l'):
 AK R P N F (.ng all d (o::rest) a::k) l:=by
 exact Qi g c hh hs e λi b=>by rw[b];exact f
end
end
def wY{w:World}{S:Nat->Prop}:∀{xs:List AV}{a:List Value},a.length=xs.length->(∀i(h:i<xs.length),Rel w S xs[i] (a.getD i undef) [])->Cells w S false xs a []
 |[],a,h,_=>by simp at h;simp[Cells,h]
 |x::xs,[],h,_=>by cases h
 |x::xs,v::a,h,k=>by refine⟨v,a,[],[],W,W,I,k 0 I,wY (by simpa using h) λi hi=>?_⟩;have:=k (i+1) (by simp;omega);simpa using this
def tj{P:Program}{o:Oper}{args:List SV}{r:SV}(s:gE args=true)(q:tb args=true)(D:args.length<1000000)
 (h:∀(w:World)(S:Nat->Prop)(g:List Value),(∀b,S b->b<w.heap.size)->Cells w S false (aB args) g []->Ext P o g.toArray w λv w'=>∃S' F,Below w.heap.size w w'/\(∀b,S b->S' b)/\(∀b,S' b->S b\/w.heap.size<=b)/\(∀b,S' b->b<w'.heap.size)/\
   Rel w' S' r.den v F/\F.Nodup/\∀b∈F,w.heap.size<=b/\b<w'.heap.size/\¬S' b):
 mE P o [] args [] r:=by
 intro w S V g F hl hc;rw[bB]at hl;have c:Cells w S false (aB args) g []:=by
  refine wY (by rw[bB];exact hl) λi hi=>?_;have L:i<args.length:=by rwa[bB]at hi
  have n:=hc.rel i;have f:=gM (args:=aB args) (H:=aB []) (i:=i) E;rw[aeF hi]at f;have B:(aB args)[i].plain=true:=by have:=qu (iu _ q)<|aeF hi;exact this
  rw[an.aA<|by rw[f];exact B,f]at n;have hn:(aB args)[i].aG=true:=by
   have O:bU (aB args)=true:=by rw[dV];exact s
   have:∀(l:List AV),bU l=true->∀x∈l,x.aG=true:=by
    intro l
    induction l with
    |nil=>intro _ x A;cases A
    |cons y l T=>
     intro hl x A;simp[bU]at hl
     grind
   exact this _ O _<|adC hi
  have e:=Rel.aG _ n hn;rw[e]at n;have X:bg V g i=g.getD i undef:=by unfold bg;rw[if_pos E]
  simp_all
 refine Ext.mono ?_<|h w S g hc.shr c;rintro v w'⟨S',Q,a,z,u,t,d,C,M⟩;have p:=d.plain;have m:∀i,(both [r.den] (aB []) i).av=if i=0 then r.den else .dead:=by
  intro i;by_cases hi:i<1000000
  ·rw[gM hi]
   grind
  obtain⟨j,rfl⟩:∃j,i=1000000+j:=⟨i-1000000,E⟩;rw[fT I];simp[aB]
 refine⟨S',λi=>if i=0 then Q else[],⟨a.os,a.tape,a.output,a.size,λk J _=>a.block k J⟩,z,λb h=>(u b h).imp id .inl,⟨λi=>?_,λi=>?_,λi j K b f=>?_,λi b f=>?_,t⟩⟩
 ·rw[an.aA<|by rw[m];split;exact p;rfl,m];by_cases hi:i=0
  ·subst hi;have:bg V [v] 0=v:=W;rw[this];exact d
  simp[hi,Rel]
 ·grind
 ·grind
 split at f
 ·have:=M b f;exact⟨.inl this.1,this.2⟩
 cases f
def LH{P:Program}{o:Oper}{d f e:TypeId}{x:Operand}(s:hO){u:TypeDesc}(cm:o.op=.convert d f x)(hs:P.underlying d=some u)(A:P.underlying f=some (.slice e))(he:P.underlying e=some (.int .u8)):
 mE P o [] [.s s] [] (.ints .u8 false<|s.map λc=>(c.toNat:Int)):=by
 refine tj W W I ?_;intro w S B C hc n g;obtain⟨y,l',J,H,rfl,D,_,v,rfl,rfl⟩:=hc;obtain⟨_,rfl,rfl⟩:=v;have q:n x=.string (bs s):=by rw[cm]at g;simpa[Op.operands]using g
 have i:=Lib.run_convert_string_bytes (P:=P) w d f e (bs s) hs A he;refine⟨_,.slice (some ⟨w.heap.size,0,none⟩) (bs s).size<|grownCap w (bs s).size 0 e,Lib.bytesWorld w e<|bs s,?_,.inl W,λb=>S b\/b=w.heap.size,[],?_,λb h=>.inl h,λb h=>h.imp id λh=>E,λb h=>?_,?_,ae5,I⟩
 ·simp[execOp,cm,q];simp[i]
 ·refine⟨W,W,W,by rw[Lib.bytesWorld_size];omega,λk z=>Lib.bytesWorld_at_old w e (bs s) k z⟩
 ·rw[Lib.bytesWorld_size]
  grind
 simp only[SV.den,Rel];right;have j:(bs s).size=s.length:=W;have m:=grownCap_ge w (bs s).size 0 e;refine⟨w.heap.size,0,_,_,_,by rw[aeW,aeW,j],.inr W,by unfold row?;rw[Lib.bytesWorld_at_new],?_,?_,U⟩
 ·simp_all
 have hl:(((Lib.bytesCells w e<|bs s).toList.drop 0).take<|(((s.map λc=>(c.toNat:Int)).map λa=>AV.v<|.int .u8 a).length*1))=s.map λc=>Value.int .u8 c.toNat:=by rw[afG];unfold Lib.bytesCells;rw[Array.toList_append,ahy<|by simp[bs]];simp[bs];exact adM I
 rw[hl];have:∀t:hO,c7 (Lib.bytesWorld w e<|bs s) (λb=>S b\/b=w.heap.size) 1 ((t.map λc=>(c.toNat:Int)).map λa=>AV.v<|.int .u8 a) (t.map λc=>Value.int .u8 c.toNat) []:=by
  intro t
  induction t with
  |nil=>simp[c7]
  |cons c t p=>exact⟨.int .u8 c.toNat,_,[],[],W,W,W,by simp[Rel,scalar],p⟩
 exact this s
def T4{P:Program}{o:Oper}{t rt:TypeId}{x:Operand}{e:Array (String×TypeId)}(cm:o.op=.binOp .neq t x (.const .nilIface) rt)(hu:P.underlying t=some (.interface e)):
 mE P o [] [.c .nilIface,.c .nilIface] [] (.b false):=by
 refine tj W W I ?_;intro w S q g hc n a;obtain⟨y,l',B,A,rfl,u,_,f,p,s,z,v,rfl,i,_,d,rfl,rfl⟩:=hc;obtain⟨_,rfl,rfl⟩:=f;obtain⟨_,rfl,rfl⟩:=d;rw[cm]at a;simp[Op.operands,and_true]at a;obtain⟨m,j⟩:=a;refine⟨_,.bool false,w,?_,.inl W,S,[],Below.refl _ _,λ_ h=>h,λ_ h=>.inl h,g,by simp[SV.den,Rel,scalar],ae5,I⟩;simp[execOp,cm,m,j];have he:(Op.equalIn 10000 t Value.nilIface Value.nilIface).run P w=.ok true w:=by unfold Op.equalIn;simp[run_underlying hu]
 simp[eqGuard,binOp,Op.equal,Op.maxDepth,he]
end Go.Ai
