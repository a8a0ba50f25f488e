/- Parts of the proof of ScaleChanges (as AIM.md's row tells), at every input, with no further conditions. -/
import Derived.Test.YtpoaaoihkhdijaaGreatDoorHZAB
set_option linter.all false
set_option maxRecDepth 100000
set_option maxHeartbeats 0
namespace Go.Ai
open Go.RowKit
section
variable{P:Program}{N:Nat}{w0 w:World}{V:Hid}{S S0:Nat->Prop}{B:Nat->Prop}{σ σ':St}{a:Act}{F:Nat->List Nat}
section
variable{p r:Array TypeId}{b:Bool}{d:Nat}{t:TypeId}
def M9(d:Nat)(hu:P.underlying t=some .bool)(x y:Bool)(w:World):(Op.equalIn (d+1) t (.bool x)<|.bool y).run P w=.ok (x==y) w:=by simp[Op.equalIn,run_underlying hu]
def Cw(d:Nat){e:TypeId}(hu:P.underlying t=some (.slice e))(x:Option Addr)(n c:Nat)(w:World):(Op.equalIn (d+1) t (.slice x n c)<|.slice none 0 0).run P w=.ok x.isNone w:=by cases x<;>simp[Op.equalIn,run_underlying hu]
def Cx(d:Nat){e:TypeId}(hu:P.underlying t=some (.pointer e))(x:Option Addr)(w:World):(Op.equalIn (d+1) t (.pointer x)<|.pointer none).run P w=.ok x.isNone w:=by cases x<;>simp[Op.equalIn,run_underlying hu]
def Uz(d:Nat)(hu:P.underlying t=some (.func p r b))(f:Fn)(x y:Array Value)(w:World):(Op.equalIn (d+1) t (.func f x y) .nilFunc).run P w=.ok false w:=by simp[Op.equalIn,run_underlying hu]
def Lr(d:Nat)(hu:P.underlying t=some (.func p r b))(w:World):(Op.equalIn (d+1) t .nilFunc .nilFunc).run P w=.ok true w:=by simp[Op.equalIn,run_underlying hu]
def Jo(t:TypeId)(x y:Value):Op.equal t x y=Op.equalIn (9999+1) t x y:=W
theorem Qm{op:BinOp}{t:TypeId}{x y v:Value}(X Y:Operand)(h:xD P op t x y=some v)(w:World):
 (do eqGuard op t X Y x y;binOp op t x y:Sem Value).run P w=.ok v w:=by
 unfold xD at h;split at h
 ·rename_i k n k' m;rw[eqGuard_at_int];split at h
  ·split at h
   ·simp at h
   rename_i hb;simp only[ada]at h;subst h;simp[binOp,Op.shift,hb]
  ·split at h
   ·simp at h
   rename_i hb;simp only[ada]at h;subst h;simp[binOp,Op.shift,hb]
  split at h
  ·rename_i hk;subst hk;split at h
   ·simp only[ada]at h;subst h;simp[binOp,Op.intArith]
   ·simp only[ada]at h;subst h;simp[binOp,Op.intArith]
   ·simp only[ada]at h;subst h;simp[binOp,Op.intArith]
   ·split at h
    ·simp at h
    rename_i hb;simp only[ada]at h;subst h;simp[binOp,Op.intDiv,hb]
   ·split at h
    ·simp at h
    rename_i hb;simp only[ada]at h;subst h;simp[binOp,Op.intDiv,hb]
   ·simp only[ada]at h;subst h;simp[binOp,Op.intBits]
   ·simp only[ada]at h;subst h;simp[binOp,Op.intBits]
   ·simp only[ada]at h;subst h;simp[binOp,Op.intBits]
   ·simp only[ada]at h;subst h;simp[binOp,Op.intBits]
   ·simp only[ada]at h;subst h;simp[binOp,Op.intCmp]
   ·simp only[ada]at h;subst h;simp[binOp,Op.intCmp]
   ·simp only[ada]at h;subst h;simp[binOp,Op.intCmp]
   ·simp only[ada]at h;subst h;simp[binOp,Op.intCmp]
   ·simp only[ada]at h;subst h;simp[binOp,Op.intCmp]
   ·simp only[ada]at h;subst h;simp[binOp,Op.intCmp]
   simp at h
  simp at h
 ·rename_i s s';rw[eqGuard_at_string];split at h
  ·split at h
   ·simp at h
   rename_i hb;simp only[ada]at h;subst h;simp only[Sem.run_bind,Sem.run_pure,Result.andThen_ok,binOp,Op.stringOp,hb,if_false]
  ·simp only[ada]at h;subst h;rfl
  ·simp only[ada]at h;subst h;rfl
  ·simp only[ada]at h;subst h;rfl
  simp at h
 ·rename_i b b';rw[eqGuard_at_bool];split at h
  ·rename_i hu;split at h
   ·simp only[ada]at h;subst h;simp only[binOp,Sem.run_bind,Sem.run_pure,Result.andThen_ok,Jo,M9 9999 hu]
   ·simp only[ada]at h;subst h;simp only[binOp,Sem.run_bind,Sem.run_pure,Result.andThen_ok,Jo,M9 9999 hu]
   simp at h
  simp at h
 simp at h
def N0{op:BinOp}{x y:AV}{c g:Value}{J H:List Nat}(X Y:Operand)(h:isNil P t x y=some b)(i:Rel w S x c J)(l:Rel w S y g H)(cm:op=.eql\/op=.neq):
 (do eqGuard op t X Y c g;binOp op t c g:Sem Value).run P w=.ok (.bool<|if op=.eql then b else !b) w:=by
 have fin:∀u,P.underlying t=some u->(eqGuard op t X Y c g=pure ())->((Op.equal t c g).run P w=.ok b w)->(∀k n,c≠.int k n)->(∀s,c≠.string s)->(∀k n,c≠.float k n)->(∀k n m,c≠.complex k n m)->
  (do eqGuard op t X Y c g;binOp op t c g:Sem Value).run P w=.ok (.bool<|if op=.eql then b else !b) w:=by
  intro u hu C he q o M L;rw[C];rcases cm with rfl|rfl
  ·have:binOp .eql t c g=(do pure (.bool<|←Op.equal t c g)):=by
    cases c<;>first|rfl|exact absurd rfl (q _ _)|exact absurd rfl (o _)|simp_all|simp_all
   simp[this,he]
  have:binOp .neq t c g=(do pure (.bool<|!(←Op.equal t c g))):=by cases c<;>first|rfl|exact absurd rfl (q _ _)|exact absurd rfl (o _)|simp_all|simp_all
  simp[this,he]
 unfold isNil at h;split at h
 ·split at h
  ·rename_i f _ K;split at h
   ·rename_i e hu;obtain⟨rfl,rfl,-⟩:=vM l;obtain⟨T,D,rfl,-,q,o,-⟩:=i.jX;refine fin _ hu (eqGuard_at_slice ..) ?_ I I I I;cases f with
    |nil=>obtain⟨rfl,-,-⟩:=q W;cases h;exact Cw 9999 hu _ _ _ w
    |shr=>
     simp only at h;split at h
     ·cases h
     rename_i j;obtain⟨v,A,rfl⟩:=o I (by simpa using j);cases h;exact Cw 9999 hu _ _ _ w
    |own=>
     simp only at h;split at h
     ·cases h
     rename_i j;obtain⟨v,A,rfl⟩:=o I (by simpa using j);cases h;exact Cw 9999 hu _ _ _ w
   cases h
  cases h
 ·split at h
  ·rename_i e hu;simp[Rel]at l;obtain⟨-,rfl,-⟩:=l;split at h
   ·cases h;simp only[Rel]at i;obtain⟨v,Q,O,F',z,rfl,-⟩:=i;exact fin _ hu (eqGuard_at_pointer ..) (Cx 9999 hu _ w) I I I I
   ·cases h;simp[Rel]at i;obtain⟨-,rfl,-⟩:=i;exact fin _ hu (eqGuard_at_pointer ..) (Cx 9999 hu _ w) I I I I
   cases h
  cases h
 ·split at h
  ·rename_i hu;simp[Rel]at l;obtain⟨-,rfl,-⟩:=l;split at h
   ·cases h;simp only[Rel]at i;obtain⟨Z,R,F3,F4,rfl,-⟩:=i;exact fin _ hu (eqGuard_at_func ..) (Uz 9999 hu _ _ _ w) I I I I
   ·cases h;simp[Rel]at i;obtain⟨-,rfl,-⟩:=i;exact fin _ hu (eqGuard_at_nilFunc ..) (Lr 9999 hu w) I I I I
   cases h
  cases h
 cases h
def Po{t:Nat}{op:BinOp}(h:Inv N V w0 S0 σ a w)(C:d<N)(x y:Operand)(g:aJ x=true)(f:aJ y=true){j i v:AV}
 (u:(resolve σ x).cont=some j)(s:(resolve σ y).cont=some i)(hm:mB P op t j i=some v)(z:Mv.runs σ [.put d v]=some σ'):
 Good N V w0 S0 σ' a d ((do eqGuard op t x y (a.eval x) (a.eval y);binOp op t (a.eval x) (a.eval y):Sem Value).run P w):=by
 have A:∀b,isNil P t j i=some b->(op=.eql/\v=.v (.bool b)\/op=.neq/\v=.v (.bool !b))->Good N V w0 S0 σ' a d ((do eqGuard op t x y (a.eval x) (a.eval y);binOp op t (a.eval x) (a.eval y):Sem Value).run P w):=by intro b m H;have n:=h;obtain⟨S,F,hc,-⟩:=h;obtain⟨Q,q,-⟩:=aQ hc x g u;obtain⟨O,o,-⟩:=aQ hc y f s;have c:=N0 (P:=P) (op:=op) x y m q o (by grind);refine eH n C z c λJ K l=>?_;rcases H with⟨rfl,rfl⟩|⟨rfl,rfl⟩<;>simp[Rel,scalar]
 have e:KU op (isNil P t j i)=some v->Good N V w0 S0 σ' a d ((do eqGuard op t x y (a.eval x) (a.eval y);binOp op t (a.eval x) (a.eval y):Sem Value).run P w):=by
  intro hm;cases m:isNil P t j i with
  |none=>rw[m]at hm;cases op<;>simp[KU]at hm
  |some b=>
   cases op<;>simp[KU]at hm
   ·simp_all
   simp_all
 unfold mB at hm;split at hm
 ·rename_i M;split at hm
  ·rename_i L;split at hm
   ·rename_i D hs;cases hm;have n:=h;obtain⟨S,F,hc,-⟩:=h;have q:=dt hc x g u;have o:=dt hc y f s;have c:=Qm (P:=P) x y hs w;rw[<-q,<-o]at c;refine eH n C z c λJ K l=>?_;have k:scalar D=true:=by
     unfold xD at hs
     repeat' split at hs
     all_goals first|(cases hs;rfl)|cases hs
    simp[Rel,k]
   exact e hm
  cases hm
 exact e hm
def PL{op:UnOp}(h:Inv N V w0 S0 σ a w)(j:d<N)(x:Operand)(c:aJ x=true){f v:Value}
 (g:(resolve σ x).cont=some (.v f))(hm:Wb op f=some v)(i:Mv.runs σ [.put d<|.v v]=some σ'):Good N V w0 S0 σ' a d ((Op.unary op<|a.eval x).run P w):=by
 have l:=h;obtain⟨S,F,hc,-⟩:=h;have m:=dt hc x c g;refine eH (z:=v) l j i ?_ λn o k=>?_
 ·rw[m];unfold Wb at hm;split at hm<;>first|(cases hm;simp[Op.unary,Op.intArith,Op.intBits])|cases hm
 have e:scalar v=true:=by unfold Wb at hm;split at hm<;>first|(cases hm;rfl)|cases hm
 simp[Rel,e]
end
end
section
variable{P:Program}{N:Nat}{w0 w:World}{V:Hid}{S S0:Nat->Prop}{B:Nat->Prop}{σ σ':St}{a:Act}{F:Nat->List Nat}
def yd(off:Nat):∀(l:List Value)(k:Nat)(cs:Array Value),off+k+l.length<=cs.size->
 ((l.zipIdx k).foldl (λcs(p:Value×Nat)=>cs.setIfInBounds (off+p.2) p.1) cs).toList=cs.toList.take (off+k)++l++cs.toList.drop (off+k+l.length)
 |[],k,cs,h=>I
 |v::l,k,cs,h=>by
  simp only[List.zipIdx_cons,afT];simp[adX]at h;rw[yd off l (k+1) _<|by simp;omega];simp only[Array.toList_setIfInBounds];apply ahs;intro j;by_cases d:j<off+k
  ·rw[aeZ,aeZ,afK<|by simp;omega,afK<|by simp;omega]
   grind
  by_cases b:j=off+k
  ·subst b;rw[aeZ,aeZ,afK<|by simp;omega,afD<|by simp;omega]
   grind
  by_cases c:j<off+k+1+l.length
  ·rw[aeZ,aeZ,afD<|by simp;omega,afK<|by simp;omega,afD<|by simp;omega,afK<|by simp;omega]
   grind
  rw[afD<|by simp;omega,afD<|by simp;omega];simp only[aeP,afm,ad2,afJ,ahu,adX]
  grind
def FD{xs g:List AV}{cs:Array Value}{m e:List Nat}{o n:Nat}{y:AV}{v:Value}(h:Cells w S true xs cs.toList m)(hs:Bg xs o n y=some g)(l:Rel w S y v e)(H:(m++e).Nodup):
 v.cells.size=n/\o+n<=cs.size/\∃F',Cells w S true g (cs.toList.take o++v.cells.toList++cs.toList.drop (o+n)) F'/\F'.Nodup/\∀b∈F',b∈m\/b∈e:=by
 have i:=Cells.length h;simp at i;unfold Bg at hs;split at hs
 ·rename_i t;obtain⟨A,c,rfl,z,x⟩:=Cells.split o h;obtain⟨C,s,rfl,J,r⟩:=Cells.split n x;rw[agk,agk]at r;have d:∀f,Cells w S true f v.cells.toList e->∃F',Cells w S true (xs.take o++f++xs.drop (o+n)) (cs.toList.take o++v.cells.toList++cs.toList.drop (o+n)) F'/\F'.Nodup/\∀b∈F',b∈A++(C++s)\/b∈e:=by
   intro f k;refine⟨A++e++s,Cells.append (Cells.append z k) r,?_,λb D=>?_⟩
   ·grind
   grind
  split at hs
  ·rename_i f;split at hs
   ·rename_i hl;cases hs;obtain⟨K,rfl,p⟩:=l;have:=Cells.length p;simp at this;exact⟨by rw[bu];omega,E,d f<|by simpa[bu]using p⟩
   cases hs
  split at hs
  ·rename_i u hc;simp[decide_eq_true_eq]at hc;obtain⟨rfl,hc⟩:=hc;cases hs;have q:=l.one hc;have j:=cD q;refine⟨by rw[j];rfl,E,?_⟩;have:=d [y] (by rw[j];exact⟨v,[],e,[],W,I,λ_=>q,l,W,W⟩);rw[List.set_eq_take_append_cons_drop,if_pos E];simpa using this
  cases hs
 cases hs
def zM(l:List (Nat×Nat)):∀(is:List Nat)(ys:List AV)(g:List Value){xs c:List AV}{cs:Array Value}{e f:List Nat},is.length=ys.length->Cells w S true xs cs.toList e->
 sB l xs (is.zip ys)=some c->Cells w S false ys g f->(e++f).Nodup->
 ∃cs' F',Instr.fill (l.toArray[·]?) cs (is.zip g)=some cs'/\Cells w S true c cs'.toList F'/\F'.Nodup/\∀b∈F',b∈e\/b∈f
 |[],ys,g,xs,c,cs,e,f,hl,j,d,m,s=>by simp[sB]at d;subst d;exact⟨cs,e,by simp[Instr.fill],j,(aeJ.1 s).1,λb u=>.inl u⟩
 |i::is,[],g,xs,c,cs,e,f,hl,j,d,m,s=>by cases hl
 |i::is,y::ys,g,xs,c,cs,e,f,hl,j,d,m,s=>by
  simp[Nat.add_right_cancel_iff]at hl;obtain⟨v,k,K,Fr,rfl,rfl,-,C,D⟩:=m;simp[sB]at d;split at d
  ·rename_i o n H;split at d
   ·rename_i x hs;have r:(e++K).Nodup:=by
     grind
    obtain⟨J,O,F',k1,k2,k3⟩:=FD j hs C r;have h:(v.cells.zipIdx.foldl (λcs(p:Value×Nat)=>cs.setIfInBounds (o+p.2) p.1) cs).toList=cs.toList.take o++v.cells.toList++cs.toList.drop (o+n):=by have:=yd o v.cells.toList 0 cs (by simp;omega);simp only[agQ,afJ,J]at this;rw[<-this];rw[<-ahY];simp
    have q:(F'++Fr).Nodup:=by grind
    obtain⟨cs',t,M,A,z,L⟩:=zM l is ys k hl (cs:=v.cells.zipIdx.foldl (λcs(p:Value×Nat)=>cs.setIfInBounds (o+p.2) p.1) cs) (by rw[h];exact k1) d D q;refine⟨cs',t,?_,A,z,λb u=>?_⟩
    ·simp only[List.zip_cons_cons,Instr.fill];simp_all
    grind
   cases d
  cases d
def yO{α b c:Type}(l:List (α×b))(f:b->c):(l.map (·.1)).zip (l.map λp=>f p.2)=l.map λp=>(p.1,f p.2):=by grind
def BV{M:List Nat}{d:Nat}{y:AV}{z:Value}{w':World}(h:Inv N V w0 S0 σ a w)(g:d<N)(e:Mv.runs σ [.make M d y]=some σ')(i:Below w.heap.size w w')
 (f:∀S F,aT S (cQ V w0) σ (tv V a) w F->∃c,Rel w' S y z c/\c.Nodup/\∀b∈c,(∃m∈M,b∈F m)\/w.heap.size<=b/\b<w'.heap.size):
 Inv N V w0 S0 σ' (a.put (some d) z) w':=by
 simp[jl]at e;subst e;exact h.make g i f
def JT{d t:Nat}(h:Inv N V w0 S0 σ a w)(hd:d<N)(f:Array (Nat×Operand))(L:(f.toList.map (·.2)).all aJ=true){ti:TI}(J:cu P t=some ti){z cs:List AV}(hz:ti.zero=.agg z)
 {A:List (Nat×Nat)}(j:placesOf P t=some A){ys:List AV}{M:List Nat}(hg:gr (f.toList.map λp=>resolve σ p.2)=some (ys,M))(hf:sB A z ((f.toList.map (·.1)).zip ys)=some cs)
 (hr:Mv.runs σ [.make M d<|.agg cs]=some σ'):Good N V w0 S0 σ' a d ((Instr.build t<|f.map λ(i,x)=>(i,a.eval x)).run P w):=by
 obtain⟨i,u,zv,hi,hu,C,K,r,k,Z,B0,D⟩:=lA J;have O:gr ((f.toList.map (·.2)).map<|resolve σ)=some (ys,M):=by rw[agz];exact hg
 have g:∀S F,aT S (cQ V w0) σ (tv V a) w F->∃cells l,P.built t (f.map λ(i,x)=>(i,a.eval x)).toList=some cells/\Cells w S true cs cells.toList l/\l.Nodup/\∀b∈l,∃m∈M,b∈F m:=by
  intro S F hc;obtain⟨Fy,g1,g2,g3⟩:=l8 hc _ L O;have o:=gZ w S zv D;rw[<-k,hz]at o;obtain⟨zc,rfl,H⟩:=o;have q:=Cells.length g1;obtain⟨T,l,q1,q2,q3,q4⟩:=zM A (f.toList.map (·.1)) ys ((f.toList.map (·.2)).map a.eval) (by simp at q⊢;omega) H hf g1 g2;refine⟨T,l,?_,q2,q3,λb Y=>?_⟩
  ·unfold placesOf at j;split at j
   ·rename_i fs Q;unfold Program.built;simp only[hi,Q,C,j];have e:(f.map λ(i,x)=>(i,a.eval x)).toList=(f.toList.map (·.1)).zip ((f.toList.map (·.2)).map a.eval):=by
     have:=yO f.toList a.eval;simpa[Function.comp_def]using this.symm
    rw[e];exact q1
   cases j
  simp_all
 have hI:=h;obtain⟨S,F,hc,-⟩:=h;obtain⟨cells,l,r1,r2,r3,r4⟩:=g S F hc;refine⟨.agg cells,w,run_build w t _ cells r1,BV hI hd hr (.refl _ _) λS' c R=>?_⟩;obtain⟨s,X,n,A0,y,v⟩:=g S' c R;rw[r1]at n;cases n;refine⟨X,by simp only[Rel];simp_all,y,λb Y=>.inl<|v b Y⟩
end
section
variable{P:Program}{N:Nat}{w0 w:World}{V:Hid}{S S0:Nat->Prop}{B:Nat->Prop}{σ σ':St}{a:Act}{F:Nat->List Nat}
def SB(w:World)(L:Loc):Prop:=∀a,L=.addr a->∃b,row? w a.block=some (b,(0,0))
def Rel.NQ:∀(p:Path){x T y Q:AV}{z:Value}{F:List Nat}{L L1:Loc},Rel w S x z F->holds w L z->SB w L->bp x p=some y->eJ x p Q=some T->
 loc w L p=some L1->SB w L1
 |[],x,T,y,Q,z,F,L,L1,h,m,M,e,hs,hl=>by simp[loc,ada]at hl;subst hl;exact M
 |s::p,x,T,y,Q,z,F,L,L1,h,m,M,e,hs,hl=>by
  unfold bp at e;split at e
  ·rename_i f sz xs i X;split at e
   ·rename_i Y;subst Y;cases f with
    |nil=>simp[eJ]at hs
    |shr=>simp[eJ]at hs
    |own=>
     obtain⟨xi,k,e⟩:=ads.1 e;simp[eJ,k,if_true,afp,afE]at hs;obtain⟨R,hs,rfl⟩:=hs;rcases h with⟨rfl,-,-⟩|⟨b,G4,D,F',rfl,H,hc,hm,Z,hE,rfl⟩
     ·cases k
     obtain⟨yi,A0,O,B0,rfl,hy,t,E1,G3,C⟩:=c7.lens sz i hE k;have hA:At w ⟨b,i*sz,none⟩ yi:=fC H λj u hu=>by grind
     rw[loc,cN m W I,cm,cj W]at hl;exact Rel.NQ p (L:=.addr ⟨b,i*sz,none⟩) t hA (λa r=>by grind) e hs (by simpa using hl)
   cases e
  ·rename_i own x0;cases own with
   |false=>simp[eJ]at hs
   |true=>simp[eJ,afE]at hs;obtain⟨F4,hs,rfl⟩:=hs;simp only[Rel,if_true]at h;obtain⟨b,D,fz,F',z0,rfl,H,t,G1,rfl,rfl⟩:=h;have hA:At w ⟨b,0,none⟩ z0:=fC H λj u hu=>eW;rw[loc,cN m W I,cm]at hl;exact Rel.NQ p (L:=.addr ⟨b,0,none⟩) t hA (λa r=>by grind) e hs (by simpa using hl)
  ·rename_i xs o;obtain⟨xo,J,e⟩:=ads.1 e;simp[eJ,J,afp,afE]at hs;obtain⟨F3,hs,rfl⟩:=hs;simp[Rel]at h;obtain⟨D,rfl,K⟩:=h;obtain⟨A,A0,O,B0,rfl,h1,t,g,C⟩:=Cells.lens o K J;have E2:=cD<|h1 W;have g:D[o]?=some A:=by simpa using g
   have d:∃v,step1 w L (.at o none)=some v/\holds w v A/\SB w v:=by
    cases L with
    |val q=>simp[holds]at m;subst m;exact⟨.val A,by simp[step1,cm];simp[g],W,λa r=>by cases r⟩
    |addr a=>
     obtain⟨F0,D1⟩:=M a W;obtain⟨l,F1,fz,H,hc⟩:=m;refine⟨_,W,?_,?_⟩
     ·rw[cj l];refine fC H λj u hu=>?_;rw[E2]at hu
      match j,hu with
      |0,hu=>cases hu;simpa[bu]using hc o A (by simpa[bu]using g)
     rw[cj l];intro a' r;grind
   obtain⟨v,e1,e2,e3⟩:=d;rw[loc,e1]at hl;exact Rel.NQ p t e2 e3 e hs hl
  ·rename_i xs o n;split at e
   ·rename_i D2;simp[eJ,D2,if_true,ads]at hs;obtain⟨F2,hs,G2⟩:=hs;simp[Rel]at h;obtain⟨D,rfl,K⟩:=h;obtain⟨A0,c,rfl,c1,c2⟩:=Cells.split o K;obtain⟨O,B0,rfl,d1,d2⟩:=Cells.split n c2;have t:Rel w S (.agg<|(xs.drop o).take n) (.agg<|D.extract o<|o+n) O:=by
     simp only[Rel];simp_all
    have d:∃v,step1 w L (.at o<|some n)=some v/\holds w v (.agg<|D.extract o<|o+n)/\SB w v:=by
     cases L with
     |val q=>simp[holds]at m;subst m;exact⟨_,W,W,λa r=>by cases r⟩
     |addr a=>
      obtain⟨F0,D1⟩:=M a W;obtain⟨l,F1,fz,H,hc⟩:=m;refine⟨_,W,?_,?_⟩
      ·rw[cj l];refine fC H λj u hu=>?_;rw[bu,ahT]at hu;split at hu
       ·have:=hc (o+j) u (by rw[bu];exact hu);grind
       cases hu
      rw[cj l];intro a' r;grind
    obtain⟨v,e1,e2,e3⟩:=d;rw[loc,e1]at hl;exact Rel.NQ p t e2 e3 e hs hl
   cases e
  ·rename_i xs i;obtain⟨xi,k,e⟩:=ads.1 e;simp[eJ,k,afp,afE]at hs;obtain⟨R,hs,rfl⟩:=hs;simp[Rel]at h;obtain⟨D,rfl,K⟩:=h;obtain⟨A,A0,O,B0,rfl,-,t,g,C⟩:=Cells.lens i K k;have g:D[i]?=some A:=by simpa using g
   have d:step1 w L (.bW i)=some (.val A):=by rw[cN m W I];simp[cm,g]
   rw[loc,d]at hl;exact Rel.NQ p (L:=.val A) t W (λa r=>by cases r) e hs hl
  ·rename_i f sz xs X o n;cases f<;>simp[eJ]at hs
  cases e
def DJ{z:Value}(h:z.oneCell'=true):∀v∈z.cells.toList,v.oneCell'=true:=by rw[cD h];simp[h]
def HO{t:TypeId}{ti:TI}(i:cu P t=some ti){b off:Nat}{cs:Array Value}(j:row? w b=some (cs,(0,0))){f:Value}(g:f.cells.size=ti.size)(k:∀v∈f.cells.toList,v.oneCell'=true)
 (h:off+ti.size<=cs.size):∃w',(storeVar t ⟨b,off,none⟩ f).run P w=.ok () w'/\w'.heap.size=w.heap.size/\Below w.heap.size w w'=Below w.heap.size w w'/\(∀c,c≠b->w'.heap[c]?=w.heap[c]?)/\
   row? w' b=some ((cs.toList.take off++f.cells.toList++cs.toList.drop (off+ti.size)).toArray,(0,0))/\w'=w.setRow b (cs.toList.take off++f.cells.toList++cs.toList.drop (off+ti.size)).toArray:=by
 have hh:∃e,w.heap[b]?=some (.cells cs e (0,0)):=by
  unfold row? at j
  grind
 obtain⟨e,he⟩:=hh;have d:=run_storeCells_at P b off e f.cells.toList 0 cs w he (by simp;omega) k;simp only[afJ,g]at d;refine⟨_,?_,?_,W,λc hc=>?_,?_,W⟩
 ·unfold storeVar;simp only[Sem.run_bind,dJ i,Result.andThen_ok,g,ne_eq];exact d
 ·simp
 ·simp[World.setRow]
  grind
 have:=setRow_heap w b cs (cs.toList.take off++f.cells.toList++cs.toList.drop (off+ti.size)).toArray e (0,0) he;simp only[row?,this]
end
section
variable{P:Program}{N:Nat}{w0 w:World}{V:Hid}{S S0:Nat->Prop}{B:Nat->Prop}{σ σ':St}{a:Act}{F:Nat->List Nat}
section
variable{y:AV}{ys:List AV}{M:List Nat}{ts:List TypeId}{d t:Nat}{z:Value}
def GX{ti:TI}{b:List Nat}(e:fits ti y=true)(f:Rel w S y z b):∀v∈z.cells.toList,v.oneCell'=true:=by
 unfold fits at e;split at e
 ·simp[Rel]at f;obtain⟨o,rfl,g⟩:=f;have:∀(c:List AV)(l:List Value)(b:List Nat),Cells w S true c l b->∀v∈l,v.oneCell'=true:=by
   intro c
   induction c with
   |nil=>intro l b h;simp[h.1]
   |cons x c j=>
    intro l b h;obtain⟨y,i,b,p,rfl,rfl,n,m,k⟩:=h
    grind
  exact this _ _ _ g
 simp at e;exact DJ<|f.one e.2
def Hz(h:Inv N V w0 S0 σ a w)(x y:Operand)(J:aJ x=true)(H:aJ y=true){ms:List Mv}
 (hm:uC P t (resolve σ x) (resolve σ y)=some ms)(A:Mv.runs σ ms=some σ'):
 ∃w',(Instr.storeAt t (a.eval x)<|a.eval y).run P w=.ok () w'/\Inv N V w0 S0 σ' a w':=by
 unfold uC at hm;split at hm
 ·rename_i ti K;split at hm
  ·rename_i r g1 g2 p av hx;split at hm
   ·rename_i y0 C;split at hm
    ·rename_i s;split at hm
     ·rename_i y1 M Y;split at hm
      ·rename_i m;cases hm;obtain⟨S,F,hc,hN,Z,Q,O,D1⟩:=h;obtain⟨-,-,rfl,-,u⟩:=j6 hc x J hx;obtain⟨i,hl,he⟩:=u λ_=>⟨y0,C⟩;have hp:=vT C hl;simp[Mv.runs,Mv.run]at A;obtain⟨Fv,v,q2,q3⟩:=oV hc y H Y;split at A
       ·rename_i E2 b;cases A;split at b
        ·cases b
        rename_i R;split at b
        ·rename_i G1 f;cases b;obtain⟨z,hA,⟨F1,hz⟩,hB,l⟩:=hc.store r M p R hp C f hl v q2 q3;have F0:=tn (by simp[adD]at s;exact s.1) hz;have n:=tn m v;have j:SB w (.addr i):=by
          have hR:=hc.rel r;rw[an.aA hp]at hR;exact Rel.NQ p (L:=.val<|tv V a r) hR W (λa ha=>by cases ha) C f hl
         obtain⟨cs,g⟩:=j i W;obtain⟨F2,D2,fz,c,A0⟩:=hA;rw[g]at c;obtain⟨rfl,rfl⟩:cs=D2/\(0,0)=fz:=by simpa using c
         have E1:0<ti.size:=by grind
         have q:fits ti y0=true:=eW;have o:i.off+ti.size<=cs.size:=by
          have X:z.cells[ti.size-1]?=some (z.cells[ti.size-1]'(by omega)):=afM _
          grind
         obtain⟨w',e1,e2,-,e3,e4,e5⟩:=HO (P:=P) K g n (GX m v) o;obtain⟨F',B0⟩:=l E (λD=>by
          rcases kW q hz with⟨_,_,rfl,_⟩|⟨e,_⟩
          ·simp[Value.oneCell']at D
          rcases kW m v with⟨e',_⟩|⟨_,e'⟩
          ·simp[e]at e'
          ·exact e') w' e2 e3 (λF4 F3 h0=>by
          grind)
         refine⟨w',?_,S,F',B0,hN,Z,Q,O,?_⟩
         ·have:i=⟨i.block,i.off,none⟩:=by cases i;simp_all
          unfold Instr.storeAt;rw[he];simp[Instr.sureAddr]
          grind
         rw[e5];exact D1.trans ⟨W,W,W,by simp[World.setRow],λk hk T=>setRow_other w i.block k _ λe=>wc hB (e▸hk) (e▸T)⟩
        cases b
       cases A
      cases hm
     cases hm
    cases hm
   cases hm
  cases hm
 cases hm
def BW{e:TypeId}(h:Inv N V w0 S0 σ a w)(k:d<N)(i:Mv.runs σ [.make M d<|.box true y]=some σ')
 (j:∀S F,aT S (cQ V w0) σ (tv V a) w F->∃f,Rel w S y z f/\f.Nodup/\∀b∈f,∃m∈M,b∈F m):
 Inv N V w0 S0 σ' (a.put (some d)<|.pointer<|some ⟨w.heap.size,0,none⟩) (w.alloc<|.cells z.cells e):=by
 refine BV h k i ((Below.refl _ _).alloc .refl _) λS F hc=>?_;obtain⟨f,o,n,l⟩:=j S F hc;have g:∀b∈f,b<w.heap.size:=λb c=>by obtain⟨m,_,hm⟩:=l b c;exact(hc.own m b hm).2.1
 refine⟨w.heap.size::f,?_,afv.2 ⟨λc=>by have:=g _ c;omega,n⟩,λb c=>?_⟩
 ·simp only[Rel];exact⟨w.heap.size,z.cells,(0,0),f,z,W,oP _ _ _,Rel.frame _ o λb c=>oO _ _<|by rcases c with c|c;exact hc.shr b c;exact g b c,W,W,W⟩
 rcases adZ.1 c with rfl|c
 all_goals simp_all
def J5(h:Inv N V w0 S0 σ a w)(k:d<N){ti:TI}(f:cu P t=some ti)(j:Mv.runs σ [.make [] d<|.box true ti.zero]=some σ'):
 Good N V w0 S0 σ' a d ((Instr.alloc t true<|.tuple #[]).run P w):=by
 obtain⟨z,i,c,g,b⟩:=Bm f w;refine⟨_,_,?_,BW (z:=z) (e:=t) h k j λS F hc=>⟨[],by rw[c];exact gZ w S z b,I,I⟩⟩;simp[Instr.alloc,i,newVar,newRow]
def Pk(h:Inv N V w0 S0 σ a w)(g:d<N)(x:Operand)(b:aJ x=true)(f:x6 (resolve σ x)=some (y,M))
 (c:Mv.runs σ [.make M d<|.box true y]=some σ'):Good N V w0 S0 σ' a d ((Instr.box t<|a.eval x).run P w):=by
 refine⟨_,_,?_,BW (z:=a.eval x) (e:=t) h g c λS F hc=>oV hc x b f⟩;rfl
def Cells.XG{ti:TI}:∀{ys:List AV}{one:Bool}{b:List Value}{F:List Nat},Cells w S one ys b F->ys.all (fits ti)=true->c7 w S ti.size ys (b.flatMap (·.cells.toList)) F
 |[],one,b,F,h,_=>by simp[Cells]at h;obtain⟨rfl,rfl⟩:=h;simp[c7]
 |y::ys,one,b,F,h,c=>by obtain⟨z,j,i,g,rfl,rfl,k,e,f⟩:=h;simp only[ae6,adD]at c;exact⟨z,_,i,g,W,W,tn c.1 e,e,Cells.XG f c.2⟩
def Cp(size:Nat):∀(b:List Value)(k:Nat)(cs:Array Value),(∀v∈b,v.cells.size=size)->(k+b.length)*size<=cs.size->
 Instr.fill (λi=>some (i*size,size)) cs ((List.range' k b.length).zip b)=some (cs.toList.take (k*size)++b.flatMap (·.cells.toList)++cs.toList.drop ((k+b.length)*size)).toArray
 |[],k,cs,_,_=>by simp[Instr.fill]
 |v::b,k,cs,h,hl=>by
  simp[adX]at hl⊢;have e:=h v I;have m:(k+(b.length+1))*size=k*size+size+b.length*size:=by grind
  have l:(k+1+b.length)*size=k*size+size+b.length*size:=by grind
  have j:(k+1)*size=k*size+size:=by rw[ae9];omega
  simp only[List.range'_succ,List.zip_cons_cons,Instr.fill,e,ne_eq,not_true,decide_false,ahx,decide_eq_true_eq];have c:(v.cells.zipIdx.foldl (λcs(p:Value×Nat)=>cs.setIfInBounds (k*size+p.2) p.1) cs).toList=cs.toList.take (k*size)++v.cells.toList++cs.toList.drop (k*size+size):=by have:=yd (k*size) v.cells.toList 0 cs (by simp;omega);simp only[agQ,afJ,e]at this;rw[<-this];rw[<-ahY];simp
  have f:(v.cells.zipIdx.foldl (λcs(p:Value×Nat)=>cs.setIfInBounds (k*size+p.2) p.1) cs).size=cs.size:=by rw[<-afJ,c];simp[e];omega
  rw[Cp size b (k+1) _ (λx g=>h x<|by simp[g])<|by rw[f];omega,c,m,l,j];rw[ahy<|by simp[e];omega,adM<|by simp[e];omega,ahZ,afo<|by simp[e];omega];simp[aeP,afm,afJ,e,agk,List.flatMap_cons,afS,aeZ];omega
def Cells.zL{size:Nat}:∀(b:List Value),(∀v∈b,v.cells.size=size)->(b.flatMap (·.cells.toList)).length=b.length*size
 |[],_=>I
 |v::b,h=>by simp[ae9,Cells.zL b λx c=>h x<|by simp[c],h v I];omega
def Cells.Bj{ti:TI}:∀{ys:List AV}{one:Bool}{b:List Value}{F:List Nat},Cells w S one ys b F->ys.all (fits ti)=true->∀v∈b,v.cells.size=ti.size
 |[],one,b,F,h,_=>by simp[Cells]at h;simp[h.1]
 |y::ys,one,b,F,h,e=>by
  obtain⟨z,l',k,j,rfl,rfl,i,g,f⟩:=h;simp only[ae6,adD]at e;intro v c;rcases adZ.1 c with rfl|c
  ·exact tn e.1 g
  exact Cells.Bj f e.2 v c
def EC{ti:TI}{cs:Array Value}{c:Nat}{e:TypeId}(h:Inv N V w0 S0 σ a w)(p:d<N)(n:Mv.runs σ [.make M d<|.list .own ti.size ys]=some σ')(l:ys.length<=c)(k:c<=maxLen)(j:cs.size=c*ti.size)
 (o:∀S F,aT S (cQ V w0) σ (tv V a) w F->∃g,c7 w S ti.size ys (cs.toList.take<|ys.length*ti.size) g/\g.Nodup/\∀b∈g,∃m∈M,b∈F m):
 Inv N V w0 S0 σ' (a.put (some d)<|.slice (some ⟨w.heap.size,0,none⟩) ys.length c) (w.alloc<|.cells cs e):=by
 refine BV h p n ((Below.refl _ _).alloc .refl _) λS F hc=>?_;obtain⟨g,s,r,q⟩:=o S F hc;have i:∀b∈g,b<w.heap.size:=λb f=>by obtain⟨m,_,hm⟩:=q b f;exact(hc.own m b hm).2.1
 refine⟨w.heap.size::g,?_,afv.2 ⟨λf=>by have:=i _ f;omega,r⟩,λb f=>?_⟩
 ·simp only[Rel];exact .inr ⟨w.heap.size,c,cs,g,W,oP _ _ _,l,k,j,c7.frame _ _ s λb f=>oO _ _<|by rcases f with f|f;exact hc.shr b f;exact i b f,W⟩
 rcases adZ.1 f with rfl|f
 all_goals simp_all
def yB{e n:Nat}(h:Inv N V w0 S0 σ a w)(Y:d<N)(f:Array (Nat×Operand))(o:(f.toList.map (·.2)).all aJ=true){ti:TI}(he:dC P t=some e)(l:cu P e=some ti)
 (X:gr (f.toList.map λp=>resolve σ p.2)=some (ys,M))(q:f.toList.map (·.1)=List.range n)(j:ys.all (fits ti)=true)(hn:n*ti.size<=2^24)(v:n<=maxLen)
   (T:Mv.runs σ [.make M d<|.list .own ti.size ys]=some σ'):Good N V w0 S0 σ' a d ((Instr.buildSlice t n<|f.map λ(i,x)=>(i,a.eval x)).run P w):=by
  have r:gr ((f.toList.map (·.2)).map<|resolve σ)=some (ys,M):=by rw[agz];exact X
  obtain⟨z,R,Q,O,L⟩:=Bm l w;have g:f.size=n:=by have:=congrArg List.length q;simpa using this
  have hI:=h;obtain⟨S,F,hc,-⟩:=h;obtain⟨Fy,g1,g2,g3⟩:=l8 hc _ o r;have m:=Cells.Bj g1 j;have u:=Cells.length g1;simp[afJ]at u;have k:(f.map λ(i,x)=>(i,a.eval x)).toList=(List.range' 0 ((f.toList.map (·.2)).map a.eval).length).zip ((f.toList.map (·.2)).map a.eval):=by
   have:=yO f.toList a.eval;rw[q]at this;simp[g];rw[<-List.range_eq_range']
   grind
  have s:=Cells.zL _ m;simp only[aeW,afJ,g]at s;have b:∀base:Array Value,base.size=n*ti.size->Instr.fill (λi=>some (i*ti.size,ti.size)) base (f.map λ(i,x)=>(i,a.eval x)).toList=some (((f.toList.map (·.2)).map a.eval).flatMap (·.cells.toList)).toArray:=by intro base Z;rw[k,Cp ti.size _ 0 base m<|by simp[g,Z]];simp_all
  refine⟨.slice (some ⟨w.heap.size,0,none⟩) ys.length n,_,?_,EC (e:=e) hI Y T E v (c:=n) (cs:=(((f.toList.map (·.2)).map a.eval).flatMap (·.cells.toList)).toArray) (by simpa using s) λS' F' A=>?_⟩
  ·have hu:=iY he;unfold Instr.buildSlice;simp only[Sem.run_bind,run_underlying hu,Result.andThen_ok,dJ l];rw[if_neg E];by_cases C:n*ti.size=0
   ·simp only[C,if_true,Sem.run_bind,Sem.run_pure,Result.andThen_ok];have:=b ((Array.range 0).map ((#[]:Array Value)[·%(#[]:Array Value).size]!)) (by simp[C]);simp only[this];simp[newRow];omega
   simp only[C,if_false,Sem.run_bind,R,Sem.run_pure,Result.andThen_ok];have:=b ((Array.range<|n*ti.size).map (z.cells[·%z.cells.size]!)) I;simp only[this];simp[newRow];omega
  obtain⟨K,J,H,D⟩:=l8 A _ o r;refine⟨K,?_,H,D⟩;have:=Cells.XG J j
  grind
def pD(z:Array Value):∀n,(madeCells z<|n*z.size).toList=(List.replicate n z.toList).flatten
 |0=>by simp[madeCells]
 |n+1=>by
  rw[agR,List.flatten_cons,<-pD z n];simp[madeCells];rw[show(n+1)*z.size=z.size+n*z.size by rw[ae9];omega,List.range_add,aeY,agz]
  congr 1
  ·apply ahs;intro j;simp;by_cases b:j<z.size
   ·rw[afM b];simp[afy b,b]
   simp_all
  simp
def uh{x:AV}{z:Value}{sz:Nat}(h:Rel w S x z [])(hs:z.cells.size=sz):∀n,c7 w S sz (List.replicate n x) (List.replicate n z.cells.toList).flatten []
 |0=>by simp[c7]
 |n+1=>by exact⟨z,_,[],[],W,W,hs,h,uh h hs n⟩
def Ao{e:Nat}(h:Inv N V w0 S0 σ a w)(Z:d<N)(l c:Operand)(hl:aJ l=true)(H:aJ c=true){ti:TI}(he:dC P t=some e)(g:cu P e=some ti)
 {k L:IntKind}{x y:Int}(h1:(resolve σ l).cont=some (.v<|.int k x))(h2:(resolve σ c).cont=some (.v<|.int L y))(J:0<=x/\x<=y/\y*ti.bytes<=140737488355328/\y<=maxLen/\0<ti.size)
 (Q:Mv.runs σ [.make [] d<|.list .own ti.size<|List.replicate x.toNat ti.zero]=some σ'):Good N V w0 S0 σ' a d ((Instr.makeSlice t (a.eval l)<|a.eval c).run P w):=by
 obtain⟨z,hz,A,f,s⟩:=Bm g w;obtain⟨i,u,b,p,Y,o,n,X,T,R⟩:=lA g;have hu:=iY he;have hI:=h;obtain⟨S,F,hc,-⟩:=h;rw[dt hc l hl h1,dt hc c H h2];have r:b=z:=by
  have:(zeroValue e).run P w=.ok b w:=by simp[zeroValue,typeInfo,p,o]
  simp_all
 subst r;have j:=run_make (P:=P) w t e i b hu p o k L x y J.1 J.2.1 (by grind) (by have:=J.2.2.2.1;simp[maxLen]at this;omega);have D:y.toNat<=maxLen:=E;have C:(madeCells b.cells<|y.toNat*i.size).size=y.toNat*ti.size:=by rw[size_madeCells,n]
 refine⟨_,_,j,?_⟩;have q:=EC (e:=e) hI Z Q (cs:=madeCells b.cells<|y.toNat*i.size) (c:=y.toNat) (by simp;omega) D C λK F' A0=>⟨[],?_,I,I⟩
 ·simpa using q
 have m:Rel w K ti.zero b []:=by rw[A];exact gZ w K b s
 have:=uh (S:=K) (w:=w) m f x.toNat;have O:y.toNat=x.toNat+(y.toNat-x.toNat):=E;rw[<-n,<-f,pD,O,<-List.replicate_append_replicate,ah0];rw[ahy I,adM I];exact f▸this
def OJ{ty:Nat}(h:Inv N V w0 S0 σ a w)(j:d<N)(x:Operand)(g:aJ x=true){c:List Mv}(hm:kz P d .len (t::ts) [resolve σ x]=some c)(i:Mv.runs σ c=some σ'):
 Good N V w0 S0 σ' a d ((Builtin.len_ (t::ts).toArray ty #[a.eval x]).run P w):=by
 obtain⟨S,F,hc,-⟩:=id h;simp[kz]at hm;split at hm
 ·rename_i s b;split at hm
  ·rename_i hu;cases hm;refine eH (z:=.int .i64 s.size) h j i ?_ (λS F _=>by simp[Rel,scalar]);rw[dt hc x g b];simp[Builtin.len_,run_underlying hu,goInt]
  cases hm
 ·rename_i f sz k b;split at hm
  ·rename_i e hu;cases hm;refine eH (z:=.int .i64 k.length) h j i ?_ (λS F _=>by simp[Rel,scalar]);obtain⟨p,m,-⟩:=aQ hc x g b;obtain⟨o,n,l,-⟩:=m.jX;rw[l];simp[Builtin.len_,run_underlying hu,goInt]
  cases hm
 cases hm
def OC{ty:Nat}(h:Inv N V w0 S0 σ a w)(g:d<N)(x y:Operand)(e:aJ x=true)(c:aJ y=true){b:List Mv}(hm:kz P d .min ts [resolve σ x,resolve σ y]=some b)(f:Mv.runs σ b=some σ'):
 Good N V w0 S0 σ' a d ((Builtin.min_ ts.toArray ty #[a.eval x,a.eval y]).run P w):=by
 obtain⟨S,F,hc,-⟩:=id h;simp[kz]at hm;split at hm
 ·rename_i k u l v j i;split at hm
  ·rename_i m;cases hm;refine eH (z:=.int k<|min u v) h g f ?_ (λS F _=>by simp[Rel,scalar]);rw[dt hc x e j,dt hc y c i,run_min_int2]
   grind
  cases hm
 cases hm
def OE{ty:Nat}(h:Inv N V w0 S0 σ a w)(g:d<N)(x y:Operand)(e:aJ x=true)(c:aJ y=true){b:List Mv}(hm:kz P d .max ts [resolve σ x,resolve σ y]=some b)(f:Mv.runs σ b=some σ'):
 Good N V w0 S0 σ' a d ((Builtin.max_ ts.toArray ty #[a.eval x,a.eval y]).run P w):=by
 obtain⟨S,F,hc,-⟩:=id h;simp[kz]at hm;split at hm
 ·rename_i k u l v j i;split at hm
  ·rename_i m;cases hm;refine eH (z:=.int k<|max u v) h g f ?_ (λS F _=>by simp[Rel,scalar]);rw[dt hc x e j,dt hc y c i,run_max_int2]
   grind
  cases hm
 cases hm
def zG(h:aT S B σ (tv V a) w F):∀(xs:List Operand),xs.all aJ=true->∀{ys:List AV},gP (xs.map<|resolve σ)=some ys->
 ∀{S':Nat->Prop},(∀b,S b\/(∃i,b∈F i)->S' b)->Cells w S' false ys (xs.map a.eval) []
 |[],_,ys,hl,S',_=>by simp[gP]at hl;subst hl;simp[Cells]
 |x::xs,e,ys,hl,S',j=>by
  simp only[ae6,adD]at e;simp[gP]at hl;split at hl
  ·rename_i y k c l;cases hl;unfold Uc at c;split at c
   ·rename_i m f;cases c;obtain⟨n,k1,k2⟩:=aQ h x e.1 f;exact⟨_,_,[],[],W,W,I,Rel.share (λb g=>j b<|.inl g) _ k1 λb g=>j b<|.inr<|k2.1 b g,zG h xs e.2 l j⟩
   cases c
  cases hl
end
end
section
variable{P:Program}{N:Nat}{w0 w w':World}{V:Hid}{S S0 S':Nat->Prop}{B:Nat->Prop}{σ σ':St}{a:Act}{F:Nat->List Nat}
mutual
theorem Rel.O7:∀(x:AV){y z:Value}{F F':List Nat},Rel w S x y F->Rel w S' x z F'->y.cells=z.cells->F=F'
 |.v _,y,z,F,F',h,k,_=>by simp[Rel]at h k;rw[h.2.2,k.2.2]
 |.list .nil _ _,y,z,F,F',h,k,_=>by simp[Rel]at h k;rw[h.2.2,k.2.2]
 |.list .shr _ _,y,z,F,F',h,k,_=>by rcases h with⟨-,-,h⟩|⟨_,_,_,_,_,_,_,_,_,_,h⟩<;>rcases k with⟨-,-,k⟩|⟨_,_,_,_,_,_,_,_,_,_,k⟩<;>rw[h,k]
 |.list .own sz xs,y,z,F,F',h,k,e=>by
  rcases h with⟨rfl,rfl,rfl⟩|⟨b,cap,cs,d,rfl,m,-,-,-,g,rfl⟩<;>rcases k with⟨k0,rfl,rfl⟩|⟨C,A,cs',Q,rfl,k1,-,-,-,k2,rfl⟩
  ·rfl
  ·simp[Value.cells]at e
  ·simp[Value.cells]at e
  obtain⟨rfl,rfl⟩:=e;rw[m]at k1;simp[ada,ae0,and_true]at k1;subst k1;rw[c7.O7 sz xs g k2]
 |.box own x,y,z,F,F',h,k,e=>by
  obtain⟨b,cs,X,d,u,rfl,m,g,j,s⟩:=h;obtain⟨C,cs',M,Q,R,rfl,k1,k2,k3,k4⟩:=k;simp[Value.cells]at e;subst e;rw[m]at k1;cases k1;have:=Rel.O7 x g k2 (by rw[j,k3])
  grind
 |.agg xs,y,z,F,F',h,k,e=>by obtain⟨cs,rfl,h⟩:=h;obtain⟨cs',rfl,k⟩:=k;simp[Value.cells]at e;subst e;exact Cells.O7 xs h k
 |.bW xs,y,z,F,F',h,k,e=>by simp[Rel]at h k;obtain⟨cs,rfl,h⟩:=h;obtain⟨cs',rfl,k⟩:=k;simp[Value.cells]at e;subst e;exact Cells.O7 xs h k
 |.fn f p q,y,z,F,F',h,k,e=>by simp only[Rel]at h k;obtain⟨a,c,H,D,rfl,m,g,rfl⟩:=h;obtain⟨Z,Y,r,n,rfl,k1,k2,rfl⟩:=k;simp[Value.cells]at e;obtain⟨rfl,rfl⟩:=e;rw[Cells.O7 p m k1,Cells.O7 q g k2]
 |.bC ..,_,_,_,_,h,_,_=>by simp[Rel]at h
 |.pv _,_,_,_,_,h,k,_=>by simp[Rel]at h k;rw[h.2,k.2]
 |.abs _,_,_,_,_,h,_,_=>by simp[Rel]at h
 |.fS ..,_,_,_,_,h,_,_=>by simp[Rel]at h
 |.mp K,y,z,F,F',h,k,e=>by simp only[Rel]at h k;obtain⟨b,o,rfl,-,-,rfl⟩:=h;obtain⟨C,T,rfl,-,-,rfl⟩:=k;simp[Value.cells]at e;rw[e]
 |.ptr ..,_,_,_,_,h,_,_=>by simp[Rel]at h
 |.hole,y,z,F,F',h,k,_=>by simp[Rel]at h k;rw[h.2,k.2]
 |.dead,y,z,F,F',h,k,_=>by simp[Rel]at h k;rw[h,k]
theorem Cells.O7:∀(xs:List AV){one i:Bool}{l:List Value}{F F':List Nat},Cells w S one xs l F->Cells w S' i xs l F'->F=F'
 |[],_,_,l,F,F',h,k=>by simp[Cells]at h k;rw[h.2,k.2]
 |x::xs,_,_,l,F,F',h,k=>by simp only[Cells]at h k;obtain⟨y,L,H,D,rfl,rfl,-,j,s⟩:=h;obtain⟨J,t,r,n,e,rfl,-,k3,k4⟩:=k;simp[List.cons.injEq]at e;obtain⟨rfl,rfl⟩:=e;rw[Rel.O7 x j k3 W,Cells.O7 xs s k4]
theorem c7.O7(sz:Nat):∀(xs:List AV){l:List Value}{F F':List Nat},c7 w S sz xs l F->c7 w S' sz xs l F'->F=F'
 |[],l,F,F',h,k=>by simp[c7]at h k;rw[h.2,k.2]
 |x::xs,l,F,F',h,k=>by simp only[c7]at h k;obtain⟨y,L,H,D,rfl,rfl,g,j,s⟩:=h;obtain⟨J,t,r,n,e,rfl,k2,k3,k4⟩:=k;obtain⟨O,rfl⟩:=List.append_inj e (by simp[g,k2]);rw[Rel.O7 x j k3<|by simpa using O,c7.O7 sz xs s k4]
end
def mX(h:aT S B σ (tv V a) w F){S1:Nat->Prop}(l:∀b,S b->S1 b):∀(xs:List Operand),xs.all aJ=true->∀{ys:List AV},gP (xs.map<|resolve σ)=some ys->
 (∀m∈shares (xs.map<|resolve σ),∃r p,m=.share r p/\∀y z L j,bp (σ r).av p=some y->loc w (.val<|tv V a r) p=some L->holds w L z->(∀u,L=.addr u->z.oneCell'=true)->Rel w S y z j->∀b∈j,S1 b)->
 Cells w S1 false ys (xs.map a.eval) []
 |[],_,ys,hl,_=>by simp[gP]at hl;subst hl;simp[Cells]
 |x::xs,g,ys,hl,hm=>by
  simp only[ae6,adD]at g;simp[gP]at hl;split at hl
  ·rename_i y n i t;cases hl;unfold Uc at i;split at i
   ·rename_i o d;cases i;obtain⟨j,k1,k2,-⟩:=aQ h x g.1 d;simp[shares,d]at hm;have c:=mX h l xs g.2 t (λm s=>hm m (by
     grind))
    refine⟨_,_,[],[],W,W,I,Rel.share l _ k1 λb k=>?_,c⟩;by_cases f:o.aG=true
    ·rw[Rel.aG _ k1 f]at k;cases k
    rw[if_neg f]at hm;split at hm
    ·rename_i r g1 g2 p q;obtain⟨v,C,e,hm⟩:=hm _<|List.mem_cons_self ..;obtain⟨rfl,rfl⟩:=e;obtain⟨A,-,-,-,-,-,L,J,H,D⟩:=jb h x g.1 d q
     grind
    simp_all
   cases i
  cases hl
def Below.row{w w':World}{n:Nat}(h:Below n w w'){b:Nat}(c:b<n):w'.heap[b]?=w.heap[b]?:=h.block b c
def aT.after(h:aT S B σ (tv V a) w F)(f:Below w.heap.size w w')(j:∀b,S b->S' b)(k:∀b,S' b->S b\/w.heap.size<=b)(g:∀b,S' b->b<w'.heap.size):aT S' B σ (tv V a) w' F:=by
 have d:∀b,(S b\/∃i,b∈F i)->w'.heap[b]?=w.heap[b]?:=λb c=>Below.row f (by rcases c with c|⟨i,c⟩;exact h.shr b c;exact(h.own i b c).2.1);refine h.step (S':=S') ⟨λr=>.refl,λr=>.refl,λr _=>rfl,λr _ _=>⟨λp y e=>⟨y,e⟩,λb c=>d b<|c.elim .inl λc=>.inr ⟨r,c⟩⟩⟩ j
  (λi=>.inl ⟨W,W,W,λb c=>d b<|c.elim .inl λc=>.inr ⟨i,c⟩⟩) h.nodup h.du (λi b c=>?_) g
 obtain⟨k1,k2,k3⟩:=h.own i b c
 grind
def Inv.end{d:Option Nat}{y:AV}{z:Value}{n:List Nat}(H:∀x,d=some x->x<N)(t:a.tmps.size=N)(o:a.defers=V.df)(hc:aT S (cQ V w0) σ (tv V a) w F)
 (c:Below w.heap.size w w')(m:lW V w0 w)(D:∀b,S b->S' b)(C:∀b,S' b->S b\/w.heap.size<=b)(A:∀b,S' b->b<w'.heap.size)
 (M:∀b,S0 b->S b)(L:∀b,S b->S0 b\/cQ V w0 b)(u:Rel w' S' y z n)(hn:n.Nodup)(K:∀b∈n,w.heap.size<=b/\b<w'.heap.size/\¬S' b)
 (f:Mv.runs σ (gF d y [])=some σ'):Inv N V w0 S0 σ' (a.put d z) w':=by
 have l:=hc.after c D C A;have p:=m.PO c;have k:(∀b,S0 b->S' b)/\(∀b,S' b->S0 b\/cQ V w0 b):=⟨λb c=>D b<|M b c,λb c=>(C b c).elim (L b) λh=>.inr<|m.new b h⟩;cases d with
 |none=>simp[gF,Mv.runs]at f;subst f;exact⟨S',F,l,t,o,k.1,k.2,p⟩
 |some d=>
  simp[gF,jl]at f;subst f;refine⟨S',λi=>if i=d then n else if i∈([]:List Nat)then[]else F i,?_,by rw[size_put];exact t,by rw[gG];exact o,k.1,k.2,p⟩;rw[oK<|by rw[t];exact H d W];have v:=λi b c=>(hc.own i b c).2.1;have q:∀i,∀b∈F i,b∉n:=λi b c J=>by grind
  refine l.step (w':=w') (S':=S') ⟨λr=>?_,λr=>?_,λr g=>?_,λr g _=>?_⟩ (λ_ h=>h) (λi=>?_) (λi=>?_) (λi j s b c=>?_) (λi b c=>?_) A
  ·unfold made
   grind
  ·unfold made
   grind
  ·unfold made at g;split at g
   ·simp_all
   rename_i e;rw[b6 _ _ e]
  ·unfold made at g⊢
   grind
  ·by_cases e:i=d
   ·subst e;right;rw[an.aA<|by unfold made;simp;exact u.plain];simp[made,aH];exact u
   left;simp only[made,e,if_false,afY];exact⟨U,b6 _ _ e,U,λ_ _=>trivial⟩
  ·show(if i=d then n else if i∈([]:List Nat)then[]else F i).Nodup;split
   ·exact hn
   simp;exact hc.nodup i
  ·simp at c⊢;split at c
   ·grind
   split
   ·exact q i b c
   exact hc.du i j s b c
  simp at c;split at c
  ·have:=K b c;exact⟨m.new b E,this.2.1,this.2.2⟩
  exact l.own i b c
def y9(h:aT S B σ (tv V a) w F):∀(xs:List Operand),xs.all aJ=true->∀m∈shares (xs.map<|resolve σ),m=.take 0 0 []\/∃r p,m=.share r p/\(σ r).av.plain=true
 |[],_,m,hm=>by simp[shares]at hm
 |x::xs,b,m,hm=>by
  simp only[ae6,adD]at b;have d:=y9 h xs b.2 m;simp[shares]at hm;split at hm
  ·rename_i y c;split at hm
   ·exact d hm
   split at hm
   ·rename_i r g1 g2 p e;obtain⟨-,-,-,-,-,f,-⟩:=jb h x b.1 c e
    grind
   grind
  grind
def Jp(d:Option Nat)(b:AV)(c:List Mv):gF d b c=c++gF d b []:=by cases d<;>simp[gF]
def ze(σ:St):∀(l m:List Mv),Mv.runs σ (l++m)=(Mv.runs σ l).bind (Mv.runs · m)
 |[],m=>rfl
 |x::l,m=>by
  simp[Mv.runs];cases x.run σ with
  |none=>rfl
  |some b=>exact ze b l m
def C3{d:Option Nat}(hG:kx P V w0)(h:Inv N V w0 S0 σ a w)(hd:∀x,d=some x->x<N)(f:Operand)(hf:aJ f=true)(asx:List Operand)(O:asx.all aJ=true){k:AV}{ms:List Mv}{A0:List VZ}
 (hm:C4 d (resolve σ f) (asx.map<|resolve σ) k=some (ms,A0))(hr:Mv.runs σ ms=some σ')(hs:∀o∈A0,Sound P o.1 o.2.1 o.2.2):
 ∃g first captured,a.eval f=.func (.func g) first captured/\vh P g (first++(asx.map a.eval).toArray++captured) w λv w'=>Inv N V w0 S0 σ' (a.put d v) w':=by
 obtain⟨S,F,hc,hN,Z,X,T,M⟩:=h;unfold C4 at hm;split at hm
 ·rename_i g first captured G1
  split at hm
  ·rename_i Y;simp[adD]at Y;split at hm
   ·rename_i ys hl;obtain⟨Ff,q1,-⟩:=aQ hc f hf G1;obtain⟨af,cf,F1,F2,qe,qa,qc,-⟩:=q1;have G4:=Cells.aG _ qa Y.1;have G3:=Cells.aG _ qc Y.2;subst G4 G3;refine⟨g,af,cf,qe,?_⟩;have main:∀(S1:Nat->Prop),(∀b,S b->S1 b)->(∀b,S1 b->b<w.heap.size)->Cells w S1 false ys (asx.map a.eval) []->Sound P g (first++ys++captured) k->
     vh P g (af++(asx.map a.eval).toArray++cf) w λv w'=>∃S' F',Below w.heap.size w w'/\(∀b,S1 b->S' b)/\(∀b,S' b->S1 b\/w.heap.size<=b)/\(∀b,S' b->b<w'.heap.size)/\
      Rel w' S' k v F'/\F'.Nodup/\∀b∈F',w.heap.size<=b/\b<w'.heap.size/\¬S' b:=by
     intro S1 hS G2 n A;have H:Cells w S1 false (first++ys++captured) (af.toList++asx.map a.eval++cf.toList) ([]++[]++[]):=Cells.append (Cells.append (Cells.mono hS _ qa) n) (Cells.mono hS _ qc)
     have:=A w S1 _ (hG.Ar M) G2 (by simpa using H);have e:(af.toList++(asx.map a.eval++cf.toList)).toArray=af++(asx.map a.eval).toArray++cf:=by simp
     simp_all
    split at hm
    ·rename_i D1;split at hm
     ·rename_i F0;cases hm;have n:=mX hc (S1:=S) (λ_ h=>h) asx O hl (by rw[F0];simp);have:=main S (λ_ h=>h) hc.shr n<|hs (g,first++ys++captured,k) I;intro rd o a' next Q hK
      refine this rd o a' next Q λv w'⟨S',F',k1,k2,k3,k4,k5,k6,k7⟩=>hK v w' ?_
      exact Inv.end hd hN Z hc k1 M k2 k3 k4 X T k5 k6 k7 hr
     ·rename_i m R;cases hm;rw[Jp,ze]at hr;obtain⟨H1,t,F3⟩:=ads.1 hr;have D:∃r p,m=.share r p/\(σ r).av.plain=true:=by
       rcases y9 hc asx O m (by rw[R];simp)with rfl|h
       ·simp[Mv.runs,Mv.run]at t
       exact h
      obtain⟨r,p,rfl,F4⟩:=D;simp[Mv.runs,Mv.run]at t;split at t
      ·rename_i G5 l;cases t;split at l
       ·rename_i y hg;split at l
        ·rename_i K0 D2;cases l;obtain⟨L,z,c,F',k1,k2,k3,k4,k5⟩:=hc.share r p F4 hg D2;have E2:∀b∈c,cQ V w0 b:=λb j=>(hc.own r b<|k5 b j).1;have n:=mX hc (S1:=λb=>S b\/b∈c) (λ_ h=>.inl h) asx O hl (by
          rw[R];intro m hm;simp[agl]at hm;subst hm;refine⟨r,p,W,λy' z' L' F1 e1 e2 e3 e4 s b j=>?_⟩;rw[hg]at e1;cases e1;rw[k1]at e2;cases e2;have hz:z'=z:=by
           cases L with
           |val q=>simp[holds]at k2 e3;rw[k2,e3]
           |addr ad=>
            have ho:=e4 ad W;have u:z.oneCell'=true\/F1=[]:=by
             cases y with
             |agg xs=>simp[Rel]at s;obtain⟨cs,rfl,-⟩:=s;simp[Value.oneCell']at ho
             |bW xs=>simp[Rel]at s;obtain⟨cs,rfl,-⟩:=s;simp[Value.oneCell']at ho
             |dead=>simp[Rel]at s;exact .inr s
             |v x=>exact .inl (k3.one W)
             |list f sz xs=>exact .inl (k3.one W)
             |box o x=>exact .inl (k3.one W)
             |fn f x y=>exact .inl (k3.one W)
             |hole=>exact .inl (k3.one W)
             |bC=>simp[Rel]at s
             |ptr=>simp[Rel]at s
             |pv C=>simp[Rel]at s;exact .inr s.2
             |abs J=>simp[Rel]at s
             |fS g G6=>simp[Rel]at s
             |mp K=>have B0:=k3;simp only[Rel]at B0;obtain⟨b0,o0,h0,-⟩:=B0;exact .inl (by rw[h0];rfl)
            rcases u with u|u
            ·have e1:=At.cell k2 (cD u);have e2:=At.cell e3<|cD ho;simp_all
            subst u;cases j
          subst hz;rw[Rel.O7 _ s k3 W]at j;exact .inr j)
         have:=main (λb=>S b\/b∈c) (λ_ h=>.inl h) k4.shr n<|hs (g,first++ys++captured,k) I;intro rd o a' next Q hK
         refine this rd o a' next Q λv w'⟨S',K2,l1,l2,l3,l4,l5,l6,l7⟩=>hK v w' ?_
         exact Inv.end hd hN Z k4 l1 M l2 l3 l4 (λb j=>.inl<|X b j) (λb j=>j.elim (T b) λj=>.inr<|E2 b j) l5 l6 l7 F3
        cases l
       cases l
      cases t
     cases hm
    rename_i D1;cases hm;have n:=zG hc asx O hl (S':=λb=>S b\/∃i,b∈F i) λb j=>j;have:=main (λb=>S b\/∃i,b∈F i) (λ_ h=>.inl h) (λb j=>by rcases j with j|⟨i,j⟩;exact hc.shr b j;exact(hc.own i b j).2.1) n<|hs (g,first++ys++captured,k) I;intro rd o a' next Q hK
    refine this rd o a' next Q λv w'⟨S',F',k1,k2,k3,k4,k5,k6,k7⟩=>hK v w' ?_
    have E1:k.cL=true:=by simpa using D1
    have H2:=hc.shr;exact Inv.end (S':=S) hd hN Z hc k1 M (λ_ h=>h) (λ_ h=>.inl h) (λb j=>ae3 (hc.shr b j) k1.size) X T (Rel.cL k k5 E1) k6
     (λb j=>⟨(k7 b j).1,(k7 b j).2.1,λhS=>by grind⟩) hr
   cases hm
  cases hm
 cases hm
end
def gD(N:Nat)(o:Oper):Bool:=
 (match o.dst with|some d=>decide (d<N)|none=>true)&&
 match o.op with
 |.move x|.assign x|.box _ x|.nilCheck x|.unOp _ _ x|.convert _ _ x|.field _ x _|.extract x _=>aJ x
 |.store _ x y=>aJ x&&aJ y
 |.load _ x|.fieldAddr _ x _=>aJ x
 |.pick c x y=>aJ c&&aJ x&&aJ y
 |.build _ b|.buildSlice _ _ b=>(b.toList.map (·.2)).all aJ
 |.binOp _ _ x y _|.makeSlice _ x y|.indexAddr _ x y|.index _ x y=>aJ x&&aJ y
 |.makeFunc _ p q=>p.toList.all aJ&&q.toList.all aJ
 |.slice _ x l h m=>aJ x&&l.all aJ&&h.all aJ&&m.all aJ&&(m.isNone||h.isSome)
 |.call c=>c.args.toList.all aJ&&(match c.callee with|.value f=>aJ f|_=>true)
 |.lookup _ m x _=>aJ m&&aJ x
 |_=>true
section
variable{P:Program}{N:Nat}{w0 w w':World}{V:Hid}{S S0 S':Nat->Prop}{B:Nat->Prop}{σ σ':St}{a:Act}{F:Nat->List Nat}{K:Act->World->Prop}{Q:Exit->Act->World->Prop}
def rj{o:Oper}{d:Nat}(f:o.dst=some d){s:Sem Value}(he:execOp a.eval o=(do pure (.value<|←s)))(e:Good N V w0 S0 σ' a d (s.run P w))(g:∀b w',Inv N V w0 S0 σ' b w'->K b w'):Oper.Vg V.rd P o a w K Q:=by
 obtain⟨v,w',c,hi⟩:=e;refine iy (v:=v) (w':=w') ?_ ?_
 ·rw[he];simp[c]
 rw[f];simp_all
def SW{o:Oper}{d:Nat}(f:o.dst=some d){s:Sem Value}(he:(execOp a.eval o).run P w=(s.run P w).andThen λv w'=>.ok (.value v) w')(e:Good N V w0 S0 σ' a d (s.run P w))(g:∀b w',Inv N V w0 S0 σ' b w'->K b w'):Oper.Vg V.rd P o a w K Q:=by
 obtain⟨v,w',c,hi⟩:=e;refine iy (v:=v) (w':=w') ?_ ?_
 ·rw[he,c];rfl
 rw[f];simp_all
def db{m:Option (List Mv)}{c:List Mv}{b:List VZ}(h:gj m=some (c,b)):m=some c/\b=[]:=by
 unfold gj at h
 grind
def wi:∀{xs ys:List bY}{a b:List AV},gP xs=some a->gP ys=some b->gP (xs++ys)=some (a++b)
 |[],ys,a,b,c,d=>by simp[gP]at c;subst c;exact d
 |x::xs,ys,a,b,c,d=>by
  simp[gP]at c;split at c
  ·rename_i y g f e;cases c;simp[gP,f,wi e d]
  cases c
def wh:∀{xs:List bY}{a:List AV},gP xs=some a->a.length=xs.length
 |[],a,b=>by simp[gP]at b;subst b;rfl
 |x::xs,a,b=>by
  simp[gP]at b;split at b
  ·rename_i y e d c;cases b;simp[wh c]
  cases b
def pQ{one:Bool}:∀{c b:List AV}{l m:List Value},c.length=l.length->Cells w S one (c++b) (l++m) []->Cells w S one c l []/\Cells w S one b m []
 |[],b,[],m,_,h=>⟨by simp[Cells],h⟩
 |[],b,y::l,m,e,h=>by cases e
 |x::c,b,[],m,e,h=>by cases e
 |x::c,b,y::l,m,e,h=>by obtain⟨k,l',o,n,j,i,g,f,d⟩:=h;obtain⟨rfl,rfl⟩:=j;obtain⟨rfl,rfl⟩:=agS.1 i.symm;obtain⟨k1,k2⟩:=pQ (by simpa using e) d;exact⟨⟨y,l,[],[],W,W,g,f,k1⟩,k2⟩
def Xv{α:Type}{x:Array α}{a:α}(h:x.toList=[a]):x=#[a]:=by grind
def ZN{α:Type}{x:Array α}{a b:α}(h:x.toList=[a,b]):x=#[a,b]:=by grind
def Pn(h:Inv N V w0 S0 σ a w){o:Oper}{d:Nat}(p:d<N)(k:o.dst=some d){c:Call}(cm:o.op=.call c){b:Builtin}(hc:c.callee=.builtin b)(g:c.args.toList.all aJ=true){v:List Mv}
 (hm:kz P d b c.argTypes.toList (c.args.toList.map<|resolve σ)=some v)(n:Mv.runs σ v=some σ')(q:∀A w',Inv N V w0 S0 σ' A w'->K A w'):Oper.Vg V.rd P o a w K Q:=by
 generalize r:c.argTypes.toList=l at hm;have j:c.argTypes=l.toArray:=by rw[<-r]
 cases hl:c.args.toList with
 |nil=>rw[hl]at hm;simp[kz]at hm
 |cons x i=>
  rw[hl]at hm g;simp only[ae6,adD]at g;cases i with
  |nil=>
   have f:=Xv hl;cases b<;>try(simp[kz]at hm;done)
   cases l with
   |nil=>simp[kz]at hm
   |cons t l=>
    refine SW (s:=Builtin.len_ c.argTypes o.type #[a.eval x]) k ?_ ?_ q
    ·simp[execOp,cm,Go.resolve,hc,f,invoke,builtin]
    rw[j];exact OJ h p x g.1 hm n
  |cons y i=>
   simp[ae6,adD]at g;cases i with
   |nil=>
    have f:=ZN hl;cases b<;>try(simp[kz]at hm;done)
    ·cases l with
     |nil=>simp[kz]at hm
     |cons t l=>cases l with
      |nil=>simp[kz]at hm
      |cons C l=>cases l with
       |cons _ _=>simp[kz]at hm
       |nil=>
        simp[kz,afc,afZ]at hm;split at hm
        ·rename_i D u;refine SW (s:=Builtin.append_ c.argTypes o.type #[a.eval x,a.eval y]) k ?_ ?_ q
         ·simp[execOp,cm,Go.resolve,hc,f,invoke,builtin]
         rw[j];cases m:dC P t with
         |none=>simp[lj,m]at hm
         |some e=>rw[Hc (iY m)<|iY u];exact Hd h p x y g.1 g.2.1 hm n
        cases hm
    ·refine SW (s:=Builtin.max_ c.argTypes o.type #[a.eval x,a.eval y]) k ?_ ?_ q
     ·simp[execOp,cm,Go.resolve,hc,f,invoke,builtin]
     rw[j];exact OE h p x y g.1 g.2.1 hm n
    refine SW (s:=Builtin.min_ c.argTypes o.type #[a.eval x,a.eval y]) k ?_ ?_ q
    ·simp[execOp,cm,Go.resolve,hc,f,invoke,builtin]
    rw[j];exact OC h p x y g.1 g.2.1 hm n
   |cons z i=>cases b<;>simp[kz]at hm
def Oo(hG:kx P V w0)(h:Inv N V w0 S0 σ a w)(o:Oper)(j:gD N o=true){A0:AV}{ms:List Mv}{X:List VZ}(hm:Al P σ o A0=some (ms,X))(C:Mv.runs σ ms=some σ')
 (hs:∀o∈X,Sound P o.1 o.2.1 o.2.2)(H:∀a' w',Inv N V w0 S0 σ' a' w'->K a' w'):Oper.Vg V.rd P o a w K Q:=by
 unfold gD at j;rw[adD]at j;obtain⟨D,j⟩:=j;unfold Al at hm;split at hm
 ·rename_i u;split at hm
  ·rename_i t x y cm;rw[cm]at j;obtain⟨A,rfl⟩:=db hm;replace hm:=A;obtain⟨w',h1,h2⟩:=Hz h x y (Bool.and_eq_true_iff.1 j).1 (Bool.and_eq_true_iff.1 j).2 hm C;refine Oper.oJ (by simp[cm]) ?_;have:(execOp a.eval o).run P w=.ok .skip w':=by simp[execOp,cm,h1]
   rw[this];show K (a.put o.dst undef) w';rw[u];exact H _ _ h2
  ·rename_i c cm;rw[cm]at j;split at hm
   ·rename_i f hc;simp only[hc,adD]at j;obtain⟨g,p,q,R,e2⟩:=C3 hG h (d:=none) I f j.2 c.args.toList j.1 hm C hs;have T:execOp a.eval o=callFunc g (p++(c.args.toList.map a.eval).toArray++q):=by
     have:(c.args.toList.map a.eval).toArray=c.args.map a.eval:=by apply aga;simp
     simp only[execOp,cm,Go.resolve,hc,Deferred.ofValue,R,this];rfl
    refine Oper.oJ (by simp[cm]) ?_;rw[T];refine e2 _ o a K Q λv w' hi=>?_;simp_all
   cases hm
  cases hm
 rename_i d u;simp only[u,decide_eq_true_eq]at D;split at hm
 ·rename_i x cm;rw[cm]at j;obtain⟨A,rfl⟩:=db hm;replace hm:=A;refine iy (v:=a.eval x) (w':=w) (by simp[execOp,cm]) ?_;rw[u];exact H _ _ (lU h D x j hm C)
 ·rename_i x cm;rw[cm]at j;obtain⟨S,F,O,-⟩:=id h;split at hm
  ·rename_i o1 x1 L;obtain⟨A,rfl⟩:=db hm;replace hm:=A;obtain⟨F1,hR,-⟩:=aQ O x j L;simp only[Rel]at hR;obtain⟨b,cs,fz,F',z,R,-⟩:=hR;refine iy (v:=a.eval x) (w':=w) (by simp[execOp,cm,R]) ?_;rw[u];exact H _ _ (lU h D x j hm C)
  ·rename_i g p q L;obtain⟨A,rfl⟩:=db hm;replace hm:=A;obtain⟨F1,hR,-⟩:=aQ O x j L;simp only[Rel]at hR;obtain⟨p',q',F1,F2,R,-⟩:=hR;refine iy (v:=a.eval x) (w':=w) (by simp[execOp,cm,R]) ?_;rw[u];exact H _ _<|lU h D x j hm C
  split at hm
  ·split at hm
   ·rename_i q hq;obtain⟨A,rfl⟩:=db hm;replace hm:=A;obtain⟨r,g1,g2,p,av⟩:=q;obtain⟨-,-,-,⟨ad,R⟩,-⟩:=j6 O x j hq;refine iy (v:=a.eval x) (w':=w) (by simp[execOp,cm,R]) ?_;rw[u];exact H _ _<|lU h D x j hm C
   cases hm
  cases hm
 ·rename_i x cm;rw[cm]at j;obtain⟨A,rfl⟩:=db hm;replace hm:=A;refine iy (v:=a.eval x) (w':=w) (by simp[execOp,cm]) ?_;rw[u];exact H _ _ (Hb h D x j hm C)
 ·rename_i c x y cm;simp only[cm,adD]at j;obtain⟨S,F,O,-⟩:=id h;split at hm
  ·rename_i b L;have hb:=dt O c j.1.1 L;split at hm
   ·obtain⟨A,rfl⟩:=db hm;replace hm:=A;refine iy (v:=a.eval x) (w':=w) (by simp[execOp,cm,hb,asBool]) ?_;rw[u];exact H _ _<|lU h D x j.1.2 hm C
   obtain⟨A,rfl⟩:=db hm;replace hm:=A;refine iy (v:=a.eval y) (w':=w) (by simp[execOp,cm,hb,asBool]) ?_;rw[u];exact H _ _<|lU h D y j.2 hm C
  cases hm
 ·rename_i t cm;split at hm
  ·rename_i ti J;cases hm;exact rj u (by simp only[execOp,cm]) (J5 h D J C) H
  cases hm
 ·rename_i t x cm;rw[cm]at j;split at hm
  ·split at hm
   ·rename_i y M Z;split at hm
    ·cases hm;exact rj u (by simp only[execOp,cm]) (Pk (t:=t) h D x j Z C) H
    cases hm
   cases hm
  cases hm
 ·rename_i t ps cm;rw[cm]at j;split at hm
  ·rename_i ti J;split at hm
   ·rename_i z hz;split at hm
    ·rename_i pl D1;split at hm
     ·rename_i ys M Z;split at hm
      ·rename_i cs hf;cases hm;exact rj u (by simp only[execOp,cm]) (JT h D ps j J hz D1 Z hf C) H
      cases hm
     cases hm
    cases hm
   cases hm
  cases hm
 ·rename_i t n ps cm;rw[cm]at j;split at hm
  ·rename_i e he;split at hm
   ·rename_i ti J;split at hm
    ·rename_i ys M Z;split at hm
     ·rename_i hc;cases hm;exact rj u (by simp only[execOp,cm]) (yB h D ps j he J Z hc.1 hc.2.1 hc.2.2.1 hc.2.2.2 C) H
     simp at hm
    simp at hm
   simp at hm
  simp at hm
 ·rename_i t x cm;rw[cm]at j;obtain⟨A,rfl⟩:=db hm;replace hm:=A;exact rj u (by simp only[execOp,cm]) (K3 h D x j hm C) H
 ·rename_i t x f cm;rw[cm]at j;obtain⟨A,rfl⟩:=db hm;replace hm:=A;exact rj u (by simp only[execOp,cm]) (Au h D x j hm C) H
 ·rename_i t x f cm;rw[cm]at j;obtain⟨A,rfl⟩:=db hm;replace hm:=A;exact rj u (by simp only[execOp,cm]) (Jh h D x j hm C) H
 ·rename_i t x i cm;simp only[cm,adD]at j;obtain⟨A,rfl⟩:=db hm;replace hm:=A;exact rj u (by simp only[execOp,cm]) (As h D x i j.1 j.2 hm C) H
 ·rename_i t x i cm;simp only[cm,adD]at j;obtain⟨A,rfl⟩:=db hm;replace hm:=A;exact rj u (by simp only[execOp,cm]) (IQ h D x i j.1 j.2 hm C) H
 ·rename_i x i cm;rw[cm]at j;obtain⟨A,rfl⟩:=db hm;replace hm:=A;exact rj u (by simp only[execOp,cm]) (Dy h D x j hm C) H
 ·rename_i op t x y t' cm;simp only[cm,adD]at j;split at hm
  ·rename_i ax T;split at hm
   ·rename_i ay hy;split at hm
    ·rename_i v hv;cases hm;exact rj u (by simp only[execOp,cm]) (Po h D x y j.1 j.2 T hy hv C) H
    simp at hm
   simp at hm
  simp at hm
 ·rename_i op t x cm;rw[cm]at j;split at hm
  ·rename_i vx T;split at hm
   ·rename_i v hv;cases hm;exact rj u (by simp only[execOp,cm]) (PL h D x j T hv C) H
   simp at hm
  simp at hm
 ·rename_i s t x cm;rw[cm]at j;obtain⟨A,rfl⟩:=db hm;replace hm:=A;exact rj u (by simp only[execOp,cm]) (LG h D x j hm C) H
 ·rename_i t x l hh m cm;simp only[cm,adD,Option.all_eq_true,ag8,Option.isNone_iff_eq_none]at j;obtain⟨A,rfl⟩:=db hm;replace hm:=A;exact rj u (by simp only[execOp,cm]) (HI h D x l hh m j.1.1.1.1 j.1.1.1.2 j.1.1.2 j.1.2 j.2 hm C) H
 ·rename_i t l c cm;simp only[cm,adD]at j;split at hm
  ·rename_i e he;split at hm
   ·rename_i ti J;split at hm
    ·rename_i k x k' y h1 h2;split at hm
     ·rename_i hb;cases hm;exact rj u (by simp only[execOp,cm]) (Ao h D l c j.1 j.2 he J h1 h2 hb C) H
     simp at hm
    simp at hm
   simp at hm
  simp at hm
 ·rename_i f p q cm;simp only[cm,adD]at j;split at hm
  ·rename_i ap aq hp hq;split at hm
   ·rename_i B0;cases hm;refine rj (s:=Instr.makeFunc f (p.map a.eval)<|q.map a.eval) u (by simp only[execOp,cm]) (eH (z:=.func f (p.map a.eval)<|q.map a.eval) h D C W λS F hc=>?_) H;have Y:shares ((p.toList++q.toList).map<|resolve σ)=[]:=by simpa using B0
    have D2:∀(x:Operand),x∈p.toList++q.toList->aJ x=true:=by grind
    have hl:gP ((p.toList++q.toList).map<|resolve σ)=some (ap++aq):=by rw[aeY];exact wi hp hq
    have:=mX hc (S1:=S) (λ_ h=>h) (p.toList++q.toList) (aeI.2 D2) hl (by rw[Y];simp);rw[aeY]at this;obtain⟨c1,c2⟩:=pQ (by rw[wh hp];simp) this;simp only[Rel];exact⟨_,_,[],[],W,by simpa using c1,by simpa using c2,W⟩
   simp at hm
  simp at hm
 ·rename_i c cm;rw[cm]at j;split at hm
  ·rename_i f hc;simp only[hc,adD]at j;obtain⟨g,p,q,R,e2⟩:=C3 hG h (d:=some d) (by simpa using D) f j.2 c.args.toList j.1 hm C hs;have T:execOp a.eval o=callFunc g (p++(c.args.toList.map a.eval).toArray++q):=by
    have:(c.args.toList.map a.eval).toArray=c.args.map a.eval:=by apply aga;simp
    simp only[execOp,cm,Go.resolve,hc,Deferred.ofValue,R,this];rfl
   refine Oper.oJ (by simp[cm]) ?_;rw[T];refine e2 _ o a K Q λv w' hi=>?_;simp_all
  ·rename_i b hc;obtain⟨A,rfl⟩:=db hm;replace hm:=A;simp only[hc,Bool.and_true]at j;exact Pn h D u cm hc j hm C H
  simp at hm
 simp at hm
end
def Mv.keys:Mv->List Nat
 |.share r _=>[r]
 |.take r n _=>[r,n]
 |.make M n _=>n::M
 |.put n _=>[n]
 |.store r _ M _=>r::M
 |.back R=>R.map (·.1)
def bc:List Mv->List Nat
 |[]=>[]
 |m::a=>m.keys++bc a
def Ad{σ:St}:∀{R:List (Nat×AV)}{s:Nat},s∉R.map (·.1)->lh σ R s=σ s
 |[],s,_=>rfl
 |(r,y)::R,s,h=>by simp only[afc,adZ,not_or]at h;simp[lh];rw[b6 _ _ h.1,Ad h.2]
def Mv.Ec{σ f τ:St}(m:Mv)(h:∀s∈m.keys,τ s=σ s)(a:m.run σ=some f):∃b,m.run τ=some b/\(∀s∈m.keys,b s=f s)/\∀s,s∉m.keys->b s=τ s:=by
 cases m with
 |share r p=>
  simp[Mv.keys,agl,forall_eq]at h;simp[Mv.run]at a⊢;rw[h];split at a
  ·rename_i y k;split at a
   ·rename_i av l;cases a;refine⟨_,W,?_,?_⟩
    ·simp[Mv.keys,aH]
    intro s hs;simp[Mv.keys,agl]at hs;exact b6 _ _ hs
   cases a
  cases a
 |take r n p=>
  simp[Mv.keys,adZ,afY,or_false,forall_eq_or_imp,forall_eq]at h;simp only[Mv.run]at a⊢;rw[h.1];split at a
  ·cases a
  rename_i c;simp[c,if_false];split at a
  ·rename_i y k;split at a
   ·rename_i av l;cases a;refine⟨_,W,?_,?_⟩
    ·intro s hs;simp[Mv.keys,adZ,afY,or_false]at hs;rcases hs with rfl|rfl
     ·rw[b6 _ _ λe=>c e.symm,b6 _ _ λe=>c e.symm,aH,aH]
     rw[aH,aH,h.2]
    intro s hs;simp[Mv.keys,adZ,afY,or_false,not_or]at hs;rw[b6 _ _ hs.2,b6 _ _ hs.1]
   cases a
  cases a
 |make M n y=>
  simp only[Mv.run,ada]at a⊢;subst a;refine⟨_,W,?_,?_⟩
  ·intro s hs;have hn:=h n (by simp[Mv.keys]);simp[made,hn,h s hs]
  intro s hs;simp[Mv.keys,adZ,not_or]at hs;simp[made,hs.1,hs.2,if_false]
 |put n y=>
  simp only[Mv.run,ada]at a⊢;subst a;have hn:=h n (by simp[Mv.keys]);refine⟨_,W,?_,?_⟩
  ·intro s hs;simp[Mv.keys,agl]at hs;subst hs;rw[aH,aH,hn]
  intro s hs;simp[Mv.keys,agl]at hs;exact b6 _ _ hs
 |store r p M y=>
  have g:=h r (by simp[Mv.keys]);simp only[Mv.run]at a⊢;rw[g];split at a
  ·cases a
  rename_i i;simp[i,if_false];split at a
  ·rename_i av k;cases a;refine⟨_,W,?_,?_⟩
   ·intro s hs;simp[stored,g,h s hs]
   intro s hs;simp[Mv.keys,adZ,not_or]at hs;simp[stored,hs.1,hs.2,if_false]
  cases a
 |back R=>
  simp only[Mv.run,ada]at a⊢;subst a;simp only[Mv.keys]at h⊢;refine⟨_,W,?_,λs hs=>Ad hs⟩;have:∀(d:List (Nat×AV)),(∀s∈d.map (·.1),τ s=σ s)->∀s∈d.map (·.1),lh τ d s=lh σ d s:=by
   intro d
   induction d with
   |nil=>intro _ s hs;cases hs
   |cons q d o=>
    intro j s hs;obtain⟨r,y⟩:=q;simp only[afc,adZ,forall_eq_or_imp]at j hs;simp[lh];by_cases e:s=r
    ·subst e;rw[aH,aH,j.1]
    rw[b6 _ _ e,b6 _ _ e]
    grind
  exact this R h
def qj:∀(c:List Mv){σ b τ:St},(∀s∈bc c,τ s=σ s)->Mv.runs σ c=some b->∃a,Mv.runs τ c=some a/\(∀s∈bc c,a s=b s)/\∀s,s∉bc c->a s=τ s
 |[],σ,b,τ,h,d=>by simp[Mv.runs]at d;exact⟨τ,W,by simp[bc],λ_ _=>rfl⟩
 |m::c,σ,b,τ,h,d=>by
  simp[Mv.runs]at d⊢;split at d
  ·rename_i e i;obtain⟨g,k1,k2,k3⟩:=m.Ec (τ:=τ) (λs hs=>h s<|by simp[bc,hs]) i;obtain⟨j,n,v,t⟩:=m.Ec (σ:=σ) (τ:=σ) (λs hs=>rfl) i;rw[i]at n;cases n;have f:=λs hs=>by
    by_cases hm:s∈m.keys
    ·exact k2 s hm
    rw[k3 s hm,t s hm,h s hs]
   obtain⟨a,q,p,k⟩:=qj c (σ:=e) (τ:=g) (λs hs=>f s<|by simp[bc,hs]) d;obtain⟨o,l,u,r⟩:=qj c (σ:=e) (τ:=e) (λs hs=>rfl) d;rw[d]at l;cases l;rw[k1];refine⟨a,q,λs hs=>?_,λs hs=>?_⟩
   ·by_cases hm:s∈bc c
    ·exact p s hm
    rw[k s hm,r s hm,f s hs]
   simp[bc]at hs;rw[k s hs.2,k3 s hs.1]
  cases d
def uG{b:List Mv}{σ a:St}(h:Mv.runs σ b=some a){s:Nat}(hs:s∉bc b):a s=σ s:=by obtain⟨c,e,-,d⟩:=qj b (σ:=σ) (τ:=σ) (λ_ _=>rfl) h;simp_all
def roots(σ:St)(t:Nat):List Nat:=
 match(σ t).av with
 |.bC r _ _ _=>[t,r]
 |.ptr r _ _ _=>[t,r]
 |.fS _ a=>t::a.map (·.1)
 |_=>[t]
def re(σ:St):Operand->List Nat
 |.tmp t=>roots σ t
 |_=>[]
def resolve_congr{σ τ:St}(x:Operand)(h:∀s∈re σ x,τ s=σ s):resolve τ x=resolve σ x:=by
 cases x with
 |tmp t=>
  have b:=h t (by simp[re,roots];split<;>simp);simp[resolve,bY.of,b];cases a:(σ t).av with
  |bC r g1 g2 p=>simp only;rw[h r<|by simp only[re,roots,a];simp]
  |ptr r g1 g2 p=>simp only;rw[h r<|by simp only[re,roots,a];simp]
  |_=>rfl
 |_=>rfl
end Go.Ai
