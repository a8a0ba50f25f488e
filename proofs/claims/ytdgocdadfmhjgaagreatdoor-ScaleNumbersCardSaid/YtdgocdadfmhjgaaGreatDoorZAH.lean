/- Parts of the proof of ScaleNumbers (CheckBench, Exponent and Largest answer as the reference does), at every input, with no further conditions. -/
import Derived.Test.YtdgocdadfmhjgaaGreatDoorZAG
import Derived.Lib.ConvBytes
import Derived.Laws.AppendOwn
set_option linter.unusedVariables false
set_option linter.unusedSimpArgs false
namespace Go.Ai
open Go.RowKit
section
variable{P:Program}{N:Nat}{w w':World}{σ:St}
theorem enters{f:FuncId}{fn:Func}(hf:P.funcs[f]?=some fn)(hb:fn.body.isNone=false)(hn:(fn.name== "runtime.NumGoroutine")=false)(vs:Array Value)(w:World):(callFunc f vs).run P w=.ok (.enter f vs) w:=by
 have YI:¬fn.name= "runtime.NumGoroutine":=by simpa using hn
 have dr:¬fn.body=none:=by intro h;rw[h]at hb;simp at hb
 unfold callFunc;simp[hf,dr,YI]
theorem Bf{f:FuncId}{vs:Array Value}{R:Value->World->Prop}(e1:(callFunc f vs).run P w=.ok (.enter f vs) w)(h:qg P f vs w R){rd:Option Nat}:
 CallsIn (FW rd) 0 P f vs w fun e w'=>∃v0,e=.returned v0/\∃v,R v w':=by
 have:=h rd {dst:=none,op:=.move (.const (.bool true)),type:=0,pos:= "",after:=#[],guard:=none} {tmps:=#[],defers:=[]} (fun _ w'=>∃v,R v w') (fun _ _ _=>False) (fun v w' hR=>⟨v,hR⟩);rw[e1,Oper.uponIn_enter]at this;refine this.2.mono fun e w' he=>?_;cases e with
 |returned v=>exact⟨v,rfl,he⟩
 |panicked _=>exact he.elim
 |outgrown=>obtain⟨_,_,h⟩:=he;exact h.elim
def idxOf(ex:List Nat)(i:Nat):Option Nat:=match ex with
 |[]=>none
 |r::ex=>if r=i then some 0 else(idxOf ex i).map (·+1)
theorem dO:∀{ex:List Nat}{i j:Nat},idxOf ex i=some j->j<ex.length/\ex.getD j 0=i
 |[],i,j,h=>by simp[idxOf]at h
 |r::ex,i,j,h=>by
  unfold idxOf at h;split at h
  ·rename_i e;simp only[Option.some.injEq]at h;subst h;exact⟨by simp,by simpa using e⟩
  simp only[Option.map_eq_some_iff]at h;obtain⟨k,hk,rfl⟩:=h;have:=dO hk;exact⟨by simp;exact this.1,by simpa using this.2⟩
theorem lU:∀{ex:List Nat}{i:Nat},idxOf ex i=none->i∉ex
 |[],i,_=>by simp
 |r::ex,i,h=>by
  unfold idxOf at h;split at h
  ·simp at h
  rename_i e;simp only[Option.map_eq_none_iff]at h;simp only[List.mem_cons,not_or];exact⟨fun e'=>e e'.symm,lU h⟩
def mz(σ:St)(ex:List Nat)(y:List AV):St:=fun i=>match idxOf ex i with
 |some j=>⟨y.getD j .dead,(σ i).g1,(σ i).g2+1⟩
 |none=>σ i
def Qm(N:Nat)(cs:List (AV×Value))(ex:List Nat)(T:Nat->Value)(tmps:Array Value)(ps:Array Tmp)(y x:List AV)(σB:St):Prop:=
 ∀(w:World)(S:Nat->Prop)(FF:Nat->List Nat)(vs:List Value)(V:Hid),(∀q∈cs,Rel w S q.1 q.2 [])->(∀(j:Nat)(v:AV),y[j]?=some v->j<ex.length->Rel w S v (T (ex.getD j 0)) (FF j))->
    (∀j,j<ex.length->(FF j).Nodup)->(∀i j,i<ex.length->j<ex.length->i≠j->∀c∈FF i,c∉FF j)->(∀j,j<ex.length->∀c∈FF j,c<w.heap.size/\¬S c)->(∀c,S c->c<w.heap.size)->Cells w S false x vs []->
    V.v=(fun i=>T (ex.getD (i-1000000) 0))->(∀j,j<ex.length->∀c∈FF j,V.g c)->
    aK S (bW V w) σB (tv V {tmps:=(ps.zip vs.toArray).foldl (fun tmps(t,a)=>tmps.setIfInBounds t a) tmps,defers:=[]}) w (fun i=>if 1000000<=i/\i-1000000<ex.length then FF (i-1000000)else[])
theorem P9{g:Operand}{ps:Array Tmp}{assign body:Code}{Q:Exit->St->Prop}{gf:FuncId}{Wm:Func}{captured:List AV}{r:AV}{ex is:List Nat}{n m:Nat}{x y:Nat->List AV}{b:Nat->Bool}{pe:Nat->Option Code}{σB:Nat->St}
 (hN:N<=1000000)(hgf:aE g=true)(hg:(resolve σ g).cont=some (.fn (.func gf) [] captured))(fS:bG captured=true)(hf:P.funcs[gf]?=some Wm)(hfb:Wm.body.isNone=false)(Sa:(Wm.name== "runtime.NumGoroutine")=false)(B6:captured.length<999999)
 (hex:ex.Nodup)(gJ:∀r∈ex,(σ r).av.plain=true)(his:∀i∈is,(σ i).av.plain=true/\(σ i).av.az=true)
 (hx:∀k,k<n->(x k).length=ps.size)(hy:∀k,(y k).length=ex.length)(BZ:∀j,j<ex.length->(y 0)[j]?=some (σ (ex.getD j 0)).av)(VM:pe 0=none)(Dn:∀k,k<n->(∀j,j<k->b j=true)->pe k=none)
 (hit:∀(C:Value->Prop)(J:Nat->o7),(∀v,C v->∀k,k<n->(∀j,j<k->b j=true)->Yields P (J k) (J (k+1)) (x k) (b k) v)->Eb P gf [.abs (J 0)] (.pv C::captured) [.abs (J m)] r)
 (Ii:∀(V:Hid)(a:Act)(w:World)(S:Nat->Prop)(B:Nat->Prop)(F:Nat->List Nat),a.tmps.size=N->aK S B σ (tv V a) w F->∀k,k<n->Qm N (is.map fun i=>((σ i).av,tv V a i)) ex (tv V a) a.tmps ps (y k) (x k) (σB k))
 (FZ:∀k,k<n->(∀j,j<k->b j=true)->AW R1 P N assign (fun e σ1=>e=.normal/\AW R1 P N body (ZK (y (k+1)) (b k) (pe (k+1))) σ1) (σB k))
 (xa:match pe m with
   |none=>Q .normal (mz σ ex (y m))
   |some .ret=>Q .ret (mz σ ex (y m))
   |some (.exit id)=>Q (.exit id) (mz σ ex (y m))
   |_=>False):AW R0 P N (.rangeFunc g ps assign body) Q σ:=by
 intro V w0 S0 a w hR hi;obtain⟨S,F,hc,ct,ig,jl,gw,cU⟩:=hi;have hG:=hR.2;have hR:V.rd=none:=hR.1;refine wpIn_rangeFunc ?_;intro fn _;obtain⟨F1,e1,-⟩:=aM hc g hgf hg;simp only[Rel]at e1;obtain⟨af,cf,G1,G2,Hm,QH,ha2,-⟩:=e1;have haf:af=#[]:=by simp only[Cells]at QH;apply Array.ext';simpa using QH.1
 have hG2:=Cells.az _ ha2 fS;subst haf hG2;obtain⟨D,hD⟩:∃D,D=w.heap.size:=⟨_,rfl⟩;obtain⟨l,hl⟩:∃l,l=w.heap.size+1:=⟨_,rfl⟩;obtain⟨W1,T6⟩:∃W1,W1=(w.alloc (.deferred (some []))).alloc (.loop (qK fn a.tmps ps assign body D none)):=⟨_,rfl⟩;have h1s:W1.heap.size=w.heap.size+2:=by rw[T6,World.size_alloc,World.size_alloc]
 have h1l:W1.heap[l]?=some (.loop (qK fn a.tmps ps assign body D none)):=by rw[T6,hl];have:=World.alloc_heap_new (w.alloc (.deferred (some []))) (.loop (qK fn a.tmps ps assign body D none));rwa[World.size_alloc]at this
 have h1D:W1.heap[D]?=some (.deferred (some [])):=by rw[T6,hD];exact(Below.heap_alloc _ _ _ (by simp)).trans (World.alloc_heap_new w _)
 have Zz:∀k,k<w.heap.size->W1.heap[k]?=w.heap[k]?:=fun k hk=>by rw[T6];exact(Below.heap_alloc _ _ _ (by simp;omega)).trans (Below.heap_alloc _ _ _ hk)
 have hce:∀vs W,(callFunc gf vs).run P W=.ok (.enter gf vs) W:=enters hf hfb Sa;refine⟨l,[{target:=.collected D,args:=#[]}],W1,{target:=.fn (.func gf) cf,args:=#[.func (.yield l) #[] #[]]},W1,gf,#[.func (.yield l) #[] #[]]++cf,W1,?_,?_,fun _ _=>trivial,?_,fun h=>(by cases h),?_⟩
 ·show(Instr.enterLoop fn a.tmps ps assign body V.rd).run P w=_;rw[hR,run_enterLoop_outer,T6,hD,hl];rfl
 ·simp only[Go.resolve,rangeCall,Hm];simp[Deferred.ofValue,Act.eval]
 ·simp[invoke,hce]
 have Wf:∀c,S c->c<w.heap.size:=hc.shr;have VU:w.heap.size<=l:=by omega
 have YR:l≠D:=by omega
 obtain⟨Ur,Mh⟩:∃Ur:Nat->List Nat,Ur=fun j=>F (ex.getD j 0):=⟨_,rfl⟩;have ack:∀i j,i<ex.length->j<ex.length->i≠j->ex.getD i 0≠ex.getD j 0:=by
  intro i j hi hj fX e;rw[List.getD_eq_getElem?_getD,List.getD_eq_getElem?_getD,List.getElem?_eq_getElem hi,List.getElem?_eq_getElem hj]at e;have e:ex[i]=ex[j]:=by simpa using e
  have hpw:=List.pairwise_iff_getElem.1 hex;rcases Nat.lt_or_gt_of_ne fX with h|h
  ·exact hpw i j hi hj h e
  exact hpw j i hj hi h e.symm
 have Sd:∀j,j<ex.length->ex.getD j 0∈ex:=fun j hj=>by rw[List.getD_eq_getElem?_getD,List.getElem?_eq_getElem hj];exact List.getElem_mem hj
 obtain⟨cs,pL⟩:∃cs,cs=is.map fun i=>((σ i).av,tv V a i):=⟨_,rfl⟩;obtain⟨J,hJ⟩:∃J:Nat->o7,J=fun k=>Jr cs ex (tv V a) l D (qK fn a.tmps ps assign body D) (pe k) (y k):=⟨_,rfl⟩;have Vp:∀k,k<n->(∀j,j<k->b j=true)->Yields P (J k) (J (k+1)) (x k) (b k) (.func (.yield l) #[] #[]):=by intro k hk xC;rw[hJ];dsimp only;rw[Dn k hk xC];exact CP hN ct (hx k hk) (hy (k+1)) (by rw[pL];exact Ii V a w S _ F ct hc k hk) (FZ k hk xC)
 have yU:=hit (fun v=>v=.func (.yield l) #[] #[]) J (fun v hv k hk xC=>by rw[hv];exact Vp k hk xC);obtain⟨Vi,hVi⟩:∃Vi:Hid,Vi={v:=fun _=>undef,g:=fun c=>c=D\/c=l\/∃j,j<ex.length/\c∈Ur j}:=⟨_,rfl⟩;obtain⟨Fi,Xw⟩:∃Fi:Nat->List Nat,Fi=fun i=>if i=1000000 then D::l::(List.range ex.length).flatMap Ur else[]:=⟨_,rfl⟩;have hFw:∀i,∀c∈F i,c<w.heap.size:=fun i c bT=>(hc.own i c bT).2.1;have AG:((List.range ex.length).flatMap Ur).Nodup:=(jZ _).2 ⟨fun j _=>by rw[Mh];exact hc.nodup _,fun i j hi hj fX=>by rw[Mh];exact hc.cx _ _ (ack i j hi hj fX)⟩;have fC:∀c,c∈(List.range ex.length).flatMap Ur->c<w.heap.size/\¬S c:=by intro c bT;obtain⟨j,-,hj⟩:=List.mem_flatMap.1 bT;rw[Mh]at hj;exact(hc.own _ c hj).2
 have hJ0:o7.here (J 0) W1 S (D::l::(List.range ex.length).flatMap Ur):=by
  rw[hJ];dsimp only;rw[VM];refine Jr.closed ⟨Ur,List.Perm.refl _,fun j v hv hj=>?_,fun q hq=>?_,h1l,h1D⟩
  ·have:=BZ j hj;rw[this]at hv;simp only[Option.some.injEq]at hv;subst hv;have hr:=hc.rel (ex.getD j 0);rw[ai.ar (gJ _ (Sd j hj))]at hr;rw[Mh];exact Rel.frame _ hr fun c bT=>Zz c (bT.elim (Wf c) (hFw _ c))
  rw[pL]at hq;obtain⟨i,hi,rfl⟩:=List.mem_map.1 hq;have hr:=hc.rel i;rw[ai.ar (his i hi).1]at hr;rw[Rel.az _ hr (his i hi).2]at hr;exact Rel.frame _ hr fun c bT=>Zz c (Wf c (by simpa using bT))
 have iB:Cells W1 S false captured cf.toList []:=Cells.frame _ ha2 fun c bT=>Zz c (Wf c (by simpa using bT));have agP:=Cells.length iB;have O1:([Value.func (.yield l) #[] #[]]++cf.toList).toArray=#[.func (.yield l) #[] #[]]++cf:=by apply Array.ext';simp
 have B5:aK S Vi.g (both (.pv (fun v=>v=.func (.yield l) #[] #[])::captured) [.abs (J 0)]) (aS Vi ([Value.func (.yield l) #[] #[]]++cf.toList)) W1 Fi:=by
  have mL:Cells W1 S false (.pv (fun v=>v=.func (.yield l) #[] #[])::captured) ([Value.func (.yield l) #[] #[]]++cf.toList) []:=by simp only[Cells];exact⟨_,_,[],[],rfl,rfl,by simp,by simp[Rel],iB⟩
  refine⟨fun i=>?_,fun i=>?_,fun i j fX c hb=>?_,fun i c hb=>?_,fun c hb=>by rw[h1s];have:=Wf c hb;omega⟩
  ·by_cases hi:i<1000000
   ·have hb:=gu (args:=.pv (fun v=>v=.func (.yield l) #[] #[])::captured) (H:=[.abs (J 0)]) hi;have hFe:Fi i=[]:=by rw[Xw];dsimp only;rw[if_neg (by omega)]
    rw[hFe];cases te:(AV.pv (fun v=>v=.func (.yield l) #[] #[])::captured)[i]?with
    |none=>rw[te]at hb;rw[ai.ar (by rw[hb];rfl),hb];simp[Rel]
    |some v=>
     rw[te]at hb;have jm:=Cells.get i mL rfl;rw[te]at jm;obtain⟨z,q1,q2⟩:=jm;rw[ai.ar (by rw[hb];exact q2.plain),hb];have hz:aS Vi ([Value.func (.yield l) #[] #[]]++cf.toList) i=z:=by unfold aS;rw[if_pos hi,List.getD_eq_getElem?_getD,q1];rfl
     rw[hz];exact q2
   by_cases h2:i=1000000
   ·subst h2;have e:(both (.pv (fun v=>v=.func (.yield l) #[] #[])::captured) [.abs (J 0)] 1000000).av=.abs (J 0):=by
     rw[show(1000000:Nat)=1000000+0 by rfl,fW (by simp;omega)];rfl
    unfold ai;rw[e,Xw];exact hJ0
   have e:(both (.pv (fun v=>v=.func (.yield l) #[] #[])::captured) [.abs (J 0)] i).av=.dead:=by rw[show i=1000000+(i-1000000) by omega,fW (by simp;omega)];have:[AV.abs (J 0)][i-1000000]?=none:=List.getElem?_eq_none (by simp;omega);rw[this]
   rw[ai.ar (by rw[e];rfl),e];rw[Xw];dsimp only;rw[if_neg h2];simp[Rel]
  ·rw[Xw];dsimp only;split
   ·refine List.nodup_cons.2 ⟨fun h=>?_,List.nodup_cons.2 ⟨fun h=>?_,AG⟩⟩
    ·rcases List.mem_cons.1 h with h|h
     ·exact YR h.symm
     have:=(fC D h).1;omega
    have:=(fC l h).1;omega
   simp
  ·rw[Xw]at hb⊢;dsimp only at hb⊢;split at hb
   ·rw[if_neg (by omega)];simp
   simp at hb
  rw[Xw]at hb;dsimp only at hb;split at hb
  ·rw[hVi,h1s];rcases List.mem_cons.1 hb with rfl|hb
   ·exact⟨.inl rfl,by omega,fun h=>by have:=Wf _ h;omega⟩
   rcases List.mem_cons.1 hb with rfl|hb
   ·exact⟨.inr (.inl rfl),by omega,fun h=>by have:=Wf _ h;omega⟩
   obtain⟨j,hj,bT⟩:=List.mem_flatMap.1 hb;have:=fC c hb;exact⟨.inr (.inr ⟨j,List.mem_range.1 hj,bT⟩),by omega,this.2⟩
  simp at hb
 have hLi:iV P Vi W1:=by
  have hLw:=hG.H8 cU;refine⟨hLw.same fun g hn cB=>Zz g cB,fun g hn hb=>?_⟩;have cB:=hLw.lt hn;rw[hVi]at hb;rcases hb with rfl|rfl|⟨j,-,hb⟩
  ·omega
  ·omega
  rw[Mh]at hb;exact hG.bW g hn (hc.own _ g hb).1
 have J2:=yU W1 S Vi ([Value.func (.yield l) #[] #[]]++cf.toList) Fi (by simp;omega) hLi B5;rw[O1]at J2;refine(Bf (hce _ _) J2).mono ?_;rintro e w2⟨v0,rfl,v,S',F',ny,k1,k2,kc⟩;have gg:o7.here (J m) w2 S' (F' 1000000):=by
  have:=kc.rel 1000000;unfold ai at this;have e:(both [r] [.abs (J m)] 1000000).av=.abs (J m):=by rw[show(1000000:Nat)=1000000+0 by rfl,fW (by simp)];rfl
  rw[e]at this;exact this
 have TP:=gg w2 S' (fun _ _=>rfl) (fun _ h=>h);rw[hJ]at TP;obtain⟨FF,hp,eH,-,Ir,MX⟩:=TP;obtain⟨w4,Xb⟩:∃w4,w4=w2.putObj l (.loop {qK fn a.tmps ps assign body D (pe m)with state:=.exhausted}):=⟨_,rfl⟩;have Y3:(Instr.endLoop l).run P w2=.ok (pe m) w4:=by rw[run_endLoop Ir (by simp only[qK];split<;>simp),Xb];rfl
 have hX:kM N V w0 S0 (mz σ ex (y m)) {a with defers:=[{target:=.collected D,args:=#[]}]++a.defers} w4:=by
  have h4s:w4.heap.size=w2.heap.size:=by rw[Xb];simp[World.putObj]
  have h4o:∀k,k≠l->w4.heap[k]?=w2.heap[k]?:=fun k hk=>by rw[Xb];exact World.putObj_heap_other hk
  have hm:∀c,c∈F' 1000000↔c∈D::l::(List.range ex.length).flatMap FF:=fun c=>hp.mem_iff;have VS:=hp.nodup_iff.1 (kc.nodup 1000000);obtain⟨hD1,VR⟩:=List.nodup_cons.1 VS;obtain⟨YS,VQ⟩:=List.nodup_cons.1 VR;obtain⟨OX,O9⟩:=(jZ ex.length).1 VQ;have FQ:∀j,j<ex.length->∀c∈FF j,c∈(List.range ex.length).flatMap FF:=fun j hj c hc=>List.mem_flatMap.2 ⟨j,List.mem_range.2 hj,hc⟩;have uZ:∀j,j<ex.length->∀c∈FF j,bW Vi W1 c/\c<w2.heap.size/\¬S' c/\c≠l/\c≠D:=by intro j hj c bT;have Xq:=FQ j hj c bT;have:=kc.own 1000000 c ((hm c).2 (by simp[Xq]));exact⟨this.1,this.2.1,this.2.2,fun e=>YS (e▸Xq),fun e=>hD1 (by rw[<-e];simp[Xq])⟩
  have Zu:=kc.own 1000000 D ((hm D).2 (by simp));have YL:=kc.own 1000000 l ((hm l).2 (by simp));have hVg:∀c,Vi.g c->c=D\/c=l\/∃j,j<ex.length/\c∈F (ex.getD j 0):=by rw[hVi,Mh];exact fun c h=>h
  have af4:=cU.size;have wE:∀c,bW Vi W1 c->bW V w0 c:=by
   rintro c(h|h)
   ·exact .inl (by omega)
   rcases hVg c h with rfl|rfl|⟨j,hj,h⟩
   ·exact .inl (by omega)
   ·exact .inl (by omega)
   exact(hc.own _ c h).1
  have af5:=ny.size;have B1:∀c,c<w.heap.size->(∀j,j<ex.length->c∉F (ex.getD j 0))->w4.heap[c]?=w.heap[c]?:=by
   intro c AH ug;rw[h4o c (by omega),ny.block c (by omega) (fun h=>?_),Zz c AH];rcases hVg c h with h|h|⟨j,hj,h⟩
   ·omega
   ·omega
   exact ug j hj h
  have hSk:∀c,S c->w4.heap[c]?=w.heap[c]?:=fun c hcS=>B1 c (Wf c hcS) fun j hj h=>(hc.own _ c h).2.2 hcS;have hFk:∀i,i∉ex->∀c∈F i,w4.heap[c]?=w.heap[c]?:=fun i hi c Xs=>B1 c (hFw i c Xs) fun j hj h=>hc.cx i (ex.getD j 0) (fun e=>hi (by rw[e];exact Sd j hj)) c Xs h;obtain⟨Fn,Zt⟩:∃Fn:Nat->List Nat,Fn=fun i=>match idxOf ex i with|some j=>FF j|none=>F i:=⟨_,rfl⟩
  have Iw:∀{i j},idxOf ex i=some j->Fn i=FF j:=fun h=>by rw[Zt];dsimp only;rw[h]
  have Ix:∀{i},idxOf ex i=none->Fn i=F i:=fun h=>by rw[Zt];dsimp only;rw[h]
  have QD:∀{i},idxOf ex i=none->mz σ ex (y m) i=σ i:=fun h=>by unfold mz;rw[h]
  have kr:∀{i j},idxOf ex i=some j->mz σ ex (y m) i=⟨(y m).getD j .dead,(σ i).g1,(σ i).g2+1⟩:=fun h=>by unfold mz;rw[h]
  have AT:∀i j,idxOf ex i=none->j<ex.length->∀c∈FF j,c∉F i:=by
   intro i j hi hj c Xs hci;rcases(uZ j hj c Xs).1 with h|h
   ·have:=hFw i c hci;omega
   rcases hVg c h with h|h|⟨j',QE,h⟩
   ·exact(uZ j hj c Xs).2.2.2.2 h
   ·exact(uZ j hj c Xs).2.2.2.1 h
   exact hc.cx i (ex.getD j' 0) (fun e=>lU hi (by rw[e];exact Sd j' QE)) c hci h
  have acI:∀c,S' c->S c\/bW V w0 c:=fun c h=>(k2 c h).imp id (wE c);refine⟨S',Fn,[{target:=.collected D,args:=#[]}],?_,ct,by rw[ig],fun c h=>k1 c (jl c h),fun c h=>(acI c h).elim (gw c) .inr,?_,by simp,?_⟩
  ·have hT:tv V {a with defers:=[{target:=.collected D,args:=#[]}]++a.defers}=tv V a:=rfl;rw[hT];refine hc.step (w':=w4) (T':=tv V a) (S':=S') ⟨fun i=>?_,fun i=>?_,fun _ _=>rfl,fun i q1 q2=>?_⟩ k1 (fun i=>?_) (fun i=>?_) (fun i j fX c AU=>?_) (fun i c AU=>?_) (fun c h=>by rw[h4s];exact kc.shr c h)
   ·cases hi:idxOf ex i with
    |none=>rw[QD hi];exact Nat.le_refl _
    |some j=>rw[kr hi];exact Nat.le_refl _
   ·cases hi:idxOf ex i with
    |none=>rw[QD hi];exact Nat.le_refl _
    |some j=>rw[kr hi];exact Nat.le_succ _
   ·cases hi:idxOf ex i with
    |none=>rw[QD hi];exact⟨fun p z hz=>⟨z,hz⟩,fun c AU=>AU.elim (hSk c) (hFk i (lU hi) c)⟩
    |some j=>rw[kr hi]at q2;simp at q2
   ·cases hi:idxOf ex i with
    |none=>left;rw[QD hi,Ix hi];exact⟨rfl,rfl,rfl,fun c AU=>AU.elim (hSk c) (hFk i (lU hi) c)⟩
    |some j=>
     right;obtain⟨hj,he⟩:=dO hi;have hyj:(y m)[j]?=some ((y m).getD j .dead):=by rw[List.getD_eq_getElem?_getD,List.getElem?_eq_getElem (by rw[hy];exact hj)];rfl
     have hr:=eH j _ hyj hj;rw[ai.ar (by rw[kr hi];exact hr.plain),kr hi,Iw hi];rw[he]at hr;exact Rel.frame _ hr fun c AU=>h4o c (fun e=>by subst e;exact AU.elim (fun h=>YL.2.2 h) fun h=>(uZ j hj _ h).2.2.2.1 rfl)
   ·cases hi:idxOf ex i with
    |none=>rw[Ix hi];exact hc.nodup i
    |some j=>rw[Iw hi];exact OX j (dO hi).1
   ·cases hi:idxOf ex i with
    |none=>
     rw[Ix hi]at AU;cases hj:idxOf ex j with
     |none=>rw[Ix hj];exact hc.cx i j fX c AU
     |some j'=>rw[Iw hj];exact fun h=>AT i j' hi (dO hj).1 c h AU
    |some i'=>
     rw[Iw hi]at AU;cases hj:idxOf ex j with
     |none=>rw[Ix hj];exact AT j i' hj (dO hi).1 c AU
     |some j'=>rw[Iw hj];refine O9 i' j' (dO hi).1 (dO hj).1 (fun e=>fX ?_) c AU;rw[<-(dO hi).2,<-(dO hj).2,e]
   cases hi:idxOf ex i with
   |none=>
    rw[Ix hi]at AU;have ho:=hc.own i c AU;refine⟨ho.1,by rw[h4s];omega,fun h=>?_⟩;rcases k2 c h with h|h
    ·exact ho.2.2 h
    rcases h with h|h
    ·omega
    rcases hVg c h with h|h|⟨j',QE,h⟩
    ·omega
    ·omega
    exact hc.cx i (ex.getD j' 0) (fun e=>lU hi (by rw[e];exact Sd j' QE)) c AU h
   |some j=>rw[Iw hi]at AU;have ho:=uZ j (dO hi).1 c AU;exact⟨wE c ho.1,by rw[h4s];exact ho.2.1,ho.2.2.1⟩
  ·refine⟨?_,?_,?_,by rw[h4s];omega,fun k hk VZ=>?_⟩
   ·rw[Xb];show w2.os=_;rw[ny.os,T6];exact cU.os
   ·rw[Xb];show w2.tape=_;rw[ny.tape,T6];exact cU.tape
   ·rw[Xb];show w2.output=_;rw[ny.output,T6];exact cU.output
   rw[B1 k (by omega) (fun j hj h=>?_)]
   ·exact cU.block k hk VZ
   rcases(hc.own _ k h).1 with h|h
   ·omega
   exact VZ h
  intro d hd;simp only[List.mem_singleton]at hd;subst hd;refine⟨D,rfl,by rw[h4o D (fun e=>YR e.symm)];exact MX,by omega,Zu.2.2,fun i h=>?_⟩;cases hi:idxOf ex i with
  |none=>rw[Ix hi]at h;have:=hFw i D h;omega
  |some j=>rw[Iw hi]at h;exact(uZ j (dO hi).1 D h).2.2.2.2 rfl
 show∃jump w4,(Instr.endLoop l).run P w2=.ok jump w4/\_;refine⟨pe m,w4,Y3,?_⟩;cases Yy:pe m with
 |none=>rw[Yy]at xa;exact⟨_,xa,hX⟩
 |some c=>
  rw[Yy]at xa;cases c<;>try exact xa.elim
  case ret=>exact wpIn_ret ⟨_,xa,hX⟩
  case exit id=>exact wpIn_exit ⟨_,xa,hX⟩
end
theorem BO:∀{L:List (Nat×SV)}{i:Nat},(gt (sl L) i).v=.dead\/(i,(gt (sl L) i).v)∈L
 |[],i=>.inl rfl
 |(j,y)::L,i=>by
  simp only[sl,gt];split
  ·rename_i h;have:=Nat.eq_of_beq_eq_true h;subst this;exact .inr (by simp)
  rcases BO (L:=L) (i:=i)with h|h
  ·exact .inl h
  exact .inr (by simp[h])
theorem rW:∀(q:List (Tmp×Value))(t:Array Value)(i:Nat),i∉q.map (·.1)->(q.foldl (fun tmps p=>tmps.setIfInBounds p.1 p.2) t).getD i undef=t.getD i undef
 |[],t,i,_=>rfl
 |p::q,t,i,h=>by simp only[List.map_cons,List.mem_cons,not_or]at h;simp only[List.foldl_cons];rw[rW q _ i h.2];simp only[Array.getD_eq_getD_getElem?];rw[Array.getElem?_setIfInBounds_ne (fun e=>h.1 e.symm)]
theorem Gp:∀(q:List (Tmp×Value))(t:Array Value)(i:Nat)(v:Value),(q.map (·.1)).Nodup->(i,v)∈q->i<t.size->(q.foldl (fun tmps p=>tmps.setIfInBounds p.1 p.2) t).getD i undef=v
 |[],t,i,v,_,h,_=>by simp at h
 |p::q,t,i,v,hn,h,hi=>by
  simp only[List.map_cons,List.nodup_cons]at hn;simp only[List.foldl_cons];rcases List.mem_cons.1 h with h|h
  ·subst h;rw[rW q _ i hn.1];simp[Array.getD_eq_getD_getElem?,hi]
  exact Gp q _ i v hn.2 h (by simpa using hi)
inductive View(σ:St)(ex is:List Nat):Nat->AV->Prop
 |own {i j:Nat} (h:ex[j]?=some i):View σ ex is i (.bg (1000000+j) 0 0 [])
 |bg {i j r g1 g2:Nat} {p:Path} (h:ex[j]?=some r) (h1:(σ i).av=.bg r g1 g2 p) (h2:iP p=true) (h3:(σ r).g1=g1):View σ ex is i (.bg (1000000+j) 0 0 p)
 |ptr {i j r g1 g2:Nat} {p:Path} (h:ex[j]?=some r) (h1:(σ i).av=.ptr r g1 g2 p) (h2:flat p=true) (h3:(σ r).g1=g1):View σ ex is i (.ptr (1000000+j) 0 0 p)
 |val {i:Nat} (h:i∈is):View σ ex is i (σ i).av
def ot:Nat->List SV->List (Nat×SV)
 |_,[]=>[]
 |k,v::vs=>(k,v)::ot (k+1) vs
def oV:List Nat->List SV->List (Nat×SV)
 |[],_=>[]
 |t::ts,xs=>match xs with
  |[]=>[]
  |x::xs=>(t,x)::oV ts xs
theorem ym:∀{ts:List Nat}{xs:List SV}{i:Nat}{v:SV},(i,v)∈oV ts xs->∃j:Nat,ts[j]?=some i/\xs[j]?=some v
 |[],xs,i,v,h=>by simp[oV]at h
 |t::ts,[],i,v,h=>by simp[oV]at h
 |t::ts,x::xs,i,v,h=>by
  simp only[oV,List.mem_cons,Prod.mk.injEq]at h;rcases h with⟨rfl,rfl⟩|h
  ·exact⟨0,rfl,rfl⟩
  obtain⟨j,h1,h2⟩:=ym h;exact⟨j+1,by simpa using h1,by simpa using h2⟩
theorem Du:∀{A B:List (Nat×SV)}{i:Nat},(∀q∈A,q.1≠i)->gt (sl (cat A B)) i=gt (sl B) i
 |[],B,i,_=>rfl
 |(r,y)::A,B,i,h=>by
  simp only[cat,sl,gt];have h1:r≠i:=h (r,y) (by simp);have:Nat.beq i r=false:=by
   cases hb:Nat.beq i r with
   |false=>rfl
   |true=>exact absurd (Nat.eq_of_beq_eq_true hb).symm h1
  rw[this];exact Du fun q hq=>h q (by simp[hq])
theorem J9:∀(zs:List SV)(k j:Nat),gt (sl (ot k zs)) (k+j)=match zs[j]?with|some v=>⟨v,0,0⟩|none=>⟨.dead,0,0⟩
 |[],k,j=>by simp[ot,sl,gt]
 |v::zs,k,j=>by
  simp only[ot,sl,gt];cases j with
  |zero=>simp
  |succ j=>
   have:Nat.beq (k+(j+1)) k=false:=by
    cases hb:Nat.beq (k+(j+1)) k with
    |false=>rfl
    |true=>have:=Nat.eq_of_beq_eq_true hb;omega
   rw[this];have:=J9 zs (k+1) j;rw[show k+1+j=k+(j+1) by omega]at this;simpa using this
theorem J0:∀{zs:List SV}{k i:Nat}{v:SV},(i,v)∈ot k zs->k<=i
 |[],k,i,v,h=>by simp[ot]at h
 |z::zs,k,i,v,h=>by
  simp only[ot,List.mem_cons,Prod.mk.injEq]at h;rcases h with⟨rfl,-⟩|h
  ·exact Nat.le_refl _
  have:=J0 h;omega
section
variable{P:Program}{N:Nat}{σ:St}
theorem K3{ex is:List Nat}{vw:List (Nat×SV)}{xs zs:List SV}{ps:Array Tmp}{V0:Hid}{a:Act}{w0:World}{S0:Nat->Prop}{B:Nat->Prop}{F0:Nat->List Nat}(hN:N<=1000000)(ha:a.tmps.size=N)(hc:aK S0 B σ (tv V0 a) w0 F0)
 (his:∀i∈is,(σ i).av.plain=true/\(σ i).av.az=true)(hvw:∀q∈vw,View σ ex is q.1 q.2.den/\q.1<N/\q.1∉ps.toList)
 (L4:ps.toList.Nodup)(hpN:∀t∈ps.toList,t<N)(hx:xs.length=ps.size)(hzl:zs.length=ex.length)(hzp:∀z∈zs,z.plain=true):
 Qm N (is.map fun i=>((σ i).av,tv V0 a i)) ex (tv V0 a) a.tmps ps (an zs) (an xs) (dn (sl (cat vw (cat (oV ps.toList xs) (ot 1000000 zs))))):=by
 intro w S FF vs V pL eH AG hdj dz hS fb hv hg;obtain⟨a1,QH⟩:∃a1:Act,a1={tmps:=(ps.zip vs.toArray).foldl (fun tmps(t,a)=>tmps.setIfInBounds t a) a.tmps,defers:=[]}:=⟨_,rfl⟩;rw[<-QH];have Dk:=Cells.length fb;rw[bt]at Dk;have O4:a1.tmps=(ps.toList.zip vs).foldl (fun tmps p=>tmps.setIfInBounds p.1 p.2) a.tmps:=by rw[QH];show(ps.zip vs.toArray).foldl (fun tmps(t,a)=>tmps.setIfInBounds t a) a.tmps=_;rw[<-Array.foldl_toList];simp
 have TV:(ps.toList.zip vs).map (·.1)=ps.toList:=by exact List.map_fst_zip (by rw[Dk,hx];simp)
 have hT1:∀i,i<N->i∉ps.toList->tv V a1 i=tv V0 a i:=by intro i hi hip;rw[sw _ _ (.inl (by omega)),sw _ _ (.inl (by omega)),O4];exact rW _ _ _ (by rw[TV];exact hip)
 have hTh:∀j,tv V a1 (1000000+j)=tv V0 a (ex.getD j 0):=by
  intro j;have ct:a1.tmps.size=N:=by
   rw[O4,<-ha];have:∀(q:List (Tmp×Value))(t:Array Value),(q.foldl (fun tmps p=>tmps.setIfInBounds p.1 p.2) t).size=t.size:=by
    intro q
    induction q with
    |nil=>intro t;rfl
    |cons p q ih=>intro t;simp only[List.foldl_cons];rw[ih];simp
   exact this _ _
  unfold tv;rw[if_neg (by omega),hv];show tv V0 a (ex.getD (1000000+j-1000000) 0)=_;rw[Nat.add_sub_cancel_left];rfl
 have Xm:∀{j r:Nat},ex[j]?=some r->ex.getD j 0=r/\j<ex.length:=fun h=>⟨by rw[List.getD_eq_getElem?_getD,h];rfl,(List.getElem?_eq_some_iff.1 h).1⟩;have aca:∀j,gt (sl (cat vw (cat (oV ps.toList xs) (ot 1000000 zs)))) (1000000+j)=match zs[j]?with|some v=>⟨v,0,0⟩|none=>⟨.dead,0,0⟩:=by
  intro j;have g1:∀q∈vw,q.1≠1000000+j:=fun q hq e=>by have:=(hvw q hq).2.1;omega
  have g2:∀q∈oV ps.toList xs,q.1≠1000000+j:=by intro q hq e;obtain⟨t,h1,-⟩:=ym (i:=q.1) (v:=q.2) hq;have h3:q.1<N:=hpN q.1 (List.mem_of_getElem? h1);exact absurd e (Nat.ne_of_lt (Nat.lt_of_lt_of_le h3 (Nat.le_trans hN (Nat.le_add_right _ _))))
  rw[Du g1,Du g2,J9]
 have fC:∀{i:Nat}{v:SV},(i,v)∈cat vw (cat (oV ps.toList xs) (ot 1000000 zs))->(i,v)∈vw\/(i,v)∈oV ps.toList xs\/(i,v)∈ot 1000000 zs:=by intro i v h;rw[ee,ee]at h;simpa using h
 refine⟨fun i=>?_,fun i=>?_,fun i j fX c hb=>?_,fun i c hb=>?_,hS⟩
 ·by_cases hi:1000000<=i
  ·obtain⟨j,rfl⟩:∃j,i=1000000+j:=⟨i-1000000,by omega⟩;have hh:=aca j;by_cases hj:j<ex.length
   ·rw[if_pos ⟨by omega,by omega⟩,Nat.add_sub_cancel_left];obtain⟨z,hz⟩:∃z,zs[j]?=some z:=⟨_,List.getElem?_eq_getElem (by omega)⟩;rw[hz]at hh;rw[ai.ar (by rw[cQ,hh,cH];exact hzp z (List.mem_of_getElem? hz)),cQ,hh,hTh];exact eH j z.den (by rw[gH];simp[hz]) hj
   rw[if_neg (by omega)];rw[List.getElem?_eq_none (by omega)]at hh;rw[ai.ar (by rw[cQ,hh];rfl),cQ,hh];simp[SV.den,Rel]
  rw[if_neg (by omega)];rcases BO (L:=cat vw (cat (oV ps.toList xs) (ot 1000000 zs))) (i:=i)with h|h
  ·rw[ai.ar (by rw[cQ,h];rfl),cQ,h];simp[SV.den,Rel]
  rcases fC h with h|h|h
  ·obtain⟨MT,Ee,hip⟩:=hvw _ h;have hT:=hT1 i Ee hip;have e:(dn (sl (cat vw (cat (oV ps.toList xs) (ot 1000000 zs)))) i).av=(gt (sl (cat vw (cat (oV ps.toList xs) (ot 1000000 zs)))) i).v.den:=cQ _ _
   replace MT:View σ ex is i (gt (sl (cat vw (cat (oV ps.toList xs) (ot 1000000 zs)))) i).v.den:=MT
   rw[<-e]at MT;generalize afF:dn (sl (cat vw (cat (oV ps.toList xs) (ot 1000000 zs))))=σB at MT⊢;generalize hd:(σB i).av=d at MT;cases MT with
   |own hj=>obtain⟨q1,q2⟩:=Xm hj;unfold ai;rw[hd];refine⟨rfl,Nat.zero_le _,Nat.zero_le _,fun _ _ _=>⟨.val (tv V a1 (1000000+_)),rfl,?_,by simp⟩⟩;show tv V a1 i=_;rw[hTh,q1,hT]
   |bg hj p1 p2 p3=>
    obtain⟨q1,q2⟩:=Xm hj;have hr:=hc.rel i;unfold ai at hr⊢;rw[p1]at hr;rw[hd];obtain⟨L,k1,k2,k3⟩:=hr.2.2.2 p3 (.inl p2) fun h=>by rw[p2]at h;simp at h
    obtain⟨u,rfl⟩:=BU p2 k1;refine⟨rfl,Nat.zero_le _,Nat.zero_le _,fun _ _ _=>⟨.val u,?_,?_,by simp⟩⟩
    ·rw[hTh,q1,<-BS (w:=w0) p2];exact k1
    show tv V a1 i=u;rw[hT];exact k2
   |ptr hj p1 p2 p3=>
    obtain⟨q1,q2⟩:=Xm hj;have hr:=hc.rel i;unfold ai at hr⊢;rw[p1]at hr;rw[hd];obtain⟨ad,k1,k2⟩:=hr.2.2.2.2 p3 (.inl p2) fun h=>by rw[p2]at h;simp at h
    refine⟨rfl,Nat.zero_le _,Nat.zero_le _,by rw[hT];exact hr.2.2.2.1,fun _ _ _=>⟨ad,?_,by rw[hT];exact k2⟩⟩;rw[hTh,q1,<-FB (w:=w0) p2];exact k1
   |val cO=>rw[ai.ar (by rw[hd];exact(his i cO).1),hd,hT];exact pL ((σ i).av,tv V0 a i) (List.mem_map.2 ⟨i,cO,rfl⟩)
  ·obtain⟨t,h1,h2⟩:=ym h;have jm:=Cells.get t fb rfl;rw[gH,h2]at jm;obtain⟨z,z1,z2⟩:=jm;have FQ:(i,z)∈ps.toList.zip vs:=by
    refine List.mem_of_getElem? (i:=t) ?_;rw[List.getElem?_zip_eq_some];exact⟨h1,z1⟩
   have Ee:=hpN i (List.mem_of_getElem? h1);have hT:tv V a1 i=z:=by rw[sw _ _ (.inl (by omega)),O4];exact Gp _ _ _ _ (by rw[TV];exact L4) FQ (by rw[ha];exact Ee)
   rw[ai.ar (by rw[cQ];exact z2.plain),cQ,hT];exact z2
  have:=J0 h;omega
 ·split
  ·rename_i h;exact AG _ h.2
  simp
 ·split at hb
  ·rename_i h;split
   ·rename_i h';exact hdj _ _ h.2 h'.2 (by omega) c hb
   simp
  simp at hb
 split at hb
 ·rename_i h;have:=dz _ h.2 c hb;exact⟨.inr (hg _ h.2 c hb),this⟩
 simp at hb
end
section
variable{R:Option Nat->Prop}{P:Program}{N:Nat}{F:St->Prop}{k:List It}{l:aP}
def Ag(l:aP):List Nat->List (Nat×Nat)
 |[]=>[]
 |t::ts=>match gt l t with
  |⟨_,a,_⟩=>(t,a)::Ag l ts
theorem GZ(l:aP):∀ts:List Nat,Ag l ts=ts.map fun t=>(t,(dn l t).g1)
 |[]=>rfl
 |t::ts=>by simp only[Ag,List.map_cons,GZ l ts,wL]
def JD(d:Nat):List Nat->Bool
 |[]=>true
 |t::ts=>b8 (ne' t d) (JD d ts)
theorem BJ{d:Nat}:∀{ts:List Nat},JD d ts=true->ts.all (fun t=>t !=d)=true
 |[],_=>rfl
 |t::ts,h=>by simp only[JD,aH]at h;simp only[List.all_cons,Bool.and_eq_true];exact⟨by simpa using ne_iff.1 h.1,BJ h.2⟩
def Od(l:aP)(d:Nat)(g:FuncId)(first aW:List Operand):Option (aP×List Nat):=
 match first with
 |[]=>(slotsOf aW).bind fun ts=>(fg (JD d ts)).bind fun _=>E0 l d (.dY g (Ag l ts)) fun l'=>some (l',[d])
 |_::_=>none
theorem NC{all:Array Oper}{d:Nat}{gf:FuncId}{first aW:Array Operand}{ty:TypeId}{pos:String}{cF:Array Edge}{g:Option (Nat×Bool)}{K:List Mv->St->Prop}{l':aP}{ks:List Nat}
 (hg:cK l all.toList g=some true)(h:Od l d gf first.toList aW.toList=some (l',ks))(hk:∀ms,aN ms=ks->K ms (dn l')):
 Hj P all ⟨some d,.makeFunc (.func gf) first aW,ty,pos,cF,g⟩ (dn l) K:=by
 unfold Od at h;split at h<;>try(simp at h;done)
 rename_i hf;simp only[Option.bind_eq_some_iff,bd,kD,Option.some.injEq,Prod.mk.injEq]at h;obtain⟨ts,h1,_,h2,rfl,rfl⟩:=h;refine⟨.mkc,[.put d (.dY gf (Ag l ts))],[],dn (Lh l d (.dY gf (Ag l ts))),?_,by simp,?_,hk _ rfl⟩
 ·unfold dN;rw[dc (o:=⟨some d,.makeFunc (.func gf) first aW,ty,pos,cF,g⟩) hg];simp only[kl,hf,h1,BJ h2,if_true,GZ]
 have:=ja l d (.dY gf (Ag l ts));simp only[Mv.runs,Mv.run];rw[<-this];rfl
theorem abl{all:Array Oper}{rest:List Oper}{d:Nat}{gf:FuncId}{first aW:Array Operand}{ty:TypeId}{pos:String}{cF:Array Edge}{g:Option (Nat×Bool)}{l':aP}{ks:List Nat}
 (hg:cK l all.toList g=some true)(h:Od l d gf first.toList aW.toList=some (l',ks))(hk:AK R P N F (.ops all rest::k) l'):
 AK R P N F (.ops all (⟨some d,.makeFunc (.func gf) first aW,ty,pos,cF,g⟩::rest)::k) l:=by
 show rp P _ _ _ _;rw[jJ];exact NC hg h fun ms _=>hk
def GX(l:aP):List (Nat×Nat)->Option (List SR)
 |[]=>some []
 |(t,a)::q=>match gt l t with
  |⟨v,g1,g2⟩=>(fg (b8 (Nat.ble (t+1) 1000000) (b8 v.plain (Nat.beq g1 a)))).bind fun _=>(GX l q).bind fun xs=>some (⟨some t,⟨v,g1,g2⟩,⟨.dead,0,0⟩⟩::xs)
theorem Af:∀{aW:List (Nat×Nat)}{xs:List SR},GX l aW=some xs->aW.all (fun q=>decide (q.1<1000000)&&(dn l q.1).av.plain&&(dn l q.1).g1==q.2)=true/\(aW.map fun q=>resolve (dn l) (.tmp q.1))=xs.map SR.den
 |[],xs,h=>by simp only[GX,Option.some.injEq]at h;subst h;exact⟨rfl,rfl⟩
 |(t,a)::q,xs,h=>by
  simp only[GX,Option.bind_eq_some_iff,bd,aH,beq_iff,Option.some.injEq]at h;obtain⟨_,⟨h1,h2,h3⟩,ys,h4,rfl⟩:=h;obtain⟨k1,k2⟩:=Af h4;have hp:(dn l t).av.plain=true:=by rw[cQ,cH];exact h2
  constructor
  ·simp only[List.all_cons,Bool.and_eq_true,decide_eq_true_eq,beq_iff_eq];exact⟨⟨⟨Nat.le_of_ble_eq_true h1,hp⟩,by rw[wL];exact h3⟩,k1⟩
  simp only[List.map_cons,k2,List.cons.injEq,and_true];have:bo.of (dn l) t=⟨some t,dn l t,.none⟩:=by unfold bo.of;cases hv:(dn l t).av<;>rw[hv]at hp<;>first|rfl|(simp[AV.plain]at hp)
  show bo.of (dn l) t=_;rw[this];rfl
def y9(l:aP)(f:Operand)(aas:List Operand):Option jG:=
 match f with
 |.tmp t=>match(gt l t).v with
  |.dY g aW=>(ir l aas).bind fun xs=>(GX l aW).bind fun cs=>match cat xs cs with
   |zs=>match de [] zs with
    |R=>(Aq R zs).bind fun ys=>(fg (Nat.ble (len ys) 1000000)).bind fun _=>some ⟨g,ys,R⟩
  |_=>none
 |_=>none
theorem NF{all:Array Oper}{dst:Option Nat}{f:Operand}{aas ts:Array _}{ty:TypeId}{pos:String}{cF:Array Edge}{g:Option (Nat×Bool)}{K:List Mv->St->Prop}{h:jG}{out:List SV}{r:SV}{l':aP}{ks:List Nat}
 (hg:cK l all.toList g=some true)(hh:y9 l f aas.toList=some h)(hs:jH P h.g (jo h.R) h.aas out r)(ht:fL l dst h.R out r=some (l',ks))(hk:∀ms,aN ms=ks->K ms (dn l')):
 Hj P all ⟨dst,.call ⟨.value f,aas,ts⟩,ty,pos,cF,g⟩ (dn l) K:=by
 unfold y9 at hh;split at hh<;>try(simp at hh;done)
 rename_i t;split at hh<;>try(simp at hh;done)
 rename_i gf aW hv;simp only[Option.bind_eq_some_iff,bd,Option.some.injEq]at hh;obtain⟨xs,h1,cs,h2,ys,h3,_,h4,rfl⟩:=hh;obtain⟨c1,c2⟩:=Af h2;have bQ:(dn l t).av=.dY gf aW:=by rw[cQ,hv];rfl
 have O1:(aas.toList.map (resolve (dn l))++aW.map fun q=>resolve (dn l) (.tmp q.1))=(cat xs cs).map SR.den:=by rw[dF l h1,c2,ee,List.map_append]
 simp only[fL]at ht;split at ht<;>try(simp at ht;done)
 rename_i hb;simp only[aH,beq_iff,not_iff]at hb;obtain⟨b1,b2,b3,b4,b5⟩:=hb;have e1:cL [] ((cat xs cs).map SR.den)=gX (de [] (cat xs cs)):=js [] _;have e2:oS (gX (de [] (cat xs cs))) ((cat xs cs).map SR.den)=some (an ys):=qH h3;have F5:Ai.rr dst (resolve (dn l) (.func gf)) ((cat xs cs).map SR.den) (an out) r.den=some (cw dst r.den [.back (mc (gX (de [] (cat xs cs))) (an out))],[.refs gf (an (jo (de [] (cat xs cs)))) (an ys) (an out) r.den]):=by
  unfold Ai.rr;have hf:(resolve (dn l) (.func gf)).cont=some (.fn (.func gf) [] []):=rfl;rw[hf];simp only[bG,Bool.and_self,if_true,e1,e2,sC];rw[if_pos]
  ·simp
  simp only[fF _ b2,fF _ b3,cH,b4,s7 _ _ b5,zT,bt,Bool.not_false,Bool.and_self,Bool.and_true,Bool.true_and,Bool.and_eq_true,decide_eq_true_eq];have:=Nat.le_of_ble_eq_true h4;simp only[dA]at this b1;exact⟨b1,by simpa using this⟩
 have kr:Mv.runs (dn l) (cw dst r.den [.back (mc (gX (de [] (cat xs cs))) (an out))])=some (dn l')/\aN (cw dst r.den [.back (mc (gX (de [] (cat xs cs))) (an out))])=ks:=by
  cases dst with
  |none=>simp only[Option.some.injEq,Prod.mk.injEq]at ht;obtain⟨rfl,rfl⟩:=ht;exact⟨by simp only[cw,Mv.runs,Mv.run,gO],by simp only[cw,aN,Mv.keys,List.append_nil];exact lS _ _ b1⟩
  |some d=>simp only[eE,Option.some.injEq,Prod.mk.injEq]at ht;obtain⟨rfl,rfl⟩:=ht;exact⟨by simp only[cw,List.cons_append,List.nil_append,Mv.runs,Mv.run,gO,gm],by simp only[cw,List.cons_append,List.nil_append,aN,Mv.keys,List.append_nil,ee (Ml _)];rw[lS _ _ b1]⟩
 refine⟨.dY (an out) r.den,_,[.refs gf (an (jo (de [] (cat xs cs)))) (an ys) (an out) r.den],dn l',?_,?_,kr.1,hk _ kr.2⟩
 ·unfold dN;rw[dc (o:=⟨dst,.call ⟨.value (.tmp t),aas,ts⟩,ty,pos,cF,g⟩) hg];simp only[kl,bQ];rw[if_pos c1,O1];exact F5
 simp only[List.mem_singleton,forall_eq,Ob.ok];exact hs
theorem adh{all:Array Oper}{rest:List Oper}{dst:Option Nat}{f:Operand}{aas ts:Array _}{ty:TypeId}{pos:String}{cF:Array Edge}{g:Option (Nat×Bool)}{h:jG}{out:List SV}{r:SV}{l':aP}{ks:List Nat}
 (hg:cK l all.toList g=some true)(hh:y9 l f aas.toList=some h)(hs:jH P h.g (jo h.R) h.aas out r)(ht:fL l dst h.R out r=some (l',ks))(hk:AK R P N F (.ops all rest::k) l'):
 AK R P N F (.ops all (⟨dst,.call ⟨.value f,aas,ts⟩,ty,pos,cF,g⟩::rest)::k) l:=by
 show rp P _ _ _ _;rw[jJ];exact NF hg hh hs ht fun ms _=>hk
def Dr(l:aP)(m x:Operand):Option ((Obj->Prop)×SV):=
 (da l m).bind fun m=>(cz m).bind fun(ob,v)=>match ob with
   |[]=>match v with
    |.mp K=>(da l x).bind fun x=>(cz x).bind fun(c9,y)=>match c9 with
     |[]=>(fg y.az).bind fun _=>some (K,y)
     |_::_=>none
    |_=>none
   |_::_=>none
theorem US{all:Array Oper}{d:Nat}{t:TypeId}{m x:Operand}{MQ:Bool}{ty:TypeId}{pos:String}{cF:Array Edge}{g:Option (Nat×Bool)}{K:List Mv->St->Prop}{h:(Obj->Prop)×SV}{y:SV}{l':aP}{ks:List Nat}
 (hg:cK l all.toList g=some true)(hh:Dr l m x=some h)(hy:y.az=true)(hs:Looks P t MQ h.1 h.2.den y.den)(ht:pF l [] d y (fun l'=>some (l',[d]))=some (l',ks))(hk:∀ms,aN ms=ks->K ms (dn l')):
 Hj P all ⟨some d,.lookup t m x MQ,ty,pos,cF,g⟩ (dn l) K:=by
 simp only[Dr,Option.bind_eq_some_iff,Prod.exists]at hh;obtain⟨xm,h1,ob,v,h2,h3⟩:=hh;split at h3<;>try(simp at h3;done)
 split at h3<;>try(simp at h3;done)
 rename_i K0;simp only[Option.bind_eq_some_iff,Prod.exists]at h3;obtain⟨xx,h4,c9,v',h5,h6⟩:=h3;split at h6<;>try(simp at h6;done)
 simp only[Option.bind_eq_some_iff,bd,Option.some.injEq]at h6;obtain⟨_,h7,rfl⟩:=h6;simp only[eE,Option.some.injEq,Prod.mk.injEq]at ht;obtain⟨rfl,rfl⟩:=ht;refine⟨.Qw y.den,cw (some d) y.den [],[.Qw t MQ K0 v'.den y.den],dn (JE l [] d y),?_,?_,?_,hk _ (by simp[cw,aN,Mv.keys])⟩
 ·unfold dN;rw[dc (o:=⟨some d,.lookup t m x MQ,ty,pos,cF,g⟩) hg];have e1:(resolve (dn l) m).cont=some (.mp K0):=by rw[cD h1];exact aw h2 trivial
  have e2:(resolve (dn l) x).cont=some v'.den:=by rw[cD h4];exact aw h5 trivial
  simp only[kl,e1,e2,bX,h7,hy,Bool.and_self,if_true]
 ·simp only[List.mem_singleton,forall_eq,Ob.ok];exact hs
 have:=gm l [] d y;simp only[cw,List.nil_append,iJ];rw[this]
theorem abm{all:Array Oper}{mm:List Nat}{acc:List (List Nat×List Nat)}{rest:List Oper}{d:Nat}{t:TypeId}{m x:Operand}{MQ:Bool}{ty:TypeId}{pos:String}{cF:Array Edge}{g:Option (Nat×Bool)}{h:(Obj->Prop)×SV}{l':aP}{ks:List Nat}(y:SV)
 (hg:cK l all.toList g=some true)(hh:Dr l m x=some h)(hy:y.az=true)(hs:Looks P t MQ h.1 h.2.den y.den)(ht:pF l [] d y (fun l'=>some (l',[d]))=some (l',ks))
 (hk:AK R P N F (.o4 all mm rest ((gW (dn l) all ⟨some d,.lookup t m x MQ,ty,pos,cF,g⟩,ks)::acc)::k) l'):
 AK R P N F (.o4 all mm (⟨some d,.lookup t m x MQ,ty,pos,cF,g⟩::rest) acc::k) l:=by
 show rt P _ _ _ _ _;rw[nX];exact US hg hh hy hs ht fun ms kr=>by rw[kr];exact hk
end
section
variable{R:Option Nat->Prop}{P:Program}{N:Nat}{F:St->Prop}{k:List It}{l:aP}
theorem kM.fit{V:Hid}{w0 w:World}{S0:Nat->Prop}{a:Act}{l':List (Nat×SV)}(hf:rA l l')(h:kM N V w0 S0 (dn l) a w):kM N V w0 S0 (dn (sl l')) a w:=by
 obtain⟨S,F,ds,hc,hN,ig,jl,gw,cU,hm0,hm⟩:=h;have hi:Inv N (V.Qf F a.defers) w S (dn l) a w:=⟨S,F,⟨hc.rel,hc.nodup,hc.cx,fun i b hb=>⟨.inr ⟨i,hb⟩,(hc.own i b hb).2⟩,hc.shr⟩,hN,rfl,fun _ h=>h,fun _ h=>.inl h,jF.refl _ _⟩
 obtain⟨S',F',bT,uh,-,k1,k2,-⟩:=Dj hf hi;have hFm:∀i b,b∈F' i->∃j,b∈F j:=fun i b hb=>by
  have:=bT.own i b hb;rcases this.1 with h|h
  ·exact absurd this.2.1 (Nat.not_lt.2 h)
  exact h
 have hSm:∀b,S' b->S b\/∃j,b∈F j:=fun b hb=>by
  rcases k2 b hb with h|h
  ·exact .inl h
  rcases h with h|h
  ·exact absurd (bT.shr b hb) (Nat.not_lt.2 h)
  exact .inr h
 refine⟨S',F',ds,⟨bT.rel,bT.nodup,bT.cx,fun i b hb=>?_,bT.shr⟩,hN,ig,fun b hb=>k1 b (jl b hb),fun b hb=>?_,cU,hm0,fun d hd=>?_⟩
 ·obtain⟨j,hj⟩:=hFm i b hb;exact⟨(hc.own j b hj).1,(bT.own i b hb).2⟩
 ·rcases hSm b hb with h|⟨j,hj⟩
  ·exact gw b h
  exact .inr (hc.own j b hj).1
 obtain⟨D,e1,e2,e3,e4,e5⟩:=hm d hd;refine⟨D,e1,e2,e3,fun h=>?_,fun i h=>?_⟩
 ·rcases hSm D h with h|⟨j,hj⟩
  ·exact e4 h
  exact e5 j hj
 obtain⟨j,hj⟩:=hFm i D h;exact e5 j hj
theorem Te{c:Code}{Q Q':Exit->St->Prop}{σ:St}(h:AW R P N c Q σ)(hq:∀e σ',Q e σ'->∃Hq,Q' e Hq/\∀V w0 S0 a w,kM N V w0 S0 σ' a w->kM N V w0 S0 Hq a w):AW R P N c Q' σ:=by intro V w0 S0 a w hR hi;refine wpIn_mono (h V w0 S0 a w hR hi) ?_;rintro e a' w'⟨σ',h1,h2⟩;obtain⟨Hq,h3,h4⟩:=hq e σ' h1;exact⟨Hq,h3,h4 _ _ _ _ _ h2⟩
def HQ:List Nat->Nat->Option Nat
 |[],_=>none
 |r::ex,i=>match Nat.beq r i with
  |true=>some 0
  |false=>match HQ ex i with
   |some k=>some (k+1)
   |none=>none
theorem qp:∀{ex:List Nat}{i j:Nat},HQ ex i=some j->ex[j]?=some i
 |[],i,j,h=>by simp[HQ]at h
 |r::ex,i,j,h=>by
  simp only[HQ]at h;split at h
  ·rename_i e;simp only[Option.some.injEq]at h;subst h;rw[Nat.eq_of_beq_eq_true e];rfl
  split at h<;>try(simp at h;done)
  rename_i k hk;simp only[Option.some.injEq]at h;subst h;simpa using qp hk
def M8(l:aP)(ex:List Nat)(i:Nat):Option (SV×Bool):=
 match HQ ex i with
 |some j=>some (.bg (1000000+j) 0 0 [],false)
 |none=>match(gt l i).v with
  |.bg r g1 _ p=>match HQ ex r with
   |some j=>(fg (b8 (iP p) (Nat.beq (gt l r).g1 g1))).bind fun _=>some (.bg (1000000+j) 0 0 p,false)
   |none=>none
  |.ptr r g1 _ p=>match HQ ex r with
   |some j=>(fg (b8 (flat p) (Nat.beq (gt l r).g1 g1))).bind fun _=>some (.ptr (1000000+j) 0 0 p,false)
   |none=>none
  |v=>(fg (b8 v.plain v.az)).bind fun _=>some (v,true)
theorem Hw{ex:List Nat}{i:Nat}{v:SV}{t:Bool}(h:M8 l ex i=some (v,t)):(t=false->∀is,View (dn l) ex is i v.den)/\(t=true->(dn l i).av=v.den/\v.den.plain=true/\v.den.az=true):=by
 unfold M8 at h;split at h
 ·rename_i j hj;simp only[Option.some.injEq,Prod.mk.injEq]at h;obtain⟨rfl,rfl⟩:=h;exact⟨fun _ _=>.own (qp hj),fun h=>by simp at h⟩
 split at h
 ·rename_i r g1 g2 p hv;split at h<;>try(simp at h;done)
  rename_i j hj;simp only[Option.bind_eq_some_iff,bd,aH,beq_iff,Option.some.injEq,Prod.mk.injEq]at h;obtain⟨_,⟨h1,h2⟩,rfl,rfl⟩:=h;exact⟨fun _ _=>.bg (qp hj) (by rw[cQ,hv];rfl) h1 (by rw[wL];exact h2),fun h=>by simp at h⟩
 ·rename_i r g1 g2 p hv;split at h<;>try(simp at h;done)
  rename_i j hj;simp only[Option.bind_eq_some_iff,bd,aH,beq_iff,Option.some.injEq,Prod.mk.injEq]at h;obtain⟨_,⟨h1,h2⟩,rfl,rfl⟩:=h;exact⟨fun _ _=>.ptr (qp hj) (by rw[cQ,hv];rfl) h1 (by rw[wL];exact h2),fun h=>by simp at h⟩
 simp only[Option.bind_eq_some_iff,bd,aH,Option.some.injEq,Prod.mk.injEq]at h;obtain⟨_,⟨h1,h2⟩,rfl,rfl⟩:=h;exact⟨fun h=>by simp at h,fun _=>⟨by rw[cQ],by rw[cH];exact h1,by rw[bX];exact h2⟩⟩
def LG:List Nat->Nat->Bool
 |[],_=>false
 |r::q,i=>Bg (Nat.beq r i) (LG q i)
theorem yz:∀{q:List Nat}{i:Nat},LG q i=true↔i∈q
 |[],i=>by simp[LG]
 |r::q,i=>by simp only[LG,oE,beq_iff,List.mem_cons,yz (q:=q)];exact⟨fun h=>h.imp (fun e=>e.symm) id,fun h=>h.imp (fun e=>e.symm) id⟩
def xJ(l:aP)(ex ps:List Nat)(N:Nat):List Nat->Option (List (Nat×SV)×List Nat)
 |[]=>some ([],[])
 |i::q=>(fg (b8 (Nat.ble (i+1) N) (not' (LG ps i)))).bind fun _=>(M8 l ex i).bind fun(v,t)=>(xJ l ex ps N q).bind fun(vw,is)=>match t with
  |true=>some ((i,v)::vw,i::is)
  |false=>some ((i,v)::vw,is)
theorem View.more{σ:St}{ex is is':List Nat}{i:Nat}{v:AV}(h:View σ ex is i v)(hs:∀j∈is,j∈is'):View σ ex is' i v:=by
 cases h with
 |own h=>exact .own h
 |bg h h1 h2 h3=>exact .bg h h1 h2 h3
 |ptr h h1 h2 h3=>exact .ptr h h1 h2 h3
 |val h=>exact .val (hs _ h)
theorem vU{ex ps:List Nat}:∀{q:List Nat}{vw:List (Nat×SV)}{is:List Nat},xJ l ex ps N q=some (vw,is)->
 (∀i∈is,(dn l i).av.plain=true/\(dn l i).av.az=true)/\∀x∈vw,View (dn l) ex is x.1 x.2.den/\x.1<N/\x.1∉ps
 |[],vw,is,h=>by simp only[xJ,Option.some.injEq,Prod.mk.injEq]at h;obtain⟨rfl,rfl⟩:=h;simp
 |i::q,vw,is,h=>by
  simp only[xJ,Option.bind_eq_some_iff,bd,aH,not_iff,Prod.exists]at h;obtain⟨_,⟨h1,h2⟩,v,t,h3,vw',is',h4,h5⟩:=h;obtain⟨k1,k2⟩:=vU h4;obtain⟨m1,m2⟩:=Hw h3;have hn:i<N:=Nat.le_of_ble_eq_true h1;have hp:i∉ps:=fun hh=>by rw[yz.2 hh]at h2;simp at h2
  cases t with
  |true=>
   simp only[Option.some.injEq,Prod.mk.injEq]at h5;obtain⟨rfl,rfl⟩:=h5;obtain⟨e1,e2,e3⟩:=m2 rfl;refine⟨fun j hj=>?_,fun x hx=>?_⟩
   ·rcases List.mem_cons.1 hj with rfl|hj
    ·rw[e1];exact⟨e2,e3⟩
    exact k1 j hj
   rcases List.mem_cons.1 hx with rfl|hx
   ·exact⟨by dsimp only;rw[<-e1];exact .val (by simp),hn,hp⟩
   obtain⟨a1,a2,a3⟩:=k2 x hx;exact⟨a1.more fun j hj=>List.mem_cons_of_mem _ hj,a2,a3⟩
  |false=>
   simp only[Option.some.injEq,Prod.mk.injEq]at h5;obtain⟨rfl,rfl⟩:=h5;refine⟨k1,fun x hx=>?_⟩;rcases List.mem_cons.1 hx with rfl|hx
   ·exact⟨m1 rfl _,hn,hp⟩
   exact k2 x hx
def Fm:List Nat->Bool
 |[]=>true
 |i::q=>b8 (not' (LG q i)) (Fm q)
theorem rO:∀{q:List Nat},Fm q=true->q.Nodup
 |[],_=>List.nodup_nil
 |i::q,h=>by simp only[Fm,aH,not_iff]at h;exact List.nodup_cons.2 ⟨fun hh=>by rw[yz.2 hh]at h;simp at h,rO h.2⟩
def D2(N:Nat):List Nat->Bool
 |[]=>true
 |i::q=>b8 (Nat.ble (i+1) N) (D2 N q)
theorem wU:∀{q:List Nat},D2 N q=true->∀i∈q,i<N
 |[],_,i,hi=>by simp at hi
 |j::q,h,i,hi=>by
  simp only[D2,aH]at h;rcases List.mem_cons.1 hi with rfl|hi
  ·exact Nat.le_of_ble_eq_true h.1
  exact wU h.2 i hi
def xt(l:aP):List Nat->Bool
 |[]=>true
 |i::q=>b8 (gt l i).v.plain (xt l q)
theorem sU:∀{q:List Nat},xt l q=true->∀i∈q,(dn l i).av.plain=true
 |[],_,i,hi=>by simp at hi
 |j::q,h,i,hi=>by
  simp only[xt,aH]at h;rcases List.mem_cons.1 hi with rfl|hi
  ·rw[cQ,cH];exact h.1
  exact sU h.2 i hi
def Hc(l:aP):List Nat->List SV
 |[]=>[]
 |i::q=>(gt l i).v::Hc l q
theorem Cv:∀(q:List Nat)(j:Nat),j<q.length->(an (Hc l q))[j]?=some (dn l (q.getD j 0)).av
 |[],j,h=>by simp at h
 |i::q,j,h=>by
  cases j with
  |zero=>simp[Hc,an,cQ]
  |succ j=>simp only[Hc,an,List.getElem?_cons_succ,List.getD_cons_succ];exact Cv q j (by simpa using h)
def pC(l:aP):List Nat->List SV->aP
 |[],_=>l
 |r::ex,ys=>match ys with
  |[]=>(match gt l r with|⟨_,a,b⟩=>(r,⟨.dead,a,b+1⟩)::pC l ex [])
  |y::ys=>(match gt l r with|⟨_,a,b⟩=>(r,⟨y,a,b+1⟩)::pC l ex ys)
theorem oa:∀(ex:List Nat)(ys:List SV),mz (dn l) ex (an ys)=dn (pC l ex ys)
 |[],ys=>by funext i;simp[mz,idxOf,pC]
 |r::ex,ys=>by
  funext i
  cases ys with
  |nil=>
   simp only[pC,dC,fB,Cl.den,SV.den,<-oa ex []];unfold mz;simp only[idxOf,an];by_cases h:r=i
   ·subst h;simp[wL,Kk]
   have h':¬i=r:=fun e=>h e.symm;simp only[h,h',if_false];cases idxOf ex i<;>simp
  |cons y ys=>
   simp only[pC,dC,fB,Cl.den,<-oa ex ys];unfold mz;simp only[idxOf,an];by_cases h:r=i
   ·subst h;simp[wL,Kk]
   have h':¬i=r:=fun e=>h e.symm;simp only[h,h',if_false];cases idxOf ex i<;>simp
def Jh(y:List SV)(σ:St):Prop:=∃l l',σ=dn l/\rA l l'/\Dq (sl l') 1000000 y
def NB(y:List SV)(b:Bool)(pe:Option Code)(σ:St):Prop:=(b=true/\pe=none)/\Jh y σ
def RB(y:List SV)(b:Bool)(pe:Option Code)(σ:St):Prop:=(b=false/\pe=some .ret)/\Jh y σ
def Body(P:Program)(N:Nat)(body:Code)(y:List SV)(b:Bool)(pe:Option Code)(σ:St):Prop:=eh R1 P N (RB y b pe) [.code body,.inv (NB y b pe)] .normal σ
theorem pg{body:Code}{y:List SV}{b:Bool}{pe:Option Code}(h:AK R1 P N (RB y b pe) [.code body,.inv (NB y b pe)] l):AK R P N F [.inv (Body P N body y b pe)] l:=h
theorem wm{y:List SV}{b:Bool}{pe:Option Code}(l':List (Nat×SV))(hb:b=true)(hp:pe=none)(hf:AD l l')(hh:Dq (sl l') 1000000 y):AK R P N F (.inv (NB y b pe)::k) l:=⟨⟨hb,hp⟩,l,l',rfl,hf.Es,hh⟩
theorem XP{y:List SV}{b:Bool}{pe:Option Code}(l':List (Nat×SV))(hb:b=false)(hp:pe=some .ret)(hf:AD l l')(hh:Dq (sl l') 1000000 y):AK R P N (RB y b pe) [] l:=⟨⟨hb,hp⟩,l,l',rfl,hf.Es,hh⟩
theorem we{y:List SV}{σ:St}(h:Jh y σ):∃Hq,(∀(j:Nat)(v:AV),(an y)[j]?=some v->(Hq (1000000+j)).av=v/\v.plain=true)/\∀V w0 S0 a w,kM N V w0 S0 σ a w->kM N V w0 S0 Hq a w:=by obtain⟨l,l',rfl,h1,h2⟩:=h;exact⟨dn (sl l'),fun j v hv=>FU j h2 hv,fun V w0 S0 a w hi=>hi.fit h1⟩
theorem yc{g:Operand}{ps:Array Tmp}{assign body:Code}{gf:FuncId}{Wm:Func}{captured:List SV}{sr:SR}{vw:List (Nat×SV)}{is:List Nat}(ex vs:List Nat)(n m:Nat)(x y:Nat->List SV)(b:Nat->Bool)(pe:Nat->Option Code)(r:SV)
 (hN:Nat.ble N 1000000=true)(hgf:aE g=true)(hg:da l g=some sr)(V1:cz sr=some ([],.fn (.func gf) [] captured))(fS:eV captured=true)(hf:P.funcs[gf]?=some Wm)(hfb:Wm.body.isNone=false)(Sa:(Wm.name== "runtime.NumGoroutine")=false)(B6:Nat.ble (len captured+1) 999999=true)
 (hex:b8 (Fm ex) (xt l ex)=true)(L4:b8 (Fm ps.toList) (D2 N ps.toList)=true)(hvw:xJ l ex ps.toList N vs=some (vw,is))
 (hx:∀k,k<n->(x k).length=ps.size)(hy:∀k,(y k).length=ex.length)(hyp:∀k,k<n->∀z∈y k,z.plain=true)(BZ:y 0=Hc l ex)(VM:pe 0=none)(Dn:∀k,k<n->(∀j,j<k->b j=true)->pe k=none)
 (hit:∀(C:Value->Prop)(J:Nat->o7),(∀v,C v->∀k,k<n->(∀j,j<k->b j=true)->Yields P (J k) (J (k+1)) (an (x k)) (b k) v)->jH P gf [.abs (J 0)] (.pv C::captured) [.abs (J m)] r)
 (FZ:∀k,k<n->(∀j,j<k->b j=true)->AK R1 P N (fun _=>False) [.code assign,.inv (Body P N body (y (k+1)) (b k) (pe (k+1)))] (sl (cat vw (cat (oV ps.toList (x k)) (ot 1000000 (y k))))))
 (Y5:pe m=none->AK R0 P N F k (pC l ex (y m)))(Y4:∀c,pe m=some c->c=.ret/\AK R0 P N F [] (pC l ex (y m))):AK R0 P N F (.code (.rangeFunc g ps assign body)::k) l:=by
 rw[aH]at hex L4;obtain⟨v1,v2⟩:=vU hvw;have uh:=Nat.le_of_ble_eq_true hN;have Iu:(an captured).length<999999:=by rw[bt,<-dA];exact Nat.le_of_ble_eq_true B6
 refine P9 (σ:=dn l) (σB:=fun k=>dn (sl (cat vw (cat (oV ps.toList (x k)) (ot 1000000 (y k)))))) (captured:=an captured) (r:=r.den) (ex:=ex) (is:=is) (n:=n) (m:=m) (x:=fun k=>an (x k)) (y:=fun k=>an (y k)) (b:=b) (pe:=pe) uh hgf ?_ ?_ hf hfb Sa Iu (rO hex.1) (sU hex.2) v1 ?_ ?_ ?_ VM Dn ?_ ?_ ?_ ?_
 ·rw[cD hg];exact aw V1 trivial
 ·rw[cZ];exact fS
 ·intro k hk;rw[bt];exact hx k hk
 ·intro k;rw[bt];exact hy k
 ·intro j hj;show(an (y 0))[j]?=_;rw[BZ];exact Cv ex j hj
 ·exact fun C J h=>hit C J h
 ·intro V a w S B F' ha hc k hk;exact K3 uh ha hc v1 v2 (rO L4.1) (wU L4.2) (hx k hk) (hy k) (hyp k hk)
 ·intro k hk hb;have h1:AW R1 P N assign (eh R1 P N (fun _=>False) [.inv (Body P N body (y (k+1)) (b k) (pe (k+1)))]) (dn (sl (cat vw (cat (oV ps.toList (x k)) (ot 1000000 (y k)))))):=FZ k hk hb;refine gP h1 fun e σ1 he=>?_;cases e with
  |normal=>
   refine⟨rfl,?_⟩;have h2:AW R1 P N body (eh R1 P N (RB (y (k+1)) (b k) (pe (k+1))) [.inv (NB (y (k+1)) (b k) (pe (k+1)))]) σ1:=he;refine Te h2 fun e σ2 h3=>?_;cases e with
   |normal=>obtain⟨h4,h5⟩:NB (y (k+1)) (b k) (pe (k+1)) σ2:=h3;obtain⟨σ3,h6,h7⟩:=we (N:=N) h5;exact⟨σ3,⟨h4,h6⟩,h7⟩
   |ret=>obtain⟨h4,h5⟩:RB (y (k+1)) (b k) (pe (k+1)) σ2:=h3;obtain⟨σ3,h6,h7⟩:=we (N:=N) h5;exact⟨σ3,⟨h4,h6⟩,h7⟩
   |_=>exact(show False from h3).elim
  |_=>exact(show False from he).elim
 cases Yy:pe m with
 |none=>show eh R0 P N F k .normal (mz (dn l) ex (an (y m)));rw[oa];exact Y5 Yy
 |some c=>obtain⟨rfl,h2⟩:=Y4 c Yy;show eh R0 P N F k .ret (mz (dn l) ex (an (y m)));rw[oa,jX];exact h2
end
section
variable{R:Option Nat->Prop}{P:Program}{N:Nat}{F:St->Prop}{k:List It}{l:aP}
def kO(P:Program)(o:Oper)(H args H':List SV)(r:SV):Prop:=Qr P o (an H) (an args) (an H') r.den
theorem kO.same{o:Oper}{H H2 aas bs G G2:List SV}{r q:SV}(h:kO P o H aas G r)(e1:an H=an H2)(e2:an aas=an bs)(e3:an G=an G2)(e4:r.den=q.den):kO P o H2 bs G2 q:=by unfold kO at *;rw[<-e1,<-e2,<-e3,<-e4];exact h
structure vO where
 R:List (Nat×SV)
 aas:List SV
def uY(l:aP)(ops:List Operand):Option vO:=
 (ir l ops).bind fun xs=>match de [] xs with
   |R=>(Aq R xs).bind fun ys=>(fg (Nat.ble (len ys) 1000000)).bind fun _=>some ⟨R,ys⟩
theorem ND{all:Array Oper}{o:Oper}{K:List Mv->St->Prop}{h:vO}{out:List SV}{r:SV}{l':aP}{ks:List Nat}
 (hg:cK l all.toList o.guard=some true)(bj:oZ (dn l) o.op=true)(hh:uY l o.op.operands.toList=some h)(hs:kO P o (jo h.R) h.aas out r)(ht:fL l o.dst h.R out r=some (l',ks))(hk:∀ms,aN ms=ks->K ms (dn l')):
 Hj P all o (dn l) K:=by
 unfold uY at hh;simp only[Option.bind_eq_some_iff,bd,Option.some.injEq]at hh;obtain⟨xs,h1,ys,h3,_,h4,rfl⟩:=hh;simp only[fL]at ht;split at ht<;>try(simp at ht;done)
 rename_i hb;simp only[aH,beq_iff,not_iff]at hb;obtain⟨b1,b2,b3,b4,b5⟩:=hb;have e1:cL [] (xs.map SR.den)=gX (de [] xs):=js [] _;have e2:oS (gX (de [] xs)) (xs.map SR.den)=some (an ys):=qH h3;have F5:JH o.dst (xs.map SR.den) (an out) r.den=some (cw o.dst r.den [.back (mc (gX (de [] xs)) (an out))],an (jo (de [] xs)),an ys):=by unfold JH;simp only[e1,e2,sC];rw[if_pos];simp only[fF _ b2,fF _ b3,cH,b4,s7 _ _ b5,zT,bt,Bool.not_false,Bool.and_self,Bool.and_true,Bool.true_and,Bool.and_eq_true,decide_eq_true_eq];have:=Nat.le_of_ble_eq_true h4;simp only[dA]at this b1;exact⟨b1,by simpa using this⟩
 have kr:Mv.runs (dn l) (cw o.dst r.den [.back (mc (gX (de [] xs)) (an out))])=some (dn l')/\aN (cw o.dst r.den [.back (mc (gX (de [] xs)) (an out))])=ks:=by
  cases hd:o.dst with
  |none=>rw[hd]at ht;simp only[Option.some.injEq,Prod.mk.injEq]at ht;obtain⟨rfl,rfl⟩:=ht;exact⟨by simp only[cw,Mv.runs,Mv.run,gO],by simp only[cw,aN,Mv.keys,List.append_nil];exact lS _ _ b1⟩
  |some d=>rw[hd]at ht;simp only[eE,Option.some.injEq,Prod.mk.injEq]at ht;obtain⟨rfl,rfl⟩:=ht;exact⟨by simp only[cw,List.cons_append,List.nil_append,Mv.runs,Mv.run,gO,gm],by simp only[cw,List.cons_append,List.nil_append,aN,Mv.keys,List.append_nil,ee];rw[lS _ _ b1]⟩
 refine⟨.ext (an out) r.den,_,[.ext o (an (jo (de [] xs))) (an ys) (an out) r.den],dn l',?_,?_,kr.1,hk _ kr.2⟩
 ·unfold dN;rw[dc hg];simp only[kl,bj,if_true,dF l h1,F5]
 simp only[List.mem_singleton,forall_eq,Ob.ok];exact hs
theorem ac6{all:Array Oper}{rest:List Oper}{o:Oper}{h:vO}{out:List SV}{r:SV}{l':aP}{ks:List Nat}
 (hg:cK l all.toList o.guard=some true)(bj:oZ (dn l) o.op=true)(hh:uY l o.op.operands.toList=some h)(hs:kO P o (jo h.R) h.aas out r)(ht:fL l o.dst h.R out r=some (l',ks))(hk:AK R P N F (.ops all rest::k) l'):
 AK R P N F (.ops all (o::rest)::k) l:=by
 show rp P _ _ _ _;rw[jJ];exact ND hg bj hh hs ht fun ms _=>hk
theorem ac7{all:Array Oper}{mm:List Nat}{acc:List (List Nat×List Nat)}{rest:List Oper}{o:Oper}{h:vO}{out:List SV}{r:SV}{l':aP}{ks:List Nat}
 (hg:cK l all.toList o.guard=some true)(bj:oZ (dn l) o.op=true)(hh:uY l o.op.operands.toList=some h)(hs:kO P o (jo h.R) h.aas out r)(ht:fL l o.dst h.R out r=some (l',ks))
 (hk:AK R P N F (.o4 all mm rest ((gW (dn l) all o,ks)::acc)::k) l'):
 AK R P N F (.o4 all mm (o::rest) acc::k) l:=by
 show rt P _ _ _ _ _;rw[nX];exact ND hg bj hh hs ht fun ms kr=>by rw[kr];exact hk
end
theorem tM{w:World}{S:Nat->Prop}:∀{xs:List AV}{vs:List Value},vs.length=xs.length->(∀i(h:i<xs.length),Rel w S xs[i] (vs.getD i undef) [])->Cells w S false xs vs []
 |[],vs,h,_=>by simp at h;simp[Cells,h]
 |x::xs,[],h,_=>by simp at h
 |x::xs,v::vs,h,k=>by simp only[Cells];refine⟨v,vs,[],[],rfl,rfl,by simp,k 0 (by simp),tM (by simpa using h) fun i hi=>?_⟩;have:=k (i+1) (by simp;omega);simpa using this
theorem xD{P:Program}{o:Oper}{args:List SV}{r:SV}(fS:eV args=true)(gJ:qq args=true)(cB:args.length<1000000)
 (h:∀(w:World)(S:Nat->Prop)(vs:List Value),(∀b,S b->b<w.heap.size)->Cells w S false (an args) vs []->Ext P o vs.toArray w fun v w'=>∃S' F,Below w.heap.size w w'/\(∀b,S b->S' b)/\(∀b,S' b->S b\/w.heap.size<=b)/\(∀b,S' b->b<w'.heap.size)/\
   Rel w' S' r.den v F/\F.Nodup/\∀b∈F,w.heap.size<=b/\b<w'.heap.size/\¬S' b):
 kO P o [] args [] r:=by
 intro w S V vs F hl hc;rw[bt]at hl;have mL:Cells w S false (an args) vs []:=by
  refine tM (by rw[bt];exact hl) fun i hi=>?_;have cO:i<args.length:=by rwa[bt]at hi
  have hr:=hc.rel i;have hb:=gu (args:=an args) (H:=an []) (i:=i) (by omega);rw[List.getElem?_eq_getElem hi]at hb;have hp:(an args)[i].plain=true:=by have:=n5 (fF _ gJ) (List.getElem?_eq_getElem hi);exact this
  rw[ai.ar (by rw[hb];exact hp),hb]at hr;have hn:(an args)[i].az=true:=by
   have h2:bG (an args)=true:=by rw[cZ];exact fS
   have:∀(l:List AV),bG l=true->∀x∈l,x.az=true:=by
    intro l
    induction l with
    |nil=>intro _ x hx;simp at hx
    |cons y l ih=>
     intro hl x hx;simp only[bG,Bool.and_eq_true]at hl;rcases List.mem_cons.1 hx with rfl|hx
     ·exact hl.1
     exact ih hl.2 x hx
   exact this _ h2 _ (List.getElem_mem hi)
  have e:=Rel.az _ hr hn;have hr:Rel w S (an args)[i] (aS V vs i) (F i):=hr;rw[e]at hr;have hv:aS V vs i=vs.getD i undef:=by unfold aS;rw[if_pos (by omega)]
  rw[hv]at hr;exact hr
 refine Ext.mono ?_ (h w S vs hc.shr mL);rintro v w'⟨S',F',zb,hS1,hS2,hS3,eH,AG,hF⟩;have hpr:r.den.plain=true:=eH.plain;have cU:∀i,(both [r.den] (an []) i).av=if i=0 then r.den else .dead:=by
  intro i;by_cases hi:i<1000000
  ·rw[gu hi];cases i with
   |zero=>rfl
   |succ i=>simp
  obtain⟨j,rfl⟩:∃j,i=1000000+j:=⟨i-1000000,by omega⟩;rw[fW (by simp)];simp[an]
 refine⟨S',fun i=>if i=0 then F' else[],⟨zb.os,zb.tape,zb.output,zb.size,fun k hk _=>zb.block k hk⟩,hS1,fun b h=>(hS2 b h).imp id .inl,⟨fun i=>?_,fun i=>?_,fun i j fX b hb=>?_,fun i b hb=>?_,hS3⟩⟩
 ·rw[ai.ar (by rw[cU];split;exact hpr;rfl),cU];by_cases hi:i=0
  ·subst hi;simp only[if_true];have:aS V [v] 0=v:=rfl;rw[this];exact eH
  simp[hi,Rel]
 ·split
  ·exact AG
  simp
 ·split at hb
  ·rename_i hi;split
   ·rename_i hj;omega
   simp
  simp at hb
 split at hb
 ·have:=hF b hb;exact⟨.inl this.1,this.2⟩
 simp at hb
theorem IZ{P:Program}{o:Oper}{src dst e:TypeId}{x:Operand}(s:bw){u:TypeDesc}(bH:o.op=.convert src dst x)(hs:P.underlying src=some u)(hd:P.underlying dst=some (.slice e))(he:P.underlying e=some (.int .u8)):
 kO P o [] [.s s] [] (.ints .u8 false (s.map fun c=>(c.toNat:Int))):=by
 refine xD rfl rfl (by simp) ?_;intro w S vs hS hc ρ hρ;simp only[an,Cells]at hc;obtain⟨y,l',F1,F2,rfl,hF,_,hr,rfl,rfl⟩:=hc;simp only[SV.den,Rel]at hr;obtain⟨_,rfl,rfl⟩:=hr;have hx:ρ x=.string (bs s):=by rw[bH]at hρ;simpa[Op.operands]using hρ
 have bp:=Lib.run_convert_string_bytes (P:=P) w src dst e (bs s) hs hd he;refine⟨_,.slice (some ⟨w.heap.size,0,none⟩) (bs s).size (grownCap w (bs s).size 0 e),Lib.bytesWorld w e (bs s),?_,.inl rfl,fun b=>S b\/b=w.heap.size,[],?_,fun b h=>.inl h,fun b h=>h.imp id (fun h=>by omega),fun b h=>?_,?_,List.nodup_nil,by simp⟩
 ·simp only[execOp,bH,hx];simp[bp]
 ·refine⟨rfl,rfl,rfl,by rw[Lib.bytesWorld_size];omega,fun k hk=>Lib.bytesWorld_at_old w e (bs s) k hk⟩
 ·rw[Lib.bytesWorld_size];rcases h with h|h
  ·have:=hS b h;omega
  omega
 simp only[SV.den,fl,Rel];right;have hlen:(bs s).size=s.length:=rfl;have iB:=grownCap_ge w (bs s).size 0 e;refine⟨w.heap.size,0,_,_,_,by rw[List.length_map,List.length_map,hlen],.inr rfl,by unfold row?;rw[Lib.bytesWorld_at_new],?_,?_,trivial⟩
 ·rw[List.length_map,List.length_map,<-hlen];exact iB
 have hl:(((Lib.bytesCells w e (bs s)).toList.drop 0).take ((((s.map fun c=>(c.toNat:Int)).map fun a=>AV.v (.int .u8 a)).length*1)))=s.map fun c=>Value.int .u8 c.toNat:=by rw[List.drop_zero,Nat.mul_one,List.length_map,List.length_map];unfold Lib.bytesCells;rw[Array.toList_append,List.take_append_of_le_length (by simp[bs])];simp only[bs,Array.toList_map];exact List.take_of_length_le (by simp)
 rw[hl];have:∀t:bw,bU (Lib.bytesWorld w e (bs s)) (fun b=>S b\/b=w.heap.size) 1 ((t.map fun c=>(c.toNat:Int)).map fun a=>AV.v (.int .u8 a)) (t.map fun c=>Value.int .u8 c.toNat) []:=by
  intro t
  induction t with
  |nil=>simp[bU]
  |cons c t ih=>simp only[List.map_cons,bU];exact⟨.int .u8 c.toNat,_,[],[],rfl,rfl,rfl,by simp[Rel,scalar],ih⟩
 exact this s
theorem RD{P:Program}{o:Oper}{t rt:TypeId}{x:Operand}{ms:Array (String×TypeId)}(bH:o.op=.binOp .neq t x (.const .nilIface) rt)(hu:P.underlying t=some (.interface ms)):
 kO P o [] [.c .nilIface,.c .nilIface] [] (.b false):=by
 refine xD rfl rfl (by simp) ?_;intro w S vs hS hc ρ hρ;simp only[an,Cells]at hc;obtain⟨y,l',F1,F2,rfl,hF,_,hr,y2,l2,F3,F4,rfl,Ua,_,xA,rfl,rfl⟩:=hc;simp only[SV.den,Rel]at hr xA;obtain⟨_,rfl,rfl⟩:=hr;obtain⟨_,rfl,rfl⟩:=xA;rw[bH]at hρ;simp only[Op.operands,List.map_cons,List.map_nil,List.cons.injEq,and_true]at hρ;obtain⟨h1,h2⟩:=hρ;refine⟨_,.bool false,w,?_,.inl rfl,S,[],Below.refl _ _,fun _ h=>h,fun _ h=>.inl h,hS,by simp[SV.den,Rel,scalar],List.nodup_nil,by simp⟩;simp only[execOp,bH,h1,h2];have he:(Op.equalIn 10000 t Value.nilIface Value.nilIface).run P w=.ok true w:=by show(Op.equalIn (9999+1) t Value.nilIface Value.nilIface).run P w=_;unfold Op.equalIn;simp[run_underlying hu]
 simp[eqGuard,binOp,Op.equal,Op.maxDepth,he]
section
variable{P:Program}{w:World}{S:Nat->Prop}
theorem EO{ts:Array TypeId}{ty t e:TypeId}{ti:TI}(ht:ts[0]?=some t)(hu:P.underlying t=some (.slice e))(ga:bE P e=some ti){b off m1 c1 n2 c2 n:Nat}{a:Addr}{cs:Array Value}{us:List Value}
 (hr:row? w b=some (cs,(0,0)))(hn:Nat.min n2 m1=n)(Hk:us.length=n*ti.size)(abG:∀j v,us[j]?=some v->w.cell? (a.add j)=some v)(h1:∀u∈us,u.oneCell'=true)(lV:off+n*ti.size<=cs.size):
 (Builtin.copy_ ts ty #[.slice (some ⟨b,off,none⟩) m1 c1,.slice (some a) n2 c2]).run P w=.ok (.int .i64 n) (w.setRow b (cs.toList.take off++us++cs.toList.drop (off+n*ti.size)).toArray):=by
 have hh:∃e,w.heap[b]?=some (.cells cs e (0,0)):=by
  unfold row? at hr;split at hr
  ·rename_i cs' e fz he;simp only[Option.some.injEq,Prod.mk.injEq]at hr;obtain⟨rfl,rfl⟩:=hr;exact⟨e,he⟩
  simp at hr
 obtain⟨e0,he⟩:=hh;have bp:=run_storeCells_at P b off e0 us 0 cs w he (by simp[Hk];omega) h1;simp only[Nat.add_zero,Hk]at bp;have hf:=run_firstCells_some (P:=P) w ti.size n a n2 c2 us Hk abG;simp[Builtin.copy_,ht,run_underlying hu,cY ga,Builtin.lenOf,hn,hf,bp,goInt]
theorem setRow_other(b:Nat)(cs:Array Value){c:Nat}(h:c≠b):(w.setRow b cs).heap[c]?=w.heap[c]?:=by simp only[World.setRow];rw[Array.getElem?_modify,if_neg (by omega)]
theorem HJ{b:Nat}{cs:Array Value}(cs':Array Value)(hr:row? w b=some (cs,(0,0))):row? (w.setRow b cs') b=some (cs',(0,0)):=by
 have hh:∃e,w.heap[b]?=some (.cells cs e (0,0)):=by
  unfold row? at hr;split at hr
  ·rename_i cs' e fz he;simp only[Option.some.injEq,Prod.mk.injEq]at hr;obtain⟨rfl,rfl⟩:=hr;exact⟨e,he⟩
  simp at hr
 obtain⟨e0,he⟩:=hh;have:=setRow_heap w b cs cs' e0 (0,0) he;simp only[row?,this]
theorem xF(r x:AV):∀i,(both [r] [x] i).av=if i=0 then r else if i=1000000 then x else .dead:=by
 intro i;by_cases hi:i<1000000
 ·rw[gu hi];cases i with
  |zero=>rfl
  |succ i=>
   have:¬(i+1=1000000):=by omega
   simp[this]
 obtain⟨j,rfl⟩:∃j,i=1000000+j:=⟨i-1000000,by omega⟩;rw[fW (by simp)];cases j with
 |zero=>simp
 |succ j=>simp
theorem copied{V:Hid}{vs:List Value}{F:Nat->List Nat}{args:List AV}{sz:Nat}{X X':List AV}{b cap:Nat}{cs cs':Array Value}{n:Int}(ha:args.length<=1000000)(hc:aK S V.g (both args [.list .own sz X]) (aS V vs) w F)
 (hv:V.v 1000000=.slice (some ⟨b,0,none⟩) X.length cap)(hr:row? w b=some (cs,(0,0)))(hF:F 1000000=[b])(iB:X.length<=cap/\cap<=maxLen)(pL:cs'.size=cap*sz)(hlen:X'.length=X.length)
 (hE:bU (w.setRow b cs') S sz X' (cs'.toList.take (X.length*sz)) []):
 ∃S' F',qS V w w (w.setRow b cs')/\(∀b,S b->S' b)/\(∀b,S' b->S b\/bW V w b)/\aK S' (bW V w) (both [.v (.int .i64 n)] [.list .own sz X']) (aS V [.int .i64 n]) (w.setRow b cs') F':=by
 have dz:=hc.own 1000000 b (by rw[hF];simp);have ct:(w.setRow b cs').heap.size=w.heap.size:=by simp[World.setRow]
 refine⟨S,fun i=>if i=1000000 then[b]else[],⟨rfl,rfl,rfl,by rw[ct];omega,fun k hk hg=>setRow_other b cs' (fun e=>by subst e;exact hg dz.1)⟩,fun _ h=>h,fun _ h=>.inl h,
  ⟨fun i=>?_,fun i=>?_,fun i j fX c hb=>?_,fun i c hb=>?_,fun c h=>by rw[ct];exact hc.shr c h⟩⟩
 ·rw[ai.ar (by rw[xF];split;rfl;split<;>rfl),xF];by_cases h0:i=0
  ·subst h0;simp only[if_true,Rel];exact⟨rfl,rfl,rfl⟩
  by_cases h1:i=1000000
  ·subst h1;simp only[h0,if_false,if_true];have hT:aS V [.int .i64 n] 1000000=.slice (some ⟨b,0,none⟩) X'.length cap:=by
    unfold aS;rw[if_neg (by omega),hv,hlen]
   rw[hT];simp only[Rel];exact .inr ⟨b,cap,cs',[],rfl,HJ cs' hr,by rw[hlen];exact iB.1,iB.2,pL,by rw[hlen];exact hE,rfl⟩
  simp[h0,h1,Rel]
 ·split<;>simp
 ·split at hb
  ·rename_i hi;rw[if_neg (fun e=>fX (by omega))];simp
  simp at hb
 split at hb
 ·simp only[List.mem_singleton]at hb;subst hb;exact⟨.inr dz.1,by rw[ct];exact dz.2.1,dz.2.2⟩
 simp at hb
theorem Kh{sz off n cap:Nat}{X Y:List AV}{cs:Array Value}{us:List Value}{w':World}(hX:bU w' S sz X (cs.toList.take (X.length*sz)) [])(hY:bU w' S sz (Y.take n) us [])(hn:(Y.take n).length=n)(FQ:off+n<=X.length)(pL:cs.size=cap*sz)(iB:X.length<=cap):
 bU w' S sz (X.take off++Y.take n++X.drop (off+n)) ((cs.toList.take (off*sz)++us++cs.toList.drop (off*sz+n*sz)).take (X.length*sz)) []:=by
 have Hk:us.length=n*sz:=by have:=bU.length sz hY;rw[hn]at this;exact this
 have hc:cs.toList.length=cap*sz:=by simpa using pL
 have m1:X.length*sz<=cap*sz:=Nat.mul_le_mul_right _ iB;have m2:(off+n)*sz<=X.length*sz:=Nat.mul_le_mul_right _ FQ;have m3:off*sz+n*sz=(off+n)*sz:=(Nat.add_mul _ _ _).symm;have h1:=bU.sub sz 0 off hX (by omega);have h3:=bU.sub sz (off+n) (X.length-(off+n)) hX (by omega);simp only[List.drop_zero,Nat.zero_mul]at h1;rw[List.take_take,Nat.min_eq_left (by omega)]at h1;rw[List.take_of_length_le (l:=X.drop (off+n)) (by simp)]at h3;have e3:((cs.toList.take (X.length*sz)).drop ((off+n)*sz)).take ((X.length-(off+n))*sz)=(cs.toList.drop ((off+n)*sz)).take ((X.length-(off+n))*sz):=by rw[List.drop_take,List.take_take,Nat.min_eq_left];rw[Nat.sub_mul];exact Nat.le_refl _
 rw[e3]at h3;have e:(cs.toList.take (off*sz)++us++cs.toList.drop (off*sz+n*sz)).take (X.length*sz)=cs.toList.take (off*sz)++us++(cs.toList.drop ((off+n)*sz)).take ((X.length-(off+n))*sz):=by
  have hl:(cs.toList.take (off*sz)++us).length=(off+n)*sz:=by rw[List.length_append,List.length_take,Hk,hc,Nat.min_eq_left (by omega)];omega
  rw[List.take_append,List.take_of_length_le (by rw[hl];exact m2),hl,m3,Nat.sub_mul]
 rw[e];have:=(h1.append sz hY).append sz h3;simpa using this
theorem FR{V:Hid}{vs:List Value}{F:Nat->List Nat}{args:List AV}{sz:Nat}{X:List AV}(ha:args.length<=1000000)(hc:aK S V.g (both args [.list .own sz X]) (aS V vs) w F)(hX:X≠[])(fS:bG X=true):
 ∃b cap cs,V.v 1000000=.slice (some ⟨b,0,none⟩) X.length cap/\row? w b=some (cs,(0,0))/\F 1000000=[b]/\X.length<=cap/\cap<=maxLen/\cs.size=cap*sz/\bU w S sz X (cs.toList.take (X.length*sz)) []/\¬S b:=by
 have hr:=hc.rel 1000000;have hb:=fW (args:=args) (H:=[.list .own sz X]) ha 0;simp only[Nat.add_zero,List.getElem?_cons_zero]at hb;rw[ai.ar (by rw[hb];rfl),hb]at hr;have hv:aS V vs 1000000=V.v 1000000:=by unfold aS;rw[if_neg (by omega)]
 simp only[Rel]at hr;rw[hv]at hr;rcases hr with⟨h,-⟩|⟨b,cap,cs,F',h1,h2,h3,h4,h5,h6,h7⟩
 ·exact absurd h hX
 have hF':=bU.az sz h6 fS;subst hF';exact⟨b,cap,cs,h1,h2,h7,h3,h4,h5,h6,(hc.own 1000000 b (by rw[h7];simp)).2.2⟩
theorem Cf{o:Oper}{ts:Array TypeId}{d s:Operand}{ρ:Operand->Value}(ho:o.op=.call ⟨.builtin .copy,#[d,s],ts⟩){vs:List Value}(hρ:o.op.operands.toList.map ρ=vs){v:Value}{w':World}(h:∀x y,vs=[x,y]->(Builtin.copy_ ts o.type #[x,y]).run P w=.ok v w'):
 (execOp ρ o).run P w=.ok (.value v) w':=by
 have:=h (ρ d) (ρ s) (by rw[<-hρ,ho];simp[Op.operands,Call.operands]);simp[execOp,ho,Go.resolve,invoke,builtin,this]
theorem Jm{V:Hid}{vs:List Value}{F:Nat->List Nat}{args:List AV}{sz b cap n i so m:Nat}{X:List AV}(hi:i<1000000)(hc:aK S V.g (both args [.list .own sz X]) (aS V vs) w F)(hv:V.v 1000000=.slice (some ⟨b,0,none⟩) n cap)
 (ha:args[i]?=some (.bg 1000000 0 0 [.jI sz so m]))(Wd:args.length<=1000000)(hw:0<m/\so+m<=X.length):vs.getD i undef=.slice (some ⟨b,so*sz,none⟩) m (cap-so):=by
 have hvT:aS V vs 1000000=V.v 1000000:=by unfold aS;rw[if_neg (by omega)]
 have hs:=hc.rel i;have hb:=gu (args:=args) (H:=[.list .own sz X]) hi;rw[ha]at hb;simp only at hb;unfold ai at hs;rw[hb]at hs;simp only at hs;obtain⟨-,-,-,h⟩:=hs;obtain⟨L,k1,k2,-⟩:=h (I8 _).1 (.inr (I8 _).2) fun _=>by have cU:=fW (args:=args) (H:=[.list .own sz X]) Wd 0;simp only[Nat.add_zero,List.getElem?_cons_zero]at cU;rw[cU];simp only[a6];rw[if_pos ⟨trivial,hw⟩];exact⟨_,rfl⟩
 rw[hvT,hv]at k1;simp only[loc,step1,Go.Ai.bH,Option.bind_some,Option.some.injEq]at k1;subst k1;simp only[holds]at k2;have e:aS V vs i=vs.getD i undef:=by unfold aS;rw[if_pos hi]
 rw[e]at k2;rw[k2,Addr.add_lit];simp
theorem uj{V:Hid}{vs:List Value}{F:Nat->List Nat}{args:List AV}{i:Nat}{x:AV}(hi:i<1000000)(hc:aK S V.g (both args [x]) (aS V vs) w F)
 (ha:args[i]?=some (.bg 1000000 0 0 [])):vs.getD i undef=V.v 1000000:=by
 have hvT:aS V vs 1000000=V.v 1000000:=by unfold aS;rw[if_neg (by omega)]
 have hs:=hc.rel i;have hb:=gu (args:=args) (H:=[x]) hi;rw[ha]at hb;simp only at hb;unfold ai at hs;rw[hb]at hs;simp only at hs;obtain⟨-,-,-,h⟩:=hs;obtain⟨L,k1,k2,-⟩:=h (I8 _).1 (.inl rfl) fun h=>by simp[iP]at h
 simp only[loc,Option.some.injEq]at k1;subst k1;simp only[holds]at k2;have e:aS V vs i=vs.getD i undef:=by unfold aS;rw[if_pos hi]
 rw[e]at k2;rw[k2,hvT]
theorem KA{b off:Nat}{cs:Array Value}{fz:Nat×Nat}(hr:row? w b=some (cs,fz)){us:List Value}(h:∀j v,us[j]?=some v->cs.toList[off+j]?=some v)(j:Nat)(v:Value)(hj:us[j]?=some v):w.cell? ((⟨b,off,none⟩:Addr).add j)=some v:=by
 have hh:∃e,w.heap[b]?=some (.cells cs e fz):=by
  unfold row? at hr;split at hr
  ·rename_i cs' e fz he;simp only[Option.some.injEq,Prod.mk.injEq]at hr;obtain⟨rfl,rfl⟩:=hr;exact⟨e,he⟩
  simp at hr
 obtain⟨e,he⟩:=hh;rw[Addr.add_lit];simp only[World.cell?,he];have:=h j v hj;simpa using this
theorem Cn{o:Oper}{ts:Array TypeId}{t e:TypeId}{ti:TI}{d s:Operand}(ho:o.op=.call ⟨.builtin .copy,#[d,s],ts⟩)(ht:ts[0]?=some t)(hu:P.underlying t=some (.slice e))(ga:bE P e=some ti){sz:Nat}(ct:sz=ti.size)
 {X:List AV}(hX:X≠[])(fS:bG X=true)(FV:X.all (fits ti)=true){off m1 m2 n:Nat}(hn:Nat.min m2 m1=n)(h1:off+m1<=X.length)(h2:m2<=X.length)(g1:0<m1)(g2:0<m2):
 Qr P o [.list .own sz X] [.bg 1000000 0 0 [.jI sz off m1],.bg 1000000 0 0 [.jI sz 0 m2]] [.list .own sz (X.take off++X.take n++X.drop (off+n))] (.v (.int .i64 n)):=by
 intro w S V vs F hl hc ρ hρ;obtain⟨b,cap,cs,hv,hr,hF,iB,Iq,pL,hE,Zp⟩:=FR (by simp) hc hX fS;have hnm:n<=m1/\n<=m2:=by have h3:min m2 m1=n:=hn;omega
 obtain⟨x,y,rfl⟩:∃x y,vs=[x,y]:=by
  match vs,hl with
  |[x,y],_=>exact⟨x,y,rfl⟩
 have hx:x=.slice (some ⟨b,off*sz,none⟩) m1 (cap-off):=Jm (i:=0) (by omega) hc hv rfl (by simp) ⟨g1,h1⟩;have hy:y=.slice (some ⟨b,0*sz,none⟩) m2 (cap-0):=Jm (i:=1) (by omega) hc hv rfl (by simp) ⟨g2,by omega⟩;have B6:cs.toList.length=cap*sz:=by simpa using pL
 have q1:n*sz<=cap*sz:=Nat.mul_le_mul_right _ (by omega);have q2:(off+n)*sz<=cap*sz:=Nat.mul_le_mul_right _ (by omega);have q3:(off+n)*sz=off*sz+n*sz:=Nat.add_mul _ _ _;have q4:n*sz<=X.length*sz:=Nat.mul_le_mul_right _ (by omega);obtain⟨us,Hk⟩:∃us,us=cs.toList.take (n*sz):=⟨_,rfl⟩;have FO:us.length=n*sz:=by rw[Hk,List.length_take,B6];omega
 have Xz:bU w S sz (X.take n) us []:=by have:=bU.sub sz 0 n hE (by omega);simp only[List.drop_zero,Nat.zero_mul]at this;rw[List.take_take,Nat.min_eq_left q4]at this;rw[Hk];exact this
 have bp:=EO (P:=P) (w:=w) (ty:=o.type) ht hu ga (m1:=m1) (c1:=cap-off) (n2:=m2) (c2:=cap-0) (a:=⟨b,0*sz,none⟩) (off:=off*sz) (us:=us) hr hn (by rw[<-ct];exact FO) (by
  refine KA hr fun j v hj=>?_;rw[Hk]at hj;rw[List.getElem?_take]at hj;split at hj
  ·simpa using hj
  ·simp at hj) (by
  intro u hu';refine bU.one sz ct Xz ?_ u hu';rw[List.all_eq_true]at FV⊢;exact fun z hz=>FV z (List.mem_of_mem_take hz)) (by rw[<-ct];have:cs.size=cap*sz:=pL;omega)
 rw[<-ct]at bp;refine⟨_,.int .i64 n,_,Cf ho hρ (fun x' y' e=>?_),.inl rfl,copied (by simp) hc hv hr hF ⟨iB,Iq⟩ (cs':=(cs.toList.take (off*sz)++us++cs.toList.drop (off*sz+n*sz)).toArray) ?_ ?_ ?_⟩
 ·simp only[List.cons.injEq,and_true]at e;obtain⟨rfl,rfl⟩:=e;rw[hx,hy];exact bp
 ·simp only[List.size_toArray,List.length_append,List.length_take,List.length_drop,FO,B6];omega
 ·simp only[List.length_append,List.length_take,List.length_drop];omega
 have Mc:∀c,S c\/c∈([]:List Nat)->(w.setRow b (cs.toList.take (off*sz)++us++cs.toList.drop (off*sz+n*sz)).toArray).heap[c]?=w.heap[c]?:=by
  rintro c(h|h)
  ·exact setRow_other b _ (fun e=>Zp (e▸h))
  simp at h
 exact Kh (bU.frame sz _ hE Mc) (bU.frame sz _ Xz Mc) (by simp;omega) (by omega) pL iB
theorem Kp{o:Oper}{ts:Array TypeId}{t e:TypeId}{ti:TI}{d s:Operand}(ho:o.op=.call ⟨.builtin .copy,#[d,s],ts⟩)(ht:ts[0]?=some t)(hu:P.underlying t=some (.slice e))(ga:bE P e=some ti){sz:Nat}(ct:sz=ti.size)
 {X Y:List AV}(hX:X≠[])(fS:bG X=true)(hY:Y≠[])(FV:Y.all (fits ti)=true){n:Nat}(hn:Nat.min Y.length X.length=n):
 Qr P o [.list .own sz X] [.bg 1000000 0 0 [],.list .shr sz Y] [.list .own sz (Y.take n++X.drop n)] (.v (.int .i64 n)):=by
 intro w S V vs F hl hc ρ hρ;obtain⟨b,cap,cs,hv,hr,hF,iB,Iq,pL,hE,Zp⟩:=FR (by simp) hc hX fS;have hnm:n<=Y.length/\n<=X.length:=by have h3:min Y.length X.length=n:=hn;omega
 obtain⟨x,y,rfl⟩:∃x y,vs=[x,y]:=by
  match vs,hl with
  |[x,y],_=>exact⟨x,y,rfl⟩
 have hx:x=.slice (some ⟨b,0,none⟩) X.length cap:=(uj (i:=0) (by omega) hc rfl).trans hv;have hry:=hc.rel 1;have tg:=gu (args:=[.bg 1000000 0 0 [],.list .shr sz Y]) (H:=[.list .own sz X]) (i:=1) (by omega);simp only[List.getElem?_cons_succ,List.getElem?_cons_zero]at tg;rw[ai.ar (by rw[tg];rfl),tg]at hry;have hvy:aS V [x,y] 1=y:=rfl;simp only[Rel]at hry;rw[hvy]at hry;rcases hry with⟨h,-⟩|⟨b2,X3,ZP,cs2,fz2,h3,h4,h5,h6,h7,h8⟩
 ·exact absurd h hY
 have B6:cs.toList.length=cap*sz:=by simpa using pL
 have q1:n*sz<=cap*sz:=Nat.mul_le_mul_right _ (by omega);have q4:n*sz<=Y.length*sz:=Nat.mul_le_mul_right _ (by omega);obtain⟨us,Hk⟩:∃us,us=(cs2.toList.drop X3).take (n*sz):=⟨_,rfl⟩;have Xz:bU w S sz (Y.take n) us []:=by have:=bU.sub sz 0 n h7 (by omega);simp only[List.drop_zero,Nat.zero_mul]at this;rw[List.take_take,Nat.min_eq_left q4]at this;rw[Hk];exact this
 have FO:us.length=n*sz:=by have:=bU.length sz Xz;rw[this,List.length_take,Nat.min_eq_left hnm.1]
 have bp:=EO (P:=P) (w:=w) (ty:=o.type) ht hu ga (m1:=X.length) (c1:=cap) (n2:=Y.length) (c2:=ZP) (a:=⟨b2,X3,none⟩) (off:=0) (us:=us) hr hn (by rw[<-ct];exact FO) (by
  refine KA h5 fun j v hj=>?_;rw[Hk,List.getElem?_take]at hj;split at hj
  ·rw[List.getElem?_drop]at hj;exact hj
  ·simp at hj) (by
  intro u hu';refine bU.one sz ct Xz ?_ u hu';rw[List.all_eq_true]at FV⊢;exact fun z hz=>FV z (List.mem_of_mem_take hz)) (by rw[<-ct];have:cs.size=cap*sz:=pL;omega)
 rw[<-ct]at bp;have e0:Y.take n++X.drop n=X.take 0++Y.take n++X.drop (0+n):=by simp
 have e1:cs.toList.take 0++us++cs.toList.drop (0+n*sz)=cs.toList.take (0*sz)++us++cs.toList.drop (0*sz+n*sz):=by simp
 rw[e1]at bp;refine⟨_,.int .i64 n,_,Cf ho hρ (fun x' y' e=>?_),.inl rfl,copied (by simp) hc hv hr hF ⟨iB,Iq⟩ (cs':=(cs.toList.take (0*sz)++us++cs.toList.drop (0*sz+n*sz)).toArray) ?_ ?_ ?_⟩
 ·simp only[List.cons.injEq,and_true]at e;obtain⟨rfl,rfl⟩:=e;rw[hx,h3];exact bp
 ·simp only[List.size_toArray,List.length_append,List.length_take,List.length_drop,FO,B6];omega
 ·simp only[List.length_append,List.length_take,List.length_drop];omega
 have Mc:∀c,S c\/c∈([]:List Nat)->(w.setRow b (cs.toList.take (0*sz)++us++cs.toList.drop (0*sz+n*sz)).toArray).heap[c]?=w.heap[c]?:=by
  rintro c(h|h)
  ·exact setRow_other b _ (fun e=>Zp (e▸h))
  simp at h
 rw[e0];exact Kh (bU.frame sz _ hE Mc) (bU.frame sz _ Xz Mc) (by simp;omega) (by omega) pL iB
end
theorem lz{I:Machine->Prop}{P:Program}{m s t:Machine}(h:StepsIn I P m t)(hs:step P m=.next s)(cR:m≠t):StepsIn I P s t:=by
 cases h with
 |refl=>exact absurd rfl cR
 |head hI h1 h2=>rw[hs]at h1;cases h1;exact h2
theorem rX{id:Nat}:∀{k k':List Item},exitTo id k=some k'->k'.length<=k.length
 |[],k',h=>by simp[exitTo]at h
 |x::k,k',h=>by
  cases x with
  |inBlock OI=>
   simp only[exitTo]at h;split at h
   ·simp only[Option.some.injEq]at h;subst h;simp
   have:=rX h;simp only[List.length_cons];omega
  |_=>simp only[exitTo]at h;have:=rX h;simp only[List.length_cons];omega
def UH:Exit->Bool
 |.normal|.exit _|.ret=>true
 |_=>false
def X7(Q:Exit->St->Prop)(K:St->Prop):Exit->St->Prop
 |.normal,σ=>K σ
 |e,σ=>Q e σ
section
variable{R:Option Nat->Prop}{P:Program}{N:Nat}{F:St->Prop}{k:List It}{l:aP}{σ:St}
theorem MI{c:Code}{Q:Exit->St->Prop}(ht:∀e σ,Q e σ->UH e=true)(h:AW R P N c (X7 Q fun σ'=>AW R P N (.loop c) Q σ') σ):AW R P N (.loop c) Q σ:=by
 intro V w0 S0 a w hR hi b k cs Xd hb hr;obtain⟨e,a₁,w₁,⟨σ₁,hq,nz⟩,me⟩:=h V w0 S0 a w hR hi b (.inLoop c::k) cs Xd hb hr;have first:∀{e a' w'},ArrivesIn (Machine.fenced P (FW V.rd)) P (lone (b.atR a (.code c::.inLoop c::k)) cs w) b k cs e a' w'->ArrivesIn (Machine.fenced P (FW V.rd)) P (lone (b.atR a (.code (.loop c)::k)) cs w) b k cs e a' w':=fun h=>.of_steps (.one (fenced_calm hb hr rfl) stepR_loop) h
 cases e with
 |normal=>
  obtain⟨e₂,a₂,w₂,⟨σ₂,JV,YV⟩,ou⟩:=AW.x (hq:AW R P N (.loop c) Q σ₁) hR nz b k cs Xd hb hr;refine⟨e₂,a₂,w₂,⟨σ₂,JV,YV⟩,first (.of_steps me (.of_steps (.one (fenced_calm hb hr rfl) stepR_inLoop) ?_))⟩;have ny:step P (lone (b.atR a₁ (.code (.loop c)::k)) cs w₁)=.next (lone (b.atR a₁ (.code c::.inLoop c::k)) cs w₁):=stepR_loop;have hlen:∀{k':List Item}{a':Act}{w':World},lone (b.atR a₁ (.code (.loop c)::k)) cs w₁=lone (b.atR a' k') cs w'->.code (.loop c)::k=k':=by intro k' a' w' hh;simp only[lone,Frame.atR,Machine.mk.injEq,Array.mk.injEq,List.cons.injEq,Goroutine.mk.injEq,Frame.mk.injEq]at hh;exact hh.2.1.1.1.2.2.1
  have tm:=ht _ _ JV;cases e₂ with
  |normal=>refine lz ou ny fun hh=>?_;have:=congrArg List.length (hlen hh);simp at this
  |exit id=>
   refine⟨fun k' qO=>lz (ou.1 k' qO) ny fun hh=>?_,fun h1 h2=>?_⟩
   ·have e1:=congrArg List.length (hlen hh);have e2:=rX qO;simp at e1;omega
   obtain⟨k₁,h3,h4⟩:=ou.2 h1 h2;refine⟨k₁,h3,lz h4 ny fun hh=>?_⟩;have:=hlen hh;simp at this
  |ret=>
   refine⟨fun h1=>?_,fun h1=>?_⟩
   ·obtain⟨todo,h4⟩:=ou.1 h1;refine⟨todo,lz h4 ny fun hh=>?_⟩;simp[lone,Frame.atR]at hh
   obtain⟨k₁,h4⟩:=ou.2 h1;refine⟨k₁,lz h4 ny fun hh=>?_⟩;have:=hlen hh;simp at this
  |_=>simp[UH]at tm
 |exit id=>exact⟨_,a₁,w₁,⟨σ₁,hq,nz⟩,first (.pass (x:=.inLoop c) rfl (fun _ _=>.inl (by simp)) me)⟩
 |goto l=>exact⟨_,a₁,w₁,⟨σ₁,hq,nz⟩,first (.pass (x:=.inLoop c) rfl (fun _ _=>.inl (by simp)) me)⟩
 |ret=>exact⟨_,a₁,w₁,⟨σ₁,hq,nz⟩,first (.pass (x:=.inLoop c) rfl (fun _ _=>.inl (by simp)) me)⟩
 |panic ch=>exact⟨_,a₁,w₁,⟨σ₁,hq,nz⟩,first (.pass (x:=.inLoop c) rfl (fun _ _=>.inl (by simp)) me)⟩
 |outgrown=>exact⟨_,a₁,w₁,⟨σ₁,hq,nz⟩,first (.pass (x:=.inLoop c) rfl (fun _ _=>.inl (by simp)) me)⟩
theorem ju:∀{k:List It}{e:Exit}{σ:St},eh R P N F k e σ->UH e=true
 |[],e,σ,h=>by cases e<;>first|rfl|exact h.elim
 |.code c::k,e,σ,h=>by cases e<;>first|rfl|exact ju (k:=k) h
 |.iu id::k,e,σ,h=>by cases e<;>first|rfl|exact ju (k:=k) h
 |.UO::k,e,σ,h=>by cases e<;>first|rfl|exact h.elim|exact ju (k:=k) h
 |.ops all rest::k,e,σ,h=>by cases e<;>first|rfl|exact ju (k:=k) h
 |.o4 all mm rest acc::k,e,σ,h=>by cases e<;>first|rfl|exact ju (k:=k) h
 |.inv I::k,e,σ,h=>by cases e<;>first|rfl|exact ju (k:=k) h
theorem fw{c:Code}(h:AK R P N F (.code c::.code (.loop c)::k) l):AK R P N F (.code (.loop c)::k) l:=by show AW R P N (.loop c) (eh R P N F k) (dn l);refine MI (fun e σ h=>ju h) (gP (h:AW R P N c (eh R P N F (.code (.loop c)::k)) (dn l)) fun e σ' h=>?_);cases e<;>exact h
end
def DW:List Pd->Bool
 |[]=>true
 |⟨_,b,_⟩::l=>match b with
  |true=>DW l
  |false=>false
theorem aI:∀{l:List Pd},DW l=true->ae l
 |[],_=>trivial
 |⟨p,b,h⟩::l,hc=>by
  cases b with
  |true=>exact⟨h rfl,aI hc⟩
  |false=>cases hc
def mQ{α:Type _}(n:Nat)(k:Nat->α):α:=match n with
 |0=>k 0
 |m+1=>k (Nat.succ m)
theorem ow{α:Type _}(n:Nat)(k:Nat->α):mQ n k=k n:=by cases n<;>rfl
def Pq{α:Type _}(a:Int)(k:Int->α):α:=match a with
 |.ofNat n=>mQ n fun n=>k (.ofNat n)
 |.negSucc n=>mQ n fun n=>k (.negSucc n)
theorem DB{α:Type _}(a:Int)(k:Int->α):Pq a k=k a:=by cases a<;>simp only[Pq,ow]
def AZ{α:Type _}(b:Bool)(k:Bool->α):α:=match b with
 |true=>k true
 |false=>k false
theorem kJ{α:Type _}(b:Bool)(k:Bool->α):AZ b k=k b:=by cases b<;>rfl
def Gk{α:Type _}:List Int->(List Int->α)->α
 |[],k=>k []
 |x::xs,k=>Pq x fun x=>Gk xs fun xs=>k (x::xs)
theorem zf{α:Type _}:∀(l:List Int)(k:List Int->α),Gk l k=k l
 |[],k=>rfl
 |x::xs,k=>by simp only[Gk,DB,zf xs]
def Pt{α:Type _}:bw->(bw->α)->α
 |[],k=>k []
 |x::xs,k=>mQ x.toNat fun n=>Pt xs fun xs=>k (UInt8.ofNat n::xs)
theorem DC{α:Type _}:∀(l:bw)(k:bw->α),Pt l k=k l
 |[],k=>rfl
 |x::xs,k=>by simp only[Pt,ow,DC xs,UInt8.ofNat_toNat]
def Kb{α:Type _}:List bw->(List bw->α)->α
 |[],k=>k []
 |x::xs,k=>Pt x fun x=>Kb xs fun xs=>k (x::xs)
theorem Gl{α:Type _}:∀(l:List bw)(k:List bw->α),Kb l k=k l
 |[],k=>rfl
 |x::xs,k=>by simp only[Kb,DC,Gl xs]
def Kc{α:Type _}:List Bool->(List Bool->α)->α
 |[],k=>k []
 |x::xs,k=>AZ x fun x=>Kc xs fun xs=>k (x::xs)
theorem Gm{α:Type _}:∀(l:List Bool)(k:List Bool->α),Kc l k=k l
 |[],k=>rfl
 |x::xs,k=>by simp only[Kc,kJ,Gm xs]
def DA{α:Type _}:Path->(Path->α)->α
 |[],k=>k []
 |x::xs,k=>match x with
  |.idx i sz=>mQ i fun i=>mQ sz fun sz=>DA xs fun xs=>k (.idx i sz::xs)
  |.at o n=>DA xs fun xs=>k (.at o n::xs)
  |.deref=>DA xs fun xs=>k (.deref::xs)
  |.bC i=>DA xs fun xs=>k (.bC i::xs)
  |.jI a b c=>mQ a fun a=>mQ b fun b=>mQ c fun c=>DA xs fun xs=>k (.jI a b c::xs)
theorem Dz{α:Type _}:∀(l:Path)(k:Path->α),DA l k=k l
 |[],k=>rfl
 |x::xs,k=>by cases x<;>simp only[DA,ow,Dz xs]
def Ps{α:Type _}{β:Type}(g:β->(SV->α)->α):List β->(List SV->α)->α
 |[],f=>f []
 |x::xs,f=>g x fun x=>Ps g xs fun xs=>f (x::xs)
mutual
def kH{α:Type _}:SV->(SV->α)->α
 |.n k a,f=>Pq a fun a=>f (.n k a)
 |.b x,f=>AZ x fun x=>f (.b x)
 |.u x,f=>AZ x fun x=>f (.b x)
 |.s x,f=>Pt x fun x=>f (.s x)
 |.c x,f=>f (.c x)
 |.nil,f=>f .nil
 |.ints k o xs,f=>AZ o fun o=>Gk xs fun xs=>f (.ints k o xs)
 |.dH k xs,f=>match xs with
  |[]=>f .nil
  |x::xs=>Pq x fun x=>Gk xs fun xs=>f (.ints k false (x::xs))
 |.strs o xs,f=>AZ o fun o=>Kb xs fun xs=>f (.strs o xs)
 |.bB o xs,f=>AZ o fun o=>Kc xs fun xs=>f (.bB o xs)
 |.cJ o sz _ e xs,f=>AZ o fun o=>Ps (fun x=>kH (e x)) xs fun xs=>f (.row o sz xs)
 |.row o sz xs,f=>AZ o fun o=>AY xs fun xs=>f (.row o sz xs)
 |.agg xs,f=>AY xs fun xs=>f (.agg xs)
 |.bC xs,f=>AY xs fun xs=>f (.bC xs)
 |.box o x,f=>AZ o fun o=>kH x fun x=>f (.box o x)
 |.fn g a c,f=>AY a fun a=>AY c fun c=>f (.fn g a c)
 |.bg r a b p,f=>mQ a fun a=>mQ b fun b=>DA p fun p=>f (.bg r a b p)
 |.ptr r a b p,f=>mQ a fun a=>mQ b fun b=>DA p fun p=>f (.ptr r a b p)
 |.hole,f=>f .hole
 |.dead,f=>f .dead
 |.pv C,f=>f (.pv C)
 |.abs J,f=>f (.abs J)
 |.dY g aW,f=>f (.dY g aW)
 |.mp K,f=>f (.mp K)
def AY{α:Type _}:List SV->(List SV->α)->α
 |[],f=>f []
 |x::xs,f=>kH x fun x=>AY xs fun xs=>f (x::xs)
end
theorem Cb{α:Type _}{β:Type}{g:β->(SV->α)->α}{e:β->SV}(h:∀x k,∃y,y.den=(e x).den/\g x k=k y):∀(l:List β)(k:List SV->α),∃ys,an ys=an (l.map e)/\Ps g l k=k ys
 |[],k=>⟨[],rfl,rfl⟩
 |x::xs,k=>by obtain⟨y,h1,h2⟩:=h x fun y=>Ps g xs fun xs=>k (y::xs);obtain⟨ys,h3,h4⟩:=Cb h xs fun xs=>k (y::xs);exact⟨y::ys,by simp only[List.map_cons,an,h1,h3],by simp only[Ps,h2,h4]⟩
mutual
theorem qz{α:Type _}:∀(x:SV)(k:SV->α),∃y,y.den=x.den/\kH x k=k y
 |.n k a,f=>⟨.n k a,rfl,by simp only[kH,DB]⟩
 |.b x,f=>⟨.b x,rfl,by simp only[kH,kJ]⟩
 |.u x,f=>⟨.b x,rfl,by simp only[kH,kJ]⟩
 |.s x,f=>⟨.s x,rfl,by simp only[kH,DC]⟩
 |.c x,f=>⟨.c x,rfl,rfl⟩
 |.nil,f=>⟨.nil,rfl,rfl⟩
 |.ints k o xs,f=>⟨.ints k o xs,rfl,by simp only[kH,kJ,zf]⟩
 |.dH k xs,f=>by
  cases xs with
  |nil=>exact⟨.nil,rfl,rfl⟩
  |cons x xs=>exact⟨.ints k false (x::xs),rfl,by simp only[kH,DB,zf]⟩
 |.strs o xs,f=>⟨.strs o xs,rfl,by simp only[kH,kJ,Gl]⟩
 |.bB o xs,f=>⟨.bB o xs,rfl,by simp only[kH,kJ,Gm]⟩
 |.cJ o sz _ e xs,f=>by obtain⟨ys,h1,h2⟩:=Cb (g:=fun x=>kH (e x)) (fun x k=>qz (e x) k) xs fun xs=>f (.row o sz xs);exact⟨.row o sz ys,by simp only[SV.den,h1,bx,List.map_map];rfl,by simp only[kH,kJ,h2]⟩
 |.row o sz xs,f=>by obtain⟨ys,h1,h2⟩:=kW xs fun xs=>f (.row o sz xs);exact⟨.row o sz ys,by simp only[SV.den,h1],by simp only[kH,kJ,h2]⟩
 |.agg xs,f=>by obtain⟨ys,h1,h2⟩:=kW xs fun xs=>f (.agg xs);exact⟨.agg ys,by simp only[SV.den,h1],by simp only[kH,h2]⟩
 |.bC xs,f=>by obtain⟨ys,h1,h2⟩:=kW xs fun xs=>f (.bC xs);exact⟨.bC ys,by simp only[SV.den,h1],by simp only[kH,h2]⟩
 |.box o x,f=>by obtain⟨y,h1,h2⟩:=qz x fun x=>f (.box o x);exact⟨.box o y,by simp only[SV.den,h1],by simp only[kH,kJ,h2]⟩
 |.fn g a c,f=>by obtain⟨ys,h1,h2⟩:=kW a fun a=>AY c fun c=>f (.fn g a c);obtain⟨zs,h3,h4⟩:=kW c fun c=>f (.fn g ys c);exact⟨.fn g ys zs,by simp only[SV.den,h1,h3],by simp only[kH,h2,h4]⟩
 |.bg r a b p,f=>⟨.bg r a b p,rfl,by simp only[kH,ow,Dz]⟩
 |.ptr r a b p,f=>⟨.ptr r a b p,rfl,by simp only[kH,ow,Dz]⟩
 |.hole,f=>⟨.hole,rfl,rfl⟩
 |.dead,f=>⟨.dead,rfl,rfl⟩
 |.pv C,f=>⟨.pv C,rfl,rfl⟩
 |.abs J,f=>⟨.abs J,rfl,rfl⟩
 |.dY g aW,f=>⟨.dY g aW,rfl,rfl⟩
 |.mp K,f=>⟨.mp K,rfl,rfl⟩
theorem kW{α:Type _}:∀(x:List SV)(k:List SV->α),∃y,an y=an x/\AY x k=k y
 |[],k=>⟨[],rfl,rfl⟩
 |x::xs,k=>by obtain⟨y,h1,h2⟩:=qz x fun y=>AY xs fun xs=>k (y::xs);obtain⟨ys,h3,h4⟩:=kW xs fun xs=>k (y::xs);exact⟨y::ys,by simp only[an,h1,h3],by simp only[AY,h2,h4]⟩
end
def Mw{α:Type _}(d:Nat):aP->(aP->α)->α
 |[],k=>k []
 |(e,x)::l,k=>match Nat.beq d e with
  |true=>k l
  |false=>Mw d l fun l'=>k ((e,x)::l')
theorem Cj{α:Type _}(d:Nat):∀(l:aP)(k:aP->α),∃l',(∀i,i≠d->gt l' i=gt l i)/\Mw d l k=k l'
 |[],k=>⟨[],fun _ _=>rfl,rfl⟩
 |(e,x)::l,k=>by
  cases hb:Nat.beq d e with
  |true=>
   have:=Nat.eq_of_beq_eq_true hb;subst this;refine⟨l,fun i hi=>?_,by simp only[Mw,hb]⟩;have:Nat.beq i d=false:=by
    cases hb:Nat.beq i d with
    |false=>rfl
    |true=>exact absurd (Nat.eq_of_beq_eq_true hb) hi
   simp only[gt,this]
  |false=>
   obtain⟨l',h1,h2⟩:=Cj d l fun l'=>k ((e,x)::l');refine⟨(e,x)::l',fun i hi=>?_,by simp only[Mw,hb,h2]⟩;simp only[gt];cases Nat.beq i e with
   |true=>rfl
   |false=>exact h1 i hi
def Pr{α:Type _}:Nat->aP->(aP->α)->α
 |0,l,k=>k l
 |n+1,l,k=>match l with
  |[]=>k []
  |(d,x)::l=>match x with
   |⟨v,a,b⟩=>Pr n l fun l=>Mw d l fun l=>kH v fun v=>mQ a fun a=>mQ b fun b=>k ((d,⟨v,a,b⟩)::l)
theorem u6{α:Type _}:∀(n:Nat)(l:aP)(k:aP->α),∃l',dn l'=dn l/\Pr n l k=k l'
 |0,l,k=>⟨l,rfl,rfl⟩
 |n+1,[],k=>⟨[],rfl,rfl⟩
 |n+1,(d,⟨v,a,b⟩)::l,k=>by
  obtain⟨l1,h1,h2⟩:=u6 n l fun l=>Mw d l fun l=>kH v fun v=>mQ a fun a=>mQ b fun b=>k ((d,⟨v,a,b⟩)::l);obtain⟨l2,h3,h4⟩:=Cj d l1 fun l=>kH v fun v=>mQ a fun a=>mQ b fun b=>k ((d,⟨v,a,b⟩)::l);obtain⟨y,h5,h6⟩:=qz v fun v=>mQ a fun a=>mQ b fun b=>k ((d,⟨v,a,b⟩)::l2);refine⟨(d,⟨y,a,b⟩)::l2,?_,by show Pr n l _=_;rw[h2,h4,h6,ow,ow]⟩;rw[dC,dC,<-h1]
  funext i
  unfold fB;by_cases hi:i=d
  ·simp only[hi,if_true,Cl.den,h5]
  simp only[hi,if_false,dn,h3 i hi]
end Go.Ai
