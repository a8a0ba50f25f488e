/- Parts of the proof of ScaleCircles (CheckRefused returns the error of the reference), at every input, with no further conditions. -/
import Derived.Test.YtdgocdadfmhjgaaGreatDoorCZAG
import Derived.Lib.ConvBytes
import Derived.Laws.AppendOwn
set_option linter.all false
set_option maxRecDepth 100000
set_option maxHeartbeats 0
namespace Go.Ai
open Go.RowKit
section
variable{P:Program}{N:Nat}{w w':World}{σ:St}
def enters{f:FuncId}{fn:Func}(hf:P.funcs[f]?=some fn)(hb:fn.body.isNone=false)(hn:(fn.name== "runtime.NumGoroutine")=false)(vs:Array Value)(w:World):(callFunc f vs).run P w=.ok (.enter f vs) w:=by
 have hn':¬fn.name= "runtime.NumGoroutine":=by simpa using hn
 have dO:¬fn.body=none:=by intro h;rw[h]at hb;cases hb
 unfold callFunc;simp[hf,dO,hn']
def EO{f:FuncId}{vs:Array Value}{R:Value->World->Prop}(e1:(callFunc f vs).run P w=.ok (.enter f vs) w)(h:rX P f vs w R){rd:Option Nat}:
 CallsIn (FW rd) 0 P f vs w λe w'=>∃v0,e=.returned v0/\∃v,R v w':=by
 have:=h rd {dst:=none,op:=.move<|.const<|.bool true,type:=0,pos:= "",after:=#[],guard:=none} {tmps:=#[],defers:=[]} (λ_ w'=>∃v,R v w') (λ_ _ _=>False) λv w' hR=>⟨v,hR⟩;rw[e1]at this;refine this.2.mono λe w' he=>?_;cases e with
 |returned v=>simp_all
 |panicked _=>exact he.elim
 |outgrown=>obtain⟨_,_,h⟩:=he;exact h.elim
def idxOf(ex:List Nat)(i:Nat):Option Nat:=match ex with
 |[]=>none
 |r::ex=>if r=i then some 0 else(idxOf ex i).map (·+1)
def fu:∀{ex:List Nat}{i j:Nat},idxOf ex i=some j->j<ex.length/\ex.getD j 0=i
 |[],i,j,h=>by simp[idxOf]at h
 |r::ex,i,j,h=>by
  unfold idxOf at h;split at h
  ·rename_i e;cases h;simp_all
  simp at h;obtain⟨k,hk,rfl⟩:=h;have:=fu hk;exact⟨by simp;exact this.1,this.2⟩
def n7:∀{ex:List Nat}{i:Nat},idxOf ex i=none->i∉ex
 |[],i,_=>by simp
 |r::ex,i,h=>by
  unfold idxOf at h;split at h
  ·cases h
  rename_i e;simp at h;simp;exact⟨λe'=>e e'.symm,n7 h⟩
def oM(σ:St)(ex:List Nat)(y:List AV):St:=λi=>match idxOf ex i with
 |some j=>⟨y.getD j .dead,(σ i).g1,(σ i).g2+1⟩
 |none=>σ i
def V8(N:Nat)(cs:List (AV×Value))(ex:List Nat)(T:Nat->Value)(tmps:Array Value)(ps:Array Tmp)(y x:List AV)(σB:St):Prop:=
 ∀(w:World)(S:Nat->Prop)(FF:Nat->List Nat)(vs:List Value)(V:Hid),(∀q∈cs,Rel w S q.1 q.2 [])->(∀(j:Nat)(v:AV),y[j]?=some v->j<ex.length->Rel w S v (T<|ex.getD j 0) (FF j))->
    (∀j,j<ex.length->(FF j).Nodup)->(∀i j,i<ex.length->j<ex.length->i≠j->∀c∈FF i,c∉FF j)->(∀j,j<ex.length->∀c∈FF j,c<w.heap.size/\¬S c)->(∀c,S c->c<w.heap.size)->Cells w S false x vs []->
    V.v=(λi=>T<|ex.getD (i-1000000) 0)->(∀j,j<ex.length->∀c∈FF j,V.g c)->
    aS S (cu V w) σB (tv V {tmps:=(ps.zip vs.toArray).foldl (λtmps(t,a)=>tmps.setIfInBounds t a) tmps,defers:=[]}) w λi=>if 1000000<=i/\i-1000000<ex.length then FF (i-1000000)else[]
def VS{g:Operand}{ps:Array Tmp}{assign body:Code}{Q:Exit->St->Prop}{gf:FuncId}{fng:Func}{captured:List AV}{r:AV}{ex is:List Nat}{n m:Nat}{x y:Nat->List AV}{b:Nat->Bool}{pe:Nat->Option Code}{σB:Nat->St}
 (hN:N<=1000000)(hgf:aI g=true)(hg:(resolve σ g).cont=some (.fn (.func gf) [] captured))(gu:bx captured=true)(hf:P.funcs[gf]?=some fng)(hfb:fng.body.isNone=false)(Yi:(fng.name== "runtime.NumGoroutine")=false)(Bg:captured.length<999999)
 (hex:ex.Nodup)(iD:∀r∈ex,(σ r).av.plain=true)(his:∀i∈is,(σ i).av.plain=true/\(σ i).av.aF=true)
 (hx:∀k,k<n->(x k).length=ps.size)(hy:∀k,(y k).length=ex.length)(F9:∀j,j<ex.length->(y 0)[j]?=some (σ<|ex.getD j 0).av)(abK:pe 0=none)(HK:∀k,k<n->(∀j,j<k->b j=true)->pe k=none)
 (hit:∀(C:Value->Prop)(J:Nat->pk),(∀v,C v->∀k,k<n->(∀j,j<k->b j=true)->Yields P (J k) (J<|k+1) (x k) (b k) v)->IE P gf [.abs<|J 0] (.pv C::captured) [.abs<|J m] r)
 (Nh:∀(V:Hid)(a:Act)(w:World)(S:Nat->Prop)(B:Nat->Prop)(F:Nat->List Nat),a.tmps.size=N->aS S B σ (tv V a) w F->∀k,k<n->V8 N (is.map λi=>((σ i).av,tv V a i)) ex (tv V a) a.tmps ps (y k) (x k) (σB k))
 (KE:∀k,k<n->(∀j,j<k->b j=true)->AW R1 P N assign (λe σ1=>e=.normal/\AW R1 P N body (af9 (y<|k+1) (b k)<|pe<|k+1) σ1) (σB k))
 (Bd:match pe m with
   |none=>Q .normal (oM σ ex<|y m)
   |some .ret=>Q .ret (oM σ ex<|y m)
   |some (.exit id)=>Q (.exit id) (oM σ ex<|y m)
   |_=>False):AW R0 P N (.rangeFunc g ps assign body) Q σ:=by
 intro V w0 S0 a w hR hi;obtain⟨S,F,hc,cM,jx,jn,gD,dB⟩:=hi;have hG:=hR.2;have hR:V.rd=none:=hR.1;refine wpIn_rangeFunc ?_;intro fn _;obtain⟨F1,e1,-⟩:=aQ hc g hgf hg;simp only[Rel]at e1;obtain⟨af,cf,G1,G2,LZ,KH,ha2,-⟩:=e1;have haf:af=#[]:=by simp[Cells]at KH;apply adK;simpa using KH.1
 have hG2:=Cells.aF _ ha2 gu;subst haf hG2;obtain⟨D,hD⟩:∃D,D=w.heap.size:=⟨_,rfl⟩;obtain⟨l,hl⟩:∃l,l=w.heap.size+1:=⟨_,rfl⟩;obtain⟨W1,ZT⟩:∃W1,W1=(w.alloc<|.deferred<|some []).alloc (.loop<|tY fn a.tmps ps assign body D none):=⟨_,rfl⟩;have h1s:W1.heap.size=w.heap.size+2:=by rw[ZT,World.size_alloc,World.size_alloc]
 have h1l:W1.heap[l]?=some (.loop<|tY fn a.tmps ps assign body D none):=by rw[ZT,hl];have:=World.alloc_heap_new (w.alloc<|.deferred<|some [])<|.loop<|tY fn a.tmps ps assign body D none;rwa[World.size_alloc]at this
 have h1D:W1.heap[D]?=some (.deferred<|some []):=by rw[ZT,hD];exact(Below.heap_alloc _ _ _<|by simp).trans<|World.alloc_heap_new w _
 have h1o:∀k,k<w.heap.size->W1.heap[k]?=w.heap[k]?:=λk hk=>by rw[ZT];exact(Below.heap_alloc _ _ _<|by simp;omega).trans<|Below.heap_alloc _ _ _ hk
 have hce:∀vs W,(callFunc gf vs).run P W=.ok (.enter gf vs) W:=enters hf hfb Yi;refine⟨l,[{target:=.collected D,args:=#[]}],W1,{target:=.fn (.func gf) cf,args:=#[.func (.yield l) #[] #[]]},W1,gf,#[.func (.yield l) #[] #[]]++cf,W1,?_,?_,λ_ _=>trivial,?_,λh=>(by cases h),?_⟩
 ·show(Instr.enterLoop fn a.tmps ps assign body V.rd).run P w=_;rw[hR,run_enterLoop_outer,ZT,hD,hl];rfl
 ·simp[Go.resolve,rangeCall,LZ];simp[Deferred.ofValue,Act.eval]
 ·simp[invoke,hce]
 have hSw:∀c,S c->c<w.heap.size:=hc.shr;have hlw:w.heap.size<=l:=by omega
 have hlD:l≠D:=by omega
 obtain⟨Fb,RN⟩:∃Fb:Nat->List Nat,Fb=λj=>F (ex.getD j 0):=⟨_,rfl⟩;have ai3:∀i j,i<ex.length->j<ex.length->i≠j->ex.getD i 0≠ex.getD j 0:=by
  intro i j hi hj gS e;rw[aca,aca,acL hi,acL hj]at e;have e:ex[i]=ex[j]:=by simpa using e
  have hpw:=List.pairwise_iff_getElem.1 hex;rcases Nat.lt_or_gt_of_ne gS with h|h
  ·exact hpw i j hi hj h e
  exact hpw j i hj hi h e.symm
 have Yk:∀j,j<ex.length->ex.getD j 0∈ex:=λj hj=>by rw[aca,acL hj];exact ab9 hj
 obtain⟨cs,o5⟩:∃cs,cs=is.map λi=>((σ i).av,tv V a i):=⟨_,rfl⟩;obtain⟨J,hJ⟩:∃J:Nat->pk,J=λk=>Jr cs ex (tv V a) l D (tY fn a.tmps ps assign body D) (pe k) (y k):=⟨_,rfl⟩;have hyl:∀k,k<n->(∀j,j<k->b j=true)->Yields P (J k) (J<|k+1) (x k) (b k) (.func (.yield l) #[] #[]):=by intro k hk yc;rw[hJ];dsimp only;rw[HK k hk yc];exact Hc hN cM (hx k hk) (hy<|k+1) (by rw[o5];exact Nh V a w S _ F cM hc k hk)<|KE k hk yc
 have CT:=hit (λv=>v=.func (.yield l) #[] #[]) J (λv hv k hk yc=>by rw[hv];exact hyl k hk yc);obtain⟨Vi,hVi⟩:∃Vi:Hid,Vi={v:=λ_=>undef,g:=λc=>c=D\/c=l\/∃j,j<ex.length/\c∈Fb j}:=⟨_,rfl⟩;obtain⟨Fi,hFi⟩:∃Fi:Nat->List Nat,Fi=λi=>if i=1000000 then D::l::(List.range ex.length).flatMap Fb else[]:=⟨_,rfl⟩;have hFw:∀i,∀c∈F i,c<w.heap.size:=λi c cm=>(hc.own i c cm).2.1;have BF:((List.range ex.length).flatMap Fb).Nodup:=(mg _).2 ⟨λj _=>by rw[RN];exact hc.nodup _,λi j hi hj gS=>by rw[RN];exact hc.di _ _<|ai3 i j hi hj gS⟩;have dz:∀c,c∈(List.range ex.length).flatMap Fb->c<w.heap.size/\¬S c:=by intro c cm;obtain⟨j,-,hj⟩:=adL.1 cm;rw[RN]at hj;exact(hc.own _ c hj).2
 have hJ0:pk.here (J 0) W1 S (D::l::(List.range ex.length).flatMap Fb):=by
  rw[hJ];dsimp only;rw[abK];refine Jr.closed ⟨Fb,List.Perm.refl _,λj v hv hj=>?_,λq hq=>?_,h1l,h1D⟩
  ·have:=F9 j hj;rw[this]at hv;cases hv;have hr:=hc.rel<|ex.getD j 0;rw[ak.aB<|iD _<|Yk j hj]at hr;rw[RN];exact Rel.frame _ hr λc cm=>h1o c<|cm.elim (hSw c)<|hFw _ c
  rw[o5]at hq;obtain⟨i,hi,rfl⟩:=ac0.1 hq;have hr:=hc.rel i;rw[ak.aB (his i hi).1]at hr;rw[Rel.aF _ hr (his i hi).2]at hr;exact Rel.frame _ hr λc cm=>h1o c<|hSw c<|by simpa using cm
 have jX:Cells W1 S false captured cf.toList []:=Cells.frame _ ha2 λc cm=>h1o c<|hSw c<|by simpa using cm
 have an5:=Cells.length jX;have UL:([Value.func (.yield l) #[] #[]]++cf.toList).toArray=#[.func (.yield l) #[] #[]]++cf:=by apply adK;simp
 have Az:aS S Vi.g (both (.pv (λv=>v=.func (.yield l) #[] #[])::captured) [.abs<|J 0]) (aX Vi<|[Value.func (.yield l) #[] #[]]++cf.toList) W1 Fi:=by
  have mI:Cells W1 S false (.pv (λv=>v=.func (.yield l) #[] #[])::captured) ([Value.func (.yield l) #[] #[]]++cf.toList) []:=by simp only[Cells];exact⟨_,_,[],[],rfl,rfl,by simp,by simp[Rel],jX⟩
  refine⟨λi=>?_,λi=>?_,λi j gS c hb=>?_,λi c hb=>?_,λc hb=>by rw[h1s];have:=hSw c hb;omega⟩
  ·by_cases hi:i<1000000
   ·have hb:=gG (args:=.pv (λv=>v=.func (.yield l) #[] #[])::captured) (H:=[.abs<|J 0]) hi;have hFe:Fi i=[]:=by rw[hFi];dsimp only;rw[if_neg<|by omega]
    rw[hFe];cases wV:(AV.pv (λv=>v=.func (.yield l) #[] #[])::captured)[i]?with
    |none=>rw[wV]at hb;rw[ak.aB<|by rw[hb];rfl,hb];simp[Rel]
    |some v=>
     rw[wV]at hb;have gE:=Cells.get i mI rfl;rw[wV]at gE;obtain⟨z,q1,q2⟩:=gE;rw[ak.aB<|by rw[hb];exact q2.plain,hb];have hz:aX Vi ([Value.func (.yield l) #[] #[]]++cf.toList) i=z:=by unfold aX;rw[if_pos hi,aca,q1];rfl
     rw[hz];exact q2
   by_cases h2:i=1000000
   ·subst h2;have e:(both (.pv (λv=>v=.func (.yield l) #[] #[])::captured) [.abs<|J 0] 1000000).av=.abs (J 0):=by
     rw[show(1000000:Nat)=1000000+0 by rfl,fJ<|by simp;omega];rfl
    unfold ak;rw[e,hFi];exact hJ0
   have e:(both (.pv (λv=>v=.func (.yield l) #[] #[])::captured) [.abs<|J 0] i).av=.dead:=by rw[show i=1000000+(i-1000000) by omega,fJ<|by simp;omega];have:[AV.abs<|J 0][i-1000000]?=none:=adA (by simp;omega);rw[this]
   rw[ak.aB<|by rw[e];rfl,e];rw[hFi];dsimp only;rw[if_neg h2];simp[Rel]
  ·rw[hFi];dsimp only;split
   ·refine adm.2 ⟨λh=>?_,adm.2 ⟨λh=>?_,BF⟩⟩
    ·rcases aci.1 h with h|h
     ·exact hlD h.symm
     have:=(dz D h).1;omega
    have:=(dz l h).1;omega
   simp
  ·rw[hFi]at hb⊢;dsimp only at hb⊢;split at hb
   ·rw[if_neg<|by omega];simp
   cases hb
  rw[hFi]at hb;dsimp only at hb;split at hb
  ·rw[hVi,h1s];rcases aci.1 hb with rfl|hb
   ·exact⟨.inl rfl,by omega,λh=>by have:=hSw _ h;omega⟩
   rcases aci.1 hb with rfl|hb
   ·exact⟨.inr<|.inl rfl,by omega,λh=>by have:=hSw _ h;omega⟩
   obtain⟨j,hj,cm⟩:=adL.1 hb;have:=dz c hb;exact⟨.inr<|.inr ⟨j,ae5.1 hj,cm⟩,by omega,this.2⟩
  cases hb
 have hLi:ky P Vi W1:=by
  have hLw:=hG.Ke dB;refine⟨hLw.same λg hn cS=>h1o g cS,λg hn hb=>?_⟩;have cS:=hLw.lt hn;rw[hVi]at hb;rcases hb with rfl|rfl|⟨j,-,hb⟩
  ·omega
  ·omega
  rw[RN]at hb;exact hG.cu g hn (hc.own _ g hb).1
 have Ay:=CT W1 S Vi ([Value.func (.yield l) #[] #[]]++cf.toList) Fi (by simp;omega) hLi Az;rw[UL]at Ay;refine(EO (hce _ _) Ay).mono ?_;rintro e w2⟨v0,rfl,v,S',F',eR,k1,k2,kc⟩;have gM:pk.here (J m) w2 S' (F' 1000000):=by
  have:=kc.rel 1000000;unfold ak at this;have e:(both [r] [.abs<|J m] 1000000).av=.abs (J m):=by rw[show(1000000:Nat)=1000000+0 by rfl,fJ<|by simp];rfl
  rw[e]at this;exact this
 have ZJ:=gM w2 S' (λ_ _=>rfl) λ_ h=>h;rw[hJ]at ZJ;obtain⟨FF,hp,fK,-,II,Su⟩:=ZJ;obtain⟨w4,hw4⟩:∃w4,w4=w2.putObj l (.loop {tY fn a.tmps ps assign body D (pe m)with state:=.exhausted}):=⟨_,rfl⟩;have afl:(Instr.endLoop l).run P w2=.ok (pe m) w4:=by rw[run_endLoop II<|by simp[tY];split<;>simp,hw4];rfl
 have hX:nk N V w0 S0 (oM σ ex<|y m) {a with defers:=[{target:=.collected D,args:=#[]}]++a.defers} w4:=by
  have h4s:w4.heap.size=w2.heap.size:=by rw[hw4];simp[World.putObj]
  have h4o:∀k,k≠l->w4.heap[k]?=w2.heap[k]?:=λk hk=>by rw[hw4];exact World.putObj_heap_other hk
  have hm:∀c,c∈F' 1000000↔c∈D::l::(List.range ex.length).flatMap FF:=λc=>hp.mem_iff;have abO:=hp.nodup_iff.1<|kc.nodup 1000000;obtain⟨hD1,abN⟩:=adm.1 abO;obtain⟨Yd,abM⟩:=adm.1 abN;obtain⟨UF,UX⟩:=(mg ex.length).1 abM;have Ks:∀j,j<ex.length->∀c∈FF j,c∈(List.range ex.length).flatMap FF:=λj hj c hc=>adL.2 ⟨j,ae5.2 hj,hc⟩;have yO:∀j,j<ex.length->∀c∈FF j,cu Vi W1 c/\c<w2.heap.size/\¬S' c/\c≠l/\c≠D:=by
   intro j hj c cm;have Yo:=Ks j hj c cm;have:=kc.own 1000000 c<|(hm c).2<|by simp[Yo]
   exact⟨this.1,this.2.1,this.2.2,λe=>Yd (e▸Yo),λe=>hD1<|by rw[<-e];simp[Yo]⟩
  have afR:=kc.own 1000000 D<|(hm D).2<|by simp
  have aeZ:=kc.own 1000000 l<|(hm l).2<|by simp
  have hVg:∀c,Vi.g c->c=D\/c=l\/∃j,j<ex.length/\c∈F (ex.getD j 0):=by rw[hVi,RN];exactλc h=>h
  have anc:=dB.size;have Ax:∀c,cu Vi W1 c->cu V w0 c:=by
   rintro c(h|h)
   ·exact .inl (by omega)
   rcases hVg c h with rfl|rfl|⟨j,hj,h⟩
   ·exact .inl (by omega)
   ·exact .inl (by omega)
   exact(hc.own _ c h).1
  have ane:=eR.size;have Ga:∀c,c<w.heap.size->(∀j,j<ex.length->c∉F (ex.getD j 0))->w4.heap[c]?=w.heap[c]?:=by
   intro c se yb;rw[h4o c<|by omega,eR.block c (by omega) λh=>?_,h1o c se];rcases hVg c h with h|h|⟨j,hj,h⟩
   ·omega
   ·omega
   exact yb j hj h
  have hSk:∀c,S c->w4.heap[c]?=w.heap[c]?:=λc hcS=>Ga c (hSw c hcS) λj hj h=>(hc.own _ c h).2.2 hcS;have hFk:∀i,i∉ex->∀c∈F i,w4.heap[c]?=w.heap[c]?:=λi hi c hcF=>Ga c (hFw i c hcF) λj hj h=>hc.di i (ex.getD j 0) (λe=>hi<|by rw[e];exact Yk j hj) c hcF h;obtain⟨Fn,hFn⟩:∃Fn:Nat->List Nat,Fn=λi=>match idxOf ex i with|some j=>FF j|none=>F i:=⟨_,rfl⟩
  have Nv:∀{i j},idxOf ex i=some j->Fn i=FF j:=λh=>by rw[hFn];dsimp only;rw[h]
  have Nw:∀{i},idxOf ex i=none->Fn i=F i:=λh=>by rw[hFn];dsimp only;rw[h]
  have LY:∀{i},idxOf ex i=none->oM σ ex (y m) i=σ i:=λh=>by unfold oM;rw[h]
  have mn:∀{i j},idxOf ex i=some j->oM σ ex (y m) i=⟨(y m).getD j .dead,(σ i).g1,(σ i).g2+1⟩:=λh=>by unfold oM;rw[h]
  have Eo:∀i j,idxOf ex i=none->j<ex.length->∀c∈FF j,c∉F i:=by
   intro i j hi hj c hcF hci;rcases(yO j hj c hcF).1 with h|h
   ·have:=hFw i c hci;omega
   rcases hVg c h with h|h|⟨j',CX,h⟩
   ·exact(yO j hj c hcF).2.2.2.2 h
   ·exact(yO j hj c hcF).2.2.2.1 h
   exact hc.di i (ex.getD j' 0) (λe=>n7 hi<|by rw[e];exact Yk j' CX) c hci h
  have ajq:∀c,S' c->S c\/cu V w0 c:=λc h=>(k2 c h).imp id<|Ax c;refine⟨S',Fn,[{target:=.collected D,args:=#[]}],?_,cM,by rw[jx],λc h=>k1 c<|jn c h,λc h=>(ajq c h).elim (gD c) .inr,?_,by simp,?_⟩
  ·have hT:tv V {a with defers:=[{target:=.collected D,args:=#[]}]++a.defers}=tv V a:=rfl;rw[hT];refine hc.step (w':=w4) (T':=tv V a) (S':=S') ⟨λi=>?_,λi=>?_,λ_ _=>rfl,λi q1 q2=>?_⟩ k1 (λi=>?_) (λi=>?_) (λi j gS c Et=>?_) (λi c Et=>?_) (λc h=>by rw[h4s];exact kc.shr c h)
   ·cases hi:idxOf ex i with
    |none=>rw[LY hi];exact abZ _
    |some j=>rw[mn hi];exact abZ _
   ·cases hi:idxOf ex i with
    |none=>rw[LY hi];exact abZ _
    |some j=>rw[mn hi];exact ag9 _
   ·cases hi:idxOf ex i with
    |none=>rw[LY hi];exact⟨λp z hz=>⟨z,hz⟩,λc Et=>Et.elim (hSk c)<|hFk i (n7 hi) c⟩
    |some j=>rw[mn hi]at q2;simp at q2
   ·cases hi:idxOf ex i with
    |none=>left;rw[LY hi,Nw hi];exact⟨rfl,rfl,rfl,λc Et=>Et.elim (hSk c)<|hFk i (n7 hi) c⟩
    |some j=>
     right;obtain⟨hj,he⟩:=fu hi;have hyj:(y m)[j]?=some ((y m).getD j .dead):=by rw[aca,acL<|by rw[hy];exact hj];rfl
     have hr:=fK j _ hyj hj;rw[ak.aB<|by rw[mn hi];exact hr.plain,mn hi,Nv hi];rw[he]at hr;exact Rel.frame _ hr λc Et=>h4o c (λe=>by subst e;exact Et.elim (λh=>aeZ.2.2 h) λh=>(yO j hj _ h).2.2.2.1 rfl)
   ·cases hi:idxOf ex i with
    |none=>rw[Nw hi];exact hc.nodup i
    |some j=>rw[Nv hi];exact UF j (fu hi).1
   ·cases hi:idxOf ex i with
    |none=>
     rw[Nw hi]at Et;cases hj:idxOf ex j with
     |none=>rw[Nw hj];exact hc.di i j gS c Et
     |some j'=>rw[Nv hj];exactλh=>Eo i j' hi (fu hj).1 c h Et
    |some i'=>
     rw[Nv hi]at Et;cases hj:idxOf ex j with
     |none=>rw[Nw hj];exact Eo j i' hj (fu hi).1 c Et
     |some j'=>rw[Nv hj];refine UX i' j' (fu hi).1 (fu hj).1 (λe=>gS ?_) c Et;rw[<-(fu hi).2,<-(fu hj).2,e]
   cases hi:idxOf ex i with
   |none=>
    rw[Nw hi]at Et;have ho:=hc.own i c Et;refine⟨ho.1,by rw[h4s];omega,λh=>?_⟩;rcases k2 c h with h|h
    ·exact ho.2.2 h
    rcases h with h|h
    ·omega
    rcases hVg c h with h|h|⟨j',CX,h⟩
    ·omega
    ·omega
    exact hc.di i (ex.getD j' 0) (λe=>n7 hi<|by rw[e];exact Yk j' CX) c Et h
   |some j=>rw[Nv hi]at Et;have ho:=yO j (fu hi).1 c Et;exact⟨Ax c ho.1,by rw[h4s];exact ho.2.1,ho.2.2.1⟩
  ·refine⟨?_,?_,?_,by rw[h4s];omega,λk hk hgk=>?_⟩
   ·rw[hw4];show w2.os=_;rw[eR.os,ZT];exact dB.os
   ·rw[hw4];show w2.tape=_;rw[eR.tape,ZT];exact dB.tape
   ·rw[hw4];show w2.output=_;rw[eR.output,ZT];exact dB.output
   rw[Ga k (by omega) λj hj h=>?_]
   ·exact dB.block k hk hgk
   rcases(hc.own _ k h).1 with h|h
   ·omega
   exact hgk h
  intro d hd;simp[agO]at hd;subst hd;refine⟨D,rfl,by rw[h4o D λe=>hlD e.symm];exact Su,by omega,afR.2.2,λi h=>?_⟩;cases hi:idxOf ex i with
  |none=>rw[Nw hi]at h;have:=hFw i D h;omega
  |some j=>rw[Nv hi]at h;exact(yO j (fu hi).1 D h).2.2.2.2 rfl
 show∃jump w4,(Instr.endLoop l).run P w2=.ok jump w4/\_;refine⟨pe m,w4,afl,?_⟩;cases hpm:pe m with
 |none=>rw[hpm]at Bd;exact⟨_,Bd,hX⟩
 |some c=>
  rw[hpm]at Bd;cases c<;>try exact Bd.elim
  case ret=>exact wpIn_ret ⟨_,Bd,hX⟩
  case exit id=>exact wpIn_exit ⟨_,Bd,hX⟩
end
def FP:∀{L:List (Nat×SV)}{i:Nat},(gt (sl L) i).v=.dead\/(i,(gt (sl L) i).v)∈L
 |[],i=>.inl rfl
 |(j,y)::L,i=>by
  simp[sl,gt];split
  ·rename_i h;simp_all
  rcases FP (L:=L) (i:=i)with h|h
  ·exact .inl h
  simp_all
def vu:∀(q:List (Tmp×Value))(t:Array Value)(i:Nat),i∉q.map (·.1)->(q.foldl (λtmps p=>tmps.setIfInBounds p.1 p.2) t).getD i undef=t.getD i undef
 |[],t,i,_=>rfl
 |p::q,t,i,h=>by simp only[ado,aci,not_or]at h;simp only[aeK];rw[vu q _ i h.2];simp;rw[Array.getElem?_setIfInBounds_ne λe=>h.1 e.symm]
def KZ:∀(q:List (Tmp×Value))(t:Array Value)(i:Nat)(v:Value),(q.map (·.1)).Nodup->(i,v)∈q->i<t.size->(q.foldl (λtmps p=>tmps.setIfInBounds p.1 p.2) t).getD i undef=v
 |[],t,i,v,_,h,_=>by cases h
 |p::q,t,i,v,hn,h,hi=>by
  simp only[ado,adm]at hn;simp only[aeK];rcases aci.1 h with h|h
  ·subst h;rw[vu q _ i hn.1];simp[hi]
  exact KZ q _ i v hn.2 h (by simpa using hi)
inductive View(σ:St)(ex is:List Nat):Nat->AV->Prop
 |own {i j:Nat} (h:ex[j]?=some i):View σ ex is i (.bA (1000000+j) 0 0 [])
 |bA {i j r g1 g2:Nat} {p:Path} (h:ex[j]?=some r) (h1:(σ i).av=.bA r g1 g2 p) (h2:kl p=true) (h3:(σ r).g1=g1):View σ ex is i (.bA (1000000+j) 0 0 p)
 |ptr {i j r g1 g2:Nat} {p:Path} (h:ex[j]?=some r) (h1:(σ i).av=.ptr r g1 g2 p) (h2:flat p=true) (h3:(σ r).g1=g1):View σ ex is i (.ptr (1000000+j) 0 0 p)
 |val {i:Nat} (h:i∈is):View σ ex is i (σ i).av
def qS:Nat->List SV->List (Nat×SV)
 |_,[]=>[]
 |k,v::vs=>(k,v)::qS (k+1) vs
def rS:List Nat->List SV->List (Nat×SV)
 |[],_=>[]
 |t::ts,xs=>match xs with
  |[]=>[]
  |x::xs=>(t,x)::rS ts xs
def Cn:∀{ts:List Nat}{xs:List SV}{i:Nat}{v:SV},(i,v)∈rS ts xs->∃j:Nat,ts[j]?=some i/\xs[j]?=some v
 |[],xs,i,v,h=>by simp[rS]at h
 |t::ts,[],i,v,h=>by simp[rS]at h
 |t::ts,x::xs,i,v,h=>by
  simp[rS]at h;rcases h with⟨rfl,rfl⟩|h
  ·exact⟨0,rfl,rfl⟩
  obtain⟨j,h1,h2⟩:=Cn h;exact⟨j+1,h1,h2⟩
def HP:∀{A B:List (Nat×SV)}{i:Nat},(∀q∈A,q.1≠i)->gt (sl<|cat A B) i=gt (sl B) i
 |[],B,i,_=>rfl
 |(r,y)::A,B,i,h=>by
  simp[cat,sl,gt];have:Nat.beq i r=false:=by
   cases hb:Nat.beq i r with
   |false=>rfl
   |true=>simp_all
  rw[this];exact HP λq hq=>h q (by simp[hq])
def PB:∀(zs:List SV)(k j:Nat),gt (sl<|qS k zs) (k+j)=match zs[j]?with|some v=>⟨v,0,0⟩|none=>⟨.dead,0,0⟩
 |[],k,j=>by simp[qS,sl,gt]
 |v::zs,k,j=>by
  simp[qS,sl,gt];cases j with
  |zero=>simp
  |succ j=>
   have:Nat.beq (k+(j+1)) k=false:=by
    cases hb:Nat.beq (k+(j+1)) k with
    |false=>rfl
    |true=>have:=adi hb;omega
   rw[this];have:=PB zs (k+1) j;rw[show k+1+j=k+(j+1) by omega]at this;simpa using this
def Pr:∀{zs:List SV}{k i:Nat}{v:SV},(i,v)∈qS k zs->k<=i
 |[],k,i,v,h=>by simp[qS]at h
 |z::zs,k,i,v,h=>by
  simp[qS]at h;rcases h with⟨rfl,-⟩|h
  ·exact .refl
  have:=Pr h;omega
section
variable{P:Program}{N:Nat}{σ:St}
def QC{ex is:List Nat}{vw:List (Nat×SV)}{xs zs:List SV}{ps:Array Tmp}{V0:Hid}{a:Act}{w0:World}{S0:Nat->Prop}{B:Nat->Prop}{F0:Nat->List Nat}(hN:N<=1000000)(ha:a.tmps.size=N)(hc:aS S0 B σ (tv V0 a) w0 F0)
 (his:∀i∈is,(σ i).av.plain=true/\(σ i).av.aF=true)(hvw:∀q∈vw,View σ ex is q.1 q.2.den/\q.1<N/\q.1∉ps.toList)
 (Rz:ps.toList.Nodup)(hpN:∀t∈ps.toList,t<N)(hx:xs.length=ps.size)(hzl:zs.length=ex.length)(hzp:∀z∈zs,z.plain=true):
 V8 N (is.map λi=>((σ i).av,tv V0 a i)) ex (tv V0 a) a.tmps ps (au zs) (au xs) (dn<|sl<|cat vw<|cat (rS ps.toList xs)<|qS 1000000 zs):=by
 intro w S FF vs V o5 fK BF hdj eQ hS eH hv hg;obtain⟨a1,KH⟩:∃a1:Act,a1={tmps:=(ps.zip vs.toArray).foldl (λtmps(t,a)=>tmps.setIfInBounds t a) a.tmps,defers:=[]}:=⟨_,rfl⟩;rw[<-KH];have Ek:=Cells.length eH;rw[bq]at Ek;have UO:a1.tmps=(ps.toList.zip vs).foldl (λtmps p=>tmps.setIfInBounds p.1 p.2) a.tmps:=by rw[KH];rw[<-aiY];simp
 have ZN:(ps.toList.zip vs).map (·.1)=ps.toList:=by exact List.map_fst_zip (by rw[Ek,hx];simp)
 have hT1:∀i,i<N->i∉ps.toList->tv V a1 i=tv V0 a i:=by intro i hi hip;rw[vP _ _<|.inl<|by omega,vP _ _<|.inl<|by omega,UO];exact vu _ _ _ (by rw[ZN];exact hip)
 have hTh:∀j,tv V a1 (1000000+j)=tv V0 a (ex.getD j 0):=by
  intro j;have cM:a1.tmps.size=N:=by
   rw[UO,<-ha];have:∀(q:List (Tmp×Value))(t:Array Value),(q.foldl (λtmps p=>tmps.setIfInBounds p.1 p.2) t).size=t.size:=by
    intro q
    induction q with
    |nil=>intro t;rfl
    |cons p q ih=>intro t;simp[aeK];rw[ih];simp
   exact this _ _
  unfold tv;rw[if_neg<|by omega,hv];show tv V0 a (ex.getD (1000000+j-1000000) 0)=_;rw[ahs];rfl
 have hgd:∀{j r:Nat},ex[j]?=some r->ex.getD j 0=r/\j<ex.length:=λh=>⟨by rw[aca,h];rfl,(afM.1 h).1⟩;have aiT:∀j,gt (sl<|cat vw<|cat (rS ps.toList xs)<|qS 1000000 zs) (1000000+j)=match zs[j]?with|some v=>⟨v,0,0⟩|none=>⟨.dead,0,0⟩:=by
  intro j;have g1:∀q∈vw,q.1≠1000000+j:=λq hq e=>by have:=(hvw q hq).2.1;omega
  have g2:∀q∈rS ps.toList xs,q.1≠1000000+j:=by intro q hq e;obtain⟨t,h1,-⟩:=Cn (i:=q.1) (v:=q.2) hq;have h3:q.1<N:=hpN q.1<|agr h1;exact absurd e<|Nat.ne_of_lt<|adv h3<|acX hN<|Nat.le_add_right _ _
  rw[HP g1,HP g2,PB]
 have dz:∀{i:Nat}{v:SV},(i,v)∈cat vw (cat (rS ps.toList xs)<|qS 1000000 zs)->(i,v)∈vw\/(i,v)∈rS ps.toList xs\/(i,v)∈qS 1000000 zs:=by intro i v h;rw[c8,c8]at h;simpa using h
 refine⟨λi=>?_,λi=>?_,λi j gS c hb=>?_,λi c hb=>?_,hS⟩
 ·by_cases hi:1000000<=i
  ·obtain⟨j,rfl⟩:∃j,i=1000000+j:=⟨i-1000000,by omega⟩;have hh:=aiT j;by_cases hj:j<ex.length
   ·rw[if_pos ⟨by omega,by omega⟩,ahs];obtain⟨z,hz⟩:∃z,zs[j]?=some z:=⟨_,acL<|by omega⟩;rw[hz]at hh;rw[ak.aB<|by rw[dq,hh,dh];exact hzp z<|agr hz,dq,hh,hTh];exact fK j z.den (by rw[ja];simp[hz]) hj
   rw[if_neg<|by omega];rw[adA<|by omega]at hh;rw[ak.aB<|by rw[dq,hh];rfl,dq,hh];simp[SV.den,Rel]
  rw[if_neg<|by omega];rcases FP (L:=cat vw<|cat (rS ps.toList xs)<|qS 1000000 zs) (i:=i)with h|h
  ·rw[ak.aB<|by rw[dq,h];rfl,dq,h];simp[SV.den,Rel]
  rcases dz h with h|h|h
  ·obtain⟨Sp,x9,hip⟩:=hvw _ h;have hT:=hT1 i x9 hip;have e:(dn (sl<|cat vw<|cat (rS ps.toList xs)<|qS 1000000 zs) i).av=(gt (sl<|cat vw<|cat (rS ps.toList xs)<|qS 1000000 zs) i).v.den:=dq _ _
   replace Sp:View σ ex is i (gt (sl<|cat vw<|cat (rS ps.toList xs)<|qS 1000000 zs) i).v.den:=Sp
   rw[<-e]at Sp;generalize amQ:dn (sl<|cat vw<|cat (rS ps.toList xs)<|qS 1000000 zs)=σB at Sp⊢;generalize hd:(σB i).av=d at Sp;cases Sp with
   |own hj=>obtain⟨q1,q2⟩:=hgd hj;unfold ak;rw[hd];refine⟨rfl,abC _,abC _,λ_ _ _=>⟨.val<|tv V a1<|1000000+_,rfl,?_,by simp⟩⟩;show tv V a1 i=_;rw[hTh,q1,hT]
   |bA hj p1 p2 p3=>
    obtain⟨q1,q2⟩:=hgd hj;have hr:=hc.rel i;unfold ak at hr⊢;rw[p1]at hr;rw[hd];obtain⟨L,k1,k2,k3⟩:=hr.2.2.2 p3 (.inl p2) λh=>by rw[p2]at h;cases h
    obtain⟨u,rfl⟩:=FX p2 k1;refine⟨rfl,abC _,abC _,λ_ _ _=>⟨.val u,?_,?_,by simp⟩⟩
    ·rw[hTh,q1,<-FU (w:=w0) p2];exact k1
    show tv V a1 i=u;rw[hT];exact k2
   |ptr hj p1 p2 p3=>
    obtain⟨q1,q2⟩:=hgd hj;have hr:=hc.rel i;unfold ak at hr⊢;rw[p1]at hr;rw[hd];obtain⟨ad,k1,k2⟩:=hr.2.2.2.2 p3 (.inl p2) λh=>by rw[p2]at h;cases h
    refine⟨rfl,abC _,abC _,by rw[hT];exact hr.2.2.2.1,λ_ _ _=>⟨ad,?_,by rw[hT];exact k2⟩⟩;rw[hTh,q1,<-J3 (w:=w0) p2];exact k1
   |val aZ=>rw[ak.aB<|by rw[hd];exact(his i aZ).1,hd,hT];exact o5 ((σ i).av,tv V0 a i) (ac0.2 ⟨i,aZ,rfl⟩)
  ·obtain⟨t,h1,h2⟩:=Cn h;have gE:=Cells.get t eH rfl;rw[ja,h2]at gE;obtain⟨z,z1,z2⟩:=gE;have Ks:(i,z)∈ps.toList.zip vs:=by
    refine agr (i:=t) ?_;rw[List.getElem?_zip_eq_some];exact⟨h1,z1⟩
   have x9:=hpN i<|agr h1;have hT:tv V a1 i=z:=by rw[vP _ _<|.inl<|by omega,UO];exact KZ _ _ _ _ (by rw[ZN];exact Rz) Ks (by rw[ha];exact x9)
   rw[ak.aB<|by rw[dq];exact z2.plain,dq,hT];exact z2
  have:=Pr h;omega
 ·split
  ·rename_i h;exact BF _ h.2
  simp
 ·split at hb
  ·rename_i h;split
   ·rename_i h';exact hdj _ _ h.2 h'.2 (by omega) c hb
   simp
  cases hb
 split at hb
 ·rename_i h;have:=eQ _ h.2 c hb;exact⟨.inr<|hg _ h.2 c hb,this⟩
 cases hb
end
section
variable{R:Option Nat->Prop}{P:Program}{N:Nat}{F:St->Prop}{k:List It}{l:aV}
section
variable{cL:Array Edge}{ba:Array Operand}{ts:Array _}{Sm:Bool}{gf:FuncId}{h:lQ}{K:List Mv->St->Prop}{ks:List Nat}{d:Nat}{f m x:Operand}{g:Option (Nat×Bool)}{r:SV}{l':aV}{t:TypeId}
def DN(l:aV):List Nat->List (Nat×Nat)
 |[]=>[]
 |t::ts=>match gt l t with
  |⟨_,a,_⟩=>(t,a)::DN l ts
def LC(l:aV):∀ts:List Nat,DN l ts=ts.map λt=>(t,(dn l t).g1)
 |[]=>rfl
 |t::ts=>by simp[DN,LC l ts,AJ]
def OX(d:Nat):List Nat->Bool
 |[]=>true
 |t::ts=>cW (ne' t d)<|OX d ts
def FJ{d:Nat}:∀{ts:List Nat},OX d ts=true->ts.all (λt=>t !=d)=true
 |[],_=>rfl
 |t::ts,h=>by simp[OX,aN]at h;simp only[adl,acd];exact⟨by simpa using ne_iff.1 h.1,FJ h.2⟩
def TV(l:aV)(d:Nat)(g:FuncId)(first ba:List Operand):Option (aV×List Nat):=
 match first with
 |[]=>(slotsOf ba).bind λts=>(gF<|OX d ts).bind λ_=>Jv l d (.fI g<|DN l ts) λl'=>some (l',[d])
 |_::_=>none
def Tf{all:Array Oper}{first:Array Operand}{ty:TypeId}{pos:String}
 (hg:cP l all.toList g=some true)(h:TV l d gf first.toList ba.toList=some (l',ks))(hk:∀ms,aU ms=ks->K ms (dn l')):
 Jh P all ⟨some d,.makeFunc (.func gf) first ba,ty,pos,cL,g⟩ (dn l) K:=by
 unfold TV at h;split at h<;>try(cases h)
 rename_i hf;simp only[ab3,bu]at h;obtain⟨ts,h1,_,h2,rfl,rfl⟩:=h;refine⟨.mkc,[.put d<|.fI gf<|DN l ts],[],dn<|QR l d<|.fI gf<|DN l ts,?_,by simp,?_,hk _ rfl⟩
 ·unfold eP;rw[dC (o:=⟨some d,.makeFunc (.func gf) first ba,ty,pos,cL,g⟩) hg];simp[kz,hf,h1,FJ h2,LC]
 have:=kM l d<|.fI gf<|DN l ts;rw[<-this];rfl
def ahX{all:Array Oper}{rest:List Oper}{first:Array Operand}{ty:TypeId}{pos:String}
 (hg:cP l all.toList g=some true)(h:TV l d gf first.toList ba.toList=some (l',ks))(hk:AK R P N F (.ops all rest::k) l'):
 AK R P N F (.ops all (⟨some d,.makeFunc (.func gf) first ba,ty,pos,cL,g⟩::rest)::k) l:=by
 exact Tf hg h λms _=>hk
def LA(l:aV):List (Nat×Nat)->Option (List SR)
 |[]=>some []
 |(t,a)::q=>match gt l t with
  |⟨v,g1,g2⟩=>(gF<|cW (Nat.ble (t+1) 1000000)<|cW v.plain<|Nat.beq g1 a).bind λ_=>(LA l q).bind λxs=>some<|⟨some t,⟨v,g1,g2⟩,⟨.dead,0,0⟩⟩::xs
def DM:∀{ba:List (Nat×Nat)}{xs:List SR},LA l ba=some xs->ba.all (λq=>decide (q.1<1000000)&&(dn l q.1).av.plain&&(dn l q.1).g1==q.2)=true/\(ba.map λq=>resolve (dn l)<|.tmp q.1)=xs.map SR.den
 |[],xs,h=>by simp[LA]at h;simp_all
 |(t,a)::q,xs,h=>by
  simp only[LA,ab3,bu,aN,beq_iff,abr]at h;obtain⟨_,⟨h1,h2,h3⟩,ys,h4,rfl⟩:=h;obtain⟨k1,k2⟩:=DM h4;have hp:(dn l t).av.plain=true:=by rw[dq,dh];exact h2
  constructor
  ·simp only[adl,acd,decide_eq_true_eq,beq_iff_eq];exact⟨⟨⟨adk h1,hp⟩,by rw[AJ];exact h3⟩,k1⟩
  simp[k2];have:bM.of (dn l) t=⟨some t,dn l t,.none⟩:=by unfold bM.of;cases hv:(dn l t).av<;>rw[hv]at hp<;>first|rfl|(simp[AV.plain]at hp)
  show bM.of (dn l) t=_;rw[this];rfl
def CY(l:aV)(f:Operand)(aas:List Operand):Option lQ:=
 match f with
 |.tmp t=>match(gt l t).v with
  |.fI g ba=>(jg l aas).bind λxs=>(LA l ba).bind λcs=>match cat xs cs with
   |zs=>match eC [] zs with
    |R=>(DW R zs).bind λys=>(gF<|Nat.ble (len ys) 1000000).bind λ_=>some ⟨g,ys,R⟩
  |_=>none
 |_=>none
def Th{all:Array Oper}{dst:Option Nat}{aas:Array _}{ty:TypeId}{pos:String}{out:List SV}
 (hg:cP l all.toList g=some true)(hh:CY l f aas.toList=some h)(hs:lp P h.g (lv h.R) h.aas out r)(ht:ic l dst h.R out r=some (l',ks))(hk:∀ms,aU ms=ks->K ms (dn l')):
 Jh P all ⟨dst,.call ⟨.value f,aas,ts⟩,ty,pos,cL,g⟩ (dn l) K:=by
 unfold CY at hh;split at hh<;>try(cases hh)
 rename_i t;split at hh<;>try(cases hh)
 rename_i gf ba hv;simp only[ab3,bu,abr]at hh;obtain⟨xs,h1,cs,h2,ys,h3,_,h4,rfl⟩:=hh;obtain⟨c1,c2⟩:=DM h2;have cC:(dn l t).av=.fI gf ba:=by rw[dq,hv];rfl
 have UL:(aas.toList.map (resolve<|dn l)++ba.map λq=>resolve (dn l)<|.tmp q.1)=(cat xs cs).map SR.den:=by rw[eD l h1,c2,c8,ac9]
 simp[ic]at ht;split at ht<;>try(cases ht)
 rename_i hb;simp[aN,not_iff]at hb;obtain⟨b1,b2,b3,b4,b5⟩:=hb;have e1:du [] ((cat xs cs).map SR.den)=jz (eC []<|cat xs cs):=lE [] _;have e2:rP (jz<|eC []<|cat xs cs) ((cat xs cs).map SR.den)=some (au ys):=tW h3;have KF:Ai.uI dst (resolve (dn l)<|.func gf) ((cat xs cs).map SR.den) (au out) r.den=some (cK dst r.den [.back<|oz (jz<|eC []<|cat xs cs)<|au out],[.refs gf (au<|lv<|eC []<|cat xs cs) (au ys) (au out) r.den]):=by
  unfold Ai.uI;have hf:(resolve (dn l)<|.func gf).cont=some (.fn (.func gf) [] []):=rfl;rw[hf];simp only[bx,aho,if_true,e1,e2,vU];rw[if_pos]
  ·simp
  simp[gW _ b2,gW _ b3,dh,b4,wL _ _ b5,Dy,bq,decide_eq_true_eq];have:=adk h4;simp[eV]at this b1;exact⟨b1,by simpa using this⟩
 have mn:Mv.runs (dn l) (cK dst r.den [.back<|oz (jz<|eC []<|cat xs cs)<|au out])=some (dn l')/\aU (cK dst r.den [.back<|oz (jz<|eC []<|cat xs cs)<|au out])=ks:=by
  cases dst with
  |none=>cases ht;exact⟨by simp[cK,Mv.runs,Mv.run,jl],by simp[cK,aU,adw];exact nZ _ _ b1⟩
  |some d=>simp[fo,ac3]at ht;obtain⟨rfl,rfl⟩:=ht;exact⟨by simp[cK,Mv.runs,Mv.run,jl,gK],by simp[cK,aU,Mv.keys,c8<|RR _];rw[nZ _ _ b1]⟩
 refine⟨.fI (au out) r.den,_,[.refs gf (au<|lv<|eC []<|cat xs cs) (au ys) (au out) r.den],dn l',?_,?_,mn.1,hk _ mn.2⟩
 ·unfold eP;rw[dC (o:=⟨dst,.call ⟨.value<|.tmp t,aas,ts⟩,ty,pos,cL,g⟩) hg];simp only[kz,cC];rw[if_pos c1,UL];exact KF
 simp[Ob.ok];exact hs
def aj0{all:Array Oper}{rest:List Oper}{dst:Option Nat}{aas:Array _}{ty:TypeId}{pos:String}{out:List SV}
 (hg:cP l all.toList g=some true)(hh:CY l f aas.toList=some h)(hs:lp P h.g (lv h.R) h.aas out r)(ht:ic l dst h.R out r=some (l',ks))(hk:AK R P N F (.ops all rest::k) l'):
 AK R P N F (.ops all (⟨dst,.call ⟨.value f,aas,ts⟩,ty,pos,cL,g⟩::rest)::k) l:=by
 exact Th hg hh hs ht λms _=>hk
def HO(l:aV)(m x:Operand):Option ((Obj->Prop)×SV):=
 (dP l m).bind λm=>(cX m).bind λ(ob,v)=>match ob with
   |[]=>match v with
    |.mp K=>(dP l x).bind λx=>(cX x).bind λ(dX,y)=>match dX with
     |[]=>(gF y.aF).bind λ_=>some (K,y)
     |_::_=>none
    |_=>none
   |_::_=>none
def aaN{all:Array Oper}{ty:TypeId}{pos:String}{h:(Obj->Prop)×SV}{y:SV}
 (hg:cP l all.toList g=some true)(hh:HO l m x=some h)(hy:y.aF=true)(hs:Looks P t Sm h.1 h.2.den y.den)(ht:rF l [] d y (λl'=>some (l',[d]))=some (l',ks))(hk:∀ms,aU ms=ks->K ms (dn l')):
 Jh P all ⟨some d,.lookup t m x Sm,ty,pos,cL,g⟩ (dn l) K:=by
 simp[HO,ab3]at hh;obtain⟨xm,h1,ob,v,h2,h3⟩:=hh;split at h3<;>try(cases h3)
 split at h3<;>try(cases h3)
 rename_i K0;simp[ab3]at h3;obtain⟨xx,h4,dX,v',h5,h6⟩:=h3;split at h6<;>try(cases h6)
 simp only[ab3,bu,abr]at h6;obtain⟨_,h7,rfl⟩:=h6;simp[fo]at ht;obtain⟨rfl,rfl⟩:=ht;refine⟨.Wo y.den,cK (some d) y.den [],[.Wo t Sm K0 v'.den y.den],dn<|OY l [] d y,?_,?_,?_,hk _<|by simp[cK,aU,Mv.keys]⟩
 ·unfold eP;rw[dC (o:=⟨some d,.lookup t m x Sm,ty,pos,cL,g⟩) hg];have e1:(resolve (dn l) m).cont=some (.mp K0):=by rw[cF h1];exact aE h2 ao
  have e2:(resolve (dn l) x).cont=some v'.den:=by rw[cF h4];exact aE h5 ao
  simp[kz,e1,e2,cz,h7,hy]
 ·simp;exact hs
 have:=gK l [] d y;simp[cK,jf];rw[this]
def ahY{all:Array Oper}{mm:List Nat}{acc:List (List Nat×List Nat)}{rest:List Oper}{ty:TypeId}{pos:String}{h:(Obj->Prop)×SV}(y:SV)
 (hg:cP l all.toList g=some true)(hh:HO l m x=some h)(hy:y.aF=true)(hs:Looks P t Sm h.1 h.2.den y.den)(ht:rF l [] d y (λl'=>some (l',[d]))=some (l',ks))
 (hk:AK R P N F (.og all mm rest ((ix (dn l) all ⟨some d,.lookup t m x Sm,ty,pos,cL,g⟩,ks)::acc)::k) l'):
 AK R P N F (.og all mm (⟨some d,.lookup t m x Sm,ty,pos,cL,g⟩::rest) acc::k) l:=by
 exact aaN hg hh hy hs ht λms mn=>by rw[mn];exact hk
end
end
section
variable{R:Option Nat->Prop}{P:Program}{N:Nat}{F:St->Prop}{k:List It}{l:aV}
section
variable{b:Bool}{y:List SV}{i:Nat}{pe:Option Code}{σ:St}
def nk.fit{V:Hid}{w0 w:World}{S0:Nat->Prop}{a:Act}{l':List (Nat×SV)}(hf:uK l l')(h:nk N V w0 S0 (dn l) a w):nk N V w0 S0 (dn<|sl l') a w:=by
 obtain⟨S,F,ds,hc,hN,jx,jn,gD,dB,hm0,hm⟩:=h;have hi:Inv N (V.VY F a.defers) w S (dn l) a w:=⟨S,F,⟨hc.rel,hc.nodup,hc.di,λi b hb=>⟨.inr ⟨i,hb⟩,(hc.own i b hb).2⟩,hc.shr⟩,hN,rfl,λ_ h=>h,λ_ h=>.inl h,lP.refl _ _⟩
 obtain⟨S',F',cm,yd,-,k1,k2,-⟩:=HH hf hi;have hFm:∀i b,b∈F' i->∃j,b∈F j:=λi b hb=>by
  have:=cm.own i b hb;rcases this.1 with h|h
  ·omega
  exact h
 have hSm:∀b,S' b->S b\/∃j,b∈F j:=λb hb=>by
  rcases k2 b hb with h|h
  ·exact .inl h
  rcases h with h|h
  ·exact absurd (cm.shr b hb)<|Nat.not_lt.2 h
  exact .inr h
 refine⟨S',F',ds,⟨cm.rel,cm.nodup,cm.di,λi b hb=>?_,cm.shr⟩,hN,jx,λb hb=>k1 b<|jn b hb,λb hb=>?_,dB,hm0,λd hd=>?_⟩
 ·obtain⟨j,hj⟩:=hFm i b hb;exact⟨(hc.own j b hj).1,(cm.own i b hb).2⟩
 ·rcases hSm b hb with h|⟨j,hj⟩
  ·exact gD b h
  exact .inr (hc.own j b hj).1
 obtain⟨D,e1,e2,e3,e4,e5⟩:=hm d hd;refine⟨D,e1,e2,e3,λh=>?_,λi h=>?_⟩
 ·rcases hSm D h with h|⟨j,hj⟩
  ·exact e4 h
  exact e5 j hj
 obtain⟨j,hj⟩:=hFm i D h;exact e5 j hj
def Zd{c:Code}{Q Q':Exit->St->Prop}(h:AW R P N c Q σ)(hq:∀e σ',Q e σ'->∃L6,Q' e L6/\∀V w0 S0 a w,nk N V w0 S0 σ' a w->nk N V w0 S0 L6 a w):AW R P N c Q' σ:=by intro V w0 S0 a w hR hi;refine wpIn_mono (h V w0 S0 a w hR hi) ?_;rintro e a' w'⟨σ',h1,h2⟩;obtain⟨L6,h3,h4⟩:=hq e σ' h1;exact⟨L6,h3,h4 _ _ _ _ _ h2⟩
def MG:List Nat->Nat->Option Nat
 |[],_=>none
 |r::ex,i=>match Nat.beq r i with
  |true=>some 0
  |false=>match MG ex i with
   |some k=>some (k+1)
   |none=>none
def aab:∀{ex:List Nat}{i j:Nat},MG ex i=some j->ex[j]?=some i
 |[],i,j,h=>by simp[MG]at h
 |r::ex,i,j,h=>by
  simp[MG]at h;split at h
  ·rename_i e;cases h;rw[adi e];rfl
  split at h<;>try(cases h;done)
  rename_i k hk;cases h;simpa using aab hk
def SC(l:aV)(ex:List Nat)(i:Nat):Option (SV×Bool):=
 match MG ex i with
 |some j=>some (.bA (1000000+j) 0 0 [],false)
 |none=>match(gt l i).v with
  |.bA r g1 _ p=>match MG ex r with
   |some j=>(gF<|cW (kl p)<|Nat.beq (gt l r).g1 g1).bind λ_=>some (.bA (1000000+j) 0 0 p,false)
   |none=>none
  |.ptr r g1 _ p=>match MG ex r with
   |some j=>(gF<|cW (flat p)<|Nat.beq (gt l r).g1 g1).bind λ_=>some (.ptr (1000000+j) 0 0 p,false)
   |none=>none
  |v=>(gF<|cW v.plain v.aF).bind λ_=>some (v,true)
def Mc{ex:List Nat}{v:SV}{t:Bool}(h:SC l ex i=some (v,t)):(t=false->∀is,View (dn l) ex is i v.den)/\(t=true->(dn l i).av=v.den/\v.den.plain=true/\v.den.aF=true):=by
 unfold SC at h;split at h
 ·rename_i j hj;cases h;exact⟨λ_ _=>.own<|aab hj,λh=>by simp at h⟩
 split at h
 ·rename_i r g1 g2 p hv;split at h<;>try(cases h)
  rename_i j hj;simp only[ab3,bu,aN,beq_iff]at h;obtain⟨_,⟨h1,h2⟩,rfl,rfl⟩:=h;exact⟨λ_ _=>.bA (aab hj) (by rw[dq,hv];rfl) h1<|by rw[AJ];exact h2,λh=>by simp at h⟩
 ·rename_i r g1 g2 p hv;split at h<;>try(cases h)
  rename_i j hj;simp only[ab3,bu,aN,beq_iff]at h;obtain⟨_,⟨h1,h2⟩,rfl,rfl⟩:=h;exact⟨λ_ _=>.ptr (aab hj) (by rw[dq,hv];rfl) h1<|by rw[AJ];exact h2,λh=>by simp at h⟩
 simp only[ab3,bu,aN]at h;obtain⟨_,⟨h1,h2⟩,rfl,rfl⟩:=h;exact⟨λh=>by simp at h,λ_=>⟨by rw[dq],by rw[dh];exact h1,by rw[cz];exact h2⟩⟩
def Re:List Nat->Nat->Bool
 |[],_=>false
 |r::q,i=>EP (Nat.beq r i)<|Re q i
def Cy:∀{q:List Nat}{i:Nat},Re q i=true↔i∈q
 |[],i=>by simp[Re]
 |r::q,i=>by simp[Re,ru,Cy (q:=q)];exact⟨λh=>h.imp (λe=>e.symm) id,λh=>h.imp (λe=>e.symm) id⟩
def BP(l:aV)(ex ps:List Nat)(N:Nat):List Nat->Option (List (Nat×SV)×List Nat)
 |[]=>some ([],[])
 |i::q=>(gF<|cW (Nat.ble (i+1) N)<|not'<|Re ps i).bind λ_=>(SC l ex i).bind λ(v,t)=>(BP l ex ps N q).bind λ(vw,is)=>match t with
  |true=>some ((i,v)::vw,i::is)
  |false=>some ((i,v)::vw,is)
def View.more{ex is is':List Nat}{v:AV}(h:View σ ex is i v)(hs:∀j∈is,j∈is'):View σ ex is' i v:=by
 cases h with
 |own h=>exact .own h
 |bA h h1 h2 h3=>exact .bA h h1 h2 h3
 |ptr h h1 h2 h3=>exact .ptr h h1 h2 h3
 |val h=>exact .val<|hs _ h
def zM{ex ps:List Nat}:∀{q:List Nat}{vw:List (Nat×SV)}{is:List Nat},BP l ex ps N q=some (vw,is)->
 (∀i∈is,(dn l i).av.plain=true/\(dn l i).av.aF=true)/\∀x∈vw,View (dn l) ex is x.1 x.2.den/\x.1<N/\x.1∉ps
 |[],vw,is,h=>by simp[BP]at h;obtain⟨rfl,rfl⟩:=h;simp
 |i::q,vw,is,h=>by
  simp only[BP,ab3,bu,aN,afh]at h;obtain⟨_,⟨h1,h2⟩,v,t,h3,vw',is',h4,h5⟩:=h;obtain⟨k1,k2⟩:=zM h4;obtain⟨m1,m2⟩:=Mc h3;have hn:=adk h1;have hp:i∉ps:=λhh=>by rw[Cy.2 hh]at h2;cases h2
  cases t with
  |true=>
   cases h5;obtain⟨e1,e2,e3⟩:=m2 rfl;refine⟨λj hj=>?_,λx hx=>?_⟩
   ·rcases aci.1 hj with rfl|hj
    ·rw[e1];exact⟨e2,e3⟩
    exact k1 j hj
   rcases aci.1 hx with rfl|hx
   ·exact⟨by dsimp only;rw[<-e1];exact .val<|by simp,hn,hp⟩
   obtain⟨a1,a2,a3⟩:=k2 x hx;exact⟨a1.more λj hj=>ah1 _ hj,a2,a3⟩
  |false=>
   cases h5;refine⟨k1,λx hx=>?_⟩;rcases aci.1 hx with rfl|hx
   ·exact⟨m1 rfl _,hn,hp⟩
   exact k2 x hx
def JQ:List Nat->Bool
 |[]=>true
 |i::q=>cW (not'<|Re q i)<|JQ q
def u7:∀{q:List Nat},JQ q=true->q.Nodup
 |[],_=>adn
 |i::q,h=>by simp[JQ,aN,not_iff]at h;exact adm.2 ⟨λhh=>by rw[Cy.2 hh]at h;simp at h,u7 h.2⟩
def Iu(N:Nat):List Nat->Bool
 |[]=>true
 |i::q=>cW (Nat.ble (i+1) N)<|Iu N q
def AS:∀{q:List Nat},Iu N q=true->∀i∈q,i<N
 |[],_,i,hi=>by cases hi
 |j::q,h,i,hi=>by
  simp only[Iu,aN]at h;rcases aci.1 hi with rfl|hi
  ·exact adk h.1
  exact AS h.2 i hi
def Bx(l:aV):List Nat->Bool
 |[]=>true
 |i::q=>cW (gt l i).v.plain<|Bx l q
def wu:∀{q:List Nat},Bx l q=true->∀i∈q,(dn l i).av.plain=true
 |[],_,i,hi=>by cases hi
 |j::q,h,i,hi=>by
  simp[Bx,aN]at h;rcases aci.1 hi with rfl|hi
  ·rw[dq,dh];exact h.1
  exact wu h.2 i hi
def LM(l:aV):List Nat->List SV
 |[]=>[]
 |i::q=>(gt l i).v::LM l q
def GJ:∀(q:List Nat)(j:Nat),j<q.length->(au<|LM l q)[j]?=some (dn l<|q.getD j 0).av
 |[],j,h=>by cases h
 |i::q,j,h=>by
  cases j with
  |zero=>simp[LM,au,dq]
  |succ j=>exact GJ q j (by simpa using h)
def sL(l:aV):List Nat->List SV->aV
 |[],_=>l
 |r::ex,ys=>match ys with
  |[]=>(match gt l r with|⟨_,a,b⟩=>(r,⟨.dead,a,b+1⟩)::sL l ex [])
  |y::ys=>(match gt l r with|⟨_,a,b⟩=>(r,⟨y,a,b+1⟩)::sL l ex ys)
def qM:∀(ex:List Nat)(ys:List SV),oM (dn l) ex (au ys)=dn (sL l ex ys)
 |[],ys=>by funext i;simp[oM,idxOf,sL]
 |r::ex,ys=>by
  funext i
  cases ys with
  |nil=>
   simp[sL,eW,gQ,Cl.den,SV.den,<-qM ex []];unfold oM;simp[idxOf,au];by_cases h:r=i
   ·subst h;simp[AJ,PN]
   have h':¬i=r:=λe=>h e.symm;simp[h,h'];cases idxOf ex i<;>simp
  |cons y ys=>
   simp[sL,eW,gQ,Cl.den,<-qM ex ys];unfold oM;simp[idxOf,au];by_cases h:r=i
   ·subst h;simp[AJ,PN]
   have h':¬i=r:=λe=>h e.symm;simp[h,h'];cases idxOf ex i<;>simp
def Oo(y:List SV)(σ:St):Prop:=∃l l',σ=dn l/\uK l l'/\HN (sl l') 1000000 y
def NB(y:List SV)(b:Bool)(pe:Option Code)(σ:St):Prop:=(b=true/\pe=none)/\Oo y σ
def RB(y:List SV)(b:Bool)(pe:Option Code)(σ:St):Prop:=(b=false/\pe=some .ret)/\Oo y σ
def Body(P:Program)(N:Nat)(body:Code)(y:List SV)(b:Bool)(pe:Option Code)(σ:St):Prop:=fR R1 P N (RB y b pe) [.code body,.inv<|NB y b pe] .normal σ
def sn{body:Code}(h:AK R1 P N (RB y b pe) [.code body,.inv<|NB y b pe] l):AK R P N F [.inv<|Body P N body y b pe] l:=h
def An(l':List (Nat×SV))(hb:b=true)(hp:pe=none)(hf:AZ l l')(hh:HN (sl l') 1000000 y):AK R P N F (.inv (NB y b pe)::k) l:=⟨⟨hb,hp⟩,l,l',rfl,hf.IG,hh⟩
def adR(l':List (Nat×SV))(hb:b=false)(hp:pe=some .ret)(hf:AZ l l')(hh:HN (sl l') 1000000 y):AK R P N (RB y b pe) [] l:=⟨⟨hb,hp⟩,l,l',rfl,hf.IG,hh⟩
def Ad(h:Oo y σ):∃L6,(∀(j:Nat)(v:AV),(au y)[j]?=some v->(L6<|1000000+j).av=v/\v.plain=true)/\∀V w0 S0 a w,nk N V w0 S0 σ a w->nk N V w0 S0 L6 a w:=by obtain⟨l,l',rfl,h1,h2⟩:=h;exact⟨dn<|sl l',λj v hv=>Kw j h2 hv,λV w0 S0 a w hi=>hi.fit h1⟩
def Cb{g:Operand}{ps:Array Tmp}{assign body:Code}{gf:FuncId}{fng:Func}{captured:List SV}{sr:SR}{vw:List (Nat×SV)}{is:List Nat}(ex vs:List Nat)(n m:Nat)(x y:Nat->List SV)(b:Nat->Bool)(pe:Nat->Option Code)(r:SV)
 (hN:Nat.ble N 1000000=true)(hgf:aI g=true)(hg:dP l g=some sr)(hg2:cX sr=some ([],.fn (.func gf) [] captured))(gu:gm captured=true)(hf:P.funcs[gf]?=some fng)(hfb:fng.body.isNone=false)(Yi:(fng.name== "runtime.NumGoroutine")=false)(Bg:Nat.ble (len captured+1) 999999=true)
 (hex:cW (JQ ex) (Bx l ex)=true)(Rz:cW (JQ ps.toList) (Iu N ps.toList)=true)(hvw:BP l ex ps.toList N vs=some (vw,is))
 (hx:∀k,k<n->(x k).length=ps.size)(hy:∀k,(y k).length=ex.length)(hyp:∀k,k<n->∀z∈y k,z.plain=true)(F9:y 0=LM l ex)(abK:pe 0=none)(HK:∀k,k<n->(∀j,j<k->b j=true)->pe k=none)
 (hit:∀(C:Value->Prop)(J:Nat->pk),(∀v,C v->∀k,k<n->(∀j,j<k->b j=true)->Yields P (J k) (J<|k+1) (au<|x k) (b k) v)->lp P gf [.abs<|J 0] (.pv C::captured) [.abs<|J m] r)
 (KE:∀k,k<n->(∀j,j<k->b j=true)->AK R1 P N (λ_=>False) [.code assign,.inv<|Body P N body (y<|k+1) (b k)<|pe<|k+1] (sl<|cat vw<|cat (rS ps.toList<|x k)<|qS 1000000 (y k)))
 (afn:pe m=none->AK R0 P N F k (sL l ex<|y m))(afm:∀c,pe m=some c->c=.ret/\AK R0 P N F [] (sL l ex<|y m)):AK R0 P N F (.code (.rangeFunc g ps assign body)::k) l:=by
 rw[aN]at hex Rz;obtain⟨v1,v2⟩:=zM hvw;have yd:=adk hN;have Ns:(au captured).length<999999:=by rw[bq,<-eV];exact adk Bg
 refine VS (σ:=dn l) (σB:=λk=>dn<|sl<|cat vw<|cat (rS ps.toList<|x k)<|qS 1000000 (y k)) (captured:=au captured) (r:=r.den) (ex:=ex) (is:=is) (n:=n) (m:=m) (x:=λk=>au<|x k) (y:=λk=>au<|y k) (b:=b) (pe:=pe) yd hgf ?_ ?_ hf hfb Yi Ns (u7 hex.1) (wu hex.2) v1 ?_ ?_ ?_ abK HK ?_ ?_ ?_ ?_
 ·rw[cF hg];exact aE hg2 ao
 ·rw[dS];exact gu
 ·intro k hk;rw[bq];exact hx k hk
 ·intro k;rw[bq];exact hy k
 ·intro j hj;rw[F9];exact GJ ex j hj
 ·exactλC J h=>hit C J h
 ·intro V a w S B F' ha hc k hk;exact QC yd ha hc v1 v2 (u7 Rz.1) (AS Rz.2) (hx k hk) (hy k) (hyp k hk)
 ·intro k hk hb;have h1:=KE k hk hb;refine jm h1 λe σ1 he=>?_;cases e with
  |normal=>
   refine⟨rfl,?_⟩;have h2:=he;refine Zd h2 λe σ2 h3=>?_;cases e with
   |normal=>obtain⟨h4,h5⟩:=h3;obtain⟨σ3,h6,h7⟩:=Ad (N:=N) h5;exact⟨σ3,⟨h4,h6⟩,h7⟩
   |ret=>obtain⟨h4,h5⟩:=h3;obtain⟨σ3,h6,h7⟩:=Ad (N:=N) h5;exact⟨σ3,⟨h4,h6⟩,h7⟩
   |_=>exact(show False from h3).elim
  |_=>exact(show False from he).elim
 cases hpm:pe m with
 |none=>rw[qM];exact afn hpm
 |some c=>obtain⟨rfl,h2⟩:=afm c hpm;rw[qM,mc];exact h2
end
end
section
variable{R:Option Nat->Prop}{P:Program}{N:Nat}{F:St->Prop}{k:List It}{l:aV}
section
variable{ks:List Nat}{o:Oper}{r:SV}{l':aV}
def ll(P:Program)(o:Oper)(H args H':List SV)(r:SV):Prop:=Wh P o (au H) (au args) (au H') r.den
def ll.same{H H2 aas bs G G2:List SV}{q:SV}(h:ll P o H aas G r)(e1:au H=au H2)(e2:au aas=au bs)(e3:au G=au G2)(e4:r.den=q.den):ll P o H2 bs G2 q:=by unfold ll at *;rw[<-e1,<-e2,<-e3,<-e4];exact h
structure zG where
 R:List (Nat×SV)
 aas:List SV
def yN(l:aV)(ops:List Operand):Option zG:=
 (jg l ops).bind λxs=>match eC [] xs with
   |R=>(DW R xs).bind λys=>(gF<|Nat.ble (len ys) 1000000).bind λ_=>some ⟨R,ys⟩
def Tg{all:Array Oper}{K:List Mv->St->Prop}{h:zG}{out:List SV}
 (hg:cP l all.toList o.guard=some true)(bt:rW (dn l) o.op=true)(hh:yN l o.op.operands.toList=some h)(hs:ll P o (lv h.R) h.aas out r)(ht:ic l o.dst h.R out r=some (l',ks))(hk:∀ms,aU ms=ks->K ms (dn l')):
 Jh P all o (dn l) K:=by
 unfold yN at hh;simp only[ab3,bu,abr]at hh;obtain⟨xs,h1,ys,h3,_,h4,rfl⟩:=hh;simp[ic]at ht;split at ht<;>try(cases ht)
 rename_i hb;simp[aN,not_iff]at hb;obtain⟨b1,b2,b3,b4,b5⟩:=hb;have e1:du [] (xs.map SR.den)=jz (eC [] xs):=lE [] _;have e2:=tW h3;have KF:O0 o.dst (xs.map SR.den) (au out) r.den=some (cK o.dst r.den [.back<|oz (jz<|eC [] xs)<|au out],au<|lv<|eC [] xs,au ys):=by unfold O0;simp[e1,e2,vU];simp[gW _ b2,gW _ b3,dh,wL _ _ b5,Dy,bq];have:=adk h4;simp[eV]at this b1;simp_all
 have mn:Mv.runs (dn l) (cK o.dst r.den [.back<|oz (jz<|eC [] xs)<|au out])=some (dn l')/\aU (cK o.dst r.den [.back<|oz (jz<|eC [] xs)<|au out])=ks:=by
  cases hd:o.dst with
  |none=>rw[hd]at ht;cases ht;exact⟨by simp[cK,Mv.runs,Mv.run,jl],by simp[cK,aU];exact nZ _ _ b1⟩
  |some d=>rw[hd]at ht;simp[fo]at ht;obtain⟨rfl,rfl⟩:=ht;exact⟨by simp[cK,Mv.runs,Mv.run,jl,gK],by simp[cK,aU,Mv.keys,c8];rw[nZ _ _ b1]⟩
 refine⟨.ext (au out) r.den,_,[.ext o (au<|lv<|eC [] xs) (au ys) (au out) r.den],dn l',?_,?_,mn.1,hk _ mn.2⟩
 ·unfold eP;rw[dC hg];simp[kz,bt,eD l h1,KF]
 simp[Ob.ok];exact hs
def ajQ{all:Array Oper}{rest:List Oper}{h:zG}{out:List SV}
 (hg:cP l all.toList o.guard=some true)(bt:rW (dn l) o.op=true)(hh:yN l o.op.operands.toList=some h)(hs:ll P o (lv h.R) h.aas out r)(ht:ic l o.dst h.R out r=some (l',ks))(hk:AK R P N F (.ops all rest::k) l'):
 AK R P N F (.ops all (o::rest)::k) l:=by
 exact Tg hg bt hh hs ht λms _=>hk
def ajR{all:Array Oper}{mm:List Nat}{acc:List (List Nat×List Nat)}{rest:List Oper}{h:zG}{out:List SV}
 (hg:cP l all.toList o.guard=some true)(bt:rW (dn l) o.op=true)(hh:yN l o.op.operands.toList=some h)(hs:ll P o (lv h.R) h.aas out r)(ht:ic l o.dst h.R out r=some (l',ks))
 (hk:AK R P N F (.og all mm rest ((ix (dn l) all o,ks)::acc)::k) l'):
 AK R P N F (.og all mm (o::rest) acc::k) l:=by
 exact Tg hg bt hh hs ht λms mn=>by rw[mn];exact hk
end
end
def xD{w:World}{S:Nat->Prop}:∀{xs:List AV}{vs:List Value},vs.length=xs.length->(∀i(h:i<xs.length),Rel w S xs[i] (vs.getD i undef) [])->Cells w S false xs vs []
 |[],vs,h,_=>by simp at h;simp[Cells,h]
 |x::xs,[],h,_=>by cases h
 |x::xs,v::vs,h,k=>by refine⟨v,vs,[],[],rfl,rfl,by simp,k 0 (by simp),xD (by simpa using h) λi hi=>?_⟩;have:=k (i+1) (by simp;omega);simpa using this
def qV{P:Program}{o:Oper}{args:List SV}{r:SV}(gu:gm args=true)(iD:aai args=true)(cS:args.length<1000000)
 (h:∀(w:World)(S:Nat->Prop)(vs:List Value),(∀b,S b->b<w.heap.size)->Cells w S false (au args) vs []->Ext P o vs.toArray w λv w'=>∃S' F,Below w.heap.size w w'/\(∀b,S b->S' b)/\(∀b,S' b->S b\/w.heap.size<=b)/\(∀b,S' b->b<w'.heap.size)/\
   Rel w' S' r.den v F/\F.Nodup/\∀b∈F,w.heap.size<=b/\b<w'.heap.size/\¬S' b):
 ll P o [] args [] r:=by
 intro w S V vs F hl hc;rw[bq]at hl;have mI:Cells w S false (au args) vs []:=by
  refine xD (by rw[bq];exact hl) λi hi=>?_;have aZ:i<args.length:=by rwa[bq]at hi
  have hr:=hc.rel i;have hb:=gG (args:=au args) (H:=au []) (i:=i) (by omega);rw[acL hi]at hb;have hp:(au args)[i].plain=true:=by have:=qH (gW _ iD)<|acL hi;exact this
  rw[ak.aB<|by rw[hb];exact hp,hb]at hr;have hn:(au args)[i].aF=true:=by
   have h2:bx (au args)=true:=by rw[dS];exact gu
   have:∀(l:List AV),bx l=true->∀x∈l,x.aF=true:=by
    intro l
    induction l with
    |nil=>intro _ x hx;cases hx
    |cons y l ih=>
     intro hl x hx;simp[bx]at hl;rcases aci.1 hx with rfl|hx
     ·exact hl.1
     simp_all
   exact this _ h2 _<|ab9 hi
  have e:=Rel.aF _ hr hn;rw[e]at hr;have hv:aX V vs i=vs.getD i undef:=by unfold aX;rw[if_pos<|by omega]
  rw[hv]at hr;exact hr
 refine Ext.mono ?_<|h w S vs hc.shr mI;rintro v w'⟨S',F',C0,hS1,hS2,hS3,fK,BF,hF⟩;have hpr:=fK.plain;have dB:∀i,(both [r.den] (au []) i).av=if i=0 then r.den else .dead:=by
  intro i;by_cases hi:i<1000000
  ·rw[gG hi];cases i with
   |zero=>rfl
   |succ i=>simp
  obtain⟨j,rfl⟩:∃j,i=1000000+j:=⟨i-1000000,by omega⟩;rw[fJ<|by simp];simp[au]
 refine⟨S',λi=>if i=0 then F' else[],⟨C0.os,C0.tape,C0.output,C0.size,λk hk _=>C0.block k hk⟩,hS1,λb h=>(hS2 b h).imp id .inl,⟨λi=>?_,λi=>?_,λi j gS b hb=>?_,λi b hb=>?_,hS3⟩⟩
 ·rw[ak.aB<|by rw[dB];split;exact hpr;rfl,dB];by_cases hi:i=0
  ·subst hi;have:aX V [v] 0=v:=rfl;rw[this];exact fK
  simp[hi,Rel]
 ·split
  ·exact BF
  simp
 ·split at hb
  ·rename_i hi;split
   ·rename_i hj;omega
   simp
  cases hb
 split at hb
 ·have:=hF b hb;exact⟨.inl this.1,this.2⟩
 cases hb
def N4{P:Program}{o:Oper}{src dst e:TypeId}{x:Operand}(s:bK){u:TypeDesc}(bU:o.op=.convert src dst x)(hs:P.underlying src=some u)(hd:P.underlying dst=some (.slice e))(he:P.underlying e=some (.int .u8)):
 ll P o [] [.s s] [] (.ints .u8 false<|s.map λc=>(c.toNat:Int)):=by
 refine qV rfl rfl (by simp) ?_;intro w S vs hS hc ρ hρ;obtain⟨y,l',F1,F2,rfl,hF,_,hr,rfl,rfl⟩:=hc;obtain⟨_,rfl,rfl⟩:=hr;have hx:ρ x=.string (bs s):=by rw[bU]at hρ;simpa[Op.operands]using hρ
 have bL:=Lib.run_convert_string_bytes (P:=P) w src dst e (bs s) hs hd he;refine⟨_,.slice (some ⟨w.heap.size,0,none⟩) (bs s).size<|grownCap w (bs s).size 0 e,Lib.bytesWorld w e<|bs s,?_,.inl rfl,λb=>S b\/b=w.heap.size,[],?_,λb h=>.inl h,λb h=>h.imp id λh=>by omega,λb h=>?_,?_,adn,by simp⟩
 ·simp[execOp,bU,hx];simp[bL]
 ·refine⟨rfl,rfl,rfl,by rw[Lib.bytesWorld_size];omega,λk hk=>Lib.bytesWorld_at_old w e (bs s) k hk⟩
 ·rw[Lib.bytesWorld_size];rcases h with h|h
  ·have:=hS b h;omega
  omega
 simp only[SV.den,Rel];right;have hlen:(bs s).size=s.length:=rfl;have jX:=grownCap_ge w (bs s).size 0 e;refine⟨w.heap.size,0,_,_,_,by rw[acZ,acZ,hlen],.inr rfl,by unfold row?;rw[Lib.bytesWorld_at_new],?_,?_,ao⟩
 ·rw[acZ,acZ];exact jX
 have hl:(((Lib.bytesCells w e<|bs s).toList.drop 0).take<|(((s.map λc=>(c.toNat:Int)).map λa=>AV.v<|.int .u8 a).length*1))=s.map λc=>Value.int .u8 c.toNat:=by rw[aeP];unfold Lib.bytesCells;rw[Array.toList_append,ah7<|by simp[bs]];simp[bs];exact acR (by simp)
 rw[hl];have:∀t:bK,cv (Lib.bytesWorld w e<|bs s) (λb=>S b\/b=w.heap.size) 1 ((t.map λc=>(c.toNat:Int)).map λa=>AV.v<|.int .u8 a) (t.map λc=>Value.int .u8 c.toNat) []:=by
  intro t
  induction t with
  |nil=>simp[cv]
  |cons c t ih=>exact⟨.int .u8 c.toNat,_,[],[],rfl,rfl,rfl,by simp[Rel,scalar],ih⟩
 exact this s
def XB{P:Program}{o:Oper}{t rt:TypeId}{x:Operand}{ms:Array (String×TypeId)}(bU:o.op=.binOp .neq t x (.const .nilIface) rt)(hu:P.underlying t=some (.interface ms)):
 ll P o [] [.c .nilIface,.c .nilIface] [] (.b false):=by
 refine qV rfl rfl (by simp) ?_;intro w S vs hS hc ρ hρ;obtain⟨y,l',F1,F2,rfl,hF,_,hr,y2,l2,F3,F4,rfl,ZY,_,sc,rfl,rfl⟩:=hc;obtain⟨_,rfl,rfl⟩:=hr;obtain⟨_,rfl,rfl⟩:=sc;rw[bU]at hρ;simp[Op.operands,and_true]at hρ;obtain⟨h1,h2⟩:=hρ;refine⟨_,.bool false,w,?_,.inl rfl,S,[],Below.refl _ _,λ_ h=>h,λ_ h=>.inl h,hS,by simp[SV.den,Rel,scalar],adn,by simp⟩;simp[execOp,bU,h1,h2];have he:(Op.equalIn 10000 t Value.nilIface Value.nilIface).run P w=.ok true w:=by unfold Op.equalIn;simp[run_underlying hu]
 simp[eqGuard,binOp,Op.equal,Op.maxDepth,he]
section
variable{P:Program}{w:World}{S:Nat->Prop}
section
variable{ts:Array TypeId}{V:Hid}{X Y:List AV}{vs:List Value}{b i n:Nat}{F:Nat->List Nat}{o:Oper}{d s:Operand}{t:TypeId}{w':World}
def Jj{ty e:TypeId}{ti:TI}(ht:ts[0]?=some t)(hu:P.underlying t=some (.slice e))(gR:bY P e=some ti){off m1 c1 n2 c2:Nat}{a:Addr}{cs:Array Value}{us:List Value}
 (hr:row? w b=some (cs,(0,0)))(hn:Nat.min n2 m1=n)(LS:us.length=n*ti.size)(aik:∀j v,us[j]?=some v->w.cell? (a.add j)=some v)(h1:∀u∈us,u.oneCell'=true)(n8:off+n*ti.size<=cs.size):
 (Builtin.copy_ ts ty #[.slice (some ⟨b,off,none⟩) m1 c1,.slice (some a) n2 c2]).run P w=.ok (.int .i64 n) (w.setRow b (cs.toList.take off++us++cs.toList.drop (off+n*ti.size)).toArray):=by
 have hh:∃e,w.heap[b]?=some (.cells cs e (0,0)):=by
  unfold row? at hr;split at hr
  ·rename_i cs' e fz he;cases hr;exact⟨e,he⟩
  cases hr
 obtain⟨e0,he⟩:=hh;have bL:=run_storeCells_at P b off e0 us 0 cs w he (by simp;omega) h1;simp[LS]at bL;have hf:=run_firstCells_some (P:=P) w ti.size n a n2 c2 us LS aik;simp[Builtin.copy_,ht,run_underlying hu,dE gR,Builtin.lenOf,hn,hf,bL,goInt]
def setRow_other(b:Nat)(cs:Array Value){c:Nat}(h:c≠b):(w.setRow b cs).heap[c]?=w.heap[c]?:=by simp[World.setRow];rw[Array.getElem?_modify,if_neg<|by omega]
def Mt{cs:Array Value}(cs':Array Value)(hr:row? w b=some (cs,(0,0))):row? (w.setRow b cs') b=some (cs',(0,0)):=by
 have hh:∃e,w.heap[b]?=some (.cells cs e (0,0)):=by
  unfold row? at hr;split at hr
  ·rename_i cs' e fz he;cases hr;exact⟨e,he⟩
  cases hr
 obtain⟨e0,he⟩:=hh;have:=setRow_heap w b cs cs' e0 (0,0) he;simp[row?,this]
def BI(r x:AV):∀i,(both [r] [x] i).av=if i=0 then r else if i=1000000 then x else .dead:=by
 intro i;by_cases hi:i<1000000
 ·rw[gG hi];cases i with
  |zero=>rfl
  |succ i=>
   have:¬(i+1=1000000):=by omega
   simp[this]
 obtain⟨j,rfl⟩:∃j,i=1000000+j:=⟨i-1000000,by omega⟩;rw[fJ<|by simp];cases j with
 |zero=>simp
 |succ j=>simp
def copied{args:List AV}{sz:Nat}{X':List AV}{cap:Nat}{cs cs':Array Value}{n:Int}(ha:args.length<=1000000)(hc:aS S V.g (both args [.list .own sz X]) (aX V vs) w F)
 (hv:V.v 1000000=.slice (some ⟨b,0,none⟩) X.length cap)(hr:row? w b=some (cs,(0,0)))(hF:F 1000000=[b])(jX:X.length<=cap/\cap<=maxLen)(o5:cs'.size=cap*sz)(hlen:X'.length=X.length)
 (hE:cv (w.setRow b cs') S sz X' (cs'.toList.take<|X.length*sz) []):
 ∃S' F',uj V w w (w.setRow b cs')/\(∀b,S b->S' b)/\(∀b,S' b->S b\/cu V w b)/\aS S' (cu V w) (both [.v<|.int .i64 n] [.list .own sz X']) (aX V [.int .i64 n]) (w.setRow b cs') F':=by
 have eQ:=hc.own 1000000 b (by rw[hF];simp);have cM:(w.setRow b cs').heap.size=w.heap.size:=by simp
 refine⟨S,λi=>if i=1000000 then[b]else[],⟨rfl,rfl,rfl,by omega,λk hk hg=>setRow_other b cs' λe=>by subst e;exact hg eQ.1⟩,λ_ h=>h,λ_ h=>.inl h,
  ⟨λi=>?_,λi=>?_,λi j gS c hb=>?_,λi c hb=>?_,λc h=>by rw[cM];exact hc.shr c h⟩⟩
 ·rw[ak.aB<|by rw[BI];split;rfl;split<;>rfl,BI];by_cases h0:i=0
  ·subst h0;exact kL
  by_cases h1:i=1000000
  ·subst h1;have hT:aX V [.int .i64 n] 1000000=.slice (some ⟨b,0,none⟩) X'.length cap:=by
    unfold aX;rw[if_neg<|by omega,hv,hlen]
   rw[hT];exact .inr ⟨b,cap,cs',[],rfl,Mt cs' hr,by rw[hlen];exact jX.1,jX.2,o5,by rw[hlen];exact hE,rfl⟩
  simp[h0,h1,Rel]
 ·split<;>simp
 ·split at hb
  ·rename_i hi;rw[if_neg λe=>gS<|by omega];simp
  cases hb
 split at hb
 ·simp at hb;subst hb;exact⟨.inr eQ.1,by rw[cM];exact eQ.2.1,eQ.2.2⟩
 cases hb
def PL{sz off cap:Nat}{cs:Array Value}{us:List Value}(hX:cv w' S sz X (cs.toList.take<|X.length*sz) [])(hY:cv w' S sz (Y.take n) us [])(hn:(Y.take n).length=n)(Ks:off+n<=X.length)(o5:cs.size=cap*sz)(jX:X.length<=cap):
 cv w' S sz (X.take off++Y.take n++X.drop (off+n)) ((cs.toList.take (off*sz)++us++cs.toList.drop (off*sz+n*sz)).take<|X.length*sz) []:=by
 have LS:us.length=n*sz:=by have:=cv.length sz hY;rw[hn]at this;exact this
 have hc:cs.toList.length=cap*sz:=o5;have m1:X.length*sz<=cap*sz:=adb _ jX;have m2:(off+n)*sz<=X.length*sz:=adb _ Ks;have m3:off*sz+n*sz=(off+n)*sz:=(ac7 _ _ _).symm;have h1:=cv.sub sz 0 off hX (by omega);have h3:=cv.sub sz (off+n) (X.length-(off+n)) hX (by omega);simp at h1;rw[ahp,ae0<|by omega]at h1;rw[acR (l:=X.drop<|off+n)<|by simp]at h3;have e3:((cs.toList.take<|X.length*sz).drop<|(off+n)*sz).take ((X.length-(off+n))*sz)=(cs.toList.drop<|(off+n)*sz).take ((X.length-(off+n))*sz):=by rw[List.drop_take,ahp,ae0];rw[Nat.sub_mul];exact .refl
 rw[e3]at h3;have e:(cs.toList.take (off*sz)++us++cs.toList.drop (off*sz+n*sz)).take (X.length*sz)=cs.toList.take (off*sz)++us++(cs.toList.drop<|(off+n)*sz).take ((X.length-(off+n))*sz):=by
  have hl:(cs.toList.take (off*sz)++us).length=(off+n)*sz:=by rw[acW,ac2];omega
  rw[List.take_append,acR<|by rw[hl];exact m2,hl,m3,Nat.sub_mul]
 rw[e];have:=(h1.append sz hY).append sz h3;simpa using this
def Ku{args:List AV}{sz:Nat}(ha:args.length<=1000000)(hc:aS S V.g (both args [.list .own sz X]) (aX V vs) w F)(hX:X≠[])(gu:bx X=true):
 ∃b cap cs,V.v 1000000=.slice (some ⟨b,0,none⟩) X.length cap/\row? w b=some (cs,(0,0))/\F 1000000=[b]/\X.length<=cap/\cap<=maxLen/\cs.size=cap*sz/\cv w S sz X (cs.toList.take<|X.length*sz) []/\¬S b:=by
 have hr:=hc.rel 1000000;have hb:=fJ (args:=args) (H:=[.list .own sz X]) ha 0;rw[ak.aB<|by rw[hb];rfl,hb]at hr;rcases hr with⟨h,-⟩|⟨b,cap,cs,F',h1,h2,h3,h4,h5,h6,h7⟩
 ·simp_all
 have hF':=cv.aF sz h6 gu;subst hF';exact⟨b,cap,cs,h1,h2,h7,h3,h4,h5,h6,(hc.own 1000000 b<|by rw[h7];simp).2.2⟩
def Gm{ρ:Operand->Value}(ho:o.op=.call ⟨.builtin .copy,#[d,s],ts⟩)(hρ:o.op.operands.toList.map ρ=vs){v:Value}(h:∀x y,vs=[x,y]->(Builtin.copy_ ts o.type #[x,y]).run P w=.ok v w'):
 (execOp ρ o).run P w=.ok (.value v) w':=by
 have:=h (ρ d) (ρ s) (by rw[<-hρ,ho];simp[Op.operands,Call.operands]);simp[execOp,ho,Go.resolve,invoke,builtin,this]
def OA{args:List AV}{sz cap so m:Nat}(hi:i<1000000)(hc:aS S V.g (both args [.list .own sz X]) (aX V vs) w F)(hv:V.v 1000000=.slice (some ⟨b,0,none⟩) n cap)
 (ha:args[i]?=some (.bA 1000000 0 0 [.lR sz so m]))(IK:args.length<=1000000)(hw:0<m/\so+m<=X.length):vs.getD i undef=.slice (some ⟨b,so*sz,none⟩) m (cap-so):=by
 have hvT:aX V vs 1000000=V.v 1000000:=by unfold aX;rw[if_neg<|by omega]
 have hs:=hc.rel i;have hb:=gG (args:=args) (H:=[.list .own sz X]) hi;rw[ha]at hb;unfold ak at hs;rw[hb]at hs;obtain⟨-,-,-,h⟩:=hs;obtain⟨L,k1,k2,-⟩:=h (Oe _).1 (.inr (Oe _).2) λ_=>by have dB:=fJ (args:=args) (H:=[.list .own sz X]) IK 0;simp at dB;rw[dB];simp only[bg];rw[if_pos ⟨ao,hw⟩];exact⟨_,rfl⟩
 rw[hvT,hv]at k1;simp[loc,step1,Go.Ai.bU]at k1;subst k1;have e:aX V vs i=vs.getD i undef:=by unfold aX;rw[if_pos hi]
 rw[e]at k2;rw[k2,Addr.add_lit];simp
def yf{args:List AV}{x:AV}(hi:i<1000000)(hc:aS S V.g (both args [x]) (aX V vs) w F)
 (ha:args[i]?=some (.bA 1000000 0 0 [])):vs.getD i undef=V.v 1000000:=by
 have hvT:aX V vs 1000000=V.v 1000000:=by unfold aX;rw[if_neg<|by omega]
 have hs:=hc.rel i;have hb:=gG (args:=args) (H:=[x]) hi;rw[ha]at hb;unfold ak at hs;rw[hb]at hs;obtain⟨-,-,-,h⟩:=hs;obtain⟨L,k1,k2,-⟩:=h (Oe _).1 (.inl rfl) λh=>by simp[kl]at h
 simp[loc]at k1;subst k1;have e:aX V vs i=vs.getD i undef:=by unfold aX;rw[if_pos hi]
 rw[e]at k2;rw[k2,hvT]
def P7{off:Nat}{cs:Array Value}{fz:Nat×Nat}(hr:row? w b=some (cs,fz)){us:List Value}(h:∀j v,us[j]?=some v->cs.toList[off+j]?=some v)(j:Nat)(v:Value)(hj:us[j]?=some v):w.cell? ((⟨b,off,none⟩:Addr).add j)=some v:=by
 have hh:∃e,w.heap[b]?=some (.cells cs e fz):=by
  unfold row? at hr;split at hr
  ·rename_i cs' e fz he;cases hr;exact⟨e,he⟩
  cases hr
 obtain⟨e,he⟩:=hh;rw[Addr.add_lit];simp[World.cell?,he];have:=h j v hj;simpa using this
def Gw{e:TypeId}{ti:TI}(ho:o.op=.call ⟨.builtin .copy,#[d,s],ts⟩)(ht:ts[0]?=some t)(hu:P.underlying t=some (.slice e))(gR:bY P e=some ti){sz:Nat}(cM:sz=ti.size)
 (hX:X≠[])(gu:bx X=true)(Kz:X.all (fits ti)=true){off m1 m2:Nat}(hn:Nat.min m2 m1=n)(h1:off+m1<=X.length)(h2:m2<=X.length)(g1:0<m1)(g2:0<m2):
   Wh P o [.list .own sz X] [.bA 1000000 0 0 [.lR sz off m1],.bA 1000000 0 0 [.lR sz 0 m2]] [.list .own sz<|X.take off++X.take n++X.drop (off+n)] (.v<|.int .i64 n):=by
  intro w S V vs F hl hc ρ hρ;obtain⟨b,cap,cs,hv,hr,hF,jX,Np,o5,hE,hSb⟩:=Ku (by simp) hc hX gu;have hnm:n<=m1/\n<=m2:=by have h3:min m2 m1=n:=hn;omega
  obtain⟨x,y,rfl⟩:∃x y,vs=[x,y]:=by
   match vs,hl with
   |[x,y],_=>exact⟨x,y,rfl⟩
  have hx:x=.slice (some ⟨b,off*sz,none⟩) m1 (cap-off):=OA (i:=0) (by omega) hc hv rfl (by simp) ⟨g1,h1⟩;have hy:y=.slice (some ⟨b,0*sz,none⟩) m2 (cap-0):=OA (i:=1) (by omega) hc hv rfl (by simp) ⟨g2,by omega⟩;have Bg:cs.toList.length=cap*sz:=by simpa using o5
  have q2:(off+n)*sz<=cap*sz:=adb _ (by omega);have q3:(off+n)*sz=off*sz+n*sz:=ac7 _ _ _;have q4:n*sz<=X.length*sz:=adb _ (by omega);obtain⟨us,LS⟩:∃us,us=cs.toList.take (n*sz):=⟨_,rfl⟩;have D8:us.length=n*sz:=by rw[LS,ac2,Bg];omega
  have hEn:cv w S sz (X.take n) us []:=by have:=cv.sub sz 0 n hE (by omega);simp[aeP,ah8]at this;rw[ahp,ae0 q4]at this;rw[LS];exact this
  have bL:=Jj (P:=P) (w:=w) (ty:=o.type) ht hu gR (m1:=m1) (c1:=cap-off) (n2:=m2) (c2:=cap-0) (a:=⟨b,0*sz,none⟩) (off:=off*sz) (us:=us) hr hn (by rw[<-cM];exact D8) (by
   refine P7 hr λj v hj=>?_;rw[LS]at hj;rw[aev]at hj;split at hj
   ·simpa using hj
   ·cases hj) (by
   intro u hu';refine cv.one sz cM hEn ?_ u hu';rw[ade]at Kz⊢;exactλz hz=>Kz z<|af5 hz) (by rw[<-cM];have:cs.size=cap*sz:=o5;omega)
  rw[<-cM]at bL;refine⟨_,.int .i64 n,_,Gm ho hρ λx' y' e=>?_,.inl rfl,copied (by simp) hc hv hr hF ⟨jX,Np⟩ (cs':=(cs.toList.take (off*sz)++us++cs.toList.drop (off*sz+n*sz)).toArray) ?_ ?_ ?_⟩
  ·simp[ai0,and_true]at e;obtain⟨rfl,rfl⟩:=e;rw[hx,hy];exact bL
  ·simp only[ah5,acW,ac2,afa,D8,Bg];omega
  ·simp[acW,ac2,afa];omega
  have Ky:∀c,S c\/c∈([]:List Nat)->(w.setRow b (cs.toList.take (off*sz)++us++cs.toList.drop (off*sz+n*sz)).toArray).heap[c]?=w.heap[c]?:=by
   rintro c(h|h)
   ·exact setRow_other b _ λe=>hSb (e▸h)
   cases h
  exact PL (cv.frame sz _ hE Ky) (cv.frame sz _ hEn Ky) (by simp;omega) (by omega) o5 jX
def PS{e:TypeId}{ti:TI}(ho:o.op=.call ⟨.builtin .copy,#[d,s],ts⟩)(ht:ts[0]?=some t)(hu:P.underlying t=some (.slice e))(gR:bY P e=some ti){sz:Nat}(cM:sz=ti.size)
 (hX:X≠[])(gu:bx X=true)(hY:Y≠[])(Kz:Y.all (fits ti)=true)(hn:Nat.min Y.length X.length=n):
   Wh P o [.list .own sz X] [.bA 1000000 0 0 [],.list .shr sz Y] [.list .own sz<|Y.take n++X.drop n] (.v<|.int .i64 n):=by
  intro w S V vs F hl hc ρ hρ;obtain⟨b,cap,cs,hv,hr,hF,jX,Np,o5,hE,hSb⟩:=Ku (by simp) hc hX gu;have hnm:n<=Y.length/\n<=X.length:=by have h3:min Y.length X.length=n:=hn;omega
  obtain⟨x,y,rfl⟩:∃x y,vs=[x,y]:=by
   match vs,hl with
   |[x,y],_=>exact⟨x,y,rfl⟩
  have hx:x=.slice (some ⟨b,0,none⟩) X.length cap:=(yf (i:=0) (by omega) hc rfl).trans hv;have hry:=hc.rel 1;have vp:=gG (args:=[.bA 1000000 0 0 [],.list .shr sz Y]) (H:=[.list .own sz X]) (i:=1) (by omega);simp[List.getElem?_cons_succ,aia]at vp;rw[ak.aB<|by rw[vp];rfl,vp]at hry;have hvy:aX V [x,y] 1=y:=rfl;rw[hvy]at hry;rcases hry with⟨h,-⟩|⟨b2,ad8,agi,cs2,fz2,h3,h4,h5,h6,h7,h8⟩
  ·exact absurd h hY
  have Bg:cs.toList.length=cap*sz:=by simpa using o5
  have q1:n*sz<=cap*sz:=adb _ (by omega);have q4:n*sz<=Y.length*sz:=adb _ (by omega);obtain⟨us,LS⟩:∃us,us=(cs2.toList.drop ad8).take (n*sz):=⟨_,rfl⟩;have hEn:cv w S sz (Y.take n) us []:=by have:=cv.sub sz 0 n h7 (by omega);simp[aeP,ah8]at this;rw[ahp,ae0 q4]at this;rw[LS];exact this
  have D8:us.length=n*sz:=by have:=cv.length sz hEn;rw[this,ac2,ae0 hnm.1]
  have bL:=Jj (P:=P) (w:=w) (ty:=o.type) ht hu gR (m1:=X.length) (c1:=cap) (n2:=Y.length) (c2:=agi) (a:=⟨b2,ad8,none⟩) (off:=0) (us:=us) hr hn (by rw[<-cM];exact D8) (by
   refine P7 h5 λj v hj=>?_;rw[LS,aev]at hj;split at hj
   ·rw[ago]at hj;exact hj
   ·cases hj) (by
   intro u hu';refine cv.one sz cM hEn ?_ u hu';rw[ade]at Kz⊢;exactλz hz=>Kz z<|af5 hz) (by rw[<-cM];have:cs.size=cap*sz:=o5;omega)
  rw[<-cM]at bL;have e0:Y.take n++X.drop n=X.take 0++Y.take n++X.drop (0+n):=by simp
  have e1:cs.toList.take 0++us++cs.toList.drop (0+n*sz)=cs.toList.take (0*sz)++us++cs.toList.drop (0*sz+n*sz):=by simp
  rw[e1]at bL;refine⟨_,.int .i64 n,_,Gm ho hρ λx' y' e=>?_,.inl rfl,copied (by simp) hc hv hr hF ⟨jX,Np⟩ (cs':=(cs.toList.take (0*sz)++us++cs.toList.drop (0*sz+n*sz)).toArray) ?_ ?_ ?_⟩
  ·simp[ai0,and_true]at e;obtain⟨rfl,rfl⟩:=e;rw[hx,h3];exact bL
  ·simp[ah5,acW,ac2,afa,D8,Bg];omega
  ·simp[acW,ac2,afa];omega
  have Ky:∀c,S c\/c∈([]:List Nat)->(w.setRow b (cs.toList.take (0*sz)++us++cs.toList.drop (0*sz+n*sz)).toArray).heap[c]?=w.heap[c]?:=by
   rintro c(h|h)
   ·exact setRow_other b _ λe=>hSb (e▸h)
   cases h
  rw[e0];exact PL (cv.frame sz _ hE Ky) (cv.frame sz _ hEn Ky) (by simp;omega) (by omega) o5 jX
end
end
def nK{I:Machine->Prop}{P:Program}{m s t:Machine}(h:StepsIn I P m t)(hs:step P m=.next s)(dc:m≠t):StepsIn I P s t:=by
 cases h with
 |refl=>simp_all
 |head hI h1 h2=>rw[hs]at h1;cases h1;exact h2
def vy{id:Nat}:∀{k k':List Item},exitTo id k=some k'->k'.length<=k.length
 |[],k',h=>by simp[exitTo]at h
 |x::k,k',h=>by
  cases x with
  |inBlock Uq=>
   simp[exitTo]at h;split at h
   ·cases h;simp
   have:=vy h;simp;omega
  |_=>simp[exitTo]at h;have:=vy h;simp;omega
def aaB:Exit->Bool
 |.normal|.exit _|.ret=>true
 |_=>false
def aed(Q:Exit->St->Prop)(K:St->Prop):Exit->St->Prop
 |.normal,σ=>K σ
 |e,σ=>Q e σ
section
variable{R:Option Nat->Prop}{P:Program}{N:Nat}{F:St->Prop}{k:List It}{l:aV}{σ:St}
def Se{c:Code}{Q:Exit->St->Prop}(ht:∀e σ,Q e σ->aaB e=true)(h:AW R P N c (aed Q λσ'=>AW R P N (.loop c) Q σ') σ):AW R P N (.loop c) Q σ:=by
 intro V w0 S0 a w hR hi b k cs hro hb hr;obtain⟨e,a₁,w₁,⟨σ₁,hq,pO⟩,oA⟩:=h V w0 S0 a w hR hi b (.inLoop c::k) cs hro hb hr;have first:∀{e a' w'},ArrivesIn (Machine.fenced P<|FW V.rd) P (lone (b.atR a<|.code c::.inLoop c::k) cs w) b k cs e a' w'->ArrivesIn (Machine.fenced P<|FW V.rd) P (lone (b.atR a<|.code (.loop c)::k) cs w) b k cs e a' w':=λh=>.of_steps (.one (fenced_calm hb hr rfl) stepR_loop) h
 cases e with
 |normal=>
  obtain⟨e₂,a₂,w₂,⟨σ₂,Pf,ae9⟩,qT⟩:=AW.x (hq:AW R P N (.loop c) Q σ₁) hR pO b k cs hro hb hr;refine⟨e₂,a₂,w₂,⟨σ₂,Pf,ae9⟩,first<|.of_steps oA<|.of_steps (.one (fenced_calm hb hr rfl) stepR_inLoop) ?_⟩;have eR:step P (lone (b.atR a₁<|.code (.loop c)::k) cs w₁)=.next (lone (b.atR a₁<|.code c::.inLoop c::k) cs w₁):=stepR_loop;have hlen:∀{k':List Item}{a':Act}{w':World},lone (b.atR a₁<|.code (.loop c)::k) cs w₁=lone (b.atR a' k') cs w'->.code (.loop c)::k=k':=by intro k' a' w' hh;simp[lone,Frame.atR,Frame.mk.injEq]at hh;simp_all
  have tm:=ht _ _ Pf;cases e₂ with
  |normal=>refine nK qT eR λhh=>?_;have:=congrArg List.length<|hlen hh;simp at this
  |exit id=>
   refine⟨λk' gp=>nK (qT.1 k' gp) eR λhh=>?_,λh1 h2=>?_⟩
   ·have e1:=congrArg List.length (hlen hh);have e2:=vy gp;simp at e1;omega
   obtain⟨k₁,h3,h4⟩:=qT.2 h1 h2;refine⟨k₁,h3,nK h4 eR λhh=>?_⟩;have:=hlen hh;cases this
  |ret=>
   refine⟨λh1=>?_,λh1=>?_⟩
   ·obtain⟨todo,h4⟩:=qT.1 h1;refine⟨todo,nK h4 eR λhh=>?_⟩;simp[lone,Frame.atR]at hh
   obtain⟨k₁,h4⟩:=qT.2 h1;refine⟨k₁,nK h4 eR λhh=>?_⟩;have:=hlen hh;cases this
  |_=>simp[aaB]at tm
 |exit id=>exact⟨_,a₁,w₁,⟨σ₁,hq,pO⟩,first<|.pass (x:=.inLoop c) rfl (λ_ _=>.inl<|by simp) oA⟩
 |goto l=>exact⟨_,a₁,w₁,⟨σ₁,hq,pO⟩,first<|.pass (x:=.inLoop c) rfl (λ_ _=>.inl<|by simp) oA⟩
 |ret=>exact⟨_,a₁,w₁,⟨σ₁,hq,pO⟩,first<|.pass (x:=.inLoop c) rfl (λ_ _=>.inl<|by simp) oA⟩
 |panic ch=>exact⟨_,a₁,w₁,⟨σ₁,hq,pO⟩,first<|.pass (x:=.inLoop c) rfl (λ_ _=>.inl<|by simp) oA⟩
 |outgrown=>exact⟨_,a₁,w₁,⟨σ₁,hq,pO⟩,first<|.pass (x:=.inLoop c) rfl (λ_ _=>.inl<|by simp) oA⟩
def lG:∀{k:List It}{e:Exit}{σ:St},fR R P N F k e σ->aaB e=true
 |[],e,σ,h=>by cases e<;>first|rfl|exact h.elim
 |.code c::k,e,σ,h=>by cases e<;>first|rfl|exact lG (k:=k) h
 |.jP id::k,e,σ,h=>by cases e<;>first|rfl|exact lG (k:=k) h
 |.scp::k,e,σ,h=>by cases e<;>first|rfl|exact h.elim|exact lG (k:=k) h
 |.ops all rest::k,e,σ,h=>by cases e<;>first|rfl|exact lG (k:=k) h
 |.og all mm rest acc::k,e,σ,h=>by cases e<;>first|rfl|exact lG (k:=k) h
 |.inv I::k,e,σ,h=>by cases e<;>first|rfl|exact lG (k:=k) h
def gO{c:Code}(h:AK R P N F (.code c::.code (.loop c)::k) l):AK R P N F (.code (.loop c)::k) l:=by refine Se (λe σ h=>lG h)<|jm (h:AW R P N c (fR R P N F<|.code (.loop c)::k) (dn l)) λe σ' h=>?_;cases e<;>exact h
end
def Im:List Pd->Bool
 |[]=>true
 |⟨_,b,_⟩::l=>match b with
  |true=>Im l
  |false=>false
def aO:∀{l:List Pd},Im l=true->ag l
 |[],_=>trivial
 |⟨p,b,h⟩::l,hc=>by
  cases b with
  |true=>exact⟨h rfl,aO hc⟩
  |false=>cases hc
def pc{α:Type _}(n:Nat)(k:Nat->α):α:=match n with
 |0=>k 0
 |m+1=>k<|Nat.succ m
def qY{α:Type _}(n:Nat)(k:Nat->α):pc n k=k n:=by cases n<;>rfl
def Vc{α:Type _}(a:Int)(k:Int->α):α:=match a with
 |.ofNat n=>pc n λn=>k (.ofNat n)
 |.negSucc n=>pc n λn=>k<|.negSucc n
def HV{α:Type _}(a:Int)(k:Int->α):Vc a k=k a:=by cases a<;>simp[Vc,qY]
def Ez{α:Type _}(b:Bool)(k:Bool->α):α:=match b with
 |true=>k true
 |false=>k false
def nh{α:Type _}(b:Bool)(k:Bool->α):Ez b k=k b:=by cases b<;>rfl
def KV{α:Type _}:List Int->(List Int->α)->α
 |[],k=>k []
 |x::xs,k=>Vc x λx=>KV xs λxs=>k<|x::xs
def C2{α:Type _}:∀(l:List Int)(k:List Int->α),KV l k=k l
 |[],k=>rfl
 |x::xs,k=>by simp[KV,HV,C2 xs]
def Vf{α:Type _}:bK->(bK->α)->α
 |[],k=>k []
 |x::xs,k=>pc x.toNat λn=>Vf xs λxs=>k<|UInt8.ofNat n::xs
def HW{α:Type _}:∀(l:bK)(k:bK->α),Vf l k=k l
 |[],k=>rfl
 |x::xs,k=>by simp[Vf,qY,HW xs]
def PE{α:Type _}:List bK->(List bK->α)->α
 |[],k=>k []
 |x::xs,k=>Vf x λx=>PE xs λxs=>k<|x::xs
def KW{α:Type _}:∀(l:List bK)(k:List bK->α),PE l k=k l
 |[],k=>rfl
 |x::xs,k=>by simp[PE,HW,KW xs]
def PF{α:Type _}:List Bool->(List Bool->α)->α
 |[],k=>k []
 |x::xs,k=>Ez x λx=>PF xs λxs=>k<|x::xs
def KX{α:Type _}:∀(l:List Bool)(k:List Bool->α),PF l k=k l
 |[],k=>rfl
 |x::xs,k=>by simp[PF,nh,KX xs]
def HU{α:Type _}:Path->(Path->α)->α
 |[],k=>k []
 |x::xs,k=>match x with
  |.idx i sz=>pc i λi=>pc sz λsz=>HU xs λxs=>k (.idx i sz::xs)
  |.at o n=>HU xs λxs=>k (.at o n::xs)
  |.deref=>HU xs λxs=>k (.deref::xs)
  |.bX i=>HU xs λxs=>k (.bX i::xs)
  |.lR a b c=>pc a λa=>pc b λb=>pc c λc=>HU xs λxs=>k<|.lR a b c::xs
def HT{α:Type _}:∀(l:Path)(k:Path->α),HU l k=k l
 |[],k=>rfl
 |x::xs,k=>by cases x<;>simp[HU,qY,HT xs]
def Ve{α:Type _}{β:Type}(g:β->(SV->α)->α):List β->(List SV->α)->α
 |[],f=>f []
 |x::xs,f=>g x λx=>Ve g xs λxs=>f<|x::xs
mutual
def ng{α:Type _}:SV->(SV->α)->α
 |.n k a,f=>Vc a λa=>f (.n k a)
 |.b x,f=>Ez x λx=>f (.b x)
 |.u x,f=>Ez x λx=>f (.b x)
 |.s x,f=>Vf x λx=>f (.s x)
 |.c x,f=>f (.c x)
 |.nil,f=>f .nil
 |.ints k o xs,f=>Ez o λo=>KV xs λxs=>f (.ints k o xs)
 |.fe k xs,f=>match xs with
  |[]=>f .nil
  |x::xs=>Vc x λx=>KV xs λxs=>f (.ints k false<|x::xs)
 |.strs o xs,f=>Ez o λo=>PE xs λxs=>f (.strs o xs)
 |.b9 o xs,f=>Ez o λo=>PF xs λxs=>f (.b9 o xs)
 |.bT o sz _ e xs,f=>Ez o λo=>Ve (λx=>ng<|e x) xs λxs=>f (.row o sz xs)
 |.row o sz xs,f=>Ez o λo=>Ey xs λxs=>f (.row o sz xs)
 |.agg xs,f=>Ey xs λxs=>f (.agg xs)
 |.bX xs,f=>Ey xs λxs=>f (.bX xs)
 |.box o x,f=>Ez o λo=>ng x λx=>f (.box o x)
 |.fn g a c,f=>Ey a λa=>Ey c λc=>f (.fn g a c)
 |.bA r a b p,f=>pc a λa=>pc b λb=>HU p λp=>f (.bA r a b p)
 |.ptr r a b p,f=>pc a λa=>pc b λb=>HU p λp=>f (.ptr r a b p)
 |.hole,f=>f .hole
 |.dead,f=>f .dead
 |.pv C,f=>f (.pv C)
 |.abs J,f=>f (.abs J)
 |.fI g ba,f=>f (.fI g ba)
 |.mp K,f=>f<|.mp K
def Ey{α:Type _}:List SV->(List SV->α)->α
 |[],f=>f []
 |x::xs,f=>ng x λx=>Ey xs λxs=>f<|x::xs
end
def Gi{α:Type _}{β:Type}{g:β->(SV->α)->α}{e:β->SV}(h:∀x k,∃y,y.den=(e x).den/\g x k=k y):∀(l:List β)(k:List SV->α),∃ys,au ys=au (l.map e)/\Ve g l k=k ys
 |[],k=>⟨[],rfl,rfl⟩
 |x::xs,k=>by obtain⟨y,h1,h2⟩:=h x λy=>Ve g xs λxs=>k<|y::xs;obtain⟨ys,h3,h4⟩:=Gi h xs λxs=>k<|y::xs;exact⟨y::ys,by simp[au,h1,h3],by simp[Ve,h2,h4]⟩
mutual
theorem aal{α:Type _}:∀(x:SV)(k:SV->α),∃y,y.den=x.den/\ng x k=k y
 |.n k a,f=>⟨.n k a,rfl,by simp[ng,HV]⟩
 |.b x,f=>⟨.b x,rfl,by simp[ng,nh]⟩
 |.u x,f=>⟨.b x,rfl,by simp[ng,nh]⟩
 |.s x,f=>⟨.s x,rfl,by simp[ng,HW]⟩
 |.c x,f=>⟨.c x,rfl,rfl⟩
 |.nil,f=>⟨.nil,rfl,rfl⟩
 |.ints k o xs,f=>⟨.ints k o xs,rfl,by simp[ng,nh,C2]⟩
 |.fe k xs,f=>by
  cases xs with
  |nil=>exact⟨.nil,rfl,rfl⟩
  |cons x xs=>exact⟨.ints k false<|x::xs,rfl,by simp[ng,HV,C2]⟩
 |.strs o xs,f=>⟨.strs o xs,rfl,by simp[ng,nh,KW]⟩
 |.b9 o xs,f=>⟨.b9 o xs,rfl,by simp[ng,nh,KX]⟩
 |.bT o sz _ e xs,f=>by obtain⟨ys,h1,h2⟩:=Gi (g:=λx=>ng<|e x) (λx k=>aal (e x) k) xs λxs=>f<|.row o sz xs;exact⟨.row o sz ys,by simp only[SV.den,h1,bV,agN];rfl,by simp[ng,nh,h2]⟩
 |.row o sz xs,f=>by obtain⟨ys,h1,h2⟩:=nw xs λxs=>f<|.row o sz xs;exact⟨.row o sz ys,by simp[SV.den,h1],by simp[ng,nh,h2]⟩
 |.agg xs,f=>by obtain⟨ys,h1,h2⟩:=nw xs λxs=>f<|.agg xs;exact⟨.agg ys,by simp[SV.den,h1],by simp[ng,h2]⟩
 |.bX xs,f=>by obtain⟨ys,h1,h2⟩:=nw xs λxs=>f<|.bX xs;exact⟨.bX ys,by simp[SV.den,h1],by simp[ng,h2]⟩
 |.box o x,f=>by obtain⟨y,h1,h2⟩:=aal x λx=>f<|.box o x;exact⟨.box o y,by simp[SV.den,h1],by simp[ng,nh,h2]⟩
 |.fn g a c,f=>by obtain⟨ys,h1,h2⟩:=nw a λa=>Ey c λc=>f<|.fn g a c;obtain⟨zs,h3,h4⟩:=nw c λc=>f<|.fn g ys c;exact⟨.fn g ys zs,by simp[SV.den,h1,h3],by simp[ng,h2,h4]⟩
 |.bA r a b p,f=>⟨.bA r a b p,rfl,by simp[ng,qY,HT]⟩
 |.ptr r a b p,f=>⟨.ptr r a b p,rfl,by simp[ng,qY,HT]⟩
 |.hole,f=>⟨.hole,rfl,rfl⟩
 |.dead,f=>⟨.dead,rfl,rfl⟩
 |.pv C,f=>⟨.pv C,rfl,rfl⟩
 |.abs J,f=>⟨.abs J,rfl,rfl⟩
 |.fI g ba,f=>⟨.fI g ba,rfl,rfl⟩
 |.mp K,f=>⟨.mp K,rfl,rfl⟩
theorem nw{α:Type _}:∀(x:List SV)(k:List SV->α),∃y,au y=au x/\Ey x k=k y
 |[],k=>⟨[],rfl,rfl⟩
 |x::xs,k=>by obtain⟨y,h1,h2⟩:=aal x λy=>Ey xs λxs=>k<|y::xs;obtain⟨ys,h3,h4⟩:=nw xs λxs=>k<|y::xs;exact⟨y::ys,by simp[au,h1,h3],by simp[Ey,h2,h4]⟩
end
def R3{α:Type _}(d:Nat):aV->(aV->α)->α
 |[],k=>k []
 |(e,x)::l,k=>match Nat.beq d e with
  |true=>k l
  |false=>R3 d l λl'=>k<|(e,x)::l'
def Gt{α:Type _}(d:Nat):∀(l:aV)(k:aV->α),∃l',(∀i,i≠d->gt l' i=gt l i)/\R3 d l k=k l'
 |[],k=>⟨[],λ_ _=>rfl,rfl⟩
 |(e,x)::l,k=>by
  cases hb:Nat.beq d e with
  |true=>
   have:=adi hb;subst this;refine⟨l,λi hi=>?_,by simp[R3]⟩;have:Nat.beq i d=false:=by
    cases hb:Nat.beq i d with
    |false=>rfl
    |true=>simp_all
   simp[gt,this]
  |false=>
   obtain⟨l',h1,h2⟩:=Gt d l λl'=>k<|(e,x)::l';refine⟨(e,x)::l',λi hi=>?_,by simp[R3,hb,h2]⟩;simp[gt];cases Nat.beq i e with
   |true=>rfl
   |false=>exact h1 i hi
def Vd{α:Type _}:Nat->aV->(aV->α)->α
 |0,l,k=>k l
 |n+1,l,k=>match l with
  |[]=>k []
  |(d,x)::l=>match x with
   |⟨v,a,b⟩=>Vd n l λl=>R3 d l λl=>ng v λv=>pc a λa=>pc b λb=>k<|(d,⟨v,a,b⟩)::l
def yQ{α:Type _}:∀(n:Nat)(l:aV)(k:aV->α),∃l',dn l'=dn l/\Vd n l k=k l'
 |0,l,k=>⟨l,rfl,rfl⟩
 |n+1,[],k=>⟨[],rfl,rfl⟩
 |n+1,(d,⟨v,a,b⟩)::l,k=>by
  obtain⟨l1,h1,h2⟩:=yQ n l λl=>R3 d l λl=>ng v λv=>pc a λa=>pc b λb=>k<|(d,⟨v,a,b⟩)::l;obtain⟨l2,h3,h4⟩:=Gt d l1 λl=>ng v λv=>pc a λa=>pc b λb=>k<|(d,⟨v,a,b⟩)::l;obtain⟨y,h5,h6⟩:=aal v λv=>pc a λa=>pc b λb=>k<|(d,⟨v,a,b⟩)::l2;refine⟨(d,⟨y,a,b⟩)::l2,?_,by show Vd n l _=_;rw[h2,h4,h6,qY,qY]⟩;rw[eW,eW,<-h1]
  funext i
  unfold gQ;by_cases hi:i=d
  ·simp[hi,Cl.den,h5]
  simp[hi,dn,h3 i hi]
abbrev qj:=FuncId->List SV->Option SV
structure FnI where
 nt:Nat
 body:Code
 rs:List ResultVar
def YD(P:Program)(g:FuncId):Option FnI:=match nth P.funcs.toList g with
 |some fn=>match fn.body with
  |some c=>some ⟨fn.ntmps,c,fn.results.toList⟩
  |none=>none
 |none=>none
def JH(fn:Func):Bool:=cW (not'<|fn.name== "runtime.NumGoroutine")<|eE fn.results.toList []
abbrev Ex:=Nat->List It->aV->List It×aV
def WW(ex:Ex)(P:Program)(tt:TT)(T:qj)(g:FuncId)(aas:List SV):Option SV:=
 match T g aas with
 |some r=>some r
 |none=>match YD P g with
  |some ⟨nt,c,rs⟩=>match Nat.ble (len aas) nt with
   |true=>match ex nt [.code c] (Bl 0 aas)with
    |(k,l)=>match k with
     |[]=>match iO tt l rs with
      |some xs=>some (A5 xs)
      |none=>none
     |_::_=>none
   |false=>none
  |none=>none
def LL(l:aV):Nat->Nat->Option (List SV)
 |_,0=>some []
 |k,n+1=>match gt l k with
  |⟨v,_,_⟩=>match v.plain with
   |true=>match LL l (k+1) n with
    |some vs=>some (v::vs)
    |none=>none
   |false=>none
def To(ex:Ex)(P:Program)(tt:TT)(g:FuncId)(aas H:List SV):Option (List SV×SV):=
 match YD P g with
 |some ⟨nt,c,rs⟩=>match cW (Nat.ble (len aas) nt) (Nat.ble nt 1000000)with
  |true=>match ex nt [.code c] (Vq aas H)with
   |(k,l)=>match k with
    |[]=>match iO tt l rs,LL l 1000000 (len H)with
     |some xs,some ys=>some (ys,A5 xs)
     |_,_=>none
    |_::_=>none
  |false=>none
 |none=>none
def adS(ex:Ex)(P:Program)(tt:TT)(T:qj)(B:List Nat)(l:aV)(dst:Option Nat)(f:Operand)(aas:List Operand):Option (aV×List Nat):=
 match rJ l f aas with
 |some (ob,⟨g,xs,sh⟩)=>match cW (not'<|HA g B) (Im ob)with
  |true=>match WW ex P tt T g xs with
   |some r=>match kD l dst r sh with
    |some (dX,l',ks)=>match Im dX with
     |true=>some (l',ks)
     |false=>none
    |none=>none
   |none=>none
  |false=>none
 |none=>none
def Xi(ex:Ex)(P:Program)(tt:TT)(l:aV)(dst:Option Nat):lQ->Option (aV×List Nat)
 |⟨g,xs,R⟩=>match To ex P tt g xs (lv R)with
  |some (out,r)=>ic l dst R out r
  |none=>none
def aac(ex:Ex)(P:Program)(tt:TT)(T:qj)(B:List Nat)(l:aV)(dst:Option Nat)(f:Operand)(aas:List Operand):Option (aV×List Nat):=
 match adS ex P tt T B l dst f aas with
 |some y=>some y
 |none=>match sT l f aas with
  |some (ob,h)=>match Im ob with
   |true=>Xi ex P tt l dst h
   |false=>none
  |none=>match CY l f aas with
   |some h=>Xi ex P tt l dst h
   |none=>none
def I6(tt:TT)(raw:List Nat)(all:List Oper)(l:aV)(o:Oper):Option (aV×List Nat):=
 match I5 tt raw all l o with
 |some (ob,l',ks)=>match Im ob with
  |true=>some (l',ks)
  |false=>none
 |none=>none
def GX(ex:Ex)(P:Program)(tt:TT)(T:qj)(B:List Nat)(all:List Oper)(l:aV)(o:Oper):Option (aV×List Nat):=
 match o with
 |⟨dst,op,ty,pos,cL,g⟩=>match cP l all g with
  |some true=>match op with
   |.call ⟨.value f,aas,_⟩=>aac ex P tt T B l dst f aas.toList
   |.makeFunc (.func gf) first ba=>match dst with
    |some d=>TV l d gf first.toList ba.toList
    |none=>none
   |op=>match dst with
    |some d=>I6 tt [d] all l ⟨some d,op,ty,pos,cL,g⟩
    |none=>none
  |_=>none
def YL(ex:Ex)(P:Program)(tt:TT)(T:qj)(B:List Nat)(all:List Oper)(l:aV)(o:Oper):Option (aV×List Nat):=
 match I6 tt [] all l o with
 |some (l',ks)=>Vd (len ks) l' λl'=>some (l',ks)
 |none=>match GX ex P tt T B all l o with
  |some (l',ks)=>Vd (len ks) l' λl'=>some (l',ks)
  |none=>none
def unr:Code->Option Code
 |.loop c=>some c
 |_=>none
def exec(P:Program)(tt:TT)(T:qj)(B:List Nat):Nat->Ex
 |0,_,k,l=>(k,l)
 |n+1,N,k,l=>match k with
  |[]=>([],l)
  |i::k0=>match i with
   |.ops all (o::rest)=>match YL (exec P tt T B n) P tt T B all.toList l o with
    |some (l',_)=>exec P tt T B n N (.ops all rest::k0) l'
    |none=>(.ops all (o::rest)::k0,l)
   |.og all mm (o::rest) acc=>match YL (exec P tt T B n) P tt T B all.toList l o with
    |some (l',ks)=>exec P tt T B n N (.og all mm rest ((ix (dn l) all o,ks)::acc)::k0) l'
    |none=>(.og all mm (o::rest) acc::k0,l)
   |.og all mm [] acc=>match apart mm acc.reverse all.size with
    |true=>exec P tt T B n N k0 l
    |false=>(.og all mm [] acc::k0,l)
   |.code c=>match unr c with
    |some c'=>exec P tt T B n N (.code c'::.code c::k0) l
    |none=>match Fc tt [] N (.code c::k0) l with
     |some (ob,k',l')=>match Im ob with
      |true=>exec P tt T B n N k' l'
      |false=>(.code c::k0,l)
     |none=>(.code c::k0,l)
   |i=>match Fc tt [] N (i::k0) l with
    |some (ob,k',l')=>match Im ob with
     |true=>exec P tt T B n N k' l'
     |false=>(i::k0,l)
    |none=>(i::k0,l)
section
variable{P:Program}{tt:TT}{T:qj}{B:List Nat}
def Gk(hW:P.funcs.toList.all JH=true){g:FuncId}{nt:Nat}{c:Code}{rs:List ResultVar}(h:YD P g=some ⟨nt,c,rs⟩):
 ∃fn,P.funcs[g]?=some fn/\fn.body=some c/\fn.ntmps=nt/\fn.results.toList=rs/\(fn.name== "runtime.NumGoroutine")=false/\eE fn.results.toList []=true:=by
 unfold YD at h;split at h<;>try(cases h)
 rename_i fn Yi;split at h<;>try(cases h;done)
 rename_i c' hc;obtain⟨rfl,rfl,rfl⟩:=h;rw[mF]at Yi;have dz:=agr Yi;have ho:=ade.1 hW fn dz;simp only[JH,aN,not_iff]at ho;exact⟨fn,by rw[<-ae8];exact Yi,hc,rfl,rfl,ho.1,ho.2⟩
def ExS(P:Program)(ex:Ex):Prop:=∀(N:Nat)(R:Option Nat->Prop)(F:St->Prop)(k:List It)(l:aV),AK R P N F (ex N k l).1 (ex N k l).2->AK R P N F k l
def BU(hA:cq P tt)(hW:P.funcs.toList.all JH=true)(hT:∀g aas r,T g aas=some r->aL P g aas r){ex:Ex}(hex:ExS P ex){g:FuncId}{aas:List SV}{r:SV}(h:WW ex P tt T g aas=some r):aL P g aas r:=by
 unfold WW at h;split at h
 ·rename_i r' hr;simp_all
 split at h<;>try(cases h)
 rename_i nt c rs hf;split at h<;>try(cases h)
 rename_i hlen;obtain⟨k',l',e⟩:∃k' l',ex nt [.code c] (Bl 0 aas)=(k',l'):=⟨_,_,rfl⟩;rw[e]at h;cases k' with
 |cons _ _=>cases h
 |nil=>
  simp only at h;split at h<;>try(cases h;done)
  rename_i xs hxs;cases h;obtain⟨fn,h1,h2,rfl,rfl,h5,h6⟩:=Gk hW hf;refine enter h1 h2 h5 hlen h6<|hex _ _ _ _ _ ?_;rw[e];exact ret hA hxs<|an.refl _
def slK(l:aV):List Nat->List (Nat×SV)
 |[]=>[]
 |i::q=>(i,(gt l i).v)::slK l q
def GZ(l:aV):∀{q:List Nat}{i:Nat},i∈q->(gt (sl<|slK l q) i).v=(gt l i).v
 |[],i,h=>by cases h
 |j::q,i,h=>by
  simp[slK,sl,gt];cases hb:Nat.beq i j with
  |true=>have:=adi hb;subst this;rfl
  |false=>
   refine GZ l ?_;rcases aci.1 h with rfl|h
   ·rw[Nat.beq_refl]at hb;cases hb
   exact h
def Je{l m:aV}:∀{q:List Nat},(∀i∈q,(gt l i).v.plain=true)->zH l m (slK l q)
 |[],_=>trivial
 |i::q,h=>⟨.inl ⟨h i<|by simp,h i<|by simp,uJ.of_le<|tp.refl _⟩,Je λj hj=>h j<|by simp[hj]⟩
def Sk:List ResultVar->List Nat
 |[]=>[]
 |.tmp t::rs=>t::Sk rs
 |.cell t _::rs=>t::Sk rs
def sB{l m:aV}:∀{rs:List ResultVar},(∀i∈Sk rs,(gt m i).v=(gt l i).v)->iO tt m rs=iO tt l rs
 |[],_=>rfl
 |.tmp t::rs,h=>by simp[iO,h t<|by simp[Sk],sB (rs:=rs) λi hi=>h i<|by simp[Sk,hi]]
 |.cell t ty::rs,h=>by simp[iO,h t<|by simp[Sk],sB (rs:=rs) λi hi=>h i<|by simp[Sk,hi]]
def sA{l:aV}:∀{rs:List ResultVar}{xs:List SV},iO tt l rs=some xs->∀i∈Sk rs,(gt l i).v.plain=true
 |[],xs,h,i,hi=>by simp[Sk]at hi
 |.tmp t::rs,xs,h,i,hi=>by
  simp[iO]at h;split at h<;>try(cases h)
  rename_i hp;split at h<;>try(cases h)
  rename_i ys oy;simp[Sk]at hi;rcases hi with rfl|hi
  ·exact hp
  exact sA oy i hi
 |.cell t ty::rs,xs,h,i,hi=>by
  simp[iO]at h;split at h<;>try(cases h)
  rename_i x hv;split at h<;>try(cases h)
  split at h<;>try(cases h)
  split at h<;>try(cases h)
  rename_i ys oy;simp[Sk]at hi;rcases hi with rfl|hi
  ·rw[hv];rfl
  exact sA oy i hi
def DU{l:aV}:∀{n k:Nat}{ys:List SV},LL l k n=some ys->(∀i,k<=i->i<k+n->(gt l i).v.plain=true)/\∀{m:aV},(∀i,k<=i->i<k+n->(gt m i).v=(gt l i).v)->HN m k ys
 |0,k,ys,h=>by simp[LL]at h;subst h;exact⟨λi h1 h2=>by omega,λ_=>trivial⟩
 |n+1,k,ys,h=>by
  simp[LL]at h;split at h<;>try(cases h)
  rename_i hp;split at h<;>try(cases h;done)
  rename_i vs XZ;cases h;obtain⟨h1,h2⟩:=DU XZ;refine⟨λi k1 k2=>?_,λ{m}hm=>⟨⟨hm k (by omega)<|by omega,hp⟩,h2 λi k1 k2=>hm i (by omega)<|by omega⟩⟩;by_cases e:i=k
  ·subst e;exact hp
  exact h1 i (by omega) (by omega)
def B7(hA:cq P tt)(hW:P.funcs.toList.all JH=true){ex:Ex}(hex:ExS P ex){g:FuncId}{aas H out:List SV}{r:SV}(h:To ex P tt g aas H=some (out,r)):lp P g H aas out r:=by
 unfold To at h;split at h<;>try(cases h)
 rename_i nt c rs hf;split at h<;>try(cases h)
 rename_i hlen;rw[aN]at hlen;obtain⟨k',l',e⟩:∃k' l',ex nt [.code c] (Vq aas H)=(k',l'):=⟨_,_,rfl⟩;rw[e]at h;cases k' with
 |cons _ _=>cases h
 |nil=>
  simp only at h;split at h<;>try(cases h;done)
  rename_i xs ys hxs oy;cases h;obtain⟨fn,h1,h2,rfl,rfl,h5,h6⟩:=Gk hW hf;obtain⟨q1,q2⟩:=DU oy;refine vD h1 h2 h5 hlen.1 hlen.2 h6<|hex _ _ _ _ _ ?_;rw[e]
  let q:=Sk fn.results.toList++List.range' 1000000 (len H)
  have dz:∀i,1000000<=i->i<1000000+len H->i∈q:=λi k1 k2=>ac5.2<|.inr<|by rw[ai5];omega
  refine⟨l',slK l' q,rfl,Je λi hi=>?_,⟨au xs,?_,?_⟩,(q2 λi k1 k2=>GZ l'<|dz i k1 k2).n⟩
  ·rcases ac5.1 hi with hi|hi
   ·exact sA hxs i hi
   rw[ai5]at hi;simp_all
  ·refine np hA ?_;rw[sB λi hi=>GZ l'<|ac5.2<|.inl hi];exact hxs
  rw[wc];exact uJ.of_le<|tp.refl _
def Ec(hA:cq P tt)(hW:P.funcs.toList.all JH=true)(hT:∀g aas r,T g aas=some r->aL P g aas r){ex:Ex}(hex:ExS P ex){all:Array Oper}{l l':aV}{o:Oper}{ks:List Nat}{K:List Mv->St->Prop}
 (h:GX ex P tt T B all.toList l o=some (l',ks))(hk:∀ms,aU ms=ks->K ms (dn l')):Jh P all o (dn l) K:=by
 obtain⟨dst,op,ty,pos,cL,g⟩:=o;unfold GX at h;simp only at h;split at h<;>try(cases h)
 rename_i hg;have plain:∀{d:Nat}{op:Op},I6 tt [d] all.toList l ⟨some d,op,ty,pos,cL,g⟩=some (l',ks)->Jh P all ⟨some d,op,ty,pos,cL,g⟩ (dn l) K:=by
  intro d op h;unfold I6 at h;split at h<;>try(cases h)
  rename_i ob l1 XO hs;split at h<;>try(cases h;done)
  rename_i hc;cases h;exact nL<|vR hA hs (aO hc) hk
 have refs:∀{h0:lQ},Xi ex P tt l dst h0=some (l',ks)->∃out r,lp P h0.g (lv h0.R) h0.aas out r/\ic l dst h0.R out r=some (l',ks):=by
  intro h0 hh;unfold Xi at hh;cases hr:To ex P tt h0.g h0.aas (lv h0.R)with
  |none=>simp[hr]at hh
  |some q=>obtain⟨out,r⟩:=q;simp[hr]at hh;exact⟨out,r,B7 hA hW hex hr,hh⟩
 split at h
 ·rename_i f aas ts;unfold aac at h;split at h
  ·rename_i y hy;cases h;unfold adS at hy;split at hy<;>try(cases hy)
   rename_i ob g0 xs sh hh;split at hy<;>try(cases hy)
   rename_i hb;rw[aN]at hb;split at hy<;>try(cases hy)
   rename_i r hr;split at hy<;>try(cases hy)
   rename_i dX l1 XO ht;split at hy<;>try(cases hy;done)
   rename_i hc;cases hy;exact nL<|Ip hg hh (aO hb.2) (BU hA hW hT hex hr) ht (aO hc) hk
  split at h
  ·rename_i ob h0 hh;split at h<;>try(cases h)
   rename_i hc;obtain⟨out,r,h1,h2⟩:=refs h;exact Ha hg hh (aO hc) h1 h2 hk
  split at h<;>try(cases h)
  rename_i h0 hh;obtain⟨out,r,h1,h2⟩:=refs h;exact Th hg hh h1 h2 hk
 ·split at h<;>try(cases h)
  exact Tf hg h hk
 split at h<;>try(cases h)
 exact plain h
def Dr(hA:cq P tt)(hW:P.funcs.toList.all JH=true)(hT:∀g aas r,T g aas=some r->aL P g aas r){ex:Ex}(hex:ExS P ex){all:Array Oper}{l l':aV}{o:Oper}{ks:List Nat}{K:List Mv->St->Prop}
 (h:YL ex P tt T B all.toList l o=some (l',ks))(hk:∀ms,aU ms=ks->K ms (dn l')):Jh P all o (dn l) K:=by
 unfold YL at h;split at h
 ·rename_i l1 XO hs;obtain⟨l2,h1,h2⟩:=yQ (len XO) l1 λl'=>some (l',XO);rw[h2]at h;cases h;unfold I6 at hs;split at hs<;>try(cases hs)
  rename_i ob l3 ks3 Nk;split at hs<;>try(cases hs;done)
  rename_i hc;cases hs;exact nL (vR hA Nk (aO hc) λms mn=>h1▸hk ms mn)
 split at h<;>try(cases h)
 rename_i l1 XO hs;obtain⟨l2,h1,h2⟩:=yQ (len XO) l1 λl'=>some (l',XO);rw[h2]at h;cases h;exact Ec hA hW hT hex hs λms mn=>h1▸hk ms mn
def aat{c c':Code}(h:unr c=some c'):c=.loop c':=by cases c<;>simp[unr]at h;subst h;rfl
def re(hA:cq P tt)(hm:P.follows .mixedOrders=true)(hW:P.funcs.toList.all JH=true)(hT:∀g aas r,T g aas=some r->aL P g aas r):∀n:Nat,ExS P (exec P tt T B n)
 |0,N,R,F,k,l,h=>h
 |n+1,N,R,F,k,l,h=>by
  have ih:=re hA hm hW hT n;have st:∀(i:It)(k0:List It)(res:List It×aV),(match Fc tt [] N (i::k0) l with
   |some (ob,k',l')=>match Im ob with
    |true=>exec P tt T B n N k' l'
    |false=>(i::k0,l)
   |none=>(i::k0,l))=res->AK R P N F res.1 res.2->AK R P N F (i::k0) l:=by
   intro i k0 res gM hk;split at gM
   ·rename_i ob k' l' hs;split at gM
    ·rename_i hc;subst gM;exact qz hA hm hs (aO hc)<|ih _ _ _ _ _ hk
    subst gM;exact hk
   subst gM;exact hk
  obtain⟨res,gM⟩:∃res,exec P tt T B (n+1) N k l=res:=⟨_,rfl⟩;rw[gM]at h;unfold exec at gM;split at gM
  ·subst gM;exact h
  rename_i i k0;split at gM
  ·rename_i all o rest;split at gM
   ·rename_i l' ks hd;subst gM;exact Dr hA hW hT ih hd λms _=>ih _ _ _ _ _ h
   subst gM;exact h
  ·rename_i all mm o rest acc;split at gM
   ·rename_i l' ks hd;subst gM;refine Dr hA hW hT ih hd λms mn=>?_;rw[mn];exact ih _ _ _ _ _ h
   subst gM;exact h
  ·rename_i all mm acc;split at gM
   ·rename_i ha;subst gM;exact⟨ha,ih _ _ _ _ _ h⟩
   subst gM;exact h
  ·rename_i c;split at gM
   ·rename_i c' hu;have:=aat hu;subst this;subst gM;exact gO<|ih _ _ _ _ _ h
   simp_all
  simp_all
end
end Go.Ai
