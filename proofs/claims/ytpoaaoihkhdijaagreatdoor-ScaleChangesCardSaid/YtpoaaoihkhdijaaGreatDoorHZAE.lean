/- Parts of the proof of ScaleChanges (as AIM.md's row tells), at every input, with no further conditions. -/
import Derived.Test.YtpoaaoihkhdijaaGreatDoorHZAD
import Derived.RangeFuncLeaves
import Derived.RangeFuncFrom
set_option linter.all false
set_option maxRecDepth 100000
set_option maxHeartbeats 0
namespace Go.Ai
open Go.RowKit
section
variable{R:Option Nat->Prop}{P:Program}{N:Nat}{w0 w w':World}{V:Hid}{S S0 S':Nat->Prop}{σ σ' τ:St}{a:Act}{Q Q':Exit->St->Prop}
section
variable{c:Code}{b:Frame}{f:FuncId}{ds:List Deferred}{k:List Item}{n:Nat}{F:Nat->List Nat}
def j8{P:Program}{a:Act}{cs:List Frame}{w:World}:step P (lone (b.atR a<|.code (.scope c)::k) cs w)=.next (lone (b.atR a<|.code c::.inScope c::k) cs w):=step_lone_go fb
def Dk{P:Program}{a:Act}{cs:List Frame}{w:World}:step P (lone (b.atR a<|.inScope c::k) cs w)=.next (lone (b.atR a k) cs w):=step_lone_go fb
def tE{F:Fence}{P:Program}{Q:Exit->Act->World->Prop}{a:Act}{w:World}(h:c.wpIn F n P (Exit.noGoto Q) a w):(Code.scope c).wpIn F n P Q a w:=by
 intro b k v p t r;have m:(lone (b.atR a<|.code (.scope c)::k) v w).fenced P F:=fenced_calm t r W;obtain⟨e,i,g,j,d⟩:=h b (.inScope c::k) v p t r;cases e with
 |normal=>exact⟨.normal,i,g,j,.head m j8<|StepsIn.trans d<|.one (fenced_calm t r W) Dk⟩
 |exit id=>
  have u:exitTo id (.inScope c::k)=exitTo id k:=by simp[exitTo]
  exact⟨.exit id,i,g,j,λx s=>.head m j8<|d.1 x<|by rw[u];exact s,λq s=>let⟨o,z,y⟩:=d.2 q (by rw[u];exact s);⟨o,z,.head m j8 y⟩⟩
 |goto l=>exact j.elim
 |ret=>exact⟨_,i,g,j,.of_steps (.one m j8) d⟩
 |panic A=>exact⟨_,i,g,j,.of_steps (.one m j8) d⟩
 |outgrown=>exact⟨_,i,g,j,.of_steps (.one m j8) d⟩
def jr(h:AW R P N c Q σ)(d:∀e σ',Q e σ'->Q' e σ'):AW R P N c Q' σ:=λV w0 S0 a w g hi=>wpIn_mono (h V w0 S0 a w g hi) λ_ _ _⟨σ',j,i⟩=>⟨σ',d _ _ j,i⟩
def XO(R:Option Nat->Prop)(P:Program)(N:Nat)(c:Code)(Q:Exit->St->Prop):Exit->St->Prop
 |.normal,σ=>AW R P N c Q σ
 |e,σ=>Q e σ
def Sk{x y:Code}(h:AW R P N x (XO R P N y Q) σ):AW R P N (.seq x y) Q σ:=λV w0 S0 a w d hi=>
 wpIn_seq (wpIn_mono (h V w0 S0 a w d hi) λe j w'⟨σ',i,g⟩=>by
  cases e with
  |normal=>exact i.x d g
  |_=>exact⟨σ',i,g⟩)
def U5(h:Q .normal σ):AW R P N .skip Q σ:=λ_ _ _ _ _ _ hi=>wpIn_skip ⟨σ,h,hi.x⟩
def So{l:Nat}(h:Q .normal σ):AW R P N (.label l) Q σ:=λ_ _ _ _ _ _ hi=>wpIn_label ⟨σ,h,hi.x⟩
def U7{id:Nat}(h:Q (.exit id) σ):AW R P N (.exit id) Q σ:=λ_ _ _ _ _ _ hi=>wpIn_exit ⟨σ,h,hi.x⟩
def Xu(h:Q .ret σ):AW R P N .ret Q σ:=λ_ _ _ _ _ _ hi=>wpIn_ret ⟨σ,h,hi.x⟩
def Ha{c:Operand}{x y:Code}{t:Bool}(e:aJ c=true)(hc:(resolve σ c).cont=some (.v<|.bool t))(h:AW R P N (if t then x else y) Q σ):AW R P N (.cond c x y) Q σ:=λV w0 S0 a w g hi=>wpIn_cond (t:=t) (by obtain⟨S,F,d,-⟩:=id hi;exact dt d c e hc)<|h V w0 S0 a w g hi
def IS(id:Nat)(Q:Exit->St->Prop):Exit->St->Prop
 |.exit d,σ=>if d=id then Q .normal σ else Q (.exit d) σ
 |e,σ=>Q e σ
def Sp{id:Nat}{c:Code}(h:AW R P N c (IS id Q) σ):AW R P N (.block id c) Q σ:=λV w0 S0 a w i hi=>
 wpIn_block (wpIn_mono (h V w0 S0 a w i hi) λe l w'⟨σ',d,j⟩=>by
  cases e with
  |exit g=>
   simp[Exit.inBlock,IS]at d⊢
   grind
  |_=>exact⟨σ',d,j⟩)
def T3(Q:Exit->St->Prop):Exit->St->Prop
 |.goto _,_=>False
 |e,σ=>Q e σ
def Sm{c:Code}(h:AW R P N c (T3 Q) σ):AW R P N (.scope c) Q σ:=λV w0 S0 a w g hi=>
 tE (wpIn_mono (h V w0 S0 a w g hi) λe j w'⟨σ',d,i⟩=>by
  cases e with
  |goto l=>exact d
  |_=>exact⟨σ',d,i⟩)
def Ws(d:Nat->St->Prop)(n:Nat)(Q:Exit->St->Prop):Exit->St->Prop
 |.normal,σ=>∃m,m<n/\d m σ
 |e,σ=>Q e σ
def U6(d:Nat->St->Prop)(M:d n σ)(round:∀n σ,d n σ->AW R P N c (Ws d n Q) σ):AW R P N (.loop c) Q σ:=by
 intro V w0 S0 a w K hi b k H A D B;have z:∀n σ a w,d n σ->o5 N V w0 S0 σ a w->
  ∃e y w',(∃σ',Q e σ'/\o5 N V w0 S0 σ' y w')/\ArrivesIn (Machine.fenced P<|FW V.rd) P (lone (b.atR a<|.code c::.inLoop c::k) H w) b k H e y w':=by
  intro n
  induction n using Nat.strongRecOn with
  |_ n J=>
   intro σ a w L hi;obtain⟨e,o,j,⟨g,q,h⟩,i⟩:=(round n σ L).x K hi b (.inLoop c::k) H A D B;cases e with
   |normal=>obtain⟨m,C,s⟩:=q;obtain⟨u,v,t,r,p⟩:=J m C g o j s h;exact⟨u,v,t,r,.of_steps (StepsIn.trans i<|.one (fenced_calm D B W) stepR_inLoop) p⟩
   |exit id=>exact⟨_,o,j,⟨g,q,h⟩,.pass (x:=.inLoop c) W (λ_ _=>.inl I) i⟩
   |goto l=>exact⟨_,o,j,⟨g,q,h⟩,.pass (x:=.inLoop c) W (λ_ _=>.inl I) i⟩
   |ret=>exact⟨_,o,j,⟨g,q,h⟩,.pass (x:=.inLoop c) W (λ_ _=>.inl I) i⟩
   |panic O=>exact⟨_,o,j,⟨g,q,h⟩,.pass (x:=.inLoop c) W (λ_ _=>.inl I) i⟩
   |outgrown=>exact⟨_,o,j,⟨g,q,h⟩,.pass (x:=.inLoop c) W (λ_ _=>.inl I) i⟩
 obtain⟨e,y,w',q,i⟩:=z n σ a w M hi.x;exact⟨e,y,w',q,.of_steps (.one (fenced_calm D B W) stepR_loop) i⟩
def Cells.get:∀{xs:List AV}{d:List Value}{F:List Nat}(i:Nat),Cells w S false xs d F->F=[]->match xs[i]?with|some x=>∃v,d[i]?=some v/\Rel w S x v []|none=>True
 |[],d,F,i,h,_=>I
 |x::xs,d,F,i,h,e=>by
  obtain⟨y,l',o,m,rfl,rfl,l,j,g⟩:=h;obtain⟨rfl,rfl⟩:=agS.1 e;cases i with
  |zero=>simp_all
  |succ i=>simpa using Cells.get i g W
def OP{args:List AV}{d:List Value}(m:V.df=[])(o:∀b,S b->b<w.heap.size)(hc:Cells w S false args d [])(p:d.length<=N):
 Inv N V w S (mk<|entry 0 args) {tmps:=d.toArray++Array.replicate (N-d.toArray.size) undef,defers:=[]} w:=by
 refine⟨S,λ_=>[],⟨λi=>?_,λ_=>ae5,I,I,o⟩,by simp;omega,m.symm,λ_ h=>h,λ_ h=>.inl h,lW.refl _ _⟩;have j:=Cells.get i hc W;have he:=pF args 0 i;simp at he;cases e:args[i]?with
 |none=>rw[e]at he;rw[an.aA<|by rw[he];rfl,he];simp[Rel]
 |some x=>
  rw[e]at he j;obtain⟨v,l,g⟩:=j;rw[an.aA<|by rw[he];exact g.plain,he];have:tv V {tmps:=d.toArray++Array.replicate (N-d.toArray.size) undef,defers:=[]} i=v:=by
   have hi:=(agj.1 l).1;rw[vp V _<|.inr<|by simp;omega];simp
   grind
  rw[this];exact g
def ja(P:Program)(σ:St):List ResultVar->Option (List AV)
 |[]=>some []
 |.tmp t::rs=>if(σ t).av.plain then match ja P σ rs with
   |some xs=>some ((σ t).av::xs)
   |none=>none
  else none
 |.cell t ty::rs=>match(σ t).av with
  |.box true x=>match cu P ty with
   |some ti=>if fits ti x then match ja P σ rs with
     |some xs=>some (x::xs)
     |none=>none
    else none
   |none=>none
  |_=>none
def jP:ResultVar->Nat
 |.tmp t=>t
 |.cell t _=>t
def eG:List ResultVar->List Nat->Bool
 |[],_=>true
 |r::rs,d=>(!d.contains (jP r)&&Nat.blt (jP r) 1000000)&&eG rs (jP r::d)
def rS(xs:List AV):AV:=match xs with|[x]=>x|xs=>.bW xs
def vZ(ys:Array Value):Value:=if h:ys.size=1 then ys[0]else .tuple ys
def AI(d:Array Value):ResultVar->Sem Value
 |.tmp t=>pure (d.getD t undef)
 |.cell a t=>do loadVar t (←asAddr (d.getD a undef))
def Bq(fn:Func)(d:Array Value):results fn d=(do let e←fn.results.mapM (AI d);pure (vZ e)):=by congr 1
def qn{F:Nat->List Nat}{B:Nat->Prop}(h:aT S B σ (tv V a) w F):∀(rs:List ResultVar)(m:List Nat){xs:List AV},eG rs m=true->ja P σ rs=some xs->
 ∃H F',(rs.mapM<|AI a.tmps).run P w=.ok H w/\Cells w S false xs H F'/\F'.Nodup/\∀b∈F',∃i,i∉m/\i<1000000/\b∈F i
 |[],m,xs,_,d=>by simp[ja,ada]at d;subst d;exact⟨[],[],I,by simp[Cells],I,I⟩
 |r::rs,m,xs,o,d=>by
  simp only[eG,adD,af9,List.contains_eq_mem,decide_eq_false_iff_not]at o;have q:jP r<1000000:=ae4 (show Nat.ble (jP r+1) 1000000=true from o.1.2)
  replace o:jP r∉m/\eG rs (jP r::m)=true:=⟨o.1.1,o.2⟩
  have J:∃y g v D,ja P σ rs=some g/\xs=y::g/\(AI a.tmps r).run P w=.ok v w/\Rel w S y v D/\D.Nodup/\∀b∈D,b∈F (jP r):=by
   cases r with
   |tmp t=>
    simp only[ja]at d;split at d<;>try(cases d;done)
    rename_i hp;split at d<;>try(cases d;done)
    rename_i g l;cases d;have s:=h.rel t;rw[an.aA hp]at s;exact⟨_,g,tv V a t,F t,l,W,by rw[vp V a (i:=t)<|.inl q];rfl,s,h.nodup t,λb O=>O⟩
   |cell t ty=>
    simp[ja]at d;split at d<;>try(cases d;done)
    rename_i x C;split at d<;>try(cases d;done)
    rename_i ti K;split at d<;>try(cases d;done)
    rename_i A;split at d<;>try(cases d;done)
    rename_i g l;cases d;have s:=h.rel t;rw[an.aA<|by rw[C];rfl,C]at s;obtain⟨b,cs,fz,F',z,e1,e2,Z,e4,e5,e6⟩:=s;refine⟨x,g,z,F',l,W,?_,Z,?_,?_⟩
    ·have p:a.tmps.getD t undef=.pointer (some ⟨b,0,none⟩):=(vp V a (i:=t)<|.inl q).symm.trans e1;have T:At w ⟨b,0,none⟩ z:=⟨W,cs,fz,e2,λj u hu=>eW⟩;simp only[AI,p];simp[Sem.run_bind];have:(asAddr<|.pointer<|some ⟨b,0,none⟩).run P w=.ok ⟨b,0,none⟩ w:=W;rw[this];exact kK K T (kW A Z)
    ·have:=h.nodup t;simp_all
    intro c hc;simp only[jP,e6];simp_all
  obtain⟨y,g,v,D,l,rfl,X,Y,L,hF⟩:=J;obtain⟨H,F',k1,k2,k3,k4⟩:=qn h rs (jP r::m) o.2 l;refine⟨v::H,D++F',?_,?_,?_,?_⟩
  ·simp_all
  ·simp only[Cells]
   grind
  ·rw[aeJ];refine⟨L,k3,λb O c hc e=>?_⟩;subst e;obtain⟨i,hi,-,M⟩:=k4 b hc;exact h.du (jP r) i (λe=>hi<|by simp[e]) b (hF b O) M
  grind
def sS(x y:AV):Prop:=∀(w:World)(S:Nat->Prop)(v:Value)(F:List Nat),Rel w S x v F->Rel w S y v F
def uq(x y:AV):Prop:=∀(w:World)(S:Nat->Prop)(v:Value)(F:List Nat),Rel w S x v F->∃e d,F.Perm (e++d)/\∀S':Nat->Prop,(∀b,S b->S' b)->(∀b∈d,S' b)->Rel w S' y v e
def uq.of_le{x y:AV}(h:sS x y):uq x y:=λw S v F d=>⟨F,[],I,λ_ e _=>Rel.mono e y<|h w S v F d⟩
def uq.share(x:AV):uq x x.b9:=λw S v F d=>⟨[],F,I,λ_ e g=>Rel.share e x d g⟩
def YC(P:Program)(rs:List ResultVar)(r:AV):Exit->St->Prop
 |.normal,σ=>∃xs,ja P σ rs=some xs/\uq (rS xs) r
 |.ret,σ=>∃xs,ja P σ rs=some xs/\uq (rS xs) r
 |_,_=>False
def vh.BJ{fn:Func}{d:Array Value}{R:Value->World->Prop}(j:P.funcs[f]?=some fn)(p:fn.body.isNone=false)(hn:(fn.name== "runtime.NumGoroutine")=false)
 (h:Calls P f d w λe w'=>∃v,e=.returned v/\R v w'):vh P f d w R:=by
 intro rd o a next Q q
 have:(callFunc f d).run P w=.ok (.enter f d) w:=by
  have g:¬fn.name= "runtime.NumGoroutine":=by simpa using hn
  have i:¬fn.body=none:=by grind
  unfold callFunc;simp[j,i,g]
 rw[this];refine⟨(λh=>by cases h),LK ?_⟩;intro l;obtain⟨e,w',fr,⟨v,rfl,m⟩,r⟩:=h l
 grind
def QN:Hid:={v:=λ_=>undef,g:=λ_=>False}
def BP{w:World}{b:Nat}(h:cQ QN w b):w.heap.size<=b:=h.elim id False.elim
def lW.below{w w':World}(h:lW QN w w'):Below w.heap.size w w':=⟨h.os,h.tape,h.output,h.size,λk d=>h.block k d id⟩
def SD(ds:List Deferred)(w w':World):Prop:=w'.os=w.os/\w'.tape=w.tape/\w'.output=w.output/\w'.heap.size=w.heap.size/\∀k,w'.heap[k]?=w.heap[k]?\/({target:=.collected k,args:=#[]}∈ds/\w.heap[k]?=some (.deferred<|some [])/\w'.heap[k]?=some (.deferred none))
def SD.same{V:Hid}{w w':World}(h:SD ds w w')(hm:Marks V w0 w S F ds){b:Nat}(d:S b\/∃i,b∈F i):w'.heap[b]?=w.heap[b]?:=by
 rcases h.2.2.2.2 b with e|⟨e,-,-⟩
 ·exact e
 obtain⟨D,g,-,-,k1,k2⟩:=hm.2 _ e;simp_all
def qE{F:Fence}{n:Nat}{fn:Func}{e:Array Value}{R:Ending->World->Prop}:∀(ds:List Deferred)(w:World),ds.Nodup->(∀d∈ds,∃D,d={target:=.collected D,args:=#[]}/\w.heap[D]?=some (.deferred<|some []))->
 (∀w',SD ds w w'->LeavesInM F n P fn e R [] .returning w')->LeavesInM F n P fn e R ds .returning w
 |[],w,_,_,h=>h w ⟨W,W,W,W,λ_=>.inl W⟩
 |d::ds,w,hn,u,h=>by
  obtain⟨D,rfl,j⟩:=u d I;have i:=(af8.1 j).1;refine⟨I,.inl ⟨D,_,W,run_takeDeferred j,?_⟩⟩;have r:∀k,k≠D->(w.putObj D<|.deferred none).heap[k]?=w.heap[k]?:=λk s=>World.putObj_heap_other s;have g:(w.putObj D<|.deferred none).heap[D]?=some (.deferred none):=World.putObj_heap_same i;rw[afv]at hn;refine qE ds _ hn.2 (λx t=>?_) λw' q=>h w' ?_
  ·grind
  obtain⟨p,o,m,l,v⟩:=q;refine⟨p,o,m,by rw[l];simp,λk=>?_⟩
  grind
def aT.shut{V:Hid}{B:Nat->Prop}{T:Nat->Value}(h:aT S B σ T w F)(hm:Marks V w0 w S F ds)(hs:SD ds w w'):aT S B σ T w' F:=
 h.step (w':=w') (S':=S) ⟨λ_=>.refl,λ_=>.refl,λ_ _=>rfl,λ_ _ _=>⟨λ_ y e=>⟨y,e⟩,λ_ h=>hs.same hm<|h.imp id λh=>⟨_,h⟩⟩⟩ (λ_ h=>h)
  (λ_=>.inl ⟨W,W,W,λ_ h=>hs.same hm<|h.imp id λh=>⟨_,h⟩⟩) h.nodup h.du (λi b d=>by rw[hs.2.2.2.1];exact h.own i b d) (λb d=>by rw[hs.2.2.2.1];exact h.shr b d)
def lW.shut{V:Hid}{S:Nat->Prop}(h:lW V w0 w)(hm:Marks V w0 w S F ds)(hs:SD ds w w'):lW V w0 w':=by
 obtain⟨l,j,i,g,d⟩:=hs;refine⟨l.trans h.os,j.trans h.tape,i.trans h.output,by rw[g];exact h.size,λk m o=>?_⟩;rcases d k with e|⟨e,-⟩
 ·rw[e];exact h.block k m o
 obtain⟨D,p,-,q,-⟩:=hm.2 _ e;simp at p;omega
def HE{fn:Func}{args:List AV}{r:AV}(hf:P.funcs[f]?=some fn)(g:fn.body=some c)(hn:(fn.name== "runtime.NumGoroutine")=false)(j:args.length<=fn.ntmps)
 (X:eG fn.results.toList []=true)(h:AW R0 P fn.ntmps c (YC P fn.results.toList r) (mk<|entry 0 args)):Sound P f args r:=by
 intro w S q hG hS hc;have hl:=Cells.length hc;refine vh.BJ hf (by rw[g];rfl) hn<|(callsIn_wide (n:=0)).1<|callsIn_of_wp_marks hf g U<|wpIn_mono (h QN w S _ w ⟨W,hG,λ_ _ h=>h⟩<|OP W hS hc E) λe A w1⟨σ',z,S',F,ds,u,hN,m,L,K,Y,hm⟩=>?_;have m:A.defers=ds:=by rw[m];exact afN _
 have gen:(∃l,ja P σ' fn.results.toList=some l/\uq (rS l) r)->LeavesInM Fence.wide 0 P fn A.tmps (λe w'=>∃v,e=.returned v/\∃S' F,Below w.heap.size w w'/\(∀b,S b->S' b)/\(∀b,S' b->S b\/w.heap.size<=b)/\(∀b,S' b->b<w'.heap.size)/\Rel w' S' r v F/\F.Nodup/\∀b∈F,w.heap.size<=b/\b<w'.heap.size/\¬S' b) A.defers .returning w1:=by
  intro t;rw[m];refine qE ds w1 hm.1 (λd X=>by obtain⟨D,k1,k2,-⟩:=hm.2 d X;exact⟨D,k1,k2⟩) λw' s=>?_;have o:=u.shut hm s;have Z:=Y.shut hm s;have C:(∃l,ja P σ' fn.results.toList=some l/\uq (rS l) r)->∃v,(results fn A.tmps).run P w'=.ok v w'/\∃v',Ending.returned v=.returned v'/\
   ∃S' F,Below w.heap.size w w'/\(∀b,S b->S' b)/\(∀b,S' b->S b\/w.heap.size<=b)/\(∀b,S' b->b<w'.heap.size)/\Rel w' S' r v' F/\F.Nodup/\∀b∈F,w.heap.size<=b/\b<w'.heap.size/\¬S' b:=by
   rintro⟨l,hx,T⟩;obtain⟨q,B,k1,k2,k3,k4⟩:=qn o _ [] X hx;have A0:∀b∈B,w.heap.size<=b/\b<w'.heap.size/\¬S' b:=λb g=>by obtain⟨i,-,-,hi⟩:=k4 b g;have:=o.own i b hi;exact⟨BP this.1,this.2⟩
   have M:(results fn A.tmps).run P w'=.ok (vZ q.toArray) w':=by rw[Bq,Array.mapM_eq_mapM_toList];simp_all
   obtain⟨F1,F2,O,hq⟩:=T w' S' (vZ q.toArray) B (by
    generalize H:q.toArray=p;have J:q=p.toList:=by rw[<-H]
    rw[J]at k2;unfold vZ;have j:=Cells.length k2;cases l with
    |nil=>rw[dif_neg eW];exact⟨p,W,k2⟩
    |cons x l=>cases l with
     |nil=>
      have z:p.size=1:=by simpa using j
      rw[dif_pos z];obtain⟨y,l',F1,F2,e1,rfl,-,k5,rfl,rfl⟩:=k2;have:p[0]=y:=by grind
      rw[this];simpa[rS]using k5
     |cons x' l=>rw[dif_neg<|by simp at j;omega];exact⟨p,W,k2⟩)
   have m1:∀b∈F1,b∈B:=λb g=>O.mem_iff.2 (by simp[g]);have m2:∀b∈F2,b∈B:=λb g=>O.mem_iff.2 (by simp[g]);have hn:=aeJ.1<|O.nodup_iff.1 k3;refine⟨_,M,_,W,λb=>S' b\/b∈F2,F1,Z.below,λb g=>.inl<|L b g,?_,?_,hq _ (λb g=>.inl g) λb g=>.inr g,hn.1,λb g=>?_⟩
   ·rintro b(g|g)
    ·exact(K b g).imp id BP
    simp_all
   ·rintro b(g|g)
    ·exact o.shr b g
    simp_all
   grind
  exact C t
 cases e with
 |normal=>exact gen z
 |ret=>exact gen z
 |_=>exact z.elim
end
end
def XE(P:Program)(ops:Array Oper)(σ:St)(o:Oper):Option (List Mv):=
 match fu P σ ops o (.PZ .dead)with
 |some (a,[])=>some a
 |_=>none
def vg{α:Type}(x:Option α)(k:α->Prop):Prop:=∃a,x=some a/\k a
@[simp] theorem Pv{α:Type}(a:α)(k:α->Prop):vg (some a) k=k a:=by simp[vg]
@[simp] theorem XK{α:Type}(k:α->Prop):vg none k=False:=by simp[vg]
def EN(σ:St)(f:bY)(asx:List bY):Option (FuncId×List AV×List Mv):=
 match f.cont with
 |some (.fn (.func g) first a)=>if bU first&&bU a then match gP asx with
   |some b=>some (g,first++b++a,shares asx)
   |none=>none
  else none
 |_=>none
def yU(d:Option Nat)(a:AV)(sh:List Mv):Option (List Mv):=
 if !a.cL then match sh with
  |[]=>some (gF d a [])
  |[m]=>some (gF d a [m])
  |_=>none
 else some (gF d a [])
def w7(o:Oper):Option Call:=
 match o.op with
 |.call c=>match c.callee with
  |.value _=>some c
  |_=>none
 |_=>none
def AX(c:Call):Operand:=match c.callee with|.value f=>f|_=>.global 0
def V1(P:Program)(h:FuncId×List AV×List Mv)(k:AV->Prop):Prop:=∃r,Sound P h.1 h.2.1 r/\k r
def Mo(P:Program)(ops:Array Oper)(o:Oper)(σ:St)(K:List Mv->St->Prop):Prop:=∃c e b a,fu P σ ops o c=some (e,b)/\(∀f∈b,f.ok P)/\Mv.runs σ e=some a/\K e a
def rp(P:Program)(ops:Array Oper):List Oper->St->(St->Prop)->Prop
 |[],σ,K=>K σ
 |o::rest,σ,K=>Mo P ops o σ λ_ a=>rp P ops rest a K
def si(P:Program)(ops:Array Oper)(o:Oper)(σ:St)(K:List Mv->St->Prop):Prop:=
 match w7 o with
 |some c=>vg (kB σ ops o) λb=>match b with
  |true=>vg (EN σ (resolve σ<|AX c)<|c.args.toList.map<|resolve σ) λh=>V1 P h λr=>vg (yU o.dst r h.2.2) λa=>vg (Mv.runs σ a) (K a)
  |false=>vg (Mv.runs σ<|yZ o) (K<|yZ o)
 |none=>vg (XE P ops σ o) λa=>vg (Mv.runs σ a)<|K a
def rt(P:Program)(ops:Array Oper):List Oper->St->List (List Nat×List Nat)->(List (List Nat×List Nat)->St->Prop)->Prop
 |[],σ,a,K=>K a.reverse σ
 |o::rest,σ,a,K=>Mo P ops o σ λc b=>rt P ops rest b ((iD σ ops o,bc c)::a) K
section
variable{R:Option Nat->Prop}{P:Program}{N:Nat}{ops:Array Oper}{σ:St}{o:Oper}{rest:List Oper}{K:St->Prop}
def QJ{c:Call}{a:AV}(hc:w7 o=some c):Al P σ o a=C4 o.dst (resolve σ<|AX c) (c.args.toList.map<|resolve σ) a:=by
 unfold w7 at hc;split at hc
 ·rename_i g cm;split at hc
  ·rename_i f b;cases hc;unfold Al;cases e:o.dst<;>simp[cm,b,AX]
  cases hc
 cases hc
def LL{d:Option Nat}{f:bY}{asx:List bY}{b:AV}{h:FuncId×List AV×List Mv}{e:List Mv}(a:EN σ f asx=some h)(k:yU d b h.2.2=some e):C4 d f asx b=some (e,[(h.1,h.2.1,b)]):=by
 unfold EN at a;unfold C4;split at a
 ·rename_i g first c j
  rw[j];simp only;split at a
  ·rename_i hn;rw[if_pos hn];split at a
   ·rename_i l i;cases a;simp only[i];unfold yU at k
    grind
   cases a
  cases a
 cases a
def HV:∀{rest:List Oper}{σ:St}{K:St->Prop},rp P ops rest σ K->Vb P ops rest σ K
 |[],σ,K,h=>h
 |o::rest,σ,K,h=>by obtain⟨b,e,c,a,j,i,g,f⟩:=h;exact⟨b,e,c,a,j,i,g,HV f⟩
def nI{K:List Mv->St->Prop}(h:si P ops o σ K):Mo P ops o σ K:=by
 unfold si at h;split at h
 ·rename_i c hc;obtain⟨b,l,h⟩:=h;cases b with
  |true=>obtain⟨k,e,r,hs,j,i,a,f,g⟩:=h;refine⟨.PZ r,j,[.call (k.1,k.2.1,r)],a,?_,by simpa[Ob.ok]using hs,f,g⟩;unfold fu;rw[l];simp[lv];rw[QJ hc,LL e i];rfl
  |false=>obtain⟨a,f,g⟩:=h;exact⟨.PZ .dead,_,[],a,by unfold fu;rw[l],I,f,g⟩
 obtain⟨j,e,a,i,f⟩:=h;unfold XE at e;split at e
 ·rename_i m n;cases e;exact⟨.PZ .dead,_,[],a,n,I,i,f⟩
 cases e
def HR:∀{rest:List Oper}{σ:St}{a:List (List Nat×List Nat)}{K:List (List Nat×List Nat)->St->Prop},rt P ops rest σ a K->sQ P ops rest σ a K
 |[],σ,a,K,h=>h
 |o::rest,σ,a,K,h=>by obtain⟨c,f,e,b,k,j,i,g⟩:=h;exact⟨c,f,e,b,k,j,i,HR g⟩
def tJ(x:Option (List Mv))(σ:St)(K:List Mv->St->Prop):Prop:=vg x λa=>vg (Mv.runs σ a)<|K a
def aad(hc:w7 o=none)(b:o.guard=none){m:Option (List Mv)}(hm:∀a,Al P σ o a=gj m)(K:List Mv->St->Prop):si P ops o σ K=tJ m σ K:=by simp[si,hc,XE,fu,kB,b,lv,hm,tJ];cases m<;>simp[gj]
end
section
variable{R:Option Nat->Prop}{P:Program}{ops:Array Oper}{o:Oper}{σ:St}{K:List Mv->St->Prop}{d:Nat}{ty:TypeId}{pos:String}{aft:Array Edge}{t t':TypeId}{x y z:Operand}
def WC:si P ops ⟨some d,.move x,ty,pos,aft,none⟩ σ K=tJ (dc d<|resolve σ x) σ K:=aad W W (λ_=>rfl) K
def QK:si P ops ⟨some d,.assign x,ty,pos,aft,none⟩ σ K=tJ (dG d<|resolve σ x) σ K:=aad W W (λ_=>rfl) K
def WD:si P ops ⟨some d,.load t x,ty,pos,aft,none⟩ σ K=tJ (sn P d t<|resolve σ x) σ K:=aad W W (λ_=>rfl) K
def TS:si P ops ⟨none,.store t x y,ty,pos,aft,none⟩ σ K=tJ (uC P t (resolve σ x)<|resolve σ y) σ K:=aad W W (λ_=>rfl) K
def Il{f:Nat}:si P ops ⟨some d,.fieldAddr t x f,ty,pos,aft,none⟩ σ K=tJ (jZ P d t (resolve σ x) f) σ K:=aad W W (λ_=>rfl) K
def TW{f:Nat}:si P ops ⟨some d,.field t x f,ty,pos,aft,none⟩ σ K=tJ (ye P d t (resolve σ x) f) σ K:=aad W W (λ_=>rfl) K
def Ik:si P ops ⟨some d,.indexAddr t x y,ty,pos,aft,none⟩ σ K=tJ (aab P d t (resolve σ x)<|resolve σ y) σ K:=aad W W (λ_=>rfl) K
def TV:si P ops ⟨some d,.index t x y,ty,pos,aft,none⟩ σ K=tJ (uV P d t (resolve σ x)<|resolve σ y) σ K:=aad W W (λ_=>rfl) K
def Ou{i:Nat}:si P ops ⟨some d,.extract x i,ty,pos,aft,none⟩ σ K=tJ (nZ d (resolve σ x) i) σ K:=aad W W (λ_=>rfl) K
def Ov:si P ops ⟨some d,.convert t t' x,ty,pos,aft,none⟩ σ K=tJ (CR P d t t'<|resolve σ x) σ K:=aad W W (λ_=>rfl) K
def TU{l h m:Option Operand}:si P ops ⟨some d,.slice t x l h m,ty,pos,aft,none⟩ σ K=tJ (qh P d t (resolve σ x) (l.map<|resolve σ) (h.map<|resolve σ)<|m.map<|resolve σ) σ K:=aad W W (λ_=>rfl) K
def U0(P:Program)(d:Nat)(op:BinOp)(t:TypeId)(a b:Option AV):Option (List Mv):=
 match a,b with
 |some a,some b=>match mB P op t a b with
  |some v=>some [.put d v]
  |none=>none
 |_,_=>none
def Yc{op:BinOp}:si P ops ⟨some d,.binOp op t x y t',ty,pos,aft,none⟩ σ K=tJ (U0 P d op t (resolve σ x).cont (resolve σ y).cont) σ K:=
 aad W W (λc=>by
  simp[Al,U0];cases(resolve σ x).cont with
  |none=>rfl
  |some a=>cases(resolve σ y).cont with
   |none=>rfl
   |some b=>simp only;cases mB P op t a b<;>rfl) K
def Y3(d:Nat)(op:UnOp)(a:Option AV):Option (List Mv):=
 match a with
 |some (.v a)=>match Wb op a with
  |some v=>some [.put d<|.v v]
  |none=>none
 |_=>none
def Zu{op:UnOp}:si P ops ⟨some d,.unOp op t x,ty,pos,aft,none⟩ σ K=tJ (Y3 d op (resolve σ x).cont) σ K:=
 aad W W (λb=>by
  simp[Al,Y3];cases(resolve σ x).cont with
  |none=>rfl
  |some a=>cases a with
   |v w=>simp only;cases Wb op w<;>rfl
   |_=>rfl) K
def Vr(d:Nat)(c:Option AV)(x y:bY):Option (List Mv):=
 match c with
 |some (.v<|.bool true)=>dc d x
 |some (.v<|.bool false)=>dc d y
 |_=>none
def WB:si P ops ⟨some d,.pick x y z,ty,pos,aft,none⟩ σ K=tJ (Vr d (resolve σ x).cont (resolve σ y)<|resolve σ z) σ K:=
 aad W W (λc=>by
  simp[Al];cases hc:(resolve σ x).cont with
  |none=>rfl
  |some a=>cases a with
   |v w=>cases w with
    |bool b=>cases b<;>rfl
    |_=>rfl
   |_=>rfl) K
def Ow{b:Builtin}{asx:Array Operand}{a:Array TypeId}:si P ops ⟨some d,.call ⟨.builtin b,asx,a⟩,ty,pos,aft,none⟩ σ K=tJ (kz P d b a.toList<|asx.toList.map<|resolve σ) σ K:=aad W W (λ_=>rfl) K
def WE{a:Option Nat}{f:Operand}{asx:Array Operand}{b:Array TypeId}:si P ops ⟨a,.call ⟨.value f,asx,b⟩,ty,pos,aft,none⟩ σ K=
 vg (EN σ (resolve σ f)<|asx.toList.map<|resolve σ) λh=>V1 P h λr=>tJ (yU a r h.2.2) σ K:=by
 simp[si,w7,kB,AX,tJ]
def Ur(d:Nat)(x:Option (AV×List Nat))(f:AV->Option AV):Option (List Mv):=
 match x with
 |some (y,M)=>match f y with
  |some z=>some [.make M d z]
  |none=>none
 |none=>none
def TY:si P ops ⟨some d,.alloc t,ty,pos,aft,none⟩ σ K=tJ (match cu P t with|some ti=>some [.make [] d<|.box true ti.zero]|none=>none) σ K:=aad W W (λa=>by simp[Al];cases cu P t<;>rfl) K
def Yb:si P ops ⟨some d,.box t x,ty,pos,aft,none⟩ σ K=tJ (match cu P t with|some ti=>Ur d (x6<|resolve σ x) λy=>if fits ti y then some (.box true y)else none|none=>none) σ K:=
 aad W W (λa=>by
  simp[Al];cases cu P t with
  |none=>rfl
  |some ti=>
   simp[Ur];cases x6 (resolve σ x)with
   |none=>rfl
   |some p=>simp only;split<;>rfl) K
def Gf{n:Nat}{a:Array (Nat×Operand)}:si P ops ⟨some d,.buildSlice t n a,ty,pos,aft,none⟩ σ K=tJ (match dC P t with
 |some e=>match cu P e with
  |some ti=>match gr (a.toList.map λp=>resolve σ p.2)with
   |some (ys,M)=>if(a.toList.map (·.1)=List.range n)/\(ys.all<|fits ti)/\n*ti.size<=2^24/\n<=maxLen then some [.make M d<|.list .own ti.size ys]else none
   |none=>none
  |none=>none
 |none=>none) σ K:=
 aad W W (λb=>by
  simp[Al];cases dC P t with
  |none=>rfl
  |some e=>simp only;cases cu P e with
   |none=>rfl
   |some ti=>simp only;cases gr (a.toList.map λp=>resolve σ p.2)with
    |none=>rfl
    |some q=>simp only;split<;>rfl) K
def TX{a:Array (Nat×Operand)}:si P ops ⟨some d,.build t a,ty,pos,aft,none⟩ σ K=tJ (match cu P t with
 |some ti=>match ti.zero with
  |.agg z=>match placesOf P t with
   |some b=>match gr (a.toList.map λp=>resolve σ p.2)with
    |some (ys,M)=>match sB b z ((a.toList.map (·.1)).zip ys)with
     |some cs=>some [.make M d<|.agg cs]
     |none=>none
    |none=>none
   |none=>none
  |_=>none
 |none=>none) σ K:=
 aad W W (λc=>by
  simp[Al];cases cu P t with
  |none=>rfl
  |some ti=>simp only;cases ti.zero with
   |agg z=>simp only;cases placesOf P t with
    |none=>rfl
    |some b=>simp only;cases gr (a.toList.map λp=>resolve σ p.2)with
     |none=>rfl
     |some q=>simp only;cases sB b z ((a.toList.map (·.1)).zip q.1)<;>rfl
   |_=>rfl) K
def m1(x:Option (List Mv×List VZ)):Option (List Mv):=match x with
 |some (a,[])=>some a
 |_=>none
@[simp] theorem Yi(x:Option (List Mv)):m1 (gj x)=x:=by cases x<;>rfl
def KB(hc:w7 o=none)(b:o.guard=none)(K:List Mv->St->Prop):si P ops o σ K=tJ (m1<|Al P σ o .dead) σ K:=by
 have e:XE P ops σ o=m1 (Al P σ o .dead):=by
  simp[XE,fu,kB,b,lv];cases Al P σ o .dead with
  |none=>rfl
  |some q=>obtain⟨c,a⟩:=q;cases a<;>rfl
 simp[si,hc,e,tJ]
def Ij:si P ops ⟨some d,.makeSlice t x y,ty,pos,aft,none⟩ σ K=tJ (m1 (match dC P t with
 |some e=>match cu P e with
  |some ti=>match(resolve σ x).cont,(resolve σ y).cont with
   |some (.v<|.int _ a),some (.v<|.int _ b)=>if 0<=a/\a<=b/\b*ti.bytes<=140737488355328/\b<=maxLen/\0<ti.size then
     some ([.make [] d<|.list .own ti.size<|List.replicate a.toNat ti.zero],[])else none
   |_,_=>none
  |none=>none
 |none=>none)) σ K:=KB W W K
def KP:si P ops ⟨some d,.nilCheck x,ty,pos,aft,none⟩ σ K=tJ (m1 (match(resolve σ x).cont with
 |some (.box _ _)=>gj (dc d<|resolve σ x)
 |some (.fn (.func _) _ _)=>gj (dc d<|resolve σ x)
 |_=>match(resolve σ x).sl.av with
  |.ptr .. =>match(resolve σ x).addr with
   |some _=>gj (dc d<|resolve σ x)
   |none=>none
  |_=>none)) σ K:=KB W W K
def KQ{f:Fn}{a b:Array Operand}:si P ops ⟨some d,.makeFunc f a b,ty,pos,aft,none⟩ σ K=tJ (m1 (match gP (a.toList.map<|resolve σ),gP (b.toList.map<|resolve σ)with
 |some e,some c=>if(shares<|a.toList.map (resolve σ)++b.toList.map (resolve σ)).isEmpty then some ([.put d<|.fn f e c],[])else none
 |_,_=>none)) σ K:=KB W W K
def Ge{a:Option Nat}{op:Op}{j:Nat}{b:Bool}:si P ops ⟨a,op,ty,pos,aft,some (j,b)⟩ σ K=
 vg (kB σ ops ⟨a,op,ty,pos,aft,some (j,b)⟩) λ
  |true=>si P ops ⟨a,op,ty,pos,aft,none⟩ σ K
  |false=>tJ (some<|yZ ⟨a,op,ty,pos,aft,none⟩) σ K:=by
 unfold si;have e:w7 ⟨a,op,ty,pos,aft,some (j,b)⟩=w7 ⟨a,op,ty,pos,aft,none⟩:=W;have g:(σ:St)->(f:AV)->Al P σ ⟨a,op,ty,pos,aft,some (j,b)⟩ f=Al P σ ⟨a,op,ty,pos,aft,none⟩ f:=λ_ _=>rfl;rw[e];cases w7 ⟨a,op,ty,pos,aft,none⟩with
 |some c=>
  cases kB σ ops ⟨a,op,ty,pos,aft,some (j,b)⟩with
  |none=>simp
  |some b=>cases b<;>simp[kB,tJ,yZ]
 |none=>
  simp[XE,fu,lv,g];cases h:kB σ ops ⟨a,op,ty,pos,aft,some (j,b)⟩with
  |none=>simp
  |some b=>cases b<;>simp[kB,tJ,yZ]
end
abbrev hO:=List UInt8
def bs(l:hO):ByteArray:=⟨l.toArray⟩
def Fg(s:ByteArray):bs s.data.toList=s:=by cases s;simp[bs]
inductive SV:Type 1
 |n (k:IntKind) (a:Int)
 |b (x:Bool)
 |u (x:Bool)
 |s (x:hO)
 |c (x:Value)
 |nil
 |ints (k:IntKind) (own:Bool) (xs:List Int)
 |fv (k:IntKind) (xs:List Int)
 |strs (own:Bool) (xs:List hO)
 |cz (own:Bool) (xs:List Bool)
 |bA (own:Bool) (sz:Nat) {α:Type} (d:α) (e:α->SV) (xs:List α)
 |row (own:Bool) (sz:Nat) (xs:List SV)
 |agg (xs:List SV)
 |bW (xs:List SV)
 |box (own:Bool) (x:SV)
 |fn (f:Fn) (first captured:List SV)
 |bC (r g1 g2:Nat) (p:Path)
 |ptr (r g1 g2:Nat) (p:Path)
 |hole
 |dead
 |pv (C:Value->Prop)
 |abs (J:World->(Nat->Prop)->List Nat->Prop)
 |fS (g:FuncId) (caps:List (Nat×Nat))
 |mp (K:Obj->Prop)
abbrev SV.i(a:Int):SV:=.n .i64 a
def Yx:List Int->Fl
 |[]=>.nil
 |_::_=>.shr
def XQ:List Int->Nat
 |[]=>0
 |_::_=>1
def fl:Bool->Fl
 |true=>.own
 |false=>.shr
mutual
def SV.den:SV->AV
 |.n k a=>.v (.int k a)
 |.b x=>.v (.bool x)
 |.u x=>.v (.bool x)
 |.s x=>.v (.string<|bs x)
 |.c x=>.v x
 |.nil=>.list .nil 0 []
 |.ints k own xs=>.list (fl own) 1 (xs.map λa=>.v<|.int k a)
 |.fv k xs=>.list (Yx xs) (XQ xs) (xs.map λa=>.v<|.int k a)
 |.strs own xs=>.list (fl own) 1 (xs.map λa=>.v<|.string<|bs a)
 |.cz own xs=>.list (fl own) 1 (xs.map λa=>.v<|.bool a)
 |.bA own sz _ e xs=>.list (fl own) sz (xs.map λx=>(e x).den)
 |.row own sz xs=>.list (fl own) sz (aB xs)
 |.agg xs=>.agg (aB xs)
 |.bW xs=>.bW (aB xs)
 |.box own x=>.box own x.den
 |.fn f a c=>.fn f (aB a) (aB c)
 |.bC r g1 g2 p=>.bC r g1 g2 p
 |.ptr r g1 g2 p=>.ptr r g1 g2 p
 |.hole=>.hole
 |.dead=>.dead
 |.pv C=>.pv C
 |.abs J=>.abs J
 |.fS g d=>.fS g d
 |.mp K=>.mp K
def aB:List SV->List AV
 |[]=>[]
 |x::xs=>x.den::aB xs
end
def cn:∀xs:List SV,aB xs=xs.map SV.den
 |[]=>rfl
 |x::xs=>by simp[aB,cn xs]
def bB(xs:List SV):(aB xs).length=xs.length:=by simp[cn]
def ji(xs:List SV)(i:Nat):(aB xs)[i]?=xs[i]?.map SV.den:=by simp[cn]
structure Pd where
 p:Prop
 b:Bool
 h:b=true->p
instance(p:Prop)[Decidable p]:CoeDep Prop p Pd:=⟨⟨p,decide p,of_decide_eq_true⟩⟩
abbrev Pd.of(p:Prop):Pd:=⟨p,false,Bool.noConfusion⟩
def bo:List Pd->Prop
 |[]=>True
 |⟨p,_,_⟩::l=>p/\bo l
def app:List Pd->List Pd->List Pd
 |[],l=>l
 |p::l,m=>p::app l m
def aS:∀{l m:List Pd},bo (app l m)↔bo l/\bo m
 |[],m=>by simp[app,bo]
 |p::l,m=>by simp[app,bo,aS (l:=l),and_assoc]
def nth{α:Type _}:List α->Nat->Option α
 |[],_=>none
 |x::_,0=>some x
 |_::l,n+1=>nth l n
def mI{α:Type _}:∀(l:List α)(i:Nat),nth l i=l[i]?
 |[],i=>by simp[nth]
 |x::l,0=>by simp[nth]
 |x::l,n+1=>by simp[nth,mI l n]
def len{α:Type _}:List α->Nat
 |[]=>0
 |_::l=>len l+1
def fH{α:Type _}:∀l:List α,len l=l.length
 |[]=>rfl
 |x::l=>by simp[len,fH l]
def PQ{α:Type _}:List α->Nat->List α
 |[],_=>[]
 |_::_,0=>[]
 |x::l,n+1=>x::PQ l n
def uA{α:Type _}:∀(l:List α)(n:Nat),PQ l n=l.take n
 |[],n=>by simp[PQ]
 |x::l,0=>by simp[PQ]
 |x::l,n+1=>by simp[PQ,uA l n]
def RR{α:Type _}:List α->Nat->List α
 |[],_=>[]
 |x::l,0=>x::l
 |_::l,n+1=>RR l n
def u7{α:Type _}:∀(l:List α)(n:Nat),RR l n=l.drop n
 |[],n=>by simp[RR]
 |x::l,0=>by simp[RR]
 |x::l,n+1=>by simp[RR,u7 l n]
def put{α:Type _}:List α->Nat->α->List α
 |[],_,_=>[]
 |_::l,0,y=>y::l
 |x::l,n+1,y=>x::put l n y
def put_eq{α:Type _}:∀(l:List α)(n:Nat)(y:α),put l n y=l.set n y
 |[],n,y=>by simp[put]
 |x::l,0,y=>by simp[put]
 |x::l,n+1,y=>by simp[put,put_eq l n y]
def cat{α:Type _}:List α->List α->List α
 |[],m=>m
 |x::l,m=>x::cat l m
def cX{α:Type _}:∀(l m:List α),cat l m=l++m
 |[],m=>rfl
 |x::l,m=>by simp[cat,cX l m]
def gJ:SV->Path->Option (List Pd×SV)
 |x,[]=>some ([],x)
 |x,s::p=>
  match s with
  |.idx i sz=>match x with
   |.ints k _ xs=>match p,Nat.beq sz 1 with
    |[],true=>some ([i<xs.length],.n k<|xs.getD i 0)
    |_,_=>none
   |.strs _ xs=>match p,Nat.beq sz 1 with
    |[],true=>some ([i<xs.length],.s<|xs.getD i [])
    |_,_=>none
   |.cz _ xs=>match p,Nat.beq sz 1 with
    |[],true=>some ([i<xs.length],.u<|xs.getD i false)
    |_,_=>none
   |.bA _ a d e xs=>match Nat.beq a sz with
    |true=>match gJ (e<|xs.getD i d) p with
     |some (b,y)=>some ((i<xs.length)::b,y)
     |none=>none
    |false=>none
   |.row _ a xs=>match Nat.beq a sz with
    |true=>match nth xs i with
     |some x=>gJ x p
     |none=>none
    |false=>none
   |_=>none
  |.deref=>match x with
   |.box _ x=>gJ x p
   |_=>none
  |.at o none=>match x with
   |.agg xs=>match nth xs o with
    |some x=>gJ x p
    |none=>none
   |_=>none
  |.at o (some n)=>match x with
   |.agg xs=>match Nat.ble (o+n) (len xs)with
    |true=>gJ (.agg<|PQ (RR xs o) n) p
    |false=>none
   |_=>none
  |.bW i=>match x with
   |.bW xs=>match nth xs i with
    |some x=>gJ x p
    |none=>none
   |_=>none
  |.lZ .. =>none
def cF:∀{p:Path}{x y:SV}{c:List Pd},gJ x p=some (c,y)->bo c->bp x.den p=some y.den
 |[],x,y,c,h,_=>by simp[gJ,ada,ae0]at h;simp[bp,h.2]
 |s::p,x,y,c,h,hc=>by
  cases s with
  |idx i sz=>
   cases x with
   |ints k o xs=>
    cases p with
    |cons _ _=>simp[gJ]at h
    |nil=>
     simp[gJ]at h;split at h<;>try simp at h
     rename_i a;obtain⟨rfl,rfl⟩:=h;have a:=afb a;subst a;simp[bo,and_true]at hc;simp[SV.den,bp,aeF hc,adY]
   |strs o xs=>
    cases p with
    |cons _ _=>simp[gJ]at h
    |nil=>
     simp[gJ]at h;split at h<;>try simp at h
     rename_i a;obtain⟨rfl,rfl⟩:=h;have a:=afb a;subst a;simp[bo,and_true]at hc;simp[SV.den,bp,aeF hc,adY]
   |cz o xs=>
    cases p with
    |cons _ _=>simp[gJ]at h
    |nil=>
     simp[gJ]at h;split at h<;>try simp at h
     rename_i a;obtain⟨rfl,rfl⟩:=h;have a:=afb a;subst a;simp[bo,and_true]at hc;simp[SV.den,bp,aeF hc,adY]
   |bA o g d e xs=>
    simp[gJ]at h;split at h<;>try cases h
    rename_i a;have a:=afb a;split at h<;>try simp at h
    rename_i j q l;obtain⟨rfl,rfl⟩:=h;simp[bo]at hc;have:=cF l hc.2;simp[SV.den,bp,a,if_true,agb,aeF hc.1,ahw,afp];simp_all
   |row o g xs=>
    simp[gJ]at h;split at h<;>try cases h
    rename_i a;have a:=afb a;split at h<;>try cases h
    rename_i x b;have:=cF h hc;rw[mI]at b;simp[SV.den,bp,a,if_true,ji,b,ahw,afp];exact this
   |_=>simp[gJ]at h
  |deref=>
   cases x with
   |box o x=>simp[gJ]at h;simp[SV.den,bp];exact cF h hc
   |_=>simp[gJ]at h
  | «at» o m=>
    cases m with
    |none=>
     cases x with
     |agg xs=>
      simp[gJ]at h;split at h<;>try cases h
      rename_i x b;rw[mI]at b;simp[SV.den,bp,ji,b,ahw,afp];exact cF h hc
     |_=>simp[gJ]at h
    |some n=>
     cases x with
     |agg xs=>
      simp[gJ]at h;split at h<;>try cases h
      rename_i f;have f:=ae4 f;rw[fH]at f;have:=cF h hc;simp[SV.den,uA,u7,cn,ahA,aha]at this;simp[SV.den,bp,bB,f,if_true];simpa[cn]using this
     |_=>simp[gJ]at h
  |bW i=>
   cases x with
   |bW xs=>
    simp only[gJ]at h;split at h<;>try cases h
    rename_i x b;rw[mI]at b;simp only[SV.den,bp,ji,b,ahw,afp];exact cF h hc
   |_=>simp[gJ]at h
  |lZ sz o n=>simp[gJ]at h
def su(a b:IntKind):Bool:=match decEq a b with
 |isTrue _=>true
 |isFalse _=>false
def np{a b:IntKind}(h:su a b=true):a=b:=by
 unfold su at h;split at h
 ·assumption
 cases h
def lu:SV->Path->SV->Option (List Pd×SV)
 |_,[],y=>some ([],y)
 |x,s::p,y=>
  match s with
  |.idx i sz=>match x with
   |.ints k true xs=>match p,Nat.beq sz 1,y with
    |[],true,.n h a=>match su k h with
     |true=>some ([i<xs.length],.ints k true<|xs.set i a)
     |false=>none
    |_,_,_=>none
   |.strs true xs=>match p,Nat.beq sz 1,y with
    |[],true,.s a=>some ([i<xs.length],.strs true<|xs.set i a)
    |_,_,_=>none
   |.cz true xs=>match p,Nat.beq sz 1,y with
    |[],true,.b a=>some ([i<xs.length],.cz true<|xs.set i a)
    |[],true,.u a=>some ([i<xs.length],.cz true<|xs.set i a)
    |_,_,_=>none
   |.row true c xs=>match Nat.beq c sz with
    |true=>match nth xs i with
     |some x=>match lu x p y with
      |some (f,g)=>some (f,.row true c<|put xs i g)
      |none=>none
     |none=>none
    |false=>none
   |.bA true c d e xs=>match Nat.beq c sz with
    |true=>match lu (e<|xs.getD i d) p y with
     |some (f,g)=>some ((i<xs.length)::f,.row true c<|(xs.map e).set i g)
     |none=>none
    |false=>none
   |_=>none
  |.deref=>match x with
   |.box true x=>match lu x p y with
    |some (f,g)=>some (f,.box true g)
    |none=>none
   |_=>none
  |.at o none=>match x with
   |.agg xs=>match nth xs o with
    |some x=>match lu x p y with
     |some (f,g)=>some (f,.agg<|put xs o g)
     |none=>none
    |none=>none
   |_=>none
  |.at o (some n)=>match x with
   |.agg xs=>match Nat.ble (o+n) (len xs)with
    |true=>match lu (.agg<|PQ (RR xs o) n) p y with
     |some (f,.agg ys)=>match Nat.beq (len ys) n with
      |true=>some (f,.agg<|cat (PQ xs o)<|cat ys<|RR xs<|o+n)
      |false=>none
     |_=>none
    |false=>none
   |_=>none
  |.bW i=>match x with
   |.bW xs=>match nth xs i with
    |some x=>match lu x p y with
     |some (f,g)=>some (f,.bW<|put xs i g)
     |none=>none
    |none=>none
   |_=>none
  |.lZ .. =>none
def wP(xs:List SV)(i:Nat)(y:SV):aB (xs.set i y)=(aB xs).set i y.den:=by simp[cn]
def fG:∀{p:Path}{x y z:SV}{g:List Pd},lu x p y=some (g,z)->bo g->eJ x.den p y.den=some z.den
 |[],x,y,z,g,h,_=>by simp only[lu,ada,ae0]at h;simp[eJ,h.2]
 |s::p,x,y,z,g,h,hc=>by
  cases s with
  |idx i sz=>
   cases x with
   |ints k o xs=>
    cases o<;>simp only[lu]at h<;>try(cases h;done)
    split at h<;>try(cases h;done)
    rename_i a;split at h<;>try(cases h;done)
    rename_i q;have q:=np q;subst q;cases h;have a:=afb a;subst a;simp only[bo,and_true]at hc;simp[SV.den,eJ,fl,aeF hc,afO]
   |strs o xs=>
    cases o<;>simp only[lu]at h<;>try(cases h;done)
    split at h<;>try(cases h;done)
    rename_i a;cases h;have a:=afb a;subst a;simp only[bo,and_true]at hc;simp[SV.den,eJ,fl,aeF hc,afO]
   |cz o xs=>
    cases o<;>simp only[lu]at h<;>try(cases h;done)
    split at h<;>try(cases h;done)
    all_goals
     rename_i a;cases h;have a:=afb a;subst a;simp only[bo,and_true]at hc;simp[SV.den,eJ,fl,aeF hc,afO]
   |row o l xs=>
    cases o<;>simp only[lu]at h<;>try(simp at h;done)
    split at h<;>try(simp at h;done)
    rename_i a;have a:=afb a;split at h<;>try(simp at h;done)
    rename_i x c;split at h<;>try(simp at h;done)
    rename_i b f hs;cases h;rw[mI]at c;simp[SV.den,eJ,fl,a,ji,c,fG hs hc,put_eq,wP]
   |bA o l d e xs=>
    cases o<;>simp only[lu]at h<;>try(simp at h;done)
    split at h<;>try(simp at h;done)
    rename_i a;have a:=afb a;split at h<;>try(simp at h;done)
    rename_i b f hs;cases h;have hi:i<xs.length:=hc.1;have c:=fG hs hc.2;have r:xs.getD i d=xs[i]:=eW;rw[r]at c;simp[SV.den,eJ,fl,a,aeF hi,c,cn,afO,Function.comp_def]
   |_=>simp[lu]at h
  |deref=>
   cases x with
   |box o x=>
    cases o<;>simp only[lu]at h<;>try(simp at h;done)
    split at h<;>try(simp at h;done)
    rename_i b f hs;cases h;simp[SV.den,eJ,fG hs hc]
   |_=>simp[lu]at h
  | «at» o m=>
    cases m with
    |none=>
     cases x with
     |agg xs=>
      simp only[lu]at h;split at h<;>try(simp at h;done)
      rename_i x c;split at h<;>try(simp at h;done)
      rename_i b f hs;cases h;rw[mI]at c;simp[SV.den,eJ,ji,c,fG hs hc,put_eq,wP]
     |_=>simp[lu]at h
    |some n=>
     cases x with
     |agg xs=>
      simp only[lu]at h;split at h<;>try(simp at h;done)
      rename_i j;have j:=ae4 j;rw[fH]at j;split at h<;>try(simp at h;done)
      rename_i b t hs;split at h<;>try(simp at h;done)
      rename_i hl;have hl:=afb hl;cases h;have:=fG hs hc;simp only[SV.den,uA,u7,cn,ahA,aha]at this;rw[fH]at hl;simp[SV.den,eJ,cn,j,this,hl,cX,uA,u7]
     |_=>simp[lu]at h
  |bW i=>
   cases x with
   |bW xs=>
    simp only[lu]at h;split at h<;>try(simp at h;done)
    rename_i x c;split at h<;>try(simp at h;done)
    rename_i b f hs;cases h;rw[mI]at c;simp[SV.den,eJ,ji,c,fG hs hc,put_eq,wP]
   |_=>simp[lu]at h
  |lZ sz o n=>simp[lu]at h
mutual
def SV.aG:SV->Bool
 |.n .. |.b _|.u _|.s _|.c _|.nil|.hole|.dead|.fv .. |.pv _=>true
 |.ints _ own _=> !own
 |.strs own _=> !own
 |.cz own _=> !own
 |.bA own _ _ _ _=> !own
 |.row own _ _=> !own
 |.agg xs=>gE xs
 |.bW xs=>gE xs
 |.box own _=> !own
 |.fn _ a c=>match gE a with
  |true=>gE c
  |false=>false
 |.bC .. |.ptr .. |.abs _|.fS .. |.mp _=>false
def gE:List SV->Bool
 |[]=>true
 |x::xs=>match x.aG with
  |true=>gE xs
  |false=>false
end
mutual
theorem cO:∀(x:SV),x.den.aG=x.aG
 |.n .. |.b _|.u _|.s _|.c _|.nil|.hole|.dead|.bC .. |.ptr .. |.pv _|.abs _|.fS .. |.mp _=>rfl
 |.ints _ own _|.strs own _|.cz own _|.bA own _ _ _ _|.row own _ _=>by cases own<;>rfl
 |.fv _ xs=>by cases xs<;>rfl
 |.box own _=>by cases own<;>rfl
 |.agg xs=>by simp[SV.aG];exact dV xs
 |.bW xs=>by simp[SV.aG];exact dV xs
 |.fn _ a c=>by simp[SV.den,AV.aG,SV.aG,dV a,dV c];cases gE a<;>rfl
theorem dV:∀(xs:List SV),bU (aB xs)=gE xs
 |[]=>rfl
 |x::xs=>by simp[aB,bU,gE,cO x,dV xs];cases x.aG<;>rfl
end
mutual
def SV.b9:SV->SV
 |.ints k _ xs=>.ints k false xs
 |.fv k xs=>.fv k xs
 |.strs _ xs=>.strs false xs
 |.cz _ xs=>.cz false xs
 |.bA true sz d e xs=>.bA false sz d (λx=>(e x).b9) xs
 |.bA false sz d e xs=>.bA false sz d e xs
 |.row true sz xs=>.row false sz (iX xs)
 |.row false sz xs=>.row false sz xs
 |.agg xs=>.agg (iX xs)
 |.bW xs=>.bW (iX xs)
 |.box true x=>.box false x.b9
 |.box false x=>.box false x
 |.fn f a c=>.fn f (iX a) (iX c)
 |.n k a=>.n k a
 |.b x=>.b x
 |.u x=>.u x
 |.s x=>.s x
 |.c x=>.c x
 |.nil=>.nil
 |.bC r g1 g2 p=>.bC r g1 g2 p
 |.ptr r g1 g2 p=>.ptr r g1 g2 p
 |.hole=>.hole
 |.dead=>.dead
 |.pv C=>.pv C
 |.abs J=>.abs J
 |.fS g h=>.fS g h
 |.mp _=>.dead
def iX:List SV->List SV
 |[]=>[]
 |x::xs=>x.b9::iX xs
end
def ie{α:Type}(f:α->AV):∀xs:List α,ig (xs.map f)=xs.map λx=>(f x).b9
 |[]=>rfl
 |x::xs=>by simp[ig,ie f xs]
mutual
theorem gh:∀(x:SV),x.den.b9=x.b9.den
 |.n .. |.b _|.u _|.s _|.c _|.nil|.hole|.dead|.bC .. |.ptr .. |.pv _|.abs _|.fS .. |.mp _=>rfl
 |.ints _ own xs=>by cases own<;>simp[SV.den,SV.b9,AV.b9,fl,ie]
 |.fv _ xs=>by cases xs<;>rfl
 |.strs own xs=>by cases own<;>simp[SV.den,SV.b9,AV.b9,fl,ie]
 |.cz own xs=>by cases own<;>simp[SV.den,SV.b9,AV.b9,fl,ie]
 |.bA true _ _ e xs=>by
  simp[SV.den,AV.b9,fl,ie]
  congr 1
  exact afq λx _=>gh (e x)
 |.bA false _ _ _ _=>rfl
 |.row true _ xs=>by simp[SV.den,SV.b9,AV.b9,fl,iW xs]
 |.row false _ _=>rfl
 |.box true x=>by simp[SV.den,SV.b9,AV.b9,gh x]
 |.box false _=>rfl
 |.agg xs=>by simp[SV.den,SV.b9,AV.b9,iW xs]
 |.bW xs=>by simp[SV.den,SV.b9,AV.b9,iW xs]
 |.fn _ a c=>by simp[SV.den,SV.b9,AV.b9,iW a,iW c]
theorem iW:∀(xs:List SV),ig (aB xs)=aB (iX xs)
 |[]=>rfl
 |x::xs=>by simp[aB,ig,iX,gh x,iW xs]
end
mutual
def SV.cL:SV->Bool
 |.n .. |.b _|.u _|.s _|.c _|.nil|.hole|.dead|.bC .. |.ptr .. |.pv _|.abs _|.fS .. |.mp _=>true
 |.ints _ own _=>own
 |.fv .. =>false
 |.strs own _=>own
 |.cz own _=>own
 |.bA .. =>false
 |.row true _ xs=>se xs
 |.row false _ _=>false
 |.agg xs=>se xs
 |.bW xs=>se xs
 |.box true x=>x.cL
 |.box false _=>false
 |.fn _ a c=>match se a with
  |true=>se c
  |false=>false
def se:List SV->Bool
 |[]=>true
 |x::xs=>match x.cL with
  |true=>se xs
  |false=>false
end
def td{xs:List AV}(h:∀x∈xs,x.cL=true):jw xs=true:=by
 induction xs with
 |nil=>rfl
 |cons x xs a=>simp[jw];simp_all
mutual
theorem nn:∀(x:SV),x.cL=true->x.den.cL=true
 |.n ..,_|.b _,_|.u _,_|.s _,_|.c _,_|.nil,_|.hole,_|.dead,_|.bC ..,_|.ptr ..,_|.pv _,_|.abs _,_|.fS ..,_|.mp _,_=>rfl
 |.ints _ own xs,h=>by simp[SV.cL]at h;subst h;simp[SV.den];exact td (by simp[AV.cL])
 |.strs own xs,h=>by simp[SV.cL]at h;subst h;simp[SV.den];exact td (by simp[AV.cL])
 |.cz own xs,h=>by simp[SV.cL]at h;subst h;refine td λx d=>?_;obtain⟨b,-,rfl⟩:=aeN.1 d;rfl
 |.bA ..,h=>by simp[SV.cL]at h
 |.fv ..,h=>by simp[SV.cL]at h
 |.row true _ xs,h=>by simp[SV.cL]at h;exact kf xs h
 |.row false _ _,h=>by simp[SV.cL]at h
 |.box true x,h=>by simp[SV.cL]at h;exact nn x h
 |.box false _,h=>by simp[SV.cL]at h
 |.agg xs,h=>by simp[SV.cL]at h;exact kf xs h
 |.bW xs,h=>by simp[SV.cL]at h;exact kf xs h
 |.fn _ a c,h=>by
  simp[SV.cL]at h;split at h
  ·rename_i e;simp[SV.den,AV.cL];exact⟨kf a e,kf c h⟩
  cases h
theorem kf:∀(xs:List SV),se xs=true->jw (aB xs)=true
 |[],_=>rfl
 |x::xs,h=>by
  simp[se]at h;split at h
  ·rename_i d;simp[aB,jw];exact⟨nn x d,kf xs h⟩
  cases h
end
def SV.cell:SV->Bool
 |.n .. |.b _|.u _|.s _|.c _|.nil|.ints .. |.fv .. |.strs .. |.cz .. |.bA .. |.row .. |.box .. |.fn .. |.hole=>true
 |_=>false
def CZ(x:SV):x.den.cell=x.cell:=by cases x<;>rfl
def SV.plain:SV->Bool
 |.bC .. |.ptr .. |.abs _|.fS .. =>false
 |_=>true
def dj(x:SV):x.den.plain=x.plain:=by cases x<;>rfl
def AV.jG:AV->Bool
 |.bC .. |.ptr .. |.fS .. =>false
 |_=>true
def SV.jG:SV->Bool
 |.bC .. |.ptr .. |.fS .. =>false
 |_=>true
def pA(x:SV):x.den.jG=x.jG:=by cases x<;>rfl
def Ro(y:SV):SV:=match y.cell with
 |true=>.hole
 |false=>.dead
def OR(y:SV):(Ro y).den=ir y.den:=by unfold Ro ir;rw[CZ];cases y.cell<;>rfl
structure Cl where
 v:SV
 g1:Nat
 g2:Nat
def Cl.den(x:Cl):Sl:=⟨x.v.den,x.g1,x.g2⟩
abbrev aU:=List<|Nat×Cl
def gt:aU->Nat->Cl
 |[],_=>⟨.dead,0,0⟩
 |(d,x)::l,i=>match Nat.beq i d with
  |true=>x
  |false=>gt l i
def dn(l:aU):St:=λi=>(gt l i).den
def fR(d:Nat)(x:Cl)(l:aU):dn ((d,x)::l)=iI (dn l) d x.den:=by
 funext i
 simp[dn,gt,iI];by_cases h:i=d
 ·subst h;simp
 have:Nat.beq i d=false:=by
  cases a:Nat.beq i d with
  |false=>rfl
  |true=>simp_all
 simp[this,h]
def dL(l:aU)(i:Nat):(dn l i).av=(gt l i).v.den:=W
def zS(l:aU)(i:Nat):(dn l i).g1=(gt l i).g1:=W
def Nb(l:aU)(i:Nat):(dn l i).g2=(gt l i).g2:=W
structure SR where
 s:Option Nat
 sl:Cl
 rt:Cl
def SR.den(x:SR):bY:=⟨x.s,x.sl.den,x.rt.den⟩
def w6:Value->SV
 |.int k n=>.n k n
 |.bool b=>.b b
 |.string s=>.s s.data.toList
 |.slice none 0 0=>.nil
 |.pointer none=>.c (.pointer none)
 |.map none=>.c (.map none)
 |.nilFunc=>.c .nilFunc
 |.nilIface=>.c .nilIface
 |_=>.dead
def yv:Value->Option SV
 |.agg cs=>some (.agg<|cs.toList.map w6)
 |.float .. =>none
 |.complex .. =>none
 |v=>some<|w6 v
def v7:Value->Bool
 |.float .. |.complex .. =>false
 |_=>true
def E9{v:Value}(h:v7 v=true):(w6 v).den=jj v:=by
 cases v with
 |slice a l c=>
  cases a with
  |some _=>rfl
  |none=>cases l<;>cases c<;>simp[w6,jj,scalar,SV.den]
 |pointer a=>cases a<;>simp[w6,jj,scalar,SV.den]
 |map a=>cases a<;>simp[w6,jj,scalar,SV.den]
 |string s=>rfl
 |float _ _=>simp[v7]at h
 |complex _ _ _=>simp[v7]at h
 |_=>simp[w6,jj,scalar,SV.den]
def Gc:Value->Bool
 |.agg cs=>cs.toList.all v7
 |v=>v7 v
def LJ{v:Value}{x:SV}(h:yv v=some x)(a:Gc v=true):x.den=gL v:=by
 cases v with
 |agg c=>
  simp[yv]at h;subst h;simp[SV.den,cn]
  congr 1
  refine afq λy b=>?_;simp only[Gc,aeI]at a;exact E9 (a y b)
 |float _ _=>simp[yv]at h
 |complex _ _ _=>simp[yv]at h
 |_=>simp[yv]at h;subst h;exact E9 a
def dW(l:aU):Operand->Option SR
 |.tmp t=>match gt l t with
  |⟨v,g1,g2⟩=>match v with
   |.bC r a b p=>some ⟨some t,⟨.bC r a b p,g1,g2⟩,gt l r⟩
   |.ptr r a b p=>some ⟨some t,⟨.ptr r a b p,g1,g2⟩,gt l r⟩
   |.abs _=>some ⟨none,⟨.dead,0,0⟩,⟨.dead,0,0⟩⟩
   |v=>some ⟨some t,⟨v,g1,g2⟩,⟨.dead,0,0⟩⟩
 |.const v=>match Gc v with
  |true=>match yv v with
   |some x=>some ⟨none,⟨x,0,0⟩,⟨.dead,0,0⟩⟩
   |none=>none
  |false=>none
 |.func f=>some ⟨none,⟨.fn (.func f) [] [],0,0⟩,⟨.dead,0,0⟩⟩
 |.global _=>none
def c8{l:aU}{x:Operand}{r:SR}(h:dW l x=some r):resolve (dn l) x=r.den:=by
 cases x with
 |tmp t=>
  simp[dW]at h;simp[resolve,bY.of];cases a:gt l t with
  |mk v g1 g2=>rw[a]at h;cases v<;>simp at h<;>subst h<;>simp[dn,a]<;>rfl
 |const v=>
  simp[dW]at h;split at h
  ·rename_i c;split at h
   ·rename_i x b;cases h;simp[SR.den,Cl.den,LJ b c];rfl
   cases h
  cases h
 |func f=>simp[dW]at h;subst h;rfl
 |global g=>simp[dW]at h
section
variable{a b:Bool}{M:List Nat}{ob:List Pd}{d r:Nat}{m:Option (List Mv)}{p:Path}{x:SR}{y:SV}{l l':aU}{α:Type _}
def Gb:Path->SV->Bool
 |[],_=>true
 |[.bW _],_=>true
 |_,y=>y.cell
def KO(p:Path)(y:SV):xM p y.den=Gb p y:=by unfold xM Gb;split<;>simp_all[CZ]
def uU:Path->Bool
 |[]=>true
 |_=>false
def eX:Bool->Bool->Bool
 |true,b=>b
 |false,_=>false
def DN:Bool->Bool->Bool
 |true,_=>true
 |false,b=>b
def aO:eX a b=true↔a=true/\b=true:=by cases a<;>simp[eX]
def qS:DN a b=true↔a=true\/b=true:=by cases a<;>simp[DN]
def TL(b:Bool):Option Unit:=match b with
 |true=>some ()
 |false=>none
def bE{u:Unit}:TL b=some u↔b=true:=by cases b<;>simp[TL]
def not':Bool->Bool
 |true=>false
 |false=>true
def not_iff:not' b=true↔b=false:=by cases b<;>simp[not']
def ne'(a b:Nat):Bool:=not'<|Nat.beq a b
def ne_iff{a b:Nat}:ne' a b=true↔a≠b:=by
 unfold ne';rw[not_iff];constructor
 ·intro h e;subst e;simp at h
 intro h;cases c:Nat.beq a b with
 |false=>rfl
 |true=>simp_all
def beq_iff{a b:Nat}:Nat.beq a b=true↔a=b:=⟨afb,λh=>by subst h;simp⟩
def c6(x:SR):Option (List Pd×SV):=
 match x.sl.v with
 |.bC _ g1 g2 p=>(TL<|eX (Nat.beq x.rt.g1 g1)<|DN (NP p)<|Nat.beq x.rt.g2 g2).bind λ_=>(gJ x.rt.v p).bind λ(ob,y)=>(TL<|eX (Gb p y) y.plain).bind λ_=>some (ob,y)
 |.ptr .. =>none
 |.hole=>none
 |.dead=>none
 |.fS .. =>none
 |y=>some ([],y)
def aF(h:c6 x=some (ob,y))(hc:bo ob):x.den.cont=some y.den:=by
 obtain⟨s,⟨v,g1,g2⟩,rt⟩:=x;unfold c6 at h;unfold bY.cont;cases v with
 |bC r a b p=>simp only[ads,bE,aO,qS,beq_iff,afF]at h;obtain⟨_,⟨j,n⟩,c,k,f,_,⟨i,g⟩,rfl,rfl⟩:=h;have e:=cF f hc;simp only[SR.den,Cl.den,SV.den,j,if_true,e,KO,dj,i,g,ag7];simp_all
 |ptr=>cases h
 |hole=>cases h
 |dead=>cases h
 |fS=>cases h
 |_=>cases h;simp[SR.den,Cl.den,SV.den]
def xJ(x:SR):Option (Nat×Nat×Nat×Path):=
 match x.sl.v with
 |.bC r g1 g2 p=>some (r,g1,g2,p)
 |.ptr .. =>none
 |_=>match x.s with
  |some s=>some (s,x.sl.g1,x.sl.g2,[])
  |none=>none
def nQ(x:SR):x.den.place=xJ x:=by obtain⟨s,⟨v,g1,g2⟩,rt⟩:=x;cases v<;>rfl
structure V3 where
 r:Nat
 g1:Nat
 g2:Nat
 p:Path
 v:SV
def Dd(x:SR):Option (List Pd×V3):=
 match x.sl.v with
 |.ptr r g1 g2 p=>(TL<|eX (Nat.beq x.rt.g1 g1)<|DN (flat p)<|Nat.beq x.rt.g2 g2).bind λ_=>match x.rt with
  |⟨v,a,b⟩=>some ([],⟨r,a,b,p,v⟩)
 |.box o v=>match x.s with
  |some s=>some ([],⟨s,x.sl.g1,x.sl.g2,[.deref],.box o v⟩)
  |none=>none
 |.bC r _ _ p=>(c6 x).bind λ(ob,y)=>match y with
  |.box _ _=>match x.rt with
   |⟨v,a,b⟩=>some (ob,⟨r,a,b,p++[.deref],v⟩)
  |_=>none
 |_=>none
def ku{a:V3}(h:Dd x=some (ob,a))(hc:bo ob):x.den.addr=some (a.r,a.g1,a.g2,a.p,a.v.den):=by
 obtain⟨s,⟨v,g1,g2⟩,rt⟩:=x;unfold Dd at h;cases v with
 |ptr r c d p=>simp only[ads,bE,aO,qS,ae0]at h;obtain⟨_,⟨f,e⟩,rfl,rfl⟩:=h;unfold bY.addr;simp only[SR.den,Cl.den,SV.den,if_true];simp_all
 |box o y=>
  cases s with
  |none=>cases h
  |some s=>cases h;rfl
 |bC r c d p=>
  simp[ads]at h;obtain⟨g,y,f,e⟩:=h;cases y with
  |box o y=>cases e;have:=aF f hc;unfold bY.addr;simp[SR.den,Cl.den,SV.den]at this⊢;rw[this]
  |_=>cases e
 |_=>cases h
abbrev og:=Option<|List Pd×aU×List Nat
def de(l:aU)(m:Option (List Mv))(e:og):Prop:=∀ob l' f,e=some (ob,l',f)->bo ob->∃c,m=some c/\Mv.runs (dn l) c=some (dn l')/\bc c=f
def Od(l:aU)(d:Nat)(y:SV):aU:=match gt l d with
 |⟨_,a,b⟩=>(d,⟨y,a+1,b⟩)::l
def kM(l:aU)(d:Nat)(y:SV):iI (dn l) d ⟨y.den,(dn l d).g1+1,(dn l d).g2⟩=dn (Od l d y):=by unfold Od;simp[fR,Cl.den,zS,Nb]
def Step.seq{α:Type _}(s:Step)(k:Step->α):α:=match s with
 |.idx i n=>k (.idx i n)
 |.at o none=>k (.at o none)
 |.at o (some n)=>k (.at o<|some n)
 |.deref=>k .deref
 |.bW i=>k (.bW i)
 |.lZ a b c=>k<|.lZ a b c
def Step.seq_eq(s:Step)(k:Step->α):s.seq k=k s:=by
 cases s with
 | «at» o n=>cases n<;>rfl
 |_=>rfl
def H7{α:Type _}(p:Path)(k:Path->α):α:=match p with
 |[]=>k []
 |s::p=>s.seq λs=>H7 p λp=>k<|s::p
def H6{α:Type _}:∀(p:Path)(k:Path->α),H7 p k=k p
 |[],_=>rfl
 |s::p,k=>by simp[H7,Step.seq_eq];exact H6 p _
def Tr{α:Type _}(y:SV)(k:SV->α):α:=match y with
 |.n c e=>k (.n c e)
 |.b c=>k (.b c)
 |.u c=>k (.u c)
 |.s c=>k (.s c)
 |.c c=>k (.c c)
 |.nil=>k .nil
 |.ints c e f=>k (.ints c e f)
 |.fv c e=>k (.fv c e)
 |.strs c e=>k (.strs c e)
 |.cz c e=>k (.cz c e)
 |.bA c e f j i=>k (.bA c e f j i)
 |.row c e f=>k (.row c e f)
 |.agg c=>k (.agg c)
 |.bW c=>k (.bW c)
 |.box c e=>k (.box c e)
 |.fn c e f=>k (.fn c e f)
 |.bC c e f p=>H7 p λp=>k (.bC c e f p)
 |.ptr c e f p=>H7 p λp=>k (.ptr c e f p)
 |.hole=>k .hole
 |.dead=>k .dead
 |.pv C=>k (.pv C)
 |.abs J=>k (.abs J)
 |.fS g h=>k (.fS g h)
 |.mp K=>k<|.mp K
def Mm(y:SV)(k:SV->α):Tr y k=k y:=by cases y<;>simp[Tr,H6]
def H3{α:Type _}(l:aU)(d:Nat)(y:SV)(k:aU->α):α:=Tr y λy=>match gt l d with
 |⟨_,a,b⟩=>k<|(d,⟨y,a+1,b⟩)::l
def qq(l:aU)(d:Nat)(y:SV)(k:aU->α):H3 l d y k=k (Od l d y):=by simp[H3,Mm];rfl
def da(ob:List Pd)(l:aU)(d:Nat)(y:SV):og:=H3 l d y λl'=>some (ob,l',[d])
def cG(h:bo ob->m=some [.put d y.den]):de l m (da ob l d y):=by intro c l' e he hc;simp[da,qq]at he;obtain⟨rfl,rfl,rfl⟩:=he;exact⟨_,h hc,by simp[Mv.runs,Mv.run,kM],W⟩
def bt:de l m none:=λ_ _ _ h=>by cases h
def E7(l:aU):List Nat->aU
 |[]=>l
 |m::M=>match gt l m with
  |⟨_,a,b⟩=>(m,⟨.dead,a+1,b⟩)::E7 l M
def aau(l:aU):∀(M:List Nat)(i:Nat),dn (E7 l M) i=if i∈M then⟨.dead,(dn l i).g1+1,(dn l i).g2⟩else dn l i
 |[],i=>by simp[E7]
 |m::M,i=>by
  simp[E7,fR];unfold iI;by_cases h:i=m
  ·subst h;simp[Cl.den,SV.den,dn]
  simp[h];exact aau l M i
def MC(l:aU)(M:List Nat)(d:Nat)(y:SV):aU:=match gt l d with
 |⟨_,a,b⟩=>(d,⟨y,a+1,b⟩)::E7 l M
def iL(l:aU)(M:List Nat)(d:Nat)(y:SV):made (dn l) M d y.den=dn (MC l M d y):=by
 unfold MC
 funext i
 simp[made,fR,iI];by_cases h:i=d
 ·subst h;simp[Cl.den,dn]
 simp[h];rw[aau]
def JE{α:Type _}(l:aU):List Nat->(aU->α)->α
 |[],k=>k l
 |m::M,k=>match gt l m with
  |⟨_,a,b⟩=>JE l M λl'=>k<|(m,⟨.dead,a+1,b⟩)::l'
def CN{α:Type _}(l:aU):∀(M:List Nat)(k:aU->α),JE l M k=k (E7 l M)
 |[],_=>rfl
 |m::M,k=>by simp[JE];rw[CN l M];rfl
def aan{α:Type _}(l:aU)(M:List Nat)(d:Nat)(y:SV)(k:aU->α):α:=Tr y λy=>match gt l d with
 |⟨_,a,b⟩=>JE l M λl'=>k<|(d,⟨y,a+1,b⟩)::l'
def jd(l:aU)(M:List Nat)(d:Nat)(y:SV)(k:aU->α):aan l M d y k=k (MC l M d y):=by simp[aan,Mm,CN];rfl
def nS(ob:List Pd)(l:aU)(M:List Nat)(d:Nat)(y:SV):og:=aan l M d y λl'=>some (ob,l',d::M)
def ko(h:bo ob->m=some [.make M d y.den]):de l m (nS ob l M d y):=by intro c l' e he hc;simp[nS,jd]at he;obtain⟨rfl,rfl,rfl⟩:=he;exact⟨_,h hc,by simp[Mv.runs,Mv.run,iL],by simp[bc,Mv.keys]⟩
def rM(l:aU)(r:Nat)(p:Path):Option (List Pd×aU):=
 match gt l r with
 |⟨v,a,b⟩=>(gJ v p).bind λ(ob,y)=>(lu v p y.b9).bind λ(c,e)=>some (app ob c,(r,⟨e,a,b+1⟩)::l)
def lG(h:rM l r p=some (ob,l'))(hc:bo ob):Mv.run (dn l) (.share r p)=some (dn l'):=by unfold rM at h;simp[ads]at h;obtain⟨e,y,g,c,o,f,rfl,rfl⟩:=h;obtain⟨n,k⟩:=aS.1 hc;have j:=cF g n;have i:=fG f k;simp[Mv.run,dL,j,gh,i,fR];rfl
def adu(l:aU)(r d:Nat)(p:Path):Option (List Pd×SV×aU):=
 (TL<|ne' d r).bind λ_=>match gt l r with
 |⟨v,a,b⟩=>(gJ v p).bind λ(ob,y)=>(lu v p<|Ro y).bind λ(c,e)=>match gt l d with
  |⟨_,g,f⟩=>match uU p with
   |true=>some (app ob c,y,(d,⟨y,g+1,f⟩)::(r,⟨e,a+1,b⟩)::l)
   |false=>some (app ob c,y,(d,⟨y,g+1,f⟩)::(r,⟨e,a,b⟩)::l)
def D0(h:adu l r d p=some (ob,y,l'))(hc:bo ob):Mv.run (dn l) (.take r d p)=some (dn l'):=by
 unfold adu at h;simp only[ads,afF,bE,ne_iff]at h;obtain⟨_,i,f,j,o,e,c,n,h⟩:=h;have g:ob=app f e/\l'=(d,⟨j,(gt l d).g1+1,(gt l d).g2⟩)::(r,if p=[]then⟨c,(gt l r).g1+1,(gt l r).g2⟩else⟨c,(gt l r).g1,(gt l r).g2⟩)::l:=by
  cases p with
  |nil=>simp[uU]at h;grind
  |cons s p=>simp[uU]at h;grind
 obtain⟨rfl,rfl⟩:=g;obtain⟨v,u⟩:=aS.1 hc;have t:=cF o v;have q:=fG n u;simp[Mv.run,i,dL,t,<-OR,q,fR];have k:ju (dn l r) p c.den=Cl.den (if p=[]then⟨c,(gt l r).g1+1,(gt l r).g2⟩else⟨c,(gt l r).g1,(gt l r).g2⟩):=by unfold ju;split<;>rfl
 rw[k];rfl
def Ko(l:aU)(r:Nat)(p:Path)(M:List Nat)(y:SV):og:=
 (TL<|not'<|M.any<|Nat.beq r).bind λ_=>match gt l r with
 |⟨v,a,b⟩=>(lu v p y).bind λ(ob,c)=>JE l M λl'=>some (ob,(r,⟨c,a,b+1⟩)::l',r::M)
def Kn{c:List Nat}(h:Ko l r p M y=some (ob,l',c))(hc:bo ob):Mv.run (dn l) (.store r p M y.den)=some (dn l')/\c=r::M:=by
 unfold Ko at h;simp only[ads,afF,bE,not_iff,CN]at h;obtain⟨_,hn,e,j,f,rfl,rfl,rfl⟩:=h;have hm:r∉M:=by intro hm;have:M.any (Nat.beq r)=true:=ah2.2 ⟨r,hm,I⟩;simp_all
 have g:=fG f hc;simp[Mv.run,hm,dL,g]
 funext i
 simp[stored,fR,iI];by_cases h:i=r
 ·subst h;simp[Cl.den,dn]
 simp[h];rw[aau]
def JQ(d:Nat):List (Nat×Nat)->Bool
 |[]=>true
 |(r,_)::q=>eX (ne' r d)<|JQ d q
def yA{d:Nat}:∀{e:List (Nat×Nat)},JQ d e=true->e.all (λq=>q.1 !=d)=true
 |[],_=>rfl
 |(r,a)::c,h=>by simp[JQ,aO]at h;simp only[ae6,adD];exact⟨by simpa using ne_iff.1 h.1,yA h.2⟩
def u5(l:aU)(d:Nat)(x:SR):og:=
 match x.sl.v with
 |.bC r a b p=>(TL<|ne' r d).bind λ_=>da [] l d (.bC r a b p)
 |.ptr r a b p=>(TL<|ne' r d).bind λ_=>da [] l d (.ptr r a b p)
 |.fS g c=>(TL<|JQ d c).bind λ_=>da [] l d (.fS g c)
 |y=>match y.aG with
  |true=>da [] l d y
  |false=>match x.s with
   |some s=>(TL<|ne' s d).bind λ_=>da [] l d (.bC s x.sl.g1 x.sl.g2 [])
   |none=>none
def bk{e:og}(h:b=true->de l m e):de l m ((TL b).bind λ_=>e):=by
 cases b with
 |true=>exact h W
 |false=>exact bt
def jq(l:aU)(d:Nat)(x:SR):de l (dc d x.den) (u5 l d x):=by
 obtain⟨s,⟨v,g1,g2⟩,rt⟩:=x;have gen:∀v:SV,v.jG=true->de l (dc d<|SR.den ⟨s,⟨v,g1,g2⟩,rt⟩) (match v.aG with
  |true=>da [] l d v
  |false=>match s with
   |some s=>(TL<|ne' s d).bind λ_=>da [] l d (.bC s g1 g2 [])
   |none=>none):=by
  intro v h;have hm:dc d (SR.den ⟨s,⟨v,g1,g2⟩,rt⟩)=if v.aG then some [.put d v.den]else match s with
   |some s=>if s=d then none else some [.put d<|.bC s g1 g2 []]
   |none=>none:=by
   have i:v.den.jG=true:=by rw[pA];exact h
   have:∀a:AV,a.jG=true->dc d ⟨s,⟨a,g1,g2⟩,rt.den⟩=if a.aG then some [.put d a]else match s with
    |some s=>if s=d then none else some [.put d<|.bC s g1 g2 []]
    |none=>none:=by
    intro a j;cases a<;>first|rfl|simp[AV.jG]at j
   have e:=this v.den i;rw[cO]at e;exact e
  rw[hm];cases v.aG with
  |true=>exact cG λ_=>rfl
  |false=>
   cases s with
   |none=>exact bt
   |some s=>exact bk λc=>cG λ_=>by simp[ne_iff.1 c,SV.den]
 cases v with
 |bC r a b p=>exact bk λc=>cG λ_=>by simp[dc,SR.den,Cl.den,SV.den,ne_iff.1 c]
 |ptr r a b p=>exact bk λc=>cG λ_=>by simp[dc,SR.den,Cl.den,SV.den,ne_iff.1 c]
 |fS g f=>exact bk λc=>cG λ_=>by simp[dc,SR.den,Cl.den,SV.den,yA c]
 |_=>exact gen _ W
end
inductive Ty
 |int (k:IntKind)|bool|str
 |slice (e:TypeId)
 |array (n:Nat) (e:TypeId)
 |struct (fs:List (Nat×TypeId×Nat))
 |ptr|func|other
structure xk where
 agg:Bool
 size:Nat
 bytes:Nat
 zero:SV
def xk.den(i:xk):TI:=⟨i.agg,i.size,i.bytes,i.zero.den⟩
structure TE where
 un:Ty
 ti:Option xk
def Ty.ok(P:Program)(t:TypeId):Ty->Prop
 |.int k=>P.underlying t=some (.int k)
 |.bool=>P.underlying t=some .bool
 |.str=>P.underlying t=some .string
 |.slice e=>P.underlying t=some (.slice e)
 |.array n e=>P.underlying t=some (.array n e)
 |.struct g=>∃f,P.underlying t=some (.struct f)/\f.toList.mapM (λf=>(P.info? f.type).map λi=>(f.offset,f.type,i.size))=some g
 |.ptr=>∃e,P.underlying t=some (.pointer e)
 |.func=>∃a b c,P.underlying t=some (.func a b c)
 |.other=>True
def TE.ok(P:Program)(t:TypeId)(e:TE):Prop:=e.un.ok P t/\∀i,e.ti=some i->cu P t=some i.den
abbrev TT:=List<|Nat×TE
def XB:TT->TypeId->Option TE
 |[],_=>none
 |(d,x)::l,i=>match Nat.beq i d with
  |true=>some x
  |false=>XB l i
def cH(P:Program):TT->Prop
 |[]=>True
 |(t,e)::l=>e.ok P t/\cH P l
def cH.get{P:Program}:∀{tt:TT}{t:TypeId}{e:TE},cH P tt->XB tt t=some e->e.ok P t
 |[],_,_,_,h=>by simp[XB]at h
 |(d,x)::l,t,e,a,h=>by
  simp[XB]at h;split at h
  ·rename_i b;have:=afb b;subst this;cases h;exact a.1
  exact cH.get a.2 h
def Fw(tt:TT)(t:TypeId):Option xk:=(XB tt t).bind λe=>e.ti
def DY(tt:TT)(t:TypeId):Option Ty:=(XB tt t).bind λe=>some e.un
def slice?(tt:TT)(t:TypeId):Option TypeId:=(DY tt t).bind λ|.slice e=>some e|_=>none
section
variable{P:Program}{tt:TT}{t:TypeId}
def j7(h:cH P tt){i:xk}(hi:Fw tt t=some i):cu P t=some i.den:=by simp[Fw,ads]at hi;obtain⟨e,b,a⟩:=hi;exact(h.get b).2 i a
def mf(h:cH P tt){u:Ty}(hi:DY tt t=some u):u.ok P t:=by simp[DY,ads]at hi;obtain⟨e,a,rfl⟩:=hi;exact(h.get a).1
def vA(h:cH P tt){e:TypeId}(hi:slice? tt t=some e):P.underlying t=some (.slice e):=by simp[slice?,ads]at hi;obtain⟨u,b,a⟩:=hi;have:=mf h b;cases u<;>cases a;exact this
def mT(h:cH P tt){e:TypeId}(hi:slice? tt t=some e):dC P t=some e:=by simp[dC,vA h hi]
end
def my(ti:xk):SV->Bool
 |.agg xs=>eX ti.agg (Nat.beq (len xs) ti.size)
 |y=>eX (not' ti.agg)<|eX (Nat.beq ti.size 1) y.cell
def je(ti:xk)(y:SV)(h:my ti y=true):fits ti.den y.den=true:=by
 cases y with
 |agg a=>simp[my,aO,fH]at h;simp[fits,SV.den,xk.den,h,bB]
 |_=>simp[my,aO,not_iff]at h;simp[fits,SV.den,xk.den,h,AV.cell]<;>(try simp[SV.cell]at h)
section
variable{P:Program}{tt:TT}(hA:cH P tt)(l:aU)(d:Nat)
def ak{α:Type _}{m:Option (List Mv)}{x:Option α}{f:α->og}(h:∀a,x=some a->de l m (f a)):de l m (x.bind f):=by
 cases x with
 |none=>exact bt
 |some a=>exact h a W
def J4(b:List Pd):og->og
 |some (a,l',c)=>some (app b a,l',c)
 |none=>none
def nw{m:Option (List Mv)}{a:List Pd}{e:og}(h:bo a->de l m e):de l m (J4 a e):=by
 intro b g i he hc;cases e with
 |none=>simp[J4]at he
 |some q=>obtain⟨rfl,rfl,rfl⟩:=he;obtain⟨f,c⟩:=aS.1 hc;exact h f _ _ _ W c
def AV.Vy:AV->Bool
 |.box _ _=>true
 |_=>false
def Cv(l:aU)(d:Nat)(x:SR):og:=
 match x.sl.v with
 |.ptr r a b p=>(TL<|ne' r d).bind λ_=>da [] l d (.ptr r a b p)
 |.fS g e=>(TL<|JQ d e).bind λ_=>da [] l d (.fS g e)
 |.bC r _ _ p=>(c6 x).bind λ(h,y)=>match y.aG with
  |true=>da h l d y
  |false=>match p with
   |[]=>(adu l r d []).bind λ(c,_,f)=>some (app h c,f,[r,d])
   |[.bW i]=>(adu l r d [.bW i]).bind λ(c,_,f)=>some (app h c,f,[r,d])
   |p=>(TL<|ne' r d).bind λ_=>(rM l r p).bind λ(c,f)=>H3 f d y.b9 λj=>some (app h c,j,[r,d])
 |.box b z=>match(SV.box b z).aG with
  |true=>da [] l d (.box b z)
  |false=>match x.s with
   |some s=>(TL<|ne' s d).bind λ_=>da [] l d (.bC s x.sl.g1 x.sl.g2 [])
   |none=>none
 |y=>match y.aG with
  |true=>da [] l d y
  |false=>match x.s with
   |some s=>(TL<|ne' s d).bind λ_=>nS [] l [s] d y
   |none=>none
def Cu(x:SR):de l (dG d x.den) (Cv l d x):=by
 obtain⟨s,⟨v,g1,g2⟩,rt⟩:=x;unfold Cv;have gen:∀v:SV,v.jG=true->v.den.Vy=false->de l (dG d<|SR.den ⟨s,⟨v,g1,g2⟩,rt⟩) (match v.aG with
  |true=>da [] l d v
  |false=>match s with
   |some s=>(TL<|ne' s d).bind λ_=>nS [] l [s] d v
   |none=>none):=by
  intro v J w;have hm:dG d (SR.den ⟨s,⟨v,g1,g2⟩,rt⟩)=if v.aG then some [.put d v.den]else match s with
   |some s=>if s=d then none else some [.make [s] d v.den]
   |none=>none:=by
   have M:v.den.jG=true:=by rw[pA];exact J
   have:∀a:AV,a.jG=true->a.Vy=false->dG d ⟨s,⟨a,g1,g2⟩,rt.den⟩=if a.aG then some [.put d a]else match s with
    |some s=>if s=d then none else some [.make [s] d a]
    |none=>none:=by
    intro a N f;cases a<;>first|rfl|exact absurd f (λh=>Bool.noConfusion h)|simp[AV.jG]at N
   have k:=this v.den M w;rw[cO]at k;exact k
  rw[hm];cases v.aG with
  |true=>exact cG λ_=>rfl
  |false=>
   cases s with
   |none=>exact bt
   |some s=>exact bk λf=>ko λ_=>by simp[ne_iff.1 f]
 cases v with
 |bC r a b p=>
  intro D n o he hc;simp[ads,afF]at he;obtain⟨e,y,q,he⟩:=he;have hm:∀c:(SR.den ⟨s,⟨.bC r a b p,g1,g2⟩,rt⟩).cont=some y.den,dG d (SR.den ⟨s,⟨.bC r a b p,g1,g2⟩,rt⟩)=if y.aG then some [.put d y.den]else match p with
   |[]=>some [.take r d []]
   |[.bW i]=>some [.take r d [.bW i]]
   |p=>if r=d then none else some [.share r p,.put d y.den.b9]:=by
   intro c;unfold dG;simp[SR.den,Cl.den,SV.den]at c⊢;rw[c];simp[cO]
   grind
  cases hn:y.aG with
  |true=>rw[hn]at he;simp[da,qq,ada,ae0]at he;obtain⟨rfl,rfl,rfl⟩:=he;have:=hm<|aF q hc;rw[hn]at this;exact⟨_,by simpa using this,by simp[Mv.runs,Mv.run,kM],W⟩
  |false=>
   rw[hn]at he hm;simp[qq]at he;have C:∀p,((adu l r d p).bind λ(x:List Pd×SV×aU)=>some (app e x.1,x.2.2,[r,d]))=some (D,n,o)->bo e/\Mv.run (dn l) (.take r d p)=some (dn n)/\o=[r,d]:=by intro p hh;simp[ads,afF,ada,ae0]at hh;obtain⟨u,O,H,A,rfl,rfl,rfl⟩:=hh;obtain⟨j,B⟩:=aS.1 hc;exact⟨j,D0 A B,W⟩
   have sh:∀p,((TL<|ne' r d).bind λ_=>(rM l r p).bind λ(x:List Pd×aU)=>some (app e x.1,Od x.2 d y.b9,[r,d]))=some (D,n,o)->
    bo e/\r≠d/\Mv.runs (dn l) [.share r p,.put d y.den.b9]=some (dn n)/\o=[r,d]:=by
    intro p hh;simp only[ads,afF,ada,ae0,bE,ne_iff]at hh;obtain⟨_,m,u,H,A,rfl,rfl,rfl⟩:=hh;obtain⟨j,B⟩:=aS.1 hc;refine⟨j,m,?_,W⟩;simp[Mv.runs];rw[lG A B];simp[Mv.run,gh,kM]
   split at he
   ·obtain⟨j,k,rfl⟩:=C [] he;have:=hm<|aF q j;exact⟨_,by simpa using this,by simp[Mv.runs,k],W⟩
   ·obtain⟨j,k,rfl⟩:=C _ he;have:=hm<|aF q j;exact⟨_,by simpa using this,by simp[Mv.runs,k],W⟩
   rename_i L K;obtain⟨j,m,k,rfl⟩:=sh _ he;have:=hm<|aF q j;refine⟨_,?_,k,W⟩;simp_all
 |ptr r a b p=>exact bk λf=>cG λ_=>by simp[dG,SR.den,Cl.den,SV.den,ne_iff.1 f]
 |fS g F=>exact bk λf=>cG λ_=>by simp[dG,SR.den,Cl.den,SV.den,yA f,if_true]
 |box b z=>
  have hm:dG d (SR.den ⟨s,⟨.box b z,g1,g2⟩,rt⟩)=if(SV.box b z).den.aG then some [.put d (SV.box b z).den]else match s with
   |some s=>if s=d then none else some [.put d<|.bC s g1 g2 []]
   |none=>none:=W
  rw[hm,cO];show de l _ (match(SV.box b z).aG with
   |true=>da [] l d (.box b z)
   |false=>match s with
    |some s=>(TL<|ne' s d).bind λ_=>da [] l d (.bC s g1 g2 [])
    |none=>none)
  cases(SV.box b z).aG with
  |true=>exact cG λ_=>rfl
  |false=>
   cases s with
   |none=>exact bt
   |some s=>exact bk λf=>cG λ_=>by simp[ne_iff.1 f,SV.den]
 |_=>exact gen _ W W
def Lp(tt:TT)(l:aU)(d:Nat)(t:TypeId)(x:SR):og:=
 (Fw tt t).bind λti=>(Dd x).bind λ(e,a)=>(gJ a.v a.p).bind λ(b,y)=>(TL<|my ti y).bind λ_=>match y.aG with
   |true=>da (app e b) l d y
   |false=>(TL<|ne' a.r d).bind λ_=>match y.cell with
    |true=>da (app e b) l d (.bC a.r a.g1 a.g2 a.p)
    |false=>(rM l a.r a.p).bind λ(c,g)=>H3 g d y.b9 λf=>some (app (app e b) c,f,[a.r,d])
def GK(hA:cH P tt)(l:aU)(d:Nat)(t:TypeId)(x:SR):de l (sn P d t x.den) (Lp tt l d t x):=by
 intro q s u he hc;unfold Lp at he;simp only[ads,afF,bE]at he;obtain⟨ti,p,h,a,o,g,y,n,_,m,he⟩:=he;have base:bo h->bo g->sn P d t x.den=if y.aG then some [.put d y.den]else if a.r=d then none else if y.cell then some [.put d<|.bC a.r a.g1 a.g2 a.p]else some [.share a.r a.p,.put d y.den.b9]:=by intro c b;unfold sn;simp[j7 hA p,ku o c,cF n b,je _ _ m,cO,CZ]
 cases hn:y.aG with
 |true=>rw[hn]at he base;simp[da,qq,ae0]at he;obtain⟨rfl,rfl,rfl⟩:=he;obtain⟨c,b⟩:=aS.1 hc;exact⟨_,base c b,by simp[Mv.runs,Mv.run,kM],W⟩
 |false=>
  rw[hn]at he base;simp only[ads,bE,ne_iff]at he;obtain⟨_,e,he⟩:=he;cases f:y.cell with
  |true=>rw[f]at he base;simp[da,qq,ae0]at he;obtain⟨rfl,rfl,rfl⟩:=he;obtain⟨c,b⟩:=aS.1 hc;refine⟨_,by simpa[e]using base c b,?_,W⟩;have:=kM l d<|.bC a.r a.g1 a.g2 a.p;rw[<-this];rfl
  |false=>rw[f]at he base;simp[ads,qq,ae0]at he;obtain⟨j,r,k,rfl,rfl,rfl⟩:=he;obtain⟨i,c3⟩:=aS.1 hc;obtain⟨c,b⟩:=aS.1 i;refine⟨_,by simpa[e]using base c b,?_,W⟩;simp[Mv.runs];rw[lG k c3];simp[Mv.run,gh,kM]
def Rv(s:Option Nat)(y:SV):Option (List Pd×SV×List Nat):=match y.aG with
 |true=>some ([],y,[])
 |false=>match s with
  |some s=>some ([],y,[s])
  |none=>none
def wE(x:SR):Option (List Pd×SV×List Nat):=
 match x.sl.v with
 |.bC r _ _ p=>(c6 x).bind λ(a,y)=>match y.aG with
  |true=>some (a,y,[])
  |false=>match uU p with
   |true=>some (a,y,[r])
   |false=>none
 |.ptr .. =>none
 |.dead=>none
 |.fS .. =>none
 |y=>Rv x.s y
def oU{x:SR}{c:List Pd}{y:SV}{M:List Nat}(h:wE x=some (c,y,M))(hc:bo c):x6 x.den=some (y.den,M):=by
 obtain⟨s,⟨v,g1,g2⟩,rt⟩:=x;unfold wE at h;have gen:∀v:SV,v.jG=true->v≠.dead->Rv s v=some (c,y,M)->x6 (SR.den ⟨s,⟨v,g1,g2⟩,rt⟩)=some (y.den,M):=by
  intro v o f hh;have hm:x6 (SR.den ⟨s,⟨v,g1,g2⟩,rt⟩)=if v.aG then some (v.den,[])else match s with
   |some s=>some (v.den,[s])
   |none=>none:=by
   have:∀a:AV,a.jG=true->a≠.dead->x6 ⟨s,⟨a,g1,g2⟩,rt.den⟩=if a.aG then some (a,[])else match s with
    |some s=>some (a,[s])
    |none=>none:=by
    intro a q f;cases a<;>first|rfl|exact absurd rfl f|simp[AV.jG]at q
   have i:=this v.den (by rw[pA];exact o) (by intro e;apply f;cases v<;>simp[SV.den]at e⊢);rw[cO]at i;exact i
  rw[hm];unfold Rv at hh
  grind
 cases v with
 |bC r a b p=>
  simp[ads]at h;obtain⟨n,m,j,h⟩:=h;unfold x6;cases hn:m.aG with
  |true=>rw[hn]at h;cases h;have:=aF j hc;simp[SR.den,Cl.den,SV.den]at this⊢;simp[this,cO,hn]
  |false=>
   rw[hn]at h;cases p with
   |cons _ _=>simp[uU]at h
   |nil=>obtain⟨rfl,rfl,rfl⟩:=h;have:=aF j hc;simp[SR.den,Cl.den,SV.den]at this⊢;simp[this,cO,hn]
 |ptr=>cases h
 |dead=>cases h
 |fS g k=>cases h
 |_=>exact gen _ W I h
def kS:List SR->Option (List Pd×List SV×List Nat)
 |[]=>some ([],[],[])
 |x::xs=>(wE x).bind λ(b,y,M)=>(kS xs).bind λ(a,ys,N)=>(TL<|M.all λm=>not'<|N.any<|Nat.beq m).bind λ_=>some (app b a,y::ys,cat M N)
def nY:∀{xs:List SR}{a:List Pd}{ys:List SV}{M:List Nat},kS xs=some (a,ys,M)->bo a->gr (xs.map SR.den)=some (aB ys,M)
 |[],a,ys,M,h,_=>by simp[kS]at h;obtain⟨-,rfl,rfl⟩:=h;rfl
 |x::xs,a,ys,M,h,hc=>by simp only[kS,ads,afF,bE]at h;obtain⟨g,y,o,j,f,e,N,i,_,c,rfl,rfl,rfl⟩:=h;obtain⟨n,k⟩:=aS.1 hc;simp only[afc,gr,oU j n,nY i k,cX,aB];rw[if_pos];rw[aeI]at c⊢;intro m hm;have:=c m hm;rw[not_iff]at this;simp;intro b;rw[List.any_eq_false]at this;exact this m b I
def M3(tt:TT)(l:aU)(t:TypeId)(a x:SR):og:=
 (Fw tt t).bind λti=>(Dd a).bind λ(g,b)=>(gJ b.v b.p).bind λ(e,f)=>(TL<|eX (my ti f)<|ne' ti.size 0).bind λ_=>(wE x).bind λ(c,y,M)=>(TL<|my ti y).bind λ_=>J4 (app (app g e) c)<|Ko l b.r b.p M y
def Dz(hA:cH P tt)(l:aU)(t:TypeId)(a x:SR):de l (uC P t a.den x.den) (M3 tt l t a x):=by
 refine ak _ λti q=>ak _ λ⟨k,g⟩p=>ak _ λ⟨j,u⟩o=>bk λe=>ak _ λ⟨i,y,M⟩n=>bk λm=>nw _ λhc=>?_;obtain⟨f,c3⟩:=aS.1 hc;obtain⟨s,r⟩:=aS.1 f;rw[aO,ne_iff]at e;have b:ti.den.size≠0:=e.2;have hm:uC P t a.den x.den=some [.store g.r g.p M y.den]:=by unfold uC;simp[j7 hA q,ku p s,cF o r,je _ _ e.1,oU n c3,je _ _ m];simpa using b
 rw[hm];intro k v w he c;obtain⟨r1,h⟩:=Kn he c;exact⟨_,W,by simp[Mv.runs,r1],by simp[bc,Mv.keys,h]⟩
end
def Iy{α c:Type}{g:α->Option c}:∀{l:List α}{r:List c},l.mapM g=some r->∀(i:Nat)(y:c),r[i]?=some y->∃x,l[i]?=some x/\g x=some y
 |[],r,h,i,y,a=>by cases h;cases a
 |x::l,r,h,i,y,a=>by
  simp[ads]at h;obtain⟨b,j,bs,f,e⟩:=h;cases e;cases i with
  |zero=>cases a;simp_all
  |succ i=>simpa using Iy f i y a
def mapM_map{α a c:Type}{g:α->Option a}{k:a->c}:∀{l:List α}{r:List a},l.mapM g=some r->l.mapM (λx=>(g x).map k)=some (r.map k)
 |[],r,h=>by cases h;simp
 |x::l,r,h=>by simp[ads]at h;obtain⟨b,i,bs,f,e⟩:=h;cases e;simp only[List.mapM_cons,i,mapM_map (k:=k) f];rfl
def GH(tt:TT)(t:TypeId)(f:Nat):Option (Nat×TypeId):=(DY tt t).bind λ|.struct b=>(nth b f).bind λ(o,a,_)=>some (o,a)|_=>none
def Cq{P:Program}{tt:TT}(hA:cH P tt){t:TypeId}{f o c:Nat}(h:GH tt t f=some (o,c)):tq P t f=some (o,c):=by
 simp[GH,ads]at h;obtain⟨u,k,a⟩:=h;cases u<;>simp only[ads,afF]at a<;>try(cases a;done)
 obtain⟨n,m,sz,a,j⟩:=a;cases j;obtain⟨p,i,g⟩:=mf hA k;rw[mI]at a;obtain⟨x,b,e⟩:=Iy g _ _ a;simp[tq,i];rw[ag5]at b;rw[b];simp at e
 grind
def FZ(tt:TT)(t:TypeId):Option (List<|Nat×Nat):=(DY tt t).bind λ|.struct a=>some (a.map λ(o,_,n)=>(o,n))|_=>none
def Oh{P:Program}{tt:TT}(hA:cH P tt){t:TypeId}{b:List (Nat×Nat)}(h:FZ tt t=some b):placesOf P t=some b:=by
 simp[FZ,ads]at h;obtain⟨u,g,a⟩:=h;cases u<;>simp at a<;>try(cases a;done)
 subst a;obtain⟨i,e,c⟩:=mf hA g;simp[placesOf,e];have:=mapM_map (k:=λ(x:Nat×TypeId×Nat)=>(x.1,x.2.2)) c;rw[<-this]
 congr 1
 funext f
 cases P.info? f.type<;>rfl
def Sr(ti:xk)(o:Nat):Step:=match ti.agg with
 |true=>.at o (some ti.size)
 |false=>.at o none
def xg(ti:xk)(o:Nat):ix ti.den o=Sr ti o:=by unfold Sr xk.den;cases ti.agg<;>rfl
section
variable{P:Program}{tt:TT}(hA:cH P tt)(l:aU)(d:Nat)
def ab2{m:Option (List Mv)}{a:List Pd}{r g1 g2:Nat}{p:Path}(h:bo a->m=some [.put d<|.ptr r g1 g2 p]):de l m (da a l d<|.ptr r g1 g2 p):=cG λhc=>by simpa[SV.den]using h hc
def Nt{m:Option (List Mv)}{a:List Pd}{r g1 g2:Nat}{p:Path}(h:bo a->m=some [.put d<|.bC r g1 g2 p]):de l m (da a l d<|.bC r g1 g2 p):=cG λhc=>by simpa[SV.den]using h hc
def zP(tt:TT)(l:aU)(d:Nat)(t:TypeId)(x:SR)(f:Nat):og:=
 (GH tt t f).bind λ(o,e)=>(Fw tt e).bind λti=>(Dd x).bind λ(c,a)=>(TL<|eX (ne' a.r d)<|ne' ti.size 0).bind λ_=>match flat (a.p++[Sr ti o])with
   |true=>da c l d (.ptr a.r a.g1 a.g2<|a.p++[Sr ti o])
   |false=>(gJ a.v<|a.p++[Sr ti o]).bind λ(b,_)=>da (app c b) l d<|.ptr a.r a.g1 a.g2<|a.p++[Sr ti o]
def wL(hA:cH P tt)(l:aU)(d:Nat)(t:TypeId)(x:SR)(f:Nat):de l (jZ P d t x.den f) (zP tt l d t x f):=by
 refine ak _ λ⟨o,r⟩h=>ak _ λti g=>ak _ λ⟨q,p⟩e=>bk λb=>?_;rw[aO,ne_iff,ne_iff]at b;have a:ti.den.size≠0:=b.2;cases j:flat (p.p++[Sr ti o])with
 |true=>refine ab2 _ _ λc=>?_;unfold jZ;simp[Cq hA h,j7 hA g,ku e c,b.1,a,xg,j]
 |false=>refine ak _ λ⟨i,y⟩k=>ab2 _ _ λc=>?_;obtain⟨n,m⟩:=aS.1 c;unfold jZ;simp[Cq hA h,j7 hA g,ku e n,b.1,a,xg,cF k m]
def M6(tt:TT)(l:aU)(d:Nat)(t:TypeId)(x:SR)(f:Nat):og:=(GH tt t f).bind λ(o,c)=>(Fw tt c).bind λti=>(c6 x).bind λ(b,v)=>(gJ v [Sr ti o]).bind λ(a,y)=>(TL y.aG).bind λ_=>da (app b a) l d y
def DC(hA:cH P tt)(l:aU)(d:Nat)(t:TypeId)(x:SR)(f:Nat):de l (ye P d t x.den f) (M6 tt l d t x f):=by refine ak _ λ⟨o,n⟩i=>ak _ λti h=>ak _ λ⟨m,v⟩g=>ak _ λ⟨a,y⟩e=>bk λb=>cG λc=>?_;obtain⟨k,j⟩:=aS.1 c;unfold ye;simp[Cq hA i,j7 hA h,aF g k,xg,cF e j,cO,b]
def ss:SV->Option (Nat×Nat)
 |.nil=>some (0,0)
 |.ints _ _ xs=>some (1,xs.length)
 |.strs _ xs=>some (1,xs.length)
 |.cz _ xs=>some (1,xs.length)
 |.bA _ sz _ _ xs=>some (sz,xs.length)
 |.row _ sz xs=>some (sz,len xs)
 |_=>none
def lQ{y:SV}{sz n:Nat}(h:ss y=some (sz,n)):∃f X,y.den=.list f sz X/\X.length=n:=by
 cases y<;>try(cases h;done)
 all_goals(obtain⟨rfl,rfl⟩:=h;exact⟨_,_,W,by simp[bB,fH]⟩)
def NK:SV->Option (Nat×Nat×Nat×Path×Nat×Nat×Nat)
 |.bC r g1 g2 p=>match DX p with
  |some (q,sz,o,n)=>some (r,g1,g2,q,sz,o,n)
  |none=>none
 |_=>none
def K5:SV->Bool
 |.bC _ _ _ p=>kh p
 |_=>false
def NJ{x:SR}(h:NK x.sl.v=none):x.den.lZ=none:=by
 obtain⟨s,⟨v,g1,g2⟩,rt⟩:=x;unfold bY.lZ;cases v<;>simp[SR.den,Cl.den,SV.den];simp[NK]at h
 grind
def NI{x:SR}{r g1 g2 sz o n c k:Nat}{q:Path}{g:List Pd}{y:SV}(h:NK x.sl.v=some (r,g1,g2,q,sz,o,n))(j:x.rt.g1=g1)(p:K5 x.sl.v=true\/x.rt.g2=g2)
 (m:gJ x.rt.v q=some (g,y))(hc:bo g)(hl:ss y=some (c,k))(e:sz=c)(hn:0<n)(u:o+n<=k):x.den.lZ=some (r,g1,x.rt.g2,q,sz,o,n):=by
 obtain⟨s,⟨v,a,b⟩,rt⟩:=x;obtain⟨f,X,t,w⟩:=lQ hl;have i:=cF m hc;rw[t]at i;unfold bY.lZ;cases v<;>simp[NK]at h<;>try(cases h)
 split at h<;>try(cases h;done)
 rename_i hu;cases h;simp[K5]at j p;simp only[SR.den,Cl.den,SV.den,hu,j,if_true,i];simp_all
def EW(tt:TT)(l:aU)(d:Nat)(t:TypeId)(x i:SR):og:=
 (c6 i).bind λ(c,v)=>match v with
   |.n _ n=>(slice? tt t).bind λe=>(Fw tt e).bind λti=>match NK x.sl.v with
    |some (r,g1,g2,q,sz,o,m)=>(TL<|eX (Nat.beq x.rt.g1 g1)<|DN (K5 x.sl.v)<|Nat.beq x.rt.g2 g2).bind λ_=>(gJ x.rt.v q).bind λ(a,y)=>(ss y).bind λ(b,k)=>(TL<|eX (Nat.beq sz b)<|Nat.beq sz ti.size).bind λ_=>(TL<|ne' r d).bind λ_=>da ((0<=n)::(n<m)::(0<m)::(o+m<=k)::app c a) l d (.ptr r g1 x.rt.g2<|q++[.idx (o+n.toNat) sz])
    |none=>(c6 x).bind λ(a,y)=>(ss y).bind λ(sz,k)=>(TL<|Nat.beq sz ti.size).bind λ_=>(xJ x).bind λ(r,g1,g2,p)=>
    (TL<|ne' r d).bind λ_=>da ((0<=n)::(n<k)::app c a) l d (.ptr r g1 g2<|p++[.idx n.toNat sz])
   |_=>none
def Av(hA:cH P tt)(l:aU)(d:Nat)(t:TypeId)(x i:SR):de l (aab P d t x.den i.den) (EW tt l d t x i):=by
 refine ak _ λ⟨R,v⟩J=>?_;cases v<;>try exact bt
 rename_i k n;refine ak _ λe H=>ak _ λti F=>?_;cases b:NK x.sl.v with
 |some wp=>refine bk λj=>ak _ λ⟨o,y⟩w=>ak _ λ⟨K,S⟩u=>bk λh=>bk λs=>ab2 _ _ λc=>?_;obtain⟨D,C,Q,O,c⟩:=c;obtain⟨B,A⟩:=aS.1 c;rw[aO,qS,beq_iff,beq_iff]at j;rw[aO,beq_iff,beq_iff]at h;have L:=NI b j.1 j.2 w A u h.1 Q O;have a:i.den.cont=some (.v<|.int k n):=aF J B;have z:=h.2;unfold aab;simp only[a,vA hA H,j7 hA F,L];rw[if_pos ⟨z,D,C⟩];simp[ne_iff.1 s]
 |none=>
 have q:=NJ b;refine ak _ λ⟨o,y⟩j=>ak _ λ⟨sz,m⟩w=>bk λu=>ak _ λ⟨r,g1,g2,p⟩h=>bk λs=>ab2 _ _ λc=>?_;obtain⟨D,C,c⟩:=c;obtain⟨B,A⟩:=aS.1 c;obtain⟨f,X,N,M⟩:=lQ w;have z:=beq_iff.1 u;unfold aab;have a:i.den.cont=some (.v<|.int k n):=aF J B;have g:=aF j A;rw[N]at g;simp only[a,vA hA H,j7 hA F,q,g];rw[if_pos ⟨z,D,by rw[M];exact C⟩];simp[nQ,h,ne_iff.1 s]
def Ct(tt:TT)(l:aU)(d:Nat)(len:Nat)(e:TypeId)(x i:SR):og:=
 (c6 i).bind λ(f,v)=>match v with
   |.n _ n=>(Fw tt e).bind λti=>(Dd x).bind λ(c,a)=>(TL<|ne' a.r d).bind λ_=>(gJ a.v<|a.p++[Sr ti<|n.toNat*ti.size]).bind λ(b,_)=>da ((0<=n)::(n<len)::app f (app c b)) l d (.ptr a.r a.g1 a.g2<|a.p++[Sr ti<|n.toNat*ti.size])
   |_=>none
def ym(hA:cH P tt)(l:aU)(d:Nat)(t:TypeId){len:Nat}{e:TypeId}(hu:DY tt t=some (.array len e))(x i:SR):de l (aab P d t x.den i.den) (Ct tt l d len e x i):=by
 refine ak _ λ⟨A,v⟩s=>?_;cases v<;>try exact bt
 rename_i k n;refine ak _ λti r=>ak _ λ⟨h,B⟩q=>bk λp=>ak _ λ⟨g,y⟩o=>ab2 _ _ λc=>?_;obtain⟨z,w,c⟩:=c;obtain⟨u,f⟩:=aS.1 c;obtain⟨f,c3⟩:=aS.1 f;have a:i.den.cont=some (.v<|.int k n):=aF s u;have m:P.underlying t=some (.array len e):=mf hA hu;unfold aab;simp only[a,m,j7 hA r,ku q f];have b:=ne_iff.1 p;have j:=cF o c3;have hs:ti.den.size=ti.size:=W;rw[if_pos ⟨z,w,b⟩];simp[xg,hs,j]
def sD(tt:TT)(l:aU)(d:Nat)(t:TypeId)(x i:SR):og:=
 match DY tt t with
 |some (.array len e)=>Ct tt l d len e x i
 |_=>EW tt l d t x i
def wK(hA:cH P tt)(l:aU)(d:Nat)(t:TypeId)(x i:SR):de l (aab P d t x.den i.den) (sD tt l d t x i):=by
 unfold sD;split
 ·rename_i h;exact ym hA l d t h x i
 exact Av hA l d t x i
def Xn(x:hO)(i:Nat):(bs x)[i]?=x[i]?:=by
 by_cases h:i<x.length
 ·rw[aeF h];have a:=h;rw[getElem?_pos (bs x) i a];rfl
 rw[afL E];have a:=h;rw[getElem?_neg (bs x) i a]
def M5(tt:TT)(l:aU)(d:Nat)(t:TypeId)(x i:SR):og:=
 (c6 i).bind λ(c,v)=>match v with
   |.n _ n=>(DY tt t).bind λu=>match u with
    |.str=>(c6 x).bind λ(a,y)=>match y with
     |.s s=>da ((0<=n)::(n<s.length)::app c a) l d (.n .u8 (s.getD n.toNat 0).toNat)
     |_=>none
    |.array len e=>(Fw tt e).bind λti=>(c6 x).bind λ(a,v)=>(gJ v [Sr ti<|n.toNat*ti.size]).bind λ(b,y)=>(TL y.aG).bind λ_=>da ((0<=n)::(n<len)::app c (app a b)) l d y
    |_=>none
   |_=>none
def DB(hA:cH P tt)(l:aU)(d:Nat)(t:TypeId)(x i:SR):de l (uV P d t x.den i.den) (M5 tt l d t x i):=by
 refine ak _ λ⟨D,v⟩q=>?_;cases v<;>try exact bt
 rename_i k n;refine ak _ λu p=>?_;cases u<;>try exact bt
 case array len e=>refine ak _ λti h=>ak _ λ⟨f,v⟩C=>ak _ λ⟨o,y⟩B=>bk λA=>cG λc=>?_;obtain⟨m,r,c⟩:=c;obtain⟨j,b⟩:=aS.1 c;obtain⟨b,c3⟩:=aS.1 b;have a:i.den.cont=some (.v<|.int k n):=aF q j;have z:P.underlying t=some (.array len e):=mf hA p;have hs:ti.den.size=ti.size:=W;unfold uV;simp only[a,z,j7 hA h,aF C b];rw[if_pos ⟨m,r⟩];simp[xg,hs,cF B c3,cO,A]
 refine ak _ λ⟨f,y⟩h=>?_;cases y<;>try exact bt
 rename_i s;refine cG λc=>?_;obtain⟨m,r,c⟩:=c;obtain⟨j,b⟩:=aS.1 c;have a:=aF q j;have g:=aF h b;have hu:P.underlying t=some .string:=mf hA p;have w:n.toNat<s.length:=E;unfold uV;simp[a,hu,g,m,Xn,SV.den];simp_all
def EX(l:aU)(d:Nat)(x:SR)(i:Nat):og:=
 (c6 x).bind λ(a,v)=>match v with
   |.bW b=>(nth b i).bind λy=>match y.aG with
    |true=>da a l d y
    |false=>(xJ x).bind λ(r,g1,g2,p)=>(TL<|eX (ne' r d)<|uU p).bind λ_=>da a l d (.bC r g1 g2 [.bW i])
   |_=>none
def Aw(x:SR)(i:Nat):de l (nZ d x.den i) (EX l d x i):=by
 refine ak _ λ⟨j,v⟩f=>?_;cases v<;>try exact bt
 rename_i b;refine ak _ λy a=>?_;rw[mI]at a;cases hn:y.aG with
 |true=>refine cG λc=>?_;unfold nZ;have hc:x.den.cont=some (.bW<|aB b):=aF f c;simp[hc,ji,a,cO,hn]
 |false=>
  refine ak _ λ⟨r,g1,g2,p⟩h=>bk λe=>Nt _ _ λc=>?_;rw[aO,ne_iff]at e;have g:p=[]:=by cases p<;>simp_all[uU]
  subst g;unfold nZ;have hc:x.den.cont=some (.bW<|aB b):=aF f c;simp[hc,ji,a,cO,hn,nQ,h];simp[e.1]
def W6(a:Int):Prop:= -(2^63)<=a/\a<=9223372036854775807
def o7{a:Int}(h:W6 a):IntKind.i64.wrap a=a:=by obtain⟨c,b⟩:=h;exact IntWalk.i64_in a ⟨c,b⟩
def num(b:Bool)(k:IntKind)(a:Int):List Pd×SV:=match b,k with
 |false,.i64=>([-(2^63)<=a,a<=9223372036854775807],.n .i64 a)
 |_,k=>([],.n k<|k.wrap a)
def v8{b:Bool}{k:IntKind}{a:Int}(h:bo (num b k a).1):(num b k a).2.den=.v (.int k<|k.wrap a):=by
 unfold num at h⊢;split
 ·simp[bo]at h;simp[SV.den,o7 (a:=a) h]
 rfl
def VO(tt:TT)(a:Bool)(l:aU)(d:Nat)(s t:TypeId)(x:SR):og:=
 (DY tt s).bind λu=>(DY tt t).bind λc=>(c6 x).bind λ(e,v)=>match v with
   |.n _ n=>match u,c with
    |.int _,.int k=>match num a k n with
     |(b,y)=>da (app e b) l d y
    |_,_=>none
   |.s x=>match u,c with
    |.str,.str=>da e l d (.s x)
    |_,_=>none
   |_=>none
def JG(hA:cH P tt)(l:aU)(d:Nat)(a:Bool)(s t:TypeId)(x:SR):de l (CR P d s t x.den) (VO tt a l d s t x):=by
 refine ak _ λu i=>ak _ λf h=>ak _ λ⟨o,v⟩g=>?_;cases v<;>try exact bt
 ·rename_i k n;cases u<;>try exact bt
  cases f<;>try exact bt
  rename_i k1 k2;have e:P.underlying s=some (.int k1):=mf hA i;have b:P.underlying t=some (.int k2):=mf hA h;simp only;refine cG λc=>?_;obtain⟨m,j⟩:=aS.1 c;have hc:x.den.cont=some (.v<|.int k n):=aF g m;simp[CR,e,b,hc,v8 j]
 rename_i y;cases u<;>try exact bt
 cases f<;>try exact bt
 have e:P.underlying s=some .string:=mf hA i;have b:P.underlying t=some .string:=mf hA h;refine cG λc=>?_;have hc:=aF g c;simp[CR,e,b,hc,SV.den]
end
def Hu(b:ByteArray):∀(n i:Nat)(r:List UInt8),b.size-i=n->ByteArray.toList.loop b i r=r.reverse++b.data.toList.drop i:=by
 intro n
 induction n with
 |zero=>intro i r h;unfold ByteArray.toList.loop;have:¬i<b.size:=E;rw[if_neg this];simp_all
 |succ n a=>
  intro i r h;unfold ByteArray.toList.loop;have d:i<b.size:=E;rw[a (i+1) _ E];have c:=d;rw[aeE c];have:b.get! i=b.data.toList[i]:=by unfold ByteArray.get!;simp_all
  simp_all
def toList_data(b:ByteArray):b.toList=b.data.toList:=by unfold ByteArray.toList;rw[Hu b _ 0 [] W];simp
def Ns(x:hO):(bs x).toList=x:=by rw[toList_data];simp[bs]
def w9(x:hO):(bs x).size=x.length:=fb
def Pj(x y:hO):bs (x++y)=bs x++bs y:=by rfl
def LN(x:hO)(l h:Nat):bs ((x.take h).drop l)=(bs x).extract l h:=by apply ByteArray.ext;simp[bs];rw[List.drop_take]
def WV(c:Bool)(op:BinOp)(k:IntKind)(a b:Int):Option (List Pd×SV):=
 match op with
 |.add=>some (num c k<|a+b)
 |.sub=>some (num c k<|a-b)
 |.mul=>some (num c k<|a*b)
 |.quo=>match c,k with
  |false,.i64=>some ([0<=a,a<=9223372036854775807,0<b],.n .i64<|a/b)
  |_,k=>some ([b≠0],.n k<|k.wrap<|a.tdiv b)
 |.rem=>match c with
  |false=>some ([0<=a,0<b],.n k<|a%b)
  |true=>some ([b≠0],.n k<|a.tmod b)
 |.and=>some ([],.n k<|k.wrap (BitVec.ofInt k.bits a&&&BitVec.ofInt k.bits b).toNat)
 |.or=>some ([],.n k<|k.wrap (BitVec.ofInt k.bits a|||BitVec.ofInt k.bits b).toNat)
 |.xor=>some ([],.n k<|k.wrap (BitVec.ofInt k.bits a^^^BitVec.ofInt k.bits b).toNat)
 |.andNot=>some ([],.n k<|k.wrap (BitVec.ofInt k.bits a&&& ~~~ BitVec.ofInt k.bits b).toNat)
 |.eql=>some ([],.u<|decide (a=b))
 |.neq=>some ([],.u<|decide (¬a=b))
 |.lss=>some ([],.u<|decide (a<b))
 |.leq=>some ([],.u<|decide (a<=b))
 |.gtr=>some ([],.u<|decide (b<a))
 |.geq=>some ([],.u<|decide (b<=a))
 |_=>none
def P9(op:BinOp)(k:IntKind)(a b:Int):Option (List Pd×SV):=
 match op with
 |.shl=>some ([0<=b],.n k<|k.wrap<|a*2^min b.toNat k.bits)
 |.shr=>some ([0<=b],.n k<|a.fdiv<|2^min b.toNat k.bits)
 |_=>none
def XR(op:BinOp)(a b:hO):Option (List Pd×SV):=
 match op with
 |.add=>some ([((a.length+b.length:Nat):Int)<=9223372036854775807],.s<|a++b)
 |.eql=>some ([],.u<|decide (a=b))
 |.neq=>some ([],.u<|decide (¬a=b))
 |.lss=>some ([],.u<|Op.bytesLess a b)
 |_=>none
def Fj(op:BinOp)(a b:Bool):Option (List Pd×SV):=
 match op with
 |.eql=>some ([],.u<|decide (a=b))
 |.neq=>some ([],.u<|decide (¬a=b))
 |_=>none
def isBool:Option Ty->Bool
 |some .bool=>true
 |_=>false
def MK:BinOp->Bool
 |.shl=>true
 |.shr=>true
 |_=>false
def asBool(op:BinOp)(b:Bool):Option SV:=
 match op with
 |.eql=>some (.b b)
 |.neq=>some (.b<|not' b)
 |_=>none
def P3:SV->Option Pd
 |.ints _ _ xs=>some (xs≠[])
 |.strs _ xs=>some (xs≠[])
 |.cz _ xs=>some (xs≠[])
 |.bA _ _ _ _ xs=>some (xs≠[])
 |.row _ _ (_::_)=>some True
 |_=>none
def WH(tt:TT)(op:BinOp)(t:TypeId)(x y:SV):Option (List Pd×SV):=
 match y with
 |.nil=>match DY tt t with
  |some (.slice _)=>match x with
   |.nil=>match asBool op true with
    |some z=>some ([],z)
    |none=>none
   |.fv _ a=>match op with
    |.eql=>some ([],.u<|decide (a=[]))
    |.neq=>some ([],.u<|decide (a≠[]))
    |_=>none
   |x=>match P3 x with
    |some p=>match asBool op false with
     |some z=>some ([p],z)
     |none=>none
    |none=>none
  |_=>none
 |.c (.pointer none)=>match DY tt t with
  |some .ptr=>match x with
   |.box _ _=>match asBool op false with
    |some z=>some ([],z)
    |none=>none
   |.c (.pointer none)=>match asBool op true with
    |some z=>some ([],z)
    |none=>none
   |_=>none
  |_=>none
 |.c .nilFunc=>match DY tt t with
  |some .func=>match x with
   |.fn _ _ _=>match asBool op false with
    |some z=>some ([],z)
    |none=>none
   |.c .nilFunc=>match asBool op true with
    |some z=>some ([],z)
    |none=>none
   |_=>none
  |_=>none
 |_=>none
def Xq(tt:TT)(c:Bool)(op:BinOp)(t:TypeId)(x y:SV):Option (List Pd×SV):=
 match x,y with
 |.n k a,.n d b=>match MK op with
  |true=>P9 op k a b
  |false=>match su k d with
   |true=>WV c op k a b
   |false=>none
 |.s a,.s b=>XR op a b
 |.b a,.b b=>match isBool (DY tt t)with
  |true=>Fj op a b
  |false=>none
 |.u a,.b b=>match isBool (DY tt t)with
  |true=>Fj op a b
  |false=>none
 |.b a,.u b=>match isBool (DY tt t)with
  |true=>Fj op a b
  |false=>none
 |.u a,.u b=>match isBool (DY tt t)with
  |true=>Fj op a b
  |false=>none
 |x,y=>WH tt op t x y
section
variable{P:Program}{tt:TT}(hA:cH P tt)
def Ri{d:Bool}{op:BinOp}{k:IntKind}{a b:Int}{i:List Pd}{y:SV}(t:TypeId)(hs:MK op=false)(h:WV d op k a b=some (i,y))(hc:bo i):
 mB P op t (.v<|.int k a) (.v<|.int k b)=some y.den:=by
 have f:∃v,xD P op t (.int k a) (.int k b)=some v/\AV.v v=y.den:=by
  unfold xD;cases op<;>simp only[WV,ada]at h hs⊢ <;>try(cases h;done)
  case add=>obtain⟨rfl,rfl⟩:=ahB h;exact⟨_,if_pos U,(v8 hc).symm⟩
  case sub=>obtain⟨rfl,rfl⟩:=ahB h;exact⟨_,if_pos U,(v8 hc).symm⟩
  case mul=>obtain⟨rfl,rfl⟩:=ahB h;exact⟨_,if_pos U,(v8 hc).symm⟩
  case quo=>
   split at h
   ·cases h;obtain⟨c,n,c3,-⟩:=hc;have g:b≠0:=E;have e:a.tdiv b=a/b:=ahC c;have l:0<=a/b:=ahb c E;have j:a/b<=a:=Int.ediv_le_self _ c;have m:IntKind.i64.wrap (a/b)=a/b:=o7 ⟨E,E⟩;refine⟨.int .i64<|a/b,?_,W⟩;simp[g,e,m]
   cases h;exact⟨_,by simp[hc.1],W⟩
  case rem=>
   split at h
   ·cases h;obtain⟨c,n,-⟩:=hc;have g:b≠0:=E;have e:a.tmod b=a%b:=ait c;exact⟨.int k<|a%b,by simp[g,e],W⟩
   cases h;exact⟨_,by simp[hc.1],W⟩
  all_goals
   obtain⟨rfl,rfl⟩:=ahB h
   first
    |rfl
    |(simp only[SV.den,bne];by_cases e:a=b<;>simp[e])
 obtain⟨v,l,j⟩:=f;simp[mB,l,j]
def Kx{op:BinOp}{k d:IntKind}{a b:Int}{c:List Pd}{y:SV}(t:TypeId)(h:P9 op k a b=some (c,y))(hc:bo c):
 mB P op t (.v<|.int k a) (.v<|.int d b)=some y.den:=by
 cases op<;>try(cases h;done)
 all_goals
  cases h;simp[bo]at hc;have:¬b<0:=E;simp[mB,xD,this,SV.den]
def PX{op:BinOp}{a b:hO}{c:List Pd}{y:SV}(t:TypeId)(h:XR op a b=some (c,y))(hc:bo c):
 mB P op t (.v<|.string<|bs a) (.v<|.string<|bs b)=some y.den:=by
 cases op<;>try(cases h;done)
 all_goals
  cases h
 case add=>
  simp[bo]at hc;have:¬(((bs a).size+(bs b).size:Nat):Int)>IntKind.i64.max:=by rw[w9,w9];simp_all
  simp only[mB,xD,this,if_false,SV.den,Pj]
 case lss=>simp[mB,xD,SV.den,Ns]
 all_goals
  simp[mB,xD,SV.den,Ns]
  grind
def Pm{op:BinOp}{a b:Bool}{c:List Pd}{y:SV}{t:TypeId}(hu:P.underlying t=some .bool)(h:Fj op a b=some (c,y)):
 mB P op t (.v<|.bool a) (.v<|.bool b)=some y.den:=by
 cases op<;>try(cases h;done)
 all_goals
  cases h;cases a<;>simp[mB,xD,hu,SV.den]
def lV{op:BinOp}{b:Bool}{z:SV}(h:asBool op b=some z):KU op (some b)=some z.den:=by
 cases op<;>try(cases h;done)
 all_goals
  cases h;cases b<;>rfl
def VE(o:Bool):fl o≠.nil:=by cases o<;>simp[fl]
def NW{x:SV}{p:Pd}(h:P3 x=some p)(b:p.p):∃f sz X,x.den=.list f sz X/\f≠.nil/\X.isEmpty=false:=by
 cases x<;>simp[P3]at h<;>try(cases h;done)
 case row o sz a=>
  cases a with
  |nil=>cases h
  |cons x a=>exact⟨_,_,_,W,VE _,W⟩
 all_goals
  subst h;refine⟨_,_,_,W,VE _,?_⟩;simpa using b
def QO(hA:cH P tt){op:BinOp}{t:TypeId}{x y z:SV}{i:List Pd}(h:WH tt op t x y=some (i,z))(hc:bo i):mB P op t x.den y.den=some z.den:=by
 unfold WH at h;split at h<;>try(cases h;done)
 ·split at h<;>try(cases h;done)
  rename_i e hu;have hu:P.underlying t=some (.slice e):=mf hA hu;split at h
  ·split at h<;>try(cases h;done)
   rename_i g d;cases h;have:=lV d;simpa[mB,isNil,SV.den,hu]using this
  ·rename_i k;cases op<;>simp[ada,ae0]at h<;>try(cases h;done)
   all_goals
    obtain⟨-,rfl⟩:=h;cases k<;>simp[mB,isNil,SV.den,Yx,XQ,hu,KU]
  split at h<;>try(cases h;done)
  rename_i p l;split at h<;>try(cases h;done)
  rename_i g d;cases h;simp[bo,and_true]at hc;have:=lV d;obtain⟨f,sz,X,n,m,j⟩:=NW l hc;rw[n];cases f with
  |nil=>exact absurd W m
  |shr=>simpa[mB,isNil,SV.den,hu,j]using this
  |own=>simpa[mB,isNil,SV.den,hu,j]using this
 ·split at h<;>try(cases h;done)
  rename_i hu;obtain⟨e,hu⟩:∃e,P.underlying t=some (.pointer e):=mf hA hu;split at h<;>try(cases h;done)
  ·split at h<;>try(cases h;done)
   rename_i g d;cases h;have:=lV d;simpa[mB,isNil,SV.den,hu]using this
  split at h<;>try(cases h;done)
  rename_i g d;cases h;have:=lV d;simpa[mB,xD,isNil,SV.den,hu]using this
 split at h<;>try(cases h;done)
 rename_i hu;obtain⟨a,b,c,hu⟩:∃a b c,P.underlying t=some (.func a b c):=mf hA hu;split at h<;>try(cases h;done)
 ·split at h<;>try(cases h;done)
  rename_i g d;cases h;have:=lV d;simpa[mB,isNil,SV.den,hu]using this
 split at h<;>try(cases h;done)
 rename_i g d;cases h;have:=lV d;simpa[mB,xD,isNil,SV.den,hu]using this
def Se(hA:cH P tt){d:Bool}{op:BinOp}{t:TypeId}{x y z:SV}{e:List Pd}(h:Xq tt d op t x y=some (e,z))(hc:bo e):mB P op t x.den y.den=some z.den:=by
 have c:∀a b:Bool,(match isBool (DY tt t)with
  |true=>Fj op a b
  |false=>none)=some (e,z)->mB P op t (.v<|.bool a) (.v<|.bool b)=some z.den:=by
  intro a b h;split at h<;>try(cases h)
  rename_i f;have hu:P.underlying t=some .bool:=by
   unfold isBool at f;split at f
   ·rename_i hu;exact mf hA hu
   cases f
  exact Pm hu h
 unfold Xq at h;split at h
 ·split at h
  ·exact Kx t h hc
  rename_i hs;split at h<;>try(cases h)
  rename_i g;have:=np g;subst this;exact Ri t hs h hc
 ·exact PX t h hc
 ·exact c _ _ h
 ·exact c _ _ h
 ·exact c _ _ h
 ·exact c _ _ h
 exact QO hA h hc
def Wa(a:Bool)(op:UnOp)(x:SV):Option (List Pd×SV):=
 match op,x with
 |.neg,.n k n=>some (num a k<|0-n)
 |.xor,.n k n=>some ([],.n k<|k.wrap (BitVec.ofInt k.bits (if k.signed then -1 else k.max)^^^BitVec.ofInt k.bits n).toNat)
 |.not,.b b=>some ([],.b<|not' b)
 |.not,.u b=>some ([],.u<|!b)
 |_,_=>none
def PK{a:Bool}{op:UnOp}{x y:SV}{c:List Pd}(h:Wa a op x=some (c,y))(hc:bo c):∃v w,x.den=.v v/\Wb op v=some w/\y.den=.v w:=by
 unfold Wa at h;split at h<;>try(cases h;done)
 ·simp only[ada]at h;obtain⟨rfl,rfl⟩:=ahB h;exact⟨_,_,W,W,v8 hc⟩
 ·cases h;exact⟨_,_,W,W,W⟩
 ·cases h;rename_i b;refine⟨_,_,W,W,?_⟩;cases b<;>rfl
 cases h;exact⟨_,_,W,W,W⟩
def VL(tt:TT)(c:Bool)(l:aU)(d:Nat)(op:BinOp)(t:TypeId)(x y:SR):og:=(c6 x).bind λ(g,a)=>(c6 y).bind λ(f,b)=>(Xq tt c op t a b).bind λ(e,z)=>da (app e<|app g f) l d z
def Jn(hA:cH P tt)(e:Bool)(l:aU)(d:Nat)(op:BinOp)(t:TypeId)(x y:SR):de l (U0 P d op t x.den.cont y.den.cont) (VL tt e l d op t x y):=by refine ak _ λ⟨o,a⟩k=>ak _ λ⟨h,b⟩j=>ak _ λ⟨g,z⟩i=>cG λc=>?_;obtain⟨c3,f⟩:=aS.1 c;obtain⟨n,m⟩:=aS.1 f;simp[U0,aF k n,aF j m,Se hA i c3]
def YB(b:Bool)(l:aU)(d:Nat)(op:UnOp)(x:SR):og:=(c6 x).bind λ(e,a)=>(Wa b op a).bind λ(c,z)=>da (app c e) l d z
def Ln(b:Bool)(l:aU)(d:Nat)(op:UnOp)(x:SR):de l (Y3 d op x.den.cont) (YB b l d op x):=by refine ak _ λ⟨n,a⟩g=>ak _ λ⟨e,z⟩f=>cG λc=>?_;obtain⟨k,m⟩:=aS.1 c;obtain⟨v,w,j,i,h⟩:=PK f k;have:=aF g m;rw[j]at this;simp[Y3,this,i,h]
def RJ(l:aU)(d:Nat)(c x y:SR):og:=
 (c6 c).bind λ(b,a)=>match a with
   |.b true=>J4 b (u5 l d x)
   |.b false=>J4 b (u5 l d y)
   |_=>none
def GJ(l:aU)(d:Nat)(c x y:SR):de l (Vr d c.den.cont x.den y.den) (RJ l d c x y):=by
 refine ak _ λ⟨g,a⟩f=>?_;cases a<;>try exact bt
 rename_i b;cases b
 ·refine nw _ λe=>?_;have:=aF f e;simp[this];exact jq l d y
 refine nw _ λe=>?_;have:=aF f e;simp[this];exact jq l d x
end
end Go.Ai
