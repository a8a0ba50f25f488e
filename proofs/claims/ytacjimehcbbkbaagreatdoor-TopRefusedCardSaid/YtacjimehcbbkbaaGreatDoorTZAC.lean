/- TopRefused holds. -/
import Derived.Test.YtacjimehcbbkbaaGreatDoorTZAB
import Derived.RangeFuncLeaves
import Derived.RangeFuncFrom
set_option linter.all false
set_option maxRecDepth 100000
set_option maxHeartbeats 0
namespace Go.Ai
open Go.RowKit
def me(σ:St)(ops:Array Oper)(o:Oper):Option Bool:=
 match o.guard with
 |none=>some true
 |some (j,c)=>match(ops[j]?).bind (·.dst)with
  |some d=>match Nat.blt d 500 with
   |true=>match(σ d).av with
    |.v (.bool b)=>some (b==c)
    |.de []=>some false
    |_=>none
   |false=>none
  |none=>none
def Cc(o:Oper):L Mv:=match o.dst with|some d=>[.put d<|.de []]|none=>[]
def fQ(P:Program)(σ:St)(ops:Array Oper)(o:Oper)(res:Ask):Option (L Mv×L Ob):=
 match me σ ops o with
 |some true=>kZ P σ o res
 |some false=>some (Cc o,[])
 |none=>none
def pvK(r:cF):L Nat:=
 match r.sl.av with
 |.pv _=>[500]
 |_=>[]
def Kl(σ:St):Op->L Nat
 |.move (.tmp t)=>[t]
 |op=>op.operands.toList.flatMap<|uo σ
def Nb(ops:Array Oper)(o:Oper):L Nat:=match o.guard with
 |some (j,_)=>((ops[j]?).bind (·.dst)).toList
 |none=>[]
def Aa(σ:St)(ops:Array Oper)(o:Oper):L Nat:=
 Kl σ o.op++Nb ops o++(match o.op with
  |.call c=>match c.callee with
   |.value f=>pvK (resolve σ f)++(match c.args.toList with
     |x::_=>pvK (resolve σ x)
     |[]=>[])
   |_=>[]
  |.load _ x=>pvK (resolve σ x)
  |_=>[])
def Wb(σ:St)(o:Oper):Option Nat:=match o.op with
 |.call ⟨.builtin .append,b,_⟩=>match b.toList with
  |[.tmp t,_]=>match(σ t).av with
   |.bH r _ _ (.deref::.idx _ _::_)=>match(resolve σ<|.tmp t).cont with
    |some (.list .own _ _)=>match o.dst with
     |some d=>if d=r then none else some r
     |none=>none
    |_=>none
   |_=>none
  |_=>none
 |_=>none
def kJ(σ:St)(ops:Array Oper)(o:Oper):L Nat:=match yG σ o.op with
 |some (a,r)=>(if a=r then[]else[3*a])++(Nb ops o).map (3* ·)++[3*r+1]
 |none=>(Aa σ ops o).map (3* ·)++(match Wb σ o with
  |some r=>[3*r+2]
  |none=>[])
section
variable{P:Program}{N:Nat}{w0 w w':World}{V:Hid}{S S0 S':Nat->Prop}{B:Nat->Prop}{σ σ' τ:St}{a:Act}{F:Nat->L Nat}{K:Act->World->Prop}{Q:Exit->Act->World->Prop}{ops:Array Oper}{o:Oper}
def TD{res:AV}(h:∀x∈o.op.operands.toList,resolve τ x=resolve σ x):De P τ o res=De P σ o res:=by
 have m1:∀(l:L Operand),(∀x∈l,resolve τ x=resolve σ x)->l.map (resolve τ)=l.map (resolve σ):=λl hl=>af3 hl;have i:∀(l:Option Operand),(∀x∈l,resolve τ x=resolve σ x)->l.map (resolve τ)=l.map (resolve σ):=λl hl=>by cases l<;>simp_all
 cases g:o.dst with
 |none=>
  simp[De,g];cases cH:o.op<;>simp only[cH,Op.operands]at h⊢
  case store t a x=>simp_all
  case call c=>
   cases hc:c.callee<;>simp only[hc,Call.operands]at h⊢
   grind
 |some d=>
  simp[De,g];cases cH:o.op<;>simp only[cH,Op.operands]at h⊢
  case slice t x l hh m=>simp_all
  case makeFunc f p q=>grind
  case build t b=>simp at h;have:(b.toList.map λp=>resolve τ p.2)=b.toList.map λp=>resolve σ p.2:=af3 λp e=>h p.2 p.1 (b6);rw[this]
  case buildSlice t n b=>simp at h;have:(b.toList.map λp=>resolve τ p.2)=b.toList.map λp=>resolve σ p.2:=af3 λp e=>h p.2 p.1 (b6);rw[this]
  case call c=>
   cases hc:c.callee<;>simp only[hc,Call.operands]at h⊢
   grind
   grind
  all_goals(first|rfl|(simp at h;simp[h]))
def Cb:∀{xs:L Operand}{b:L Nat},slotsOf xs=some b->∀t∈b,Operand.tmp t∈xs
 |[],b,h,t,c=>by simp[slotsOf]at h;grind
 |.tmp u::xs,b,h,t,c=>by
  simp[slotsOf]at h;split at h<;>try(cases h;done)
  rename_i d e;cases h;rcases adb.1 c with rfl|c;simp;exact aiG _ (Cb e t c)
 |.const _::_,b,h,_,_=>fp
 |.func _::_,b,h,_,_=>fp
 |.global _::_,b,h,_,_=>fp
def Ly{a:Nat}(c:∀s∈roots σ a,τ s=σ s):uc τ a=uc σ a:=by
 have e:=c a (by unfold roots;grind);unfold uc;rw[e];cases b:(σ a).av with
 |bH r _ _ p=>have d:=c r (by unfold roots;grind);simp[d]
 |_=>rfl
def Lx{op:Op}(b:∀x∈op.operands.toList,∀s∈uo σ x,τ s=σ s):yG τ op=yG σ op:=by unfold yG;split;rename_i t a;exact Ly λs hs=>b (.tmp a) (by simp[Op.operands]) s hs;rfl
def TB{res:Ask}(u:∀x∈o.op.operands.toList,∀s∈uo σ x,τ s=σ s)(h:∀x∈o.op.operands.toList,resolve τ x=resolve σ x)(v:∀c f C,o.op=.call c->c.callee=.value f->(resolve σ f).sl.av=.pv C->τ 500=σ 500)
 (T:∀c f x xs C,o.op=.call c->c.callee=.value f->c.args.toList=x::xs->(resolve σ x).sl.av=.pv C->τ 500=σ 500)
 (R:∀t x C,o.op=.load t x->(resolve σ x).sl.av=.pv C->τ 500=σ 500):kZ P τ o res=kZ P σ o res:=by
 cases res with
 |Vv r=>simp only[kZ,TD h]
 |refs out r=>
  have m1:∀(l:L Operand),(∀x∈l,resolve τ x=resolve σ x)->l.map (resolve τ)=l.map (resolve σ):=λl hl=>af3 hl;simp only[kZ];cases cH:o.op<;>simp only[cH,Op.operands]at h⊢
  case call c=>
   cases hc:c.callee<;>simp only[hc,Call.operands]at h⊢
   grind
 |oC=>
  have A:∀(l:Option Operand),(∀x∈l,resolve τ x=resolve σ x)->l.map (resolve τ)=l.map (resolve σ):=λl hl=>by cases l<;>simp_all
  simp only[kZ];cases o.dst with
  |none=>rfl
  |some d=>cases cH:o.op<;>simp only[cH,Op.operands]at h⊢;simp_all
 |U0 J' b=>
  have m1:∀(l:L Operand),(∀x∈l,resolve τ x=resolve σ x)->l.map (resolve τ)=l.map (resolve σ):=λl hl=>af3 hl;simp only[kZ];cases cH:o.op<;>simp only[cH,Op.operands]at h⊢
  case call c=>
   cases hc:c.callee<;>simp only[hc,Call.operands]at h⊢
   case value f=>
    simp at h;rw[h.1,m1 c.args.toList<|by simpa using h.2]
    grind
 |mkc=>
  simp only[kZ];cases o.dst with
  |none=>rfl
  |some d=>
   cases cH:o.op<;>simp only[cH,Op.operands]at u⊢
   case makeFunc f p q=>
    cases f<;>simp only;cases p.toList<;>simp only;cases hs:slotsOf q.toList<;>simp only;rename_i g H;have:(H.map λt=>(t,(τ t).g1))=H.map λt=>(t,(σ t).g1):=af3 λt X=>by have:=Cb hs t X;rw[u (.tmp t) gn t<|by simp only[uo,roots];split<;>simp]
    rw[this]
 |ix out r=>
  simp only[kZ];cases cH:o.op<;>simp only[cH,Op.operands]at u h⊢
  case call c=>
   cases hc:c.callee<;>simp only[hc,Call.operands]at u h⊢
   case value f=>
    cases f with
    |tmp t=>
     have Y:τ t=σ t:=u (.tmp t) I t (by simp only[uo,roots];split<;>simp);simp only[Y];cases D:(σ t).av<;>simp only
     case ix g i=>
      have eq:∀q∈i,τ q.1=σ q.1:=λq J=>u (.tmp t) I q.1 (by simp only[uo,roots,D];grind);have Z:i.all (λq=>decide (q.1<500)&&(τ q.1).av.plain&&(τ q.1).g1==q.2)=i.all (λq=>decide (q.1<500)&&(σ q.1).av.plain&&(σ q.1).g1==q.2):=by grind
      rw[Z];split;rename_i z;simp only[afY,adS]at z;have m1:c.args.toList.map (resolve τ)=c.args.toList.map (resolve σ):=af3 λx n=>h x gn;have A:(i.map λq=>resolve τ<|.tmp q.1)=i.map λq=>resolve σ (.tmp q.1):=af3 λq J=>by
       refine resolve_congr _ λs hs=>?_;have j:=(z q J).1.2;have:s=q.1:=by simp only[uo,roots]at hs;split at hs;rename_i e;rw[e]at j;simp[AV.plain]at j;rename_i e;rw[e]at j;simp[AV.plain]at j;rename_i e;rw[e]at j;simp[AV.plain]at j;simpa using hs
       grind
      rw[m1,A];rfl;rfl
    |_=>rfl
 |WH J' r=>
  have m1:∀(l:L Operand),(∀x∈l,resolve τ x=resolve σ x)->l.map (resolve τ)=l.map (resolve σ):=λl hl=>af3 hl;simp only[kZ];cases cH:o.op<;>simp only[cH,Op.operands]at h⊢
  case call c=>
   cases hc:c.callee<;>simp only[hc,Call.operands]at h⊢
   case value f=>
    simp at h;cases m:c.args.toList with
    |nil=>rfl
    |cons x xs=>
     have n:∀y∈x::xs,resolve τ y=resolve σ y:=λy v=>h.2 y (by grind);simp only[h.1,n x I,m1 xs λy v=>n y<|by simp[v]]
     grind
 |V9 k r=>
  have m1:∀(l:L Operand),(∀x∈l,resolve τ x=resolve σ x)->l.map (resolve τ)=l.map (resolve σ):=λl hl=>af3 hl;simp only[kZ];cases cH:o.op<;>simp only[cH,Op.operands]at h⊢
  case call c=>
   cases hc:c.callee<;>simp only[hc,Call.operands]at h⊢
   case value f=>
    simp at h;cases m:pick k c.args.toList with
    |none=>rfl
    |some q=>let⟨x,xs⟩:=q;let⟨O,M⟩:=EA m;have n:∀y∈c.args.toList,resolve τ y=resolve σ y:=λy v=>h.2 y (by grind);simp only[h.1,n x O,m1 xs λy v=>n y<|M y v]
 |lK y=>
  simp only[kZ];cases cH:o.op<;>simp only[cH,Op.operands]at h⊢
  case call c=>
   cases hc:c.callee<;>simp only[hc,Call.operands]at h⊢
   case builtin b=>split;rename_i x n;rw[h x<|by simp[<-Array.mem_toList_iff,n]];rfl
 |W2 y=>
  simp only[kZ];cases cH:o.op<;>simp only[cH,Op.operands]at h⊢
  grind
 |ext out r=>
  have m1:o.op.operands.toList.map (resolve τ)=o.op.operands.toList.map (resolve σ):=af3 h;have A:wX τ o.op=wX σ o.op:=by unfold wX;rw[Lx u]
  simp only[kZ,m1,A]
 |Z8 y=>simp only[kZ];cases cH:o.op<;>simp only[cH,Op.operands]at h⊢;simp_all
def J0{t d:Nat}(h:τ t=σ t):dL d (resolve τ<|.tmp t)=dL d (resolve σ<|.tmp t):=by simp[resolve,cF.of,h];cases(σ t).av<;>rfl
def Wp{res:Ask}{t:Nat}(b:o.op=.move (.tmp t))(h:τ t=σ t):kZ P τ o res=kZ P σ o res:=by
 have e:∀d,dL d _=dL d _:=λd=>J0 h;cases res with
 |Vv r=>simp[kZ,De,b];grind
 |ext out r=>simp[kZ,b,wX,RQ]
 |_=>simp[kZ,b]
def B1(h:∀s∈Nb ops o,τ s=σ s):me τ ops o=me σ ops o:=by
 unfold me;split;rfl;rename_i j _ b;cases c:(ops[j]?).bind _ with
 |none=>rfl
 |some d=>simp only;rw[h d<|by unfold Nb;grind]
def JO{res:Ask}(h:∀s∈Aa σ ops o,τ s=σ s):fQ P τ ops o res=fQ P σ ops o res:=by
 have j:kZ P τ o res=kZ P σ o res:=by
  by_cases hm:∃t,o.op=.move (.tmp t);let⟨t,g⟩:=hm;exact Wp g<|h t<|by unfold Aa;rw[g];simp[Kl]
  have m:Kl σ o.op=o.op.operands.toList.flatMap (uo σ):=by unfold Kl;simp_all
  exact TB (λx i s hs=>h s (by
   unfold Aa;grind)) (λx i=>resolve_congr x λs hs=>h s (by
   unfold Aa;grind)) (λc f C d b e=>h _ (by
   unfold Aa;rw[d];simp[b,pvK,e])) (λc f x l C d b e k=>h _ (by
   unfold Aa;rw[d];simp[b,pvK,e,k])) (λt x C d b=>h _ (by
   unfold Aa;rw[d];simp[pvK,b]))
 unfold fQ;rw[B1 λs hs=>h s<|by unfold Aa;simp_all,j]
def Mc{x:AV}(h:Pe x=true):∃o sz xs,x=.box o (.list .own sz xs):=by
 unfold Pe at h
 grind
def RL{x y:Sl}{o:Bool}{sz:Nat}{xs:L AV}(b:x.av=.box o (.list .own sz xs))(h:wF y=wF x):(∃ys,y.av=.box o (.list .own sz ys))/\y.g1=x.g1/\y.g2=x.g2:=by
 unfold wF at h
 grind
def xV{d t a r:Nat}(hs:uc σ a=some (a,r))(y:a≠r->τ a=σ a)(s:wF (τ r)=wF (σ r)):vh P d t (resolve τ<|.tmp a)=vh P d t (resolve σ<|.tmp a)/\uc τ a=some (a,r):=by
 have j:∀(ti:TI)(f:Fl)(sz:Nat)(c b:L AV),fits ti (.list f sz c)=fits ti (.list f sz b):=λ_ _ _ _ _=>rfl;unfold uc at hs;split at hs;rename_i v g1 g2 p k;split at hs;rename_i hc;obtain⟨rfl,q,u⟩:=hc;simp[true_and]at hs;subst hs;let⟨o,sz,c,g⟩:=Mc q;let⟨⟨b,e⟩,l,m⟩:=RL g s;have i:a≠v:=by grind
 have h:=y i;constructor;unfold vh;cases n:cC P t with
 |none=>rfl
 |some ti=>simp[resolve,cF.of,h,k,cF.addr,cF.cont,g,e,l,m,u,SO,bM,Be,AV.plain,AV.aK,AV.cell,j ti _ sz b c,if_true]
 ·unfold uc;rw[h,k];simp[e,l,u,Pe,if_true]
 cases hs;split at hs;rename_i q;simp[true_and]at hs;subst hs;let⟨o,sz,c,g⟩:=Mc q;let⟨⟨b,e⟩,l,m⟩:=RL g s;constructor;unfold vh;cases n:cC P t with
 |none=>rfl
 |some ti=>simp[resolve,cF.of,g,e,cF.addr,l,m,bM,AV.aK,AV.cell,j ti _ sz b c,if_true]
 ·unfold uc;rw[e];simp[Pe]
 cases hs
def L7{res:Ask}(l:∀s,3*s∈kJ σ ops o->τ s=σ s)(x:∀r,3*r+1∈kJ σ ops o->wF (τ r)=wF (σ r)):fQ P τ ops o res=fQ P σ ops o res:=by
 cases hs:yG σ o.op with
 |none=>
  refine JO λs i=>l s ?_;unfold kJ
  grind
 |some q=>
  let⟨a,r⟩:=q;have v:kJ σ ops o=(if a=r then[]else[3*a])++(Nb ops o).map (3* ·)++[3*r+1]:=by unfold kJ;rw[hs]
  have h:=hs;unfold yG at hs;split at hs;rename_i t b cH;have e:b=a:=by
   unfold uc at hs
   grind
  subst e;have k:b≠r->τ b=σ b:=λu=>l b gn;have j:=x r (by rw[v];simp);have p:me τ ops o=me σ ops o:=B1 λs i=>l s (by grind);have n:kZ P τ o res=kZ P σ o res:=by
   cases res with
   |Vv m=>
    simp[kZ,De,cH];cases o.dst with
    |none=>rfl
    |some d=>simp[(xV (P:=P) (d:=d) (t:=t) hs k j).1]
   |ext out m=>
    have k1:wX σ o.op=false:=by unfold wX;rw[h];split<;>rfl
    have k2:yG τ o.op=some (b,r):=by rw[cH];exact(xV (P:=P) (d:=0) (t:=t) hs k j).2
    have k3:wX τ o.op=false:=by unfold wX;rw[k2];split<;>rfl
    simp only[kZ,k1,k3];rfl
   |W2 y=>
    have gen:∀f:St,uc f b=some (b,r)->kZ P f o (.W2 y)=none:=by
     intro f c;have hn:∀C,(resolve f<|.tmp b).sl.av≠.pv C:=by
      intro C g;have e:(f b).av=.pv C:=by simp[resolve,cF.of]at g;split at g<;>first|exact g|(simp[Sl.none]at g)
      unfold uc at c;rw[e]at c;simp[Pe]at c
     simp[kZ,cH]
    rw[gen σ hs,gen τ (xV (P:=P) (d:=0) (t:=t) hs k j).2]
   |_=>simp[kZ,cH]
  unfold fQ;rw[p,n];cases hs
def N9{d t r g1 g2:Nat}{p:Path}{x y:cF}{b:L Mv}{sz:Nat}{xs:L AV}(h:mP P d t x y=some b)(e:x.sl.av=.bH r g1 g2 p)(hc:x.cont=some (.list .own sz xs)):
 ∃c z,b=[.take r d p,.make (d::c) d z]/\r∉c:=by
 unfold mP at h;simp_all
 split at h<;>try(cases h)
 grind
def VH{i sz:Nat}{p:Path}{h x av:AV}(hs:fH x (.deref::.idx i sz::p) h=some av):∃xs ys,x=.box true (.list .own sz xs)/\av=.box true (.list .own sz ys):=by
 cases x with
 |box o X=>
  cases o with
  |false=>simp[fH]at hs
  |true=>
   simp[fH]at hs;obtain⟨d,b,rfl⟩:=hs;cases X with
   |list f c xs=>
    cases f with
    |own=>
     simp only at b;split at b;simp[abZ]at b
     grind
     cases b
    |_=>cases b
   |_=>simp at b
 |_=>simp[fH]at hs
def SQ{r d i sz:Nat}{p:Path}{M:L Nat}{z:AV}(b:d≠r)(s:r∉M)(c:Mv.runs σ [.take r d<|.deref::.idx i sz::p,.make (d::M) d z]=some σ'):wF (σ' r)=wF (σ r):=by
 simp[Mv.runs,Mv.run]at c;rw[abl b]at c;split at c<;>try(cases c;done)
 rename_i g f;split at f<;>try(cases f)
 rename_i y q;split at f<;>try(cases f;done)
 rename_i av hs;simp at f c;subst f;subst c;have l:made (jg (jg σ r<|mh (σ r) (.deref::.idx i sz::p) av) d ⟨y,(σ d).g1+1,(σ d).g2⟩) (d::M) d z r=mh (σ r) (.deref::.idx i sz::p) av:=by
  have j:r∉d::M:=by grind
  simp[made,j];rw[abl λe=>b e.symm,ar _ _ λe=>b e.symm,aG]
 rw[l];have k:mh _ (.deref::.idx i sz::p) av=⟨av,(σ r).g1,(σ r).g2⟩:=gq;rw[k];obtain⟨n,m,h,rfl⟩:=VH hs;unfold wF;rw[h]
def ZH{res:Ask}{r:Nat}{j:L Mv}{lK:L Ob}(b:Wb σ o=some r)(hm:fQ P σ ops o res=some (j,lK))(m:Mv.runs σ j=some σ'):wF (σ' r)=wF (σ r):=by
 unfold Wb at b;split at b<;>try(cases b)
 rename_i A C cH;split at b<;>try(cases b)
 rename_i t y f;split at b<;>try(cases b)
 rename_i x g1 g2 i sz p u;split at b<;>try(cases b)
 rename_i D M hc;split at b<;>try(cases b)
 rename_i d s;split at b<;>try(cases b;done)
 rename_i h;simp at b;subst b;unfold fQ at hm;split at hm<;>try(cases hm;done)
 have n:∃v z,j=[.take x d<|.deref::.idx i sz::p,.make (d::v) d z]/\x∉v:=by
  cases res with
  |Vv q=>
   simp[kZ,De,s,cH,f]at hm;cases c:l8 P d _ _ [resolve σ _,resolve σ y]with
   |none=>rw[c]at hm;simp[ie]at hm
   |some H=>
    rw[c]at hm;obtain⟨rfl,-⟩:=hm;cases g:C.toList with
    |nil=>rw[g]at c;simp[l8]at c
    |cons R l=>
     cases l with
     |nil=>rw[g]at c;simp[l8]at c
     |cons O l=>
      cases l with
      |cons _ _=>rw[g]at c;simp[l8]at c
      |nil=>
       rw[g]at c;simp[l8]at c;split at c<;>try(cases c)
       exact N9 (g1:=g1) (g2:=g2) c (by simp[resolve,cF.of,u]) hc
  |ext out q=>
   have k:wX σ o.op=false:=by unfold wX RQ;rw[cH];simp
   simp[kZ,k]at hm
  |lK q=>simp[kZ,cH,f]at hm
  |_=>simp[kZ,cH,s]at hm
 obtain⟨v,z,rfl,J⟩:=n;exact SQ h J m;cases hm;simp[Cc,s,Mv.cQ]at m;subst m;rw[ar _ _ λe=>h e.symm]
def BZ(h:aT S B σ (tv V a) w F){b:Bool}(i:me σ ops o=some b):Region.wanted o (yielded ops a.tmps)=b:=by
 unfold me at i;unfold Region.wanted;split at i;simp_all;rename_i j _ n;rw[n];split at i;rename_i d q;unfold yielded;have l:=h.rel d;split at i<;>try(cases i)
 rename_i g;have g:=af4<|g;split at i;rename_i p c;rw[an.aC<|by rw[c];rfl,c]at l;have f:=l.2.1;have:a.tmps[d]?=some (.bool p):=by rw[yC V a<|.inl g]at f;by_cases k:d<a.tmps.size;simp_all;simp[k,undef]at f
 simp_all;rename_i c;rw[an.aC<|by rw[c];rfl,c]at l;obtain⟨r,e,m,-⟩:=l;have f:tv V a d=.tuple #[]:=by rw[e];simpa using m
 rw[yC V a<|.inl g]at f;by_cases k:d<a.tmps.size;simp_all;simp_all;cases i;cases i
def Ey(l:lW P V w0)(h:Inv N V w0 S0 σ a w)(c:ni N o=true){res:Ask}{j:L Mv}{lK:L Ob}(hm:fQ P σ ops o res=some (j,lK))(b:Mv.runs σ j=some σ')
 (hs:∀o∈lK,o.ok P)(i:∀k w',Inv N V w0 S0 σ' k w'->K k w'):
 if Region.wanted o (yielded ops a.tmps)then Oper.UT V.rd P o a w K Q else K (a.put o.dst undef) w:=by
 obtain⟨S,F,hc,-⟩:=id h;unfold fQ at hm;split at hm;rename_i e;rw[BZ hc e];exact TA l h o c hm b hs i;rename_i e;rw[BZ hc e];cases hm;unfold Cc at b;split at b;rename_i d g;rw[g];have f:d<N:=by unfold ni at c;grind
 simp[Mv.cQ]at b;subst b;exact i _ _ (h.jJ f λS F _=>by simp[Rel,Cells,undef]);rename_i g;rw[g];simp[Mv.runs]at b;subst b;exact i _ _ h;cases hm
end
section
variable{a:Act}{V:Hid}{N:Nat}{S0:Nat->Prop}{σ:St}{w w0:World}
def Marks(_V:Hid)(w0 w:World)(S:Nat->Prop)(F:Nat->L Nat)(b:L Deferred):Prop:=b.Nodup/\∀d∈b,∃D,d={target:=.collected D,args:=#[]}/\w.heap[D]?=some (.deferred<|some [])/\w0.heap.size<=D/\¬S D/\∀i,D∉F i
def ma(N:Nat)(V:Hid)(w0:World)(S0:Nat->Prop)(σ:St)(a:Act)(w:World):Prop:=∃S F c,aT S (c6 V w0) σ (tv V a) w F/\a.tmps.size=N/\a.defers=c++V.df/\(∀b,S0 b->S b)/\(∀b,S b->S0 b\/c6 V w0 b)/\mQ V w0 w/\Marks V w0 w S F c
def Inv.x(h:Inv N V w0 S0 σ a w):ma N V w0 S0 σ a w:=by let⟨S,F,g,f,e,d,c,b⟩:=h;exact⟨S,F,[],g,f,e,d,c,b,aee,I⟩
def R0:Q Nat->Prop:=λr=>r=none
def R1:Q Nat->Prop:=λ_=>True
def AW(R:Option Nat->Prop)(P:Program)(N:Nat)(c:Code)(Q:Exit->St->Prop)(σ:St):Prop:=∀(V:Hid)(w0:World)(S0:Nat->Prop)(a:Act)(w:World),R V.rd/\lW P V w0->Inv N V w0 S0 σ a w->c.wpIn (FW V.rd) 0 P (λe b w'=>∃σ',Q e σ'/\ma N V w0 S0 σ' b w') a w
def Hid.Yi(V:Hid)(F:Nat->L Nat)(c:L Deferred):Hid:={v:=V.v,g:=λb=>∃i,b∈F i,rd:=V.rd,df:=c}
def AW.x{R:Option Nat->Prop}{P:Program}{c:Code}{Q:Exit->St->Prop}(h:AW R P N c Q σ)(z:R V.rd/\lW P V w0)(hi:ma N V w0 S0 σ a w):
 c.wpIn (FW V.rd) 0 P (λe M w'=>∃σ',Q e σ'/\ma N V w0 S0 σ' M w') a w:=by
 let⟨S,F,q,hc,hN,y,t,A0,j,E1,hm⟩:=hi;have m:=j.size;have n:∀b,c6 (V.Yi F<|q++V.df) w b->c6 V w0 b:=by rintro b(f|⟨i,f⟩);exact .inl<|ab7 m f;exact(hc.own i b f).1
 have v:∀d∈q,∀D,d={target:=.collected D,args:=#[]}->D<w.heap.size/\¬S D/\(∀i,D∉F i)/\w.heap[D]?=some (.deferred<|some [])/\w0.heap.size<=D:=by grind
 have u:∀D,D<w.heap.size->(∀i,D∉F i)->¬c6 (V.Yi F<|q++V.df) w D:=by rintro D h1 h3(f|⟨i,f⟩);omega;exact h3 i f
 refine wpIn_mono (h (V.Yi F<|q++V.df) w S a w ⟨z.1,z.2.MN j,z.2.c6.mono λb⟨i,f⟩=>(hc.own i b f).1⟩ ⟨S,F,⟨hc.rel,hc.nodup,hc.dz,λi b f=>⟨.inr ⟨i,f⟩,(hc.own i b f).2⟩,hc.shr⟩,hN,y,λ_ h=>h,λ_ h=>.inl h,mQ.refl _ _⟩) ?_;rintro e M w'⟨σ',hq,S',F',A,l,kN,s,r,Y,g,Z,km⟩;refine⟨σ',hq,S',F',A++q,⟨l.rel,l.nodup,l.dz,λi b f=>⟨n b (l.own i b f).1,(l.own i b f).2⟩,l.shr⟩,kN,by rw[s,aen];rfl,λb f=>r b<|t b f,λb f=>?_,?_,?_,?_⟩
 grind
 refine⟨g.os.trans j.os,g.tape.trans j.tape,g.output.trans j.output,ab7 m g.size,λk H J=>?_⟩;rw[g.block k (aey H m) ?_];exact j.block k H J;rintro⟨i,f⟩;rcases(hc.own i k f).1 with h|h;omega;exact J h
 grind
 intro d p;rcases aeM.1 p with p|p
 grind
 obtain⟨D,K,-⟩:=hm d p;let⟨C,l3,X,T,O⟩:=v d p D K;have hn:=u D C X;refine⟨D,K,?_,O,λh=>?_,λi h=>hn (l.own i D h).1⟩;rw[g.block D C λh=>hn<|.inr h];exact T
 grind
def aa9(P:Program)(ops:Array Oper):L Oper->St->(St->Prop)->Prop
 |[],σ,K=>K σ
 |o::rest,σ,K=>∃res b lK σ',fQ P σ ops o res=some (b,lK)/\(∀ob∈lK,ob.ok P)/\Mv.runs σ b=some σ'/\aa9 P ops rest σ' K
def vT(P:Program)(ops:Array Oper):L Oper->St->L (L Nat×L Nat)->(L (L Nat×L Nat)->St->Prop)->Prop
 |[],σ,b,K=>K b.reverse σ
 |o::rest,σ,b,K=>∃res c lK σ',fQ P σ ops o res=some (c,lK)/\(∀ob∈lK,ob.ok P)/\Mv.runs σ c=some σ'/\
   vT P ops rest σ' ((kJ σ ops o,bA c)::b) K
def ET(b:L Nat)(o:Oper):Nat:=o.after.toList.foldl (λm e=>if Region.binds .any e then m|||(b.getD e.on 0)|||(1<<<e.on)else m) 0
def ve:L Oper->L Nat->L Nat
 |[],b=>b
 |o::rest,b=>ve rest<|b++[ET b o]
def indep(x y:L Nat×L Nat):Bool:=(x.2.all λs=> !y.1.contains (3*s)&& !y.2.contains s&&(!y.1.contains (3*s+1)||x.1.contains (3*s+2)))&&(y.2.all λs=> !x.1.contains (3*s)&&(!x.1.contains (3*s+1)||y.1.contains (3*s+2)))
def lower(ops:L Oper):Bool:=(List.range ops.length).all λj=>((ops[j]?).map λo=>o.after.toList.all λe=> !Region.binds .any e||decide (e.on<j)).getD true
def apart(c:L Nat)(b:L (L Nat×L Nat))(n:Nat):Bool:=(List.range n).all λj=>(List.range j).all λi=>(c.getD j 0).testBit i||indep (b.getD i ([],[])) (b.getD j ([],[]))
end
section
variable{R:Q Nat->Prop}{P:Program}{N:Nat}{w0 w w':World}{V:Hid}{S S0 S':Nat->Prop}{B:Nat->Prop}{σ σ' τ:St}{a:Act}{F:Nat->L Nat}{ops:Array Oper}{o:Oper}
def Hl{id:Nat}{K:St->Prop}(i:ops.toList.all (ni N)=true)(h:aa9 P ops ops.toList σ K):AW R P N (.region id ops false) (λe σ'=>e=.normal/\K σ') σ:=by
 intro V w0 S0 a w j _;refine wpIn_region_list ?_;have:∀(l:List _)(σ:St)(a:Act)(w:World),l.all (ni N)=true->aa9 P ops l σ K->Inv N V w0 S0 σ a w->
  wpListIn (FW V.rd) 0 P ops (λe b w'=>∃σ',(e=.normal/\K σ')/\ma N V w0 S0 σ' b w') l a w:=by
  intro l
  induction l with
  |nil=>intro σ a w _ hs hi;exact⟨σ,⟨W,hs⟩,hi.x⟩
  |cons o l g=>intro σ a w f hs hi;simp only[af5,adS]at f;let⟨res,q,lK,σ',p,n,m,k⟩:=hs;have:=Ey (Q:=λe b w'=>∃σ',(e=.normal/\K σ')/\ma N V w0 S0 σ' b w') j.2 hi f.1 p m n λb w' d=>g σ' b w' f.2 k d;unfold wpListIn;split;rename_i c;rwa[abx c]at this;rename_i c;rw[abl c]at this;exact⟨λ_ _=>trivial,this⟩
 grind
def vT.spec:∀(l:L Oper)(σ:St)(d:L (L Nat×L Nat))(K:L (L Nat×L Nat)->St->Prop),vT P ops l σ d K->
 ∃(b:Nat->St)(rs:Nat->Ask)(c:Nat->L Mv)(lK:Nat->L Ob)(R:L (L Nat×L Nat)),b 0=σ/\R.length=l.length/\K (d.reverse++R) (b l.length)/\
  ∀k o,l[k]?=some o->fQ P (b k) ops o (rs k)=some (c k,lK k)/\(∀ob∈lK k,ob.ok P)/\Mv.runs (b k) (c k)=some (b<|k+1)/\R[k]?=some (kJ (b k) ops o,bA<|c k)
 |[],σ,d,K,h=>⟨λ_=>σ,λ_=>.Vv .dead,λ_=>[],λ_=>[],[],W,W,by simpa[vT]using h,I⟩
 |o::l,σ,d,K,h=>by
  let⟨res,e,ob,σ',n,m,j,f⟩:=h;let⟨b,rs,c,lK,R,q,i,g,p⟩:=vT.spec l σ' _ K f;refine⟨λk=>match k with|0=>σ|k+1=>b k,λk=>match k with|0=>res|k+1=>rs k,λk=>match k with|0=>e|k+1=>c k,λk=>match k with|0=>ob|k+1=>lK k,(kJ σ ops o,bA e)::R,W,by simp[i],eT,?_⟩
  grind
def zN:∀(l:L Oper)(b:L Nat),∃r,ve l b=b++r/\r.length=l.length
 |[],b=>⟨[],by simp[ve],W⟩
 |o::l,b=>by let⟨r,d,c⟩:=zN l<|b++[ET b o];exact⟨ET b o::r,by simp[ve,d],by simp[c]⟩
def Iq:∀(l:L Oper)(b:L Nat)(k:Nat)(o:Oper),l[k]?=some o->(ve l b)[b.length+k]?=some (ET ((ve l b).take<|b.length+k) o)
 |[],b,k,o,h=>by cases h
 |o::l,b,0,o',h=>by simp at h;subst h;let⟨r,c,d⟩:=zN l<|b++[ET b o];simp[ve,c]
 |o::l,b,k+1,o',h=>by have:=Iq l (b++[ET b o]) k _ h;simp at this;rwa[show b.length+(k+1)=b.length+1+k from E]
def TW{b:L Nat}{i:Nat}(h:(ET b o).testBit i=true):∃e∈o.after,Region.binds .any e=true/\(i=e.on\/(b.getD e.on 0).testBit i=true):=by
 have gen:∀(l:List _)(m:Nat),(l.foldl (λm e=>if Region.binds .any e then m|||(b.getD e.on 0)|||(1<<<e.on)else m) m).testBit i=true->
  m.testBit i=true\/∃e∈l,Region.binds .any e=true/\(i=e.on\/(b.getD e.on 0).testBit i=true):=by
  intro l
  induction l with
  |nil=>grind
  |cons e l c=>
   intro m h;rw[agf]at h;rcases c _ h with h|⟨j,g,f⟩;split at h;rename_i d;rw[Nat.testBit_or,Nat.testBit_or,aiD,aiD]at h;rcases h with(h|h)|h;exact .inl h;simp_all;rw[Nat.one_shiftLeft,Nat.testBit_two_pow]at h;simp_all;exact .inl h
   grind
 rcases gen _ 0 h with h|⟨e,g,f⟩;simp at h
 grind
def mD{l:List Oper}{L:Nat->Prop}(q:∀j o,L j->l[j]?=some o->∀e∈o.after,Region.binds .any e=true->L e.on):
 ∀(j:Nat)(o:Oper),l[j]?=some o->(∀e∈o.after,Region.binds .any e=true->L e.on)->∀i,((ve l []).getD j 0).testBit i=true->L i:=by
 intro j
 induction j using Nat.strongRecOn with
 |ind j m=>intro o h n i hi;have k:=Iq l [] j o h;simp at k;rw[ad8,k]at hi;let⟨e,s,r,c⟩:=TW hi;rcases c with rfl|c;simp_all;rw[ad8,ah6]at c;split at c;rename_i d;have p:=(aij.1 h).1;have b:e.on<l.length:=E;refine m _ d _ (ad7 b) (λt f g=>q _ _ (n e s r) (ad7 b) t f g) i ?_;simp_all;simp at c
end
section
variable{R:Q Nat->Prop}{P:Program}{N:Nat}{w0 w w':World}{V:Hid}{S S0 S':Nat->Prop}{σ σ' τ:St}{a:Act}{ops:Array Oper}{o:Oper}
section
variable{j n s:Nat}{L:Nat->Bool}{mss:Nat->List Mv}
def merge(b:Nat->St)(mss:Nat->List Mv)(L:Nat->Bool)(s:Nat):Nat->Sl
 |0=>b 0 s
 |k+1=>if L k=true/\s∈bA (mss k)then b (k+1) s else merge b mss L s k
def ER{b:Nat->St}(e:∀k,k<n->Mv.runs (b k) (mss k)=some (b<|k+1))(g:j<=n)
 (h:∀i,i<n->s∈bA (mss i)->(i<j->L i=true)/\(j<=i->L i=false)):merge b mss L s n=b j s:=by
 have m:∀k,k<=j->merge b mss L s k=b k s:=by
  intro k
  induction k with
  |zero=>intro _;rfl
  |succ k d=>
   intro f;unfold merge;by_cases hs:s∈bA (mss k)
   grind
   rw[abl λhh=>hs hh.2,d E,xI (e k E) hs]
 have l:∀k,j<=k->k<=n->merge b mss L s k=b j s:=by
  intro k
  induction k with
  |zero=>simp_all
  |succ k d=>
   by_cases c:j=k+1;simp_all;unfold merge
   grind
 simp_all
def Im{b:Nat->St}{mss:Nat->List Mv}{L c:Nat->Bool}{s:Nat}{j:Nat}(d:∀i,i≠j->c i=L i)(hs:s∉bA (mss j)):∀n,merge b mss c s n=merge b mss L s n
 |0=>rfl
 |n+1=>by
  unfold merge;rw[Im d hs n]
  grind
def Pv{c:Nat->St}(f:∀k,k<n->Mv.runs (c k) (mss k)=some (c<|k+1))(m:j<=n)
 (h:∀i,i<n->s∈bA (mss i)->((i<j->L i=true)/\(j<=i->L i=false))\/wF (c (i+1) s)=wF (c i s))
 (l:∀i k,i<k->k<n->s∈bA (mss i)->s∈bA (mss k)->L k=true->L i=true):wF (merge c mss L s n)=wF (c j s):=by
 have r:∀k,k<=j->wF (merge c mss L s k)=wF (c k s):=by
  intro k
  induction k with
  |zero=>intro _;rfl
  |succ k e=>
   intro g;unfold merge;by_cases hc:L k=true/\s∈bA (mss k);rw[abx hc];rw[abl hc,e E];by_cases hs:s∈bA (mss k)
   grind
   rw[xI (f k E) hs]
 have p:∀k,j<=k->k<=n->(∀i,j<=i->i<k->s∈bA (mss i)->wF (c (i+1) s)=wF (c i s))->wF (c k s)=wF (c j s):=by
  intro k
  induction k with
  |zero=>simp_all
  |succ k e=>
   intro g hn hh;by_cases d:j=k+1;subst d;rfl;rw[<-e E E λi a b=>hh i a E];by_cases hs:s∈bA (mss k)
   grind
   rw[xI (f k E) hs]
 have q:∀k,j<=k->k<=n->wF (merge c mss L s k)=wF (c j s):=by
  intro k
  induction k with
  |zero=>simp_all
  |succ k e=>
   intro g hn;by_cases d:j=k+1;subst d;simp_all;unfold merge
   grind
 simp_all
def PI{x y:List Nat×List Nat}(h:indep x y=true):(∀s∈x.2,3*s∉y.1/\s∉y.2/\(3*s+1∈y.1->3*s+2∈x.1))/\∀s∈y.2,3*s∉x.1/\(3*s+1∈x.1->3*s+2∈y.1):=by
 unfold indep at h
 grind
def IG{P:Program}{σ σ':St}{ops:Array Oper}{o:Oper}{res:Ask}{b:List Mv}{lK:List Ob}(h:3*s+2∈kJ σ ops o)(hm:fQ P σ ops o res=some (b,lK))(c:Mv.runs σ b=some σ'):wF (σ' s)=wF (σ s):=by
 unfold kJ at h;split at h
 grind
 simp at h;rcases h with⟨x,_,h⟩|h;omega;split at h;rename_i r d;simp at h;have:s=r:=E;subst this;exact ZH d hm c;cases h
structure Told(P:Program)(N:Nat)(ops:Array Oper)(σs:Nat->St)(mss:Nat->List Mv):Prop where
 flat:∀(k:Nat)(o:Oper),ops[k]?=some o->ni N o=true
 step:∀(k:Nat)(o:Oper),ops[k]?=some o->Mv.runs (σs k) (mss k)=some (σs<|k+1)/\∃res lK,fQ P (σs k) ops o res=some (mss k,lK)/\∀ob∈lK,ob.ok P
 low:∀(k:Nat)(o:Oper),ops[k]?=some o->∀e∈o.after,Region.binds .any e=true->e.on<k
 ord:∀(i j:Nat)(oi oj:Oper),i<j->ops[i]?=some oi->ops[j]?=some oj->((ve ops.toList []).getD j 0).testBit i=true\/
  ((∀s∈bA (mss i),3*s∉kJ (σs j) ops oj/\s∉bA (mss j)/\(3*s+1∈kJ (σs j) ops oj->wF (σs (i+1) s)=wF (σs i s)))/\∀s∈bA (mss j),3*s∉kJ (σs i) ops oi/\(3*s+1∈kJ (σs i) ops oi->wF (σs (j+1) s)=wF (σs j s)))
def Ot{c:Nat->St}(hG:lW P V w0)(T:Told P N ops c mss){Q:Exit->Act->World->Prop}(hQ:∀a w,Inv N V w0 S0 (c ops.size) a w->Q .normal a w):
 ∀(g:Nat)(b:Array Bool)(f:List Nat)(τ:St)(a:Act)(w:World),b.size=ops.size->f.length<=g->f.Nodup->(∀i,i<ops.size->b.getD i true=false->i∈f)->
  (∀(j:Nat)(o:Oper),b.getD j false=true->ops[j]?=some o->∀e∈o.after,Region.binds .any e=true->b.getD e.on false=true)->
  (∀s,τ s=merge c mss (λi=>b.getD i false) s ops.size)->Inv N V w0 S0 τ a w->wpAnyIn (FW V.rd) 0 P .any ops Q g b a w:=by
 have hr:∀k,k<ops.size->Mv.runs (c k) (mss k)=some (c<|k+1):=λk H=>(T.step k _<|agd H).1;have t:∀(b:Array Bool)(τ:St)(a:Act)(w:World),b.size=ops.size->(∀s,τ s=merge c mss (λi=>b.getD i false) s ops.size)->Inv N V w0 S0 τ a w->
  Region.ready .any ops b=[]->Q .normal a w:=by
  intro b τ a w q l hi C;have Z:∀i,i<ops.size->b.getD i false=true:=by
   intro i
   induction i using Nat.strongRecOn with
   |ind i ih=>
    intro m;cases hl:b.getD i false with
    |true=>rfl
    |false=>
     have:i∈Region.ready .any ops b:=mem_ready.2 ⟨?_,ops[i],agd m,λe he A=>?_⟩;simp_all;simp_all;have:=T.low i _ (agd m) e he A
     grind
  refine hQ a w ?_;have:τ=c ops.size:=funext λs=>by rw[l s,ER hr (abY _) λi hi _=>⟨λ_=>Z i hi,λh=>E⟩]
  rw[<-this];exact hi
 intro g
 induction g with
 |zero=>
  intro b f τ a w q O M B u l hi;have C:Region.ready .any ops b=[]:=by
   cases hh:Region.ready .any ops b with
   |nil=>rfl
   |cons j _=>
    have:j∈Region.ready .any ops b:=by rw[hh];simp
    obtain⟨h1,o,h2,-⟩:=mem_ready.1 this
    grind
  exact⟨C,t b τ a w q l hi C⟩
 |succ g ih=>
  intro b f τ a w q O M B u l hi;refine⟨t b τ a w q l hi,λj hj=>?_⟩;let⟨hl,o,v,z⟩:=mem_ready.1 hj;have G0:j<ops.size:=(ahP.1 v).1;have G2:b.getD j false=false:=gn;have p:∀(k:Nat)(o:Oper),b.getD k false=true->ops.toList[k]?=some o->∀e∈o.after,Region.binds .any e=true->b.getD e.on false=true:=λk o h1 h2=>u k o h1 (by simpa using h2)
  have E1:∀s,3*s∈kJ (c j) ops o\/s∈bA (mss j)->∀i,i<ops.size->i≠j->s∈bA (mss i)->(i<j->b.getD i false=true)/\(j<=i->b.getD i false=false):=by
   intro s hs i d r H;refine⟨λm=>?_,λG3=>?_⟩;rcases T.ord i j _ o m (agd d) v with h|⟨h,-⟩;exact mD (L:=λk=>b.getD k false=true) p j o (by simpa using v) z i h;simp_all;have m:j<i:=E;rcases T.ord j i o _ m v (agd d)with h|⟨h1,h2⟩;cases F:b.getD i false with
   |false=>rfl
   |true=>have:=mD (L:=λk=>b.getD k false=true) p i _ I (λe he A=>u i _ F (agd d) e he A) j h;simp_all
   simp_all
  have A0:∀s,3*s∈kJ (c j) ops o\/s∈bA (mss j)->τ s=c j s:=by
   intro s hs;rw[l s];refine ER hr E λi d H=>?_
   grind
  have F3:∀s,3*s+1∈kJ (c j) ops o->wF (τ s)=wF (c j s):=by
   intro s hs;rw[l s];refine Pv hr E (λi d H=>?_) λi k F2 X H2 G4 F1=>?_;by_cases r:i=j;simp_all;by_cases m:i<j;rcases T.ord i j _ o m (agd d) v with h|⟨h,-⟩;exact .inl ⟨λ_=>mD (L:=λk=>b.getD k false=true) p j o (by simpa using v) z i h,λh=>E⟩;simp_all;rcases T.ord j i o _ E v (agd d)with h|⟨-,h⟩;refine .inl ⟨λh=>E,λ_=>?_⟩;cases F:b.getD i false with
   |false=>rfl
   |true=>have:=mD (L:=λk=>b.getD k false=true) p i _ I (λe he A=>u i _ F (agd d) e he A) j h;simp_all
   simp_all;rcases T.ord i k _ _ F2 (agd E) (agd X)with h|⟨h,-⟩;exact mD (L:=λk=>b.getD k false=true) p k _ I (λe he A=>u k _ F1 (agd X) e he A) i h;simp_all
  let⟨J,res,lK,D,x⟩:=T.step j o v;have y:fQ P τ ops o res=some (mss j,lK):=by rw[L7 (λs hs=>A0 s<|.inl hs) F3];exact D
  let⟨E2,r1,r2,r3⟩:=s9 (mss j) (τ:=τ) (λs hs=>A0 s<|.inr hs) J;unfold wpOpIn;rw[v];have key:=Ey (ops:=ops) (o:=o) (K:=wpAnyIn (FW V.rd) 0 P .any ops Q g<|b.setIfInBounds j true) (Q:=Q) hG hi (T.flat j o v) y r1 x ?_;show if _ then _ else _;split;rename_i hw;rw[abx hw]at key;exact key;rename_i hw;rw[abl hw]at key;exact⟨λ_ _=>trivial,key⟩;intro a' w' d;have F0:∀i,i≠j->(b.setIfInBounds j true).getD i false=b.getD i false:=λi r=>getD_set_ne false λe=>r e.symm;have F4:(b.setIfInBounds j true).getD j false=true:=gn;refine ih _ (f.erase j) E2 a' w' (by simpa using q) ?_ (M.erase j) (λi Y hh=>?_) (λk o' H G1 e he A=>?_) (λs=>?_) d;simp_all
  grind
  by_cases H1:k=j
  grind
  grind
  by_cases hs:s∈bA (mss j);rw[r2 s hs];symm;refine ER hr E λi Y H=>?_
  grind
  rw[r3 s hs,l s];exact(Im (λi r=>F0 i r) hs _).symm
def aT.drew{B:Nat->Prop}{F:Nat->List Nat}{T:Nat->Value}(h:aT S B σ T w F):aT S B σ T {w with drawn:=w.drawn+1} F:=
 h.step ⟨λ_=>.refl,λ_=>.refl,λ_ _=>rfl,λ_ _ _=>⟨λ_ y b=>⟨y,b⟩,λ_ _=>rfl⟩⟩ (λ_ h=>h)
  (λ_=>.inl ⟨W,W,W,λ_ _=>rfl⟩) h.nodup h.dz h.own h.shr
def Inv.drew(h:Inv N V w0 S0 σ a w):Inv N V w0 S0 σ a {w with drawn:=w.drawn+1}:=by let⟨S,F,hc,f,e,d,c,b⟩:=h;exact⟨S,F,hc.drew,f,e,d,c,⟨b.os,b.tape,b.output,b.size,b.block⟩⟩
def Hm{id:Nat}{K:St->Prop}(hm:P.follows .mixedOrders=true)(T:ops.toList.all (ni N)=true)(b:lower ops.toList=true){y:List Nat}(r:ve ops.toList []=y)
 (h:vT P ops ops.toList σ [] λl σ'=>apart y l ops.size=true/\K σ'):AW R P N (.region id ops true) (λe σ'=>e=.normal/\K σ') σ:=by
 intro V w0 S0 a w Y hi;refine wpIn_region_any hm ?_;let⟨c,rs,mss,lK,R,e0,e1,⟨B,A⟩,p⟩:=vT.spec _ _ _ _ h;simp at e1 B A;have X:Told P N ops c mss:=by
  refine⟨λk o q=>?_,λk o q=>?_,λk o q e he hb=>?_,λi j x v u m d=>?_⟩
  grind
  grind
  unfold lower at b;have:=afY.1 b k (by simpa using ((ahP.1 q).1))
  grind
  have Z:=afY.1 B j (by simpa using ((ahP.1 d).1));have g:=afY.1 Z i (by simpa using u);obtain⟨-,-,-,r1⟩:=p i x (by simpa using m);obtain⟨-,-,-,F⟩:=p j v (b5);rw[aiD]at g;rw[r];rcases g with g|g;exact .inl g;rw[ad8,ad8,r1,F]at g;let⟨i1,z⟩:=PI g;obtain⟨J,-,H,-⟩:=p i x (by simpa using m);obtain⟨D,-,C,-⟩:=p j v (b5);exact .inr ⟨λs hs=>⟨(i1 s hs).1,(i1 s hs).2.1,λh=>IG ((i1 s hs).2.2 h) J H⟩,λs hs=>⟨(z s hs).1,λh=>IG ((z s hs).2 h) D C⟩⟩
 refine Ot (w0:=w0) (S0:=S0) Y.2 X (λa' w' f=>⟨_,⟨W,A⟩,f.x⟩) ops.size _ (List.range ops.size) σ a _ I I List.nodup_range (λi f _=>e7) (λj o t=>?_) (λs=>?_) hi.drew;simp[Array.getD]at t;have:∀n,merge c mss (λi=>(Array.replicate ops.size false).getD i false) s n=c 0 s:=by
  intro n
  induction n with
  |zero=>rfl
  |succ n M=>unfold merge;rw[abl λhh=>?_,M];have:=hh.1;simp[Array.getD]at this
 rw[this,e0]
end
end
section
variable{R:Option Nat->Prop}{P:Program}{N:Nat}{w0 w w':World}{V:Hid}{S S0 S':Nat->Prop}{σ σ' τ:St}{a:Act}{Q Q':Exit->St->Prop}
section
variable{c:Code}{b:Frame}{f:FuncId}{ds:L Deferred}{k:L Item}{n:Nat}{F:Nat->L Nat}
def lF{P:Program}{a:Act}{cs:L Frame}{w:World}:step P (lone (b.atR a<|.code (.scope c)::k) cs w)=.next (lone (b.atR a<|.code c::.inScope c::k) cs w):=step_lone_go gq
def GP{P:Program}{a:Act}{cs:L Frame}{w:World}:step P (lone (b.atR a<|.inScope c::k) cs w)=.next (lone (b.atR a k) cs w):=step_lone_go gq
def wO{F:Fence}{P:Program}{Q:Exit->Act->World->Prop}{a:Act}{w:World}(h:c.wpIn F n P (Exit.noGoto Q) a w):(Code.scope c).wpIn F n P Q a w:=by
 intro b k u p s r;have m:(lone (b.atR a<|.code (.scope c)::k) u w).fenced P F:=fenced_calm s r W;obtain⟨e,i,g,j,d⟩:=h b _ u p s r;cases e with
 |normal=>exact⟨.normal,i,g,j,.head m lF<|StepsIn.trans d<|.one (fenced_calm s r W) GP⟩
 |exit id=>
  have t:exitTo id (.inScope c::k)=exitTo id k:=by simp[exitTo]
  exact⟨.exit _,i,g,j,λv x=>.head m lF<|d.1 v<|by rwa[t],λq x=>let⟨o,z,y⟩:=d.2 q (by rwa[t]);⟨o,z,.head m lF y⟩⟩
 |goto l=>exact j.elim
 |ret=>exact⟨_,i,g,j,.of_steps (.one m lF) d⟩
 |panic A=>exact⟨_,i,g,j,.of_steps (.one m lF) d⟩
 |outgrown=>exact⟨_,i,g,j,.of_steps (.one m lF) d⟩
def kW(h:AW R P N c Q σ)(d:∀e σ',Q e σ'->Q' e σ'):AW R P N c Q' σ:=λV _ _ a w g hi=>wpIn_mono (h V _ _ a w g hi) λ_ _ _⟨σ',j,i⟩=>⟨σ',d _ _ j,i⟩
def aeo(R:Option Nat->Prop)(P:Program)(N:Nat)(c:Code)(Q:Exit->St->Prop):Exit->St->Prop
 |.normal,σ=>AW R P N c Q σ
 |e,σ=>Q e σ
def X8{x y:Code}(h:AW R P N x (aeo R P N y Q) σ):AW R P N (.seq x y) Q σ:=λV _ _ a w d hi=>
 wpIn_seq (wpIn_mono (h V _ _ a w d hi) λe j w'⟨σ',i,g⟩=>by
  cases e with
  |normal=>exact i.x d g
  |_=>exact⟨σ',i,g⟩)
def aa3(h:Q .normal σ):AW R P N .skip Q σ:=λ_ _ _ _ _ _ hi=>wpIn_skip ⟨σ,h,hi.x⟩
def Yb{l:Nat}(h:Q .normal σ):AW R P N (.label l) Q σ:=λ_ _ _ _ _ _ hi=>wpIn_label ⟨σ,h,hi.x⟩
def aa5{id:Nat}(h:Q (.exit id) σ):AW R P N (.exit id) Q σ:=λ_ _ _ _ _ _ hi=>wpIn_exit ⟨σ,h,hi.x⟩
def adQ(h:Q .ret σ):AW R P N .ret Q σ:=λ_ _ _ _ _ _ hi=>wpIn_ret ⟨σ,h,hi.x⟩
def KO{c:Operand}{x y:Code}{t:Bool}(e:aO c=true)(hc:(resolve σ c).cont=some (.v<|.bool t))(h:AW R P N (if t then x else y) Q σ):AW R P N (.cond c x y) Q σ:=λV _ _ a w g hi=>wpIn_cond (by obtain⟨S,F,d,-⟩:=id hi;exact dR d c e hc)<|h V _ _ a w g hi
def MX(id:Nat)(Q:Exit->St->Prop):Exit->St->Prop
 |.exit d,σ=>if d=id then Q .normal σ else Q (.exit d) σ
 |e,σ=>Q e σ
def Yc{id:Nat}{c:Code}(h:AW R P N c (MX id Q) σ):AW R P N (.block id c) Q σ:=λV _ _ a w i hi=>
 wpIn_block (wpIn_mono (h V _ _ a w i hi) λe l w'⟨σ',d,j⟩=>by
  cases e with
  |exit g=>
   simp[Exit.inBlock,MX]at d⊢
   grind
  |_=>exact⟨σ',d,j⟩)
def ZX(Q:Exit->St->Prop):Exit->St->Prop
 |.goto _,_=>False
 |e,σ=>Q e σ
def X9{c:Code}(h:AW R P N c (ZX Q) σ):AW R P N (.scope c) Q σ:=λV _ _ a w g hi=>
 wO (wpIn_mono (h V _ _ a w g hi) λe j w'⟨σ',d,i⟩=>by
  cases e with
  |goto l=>exact d
  |_=>exact⟨σ',d,i⟩)
def acD(d:Nat->St->Prop)(n:Nat)(Q:Exit->St->Prop):Exit->St->Prop
 |.normal,σ=>∃m,m<n/\d m σ
 |e,σ=>Q e σ
def aa4(d:Nat->St->Prop)(K:d n σ)(round:∀n σ,d n σ->AW R P N c (acD d n Q) σ):AW R P N (.loop c) Q σ:=by
 intro V w0 S0 a w H hi b k C y B z;have key:∀n σ a w,d n σ->ma N V w0 S0 σ a w->
  ∃e x w',(∃σ',Q e σ'/\ma N V w0 S0 σ' x w')/\ArrivesIn (Machine.fenced P<|FW V.rd) P (lone (b.atR a<|.code c::.inLoop c::k) C w) b k C e x w':=by
  intro n
  induction n using Nat.strongRecOn with
  |_ n D=>
   intro σ a w J hi;obtain⟨e,o,j,⟨g,q,h⟩,i⟩:=(round n σ J).x H hi b _ C y B z;cases e with
   |normal=>let⟨m,A,s⟩:=q;let⟨u,v,t,r,p⟩:=D m A g o j s h;exact⟨u,v,t,r,.of_steps (StepsIn.trans i<|.one (fenced_calm B z W) stepR_inLoop) p⟩
   |exit id=>exact⟨_,o,j,⟨g,q,h⟩,.pass W (λ_ _=>.inl I) i⟩
   |goto l=>exact⟨_,o,j,⟨g,q,h⟩,.pass W (λ_ _=>.inl I) i⟩
   |ret=>exact⟨_,o,j,⟨g,q,h⟩,.pass W (λ_ _=>.inl I) i⟩
   |panic M=>exact⟨_,o,j,⟨g,q,h⟩,.pass W (λ_ _=>.inl I) i⟩
   |outgrown=>exact⟨_,o,j,⟨g,q,h⟩,.pass W (λ_ _=>.inl I) i⟩
 let⟨e,x,w',q,i⟩:=key n σ a w K hi.x;exact⟨e,x,w',q,.of_steps (.one (fenced_calm B z W) stepR_loop) i⟩
def Cells.get:∀{xs:L AV}{d:L Value}{F:L Nat}(i:Nat),Cells w S false xs d F->F=[]->match xs[i]?with|some x=>∃v,d[i]?=some v/\Rel w S x v []|none=>True
 |[],d,F,i,h,_=>I
 |x::xs,d,F,i,h,e=>by
  obtain⟨y,l',o,m,rfl,rfl,l,j,g⟩:=h;obtain⟨rfl,rfl⟩:=aia.1 e;cases i with
  |zero=>grind
  |succ i=>simpa using Cells.get i g W
def T6{args:L AV}{d:L Value}(m:V.df=[])(o:∀b,S b->b<w.heap.size)(hc:Cells w S false args d [])(p:d.length<=N):
 Inv N V w S (mk<|entry 0 args) {tmps:=d.toArray++Array.replicate (N-d.toArray.size) undef,defers:=[]} w:=by
 refine⟨S,λ_=>[],⟨λi=>?_,λ_=>aee,I,I,o⟩,by simp;omega,m.symm,λ_ h=>h,λ_ h=>.inl h,mQ.refl _ _⟩;have g:=Cells.get i hc W;have he:=sn args 0 i;simp at he;cases e:args[i]?with
 |none=>rw[e]at he;rw[an.aC<|by rw[he];rfl,he];simp[Rel]
 |some x=>
  rw[e]at he g;let⟨v,j,l⟩:=g;rw[an.aC<|by rw[he];exact l.plain,he];have:tv V {tmps:=d.toArray++Array.replicate (N-d.toArray.size) undef,defers:=[]} i=v:=by
   have hi:=(aij.1 j).1;rw[yC V _<|.inr<|by simp;omega];simp
   grind
  rwa[this]
def jT(P:Program)(σ:St):L ResultVar->Option (L AV)
 |[]=>some []
 |.tmp t::rs=>if(σ t).av.plain then match jT P σ rs with
   |some xs=>some ((σ t).av::xs)
   |none=>none
  else none
 |.cell t ty::rs=>match(σ t).av with
  |.box true x=>match cC P ty with
   |some ti=>if fits ti x then match jT P σ rs with
     |some xs=>some (x::xs)
     |none=>none
    else none
   |none=>none
  |_=>none
def oM:ResultVar->Nat
 |.tmp t=>t
 |.cell t _=>t
def jk:L ResultVar->L Nat->Bool
 |[],_=>true
 |r::rs,d=>(!d.contains (oM r)&&Nat.blt (oM r) 500)&&jk rs (oM r::d)
def uP(xs:L AV):AV:=match xs with|[x]=>x|xs=>.de xs
def zC(ys:Array Value):Value:=if h:ys.size=1 then ys[0]else .tuple ys
def DE(d:Array Value):ResultVar->Sem Value
 |.tmp t=>pure (d.getD t undef)
 |.cell a t=>do loadVar t (←asAddr (d.getD a undef))
def Ej(fn:Func)(d:Array Value):results fn d=(do let e←fn.results.mapM (DE d);pure (zC e)):=by congr 1
def tc{F:Nat->L Nat}{B:Nat->Prop}(h:aT S B σ (tv V a) w F):∀(rs:L ResultVar)(m:L Nat){xs:L AV},jk rs m=true->jT P σ rs=some xs->
 ∃D F',(rs.mapM<|DE a.tmps).run P w=.ok D w/\Cells w S false xs D F'/\F'.Nodup/\∀b∈F',∃i,i∉m/\i<500/\b∈F i
 |[],m,xs,_,d=>by simp[jT,abL]at d;subst d;exact⟨[],[],I,by simp[Cells],I,I⟩
 |r::rs,m,xs,K,d=>by
  simp only[jk,adS,ahZ,List.contains_eq_mem,decide_eq_false_iff_not]at K;have p:=af4 (K.1.2);have key:∃y g v C,jT P σ rs=some g/\xs=y::g/\(DE a.tmps r).run P w=.ok v w/\Rel w S y v C/\C.Nodup/\∀b∈C,b∈F (oM r):=by
   cases r with
   |tmp t=>
    simp only[jT]at d;split at d<;>try(cases d)
    rename_i hp;split at d<;>try(cases d;done)
    rename_i g l;cases d;have q:=h.rel t;rw[an.aC hp]at q;exact⟨_,g,tv V a t,F t,l,W,by rw[yC V a (i:=t)<|.inl p];rfl,q,h.nodup t,λb O=>O⟩
   |cell t ty=>
    simp[jT]at d;split at d<;>try(cases d;done)
    rename_i x A;split at d<;>try(cases d;done)
    rename_i ti H;split at d<;>try(cases d;done)
    rename_i s;split at d<;>try(cases d;done)
    rename_i g l;cases d;have q:=h.rel t;rw[an.aC<|by rw[A];rfl,A]at q;let⟨b,cs,fz,F',z,e1,e2,Z,e4,e5,e6⟩:=q;refine⟨x,g,z,F',l,W,?_,Z,?_,?_⟩;have o:=(yC V a (i:=t)<|.inl p).symm.trans e1;have T:At w ⟨b,0,none⟩ z:=⟨W,cs,fz,e2,λj u hu=>gn⟩;simp only[DE,o];simp[Sem.run_bind];have:(asAddr<|.pointer<|some ⟨b,0,none⟩).run P w=.ok ⟨b,0,none⟩ w:=W;rw[this];exact gP H T<|kU s Z;have:=h.nodup t;simp_all;intro c hc;simp only[oM,e6];simp_all
  obtain⟨y,g,v,C,l,rfl,X,Y,J,hF⟩:=key;let⟨D,F',k1,k2,k3,k4⟩:=tc h rs (oM r::m) K.2 l;refine⟨v::D,C++F',?_,?_,?_,?_⟩;simp_all;simp only[Cells]
  grind
  rw[ad4];refine⟨J,k3,λb O c hc e=>?_⟩;subst e;obtain⟨i,hi,-,M⟩:=k4 b hc;exact h.dz (oM r) i (λe=>hi<|by simp[e]) b (hF b O) M
  grind
def w9(x y:AV):Prop:=∀(w:World)(S:Nat->Prop)(v:Value)(F:L Nat),Rel w S x v F->Rel w S y v F
def AP(x y:AV):Prop:=∀(w:World)(S:Nat->Prop)(v:Value)(F:L Nat),Rel w S x v F->∃e d,F.Perm (e++d)/\∀S':Nat->Prop,(∀b,S b->S' b)->(∀b∈d,S' b)->Rel w S' y v e
def AP.of_le{x y:AV}(h:w9 x y):AP x y:=λw S v F d=>⟨F,[],I,λ_ e _=>Rel.mono e y<|h w S v F d⟩
def AP.share(x:AV):AP x x.cK:=λw S v F d=>⟨[],F,I,λ_ e g=>Rel.share e x d g⟩
def afC(P:Program)(rs:L ResultVar)(r:AV):Exit->St->Prop
 |.normal,σ=>∃xs,jT P σ rs=some xs/\AP (uP xs) r
 |.ret,σ=>∃xs,jT P σ rs=some xs/\AP (uP xs) r
 |_,_=>False
def sT.mB{fn:Func}{d:Array Value}{R:Value->World->Prop}(j:P.funcs[f]?=some fn)(p:fn.body.isNone=false)(hn:(fn.name== "runtime.NumGoroutine")=false)
 (h:Calls P f d w λe w'=>∃v,e=.returned v/\R v w'):sT P f d w R:=by
 intro rd o a _ Q q;have:(callFunc f d).run P w=.ok (.enter f d) w:=by
  have g:=ft
  have i:¬fn.body=none:=by grind
  unfold callFunc;simp_all
 rw[this];refine⟨(λh=>by cases h),Qo ?_⟩;intro l;obtain⟨e,w',s,⟨v,rfl,m⟩,r⟩:=h l
 grind
def Wu:Hid:={v:=λ_=>undef,g:=λ_=>False}
def EP{w:World}{b:Nat}(h:c6 Wu w b):w.heap.size<=b:=h.elim id False.elim
def mQ.below{w w':World}(h:mQ Wu w w'):Below w.heap.size w w':=⟨h.os,h.tape,h.output,h.size,λk d=>h.block k d id⟩
def Yt(ds:L Deferred)(w w':World):Prop:=w'.os=w.os/\w'.tape=w.tape/\w'.output=w.output/\w'.heap.size=w.heap.size/\∀k,w'.heap[k]?=w.heap[k]?\/({target:=.collected k,args:=#[]}∈ds/\w.heap[k]?=some (.deferred<|some [])/\w'.heap[k]?=some (.deferred none))
def Yt.same{V:Hid}{w w':World}(h:Yt ds w w')(hm:Marks V w0 w S F ds){b:Nat}(d:S b\/∃i,b∈F i):w'.heap[b]?=w.heap[b]?:=by rcases h.2.2.2.2 b with e|⟨e,-,-⟩;exact e;obtain⟨D,g,-,-,k1,k2⟩:=hm.2 _ e;grind
def tD{F:Fence}{n:Nat}{fn:Func}{e:Array Value}{R:Ending->World->Prop}:∀(ds:L Deferred)(w:World),ds.Nodup->(∀d∈ds,∃D,d={target:=.collected D,args:=#[]}/\w.heap[D]?=some (.deferred<|some []))->
 (∀w',Yt ds w w'->LeavesInM F n P fn e R [] .returning w')->LeavesInM F n P fn e R ds .returning w
 |[],w,_,_,h=>h w ⟨W,W,W,W,λ_=>.inl W⟩
 |d::ds,w,hn,t,h=>by
  obtain⟨D,rfl,i⟩:=t d I;refine⟨I,.inl ⟨D,_,W,run_takeDeferred i,?_⟩⟩;have q:∀k,k≠D->(w.putObj D<|.deferred none).heap[k]?=w.heap[k]?:=λk r=>World.putObj_heap_other r;have g:(w.putObj D _).heap[D]?=some (.deferred none):=World.putObj_heap_same<|(ahP.1 i).1;rw[af6]at hn;refine tD ds _ hn.2 (λv s=>?_) λw' p=>h w' ?_
  grind
  let⟨o,m,l,j,u⟩:=p;refine⟨o,m,l,by rw[j];simp,λk=>?_⟩
  grind
def aT.shut{V:Hid}{B:Nat->Prop}{T:Nat->Value}(h:aT S B σ T w F)(hm:Marks V w0 w S F ds)(hs:Yt ds w w'):aT S B σ T w' F:=
 h.step ⟨λ_=>.refl,λ_=>.refl,λ_ _=>rfl,λ_ _ _=>⟨λ_ y e=>⟨y,e⟩,λ_ h=>hs.same hm<|h.imp id λh=>⟨_,h⟩⟩⟩ (λ_ h=>h)
  (λ_=>.inl ⟨W,W,W,λ_ h=>hs.same hm<|h.imp id λh=>⟨_,h⟩⟩) h.nodup h.dz (λi b d=>by rw[hs.2.2.2.1];exact h.own i b d) (λb d=>by rw[hs.2.2.2.1];exact h.shr b d)
def mQ.shut{V:Hid}{S:Nat->Prop}(h:mQ V w0 w)(hm:Marks V w0 w S F ds)(hs:Yt ds w w'):mQ V w0 w':=by refine⟨hs.1.trans h.os,hs.2.1.trans h.tape,hs.2.2.1.trans h.output,by rw[hs.2.2.2.1];exact h.size,λk d g=>?_⟩;rcases hs.2.2.2.2 k with e|⟨e,-⟩;rw[e];exact h.block k d g;obtain⟨D,i,-,j,-⟩:=hm.2 _ e;grind
def Lv{fn:Func}{args:L AV}{r:AV}(hf:P.funcs[f]?=some fn)(g:fn.body=some c)(hn:(fn.name== "runtime.NumGoroutine")=false)(j:args.length<=fn.ntmps)
 (X:jk fn.results.toList []=true)(h:AW R0 P fn.ntmps c (afC P fn.results.toList r) (mk<|entry 0 args)):Sound P f args r:=by
 intro w S q hG hS hc;have hl:=Cells.length hc;refine sT.mB hf (by rw[g];rfl) hn<|(callsIn_wide (n:=0)).1<|callsIn_of_wp_marks hf g U<|wpIn_mono (h Wu w S _ w ⟨W,hG,λ_ _ h=>h⟩<|T6 W hS hc E) λe A w1⟨σ',z,S',F,ds,u,hN,m,K,J,Y,hm⟩=>?_;have m:A.defers=ds:=by rw[m];exact ahl _
 have gen:(∃l,jT P σ' fn.results.toList=some l/\AP (uP l) r)->LeavesInM Fence.wide 0 P fn A.tmps (λe w'=>∃v,e=.returned v/\∃S' F,Below w.heap.size w w'/\(∀b,S b->S' b)/\(∀b,S' b->S b\/w.heap.size<=b)/\(∀b,S' b->b<w'.heap.size)/\Rel w' S' r v F/\F.Nodup/\∀b∈F,w.heap.size<=b/\b<w'.heap.size/\¬S' b) A.defers .returning w1:=by
  intro t;rw[m];refine tD ds w1 hm.1 (λd X=>by obtain⟨D,k1,k2,-⟩:=hm.2 d X;exact⟨D,k1,k2⟩) λw' s=>?_;have o:=u.shut hm s;have key:(∃l,jT P σ' fn.results.toList=some l/\AP (uP l) r)->∃v,(results fn A.tmps).run P w'=.ok v w'/\∃v',Ending.returned v=.returned v'/\
   ∃S' F,Below w.heap.size w w'/\(∀b,S b->S' b)/\(∀b,S' b->S b\/w.heap.size<=b)/\(∀b,S' b->b<w'.heap.size)/\Rel w' S' r v' F/\F.Nodup/\∀b∈F,w.heap.size<=b/\b<w'.heap.size/\¬S' b:=by
   rintro⟨l,hx,T⟩;let⟨q,B,k1,k2,k3,k4⟩:=tc o _ [] X hx;have A0:∀b∈B,w.heap.size<=b/\b<w'.heap.size/\¬S' b:=λb g=>by obtain⟨i,-,-,hi⟩:=k4 b g;have:=o.own i b hi;exact⟨EP this.1,this.2⟩
   have M:(results fn A.tmps).run P w'=.ok (zC q.toArray) w':=zaT
   let⟨F1,F2,O,hq⟩:=T w' S' (zC q.toArray) B (by
    generalize C:q.toArray=p;have H:q=p.toList:=by rw[<-C]
    rw[H]at k2;unfold zC;have j:=Cells.length k2;cases l with
    |nil=>rw[dif_neg gn];exact⟨p,W,k2⟩
    |cons x l=>cases l with
     |nil=>
      have z:p.size=1:=by simpa using j
      rw[dif_pos z];obtain⟨y,l',F1,F2,e1,rfl,-,k5,rfl,rfl⟩:=k2;have:p[0]=y:=by grind
      rw[this];simpa[uP]using k5
     |cons x' l=>rw[dif_neg<|by simp at j;omega];exact⟨p,W,k2⟩)
   have m1:∀b∈F1,b∈B:=λb g=>O.mem_iff.2 (by simp[g]);have m2:∀b∈F2,b∈B:=λb g=>O.mem_iff.2 (by simp[g]);refine⟨_,M,_,W,λb=>S' b\/b∈F2,F1,(Y.shut hm s).below,λb g=>.inl<|K b g,?_,?_,hq _ (λb g=>.inl g) λb g=>.inr g,(ad4.1<|O.nodup_iff.1 k3).1,λb g=>?_⟩;rintro b(g|g);exact(J b g).imp id EP;simp_all;rintro b(g|g);exact o.shr b g;simp_all
   grind
  exact key t
 cases e with
 |normal=>exact gen z
 |ret=>exact gen z
 |_=>exact z.elim
end
end
def msE(P:Program)(ops:Array Oper)(σ:St)(o:Oper):Q (L Mv):=
 match fQ P σ ops o (.Vv .dead)with
 |some (a,[])=>some a
 |_=>none
def yv{α:Type}(x:Q α)(k:α->Prop):Prop:=∃a,x=some a/\k a
@[simp] theorem UP{α:Type}(a:α)(k:α->Prop):yv (some a) k=k a:=by simp[yv]
@[simp] theorem aeg{α:Type}(k:α->Prop):yv none k=False:=by simp[yv]
def ID(σ:St)(f:cF)(asx:L cF):Q (FuncId×L AV×L Mv):=
 match f.cont with
 |some (.fn (.func g) first a)=>if cz first&&cz a then match iZ asx with
   |some b=>some (g,first++b++a,shares asx)
   |none=>none
  else none
 |_=>none
def B6(d:Q Nat)(res:AV)(sh:L Mv):Q (L Mv):=
 if !res.dp then match sh with
  |[]=>some (dS d res [])
  |[m]=>some (dS d res [m])
  |_=>none
 else some (dS d res [])
def Ay(o:Oper):Q Call:=
 match o.op with
 |.call c=>match c.callee with
  |.value _=>some c
  |_=>none
 |_=>none
def DV(c:Call):Operand:=match c.callee with|.value f=>f|_=>.global 0
def ab1(P:Program)(h:FuncId×L AV×L Mv)(k:AV->Prop):Prop:=∃r,Sound P h.1 h.2.1 r/\k r
def Q7(P:Program)(ops:Array Oper)(o:Oper)(σ:St)(K:L Mv->St->Prop):Prop:=∃res b lK a,fQ P σ ops o res=some (b,lK)/\(∀ob∈lK,ob.ok P)/\Mv.runs σ b=some a/\K b a
def rp(P:Program)(ops:Array Oper):L Oper->St->(St->Prop)->Prop
 |[],σ,K=>K σ
 |o::rest,σ,K=>Q7 P ops o σ λ_ a=>rp P ops rest a K
def rP(P:Program)(ops:Array Oper)(o:Oper)(σ:St)(K:L Mv->St->Prop):Prop:=
 match Ay o with
 |some c=>yv (me σ ops o) λb=>match b with
  |true=>yv (ID σ (resolve σ<|DV c)<|c.args.toList.map<|resolve σ) λh=>ab1 P h λr=>yv (B6 o.dst r h.2.2) λa=>yv (Mv.runs σ a) (K a)
  |false=>yv (Mv.runs σ<|Cc o) (K<|Cc o)
 |none=>yv (msE P ops σ o) λa=>yv (Mv.runs σ a)<|K a
def rt(P:Program)(ops:Array Oper):L Oper->St->L (L Nat×L Nat)->(L (L Nat×L Nat)->St->Prop)->Prop
 |[],σ,a,K=>K a.reverse σ
 |o::rest,σ,a,K=>Q7 P ops o σ λc b=>rt P ops rest b ((kJ σ ops o,bA c)::a) K
section
variable{R:Q Nat->Prop}{P:Program}{N:Nat}{ops:Array Oper}{σ:St}{o:Oper}{rest:L Oper}{K:St->Prop}
def Wq{c:Call}{res:AV}(hc:Ay o=some c):De P σ o res=Gs o.dst (resolve σ<|DV c) (c.args.toList.map<|resolve σ) res:=by unfold Ay at hc;split at hc;rename_i e cH;split at hc;rename_i f a;cases hc;unfold De;cases b:o.dst<;>simp[cH,a,DV];cases hc;grind
def Qp{d:Q Nat}{f:cF}{asx:L cF}{res:AV}{h:FuncId×L AV×L Mv}{b:L Mv}(a:ID σ f asx=some h)(e:B6 d res h.2.2=some b):Gs d f asx res=some (b,[(h.1,h.2.1,res)]):=by
 unfold ID at a;unfold Gs;split at a;rename_i g _ _ c;split at a;split at a;unfold B6 at e
 grind
 cases a;cases a;cases a
def LR:∀{rest:L Oper}{σ:St}{K:St->Prop},rp P ops rest σ K->aa9 P ops rest σ K
 |[],σ,K,h=>h
 |o::rest,σ,K,h=>by let⟨res,b,lK,a,g,f,e,c⟩:=h;exact⟨res,b,lK,a,g,f,e,LR c⟩
def yP{K:L Mv->St->Prop}(h:rP P ops o σ K):Q7 P ops o σ K:=by
 unfold rP at h;split at h;rename_i c hc;let⟨b,l,h⟩:=h;cases b with
 |true=>let⟨k,e,r,hs,j,i,a,f,g⟩:=h;refine⟨.Vv r,j,[.call (k.1,k.2.1,r)],a,?_,by simpa[Ob.ok]using hs,f,g⟩;unfold fQ;rw[l];simp[kZ];rw[Wq hc,Qp e i];rfl
 |false=>let⟨a,f,g⟩:=h;exact⟨.Vv .dead,_,[],a,by unfold fQ;rw[l],I,f,g⟩
 ·let⟨j,e,a,i,f⟩:=h;unfold msE at e;split at e;rename_i m n;cases e;exact⟨.Vv _,_,[],a,n,I,i,f⟩;cases e
def LL:∀{rest:L Oper}{σ:St}{a:L (L Nat×L Nat)}{K:L (L Nat×L Nat)->St->Prop},rt P ops rest σ a K->vT P ops rest σ a K
 |[],σ,a,K,h=>h
 |o::rest,σ,a,K,h=>by let⟨res,c,lK,b,i,g,f,e⟩:=h;exact⟨res,c,lK,b,i,g,f,LL e⟩
def wR(x:Q (L Mv))(σ:St)(K:L Mv->St->Prop):Prop:=yv x λa=>yv (Mv.runs σ a)<|K a
def jt(hc:Ay o=none)(a:o.guard=none){m:Q (L Mv)}(hm:∀res,De P σ o res=ie m)(K:L Mv->St->Prop):rP P ops o σ K=wR m σ K:=by simp[rP,hc,msE,fQ,me,a,kZ,hm,wR];cases m<;>simp[ie]
end
section
variable{R:Q Nat->Prop}{P:Program}{ops:Array Oper}{o:Oper}{σ:St}{K:L Mv->St->Prop}{d:Nat}{ty:TypeId}{pos:String}{aft:Array Edge}{t t':TypeId}{x y z:Operand}
def acY:rP P ops ⟨some d,.move x,ty,pos,aft,none⟩ σ K=wR (dL d<|resolve σ x) σ K:=jt W W (λ_=>rfl) K
def Wr:rP P ops ⟨some d,.assign x,ty,pos,aft,none⟩ σ K=wR (ey d<|resolve σ x) σ K:=jt W W (λ_=>rfl) K
def acZ:rP P ops ⟨some d,.load t x,ty,pos,aft,none⟩ σ K=wR (vh P d t<|resolve σ x) σ K:=jt W W (λ_=>rfl) K
def ZO:rP P ops ⟨none,.store t x y,ty,pos,aft,none⟩ σ K=wR (xC P t (resolve σ x)<|resolve σ y) σ K:=jt W W (λ_=>rfl) K
def Ml{f:Nat}:rP P ops ⟨some d,.fieldAddr t x f,ty,pos,aft,none⟩ σ K=wR (lp P d t (resolve σ x) f) σ K:=jt W W (λ_=>rfl) K
def ZR{f:Nat}:rP P ops ⟨some d,.field t x f,ty,pos,aft,none⟩ σ K=wR (Bv P d t (resolve σ x) f) σ K:=jt W W (λ_=>rfl) K
def Mj:rP P ops ⟨some d,.indexAddr t x y,ty,pos,aft,none⟩ σ K=wR (iJ P d t (resolve σ x)<|resolve σ y) σ K:=jt W W (λ_=>rfl) K
def ZQ:rP P ops ⟨some d,.index t x y,ty,pos,aft,none⟩ σ K=wR (x8 P d t (resolve σ x)<|resolve σ y) σ K:=jt W W (λ_=>rfl) K
def TG{i:Nat}:rP P ops ⟨some d,.extract x i,ty,pos,aft,none⟩ σ K=wR (qh d (resolve σ x) i) σ K:=jt W W (λ_=>rfl) K
def TH:rP P ops ⟨some d,.convert t t' x,ty,pos,aft,none⟩ σ K=wR (Gd P d t t'<|resolve σ x) σ K:=jt W W (λ_=>rfl) K
def ZP{l h m:Q Operand}:rP P ops ⟨some d,.slice t x l h m,ty,pos,aft,none⟩ σ K=wR (s7 P d t (resolve σ x) (l.map<|resolve σ) (h.map<|resolve σ)<|m.map<|resolve σ) σ K:=jt W W (λ_=>rfl) K
def aa1(P:Program)(d:Nat)(op:BinOp)(t:TypeId)(a b:Q AV):Q (L Mv):=
 match a,b with
 |some a,some b=>match og P op t a b with
  |some v=>some [.put d v]
  |none=>none
 |_,_=>none
def ae5{op:BinOp}:rP P ops ⟨some d,.binOp op t x y t',ty,pos,aft,none⟩ σ K=wR (aa1 P d op t (resolve σ x).cont (resolve σ y).cont) σ K:=
 jt W W (λres=>by
  simp[De,aa1];cases(resolve σ x).cont with
  |none=>rfl
  |some a=>cases(resolve σ y).cont with
   |none=>rfl
   |some b=>simp only;cases og P _ t a b<;>rfl) K
def un1(d:Nat)(op:UnOp)(a:Q AV):Q (L Mv):=
 match a with
 |some (.v a)=>match uno op a with
  |some v=>some [.put d<|.v v]
  |none=>none
 |_=>none
def agC{op:UnOp}:rP P ops ⟨some d,.unOp op t x,ty,pos,aft,none⟩ σ K=wR (un1 d op (resolve σ x).cont) σ K:=
 jt W W (λres=>by
  simp[De,un1];cases(resolve σ x).cont with
  |none=>rfl
  |some a=>cases a with
   |v w=>simp only;cases uno _ w<;>rfl
   |_=>rfl) K
def abp(d:Nat)(c:Q AV)(x y:cF):Q (L Mv):=
 match c with
 |some (.v<|.bool true)=>dL d x
 |some (.v<|.bool false)=>dL d y
 |_=>none
def acX:rP P ops ⟨some d,.pick x y z,ty,pos,aft,none⟩ σ K=wR (abp d (resolve σ x).cont (resolve σ y)<|resolve σ z) σ K:=
 jt W W (λres=>by
  simp[De];cases hc:(resolve σ x).cont with
  |none=>rfl
  |some a=>cases a with
   |v w=>cases w with
    |bool b=>cases b<;>rfl
    |_=>rfl
   |_=>rfl) K
def TJ{b:Builtin}{asx:Array Operand}{a:Array TypeId}:rP P ops ⟨some d,.call ⟨.builtin b,asx,a⟩,ty,pos,aft,none⟩ σ K=wR (l8 P d b a.toList<|asx.toList.map<|resolve σ) σ K:=jt W W (λ_=>rfl) K
def ac0{a:Q Nat}{f:Operand}{asx:Array Operand}{b:Array TypeId}:rP P ops ⟨a,.call ⟨.value f,asx,b⟩,ty,pos,aft,none⟩ σ K=
 yv (ID σ (resolve σ f)<|asx.toList.map<|resolve σ) λh=>ab1 P h λr=>wR (B6 a r h.2.2) σ K:=by
 simp[rP,Ay,me,DV,wR]
def aas(d:Nat)(x:Q (AV×L Nat))(f:AV->Q AV):Q (L Mv):=
 match x with
 |some (y,M)=>match f y with
  |some z=>some [.make M d z]
  |none=>none
 |none=>none
def ZT:rP P ops ⟨some d,.alloc t,ty,pos,aft,none⟩ σ K=wR (match cC P t with|some ti=>some [.make [] d<|.box true ti.zero]|none=>none) σ K:=jt W W (λres=>by simp[De];cases cC P t<;>rfl) K
def ae4:rP P ops ⟨some d,.box t x,ty,pos,aft,none⟩ σ K=wR (match cC P t with|some ti=>aas d (fE<|resolve σ x) λy=>if fits ti y then some (.box true y)else none|none=>none) σ K:=
 jt W W (λres=>by
  simp[De];cases cC P t with
  |none=>rfl
  |some ti=>
   simp[aas];cases fE _ with
   |none=>rfl
   |some p=>simp only;split<;>rfl) K
def JY{n:Nat}{ps:Array (Nat×Operand)}:rP P ops ⟨some d,.buildSlice t n ps,ty,pos,aft,none⟩ σ K=wR (match dY P t with
 |some e=>match cC P e with
  |some ti=>match ij (ps.toList.map λp=>resolve σ p.2)with
   |some (ys,M)=>if(ps.toList.map (·.1)=List.range n)/\(ys.all<|fits ti)/\n*ti.size<=2^24/\n<=maxLen then some [.make M d<|.list .own ti.size ys]else none
   |none=>none
  |none=>none
 |none=>none) σ K:=
 jt W W (λres=>by
  simp[De];cases dY P t with
  |none=>rfl
  |some e=>simp only;cases cC P e with
   |none=>rfl
   |some ti=>simp only;cases ij _ with
    |none=>rfl
    |some q=>simp only;split<;>rfl) K
def ZS{ps:Array (Nat×Operand)}:rP P ops ⟨some d,.build t ps,ty,pos,aft,none⟩ σ K=wR (match cC P t with
 |some ti=>match ti.zero with
  |.agg z=>match placesOf P t with
   |some a=>match ij (ps.toList.map λp=>resolve σ p.2)with
    |some (ys,M)=>match vq a z ((ps.toList.map (·.1)).zip ys)with
     |some cs=>some [.make M d<|.agg cs]
     |none=>none
    |none=>none
   |none=>none
  |_=>none
 |none=>none) σ K:=
 jt W W (λres=>by
  simp[De];cases cC P t with
  |none=>rfl
  |some ti=>simp only;cases ti.zero with
   |agg z=>simp only;cases placesOf P t with
    |none=>rfl
    |some a=>simp only;cases ij _ with
     |none=>rfl
     |some q=>simp only;cases vq a z _<;>rfl
   |_=>rfl) K
def m1(x:Q (L Mv×L Obl)):Q (L Mv):=match x with
 |some (a,[])=>some a
 |_=>none
@[simp] theorem afb(x:Option (List Mv)):m1 (ie x)=x:=lI
def O0(hc:Ay o=none)(a:o.guard=none)(K:L Mv->St->Prop):rP P ops o σ K=wR (m1<|De P σ o .dead) σ K:=by
 have e:msE P ops σ o=m1 (De P σ o .dead):=by
  simp[msE,fQ,me,a,kZ];cases De P σ o _ with
  |none=>rfl
  |some q=>let⟨b,lK⟩:=q;cases lK<;>rfl
 simp[rP,hc,e,wR]
def Mi:rP P ops ⟨some d,.makeSlice t x y,ty,pos,aft,none⟩ σ K=wR (m1 (match dY P t with
 |some e=>match cC P e with
  |some ti=>match(resolve σ x).cont,(resolve σ y).cont with
   |some (.v<|.int _ a),some (.v<|.int _ b)=>if 0<=a/\a<=b/\b*ti.bytes<=140737488355328/\b<=maxLen/\0<ti.size then
     some ([.make [] d<|.list .own ti.size<|List.replicate a.toNat ti.zero],[])else none
   |_,_=>none
  |none=>none
 |none=>none)) σ K:=O0 W W K
def Pm:rP P ops ⟨some d,.nilCheck x,ty,pos,aft,none⟩ σ K=wR (m1 (match(resolve σ x).cont with
 |some (.box _ _)=>ie (dL d<|resolve σ x)
 |some (.fn (.func _) _ _)=>ie (dL d<|resolve σ x)
 |_=>match(resolve σ x).sl.av with
  |.ptr .. =>match(resolve σ x).addr with
   |some _=>ie (dL d<|resolve σ x)
   |none=>none
  |_=>none)) σ K:=O0 W W K
def Pn{f:Fn}{a b:Array Operand}:rP P ops ⟨some d,.makeFunc f a b,ty,pos,aft,none⟩ σ K=wR (m1 (match iZ (a.toList.map<|resolve σ),iZ (b.toList.map<|resolve σ)with
 |some e,some c=>if(shares<|a.toList.map (resolve σ)++b.toList.map (resolve σ)).isEmpty then some ([.put d<|.fn f e c],[])else none
 |_,_=>none)) σ K:=O0 W W K
def JX{a:Q Nat}{op:Op}{j:Nat}{b:Bool}:rP P ops ⟨a,op,ty,pos,aft,some (j,b)⟩ σ K=
 yv (me σ ops ⟨a,op,ty,pos,aft,some (j,b)⟩) λ
  |true=>rP P ops ⟨a,op,ty,pos,aft,none⟩ σ K
  |false=>wR (some<|Cc ⟨a,op,ty,pos,aft,none⟩) σ K:=by
 unfold rP;have e:Ay ⟨a,op,ty,pos,aft,some (j,b)⟩=Ay ⟨a,op,ty,pos,aft,none⟩:=W;have f:(σ:St)->(res:AV)->De P σ ⟨a,op,ty,pos,aft,some (j,b)⟩ res=De P σ ⟨a,op,ty,pos,aft,none⟩ res:=λ_ _=>rfl;rw[e];cases Ay ⟨a,op,ty,pos,aft,none⟩with
 |some c=>
  cases me σ ops ⟨a,op,ty,pos,aft,some _⟩with
  |none=>simp
  |some b=>cases b<;>simp[me,wR,Cc]
 |none=>
  simp[msE,fQ,kZ,f];cases g:me σ ops ⟨a,op,ty,pos,aft,some _⟩with
  |none=>simp
  |some b=>cases b<;>simp[me,wR,Cc]
end
abbrev cj:=L UInt8
def bs(l:cj):ByteArray:=⟨l.toArray⟩
def UD(s:ByteArray):bs s.data.toList=s:=by cases s;simp[bs]
inductive SV:Type 1
 |n (k:IntKind) (a:Int)
 |b (x:Bool)
 |u (x:Bool)
 |s (x:cj)
 |c (x:Value)
 |nil
 |ints (k:IntKind) (own:Bool) (xs:List Int)
 |gh (k:IntKind) (xs:List Int)
 |strs (own:Bool) (xs:List cj)
 |dt (own:Bool) (xs:List Bool)
 |bm (own:Bool) (sz:Nat) {α:Type} (d:α) (e:α->SV) (xs:List α)
 |row (own:Bool) (sz:Nat) (xs:List SV)
 |agg (xs:List SV)
 |de (xs:List SV)
 |box (own:Bool) (x:SV)
 |fn (f:Fn) (first captured:List SV)
 |bH (r g1 g2:Nat) (p:Path)
 |ptr (r g1 g2:Nat) (p:Path)
 |hole
 |dead
 |pv (C:Value->Prop)
 |abs (J:World->(Nat->Prop)->List Nat->Prop)
 |ix (g:FuncId) (caps:List (Nat×Nat))
 |ob (J:World->(Nat->Prop)->Value->Prop)
abbrev SV.i(a:Int):SV:=.n .i64 a
def flm:L Int->Fl
 |[]=>.nil
 |_::_=>.shr
def szm:L Int->Nat
 |[]=>0
 |_::_=>1
def fl:Bool->Fl
 |true=>.own
 |false=>.shr
mutual
def SV.den:SV->AV
 |.n k a=>.v (.int k a)
 |.b x=>.v (.bool x)
 |.u x=>.v (.bool x)
 |.s x=>.v (.string<|bs x)
 |.c x=>.v x
 |.nil=>.list .nil 0 []
 |.ints k own xs=>.list (fl own) 1 (xs.map λa=>.v<|.int k a)
 |.gh k xs=>.list (flm xs) (szm xs) (xs.map λa=>.v<|.int k a)
 |.strs own xs=>.list (fl own) 1 (xs.map λa=>.v<|.string<|bs a)
 |.dt own xs=>.list (fl own) 1 (xs.map λa=>.v<|.bool a)
 |.bm own sz _ e xs=>.list (fl own) sz (xs.map λx=>(e x).den)
 |.row own sz xs=>.list (fl own) sz (aE xs)
 |.agg xs=>.agg (aE xs)
 |.de xs=>.de (aE xs)
 |.box own x=>.box own x.den
 |.fn f a c=>.fn f (aE a) (aE c)
 |.bH r g1 g2 p=>.bH r g1 g2 p
 |.ptr r g1 g2 p=>.ptr r g1 g2 p
 |.hole=>.hole
 |.dead=>.dead
 |.pv C=>.pv C
 |.abs J=>.abs J
 |.ix g d=>.ix g d
 |.ob J=>.ob J
def aE:List SV->List AV
 |[]=>[]
 |x::xs=>x.den::aE xs
end
def dh:∀xs:L SV,aE xs=xs.map SV.den
 |[]=>rfl
 |x::xs=>by simp[aE,dh xs]
def bS(xs:L SV):(aE xs).length=xs.length:=by simp[dh]
def jC(xs:L SV)(i:Nat):(aE xs)[i]?=xs[i]?.map SV.den:=by simp[dh]
structure Pd where
 p:Prop
 b:Bool
 h:b=true->p
instance(p:Prop)[Decidable p]:CoeDep Prop p Pd:=⟨⟨p,decide p,of_decide_eq_true⟩⟩
abbrev Pd.of(p:Prop):Pd:=⟨p,false,Bool.noConfusion⟩
def aj:L Pd->Prop
 |[]=>True
 |⟨p,_,_⟩::l=>p/\aj l
def app:L Pd->L Pd->L Pd
 |[],l=>l
 |p::l,m=>p::app l m
def aY:∀{l m:L Pd},aj (app l m)↔aj l/\aj m
 |[],m=>by simp[app,aj]
 |p::l,m=>by simp[app,aj,aY,and_assoc]
def nth{α:Type _}:L α->Nat->Q α
 |[],_=>none
 |x::_,0=>some x
 |_::l,n+1=>nth l n
def pT{α:Type _}:∀(l:L α)(i:Nat),nth l i=l[i]?
 |[],i=>by simp[nth]
 |x::l,0=>by simp[nth]
 |x::l,n+1=>by simp[nth,pT l n]
def len{α:Type _}:L α->Nat
 |[]=>0
 |_::l=>len l+1
def fW{α:Type _}:∀l:L α,len l=l.length
 |[]=>rfl
 |x::l=>by simp[len,fW l]
def Vj{α:Type _}:L α->Nat->L α
 |[],_=>[]
 |_::_,0=>[]
 |x::l,n+1=>x::Vj l n
def xz{α:Type _}:∀(l:L α)(n:Nat),Vj l n=l.take n
 |[],n=>by simp[Vj]
 |x::l,0=>by simp[Vj]
 |x::l,n+1=>by simp[Vj,xz l n]
def XC{α:Type _}:L α->Nat->L α
 |[],_=>[]
 |x::l,0=>x::l
 |_::l,n+1=>XC l n
def yl{α:Type _}:∀(l:L α)(n:Nat),XC l n=l.drop n
 |[],n=>by simp[XC]
 |x::l,0=>by simp[XC]
 |x::l,n+1=>by simp[XC,yl l n]
def put{α:Type _}:L α->Nat->α->L α
 |[],_,_=>[]
 |_::l,0,y=>y::l
 |x::l,n+1,y=>x::put l n y
def put_eq{α:Type _}:∀(l:L α)(n:Nat)(y:α),put l n y=l.set n y
 |[],n,y=>by simp[put]
 |x::l,0,y=>by simp[put]
 |x::l,n+1,y=>by simp[put,put_eq l n y]
def cat{α:Type _}:L α->L α->L α
 |[],m=>m
 |x::l,m=>x::cat l m
def dA{α:Type _}:∀(l m:L α),cat l m=l++m
 |[],m=>rfl
 |x::l,m=>by simp[cat,dA l m]
def iK:SV->Path->Q (L Pd×SV)
 |x,[]=>some ([],x)
 |x,s::p=>
  match s with
  |.idx i sz=>match x with
   |.ints k _ xs=>match p,Nat.beq sz 1 with
    |[],true=>some ([i<xs.length],.n k<|xs.getD i 0)
    |_,_=>none
   |.strs _ xs=>match p,Nat.beq sz 1 with
    |[],true=>some ([i<xs.length],.s<|xs.getD i [])
    |_,_=>none
   |.dt _ xs=>match p,Nat.beq sz 1 with
    |[],true=>some ([i<xs.length],.u<|xs.getD i false)
    |_,_=>none
   |.bm _ a d e xs=>match Nat.beq a sz with
    |true=>match iK (e<|xs.getD i d) p with
     |some (ob,y)=>some ((i<xs.length)::ob,y)
     |none=>none
    |false=>none
   |.row _ a xs=>match Nat.beq a sz with
    |true=>match nth xs i with
     |some x=>iK x p
     |none=>none
    |false=>none
   |_=>none
  |.deref=>match x with
   |.box _ x=>iK x p
   |_=>none
  |.at o none=>match x with
   |.agg xs=>match nth xs o with
    |some x=>iK x p
    |none=>none
   |_=>none
  |.at o (some n)=>match x with
   |.agg xs=>match Nat.ble (o+n) (len xs)with
    |true=>iK (.agg<|Vj (XC xs o) n) p
    |false=>none
   |_=>none
  |.de i=>match x with
   |.de xs=>match nth xs i with
    |some x=>iK x p
    |none=>none
   |_=>none
  |.oC .. =>none
def da:∀{p:Path}{x y:SV}{ob:L Pd},iK x p=some (ob,y)->aj ob->bM x.den p=some y.den
 |[],x,y,ob,h,_=>by simp[iK,abL,aeb]at h;simp[bM,h.2]
 |s::p,x,y,ob,h,hc=>by
  cases s with
  |idx i sz=>
   cases x with
   |ints k o xs=>
    cases p with
    |cons _ _=>simp[iK]at h
    |nil=>
     simp[iK]at h;split at h<;>try simp at h
     rename_i a;obtain⟨rfl,rfl⟩:=h;have a:=agI a;subst a;simp[aj,abu]at hc;simp[SV.den,bM,ad7 hc,ad8]
   |strs o xs=>
    cases p with
    |cons _ _=>simp[iK]at h
    |nil=>
     simp[iK]at h;split at h<;>try simp at h
     rename_i a;obtain⟨rfl,rfl⟩:=h;have a:=agI a;subst a;simp[aj,abu]at hc;simp[SV.den,bM,ad7 hc,ad8]
   |dt o xs=>
    cases p with
    |cons _ _=>simp[iK]at h
    |nil=>
     simp[iK]at h;split at h<;>try simp at h
     rename_i a;obtain⟨rfl,rfl⟩:=h;have a:=agI a;subst a;simp[aj,abu]at hc;simp[SV.den,bM,ad7 hc,ad8]
   |bm o f d e xs=>
    simp[iK]at h;split at h<;>try cases h
    rename_i a;have a:=agI a;split at h<;>try simp at h
    rename_i g l j;obtain⟨rfl,rfl⟩:=h;simp[aj]at hc;have:=da j hc.2;simp[SV.den,bM,a,if_true,ahB,ad7 hc.1,aiZ,agb];simp_all
   |row o f xs=>
    simp[iK]at h;split at h<;>try cases h
    rename_i a;have a:=agI a;split at h<;>try cases h
    rename_i x b;have:=da h hc;rw[pT]at b;simp[SV.den,bM,a,if_true,jC,b,aiZ,agb];exact this
   |_=>simp[iK]at h
  |deref=>
   cases x with
   |box o x=>simp[iK]at h;simp[SV.den,bM];exact da h hc
   |_=>simp[iK]at h
  | «at» o m=>
    cases m with
    |none=>
     cases x with
     |agg xs=>
      simp[iK]at h;split at h<;>try cases h
      rename_i x b;rw[pT]at b;simp[SV.den,bM,jC,b,aiZ,agb];exact da h hc
     |_=>simp[iK]at h
    |some n=>
     cases x with
     |agg xs=>
      simp[iK]at h;split at h<;>try cases h
      rename_i c;have c:=af4 c;rw[fW]at c;have:=da h hc;simp[SV.den,xz,yl,dh,ai4,aiH]at this;simp[SV.den,bM,bS,c,if_true];simpa[dh]using this
     |_=>simp[iK]at h
  |de i=>
   cases x with
   |de xs=>
    simp only[iK]at h;split at h<;>try cases h
    rename_i x b;rw[pT]at b;simp only[SV.den,bM,jC,b,aiZ,agb];exact da h hc
   |_=>simp[iK]at h
  |oC sz o n=>simp[iK]at h
def xY(a b:IntKind):Bool:=match decEq a b with
 |isTrue _=>true
 |isFalse _=>false
def rZ{a b:IntKind}(h:xY a b=true):a=b:=by
 unfold xY at h;split at h
 grind
 cases h
def mR:SV->Path->SV->Q (L Pd×SV)
 |_,[],y=>some ([],y)
 |x,s::p,y=>
  match s with
  |.idx i sz=>match x with
   |.ints k true xs=>match p,Nat.beq sz 1,y with
    |[],true,.n g a=>match xY k g with
     |true=>some ([i<xs.length],.ints k true<|xs.set i a)
     |false=>none
    |_,_,_=>none
   |.strs true xs=>match p,Nat.beq sz 1,y with
    |[],true,.s a=>some ([i<xs.length],.strs true<|xs.set i a)
    |_,_,_=>none
   |.dt true xs=>match p,Nat.beq sz 1,y with
    |[],true,.b a=>some ([i<xs.length],.dt true<|xs.set i a)
    |[],true,.u a=>some ([i<xs.length],.dt true<|xs.set i a)
    |_,_,_=>none
   |.row true c xs=>match Nat.beq c sz with
    |true=>match nth xs i with
     |some x=>match mR x p y with
      |some (ob,f)=>some (ob,.row true c<|put xs i f)
      |none=>none
     |none=>none
    |false=>none
   |.bm true c d e xs=>match Nat.beq c sz with
    |true=>match mR (e<|xs.getD i d) p y with
     |some (ob,f)=>some ((i<xs.length)::ob,.row true c<|(xs.map e).set i f)
     |none=>none
    |false=>none
   |_=>none
  |.deref=>match x with
   |.box true x=>match mR x p y with
    |some (ob,f)=>some (ob,.box true f)
    |none=>none
   |_=>none
  |.at o none=>match x with
   |.agg xs=>match nth xs o with
    |some x=>match mR x p y with
     |some (ob,f)=>some (ob,.agg<|put xs o f)
     |none=>none
    |none=>none
   |_=>none
  |.at o (some n)=>match x with
   |.agg xs=>match Nat.ble (o+n) (len xs)with
    |true=>match mR (.agg<|Vj (XC xs o) n) p y with
     |some (ob,.agg ys)=>match Nat.beq (len ys) n with
      |true=>some (ob,.agg<|cat (Vj xs o)<|cat ys<|XC xs<|o+n)
      |false=>none
     |_=>none
    |false=>none
   |_=>none
  |.de i=>match x with
   |.de xs=>match nth xs i with
    |some x=>match mR x p y with
     |some (ob,f)=>some (ob,.de<|put xs i f)
     |none=>none
    |none=>none
   |_=>none
  |.oC .. =>none
def Al(xs:L SV)(i:Nat)(y:SV):aE (xs.set i y)=(aE xs).set i y.den:=by simp[dh]
def gO:∀{p:Path}{x y z:SV}{ob:L Pd},mR x p y=some (ob,z)->aj ob->fH x.den p y.den=some z.den
 |[],x,y,z,ob,h,_=>by simp only[mR,abL,aeb]at h;simp[fH,h.2]
 |s::p,x,y,z,ob,h,hc=>by
  cases s with
  |idx i sz=>
   cases x with
   |ints k o xs=>
    cases o<;>simp only[mR]at h<;>try(cases h;done)
    split at h<;>try(cases h;done)
    rename_i a;split at h<;>try(cases h;done)
    rename_i l;have l:=rZ l;subst l;cases h;have a:=agI a;subst a;simp only[aj,abu]at hc;simp[SV.den,fH,fl,ad7 hc,agJ]
   |strs o xs=>
    cases o<;>simp only[mR]at h<;>try(cases h;done)
    split at h<;>try(cases h;done)
    rename_i a;cases h;have a:=agI a;subst a;simp only[aj,abu]at hc;simp[SV.den,fH,fl,ad7 hc,agJ]
   |dt o xs=>
    cases o<;>simp only[mR]at h<;>try(cases h;done)
    split at h<;>try(cases h;done)
    all_goals
     rename_i a;cases h;have a:=agI a;subst a;simp only[aj,abu]at hc;simp[SV.den,fH,fl,ad7 hc,agJ]
   |row o j xs=>
    cases o<;>simp only[mR]at h<;>try(simp at h;done)
    split at h<;>try(simp at h;done)
    rename_i a;have a:=agI a;split at h<;>try(simp at h;done)
    rename_i x c;split at h<;>try(simp at h;done)
    rename_i b f hs;cases h;rw[pT]at c;simp[SV.den,fH,fl,a,jC,c,gO hs hc,put_eq,Al]
   |bm o j d e xs=>
    cases o<;>simp only[mR]at h<;>try(simp at h;done)
    split at h<;>try(simp at h;done)
    rename_i a;have a:=agI a;split at h<;>try(simp at h;done)
    rename_i b f hs;cases h;have hi:i<xs.length:=hc.1;have c:=gO hs hc.2;have q:xs.getD i d=xs[i]:=gn;rw[q]at c;simp[SV.den,fH,fl,a,ad7 hi,c,dh,agJ,Function.comp_def]
   |_=>simp[mR]at h
  |deref=>
   cases x with
   |box o x=>
    cases o<;>simp only[mR]at h<;>try(simp at h;done)
    split at h<;>try(simp at h;done)
    rename_i b f hs;cases h;simp[SV.den,fH,gO hs hc]
   |_=>simp[mR]at h
  | «at» o m=>
    cases m with
    |none=>
     cases x with
     |agg xs=>
      simp only[mR]at h;split at h<;>try(simp at h;done)
      rename_i x c;split at h<;>try(simp at h;done)
      rename_i b f hs;cases h;rw[pT]at c;simp[SV.den,fH,jC,c,gO hs hc,put_eq,Al]
     |_=>simp[mR]at h
    |some n=>
     cases x with
     |agg xs=>
      simp only[mR]at h;split at h<;>try(simp at h;done)
      rename_i g;have g:=af4 g;rw[fW]at g;split at h<;>try(simp at h;done)
      rename_i b r hs;split at h<;>try(simp at h;done)
      rename_i hl;have hl:=agI hl;cases h;have:=gO hs hc;simp only[SV.den,xz,yl,dh,ai4,aiH]at this;rw[fW]at hl;simp[SV.den,fH,dh,g,this,hl,dA,xz,yl]
     |_=>simp[mR]at h
  |de i=>
   cases x with
   |de xs=>
    simp only[mR]at h;split at h<;>try(simp at h;done)
    rename_i x c;split at h<;>try(simp at h;done)
    rename_i b f hs;cases h;rw[pT]at c;simp[SV.den,fH,jC,c,gO hs hc,put_eq,Al]
   |_=>simp[mR]at h
  |oC sz o n=>simp[mR]at h
mutual
def SV.aK:SV->Bool
 |.n .. |.b _|.u _|.s _|.c _|.nil|.hole|.dead|.gh .. |.pv _=>true
 |.ints _ own _=> !own
 |.strs own _=> !own
 |.dt own _=> !own
 |.bm own _ _ _ _=> !own
 |.row own _ _=> !own
 |.agg xs=>iG xs
 |.de xs=>iG xs
 |.box own _=> !own
 |.fn _ a c=>match iG a with
  |true=>iG c
  |false=>false
 |.bH .. |.ptr .. |.abs _|.ix .. |.ob _=>false
def iG:List SV->Bool
 |[]=>true
 |x::xs=>match x.aK with
  |true=>iG xs
  |false=>false
end
mutual
theorem cO:∀(x:SV),x.den.aK=x.aK
 |.n .. |.b _|.u _|.s _|.c _|.nil|.hole|.dead|.bH .. |.ptr .. |.pv _|.abs _|.ix .. |.ob _=>rfl
 |.ints _ own _|.strs own _|.dt own _|.bm own _ _ _ _|.row own _ _=>by cases own<;>rfl
 |.gh _ xs=>by cases xs<;>rfl
 |.box own _=>by cases own<;>rfl
 |.agg xs=>by simp[SV.aK];exact ff xs
 |.de xs=>by simp[SV.aK];exact ff xs
 |.fn _ a c=>by simp[SV.den,AV.aK,SV.aK,ff a,ff c];cases iG a<;>rfl
theorem ff:∀(xs:List SV),cz (aE xs)=iG xs
 |[]=>rfl
 |x::xs=>by simp[aE,cz,iG,cO x,ff xs];cases x.aK<;>rfl
end
mutual
def SV.cK:SV->SV
 |.ints k _ xs=>.ints k false xs
 |.gh k xs=>.gh k xs
 |.strs _ xs=>.strs false xs
 |.dt _ xs=>.dt false xs
 |.bm true sz d e xs=>.bm false sz d (λx=>(e x).cK) xs
 |.bm false sz d e xs=>.bm false sz d e xs
 |.row true sz xs=>.row false sz (jQ xs)
 |.row false sz xs=>.row false sz xs
 |.agg xs=>.agg (jQ xs)
 |.de xs=>.de (jQ xs)
 |.box true x=>.box false x.cK
 |.box false x=>.box false x
 |.fn f a c=>.fn f (jQ a) (jQ c)
 |.n k a=>.n k a
 |.b x=>.b x
 |.u x=>.u x
 |.s x=>.s x
 |.c x=>.c x
 |.nil=>.nil
 |.bH r g1 g2 p=>.bH r g1 g2 p
 |.ptr r g1 g2 p=>.ptr r g1 g2 p
 |.hole=>.hole
 |.dead=>.dead
 |.pv C=>.pv C
 |.abs J=>.abs J
 |.ix g h=>.ix g h
 |.ob _=>.dead
def jQ:List SV->List SV
 |[]=>[]
 |x::xs=>x.cK::jQ xs
end
def jr{α:Type}(f:α->AV):∀xs:L α,js (xs.map f)=xs.map λx=>(f x).cK
 |[]=>rfl
 |x::xs=>by simp[js,jr f xs]
mutual
theorem gY:∀(x:SV),x.den.cK=x.cK.den
 |.n .. |.b _|.u _|.s _|.c _|.nil|.hole|.dead|.bH .. |.ptr .. |.pv _|.abs _|.ix .. |.ob _=>rfl
 |.ints _ own xs=>m3
 |.gh _ xs=>by cases xs<;>rfl
 |.strs own xs=>m3
 |.dt own xs=>m3
 |.bm true _ _ e xs=>by
  simp[SV.den,AV.cK,fl,jr]
  congr 1
  exact af3 λx _=>gY _
 |.bm false _ _ _ _=>rfl
 |.row true _ xs=>by simp[SV.den,SV.cK,AV.cK,fl,jP xs]
 |.row false _ _=>rfl
 |.box true x=>by simp[SV.den,SV.cK,AV.cK,gY x]
 |.box false _=>rfl
 |.agg xs=>by simp[SV.den,SV.cK,AV.cK,jP xs]
 |.de xs=>by simp[SV.den,SV.cK,AV.cK,jP xs]
 |.fn _ a c=>by simp[SV.den,SV.cK,AV.cK,jP a,jP c]
theorem jP:∀(xs:List SV),js (aE xs)=aE (jQ xs)
 |[]=>rfl
 |x::xs=>by simp[aE,js,jQ,gY x,jP xs]
end
mutual
def SV.dp:SV->Bool
 |.n .. |.b _|.u _|.s _|.c _|.nil|.hole|.dead|.bH .. |.ptr .. |.pv _|.abs _|.ix .. =>true
 |.ints _ own _=>own
 |.gh .. |.ob _=>false
 |.strs own _=>own
 |.dt own _=>own
 |.bm .. =>false
 |.row true _ xs=>u7 xs
 |.row false _ _=>false
 |.agg xs=>u7 xs
 |.de xs=>u7 xs
 |.box true x=>x.dp
 |.box false _=>false
 |.fn _ a c=>match u7 a with
  |true=>u7 c
  |false=>false
def u7:List SV->Bool
 |[]=>true
 |x::xs=>match x.dp with
  |true=>u7 xs
  |false=>false
end
def wo{xs:L AV}(h:∀x∈xs,x.dp=true):kG xs=true:=by
 induction xs with
 |nil=>rfl
 |cons x _ a=>simp[kG];grind
mutual
theorem pd:∀(x:SV),x.dp=true->x.den.dp=true
 |.n ..,_|.b _,_|.u _,_|.s _,_|.c _,_|.nil,_|.hole,_|.dead,_|.bH ..,_|.ptr ..,_|.pv _,_|.abs _,_|.ix ..,_=>rfl
 |.ob _,h=>by cases h
 |.ints _ own xs,h=>zaz
 |.strs own xs,h=>zaz
 |.dt own xs,h=>by simp[SV.dp]at h;subst h;refine wo λx d=>?_;obtain⟨b,-,rfl⟩:=ab4.1 d;rfl
 |.bm ..,h=>lg
 |.gh ..,h=>lg
 |.row true _ xs,h=>n7
 |.row false _ _,h=>lg
 |.box true x,h=>by simp[SV.dp]at h;exact pd x h
 |.box false _,h=>lg
 |.agg xs,h=>n7
 |.de xs,h=>n7
 |.fn _ a c,h=>by simp[SV.dp]at h;split at h;rename_i e;simp[SV.den,AV.dp];exact⟨lL a e,lL c h⟩;cases h
theorem lL:∀(xs:List SV),u7 xs=true->kG (aE xs)=true
 |[],_=>rfl
 |x::xs,h=>by simp[u7]at h;split at h;rename_i d;simp[aE,kG];exact⟨pd x d,lL xs h⟩;cases h
end
def SV.cell:SV->Bool
 |.n .. |.b _|.u _|.s _|.c _|.nil|.ints .. |.gh .. |.strs .. |.dt .. |.bm .. |.row .. |.box .. |.fn .. |.hole|.ob _=>true
 |_=>false
def Gm(x:SV):x.den.cell=x.cell:=lI
def SV.plain:SV->Bool
 |.bH .. |.ptr .. |.abs _|.ix .. =>false
 |_=>true
def cW(x:SV):x.den.plain=x.plain:=lI
def AV.iF:AV->Bool
 |.bH .. |.ptr .. |.ix .. =>false
 |_=>true
def SV.iF:SV->Bool
 |.bH .. |.ptr .. |.ix .. =>false
 |_=>true
def nS(x:SV):x.den.iF=x.iF:=lI
def Xb(y:SV):SV:=match y.cell with
 |true=>.hole
 |false=>.dead
def Ua(y:SV):(Xb y).den=kH y.den:=by unfold Xb kH;rw[Gm];cases y.cell<;>rfl
structure Cl where
 v:SV
 g1:Nat
 g2:Nat
def Cl.den(x:Cl):Sl:=⟨x.v.den,x.g1,x.g2⟩
abbrev bJ:=L<|Nat×Cl
def gt:bJ->Nat->Cl
 |[],_=>⟨.dead,0,0⟩
 |(d,x)::l,i=>match Nat.beq i d with
  |true=>x
  |false=>gt l i
def dn(l:bJ):St:=λi=>(gt l i).den
def gE(d:Nat)(x:Cl)(l:bJ):dn ((d,x)::l)=jg (dn l) d x.den:=by
 funext i
 simp[dn,gt,jg];by_cases h:i=d;subst h;simp;have:Nat.beq i d=false:=by
  cases a:Nat.beq i d with
  |false=>rfl
  |true=>simp_all
 grind
def eB(l:bJ)(i:Nat):(dn l i).av=(gt l i).v.den:=W
def CP(l:bJ)(i:Nat):(dn l i).g1=(gt l i).g1:=W
def R4(l:bJ)(i:Nat):(dn l i).g2=(gt l i).g2:=W
structure SR where
 s:Option Nat
 sl:Cl
 rt:Cl
def SR.den(x:SR):cF:=⟨x.s,x.sl.den,x.rt.den⟩
def Gn:Value->SV
 |.int k n=>.n k n
 |.bool b=>.b b
 |.string s=>.s s.data.toList
 |.slice none 0 0=>.nil
 |.pointer none=>.c (.pointer none)
 |.map none=>.c (.map none)
 |.nilFunc=>.c .nilFunc
 |.nilIface=>.c .nilIface
 |_=>.dead
def BI:Value->Q SV
 |.agg cs=>some (.agg<|cs.toList.map Gn)
 |.float .. =>none
 |.complex .. =>none
 |v=>some<|Gn v
def zD:Value->Bool
 |.float .. |.complex .. =>false
 |_=>true
def I1{v:Value}(h:zD v=true):(Gn v).den=nA v:=by
 cases v with
 |slice a l c=>
  cases a with
  |some _=>rfl
  |none=>cases l<;>cases c<;>simp[Gn,nA,scalar,SV.den]
 |pointer a=>cases a<;>simp[Gn,nA,scalar,SV.den]
 |map a=>cases a<;>simp[Gn,nA,scalar,SV.den]
 |string s=>rfl
 |float _ _=>simp[zD]at h
 |complex _ _ _=>simp[zD]at h
 |_=>simp[Gn,nA,scalar,SV.den]
def JV:Value->Bool
 |.agg cs=>cs.toList.all zD
 |v=>zD v
def Ql{v:Value}{x:SV}(h:BI v=some x)(a:JV v=true):x.den=iS v:=by
 cases v with
 |agg c=>
  simp[BI]at h;subst h;simp[SV.den,dh]
  congr 1
  refine af3 λy b=>?_;simp only[JV,afY]at a;exact I1 (a y b)
 |float _ _=>simp[BI]at h
 |complex _ _ _=>simp[BI]at h
 |_=>simp[BI]at h;subst h;exact I1 a
def eP(l:bJ):Operand->Q SR
 |.tmp t=>match gt l t with
  |⟨v,g1,g2⟩=>match v with
   |.bH r a b p=>some ⟨some t,⟨.bH r a b p,g1,g2⟩,gt l r⟩
   |.ptr r a b p=>some ⟨some t,⟨.ptr r a b p,g1,g2⟩,gt l r⟩
   |.abs _=>some ⟨none,⟨.dead,0,0⟩,⟨.dead,0,0⟩⟩
   |v=>some ⟨some t,⟨v,g1,g2⟩,⟨.dead,0,0⟩⟩
 |.const v=>match JV v with
  |true=>match BI v with
   |some x=>some ⟨none,⟨x,0,0⟩,⟨.dead,0,0⟩⟩
   |none=>none
  |false=>none
 |.func f=>some ⟨none,⟨.fn (.func f) [] [],0,0⟩,⟨.dead,0,0⟩⟩
 |.global _=>none
def cS{l:bJ}{x:Operand}{r:SR}(h:eP l x=some r):resolve (dn l) x=r.den:=by
 cases x with
 |tmp t=>
  simp[eP]at h;simp[resolve,cF.of];cases a:gt l t with
  |mk v g1 g2=>rw[a]at h;cases v<;>simp at h<;>subst h<;>simp[dn,a]<;>rfl
 |const v=>simp[eP]at h;split at h;rename_i c;split at h;rename_i x b;cases h;simp[SR.den,Cl.den,Ql b c];rfl;cases h;cases h
 |func f=>simp[eP]at h;subst h;rfl
 |global g=>simp[eP]at h
section
variable{a b:Bool}{M:L Nat}{d r:Nat}{m:Q (L Mv)}{p:Path}{x:SR}{y:SV}{l l':bJ}{α:Type _}
def JU:Path->SV->Bool
 |[],_=>true
 |[.de _],_=>true
 |_,y=>y.cell
def Ph(p:Path)(y:SV):Be p y.den=JU p y:=by unfold Be JU;split<;>simp_all[Gm]
def xZ:Path->Bool
 |[]=>true
 |_=>false
def fe:Bool->Bool->Bool
 |true,b=>b
 |false,_=>false
def Hk:Bool->Bool->Bool
 |true,_=>true
 |false,b=>b
def bL:fe a b=true↔a=true/\b=true:=by cases a<;>simp[fe]
def tW:Hk a b=true↔a=true\/b=true:=by cases a<;>simp[Hk]
def iR(b:Bool):Q Unit:=match b with
 |true=>some ()
 |false=>none
def bW{u:Unit}:iR b=some u↔b=true:=by cases b<;>simp[iR]
def not':Bool->Bool
 |true=>false
 |false=>true
def not_iff:not' b=true↔b=false:=by cases b<;>simp[not']
def ne'(a b:Nat):Bool:=not'<|Nat.beq a b
def ne_iff{a b:Nat}:ne' a b=true↔a≠b:=by
 unfold ne';rw[not_iff];constructor;intro h e;subst e;simp at h;intro h;cases c:Nat.beq a b with
 |false=>rfl
 |true=>simp_all
def beq_iff{a b:Nat}:Nat.beq a b=true↔a=b:=⟨agI,λh=>by simp_all⟩
def dB(x:SR):Q (L Pd×SV):=
 match x.sl.v with
 |.bH _ g1 g2 p=>(iR<|fe (Nat.beq x.rt.g1 g1)<|Hk (SO p)<|Nat.beq x.rt.g2 g2).bind λ_=>(iK x.rt.v p).bind λ(ob,y)=>(iR<|fe (JU p y) y.plain).bind λ_=>some (ob,y)
 |.ptr .. =>none
 |.hole=>none
 |.dead=>none
 |.ix .. =>none
 |y=>some ([],y)
def aH{ob:L Pd}(h:dB x=some (ob,y))(hc:aj ob):x.den.cont=some y.den:=by
 let⟨s,⟨v,g1,g2⟩,rt⟩:=x;unfold dB at h;unfold cF.cont;cases v with
 |bH r a b p=>simp only[abZ,bW,bL,tW,ahk]at h;obtain⟨_,⟨i,k⟩,c,j,e,_,⟨g,f⟩,rfl,rfl⟩:=h;simp only[SR.den,Cl.den,SV.den,da e hc,Ph,cW,aiC];simp_all
 |ptr=>cases h
 |hole=>cases h
 |dead=>cases h
 |ix=>cases h
 |_=>cases h;simp[SR.den,Cl.den,SV.den]
def Bb(x:SR):Q (Nat×Nat×Nat×Path):=
 match x.sl.v with
 |.bH r g1 g2 p=>some (r,g1,g2,p)
 |.ptr .. =>none
 |_=>match x.s with
  |some s=>some (s,x.sl.g1,x.sl.g2,[])
  |none=>none
def pS(x:SR):x.den.place=Bb x:=za0
structure ab2 where
 r:Nat
 g1:Nat
 g2:Nat
 p:Path
 v:SV
def Gz(x:SR):Q (L Pd×ab2):=
 match x.sl.v with
 |.ptr r g1 g2 p=>(iR<|fe (Nat.beq x.rt.g1 g1)<|Hk (flat p)<|Nat.beq x.rt.g2 g2).bind λ_=>match x.rt with
  |⟨v,a,b⟩=>some ([],⟨r,a,b,p,v⟩)
 |.box o v=>match x.s with
  |some s=>some ([],⟨s,x.sl.g1,x.sl.g2,[.deref],.box o v⟩)
  |none=>none
 |.bH r _ _ p=>(dB x).bind λ(ob,y)=>match y with
  |.box _ _=>match x.rt with
   |⟨v,a,b⟩=>some (ob,⟨r,a,b,p++[.deref],v⟩)
  |_=>none
 |_=>none
def lU{ob:L Pd}{a:ab2}(h:Gz x=some (ob,a))(hc:aj ob):x.den.addr=some (a.r,a.g1,a.g2,a.p,a.v.den):=by
 let⟨s,⟨v,g1,g2⟩,rt⟩:=x;unfold Gz at h;cases v with
 |ptr r c d p=>simp only[abZ,bW,bL,tW]at h;obtain⟨_,⟨f,e⟩,rfl,rfl⟩:=h;unfold cF.addr;simp only[SR.den,Cl.den,SV.den];simp_all
 |box o y=>
  cases s with
  |none=>cases h
  |some s=>cases h;rfl
 |bH r c d p=>
  simp[abZ]at h;let⟨g,y,f,e⟩:=h;cases y with
  |box o y=>cases e;have:=aH f hc;unfold cF.addr;simp[SR.den,Cl.den,SV.den]at this⊢;rw[this]
  |_=>cases e
 |_=>cases h
abbrev qx:=Q<|L Pd×bJ×L Nat
def dN(l:bJ)(m:Q (L Mv))(e:qx):Prop:=∀ob l' f,e=some (ob,l',f)->aj ob->∃c,m=some c/\Mv.runs (dn l) c=some (dn l')/\bA c=f
def Tq(l:bJ)(d:Nat)(y:SV):bJ:=match gt l d with
 |⟨_,a,b⟩=>(d,⟨y,a+1,b⟩)::l
def mA(l:bJ)(d:Nat)(y:SV):jg (dn l) d ⟨y.den,(dn l d).g1+1,(dn l d).g2⟩=dn (Tq l d y):=by unfold Tq;simp[gE,Cl.den,CP,R4]
def Step.seq{α:Type _}(s:Step)(k:Step->α):α:=match s with
 |.idx i n=>k (.idx i n)
 |.at o none=>k (.at o none)
 |.at o (some n)=>k (.at o<|some n)
 |.deref=>k .deref
 |.de i=>k (.de i)
 |.oC a b c=>k<|.oC a b c
def Step.seq_eq(s:Step)(k:Step->α):s.seq k=k s:=by
 cases s with
 | «at» o n=>cases n<;>rfl
 |_=>rfl
def Ma{α:Type _}(p:Path)(k:Path->α):α:=match p with
 |[]=>k []
 |s::p=>s.seq λs=>Ma p λp=>k<|s::p
def L9{α:Type _}:∀(p:Path)(k:Path->α),Ma p k=k p
 |[],_=>rfl
 |s::p,k=>by simp[Ma,Step.seq_eq];exact L9 p _
def Zn{α:Type _}(y:SV)(k:SV->α):α:=match y with
 |.n c e=>k (.n c e)
 |.b c=>k (.b c)
 |.u c=>k (.u c)
 |.s c=>k (.s c)
 |.c c=>k (.c c)
 |.nil=>k .nil
 |.ints c e f=>k (.ints c e f)
 |.gh c e=>k (.gh c e)
 |.strs c e=>k (.strs c e)
 |.dt c e=>k (.dt c e)
 |.bm c e f j i=>k (.bm c e f j i)
 |.row c e f=>k (.row c e f)
 |.agg c=>k (.agg c)
 |.de c=>k (.de c)
 |.box c e=>k (.box c e)
 |.fn c e f=>k (.fn c e f)
 |.bH c e f p=>Ma p λp=>k (.bH c e f p)
 |.ptr c e f p=>Ma p λp=>k (.ptr c e f p)
 |.hole=>k .hole
 |.dead=>k .dead
 |.pv C=>k (.pv C)
 |.abs J=>k (.abs J)
 |.ix g h=>k (.ix g h)
 |.ob J=>k<|.ob J
def Q3(y:SV)(k:SV->α):Zn y k=k y:=by cases y<;>simp[Zn,L9]
def L3{α:Type _}(l:bJ)(d:Nat)(y:SV)(k:bJ->α):α:=Zn y λy=>match gt l d with
 |⟨_,a,b⟩=>k<|(d,⟨y,a+1,b⟩)::l
def tf(l:bJ)(d:Nat)(y:SV)(k:bJ->α):L3 l d y k=k (Tq l d y):=by simp[L3,Q3];rfl
def dJ(ob:L Pd)(l:bJ)(d:Nat)(y:SV):qx:=L3 l d y λl'=>some (ob,l',[d])
def di{ob:L Pd}(h:aj ob->m=some [.put d y.den]):dN l m (dJ ob l d y):=by intro c _ e he hc;simp[dJ,tf]at he;obtain⟨rfl,rfl,rfl⟩:=he;exact⟨_,h hc,pp,W⟩
def bN:dN l m none:=λ_ _ _ h=>by cases h
def IY(l:bJ):L Nat->bJ
 |[]=>l
 |m::M=>match gt l m with
  |⟨_,a,b⟩=>(m,⟨.dead,a+1,b⟩)::IY l M
def BG(l:bJ):∀(M:L Nat)(i:Nat),dn (IY l M) i=if i∈M then⟨.dead,(dn l i).g1+1,(dn l i).g2⟩else dn l i
 |[],i=>by simp[IY]
 |m::M,i=>by simp[IY,gE];unfold jg;by_cases h:i=m;subst h;simp[Cl.den,SV.den,dn];simp[h];exact BG l M i
def WO(l:bJ)(M:L Nat)(d:Nat)(y:SV):bJ:=match gt l d with
 |⟨_,a,b⟩=>(d,⟨y,a+1,b⟩)::IY l M
def ia(l:bJ)(M:L Nat)(d:Nat)(y:SV):made (dn l) M d y.den=dn (WO l M d y):=by
 unfold WO
 funext i
 simp[made,gE,jg];by_cases h:i=d;subst h;simp[Cl.den,dn];simp[h];rw[BG]
def NN{α:Type _}(l:bJ):L Nat->(bJ->α)->α
 |[],k=>k l
 |m::M,k=>match gt l m with
  |⟨_,a,b⟩=>NN l M λl'=>k<|(m,⟨.dead,a+1,b⟩)::l'
def F9{α:Type _}(l:bJ):∀(M:L Nat)(k:bJ->α),NN l M k=k (IY l M)
 |[],_=>rfl
 |m::M,k=>by simp[NN];rw[F9 l M];rfl
def qP{α:Type _}(l:bJ)(M:L Nat)(d:Nat)(y:SV)(k:bJ->α):α:=Zn y λy=>match gt l d with
 |⟨_,a,b⟩=>NN l M λl'=>k<|(d,⟨y,a+1,b⟩)::l'
def iY(l:bJ)(M:L Nat)(d:Nat)(y:SV)(k:bJ->α):qP l M d y k=k (WO l M d y):=by simp[qP,Q3,F9];rfl
def pW(ob:L Pd)(l:bJ)(M:L Nat)(d:Nat)(y:SV):qx:=qP l M d y λl'=>some (ob,l',d::M)
def lP{ob:L Pd}(h:aj ob->m=some [.make M d y.den]):dN l m (pW ob l M d y):=by intro c _ e he hc;simp[pW,iY]at he;obtain⟨rfl,rfl,rfl⟩:=he;exact⟨_,h hc,by simp[Mv.runs,Mv.run,ia],by simp[bA,Mv.keys]⟩
def uK(l:bJ)(r:Nat)(p:Path):Q (L Pd×bJ):=
 match gt l r with
 |⟨v,a,b⟩=>(iK v p).bind λ(ob,y)=>(mR v p y.cK).bind λ(c,e)=>some (app ob c,(r,⟨e,a,b+1⟩)::l)
def mX{ob:L Pd}(h:uK l r p=some (ob,l'))(hc:aj ob):Mv.run (dn l) (.share r p)=some (dn l'):=by unfold uK at h;simp[abZ]at h;obtain⟨e,y,g,c,k,f,rfl,rfl⟩:=h;let⟨j,i⟩:=aY.1 hc;simp[Mv.run,eB,da g j,gY,gO f i,gE];rfl
def D7(l:bJ)(r d:Nat)(p:Path):Q (L Pd×SV×bJ):=
 (iR<|ne' d r).bind λ_=>match gt l r with
 |⟨v,a,b⟩=>(iK v p).bind λ(ob,y)=>(mR v p<|Xb y).bind λ(c,e)=>match gt l d with
  |⟨_,g,f⟩=>match xZ p with
   |true=>some (app ob c,y,(d,⟨y,g+1,f⟩)::(r,⟨e,a+1,b⟩)::l)
   |false=>some (app ob c,y,(d,⟨y,g+1,f⟩)::(r,⟨e,a,b⟩)::l)
def AU{ob:L Pd}(h:D7 l r d p=some (ob,y,l'))(hc:aj ob):Mv.run (dn l) (.take r d p)=some (dn l'):=by
 unfold D7 at h;simp only[abZ,ahk,bW,ne_iff]at h;let⟨_,g,f,i,n,e,c,k,h⟩:=h;have key:ob=app f e/\l'=(d,⟨i,(gt l d).g1+1,(gt l d).g2⟩)::(r,if p=[]then⟨c,(gt l r).g1+1,(gt l r).g2⟩else⟨c,(gt l r).g1,(gt l r).g2⟩)::l:=by
  cases p with
  |nil=>simp[xZ]at h;grind
  |cons s p=>simp[xZ]at h;grind
 obtain⟨rfl,rfl⟩:=key;let⟨q,o⟩:=aY.1 hc;simp[Mv.run,g,eB,da n q,<-Ua,gO k o,gE];have j:mh (dn l r) p c.den=Cl.den (if p=[]then⟨c,(gt l r).g1+1,(gt l r).g2⟩else⟨c,(gt l r).g1,(gt l r).g2⟩):=by unfold mh;split<;>rfl
 rw[j];rfl
def OI(l:bJ)(r:Nat)(p:Path)(M:L Nat)(y:SV):qx:=
 (iR<|not'<|M.any<|Nat.beq r).bind λ_=>match gt l r with
 |⟨v,a,b⟩=>(mR v p y).bind λ(ob,c)=>NN l M λl'=>some (ob,(r,⟨c,a,b+1⟩)::l',r::M)
def OH{ob:L Pd}{c:L Nat}(h:OI l r p M y=some (ob,l',c))(hc:aj ob):Mv.run (dn l) (.store r p M y.den)=some (dn l')/\c=r::M:=by
 unfold OI at h;simp only[abZ,ahk,bW,not_iff,F9]at h;obtain⟨_,hn,e,g,f,rfl,rfl,rfl⟩:=h;have hm:r∉M:=by intro hm;have:M.any (Nat.beq r)=true:=List.any_eq_true.2 ⟨r,hm,I⟩;grind
 simp[Mv.run,hm,eB,gO f hc]
 funext i
 simp[stored,gE,jg];by_cases h:i=r;subst h;simp[Cl.den,dn];simp[h];rw[BG]
def N0(d:Nat):L (Nat×Nat)->Bool
 |[]=>true
 |(r,_)::q=>fe (ne' r d)<|N0 d q
def BM{d:Nat}:∀{e:L (Nat×Nat)},N0 d e=true->e.all (λq=>q.1 !=d)=true
 |[],_=>rfl
 |(r,a)::c,h=>by simp[N0,bL]at h;simp only[af5,adS];exact⟨by simpa using ne_iff.1 h.1,BM h.2⟩
def yj(l:bJ)(d:Nat)(x:SR):qx:=
 match x.sl.v with
 |.bH r a b p=>(iR<|ne' r d).bind λ_=>dJ [] l d (.bH r a b p)
 |.ptr r a b p=>(iR<|ne' r d).bind λ_=>dJ [] l d (.ptr r a b p)
 |.ix g c=>(iR<|N0 d c).bind λ_=>dJ [] l d (.ix g c)
 |y=>match y.aK with
  |true=>dJ [] l d y
  |false=>match x.s with
   |some s=>(iR<|ne' s d).bind λ_=>dJ [] l d (.bH s x.sl.g1 x.sl.g2 [])
   |none=>none
def bG{e:qx}(h:b=true->dN l m e):dN l m ((iR b).bind λ_=>e):=by
 cases b with
 |true=>exact h W
 |false=>exact bN
def kv(l:bJ)(d:Nat)(x:SR):dN l (dL d x.den) (yj l d x):=by
 let⟨s,⟨v,g1,g2⟩,rt⟩:=x;have gen:∀v:SV,v.iF=true->dN l (dL d<|SR.den ⟨s,⟨v,g1,g2⟩,rt⟩) (match v.aK with
  |true=>dJ [] l d v
  |false=>match s with
   |some s=>(iR<|ne' s d).bind λ_=>dJ [] l d (.bH s g1 g2 [])
   |none=>none):=by
  intro v i;have hm:dL d (SR.den ⟨s,⟨v,g1,g2⟩,rt⟩)=if v.aK then some [.put d v.den]else match s with
   |some s=>if s=d then none else some [.put d<|.bH s g1 g2 []]
   |none=>none:=by
   have e:v.den.iF=true:=by rwa[nS]
   have:∀a:AV,a.iF=true->dL d ⟨s,⟨a,g1,g2⟩,rt.den⟩=if a.aK then some [.put d a]else match s with
    |some s=>if s=d then none else some [.put d<|.bH s g1 g2 []]
    |none=>none:=by
    intro a f;cases a<;>first|rfl|simp[AV.iF]at f
   have h:=this _ e;rwa[cO]at h
  rw[hm];cases v.aK with
  |true=>exact di λ_=>rfl
  |false=>
   cases s with
   |none=>exact bN
   |some s=>exact bG λc=>di λ_=>by simp[ne_iff.1 c,SV.den]
 cases v with
 |bH r a b p=>exact bG λc=>di λ_=>zaY
 |ptr r a b p=>exact bG λc=>di λ_=>zaY
 |ix g _=>exact bG λc=>di λ_=>by simp[dL,SR.den,Cl.den,SV.den,BM c]
 |_=>exact gen _ W
end
inductive Ty
 |int (k:IntKind)|bool|str
 |slice (e:TypeId)
 |array (n:Nat) (e:TypeId)
 |struct (fs:List (Nat×TypeId×Nat))
 |ptr|func|other
structure AL where
 agg:Bool
 size:Nat
 bytes:Nat
 zero:SV
def AL.den(i:AL):TI:=⟨i.agg,i.size,i.bytes,i.zero.den⟩
structure TE where
 un:Ty
 ti:Option AL
def Ty.ok(P:Program)(t:TypeId):Ty->Prop
 |.int k=>P.underlying t=some (.int k)
 |.bool=>P.underlying t=some .bool
 |.str=>P.underlying t=some .string
 |.slice e=>P.underlying t=some (.slice e)
 |.array n e=>P.underlying t=some (.array n e)
 |.struct g=>∃f,P.underlying t=some (.struct f)/\f.toList.mapM (λf=>(P.info? f.type).map λi=>(f.offset,f.type,i.size))=some g
 |.ptr=>∃e,P.underlying t=some (.pointer e)
 |.func=>∃a b c,P.underlying t=some (.func a b c)
 |.other=>True
def TE.ok(P:Program)(t:TypeId)(e:TE):Prop:=e.un.ok P t/\∀i,e.ti=some i->cC P t=some i.den
abbrev TT:=L<|Nat×TE
def ty?:TT->TypeId->Q TE
 |[],_=>none
 |(d,x)::l,i=>match Nat.beq i d with
  |true=>some x
  |false=>ty? l i
def dD(P:Program):TT->Prop
 |[]=>True
 |(t,e)::l=>e.ok P t/\dD P l
def dD.get{P:Program}:∀{tt:TT}{t:TypeId}{e:TE},dD P tt->ty? tt t=some e->e.ok P t
 |[],_,_,_,h=>by simp[ty?]at h
 |(d,x)::l,t,e,a,h=>by simp[ty?]at h;split at h;rename_i b;have:=agI b;subst this;cases h;exact a.1;exact dD.get a.2 h
def Jl(tt:TT)(t:TypeId):Q AL:=(ty? tt t).bind λe=>e.ti
def Hz(tt:TT)(t:TypeId):Q Ty:=(ty? tt t).bind λe=>some e.un
def slice?(tt:TT)(t:TypeId):Q TypeId:=(Hz tt t).bind λ|.slice e=>some e|_=>none
section
variable{P:Program}{tt:TT}{t:TypeId}
def eQ(h:dD P tt){i:AL}(hi:Jl tt t=some i):cC P t=some i.den:=by simp[Jl,abZ]at hi;let⟨e,b,a⟩:=hi;exact(h.get b).2 i a
def nK(h:dD P tt){u:Ty}(hi:Hz tt t=some u):u.ok P t:=by simp[Hz,abZ]at hi;obtain⟨e,a,rfl⟩:=hi;exact(h.get a).1
def yJ(h:dD P tt){e:TypeId}(hi:slice? tt t=some e):P.underlying t=some (.slice e):=by simp[slice?,abZ]at hi;let⟨u,b,a⟩:=hi;have:=nK h b;cases u<;>cases a;exact this
def oK(h:dD P tt){e:TypeId}(hi:slice? tt t=some e):dY P t=some e:=by simp[dY,yJ h hi]
end
def oa(ti:AL):SV->Bool
 |.agg xs=>fe ti.agg (Nat.beq (len xs) ti.size)
 |y=>fe (not' ti.agg)<|fe (Nat.beq ti.size 1) y.cell
def j6(ti:AL)(y:SV)(h:oa ti y=true):fits ti.den y.den=true:=by
 cases y with
 |agg a=>simp[oa,bL,fW]at h;simp[fits,SV.den,AL.den,h,bS]
 |_=>simp[oa,bL,not_iff]at h;simp[fits,SV.den,AL.den,h,AV.cell]<;>(try simp[SV.cell]at h)
section
variable{P:Program}{tt:TT}(hA:dD P tt)(l:bJ)(d:Nat)
def aw{α:Type _}{m:Q (L Mv)}{x:Q α}{f:α->qx}(h:∀a,x=some a->dN l m (f a)):dN l m (x.bind f):=by
 cases x with
 |none=>exact bN
 |some a=>grind
def Oa(ob:L Pd):qx->qx
 |some (a,l',b)=>some (app ob a,l',b)
 |none=>none
def po{m:Q (L Mv)}{ob:L Pd}{e:qx}(h:aj ob->dN l m e):dN l m (Oa ob e):=by
 intro a f g he hc;cases e with
 |none=>simp[Oa]at he
 |some q=>obtain⟨rfl,rfl,rfl⟩:=he;let⟨c,b⟩:=aY.1 hc;exact h c _ _ _ W b
def AV.aby:AV->Bool
 |.box _ _=>true
 |_=>false
def FM(l:bJ)(d:Nat)(x:SR):qx:=
 match x.sl.v with
 |.ptr r a b p=>(iR<|ne' r d).bind λ_=>dJ [] l d (.ptr r a b p)
 |.ix g e=>(iR<|N0 d e).bind λ_=>dJ [] l d (.ix g e)
 |.bH r _ _ p=>(dB x).bind λ(ob,y)=>match y.aK with
  |true=>dJ ob l d y
  |false=>match p with
   |[]=>(D7 l r d []).bind λ(c,_,f)=>some (app ob c,f,[r,d])
   |[.de i]=>(D7 l r d [.de i]).bind λ(c,_,f)=>some (app ob c,f,[r,d])
   |p=>(iR<|ne' r d).bind λ_=>(uK l r p).bind λ(c,f)=>L3 f d y.cK λh=>some (app ob c,h,[r,d])
 |.box b z=>match(SV.box b z).aK with
  |true=>dJ [] l d (.box b z)
  |false=>match x.s with
   |some s=>(iR<|ne' s d).bind λ_=>dJ [] l d (.bH s x.sl.g1 x.sl.g2 [])
   |none=>none
 |y=>match y.aK with
  |true=>dJ [] l d y
  |false=>match x.s with
   |some s=>(iR<|ne' s d).bind λ_=>pW [] l [s] d y
   |none=>none
def FL(x:SR):dN l (ey d x.den) (FM l d x):=by
 let⟨s,⟨v,g1,g2⟩,rt⟩:=x;unfold FM;have gen:∀v:SV,v.iF=true->v.den.aby=false->dN l (ey d<|SR.den ⟨s,⟨v,g1,g2⟩,rt⟩) (match v.aK with
  |true=>dJ [] l d v
  |false=>match s with
   |some s=>(iR<|ne' s d).bind λ_=>pW [] l [s] d v
   |none=>none):=by
  intro v H w;have hm:ey d (SR.den ⟨s,⟨v,g1,g2⟩,rt⟩)=if v.aK then some [.put d v.den]else match s with
   |some s=>if s=d then none else some [.make [s] d v.den]
   |none=>none:=by
   have M:v.den.iF=true:=by rw[nS];exact H
   have:∀a:AV,a.iF=true->a.aby=false->ey d ⟨s,⟨a,g1,g2⟩,rt.den⟩=if a.aK then some [.put d a]else match s with
    |some s=>if s=d then none else some [.make [s] d a]
    |none=>none:=by
    intro a N f;cases a<;>first|rfl|exact abK f (λh=>Bool.noConfusion h)|simp[AV.iF]at N
   have k:=this v.den M w;rw[cO]at k;exact k
  rw[hm];cases v.aK with
  |true=>exact di λ_=>rfl
  |false=>
   cases s with
   |none=>exact bN
   |some s=>exact bG λf=>lP λ_=>by simp[ne_iff.1 f]
 cases v with
 |bH r a b p=>
  intro ob n o he hc;simp[abZ,ahk]at he;let⟨e,y,q,he⟩:=he;have hm:∀c:(SR.den ⟨s,⟨.bH r a b p,g1,g2⟩,rt⟩).cont=some y.den,ey d (SR.den ⟨s,⟨.bH r a b p,g1,g2⟩,rt⟩)=if y.aK then some [.put d y.den]else match p with
   |[]=>some [.take r d []]
   |[.de i]=>some [.take r d [.de i]]
   |p=>if r=d then none else some [.share r p,.put d y.den.cK]:=by
   intro c;unfold ey;simp[SR.den,Cl.den,SV.den]at c⊢;rw[c];simp[cO]
   grind
  cases hn:y.aK with
  |true=>rw[hn]at he;simp[dJ,tf,abL,aeb]at he;obtain⟨rfl,rfl,rfl⟩:=he;have:=hm<|aH q hc;rw[hn]at this;exact⟨_,by simpa using this,pp,W⟩
  |false=>
   rw[hn]at he hm;simp[tf]at he;have C:∀p,((D7 l r d p).bind λ(x:L Pd×SV×bJ)=>some (app e x.1,x.2.2,[r,d]))=some (ob,n,o)->aj e/\Mv.run (dn l) (.take r d p)=some (dn n)/\o=[r,d]:=by intro p hh;simp[abZ,ahk,abL,aeb]at hh;obtain⟨u,O,F,A,rfl,rfl,rfl⟩:=hh;let⟨j,B⟩:=aY.1 hc;exact⟨j,AU A B,W⟩
   have sh:∀p,((iR<|ne' r d).bind λ_=>(uK l r p).bind λ(x:L Pd×bJ)=>some (app e x.1,Tq x.2 d y.cK,[r,d]))=some (ob,n,o)->
    aj e/\r≠d/\Mv.runs (dn l) [.share r p,.put d y.den.cK]=some (dn n)/\o=[r,d]:=by
    intro p hh;simp only[abZ,ahk,abL,aeb,bW,ne_iff]at hh;obtain⟨_,m,u,F,A,rfl,rfl,rfl⟩:=hh;let⟨j,B⟩:=aY.1 hc;refine⟨j,m,?_,W⟩;simp[Mv.runs];rw[mX A B];simp[Mv.run,gY,mA]
   split at he;obtain⟨j,k,rfl⟩:=C [] he;have:=hm<|aH q j;exact⟨_,by simpa using this,by simp[Mv.runs,k],W⟩;obtain⟨j,k,rfl⟩:=C _ he;have:=hm<|aH q j;exact⟨_,by simpa using this,by simp[Mv.runs,k],W⟩;rename_i K J;obtain⟨j,m,k,rfl⟩:=sh _ he;have:=hm<|aH q j;refine⟨_,?_,k,W⟩;simp_all
 |ptr r a b p=>exact bG λf=>di λ_=>by simp[ey,SR.den,Cl.den,SV.den,ne_iff.1 f]
 |ix g D=>exact bG λf=>di λ_=>by simp[ey,SR.den,Cl.den,SV.den,BM f,if_true]
 |box b z=>
  have hm:ey d (SR.den ⟨s,⟨.box b z,g1,g2⟩,rt⟩)=if(SV.box b z).den.aK then some [.put d (SV.box b z).den]else match s with
   |some s=>if s=d then none else some [.put d<|.bH s g1 g2 []]
   |none=>none:=W
  rw[hm,cO];show dN l _ (match(SV.box b z).aK with
   |true=>dJ [] l d (.box b z)
   |false=>match s with
    |some s=>(iR<|ne' s d).bind λ_=>dJ [] l d (.bH s g1 g2 [])
    |none=>none)
  cases(SV.box b z).aK with
  |true=>exact di λ_=>rfl
  |false=>
   cases s with
   |none=>exact bN
   |some s=>exact bG λf=>di λ_=>by simp[ne_iff.1 f,SV.den]
 |_=>exact gen _ W W
def PY(tt:TT)(l:bJ)(d:Nat)(t:TypeId)(x:SR):qx:=
 (Jl tt t).bind λti=>(Gz x).bind λ(ob,a)=>(iK a.v a.p).bind λ(b,y)=>(iR<|oa ti y).bind λ_=>match y.aK with
   |true=>dJ (app ob b) l d y
   |false=>(iR<|ne' a.r d).bind λ_=>match y.cell with
    |true=>dJ (app ob b) l d (.bH a.r a.g1 a.g2 a.p)
    |false=>(uK l a.r a.p).bind λ(c,f)=>L3 f d y.cK λe=>some (app (app ob b) c,e,[a.r,d])
def Kt(hA:dD P tt)(l:bJ)(d:Nat)(t:TypeId)(x:SR):dN l (vh P d t x.den) (PY tt l d t x):=by
 intro ob r s he hc;unfold PY at he;simp only[abZ,ahk,bW]at he;let⟨ti,p,h,a,o,g,y,n,_,m,he⟩:=he;have base:aj h->aj g->vh P d t x.den=if y.aK then some [.put d y.den]else if a.r=d then none else if y.cell then some [.put d<|.bH a.r a.g1 a.g2 a.p]else some [.share a.r a.p,.put d y.den.cK]:=by intro c b;unfold vh;simp[eQ hA p,lU o c,da n b,j6 _ _ m,cO,Gm]
 cases hn:y.aK with
 |true=>rw[hn]at he base;simp[dJ,tf,aeb]at he;obtain⟨rfl,rfl,rfl⟩:=he;let⟨c,b⟩:=aY.1 hc;exact⟨_,base c b,pp,W⟩
 |false=>
  rw[hn]at he base;simp only[abZ,bW,ne_iff]at he;let⟨_,e,he⟩:=he;cases f:y.cell with
  |true=>rw[f]at he base;simp[dJ,tf,aeb]at he;obtain⟨rfl,rfl,rfl⟩:=he;let⟨c,b⟩:=aY.1 hc;refine⟨_,by simpa[e]using base c b,?_,W⟩;have:=mA l d<|.bH a.r a.g1 a.g2 a.p;rw[<-this];rfl
  |false=>rw[f]at he base;simp[abZ,tf,aeb]at he;obtain⟨j,q,k,rfl,rfl,rfl⟩:=he;let⟨i,c3⟩:=aY.1 hc;let⟨c,b⟩:=aY.1 i;refine⟨_,by simpa[e]using base c b,?_,W⟩;simp[Mv.runs];rw[mX k c3];simp[Mv.run,gY,mA]
def Xg(s:Q Nat)(y:SV):Q (L Pd×SV×L Nat):=match y.aK with
 |true=>some ([],y,[])
 |false=>match s with
  |some s=>some ([],y,[s])
  |none=>none
def zX(x:SR):Q (L Pd×SV×L Nat):=
 match x.sl.v with
 |.bH r _ _ p=>(dB x).bind λ(ob,y)=>match y.aK with
  |true=>some (ob,y,[])
  |false=>match xZ p with
   |true=>some (ob,y,[r])
   |false=>none
 |.ptr .. =>none
 |.dead=>none
 |.ix .. =>none
 |y=>Xg x.s y
def rr{x:SR}{ob:L Pd}{y:SV}{M:L Nat}(h:zX x=some (ob,y,M))(hc:aj ob):fE x.den=some (y.den,M):=by
 let⟨s,⟨v,g1,g2⟩,rt⟩:=x;unfold zX at h;have gen:∀v:SV,v.iF=true->v≠.dead->Xg s v=some (ob,y,M)->fE (SR.den ⟨s,⟨v,g1,g2⟩,rt⟩)=some (y.den,M):=by
  intro v n c hh;have hm:fE (SR.den ⟨s,⟨v,g1,g2⟩,rt⟩)=if v.aK then some (v.den,[])else match s with
   |some s=>some (v.den,[s])
   |none=>none:=by
   have:∀a:AV,a.iF=true->a≠.dead->fE ⟨s,⟨a,g1,g2⟩,rt.den⟩=if a.aK then some (a,[])else match s with
    |some s=>some (a,[s])
    |none=>none:=by
    intro a k c;cases a<;>first|rfl|exact abK rfl c|simp[AV.iF]at k
   have m:=this _ (by rwa[nS]) (by intro e;apply c;cases v<;>simp[SV.den]at e⊢);rwa[cO]at m
  unfold Xg at hh
  grind
 cases v with
 |bH r a b p=>
  simp[abZ]at h;let⟨j,i,f,h⟩:=h;unfold fE;cases hn:i.aK with
  |true=>rw[hn]at h;cases h;have:=aH f hc;simp[SR.den,Cl.den,SV.den]at this⊢;simp[this,cO,hn]
  |false=>
   rw[hn]at h;cases p with
   |cons _ _=>simp[xZ]at h
   |nil=>obtain⟨rfl,rfl,rfl⟩:=h;have:=aH f hc;simp[SR.den,Cl.den,SV.den]at this⊢;simp[this,cO,hn]
 |ptr=>cases h
 |dead=>cases h
 |ix g _=>cases h
 |_=>exact gen _ W I h
def mI:L SR->Q (L Pd×L SV×L Nat)
 |[]=>some ([],[],[])
 |x::xs=>(zX x).bind λ(ob,y,M)=>(mI xs).bind λ(a,ys,N)=>(iR<|M.all λm=>not'<|N.any<|Nat.beq m).bind λ_=>some (app ob a,y::ys,cat M N)
def qb:∀{xs:L SR}{ob:L Pd}{ys:L SV}{M:L Nat},mI xs=some (ob,ys,M)->aj ob->ij (xs.map SR.den)=some (aE ys,M)
 |[],ob,ys,M,h,_=>by simp[mI]at h;obtain⟨-,rfl,rfl⟩:=h;rfl
 |x::xs,ob,ys,M,h,hc=>by simp only[mI,abZ,ahk,bW]at h;obtain⟨f,y,n,i,e,c,N,g,_,b,rfl,rfl,rfl⟩:=h;let⟨k,j⟩:=aY.1 hc;simp only[ad3,ij,rr i k,qb g j,dA,aE];rw[abx];rw[afY]at b⊢;intro m hm;have:=b m hm;rw[not_iff]at this;simp;intro a;rw[List.any_eq_false]at this;exact this m a I
def RR(tt:TT)(l:bJ)(t:TypeId)(a x:SR):qx:=
 (Jl tt t).bind λti=>(Gz a).bind λ(ob,b)=>(iK b.v b.p).bind λ(e,f)=>(iR<|fe (oa ti f)<|ne' ti.size 0).bind λ_=>(zX x).bind λ(c,y,M)=>(iR<|oa ti y).bind λ_=>Oa (app (app ob e) c)<|OI l b.r b.p M y
def G8(hA:dD P tt)(l:bJ)(t:TypeId)(a x:SR):dN l (xC P t a.den x.den) (RR tt l t a x):=by
 refine aw _ λti p=>aw _ λ⟨ob,g⟩o=>aw _ λ⟨j,s⟩n=>bG λe=>aw _ λ⟨i,y,M⟩m=>bG λk=>po _ λhc=>?_;let⟨f,c3⟩:=aY.1 hc;let⟨r,q⟩:=aY.1 f;rw[bL,ne_iff]at e;have b:ti.den.size≠0:=e.2;have hm:xC P t a.den x.den=some [.store g.r g.p M y.den]:=by unfold xC;simp[eQ hA p,lU o r,da n q,j6 _ _ e.1,rr m c3,j6 _ _ k];grind
 rw[hm];intro ob u v he c;let⟨r1,h⟩:=OH he c;exact⟨_,W,by simp[Mv.runs,r1],by simp[bA,Mv.keys,h]⟩
end
def MA{α c:Type}{g:α->Q c}:∀{l:L α}{r:L c},l.mapM g=some r->∀(i:Nat)(y:c),r[i]?=some y->∃x,l[i]?=some x/\g x=some y
 |[],r,h,i,y,a=>by grind
 |x::l,r,h,i,y,a=>by
  simp[abZ]at h;let⟨b,j,bs,f,e⟩:=h;cases e;cases i with
  |zero=>grind
  |succ i=>simpa using MA f i y a
def mapM_map{α a c:Type}{g:α->Q a}{k:a->c}:∀{l:L α}{r:L a},l.mapM g=some r->l.mapM (λx=>(g x).map k)=some (r.map k)
 |[],r,h=>by grind
 |x::l,r,h=>by simp[abZ]at h;let⟨b,i,bs,f,e⟩:=h;cases e;simp only[List.mapM_cons,i,mapM_map f];rfl
def Km(tt:TT)(t:TypeId)(f:Nat):Q (Nat×TypeId):=(Hz tt t).bind λ|.struct b=>(nth b f).bind λ(o,a,_)=>some (o,a)|_=>none
def FE{P:Program}{tt:TT}(hA:dD P tt){t:TypeId}{f o b:Nat}(h:Km tt t f=some (o,b)):qV P t f=some (o,b):=by
 simp[Km,abZ]at h;let⟨u,i,a⟩:=h;cases u<;>simp only[abZ,ahk]at a<;>try(cases a;done)
 let⟨k,j,sz,a,n⟩:=a;let⟨p,g,e⟩:=nK hA i;rw[pT]at a;let⟨x,m,c⟩:=MA e _ _ a;simp[qV];simp_all
 grind
def JQ(tt:TT)(t:TypeId):Q (L<|Nat×Nat):=(Hz tt t).bind λ|.struct a=>some (a.map λ(o,_,n)=>(o,n))|_=>none
def Tu{P:Program}{tt:TT}(hA:dD P tt){t:TypeId}{b:L (Nat×Nat)}(h:JQ tt t=some b):placesOf P t=some b:=by
 simp[JQ,abZ]at h;let⟨u,g,a⟩:=h;cases u<;>simp at a<;>try(cases a;done)
 subst a;let⟨i,e,c⟩:=nK hA g;simp[placesOf,e];have:=mapM_map (k:=λ(x:Nat×TypeId×Nat)=>(x.1,x.2.2)) c;rw[<-this]
 congr 1
 funext f
 cases P.info? f.type<;>rfl
def YO(ti:AL)(o:Nat):Step:=match ti.agg with
 |true=>.at o (some ti.size)
 |false=>.at o none
def AI(ti:AL)(o:Nat):kd ti.den o=YO ti o:=by unfold YO AL.den;cases ti.agg<;>rfl
section
variable{P:Program}{tt:TT}(hA:dD P tt)(l:bJ)(d:Nat)
def ze{m:Q (L Mv)}{ob:L Pd}{r g1 g2:Nat}{p:Path}(h:aj ob->m=some [.put d<|.ptr r g1 g2 p]):dN l m (dJ ob l d<|.ptr r g1 g2 p):=di λhc=>by simpa[SV.den]using h hc
def Sn{m:Q (L Mv)}{ob:L Pd}{r g1 g2:Nat}{p:Path}(h:aj ob->m=some [.put d<|.bH r g1 g2 p]):dN l m (dJ ob l d<|.bH r g1 g2 p):=di λhc=>by simpa[SV.den]using h hc
def CL(tt:TT)(l:bJ)(d:Nat)(t:TypeId)(x:SR)(f:Nat):qx:=
 (Km tt t f).bind λ(o,c)=>(Jl tt c).bind λti=>(Gz x).bind λ(ob,a)=>(iR<|fe (ne' a.r d)<|ne' ti.size 0).bind λ_=>match flat (a.p++[YO ti o])with
   |true=>dJ ob l d (.ptr a.r a.g1 a.g2<|a.p++[YO ti o])
   |false=>(iK a.v<|a.p++[YO ti o]).bind λ(b,_)=>dJ (app ob b) l d<|.ptr a.r a.g1 a.g2<|a.p++[YO ti o]
def Ae(hA:dD P tt)(l:bJ)(d:Nat)(t:TypeId)(x:SR)(f:Nat):dN l (lp P d t x.den f) (CL tt l d t x f):=by
 refine aw _ λ⟨o,p⟩h=>aw _ λti g=>aw _ λ⟨ob,q⟩e=>bG λb=>?_;rw[bL,ne_iff,ne_iff]at b;have a:ti.den.size≠0:=b.2;cases j:flat _ with
 |true=>refine ze _ _ λc=>?_;unfold lp;simp[FE hA h,eQ hA g,lU e c,b.1,a,AI,j]
 |false=>refine aw _ λ⟨i,y⟩k=>ze _ _ λc=>?_;let⟨n,m⟩:=aY.1 c;unfold lp;simp[FE hA h,eQ hA g,lU e n,b.1,a,AI,da k m]
def RV(tt:TT)(l:bJ)(d:Nat)(t:TypeId)(x:SR)(f:Nat):qx:=(Km tt t f).bind λ(o,b)=>(Jl tt b).bind λti=>(dB x).bind λ(ob,v)=>(iK v [YO ti o]).bind λ(a,y)=>(iR y.aK).bind λ_=>dJ (app ob a) l d y
def Hb(hA:dD P tt)(l:bJ)(d:Nat)(t:TypeId)(x:SR)(f:Nat):dN l (Bv P d t x.den f) (RV tt l d t x f):=by refine aw _ λ⟨o,m⟩i=>aw _ λti h=>aw _ λ⟨ob,v⟩g=>aw _ λ⟨a,y⟩e=>bG λb=>di λc=>?_;let⟨k,j⟩:=aY.1 c;unfold Bv;simp[FE hA i,eQ hA h,aH g k,AI,da e j,cO,b]
def vj:SV->Q (Nat×Nat)
 |.nil=>some (0,0)
 |.ints _ _ xs=>some (1,xs.length)
 |.strs _ xs=>some (1,xs.length)
 |.dt _ xs=>some (1,xs.length)
 |.bm _ sz _ _ xs=>some (sz,xs.length)
 |.row _ sz xs=>some (sz,len xs)
 |_=>none
def nn{y:SV}{sz n:Nat}(h:vj y=some (sz,n)):∃f X,y.den=.list f sz X/\X.length=n:=by
 cases y<;>try(cases h;done)
 all_goals(obtain⟨rfl,rfl⟩:=h;exact⟨_,_,W,by simp[bS,fW]⟩)
def SJ:SV->Q (Nat×Nat×Nat×Path×Nat×Nat×Nat)
 |.bH r g1 g2 p=>match Hx p with
  |some (q,sz,o,n)=>some (r,g1,g2,q,sz,o,n)
  |none=>none
 |_=>none
def PC:SV->Bool
 |.bH _ _ _ p=>lN p
 |_=>false
def SI{x:SR}(h:SJ x.sl.v=none):x.den.oC=none:=by
 let⟨s,⟨v,g1,g2⟩,rt⟩:=x;unfold cF.oC;cases v<;>simp[SR.den,Cl.den,SV.den];simp[SJ]at h
 grind
def SG{x:SR}{r g1 g2 sz o n c k:Nat}{q:Path}{ob:L Pd}{y:SV}(h:SJ x.sl.v=some (r,g1,g2,q,sz,o,n))(g:x.rt.g1=g1)(m:PC x.sl.v=true\/x.rt.g2=g2)
 (j:iK x.rt.v q=some (ob,y))(hc:aj ob)(hl:vj y=some (c,k))(e:sz=c)(hn:0<n)(p:o+n<=k):x.den.oC=some (r,g1,x.rt.g2,q,sz,o,n):=by
 let⟨s,⟨v,a,b⟩,rt⟩:=x;let⟨f,X,u,t⟩:=nn hl;have i:=da j hc;unfold cF.oC;cases v<;>simp[SJ]at h<;>try(cases h)
 split at h<;>try(cases h)
 rename_i hu;simp[PC]at g m;simp[SR.den,Cl.den,SV.den,i];simp_all
def IK(tt:TT)(l:bJ)(d:Nat)(t:TypeId)(x i:SR):qx:=
 (dB i).bind λ(ob,v)=>match v with
   |.n _ n=>(slice? tt t).bind λe=>(Jl tt e).bind λti=>match SJ x.sl.v with
    |some (r,g1,g2,q,sz,o,m)=>(iR<|fe (Nat.beq x.rt.g1 g1)<|Hk (PC x.sl.v)<|Nat.beq x.rt.g2 g2).bind λ_=>(iK x.rt.v q).bind λ(a,y)=>(vj y).bind λ(b,k)=>(iR<|fe (Nat.beq sz b)<|Nat.beq sz ti.size).bind λ_=>(iR<|ne' r d).bind λ_=>dJ ((0<=n)::(n<m)::(0<m)::(o+m<=k)::app ob a) l d (.ptr r g1 x.rt.g2<|q++[.idx (o+n.toNat) sz])
    |none=>(dB x).bind λ(a,y)=>(vj y).bind λ(sz,k)=>(iR<|Nat.beq sz ti.size).bind λ_=>(Bb x).bind λ(r,g1,g2,p)=>
    (iR<|ne' r d).bind λ_=>dJ ((0<=n)::(n<k)::app ob a) l d (.ptr r g1 g2<|p++[.idx n.toNat sz])
   |_=>none
def Dn(hA:dD P tt)(l:bJ)(d:Nat)(t:TypeId)(x i:SR):dN l (iJ P d t x.den i.den) (IK tt l d t x i):=by
 refine aw _ λ⟨ob,v⟩C=>?_;cases v<;>try exact bN
 refine aw _ λe B=>aw _ λti A=>?_;cases b:SJ _ with
 |some wp=>refine bG λj=>aw _ λ⟨k,y⟩q=>aw _ λ⟨D,M⟩o=>bG λh=>bG λn=>ze _ _ λc=>?_;let⟨z,w,K,J,c⟩:=c;let⟨u,s⟩:=aY.1 c;rw[bL,tW,beq_iff,beq_iff]at j;rw[bL,beq_iff,beq_iff]at h;have a:i.den.cont=some (.v _):=aH C u;unfold iJ;simp only[a,yJ hA B,eQ hA A,SG b j.1 j.2 q s o h.1 K J];rw[abx ⟨h.2,z,w⟩];simp[ne_iff.1 n]
 |none=>
 refine aw _ λ⟨k,y⟩j=>aw _ λ⟨sz,m⟩q=>bG λo=>aw _ λ⟨r,g1,g2,p⟩h=>bG λn=>ze _ _ λc=>?_;let⟨z,w,c⟩:=c;let⟨u,s⟩:=aY.1 c;let⟨f,X,H,F⟩:=nn q;unfold iJ;have a:i.den.cont=some (.v _):=aH C u;have g:=aH j s;rw[H]at g;simp only[a,yJ hA B,eQ hA A,SI b,g];rw[abx ⟨beq_iff.1 o,z,by rw[F];exact w⟩];simp[pS,h,ne_iff.1 n]
def FK(tt:TT)(l:bJ)(d:Nat)(len:Nat)(e:TypeId)(x i:SR):qx:=
 (dB i).bind λ(ob,v)=>match v with
   |.n _ n=>(Jl tt e).bind λti=>(Gz x).bind λ(c,a)=>(iR<|ne' a.r d).bind λ_=>(iK a.v<|a.p++[YO ti<|n.toNat*ti.size]).bind λ(b,_)=>dJ ((0<=n)::(n<len)::app ob (app c b)) l d (.ptr a.r a.g1 a.g2<|a.p++[YO ti<|n.toNat*ti.size])
   |_=>none
def BB(hA:dD P tt)(l:bJ)(d:Nat)(t:TypeId){len:Nat}{e:TypeId}(hu:Hz tt t=some (.array len e))(x i:SR):dN l (iJ P d t x.den i.den) (FK tt l d len e x i):=by
 refine aw _ λ⟨ob,v⟩o=>?_;cases v<;>try exact bN
 refine aw _ λti n=>aw _ λ⟨g,s⟩m=>bG λk=>aw _ λ⟨f,y⟩j=>ze _ _ λc=>?_;let⟨r,q,c⟩:=c;let⟨p,b⟩:=aY.1 c;let⟨b,c3⟩:=aY.1 b;have a:i.den.cont=some (.v _):=aH o p;have h:P.underlying t=some _:=nK hA hu;unfold iJ;simp only[a,h,eQ hA n,lU m b];have hs:ti.den.size=ti.size:=W;rw[abx ⟨r,q,ne_iff.1 k⟩];simp[AI,hs,da j c3]
def vz(tt:TT)(l:bJ)(d:Nat)(t:TypeId)(x i:SR):qx:=
 match Hz tt t with
 |some (.array len e)=>FK tt l d len e x i
 |_=>IK tt l d t x i
def Ad(hA:dD P tt)(l:bJ)(d:Nat)(t:TypeId)(x i:SR):dN l (iJ P d t x.den i.den) (vz tt l d t x i):=by unfold vz;split;rename_i h;exact BB hA l d t h x i;exact Dn hA l d t x i
def adK(x:cj)(i:Nat):(bs x)[i]?=x[i]?:=by by_cases h:i<x.length;rw[ad7 h,getElem?_pos _ i h];rfl;rw[agc E,getElem?_neg _ i h]
def RU(tt:TT)(l:bJ)(d:Nat)(t:TypeId)(x i:SR):qx:=
 (dB i).bind λ(ob,v)=>match v with
   |.n _ n=>(Hz tt t).bind λu=>match u with
    |.str=>(dB x).bind λ(a,y)=>match y with
     |.s s=>dJ ((0<=n)::(n<s.length)::app ob a) l d (.n .u8 (s.getD n.toNat 0).toNat)
     |_=>none
    |.array len e=>(Jl tt e).bind λti=>(dB x).bind λ(a,v)=>(iK v [YO ti<|n.toNat*ti.size]).bind λ(b,y)=>(iR y.aK).bind λ_=>dJ ((0<=n)::(n<len)::app ob (app a b)) l d y
    |_=>none
   |_=>none
def Ha(hA:dD P tt)(l:bJ)(d:Nat)(t:TypeId)(x i:SR):dN l (x8 P d t x.den i.den) (RU tt l d t x i):=by
 refine aw _ λ⟨ob,v⟩n=>?_;cases v<;>try exact bN
 refine aw _ λu m=>?_;cases u<;>try exact bN
 case array len e=>refine aw _ λti g=>aw _ λ⟨b,v⟩s=>aw _ λ⟨k,y⟩r=>bG λq=>di λc=>?_;let⟨j,o,c⟩:=c;let⟨h,a⟩:=aY.1 c;let⟨a,c3⟩:=aY.1 a;have f:i.den.cont=some (.v _):=aH n h;have p:P.underlying t=some _:=nK hA m;have hs:ti.den.size=ti.size:=W;unfold x8;simp only[f,p,eQ hA g,aH s a];rw[abx ⟨j,o⟩];simp[AI,hs,da r c3,cO,q]
 refine aw _ λ⟨b,y⟩g=>?_;cases y<;>try exact bN
 refine di λc=>?_;let⟨j,o,c⟩:=c;let⟨h,a⟩:=aY.1 c;have hu:P.underlying t=some _:=nK hA m;unfold x8;simp[aH n h,aH g a,adK,SV.den];simp_all
def IL(l:bJ)(d:Nat)(x:SR)(i:Nat):qx:=
 (dB x).bind λ(ob,v)=>match v with
   |.de a=>(nth a i).bind λy=>match y.aK with
    |true=>dJ ob l d y
    |false=>(Bb x).bind λ(r,g1,g2,p)=>(iR<|fe (ne' r d)<|xZ p).bind λ_=>dJ ob l d (.bH r g1 g2 [.de i])
   |_=>none
def Dp(x:SR)(i:Nat):dN l (qh d x.den i) (IL l d x i):=by
 refine aw _ λ⟨ob,v⟩e=>?_;cases v<;>try exact bN
 refine aw _ λy a=>?_;rw[pT]at a;cases hn:y.aK with
 |true=>refine di λc=>?_;unfold qh;have hc:x.den.cont=some (.de _):=aH e c;simp[hc,jC,a,cO,hn]
 |false=>
  refine aw _ λ⟨r,g1,g2,p⟩g=>bG λb=>Sn _ _ λc=>?_;rw[bL,ne_iff]at b;have f:p=[]:=by cases p<;>simp_all[xZ]
  subst f;unfold qh;have hc:x.den.cont=some (.de _):=aH e c;simp[hc,jC,a,cO,hn,pS,g];grind
def ado(a:Int):Prop:= -(2^63)<=a/\a<=9223372036854775807
def rI{a:Int}(h:ado a):IntKind.i64.wrap a=a:=IntWalk.i64_in a ⟨h.1,h.2⟩
def num(b:Bool)(k:IntKind)(a:Int):L Pd×SV:=match b,k with
 |false,.i64=>([-(2^63)<=a,a<=9223372036854775807],.n .i64 a)
 |_,k=>([],.n k<|k.wrap a)
def zI{b:Bool}{k:IntKind}{a:Int}(h:aj (num b k a).1):(num b k a).2.den=.v (.int k<|k.wrap a):=by unfold num at h⊢;split;simp[aj]at h;simp[SV.den,rI h];rfl
def abP(tt:TT)(a:Bool)(l:bJ)(d:Nat)(s t:TypeId)(x:SR):qx:=
 (Hz tt s).bind λu=>(Hz tt t).bind λc=>(dB x).bind λ(ob,v)=>match v with
   |.n _ n=>match u,c with
    |.int _,.int k=>match num a k n with
     |(b,y)=>dJ (app ob b) l d y
    |_,_=>none
   |.s x=>match u,c with
    |.str,.str=>dJ ob l d (.s x)
    |_,_=>none
   |_=>none
def NR(hA:dD P tt)(l:bJ)(d:Nat)(a:Bool)(s t:TypeId)(x:SR):dN l (Gd P d s t x.den) (abP tt a l d s t x):=by
 refine aw _ λu i=>aw _ λf h=>aw _ λ⟨ob,v⟩g=>?_;cases v<;>try exact bN
 rename_i k n;cases u<;>try exact bN
 cases f<;>try exact bN
 have e:P.underlying s=some _:=nK hA i;have b:P.underlying t=some _:=nK hA h;simp only;refine di λc=>?_;let⟨m,j⟩:=aY.1 c;have hc:x.den.cont=some (.v _):=aH g m;simp[Gd,e,b,hc,zI j];cases u<;>try exact bN
 cases f<;>try exact bN
 have e:P.underlying s=some _:=nK hA i;have b:P.underlying t=some _:=nK hA h;refine di λc=>?_;simp[Gd,e,b,aH g c,SV.den]
end
def Lg(b:ByteArray):∀(n i:Nat)(r:L UInt8),b.size-i=n->ByteArray.toList.loop b i r=r.reverse++b.data.toList.drop i:=by
 intro n
 induction n with
 |zero=>intro i r h;unfold ByteArray.toList.loop;have:¬i<b.size:=E;rw[abl this];simp_all
 |succ n a=>
  intro i r h;unfold ByteArray.toList.loop;have c:i<b.size:=E;rw[ad5 c];have:b.get! i=b.data.toList[i]:=by unfold ByteArray.get!;simp_all
  grind
def toList_data(b:ByteArray):b.toList=b.data.toList:=by unfold ByteArray.toList;rw[Lg b _ 0 [] W];simp
def Sm(x:cj):(bs x).toList=x:=by rw[toList_data];simp[bs]
def Az(x:cj):(bs x).size=x.length:=gq
def UE(x y:cj):bs (x++y)=bs x++bs y:=by rfl
def Qs(x:cj)(l h:Nat):bs ((x.take h).drop l)=(bs x).extract l h:=by apply ByteArray.ext;simp[bs];rw[List.drop_take]
def ade(c:Bool)(op:BinOp)(k:IntKind)(a b:Int):Q (L Pd×SV):=
 match op with
 |.add=>some (num c k<|a+b)
 |.sub=>some (num c k<|a-b)
 |.mul=>some (num c k<|a*b)
 |.quo=>match c,k with
  |false,.i64=>some ([0<=a,a<=9223372036854775807,0<b],.n .i64<|a/b)
  |_,k=>some ([b≠0],.n k<|k.wrap<|a.tdiv b)
 |.rem=>match c with
  |false=>some ([0<=a,0<b],.n k<|a%b)
  |true=>some ([b≠0],.n k<|a.tmod b)
 |.and=>some ([],.n k<|k.wrap (BitVec.ofInt k.bits a&&&BitVec.ofInt k.bits b).toNat)
 |.or=>some ([],.n k<|k.wrap (BitVec.ofInt k.bits a|||BitVec.ofInt k.bits b).toNat)
 |.xor=>some ([],.n k<|k.wrap (BitVec.ofInt k.bits a^^^BitVec.ofInt k.bits b).toNat)
 |.andNot=>some ([],.n k<|k.wrap (BitVec.ofInt k.bits a&&& ~~~ BitVec.ofInt k.bits b).toNat)
 |.eql=>some ([],.u<|decide (a=b))
 |.neq=>some ([],.u<|decide (¬a=b))
 |.lss=>some ([],.u<|decide (a<b))
 |.leq=>some ([],.u<|decide (a<=b))
 |.gtr=>some ([],.u<|decide (b<a))
 |.geq=>some ([],.u<|decide (b<=a))
 |_=>none
def VE(op:BinOp)(k:IntKind)(a b:Int):Q (L Pd×SV):=
 match op with
 |.shl=>some ([0<=b],.n k<|k.wrap<|a*2^min b.toNat k.bits)
 |.shr=>some ([0<=b],.n k<|a.fdiv<|2^min b.toNat k.bits)
 |_=>none
def aez(op:BinOp)(a b:cj):Q (L Pd×SV):=
 match op with
 |.add=>some ([((a.length+b.length:Nat):Int)<=9223372036854775807],.s<|a++b)
 |.eql=>some ([],.u<|decide (a=b))
 |.neq=>some ([],.u<|decide (¬a=b))
 |.lss=>some ([],.u<|Op.bytesLess a b)
 |_=>none
def I8(op:BinOp)(a b:Bool):Q (L Pd×SV):=
 match op with
 |.eql=>some ([],.u<|decide (a=b))
 |.neq=>some ([],.u<|decide (¬a=b))
 |_=>none
def isBool:Q Ty->Bool
 |some .bool=>true
 |_=>false
def RA:BinOp->Bool
 |.shl=>true
 |.shr=>true
 |_=>false
def asBool(op:BinOp)(b:Bool):Q SV:=
 match op with
 |.eql=>some (.b b)
 |.neq=>some (.b<|not' b)
 |_=>none
def Vy:SV->Q Pd
 |.ints _ _ xs=>some (xs≠[])
 |.strs _ xs=>some (xs≠[])
 |.dt _ xs=>some (xs≠[])
 |.bm _ _ _ _ xs=>some (xs≠[])
 |.row _ _ (_::_)=>some True
 |_=>none
def ac3(tt:TT)(op:BinOp)(t:TypeId)(x y:SV):Q (L Pd×SV):=
 match y with
 |.nil=>match Hz tt t with
  |some (.slice _)=>match x with
   |.nil=>match asBool op true with
    |some z=>some ([],z)
    |none=>none
   |.gh _ a=>match op with
    |.eql=>some ([],.u<|decide (a=[]))
    |.neq=>some ([],.u<|decide (a≠[]))
    |_=>none
   |x=>match Vy x with
    |some p=>match asBool op false with
     |some z=>some ([p],z)
     |none=>none
    |none=>none
  |_=>none
 |.c (.pointer none)=>match Hz tt t with
  |some .ptr=>match x with
   |.box _ _=>match asBool op false with
    |some z=>some ([],z)
    |none=>none
   |.c (.pointer none)=>match asBool op true with
    |some z=>some ([],z)
    |none=>none
   |_=>none
  |_=>none
 |.c .nilFunc=>match Hz tt t with
  |some .func=>match x with
   |.fn _ _ _=>match asBool op false with
    |some z=>some ([],z)
    |none=>none
   |.c .nilFunc=>match asBool op true with
    |some z=>some ([],z)
    |none=>none
   |_=>none
  |_=>none
 |_=>none
def adO(tt:TT)(c:Bool)(op:BinOp)(t:TypeId)(x y:SV):Q (L Pd×SV):=
 match x,y with
 |.n k a,.n d b=>match RA op with
  |true=>VE op k a b
  |false=>match xY k d with
   |true=>ade c op k a b
   |false=>none
 |.s a,.s b=>aez op a b
 |.b a,.b b=>match isBool (Hz tt t)with
  |true=>I8 op a b
  |false=>none
 |.u a,.b b=>match isBool (Hz tt t)with
  |true=>I8 op a b
  |false=>none
 |.b a,.u b=>match isBool (Hz tt t)with
  |true=>I8 op a b
  |false=>none
 |.u a,.u b=>match isBool (Hz tt t)with
  |true=>I8 op a b
  |false=>none
 |x,y=>ac3 tt op t x y
section
variable{P:Program}{tt:TT}(hA:dD P tt)
def W6{d:Bool}{op:BinOp}{k:IntKind}{a b:Int}{ob:L Pd}{y:SV}(t:TypeId)(hs:RA op=false)(h:ade d op k a b=some (ob,y))(hc:aj ob):
 og P op t (.v<|.int k a) (.v<|.int k b)=some y.den:=by
 have key:∃v,A4 P op t (.int k a) (.int k b)=some v/\AV.v v=y.den:=by
  unfold A4;cases op<;>simp only[ade,abL]at h hs⊢ <;>try(cases h;done)
  case add=>obtain⟨rfl,rfl⟩:=ai5 h;exact⟨_,abx U,(zI hc).symm⟩
  case sub=>obtain⟨rfl,rfl⟩:=ai5 h;exact⟨_,abx U,(zI hc).symm⟩
  case mul=>obtain⟨rfl,rfl⟩:=ai5 h;exact⟨_,abx U,(zI hc).symm⟩
  case quo=>split at h;cases h;obtain⟨c,l,c3,-⟩:=hc;have f:b≠0:=E;have e:a.tdiv b=a/b:=aiI c;have i:0<=a/b:=aiJ c E;have g:a/b<=a:=Int.ediv_le_self _ c;have j:IntKind.i64.wrap _=a/b:=rI ⟨E,E⟩;refine⟨.int _ _,?_,W⟩;simp[f,e,j];cases h;exact⟨_,by simp[hc.1],W⟩
  case rem=>split at h;cases h;obtain⟨c,l,-⟩:=hc;have f:b≠0:=E;have e:a.tmod b=a%b:=Int.tmod_eq_emod_of_nonneg c;exact⟨.int k _,by simp[f,e],W⟩;cases h;exact⟨_,by simp[hc.1],W⟩
  all_goals
   obtain⟨rfl,rfl⟩:=ai5 h
   first
    |rfl
    |(simp only[SV.den,bne];by_cases e:a=b<;>simp[e])
 let⟨v,i,g⟩:=key;simp[og,i,g]
def OQ{op:BinOp}{k c:IntKind}{a b:Int}{ob:L Pd}{y:SV}(t:TypeId)(h:VE op k a b=some (ob,y))(hc:aj ob):
 og P op t (.v<|.int k a) (.v<|.int c b)=some y.den:=by
 cases op<;>try(cases h;done)
 all_goals
  cases h;simp[aj]at hc;have:¬b<0:=E;simp[og,A4,this,SV.den]
def Vs{op:BinOp}{a b:cj}{ob:L Pd}{y:SV}(t:TypeId)(h:aez op a b=some (ob,y))(hc:aj ob):
 og P op t (.v<|.string<|bs a) (.v<|.string<|bs b)=some y.den:=by
 cases op<;>try(cases h;done)
 all_goals
  cases h
 case add=>
  simp[aj]at hc;have:¬(((bs a).size+(bs b).size:Nat):Int)>IntKind.i64.max:=by rw[Az,Az];simp_all
  simp only[og,A4,this,if_false,SV.den,UE]
 case lss=>simp[og,A4,SV.den,Sm]
 all_goals
  simp[og,A4,SV.den,Sm]
  grind
def UH{op:BinOp}{a b:Bool}{ob:L Pd}{y:SV}{t:TypeId}(hu:P.underlying t=some .bool)(h:I8 op a b=some (ob,y)):
 og P op t (.v<|.bool a) (.v<|.bool b)=some y.den:=by
 cases op<;>try(cases h;done)
 all_goals
  cases h;cases a<;>simp[og,A4,hu,SV.den]
def nB{op:BinOp}{b:Bool}{z:SV}(h:asBool op b=some z):Ps op (some b)=some z.den:=by
 cases op<;>try(cases h;done)
 all_goals
  cases h;cases b<;>rfl
def abC(o:Bool):fl o≠.nil:=by cases o<;>simp[fl]
def S6{x:SV}{p:Pd}(h:Vy x=some p)(b:p.p):∃f sz X,x.den=.list f sz X/\f≠.nil/\X.isEmpty=false:=by
 cases x<;>simp[Vy]at h<;>try(cases h;done)
 case row o _ a=>
  cases a with
  |nil=>cases h
  |cons x a=>exact⟨_,_,_,W,abC _,W⟩
 all_goals
  subst h;refine⟨_,_,_,W,abC _,?_⟩;simp_all
def Wv(hA:dD P tt){op:BinOp}{t:TypeId}{x y z:SV}{ob:L Pd}(h:ac3 tt op t x y=some (ob,z))(hc:aj ob):og P op t x.den y.den=some z.den:=by
 unfold ac3 at h;split at h<;>try(cases h)
 ·split at h<;>try(cases h)
  rename_i e hu;have hu:P.underlying t=some (.slice e):=nK hA hu;split at h
  ·split at h<;>try(cases h;done)
   rename_i g d;cases h;have:=nB d;simpa[og,isNil,SV.den,hu]using this
  ·rename_i j;cases op<;>try(cases h;done)
   all_goals
    obtain⟨-,rfl⟩:=h;cases j<;>simp[og,isNil,SV.den,flm,szm,hu,Ps]
  split at h<;>try(cases h)
  rename_i p k;split at h<;>try(cases h;done)
  rename_i g d;cases h;simp[aj,abu]at hc;have:=nB d;let⟨f,sz,X,m,l,i⟩:=S6 k hc;rw[m];cases f with
  |nil=>exact abK W l
  |shr=>simpa[og,isNil,SV.den,hu,i]using this
  |own=>simpa[og,isNil,SV.den,hu,i]using this
 ·split at h<;>try(cases h)
  rename_i hu;obtain⟨e,hu⟩:∃e,P.underlying t=some (.pointer e):=nK hA hu;split at h<;>try(cases h)
  ·split at h<;>try(cases h;done)
   rename_i g d;cases h;have:=nB d;simpa[og,isNil,SV.den,hu]using this
  split at h<;>try(cases h;done)
  rename_i g d;cases h;have:=nB d;simpa[og,A4,isNil,SV.den,hu]using this
 split at h<;>try(cases h;done)
 rename_i hu;obtain⟨a,b,c,hu⟩:∃a b c,P.underlying t=some (.func a b c):=nK hA hu;split at h<;>try(cases h;done)
 ·split at h<;>try(cases h;done)
  rename_i g d;cases h;have:=nB d;simpa[og,isNil,SV.den,hu]using this
 split at h<;>try(cases h;done)
 rename_i g d;cases h;have:=nB d;simpa[og,A4,isNil,SV.den,hu]using this
def X4(hA:dD P tt){d:Bool}{op:BinOp}{t:TypeId}{x y z:SV}{ob:L Pd}(h:adO tt d op t x y=some (ob,z))(hc:aj ob):og P op t x.den y.den=some z.den:=by
 have c:∀a b:Bool,(match isBool (Hz tt t)with
  |true=>I8 op a b
  |false=>none)=some (ob,z)->og P op t (.v<|.bool a) (.v<|.bool b)=some z.den:=by
  intro a b h;split at h<;>try(cases h)
  rename_i e;have hu:P.underlying t=some .bool:=by unfold isBool at e;split at e;rename_i hu;exact nK hA hu;cases e
  exact UH hu h
 unfold adO at h;split at h;split at h;exact OQ t h hc;rename_i hs;split at h<;>try(cases h)
 rename_i f;have:=rZ f;subst this;exact W6 t hs h hc;exact Vs t h hc;exact c _ _ h;exact c _ _ h;exact c _ _ h;exact c _ _ h;exact Wv hA h hc
def ab6(a:Bool)(op:UnOp)(x:SV):Q (L Pd×SV):=
 match op,x with
 |.neg,.n k n=>some (num a k<|0-n)
 |.xor,.n k n=>some ([],.n k<|k.wrap (BitVec.ofInt k.bits (if k.signed then -1 else k.max)^^^BitVec.ofInt k.bits n).toNat)
 |.not,.b b=>some ([],.b<|not' b)
 |.not,.u b=>some ([],.u<|!b)
 |_,_=>none
def Va{a:Bool}{op:UnOp}{x y:SV}{ob:L Pd}(h:ab6 a op x=some (ob,y))(hc:aj ob):∃v w,x.den=.v v/\uno op v=some w/\y.den=.v w:=by
 unfold ab6 at h;split at h<;>try(cases h;done)
 simp only[abL]at h;obtain⟨rfl,rfl⟩:=ai5 h;exact⟨_,_,W,W,zI hc⟩;cases h;exact⟨_,_,W,W,W⟩;cases h;rename_i b;refine⟨_,_,W,W,?_⟩;cases b<;>rfl;cases h;exact⟨_,_,W,W,W⟩
def abJ(tt:TT)(c:Bool)(l:bJ)(d:Nat)(op:BinOp)(t:TypeId)(x y:SR):qx:=(dB x).bind λ(ob,a)=>(dB y).bind λ(f,b)=>(adO tt c op t a b).bind λ(e,z)=>dJ (app e<|app ob f) l d z
def Nt(hA:dD P tt)(e:Bool)(l:bJ)(d:Nat)(op:BinOp)(t:TypeId)(x y:SR):dN l (aa1 P d op t x.den.cont y.den.cont) (abJ tt e l d op t x y):=by refine aw _ λ⟨ob,a⟩k=>aw _ λ⟨h,b⟩j=>aw _ λ⟨g,z⟩i=>di λc=>?_;let⟨c3,f⟩:=aY.1 c;let⟨n,m⟩:=aY.1 f;simp[aa1,aH k n,aH j m,X4 hA i c3]
def afB(b:Bool)(l:bJ)(d:Nat)(op:UnOp)(x:SR):qx:=(dB x).bind λ(ob,a)=>(ab6 b op a).bind λ(c,z)=>dJ (app c ob) l d z
def PX(b:Bool)(l:bJ)(d:Nat)(op:UnOp)(x:SR):dN l (un1 d op x.den.cont) (afB b l d op x):=by refine aw _ λ⟨ob,a⟩g=>aw _ λ⟨e,z⟩f=>di λc=>?_;let⟨k,m⟩:=aY.1 c;let⟨v,w,j,i,h⟩:=Va f k;have:=aH g m;rw[j]at this;simp[un1,this,i,h]
def Xs(l:bJ)(d:Nat)(c x y:SR):qx:=
 (dB c).bind λ(ob,a)=>match a with
   |.b true=>Oa ob (yj l d x)
   |.b false=>Oa ob (yj l d y)
   |_=>none
def Ks(l:bJ)(d:Nat)(c x y:SR):dN l (abp d c.den.cont x.den y.den) (Xs l d c x y):=by
 refine aw _ λ⟨ob,a⟩f=>?_;cases a<;>try exact bN
 rename_i b;cases b;refine po _ λe=>?_;have:=aH f e;simp[this];exact kv l d y;refine po _ λe=>?_;have:=aH f e;simp[this];exact kv l d x
end
section
variable{P:Program}{tt:TT}(hA:dD P tt)(l:bJ)(d:Nat)
def Xu(l:bJ)(d:Nat)(u:Ty)(ob:L Pd)(v:SV):qx:=(vj v).bind λ(_,n)=>match u with
 |.slice _=>dJ ob l d (.n .i64 n)
 |_=>none
def abH(tt:TT)(l:bJ)(d:Nat)(t:TypeId)(x:SR):qx:=
 (dB x).bind λ(ob,v)=>(Hz tt t).bind λu=>match v with
   |.s s=>match u with
    |.str=>dJ ob l d (.n .i64 s.length)
    |_=>none
   |v=>Xu l d u ob v
def Nr(hA:dD P tt)(l:bJ)(d:Nat)(t:TypeId)(b:L TypeId)(x:SR):dN l (l8 P d .len (t::b) [x.den]) (abH tt l d t x):=by
 refine aw _ λ⟨ob,v⟩a=>aw _ λu e=>?_;have gen:∀v,dB x=some (ob,v)->dN l (l8 P d .len (t::b) [x.den]) (Xu l d u ob v):=by
  intro v a;refine aw _ λ⟨sz,n⟩g=>?_;cases u<;>try exact bN
  refine di λc=>?_;let⟨f,X,i,h⟩:=nn g;have hc:=aH a c;rw[i]at hc;have hu:P.underlying t=some _:=nK hA e;simp[l8,hc,hu,h,SV.den]
 cases v with
 |s s=>
  cases u<;>try exact bN
  refine di λc=>?_;have hu:P.underlying t=some _:=nK hA e;simp[l8,aH a c,hu,Az,SV.den]
 |_=>grind
def wT(op:Bool)(a b:Int):Int:=match op with
 |true=>min a b
 |false=>max a b
def Xt(op:Bool)(l:bJ)(d:Nat)(x y:SR):qx:=
 (dB x).bind λ(ob,a)=>(dB y).bind λ(c,b)=>match a,b with
   |.n k a,.n e b=>(iR<|xY k e).bind λ_=>dJ (app ob c) l d (.n k<|wT op a b)
   |_,_=>none
def CJ(op:Bool)(e:L TypeId)(x y:SR):dN l (l8 P d (if op then .min else .max) e [x.den,y.den]) (Xt op l d x y):=by
 refine aw _ λ⟨ob,a⟩i=>aw _ λ⟨f,b⟩h=>?_;cases a<;>try exact bN
 cases b<;>try exact bN
 refine bG λg=>di λc=>?_;have:=rZ g;subst this;let⟨k,j⟩:=aY.1 c;cases op
 all_goals simp[l8,aH i k,aH h j,SV.den,wT]
def P3(ti:AL):SV->Q (L Pd×Bool)
 |.ints .. =>(iR<|fe (not' ti.agg)<|Nat.beq ti.size 1).bind λ_=>some ([],true)
 |.strs .. =>(iR<|fe (not' ti.agg)<|Nat.beq ti.size 1).bind λ_=>some ([],true)
 |.dt .. =>(iR<|fe (not' ti.agg)<|Nat.beq ti.size 1).bind λ_=>some ([],true)
 |.row _ sz xs=>(iR<|fe (Nat.beq sz ti.size)<|xs.all<|oa ti).bind λ_=>some ([],iG xs)
 |.bm _ sz _ e _=>(iR<|Nat.beq sz ti.size).bind λ_=>some ([.of<|∀x,oa ti (e x)=true,.of<|∀x,(e x).aK=true],true)
 |_=>none
def ng:SV->Bool
 |.ints _ o _=>o
 |.strs o _=>o
 |.dt o _=>o
 |.row o _ _=>o
 |.bm o _ _ _ _=>o
 |_=>false
def pf{xs:L AV}(h:∀x∈xs,x.aK=true):cz xs=true:=by
 induction xs with
 |nil=>rfl
 |cons x _ a=>simp[cz];grind
def P2{ti:AL}{y:SV}{ob:L Pd}{g:Bool}(h:P3 ti y=some (ob,g))(hc:aj ob):
 ∃X,y.den=.list (fl<|ng y) ti.size X/\X.all (fits ti.den)=true/\cz X=g:=by
 unfold P3 at h;cases y<;>simp only[abZ,bW,bL,not_iff,beq_iff]at h<;>try(cases h;done)
 case row o sz f=>obtain⟨_,⟨rfl,c⟩,rfl,rfl⟩:=h;refine⟨aE f,W,?_,ff f⟩;rw[afY]at c⊢;intro x a;rw[dh]at a;obtain⟨y,b,rfl⟩:=ab4.1 a;exact j6 ti y<|c y b
 case bm o sz j k e f=>obtain⟨_,rfl,rfl,rfl⟩:=h;refine⟨_,W,?_,pf ?_⟩;rw[afY];intro x a;obtain⟨y,b,rfl⟩:=ab4.1 a;exact j6 ti _<|hc.1 y;intro x a;obtain⟨y,b,rfl⟩:=ab4.1 a;rw[cO];exact hc.2.1 y
 all_goals
  obtain⟨_,⟨i,c⟩,rfl,rfl⟩:=h;refine⟨_,by rw[c];rfl,?_,pf ?_⟩;rw[afY];intro x a;obtain⟨y,b,rfl⟩:=ab4.1 a;simp[fits,AL.den,i,c,AV.cell];intro x a;obtain⟨y,b,rfl⟩:=ab4.1 a;rfl
def aaV:SV->SV->Q (L Pd×SV)
 |.nil,.ints k _ ys=>some ([ys≠[]],.ints k true ys)
 |.nil,.strs _ ys=>some ([ys≠[]],.strs true ys)
 |.nil,.dt _ ys=>some ([ys≠[]],.dt true ys)
 |.nil,.bm _ sz d e ys=>some ([ys≠[]],.bm true sz d e ys)
 |.nil,.row _ sz (y::ys)=>some ([],.row true sz<|y::ys)
 |.ints k true xs,.ints b _ ys=>(iR<|xY k b).bind λ_=>some ([],.ints k true<|xs++ys)
 |.strs true xs,.strs _ ys=>some ([],.strs true<|xs++ys)
 |.dt true xs,.dt _ ys=>some ([],.dt true<|xs++ys)
 |.row true sz xs,.row _ _ ys=>some ([],.row true sz<|cat xs ys)
 |.row true sz [],.ints k _ ys=>(iR<|Nat.beq sz 1).bind λ_=>some ([],.ints k true ys)
 |.row true sz [],.strs _ ys=>(iR<|Nat.beq sz 1).bind λ_=>some ([],.strs true ys)
 |.row true sz [],.dt _ ys=>(iR<|Nat.beq sz 1).bind λ_=>some ([],.dt true ys)
 |.row true sz [],.bm _ a d e ys=>(iR<|Nat.beq sz a).bind λ_=>some ([],.bm true a d e ys)
 |.row true sz (x::xs),.bm _ _ _ e ys=>some ([],.row true sz<|cat (x::xs)<|ys.map e)
 |.bm true sz _ e xs,.row _ _ ys=>some ([],.row true sz<|cat (xs.map e) ys)
 |.bm true sz _ e xs,.bm _ _ _ e' ys=>some ([],.row true sz<|cat (xs.map e)<|ys.map e')
 |_,_=>none
def XZ{a b z:SV}{ob:L Pd}{f:Fl}{sz:Nat}{Y:L AV}(h:aaV a b=some (ob,z))(hc:aj ob)(c:b.den=.list f sz Y):
 (a=.nil/\Y.isEmpty=false/\z.den=.list .own sz Y)\/(a≠.nil/\∃e X,a.den=.list .own e X/\z.den=.list .own e (X++Y)):=by
 unfold aaV at h;split at h
 all_goals try(cases h;done)
 all_goals obtain⟨rfl,rfl,rfl⟩:=c
 all_goals simp only[abZ,bW,abL]at h
 obtain⟨rfl,rfl⟩:=h;left;refine⟨W,?_,W⟩;simpa[aj]using hc;obtain⟨rfl,rfl⟩:=h;left;refine⟨W,?_,W⟩;simpa[aj]using hc;obtain⟨rfl,rfl⟩:=h;left;refine⟨W,?_,W⟩;simpa[aj]using hc;obtain⟨rfl,rfl⟩:=h;left;refine⟨W,?_,W⟩;simpa[aj]using hc;obtain⟨rfl,rfl⟩:=h;left;exact mv;obtain⟨_,g,rfl,rfl⟩:=h;have:=rZ g;subst this;right;exact⟨I,_,_,W,by simp[SV.den,fl]⟩;obtain⟨rfl,rfl⟩:=h;right;exact⟨I,_,_,W,by simp[SV.den,fl]⟩;obtain⟨rfl,rfl⟩:=h;right;exact⟨I,_,_,W,by simp[SV.den,fl]⟩;obtain⟨rfl,rfl⟩:=h;right;exact⟨I,_,_,W,qo⟩;obtain⟨_,c,rfl,rfl⟩:=h;rw[beq_iff]at c;subst c;right;exact⟨I,_,_,W,ki⟩;obtain⟨_,c,rfl,rfl⟩:=h;rw[beq_iff]at c;subst c;right;exact⟨I,_,_,W,ki⟩;obtain⟨_,c,rfl,rfl⟩:=h;rw[beq_iff]at c;subst c;right;exact⟨I,_,_,W,ki⟩;obtain⟨_,c,rfl,rfl⟩:=h;rw[beq_iff]at c;subst c;right;exact⟨I,_,_,W,ki⟩;obtain⟨rfl,rfl⟩:=h;right;exact⟨I,_,_,W,qo⟩;obtain⟨rfl,rfl⟩:=h;right;exact⟨I,_,_,W,qo⟩;obtain⟨rfl,rfl⟩:=h;right;exact⟨I,_,_,W,by simp[SV.den,fl,dA,dh];rfl⟩
def Gx(a:L Nat)(d:Nat)(x:cF)(ti:TI)(ys:L AV):Q (L Mv):=
 match x.cont with
 |some (.list .nil _ _)=>if(ys.length*ti.bytes)<=140737488355328/\ys.length<=maxLen then
   some [.make a d<|if ys.isEmpty then .list .nil 0 []else .list .own ti.size ys]else none
 |some (.list .own c b)=>if c=ti.size/\(b.length+ys.length)*ti.bytes<=140737488355328/\b.length+ys.length<=maxLen then
   match x.sl.av with
   |.bH r _ _ p=>if r∈a then none else some [.take r d p,.make (d::a) d<|.list .own ti.size<|b++ys]
   |_=>match x.s with
    |some s=>if s∈a then none else some [.make (s::a) d<|.list .own ti.size<|b++ys]
    |none=>none
  else none
 |_=>none
def KS{P:Program}{d:Nat}{t e:TypeId}{x y:cF}{ti:TI}{f:Fl}{sz:Nat}{ys:L AV}{h:L Nat}(p:dY P t=some e)(o:cC P e=some ti)(n:ti.size≠0)
 (m:y.cont=some (.list f sz ys))(g:(cz ys=true/\h=[])\/(cz ys=false/\f=.own/\(∃a b c,y.sl.av=.list a b c)/\∃s,y.s=some s/\h=[s]))
 (i:((ys.isEmpty||(sz==ti.size&&ys.all (fits ti)))&& !h.contains d)=true):mP P d t x y=Gx h d x ti ys:=by
 unfold mP;simp only[p,o,n,m];rcases g with⟨g,rfl⟩|⟨g,rfl,⟨a,b,c,k⟩,s,j,rfl⟩;simp only[g,if_true,i];rfl;simp only[g,aim,if_false,k,j,i];rfl
def myS(a:Bool)(y:SR):Q (L Nat):=match a with
 |true=>some []
 |false=>match y.sl.v with
  |.row true _ _=>match y.s with
   |some s=>some [s]
   |none=>none
  |_=>none
def Mu(d:Nat)(M:L Nat):Bool:=M.any<|Nat.beq d
def mem_iff{d:Nat}{M:L Nat}:Mu d M=true↔d∈M:=by unfold Mu;simp
def Xv(l:bJ)(d:Nat)(x:SR)(a:SV)(b:L Nat)(ob:L Pd)(z:SV):qx:=
 match a with
 |.nil=>pW ob l b d z
 |_=>match x.sl.v with
  |.bH r _ _ p=>(iR<|not'<|Mu r b).bind λ_=>(D7 l r d p).bind λ(c,_,f)=>qP f (d::b) d z λe=>some (app ob c,e,cat [r,d]<|d::d::b)
  |_=>match x.s with
   |some s=>(iR<|not'<|Mu s b).bind λ_=>pW ob l (s::b) d z
   |none=>none
def pk(tt:TT)(l:bJ)(d:Nat)(t:TypeId)(x y:SR)(j:SV->SV->Q (L Pd×SV)):qx:=
 (slice? tt t).bind λe=>(Jl tt e).bind λti=>(dB x).bind λ(ob,a)=>(dB y).bind λ(h,b)=>match ti with
   |⟨g,n,bytes,zero⟩=>(iR<|fe (ne' n 0)<|ne' bytes 0).bind λ_=>(P3 ⟨g,n,bytes,zero⟩ b).bind λ(f,k)=>(myS k y).bind λi=>(iR<|not'<|Mu d i).bind λ_=>
    (j a b).bind λ(c,z)=>(vj a).bind λ(sz,k1)=>(vj b).bind λ(_,k2)=>(iR<|Hk (E7 a)<|Nat.beq sz n).bind λ_=>Xv l d x a i (((k1+k2)*bytes<=140737488355328)::app ob (app h<|app f c)) z
 where E7:SV->Bool
  |.nil=>true
  |_=>false
def E6{a:SV}:pk.E7 a=true↔a=.nil:=by cases a<;>simp[pk.E7]
def Dq(hA:dD P tt)(l:bJ)(d:Nat)(t:TypeId)(x y:SR)(z?:SV->SV->Q (L Pd×SV))
 (hz:∀a b ob z f sz Y,z? a b=some (ob,z)->aj ob->b.den=.list f sz Y->(a=.nil/\Y.isEmpty=false/\z.den=.list .own sz Y)\/(a≠.nil/\∃i X,a.den=.list .own i X/\z.den=.list .own i (X++Y))):
 dN l (mP P d t x.den y.den) (pk tt l d t x y z?):=by
 refine aw _ λe h1=>aw _ λti h2=>aw _ λ⟨ob,a⟩h3=>aw _ λ⟨D,b⟩h4=>?_;let⟨g,n,bytes,zero⟩:=ti;refine bG λZ=>aw _ λ⟨C,no⟩h6=>aw _ λk o=>bG λh8=>aw _ λ⟨v,z⟩h9=>aw _ λ⟨sz,k1⟩u=>aw _ λ⟨F2,k2⟩E2=>bG λE1=>?_;rw[bL,ne_iff,ne_iff]at Z;have R:d∉k:=by intro hm;rw[mem_iff.2 hm]at h8;cases h8
 have H:=eQ hA h2;have base:aj (((k1+k2)*bytes<=2^47)::app ob (app D<|app C v))->
  (a=.nil/\mP P d t x.den y.den=some [.make k d z.den])\/
  (a≠.nil/\mP P d t x.den y.den=match x.den.sl.av with
    |.bH r _ _ p=>if r∈k then none else some [.take r d p,.make (d::k) d z.den]
    |_=>match x.den.s with
     |some s=>if s∈k then none else some [.make (s::k) d z.den]
     |none=>none):=by
  intro c;let⟨cb,c⟩:=c;let⟨c1,c⟩:=aY.1 c;let⟨c2,c⟩:=aY.1 c;let⟨c3,c4⟩:=aY.1 c;let⟨Y,e1,e2,e3⟩:=P2 h6 c3;have hx:=aH h3 c1;have hy:=aH h4 c2;rw[e1]at hy;have M:Y.length=k2:=by let⟨f,X,q1,q2⟩:=nn E2;simp_all
  have V:(cz Y=true/\k=[])\/(cz Y=false/\fl (ng b)=.own/\(∃a b c,y.den.sl.av=.list a b c)/\∃s,y.den.s=some s/\k=[s]):=by
   rw[e3];unfold myS at o;cases no with
   |true=>simp_all
   |false=>
    right;simp only at o;split at o<;>try(cases o;done)
    rename_i i rs B;split at o<;>try(cases o;done)
    rename_i s hs;simp[abL]at o;have hb:b=.row true i rs:=by unfold dB at h4;simp_all
    subst hb;have T:y.den.sl.av=.list .own i (aE rs):=by show y.sl.v.den=.list .own i (aE rs);rw[B];rfl
    exact⟨W,W,⟨_,_,_,T⟩,s,hs,o.symm⟩
  have m:0<bytes:=ahD Z.2;have F0:k1+k2<=maxLen:=by have:(k1+k2)*1<=(k1+k2)*bytes:=ae6 _ m;unfold maxLen;omega
  have S:(!k.contains d)=true:=by simpa using R
  have q:((Y.isEmpty||(({agg:=g,size:=n,bytes:=bytes,zero:=zero}:AL).size==(AL.den ⟨g,n,bytes,zero⟩).size&&Y.all (fits<|AL.den ⟨g,n,bytes,zero⟩)))&& !k.contains d)=true:=by rw[S,e2];simp[AL.den]
  have K:(AL.den ⟨g,n,bytes,zero⟩).size≠0:=Z.1;have G3:(AL.den ⟨g,n,bytes,zero⟩).bytes=bytes:=W;rw[KS (oK hA h1) H K hy V q];unfold Gx;rw[hx];rcases hz a b v z _ _ _ h9 c4 e1 with⟨rfl,z1,z2⟩|⟨z0,i,X,z1,z2⟩;left;refine⟨W,?_⟩;simp[vj,abL,aeb]at u;have O:k1=0:=u.2.symm;subst O;simp only[SV.den]
  grind
  right;refine⟨z0,?_⟩;rw[z1,z2];have N:X.length=k1/\i=sz:=by let⟨f,X',q1,q2⟩:=nn u;simp_all
  have G0:sz=n:=by rw[tW,beq_iff,E6]at E1;simp_all
  have F1:(AL.den ⟨g,n,bytes,zero⟩).size=n:=W;simp_all
 unfold Xv;split;refine lP λc=>?_;simp_all;rename_i A;split;rename_i r g1 g2 p B;refine bG λj=>?_;rw[not_iff]at j;have J:r∉k:=by intro hm;rw[mem_iff.2 hm]at j;cases j
 refine aw _ λ⟨F4,y4,l4⟩A0=>?_;intro F3 lx ks he hc;simp[iY,abL,aeb]at he;obtain⟨rfl,rfl,rfl⟩:=he;let⟨ca,cb⟩:=aY.1 hc;rcases base ca with⟨h,-⟩|⟨-,h⟩;exact abK h A;have w:x.den.sl.av=.bH r g1 g2 p:=by show x.sl.v.den=_;rw[B];rfl
 rw[w]at h;simp[J,if_false]at h;refine⟨_,h,?_,by simp[bA,Mv.keys,cat]⟩;simp[Mv.runs];rw[AU A0 cb];simp[Mv.run,ia];rename_i B;split;rename_i s hs;refine bG λj=>lP λc=>?_;rw[not_iff]at j;have G1:s∉k:=by intro hm;rw[mem_iff.2 hm]at j;cases j
 rcases base c with⟨h,-⟩|⟨-,h⟩;exact abK h A;have w:∀r g1 g2 p,x.den.sl.av≠.bH r g1 g2 p:=by
  intro r g1 g2 p hh;have:x.sl.v.den=.bH r g1 g2 p:=hh;cases F:x.sl.v<;>rw[F]at this<;>simp[SV.den]at this
  grind
 have G2:x.den.s=some s:=hs;simp_all;exact bN
end
end Go.Ai
