/- Parts of the proof of ScaleCircles (CheckRefused returns the error of the reference), at every input, with no further conditions. -/
import Derived.Test.YtdgocdadfmhjgaaGreatDoorCZAH
import Derived.MapKept
import Derived.Test.YtdgocdadfmhjgaaGreatDoorProg
set_option linter.all false
set_option maxRecDepth 100000
set_option maxHeartbeats 0
namespace Go.Ai
open Go.RowKit
mutual
def si:SV->Option Value
 |.n k a=>some (.int k a)
 |.b x=>some (.bool x)
 |.u x=>some (.bool x)
 |.s x=>some (.string<|bs x)
 |.c v=>match scalar v with
  |true=>some v
  |false=>none
 |.fn f a c=>match a,c with
  |[],[]=>some (.func f #[] #[])
  |_,_=>none
 |.agg xs=>match IS xs with
  |some vs=>some (.agg vs.toArray)
  |none=>none
 |_=>none
def IS:List SV->Option (List Value)
 |[]=>some []
 |x::xs=>match si x,IS xs,x.cell with
  |some v,some vs,true=>some (v::vs)
  |_,_,_=>none
end
def VJ{x:SV}{v:Value}(h:si x=some v)(hc:x.cell=true):v.oneCell'=true:=by
 cases x<;>simp[si]at h<;>try(cases h;done)
 case c w=>
  split at h<;>try(cases h;done)
  rename_i hs;simp at h;subst h;cases w<;>simp[scalar]at hs<;>rfl
 case fn f a c=>
  split at h<;>try(cases h;done)
  cases h;rfl
 case agg xs=>simp[SV.cell]at hc
 all_goals(subst h;rfl)
section
variable{w:World}{S:Nat->Prop}
mutual
theorem vO:∀{x:SV}{v:Value},si x=some v->Rel w S x.den v []/\∀{y F},Rel w S x.den y F->y=v/\F=[]
 |.n k a,v,h=>by simp[si,abr]at h;subst h;exact⟨kL,λh=>⟨h.2.1,h.2.2⟩⟩
 |.b x,v,h=>by simp[si,abr]at h;subst h;exact⟨kL,λh=>⟨h.2.1,h.2.2⟩⟩
 |.u x,v,h=>by simp[si,abr]at h;subst h;exact⟨kL,λh=>⟨h.2.1,h.2.2⟩⟩
 |.s x,v,h=>by simp[si,abr]at h;subst h;exact⟨kL,λh=>⟨h.2.1,h.2.2⟩⟩
 |.c x,v,h=>by
  simp[si]at h;split at h<;>try(cases h;done)
  rename_i hs;cases h;exact⟨⟨hs,rfl,rfl⟩,λh=>⟨h.2.1,h.2.2⟩⟩
 |.fn f a c,v,h=>by
  simp[si]at h;split at h<;>try(cases h;done)
  cases h;refine⟨?_,λ{y F}h=>?_⟩
  ·simp only[SV.den,au,Rel,Cells];exact⟨#[],#[],[],[],rfl,ab,ab,rfl⟩
  simp only[SV.den,au,Rel,Cells]at h;obtain⟨a,c,F1,F2,rfl,⟨h1,rfl⟩,⟨h2,rfl⟩,rfl⟩:=h;have e1:a=#[]:=by cases a;simp_all
  have e2:c=#[]:=by cases c;simp_all
  subst e1 e2;exact ab
 |.agg xs,v,h=>by
  simp[si]at h;split at h<;>try(cases h;done)
  rename_i vs XZ;cases h;obtain⟨h1,h2⟩:=E0 XZ;refine⟨?_,λ{y F}h=>?_⟩
  ·simp only[SV.den,Rel];exact⟨_,rfl,h1⟩
  simp[SV.den,Rel]at h;obtain⟨cs,rfl,hc⟩:=h;obtain⟨e,rfl⟩:=h2 hc;rw[<-e];exact ab
 |.nil,_,h|.ints ..,_,h|.fe ..,_,h|.strs ..,_,h|.b9 ..,_,h|.bT ..,_,h|.row ..,_,h|.bX _,_,h|.box ..,_,h|.bA ..,_,h|.ptr ..,_,h|.hole,_,h|.dead,_,h|.pv _,_,h|.abs _,_,h|.fI ..,_,h|.mp _,_,h=>by simp[si]at h
theorem E0:∀{xs:List SV}{vs:List Value},IS xs=some vs->Cells w S true (au xs) vs []/\∀{ys F},Cells w S true (au xs) ys F->ys=vs/\F=[]
 |[],vs,h=>by simp[IS,abr]at h;subst h;exact⟨ab,λh=>h⟩
 |x::xs,vs,h=>by
  simp[IS]at h;split at h<;>try(cases h;done)
  rename_i v vs' hv XZ hc;cases h;obtain⟨h1,h2⟩:=vO hv;obtain⟨h3,h4⟩:=E0 XZ;refine⟨⟨v,vs',[],[],rfl,rfl,λ_=>VJ hv hc,h1,h3⟩,λ{ys F}h=>?_⟩;obtain⟨y,l',F1,F2,rfl,rfl,_,k1,k2⟩:=h;obtain⟨rfl,rfl⟩:=h2 k1;obtain⟨rfl,rfl⟩:=h4 k2;exact ab
end
end
abbrev Br:=List<|bK×Value
def CA(es:Br)(o:Obj):Prop:=∃ms c,o=.map ms c/\ms.toList.map (λe=>(e.key,e.val))=es.map λq=>(.string<|bs q.1,q.2)
def sv(a b:bK):Bool:=match decEq a b with
 |isTrue _=>true
 |isFalse _=>false
def tr{a b:bK}:sv a b=true↔a=b:=by unfold sv;split<;>simp_all
def uc(k:bK):Br->Option Value
 |[]=>none
 |(k',v)::es=>match sv k k' with
  |true=>some v
  |false=>uc k es
def Ag(k:bK)(v:Value):Br->Br
 |[]=>[(k,v)]
 |(k',u)::es=>match sv k k' with
  |true=>(k,v)::es
  |false=>(k',u)::Ag k v es
def acF{a b:bK}(h:bs a=bs b):a=b:=by have:=congrArg (λx:ByteArray=>x.data.toList) h;simpa[bs]using this
def Od(a b:bK):(bs a==bs b)=sv a b:=by
 cases h:sv a b with
 |true=>exact(MapKept.bytes_beq _ _).2 (congrArg bs<|tr.1 h)
 |false=>
  cases h2:(bs a==bs b)with
  |false=>rfl
  |true=>rw[tr.2<|acF<|(MapKept.bytes_beq _ _).1 h2]at h;cases h
def ra{k:bK}:∀{es:Br}{ms:List MapEntry}{i:Nat},ms.map (λe=>(e.key,e.val))=es.map (λq=>(.string<|bs q.1,q.2))->uc k es=none->Instr.findNow .string (.string<|bs k) ms i=some none
 |[],ms,i,h,_=>by
  have:ms=[]:=by simpa using h
  subst this;rfl
 |(k',u)::es,[],i,h,_=>by cases h
 |(k',u)::es,m::ms,i,h,hg=>by
  simp at h;obtain⟨⟨h1,h2⟩,h3⟩:=h;simp[uc]at hg;cases he:sv k k' with
  |true=>simp[he]at hg
  |false=>simp[he]at hg;simp[Instr.findNow,h1,Instr.sameNow,Od,he];exact ra h3 hg
def qZ{k:bK}{v:Value}:∀{es:Br}{ms:List MapEntry}{i:Nat},ms.map (λe=>(e.key,e.val))=es.map (λq=>(.string<|bs q.1,q.2))->uc k es=some v->
 ∃j:Nat,Instr.findNow .string (.string<|bs k) ms i=some (some (i+j,v))/\∃m,ms[j]?=some m/\m.key=.string (bs k)/\∀u,(ms.modify j λe=>{e with key:=.string<|bs k,val:=u}).map (λe=>(e.key,e.val))=(Ag k u es).map λq=>(.string<|bs q.1,q.2)
 |[],ms,i,h,hg=>by simp[uc]at hg
 |(k',u)::es,[],i,h,_=>by cases h
 |(k',u)::es,m::ms,i,h,hg=>by
  simp at h;obtain⟨⟨h1,h2⟩,h3⟩:=h;simp[uc]at hg;cases he:sv k k' with
  |true=>simp[he]at hg;have hk:=tr.1 he;refine⟨0,by simp[Instr.findNow,h1,Instr.sameNow,Od,he,h2,hg],m,rfl,by rw[h1,hk],λu=>?_⟩;simp[Ag,he,h3]
  |false=>
   simp[he]at hg;obtain⟨j,k1,m',k2,k3,k4⟩:=qZ (i:=i+1) h3 hg;refine⟨j+1,?_,m',k2,k3,λu=>?_⟩
   ·simp[Instr.findNow,h1,Instr.sameNow,Od,he];rw[k1,afc,Nat.add_comm 1 j]
   simp[Ag,he,h1,h2,k4 u]
section
variable{P:Program}{w:World}{S:Nat->Prop}{t key elem:TypeId}
def fW{es:Br}{k:bK}{v:Value}{x:SV}(ht:P.underlying t=some (.map key elem))(hk:P.underlying key=some .string)(hg:uc k es=some v)(hx:si x=some v)(ok:Bool):
 Looks P t ok (CA es) (.v<|.string<|bs k) (if ok then SV.bX [x,.b true]else x).den:=by
 intro w S b o vk hb ho hr;obtain⟨ms,c,rfl,hm⟩:=ho;obtain⟨_,rfl,_⟩:=hr;obtain⟨j,h1,-⟩:=qZ (i:=0) hm hg;have fK:=(vO (w:=w) (S:=S) hx).1;cases ok with
 |true=>
  refine⟨.tuple #[v,.bool true],?_,?_⟩
  ·simp[Instr.lookup,run_underlying ht,MapKept.run_getObj_map hb,MapKept.run_checkKey hk (k:=.string<|bs k) ao,MapKept.run_findKey hk h1]
  simp;exact⟨_,rfl,v,_,[],[],rfl,rfl,by simp,fK,.bool true,_,[],[],rfl,rfl,by simp,kL,rfl,rfl⟩
 |false=>refine⟨v,?_,fK⟩;simp[Instr.lookup,run_underlying ht,MapKept.run_getObj_map hb,MapKept.run_checkKey hk (k:=.string<|bs k) ao,MapKept.run_findKey hk h1]
def MX{es:Br}{k:bK}{v:Value}{x:SV}{i:TypeInfo}(ht:P.underlying t=some (.map key elem))(hk:P.underlying key=some .string)(hg:uc k es=none)(hi:P.info? elem=some i)(hz:i.zero=some v)(hx:si x=some v)(ok:Bool):
 Looks P t ok (CA es) (.v<|.string<|bs k) (if ok then SV.bX [x,.b false]else x).den:=by
 intro w S b o vk hb ho hr;obtain⟨ms,c,rfl,hm⟩:=ho;obtain⟨_,rfl,_⟩:=hr;have h1:=ra (i:=0) hm hg;have fK:=(vO (w:=w) (S:=S) hx).1;have hzz:(zeroValue elem).run P w=.ok v w:=by simp[zeroValue,typeInfo,hi,hz]
 cases ok with
 |true=>
  refine⟨.tuple #[v,.bool false],?_,?_⟩
  ·simp[Instr.lookup,run_underlying ht,MapKept.run_getObj_map hb,MapKept.run_checkKey hk (k:=.string<|bs k) ao,MapKept.run_findKey hk h1,hzz]
  simp;exact⟨_,rfl,v,_,[],[],rfl,rfl,by simp,fK,.bool false,_,[],[],rfl,rfl,by simp,kL,rfl,rfl⟩
 |false=>refine⟨v,?_,fK⟩;simp[Instr.lookup,run_underlying ht,MapKept.run_getObj_map hb,MapKept.run_checkKey hk (k:=.string<|bs k) ao,MapKept.run_findKey hk h1,hzz]
def J1{o:Oper}(ho:o.op=.makeMap t none):ll P o [] [] [] (.mp<|CA []):=by
 refine qV rfl rfl (by simp) ?_;intro w S vs hS hc ρ hρ;have bL:(Instr.makeMap t none).run P w=.ok (.map<|some w.heap.size) (w.alloc<|.map #[] 0):=by simp[Instr.makeMap]
 have ha:=MapKept.heap_alloc w<|.map #[] 0;have cM:(w.alloc<|.map #[] 0).heap.size=w.heap.size+1:=by show(w.heap.push _).size=_;simp
 refine⟨.value<|.map<|some w.heap.size,.map<|some w.heap.size,w.alloc<|.map #[] 0,by simp[execOp,ho,bL],.inl rfl,S,[w.heap.size],⟨rfl,rfl,rfl,by omega,λk hk=>ha.2 k hk⟩,λb h=>h,λb h=>.inl h,λb h=>by rw[cM];have:=hS b h;omega,?_,by simp,?_⟩
 ·simp[SV.den];exact⟨_,_,rfl,ha.1,⟨#[],0,rfl,rfl⟩,rfl⟩
 intro b hb;simp at hb;subst hb;exact⟨.refl,by omega,λh=>by have:=hS _ h;omega⟩
def KU{V:Hid}{vs:List Value}{F:Nat->List Nat}{args H:List SV}{i:Nat}{x:SV}{v:Value}(hi:i<1000000)(hc:aS S V.g (both (au args)<|au H) (aX V vs) w F)(ha:args[i]?=some x)(hx:si x=some v):vs.getD i undef=v:=by
 have hr:=hc.rel i;have hb:=gG (args:=au args) (H:=au H) hi;rw[ja,ha]at hb;have hp:x.den.plain=true:=by rw[dh];cases x<;>simp[si]at hx<;>rfl
 rw[ak.aB<|by rw[hb];exact hp,hb]at hr;have e:aX V vs i=vs.getD i undef:=by unfold aX;rw[if_pos hi]
 rw[e]at hr;exact((vO hx).2 hr).1
def Yg{V:Hid}{vs:List Value}{F:Nat->List Nat}{args:List AV}{K:Obj->Prop}(ha:args.length<=1000000)(hc:aS S V.g (both args [.mp K]) (aX V vs) w F):
 ∃b o,V.v 1000000=.map (some b)/\w.heap[b]?=some o/\K o/\F 1000000=[b]:=by
 have hr:=hc.rel 1000000;have hb:=fJ (args:=args) (H:=[.mp K]) ha 0;rw[ak.aB<|by rw[hb];rfl,hb]at hr;exact hr
def mapped{V:Hid}{vs:List Value}{F:Nat->List Nat}{args:List AV}{K K':Obj->Prop}{b:Nat}{o o':Obj}{v:Value}(hc:aS S V.g (both args [.mp K]) (aX V vs) w F)
 (hv:V.v 1000000=.map (some b))(hb:w.heap[b]?=some o)(hF:F 1000000=[b])(hK:K' o'):
 ∃S' F',uj V w w {w with heap:=w.heap.setIfInBounds b o'}/\(∀b,S b->S' b)/\(∀b,S' b->S b\/cu V w b)/\aS S' (cu V w) (both [.dead] [.mp K']) (aX V [v]) {w with heap:=w.heap.setIfInBounds b o'} F':=by
 have eQ:=hc.own 1000000 b (by rw[hF];simp);have eR:=MapKept.heap_set (o':=o') hb;have cM:(w.heap.setIfInBounds b o').size=w.heap.size:=by simp
 refine⟨S,λi=>if i=1000000 then[b]else[],⟨rfl,rfl,rfl,by show _<=(w.heap.setIfInBounds b o').size;omega,λk hk hg=>eR.2 k λe=>by subst e;exact hg eQ.1⟩,λ_ h=>h,λ_ h=>.inl h,
  ⟨λi=>?_,λi=>?_,λi j gS c hb=>?_,λi c hb=>?_,λc h=>by show c<(w.heap.setIfInBounds b o').size;rw[cM];exact hc.shr c h⟩⟩
 ·rw[ak.aB<|by rw[BI];split;rfl;split<;>rfl,BI];by_cases h0:i=0
  ·subst h0;simp[Rel]
  by_cases h1:i=1000000
  ·subst h1;have hT:aX V [v] 1000000=.map (some b):=by unfold aX;rw[if_neg<|by omega,hv]
   exact⟨b,o',hT,eR.1,hK,rfl⟩
  simp[h1,Rel]
 ·split<;>simp
 ·split at hb
  ·rename_i hi;rw[if_neg λe=>gS<|by omega];simp
  cases hb
 split at hb
 ·simp at hb;subst hb;exact⟨.inr eQ.1,by show _<(w.heap.setIfInBounds c o').size;rw[cM];exact eQ.2.1,eQ.2.2⟩
 cases hb
def Fw{k:bK}{v:Value}:∀{es:Br},uc k es=none->Ag k v es=es++[(k,v)]
 |[],_=>rfl
 |(k',u)::es,h=>by
  simp[uc]at h;cases he:sv k k' with
  |true=>simp[he]at h
  |false=>simp[he]at h;simp[Ag,he,Fw h]
def tE{o:Oper}{es:Br}{k:bK}{x:SV}{v:Value}{a b c:Operand}(ho:o.op=.insert t a b c\/o.op=.mapUpdate t a b c)(hd:o.dst=none)(ht:P.underlying t=some (.map key elem))(hk:P.underlying key=some .string)(hx:si x=some v):
 ll P o [.mp<|CA es] [.bA 1000000 0 0 [],.s k,x] [.mp<|CA<|Ag k v es] .dead:=by
 intro w S V vs F hl hc ρ hρ;obtain⟨m,om,hv,hm,hK,hF⟩:=Yg (by simp[au]) hc;obtain⟨ms,cl,rfl,mn⟩:=hK;obtain⟨x0,x1,x2,rfl⟩:∃x0 x1 x2,vs=[x0,x1,x2]:=by
  match vs,hl with
  |[x0,x1,x2],_=>simp_all
 have e0:=(yf (i:=0) (by omega) hc rfl).trans hv;have e1:=KU (args:=[.bA 1000000 0 0 [],.s k,x]) (H:=[.mp<|CA es]) (i:=1) (by omega) hc rfl rfl;have e2:=KU (args:=[.bA 1000000 0 0 [],.s k,x]) (H:=[.mp<|CA es]) (i:=2) (by omega) hc rfl hx;have aiA:ρ a=.map (some m)/\ρ b=.string (bs k)/\ρ c=v:=by
  have:o.op.operands.toList=[a,b,c]:=by rcases ho with ho|ho<;>rw[ho]<;>rfl
  rw[this]at hρ;simp[and_true]at hρ;simp_all
 have key:∃o',CA (Ag k v es) o'/\(Instr.mapUpdate t (.map<|some m) (.string<|bs k) v).run P w=.ok () {w with heap:=w.heap.setIfInBounds m o'}:=by
  cases hg:uc k es with
  |none=>
   have h1:=ra (i:=0) mn hg;refine⟨.map (ms.push {key:=.string<|bs k,val:=v,born:=cl})<|cl+1,⟨_,_,rfl,?_⟩,?_⟩
   ·rw[Fw hg];simp[mn]
   simp[Instr.mapUpdate,run_underlying ht,MapKept.run_getObj_map hm,MapKept.run_checkKey hk (k:=.string<|bs k) ao,MapKept.run_findKey hk h1,MapKept.run_setObj_map _ hm]
  |some u=>
   obtain⟨j,h1,e,h2,h3,h4⟩:=qZ (i:=0) mn hg;have hj:ms[j]?=some e:=by simpa using h2
   refine⟨.map (ms.modify j λe=>{e with key:=.string<|bs k,val:=v}) cl,⟨_,_,rfl,?_⟩,?_⟩
   ·rw[<-h4 v];simp
   simp[Instr.mapUpdate,run_underlying ht,MapKept.run_getObj_map hm,MapKept.run_checkKey hk (k:=.string<|bs k) ao,MapKept.run_findKey hk h1,hj,h3,MapKept.run_keyThatStays (d:=.string) (k:=.string<|bs k) ao,MapKept.run_setObj_map _ hm]
 obtain⟨o',Pk,bL⟩:=key;have hx:(execOp ρ o).run P w=.ok .skip {w with heap:=w.heap.setIfInBounds m o'}:=by rcases ho with ho|ho<;>simp[execOp,ho,aiA,bL]
 exact⟨_,.nilIface,_,hx,.inr ⟨rfl,hd⟩,mapped hc hv hm hF Pk⟩
end
section
variable{R:Option Nat->Prop}{P:Program}{tt:TT}{N:Nat}{F:St->Prop}{k:List It}{l:aV}
def ahA(hA:cq P tt){all:Array Oper}{mm:List Nat}{acc:List (List Nat×List Nat)}{rest:List Oper}{d:Nat}{t:TypeId}{x:Operand}{lo hi:Option Operand}{ty:TypeId}{pos:String}{cL:Array Edge}{g:Option (Nat×Bool)}{ob:List Pd}{l':aV}{ks:List Nat}
 (hg:cP l all.toList g=some true)(h:yV tt l d t x lo hi=some (ob,l',ks))(ho:ag ob)
 (hk:AK R P N F (.og all mm rest ((ix (dn l) all ⟨some d,.slice t x lo hi none,ty,pos,cL,g⟩,ks)::acc)::k) l'):
 AK R P N F (.og all mm (⟨some d,.slice t x lo hi none,ty,pos,cL,g⟩::rest) acc::k) l:=by
 exact Te hA hg h ho λms mn=>by rw[mn];exact hk
end
section
variable{P:Program}{o:Oper}{ts:Array TypeId}{t e:TypeId}{ti:TI}{d s:Operand}
def Kh{k:IntKind}{ti:TI}(ha:ti.agg=false)(h1:ti.size=1)(xs:List Int):(xs.map λa=>AV.v<|.int k a).all (fits ti)=true:=by rw[ade];intro x hx;obtain⟨y,-,rfl⟩:=ac0.1 hx;simp[fits,ha,h1,AV.cell]
def O6{k:IntKind}(xs:List Int):bx (xs.map λa=>AV.v<|.int k a)=true:=by refine tK λx hx=>?_;obtain⟨y,-,rfl⟩:=ac0.1 hx;rfl
def Vy{k:IntKind}(ho:o.op=.call ⟨.builtin .copy,#[d,s],ts⟩)(ht:ts[0]?=some t)(hu:P.underlying t=some (.slice e))(gR:bY P e=some ti)(ha:ti.agg=false)(h1:ti.size=1){xs ys:List Int}(hx:xs≠[])(hy:ys≠[]){n:Nat}(hn:Nat.min ys.length xs.length=n):
 ll P o [.ints k true xs] [.bA 1000000 0 0 [],.ints k false ys] [.ints k true<|ys.take n++xs.drop n] (.i n):=by
 have h:=PS (P:=P) ho ht hu gR (sz:=1) h1.symm (X:=xs.map λa=>.v<|.int k a) (Y:=ys.map λa=>.v<|.int k a) (by simpa using hx) (O6 xs) (by simpa using hy) (Kh ha h1 ys) (n:=n) (by simpa using hn);rw[<-aib,<-aht,<-ac9]at h;exact h
def N2{k:IntKind}(ho:o.op=.call ⟨.builtin .copy,#[d,s],ts⟩)(ht:ts[0]?=some t)(hu:P.underlying t=some (.slice e))(gR:bY P e=some ti)(ha:ti.agg=false)(h1:ti.size=1){xs:List Int}(hx:xs≠[]){off m1 m2 n:Nat}(hn:Nat.min m2 m1=n)(k1:off+m1<=xs.length)(k2:m2<=xs.length)(g1:0<m1)(g2:0<m2):
 ll P o [.ints k true xs] [.bA 1000000 0 0 [.lR 1 off m1],.bA 1000000 0 0 [.lR 1 0 m2]] [.ints k true<|xs.take off++xs.take n++xs.drop (off+n)] (.i n):=by
 have h:=Gw (P:=P) ho ht hu gR (sz:=1) h1.symm (X:=xs.map λa=>.v<|.int k a) (by simpa using hx) (O6 xs) (Kh ha h1 xs) (off:=off) (m1:=m1) (m2:=m2) (n:=n) hn (by simpa using k1) (by simpa using k2) g1 g2;rw[<-aib,<-aib,<-aht,<-ac9,<-ac9]at h;exact h
def Vx{ti':xY}(ho:o.op=.call ⟨.builtin .copy,#[d,s],ts⟩)(ht:ts[0]?=some t)(hu:P.underlying t=some (.slice e))(gR:bY P e=some ti'.den){xs ys:List SV}(hx:xs≠[])(hy:ys≠[])(gu:gm xs=true)(hf:∀y∈ys,mq ti' y=true){n:Nat}(hn:Nat.min ys.length xs.length=n):
 ll P o [.row true ti'.size xs] [.bA 1000000 0 0 [],.row false ti'.size ys] [.row true ti'.size<|ys.take n++xs.drop n] (.i n):=by
 have jj:(au ys).all (fits ti'.den)=true:=by rw[ade];intro x hx;rw[bV]at hx;obtain⟨y,hy,rfl⟩:=ac0.1 hx;exact iW ti' y<|hf y hy
 have h:=PS (P:=P) ho ht hu gR (sz:=ti'.size) rfl (X:=au xs) (Y:=au ys) (by cases xs;exact absurd rfl hx;simp[au]) (by rw[dS];exact gu) (by cases ys;exact absurd rfl hy;simp[au]) jj (n:=n) (by simpa only[bq]using hn);have e:(au ys).take n++(au xs).drop n=au (ys.take n++xs.drop n):=by simp[bV]
 rw[e]at h;exact h
def N1{ti':xY}(ho:o.op=.call ⟨.builtin .copy,#[d,s],ts⟩)(ht:ts[0]?=some t)(hu:P.underlying t=some (.slice e))(gR:bY P e=some ti'.den){xs:List SV}(hx:xs≠[])(gu:gm xs=true)(hf:∀y∈xs,mq ti' y=true){off m1 m2 n:Nat}(hn:Nat.min m2 m1=n)(k1:off+m1<=xs.length)(k2:m2<=xs.length)(g1:0<m1)(g2:0<m2):
 ll P o [.row true ti'.size xs] [.bA 1000000 0 0 [.lR ti'.size off m1],.bA 1000000 0 0 [.lR ti'.size 0 m2]] [.row true ti'.size<|xs.take off++xs.take n++xs.drop (off+n)] (.i n):=by
 have jj:(au xs).all (fits ti'.den)=true:=by rw[ade];intro x hx;rw[bV]at hx;obtain⟨y,hy,rfl⟩:=ac0.1 hx;exact iW ti' y<|hf y hy
 have h:=Gw (P:=P) ho ht hu gR (sz:=ti'.size) rfl (X:=au xs) (by cases xs;exact absurd rfl hx;simp[au]) (by rw[dS];exact gu) jj (off:=off) (m1:=m1) (m2:=m2) (n:=n) hn (by simpa only[bq]using k1) (by simpa only[bq]using k2) g1 g2;have e:(au xs).take off++(au xs).take n++(au xs).drop (off+n)=au (xs.take off++xs.take n++xs.drop (off+n)):=by simp[bV]
 rw[e]at h;exact h
end
section
variable{P:Program}{w:World}{S:Nat->Prop}
def JL(x:AV)(hd:Value)(F1:List Nat)(o:Nat->Option Obj):pk:=λw S F=>F=F1/\Rel w S x hd F1/\∀b∈F1,w.heap[b]?=o b
def JL.OU{x:AV}{hd:Value}{F1 F:List Nat}{o:Nat->Option Obj}(h:(JL x hd F1 o).here w S F):JL x hd F1 o w S F:=h w S (λ_ _=>rfl) λ_ h=>h
def Si(n:Nat)(hd:Value):Prop:=(n=0/\hd=.slice none 0 0)\/∃b cap,hd=.slice (some ⟨b,0,none⟩) n cap/\n<=cap/\cap<=maxLen
def Si.of{sz:Nat}{X:List AV}{hd:Value}{F:List Nat}(h:Rel w S (.list .own sz X) hd F):Si X.length hd:=by
 rcases h with⟨rfl,rfl,-⟩|⟨b,cap,cs,F',rfl,-,h3,h4,-⟩
 ·exact .inl ab
 exact .inr ⟨b,cap,rfl,h3,h4⟩
def Ot(P:Program)(g:FuncId)(v:SV)(ys:List SV)(r:SV):Prop:=∃sz X,v.den=.list .own sz X/\bx X=true/\Query P g sz X (au ys) r.den
def Ot.of{g:FuncId}{v r:SV}{ys:List SV}{sz:Nat}{X:List AV}(hv:v.den=.list .own sz X)(hn:bx X=true)(hp:r.plain=true)(hl:ys.length+1<=1000000)
 (h:∀hd F1 o,Si X.length hd->lp P g [.abs<|JL (.list .own sz X) hd F1 o] (.pv (·=hd)::ys) [.abs<|JL (.list .own sz X) hd F1 o] r):Ot P g v ys r:=by
 refine⟨sz,X,hv,hn,?_⟩;intro w S hd vs F1 hG hT hr BF hF hS hc;have hlen:vs.length=ys.length:=by have:=cO.length (σ:=λ_=>⟨.dead,0,0⟩) (T:=λ_=>undef)<|cO.sH hc rfl;rw[this,bq]
 obtain⟨o,ho⟩:∃o:Nat->Option Obj,o=λb=>w.heap[b]?:=⟨_,rfl⟩;obtain⟨J,hJ⟩:∃J,J=JL (.list .own sz X) hd F1 o:=⟨_,rfl⟩;obtain⟨V,hV⟩:∃V:Hid,V={v:=λ_=>undef,g:=λb=>b∈F1}:=⟨_,rfl⟩;have IK:(au (.pv (·=hd)::ys)).length<=1000000:=by rw[bq];simpa using hl
 have aff:J.here w S F1:=by intro w' S' k1 k2;rw[hJ];exact⟨rfl,Rel.mono k2 _<|hr.frame _ k1,λb hb=>by rw[ho];exact k1 b<|.inr hb⟩
 have vp:both (au (.pv (·=hd)::ys)) (au [.abs J]) 1000000=⟨.abs J,0,0⟩:=fJ IK 0;have Az:aS S V.g (both (au (.pv (·=hd)::ys))<|au [.abs J]) (aX V<|hd::vs) w (λi=>if i=1000000 then F1 else[]):=by
  refine⟨λi=>?_,λi=>?_,λi j gS b hb=>?_,λi b hb=>?_,hS⟩
  ·by_cases hi:i<1000000
   ·have dc:i≠1000000:=by omega
    simp[dc,if_false];have hb:=gG (args:=au (.pv (·=hd)::ys)) (H:=au [.abs J]) hi;cases hx:(au (.pv (·=hd)::ys))[i]?with
    |none=>rw[hx]at hb;rw[ak.aB<|by rw[hb];rfl,hb];simp[Rel]
    |some y=>
     rw[hx]at hb;have hA:cO w S (both (au (.pv (·=hd)::ys))<|au [.abs J]) (aX V<|hd::vs) (au (.pv (·=hd)::ys)) (hd::vs):=cO.sH (F:=[]) (by simp only[au,Cells];exact⟨hd,vs,[],[],rfl,rfl,by simp,by simp[SV.den,Rel],hc⟩) rfl
     refine(hA.get i hx).slot (by rw[hb]) ?_;simp[aX,hi,if_true]
   by_cases e:i=1000000
   ·subst e;unfold ak;rw[vp];exact aff
   simp[e,if_false];obtain⟨k,rfl⟩:∃k,i=1000000+(k+1):=⟨i-1000001,by omega⟩;have hb:both (au (.pv (·=hd)::ys)) (au [.abs J]) (1000000+(k+1))=⟨.dead,0,0⟩:=by rw[fJ IK,adA<|by simp[au]]
   rw[ak.aB<|by rw[hb];rfl,hb];simp[Rel]
  ·show(if i=1000000 then F1 else[]).Nodup;split
   ·exact BF
   exact adn
  ·replace hb:b∈if i=1000000 then F1 else[]:=hb
   split at hb
   ·rw[if_neg<|by omega];simp
   cases hb
  replace hb:b∈if i=1000000 then F1 else[]:=hb
  split at hb
  ·rw[hV];exact⟨hb,hF b hb⟩
  cases hb
 have afi:=h hd F1 o<|Si.of hr;rw[<-hJ]at afi;have Ay:=afi w S V (hd::vs) _ (by simp[bq,hlen]) ⟨hG,by rw[hV];exact hT⟩ Az;intro rd op a next Q hK
 refine Ay rd op a next Q λv' w'⟨S',F',eR,k1,k2,cm⟩=>hK v' w' ?_
 have Ev:both (au [r]) (au [.abs J]) 1000000=⟨.abs J,0,0⟩:=fJ (by simp[au]) 0;have hj:=cm.rel 1000000;unfold ak at hj;have hb3:both [r.den] (au [SV.abs J]) 1000000=⟨.abs J,0,0⟩:=Ev;have CX:pk.here J w' S' (F' 1000000):=hj;rw[hJ]at CX;obtain⟨q1,-,q3⟩:=JL.OU CX;have aiC:∀b∈F1,¬S' b:=λb hb=>(cm.own 1000000 b<|by rw[q1];exact hb).2.2;have dI:∀b,b<w.heap.size->w'.heap[b]?=w.heap[b]?:=λb hb=>by
  by_cases e:b∈F1
  ·rw[q3 b e,ho]
  exact eR.block b hb (by rw[hV];exact e)
 have hm:∀b,cu V w b->w.heap.size<=b\/b∈F1:=λb hb=>hb.imp id (λh=>by rw[hV]at h;exact h);have h0:=gG (args:=[r.den]) (H:=au [SV.abs J]) (i:=0) (by omega);simp[aia]at h0;have IH:=cm.rel 0;rw[ak.aB<|by rw[h0,dh];exact hp,h0]at IH;refine⟨S',F' 0,⟨eR.os,eR.tape,eR.output,eR.size,dI⟩,k1,λb hb=>?_,cm.shr,IH,cm.nodup 0,λb hb=>?_⟩
 ·rcases k2 b hb with h|h
  ·exact .inl h
  rcases hm b h with h|h
  ·exact .inr h
  exact absurd hb<|aiC b h
 obtain⟨p1,p2,p3⟩:=cm.own 0 b hb;refine⟨?_,p2,p3⟩;rcases hm b p1 with h|h
 ·exact h
 exact absurd (by rw[q1];exact h)<|cm.di 0 1000000 (by omega) b hb
end
section
variable{R:Option Nat->Prop}{P:Program}{N:Nat}{F:St->Prop}{k:List It}{l:aV}
structure Qi where
 g:FuncId
 v:SV
 aas:List SV
def Ps(l:aV)(f:Operand)(aas:List Operand):Option (List Pd×Qi):=
 match aas with
 |[]=>none
 |x::xs=>(dP l x).bind λz=>(cX z).bind λ(nV,v)=>(dP l f).bind λq=>(cX q).bind λ(ob0,y)=>match y with
  |.fn (.func g) [] []=>(jg l xs).bind λus=>(vt us).bind λ(ob,ys)=>some (app nV<|app ob0 ob,⟨g,v,ys⟩)
  |_=>none
def zP(l:aV)(dst:Option Nat)(r:SV):Option (aV×List Nat):=
 match dst with
 |none=>some (l,[])
 |some d=>rF l [] d r λl'=>some (l',[d])
def zO{dst:Option Nat}{r:SV}{l':aV}{ks:List Nat}(ht:zP l dst r=some (l',ks)):Mv.runs (dn l) (cK dst r.den [])=some (dn l')/\aU (cK dst r.den [])=ks:=by
 cases dst with
 |none=>obtain⟨rfl,rfl⟩:=ht;exact ab
 |some d=>simp[zP,fo]at ht;obtain⟨rfl,rfl⟩:=ht;refine⟨?_,by simp[cK,aU,Mv.keys]⟩;have:=gK l [] d r;exact congrArg some this
def aaL{all:Array Oper}{dst:Option Nat}{f:Operand}{aas ts:Array _}{ty:TypeId}{pos:String}{cL:Array Edge}{g:Option (Nat×Bool)}{K:List Mv->St->Prop}{ob:List Pd}{h:Qi}{r:SV}{l':aV}{ks:List Nat}
 (hg:cP l all.toList g=some true)(hh:Ps l f aas.toList=some (ob,h))(ho:ag ob)(hs:Ot P h.g h.v h.aas r)(ht:zP l dst r=some (l',ks))(hk:∀ms,aU ms=ks->K ms (dn l')):
 Jh P all ⟨dst,.call ⟨.value f,aas,ts⟩,ty,pos,cL,g⟩ (dn l) K:=by
 unfold Ps at hh;split at hh<;>try(cases hh)
 rename_i x xs eH;simp[ab3]at hh;obtain⟨z,h1,nV,v,h2,q,h5,ob0,y,h6,Gf⟩:=hh;split at Gf<;>try(cases Gf)
 rename_i gf;simp[ab3,ac3]at Gf;obtain⟨us,h3,dX,ys,h4,rfl,rfl⟩:=Gf;obtain⟨c1,c2⟩:=aM.1 ho;obtain⟨c2,c3⟩:=aM.1 c2;obtain⟨sz,X,e0,hn,hq⟩:=hs;have e1:(resolve (dn l) x).cont=some (.list .own sz X):=by rw[cF h1,aE h2 c1];simp_all
 have e3:rL (xs.map<|resolve<|dn l)=some (au ys):=by rw[eD l h3];exact qX h4 c3
 have e4:(resolve (dn l) f).cont=some (.fn (.func gf) [] []):=by rw[cF h5];exact aE h6 c2
 have UB:kz P (dn l) ⟨dst,.call ⟨.value f,aas,ts⟩,ty,pos,cL,g⟩ (.Ts r.den)=some (cK dst r.den [],[.Ts gf sz X (au ys) r.den]):=by simp[kz,eH,e1,e3,e4,hn]
 obtain⟨m1,m2⟩:=zO ht;refine⟨.Ts r.den,_,[.Ts gf sz X (au ys) r.den],dn l',?_,?_,m1,hk _ m2⟩
 ·unfold eP;rw[dC (o:=⟨dst,.call ⟨.value f,aas,ts⟩,ty,pos,cL,g⟩) hg];exact UB
 simp[Ob.ok];exact hq
def aaQ{all:Array Oper}{mm:List Nat}{acc:List (List Nat×List Nat)}{rest:List Oper}{dst:Option Nat}{f:Operand}{aas ts:Array _}{ty:TypeId}{pos:String}{cL:Array Edge}{g:Option (Nat×Bool)}{ob:List Pd}{h:Qi}{r:SV}{l':aV}{ks:List Nat}
 (hg:cP l all.toList g=some true)(hh:Ps l f aas.toList=some (ob,h))(ho:ag ob)(hs:Ot P h.g h.v h.aas r)(ht:zP l dst r=some (l',ks))
 (hk:AK R P N F (.og all mm rest ((ix (dn l) all ⟨dst,.call ⟨.value f,aas,ts⟩,ty,pos,cL,g⟩,ks)::acc)::k) l'):
 AK R P N F (.og all mm (⟨dst,.call ⟨.value f,aas,ts⟩,ty,pos,cL,g⟩::rest) acc::k) l:=by
 exact aaL hg hh ho hs ht λms mn=>by rw[mn];exact hk
structure Wg where
 C:Value->Prop
 J:pk
def UU(l:aV)(x:Operand):Option Wg:=
 (dP l x).bind λz=>match z.sl.v with
   |.pv C=>match(gt l 1000000).v with
    |.abs J=>some ⟨C,J⟩
    |_=>none
   |_=>none
def aej{all:Array Oper}{mm:List Nat}{acc:List (List Nat×List Nat)}{rest:List Oper}{dst:Option Nat}{t:TypeId}{x:Operand}{ty:TypeId}{pos:String}{cL:Array Edge}{g:Option (Nat×Bool)}{h:Wg}{y:SV}{l':aV}{ks:List Nat}
 (hg:cP l all.toList g=some true)(hh:UU l x=some h)(hs:Qh P t h.C h.J y.den)(hy:y.aF=true)(ht:zP l dst y=some (l',ks))
 (hk:AK R P N F (.og all mm rest ((ix (dn l) all ⟨dst,.load t x,ty,pos,cL,g⟩,ks)::acc)::k) l'):
 AK R P N F (.og all mm (⟨dst,.load t x,ty,pos,cL,g⟩::rest) acc::k) l:=by
 simp[UU,ab3]at hh;obtain⟨z,h1,h2⟩:=hh;split at h2<;>try(cases h2)
 rename_i C hC;split at h2<;>try(cases h2;done)
 rename_i J hJ;cases h2;have e1:(resolve (dn l) x).sl.av=.pv C:=by rw[cF h1];show z.sl.v.den=_;rw[hC];rfl
 have e2:(dn l 1000000).av=.abs J:=by rw[dq,hJ];rfl
 obtain⟨m1,m2⟩:=zO ht;refine⟨.Sn y.den,_,[.Sn t C J y.den],dn l',?_,?_,m1,by dsimp only;rw[m2];exact hk⟩
 ·unfold eP;rw[dC (o:=⟨dst,.load t x,ty,pos,cL,g⟩) hg];simp[kz,e1,e2,cz,hy]
 simp;exact hs
end
section
variable{P:Program}{w:World}{S:Nat->Prop}{o:Oper}{x i:Operand}{t e:TypeId}{ti:TI}{n m sz:Nat}{hd:Value}{X:List AV}
def adr(hd:Value)(o:Nat):Value:=match hd with
 |.slice (some a) _ _=>.pointer (some<|a.add o)
 |_=>undef
def abb{ts:Array TypeId}(ho:o.op=.call ⟨.builtin .len,#[x],ts⟩)(Wu:ts.toList=[t])(ht:P.underlying t=some (.slice e))(h:Si n hd):ll P o [] [.pv (·=hd)] [] (.i n):=by
 refine qV rfl rfl (by simp) ?_;intro w S vs hS hc ρ hρ;obtain⟨v1,l1,F1,F2,rfl,-,-,⟨rfl,-⟩,rfl,-⟩:=hc;have hx:ρ x=v1:=by
  have:o.op.operands.toList=[x]:=by rw[ho];rfl
  rw[this]at hρ;simpa using hρ
 have abQ:ts=#[t]:=adK (by simpa using Wu);refine⟨.value<|.int .i64 n,.int .i64 n,w,?_,.inl rfl,S,[],⟨rfl,rfl,rfl,abZ _,λ_ _=>rfl⟩,λ_ h=>h,λ_ h=>.inl h,λb h=>hS b h,by simp[SV.den,Rel,scalar],adn,by simp⟩;rcases h with⟨rfl,e1⟩|⟨b,cap,e1,-,-⟩<;>simp[execOp,ho,Go.resolve,hx,invoke,builtin,abQ,Builtin.len_,run_underlying ht,goInt,e1]
def abj(ho:o.op=.indexAddr t x i)(ht:P.underlying t=some (.slice e))(gR:bY P e=some ti)(hm:m<n)(h:Si n hd):ll P o [] [.pv (·=hd),.i m] [] (.pv (·=adr hd (m*ti.size))):=by
 refine qV rfl rfl (by simp) ?_;intro w S vs hS hc ρ hρ;obtain⟨v1,l1,F1,F2,rfl,-,-,⟨rfl,-⟩,v2,l2,F3,F4,rfl,-,-,⟨-,rfl,-⟩,rfl,-⟩:=hc;obtain⟨hx,hi⟩:ρ x=v1/\ρ i=.int .i64 m:=by
  have:o.op.operands.toList=[x,i]:=by rw[ho];rfl
  rw[this]at hρ;simpa using hρ
 rcases h with⟨rfl,e1⟩|⟨b,cap,rfl,-,-⟩
 ·omega
 refine⟨.value<|.pointer<|some<|(⟨b,0,none⟩:Addr).add<|m*ti.size,_,w,?_,.inl rfl,S,[],⟨rfl,rfl,rfl,.refl,λ_ _=>rfl⟩,λ_ h=>h,λ_ h=>.inl h,λb h=>hS b h,by simp[SV.den,Rel,adr],adn,by simp⟩;simp[execOp,ho,hx,hi,Instr.indexAt,asIntOf,run_underlying ht,hm,dE gR]
def MP{y:AV}{m:Nat}:∀{X:List AV},bx X=true->X[m]?=some y->y.aF=true:=by
 induction m with
 |zero=>intro X h1 h2;cases X with
  |nil=>cases h2
  |cons z X=>simp at h2;subst h2;simp[bx]at h1;exact h1.1
 |succ m ih=>intro X h1 h2;cases X with
  |nil=>cases h2
  |cons z X=>simp[bx]at h1;exact ih h1.2 h2
def T5{F1:List Nat}{ob:Nat->Option Obj}{y:AV}(gR:bY P t=some ti)(hX:bx X=true)(hx:X[m]?=some y)(hf:fits ti y=true):Qh P t (·=adr hd (m*sz)) (JL (.list .own sz X) hd F1 ob) y:=by
 intro w S F v hJ hv;subst hv;obtain⟨-,hr,-⟩:=JL.OU hJ;have cS:=(afM.1 hx).1;rcases hr with⟨rfl,-,-⟩|⟨b,cap,cs,F',rfl,h2,h3,h4,h5,h6,-⟩
 ·cases cS
 obtain⟨z,A,Fx,B,-,hz,hR,iV,hle,-⟩:=cv.lens sz m h6 hx;have gu:=MP hX hx;rw[Rel.aF _ hR gu]at hR;refine⟨z,?_,hR⟩;have Wz:At w ⟨b,m*sz,none⟩ z:=⟨rfl,cs,(0,0),h2,λj u hj=>by
  have:=iV j u hj;rw[aev]at this;split at this
  ·simpa using this
  simp at this⟩
 have ea:adr (.slice (some ⟨b,0,none⟩) X.length cap) (m*sz)=.pointer (some ⟨b,m*sz,none⟩):=by
  have e:(⟨b,0,none⟩:Addr).add (m*sz)=⟨b,m*sz,none⟩:=by rw[bS rfl];simp
  simp[adr,e]
 rw[ea];exact kK gR Wz<|kS hf hR
end
end Go.Ai
namespace Go.Ai
open Go.Proofs Go.RowKit
abbrev tI(k:IntKind)(b:Nat):TE:=⟨.int k,some ⟨false,1,b,.n k 0⟩⟩
abbrev tL(e:TypeId):TE:=⟨.slice e,some ⟨false,1,24,.nil⟩⟩
abbrev tG(f:List (Nat×TypeId×Nat))(s b:Nat)(z:List SV):TE:=⟨.struct f,some ⟨true,s,b,.agg z⟩⟩
abbrev tF:TE:=⟨.func,some ⟨false,1,8,.c .nilFunc⟩⟩
abbrev tP:TE:=⟨.ptr,some ⟨false,1,8,.c<|.pointer none⟩⟩
abbrev tO:TE:=⟨.other,none⟩
def tt:TT:=[(0,tO),
 (1,tF),
 (2,tI .i64 8),
 (3,tI .i64 8),
 (4,⟨.bool,some ⟨false,1,1,.b false⟩⟩),
 (5,tI .u8 1),
 (6,tI .u8 1),
 (7,tG [(0,2,1),(1,3,1),(2,4,1),(3,6,1)] 4 24 [.n .i64 0,.n .i64 0,.b false,.n .u8 0]),
 (8,tG [(0,2,1),(1,3,1),(2,4,1),(3,6,1)] 4 24 [.n .i64 0,.n .i64 0,.b false,.n .u8 0]),
 (9,⟨.str,some ⟨false,1,16,.s []⟩⟩),
 (10,⟨.str,some ⟨false,1,16,.s []⟩⟩),
 (11,⟨.str,some ⟨false,1,16,.s []⟩⟩),
 (12,tI .u64 8),
 (20,tO),
 (21,tI .i32 4),
 (22,tL 49),
 (23,tL 3),
 (25,tG [(0,3,1),(1,22,1),(2,23,1)] 3 56 [.n .i64 0,.nil,.nil]),
 (26,tL 67),
 (28,tG [(0,3,1),(1,3,1),(2,3,1),(3,3,1)] 4 32 [.n .i64 0,.n .i64 0,.n .i64 0,.n .i64 0]),
 (30,tG [(0,26,1),(1,28,4)] 5 56 [.nil,.n .i64 0,.n .i64 0,.n .i64 0,.n .i64 0]),
 (34,tL 23),
 (35,tI .i64 8),
 (36,tO),
 (38,tL 53),
 (39,tO),
 (42,tL 52),
 (45,tL 79),
 (46,⟨.str,some ⟨false,1,16,.s []⟩⟩),
 (47,tL 46),
 (49,tG [(0,9,1),(1,45,1),(2,3,1),(3,46,1),(4,47,1)] 5 88 [.s [],.nil,.n .i64 0,.s [],.nil]),
 (52,tG [(0,3,1),(1,3,1),(2,3,1)] 3 24 [.n .i64 0,.n .i64 0,.n .i64 0]),
 (53,tG [(0,3,1),(1,3,1),(2,3,1)] 3 24 [.n .i64 0,.n .i64 0,.n .i64 0]),
 (59,tG [(0,23,1),(1,34,1)] 2 48 [.nil,.nil]),
 (62,tO),
 (67,tG [(0,46,1),(1,46,1)] 2 32 [.s [],.s []]),
 (70,tO),
 (72,tO),
 (79,tG [(0,3,1),(1,46,1)] 2 24 [.n .i64 0,.s []]),
 (83,tL 47),
 (84,tO),
 (86,tO),
 (88,tO),
 (93,tP),
 (94,tO),
 (97,tG [(0,25,3),(3,26,1),(4,28,4),(8,23,1),(9,34,1)] 10 160 [.n .i64 0,.nil,.nil,.nil,.n .i64 0,.n .i64 0,.n .i64 0,.n .i64 0,.nil,.nil]),
 (98,tO),
 (105,tF),
 (108,tO),
 (114,tF),
 (115,tL 253),
 (117,tG [(0,3,1),(1,115,1)] 2 32 [.n .i64 0,.nil]),
 (119,tG [(0,117,2),(2,117,2)] 4 64 [.n .i64 0,.nil,.n .i64 0,.nil]),
 (129,tG [(0,4,1),(1,23,1)] 2 32 [.b false,.nil]),
 (130,tO),
 (140,tL 9),
 (141,tL 222),
 (143,tG [(0,140,1),(1,141,1),(2,26,1)] 3 72 [.nil,.nil,.nil]),
 (144,tO),
 (147,tL 149),
 (149,tL 119),
 (152,⟨.array 81 117,some ⟨true,162,2592,.agg [.n .i64 0,.nil,.n .i64 0,.nil,.n .i64 0,.nil,.n .i64 0,.nil,.n .i64 0,.nil,.n .i64 0,.nil,.n .i64 0,.nil,.n .i64 0,.nil,.n .i64 0,.nil,.n .i64 0,.nil,.n .i64 0,.nil,.n .i64 0,.nil,.n .i64 0,.nil,.n .i64 0,.nil,.n .i64 0,.nil,.n .i64 0,.nil,.n .i64 0,.nil,.n .i64 0,.nil,.n .i64 0,.nil,.n .i64 0,.nil,.n .i64 0,.nil,.n .i64 0,.nil,.n .i64 0,.nil,.n .i64 0,.nil,.n .i64 0,.nil,.n .i64 0,.nil,.n .i64 0,.nil,.n .i64 0,.nil,.n .i64 0,.nil,.n .i64 0,.nil,.n .i64 0,.nil,.n .i64 0,.nil,.n .i64 0,.nil,.n .i64 0,.nil,.n .i64 0,.nil,.n .i64 0,.nil,.n .i64 0,.nil,.n .i64 0,.nil,.n .i64 0,.nil,.n .i64 0,.nil,.n .i64 0,.nil,.n .i64 0,.nil,.n .i64 0,.nil,.n .i64 0,.nil,.n .i64 0,.nil,.n .i64 0,.nil,.n .i64 0,.nil,.n .i64 0,.nil,.n .i64 0,.nil,.n .i64 0,.nil,.n .i64 0,.nil,.n .i64 0,.nil,.n .i64 0,.nil,.n .i64 0,.nil,.n .i64 0,.nil,.n .i64 0,.nil,.n .i64 0,.nil,.n .i64 0,.nil,.n .i64 0,.nil,.n .i64 0,.nil,.n .i64 0,.nil,.n .i64 0,.nil,.n .i64 0,.nil,.n .i64 0,.nil,.n .i64 0,.nil,.n .i64 0,.nil,.n .i64 0,.nil,.n .i64 0,.nil,.n .i64 0,.nil,.n .i64 0,.nil,.n .i64 0,.nil,.n .i64 0,.nil,.n .i64 0,.nil,.n .i64 0,.nil,.n .i64 0,.nil,.n .i64 0,.nil,.n .i64 0,.nil,.n .i64 0,.nil,.n .i64 0,.nil,.n .i64 0,.nil,.n .i64 0,.nil]⟩⟩),
 (158,tP),
 (160,tF),
 (161,tF),
 (164,tG [(0,3,1),(1,3,1),(2,3,1),(3,3,1)] 4 32 [.n .i64 0,.n .i64 0,.n .i64 0,.n .i64 0]),
 (166,tP),
 (168,tG [(0,25,3),(3,35,1)] 4 64 [.n .i64 0,.nil,.nil,.n .i64 0]),
 (169,tP),
 (174,tO),
 (176,tF),
 (178,tG [(0,176,1)] 1 8 [.c .nilFunc]),
 (180,tG [(0,49,5),(5,23,1),(6,3,1),(7,28,4)] 11 152 [.s [],.nil,.n .i64 0,.s [],.nil,.nil,.n .i64 0,.n .i64 0,.n .i64 0,.n .i64 0,.n .i64 0]),
 (183,tO),
 (189,tL 35),
 (190,tO),
 (192,tI .u64 8),
 (193,tO),
 (195,tO),
 (197,tO),
 (199,tO),
 (215,tF),
 (221,tL 286),
 (222,tL 286),
 (230,tF),
 (234,tO),
 (241,tF),
 (250,tI .u32 4),
 (251,tO),
 (253,tI .u64 8),
 (254,tO),
 (256,tO),
 (261,tO),
 (262,tO),
 (264,tO),
 (272,tO),
 (276,tP),
 (277,tL 5),
 (279,tG [(0,276,1),(1,277,1)] 2 32 [.c<|.pointer none,.nil]),
 (281,tO),
 (286,tG [(0,46,1),(1,23,1)] 2 40 [.s [],.nil]),
 (295,tG [(0,3,1),(1,3,1),(2,215,1),(3,293,1)] 4 32 [.n .i64 0,.n .i64 0,.c .nilFunc,.c .nilFunc]),
 (296,tO),
 (297,tO),
 (299,tL 4),
 (300,tF),
 (301,tF),
 (303,tF),
 (305,tF),
 (306,tF),
 (315,tP),
 (317,tP),
 (319,tF),
 (322,tI .i64 8),
 (323,tO),
 (325,tP),
 (329,⟨.array 24 5,some ⟨true,24,24,.agg [.n .u8 0,.n .u8 0,.n .u8 0,.n .u8 0,.n .u8 0,.n .u8 0,.n .u8 0,.n .u8 0,.n .u8 0,.n .u8 0,.n .u8 0,.n .u8 0,.n .u8 0,.n .u8 0,.n .u8 0,.n .u8 0,.n .u8 0,.n .u8 0,.n .u8 0,.n .u8 0,.n .u8 0,.n .u8 0,.n .u8 0,.n .u8 0]⟩⟩),
 (331,tO),
 (333,tO),
 (335,tL 359),
 (336,tL 359),
 (338,tL 336),
 (341,tG [(0,25,3),(3,3,1),(4,149,1),(5,338,1),(6,338,1),(7,339,1)] 8 144 [.n .i64 0,.nil,.nil,.n .i64 0,.nil,.nil,.nil,.c<|.map none]),
 (345,tO),
 (349,tG [(0,9,1),(1,9,1),(2,261,1)] 3 48 [.s [],.s [],.c .nilIface]),
 (352,⟨.array 20 253,some ⟨true,20,160,.agg [.n .u64 0,.n .u64 0,.n .u64 0,.n .u64 0,.n .u64 0,.n .u64 0,.n .u64 0,.n .u64 0,.n .u64 0,.n .u64 0,.n .u64 0,.n .u64 0,.n .u64 0,.n .u64 0,.n .u64 0,.n .u64 0,.n .u64 0,.n .u64 0,.n .u64 0,.n .u64 0]⟩⟩),
 (353,⟨.array 65 5,some ⟨true,65,65,.agg [.n .u8 0,.n .u8 0,.n .u8 0,.n .u8 0,.n .u8 0,.n .u8 0,.n .u8 0,.n .u8 0,.n .u8 0,.n .u8 0,.n .u8 0,.n .u8 0,.n .u8 0,.n .u8 0,.n .u8 0,.n .u8 0,.n .u8 0,.n .u8 0,.n .u8 0,.n .u8 0,.n .u8 0,.n .u8 0,.n .u8 0,.n .u8 0,.n .u8 0,.n .u8 0,.n .u8 0,.n .u8 0,.n .u8 0,.n .u8 0,.n .u8 0,.n .u8 0,.n .u8 0,.n .u8 0,.n .u8 0,.n .u8 0,.n .u8 0,.n .u8 0,.n .u8 0,.n .u8 0,.n .u8 0,.n .u8 0,.n .u8 0,.n .u8 0,.n .u8 0,.n .u8 0,.n .u8 0,.n .u8 0,.n .u8 0,.n .u8 0,.n .u8 0,.n .u8 0,.n .u8 0,.n .u8 0,.n .u8 0,.n .u8 0,.n .u8 0,.n .u8 0,.n .u8 0,.n .u8 0,.n .u8 0,.n .u8 0,.n .u8 0,.n .u8 0,.n .u8 0]⟩⟩),
 (357,tO),
 (359,tG [(0,119,4),(4,23,1)] 5 88 [.n .i64 0,.nil,.n .i64 0,.nil,.nil]),
 (363,tP),
 (365,tG [(0,9,1)] 1 16 [.s []]),
 (368,tO),
 (370,tF),
 (371,⟨.array 32 5,some ⟨true,32,32,.agg [.n .u8 0,.n .u8 0,.n .u8 0,.n .u8 0,.n .u8 0,.n .u8 0,.n .u8 0,.n .u8 0,.n .u8 0,.n .u8 0,.n .u8 0,.n .u8 0,.n .u8 0,.n .u8 0,.n .u8 0,.n .u8 0,.n .u8 0,.n .u8 0,.n .u8 0,.n .u8 0,.n .u8 0,.n .u8 0,.n .u8 0,.n .u8 0,.n .u8 0,.n .u8 0,.n .u8 0,.n .u8 0,.n .u8 0,.n .u8 0,.n .u8 0,.n .u8 0]⟩⟩),
 (372,⟨.array 64 5,some ⟨true,64,64,.agg [.n .u8 0,.n .u8 0,.n .u8 0,.n .u8 0,.n .u8 0,.n .u8 0,.n .u8 0,.n .u8 0,.n .u8 0,.n .u8 0,.n .u8 0,.n .u8 0,.n .u8 0,.n .u8 0,.n .u8 0,.n .u8 0,.n .u8 0,.n .u8 0,.n .u8 0,.n .u8 0,.n .u8 0,.n .u8 0,.n .u8 0,.n .u8 0,.n .u8 0,.n .u8 0,.n .u8 0,.n .u8 0,.n .u8 0,.n .u8 0,.n .u8 0,.n .u8 0,.n .u8 0,.n .u8 0,.n .u8 0,.n .u8 0,.n .u8 0,.n .u8 0,.n .u8 0,.n .u8 0,.n .u8 0,.n .u8 0,.n .u8 0,.n .u8 0,.n .u8 0,.n .u8 0,.n .u8 0,.n .u8 0,.n .u8 0,.n .u8 0,.n .u8 0,.n .u8 0,.n .u8 0,.n .u8 0,.n .u8 0,.n .u8 0,.n .u8 0,.n .u8 0,.n .u8 0,.n .u8 0,.n .u8 0,.n .u8 0,.n .u8 0,.n .u8 0]⟩⟩),
 (377,tI .i64 8),
 (378,tO),
 (383,tI .u64 8),
 (387,tP),
 (389,tP),
 (390,tO),
 (293,tF),
 (339,tO)]
def hA:cq Tryz.prog tt:=by
 unfold tt
 repeat refine⟨⟨by first|exact rfl|exact⟨_,rfl⟩|exact⟨_,rfl,rfl⟩|exact⟨_,_,_,rfl⟩|exact ao,λi h=>by cases h<;>rfl⟩,?_⟩
 exact ao
def hm:Tryz.prog.follows .mixedOrders=true:=by rfl
section
variable{R:Option Nat->Prop}{N:Nat}{F:St->Prop}{k:List It}{l:aV}
def r0{k':List It}{l':aV}(h:run tt [] N 100000 k l [] []=([],[],k',l'))(hk:AK R Tryz.prog N F k' l'):AK R Tryz.prog N F k l:=go hA hm [] h rfl ao hk
def r1{ob:List Pd}{k':List It}{l':aV}(h:run tt [] N 100000 k l [] []=(ob,[],k',l'))(ho:ag ob)(hk:AK R Tryz.prog N F k' l'):AK R Tryz.prog N F k l:=go hA hm [] h rfl ho hk
def k0{qs:List Bool}{k':List It}{l':aV}(h:run tt [] N 100000 k l [] []=([],qs,k',l'))(hq:mL qs=true)(hk:AK R Tryz.prog N F k' l'):AK R Tryz.prog N F k l:=go hA hm [] h hq ao hk
def k1{ob:List Pd}{qs:List Bool}{k':List It}{l':aV}(h:run tt [] N 100000 k l [] []=(ob,qs,k',l'))(hq:mL qs=true)(ho:ag ob)(hk:AK R Tryz.prog N F k' l'):AK R Tryz.prog N F k l:=go hA hm [] h hq ho hk
def kw(raw:List Nat){ob:List Pd}{qs:List Bool}{k':List It}{l':aV}(h:run tt raw N 100000 k l [] []=(ob,qs,k',l'))(hq:mL qs=true)(ho:ag ob)(hk:AK R Tryz.prog N F k' l'):AK R Tryz.prog N F k l:=go hA hm raw h hq ho hk
def rno{k':List It}{l':aV}(m:Nat){ob:List Pd}(h:run tt [] N m k l [] []=(ob,[],k',l'))(ho:ag ob)(hk:AK R Tryz.prog N F k' l'):AK R Tryz.prog N F k l:=(nn hA hm h ho rfl).2.2 hk
def br{c:Operand}{t e:Code}{x:SR}{p:Prop}[Decidable p](hf:aI c=true)(h:dP l c=some x)(hx:cX x=some ([],.u<|decide p))(h1:p->AK R Tryz.prog N F (.code t::k) l)(h2:¬p->AK R Tryz.prog N F (.code e::k) l):AK R Tryz.prog N F (.code (.cond c t e)::k) l:=Y4 hf h hx ao h1 h2
def nB{c:Operand}{t e:Code}{x:SR}{b:Bool}(hf:aI c=true)(h:dP l c=some x)(hx:cX x=some ([],.u b))(h1:b=true->AK R Tryz.prog N F (.code t::k) l)(h2:b=false->AK R Tryz.prog N F (.code e::k) l):AK R Tryz.prog N F (.code (.cond c t e)::k) l:=branch hf h hx ao h1 h2
def cl{all:Array Oper}{rest:List Oper}{dst:Option Nat}{f:Operand}{xs ts:Array _}{ty:TypeId}{pos:String}{cL:Array Edge}{g:Option (Nat×Bool)}{h:tq}{r:SV}{l':aV}{ks:List Nat}
 (hg:cP l all.toList g=some true)(hh:rJ l f xs.toList=some ([],h))(hs:aL Tryz.prog h.g h.aas r)(ht:kD l dst r h.sh=some ([],l',ks))(hk:AK R Tryz.prog N F (.ops all rest::k) l'):
 AK R Tryz.prog N F (.ops all (⟨dst,.call ⟨.value f,xs,ts⟩,ty,pos,cL,g⟩::rest)::k) l:=call hg hh ao hs ht ao hk
def cd{all:Array Oper}{mm:List Nat}{acc:List (List Nat×List Nat)}{rest:List Oper}{dst:Option Nat}{f:Operand}{xs ts:Array _}{ty:TypeId}{pos:String}{cL:Array Edge}{g:Option (Nat×Bool)}{h:tq}{r:SV}{l':aV}{ks:List Nat}
 (hg:cP l all.toList g=some true)(hh:rJ l f xs.toList=some ([],h))(hs:aL Tryz.prog h.g h.aas r)(ht:kD l dst r h.sh=some ([],l',ks))
 (hk:AK R Tryz.prog N F (.og all mm rest ((ix (dn l) all ⟨dst,.call ⟨.value f,xs,ts⟩,ty,pos,cL,g⟩,ks)::acc)::k) l'):
 AK R Tryz.prog N F (.og all mm (⟨dst,.call ⟨.value f,xs,ts⟩,ty,pos,cL,g⟩::rest) acc::k) l:=VM hg hh ao hs ht ao hk
def Il{all:Array Oper}{rest:List Oper}{dst:Option Nat}{f:Operand}{xs ts:Array _}{ty:TypeId}{pos:String}{cL:Array Edge}{g:Option (Nat×Bool)}{h:tq}{r:SV}{l':aV}{ks:List Nat}{us:List SV}{ob:List Pd}
 (hg:cP l all.toList g=some true)(hh:rJ l f xs.toList=some (ob,h))(ho:ag ob)(hl:EW h.aas us)(hs:aL Tryz.prog h.g us r)(ht:kD l dst r h.sh=some ([],l',ks))(hk:AK R Tryz.prog N F (.ops all rest::k) l'):
 AK R Tryz.prog N F (.ops all (⟨dst,.call ⟨.value f,xs,ts⟩,ty,pos,cL,g⟩::rest)::k) l:=call hg hh ho (hs.adJ hl) ht ao hk
def dk{all:Array Oper}{mm:List Nat}{acc:List (List Nat×List Nat)}{rest:List Oper}{dst:Option Nat}{f:Operand}{xs ts:Array _}{ty:TypeId}{pos:String}{cL:Array Edge}{g:Option (Nat×Bool)}{h:tq}{r:SV}{l':aV}{ks:List Nat}{us:List SV}{ob:List Pd}
 (hg:cP l all.toList g=some true)(hh:rJ l f xs.toList=some (ob,h))(ho:ag ob)(hl:EW h.aas us)(hs:aL Tryz.prog h.g us r)(ht:kD l dst r h.sh=some ([],l',ks))
 (hk:AK R Tryz.prog N F (.og all mm rest ((ix (dn l) all ⟨dst,.call ⟨.value f,xs,ts⟩,ty,pos,cL,g⟩,ks)::acc)::k) l'):
 AK R Tryz.prog N F (.og all mm (⟨dst,.call ⟨.value f,xs,ts⟩,ty,pos,cL,g⟩::rest) acc::k) l:=VM hg hh ho (hs.adJ hl) ht ao hk
def Xe{rs:List ResultVar}{r:SV}{xs:List SV}(h:iO tt l rs=some xs)(hr:an (A5 xs).bw r):AK R Tryz.prog N (Wb Tryz.prog rs r) [] l:=adY hA h hr
def aG{rs:List ResultVar}{r:SV}{xs:List SV}(h:iO tt l rs=some xs)(hr:an (A5 xs) r):AK R Tryz.prog N (Wb Tryz.prog rs r) [] l:=ret hA h hr
def Xf{rs:List ResultVar}{r:SV}{H':List SV}{xs:List SV}(l':List (Nat×SV))(hf:AZ l l')(h:iO tt (sl l') rs=some xs)(hr:an (A5 xs) r)(hh:RF (sl l') 1000000 H'):AK R Tryz.prog N (Wa Tryz.prog rs r H') [] l:=ahP hA l' hf h hr hh
def cr{all:Array Oper}{rest:List Oper}{dst:Option Nat}{f:Operand}{xs ts:Array _}{ty:TypeId}{pos:String}{cL:Array Edge}{g:Option (Nat×Bool)}{h:lQ}{out:List SV}{r:SV}{l':aV}{ks:List Nat}
 (hg:cP l all.toList g=some true)(hh:sT l f xs.toList=some ([],h))(hs:lp Tryz.prog h.g (lv h.R) h.aas out r)(ht:ic l dst h.R out r=some (l',ks))(hk:AK R Tryz.prog N F (.ops all rest::k) l'):
 AK R Tryz.prog N F (.ops all (⟨dst,.call ⟨.value f,xs,ts⟩,ty,pos,cL,g⟩::rest)::k) l:=R7 hg hh ao hs ht hk
def crd{all:Array Oper}{mm:List Nat}{acc:List (List Nat×List Nat)}{rest:List Oper}{dst:Option Nat}{f:Operand}{xs ts:Array _}{ty:TypeId}{pos:String}{cL:Array Edge}{g:Option (Nat×Bool)}{h:lQ}{out:List SV}{r:SV}{l':aV}{ks:List Nat}
 (hg:cP l all.toList g=some true)(hh:sT l f xs.toList=some ([],h))(hs:lp Tryz.prog h.g (lv h.R) h.aas out r)(ht:ic l dst h.R out r=some (l',ks))
 (hk:AK R Tryz.prog N F (.og all mm rest ((ix (dn l) all ⟨dst,.call ⟨.value f,xs,ts⟩,ty,pos,cL,g⟩,ks)::acc)::k) l'):
 AK R Tryz.prog N F (.og all mm (⟨dst,.call ⟨.value f,xs,ts⟩,ty,pos,cL,g⟩::rest) acc::k) l:=Oa hg hh ao hs ht hk
def wn{all:Array Oper}{rest:List Oper}{d:Nat}{t:TypeId}{x:Operand}{lo hi:Option Operand}{ty:TypeId}{pos:String}{cL:Array Edge}{g:Option (Nat×Bool)}{ob:List Pd}{l':aV}{ks:List Nat}
 (hg:cP l all.toList g=some true)(h:yV tt l d t x lo hi=some (ob,l',ks))(ho:ag ob)(hk:AK R Tryz.prog N F (.ops all rest::k) l'):
 AK R Tryz.prog N F (.ops all (⟨some d,.slice t x lo hi none,ty,pos,cL,g⟩::rest)::k) l:=ahz hA hg h ho hk
def wnd{all:Array Oper}{mm:List Nat}{acc:List (List Nat×List Nat)}{rest:List Oper}{d:Nat}{t:TypeId}{x:Operand}{lo hi:Option Operand}{ty:TypeId}{pos:String}{cL:Array Edge}{g:Option (Nat×Bool)}{ob:List Pd}{l':aV}{ks:List Nat}
 (hg:cP l all.toList g=some true)(h:yV tt l d t x lo hi=some (ob,l',ks))(ho:ag ob)
 (hk:AK R Tryz.prog N F (.og all mm rest ((ix (dn l) all ⟨some d,.slice t x lo hi none,ty,pos,cL,g⟩,ks)::acc)::k) l'):
 AK R Tryz.prog N F (.og all mm (⟨some d,.slice t x lo hi none,ty,pos,cL,g⟩::rest) acc::k) l:=ahA hA hg h ho hk
def mkf{all:Array Oper}{rest:List Oper}{d:Nat}{gf:FuncId}{first ba:Array Operand}{ty:TypeId}{pos:String}{cL:Array Edge}{g:Option (Nat×Bool)}{l':aV}{ks:List Nat}
 (hg:cP l all.toList g=some true)(h:TV l d gf first.toList ba.toList=some (l',ks))(hk:AK R Tryz.prog N F (.ops all rest::k) l'):
 AK R Tryz.prog N F (.ops all (⟨some d,.makeFunc (.func gf) first ba,ty,pos,cL,g⟩::rest)::k) l:=ahX hg h hk
def cc{all:Array Oper}{rest:List Oper}{dst:Option Nat}{f:Operand}{xs ts:Array _}{ty:TypeId}{pos:String}{cL:Array Edge}{g:Option (Nat×Bool)}{h:lQ}{out:List SV}{r:SV}{l':aV}{ks:List Nat}
 (hg:cP l all.toList g=some true)(hh:CY l f xs.toList=some h)(hs:lp Tryz.prog h.g (lv h.R) h.aas out r)(ht:ic l dst h.R out r=some (l',ks))(hk:AK R Tryz.prog N F (.ops all rest::k) l'):
 AK R Tryz.prog N F (.ops all (⟨dst,.call ⟨.value f,xs,ts⟩,ty,pos,cL,g⟩::rest)::k) l:=aj0 hg hh hs ht hk
def Wp{all:Array Oper}{mm:List Nat}{acc:List (List Nat×List Nat)}{rest:List Oper}{d:Nat}{t:TypeId}{m x:Operand}{Sm:Bool}{ty:TypeId}{pos:String}{cL:Array Edge}{g:Option (Nat×Bool)}{h:(Obj->Prop)×SV}{l':aV}{ks:List Nat}(y:SV)
 (hg:cP l all.toList g=some true)(hh:HO l m x=some h)(hy:y.aF=true)(hs:Looks Tryz.prog t Sm h.1 h.2.den y.den)(ht:rF l [] d y (λl'=>some (l',[d]))=some (l',ks))
 (hk:AK R Tryz.prog N F (.og all mm rest ((ix (dn l) all ⟨some d,.lookup t m x Sm,ty,pos,cL,g⟩,ks)::acc)::k) l'):
 AK R Tryz.prog N F (.og all mm (⟨some d,.lookup t m x Sm,ty,pos,cL,g⟩::rest) acc::k) l:=ahY y hg hh hy hs ht hk
def yk{all:Array Oper}{rest:List Oper}{dst:Option Nat}{f:Operand}{xs ts:Array _}{ty:TypeId}{pos:String}{cL:Array Edge}{g:Option (Nat×Bool)}{ob:List Pd}{h:LQ}{J':pk}{b:Bool}{l':aV}{ks:List Nat}
 (hg:cP l all.toList g=some true)(hh:KC l f xs.toList=some (ob,h))(ho:ag ob)(hs:∀v,h.C v->Yields Tryz.prog h.J J' (au h.aas) b v)(ht:E7 l dst J' b=some (l',ks))(hk:AK R Tryz.prog N F (.ops all rest::k) l'):
 AK R Tryz.prog N F (.ops all (⟨dst,.call ⟨.value f,xs,ts⟩,ty,pos,cL,g⟩::rest)::k) l:=aao hg hh ho hs ht hk
def ex{all:Array Oper}{rest:List Oper}{o:Oper}{h:zG}{out:List SV}{r:SV}{l':aV}{ks:List Nat}
 (hg:cP l all.toList o.guard=some true)(bt:rW (dn l) o.op=true)(hh:yN l o.op.operands.toList=some h)(hs:ll Tryz.prog o (lv h.R) h.aas out r)(ht:ic l o.dst h.R out r=some (l',ks))(hk:AK R Tryz.prog N F (.ops all rest::k) l'):
 AK R Tryz.prog N F (.ops all (o::rest)::k) l:=ajQ hg bt hh hs ht hk
def exd{all:Array Oper}{mm:List Nat}{acc:List (List Nat×List Nat)}{rest:List Oper}{o:Oper}{h:zG}{out:List SV}{r:SV}{l':aV}{ks:List Nat}
 (hg:cP l all.toList o.guard=some true)(bt:rW (dn l) o.op=true)(hh:yN l o.op.operands.toList=some h)(hs:ll Tryz.prog o (lv h.R) h.aas out r)(ht:ic l o.dst h.R out r=some (l',ks))
 (hk:AK R Tryz.prog N F (.og all mm rest ((ix (dn l) all o,ks)::acc)::k) l'):
 AK R Tryz.prog N F (.og all mm (o::rest) acc::k) l:=ajR hg bt hh hs ht hk
def cqd{all:Array Oper}{mm:List Nat}{acc:List (List Nat×List Nat)}{rest:List Oper}{dst:Option Nat}{f:Operand}{xs ts:Array _}{ty:TypeId}{pos:String}{cL:Array Edge}{g:Option (Nat×Bool)}{h:Qi}{r:SV}{l':aV}{ks:List Nat}
 (hg:cP l all.toList g=some true)(hh:Ps l f xs.toList=some ([],h))(hs:Ot Tryz.prog h.g h.v h.aas r)(ht:zP l dst r=some (l',ks))
 (hk:AK R Tryz.prog N F (.og all mm rest ((ix (dn l) all ⟨dst,.call ⟨.value f,xs,ts⟩,ty,pos,cL,g⟩,ks)::acc)::k) l'):
 AK R Tryz.prog N F (.og all mm (⟨dst,.call ⟨.value f,xs,ts⟩,ty,pos,cL,g⟩::rest) acc::k) l:=aaQ hg hh ao hs ht hk
def ldj{all:Array Oper}{mm:List Nat}{acc:List (List Nat×List Nat)}{rest:List Oper}{dst:Option Nat}{t:TypeId}{x:Operand}{ty:TypeId}{pos:String}{cL:Array Edge}{g:Option (Nat×Bool)}{h:Wg}{y:SV}{l':aV}{ks:List Nat}
 (hg:cP l all.toList g=some true)(hh:UU l x=some h)(hs:Qh Tryz.prog t h.C h.J y.den)(hy:y.aF=true)(ht:zP l dst y=some (l',ks))
 (hk:AK R Tryz.prog N F (.og all mm rest ((ix (dn l) all ⟨dst,.load t x,ty,pos,cL,g⟩,ks)::acc)::k) l'):
 AK R Tryz.prog N F (.og all mm (⟨dst,.load t x,ty,pos,cL,g⟩::rest) acc::k) l:=aej hg hh hs hy ht hk
def bE{N:Nat}{f:FuncId}{fn:Func}{c:Code}{args:List SV}{r:SV}(hf:Tryz.prog.funcs[f]?=some fn)(h0:(fn.body,fn.ntmps,fn.name== "runtime.NumGoroutine",Nat.ble (len args) fn.ntmps,eE fn.results.toList [])=(some c,N,false,true,true))
 (h:AK R0 Tryz.prog N (Wb Tryz.prog fn.results.toList r) [.code c] (Bl 0 args)):aL Tryz.prog f args r:=by
 simp only[ac3]at h0;obtain⟨h1,h5,h2,h3,h4⟩:=h0;subst h5;exact enter hf h1 h2 h3 h4 h
def bH{c:Operand}{t e:Code}{x:SR}{p:Prop}[Decidable p](h0:(aI c,dP l c,cX x)=(true,some x,some ([],.u<|decide p)))(h1:p->AK R Tryz.prog N F (.code t::k) l)(h2:¬p->AK R Tryz.prog N F (.code e::k) l):AK R Tryz.prog N F (.code (.cond c t e)::k) l:=by simp only[ac3]at h0;exact br h0.1 h0.2.1 h0.2.2 h1 h2
def bF{all:Array Oper}{rest:List Oper}{dst:Option Nat}{f:Operand}{xs ts:Array _}{ty:TypeId}{pos:String}{cL:Array Edge}{g:Option (Nat×Bool)}{h:tq}{r:SV}{l':aV}{ks:List Nat}
 (h0:(cP l all.toList g,rJ l f xs.toList)=(some true,some ([],h)))(hs:aL Tryz.prog h.g h.aas r)(ht:kD l dst r h.sh=some ([],l',ks))(hk:AK R Tryz.prog N F (.ops all rest::k) l'):
 AK R Tryz.prog N F (.ops all (⟨dst,.call ⟨.value f,xs,ts⟩,ty,pos,cL,g⟩::rest)::k) l:=by simp only[ac3]at h0;exact cl h0.1 h0.2 hs ht hk
def bG{all:Array Oper}{mm:List Nat}{acc:List (List Nat×List Nat)}{rest:List Oper}{dst:Option Nat}{f:Operand}{xs ts:Array _}{ty:TypeId}{pos:String}{cL:Array Edge}{g:Option (Nat×Bool)}{h:tq}{r:SV}{l':aV}{ks:List Nat}
 (h0:(cP l all.toList g,rJ l f xs.toList)=(some true,some ([],h)))(hs:aL Tryz.prog h.g h.aas r)(ht:kD l dst r h.sh=some ([],l',ks))
 (hk:AK R Tryz.prog N F (.og all mm rest ((ix (dn l) all ⟨dst,.call ⟨.value f,xs,ts⟩,ty,pos,cL,g⟩,ks)::acc)::k) l'):
 AK R Tryz.prog N F (.og all mm (⟨dst,.call ⟨.value f,xs,ts⟩,ty,pos,cL,g⟩::rest) acc::k) l:=by simp only[ac3]at h0;exact cd h0.1 h0.2 hs ht hk
def bB{rs:List ResultVar}{r:SV}{xs:List SV}(h:(iO tt l rs,A5 xs)=(some xs,r)):AK R Tryz.prog N (Wb Tryz.prog rs r) [] l:=by simp only[ac3]at h;exact aG h.1<|.of_eq h.2
def bC{a b:Int}(h:a=b):an (.i a) (.i b):=.of_eq<|congrArg SV.i h
end
section
variable{l:List Int}{m n:Nat}
def B9:Nat:=1000000000
def ae(n:Nat):List Int:=if h:n=0 then[]else((n%B9:Nat):Int)::ae (n/B9)
 termination_by n
 decreasing_by exact afK (afS h) (by decide)
def val:List Int->Int
 |[]=>0
 |d::l=>d+1000000000*val l
def gU(l:List Int):Prop:=∀d∈l,0<=d/\d<1000000000
def cD:ae 0=[]:=by rw[ae];simp
def bc(n:Nat):val (ae n)=n:=by
 induction n using Nat.strongRecOn with
 |_ n ih=>
  rw[ae];split
  ·rename_i h;subst h;rfl
  rename_i h;have cS:n/B9<n:=afK (afS h) (by decide);simp[val,ih _ cS];unfold B9;omega
def bk(n:Nat):gU (ae n):=by
 induction n using Nat.strongRecOn with
 |_ n ih=>
  rw[ae];split
  ·intro d hd;cases hd
  rename_i h;have cS:n/B9<n:=afK (afS h) (by decide);intro d hd;rcases aci.1 hd with rfl|hd
  ·unfold B9;omega
  exact ih _ cS d hd
def aY:∀{l:List Int},gU l->0<=val l
 |[],_=>by simp[val]
 |d::l,h=>by have h1:=h d (by simp);have h2:=aY (l:=l) λx hx=>h x (by simp[hx]);simp[val];omega
def eM(l:List Int)(d:Int):val (l++[d])=val l+d*1000000000^l.length:=by
 induction l with
 |nil=>simp[val]
 |cons x l ih=>simp[val,ih,adf];rw[ahv];simp only[Int.add_assoc];congr 2;rw[<-adh,adj 1000000000,adh,adj 1000000000]
def ia:∀{l:List Int},gU l->val l<1000000000^l.length
 |[],_=>by simp[val]
 |d::l,h=>by have h1:=h d (by simp);have h2:=ia (l:=l) λx hx=>h x (by simp[hx]);simp[val];omega
def tc:∀{l:List Int},gU l->l.getLast?≠some 0->ae (val l).toNat=l
 |[],_,_=>by simp[val,cD]
 |d::l,h,hz=>by
  have h1:=h d (by simp);have hl:gU l:=λx hx=>h x (by simp[hx]);have h2:=aY hl;have hz':l.getLast?≠some 0:=by
   cases l with
   |nil=>simp
   |cons x l=>simpa using hz
  have ih:=tc hl hz';have dc:(val<|d::l).toNat≠0:=by
   simp only[val];intro h0;have hd:d=0:=by omega
   have hv:val l=0:=by omega
   cases l with
   |nil=>subst hd;simp at hz
   |cons x l=>rw[hv]at ih;simp[cD]at ih
  rw[ae,dif_neg dc];have e1:(((val<|d::l).toNat%B9:Nat):Int)=d:=by simp[val];unfold B9;omega
  have e2:(val<|d::l).toNat/B9=(val l).toNat:=by simp[val];unfold B9;omega
  rw[e1,e2,ih]
def tS(h:gU l)(hz:l.getLast?≠some 0)(hv:val l=n):l=ae n:=by have:=tc h hz;rw[hv]at this;simpa using this.symm
def pW(n:Nat):(ae n).getLast?≠some 0:=by
 induction n using Nat.strongRecOn with
 |_ n ih=>
  rw[ae];split
  ·simp
  rename_i h;have cS:n/B9<n:=afK (afS h) (by decide);have:=ih _ cS;cases hl:ae (n/B9)with
  |nil=>intro he;have hv:=bc<|n/B9;rw[hl]at hv;simp[val]at hv;simp at he;unfold B9 at he hv;omega
  |cons x l=>rw[hl]at this;simpa using this
def aH(l:List Int)(i:Nat):val (l.take<|i+1)=val (l.take i)+l.getD i 0*1000000000^i:=by
 by_cases h:i<l.length
 ·rw[ac6 h,eM];simp[acL h,ae0<|af6 h]
 rw[acR<|by omega,acR<|by omega];simp[adA<|show l.length<=i by omega]
def a7(h:gU l)(i:Nat):0<=l.getD i 0/\l.getD i 0<1000000000:=by
 by_cases hi:i<l.length
 ·have:=h l[i] (ab9 hi);simpa[acL hi]using this
 simp[adA<|show l.length<=i by omega]
def iY{d:Int}(h:gU l)(hd:0<=d/\d<1000000000):gU (l++[d]):=by
 intro x hx;rcases ac5.1 hx with hx|hx
 ·exact h x hx
 simp at hx;subst hx;exact hd
def CK(h:gU l)(hv:l=[]\/1000000000^(l.length-1)<=val l):l.getLast?≠some 0:=by
 rcases ajA l with rfl|⟨l,d,rfl⟩
 ·simp
 rw[ajB]at*;rcases hv with hv|hv
 ·simp at hv
 simp;rintro rfl;rw[eM]at hv;have:=ia (l:=l) λx hx=>h x (by simp[hx]);simp at hv;omega
def cG(n:Nat):(0:Int)<1000000000^n:=Int.pow_pos (by decide)
def qU(h:gU l)(hl:l.getLast?≠some 0):l=[]\/1000000000^(l.length-1)<=val l:=by
 rcases ajA l with rfl|⟨l,d,rfl⟩
 ·exact .inl rfl
 right;rw[ajB]at*;rw[eM];have h1:=aY (l:=l) λx hx=>h x (by simp[hx]);have h2:=h d (by simp);simp at hl;simp;have h3:=cG l.length;have:1*1000000000^l.length<=d*1000000000^l.length:=afL (by omega) (by omega);omega
def fZ(n:Nat):ae n=[]\/(1000000000:Int)^((ae n).length-1)<=n:=by have:=qU (bk n)<|pW n;rwa[bc]at this
def cQ:List Int->List Int
 |[]=>[]
 |d::l=>match cQ l with
  |[]=>if d=0 then[]else[d]
  |x::r=>d::x::r
def ma:∀l:List Int,cQ (l++[0])=cQ l
 |[]=>by simp[cQ]
 |d::l=>by simp[cQ,ma l]
def nH:∀{l:List Int},l.getLast?≠some 0->cQ l=l
 |[],_=>rfl
 |[d],h=>by simp at h;simp[cQ,h]
 |d::x::l,h=>by have:=nH (l:=x::l) h;rw[cQ,this]
def uN{w:List Int}(hn:n+1=w.length)(h:w.getD n 0=0):cQ (w.take n)=cQ w:=by
 have e:w=w.take n++[0]:=by
  have h1:n<w.length:=by omega
  have h2:w[n]=0:=by simpa[acL h1]using h
  have h3:=ac6 h1;rw[acR<|by omega,h2]at h3;exact h3
 conv=>rhs;rw[e,ma]
def pq:∀l:List Int,val (cQ l)=val l
 |[]=>rfl
 |d::l=>by
  have ih:=pq l;simp[cQ];split
  ·rename_i h;rw[h]at ih;simp[val]at ih⊢;split
   ·rename_i h0;simp[val];omega
   simp[val];omega
  rename_i x r h;rw[h]at ih;simp[val]at ih⊢;omega
def dV(h:gU l):cQ l=ae (val l).toNat:=by
 have h1:gU (cQ l)/\(cQ l).getLast?≠some 0:=by
  induction l with
  |nil=>exact⟨h,by simp[cQ]⟩
  |cons d l ih=>
   obtain⟨i1,i2⟩:=ih λx hx=>h x (by simp[hx]);have hd:=h d (by simp);simp[cQ];split
   ·split
    ·simp_all
    rename_i h0;exact⟨λx hx=>by simp at hx;subst hx;exact hd,by simpa using h0⟩
   rename_i x r he;rw[he]at i1 i2;exact⟨λy hy=>by
    rcases aci.1 hy with rfl|hy
    ·exact hd
    exact i1 y hy,i2⟩
 rw[tS h1.1 h1.2 (n:=(val l).toNat) (by rw[pq];have:=aY h;omega)]
def vQ:∀l:List Int,(cQ l).length<=l.length
 |[]=>by simp[cQ]
 |d::l=>by
  have:=vQ l;simp[cQ];split
  ·split<;>simp
  rename_i x r h;rw[h]at this;simpa using this
def gI(l:List Int)(k:Nat):val l=val (l.take k)+1000000000^(l.take k).length*val (l.drop k):=by
 induction l generalizing k with
 |nil=>simp[val]
 |cons d l ih=>
  cases k with
  |zero=>simp[val]
  |succ k=>simp[val];grind
def aaq(h:gU l)(k:Nat):gU (l.take k):=λx hx=>h x<|af5 hx
def oh(h:gU l)(k:Nat):gU (l.drop k):=λx hx=>h x<|afT hx
def bQ(n:Nat):(n:Int)<1000000000^(ae n).length:=by have:=ia<|bk n;rwa[bc]at this
def eI(h:n≠0):0<(ae n).length:=by rw[ae,dif_neg h];simp
def ij{a b:Nat}(h:a<=b):(1000000000:Int)^a<=1000000000^b:=by obtain⟨k,rfl⟩:=Nat.exists_eq_add_of_le h;rw[afq];have h1:=cG a;have h2:=cG k;have:=aec (show(1:Int)<=1000000000^k by omega)<|ads h1;omega
def b6(h:(ae m).length<(ae n).length):m<n:=by
 have h1:=bQ m;rcases fZ n with h2|h2
 ·rw[h2]at h;cases h
 have h3:(1000000000:Int)^(ae m).length<=1000000000^((ae n).length-1):=ij (by omega);omega
def ou(m n:Nat):Int:=if m<n then -1 else if n<m then 1 else 0
def mj{k:Nat}(hk:k<(ae m).length)(hl:(ae m).length=(ae n).length)(hd:(ae m).drop (k+1)=(ae n).drop (k+1))(h:(ae m).getD k 0<(ae n).getD k 0):m<n:=by
 have e1:=gI (ae m)<|k+1;have e2:=gI (ae n)<|k+1;rw[bc,aH]at e1 e2;rw[hd]at e1;have l1:((ae m).take<|k+1).length=k+1:=by simp;omega
 have l2:((ae n).take<|k+1).length=k+1:=by simp;omega
 rw[l1]at e1;rw[l2]at e2;have b1:=ia<|aaq (bk m) k;have b2:=aY<|aaq (bk n) k;have l3:((ae m).take k).length=k:=by simp;omega
 rw[l3]at b1;have hp:=cG k;have:((ae m).getD k 0+1)*1000000000^k<=(ae n).getD k 0*1000000000^k:=afL (by omega) (by omega);rw[ada]at this;omega
def kC:∀{l:List Int}{j:Nat}(y:Int),j<l.length->val (l.set j y)=val l+(y-l.getD j 0)*1000000000^j
 |[],j,y,h=>by cases h
 |d::l,0,y,_=>by simp[val];omega
 |d::l,j+1,y,h=>by have:=kC (l:=l) (j:=j) y (by simpa using h);simp[val];grind
def eK(h:gU l){j:Nat}{y:Int}(hy:0<=y/\y<1000000000):gU (l.set j y):=by
 intro x hx;rcases aif hx with hx|hx
 ·exact h x hx
 subst hx;exact hy
def b7(l:List Int)(j k:Nat)(y:Int):(l.set j y).getD k 0=if j=k/\k<l.length then y else l.getD k 0:=by
 by_cases h:j=k
 ·subst h;by_cases h2:j<l.length
  all_goals simp[h2]
 simp[h]
def iB(n:Nat):val (List.replicate n 0)=0:=by
 induction n with
 |zero=>rfl
 |succ n ih=>simp[ag7,val,ih]
def ff(n:Nat):gU (List.replicate n 0):=λx hx=>by rw[ahw hx];omega
def fw(n k:Nat):(List.replicate n (0:Int)).getD k 0=0:=by simp[agP];split<;>rfl
end
def td(xs:List Int)(i:Nat):aL Tryz.prog 277 [.ints .i64 false xs,.i i] (.i<|xs.getD i 0):=by
 refine bE Tryz.func277 rfl<|r0 rfl<|bH rfl (λh=>?_) (λh=>?_)
 ·refine r1 rfl ⟨by omega,by omega,by omega,ao⟩<|aG rfl rfl
 refine r0 rfl<|aG rfl ?_;simp[an,A5,gt,adA<|show xs.length<=i by omega]
def Bo(m n:Nat)(h1:(ae m).length<2^40)(h2:(ae n).length<2^40):aL Tryz.prog 250 [.ints .i64 false<|ae m,.ints .i64 false<|ae n] (.ints .i64 true<|ae<|m+n):=by
 refine bE Tryz.func250 rfl<|r0 rfl<|oN (λ(i:Nat)(out:List Int)(c:Int)=>[(0,.ints .i64 false<|ae m),(1,.ints .i64 false<|ae n),(5,.ints .i64 true out),(6,.i c),(7,.i i)])
  (λi out c=>gU out/\out.length=i/\0<=c/\c<=1/\val out+c*1000000000^i=val ((ae m).take i)+val ((ae n).take i)/\(i<=(ae m).length\/i<=(ae n).length\/(c=0/\out.getLast?≠some 0/\i<=(ae m).length+(ae n).length+1)))
  (λi _ _=>(ae m).length+(ae n).length+2-i) 0 [] 0 ⟨by simp[gU],rfl,by omega,by omega,by simp[val],by omega⟩ ⟨ab,ab,ab,ab,ab,ao⟩ ?_
 rintro i out c⟨hd,hl,c0,c1,hv,hi⟩;refine IC (acx [(0,.ints .i64 false<|ae m),(1,.ints .i64 false<|ae n),(5,.ints .i64 true out),(6,.i c),(7,.i i)] (i<(ae m).length\/i<(ae n).length\/0<c) ?_ λcS=>?_)
 ·refine r0 rfl<|aC 13 rfl (λh=>?_) (λh=>?_)
  ·refine r0 rfl<|aP (by omega) ⟨ab,ab,ab,ab,ab,ao⟩
  refine r0 rfl<|aC 19 rfl (λh=>?_) (λh=>?_)
  ·refine r0 rfl<|aP (by omega) ⟨ab,ab,ab,ab,ab,ao⟩
  refine r0 rfl<|bH rfl (λh=>?_) (λh=>?_)
  ·refine r0 rfl<|aP (by omega) ⟨ab,ab,ab,ab,ab,ao⟩
  refine r0 rfl<|aG rfl ?_;have hc:c=0:=by omega
  rw[acR<|by omega,acR<|by omega,bc,bc,hc]at hv;have hz:out.getLast?≠some 0:=by
   have g1:=fZ m;have g2:=fZ n;rcases hi with hi|hi|hi
   ·refine CK hd ?_;have:i=(ae m).length:=by omega
    rw[hl,this];rcases g1 with g1|g1
    ·left;rw[g1]at this;exact af4.1 (by simpa[hl]using this)
    right;omega
   ·refine CK hd ?_;have:i=(ae n).length:=by omega
    rw[hl,this];rcases g2 with g2|g2
    ·left;rw[g2]at this;exact af4.1 (by simpa[hl]using this)
    right;omega
   exact hi.2.1
  show SV.ints .i64 true out=_;rw[tS hd hz (n:=m+n)<|by omega]
 have e1:=a7 (bk m) i;have e2:=a7 (bk n) i;refine r0 rfl<|bF rfl (td _ _) rfl<|r0 rfl<|bF rfl (td _ _) rfl ?_;generalize hx:(ae m).getD i 0=x at*;generalize hy:(ae n).getD i 0=y at*;refine r1 rfl ?_ ?_
 ·simp[ag,and_true,acU,acY];omega
 refine again (i+1,out++[(x+y+c)%1000000000],(x+y+c)/1000000000) ?_ ?_ ?_
 ·dsimp only;omega
 ·dsimp only;refine⟨iY hd<|by omega,by simp[hl],by omega,by omega,?_,?_⟩
  ·rw[eM,hl,aH,aH,hx,hy,adf];have:=aha (x+y+c) 1000000000;generalize (1000000000:Int)^i=B at*
   grind
  by_cases h3:i<(ae m).length
  ·omega
  by_cases h4:i<(ae n).length
  ·omega
  right;right;have hx0:x=0:=by rw[<-hx];simp[aca,adA<|show(ae m).length<=i by omega]
  have F9:y=0:=by rw[<-hy];simp[aca,adA<|show(ae n).length<=i by omega]
  have hc:c=1:=by omega
  subst hx0 F9 hc;exact⟨by decide,by simp,by omega⟩
 exact⟨ab,ab,ab,ab,ab,ao⟩
def dm(xs:List Int)(hx:xs.length<2^60):aL Tryz.prog 209 [.ints .i64 false xs] (.ints .i64 false<|cQ xs):=by
 refine bE Tryz.func209 rfl<|r0 rfl<|loop (λw:List Int=>[(0,.ints .i64 false w)]) (λw=>cQ w=cQ xs/\w.length<=xs.length) (λw=>w.length) xs ⟨rfl,abZ _⟩ ⟨ab,ao⟩ ?_;rintro w⟨hw,hl⟩;refine r0 rfl<|aC 6 rfl (λh=>?_) (λh=>?_)
 ·refine r1 rfl (by simp[ag,and_true];omega) ?_;refine bH rfl (λh0=>?_) (λh0=>?_)
  ·refine r1 rfl (by simp[ag,and_true];omega) ?_;have e:((w.drop 0).take<|(((w.length:Nat):Int)-1).toNat-0)=w.take (w.length-1):=by
    rw[aeP];congr 1;omega
   refine again (w.take<|w.length-1) ?_ ⟨?_,?_⟩ ⟨⟨rfl,an.of_eq<|congrArg (SV.ints .i64 false) e⟩,ao⟩
   ·simp;omega
   ·rw[<-hw];refine uN (by omega) ?_;have:((((w.length:Nat):Int)-1).toNat)=w.length-1:=by omega
    rw[this]at h0;exact h0
   simp;omega
  refine r0 rfl<|aG rfl ?_;rw[<-hw];refine an.of_eq<|congrArg (SV.ints .i64 false) (nH ?_).symm;intro hl;have:((((w.length:Nat):Int)-1).toNat)=w.length-1:=by omega
  rw[this]at h0;rw[ajC]at hl;apply h0;rw[aca,hl];rfl
 refine r0 rfl<|aG rfl ?_;have:w=[]:=af4.1 (by omega);subst this;rw[<-hw];rfl
def mQ(m n:Nat)(h1:(ae m).length<2^60)(h2:(ae n).length<2^60):aL Tryz.prog 207 [.ints .i64 false<|ae m,.ints .i64 false<|ae n] (.i<|ou m n):=by
 refine bE Tryz.func207 rfl<|r0 rfl<|bH rfl (λh=>?_) (λh=>?_)
 ·refine r0 rfl<|bH rfl (λh3=>?_) (λh3=>?_)
  ·refine r0 rfl<|aG rfl<|bC ?_;have:=b6 (m:=m) (n:=n) (by omega);simp[ou,this]
  refine r0 rfl<|aG rfl<|bC ?_;have:=b6 (m:=n) (n:=m) (by omega);simp[ou];rw[if_neg<|by omega,if_pos this]
 have hl:(ae m).length=(ae n).length:=by omega
 refine r1 rfl (by simp[ag,and_true];omega) ?_;refine loop (λi:Nat=>[(0,.ints .i64 false<|ae m),(1,.ints .i64 false<|ae n),(5,.i<|(i:Int)-1)]) (λi=>i<=(ae m).length/\(ae m).drop i=(ae n).drop i) (λi=>i) (ae m).length ⟨by omega,?_⟩
  ⟨ab,ab,ab,ao⟩ ?_
 ·rw[adt<|abZ _,adt<|by omega]
 rintro i⟨hi,hd⟩;refine r0 rfl<|bH rfl (λh3=>?_) (λh3=>?_)
 ·obtain⟨k,rfl⟩:∃k,i=k+1:=⟨i-1,by omega⟩;have ek:(((k+1:Nat):Int)-1)=(k:Int):=by omega
  have et:(((k+1:Nat):Int)-1).toNat=k:=by omega
  refine k1 rfl (by kernel_rfl) (by simp[ag,and_true];omega) ?_;refine bH rfl (λh4=>?_) (λh4=>?_)
  ·rw[et]at h4;refine r0 rfl<|aG rfl<|bC ?_;have:=mj (by omega) hl hd h4;simp[ou,this]
  refine k1 rfl (by kernel_rfl) (by simp[ag,and_true];omega) ?_;refine bH rfl (λh5=>?_) (λh5=>?_)
  ·rw[et]at h5;refine r0 rfl<|aG rfl<|bC ?_;have:=mj (by omega) hl.symm hd.symm h5;simp[ou];rw[if_neg<|by omega,if_pos this]
  rw[et]at h4 h5;refine r1 rfl (by simp[ag,and_true];omega) ?_;refine again k ?_ ⟨by omega,?_⟩ ⟨ab,ab,⟨rfl,an.of_eq<|congrArg SV.i<|by omega⟩,ao⟩
  ·exact ahb _
  have e:(ae m).getD k 0=(ae n).getD k 0:=by omega
  rw[ac4<|show k<(ae m).length by omega,ac4<|show k<(ae n).length by omega,hd]
  congr 1
  simpa[aca,acL<|show k<(ae m).length by omega,acL<|show k<(ae n).length by omega]using e
 have:i=0:=by omega
 subst this;refine r0 rfl<|aG rfl<|bC ?_;have e:ae m=ae n:=by simpa using hd
 have:m=n:=by have:=congrArg val e;rw[bc,bc]at this;omega
 simp[ou,this]
def rB(m n:Nat)(h1:(ae m).length<2^40)(hn:n<=m):aL Tryz.prog 251 [.ints .i64 false<|ae m,.ints .i64 false<|ae n] (.ints .i64 false<|ae<|m-n):=by
 have hle:(ae n).length<=(ae m).length:=by
  rcases ac1 (ae m).length (ae n).length with h|h
  ·have:=b6 h;omega
  exact h
 refine bE Tryz.func251 rfl<|r0 rfl<|oN (λ(i:Nat)(out:List Int)(c:Int)=>[(0,.ints .i64 false<|ae m),(1,.ints .i64 false<|ae n),(5,.ints .i64 true out),(6,.i c),(7,.i i)])
  (λi out c=>gU out/\out.length=i/\0<=c/\c<=1/\val out-c*1000000000^i=val ((ae m).take i)-val ((ae n).take i)/\i<=(ae m).length)
  (λi _ _=>(ae m).length-i) 0 [] 0 ⟨by simp[gU],rfl,by omega,by omega,by simp[val],by omega⟩ ⟨ab,ab,ab,ab,ab,ao⟩ ?_
 rintro i out c⟨hd,hl,c0,c1,hv,hi⟩;refine r0 rfl<|bH rfl (λh=>?_) (λh=>?_)
 ·have e1:=a7 (bk m) i;have e2:=a7 (bk n) i;refine r1 rfl (by simp[ag,and_true];omega) ?_;refine bG rfl (td _ _) rfl ?_;have ei:(i:Int).toNat=i:=by omega
  generalize hx:(ae m).getD i 0=x at*;have Ru:(ae m).getD (i:Int).toNat 0=x:=hx;generalize hy:(ae n).getD i 0=y at*;refine k1 rfl (by kernel_rfl) (by simp only[ag,and_true,Ru];omega) ?_;refine bH rfl (λh3=>?_) (λh3=>?_)
  ·rw[Ru]at h3;refine r1 rfl (by simp only[ag,and_true,Ru,acU,acY];omega) ?_;refine again (i+1,out++[x-y-c+1000000000],1) ?_ ⟨iY hd<|by omega,by simp[hl],by dsimp only;omega,by dsimp only;omega,?_,by dsimp only;omega⟩ ⟨ab,ab,⟨rfl,?_⟩,ab,ab,ao⟩
   ·dsimp only;omega
   ·dsimp only;rw[eM,hl,aH,aH,hx,hy,adf];generalize (1000000000:Int)^i=B at*
    grind
   rw[<-Ru];rfl
  rw[Ru]at h3;refine r1 rfl (by simp[ag,and_true,Ru,acU,acY];omega) ?_;refine again (i+1,out++[x-y-c],0) ?_ ⟨iY hd<|by omega,by simp[hl],by dsimp only;omega,by dsimp only;omega,?_,by dsimp only;omega⟩ ⟨ab,ab,⟨rfl,?_⟩,ab,ab,ao⟩
  ·dsimp only;omega
  ·dsimp only;rw[eM,hl,aH,aH,hx,hy,adf];generalize (1000000000:Int)^i=B at*
   grind
  rw[<-Ru];rfl
 refine r0 rfl ?_;have Nq:i=(ae m).length:=by omega
 rw[acR<|by omega,acR<|by omega,bc,bc]at hv;have cS:=ia hd;rw[hl]at cS;have hp:=cG i;have hc:c=0:=by
  rcases(show c=0\/c=1 by omega)with h|h
  ·exact h
  subst h;omega
 subst hc;refine bF rfl (dm _<|by omega) rfl<|r0 rfl<|aG rfl<|an.of_eq<|congrArg (SV.ints .i64 false) ?_;rw[dV hd]
 congr 1;omega
def tb(m d:Nat)(h1:(ae m).length<2^40)(CZ:0<d)(UY:d<1000000000):aL Tryz.prog 208 [.ints .i64 false<|ae m,.i d] (.bX [.ints .i64 false<|ae<|m/d,.i ((m%d:Nat):Int)]):=by
 refine bE Tryz.func208 rfl<|r1 rfl (by simp[ag,and_true];omega) ?_;refine oN (λ(i:Nat)(out:List Int)(c:Int)=>[(0,.ints .i64 false<|ae m),(1,.i d),(6,.ints .i64 true out),(7,.i c),(8,.i<|(i:Int)-1)])
  (λi out c=>gU out/\out.length=(ae m).length/\0<=c/\c<d/\val ((ae m).drop i)=val (out.drop i)*d+c/\i<=(ae m).length)
  (λi _ _=>i) (ae m).length (List.replicate (ae m).length 0) 0 ⟨ff _,by simp,by omega,by omega,?_,by omega⟩ ⟨ab,ab,ab,ab,ab,ao⟩ ?_
 ·rw[adt<|abZ _,adt<|by simp];simp[val]
 rintro i out c⟨hd,hl,c0,c1,hv,hi⟩;refine r0 rfl<|bH rfl (λh=>?_) (λh=>?_)
 ·obtain⟨k,rfl⟩:∃k,i=k+1:=⟨i-1,by omega⟩;have e1:=a7 (bk m) k;have et:(((k+1:Nat):Int)-1).toNat=k:=by omega
  have ex:(ae m).getD (((k+1:Nat):Int)-1).toNat 0=(ae m).getD k 0:=by rw[et]
  generalize hx:(ae m).getD k 0=x at*;have q0:0<=(c*1000000000+x)/d:=ahu (by omega) (by omega);have q1:(c*1000000000+x)/d<1000000000:=by refine Int.ediv_lt_of_lt_mul (by omega) ?_;have:(c+1)*1000000000<=d*1000000000:=afL (by omega) (by omega);omega
  have q2:=agQ (c*1000000000+x) (show(d:Int)≠0 by omega);have q3:=agR (c*1000000000+x) (show(0:Int)<d by omega);have q4:=aha (c*1000000000+x) d;refine r1 rfl (by simp only[ag,and_true,ex,hl,et];omega) ?_;refine again (k,out.set k<|(c*1000000000+x)/d,(c*1000000000+x)%d) ?_ ⟨eK hd ⟨q0,q1⟩,by simpa using hl,q2,q3,?_,by dsimp only;omega⟩
   ⟨ab,ab,⟨rfl,an.of_eq<|congrArg (SV.ints .i64 true)<|by rw[ex,et]⟩,⟨rfl,an.of_eq<|congrArg SV.i<|by rw[ex]⟩,⟨rfl,an.of_eq<|congrArg SV.i<|by omega⟩,ao⟩
  ·exact ahb _
  dsimp only;have hk:k<(ae m).length:=by omega
  have So:(ae m)[k]=x:=by simpa[aca,acL hk]using hx
  rw[ac4 hk,ac4<|show k<(out.set k<|(c*1000000000+x)/d).length by simp;omega,So];simp[List.getElem_set_self,val,List.drop_set_of_lt<|ahb k,hv];generalize (c*1000000000+x)/d=q at*;generalize (c*1000000000+x)%d=r at*;generalize val (out.drop<|k+1)=V at*
  grind
 have:i=0:=by omega
 subst this;simp[aeP,bc]at hv;refine r0 rfl<|bF rfl (dm _<|by omega) rfl<|r0 rfl ?_;have hq:val out=((m/d:Nat):Int):=by
  have h0:=aY hd;have:(m:Int)/d=val out:=by rw[hv,Int.add_comm,Int.add_mul_ediv_right _ _<|by omega,Int.ediv_eq_zero_of_lt c0 c1];omega
  rw[<-this];simp
 have hr:c=((m%d:Nat):Int):=by
  have:(m:Int)%d=c:=by rw[hv,Int.add_comm,Int.add_mul_emod_self_right,Int.emod_eq_of_lt c0 c1]
  rw[<-this];simp
 refine aG rfl ⟨an.of_eq<|congrArg (SV.ints .i64 false) ?_,an.of_eq<|congrArg SV.i hr,ao⟩;rw[dV hd,hq];rfl
def cV:Nat->Int->Int->Int->Int->Int->Int
 |0,t,_,_,_,_=>t
 |k+1,t,r,v1,v2,u2=>if 1000000000<=t\/r*1000000000+u2<t*v2 then(if 1000000000<=r+v1 then t-1 else cV k (t-1) (r+v1) v1 v2 u2)else t
def fU{a b c:Int}(h:a<=b)(hc:0<=c):a*c<=b*c:=afL h hc
def sU{v1 v2 u2 top P vl ul U V:Int}(hP:0<P)(Rv:1<=v1)(ZH:0<=v2/\v2<1000000000)(X4:0<=u2/\u2<1000000000)(Ek:0<=vl/\vl<P)(D8:0<=ul/\ul<P)
 (hV:V=v1*(1000000000*P)+v2*P+vl)(hU:U=top*(1000000000*P)+u2*P+ul)(hUV:U<1000000000*V):
 ∀(k:Nat)(t r:Int),k=t.toNat->0<=t->0<=r->t*v1+r=top->U<(t+1)*V->U<(cV k t r v1 v2 u2+1)*V/\(cV k t r v1 v2 u2-1)*V<=U/\0<=cV k t r v1 v2 u2/\cV k t r v1 v2 u2<=t:=by
 have hvP:v2*P+vl<1000000000*P:=by have:=fU (show v2+1<=1000000000 by omega)<|ads hP;rw[ada]at this;omega
 have aic:0<=v2*P:=adT ZH.1 (by omega);have IL:0<V:=by have:=fU Rv (show 0<=1000000000*P by omega);omega
 have Ut:top<1000000000*v1+1000000000:=by
  have h1:top*(1000000000*P)<(1000000000*v1+1000000000)*(1000000000*P):=by
   have h2:0<=u2*P:=adT X4.1 (by omega);have h3:(1000000000*v1+1000000000)*(1000000000*P)=1000000000*(v1*(1000000000*P))+1000000000*(1000000000*P):=by grind
   omega
  exact ahc h1 (by omega)
 have Nx:∀t r:Int,0<=t->t<1000000000->t*v1+r=top->t*v2<=r*1000000000+u2->(t-1)*V<=U:=by
  intro t r h0 h1 h2 h3;have e1:t*V=t*v1*(1000000000*P)+t*v2*P+t*vl:=by rw[hV];grind
  have e2:t*v1*(1000000000*P)=top*(1000000000*P)-r*1000000000*P:=by rw[<-h2];grind
  have e3:=fU h3<|ads hP;rw[ada]at e3;have e4:t*vl<=1000000000*P:=by have a:=aec (ads Ek.2) h0;have b:=fU (ads h1)<|ads hP;omega
  have e5:=fU Rv (show 0<=1000000000*P by omega);rw[aew,agv,e1,e2,hU];omega
 have less:∀t r:Int,0<=t->t*v1+r=top->(1000000000<=t\/r*1000000000+u2<t*v2)->U<t*V:=by
  intro t r h0 h2 h3;rcases h3 with h3|h3
  ·have:=fU h3<|ads IL;omega
  have e1:t*V=t*v1*(1000000000*P)+t*v2*P+t*vl:=by rw[hV];grind
  have e2:t*v1*(1000000000*P)=top*(1000000000*P)-r*1000000000*P:=by rw[<-h2];grind
  have e3:=fU (show r*1000000000+u2+1<=t*v2 by omega)<|ads hP;rw[ada,ada]at e3;have e4:0<=t*vl:=adT h0 Ek.1;rw[e1,e2,hU];omega
 intro k
 induction k with
 |zero=>
  intro t r hk h0 hr h2 hq;have:t=0:=by omega
  subst this;simp only[cV];refine⟨hq,?_,by omega,by omega⟩;exact Nx 0 r (by omega) (by omega) h2 (by omega)
 |succ k ih=>
  intro t r hk h0 hr h2 hq;simp[cV];by_cases hc:1000000000<=t\/r*1000000000+u2<t*v2
  ·rw[if_pos hc];have hl:=less t r h0 h2 hc;have Gf:(t-1)*v1+(r+v1)=top:=by rw[aew];omega
   by_cases sc:1000000000<=r+v1
   ·rw[if_pos sc];have e:t-1+1=t:=by omega
    rw[e];refine⟨hl,?_,by omega,by omega⟩;have hs:t-1<1000000000:=by
     have:(t-1)*v1<1000000000*v1:=by omega
     exact ahc this (by omega)
    refine Nx (t-1) (r+v1) (by omega) hs Gf ?_;have a:(t-1)*v2<=(t-1)*1000000000:=aec (by omega) (by omega);omega
   rw[if_neg sc];have e:t-1+1=t:=by omega
   obtain⟨a,b,c,d⟩:=ih (t-1) (r+v1) (by omega) (by omega) (by omega) Gf (by rw[e];exact hl);exact⟨a,b,c,by omega⟩
  rw[if_neg hc];refine⟨hq,?_,h0,by omega⟩;have h4:t<1000000000:=by omega
  exact Nx t r h0 h4 h2 (by omega)
def mG(m n:Nat)(h1:(ae m).length<2^40)(h2:(ae n).length<2^40):aL Tryz.prog 182 [.ints .i64 false<|ae m,.ints .i64 false<|ae n] (.ints .i64 false<|ae<|m*n):=by
 refine bE Tryz.func182 rfl<|r1 rfl (by simp only[ag,and_true];omega) ?_;refine kh (λ(i:Nat)(out:List Int)=>[(0,.ints .i64 false<|ae m),(1,.ints .i64 false<|ae n),(5,.ints .i64 true out),(6,.i i)])
  (λi out=>gU out/\out.length=(ae m).length+(ae n).length/\val out=val ((ae m).take i)*n/\i<=(ae m).length/\∀k,i+(ae n).length<=k->out.getD k 0=0)
  (λi _=>(ae m).length-i) 0 (List.replicate ((ae m).length+(ae n).length) 0) ⟨ff _,by simp,by simp[val,iB],by omega,λk _=>fw _ _⟩ ⟨ab,ab,⟨rfl,an.of_eq<|congrArg (SV.ints .i64 true)<|by congr 1⟩,ab,ao⟩ ?_
 rintro i out⟨hd,hl,hv,hi,hz⟩;refine r0 rfl<|bH rfl (λh=>?_) (λh=>?_)
 ·refine r0 rfl ?_;have e1:=a7 (bk m) i;generalize hx:(ae m).getD i 0=x at*;refine oN (λ(k:Nat)(o:List Int)(c:Int)=>[(0,.ints .i64 false<|ae m),(1,.ints .i64 false<|ae n),(5,.ints .i64 true o),(6,.i i),(7,.i c),(8,.i k)])
   (λk o c=>gU o/\o.length=(ae m).length+(ae n).length/\0<=c/\c<1000000000/\val o+c*1000000000^(i+k)=val out+x*val ((ae n).take k)*1000000000^i/\k<=(ae n).length/\∀k',i+k<=k'->o.getD k' 0=out.getD k' 0)
   (λk _ _=>(ae n).length-k) 0 out 0 ⟨hd,hl,by omega,by omega,by simp[val],by omega,λ_ _=>rfl⟩ ⟨ab,ab,ab,ab,ab,ab,ao⟩ ?_
  rintro k o c⟨gd,gl,c0,c1,gv,gk,gz⟩;refine r0 rfl<|bH rfl (λh3=>?_) (λh3=>?_)
  ·have e2:=a7 (bk n) k;have e3:=a7 gd<|i+k;have ei:(i:Int).toNat=i:=by omega
   have ek:(k:Int).toNat=k:=by omega
   have Z7:((i:Int)+(k:Int)).toNat=i+k:=by omega
   generalize hy:(ae n).getD k 0=y at*;generalize hw:o.getD (i+k) 0=w at*;have p0:0<=x*y:=adT (by omega) (by omega);have p1:x*y<=999999999*999999999:=ai6 (by omega) (by omega) (by omega) (by omega);refine k1 rfl (by kernel_rfl) (by simp only[ag,and_true,ei,ek,Z7,hx,hy,hw,gl];omega) ?_;refine again (k+1,o.set (i+k)<|(w+x*y+c)%1000000000,(w+x*y+c)/1000000000) ?_ ⟨eK gd<|by omega,by simpa using gl,by dsimp only;omega,by dsimp only;omega,?_,by dsimp only;omega,?_⟩
    ⟨ab,ab,⟨rfl,an.of_eq<|congrArg (SV.ints .i64 true)<|by simp only[ei,ek,Z7,hx,hy,hw]⟩,ab,⟨rfl,an.of_eq<|congrArg SV.i<|by simp only[ei,ek,Z7,hx,hy,hw]⟩,ab,ao⟩
   ·dsimp only;omega
   ·dsimp only;have cS:i+k<o.length:=by omega
    rw[kC _ cS,hw,aH,hy,show i+(k+1)=i+k+1 by omega,adf,afq];rw[afq]at gv;have q4:=aha (w+x*y+c) 1000000000;generalize (w+x*y+c)/1000000000=q at*;generalize (w+x*y+c)%1000000000=r at*;generalize (1000000000:Int)^i=A at*;generalize (1000000000:Int)^k=B at*
    grind
   dsimp only;intro k' gp;rw[b7,if_neg<|by omega];exact gz k' (by omega)
  have hk:k=(ae n).length:=by omega
  subst hk;rw[acR<|abZ _,bc]at gv;have hw:o.getD (i+(ae n).length) 0=0:=by rw[gz _<|abZ _];exact hz _<|abZ _
  have e4:((i:Int)+((ae n).length:Int)).toNat=i+(ae n).length:=by omega
  have XY:o.getD ((i:Int)+((ae n).length:Int)).toNat 0=0:=by rw[e4];exact hw
  refine r1 rfl (by simp only[ag,and_true,XY,gl,e4];omega) ?_;refine again (i+1,o.set (i+(ae n).length) c) ?_ ⟨eK gd ⟨c0,c1⟩,by simpa using gl,?_,by dsimp only;omega,?_⟩
   ⟨ab,ab,⟨rfl,an.of_eq<|congrArg (SV.ints .i64 true)<|by rw[XY,e4];congr 1;omega⟩,ab,ao⟩
  ·dsimp only;omega
  ·dsimp only;rw[kC _<|by omega,hw,aH,hx];generalize (1000000000:Int)^(i+(ae n).length)=A at*;generalize (1000000000:Int)^i=B at*
   grind
  dsimp only;intro k' gp;rw[b7,if_neg<|by omega,gz k'<|by omega];exact hz k' (by omega)
 have Nq:i=(ae m).length:=by omega
 subst Nq;rw[acR<|abZ _,bc]at hv;refine r0 rfl<|bF rfl (dm _<|by omega) rfl<|r0 rfl<|aG rfl<|an.of_eq<|congrArg (SV.ints .i64 false) ?_;rw[dV hd,hv,<-adB];rfl
def KJ(u v:List Int)(j n:Nat)(hu:gU u)(hv:gU v)(hn:v.length=n)(h2:2<=n)(hj:j+n<u.length)(D8:u.length<2^60)(Rv:500000000<=v.getD (n-1) 0):
 aL Tryz.prog 210 [.ints .i64 false u,.ints .i64 false v,.i j] (.i<|cV ((u.getD (j+n) 0*1000000000+u.getD (j+n-1) 0)/v.getD (n-1) 0).toNat ((u.getD (j+n) 0*1000000000+u.getD (j+n-1) 0)/v.getD (n-1) 0) ((u.getD (j+n) 0*1000000000+u.getD (j+n-1) 0)%v.getD (n-1) 0) (v.getD (n-1) 0) (v.getD (n-2) 0)<|u.getD (j+n-2) 0):=by
 have a1:=a7 hu<|j+n;have a2:=a7 hu<|j+n-1;have a3:=a7 hu<|j+n-2;have a4:=a7 hv<|n-1;have a5:=a7 hv<|n-2;have t1:((j:Int)+(n:Int)).toNat=j+n:=by omega
 have t2:((j:Int)+(n:Int)-1).toNat=j+n-1:=by omega
 have t3:((j:Int)+(n:Int)-2).toNat=j+n-2:=by omega
 have t4:((n:Int)-1).toNat=n-1:=by omega
 have t5:((n:Int)-2).toNat=n-2:=by omega
 subst hn;generalize b1':u.getD (j+v.length) 0=x1 at*;generalize b2':u.getD (j+v.length-1) 0=x2 at*;generalize b3':u.getD (j+v.length-2) 0=x3 at*;generalize b4':v.getD (v.length-1) 0=y1 at*;generalize b5':v.getD (v.length-2) 0=y2 at*;refine bE Tryz.func210 rfl ?_;have c0:0<=(x1*1000000000+x2)/y1:=ahu (by omega) (by omega);have c1:(x1*1000000000+x2)/y1<=2000000000:=by have:=Int.ediv_lt_of_lt_mul (show 0<y1 by omega) (a:=x1*1000000000+x2) (b:=2000000001) (by omega);omega
 have c2:=agQ (x1*1000000000+x2) (show y1≠0 by omega);have c3:=agR (x1*1000000000+x2) (show 0<y1 by omega);refine k1 rfl (by kernel_rfl) (by simp only[ag,and_true,t1,t2,t4,b1',b2',b4'];omega) ?_;refine kh (λ(t r:Int)=>[(0,.ints .i64 false u),(1,.ints .i64 false v),(2,.i j),(7,.i v.length),(9,.i t),(10,.i r)])
  (λt r=>0<=t/\t<=2000000000/\0<=r/\r<1000000000/\cV t.toNat t r y1 y2 x3=cV ((x1*1000000000+x2)/y1).toNat ((x1*1000000000+x2)/y1) ((x1*1000000000+x2)%y1) y1 y2 x3) (λt _=>t.toNat) _ _ ⟨c0,c1,c2,by omega,rfl⟩
  ⟨ab,ab,ab,ab,⟨rfl,an.of_eq<|congrArg SV.i<|by simp only[t1,t2,t4,b1',b2',b4']⟩,⟨rfl,an.of_eq<|congrArg SV.i<|by simp only[t1,t2,t4,b1',b2',b4']⟩,ao⟩ ?_
 rintro t r⟨d0,d1,d2,d3,d4⟩;refine IC (acx [(0,.ints .i64 false u),(1,.ints .i64 false v),(2,.i j),(7,.i v.length),(9,.i t),(10,.i r)] (1000000000<=t\/r*1000000000+x3<t*y2) ?_ λhc=>?_)
 ·refine r0 rfl<|aC 44 rfl (λh=>?_) (λh=>?_)
  ·refine k0 rfl (by kernel_rfl)<|aP (.inl h) ⟨ab,ab,ab,ab,ab,ab,ao⟩
  have p1:t*y2<=999999999*999999999:=ai6 (by omega) (by omega) (by omega) (by omega);have p0:0<=t*y2:=adT (by omega) (by omega);refine k1 rfl (by kernel_rfl) (by simp only[ag,and_true,t3,t5,b3',b5'];omega) ?_;refine bH rfl (λh3=>?_) (λh3=>?_)
  ·simp only[t3,t5,b3',b5']at h3;refine r0 rfl<|aP (.inr h3) ⟨ab,ab,ab,ab,ab,ab,ao⟩
  simp only[t3,t5,b3',b5']at h3;refine r0 rfl<|aG rfl<|bC ?_;rw[<-d4];cases hk:t.toNat with
  |zero=>rfl
  |succ k=>simp only[cV];rw[if_neg<|by omega]
 have ht:0<t:=by
  rcases hc with hc|hc
  ·omega
  rcases afs 0 t with h|h
  ·exact h
  have:t=0:=by omega
  subst this;omega
 obtain⟨k,hk⟩:∃k,t.toNat=k+1:=⟨t.toNat-1,by omega⟩;rw[hk]at d4;simp only[cV]at d4;rw[if_pos hc]at d4;refine r1 rfl (by simp only[ag,and_true,t4,b4'];omega) ?_;refine bH rfl (λh3=>?_) (λh3=>?_)
 ·simp only[t4,b4']at h3;rw[if_pos h3]at d4;refine r0 rfl<|aG rfl<|an.of_eq<|congrArg SV.i d4
 simp only[t4,b4']at h3;rw[if_neg h3]at d4;refine r0 rfl<|again (t-1,r+y1) ?_ ⟨by dsimp only;omega,by dsimp only;omega,by dsimp only;omega,by dsimp only;omega,?_⟩ ⟨ab,ab,ab,ab,ab,⟨rfl,an.of_eq<|congrArg SV.i<|by simp only[t4,b4']⟩,ao⟩
 ·dsimp only;omega
 dsimp only;rw[<-d4,show(t-1).toNat=k by omega]
section
variable{y:Int}{w:List Int}{j k n:Nat}
def RU(h:j<=k):(w.set k y).drop j=(w.drop j).set (k-j) y:=by rw[List.drop_set,if_neg<|by omega]
def eJ(h:j<=k):(w.set k y).take j=w.take j:=by rw[List.take_set_of_le h]
def Gh(w:List Int)(j k:Nat):(w.drop j).getD k 0=w.getD (j+k) 0:=by simp
def mR(h:j<=k)(hk:k<w.length):val ((w.set k y).drop j)=val (w.drop j)+(y-w.getD k 0)*1000000000^(k-j):=by rw[RU h,kC _<|by simp;omega,Gh,show j+(k-j)=k by omega]
def qq(h:j+n<w.length):val (w.drop j)=val ((w.drop j).take n)+w.getD (j+n) 0*1000000000^n+1000000000^(n+1)*val (w.drop<|j+n+1):=by
 have e:=gI (w.drop j)<|n+1;rw[aH,Gh]at e;have l:((w.drop j).take<|n+1).length=n+1:=by simp;omega
 rw[l,agf]at e;exact e
def qu(h:j+n<=w.length)(hd:∀k,j<=k->k<j+n->0<=w.getD k 0/\w.getD k 0<1000000000):0<=val ((w.drop j).take n)/\val ((w.drop j).take n)<1000000000^n:=by
 have hD:gU ((w.drop j).take n):=by
  intro d Gd;obtain⟨k,hk,rfl⟩:=ag3 Gd;have gp:k<n/\j+k<w.length:=by simp at hk;omega
  have:=hd (j+k) (by omega) (by omega);simpa[acL gp.2]using this
 have l:((w.drop j).take n).length=n:=by simp;omega
 refine⟨aY hD,?_⟩;have:=ia hD;rwa[l]at this
def gg(h:j<w.length):val (w.drop j)=w.getD j 0+1000000000*val (w.drop<|j+1):=by rw[ac4 h];simp[val,acL h]
def Li(h:∀k,k<w.length->0<=w.getD k 0/\w.getD k 0<1000000000):gU w:=by intro d hd;obtain⟨k,hk,rfl⟩:=ag3 hd;simpa[acL hk]using h k hk
def zN{u:List Int}(hl:w.length=u.length){p:Nat}(h:∀k,p<=k->w.getD k 0=u.getD k 0):w.drop p=u.drop p:=by
 apply aih
 ·simp[hl]
 intro i h1 h2;have Ew:p+i<w.length:=by simp at h1;omega
 have Gf:p+i<u.length:=by omega
 have:=h (p+i) (by omega);simpa[acL Ew,acL Gf]using this
def mu{f:Nat}(h0:0<f)(h1:f<1000000000):ae f=[(f:Int)]:=by
 refine(tS (λd hd=>?_) ?_ ?_).symm
 ·simp at hd;omega
 ·simp;omega
 simp[val]
def TJ{b F:Int}(hb:1<=b/\b<1000000000)(hF:F=1000000000/(b+1)):1<=F/\F<=500000000/\(b+1)*F<=1000000000/\500000000<=b*F:=by
 have e:=aha 1000000000 (b+1);have e1:=agQ 1000000000 (show b+1≠0 by omega);have e2:=agR 1000000000 (show 0<b+1 by omega);rw[<-hF]at e;have hF1:1<=F:=by
  rcases afs F 1 with h|h
  ·have:(b+1)*F<=0:=by
    have:=aec (show F<=0 by omega) (show 0<=b+1 by omega);omega
   omega
  exact h
 have p:(b+1)*F=b*F+F:=by rw[ada];omega
 have p1:b<=b*F:=by have:=aec hF1 (show 0<=b by omega);omega
 have p2:F<=b*F:=by have:=fU hb.1 (show 0<=F by omega);omega
 have p3:2<=b->2*F<=b*F:=λh=>fU h (by omega);have p4:2<=F->2*b<=b*F:=λh=>by have:=aec h (show 0<=b by omega);omega
 by_cases h1:500000000<=b
 ·omega
 have ZY:2<=F:=by
  rcases afs F 2 with h|h
  ·have:F=1:=by omega
   subst this;omega
  exact h
 by_cases h2:250000000<=b
 ·omega
 by_cases h3:2<=b
 ·have:=p3 h3;omega
 have:b=1:=by omega
 subst this;omega
def Q9{Fn:Nat}(hn:2<=(ae n).length)(hF:(Fn:Int)=1000000000/((ae n).getD ((ae n).length-1) 0+1)):
 1<=Fn/\Fn<=500000000/\(ae<|n*Fn).length=(ae n).length/\500000000<=(ae<|n*Fn).getD ((ae n).length-1) 0:=by
 have aaJ:=pW n;have hb:=a7 (bk n)<|(ae n).length-1;have dc:(ae n).getD ((ae n).length-1) 0≠0:=by
  intro h;apply aaJ;rw[ajC];have cS:(ae n).length-1<(ae n).length:=by omega
  simpa[aca,acL cS]using h
 have ev:=qq (w:=ae n) (j:=0) (n:=(ae n).length-1) (by omega);have aga:=qu (w:=ae n) (j:=0) (n:=(ae n).length-1) (by omega) λk _ _=>a7 (bk n) k;simp[aeP,afP]at ev aga;rw[bc,adt<|show(ae n).length<=(ae n).length-1+1 by omega]at ev;generalize hbt:(ae n).getD ((ae n).length-1) 0=b at*;obtain⟨f1,f2,f3,f4⟩:=TJ ⟨by omega,hb.2⟩ hF;generalize val ((ae n).take<|(ae n).length-1)=lo at*;simp[val]at ev;generalize hP:(1000000000:Int)^((ae n).length-1)=P at*;have hN:((n*Fn:Nat):Int)=lo*Fn+(b*Fn)*P:=by rw[adB,ev];grind
 have lV:lo*Fn<=P*Fn:=fU (by omega) (by omega);have cS:((n*Fn:Nat):Int)<1000000000*P:=by
  have h1:(lo+1)*Fn<=P*Fn:=fU (by omega) (by omega);have h2:(b+1)*Fn*P<=1000000000*P:=fU f3 (by omega);have h3:(b+1)*Fn*P=P*Fn+b*Fn*P:=by grind
  rw[ada]at h1;omega
 have Kx:(b*Fn)*P<=((n*Fn:Nat):Int):=by have:0<=lo*(Fn:Int):=adT aga.1 (by omega);omega
 have hlen:(ae<|n*Fn).length=(ae n).length:=by
  have g1:=bQ<|n*Fn;have g2:=fZ<|n*Fn;have hP1:P<=((n*Fn:Nat):Int):=by have:=fU (show 1<=b*(Fn:Int) by omega) (show 0<=P by omega);omega
  rcases ac1 (ae<|n*Fn).length (ae n).length with h|h
  ·have:=ij (show(ae<|n*Fn).length<=(ae n).length-1 by omega);rw[hP]at this;omega
  rcases g2 with g2|g2
  ·rw[g2]at h;simp only[acY]at h;omega
  rcases ac1 (ae n).length (ae<|n*Fn).length with h'|h'
  ·have:=ij (show(ae n).length<=(ae<|n*Fn).length-1 by omega);have e2:(1000000000:Int)^(ae n).length=1000000000*P:=by
    rw[<-hP,show(ae n).length=(ae n).length-1+1 by omega,adf];simp;omega
   omega
  omega
 refine⟨by omega,by omega,hlen,?_⟩;have ev2:=qq (w:=ae<|n*Fn) (j:=0) (n:=(ae n).length-1) (by omega);have Z6:=qu (w:=ae<|n*Fn) (j:=0) (n:=(ae n).length-1) (by omega) λk _ _=>a7 (bk _) k;simp only[aeP,afP]at ev2 Z6;rw[bc,adt<|show(ae<|n*Fn).length<=(ae n).length-1+1 by omega,hP]at ev2;rw[hP]at Z6;simp only[val]at ev2;generalize (ae<|n*Fn).getD ((ae n).length-1) 0=y at*;have:b*(Fn:Int)<y+1:=by
  have h5:(b*(Fn:Int))*P<(y+1)*P:=by rw[ada];omega
  exact ahc h5 (by omega)
 omega
end
end Go.Ai
