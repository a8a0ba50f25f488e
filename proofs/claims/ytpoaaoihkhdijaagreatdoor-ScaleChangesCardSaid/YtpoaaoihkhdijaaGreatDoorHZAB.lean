/- Parts of the proof of ScaleChanges (as AIM.md's row tells), at every input, with no further conditions. -/
import Derived.Test.YtpoaaoihkhdijaaGreatDoorHZAA
set_option linter.all false
set_option maxRecDepth 100000
set_option maxHeartbeats 0
namespace Go.Ai
open Go.RowKit
def jj:Value->AV
 |.slice none 0 0=>.list .nil 0 []
 |v=>if scalar v then .v v else .dead
def gL:Value->AV
 |.agg cs=>.agg (cs.toList.map jj)
 |v=>jj v
def ns:Value->Bool
 |.agg cs=>cs.toList.all (·.oneCell')
 |_=>true
structure TI where
 agg:Bool
 size:Nat
 bytes:Nat
 zero:AV
def cu(P:Program)(t:TypeId):Option TI:=
 match P.info? t,P.underlying t with
 |some i,some u=>match i.zero with
  |some z=>if z.cells.size=i.size/\ns z=true then some ⟨match u with|.struct _|.array .. =>true|_=>false,i.size,i.bytes,gL z⟩else none
  |none=>none
 |_,_=>none
def dC(P:Program)(t:TypeId):Option TypeId:=
 match P.underlying t with
 |some (.slice e)=>some e
 |_=>none
def tq(P:Program)(t:TypeId)(f:Nat):Option (Nat×TypeId):=
 match P.underlying t with
 |some (.struct a)=>match a[f]?with
  |some f=>some (f.offset,f.type)
  |none=>none
 |_=>none
def ix(i:TI)(o:Nat):Step:=.at o<|if i.agg then some i.size else none
structure bY where
 s:Option Nat
 sl:Sl
 rt:Sl
def Sl.none:Sl:=⟨.dead,0,0⟩
def bY.of(σ:St)(t:Nat):bY:=
 match(σ t).av with
 |.bC r _ _ _=>⟨some t,σ t,σ r⟩
 |.ptr r _ _ _=>⟨some t,σ t,σ r⟩
 |.abs _=>⟨none,.none,.none⟩
 |_=>⟨some t,σ t,.none⟩
def resolve(σ:St):Operand->bY
 |.tmp t=>.of σ t
 |.const v=>⟨none,⟨gL v,0,0⟩,.none⟩
 |.func f=>⟨none,⟨.fn (.func f) [] [],0,0⟩,.none⟩
 |.global _=>⟨none,.none,.none⟩
def xM:Path->AV->Bool
 |[],_=>true
 |[.bW _],_=>true
 |_,y=>y.cell
def bY.cont(x:bY):Option AV:=
 match x.sl.av with
 |.bC _ g1 g2 p=>
  if x.rt.g1=g1 then if NP p=true\/x.rt.g2=g2 then match bp x.rt.av p with
   |some y=>if xM p y&&y.plain then some y else none
   |none=>none
  else none else none
 |.ptr .. =>none
 |.hole=>none
 |.dead=>none
 |.fS .. =>none
 |y=>some y
def bY.place(x:bY):Option (Nat×Nat×Nat×Path):=
 match x.sl.av with
 |.bC r g1 g2 p=>some (r,g1,g2,p)
 |.ptr .. =>none
 |_=>match x.s with
  |some s=>some (s,x.sl.g1,x.sl.g2,[])
  |none=>none
def DX:Path->Option (Path×Nat×Nat×Nat)
 |[]=>none
 |s::p=>match p with
  |[]=>match s with
   |.lZ sz o n=>some ([],sz,o,n)
   |_=>none
  |_::_=>match DX p with
   |some (q,u)=>some (s::q,u)
   |none=>none
def bY.lZ(x:bY):Option (Nat×Nat×Nat×Path×Nat×Nat×Nat):=
 match x.sl.av with
 |.bC r g1 g2 p=>match DX p with
  |some (q,sz,o,n)=>if x.rt.g1=g1 then if kh p=true\/x.rt.g2=g2 then match bp x.rt.av q with
   |some (.list _ a b)=>if sz=a/\0<n/\o+n<=b.length then some (r,g1,x.rt.g2,q,sz,o,n)else none
   |_=>none
   else none else none
  |none=>none
 |_=>none
def bY.addr(x:bY):Option (Nat×Nat×Nat×Path×AV):=
 match x.sl.av with
 |.ptr r g1 g2 p=>if x.rt.g1=g1 then if flat p\/x.rt.g2=g2 then some (r,x.rt.g1,x.rt.g2,p,x.rt.av)else none else none
 |.box _ _=>match x.s with
  |some s=>some (s,x.sl.g1,x.sl.g2,[.deref],x.sl.av)
  |none=>none
 |.bC r _ _ p=>match x.cont with
  |some (.box _ _)=>some (r,x.rt.g1,x.rt.g2,p++[.deref],x.rt.av)
  |_=>none
 |_=>none
def dc(d:Nat)(x:bY):Option (List Mv):=
 match x.sl.av with
 |.bC r g1 g2 p=>if r=d then none else some [.put d<|.bC r g1 g2 p]
 |.ptr r g1 g2 p=>if r=d then none else some [.put d<|.ptr r g1 g2 p]
 |.fS g a=>if a.all (λq=>q.1 !=d)=true then some [.put d<|.fS g a]else none
 |y=>if y.aG then some [.put d y]else match x.s with
  |some s=>if s=d then none else some [.put d<|.bC s x.sl.g1 x.sl.g2 []]
  |none=>none
def dG(d:Nat)(x:bY):Option (List Mv):=
 match x.sl.av with
 |.ptr r g1 g2 p=>if r=d then none else some [.put d<|.ptr r g1 g2 p]
 |.fS g a=>if a.all (λq=>q.1 !=d)=true then some [.put d<|.fS g a]else none
 |.bC r _ _ p=>match x.cont with
  |some y=>if y.aG then some [.put d y]else match p with
   |[]=>some [.take r d []]
   |[.bW i]=>some [.take r d [.bW i]]
   |_=>if r=d then none else some [.share r p,.put d y.b9]
  |none=>none
 |.box b z=>if(AV.box b z).aG then some [.put d<|.box b z]else match x.s with
  |some s=>if s=d then none else some [.put d<|.bC s x.sl.g1 x.sl.g2 []]
  |none=>none
 |y=>if y.aG then some [.put d y]else match x.s with
  |some s=>if s=d then none else some [.make [s] d y]
  |none=>none
def x6(x:bY):Option (AV×List Nat):=
 match x.sl.av with
 |.bC r _ _ p=>match x.cont with
  |some y=>if y.aG then some (y,[])else if p=[]then some (y,[r])else none
  |none=>none
 |.ptr .. =>none
 |.dead=>none
 |.fS .. =>none
 |y=>if y.aG then some (y,[])else match x.s with
  |some s=>some (y,[s])
  |none=>none
def gr:List bY->Option (List AV×List Nat)
 |[]=>some ([],[])
 |x::xs=>match x6 x,gr xs with
  |some (y,M),some (ys,N)=>if M.all (λm=> !N.contains m)then some (y::ys,M++N)else none
  |_,_=>none
def Bg(cs:List AV)(o n:Nat)(y:AV):Option (List AV):=
 if o+n<=cs.length then match y with
  |.agg a=>if a.length=n then some (cs.take o++a++cs.drop (o+n))else none
  |y=>if n=1&&y.cell then some (cs.set o y)else none
 else none
def placesOf(P:Program)(t:TypeId):Option (List<|Nat×Nat):=
 match P.underlying t with
 |some (.struct a)=>a.toList.mapM λf=>(P.info? f.type).map λi=>(f.offset,i.size)
 |_=>none
def sB(a:List (Nat×Nat)):List AV->List (Nat×AV)->Option (List AV)
 |cs,[]=>some cs
 |cs,(i,y)::r=>match a[i]?with
  |some (o,n)=>match Bg cs o n y with
   |some cs=>sB a cs r
   |none=>none
  |none=>none
def fits(ti:TI):AV->Bool
 |.agg xs=>ti.agg&&xs.length=ti.size
 |y=> !ti.agg&&ti.size=1&&y.cell
def xD(P:Program)(op:BinOp)(t:TypeId)(x y:Value):Option Value:=
 match x,y with
 |.int k a,.int c b=>
  match op with
  |.shl=>if b<0 then none else some (.int k<|k.wrap<|a*2^min b.toNat k.bits)
  |.shr=>if b<0 then none else some (.int k<|a.fdiv<|2^min b.toNat k.bits)
  |_=>if k=c then match op with
   |.add=>some (.int k<|k.wrap<|a+b)
   |.sub=>some (.int k<|k.wrap<|a-b)
   |.mul=>some (.int k<|k.wrap<|a*b)
   |.quo=>if b=0 then none else some (.int k<|k.wrap<|a.tdiv b)
   |.rem=>if b=0 then none else some (.int k<|a.tmod b)
   |.and=>some (.int k<|k.wrap (BitVec.ofInt k.bits a&&&BitVec.ofInt k.bits b).toNat)
   |.or=>some (.int k<|k.wrap (BitVec.ofInt k.bits a|||BitVec.ofInt k.bits b).toNat)
   |.xor=>some (.int k<|k.wrap (BitVec.ofInt k.bits a^^^BitVec.ofInt k.bits b).toNat)
   |.andNot=>some (.int k<|k.wrap (BitVec.ofInt k.bits a&&& ~~~ BitVec.ofInt k.bits b).toNat)
   |.eql=>some (.bool<|a==b)
   |.neq=>some (.bool<|a !=b)
   |.lss=>some (.bool<|decide (a<b))
   |.leq=>some (.bool<|decide (a<=b))
   |.gtr=>some (.bool<|decide (a>b))
   |.geq=>some (.bool<|decide (a>=b))
   |_=>none
   else none
 |.string a,.string b=>
  match op with
  |.add=>if((a.size+b.size:Nat):Int)>IntKind.i64.max then none else some (.string<|a++b)
  |.eql=>some (.bool<|a.toList==b.toList)
  |.neq=>some (.bool !(a.toList==b.toList))
  |.lss=>some (.bool<|Op.bytesLess a.toList b.toList)
  |_=>none
 |.bool a,.bool b=>match P.underlying t with
  |some .bool=>match op with
   |.eql=>some (.bool<|a==b)
   |.neq=>some (.bool<|!(a==b))
   |_=>none
  |_=>none
 |_,_=>none
def Wb(op:UnOp)(x:Value):Option Value:=
 match op,x with
 |.neg,.int k n=>some (.int k<|k.wrap<|0-n)
 |.xor,.int k n=>some (.int k<|k.wrap (BitVec.ofInt k.bits (if k.signed then -1 else k.max)^^^BitVec.ofInt k.bits n).toNat)
 |.not,.bool b=>some (.bool !b)
 |_,_=>none
def isNil(P:Program)(t:TypeId)(x y:AV):Option Bool:=
 match y with
 |.list .nil _ _=>match x with
  |.list f _ a=>match P.underlying t with
   |some (.slice _)=>match f with
    |.nil=>some true
    |_=>if a.isEmpty then none else some false
   |_=>none
  |_=>none
 |.v (.pointer none)=>match P.underlying t with
  |some (.pointer _)=>match x with
   |.box _ _=>some false
   |.v (.pointer none)=>some true
   |_=>none
  |_=>none
 |.v .nilFunc=>match P.underlying t with
  |some (.func _ _ _)=>match x with
   |.fn _ _ _=>some false
   |.v .nilFunc=>some true
   |_=>none
  |_=>none
 |_=>none
def KU(op:BinOp)(b:Option Bool):Option AV:=
 match op,b with
 |.eql,some b=>some (.v<|.bool b)
 |.neq,some b=>some (.v<|.bool !b)
 |_,_=>none
def mB(P:Program)(op:BinOp)(t:TypeId)(x y:AV):Option AV:=
 match x with
 |.v a=>match y with
  |.v b=>match xD P op t a b with
   |some v=>some (.v v)
   |none=>KU op (isNil P t (.v a)<|.v b)
  |_=>none
 |_=>KU op<|isNil P t x y
def sn(P:Program)(d:Nat)(t:TypeId)(x:bY):Option (List Mv):=
 match cu P t with
 |some ti=>match x.addr with
  |some (r,g1,g2,p,av)=>match bp av p with
   |some y=>if fits ti y then
     if y.aG then some [.put d y]
     else if r=d then none
     else if y.cell then some [.put d<|.bC r g1 g2 p]else some [.share r p,.put d y.b9]
    else none
   |none=>none
  |none=>none
 |none=>none
def uC(P:Program)(t:TypeId)(a x:bY):Option (List Mv):=
 match cu P t with
 |some ti=>match a.addr with
  |some (r,_,_,p,av)=>match bp av p with
   |some b=>if fits ti b&&ti.size !=0 then match x6 x with
     |some (y,M)=>if fits ti y then some [.store r p M y]else none
     |none=>none
    else none
   |none=>none
  |none=>none
 |none=>none
def jZ(P:Program)(d:Nat)(t:TypeId)(x:bY)(f:Nat):Option (List Mv):=
 match tq P t f with
 |some (o,a)=>match cu P a with
  |some ti=>match x.addr with
   |some (r,g1,g2,p,av)=>if r=d then none else if ti.size=0 then none else
    if flat (p++[ix ti o])then some [.put d<|.ptr r g1 g2<|p++[ix ti o]]else match bp av (p++[ix ti o])with
     |some _=>some [.put d<|.ptr r g1 g2<|p++[ix ti o]]
     |none=>none
   |none=>none
  |none=>none
 |none=>none
def aab(P:Program)(d:Nat)(t:TypeId)(x i:bY):Option (List Mv):=
 match i.cont with
 |some (.v<|.int _ n)=>match P.underlying t with
  |some (.slice e)=>match cu P e with
   |some ti=>match x.lZ with
    |some (r,g1,g2,q,sz,o,m)=>if sz=ti.size/\0<=n/\n<m then if r=d then none else some [.put d<|.ptr r g1 g2<|q++[.idx (o+n.toNat) sz]]else none
    |none=>match x.cont with
     |some (.list _ sz a)=>if sz=ti.size/\0<=n/\n<a.length then match x.place with
       |some (r,g1,g2,p)=>if r=d then none else some [.put d<|.ptr r g1 g2<|p++[.idx n.toNat sz]]
       |none=>none
      else none
     |_=>none
   |none=>none
  |some (.array len e)=>match cu P e with
   |some ti=>match x.addr with
    |some (r,g1,g2,p,av)=>if 0<=n/\n<len/\r≠d then
      match bp av (p++[ix ti<|n.toNat*ti.size])with
      |some _=>some [.put d<|.ptr r g1 g2<|p++[ix ti<|n.toNat*ti.size]]
      |none=>none
     else none
    |none=>none
   |none=>none
  |_=>none
 |_=>none
def nZ(d:Nat)(x:bY)(i:Nat):Option (List Mv):=
 match x.cont with
 |some (.bW a)=>match a[i]?with
  |some y=>if y.aG then some [.put d y]else match x.place with
   |some (r,g1,g2,p)=>if r=d\/p≠[]then none else some [.put d<|.bC r g1 g2 [.bW i]]
   |none=>none
  |none=>none
 |_=>none
def ye(P:Program)(d:Nat)(t:TypeId)(x:bY)(f:Nat):Option (List Mv):=
 match tq P t f with
 |some (o,a)=>match cu P a with
  |some ti=>match x.cont with
   |some av=>match bp av [ix ti o]with
    |some y=>if y.aG then some [.put d y]else none
    |none=>none
   |none=>none
  |none=>none
 |none=>none
def uV(P:Program)(d:Nat)(t:TypeId)(x i:bY):Option (List Mv):=
 match i.cont with
 |some (.v<|.int _ n)=>match P.underlying t with
  |some .string=>match x.cont with
   |some (.v<|.string s)=>if 0<=n then match s[n.toNat]?with
     |some b=>some [.put d<|.v<|.int .u8 b.toNat]
     |none=>none
    else none
   |_=>none
  |some (.array len e)=>match cu P e with
   |some ti=>match x.cont with
    |some av=>if 0<=n/\n<len then match bp av [ix ti<|n.toNat*ti.size]with
      |some y=>if y.aG then some [.put d y]else none
      |none=>none
     else none
    |none=>none
   |none=>none
  |_=>none
 |_=>none
def CR(P:Program)(d:Nat)(a b:TypeId)(x:bY):Option (List Mv):=
 match P.underlying a,P.underlying b,x.cont with
 |some _,some<|.int k,some (.v<|.int _ n)=>some [.put d<|.v<|.int k<|k.wrap n]
 |some .string,some .string,some (.v<|.string s)=>some [.put d<|.v<|.string s]
 |_,_,_=>none
def mZ:Option bY->Nat->Option Nat
 |none,a=>some a
 |some x,_=>match x.cont with
  |some (.v<|.int _ n)=>if 0<=n then some n.toNat else none
  |_=>none
def qh(P:Program)(d:Nat)(t:TypeId)(x:bY)(lo hi b:Option bY):Option (List Mv):=
 match P.underlying t with
 |some .string=>match x.cont with
  |some (.v<|.string s)=>match b with
   |none=>match mZ lo 0,mZ hi s.size with
    |some l,some h=>if l<=h/\h<=s.size then some [.put d<|.v<|.string<|s.extract l h]else none
    |_,_=>none
   |some _=>none
  |_=>none
 |some (.slice e)=>match cu P e with
  |some ti=>match x.cont with
   |some (.list f sz a)=>match mZ lo 0,mZ hi a.length with
    |some l,some h=>match mZ b h with
     |some m=>if l<=h/\h<=m/\m<=a.length then match f with
       |.nil=>some [.put d<|.list .nil sz []]
       |.shr=>if sz=ti.size then some [.put d<|.list .shr sz<|(a.drop l).take<|h-l]else none
       |.own=>if sz=ti.size then match x.place with
         |some (r,_,_,p)=>if r=d then none else some [.share r p,.put d<|.list .shr sz<|((ig a).drop l).take<|h-l]
         |none=>none
        else none
      else none
     |none=>none
    |_,_=>none
   |_=>none
  |none=>none
 |_=>none
def lj(P:Program)(d:Nat)(t:TypeId)(x y:bY):Option (List Mv):=
 match dC P t with
 |some e=>match cu P e with
  |some ti=>
   if ti.size=0 then none else
   match y.cont with
   |some (.list h f a)=>
    let b:Option (List Nat):=if bU a then some []else match h,y.sl.av with
     |.own,.list _ _ _=>match y.s with
      |some s=>some [s]
      |none=>none
     |_,_=>none
    match b with
    |none=>none
    |some b=>
     if(a.isEmpty||(f==ti.size&&a.all (fits ti)))&& !b.contains d then
     match x.cont with
     |some (.list .nil _ _)=>if(a.length*ti.bytes)<=140737488355328/\a.length<=maxLen then
       some [.make b d<|if a.isEmpty then .list .nil 0 []else .list .own ti.size a]else none
     |some (.list .own g c)=>if g=ti.size/\(c.length+a.length)*ti.bytes<=140737488355328/\c.length+a.length<=maxLen then
       match x.sl.av with
       |.bC r _ _ p=>if r∈b then none else some [.take r d p,.make (d::b) d<|.list .own ti.size<|c++a]
       |_=>match x.s with
        |some s=>if s∈b then none else some [.make (s::b) d<|.list .own ti.size<|c++a]
        |none=>none
      else none
     |_=>none
     else none
   |_=>none
  |none=>none
 |none=>none
def Uc(x:bY):Option AV:=
 match x.cont with
 |some y=>some y.b9
 |none=>none
def gP:List bY->Option (List AV)
 |[]=>some []
 |x::xs=>match Uc x,gP xs with
  |some y,some ys=>some (y::ys)
  |_,_=>none
def shares:List bY->List Mv
 |[]=>[]
 |x::xs=>match x.cont with
  |some y=>if y.aG then shares xs else match x.place with
   |some (r,_,_,p)=>.share r p::shares xs
   |none=>.take 0 0 []::shares xs
  |none=>.take 0 0 []::shares xs
abbrev VZ:=FuncId×List AV×AV
def gF(d:Option Nat)(a:AV)(b:List Mv):List Mv:=
 match d with
 |some d=>b++[.make [] d a]
 |none=>b
def C4(d:Option Nat)(f:bY)(asx:List bY)(b:AV):Option (List Mv×List VZ):=
 match f.cont with
 |some (.fn (.func g) first a)=>if bU first&&bU a then match gP asx with
   |some c=>if !b.cL then match shares asx with
     |[]=>some (gF d b [],[(g,first++c++a,b)])
     |[m]=>some (gF d b [m],[(g,first++c++a,b)])
     |_=>none
    else some (gF d b [],[(g,first++c++a,b)])
   |none=>none
  else none
 |_=>none
def kz(P:Program)(d:Nat)(b:Builtin)(f:List TypeId)(asx:List bY):Option (List Mv):=
 match b,f,asx with
 |.len,t::_,[x]=>match x.cont with
  |some (.v<|.string s)=>match P.underlying t with
   |some .string=>some [.put d<|.v<|.int .i64 s.size]
   |_=>none
  |some (.list _ _ e)=>match P.underlying t with
   |some (.slice _)=>some [.put d<|.v<|.int .i64 e.length]
   |_=>none
  |_=>none
 |.append,[t,g],[x,y]=>match dC P g with
  |some _=>lj P d t x y
  |none=>none
 |.min,_,[x,y]=>match x.cont,y.cont with
  |some (.v<|.int k a),some (.v<|.int c b)=>if k=c then some [.put d<|.v<|.int k<|min a b]else none
  |_,_=>none
 |.max,_,[x,y]=>match x.cont,y.cont with
  |some (.v<|.int k a),some (.v<|.int c b)=>if k=c then some [.put d<|.v<|.int k<|max a b]else none
  |_,_=>none
 |_,_,_=>none
def gj:Option (List Mv)->Option (List Mv×List VZ)
 |some a=>some (a,[])
 |none=>none
def Al(P:Program)(σ:St)(o:Oper)(j:AV):Option (List Mv×List VZ):=
 match o.dst with
 |none=>match o.op with
  |.store t a x=>gj (uC P t (resolve σ a)<|resolve σ x)
  |.call c=>match c.callee with
   |.value f=>C4 none (resolve σ f) (c.args.toList.map<|resolve σ) j
   |_=>none
  |_=>none
 |some d=>match o.op with
  |.move x=>gj (dc d<|resolve σ x)
  |.nilCheck x=>match(resolve σ x).cont with
   |some (.box _ _)=>gj (dc d<|resolve σ x)
   |some (.fn (.func _) _ _)=>gj (dc d<|resolve σ x)
   |_=>match(resolve σ x).sl.av with
    |.ptr .. =>match(resolve σ x).addr with
     |some _=>gj (dc d<|resolve σ x)
     |none=>none
    |_=>none
  |.assign x=>gj (dG d<|resolve σ x)
  |.pick c x y=>match(resolve σ c).cont with
   |some (.v<|.bool b)=>match b with
    |true=>gj (dc d<|resolve σ x)
    |false=>gj (dc d<|resolve σ y)
   |_=>none
  |.alloc t=>match cu P t with
   |some ti=>some ([.make [] d<|.box true ti.zero],[])
   |none=>none
  |.box t x=>match cu P t with
   |some ti=>match x6 (resolve σ x)with
    |some (y,M)=>if fits ti y then some ([.make M d<|.box true y],[])else none
    |none=>none
   |none=>none
  |.build t k=>match cu P t with
   |some ti=>match ti.zero with
    |.agg z=>match placesOf P t with
     |some u=>match gr (k.toList.map λp=>resolve σ p.2)with
      |some (q,M)=>match sB u z ((k.toList.map (·.1)).zip q)with
       |some w=>some ([.make M d<|.agg w],[])
       |none=>none
      |none=>none
     |none=>none
    |_=>none
   |none=>none
  |.buildSlice t n k=>match dC P t with
   |some e=>match cu P e with
    |some ti=>match gr (k.toList.map λp=>resolve σ p.2)with
     |some (q,M)=>if(k.toList.map (·.1)=List.range n)/\(q.all<|fits ti)/\n*ti.size<=2^24/\n<=maxLen then some ([.make M d<|.list .own ti.size q],[])else none
     |none=>none
    |none=>none
   |none=>none
  |.load t a=>gj (sn P d t<|resolve σ a)
  |.fieldAddr t x f=>gj (jZ P d t (resolve σ x) f)
  |.field t x f=>gj (ye P d t (resolve σ x) f)
  |.indexAddr t x i=>gj (aab P d t (resolve σ x)<|resolve σ i)
  |.index t x i=>gj (uV P d t (resolve σ x)<|resolve σ i)
  |.extract x i=>gj (nZ d (resolve σ x) i)
  |.binOp r t x y _=>match(resolve σ x).cont with
   |some a=>match(resolve σ y).cont with
    |some b=>match mB P r t a b with
     |some v=>some ([.put d v],[])
     |none=>none
    |none=>none
   |none=>none
  |.unOp r _ x=>match(resolve σ x).cont with
   |some (.v a)=>match Wb r a with
    |some v=>some ([.put d<|.v v],[])
    |none=>none
   |_=>none
  |.convert s t x=>gj (CR P d s t<|resolve σ x)
  |.slice t x l h m=>gj (qh P d t (resolve σ x) (l.map<|resolve σ) (h.map<|resolve σ)<|m.map<|resolve σ)
  |.makeSlice t l c=>match dC P t with
   |some e=>match cu P e with
    |some ti=>match(resolve σ l).cont,(resolve σ c).cont with
     |some (.v<|.int _ a),some (.v<|.int _ b)=>if 0<=a/\a<=b/\b*ti.bytes<=140737488355328/\b<=maxLen/\0<ti.size then
       some ([.make [] d<|.list .own ti.size<|List.replicate a.toNat ti.zero],[])else none
     |_,_=>none
    |none=>none
   |none=>none
  |.makeFunc f first g=>match gP (first.toList.map<|resolve σ),gP (g.toList.map<|resolve σ)with
   |some a,some c=>if(shares<|first.toList.map (resolve σ)++g.toList.map (resolve σ)).isEmpty then some ([.put d<|.fn f a c],[])else none
   |_,_=>none
  |.call c=>match c.callee with
   |.value f=>C4 (some d) (resolve σ f) (c.args.toList.map<|resolve σ) j
   |.builtin b=>gj (kz P d b c.argTypes.toList<|c.args.toList.map<|resolve σ)
   |_=>none
  |_=>none
section
variable{a:Act}{d t:Nat}{P:Program}{w w' w0:World}
structure Hid where
 v:Nat->Value
 g:Nat->Prop
 rd:Option Nat:=none
 df:List Deferred:=[]
def an.Nl{S:Nat->Prop}{σ:St}{T:Nat->Value}{g1 g2:Nat}{F:List Nat}{g:FuncId}{b:List (Nat×Nat)}(h:an w S σ T t F)(i:(σ t).av=.fS g b)(f:b.all (λq=>q.1 !=d)=true):
 an w S (iI σ d ⟨.fS g b,g1,g2⟩) (iI T d<|T t) d []:=by
 have c:∀q∈b,q.1≠d:=by simpa using f
 unfold an at h⊢;rw[i]at h;simp only[aH]at h⊢;obtain⟨-,l,j⟩:=h;refine⟨U,λq e=>by rw[b6 _ _<|c q e];exact l q e,λk=>?_⟩;rw[j λq e=>by have:=k q e;rwa[b6 _ _<|c q e]at this]
 congr 2
 exact afq λq e=>by rw[b6 _ _<|c q e]
def cQ(V:Hid)(w0:World)(b:Nat):Prop:=w0.heap.size<=b\/V.g b
structure tV(V:Hid)(w0 w w':World):Prop where
 os:w'.os=w.os
 tape:w'.tape=w.tape
 output:w'.output=w.output
 size:w.heap.size<=w'.heap.size
 block:∀k,k<w0.heap.size->¬V.g k->w'.heap[k]?=w.heap[k]?
def lW(V:Hid)(w0 w:World):Prop:=tV V w0 w0 w
def Laid(P:Program)(w:World):Prop:=Lib.TabIs P w "internal/strconv.uint64pow10" .u64 Lib.pow10Tab
def Af(P:Program)(B:Nat->Prop):Prop:=∀g,P.globalNamed "internal/strconv.uint64pow10"=some g->¬B g
structure kx(P:Program)(V:Hid)(w:World):Prop where
 laid:Laid P w
 apart:Af P V.g
def Laid.same(h:Laid P w)(b:∀g,P.globalNamed "internal/strconv.uint64pow10"=some g->g<w.heap.size->w'.heap[g]?=w.heap[g]?):Laid P w':=by
 unfold Laid Lib.TabIs World.var? at*;cases hn:P.globalNamed "internal/strconv.uint64pow10" with
 |none=>rw[hn]at h;cases h
 |some g=>grind
def Laid.lt(h:Laid P w){g:Nat}(hn:P.globalNamed "internal/strconv.uint64pow10"=some g):g<w.heap.size:=by
 unfold Laid Lib.TabIs World.var? at h
 grind
def kx.Ar{V:Hid}(h:kx P V w0)(k:lW V w0 w):Laid P w:=h.laid.same λg hn b=>k.block g b<|h.apart g hn
def kx.cQ{V:Hid}(h:kx P V w0):Af P (cQ V w0):=λg hn b=>b.elim (λb=>by have:=h.laid.lt hn;omega)<|h.apart g hn
def Af.mono{B C:Nat->Prop}(h:Af P C)(k:∀b,B b->C b):Af P B:=λg hn c=>h g hn<|k g c
def tV.trans{V:Hid}{a b c:World}(h:tV V w0 a b)(k:tV V w0 b c):tV V w0 a c:=⟨k.os.trans h.os,k.tape.trans h.tape,k.output.trans h.output,ad0 h.size k.size,λi hi e=>(k.block i hi e).trans<|h.block i hi e⟩
def lW.refl(V:Hid)(w:World):lW V w w:=⟨W,W,W,.refl,λ_ _ _=>rfl⟩
def lW.trans{V:Hid}(h:lW V w0 w)(k:tV V w0 w w'):lW V w0 w':=tV.trans h k
def lW.PO{V:Hid}(h:lW V w0 w)(k:Below w.heap.size w w'):lW V w0 w':=h.trans ⟨k.os,k.tape,k.output,k.size,λi hi _=>k.block i<|ae3 hi h.size⟩
def lW.new{V:Hid}(h:lW V w0 w):∀b,w.heap.size<=b->cQ V w0 b:=λ_ c=>.inl<|ad0 h.size c
def wc{V:Hid}{k:Nat}(h:cQ V w0 k)(c:k<w0.heap.size)(b:¬V.g k):False:=h.elim (λh=>E) b
def tv(V:Hid)(a:Act):Nat->Value:=λi=>if i<1000000\/i<a.tmps.size then a.tmps.getD i undef else V.v i
def vp(V:Hid)(a:Act){i:Nat}(h:i<1000000\/i<a.tmps.size):tv V a i=a.tmps.getD i undef:=by unfold tv;rw[if_pos h]
def oK{V:Hid}(h:d<a.tmps.size)(v:Value):tv V (a.put (some d) v)=iI (tv V a) d v:=by
 funext i
 unfold tv iI Act.put;simp only[Array.getD_eq_getD_getElem?,Array.getElem?_setIfInBounds]
 grind
def size_put(a:Act)(d:Option Nat)(v:Value):(a.put d v).tmps.size=a.tmps.size:=by cases d<;>simp[Act.put]
def gG(a:Act)(d:Option Nat)(v:Value):(a.put d v).defers=a.defers:=by cases d<;>simp[Act.put]
def iE(V:Hid)(a:Act)(h:t<1000000):a.eval (.tmp t)=tv V a t:=(vp V a<|.inl h).symm
def Inv(N:Nat)(V:Hid)(w0:World)(S0:Nat->Prop)(σ:St)(a:Act)(w:World):Prop:=∃S F,aT S (cQ V w0) σ (tv V a) w F/\a.tmps.size=N/\a.defers=V.df/\(∀b,S0 b->S b)/\(∀b,S b->S0 b\/cQ V w0 b)/\lW V w0 w
def FW(rd:Option Nat):Fence:={Fence.wide with round:=rd}
def LK{rd:Option Nat}{n:Nat}{f:FuncId}{args:Array Value}{R:Ending->World->Prop}(h:Calls P f args w R):CallsIn (FW rd) n P f args w R:=by have b:=(callsIn_wide (n:=n)).2 h;exact⟨U,λc _=>b.2 c<|room_wide _⟩
def Oper.Vg(rd:Option Nat)(P:Program)(o:Oper)(a:Act)(w:World)(next:Act->World->Prop)(Q:Exit->Act->World->Prop):Prop:=o.wpIn (FW rd) 0 P a w next Q
def Oper.oJ{rd:Option Nat}{o:Oper}{next:Act->World->Prop}{Q:Exit->Act->World->Prop}(hn:∀c,o.op≠.defer c)
 (h:o.uponIn (FW rd) 0 P a next Q ((execOp a.eval o).run P w)):Oper.Vg rd P o a w next Q:=
 ⟨λ_ _=>trivial,by rw[Oper.semAt_eq _ _ _ hn];exact h⟩
def vh(P:Program)(f:FuncId)(b:Array Value)(w:World)(R:Value->World->Prop):Prop:=∀(rd:Option Nat)(o:Oper)(a:Act)(next:Act->World->Prop)(Q:Exit->Act->World->Prop),(∀v w',R v w'->next (a.put o.dst v) w')->o.uponIn (FW rd) 0 P a next Q ((callFunc f b).run P w)
def Sound(P:Program)(f:FuncId)(args:List AV)(r:AV):Prop:=
 ∀(w:World)(S:Nat->Prop)(e:List Value),Laid P w->(∀b,S b->b<w.heap.size)->Cells w S false args e []->
  vh P f e.toArray w λv w'=>∃c F,Below w.heap.size w w'/\(∀b,S b->c b)/\(∀b,c b->S b\/w.heap.size<=b)/\(∀b,c b->b<w'.heap.size)/\
   Rel w' c r v F/\F.Nodup/\∀b∈F,w.heap.size<=b/\b<w'.heap.size/\¬c b
end
section
variable{P:Program}{S:Nat->Prop}{B:Nat->Prop}{σ:St}{w:World}{F:Nat->List Nat}{V:Hid}
def Br(w:World)(S:Nat->Prop)(v:Value):Rel w S (jj v) v []:=by
 unfold jj;split
 ·simp[Rel]
 split
 ·rename_i h;simp[Rel,h]
 simp[Rel]
def wZ(w:World)(S:Nat->Prop)(one:Bool):∀(l:List Value),(one=true->∀v∈l,v.oneCell'=true)->Cells w S one (l.map jj) l []
 |[],_=>by simp[Cells]
 |v::l,h=>by exact⟨v,l,[],[],W,W,λb=>h b v I,Br w S v,wZ w S one l λb u hu=>h b u<|by simp[hu]⟩
def gZ(w:World)(S:Nat->Prop)(v:Value)(h:ns v=true):Rel w S (gL v) v []:=by
 unfold gL;split
 ·rename_i c;refine⟨c,W,wZ w S true _ λ_ v b=>?_⟩;simp only[ns,aeI]at h;exact h v b
 exact Br w S v
def aJ:Operand->Bool
 |.const v=>ns v
 |.tmp t=>Nat.blt t 1000000
 |_=>true
def fN{t:Nat}(h:aJ (.tmp t)=true):t<1000000:=by have:=ae4 h;omega
def aQ{a:Act}(h:aT S B σ (tv V a) w F)(x:Operand)(O:aJ x=true){y:AV}(hc:(resolve σ x).cont=some y):
 ∃A,Rel w S y (a.eval x) A/\(∀b∈A,∃i,b∈F i)/\
  (∀t,x=.tmp t->(σ t).av.plain=true->A=F t/\y=(σ t).av)/\
  (∀t r g1 g2,x=.tmp t->(σ t).av=.bC r g1 g2 []->A=F r/\y=(σ r).av/\tv V a t=tv V a r/\(σ r).av.plain=true):=by
 cases x with
 |const v=>
  simp[resolve,bY.cont]at hc;have z:=gZ w S v O;have H:y=gL v:=by split at hc<;>simp_all[Rel]
  subst H;exact⟨[],z,I,I,I⟩
 |func f=>simp[resolve,bY.cont,ada]at hc;subst hc;refine⟨[],?_,I,I,I⟩;exact⟨#[],#[],[],[],W,by simp[Cells],by simp[Cells],W⟩
 |global g=>simp[resolve,bY.cont,Sl.none]at hc
 |tmp t=>
  have M:a.eval (.tmp t)=tv V a t:=iE V a<|fN O;simp[resolve]at hc;have u:=h.rel t;rw[M];by_cases k:(σ t).av.plain=true
  ·rw[an.aA k]at u;have H:y=(σ t).av:=by
    unfold bY.of at hc;split at hc
    ·rename_i e;rw[e]at k;simp[AV.plain]at k
    ·rename_i e;rw[e]at k;simp[AV.plain]at k
    ·rename_i e;rw[e]at k;simp[AV.plain]at k
    simp[bY.cont]at hc
    grind
   subst H;refine⟨F t,u,λb N=>⟨t,N⟩,λX e _=>?_,λX r g1 g2 e N=>?_⟩
   ·simp_all
   cases e;rw[N]at k;simp[AV.plain]at k
  cases j:(σ t).av with
  |bC r g1 g2 p=>
   unfold an at u;rw[j]at u;simp only at u;simp only[bY.of,j,bY.cont]at hc;split at hc
   ·rename_i e1;split at hc
    ·rename_i e2;split at hc
     ·rename_i T c;split at hc
      ·rename_i l;simp[ada]at hc;subst hc;simp[adD]at l;obtain⟨-,-,-,h4⟩:=u;obtain⟨L,o,C,Z⟩:=h4 e1 (Fu e2) λ_=>⟨_,c⟩;by_cases m:p=[]
       ·subst m;simp[bp,ada]at c;subst c;have z:=h.rel r;rw[an.aA l.2]at z;simp[loc,ada]at o;subst o;simp[holds]at C
        grind
       have K:(σ r).av.plain=true:=by
        cases p with
        |nil=>exact absurd W m
        |cons s p=>cases hh:(σ r).av<;>simp[AV.plain]<;>(rw[hh]at c;simp[bp]at c)
       have z:=h.rel r;rw[an.aA K]at z;obtain⟨L1,R,A,r1,D,Y,r4,r5⟩:=Rel.read p (L:=.val<|tv V a r) z W c;rw[o]at r1;cases r1;have hz:tv V a t=R:=by
        cases L with
        |val q=>simp[holds]at C D;rw[C,D]
        |addr ad=>
         have ha:=Z ad W;have n:T.cell=true:=by
          unfold xM at l;split at l
          ·exact absurd W m
          ·rename_i i;simp[loc,step1]at o;cases hT:tv V a r<;>rw[hT]at o<;>simp[cm]at o
          exact l.1
         have h1:=At.cell C<|cD ha;have h2:=At.cell D<|cD<|Y.one n;simp_all
       grind
      cases hc
     cases hc
    cases hc
   cases hc
  |ptr r g1 g2 p=>simp[bY.of,j,bY.cont]at hc
  |abs J=>simp[bY.of,j,bY.cont,Sl.none]at hc
  |fS g Q=>simp[bY.of,j,bY.cont]at hc
  |_=>rw[j]at k;simp[AV.plain]at k
def GZ{a:Act}(h:aT S B σ (tv V a) w F){t r g1 g2:Nat}{p:Path}{y:AV}(e:(σ t).av=.bC r g1 g2 p)(hc:(resolve σ<|.tmp t).cont=some y)
 {L:Loc}{z:Value}{u:List Nat}(hl:loc w (.val<|tv V a r) p=some L)(hh:holds w L z)(k:Rel w S y z u):z=tv V a t:=by
 have g:=h.rel t;unfold an at g;rw[e]at g;obtain⟨-,-,-,m⟩:=g;simp only[resolve,bY.of,e,bY.cont]at hc;split at hc
 ·rename_i o;split at hc
  ·rename_i n;obtain⟨A,i,f,j⟩:=m o (Fu n) λ_=>by
    grind
   rw[hl]at i;cases i;cases L with
   |val q=>simp[holds]at f hh;rw[f,hh]
   |addr s=>
    split at hc
    ·split at hc
     ·rename_i b;simp at hc;rw[hc]at b;simp at b;have c:y.cell=true:=by
       have:=b.1;unfold xM at this;split at this
       ·simp[loc]at hl
       ·simp[loc,step1]at hl;cases l:tv V a r<;>rw[l]at hl<;>simp[cm]at hl
       exact this
      have x:=At.cell f<|cD<|j s W;have v:=At.cell hh<|cD<|k.one c;simp_all
     cases hc
    cases hc
  cases hc
 cases hc
def CS{t r g1 g2:Nat}{p:Path}{y:AV}(e:(σ t).av=.bC r g1 g2 p)(hc:(resolve σ<|.tmp t).cont=some y):
 bp (σ r).av p=some y/\(p≠[]->(σ r).av.plain=true)/\y.plain=true:=by
 simp only[resolve,bY.of,e,bY.cont]at hc;split at hc
 ·split at hc
  ·split at hc
   ·rename_i f c;split at hc
    ·rename_i b;cases hc;simp at b;refine⟨c,λg=>?_,b.2⟩;cases p with
     |nil=>simp_all
     |cons s p=>cases hh:(σ r).av<;>simp[AV.plain]<;>(rw[hh]at c;simp[bp]at c)
    cases hc
   cases hc
  cases hc
 cases hc
def Inv.put{N:Nat}{w0:World}{S0:Nat->Prop}{a:Act}{d:Nat}{y:AV}{z:Value}(h:Inv N V w0 S0 σ a w)(i:d<N)
 (b:∀S F,aT S (cQ V w0) σ (tv V a) w F->an w S (iI σ d ⟨y,(σ d).g1+1,(σ d).g2⟩) (iI (tv V a) d z) d []):
 Inv N V w0 S0 (iI σ d ⟨y,(σ d).g1+1,(σ d).g2⟩) (a.put (some d) z) w:=by
 obtain⟨S,F,hc,g,f,e,c,j⟩:=h;refine⟨S,iI F d [],?_,by rw[size_put];exact g,by rw[gG];exact f,e,c,j⟩;rw[oK<|by rw[g];exact i];exact hc.put d y z<|b S F hc
def Inv.iS{N:Nat}{w0:World}{S0:Nat->Prop}{a:Act}{d:Nat}{y:AV}{z:Value}(h:Inv N V w0 S0 σ a w)(c:d<N)
 (b:∀S F,aT S (cQ V w0) σ (tv V a) w F->Rel w S y z []):
 Inv N V w0 S0 (iI σ d ⟨y,(σ d).g1+1,(σ d).g2⟩) (a.put (some d) z) w:=
 h.put c λS F hc=>by have:=b S F hc;rw[an.aA<|by rw[aH];exact this.plain];simpa[aH]using this
def Mv.cg{d:Nat}{y:AV}:Mv.runs σ [.put d y]=some (iI σ d ⟨y,(σ d).g1+1,(σ d).g2⟩):=W
def wa(v:Value):(jj v).aG=true:=by
 unfold jj;split
 ·rfl
 split<;>rfl
def ub:∀l:List Value,bU (l.map jj)=true
 |[]=>rfl
 |v::l=>by simp[bU,wa,ub l]
def oQ(v:Value):(gL v).aG=true:=by
 unfold gL;split
 ·simp[AV.aG,ub]
 exact wa v
def FY(v:Value):(jj v).plain=true:=by
 unfold jj;split
 ·rfl
 split<;>rfl
def dN(v:Value):(gL v).plain=true:=by
 unfold gL;split
 ·rfl
 exact FY v
def lU{N:Nat}{w0:World}{S0:Nat->Prop}{a:Act}{d:Nat}{l:St}(h:Inv N V w0 S0 σ a w)(k:d<N)(x:Operand)(s:aJ x=true){m:List Mv}
 (hm:dc d (resolve σ x)=some m)(c:Mv.runs σ m=some l):Inv N V w0 S0 l (a.put (some d)<|a.eval x) w:=by
 cases x with
 |const v=>
  have:m=[.put d<|gL v]:=by
   simp[resolve,dc]at hm
   grind
  subst this;simp[Mv.cg,ada]at c;subst c;exact h.iS k λS F _=>gZ w S v s
 |func f=>
  simp[resolve,dc,AV.aG,bU,ag7,if_true,ada]at hm;subst hm;simp[Mv.cg,ada]at c;subst c;exact h.iS k λS F _=>by simp only[Rel,Act.eval];exact⟨#[],#[],[],[],W,by simp[Cells],by simp[Cells],W⟩
 |global g=>simp[resolve,Sl.none,dc,AV.aG,if_true,ada]at hm;subst hm;simp[Mv.cg,ada]at c;subst c;exact h.iS k λS F _=>by simp[Rel]
 |tmp t=>
  rw[iE V a<|fN s];cases b:(σ t).av with
  |bC r g1 g2 p=>
   simp only[resolve,bY.of,b,dc]at hm;split at hm
   ·cases hm
   rename_i e;cases hm;simp[Mv.cg,ada]at c;subst c;refine h.put k λS F hc=>?_;have i:=hc.rel t;unfold an at i⊢;rw[b]at i;simp only[aH,b6 _ _ e]at i⊢;simp_all
  |ptr r g1 g2 p=>
   simp only[resolve,bY.of,b,dc]at hm;split at hm
   ·cases hm
   rename_i e;cases hm;simp[Mv.cg,ada]at c;subst c;refine h.put k λS F hc=>?_;have i:=hc.rel t;unfold an at i⊢;rw[b]at i;simp only[aH,b6 _ _ e]at i⊢;simp_all
  |abs J=>simp[resolve,bY.of,b,Sl.none,dc,AV.aG,if_true,ada]at hm;subst hm;simp[Mv.cg,ada]at c;subst c;exact h.iS k λS F hc=>by simp[Rel]
  |fS g u=>
   simp only[resolve,bY.of,b,dc]at hm;split at hm
   ·rename_i e;cases hm;simp only[Mv.cg,ada]at c;subst c;exact h.put k λS F hc=>(hc.rel t).Nl b e
   cases hm
  |_=>
   all_goals
    have n:(σ t).av.plain=true:=by rw[b];rfl
    have o:(resolve σ<|.tmp t)=⟨some t,σ t,.none⟩:=by simp[resolve,bY.of,b]
    rw[o]at hm;have j:(if(σ t).av.aG then some [Mv.put d (σ t).av]else if t=d then none else some [.put d<|.bC t (σ t).g1 (σ t).g2 []])=some m:=by simpa only[dc,b]using hm
    split at j
    ·rename_i q;cases j;simp only[Mv.cg,ada]at c;subst c;exact h.iS k λS F hc=>by have i:=hc.rel t;rw[an.aA n]at i;rw[Rel.aG _ i q]at i;exact i
    split at j
    ·cases j
    rename_i e;cases j;simp only[Mv.cg,ada]at c;subst c;refine h.put k λS F hc=>?_;unfold an;simp only[aH,b6 _ _ e];exact⟨U,adp _,adp _,λ_ _ _=>⟨.val _,W,W,I⟩⟩
end
section
variable{P:Program}{N:Nat}{w0 w:World}{V:Hid}{S0:Nat->Prop}{σ σ':St}{a:Act}
section
variable{y:AV}{M:List Nat}{d:Nat}
def oP(w:World)(cs:Array Value)(e:TypeId):row? (w.alloc<|.cells cs e) w.heap.size=some (cs,(0,0)):=by unfold row?;rw[heap_alloc_new]
def oO(w:World)(o:Obj){b:Nat}(h:b<w.heap.size):(w.alloc o).heap[b]?=w.heap[b]?:=Below.heap_alloc w o b h
def Inv.make{w':World}{z:Value}(h:Inv N V w0 S0 σ a w)(p:d<N)(l:Below w.heap.size w w')
 (o:∀S F,aT S (cQ V w0) σ (tv V a) w F->∃c,Rel w' S y z c/\c.Nodup/\∀b∈c,(∃m∈M,b∈F m)\/w.heap.size<=b/\b<w'.heap.size):
 Inv N V w0 S0 (made σ M d y) (a.put (some d) z) w':=by
 obtain⟨S,F,hc,n,j,g,f,e⟩:=h;obtain⟨c,s,r,q⟩:=o S F hc;refine⟨S,λi=>if i=d then c else if i∈M then[]else F i,?_,by rw[size_put];exact n,by rw[gG];exact j,g,f,e.PO l⟩;rw[oK<|by rw[n];exact p];refine hc.make M d y z c e.new l.size (λb k _=>?_) r q s;exact l.block b k
def jl:Mv.runs σ [.make M d y]=some (made σ M d y):=W
def Hb(h:Inv N V w0 S0 σ a w)(q:d<N)(x:Operand)(hx:aJ x=true){B:List Mv}
 (hm:dG d (resolve σ x)=some B)(e:Mv.runs σ B=some σ'):Inv N V w0 S0 σ' (a.put (some d)<|a.eval x) w:=by
 have general:∀y,(resolve σ x).cont=some y->y.aG=true->B=[.put d y]->Inv N V w0 S0 σ' (a.put (some d)<|a.eval x) w:=by
  intro y hy m O;subst O;simp only[Mv.cg,ada]at e;subst e;exact h.iS q λS F hc=>by obtain⟨F1,h1,-⟩:=aQ hc x hx hy;rw[Rel.aG _ h1 m]at h1;exact h1
 cases x with
 |const v=>
  have:B=[.put d<|gL v]:=by simp only[resolve,dG]at hm;have h1:=oQ v;have h2:=dN v;split at hm<;>simp_all[AV.plain]
  subst this;simp only[Mv.cg,ada]at e;subst e;exact h.iS q λS F _=>gZ w S v hx
 |func f=>simp only[resolve,dG,AV.aG,bU,ag7,if_true,ada]at hm;exact general (.fn (.func f) [] []) W W hm.symm
 |global g=>simp only[resolve,Sl.none,dG,AV.aG,if_true,ada]at hm;subst hm;simp only[Mv.cg,ada]at e;subst e;exact h.iS q λS F _=>by simp[Rel]
 |tmp t=>
  have o:a.eval (.tmp t)=tv V a t:=iE V a<|fN hx;cases c:(σ t).av with
  |ptr r g1 g2 p=>
   rw[o];simp only[resolve,bY.of,c,dG]at hm;split at hm
   ·cases hm
   rename_i s;cases hm;simp only[Mv.cg,ada]at e;subst e;refine h.put q λS F hc=>?_;have l:=hc.rel t;unfold an at l⊢;rw[c]at l;simp only[aH,b6 _ _ s]at l⊢;simp_all
  |bC r g1 g2 p=>
   simp only[resolve,bY.of,c,dG]at hm;split at hm
   ·rename_i y hy;split at hm
    ·rename_i m;simp only[ada]at hm;exact general y (by simpa only[resolve,bY.of,c]using hy) m hm.symm
    have C:(resolve σ<|.tmp t).cont=some y:=by simpa only[resolve,bY.of,c]using hy
    obtain⟨k,X,T⟩:=CS c C;have n:(σ r).av.plain=true:=by
     by_cases hp:p=[]
     ·subst hp;simp only[bp,ada]at k;rw[k];exact T
     exact X hp
    have B0:B=[.take r d p]->Inv N V w0 S0 σ' (a.put (some d)<|a.eval<|.tmp t) w:=by
     intro O;subst O;simp only[Mv.runs,Mv.run]at e;split at e
     ·rename_i A0 i;cases e;split at i
      ·cases i
      rename_i D1;rw[k]at i;simp only at i;split at i
      ·rename_i D2 hs;cases i;obtain⟨S,F,hc,Z,Q,H,D,R⟩:=h;obtain⟨L,z,F2,F',k1,k2,k3,k4,-⟩:=hc.take r d p D1 n k hs;rw[GZ hc c C k1 k2 k3]at k4;refine⟨S,F',?_,by rw[size_put];exact Z,by rw[gG];exact Q,H,D,R⟩;rw[oK<|by rw[Z];exact q,o];exact k4
      cases i
     cases e
    split at hm
    ·simp_all
    ·simp_all
    split at hm
    ·cases hm
    rename_i E2;cases hm;simp only[Mv.runs,Mv.run,k]at e;split at e
    ·rename_i A0 i;split at i
     ·rename_i D2 hs;simp only[ada]at i e;subst i;subst e;obtain⟨S,F,hc,Z,Q,H,D,R⟩:=h;obtain⟨L,z,F1,F',k1,k2,k3,k4,k5⟩:=hc.share r p n k hs;have hz:=GZ hc c C k1 k2 k3;have Y:∀b∈F1,cQ V w0 b:=λb u=>(hc.own r b<|k5 b u).1;have hS:=Rel.share (S':=λb=>S b\/b∈F1) (λ_ h=>.inl h) _ k3 λb u=>.inr u;refine⟨λb=>S b\/b∈F1,iI F' d [],?_,by rw[size_put];exact Z,by rw[gG];exact Q,λb u=>.inl<|H b u,λb u=>u.elim (D b) λu=>.inr<|Y b u,R⟩;rw[oK<|by rw[Z];exact q];refine k4.put d _ _ ?_;rw[an.aA<|by rw[aH];exact hS.plain,aH,aH,o,<-hz];exact hS
     cases i
    cases e
   cases hm
  |abs J=>simp only[resolve,bY.of,c,Sl.none,dG,AV.aG,if_true,ada]at hm;subst hm;simp only[Mv.cg,ada]at e;subst e;exact h.iS q λS F hc=>by simp[Rel]
  |fS g E1=>
   rw[o];simp only[resolve,bY.of,c,dG]at hm;split at hm
   ·rename_i s;cases hm;simp only[Mv.cg,ada]at e;subst e;exact h.put q λS F hc=>(hc.rel t).Nl c s
   cases hm
  |box b z=>
   rw[o];have A:(σ t).av.plain=true:=by rw[c];rfl
   have K:(resolve σ<|.tmp t)=⟨some t,σ t,.none⟩:=by simp[resolve,bY.of,c]
   rw[K]at hm;have j:(if(σ t).av.aG then some [Mv.put d (σ t).av]else if t=d then none else some [.put d<|.bC t (σ t).g1 (σ t).g2 []])=some B:=by simpa only[dG,c]using hm
   split at j
   ·rename_i m;cases j;simp only[Mv.cg,ada]at e;subst e;exact h.iS q λS F hc=>by have l:=hc.rel t;rw[an.aA A]at l;rw[Rel.aG _ l m]at l;exact l
   split at j
   ·simp at j
   rename_i s;cases j;simp only[Mv.cg,ada]at e;subst e;refine h.put q λS F hc=>?_;unfold an;simp only[aH,b6 _ _ s];exact⟨U,adp _,adp _,λ_ _ _=>⟨.val _,W,W,I⟩⟩
  |_=>
   all_goals
    rw[o];have A:(σ t).av.plain=true:=by rw[c];rfl
    have K:(resolve σ<|.tmp t)=⟨some t,σ t,.none⟩:=by simp[resolve,bY.of,c]
    rw[K]at hm;have j:(if(σ t).av.aG then some [Mv.put d (σ t).av]else if t=d then none else some [.make [t] d (σ t).av])=some B:=by simpa only[dG,c]using hm
    split at j
    ·rename_i m;cases j;simp only[Mv.cg,ada]at e;subst e;exact h.iS q λS F hc=>by have l:=hc.rel t;rw[an.aA A]at l;rw[Rel.aG _ l m]at l;exact l
    split at j
    ·simp at j
    cases j;simp only[jl,ada]at e;subst e;refine h.make q (.refl _ _) λS F hc=>?_;have l:=hc.rel t;rw[an.aA A]at l;exact⟨F t,l,hc.nodup t,λb u=>.inl ⟨t,I,u⟩⟩
end
end
section
variable{P:Program}{N:Nat}{w0 w:World}{V:Hid}{S S0:Nat->Prop}{B:Nat->Prop}{σ σ':St}{a:Act}{F:Nat->List Nat}
section
variable{y:AV}{F1:List Nat}{t:TypeId}{z:Value}
def iy{rd:Option Nat}{o:Oper}{K:Act->World->Prop}{Q:Exit->Act->World->Prop}{v:Value}{w':World}(b:(execOp a.eval o).run P w=.ok (.value v) w')(h:K (a.put o.dst v) w'):Oper.Vg rd P o a w K Q:=by refine Oper.oJ (λc hc=>?_) (by rw[b];exact h);simp[execOp,hc]at b;cases d:(Go.resolve a.eval c o.type).run P w<;>simp[d]at b
def oV(h:aT S B σ (tv V a) w F)(x:Operand)(l:aJ x=true){M:List Nat}(d:x6 (resolve σ x)=some (y,M)):
 ∃j,Rel w S y (a.eval x) j/\j.Nodup/\∀b∈j,∃m∈M,b∈F m:=by
 have general:(resolve σ x).cont=some y->y.aG=true->∃j,Rel w S y (a.eval x) j/\j.Nodup/\∀b∈j,∃m∈M,b∈F m:=by
  intro o e;obtain⟨F1,A,-⟩:=aQ h x l o;rw[Rel.aG _ A e]at A
  grind
 cases x with
 |const v=>
  have:y=gL v:=by simp[resolve,x6]at d;have O:=dN v;split at d<;>simp_all[AV.plain]
  subst this;exact⟨[],gZ w S v l,ae5,I⟩
 |func f=>obtain⟨rfl,rfl⟩:=d;exact general W W
 |global g=>simp[resolve,Sl.none,x6]at d
 |tmp t=>
  cases c:(σ t).av with
  |ptr r g1 g2 p=>simp[resolve,bY.of,c,x6]at d
  |dead=>simp[resolve,bY.of,c,x6]at d
  |bC r g1 g2 p=>
   simp[resolve,bY.of,c,x6]at d;split at d
   ·rename_i D o;have n:(resolve σ<|.tmp t).cont=some D:=by simpa only[resolve,bY.of,c]using o
    split at d
    ·simp_all
    split at d
    ·rename_i H;subst H;cases d;obtain⟨F1,L,R,Q,K⟩:=aQ h (.tmp t) l n;obtain⟨rfl,-,-,-⟩:=K t r g1 g2 W c;exact⟨_,L,h.nodup r,λb u=>⟨r,I,u⟩⟩
    cases d
   cases d
  |abs J=>simp[resolve,bY.of,c,Sl.none,x6]at d
  |fS g C=>simp[resolve,bY.of,c,x6]at d
  |_=>
   all_goals
    rw[iE V a<|fN l];have q:(σ t).av.plain=true:=by rw[c];rfl
    have s:(resolve σ<|.tmp t)=⟨some t,σ t,.none⟩:=by simp[resolve,bY.of,c]
    rw[s]at d;have i:(if(σ t).av.aG then some ((σ t).av,([]:List Nat))else some ((σ t).av,[t]))=some (y,M):=by simpa only[x6,c]using d
    have k:=h.rel t;rw[an.aA q]at k;split at i
    ·rename_i e;cases i;rw[Rel.aG _ k e]at k;exact⟨[],k,ae5,I⟩
    cases i;exact⟨F t,k,h.nodup t,λb u=>⟨t,I,u⟩⟩
def l8(h:aT S B σ (tv V a) w F):∀(xs:List Operand),xs.all aJ=true->∀{ys:List AV}{M:List Nat},gr (xs.map<|resolve σ)=some (ys,M)->
 ∃j,Cells w S false ys (xs.map a.eval) j/\j.Nodup/\∀b∈j,∃m∈M,b∈F m
 |[],_,ys,M,d=>by obtain⟨rfl,rfl⟩:=d;exact⟨[],by simp[Cells],ae5,I⟩
 |x::xs,g,ys,M,d=>by
  simp only[ae6,adD]at g;simp only[afc,gr]at d;split at d
  ·rename_i y K o J r q;split at d
   ·rename_i l;cases d;obtain⟨F1,H,A,v⟩:=oV h x g.1 r;obtain⟨C,D,u,s⟩:=l8 h xs g.2 q;refine⟨F1++C,?_,?_,λb n=>?_⟩
    ·simp only[Cells]
     grind
    ·rw[aeJ];refine⟨A,u,λb n c hc e=>?_⟩;subst e;obtain⟨m,hm,i⟩:=v b n;obtain⟨k,p,f⟩:=s b hc;have:m≠k:=λe=>by
      simp_all
     exact h.du m k this b i f
    grind
   cases d
  cases d
def lA{ti:TI}(h:cu P t=some ti):∃i u z,P.info? t=some i/\P.underlying t=some u/\i.zero=some z/\ti.size=i.size/\ti.bytes=i.bytes/\ti.zero=gL z/\
 ti.agg=(match u with|.struct _|.array .. =>true|_=>false)/\z.cells.size=ti.size/\ns z=true:=by
 unfold cu at h
 grind
def xF{ti:TI}(h:cu P t=some ti)(w:World):(isAgg t).run P w=.ok ti.agg w:=by obtain⟨i,u,z,j,c,g,f,e,d,b,-⟩:=lA h;unfold isAgg;simp[run_underlying c];rw[b];cases u<;>rfl
def dJ{ti:TI}(h:cu P t=some ti)(w:World):(sizeOf t).run P w=.ok ti.size w:=by obtain⟨i,u,z,c,j,g,b,f,e,d⟩:=lA h;simp[sizeOf,typeInfo,c,b]
def Bm{ti:TI}(h:cu P t=some ti)(w:World):∃z,(zeroValue t).run P w=.ok z w/\ti.zero=gL z/\z.cells.size=ti.size/\ns z=true:=by obtain⟨i,u,z,f,l,e,k,j,d,g,c,b⟩:=lA h;exact⟨z,by simp[zeroValue,typeInfo,f,e],d,c,b⟩
def kK{ti:TI}(d:cu P t=some ti){b:Addr}(h:At w b z)(f:(ti.agg=true/\∃cs,z=.agg cs/\cs.size=ti.size)\/(ti.agg=false/\z.oneCell'=true)):
 (loadVar t b).run P w=.ok z w:=by
 unfold loadVar;simp only[Sem.run_bind,xF d,Result.andThen_ok];rcases f with⟨c,cs,rfl,e⟩|⟨c,e⟩
 ·obtain⟨hs,k,l,i,hc⟩:=h;simp[c,dJ d];have:=run_loadCells_list (P:=P) w b cs.toList (λj v g=>by
   rw[cj hs,pS (a:=⟨b.block,b.off+j,none⟩) W i];exact hc j v<|by simpa[bu]using g)
  simp_all
 simp only[c,agw,if_false];rw[run_load,h.cell<|cD e]
def kW{ti:TI}(b:fits ti y=true)(c:Rel w S y z F1):
 (ti.agg=true/\∃cs,z=.agg cs/\cs.size=ti.size)\/(ti.agg=false/\z.oneCell'=true):=by
 unfold fits at b;split at b
 ·rename_i d;simp at b;obtain⟨cs,rfl,hc⟩:=c;exact .inl ⟨b.1,cs,W,by have:=Cells.length hc;simp at this;omega⟩
 simp at b;exact .inr ⟨b.1.1,c.one b.2⟩
def tn{ti:TI}(b:fits ti y=true)(c:Rel w S y z F1):z.cells.size=ti.size:=by
 unfold fits at b;split at b
 ·rename_i d;simp at b;obtain⟨e,rfl,hc⟩:=c;rw[bu];have:=Cells.length hc;simp at this;omega
 simp at b;rw[cD<|c.one b.2];simp[b.1.2]
def iq(w:World):∀(p q:Path)(L:Loc),loc w L (p++q)=(loc w L p).bind (loc w · q)
 |[],q,L=>rfl
 |s::p,q,L=>by
  simp[loc];cases step1 w L s with
  |none=>rfl
  |some b=>simp;exact iq w p q b
def j6(h:aT S B σ (tv V a) w F)(x:Operand)(l:aJ x=true){r g1 g2:Nat}{p:Path}{av:AV}(d:(resolve σ x).addr=some (r,g1,g2,p,av)):
 g1=(σ r).g1/\g2=(σ r).g2/\av=(σ r).av/\(∃s,a.eval x=.pointer (some s))/\((flat p=false->∃y,bp av p=some y)->∃s,loc w (.val<|tv V a r) p=some (.addr s)/\a.eval x=.pointer (some s)):=by
 cases x with
 |const v=>
  simp[resolve,bY.addr]at d;have q:=dN v;split at d
  ·rename_i e;rw[e]at q;simp[AV.plain]at q
  ·cases d
  ·rename_i e;rw[e]at q;simp[AV.plain]at q
  cases d
 |func f=>simp[resolve,bY.addr]at d
 |global g=>simp[resolve,Sl.none,bY.addr]at d
 |tmp t=>
  have m:a.eval (.tmp t)=tv V a t:=iE V a<|fN l;rw[m];have k:=h.rel t;cases c:(σ t).av with
  |ptr K H D M=>
   unfold an at k;rw[c]at k;obtain⟨-,-,-,h5,O⟩:=k;simp only[resolve,bY.of,c,bY.addr]at d;split at d
   ·rename_i n;split at d
    ·rename_i Q;cases d;simp_all
    cases d
   cases d
  |box own x0=>
   have A:(σ t).av.plain=true:=by rw[c];rfl
   rw[an.aA A,c]at k;simp[resolve,bY.of,c,bY.addr,ada,ae0]at d;obtain⟨rfl,rfl,rfl,rfl,rfl⟩:=d;obtain⟨b,Y,X,Z,z,j,-⟩:=k;exact⟨W,W,by rw[c],⟨⟨b,0,none⟩,j⟩,λ_=>⟨⟨b,0,none⟩,by simp[loc,step1,j,cm],j⟩⟩
  |bC K H D M=>
   simp[resolve,bY.of,c,bY.addr]at d;split at d
   ·rename_i own x0 hc;simp[ada,ae0]at d;obtain⟨rfl,rfl,rfl,rfl,rfl⟩:=d;have C:(resolve σ<|.tmp t).cont=some (.box own x0):=by simpa only[resolve,bY.of,c]using hc
    have i:=k;unfold an at i;rw[c]at i;obtain⟨-,-,-,O⟩:=i;have T:∃L,loc w (.val<|tv V a K) M=some L/\holds w L (tv V a t):=by
     simp only[bY.cont,c]at hc;split at hc
     ·rename_i n;split at hc
      ·rename_i Q;obtain⟨L,u,o,-⟩:=O n (Fu Q) λ_=>by
        grind
       exact⟨L,u,o⟩
      cases hc
     cases hc
    obtain⟨L,u,o⟩:=T;obtain⟨F1,n,-⟩:=aQ h (.tmp t) l C;simp only[Rel,m]at n;obtain⟨b,Y,X,Z,z,j,-⟩:=n;refine⟨W,W,W,⟨⟨b,0,none⟩,j⟩,λ_=>⟨⟨b,0,none⟩,?_,j⟩⟩;rw[iq,u];simp[afp,loc];rw[j]at o;rw[cN o W I];rfl
   cases d
  |abs J=>simp[resolve,bY.of,c,bY.addr,Sl.none]at d
  |fS g R=>simp[resolve,bY.of,c,bY.addr]at d
  |_=>simp[resolve,bY.of,c,bY.addr]at d
end
end
section
variable{P:Program}{N:Nat}{w0 w:World}{V:Hid}{S S0:Nat->Prop}{B:Nat->Prop}{σ σ':St}{a:Act}{F:Nat->List Nat}
section
variable{y:AV}{d o r t:Nat}{p:Path}
def Good(N:Nat)(V:Hid)(w0:World)(S0:Nat->Prop)(σ':St)(a:Act)(d:Nat)(r:Result Value):Prop:=∃v b,r=.ok v b/\Inv N V w0 S0 σ' (a.put (some d) v) b
def vT{T:Nat->Value}{c:Addr}(b:bp (σ r).av p=some y)(hl:loc w (.val<|T r) p=some (.addr c)):(σ r).av.plain=true:=by
 cases p with
 |nil=>simp[loc]at hl
 |cons s p=>cases hh:(σ r).av<;>simp[AV.plain]<;>(rw[hh]at b;simp[bp]at b)
def Inv.D9{q:AV}{n:Value}(h:Inv N V w0 S0 σ a w)(D:d<N)(C:(σ r).av.plain=true)(s:bp (σ r).av p=some y)
 (g:Mv.runs σ [.share r p,.put d q]=some σ')
 (A:∀S F L z f,aT S (cQ V w0) σ (tv V a) w F->loc w (.val<|tv V a r) p=some L->holds w L z->Rel w S y z f->∀S',Rel w S' y.b9 z []->Rel w S' q n []):
 Inv N V w0 S0 σ' (a.put (some d) n) w:=by
 simp[Mv.runs,Mv.run,s]at g;split at g
 ·rename_i x c;split at c
  ·rename_i H hs;simp at c g;subst c;subst g;obtain⟨S,F,hc,v,l,k,j,m⟩:=h;obtain⟨L,z,f,J,k1,k2,k3,k4,k5⟩:=hc.share r p C s hs;have i:=λb e=>(hc.own r b<|k5 b e).1;have u:=A S F L z f hc k1 k2 k3 (λb=>S b\/b∈f)<|Rel.share (S':=λb=>S b\/b∈f) (λ_ h=>.inl h) _ k3 λb e=>.inr e;refine⟨λb=>S b\/b∈f,iI J d [],?_,by rw[size_put];exact v,by rw[gG];exact l,λb e=>.inl<|k b e,λb e=>e.elim (j b) λe=>.inr<|i b e,m⟩;rw[oK<|by rw[v];exact D];refine k4.put d _ _ ?_;rw[an.aA<|by rw[aH];exact u.plain,aH,aH];exact u
  cases c
 cases g
def K3(h:Inv N V w0 S0 σ a w)(hd:d<N)(x:Operand)(A0:aJ x=true){ms:List Mv}
 (hm:sn P d t (resolve σ x)=some ms)(C:Mv.runs σ ms=some σ'):Good N V w0 S0 σ' a d ((Instr.loadAt t<|a.eval x).run P w):=by
 unfold sn at hm;split at hm
 ·rename_i ti X;split at hm
  ·rename_i r g1 g2 p av hx;split at hm
   ·rename_i y R;split at hm
    ·rename_i f;have c:∀S F,aT S (cQ V w0) σ (tv V a) w F->∃s z v,loc w (.val<|tv V a r) p=some (.addr s)/\At w s z/\Rel w S y z v/\(Instr.loadAt t<|a.eval x).run P w=.ok z w/\(σ r).av.plain=true/\av=(σ r).av/\g1=(σ r).g1/\g2=(σ r).g2:=by
      intro S F hc;obtain⟨rfl,rfl,rfl,-,D⟩:=j6 hc x A0 hx;obtain⟨s,u,Q⟩:=D λ_=>⟨y,R⟩;have l:=vT R u;have A:=hc.rel r;rw[an.aA l]at A;obtain⟨L,z,v,k1,k2,k3,-⟩:=Rel.read p (L:=.val<|tv V a r) A W R;rw[u]at k1;cases k1;refine⟨s,z,v,u,k2,k3,?_,l,W,W,W⟩;simp[Instr.loadAt,Instr.sureAddr,Q,Sem.run_bind,Sem.run_pure,Result.andThen_ok];exact kK X k2<|kW f k3
     split at hm
     ·rename_i Z;cases hm;simp[Mv.cg,ada]at C;subst C;have H:=h;obtain⟨S,F,hc,-⟩:=h;obtain⟨s,z,v,u,Q,l3,m,-⟩:=c S F hc;refine⟨z,w,m,H.iS hd λK O i=>?_⟩;obtain⟨q,T,M,k,g,e,b,-⟩:=c K O i;rw[m]at b;simp[Result.ok.injEq,and_true]at b;subst b;rw[Rel.aG _ e Z]at e;exact e
     split at hm
     ·cases hm
     rename_i Y;split at hm
     ·rename_i n;cases hm;simp[Mv.cg,ada]at C;subst C;have H:=h;obtain⟨S,F,hc,-⟩:=h;obtain⟨s,z,v,u,Q,l3,m,-⟩:=c S F hc;refine⟨z,w,m,H.put hd λK O i=>?_⟩;obtain⟨q,T,M,k,g,e,b,-,rfl,rfl,rfl⟩:=c K O i;rw[m]at b;simp[Result.ok.injEq,and_true]at b;subst b;unfold an;simp only[aH,b6 _ _ Y];exact⟨U,adp _,adp _,λ_ _ _=>⟨.addr q,k,g,λ_ _=>e.one n⟩⟩
     cases hm;have H:=h;obtain⟨S,F,hc,-⟩:=h;obtain⟨s,z,v,u,Q,l3,m,l,rfl,-⟩:=c S F hc;refine⟨z,w,m,H.D9 hd l R C λK O L T M i k1 k2 k3 D1 hS=>?_⟩;obtain⟨q,z2,F2,k,g,e,b,-⟩:=c K O i;rw[m]at b;simp[Result.ok.injEq,and_true]at b;subst b;rw[k]at k1;cases k1;have:T=z:=by
      rcases kW f e with⟨h1,cs,rfl,h2⟩|⟨h1,h2⟩
      ·rcases kW f k3 with⟨J,B0,rfl,h4⟩|⟨J,-⟩
       ·congr 1
        obtain⟨-,c1,f1,r1,q1⟩:=g;obtain⟨-,c2,f2,r2,q2⟩:=k2;rw[r1]at r2;cases r2;apply ahU;intro j;by_cases hj:j<cs.size
        ·have e1:=q1 j cs[j] (by simp[bu,hj]);have e2:=q2 j B0[j] (by simp[bu])
         grind
        simp_all
       simp_all
      rcases kW f k3 with⟨J,-⟩|⟨J,h4⟩
      ·rw[h1]at J;cases J
      have e1:=At.cell g<|cD h2;have e2:=At.cell k2<|cD h4;simp_all
     rw[<-this];exact hS
    cases hm
   cases hm
  cases hm
 cases hm
def aaf(q:Path)(k:AV->Option AV)(b:∀x,bp x q=k x):∀(p:Path)(x:AV),bp x (p++q)=(bp x p).bind k
 |[],x=>b x
 |s::p,x=>by
  simp;unfold bp;split
  ·split
   ·rename_i xs i e _;cases xs[i]?with
    |none=>rfl
    |some c=>simp;exact aaf q k b p c
   rfl
  ·exact aaf q k b p _
  ·rename_i xs o;cases xs[o]?with
   |none=>rfl
   |some c=>simp;exact aaf q k b p c
  ·split
   ·exact aaf q k b p _
   rfl
  ·rename_i xs i;cases xs[i]?with
   |none=>rfl
   |some c=>simp;exact aaf q k b p c
  ·split
   ·exact aaf q k b p _
   rfl
  rfl
def zK(p q:Path)(x:AV):bp x (p++q)=(bp x p).bind (bp · q):=aaf q _ (λ_=>rfl) p x
def OY{s:Step}{n:Option Nat}(h:flat (s::p)=false):flat ((s::p)++[.at o n])=false:=by simp only[flat,agx,List.all_append]at h⊢;rw[h];rfl
def VT{av:AV}{ti:TI}(b:flat (p++[ix ti o])=false->∃y,bp av (p++[ix ti o])=some y)(f:flat p=false):∃y,bp av p=some y:=by
 cases p with
 |nil=>exact⟨_,W⟩
 |cons s p=>
  obtain⟨y,c⟩:=b<|OY f;rw[zK]at c;cases e:bp av (s::p)with
  |none=>simp_all
  |some g=>simp_all
def Au{f:Nat}(h:Inv N V w0 S0 σ a w)(J:d<N)(x:Operand)(b:aJ x=true){l:List Mv}
 (hm:jZ P d t (resolve σ x) f=some l)(D:Mv.runs σ l=some σ'):Good N V w0 S0 σ' a d ((Instr.fieldAt t (a.eval x) f).run P w):=by
 unfold jZ at hm;split at hm
 ·rename_i o O g;split at hm
  ·rename_i ti n;split at hm
   ·rename_i r g1 g2 p av C;split at hm
    ·cases hm
    rename_i s;split at hm
    ·cases hm
    rename_i q;have u:l=[.put d<|.ptr r g1 g2<|p++[ix ti o]]/\(flat (p++[ix ti o])=false->∃y,bp av (p++[ix ti o])=some y):=by grind
    obtain⟨rfl,v⟩:=u;simp[Mv.cg]at D;subst D;have K:=h;obtain⟨S,F,hc,-⟩:=h;have j:=VT v;obtain⟨-,-,-,-,k⟩:=j6 hc x b C;obtain⟨H,M,A⟩:=k j;have i:(Instr.fieldAt t (a.eval x) f).run P w=.ok (.pointer<|some<|H.add o) w:=by
     unfold tq at g;split at g
     ·rename_i Q hu;split at g
      ·rename_i fl b;cases g;simp[Instr.fieldAt,run_underlying hu,b,A,Instr.sureAddr,fieldPlace,dJ n,q]
      cases g
     cases g
    refine⟨_,w,i,K.put J λY Z z=>?_⟩;obtain⟨X,T,R,-,e⟩:=j6 z x b C;obtain⟨L,m,c⟩:=e j;rw[A]at c;simp[ada]at c;subst c;unfold an;simp only[aH,b6 _ _ s];refine⟨U,E,E,⟨_,W⟩,λ_ _ _=>⟨H.add o,?_,W⟩⟩;rw[iq,m];rfl
   cases hm
  cases hm
 cases hm
def jb(h:aT S B σ (tv V a) w F)(x:Operand)(C:aJ x=true){g1 g2:Nat}(hc:(resolve σ x).cont=some y)(c:(resolve σ x).place=some (r,g1,g2,p)):
 bp (σ r).av p=some y/\(σ r).g1=g1/\(NP p=true\/(σ r).g2=g2)/\g1<=(σ r).g1/\g2<=(σ r).g2/\(σ r).av.plain=true/\∃L,loc w (.val<|tv V a r) p=some L/\holds w L (a.eval x)/\(∀Z,L=.addr Z->(a.eval x).oneCell'=true):=by
 cases x with
 |const v=>
  simp[resolve,bY.place]at c;have D:=dN v;split at c
  ·rename_i e;rw[e]at D;simp[AV.plain]at D
  ·cases c
  cases c
 |func f=>simp[resolve,bY.place]at c
 |global g=>simp[resolve,Sl.none,bY.place]at c
 |tmp t=>
  rw[iE V a<|fN C];cases b:(σ t).av with
  |bC z l k A=>
   have n:r=z/\g1=l/\g2=k/\p=A:=by simp[resolve,bY.of,b,bY.place,ada,ae0]at c;simp_all
   obtain⟨rfl,rfl,rfl,rfl⟩:=n;obtain⟨k1,k2,k3⟩:=CS b hc;have m:=h.rel t;unfold an at m;rw[b]at m;obtain⟨-,Y,X,R⟩:=m;simp only[resolve,bY.of,b,bY.cont]at hc;split at hc
   ·rename_i u;split at hc
    ·rename_i s;obtain⟨L,O,M,K⟩:=R u (Fu s) λ_=>by
      simp_all
     refine⟨k1,u,s,Y,X,?_,L,O,M,K⟩;by_cases j:p=[]
     ·subst j;simp[bp,ada]at k1;rw[k1];exact k3
     exact k2 j
    cases hc
   cases hc
  |ptr z l k A=>simp[resolve,bY.of,b,bY.place]at c
  |abs J=>simp[resolve,bY.of,b,bY.place,Sl.none]at c
  |fS g H=>simp[resolve,bY.of,b,bY.cont]at hc
  |_=>
   all_goals
    have i:(σ t).av.plain=true:=by rw[b];rfl
    have q:(resolve σ<|.tmp t)=⟨some t,σ t,.none⟩:=by simp[resolve,bY.of,b]
    obtain⟨F1,u,s,T,e4⟩:=aQ h (.tmp t) C hc;have Q:y=(σ t).av:=(T t W i).2;rw[q]at c;simp[bY.place,b,ada,ae0]at c;obtain⟨rfl,rfl,rfl,rfl⟩:=c;exact⟨by rw[Q];rfl,W,.inl W,adp _,adp _,i,.val _,W,W,I⟩
end
end
section
variable{P:Program}{N:Nat}{w0 w:World}{V:Hid}{S S0:Nat->Prop}{B:Nat->Prop}{σ σ':St}{a:Act}{F:Nat->List Nat}
section
variable{y:AV}{F1:List Nat}{d o t:Nat}{z:Value}
def dt(h:aT S B σ (tv V a) w F)(x:Operand)(c:aJ x=true){v:Value}(hc:(resolve σ x).cont=some (.v v)):a.eval x=v:=by obtain⟨F1,b,-⟩:=aQ h x c hc;simp[Rel]at b;exact b.2.1
def eH{r:Result Value}(h:Inv N V w0 S0 σ a w)(f:d<N)(e:Mv.runs σ [.put d y]=some σ')
 (b:r=.ok z w)(c:∀S F,aT S (cQ V w0) σ (tv V a) w F->Rel w S y z []):Good N V w0 S0 σ' a d r:=by
 simp[Mv.cg]at e;subst e;exact⟨z,w,b,h.iS f c⟩
def Rel.jX{f:Fl}{sz:Nat}{xs:List AV}(h:Rel w S (.list f sz xs) z F1):
 ∃c cap,z=.slice c xs.length cap/\xs.length<=cap/\(f=.nil->c=none/\xs=[]/\cap=0)/\(f≠.nil->xs≠[]->∃b off,c=some ⟨b,off,none⟩)/\(c=none->xs=[]/\cap=0):=by
 cases f with
 |nil=>simp[Rel]at h;grind
 |shr=>simp only[Rel]at h;grind
 |own=>simp only[Rel]at h;grind
def Hp:∀(p:Path){q:Path}{sz o n:Nat},DX p=some (q,sz,o,n)->p=q++[.lZ sz o n]
 |[],_,_,_,_,h=>by simp[DX]at h
 |s::p,q,sz,o,n,h=>by
  unfold DX at h;split at h
  ·grind
  split at h
  ·rename_i c u b;cases h;rw[Hp _ b];rfl
  cases h
def DV(h:aT S B σ (tv V a) w F)(x:Operand)(hx:aJ x=true){r g1 g2 sz n:Nat}{q:Path}(c:(resolve σ x).lZ=some (r,g1,g2,q,sz,o,n)):
 ∃f xs b off cap len L,bp (σ r).av q=some (.list f sz xs)/\o+n<=xs.length/\0<n/\g1=(σ r).g1/\g2=(σ r).g2/\loc w (.val<|tv V a r) q=some L/\holds w L (.slice (some ⟨b,off,none⟩) len cap)/\
  a.eval x=.slice (some ⟨b,off+o*sz,none⟩) n (cap-o):=by
 cases x with
 |const v=>
  have Y:=dN v;simp[resolve,bY.lZ]at c;split at c
  ·rename_i hv;rw[hv]at Y;simp[AV.plain]at Y
  cases c
 |func f=>simp[resolve,bY.lZ]at c
 |global g=>simp[resolve,bY.lZ,Sl.none]at c
 |tmp t=>
  rw[iE V a<|fN hx];unfold bY.lZ at c;split at c
  ·rename_i l J H p j;have j:(σ t).av=.bC l J H p:=by
    revert j;simp[resolve,bY.of];split<;>first|exact id|(intro h;simp[Sl.none]at h)
   split at c
   ·rename_i K B0 o' n' hu;simp only[resolve,bY.of,j]at c;split at c<;>try(cases c;done)
    rename_i Z;split at c<;>try(cases c;done)
    rename_i e2;split at c<;>try(cases c;done)
    rename_i f A0 xs i;split at c<;>try(cases c;done)
    rename_i k;obtain⟨rfl,k1,k2⟩:=k;simp[ada,ae0]at c;obtain⟨rfl,rfl,rfl,rfl,rfl,rfl,rfl⟩:=c;have R:=Hp _ hu;have u:=h.rel t;unfold an at u;rw[j]at u;simp only at u;obtain⟨-,-,-,h4⟩:=u;obtain⟨L,O,M,-⟩:=h4 Z e2 λ_=>⟨.dead,by rw[R,zK,i];simp[bp,k1,k2]⟩;rw[R,iq]at O;obtain⟨Lq,m1,s⟩:=ads.1 O;have C:(σ l).av.plain=true:=by cases hh:(σ l).av<;>simp[AV.plain]<;>(rw[hh]at i;cases K<;>simp[bp]at i)
    have m:=h.rel l;rw[an.aA C]at m;obtain⟨L1,z1,F1,r1,A,r3,r4,r5⟩:=Rel.read K (L:=.val<|tv V a l) m W i;rw[m1]at r1;cases r1;obtain⟨ad,cap,Q,X,T,D⟩:=r3.jX;have hf:f≠.nil:=λe=>by simp_all
    obtain⟨b,off,rfl⟩:=D.1 hf λe=>eW;refine⟨f,xs,b,off,cap,xs.length,Lq,i,k2,k1,Z.symm,W,m1,by rw[<-Q];exact A,?_⟩;simp[loc]at s;rw[Q]at A;rw[cN A W I]at s;simp[cm,afp,ada]at s;subst s;simp[holds]at M;rw[M,cj W]
   cases c
  cases c
def As(h:Inv N V w0 S0 σ a w)(hd:d<N)(x i:Operand)(l:aJ x=true)(J:aJ i=true){ms:List Mv}
 (hm:aab P d t (resolve σ x) (resolve σ i)=some ms)(M:Mv.runs σ ms=some σ'):Good N V w0 S0 σ' a d ((Instr.indexAt t (a.eval x)<|a.eval i).run P w):=by
 unfold aab at hm;split at hm
 ·rename_i k n hi;split at hm
  ·rename_i e hu;split at hm
   ·rename_i ti D;split at hm
    ·rename_i r g1 g2 q sz o m Q;split at hm
     ·rename_i c;obtain⟨rfl,v,u⟩:=c;split at hm
      ·cases hm
      rename_i s;cases hm;simp only[Mv.cg,ada]at M;subst M;have X:=h;obtain⟨S,F,hc,-⟩:=h;have A:=dt hc i J hi;obtain⟨f,xs,b,j,A0,len,L,z1,z2,z3,z4,z5,z6,z7,z8⟩:=DV hc x l Q;have g:(Instr.indexAt t (a.eval x)<|a.eval i).run P w=.ok (.pointer<|some<|(⟨b,j,none⟩:Addr).add<|(o+n.toNat)*ti.size) w:=by
       rw[z8,A];have:(⟨b,j+o*ti.size,none⟩:Addr).add (n.toNat*ti.size)=(⟨b,j,none⟩:Addr).add ((o+n.toNat)*ti.size):=by rw[cj W,cj W,ae9];grind
       rw[<-this];simp[Instr.indexAt,asIntOf,run_underlying hu,v,u,dJ D]
      refine⟨_,w,g,X.put hd λS' F' C=>?_⟩;obtain⟨f',F0,b',B0,E2,D1,L',y1,y2,y3,y4,y5,y6,y7,y8⟩:=DV C x l Q;rw[y6]at z6;cases z6;unfold an;simp only[aH,b6 _ _ s];refine⟨U,E,E,⟨_,W⟩,λ_ _ _=>⟨(⟨b,j,none⟩:Addr).add<|(o+n.toNat)*ti.size,?_,W⟩⟩;rw[iq,y6];simp only[afp,loc];rw[cN z7 W I];rfl
     cases hm
    split at hm
    ·rename_i f sz xs O;split at hm
     ·rename_i c;obtain⟨rfl,v,u⟩:=c;split at hm
      ·rename_i r g1 g2 p hp;split at hm
       ·cases hm
       rename_i s;cases hm;simp only[Mv.cg,ada]at M;subst M;have X:=h;obtain⟨S,F,hc,-⟩:=h;have A:=dt hc i J hi;obtain⟨F1,e1,-⟩:=aQ hc x l O;obtain⟨ad,A0,hz,E1,D2,Z⟩:=e1.jX;have hf:f≠.nil:=λe=>by grind
       obtain⟨b,j,rfl⟩:=Z.1 hf (λe=>by grind);have g:(Instr.indexAt t (a.eval x)<|a.eval i).run P w=.ok (.pointer<|some<|(⟨b,j,none⟩:Addr).add<|n.toNat*ti.size) w:=by rw[hz,A];simp[Instr.indexAt,asIntOf,run_underlying hu,v,u,dJ D]
       refine⟨_,w,g,X.put hd λS' F' C=>?_⟩;obtain⟨q1,q2,q3,q4,q5,q6,L,q7,q8,q9⟩:=jb C x l O hp;unfold an;simp only[aH,b6 _ _ s];refine⟨U,q4,q5,⟨_,W⟩,λ_ _ _=>⟨(⟨b,j,none⟩:Addr).add<|n.toNat*ti.size,?_,W⟩⟩;rw[iq,q7];simp only[afp,loc];rw[hz]at q8;rw[cN q8 W I];rfl
      cases hm
     cases hm
    cases hm
   cases hm
  ·rename_i len e hu;split at hm
   ·rename_i ti D;split at hm
    ·rename_i r g1 g2 p av O;split at hm
     ·rename_i c;obtain⟨v,u,s⟩:=c;split at hm
      ·rename_i y hy;cases hm;simp only[Mv.cg,ada]at M;subst M;have X:=h;obtain⟨S,F,hc,-⟩:=h;have A:=dt hc i J hi;have R:flat p=false->∃y,bp av p=some y:=VT λ_=>⟨y,hy⟩;obtain⟨-,-,-,-,T⟩:=j6 hc x l O;obtain⟨ad,l1,l2⟩:=T R;have g:(Instr.indexAt t (a.eval x)<|a.eval i).run P w=.ok (.pointer<|some<|ad.add<|n.toNat*ti.size) w:=by
        rw[l2,A];simp[Instr.indexAt,asIntOf,run_underlying hu,v,u,Instr.sureAddr,dJ D]
       refine⟨_,w,g,X.put hd λS' F' C=>?_⟩;obtain⟨e1,e2,e3,-,K⟩:=j6 C x l O;obtain⟨F2,Y,H⟩:=K R;rw[l2]at H;simp only[Value.pointer.injEq,ada]at H;subst H;unfold an;simp only[aH,b6 _ _ s];refine⟨U,E,E,⟨_,W⟩,λ_ _ _=>⟨ad.add<|n.toNat*ti.size,?_,W⟩⟩;rw[iq,Y];rfl
      simp at hm
     simp at hm
    simp at hm
   simp at hm
  simp at hm
 simp at hm
def Dy{i:Nat}(h:Inv N V w0 S0 σ a w)(Q:d<N)(x:Operand)(l:aJ x=true){M:List Mv}
 (hm:nZ d (resolve σ x) i=some M)(u:Mv.runs σ M=some σ'):Good N V w0 S0 σ' a d ((Instr.extract (a.eval x) i).run P w):=by
 unfold nZ at hm;split at hm
 ·rename_i xs O;split at hm
  ·rename_i y hy;have b:∀S F,aT S (cQ V w0) σ (tv V a) w F->∃z F1 k,a.eval x=.tuple k/\k[i]?=some z/\Rel w S y z F1/\(Instr.extract (a.eval x) i).run P w=.ok z w:=by
    intro S F hc;obtain⟨F1,e1,-⟩:=aQ hc x l O;obtain⟨k,n,hC⟩:=e1;obtain⟨H,A,Fx,B',-,-,hR,hl,-⟩:=Cells.lens i hC hy;have m:k[i]?=some H:=by simpa using hl
    exact⟨H,Fx,k,n,m,hR,by rw[n];simp[Instr.extract,m]⟩
   split at hm
   ·rename_i C;cases hm;have D:=h;obtain⟨S,F,hc,-⟩:=h;obtain⟨z,F1,k,T,R,h3,q⟩:=b S F hc;refine eH D Q u q λX Y f=>?_;obtain⟨z',D2,D1,B0,A0,j,g⟩:=b X Y f;rw[q]at g;simp at g;subst g;rw[Rel.aG _ j C]at j;exact j
   split at hm
   ·rename_i r g1 g2 p hp;split at hm
    ·cases hm
    rename_i c;have s:=λe=>c<|.inl e;have v:=Classical.byContradiction λe=>c<|.inr e;subst v;cases hm;simp[Mv.cg]at u;subst u;have D:=h;obtain⟨S,F,hc,-⟩:=h;obtain⟨z,F1,k,T,R,h3,q⟩:=b S F hc;refine⟨z,w,q,D.put Q λX Y f=>?_⟩;obtain⟨q1,q2,q3,q4,Z,q6,L,K,J,q9⟩:=jb f x l O hp;unfold an;simp only[aH,b6 _ _ s];simp[loc]at K;subst K;simp[holds]at J;refine⟨U,q4,Z,λ_ _ _=>⟨.val z,?_,W,I⟩⟩;simp[loc,step1,<-J,T,cm,R]
   cases hm
  cases hm
 cases hm
def EO{av:AV}{ti:TI}{g:Nat}(c:cu P g=some ti)(j:Rel w S av z F1)(f:bp av [ix ti o]=some y)(e:y.aG=true):
 ∃cs v,z=.agg cs/\(part g cs o).run P w=.ok v w/\Rel w S y v []:=by
 have:=Rel.read [ix ti o] (L:=.val z) j W f;obtain⟨L1,h,k,k1,k2,k3,-⟩:=this;rw[Rel.aG _ k3 e]at k3;unfold ix at k1;cases b:ti.agg with
 |false=>simp[b]at k1 f;simp[loc,step1]at k1;cases z<;>simp[cm]at k1;rename_i cs;obtain⟨v,i,rfl⟩:=k1;simp[holds]at k2;subst k2;exact⟨cs,h,W,by simp[part,xF c,b,i],k3⟩
 |true=>simp[b]at k1 f;simp[loc,step1]at k1;cases z<;>simp[cm]at k1;rename_i cs;subst k1;simp[holds]at k2;subst k2;exact⟨cs,_,W,by simp[part,xF c,b,dJ c],k3⟩
def Jh{f:Nat}(h:Inv N V w0 S0 σ a w)(s:d<N)(x:Operand)(e:aJ x=true){k:List Mv}
 (hm:ye P d t (resolve σ x) f=some k)(q:Mv.runs σ k=some σ'):Good N V w0 S0 σ' a d ((Instr.field t (a.eval x) f).run P w):=by
 unfold ye at hm;split at hm
 ·rename_i o H b;split at hm
  ·rename_i ti g;split at hm
   ·rename_i av n;split at hm
    ·rename_i y m;split at hm
     ·rename_i i;cases hm;have c:∀S F,aT S (cQ V w0) σ (tv V a) w F->∃v,(Instr.field t (a.eval x) f).run P w=.ok v w/\Rel w S y v []:=by
       intro S F hc;obtain⟨F1,D,-⟩:=aQ hc x e n;obtain⟨K,v,l,r,p⟩:=EO g D m i;refine⟨v,?_,p⟩;unfold tq at b;split at b
       ·rename_i J hu;split at b
        ·rename_i fl j;cases b;simp[Instr.field,run_underlying hu,j,l,asAgg,r]
        cases b
       cases b
      have A:=h;obtain⟨S,F,hc,-⟩:=h;obtain⟨v,C,-⟩:=c S F hc;refine eH A s q C λL M u=>?_
      grind
     cases hm
    cases hm
   cases hm
  cases hm
 cases hm
def IQ(h:Inv N V w0 S0 σ a w)(C:d<N)(x i:Operand)(c:aJ x=true)(j:aJ i=true){u:List Mv}
 (hm:uV P d t (resolve σ x) (resolve σ i)=some u)(A:Mv.runs σ u=some σ'):Good N V w0 S0 σ' a d ((Instr.index t (a.eval x)<|a.eval i).run P w):=by
 unfold uV at hm;split at hm
 ·rename_i k n hi;split at hm
  ·rename_i hu;split at hm
   ·rename_i s m;split at hm
    ·rename_i hn;split at hm
     ·rename_i b L;cases hm;have r:=h;obtain⟨S,F,hc,-⟩:=h;have l:=dt hc i j hi;have M:=dt hc x c m;refine eH (z:=.int .u8 b.toNat) r C A ?_ λQ R q=>by simp[Rel,scalar]
      rw[l,M];simp[Instr.index,asIntOf,run_underlying hu,hn,L]
     cases hm
    cases hm
   cases hm
  ·rename_i len e hu;split at hm
   ·rename_i ti f;split at hm
    ·rename_i av m;split at hm
     ·rename_i hn;split at hm
      ·rename_i y H;split at hm
       ·rename_i p;cases hm;have g:∀S F,aT S (cQ V w0) σ (tv V a) w F->∃v,(Instr.index t (a.eval x)<|a.eval i).run P w=.ok v w/\Rel w S y v []:=by
         intro S F hc;have l:=dt hc i j hi;obtain⟨F1,O,-⟩:=aQ hc x c m;obtain⟨T,v,D,K,J⟩:=EO f O H p;exact⟨v,by rw[l,D];simp[Instr.index,asIntOf,run_underlying hu,hn.1,hn.2,dJ f,K],J⟩
        have r:=h;obtain⟨S,F,hc,-⟩:=h;obtain⟨v,l,-⟩:=g S F hc;refine eH r C A l λQ R q=>?_
        grind
       cases hm
      cases hm
     cases hm
    cases hm
   cases hm
  cases hm
 cases hm
def LG{s:Nat}(h:Inv N V w0 S0 σ a w)(p:d<N)(x:Operand)(b:aJ x=true){l:List Mv}
 (hm:CR P d s t (resolve σ x)=some l)(m:Mv.runs σ l=some σ'):Good N V w0 S0 σ' a d ((convert s t<|a.eval x).run P w):=by
 unfold CR at hm;split at hm
 ·rename_i u k A n j i g;simp only[ada]at hm;subst hm;have e:=h;obtain⟨S,F,hc,-⟩:=h;have f:=dt hc x b g;refine eH (z:=.int k<|k.wrap n) e p m ?_ λr v c=>by simp[Rel,scalar]
  rw[f];cases u<;>simp[convert,run_underlying j,run_underlying i,Conv.intToInt]
 ·rename_i q j i g;simp only[ada]at hm;subst hm;have e:=h;obtain⟨S,F,hc,-⟩:=h;have f:=dt hc x b g;refine eH (z:=.string q) e p m ?_ λr v c=>by simp[Rel,scalar]
  rw[f];simp[convert,run_underlying j,run_underlying i]
 simp at hm
end
end
section
variable{P:Program}{N:Nat}{w0 w:World}{V:Hid}{S S0:Nat->Prop}{B:Nat->Prop}{σ σ':St}{a:Act}{F:Nat->List Nat}
def iY{t e:TypeId}(h:dC P t=some e):P.underlying t=some (.slice e):=by
 unfold dC at h
 grind
def eQ(h:aT S B σ (tv V a) w F)(x:Option Operand)(d:∀o,x=some o->aJ o=true){b l y:Nat}{code:BoundsCode}(hi:mZ (x.map<|resolve σ) b=some l)(f:l<=y):
 match x with
 |none=>l=b
 |some o=>∃k,(Instr.sliceBound (a.eval o) y code).run P w=.ok l w/\a.eval o=.int k l:=by
 cases x with
 |none=>simp[mZ]at hi;exact hi.symm
 |some o=>
  simp[mZ]at hi;split at hi
  ·rename_i k n hc;split at hi
   ·rename_i hn;cases hi;have c:=dt h o (d o W) hc;have e:=ahv hn;refine⟨k,?_,by rw[c,e]⟩;rw[c];have:n<=(y:Int):=E;simp[Instr.sliceBound,asIntOf,hn,this]
   cases hi
  cases hi
def jU(h:aT S B σ (tv V a) w F)(sl:Bool){len cap:Nat}(lo hi r:Option Operand)(f:∀o,lo=some o->aJ o=true)(c:∀o,hi=some o->aJ o=true)(d:∀o,r=some o->aJ o=true)
 {l q m:Nat}(e:mZ (lo.map<|resolve σ) 0=some l)(g:mZ (hi.map<|resolve σ) len=some q)(p:mZ (r.map<|resolve σ) cap=some m)(hl:l<=q)(hm:q<=m)(hc:m<=cap)(hh:r=none\/hi.isSome):
 (Instr.sliceBounds sl len cap (lo.map a.eval) (hi.map a.eval)<|r.map a.eval).run P w=.ok (l,q,m) w:=by
 cases r with
 |none=>
  simp[mZ]at p;subst p;cases hi with
  |none=>
   simp[mZ]at g;subst g;cases lo with
   |none=>simp[mZ]at e;subst e;rfl
   |some o=>obtain⟨k,j,-⟩:=eQ (P:=P) h (some o) f (y:=len) (code:=.sliceB) e hl;simp[Instr.sliceBounds,j]
  |some n=>
   cases lo with
   |none=>
    simp[mZ]at e;subst e;cases sl
    ·obtain⟨k,b,-⟩:=eQ (P:=P) h (some n) c (y:=cap) (code:=.sliceAlen) g E;simp[Instr.sliceBounds,b]
    obtain⟨k,b,-⟩:=eQ (P:=P) h (some n) c (y:=cap) (code:=.sliceAcap) g E;simp[Instr.sliceBounds,b]
   |some o=>
    obtain⟨k,j,-⟩:=eQ (P:=P) h (some o) f (y:=q) (code:=.sliceB) e hl;cases sl
    ·obtain⟨k,b,-⟩:=eQ (P:=P) h (some n) c (y:=cap) (code:=.sliceAlen) g E;simp[Instr.sliceBounds,j,b]
    obtain⟨k,b,-⟩:=eQ (P:=P) h (some n) c (y:=cap) (code:=.sliceAcap) g E;simp[Instr.sliceBounds,j,b]
 |some o3=>
  rcases hh with hh|hh
  ·cases hh
  cases hi with
  |none=>cases hh
  |some n=>
   obtain⟨k,b,-⟩:=eQ (P:=P) h (some n) c (y:=m) (code:=.slice3B) g E;cases lo with
   |none=>
    simp[mZ]at e;subst e;cases sl
    ·obtain⟨k,i,-⟩:=eQ (P:=P) h (some o3) d (y:=cap) (code:=.slice3Alen) p hc;simp[Instr.sliceBounds,b,i]
    obtain⟨k,i,-⟩:=eQ (P:=P) h (some o3) d (y:=cap) (code:=.slice3Acap) p hc;simp[Instr.sliceBounds,b,i]
   |some o=>
    obtain⟨k,j,-⟩:=eQ (P:=P) h (some o) f (y:=q) (code:=.slice3C) e hl;cases sl
    ·obtain⟨k,i,-⟩:=eQ (P:=P) h (some o3) d (y:=cap) (code:=.slice3Alen) p hc;simp[Instr.sliceBounds,j,b,i]
    obtain⟨k,i,-⟩:=eQ (P:=P) h (some o3) d (y:=cap) (code:=.slice3Acap) p hc;simp[Instr.sliceBounds,j,b,i]
def c7.sub(sz:Nat){xs:List AV}{l:List Value}(i n:Nat)(h:c7 w S sz xs l [])(b:i+n<=xs.length):c7 w S sz ((xs.drop i).take n) ((l.drop<|i*sz).take<|n*sz) []:=by
 obtain⟨k,j,e,m,c⟩:=c7.split sz i h;have:k=[]/\j=[]:=by simpa using e.symm
 obtain⟨rfl,rfl⟩:=this;obtain⟨g,f,d,k1,k2⟩:=c7.split sz n c;have:g=[]/\f=[]:=by simpa using d.symm
 grind
def Mh{sz:Nat}{xs:List AV}{i:Option Addr}{cap l h m:Nat}(j:Rel w S (.list .shr sz xs) (.slice i xs.length cap) [])(r:l<=h)(s:h<=m)(hm:m<=cap)(hh:h<=xs.length):
 Rel w S (.list .shr sz<|(xs.drop l).take<|h-l) (.slice (if m=l then i else i.map (·.add (l*sz))) (h-l)<|m-l) []:=by
 simp only[Rel]at j⊢;rcases j with⟨rfl,⟨u,e⟩,-⟩|⟨b,f,q,p,o,e,n,c,k,t,-⟩
 ·simp_all
 right;obtain⟨rfl,-,rfl⟩:=e;have d:((xs.drop l).take<|h-l).length=h-l:=by simp;omega
 by_cases g:m=l
 ·have:h=l:=E;subst this;subst g;refine⟨b,f,0,p,o,I,n,c,I,by simp[c7],U⟩
 refine⟨b,f+l*sz,m-l,p,o,by rw[d];simp[g,cj],n,c,E,?_,U⟩;rw[d];have:=c7.sub sz l (h-l) t E;rw[List.drop_take,agk,ahX]at this;have v:min ((h-l)*sz) (xs.length*sz-l*sz)=(h-l)*sz:=by rw[<-Nat.sub_mul];simp_all
 simp_all
def HI{d t:Nat}(h:Inv N V w0 S0 σ a w)(Y:d<N)(x:Operand)(lo hi k:Option Operand)(c:aJ x=true)(K:∀o,lo=some o->aJ o=true)(O:∀o,hi=some o->aJ o=true)
 (B0:∀o,k=some o->aJ o=true)(D2:k=none\/hi.isSome){ms:List Mv}
 (hm:qh P d t (resolve σ x) (lo.map<|resolve σ) (hi.map<|resolve σ) (k.map<|resolve σ)=some ms)(X:Mv.runs σ ms=some σ'):
 Good N V w0 S0 σ' a d ((Instr.sliceAt t (a.eval x) (lo.map a.eval) (hi.map a.eval)<|k.map a.eval).run P w):=by
 unfold qh at hm;split at hm
 ·rename_i hu;split at hm
  ·rename_i s u;cases k with
   |some o=>cases hm
   |none=>
    simp[Option.map_none]at hm⊢;split at hm
    ·rename_i l C h1 h2;split at hm
     ·rename_i hc;cases hm;have R:=h;obtain⟨S,F,b,-⟩:=h;have hv:=dt b x c u;refine eH (z:=.string<|s.extract l C) R Y X ?_ λS' F' g=>by simp[Rel,scalar]
      have Z:=jU (P:=P) b false (len:=s.size) (cap:=s.size) lo hi none K O I h1 h2 W hc.1 hc.2 (adp _)<|.inl W;rw[hv];simp[Option.map_none]at Z;simp[Instr.sliceAt,run_underlying hu,Instr.slice,Z]
     cases hm
    cases hm
  cases hm
 ·rename_i e hu;split at hm
  ·rename_i ti A0;split at hm
   ·rename_i f sz T u;split at hm
    ·rename_i l C h1 h2;split at hm
     ·rename_i m h3;split at hm
      ·rename_i hc;obtain⟨y,F0,Q⟩:=hc;have J:∀S F H cap,aT S (cQ V w0) σ (tv V a) w F->a.eval x=.slice H T.length cap->T.length<=cap->∃i,i<=cap/\C<=i/\
        (Instr.sliceAt t (a.eval x) (lo.map a.eval) (hi.map a.eval)<|k.map a.eval).run P w=.ok (.slice (if i=l then H else H.map (·.add (l*ti.size))) (C-l)<|i-l) w:=by
        intro S F H cap b A n;have D1:∃i,mZ (k.map<|resolve σ) cap=some i/\C<=i/\i<=cap:=by
         cases k with
         |none=>exact⟨cap,W,E,adp _⟩
         |some o=>
          have:mZ (Option.map (resolve σ)<|some o) cap=some m:=by simp[ahw,mZ]at h3⊢;exact h3
          grind
        obtain⟨i,e1,j,D⟩:=D1;have Z:=jU (P:=P) b true (len:=T.length) (cap:=cap) lo hi k K O B0 h1 h2 e1 y j D D2;refine⟨i,D,j,?_⟩;rw[A];simp[Instr.sliceAt,run_underlying hu,Instr.slice,Z,dJ A0]
       have R:=h;obtain⟨S,F,b,-⟩:=h;obtain⟨F1,e1,-⟩:=aQ b x c u;obtain⟨H,cap,A,n,-⟩:=e1.jX;obtain⟨i,q1,q2,q3⟩:=J S F H cap b A n;split at hm
       ·cases hm;refine eH R Y X q3 λS' F' g=>?_;obtain⟨F2,j,-⟩:=aQ g x c u;simp only[Rel]at j;obtain⟨rfl,D,-⟩:=j;rw[A]at D;simp only[Value.slice.injEq]at D;obtain⟨rfl,-,rfl⟩:=D;simp only[aeg]at Q;have:l=0/\C=0/\i=0:=E;obtain⟨rfl,rfl,rfl⟩:=this;simp[Rel]
       ·split at hm
        ·rename_i v;subst v;cases hm;refine eH R Y X q3 λS' F' g=>?_;obtain⟨F2,j,-⟩:=aQ g x c u;rw[A,Rel.aG _ j W]at j;exact Mh j y q2 q1 E
        cases hm
       split at hm
       ·rename_i v;subst v;split at hm
        ·rename_i r g1 g2 p hp;split at hm
         ·cases hm
         rename_i E2;cases hm;obtain⟨p1,-,-,-,-,p6,-⟩:=jb b x c u hp;refine⟨_,w,q3,R.D9 Y p6 p1 X λS' F' L z F4 g k1 k2 k3 F3 hS=>?_⟩;obtain⟨-,-,-,-,-,-,L',l1,l2,l3⟩:=jb g x c u hp;rw[k1]at l1;cases l1;have:z=a.eval x:=by
          cases L with
          |val q=>simp only[holds]at k2 l2;rw[k2,l2]
          |addr E1=>have e1:=At.cell k2<|cD<|k3.one W;have j:=At.cell l2<|cD<|l3 E1 W;simp_all
         rw[this,A]at hS;simp only[AV.b9]at hS;have M:=jD T;rw[<-M]at hS Q;exact Mh hS y q2 q1 E
        cases hm
       cases hm
      cases hm
     cases hm
    cases hm
   cases hm
  cases hm
 cases hm
end
section
variable{P:Program}{N:Nat}{w0 w:World}{V:Hid}{S S0:Nat->Prop}{B:Nat->Prop}{σ σ':St}{a:Act}{F:Nat->List Nat}
def IY{b:Nat}{cs:Array Value}{c:Nat×Nat}(h:row? w b=some (cs,c)):∃e,w.heap[b]?=some (.cells cs e c):=by
 unfold row? at h
 grind
def zf{b:Nat}{cs:Array Value}{e:TypeId}{c:Nat×Nat}(h:w.heap[b]?=some (.cells cs e c)):row? w b=some (cs,c):=by unfold row?;rw[h]
def Rel.K4{f:Fl}{sz:Nat}{xs:List AV}{z:Value}{g:List Nat}(h:Rel w S (.list f sz xs) z g):
 ∃l F',c7 w S sz xs l F'/\(∀b∈F',b∈g)/\(g.Nodup->F'.Nodup)/\(((∃c,z=.slice c 0 0)/\xs=[]/\l=[])\/
  ∃c cap,z=.slice (some c) xs.length cap/\c.spot=none/\∀j u,l[j]?=some u->w.cell? (c.add j)=some u):=by
 cases f with
 |nil=>simp[Rel]at h;obtain⟨rfl,rfl,rfl⟩:=h;exact⟨[],[],by simp[c7],I,I,.inl ⟨⟨_,W⟩,W,W⟩⟩
 |shr=>
  rcases h with⟨rfl,⟨c,rfl⟩,rfl⟩|⟨b,i,cap,m,o,rfl,n,d,hc,e,rfl⟩
  ·exact⟨[],[],by simp[c7],I,I,.inl ⟨⟨_,W⟩,W,W⟩⟩
  refine⟨_,[],e,I,I,.inr ⟨_,cap,W,W,λj u hu=>?_⟩⟩;rw[cj W,pS W d]
  grind
 |own=>
  rcases h with⟨rfl,rfl,rfl⟩|⟨b,cap,m,F',rfl,d,hc,hm,hs,e,rfl⟩
  ·exact⟨[],[],by simp[c7],I,I,.inl ⟨⟨_,W⟩,W,W⟩⟩
  refine⟨_,F',e,λb k=>by simp[k],λhn=>(afv.1 hn).2,.inr ⟨_,cap,W,W,λj u hu=>?_⟩⟩;rw[cj W,pS W d]
  grind
def c7.one(sz:Nat){ti:TI}(c:sz=ti.size):∀{xs:List AV}{l:List Value}{f:List Nat},c7 w S sz xs l f->xs.all (fits ti)=true->∀u∈l,u.oneCell'=true
 |[],l,f,h,_=>by simp[c7]at h;simp[h.1]
 |x::xs,l,f,h,b=>by
  simp only[ae6,adD]at b;obtain⟨y,l',q,p,rfl,rfl,m,e,g⟩:=h;intro u hu;rcases afR.1 hu with hu|hu
  ·unfold fits at b;split at b
   ·simp[Rel]at e;obtain⟨o,rfl,hc⟩:=e;rw[bu]at hu;obtain⟨j,k,rfl⟩:=agP hu;have d:j<(‹List AV›).length:=by have:=Cells.length hc;omega
    obtain⟨i,A,r,s,-,n,-,hl,-⟩:=Cells.lens j hc<|aeF d
    grind
   simp at b;have:=e.one b.1.2;rw[cD this]at hu;simp_all
  exact c7.one sz c g b.2 u hu
def c7.aG(sz:Nat):∀{xs:List AV}{l:List Value}{b:List Nat},c7 w S sz xs l b->bU xs=true->b=[]
 |[],l,b,h,_=>by simp[c7]at h;exact h.2
 |x::xs,l,b,h,c=>by simp[bU]at c;obtain⟨y,l',i,g,rfl,rfl,f,e,d⟩:=h;rw[Rel.aG x e c.1,c7.aG sz d c.2];rfl
def xG(t ty e e':TypeId)(i:TypeInfo)(q:P.underlying t=some (.slice e))(hi:P.info? e=some i)
 (g d f:Nat)(h:Array Value)(r:w.heap[g]?=some (.cells h e' (0,0)))
 (p:Addr)(m c:Nat)(b:List Value)(hl:b.length=m*i.size)(l:∀j u,b[j]?=some u->w.cell? (p.add j)=some u)(v:∀u∈b,u.oneCell'=true)
 (k:d+m<=f)(n:d*i.size+b.length<=h.size):
 (Builtin.append_ #[t,t] ty #[.slice (some ⟨g,0,none⟩) d f,.slice (some p) m c]).run P w=
   .ok (.slice (some ⟨g,0,none⟩) (d+m) f) (w.setRow g (h.toList.take (d*i.size)++b++h.toList.drop (d*i.size+b.length)).toArray):=by
 have s:=run_firstCells_some (P:=P) w i.size m p m c b hl l;have o:=run_storeCells_at P g (d*i.size) e' b 0 h w r n v;simp[Builtin.append_,run_underlying q,sizeOf,typeInfo,hi,Builtin.lenOf,k,s,Addr.add_lit,o]
def Ak(z:Array Value)(n:Nat):(Builtin.zeroCells z n).size=n*z.size:=by simp[Builtin.zeroCells]
def pT(w:World)(o:Obj):Below w.heap.size w (w.drew.alloc o):=((Below.refl _ _).drew).alloc I o
def ot{l m z:List Value}{n:Nat}(h:l.length+m.length=n):(l++m++z).take n=l++m:=by grind
def ve{t ty e:TypeId}{ti:TI}{zx zy:Value}{fx:Fl}{D2 y:Nat}{xs ys:List AV}{R q:List Nat}(he:dC P t=some e)(K0:cu P e=some ti)(S4:ti.size≠0)
 (L:Rel w S (.list fx D2 xs) zx R){g:List Value}(r:c7 w S y ys g q)(X2:((∃k,zy=.slice k 0 0)/\ys=[]/\g=[])\/
   ∃k cap,zy=.slice (some k) ys.length cap/\k.spot=none/\∀j u,g[j]?=some u->w.cell? (k.add j)=some u)(Z:fx=.nil\/(fx=.own/\D2=ti.size))(P0:ys=[]\/y=ti.size)(G2:ys.all (fits ti)=true)
 (hN:(R++q).Nodup)(hS:∀b,S b->b<w.heap.size)(hFx:∀b∈R,b<w.heap.size/\¬S b)(hFy:∀b∈q,b<w.heap.size)
 (hb1:(xs.length+ys.length)*ti.bytes<=140737488355328)(G1:xs.length+ys.length<=maxLen):
 ∃v w' K,(Builtin.append_ #[t,t] ty #[zx,zy]).run P w=.ok v w'/\Rel w' S (if fx=.nil/\ys=[]then .list .nil 0 []else .list .own ti.size (xs++ys)) v K/\K.Nodup/\
  (∀b∈K,b∈R\/b∈q\/w.heap.size<=b/\b<w'.heap.size)/\w.heap.size<=w'.heap.size/\(∀b,b<w.heap.size->b∉R->w'.heap[b]?=w.heap[b]?)/\
  w'.os=w.os/\w'.tape=w.tape/\w'.output=w.output:=by
 obtain⟨i,u,z,hi,hu,hz,d,Q,G6,V0,H1,hzf⟩:=lA K0;have ht:=iY he;have W1:∀b∈q,b∈q:=λ_ h=>h;have V2:q.Nodup->q.Nodup:=id;have G3:=aeJ.1 hN;have G5:xs.length+ys.length<=9223372036854775807:=by simp only[maxLen]at G1;omega
 by_cases M:ys=[]
 ·subst M;simp only[c7]at r;obtain⟨rfl,rfl⟩:=r;have E1:∀k n c,n<=c->(Builtin.append_ #[t,t] ty #[.slice k n c,zy]).run P w=.ok (.slice k n c) w:=by
   intro k n c hn;have H2:∃D1 c',zy=.slice D1 0 c':=by grind
   obtain⟨D1,c',rfl⟩:=H2;cases k<;>cases D1<;>simp[Builtin.append_,run_underlying ht,sizeOf,typeInfo,hi,Builtin.lenOf,hn,Builtin.firstCells,loadCells,loadCellsFrom,storeCells]
  obtain⟨k,cap,rfl,X,F1,-⟩:=L.jX;refine⟨_,w,R,E1 k _ _ X,?_,G3.1,λb l=>.inl l,adp _,λ_ _ _=>rfl,W,W,W⟩;rcases Z with rfl|⟨rfl,rfl⟩
  ·obtain⟨rfl,rfl,rfl⟩:=F1 W;simp only[Rel]at L;simp[Rel,L.2.2]
  simpa using L
 have f:y=ti.size:=P0.resolve_left M;have C:=c7.length y r;have F0:=c7.one y f r G2;have A:0<ys.length:=agy.2 M;obtain⟨k,J,rfl,K2,p⟩:∃k cap,zy=.slice (some k) ys.length cap/\k.spot=none/\∀j u,g[j]?=some u->w.cell? (k.add j)=some u:=by simp_all
 have H:∀(m:Nat)(lx:List Value)(s:List Nat),c7 w S ti.size xs lx s->(∀b∈s,b∈R)->s.Nodup->m<xs.length+ys.length->
  ∃K,Rel (w.drew.alloc<|.cells (lx.toArray++g.toArray++Builtin.zeroCells z.cells (grownCap w (xs.length+ys.length) m e-(xs.length+ys.length))) e) S (.list .own ti.size<|xs++ys)
   (.slice (some ⟨w.heap.size,0,none⟩) (xs.length+ys.length)<|grownCap w (xs.length+ys.length) m e) K/\K.Nodup/\
   (∀b∈K,b∈R\/b∈q\/w.heap.size<=b/\b<w.heap.size+1):=by
  intro m lx s G4 S2 hnd U1;have Y:=c7.length ti.size G4;have hge:=grownCap_ge w (xs.length+ys.length) m e;have M2:=grownCap_le_maxLen w (xs.length+ys.length) m e G1;generalize grownCap w (xs.length+ys.length) m e=cap at*;refine⟨w.heap.size::(s++q),?_,?_,λb l=>?_⟩
  ·simp only[Rel];refine .inr ⟨w.heap.size,cap,_,s++q,I,oP w.drew _ e,by simp;omega,M2,?_,?_,W⟩
   ·simp only[Array.size_append,List.size_toArray,Ak,Y,C,f,H1,<-ae9]
    congr 1;omega
   have hE:=c7.append ti.size G4 (f▸r);have B0:=c7.frame ti.size _ (w':=w.drew.alloc<|.cells (lx.toArray++g.toArray++Builtin.zeroCells z.cells (cap-(xs.length+ys.length))) e) hE (λb l=>?_)
   ·have:(lx.toArray++g.toArray++Builtin.zeroCells z.cells (cap-(xs.length+ys.length))).toList.take ((xs++ys).length*ti.size)=lx++g:=by
     simp only[Array.toList_append];refine ot ?_
     grind
    rw[this];exact B0
   have M1:b<w.heap.size:=by grind
   exact oO w.drew _ M1
  ·grind
  grind
 have O:ti.size=i.size:=d;have E2:(if fx=.nil/\ys=[]then AV.list .nil 0 []else .list .own ti.size (xs++ys))=.list .own ti.size (xs++ys):=by simp[M]
 rw[E2];by_cases hq:xs=[]/\zx=.slice none 0 0/\R=[]
 ·obtain⟨rfl,rfl,rfl⟩:=hq;clear Z;simp only[aeg,af7]at*;have hr:=run_append_nil (P:=P) w t ty e i z ht hi hz k ys.length J g (by rw[C,f,d]) p A E (by rw[<-Q];omega);obtain⟨K,g1,g2,g3⟩:=H 0 [] [] (by simp[c7]) I ae5 A;simp only[afS,Array.empty_append]at g1 hr⊢;have l:=pT w<|.cells (g.toArray++Builtin.zeroCells z.cells (grownCap w ys.length 0 e-ys.length)) e;exact⟨_,_,K,hr,g1,g2,λb l=>(g3 b l).imp id<|Or.imp id λh=>⟨h.1,eW⟩,l.size,λb A0 _=>l.block b A0,l.os,l.tape,l.output⟩
 rcases Z with rfl|⟨rfl,rfl⟩
 ·simp only[Rel]at L;exact absurd L hq
 simp only[Rel]at L;rcases L with L|⟨b,cap,x,F',rfl,T,X,F3,P1,hE,rfl⟩
 ·exact absurd L hq
 obtain⟨e',D⟩:=IY T;have Y:=c7.length ti.size hE;by_cases o:xs.length+ys.length<=cap
 ·have F4:xs.length*i.size+g.length<=x.size:=by rw[C,P1,f,<-d,<-ae9];exact aeX _ o
  have hr:=xG (P:=P) (ty:=ty) t e e' i ht hi b xs.length cap x D k ys.length J g (by rw[C,f,d]) p F0 o F4;have hnb:b∉F'/\b∉q:=by simp_all
  refine⟨_,_,b::(F'++q),hr,?_,?_,λc hc=>?_,I,λc _ hc=>setRow_other w b c _ λe=>hc<|by simp[e],W,W,W⟩
  ·simp only[Rel];have F2:=setRow_heap w b x (x.toList.take (xs.length*i.size)++g++x.toList.drop (xs.length*i.size+g.length)).toArray e' _ D;refine .inr ⟨b,cap,_,F'++q,I,zf F2,by simp;exact o,F3,?_,?_,W⟩
   ·grind
   have S1:=c7.append ti.size hE (f▸r);have B0:=c7.frame ti.size _ (w':=w.setRow b (x.toList.take (xs.length*i.size)++g++x.toList.drop (xs.length*i.size+g.length)).toArray) S1 (λc hc=>?_)
   ·have:(x.toList.take (xs.length*i.size)++g++x.toList.drop (xs.length*i.size+g.length)).toArray.toList.take ((xs++ys).length*ti.size)=x.toList.take (xs.length*ti.size)++g:=by
     rw[O];simp only;refine ot ?_
     grind
    rw[this];exact B0
   have L0:c≠b:=by grind
   rw[setRow_other w b c _ L0]
  ·simp_all
  grind
 have holds:∀j u,(x.toList.take<|xs.length*ti.size)[j]?=some u->w.cell? ((⟨b,0,none⟩:Addr).add j)=some u:=by
  intro j u hu;rw[cj W,pS W T]
  grind
 have hr:=run_append_grow (P:=P) w t ty e i z ht hi hz ⟨b,0,none⟩ xs.length cap _ (by rw[Y,d]) holds k ys.length J g (by rw[C,f,d]) p E E
  (growslice_fits E eW)
 obtain⟨K,g1,g2,g3⟩:=H cap _ F' hE (λc hc=>by simp[hc]) (afv.1 G3.1).2 E;have l:=pT w<|.cells ((x.toList.take<|xs.length*ti.size).toArray++g.toArray++Builtin.zeroCells z.cells (grownCap w (xs.length+ys.length) cap e-(xs.length+ys.length))) e;exact⟨_,_,K,hr,g1,g2,λb l=>(g3 b l).imp id<|Or.imp id λh=>⟨h.1,eW⟩,l.size,λb A0 _=>l.block b A0,l.os,l.tape,l.output⟩
end
section
variable{P:Program}{N:Nat}{w0 w:World}{V:Hid}{S S0:Nat->Prop}{B:Nat->Prop}{σ σ':St}{a:Act}{F:Nat->List Nat}
def vM{sz:Nat}{xs:List AV}{v:Value}{b:List Nat}(h:Rel w S (.list .nil sz xs) v b):xs=[]/\v=.slice none 0 0/\b=[]:=by simpa[Rel]using h
def Hc{t c ty e f:TypeId}{x y:Value}(d:P.underlying t=some (.slice e))(b:P.underlying c=some (.slice f)):(Builtin.append_ #[t,c] ty #[x,y]).run P w=(Builtin.append_ #[t,t] ty #[x,y]).run P w:=by cases x<;>simp[Builtin.append_,run_underlying d,run_underlying b]
def Hd{d t ty:Nat}(h:Inv N V w0 S0 σ a w)(hd:d<N)(x y:Operand)(F4:aJ x=true)(M1:aJ y=true){ms:List Mv}
 (hm:lj P d t (resolve σ x) (resolve σ y)=some ms)(hr:Mv.runs σ ms=some σ'):Good N V w0 S0 σ' a d ((Builtin.append_ #[t,t] ty #[a.eval x,a.eval y]).run P w):=by
 unfold lj at hm;split at hm
 ·rename_i e he;split at hm
  ·rename_i ti G1;split at hm
   ·cases hm
   rename_i Z;split at hm
   ·rename_i fy Q A hy;obtain⟨q,C,hm⟩:∃q,(q=[]/\bU A=true\/∃s,q=[s]/\y=.tmp s/\(σ s).av.plain=true)/\(if(A.isEmpty||(Q==ti.size&&A.all (fits ti)))&& !q.contains d then
     match(resolve σ x).cont with
     |some (.list .nil _ _)=>if(A.length*ti.bytes)<=140737488355328/\A.length<=maxLen then
       some [Mv.make q d<|if A.isEmpty then .list .nil 0 []else .list .own ti.size A]else none
     |some (.list .own F3 xs)=>if F3=ti.size/\(xs.length+A.length)*ti.bytes<=140737488355328/\xs.length+A.length<=maxLen then
       match(resolve σ x).sl.av with
       |.bC r _ _ p=>if r∈q then none else some [.take r d p,.make (d::q) d<|.list .own ti.size<|xs++A]
       |_=>match(resolve σ x).s with
        |some s=>if s∈q then none else some [.make (s::q) d<|.list .own ti.size<|xs++A]
        |none=>none
      else none
     |_=>none
     else none)=some ms:=by
     dsimp only at hm;split at hm
     ·cases hm
     rename_i q C;refine⟨q,?_,hm⟩;split at C
     ·simp_all
     split at C
     ·rename_i h1 h2;split at C
      ·rename_i s hs;simp only[ada]at C;cases y with
       |tmp n=>
        have R:(resolve σ<|.tmp n).s=some n/\(resolve σ<|.tmp n).sl=σ n:=by revert hs;simp only[resolve,bY.of];grind
        rw[R.1]at hs;simp only[ada]at hs;subst hs;rw[R.2]at h2;exact .inr ⟨n,C.symm,W,by rw[h2];rfl⟩
       |const v=>simp[resolve]at hs
       |func f=>simp[resolve]at hs
       |global g=>simp[resolve]at hs
      cases C
     cases C
    have H:∀S F,aT S (cQ V w0) σ (tv V a) w F->∃ly O,c7 w S Q A ly O/\(((∃ad,a.eval y=.slice ad 0 0)/\A=[]/\ly=[])\/
     ∃ad S4,a.eval y=.slice (some ad) A.length S4/\ad.spot=none/\∀j u,ly[j]?=some u->w.cell? (ad.add j)=some u)/\(∀b∈O,∃m∈q,b∈F m)/\O.Nodup:=by
     intro S F hc;obtain⟨Fy,e1,e2,e3,-⟩:=aQ hc y M1 hy;obtain⟨ly,O,q1,q2,q3,q4⟩:=e1.K4;rcases C with⟨rfl,K0⟩|⟨s,rfl,rfl,G2⟩
     ·exact⟨ly,O,q1,q4,by rw[c7.aG Q q1 K0];simp,by rw[c7.aG Q q1 K0];exact ae5⟩
     obtain⟨rfl,-⟩:=e3 s W G2;exact⟨ly,O,q1,q4,λb l=>⟨s,I,q2 b l⟩,q3<|hc.nodup s⟩
    split at hm
    ·rename_i D2;simp only[adD,af9,ag8,beq_iff_eq,List.isEmpty_iff]at D2;obtain⟨P1,S2⟩:=D2;have U1:d∉q:=by simpa using S2
     have B0:A=[]\/Q=ti.size:=P1.imp id (·.1);have F0:A.all (fits ti)=true:=by grind
     split at hm
     ·rename_i F3 xs hx;split at hm
      ·rename_i l;cases hm;simp only[jl,ada]at hr;subst hr;obtain⟨S,F,hc,hN,D1,X,T,o⟩:=h;obtain⟨Fx,ex,-⟩:=aQ hc x F4 hx;obtain⟨rfl,-,rfl⟩:=vM ex;obtain⟨ly,O,q1,q2,q3,q4⟩:=H S F hc;obtain⟨v,w',Fv,r1,r2,r3,r4,r5,r6,r7,r8,r9⟩:=ve (P:=P) (ty:=ty) he G1 Z ex q1 q2 (.inl W) B0 F0 (by simpa using q4) hc.shr I
        (λb l=>by obtain⟨m,-,hm⟩:=q3 b l;exact(hc.own m b hm).2.1) (by simpa using l.1) (by simpa using l.2)
       have D:Below w.heap.size w w':=⟨r7,r8,r9,r5,λk hk=>r6 k hk I⟩;refine⟨v,w',r1,S,λi=>if i=d then Fv else if i∈q then[]else F i,?_,by rw[size_put];exact hN,by rw[gG];exact D1,X,T,o.PO D⟩;rw[oK<|by rw[hN];exact hd];have M2:(if A.isEmpty then AV.list .nil 0 []else .list .own ti.size A)=(if Fl.nil=Fl.nil/\A=[]then AV.list .nil 0 []else .list .own ti.size ([]++A)):=by simp
       rw[M2];exact hc.make q d _ v Fv o.new r5 (λb G6 _=>r6 b G6 I) r3
        (λb l=>(r4 b l).elim (λh=>by cases h) λh=>h.imp (q3 b) id) r2
      simp at hm
     ·rename_i F3 xs hx;split at hm
      ·rename_i l;obtain⟨rfl,L0,K2⟩:=l;split at hm
       ·rename_i r g1 g2 p E2;split at hm
        ·simp at hm
        rename_i X2;cases hm;cases x with
        |const v=>simp only[resolve]at E2;have:=dN v;rw[E2]at this;simp[AV.plain]at this
        |func f=>simp[resolve]at E2
        |global g=>simp[resolve,Sl.none]at E2
        |tmp n=>
         have F2:(σ n).av=.bC r g1 g2 p:=by revert E2;simp only[resolve,bY.of];split<;>first|exact id|(intro h;simp[Sl.none]at h)
         obtain⟨M,H2,H1⟩:=CS F2 hx;have F1:(σ r).av.plain=true:=by
          by_cases hp:p=[]
          ·subst hp;simp only[bp,ada]at M;rw[M];exact H1
          exact H2 hp
         simp only[Mv.runs,Mv.run]at hr;split at hr
         ·rename_i V2 K;cases hr;split at K
          ·simp at K
          rename_i S1;rw[M]at K;simp only at K;split at K
          ·rename_i av' hs;cases K;obtain⟨S,F,hc,hN,D1,X,T,o⟩:=h;obtain⟨L,z,Fx,F',k1,k2,k3,k4,k5,k6⟩:=hc.take r d p S1 F1 M hs;have hz:=GZ hc F2 hx k1 k2 k3;obtain⟨ly,O,q1,q2,q3,q4⟩:=H S F hc;have Y:∀b∈O,∃m∈q,m≠d/\b∈F' m:=by
            grind
           have A0:(Fx++O).Nodup:=by rw[aeJ];refine⟨k5▸k4.nodup d,q4,λb l c G5 e=>?_⟩;subst e;obtain⟨m,-,G4,E1⟩:=Y b G5;exact k4.du d m (λe=>G4 e.symm) b (k5▸l) E1
           obtain⟨v,w',Fv,r1,r2,r3,r4,r5,r6,r7,r8,r9⟩:=ve (P:=P) (ty:=ty) he G1 Z k3 q1 q2 (.inr G) B0 F0 A0 hc.shr
            (λb l=>(k4.own d b (k5▸l)).2) (λb l=>by obtain⟨m,-,-,hm⟩:=Y b l;exact(k4.own m b hm).2.1) L0 K2
           have D:tV V w0 w w':=⟨r7,r8,r9,r5,λk hk G3=>r6 k (ae3 hk o.size) λl=>wc (k4.own d k (k5▸l)).1 hk G3⟩;rw[hz,<-iE V a (fN F4)]at r1;refine⟨v,w',r1,S,λi=>if i=d then Fv else if i∈d::q then[]else F' i,?_,by rw[size_put];exact hN,by rw[gG];exact D1,X,T,o.trans D⟩;rw[oK<|by rw[hN];exact hd];have hT:iI (tv V a) d v=iI (iI (tv V a) d z) d v:=by funext i;simp only[iI];split<;>rfl
           rw[hT];refine k4.make (d::q) d _ v Fv o.new r5 (λb G6 E1=>?_) r3 (λb l=>?_) r2
           ·simp_all
           grind
          simp at K
         simp at hr
       rename_i P0;split at hm
       ·rename_i s hs;split at hm
        ·simp at hm
        rename_i W1;cases hm;simp only[jl,ada]at hr;subst hr;obtain⟨n,rfl⟩:∃n,x=.tmp n:=by cases x<;>simp[resolve]at hs;exact⟨_,W⟩
        have R:(resolve σ<|.tmp n).s=some n/\(resolve σ<|.tmp n).sl=σ n:=by revert hs;simp only[resolve,bY.of];grind
        rw[R.1]at hs;simp only[ada]at hs;subst hs;rw[R.2]at P0;have G2:(σ n).av.plain=true:=by
         cases hh:(σ n).av with
         |bC r g1 g2 p=>grind
         |ptr r g1 g2 p=>simp[resolve,bY.of,hh,bY.cont]at hx
         |abs J=>simp[resolve,bY.of,hh,bY.cont,Sl.none]at hx
         |fS g V0=>simp[resolve,bY.of,hh,bY.cont]at hx
         |_=>rfl
        obtain⟨S,F,hc,hN,D1,X,T,o⟩:=h;obtain⟨Fx,ex,-,e3,-⟩:=aQ hc (.tmp n) F4 hx;obtain⟨rfl,-⟩:=e3 n W G2;obtain⟨ly,O,q1,q2,q3,q4⟩:=H S F hc;have Y:∀b∈O,∃m∈q,m≠n/\b∈F m:=by grind
        have A0:(F n++O).Nodup:=by rw[aeJ];refine⟨hc.nodup n,q4,λb l c G5 e=>?_⟩;subst e;obtain⟨m,-,G4,E1⟩:=Y b G5;exact hc.du n m (λe=>G4 e.symm) b l E1
        obtain⟨v,w',Fv,r1,r2,r3,r4,r5,r6,r7,r8,r9⟩:=ve (P:=P) (ty:=ty) he G1 Z ex q1 q2 (.inr G) B0 F0 A0 hc.shr
         (λb l=>(hc.own n b l).2) (λb l=>by obtain⟨m,-,-,hm⟩:=Y b l;exact(hc.own m b hm).2.1) L0 K2
        have D:tV V w0 w w':=⟨r7,r8,r9,r5,λk hk G3=>r6 k (ae3 hk o.size) λl=>wc (hc.own n k l).1 hk G3⟩;refine⟨v,w',r1,S,λi=>if i=d then Fv else if i∈n::q then[]else F i,?_,by rw[size_put];exact hN,by rw[gG];exact D1,X,T,o.trans D⟩;rw[oK<|by rw[hN];exact hd];refine hc.make (n::q) d _ v Fv o.new r5 (λb G6 E1=>?_) r3 (λb l=>?_) r2
        ·simp_all
        grind
       simp at hm
      simp at hm
     simp at hm
    simp at hm
   simp at hm
  simp at hm
 simp at hm
end
end Go.Ai
