/- Parts of the proof of ScaleCircles (CheckRefused returns the error of the reference), at every input, with no further conditions. -/
import Derived.Test.YtdgocdadfmhjgaaGreatDoorCZAA
set_option linter.all false
set_option maxRecDepth 100000
set_option maxHeartbeats 0
namespace Go.Ai
open Go.RowKit
def jb:Value->AV
 |.slice none 0 0=>.list .nil 0 []
 |v=>if scalar v then .v v else .dead
def gb:Value->AV
 |.agg cs=>.agg (cs.toList.map jb)
 |v=>jb v
def ny:Value->Bool
 |.agg cs=>cs.toList.all (·.oneCell')
 |_=>true
structure TI where
 agg:Bool
 size:Nat
 bytes:Nat
 zero:AV
def bY(P:Program)(t:TypeId):Option TI:=
 match P.info? t,P.underlying t with
 |some i,some u=>match i.zero with
  |some z=>if z.cells.size=i.size/\ny z=true then some ⟨match u with|.struct _|.array .. =>true|_=>false,i.size,i.bytes,gb z⟩else none
  |none=>none
 |_,_=>none
def dt(P:Program)(t:TypeId):Option TypeId:=
 match P.underlying t with
 |some (.slice e)=>some e
 |_=>none
def tR(P:Program)(t:TypeId)(f:Nat):Option (Nat×TypeId):=
 match P.underlying t with
 |some (.struct fs)=>match fs[f]?with
  |some f=>some (f.offset,f.type)
  |none=>none
 |_=>none
def gN(i:TI)(o:Nat):Step:=.at o<|if i.agg then some i.size else none
structure bM where
 s:Option Nat
 sl:Sl
 rt:Sl
def Sl.none:Sl:=⟨.dead,0,0⟩
def bM.of(σ:St)(t:Nat):bM:=
 match(σ t).av with
 |.bA r _ _ _=>⟨some t,σ t,σ r⟩
 |.ptr r _ _ _=>⟨some t,σ t,σ r⟩
 |.abs _=>⟨none,.none,.none⟩
 |_=>⟨some t,σ t,.none⟩
def resolve(σ:St):Operand->bM
 |.tmp t=>.of σ t
 |.const v=>⟨none,⟨gb v,0,0⟩,.none⟩
 |.func f=>⟨none,⟨.fn (.func f) [] [],0,0⟩,.none⟩
 |.global _=>⟨none,.none,.none⟩
def yC:Path->AV->Bool
 |[],_=>true
 |[.bX _],_=>true
 |_,y=>y.cell
def bM.cont(x:bM):Option AV:=
 match x.sl.av with
 |.bA _ g1 g2 p=>
  if x.rt.g1=g1 then if Qu p=true\/x.rt.g2=g2 then match bg x.rt.av p with
   |some y=>if yC p y&&y.plain then some y else none
   |none=>none
  else none else none
 |.ptr .. =>none
 |.hole=>none
 |.dead=>none
 |.fI .. =>none
 |y=>some y
def bM.place(x:bM):Option (Nat×Nat×Nat×Path):=
 match x.sl.av with
 |.bA r g1 g2 p=>some (r,g1,g2,p)
 |.ptr .. =>none
 |_=>match x.s with
  |some s=>some (s,x.sl.g1,x.sl.g2,[])
  |none=>none
def E3:Path->Option (Path×Nat×Nat×Nat)
 |[]=>none
 |s::p=>match p with
  |[]=>match s with
   |.lR sz o n=>some ([],sz,o,n)
   |_=>none
  |_::_=>match E3 p with
   |some (q,u)=>some (s::q,u)
   |none=>none
def bM.lR(x:bM):Option (Nat×Nat×Nat×Path×Nat×Nat×Nat):=
 match x.sl.av with
 |.bA r g1 g2 p=>match E3 p with
  |some (q,sz,o,n)=>if x.rt.g1=g1 then if kl p=true\/x.rt.g2=g2 then match bg x.rt.av q with
   |some (.list _ gC xs)=>if sz=gC/\0<n/\o+n<=xs.length then some (r,g1,x.rt.g2,q,sz,o,n)else none
   |_=>none
   else none else none
  |none=>none
 |_=>none
def bM.addr(x:bM):Option (Nat×Nat×Nat×Path×AV):=
 match x.sl.av with
 |.ptr r g1 g2 p=>if x.rt.g1=g1 then if flat p\/x.rt.g2=g2 then some (r,x.rt.g1,x.rt.g2,p,x.rt.av)else none else none
 |.box _ _=>match x.s with
  |some s=>some (s,x.sl.g1,x.sl.g2,[.deref],x.sl.av)
  |none=>none
 |.bA r _ _ p=>match x.cont with
  |some (.box _ _)=>some (r,x.rt.g1,x.rt.g2,p++[.deref],x.rt.av)
  |_=>none
 |_=>none
def c6(d:Nat)(x:bM):Option (List Mv):=
 match x.sl.av with
 |.bA r g1 g2 p=>if r=d then none else some [.put d<|.bA r g1 g2 p]
 |.ptr r g1 g2 p=>if r=d then none else some [.put d<|.ptr r g1 g2 p]
 |.fI g ba=>if ba.all (λq=>q.1 !=d)=true then some [.put d<|.fI g ba]else none
 |y=>if y.aF then some [.put d y]else match x.s with
  |some s=>if s=d then none else some [.put d<|.bA s x.sl.g1 x.sl.g2 []]
  |none=>none
def dy(d:Nat)(x:bM):Option (List Mv):=
 match x.sl.av with
 |.ptr r g1 g2 p=>if r=d then none else some [.put d<|.ptr r g1 g2 p]
 |.fI g ba=>if ba.all (λq=>q.1 !=d)=true then some [.put d<|.fI g ba]else none
 |.bA r _ _ p=>match x.cont with
  |some y=>if y.aF then some [.put d y]else match p with
   |[]=>some [.take r d []]
   |[.bX i]=>some [.take r d [.bX i]]
   |_=>if r=d then none else some [.share r p,.put d y.bw]
  |none=>none
 |.box b z=>if(AV.box b z).aF then some [.put d<|.box b z]else match x.s with
  |some s=>if s=d then none else some [.put d<|.bA s x.sl.g1 x.sl.g2 []]
  |none=>none
 |y=>if y.aF then some [.put d y]else match x.s with
  |some s=>if s=d then none else some [.make [s] d y]
  |none=>none
def dT(x:bM):Option (AV×List Nat):=
 match x.sl.av with
 |.bA r _ _ p=>match x.cont with
  |some y=>if y.aF then some (y,[])else if p=[]then some (y,[r])else none
  |none=>none
 |.ptr .. =>none
 |.dead=>none
 |.fI .. =>none
 |y=>if y.aF then some (y,[])else match x.s with
  |some s=>some (y,[s])
  |none=>none
def fG:List bM->Option (List AV×List Nat)
 |[]=>some ([],[])
 |x::xs=>match dT x,fG xs with
  |some (y,M),some (ys,N)=>if M.all (λm=> !N.contains m)then some (y::ys,M++N)else none
  |_,_=>none
def BY(cs:List AV)(o n:Nat)(y:AV):Option (List AV):=
 if o+n<=cs.length then match y with
  |.agg ys=>if ys.length=n then some (cs.take o++ys++cs.drop (o+n))else none
  |y=>if n=1&&y.cell then some (cs.set o y)else none
 else none
def placesOf(P:Program)(t:TypeId):Option (List<|Nat×Nat):=
 match P.underlying t with
 |some (.struct fs)=>fs.toList.mapM λf=>(P.info? f.type).map λi=>(f.offset,i.size)
 |_=>none
def sX(pl:List (Nat×Nat)):List AV->List (Nat×AV)->Option (List AV)
 |cs,[]=>some cs
 |cs,(i,y)::r=>match pl[i]?with
  |some (o,n)=>match BY cs o n y with
   |some cs=>sX pl cs r
   |none=>none
  |none=>none
def fits(ti:TI):AV->Bool
 |.agg xs=>ti.agg&&xs.length=ti.size
 |y=> !ti.agg&&ti.size=1&&y.cell
def yr(P:Program)(op:BinOp)(t:TypeId)(x y:Value):Option Value:=
 match x,y with
 |.int k a,.int k' b=>
  match op with
  |.shl=>if b<0 then none else some (.int k<|k.wrap<|a*2^min b.toNat k.bits)
  |.shr=>if b<0 then none else some (.int k<|a.fdiv<|2^min b.toNat k.bits)
  |_=>if k=k' then match op with
   |.add=>some (.int k<|k.wrap<|a+b)
   |.sub=>some (.int k<|k.wrap<|a-b)
   |.mul=>some (.int k<|k.wrap<|a*b)
   |.quo=>if b=0 then none else some (.int k<|k.wrap<|a.tdiv b)
   |.rem=>if b=0 then none else some (.int k<|a.tmod b)
   |.and=>some (.int k<|k.wrap (BitVec.ofInt k.bits a&&&BitVec.ofInt k.bits b).toNat)
   |.or=>some (.int k<|k.wrap (BitVec.ofInt k.bits a|||BitVec.ofInt k.bits b).toNat)
   |.xor=>some (.int k<|k.wrap (BitVec.ofInt k.bits a^^^BitVec.ofInt k.bits b).toNat)
   |.andNot=>some (.int k<|k.wrap (BitVec.ofInt k.bits a&&& ~~~ BitVec.ofInt k.bits b).toNat)
   |.eql=>some (.bool<|a==b)
   |.neq=>some (.bool<|a !=b)
   |.lss=>some (.bool<|decide (a<b))
   |.leq=>some (.bool<|decide (a<=b))
   |.gtr=>some (.bool<|decide (a>b))
   |.geq=>some (.bool<|decide (a>=b))
   |_=>none
   else none
 |.string a,.string b=>
  match op with
  |.add=>if((a.size+b.size:Nat):Int)>IntKind.i64.max then none else some (.string<|a++b)
  |.eql=>some (.bool<|a.toList==b.toList)
  |.neq=>some (.bool !(a.toList==b.toList))
  |.lss=>some (.bool<|Op.bytesLess a.toList b.toList)
  |_=>none
 |.bool a,.bool b=>match P.underlying t with
  |some .bool=>match op with
   |.eql=>some (.bool<|a==b)
   |.neq=>some (.bool<|!(a==b))
   |_=>none
  |_=>none
 |_,_=>none
def Z2(op:UnOp)(x:Value):Option Value:=
 match op,x with
 |.neg,.int k n=>some (.int k<|k.wrap<|0-n)
 |.xor,.int k n=>some (.int k<|k.wrap (BitVec.ofInt k.bits (if k.signed then -1 else k.max)^^^BitVec.ofInt k.bits n).toNat)
 |.not,.bool b=>some (.bool !b)
 |_,_=>none
def isNil(P:Program)(t:TypeId)(x y:AV):Option Bool:=
 match y with
 |.list .nil _ _=>match x with
  |.list f _ xs=>match P.underlying t with
   |some (.slice _)=>match f with
    |.nil=>some true
    |_=>if xs.isEmpty then none else some false
   |_=>none
  |_=>none
 |.v (.pointer none)=>match P.underlying t with
  |some (.pointer _)=>match x with
   |.box _ _=>some false
   |.v (.pointer none)=>some true
   |_=>none
  |_=>none
 |.v .nilFunc=>match P.underlying t with
  |some (.func _ _ _)=>match x with
   |.fn _ _ _=>some false
   |.v .nilFunc=>some true
   |_=>none
  |_=>none
 |_=>none
def MQ(op:BinOp)(b:Option Bool):Option AV:=
 match op,b with
 |.eql,some b=>some (.v<|.bool b)
 |.neq,some b=>some (.v<|.bool !b)
 |_,_=>none
def mw(P:Program)(op:BinOp)(t:TypeId)(x y:AV):Option AV:=
 match x with
 |.v a=>match y with
  |.v b=>match yr P op t a b with
   |some v=>some (.v v)
   |none=>MQ op (isNil P t (.v a)<|.v b)
  |_=>none
 |_=>MQ op<|isNil P t x y
def sP(P:Program)(d:Nat)(t:TypeId)(x:bM):Option (List Mv):=
 match bY P t with
 |some ti=>match x.addr with
  |some (r,g1,g2,p,av)=>match bg av p with
   |some y=>if fits ti y then
     if y.aF then some [.put d y]
     else if r=d then none
     else if y.cell then some [.put d<|.bA r g1 g2 p]else some [.share r p,.put d y.bw]
    else none
   |none=>none
  |none=>none
 |none=>none
def uS(P:Program)(t:TypeId)(a x:bM):Option (List Mv):=
 match bY P t with
 |some ti=>match a.addr with
  |some (r,_,_,p,av)=>match bg av p with
   |some y0=>if fits ti y0&&ti.size !=0 then match dT x with
     |some (y,M)=>if fits ti y then some [.store r p M y]else none
     |none=>none
    else none
   |none=>none
  |none=>none
 |none=>none
def jY(P:Program)(d:Nat)(t:TypeId)(x:bM)(f:Nat):Option (List Mv):=
 match tR P t f with
 |some (o,ft)=>match bY P ft with
  |some ti=>match x.addr with
   |some (r,g1,g2,p,av)=>if r=d then none else if ti.size=0 then none else
    if flat (p++[gN ti o])then some [.put d<|.ptr r g1 g2<|p++[gN ti o]]else match bg av (p++[gN ti o])with
     |some _=>some [.put d<|.ptr r g1 g2<|p++[gN ti o]]
     |none=>none
   |none=>none
  |none=>none
 |none=>none
def gn(P:Program)(d:Nat)(t:TypeId)(x i:bM):Option (List Mv):=
 match i.cont with
 |some (.v<|.int _ n)=>match P.underlying t with
  |some (.slice e)=>match bY P e with
   |some ti=>match x.lR with
    |some (r,g1,g2,q,sz,o,m)=>if sz=ti.size/\0<=n/\n<m then if r=d then none else some [.put d<|.ptr r g1 g2<|q++[.idx (o+n.toNat) sz]]else none
    |none=>match x.cont with
     |some (.list _ sz xs)=>if sz=ti.size/\0<=n/\n<xs.length then match x.place with
       |some (r,g1,g2,p)=>if r=d then none else some [.put d<|.ptr r g1 g2<|p++[.idx n.toNat sz]]
       |none=>none
      else none
     |_=>none
   |none=>none
  |some (.array len e)=>match bY P e with
   |some ti=>match x.addr with
    |some (r,g1,g2,p,av)=>if 0<=n/\n<len/\r≠d then
      match bg av (p++[gN ti<|n.toNat*ti.size])with
      |some _=>some [.put d<|.ptr r g1 g2<|p++[gN ti<|n.toNat*ti.size]]
      |none=>none
     else none
    |none=>none
   |none=>none
  |_=>none
 |_=>none
def od(d:Nat)(x:bM)(i:Nat):Option (List Mv):=
 match x.cont with
 |some (.bX xs)=>match xs[i]?with
  |some y=>if y.aF then some [.put d y]else match x.place with
   |some (r,g1,g2,p)=>if r=d\/p≠[]then none else some [.put d<|.bA r g1 g2 [.bX i]]
   |none=>none
  |none=>none
 |_=>none
def yS(P:Program)(d:Nat)(t:TypeId)(x:bM)(f:Nat):Option (List Mv):=
 match tR P t f with
 |some (o,ft)=>match bY P ft with
  |some ti=>match x.cont with
   |some av=>match bg av [gN ti o]with
    |some y=>if y.aF then some [.put d y]else none
    |none=>none
   |none=>none
  |none=>none
 |none=>none
def vj(P:Program)(d:Nat)(t:TypeId)(x i:bM):Option (List Mv):=
 match i.cont with
 |some (.v<|.int _ n)=>match P.underlying t with
  |some .string=>match x.cont with
   |some (.v<|.string s)=>if 0<=n then match s[n.toNat]?with
     |some b=>some [.put d<|.v<|.int .u8 b.toNat]
     |none=>none
    else none
   |_=>none
  |some (.array len e)=>match bY P e with
   |some ti=>match x.cont with
    |some av=>if 0<=n/\n<len then match bg av [gN ti<|n.toNat*ti.size]with
      |some y=>if y.aF then some [.put d y]else none
      |none=>none
     else none
    |none=>none
   |none=>none
  |_=>none
 |_=>none
def DC(P:Program)(d:Nat)(src dst:TypeId)(x:bM):Option (List Mv):=
 match P.underlying src,P.underlying dst,x.cont with
 |some _,some<|.int k,some (.v<|.int _ n)=>some [.put d<|.v<|.int k<|k.wrap n]
 |some .string,some .string,some (.v<|.string s)=>some [.put d<|.v<|.string s]
 |_,_,_=>none
def nf:Option bM->Nat->Option Nat
 |none,Ie=>some Ie
 |some x,_=>match x.cont with
  |some (.v<|.int _ n)=>if 0<=n then some n.toNat else none
  |_=>none
def qA(P:Program)(d:Nat)(t:TypeId)(x:bM)(lo hi mx:Option bM):Option (List Mv):=
 match P.underlying t with
 |some .string=>match x.cont with
  |some (.v<|.string s)=>match mx with
   |none=>match nf lo 0,nf hi s.size with
    |some l,some h=>if l<=h/\h<=s.size then some [.put d<|.v<|.string<|s.extract l h]else none
    |_,_=>none
   |some _=>none
  |_=>none
 |some (.slice e)=>match bY P e with
  |some ti=>match x.cont with
   |some (.list f sz xs)=>match nf lo 0,nf hi xs.length with
    |some l,some h=>match nf mx h with
     |some m=>if l<=h/\h<=m/\m<=xs.length then match f with
       |.nil=>some [.put d<|.list .nil sz []]
       |.shr=>if sz=ti.size then some [.put d<|.list .shr sz<|(xs.drop l).take<|h-l]else none
       |.own=>if sz=ti.size then match x.place with
         |some (r,_,_,p)=>if r=d then none else some [.share r p,.put d<|.list .shr sz<|((gh xs).drop l).take<|h-l]
         |none=>none
        else none
      else none
     |none=>none
    |_,_=>none
   |_=>none
  |none=>none
 |_=>none
def kX(P:Program)(d:Nat)(t:TypeId)(x y:bM):Option (List Mv):=
 match dt P t with
 |some e=>match bY P e with
  |some ti=>
   if ti.size=0 then none else
   match y.cont with
   |some (.list fy Qy ys)=>
    let My:Option (List Nat):=if bx ys then some []else match fy,y.sl.av with
     |.own,.list _ _ _=>match y.s with
      |some s=>some [s]
      |none=>none
     |_,_=>none
    match My with
    |none=>none
    |some My=>
     if(ys.isEmpty||(Qy==ti.size&&ys.all (fits ti)))&& !My.contains d then
     match x.cont with
     |some (.list .nil _ _)=>if(ys.length*ti.bytes)<=140737488355328/\ys.length<=maxLen then
       some [.make My d<|if ys.isEmpty then .list .nil 0 []else .list .own ti.size ys]else none
     |some (.list .own Wk xs)=>if Wk=ti.size/\(xs.length+ys.length)*ti.bytes<=140737488355328/\xs.length+ys.length<=maxLen then
       match x.sl.av with
       |.bA r _ _ p=>if r∈My then none else some [.take r d p,.make (d::My) d<|.list .own ti.size<|xs++ys]
       |_=>match x.s with
        |some s=>if s∈My then none else some [.make (s::My) d<|.list .own ti.size<|xs++ys]
        |none=>none
      else none
     |_=>none
     else none
   |_=>none
  |none=>none
 |none=>none
def XJ(x:bM):Option AV:=
 match x.cont with
 |some y=>some y.bw
 |none=>none
def gL:List bM->Option (List AV)
 |[]=>some []
 |x::xs=>match XJ x,gL xs with
  |some y,some ys=>some (y::ys)
  |_,_=>none
def shares:List bM->List Mv
 |[]=>[]
 |x::xs=>match x.cont with
  |some y=>if y.aF then shares xs else match x.place with
   |some (r,_,_,p)=>.share r p::shares xs
   |none=>.take 0 0 []::shares xs
  |none=>.take 0 0 []::shares xs
abbrev A2:=FuncId×List AV×AV
def cK(d:Option Nat)(res:AV)(ms:List Mv):List Mv:=
 match d with
 |some d=>ms++[.make [] d res]
 |none=>ms
def DQ(d:Option Nat)(f:bM)(aas:List bM)(res:AV):Option (List Mv×List A2):=
 match f.cont with
 |some (.fn (.func g) first captured)=>if bx first&&bx captured then match gL aas with
   |some ys=>if !res.bJ then match shares aas with
     |[]=>some (cK d res [],[(g,first++ys++captured,res)])
     |[m]=>some (cK d res [m],[(g,first++ys++captured,res)])
     |_=>none
    else some (cK d res [],[(g,first++ys++captured,res)])
   |none=>none
  else none
 |_=>none
def j0(P:Program)(d:Nat)(b:Builtin)(ts:List TypeId)(aas:List bM):Option (List Mv):=
 match b,ts,aas with
 |.len,t::_,[x]=>match x.cont with
  |some (.v<|.string s)=>match P.underlying t with
   |some .string=>some [.put d<|.v<|.int .i64 s.size]
   |_=>none
  |some (.list _ _ xs)=>match P.underlying t with
   |some (.slice _)=>some [.put d<|.v<|.int .i64 xs.length]
   |_=>none
  |_=>none
 |.append,[t,t'],[x,y]=>match dt P t' with
  |some _=>kX P d t x y
  |none=>none
 |.min,_,[x,y]=>match x.cont,y.cont with
  |some (.v<|.int k a),some (.v<|.int k' b)=>if k=k' then some [.put d<|.v<|.int k<|min a b]else none
  |_,_=>none
 |.max,_,[x,y]=>match x.cont,y.cont with
  |some (.v<|.int k a),some (.v<|.int k' b)=>if k=k' then some [.put d<|.v<|.int k<|max a b]else none
  |_,_=>none
 |_,_,_=>none
def fM:Option (List Mv)->Option (List Mv×List A2)
 |some ms=>some (ms,[])
 |none=>none
def A6(P:Program)(σ:St)(o:Oper)(res:AV):Option (List Mv×List A2):=
 match o.dst with
 |none=>match o.op with
  |.store t a x=>fM (uS P t (resolve σ a)<|resolve σ x)
  |.call c=>match c.callee with
   |.value f=>DQ none (resolve σ f) (c.args.toList.map<|resolve σ) res
   |_=>none
  |_=>none
 |some d=>match o.op with
  |.move x=>fM (c6 d<|resolve σ x)
  |.nilCheck x=>match(resolve σ x).cont with
   |some (.box _ _)=>fM (c6 d<|resolve σ x)
   |some (.fn (.func _) _ _)=>fM (c6 d<|resolve σ x)
   |_=>match(resolve σ x).sl.av with
    |.ptr .. =>match(resolve σ x).addr with
     |some _=>fM (c6 d<|resolve σ x)
     |none=>none
    |_=>none
  |.assign x=>fM (dy d<|resolve σ x)
  |.pick c x y=>match(resolve σ c).cont with
   |some (.v<|.bool b)=>match b with
    |true=>fM (c6 d<|resolve σ x)
    |false=>fM (c6 d<|resolve σ y)
   |_=>none
  |.alloc t=>match bY P t with
   |some ti=>some ([.make [] d<|.box true ti.zero],[])
   |none=>none
  |.box t x=>match bY P t with
   |some ti=>match dT (resolve σ x)with
    |some (y,M)=>if fits ti y then some ([.make M d<|.box true y],[])else none
    |none=>none
   |none=>none
  |.build t ps=>match bY P t with
   |some ti=>match ti.zero with
    |.agg z=>match placesOf P t with
     |some pl=>match fG (ps.toList.map λp=>resolve σ p.2)with
      |some (ys,M)=>match sX pl z ((ps.toList.map (·.1)).zip ys)with
       |some cs=>some ([.make M d<|.agg cs],[])
       |none=>none
      |none=>none
     |none=>none
    |_=>none
   |none=>none
  |.buildSlice t n ps=>match dt P t with
   |some e=>match bY P e with
    |some ti=>match fG (ps.toList.map λp=>resolve σ p.2)with
     |some (ys,M)=>if(ps.toList.map (·.1)=List.range n)/\(ys.all<|fits ti)/\n*ti.size<=2^24/\n<=maxLen then some ([.make M d<|.list .own ti.size ys],[])else none
     |none=>none
    |none=>none
   |none=>none
  |.load t a=>fM (sP P d t<|resolve σ a)
  |.fieldAddr t x f=>fM (jY P d t (resolve σ x) f)
  |.field t x f=>fM (yS P d t (resolve σ x) f)
  |.indexAddr t x i=>fM (gn P d t (resolve σ x)<|resolve σ i)
  |.index t x i=>fM (vj P d t (resolve σ x)<|resolve σ i)
  |.extract x i=>fM (od d (resolve σ x) i)
  |.binOp op t x y _=>match(resolve σ x).cont with
   |some a=>match(resolve σ y).cont with
    |some b=>match mw P op t a b with
     |some v=>some ([.put d v],[])
     |none=>none
    |none=>none
   |none=>none
  |.unOp op _ x=>match(resolve σ x).cont with
   |some (.v a)=>match Z2 op a with
    |some v=>some ([.put d<|.v v],[])
    |none=>none
   |_=>none
  |.convert s t x=>fM (DC P d s t<|resolve σ x)
  |.slice t x l h m=>fM (qA P d t (resolve σ x) (l.map<|resolve σ) (h.map<|resolve σ)<|m.map<|resolve σ)
  |.makeSlice t l c=>match dt P t with
   |some e=>match bY P e with
    |some ti=>match(resolve σ l).cont,(resolve σ c).cont with
     |some (.v<|.int _ a),some (.v<|.int _ b)=>if 0<=a/\a<=b/\b*ti.bytes<=140737488355328/\b<=maxLen/\0<ti.size then
       some ([.make [] d<|.list .own ti.size<|List.replicate a.toNat ti.zero],[])else none
     |_,_=>none
    |none=>none
   |none=>none
  |.makeFunc f first captured=>match gL (first.toList.map<|resolve σ),gL (captured.toList.map<|resolve σ)with
   |some a,some c=>if(shares<|first.toList.map (resolve σ)++captured.toList.map (resolve σ)).isEmpty then some ([.put d<|.fn f a c],[])else none
   |_,_=>none
  |.call c=>match c.callee with
   |.value f=>DQ (some d) (resolve σ f) (c.args.toList.map<|resolve σ) res
   |.builtin b=>fM (j0 P d b c.argTypes.toList<|c.args.toList.map<|resolve σ)
   |_=>none
  |_=>none
section
variable{a:Act}{d t:Nat}{P:Program}{w w' w0:World}
structure Hid where
 v:Nat->Value
 g:Nat->Prop
 rd:Option Nat:=none
 df:List Deferred:=[]
def ak.PY{S:Nat->Prop}{σ:St}{T:Nat->Value}{g1 g2:Nat}{F:List Nat}{g:FuncId}{ba:List (Nat×Nat)}(h:ak w S σ T t F)(cC:(σ t).av=.fI g ba)(dc:ba.all (λq=>q.1 !=d)=true):
 ak w S (gQ σ d ⟨.fI g ba,g1,g2⟩) (gQ T d<|T t) d []:=by
 have HM:∀q∈ba,q.1≠d:=by simpa using dc
 unfold ak at h⊢;rw[cC]at h;simp only[aA]at h⊢;obtain⟨-,h2,h3⟩:=h;refine⟨ao,λq hq=>by rw[ai _ _<|HM q hq];exact h2 q hq,λk=>?_⟩;rw[h3 λq hq=>by have:=k q hq;rwa[ai _ _<|HM q hq]at this]
 congr 2
 exact adE λq hq=>by rw[ai _ _<|HM q hq]
def cu(V:Hid)(w0:World)(b:Nat):Prop:=w0.heap.size<=b\/V.g b
structure uj(V:Hid)(w0 w w':World):Prop where
 os:w'.os=w.os
 tape:w'.tape=w.tape
 output:w'.output=w.output
 size:w.heap.size<=w'.heap.size
 block:∀k,k<w0.heap.size->¬V.g k->w'.heap[k]?=w.heap[k]?
def lP(V:Hid)(w0 w:World):Prop:=uj V w0 w0 w
def Laid(P:Program)(w:World):Prop:=Lib.TabIs P w "internal/strconv.uint64pow10" .u64 Lib.pow10Tab
def AX(P:Program)(B:Nat->Prop):Prop:=∀g,P.globalNamed "internal/strconv.uint64pow10"=some g->¬B g
structure ky(P:Program)(V:Hid)(w:World):Prop where
 laid:Laid P w
 apart:AX P V.g
def Laid.same(h:Laid P w)(hg:∀g,P.globalNamed "internal/strconv.uint64pow10"=some g->g<w.heap.size->w'.heap[g]?=w.heap[g]?):Laid P w':=by
 unfold Laid Lib.TabIs World.var? at*;cases hn:P.globalNamed "internal/strconv.uint64pow10" with
 |none=>rw[hn]at h;cases h
 |some g=>
  rw[hn]at h;simp at h⊢;have cS:g<w.heap.size:=by apply aeY;intro hh;rw[ag1<|by omega]at h;cases h
  rw[hg g hn cS];exact h
def Laid.lt(h:Laid P w){g:Nat}(hn:P.globalNamed "internal/strconv.uint64pow10"=some g):g<w.heap.size:=by unfold Laid Lib.TabIs World.var? at h;rw[hn]at h;simp at h;apply aeY;intro hh;rw[ag1<|by omega]at h;cases h
def ky.Ke{V:Hid}(h:ky P V w0)(k:lP V w0 w):Laid P w:=h.laid.same λg hn cS=>k.block g cS<|h.apart g hn
def ky.cu{V:Hid}(h:ky P V w0):AX P (cu V w0):=λg hn hb=>hb.elim (λhb=>by have:=h.laid.lt hn;omega)<|h.apart g hn
def AX.mono{B C:Nat->Prop}(h:AX P C)(k:∀b,B b->C b):AX P B:=λg hn hb=>h g hn<|k g hb
def uj.trans{V:Hid}{a b c:World}(h:uj V w0 a b)(k:uj V w0 b c):uj V w0 a c:=⟨k.os.trans h.os,k.tape.trans h.tape,k.output.trans h.output,acX h.size k.size,λi hi hg=>(k.block i hi hg).trans<|h.block i hi hg⟩
def lP.refl(V:Hid)(w:World):lP V w w:=⟨rfl,rfl,rfl,.refl,λ_ _ _=>rfl⟩
def lP.trans{V:Hid}(h:lP V w0 w)(k:uj V w0 w w'):lP V w0 w':=uj.trans h k
def lP.OE{V:Hid}(h:lP V w0 w)(k:Below w.heap.size w w'):lP V w0 w':=h.trans ⟨k.os,k.tape,k.output,k.size,λi hi _=>k.block i<|adv hi h.size⟩
def lP.new{V:Hid}(h:lP V w0 w):∀b,w.heap.size<=b->cu V w0 b:=λ_ hb=>.inl<|acX h.size hb
def wK{V:Hid}{k:Nat}(h:cu V w0 k)(h1:k<w0.heap.size)(h2:¬V.g k):False:=h.elim (λh=>by omega) h2
def tv(V:Hid)(a:Act):Nat->Value:=λi=>if i<1000000\/i<a.tmps.size then a.tmps.getD i undef else V.v i
def vP(V:Hid)(a:Act){i:Nat}(h:i<1000000\/i<a.tmps.size):tv V a i=a.tmps.getD i undef:=by unfold tv;rw[if_pos h]
def nG{V:Hid}(h:d<a.tmps.size)(v:Value):tv V (a.put (some d) v)=gQ (tv V a) d v:=by
 funext i
 unfold tv gQ Act.put;simp only[Array.getD_eq_getD_getElem?,Array.getElem?_setIfInBounds];simp;by_cases e:i=d
 ·subst e;simp[h]
 rw[if_neg λe':d=i=>e e'.symm,if_neg e]
def size_put(a:Act)(d:Option Nat)(v:Value):(a.put d v).tmps.size=a.tmps.size:=by cases d<;>simp[Act.put]
def fE(a:Act)(d:Option Nat)(v:Value):(a.put d v).defers=a.defers:=by cases d<;>simp[Act.put]
def iy(V:Hid)(a:Act)(h:t<1000000):a.eval (.tmp t)=tv V a t:=(vP V a<|.inl h).symm
def Inv(N:Nat)(V:Hid)(w0:World)(S0:Nat->Prop)(σ:St)(a:Act)(w:World):Prop:=∃S F,aS S (cu V w0) σ (tv V a) w F/\a.tmps.size=N/\a.defers=V.df/\(∀b,S0 b->S b)/\(∀b,S b->S0 b\/cu V w0 b)/\lP V w0 w
def FW(rd:Option Nat):Fence:={Fence.wide with round:=rd}
def N8{rd:Option Nat}{n:Nat}{f:FuncId}{args:Array Value}{R:Ending->World->Prop}(h:Calls P f args w R):CallsIn (FW rd) n P f args w R:=by have h1:=(callsIn_wide (n:=n)).2 h;exact⟨ao,λcs _=>h1.2 cs<|room_wide _⟩
def Oper.WE(rd:Option Nat)(P:Program)(o:Oper)(a:Act)(w:World)(next:Act->World->Prop)(Q:Exit->Act->World->Prop):Prop:=o.wpIn (FW rd) 0 P a w next Q
def Oper.oT{rd:Option Nat}{o:Oper}{next:Act->World->Prop}{Q:Exit->Act->World->Prop}(hn:∀c,o.op≠.defer c)
 (h:o.uponIn (FW rd) 0 P a next Q ((execOp a.eval o).run P w)):Oper.WE rd P o a w next Q:=
 ⟨λ_ _=>trivial,by rw[Oper.semAt_eq _ _ _ hn];exact h⟩
def rX(P:Program)(f:FuncId)(vs:Array Value)(w:World)(R:Value->World->Prop):Prop:=∀(rd:Option Nat)(o:Oper)(a:Act)(next:Act->World->Prop)(Q:Exit->Act->World->Prop),(∀v w',R v w'->next (a.put o.dst v) w')->o.uponIn (FW rd) 0 P a next Q ((callFunc f vs).run P w)
def Sound(P:Program)(f:FuncId)(args:List AV)(r:AV):Prop:=
 ∀(w:World)(S:Nat->Prop)(vs:List Value),Laid P w->(∀b,S b->b<w.heap.size)->Cells w S false args vs []->
  rX P f vs.toArray w λv w'=>∃S' F,Below w.heap.size w w'/\(∀b,S b->S' b)/\(∀b,S' b->S b\/w.heap.size<=b)/\(∀b,S' b->b<w'.heap.size)/\
   Rel w' S' r v F/\F.Nodup/\∀b∈F,w.heap.size<=b/\b<w'.heap.size/\¬S' b
end
section
variable{P:Program}{S:Nat->Prop}{B:Nat->Prop}{σ:St}{w:World}{F:Nat->List Nat}{V:Hid}
def B6(w:World)(S:Nat->Prop)(v:Value):Rel w S (jb v) v []:=by
 unfold jb;split
 ·simp[Rel]
 split
 ·rename_i h;simp[Rel,h]
 simp[Rel]
def xE(w:World)(S:Nat->Prop)(one:Bool):∀(l:List Value),(one=true->∀v∈l,v.oneCell'=true)->Cells w S one (l.map jb) l []
 |[],_=>by simp[Cells]
 |v::l,h=>by exact⟨v,l,[],[],rfl,rfl,λh1=>h h1 v<|by simp,B6 w S v,xE w S one l λh1 u hu=>h h1 u<|by simp[hu]⟩
def gV(w:World)(S:Nat->Prop)(v:Value)(h:ny v=true):Rel w S (gb v) v []:=by
 unfold gb;split
 ·rename_i cs;refine⟨cs,rfl,xE w S true _ λ_ v hv=>?_⟩;simp only[ny,ade]at h;exact h v hv
 exact B6 w S v
def aI:Operand->Bool
 |.const v=>ny v
 |.tmp t=>Nat.blt t 1000000
 |_=>true
def fC{t:Nat}(h:aI (.tmp t)=true):t<1000000:=by have:=adk h;omega
def aQ{a:Act}(h:aS S B σ (tv V a) w F)(x:Operand)(hx:aI x=true){y:AV}(hc:(resolve σ x).cont=some y):
 ∃F1,Rel w S y (a.eval x) F1/\(∀b∈F1,∃i,b∈F i)/\
  (∀t,x=.tmp t->(σ t).av.plain=true->F1=F t/\y=(σ t).av)/\
  (∀t r g1 g2,x=.tmp t->(σ t).av=.bA r g1 g2 []->F1=F r/\y=(σ r).av/\tv V a t=tv V a r/\(σ r).av.plain=true):=by
 cases x with
 |const v=>
  simp[resolve,bM.cont]at hc;have hr:=gV w S v hx;have hy:y=gb v:=by split at hc<;>simp_all[Rel]
  subst hy;exact⟨[],hr,by simp,by simp,by simp⟩
 |func f=>simp[resolve,bM.cont,abr]at hc;subst hc;refine⟨[],?_,by simp,by simp,by simp⟩;exact⟨#[],#[],[],[],rfl,by simp[Cells],by simp[Cells],rfl⟩
 |global g=>simp[resolve,bM.cont,Sl.none]at hc
 |tmp t=>
  have LZ:a.eval (.tmp t)=tv V a t:=iy V a<|fC hx;simp[resolve]at hc;have ht:=h.rel t;rw[LZ];by_cases hp:(σ t).av.plain=true
  ·rw[ak.aB hp]at ht;have hy:y=(σ t).av:=by
    unfold bM.of at hc;split at hc
    ·rename_i e;rw[e]at hp;simp[AV.plain]at hp
    ·rename_i e;rw[e]at hp;simp[AV.plain]at hp
    ·rename_i e;rw[e]at hp;simp[AV.plain]at hp
    simp[bM.cont]at hc;split at hc<;>simp_all[AV.plain]
   subst hy;refine⟨F t,ht,λb hb=>⟨t,hb⟩,λt' e _=>?_,λt' r g1 g2 e hb=>?_⟩
   ·cases e;exact ab
   cases e;rw[hb]at hp;simp[AV.plain]at hp
  cases cC:(σ t).av with
  |bA r g1 g2 p=>
   unfold ak at ht;rw[cC]at ht;simp only at ht;simp only[bM.of,cC,bM.cont]at hc;split at hc
   ·rename_i e1;split at hc
    ·rename_i e2;split at hc
     ·rename_i y' D7;split at hc
      ·rename_i Kp;simp[abr]at hc;subst hc;simp[acd]at Kp;obtain⟨-,-,-,h4⟩:=ht;obtain⟨L,l1,l2,l3⟩:=h4 e1 (GO e2) λ_=>⟨_,D7⟩;by_cases HK:p=[]
       ·subst HK;simp[bg,abr]at D7;subst D7;have hr:=h.rel r;rw[ak.aB Kp.2]at hr;simp[loc,abr]at l1;subst l1;simp[holds]at l2;refine⟨F r,by rw[l2];exact hr,λb hb=>⟨r,hb⟩,λt' e iD=>?_,λt' r' U7 U6 e hb=>?_⟩
        ·cases e;rw[cC]at iD;simp[AV.plain]at iD
        cases e;rw[cC]at hb;cases hb;exact⟨rfl,rfl,l2,Kp.2⟩
       have iD:(σ r).av.plain=true:=by
        cases p with
        |nil=>exact absurd rfl HK
        |cons s p=>cases hh:(σ r).av<;>simp[AV.plain]<;>(rw[hh]at D7;simp[bg]at D7)
       have hr:=h.rel r;rw[ak.aB iD]at hr;obtain⟨L1,z1,F1,r1,r2,r3,r4,r5⟩:=Rel.read p (L:=.val<|tv V a r) hr rfl D7;rw[l1]at r1;cases r1;have hz:tv V a t=z1:=by
        cases L with
        |val q=>simp[holds]at l2 r2;rw[l2,r2]
        |addr ad=>
         have ha:=l3 ad rfl;have iV:y'.cell=true:=by
          unfold yC at Kp;split at Kp
          ·exact absurd rfl HK
          ·rename_i i;simp[loc,step1]at l1;cases hT:tv V a r<;>rw[hT]at l1<;>simp[bU]at l1
          exact Kp.1
         have h1:=At.cell l2<|cj ha;have h2:=At.cell r2<|cj<|r3.one iV;rw[h1]at h2;simpa using h2
       refine⟨F1,by rw[hz];exact r3,λb hb=>⟨r,r4 b hb⟩,λt' e iD=>?_,λt' r' U7 U6 e hb=>?_⟩
       ·cases e;rw[cC]at iD;simp[AV.plain]at iD
       cases e;rw[cC]at hb;cases hb;exact absurd rfl HK
      cases hc
     cases hc
    cases hc
   cases hc
  |ptr r g1 g2 p=>simp[bM.of,cC,bM.cont]at hc
  |abs J=>simp[bM.of,cC,bM.cont,Sl.none]at hc
  |fI g ba=>simp[bM.of,cC,bM.cont]at hc
  |_=>rw[cC]at hp;simp[AV.plain]at hp
def Iq{a:Act}(h:aS S B σ (tv V a) w F){t r g1 g2:Nat}{p:Path}{y:AV}(cC:(σ t).av=.bA r g1 g2 p)(hc:(resolve σ<|.tmp t).cont=some y)
 {L:Loc}{z:Value}{F1:List Nat}(hl:loc w (.val<|tv V a r) p=some L)(hh:holds w L z)(hr:Rel w S y z F1):z=tv V a t:=by
 have ht:=h.rel t;unfold ak at ht;rw[cC]at ht;obtain⟨-,-,-,h4⟩:=ht;simp only[resolve,bM.of,cC,bM.cont]at hc;split at hc
 ·rename_i e1;split at hc
  ·rename_i e2;obtain⟨L',l1,l2,l3⟩:=h4 e1 (GO e2) λ_=>by
    cases hgp:bg (σ r).av p with
    |none=>rw[hgp]at hc;cases hc
    |some y2=>simp_all
   rw[hl]at l1;cases l1;cases L with
   |val q=>simp[holds]at l2 hh;rw[l2,hh]
   |addr ad=>
    split at hc
    ·split at hc
     ·rename_i Kp;simp at hc;rw[hc]at Kp;simp at Kp;have iV:y.cell=true:=by
       have:=Kp.1;unfold yC at this;split at this
       ·simp[loc]at hl
       ·simp[loc,step1]at hl;cases hT:tv V a r<;>rw[hT]at hl<;>simp[bU]at hl
       exact this
      have h1:=At.cell l2<|cj<|l3 ad rfl;have h2:=At.cell hh<|cj<|hr.one iV;rw[h1]at h2;simpa using h2.symm
     cases hc
    cases hc
  cases hc
 cases hc
def DD{t r g1 g2:Nat}{p:Path}{y:AV}(cC:(σ t).av=.bA r g1 g2 p)(hc:(resolve σ<|.tmp t).cont=some y):
 bg (σ r).av p=some y/\(p≠[]->(σ r).av.plain=true)/\y.plain=true:=by
 simp only[resolve,bM.of,cC,bM.cont]at hc;split at hc
 ·split at hc
  ·split at hc
   ·rename_i y' hy;split at hc
    ·rename_i Kp;cases hc;simp at Kp;refine⟨hy,λhp=>?_,Kp.2⟩;cases p with
     |nil=>simp_all
     |cons s p=>cases hh:(σ r).av<;>simp[AV.plain]<;>(rw[hh]at hy;simp[bg]at hy)
    cases hc
   cases hc
  cases hc
 cases hc
def Inv.put{N:Nat}{w0:World}{S0:Nat->Prop}{a:Act}{d:Nat}{y:AV}{z:Value}(h:Inv N V w0 S0 σ a w)(hd:d<N)
 (fK:∀S F,aS S (cu V w0) σ (tv V a) w F->ak w S (gQ σ d ⟨y,(σ d).g1+1,(σ d).g2⟩) (gQ (tv V a) d z) d []):
 Inv N V w0 S0 (gQ σ d ⟨y,(σ d).g1+1,(σ d).g2⟩) (a.put (some d) z) w:=by
 obtain⟨S,F,hc,hN,jx,jn,gD,hb⟩:=h;refine⟨S,gQ F d [],?_,by rw[size_put];exact hN,by rw[fE];exact jx,jn,gD,hb⟩;rw[nG<|by rw[hN];exact hd];exact hc.put d y z<|fK S F hc
def Inv.iH{N:Nat}{w0:World}{S0:Nat->Prop}{a:Act}{d:Nat}{y:AV}{z:Value}(h:Inv N V w0 S0 σ a w)(hd:d<N)
 (fK:∀S F,aS S (cu V w0) σ (tv V a) w F->Rel w S y z []):
 Inv N V w0 S0 (gQ σ d ⟨y,(σ d).g1+1,(σ d).g2⟩) (a.put (some d) z) w:=
 h.put hd λS F hc=>by have:=fK S F hc;rw[ak.aB<|by rw[aA];exact this.plain];simpa[aA]using this
def Mv.bR{d:Nat}{y:AV}:Mv.runs σ [.put d y]=some (gQ σ d ⟨y,(σ d).g1+1,(σ d).g2⟩):=rfl
def wI(v:Value):(jb v).aF=true:=by
 unfold jb;split
 ·rfl
 split<;>rfl
def uw:∀l:List Value,bx (l.map jb)=true
 |[]=>rfl
 |v::l=>by simp[bx,wI,uw l]
def jG(v:Value):(gb v).aF=true:=by
 unfold gb;split
 ·simp[AV.aF,uw]
 exact wI v
def Hk(v:Value):(jb v).plain=true:=by
 unfold jb;split
 ·rfl
 split<;>rfl
def dJ(v:Value):(gb v).plain=true:=by
 unfold gb;split
 ·rfl
 exact Hk v
def lN{N:Nat}{w0:World}{S0:Nat->Prop}{a:Act}{d:Nat}{σ':St}(h:Inv N V w0 S0 σ a w)(hd:d<N)(x:Operand)(hx:aI x=true){ms:List Mv}
 (hm:c6 d (resolve σ x)=some ms)(hr:Mv.runs σ ms=some σ'):Inv N V w0 S0 σ' (a.put (some d)<|a.eval x) w:=by
 cases x with
 |const v=>
  have:ms=[.put d<|gb v]:=by simp[resolve,c6]at hm;have h1:=jG v;have h2:=dJ v;split at hm<;>simp_all[AV.plain]
  subst this;simp[Mv.bR,abr]at hr;subst hr;exact h.iH hd λS F _=>gV w S v hx
 |func f=>
  simp[resolve,c6,AV.aF,bx,aho,if_true,abr]at hm;subst hm;simp[Mv.bR,abr]at hr;subst hr;exact h.iH hd λS F _=>by simp only[Rel,Act.eval];exact⟨#[],#[],[],[],rfl,by simp[Cells],by simp[Cells],rfl⟩
 |global g=>simp[resolve,Sl.none,c6,AV.aF,if_true,abr]at hm;subst hm;simp[Mv.bR,abr]at hr;subst hr;exact h.iH hd λS F _=>by simp[Rel]
 |tmp t=>
  rw[iy V a<|fC hx];cases cC:(σ t).av with
  |bA r g1 g2 p=>
   simp only[resolve,bM.of,cC,c6]at hm;split at hm
   ·cases hm
   rename_i dc;cases hm;simp[Mv.bR,abr]at hr;subst hr;refine h.put hd λS F hc=>?_;have ht:=hc.rel t;unfold ak at ht⊢;rw[cC]at ht;simp only[aA,ai _ _ dc]at ht⊢;exact⟨ao,ht.2⟩
  |ptr r g1 g2 p=>
   simp only[resolve,bM.of,cC,c6]at hm;split at hm
   ·cases hm
   rename_i dc;cases hm;simp[Mv.bR,abr]at hr;subst hr;refine h.put hd λS F hc=>?_;have ht:=hc.rel t;unfold ak at ht⊢;rw[cC]at ht;simp only[aA,ai _ _ dc]at ht⊢;exact⟨ao,ht.2⟩
  |abs J=>simp[resolve,bM.of,cC,Sl.none,c6,AV.aF,if_true,abr]at hm;subst hm;simp[Mv.bR,abr]at hr;subst hr;exact h.iH hd λS F hc=>by simp[Rel]
  |fI g ba=>
   simp only[resolve,bM.of,cC,c6]at hm;split at hm
   ·rename_i dc;cases hm;simp only[Mv.bR,abr]at hr;subst hr;exact h.put hd λS F hc=>(hc.rel t).PY cC dc
   cases hm
  |_=>
   all_goals
    have iD:(σ t).av.plain=true:=by rw[cC];rfl
    have Pj:(resolve σ<|.tmp t)=⟨some t,σ t,.none⟩:=by simp[resolve,bM.of,cC]
    rw[Pj]at hm;have jC:(if(σ t).av.aF then some [Mv.put d (σ t).av]else if t=d then none else some [.put d<|.bA t (σ t).g1 (σ t).g2 []])=some ms:=by simpa only[c6,cC]using hm
    split at jC
    ·rename_i gu;cases jC;simp only[Mv.bR,abr]at hr;subst hr;exact h.iH hd λS F hc=>by have ht:=hc.rel t;rw[ak.aB iD]at ht;rw[Rel.aF _ ht gu]at ht;exact ht
    split at jC
    ·cases jC
    rename_i dc;cases jC;simp only[Mv.bR,abr]at hr;subst hr;refine h.put hd λS F hc=>?_;unfold ak;simp only[aA,ai _ _ dc];exact⟨ao,abZ _,abZ _,λ_ _ _=>⟨.val _,rfl,rfl,by simp⟩⟩
end
section
variable{P:Program}{N:Nat}{w0 w:World}{V:Hid}{S0:Nat->Prop}{σ σ':St}{a:Act}
section
variable{y:AV}{M:List Nat}{d:Nat}
def oX(w:World)(cs:Array Value)(e:TypeId):row? (w.alloc<|.cells cs e) w.heap.size=some (cs,(0,0)):=by unfold row?;rw[heap_alloc_new]
def oW(w:World)(o:Obj){b:Nat}(h:b<w.heap.size):(w.alloc o).heap[b]?=w.heap[b]?:=Below.heap_alloc w o b h
def Inv.make{w':World}{z:Value}(h:Inv N V w0 S0 σ a w)(hd:d<N)(hb:Below w.heap.size w w')
 (hf:∀S F,aS S (cu V w0) σ (tv V a) w F->∃Fy,Rel w' S y z Fy/\Fy.Nodup/\∀b∈Fy,(∃m∈M,b∈F m)\/w.heap.size<=b/\b<w'.heap.size):
 Inv N V w0 S0 (made σ M d y) (a.put (some d) z) w':=by
 obtain⟨S,F,hc,hN,jx,jn,gD,dB⟩:=h;obtain⟨Fy,h1,h2,h3⟩:=hf S F hc;refine⟨S,λi=>if i=d then Fy else if i∈M then[]else F i,?_,by rw[size_put];exact hN,by rw[fE];exact jx,jn,gD,dB.OE hb⟩;rw[nG<|by rw[hN];exact hd];refine hc.make M d y z Fy dB.new hb.size (λb dO _=>?_) h2 h3 h1;exact hb.block b dO
def jf:Mv.runs σ [.make M d y]=some (made σ M d y):=rfl
def Ix(h:Inv N V w0 S0 σ a w)(hd:d<N)(x:Operand)(hx:aI x=true){ms:List Mv}
 (hm:dy d (resolve σ x)=some ms)(hr:Mv.runs σ ms=some σ'):Inv N V w0 S0 σ' (a.put (some d)<|a.eval x) w:=by
 have general:∀y,(resolve σ x).cont=some y->y.aF=true->ms=[.put d y]->Inv N V w0 S0 σ' (a.put (some d)<|a.eval x) w:=by
  intro y hy gu mn;subst mn;simp only[Mv.bR,abr]at hr;subst hr;exact h.iH hd λS F hc=>by obtain⟨F1,h1,-⟩:=aQ hc x hx hy;rw[Rel.aF _ h1 gu]at h1;exact h1
 cases x with
 |const v=>
  have:ms=[.put d<|gb v]:=by simp only[resolve,dy]at hm;have h1:=jG v;have h2:=dJ v;split at hm<;>simp_all[AV.plain]
  subst this;simp only[Mv.bR,abr]at hr;subst hr;exact h.iH hd λS F _=>gV w S v hx
 |func f=>simp only[resolve,dy,AV.aF,bx,aho,if_true,abr]at hm;exact general (.fn (.func f) [] []) rfl rfl hm.symm
 |global g=>simp only[resolve,Sl.none,dy,AV.aF,if_true,abr]at hm;subst hm;simp only[Mv.bR,abr]at hr;subst hr;exact h.iH hd λS F _=>by simp[Rel]
 |tmp t=>
  have LZ:a.eval (.tmp t)=tv V a t:=iy V a<|fC hx;cases cC:(σ t).av with
  |ptr r g1 g2 p=>
   rw[LZ];simp only[resolve,bM.of,cC,dy]at hm;split at hm
   ·cases hm
   rename_i dc;cases hm;simp only[Mv.bR,abr]at hr;subst hr;refine h.put hd λS F hc=>?_;have ht:=hc.rel t;unfold ak at ht⊢;rw[cC]at ht;simp only[aA,ai _ _ dc]at ht⊢;exact⟨ao,ht.2⟩
  |bA r g1 g2 p=>
   simp only[resolve,bM.of,cC,dy]at hm;split at hm
   ·rename_i y hy;split at hm
    ·rename_i gu;simp only[abr]at hm;exact general y (by simpa only[resolve,bM.of,cC]using hy) gu hm.symm
    have D7:(resolve σ<|.tmp t).cont=some y:=by simpa only[resolve,bM.of,cC]using hy
    obtain⟨gE,abI,abH⟩:=DD cC D7;have HJ:(σ r).av.plain=true:=by
     by_cases hp:p=[]
     ·subst hp;simp only[bg,abr]at gE;rw[gE];exact abH
     exact abI hp
    have Pb:ms=[.take r d p]->Inv N V w0 S0 σ' (a.put (some d)<|a.eval<|.tmp t) w:=by
     intro mn;subst mn;simp only[Mv.runs,Mv.run]at hr;split at hr
     ·rename_i σ1 lU;cases hr;split at lU
      ·cases lU
      rename_i RJ;rw[gE]at lU;simp only at lU;split at lU
      ·rename_i av' hs;cases lU;obtain⟨S,F,hc,hN,jx,jn,gD,dB⟩:=h;obtain⟨L,z,F2,F',k1,k2,k3,k4,-⟩:=hc.take r d p RJ HJ gE hs;rw[Iq hc cC D7 k1 k2 k3]at k4;refine⟨S,F',?_,by rw[size_put];exact hN,by rw[fE];exact jx,jn,gD,dB⟩;rw[nG<|by rw[hN];exact hd,LZ];exact k4
      cases lU
     cases hr
    split at hm
    ·simp only[abr]at hm;exact Pb hm.symm
    ·simp only[abr]at hm;exact Pb hm.symm
    split at hm
    ·cases hm
    rename_i x8;cases hm;simp only[Mv.runs,Mv.run,gE]at hr;split at hr
    ·rename_i σ1 lU;split at lU
     ·rename_i av' hs;simp only[abr]at lU hr;subst lU;subst hr;obtain⟨S,F,hc,hN,jx,jn,gD,dB⟩:=h;obtain⟨L,z,F1,F',k1,k2,k3,k4,k5⟩:=hc.share r p HJ gE hs;have hz:=Iq hc cC D7 k1 k2 k3;have eQ:∀b∈F1,cu V w0 b:=λb hb=>(hc.own r b<|k5 b hb).1;have hS:=Rel.share (S':=λb=>S b\/b∈F1) (λ_ h=>.inl h) _ k3 λb hb=>.inr hb;refine⟨λb=>S b\/b∈F1,gQ F' d [],?_,by rw[size_put];exact hN,by rw[fE];exact jx,λb hb=>.inl<|jn b hb,λb hb=>hb.elim (gD b) λhb=>.inr<|eQ b hb,dB⟩;rw[nG<|by rw[hN];exact hd];refine k4.put d _ _ ?_;rw[ak.aB<|by rw[aA];exact hS.plain,aA,aA,LZ,<-hz];exact hS
     cases lU
    cases hr
   cases hm
  |abs J=>simp only[resolve,bM.of,cC,Sl.none,dy,AV.aF,if_true,abr]at hm;subst hm;simp only[Mv.bR,abr]at hr;subst hr;exact h.iH hd λS F hc=>by simp[Rel]
  |fI g ba=>
   rw[LZ];simp only[resolve,bM.of,cC,dy]at hm;split at hm
   ·rename_i dc;cases hm;simp only[Mv.bR,abr]at hr;subst hr;exact h.put hd λS F hc=>(hc.rel t).PY cC dc
   cases hm
  |box b z=>
   rw[LZ];have iD:(σ t).av.plain=true:=by rw[cC];rfl
   have Pj:(resolve σ<|.tmp t)=⟨some t,σ t,.none⟩:=by simp[resolve,bM.of,cC]
   rw[Pj]at hm;have jC:(if(σ t).av.aF then some [Mv.put d (σ t).av]else if t=d then none else some [.put d<|.bA t (σ t).g1 (σ t).g2 []])=some ms:=by simpa only[dy,cC]using hm
   split at jC
   ·rename_i gu;cases jC;simp only[Mv.bR,abr]at hr;subst hr;exact h.iH hd λS F hc=>by have ht:=hc.rel t;rw[ak.aB iD]at ht;rw[Rel.aF _ ht gu]at ht;exact ht
   split at jC
   ·simp at jC
   rename_i dc;cases jC;simp only[Mv.bR,abr]at hr;subst hr;refine h.put hd λS F hc=>?_;unfold ak;simp only[aA,ai _ _ dc];exact⟨ao,abZ _,abZ _,λ_ _ _=>⟨.val _,rfl,rfl,by simp⟩⟩
  |_=>
   all_goals
    rw[LZ];have iD:(σ t).av.plain=true:=by rw[cC];rfl
    have Pj:(resolve σ<|.tmp t)=⟨some t,σ t,.none⟩:=by simp[resolve,bM.of,cC]
    rw[Pj]at hm;have jC:(if(σ t).av.aF then some [Mv.put d (σ t).av]else if t=d then none else some [.make [t] d (σ t).av])=some ms:=by simpa only[dy,cC]using hm
    split at jC
    ·rename_i gu;cases jC;simp only[Mv.bR,abr]at hr;subst hr;exact h.iH hd λS F hc=>by have ht:=hc.rel t;rw[ak.aB iD]at ht;rw[Rel.aF _ ht gu]at ht;exact ht
    split at jC
    ·simp at jC
    cases jC;simp only[jf,abr]at hr;subst hr;refine h.make hd (.refl _ _) λS F hc=>?_;have ht:=hc.rel t;rw[ak.aB iD]at ht;exact⟨F t,ht,hc.nodup t,λb hb=>.inl ⟨t,by simp,hb⟩⟩
end
end
section
variable{P:Program}{N:Nat}{w0 w:World}{V:Hid}{S S0:Nat->Prop}{B:Nat->Prop}{σ σ':St}{a:Act}{F:Nat->List Nat}
section
variable{y:AV}{F1:List Nat}{t:TypeId}{z:Value}
def gH{rd:Option Nat}{o:Oper}{K:Act->World->Prop}{Q:Exit->Act->World->Prop}{v:Value}{w':World}(hr:(execOp a.eval o).run P w=.ok (.value v) w')(h:K (a.put o.dst v) w'):Oper.WE rd P o a w K Q:=by refine Oper.oT (λc hc=>?_) (by rw[hr];exact h);simp[execOp,hc]at hr;cases hz:(Go.resolve a.eval c o.type).run P w<;>simp[hz]at hr
def o8(h:aS S B σ (tv V a) w F)(x:Operand)(hx:aI x=true){M:List Nat}(hg:dT (resolve σ x)=some (y,M)):
 ∃Fy,Rel w S y (a.eval x) Fy/\Fy.Nodup/\∀b∈Fy,∃m∈M,b∈F m:=by
 have general:(resolve σ x).cont=some y->y.aF=true->∃Fy,Rel w S y (a.eval x) Fy/\Fy.Nodup/\∀b∈Fy,∃m∈M,b∈F m:=by intro hy gu;obtain⟨F1,h1,-⟩:=aQ h x hx hy;rw[Rel.aF _ h1 gu]at h1;exact⟨[],h1,adn,by simp⟩
 cases x with
 |const v=>
  have:y=gb v:=by simp[resolve,dT]at hg;have h2:=dJ v;split at hg<;>simp_all[AV.plain]
  subst this;exact⟨[],gV w S v hx,adn,by simp⟩
 |func f=>obtain⟨rfl,rfl⟩:=hg;exact general rfl rfl
 |global g=>simp[resolve,Sl.none,dT]at hg
 |tmp t=>
  cases cC:(σ t).av with
  |ptr r g1 g2 p=>simp[resolve,bM.of,cC,dT]at hg
  |dead=>simp[resolve,bM.of,cC,dT]at hg
  |bA r g1 g2 p=>
   simp[resolve,bM.of,cC,dT]at hg;split at hg
   ·rename_i y0 hy;have D7:(resolve σ<|.tmp t).cont=some y0:=by simpa only[resolve,bM.of,cC]using hy
    split at hg
    ·rename_i gu;cases hg;exact general D7 gu
    split at hg
    ·rename_i hp;subst hp;cases hg;obtain⟨F1,e1,e2,e3,e4⟩:=aQ h (.tmp t) hx D7;obtain⟨rfl,-,-,-⟩:=e4 t r g1 g2 rfl cC;exact⟨_,e1,h.nodup r,λb hb=>⟨r,by simp,hb⟩⟩
    cases hg
   cases hg
  |abs J=>simp[resolve,bM.of,cC,Sl.none,dT]at hg
  |fI g ba=>simp[resolve,bM.of,cC,dT]at hg
  |_=>
   all_goals
    rw[iy V a<|fC hx];have iD:(σ t).av.plain=true:=by rw[cC];rfl
    have Pj:(resolve σ<|.tmp t)=⟨some t,σ t,.none⟩:=by simp[resolve,bM.of,cC]
    rw[Pj]at hg;have D9:(if(σ t).av.aF then some ((σ t).av,([]:List Nat))else some ((σ t).av,[t]))=some (y,M):=by simpa only[dT,cC]using hg
    have ht:=h.rel t;rw[ak.aB iD]at ht;split at D9
    ·rename_i gu;cases D9;rw[Rel.aF _ ht gu]at ht;exact⟨[],ht,adn,by simp⟩
    cases D9;exact⟨F t,ht,h.nodup t,λb hb=>⟨t,by simp,hb⟩⟩
def lW(h:aS S B σ (tv V a) w F):∀(xs:List Operand),xs.all aI=true->∀{ys:List AV}{M:List Nat},fG (xs.map<|resolve σ)=some (ys,M)->
 ∃Fy,Cells w S false ys (xs.map a.eval) Fy/\Fy.Nodup/\∀b∈Fy,∃m∈M,b∈F m
 |[],_,ys,M,hg=>by obtain⟨rfl,rfl⟩:=hg;exact⟨[],by simp[Cells],adn,by simp⟩
 |x::xs,hx,ys,M,hg=>by
  simp only[adl,acd]at hx;simp only[ado,fG]at hg;split at hg
  ·rename_i y M1 Qm M2 h1 h2;split at hg
   ·rename_i Be;cases hg;obtain⟨F1,a1,a2,a3⟩:=o8 h x hx.1 h1;obtain⟨F2,b1,b2,b3⟩:=lW h xs hx.2 h2;refine⟨F1++F2,?_,?_,λb hb=>?_⟩
    ·simp only[Cells];exact⟨_,_,F1,F2,rfl,rfl,by simp,a1,b1⟩
    ·rw[acT];refine⟨a2,b2,λb hb c hc e=>?_⟩;subst e;obtain⟨m,hm,rV⟩:=a3 b hb;obtain⟨m',jC,aje⟩:=b3 b hc;have:m≠m':=λe=>by
      subst e;have:=ade.1 Be m hm;simp at this;exact this jC
     exact h.di m m' this b rV aje
    rcases ac5.1 hb with hb|hb
    ·obtain⟨m,hm,rV⟩:=a3 b hb;exact⟨m,by simp[hm],rV⟩
    obtain⟨m,hm,rV⟩:=b3 b hb;exact⟨m,by simp[hm],rV⟩
   cases hg
  cases hg
def jR{ti:TI}(h:bY P t=some ti):∃i u z,P.info? t=some i/\P.underlying t=some u/\i.zero=some z/\ti.size=i.size/\ti.bytes=i.bytes/\ti.zero=gb z/\
 ti.agg=(match u with|.struct _|.array .. =>true|_=>false)/\z.cells.size=ti.size/\ny z=true:=by
 unfold bY at h;split at h
 ·rename_i i u h1 h2;split at h
  ·rename_i z hz;split at h
   ·rename_i hzz;cases h;exact⟨i,u,z,h1,h2,hz,rfl,rfl,rfl,rfl,hzz.1,hzz.2⟩
   cases h
  cases h
 cases h
def yu{ti:TI}(h:bY P t=some ti)(w:World):(isAgg t).run P w=.ok ti.agg w:=by obtain⟨i,u,z,h1,h2,h3,h4,h5,h6,h7,-⟩:=jR h;unfold isAgg;simp[run_underlying h2];rw[h7];cases u<;>rfl
def dE{ti:TI}(h:bY P t=some ti)(w:World):(sizeOf t).run P w=.ok ti.size w:=by obtain⟨i,u,z,h1,h2,h3,h4,h5,h6,h7⟩:=jR h;simp[sizeOf,typeInfo,h1,h4]
def B3{ti:TI}(h:bY P t=some ti)(w:World):∃z,(zeroValue t).run P w=.ok z w/\ti.zero=gb z/\z.cells.size=ti.size/\ny z=true:=by obtain⟨i,u,z,h1,h2,h3,h4,h5,h6,h7,h8,h9⟩:=jR h;exact⟨z,by simp[zeroValue,typeInfo,h1,h3],h6,h8,h9⟩
def kK{ti:TI}(ht:bY P t=some ti){ad:Addr}(h:At w ad z)(hz:(ti.agg=true/\∃cs,z=.agg cs/\cs.size=ti.size)\/(ti.agg=false/\z.oneCell'=true)):
 (loadVar t ad).run P w=.ok z w:=by
 unfold loadVar;simp only[Sem.run_bind,yu ht,Result.andThen_ok];rcases hz with⟨h1,cs,rfl,h2⟩|⟨h1,h2⟩
 ·obtain⟨hs,cs',fz,hr,hc⟩:=h;simp[h1,dE ht];have:=run_loadCells_list (P:=P) w ad cs.toList (λj v hv=>by
   rw[bS hs,qb (a:=⟨ad.block,ad.off+j,none⟩) rfl hr];exact hc j v<|by simpa[bf]using hv)
  rw[adu,h2]at this;simp[this]
 simp only[h1,aeu,if_false];rw[run_load,h.cell<|cj h2]
def kS{ti:TI}(hf:fits ti y=true)(hr:Rel w S y z F1):
 (ti.agg=true/\∃cs,z=.agg cs/\cs.size=ti.size)\/(ti.agg=false/\z.oneCell'=true):=by
 unfold fits at hf;split at hf
 ·rename_i xs;simp at hf;obtain⟨cs,rfl,hc⟩:=hr;exact .inl ⟨hf.1,cs,rfl,by have:=Cells.length hc;simp at this;omega⟩
 simp at hf;exact .inr ⟨hf.1.1,hr.one hf.2⟩
def aap{ti:TI}(hf:fits ti y=true)(hr:Rel w S y z F1):z.cells.size=ti.size:=by
 unfold fits at hf;split at hf
 ·rename_i xs;simp at hf;obtain⟨cs,rfl,hc⟩:=hr;rw[bf];have:=Cells.length hc;simp at this;omega
 simp at hf;rw[cj<|hr.one hf.2];simp[hf.1.2]
def ik(w:World):∀(p q:Path)(L:Loc),loc w L (p++q)=(loc w L p).bind (loc w · q)
 |[],q,L=>rfl
 |s::p,q,L=>by
  simp[loc];cases step1 w L s with
  |none=>rfl
  |some L'=>simp;exact ik w p q L'
def j6(h:aS S B σ (tv V a) w F)(x:Operand)(bt:aI x=true){r g1 g2:Nat}{p:Path}{av:AV}(hx:(resolve σ x).addr=some (r,g1,g2,p,av)):
 g1=(σ r).g1/\g2=(σ r).g2/\av=(σ r).av/\(∃ad,a.eval x=.pointer (some ad))/\((flat p=false->∃y,bg av p=some y)->∃ad,loc w (.val<|tv V a r) p=some (.addr ad)/\a.eval x=.pointer (some ad)):=by
 cases x with
 |const v=>
  simp[resolve,bM.addr]at hx;have h2:=dJ v;split at hx
  ·rename_i e;rw[e]at h2;simp[AV.plain]at h2
  ·cases hx
  ·rename_i e;rw[e]at h2;simp[AV.plain]at h2
  cases hx
 |func f=>simp[resolve,bM.addr]at hx
 |global g=>simp[resolve,Sl.none,bM.addr]at hx
 |tmp t=>
  have LZ:a.eval (.tmp t)=tv V a t:=iy V a<|fC bt;rw[LZ];have ht:=h.rel t;cases cC:(σ t).av with
  |ptr r' U7 U6 p'=>
   unfold ak at ht;rw[cC]at ht;obtain⟨-,-,-,h5,h4⟩:=ht;simp only[resolve,bM.of,cC,bM.addr]at hx;split at hx
   ·rename_i e1;split at hx
    ·rename_i e2;cases hx;exact⟨rfl,rfl,rfl,h5,h4 e1 e2⟩
    cases hx
   cases hx
  |box own x0=>
   have iD:(σ t).av.plain=true:=by rw[cC];rfl
   rw[ak.aB iD,cC]at ht;simp[resolve,bM.of,cC,bM.addr,abr,ac3]at hx;obtain⟨rfl,rfl,rfl,rfl,rfl⟩:=hx;obtain⟨b,cs,fz,F',z,h1,-⟩:=ht;exact⟨rfl,rfl,by rw[cC],⟨⟨b,0,none⟩,h1⟩,λ_=>⟨⟨b,0,none⟩,by simp[loc,step1,h1,bU],h1⟩⟩
  |bA r' U7 U6 p'=>
   simp[resolve,bM.of,cC,bM.addr]at hx;split at hx
   ·rename_i own x0 hc;simp[abr,ac3]at hx;obtain⟨rfl,rfl,rfl,rfl,rfl⟩:=hx;have cm:(resolve σ<|.tmp t).cont=some (.box own x0):=by simpa only[resolve,bM.of,cC]using hc
    have Pc:=ht;unfold ak at Pc;rw[cC]at Pc;obtain⟨-,-,-,h4⟩:=Pc;have hv:∃L,loc w (.val<|tv V a r') p'=some L/\holds w L (tv V a t):=by
     simp only[bM.cont,cC]at hc;split at hc
     ·rename_i e1;split at hc
      ·rename_i e2;obtain⟨L,l1,l2,-⟩:=h4 e1 (GO e2) λ_=>by
        cases hgp:bg (σ r').av p' with
        |none=>rw[hgp]at hc;cases hc
        |some y2=>exact⟨y2,rfl⟩
       exact⟨L,l1,l2⟩
      cases hc
     cases hc
    obtain⟨L,l1,l2⟩:=hv;obtain⟨F1,e1,-⟩:=aQ h (.tmp t) bt cm;simp only[Rel,LZ]at e1;obtain⟨b,cs,fz,F',z,h1,-⟩:=e1;refine⟨rfl,rfl,rfl,⟨⟨b,0,none⟩,h1⟩,λ_=>⟨⟨b,0,none⟩,?_,h1⟩⟩;rw[ik,l1];simp[adI,loc];rw[h1]at l2;rw[cx l2 rfl<|by simp];rfl
   cases hx
  |abs J=>simp[resolve,bM.of,cC,bM.addr,Sl.none]at hx
  |fI g ba=>simp[resolve,bM.of,cC,bM.addr]at hx
  |_=>simp[resolve,bM.of,cC,bM.addr]at hx
end
end
section
variable{P:Program}{N:Nat}{w0 w:World}{V:Hid}{S S0:Nat->Prop}{B:Nat->Prop}{σ σ':St}{a:Act}{F:Nat->List Nat}
section
variable{y:AV}{d o r t:Nat}{p:Path}
def Good(N:Nat)(V:Hid)(w0:World)(S0:Nat->Prop)(σ':St)(a:Act)(d:Nat)(r:Result Value):Prop:=∃v w',r=.ok v w'/\Inv N V w0 S0 σ' (a.put (some d) v) w'
def wq{T:Nat->Value}{ad:Addr}(hg:bg (σ r).av p=some y)(hl:loc w (.val<|T r) p=some (.addr ad)):(σ r).av.plain=true:=by
 cases p with
 |nil=>simp[loc]at hl
 |cons s p=>cases hh:(σ r).av<;>simp[AV.plain]<;>(rw[hh]at hg;simp[bg]at hg)
def Inv.Fj{y':AV}{z':Value}(h:Inv N V w0 S0 σ a w)(hd:d<N)(hp:(σ r).av.plain=true)(hg:bg (σ r).av p=some y)
 (hr:Mv.runs σ [.share r p,.put d y']=some σ')
 (hv:∀S F L z F1,aS S (cu V w0) σ (tv V a) w F->loc w (.val<|tv V a r) p=some L->holds w L z->Rel w S y z F1->∀S',Rel w S' y.bw z []->Rel w S' y' z' []):
 Inv N V w0 S0 σ' (a.put (some d) z') w:=by
 simp[Mv.runs,Mv.run,hg]at hr;split at hr
 ·rename_i σ1 lU;split at lU
  ·rename_i av' hs;simp at lU hr;subst lU;subst hr;obtain⟨S,F,hc,hN,jx,jn,gD,dB⟩:=h;obtain⟨L,z,F1,F',k1,k2,k3,k4,k5⟩:=hc.share r p hp hg hs;have eQ:=λb hb=>(hc.own r b<|k5 b hb).1;have hS:=hv S F L z F1 hc k1 k2 k3 (λb=>S b\/b∈F1)<|Rel.share (S':=λb=>S b\/b∈F1) (λ_ h=>.inl h) _ k3 λb hb=>.inr hb;refine⟨λb=>S b\/b∈F1,gQ F' d [],?_,by rw[size_put];exact hN,by rw[fE];exact jx,λb hb=>.inl<|jn b hb,λb hb=>hb.elim (gD b) λhb=>.inr<|eQ b hb,dB⟩;rw[nG<|by rw[hN];exact hd];refine k4.put d _ _ ?_;rw[ak.aB<|by rw[aA];exact hS.plain,aA,aA];exact hS
  cases lU
 cases hr
def MY(h:Inv N V w0 S0 σ a w)(hd:d<N)(x:Operand)(bt:aI x=true){ms:List Mv}
 (hm:sP P d t (resolve σ x)=some ms)(hr:Mv.runs σ ms=some σ'):Good N V w0 S0 σ' a d ((Instr.loadAt t<|a.eval x).run P w):=by
 unfold sP at hm;split at hm
 ·rename_i ti gR;split at hm
  ·rename_i r g1 g2 p av hx;split at hm
   ·rename_i y hg;split at hm
    ·rename_i n8;have bL:∀S F,aS S (cu V w0) σ (tv V a) w F->∃ad z F1,loc w (.val<|tv V a r) p=some (.addr ad)/\At w ad z/\Rel w S y z F1/\(Instr.loadAt t<|a.eval x).run P w=.ok z w/\(σ r).av.plain=true/\av=(σ r).av/\g1=(σ r).g1/\g2=(σ r).g2:=by
      intro S F hc;obtain⟨rfl,rfl,rfl,-,Nr⟩:=j6 hc x bt hx;obtain⟨ad,l1,l2⟩:=Nr λ_=>⟨y,hg⟩;have iD:=wq hg l1;have IH:=hc.rel r;rw[ak.aB iD]at IH;obtain⟨L,z,F1,k1,k2,k3,-⟩:=Rel.read p (L:=.val<|tv V a r) IH rfl hg;rw[l1]at k1;cases k1;refine⟨ad,z,F1,l1,k2,k3,?_,iD,rfl,rfl,rfl⟩;simp[Instr.loadAt,Instr.sureAddr,l2,Sem.run_bind,Sem.run_pure,Result.andThen_ok];exact kK gR k2<|kS n8 k3
     split at hm
     ·rename_i gu;cases hm;simp[Mv.bR,abr]at hr;subst hr;have hI:=h;obtain⟨S,F,hc,-⟩:=h;obtain⟨ad,z,F1,l1,l2,l3,l4,-⟩:=bL S F hc;refine⟨z,w,l4,hI.iH hd λS' F' cm=>?_⟩;obtain⟨L5,z',zI,Wq,Rk,l3',T8,-⟩:=bL S' F' cm;rw[l4]at T8;simp[Result.ok.injEq,and_true]at T8;subst T8;rw[Rel.aF _ l3' gu]at l3';exact l3'
     split at hm
     ·cases hm
     rename_i x8;split at hm
     ·rename_i iV;cases hm;simp[Mv.bR,abr]at hr;subst hr;have hI:=h;obtain⟨S,F,hc,-⟩:=h;obtain⟨ad,z,F1,l1,l2,l3,l4,-⟩:=bL S F hc;refine⟨z,w,l4,hI.put hd λS' F' cm=>?_⟩;obtain⟨L5,z',zI,Wq,Rk,l3',T8,-,rfl,rfl,rfl⟩:=bL S' F' cm;rw[l4]at T8;simp[Result.ok.injEq,and_true]at T8;subst T8;unfold ak;simp only[aA,ai _ _ x8];exact⟨ao,abZ _,abZ _,λ_ _ _=>⟨.addr L5,Wq,Rk,λ_ _=>l3'.one iV⟩⟩
     cases hm;have hI:=h;obtain⟨S,F,hc,-⟩:=h;obtain⟨ad,z,F1,l1,l2,l3,l4,iD,rfl,-⟩:=bL S F hc;refine⟨z,w,l4,hI.Fj hd iD hg hr λS' F' L z' zI cm k1 k2 k3 S'' hS=>?_⟩;obtain⟨L5,z2,F2,Wq,Rk,l3',T8,-⟩:=bL S' F' cm;rw[l4]at T8;simp[Result.ok.injEq,and_true]at T8;subst T8;rw[Wq]at k1;cases k1;have:z'=z:=by
      rcases kS n8 l3' with⟨h1,cs,rfl,h2⟩|⟨h1,h2⟩
      ·rcases kS n8 k3 with⟨h3,cs',rfl,h4⟩|⟨h3,-⟩
       ·congr 1
        obtain⟨-,c1,f1,r1,q1⟩:=Rk;obtain⟨-,c2,f2,r2,q2⟩:=k2;rw[r1]at r2;cases r2;apply aiR;intro j;by_cases hj:j<cs.size
        ·have e1:=q1 j cs[j] (by simp[bf,hj]);have e2:=q2 j cs'[j] (by simp[bf]);rw[e1]at e2;rw[adC hj,adC<|by omega];exact e2.symm
        rw[ag1<|by omega,ag1<|by omega]
       rw[h1]at h3;cases h3
      rcases kS n8 k3 with⟨h3,-⟩|⟨h3,h4⟩
      ·rw[h1]at h3;cases h3
      have e1:=At.cell Rk<|cj h2;have e2:=At.cell k2<|cj h4;rw[e1]at e2;simpa using e2.symm
     rw[<-this];exact hS
    cases hm
   cases hm
  cases hm
 cases hm
def iq(q:Path)(k:AV->Option AV)(hk:∀x,bg x q=k x):∀(p:Path)(x:AV),bg x (p++q)=(bg x p).bind k
 |[],x=>hk x
 |s::p,x=>by
  simp;unfold bg;split
  ·split
   ·rename_i xs i gC _;cases xs[i]?with
    |none=>rfl
    |some x'=>simp;exact iq q k hk p x'
   rfl
  ·exact iq q k hk p _
  ·rename_i xs o;cases xs[o]?with
   |none=>rfl
   |some x'=>simp;exact iq q k hk p x'
  ·split
   ·exact iq q k hk p _
   rfl
  ·rename_i xs i;cases xs[i]?with
   |none=>rfl
   |some x'=>simp;exact iq q k hk p x'
  ·split
   ·exact iq q k hk p _
   rfl
  rfl
def AD(p q:Path)(x:AV):bg x (p++q)=(bg x p).bind (bg · q):=iq q _ (λ_=>rfl) p x
def RS{s:Step}{n:Option Nat}(h:flat (s::p)=false):flat ((s::p)++[.at o n])=false:=by simp only[flat,agL,List.all_append]at h⊢;rw[h];rfl
def aae{av:AV}{ti:TI}(hex:flat (p++[gN ti o])=false->∃y,bg av (p++[gN ti o])=some y)(h0:flat p=false):∃y,bg av p=some y:=by
 cases p with
 |nil=>exact⟨_,rfl⟩
 |cons s p=>
  obtain⟨y,hy⟩:=hex<|RS h0;rw[AD]at hy;cases hgp:bg av (s::p)with
  |none=>rw[hgp]at hy;cases hy
  |some y2=>simp_all
def Bh{f:Nat}(h:Inv N V w0 S0 σ a w)(hd:d<N)(x:Operand)(bt:aI x=true){ms:List Mv}
 (hm:jY P d t (resolve σ x) f=some ms)(hr:Mv.runs σ ms=some σ'):Good N V w0 S0 σ' a d ((Instr.fieldAt t (a.eval x) f).run P w):=by
 unfold jY at hm;split at hm
 ·rename_i o ft hf;split at hm
  ·rename_i ti gR;split at hm
   ·rename_i r g1 g2 p av hx;split at hm
    ·cases hm
    rename_i x8;split at hm
    ·cases hm
    rename_i cM;have mn:ms=[.put d<|.ptr r g1 g2<|p++[gN ti o]]/\(flat (p++[gN ti o])=false->∃y,bg av (p++[gN ti o])=some y):=by
     split at hm
     ·rename_i bt;simp_all
     split at hm
     ·rename_i y hy;simp at hm;simp_all
     cases hm
    obtain⟨rfl,hex⟩:=mn;simp[Mv.bR]at hr;subst hr;have hI:=h;obtain⟨S,F,hc,-⟩:=h;have HK:=aae hex;obtain⟨-,-,-,-,Nr⟩:=j6 hc x bt hx;obtain⟨ad,l1,l2⟩:=Nr HK;have bL:(Instr.fieldAt t (a.eval x) f).run P w=.ok (.pointer<|some<|ad.add o) w:=by
     unfold tR at hf;split at hf
     ·rename_i fs hu;split at hf
      ·rename_i fl bt;cases hf;simp[Instr.fieldAt,run_underlying hu,bt,l2,Instr.sureAddr,fieldPlace,dE gR,cM]
      cases hf
     cases hf
    refine⟨_,w,bL,hI.put hd λS' F' cm=>?_⟩;obtain⟨e1,e2,e3,-,US⟩:=j6 cm x bt hx;obtain⟨L5,Wq,Rk⟩:=US HK;rw[l2]at Rk;simp[abr]at Rk;subst Rk;unfold ak;simp only[aA,ai _ _ x8];refine⟨ao,by omega,by omega,⟨_,rfl⟩,λ_ _ _=>⟨ad.add o,?_,rfl⟩⟩;rw[ik,Wq];simp[loc,step1,gN]
   cases hm
  cases hm
 cases hm
def iQ(h:aS S B σ (tv V a) w F)(x:Operand)(hx:aI x=true){g1 g2:Nat}(hc:(resolve σ x).cont=some y)(hp:(resolve σ x).place=some (r,g1,g2,p)):
 bg (σ r).av p=some y/\(σ r).g1=g1/\(Qu p=true\/(σ r).g2=g2)/\g1<=(σ r).g1/\g2<=(σ r).g2/\(σ r).av.plain=true/\∃L,loc w (.val<|tv V a r) p=some L/\holds w L (a.eval x)/\(∀ad,L=.addr ad->(a.eval x).oneCell'=true):=by
 cases x with
 |const v=>
  simp[resolve,bM.place]at hp;have h2:=dJ v;split at hp
  ·rename_i e;rw[e]at h2;simp[AV.plain]at h2
  ·cases hp
  cases hp
 |func f=>simp[resolve,bM.place]at hp
 |global g=>simp[resolve,Sl.none,bM.place]at hp
 |tmp t=>
  rw[iy V a<|fC hx];cases cC:(σ t).av with
  |bA r' U7 U6 p'=>
   have hp':r=r'/\g1=U7/\g2=U6/\p=p':=by simp[resolve,bM.of,cC,bM.place,abr,ac3]at hp;obtain⟨rfl,rfl,rfl,rfl⟩:=hp;exact⟨rfl,rfl,rfl,rfl⟩
   obtain⟨rfl,rfl,rfl,rfl⟩:=hp';obtain⟨k1,k2,k3⟩:=DD cC hc;have ht:=h.rel t;unfold ak at ht;rw[cC]at ht;obtain⟨-,c1,c2,h4⟩:=ht;simp only[resolve,bM.of,cC,bM.cont]at hc;split at hc
   ·rename_i e1;split at hc
    ·rename_i e2;obtain⟨L,l1,l2,l3⟩:=h4 e1 (GO e2) λ_=>by
      cases hgp:bg (σ r).av p with
      |none=>rw[hgp]at hc;cases hc
      |some y2=>exact⟨y2,rfl⟩
     refine⟨k1,e1,e2,c1,c2,?_,L,l1,l2,l3⟩;by_cases HK:p=[]
     ·subst HK;simp[bg,abr]at k1;rw[k1];exact k3
     exact k2 HK
    cases hc
   cases hc
  |ptr r' U7 U6 p'=>simp[resolve,bM.of,cC,bM.place]at hp
  |abs J=>simp[resolve,bM.of,cC,bM.place,Sl.none]at hp
  |fI g ba=>simp[resolve,bM.of,cC,bM.cont]at hc
  |_=>
   all_goals
    have iD:(σ t).av.plain=true:=by rw[cC];rfl
    have Pj:(resolve σ<|.tmp t)=⟨some t,σ t,.none⟩:=by simp[resolve,bM.of,cC]
    obtain⟨F1,e1,e2,e3,e4⟩:=aQ h (.tmp t) hx hc;have hy:y=(σ t).av:=(e3 t rfl iD).2;rw[Pj]at hp;simp[bM.place,cC,abr,ac3]at hp;obtain⟨rfl,rfl,rfl,rfl⟩:=hp;exact⟨by rw[hy];rfl,rfl,.inl rfl,abZ _,abZ _,iD,.val _,rfl,rfl,by simp⟩
end
end
section
variable{P:Program}{N:Nat}{w0 w:World}{V:Hid}{S S0:Nat->Prop}{B:Nat->Prop}{σ σ':St}{a:Act}{F:Nat->List Nat}
section
variable{y:AV}{F1:List Nat}{d o t:Nat}{z:Value}
def dj(h:aS S B σ (tv V a) w F)(x:Operand)(hx:aI x=true){v:Value}(hc:(resolve σ x).cont=some (.v v)):a.eval x=v:=by obtain⟨F1,h1,-⟩:=aQ h x hx hc;simp[Rel]at h1;exact h1.2.1
def eG{r:Result Value}(h:Inv N V w0 S0 σ a w)(hd:d<N)(hr:Mv.runs σ [.put d y]=some σ')
 (bL:r=.ok z w)(fK:∀S F,aS S (cu V w0) σ (tv V a) w F->Rel w S y z []):Good N V w0 S0 σ' a d r:=by
 simp[Mv.bR]at hr;subst hr;exact⟨z,w,bL,h.iH hd fK⟩
def Rel.jV{f:Fl}{sz:Nat}{xs:List AV}(h:Rel w S (.list f sz xs) z F1):
 ∃ad cap,z=.slice ad xs.length cap/\xs.length<=cap/\(f=.nil->ad=none/\xs=[]/\cap=0)/\(f≠.nil->xs≠[]->∃b off,ad=some ⟨b,off,none⟩)/\(ad=none->xs=[]/\cap=0):=by
 cases f with
 |nil=>simp[Rel]at h;obtain⟨rfl,rfl,-⟩:=h;exact⟨none,0,rfl,by simp,by simp,by simp,by simp⟩
 |shr=>simp only[Rel]at h;rcases h with⟨rfl,⟨ad,rfl⟩,-⟩|⟨b,off,cap,cs,fz,rfl,h2,h3,h4,-⟩
       ·exact⟨ad,0,rfl,by simp,by simp,by simp,by simp⟩
       exact⟨_,cap,rfl,h4,by simp,λ_ _=>⟨b,off,rfl⟩,by simp⟩
 |own=>simp only[Rel]at h;rcases h with⟨rfl,rfl,-⟩|⟨b,cap,cs,F',rfl,h2,h3,-⟩
       ·exact⟨none,0,rfl,by simp,by simp,by simp,by simp⟩
       exact⟨_,cap,rfl,h3,by simp,λ_ _=>⟨b,0,rfl⟩,by simp⟩
def IT:∀(p:Path){q:Path}{sz o n:Nat},E3 p=some (q,sz,o,n)->p=q++[.lR sz o n]
 |[],_,_,_,_,h=>by simp[E3]at h
 |s::p,q,sz,o,n,h=>by
  unfold E3 at h;split at h
  ·split at h
   ·cases h;rfl
   cases h
  split at h
  ·rename_i q' u hq;cases h;rw[IT _ hq];rfl
  cases h
def EZ(h:aS S B σ (tv V a) w F)(x:Operand)(hx:aI x=true){r g1 g2 sz n:Nat}{q:Path}(hw:(resolve σ x).lR=some (r,g1,g2,q,sz,o,n)):
 ∃f xs b off cap len L,bg (σ r).av q=some (.list f sz xs)/\o+n<=xs.length/\0<n/\g1=(σ r).g1/\g2=(σ r).g2/\loc w (.val<|tv V a r) q=some L/\holds w L (.slice (some ⟨b,off,none⟩) len cap)/\
  a.eval x=.slice (some ⟨b,off+o*sz,none⟩) n (cap-o):=by
 cases x with
 |const v=>
  have h2:=dJ v;simp[resolve,bM.lR]at hw;split at hw
  ·rename_i hv;rw[hv]at h2;simp[AV.plain]at h2
  cases hw
 |func f=>simp[resolve,bM.lR]at hw
 |global g=>simp[resolve,bM.lR,Sl.none]at hw
 |tmp t=>
  rw[iy V a<|fC hx];unfold bM.lR at hw;split at hw
  ·rename_i r' U7 U6 p cC;have cC:(σ t).av=.bA r' U7 U6 p:=by
    revert cC;simp[resolve,bM.of];split<;>first|exact id|(intro h;simp[Sl.none]at h)
   split at hw
   ·rename_i q' gC o' n' hu;simp only[resolve,bM.of,cC]at hw;split at hw<;>try(cases hw;done)
    rename_i e1;split at hw<;>try(cases hw;done)
    rename_i e2;split at hw<;>try(cases hw;done)
    rename_i f sz2 xs Rw;split at hw<;>try(cases hw;done)
    rename_i iJ;obtain⟨rfl,k1,k2⟩:=iJ;simp[abr,ac3]at hw;obtain⟨rfl,rfl,rfl,rfl,rfl,rfl,rfl⟩:=hw;have hp:=IT _ hu;have ht:=h.rel t;unfold ak at ht;rw[cC]at ht;simp only at ht;obtain⟨-,-,-,h4⟩:=ht;obtain⟨L,l1,l2,-⟩:=h4 e1 e2 λ_=>⟨.dead,by rw[hp,AD,Rw];simp[bg,k1,k2]⟩;rw[hp,ik]at l1;obtain⟨Lq,m1,m2⟩:=ab3.1 l1;have iD:(σ r').av.plain=true:=by cases hh:(σ r').av<;>simp[AV.plain]<;>(rw[hh]at Rw;cases q'<;>simp[bg]at Rw)
    have IH:=h.rel r';rw[ak.aB iD]at IH;obtain⟨L1,z1,F1,r1,r2,r3,r4,r5⟩:=Rel.read q' (L:=.val<|tv V a r') IH rfl Rw;rw[m1]at r1;cases r1;obtain⟨ad,cap,hz,jX,sS,LW⟩:=r3.jV;have hf:f≠.nil:=λe=>by have:=(sS e).2.1;subst this;simp at k2;omega
    obtain⟨b,off,rfl⟩:=LW.1 hf (λe=>by subst e;simp at k2;omega);refine⟨f,xs,b,off,cap,xs.length,Lq,Rw,k2,k1,e1.symm,rfl,m1,by rw[<-hz];exact r2,?_⟩;simp[loc]at m2;rw[hz]at r2;rw[cx r2 rfl<|by simp]at m2;simp[bU,adI,abr]at m2;subst m2;simp[holds]at l2;rw[l2,bS rfl]
   cases hw
  cases hw
def Bc(h:Inv N V w0 S0 σ a w)(hd:d<N)(x i:Operand)(rG:aI x=true)(hif:aI i=true){ms:List Mv}
 (hm:gn P d t (resolve σ x) (resolve σ i)=some ms)(hr:Mv.runs σ ms=some σ'):Good N V w0 S0 σ' a d ((Instr.indexAt t (a.eval x)<|a.eval i).run P w):=by
 unfold gn at hm;split at hm
 ·rename_i k n hi;split at hm
  ·rename_i e hu;split at hm
   ·rename_i ti gR;split at hm
    ·rename_i r g1 g2 q sz o m hwn;split at hm
     ·rename_i iJ;obtain⟨rfl,No,Nn⟩:=iJ;split at hm
      ·cases hm
      rename_i x8;cases hm;simp only[Mv.bR,abr]at hr;subst hr;have hI:=h;obtain⟨S,F,hc,-⟩:=h;have hiv:=dj hc i hif hi;obtain⟨f,xs,b,off,cap,len,L,z1,z2,z3,z4,z5,z6,z7,z8⟩:=EZ hc x rG hwn;have bL:(Instr.indexAt t (a.eval x)<|a.eval i).run P w=.ok (.pointer<|some<|(⟨b,off,none⟩:Addr).add<|(o+n.toNat)*ti.size) w:=by
       rw[z8,hiv];have:(⟨b,off+o*ti.size,none⟩:Addr).add (n.toNat*ti.size)=(⟨b,off,none⟩:Addr).add ((o+n.toNat)*ti.size):=by rw[bS rfl,bS rfl,ac7];simp only[afc]
       rw[<-this];simp[Instr.indexAt,asIntOf,run_underlying hu,No,Nn,dE gR]
      refine⟨_,w,bL,hI.put hd λS' F' cm=>?_⟩;obtain⟨f',rY,b',ama,agj,amp,L',y1,y2,y3,y4,y5,y6,y7,y8⟩:=EZ cm x rG hwn;rw[y6]at z6;cases z6;unfold ak;simp only[aA,ai _ _ x8];refine⟨ao,by omega,by omega,⟨_,rfl⟩,λ_ _ _=>⟨(⟨b,off,none⟩:Addr).add<|(o+n.toNat)*ti.size,?_,rfl⟩⟩;rw[ik,y6];simp only[adI,loc];rw[cx z7 rfl<|by simp];rfl
     cases hm
    split at hm
    ·rename_i f sz xs hx;split at hm
     ·rename_i iJ;obtain⟨rfl,No,Nn⟩:=iJ;split at hm
      ·rename_i r g1 g2 p hp;split at hm
       ·cases hm
       rename_i x8;cases hm;simp only[Mv.bR,abr]at hr;subst hr;have hI:=h;obtain⟨S,F,hc,-⟩:=h;have hiv:=dj hc i hif hi;obtain⟨F1,e1,-⟩:=aQ hc x rG hx;obtain⟨ad,cap,hz,jX,sS,LW⟩:=e1.jV;have hf:f≠.nil:=λe=>by have:=(sS e).2.1;subst this;simp at Nn;omega
       obtain⟨b,off,rfl⟩:=LW.1 hf (λe=>by subst e;simp at Nn;omega);have bL:(Instr.indexAt t (a.eval x)<|a.eval i).run P w=.ok (.pointer<|some<|(⟨b,off,none⟩:Addr).add<|n.toNat*ti.size) w:=by rw[hz,hiv];simp[Instr.indexAt,asIntOf,run_underlying hu,No,Nn,dE gR]
       refine⟨_,w,bL,hI.put hd λS' F' cm=>?_⟩;obtain⟨q1,q2,q3,q4,q5,q6,L,q7,q8,q9⟩:=iQ cm x rG hx hp;unfold ak;simp only[aA,ai _ _ x8];refine⟨ao,q4,q5,⟨_,rfl⟩,λ_ _ _=>⟨(⟨b,off,none⟩:Addr).add<|n.toNat*ti.size,?_,rfl⟩⟩;rw[ik,q7];simp only[adI,loc];rw[hz]at q8;rw[cx q8 rfl<|by simp];rfl
      cases hm
     cases hm
    cases hm
   cases hm
  ·rename_i len e hu;split at hm
   ·rename_i ti gR;split at hm
    ·rename_i r g1 g2 p av hx;split at hm
     ·rename_i iJ;obtain⟨No,Nn,x8⟩:=iJ;split at hm
      ·rename_i y hy;cases hm;simp only[Mv.bR,abr]at hr;subst hr;have hI:=h;obtain⟨S,F,hc,-⟩:=h;have hiv:=dj hc i hif hi;have HK:flat p=false->∃y,bg av p=some y:=aae λ_=>⟨y,hy⟩;obtain⟨-,-,-,-,Nr⟩:=j6 hc x rG hx;obtain⟨ad,l1,l2⟩:=Nr HK;have bL:(Instr.indexAt t (a.eval x)<|a.eval i).run P w=.ok (.pointer<|some<|ad.add<|n.toNat*ti.size) w:=by
        rw[l2,hiv];simp[Instr.indexAt,asIntOf,run_underlying hu,No,Nn,Instr.sureAddr,dE gR]
       refine⟨_,w,bL,hI.put hd λS' F' cm=>?_⟩;obtain⟨e1,e2,e3,-,US⟩:=j6 cm x rG hx;obtain⟨L5,Wq,Rk⟩:=US HK;rw[l2]at Rk;simp only[Value.pointer.injEq,abr]at Rk;subst Rk;unfold ak;simp only[aA,ai _ _ x8];refine⟨ao,by omega,by omega,⟨_,rfl⟩,λ_ _ _=>⟨ad.add<|n.toNat*ti.size,?_,rfl⟩⟩;rw[ik,Wq];simp[loc,step1,gN]
      simp at hm
     simp at hm
    simp at hm
   simp at hm
  simp at hm
 simp at hm
def EB{i:Nat}(h:Inv N V w0 S0 σ a w)(hd:d<N)(x:Operand)(rG:aI x=true){ms:List Mv}
 (hm:od d (resolve σ x) i=some ms)(hr:Mv.runs σ ms=some σ'):Good N V w0 S0 σ' a d ((Instr.extract (a.eval x) i).run P w):=by
 unfold od at hm;split at hm
 ·rename_i xs hx;split at hm
  ·rename_i y hy;have bL:∀S F,aS S (cu V w0) σ (tv V a) w F->∃z F1 cs,a.eval x=.tuple cs/\cs[i]?=some z/\Rel w S y z F1/\(Instr.extract (a.eval x) i).run P w=.ok z w:=by
    intro S F hc;obtain⟨F1,e1,-⟩:=aQ hc x rG hx;obtain⟨cs,o5,hC⟩:=e1;obtain⟨y0,A,Fx,B',-,-,hR,hl,-⟩:=Cells.lens i hC hy;have lV:cs[i]?=some y0:=by simpa using hl
    exact⟨y0,Fx,cs,o5,lV,hR,by rw[o5];simp[Instr.extract,lV]⟩
   split at hm
   ·rename_i gu;cases hm;have hI:=h;obtain⟨S,F,hc,-⟩:=h;obtain⟨z,F1,cs,h1,h2,h3,h4⟩:=bL S F hc;refine eG hI hd hr h4 λS' F' cm=>?_;obtain⟨z',zI,cs',Ew,Gf,h3',h4'⟩:=bL S' F' cm;rw[h4]at h4';simp at h4';subst h4';rw[Rel.aF _ h3' gu]at h3';exact h3'
   split at hm
   ·rename_i r g1 g2 p hp;split at hm
    ·cases hm
    rename_i iJ;have x8:=λe=>iJ<|.inl e;have HK:=Classical.byContradiction λe=>iJ<|.inr e;subst HK;cases hm;simp[Mv.bR]at hr;subst hr;have hI:=h;obtain⟨S,F,hc,-⟩:=h;obtain⟨z,F1,cs,h1,h2,h3,h4⟩:=bL S F hc;refine⟨z,w,h4,hI.put hd λS' F' cm=>?_⟩;obtain⟨q1,q2,q3,q4,q5,q6,L,q7,q8,q9⟩:=iQ cm x rG hx hp;unfold ak;simp only[aA,ai _ _ x8];simp[loc]at q7;subst q7;simp[holds]at q8;refine⟨ao,q4,q5,λ_ _ _=>⟨.val z,?_,rfl,by simp⟩⟩;simp[loc,step1,<-q8,h1,bU,h2]
   cases hm
  cases hm
 cases hm
def Gg{av:AV}{ti:TI}{ft:Nat}(gR:bY P ft=some ti)(hr:Rel w S av z F1)(hg:bg av [gN ti o]=some y)(gu:y.aF=true):
 ∃cs v,z=.agg cs/\(part ft cs o).run P w=.ok v w/\Rel w S y v []:=by
 have:=Rel.read [gN ti o] (L:=.val z) hr rfl hg;obtain⟨L1,z1,F2,k1,k2,k3,-⟩:=this;rw[Rel.aF _ k3 gu]at k3;unfold gN at k1;cases RL:ti.agg with
 |false=>simp[RL]at k1 hg;simp[loc,step1]at k1;cases z<;>simp[bU]at k1;rename_i cs;obtain⟨v,hv,rfl⟩:=k1;simp[holds]at k2;subst k2;exact⟨cs,z1,rfl,by simp[part,yu gR,RL,hv],k3⟩
 |true=>simp[RL]at k1 hg;simp[loc,step1]at k1;cases z<;>simp[bU]at k1;rename_i cs;subst k1;simp[holds]at k2;subst k2;exact⟨cs,_,rfl,by simp[part,yu gR,RL,dE gR],k3⟩
def K1{f:Nat}(h:Inv N V w0 S0 σ a w)(hd:d<N)(x:Operand)(rG:aI x=true){ms:List Mv}
 (hm:yS P d t (resolve σ x) f=some ms)(hr:Mv.runs σ ms=some σ'):Good N V w0 S0 σ' a d ((Instr.field t (a.eval x) f).run P w):=by
 unfold yS at hm;split at hm
 ·rename_i o ft hf;split at hm
  ·rename_i ti gR;split at hm
   ·rename_i av hx;split at hm
    ·rename_i y hy;split at hm
     ·rename_i gu;cases hm;have bL:∀S F,aS S (cu V w0) σ (tv V a) w F->∃v,(Instr.field t (a.eval x) f).run P w=.ok v w/\Rel w S y v []:=by
       intro S F hc;obtain⟨F1,e1,-⟩:=aQ hc x rG hx;obtain⟨cs,v,hz,hp,hv⟩:=Gg gR e1 hy gu;refine⟨v,?_,hv⟩;unfold tR at hf;split at hf
       ·rename_i fs hu;split at hf
        ·rename_i fl bt;cases hf;simp[Instr.field,run_underlying hu,bt,hz,asAgg,hp]
        cases hf
       cases hf
      have hI:=h;obtain⟨S,F,hc,-⟩:=h;obtain⟨v,h1,-⟩:=bL S F hc;refine eG hI hd hr h1 λS' F' cm=>?_;obtain⟨v',Ew,Gf⟩:=bL S' F' cm;rw[h1]at Ew;simp at Ew;subst Ew;exact Gf
     cases hm
    cases hm
   cases hm
  cases hm
 cases hm
def Kj(h:Inv N V w0 S0 σ a w)(hd:d<N)(x i:Operand)(rG:aI x=true)(hif:aI i=true){ms:List Mv}
 (hm:vj P d t (resolve σ x) (resolve σ i)=some ms)(hr:Mv.runs σ ms=some σ'):Good N V w0 S0 σ' a d ((Instr.index t (a.eval x)<|a.eval i).run P w):=by
 unfold vj at hm;split at hm
 ·rename_i k n hi;split at hm
  ·rename_i hu;split at hm
   ·rename_i s hx;split at hm
    ·rename_i hn;split at hm
     ·rename_i b hb;cases hm;have hI:=h;obtain⟨S,F,hc,-⟩:=h;have h1:=dj hc i hif hi;have h2:=dj hc x rG hx;refine eG (z:=.int .u8 b.toNat) hI hd hr ?_ λS' F' cm=>by simp[Rel,scalar]
      rw[h1,h2];simp[Instr.index,asIntOf,run_underlying hu,hn,hb]
     cases hm
    cases hm
   cases hm
  ·rename_i len e hu;split at hm
   ·rename_i ti gR;split at hm
    ·rename_i av hx;split at hm
     ·rename_i hn;split at hm
      ·rename_i y hy;split at hm
       ·rename_i gu;cases hm;have bL:∀S F,aS S (cu V w0) σ (tv V a) w F->∃v,(Instr.index t (a.eval x)<|a.eval i).run P w=.ok v w/\Rel w S y v []:=by
         intro S F hc;have h1:=dj hc i hif hi;obtain⟨F1,e1,-⟩:=aQ hc x rG hx;obtain⟨cs,v,hz,hp,hv⟩:=Gg gR e1 hy gu;exact⟨v,by rw[h1,hz];simp[Instr.index,asIntOf,run_underlying hu,hn.1,hn.2,dE gR,hp],hv⟩
        have hI:=h;obtain⟨S,F,hc,-⟩:=h;obtain⟨v,h1,-⟩:=bL S F hc;refine eG hI hd hr h1 λS' F' cm=>?_;obtain⟨v',Ew,Gf⟩:=bL S' F' cm;rw[h1]at Ew;simp[Result.ok.injEq,and_true]at Ew;subst Ew;exact Gf
       cases hm
      cases hm
     cases hm
    cases hm
   cases hm
  cases hm
 cases hm
def N3{s:Nat}(h:Inv N V w0 S0 σ a w)(hd:d<N)(x:Operand)(rG:aI x=true){ms:List Mv}
 (hm:DC P d s t (resolve σ x)=some ms)(hr:Mv.runs σ ms=some σ'):Good N V w0 S0 σ' a d ((convert s t<|a.eval x).run P w):=by
 unfold DC at hm;split at hm
 ·rename_i u k kk n h1 h2 h3;simp only[abr]at hm;subst hm;have hI:=h;obtain⟨S,F,hc,-⟩:=h;have h4:=dj hc x rG h3;refine eG (z:=.int k<|k.wrap n) hI hd hr ?_ λS' F' cm=>by simp[Rel,scalar]
  rw[h4];cases u<;>simp[convert,run_underlying h1,run_underlying h2,Conv.intToInt]
 ·rename_i s0 h1 h2 h3;simp only[abr]at hm;subst hm;have hI:=h;obtain⟨S,F,hc,-⟩:=h;have h4:=dj hc x rG h3;refine eG (z:=.string s0) hI hd hr ?_ λS' F' cm=>by simp[Rel,scalar]
  rw[h4];simp[convert,run_underlying h1,run_underlying h2]
 simp at hm
end
end
section
variable{P:Program}{N:Nat}{w0 w:World}{V:Hid}{S S0:Nat->Prop}{B:Nat->Prop}{σ σ':St}{a:Act}{F:Nat->List Nat}
def iM{t e:TypeId}(h:dt P t=some e):P.underlying t=some (.slice e):=by
 unfold dt at h;split at h
 ·rename_i e' hu;cases h;exact hu
 cases h
def eO(h:aS S B σ (tv V a) w F)(x:Option Operand)(hx:∀o,x=some o->aI o=true){Ie l y:Nat}{code:BoundsCode}(hi:nf (x.map<|resolve σ) Ie=some l)(hy:l<=y):
 match x with
 |none=>l=Ie
 |some o=>∃k,(Instr.sliceBound (a.eval o) y code).run P w=.ok l w/\a.eval o=.int k l:=by
 cases x with
 |none=>simp[nf]at hi;exact hi.symm
 |some o=>
  simp[nf]at hi;split at hi
  ·rename_i k n hc;split at hi
   ·rename_i hn;cases hi;have hv:=dj h o (hx o rfl) hc;have e:=ah3 hn;refine⟨k,?_,by rw[hv,e]⟩;rw[hv];have:n<=(y:Int):=by omega
    simp[Instr.sliceBound,asIntOf,hn,this]
   cases hi
  cases hi
def jS(h:aS S B σ (tv V a) w F)(sl:Bool){len cap:Nat}(lo hi mx:Option Operand)(lV:∀o,lo=some o->aI o=true)(ya:∀o,hi=some o->aI o=true)(hmx:∀o,mx=some o->aI o=true)
 {l h' m:Nat}(h1:nf (lo.map<|resolve σ) 0=some l)(h2:nf (hi.map<|resolve σ) len=some h')(h3:nf (mx.map<|resolve σ) cap=some m)(hl:l<=h')(hm:h'<=m)(hc:m<=cap)(hh:mx=none\/hi.isSome):
 (Instr.sliceBounds sl len cap (lo.map a.eval) (hi.map a.eval)<|mx.map a.eval).run P w=.ok (l,h',m) w:=by
 cases mx with
 |none=>
  simp[nf]at h3;subst h3;cases hi with
  |none=>
   simp[nf]at h2;subst h2;cases lo with
   |none=>simp[nf]at h1;subst h1;simp[Instr.sliceBounds]
   |some o=>obtain⟨k,e1,-⟩:=eO (P:=P) h (some o) lV (y:=len) (code:=.sliceB) h1 hl;simp[Instr.sliceBounds,e1]
  |some o2=>
   cases lo with
   |none=>
    simp[nf]at h1;subst h1;cases sl
    ·obtain⟨k,e2,-⟩:=eO (P:=P) h (some o2) ya (y:=cap) (code:=.sliceAlen) h2 (by omega);simp[Instr.sliceBounds,e2]
    obtain⟨k,e2,-⟩:=eO (P:=P) h (some o2) ya (y:=cap) (code:=.sliceAcap) h2 (by omega);simp[Instr.sliceBounds,e2]
   |some o=>
    obtain⟨k,e1,-⟩:=eO (P:=P) h (some o) lV (y:=h') (code:=.sliceB) h1 hl;cases sl
    ·obtain⟨k,e2,-⟩:=eO (P:=P) h (some o2) ya (y:=cap) (code:=.sliceAlen) h2 (by omega);simp[Instr.sliceBounds,e1,e2]
    obtain⟨k,e2,-⟩:=eO (P:=P) h (some o2) ya (y:=cap) (code:=.sliceAcap) h2 (by omega);simp[Instr.sliceBounds,e1,e2]
 |some o3=>
  rcases hh with hh|hh
  ·cases hh
  cases hi with
  |none=>cases hh
  |some o2=>
   obtain⟨k,e2,-⟩:=eO (P:=P) h (some o2) ya (y:=m) (code:=.slice3B) h2 (by omega);cases lo with
   |none=>
    simp[nf]at h1;subst h1;cases sl
    ·obtain⟨k,e3,-⟩:=eO (P:=P) h (some o3) hmx (y:=cap) (code:=.slice3Alen) h3 hc;simp[Instr.sliceBounds,e2,e3]
    obtain⟨k,e3,-⟩:=eO (P:=P) h (some o3) hmx (y:=cap) (code:=.slice3Acap) h3 hc;simp[Instr.sliceBounds,e2,e3]
   |some o=>
    obtain⟨k,e1,-⟩:=eO (P:=P) h (some o) lV (y:=h') (code:=.slice3C) h1 hl;cases sl
    ·obtain⟨k,e3,-⟩:=eO (P:=P) h (some o3) hmx (y:=cap) (code:=.slice3Alen) h3 hc;simp[Instr.sliceBounds,e1,e2,e3]
    obtain⟨k,e3,-⟩:=eO (P:=P) h (some o3) hmx (y:=cap) (code:=.slice3Acap) h3 hc;simp[Instr.sliceBounds,e1,e2,e3]
def cv.sub(sz:Nat){xs:List AV}{l:List Value}(i n:Nat)(h:cv w S sz xs l [])(Ks:i+n<=xs.length):cv w S sz ((xs.drop i).take n) ((l.drop<|i*sz).take<|n*sz) []:=by
 obtain⟨F1,F2,e,h1,h2⟩:=cv.split sz i h;have:F1=[]/\F2=[]:=by simpa using e.symm
 obtain⟨rfl,rfl⟩:=this;obtain⟨G1,G2,e',k1,k2⟩:=cv.split sz n h2;have:G1=[]/\G2=[]:=by simpa using e'.symm
 obtain⟨rfl,rfl⟩:=this;exact k1
def OH{sz:Nat}{xs:List AV}{ad:Option Addr}{cap l h m:Nat}(hr:Rel w S (.list .shr sz xs) (.slice ad xs.length cap) [])(hlh:l<=h)(hhm:h<=m)(hm:m<=cap)(hh:h<=xs.length):
 Rel w S (.list .shr sz<|(xs.drop l).take<|h-l) (.slice (if m=l then ad else ad.map (·.add (l*sz))) (h-l)<|m-l) []:=by
 simp only[Rel]at hr⊢;rcases hr with⟨rfl,⟨L5,e⟩,-⟩|⟨b,off,agj,cs,fz,e,hS,dI,jX,hE,-⟩
 ·simp at e;have:m=l:=by omega
  simp_all
 right;obtain⟨rfl,-,rfl⟩:=e;have hlen:((xs.drop l).take<|h-l).length=h-l:=by simp;omega
 by_cases Kq:m=l
 ·have:h=l:=by omega
  subst this;subst Kq;refine⟨b,off,0,cs,fz,by simp,hS,dI,by simp,by simp[cv],ao⟩
 refine⟨b,off+l*sz,m-l,cs,fz,by rw[hlen];simp[Kq,bS],hS,dI,by omega,?_,ao⟩;rw[hlen];have:=cv.sub sz l (h-l) hE (by omega);rw[List.drop_take,agf,ahp]at this;have e2:min ((h-l)*sz) (xs.length*sz-l*sz)=(h-l)*sz:=by rw[<-Nat.sub_mul];simp_all
 rw[e2]at this;exact this
def Jc{d t:Nat}(h:Inv N V w0 S0 σ a w)(hd:d<N)(x:Operand)(lo hi mx:Option Operand)(rG:aI x=true)(lV:∀o,lo=some o->aI o=true)(ya:∀o,hi=some o->aI o=true)
 (hmx:∀o,mx=some o->aI o=true)(hh3:mx=none\/hi.isSome){ms:List Mv}
 (hm:qA P d t (resolve σ x) (lo.map<|resolve σ) (hi.map<|resolve σ) (mx.map<|resolve σ)=some ms)(hr:Mv.runs σ ms=some σ'):
 Good N V w0 S0 σ' a d ((Instr.sliceAt t (a.eval x) (lo.map a.eval) (hi.map a.eval)<|mx.map a.eval).run P w):=by
 unfold qA at hm;split at hm
 ·rename_i hu;split at hm
  ·rename_i s hx;cases mx with
   |some o=>cases hm
   |none=>
    simp[aiW]at hm⊢;split at hm
    ·rename_i l h' h1 h2;split at hm
     ·rename_i hc;cases hm;have hI:=h;obtain⟨S,F,gw,-⟩:=h;have hv:=dj gw x rG hx;refine eG (z:=.string<|s.extract l h') hI hd hr ?_ λS' F' cm=>by simp[Rel,scalar]
      have hb:=jS (P:=P) gw false (len:=s.size) (cap:=s.size) lo hi none lV ya (by simp) h1 h2 rfl hc.1 hc.2 (abZ _)<|.inl rfl;rw[hv];simp[aiW]at hb;simp[Instr.sliceAt,run_underlying hu,Instr.slice,hb]
     cases hm
    cases hm
  cases hm
 ·rename_i e hu;split at hm
  ·rename_i ti gR;split at hm
   ·rename_i f sz xs hx;split at hm
    ·rename_i l h' h1 h2;split at hm
     ·rename_i m h3;split at hm
      ·rename_i hc;obtain⟨se,yb,Eu⟩:=hc;have bL:∀S F ad cap,aS S (cu V w0) σ (tv V a) w F->a.eval x=.slice ad xs.length cap->xs.length<=cap->∃m',m'<=cap/\h'<=m'/\
        (Instr.sliceAt t (a.eval x) (lo.map a.eval) (hi.map a.eval)<|mx.map a.eval).run P w=.ok (.slice (if m'=l then ad else ad.map (·.add (l*ti.size))) (h'-l)<|m'-l) w:=by
        intro S F ad cap gw hz jX;have jC:∃m',nf (mx.map<|resolve σ) cap=some m'/\h'<=m'/\m'<=cap:=by
         cases mx with
         |none=>exact⟨cap,rfl,by omega,abZ _⟩
         |some o=>
          have:nf (Option.map (resolve σ)<|some o) cap=some m:=by simp[ahq,nf]at h3⊢;exact h3
          exact⟨m,this,yb,by omega⟩
        obtain⟨m',e1,e2,e3⟩:=jC;have hb:=jS (P:=P) gw true (len:=xs.length) (cap:=cap) lo hi mx lV ya hmx h1 h2 e1 se e2 e3 hh3;refine⟨m',e3,e2,?_⟩;rw[hz];simp[Instr.sliceAt,run_underlying hu,Instr.slice,hb,dE gR]
       have hI:=h;obtain⟨S,F,gw,-⟩:=h;obtain⟨F1,e1,-⟩:=aQ gw x rG hx;obtain⟨ad,cap,hz,jX,-⟩:=e1.jV;obtain⟨m',q1,q2,q3⟩:=bL S F ad cap gw hz jX;split at hm
       ·cases hm;refine eG hI hd hr q3 λS' F' cm=>?_;obtain⟨F2,e2,-⟩:=aQ cm x rG hx;simp only[Rel]at e2;obtain⟨rfl,e3,-⟩:=e2;rw[hz]at e3;simp only[Value.slice.injEq]at e3;obtain⟨rfl,-,rfl⟩:=e3;simp only[acY]at Eu;have:l=0/\h'=0/\m'=0:=by omega
        obtain⟨rfl,rfl,rfl⟩:=this;simp[Rel]
       ·split at hm
        ·rename_i cM;subst cM;cases hm;refine eG hI hd hr q3 λS' F' cm=>?_;obtain⟨F2,e2,-⟩:=aQ cm x rG hx;rw[hz,Rel.aF _ e2 rfl]at e2;exact OH e2 se q2 q1 (by omega)
        cases hm
       split at hm
       ·rename_i cM;subst cM;split at hm
        ·rename_i r g1 g2 p hp;split at hm
         ·cases hm
         rename_i x8;cases hm;obtain⟨p1,-,-,-,-,p6,-⟩:=iQ gw x rG hx hp;refine⟨_,w,q3,hI.Fj hd p6 p1 hr λS' F' L z zI cm k1 k2 k3 S'' hS=>?_⟩;obtain⟨-,-,-,-,-,-,L',l1,l2,l3⟩:=iQ cm x rG hx hp;rw[k1]at l1;cases l1;have:z=a.eval x:=by
          cases L with
          |val q=>simp only[holds]at k2 l2;rw[k2,l2]
          |addr L5=>have e1:=At.cell k2<|cj<|k3.one rfl;have e2:=At.cell l2<|cj<|l3 L5 rfl;rw[e1]at e2;simpa using e2
         rw[this,hz]at hS;simp only[AV.bw]at hS;have hlen:=jD xs;rw[<-hlen]at hS Eu;exact OH hS se q2 q1 (by omega)
        cases hm
       cases hm
      cases hm
     cases hm
    cases hm
   cases hm
  cases hm
 cases hm
end
section
variable{P:Program}{N:Nat}{w0 w:World}{V:Hid}{S S0:Nat->Prop}{B:Nat->Prop}{σ σ':St}{a:Act}{F:Nat->List Nat}
def KB{b:Nat}{cs:Array Value}{fz:Nat×Nat}(h:row? w b=some (cs,fz)):∃e,w.heap[b]?=some (.cells cs e fz):=by
 unfold row? at h;split at h
 ·rename_i c e f hc;cases h;exact⟨e,hc⟩
 cases h
def Aa{b:Nat}{cs:Array Value}{e:TypeId}{fz:Nat×Nat}(h:w.heap[b]?=some (.cells cs e fz)):row? w b=some (cs,fz):=by unfold row?;rw[h]
def Rel.MZ{f:Fl}{sz:Nat}{xs:List AV}{z:Value}{F1:List Nat}(h:Rel w S (.list f sz xs) z F1):
 ∃l F',cv w S sz xs l F'/\(∀b∈F',b∈F1)/\(F1.Nodup->F'.Nodup)/\(((∃ad,z=.slice ad 0 0)/\xs=[]/\l=[])\/
  ∃ad cap,z=.slice (some ad) xs.length cap/\ad.spot=none/\∀j u,l[j]?=some u->w.cell? (ad.add j)=some u):=by
 cases f with
 |nil=>simp[Rel]at h;obtain⟨rfl,rfl,rfl⟩:=h;exact⟨[],[],by simp[cv],by simp,by simp,.inl ⟨⟨_,rfl⟩,rfl,rfl⟩⟩
 |shr=>
  rcases h with⟨rfl,⟨ad,rfl⟩,rfl⟩|⟨b,off,cap,cs,fz,rfl,hS,hr,hc,hE,rfl⟩
  ·exact⟨[],[],by simp[cv],by simp,by simp,.inl ⟨⟨_,rfl⟩,rfl,rfl⟩⟩
  refine⟨_,[],hE,by simp,by simp,.inr ⟨_,cap,rfl,rfl,λj u hu=>?_⟩⟩;rw[bS rfl,qb rfl hr];rw[aev]at hu;split at hu
  ·simpa using hu
  cases hu
 |own=>
  rcases h with⟨rfl,rfl,rfl⟩|⟨b,cap,cs,F',rfl,hr,hc,hm,hs,hE,rfl⟩
  ·exact⟨[],[],by simp[cv],by simp,by simp,.inl ⟨⟨_,rfl⟩,rfl,rfl⟩⟩
  refine⟨_,F',hE,λb hb=>by simp[hb],λhn=>(adm.1 hn).2,.inr ⟨_,cap,rfl,rfl,λj u hu=>?_⟩⟩;rw[bS rfl,qb rfl hr];rw[aev]at hu;split at hu
  ·simpa using hu
  cases hu
def cv.one(sz:Nat){ti:TI}(cM:sz=ti.size):∀{xs:List AV}{l:List Value}{F1:List Nat},cv w S sz xs l F1->xs.all (fits ti)=true->∀u∈l,u.oneCell'=true
 |[],l,F1,h,_=>by simp[cv]at h;simp[h.1]
 |x::xs,l,F1,h,hf=>by
  simp only[adl,acd]at hf;obtain⟨y,l',G1,G2,rfl,rfl,h2,h3,h4⟩:=h;intro u hu;rcases ac5.1 hu with hu|hu
  ·unfold fits at hf;split at hf
   ·simp[Rel]at h3;obtain⟨cs,rfl,hc⟩:=h3;rw[bf]at hu;obtain⟨j,hj,rfl⟩:=ag3 hu;have cS:j<(‹List AV›).length:=by have:=Cells.length hc;omega
    obtain⟨y0,A,Fx,B',-,h1,-,hl,-⟩:=Cells.lens j hc<|acL cS;rw[acL hj]at hl;simp only[abr]at hl;rw[hl];exact h1 rfl
   simp at hf;have:=h3.one hf.1.2;rw[cj this]at hu;simp at hu;rw[hu];exact this
  exact cv.one sz cM h4 hf.2 u hu
def cv.aF(sz:Nat):∀{xs:List AV}{l:List Value}{F1:List Nat},cv w S sz xs l F1->bx xs=true->F1=[]
 |[],l,F1,h,_=>by simp[cv]at h;exact h.2
 |x::xs,l,F1,h,hf=>by simp[bx]at hf;obtain⟨y,l',G1,G2,rfl,rfl,h2,h3,h4⟩:=h;rw[Rel.aF x h3 hf.1,cv.aF sz h4 hf.2];rfl
def yv(t ty e e':TypeId)(i:TypeInfo)(ht:P.underlying t=some (.slice e))(hi:P.info? e=some i)
 (g Mu aaK:Nat)(cur:Array Value)(hg:w.heap[g]?=some (.cells cur e' (0,0)))
 (ad:Addr)(m c:Nat)(news:List Value)(hl:news.length=m*i.size)(aeT:∀j u,news[j]?=some u->w.cell? (ad.add j)=some u)(h1:∀u∈news,u.oneCell'=true)
 (CV:Mu+m<=aaK)(n8:Mu*i.size+news.length<=cur.size):
 (Builtin.append_ #[t,t] ty #[.slice (some ⟨g,0,none⟩) Mu aaK,.slice (some ad) m c]).run P w=
   .ok (.slice (some ⟨g,0,none⟩) (Mu+m) aaK) (w.setRow g (cur.toList.take (Mu*i.size)++news++cur.toList.drop (Mu*i.size+news.length)).toArray):=by
 have hf:=run_firstCells_some (P:=P) w i.size m ad m c news hl aeT;have eR:=run_storeCells_at P g (Mu*i.size) e' news 0 cur w hg n8 h1;simp[Builtin.append_,run_underlying ht,sizeOf,typeInfo,hi,Builtin.lenOf,CV,hf,Addr.add_lit,eR]
def A4(z:Array Value)(n:Nat):(Builtin.zeroCells z n).size=n*z.size:=by simp[Builtin.zeroCells]
def qf(w:World)(o:Obj):Below w.heap.size w (w.drew.alloc o):=((Below.refl _ _).drew).alloc (by simp) o
def oE{l m z:List Value}{n:Nat}(h:l.length+m.length=n):(l++m++z).take n=l++m:=by rw[<-h,<-acW];exact List.take_left
def vI{t ty e:TypeId}{ti:TI}{zx zy:Value}{fx:Fl}{Wk Qy:Nat}{xs ys:List AV}{Fx Fy:List Nat}(he:dt P t=some e)(gR:bY P e=some ti)(ua:ti.size≠0)
 (hx:Rel w S (.list fx Wk xs) zx Fx){ly:List Value}(hEy:cv w S Qy ys ly Fy)(hzy:((∃ad,zy=.slice ad 0 0)/\ys=[]/\ly=[])\/
   ∃ad cap,zy=.slice (some ad) ys.length cap/\ad.spot=none/\∀j u,ly[j]?=some u->w.cell? (ad.add j)=some u)(hfx:fx=.nil\/(fx=.own/\Wk=ti.size))(hfy:ys=[]\/Qy=ti.size)(jj:ys.all (fits ti)=true)
 (hN:(Fx++Fy).Nodup)(hS:∀b,S b->b<w.heap.size)(hFx:∀b∈Fx,b<w.heap.size/\¬S b)(hFy:∀b∈Fy,b<w.heap.size)
 (vp:(xs.length+ys.length)*ti.bytes<=140737488355328)(Ev:xs.length+ys.length<=maxLen):
 ∃v w' Fv,(Builtin.append_ #[t,t] ty #[zx,zy]).run P w=.ok v w'/\Rel w' S (if fx=.nil/\ys=[]then .list .nil 0 []else .list .own ti.size (xs++ys)) v Fv/\Fv.Nodup/\
  (∀b∈Fv,b∈Fx\/b∈Fy\/w.heap.size<=b/\b<w'.heap.size)/\w.heap.size<=w'.heap.size/\(∀b,b<w.heap.size->b∉Fx->w'.heap[b]?=w.heap[b]?)/\
  w'.os=w.os/\w'.tape=w.tape/\w'.output=w.output:=by
 obtain⟨i,u,z,hi,hu,hz,iw,o6,hzero,RL,hzc,hzf⟩:=jR gR;have ht:=iM he;have KI:∀b∈Fy,b∈Fy:=λ_ h=>h;have afN:Fy.Nodup->Fy.Nodup:=id;have Ys:=acT.1 hN;have aiK:xs.length+ys.length<=9223372036854775807:=by simp only[maxLen]at Ev;omega
 by_cases hye:ys=[]
 ·subst hye;simp only[cv]at hEy;obtain⟨rfl,rfl⟩:=hEy;have bL:∀ad n c,n<=c->(Builtin.append_ #[t,t] ty #[.slice ad n c,zy]).run P w=.ok (.slice ad n c) w:=by
   intro ad n c hn;have Ws:∃L5 c',zy=.slice L5 0 c':=by
    rcases hzy with⟨⟨L5,h⟩,-⟩|⟨L5,c',h,-⟩
    ·exact⟨L5,0,h⟩
    exact⟨some L5,c',h⟩
   obtain⟨L5,c',rfl⟩:=Ws;cases ad<;>cases L5<;>simp[Builtin.append_,run_underlying ht,sizeOf,typeInfo,hi,Builtin.lenOf,hn,Builtin.firstCells,loadCells,loadCellsFrom,storeCells]
  obtain⟨ad,cap,rfl,jX,sS,-⟩:=hx.jV;refine⟨_,w,Fx,bL ad _ _ jX,?_,Ys.1,λb hb=>.inl hb,abZ _,λ_ _ _=>rfl,rfl,rfl,rfl⟩;rcases hfx with rfl|⟨rfl,rfl⟩
  ·obtain⟨rfl,rfl,rfl⟩:=sS rfl;simp only[Rel]at hx;simp[Rel,hx.2.2]
  simpa using hx
 have El:Qy=ti.size:=hfy.resolve_left hye;have hly:=cv.length Qy hEy;have ub:=cv.one Qy El hEy jj;have ZF:0<ys.length:=ag4.2 hye;obtain⟨ad,acD,rfl,akL,iV⟩:∃ad cap,zy=.slice (some ad) ys.length cap/\ad.spot=none/\∀j u,ly[j]?=some u->w.cell? (ad.add j)=some u:=by
  rcases hzy with⟨-,h,-⟩|h
  ·exact absurd h hye
  exact h
 have wY:∀(old:Nat)(lx:List Value)(IF:List Nat),cv w S ti.size xs lx IF->(∀b∈IF,b∈Fx)->IF.Nodup->old<xs.length+ys.length->
  ∃Fv,Rel (w.drew.alloc<|.cells (lx.toArray++ly.toArray++Builtin.zeroCells z.cells (grownCap w (xs.length+ys.length) old e-(xs.length+ys.length))) e) S (.list .own ti.size<|xs++ys)
   (.slice (some ⟨w.heap.size,0,none⟩) (xs.length+ys.length)<|grownCap w (xs.length+ys.length) old e) Fv/\Fv.Nodup/\
   (∀b∈Fv,b∈Fx\/b∈Fy\/w.heap.size<=b/\b<w.heap.size+1):=by
  intro old lx IF hEx Em BF hold;have hlx:=cv.length ti.size hEx;have Kx:=grownCap_ge w (xs.length+ys.length) old e;have hle:=grownCap_le_maxLen w (xs.length+ys.length) old e Ev;generalize grownCap w (xs.length+ys.length) old e=cap at*;refine⟨w.heap.size::(IF++Fy),?_,?_,λb hb=>?_⟩
  ·simp only[Rel];refine .inr ⟨w.heap.size,cap,_,IF++Fy,by simp,oX w.drew _ e,by simp;omega,hle,?_,?_,rfl⟩
   ·simp only[Array.size_append,ah5,A4,hlx,hly,El,hzc,<-ac7]
    congr 1;omega
   have hE:=cv.append ti.size hEx (El▸hEy);have hE':=cv.frame ti.size _ (w':=w.drew.alloc<|.cells (lx.toArray++ly.toArray++Builtin.zeroCells z.cells (cap-(xs.length+ys.length))) e) hE (λb hb=>?_)
   ·have:(lx.toArray++ly.toArray++Builtin.zeroCells z.cells (cap-(xs.length+ys.length))).toList.take ((xs++ys).length*ti.size)=lx++ly:=by
     simp only[Array.toList_append];refine oE ?_;rw[hlx,hly,acW,ac7,El]
    rw[this];exact hE'
   have cS:b<w.heap.size:=by
    rcases hb with hb|hb
    ·exact hS b hb
    rcases ac5.1 hb with hb|hb
    ·exact(hFx b<|Em b hb).1
    exact hFy b<|KI b hb
   exact oW w.drew _ cS
  ·rw[adm];refine⟨λhb=>?_,?_⟩
   ·rcases ac5.1 hb with hb|hb
    ·have:=(hFx _<|Em _ hb).1;omega
    have:=hFy _<|KI _ hb;omega
   rw[acT];exact⟨BF,afN Ys.2.1,λb hb c hc=>Ys.2.2 b (Em b hb) c<|KI c hc⟩
  rcases aci.1 hb with rfl|hb
  ·exact .inr<|.inr<|by omega
  rcases ac5.1 hb with hb|hb
  ·exact .inl<|Em b hb
  exact .inr<|.inl<|KI b hb
 have Ni:ti.size=i.size:=iw;have gM:(if fx=.nil/\ys=[]then AV.list .nil 0 []else .list .own ti.size (xs++ys))=.list .own ti.size (xs++ys):=by simp[hye]
 rw[gM];by_cases hq:xs=[]/\zx=.slice none 0 0/\Fx=[]
 ·obtain⟨rfl,rfl,rfl⟩:=hq;clear hfx;simp only[acY,afP]at*;have hr:=run_append_nil (P:=P) w t ty e i z ht hi hz ad ys.length acD ly (by rw[hly,El,iw]) iV ZF (by omega) (by rw[<-o6];omega);obtain⟨Fv,g1,g2,g3⟩:=wY 0 [] [] (by simp[cv]) (by simp) adn ZF;simp only[afG,Array.empty_append]at g1 hr⊢;have hb:=qf w<|.cells (ly.toArray++Builtin.zeroCells z.cells (grownCap w ys.length 0 e-ys.length)) e;exact⟨_,_,Fv,hr,g1,g2,λb hb=>(g3 b hb).imp id<|Or.imp id λh=>⟨h.1,by rw[World.size_alloc];exact h.2⟩,hb.size,λb dO _=>hb.block b dO,hb.os,hb.tape,hb.output⟩
 rcases hfx with rfl|⟨rfl,rfl⟩
 ·simp only[Rel]at hx;exact absurd hx hq
 simp only[Rel]at hx;rcases hx with hx|⟨b,cap,cs,F',rfl,dI,jX,Np,o5,hE,rfl⟩
 ·exact absurd hx hq
 obtain⟨e',ZO⟩:=KB dI;have hlx:=cv.length ti.size hE;by_cases CV:xs.length+ys.length<=cap
 ·have n8:xs.length*i.size+ly.length<=cs.size:=by rw[hly,o5,El,<-iw,<-ac7];exact adb _ CV
  have hr:=yv (P:=P) (ty:=ty) t e e' i ht hi b xs.length cap cs ZO ad ys.length acD ly (by rw[hly,El,iw]) iV ub CV n8;have LX:b∉F'/\b∉Fy:=by have:=Ys.1;exact⟨(adm.1 this).1,λhb=>Ys.2.2 b (by simp) b hb rfl⟩
  refine⟨_,_,b::(F'++Fy),hr,?_,?_,λc hc=>?_,by simp,λc _ hc=>setRow_other w b c _ λe=>hc<|by simp[e],rfl,rfl,rfl⟩
  ·simp only[Rel];have UG:=setRow_heap w b cs (cs.toList.take (xs.length*i.size)++ly++cs.toList.drop (xs.length*i.size+ly.length)).toArray e' _ ZO;refine .inr ⟨b,cap,_,F'++Fy,by simp,Aa UG,by simp;exact CV,Np,?_,?_,rfl⟩
   ·simp only[ah5,acW,ac2,afa,adu];rw[<-o5];omega
   have hEE:=cv.append ti.size hE (El▸hEy);have hE':=cv.frame ti.size _ (w':=w.setRow b (cs.toList.take (xs.length*i.size)++ly++cs.toList.drop (xs.length*i.size+ly.length)).toArray) hEE (λc hc=>?_)
   ·have:(cs.toList.take (xs.length*i.size)++ly++cs.toList.drop (xs.length*i.size+ly.length)).toArray.toList.take ((xs++ys).length*ti.size)=cs.toList.take (xs.length*ti.size)++ly:=by
     rw[Ni];simp only;refine oE ?_;rw[hly,acW,ac7,El,Ni];simp only[ac2,adu];rw[ae0];rw[<-Ni,o5];exact adb _ jX
    rw[this];exact hE'
   have dc:c≠b:=by
    rcases hc with hc|hc
    ·exactλe=>(hFx b<|by simp).2 (e▸hc)
    rcases ac5.1 hc with hc|hc
    ·exactλe=>LX.1 (e▸hc)
    exactλe=>LX.2<|KI b (e▸hc)
   rw[setRow_other w b c _ dc]
  ·rw[adm,acT];refine⟨λhb=>?_,(adm.1 Ys.1).2,afN Ys.2.1,λc hc c' cm=>Ys.2.2 c (by simp[hc]) c'<|KI c' cm⟩;rcases ac5.1 hb with hb|hb
   ·exact LX.1 hb
   exact LX.2<|KI b hb
  rcases aci.1 hc with rfl|hc
  ·exact .inl (by simp)
  rcases ac5.1 hc with hc|hc
  ·exact .inl (by simp[hc])
  exact .inr<|.inl<|KI c hc
 have holds:∀j u,(cs.toList.take<|xs.length*ti.size)[j]?=some u->w.cell? ((⟨b,0,none⟩:Addr).add j)=some u:=by
  intro j u hu;rw[bS rfl,qb rfl dI];rw[aev]at hu;split at hu
  ·simpa using hu
  simp at hu
 have hr:=run_append_grow (P:=P) w t ty e i z ht hi hz ⟨b,0,none⟩ xs.length cap _ (by rw[hlx,iw]) holds ad ys.length acD ly (by rw[hly,El,iw]) iV (by omega) (by omega)
  (growslice_fits (by omega)<|by rw[<-o6];exact vp)
 obtain⟨Fv,g1,g2,g3⟩:=wY cap _ F' hE (λc hc=>by simp[hc]) (adm.1 Ys.1).2 (by omega);have hb:=qf w<|.cells ((cs.toList.take<|xs.length*ti.size).toArray++ly.toArray++Builtin.zeroCells z.cells (grownCap w (xs.length+ys.length) cap e-(xs.length+ys.length))) e;exact⟨_,_,Fv,hr,g1,g2,λb hb=>(g3 b hb).imp id<|Or.imp id λh=>⟨h.1,by rw[World.size_alloc];exact h.2⟩,hb.size,λb dO _=>hb.block b dO,hb.os,hb.tape,hb.output⟩
end
end Go.Ai
