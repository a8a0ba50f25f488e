/- Parts of the proof of ScaleNumbers (CheckBench, Exponent and Largest answer as the reference does), at every input, with no further conditions. -/
import Derived.Test.YtdgocdadfmhjgaaGreatDoorZAA
set_option linter.unusedVariables false
set_option linter.unusedSimpArgs false
namespace Go.Ai
def gI:Value->AV
 |.slice none 0 0=>.list .nil 0 []
 |v=>if scalar v then .v v else .dead
def eP:Value->AV
 |.agg cs=>.agg (cs.toList.map gI)
 |v=>gI v
def kX:Value->Bool
 |.agg cs=>cs.toList.all (·.oneCell')
 |_=>true
structure TI where
 agg:Bool
 size:Nat
 bytes:Nat
 zero:AV
def bE(P:Program)(t:TypeId):Option TI:=
 match P.info? t,P.underlying t with
 |some i,some u=>match i.zero with
  |some z=>if z.cells.size=i.size/\kX z=true then some ⟨match u with|.struct _|.array .. =>true|_=>false,i.size,i.bytes,eP z⟩else none
  |none=>none
 |_,_=>none
def cG(P:Program)(t:TypeId):Option TypeId:=
 match P.underlying t with
 |some (.slice e)=>some e
 |_=>none
def qC(P:Program)(t:TypeId)(f:Nat):Option (Nat×TypeId):=
 match P.underlying t with
 |some (.struct fs)=>match fs[f]?with
  |some f=>some (f.offset,f.type)
  |none=>none
 |_=>none
def fv(i:TI)(o:Nat):Step:=.at o (if i.agg then some i.size else none)
structure bo where
 s:Option Nat
 sl:Sl
 rt:Sl
def Sl.none:Sl:=⟨.dead,0,0⟩
def bo.of(σ:St)(t:Nat):bo:=
 match(σ t).av with
 |.bg r _ _ _=>⟨some t,σ t,σ r⟩
 |.ptr r _ _ _=>⟨some t,σ t,σ r⟩
 |.abs _=>⟨none,.none,.none⟩
 |_=>⟨some t,σ t,.none⟩
def resolve(σ:St):Operand->bo
 |.tmp t=>.of σ t
 |.const v=>⟨none,⟨eP v,0,0⟩,.none⟩
 |.func f=>⟨none,⟨.fn (.func f) [] [],0,0⟩,.none⟩
 |.global _=>⟨none,.none,.none⟩
def uJ:Path->AV->Bool
 |[],_=>true
 |[.bC _],_=>true
 |_,y=>y.cell
def bo.cont(x:bo):Option AV:=
 match x.sl.av with
 |.bg _ g1 g2 p=>
  if x.rt.g1=g1 then if KS p=true\/x.rt.g2=g2 then match a6 x.rt.av p with
   |some y=>if uJ p y&&y.plain then some y else none
   |none=>none
  else none else none
 |.ptr .. =>none
 |.hole=>none
 |.dead=>none
 |.dY .. =>none
 |y=>some y
def bo.place(x:bo):Option (Nat×Nat×Nat×Path):=
 match x.sl.av with
 |.bg r g1 g2 p=>some (r,g1,g2,p)
 |.ptr .. =>none
 |_=>match x.s with
  |some s=>some (s,x.sl.g1,x.sl.g2,[])
  |none=>none
def Bn:Path->Option (Path×Nat×Nat×Nat)
 |[]=>none
 |s::p=>match p with
  |[]=>match s with
   |.jI sz o n=>some ([],sz,o,n)
   |_=>none
  |_::_=>match Bn p with
   |some (q,u)=>some (s::q,u)
   |none=>none
def bo.jI(x:bo):Option (Nat×Nat×Nat×Path×Nat×Nat×Nat):=
 match x.sl.av with
 |.bg r g1 g2 p=>match Bn p with
  |some (q,sz,o,n)=>if x.rt.g1=g1 then if iP p=true\/x.rt.g2=g2 then match a6 x.rt.av q with
   |some (.list _ fe xs)=>if sz=fe/\0<n/\o+n<=xs.length then some (r,g1,x.rt.g2,q,sz,o,n)else none
   |_=>none
   else none else none
  |none=>none
 |_=>none
def bo.addr(x:bo):Option (Nat×Nat×Nat×Path×AV):=
 match x.sl.av with
 |.ptr r g1 g2 p=>if x.rt.g1=g1 then if flat p\/x.rt.g2=g2 then some (r,x.rt.g1,x.rt.g2,p,x.rt.av)else none else none
 |.box _ _=>match x.s with
  |some s=>some (s,x.sl.g1,x.sl.g2,[.deref],x.sl.av)
  |none=>none
 |.bg r _ _ p=>match x.cont with
  |some (.box _ _)=>some (r,x.rt.g1,x.rt.g2,p++[.deref],x.rt.av)
  |_=>none
 |_=>none
def cm(d:Nat)(x:bo):Option (List Mv):=
 match x.sl.av with
 |.bg r g1 g2 p=>if r=d then none else some [.put d (.bg r g1 g2 p)]
 |.ptr r g1 g2 p=>if r=d then none else some [.put d (.ptr r g1 g2 p)]
 |.dY g aW=>if aW.all (fun q=>q.1 !=d)=true then some [.put d (.dY g aW)]else none
 |y=>if y.az then some [.put d y]else match x.s with
  |some s=>if s=d then none else some [.put d (.bg s x.sl.g1 x.sl.g2 [])]
  |none=>none
def cN(d:Nat)(x:bo):Option (List Mv):=
 match x.sl.av with
 |.ptr r g1 g2 p=>if r=d then none else some [.put d (.ptr r g1 g2 p)]
 |.dY g aW=>if aW.all (fun q=>q.1 !=d)=true then some [.put d (.dY g aW)]else none
 |.bg r _ _ p=>match x.cont with
  |some y=>if y.az then some [.put d y]else match p with
   |[]=>some [.take r d []]
   |[.bC i]=>some [.take r d [.bC i]]
   |_=>if r=d then none else some [.share r p,.put d y.bf]
  |none=>none
 |.box b z=>if(AV.box b z).az then some [.put d (.box b z)]else match x.s with
  |some s=>if s=d then none else some [.put d (.bg s x.sl.g1 x.sl.g2 [])]
  |none=>none
 |y=>if y.az then some [.put d y]else match x.s with
  |some s=>if s=d then none else some [.make [s] d y]
  |none=>none
def c6(x:bo):Option (AV×List Nat):=
 match x.sl.av with
 |.bg r _ _ p=>match x.cont with
  |some y=>if y.az then some (y,[])else if p=[]then some (y,[r])else none
  |none=>none
 |.ptr .. =>none
 |.dead=>none
 |.dY .. =>none
 |y=>if y.az then some (y,[])else match x.s with
  |some s=>some (y,[s])
  |none=>none
def dX:List bo->Option (List AV×List Nat)
 |[]=>some ([],[])
 |x::xs=>match c6 x,dX xs with
  |some (y,M),some (ys,N)=>if M.all (fun m=> !N.contains m)then some (y::ys,M++N)else none
  |_,_=>none
def xX(cs:List AV)(o n:Nat)(y:AV):Option (List AV):=
 if o+n<=cs.length then match y with
  |.agg ys=>if ys.length=n then some (cs.take o++ys++cs.drop (o+n))else none
  |y=>if n=1&&y.cell then some (cs.set o y)else none
 else none
def placesOf(P:Program)(t:TypeId):Option (List (Nat×Nat)):=
 match P.underlying t with
 |some (.struct fs)=>fs.toList.mapM fun f=>(P.info? f.type).map fun i=>(f.offset,i.size)
 |_=>none
def pO(pl:List (Nat×Nat)):List AV->List (Nat×AV)->Option (List AV)
 |cs,[]=>some cs
 |cs,(i,y)::r=>match pl[i]?with
  |some (o,n)=>match xX cs o n y with
   |some cs=>pO pl cs r
   |none=>none
  |none=>none
def fits(ti:TI):AV->Bool
 |.agg xs=>ti.agg&&xs.length=ti.size
 |y=> !ti.agg&&ti.size=1&&y.cell
def uz(P:Program)(op:BinOp)(t:TypeId)(x y:Value):Option Value:=
 match x,y with
 |.int k a,.int k' b=>
  match op with
  |.shl=>if b<0 then none else some (.int k (k.wrap (a*2^min b.toNat k.bits)))
  |.shr=>if b<0 then none else some (.int k (a.fdiv (2^min b.toNat k.bits)))
  |_=>if k=k' then match op with
   |.add=>some (.int k (k.wrap (a+b)))
   |.sub=>some (.int k (k.wrap (a-b)))
   |.mul=>some (.int k (k.wrap (a*b)))
   |.quo=>if b=0 then none else some (.int k (k.wrap (a.tdiv b)))
   |.rem=>if b=0 then none else some (.int k (a.tmod b))
   |.and=>some (.int k (k.wrap (BitVec.ofInt k.bits a&&&BitVec.ofInt k.bits b).toNat))
   |.or=>some (.int k (k.wrap (BitVec.ofInt k.bits a|||BitVec.ofInt k.bits b).toNat))
   |.xor=>some (.int k (k.wrap (BitVec.ofInt k.bits a^^^BitVec.ofInt k.bits b).toNat))
   |.andNot=>some (.int k (k.wrap (BitVec.ofInt k.bits a&&& ~~~ BitVec.ofInt k.bits b).toNat))
   |.eql=>some (.bool (a==b))
   |.neq=>some (.bool (a !=b))
   |.lss=>some (.bool (decide (a<b)))
   |.leq=>some (.bool (decide (a<=b)))
   |.gtr=>some (.bool (decide (a>b)))
   |.geq=>some (.bool (decide (a>=b)))
   |_=>none
   else none
 |.string a,.string b=>
  match op with
  |.add=>if((a.size+b.size:Nat):Int)>IntKind.i64.max then none else some (.string (a++b))
  |.eql=>some (.bool (a.toList==b.toList))
  |.neq=>some (.bool !(a.toList==b.toList))
  |.lss=>some (.bool (Op.bytesLess a.toList b.toList))
  |_=>none
 |.bool a,.bool b=>match P.underlying t with
  |some .bool=>match op with
   |.eql=>some (.bool (a==b))
   |.neq=>some (.bool (!(a==b)))
   |_=>none
  |_=>none
 |_,_=>none
def UA(op:UnOp)(x:Value):Option Value:=
 match op,x with
 |.neg,.int k n=>some (.int k (k.wrap (0-n)))
 |.xor,.int k n=>some (.int k (k.wrap (BitVec.ofInt k.bits (if k.signed then -1 else k.max)^^^BitVec.ofInt k.bits n).toNat))
 |.not,.bool b=>some (.bool !b)
 |_,_=>none
def isNil(P:Program)(t:TypeId)(x y:AV):Option Bool:=
 match y with
 |.list .nil _ _=>match x with
  |.list f _ xs=>match P.underlying t with
   |some (.slice _)=>match f with
    |.nil=>some true
    |_=>if xs.isEmpty then none else some false
   |_=>none
  |_=>none
 |.v (.pointer none)=>match P.underlying t with
  |some (.pointer _)=>match x with
   |.box _ _=>some false
   |.v (.pointer none)=>some true
   |_=>none
  |_=>none
 |.v .nilFunc=>match P.underlying t with
  |some (.func _ _ _)=>match x with
   |.fn _ _ _=>some false
   |.v .nilFunc=>some true
   |_=>none
  |_=>none
 |_=>none
def HW(op:BinOp)(b:Option Bool):Option AV:=
 match op,b with
 |.eql,some b=>some (.v (.bool b))
 |.neq,some b=>some (.v (.bool !b))
 |_,_=>none
def ke(P:Program)(op:BinOp)(t:TypeId)(x y:AV):Option AV:=
 match x with
 |.v a=>match y with
  |.v b=>match uz P op t a b with
   |some v=>some (.v v)
   |none=>HW op (isNil P t (.v a) (.v b))
  |_=>none
 |_=>HW op (isNil P t x y)
def pG(P:Program)(d:Nat)(t:TypeId)(x:bo):Option (List Mv):=
 match bE P t with
 |some ti=>match x.addr with
  |some (r,g1,g2,p,av)=>match a6 av p with
   |some y=>if fits ti y then
     if y.az then some [.put d y]
     else if r=d then none
     else if y.cell then some [.put d (.bg r g1 g2 p)]else some [.share r p,.put d y.bf]
    else none
   |none=>none
  |none=>none
 |none=>none
def rF(P:Program)(t:TypeId)(a x:bo):Option (List Mv):=
 match bE P t with
 |some ti=>match a.addr with
  |some (r,_,_,p,av)=>match a6 av p with
   |some y0=>if fits ti y0&&ti.size !=0 then match c6 x with
     |some (y,M)=>if fits ti y then some [.store r p M y]else none
     |none=>none
    else none
   |none=>none
  |none=>none
 |none=>none
def iD(P:Program)(d:Nat)(t:TypeId)(x:bo)(f:Nat):Option (List Mv):=
 match qC P t f with
 |some (o,ft)=>match bE P ft with
  |some ti=>match x.addr with
   |some (r,g1,g2,p,av)=>if r=d then none else if ti.size=0 then none else
    if flat (p++[fv ti o])then some [.put d (.ptr r g1 g2 (p++[fv ti o]))]else match a6 av (p++[fv ti o])with
     |some _=>some [.put d (.ptr r g1 g2 (p++[fv ti o]))]
     |none=>none
   |none=>none
  |none=>none
 |none=>none
def eW(P:Program)(d:Nat)(t:TypeId)(x i:bo):Option (List Mv):=
 match i.cont with
 |some (.v (.int _ n))=>match P.underlying t with
  |some (.slice e)=>match bE P e with
   |some ti=>match x.jI with
    |some (r,g1,g2,q,sz,o,m)=>if sz=ti.size/\0<=n/\n<m then if r=d then none else some [.put d (.ptr r g1 g2 (q++[.idx (o+n.toNat) sz]))]else none
    |none=>match x.cont with
     |some (.list _ sz xs)=>if sz=ti.size/\0<=n/\n<xs.length then match x.place with
       |some (r,g1,g2,p)=>if r=d then none else some [.put d (.ptr r g1 g2 (p++[.idx n.toNat sz]))]
       |none=>none
      else none
     |_=>none
   |none=>none
  |some (.array len e)=>match bE P e with
   |some ti=>match x.addr with
    |some (r,g1,g2,p,av)=>if 0<=n/\n<len/\r≠d then
      match a6 av (p++[fv ti (n.toNat*ti.size)])with
      |some _=>some [.put d (.ptr r g1 g2 (p++[fv ti (n.toNat*ti.size)]))]
      |none=>none
     else none
    |none=>none
   |none=>none
  |_=>none
 |_=>none
def lY(d:Nat)(x:bo)(i:Nat):Option (List Mv):=
 match x.cont with
 |some (.bC xs)=>match xs[i]?with
  |some y=>if y.az then some [.put d y]else match x.place with
   |some (r,g1,g2,p)=>if r=d\/p≠[]then none else some [.put d (.bg r g1 g2 [.bC i])]
   |none=>none
  |none=>none
 |_=>none
def u9(P:Program)(d:Nat)(t:TypeId)(x:bo)(f:Nat):Option (List Mv):=
 match qC P t f with
 |some (o,ft)=>match bE P ft with
  |some ti=>match x.cont with
   |some av=>match a6 av [fv ti o]with
    |some y=>if y.az then some [.put d y]else none
    |none=>none
   |none=>none
  |none=>none
 |none=>none
def rS(P:Program)(d:Nat)(t:TypeId)(x i:bo):Option (List Mv):=
 match i.cont with
 |some (.v (.int _ n))=>match P.underlying t with
  |some .string=>match x.cont with
   |some (.v (.string s))=>if 0<=n then match s[n.toNat]?with
     |some b=>some [.put d (.v (.int .u8 b.toNat))]
     |none=>none
    else none
   |_=>none
  |some (.array len e)=>match bE P e with
   |some ti=>match x.cont with
    |some av=>if 0<=n/\n<len then match a6 av [fv ti (n.toNat*ti.size)]with
      |some y=>if y.az then some [.put d y]else none
      |none=>none
     else none
    |none=>none
   |none=>none
  |_=>none
 |_=>none
def zY(P:Program)(d:Nat)(src dst:TypeId)(x:bo):Option (List Mv):=
 match P.underlying src,P.underlying dst,x.cont with
 |some _,some (.int k),some (.v (.int _ n))=>some [.put d (.v (.int k (k.wrap n)))]
 |some .string,some .string,some (.v (.string s))=>some [.put d (.v (.string s))]
 |_,_,_=>none
def kG:Option bo->Nat->Option Nat
 |none,DS=>some DS
 |some x,_=>match x.cont with
  |some (.v (.int _ n))=>if 0<=n then some n.toNat else none
  |_=>none
def nT(P:Program)(d:Nat)(t:TypeId)(x:bo)(lo hi mx:Option bo):Option (List Mv):=
 match P.underlying t with
 |some .string=>match x.cont with
  |some (.v (.string s))=>match mx with
   |none=>match kG lo 0,kG hi s.size with
    |some l,some h=>if l<=h/\h<=s.size then some [.put d (.v (.string (s.extract l h)))]else none
    |_,_=>none
   |some _=>none
  |_=>none
 |some (.slice e)=>match bE P e with
  |some ti=>match x.cont with
   |some (.list f sz xs)=>match kG lo 0,kG hi xs.length with
    |some l,some h=>match kG mx h with
     |some m=>if l<=h/\h<=m/\m<=xs.length then match f with
       |.nil=>some [.put d (.list .nil sz [])]
       |.shr=>if sz=ti.size then some [.put d (.list .shr sz ((xs.drop l).take (h-l)))]else none
       |.own=>if sz=ti.size then match x.place with
         |some (r,_,_,p)=>if r=d then none else some [.share r p,.put d (.list .shr sz (((eU xs).drop l).take (h-l)))]
         |none=>none
        else none
      else none
     |none=>none
    |_,_=>none
   |_=>none
  |none=>none
 |_=>none
def jh(P:Program)(d:Nat)(t:TypeId)(x y:bo):Option (List Mv):=
 match cG P t with
 |some e=>match bE P e with
  |some ti=>
   if ti.size=0 then none else
   match y.cont with
   |some (.list fy KW ys)=>
    let My:Option (List Nat):=if bG ys then some []else match fy,y.sl.av with
     |.own,.list _ _ _=>match y.s with
      |some s=>some [s]
      |none=>none
     |_,_=>none
    match My with
    |none=>none
    |some My=>
     if(ys.isEmpty||(KW==ti.size&&ys.all (fits ti)))&& !My.contains d then
     match x.cont with
     |some (.list .nil _ _)=>if(ys.length*ti.bytes)<=140737488355328/\ys.length<=maxLen then
       some [.make My d (if ys.isEmpty then .list .nil 0 []else .list .own ti.size ys)]else none
     |some (.list .own Qt xs)=>if Qt=ti.size/\(xs.length+ys.length)*ti.bytes<=140737488355328/\xs.length+ys.length<=maxLen then
       match x.sl.av with
       |.bg r _ _ p=>if r∈My then none else some [.take r d p,.make (d::My) d (.list .own ti.size (xs++ys))]
       |_=>match x.s with
        |some s=>if s∈My then none else some [.make (s::My) d (.list .own ti.size (xs++ys))]
        |none=>none
      else none
     |_=>none
     else none
   |_=>none
  |none=>none
 |none=>none
def RK(x:bo):Option AV:=
 match x.cont with
 |some y=>some y.bf
 |none=>none
def fk:List bo->Option (List AV)
 |[]=>some []
 |x::xs=>match RK x,fk xs with
  |some y,some ys=>some (y::ys)
  |_,_=>none
def shares:List bo->List Mv
 |[]=>[]
 |x::xs=>match x.cont with
  |some y=>if y.az then shares xs else match x.place with
   |some (r,_,_,p)=>.share r p::shares xs
   |none=>.take 0 0 []::shares xs
  |none=>.take 0 0 []::shares xs
abbrev Uq:=FuncId×List AV×AV
def cw(d:Option Nat)(res:AV)(ms:List Mv):List Mv:=
 match d with
 |some d=>ms++[.make [] d res]
 |none=>ms
def Ak(d:Option Nat)(f:bo)(aas:List bo)(res:AV):Option (List Mv×List Uq):=
 match f.cont with
 |some (.fn (.func g) first captured)=>if bG first&&bG captured then match fk aas with
   |some ys=>if !res.bh then match shares aas with
     |[]=>some (cw d res [],[(g,first++ys++captured,res)])
     |[m]=>some (cw d res [m],[(g,first++ys++captured,res)])
     |_=>none
    else some (cw d res [],[(g,first++ys++captured,res)])
   |none=>none
  else none
 |_=>none
def iF(P:Program)(d:Nat)(b:Builtin)(ts:List TypeId)(aas:List bo):Option (List Mv):=
 match b,ts,aas with
 |.len,t::_,[x]=>match x.cont with
  |some (.v (.string s))=>match P.underlying t with
   |some .string=>some [.put d (.v (.int .i64 s.size))]
   |_=>none
  |some (.list _ _ xs)=>match P.underlying t with
   |some (.slice _)=>some [.put d (.v (.int .i64 xs.length))]
   |_=>none
  |_=>none
 |.append,[t,t'],[x,y]=>match cG P t' with
  |some _=>jh P d t x y
  |none=>none
 |.min,_,[x,y]=>match x.cont,y.cont with
  |some (.v (.int k a)),some (.v (.int k' b))=>if k=k' then some [.put d (.v (.int k (min a b)))]else none
  |_,_=>none
 |.max,_,[x,y]=>match x.cont,y.cont with
  |some (.v (.int k a)),some (.v (.int k' b))=>if k=k' then some [.put d (.v (.int k (max a b)))]else none
  |_,_=>none
 |_,_,_=>none
def dZ:Option (List Mv)->Option (List Mv×List Uq)
 |some ms=>some (ms,[])
 |none=>none
def w6(P:Program)(σ:St)(o:Oper)(res:AV):Option (List Mv×List Uq):=
 match o.dst with
 |none=>match o.op with
  |.store t a x=>dZ (rF P t (resolve σ a) (resolve σ x))
  |.call c=>match c.callee with
   |.value f=>Ak none (resolve σ f) (c.args.toList.map (resolve σ)) res
   |_=>none
  |_=>none
 |some d=>match o.op with
  |.move x=>dZ (cm d (resolve σ x))
  |.nilCheck x=>match(resolve σ x).cont with
   |some (.box _ _)=>dZ (cm d (resolve σ x))
   |some (.fn (.func _) _ _)=>dZ (cm d (resolve σ x))
   |_=>match(resolve σ x).sl.av with
    |.ptr .. =>match(resolve σ x).addr with
     |some _=>dZ (cm d (resolve σ x))
     |none=>none
    |_=>none
  |.assign x=>dZ (cN d (resolve σ x))
  |.pick c x y=>match(resolve σ c).cont with
   |some (.v (.bool b))=>match b with
    |true=>dZ (cm d (resolve σ x))
    |false=>dZ (cm d (resolve σ y))
   |_=>none
  |.alloc t=>match bE P t with
   |some ti=>some ([.make [] d (.box true ti.zero)],[])
   |none=>none
  |.box t x=>match bE P t with
   |some ti=>match c6 (resolve σ x)with
    |some (y,M)=>if fits ti y then some ([.make M d (.box true y)],[])else none
    |none=>none
   |none=>none
  |.build t ps=>match bE P t with
   |some ti=>match ti.zero with
    |.agg z=>match placesOf P t with
     |some pl=>match dX (ps.toList.map fun p=>resolve σ p.2)with
      |some (ys,M)=>match pO pl z ((ps.toList.map (·.1)).zip ys)with
       |some cs=>some ([.make M d (.agg cs)],[])
       |none=>none
      |none=>none
     |none=>none
    |_=>none
   |none=>none
  |.buildSlice t n ps=>match cG P t with
   |some e=>match bE P e with
    |some ti=>match dX (ps.toList.map fun p=>resolve σ p.2)with
     |some (ys,M)=>if(ps.toList.map (·.1)=List.range n)/\(ys.all (fits ti))/\n*ti.size<=2^24/\n<=maxLen then some ([.make M d (.list .own ti.size ys)],[])else none
     |none=>none
    |none=>none
   |none=>none
  |.load t a=>dZ (pG P d t (resolve σ a))
  |.fieldAddr t x f=>dZ (iD P d t (resolve σ x) f)
  |.field t x f=>dZ (u9 P d t (resolve σ x) f)
  |.indexAddr t x i=>dZ (eW P d t (resolve σ x) (resolve σ i))
  |.index t x i=>dZ (rS P d t (resolve σ x) (resolve σ i))
  |.extract x i=>dZ (lY d (resolve σ x) i)
  |.binOp op t x y _=>match(resolve σ x).cont with
   |some a=>match(resolve σ y).cont with
    |some b=>match ke P op t a b with
     |some v=>some ([.put d v],[])
     |none=>none
    |none=>none
   |none=>none
  |.unOp op _ x=>match(resolve σ x).cont with
   |some (.v a)=>match UA op a with
    |some v=>some ([.put d (.v v)],[])
    |none=>none
   |_=>none
  |.convert s t x=>dZ (zY P d s t (resolve σ x))
  |.slice t x l h m=>dZ (nT P d t (resolve σ x) (l.map (resolve σ)) (h.map (resolve σ)) (m.map (resolve σ)))
  |.makeSlice t l c=>match cG P t with
   |some e=>match bE P e with
    |some ti=>match(resolve σ l).cont,(resolve σ c).cont with
     |some (.v (.int _ a)),some (.v (.int _ b))=>if 0<=a/\a<=b/\b*ti.bytes<=140737488355328/\b<=maxLen/\0<ti.size then
       some ([.make [] d (.list .own ti.size (List.replicate a.toNat ti.zero))],[])else none
     |_,_=>none
    |none=>none
   |none=>none
  |.makeFunc f first captured=>match fk (first.toList.map (resolve σ)),fk (captured.toList.map (resolve σ))with
   |some a,some c=>if(shares (first.toList.map (resolve σ)++captured.toList.map (resolve σ))).isEmpty then some ([.put d (.fn f a c)],[])else none
   |_,_=>none
  |.call c=>match c.callee with
   |.value f=>Ak (some d) (resolve σ f) (c.args.toList.map (resolve σ)) res
   |.builtin b=>dZ (iF P d b c.argTypes.toList (c.args.toList.map (resolve σ)))
   |_=>none
  |_=>none
end Go.Ai
namespace Go.Ai
open Go.RowKit
structure Hid where
 v:Nat->Value
 g:Nat->Prop
 rd:Option Nat:=none
 df:List Deferred:=[]
theorem ai.Kt{w:World}{S:Nat->Prop}{σ:St}{T:Nat->Value}{t d g1 g2:Nat}{F:List Nat}{g:FuncId}{aW:List (Nat×Nat)}(h:ai w S σ T t F)(bQ:(σ t).av=.dY g aW)(cR:aW.all (fun q=>q.1 !=d)=true):
 ai w S (fB σ d ⟨.dY g aW,g1,g2⟩) (fB T d (T t)) d []:=by
 have Dp:∀q∈aW,q.1≠d:=by simpa using cR
 unfold ai at h⊢;rw[bQ]at h;simp only[ak]at h⊢;obtain⟨-,h2,h3⟩:=h;refine⟨trivial,fun q hq=>by rw[ab _ _ (Dp q hq)];exact h2 q hq,fun k=>?_⟩;rw[h3 fun q hq=>by have:=k q hq;rwa[ab _ _ (Dp q hq)]at this]
 congr 2
 exact List.map_congr_left fun q hq=>by rw[ab _ _ (Dp q hq)]
def bW(V:Hid)(w0:World)(b:Nat):Prop:=w0.heap.size<=b\/V.g b
structure qS(V:Hid)(w0 w w':World):Prop where
 os:w'.os=w.os
 tape:w'.tape=w.tape
 output:w'.output=w.output
 size:w.heap.size<=w'.heap.size
 block:∀k,k<w0.heap.size->¬V.g k->w'.heap[k]?=w.heap[k]?
def jF(V:Hid)(w0 w:World):Prop:=qS V w0 w0 w
def Laid(P:Program)(w:World):Prop:=Lib.TabIs P w "internal/strconv.uint64pow10" .u64 Lib.pow10Tab
def Ax(P:Program)(B:Nat->Prop):Prop:=∀g,P.globalNamed "internal/strconv.uint64pow10"=some g->¬B g
structure iV(P:Program)(V:Hid)(w:World):Prop where
 laid:Laid P w
 apart:Ax P V.g
theorem Laid.same{P:Program}{w w':World}(h:Laid P w)(hg:∀g,P.globalNamed "internal/strconv.uint64pow10"=some g->g<w.heap.size->w'.heap[g]?=w.heap[g]?):Laid P w':=by
 unfold Laid Lib.TabIs World.var? at*;cases hn:P.globalNamed "internal/strconv.uint64pow10" with
 |none=>rw[hn]at h;simp at h
 |some g=>
  rw[hn]at h;simp only[Option.bind_some]at h⊢;have cB:g<w.heap.size:=by apply Decidable.byContradiction;intro hh;rw[Array.getElem?_eq_none (by omega)]at h;simp at h
  rw[hg g hn cB];exact h
theorem Laid.lt{P:Program}{w:World}(h:Laid P w){g:Nat}(hn:P.globalNamed "internal/strconv.uint64pow10"=some g):g<w.heap.size:=by unfold Laid Lib.TabIs World.var? at h;rw[hn]at h;simp only[Option.bind_some]at h;apply Decidable.byContradiction;intro hh;rw[Array.getElem?_eq_none (by omega)]at h;simp at h
theorem iV.H8{P:Program}{V:Hid}{w0 w:World}(h:iV P V w0)(k:jF V w0 w):Laid P w:=h.laid.same fun g hn cB=>k.block g cB (h.apart g hn)
theorem iV.bW{P:Program}{V:Hid}{w0:World}(h:iV P V w0):Ax P (bW V w0):=fun g hn hb=>hb.elim (fun hb=>by have:=h.laid.lt hn;omega) (h.apart g hn)
theorem Ax.mono{P:Program}{B C:Nat->Prop}(h:Ax P C)(k:∀b,B b->C b):Ax P B:=fun g hn hb=>h g hn (k g hb)
theorem qS.trans{V:Hid}{w0 a b c:World}(h:qS V w0 a b)(k:qS V w0 b c):qS V w0 a c:=⟨k.os.trans h.os,k.tape.trans h.tape,k.output.trans h.output,Nat.le_trans h.size k.size,fun i hi hg=>(k.block i hi hg).trans (h.block i hi hg)⟩
theorem jF.refl(V:Hid)(w:World):jF V w w:=⟨rfl,rfl,rfl,Nat.le_refl _,fun _ _ _=>rfl⟩
theorem jF.trans{V:Hid}{w0 w w':World}(h:jF V w0 w)(k:qS V w0 w w'):jF V w0 w':=qS.trans h k
theorem jF.Jq{V:Hid}{w0 w w':World}(h:jF V w0 w)(k:Below w.heap.size w w'):jF V w0 w':=h.trans ⟨k.os,k.tape,k.output,k.size,fun i hi _=>k.block i (Nat.lt_of_lt_of_le hi h.size)⟩
theorem jF.new{V:Hid}{w0 w:World}(h:jF V w0 w):∀b,w.heap.size<=b->bW V w0 b:=fun _ hb=>.inl (Nat.le_trans h.size hb)
theorem s6{V:Hid}{w0:World}{k:Nat}(h:bW V w0 k)(h1:k<w0.heap.size)(h2:¬V.g k):False:=h.elim (fun h=>by omega) h2
def tv(V:Hid)(a:Act):Nat->Value:=fun i=>if i<1000000\/i<a.tmps.size then a.tmps.getD i undef else V.v i
theorem sw(V:Hid)(a:Act){i:Nat}(h:i<1000000\/i<a.tmps.size):tv V a i=a.tmps.getD i undef:=by unfold tv;rw[if_pos h]
theorem ll{V:Hid}{a:Act}{d:Nat}(h:d<a.tmps.size)(v:Value):tv V (a.put (some d) v)=fB (tv V a) d v:=by
 funext i
 unfold tv fB Act.put;simp only[Array.getD_eq_getD_getElem?,Array.getElem?_setIfInBounds];simp only[Array.size_setIfInBounds];by_cases e:i=d
 ·subst e;simp[h]
 rw[if_neg (fun e':d=i=>e e'.symm),if_neg e]
theorem size_put(a:Act)(d:Option Nat)(v:Value):(a.put d v).tmps.size=a.tmps.size:=by cases d<;>simp[Act.put]
theorem dV(a:Act)(d:Option Nat)(v:Value):(a.put d v).defers=a.defers:=by cases d<;>simp[Act.put]
theorem gh(V:Hid)(a:Act){t:Nat}(h:t<1000000):a.eval (.tmp t)=tv V a t:=(sw V a (.inl h)).symm
def Inv(N:Nat)(V:Hid)(w0:World)(S0:Nat->Prop)(σ:St)(a:Act)(w:World):Prop:=∃S F,aK S (bW V w0) σ (tv V a) w F/\a.tmps.size=N/\a.defers=V.df/\(∀b,S0 b->S b)/\(∀b,S b->S0 b\/bW V w0 b)/\jF V w0 w
def FW(rd:Option Nat):Fence:={Fence.wide with round:=rd}
theorem I3{rd:Option Nat}{n:Nat}{P:Program}{f:FuncId}{args:Array Value}{w:World}{R:Ending->World->Prop}(h:Calls P f args w R):CallsIn (FW rd) n P f args w R:=by have h1:=(callsIn_wide (n:=n)).2 h;exact⟨trivial,fun cs _=>h1.2 cs (room_wide _)⟩
def Oper.QO(rd:Option Nat)(P:Program)(o:Oper)(a:Act)(w:World)(next:Act->World->Prop)(Q:Exit->Act->World->Prop):Prop:=o.wpIn (FW rd) 0 P a w next Q
theorem Oper.nO{rd:Option Nat}{P:Program}{o:Oper}{a:Act}{w:World}{next:Act->World->Prop}{Q:Exit->Act->World->Prop}(hn:∀c,o.op≠.defer c)
 (h:o.uponIn (FW rd) 0 P a next Q ((execOp a.eval o).run P w)):Oper.QO rd P o a w next Q:=
 ⟨fun _ _=>trivial,by rw[Oper.semAt_eq _ _ _ hn];exact h⟩
def qg(P:Program)(f:FuncId)(vs:Array Value)(w:World)(R:Value->World->Prop):Prop:=∀(rd:Option Nat)(o:Oper)(a:Act)(next:Act->World->Prop)(Q:Exit->Act->World->Prop),(∀v w',R v w'->next (a.put o.dst v) w')->o.uponIn (FW rd) 0 P a next Q ((callFunc f vs).run P w)
def Sound(P:Program)(f:FuncId)(args:List AV)(r:AV):Prop:=
 ∀(w:World)(S:Nat->Prop)(vs:List Value),Laid P w->(∀b,S b->b<w.heap.size)->Cells w S false args vs []->
  qg P f vs.toArray w fun v w'=>∃S' F,Below w.heap.size w w'/\(∀b,S b->S' b)/\(∀b,S' b->S b\/w.heap.size<=b)/\(∀b,S' b->b<w'.heap.size)/\
   Rel w' S' r v F/\F.Nodup/\∀b∈F,w.heap.size<=b/\b<w'.heap.size/\¬S' b
section
variable{P:Program}{S:Nat->Prop}{B:Nat->Prop}{σ:St}{w:World}{F:Nat->List Nat}{V:Hid}
theorem x8(w:World)(S:Nat->Prop)(v:Value):Rel w S (gI v) v []:=by
 unfold gI;split
 ·simp[Rel]
 split
 ·rename_i h;simp[Rel,h]
 simp[Rel]
theorem tN(w:World)(S:Nat->Prop)(one:Bool):∀(l:List Value),(one=true->∀v∈l,v.oneCell'=true)->Cells w S one (l.map gI) l []
 |[],_=>by simp[Cells]
 |v::l,h=>by simp only[List.map_cons,Cells];exact⟨v,l,[],[],rfl,rfl,fun h1=>h h1 v (by simp),x8 w S v,tN w S one l fun h1 u hu=>h h1 u (by simp[hu])⟩
theorem fE(w:World)(S:Nat->Prop)(v:Value)(h:kX v=true):Rel w S (eP v) v []:=by
 unfold eP;split
 ·rename_i cs;simp only[Rel];refine⟨cs,rfl,tN w S true _ fun _ v hv=>?_⟩;simp only[kX,List.all_eq_true]at h;exact h v hv
 exact x8 w S v
def aE:Operand->Bool
 |.const v=>kX v
 |.tmp t=>Nat.blt t 1000000
 |_=>true
theorem dT{t:Nat}(h:aE (.tmp t)=true):t<1000000:=by have h:Nat.blt t 1000000=true:=h;have:=Nat.le_of_ble_eq_true h;omega
theorem aM{a:Act}(h:aK S B σ (tv V a) w F)(x:Operand)(hx:aE x=true){y:AV}(hc:(resolve σ x).cont=some y):
 ∃F1,Rel w S y (a.eval x) F1/\(∀b∈F1,∃i,b∈F i)/\
  (∀t,x=.tmp t->(σ t).av.plain=true->F1=F t/\y=(σ t).av)/\
  (∀t r g1 g2,x=.tmp t->(σ t).av=.bg r g1 g2 []->F1=F r/\y=(σ r).av/\tv V a t=tv V a r/\(σ r).av.plain=true):=by
 cases x with
 |const v=>
  simp only[resolve,bo.cont]at hc;have hr:=fE w S v hx;have hy:y=eP v:=by split at hc<;>simp_all[Rel]
  subst hy;exact⟨[],hr,by simp,by simp,by simp⟩
 |func f=>simp only[resolve,bo.cont,Option.some.injEq]at hc;subst hc;refine⟨[],?_,by simp,by simp,by simp⟩;simp only[Rel,Act.eval];exact⟨#[],#[],[],[],rfl,by simp[Cells],by simp[Cells],rfl⟩
 |global g=>simp[resolve,bo.cont,Sl.none]at hc
 |tmp t=>
  have Hm:a.eval (.tmp t)=tv V a t:=gh V a (dT hx);simp only[resolve]at hc;have ht:=h.rel t;rw[Hm];by_cases hp:(σ t).av.plain=true
  ·rw[ai.ar hp]at ht;have hy:y=(σ t).av:=by
    unfold bo.of at hc;split at hc
    ·rename_i e;rw[e]at hp;simp[AV.plain]at hp
    ·rename_i e;rw[e]at hp;simp[AV.plain]at hp
    ·rename_i e;rw[e]at hp;simp[AV.plain]at hp
    simp only[bo.cont]at hc;split at hc<;>simp_all[AV.plain]
   subst hy;refine⟨F t,ht,fun b hb=>⟨t,hb⟩,fun t' e _=>?_,fun t' r g1 g2 e hb=>?_⟩
   ·cases e;exact⟨rfl,rfl⟩
   cases e;rw[hb]at hp;simp[AV.plain]at hp
  cases bQ:(σ t).av with
  |bg r g1 g2 p=>
   unfold ai at ht;rw[bQ]at ht;simp only at ht;simp only[bo.of,bQ,bo.cont]at hc;split at hc
   ·rename_i e1;split at hc
    ·rename_i e2;split at hc
     ·rename_i y' AF;split at hc
      ·rename_i L7;simp only[Option.some.injEq]at hc;subst hc;simp only[Bool.and_eq_true]at L7;obtain⟨-,-,-,h4⟩:=ht;obtain⟨L,l1,l2,l3⟩:=h4 e1 (CA e2) fun _=>⟨_,AF⟩;by_cases Dn:p=[]
       ·subst Dn;simp only[a6,Option.some.injEq]at AF;subst AF;have hr:=h.rel r;rw[ai.ar L7.2]at hr;simp only[loc,Option.some.injEq]at l1;subst l1;simp only[holds]at l2;refine⟨F r,by rw[l2];exact hr,fun b hb=>⟨r,hb⟩,fun t' e gJ=>?_,fun t' r' Pl Pk e hb=>?_⟩
        ·cases e;rw[bQ]at gJ;simp[AV.plain]at gJ
        cases e;rw[bQ]at hb;cases hb;exact⟨rfl,rfl,l2,L7.2⟩
       have gJ:(σ r).av.plain=true:=by
        cases p with
        |nil=>exact absurd rfl Dn
        |cons s p=>cases hh:(σ r).av<;>simp[AV.plain]<;>(rw[hh]at AF;simp[a6]at AF)
       have hr:=h.rel r;rw[ai.ar gJ]at hr;obtain⟨L1,z1,F1,r1,r2,r3,r4,r5⟩:=Rel.read p (L:=.val (tv V a r)) hr rfl AF;rw[l1]at r1;simp only[Option.some.injEq]at r1;subst r1;have hz:tv V a t=z1:=by
        cases L with
        |val q=>simp only[holds]at l2 r2;rw[l2,r2]
        |addr ad=>
         have ha:=l3 ad rfl;have je:y'.cell=true:=by
          unfold uJ at L7;split at L7
          ·exact absurd rfl Dn
          ·rename_i i;simp only[loc,step1]at l1;cases hT:tv V a r<;>rw[hT]at l1<;>simp[bH]at l1
          exact L7.1
         have h1:=At.cell l2 (bS ha);have h2:=At.cell r2 (bS (r3.one je));rw[h1]at h2;simpa using h2
       refine⟨F1,by rw[hz];exact r3,fun b hb=>⟨r,r4 b hb⟩,fun t' e gJ=>?_,fun t' r' Pl Pk e hb=>?_⟩
       ·cases e;rw[bQ]at gJ;simp[AV.plain]at gJ
       cases e;rw[bQ]at hb;cases hb;exact absurd rfl Dn
      simp at hc
     simp at hc
    simp at hc
   simp at hc
  |ptr r g1 g2 p=>simp[bo.of,bQ,bo.cont]at hc
  |abs J=>simp[bo.of,bQ,bo.cont,Sl.none]at hc
  |dY g aW=>simp[bo.of,bQ,bo.cont]at hc
  |_=>rw[bQ]at hp;simp[AV.plain]at hp
theorem DZ{a:Act}(h:aK S B σ (tv V a) w F){t r g1 g2:Nat}{p:Path}{y:AV}(bQ:(σ t).av=.bg r g1 g2 p)(hc:(resolve σ (.tmp t)).cont=some y)
 {L:Loc}{z:Value}{F1:List Nat}(hl:loc w (.val (tv V a r)) p=some L)(hh:holds w L z)(hr:Rel w S y z F1):z=tv V a t:=by
 have ht:=h.rel t;unfold ai at ht;rw[bQ]at ht;simp only at ht;obtain⟨-,-,-,h4⟩:=ht;simp only[resolve,bo.of,bQ,bo.cont]at hc;split at hc
 ·rename_i e1;split at hc
  ·rename_i e2;obtain⟨L',l1,l2,l3⟩:=h4 e1 (CA e2) fun _=>by
    cases VY:a6 (σ r).av p with
    |none=>rw[VY]at hc;simp at hc
    |some y2=>exact⟨y2,rfl⟩
   rw[hl]at l1;simp only[Option.some.injEq]at l1;subst l1;cases L with
   |val q=>simp only[holds]at l2 hh;rw[l2,hh]
   |addr ad=>
    split at hc
    ·split at hc
     ·rename_i L7;simp only[Option.some.injEq]at hc;rw[hc]at L7;simp only[Bool.and_eq_true]at L7;have je:y.cell=true:=by
       have:=L7.1;unfold uJ at this;split at this
       ·simp[loc]at hl
       ·simp only[loc,step1]at hl;cases hT:tv V a r<;>rw[hT]at hl<;>simp[bH]at hl
       exact this
      have h1:=At.cell l2 (bS (l3 ad rfl));have h2:=At.cell hh (bS (hr.one je));rw[h1]at h2;simpa using h2.symm
     simp at hc
    simp at hc
  simp at hc
 simp at hc
theorem zZ{t r g1 g2:Nat}{p:Path}{y:AV}(bQ:(σ t).av=.bg r g1 g2 p)(hc:(resolve σ (.tmp t)).cont=some y):
 a6 (σ r).av p=some y/\(p≠[]->(σ r).av.plain=true)/\y.plain=true:=by
 simp only[resolve,bo.of,bQ,bo.cont]at hc;split at hc
 ·split at hc
  ·split at hc
   ·rename_i y' hy;split at hc
    ·rename_i L7;simp only[Option.some.injEq]at hc;subst hc;simp only[Bool.and_eq_true]at L7;refine⟨hy,fun hp=>?_,L7.2⟩;cases p with
     |nil=>exact absurd rfl hp
     |cons s p=>cases hh:(σ r).av<;>simp[AV.plain]<;>(rw[hh]at hy;simp[a6]at hy)
    simp at hc
   simp at hc
  simp at hc
 simp at hc
theorem Inv.put{N:Nat}{w0:World}{S0:Nat->Prop}{a:Act}{d:Nat}{y:AV}{z:Value}(h:Inv N V w0 S0 σ a w)(hd:d<N)
 (eH:∀S F,aK S (bW V w0) σ (tv V a) w F->ai w S (fB σ d ⟨y,(σ d).g1+1,(σ d).g2⟩) (fB (tv V a) d z) d []):
 Inv N V w0 S0 (fB σ d ⟨y,(σ d).g1+1,(σ d).g2⟩) (a.put (some d) z) w:=by
 obtain⟨S,F,hc,hN,ig,jl,gw,hb⟩:=h;refine⟨S,fB F d [],?_,by rw[size_put];exact hN,by rw[dV];exact ig,jl,gw,hb⟩;rw[ll (by rw[hN];exact hd)];exact hc.put d y z (eH S F hc)
theorem Inv.gp{N:Nat}{w0:World}{S0:Nat->Prop}{a:Act}{d:Nat}{y:AV}{z:Value}(h:Inv N V w0 S0 σ a w)(hd:d<N)
 (eH:∀S F,aK S (bW V w0) σ (tv V a) w F->Rel w S y z []):
 Inv N V w0 S0 (fB σ d ⟨y,(σ d).g1+1,(σ d).g2⟩) (a.put (some d) z) w:=
 h.put hd fun S F hc=>by have:=eH S F hc;rw[ai.ar (by rw[ak];exact this.plain)];simpa[ak]using this
theorem Mv.bu{d:Nat}{y:AV}:Mv.runs σ [.put d y]=some (fB σ d ⟨y,(σ d).g1+1,(σ d).g2⟩):=rfl
theorem sY(v:Value):(gI v).az=true:=by
 unfold gI;split
 ·rfl
 split<;>rfl
theorem qZ:∀l:List Value,bG (l.map gI)=true
 |[]=>rfl
 |v::l=>by simp[bG,sY,qZ l]
theorem ie(v:Value):(eP v).az=true:=by
 unfold eP;split
 ·simp[AV.az,qZ]
 exact sY v
theorem CX(v:Value):(gI v).plain=true:=by
 unfold gI;split
 ·rfl
 split<;>rfl
theorem cV(v:Value):(eP v).plain=true:=by
 unfold eP;split
 ·rfl
 exact CX v
theorem jD{N:Nat}{w0:World}{S0:Nat->Prop}{a:Act}{d:Nat}{σ':St}(h:Inv N V w0 S0 σ a w)(hd:d<N)(x:Operand)(hx:aE x=true){ms:List Mv}
 (hm:cm d (resolve σ x)=some ms)(hr:Mv.runs σ ms=some σ'):Inv N V w0 S0 σ' (a.put (some d) (a.eval x)) w:=by
 cases x with
 |const v=>
  have:ms=[.put d (eP v)]:=by simp only[resolve,cm]at hm;have h1:=ie v;have h2:=cV v;split at hm<;>simp_all[AV.plain]
  subst this;simp only[Mv.bu,Option.some.injEq]at hr;subst hr;exact h.gp hd fun S F _=>fE w S v hx
 |func f=>
  simp only[resolve,cm,AV.az,bG,Bool.and_self,if_true,Option.some.injEq]at hm;subst hm;simp only[Mv.bu,Option.some.injEq]at hr;subst hr;exact h.gp hd fun S F _=>by simp only[Rel,Act.eval];exact⟨#[],#[],[],[],rfl,by simp[Cells],by simp[Cells],rfl⟩
 |global g=>simp only[resolve,Sl.none,cm,AV.az,if_true,Option.some.injEq]at hm;subst hm;simp only[Mv.bu,Option.some.injEq]at hr;subst hr;exact h.gp hd fun S F _=>by simp[Rel]
 |tmp t=>
  rw[gh V a (dT hx)];cases bQ:(σ t).av with
  |bg r g1 g2 p=>
   simp only[resolve,bo.of,bQ,cm]at hm;split at hm
   ·simp at hm
   rename_i cR;simp only[Option.some.injEq]at hm;subst hm;simp only[Mv.bu,Option.some.injEq]at hr;subst hr;refine h.put hd fun S F hc=>?_;have ht:=hc.rel t;unfold ai at ht⊢;rw[bQ]at ht;simp only[ak,ab _ _ cR]at ht⊢;exact⟨trivial,ht.2⟩
  |ptr r g1 g2 p=>
   simp only[resolve,bo.of,bQ,cm]at hm;split at hm
   ·simp at hm
   rename_i cR;simp only[Option.some.injEq]at hm;subst hm;simp only[Mv.bu,Option.some.injEq]at hr;subst hr;refine h.put hd fun S F hc=>?_;have ht:=hc.rel t;unfold ai at ht⊢;rw[bQ]at ht;simp only[ak,ab _ _ cR]at ht⊢;exact⟨trivial,ht.2⟩
  |abs J=>simp only[resolve,bo.of,bQ,Sl.none,cm,AV.az,if_true,Option.some.injEq]at hm;subst hm;simp only[Mv.bu,Option.some.injEq]at hr;subst hr;exact h.gp hd fun S F hc=>by simp[Rel]
  |dY g aW=>
   simp only[resolve,bo.of,bQ,cm]at hm;split at hm
   ·rename_i cR;simp only[Option.some.injEq]at hm;subst hm;simp only[Mv.bu,Option.some.injEq]at hr;subst hr;exact h.put hd fun S F hc=>(hc.rel t).Kt bQ cR
   simp at hm
  |_=>
   all_goals
    have gJ:(σ t).av.plain=true:=by rw[bQ];rfl
    have R5:(resolve σ (.tmp t))=⟨some t,σ t,.none⟩:=by simp[resolve,bo.of,bQ]
    rw[R5]at hm;have hO:(if(σ t).av.az then some [Mv.put d (σ t).av]else if t=d then none else some [.put d (.bg t (σ t).g1 (σ t).g2 [])])=some ms:=by simpa only[cm,bQ]using hm
    split at hO
    ·rename_i fS;simp only[Option.some.injEq]at hO;subst hO;simp only[Mv.bu,Option.some.injEq]at hr;subst hr;exact h.gp hd fun S F hc=>by have ht:=hc.rel t;rw[ai.ar gJ]at ht;rw[Rel.az _ ht fS]at ht;exact ht
    split at hO
    ·simp at hO
    rename_i cR;simp only[Option.some.injEq]at hO;subst hO;simp only[Mv.bu,Option.some.injEq]at hr;subst hr;refine h.put hd fun S F hc=>?_;unfold ai;simp only[ak,ab _ _ cR];exact⟨trivial,Nat.le_refl _,Nat.le_refl _,fun _ _ _=>⟨.val _,rfl,rfl,by simp⟩⟩
end
section
variable{P:Program}{N:Nat}{w0 w:World}{V:Hid}{S0:Nat->Prop}{σ σ':St}{a:Act}
theorem mJ(w:World)(cs:Array Value)(e:TypeId):row? (w.alloc (.cells cs e)) w.heap.size=some (cs,(0,0)):=by unfold row?;rw[heap_alloc_new]
theorem mI(w:World)(o:Obj){b:Nat}(h:b<w.heap.size):(w.alloc o).heap[b]?=w.heap[b]?:=Below.heap_alloc w o b h
theorem Inv.make{w':World}{M:List Nat}{d:Nat}{y:AV}{z:Value}(h:Inv N V w0 S0 σ a w)(hd:d<N)(hb:Below w.heap.size w w')
 (hf:∀S F,aK S (bW V w0) σ (tv V a) w F->∃Fy,Rel w' S y z Fy/\Fy.Nodup/\∀b∈Fy,(∃m∈M,b∈F m)\/w.heap.size<=b/\b<w'.heap.size):
 Inv N V w0 S0 (made σ M d y) (a.put (some d) z) w':=by
 obtain⟨S,F,hc,hN,ig,jl,gw,cU⟩:=h;obtain⟨Fy,h1,h2,h3⟩:=hf S F hc;refine⟨S,fun i=>if i=d then Fy else if i∈M then[]else F i,?_,by rw[size_put];exact hN,by rw[dV];exact ig,jl,gw,cU.Jq hb⟩;rw[ll (by rw[hN];exact hd)];refine hc.make M d y z Fy cU.new hb.size (fun b dr _=>?_) h2 h3 h1;exact hb.block b dr
theorem iJ{M:List Nat}{d:Nat}{y:AV}:Mv.runs σ [.make M d y]=some (made σ M d y):=rfl
theorem D4{d:Nat}(h:Inv N V w0 S0 σ a w)(hd:d<N)(x:Operand)(hx:aE x=true){ms:List Mv}
 (hm:cN d (resolve σ x)=some ms)(hr:Mv.runs σ ms=some σ'):Inv N V w0 S0 σ' (a.put (some d) (a.eval x)) w:=by
 have general:∀y,(resolve σ x).cont=some y->y.az=true->ms=[.put d y]->Inv N V w0 S0 σ' (a.put (some d) (a.eval x)) w:=by
  intro y hy fS kr;subst kr;simp only[Mv.bu,Option.some.injEq]at hr;subst hr;exact h.gp hd fun S F hc=>by obtain⟨F1,h1,-⟩:=aM hc x hx hy;rw[Rel.az _ h1 fS]at h1;exact h1
 cases x with
 |const v=>
  have:ms=[.put d (eP v)]:=by simp only[resolve,cN]at hm;have h1:=ie v;have h2:=cV v;split at hm<;>simp_all[AV.plain]
  subst this;simp only[Mv.bu,Option.some.injEq]at hr;subst hr;exact h.gp hd fun S F _=>fE w S v hx
 |func f=>simp only[resolve,cN,AV.az,bG,Bool.and_self,if_true,Option.some.injEq]at hm;exact general (.fn (.func f) [] []) rfl rfl hm.symm
 |global g=>simp only[resolve,Sl.none,cN,AV.az,if_true,Option.some.injEq]at hm;subst hm;simp only[Mv.bu,Option.some.injEq]at hr;subst hr;exact h.gp hd fun S F _=>by simp[Rel]
 |tmp t=>
  have Hm:a.eval (.tmp t)=tv V a t:=gh V a (dT hx);cases bQ:(σ t).av with
  |ptr r g1 g2 p=>
   rw[Hm];simp only[resolve,bo.of,bQ,cN]at hm;split at hm
   ·simp at hm
   rename_i cR;simp only[Option.some.injEq]at hm;subst hm;simp only[Mv.bu,Option.some.injEq]at hr;subst hr;refine h.put hd fun S F hc=>?_;have ht:=hc.rel t;unfold ai at ht⊢;rw[bQ]at ht;simp only[ak,ab _ _ cR]at ht⊢;exact⟨trivial,ht.2⟩
  |bg r g1 g2 p=>
   simp only[resolve,bo.of,bQ,cN]at hm;split at hm
   ·rename_i y hy;split at hm
    ·rename_i fS;simp only[Option.some.injEq]at hm;exact general y (by simpa only[resolve,bo.of,bQ]using hy) fS hm.symm
    have AF:(resolve σ (.tmp t)).cont=some y:=by simpa only[resolve,bo.of,bQ]using hy
    obtain⟨jm,VK,VJ⟩:=zZ bQ AF;have Dm:(σ r).av.plain=true:=by
     by_cases hp:p=[]
     ·subst hp;simp only[a6,Option.some.injEq]at jm;rw[jm];exact VJ
     exact VK hp
    have JS:ms=[.take r d p]->Inv N V w0 S0 σ' (a.put (some d) (a.eval (.tmp t))) w:=by
     intro kr;subst kr;simp only[Mv.runs,Mv.run]at hr;split at hr
     ·rename_i σ1 mU;simp only[Option.some.injEq]at hr;subst hr;split at mU
      ·simp at mU
      rename_i O8;rw[jm]at mU;simp only at mU;split at mU
      ·rename_i av' hs;simp only[Option.some.injEq]at mU;subst mU;obtain⟨S,F,hc,hN,ig,jl,gw,cU⟩:=h;obtain⟨L,z,F2,F',k1,k2,k3,k4,-⟩:=hc.take r d p O8 Dm jm hs;rw[DZ hc bQ AF k1 k2 k3]at k4;refine⟨S,F',?_,by rw[size_put];exact hN,by rw[dV];exact ig,jl,gw,cU⟩;rw[ll (by rw[hN];exact hd),Hm];exact k4
      simp at mU
     simp at hr
    split at hm
    ·simp only[Option.some.injEq]at hm;exact JS hm.symm
    ·simp only[Option.some.injEq]at hm;exact JS hm.symm
    split at hm
    ·simp at hm
    rename_i ue;simp only[Option.some.injEq]at hm;subst hm;simp only[Mv.runs,Mv.run,jm]at hr;split at hr
    ·rename_i σ1 mU;split at mU
     ·rename_i av' hs;simp only[Option.some.injEq]at mU hr;subst mU;subst hr;obtain⟨S,F,hc,hN,ig,jl,gw,cU⟩:=h;obtain⟨L,z,F1,F',k1,k2,k3,k4,k5⟩:=hc.share r p Dm jm hs;have hz:=DZ hc bQ AF k1 k2 k3;have dz:∀b∈F1,bW V w0 b:=fun b hb=>(hc.own r b (k5 b hb)).1;have hS:=Rel.share (S':=fun b=>S b\/b∈F1) (fun _ h=>.inl h) _ k3 (fun b hb=>.inr hb);refine⟨fun b=>S b\/b∈F1,fB F' d [],?_,by rw[size_put];exact hN,by rw[dV];exact ig,fun b hb=>.inl (jl b hb),fun b hb=>hb.elim (gw b) (fun hb=>.inr (dz b hb)),cU⟩;rw[ll (by rw[hN];exact hd)];refine k4.put d _ _ ?_;rw[ai.ar (by rw[ak];exact hS.plain),ak,ak,Hm,<-hz];exact hS
     simp at mU
    simp at hr
   simp at hm
  |abs J=>simp only[resolve,bo.of,bQ,Sl.none,cN,AV.az,if_true,Option.some.injEq]at hm;subst hm;simp only[Mv.bu,Option.some.injEq]at hr;subst hr;exact h.gp hd fun S F hc=>by simp[Rel]
  |dY g aW=>
   rw[Hm];simp only[resolve,bo.of,bQ,cN]at hm;split at hm
   ·rename_i cR;simp only[Option.some.injEq]at hm;subst hm;simp only[Mv.bu,Option.some.injEq]at hr;subst hr;exact h.put hd fun S F hc=>(hc.rel t).Kt bQ cR
   simp at hm
  |box b z=>
   rw[Hm];have gJ:(σ t).av.plain=true:=by rw[bQ];rfl
   have R5:(resolve σ (.tmp t))=⟨some t,σ t,.none⟩:=by simp[resolve,bo.of,bQ]
   rw[R5]at hm;have hO:(if(σ t).av.az then some [Mv.put d (σ t).av]else if t=d then none else some [.put d (.bg t (σ t).g1 (σ t).g2 [])])=some ms:=by simpa only[cN,bQ]using hm
   split at hO
   ·rename_i fS;simp only[Option.some.injEq]at hO;subst hO;simp only[Mv.bu,Option.some.injEq]at hr;subst hr;exact h.gp hd fun S F hc=>by have ht:=hc.rel t;rw[ai.ar gJ]at ht;rw[Rel.az _ ht fS]at ht;exact ht
   split at hO
   ·simp at hO
   rename_i cR;simp only[Option.some.injEq]at hO;subst hO;simp only[Mv.bu,Option.some.injEq]at hr;subst hr;refine h.put hd fun S F hc=>?_;unfold ai;simp only[ak,ab _ _ cR];exact⟨trivial,Nat.le_refl _,Nat.le_refl _,fun _ _ _=>⟨.val _,rfl,rfl,by simp⟩⟩
  |_=>
   all_goals
    rw[Hm];have gJ:(σ t).av.plain=true:=by rw[bQ];rfl
    have R5:(resolve σ (.tmp t))=⟨some t,σ t,.none⟩:=by simp[resolve,bo.of,bQ]
    rw[R5]at hm;have hO:(if(σ t).av.az then some [Mv.put d (σ t).av]else if t=d then none else some [.make [t] d (σ t).av])=some ms:=by simpa only[cN,bQ]using hm
    split at hO
    ·rename_i fS;simp only[Option.some.injEq]at hO;subst hO;simp only[Mv.bu,Option.some.injEq]at hr;subst hr;exact h.gp hd fun S F hc=>by have ht:=hc.rel t;rw[ai.ar gJ]at ht;rw[Rel.az _ ht fS]at ht;exact ht
    split at hO
    ·simp at hO
    simp only[Option.some.injEq]at hO;subst hO;simp only[iJ,Option.some.injEq]at hr;subst hr;refine h.make hd (.refl _ _) fun S F hc=>?_;have ht:=hc.rel t;rw[ai.ar gJ]at ht;exact⟨F t,ht,hc.nodup t,fun b hb=>.inl ⟨t,by simp,hb⟩⟩
end
section
variable{P:Program}{N:Nat}{w0 w:World}{V:Hid}{S S0:Nat->Prop}{B:Nat->Prop}{σ σ':St}{a:Act}{F:Nat->List Nat}
theorem fY{rd:Option Nat}{o:Oper}{K:Act->World->Prop}{Q:Exit->Act->World->Prop}{v:Value}{w':World}(hr:(execOp a.eval o).run P w=.ok (.value v) w')(h:K (a.put o.dst v) w'):Oper.QO rd P o a w K Q:=by refine Oper.nO (fun c hc=>?_) (by rw[hr];exact h);simp only[execOp,hc]at hr;cases hz:(Go.resolve a.eval c o.type).run P w<;>simp[hz]at hr
theorem mO(h:aK S B σ (tv V a) w F)(x:Operand)(hx:aE x=true){y:AV}{M:List Nat}(hg:c6 (resolve σ x)=some (y,M)):
 ∃Fy,Rel w S y (a.eval x) Fy/\Fy.Nodup/\∀b∈Fy,∃m∈M,b∈F m:=by
 have general:(resolve σ x).cont=some y->y.az=true->∃Fy,Rel w S y (a.eval x) Fy/\Fy.Nodup/\∀b∈Fy,∃m∈M,b∈F m:=by intro hy fS;obtain⟨F1,h1,-⟩:=aM h x hx hy;rw[Rel.az _ h1 fS]at h1;exact⟨[],h1,List.nodup_nil,by simp⟩
 cases x with
 |const v=>
  have:y=eP v:=by simp only[resolve,c6]at hg;have h1:=ie v;have h2:=cV v;split at hg<;>simp_all[AV.plain]
  subst this;exact⟨[],fE w S v hx,List.nodup_nil,by simp⟩
 |func f=>simp only[resolve,c6,AV.az,bG,Bool.and_self,if_true,Option.some.injEq,Prod.mk.injEq]at hg;obtain⟨rfl,rfl⟩:=hg;exact general rfl rfl
 |global g=>simp[resolve,Sl.none,c6]at hg
 |tmp t=>
  cases bQ:(σ t).av with
  |ptr r g1 g2 p=>simp[resolve,bo.of,bQ,c6]at hg
  |dead=>simp[resolve,bo.of,bQ,c6]at hg
  |bg r g1 g2 p=>
   simp only[resolve,bo.of,bQ,c6]at hg;split at hg
   ·rename_i y0 hy;have AF:(resolve σ (.tmp t)).cont=some y0:=by simpa only[resolve,bo.of,bQ]using hy
    split at hg
    ·rename_i fS;simp only[Option.some.injEq,Prod.mk.injEq]at hg;obtain⟨rfl,rfl⟩:=hg;exact general AF fS
    split at hg
    ·rename_i hp;subst hp;simp only[Option.some.injEq,Prod.mk.injEq]at hg;obtain⟨rfl,rfl⟩:=hg;obtain⟨F1,e1,e2,e3,e4⟩:=aM h (.tmp t) hx AF;obtain⟨rfl,-,-,-⟩:=e4 t r g1 g2 rfl bQ;exact⟨_,e1,h.nodup r,fun b hb=>⟨r,by simp,hb⟩⟩
    simp at hg
   simp at hg
  |abs J=>simp[resolve,bo.of,bQ,Sl.none,c6]at hg
  |dY g aW=>simp[resolve,bo.of,bQ,c6]at hg
  |_=>
   all_goals
    rw[gh V a (dT hx)];have gJ:(σ t).av.plain=true:=by rw[bQ];rfl
    have R5:(resolve σ (.tmp t))=⟨some t,σ t,.none⟩:=by simp[resolve,bo.of,bQ]
    rw[R5]at hg;have J1:(if(σ t).av.az then some ((σ t).av,([]:List Nat))else some ((σ t).av,[t]))=some (y,M):=by simpa only[c6,bQ]using hg
    have ht:=h.rel t;rw[ai.ar gJ]at ht;split at J1
    ·rename_i fS;simp only[Option.some.injEq,Prod.mk.injEq]at J1;obtain⟨rfl,rfl⟩:=J1;rw[Rel.az _ ht fS]at ht;exact⟨[],ht,List.nodup_nil,by simp⟩
    simp only[Option.some.injEq,Prod.mk.injEq]at J1;obtain⟨rfl,rfl⟩:=J1;exact⟨F t,ht,h.nodup t,fun b hb=>⟨t,by simp,hb⟩⟩
theorem jM(h:aK S B σ (tv V a) w F):∀(xs:List Operand),xs.all aE=true->∀{ys:List AV}{M:List Nat},dX (xs.map (resolve σ))=some (ys,M)->
 ∃Fy,Cells w S false ys (xs.map a.eval) Fy/\Fy.Nodup/\∀b∈Fy,∃m∈M,b∈F m
 |[],_,ys,M,hg=>by simp only[List.map_nil,dX,Option.some.injEq,Prod.mk.injEq]at hg;obtain⟨rfl,rfl⟩:=hg;exact⟨[],by simp[Cells],List.nodup_nil,by simp⟩
 |x::xs,hx,ys,M,hg=>by
  simp only[List.all_cons,Bool.and_eq_true]at hx;simp only[List.map_cons,dX]at hg;split at hg
  ·rename_i y M1 KL M2 h1 h2;split at hg
   ·rename_i xb;simp only[Option.some.injEq,Prod.mk.injEq]at hg;obtain⟨rfl,rfl⟩:=hg;obtain⟨F1,a1,a2,a3⟩:=mO h x hx.1 h1;obtain⟨F2,b1,b2,b3⟩:=jM h xs hx.2 h2;refine⟨F1++F2,?_,?_,fun b hb=>?_⟩
    ·simp only[List.map_cons,Cells];exact⟨_,_,F1,F2,rfl,rfl,by simp,a1,b1⟩
    ·rw[List.nodup_append];refine⟨a2,b2,fun b hb c hc e=>?_⟩;subst e;obtain⟨m,hm,oY⟩:=a3 b hb;obtain⟨m',hO,acx⟩:=b3 b hc;have:m≠m':=fun e=>by
      subst e;have:=List.all_eq_true.1 xb m hm;simp at this;exact this hO
     exact h.cx m m' this b oY acx
    rcases List.mem_append.1 hb with hb|hb
    ·obtain⟨m,hm,oY⟩:=a3 b hb;exact⟨m,by simp[hm],oY⟩
    obtain⟨m,hm,oY⟩:=b3 b hb;exact⟨m,by simp[hm],oY⟩
   simp at hg
  simp at hg
theorem iw{t:TypeId}{ti:TI}(h:bE P t=some ti):∃i u z,P.info? t=some i/\P.underlying t=some u/\i.zero=some z/\ti.size=i.size/\ti.bytes=i.bytes/\ti.zero=eP z/\
 ti.agg=(match u with|.struct _|.array .. =>true|_=>false)/\z.cells.size=ti.size/\kX z=true:=by
 unfold bE at h;split at h
 ·rename_i i u h1 h2;split at h
  ·rename_i z hz;split at h
   ·rename_i Vl;simp only[Option.some.injEq]at h;subst h;exact⟨i,u,z,h1,h2,hz,rfl,rfl,rfl,rfl,Vl.1,Vl.2⟩
   simp at h
  simp at h
 simp at h
theorem uB{t:TypeId}{ti:TI}(h:bE P t=some ti)(w:World):(isAgg t).run P w=.ok ti.agg w:=by obtain⟨i,u,z,h1,h2,h3,h4,h5,h6,h7,-⟩:=iw h;unfold isAgg;simp only[Sem.run_bind,run_underlying h2,Result.andThen_ok];rw[h7];cases u<;>rfl
theorem cY{t:TypeId}{ti:TI}(h:bE P t=some ti)(w:World):(sizeOf t).run P w=.ok ti.size w:=by obtain⟨i,u,z,h1,h2,h3,h4,h5,h6,h7⟩:=iw h;simp[sizeOf,typeInfo,h1,h4]
theorem xZ{t:TypeId}{ti:TI}(h:bE P t=some ti)(w:World):∃z,(zeroValue t).run P w=.ok z w/\ti.zero=eP z/\z.cells.size=ti.size/\kX z=true:=by obtain⟨i,u,z,h1,h2,h3,h4,h5,h6,h7,h8,h9⟩:=iw h;exact⟨z,by simp[zeroValue,typeInfo,h1,h3],h6,h8,h9⟩
theorem lB{t:TypeId}{ti:TI}(ht:bE P t=some ti){ad:Addr}{z:Value}(h:At w ad z)(hz:(ti.agg=true/\∃cs,z=.agg cs/\cs.size=ti.size)\/(ti.agg=false/\z.oneCell'=true)):
 (loadVar t ad).run P w=.ok z w:=by
 unfold loadVar;simp only[Sem.run_bind,uB ht,Result.andThen_ok];rcases hz with⟨h1,cs,rfl,h2⟩|⟨h1,h2⟩
 ·obtain⟨hs,cs',fz,hr,hc⟩:=h;simp only[h1,if_true,Sem.run_bind,cY ht,Result.andThen_ok];have:=run_loadCells_list (P:=P) w ad cs.toList (fun j v hv=>by
   rw[bF hs,p7 (a:=⟨ad.block,ad.off+j,none⟩) rfl hr];exact hc j v (by simpa[aZ]using hv))
  rw[Array.length_toList,h2]at this;simp[this]
 simp only[h1,Bool.false_eq_true,if_false];rw[run_load,h.cell (bS h2)]
theorem j9{ti:TI}{y:AV}{z:Value}{F1:List Nat}(hf:fits ti y=true)(hr:Rel w S y z F1):
 (ti.agg=true/\∃cs,z=.agg cs/\cs.size=ti.size)\/(ti.agg=false/\z.oneCell'=true):=by
 unfold fits at hf;split at hf
 ·rename_i xs;simp only[Bool.and_eq_true,decide_eq_true_eq]at hf;simp only[Rel]at hr;obtain⟨cs,rfl,hc⟩:=hr;exact .inl ⟨hf.1,cs,rfl,by have:=Cells.length hc;simp at this;omega⟩
 simp only[Bool.and_eq_true,Bool.not_eq_true',decide_eq_true_eq]at hf;exact .inr ⟨hf.1.1,hr.one hf.2⟩
theorem qA{ti:TI}{y:AV}{z:Value}{F1:List Nat}(hf:fits ti y=true)(hr:Rel w S y z F1):z.cells.size=ti.size:=by
 unfold fits at hf;split at hf
 ·rename_i xs;simp only[Bool.and_eq_true,decide_eq_true_eq]at hf;simp only[Rel]at hr;obtain⟨cs,rfl,hc⟩:=hr;rw[aZ];have:=Cells.length hc;simp at this;omega
 simp only[Bool.and_eq_true,Bool.not_eq_true',decide_eq_true_eq]at hf;rw[bS (hr.one hf.2)];simp[hf.1.2]
theorem fP(w:World):∀(p q:Path)(L:Loc),loc w L (p++q)=(loc w L p).bind (loc w · q)
 |[],q,L=>rfl
 |s::p,q,L=>by
  simp only[List.cons_append,loc];cases step1 w L s with
  |none=>rfl
  |some L'=>simp only[Option.bind_some];exact fP w p q L'
theorem iH(h:aK S B σ (tv V a) w F)(x:Operand)(bj:aE x=true){r g1 g2:Nat}{p:Path}{av:AV}(hx:(resolve σ x).addr=some (r,g1,g2,p,av)):
 g1=(σ r).g1/\g2=(σ r).g2/\av=(σ r).av/\(∃ad,a.eval x=.pointer (some ad))/\((flat p=false->∃y,a6 av p=some y)->∃ad,loc w (.val (tv V a r)) p=some (.addr ad)/\a.eval x=.pointer (some ad)):=by
 cases x with
 |const v=>
  simp only[resolve,bo.addr]at hx;have h2:=cV v;split at hx
  ·rename_i e;rw[e]at h2;simp[AV.plain]at h2
  ·simp at hx
  ·rename_i e;rw[e]at h2;simp[AV.plain]at h2
  simp at hx
 |func f=>simp[resolve,bo.addr]at hx
 |global g=>simp[resolve,Sl.none,bo.addr]at hx
 |tmp t=>
  have Hm:a.eval (.tmp t)=tv V a t:=gh V a (dT bj);rw[Hm];have ht:=h.rel t;cases bQ:(σ t).av with
  |ptr r' Pl Pk p'=>
   unfold ai at ht;rw[bQ]at ht;simp only at ht;obtain⟨-,-,-,h5,h4⟩:=ht;simp only[resolve,bo.of,bQ,bo.addr]at hx;split at hx
   ·rename_i e1;split at hx
    ·rename_i e2;simp only[Option.some.injEq,Prod.mk.injEq]at hx;obtain⟨rfl,rfl,rfl,rfl,rfl⟩:=hx;exact⟨rfl,rfl,rfl,h5,h4 e1 e2⟩
    simp at hx
   simp at hx
  |box own x0=>
   have gJ:(σ t).av.plain=true:=by rw[bQ];rfl
   rw[ai.ar gJ,bQ]at ht;simp only[resolve,bo.of,bQ,bo.addr,Option.some.injEq,Prod.mk.injEq]at hx;obtain⟨rfl,rfl,rfl,rfl,rfl⟩:=hx;simp only[Rel]at ht;obtain⟨b,cs,fz,F',z,h1,-⟩:=ht;exact⟨rfl,rfl,by rw[bQ],⟨⟨b,0,none⟩,h1⟩,fun _=>⟨⟨b,0,none⟩,by simp[loc,step1,h1,bH],h1⟩⟩
  |bg r' Pl Pk p'=>
   simp only[resolve,bo.of,bQ,bo.addr]at hx;split at hx
   ·rename_i own x0 hc;simp only[Option.some.injEq,Prod.mk.injEq]at hx;obtain⟨rfl,rfl,rfl,rfl,rfl⟩:=hx;have bT:(resolve σ (.tmp t)).cont=some (.box own x0):=by simpa only[resolve,bo.of,bQ]using hc
    have JT:=ht;unfold ai at JT;rw[bQ]at JT;simp only at JT;obtain⟨-,-,-,h4⟩:=JT;have hv:∃L,loc w (.val (tv V a r')) p'=some L/\holds w L (tv V a t):=by
     simp only[bo.cont,bQ]at hc;split at hc
     ·rename_i e1;split at hc
      ·rename_i e2;obtain⟨L,l1,l2,-⟩:=h4 e1 (CA e2) fun _=>by
        cases VY:a6 (σ r').av p' with
        |none=>rw[VY]at hc;simp at hc
        |some y2=>exact⟨y2,rfl⟩
       exact⟨L,l1,l2⟩
      simp at hc
     simp at hc
    obtain⟨L,l1,l2⟩:=hv;obtain⟨F1,e1,-⟩:=aM h (.tmp t) bj bT;simp only[Rel,Hm]at e1;obtain⟨b,cs,fz,F',z,h1,-⟩:=e1;refine⟨rfl,rfl,rfl,⟨⟨b,0,none⟩,h1⟩,fun _=>⟨⟨b,0,none⟩,?_,h1⟩⟩;rw[fP,l1];simp only[Option.bind_some,loc];rw[h1]at l2;rw[bO l2 rfl (by simp)];rfl
   simp at hx
  |abs J=>simp[resolve,bo.of,bQ,bo.addr,Sl.none]at hx
  |dY g aW=>simp[resolve,bo.of,bQ,bo.addr]at hx
  |_=>simp[resolve,bo.of,bQ,bo.addr]at hx
end
section
variable{P:Program}{N:Nat}{w0 w:World}{V:Hid}{S S0:Nat->Prop}{B:Nat->Prop}{σ σ':St}{a:Act}{F:Nat->List Nat}
def Good(N:Nat)(V:Hid)(w0:World)(S0:Nat->Prop)(σ':St)(a:Act)(d:Nat)(r:Result Value):Prop:=∃v w',r=.ok v w'/\Inv N V w0 S0 σ' (a.put (some d) v) w'
theorem sT{T:Nat->Value}{r:Nat}{p:Path}{y:AV}{ad:Addr}(hg:a6 (σ r).av p=some y)(hl:loc w (.val (T r)) p=some (.addr ad)):(σ r).av.plain=true:=by
 cases p with
 |nil=>simp[loc]at hl
 |cons s p=>cases hh:(σ r).av<;>simp[AV.plain]<;>(rw[hh]at hg;simp[a6]at hg)
theorem Inv.By{d r:Nat}{p:Path}{y y':AV}{z':Value}(h:Inv N V w0 S0 σ a w)(hd:d<N)(hp:(σ r).av.plain=true)(hg:a6 (σ r).av p=some y)
 (hr:Mv.runs σ [.share r p,.put d y']=some σ')
 (hv:∀S F L z F1,aK S (bW V w0) σ (tv V a) w F->loc w (.val (tv V a r)) p=some L->holds w L z->Rel w S y z F1->∀S',Rel w S' y.bf z []->Rel w S' y' z' []):
 Inv N V w0 S0 σ' (a.put (some d) z') w:=by
 simp only[Mv.runs,Mv.run,hg]at hr;split at hr
 ·rename_i σ1 mU;split at mU
  ·rename_i av' hs;simp only[Option.some.injEq]at mU hr;subst mU;subst hr;obtain⟨S,F,hc,hN,ig,jl,gw,cU⟩:=h;obtain⟨L,z,F1,F',k1,k2,k3,k4,k5⟩:=hc.share r p hp hg hs;have dz:∀b∈F1,bW V w0 b:=fun b hb=>(hc.own r b (k5 b hb)).1;have hS:=hv S F L z F1 hc k1 k2 k3 (fun b=>S b\/b∈F1) (Rel.share (S':=fun b=>S b\/b∈F1) (fun _ h=>.inl h) _ k3 (fun b hb=>.inr hb));refine⟨fun b=>S b\/b∈F1,fB F' d [],?_,by rw[size_put];exact hN,by rw[dV];exact ig,fun b hb=>.inl (jl b hb),fun b hb=>hb.elim (gw b) (fun hb=>.inr (dz b hb)),cU⟩;rw[ll (by rw[hN];exact hd)];refine k4.put d _ _ ?_;rw[ai.ar (by rw[ak];exact hS.plain),ak,ak];exact hS
  simp at mU
 simp at hr
theorem H5{d t:Nat}(h:Inv N V w0 S0 σ a w)(hd:d<N)(x:Operand)(bj:aE x=true){ms:List Mv}
 (hm:pG P d t (resolve σ x)=some ms)(hr:Mv.runs σ ms=some σ'):Good N V w0 S0 σ' a d ((Instr.loadAt t (a.eval x)).run P w):=by
 unfold pG at hm;split at hm
 ·rename_i ti ga;split at hm
  ·rename_i r g1 g2 p av hx;split at hm
   ·rename_i y hg;split at hm
    ·rename_i lV;have bp:∀S F,aK S (bW V w0) σ (tv V a) w F->∃ad z F1,loc w (.val (tv V a r)) p=some (.addr ad)/\At w ad z/\Rel w S y z F1/\(Instr.loadAt t (a.eval x)).run P w=.ok z w/\(σ r).av.plain=true/\av=(σ r).av/\g1=(σ r).g1/\g2=(σ r).g2:=by
      intro S F hc;obtain⟨rfl,rfl,rfl,-,Is⟩:=iH hc x bj hx;obtain⟨ad,l1,l2⟩:=Is fun _=>⟨y,hg⟩;have gJ:=sT hg l1;have Ik:=hc.rel r;rw[ai.ar gJ]at Ik;obtain⟨L,z,F1,k1,k2,k3,-⟩:=Rel.read p (L:=.val (tv V a r)) Ik rfl hg;rw[l1]at k1;simp only[Option.some.injEq]at k1;subst k1;refine⟨ad,z,F1,l1,k2,k3,?_,gJ,rfl,rfl,rfl⟩;simp only[Instr.loadAt,Instr.sureAddr,l2,Sem.run_bind,Sem.run_pure,Result.andThen_ok];exact lB ga k2 (j9 lV k3)
     split at hm
     ·rename_i fS;simp only[Option.some.injEq]at hm;subst hm;simp only[Mv.bu,Option.some.injEq]at hr;subst hr;have hI:=h;obtain⟨S,F,hc,-⟩:=h;obtain⟨ad,z,F1,l1,l2,l3,l4,-⟩:=bp S F hc;refine⟨z,w,l4,hI.gp hd fun S' F' bT=>?_⟩;obtain⟨MM,z',vQ,Qy,LM,Vd,On,-⟩:=bp S' F' bT;rw[l4]at On;simp only[Result.ok.injEq,and_true]at On;subst On;rw[Rel.az _ Vd fS]at Vd;exact Vd
     split at hm
     ·simp at hm
     rename_i ue;split at hm
     ·rename_i je;simp only[Option.some.injEq]at hm;subst hm;simp only[Mv.bu,Option.some.injEq]at hr;subst hr;have hI:=h;obtain⟨S,F,hc,-⟩:=h;obtain⟨ad,z,F1,l1,l2,l3,l4,-⟩:=bp S F hc;refine⟨z,w,l4,hI.put hd fun S' F' bT=>?_⟩;obtain⟨MM,z',vQ,Qy,LM,Vd,On,-,rfl,rfl,rfl⟩:=bp S' F' bT;rw[l4]at On;simp only[Result.ok.injEq,and_true]at On;subst On;unfold ai;simp only[ak,ab _ _ ue];exact⟨trivial,Nat.le_refl _,Nat.le_refl _,fun _ _ _=>⟨.addr MM,Qy,LM,fun _ _=>Vd.one je⟩⟩
     simp only[Option.some.injEq]at hm;subst hm;have hI:=h;obtain⟨S,F,hc,-⟩:=h;obtain⟨ad,z,F1,l1,l2,l3,l4,gJ,rfl,-⟩:=bp S F hc;refine⟨z,w,l4,hI.By hd gJ hg hr fun S' F' L z' vQ bT k1 k2 k3 S'' hS=>?_⟩;obtain⟨MM,z2,F2,Qy,LM,Vd,On,-⟩:=bp S' F' bT;rw[l4]at On;simp only[Result.ok.injEq,and_true]at On;subst On;rw[Qy]at k1;simp only[Option.some.injEq]at k1;subst k1;have:z'=z:=by
      rcases j9 lV Vd with⟨h1,cs,rfl,h2⟩|⟨h1,h2⟩
      ·rcases j9 lV k3 with⟨h3,cs',rfl,h4⟩|⟨h3,-⟩
       ·congr 1
        obtain⟨-,c1,f1,r1,q1⟩:=LM;obtain⟨-,c2,f2,r2,q2⟩:=k2;rw[r1]at r2;simp only[Option.some.injEq,Prod.mk.injEq]at r2;obtain⟨rfl,rfl⟩:=r2;apply Array.ext_getElem?;intro j;by_cases hj:j<cs.size
        ·have e1:=q1 j cs[j] (by simp[aZ,hj]);have e2:=q2 j cs'[j] (by simp[aZ]);rw[e1]at e2;rw[Array.getElem?_eq_getElem hj,Array.getElem?_eq_getElem (by omega)];exact e2.symm
        rw[Array.getElem?_eq_none (by omega),Array.getElem?_eq_none (by omega)]
       rw[h1]at h3;cases h3
      rcases j9 lV k3 with⟨h3,-⟩|⟨h3,h4⟩
      ·rw[h1]at h3;cases h3
      have e1:=At.cell LM (bS h2);have e2:=At.cell k2 (bS h4);rw[e1]at e2;simpa using e2.symm
     rw[<-this];exact hS
    simp at hm
   simp at hm
  simp at hm
 simp at hm
theorem fT(q:Path)(k:AV->Option AV)(hk:∀x,a6 x q=k x):∀(p:Path)(x:AV),a6 x (p++q)=(a6 x p).bind k
 |[],x=>hk x
 |s::p,x=>by
  simp only[List.cons_append];unfold a6;split
  ·split
   ·rename_i xs i fe _;cases xs[i]?with
    |none=>rfl
    |some x'=>simp only[Option.bind_some];exact fT q k hk p x'
   rfl
  ·exact fT q k hk p _
  ·rename_i xs o;cases xs[o]?with
   |none=>rfl
   |some x'=>simp only[Option.bind_some];exact fT q k hk p x'
  ·split
   ·exact fT q k hk p _
   rfl
  ·rename_i xs i;cases xs[i]?with
   |none=>rfl
   |some x'=>simp only[Option.bind_some];exact fT q k hk p x'
  ·split
   ·exact fT q k hk p _
   rfl
  rfl
theorem wG(p q:Path)(x:AV):a6 x (p++q)=(a6 x p).bind (a6 · q):=fT q _ (fun _=>rfl) p x
theorem Mm{s:Step}{p:Path}{o:Nat}{n:Option Nat}(h:flat (s::p)=false):flat ((s::p)++[.at o n])=false:=by simp only[flat,List.cons_append,List.all_append]at h⊢;rw[h];rfl
theorem Un{p:Path}{av:AV}{ti:TI}{o:Nat}(hex:flat (p++[fv ti o])=false->∃y,a6 av (p++[fv ti o])=some y)(h0:flat p=false):∃y,a6 av p=some y:=by
 cases p with
 |nil=>exact⟨_,rfl⟩
 |cons s p=>
  obtain⟨y,hy⟩:=hex (Mm h0);rw[wG]at hy;cases VY:a6 av (s::p)with
  |none=>rw[VY]at hy;simp at hy
  |some y2=>exact⟨y2,rfl⟩
theorem xd{d t f:Nat}(h:Inv N V w0 S0 σ a w)(hd:d<N)(x:Operand)(bj:aE x=true){ms:List Mv}
 (hm:iD P d t (resolve σ x) f=some ms)(hr:Mv.runs σ ms=some σ'):Good N V w0 S0 σ' a d ((Instr.fieldAt t (a.eval x) f).run P w):=by
 unfold iD at hm;split at hm
 ·rename_i o ft hf;split at hm
  ·rename_i ti ga;split at hm
   ·rename_i r g1 g2 p av hx;split at hm
    ·simp at hm
    rename_i ue;split at hm
    ·simp at hm
    rename_i ct;have kr:ms=[.put d (.ptr r g1 g2 (p++[fv ti o]))]/\(flat (p++[fv ti o])=false->∃y,a6 av (p++[fv ti o])=some y):=by
     split at hm
     ·rename_i bj;simp only[Option.some.injEq]at hm;exact⟨hm.symm,by simp[bj]⟩
     split at hm
     ·rename_i y hy;simp only[Option.some.injEq]at hm;exact⟨hm.symm,fun _=>⟨y,hy⟩⟩
     simp at hm
    obtain⟨rfl,hex⟩:=kr;simp only[Mv.bu,Option.some.injEq]at hr;subst hr;have hI:=h;obtain⟨S,F,hc,-⟩:=h;have Dn:flat p=false->∃y,a6 av p=some y:=Un hex;obtain⟨-,-,-,-,Is⟩:=iH hc x bj hx;obtain⟨ad,l1,l2⟩:=Is Dn;have bp:(Instr.fieldAt t (a.eval x) f).run P w=.ok (.pointer (some (ad.add o))) w:=by
     unfold qC at hf;split at hf
     ·rename_i fs hu;split at hf
      ·rename_i fl bj;simp only[Option.some.injEq,Prod.mk.injEq]at hf;obtain⟨rfl,rfl⟩:=hf;simp[Instr.fieldAt,run_underlying hu,bj,l2,Instr.sureAddr,fieldPlace,cY ga,ct]
      simp at hf
     simp at hf
    refine⟨_,w,bp,hI.put hd fun S' F' bT=>?_⟩;obtain⟨e1,e2,e3,-,O6⟩:=iH bT x bj hx;obtain⟨MM,Qy,LM⟩:=O6 Dn;rw[l2]at LM;simp only[Value.pointer.injEq,Option.some.injEq]at LM;subst LM;unfold ai;simp only[ak,ab _ _ ue];refine⟨trivial,by omega,by omega,⟨_,rfl⟩,fun _ _ _=>⟨ad.add o,?_,rfl⟩⟩;rw[fP,Qy];simp[loc,step1,fv]
   simp at hm
  simp at hm
 simp at hm
theorem gD(h:aK S B σ (tv V a) w F)(x:Operand)(hx:aE x=true){r g1 g2:Nat}{p:Path}{y:AV}(hc:(resolve σ x).cont=some y)(hp:(resolve σ x).place=some (r,g1,g2,p)):
 a6 (σ r).av p=some y/\(σ r).g1=g1/\(KS p=true\/(σ r).g2=g2)/\g1<=(σ r).g1/\g2<=(σ r).g2/\(σ r).av.plain=true/\∃L,loc w (.val (tv V a r)) p=some L/\holds w L (a.eval x)/\(∀ad,L=.addr ad->(a.eval x).oneCell'=true):=by
 cases x with
 |const v=>
  simp only[resolve,bo.place]at hp;have h2:=cV v;split at hp
  ·rename_i e;rw[e]at h2;simp[AV.plain]at h2
  ·simp at hp
  simp at hp
 |func f=>simp[resolve,bo.place]at hp
 |global g=>simp[resolve,Sl.none,bo.place]at hp
 |tmp t=>
  rw[gh V a (dT hx)];cases bQ:(σ t).av with
  |bg r' Pl Pk p'=>
   have hp':r=r'/\g1=Pl/\g2=Pk/\p=p':=by simp only[resolve,bo.of,bQ,bo.place,Option.some.injEq,Prod.mk.injEq]at hp;obtain⟨rfl,rfl,rfl,rfl⟩:=hp;exact⟨rfl,rfl,rfl,rfl⟩
   obtain⟨rfl,rfl,rfl,rfl⟩:=hp';obtain⟨k1,k2,k3⟩:=zZ bQ hc;have ht:=h.rel t;unfold ai at ht;rw[bQ]at ht;simp only at ht;obtain⟨-,c1,c2,h4⟩:=ht;simp only[resolve,bo.of,bQ,bo.cont]at hc;split at hc
   ·rename_i e1;split at hc
    ·rename_i e2;obtain⟨L,l1,l2,l3⟩:=h4 e1 (CA e2) fun _=>by
      cases VY:a6 (σ r).av p with
      |none=>rw[VY]at hc;simp at hc
      |some y2=>exact⟨y2,rfl⟩
     refine⟨k1,e1,e2,c1,c2,?_,L,l1,l2,l3⟩;by_cases Dn:p=[]
     ·subst Dn;simp only[a6,Option.some.injEq]at k1;rw[k1];exact k3
     exact k2 Dn
    simp at hc
   simp at hc
  |ptr r' Pl Pk p'=>simp[resolve,bo.of,bQ,bo.place]at hp
  |abs J=>simp[resolve,bo.of,bQ,bo.place,Sl.none]at hp
  |dY g aW=>simp[resolve,bo.of,bQ,bo.cont]at hc
  |_=>
   all_goals
    have gJ:(σ t).av.plain=true:=by rw[bQ];rfl
    have R5:(resolve σ (.tmp t))=⟨some t,σ t,.none⟩:=by simp[resolve,bo.of,bQ]
    obtain⟨F1,e1,e2,e3,e4⟩:=aM h (.tmp t) hx hc;have hy:y=(σ t).av:=(e3 t rfl gJ).2;rw[R5]at hp;simp only[bo.place,bQ,Option.some.injEq,Prod.mk.injEq]at hp;obtain⟨rfl,rfl,rfl,rfl⟩:=hp;exact⟨by rw[hy];rfl,rfl,.inl rfl,Nat.le_refl _,Nat.le_refl _,gJ,.val _,rfl,rfl,by simp⟩
end
section
variable{P:Program}{N:Nat}{w0 w:World}{V:Hid}{S S0:Nat->Prop}{B:Nat->Prop}{σ σ':St}{a:Act}{F:Nat->List Nat}
theorem cv(h:aK S B σ (tv V a) w F)(x:Operand)(hx:aE x=true){v:Value}(hc:(resolve σ x).cont=some (.v v)):a.eval x=v:=by obtain⟨F1,h1,-⟩:=aM h x hx hc;simp only[Rel]at h1;exact h1.2.1
theorem dh{d:Nat}{y:AV}{z:Value}{r:Result Value}(h:Inv N V w0 S0 σ a w)(hd:d<N)(hr:Mv.runs σ [.put d y]=some σ')
 (bp:r=.ok z w)(eH:∀S F,aK S (bW V w0) σ (tv V a) w F->Rel w S y z []):Good N V w0 S0 σ' a d r:=by
 simp only[Mv.bu,Option.some.injEq]at hr;subst hr;exact⟨z,w,bp,h.gp hd eH⟩
theorem Rel.iz{f:Fl}{sz:Nat}{xs:List AV}{z:Value}{F1:List Nat}(h:Rel w S (.list f sz xs) z F1):
 ∃ad cap,z=.slice ad xs.length cap/\xs.length<=cap/\(f=.nil->ad=none/\xs=[]/\cap=0)/\(f≠.nil->xs≠[]->∃b off,ad=some ⟨b,off,none⟩)/\(ad=none->xs=[]/\cap=0):=by
 cases f with
 |nil=>simp only[Rel]at h;obtain⟨rfl,rfl,-⟩:=h;exact⟨none,0,rfl,by simp,by simp,by simp,by simp⟩
 |shr=>simp only[Rel]at h;rcases h with⟨rfl,rfl,-⟩|⟨b,off,cap,cs,fz,rfl,h2,h3,h4,-⟩
       ·exact⟨none,0,rfl,by simp,by simp,by simp,by simp⟩
       exact⟨_,cap,rfl,h4,by simp,fun _ _=>⟨b,off,rfl⟩,by simp⟩
 |own=>simp only[Rel]at h;rcases h with⟨rfl,rfl,-⟩|⟨b,cap,cs,F',rfl,h2,h3,-⟩
       ·exact⟨none,0,rfl,by simp,by simp,by simp,by simp⟩
       exact⟨_,cap,rfl,h3,by simp,fun _ _=>⟨b,0,rfl⟩,by simp⟩
theorem Em:∀(p:Path){q:Path}{sz o n:Nat},Bn p=some (q,sz,o,n)->p=q++[.jI sz o n]
 |[],_,_,_,_,h=>by simp[Bn]at h
 |s::p,q,sz,o,n,h=>by
  unfold Bn at h;split at h
  ·split at h
   ·simp only[Option.some.injEq,Prod.mk.injEq]at h;obtain⟨rfl,rfl,rfl,rfl⟩:=h;rfl
   simp at h
  split at h
  ·rename_i q' u hq;simp only[Option.some.injEq,Prod.mk.injEq]at h;obtain⟨rfl,rfl⟩:=h;rw[Em _ hq];rfl
  simp at h
theorem Bl(h:aK S B σ (tv V a) w F)(x:Operand)(hx:aE x=true){r g1 g2 sz o n:Nat}{q:Path}(hw:(resolve σ x).jI=some (r,g1,g2,q,sz,o,n)):
 ∃f xs b off cap len L,a6 (σ r).av q=some (.list f sz xs)/\o+n<=xs.length/\0<n/\g1=(σ r).g1/\g2=(σ r).g2/\loc w (.val (tv V a r)) q=some L/\holds w L (.slice (some ⟨b,off,none⟩) len cap)/\
  a.eval x=.slice (some ⟨b,off+o*sz,none⟩) n (cap-o):=by
 cases x with
 |const v=>
  have h2:=cV v;simp only[resolve,bo.jI]at hw;split at hw
  ·rename_i hv;rw[hv]at h2;simp[AV.plain]at h2
  simp at hw
 |func f=>simp[resolve,bo.jI]at hw
 |global g=>simp[resolve,bo.jI,Sl.none]at hw
 |tmp t=>
  rw[gh V a (dT hx)];unfold bo.jI at hw;split at hw
  ·rename_i r' Pl Pk p bQ;have bQ:(σ t).av=.bg r' Pl Pk p:=by
    revert bQ;simp only[resolve,bo.of];split<;>first|exact id|(intro h;simp[Sl.none]at h)
   split at hw
   ·rename_i q' fe o' n' hu;simp only[resolve,bo.of,bQ]at hw;split at hw<;>try(simp at hw;done)
    rename_i e1;split at hw<;>try(simp at hw;done)
    rename_i e2;split at hw<;>try(simp at hw;done)
    rename_i f W4 xs OK;split at hw<;>try(simp at hw;done)
    rename_i gr;obtain⟨rfl,k1,k2⟩:=gr;simp only[Option.some.injEq,Prod.mk.injEq]at hw;obtain⟨rfl,rfl,rfl,rfl,rfl,rfl,rfl⟩:=hw;have hp:=Em _ hu;have ht:=h.rel t;unfold ai at ht;rw[bQ]at ht;simp only at ht;obtain⟨-,-,-,h4⟩:=ht;obtain⟨L,l1,l2,-⟩:=h4 e1 e2 fun _=>⟨.dead,by rw[hp,wG,OK];simp[a6,k1,k2]⟩;rw[hp,fP]at l1;obtain⟨Lq,m1,m2⟩:=Option.bind_eq_some_iff.1 l1;have gJ:(σ r').av.plain=true:=by cases hh:(σ r').av<;>simp[AV.plain]<;>(rw[hh]at OK;cases q'<;>simp[a6]at OK)
    have Ik:=h.rel r';rw[ai.ar gJ]at Ik;obtain⟨L1,z1,F1,r1,r2,r3,r4,r5⟩:=Rel.read q' (L:=.val (tv V a r')) Ik rfl OK;rw[m1]at r1;simp only[Option.some.injEq]at r1;subst r1;obtain⟨ad,cap,hz,iB,uX,Im⟩:=r3.iz;have hf:f≠.nil:=fun e=>by have:=(uX e).2.1;subst this;simp at k2;omega
    obtain⟨b,off,rfl⟩:=Im.1 hf (fun e=>by subst e;simp at k2;omega);refine⟨f,xs,b,off,cap,xs.length,Lq,OK,k2,k1,e1.symm,rfl,m1,by rw[<-hz];exact r2,?_⟩;simp only[loc]at m2;rw[hz]at r2;rw[bO r2 rfl (by simp)]at m2;simp only[bH,Option.bind_some,Option.some.injEq]at m2;subst m2;simp only[holds]at l2;rw[l2,bF rfl]
   simp at hw
  simp at hw
theorem w9{d t:Nat}(h:Inv N V w0 S0 σ a w)(hd:d<N)(x i:Operand)(oL:aE x=true)(Xl:aE i=true){ms:List Mv}
 (hm:eW P d t (resolve σ x) (resolve σ i)=some ms)(hr:Mv.runs σ ms=some σ'):Good N V w0 S0 σ' a d ((Instr.indexAt t (a.eval x) (a.eval i)).run P w):=by
 unfold eW at hm;split at hm
 ·rename_i k n hi;split at hm
  ·rename_i e hu;split at hm
   ·rename_i ti ga;split at hm
    ·rename_i r g1 g2 q sz o m hwn;split at hm
     ·rename_i gr;obtain⟨rfl,OZ,MU⟩:=gr;split at hm
      ·simp at hm
      rename_i ue;simp only[Option.some.injEq]at hm;subst hm;simp only[Mv.bu,Option.some.injEq]at hr;subst hr;have hI:=h;obtain⟨S,F,hc,-⟩:=h;have YX:=cv hc i Xl hi;obtain⟨f,xs,b,off,cap,len,L,z1,z2,z3,z4,z5,z6,z7,z8⟩:=Bl hc x oL hwn;have bp:(Instr.indexAt t (a.eval x) (a.eval i)).run P w=.ok (.pointer (some ((⟨b,off,none⟩:Addr).add ((o+n.toNat)*ti.size)))) w:=by
       rw[z8,YX];have:(⟨b,off+o*ti.size,none⟩:Addr).add (n.toNat*ti.size)=(⟨b,off,none⟩:Addr).add ((o+n.toNat)*ti.size):=by rw[bF rfl,bF rfl,Nat.add_mul];simp only[Nat.add_assoc]
       rw[<-this];simp[Instr.indexAt,asIntOf,run_underlying hu,OZ,MU,cY ga]
      refine⟨_,w,bp,hI.put hd fun S' F' bT=>?_⟩;obtain⟨f',o8,b',afa,ZQ,afe,L',y1,y2,y3,y4,y5,y6,y7,y8⟩:=Bl bT x oL hwn;rw[y6]at z6;simp only[Option.some.injEq]at z6;subst z6;unfold ai;simp only[ak,ab _ _ ue];refine⟨trivial,by omega,by omega,⟨_,rfl⟩,fun _ _ _=>⟨(⟨b,off,none⟩:Addr).add ((o+n.toNat)*ti.size),?_,rfl⟩⟩;rw[fP,y6];simp only[Option.bind_some,loc];rw[bO z7 rfl (by simp)];rfl
     simp at hm
    split at hm
    ·rename_i f sz xs hx;split at hm
     ·rename_i gr;obtain⟨rfl,OZ,MU⟩:=gr;split at hm
      ·rename_i r g1 g2 p hp;split at hm
       ·simp at hm
       rename_i ue;simp only[Option.some.injEq]at hm;subst hm;simp only[Mv.bu,Option.some.injEq]at hr;subst hr;have hI:=h;obtain⟨S,F,hc,-⟩:=h;have YX:=cv hc i Xl hi;obtain⟨F1,e1,-⟩:=aM hc x oL hx;obtain⟨ad,cap,hz,iB,uX,Im⟩:=e1.iz;have hf:f≠.nil:=fun e=>by have:=(uX e).2.1;subst this;simp at MU;omega
       obtain⟨b,off,rfl⟩:=Im.1 hf (fun e=>by subst e;simp at MU;omega);have bp:(Instr.indexAt t (a.eval x) (a.eval i)).run P w=.ok (.pointer (some ((⟨b,off,none⟩:Addr).add (n.toNat*ti.size)))) w:=by rw[hz,YX];simp[Instr.indexAt,asIntOf,run_underlying hu,OZ,MU,cY ga]
       refine⟨_,w,bp,hI.put hd fun S' F' bT=>?_⟩;obtain⟨q1,q2,q3,q4,q5,q6,L,q7,q8,q9⟩:=gD bT x oL hx hp;unfold ai;simp only[ak,ab _ _ ue];refine⟨trivial,q4,q5,⟨_,rfl⟩,fun _ _ _=>⟨(⟨b,off,none⟩:Addr).add (n.toNat*ti.size),?_,rfl⟩⟩;rw[fP,q7];simp only[Option.bind_some,loc];rw[hz]at q8;rw[bO q8 rfl (by simp)];rfl
      simp at hm
     simp at hm
    simp at hm
   simp at hm
  ·rename_i len e hu;split at hm
   ·rename_i ti ga;split at hm
    ·rename_i r g1 g2 p av hx;split at hm
     ·rename_i gr;obtain⟨OZ,MU,ue⟩:=gr;split at hm
      ·rename_i y hy;simp only[Option.some.injEq]at hm;subst hm;simp only[Mv.bu,Option.some.injEq]at hr;subst hr;have hI:=h;obtain⟨S,F,hc,-⟩:=h;have YX:=cv hc i Xl hi;have Dn:flat p=false->∃y,a6 av p=some y:=Un fun _=>⟨y,hy⟩;obtain⟨-,-,-,-,Is⟩:=iH hc x oL hx;obtain⟨ad,l1,l2⟩:=Is Dn;have bp:(Instr.indexAt t (a.eval x) (a.eval i)).run P w=.ok (.pointer (some (ad.add (n.toNat*ti.size)))) w:=by
        rw[l2,YX];simp[Instr.indexAt,asIntOf,run_underlying hu,OZ,MU,Instr.sureAddr,cY ga]
       refine⟨_,w,bp,hI.put hd fun S' F' bT=>?_⟩;obtain⟨e1,e2,e3,-,O6⟩:=iH bT x oL hx;obtain⟨MM,Qy,LM⟩:=O6 Dn;rw[l2]at LM;simp only[Value.pointer.injEq,Option.some.injEq]at LM;subst LM;unfold ai;simp only[ak,ab _ _ ue];refine⟨trivial,by omega,by omega,⟨_,rfl⟩,fun _ _ _=>⟨ad.add (n.toNat*ti.size),?_,rfl⟩⟩;rw[fP,Qy];simp[loc,step1,fv]
      simp at hm
     simp at hm
    simp at hm
   simp at hm
  simp at hm
 simp at hm
theorem A1{d i:Nat}(h:Inv N V w0 S0 σ a w)(hd:d<N)(x:Operand)(oL:aE x=true){ms:List Mv}
 (hm:lY d (resolve σ x) i=some ms)(hr:Mv.runs σ ms=some σ'):Good N V w0 S0 σ' a d ((Instr.extract (a.eval x) i).run P w):=by
 unfold lY at hm;split at hm
 ·rename_i xs hx;split at hm
  ·rename_i y hy;have bp:∀S F,aK S (bW V w0) σ (tv V a) w F->∃z F1 cs,a.eval x=.tuple cs/\cs[i]?=some z/\Rel w S y z F1/\(Instr.extract (a.eval x) i).run P w=.ok z w:=by
    intro S F hc;obtain⟨F1,e1,-⟩:=aM hc x oL hx;simp only[Rel]at e1;obtain⟨cs,pL,hC⟩:=e1;obtain⟨y0,A,Fx,B',-,-,hR,hl,-⟩:=Cells.lens i hC hy;have kh:cs[i]?=some y0:=by simpa using hl
    exact⟨y0,Fx,cs,pL,kh,hR,by rw[pL];simp[Instr.extract,kh]⟩
   split at hm
   ·rename_i fS;simp only[Option.some.injEq]at hm;subst hm;have hI:=h;obtain⟨S,F,hc,-⟩:=h;obtain⟨z,F1,cs,h1,h2,h3,h4⟩:=bp S F hc;refine dh hI hd hr h4 fun S' F' bT=>?_;obtain⟨z',vQ,cs',Ei,MY,XA,Zx⟩:=bp S' F' bT;rw[h4]at Zx;simp only[Result.ok.injEq,and_true]at Zx;subst Zx;rw[Rel.az _ XA fS]at XA;exact XA
   split at hm
   ·rename_i r g1 g2 p hp;split at hm
    ·simp at hm
    rename_i gr;have ue:r≠d:=fun e=>gr (.inl e);have Dn:p=[]:=Classical.byContradiction fun e=>gr (.inr e);subst Dn;simp only[Option.some.injEq]at hm;subst hm;simp only[Mv.bu,Option.some.injEq]at hr;subst hr;have hI:=h;obtain⟨S,F,hc,-⟩:=h;obtain⟨z,F1,cs,h1,h2,h3,h4⟩:=bp S F hc;refine⟨z,w,h4,hI.put hd fun S' F' bT=>?_⟩;obtain⟨q1,q2,q3,q4,q5,q6,L,q7,q8,q9⟩:=gD bT x oL hx hp;unfold ai;simp only[ak,ab _ _ ue];simp only[loc,Option.some.injEq]at q7;subst q7;simp only[holds]at q8;refine⟨trivial,q4,q5,fun _ _ _=>⟨.val z,?_,rfl,by simp⟩⟩;simp[loc,step1,<-q8,h1,bH,h2]
   simp at hm
  simp at hm
 simp at hm
theorem B8{av y:AV}{ti:TI}{o ft:Nat}(ga:bE P ft=some ti){z:Value}{F1:List Nat}(hr:Rel w S av z F1)(hg:a6 av [fv ti o]=some y)(fS:y.az=true):
 ∃cs v,z=.agg cs/\(part ft cs o).run P w=.ok v w/\Rel w S y v []:=by
 have:=Rel.read [fv ti o] (L:=.val z) hr rfl hg;obtain⟨L1,z1,F2,k1,k2,k3,-⟩:=this;rw[Rel.az _ k3 fS]at k3;unfold fv at k1 hg;cases Mf:ti.agg with
 |false=>simp only[Mf,Bool.false_eq_true,if_false]at k1 hg;simp only[loc,step1]at k1;cases z<;>simp[bH]at k1;rename_i cs;obtain⟨v,hv,rfl⟩:=k1;simp only[holds]at k2;subst k2;exact⟨cs,z1,rfl,by simp[part,uB ga,Mf,hv],k3⟩
 |true=>simp only[Mf,if_true]at k1 hg;simp only[loc,step1]at k1;cases z<;>simp[bH]at k1;rename_i cs;subst k1;simp only[holds]at k2;subst k2;exact⟨cs,_,rfl,by simp[part,uB ga,Mf,cY ga],k3⟩
theorem Gq{d t f:Nat}(h:Inv N V w0 S0 σ a w)(hd:d<N)(x:Operand)(oL:aE x=true){ms:List Mv}
 (hm:u9 P d t (resolve σ x) f=some ms)(hr:Mv.runs σ ms=some σ'):Good N V w0 S0 σ' a d ((Instr.field t (a.eval x) f).run P w):=by
 unfold u9 at hm;split at hm
 ·rename_i o ft hf;split at hm
  ·rename_i ti ga;split at hm
   ·rename_i av hx;split at hm
    ·rename_i y hy;split at hm
     ·rename_i fS;simp only[Option.some.injEq]at hm;subst hm;have bp:∀S F,aK S (bW V w0) σ (tv V a) w F->∃v,(Instr.field t (a.eval x) f).run P w=.ok v w/\Rel w S y v []:=by
       intro S F hc;obtain⟨F1,e1,-⟩:=aM hc x oL hx;obtain⟨cs,v,hz,hp,hv⟩:=B8 ga e1 hy fS;refine⟨v,?_,hv⟩;unfold qC at hf;split at hf
       ·rename_i fs hu;split at hf
        ·rename_i fl bj;simp only[Option.some.injEq,Prod.mk.injEq]at hf;obtain⟨rfl,rfl⟩:=hf;simp[Instr.field,run_underlying hu,bj,hz,asAgg,hp]
        simp at hf
       simp at hf
      have hI:=h;obtain⟨S,F,hc,-⟩:=h;obtain⟨v,h1,-⟩:=bp S F hc;refine dh hI hd hr h1 fun S' F' bT=>?_;obtain⟨v',Ei,MY⟩:=bp S' F' bT;rw[h1]at Ei;simp only[Result.ok.injEq,and_true]at Ei;subst Ei;exact MY
     simp at hm
    simp at hm
   simp at hm
  simp at hm
 simp at hm
theorem FK{d t:Nat}(h:Inv N V w0 S0 σ a w)(hd:d<N)(x i:Operand)(oL:aE x=true)(Xl:aE i=true){ms:List Mv}
 (hm:rS P d t (resolve σ x) (resolve σ i)=some ms)(hr:Mv.runs σ ms=some σ'):Good N V w0 S0 σ' a d ((Instr.index t (a.eval x) (a.eval i)).run P w):=by
 unfold rS at hm;split at hm
 ·rename_i k n hi;split at hm
  ·rename_i hu;split at hm
   ·rename_i s hx;split at hm
    ·rename_i hn;split at hm
     ·rename_i b hb;simp only[Option.some.injEq]at hm;subst hm;have hI:=h;obtain⟨S,F,hc,-⟩:=h;have h1:=cv hc i Xl hi;have h2:=cv hc x oL hx;refine dh (z:=.int .u8 b.toNat) hI hd hr ?_ fun S' F' bT=>by simp[Rel,scalar]
      rw[h1,h2];simp[Instr.index,asIntOf,run_underlying hu,hn,hb]
     simp at hm
    simp at hm
   simp at hm
  ·rename_i len e hu;split at hm
   ·rename_i ti ga;split at hm
    ·rename_i av hx;split at hm
     ·rename_i hn;split at hm
      ·rename_i y hy;split at hm
       ·rename_i fS;simp only[Option.some.injEq]at hm;subst hm;have bp:∀S F,aK S (bW V w0) σ (tv V a) w F->∃v,(Instr.index t (a.eval x) (a.eval i)).run P w=.ok v w/\Rel w S y v []:=by
         intro S F hc;have h1:=cv hc i Xl hi;obtain⟨F1,e1,-⟩:=aM hc x oL hx;obtain⟨cs,v,hz,hp,hv⟩:=B8 ga e1 hy fS;exact⟨v,by rw[h1,hz];simp[Instr.index,asIntOf,run_underlying hu,hn.1,hn.2,cY ga,hp],hv⟩
        have hI:=h;obtain⟨S,F,hc,-⟩:=h;obtain⟨v,h1,-⟩:=bp S F hc;refine dh hI hd hr h1 fun S' F' bT=>?_;obtain⟨v',Ei,MY⟩:=bp S' F' bT;rw[h1]at Ei;simp only[Result.ok.injEq,and_true]at Ei;subst Ei;exact MY
       simp at hm
      simp at hm
     simp at hm
    simp at hm
   simp at hm
  simp at hm
 simp at hm
theorem IY{d s t:Nat}(h:Inv N V w0 S0 σ a w)(hd:d<N)(x:Operand)(oL:aE x=true){ms:List Mv}
 (hm:zY P d s t (resolve σ x)=some ms)(hr:Mv.runs σ ms=some σ'):Good N V w0 S0 σ' a d ((convert s t (a.eval x)).run P w):=by
 unfold zY at hm;split at hm
 ·rename_i u k kk n h1 h2 h3;simp only[Option.some.injEq]at hm;subst hm;have hI:=h;obtain⟨S,F,hc,-⟩:=h;have h4:=cv hc x oL h3;refine dh (z:=.int k (k.wrap n)) hI hd hr ?_ fun S' F' bT=>by simp[Rel,scalar]
  rw[h4];cases u<;>simp[convert,run_underlying h1,run_underlying h2,Conv.intToInt]
 ·rename_i s0 h1 h2 h3;simp only[Option.some.injEq]at hm;subst hm;have hI:=h;obtain⟨S,F,hc,-⟩:=h;have h4:=cv hc x oL h3;refine dh (z:=.string s0) hI hd hr ?_ fun S' F' bT=>by simp[Rel,scalar]
  rw[h4];simp[convert,run_underlying h1,run_underlying h2]
 simp at hm
end
section
variable{P:Program}{N:Nat}{w0 w:World}{V:Hid}{S S0:Nat->Prop}{B:Nat->Prop}{σ σ':St}{a:Act}{F:Nat->List Nat}
theorem gB{t e:TypeId}(h:cG P t=some e):P.underlying t=some (.slice e):=by
 unfold cG at h;split at h
 ·rename_i e' hu;simp only[Option.some.injEq]at h;subst h;exact hu
 simp at h
theorem dx(h:aK S B σ (tv V a) w F)(x:Option Operand)(hx:∀o,x=some o->aE o=true){DS l y:Nat}{code:BoundsCode}(hi:kG (x.map (resolve σ)) DS=some l)(hy:l<=y):
 match x with
 |none=>l=DS
 |some o=>∃k,(Instr.sliceBound (a.eval o) y code).run P w=.ok l w/\a.eval o=.int k l:=by
 cases x with
 |none=>simp only[Option.map_none,kG,Option.some.injEq]at hi;exact hi.symm
 |some o=>
  simp only[Option.map_some,kG]at hi;split at hi
  ·rename_i k n hc;split at hi
   ·rename_i hn;simp only[Option.some.injEq]at hi;subst hi;have hv:=cv h o (hx o rfl) hc;have e:((n.toNat:Nat):Int)=n:=Int.toNat_of_nonneg hn;refine⟨k,?_,by rw[hv,e]⟩;rw[hv];have:n<=(y:Int):=by omega
    simp[Instr.sliceBound,asIntOf,hn,this]
   simp at hi
  simp at hi
theorem ix(h:aK S B σ (tv V a) w F)(sl:Bool){len cap:Nat}(lo hi mx:Option Operand)(kh:∀o,lo=some o->aE o=true)(uf:∀o,hi=some o->aE o=true)(Xh:∀o,mx=some o->aE o=true)
 {l h' m:Nat}(h1:kG (lo.map (resolve σ)) 0=some l)(h2:kG (hi.map (resolve σ)) len=some h')(h3:kG (mx.map (resolve σ)) cap=some m)(hl:l<=h')(hm:h'<=m)(hc:m<=cap)(hh:mx=none\/hi.isSome):
 (Instr.sliceBounds sl len cap (lo.map a.eval) (hi.map a.eval) (mx.map a.eval)).run P w=.ok (l,h',m) w:=by
 cases mx with
 |none=>
  simp only[Option.map_none,kG,Option.some.injEq]at h3;subst h3;cases hi with
  |none=>
   simp only[Option.map_none,kG,Option.some.injEq]at h2;subst h2;cases lo with
   |none=>simp only[Option.map_none,kG,Option.some.injEq]at h1;subst h1;simp[Instr.sliceBounds]
   |some o=>obtain⟨k,e1,-⟩:=dx (P:=P) h (some o) kh (y:=len) (code:=.sliceB) h1 hl;simp[Instr.sliceBounds,e1]
  |some o2=>
   cases lo with
   |none=>
    simp only[Option.map_none,kG,Option.some.injEq]at h1;subst h1;cases sl
    ·obtain⟨k,e2,-⟩:=dx (P:=P) h (some o2) uf (y:=cap) (code:=.sliceAlen) h2 (by omega);simp[Instr.sliceBounds,e2]
    obtain⟨k,e2,-⟩:=dx (P:=P) h (some o2) uf (y:=cap) (code:=.sliceAcap) h2 (by omega);simp[Instr.sliceBounds,e2]
   |some o=>
    obtain⟨k,e1,-⟩:=dx (P:=P) h (some o) kh (y:=h') (code:=.sliceB) h1 hl;cases sl
    ·obtain⟨k,e2,-⟩:=dx (P:=P) h (some o2) uf (y:=cap) (code:=.sliceAlen) h2 (by omega);simp[Instr.sliceBounds,e1,e2]
    obtain⟨k,e2,-⟩:=dx (P:=P) h (some o2) uf (y:=cap) (code:=.sliceAcap) h2 (by omega);simp[Instr.sliceBounds,e1,e2]
 |some o3=>
  rcases hh with hh|hh
  ·cases hh
  cases hi with
  |none=>simp at hh
  |some o2=>
   obtain⟨k,e2,-⟩:=dx (P:=P) h (some o2) uf (y:=m) (code:=.slice3B) h2 (by omega);cases lo with
   |none=>
    simp only[Option.map_none,kG,Option.some.injEq]at h1;subst h1;cases sl
    ·obtain⟨k,e3,-⟩:=dx (P:=P) h (some o3) Xh (y:=cap) (code:=.slice3Alen) h3 hc;simp[Instr.sliceBounds,e2,e3]
    obtain⟨k,e3,-⟩:=dx (P:=P) h (some o3) Xh (y:=cap) (code:=.slice3Acap) h3 hc;simp[Instr.sliceBounds,e2,e3]
   |some o=>
    obtain⟨k,e1,-⟩:=dx (P:=P) h (some o) kh (y:=h') (code:=.slice3C) h1 hl;cases sl
    ·obtain⟨k,e3,-⟩:=dx (P:=P) h (some o3) Xh (y:=cap) (code:=.slice3Alen) h3 hc;simp[Instr.sliceBounds,e1,e2,e3]
    obtain⟨k,e3,-⟩:=dx (P:=P) h (some o3) Xh (y:=cap) (code:=.slice3Acap) h3 hc;simp[Instr.sliceBounds,e1,e2,e3]
theorem bU.sub(sz:Nat){xs:List AV}{l:List Value}(i n:Nat)(h:bU w S sz xs l [])(FQ:i+n<=xs.length):bU w S sz ((xs.drop i).take n) ((l.drop (i*sz)).take (n*sz)) []:=by
 obtain⟨F1,F2,e,h1,h2⟩:=bU.split sz i h;have:F1=[]/\F2=[]:=by simpa using e.symm
 obtain⟨rfl,rfl⟩:=this;obtain⟨G1,G2,e',k1,k2⟩:=bU.split sz n h2;have:G1=[]/\G2=[]:=by simpa using e'.symm
 obtain⟨rfl,rfl⟩:=this;exact k1
theorem Jt{sz:Nat}{xs:List AV}{ad:Option Addr}{cap l h m:Nat}(hr:Rel w S (.list .shr sz xs) (.slice ad xs.length cap) [])(hlh:l<=h)(hhm:h<=m)(hm:m<=cap)(hh:h<=xs.length):
 Rel w S (.list .shr sz ((xs.drop l).take (h-l))) (.slice (if m=l then ad else ad.map (·.add (l*sz))) (h-l) (m-l)) []:=by
 simp only[Rel]at hr⊢;rcases hr with⟨rfl,e,-⟩|⟨b,off,ZQ,cs,fz,e,hS,c5,iB,hE,-⟩
 ·simp only[Value.slice.injEq]at e;obtain⟨rfl,-,rfl⟩:=e;have:m=l:=by omega
  subst this;have:h=m:=by omega
  subst this;exact .inl ⟨by simp,by simp,trivial⟩
 right;simp only[Value.slice.injEq]at e;obtain⟨rfl,-,rfl⟩:=e;have hlen:((xs.drop l).take (h-l)).length=h-l:=by simp;omega
 by_cases Ip:m=l
 ·have:h=l:=by omega
  subst this;subst Ip;refine⟨b,off,0,cs,fz,by simp,hS,c5,by simp,by simp[bU],trivial⟩
 refine⟨b,off+l*sz,m-l,cs,fz,by rw[hlen];simp[Ip,bF],hS,c5,by rw[hlen];omega,?_,trivial⟩;rw[hlen];have:=bU.sub sz l (h-l) hE (by omega);rw[List.drop_take,List.drop_drop,List.take_take]at this;have e2:min ((h-l)*sz) (xs.length*sz-l*sz)=(h-l)*sz:=by rw[<-Nat.sub_mul];exact Nat.min_eq_left (Nat.mul_le_mul_right _ (by omega))
 rw[e2]at this;exact this
theorem EJ{d t:Nat}(h:Inv N V w0 S0 σ a w)(hd:d<N)(x:Operand)(lo hi mx:Option Operand)(oL:aE x=true)(kh:∀o,lo=some o->aE o=true)(uf:∀o,hi=some o->aE o=true)
 (Xh:∀o,mx=some o->aE o=true)(hh3:mx=none\/hi.isSome){ms:List Mv}
 (hm:nT P d t (resolve σ x) (lo.map (resolve σ)) (hi.map (resolve σ)) (mx.map (resolve σ))=some ms)(hr:Mv.runs σ ms=some σ'):
 Good N V w0 S0 σ' a d ((Instr.sliceAt t (a.eval x) (lo.map a.eval) (hi.map a.eval) (mx.map a.eval)).run P w):=by
 unfold nT at hm;split at hm
 ·rename_i hu;split at hm
  ·rename_i s hx;cases mx with
   |some o=>simp at hm
   |none=>
    simp only[Option.map_none]at hm⊢;split at hm
    ·rename_i l h' h1 h2;split at hm
     ·rename_i hc;simp only[Option.some.injEq]at hm;subst hm;have hI:=h;obtain⟨S,F,gL,-⟩:=h;have hv:=cv gL x oL hx;refine dh (z:=.string (s.extract l h')) hI hd hr ?_ fun S' F' bT=>by simp[Rel,scalar]
      have hb:=ix (P:=P) gL false (len:=s.size) (cap:=s.size) lo hi none kh uf (by simp) h1 h2 rfl hc.1 hc.2 (Nat.le_refl _) (.inl rfl);rw[hv];simp only[Option.map_none]at hb;simp[Instr.sliceAt,run_underlying hu,Instr.slice,hb]
     simp at hm
    simp at hm
  simp at hm
 ·rename_i e hu;split at hm
  ·rename_i ti ga;split at hm
   ·rename_i f sz xs hx;split at hm
    ·rename_i l h' h1 h2;split at hm
     ·rename_i m h3;split at hm
      ·rename_i hc;obtain⟨AH,ug,Ef⟩:=hc;have bp:∀S F ad cap,aK S (bW V w0) σ (tv V a) w F->a.eval x=.slice ad xs.length cap->xs.length<=cap->∃m',m'<=cap/\h'<=m'/\
        (Instr.sliceAt t (a.eval x) (lo.map a.eval) (hi.map a.eval) (mx.map a.eval)).run P w=.ok (.slice (if m'=l then ad else ad.map (·.add (l*ti.size))) (h'-l) (m'-l)) w:=by
        intro S F ad cap gL hz iB;have hO:∃m',kG (mx.map (resolve σ)) cap=some m'/\h'<=m'/\m'<=cap:=by
         cases mx with
         |none=>exact⟨cap,rfl,by omega,Nat.le_refl _⟩
         |some o=>
          have:kG (Option.map (resolve σ) (some o)) cap=some m:=by simp only[Option.map_some,kG]at h3⊢;exact h3
          exact⟨m,this,ug,by omega⟩
        obtain⟨m',e1,e2,e3⟩:=hO;have hb:=ix (P:=P) gL true (len:=xs.length) (cap:=cap) lo hi mx kh uf Xh h1 h2 e1 AH e2 e3 hh3;refine⟨m',e3,e2,?_⟩;rw[hz];simp[Instr.sliceAt,run_underlying hu,Instr.slice,hb,cY ga]
       have hI:=h;obtain⟨S,F,gL,-⟩:=h;obtain⟨F1,e1,-⟩:=aM gL x oL hx;obtain⟨ad,cap,hz,iB,-⟩:=e1.iz;obtain⟨m',q1,q2,q3⟩:=bp S F ad cap gL hz iB;split at hm
       ·simp only[Option.some.injEq]at hm;subst hm;refine dh hI hd hr q3 fun S' F' bT=>?_;obtain⟨F2,e2,-⟩:=aM bT x oL hx;simp only[Rel]at e2;obtain⟨rfl,e3,-⟩:=e2;rw[hz]at e3;simp only[Value.slice.injEq]at e3;obtain⟨rfl,-,rfl⟩:=e3;simp only[List.length_nil]at Ef;have:l=0/\h'=0/\m'=0:=by omega
        obtain⟨rfl,rfl,rfl⟩:=this;simp[Rel]
       ·split at hm
        ·rename_i ct;subst ct;simp only[Option.some.injEq]at hm;subst hm;refine dh hI hd hr q3 fun S' F' bT=>?_;obtain⟨F2,e2,-⟩:=aM bT x oL hx;rw[hz,Rel.az _ e2 rfl]at e2;exact Jt e2 AH q2 q1 (by omega)
        simp at hm
       split at hm
       ·rename_i ct;subst ct;split at hm
        ·rename_i r g1 g2 p hp;split at hm
         ·simp at hm
         rename_i ue;simp only[Option.some.injEq]at hm;subst hm;obtain⟨p1,-,-,-,-,p6,-⟩:=gD gL x oL hx hp;refine⟨_,w,q3,hI.By hd p6 p1 hr fun S' F' L z vQ bT k1 k2 k3 S'' hS=>?_⟩;obtain⟨-,-,-,-,-,-,L',l1,l2,l3⟩:=gD bT x oL hx hp;rw[k1]at l1;simp only[Option.some.injEq]at l1;subst l1;have:z=a.eval x:=by
          cases L with
          |val q=>simp only[holds]at k2 l2;rw[k2,l2]
          |addr MM=>have e1:=At.cell k2 (bS (k3.one rfl));have e2:=At.cell l2 (bS (l3 MM rfl));rw[e1]at e2;simpa using e2
         rw[this,hz]at hS;simp only[AV.bf]at hS;have hlen:=ib xs;rw[<-hlen]at hS Ef;exact Jt hS AH q2 q1 (by omega)
        simp at hm
       simp at hm
      simp at hm
     simp at hm
    simp at hm
   simp at hm
  simp at hm
 simp at hm
end
end Go.Ai
