/- Parts of the proof of ScaleNumbers (CheckBench, Exponent and Largest answer as the reference does), at every input, with no further conditions. -/
import Derived.Test.YtdgocdadfmhjgaaGreatDoorZAH
import Derived.MapKept
import Derived.Test.YtdgocdadfmhjgaaGreatDoorProg
import Derived.Shelf.Strconv.Itoa4
import Derived.Ground.NamesProg
set_option linter.unusedVariables false
set_option linter.unusedSimpArgs false
namespace Go.Ai
open Go.RowKit
abbrev nL:=FuncId->List SV->Option SV
structure FnI where
 nt:Nat
 body:Code
 rs:List ResultVar
def Sy(P:Program)(g:FuncId):Option FnI:=match nth P.funcs.toList g with
 |some fn=>match fn.body with
  |some c=>some ⟨fn.ntmps,c,fn.results.toList⟩
  |none=>none
 |none=>none
def Fa(fn:Func):Bool:=b8 (not' (fn.name== "runtime.NumGoroutine")) (dG fn.results.toList [])
abbrev Ex:=Nat->List It->aP->List It×aP
def Q3(ex:Ex)(P:Program)(tt:TT)(T:nL)(g:FuncId)(aas:List SV):Option SV:=
 match T g aas with
 |some r=>some r
 |none=>match Sy P g with
  |some ⟨nt,c,rs⟩=>match Nat.ble (len aas) nt with
   |true=>match ex nt [.code c] (zJ 0 aas)with
    |(k,l)=>match k with
     |[]=>match gQ tt l rs with
      |some xs=>some (x6 xs)
      |none=>none
     |_::_=>none
   |false=>none
  |none=>none
def Hb(l:aP):Nat->Nat->Option (List SV)
 |_,0=>some []
 |k,n+1=>match gt l k with
  |⟨v,_,_⟩=>match v.plain with
   |true=>match Hb l (k+1) n with
    |some vs=>some (v::vs)
    |none=>none
   |false=>none
def NM(ex:Ex)(P:Program)(tt:TT)(g:FuncId)(aas H:List SV):Option (List SV×SV):=
 match Sy P g with
 |some ⟨nt,c,rs⟩=>match b8 (Nat.ble (len aas) nt) (Nat.ble nt 1000000)with
  |true=>match ex nt [.code c] (PD aas H)with
   |(k,l)=>match k with
    |[]=>match gQ tt l rs,Hb l 1000000 (len H)with
     |some xs,some ys=>some (ys,x6 xs)
     |_,_=>none
    |_::_=>none
  |false=>none
 |none=>none
def XQ(ex:Ex)(P:Program)(tt:TT)(T:nL)(B:List Nat)(l:aP)(dst:Option Nat)(f:Operand)(aas:List Operand):Option (aP×List Nat):=
 match ri l f aas with
 |some (ob,⟨g,xs,sh⟩)=>match b8 (not' (Db g B)) (DW ob)with
  |true=>match Q3 ex P tt T g xs with
   |some r=>match jV l dst r sh with
    |some (c9,l',ks)=>match DW c9 with
     |true=>some (l',ks)
     |false=>none
    |none=>none
   |none=>none
  |false=>none
 |none=>none
def Rl(ex:Ex)(P:Program)(tt:TT)(l:aP)(dst:Option Nat):jG->Option (aP×List Nat)
 |⟨g,xs,R⟩=>match NM ex P tt g xs (jo R)with
  |some (out,r)=>fL l dst R out r
  |none=>none
def Ul(ex:Ex)(P:Program)(tt:TT)(T:nL)(B:List Nat)(l:aP)(dst:Option Nat)(f:Operand)(aas:List Operand):Option (aP×List Nat):=
 match XQ ex P tt T B l dst f aas with
 |some y=>some y
 |none=>match pK l f aas with
  |some (ob,h)=>match DW ob with
   |true=>Rl ex P tt l dst h
   |false=>none
  |none=>match y9 l f aas with
   |some h=>Rl ex P tt l dst h
   |none=>none
def ED(tt:TT)(raw:List Nat)(all:List Oper)(l:aP)(o:Oper):Option (aP×List Nat):=
 match EC tt raw all l o with
 |some (ob,l',ks)=>match DW ob with
  |true=>some (l',ks)
  |false=>none
 |none=>none
def CH(ex:Ex)(P:Program)(tt:TT)(T:nL)(B:List Nat)(all:List Oper)(l:aP)(o:Oper):Option (aP×List Nat):=
 match o with
 |⟨dst,op,ty,pos,cF,g⟩=>match cK l all g with
  |some true=>match op with
   |.call ⟨.value f,aas,_⟩=>Ul ex P tt T B l dst f aas.toList
   |.makeFunc (.func gf) first aW=>match dst with
    |some d=>Od l d gf first.toList aW.toList
    |none=>none
   |op=>match dst with
    |some d=>ED tt [d] all l ⟨some d,op,ty,pos,cF,g⟩
    |none=>none
  |_=>none
def SG(ex:Ex)(P:Program)(tt:TT)(T:nL)(B:List Nat)(all:List Oper)(l:aP)(o:Oper):Option (aP×List Nat):=
 match ED tt [] all l o with
 |some (l',ks)=>Pr (len ks) l' fun l'=>some (l',ks)
 |none=>match CH ex P tt T B all l o with
  |some (l',ks)=>Pr (len ks) l' fun l'=>some (l',ks)
  |none=>none
def unr:Code->Option Code
 |.loop c=>some c
 |_=>none
def exec(P:Program)(tt:TT)(T:nL)(B:List Nat):Nat->Ex
 |0,_,k,l=>(k,l)
 |n+1,N,k,l=>match k with
  |[]=>([],l)
  |i::k0=>match i with
   |.ops all (o::rest)=>match SG (exec P tt T B n) P tt T B all.toList l o with
    |some (l',_)=>exec P tt T B n N (.ops all rest::k0) l'
    |none=>(.ops all (o::rest)::k0,l)
   |.o4 all mm (o::rest) acc=>match SG (exec P tt T B n) P tt T B all.toList l o with
    |some (l',ks)=>exec P tt T B n N (.o4 all mm rest ((gW (dn l) all o,ks)::acc)::k0) l'
    |none=>(.o4 all mm (o::rest) acc::k0,l)
   |.o4 all mm [] acc=>match apart mm acc.reverse all.size with
    |true=>exec P tt T B n N k0 l
    |false=>(.o4 all mm [] acc::k0,l)
   |.code c=>match unr c with
    |some c'=>exec P tt T B n N (.code c'::.code c::k0) l
    |none=>match Bu tt [] N (.code c::k0) l with
     |some (ob,k',l')=>match DW ob with
      |true=>exec P tt T B n N k' l'
      |false=>(.code c::k0,l)
     |none=>(.code c::k0,l)
   |i=>match Bu tt [] N (i::k0) l with
    |some (ob,k',l')=>match DW ob with
     |true=>exec P tt T B n N k' l'
     |false=>(i::k0,l)
    |none=>(i::k0,l)
section
variable{P:Program}{tt:TT}{T:nL}{B:List Nat}
theorem Cd(hW:P.funcs.toList.all Fa=true){g:FuncId}{nt:Nat}{c:Code}{rs:List ResultVar}(h:Sy P g=some ⟨nt,c,rs⟩):
 ∃fn,P.funcs[g]?=some fn/\fn.body=some c/\fn.ntmps=nt/\fn.results.toList=rs/\(fn.name== "runtime.NumGoroutine")=false/\dG fn.results.toList []=true:=by
 unfold Sy at h;split at h<;>try(simp at h;done)
 rename_i fn Sa;split at h<;>try(simp at h;done)
 rename_i c' hc;simp only[Option.some.injEq,FnI.mk.injEq]at h;obtain⟨rfl,rfl,rfl⟩:=h;rw[ko]at Sa;have fC:fn∈P.funcs.toList:=List.mem_of_getElem? Sa;have ho:=List.all_eq_true.1 hW fn fC;simp only[Fa,aH,not_iff]at ho;exact⟨fn,by rw[<-Array.getElem?_toList];exact Sa,hc,rfl,rfl,ho.1,ho.2⟩
def Z7(P:Program)(ex:Ex):Prop:=∀(N:Nat)(R:Option Nat->Prop)(F:St->Prop)(k:List It)(l:aP),AK R P N F (ex N k l).1 (ex N k l).2->AK R P N F k l
theorem xW(hA:bK P tt)(hW:P.funcs.toList.all Fa=true)(hT:∀g aas r,T g aas=some r->aO P g aas r){ex:Ex}(hex:Z7 P ex){g:FuncId}{aas:List SV}{r:SV}(h:Q3 ex P tt T g aas=some r):aO P g aas r:=by
 unfold Q3 at h;split at h
 ·rename_i r' hr;simp only[Option.some.injEq]at h;subst h;exact hT _ _ _ hr
 split at h<;>try(simp at h;done)
 rename_i nt c rs hf;split at h<;>try(simp at h;done)
 rename_i hlen;obtain⟨k',l',e⟩:∃k' l',ex nt [.code c] (zJ 0 aas)=(k',l'):=⟨_,_,rfl⟩;rw[e]at h;simp only at h;cases k' with
 |cons _ _=>simp at h
 |nil=>
  simp only at h;split at h<;>try(simp at h;done)
  rename_i xs hxs;simp only[Option.some.injEq]at h;subst h;obtain⟨fn,h1,h2,rfl,rfl,h5,h6⟩:=Cd hW hf;refine enter h1 h2 h5 hlen h6 (hex _ _ _ _ _ ?_);rw[e];exact ret hA hxs (au.refl _)
def XR(l:aP):List Nat->List (Nat×SV)
 |[]=>[]
 |i::q=>(i,(gt l i).v)::XR l q
theorem CJ(l:aP):∀{q:List Nat}{i:Nat},i∈q->(gt (sl (XR l q)) i).v=(gt l i).v
 |[],i,h=>by simp at h
 |j::q,i,h=>by
  simp only[XR,sl,gt];cases hb:Nat.beq i j with
  |true=>have:=Nat.eq_of_beq_eq_true hb;subst this;rfl
  |false=>
   simp only;refine CJ l ?_;rcases List.mem_cons.1 h with rfl|h
   ·rw[Nat.beq_refl]at hb;simp at hb
   exact h
theorem EL{l m:aP}:∀{q:List Nat},(∀i∈q,(gt l i).v.plain=true)->vP l m (XR l q)
 |[],_=>trivial
 |i::q,h=>⟨.inl ⟨h i (by simp),h i (by simp),ry.of_le (qf.refl _)⟩,EL fun j hj=>h j (by simp[hj])⟩
def MP:List ResultVar->List Nat
 |[]=>[]
 |.tmp t::rs=>t::MP rs
 |.cell t _::rs=>t::MP rs
theorem pr{l m:aP}:∀{rs:List ResultVar},(∀i∈MP rs,(gt m i).v=(gt l i).v)->gQ tt m rs=gQ tt l rs
 |[],_=>rfl
 |.tmp t::rs,h=>by simp only[gQ,h t (by simp[MP]),pr (rs:=rs) fun i hi=>h i (by simp[MP,hi])]
 |.cell t ty::rs,h=>by simp only[gQ,h t (by simp[MP]),pr (rs:=rs) fun i hi=>h i (by simp[MP,hi])]
theorem pq{l:aP}:∀{rs:List ResultVar}{xs:List SV},gQ tt l rs=some xs->∀i∈MP rs,(gt l i).v.plain=true
 |[],xs,h,i,hi=>by simp[MP]at hi
 |.tmp t::rs,xs,h,i,hi=>by
  simp only[gQ]at h;split at h<;>try(simp at h;done)
  rename_i hp;split at h<;>try(simp at h;done)
  rename_i ys mC;simp only[MP,List.mem_cons]at hi;rcases hi with rfl|hi
  ·exact hp
  exact pq mC i hi
 |.cell t ty::rs,xs,h,i,hi=>by
  simp only[gQ]at h;split at h<;>try(simp at h;done)
  rename_i x hv;split at h<;>try(simp at h;done)
  split at h<;>try(simp at h;done)
  split at h<;>try(simp at h;done)
  rename_i ys mC;simp only[MP,List.mem_cons]at hi;rcases hi with rfl|hi
  ·rw[hv];rfl
  exact pq mC i hi
theorem Ao{l:aP}:∀{n k:Nat}{ys:List SV},Hb l k n=some ys->(∀i,k<=i->i<k+n->(gt l i).v.plain=true)/\∀{m:aP},(∀i,k<=i->i<k+n->(gt m i).v=(gt l i).v)->Dq m k ys
 |0,k,ys,h=>by simp only[Hb,Option.some.injEq]at h;subst h;exact⟨fun i h1 h2=>by omega,fun _=>trivial⟩
 |n+1,k,ys,h=>by
  simp only[Hb]at h;split at h<;>try(simp at h;done)
  rename_i hp;split at h<;>try(simp at h;done)
  rename_i vs RX;simp only[Option.some.injEq]at h;subst h;obtain⟨h1,h2⟩:=Ao RX;refine⟨fun i k1 k2=>?_,fun{m}hm=>⟨⟨hm k (by omega) (by omega),hp⟩,h2 fun i k1 k2=>hm i (by omega) (by omega)⟩⟩;by_cases e:i=k
  ·subst e;exact hp
  exact h1 i (by omega) (by omega)
theorem x9(hA:bK P tt)(hW:P.funcs.toList.all Fa=true){ex:Ex}(hex:Z7 P ex){g:FuncId}{aas H out:List SV}{r:SV}(h:NM ex P tt g aas H=some (out,r)):jH P g H aas out r:=by
 unfold NM at h;split at h<;>try(simp at h;done)
 rename_i nt c rs hf;split at h<;>try(simp at h;done)
 rename_i hlen;rw[aH]at hlen;obtain⟨k',l',e⟩:∃k' l',ex nt [.code c] (PD aas H)=(k',l'):=⟨_,_,rfl⟩;rw[e]at h;simp only at h;cases k' with
 |cons _ _=>simp at h
 |nil=>
  simp only at h;split at h<;>try(simp at h;done)
  rename_i xs ys hxs mC;simp only[Option.some.injEq,Prod.mk.injEq]at h;obtain⟨rfl,rfl⟩:=h;obtain⟨fn,h1,h2,rfl,rfl,h5,h6⟩:=Cd hW hf;obtain⟨q1,q2⟩:=Ao mC;refine vo h1 h2 h5 hlen.1 hlen.2 h6 (hex _ _ _ _ _ ?_);rw[e]
  let q:=MP fn.results.toList++List.range' 1000000 (len H)
  have fC:∀i,1000000<=i->i<1000000+len H->i∈q:=fun i k1 k2=>List.mem_append.2 (.inr (by rw[List.mem_range'_1];omega));refine⟨l',XR l' q,rfl,EL fun i hi=>?_,⟨an xs,?_,?_⟩,(q2 fun i k1 k2=>CJ l' (fC i k1 k2)).n⟩
  ·rcases List.mem_append.1 hi with hi|hi
   ·exact pq hxs i hi
   rw[List.mem_range'_1]at hi;exact q1 i hi.1 hi.2
  ·refine kR hA ?_;rw[pr fun i hi=>CJ l' (List.mem_append.2 (.inl hi))];exact hxs
  rw[sM];exact ry.of_le (qf.refl _)
theorem AJ(hA:bK P tt)(hW:P.funcs.toList.all Fa=true)(hT:∀g aas r,T g aas=some r->aO P g aas r){ex:Ex}(hex:Z7 P ex){all:Array Oper}{l l':aP}{o:Oper}{ks:List Nat}{K:List Mv->St->Prop}
 (h:CH ex P tt T B all.toList l o=some (l',ks))(hk:∀ms,aN ms=ks->K ms (dn l')):Hj P all o (dn l) K:=by
 obtain⟨dst,op,ty,pos,cF,g⟩:=o;unfold CH at h;simp only at h;split at h<;>try(simp at h;done)
 rename_i hg;have plain:∀{d:Nat}{op:Op},ED tt [d] all.toList l ⟨some d,op,ty,pos,cF,g⟩=some (l',ks)->Hj P all ⟨some d,op,ty,pos,cF,g⟩ (dn l) K:=by
  intro d op h;unfold ED at h;split at h<;>try(simp at h;done)
  rename_i ob l1 RL hs;split at h<;>try(simp at h;done)
  rename_i hc;simp only[Option.some.injEq,Prod.mk.injEq]at h;obtain⟨rfl,rfl⟩:=h;exact lC (sA hA hs (aI hc) hk)
 have refs:∀{h0:jG},Rl ex P tt l dst h0=some (l',ks)->∃out r,jH P h0.g (jo h0.R) h0.aas out r/\fL l dst h0.R out r=some (l',ks):=by
  intro h0 hh;unfold Rl at hh;cases hr:NM ex P tt h0.g h0.aas (jo h0.R)with
  |none=>simp[hr]at hh
  |some q=>obtain⟨out,r⟩:=q;simp only[hr]at hh;exact⟨out,r,x9 hA hW hex hr,hh⟩
 split at h
 ·rename_i f aas ts;unfold Ul at h;split at h
  ·rename_i y hy;simp only[Option.some.injEq]at h;subst h;unfold XQ at hy;split at hy<;>try(simp at hy;done)
   rename_i ob g0 xs sh hh;split at hy<;>try(simp at hy;done)
   rename_i hb;rw[aH]at hb;split at hy<;>try(simp at hy;done)
   rename_i r hr;split at hy<;>try(simp at hy;done)
   rename_i c9 l1 RL ht;split at hy<;>try(simp at hy;done)
   rename_i hc;simp only[Option.some.injEq,Prod.mk.injEq]at hy;obtain⟨rfl,rfl⟩:=hy;exact lC (DY hg hh (aI hb.2) (xW hA hW hT hex hr) ht (aI hc) hk)
  split at h
  ·rename_i ob h0 hh;split at h<;>try(simp at h;done)
   rename_i hc;obtain⟨out,r,h1,h2⟩:=refs h;exact CM hg hh (aI hc) h1 h2 hk
  split at h<;>try(simp at h;done)
  rename_i h0 hh;obtain⟨out,r,h1,h2⟩:=refs h;exact NF hg hh h1 h2 hk
 ·split at h<;>try(simp at h;done)
  exact NC hg h hk
 split at h<;>try(simp at h;done)
 exact plain h
theorem zO(hA:bK P tt)(hW:P.funcs.toList.all Fa=true)(hT:∀g aas r,T g aas=some r->aO P g aas r){ex:Ex}(hex:Z7 P ex){all:Array Oper}{l l':aP}{o:Oper}{ks:List Nat}{K:List Mv->St->Prop}
 (h:SG ex P tt T B all.toList l o=some (l',ks))(hk:∀ms,aN ms=ks->K ms (dn l')):Hj P all o (dn l) K:=by
 unfold SG at h;split at h
 ·rename_i l1 RL hs;obtain⟨l2,h1,h2⟩:=u6 (len RL) l1 fun l'=>some (l',RL);rw[h2]at h;simp only[Option.some.injEq,Prod.mk.injEq]at h;obtain⟨rfl,rfl⟩:=h;unfold ED at hs;split at hs<;>try(simp at hs;done)
  rename_i ob l3 ks3 ON;split at hs<;>try(simp at hs;done)
  rename_i hc;simp only[Option.some.injEq,Prod.mk.injEq]at hs;obtain⟨rfl,rfl⟩:=hs;exact lC (sA hA ON (aI hc) fun ms kr=>h1▸hk ms kr)
 split at h<;>try(simp at h;done)
 rename_i l1 RL hs;obtain⟨l2,h1,h2⟩:=u6 (len RL) l1 fun l'=>some (l',RL);rw[h2]at h;simp only[Option.some.injEq,Prod.mk.injEq]at h;obtain⟨rfl,rfl⟩:=h;exact AJ hA hW hT hex hs fun ms kr=>h1▸hk ms kr
theorem Uy{c c':Code}(h:unr c=some c'):c=.loop c':=by cases c<;>simp[unr]at h;subst h;rfl
theorem oA(hA:bK P tt)(hm:P.follows .mixedOrders=true)(hW:P.funcs.toList.all Fa=true)(hT:∀g aas r,T g aas=some r->aO P g aas r):∀n:Nat,Z7 P (exec P tt T B n)
 |0,N,R,F,k,l,h=>h
 |n+1,N,R,F,k,l,h=>by
  have ih:=oA hA hm hW hT n;have st:∀(i:It)(k0:List It)(res:List It×aP),(match Bu tt [] N (i::k0) l with
   |some (ob,k',l')=>match DW ob with
    |true=>exec P tt T B n N k' l'
    |false=>(i::k0,l)
   |none=>(i::k0,l))=res->AK R P N F res.1 res.2->AK R P N F (i::k0) l:=by
   intro i k0 res gg hk;split at gg
   ·rename_i ob k' l' hs;split at gg
    ·rename_i hc;subst gg;exact nS hA hm hs (aI hc) (ih _ _ _ _ _ hk)
    subst gg;exact hk
   subst gg;exact hk
  obtain⟨res,gg⟩:∃res,exec P tt T B (n+1) N k l=res:=⟨_,rfl⟩;rw[gg]at h;unfold exec at gg;split at gg
  ·subst gg;exact h
  rename_i i k0;split at gg
  ·rename_i all o rest;split at gg
   ·rename_i l' ks hd;subst gg;show rp P _ _ _ _;rw[jJ];exact zO hA hW hT ih hd fun ms _=>ih _ _ _ _ _ h
   subst gg;exact h
  ·rename_i all mm o rest acc;split at gg
   ·rename_i l' ks hd;subst gg;show rt P _ _ _ _ _;rw[nX];refine zO hA hW hT ih hd fun ms kr=>?_;rw[kr];exact ih _ _ _ _ _ h
   subst gg;exact h
  ·rename_i all mm acc;split at gg
   ·rename_i ha;subst gg;exact⟨ha,ih _ _ _ _ _ h⟩
   subst gg;exact h
  ·rename_i c;split at gg
   ·rename_i c' hu;have:=Uy hu;subst this;subst gg;exact fw (ih _ _ _ _ _ h)
   exact st _ _ _ gg h
  exact st _ _ _ gg h
end
mutual
def pf:SV->Option Value
 |.n k a=>some (.int k a)
 |.b x=>some (.bool x)
 |.u x=>some (.bool x)
 |.s x=>some (.string (bs x))
 |.c v=>match scalar v with
  |true=>some v
  |false=>none
 |.fn f a c=>match a,c with
  |[],[]=>some (.func f #[] #[])
  |_,_=>none
 |.agg xs=>match El xs with
  |some vs=>some (.agg vs.toArray)
  |none=>none
 |_=>none
def El:List SV->Option (List Value)
 |[]=>some []
 |x::xs=>match pf x,El xs,x.cell with
  |some v,some vs,true=>some (v::vs)
  |_,_,_=>none
end
theorem P0{x:SV}{v:Value}(h:pf x=some v)(hc:x.cell=true):v.oneCell'=true:=by
 cases x<;>simp only[pf,Option.some.injEq]at h<;>try(simp at h;done)
 case c w=>
  split at h<;>try(simp at h;done)
  rename_i hs;simp only[Option.some.injEq]at h;subst h;cases w<;>simp[scalar]at hs<;>rfl
 case fn f a c=>
  split at h<;>try(simp at h;done)
  simp only[Option.some.injEq]at h;subst h;rfl
 case agg xs=>simp[SV.cell]at hc
 all_goals(subst h;rfl)
section
variable{w:World}{S:Nat->Prop}
mutual
theorem sv:∀{x:SV}{v:Value},pf x=some v->Rel w S x.den v []/\∀{y F},Rel w S x.den y F->y=v/\F=[]
 |.n k a,v,h=>by simp only[pf,Option.some.injEq]at h;subst h;exact⟨⟨rfl,rfl,rfl⟩,fun h=>⟨h.2.1,h.2.2⟩⟩
 |.b x,v,h=>by simp only[pf,Option.some.injEq]at h;subst h;exact⟨⟨rfl,rfl,rfl⟩,fun h=>⟨h.2.1,h.2.2⟩⟩
 |.u x,v,h=>by simp only[pf,Option.some.injEq]at h;subst h;exact⟨⟨rfl,rfl,rfl⟩,fun h=>⟨h.2.1,h.2.2⟩⟩
 |.s x,v,h=>by simp only[pf,Option.some.injEq]at h;subst h;exact⟨⟨rfl,rfl,rfl⟩,fun h=>⟨h.2.1,h.2.2⟩⟩
 |.c x,v,h=>by
  simp only[pf]at h;split at h<;>try(simp at h;done)
  rename_i hs;simp only[Option.some.injEq]at h;subst h;exact⟨⟨hs,rfl,rfl⟩,fun h=>⟨h.2.1,h.2.2⟩⟩
 |.fn f a c,v,h=>by
  simp only[pf]at h;split at h<;>try(simp at h;done)
  simp only[Option.some.injEq]at h;subst h;refine⟨?_,fun{y F}h=>?_⟩
  ·simp only[SV.den,an,Rel,Cells];exact⟨#[],#[],[],[],rfl,⟨rfl,rfl⟩,⟨rfl,rfl⟩,rfl⟩
  simp only[SV.den,an,Rel,Cells]at h;obtain⟨a,c,F1,F2,rfl,⟨h1,rfl⟩,⟨h2,rfl⟩,rfl⟩:=h;have e1:a=#[]:=by cases a;simp_all
  have e2:c=#[]:=by cases c;simp_all
  subst e1 e2;exact⟨rfl,rfl⟩
 |.agg xs,v,h=>by
  simp only[pf]at h;split at h<;>try(simp at h;done)
  rename_i vs RX;simp only[Option.some.injEq]at h;subst h;obtain⟨h1,h2⟩:=Bm RX;refine⟨?_,fun{y F}h=>?_⟩
  ·simp only[SV.den,Rel];exact⟨_,rfl,h1⟩
  simp only[SV.den,Rel]at h;obtain⟨cs,rfl,hc⟩:=h;obtain⟨e,rfl⟩:=h2 hc;rw[<-e];exact⟨rfl,rfl⟩
 |.nil,_,h|.ints ..,_,h|.dH ..,_,h|.strs ..,_,h|.bB ..,_,h|.cJ ..,_,h|.row ..,_,h|.bC _,_,h|.box ..,_,h|.bg ..,_,h|.ptr ..,_,h|.hole,_,h|.dead,_,h|.pv _,_,h|.abs _,_,h|.dY ..,_,h|.mp _,_,h=>by simp[pf]at h
theorem Bm:∀{xs:List SV}{vs:List Value},El xs=some vs->Cells w S true (an xs) vs []/\∀{ys F},Cells w S true (an xs) ys F->ys=vs/\F=[]
 |[],vs,h=>by simp only[El,Option.some.injEq]at h;subst h;exact⟨⟨rfl,rfl⟩,fun h=>h⟩
 |x::xs,vs,h=>by
  simp only[El]at h;split at h<;>try(simp at h;done)
  rename_i v W2 hv RX hc;simp only[Option.some.injEq]at h;subst h;obtain⟨h1,h2⟩:=sv hv;obtain⟨h3,h4⟩:=Bm RX;refine⟨⟨v,W2,[],[],rfl,rfl,fun _=>P0 hv hc,h1,h3⟩,fun{ys F}h=>?_⟩;simp only[an,Cells]at h;obtain⟨y,l',F1,F2,rfl,rfl,_,k1,k2⟩:=h;obtain⟨rfl,rfl⟩:=h2 k1;obtain⟨rfl,rfl⟩:=h4 k2;exact⟨rfl,rfl⟩
end
end
abbrev xl:=List (bw×Value)
def yB(es:xl)(o:Obj):Prop:=∃ms c,o=.map ms c/\ms.toList.map (fun e=>(e.key,e.val))=es.map fun q=>(.string (bs q.1),q.2)
def pk(a b:bw):Bool:=match decEq a b with
 |isTrue _=>true
 |isFalse _=>false
theorem qh{a b:bw}:pk a b=true↔a=b:=by unfold pk;split<;>simp_all
def qP(k:bw):xl->Option Value
 |[]=>none
 |(k',v)::es=>match pk k k' with
  |true=>some v
  |false=>qP k es
def wh(k:bw)(v:Value):xl->xl
 |[]=>[(k,v)]
 |(k',u)::es=>match pk k k' with
  |true=>(k,v)::es
  |false=>(k',u)::wh k v es
theorem WK{a b:bw}(h:bs a=bs b):a=b:=by have:=congrArg (fun x:ByteArray=>x.data.toList) h;simpa[bs]using this
theorem I7(a b:bw):(bs a==bs b)=pk a b:=by
 cases h:pk a b with
 |true=>exact(MapKept.bytes_beq _ _).2 (congrArg bs (qh.1 h))
 |false=>
  cases h2:(bs a==bs b)with
  |false=>rfl
  |true=>rw[qh.2 (WK ((MapKept.bytes_beq _ _).1 h2))]at h;simp at h
theorem oy{k:bw}:∀{es:xl}{ms:List MapEntry}{i:Nat},ms.map (fun e=>(e.key,e.val))=es.map (fun q=>(.string (bs q.1),q.2))->qP k es=none->Instr.findNow .string (.string (bs k)) ms i=some none
 |[],ms,i,h,_=>by
  have:ms=[]:=by simpa using h
  subst this;rfl
 |(k',u)::es,[],i,h,_=>by simp at h
 |(k',u)::es,m::ms,i,h,hg=>by
  simp only[List.map_cons,List.cons.injEq,Prod.mk.injEq]at h;obtain⟨⟨h1,h2⟩,h3⟩:=h;simp only[qP]at hg;cases he:pk k k' with
  |true=>simp[he]at hg
  |false=>simp only[he]at hg;simp only[Instr.findNow,h1,Instr.sameNow,I7,he];exact oy h3 hg
theorem ox{k:bw}{v:Value}:∀{es:xl}{ms:List MapEntry}{i:Nat},ms.map (fun e=>(e.key,e.val))=es.map (fun q=>(.string (bs q.1),q.2))->qP k es=some v->
 ∃j:Nat,Instr.findNow .string (.string (bs k)) ms i=some (some (i+j,v))/\∃m,ms[j]?=some m/\m.key=.string (bs k)/\∀u,(ms.modify j fun e=>{e with key:=.string (bs k),val:=u}).map (fun e=>(e.key,e.val))=(wh k u es).map fun q=>(.string (bs q.1),q.2)
 |[],ms,i,h,hg=>by simp[qP]at hg
 |(k',u)::es,[],i,h,_=>by simp at h
 |(k',u)::es,m::ms,i,h,hg=>by
  simp only[List.map_cons,List.cons.injEq,Prod.mk.injEq]at h;obtain⟨⟨h1,h2⟩,h3⟩:=h;simp only[qP]at hg;cases he:pk k k' with
  |true=>simp only[he,Option.some.injEq]at hg;have hk:=qh.1 he;refine⟨0,by simp only[Instr.findNow,h1,Instr.sameNow,I7,he,h2,hg,Nat.add_zero],m,rfl,by rw[h1,hk],fun u=>?_⟩;simp only[List.modify_zero_cons,List.map_cons,wh,he,h3]
  |false=>
   simp only[he]at hg;obtain⟨j,k1,m',k2,k3,k4⟩:=ox (i:=i+1) h3 hg;refine⟨j+1,?_,m',by simpa using k2,k3,fun u=>?_⟩
   ·simp only[Instr.findNow,h1,Instr.sameNow,I7,he];rw[k1,Nat.add_assoc,Nat.add_comm 1 j]
   simp only[List.modify_succ_cons,List.map_cons,wh,he,h1,h2,k4 u]
section
variable{P:Program}{w:World}{S:Nat->Prop}{t key elem:TypeId}
theorem eG{es:xl}{k:bw}{v:Value}{x:SV}(ht:P.underlying t=some (.map key elem))(hk:P.underlying key=some .string)(hg:qP k es=some v)(hx:pf x=some v)(ok:Bool):
 Looks P t ok (yB es) (.v (.string (bs k))) (if ok then SV.bC [x,.b true]else x).den:=by
 intro w S b o vk hb ho hr;obtain⟨ms,c,rfl,hm⟩:=ho;obtain⟨_,rfl,_⟩:=hr;obtain⟨j,h1,-⟩:=ox (i:=0) hm hg;have eH:=(sv (w:=w) (S:=S) hx).1;cases ok with
 |true=>
  refine⟨.tuple #[v,.bool true],?_,?_⟩
  ·simp[Instr.lookup,run_underlying ht,MapKept.run_getObj_map hb,MapKept.run_checkKey hk (k:=.string (bs k)) trivial,MapKept.run_findKey hk h1,Result.andThen]
  simp only[if_true,SV.den,an,Rel,Cells];exact⟨_,rfl,v,_,[],[],rfl,rfl,by simp,eH,.bool true,_,[],[],rfl,rfl,by simp,⟨rfl,rfl,rfl⟩,rfl,rfl⟩
 |false=>refine⟨v,?_,eH⟩;simp[Instr.lookup,run_underlying ht,MapKept.run_getObj_map hb,MapKept.run_checkKey hk (k:=.string (bs k)) trivial,MapKept.run_findKey hk h1,Result.andThen]
theorem H4{es:xl}{k:bw}{v:Value}{x:SV}{i:TypeInfo}(ht:P.underlying t=some (.map key elem))(hk:P.underlying key=some .string)(hg:qP k es=none)(hi:P.info? elem=some i)(hz:i.zero=some v)(hx:pf x=some v)(ok:Bool):
 Looks P t ok (yB es) (.v (.string (bs k))) (if ok then SV.bC [x,.b false]else x).den:=by
 intro w S b o vk hb ho hr;obtain⟨ms,c,rfl,hm⟩:=ho;obtain⟨_,rfl,_⟩:=hr;have h1:=oy (i:=0) hm hg;have eH:=(sv (w:=w) (S:=S) hx).1;have Vl:(zeroValue elem).run P w=.ok v w:=by simp[zeroValue,typeInfo,hi,hz]
 cases ok with
 |true=>
  refine⟨.tuple #[v,.bool false],?_,?_⟩
  ·simp[Instr.lookup,run_underlying ht,MapKept.run_getObj_map hb,MapKept.run_checkKey hk (k:=.string (bs k)) trivial,MapKept.run_findKey hk h1,Vl,Result.andThen]
  simp only[if_true,SV.den,an,Rel,Cells];exact⟨_,rfl,v,_,[],[],rfl,rfl,by simp,eH,.bool false,_,[],[],rfl,rfl,by simp,⟨rfl,rfl,rfl⟩,rfl,rfl⟩
 |false=>refine⟨v,?_,eH⟩;simp[Instr.lookup,run_underlying ht,MapKept.run_getObj_map hb,MapKept.run_checkKey hk (k:=.string (bs k)) trivial,MapKept.run_findKey hk h1,Vl,Result.andThen]
theorem Fz{o:Oper}(ho:o.op=.makeMap t none):kO P o [] [] [] (.mp (yB [])):=by
 refine xD rfl rfl (by simp) ?_;intro w S vs hS hc ρ hρ;have bp:(Instr.makeMap t none).run P w=.ok (.map (some w.heap.size)) (w.alloc (.map #[] 0)):=by simp[Instr.makeMap,Result.andThen]
 have ha:=MapKept.heap_alloc w (.map #[] 0);have ct:(w.alloc (.map #[] 0)).heap.size=w.heap.size+1:=by show(w.heap.push _).size=_;simp
 refine⟨.value (.map (some w.heap.size)),.map (some w.heap.size),w.alloc (.map #[] 0),by simp[execOp,ho,bp],.inl rfl,S,[w.heap.size],⟨rfl,rfl,rfl,by rw[ct];omega,fun k hk=>ha.2 k hk⟩,fun b h=>h,fun b h=>.inl h,fun b h=>by rw[ct];have:=hS b h;omega,?_,by simp,?_⟩
 ·simp only[SV.den,Rel];exact⟨_,_,rfl,ha.1,⟨#[],0,rfl,rfl⟩,rfl⟩
 intro b hb;simp only[List.mem_singleton]at hb;subst hb;exact⟨Nat.le_refl _,by rw[ct];omega,fun h=>by have:=hS _ h;omega⟩
theorem Gj{V:Hid}{vs:List Value}{F:Nat->List Nat}{args H:List SV}{i:Nat}{x:SV}{v:Value}(hi:i<1000000)(hc:aK S V.g (both (an args) (an H)) (aS V vs) w F)(ha:args[i]?=some x)(hx:pf x=some v):vs.getD i undef=v:=by
 have hr:=hc.rel i;have hb:=gu (args:=an args) (H:=an H) hi;rw[gH,ha]at hb;simp only[Option.map_some]at hb;have hp:x.den.plain=true:=by rw[cH];cases x<;>simp[pf]at hx<;>rfl
 rw[ai.ar (by rw[hb];exact hp),hb]at hr;have e:aS V vs i=vs.getD i undef:=by unfold aS;rw[if_pos hi]
 rw[e]at hr;exact((sv hx).2 hr).1
theorem R8{V:Hid}{vs:List Value}{F:Nat->List Nat}{args:List AV}{K:Obj->Prop}(ha:args.length<=1000000)(hc:aK S V.g (both args [.mp K]) (aS V vs) w F):
 ∃b o,V.v 1000000=.map (some b)/\w.heap[b]?=some o/\K o/\F 1000000=[b]:=by
 have hr:=hc.rel 1000000;have hb:=fW (args:=args) (H:=[.mp K]) ha 0;simp only[Nat.add_zero,List.getElem?_cons_zero]at hb;rw[ai.ar (by rw[hb];rfl),hb]at hr;have hv:aS V vs 1000000=V.v 1000000:=by unfold aS;rw[if_neg (by omega)]
 simp only[Rel]at hr;rw[hv]at hr;exact hr
theorem mapped{V:Hid}{vs:List Value}{F:Nat->List Nat}{args:List AV}{K K':Obj->Prop}{b:Nat}{o o':Obj}{v:Value}(hc:aK S V.g (both args [.mp K]) (aS V vs) w F)
 (hv:V.v 1000000=.map (some b))(hb:w.heap[b]?=some o)(hF:F 1000000=[b])(hK:K' o'):
 ∃S' F',qS V w w {w with heap:=w.heap.setIfInBounds b o'}/\(∀b,S b->S' b)/\(∀b,S' b->S b\/bW V w b)/\aK S' (bW V w) (both [.dead] [.mp K']) (aS V [v]) {w with heap:=w.heap.setIfInBounds b o'} F':=by
 have dz:=hc.own 1000000 b (by rw[hF];simp);have ny:=MapKept.heap_set (o':=o') hb;have ct:(w.heap.setIfInBounds b o').size=w.heap.size:=by simp
 refine⟨S,fun i=>if i=1000000 then[b]else[],⟨rfl,rfl,rfl,by show _<=(w.heap.setIfInBounds b o').size;rw[ct];omega,fun k hk hg=>ny.2 k (fun e=>by subst e;exact hg dz.1)⟩,fun _ h=>h,fun _ h=>.inl h,
  ⟨fun i=>?_,fun i=>?_,fun i j fX c hb=>?_,fun i c hb=>?_,fun c h=>by show c<(w.heap.setIfInBounds b o').size;rw[ct];exact hc.shr c h⟩⟩
 ·rw[ai.ar (by rw[xF];split;rfl;split<;>rfl),xF];by_cases h0:i=0
  ·subst h0;simp[Rel]
  by_cases h1:i=1000000
  ·subst h1;simp only[h0,if_false,if_true,Rel];have hT:aS V [v] 1000000=.map (some b):=by unfold aS;rw[if_neg (by omega),hv]
   exact⟨b,o',hT,ny.1,hK,rfl⟩
  simp[h0,h1,Rel]
 ·split<;>simp
 ·split at hb
  ·rename_i hi;rw[if_neg (fun e=>fX (by omega))];simp
  simp at hb
 split at hb
 ·simp only[List.mem_singleton]at hb;subst hb;exact⟨.inr dz.1,by show _<(w.heap.setIfInBounds c o').size;rw[ct];exact dz.2.1,dz.2.2⟩
 simp at hb
theorem BE{k:bw}{v:Value}:∀{es:xl},qP k es=none->wh k v es=es++[(k,v)]
 |[],_=>rfl
 |(k',u)::es,h=>by
  simp only[qP]at h;cases he:pk k k' with
  |true=>simp[he]at h
  |false=>simp only[he]at h;simp only[wh,he,BE h,List.cons_append]
theorem qn{o:Oper}{es:xl}{k:bw}{x:SV}{v:Value}{a b c:Operand}(ho:o.op=.insert t a b c\/o.op=.mapUpdate t a b c)(hd:o.dst=none)(ht:P.underlying t=some (.map key elem))(hk:P.underlying key=some .string)(hx:pf x=some v):
 kO P o [.mp (yB es)] [.bg 1000000 0 0 [],.s k,x] [.mp (yB (wh k v es))] .dead:=by
 intro w S V vs F hl hc ρ hρ;obtain⟨m,om,hv,hm,hK,hF⟩:=R8 (by simp[an]) hc;obtain⟨ms,cl,rfl,kr⟩:=hK;obtain⟨x0,x1,x2,rfl⟩:∃x0 x1 x2,vs=[x0,x1,x2]:=by
  match vs,hl with
  |[x0,x1,x2],_=>exact⟨x0,x1,x2,rfl⟩
 have e0:x0=.map (some m):=(uj (i:=0) (by omega) hc rfl).trans hv;have e1:x1=.string (bs k):=Gj (args:=[.bg 1000000 0 0 [],.s k,x]) (H:=[.mp (yB es)]) (i:=1) (by omega) hc rfl rfl;have e2:x2=v:=Gj (args:=[.bg 1000000 0 0 [],.s k,x]) (H:=[.mp (yB es)]) (i:=2) (by omega) hc rfl hx;have abU:ρ a=.map (some m)/\ρ b=.string (bs k)/\ρ c=v:=by
  have:o.op.operands.toList=[a,b,c]:=by rcases ho with ho|ho<;>rw[ho]<;>rfl
  rw[this]at hρ;simp only[List.map_cons,List.map_nil,List.cons.injEq,and_true]at hρ;exact⟨hρ.1.trans e0,hρ.2.1.trans e1,hρ.2.2.trans e2⟩
 have key:∃o',yB (wh k v es) o'/\(Instr.mapUpdate t (.map (some m)) (.string (bs k)) v).run P w=.ok () {w with heap:=w.heap.setIfInBounds m o'}:=by
  cases hg:qP k es with
  |none=>
   have h1:=oy (i:=0) kr hg;refine⟨.map (ms.push {key:=.string (bs k),val:=v,born:=cl}) (cl+1),⟨_,_,rfl,?_⟩,?_⟩
   ·rw[BE hg];simp[kr]
   simp[Instr.mapUpdate,run_underlying ht,MapKept.run_getObj_map hm,MapKept.run_checkKey hk (k:=.string (bs k)) trivial,MapKept.run_findKey hk h1,MapKept.run_setObj_map _ hm,Result.andThen]
  |some u=>
   obtain⟨j,h1,e,h2,h3,h4⟩:=ox (i:=0) kr hg;have hj:ms[j]?=some e:=by simpa using h2
   rw[Nat.zero_add]at h1;refine⟨.map (ms.modify j fun e=>{e with key:=.string (bs k),val:=v}) cl,⟨_,_,rfl,?_⟩,?_⟩
   ·rw[<-h4 v];simp
   simp[Instr.mapUpdate,run_underlying ht,MapKept.run_getObj_map hm,MapKept.run_checkKey hk (k:=.string (bs k)) trivial,MapKept.run_findKey hk h1,hj,h3,MapKept.run_keyThatStays (d:=.string) (k:=.string (bs k)) trivial,MapKept.run_setObj_map _ hm,Result.andThen]
 obtain⟨o',JX,bp⟩:=key;have hx:(execOp ρ o).run P w=.ok .skip {w with heap:=w.heap.setIfInBounds m o'}:=by rcases ho with ho|ho<;>simp[execOp,ho,abU,bp]
 exact⟨_,.nilIface,_,hx,.inr ⟨rfl,hd⟩,mapped hc hv hm hF JX⟩
end
section
variable{R:Option Nat->Prop}{P:Program}{tt:TT}{N:Nat}{F:St->Prop}{k:List It}{l:aP}
theorem aa5(hA:bK P tt){all:Array Oper}{mm:List Nat}{acc:List (List Nat×List Nat)}{rest:List Oper}{d:Nat}{t:TypeId}{x:Operand}{lo hi:Option Operand}{ty:TypeId}{pos:String}{cF:Array Edge}{g:Option (Nat×Bool)}{ob:List Pd}{l':aP}{ks:List Nat}
 (hg:cK l all.toList g=some true)(h:ve tt l d t x lo hi=some (ob,l',ks))(ho:ae ob)
 (hk:AK R P N F (.o4 all mm rest ((gW (dn l) all ⟨some d,.slice t x lo hi none,ty,pos,cF,g⟩,ks)::acc)::k) l'):
 AK R P N F (.o4 all mm (⟨some d,.slice t x lo hi none,ty,pos,cF,g⟩::rest) acc::k) l:=by
 show rt P _ _ _ _ _;rw[nX];exact NA hA hg h ho fun ms kr=>by rw[kr];exact hk
end
section
variable{P:Program}{o:Oper}{ts:Array TypeId}{t e:TypeId}{ti:TI}{d s:Operand}
theorem FJ{k:IntKind}{ti:TI}(ha:ti.agg=false)(h1:ti.size=1)(xs:List Int):(xs.map fun a=>AV.v (.int k a)).all (fits ti)=true:=by rw[List.all_eq_true];intro x hx;obtain⟨y,-,rfl⟩:=List.mem_map.1 hx;simp[fits,ha,h1,AV.cell]
theorem JO{k:IntKind}(xs:List Int):bG (xs.map fun a=>AV.v (.int k a))=true:=by refine uO fun x hx=>?_;obtain⟨y,-,rfl⟩:=List.mem_map.1 hx;rfl
theorem PL{k:IntKind}(ho:o.op=.call ⟨.builtin .copy,#[d,s],ts⟩)(ht:ts[0]?=some t)(hu:P.underlying t=some (.slice e))(ga:bE P e=some ti)(ha:ti.agg=false)(h1:ti.size=1){xs ys:List Int}(hx:xs≠[])(hy:ys≠[]){n:Nat}(hn:Nat.min ys.length xs.length=n):
 kO P o [.ints k true xs] [.bg 1000000 0 0 [],.ints k false ys] [.ints k true (ys.take n++xs.drop n)] (.i n):=by
 have h:=Kp (P:=P) ho ht hu ga (sz:=1) h1.symm (X:=xs.map fun a=>.v (.int k a)) (Y:=ys.map fun a=>.v (.int k a)) (by simpa using hx) (JO xs) (by simpa using hy) (FJ ha h1 ys) (n:=n) (by simpa using hn);rw[<-List.map_take,<-List.map_drop,<-List.map_append]at h;exact h
theorem IX{k:IntKind}(ho:o.op=.call ⟨.builtin .copy,#[d,s],ts⟩)(ht:ts[0]?=some t)(hu:P.underlying t=some (.slice e))(ga:bE P e=some ti)(ha:ti.agg=false)(h1:ti.size=1){xs:List Int}(hx:xs≠[]){off m1 m2 n:Nat}(hn:Nat.min m2 m1=n)(k1:off+m1<=xs.length)(k2:m2<=xs.length)(g1:0<m1)(g2:0<m2):
 kO P o [.ints k true xs] [.bg 1000000 0 0 [.jI 1 off m1],.bg 1000000 0 0 [.jI 1 0 m2]] [.ints k true (xs.take off++xs.take n++xs.drop (off+n))] (.i n):=by
 have h:=Cn (P:=P) ho ht hu ga (sz:=1) h1.symm (X:=xs.map fun a=>.v (.int k a)) (by simpa using hx) (JO xs) (FJ ha h1 xs) (off:=off) (m1:=m1) (m2:=m2) (n:=n) hn (by simpa using k1) (by simpa using k2) g1 g2;rw[<-List.map_take,<-List.map_take,<-List.map_drop,<-List.map_append,<-List.map_append]at h;exact h
theorem PK{ti':ua}(ho:o.op=.call ⟨.builtin .copy,#[d,s],ts⟩)(ht:ts[0]?=some t)(hu:P.underlying t=some (.slice e))(ga:bE P e=some ti'.den){xs ys:List SV}(hx:xs≠[])(hy:ys≠[])(fS:eV xs=true)(hf:∀y∈ys,kb ti' y=true){n:Nat}(hn:Nat.min ys.length xs.length=n):
 kO P o [.row true ti'.size xs] [.bg 1000000 0 0 [],.row false ti'.size ys] [.row true ti'.size (ys.take n++xs.drop n)] (.i n):=by
 have iC:(an ys).all (fits ti'.den)=true:=by rw[List.all_eq_true];intro x hx;rw[bx]at hx;obtain⟨y,hy,rfl⟩:=List.mem_map.1 hx;exact gF ti' y (hf y hy)
 have h:=Kp (P:=P) ho ht hu ga (sz:=ti'.size) rfl (X:=an xs) (Y:=an ys) (by cases xs;exact absurd rfl hx;simp[an]) (by rw[cZ];exact fS) (by cases ys;exact absurd rfl hy;simp[an]) iC (n:=n) (by simpa only[bt]using hn);have e:(an ys).take n++(an xs).drop n=an (ys.take n++xs.drop n):=by simp only[bx,List.map_append,List.map_take,List.map_drop]
 rw[e]at h;exact h
theorem IW{ti':ua}(ho:o.op=.call ⟨.builtin .copy,#[d,s],ts⟩)(ht:ts[0]?=some t)(hu:P.underlying t=some (.slice e))(ga:bE P e=some ti'.den){xs:List SV}(hx:xs≠[])(fS:eV xs=true)(hf:∀y∈xs,kb ti' y=true){off m1 m2 n:Nat}(hn:Nat.min m2 m1=n)(k1:off+m1<=xs.length)(k2:m2<=xs.length)(g1:0<m1)(g2:0<m2):
 kO P o [.row true ti'.size xs] [.bg 1000000 0 0 [.jI ti'.size off m1],.bg 1000000 0 0 [.jI ti'.size 0 m2]] [.row true ti'.size (xs.take off++xs.take n++xs.drop (off+n))] (.i n):=by
 have iC:(an xs).all (fits ti'.den)=true:=by rw[List.all_eq_true];intro x hx;rw[bx]at hx;obtain⟨y,hy,rfl⟩:=List.mem_map.1 hx;exact gF ti' y (hf y hy)
 have h:=Cn (P:=P) ho ht hu ga (sz:=ti'.size) rfl (X:=an xs) (by cases xs;exact absurd rfl hx;simp[an]) (by rw[cZ];exact fS) iC (off:=off) (m1:=m1) (m2:=m2) (n:=n) hn (by simpa only[bt]using k1) (by simpa only[bt]using k2) g1 g2;have e:(an xs).take off++(an xs).take n++(an xs).drop (off+n)=an (xs.take off++xs.take n++xs.drop (off+n)):=by simp only[bx,List.map_append,List.map_take,List.map_drop]
 rw[e]at h;exact h
end
theorem aK.ac2{S B:Nat->Prop}{σ:St}{T:Nat->Value}{w:World}{F:Nat->List Nat}(h:aK S B σ T w F){J:o7}{Fb:List Nat}(hn:Fb.Nodup)(ho:∀b∈Fb,B b/\b<w.heap.size/\¬S b)(xb:∀i,i≠1000000->∀b∈F i,b∉Fb)(hJ:J.here w S Fb):
 aK S B (fB σ 1000000 ⟨.abs J,(σ 1000000).g1+1,(σ 1000000).g2⟩) T w (fB F 1000000 Fb):=by
 refine h.step (w':=w) (S':=S) (T':=T) ⟨fun r=>?_,fun r=>?_,fun _ _=>rfl,fun r e1 e2=>?_⟩ (fun _ h=>h) (fun i=>?_) (fun i=>?_) (fun i j fX b hb=>?_) (fun i b hb=>?_) h.shr
 ·by_cases hr:r=1000000
  ·subst hr;rw[ak];exact Nat.le_succ _
  rw[ab _ _ hr];exact Nat.le_refl _
 ·by_cases hr:r=1000000
  ·subst hr;rw[ak];exact Nat.le_refl _
  rw[ab _ _ hr];exact Nat.le_refl _
 ·by_cases hr:r=1000000
  ·subst hr;rw[ak]at e1;simp at e1
  rw[ab _ _ hr];exact⟨fun p y hy=>⟨y,hy⟩,fun _ _=>rfl⟩
 ·by_cases hi:i=1000000
  ·subst hi;right;unfold ai;rw[ak,ak];exact hJ
  left;rw[ab _ _ hi,ab _ _ hi];exact⟨rfl,rfl,rfl,fun _ _=>rfl⟩
 ·by_cases hi:i=1000000
  ·subst hi;rw[ak];exact hn
  rw[ab _ _ hi];exact h.nodup i
 ·by_cases hi:i=1000000
  ·subst hi;rw[ak]at hb;rw[ab _ _ (fun e=>fX e.symm)];exact fun Eg=>xb j (fun e=>fX e.symm) b Eg hb
  rw[ab _ _ hi]at hb;by_cases hj:j=1000000
  ·subst hj;rw[ak];exact xb i hi b hb
  rw[ab _ _ hj];exact h.cx i j fX b hb
 by_cases hi:i=1000000
 ·subst hi;rw[ak]at hb;exact ho b hb
 rw[ab _ _ hi]at hb;exact h.own i b hb
section
variable{R:Option Nat->Prop}{P:Program}{N:Nat}{F:St->Prop}{k:List It}{l:aP}
theorem WU{id d:Nat}{T ty:TypeId}{pos:String}{cF:Array Edge}{zs:Array Value}(J:Nat->o7)(hd:Nat.ble (d+1) N=true)(Sf:Nat.ble (d+1) 1000000=true)
 (bp:∀w,(Instr.alloc T true (.tuple #[])).run P w=.ok (.pointer (some ⟨w.heap.size,0,none⟩)) (w.alloc (.cells zs T)))
 (hJ:∀b w S,w.heap[b]?=some (.cells zs T)->J b w S [b])
 (hk:∀b,AK R P N F k ((1000000,⟨.abs (J b),(gt l 1000000).g1+1,(gt l 1000000).g2⟩)::(d,⟨.pv (·=.pointer (some ⟨b,0,none⟩)),(gt l d).g1+1,(gt l d).g2⟩)::l)):
 AK R P N F (.code (.region id #[⟨some d,.alloc T,ty,pos,cF,none⟩] false)::k) l:=by
 have hd:d<N:=Nat.le_of_ble_eq_true hd;have Sf:d<1000000:=Nat.le_of_ble_eq_true Sf;have cR:(1000000:Nat)≠d:=by omega
 intro V w0 S0 a w hR hi;refine wpIn_region_list ?_;obtain⟨b,hb⟩:∃b,b=w.heap.size:=⟨_,rfl⟩;obtain⟨v,hv⟩:∃v:Value,v=.pointer (some ⟨b,0,none⟩):=⟨_,rfl⟩;obtain⟨w',RV⟩:∃w',w'=w.alloc (.cells zs T):=⟨_,rfl⟩;have Iv:Below w.heap.size w w':=by rw[RV];exact(Below.refl _ _).alloc (Nat.le_refl _) _
 have hbw:w'.heap[b]?=some (.cells zs T):=by rw[RV,hb];exact World.alloc_heap_new w _
 have ct:w'.heap.size=w.heap.size+1:=by rw[RV,World.size_alloc]
 have key:kM N V w0 S0 (dn ((1000000,⟨.abs (J b),(gt l 1000000).g1+1,(gt l 1000000).g2⟩)::(d,⟨.pv (·=.pointer (some ⟨b,0,none⟩)),(gt l d).g1+1,(gt l d).g2⟩)::l)) (a.put (some d) v) w':=by
  refine Inv.x ?_;obtain⟨S,Fr,hc,hN,ig,jl,gw,cU⟩:=hi;have h1:=hc.make (w':=w') [] d (.pv (·=v)) v [] cU.new Iv.size (fun b dr _=>Iv.block b dr) List.nodup_nil (by simp) (by simp[Rel]);have h2:=h1.ac2 (J:=J b) (Fb:=[b]) (by simp) (fun c bT=>by
   simp only[List.mem_singleton]at bT;subst bT;exact⟨cU.new _ (by omega),by omega,fun h=>by have:=hc.shr _ h;omega⟩) (fun i _ c Pa AU=>by
   simp only[List.mem_singleton]at AU;subst AU;split at Pa
   ·simp at Pa
   rw[if_neg (by simp)]at Pa;have:=(hc.own i c Pa).2.1;omega) (fun w2 S2 h1 _=>hJ b w2 S2 (by rw[h1 b (.inr (by simp))];exact hbw))
  rw[<-ll (V:=V) (by rw[hN];exact hd)]at h2;have e:dn ((1000000,⟨.abs (J b),(gt l 1000000).g1+1,(gt l 1000000).g2⟩)::(d,⟨.pv (·=.pointer (some ⟨b,0,none⟩)),(gt l d).g1+1,(gt l d).g2⟩)::l)
   =fB (made (dn l) [] d (.pv (·=v))) 1000000 ⟨.abs (J b),(made (dn l) [] d (.pv (·=v)) 1000000).g1+1,(made (dn l) [] d (.pv (·=v)) 1000000).g2⟩:=by
   simp only[dC]
   funext i
   by_cases hi6:i=1000000
   ·subst hi6;simp only[ak,made,if_neg cR];rfl
   rw[ab _ _ hi6,ab _ _ hi6];by_cases hid:i=d
   ·subst hid;rw[ak,hv];simp only[made,if_true];rfl
   rw[ab _ _ hid];simp[made,hid]
  rw[e];exact⟨S,_,h2,by rw[size_put];exact hN,by rw[dV];exact ig,jl,gw,cU.Jq Iv⟩
 show wpListIn (FW V.rd) 0 P _ _ [_] a w;unfold wpListIn;have j7:Oper.QO V.rd P ⟨some d,.alloc T,ty,pos,cF,none⟩ a w (wpListIn (FW V.rd) 0 P #[⟨some d,.alloc T,ty,pos,cF,none⟩] (fun e a' w'=>∃σ',eh R P N F k e σ'/\kM N V w0 S0 σ' a' w') []) (fun e a' w'=>∃σ',eh R P N F k e σ'/\kM N V w0 S0 σ' a' w'):=by refine fY (v:=v) (w':=w') (by simp[execOp,bp,hv,hb,RV]) ?_;exact wpListIn_nil ⟨_,hk b,key⟩
 split
 ·exact j7
 rename_i hw;exact absurd rfl hw
end
end Go.Ai
namespace Go.Ai
open Go.Proofs
set_option maxRecDepth 100000
def tt:TT:=[(0,⟨.other,none⟩),
 (1,⟨.func,some ⟨false,1,8,.c .nilFunc⟩⟩),
 (2,⟨.int .i64,some ⟨false,1,8,.n .i64 0⟩⟩),
 (3,⟨.int .i64,some ⟨false,1,8,.n .i64 0⟩⟩),
 (4,⟨.bool,some ⟨false,1,1,.b false⟩⟩),
 (5,⟨.int .u8,some ⟨false,1,1,.n .u8 0⟩⟩),
 (6,⟨.int .u8,some ⟨false,1,1,.n .u8 0⟩⟩),
 (7,⟨.struct [(0,2,1),(1,3,1),(2,4,1),(3,6,1)],some ⟨true,4,24,.agg [.n .i64 0,.n .i64 0,.b false,.n .u8 0]⟩⟩),
 (8,⟨.struct [(0,2,1),(1,3,1),(2,4,1),(3,6,1)],some ⟨true,4,24,.agg [.n .i64 0,.n .i64 0,.b false,.n .u8 0]⟩⟩),
 (9,⟨.str,some ⟨false,1,16,.s []⟩⟩),
 (10,⟨.str,some ⟨false,1,16,.s []⟩⟩),
 (11,⟨.str,some ⟨false,1,16,.s []⟩⟩),
 (12,⟨.int .u64,some ⟨false,1,8,.n .u64 0⟩⟩),
 (20,⟨.other,none⟩),
 (21,⟨.int .i32,some ⟨false,1,4,.n .i32 0⟩⟩),
 (22,⟨.slice 49,some ⟨false,1,24,.nil⟩⟩),
 (23,⟨.slice 3,some ⟨false,1,24,.nil⟩⟩),
 (25,⟨.struct [(0,3,1),(1,22,1),(2,23,1)],some ⟨true,3,56,.agg [.n .i64 0,.nil,.nil]⟩⟩),
 (26,⟨.slice 67,some ⟨false,1,24,.nil⟩⟩),
 (28,⟨.struct [(0,3,1),(1,3,1),(2,3,1),(3,3,1)],some ⟨true,4,32,.agg [.n .i64 0,.n .i64 0,.n .i64 0,.n .i64 0]⟩⟩),
 (30,⟨.struct [(0,26,1),(1,28,4)],some ⟨true,5,56,.agg [.nil,.n .i64 0,.n .i64 0,.n .i64 0,.n .i64 0]⟩⟩),
 (34,⟨.slice 23,some ⟨false,1,24,.nil⟩⟩),
 (35,⟨.int .i64,some ⟨false,1,8,.n .i64 0⟩⟩),
 (36,⟨.other,none⟩),
 (38,⟨.slice 53,some ⟨false,1,24,.nil⟩⟩),
 (39,⟨.other,none⟩),
 (42,⟨.slice 52,some ⟨false,1,24,.nil⟩⟩),
 (45,⟨.slice 79,some ⟨false,1,24,.nil⟩⟩),
 (46,⟨.str,some ⟨false,1,16,.s []⟩⟩),
 (47,⟨.slice 46,some ⟨false,1,24,.nil⟩⟩),
 (49,⟨.struct [(0,9,1),(1,45,1),(2,3,1),(3,46,1),(4,47,1)],some ⟨true,5,88,.agg [.s [],.nil,.n .i64 0,.s [],.nil]⟩⟩),
 (52,⟨.struct [(0,3,1),(1,3,1),(2,3,1)],some ⟨true,3,24,.agg [.n .i64 0,.n .i64 0,.n .i64 0]⟩⟩),
 (53,⟨.struct [(0,3,1),(1,3,1),(2,3,1)],some ⟨true,3,24,.agg [.n .i64 0,.n .i64 0,.n .i64 0]⟩⟩),
 (59,⟨.struct [(0,23,1),(1,34,1)],some ⟨true,2,48,.agg [.nil,.nil]⟩⟩),
 (62,⟨.other,none⟩),
 (67,⟨.struct [(0,46,1),(1,46,1)],some ⟨true,2,32,.agg [.s [],.s []]⟩⟩),
 (70,⟨.other,none⟩),
 (72,⟨.other,none⟩),
 (79,⟨.struct [(0,3,1),(1,46,1)],some ⟨true,2,24,.agg [.n .i64 0,.s []]⟩⟩),
 (83,⟨.slice 47,some ⟨false,1,24,.nil⟩⟩),
 (84,⟨.other,none⟩),
 (86,⟨.other,none⟩),
 (88,⟨.other,none⟩),
 (93,⟨.ptr,some ⟨false,1,8,.c (.pointer none)⟩⟩),
 (94,⟨.other,none⟩),
 (97,⟨.struct [(0,25,3),(3,26,1),(4,28,4),(8,23,1),(9,34,1)],some ⟨true,10,160,.agg [.n .i64 0,.nil,.nil,.nil,.n .i64 0,.n .i64 0,.n .i64 0,.n .i64 0,.nil,.nil]⟩⟩),
 (98,⟨.other,none⟩),
 (105,⟨.func,some ⟨false,1,8,.c .nilFunc⟩⟩),
 (108,⟨.other,none⟩),
 (114,⟨.func,some ⟨false,1,8,.c .nilFunc⟩⟩),
 (115,⟨.slice 253,some ⟨false,1,24,.nil⟩⟩),
 (117,⟨.struct [(0,3,1),(1,115,1)],some ⟨true,2,32,.agg [.n .i64 0,.nil]⟩⟩),
 (119,⟨.struct [(0,117,2),(2,117,2)],some ⟨true,4,64,.agg [.n .i64 0,.nil,.n .i64 0,.nil]⟩⟩),
 (129,⟨.struct [(0,4,1),(1,23,1)],some ⟨true,2,32,.agg [.b false,.nil]⟩⟩),
 (130,⟨.other,none⟩),
 (140,⟨.slice 9,some ⟨false,1,24,.nil⟩⟩),
 (141,⟨.slice 222,some ⟨false,1,24,.nil⟩⟩),
 (143,⟨.struct [(0,140,1),(1,141,1),(2,26,1)],some ⟨true,3,72,.agg [.nil,.nil,.nil]⟩⟩),
 (144,⟨.other,none⟩),
 (147,⟨.slice 149,some ⟨false,1,24,.nil⟩⟩),
 (149,⟨.slice 119,some ⟨false,1,24,.nil⟩⟩),
 (152,⟨.array 81 117,some ⟨true,162,2592,.agg [.n .i64 0,.nil,.n .i64 0,.nil,.n .i64 0,.nil,.n .i64 0,.nil,.n .i64 0,.nil,.n .i64 0,.nil,.n .i64 0,.nil,.n .i64 0,.nil,.n .i64 0,.nil,.n .i64 0,.nil,.n .i64 0,.nil,.n .i64 0,.nil,.n .i64 0,.nil,.n .i64 0,.nil,.n .i64 0,.nil,.n .i64 0,.nil,.n .i64 0,.nil,.n .i64 0,.nil,.n .i64 0,.nil,.n .i64 0,.nil,.n .i64 0,.nil,.n .i64 0,.nil,.n .i64 0,.nil,.n .i64 0,.nil,.n .i64 0,.nil,.n .i64 0,.nil,.n .i64 0,.nil,.n .i64 0,.nil,.n .i64 0,.nil,.n .i64 0,.nil,.n .i64 0,.nil,.n .i64 0,.nil,.n .i64 0,.nil,.n .i64 0,.nil,.n .i64 0,.nil,.n .i64 0,.nil,.n .i64 0,.nil,.n .i64 0,.nil,.n .i64 0,.nil,.n .i64 0,.nil,.n .i64 0,.nil,.n .i64 0,.nil,.n .i64 0,.nil,.n .i64 0,.nil,.n .i64 0,.nil,.n .i64 0,.nil,.n .i64 0,.nil,.n .i64 0,.nil,.n .i64 0,.nil,.n .i64 0,.nil,.n .i64 0,.nil,.n .i64 0,.nil,.n .i64 0,.nil,.n .i64 0,.nil,.n .i64 0,.nil,.n .i64 0,.nil,.n .i64 0,.nil,.n .i64 0,.nil,.n .i64 0,.nil,.n .i64 0,.nil,.n .i64 0,.nil,.n .i64 0,.nil,.n .i64 0,.nil,.n .i64 0,.nil,.n .i64 0,.nil,.n .i64 0,.nil,.n .i64 0,.nil,.n .i64 0,.nil,.n .i64 0,.nil,.n .i64 0,.nil,.n .i64 0,.nil,.n .i64 0,.nil,.n .i64 0,.nil,.n .i64 0,.nil,.n .i64 0,.nil,.n .i64 0,.nil,.n .i64 0,.nil,.n .i64 0,.nil,.n .i64 0,.nil,.n .i64 0,.nil,.n .i64 0,.nil]⟩⟩),
 (158,⟨.ptr,some ⟨false,1,8,.c (.pointer none)⟩⟩),
 (160,⟨.func,some ⟨false,1,8,.c .nilFunc⟩⟩),
 (161,⟨.func,some ⟨false,1,8,.c .nilFunc⟩⟩),
 (164,⟨.struct [(0,3,1),(1,3,1),(2,3,1),(3,3,1)],some ⟨true,4,32,.agg [.n .i64 0,.n .i64 0,.n .i64 0,.n .i64 0]⟩⟩),
 (166,⟨.ptr,some ⟨false,1,8,.c (.pointer none)⟩⟩),
 (168,⟨.struct [(0,25,3),(3,35,1)],some ⟨true,4,64,.agg [.n .i64 0,.nil,.nil,.n .i64 0]⟩⟩),
 (169,⟨.ptr,some ⟨false,1,8,.c (.pointer none)⟩⟩),
 (174,⟨.other,none⟩),
 (176,⟨.func,some ⟨false,1,8,.c .nilFunc⟩⟩),
 (178,⟨.struct [(0,176,1)],some ⟨true,1,8,.agg [.c .nilFunc]⟩⟩),
 (180,⟨.struct [(0,49,5),(5,23,1),(6,3,1),(7,28,4)],some ⟨true,11,152,.agg [.s [],.nil,.n .i64 0,.s [],.nil,.nil,.n .i64 0,.n .i64 0,.n .i64 0,.n .i64 0,.n .i64 0]⟩⟩),
 (183,⟨.other,none⟩),
 (189,⟨.slice 35,some ⟨false,1,24,.nil⟩⟩),
 (190,⟨.other,none⟩),
 (192,⟨.int .u64,some ⟨false,1,8,.n .u64 0⟩⟩),
 (193,⟨.other,none⟩),
 (195,⟨.other,none⟩),
 (197,⟨.other,none⟩),
 (199,⟨.other,none⟩),
 (215,⟨.func,some ⟨false,1,8,.c .nilFunc⟩⟩),
 (221,⟨.slice 286,some ⟨false,1,24,.nil⟩⟩),
 (222,⟨.slice 286,some ⟨false,1,24,.nil⟩⟩),
 (230,⟨.func,some ⟨false,1,8,.c .nilFunc⟩⟩),
 (234,⟨.other,none⟩),
 (241,⟨.func,some ⟨false,1,8,.c .nilFunc⟩⟩),
 (250,⟨.int .u32,some ⟨false,1,4,.n .u32 0⟩⟩),
 (251,⟨.other,none⟩),
 (253,⟨.int .u64,some ⟨false,1,8,.n .u64 0⟩⟩),
 (254,⟨.other,none⟩),
 (256,⟨.other,none⟩),
 (261,⟨.other,none⟩),
 (262,⟨.other,none⟩),
 (264,⟨.other,none⟩),
 (272,⟨.other,none⟩),
 (276,⟨.ptr,some ⟨false,1,8,.c (.pointer none)⟩⟩),
 (277,⟨.slice 5,some ⟨false,1,24,.nil⟩⟩),
 (279,⟨.struct [(0,276,1),(1,277,1)],some ⟨true,2,32,.agg [.c (.pointer none),.nil]⟩⟩),
 (281,⟨.other,none⟩),
 (286,⟨.struct [(0,46,1),(1,23,1)],some ⟨true,2,40,.agg [.s [],.nil]⟩⟩),
 (295,⟨.struct [(0,3,1),(1,3,1),(2,215,1),(3,293,1)],some ⟨true,4,32,.agg [.n .i64 0,.n .i64 0,.c .nilFunc,.c .nilFunc]⟩⟩),
 (296,⟨.other,none⟩),
 (297,⟨.other,none⟩),
 (299,⟨.slice 4,some ⟨false,1,24,.nil⟩⟩),
 (300,⟨.func,some ⟨false,1,8,.c .nilFunc⟩⟩),
 (301,⟨.func,some ⟨false,1,8,.c .nilFunc⟩⟩),
 (303,⟨.func,some ⟨false,1,8,.c .nilFunc⟩⟩),
 (305,⟨.func,some ⟨false,1,8,.c .nilFunc⟩⟩),
 (306,⟨.func,some ⟨false,1,8,.c .nilFunc⟩⟩),
 (315,⟨.ptr,some ⟨false,1,8,.c (.pointer none)⟩⟩),
 (317,⟨.ptr,some ⟨false,1,8,.c (.pointer none)⟩⟩),
 (319,⟨.func,some ⟨false,1,8,.c .nilFunc⟩⟩),
 (322,⟨.int .i64,some ⟨false,1,8,.n .i64 0⟩⟩),
 (323,⟨.other,none⟩),
 (325,⟨.ptr,some ⟨false,1,8,.c (.pointer none)⟩⟩),
 (329,⟨.array 24 5,some ⟨true,24,24,.agg [.n .u8 0,.n .u8 0,.n .u8 0,.n .u8 0,.n .u8 0,.n .u8 0,.n .u8 0,.n .u8 0,.n .u8 0,.n .u8 0,.n .u8 0,.n .u8 0,.n .u8 0,.n .u8 0,.n .u8 0,.n .u8 0,.n .u8 0,.n .u8 0,.n .u8 0,.n .u8 0,.n .u8 0,.n .u8 0,.n .u8 0,.n .u8 0]⟩⟩),
 (331,⟨.other,none⟩),
 (333,⟨.other,none⟩),
 (335,⟨.slice 359,some ⟨false,1,24,.nil⟩⟩),
 (336,⟨.slice 359,some ⟨false,1,24,.nil⟩⟩),
 (338,⟨.slice 336,some ⟨false,1,24,.nil⟩⟩),
 (341,⟨.struct [(0,25,3),(3,3,1),(4,149,1),(5,338,1),(6,338,1),(7,339,1)],some ⟨true,8,144,.agg [.n .i64 0,.nil,.nil,.n .i64 0,.nil,.nil,.nil,.c (.map none)]⟩⟩),
 (345,⟨.other,none⟩),
 (349,⟨.struct [(0,9,1),(1,9,1),(2,261,1)],some ⟨true,3,48,.agg [.s [],.s [],.c .nilIface]⟩⟩),
 (352,⟨.array 20 253,some ⟨true,20,160,.agg [.n .u64 0,.n .u64 0,.n .u64 0,.n .u64 0,.n .u64 0,.n .u64 0,.n .u64 0,.n .u64 0,.n .u64 0,.n .u64 0,.n .u64 0,.n .u64 0,.n .u64 0,.n .u64 0,.n .u64 0,.n .u64 0,.n .u64 0,.n .u64 0,.n .u64 0,.n .u64 0]⟩⟩),
 (353,⟨.array 65 5,some ⟨true,65,65,.agg [.n .u8 0,.n .u8 0,.n .u8 0,.n .u8 0,.n .u8 0,.n .u8 0,.n .u8 0,.n .u8 0,.n .u8 0,.n .u8 0,.n .u8 0,.n .u8 0,.n .u8 0,.n .u8 0,.n .u8 0,.n .u8 0,.n .u8 0,.n .u8 0,.n .u8 0,.n .u8 0,.n .u8 0,.n .u8 0,.n .u8 0,.n .u8 0,.n .u8 0,.n .u8 0,.n .u8 0,.n .u8 0,.n .u8 0,.n .u8 0,.n .u8 0,.n .u8 0,.n .u8 0,.n .u8 0,.n .u8 0,.n .u8 0,.n .u8 0,.n .u8 0,.n .u8 0,.n .u8 0,.n .u8 0,.n .u8 0,.n .u8 0,.n .u8 0,.n .u8 0,.n .u8 0,.n .u8 0,.n .u8 0,.n .u8 0,.n .u8 0,.n .u8 0,.n .u8 0,.n .u8 0,.n .u8 0,.n .u8 0,.n .u8 0,.n .u8 0,.n .u8 0,.n .u8 0,.n .u8 0,.n .u8 0,.n .u8 0,.n .u8 0,.n .u8 0,.n .u8 0]⟩⟩),
 (357,⟨.other,none⟩),
 (359,⟨.struct [(0,119,4),(4,23,1)],some ⟨true,5,88,.agg [.n .i64 0,.nil,.n .i64 0,.nil,.nil]⟩⟩),
 (363,⟨.ptr,some ⟨false,1,8,.c (.pointer none)⟩⟩),
 (365,⟨.struct [(0,9,1)],some ⟨true,1,16,.agg [.s []]⟩⟩),
 (368,⟨.other,none⟩),
 (370,⟨.func,some ⟨false,1,8,.c .nilFunc⟩⟩),
 (371,⟨.array 32 5,some ⟨true,32,32,.agg [.n .u8 0,.n .u8 0,.n .u8 0,.n .u8 0,.n .u8 0,.n .u8 0,.n .u8 0,.n .u8 0,.n .u8 0,.n .u8 0,.n .u8 0,.n .u8 0,.n .u8 0,.n .u8 0,.n .u8 0,.n .u8 0,.n .u8 0,.n .u8 0,.n .u8 0,.n .u8 0,.n .u8 0,.n .u8 0,.n .u8 0,.n .u8 0,.n .u8 0,.n .u8 0,.n .u8 0,.n .u8 0,.n .u8 0,.n .u8 0,.n .u8 0,.n .u8 0]⟩⟩),
 (372,⟨.array 64 5,some ⟨true,64,64,.agg [.n .u8 0,.n .u8 0,.n .u8 0,.n .u8 0,.n .u8 0,.n .u8 0,.n .u8 0,.n .u8 0,.n .u8 0,.n .u8 0,.n .u8 0,.n .u8 0,.n .u8 0,.n .u8 0,.n .u8 0,.n .u8 0,.n .u8 0,.n .u8 0,.n .u8 0,.n .u8 0,.n .u8 0,.n .u8 0,.n .u8 0,.n .u8 0,.n .u8 0,.n .u8 0,.n .u8 0,.n .u8 0,.n .u8 0,.n .u8 0,.n .u8 0,.n .u8 0,.n .u8 0,.n .u8 0,.n .u8 0,.n .u8 0,.n .u8 0,.n .u8 0,.n .u8 0,.n .u8 0,.n .u8 0,.n .u8 0,.n .u8 0,.n .u8 0,.n .u8 0,.n .u8 0,.n .u8 0,.n .u8 0,.n .u8 0,.n .u8 0,.n .u8 0,.n .u8 0,.n .u8 0,.n .u8 0,.n .u8 0,.n .u8 0,.n .u8 0,.n .u8 0,.n .u8 0,.n .u8 0,.n .u8 0,.n .u8 0,.n .u8 0,.n .u8 0]⟩⟩),
 (377,⟨.int .i64,some ⟨false,1,8,.n .i64 0⟩⟩),
 (378,⟨.other,none⟩),
 (383,⟨.int .u64,some ⟨false,1,8,.n .u64 0⟩⟩),
 (387,⟨.ptr,some ⟨false,1,8,.c (.pointer none)⟩⟩),
 (389,⟨.ptr,some ⟨false,1,8,.c (.pointer none)⟩⟩),
 (390,⟨.other,none⟩),
 (293,⟨.func,some ⟨false,1,8,.c .nilFunc⟩⟩),
 (339,⟨.other,none⟩)]
theorem hA:bK Tryz.prog tt:=⟨⟨trivial,fun i h=>by cases h⟩,⟨⟨_,_,_,Tryz.underlying1⟩,fun i h=>by cases h;rfl⟩,⟨Tryz.underlying2,fun i h=>by cases h;rfl⟩,⟨Tryz.underlying3,fun i h=>by cases h;rfl⟩,⟨Tryz.underlying4,fun i h=>by cases h;rfl⟩,⟨Tryz.underlying5,fun i h=>by cases h;rfl⟩,⟨Tryz.underlying6,fun i h=>by cases h;rfl⟩,⟨⟨_,Tryz.underlying7,rfl⟩,fun i h=>by cases h;rfl⟩,⟨⟨_,Tryz.underlying8,rfl⟩,fun i h=>by cases h;rfl⟩,⟨Tryz.underlying9,fun i h=>by cases h;rfl⟩,⟨Tryz.underlying10,fun i h=>by cases h;rfl⟩,⟨Tryz.underlying11,fun i h=>by cases h;rfl⟩,⟨Tryz.underlying12,fun i h=>by cases h;rfl⟩,⟨trivial,fun i h=>by cases h⟩,⟨Tryz.underlying21,fun i h=>by cases h;rfl⟩,⟨Tryz.underlying22,fun i h=>by cases h;rfl⟩,⟨Tryz.underlying23,fun i h=>by cases h;rfl⟩,⟨⟨_,Tryz.underlying25,rfl⟩,fun i h=>by cases h;rfl⟩,⟨Tryz.underlying26,fun i h=>by cases h;rfl⟩,⟨⟨_,Tryz.underlying28,rfl⟩,fun i h=>by cases h;rfl⟩,⟨⟨_,Tryz.underlying30,rfl⟩,fun i h=>by cases h;rfl⟩,⟨Tryz.underlying34,fun i h=>by cases h;rfl⟩,⟨Tryz.underlying35,fun i h=>by cases h;rfl⟩,⟨trivial,fun i h=>by cases h⟩,⟨Tryz.underlying38,fun i h=>by cases h;rfl⟩,⟨trivial,fun i h=>by cases h⟩,⟨Tryz.underlying42,fun i h=>by cases h;rfl⟩,⟨Tryz.underlying45,fun i h=>by cases h;rfl⟩,⟨Tryz.underlying46,fun i h=>by cases h;rfl⟩,⟨Tryz.underlying47,fun i h=>by cases h;rfl⟩,⟨⟨_,Tryz.underlying49,rfl⟩,fun i h=>by cases h;rfl⟩,⟨⟨_,Tryz.underlying52,rfl⟩,fun i h=>by cases h;rfl⟩,⟨⟨_,Tryz.underlying53,rfl⟩,fun i h=>by cases h;rfl⟩,⟨⟨_,Tryz.underlying59,rfl⟩,fun i h=>by cases h;rfl⟩,⟨trivial,fun i h=>by cases h⟩,⟨⟨_,Tryz.underlying67,rfl⟩,fun i h=>by cases h;rfl⟩,⟨trivial,fun i h=>by cases h⟩,⟨trivial,fun i h=>by cases h⟩,⟨⟨_,Tryz.underlying79,rfl⟩,fun i h=>by cases h;rfl⟩,⟨Tryz.underlying83,fun i h=>by cases h;rfl⟩,⟨trivial,fun i h=>by cases h⟩,⟨trivial,fun i h=>by cases h⟩,⟨trivial,fun i h=>by cases h⟩,⟨⟨_,Tryz.underlying93⟩,fun i h=>by cases h;rfl⟩,⟨trivial,fun i h=>by cases h⟩,⟨⟨_,Tryz.underlying97,rfl⟩,fun i h=>by cases h;rfl⟩,⟨trivial,fun i h=>by cases h⟩,⟨⟨_,_,_,Tryz.underlying105⟩,fun i h=>by cases h;rfl⟩,⟨trivial,fun i h=>by cases h⟩,⟨⟨_,_,_,Tryz.underlying114⟩,fun i h=>by cases h;rfl⟩,⟨Tryz.underlying115,fun i h=>by cases h;rfl⟩,⟨⟨_,Tryz.underlying117,rfl⟩,fun i h=>by cases h;rfl⟩,⟨⟨_,Tryz.underlying119,rfl⟩,fun i h=>by cases h;rfl⟩,⟨⟨_,Tryz.underlying129,rfl⟩,fun i h=>by cases h;rfl⟩,⟨trivial,fun i h=>by cases h⟩,⟨Tryz.underlying140,fun i h=>by cases h;rfl⟩,⟨Tryz.underlying141,fun i h=>by cases h;rfl⟩,⟨⟨_,Tryz.underlying143,rfl⟩,fun i h=>by cases h;rfl⟩,⟨trivial,fun i h=>by cases h⟩,⟨Tryz.underlying147,fun i h=>by cases h;rfl⟩,⟨Tryz.underlying149,fun i h=>by cases h;rfl⟩,⟨Tryz.underlying152,fun i h=>by cases h;rfl⟩,⟨⟨_,Tryz.underlying158⟩,fun i h=>by cases h;rfl⟩,⟨⟨_,_,_,Tryz.underlying160⟩,fun i h=>by cases h;rfl⟩,⟨⟨_,_,_,Tryz.underlying161⟩,fun i h=>by cases h;rfl⟩,⟨⟨_,Tryz.underlying164,rfl⟩,fun i h=>by cases h;rfl⟩,⟨⟨_,Tryz.underlying166⟩,fun i h=>by cases h;rfl⟩,⟨⟨_,Tryz.underlying168,rfl⟩,fun i h=>by cases h;rfl⟩,⟨⟨_,Tryz.underlying169⟩,fun i h=>by cases h;rfl⟩,⟨trivial,fun i h=>by cases h⟩,⟨⟨_,_,_,Tryz.underlying176⟩,fun i h=>by cases h;rfl⟩,⟨⟨_,Tryz.underlying178,rfl⟩,fun i h=>by cases h;rfl⟩,⟨⟨_,Tryz.underlying180,rfl⟩,fun i h=>by cases h;rfl⟩,⟨trivial,fun i h=>by cases h⟩,⟨Tryz.underlying189,fun i h=>by cases h;rfl⟩,⟨trivial,fun i h=>by cases h⟩,⟨Tryz.underlying192,fun i h=>by cases h;rfl⟩,⟨trivial,fun i h=>by cases h⟩,⟨trivial,fun i h=>by cases h⟩,⟨trivial,fun i h=>by cases h⟩,⟨trivial,fun i h=>by cases h⟩,⟨⟨_,_,_,Tryz.underlying215⟩,fun i h=>by cases h;rfl⟩,⟨Tryz.underlying221,fun i h=>by cases h;rfl⟩,⟨Tryz.underlying222,fun i h=>by cases h;rfl⟩,⟨⟨_,_,_,Tryz.underlying230⟩,fun i h=>by cases h;rfl⟩,⟨trivial,fun i h=>by cases h⟩,⟨⟨_,_,_,Tryz.underlying241⟩,fun i h=>by cases h;rfl⟩,⟨Tryz.underlying250,fun i h=>by cases h;rfl⟩,⟨trivial,fun i h=>by cases h⟩,⟨Tryz.underlying253,fun i h=>by cases h;rfl⟩,⟨trivial,fun i h=>by cases h⟩,⟨trivial,fun i h=>by cases h⟩,⟨trivial,fun i h=>by cases h⟩,⟨trivial,fun i h=>by cases h⟩,⟨trivial,fun i h=>by cases h⟩,⟨trivial,fun i h=>by cases h⟩,⟨⟨_,Tryz.underlying276⟩,fun i h=>by cases h;rfl⟩,⟨Tryz.underlying277,fun i h=>by cases h;rfl⟩,⟨⟨_,Tryz.underlying279,rfl⟩,fun i h=>by cases h;rfl⟩,⟨trivial,fun i h=>by cases h⟩,⟨⟨_,Tryz.underlying286,rfl⟩,fun i h=>by cases h;rfl⟩,⟨⟨_,Tryz.underlying295,rfl⟩,fun i h=>by cases h;rfl⟩,⟨trivial,fun i h=>by cases h⟩,⟨trivial,fun i h=>by cases h⟩,⟨Tryz.underlying299,fun i h=>by cases h;rfl⟩,⟨⟨_,_,_,Tryz.underlying300⟩,fun i h=>by cases h;rfl⟩,⟨⟨_,_,_,Tryz.underlying301⟩,fun i h=>by cases h;rfl⟩,⟨⟨_,_,_,Tryz.underlying303⟩,fun i h=>by cases h;rfl⟩,⟨⟨_,_,_,Tryz.underlying305⟩,fun i h=>by cases h;rfl⟩,⟨⟨_,_,_,Tryz.underlying306⟩,fun i h=>by cases h;rfl⟩,⟨⟨_,Tryz.underlying315⟩,fun i h=>by cases h;rfl⟩,⟨⟨_,Tryz.underlying317⟩,fun i h=>by cases h;rfl⟩,⟨⟨_,_,_,Tryz.underlying319⟩,fun i h=>by cases h;rfl⟩,⟨Tryz.underlying322,fun i h=>by cases h;rfl⟩,⟨trivial,fun i h=>by cases h⟩,⟨⟨_,Tryz.underlying325⟩,fun i h=>by cases h;rfl⟩,⟨Tryz.underlying329,fun i h=>by cases h;rfl⟩,⟨trivial,fun i h=>by cases h⟩,⟨trivial,fun i h=>by cases h⟩,⟨Tryz.underlying335,fun i h=>by cases h;rfl⟩,⟨Tryz.underlying336,fun i h=>by cases h;rfl⟩,⟨Tryz.underlying338,fun i h=>by cases h;rfl⟩,⟨⟨_,Tryz.underlying341,rfl⟩,fun i h=>by cases h;rfl⟩,⟨trivial,fun i h=>by cases h⟩,⟨⟨_,Tryz.underlying349,rfl⟩,fun i h=>by cases h;rfl⟩,⟨Tryz.underlying352,fun i h=>by cases h;rfl⟩,⟨Tryz.underlying353,fun i h=>by cases h;rfl⟩,⟨trivial,fun i h=>by cases h⟩,⟨⟨_,Tryz.underlying359,rfl⟩,fun i h=>by cases h;rfl⟩,⟨⟨_,Tryz.underlying363⟩,fun i h=>by cases h;rfl⟩,⟨⟨_,Tryz.underlying365,rfl⟩,fun i h=>by cases h;rfl⟩,⟨trivial,fun i h=>by cases h⟩,⟨⟨_,_,_,Tryz.underlying370⟩,fun i h=>by cases h;rfl⟩,⟨Tryz.underlying371,fun i h=>by cases h;rfl⟩,⟨Tryz.underlying372,fun i h=>by cases h;rfl⟩,⟨Tryz.underlying377,fun i h=>by cases h;rfl⟩,⟨trivial,fun i h=>by cases h⟩,⟨Tryz.underlying383,fun i h=>by cases h;rfl⟩,⟨⟨_,Tryz.underlying387⟩,fun i h=>by cases h;rfl⟩,⟨⟨_,Tryz.underlying389⟩,fun i h=>by cases h;rfl⟩,⟨trivial,fun i h=>by cases h⟩,⟨⟨_,_,_,Tryz.underlying293⟩,fun i h=>by cases h;rfl⟩,⟨trivial,fun i h=>by cases h⟩,trivial⟩
theorem hm:Tryz.prog.follows .mixedOrders=true:=by rfl
section
variable{R:Option Nat->Prop}{N:Nat}{F:St->Prop}{k:List It}{l:aP}
theorem r0{k':List It}{l':aP}(h:run tt [] N 100000 k l [] []=([],[],k',l'))(hk:AK R Tryz.prog N F k' l'):AK R Tryz.prog N F k l:=go hA hm [] h rfl trivial hk
theorem r1{ob:List Pd}{k':List It}{l':aP}(h:run tt [] N 100000 k l [] []=(ob,[],k',l'))(ho:ae ob)(hk:AK R Tryz.prog N F k' l'):AK R Tryz.prog N F k l:=go hA hm [] h rfl ho hk
theorem k0{qs:List Bool}{k':List It}{l':aP}(h:run tt [] N 100000 k l [] []=([],qs,k',l'))(hq:kv qs=true)(hk:AK R Tryz.prog N F k' l'):AK R Tryz.prog N F k l:=go hA hm [] h hq trivial hk
theorem k1{ob:List Pd}{qs:List Bool}{k':List It}{l':aP}(h:run tt [] N 100000 k l [] []=(ob,qs,k',l'))(hq:kv qs=true)(ho:ae ob)(hk:AK R Tryz.prog N F k' l'):AK R Tryz.prog N F k l:=go hA hm [] h hq ho hk
theorem kw(raw:List Nat){ob:List Pd}{qs:List Bool}{k':List It}{l':aP}(h:run tt raw N 100000 k l [] []=(ob,qs,k',l'))(hq:kv qs=true)(ho:ae ob)(hk:AK R Tryz.prog N F k' l'):AK R Tryz.prog N F k l:=go hA hm raw h hq ho hk
theorem W5{k':List It}{l':aP}(m:Nat){ob:List Pd}(h:run tt [] N m k l [] []=(ob,[],k',l'))(ho:ae ob)(hk:AK R Tryz.prog N F k' l'):AK R Tryz.prog N F k l:=(kQ hA hm h ho rfl).2.2 hk
theorem br{c:Operand}{t e:Code}{x:SR}{p:Prop}[Decidable p](hf:aE c=true)(h:da l c=some x)(hx:cz x=some ([],.u (decide p)))(h1:p->AK R Tryz.prog N F (.code t::k) l)(h2:¬p->AK R Tryz.prog N F (.code e::k) l):AK R Tryz.prog N F (.code (.cond c t e)::k) l:=S5 hf h hx trivial h1 h2
theorem o5{c:Operand}{t e:Code}{x:SR}{b:Bool}(hf:aE c=true)(h:da l c=some x)(hx:cz x=some ([],.u b))(h1:b=true->AK R Tryz.prog N F (.code t::k) l)(h2:b=false->AK R Tryz.prog N F (.code e::k) l):AK R Tryz.prog N F (.code (.cond c t e)::k) l:=branch hf h hx trivial h1 h2
theorem cl{all:Array Oper}{rest:List Oper}{dst:Option Nat}{f:Operand}{xs ts:Array _}{ty:TypeId}{pos:String}{cF:Array Edge}{g:Option (Nat×Bool)}{h:ub}{r:SV}{l':aP}{ks:List Nat}
 (hg:cK l all.toList g=some true)(hh:ri l f xs.toList=some ([],h))(hs:aO Tryz.prog h.g h.aas r)(ht:jV l dst r h.sh=some ([],l',ks))(hk:AK R Tryz.prog N F (.ops all rest::k) l'):
 AK R Tryz.prog N F (.ops all (⟨dst,.call ⟨.value f,xs,ts⟩,ty,pos,cF,g⟩::rest)::k) l:=call hg hh trivial hs ht trivial hk
theorem cd{all:Array Oper}{mm:List Nat}{acc:List (List Nat×List Nat)}{rest:List Oper}{dst:Option Nat}{f:Operand}{xs ts:Array _}{ty:TypeId}{pos:String}{cF:Array Edge}{g:Option (Nat×Bool)}{h:ub}{r:SV}{l':aP}{ks:List Nat}
 (hg:cK l all.toList g=some true)(hh:ri l f xs.toList=some ([],h))(hs:aO Tryz.prog h.g h.aas r)(ht:jV l dst r h.sh=some ([],l',ks))
 (hk:AK R Tryz.prog N F (.o4 all mm rest ((gW (dn l) all ⟨dst,.call ⟨.value f,xs,ts⟩,ty,pos,cF,g⟩,ks)::acc)::k) l'):
 AK R Tryz.prog N F (.o4 all mm (⟨dst,.call ⟨.value f,xs,ts⟩,ty,pos,cF,g⟩::rest) acc::k) l:=P3 hg hh trivial hs ht trivial hk
theorem Ej{all:Array Oper}{rest:List Oper}{dst:Option Nat}{f:Operand}{xs ts:Array _}{ty:TypeId}{pos:String}{cF:Array Edge}{g:Option (Nat×Bool)}{h:ub}{r:SV}{l':aP}{ks:List Nat}{us:List SV}{ob:List Pd}
 (hg:cK l all.toList g=some true)(hh:ri l f xs.toList=some (ob,h))(ho:ae ob)(hl:Bk h.aas us)(hs:aO Tryz.prog h.g us r)(ht:jV l dst r h.sh=some ([],l',ks))(hk:AK R Tryz.prog N F (.ops all rest::k) l'):
 AK R Tryz.prog N F (.ops all (⟨dst,.call ⟨.value f,xs,ts⟩,ty,pos,cF,g⟩::rest)::k) l:=call hg hh ho (hs.XI hl) ht trivial hk
theorem WH{all:Array Oper}{mm:List Nat}{acc:List (List Nat×List Nat)}{rest:List Oper}{dst:Option Nat}{f:Operand}{xs ts:Array _}{ty:TypeId}{pos:String}{cF:Array Edge}{g:Option (Nat×Bool)}{h:ub}{r:SV}{l':aP}{ks:List Nat}{us:List SV}{ob:List Pd}
 (hg:cK l all.toList g=some true)(hh:ri l f xs.toList=some (ob,h))(ho:ae ob)(hl:Bk h.aas us)(hs:aO Tryz.prog h.g us r)(ht:jV l dst r h.sh=some ([],l',ks))
 (hk:AK R Tryz.prog N F (.o4 all mm rest ((gW (dn l) all ⟨dst,.call ⟨.value f,xs,ts⟩,ty,pos,cF,g⟩,ks)::acc)::k) l'):
 AK R Tryz.prog N F (.o4 all mm (⟨dst,.call ⟨.value f,xs,ts⟩,ty,pos,cF,g⟩::rest) acc::k) l:=P3 hg hh ho (hs.XI hl) ht trivial hk
theorem rtS{rs:List ResultVar}{r:SV}{xs:List SV}(h:gQ tt l rs=some xs)(hr:au (x6 xs).bf r):AK R Tryz.prog N (Ti Tryz.prog rs r) [] l:=XV hA h hr
theorem aF{rs:List ResultVar}{r:SV}{xs:List SV}(h:gQ tt l rs=some xs)(hr:au (x6 xs) r):AK R Tryz.prog N (Ti Tryz.prog rs r) [] l:=ret hA h hr
theorem Tr{rs:List ResultVar}{r:SV}{H':List SV}{xs:List SV}(l':List (Nat×SV))(hf:AD l l')(h:gQ tt (sl l') rs=some xs)(hr:au (x6 xs) r)(hh:Ma (sl l') 1000000 H'):AK R Tryz.prog N (Qo Tryz.prog rs r H') [] l:=abe hA l' hf h hr hh
theorem cr{all:Array Oper}{rest:List Oper}{dst:Option Nat}{f:Operand}{xs ts:Array _}{ty:TypeId}{pos:String}{cF:Array Edge}{g:Option (Nat×Bool)}{h:jG}{out:List SV}{r:SV}{l':aP}{ks:List Nat}
 (hg:cK l all.toList g=some true)(hh:pK l f xs.toList=some ([],h))(hs:jH Tryz.prog h.g (jo h.R) h.aas out r)(ht:fL l dst h.R out r=some (l',ks))(hk:AK R Tryz.prog N F (.ops all rest::k) l'):
 AK R Tryz.prog N F (.ops all (⟨dst,.call ⟨.value f,xs,ts⟩,ty,pos,cF,g⟩::rest)::k) l:=MA hg hh trivial hs ht hk
theorem crd{all:Array Oper}{mm:List Nat}{acc:List (List Nat×List Nat)}{rest:List Oper}{dst:Option Nat}{f:Operand}{xs ts:Array _}{ty:TypeId}{pos:String}{cF:Array Edge}{g:Option (Nat×Bool)}{h:jG}{out:List SV}{r:SV}{l':aP}{ks:List Nat}
 (hg:cK l all.toList g=some true)(hh:pK l f xs.toList=some ([],h))(hs:jH Tryz.prog h.g (jo h.R) h.aas out r)(ht:fL l dst h.R out r=some (l',ks))
 (hk:AK R Tryz.prog N F (.o4 all mm rest ((gW (dn l) all ⟨dst,.call ⟨.value f,xs,ts⟩,ty,pos,cF,g⟩,ks)::acc)::k) l'):
 AK R Tryz.prog N F (.o4 all mm (⟨dst,.call ⟨.value f,xs,ts⟩,ty,pos,cF,g⟩::rest) acc::k) l:=I5 hg hh trivial hs ht hk
theorem wn{all:Array Oper}{rest:List Oper}{d:Nat}{t:TypeId}{x:Operand}{lo hi:Option Operand}{ty:TypeId}{pos:String}{cF:Array Edge}{g:Option (Nat×Bool)}{ob:List Pd}{l':aP}{ks:List Nat}
 (hg:cK l all.toList g=some true)(h:ve tt l d t x lo hi=some (ob,l',ks))(ho:ae ob)(hk:AK R Tryz.prog N F (.ops all rest::k) l'):
 AK R Tryz.prog N F (.ops all (⟨some d,.slice t x lo hi none,ty,pos,cF,g⟩::rest)::k) l:=aa4 hA hg h ho hk
theorem Z8{all:Array Oper}{mm:List Nat}{acc:List (List Nat×List Nat)}{rest:List Oper}{d:Nat}{t:TypeId}{x:Operand}{lo hi:Option Operand}{ty:TypeId}{pos:String}{cF:Array Edge}{g:Option (Nat×Bool)}{ob:List Pd}{l':aP}{ks:List Nat}
 (hg:cK l all.toList g=some true)(h:ve tt l d t x lo hi=some (ob,l',ks))(ho:ae ob)
 (hk:AK R Tryz.prog N F (.o4 all mm rest ((gW (dn l) all ⟨some d,.slice t x lo hi none,ty,pos,cF,g⟩,ks)::acc)::k) l'):
 AK R Tryz.prog N F (.o4 all mm (⟨some d,.slice t x lo hi none,ty,pos,cF,g⟩::rest) acc::k) l:=aa5 hA hg h ho hk
theorem mkf{all:Array Oper}{rest:List Oper}{d:Nat}{gf:FuncId}{first aW:Array Operand}{ty:TypeId}{pos:String}{cF:Array Edge}{g:Option (Nat×Bool)}{l':aP}{ks:List Nat}
 (hg:cK l all.toList g=some true)(h:Od l d gf first.toList aW.toList=some (l',ks))(hk:AK R Tryz.prog N F (.ops all rest::k) l'):
 AK R Tryz.prog N F (.ops all (⟨some d,.makeFunc (.func gf) first aW,ty,pos,cF,g⟩::rest)::k) l:=abl hg h hk
theorem cc{all:Array Oper}{rest:List Oper}{dst:Option Nat}{f:Operand}{xs ts:Array _}{ty:TypeId}{pos:String}{cF:Array Edge}{g:Option (Nat×Bool)}{h:jG}{out:List SV}{r:SV}{l':aP}{ks:List Nat}
 (hg:cK l all.toList g=some true)(hh:y9 l f xs.toList=some h)(hs:jH Tryz.prog h.g (jo h.R) h.aas out r)(ht:fL l dst h.R out r=some (l',ks))(hk:AK R Tryz.prog N F (.ops all rest::k) l'):
 AK R Tryz.prog N F (.ops all (⟨dst,.call ⟨.value f,xs,ts⟩,ty,pos,cF,g⟩::rest)::k) l:=adh hg hh hs ht hk
theorem Qx{all:Array Oper}{mm:List Nat}{acc:List (List Nat×List Nat)}{rest:List Oper}{d:Nat}{t:TypeId}{m x:Operand}{MQ:Bool}{ty:TypeId}{pos:String}{cF:Array Edge}{g:Option (Nat×Bool)}{h:(Obj->Prop)×SV}{l':aP}{ks:List Nat}(y:SV)
 (hg:cK l all.toList g=some true)(hh:Dr l m x=some h)(hy:y.az=true)(hs:Looks Tryz.prog t MQ h.1 h.2.den y.den)(ht:pF l [] d y (fun l'=>some (l',[d]))=some (l',ks))
 (hk:AK R Tryz.prog N F (.o4 all mm rest ((gW (dn l) all ⟨some d,.lookup t m x MQ,ty,pos,cF,g⟩,ks)::acc)::k) l'):
 AK R Tryz.prog N F (.o4 all mm (⟨some d,.lookup t m x MQ,ty,pos,cF,g⟩::rest) acc::k) l:=abm y hg hh hy hs ht hk
theorem yk{all:Array Oper}{rest:List Oper}{dst:Option Nat}{f:Operand}{xs ts:Array _}{ty:TypeId}{pos:String}{cF:Array Edge}{g:Option (Nat×Bool)}{ob:List Pd}{h:Hg}{J':o7}{b:Bool}{l':aP}{ks:List Nat}
 (hg:cK l all.toList g=some true)(hh:FY l f xs.toList=some (ob,h))(ho:ae ob)(hs:∀v,h.C v->Yields Tryz.prog h.J J' (an h.aas) b v)(ht:Br l dst J' b=some (l',ks))(hk:AK R Tryz.prog N F (.ops all rest::k) l'):
 AK R Tryz.prog N F (.ops all (⟨dst,.call ⟨.value f,xs,ts⟩,ty,pos,cF,g⟩::rest)::k) l:=Uv hg hh ho hs ht hk
theorem ex{all:Array Oper}{rest:List Oper}{o:Oper}{h:vO}{out:List SV}{r:SV}{l':aP}{ks:List Nat}
 (hg:cK l all.toList o.guard=some true)(bj:oZ (dn l) o.op=true)(hh:uY l o.op.operands.toList=some h)(hs:kO Tryz.prog o (jo h.R) h.aas out r)(ht:fL l o.dst h.R out r=some (l',ks))(hk:AK R Tryz.prog N F (.ops all rest::k) l'):
 AK R Tryz.prog N F (.ops all (o::rest)::k) l:=ac6 hg bj hh hs ht hk
theorem exd{all:Array Oper}{mm:List Nat}{acc:List (List Nat×List Nat)}{rest:List Oper}{o:Oper}{h:vO}{out:List SV}{r:SV}{l':aP}{ks:List Nat}
 (hg:cK l all.toList o.guard=some true)(bj:oZ (dn l) o.op=true)(hh:uY l o.op.operands.toList=some h)(hs:kO Tryz.prog o (jo h.R) h.aas out r)(ht:fL l o.dst h.R out r=some (l',ks))
 (hk:AK R Tryz.prog N F (.o4 all mm rest ((gW (dn l) all o,ks)::acc)::k) l'):
 AK R Tryz.prog N F (.o4 all mm (o::rest) acc::k) l:=ac7 hg bj hh hs ht hk
end
end Go.Ai
namespace Go.Ai
def B9:Nat:=1000000000
def aa(n:Nat):List Int:=if h:n=0 then[]else((n%B9:Nat):Int)::aa (n/B9)
 termination_by n
 decreasing_by exact Nat.div_lt_self (Nat.pos_of_ne_zero h) (by decide)
def val:List Int->Int
 |[]=>0
 |d::l=>d+1000000000*val l
def fD(l:List Int):Prop:=∀d∈l,0<=d/\d<1000000000
theorem b9:aa 0=[]:=by rw[aa];simp
theorem aX(n:Nat):val (aa n)=n:=by
 induction n using Nat.strongRecOn with
 |_ n ih=>
  rw[aa];split
  ·rename_i h;subst h;rfl
  rename_i h;have cB:n/B9<n:=Nat.div_lt_self (Nat.pos_of_ne_zero h) (by decide);simp only[val,ih _ cB];unfold B9;omega
theorem a8(n:Nat):fD (aa n):=by
 induction n using Nat.strongRecOn with
 |_ n ih=>
  rw[aa];split
  ·intro d hd;simp at hd
  rename_i h;have cB:n/B9<n:=Nat.div_lt_self (Nat.pos_of_ne_zero h) (by decide);intro d hd;rcases List.mem_cons.1 hd with rfl|hd
  ·unfold B9;omega
  exact ih _ cB d hd
theorem aT:∀{l:List Int},fD l->0<=val l
 |[],_=>by simp[val]
 |d::l,h=>by have h1:=h d (by simp);have h2:=aT (l:=l) fun x hx=>h x (by simp[hx]);simp only[val];omega
theorem dw(l:List Int)(d:Int):val (l++[d])=val l+d*1000000000^l.length:=by
 induction l with
 |nil=>simp[val]
 |cons x l ih=>simp only[List.cons_append,val,ih,List.length_cons,Int.pow_succ];rw[Int.mul_add];simp only[Int.add_assoc];congr 2;rw[<-Int.mul_assoc,Int.mul_comm 1000000000,Int.mul_assoc,Int.mul_comm 1000000000]
theorem fI:∀{l:List Int},fD l->val l<1000000000^l.length
 |[],_=>by simp[val]
 |d::l,h=>by have h1:=h d (by simp);have h2:=fI (l:=l) fun x hx=>h x (by simp[hx]);simp only[val,List.length_cons,Int.pow_succ];omega
theorem pW:∀{l:List Int},fD l->l.getLast?≠some 0->aa (val l).toNat=l
 |[],_,_=>by simp[val,b9]
 |d::l,h,hz=>by
  have h1:=h d (by simp);have hl:fD l:=fun x hx=>h x (by simp[hx]);have h2:=aT hl;have Vo:l.getLast?≠some 0:=by
   cases l with
   |nil=>simp
   |cons x l=>simpa using hz
  have ih:=pW hl Vo;have cR:(val (d::l)).toNat≠0:=by
   simp only[val];intro h0;have hd:d=0:=by omega
   have hv:val l=0:=by omega
   cases l with
   |nil=>subst hd;simp at hz
   |cons x l=>rw[hv]at ih;simp[b9]at ih
  rw[aa,dif_neg cR];have e1:(((val (d::l)).toNat%B9:Nat):Int)=d:=by simp only[val];unfold B9;omega
  have e2:(val (d::l)).toNat/B9=(val l).toNat:=by simp only[val];unfold B9;omega
  rw[e1,e2,ih]
theorem qD{l:List Int}{n:Nat}(h:fD l)(hz:l.getLast?≠some 0)(hv:val l=n):l=aa n:=by have:=pW h hz;rw[hv]at this;simpa using this.symm
theorem nF(n:Nat):(aa n).getLast?≠some 0:=by
 induction n using Nat.strongRecOn with
 |_ n ih=>
  rw[aa];split
  ·simp
  rename_i h;have cB:n/B9<n:=Nat.div_lt_self (Nat.pos_of_ne_zero h) (by decide);have:=ih _ cB;cases hl:aa (n/B9)with
  |nil=>simp only[List.getLast?_singleton];intro he;have hv:=aX (n/B9);rw[hl]at hv;simp only[val]at hv;simp only[Option.some.injEq]at he;unfold B9 at he hv;omega
  |cons x l=>rw[hl]at this;simpa using this
theorem aA(l:List Int)(i:Nat):val (l.take (i+1))=val (l.take i)+l.getD i 0*1000000000^i:=by
 by_cases h:i<l.length
 ·rw[List.take_succ_eq_append_getElem h,dw];simp[List.getD_eq_getElem?_getD,List.getElem?_eq_getElem h,Nat.min_eq_left (Nat.le_of_lt h)]
 rw[List.take_of_length_le (by omega),List.take_of_length_le (by omega)];simp[List.getD_eq_getElem?_getD,List.getElem?_eq_none (show l.length<=i by omega)]
theorem aU{l:List Int}(h:fD l)(i:Nat):0<=l.getD i 0/\l.getD i 0<1000000000:=by
 by_cases hi:i<l.length
 ·have:=h l[i] (List.getElem_mem hi);simpa[List.getD_eq_getElem?_getD,List.getElem?_eq_getElem hi]using this
 simp[List.getD_eq_getElem?_getD,List.getElem?_eq_none (show l.length<=i by omega)]
theorem gG{l:List Int}{d:Int}(h:fD l)(hd:0<=d/\d<1000000000):fD (l++[d]):=by
 intro x hx;rcases List.mem_append.1 hx with hx|hx
 ·exact h x hx
 simp at hx;subst hx;exact hd
theorem yO{l:List Int}(h:fD l)(hv:l=[]\/1000000000^(l.length-1)<=val l):l.getLast?≠some 0:=by
 rcases List.eq_nil_or_concat l with rfl|⟨l,d,rfl⟩
 ·simp
 rw[List.concat_eq_append]at*;rcases hv with hv|hv
 ·simp at hv
 simp only[List.getLast?_concat,ne_eq,Option.some.injEq];rintro rfl;rw[dw]at hv;have:=fI (l:=l) fun x hx=>h x (by simp[hx]);simp at hv;omega
theorem bV(n:Nat):(0:Int)<1000000000^n:=Int.pow_pos (by decide)
theorem ov{l:List Int}(h:fD l)(hl:l.getLast?≠some 0):l=[]\/1000000000^(l.length-1)<=val l:=by
 rcases List.eq_nil_or_concat l with rfl|⟨l,d,rfl⟩
 ·exact .inl rfl
 right;rw[List.concat_eq_append]at*;rw[dw];have h1:=aT (l:=l) fun x hx=>h x (by simp[hx]);have h2:=h d (by simp);simp only[List.getLast?_concat,ne_eq,Option.some.injEq]at hl;simp only[List.length_append,List.length_singleton,Nat.add_sub_cancel];have h3:=bV l.length;have:1*1000000000^l.length<=d*1000000000^l.length:=Int.mul_le_mul_of_nonneg_right (by omega) (by omega);omega
theorem eM(n:Nat):aa n=[]\/(1000000000:Int)^((aa n).length-1)<=n:=by have:=ov (a8 n) (nF n);rwa[aX]at this
def bY:List Int->List Int
 |[]=>[]
 |d::l=>match bY l with
  |[]=>if d=0 then[]else[d]
  |x::r=>d::x::r
theorem jT:∀l:List Int,bY (l++[0])=bY l
 |[]=>by simp[bY]
 |d::l=>by simp only[List.cons_append,bY,jT l]
theorem lp:∀{l:List Int},l.getLast?≠some 0->bY l=l
 |[],_=>rfl
 |[d],h=>by simp at h;simp[bY,h]
 |d::x::l,h=>by have:=lp (l:=x::l) (by simpa using h);rw[bY,this]
theorem rC{w:List Int}{n:Nat}(hn:n+1=w.length)(h:w.getD n 0=0):bY (w.take n)=bY w:=by
 have e:w=w.take n++[0]:=by
  have h1:n<w.length:=by omega
  have h2:w[n]=0:=by simpa[List.getD_eq_getElem?_getD,List.getElem?_eq_getElem h1]using h
  have h3:=List.take_succ_eq_append_getElem h1;rw[List.take_of_length_le (by omega),h2]at h3;exact h3
 conv=>rhs;rw[e,jT]
theorem mW:∀l:List Int,val (bY l)=val l
 |[]=>rfl
 |d::l=>by
  have ih:=mW l;simp only[bY];split
  ·rename_i h;rw[h]at ih;simp only[val]at ih⊢;split
   ·rename_i h0;subst h0;simp only[val];omega
   simp only[val];omega
  rename_i x r h;rw[h]at ih;simp only[val]at ih⊢;omega
theorem c7{l:List Int}(h:fD l):bY l=aa (val l).toNat:=by
 have h1:fD (bY l)/\(bY l).getLast?≠some 0:=by
  induction l with
  |nil=>exact⟨h,by simp[bY]⟩
  |cons d l ih=>
   obtain⟨i1,i2⟩:=ih fun x hx=>h x (by simp[hx]);have hd:=h d (by simp);simp only[bY];split
   ·split
    ·exact⟨fun x hx=>by simp at hx,by simp⟩
    rename_i h0;exact⟨fun x hx=>by simp at hx;subst hx;exact hd,by simpa using h0⟩
   rename_i x r he;rw[he]at i1 i2;exact⟨fun y hy=>by
    rcases List.mem_cons.1 hy with rfl|hy
    ·exact hd
    exact i1 y hy,by simpa using i2⟩
 rw[qD h1.1 h1.2 (n:=(val l).toNat) (by rw[mW];have:=aT h;omega)]
theorem sx:∀l:List Int,(bY l).length<=l.length
 |[]=>by simp[bY]
 |d::l=>by
  have:=sx l;simp only[bY];split
  ·split<;>simp
  rename_i x r h;rw[h]at this;simpa using this
theorem fh(l:List Int)(k:Nat):val l=val (l.take k)+1000000000^(l.take k).length*val (l.drop k):=by
 induction l generalizing k with
 |nil=>simp[val]
 |cons d l ih=>
  cases k with
  |zero=>simp[val]
  |succ k=>simp only[List.take_succ_cons,List.drop_succ_cons,val,List.length_cons,Int.pow_succ,ih k];grind
theorem eO{l:List Int}(h:fD l)(k:Nat):fD (l.take k):=fun x hx=>h x (List.mem_of_mem_take hx)
theorem l0{l:List Int}(h:fD l)(k:Nat):fD (l.drop k):=fun x hx=>h x (List.mem_of_mem_drop hx)
theorem bq(n:Nat):(n:Int)<1000000000^(aa n).length:=by have:=fI (a8 n);rwa[aX]at this
theorem dm{n:Nat}(h:n≠0):0<(aa n).length:=by rw[aa,dif_neg h];simp
theorem fN{a b:Nat}(h:a<=b):(1000000000:Int)^a<=1000000000^b:=by obtain⟨k,rfl⟩:=Nat.exists_eq_add_of_le h;rw[Int.pow_add];have h1:=bV a;have h2:=bV k;have:=Int.mul_le_mul_of_nonneg_left (show(1:Int)<=1000000000^k by omega) (Int.le_of_lt h1);omega
theorem bz{m n:Nat}(h:(aa m).length<(aa n).length):m<n:=by
 have h1:=bq m;rcases eM n with h2|h2
 ·rw[h2]at h;simp at h
 have h3:(1000000000:Int)^(aa m).length<=1000000000^((aa n).length-1):=fN (by omega);omega
def l9(m n:Nat):Int:=if m<n then -1 else if n<m then 1 else 0
theorem j6{m n k:Nat}(hk:k<(aa m).length)(hl:(aa m).length=(aa n).length)(hd:(aa m).drop (k+1)=(aa n).drop (k+1))(h:(aa m).getD k 0<(aa n).getD k 0):m<n:=by
 have e1:=fh (aa m) (k+1);have e2:=fh (aa n) (k+1);rw[aX,aA]at e1 e2;rw[hd]at e1;have l1:((aa m).take (k+1)).length=k+1:=by simp;omega
 have l2:((aa n).take (k+1)).length=k+1:=by simp;omega
 rw[l1]at e1;rw[l2]at e2;have b1:=fI (eO (a8 m) k);have b2:=aT (eO (a8 n) k);have l3:((aa m).take k).length=k:=by simp;omega
 rw[l3]at b1;have hp:=bV k;have:((aa m).getD k 0+1)*1000000000^k<=(aa n).getD k 0*1000000000^k:=Int.mul_le_mul_of_nonneg_right (by omega) (by omega);rw[Int.add_mul]at this;omega
theorem iX:∀{l:List Int}{j:Nat}(y:Int),j<l.length->val (l.set j y)=val l+(y-l.getD j 0)*1000000000^j
 |[],j,y,h=>by simp at h
 |d::l,0,y,_=>by simp[val];omega
 |d::l,j+1,y,h=>by have:=iX (l:=l) (j:=j) y (by simpa using h);simp only[List.set_cons_succ,val,this,List.getD_cons_succ,Int.pow_succ];grind
theorem du{l:List Int}(h:fD l){j:Nat}{y:Int}(hy:0<=y/\y<1000000000):fD (l.set j y):=by
 intro x hx;rcases List.mem_or_eq_of_mem_set hx with hx|hx
 ·exact h x hx
 subst hx;exact hy
theorem bA(l:List Int)(j k:Nat)(y:Int):(l.set j y).getD k 0=if j=k/\k<l.length then y else l.getD k 0:=by
 simp only[List.getD_eq_getElem?_getD,List.getElem?_set];by_cases h:j=k
 ·subst h;by_cases h2:j<l.length
  ·simp[h2]
  simp[h2,List.getElem?_eq_none (show l.length<=j by omega)]
 simp[h]
theorem gi(n:Nat):val (List.replicate n 0)=0:=by
 induction n with
 |zero=>rfl
 |succ n ih=>simp[List.replicate_succ,val,ih]
theorem dI(n:Nat):fD (List.replicate n 0):=fun x hx=>by rw[List.eq_of_mem_replicate hx];omega
theorem dQ(n k:Nat):(List.replicate n (0:Int)).getD k 0=0:=by simp only[List.getD_eq_getElem?_getD,List.getElem?_replicate];split<;>rfl
def b7:Nat->Int->Int->Int->Int->Int->Int
 |0,t,_,_,_,_=>t
 |k+1,t,r,v1,v2,u2=>if 1000000000<=t\/r*1000000000+u2<t*v2 then(if 1000000000<=r+v1 then t-1 else b7 k (t-1) (r+v1) v1 v2 u2)else t
theorem eC{a b c:Int}(h:a<=b)(hc:0<=c):a*c<=b*c:=Int.mul_le_mul_of_nonneg_right h hc
theorem pM{v1 v2 u2 top P vl ul U V:Int}(hP:0<P)(LZ:1<=v1)(Vw:0<=v2/\v2<1000000000)(Yq:0<=u2/\u2<1000000000)(Dk:0<=vl/\vl<P)(FO:0<=ul/\ul<P)
 (hV:V=v1*(1000000000*P)+v2*P+vl)(hU:U=top*(1000000000*P)+u2*P+ul)(hUV:U<1000000000*V):
 ∀(k:Nat)(t r:Int),k=t.toNat->0<=t->0<=r->t*v1+r=top->U<(t+1)*V->U<(b7 k t r v1 v2 u2+1)*V/\(b7 k t r v1 v2 u2-1)*V<=U/\0<=b7 k t r v1 v2 u2/\b7 k t r v1 v2 u2<=t:=by
 have hvP:v2*P+vl<1000000000*P:=by have:=eC (show v2+1<=1000000000 by omega) (Int.le_of_lt hP);rw[Int.add_mul]at this;omega
 have abA:0<=v2*P:=Int.mul_nonneg Vw.1 (by omega);have Eh:0<V:=by have:=eC LZ (show 0<=1000000000*P by omega);omega
 have OL:top<1000000000*v1+1000000000:=by
  have h1:top*(1000000000*P)<(1000000000*v1+1000000000)*(1000000000*P):=by
   have h2:0<=u2*P:=Int.mul_nonneg Yq.1 (by omega);have h3:(1000000000*v1+1000000000)*(1000000000*P)=1000000000*(v1*(1000000000*P))+1000000000*(1000000000*P):=by grind
   omega
  exact Int.lt_of_mul_lt_mul_right h1 (by omega)
 have Iy:∀t r:Int,0<=t->t<1000000000->t*v1+r=top->t*v2<=r*1000000000+u2->(t-1)*V<=U:=by
  intro t r h0 h1 h2 h3;have e1:t*V=t*v1*(1000000000*P)+t*v2*P+t*vl:=by rw[hV];grind
  have e2:t*v1*(1000000000*P)=top*(1000000000*P)-r*1000000000*P:=by rw[<-h2];grind
  have e3:=eC h3 (Int.le_of_lt hP);rw[Int.add_mul]at e3;have e4:t*vl<=1000000000*P:=by have a:=Int.mul_le_mul_of_nonneg_left (Int.le_of_lt Dk.2) h0;have b:=eC (Int.le_of_lt h1) (Int.le_of_lt hP);omega
  have e5:=eC LZ (show 0<=1000000000*P by omega);rw[Int.sub_mul,Int.one_mul,e1,e2,hU];omega
 have less:∀t r:Int,0<=t->t*v1+r=top->(1000000000<=t\/r*1000000000+u2<t*v2)->U<t*V:=by
  intro t r h0 h2 h3;rcases h3 with h3|h3
  ·have:=eC h3 (Int.le_of_lt Eh);omega
  have e1:t*V=t*v1*(1000000000*P)+t*v2*P+t*vl:=by rw[hV];grind
  have e2:t*v1*(1000000000*P)=top*(1000000000*P)-r*1000000000*P:=by rw[<-h2];grind
  have e3:=eC (show r*1000000000+u2+1<=t*v2 by omega) (Int.le_of_lt hP);rw[Int.add_mul,Int.add_mul]at e3;have e4:0<=t*vl:=Int.mul_nonneg h0 Dk.1;rw[e1,e2,hU];omega
 intro k
 induction k with
 |zero=>
  intro t r hk h0 hr h2 hq;have:t=0:=by omega
  subst this;simp only[b7];refine⟨hq,?_,by omega,by omega⟩;exact Iy 0 r (by omega) (by omega) h2 (by omega)
 |succ k ih=>
  intro t r hk h0 hr h2 hq;simp only[b7];by_cases hc:1000000000<=t\/r*1000000000+u2<t*v2
  ·rw[if_pos hc];have hl:=less t r h0 h2 hc;have MY:(t-1)*v1+(r+v1)=top:=by rw[Int.sub_mul];omega
   by_cases xA:1000000000<=r+v1
   ·rw[if_pos xA];have e:t-1+1=t:=by omega
    rw[e];refine⟨hl,?_,by omega,by omega⟩;have hs:t-1<1000000000:=by
     have:(t-1)*v1<1000000000*v1:=by omega
     exact Int.lt_of_mul_lt_mul_right this (by omega)
    refine Iy (t-1) (r+v1) (by omega) hs MY ?_;have a:(t-1)*v2<=(t-1)*1000000000:=Int.mul_le_mul_of_nonneg_left (by omega) (by omega);omega
   rw[if_neg xA];have e:t-1+1=t:=by omega
   obtain⟨a,b,c,d⟩:=ih (t-1) (r+v1) (by omega) (by omega) (by omega) MY (by rw[e];exact hl);exact⟨a,b,c,by omega⟩
  rw[if_neg hc];refine⟨hq,?_,h0,by omega⟩;have h4:t<1000000000:=by omega
  exact Iy t r h0 h4 h2 (by omega)
theorem Mo{w:List Int}{j k:Nat}{y:Int}(h:j<=k):(w.set k y).drop j=(w.drop j).set (k-j) y:=by rw[List.drop_set,if_neg (by omega)]
theorem dt{w:List Int}{j k:Nat}{y:Int}(h:j<=k):(w.set k y).take j=w.take j:=by rw[List.take_set_of_le h]
theorem Ca(w:List Int)(j k:Nat):(w.drop j).getD k 0=w.getD (j+k) 0:=by simp[List.getD_eq_getElem?_getD]
theorem kB{w:List Int}{j k:Nat}{y:Int}(h:j<=k)(hk:k<w.length):val ((w.set k y).drop j)=val (w.drop j)+(y-w.getD k 0)*1000000000^(k-j):=by rw[Mo h,iX _ (by simp;omega),Ca,show j+(k-j)=k by omega]
theorem nP{w:List Int}{j n:Nat}(h:j+n<w.length):val (w.drop j)=val ((w.drop j).take n)+w.getD (j+n) 0*1000000000^n+1000000000^(n+1)*val (w.drop (j+n+1)):=by
 have e:=fh (w.drop j) (n+1);rw[aA,Ca]at e;have l:((w.drop j).take (n+1)).length=n+1:=by simp;omega
 rw[l,List.drop_drop,show j+(n+1)=j+n+1 by omega]at e;exact e
theorem nQ{w:List Int}{j n:Nat}(h:j+n<=w.length)(hd:∀k,j<=k->k<j+n->0<=w.getD k 0/\w.getD k 0<1000000000):0<=val ((w.drop j).take n)/\val ((w.drop j).take n)<1000000000^n:=by
 have hD:fD ((w.drop j).take n):=by
  intro d B4;obtain⟨k,hk,rfl⟩:=List.getElem_of_mem B4;have qO:k<n/\j+k<w.length:=by simp at hk;omega
  have:=hd (j+k) (by omega) (by omega);simpa[List.getD_eq_getElem?_getD,List.getElem?_eq_getElem qO.2]using this
 have l:((w.drop j).take n).length=n:=by simp;omega
 refine⟨aT hD,?_⟩;have:=fI hD;rwa[l]at this
theorem eR{w:List Int}{j:Nat}(h:j<w.length):val (w.drop j)=w.getD j 0+1000000000*val (w.drop (j+1)):=by rw[List.drop_eq_getElem_cons h];simp[val,List.getD_eq_getElem?_getD,List.getElem?_eq_getElem h]
theorem GH{w:List Int}(h:∀k,k<w.length->0<=w.getD k 0/\w.getD k 0<1000000000):fD w:=by intro d hd;obtain⟨k,hk,rfl⟩:=List.getElem_of_mem hd;simpa[List.getD_eq_getElem?_getD,List.getElem?_eq_getElem hk]using h k hk
theorem vV{w u:List Int}(hl:w.length=u.length){p:Nat}(h:∀k,p<=k->w.getD k 0=u.getD k 0):w.drop p=u.drop p:=by
 apply List.ext_getElem
 ·simp[hl]
 intro i h1 h2;have Ei:p+i<w.length:=by simp at h1;omega
 have MY:p+i<u.length:=by omega
 have:=h (p+i) (by omega);simpa[List.getD_eq_getElem?_getD,List.getElem?_eq_getElem Ei,List.getElem?_eq_getElem MY]using this
theorem kd{f:Nat}(h0:0<f)(h1:f<1000000000):aa f=[(f:Int)]:=by
 refine(qD (fun d hd=>?_) ?_ ?_).symm
 ·simp at hd;omega
 ·simp;omega
 simp[val]
theorem N5{b F:Int}(hb:1<=b/\b<1000000000)(hF:F=1000000000/(b+1)):1<=F/\F<=500000000/\(b+1)*F<=1000000000/\500000000<=b*F:=by
 have e:=Int.mul_ediv_add_emod 1000000000 (b+1);have e1:=Int.emod_nonneg 1000000000 (show b+1≠0 by omega);have e2:=Int.emod_lt_of_pos 1000000000 (show 0<b+1 by omega);rw[<-hF]at e;generalize (1000000000:Int)%(b+1)=r at*;have Xx:1<=F:=by
  rcases Int.lt_or_le F 1 with h|h
  ·have:(b+1)*F<=0:=by
    have:=Int.mul_le_mul_of_nonneg_left (show F<=0 by omega) (show 0<=b+1 by omega);omega
   omega
  exact h
 have p:(b+1)*F=b*F+F:=by rw[Int.add_mul];omega
 have p1:b<=b*F:=by have:=Int.mul_le_mul_of_nonneg_left Xx (show 0<=b by omega);omega
 have p2:F<=b*F:=by have:=eC hb.1 (show 0<=F by omega);omega
 have p3:2<=b->2*F<=b*F:=fun h=>eC h (by omega);have p4:2<=F->2*b<=b*F:=fun h=>by have:=Int.mul_le_mul_of_nonneg_left h (show 0<=b by omega);omega
 refine⟨Xx,by omega,by omega,?_⟩;by_cases h1:500000000<=b
 ·omega
 have Ua:2<=F:=by
  rcases Int.lt_or_le F 2 with h|h
  ·have:F=1:=by omega
   subst this;omega
  exact h
 have:=p4 Ua;by_cases h2:250000000<=b
 ·omega
 by_cases h3:2<=b
 ·have:=p3 h3;omega
 have:b=1:=by omega
 subst this;omega
theorem LA{n Fn:Nat}(hn:2<=(aa n).length)(hF:(Fn:Int)=1000000000/((aa n).getD ((aa n).length-1) 0+1)):
 1<=Fn/\Fn<=500000000/\(aa (n*Fn)).length=(aa n).length/\500000000<=(aa (n*Fn)).getD ((aa n).length-1) 0:=by
 have yZ:=nF n;have hb:=aU (a8 n) ((aa n).length-1);have cR:(aa n).getD ((aa n).length-1) 0≠0:=by
  intro h;apply yZ;rw[List.getLast?_eq_getElem?];have cB:(aa n).length-1<(aa n).length:=by omega
  rw[List.getElem?_eq_getElem cB];simpa[List.getD_eq_getElem?_getD,List.getElem?_eq_getElem cB]using h
 have ev:=nP (w:=aa n) (j:=0) (n:=(aa n).length-1) (by omega);have ZL:=nQ (w:=aa n) (j:=0) (n:=(aa n).length-1) (by omega) (fun k _ _=>aU (a8 n) k);simp only[List.drop_zero,Nat.zero_add]at ev ZL;rw[aX,List.drop_of_length_le (show(aa n).length<=(aa n).length-1+1 by omega)]at ev;generalize hbt:(aa n).getD ((aa n).length-1) 0=b at*;obtain⟨f1,f2,f3,f4⟩:=N5 ⟨by omega,hb.2⟩ hF;generalize val ((aa n).take ((aa n).length-1))=lo at*;simp only[val]at ev;have hp:=bV ((aa n).length-1);generalize hP:(1000000000:Int)^((aa n).length-1)=P at*;have hN:((n*Fn:Nat):Int)=lo*Fn+(b*Fn)*P:=by rw[Int.natCast_mul,ev];grind
 have kh:lo*Fn<=P*Fn:=eC (by omega) (by omega);have cB:((n*Fn:Nat):Int)<1000000000*P:=by
  have h1:(lo+1)*Fn<=P*Fn:=eC (by omega) (by omega);have h2:(b+1)*Fn*P<=1000000000*P:=eC f3 (by omega);have h3:(b+1)*Fn*P=P*Fn+b*Fn*P:=by grind
  rw[Int.add_mul]at h1;omega
 have QF:(b*Fn)*P<=((n*Fn:Nat):Int):=by have:0<=lo*(Fn:Int):=Int.mul_nonneg ZL.1 (by omega);omega
 have hlen:(aa (n*Fn)).length=(aa n).length:=by
  have g1:=bq (n*Fn);have g2:=eM (n*Fn);have hP1:P<=((n*Fn:Nat):Int):=by have:=eC (show 1<=b*(Fn:Int) by omega) (show 0<=P by omega);omega
  rcases Nat.lt_or_ge (aa (n*Fn)).length (aa n).length with h|h
  ·have:=fN (show(aa (n*Fn)).length<=(aa n).length-1 by omega);rw[hP]at this;omega
  rcases g2 with g2|g2
  ·rw[g2]at h;simp only[List.length_nil]at h;omega
  rcases Nat.lt_or_ge (aa n).length (aa (n*Fn)).length with h'|h'
  ·have:=fN (show(aa n).length<=(aa (n*Fn)).length-1 by omega);have e2:(1000000000:Int)^(aa n).length=1000000000*P:=by
    rw[<-hP,show(aa n).length=(aa n).length-1+1 by omega,Int.pow_succ];simp;omega
   omega
  omega
 refine⟨by omega,by omega,hlen,?_⟩;have XB:=nP (w:=aa (n*Fn)) (j:=0) (n:=(aa n).length-1) (by omega);have Uh:=nQ (w:=aa (n*Fn)) (j:=0) (n:=(aa n).length-1) (by omega) (fun k _ _=>aU (a8 _) k);simp only[List.drop_zero,Nat.zero_add]at XB Uh;rw[aX,List.drop_of_length_le (show(aa (n*Fn)).length<=(aa n).length-1+1 by omega),hP]at XB;rw[hP]at Uh;simp only[val]at XB;generalize (aa (n*Fn)).getD ((aa n).length-1) 0=y at*;have:b*(Fn:Int)<y+1:=by
  have h5:(b*(Fn:Int))*P<(y+1)*P:=by rw[Int.add_mul];omega
  exact Int.lt_of_mul_lt_mul_right h5 (by omega)
 omega
def MZ(d:Nat):UInt8:=UInt8.ofNat (48+d)
def decl(n k:Nat):bw:=if h:n=0/\k=0 then[]else decl (n/10) (k-1)++[MZ (n%10)]
 termination_by n+k
 decreasing_by
  rcases Nat.eq_zero_or_pos n with h0|h0
  ·subst h0;omega
  have:=Nat.div_lt_self h0 (show 1<10 by decide);omega
theorem bR:decl 0 0=[]:=by rw[decl];simp
theorem bc{n k:Nat}(h:¬(n=0/\k=0)):decl n k=decl (n/10) (k-1)++[MZ (n%10)]:=by rw[decl];simp only[h,dite_false]
theorem sf{q:Nat}(hq:0<q):∀(j r k:Nat),r<10^j->decl (q*10^j+r) k=decl q (k-j)++decl r j
 |0,r,k,h=>by
  have:r=0:=by simpa using h
  subst this;simp[bR]
 |j+1,r,k,h=>by
  have hp:0<10^j:=Nat.pos_of_ne_zero (by simp);have h1:¬(q*10^(j+1)+r=0/\k=0):=by have:0<q*10^(j+1):=Nat.mul_pos hq (Nat.pos_of_ne_zero (by simp));omega
  rw[bc h1,bc (n:=r) (k:=j+1) (by omega)];have e1:(q*10^(j+1)+r)/10=q*10^j+r/10:=by rw[Nat.pow_succ,<-Nat.mul_assoc];omega
  have e2:(q*10^(j+1)+r)%10=r%10:=by rw[Nat.pow_succ,<-Nat.mul_assoc];omega
  rw[e1,e2,sf hq j (r/10) (k-1) (by rw[Nat.pow_succ]at h;omega),List.append_assoc]
  congr 2
  omega
theorem dp:∀(n k j:Nat),n<10^j->k<=j->(decl n k).length<=j:=by
 intro n k j
 induction j generalizing n k with
 |zero=>intro h1 h2;have:n=0/\k=0:=by omega
        rw[this.1,this.2,bR];simp
 |succ j ih=>
  intro h1 h2;by_cases h:n=0/\k=0
  ·rw[h.1,h.2,bR];simp
  rw[bc h];have:=ih (n/10) (k-1) (by rw[Nat.pow_succ]at h1;omega) (by omega);simp;omega
def bL(s:bw):Nat:=s.foldl (fun n c=>10*n+(c.toNat-48)) 0
def cp(s:bw):Prop:=∀c∈s,48<=c.toNat/\c.toNat<=57
theorem qu(s:bw)(c:UInt8):bL (s++[c])=10*bL s+(c.toNat-48):=by simp[bL]
theorem n7:∀(t:bw)(a:Nat),t.foldl (fun n c=>10*n+(c.toNat-48)) a=a*10^t.length+bL t
 |[],a=>by simp[bL]
 |c::t,a=>by have h1:=n7 t (10*a+(c.toNat-48));have h2:=n7 t (10*0+(c.toNat-48));simp only[List.foldl_cons,bL,List.length_cons,Nat.pow_succ]at h1 h2⊢;rw[h1,h2];grind
theorem pA(s t:bw):bL (s++t)=bL s*10^t.length+bL t:=by
 conv=>lhs;rw[bL,List.foldl_append]
 exact n7 t (bL s)
theorem Ly(c:UInt8)(t:bw):bL (c::t)=(c.toNat-48)*10^t.length+bL t:=by
 have:=n7 t (c.toNat-48)
 conv=>lhs;rw[bL,List.foldl_cons]
 simpa using this
theorem jK:∀{s:bw},cp s->bL s<10^s.length
 |[],_=>by simp[bL]
 |c::t,h=>by have h1:=jK (s:=t) fun x hx=>h x (by simp[hx]);have h2:=h c (by simp);rw[Ly,List.length_cons,Nat.pow_succ];have h3:(c.toNat-48)*10^t.length<=9*10^t.length:=Nat.mul_le_mul_right _ (by omega);omega
theorem vz{d:Nat}(h:d<10):(MZ d).toNat=48+d:=by unfold MZ;rw[UInt8.toNat_ofNat'];omega
theorem bN:∀n k,cp (decl n k):=by
 intro n k
 induction hm:n+k using Nat.strongRecOn generalizing n k with
 |_ m ih=>
  by_cases h:n=0/\k=0
  ·rw[h.1,h.2,bR];intro c hc;simp at hc
  rw[bc h];have cB:n/10+(k-1)<m:=by
   rcases Nat.eq_zero_or_pos n with h0|h0
   ·subst h0;omega
   have:=Nat.div_lt_self h0 (show 1<10 by decide);omega
  intro c hc;rcases List.mem_append.1 hc with hc|hc
  ·exact ih _ cB (n/10) (k-1) rfl c hc
  simp at hc;subst hc;rw[vz (Nat.mod_lt _ (by decide))];have:=Nat.mod_lt n (show 0<10 by decide);omega
theorem iM:∀n k,bL (decl n k)=n:=by
 intro n k
 induction hm:n+k using Nat.strongRecOn generalizing n k with
 |_ m ih=>
  by_cases h:n=0/\k=0
  ·rw[h.1,h.2,bR];rfl
  rw[bc h];have cB:n/10+(k-1)<m:=by
   rcases Nat.eq_zero_or_pos n with h0|h0
   ·subst h0;omega
   have:=Nat.div_lt_self h0 (show 1<10 by decide);omega
  rw[qu,ih _ cB (n/10) (k-1) rfl,vz (Nat.mod_lt _ (by decide))];omega
def bM(z:Int):bw:=if z<0 then 45::decl z.natAbs 1 else decl z.natAbs 1
def aj:bw->Nat
 |[]=>0
 |c::t=>if c=47 then 0 else aj t+1
theorem kP:∀s:bw,aj s<=s.length
 |[]=>by simp[aj]
 |c::t=>by have:=kP t;simp only[aj];split<;>simp;omega
theorem qV:∀{s:bw}{i:Nat},i<aj s->s.getD i 0≠47
 |[],i,h=>by simp[aj]at h
 |c::t,i,h=>by
  simp only[aj]at h;split at h
  ·omega
  rename_i hc;cases i with
  |zero=>simpa using hc
  |succ i=>simpa using qV (s:=t) (i:=i) (by omega)
theorem ux:∀{s:bw},aj s<s.length->s.getD (aj s) 0=47
 |[],h=>by simp at h
 |c::t,h=>by
  simp only[aj]at h⊢;split at h
  ·rename_i hc;rw[if_pos hc];simpa using hc
  rename_i hc;rw[if_neg hc];have:=ux (s:=t) (by simpa using h);simpa using this
theorem SJ(n:Nat){k:Nat}(h:0<k):decl n k≠[]:=by rw[bc (by omega)];simp
end Go.Ai
section
namespace Go.Proofs
open Go.Shelf
def Tryz.aad:Go.Shelf.Ren:=⟨fun|171=>201|243=>241|246=>270|283=>271|284=>272|285=>273|286=>274|129=>195|317=>288|318=>289|319=>290|320=>291|337=>297|338=>298|n=>n,fun|3=>3|9=>9|2=>2|4=>4|171=>329|0=>0|53=>253|37=>277|5=>5|173=>331|212=>352|51=>250|20=>20|213=>353|46=>192|232=>371|233=>372|n=>n,fun|17=>5|18=>6|19=>7|n=>n⟩
theorem Tryz.aaj:Go.Proofs.LaysM.n171 Tryz.prog Tryz.aad where
 mixed:=by kernel_rfl
 f129:=Tryz.func195.trans (congrArg some (by kernel_rfl))
 f171:=Tryz.func201.trans (congrArg some (by kernel_rfl))
 f243:=Tryz.func241.trans (congrArg some (by kernel_rfl))
 f246:=Tryz.func270.trans (congrArg some (by kernel_rfl))
 f283:=Tryz.func271.trans (congrArg some (by kernel_rfl))
 f284:=Tryz.func272.trans (congrArg some (by kernel_rfl))
 f285:=Tryz.func273.trans (congrArg some (by kernel_rfl))
 f286:=Tryz.func274.trans (congrArg some (by kernel_rfl))
 f317:=Tryz.func288.trans (congrArg some (by kernel_rfl))
 f318:=Tryz.func289.trans (congrArg some (by kernel_rfl))
 f319:=Tryz.func290.trans (congrArg some (by kernel_rfl))
 f320:=Tryz.func291.trans (congrArg some (by kernel_rfl))
 f337:=Tryz.func297.trans (congrArg some (by kernel_rfl))
 f338:=Tryz.func298.trans (congrArg some (by kernel_rfl))
 t0:=Tryz.underlying0
 a0:=Tryz.isAgg0
 z0:=Tryz.sizeOf0
 v0:=Tryz.zeroValue0
 t2:=Tryz.underlying2
 a2:=Tryz.isAgg2
 z2:=Tryz.sizeOf2
 v2:=Tryz.zeroValue2
 t3:=Tryz.underlying3
 a3:=Tryz.isAgg3
 z3:=Tryz.sizeOf3
 v3:=Tryz.zeroValue3
 t4:=Tryz.underlying4
 a4:=Tryz.isAgg4
 z4:=Tryz.sizeOf4
 v4:=Tryz.zeroValue4
 t5:=Tryz.underlying5
 a5:=Tryz.isAgg5
 z5:=Tryz.sizeOf5
 v5:=Tryz.zeroValue5
 t9:=Tryz.underlying9
 a9:=Tryz.isAgg9
 z9:=Tryz.sizeOf9
 v9:=Tryz.zeroValue9
 t20:=Tryz.underlying20
 a20:=Tryz.isAgg20
 z20:=Tryz.sizeOf20
 v20:=Tryz.zeroValue20
 t37:=Tryz.underlying277
 a37:=Tryz.isAgg277
 z37:=Tryz.sizeOf277
 v37:=Tryz.zeroValue277
 t46:=Tryz.underlying192
 a46:=Tryz.isAgg192
 z46:=Tryz.sizeOf192
 v46:=Tryz.zeroValue192
 t51:=Tryz.underlying250
 a51:=Tryz.isAgg250
 z51:=Tryz.sizeOf250
 v51:=Tryz.zeroValue250
 t53:=Tryz.underlying253
 a53:=Tryz.isAgg253
 z53:=Tryz.sizeOf253
 v53:=Tryz.zeroValue253
 t171:=Tryz.underlying329
 a171:=Tryz.isAgg329
 z171:=Tryz.sizeOf329
 v171:=Tryz.zeroValue329
 t173:=Tryz.underlying331
 a173:=Tryz.isAgg331
 z173:=Tryz.sizeOf331
 v173:=Tryz.zeroValue331
 t212:=Tryz.underlying352
 a212:=Tryz.isAgg352
 z212:=Tryz.sizeOf352
 v212:=Tryz.zeroValue352
 t213:=Tryz.underlying353
 a213:=Tryz.isAgg353
 z213:=Tryz.sizeOf353
 t232:=Tryz.underlying371
 a232:=Tryz.isAgg371
 z232:=Tryz.sizeOf371
 v232:=Tryz.zeroValue371
 t233:=Tryz.underlying372
 a233:=Tryz.isAgg372
 z233:=Tryz.sizeOf372
 v233:=Tryz.zeroValue372
 g17:=by kernel_rfl
 g18:=by kernel_rfl
 g19:=by kernel_rfl
 i0:=by kernel_rfl
 i2:=by kernel_rfl
 i3:=by kernel_rfl
 i4:=by kernel_rfl
 i5:=by kernel_rfl
 i9:=by kernel_rfl
 i20:=by kernel_rfl
 i37:=by kernel_rfl
 i46:=by kernel_rfl
 i51:=by kernel_rfl
 i53:=by kernel_rfl
 i171:=by kernel_rfl
 i173:=by kernel_rfl
 i212:=by kernel_rfl
 i232:=by kernel_rfl
 i233:=by kernel_rfl
 m17:=by kernel_rfl
 m18:=by kernel_rfl
 m19:=by kernel_rfl
end Go.Proofs
namespace Go.Ai
open Go.Proofs
set_option maxRecDepth 100000
theorem An(w:World)(k:Nat)(os:Array Obj):Go.RowKit.Below w.heap.size w (Sort.grow (w.drewN k) os):=⟨rfl,rfl,rfl,by simp[Sort.grow,World.drewN],fun i hi=>by simp[Sort.grow,World.drewN,Array.getElem?_append,hi]⟩
theorem RP(n:Int)(h0: -9223372036854775808<=n)(h1:n<=9223372036854775807):aO Tryz.prog 201 [.i n] (.s (Lib.itoa n)):=by intro w S vs hG hS hc;simp only[an,Cells]at hc;obtain⟨y,l',F1,F2,rfl,hF,_,hr,rfl,rfl⟩:=hc;simp only[SV.den,Rel]at hr;obtain⟨_,rfl,rfl⟩:=hr;refine qg.nj (fn:=Tryz.f201) Tryz.func201 rfl rfl ?_;refine(Any.strconv_Itoa Tryz.aaj n h0 h1 w hG).mono ?_;rintro e w'⟨rfl,k,os,rfl⟩;have hb:=An w k os;exact⟨_,rfl,S,[],hb,fun _ h=>h,fun _ h=>.inl h,fun b dr=>Nat.lt_of_lt_of_le (hS b dr) hb.size,by simp[SV.den,Rel,scalar,bs],List.nodup_nil,by simp⟩
theorem decDigits_eq(u:Nat):Lib.decDigits u=decl u 1:=by
 induction u using Nat.strongRecOn with
 |ind u ih=>
  rw[Lib.decDigits,bc (by omega)];by_cases h:u<10
  ·rw[dif_pos h,show u/10=0 by omega,show 1-1=0 by rfl,bR,show u%10=u by omega];rfl
  rw[dif_neg h,ih (u/10) (by omega)];have:decl (u/10) 1=decl (u/10) (1-1):=by rw[bc (n:=u/10) (k:=1) (by omega),bc (n:=u/10) (k:=1-1) (by omega)]
  rw[this];rfl
theorem RQ(z:Int):Lib.itoa z=bM z:=by
 unfold Lib.itoa bM;split
 ·rw[decDigits_eq]
 rw[decDigits_eq];congr 1;omega
theorem Oz(n:Int)(h0: -9223372036854775808<=n)(h1:n<=9223372036854775807):aO Tryz.prog 201 [.i n] (.s (bM n)):=by rw[<-RQ];exact RP n h0 h1
end Go.Ai
end
