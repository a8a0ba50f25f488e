/- Parts of the proof of ScaleSetups (as AIM.md's row tells), at every input, with no further conditions. -/
import Derived.Test.YtpoaaoihkhdijaaGreatDoorSZAO
import Derived.Deep.Slices
import Derived.ChangeArms
import Derived.ChangeStays
import Derived.ChangeBook
set_option linter.all false
set_option maxRecDepth 100000
set_option maxHeartbeats 0
namespace Go.Ai
open Go.Proofs Go.RowKit
section
variable{P:Program}
section
variable{α:Type}{t:TypeId}{G:α->Prop}{E:α->SV}
def gH(P:Program)(t:TypeId)(E:α->SV)(G:α->Prop):Prop:=
 ∀{H:Type}{enc:TypeId×Value->H}{w:World}{fuel:Nat}{cs:List Value}{x:DataW H×List MemPlace},DataW.trod enc P w 0 (λ_=>true) true fuel t cs=some x->
  ∃(a:α)(v:Value),G a/\cs=[v]/\v.oneCell'=true/\∀S:Nat->Prop,(∀b,b<w.heap.size->S b)->Rel w S (E a).den v []
def SG(P:Program)(t:TypeId)(sz:Nat)(E:α->SV)(G:α->Prop):Prop:=
 ∀{H:Type}{enc:TypeId×Value->H}{w:World}{fuel:Nat}{cs:List Value}{x:DataW H×List MemPlace},DataW.trod enc P w 0 (λ_=>true) true fuel t cs=some x->
  ∃(a:α)(v:Value),G a/\cs=v.cells.toList/\v.cells.size=sz/\∀S:Nat->Prop,(∀b,b<w.heap.size->S b)->Rel w S (E a).den v []
def gH.wide(h:gH P t E G):SG P t 1 E G:=λc=>by obtain⟨a,v,f,e,b,d⟩:=h c;exact⟨a,v,f,by rw[cD b];exact e,by rw[cD b];rfl,d⟩
def gH.map{b:Type}{d:b->SV}{c:b->Prop}(f:α->b)(he:∀a,(d<|f a).den=(E a).den)(g:∀a,G a->c (f a))(h:gH P t E G):gH P t d c:=λe=>by
 obtain⟨a,v,l,k,j,i⟩:=h e
 grind
def Ol(b:P.underlying t=some (.int .i64)):gH P t (λn:Int=>.i n) λ_=>True:=λa=>by obtain⟨n,rfl,-,-⟩:=DataW.trod_int b a;exact⟨n,_,U,W,W,λS c=>by simp[SV.den,Rel,scalar]⟩
def El(b:P.underlying t=some .string):gH P t (λs:ck=>.s s) λs=>s.length<=9223372036854775807:=λa=>by obtain⟨s,rfl,-,hs⟩:=DataW.trod_string b a;refine⟨s.data.toList,_,?_,W,W,λS c=>by simp[SV.den,Rel,scalar,Fg]⟩;show s.data.toList.length<=_;rw[ad2];exact hs
def RQ{w:World}{S:Nat->Prop}{sz:Nat}{cs:Array Value}:∀(X:List AV)(off:Nat),off+X.length*sz<=cs.size->(∀i(hi:i<X.length),∃v:Value,v.cells.size=sz/\(∀j,j<sz->cs[off+i*sz+j]?=v.cells[j]?)/\Rel w S X[i] v [])->
 c7 w S sz X ((cs.toList.drop off).take<|X.length*sz) []
 |[],off,_,_=>by simp[c7]
 |x::X,off,a,h=>by
  rw[ab2,ado]at a;obtain⟨v,d,f,c⟩:=h 0 (by simp);have b:=RQ (w:=w) (S:=S) (sz:=sz) (cs:=cs) X (off+sz) (by omega) λi hi=>by
   obtain⟨v,k1,k2,k3⟩:=h (i+1) (by simpa using hi)
   grind
  refine⟨v,_,[],[],?_,W,d,c,b⟩;have e:(x::X).length*sz=sz+X.length*sz:=by grind
  rw[e,List.take_add,aeB]
  congr 1
  apply afH
  grind
def mo{e:TypeId}{sz:Nat}(d:α)(L:P.underlying t=some (.slice e))(hc:P.cellsOf e=sz)(s:0<sz)(h:SG P e sz E G):
 gH P t (λl:List α=>.bA false sz d E l) λl=>l.length<=9223372036854775807/\∀a∈l,G a:=λ{H enc w fuel cs x}K=>by
 rcases Deep.open_slice L K with⟨rfl,-⟩|⟨a,len,R,m,n,D,Pl,rfl,-,hl,hm,y,-,k⟩
 ·exact⟨[],_,⟨by simp,by simp⟩,W,W,λS A=>by simp[SV.den,Rel,fl]⟩
 subst y;by_cases O:m=0
 ·subst O;have:len=0:=by omega
  subst this;exact⟨[],_,⟨by simp,by simp⟩,W,W,λS A=>by simp[SV.den,Rel,fl]⟩
 rw[hc]at k;have cell:∀i,i<m->∀j,j<sz->∃u,w.cell? ((a.add<|i*sz).add j)=some u:=λi hi j M=>by obtain⟨B,k1,-⟩:=k i hi;obtain⟨-,k2,k3⟩:=World.cells?_some k1;simp_all
 obtain⟨T,g⟩:=cell 0 (by omega) 0 s;have Q:(a.add<|0*sz).add 0=a:=by simp[Addr.add]
 rw[Q]at g;obtain⟨b,c,o⟩:=a;have q:∃(row:Array Value)(J:TypeId)(r:Nat×Nat),w.heap[b]?=some (.cells row J r)/\o=none:=by
  unfold World.cell? at g;split at g
  ·simp_all
  cases g
 obtain⟨row,J,r,hh,rfl⟩:=q;have C:row? w b=some (row,r):=zf hh;have N:b<w.heap.size:=by grind
 have z:∀i,i<m->∀j,j<sz->w.cell? (((⟨b,c,none⟩:Addr).add<|i*sz).add j)=row[c+i*sz+j]?:=λi hi j M=>by
  rw[Deep.add_add,cj W,pS W C]
  grind
 have F:c+m*sz<=row.size:=by
  obtain⟨u,hu⟩:=cell (m-1) (by omega) (sz-1) (by omega);rw[z (m-1) (by omega) (sz-1)<|by omega]at hu;have Y:=(aeq.1 hu).1;have e1:m*sz=(m-1)*sz+sz:=by
   have:m=(m-1)+1:=by omega
   grind
  omega
 haveI:Inhabited α:=⟨d⟩
 obtain⟨f,V⟩:=Deep.choose_lt (α:=α) (n:=len) (p:=λi a=>G a/\∃v:Value,v.cells.size=sz/\(∀j,j<sz->row[c+i*sz+j]?=v.cells[j]?)/\∀S:Nat->Prop,(∀b,b<w.heap.size->S b)->Rel w S (E a).den v []) λi hi=>by
  obtain⟨B,k1,k2⟩:=k i (by omega);obtain⟨-,k3,k4⟩:=World.cells?_some k1;obtain⟨a,v,g1,rfl,g3,Z⟩:=h k2
  grind
 refine⟨(List.range len).map f,_,⟨by simp[ac7,afG];simp[maxLen]at hm;omega,λa X=>?_⟩,W,W,λS A=>?_⟩
 ·grind
 simp only[SV.den,fl,Rel];refine .inr ⟨b,c,m,row,r,by simp,A b N,C,by simpa using hl,?_,U⟩;refine RQ _ c ?_ λi hi=>?_
 ·simp[ac7,afG];have:len*sz<=m*sz:=adb _ hl;omega
 grind
def qU(P:Program)(t:TypeId)(sz:Nat)(E:α->SV)(G:α->Prop):Prop:=
 ∀{H:Type}{enc:TypeId×Value->H}{w:World}{fuel:Nat}{cs:List Value}{x:DataW H×List MemPlace},DataW.trod enc P w 0 (λ_=>true) true fuel t cs=some x->
  ∃a:α,G a/\cs.length=sz/\∀S:Nat->Prop,(∀b,b<w.heap.size->S b)->Rel w S (E a).den (.agg cs.toArray) []
def qU.wide{sz:Nat}(h:qU P t sz E G):SG P t sz E G:=λ{H enc w fuel cs x}b=>by obtain⟨a,e,d,c⟩:=h b;exact⟨a,.agg cs.toArray,e,by simp[Value.cells],by simpa[Value.cells]using d,c⟩
end
section
variable{H:Type}{enc:TypeId×Value->H}{w:World}{fuel:Nat}{cs:List Value}{x:DataW H×List MemPlace}{t:TypeId}{fs:Array Field}
def jf(g:P.underlying t=some (.struct fs))(e:DataW.trod enc P w 0 (λ_=>true) true fuel t cs=some x){i:Nat}{f:Field}(j:fs[i]?=some f)(hc:P.cellsOf f.type=1){α:Type}{E:α->SV}{G:α->Prop}(h:gH P f.type E G):
 ∃(a:α)(v:Value),G a/\cs[f.offset]?=some v/\v.oneCell'=true/\∀S:Nat->Prop,(∀b,b<w.heap.size->S b)->Rel w S (E a).den v []:=by
 obtain⟨d,n,-,-,-,hl,hh⟩:=DataW.trod_struct g e;have hi:i<d.length:=by grind
 have c:=hh i f j;rw[acE hi,hc]at c;obtain⟨a,v,p,o,m,k⟩:=h c;refine⟨a,v,p,?_,m,k⟩;have:=congrArg (λl:List Value=>l[0]?) o;simpa using this
def W8(g:P.underlying t=some (.struct fs))(e:DataW.trod enc P w 0 (λ_=>true) true fuel t cs=some x){i:Nat}{f:Field}(j:fs[i]?=some f){sz:Nat}(hc:P.cellsOf f.type=sz){α:Type}{E:α->SV}{G:α->Prop}(h:qU P f.type sz E G):
 ∃a:α,G a/\((cs.drop f.offset).take sz).length=sz/\∀S:Nat->Prop,(∀b,b<w.heap.size->S b)->Rel w S (E a).den (.agg ((cs.drop f.offset).take sz).toArray) []:=by
 obtain⟨d,n,-,-,-,hl,hh⟩:=DataW.trod_struct g e;have hi:i<d.length:=by grind
 have c:=hh i f j;rw[acE hi,hc]at c;exact h c
def lB(b:P.underlying t=some (.struct fs))(a:DataW.trod enc P w 0 (λ_=>true) true fuel t cs=some x):cs.length=P.cellsOf t:=by obtain⟨c,n,-,-,h,-⟩:=DataW.trod_struct b a;exact h
end
def dM{w:World}{S:Nat->Prop}{one:Bool}{x:AV}{v:Value}{xs:List AV}{a:List Value}(d:v.oneCell'=true)(c:Rel w S x v [])(b:Cells w S one xs a []):Cells w S one (x::xs) (v::a) []:=by simp only[Cells];grind
def sO{w:World}{S:Nat->Prop}{one:Bool}:Cells w S one [] [] []:=by simp[Cells]
def s6{w:World}{S:Nat->Prop}{xs:List AV}{a:List Value}(h:Cells w S true xs a []):Rel w S (.agg xs) (.agg a.toArray) []:=by simp[Rel];simp_all
def zm{H:Type}{enc:TypeId×Value->H}{a f:World}{t:TypeId}(hl:laidOutB P=true)(g:P.readableRec t=true)(j:t<P.types.size)(k:Below a.heap.size a f){n:Nat}{cs:List Value}{x:DataW H×List MemPlace}
 (h:DataW.trod enc P a 0 (λ_=>true) true n t cs=some x):DataW.trod enc P f 0 (λb=>decide (b<a.heap.size)) true n t cs=some x:=
 have c:=DataW.trod_lt n t cs x h
 DataW.trod_stays (kids_book hl g) (book_sized g) (λh=>by cases h) ⟨j,book_self t⟩ h
  (λp d=>by
    have e:=k.block p.block<|c p d;cases p with
    |cell b i=>simp[World.sameAt,World.cell?];rw[show f.heap[b]?=a.heap[b]?from e]
    |map b=>exact e)
  λp d=>by simpa using c p d
end
section
variable{α:Type}{l:List α}{a b c d:α}
def No:Tryz.prog.cellsOf 70=2:=aW
def Np:Tryz.prog.cellsOf 50=5:=aW
def UU:Tryz.prog.cellsOf 25=3:=aW
def JN:Tryz.prog.cellsOf 64=2:=aW
def JO:Tryz.prog.cellsOf 28=4:=aW
def UT:Tryz.prog.cellsOf 30=5:=aW
def c3:Tryz.prog.cellsOf 3=1:=aW
def c9:Tryz.prog.cellsOf 9=1:=aW
def YN:Tryz.prog.cellsOf 47=1:=aW
def c45:Tryz.prog.cellsOf 46=1:=aW
def c47:Tryz.prog.cellsOf 48=1:=aW
def c22:Tryz.prog.cellsOf 22=1:=aW
def c23:Tryz.prog.cellsOf 23=1:=aW
def c26:Tryz.prog.cellsOf 26=1:=aW
abbrev Ag{α:Type}(l:List α):Prop:=l.length<=9223372036854775807
def Vw(h:l.length=2)(f:l[0]?=some a)(e:l[1]?=some b):l=[a,b]:=by
 match l,h with
 |[x,y],_=>simp at f e;rw[f,e]
def Yo(h:l.length=3)(g:l[0]?=some a)(f:l[1]?=some b)(e:l[2]?=some c):l=[a,b,c]:=by
 match l,h with
 |[x,y,z],_=>simp at g f e;rw[g,f,e]
def Yn(h:l.length=4)(i:l[0]?=some a)(g:l[1]?=some b)(f:l[2]?=some c)(e:l[3]?=some d):l=[a,b,c,d]:=by
 match l,h with
 |[x,y,z,u],_=>simp at i g f e;rw[i,g,f,e]
def Ym{e:α}(h:l.length=5)(k:l[0]?=some a)(j:l[1]?=some b)(i:l[2]?=some c)(g:l[3]?=some d)(f:l[4]?=some e):l=[a,b,c,d,e]:=by
 match l,h with
 |[x,y,z,u,v],_=>simp at k j i g f;rw[k,j,i,g,f]
def o3:gH Tryz.prog 3 (λn:Int=>.i n) λ_=>True:=Ol Tryz.underlying3
def Yd:gH Tryz.prog 47 (λs:ck=>.s s) Ag:=El Tryz.underlying47
def o9:gH Tryz.prog 9 (λs:ck=>.s s) Ag:=El Tryz.underlying9
def o79:qU Tryz.prog 70 2 oX λf=>Ag f.dZ:=λ{H m w h r x}e=>by obtain⟨a,q,-,o,k,r0⟩:=jf Tryz.underlying70 e (i:=0) W c3 o3;obtain⟨b,p,g1,n,j,r1⟩:=jf Tryz.underlying70 e (i:=1) W YN Yd;have hl:=(lB Tryz.underlying70 e).trans No;obtain rfl:=Vw hl o n;exact⟨⟨a,b⟩,g1,hl,λS g=>s6<|dM k (r0 S g)<|dM j (r1 S g) sO⟩
def o67:qU Tryz.prog 64 2 dX λs=>Ag s.lo/\Ag s.hi:=λ{H m w g r x}e=>by obtain⟨a,q,k,o,j,r0⟩:=jf Tryz.underlying64 e (i:=0) W YN Yd;obtain⟨b,p,g1,n,h,r1⟩:=jf Tryz.underlying64 e (i:=1) W YN Yd;have hl:=(lB Tryz.underlying64 e).trans JN;obtain rfl:=Vw hl o n;exact⟨⟨a,b⟩,⟨k,g1⟩,hl,λS f=>s6<|dM j (r0 S f)<|dM h (r1 S f) sO⟩
def o28:qU Tryz.prog 28 4 dz λ_=>True:=λ{H p w g A x}e=>by obtain⟨a,z,-,t,o,r0⟩:=jf Tryz.underlying28 e (i:=0) W c3 o3;obtain⟨b,y,-,s,n,r1⟩:=jf Tryz.underlying28 e (i:=1) W c3 o3;obtain⟨c,v,-,r,m,j⟩:=jf Tryz.underlying28 e (i:=2) W c3 o3;obtain⟨d,u,-,q,k,h⟩:=jf Tryz.underlying28 e (i:=3) W c3 o3;have hl:=(lB Tryz.underlying28 e).trans JO;obtain rfl:=Yn hl t s r q;exact⟨⟨a,b,c,d⟩,U,hl,λS f=>s6<|dM o (r0 S f)<|dM n (r1 S f)<|dM m (j S f)<|dM k (h S f) sO⟩
def o45:gH Tryz.prog 46 (λl=>.bA false 2 default oX l) λl=>Ag l/\∀f∈l,Ag f.dZ:=mo default Tryz.underlying46 No fh o79.wide
def o47:gH Tryz.prog 48 (λl=>.strs false l) λl=>Ag l/\∀c∈l,Ag c:=gH.map id (λ_=>rfl) (λ_ h=>h)<|mo [] Tryz.underlying48 YN fh<|gH.wide Yd
def o23:gH Tryz.prog 23 (λl=>.ints .i64 false l) λl=>Ag l:=gH.map id (λ_=>rfl) (λ_ h=>h.1)<|mo 0 Tryz.underlying23 c3 fh<|gH.wide o3
def o26:gH Tryz.prog 26 (λl=>.bA false 2 default dX l) λl=>Ag l/\∀s∈l,Ag s.lo/\Ag s.hi:=mo default Tryz.underlying26 JN fh o67.wide
structure Z9(u:bT):Prop where
 kind:Ag u.kind
 ah:Ag u.ah
 dI:Ag u.dI
 k:Ag u.k
 dZ:∀f∈u.ah,Ag f.dZ
 Kj:∀c∈u.dI,Ag c
def o49:qU Tryz.prog 50 5 dQ Z9:=λ{H v w j M x}f=>by obtain⟨a,L,u,C,s,r0⟩:=jf Tryz.underlying50 f (i:=0) W c9 o9;obtain⟨b,K,g1,B,r,r1⟩:=jf Tryz.underlying50 f (i:=1) W c45 o45;obtain⟨c,J,-,A,q,n⟩:=jf Tryz.underlying50 f (i:=2) W c3 o3;obtain⟨d,F,t,z,p,m⟩:=jf Tryz.underlying50 f (i:=3) W YN Yd;obtain⟨e,D,h,y,o,k⟩:=jf Tryz.underlying50 f (i:=4) W c47 o47;have hl:=(lB Tryz.underlying50 f).trans Np;obtain rfl:=Ym hl C B A z y;exact⟨⟨a,b,c,d,e⟩,⟨u,g1.1,h.1,t,g1.2,h.2⟩,hl,λS g=>s6<|dM s (r0 S g)<|dM r (r1 S g)<|dM q (n S g)<|dM p (m S g)<|dM o (k S g) sO⟩
def o22:gH Tryz.prog 22 (λl=>.bA false 5 default dQ l) λl=>Ag l/\∀u∈l,Z9 u:=mo default Tryz.underlying22 Np fh o49.wide
def o25:qU Tryz.prog 25 3 bh Zb:=λ{H n w g v x}e=>by
 obtain⟨a,t,-,q,m,r0⟩:=jf Tryz.underlying25 e (i:=0) W c3 o3;obtain⟨b,s,g1,p,k,r1⟩:=jf Tryz.underlying25 e (i:=1) W c22 o22;obtain⟨c,r,g2,o,j,h⟩:=jf Tryz.underlying25 e (i:=2) W c23 o23;have hl:=(lB Tryz.underlying25 e).trans UU;obtain rfl:=Yo hl q p o;exact⟨⟨a,b,c⟩,⟨g1.1,g2,λu hu=>(g1.2 u hu).kind,λu hu=>(g1.2 u hu).ah,λu hu=>(g1.2 u hu).dI,λu hu=>(g1.2 u hu).k,λu hu=>(g1.2 u hu).dZ,λu hu=>(g1.2 u hu).Kj⟩,hl,
  λS f=>s6<|dM m (r0 S f)<|dM k (r1 S f)<|dM j (h S f) sO⟩
def o30:qU Tryz.prog 30 5 (λa:List fD×fE=>Jq a.1 a.2) λa=>Ag a.1/\∀s∈a.1,Ag s.lo/\Ag s.hi:=λ{H r w k v x}h=>by
 obtain⟨l,n,q,t,o,r0⟩:=jf Tryz.underlying30 h (i:=0) W c26 o26;obtain⟨b,-,C,r1⟩:=W8 Tryz.underlying30 h (i:=1) W JO o28;have hl:=(lB Tryz.underlying30 h).trans UT;refine⟨(l,b),q,hl,λS j=>?_⟩
 match v,hl with
 |[m,B,A,z,y],_=>
  have e:m=n:=by simpa using t
  subst e;have p:=r1 S j;obtain⟨u,g,f⟩:=p;simp at g;subst g;exact s6<|dM o (r0 S j) f
end
end Go.Ai
namespace Go.Ai.Pg
open Go Go.Proofs Go.Ai Go.Ai.eE Go.RowKit
def c34:Tryz.prog.cellsOf 31=1:=aW
def abf:Tryz.prog.cellsOf 23=1:=aW
def aa6:Tryz.prog.cellsOf 33=2:=aW
def o34:gH Tryz.prog 31 (λl:List (List Int)=>.bA false 1 [] (SV.ints .i64 false) l) λl=>Ag l/\∀x∈l,Ag x:=mo [] Tryz.underlying31 abf fh<|gH.wide o23
def o59:qU Tryz.prog 33 2 (λa:List Int×List (List Int)=>tS false a.1 a.2) λa=>Ag a.1/\Ag a.2/\∀x∈a.2,Ag x:=λ{H j w e o x}c=>by obtain⟨a,n,h,l,g,r0⟩:=jf Tryz.underlying33 c (i:=0) W abf o23;obtain⟨b,m,g1,k,f,r1⟩:=jf Tryz.underlying33 c (i:=1) W c34 o34;have hl:=(lB Tryz.underlying33 c).trans aa6;obtain rfl:=Vw hl l k;exact⟨(a,b),⟨h,g1⟩,hl,λS d=>s6<|dM g (r0 S d)<|dM f (r1 S d) sO⟩
end Go.Ai.Pg
