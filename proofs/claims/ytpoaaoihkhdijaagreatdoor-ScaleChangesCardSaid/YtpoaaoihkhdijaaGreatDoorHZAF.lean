/- Parts of the proof of ScaleChanges (as AIM.md's row tells), at every input, with no further conditions. -/
import Derived.Test.YtpoaaoihkhdijaaGreatDoorHZAE
set_option linter.all false
set_option maxRecDepth 100000
set_option maxHeartbeats 0
namespace Go.Ai
open Go.RowKit
section
variable{P:Program}{tt:TT}(hA:cH P tt)(l:aU)(d:Nat)
def acf(l:aU)(d:Nat)(u:Ty)(a:List Pd)(v:SV):og:=(ss v).bind λ(_,n)=>match u with
 |.slice _=>da a l d (.n .i64 n)
 |_=>none
def VJ(tt:TT)(l:aU)(d:Nat)(t:TypeId)(x:SR):og:=
 (c6 x).bind λ(a,v)=>(DY tt t).bind λu=>match v with
   |.s s=>match u with
    |.str=>da a l d (.n .i64 s.length)
    |_=>none
   |v=>acf l d u a v
def Jl(hA:cH P tt)(l:aU)(d:Nat)(t:TypeId)(b:List TypeId)(x:SR):de l (kz P d .len (t::b) [x.den]) (VJ tt l d t x):=by
 refine ak _ λ⟨g,v⟩a=>ak _ λu h=>?_;have gen:∀v,c6 x=some (g,v)->de l (kz P d .len (t::b) [x.den]) (acf l d u g v):=by
  intro v a;refine ak _ λ⟨sz,n⟩i=>?_;cases u<;>try exact bt
  rename_i e;refine cG λc=>?_;obtain⟨f,X,k,j⟩:=lQ i;have hc:=aF a c;rw[k]at hc;have hu:P.underlying t=some (.slice e):=mf hA h;simp[kz,hc,hu,j,SV.den]
 cases v with
 |s s=>
  cases u<;>try exact bt
  refine cG λc=>?_;have hc:=aF a c;have hu:P.underlying t=some .string:=mf hA h;simp[kz,hc,hu,w9,SV.den]
 |_=>exact gen _ a
def abP(op:Bool)(a b:Int):Int:=match op with
 |true=>min a b
 |false=>max a b
def RK(op:Bool)(l:aU)(d:Nat)(x y:SR):og:=
 (c6 x).bind λ(e,a)=>(c6 y).bind λ(c,b)=>match a,b with
   |.n k a,.n f b=>(TL<|su k f).bind λ_=>da (app e c) l d (.n k<|abP op a b)
   |_,_=>none
def zN(op:Bool)(e:List TypeId)(x y:SR):de l (kz P d (if op then .min else .max) e [x.den,y.den]) (RK op l d x y):=by
 refine ak _ λ⟨o,a⟩i=>ak _ λ⟨f,b⟩h=>?_;cases a<;>try exact bt
 cases b<;>try exact bt
 refine bk λg=>cG λc=>?_;have:=np g;subst this;obtain⟨n,m⟩:=aS.1 c;have k:=aF i n;have j:=aF h m;cases op
 all_goals simp[kz,k,j,SV.den,abP]
def Lt(ti:xk):SV->Option (List Pd×Bool)
 |.ints .. =>(TL<|eX (not' ti.agg)<|Nat.beq ti.size 1).bind λ_=>some ([],true)
 |.strs .. =>(TL<|eX (not' ti.agg)<|Nat.beq ti.size 1).bind λ_=>some ([],true)
 |.cz .. =>(TL<|eX (not' ti.agg)<|Nat.beq ti.size 1).bind λ_=>some ([],true)
 |.row _ sz xs=>(TL<|eX (Nat.beq sz ti.size)<|xs.all<|my ti).bind λ_=>some ([],gE xs)
 |.bA _ sz _ e _=>(TL<|Nat.beq sz ti.size).bind λ_=>some ([.of<|∀x,my ti (e x)=true,.of<|∀x,(e x).aG=true],true)
 |_=>none
def lN:SV->Bool
 |.ints _ o _=>o
 |.strs o _=>o
 |.cz o _=>o
 |.row o _ _=>o
 |.bA o _ _ _ _=>o
 |_=>false
def te{xs:List AV}(h:∀x∈xs,x.aG=true):bU xs=true:=by
 induction xs with
 |nil=>rfl
 |cons x xs a=>simp[bU];simp_all
def Ls{ti:xk}{y:SV}{g:List Pd}{i:Bool}(h:Lt ti y=some (g,i))(hc:bo g):
 ∃X,y.den=.list (fl<|lN y) ti.size X/\X.all (fits ti.den)=true/\bU X=i:=by
 unfold Lt at h;cases y<;>simp only[ads,bE,aO,not_iff,beq_iff]at h<;>try(cases h;done)
 case row o sz f=>obtain⟨_,⟨rfl,c⟩,rfl,rfl⟩:=h;refine⟨aB f,W,?_,dV f⟩;rw[aeI]at c⊢;intro x a;rw[cn]at a;obtain⟨y,b,rfl⟩:=aeN.1 a;exact je ti y<|c y b
 case bA o sz n p e f=>
  obtain⟨_,rfl,rfl,rfl⟩:=h;obtain⟨m,k,-⟩:=hc;refine⟨_,W,?_,te ?_⟩
  ·rw[aeI];intro x a;obtain⟨y,b,rfl⟩:=aeN.1 a;exact je ti _<|m y
  intro x a;obtain⟨y,b,rfl⟩:=aeN.1 a;rw[cO];exact k y
 all_goals
  obtain⟨_,⟨j,c⟩,rfl,rfl⟩:=h;refine⟨_,by rw[c];rfl,?_,te ?_⟩
  ·rw[aeI];intro x a;obtain⟨y,b,rfl⟩:=aeN.1 a;simp[fits,xk.den,j,c,AV.cell]
  intro x a;obtain⟨y,b,rfl⟩:=aeN.1 a;rfl
def UW:SV->SV->Option (List Pd×SV)
 |.nil,.ints k _ ys=>some ([ys≠[]],.ints k true ys)
 |.nil,.strs _ ys=>some ([ys≠[]],.strs true ys)
 |.nil,.cz _ ys=>some ([ys≠[]],.cz true ys)
 |.nil,.bA _ sz d e ys=>some ([ys≠[]],.bA true sz d e ys)
 |.nil,.row _ sz (y::ys)=>some ([],.row true sz<|y::ys)
 |.ints k true xs,.ints b _ ys=>(TL<|su k b).bind λ_=>some ([],.ints k true<|xs++ys)
 |.strs true xs,.strs _ ys=>some ([],.strs true<|xs++ys)
 |.cz true xs,.cz _ ys=>some ([],.cz true<|xs++ys)
 |.row true sz xs,.row _ _ ys=>some ([],.row true sz<|cat xs ys)
 |.row true sz [],.ints k _ ys=>(TL<|Nat.beq sz 1).bind λ_=>some ([],.ints k true ys)
 |.row true sz [],.strs _ ys=>(TL<|Nat.beq sz 1).bind λ_=>some ([],.strs true ys)
 |.row true sz [],.cz _ ys=>(TL<|Nat.beq sz 1).bind λ_=>some ([],.cz true ys)
 |.row true sz [],.bA _ a d e ys=>(TL<|Nat.beq sz a).bind λ_=>some ([],.bA true a d e ys)
 |.row true sz (x::xs),.bA _ _ _ e ys=>some ([],.row true sz<|cat (x::xs)<|ys.map e)
 |.bA true sz _ e xs,.row _ _ ys=>some ([],.row true sz<|cat (xs.map e) ys)
 |.bA true sz _ e xs,.bA _ _ _ e' ys=>some ([],.row true sz<|cat (xs.map e)<|ys.map e')
 |_,_=>none
def Sa{a b z:SV}{g:List Pd}{f:Fl}{sz:Nat}{Y:List AV}(h:UW a b=some (g,z))(hc:bo g)(c:b.den=.list f sz Y):
 (a=.nil/\Y.isEmpty=false/\z.den=.list .own sz Y)\/(a≠.nil/\∃e X,a.den=.list .own e X/\z.den=.list .own e (X++Y)):=by
 unfold UW at h;split at h
 all_goals try(cases h;done)
 all_goals obtain⟨rfl,rfl,rfl⟩:=c
 all_goals simp only[ads,bE,ada]at h
 ·obtain⟨rfl,rfl⟩:=h;left;refine⟨W,?_,W⟩;simpa[bo]using hc
 ·obtain⟨rfl,rfl⟩:=h;left;refine⟨W,?_,W⟩;simpa[bo]using hc
 ·obtain⟨rfl,rfl⟩:=h;left;refine⟨W,?_,W⟩;simpa[bo]using hc
 ·obtain⟨rfl,rfl⟩:=h;left;refine⟨W,?_,W⟩;simpa[bo]using hc
 ·obtain⟨rfl,rfl⟩:=h;left;exact kL
 ·obtain⟨_,i,rfl,rfl⟩:=h;have:=np i;subst this;right;exact⟨I,_,_,W,by simp[SV.den,fl]⟩
 ·obtain⟨rfl,rfl⟩:=h;right;exact⟨I,_,_,W,by simp[SV.den,fl]⟩
 ·obtain⟨rfl,rfl⟩:=h;right;exact⟨I,_,_,W,by simp[SV.den,fl]⟩
 ·obtain⟨rfl,rfl⟩:=h;right;exact⟨I,_,_,W,by simp[SV.den,fl,cX,cn]⟩
 ·obtain⟨_,c,rfl,rfl⟩:=h;rw[beq_iff]at c;subst c;right;exact⟨I,_,_,W,by simp[SV.den,fl,aB]⟩
 ·obtain⟨_,c,rfl,rfl⟩:=h;rw[beq_iff]at c;subst c;right;exact⟨I,_,_,W,by simp[SV.den,fl,aB]⟩
 ·obtain⟨_,c,rfl,rfl⟩:=h;rw[beq_iff]at c;subst c;right;exact⟨I,_,_,W,by simp[SV.den,fl,aB]⟩
 ·obtain⟨_,c,rfl,rfl⟩:=h;rw[beq_iff]at c;subst c;right;exact⟨I,_,_,W,by simp[SV.den,fl,aB]⟩
 ·obtain⟨rfl,rfl⟩:=h;right;exact⟨I,_,_,W,by simp[SV.den,fl,cX,cn]⟩
 ·obtain⟨rfl,rfl⟩:=h;right;exact⟨I,_,_,W,by simp[SV.den,fl,cX,cn]⟩
 obtain⟨rfl,rfl⟩:=h;right;exact⟨I,_,_,W,by simp[SV.den,fl,cX,cn];rfl⟩
def Da(a:List Nat)(d:Nat)(x:bY)(ti:TI)(ys:List AV):Option (List Mv):=
 match x.cont with
 |some (.list .nil _ _)=>if(ys.length*ti.bytes)<=140737488355328/\ys.length<=maxLen then
   some [.make a d<|if ys.isEmpty then .list .nil 0 []else .list .own ti.size ys]else none
 |some (.list .own c b)=>if c=ti.size/\(b.length+ys.length)*ti.bytes<=140737488355328/\b.length+ys.length<=maxLen then
   match x.sl.av with
   |.bC r _ _ p=>if r∈a then none else some [.take r d p,.make (d::a) d<|.list .own ti.size<|b++ys]
   |_=>match x.s with
    |some s=>if s∈a then none else some [.make (s::a) d<|.list .own ti.size<|b++ys]
    |none=>none
  else none
 |_=>none
def He{P:Program}{d:Nat}{t e:TypeId}{x y:bY}{ti:TI}{f:Fl}{sz:Nat}{ys:List AV}{h:List Nat}(p:dC P t=some e)(o:cu P e=some ti)(n:ti.size≠0)
 (m:y.cont=some (.list f sz ys))(g:(bU ys=true/\h=[])\/(bU ys=false/\f=.own/\(∃a b c,y.sl.av=.list a b c)/\∃s,y.s=some s/\h=[s]))
 (i:((ys.isEmpty||(sz==ti.size&&ys.all (fits ti)))&& !h.contains d)=true):lj P d t x y=Da h d x ti ys:=by
 unfold lj;simp only[p,o,n,m];rcases g with⟨g,rfl⟩|⟨g,rfl,⟨a,b,c,k⟩,s,j,rfl⟩
 ·simp only[g,if_true,i];rfl
 simp only[g,agw,if_false,k,j,i];rfl
def ZZ(a:Bool)(y:SR):Option (List Nat):=match a with
 |true=>some []
 |false=>match y.sl.v with
  |.row true _ _=>match y.s with
   |some s=>some [s]
   |none=>none
  |_=>none
def Gk(d:Nat)(M:List Nat):Bool:=M.any<|Nat.beq d
def mem_iff{d:Nat}{M:List Nat}:Gk d M=true↔d∈M:=by unfold Gk;simp
def RM(l:aU)(d:Nat)(x:SR)(a:SV)(b:List Nat)(e:List Pd)(z:SV):og:=
 match a with
 |.nil=>nS e l b d z
 |_=>match x.sl.v with
  |.bC r _ _ p=>(TL<|not'<|Gk r b).bind λ_=>(adu l r d p).bind λ(c,_,g)=>aan g (d::b) d z λf=>some (app e c,f,cat [r,d]<|d::d::b)
  |_=>match x.s with
   |some s=>(TL<|not'<|Gk s b).bind λ_=>nS e l (s::b) d z
   |none=>none
def nu(tt:TT)(l:aU)(d:Nat)(t:TypeId)(x y:SR)(j:SV->SV->Option (List Pd×SV)):og:=
 (slice? tt t).bind λe=>(Fw tt e).bind λti=>(c6 x).bind λ(k,a)=>(c6 y).bind λ(h,b)=>match ti with
   |⟨g,n,bytes,zero⟩=>(TL<|eX (ne' n 0)<|ne' bytes 0).bind λ_=>(Lt ⟨g,n,bytes,zero⟩ b).bind λ(f,m)=>(ZZ m y).bind λi=>(TL<|not'<|Gk d i).bind λ_=>
    (j a b).bind λ(c,z)=>(ss a).bind λ(sz,k1)=>(ss b).bind λ(_,k2)=>(TL<|DN (B7 a)<|Nat.beq sz n).bind λ_=>RM l d x a i (((k1+k2)*bytes<=140737488355328)::app k (app h<|app f c)) z
 where B7:SV->Bool
  |.nil=>true
  |_=>false
def B6{a:SV}:nu.B7 a=true↔a=.nil:=by cases a<;>simp[nu.B7]
def Ax(hA:cH P tt)(l:aU)(d:Nat)(t:TypeId)(x y:SR)(z?:SV->SV->Option (List Pd×SV))
 (hz:∀a b B z f sz Y,z? a b=some (B,z)->bo B->b.den=.list f sz Y->(a=.nil/\Y.isEmpty=false/\z.den=.list .own sz Y)\/(a≠.nil/\∃i X,a.den=.list .own i X/\z.den=.list .own i (X++Y))):
 de l (lj P d t x.den y.den) (nu tt l d t x y z?):=by
 refine ak _ λe h1=>ak _ λti h2=>ak _ λ⟨B,a⟩h3=>ak _ λ⟨F,b⟩h4=>?_;obtain⟨g,n,bytes,zero⟩:=ti;refine bk λV=>ak _ λ⟨D,no⟩h6=>ak _ λk o=>bk λh8=>ak _ λ⟨v,z⟩h9=>ak _ λ⟨sz,k1⟩u=>ak _ λ⟨E1,k2⟩B0=>bk λA0=>?_;rw[aO,ne_iff,ne_iff]at V;have Q:d∉k:=by intro hm;rw[mem_iff.2 hm]at h8;cases h8
 have J:=j7 hA h2;have base:bo (((k1+k2)*bytes<=140737488355328)::app B (app F<|app D v))->
  (a=.nil/\lj P d t x.den y.den=some [.make k d z.den])\/
  (a≠.nil/\lj P d t x.den y.den=match x.den.sl.av with
    |.bC r _ _ p=>if r∈k then none else some [.take r d p,.make (d::k) d z.den]
    |_=>match x.den.s with
     |some s=>if s∈k then none else some [.make (s::k) d z.den]
     |none=>none):=by
  intro c;obtain⟨cb,c⟩:=c;obtain⟨c1,c⟩:=aS.1 c;obtain⟨c2,c⟩:=aS.1 c;obtain⟨c3,c4⟩:=aS.1 c;obtain⟨Y,e1,e2,e3⟩:=Ls h6 c3;have hx:=aF h3 c1;have hy:=aF h4 c2;rw[e1]at hy;have M:Y.length=k2:=by obtain⟨f,X,q1,q2⟩:=lQ B0;simp_all
  have T:(bU Y=true/\k=[])\/(bU Y=false/\fl (lN b)=.own/\(∃a b c,y.den.sl.av=.list a b c)/\∃s,y.den.s=some s/\k=[s]):=by
   rw[e3];unfold ZZ at o;cases no with
   |true=>simp_all
   |false=>
    right;simp only at o;split at o<;>try(cases o;done)
    rename_i i rs C;split at o<;>try(cases o;done)
    rename_i s hs;simp[ada]at o;have hb:b=.row true i rs:=by unfold c6 at h4;simp_all
    subst hb;have S:y.den.sl.av=.list .own i (aB rs):=by show y.sl.v.den=.list .own i (aB rs);rw[C];rfl
    exact⟨W,W,⟨_,_,_,S⟩,s,hs,o.symm⟩
  have m:0<bytes:=af0 V.2;have D1:k1+k2<=maxLen:=by have:(k1+k2)*1<=(k1+k2)*bytes:=afr _ m;unfold maxLen;omega
  have R:(!k.contains d)=true:=by simpa using Q
  have q:((Y.isEmpty||(({agg:=g,size:=n,bytes:=bytes,zero:=zero}:xk).size==(xk.den ⟨g,n,bytes,zero⟩).size&&Y.all (fits<|xk.den ⟨g,n,bytes,zero⟩)))&& !k.contains d)=true:=by rw[R,e2];simp[xk.den]
  have L:(xk.den ⟨g,n,bytes,zero⟩).size≠0:=V.1;have F4:(xk.den ⟨g,n,bytes,zero⟩).bytes=bytes:=W;rw[He (mT hA h1) J L hy T q];unfold Da;rw[hx];rcases hz a b v z _ _ _ h9 c4 e1 with⟨rfl,z1,z2⟩|⟨z0,i,X,z1,z2⟩
  ·left;refine⟨W,?_⟩;simp[ss,ada,ae0]at u;have O:k1=0:=u.2.symm;subst O;simp only[SV.den]
   grind
  right;refine⟨z0,?_⟩;rw[z1,z2];have N:X.length=k1/\i=sz:=by obtain⟨f,X',q1,q2⟩:=lQ u;simp_all
  have F1:sz=n:=by rw[qS,beq_iff,B6]at A0;simp_all
  have D2:(xk.den ⟨g,n,bytes,zero⟩).size=n:=W;simp_all
 unfold RM;split
 ·refine ko λc=>?_;simp_all
 rename_i A;split
 ·rename_i r g1 g2 p C;refine bk λj=>?_;rw[not_iff]at j;have K:r∉k:=by intro hm;rw[mem_iff.2 hm]at j;cases j
  refine ak _ λ⟨F0,y4,l4⟩Z=>?_;intro E2 lx ks he hc;simp[jd,ada,ae0]at he;obtain⟨rfl,rfl,rfl⟩:=he;obtain⟨ca,cb⟩:=aS.1 hc;rcases base ca with⟨h,-⟩|⟨-,h⟩
  ·exact absurd h A
  have w:x.den.sl.av=.bC r g1 g2 p:=by show x.sl.v.den=_;rw[C];rfl
  rw[w]at h;simp[K,if_false]at h;refine⟨_,h,?_,by simp[bc,Mv.keys,cat]⟩;simp[Mv.runs];rw[D0 Z cb];simp[Mv.run,iL]
 rename_i C;split
 ·rename_i s hs;refine bk λj=>ko λc=>?_;rw[not_iff]at j;have F2:s∉k:=by intro hm;rw[mem_iff.2 hm]at j;cases j
  rcases base c with⟨h,-⟩|⟨-,h⟩
  ·exact absurd h A
  have w:∀r g1 g2 p,x.den.sl.av≠.bC r g1 g2 p:=by
   intro r g1 g2 p hh;have:x.sl.v.den=.bC r g1 g2 p:=hh;cases H:x.sl.v<;>rw[H]at this<;>simp[SV.den]at this
   grind
  have F3:x.den.s=some s:=hs;simp_all
 exact bt
end
section
variable{P:Program}{tt:TT}(hA:cH P tt)(l:aU)(d:Nat)
def oZ(x:Option SR)(a:Nat):Option (List Pd×Nat):=match x with
 |none=>some ([],a)
 |some x=>(c6 x).bind λ(b,v)=>match v with
  |.n _ n=>some ((0<=n)::b,n.toNat)
  |_=>none
def eD{x:Option SR}{b n:Nat}{c:List Pd}(h:oZ x b=some (c,n))(hc:bo c):mZ (x.map SR.den) b=some n:=by
 cases x with
 |none=>simp[oZ]at h;simp[mZ,h.2]
 |some x=>
  simp[oZ,ads]at h;obtain⟨f,v,g,e⟩:=h;cases v<;>try(cases e;done)
  rename_i k a;obtain⟨rfl,rfl⟩:=e;have:x.den.cont=some (.v<|.int k a):=aF g hc.2;simp[mZ,this,hc.1]
def CO(lo hi:Nat):SV->Option SV
 |.ints k _ xs=>some (.ints k false<|(xs.drop lo).take<|hi-lo)
 |.strs _ xs=>some (.strs false<|(xs.drop lo).take<|hi-lo)
 |.cz _ xs=>some (.cz false<|(xs.drop lo).take<|hi-lo)
 |.bA false sz d e xs=>some (.bA false sz d e<|(xs.drop lo).take<|hi-lo)
 |.bA true sz d e xs=>some (.bA false sz d (λx=>(e x).b9)<|(xs.drop lo).take<|hi-lo)
 |.row false sz xs=>some (.row false sz<|PQ (RR xs lo)<|hi-lo)
 |.row true sz xs=>some (.row false sz<|iX<|PQ (RR xs lo)<|hi-lo)
 |_=>none
def DZ:∀xs:List SV,iX xs=xs.map SV.b9
 |[]=>rfl
 |x::xs=>by simp[iX,DZ xs]
def JF{y z:SV}{lo hi:Nat}(h:CO lo hi y=some z):∃sz X,y.den=.list (fl<|lN y) sz X/\z.den=.list .shr sz (((if lN y then ig X else X).drop lo).take<|hi-lo):=by
 cases y with
 |ints k o a=>simp[CO]at h;subst h;cases o<;>exact⟨_,_,W,by simp[SV.den,fl,ie,AV.b9]⟩
 |strs o a=>simp[CO]at h;subst h;cases o<;>exact⟨_,_,W,by simp[SV.den,fl,ie,AV.b9]⟩
 |cz o a=>simp[CO]at h;subst h;cases o<;>exact⟨_,_,W,by simp[SV.den,fl,ie,AV.b9]⟩
 |bA o sz b e a=>
  cases o
  ·simp[CO]at h;subst h;exact⟨_,_,W,by simp[SV.den,fl,lN,aha]⟩
  simp[CO]at h;subst h;exact⟨_,_,W,by simp[SV.den,fl,lN,ie,gh]⟩
 |row o sz a=>
  cases o
  ·simp[CO]at h;subst h;exact⟨_,_,W,by simp[SV.den,fl,lN,cn,uA,u7,aha]⟩
  simp[CO]at h;subst h;exact⟨_,_,W,by rw[SV.den,fl,lN,iW,cn,cn,uA,u7];simp[DZ]⟩
 |_=>simp[CO]at h
def Jk(l:aU)(d:Nat)(ti:xk)(x:SR)(y:SV)(c:List Pd)(lo hi a:Nat):og:=
 match nu.B7 y with
 |true=>da ((lo<=hi)::(hi<=a)::(a<=0)::c) l d .nil
 |false=>(ss y).bind λ(sz,n)=>(TL<|Nat.beq sz ti.size).bind λ_=>(CO lo hi y).bind λz=>match lN y with
  |false=>da ((lo<=hi)::(hi<=a)::(a<=n)::c) l d z
  |true=>(xJ x).bind λ(r,_,_,p)=>(TL<|ne' r d).bind λ_=>(rM l r p).bind λ(b,f)=>H3 f d z λe=>some ((lo<=hi)::(hi<=a)::(a<=n)::app c b,e,[r,d])
def M4(tt:TT)(l:aU)(d:Nat)(t:TypeId)(x:SR)(lo hi i:Option SR):og:=
 (DY tt t).bind λu=>(c6 x).bind λ(h,v)=>match u with
   |.str=>match v with
    |.s s=>match i with
     |none=>(oZ lo 0).bind λ(f,a)=>(oZ hi s.length).bind λ(c,b)=>da ((a<=b)::(b<=s.length)::app h (app f c)) l d (.s<|(s.take b).drop a)
     |some _=>none
    |_=>none
   |.slice e=>(Fw tt e).bind λti=>(ss v).bind λ(_,n)=>(oZ lo 0).bind λ(f,a)=>(oZ hi n).bind λ(c,b)=>(oZ i b).bind λ(g,m)=>Jk l d ti x v (app h<|app f<|app c g) a b m
   |_=>none
def DA(hA:cH P tt)(l:aU)(d:Nat)(t:TypeId)(x:SR)(lo hi A:Option SR):de l (qh P d t x.den (lo.map SR.den) (hi.map SR.den)<|A.map SR.den) (M4 tt l d t x lo hi A):=by
 refine ak _ λu h1=>ak _ λ⟨ob,v⟩H=>?_;have hu:=mf hA h1;cases u<;>try exact bt
 ·cases v<;>try exact bt
  rename_i s;cases A with
  |some _=>exact bt
  |none=>refine ak _ λ⟨i,a⟩F=>ak _ λ⟨h,b⟩q=>cG λc=>?_;obtain⟨k1,k2,c⟩:=c;obtain⟨y,c⟩:=aS.1 c;obtain⟨w,c3⟩:=aS.1 c;have hc:x.den.cont=some (.v<|.string<|bs s):=aF H y;have hu:P.underlying t=some .string:=hu;have g:=eD q c3;rw[<-w9]at g;unfold qh;simp only[hu,hc,Option.map_none,eD F w,g];rw[if_pos ⟨k1,by rw[w9];exact k2⟩,SV.den,LN]
 rename_i e;refine ak _ λti F=>ak _ λ⟨sz,n⟩q=>ak _ λ⟨i,a⟩V=>ak _ λ⟨h,b⟩T=>ak _ λ⟨C,m⟩S=>?_;have hu:P.underlying t=some (.slice e):=hu;have j:=j7 hA F;obtain⟨f,X,Z,Y⟩:=lQ q;unfold Jk;cases o:nu.B7 v
 rotate_left
 ·have:=B6.1 o;subst this;refine cG λc=>?_;obtain⟨k1,k2,k3,c⟩:=c;obtain⟨N,c⟩:=aS.1 c;obtain⟨y,c⟩:=aS.1 c;obtain⟨w,c3⟩:=aS.1 c;obtain⟨rfl,rfl⟩:=q;have hc:x.den.cont=some (.list .nil 0 []):=aF H N;unfold qh;simp only[hu,j,hc,aeg,eD V y,eD T w,eD S c3];rw[if_pos ⟨k1,k2,k3⟩];rfl
 refine ak _ λ⟨B0,n'⟩R=>?_;rw[q]at R;cases R;refine bk λh9=>ak _ λz M=>?_;have k:sz=ti.den.size:=beq_iff.1 h9;obtain⟨A0,X2,O,B⟩:=JF M;rw[Z]at O;obtain⟨rfl,rfl,rfl⟩:=O;have base:bo (app ob<|app i<|app h C)->a<=b->b<=m->m<=n->qh P d t x.den (lo.map SR.den) (hi.map SR.den) (A.map SR.den)=match lN v with
  |false=>some [.put d<|.list .shr sz<|(X.drop a).take<|b-a]
  |true=>match x.den.place with
   |some (r,_,_,p)=>if r=d then none else some [.share r p,.put d<|.list .shr sz<|((ig X).drop a).take<|b-a]
   |none=>none:=by
  intro c k1 k2 k3;obtain⟨N,c⟩:=aS.1 c;obtain⟨y,c⟩:=aS.1 c;obtain⟨w,c3⟩:=aS.1 c;have hc:=aF H N;rw[Z]at hc;have g:=eD T w;rw[<-Y]at g;unfold qh;simp[hu,j,hc,eD V y,g,eD S c3];rw[if_pos ⟨k1,k2,by rw[Y];exact k3⟩];cases Q:lN v
  ·simp only[fl];rw[if_pos k]
  simp[fl];rw[if_pos k];rfl
 cases Q:lN v with
 |false=>refine cG λc=>?_;obtain⟨k1,k2,k3,c⟩:=c;simp_all
 |true=>refine ak _ λ⟨r,g1,g2,p⟩L=>bk λK=>ak _ λ⟨D2,l'⟩J=>?_;intro D1 lx ks he D;simp[qq,ada,ae0]at he;obtain⟨rfl,rfl,rfl⟩:=he;obtain⟨k1,k2,k3,c⟩:=D;obtain⟨c,cs⟩:=aS.1 c;have g:=base c k1 k2 k3;rw[Q]at g B;simp[nQ,L,ne_iff.1 K,if_false]at g;simp[if_true]at B;refine⟨_,g,?_,W⟩;simp[Mv.runs];rw[lG J cs];simp[Mv.run];rw[<-B,kM]
def M8(tt:TT)(l:aU)(d:Nat)(t:TypeId):og:=(Fw tt t).bind λti=>match ti with|⟨_,_,_,z⟩=>nS [] l [] d<|.box true z
def DE(hA:cH P tt)(l:aU)(d:Nat)(t:TypeId):de l (match cu P t with|some ti=>some [.make [] d<|.box true ti.zero]|none=>none) (M8 tt l d t):=by refine ak _ λti h=>?_;refine ko λ_=>?_;rw[j7 hA h];rfl
def VK(tt:TT)(l:aU)(d:Nat)(t:TypeId)(x:SR):og:=(Fw tt t).bind λti=>(wE x).bind λ(a,y,M)=>(TL<|my ti y).bind λ_=>nS a l M d<|.box true y
def Jm(hA:cH P tt)(l:aU)(d:Nat)(t:TypeId)(x:SR):de l (match cu P t with|some ti=>Ur d (x6 x.den) λy=>if fits ti y then some (.box true y)else none|none=>none) (VK tt l d t x):=by refine ak _ λti e=>ak _ λ⟨f,y,M⟩b=>bk λa=>ko λc=>?_;rw[j7 hA e];simp[oU b c,Ur,je _ _ a,SV.den]
def vI(k:IntKind):List SV->Option (List Int)
 |[]=>some []
 |.n b a::r=>(TL<|su k b).bind λ_=>(vI k r).bind λasx=>some (a::asx)
 |_::_=>none
def zj{k:IntKind}:∀{xs:List SV}{asx:List Int},vI k xs=some asx->aB xs=asx.map λa=>.v (.int k a)
 |[],asx,h=>by simp[vI]at h;subst h;rfl
 |x::r,asx,h=>by
  cases x<;>simp only[vI,ads,bE,ada]at h<;>try(cases h;done)
  obtain⟨_,b,e,c,rfl⟩:=h;have:=np b;subst this;simp[aB,SV.den,zj c]
def vH:List SV->Option (List hO)
 |[]=>some []
 |.s a::r=>(vH r).bind λasx=>some (a::asx)
 |_::_=>none
def zg:∀{xs:List SV}{asx:List hO},vH xs=some asx->aB xs=asx.map λa=>.v (.string<|bs a)
 |[],asx,h=>by simp[vH]at h;subst h;rfl
 |x::r,asx,h=>by
  cases x<;>simp[vH,ads]at h<;>try(cases h;done)
  obtain⟨c,b,rfl⟩:=h;simp[aB,SV.den,zg b]
def nJ:List SV->Option (List Bool)
 |[]=>some []
 |.b a::r=>(nJ r).bind λasx=>some (a::asx)
 |.u a::r=>(nJ r).bind λasx=>some (a::asx)
 |_::_=>none
def qk:∀{xs:List SV}{asx:List Bool},nJ xs=some asx->aB xs=asx.map λa=>.v (.bool a)
 |[],asx,h=>by simp[nJ]at h;subst h;rfl
 |x::r,asx,h=>by
  cases x<;>simp[nJ,ads]at h<;>try(cases h;done)
  all_goals
   obtain⟨c,b,rfl⟩:=h;simp[aB,SV.den,qk b]
def QZ(sz:Nat)(xs:List SV):Option SV:=match xs with
 |.n k a::r=>(TL<|Nat.beq sz 1).bind λ_=>(vI k<|.n k a::r).bind λasx=>some (.ints k true asx)
 |.s a::r=>(TL<|Nat.beq sz 1).bind λ_=>(vH<|.s a::r).bind λasx=>some (.strs true asx)
 |.b a::r=>(TL<|Nat.beq sz 1).bind λ_=>(nJ<|.b a::r).bind λasx=>some (.cz true asx)
 |.u a::r=>(TL<|Nat.beq sz 1).bind λ_=>(nJ<|.u a::r).bind λasx=>some (.cz true asx)
 |xs=>some<|.row true sz xs
def OB{sz:Nat}{xs:List SV}{y:SV}(h:QZ sz xs=some y):y.den=.list .own sz (aB xs):=by
 unfold QZ at h;split at h
 ·simp only[ads,bE,beq_iff,ada]at h;obtain⟨_,rfl,asx,a,rfl⟩:=h;rw[zj a];rfl
 ·simp only[ads,bE,beq_iff,ada]at h;obtain⟨_,rfl,asx,a,rfl⟩:=h;rw[zg a];rfl
 ·simp only[ads,bE,beq_iff,ada]at h;obtain⟨_,rfl,asx,a,rfl⟩:=h;rw[qk a];rfl
 ·simp only[ads,bE,beq_iff,ada]at h;obtain⟨_,rfl,asx,a,rfl⟩:=h;rw[qk a];rfl
 cases h;rfl
def idxs:List (Nat×Operand)->Nat->Bool
 |[],_=>true
 |(i,_)::r,k=>match Nat.beq i k with
  |true=>idxs r (k+1)
  |false=>false
def MO:∀{a:List (Nat×Operand)}{k:Nat},idxs a k=true->a.map (·.1)=List.range' k a.length
 |[],_,_=>rfl
 |(i,x)::r,k,h=>by
  simp[idxs]at h;split at h
  ·rename_i b;have:=afb b;subst this;simp[List.range'_succ,MO h]
  cases h
def qm(l:aU):List (Nat×Operand)->Option (List SR)
 |[]=>some []
 |(_,x)::r=>(dW l x).bind λy=>(qm l r).bind λys=>some<|y::ys
def uJ:∀{a:List (Nat×Operand)}{xs:List SR},qm l a=some xs->a.map (λp=>resolve (dn l) p.2)=xs.map SR.den
 |[],xs,h=>by simp[qm]at h;subst h;rfl
 |(i,x)::r,xs,h=>by simp[qm,ads]at h;obtain⟨y,c,ys,b,rfl⟩:=h;simp[c8 c,uJ b]
def jQ(l:aU):List Operand->Option (List SR)
 |[]=>some []
 |x::r=>(dW l x).bind λy=>(jQ l r).bind λys=>some<|y::ys
def fo:∀{a:List Operand}{xs:List SR},jQ l a=some xs->a.map (resolve<|dn l)=xs.map SR.den
 |[],xs,h=>by simp[jQ]at h;subst h;rfl
 |x::r,xs,h=>by simp[jQ,ads]at h;obtain⟨y,c,ys,b,rfl⟩:=h;simp[c8 c,fo b]
def wM(tt:TT)(l:aU)(d:Nat)(t:TypeId)(n:Nat)(a:List (Nat×Operand)):og:=
 (slice? tt t).bind λe=>(Fw tt e).bind λti=>(qm l a).bind λc=>(kS c).bind λ(f,b,M)=>(TL<|eX (eX (idxs a 0)<|Nat.beq n<|len a)<|eX (b.all<|my ti)<|Nat.ble (n*ti.size) 16777216).bind λ_=>(TL<|Nat.ble n 16777216).bind λ_=>(QZ ti.size b).bind λy=>nS f l M d y
def u6(hA:cH P tt)(l:aU)(d:Nat)(t:TypeId)(n:Nat)(b:Array (Nat×Operand)):de l (match dC P t with
 |some e=>match cu P e with
  |some ti=>match gr (b.toList.map λp=>resolve (dn l) p.2)with
   |some (ys,M)=>if(b.toList.map (·.1)=List.range n)/\(ys.all<|fits ti)/\n*ti.size<=2^24/\n<=maxLen then some [.make M d<|.list .own ti.size ys]else none
   |none=>none
  |none=>none
 |none=>none) (wM tt l d t n b.toList):=by
 refine ak _ λe r=>ak _ λti q=>ak _ λw o=>ak _ λ⟨z,ys,M⟩m=>bk λg=>bk λk=>ak _ λy j=>ko λc=>?_;simp only[aO,beq_iff,fH]at g;obtain⟨⟨v,u⟩,h,s⟩:=g;have hi:=MO v;simp only[mT hA r,j7 hA q,uJ l o,nY m c];have a:(aB ys).all (fits ti.den)=true:=by rw[aeI]at h⊢;intro x f;rw[cn]at f;obtain⟨y,i,rfl⟩:=aeN.1 f;exact je ti y<|h y i
 have hn:n<=maxLen:=by have:=ae4 k;unfold maxLen;omega
 rw[if_pos ⟨by rw[hi,u,List.range_eq_range'],a,ae4 s,hn⟩,OB j];rfl
def FE(cs:List SV)(o n:Nat)(y:SV):Option (List SV):=
 (TL<|Nat.ble (o+n)<|len cs).bind λ_=>match y with
   |.agg a=>(TL<|Nat.beq (len a) n).bind λ_=>some (cat (PQ cs o)<|cat a<|RR cs<|o+n)
   |y=>(TL<|eX (Nat.beq n 1) y.cell).bind λ_=>some<|put cs o y
def HD{cs zs:List SV}{o n:Nat}{y:SV}(h:FE cs o n y=some zs):Bg (aB cs) o n y.den=some (aB zs):=by
 simp only[FE,ads,bE]at h;obtain⟨_,a,h⟩:=h;have a:=ae4 a;rw[fH]at a;unfold Bg;rw[if_pos<|by rw[bB];exact a];cases y with
 |agg e=>simp only[ads,bE,beq_iff,fH,ada]at h;obtain⟨_,b,rfl⟩:=h;simp[SV.den,b,cX,uA,u7,cn,aeW]
 |_=>
  simp only[ads,bE,aO,beq_iff,ada]at h;obtain⟨_,⟨b,c⟩,rfl⟩:=h
  first
   |(simp[b,put_eq,wP];rfl)
   |(simp[SV.cell]at c)
def Co(a:List (Nat×Nat)):List SV->List (Nat×Operand)->List SV->Option (List SV)
 |cs,[],_=>some cs
 |cs,(i,_)::r,y::ys=>(nth a i).bind λ(o,n)=>(FE cs o n y).bind λcs=>Co a cs r ys
 |_,_,_=>none
def Cn{b:List (Nat×Nat)}:∀{a:List (Nat×Operand)}{cs ys zs:List SV},ys.length=a.length->Co b cs a ys=some zs->sB b (aB cs) ((a.map (·.1)).zip<|aB ys)=some (aB zs)
 |[],cs,ys,zs,hl,h=>by simp[Co]at h;subst h;rfl
 |(i,x)::r,cs,[],zs,hl,h=>by cases hl
 |(i,x)::r,cs,y::ys,zs,hl,h=>by simp[Co,ads]at h;obtain⟨o,n,c,cs',f,e⟩:=h;rw[mI]at c;simp[aB,sB,c,HD f];exact Cn (by simpa using hl) e
def M7(tt:TT)(l:aU)(d:Nat)(t:TypeId)(a:List (Nat×Operand)):og:=
 (Fw tt t).bind λti=>match ti with
   |⟨_,_,_,z⟩=>match z with
    |.agg z=>(FZ tt t).bind λe=>(qm l a).bind λc=>(kS c).bind λ(f,b,M)=>(Co e z a b).bind λg=>nS f l M d (.agg g)
    |_=>none
def rb:∀{xs:List SR}{a:List Pd}{ys:List SV}{M:List Nat},kS xs=some (a,ys,M)->ys.length=xs.length
 |[],a,ys,M,h=>by simp[kS]at h;simp[<-h.2.1]
 |x::xs,a,ys,M,h=>by simp[kS,ads]at h;obtain⟨e,y,j,i,c,b,N,f,_,g,rfl,rfl,rfl⟩:=h;simp[rb f]
def ua:∀{a:List (Nat×Operand)}{xs:List SR},qm l a=some xs->xs.length=a.length
 |[],xs,h=>by simp[qm]at h;subst h;rfl
 |(i,x)::r,xs,h=>by simp[qm,ads]at h;obtain⟨y,c,ys,b,rfl⟩:=h;simp[ua b]
def DD(hA:cH P tt)(l:aU)(d:Nat)(t:TypeId)(e:Array (Nat×Operand)):de l (match cu P t with
 |some ti=>match ti.zero with
  |.agg z=>match placesOf P t with
   |some f=>match gr (e.toList.map λp=>resolve (dn l) p.2)with
    |some (ys,M)=>match sB f z ((e.toList.map (·.1)).zip ys)with
     |some cs=>some [.make M d<|.agg cs]
     |none=>none
    |none=>none
   |none=>none
  |_=>none
 |none=>none) (M7 tt l d t e.toList):=by
 refine ak _ λti m=>?_;obtain⟨a,b,c,z⟩:=ti;cases z<;>try exact bt
 rename_i z;refine ak _ λf k=>ak _ λn h=>ak _ λ⟨o,ys,M⟩g=>ak _ λcs j=>ko λc=>?_;have i:(xk.den ⟨a,b,‹_›,.agg z⟩).zero=.agg (aB z):=W;simp[j7 hA m,i,Oh hA k,uJ l h,nY g c,Cn (by rw[rb g,ua l h]) j,SV.den]
def Kc(sz:Nat)(z:SV)(n:Nat):Option SV:=match z with
 |.n k a=>(TL<|Nat.beq sz 1).bind λ_=>some (.ints k true<|List.replicate n a)
 |.s a=>(TL<|Nat.beq sz 1).bind λ_=>some (.strs true<|List.replicate n a)
 |.b a=>(TL<|Nat.beq sz 1).bind λ_=>some (.cz true<|List.replicate n a)
 |z=>some<|.row true sz<|List.replicate n z
def Kb{sz n:Nat}{z y:SV}(h:Kc sz z n=some y):y.den=.list .own sz (List.replicate n z.den):=by
 unfold Kc at h;split at h
 ·simp only[ads,bE,beq_iff,ada]at h;obtain⟨_,rfl,rfl⟩:=h;simp[SV.den,fl]
 ·simp only[ads,bE,beq_iff,ada]at h;obtain⟨_,rfl,rfl⟩:=h;simp[SV.den,fl]
 ·simp only[ads,bE,beq_iff,ada]at h;obtain⟨_,rfl,rfl⟩:=h;simp[SV.den,fl]
 cases h;simp[SV.den,fl,cn]
def zO(tt:TT)(l:aU)(d:Nat)(t:TypeId)(x y:SR):og:=
 (slice? tt t).bind λe=>(Fw tt e).bind λti=>match ti with
   |⟨_,sz,bytes,z⟩=>(c6 x).bind λ(f,a)=>(c6 y).bind λ(c,b)=>match a,b with
    |.n _ a,.n _ b=>(TL<|ne' sz 0).bind λ_=>(Kc sz z a.toNat).bind λr=>nS ((0<=a)::(a<=b)::(b*bytes<=140737488355328)::(b<=9223372036854775807)::app f c) l [] d r
    |_,_=>none
def wJ(hA:cH P tt)(l:aU)(d:Nat)(t:TypeId)(x y:SR):de l (m1 (match dC P t with
 |some e=>match cu P e with
  |some ti=>match x.den.cont,y.den.cont with
   |some (.v<|.int _ a),some (.v<|.int _ b)=>if 0<=a/\a<=b/\b*ti.bytes<=140737488355328/\b<=maxLen/\0<ti.size then
     some ([.make [] d<|.list .own ti.size<|List.replicate a.toNat ti.zero],[])else none
   |_,_=>none
  |none=>none
 |none=>none)) (zO tt l d t x y):=by
 refine ak _ λe p=>ak _ λti o=>?_;refine ak _ λ⟨D,a⟩n=>ak _ λ⟨g,b⟩m=>?_;cases a<;>try exact bt
 cases b<;>try exact bt
 rename_i k a h b;refine bk λj=>ak _ λr i=>ko λc=>?_;obtain⟨C,B,A,z,c⟩:=c;obtain⟨w,u⟩:=aS.1 c;have s:x.den.cont=some (.v<|.int k a):=aF n w;have q:y.den.cont=some (.v<|.int h b):=aF m u;have f:((maxLen:Nat):Int)=9223372036854775807:=fh;simp only[mT hA p,j7 hA o,s,q];rw[if_pos ⟨C,B,A,by rw[f];exact z,af0<|ne_iff.1 j⟩,Kb i];rfl
def Rh:SV->Bool
 |.ptr .. =>true
 |_=>false
def u4(l:aU)(d:Nat)(x:SR):og:=match Rh x.sl.v with
 |true=>(Dd x).bind λ(a,_)=>J4 a (u5 l d x)
 |false=>(c6 x).bind λ(a,v)=>match v with
  |.box _ _=>J4 a (u5 l d x)
  |.fn (.func _) _ _=>J4 a (u5 l d x)
  |_=>none
def yj(x:SR):de l (m1 (match x.den.cont with
 |some (.box _ _)=>gj (dc d x.den)
 |some (.fn (.func _) _ _)=>gj (dc d x.den)
 |_=>match x.den.sl.av with
  |.ptr .. =>match x.den.addr with
   |some _=>gj (dc d x.den)
   |none=>none
  |_=>none)) (u4 l d x):=by
 unfold u4;cases i:Rh x.sl.v
 ·refine ak _ λ⟨j,v⟩g=>?_;cases v<;>try exact bt
  ·refine nw _ λc=>?_;rename_i o y;have:x.den.cont=some (.box o y.den):=aF g c;simp[this];exact jq l d x
  rename_i f a b;cases f<;>try exact bt
  refine nw _ λc=>?_;have:x.den.cont=some (.fn (.func _) (aB a)<|aB b):=aF g c;simp[this];exact jq l d x
 refine ak _ λ⟨j,k⟩g=>nw _ λc=>?_;obtain⟨r,g1,g2,p,h⟩:∃r g1 g2 p,x.sl.v=.ptr r g1 g2 p:=by cases h:x.sl.v<;>rw[h]at i<;>simp[Rh]at i;simp_all
 have e:x.den.sl.av=.ptr r g1 g2 p:=by show x.sl.v.den=_;rw[h];rfl
 have hc:x.den.cont=none:=by unfold bY.cont;rw[e]
 simp[hc,e,ku g c];exact jq l d x
def uR:List SR->Option (List Pd×List SV)
 |[]=>some ([],[])
 |x::xs=>(c6 x).bind λ(b,y)=>(uR xs).bind λ(a,ys)=>some (app b a,y.b9::ys)
def qD:∀{xs:List SR}{a:List Pd}{ys:List SV},uR xs=some (a,ys)->bo a->gP (xs.map SR.den)=some (aB ys)
 |[],a,ys,h,_=>by simp[uR]at h;obtain⟨-,rfl⟩:=h;rfl
 |x::xs,a,ys,h,hc=>by simp[uR,ads]at h;obtain⟨e,y,g,c,b,f,rfl,rfl⟩:=h;obtain⟨j,i⟩:=aS.1 hc;simp[gP,Uc,aF g j,qD f i,aB,gh]
def sU:List SR->Option (List Pd×List (Nat×Path))
 |[]=>some ([],[])
 |x::xs=>(c6 x).bind λ(b,y)=>(sU xs).bind λ(a,c)=>match y.aG with
  |true=>some (app b a,c)
  |false=>(xJ x).bind λ(r,_,_,p)=>some (app b a,(r,p)::c)
def aak:∀{xs:List SR}{b:List Pd}{c:List (Nat×Path)},sU xs=some (b,c)->bo b->shares (xs.map SR.den)=c.map λm=>.share m.1 m.2
 |[],b,c,h,_=>by simp[sU]at h;obtain⟨-,rfl⟩:=h;rfl
 |x::xs,b,c,h,hc=>by
  simp[sU,ads]at h;obtain⟨k,y,i,j,n,g,a⟩:=h;cases hn:y.aG with
  |true=>rw[hn]at a;cases a;obtain⟨f,e⟩:=aS.1 hc;simp[shares,aF i f,cO,hn];exact aak g e
  |false=>rw[hn]at a;simp[ads]at a;obtain⟨r,g1,g2,p,o,rfl,rfl⟩:=a;obtain⟨f,e⟩:=aS.1 hc;simp[shares,aF i f,cO,hn,nQ,o,aak g e]
def Cs(l:aU)(d:Nat)(f:Fn)(a b:List Operand):og:=
 (jQ l a).bind λh=>(jQ l b).bind λg=>(uR h).bind λ(i,asx)=>(uR g).bind λ(e,k)=>(sU<|h++g).bind λ(c,j)=>match j with
   |[]=>da (app i<|app e c) l d (.fn f asx k)
   |_=>none
def yl(f:Fn)(a b:Array Operand):de l (m1 (match gP (a.toList.map<|resolve<|dn l),gP (b.toList.map<|resolve<|dn l)with
 |some q,some c=>if(shares<|a.toList.map (resolve<|dn l)++b.toList.map (resolve<|dn l)).isEmpty then some ([.put d<|.fn f q c],[])else none
 |_,_=>none)) (Cs l d f a.toList b.toList):=by
 refine ak _ λs n=>ak _ λr m=>ak _ λ⟨t,asx⟩k=>ak _ λ⟨g,u⟩j=>ak _ λ⟨e,h⟩i=>?_;cases h<;>try exact bt
 refine cG λc=>?_;obtain⟨p,c⟩:=aS.1 c;obtain⟨o,c3⟩:=aS.1 c;have hs:=aak i c3;rw[aeY]at hs;simp[fo l n,fo l m,qD k p,qD j o,hs];rfl
end
def ev(tt:TT)(e:List Nat)(l:aU)(h:Option Nat)(op:Op):og:=
 match h with
 |none=>match op with
  |.store t a x=>(dW l a).bind λa=>(dW l x).bind λx=>M3 tt l t a x
  |_=>none
 |some d=>match op with
  |.move x=>(dW l x).bind λx=>u5 l d x
  |.assign x=>(dW l x).bind λx=>Cv l d x
  |.load t x=>(dW l x).bind λx=>Lp tt l d t x
  |.fieldAddr t x f=>(dW l x).bind λx=>zP tt l d t x f
  |.field t x f=>(dW l x).bind λx=>M6 tt l d t x f
  |.indexAddr t x i=>(dW l x).bind λx=>(dW l i).bind λi=>sD tt l d t x i
  |.index t x i=>(dW l x).bind λx=>(dW l i).bind λi=>M5 tt l d t x i
  |.extract x i=>(dW l x).bind λx=>EX l d x i
  |.convert s t x=>(dW l x).bind λx=>VO tt (Gk d e) l d s t x
  |.slice t x a b c=>(dW l x).bind λx=>(F8 l a).bind λa=>(F8 l b).bind λb=>(F8 l c).bind λc=>M4 tt l d t x a b c
  |.binOp op t x y _=>(dW l x).bind λx=>(dW l y).bind λy=>VL tt (Gk d e) l d op t x y
  |.unOp op _ x=>(dW l x).bind λx=>YB (Gk d e) l d op x
  |.pick c x y=>(dW l c).bind λc=>(dW l x).bind λx=>(dW l y).bind λy=>RJ l d c x y
  |.alloc t=>M8 tt l d t
  |.box t x=>(dW l x).bind λx=>VK tt l d t x
  |.build t g=>M7 tt l d t g.toList
  |.buildSlice t n g=>wM tt l d t n g.toList
  |.makeSlice t x y=>(dW l x).bind λx=>(dW l y).bind λy=>zO tt l d t x y
  |.nilCheck x=>(dW l x).bind λx=>u4 l d x
  |.makeFunc f a b=>Cs l d f a.toList b.toList
  |.call ⟨.builtin b,asx,j⟩=>match b,j.toList,asx.toList with
   |.len,t::_,[x]=>(dW l x).bind λx=>VJ tt l d t x
   |.append,[t,m],[x,y]=>(slice? tt m).bind λ_=>(dW l x).bind λx=>(dW l y).bind λy=>nu tt l d t x y UW
   |.min,_,[x,y]=>(dW l x).bind λx=>(dW l y).bind λy=>RK true l d x y
   |.max,_,[x,y]=>(dW l x).bind λx=>(dW l y).bind λy=>RK false l d x y
   |_,_,_=>none
  |_=>none
 where F8 (l:aU):Option Operand->Option (Option SR)
  |none=>some none
  |some x=>(dW l x).bind λx=>some<|some x
def BH{l:aU}{x:Option Operand}{y:Option SR}(h:ev.F8 l x=some y):x.map (resolve<|dn l)=y.map SR.den:=by
 cases x with
 |none=>simp[ev.F8]at h;subst h;rfl
 |some x=>simp[ev.F8,ads]at h;obtain⟨z,a,rfl⟩:=h;simp[c8 a]
section
variable{R:Option Nat->Prop}{P:Program}{tt:TT}(hA:cH P tt)
def gg{l:aU}{x:Operand}{m:Option (List Mv)}{f:SR->og}(h:∀y:SR,resolve (dn l) x=y.den->de l m (f y)):de l m ((dW l x).bind f):=ak _ λy a=>h y<|c8 a
def CD{l:aU}{x:Option Operand}{m:Option (List Mv)}{f:Option SR->og}(h:∀y:Option SR,x.map (resolve<|dn l)=y.map SR.den->de l m (f y)):de l m ((ev.F8 l x).bind f):=ak _ λy a=>h y<|BH a
def VH(hA:cH P tt){q:List Nat}{l l':aU}{o:Option Nat}{op:Op}{ty:TypeId}{pos:String}{z:Array Edge}{ops:Array Oper}{K:List Mv->St->Prop}{s:List Pd}{u:List Nat}
 (h:ev tt q l o op=some (s,l',u))(hc:bo s)(H:∀p,bc p=u->K p (dn l')):si P ops ⟨o,op,ty,pos,z,none⟩ (dn l) K:=by
 have fin:∀{m:Option (List Mv)}{e:og},de l m e->e=some (s,l',u)->tJ m (dn l) K:=by intro m e J he;obtain⟨p,rfl,M,L⟩:=J _ _ _ he hc;exact⟨p,W,dn l',M,H p L⟩
 cases o with
 |none=>
  cases op<;>simp[ev]at h<;>try(cases h;done)
  rw[TS];exact fin (gg λa f=>gg λx D=>by rw[f,D];exact Dz hA l _ a x) h
 |some d=>
  cases op<;>simp[ev]at h<;>try(cases h;done)
  case move=>rw[WC];exact fin (gg λa f=>by rw[f];exact jq l d a) h
  case assign=>rw[QK];exact fin (gg λa f=>by rw[f];exact Cu l d a) h
  case load=>rw[WD];exact fin (gg λa f=>by rw[f];exact GK hA l d _ a) h
  case fieldAddr=>rw[Il];exact fin (gg λa f=>by rw[f];exact wL hA l d _ a _) h
  case field=>rw[TW];exact fin (gg λa f=>by rw[f];exact DC hA l d _ a _) h
  case indexAddr=>rw[Ik];exact fin (gg λa f=>gg λb i=>by rw[f,i];exact wK hA l d _ a b) h
  case index=>rw[TV];exact fin (gg λa f=>gg λb i=>by rw[f,i];exact DB hA l d _ a b) h
  case extract=>rw[Ou];exact fin (gg λa f=>by rw[f];exact Aw l d a _) h
  case convert=>rw[Ov];exact fin (gg λa f=>by rw[f];exact JG hA l d _ _ _ a) h
  case slice=>rw[TU];exact fin (gg λa f=>CD λb i=>CD λc hc=>CD λe he=>by rw[f,i,hc,he];exact DA hA l d _ a b c e) h
  case binOp=>rw[Yc];exact fin (gg λa f=>gg λb i=>by rw[f,i];exact Jn hA _ l d _ _ a b) h
  case unOp=>rw[Zu];exact fin (gg λa f=>by rw[f];exact Ln _ l d _ a) h
  case pick=>rw[WB];exact fin (gg λa f=>gg λb i=>gg λc hc=>by rw[f,i,hc];exact GJ l d a b c) h
  case alloc=>rw[TY];exact fin (DE hA l d _) h
  case box=>rw[Yb];exact fin (gg λa f=>by rw[f];exact Jm hA l d _ a) h
  case build=>rw[TX];exact fin (DD hA l d _ _) h
  case buildSlice=>rw[Gf];exact fin (u6 hA l d _ _ _) h
  case makeSlice=>rw[Ij];exact fin (gg λa f=>gg λb i=>by rw[f,i];exact wJ hA l d _ a b) h
  case nilCheck=>rw[KP];exact fin (gg λa f=>by rw[f];exact yj l d a) h
  case makeFunc=>rw[KQ];exact fin (yl l d _ _ _) h
  case call c=>
   obtain⟨j,asx,O⟩:=c;cases j<;>simp only at h<;>try(cases h;done)
   rw[Ow];split at h<;>try(cases h;done)
   ·rename_i t r x w n;rw[w,n];exact fin (gg λa f=>by simp[afc,afZ,f];exact Jl hA l d _ _ a) h
   ·rename_i t Q x y w n;rw[w,n];refine fin (ak _ λn v=>gg λa f=>gg λb g=>?_) h;simp[afc,afZ,f,g,kz,mT hA v];exact Ax hA l d _ a b UW λ_ _ _ _ _ _ _ C B A=>Sa C B A
   ·rename_i x y n;rw[n];refine fin (gg λa f=>gg λb g=>?_) h;simp[afc,afZ,f,g];exact zN l d true _ a b
   rename_i x y n;rw[n];refine fin (gg λa f=>gg λb g=>?_) h;simp[afc,afZ,f,g];exact zN l d false _ a b
end
inductive It
 |code (c:Code)
 |jS (id:Nat)
 |Wp
 |ops (all:Array Oper) (rest:List Oper)
 |ng (all:Array Oper) (mm:List Nat) (rest:List Oper) (acc:List (List Nat×List Nat))
 |inv (I:St->Prop)
def iR(R:Option Nat->Prop)(P:Program)(N:Nat)(F:St->Prop):List It->Exit->St->Prop
 |[],e,σ=>match e with
  |.normal=>F σ
  |.ret=>F σ
  |_=>False
 |.code c::k,e,σ=>match e with
  |.normal=>AW R P N c (iR R P N F k) σ
  |e=>iR R P N F k e σ
 |.jS id::k,e,σ=>match e with
  |.exit d=>if d=id then iR R P N F k .normal σ else iR R P N F k (.exit d) σ
  |e=>iR R P N F k e σ
 |.Wp::k,e,σ=>match e with
  |.goto _=>False
  |e=>iR R P N F k e σ
 |.ops all rest::k,e,σ=>match e with
  |.normal=>rp P all rest σ (iR R P N F k .normal)
  |e=>iR R P N F k e σ
 |.ng all h rest g::k,e,σ=>match e with
  |.normal=>rt P all rest σ g λb f=>apart h b all.size=true/\iR R P N F k .normal f
  |e=>iR R P N F k e σ
 |.inv a::k,e,σ=>match e with
  |.normal=>a σ
  |e=>iR R P N F k e σ
def AK(R:Option Nat->Prop)(P:Program)(N:Nat)(F:St->Prop)(k:List It)(l:aU):Prop:=iR R P N F k .normal<|dn l
section
variable{R:Option Nat->Prop}{P:Program}{N:Nat}{F:St->Prop}{k:List It}{l:aU}{σ:St}
def mj:∀(k:List It),iR R P N F k .ret σ=F σ
 |[]=>rfl
 |.code c::k=>mj k
 |.jS id::k=>mj k
 |.Wp::k=>mj k
 |.ops .. ::k=>mj k
 |.ng .. ::k=>mj k
 |.inv _::k=>mj k
def Cr(id:Nat):List It->Option (List It)
 |[]=>none
 |.jS a::k=>match Nat.beq id a with
  |true=>some k
  |false=>Cr id k
 |_::k=>Cr id k
def Of{id:Nat}:∀{k a:List It},Cr id k=some a->iR R P N F a .normal σ->iR R P N F k (.exit id) σ:=by
 intro k
 induction k with
 |nil=>intro a h _;simp[Cr]at h
 |cons x k c=>
  intro a h d;cases x with
  |jS b=>
   simp[Cr]at h;simp[iR];split at h
   ·simp_all
   rename_i f;have:id≠b:=by intro e;subst e;simp at f
   simp_all
  |_=>simp[Cr]at h;exact c h d
def Hf{a b:Code}(h:AK R P N F (.code a::.code b::k) l):AK R P N F (.code (.seq a b)::k) l:=Sk (jr (h:AW R P N a (iR R P N F<|.code b::k) (dn l)) λe c h=>by cases e<;>exact h)
def Sw{id:Nat}{c:Code}(h:AK R P N F (.code c::.jS id::k) l):AK R P N F (.code (.block id c)::k) l:=Sp (jr (h:AW R P N c (iR R P N F<|.jS id::k) (dn l)) λe a h=>by cases e<;>exact h)
def Sv{c:Code}(h:AK R P N F (.code c::.Wp::k) l):AK R P N F (.code (.scope c)::k) l:=Sm (jr (h:AW R P N c (iR R P N F<|.Wp::k) (dn l)) λe a h=>by cases e<;>exact h)
def cV(l:aU)(all:List Oper):Option (Nat×Bool)->Option Bool
 |none=>some true
 |some (j,b)=>match nth all j with
  |some o=>match o.dst with
   |some d=>match Nat.blt d 1000000 with
    |true=>match(gt l d).v with
     |.b true=>some b
     |.b false=>some (not' b)
     |.bW []=>some false
     |_=>none
    |false=>none
   |none=>none
  |none=>none
def dS{all:Array Oper}{o:Oper}{b:Bool}(h:cV l all.toList o.guard=some b):kB (dn l) all o=some b:=by
 unfold kB;cases g:o.guard with
 |none=>rw[g]at h;simpa[cV]using h
 |some q=>
  obtain⟨j,a⟩:=q;rw[g]at h;simp[cV]at h;split at h<;>try(cases h)
  rename_i m e;rw[mI,ag5]at e;split at h<;>try(cases h)
  rename_i d i;simp[e,i,dL];split at h<;>try(cases h)
  rename_i f;rw[f];split at h<;>try(cases h)
  ·rename_i c;rw[c];simpa[SV.den]using h
  ·rename_i c;rw[c];simp[SV.den];cases a<;>simp_all[not']
  rename_i c;rw[c];rfl
def XV(l:aU):Option Nat->aU×List Nat
 |some d=>H3 l d (.bW []) λl'=>(l',[d])
 |none=>(l,[])
def HB(tt:TT)(b:List Nat)(all:List Oper)(l:aU)(o:Oper):og:=
 match o with
 |⟨a,c,_,_,_,g⟩=>match cV l all g with
  |some true=>ev tt b l a c
  |some false=>match XV l a with
   |(d,e)=>some ([],d,e)
  |none=>none
def vr{tt:TT}(hA:cH P tt){i:List Nat}{all:Array Oper}{o:Oper}{l':aU}{p:List Pd}{s:List Nat}{K:List Mv->St->Prop}(h:HB tt i all.toList l o=some (p,l',s))(hc:bo p)
 (f:∀r,bc r=s->K r (dn l')):si P all o (dn l) K:=by
 obtain⟨a,n,m,pos,c,g⟩:=o;unfold HB at h;simp only at h;split at h<;>try(cases h;done)
 ·rename_i e;cases g with
  |none=>exact VH hA h hc f
  |some q=>obtain⟨j,b⟩:=q;rw[Ge];rw[dS (o:=⟨a,n,m,pos,c,some (j,b)⟩) e];simp;exact VH hA h hc f
 rename_i e;cases g with
 |none=>simp[cV]at e
 |some q=>
  obtain⟨j,b⟩:=q;rw[Ge];rw[dS (o:=⟨a,n,m,pos,c,some (j,b)⟩) e];simp;cases a with
  |none=>obtain⟨-,rfl,rfl⟩:=h;exact⟨[],W,dn l,W,f _ W⟩
  |some d=>obtain⟨-,rfl,rfl⟩:=h;refine⟨[.put d<|.bW []],W,dn<|Od l d<|.bW [],?_,f _ W⟩;have:=kM l d<|.bW [];rw[<-this];rfl
abbrev YR:=Option<|List Pd×List It×aU
def D5(tt:TT)(g:List Nat)(N:Nat)(k:List It)(l:aU):YR:=
 match k with
 |[]=>none
 |.code c::k=>match c with
  |.seq a b=>some ([],.code a::.code b::k,l)
  |.skip=>some ([],k,l)
  |.label _=>some ([],k,l)
  |.region _ all false=>match all.toList.all (gD N)with
   |true=>some ([],.ops all all.toList::k,l)
   |false=>none
  |.region _ all true=>match all.toList.all (gD N),lower all.toList with
   |true,true=>some ([],.ng all (aam all.toList []) all.toList []::k,l)
   |_,_=>none
  |.block id c=>some ([],.code c::.jS id::k,l)
  |.scope c=>some ([],.code c::.Wp::k,l)
  |.exit id=>match Cr id k with
   |some k=>some ([],k,l)
   |none=>none
  |.ret=>some ([],[],l)
  |.cond c t e=>match aJ c with
   |true=>(dW l c).bind λx=>(c6 x).bind λ(f,v)=>match v with
    |.b true=>some (f,.code t::k,l)
    |.b false=>some (f,.code e::k,l)
    |_=>none
   |false=>none
  |_=>none
 |.jS _::k=>some ([],k,l)
 |.Wp::k=>some ([],k,l)
 |.ops all []::k=>some ([],k,l)
 |.ops all (o::d)::k=>match HB tt g all.toList l o with
  |some (f,h,_)=>some (f,.ops all d::k,h)
  |none=>none
 |.ng _ _ [] _::_=>none
 |.ng all j (o::d) i::k=>match HB tt g all.toList l o with
  |some (f,h,m)=>some (f,.ng all j d ((iD (dn l) all o,m)::i)::k,h)
  |none=>none
 |.inv _::_=>none
def qg{tt:TT}(hA:cH P tt)(hm:P.follows .mixedOrders=true){j:List Nat}{k o:List It}{l l':aU}{n:List Pd}(h:D5 tt j N k l=some (n,o,l'))(hc:bo n)(a:AK R P N F o l'):AK R P N F k l:=by
 unfold D5 at h;split at h
 ·cases h
 ·rename_i c k;split at h<;>try(cases h;done)
  ·cases h;exact Hf a
  ·cases h;exact U5 a
  ·cases h;exact So a
  ·split at h<;>try(cases h;done)
   rename_i b;cases h;exact jr (DQ (K:=iR R P N F k .normal) b<|HV a) λe i⟨he,h⟩=>by subst he;exact h
  ·split at h<;>try(cases h;done)
   rename_i b f;cases h;exact jr (DR (K:=iR R P N F k .normal) hm b f W<|HR a) λe i⟨he,h⟩=>by subst he;exact h
  ·cases h;exact Sw a
  ·cases h;exact Sv a
  ·split at h<;>try(cases h;done)
   rename_i k2 he;cases h;exact U7 (Of he a)
  ·cases h;refine Xu ?_;rw[mj];exact a
  split at h<;>try(cases h;done)
  rename_i c t e b;simp[ads,afF]at h;obtain⟨x,q,d,v,p,g⟩:=h;split at g<;>try(cases g;done)
  ·cases g;exact Ha (t:=true) b (by rw[c8 q];exact aF p hc) a
  cases g;exact Ha (t:=false) b (by rw[c8 q];exact aF p hc) a
 ·cases h;exact a
 ·cases h;exact a
 ·cases h;exact a
 ·split at h<;>try(cases h;done)
  rename_i d s u hs;cases h;show rp P _ _ _ _;exact nI (vr hA hs hc λr _=>a)
 ·cases h
 ·split at h<;>try(cases h;done)
  rename_i d s u hs;cases h;refine nI<|vr hA hs hc λr m=>?_;rw[m];exact a
 cases h
def Wx{α:Type _}:List Pd->List Pd->(List Pd->α)->α
 |[],a,k=>k a
 |p::q,a,k=>Wx q (p::a) k
def Mu{α:Type _}:∀(a b:List Pd),∃c,(∀k:List Pd->α,Wx a b k=k c)/\(bo c↔bo a/\bo b)
 |[],b=>⟨b,λ_=>rfl,by simp[bo]⟩
 |p::a,b=>by
  obtain⟨c,e,d⟩:=Mu (α:=α) a<|p::b;refine⟨c,e,?_⟩;rw[d];constructor
  ·rintro⟨x,y,z⟩;exact⟨⟨y,x⟩,z⟩
  rintro⟨⟨x,y⟩,z⟩;exact⟨y,x,z⟩
def zq:List Pd->List Pd->List Pd
 |[],l=>l
 |p::m,l=>app (p::m) l
def pN{a b:List Pd}:bo (zq a b)↔bo a/\bo b:=by
 cases a with
 |nil=>simp[zq,bo]
 |cons p m=>exact aS
def Pa:List Bool->Bool
 |[]=>true
 |b::l=>match b with
  |true=>Pa l
  |false=>false
def R6{b:Bool}{l:List Bool}:Pa (b::l)=true↔b=true/\Pa l=true:=by cases b<;>simp[Pa]
def drawn:List It->Option (Bool×List It)
 |.ng all b [] a::k=>some (apart b a.reverse all.size,k)
 |_=>none
def Jt{k a:List It}{b:Bool}(h:drawn k=some (b,a))(d:b=true)(c:AK R P N F a l):AK R P N F k l:=by
 unfold drawn at h;split at h<;>try(cases h;done)
 cases h;exact⟨d,c⟩
def run(tt:TT)(c:List Nat)(N:Nat):Nat->List It->aU->List Pd->List Bool->List Pd×List Bool×List It×aU
 |0,k,l,a,qs=>(a,qs,k,l)
 |n+1,k,l,a,qs=>match drawn k with
  |some (b,d)=>run tt c N n d l a (b::qs)
  |none=>match D5 tt c N k l with
   |some (e,d,l')=>Wx e a λa=>run tt c N n d l' a qs
   |none=>(a,qs,k,l)
def nj{tt:TT}(hA:cH P tt)(hm:P.follows .mixedOrders=true){i:List Nat}:∀{n:Nat}{k g:List It}{l l':aU}{a f:List Pd}{qs d:List Bool},run tt i N n k l a qs=(f,d,g,l')->bo f->Pa d=true->
 bo a/\Pa qs=true/\(AK R P N F g l'->AK R P N F k l)
 |0,k,g,l,l',a,f,qs,d,h,hc,m=>by simp[run]at h;simp_all
 |n+1,k,g,l,l',a,f,qs,d,h,hc,m=>by
  simp[run]at h;split at h
  ·rename_i b k1 r;obtain⟨q,e,p⟩:=nj hA hm h hc m;rw[R6]at e;exact⟨q,e.2,λo=>Jt r e.1<|p o⟩
  split at h
  ·rename_i j k1 w hs;obtain⟨c,v,u⟩:=Mu (α:=List Pd×List Bool×List It×aU) j a;rw[v]at h;obtain⟨q,e,p⟩:=nj hA hm h hc m;obtain⟨t,s⟩:=u.1 q;exact⟨s,e,λo=>qg hA hm hs t<|p o⟩
  simp_all
end
def sS.refl(x:AV):sS x x:=λ_ _ _ _ h=>h
mutual
def ar:SV->SV->Prop
 |.nil,y=>match y with
  |.nil=>True
  |.ints _ _ xs=>xs=[]
  |.fv _ xs=>xs=[]
  |.strs _ xs=>xs=[]
  |.cz _ xs=>xs=[]
  |.bA _ _ _ _ xs=>xs=[]
  |_=>False
 |.agg xs,y=>match y with
  |.agg ys=>DT xs ys
  |_=>False
 |.bW xs,y=>match y with
  |.bW ys=>DT xs ys
  |_=>False
 |.n k a,y=>SV.n k a=y
 |.b a,y=>match y with
  |.b c=>a=c
  |.u c=>a=c
  |_=>False
 |.u a,y=>match y with
  |.b c=>a=c
  |.u c=>a=c
  |_=>False
 |.s a,y=>SV.s a=y
 |.c a,y=>SV.c a=y
 |.ints k o xs,y=>SV.ints k o xs=y
 |.fv k xs,y=>match y with
  |.ints j false ys=>k=j/\xs=ys
  |y=>SV.fv k xs=y
 |.strs o xs,y=>SV.strs o xs=y
 |.cz o xs,y=>SV.cz o xs=y
 |.bA o sz d e xs,y=>SV.bA o sz d e xs=y
 |.row o sz xs,y=>match y with
  |.row o' h ys=>o=o'/\sz=h/\xs=ys
  |.bA o' h _ e ys=>o=o'/\sz=h/\xs=ys.map e
  |_=>False
 |.box o x,y=>SV.box o x=y
 |.fn f a c,y=>SV.fn f a c=y
 |.bC r a b p,y=>SV.bC r a b p=y
 |.ptr r a b p,y=>SV.ptr r a b p=y
 |.hole,y=>SV.hole=y
 |.dead,y=>SV.dead=y
 |.pv C,y=>SV.pv C=y
 |.abs J,y=>SV.abs J=y
 |.fS g i,y=>SV.fS g i=y
 |.mp K,y=>SV.mp K=y
def DT:List SV->List SV->Prop
 |[],ys=>match ys with
  |[]=>True
  |_::_=>False
 |x::xs,ys=>match ys with
  |y::ys=>ar x y/\DT xs ys
  |[]=>False
end
def MF{sz a:Nat}{o:Bool}:sS (.list .nil sz []) (.list (fl o) a []):=by
 intro w S v F h;cases o
 ·simp only[Rel];left;exact⟨U,⟨none,h.2.1⟩,h.2.2⟩
 simp only[Rel];left;exact⟨U,h.2.1,h.2.2⟩
mutual
theorem ar.den:∀{x y:SV},ar x y->sS x.den y.den
 |.nil,y,h=>by
  cases y<;>simp[ar]at h
  case nil=>exact sS.refl _
  case fv=>subst h;exactλw S v F h=>by simpa[SV.den,Yx,XQ,Rel]using h
  all_goals(subst h;exact MF)
 |.agg xs,y,h=>by cases y<;>simp[ar]at h;intro w S v F m;obtain⟨cs,j,i⟩:=m;exact⟨cs,j,DT.cells h i⟩
 |.bW xs,y,h=>by cases y<;>simp[ar]at h;intro w S v F m;simp[SV.den,Rel]at m⊢;obtain⟨cs,j,i⟩:=m;exact⟨cs,j,DT.cells h i⟩
 |.n k a,y,h=>by simp[ar]at h;subst h;exact sS.refl _
 |.b a,y,h=>by cases y<;>simp[ar]at h<;>(subst h;exact sS.refl _)
 |.u a,y,h=>by cases y<;>simp[ar]at h<;>(subst h;exact sS.refl _)
 |.s a,y,h=>by simp[ar]at h;subst h;exact sS.refl _
 |.c a,y,h=>by simp[ar]at h;subst h;exact sS.refl _
 |.ints k o xs,y,h=>by simp[ar]at h;subst h;exact sS.refl _
 |.fv k xs,y,h=>by
  unfold ar at h;split at h
  ·obtain⟨rfl,rfl⟩:=h;cases xs with
   |nil=>exact MF (o:=false)
   |cons x xs=>exact sS.refl _
  subst h;exact sS.refl _
 |.strs o xs,y,h=>by simp[ar]at h;subst h;exact sS.refl _
 |.cz o xs,y,h=>by simp[ar]at h;subst h;exact sS.refl _
 |.bA o sz d e xs,y,h=>by simp[ar]at h;subst h;exact sS.refl _
 |.row o sz xs,y,h=>by
  cases y<;>simp[ar]at h
  ·obtain⟨rfl,rfl,rfl⟩:=h;rename_i e g;have:(SV.row o sz<|g.map e).den=(SV.bA o sz ‹_› e g).den:=by simp[SV.den,cn]
   rw[this];exact sS.refl _
  obtain⟨rfl,rfl,rfl⟩:=h;exact sS.refl _
 |.box o x,y,h=>by simp[ar]at h;subst h;exact sS.refl _
 |.fn f a c,y,h=>by simp[ar]at h;subst h;exact sS.refl _
 |.bC r a b p,y,h=>by simp[ar]at h;subst h;exact sS.refl _
 |.ptr r a b p,y,h=>by simp[ar]at h;subst h;exact sS.refl _
 |.hole,y,h=>by simp[ar]at h;subst h;exact sS.refl _
 |.dead,y,h=>by simp[ar]at h;subst h;exact sS.refl _
 |.pv _,y,h=>by simp[ar]at h;subst h;exact sS.refl _
 |.abs _,y,h=>by simp[ar]at h;subst h;exact sS.refl _
 |.fS _ _,y,h=>by simp[ar]at h;subst h;exact sS.refl _
 |.mp _,y,h=>by simp[ar]at h;subst h;exact sS.refl _
theorem DT.cells:∀{xs g:List SV},DT xs g->∀{w:World}{S:Nat->Prop}{one:Bool}{l:List Value}{F:List Nat},Cells w S one (aB xs) l F->Cells w S one (aB g) l F
 |[],g,h,w,S,one,l,F,hc=>by cases g<;>simp[DT]at h;exact hc
 |x::xs,g,h,w,S,one,l,F,hc=>by
  cases g with
  |nil=>simp[DT]at h
  |cons y g=>simp[DT]at h;simp[aB,Cells]at hc⊢;obtain⟨v,n,z,u,j,i,t,s,q⟩:=hc;exact⟨v,n,z,u,j,i,t,ar.den h.1 _ _ _ _ s,DT.cells h.2 q⟩
end
mutual
theorem ar.refl:∀x:SV,ar x x
 |.nil=>trivial
 |.agg xs=>by simp[ar];exact DT.refl xs
 |.bW xs=>by simp[ar];exact DT.refl xs
 |.n .. |.b _|.u _|.s _|.c _|.ints .. |.fv .. |.strs .. |.cz .. |.bA .. |.box .. |.fn .. |.bC .. |.ptr .. |.hole|.dead|.pv _|.abs _|.fS .. |.mp _=>rfl
 |.row .. =>kL
theorem DT.refl:∀xs:List SV,DT xs xs
 |[]=>trivial
 |x::xs=>by simp[DT];exact⟨ar.refl x,DT.refl xs⟩
end
def ar.of_eq{x y:SV}(h:x=y):ar x y:=h▸ar.refl x
def aM(P:Program)(f:FuncId)(args:List SV)(r:SV):Prop:=Sound P f (aB args) r.den
def aM.same{P:Program}{f:FuncId}{asx bs:List SV}{r q:SV}(h:aM P f asx r)(e:aB asx=aB bs)(e':r.den=q.den):aM P f bs q:=by unfold aM at *;rw[<-e,<-e'];exact h
def aM.XM{P:Program}{f:FuncId}{asx bs:List SV}{r:SV}(h:aM P f bs r)(hl:DT asx bs):aM P f asx r:=λw S a c b hc=>h w S a c b<|DT.cells hl hc
def Ay:Nat->List SV->aU
 |_,[]=>[]
 |k,x::xs=>(k,⟨x,0,0⟩)::Ay (k+1) xs
def Cy:∀(k:Nat)(xs:List SV),dn (Ay k xs)=mk (entry k<|aB xs)
 |_,[]=>rfl
 |k,x::xs=>by simp[Ay,fR,Cy (k+1) xs];rfl
def iB(tt:TT)(l:aU):List ResultVar->Option (List SV)
 |[]=>some []
 |.tmp t::rs=>match(gt l t).v.plain with
  |true=>match iB tt l rs with
   |some xs=>some ((gt l t).v::xs)
   |none=>none
  |false=>none
 |.cell t ty::rs=>match(gt l t).v with
  |.box true x=>match Fw tt ty with
   |some ti=>match my ti x with
    |true=>match iB tt l rs with
     |some xs=>some (x::xs)
     |none=>none
    |false=>none
   |none=>none
  |_=>none
def nk{P:Program}{tt:TT}(hA:cH P tt){l:aU}:∀{rs:List ResultVar}{xs:List SV},iB tt l rs=some xs->ja P (dn l) rs=some (aB xs)
 |[],xs,h=>by simp[iB]at h;subst h;rfl
 |.cell t ty::rs,xs,h=>by
  simp[iB]at h;split at h<;>try(cases h)
  rename_i x e;split at h<;>try(cases h)
  rename_i ti c;split at h<;>try(cases h)
  rename_i b;split at h<;>try(cases h;done)
  rename_i ys a;cases h;have d:(dn l t).av=.box true x.den:=by rw[dL,e];rfl
  simp[ja,d,j7 hA c,je _ _ b,nk hA a,aB]
 |.tmp t::rs,xs,h=>by
  simp[iB]at h;split at h<;>try(cases h)
  rename_i f;split at h<;>try(cases h;done)
  rename_i ys a;cases h;have:(dn l t).av.plain=true:=by rw[dL,dj];exact f
  simp[ja,this,nk hA a];rfl
def vK(xs:List SV):SV:=match xs with|[x]=>x|xs=>.bW xs
def vJ(xs:List SV):rS (aB xs)=(vK xs).den:=by
 match xs with
 |[]=>rfl
 |[x]=>rfl
 |x::y::xs=>rfl
def Pu(P:Program)(rs:List ResultVar)(r:SV)(σ:St):Prop:=∃a,ja P σ rs=some a/\uq (rS a) r.den
section
variable{R:Option Nat->Prop}{P:Program}{N:Nat}{F:St->Prop}{k:List It}{l:aU}{tt:TT}
def enter{f:FuncId}{fn:Func}{c:Code}{args:List SV}{r:SV}(d:P.funcs[f]?=some fn)(i:fn.body=some c)(hn:(fn.name== "runtime.NumGoroutine")=false)(a:Nat.ble (len args) fn.ntmps=true)
 (g:eG fn.results.toList []=true)(h:AK R0 P fn.ntmps (Pu P fn.results.toList r) [.code c] (Ay 0 args)):aM P f args r:=by
 refine HE d i hn (by rw[bB,<-fH];simp_all) g ?_;rw[<-Cy];exact jr (h:AW R0 P fn.ntmps c (iR R0 P fn.ntmps (Pu P fn.results.toList r) []) (dn<|Ay 0 args)) λe b h=>by cases e<;>exact h
def ret(hA:cH P tt){rs:List ResultVar}{r:SV}{xs:List SV}(h:iB tt l rs=some xs)(a:ar (vK xs) r):AK R P N (Pu P rs r) [] l:=by refine⟨_,nk hA h,?_⟩;rw[vJ];exact uq.of_le a.den
def X0(hA:cH P tt){rs:List ResultVar}{r:SV}{xs:List SV}(h:iB tt l rs=some xs)(b:ar (vK xs).b9 r):AK R P N (Pu P rs r) [] l:=by refine⟨_,nk hA h,?_⟩;rw[vJ];intro w S v F a;refine⟨[],F,I,λe c d=>b.den _ _ _ _ ?_⟩;rw[<-gh];exact Rel.share c _ a d
def uy:∀xs ys:List SV,iX (cat xs ys)=cat (iX xs) (iX ys)
 |[],_=>rfl
 |x::xs,ys=>by simp[cat,iX,uy xs ys]
def nE{α:Type}{e:α->SV}(h:∀x,(e x).b9=e x):∀xs:List α,iX (xs.map e)=xs.map e
 |[]=>rfl
 |x::xs=>by simp[iX,h x,nE h xs]
def go(hA:cH P tt)(hm:P.follows .mixedOrders=true)(a:List Nat){b:List Pd}{qs:List Bool}{c:List It}{l':aU}(h:run tt a N 100000 k l [] []=(b,qs,c,l'))(d:Pa qs=true)(e:bo b)(f:AK R P N F c l'):AK R P N F k l:=(nj hA hm h e d).2.2 f
def branch{c:Operand}{t e:Code}{x:SR}{b:Bool}{a:List Pd}(g:aJ c=true)(h:dW l c=some x)(d:c6 x=some (a,.u b))(f:bo a)(j:b=true->AK R P N F (.code t::k) l)(i:b=false->AK R P N F (.code e::k) l):
 AK R P N F (.code (.cond c t e)::k) l:=by
 refine Ha (t:=b) g (by rw[c8 h];exact aF d f) ?_;cases b
 ·exact i W
 exact j W
def UY{c:Operand}{t e:Code}{x:SR}{p:Prop}[Decidable p]{a:List Pd}(f:aJ c=true)(h:dW l c=some x)(b:c6 x=some (a,.u<|decide p))(d:bo a)(i:p->AK R P N F (.code t::k) l)(g:¬p->AK R P N F (.code e::k) l):
 AK R P N F (.code (.cond c t e)::k) l:=
 branch f h b d (λh=>i<|of_decide_eq_true h) λh=>g<|of_decide_eq_false h
def known{d:Nat}{b c:Bool}(h:(gt l d).v=.u b)(a:b=c):dn ((d,⟨.b c,(gt l d).g1,(gt l d).g2⟩)::l)=dn l:=by
 subst a;rw[fR]
 funext i
 unfold iI;split
 ·rename_i e;subst e;simp[Cl.den,dn,h];rfl
 rfl
def iN(d:Nat){b:Bool}(h:(gt l d).v=.u b)(c:b=true->AK R P N F k ((d,⟨.b true,(gt l d).g1,(gt l d).g2⟩)::l))(a:b=false->AK R P N F k ((d,⟨.b false,(gt l d).g1,(gt l d).g2⟩)::l)):AK R P N F k l:=by
 cases b
 ·have:=a W;unfold AK at this;rw[known h W]at this;exact this
 have:=c W;unfold AK at this;rw[known h W]at this;exact this
def aC(d:Nat){p:Prop}[Decidable p](h:(gt l d).v=.u (decide p))(c:p->AK R P N F k ((d,⟨.b true,(gt l d).g1,(gt l d).g2⟩)::l))(a:¬p->AK R P N F k ((d,⟨.b false,(gt l d).g1,(gt l d).g2⟩)::l)):AK R P N F k l:=iN d h (λh=>c<|of_decide_eq_true h) λh=>a<|of_decide_eq_false h
mutual
def SV.kF:SV->List Pd×Bool
 |.bA true _ _ e _=>([.of<|∀x,(e x).cL=true],true)
 |.bA false _ _ _ _=>([],false)
 |.ints _ o _=>([],o)
 |.fv _ xs=>([xs≠[]],false)
 |.strs o _=>([],o)
 |.cz o _=>([],o)
 |.row false _ _=>([],false)
 |.row true _ xs=>kE xs
 |.box false _=>([],false)
 |.box true x=>x.kF
 |.agg xs=>kE xs
 |.bW xs=>kE xs
 |.fn _ a c=>match kE a,kE c with
  |(f,b),(d,g)=>(zq f d,eX b g)
 |_=>([],true)
def kE:List SV->List Pd×Bool
 |[]=>([],true)
 |x::xs=>match x.kF,kE xs with
  |(f,b),(d,g)=>(zq f d,eX b g)
end
def JZ(a b:Bool):eX a b=(a&&b):=by cases a<;>rfl
mutual
theorem rL:∀{x:SV},bo x.kF.1->x.den.cL=x.kF.2
 |.n ..,_|.b _,_|.u _,_|.s _,_|.c _,_|.nil,_|.hole,_|.dead,_|.bC ..,_|.ptr ..,_|.pv _,_|.abs _,_|.fS ..,_|.mp _,_=>rfl
 |.ints k true xs,_=>nn (.ints k true xs) W
 |.ints k false xs,_=>rfl
 |.fv k xs,h=>by
  have h:=h.1;cases xs with
  |nil=>simp_all
  |cons=>rfl
 |.strs true xs,_=>nn (.strs true xs) W
 |.strs false xs,_=>rfl
 |.cz true xs,_=>nn (.cz true xs) W
 |.cz false xs,_=>rfl
 |.bA true sz d e xs,h=>by refine td λy j=>?_;obtain⟨z,-,rfl⟩:=aeN.1 j;exact nn _ (h.1 z)
 |.bA false ..,_=>rfl
 |.row true sz xs,h=>by simp[SV.kF]at h⊢;exact jk h
 |.row false ..,_=>rfl
 |.box true x,h=>by simp[SV.kF]at h⊢;simp[SV.den];exact rL h
 |.box false _,_=>rfl
 |.agg xs,h=>by simp[SV.kF]at h⊢;exact jk h
 |.bW xs,h=>by simp[SV.kF]at h⊢;exact jk h
 |.fn f a c,h=>by simp[SV.kF]at h⊢;obtain⟨i,g⟩:=pN.1 h;simp[SV.den,AV.cL,jk i,jk g,JZ]
theorem jk:∀{xs:List SV},bo (kE xs).1->jw (aB xs)=(kE xs).2
 |[],_=>rfl
 |x::xs,h=>by simp[kE]at h⊢;obtain⟨i,g⟩:=pN.1 h;simp[aB,jw,rL i,jk g,JZ]
end
structure pX where
 g:FuncId
 asx:List SV
 sh:List (Nat×Path)
def oE(l:aU)(f:Operand)(asx:List Operand):Option (List Pd×pX):=
 (dW l f).bind λf=>(c6 f).bind λ(h,v)=>match v with
   |.fn (.func g) first a=>(TL<|eX (gE first)<|gE a).bind λ_=>(jQ l asx).bind λd=>(uR d).bind λ(c,e)=>(sU d).bind λ(b,sh)=>some (zq h<|zq c b,⟨g,cat first<|cat e a,sh⟩)
   |_=>none
def OT{f:Operand}{asx:List Operand}{d:List Pd}{h:pX}(hh:oE l f asx=some (d,h))(hc:bo d):
 EN (dn l) (resolve (dn l) f) (asx.map<|resolve<|dn l)=some (h.g,aB h.asx,h.sh.map λm=>.share m.1 m.2):=by
 simp[oE,ads]at hh;obtain⟨x,u,j,v,t,b⟩:=hh;cases v<;>try(cases b)
 rename_i fn first a
 cases fn<;>try(cases b)
 rename_i g;simp only[ads,bE,aO,afF]at b;obtain⟨_,⟨s,r⟩,B,q,i,A,p,e,sh,o,rfl,rfl⟩:=b;obtain⟨z,c⟩:=pN.1 hc;obtain⟨y,w⟩:=pN.1 c;have n:x.den.cont=some (.fn (.func g) (aB first)<|aB a):=aF t z;unfold EN;rw[c8 u,n];simp[dV,s,r,fo l q,qD p y,aak o w,cX];simp[cn]
def jE(l:aU)(a:Option Nat)(r:SV)(sh:List (Nat×Path)):og:=
 match sh with
 |[]=>DF [] l [] a r
 |(m,p)::sh=>match r.kF with
  |(c,b)=>match b with
  |true=>DF c l [] a r
  |false=>match sh with
   |[]=>(rM l m p).bind λ(e,f)=>DF (zq c e) f [m] a r
   |_=>none
 where DF (c:List Pd) (l:aU) (g:List Nat):Option Nat->SV->og
  |none,_=>some (c,l,g)
  |some d,r=>aan l [] d r λf=>some (c,f,cat g [d])
def Hv{c:Option Nat}{r:SV}{sh:List (Nat×Path)}{j:List Pd}{l':aU}{o:List Nat}(h:jE l c r sh=some (j,l',o))(hc:bo j):
 ∃f,yU c r.den (sh.map λm=>.share m.1 m.2)=some f/\Mv.runs (dn l) f=some (dn l')/\bc f=o:=by
 have plain:∀{a:List Pd},jE.DF a l [] c r=some (j,l',o)->∃f,some (gF c r.den [])=some f/\Mv.runs (dn l) f=some (dn l')/\bc f=o:=by
  intro a h;cases c with
  |none=>simp[jE.DF]at h;obtain⟨-,rfl,rfl⟩:=h;exact⟨_,W,W,W⟩
  |some d=>simp[jE.DF,jd]at h;obtain⟨-,rfl,rfl⟩:=h;exact⟨_,W,by simp[gF,Mv.runs,Mv.run,iL],fb⟩
 unfold jE at h;cases sh with
 |nil=>have:=plain h;unfold yU;simp_all
 |cons m sh=>
  obtain⟨a,b,q⟩:∃a b,r.kF=(a,b):=⟨_,_,W⟩;have n:bo a->r.den.cL=b:=λhc=>by have:=rL (x:=r) (by rw[q];exact hc);rw[this,q]
  rw[q]at h;have i:=h;cases b with
  |true=>
   have e:a=j:=by cases c<;>simp[jE.DF,jd]at i<;>exact i.1
   subst e;have:=plain i;unfold yU;simp_all
  |false=>
   cases sh with
   |cons _ _=>cases i
   |nil=>
    simp[ads]at i;obtain⟨p,v,s,g⟩:=i;have e:zq a p=j:=by cases c<;>simp[jE.DF,jd]at g<;>exact g.1
    subst e;obtain⟨u,t⟩:=pN.1 hc;unfold yU;rw[n u];cases c with
    |none=>simp only[jE.DF]at g;obtain⟨-,rfl,rfl⟩:=g;simp[gF,Mv.runs];rw[lG s t];exact G
    |some d=>simp only[jE.DF,jd]at g;obtain⟨-,rfl,rfl⟩:=g;simp[gF,Mv.runs];rw[lG s t];exact⟨by simp[Mv.run,iL],fb⟩
def GY{all:Array Oper}{a:Option Nat}{f:Operand}{asx i:Array _}{ty:TypeId}{pos:String}{c:Array Edge}{g:Option (Nat×Bool)}{K:List Mv->St->Prop}{p d:List Pd}{h:pX}{r:SV}{l':aU}{s:List Nat}
 (v:cV l all.toList g=some true)(hh:oE l f asx.toList=some (p,h))(u:bo p)(hs:aM P h.g h.asx r)(t:jE l a r h.sh=some (d,l',s))(n:bo d)(w:∀m,bc m=s->K m (dn l')):
 si P all ⟨a,.call ⟨.value f,asx,i⟩,ty,pos,c,g⟩ (dn l) K:=by
 have e:si P all ⟨a,.call ⟨.value f,asx,i⟩,ty,pos,c,none⟩ (dn l) K:=by rw[WE,OT hh u,Pv];refine⟨r.den,hs,?_⟩;obtain⟨m,z,y,x⟩:=Hv t n;simp[tJ];simp_all
 cases g with
 |none=>exact e
 |some q=>obtain⟨j,b⟩:=q;rw[Ge,dS (o:=⟨a,.call ⟨.value f,asx,i⟩,ty,pos,c,some (j,b)⟩) v];simpa using e
def call{all:Array Oper}{rest:List Oper}{b:Option Nat}{f:Operand}{asx i:Array _}{ty:TypeId}{pos:String}{d:Array Edge}{g:Option (Nat×Bool)}{e a:List Pd}{h:pX}{r:SV}{l':aU}{j:List Nat}
 (p:cV l all.toList g=some true)(hh:oE l f asx.toList=some (e,h))(n:bo e)(hs:aM P h.g h.asx r)(m:jE l b r h.sh=some (a,l',j))(c:bo a)(o:AK R P N F (.ops all rest::k) l'):
 AK R P N F (.ops all (⟨b,.call ⟨.value f,asx,i⟩,ty,pos,d,g⟩::rest)::k) l:=by
 exact nI<|GY p hh n hs m c λq _=>o
def Sb{all:Array Oper}{n:List Nat}{d:List (List Nat×List Nat)}{rest:List Oper}{a:Option Nat}{f:Operand}{asx j:Array _}{ty:TypeId}{pos:String}{c:Array Edge}{g:Option (Nat×Bool)}{m b:List Pd}{h:pX}{r:SV}{l':aU}{o:List Nat}
 (t:cV l all.toList g=some true)(hh:oE l f asx.toList=some (m,h))(q:bo m)(hs:aM P h.g h.asx r)(p:jE l a r h.sh=some (b,l',o))(e:bo b)
 (s:AK R P N F (.ng all n rest ((iD (dn l) all ⟨a,.call ⟨.value f,asx,j⟩,ty,pos,c,g⟩,o)::d)::k) l'):
 AK R P N F (.ng all n (⟨a,.call ⟨.value f,asx,j⟩,ty,pos,c,g⟩::rest) d::k) l:=by
 exact nI (GY t hh q hs p e λu i=>by rw[i];exact s)
def sl:List (Nat×SV)->aU
 |[]=>[]
 |(i,x)::r=>(i,⟨x,0,0⟩)::sl r
def ShS(x y:SV):Prop:=y=x\/y=x.b9
def jC:List SV->List SV->Prop
 |[],ys=>ys=[]
 |x::xs,ys=>match ys with
  |[]=>False
  |y::ys=>ShS x y/\jC xs ys
def jC.refl:∀xs:List SV,jC xs xs
 |[]=>rfl
 |_::xs=>⟨.inl W,jC.refl xs⟩
def jC.append:∀{xs ys us a:List SV},jC xs ys->jC us a->jC (xs++us) (ys++a)
 |[],ys,us,a,h,k=>by simp[jC]at h;subst h;exact k
 |x::xs,ys,us,a,h,k=>by
  cases ys with
  |nil=>exact h.elim
  |cons y ys=>exact⟨h.1,jC.append h.2 k⟩
def XL(x y:SV):Prop:=match x with
 |.row o sz b=>match y with
  |.bA d a _ e c=>o=d/\sz=a/\jC b (c.map e)
  |y=>ar (.row o sz b) y
 |x=>ar x y
def Cz{w:World}{S:Nat->Prop}{sz:Nat}:∀{xs ys:List SV}{l:List Value}{F:List Nat},jC xs ys->c7 w S sz (aB xs) l F->
 ∃a d,F.Perm (a++d)/\∀S':Nat->Prop,(∀b,S b->S' b)->(∀b∈d,S' b)->c7 w S' sz (aB ys) l a
 |[],ys,l,F,h,k=>by simp[jC]at h;subst h;exact⟨[],[],by rw[k.2];simp,λ_ _ _=>⟨k.1,W⟩⟩
 |x::xs,ys,l,F,h,k=>by
  cases ys with
  |nil=>exact h.elim
  |cons y ys=>
   obtain⟨v,l',g,p,rfl,rfl,m,j,n⟩:=k;obtain⟨a,d,o,i⟩:=Cz h.2 n;rcases h.1 with rfl|rfl
   ·refine⟨g++a,d,by grind,λS' c e=>?_⟩;exact⟨v,l',g,a,W,W,m,Rel.mono c _ j,i S' c e⟩
   refine⟨a,g++d,?_,λS' c e=>?_⟩
   ·grind
   refine⟨v,l',[],a,W,W,m,?_,i S' c λb f=>e b<|by simp[f]⟩;rw[<-gh];exact Rel.share c _ j λb f=>e b (by simp[f])
def XL.den{x y:SV}(h:XL x y):uq x.den y.den:=by
 cases x
 case row o sz J=>
  cases y
  case bA V K T d e r=>
   obtain⟨rfl,rfl,h⟩:=h;have Q:(SV.bA o sz d e r).den=.list (fl o) sz (aB<|r.map e):=by simp[SV.den,cn]
   have a:(aB J).length=(aB<|r.map e).length:=by
    have:∀{m j:List SV},jC m j->m.length=j.length:=by
     intro m
     induction m with
     |nil=>intro j h;subst h;rfl
     |cons u m L=>
      intro j h;cases j with
      |nil=>exact h.elim
      |cons v j=>simp[L h.2]
    simp[cn]at*;simpa using this h
   rw[Q];intro w S v F n;cases o
   ·simp only[Rel]at n⊢;rcases n with⟨g,f,c⟩|⟨b,s,i,B,O,g,f,c,q,A,z⟩
    ·refine⟨[],[],by rw[c];simp,λC p _=>.inl ⟨?_,f,W⟩⟩
     grind
    obtain⟨D,H,t,M⟩:=Cz h A;have hn:=t.symm.eq_nil;rw[a]at g q;refine⟨[],[],by rw[z];simp,λC p _=>.inr ⟨b,s,i,B,O,g,p b f,c,q,?_,W⟩⟩;simp_all
   simp only[Rel]at n⊢;rcases n with⟨g,f,c⟩|⟨b,i,B,Y,g,f,c,q,A,z,rfl⟩
   ·refine⟨[],[],by rw[c];simp,λC p _=>.inl ⟨?_,f,W⟩⟩
    grind
   obtain⟨D,H,t,M⟩:=Cz h z;rw[a]at g c;refine⟨b::D,H,List.Perm.cons b t,λC p X=>.inr ⟨b,i,B,D,g,f,c,q,A,?_,W⟩⟩;simp_all
  all_goals exact uq.of_le<|ar.den h
 all_goals exact uq.of_le<|ar.den h
def Hr{b a f e d c:List Nat}(h:b.Perm (f++e))(k:a.Perm (d++c)):(b++a).Perm ((f++d)++(e++c)):=by grind
def Hs{o:Bool}{sz:Nat}{xs ys:List AV}(a:xs.length=ys.length)(c:∀{w:World}{S:Nat->Prop}{l:List Value}{F:List Nat},c7 w S sz xs l F->
 ∃h i,F.Perm (h++i)/\∀S':Nat->Prop,(∀b,S b->S' b)->(∀b∈i,S' b)->c7 w S' sz ys l h):uq (.list (fl o) sz xs) (.list (fl o) sz ys):=by
 intro w S v F j;cases o
 ·simp only[Rel]at j⊢;rcases j with⟨f,e,d⟩|⟨b,p,g,s,x,f,e,d,n,r,q⟩
  ·refine⟨[],[],by rw[d];simp,λS' m _=>.inl ⟨?_,e,W⟩⟩
   grind
  obtain⟨h,i,t,u⟩:=c r;rw[a]at f n;refine⟨[],[],by rw[q];simp,λS' m _=>.inr ⟨b,p,g,s,x,f,m b e,d,n,?_,W⟩⟩;simp_all
 simp only[Rel]at j⊢;rcases j with⟨f,e,d⟩|⟨b,g,s,z,f,e,d,n,r,q,rfl⟩
 ·refine⟨[],[],by rw[d];simp,λS' m _=>.inl ⟨?_,e,W⟩⟩
  grind
 obtain⟨h,i,t,u⟩:=c q;rw[a]at f d;refine⟨b::h,i,List.Perm.cons b t,λS' m y=>.inr ⟨b,g,s,h,f,e,d,n,r,?_,W⟩⟩;simp_all
mutual
inductive Ah:SV->SV->Prop
 |le {x y:SV}:ar x y->Ah x y
 |shr {x y:SV}:y=x.b9->Ah x y
 |row {o:Bool} {sz:Nat} {α:Type} {d:α} {e:α->SV} {xs:List SV} {ys:List α}:o6 xs (ys.map e)->Ah (.row o sz xs) (.bA o sz d e ys)
 |bA {o:Bool} {sz:Nat} {α a:Type} {d:α} {e:α->SV} {d':a} {e':a->SV} {xs:List α} {ys:List a}:o6 (xs.map e) (ys.map e')->Ah (.bA o sz d e xs) (.bA o sz d' e' ys)
 |agg {xs ys:List SV}:o6 xs ys->Ah (.agg xs) (.agg ys)
 |bW {xs ys:List SV}:o6 xs ys->Ah (.bW xs) (.bW ys)
 |box {o:Bool} {x y:SV}:Ah x y->Ah (.box o x) (.box o y)
inductive o6:List SV->List SV->Prop
 |nil:o6 [] []
 |cons {x y:SV} {xs ys:List SV}:Ah x y->o6 xs ys->o6 (x::xs) (y::ys)
end
def Ah.refl(x:SV):Ah x x:=.le<|ar.refl x
def o6.refl:∀xs:List SV,o6 xs xs
 |[]=>.nil
 |x::xs=>.cons (Ah.refl x)<|o6.refl xs
def o6.len:∀{xs ys:List SV},o6 xs ys->(aB xs).length=(aB ys).length
 |[],_,h=>by cases h;rfl
 |x::xs,_,h=>by
  cases h with
  |cons b a=>simp[aB,o6.len a]
def o6.set:∀{xs ys:List SV}{i:Nat}{x y:SV},o6 xs ys->Ah x y->o6 (xs.set i x) (ys.set i y)
 |[],_,_,_,_,h,_=>by cases h;exact .nil
 |x::xs,_,0,_,_,h,k=>by
  cases h with
  |cons b a=>exact .cons k a
 |x::xs,_,i+1,_,_,h,k=>by
  cases h with
  |cons b a=>exact .cons b<|o6.set a k
def o6.rep{x y:SV}(h:Ah x y):∀n,o6 (List.replicate n x) (List.replicate n y)
 |0=>.nil
 |n+1=>.cons h<|o6.rep h n
mutual
theorem Ah.den:∀{x y:SV},Ah x y->uq x.den y.den
 |_,_,.le h=>uq.of_le (ar.den h)
 |x,_,.shr h=>by subst h;rw[<-gh];exact uq.share _
 |_,_,.row (o:=o) (sz:=sz) (d:=d) (e:=e) (xs:=xs) (ys:=ys) h=>by
  have J:(SV.bA o sz d e ys).den=.list (fl o) sz (aB<|ys.map e):=by simp[SV.den,cn]
  rw[J];exact Hs (o:=o) (sz:=sz) (o6.len h) λk=>o6.XG h k
 |_,_,.bA (o:=o) (sz:=sz) (d:=d) (e:=e) (d':=d') (e':=e') (xs:=xs) (ys:=ys) h=>by
  have J:(SV.bA o sz d' e' ys).den=.list (fl o) sz (aB<|ys.map e'):=by simp[SV.den,cn]
  have M:(SV.bA o sz d e xs).den=.list (fl o) sz (aB<|xs.map e):=by simp[SV.den,cn]
  rw[J,M];exact Hs (o:=o) (sz:=sz) (o6.len h) λk=>o6.XG h k
 |_,_,.agg h=>by intro w S v F q;obtain⟨u,p,n⟩:=q;obtain⟨c,f,j,s⟩:=o6.cells h n;exact⟨c,f,j,λa g i=>⟨u,p,s a g i⟩⟩
 |_,_,.bW h=>by intro w S v F q;obtain⟨u,p,n⟩:=q;obtain⟨c,f,j,s⟩:=o6.cells h n;exact⟨c,f,j,λa g i=>⟨u,p,s a g i⟩⟩
 |_,_,.box (o:=o) h=>by
  intro w S v F q;obtain⟨b,u,L,T,z,p,n,A,t,m⟩:=q;obtain⟨c,f,j,s⟩:=Ah.den h w S z T A;cases o with
  |true=>obtain⟨m,rfl⟩:=m;exact⟨b::c,f,List.Perm.cons b j,λa g i=>⟨b,u,L,c,z,p,n,s a g i,t,m,W⟩⟩
  |false=>obtain⟨m,rfl,rfl⟩:=m;have hn:c++f=[]:=j.symm.eq_nil;simp[agS]at hn;obtain⟨rfl,rfl⟩:=hn;exact⟨[],[],I,λa g i=>⟨b,u,L,[],z,p,n,s a g i,t,g b m,W,W⟩⟩
theorem o6.XG:∀{xs ys:List SV},o6 xs ys->∀{w:World}{S:Nat->Prop}{sz:Nat}{l:List Value}{F:List Nat},c7 w S sz (aB xs) l F->
 ∃c f,F.Perm (c++f)/\∀a:Nat->Prop,(∀b,S b->a b)->(∀b∈f,a b)->c7 w a sz (aB ys) l c
 |_,_,.nil=>λk=>by exact⟨[],[],by rw[k.2];simp,λ_ _ _=>⟨k.1,W⟩⟩
 |_,_,.cons p n=>λk=>by simp only[aB,c7]at k⊢;obtain⟨v,C,Q,O,rfl,rfl,A,t,m⟩:=k;obtain⟨c,f,j,q⟩:=o6.XG n m;obtain⟨B,K,H,D⟩:=Ah.den p _ _ _ _ t;exact⟨B++c,K++f,Hr H j,λa g i=>⟨v,C,B,c,W,W,A,D a g λb r=>i b<|by simp[r],q a g λb r=>i b<|by simp[r]⟩⟩
theorem o6.cells:∀{xs ys:List SV},o6 xs ys->∀{w:World}{S:Nat->Prop}{one:Bool}{l:List Value}{F:List Nat},Cells w S one (aB xs) l F->
 ∃c f,F.Perm (c++f)/\∀a:Nat->Prop,(∀b,S b->a b)->(∀b∈f,a b)->Cells w a one (aB ys) l c
 |_,_,.nil=>λk=>by simp[aB,Cells]at k⊢;exact⟨[],[],by rw[k.2];simp,λ_ _ _=>⟨k.1,W⟩⟩
 |_,_,.cons p n=>λk=>by simp only[aB,Cells]at k⊢;obtain⟨v,C,Q,O,rfl,rfl,A,t,m⟩:=k;obtain⟨c,f,j,q⟩:=o6.cells n m;obtain⟨B,K,H,D⟩:=Ah.den p _ _ _ _ t;exact⟨B++c,K++f,Hr H j,λa g i=>⟨v,C,B,c,W,W,A,D a g λb r=>i b<|by simp[r],q a g λb r=>i b<|by simp[r]⟩⟩
end
def okB(l:aU)(b:Bool)(r g2:Nat)(p:Path):Bool:=DN b<|eX (Nat.beq (gt l r).g2 g2)<|match gJ (gt l r).v p with|some ([],_)=>true|_=>false
def OkP(l:aU)(b:Bool)(r g2:Nat)(p:Path):Prop:=(b=true\/(gt l r).g2=g2)/\(b=false->∃y,bp (gt l r).v.den p=some y)
def Ig{l:aU}{b:Bool}{r g2:Nat}{p:Path}(h:okB l b r g2 p=true):OkP l b r g2 p:=by
 cases b with
 |true=>exact⟨.inl W,λh=>by cases h⟩
 |false=>
  have h:eX (Nat.beq (gt l r).g2 g2) (match gJ (gt l r).v p with|some ([],_)=>true|_=>false)=true:=h;cases a:Nat.beq (gt l r).g2 g2 with
  |false=>rw[a]at h;cases h
  |true=>
   rw[a]at h;refine⟨.inr<|afb a,λ_=>?_⟩;split at h
   ·rename_i y c;exact⟨_,cF c U⟩
   cases h
def zY:List (Nat×Nat)->List (Nat×Nat)
 |[]=>[]
 |(r,_)::q=>(r,0)::zY q
def Fa(l:aU):List (Nat×Nat)->Bool
 |[]=>true
 |(r,a)::q=>eX (Nat.beq (gt l r).g1 a)<|Fa l q
def C2{l:aU}:∀{b:List (Nat×Nat)},Fa l b=true->∀q∈b,(gt l q.1).g1=q.2
 |[],_,q,d=>by cases d
 |(r,a)::c,h,q,d=>by
  simp[Fa,aO]at h;rcases adZ.1 d with rfl|d
  ·simp_all
  exact C2 h.2 q d
def abp:∀{d:List (Nat×Nat)},∀q∈zY d,q.2=0
 |[],q,b=>by simp[zY]at b
 |(r,a)::c,q,b=>by
  rcases adZ.1 b with rfl|b
  ·rfl
  exact abp q b
def Fc{α:Type}(f:Nat->α):∀b:List (Nat×Nat),(zY b).map (λq=>f q.1)=b.map λq=>f q.1
 |[]=>rfl
 |(r,a)::c=>by simp[zY,Fc f c]
def sR(l:aU)(x y:SV):Prop:=match x with
 |.bC r a g2 p=>y=.bC r 0 0 p/\OkP l (kh p) r g2 p/\(gt l r).g1=a
 |.ptr r a g2 p=>y=.ptr r 0 0 p/\OkP l (flat p) r g2 p/\(gt l r).g1=a
 |.abs J=>y=.abs J
 |.fS g b=>y=.fS g (zY b)/\Fa l b=true
 |_=>False
def Ve(l:aU)(x y:SV):Prop:=match x with
 |.bC r a g2 p=>y=.bC r 0 0 p/\okB l (kh p) r g2 p=true/\(gt l r).g1=a
 |.ptr r a g2 p=>y=.ptr r 0 0 p/\okB l (flat p) r g2 p=true/\(gt l r).g1=a
 |.abs J=>y=.abs J
 |.fS g b=>y=.fS g (zY b)/\Fa l b=true
 |x=>x.plain=true/\XL x y
def Fits(l:aU):List (Nat×SV)->Prop
 |[]=>True
 |(i,y)::r=>Ve l (gt l i).v y/\Fits l r
def ar.plain{x y:SV}(h:ar x y)(a:x.plain=true):y.plain=true:=by
 cases x
 case fv=>
  unfold ar at h;split at h
  ·rfl
  subst h;exact a
 all_goals first|(subst h;exact a)|(cases y<;>first|rfl|exact h.elim)
def XL.plain{x y:SV}(h:XL x y)(a:x.plain=true):y.plain=true:=by
 unfold XL at h;split at h
 ·split at h
  ·rfl
  exact h.plain a
 exact h.plain a
def ur(l:aU):List (Nat×SV)->Prop
 |[]=>True
 |(i,y)::r=>(((gt l i).v.plain=true/\y.plain=true/\uq (gt l i).v.den y.den)\/sR l (gt l i).v y)/\ur l r
def EU:∀{l':List (Nat×SV)},ur l l'->∀i,(gt (sl l') i).v=.dead\/((gt l i).v.plain=true/\(gt (sl l') i).v.plain=true/\uq (gt l i).v.den (gt (sl l') i).v.den)\/sR l (gt l i).v (gt (sl l') i).v
 |[],_,i=>.inl W
 |(j,y)::r,h,i=>by
  simp[sl,gt];split
  ·rename_i a;have:=afb a;subst this;exact .inr h.1
  exact EU h.2 i
def Ve.Hj{l:aU}{x y:SV}(h:Ve l x y):(x.plain=true/\y.plain=true/\uq x.den y.den)\/sR l x y:=by
 unfold Ve at h;split at h
 ·exact .inr ⟨h.1,Ig h.2.1,h.2.2⟩
 ·exact .inr ⟨h.1,Ig h.2.1,h.2.2⟩
 ·exact .inr h
 ·exact .inr h
 exact .inl ⟨h.1,h.2.plain h.1,h.2.den⟩
def Fits.Hj{l:aU}:∀{l':List (Nat×SV)},Fits l l'->ur l l'
 |[],_=>trivial
 |(_,_)::_,h=>⟨h.1.Hj,Fits.Hj h.2⟩
def Vd(l:aU)(x y:SV):Prop:=match x with
 |.bC r a g2 p=>y=.bC r 0 0 p/\okB l (kh p) r g2 p=true/\(gt l r).g1=a
 |.ptr r a g2 p=>y=.ptr r 0 0 p/\okB l (flat p) r g2 p=true/\(gt l r).g1=a
 |.abs J=>y=.abs J
 |.fS g b=>y=.fS g (zY b)/\Fa l b=true
 |x=>x.plain=true/\y.plain=true/\Ah x y
def Aj(l:aU):List (Nat×SV)->Prop
 |[]=>True
 |(i,y)::r=>Vd l (gt l i).v y/\Aj l r
def Vd.Hj{l:aU}{x y:SV}(h:Vd l x y):(x.plain=true/\y.plain=true/\uq x.den y.den)\/sR l x y:=by
 unfold Vd at h;split at h
 ·exact .inr ⟨h.1,Ig h.2.1,h.2.2⟩
 ·exact .inr ⟨h.1,Ig h.2.1,h.2.2⟩
 ·exact .inr h
 ·exact .inr h
 exact .inl ⟨h.1,h.2.1,h.2.2.den⟩
def Aj.Hj{l:aU}:∀{l':List (Nat×SV)},Aj l l'->ur l l'
 |[],_=>trivial
 |(_,_)::_,h=>⟨h.1.Hj,Aj.Hj h.2⟩
def Gr{V:Hid}{w0 w:World}{S0:Nat->Prop}{a:Act}{l':List (Nat×SV)}(X:ur l l')(h:Inv N V w0 S0 (dn l) a w):Inv N V w0 S0 (dn<|sl l') a w:=by
 obtain⟨S,F,hc,hN,C,A,z,K⟩:=h
 let D:Nat->Bool:=λi=>match(gt (sl l') i).v with|.dead=>true|.bC .. =>true|.ptr .. =>true|.fS .. =>true|_=>false
 have hD:∀i,D i=true->(gt (sl l') i).v=.dead\/sR l (gt l i).v (gt (sl l') i).v:=by
  intro i hi;rcases EU X i with h|h|h
  ·exact .inl h
  ·simp[D]at hi;have:=h.2.1;cases hv:(gt (sl l') i).v<;>rw[hv]at hi this<;>first|exact .inl rfl|(simp[SV.plain]at this;done)|(cases hi;done)
  exact .inr h
 have M:∀i,D i=false->((gt l i).v.plain=true/\(gt (sl l') i).v.plain=true/\uq (gt l i).v.den (gt (sl l') i).v.den)\/∃J,(gt l i).v=.abs J/\(gt (sl l') i).v=.abs J:=by
  intro i hi;rcases EU X i with h|h|h
  ·simp[D,h]at hi
  ·exact .inl h
  unfold sR at h
  grind
 have H:∀i,∃p:List Nat×List Nat,(D i=true->p=([],[]))/\(D i=false->(F i).Perm (p.1++p.2)/\∀o:Nat->Prop,(∀b,S b->o b)->(∀b∈p.2,o b)->an w o (dn<|sl l') (tv V a) i p.1):=by
  intro i;cases hi:D i with
  |true=>simp
  |false=>
   rcases M i hi with⟨Q,h3,O⟩|⟨J,Q,O⟩
   ·have d:=hc.rel i;rw[an.aA<|by rw[dL,dj];exact Q]at d;obtain⟨F1,F2,hp,t⟩:=O _ _ _ _ d;refine⟨(F1,F2),λh=>by simp at h,λ_=>⟨hp,λo k1 k2=>?_⟩⟩;rw[an.aA<|by rw[dL,dj];exact h3];exact t o k1 k2
   refine⟨(F i,[]),λh=>by simp at h,λ_=>⟨I,λo k1 _=>?_⟩⟩;have d:=hc.rel i;unfold an at d⊢;rw[dL,Q]at d;rw[dL,O];exactλY S2 q1 Z=>d Y S2 (λb c=>q1 b<|c.imp (k1 b) id) λb c=>Z b<|k1 b c
 obtain⟨f,m⟩:=Classical.axiomOfChoice H;have m1:∀i b,b∈(f i).1->D i=false/\b∈F i:=by grind
 have y:∀i b,b∈(f i).2->D i=false/\b∈F i:=by grind
 refine⟨λb=>S b\/∃i,b∈(f i).2,λi=>(f i).1,⟨λi=>?_,λi=>?_,λi j n b c=>?_,λi b c=>?_,λb c=>?_⟩,hN,C,λb c=>.inl<|A b c,λb c=>?_,K⟩
 ·cases hi:D i with
  |true=>
   rcases hD i hi with e|e
   ·rw[an.aA<|by rw[dL,e];rfl];rw[dL,e,(m i).1 hi];simp[SV.den,Rel]
   rw[(m i).1 hi];have d:=hc.rel i;unfold sR at e;split at e
   ·rename_i r a1 b1 p s;obtain⟨v,u,T⟩:=e;unfold an at d⊢;rw[dL,s]at d;rw[dL,v];simp only[SV.den]at d⊢;obtain⟨k1,k2⟩:=u;exact⟨U,adk _,adk _,λ_ _ _=>d.2.2.2 T k1 λh=>by rw[dL];exact k2 h⟩
   ·rename_i r a1 b1 p s;obtain⟨v,u,T⟩:=e;unfold an at d⊢;rw[dL,s]at d;rw[dL,v];simp only[SV.den]at d⊢;obtain⟨k1,k2⟩:=u;exact⟨U,adk _,adk _,d.2.2.2.1,λ_ _ _=>d.2.2.2.2 T k1 λh=>by rw[dL];exact k2 h⟩
   ·grind
   ·rename_i g x s;obtain⟨v,u⟩:=e;unfold an at d⊢;rw[dL,s]at d;rw[dL,v];simp only[SV.den]at d⊢;refine⟨U,λq t=>by rw[abp q t];exact adk _,λ_=>?_⟩;rw[d.2.2 λq t=>C2 u q t]
    congr 2
    exact(Fc (tv V a) x).symm
   exact e.elim
  |false=>grind
 ·show(f i).1.Nodup;cases hi:D i with
  |true=>rw[(m i).1 hi];simp
  |false=>exact(aeJ.1<|((m i).2 hi).1.nodup_iff.1<|hc.nodup i).1
 ·intro L;exact hc.du i j n b (m1 i b c).2 (m1 j b L).2
 ·have B:=hc.own i b (m1 i b c).2;refine⟨B.1,B.2.1,?_⟩;rintro(h|⟨j,hj⟩)
  ·exact B.2.2 h
  by_cases n:i=j
  ·subst n;have hn:=aeJ.1<|((m i).2 (m1 i b c).1).1.nodup_iff.1<|hc.nodup i
   grind
  exact hc.du i j n b (m1 i b c).2 (y j b hj).2
 ·rcases c with c|⟨i,c⟩
  ·exact hc.shr b c
  exact(hc.own i b (y i b c).2).2.1
 rcases c with c|⟨i,c⟩
 ·exact z b c
 exact .inr (hc.own i b (y i b c).2).1
def yE{c:Code}{Q:Exit->St->Prop}{l':List (Nat×SV)}(d:ur l l')(h:AW R P N c Q (dn<|sl l')):AW R P N c Q (dn l):=λV b f a w e hi=>h V b f a w e<|Gr d hi
def Yp{c:Code}(l':List (Nat×SV))(a:Fits l l')(h:AK R P N F (.code c::k) (sl l')):AK R P N F (.code c::k) l:=yE a.Hj h
def EI{c:Code}(l':List (Nat×SV))(a:Aj l l')(h:AK R P N F (.code c::k) (sl l')):AK R P N F (.code c::k) l:=yE a.Hj h
def uv{b:Type}(a:b->List (Nat×SV))(A:b->Prop)(c:b->Nat)(y:b)(σ:St):Prop:=∃d,σ=dn d/\∃z,c z<c y/\A z/\ur d (a z)
def loop{d:Type}(a:d->List (Nat×SV))(A:d->Prop)(b:d->Nat)(x:d){c:Code}(p:A x)(r:Fits l (a x))(q:∀y,A y->AK R P N F (.code c::.inv (uv a A b y)::k) (sl<|a y)):AK R P N F (.code (.loop c)::k) l:=by
 refine U6 (λn g=>∃y,b y=n/\A y/\∃i,g=dn i/\ur i (a y)) (n:=b x) ⟨x,W,p,l,W,r.Hj⟩ ?_;rintro n g⟨y,rfl,o,v,rfl,f⟩;refine jr (yE f (q y o:AW R P N c (iR R P N F<|.inv (uv a A b y)::k) (dn<|sl<|a y))) λe j h=>?_;cases e with
 |normal=>obtain⟨m,rfl,z,u,t,s⟩:=h;exact⟨b z,u,z,W,t,m,W,s⟩
 |_=>exact h
def again{b:Type}{a:b->List (Nat×SV)}{A:b->Prop}{c:b->Nat}{y:b}(z:b)(f:c z<c y)(e:A z)(d:Fits l (a z)):AK R P N F (.inv (uv a A c y)::k) l:=⟨l,W,z,f,e,d.Hj⟩
def vf{b:Type}{a:b->List (Nat×SV)}{A:b->Prop}{c:b->Nat}{y:b}(z:b)(f:c z<c y)(e:A z)(d:Aj l (a z)):AK R P N F (.inv (uv a A c y)::k) l:=⟨l,W,z,f,e,d.Hj⟩
def yL{b:Type}(a:b->List (Nat×SV))(A:b->Prop)(σ:St):Prop:=∃c,σ=dn c/\∃z,A z/\ur c (a z)
def cut{b:Type}(a:b->List (Nat×SV))(A:b->Prop){c d:Code}(m:AK R P N F (.code c::.inv (yL a A)::.code d::k) l)(j:∀z,A z->AK R P N F (.code d::k) (sl<|a z)):AK R P N F (.code c::.code d::k) l:=by
 refine jr (m:AW R P N c (iR R P N F<|.inv (yL a A)::.code d::k) (dn l)) λe f h=>?_;cases e with
 |normal=>obtain⟨n,rfl,z,i,g⟩:=h;exact yE g (j z i)
 |_=>exact h
def meet{b:Type}{a:b->List (Nat×SV)}{A:b->Prop}(z:b)(d:A z)(c:Fits l (a z)):AK R P N F (.inv (yL a A)::k) l:=⟨l,W,z,d,c.Hj⟩
def Yh{b:Type}{a:b->List (Nat×SV)}{A:b->Prop}(z:b)(d:A z)(c:Aj l (a z)):AK R P N F (.inv (yL a A)::k) l:=⟨l,W,z,d,c.Hj⟩
end
section
variable{R:Option Nat->Prop}{P:Program}{N:Nat}{F:St->Prop}{k:List It}{l:aU}
section
variable{dd:Code}{β1 β2 β3:Type}
def kR(c:β1->β2->List (Nat×SV))(A:β1->β2->Prop)(f:β1->β2->Nat)(e:β1)(d:β2){cc:Code}(h:A e d)(j:Fits l (c e d))
 (i:∀a b,A a b->AK R P N F (.code cc::.inv (uv (λt:β1×β2=>c t.1 t.2) (λt:β1×β2=>A t.1 t.2) (λt:β1×β2=>f t.1 t.2) (a,b))::k) (sl<|c a b)):AK R P N F (.code (.loop cc)::k) l:=
 loop (λt:β1×β2=>c t.1 t.2) (λt:β1×β2=>A t.1 t.2) (λt:β1×β2=>f t.1 t.2) (e,d) h j λy g=>i y.1 y.2 g
def ZK(c:β1->β2->List (Nat×SV))(A:β1->β2->Prop){cc:Code}(f:AK R P N F (.code cc::.inv (yL (λt:β1×β2=>c t.1 t.2) λt:β1×β2=>A t.1 t.2)::.code dd::k) l)(e:∀a b,A a b->AK R P N F (.code dd::k) (sl<|c a b)):AK R P N F (.code cc::.code dd::k) l:=cut (λt:β1×β2=>c t.1 t.2) (λt:β1×β2=>A t.1 t.2) f λy d=>e y.1 y.2 d
def oB(d:β1->β2->β3->List (Nat×SV))(A:β1->β2->β3->Prop)(h:β1->β2->β3->Nat)(g:β1)(f:β2)(e:β3){cc:Code}(j:A g f e)(n:Fits l (d g f e))
 (m:∀a b c,A a b c->AK R P N F (.code cc::.inv (uv (λt:β1×β2×β3=>d t.1 t.2.1 t.2.2) (λt:β1×β2×β3=>A t.1 t.2.1 t.2.2) (λt:β1×β2×β3=>h t.1 t.2.1 t.2.2) (a,b,c))::k) (sl<|d a b c)):AK R P N F (.code (.loop cc)::k) l:=
 loop (λt:β1×β2×β3=>d t.1 t.2.1 t.2.2) (λt:β1×β2×β3=>A t.1 t.2.1 t.2.2) (λt:β1×β2×β3=>h t.1 t.2.1 t.2.2) (g,f,e) j n λy i=>m y.1 y.2.1 y.2.2 i
def Yj{f:Type}(e:β1->β2->β3->f->List (Nat×SV))(A:β1->β2->β3->f->Prop)(m:β1->β2->β3->f->Nat)(j:β1)(i:β2)(h:β3)(g:f){cc:Code}(o:A j i h g)(q:Fits l (e j i h g))
 (p:∀a b c d,A a b c d->AK R P N F (.code cc::.inv (uv (λt:β1×β2×β3×f=>e t.1 t.2.1 t.2.2.1 t.2.2.2) (λt:β1×β2×β3×f=>A t.1 t.2.1 t.2.2.1 t.2.2.2) (λt:β1×β2×β3×f=>m t.1 t.2.1 t.2.2.1 t.2.2.2) (a,b,c,d))::k) (sl<|e a b c d)):AK R P N F (.code (.loop cc)::k) l:=
 loop (λt:β1×β2×β3×f=>e t.1 t.2.1 t.2.2.1 t.2.2.2) (λt:β1×β2×β3×f=>A t.1 t.2.1 t.2.2.1 t.2.2.2) (λt:β1×β2×β3×f=>m t.1 t.2.1 t.2.2.1 t.2.2.2) (j,i,h,g) o q λy n=>p y.1 y.2.1 y.2.2.1 y.2.2.2 n
def Xf(a:List (Nat×SV))(A:Prop){cc:Code}(c:AK R P N F (.code cc::.inv (yL (λ_:Unit=>a) λ_=>A)::.code dd::k) l)(b:A->AK R P N F (.code dd::k) (sl a)):AK R P N F (.code cc::.code dd::k) l:=cut _ _ c λ_ h=>b h
def aN{a:List (Nat×SV)}{A:Prop}(c:A)(b:Fits l a):AK R P N F (.inv (yL (λ_:Unit=>a) λ_=>A)::k) l:=meet () c b
end
end
section
variable{R:Option Nat->Prop}{P:Program}{N:Nat}{F:St->Prop}{k:List It}{l:aU}
def nN{g:Type}(a:g->List (Nat×SV))(A:g->Prop){d:Code}(b:∀z,A z->AK R P N F (.code d::k) (sl<|a z)):∀(cs:List Code)(e:Exit)(σ:St),iR R P N F (cs.map .code++.inv (yL a A)::.code d::k) e σ->iR R P N F (cs.map .code++.code d::k) e σ
 |[],e,σ,h=>by
  cases e with
  |normal=>obtain⟨m,rfl,z,j,i⟩:=h;exact yE i (b z j)
  |_=>exact h
 |c::cs,e,σ,h=>by
  cases e with
  |normal=>exact jr (h:AW R P N c (iR R P N F<|cs.map .code++.inv (yL a A)::.code d::k) σ) λe f h=>nN a A b cs e f h
  |ret=>exact nN a A b cs .ret σ h
  |exit id=>exact nN a A b cs (.exit id) σ h
  |goto id=>exact nN a A b cs (.goto id) σ h
  |panic v=>exact nN a A b cs (.panic v) σ h
  |outgrown=>exact nN a A b cs .outgrown σ h
def me:Nat->Code->List Code×Code
 |n+1,.seq a b=>(a::(me n b).1,(me n b).2)
 |_,c=>([],c)
def BC:∀(n:Nat)(c:Code)(σ:St),iR R P N F ((me n c).1.map .code++.code (me n c).2::k) .normal σ->iR R P N F (.code c::k) .normal σ
 |0,c,σ,h=>h
 |n+1,.seq a b,σ,h=>by
  refine Sk<|jr (h:AW R P N a (iR R P N F<|(me n b).1.map .code++.code (me n b).2::k) σ) λe f h=>?_;have g:∀(cs:List Code)(d:Code)(e:Exit),(e=.normal->False)->iR R P N F (cs.map .code++.code d::k) e f->iR R P N F k e f:=by
   intro cs
   induction cs with
   |nil=>intro d e he h;cases e<;>first|exact absurd rfl he|exact h
   |cons c cs i=>intro d e he h;exact i d e he (by cases e<;>first|exact absurd rfl he|exact h)
  cases e with
  |normal=>exact BC n b f h
  |ret=>exact g _ _ _ I h
  |exit id=>exact g _ _ _ I h
  |goto id=>exact g _ _ _ I h
  |panic v=>exact g _ _ _ I h
  |outgrown=>exact g _ _ _ I h
 |_+1,.skip,σ,h|_+1,.label _,σ,h|_+1,.region ..,σ,h|_+1,.block ..,σ,h|_+1,.scope ..,σ,h
 |_+1,.exit ..,σ,h|_+1,.ret,σ,h|_+1,.cond ..,σ,h|_+1,.loop ..,σ,h|_+1,.goto ..,σ,h|_+1,.rangeFunc ..,σ,h|_+1,.refuse ..,σ,h=>h
def CP{b:Type}(n:Nat)(a:b->List (Nat×SV))(A:b->Prop){c:Code}(e:AK R P N F ((me n c).1.map .code++.inv (yL a A)::.code (me n c).2::k) l)(d:∀z,A z->AK R P N F (.code (me n c).2::k) (sl<|a z)):AK R P N F (.code c::k) l:=BC n c _ (nN a A d _ _ _ e)
def cx(n:Nat)(a:List (Nat×SV))(A:Prop){c:Code}(d:AK R P N F ((me n c).1.map .code++.inv (yL (λ_:Unit=>a) λ_=>A)::.code (me n c).2::k) l)(b:A->AK R P N F (.code (me n c).2::k) (sl a)):AK R P N F (.code c::k) l:=CP n _ _ d λ_ h=>b h
def wR{f e:Type}(n:Nat)(d:f->e->List (Nat×SV))(A:f->e->Prop){c:Code}(i:AK R P N F ((me n c).1.map .code++.inv (yL (λt:f×e=>d t.1 t.2) λt:f×e=>A t.1 t.2)::.code (me n c).2::k) l)(g:∀a b,A a b->AK R P N F (.code (me n c).2::k) (sl<|d a b)):AK R P N F (.code c::k) l:=CP n _ _ i λy h=>g y.1 y.2 h
end
end Go.Ai
