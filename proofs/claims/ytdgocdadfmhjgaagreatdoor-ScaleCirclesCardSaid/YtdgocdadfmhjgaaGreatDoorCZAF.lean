/- Parts of the proof of ScaleCircles (CheckRefused returns the error of the reference), at every input, with no further conditions. -/
import Derived.Test.YtdgocdadfmhjgaaGreatDoorCZAE
set_option linter.all false
set_option maxRecDepth 100000
set_option maxHeartbeats 0
namespace Go.Ai
open Go.RowKit
def J0{α β:Type}{g:α->Option β}:∀{l:List α}{r:List β},l.mapM g=some r->∀(i:Nat)(y:β),r[i]?=some y->∃x,l[i]?=some x/\g x=some y
 |[],r,h,i,y,hy=>by cases h;cases hy
 |x::l,r,h,i,y,hy=>by
  simp[ab3]at h;obtain⟨b,h1,bs,h2,h3⟩:=h;cases h3;cases i with
  |zero=>cases hy;simp_all
  |succ i=>simpa using J0 h2 i y hy
def mapM_map{α β γ:Type}{g:α->Option β}{k:β->γ}:∀{l:List α}{r:List β},l.mapM g=some r->l.mapM (λx=>(g x).map k)=some (r.map k)
 |[],r,h=>by cases h;simp
 |x::l,r,h=>by simp[ab3]at h;obtain⟨b,h1,bs,h2,h3⟩:=h;cases h3;simp only[List.mapM_cons,h1,mapM_map (k:=k) h2];rfl
def HZ(tt:TT)(t:TypeId)(f:Nat):Option (Nat×TypeId):=(E4 tt t).bind λ|.struct fs=>(nth fs f).bind λ(o,ft,_)=>some (o,ft)|_=>none
def De{P:Program}{tt:TT}(hA:cq P tt){t:TypeId}{f o ft:Nat}(h:HZ tt t f=some (o,ft)):tR P t f=some (o,ft):=by
 simp[HZ,ab3]at h;obtain⟨u,h1,h2⟩:=h;cases u<;>simp only[ab3,afh]at h2<;>try(cases h2;done)
 obtain⟨o',ft',sz,h2,h3⟩:=h2;cases h3;obtain⟨fa,h4,h5⟩:=l9 hA h1;rw[mF]at h2;obtain⟨x,h6,h7⟩:=J0 h5 _ _ h2;simp[tR,h4];rw[ae8]at h6;rw[h6];simp at h7;obtain⟨i,-,rfl,rfl,-⟩:=h7;rfl
def Hl(tt:TT)(t:TypeId):Option (List<|Nat×Nat):=(E4 tt t).bind λ|.struct fs=>some (fs.map λ(o,_,n)=>(o,n))|_=>none
def QV{P:Program}{tt:TT}(hA:cq P tt){t:TypeId}{pl:List (Nat×Nat)}(h:Hl tt t=some pl):placesOf P t=some pl:=by
 simp[Hl,ab3]at h;obtain⟨u,h1,h2⟩:=h;cases u<;>simp at h2<;>try(cases h2;done)
 subst h2;obtain⟨fa,h4,h5⟩:=l9 hA h1;simp[placesOf,h4];have:=mapM_map (k:=λ(x:Nat×TypeId×Nat)=>(x.1,x.2.2)) h5;rw[<-this]
 congr 1
 funext f
 cases P.info? f.type<;>rfl
def VW(ti:xY)(o:Nat):Step:=match ti.agg with
 |true=>.at o (some ti.size)
 |false=>.at o none
def xT(ti:xY)(o:Nat):gN ti.den o=VW ti o:=by unfold VW xY.den;cases ti.agg<;>rfl
section
variable{P:Program}{tt:TT}(hA:cq P tt)(l:aV)(d:Nat)
def wm{m:Option (List Mv)}{ob:List Pd}{r g1 g2:Nat}{p:Path}(h:ag ob->m=some [.put d<|.ptr r g1 g2 p]):da l m (cZ ob l d<|.ptr r g1 g2 p):=il λhc=>by simpa[SV.den]using h hc
def Qa{m:Option (List Mv)}{ob:List Pd}{r g1 g2:Nat}{p:Path}(h:ag ob->m=some [.put d<|.bA r g1 g2 p]):da l m (cZ ob l d<|.bA r g1 g2 p):=il λhc=>by simpa[SV.den]using h hc
def s8(tt:TT)(l:aV)(d:Nat)(t:TypeId)(x:SR)(f:Nat):ox:=
 (HZ tt t f).bind λ(o,ft)=>(GP tt ft).bind λti=>(D0 x).bind λ(ob,ad)=>(gF<|cW (ne' ad.r d)<|ne' ti.size 0).bind λ_=>match flat (ad.p++[VW ti o])with
   |true=>cZ ob l d (.ptr ad.r ad.g1 ad.g2<|ad.p++[VW ti o])
   |false=>(gq ad.v<|ad.p++[VW ti o]).bind λ(dX,_)=>cZ (app ob dX) l d<|.ptr ad.r ad.g1 ad.g2<|ad.p++[VW ti o]
def xg(hA:cq P tt)(l:aV)(d:Nat)(t:TypeId)(x:SR)(f:Nat):da l (jY P d t x.den f) (s8 tt l d t x f):=by
 refine aj _ λ⟨o,ft⟩h1=>aj _ λti h2=>aj _ λ⟨ob,ad⟩h3=>bd λh4=>?_;rw[aN,ne_iff,ne_iff]at h4;have cM:ti.den.size≠0:=h4.2;cases hf:flat (ad.p++[VW ti o])with
 |true=>refine wm _ _ λc=>?_;unfold jY;simp[De hA h1,j7 hA h2,ku h3 c,h4.1,cM,xT,hf]
 |false=>refine aj _ λ⟨dX,y⟩h5=>wm _ _ λc=>?_;obtain⟨c1,c2⟩:=aM.1 c;unfold jY;simp[De hA h1,j7 hA h2,ku h3 c1,h4.1,cM,xT,cn h5 c2]
def H8(tt:TT)(l:aV)(d:Nat)(t:TypeId)(x:SR)(f:Nat):ox:=(HZ tt t f).bind λ(o,ft)=>(GP tt ft).bind λti=>(cX x).bind λ(ob,v)=>(gq v [VW ti o]).bind λ(dX,y)=>(gF y.aF).bind λ_=>cZ (app ob dX) l d y
def EF(hA:cq P tt)(l:aV)(d:Nat)(t:TypeId)(x:SR)(f:Nat):da l (yS P d t x.den f) (H8 tt l d t x f):=by refine aj _ λ⟨o,ft⟩h1=>aj _ λti h2=>aj _ λ⟨ob,v⟩h3=>aj _ λ⟨dX,y⟩h4=>bd λh5=>il λc=>?_;obtain⟨c1,c2⟩:=aM.1 c;unfold yS;simp[De hA h1,j7 hA h2,aE h3 c1,xT,cn h4 c2,cz,h5]
def pN:SV->Option (Nat×Nat)
 |.nil=>some (0,0)
 |.ints _ _ xs=>some (1,xs.length)
 |.strs _ xs=>some (1,xs.length)
 |.b9 _ xs=>some (1,xs.length)
 |.bT _ sz _ _ xs=>some (sz,xs.length)
 |.row _ sz xs=>some (sz,len xs)
 |_=>none
def lJ{y:SV}{sz n:Nat}(h:pN y=some (sz,n)):∃f X,y.den=.list f sz X/\X.length=n:=by
 cases y<;>try(cases h;done)
 all_goals(obtain⟨rfl,rfl⟩:=h;exact⟨_,_,rfl,by simp[bq,eV]⟩)
def Qp:SV->Option (Nat×Nat×Nat×Path×Nat×Nat×Nat)
 |.bA r g1 g2 p=>match E3 p with
  |some (q,sz,o,n)=>some (r,g1,g2,q,sz,o,n)
  |none=>none
 |_=>none
def M4:SV->Bool
 |.bA _ _ _ p=>kl p
 |_=>false
def Qo{x:SR}(h:Qp x.sl.v=none):x.den.lR=none:=by
 obtain⟨s,⟨v,g1,g2⟩,rt⟩:=x;unfold bM.lR;cases v<;>simp[SR.den,Cl.den,SV.den];simp[Qp]at h;split at h
 ·cases h
 rename_i hu;simp[hu]
def Qn{x:SR}{r g1 g2 sz o n gC k:Nat}{q:Path}{ob:List Pd}{y:SV}(h:Qp x.sl.v=some (r,g1,g2,q,sz,o,n))(h1:x.rt.g1=g1)(h2:M4 x.sl.v=true\/x.rt.g2=g2)
 (hg:gq x.rt.v q=some (ob,y))(hc:ag ob)(hl:pN y=some (gC,k))(e:sz=gC)(hn:0<n)(ho:o+n<=k):x.den.lR=some (r,g1,x.rt.g2,q,sz,o,n):=by
 obtain⟨s,⟨v,a,b⟩,rt⟩:=x;obtain⟨f,X,e1,e2⟩:=lJ hl;have hp:=cn hg hc;rw[e1]at hp;unfold bM.lR;cases v<;>simp[Qp]at h<;>try(cases h)
 split at h<;>try(cases h;done)
 rename_i hu;cases h;simp[M4]at h1 h2;simp only[SR.den,Cl.den,SV.den,hu,h1,if_true,hp];rw[if_pos h2,if_pos ⟨e,hn,by omega⟩]
def yY(tt:TT)(l:aV)(d:Nat)(t:TypeId)(x i:SR):ox:=
 (cX i).bind λ(ob,v)=>match v with
   |.n _ n=>(slice? tt t).bind λe=>(GP tt e).bind λti=>match Qp x.sl.v with
    |some (r,g1,g2,q,sz,o,m)=>(gF<|cW (Nat.beq x.rt.g1 g1)<|EP (M4 x.sl.v)<|Nat.beq x.rt.g2 g2).bind λ_=>(gq x.rt.v q).bind λ(dX,y)=>(pN y).bind λ(gC,k)=>(gF<|cW (Nat.beq sz gC)<|Nat.beq sz ti.size).bind λ_=>(gF<|ne' r d).bind λ_=>cZ ((0<=n)::(n<m)::(0<m)::(o+m<=k)::app ob dX) l d (.ptr r g1 x.rt.g2<|q++[.idx (o+n.toNat) sz])
    |none=>(cX x).bind λ(dX,y)=>(pN y).bind λ(sz,k)=>(gF<|Nat.beq sz ti.size).bind λ_=>(u4 x).bind λ(r,g1,g2,p)=>
    (gF<|ne' r d).bind λ_=>cZ ((0<=n)::(n<k)::app ob dX) l d (.ptr r g1 g2<|p++[.idx n.toNat sz])
   |_=>none
def Bi(hA:cq P tt)(l:aV)(d:Nat)(t:TypeId)(x i:SR):da l (gn P d t x.den i.den) (yY tt l d t x i):=by
 refine aj _ λ⟨ob,v⟩h1=>?_;cases v<;>try exact bj
 rename_i k n;refine aj _ λe h2=>aj _ λti h3=>?_;cases hwp:Qp x.sl.v with
 |some wp=>refine bd λh4=>aj _ λ⟨dX,y⟩h5=>aj _ λ⟨gC,k'⟩h6=>bd λh7=>bd λh8=>wm _ _ λc=>?_;obtain⟨a1,a2,a3,a4,c⟩:=c;obtain⟨c1,c2⟩:=aM.1 c;rw[aN,ru,beq_iff,beq_iff]at h4;rw[aN,beq_iff,beq_iff]at h7;have hw:=Qn hwp h4.1 h4.2 h5 c2 h6 h7.1 a3 a4;have se:i.den.cont=some (.v<|.int k n):=aE h1 c1;have e3:=h7.2;unfold gn;simp only[se,vW hA h2,j7 hA h3,hw];rw[if_pos ⟨e3,a1,a2⟩];simp[ne_iff.1 h8]
 |none=>
 have hwn:=Qo hwp;refine aj _ λ⟨dX,y⟩h4=>aj _ λ⟨sz,m⟩h5=>bd λh6=>aj _ λ⟨r,g1,g2,p⟩h7=>bd λh8=>wm _ _ λc=>?_;obtain⟨a1,a2,c⟩:=c;obtain⟨c1,c2⟩:=aM.1 c;obtain⟨f,X,e1,e2⟩:=lJ h5;have e3:=beq_iff.1 h6;unfold gn;have se:i.den.cont=some (.v<|.int k n):=aE h1 c1;have yb:=aE h4 c2;rw[e1]at yb;simp only[se,vW hA h2,j7 hA h3,hwn,yb];rw[if_pos ⟨e3,a1,by rw[e2];exact a2⟩];simp[nU,h7,ne_iff.1 h8]
def vB(tt:TT)(l:aV)(d:Nat)(len:Nat)(e:TypeId)(x i:SR):ox:=
 (cX i).bind λ(ob,v)=>match v with
   |.n _ n=>(GP tt e).bind λti=>(D0 x).bind λ(dX,ad)=>(gF<|ne' ad.r d).bind λ_=>(gq ad.v<|ad.p++[VW ti<|n.toNat*ti.size]).bind λ(TF,_)=>cZ ((0<=n)::(n<len)::app ob (app dX TF)) l d (.ptr ad.r ad.g1 ad.g2<|ad.p++[VW ti<|n.toNat*ti.size])
   |_=>none
def yZ(hA:cq P tt)(l:aV)(d:Nat)(t:TypeId){len:Nat}{e:TypeId}(hu:E4 tt t=some (.array len e))(x i:SR):da l (gn P d t x.den i.den) (vB tt l d len e x i):=by
 refine aj _ λ⟨ob,v⟩h1=>?_;cases v<;>try exact bj
 rename_i k n;refine aj _ λti h2=>aj _ λ⟨dX,ad⟩h3=>bd λh4=>aj _ λ⟨TF,y⟩h5=>wm _ _ λc=>?_;obtain⟨a1,a2,c⟩:=c;obtain⟨c1,c2⟩:=aM.1 c;obtain⟨c2,c3⟩:=aM.1 c2;have se:i.den.cont=some (.v<|.int k n):=aE h1 c1;have hU:P.underlying t=some (.array len e):=l9 hA hu;unfold gn;simp only[se,hU,j7 hA h2,ku h3 c2];have h4':=ne_iff.1 h4;have hg:=cn h5 c3;have hs:ti.den.size=ti.size:=rfl;rw[if_pos ⟨a1,a2,h4'⟩];simp[xT,hs,hg]
def s7(tt:TT)(l:aV)(d:Nat)(t:TypeId)(x i:SR):ox:=
 match E4 tt t with
 |some (.array len e)=>vB tt l d len e x i
 |_=>yY tt l d t x i
def xf(hA:cq P tt)(l:aV)(d:Nat)(t:TypeId)(x i:SR):da l (gn P d t x.den i.den) (s7 tt l d t x i):=by
 unfold s7;split
 ·rename_i h;exact yZ hA l d t h x i
 exact Bi hA l d t x i
def acG(x:bK)(i:Nat):(bs x)[i]?=x[i]?:=by
 by_cases h:i<x.length
 ·rw[acL h];have h':=h;rw[getElem?_pos (bs x) i h'];rfl
 rw[adA<|by omega];have h':=h;rw[getElem?_neg (bs x) i h']
def H7(tt:TT)(l:aV)(d:Nat)(t:TypeId)(x i:SR):ox:=
 (cX i).bind λ(ob,v)=>match v with
   |.n _ n=>(E4 tt t).bind λu=>match u with
    |.str=>(cX x).bind λ(dX,y)=>match y with
     |.s s=>cZ ((0<=n)::(n<s.length)::app ob dX) l d (.n .u8 (s.getD n.toNat 0).toNat)
     |_=>none
    |.array len e=>(GP tt e).bind λti=>(cX x).bind λ(dX,v)=>(gq v [VW ti<|n.toNat*ti.size]).bind λ(TF,y)=>(gF y.aF).bind λ_=>cZ ((0<=n)::(n<len)::app ob (app dX TF)) l d y
    |_=>none
   |_=>none
def EE(hA:cq P tt)(l:aV)(d:Nat)(t:TypeId)(x i:SR):da l (vj P d t x.den i.den) (H7 tt l d t x i):=by
 refine aj _ λ⟨ob,v⟩h1=>?_;cases v<;>try exact bj
 rename_i k n;refine aj _ λu h2=>?_;cases u<;>try exact bj
 case array len e=>refine aj _ λti h3=>aj _ λ⟨dX,v⟩h4=>aj _ λ⟨TF,y⟩h5=>bd λh6=>il λc=>?_;obtain⟨a1,a2,c⟩:=c;obtain⟨c1,c2⟩:=aM.1 c;obtain⟨c2,c3⟩:=aM.1 c2;have se:i.den.cont=some (.v<|.int k n):=aE h1 c1;have hU:P.underlying t=some (.array len e):=l9 hA h2;have hs:ti.den.size=ti.size:=rfl;unfold vj;simp only[se,hU,j7 hA h3,aE h4 c2];rw[if_pos ⟨a1,a2⟩];simp[xT,hs,cn h5 c3,cz,h6]
 refine aj _ λ⟨dX,y⟩h3=>?_;cases y<;>try exact bj
 rename_i s;refine il λc=>?_;obtain⟨a1,a2,c⟩:=c;obtain⟨c1,c2⟩:=aM.1 c;have se:=aE h1 c1;have yb:=aE h3 c2;have hu:P.underlying t=some .string:=l9 hA h2;have cS:n.toNat<s.length:=by omega
 unfold vj;simp[se,hu,yb,a1,acG,SV.den];simp[acL cS]
def y9(l:aV)(d:Nat)(x:SR)(i:Nat):ox:=
 (cX x).bind λ(ob,v)=>match v with
   |.bX xs=>(nth xs i).bind λy=>match y.aF with
    |true=>cZ ob l d y
    |false=>(u4 x).bind λ(r,g1,g2,p)=>(gF<|cW (ne' r d)<|sR p).bind λ_=>cZ ob l d (.bA r g1 g2 [.bX i])
   |_=>none
def Bj(x:SR)(i:Nat):da l (od d x.den i) (y9 l d x i):=by
 refine aj _ λ⟨ob,v⟩h1=>?_;cases v<;>try exact bj
 rename_i xs;refine aj _ λy h2=>?_;rw[mF]at h2;cases hn:y.aF with
 |true=>refine il λc=>?_;unfold od;have hc:x.den.cont=some (.bX<|au xs):=aE h1 c;simp[hc,ja,h2,cz,hn]
 |false=>
  refine aj _ λ⟨r,g1,g2,p⟩h3=>bd λh4=>Qa _ _ λc=>?_;rw[aN,ne_iff]at h4;have hp:p=[]:=by cases p<;>simp_all[sR]
  subst hp;unfold od;have hc:x.den.cont=some (.bX<|au xs):=aE h1 c;simp[hc,ja,h2,cz,hn,nU,h3];simp[h4.1]
def ack(a:Int):Prop:= -(2^63)<=a/\a<=9223372036854775807
def po{a:Int}(h:ack a):IntKind.i64.wrap a=a:=by obtain⟨h1,h2⟩:=h;exact IntWalk.i64_in a ⟨h1,h2⟩
def num(raw:Bool)(k:IntKind)(a:Int):List Pd×SV:=match raw,k with
 |false,.i64=>([-(2^63)<=a,a<=9223372036854775807],.n .i64 a)
 |_,k=>([],.n k<|k.wrap a)
def wH{raw:Bool}{k:IntKind}{a:Int}(h:ag (num raw k a).1):(num raw k a).2.den=.v (.int k<|k.wrap a):=by
 unfold num at h⊢;split
 ·simp[ag]at h;simp[SV.den,po (a:=a) h]
 rfl
def VA(tt:TT)(raw:Bool)(l:aV)(d:Nat)(s t:TypeId)(x:SR):ox:=
 (E4 tt s).bind λu=>(E4 tt t).bind λu'=>(cX x).bind λ(ob,v)=>match v with
   |.n _ n=>match u,u' with
    |.int _,.int k=>match num raw k n with
     |(dX,y)=>cZ (app ob dX) l d y
    |_,_=>none
   |.s x=>match u,u' with
    |.str,.str=>cZ ob l d (.s x)
    |_,_=>none
   |_=>none
def Lr(hA:cq P tt)(l:aV)(d:Nat)(raw:Bool)(s t:TypeId)(x:SR):da l (DC P d s t x.den) (VA tt raw l d s t x):=by
 refine aj _ λu h1=>aj _ λu' h2=>aj _ λ⟨ob,v⟩h3=>?_;cases v<;>try exact bj
 ·rename_i k n;cases u<;>try exact bj
  cases u'<;>try exact bj
  rename_i k1 k2;have e1:P.underlying s=some (.int k1):=l9 hA h1;have e2:P.underlying t=some (.int k2):=l9 hA h2;simp only;refine il λc=>?_;obtain⟨c1,c2⟩:=aM.1 c;have hc:x.den.cont=some (.v<|.int k n):=aE h3 c1;simp[DC,e1,e2,hc,wH c2]
 rename_i y;cases u<;>try exact bj
 cases u'<;>try exact bj
 have e1:P.underlying s=some .string:=l9 hA h1;have e2:P.underlying t=some .string:=l9 hA h2;refine il λc=>?_;have hc:=aE h3 c;simp[DC,e1,e2,hc,SV.den]
end
def IY(b:ByteArray):∀(n i:Nat)(r:List UInt8),b.size-i=n->ByteArray.toList.loop b i r=r.reverse++b.data.toList.drop i:=by
 intro n
 induction n with
 |zero=>
  intro i r h;unfold ByteArray.toList.loop;have:¬i<b.size:=by omega
  rw[if_neg this];simp_all
 |succ n ih=>
  intro i r h;unfold ByteArray.toList.loop;have h1:i<b.size:=by omega
  rw[ih (i+1) _<|by omega];have h2:=h1;rw[ac4 h2];have:b.get! i=b.data.toList[i]:=by unfold ByteArray.get!;simp[getElem!_pos b.data i h1]
  simp_all
def toList_data(b:ByteArray):b.toList=b.data.toList:=by unfold ByteArray.toList;rw[IY b _ 0 [] rfl];simp
def P9(x:bK):(bs x).toList=x:=by rw[toList_data];simp[bs]
def xI(x:bK):(bs x).size=x.length:=by simp[bs,ByteArray.size]
def R8(x y:bK):bs (x++y)=bs x++bs y:=by apply ByteArray.ext;simp[bs]
def Oc(x:bK)(l h:Nat):bs ((x.take h).drop l)=(bs x).extract l h:=by apply ByteArray.ext;simp[bs];rw[List.drop_take]
def abh(raw:Bool)(op:BinOp)(k:IntKind)(a b:Int):Option (List Pd×SV):=
 match op with
 |.add=>some (num raw k<|a+b)
 |.sub=>some (num raw k<|a-b)
 |.mul=>some (num raw k<|a*b)
 |.quo=>match raw,k with
  |false,.i64=>some ([0<=a,a<=9223372036854775807,0<b],.n .i64<|a/b)
  |_,k=>some ([b≠0],.n k<|k.wrap<|a.tdiv b)
 |.rem=>match raw with
  |false=>some ([0<=a,0<b],.n k<|a%b)
  |true=>some ([b≠0],.n k<|a.tmod b)
 |.and=>some ([],.n k<|k.wrap (BitVec.ofInt k.bits a&&&BitVec.ofInt k.bits b).toNat)
 |.or=>some ([],.n k<|k.wrap (BitVec.ofInt k.bits a|||BitVec.ofInt k.bits b).toNat)
 |.xor=>some ([],.n k<|k.wrap (BitVec.ofInt k.bits a^^^BitVec.ofInt k.bits b).toNat)
 |.andNot=>some ([],.n k<|k.wrap (BitVec.ofInt k.bits a&&& ~~~ BitVec.ofInt k.bits b).toNat)
 |.eql=>some ([],.u<|decide (a=b))
 |.neq=>some ([],.u<|decide (¬a=b))
 |.lss=>some ([],.u<|decide (a<b))
 |.leq=>some ([],.u<|decide (a<=b))
 |.gtr=>some ([],.u<|decide (b<a))
 |.geq=>some ([],.u<|decide (b<=a))
 |_=>none
def Mr(op:BinOp)(k:IntKind)(a b:Int):Option (List Pd×SV):=
 match op with
 |.shl=>some ([0<=b],.n k<|k.wrap<|a*2^min b.toNat k.bits)
 |.shr=>some ([0<=b],.n k<|a.fdiv<|2^min b.toNat k.bits)
 |_=>none
def aaC(op:BinOp)(a b:bK):Option (List Pd×SV):=
 match op with
 |.add=>some ([((a.length+b.length:Nat):Int)<=9223372036854775807],.s<|a++b)
 |.eql=>some ([],.u<|decide (a=b))
 |.neq=>some ([],.u<|decide (¬a=b))
 |.lss=>some ([],.u<|Op.bytesLess a b)
 |_=>none
def DR(op:BinOp)(a b:Bool):Option (List Pd×SV):=
 match op with
 |.eql=>some ([],.u<|decide (a=b))
 |.neq=>some ([],.u<|decide (¬a=b))
 |_=>none
def isBool:Option Ty->Bool
 |some .bool=>true
 |_=>false
def HF:BinOp->Bool
 |.shl=>true
 |.shr=>true
 |_=>false
def asBool(op:BinOp)(b:Bool):Option SV:=
 match op with
 |.eql=>some (.b b)
 |.neq=>some (.b<|not' b)
 |_=>none
def SY:SV->Option Pd
 |.ints _ _ xs=>some (xs≠[])
 |.strs _ xs=>some (xs≠[])
 |.b9 _ xs=>some (xs≠[])
 |.bT _ _ _ _ xs=>some (xs≠[])
 |.row _ _ (_::_)=>some True
 |_=>none
def aa4(tt:TT)(op:BinOp)(t:TypeId)(x y:SV):Option (List Pd×SV):=
 match y with
 |.nil=>match E4 tt t with
  |some (.slice _)=>match x with
   |.nil=>match asBool op true with
    |some z=>some ([],z)
    |none=>none
   |.fe _ xs=>match op with
    |.eql=>some ([],.u<|decide (xs=[]))
    |.neq=>some ([],.u<|decide (xs≠[]))
    |_=>none
   |x=>match SY x with
    |some p=>match asBool op false with
     |some z=>some ([p],z)
     |none=>none
    |none=>none
  |_=>none
 |.c (.pointer none)=>match E4 tt t with
  |some .ptr=>match x with
   |.box _ _=>match asBool op false with
    |some z=>some ([],z)
    |none=>none
   |.c (.pointer none)=>match asBool op true with
    |some z=>some ([],z)
    |none=>none
   |_=>none
  |_=>none
 |.c .nilFunc=>match E4 tt t with
  |some .func=>match x with
   |.fn _ _ _=>match asBool op false with
    |some z=>some ([],z)
    |none=>none
   |.c .nilFunc=>match asBool op true with
    |some z=>some ([],z)
    |none=>none
   |_=>none
  |_=>none
 |_=>none
def acJ(tt:TT)(raw:Bool)(op:BinOp)(t:TypeId)(x y:SV):Option (List Pd×SV):=
 match x,y with
 |.n k a,.n k' b=>match HF op with
  |true=>Mr op k a b
  |false=>match sQ k k' with
   |true=>abh raw op k a b
   |false=>none
 |.s a,.s b=>aaC op a b
 |.b a,.b b=>match isBool (E4 tt t)with
  |true=>DR op a b
  |false=>none
 |.u a,.b b=>match isBool (E4 tt t)with
  |true=>DR op a b
  |false=>none
 |.b a,.u b=>match isBool (E4 tt t)with
  |true=>DR op a b
  |false=>none
 |.u a,.u b=>match isBool (E4 tt t)with
  |true=>DR op a b
  |false=>none
 |x,y=>aa4 tt op t x y
section
variable{P:Program}{tt:TT}(hA:cq P tt)
def NX(a b:Int):(a==b)=decide (a=b):=by by_cases h:a=b<;>simp[h]
def Uj{raw:Bool}{op:BinOp}{k:IntKind}{a b:Int}{ob:List Pd}{y:SV}(t:TypeId)(hs:HF op=false)(h:abh raw op k a b=some (ob,y))(hc:ag ob):
 mw P op t (.v<|.int k a) (.v<|.int k b)=some y.den:=by
 have key:∃v,yr P op t (.int k a) (.int k b)=some v/\AV.v v=y.den:=by
  unfold yr;cases op<;>simp only[abh,abr]at h hs⊢ <;>try(cases h;done)
  case add=>obtain⟨rfl,rfl⟩:=aid h;exact⟨_,if_pos ao,(wH hc).symm⟩
  case sub=>obtain⟨rfl,rfl⟩:=aid h;exact⟨_,if_pos ao,(wH hc).symm⟩
  case mul=>obtain⟨rfl,rfl⟩:=aid h;exact⟨_,if_pos ao,(wH hc).symm⟩
  case quo=>
   split at h
   ·cases h;obtain⟨c1,c2,c3,-⟩:=hc;have hb:b≠0:=by omega
    have e:a.tdiv b=a/b:=ags c1;have h1:0<=a/b:=ahu c1 (by omega);have h2:a/b<=a:=Int.ediv_le_self _ c1;have hw:IntKind.i64.wrap (a/b)=a/b:=po ⟨by omega,by omega⟩;refine⟨.int .i64<|a/b,?_,rfl⟩;simp[hb,e,hw]
   cases h;exact⟨_,by simp[hc.1],rfl⟩
  case rem=>
   split at h
   ·cases h;obtain⟨c1,c2,-⟩:=hc;have hb:b≠0:=by omega
    have e:a.tmod b=a%b:=aie c1;exact⟨.int k<|a%b,by simp[hb,e],rfl⟩
   cases h;exact⟨_,by simp[hc.1],rfl⟩
  all_goals
   obtain⟨rfl,rfl⟩:=aid h
   first
    |rfl
    |(simp only[SV.den,bne];by_cases e:a=b<;>simp[e])
 obtain⟨v,h1,h2⟩:=key;simp[mw,h1,h2]
def Mq{op:BinOp}{k k':IntKind}{a b:Int}{ob:List Pd}{y:SV}(t:TypeId)(h:Mr op k a b=some (ob,y))(hc:ag ob):
 mw P op t (.v<|.int k a) (.v<|.int k' b)=some y.den:=by
 cases op<;>try(cases h;done)
 all_goals
  cases h;simp[ag]at hc;have:¬b<0:=by omega
  simp[mw,yr,this,SV.den]
def SS{op:BinOp}{a b:bK}{ob:List Pd}{y:SV}(t:TypeId)(h:aaC op a b=some (ob,y))(hc:ag ob):
 mw P op t (.v<|.string<|bs a) (.v<|.string<|bs b)=some y.den:=by
 cases op<;>try(cases h;done)
 all_goals
  cases h
 case add=>
  simp[ag]at hc;have:¬(((bs a).size+(bs b).size:Nat):Int)>IntKind.i64.max:=by
   rw[xI,xI];have:IntKind.i64.max=9223372036854775807:=by decide
   omega
  simp only[mw,yr,this,if_false,SV.den,R8]
 case lss=>simp[mw,yr,SV.den,P9]
 all_goals
  simp[mw,yr,SV.den,P9];by_cases e:a=b<;>simp[e]
def Sa{op:BinOp}{a b:Bool}{ob:List Pd}{y:SV}{t:TypeId}(hu:P.underlying t=some .bool)(h:DR op a b=some (ob,y)):
 mw P op t (.v<|.bool a) (.v<|.bool b)=some y.den:=by
 cases op<;>try(cases h;done)
 all_goals
  cases h;cases a<;>simp[mw,yr,hu,SV.den]
def lO{op:BinOp}{b:Bool}{z:SV}(h:asBool op b=some z):MQ op (some b)=some z.den:=by
 cases op<;>try(cases h;done)
 all_goals
  cases h;cases b<;>rfl
def Z0(o:Bool):fl o≠.nil:=by cases o<;>simp[fl]
def QD{x:SV}{p:Pd}(h:SY x=some p)(hp:p.p):∃f sz X,x.den=.list f sz X/\f≠.nil/\X.isEmpty=false:=by
 cases x<;>simp[SY]at h<;>try(cases h;done)
 case row o sz xs=>
  cases xs with
  |nil=>cases h
  |cons x xs=>exact⟨_,_,_,rfl,Z0 _,rfl⟩
 all_goals
  subst h;refine⟨_,_,_,rfl,Z0 _,?_⟩;simpa using hp
def TL(hA:cq P tt){op:BinOp}{t:TypeId}{x y z:SV}{ob:List Pd}(h:aa4 tt op t x y=some (ob,z))(hc:ag ob):mw P op t x.den y.den=some z.den:=by
 unfold aa4 at h;split at h<;>try(cases h;done)
 ·split at h<;>try(cases h;done)
  rename_i e hu;have hu:P.underlying t=some (.slice e):=l9 hA hu;split at h
  ·split at h<;>try(cases h;done)
   rename_i z' hz;cases h;have:=lO hz;simpa[mw,isNil,SV.den,hu]using this
  ·rename_i xs;cases op<;>simp[abr,ac3]at h<;>try(cases h;done)
   all_goals
    obtain⟨-,rfl⟩:=h;cases xs<;>simp[mw,isNil,SV.den,flm,szm,hu,MQ]
  split at h<;>try(cases h;done)
  rename_i p hp;split at h<;>try(cases h;done)
  rename_i z' hz;cases h;simp[ag,and_true]at hc;have:=lO hz;obtain⟨f,sz,X,e1,e2,e3⟩:=QD hp hc;rw[e1];cases f with
  |nil=>exact absurd rfl e2
  |shr=>simpa[mw,isNil,SV.den,hu,e3]using this
  |own=>simpa[mw,isNil,SV.den,hu,e3]using this
 ·split at h<;>try(cases h;done)
  rename_i hu;obtain⟨e,hu⟩:∃e,P.underlying t=some (.pointer e):=l9 hA hu;split at h<;>try(cases h;done)
  ·split at h<;>try(cases h;done)
   rename_i z' hz;cases h;have:=lO hz;simpa[mw,isNil,SV.den,hu]using this
  split at h<;>try(cases h;done)
  rename_i z' hz;cases h;have:=lO hz;simpa[mw,yr,isNil,SV.den,hu]using this
 split at h<;>try(cases h;done)
 rename_i hu;obtain⟨a,b,c,hu⟩:∃a b c,P.underlying t=some (.func a b c):=l9 hA hu;split at h<;>try(cases h;done)
 ·split at h<;>try(cases h;done)
  rename_i z' hz;cases h;have:=lO hz;simpa[mw,isNil,SV.den,hu]using this
 split at h<;>try(cases h;done)
 rename_i z' hz;cases h;have:=lO hz;simpa[mw,yr,isNil,SV.den,hu]using this
def VO(hA:cq P tt){raw:Bool}{op:BinOp}{t:TypeId}{x y z:SV}{ob:List Pd}(h:acJ tt raw op t x y=some (ob,z))(hc:ag ob):mw P op t x.den y.den=some z.den:=by
 have Pw:∀a b:Bool,(match isBool (E4 tt t)with
  |true=>DR op a b
  |false=>none)=some (ob,z)->mw P op t (.v<|.bool a) (.v<|.bool b)=some z.den:=by
  intro a b h;split at h<;>try(cases h)
  rename_i hb;have hu:P.underlying t=some .bool:=by
   unfold isBool at hb;split at hb
   ·rename_i hu;exact l9 hA hu
   cases hb
  exact Sa hu h
 unfold acJ at h;split at h
 ·split at h
  ·exact Mq t h hc
  rename_i hs;split at h<;>try(cases h)
  rename_i hk;have:=nr hk;subst this;exact Uj t hs h hc
 ·exact SS t h hc
 ·exact Pw _ _ h
 ·exact Pw _ _ h
 ·exact Pw _ _ h
 ·exact Pw _ _ h
 exact TL hA h hc
def aau(raw:Bool)(op:UnOp)(x:SV):Option (List Pd×SV):=
 match op,x with
 |.neg,.n k n=>some (num raw k<|0-n)
 |.xor,.n k n=>some ([],.n k<|k.wrap (BitVec.ofInt k.bits (if k.signed then -1 else k.max)^^^BitVec.ofInt k.bits n).toNat)
 |.not,.b b=>some ([],.b<|not' b)
 |.not,.u b=>some ([],.u<|!b)
 |_,_=>none
def SG{raw:Bool}{op:UnOp}{x y:SV}{ob:List Pd}(h:aau raw op x=some (ob,y))(hc:ag ob):∃v w,x.den=.v v/\Z2 op v=some w/\y.den=.v w:=by
 unfold aau at h;split at h<;>try(cases h;done)
 ·simp only[abr]at h;obtain⟨rfl,rfl⟩:=aid h;exact⟨_,_,rfl,rfl,wH hc⟩
 ·cases h;exact⟨_,_,rfl,rfl,rfl⟩
 ·cases h;rename_i b;refine⟨_,_,rfl,rfl,?_⟩;cases b<;>rfl
 cases h;exact⟨_,_,rfl,rfl,rfl⟩
def Vo(tt:TT)(raw:Bool)(l:aV)(d:Nat)(op:BinOp)(t:TypeId)(x y:SR):ox:=(cX x).bind λ(ob,a)=>(cX y).bind λ(dX,b)=>(acJ tt raw op t a b).bind λ(pI,z)=>cZ (app pI<|app ob dX) l d z
def K8(hA:cq P tt)(raw:Bool)(l:aV)(d:Nat)(op:BinOp)(t:TypeId)(x y:SR):da l (Y6 P d op t x.den.cont y.den.cont) (Vo tt raw l d op t x y):=by refine aj _ λ⟨ob,a⟩h1=>aj _ λ⟨dX,b⟩h2=>aj _ λ⟨pI,z⟩h3=>il λc=>?_;obtain⟨c3,c12⟩:=aM.1 c;obtain⟨c1,c2⟩:=aM.1 c12;simp[Y6,aE h1 c1,aE h2 c2,VO hA h3 c3]
def acr(raw:Bool)(l:aV)(d:Nat)(op:UnOp)(x:SR):ox:=(cX x).bind λ(ob,a)=>(aau raw op a).bind λ(dX,z)=>cZ (app dX ob) l d z
def NJ(raw:Bool)(l:aV)(d:Nat)(op:UnOp)(x:SR):da l (un1 d op x.den.cont) (acr raw l d op x):=by refine aj _ λ⟨ob,a⟩h1=>aj _ λ⟨dX,z⟩h2=>il λc=>?_;obtain⟨c2,c1⟩:=aM.1 c;obtain⟨v,w,e1,e2,e3⟩:=SG h2 c2;have:=aE h1 c1;rw[e1]at this;simp[un1,this,e2,e3]
def NK(l:aV)(d:Nat)(c x y:SR):ox:=
 (cX c).bind λ(ob,a)=>match a with
   |.b true=>IB ob (sZ l d x)
   |.b false=>IB ob (sZ l d y)
   |_=>none
def H5(l:aV)(d:Nat)(c x y:SR):da l (Jy d c.den.cont x.den y.den) (NK l d c x y):=by
 refine aj _ λ⟨ob,a⟩h1=>?_;cases a<;>try exact bj
 rename_i b;cases b
 ·refine nz _ λc1=>?_;have:=aE h1 c1;simp[this];exact jk l d y
 refine nz _ λc1=>?_;have:=aE h1 c1;simp[this];exact jk l d x
end
section
variable{P:Program}{tt:TT}(hA:cq P tt)(l:aV)(d:Nat)
def NM(l:aV)(d:Nat)(u:Ty)(ob:List Pd)(v:SV):ox:=(pN v).bind λ(_,n)=>match u with
 |.slice _=>cZ ob l d (.n .i64 n)
 |_=>none
def Vl(tt:TT)(l:aV)(d:Nat)(t:TypeId)(x:SR):ox:=
 (cX x).bind λ(ob,v)=>(E4 tt t).bind λu=>match v with
   |.s s=>match u with
    |.str=>cZ ob l d (.n .i64 s.length)
    |_=>none
   |v=>NM l d u ob v
def K6(hA:cq P tt)(l:aV)(d:Nat)(t:TypeId)(ts:List TypeId)(x:SR):da l (j0 P d .len (t::ts) [x.den]) (Vl tt l d t x):=by
 refine aj _ λ⟨ob,v⟩h1=>aj _ λu h2=>?_;have gen:∀v,cX x=some (ob,v)->da l (j0 P d .len (t::ts) [x.den]) (NM l d u ob v):=by
  intro v h1;refine aj _ λ⟨sz,n⟩h3=>?_;cases u<;>try exact bj
  rename_i e;refine il λc=>?_;obtain⟨f,X,e1,e2⟩:=lJ h3;have hc:=aE h1 c;rw[e1]at hc;have hu:P.underlying t=some (.slice e):=l9 hA h2;simp[j0,hc,hu,e2,SV.den]
 cases v with
 |s s=>
  cases u<;>try exact bj
  refine il λc=>?_;have hc:=aE h1 c;have hu:P.underlying t=some .string:=l9 hA h2;simp[j0,hc,hu,xI,SV.den]
 |_=>exact gen _ h1
def sN(op:Bool)(a b:Int):Int:=match op with
 |true=>min a b
 |false=>max a b
def PJ(op:Bool)(l:aV)(d:Nat)(x y:SR):ox:=
 (cX x).bind λ(ob,a)=>(cX y).bind λ(dX,b)=>match a,b with
   |.n k a,.n k' b=>(gF<|sQ k k').bind λ_=>cZ (app ob dX) l d (.n k<|sN op a b)
   |_,_=>none
def AG(op:Bool)(ts:List TypeId)(x y:SR):da l (j0 P d (if op then .min else .max) ts [x.den,y.den]) (PJ op l d x y):=by
 refine aj _ λ⟨ob,a⟩h1=>aj _ λ⟨dX,b⟩h2=>?_;cases a<;>try exact bj
 cases b<;>try exact bj
 refine bd λh3=>il λc=>?_;have:=nr h3;subst this;obtain⟨c1,c2⟩:=aM.1 c;have e1:=aE h1 c1;have e2:=aE h2 c2;cases op
 all_goals simp[j0,e1,e2,SV.den,sN]
def NP(ti:xY):SV->Option (List Pd×Bool)
 |.ints .. =>(gF<|cW (not' ti.agg)<|Nat.beq ti.size 1).bind λ_=>some ([],true)
 |.strs .. =>(gF<|cW (not' ti.agg)<|Nat.beq ti.size 1).bind λ_=>some ([],true)
 |.b9 .. =>(gF<|cW (not' ti.agg)<|Nat.beq ti.size 1).bind λ_=>some ([],true)
 |.row _ sz xs=>(gF<|cW (Nat.beq sz ti.size)<|xs.all<|mq ti).bind λ_=>some ([],gm xs)
 |.bT _ sz _ e _=>(gF<|Nat.beq sz ti.size).bind λ_=>some ([.of<|∀x,mq ti (e x)=true,.of<|∀x,(e x).aF=true],true)
 |_=>none
def jt:SV->Bool
 |.ints _ o _=>o
 |.strs o _=>o
 |.b9 o _=>o
 |.row o _ _=>o
 |.bT o _ _ _ _=>o
 |_=>false
def tK{xs:List AV}(h:∀x∈xs,x.aF=true):bx xs=true:=by
 induction xs with
 |nil=>rfl
 |cons x xs ih=>simp[bx];simp_all
def NO{ti:xY}{y:SV}{ob:List Pd}{no:Bool}(h:NP ti y=some (ob,no))(hc:ag ob):
 ∃X,y.den=.list (fl<|jt y) ti.size X/\X.all (fits ti.den)=true/\bx X=no:=by
 unfold NP at h;cases y<;>simp only[ab3,bu,aN,not_iff,beq_iff]at h<;>try(cases h;done)
 case row o sz xs=>obtain⟨_,⟨rfl,h2⟩,rfl,rfl⟩:=h;refine⟨au xs,rfl,?_,dS xs⟩;rw[ade]at h2⊢;intro x hx;rw[bV]at hx;obtain⟨y,hy,rfl⟩:=ac0.1 hx;exact iW ti y<|h2 y hy
 case bT o sz α dd e xs=>
  obtain⟨_,rfl,rfl,rfl⟩:=h;obtain⟨c1,c2,-⟩:=hc;refine⟨_,rfl,?_,tK ?_⟩
  ·rw[ade];intro x hx;obtain⟨y,hy,rfl⟩:=ac0.1 hx;exact iW ti _<|c1 y
  intro x hx;obtain⟨y,hy,rfl⟩:=ac0.1 hx;rw[cz];exact c2 y
 all_goals
  obtain⟨_,⟨h1,h2⟩,rfl,rfl⟩:=h;refine⟨_,by rw[h2];rfl,?_,tK ?_⟩
  ·rw[ade];intro x hx;obtain⟨y,hy,rfl⟩:=ac0.1 hx;simp[fits,xY.den,h1,h2,AV.cell]
  intro x hx;obtain⟨y,hy,rfl⟩:=ac0.1 hx;rfl
def Y2:SV->SV->Option (List Pd×SV)
 |.nil,.ints k _ ys=>some ([ys≠[]],.ints k true ys)
 |.nil,.strs _ ys=>some ([ys≠[]],.strs true ys)
 |.nil,.b9 _ ys=>some ([ys≠[]],.b9 true ys)
 |.nil,.bT _ sz d e ys=>some ([ys≠[]],.bT true sz d e ys)
 |.nil,.row _ sz (y::ys)=>some ([],.row true sz<|y::ys)
 |.ints k true xs,.ints k' _ ys=>(gF<|sQ k k').bind λ_=>some ([],.ints k true<|xs++ys)
 |.strs true xs,.strs _ ys=>some ([],.strs true<|xs++ys)
 |.b9 true xs,.b9 _ ys=>some ([],.b9 true<|xs++ys)
 |.row true sz xs,.row _ _ ys=>some ([],.row true sz<|cat xs ys)
 |.row true sz [],.ints k _ ys=>(gF<|Nat.beq sz 1).bind λ_=>some ([],.ints k true ys)
 |.row true sz [],.strs _ ys=>(gF<|Nat.beq sz 1).bind λ_=>some ([],.strs true ys)
 |.row true sz [],.b9 _ ys=>(gF<|Nat.beq sz 1).bind λ_=>some ([],.b9 true ys)
 |.row true sz [],.bT _ gC d e ys=>(gF<|Nat.beq sz gC).bind λ_=>some ([],.bT true gC d e ys)
 |.row true sz (x::xs),.bT _ _ _ e ys=>some ([],.row true sz<|cat (x::xs)<|ys.map e)
 |.bT true sz _ e xs,.row _ _ ys=>some ([],.row true sz<|cat (xs.map e) ys)
 |.bT true sz _ e xs,.bT _ _ _ e' ys=>some ([],.row true sz<|cat (xs.map e)<|ys.map e')
 |_,_=>none
def VL{a b z:SV}{ob:List Pd}{f:Fl}{sz:Nat}{Y:List AV}(h:Y2 a b=some (ob,z))(hc:ag ob)(hb:b.den=.list f sz Y):
 (a=.nil/\Y.isEmpty=false/\z.den=.list .own sz Y)\/(a≠.nil/\∃gC X,a.den=.list .own gC X/\z.den=.list .own gC (X++Y)):=by
 unfold Y2 at h;split at h
 all_goals try(cases h;done)
 all_goals obtain⟨rfl,rfl,rfl⟩:=hb
 all_goals simp only[ab3,bu,abr]at h
 ·obtain⟨rfl,rfl⟩:=h;left;refine⟨rfl,?_,rfl⟩;simpa[ag]using hc
 ·obtain⟨rfl,rfl⟩:=h;left;refine⟨rfl,?_,rfl⟩;simpa[ag]using hc
 ·obtain⟨rfl,rfl⟩:=h;left;refine⟨rfl,?_,rfl⟩;simpa[ag]using hc
 ·obtain⟨rfl,rfl⟩:=h;left;refine⟨rfl,?_,rfl⟩;simpa[ag]using hc
 ·obtain⟨rfl,rfl⟩:=h;left;exact kL
 ·obtain⟨_,hk,rfl,rfl⟩:=h;have:=nr hk;subst this;right;exact⟨by simp,_,_,rfl,by simp[SV.den,fl]⟩
 ·obtain⟨rfl,rfl⟩:=h;right;exact⟨by simp,_,_,rfl,by simp[SV.den,fl]⟩
 ·obtain⟨rfl,rfl⟩:=h;right;exact⟨by simp,_,_,rfl,by simp[SV.den,fl]⟩
 ·obtain⟨rfl,rfl⟩:=h;right;exact⟨by simp,_,_,rfl,by simp[SV.den,fl,c8,bV]⟩
 ·obtain⟨_,hb,rfl,rfl⟩:=h;rw[beq_iff]at hb;subst hb;right;exact⟨by simp,_,_,rfl,by simp[SV.den,fl,au]⟩
 ·obtain⟨_,hb,rfl,rfl⟩:=h;rw[beq_iff]at hb;subst hb;right;exact⟨by simp,_,_,rfl,by simp[SV.den,fl,au]⟩
 ·obtain⟨_,hb,rfl,rfl⟩:=h;rw[beq_iff]at hb;subst hb;right;exact⟨by simp,_,_,rfl,by simp[SV.den,fl,au]⟩
 ·obtain⟨_,hb,rfl,rfl⟩:=h;rw[beq_iff]at hb;subst hb;right;exact⟨by simp,_,_,rfl,by simp[SV.den,fl,au]⟩
 ·obtain⟨rfl,rfl⟩:=h;right;exact⟨by simp,_,_,rfl,by simp[SV.den,fl,c8,bV]⟩
 ·obtain⟨rfl,rfl⟩:=h;right;exact⟨by simp,_,_,rfl,by simp[SV.den,fl,c8,bV]⟩
 obtain⟨rfl,rfl⟩:=h;right;exact⟨by simp,_,_,rfl,by simp[SV.den,fl,c8,bV];rfl⟩
def DX(My:List Nat)(d:Nat)(x:bM)(ti:TI)(ys:List AV):Option (List Mv):=
 match x.cont with
 |some (.list .nil _ _)=>if(ys.length*ti.bytes)<=140737488355328/\ys.length<=maxLen then
   some [.make My d<|if ys.isEmpty then .list .nil 0 []else .list .own ti.size ys]else none
 |some (.list .own Wk xs)=>if Wk=ti.size/\(xs.length+ys.length)*ti.bytes<=140737488355328/\xs.length+ys.length<=maxLen then
   match x.sl.av with
   |.bA r _ _ p=>if r∈My then none else some [.take r d p,.make (d::My) d<|.list .own ti.size<|xs++ys]
   |_=>match x.s with
    |some s=>if s∈My then none else some [.make (s::My) d<|.list .own ti.size<|xs++ys]
    |none=>none
  else none
 |_=>none
def IA{P:Program}{d:Nat}{t e:TypeId}{x y:bM}{ti:TI}{f:Fl}{sz:Nat}{ys:List AV}{My:List Nat}(h1:dt P t=some e)(h2:bY P e=some ti)(h3:ti.size≠0)
 (h4:y.cont=some (.list f sz ys))(h5:(bx ys=true/\My=[])\/(bx ys=false/\f=.own/\(∃a b c,y.sl.av=.list a b c)/\∃s,y.s=some s/\My=[s]))
 (h6:((ys.isEmpty||(sz==ti.size&&ys.all (fits ti)))&& !My.contains d)=true):kX P d t x y=DX My d x ti ys:=by
 unfold kX;simp only[h1,h2,h3,h4];rcases h5 with⟨h5,rfl⟩|⟨h5,rfl,⟨a,b,c,h7⟩,s,h8,rfl⟩
 ·simp only[h5,if_true,h6];rfl
 simp only[h5,aeu,if_false,h7,h8,h6];rfl
def myS(no:Bool)(y:SR):Option (List Nat):=match no with
 |true=>some []
 |false=>match y.sl.v with
  |.row true _ _=>match y.s with
   |some s=>some [s]
   |none=>none
  |_=>none
def HA(d:Nat)(M:List Nat):Bool:=M.any<|Nat.beq d
def mem_iff{d:Nat}{M:List Nat}:HA d M=true↔d∈M:=by
 unfold HA;rw[List.any_eq_true];constructor
 ·rintro⟨x,hx,h⟩;rw[beq_iff]at h;subst h;exact hx
 intro h;simp_all
def Vm(l:aV)(d:Nat)(x:SR)(a:SV)(My:List Nat)(ob:List Pd)(z:SV):ox:=
 match a with
 |.nil=>nX ob l My d z
 |_=>match x.sl.v with
  |.bA r _ _ p=>(gF<|not'<|HA r My).bind λ_=>(E6 l r d p).bind λ(dX,_,l')=>rF l' (d::My) d z λl2=>some (app ob dX,l2,cat [r,d]<|d::d::My)
  |_=>match x.s with
   |some s=>(gF<|not'<|HA s My).bind λ_=>nX ob l (s::My) d z
   |none=>none
def lL(tt:TT)(l:aV)(d:Nat)(t:TypeId)(x y:SR)(z?:SV->SV->Option (List Pd×SV)):ox:=
 (slice? tt t).bind λe=>(GP tt e).bind λti=>(cX x).bind λ(ob,a)=>(cX y).bind λ(dX,b)=>match ti with
   |⟨g,n,bytes,zero⟩=>(gF<|cW (ne' n 0)<|ne' bytes 0).bind λ_=>(NP ⟨g,n,bytes,zero⟩ b).bind λ(pI,no)=>(myS no y).bind λMy=>(gF<|not'<|HA d My).bind λ_=>
    (z? a b).bind λ(Xt,z)=>(pN a).bind λ(sz,k1)=>(pN b).bind λ(_,k2)=>(gF<|EP (CP a)<|Nat.beq sz n).bind λ_=>Vm l d x a My (((k1+k2)*bytes<=140737488355328)::app ob (app dX<|app pI Xt)) z
 where CP:SV->Bool
  |.nil=>true
  |_=>false
def CO{a:SV}:lL.CP a=true↔a=.nil:=by cases a<;>simp[lL.CP]
def Bk(hA:cq P tt)(l:aV)(d:Nat)(t:TypeId)(x y:SR)(z?:SV->SV->Option (List Pd×SV))
 (hz:∀a b ob z f sz Y,z? a b=some (ob,z)->ag ob->b.den=.list f sz Y->(a=.nil/\Y.isEmpty=false/\z.den=.list .own sz Y)\/(a≠.nil/\∃gC X,a.den=.list .own gC X/\z.den=.list .own gC (X++Y))):
 da l (kX P d t x.den y.den) (lL tt l d t x y z?):=by
 refine aj _ λe h1=>aj _ λti h2=>aj _ λ⟨ob,a⟩h3=>aj _ λ⟨dX,b⟩h4=>?_;obtain⟨g,n,bytes,zero⟩:=ti;refine bd λh5=>aj _ λ⟨pI,no⟩h6=>aj _ λMy h7=>bd λh8=>aj _ λ⟨Xt,z⟩h9=>aj _ λ⟨sz,k1⟩Yv=>aj _ λ⟨sz2,k2⟩h11=>bd λh12=>?_;rw[aN,ne_iff,ne_iff]at h5;have hdM:d∉My:=by intro hm;rw[mem_iff.2 hm]at h8;cases h8
 have gR:=j7 hA h2;have base:ag (((k1+k2)*bytes<=140737488355328)::app ob (app dX<|app pI Xt))->
  (a=.nil/\kX P d t x.den y.den=some [.make My d z.den])\/
  (a≠.nil/\kX P d t x.den y.den=match x.den.sl.av with
    |.bA r _ _ p=>if r∈My then none else some [.take r d p,.make (d::My) d z.den]
    |_=>match x.den.s with
     |some s=>if s∈My then none else some [.make (s::My) d z.den]
     |none=>none):=by
  intro c;obtain⟨cb,c⟩:=c;obtain⟨c1,c⟩:=aM.1 c;obtain⟨c2,c⟩:=aM.1 c;obtain⟨c3,c4⟩:=aM.1 c;obtain⟨Y,e1,e2,e3⟩:=NO h6 c3;have hx:=aE h3 c1;have hy:=aE h4 c2;rw[e1]at hy;have Po:Y.length=k2:=by obtain⟨f,X,q1,q2⟩:=lJ h11;rw[e1]at q1;simp[AV.list.injEq]at q1;obtain⟨-,-,rfl⟩:=q1;exact q2
  have Pz:(bx Y=true/\My=[])\/(bx Y=false/\fl (jt b)=.own/\(∃a b c,y.den.sl.av=.list a b c)/\∃s,y.den.s=some s/\My=[s]):=by
   rw[e3];unfold myS at h7;cases no with
   |true=>left;simp only[abr]at h7;exact⟨rfl,h7.symm⟩
   |false=>
    right;simp only at h7;split at h7<;>try(cases h7;done)
    rename_i gC rs hv;split at h7<;>try(cases h7;done)
    rename_i s hs;simp[abr]at h7;have hb:b=.row true gC rs:=by unfold cX at h4;rw[hv]at h4;simp[abr,ac3]at h4;exact h4.2.symm
    subst hb;have cC:y.den.sl.av=.list .own gC (au rs):=by show y.sl.v.den=.list .own gC (au rs);rw[hv];rfl
    exact⟨rfl,rfl,⟨_,_,_,cC⟩,s,hs,h7.symm⟩
  have o6:0<bytes:=afS h5.2;have Np:k1+k2<=maxLen:=by have:(k1+k2)*1<=(k1+k2)*bytes:=adQ _ o6;unfold maxLen;omega
  have Pu:(!My.contains d)=true:=by simpa using hdM
  have iJ:((Y.isEmpty||(({agg:=g,size:=n,bytes:=bytes,zero:=zero}:xY).size==(xY.den ⟨g,n,bytes,zero⟩).size&&Y.all (fits<|xY.den ⟨g,n,bytes,zero⟩)))&& !My.contains d)=true:=by rw[Pu,e2];simp[xY.den]
  have No:(xY.den ⟨g,n,bytes,zero⟩).size≠0:=h5.1;have hbs:(xY.den ⟨g,n,bytes,zero⟩).bytes=bytes:=rfl;rw[IA (mT hA h1) gR No hy Pz iJ];unfold DX;rw[hx];rcases hz a b Xt z _ _ _ h9 c4 e1 with⟨rfl,z1,z2⟩|⟨z0,gC,X,z1,z2⟩
  ·left;refine⟨rfl,?_⟩;simp[pN,abr,ac3]at Yv;have hk1:k1=0:=Yv.2.symm;subst hk1;simp only[SV.den];rw[if_pos ⟨by rw[hbs,Po];simpa using cb,by rw[Po];omega⟩];simp[z1,aeu,if_false,z2];rfl
  right;refine⟨z0,?_⟩;rw[z1,z2];have Pp:X.length=k1/\gC=sz:=by obtain⟨f,X',q1,q2⟩:=lJ Yv;rw[z1]at q1;simp[AV.list.injEq]at q1;obtain⟨-,rfl,rfl⟩:=q1;exact⟨q2,rfl⟩
  have cM:sz=n:=by rw[ru,beq_iff,CO]at h12;exact h12.resolve_left z0
  have afp:(xY.den ⟨g,n,bytes,zero⟩).size=n:=rfl;simp only;rw[if_pos ⟨by rw[Pp.2,cM,afp],by rw[hbs,Pp.1,Po];exact cb,by rw[Pp.1,Po];exact Np⟩];rw[afp,<-cM,<-Pp.2]
 unfold Vm;split
 ·refine kq λc=>?_;rcases base c with⟨-,h⟩|⟨h,-⟩
  ·exact h
  exact absurd rfl h
 rename_i LW;split
 ·rename_i r g1 g2 p hv;refine bd λYu=>?_;rw[not_iff]at Yu;have X9:r∉My:=by intro hm;rw[mem_iff.2 hm]at Yu;cases Yu
  refine aj _ λ⟨ob4,y4,l4⟩h14=>?_;intro obx lx ks he hc;simp[fo,abr,ac3]at he;obtain⟨rfl,rfl,rfl⟩:=he;obtain⟨ca,cb⟩:=aM.1 hc;rcases base ca with⟨h,-⟩|⟨-,h⟩
  ·exact absurd h LW
  have wX:x.den.sl.av=.bA r g1 g2 p:=by show x.sl.v.den=_;rw[hv];rfl
  rw[wX]at h;simp[X9,if_false]at h;refine⟨_,h,?_,by simp[aU,Mv.keys,cat]⟩;simp[Mv.runs];rw[E5 h14 cb];simp[Mv.run,gK]
 rename_i hv;split
 ·rename_i s hs;refine bd λYu=>kq λc=>?_;rw[not_iff]at Yu;have hsM:s∉My:=by intro hm;rw[mem_iff.2 hm]at Yu;cases Yu
  rcases base c with⟨h,-⟩|⟨-,h⟩
  ·exact absurd h LW
  have wX:∀r g1 g2 p,x.den.sl.av≠.bA r g1 g2 p:=by intro r g1 g2 p hh;have:x.sl.v.den=.bA r g1 g2 p:=hh;cases hvv:x.sl.v<;>rw[hvv]at this<;>simp[SV.den]at this;obtain⟨rfl,rfl,rfl,rfl⟩:=this;exact hv _ _ _ _ hvv
  have Nk:x.den.s=some s:=hs;rw[h];split
  ·rename_i hh;exact absurd hh<|wX _ _ _ _
  rw[Nk];simp[hsM]
 exact bj
end
section
variable{P:Program}{tt:TT}(hA:cq P tt)(l:aV)(d:Nat)
def pg(x:Option SR)(Ie:Nat):Option (List Pd×Nat):=match x with
 |none=>some ([],Ie)
 |some x=>(cX x).bind λ(ob,v)=>match v with
  |.n _ n=>some ((0<=n)::ob,n.toNat)
  |_=>none
def eB{x:Option SR}{Ie n:Nat}{ob:List Pd}(h:pg x Ie=some (ob,n))(hc:ag ob):nf (x.map SR.den) Ie=some n:=by
 cases x with
 |none=>simp[pg]at h;simp[nf,h.2]
 |some x=>
  simp[pg,ab3]at h;obtain⟨nV,v,h1,h2⟩:=h;cases v<;>try(cases h2;done)
  rename_i k a;obtain⟨rfl,rfl⟩:=h2;have:x.den.cont=some (.v<|.int k a):=aE h1 hc.2;simp[nf,this,hc.1]
def DA(lo hi:Nat):SV->Option SV
 |.ints k _ xs=>some (.ints k false<|(xs.drop lo).take<|hi-lo)
 |.strs _ xs=>some (.strs false<|(xs.drop lo).take<|hi-lo)
 |.b9 _ xs=>some (.b9 false<|(xs.drop lo).take<|hi-lo)
 |.bT false sz d e xs=>some (.bT false sz d e<|(xs.drop lo).take<|hi-lo)
 |.bT true sz d e xs=>some (.bT false sz d (λx=>(e x).bw)<|(xs.drop lo).take<|hi-lo)
 |.row false sz xs=>some (.row false sz<|SL (Vt xs lo)<|hi-lo)
 |.row true sz xs=>some (.row false sz<|iL<|SL (Vt xs lo)<|hi-lo)
 |_=>none
def yh:∀xs:List SV,iL xs=xs.map SV.bw
 |[]=>rfl
 |x::xs=>by simp[iL,yh xs]
def abn{y z:SV}{lo hi:Nat}(h:DA lo hi y=some z):∃sz X,y.den=.list (fl<|jt y) sz X/\z.den=.list .shr sz (((if jt y then gh X else X).drop lo).take<|hi-lo):=by
 cases y with
 |ints k o xs=>simp[DA]at h;subst h;cases o<;>exact⟨_,_,rfl,by simp[SV.den,fl,ib,AV.bw]⟩
 |strs o xs=>simp[DA]at h;subst h;cases o<;>exact⟨_,_,rfl,by simp[SV.den,fl,ib,AV.bw]⟩
 |b9 o xs=>simp[DA]at h;subst h;cases o<;>exact⟨_,_,rfl,by simp[SV.den,fl,ib,AV.bw]⟩
 |bT o sz dd e xs=>
  cases o
  ·simp[DA]at h;subst h;exact⟨_,_,rfl,by simp[SV.den,fl,jt,aht]⟩
  simp[DA]at h;subst h;exact⟨_,_,rfl,by simp[SV.den,fl,jt,ib,fS]⟩
 |row o sz xs=>
  cases o
  ·simp[DA]at h;subst h;exact⟨_,_,rfl,by simp[SV.den,fl,jt,bV,uQ,vE,aht]⟩
  simp[DA]at h;subst h;exact⟨_,_,rfl,by rw[SV.den,fl,jt,iK,bV,bV,uQ,vE];simp[yh]⟩
 |_=>simp[DA]at h
def K5(l:aV)(d:Nat)(ti:xY)(x:SR)(y:SV)(ob:List Pd)(lo hi mx:Nat):ox:=
 match lL.CP y with
 |true=>cZ ((lo<=hi)::(hi<=mx)::(mx<=0)::ob) l d .nil
 |false=>(pN y).bind λ(sz,n)=>(gF<|Nat.beq sz ti.size).bind λ_=>(DA lo hi y).bind λz=>match jt y with
  |false=>cZ ((lo<=hi)::(hi<=mx)::(mx<=n)::ob) l d z
  |true=>(u4 x).bind λ(r,_,_,p)=>(gF<|ne' r d).bind λ_=>(sx l r p).bind λ(dX,l')=>Jv l' d z λl2=>some ((lo<=hi)::(hi<=mx)::(mx<=n)::app ob dX,l2,[r,d])
def H4(tt:TT)(l:aV)(d:Nat)(t:TypeId)(x:SR)(lo hi mx:Option SR):ox:=
 (E4 tt t).bind λu=>(cX x).bind λ(ob,v)=>match u with
   |.str=>match v with
    |.s s=>match mx with
     |none=>(pg lo 0).bind λ(nV,a)=>(pg hi s.length).bind λ(pI,b)=>cZ ((a<=b)::(b<=s.length)::app ob (app nV pI)) l d (.s<|(s.take b).drop a)
     |some _=>none
    |_=>none
   |.slice e=>(GP tt e).bind λti=>(pN v).bind λ(_,n)=>(pg lo 0).bind λ(nV,a)=>(pg hi n).bind λ(pI,b)=>(pg mx b).bind λ(Xt,m)=>K5 l d ti x v (app ob<|app nV<|app pI Xt) a b m
   |_=>none
def ED(hA:cq P tt)(l:aV)(d:Nat)(t:TypeId)(x:SR)(lo hi mx:Option SR):da l (qA P d t x.den (lo.map SR.den) (hi.map SR.den)<|mx.map SR.den) (H4 tt l d t x lo hi mx):=by
 refine aj _ λu h1=>aj _ λ⟨ob,v⟩h2=>?_;have hu:=l9 hA h1;cases u<;>try exact bj
 ·cases v<;>try exact bj
  rename_i s;cases mx with
  |some _=>exact bj
  |none=>refine aj _ λ⟨nV,a⟩h3=>aj _ λ⟨pI,b⟩h4=>il λc=>?_;obtain⟨k1,k2,c⟩:=c;obtain⟨c1,c⟩:=aM.1 c;obtain⟨c2,c3⟩:=aM.1 c;have hc:x.den.cont=some (.v<|.string<|bs s):=aE h2 c1;have hu:P.underlying t=some .string:=hu;have hb:=eB h4 c3;rw[<-xI]at hb;unfold qA;simp only[hu,hc,aiW,eB h3 c2,hb];rw[if_pos ⟨k1,by rw[xI];exact k2⟩,SV.den,Oc]
 rename_i e;refine aj _ λti h3=>aj _ λ⟨sz,n⟩h4=>aj _ λ⟨nV,a⟩h5=>aj _ λ⟨pI,b⟩h6=>aj _ λ⟨Xt,m⟩h7=>?_;have hu:P.underlying t=some (.slice e):=hu;have gR:=j7 hA h3;obtain⟨f,X,e1,e2⟩:=lJ h4;unfold K5;cases sS:lL.CP v
 rotate_left
 ·have:=CO.1 sS;subst this;refine il λc=>?_;obtain⟨k1,k2,k3,c⟩:=c;obtain⟨c0,c⟩:=aM.1 c;obtain⟨c1,c⟩:=aM.1 c;obtain⟨c2,c3⟩:=aM.1 c;obtain⟨rfl,rfl⟩:=h4;have hc:x.den.cont=some (.list .nil 0 []):=aE h2 c0;unfold qA;simp only[hu,gR,hc,acY,eB h5 c1,eB h6 c2,eB h7 c3];rw[if_pos ⟨k1,k2,k3⟩];rfl
 refine aj _ λ⟨gC,n'⟩h8=>?_;rw[h4]at h8;cases h8;refine bd λh9=>aj _ λz Yv=>?_;have cM:sz=ti.den.size:=beq_iff.1 h9;obtain⟨sz2,X2,q1,q2⟩:=abn Yv;rw[e1]at q1;obtain⟨rfl,rfl,rfl⟩:=q1;have base:ag (app ob<|app nV<|app pI Xt)->a<=b->b<=m->m<=n->qA P d t x.den (lo.map SR.den) (hi.map SR.den) (mx.map SR.den)=match jt v with
  |false=>some [.put d<|.list .shr sz<|(X.drop a).take<|b-a]
  |true=>match x.den.place with
   |some (r,_,_,p)=>if r=d then none else some [.share r p,.put d<|.list .shr sz<|((gh X).drop a).take<|b-a]
   |none=>none:=by
  intro c k1 k2 k3;obtain⟨c0,c⟩:=aM.1 c;obtain⟨c1,c⟩:=aM.1 c;obtain⟨c2,c3⟩:=aM.1 c;have hc:=aE h2 c0;rw[e1]at hc;have hb:=eB h6 c2;rw[<-e2]at hb;unfold qA;simp[hu,gR,hc,eB h5 c1,hb,eB h7 c3];rw[if_pos ⟨k1,k2,by rw[e2];exact k3⟩];cases ho:jt v
  ·simp only[fl];rw[if_pos cM]
  simp[fl];rw[if_pos cM];rfl
 cases ho:jt v with
 |false=>refine il λc=>?_;obtain⟨k1,k2,k3,c⟩:=c;rw[base c k1 k2 k3,ho,q2,ho];simp
 |true=>refine aj _ λ⟨r,g1,g2,p⟩h11=>bd λh12=>aj _ λ⟨dX,l'⟩Yu=>?_;intro obx lx ks he vo;simp[mV,abr,ac3]at he;obtain⟨rfl,rfl,rfl⟩:=he;obtain⟨k1,k2,k3,c⟩:=vo;obtain⟨c,cs⟩:=aM.1 c;have hb:=base c k1 k2 k3;rw[ho]at hb q2;simp[nU,h11,ne_iff.1 h12,if_false]at hb;simp[if_true]at q2;refine⟨_,hb,?_,rfl⟩;simp[Mv.runs];rw[lB Yu cs];simp[Mv.run];rw[<-q2,kM]
def Ia(tt:TT)(l:aV)(d:Nat)(t:TypeId):ox:=(GP tt t).bind λti=>match ti with|⟨_,_,_,z⟩=>nX [] l [] d<|.box true z
def EH(hA:cq P tt)(l:aV)(d:Nat)(t:TypeId):da l (match bY P t with|some ti=>some [.make [] d<|.box true ti.zero]|none=>none) (Ia tt l d t):=by refine aj _ λti h=>?_;refine kq λ_=>?_;rw[j7 hA h];rfl
def Vn(tt:TT)(l:aV)(d:Nat)(t:TypeId)(x:SR):ox:=(GP tt t).bind λti=>(w9 x).bind λ(ob,y,M)=>(gF<|mq ti y).bind λ_=>nX ob l M d<|.box true y
def K7(hA:cq P tt)(l:aV)(d:Nat)(t:TypeId)(x:SR):da l (match bY P t with|some ti=>Yz d (dT x.den) λy=>if fits ti y then some (.box true y)else none|none=>none) (Vn tt l d t x):=by refine aj _ λti h1=>aj _ λ⟨ob,y,M⟩h2=>bd λh3=>kq λc=>?_;rw[j7 hA h1];simp[o7 h2 c,Yz,iW _ _ h3,SV.den]
def wb(k:IntKind):List SV->Option (List Int)
 |[]=>some []
 |.n k' a::r=>(gF<|sQ k k').bind λ_=>(wb k r).bind λaas=>some (a::aas)
 |_::_=>none
def Ac{k:IntKind}:∀{xs:List SV}{aas:List Int},wb k xs=some aas->au xs=aas.map λa=>.v (.int k a)
 |[],aas,h=>by simp[wb]at h;subst h;rfl
 |x::r,aas,h=>by
  cases x<;>simp only[wb,ab3,bu,abr]at h<;>try(cases h;done)
  obtain⟨_,hk,as',h1,rfl⟩:=h;have:=nr hk;subst this;simp[au,SV.den,Ac h1]
def wa:List SV->Option (List bK)
 |[]=>some []
 |.s a::r=>(wa r).bind λaas=>some (a::aas)
 |_::_=>none
def Ab:∀{xs:List SV}{aas:List bK},wa xs=some aas->au xs=aas.map λa=>.v (.string<|bs a)
 |[],aas,h=>by simp[wa]at h;subst h;rfl
 |x::r,aas,h=>by
  cases x<;>simp[wa,ab3]at h<;>try(cases h;done)
  obtain⟨as',h1,rfl⟩:=h;simp[au,SV.den,Ab h1]
def nM:List SV->Option (List Bool)
 |[]=>some []
 |.b a::r=>(nM r).bind λaas=>some (a::aas)
 |.u a::r=>(nM r).bind λaas=>some (a::aas)
 |_::_=>none
def qE:∀{xs:List SV}{aas:List Bool},nM xs=some aas->au xs=aas.map λa=>.v (.bool a)
 |[],aas,h=>by simp[nM]at h;subst h;rfl
 |x::r,aas,h=>by
  cases x<;>simp[nM,ab3]at h<;>try(cases h;done)
  all_goals
   obtain⟨as',h1,rfl⟩:=h;simp[au,SV.den,qE h1]
def TW(sz:Nat)(xs:List SV):Option SV:=match xs with
 |.n k a::r=>(gF<|Nat.beq sz 1).bind λ_=>(wb k<|.n k a::r).bind λaas=>some (.ints k true aas)
 |.s a::r=>(gF<|Nat.beq sz 1).bind λ_=>(wa<|.s a::r).bind λaas=>some (.strs true aas)
 |.b a::r=>(gF<|Nat.beq sz 1).bind λ_=>(nM<|.b a::r).bind λaas=>some (.b9 true aas)
 |.u a::r=>(gF<|Nat.beq sz 1).bind λ_=>(nM<|.u a::r).bind λaas=>some (.b9 true aas)
 |xs=>some<|.row true sz xs
def Rc{sz:Nat}{xs:List SV}{y:SV}(h:TW sz xs=some y):y.den=.list .own sz (au xs):=by
 unfold TW at h;split at h
 ·simp only[ab3,bu,beq_iff,abr]at h;obtain⟨_,rfl,aas,h1,rfl⟩:=h;rw[Ac h1];rfl
 ·simp only[ab3,bu,beq_iff,abr]at h;obtain⟨_,rfl,aas,h1,rfl⟩:=h;rw[Ab h1];rfl
 ·simp only[ab3,bu,beq_iff,abr]at h;obtain⟨_,rfl,aas,h1,rfl⟩:=h;rw[qE h1];rfl
 ·simp only[ab3,bu,beq_iff,abr]at h;obtain⟨_,rfl,aas,h1,rfl⟩:=h;rw[qE h1];rfl
 cases h;rfl
def idxs:List (Nat×Operand)->Nat->Bool
 |[],_=>true
 |(i,_)::r,k=>match Nat.beq i k with
  |true=>idxs r (k+1)
  |false=>false
def O9:∀{ps:List (Nat×Operand)}{k:Nat},idxs ps k=true->ps.map (·.1)=List.range' k ps.length
 |[],_,_=>rfl
 |(i,x)::r,k,h=>by
  simp[idxs]at h;split at h
  ·rename_i hb;have:=adi hb;subst this;simp[List.range'_succ,O9 h]
  cases h
def qF(l:aV):List (Nat×Operand)->Option (List SR)
 |[]=>some []
 |(_,x)::r=>(dP l x).bind λy=>(qF l r).bind λys=>some<|y::ys
def uZ:∀{ps:List (Nat×Operand)}{xs:List SR},qF l ps=some xs->ps.map (λp=>resolve (dn l) p.2)=xs.map SR.den
 |[],xs,h=>by simp[qF]at h;subst h;rfl
 |(i,x)::r,xs,h=>by simp[qF,ab3]at h;obtain⟨y,h1,ys,h2,rfl⟩:=h;simp[cF h1,uZ h2]
def jg(l:aV):List Operand->Option (List SR)
 |[]=>some []
 |x::r=>(dP l x).bind λy=>(jg l r).bind λys=>some<|y::ys
def eD:∀{ps:List Operand}{xs:List SR},jg l ps=some xs->ps.map (resolve<|dn l)=xs.map SR.den
 |[],xs,h=>by simp[jg]at h;subst h;rfl
 |x::r,xs,h=>by simp[jg,ab3]at h;obtain⟨y,h1,ys,h2,rfl⟩:=h;simp[cF h1,eD h2]
def rf(tt:TT)(l:aV)(d:Nat)(t:TypeId)(n:Nat)(ps:List (Nat×Operand)):ox:=
 (slice? tt t).bind λe=>(GP tt e).bind λti=>(qF l ps).bind λxs=>(kR xs).bind λ(ob,ys,M)=>(gF<|cW (cW (idxs ps 0)<|Nat.beq n<|len ps)<|cW (ys.all<|mq ti)<|Nat.ble (n*ti.size) 16777216).bind λ_=>(gF<|Nat.ble n 16777216).bind λ_=>(TW ti.size ys).bind λy=>nX ob l M d y
def vC(hA:cq P tt)(l:aV)(d:Nat)(t:TypeId)(n:Nat)(ps:Array (Nat×Operand)):da l (match dt P t with
 |some e=>match bY P e with
  |some ti=>match fG (ps.toList.map λp=>resolve (dn l) p.2)with
   |some (ys,M)=>if(ps.toList.map (·.1)=List.range n)/\(ys.all<|fits ti)/\n*ti.size<=2^24/\n<=maxLen then some [.make M d<|.list .own ti.size ys]else none
   |none=>none
  |none=>none
 |none=>none) (rf tt l d t n ps.toList):=by
 refine aj _ λe h1=>aj _ λti h2=>aj _ λxs h3=>aj _ λ⟨ob,ys,M⟩h4=>bd λh5=>bd λh6=>aj _ λy h7=>kq λc=>?_;simp only[aN,beq_iff,eV]at h5;obtain⟨⟨a1,a2⟩,a3,a4⟩:=h5;have hi:=O9 a1;simp only[mT hA h1,j7 hA h2,uZ l h3,oc h4 c];have jj:(au ys).all (fits ti.den)=true:=by rw[ade]at a3⊢;intro x hx;rw[bV]at hx;obtain⟨y,hy,rfl⟩:=ac0.1 hx;exact iW ti y<|a3 y hy
 have hn:n<=maxLen:=by have:=adk h6;unfold maxLen;omega
 rw[if_pos ⟨by rw[hi,a2,List.range_eq_range'],jj,adk a4,hn⟩,Rc h7];rfl
def GW(cs:List SV)(o n:Nat)(y:SV):Option (List SV):=
 (gF<|Nat.ble (o+n)<|len cs).bind λ_=>match y with
   |.agg ys=>(gF<|Nat.beq (len ys) n).bind λ_=>some (cat (SL cs o)<|cat ys<|Vt cs<|o+n)
   |y=>(gF<|cW (Nat.beq n 1) y.cell).bind λ_=>some<|put cs o y
def I7{cs zs:List SV}{o n:Nat}{y:SV}(h:GW cs o n y=some zs):BY (au cs) o n y.den=some (au zs):=by
 simp only[GW,ab3,bu]at h;obtain⟨_,h1,h⟩:=h;have h1:=adk h1;rw[eV]at h1;unfold BY;rw[if_pos<|by rw[bq];exact h1];cases y with
 |agg ys=>simp only[ab3,bu,beq_iff,eV,abr]at h;obtain⟨_,h2,rfl⟩:=h;simp[SV.den,h2,c8,uQ,vE,bV,acZ]
 |_=>
  simp only[ab3,bu,aN,beq_iff,abr]at h;obtain⟨_,⟨h2,h3⟩,rfl⟩:=h
  first
   |(simp[h2,put_eq,xn];rfl)
   |(simp[SV.cell]at h3)
def Db(pl:List (Nat×Nat)):List SV->List (Nat×Operand)->List SV->Option (List SV)
 |cs,[],_=>some cs
 |cs,(i,_)::r,y::ys=>(nth pl i).bind λ(o,n)=>(GW cs o n y).bind λcs=>Db pl cs r ys
 |_,_,_=>none
def Da{pl:List (Nat×Nat)}:∀{ps:List (Nat×Operand)}{cs ys zs:List SV},ys.length=ps.length->Db pl cs ps ys=some zs->sX pl (au cs) ((ps.map (·.1)).zip<|au ys)=some (au zs)
 |[],cs,ys,zs,hl,h=>by simp[Db]at h;subst h;rfl
 |(i,x)::r,cs,[],zs,hl,h=>by cases hl
 |(i,x)::r,cs,y::ys,zs,hl,h=>by simp[Db,ab3]at h;obtain⟨o,n,h1,cs',h2,h3⟩:=h;rw[mF]at h1;simp[au,sX,h1,I7 h2];exact Da (by simpa using hl) h3
def H9(tt:TT)(l:aV)(d:Nat)(t:TypeId)(ps:List (Nat×Operand)):ox:=
 (GP tt t).bind λti=>match ti with
   |⟨_,_,_,z⟩=>match z with
    |.agg z=>(Hl tt t).bind λpl=>(qF l ps).bind λxs=>(kR xs).bind λ(ob,ys,M)=>(Db pl z ps ys).bind λcs=>nX ob l M d (.agg cs)
    |_=>none
def rK:∀{xs:List SR}{ob:List Pd}{ys:List SV}{M:List Nat},kR xs=some (ob,ys,M)->ys.length=xs.length
 |[],ob,ys,M,h=>by simp[kR]at h;simp[<-h.2.1]
 |x::xs,ob,ys,M,h=>by simp[kR,ab3]at h;obtain⟨nV,y,M1,h1,pI,Qm,N,h2,_,h3,rfl,rfl,rfl⟩:=h;simp[rK h2]
def ur:∀{ps:List (Nat×Operand)}{xs:List SR},qF l ps=some xs->xs.length=ps.length
 |[],xs,h=>by simp[qF]at h;subst h;rfl
 |(i,x)::r,xs,h=>by simp[qF,ab3]at h;obtain⟨y,h1,ys,h2,rfl⟩:=h;simp[ur h2]
def EG(hA:cq P tt)(l:aV)(d:Nat)(t:TypeId)(ps:Array (Nat×Operand)):da l (match bY P t with
 |some ti=>match ti.zero with
  |.agg z=>match placesOf P t with
   |some pl=>match fG (ps.toList.map λp=>resolve (dn l) p.2)with
    |some (ys,M)=>match sX pl z ((ps.toList.map (·.1)).zip ys)with
     |some cs=>some [.make M d<|.agg cs]
     |none=>none
    |none=>none
   |none=>none
  |_=>none
 |none=>none) (H9 tt l d t ps.toList):=by
 refine aj _ λti h1=>?_;obtain⟨a,b,c,z⟩:=ti;cases z<;>try exact bj
 rename_i z;refine aj _ λpl h2=>aj _ λxs h3=>aj _ λ⟨ob,ys,M⟩h4=>aj _ λcs h5=>kq λc=>?_;have hz:(xY.den ⟨a,b,‹_›,.agg z⟩).zero=.agg (au z):=rfl;simp[j7 hA h1,hz,QV hA h2,uZ l h3,oc h4 c,Da (by rw[rK h4,ur l h3]) h5,SV.den]
def L8(sz:Nat)(z:SV)(n:Nat):Option SV:=match z with
 |.n k a=>(gF<|Nat.beq sz 1).bind λ_=>some (.ints k true<|List.replicate n a)
 |.s a=>(gF<|Nat.beq sz 1).bind λ_=>some (.strs true<|List.replicate n a)
 |.b a=>(gF<|Nat.beq sz 1).bind λ_=>some (.b9 true<|List.replicate n a)
 |z=>some<|.row true sz<|List.replicate n z
def L7{sz n:Nat}{z y:SV}(h:L8 sz z n=some y):y.den=.list .own sz (List.replicate n z.den):=by
 unfold L8 at h;split at h
 ·simp only[ab3,bu,beq_iff,abr]at h;obtain⟨_,rfl,rfl⟩:=h;simp[SV.den,fl]
 ·simp only[ab3,bu,beq_iff,abr]at h;obtain⟨_,rfl,rfl⟩:=h;simp[SV.den,fl]
 ·simp only[ab3,bu,beq_iff,abr]at h;obtain⟨_,rfl,rfl⟩:=h;simp[SV.den,fl]
 cases h;simp[SV.den,fl,bV]
def s6(tt:TT)(l:aV)(d:Nat)(t:TypeId)(x y:SR):ox:=
 (slice? tt t).bind λe=>(GP tt e).bind λti=>match ti with
   |⟨_,sz,bytes,z⟩=>(cX x).bind λ(ob,a)=>(cX y).bind λ(dX,b)=>match a,b with
    |.n _ a,.n _ b=>(gF<|ne' sz 0).bind λ_=>(L8 sz z a.toNat).bind λr=>nX ((0<=a)::(a<=b)::(b*bytes<=140737488355328)::(b<=9223372036854775807)::app ob dX) l [] d r
    |_,_=>none
def xe(hA:cq P tt)(l:aV)(d:Nat)(t:TypeId)(x y:SR):da l (m1 (match dt P t with
 |some e=>match bY P e with
  |some ti=>match x.den.cont,y.den.cont with
   |some (.v<|.int _ a),some (.v<|.int _ b)=>if 0<=a/\a<=b/\b*ti.bytes<=140737488355328/\b<=maxLen/\0<ti.size then
     some ([.make [] d<|.list .own ti.size<|List.replicate a.toNat ti.zero],[])else none
   |_,_=>none
  |none=>none
 |none=>none)) (s6 tt l d t x y):=by
 refine aj _ λe h1=>aj _ λti h2=>?_;refine aj _ λ⟨ob,a⟩h3=>aj _ λ⟨dX,b⟩h4=>?_;cases a<;>try exact bj
 cases b<;>try exact bj
 rename_i k a k' b;refine bd λh5=>aj _ λr h6=>kq λc=>?_;obtain⟨a1,a2,a3,a4,c⟩:=c;obtain⟨c1,c2⟩:=aM.1 c;have e1:x.den.cont=some (.v<|.int k a):=aE h3 c1;have e2:y.den.cont=some (.v<|.int k' b):=aE h4 c2;have Kq:((maxLen:Nat):Int)=9223372036854775807:=by decide
 simp only[mT hA h1,j7 hA h2,e1,e2];rw[if_pos ⟨a1,a2,a3,by rw[Kq];exact a4,afS<|ne_iff.1 h5⟩,L7 h6];rfl
def Ui:SV->Bool
 |.ptr .. =>true
 |_=>false
def vz(l:aV)(d:Nat)(x:SR):ox:=match Ui x.sl.v with
 |true=>(D0 x).bind λ(ob,_)=>IB ob (sZ l d x)
 |false=>(cX x).bind λ(ob,v)=>match v with
  |.box _ _=>IB ob (sZ l d x)
  |.fn (.func _) _ _=>IB ob (sZ l d x)
  |_=>none
def yW(x:SR):da l (m1 (match x.den.cont with
 |some (.box _ _)=>fM (c6 d x.den)
 |some (.fn (.func _) _ _)=>fM (c6 d x.den)
 |_=>match x.den.sl.av with
  |.ptr .. =>match x.den.addr with
   |some _=>fM (c6 d x.den)
   |none=>none
  |_=>none)) (vz l d x):=by
 unfold vz;cases hp:Ui x.sl.v
 ·refine aj _ λ⟨ob,v⟩h1=>?_;cases v<;>try exact bj
  ·refine nz _ λc=>?_;rename_i o y;have:x.den.cont=some (.box o y.den):=aE h1 c;simp[this];exact jk l d x
  rename_i f a b;cases f<;>try exact bj
  refine nz _ λc=>?_;have:x.den.cont=some (.fn (.func _) (au a)<|au b):=aE h1 c;simp[this];exact jk l d x
 refine aj _ λ⟨ob,ad⟩h1=>nz _ λc=>?_;obtain⟨r,g1,g2,p,hv⟩:∃r g1 g2 p,x.sl.v=.ptr r g1 g2 p:=by cases hv:x.sl.v<;>rw[hv]at hp<;>simp[Ui]at hp;simp_all
 have cC:x.den.sl.av=.ptr r g1 g2 p:=by show x.sl.v.den=_;rw[hv];rfl
 have hc:x.den.cont=none:=by unfold bM.cont;rw[cC]
 simp[hc,cC,ku h1 c];exact jk l d x
def vf:List SR->Option (List Pd×List SV)
 |[]=>some ([],[])
 |x::xs=>(cX x).bind λ(ob,y)=>(vf xs).bind λ(dX,ys)=>some (app ob dX,y.bw::ys)
def qQ:∀{xs:List SR}{ob:List Pd}{ys:List SV},vf xs=some (ob,ys)->ag ob->gL (xs.map SR.den)=some (au ys)
 |[],ob,ys,h,_=>by simp[vf]at h;obtain⟨-,rfl⟩:=h;rfl
 |x::xs,ob,ys,h,hc=>by simp[vf,ab3]at h;obtain⟨nV,y,h1,pI,Qm,h2,rfl,rfl⟩:=h;obtain⟨c1,c2⟩:=aM.1 hc;simp[gL,XJ,aE h1 c1,qQ h2 c2,au,fS]
def tw:List SR->Option (List Pd×List (Nat×Path))
 |[]=>some ([],[])
 |x::xs=>(cX x).bind λ(ob,y)=>(tw xs).bind λ(dX,ms)=>match y.aF with
  |true=>some (app ob dX,ms)
  |false=>(u4 x).bind λ(r,_,_,p)=>some (app ob dX,(r,p)::ms)
def oG:∀{xs:List SR}{ob:List Pd}{ms:List (Nat×Path)},tw xs=some (ob,ms)->ag ob->shares (xs.map SR.den)=ms.map λm=>.share m.1 m.2
 |[],ob,ms,h,_=>by simp[tw]at h;obtain⟨-,rfl⟩:=h;rfl
 |x::xs,ob,ms,h,hc=>by
  simp[tw,ab3]at h;obtain⟨nV,y,h1,pI,ms',h2,h3⟩:=h;cases hn:y.aF with
  |true=>rw[hn]at h3;cases h3;obtain⟨c1,c2⟩:=aM.1 hc;simp[shares,aE h1 c1,cz,hn];exact oG h2 c2
  |false=>rw[hn]at h3;simp[ab3]at h3;obtain⟨r,g1,g2,p,h4,rfl,rfl⟩:=h3;obtain⟨c1,c2⟩:=aM.1 hc;simp[shares,aE h1 c1,cz,hn,nU,h4,oG h2 c2]
def vA(l:aV)(d:Nat)(f:Fn)(a b:List Operand):ox:=
 (jg l a).bind λxs=>(jg l b).bind λys=>(vf xs).bind λ(ob,aas)=>(vf ys).bind λ(dX,cs)=>(tw<|xs++ys).bind λ(pI,ms)=>match ms with
   |[]=>cZ (app ob<|app dX pI) l d (.fn f aas cs)
   |_=>none
def yX(f:Fn)(a b:Array Operand):da l (m1 (match gL (a.toList.map<|resolve<|dn l),gL (b.toList.map<|resolve<|dn l)with
 |some a',some c=>if(shares<|a.toList.map (resolve<|dn l)++b.toList.map (resolve<|dn l)).isEmpty then some ([.put d<|.fn f a' c],[])else none
 |_,_=>none)) (vA l d f a.toList b.toList):=by
 refine aj _ λxs h1=>aj _ λys h2=>aj _ λ⟨ob,aas⟩h3=>aj _ λ⟨dX,cs⟩h4=>aj _ λ⟨pI,ms⟩h5=>?_;cases ms<;>try exact bj
 refine il λc=>?_;obtain⟨c1,c⟩:=aM.1 c;obtain⟨c2,c3⟩:=aM.1 c;have hs:=oG h5 c3;rw[ac9]at hs;simp[eD l h1,eD l h2,qQ h3 c1,qQ h4 c2,hs];rfl
end
def ev(tt:TT)(raw:List Nat)(l:aV)(dst:Option Nat)(op:Op):ox:=
 match dst with
 |none=>match op with
  |.store t a x=>(dP l a).bind λa=>(dP l x).bind λx=>H3 tt l t a x
  |_=>none
 |some d=>match op with
  |.move x=>(dP l x).bind λx=>sZ l d x
  |.assign x=>(dP l x).bind λx=>Dh l d x
  |.load t x=>(dP l x).bind λx=>NL tt l d t x
  |.fieldAddr t x f=>(dP l x).bind λx=>s8 tt l d t x f
  |.field t x f=>(dP l x).bind λx=>H8 tt l d t x f
  |.indexAddr t x i=>(dP l x).bind λx=>(dP l i).bind λi=>s7 tt l d t x i
  |.index t x i=>(dP l x).bind λx=>(dP l i).bind λi=>H7 tt l d t x i
  |.extract x i=>(dP l x).bind λx=>y9 l d x i
  |.convert s t x=>(dP l x).bind λx=>VA tt (HA d raw) l d s t x
  |.slice t x a b c=>(dP l x).bind λx=>(Hp l a).bind λa=>(Hp l b).bind λb=>(Hp l c).bind λc=>H4 tt l d t x a b c
  |.binOp op t x y _=>(dP l x).bind λx=>(dP l y).bind λy=>Vo tt (HA d raw) l d op t x y
  |.unOp op _ x=>(dP l x).bind λx=>acr (HA d raw) l d op x
  |.pick c x y=>(dP l c).bind λc=>(dP l x).bind λx=>(dP l y).bind λy=>NK l d c x y
  |.alloc t=>Ia tt l d t
  |.box t x=>(dP l x).bind λx=>Vn tt l d t x
  |.build t ps=>H9 tt l d t ps.toList
  |.buildSlice t n ps=>rf tt l d t n ps.toList
  |.makeSlice t x y=>(dP l x).bind λx=>(dP l y).bind λy=>s6 tt l d t x y
  |.nilCheck x=>(dP l x).bind λx=>vz l d x
  |.makeFunc f a b=>vA l d f a.toList b.toList
  |.call ⟨.builtin b,aas,ts⟩=>match b,ts.toList,aas.toList with
   |.len,t::_,[x]=>(dP l x).bind λx=>Vl tt l d t x
   |.append,[t,t'],[x,y]=>(slice? tt t').bind λ_=>(dP l x).bind λx=>(dP l y).bind λy=>lL tt l d t x y Y2
   |.min,_,[x,y]=>(dP l x).bind λx=>(dP l y).bind λy=>PJ true l d x y
   |.max,_,[x,y]=>(dP l x).bind λx=>(dP l y).bind λy=>PJ false l d x y
   |_,_,_=>none
  |_=>none
 where Hp (l:aV):Option Operand->Option (Option SR)
  |none=>some none
  |some x=>(dP l x).bind λx=>some<|some x
def Co{l:aV}{x:Option Operand}{y:Option SR}(h:ev.Hp l x=some y):x.map (resolve<|dn l)=y.map SR.den:=by
 cases x with
 |none=>simp[ev.Hp]at h;subst h;rfl
 |some x=>simp[ev.Hp,ab3]at h;obtain⟨z,h1,rfl⟩:=h;simp[cF h1]
section
variable{R:Option Nat->Prop}{P:Program}{tt:TT}(hA:cq P tt)
def bN{l:aV}{x:Operand}{m:Option (List Mv)}{f:SR->ox}(h:∀y:SR,resolve (dn l) x=y.den->da l m (f y)):da l m ((dP l x).bind f):=aj _ λy hy=>h y<|cF hy
def Dq{l:aV}{x:Option Operand}{m:Option (List Mv)}{f:Option SR->ox}(h:∀y:Option SR,x.map (resolve<|dn l)=y.map SR.den->da l m (f y)):da l m ((ev.Hp l x).bind f):=aj _ λy hy=>h y<|Co hy
def Z4(hA:cq P tt){raw:List Nat}{l l':aV}{dst:Option Nat}{op:Op}{ty:TypeId}{pos:String}{cL:Array Edge}{ops:Array Oper}{K:List Mv->St->Prop}{ob:List Pd}{ks:List Nat}
 (h:ev tt raw l dst op=some (ob,l',ks))(hc:ag ob)(hk:∀ms,aU ms=ks->K ms (dn l')):pA P ops ⟨dst,op,ty,pos,cL,none⟩ (dn l) K:=by
 have fin:∀{m:Option (List Mv)}{e:ox},da l m e->e=some (ob,l',ks)->tZ m (dn l) K:=by intro m e hd he;obtain⟨ms,rfl,h2,h3⟩:=hd _ _ _ he hc;exact⟨ms,rfl,dn l',h2,hk ms h3⟩
 cases dst with
 |none=>
  cases op<;>simp[ev]at h<;>try(cases h;done)
  rw[Xu];exact fin (bN λa ha=>bN λx hx=>by rw[ha,hx];exact EC hA l _ a x) h
 |some d=>
  cases op<;>simp[ev]at h<;>try(cases h;done)
  case move=>rw[aa0];exact fin (bN λa ha=>by rw[ha];exact jk l d a) h
  case assign=>rw[TG];exact fin (bN λa ha=>by rw[ha];exact Dg l d a) h
  case load=>rw[aa1];exact fin (bN λa ha=>by rw[ha];exact H6 hA l d _ a) h
  case fieldAddr=>rw[JO];exact fin (bN λa ha=>by rw[ha];exact xg hA l d _ a _) h
  case field=>rw[Xx];exact fin (bN λa ha=>by rw[ha];exact EF hA l d _ a _) h
  case indexAddr=>rw[JN];exact fin (bN λa ha=>bN λb hb=>by rw[ha,hb];exact xf hA l d _ a b) h
  case index=>rw[Xw];exact fin (bN λa ha=>bN λb hb=>by rw[ha,hb];exact EE hA l d _ a b) h
  case extract=>rw[Q5];exact fin (bN λa ha=>by rw[ha];exact Bj l d a _) h
  case convert=>rw[Q6];exact fin (bN λa ha=>by rw[ha];exact Lr hA l d _ _ _ a) h
  case slice=>rw[Xv];exact fin (bN λa ha=>Dq λb hb=>Dq λc hc=>Dq λe he=>by rw[ha,hb,hc,he];exact ED hA l d _ a b c e) h
  case binOp=>rw[aeb];exact fin (bN λa ha=>bN λb hb=>by rw[ha,hb];exact K8 hA _ l d _ _ a b) h
  case unOp=>rw[ahW];exact fin (bN λa ha=>by rw[ha];exact NJ _ l d _ a) h
  case pick=>rw[aaZ];exact fin (bN λa ha=>bN λb hb=>bN λc hc=>by rw[ha,hb,hc];exact H5 l d a b c) h
  case alloc=>rw[Xz];exact fin (EH hA l d _) h
  case box=>rw[aea];exact fin (bN λa ha=>by rw[ha];exact K7 hA l d _ a) h
  case build=>rw[Xy];exact fin (EG hA l d _ _) h
  case buildSlice=>rw[Hv];exact fin (vC hA l d _ _ _) h
  case makeSlice=>rw[JM];exact fin (bN λa ha=>bN λb hb=>by rw[ha,hb];exact xe hA l d _ a b) h
  case nilCheck=>rw[ML];exact fin (bN λa ha=>by rw[ha];exact yW l d a) h
  case makeFunc=>rw[MM];exact fin (yX l d _ _ _) h
  case call c=>
   obtain⟨callee,aas,ts⟩:=c;cases callee<;>simp only at h<;>try(cases h;done)
   rw[Q7];split at h<;>try(cases h;done)
   ·rename_i t r x e1 e2;rw[e1,e2];exact fin (bN λa ha=>by simp[ado,afI,ha];exact K6 hA l d _ _ a) h
   ·rename_i t t' x y e1 e2;rw[e1,e2];refine fin (aj _ λe2 he2=>bN λa ha=>bN λb dO=>?_) h;simp[ado,afI,ha,dO,j0,mT hA he2];exact Bk hA l d _ a b Y2 λ_ _ _ _ _ _ _ q1 q2 q3=>VL q1 q2 q3
   ·rename_i x y e2;rw[e2];refine fin (bN λa ha=>bN λb dO=>?_) h;simp[ado,afI,ha,dO];exact AG l d true _ a b
   rename_i x y e2;rw[e2];refine fin (bN λa ha=>bN λb dO=>?_) h;simp[ado,afI,ha,dO];exact AG l d false _ a b
end
inductive It
 |code (c:Code)
 |jP (id:Nat)
 |scp
 |ops (all:Array Oper) (rest:List Oper)
 |og (all:Array Oper) (mm:List Nat) (rest:List Oper) (acc:List (List Nat×List Nat))
 |inv (I:St->Prop)
def fR(R:Option Nat->Prop)(P:Program)(N:Nat)(F:St->Prop):List It->Exit->St->Prop
 |[],e,σ=>match e with
  |.normal=>F σ
  |.ret=>F σ
  |_=>False
 |.code c::k,e,σ=>match e with
  |.normal=>AW R P N c (fR R P N F k) σ
  |e=>fR R P N F k e σ
 |.jP id::k,e,σ=>match e with
  |.exit Uq=>if Uq=id then fR R P N F k .normal σ else fR R P N F k (.exit Uq) σ
  |e=>fR R P N F k e σ
 |.scp::k,e,σ=>match e with
  |.goto _=>False
  |e=>fR R P N F k e σ
 |.ops all rest::k,e,σ=>match e with
  |.normal=>rp P all rest σ (fR R P N F k .normal)
  |e=>fR R P N F k e σ
 |.og all mm rest acc::k,e,σ=>match e with
  |.normal=>rt P all rest σ acc λQO σ'=>apart mm QO all.size=true/\fR R P N F k .normal σ'
  |e=>fR R P N F k e σ
 |.inv I::k,e,σ=>match e with
  |.normal=>I σ
  |e=>fR R P N F k e σ
def AK(R:Option Nat->Prop)(P:Program)(N:Nat)(F:St->Prop)(k:List It)(l:aV):Prop:=fR R P N F k .normal<|dn l
section
variable{R:Option Nat->Prop}{P:Program}{N:Nat}{F:St->Prop}{k:List It}{l:aV}{σ:St}
def mc:∀(k:List It),fR R P N F k .ret σ=F σ
 |[]=>rfl
 |.code c::k=>mc k
 |.jP id::k=>mc k
 |.scp::k=>mc k
 |.ops .. ::k=>mc k
 |.og .. ::k=>mc k
 |.inv _::k=>mc k
def Df(id:Nat):List It->Option (List It)
 |[]=>none
 |.jP Uq::k=>match Nat.beq id Uq with
  |true=>some k
  |false=>Df id k
 |_::k=>Df id k
def QT{id:Nat}:∀{k k':List It},Df id k=some k'->fR R P N F k' .normal σ->fR R P N F k (.exit id) σ:=by
 intro k
 induction k with
 |nil=>intro k' h _;simp[Df]at h
 |cons x k ih=>
  intro k' h hp;cases x with
  |jP Uq=>
   simp[Df]at h;simp[fR];split at h
   ·rename_i hb;cases h;rw[if_pos<|adi hb];exact hp
   rename_i hb;have:id≠Uq:=by intro e;subst e;simp at hb
   rw[if_neg this];exact ih h hp
  |_=>simp[Df]at h;exact ih h hp
def IC{a b:Code}(h:AK R P N F (.code a::.code b::k) l):AK R P N F (.code (.seq a b)::k) l:=VQ (jm (h:AW R P N a (fR R P N F<|.code b::k) (dn l)) λe σ' h=>by cases e<;>exact h)
def V1{id:Nat}{c:Code}(h:AK R P N F (.code c::.jP id::k) l):AK R P N F (.code (.block id c)::k) l:=VU (jm (h:AW R P N c (fR R P N F<|.jP id::k) (dn l)) λe σ' h=>by cases e<;>exact h)
def VZ{c:Code}(h:AK R P N F (.code c::.scp::k) l):AK R P N F (.code (.scope c)::k) l:=VR (jm (h:AW R P N c (fR R P N F<|.scp::k) (dn l)) λe σ' h=>by cases e<;>exact h)
def cP(l:aV)(all:List Oper):Option (Nat×Bool)->Option Bool
 |none=>some true
 |some (j,b)=>match nth all j with
  |some o=>match o.dst with
   |some d=>match Nat.blt d 1000000 with
    |true=>match(gt l d).v with
     |.b true=>some b
     |.b false=>some (not' b)
     |.bX []=>some false
     |_=>none
    |false=>none
   |none=>none
  |none=>none
def dC{all:Array Oper}{o:Oper}{b:Bool}(h:cP l all.toList o.guard=some b):kB (dn l) all o=some b:=by
 unfold kB;cases hg:o.guard with
 |none=>rw[hg]at h;simpa[cP]using h
 |some q=>
  obtain⟨j,want⟩:=q;rw[hg]at h;simp[cP]at h;split at h<;>try(cases h)
  rename_i oj hoj;rw[mF,ae8]at hoj;split at h<;>try(cases h)
  rename_i d hd;simp[hoj,hd,dq];split at h<;>try(cases h)
  rename_i Yn;rw[Yn];split at h<;>try(cases h)
  ·rename_i hv;rw[hv];simpa[SV.den]using h
  ·rename_i hv;rw[hv];simp[SV.den];cases want<;>simp_all[not']
  rename_i hv;rw[hv];simpa[SV.den,au]using h
def S5(l:aV):Option Nat->aV×List Nat
 |some d=>Jv l d (.bX []) λl'=>(l',[d])
 |none=>(l,[])
def I5(tt:TT)(raw:List Nat)(all:List Oper)(l:aV)(o:Oper):ox:=
 match o with
 |⟨dst,op,_,_,_,g⟩=>match cP l all g with
  |some true=>ev tt raw l dst op
  |some false=>match S5 l dst with
   |(l',ks)=>some ([],l',ks)
  |none=>none
def vR{tt:TT}(hA:cq P tt){raw:List Nat}{all:Array Oper}{o:Oper}{l':aV}{ob:List Pd}{ks:List Nat}{K:List Mv->St->Prop}(h:I5 tt raw all.toList l o=some (ob,l',ks))(hc:ag ob)
 (hk:∀ms,aU ms=ks->K ms (dn l')):pA P all o (dn l) K:=by
 obtain⟨dst,op,ty,pos,cL,g⟩:=o;unfold I5 at h;simp only at h;split at h<;>try(cases h;done)
 ·rename_i hw;cases g with
  |none=>exact Z4 hA h hc hk
  |some q=>obtain⟨j,b⟩:=q;rw[Hu];rw[dC (o:=⟨dst,op,ty,pos,cL,some (j,b)⟩) hw];simp;exact Z4 hA h hc hk
 rename_i hw;cases g with
 |none=>simp[cP]at hw
 |some q=>
  obtain⟨j,b⟩:=q;rw[Hu];rw[dC (o:=⟨dst,op,ty,pos,cL,some (j,b)⟩) hw];simp;cases dst with
  |none=>obtain⟨-,rfl,rfl⟩:=h;exact⟨[],rfl,dn l,rfl,hk _ rfl⟩
  |some d=>obtain⟨-,rfl,rfl⟩:=h;refine⟨[.put d<|.bX []],rfl,dn<|QR l d<|.bX [],?_,hk _ rfl⟩;have:=kM l d<|.bX [];rw[<-this];rfl
abbrev agu:=Option<|List Pd×List It×aV
def Fc(tt:TT)(raw:List Nat)(N:Nat)(k:List It)(l:aV):agu:=
 match k with
 |[]=>none
 |.code c::k=>match c with
  |.seq a b=>some ([],.code a::.code b::k,l)
  |.skip=>some ([],k,l)
  |.label _=>some ([],k,l)
  |.region _ all false=>match all.toList.all (gj N)with
   |true=>some ([],.ops all all.toList::k,l)
   |false=>none
  |.region _ all true=>match all.toList.all (gj N),lower all.toList with
   |true,true=>some ([],.og all (sO all.toList []) all.toList []::k,l)
   |_,_=>none
  |.block id c=>some ([],.code c::.jP id::k,l)
  |.scope c=>some ([],.code c::.scp::k,l)
  |.exit id=>match Df id k with
   |some k=>some ([],k,l)
   |none=>none
  |.ret=>some ([],[],l)
  |.cond c t e=>match aI c with
   |true=>(dP l c).bind λx=>(cX x).bind λ(ob,v)=>match v with
    |.b true=>some (ob,.code t::k,l)
    |.b false=>some (ob,.code e::k,l)
    |_=>none
   |false=>none
  |_=>none
 |.jP _::k=>some ([],k,l)
 |.scp::k=>some ([],k,l)
 |.ops all []::k=>some ([],k,l)
 |.ops all (o::rest)::k=>match I5 tt raw all.toList l o with
  |some (ob,l',_)=>some (ob,.ops all rest::k,l')
  |none=>none
 |.og _ _ [] _::_=>none
 |.og all mm (o::rest) acc::k=>match I5 tt raw all.toList l o with
  |some (ob,l',ks)=>some (ob,.og all mm rest ((ix (dn l) all o,ks)::acc)::k,l')
  |none=>none
 |.inv _::_=>none
def qz{tt:TT}(hA:cq P tt)(hm:P.follows .mixedOrders=true){raw:List Nat}{k k':List It}{l l':aV}{ob:List Pd}(h:Fc tt raw N k l=some (ob,k',l'))(hc:ag ob)(hk:AK R P N F k' l'):AK R P N F k l:=by
 unfold Fc at h;split at h
 ·cases h
 ·rename_i c k;split at h<;>try(cases h;done)
  ·cases h;exact IC hk
  ·cases h;exact Za hk
  ·cases h;exact VT hk
  ·split at h<;>try(cases h;done)
   rename_i bt;cases h;exact jm (ET (K:=fR R P N F k .normal) bt<|Jo hk) λe σ'⟨he,h⟩=>by subst he;exact h
  ·split at h<;>try(cases h;done)
   rename_i bt Yc;cases h;exact jm (EU (K:=fR R P N F k .normal) hm bt Yc rfl<|Jk hk) λe σ'⟨he,h⟩=>by subst he;exact h
  ·cases h;exact V1 hk
  ·cases h;exact VZ hk
  ·split at h<;>try(cases h;done)
   rename_i k2 he;cases h;exact Zc (QT he hk)
  ·cases h;refine acM ?_;rw[mc];exact hk
  split at h<;>try(cases h;done)
  rename_i c t e bt;simp[ab3,afh]at h;obtain⟨x,h1,nV,v,h2,h3⟩:=h;split at h3<;>try(cases h3;done)
  ·cases h3;exact Iw (t:=true) bt (by rw[cF h1];exact aE h2 hc) hk
  cases h3;exact Iw (t:=false) bt (by rw[cF h1];exact aE h2 hc) hk
 ·cases h;exact hk
 ·cases h;exact hk
 ·cases h;exact hk
 ·split at h<;>try(cases h;done)
  rename_i nV l1 ks hs;cases h;show rp P _ _ _ _;exact nL (vR hA hs hc λms _=>hk)
 ·cases h
 ·split at h<;>try(cases h;done)
  rename_i nV l1 ks hs;cases h;refine nL<|vR hA hs hc λms mn=>?_;rw[mn];exact hk
 cases h
def aaT{α:Type _}:List Pd->List Pd->(List Pd->α)->α
 |[],acc,k=>k acc
 |p::q,acc,k=>aaT q (p::acc) k
def OT{α:Type _}:∀(a b:List Pd),∃c,(∀k:List Pd->α,aaT a b k=k c)/\(ag c↔ag a/\ag b)
 |[],b=>⟨b,λ_=>rfl,by simp[ag]⟩
 |p::a,b=>by
  obtain⟨c,h1,h2⟩:=OT (α:=α) a<|p::b;refine⟨c,h1,?_⟩;rw[h2];constructor
  ·rintro⟨x,y,z⟩;exact⟨⟨y,x⟩,z⟩
  rintro⟨⟨x,y⟩,z⟩;exact⟨y,x,z⟩
def Aj:List Pd->List Pd->List Pd
 |[],l=>l
 |p::m,l=>app (p::m) l
def p8{a b:List Pd}:ag (Aj a b)↔ag a/\ag b:=by
 cases a with
 |nil=>simp[Aj,ag]
 |cons p m=>exact aM
def mL:List Bool->Bool
 |[]=>true
 |b::l=>match b with
  |true=>mL l
  |false=>false
def VG{b:Bool}{l:List Bool}:mL (b::l)=true↔b=true/\mL l=true:=by cases b<;>simp[mL]
def drawn:List It->Option (Bool×List It)
 |.og all mm [] acc::k=>some (apart mm acc.reverse all.size,k)
 |_=>none
def Lc{k k':List It}{b:Bool}(h:drawn k=some (b,k'))(hb:b=true)(hk:AK R P N F k' l):AK R P N F k l:=by
 unfold drawn at h;split at h<;>try(cases h;done)
 cases h;exact⟨hb,hk⟩
def run(tt:TT)(raw:List Nat)(N:Nat):Nat->List It->aV->List Pd->List Bool->List Pd×List Bool×List It×aV
 |0,k,l,acc,qs=>(acc,qs,k,l)
 |n+1,k,l,acc,qs=>match drawn k with
  |some (b,k')=>run tt raw N n k' l acc (b::qs)
  |none=>match Fc tt raw N k l with
   |some (ob,k',l')=>aaT ob acc λacc=>run tt raw N n k' l' acc qs
   |none=>(acc,qs,k,l)
def nn{tt:TT}(hA:cq P tt)(hm:P.follows .mixedOrders=true){raw:List Nat}:∀{n:Nat}{k k':List It}{l l':aV}{acc ob:List Pd}{qs qs':List Bool},run tt raw N n k l acc qs=(ob,qs',k',l')->ag ob->mL qs'=true->
 ag acc/\mL qs=true/\(AK R P N F k' l'->AK R P N F k l)
 |0,k,k',l,l',acc,ob,qs,qs',h,hc,hq=>by simp[run]at h;obtain⟨rfl,rfl,rfl,rfl⟩:=h;simp_all
 |n+1,k,k',l,l',acc,ob,qs,qs',h,hc,hq=>by
  simp[run]at h;split at h
  ·rename_i b k1 hd;obtain⟨h1,h2,h3⟩:=nn hA hm h hc hq;rw[VG]at h2;exact⟨h1,h2.2,λhk=>Lc hd h2.1<|h3 hk⟩
  split at h
  ·rename_i nV k1 l1 hs;obtain⟨c,e1,e2⟩:=OT (α:=List Pd×List Bool×List It×aV) nV acc;rw[e1]at h;obtain⟨h1,h2,h3⟩:=nn hA hm h hc hq;obtain⟨h4,h5⟩:=e2.1 h1;exact⟨h5,h2,λhk=>qz hA hm hs h4<|h3 hk⟩
  simp at h;obtain⟨rfl,rfl,rfl,rfl⟩:=h;simp_all
end
end Go.Ai
