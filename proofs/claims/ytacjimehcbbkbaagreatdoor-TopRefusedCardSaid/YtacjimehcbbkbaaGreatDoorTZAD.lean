/- TopRefused holds. -/
import Derived.Test.YtacjimehcbbkbaaGreatDoorTZAC
set_option linter.all false
set_option maxRecDepth 100000
set_option maxHeartbeats 0
namespace Go.Ai
open Go.RowKit
section
variable{P:Program}{tt:TT}(hA:dD P tt)(l:bJ)(d:Nat)
def rA(x:Q SR)(a:Nat):Q (L Pd×Nat):=match x with
 |none=>some ([],a)
 |some x=>(dB x).bind λ(ob,v)=>match v with
  |.n _ n=>some ((0<=n)::ob,n.toNat)
  |_=>none
def fF{x:Q SR}{a n:Nat}{ob:L Pd}(h:rA x a=some (ob,n))(hc:aj ob):oT (x.map SR.den) a=some n:=by
 cases x with
 |none=>simp[rA]at h;simp[oT,h.2]
 |some x=>
  simp[rA,abZ]at h;let⟨c,v,e,b⟩:=h;cases v<;>try(cases b;done)
  obtain⟨rfl,rfl⟩:=b;have:x.den.cont=some (.v _):=aH e hc.2;simp[oT,this,hc.1]
def Ga(lo hi:Nat):SV->Q SV
 |.ints k _ xs=>some (.ints k false<|(xs.drop lo).take<|hi-lo)
 |.strs _ xs=>some (.strs false<|(xs.drop lo).take<|hi-lo)
 |.dt _ xs=>some (.dt false<|(xs.drop lo).take<|hi-lo)
 |.bm false sz d e xs=>some (.bm false sz d e<|(xs.drop lo).take<|hi-lo)
 |.bm true sz d e xs=>some (.bm false sz d (λx=>(e x).cK)<|(xs.drop lo).take<|hi-lo)
 |.row false sz xs=>some (.row false sz<|Vj (XC xs lo)<|hi-lo)
 |.row true sz xs=>some (.row false sz<|jQ<|Vj (XC xs lo)<|hi-lo)
 |_=>none
def HA:∀xs:L SV,jQ xs=xs.map SV.cK
 |[]=>rfl
 |x::xs=>by simp[jQ,HA xs]
def NO{y z:SV}{lo hi:Nat}(h:Ga lo hi y=some z):∃sz X,y.den=.list (fl<|ng y) sz X/\z.den=.list .shr sz (((if ng y then js X else X).drop lo).take<|hi-lo):=by
 cases y with
 |ints k o a=>simp[Ga]at h;subst h;cases o<;>exact⟨_,_,W,pm⟩
 |strs o a=>simp[Ga]at h;subst h;cases o<;>exact⟨_,_,W,pm⟩
 |dt o a=>simp[Ga]at h;subst h;cases o<;>exact⟨_,_,W,pm⟩
 |bm o sz b e a=>cases o;simp[Ga]at h;subst h;exact⟨_,_,W,by simp[SV.den,fl,ng]⟩;simp[Ga]at h;subst h;exact⟨_,_,W,by simp[SV.den,fl,ng,jr,gY]⟩
 |row o sz a=>cases o;simp[Ga]at h;subst h;exact⟨_,_,W,by simp[SV.den,fl,ng,dh,xz,yl]⟩;simp[Ga]at h;subst h;exact⟨_,_,W,by rw[SV.den,fl,ng,jP,dh,dh,xz,yl];simp[HA]⟩
 |_=>simp[Ga]at h
def Nq(l:bJ)(d:Nat)(ti:AL)(x:SR)(y:SV)(ob:L Pd)(lo hi mx:Nat):qx:=
 match pk.E7 y with
 |true=>dJ ((lo<=hi)::(hi<=mx)::(mx<=0)::ob) l d .nil
 |false=>(vj y).bind λ(sz,n)=>(iR<|Nat.beq sz ti.size).bind λ_=>(Ga lo hi y).bind λz=>match ng y with
  |false=>dJ ((lo<=hi)::(hi<=mx)::(mx<=n)::ob) l d z
  |true=>(Bb x).bind λ(r,_,_,p)=>(iR<|ne' r d).bind λ_=>(uK l r p).bind λ(a,c)=>L3 c d z λb=>some ((lo<=hi)::(hi<=mx)::(mx<=n)::app ob a,b,[r,d])
def RS(tt:TT)(l:bJ)(d:Nat)(t:TypeId)(x:SR)(lo hi mx:Q SR):qx:=
 (Hz tt t).bind λu=>(dB x).bind λ(ob,v)=>match u with
   |.str=>match v with
    |.s s=>match mx with
     |none=>(rA lo 0).bind λ(f,a)=>(rA hi s.length).bind λ(c,b)=>dJ ((a<=b)::(b<=s.length)::app ob (app f c)) l d (.s<|(s.take b).drop a)
     |some _=>none
    |_=>none
   |.slice e=>(Jl tt e).bind λti=>(vj v).bind λ(_,n)=>(rA lo 0).bind λ(f,a)=>(rA hi n).bind λ(c,b)=>(rA mx b).bind λ(g,m)=>Nq l d ti x v (app ob<|app f<|app c g) a b m
   |_=>none
def G9(hA:dD P tt)(l:bJ)(d:Nat)(t:TypeId)(x:SR)(lo hi mx:Q SR):dN l (s7 P d t x.den (lo.map SR.den) (hi.map SR.den)<|mx.map SR.den) (RS tt l d t x lo hi mx):=by
 refine aw _ λu h1=>aw _ λ⟨ob,v⟩F=>?_;have hu:=nK hA h1;cases u<;>try exact bN
 cases v<;>try exact bN
 rename_i s;cases mx with
 |some _=>exact bN
 |none=>refine aw _ λ⟨i,a⟩D=>aw _ λ⟨h,b⟩q=>di λc=>?_;let⟨k1,k2,c⟩:=c;let⟨y,c⟩:=aY.1 c;let⟨w,c3⟩:=aY.1 c;have hc:x.den.cont=some (.v<|.string<|bs s):=aH F y;have hu:P.underlying t=some .string:=hu;have g:=fF q c3;rw[<-Az]at g;unfold s7;simp only[hu,hc,Option.map_none,fF D w,g];rw[abx ⟨k1,by rw[Az];exact k2⟩,SV.den,Qs]
 ·rename_i e;refine aw _ λti D=>aw _ λ⟨sz,n⟩q=>aw _ λ⟨i,a⟩Y=>aw _ λ⟨h,b⟩V=>aw _ λ⟨B,m⟩T=>?_;have hu:P.underlying t=some (.slice e):=hu;have j:=eQ hA D;let⟨f,X,e1,Z⟩:=nn q;unfold Nq;cases o:pk.E7 v
  rotate_left
  have:=E6.1 o;subst this;refine di λc=>?_;let⟨k1,k2,k3,c⟩:=c;let⟨N,c⟩:=aY.1 c;let⟨y,c⟩:=aY.1 c;let⟨w,c3⟩:=aY.1 c;obtain⟨rfl,rfl⟩:=q;have hc:x.den.cont=some (.list .nil 0 []):=aH F N;unfold s7;simp only[hu,j,hc,ad1,fF Y y,fF V w,fF T c3];rw[abx ⟨k1,k2,k3⟩];rfl;refine aw _ λ⟨E1,n'⟩S=>?_;rw[q]at S;cases S;refine bG λh9=>aw _ λz M=>?_;have k:sz=ti.den.size:=beq_iff.1 h9;let⟨A0,X2,O,A⟩:=NO M;rw[e1]at O;obtain⟨rfl,rfl,rfl⟩:=O;have base:aj (app ob<|app i<|app h B)->a<=b->b<=m->m<=n->s7 P d t x.den (lo.map SR.den) (hi.map SR.den) (mx.map SR.den)=match ng v with
   |false=>some [.put d<|.list .shr sz<|(X.drop a).take<|b-a]
   |true=>match x.den.place with
    |some (r,_,_,p)=>if r=d then none else some [.share r p,.put d<|.list .shr sz<|((js X).drop a).take<|b-a]
    |none=>none:=by
   intro c k1 k2 k3;let⟨N,c⟩:=aY.1 c;let⟨y,c⟩:=aY.1 c;let⟨w,c3⟩:=aY.1 c;have hc:=aH F N;rw[e1]at hc;have g:=fF V w;rw[<-Z]at g;unfold s7;simp[hu,j,hc,fF Y y,g,fF T c3];rw[abx ⟨k1,k2,by rw[Z];exact k3⟩];cases R:ng v;simp only[fl];rw[abx k];simp[fl];rw[abx k];rfl
  cases R:ng v with
  |false=>refine di λc=>?_;let⟨k1,k2,k3,c⟩:=c;simp_all
  |true=>refine aw _ λ⟨r,g1,g2,p⟩K=>bG λJ=>aw _ λ⟨F0,l'⟩H=>?_;intro E2 lx ks he C;simp[tf,abL,aeb]at he;obtain⟨rfl,rfl,rfl⟩:=he;let⟨k1,k2,k3,c⟩:=C;let⟨c,cs⟩:=aY.1 c;have g:=base c k1 k2 k3;rw[R]at g A;simp[pS,K,ne_iff.1 J,if_false]at g;simp[if_true]at A;refine⟨_,g,?_,W⟩;simp[Mv.runs];rw[mX H cs];simp[Mv.run];rw[<-A,mA]
def RX(tt:TT)(l:bJ)(d:Nat)(t:TypeId):qx:=(Jl tt t).bind λti=>match ti with|⟨_,_,_,z⟩=>pW [] l [] d<|.box true z
def Hd(hA:dD P tt)(l:bJ)(d:Nat)(t:TypeId):dN l (match cC P t with|some ti=>some [.make [] d<|.box true ti.zero]|none=>none) (RX tt l d t):=by refine aw _ λti h=>?_;refine lP λ_=>?_;rw[eQ hA h];rfl
def abI(tt:TT)(l:bJ)(d:Nat)(t:TypeId)(x:SR):qx:=(Jl tt t).bind λti=>(zX x).bind λ(ob,y,M)=>(iR<|oa ti y).bind λ_=>pW ob l M d<|.box true y
def Ns(hA:dD P tt)(l:bJ)(d:Nat)(t:TypeId)(x:SR):dN l (match cC P t with|some ti=>aas d (fE x.den) λy=>if fits ti y then some (.box true y)else none|none=>none) (abI tt l d t x):=by refine aw _ λti e=>aw _ λ⟨ob,y,M⟩b=>bG λa=>lP λc=>?_;rw[eQ hA e];simp[rr b c,aas,j6 _ _ a,SV.den]
def yR(k:IntKind):L SV->Q (L Int)
 |[]=>some []
 |.n b a::r=>(iR<|xY k b).bind λ_=>(yR k r).bind λasx=>some (a::asx)
 |_::_=>none
def Ci{k:IntKind}:∀{xs:L SV}{asx:L Int},yR k xs=some asx->aE xs=asx.map λa=>.v (.int k a)
 |[],asx,h=>by simp[yR]at h;subst h;rfl
 |x::r,asx,h=>by
  cases x<;>simp only[yR,abZ,bW,abL]at h<;>try(cases h;done)
  obtain⟨_,b,e,c,rfl⟩:=h;have:=rZ b;subst this;simp[aE,SV.den,Ci c]
def yQ:L SV->Q (L cj)
 |[]=>some []
 |.s a::r=>(yQ r).bind λasx=>some (a::asx)
 |_::_=>none
def Ch:∀{xs:L SV}{asx:L cj},yQ xs=some asx->aE xs=asx.map λa=>.v (.string<|bs a)
 |[],asx,h=>by simp[yQ]at h;subst h;rfl
 |x::r,asx,h=>by
  cases x<;>simp[yQ,abZ]at h<;>try(cases h;done)
  obtain⟨c,b,rfl⟩:=h;simp[aE,SV.den,Ch b]
def pK:L SV->Q (L Bool)
 |[]=>some []
 |.b a::r=>(pK r).bind λasx=>some (a::asx)
 |.u a::r=>(pK r).bind λasx=>some (a::asx)
 |_::_=>none
def ta:∀{xs:L SV}{asx:L Bool},pK xs=some asx->aE xs=asx.map λa=>.v (.bool a)
 |[],asx,h=>by simp[pK]at h;subst h;rfl
 |x::r,asx,h=>by
  cases x<;>simp[pK,abZ]at h<;>try(cases h;done)
  all_goals
   obtain⟨c,b,rfl⟩:=h;simp[aE,SV.den,ta b]
def WL(sz:Nat)(xs:L SV):Q SV:=match xs with
 |.n k a::r=>(iR<|Nat.beq sz 1).bind λ_=>(yR k<|.n k a::r).bind λasx=>some (.ints k true asx)
 |.s a::r=>(iR<|Nat.beq sz 1).bind λ_=>(yQ<|.s a::r).bind λasx=>some (.strs true asx)
 |.b a::r=>(iR<|Nat.beq sz 1).bind λ_=>(pK<|.b a::r).bind λasx=>some (.dt true asx)
 |.u a::r=>(iR<|Nat.beq sz 1).bind λ_=>(pK<|.u a::r).bind λasx=>some (.dt true asx)
 |xs=>some<|.row true sz xs
def TQ{sz:Nat}{xs:L SV}{y:SV}(h:WL sz xs=some y):y.den=.list .own sz (aE xs):=by unfold WL at h;split at h;simp only[abZ,bW,beq_iff,abL]at h;obtain⟨_,rfl,asx,a,rfl⟩:=h;rw[Ci a];rfl;simp only[abZ,bW,beq_iff,abL]at h;obtain⟨_,rfl,asx,a,rfl⟩:=h;rw[Ch a];rfl;simp only[abZ,bW,beq_iff,abL]at h;obtain⟨_,rfl,asx,a,rfl⟩:=h;rw[ta a];rfl;simp only[abZ,bW,beq_iff,abL]at h;obtain⟨_,rfl,asx,a,rfl⟩:=h;rw[ta a];rfl;cases h;rfl
def idxs:L (Nat×Operand)->Nat->Bool
 |[],_=>true
 |(i,_)::r,k=>match Nat.beq i k with
  |true=>idxs r (k+1)
  |false=>false
def RH:∀{ps:L (Nat×Operand)}{k:Nat},idxs ps k=true->ps.map (·.1)=List.range' k ps.length
 |[],_,_=>rfl
 |(i,x)::r,k,h=>by simp[idxs]at h;split at h;rename_i a;have:=agI a;subst this;simp[List.range'_succ,RH h];cases h
def tb(l:bJ):L (Nat×Operand)->Q (L SR)
 |[]=>some []
 |(_,x)::r=>(eP l x).bind λy=>(tb l r).bind λys=>some<|y::ys
def xM:∀{ps:L (Nat×Operand)}{xs:L SR},tb l ps=some xs->ps.map (λp=>resolve (dn l) p.2)=xs.map SR.den
 |[],xs,h=>by simp[tb]at h;grind
 |(i,x)::r,xs,h=>by simp[tb,abZ]at h;obtain⟨y,b,ys,a,rfl⟩:=h;simp[cS b,xM a]
def ko(l:bJ):L Operand->Q (L SR)
 |[]=>some []
 |x::r=>(eP l x).bind λy=>(ko l r).bind λys=>some<|y::ys
def fJ:∀{ps:L Operand}{xs:L SR},ko l ps=some xs->ps.map (resolve<|dn l)=xs.map SR.den
 |[],xs,h=>by simp[ko]at h;grind
 |x::r,xs,h=>by simp[ko,abZ]at h;obtain⟨y,b,ys,a,rfl⟩:=h;simp[cS b,fJ a]
def Af(tt:TT)(l:bJ)(d:Nat)(t:TypeId)(n:Nat)(ps:L (Nat×Operand)):qx:=
 (slice? tt t).bind λe=>(Jl tt e).bind λti=>(tb l ps).bind λb=>(mI b).bind λ(ob,a,M)=>(iR<|fe (fe (idxs ps 0)<|Nat.beq n<|len ps)<|fe (a.all<|oa ti)<|Nat.ble (n*ti.size) 16777216).bind λ_=>(iR<|Nat.ble n 16777216).bind λ_=>(WL ti.size a).bind λy=>pW ob l M d y
def yk(hA:dD P tt)(l:bJ)(d:Nat)(t:TypeId)(n:Nat)(ps:Array (Nat×Operand)):dN l (match dY P t with
 |some e=>match cC P e with
  |some ti=>match ij (ps.toList.map λp=>resolve (dn l) p.2)with
   |some (ys,M)=>if(ps.toList.map (·.1)=List.range n)/\(ys.all<|fits ti)/\n*ti.size<=2^24/\n<=maxLen then some [.make M d<|.list .own ti.size ys]else none
   |none=>none
  |none=>none
 |none=>none) (Af tt l d t n ps.toList):=by
 refine aw _ λe q=>aw _ λti o=>aw _ λv m=>aw _ λ⟨ob,ys,M⟩k=>bG λf=>bG λj=>aw _ λy i=>lP λc=>?_;simp only[bL,beq_iff,fW]at f;let⟨⟨u,s⟩,g,r⟩:=f;simp only[oK hA q,eQ hA o,xM l m,qb k c];have a:(aE ys).all (fits ti.den)=true:=by rw[afY]at g⊢;intro x b;rw[dh]at b;obtain⟨y,h,rfl⟩:=ab4.1 b;exact j6 ti y<|g y h
 have hn:n<=maxLen:=by have:=af4 j;unfold maxLen;omega
 rw[abx ⟨by rw[RH u,s,List.range_eq_range'],a,af4 r,hn⟩,TQ i];rfl
def Jv(cs:L SV)(o n:Nat)(y:SV):Q (L SV):=
 (iR<|Nat.ble (o+n)<|len cs).bind λ_=>match y with
   |.agg a=>(iR<|Nat.beq (len a) n).bind λ_=>some (cat (Vj cs o)<|cat a<|XC cs<|o+n)
   |y=>(iR<|fe (Nat.beq n 1) y.cell).bind λ_=>some<|put cs o y
def Lt{cs zs:L SV}{o n:Nat}{y:SV}(h:Jv cs o n y=some zs):Eb (aE cs) o n y.den=some (aE zs):=by
 simp only[Jv,abZ,bW]at h;let⟨_,b,h⟩:=h;have b:=af4 b;rw[fW]at b;unfold Eb;rw[abx<|by rwa[bS]];cases y with
 |agg e=>simp only[abZ,bW,beq_iff,fW,abL]at h;obtain⟨_,a,rfl⟩:=h;simp[SV.den,a,dA,xz,yl,dh,adZ]
 |_=>
  simp only[abZ,bW,bL,beq_iff,abL]at h;obtain⟨_,⟨a,c⟩,rfl⟩:=h
  first
   |(simp[a,put_eq,Al];rfl)
   |(simp[SV.cell]at c)
def FC(a:L (Nat×Nat)):L SV->L (Nat×Operand)->L SV->Q (L SV)
 |cs,[],_=>some cs
 |cs,(i,_)::r,y::ys=>(nth a i).bind λ(o,n)=>(Jv cs o n y).bind λcs=>FC a cs r ys
 |_,_,_=>none
def FB{a:L (Nat×Nat)}:∀{ps:L (Nat×Operand)}{cs ys zs:L SV},ys.length=ps.length->FC a cs ps ys=some zs->vq a (aE cs) ((ps.map (·.1)).zip<|aE ys)=some (aE zs)
 |[],cs,ys,zs,hl,h=>by simp[FC]at h;subst h;rfl
 |(i,x)::r,cs,[],zs,hl,h=>by grind
 |(i,x)::r,cs,y::ys,zs,hl,h=>by simp[FC,abZ]at h;let⟨o,n,b,cs',e,c⟩:=h;rw[pT]at b;simp[aE,vq,b,Lt e];exact FB (d8) c
def RW(tt:TT)(l:bJ)(d:Nat)(t:TypeId)(ps:L (Nat×Operand)):qx:=
 (Jl tt t).bind λti=>match ti with
   |⟨_,_,_,z⟩=>match z with
    |.agg z=>(JQ tt t).bind λc=>(tb l ps).bind λb=>(mI b).bind λ(ob,a,M)=>(FC c z ps a).bind λe=>pW ob l M d (.agg e)
    |_=>none
def uj:∀{xs:L SR}{ob:L Pd}{ys:L SV}{M:L Nat},mI xs=some (ob,ys,M)->ys.length=xs.length
 |[],ob,ys,M,h=>by simp[mI]at h;grind
 |x::xs,ob,ys,M,h=>by simp[mI,abZ]at h;obtain⟨c,y,i,g,b,a,N,e,_,f,rfl,rfl,rfl⟩:=h;simp[uj e]
def xc:∀{ps:L (Nat×Operand)}{xs:L SR},tb l ps=some xs->xs.length=ps.length
 |[],xs,h=>by simp[tb]at h;grind
 |(i,x)::r,xs,h=>by simp[tb,abZ]at h;obtain⟨y,b,ys,a,rfl⟩:=h;simp[xc a]
def Hc(hA:dD P tt)(l:bJ)(d:Nat)(t:TypeId)(ps:Array (Nat×Operand)):dN l (match cC P t with
 |some ti=>match ti.zero with
  |.agg z=>match placesOf P t with
   |some e=>match ij (ps.toList.map λp=>resolve (dn l) p.2)with
    |some (ys,M)=>match vq e z ((ps.toList.map (·.1)).zip ys)with
     |some cs=>some [.make M d<|.agg cs]
     |none=>none
    |none=>none
   |none=>none
  |_=>none
 |none=>none) (RW tt l d t ps.toList):=by
 refine aw _ λti k=>?_;let⟨a,b,c,z⟩:=ti;cases z<;>try exact bN
 rename_i z;refine aw _ λe j=>aw _ λm g=>aw _ λ⟨ob,ys,M⟩f=>aw _ λcs i=>lP λc=>?_;have h:(AL.den ⟨a,b,‹_›,.agg z⟩).zero=.agg _:=W;simp[eQ hA k,h,Tu hA j,xM l g,qb f c,FB (by rw[uj f,xc l g]) i,SV.den]
def Oq(sz:Nat)(z:SV)(n:Nat):Q SV:=match z with
 |.n k a=>(iR<|Nat.beq sz 1).bind λ_=>some (.ints k true<|List.replicate n a)
 |.s a=>(iR<|Nat.beq sz 1).bind λ_=>some (.strs true<|List.replicate n a)
 |.b a=>(iR<|Nat.beq sz 1).bind λ_=>some (.dt true<|List.replicate n a)
 |z=>some<|.row true sz<|List.replicate n z
def Oo{sz n:Nat}{z y:SV}(h:Oq sz z n=some y):y.den=.list .own sz (List.replicate n z.den):=by unfold Oq at h;split at h;simp only[abZ,bW,beq_iff,abL]at h;obtain⟨_,rfl,rfl⟩:=h;simp[SV.den,fl];simp only[abZ,bW,beq_iff,abL]at h;obtain⟨_,rfl,rfl⟩:=h;simp[SV.den,fl];simp only[abZ,bW,beq_iff,abL]at h;obtain⟨_,rfl,rfl⟩:=h;simp[SV.den,fl];cases h;simp[SV.den,fl,dh]
def CK(tt:TT)(l:bJ)(d:Nat)(t:TypeId)(x y:SR):qx:=
 (slice? tt t).bind λe=>(Jl tt e).bind λti=>match ti with
   |⟨_,sz,bytes,z⟩=>(dB x).bind λ(ob,a)=>(dB y).bind λ(c,b)=>match a,b with
    |.n _ a,.n _ b=>(iR<|ne' sz 0).bind λ_=>(Oq sz z a.toNat).bind λr=>pW ((0<=a)::(a<=b)::(b*bytes<=140737488355328)::(b<=9223372036854775807)::app ob c) l [] d r
    |_,_=>none
def Ac(hA:dD P tt)(l:bJ)(d:Nat)(t:TypeId)(x y:SR):dN l (m1 (match dY P t with
 |some e=>match cC P e with
  |some ti=>match x.den.cont,y.den.cont with
   |some (.v<|.int _ a),some (.v<|.int _ b)=>if 0<=a/\a<=b/\b*ti.bytes<=140737488355328/\b<=maxLen/\0<ti.size then
     some ([.make [] d<|.list .own ti.size<|List.replicate a.toNat ti.zero],[])else none
   |_,_=>none
  |none=>none
 |none=>none)) (CK tt l d t x y):=by
 refine aw _ λe n=>aw _ λti m=>?_;refine aw _ λ⟨ob,a⟩k=>aw _ λ⟨g,b⟩j=>?_;cases a<;>try exact bN
 cases b<;>try exact bN
 refine bG λi=>aw _ λr h=>lP λc=>?_;let⟨A,z,w,u,c⟩:=c;let⟨s,q⟩:=aY.1 c;have p:x.den.cont=some (.v _):=aH k s;have o:y.den.cont=some (.v _):=aH j q;have f:((maxLen:Nat):Int)=(2^63-1):=gC;simp[oK hA n,eQ hA m,p,o];rw[abx ⟨A,z,w,by rw[f];exact u,ahD<|ne_iff.1 i⟩,Oo h];rfl
def W4:SV->Bool
 |.ptr .. =>true
 |_=>false
def yh(l:bJ)(d:Nat)(x:SR):qx:=match W4 x.sl.v with
 |true=>(Gz x).bind λ(ob,_)=>Oa ob (yj l d x)
 |false=>(dB x).bind λ(ob,v)=>match v with
  |.box _ _=>Oa ob (yj l d x)
  |.fn (.func _) _ _=>Oa ob (yj l d x)
  |_=>none
def Bz(x:SR):dN l (m1 (match x.den.cont with
 |some (.box _ _)=>ie (dL d x.den)
 |some (.fn (.func _) _ _)=>ie (dL d x.den)
 |_=>match x.den.sl.av with
  |.ptr .. =>match x.den.addr with
   |some _=>ie (dL d x.den)
   |none=>none
  |_=>none)) (yh l d x):=by
 unfold yh;cases i:W4 _;refine aw _ λ⟨ob,v⟩g=>?_;cases v<;>try exact bN
 refine po _ λc=>?_;rename_i o y;have:x.den.cont=some (.box o _):=aH g c;simp[this];exact kv l d x;rename_i f a b;cases f<;>try exact bN
 refine po _ λc=>?_;have:x.den.cont=some (.fn _ _ _):=aH g c;simp[this];exact kv l d x;refine aw _ λ⟨ob,j⟩g=>po _ λc=>?_;obtain⟨r,g1,g2,p,h⟩:∃r g1 g2 p,x.sl.v=.ptr r g1 g2 p:=by cases h:x.sl.v<;>rw[h]at i<;>simp[W4]at i;simp_all
 have e:x.den.sl.av=.ptr r g1 g2 p:=by show x.sl.v.den=_;rw[h];rfl
 have hc:x.den.cont=none:=by unfold cF.cont;rw[e]
 simp[hc,e,lU g c];exact kv l d x
def xX:L SR->Q (L Pd×L SV)
 |[]=>some ([],[])
 |x::xs=>(dB x).bind λ(ob,y)=>(xX xs).bind λ(a,ys)=>some (app ob a,y.cK::ys)
def tC:∀{xs:L SR}{ob:L Pd}{ys:L SV},xX xs=some (ob,ys)->aj ob->iZ (xs.map SR.den)=some (aE ys)
 |[],ob,ys,h,_=>by obtain⟨-,rfl⟩:=h;rfl
 |x::xs,ob,ys,h,hc=>by simp[xX,abZ]at h;obtain⟨c,y,f,b,a,e,rfl,rfl⟩:=h;let⟨i,g⟩:=aY.1 hc;simp[iZ,aab,aH f i,tC e g,aE,gY]
def vZ:L SR->Q (L Pd×L (Nat×Path))
 |[]=>some ([],[])
 |x::xs=>(dB x).bind λ(ob,y)=>(vZ xs).bind λ(a,b)=>match y.aK with
  |true=>some (app ob a,b)
  |false=>(Bb x).bind λ(r,_,_,p)=>some (app ob a,(r,p)::b)
def qH:∀{xs:L SR}{ob:L Pd}{b:L (Nat×Path)},vZ xs=some (ob,b)->aj ob->shares (xs.map SR.den)=b.map λm=>.share m.1 m.2
 |[],ob,b,h,_=>by simp[vZ]at h;obtain⟨-,rfl⟩:=h;rfl
 |x::xs,ob,b,h,hc=>by
  simp[vZ,abZ]at h;let⟨j,y,g,i,k,f,a⟩:=h;cases hn:y.aK with
  |true=>rw[hn]at a;cases a;let⟨e,c⟩:=aY.1 hc;simp[shares,aH g e,cO,hn];exact qH f c
  |false=>rw[hn]at a;simp[abZ]at a;obtain⟨r,g1,g2,p,n,rfl,rfl⟩:=a;let⟨e,c⟩:=aY.1 hc;simp[shares,aH g e,cO,hn,pS,n,qH f c]
def FJ(l:bJ)(d:Nat)(f:Fn)(a b:L Operand):qx:=
 (ko l a).bind λh=>(ko l b).bind λg=>(xX h).bind λ(ob,asx)=>(xX g).bind λ(e,j)=>(vZ<|h++g).bind λ(c,i)=>match i with
   |[]=>dJ (app ob<|app e c) l d (.fn f asx j)
   |_=>none
def BA(f:Fn)(a b:Array Operand):dN l (m1 (match iZ (a.toList.map<|resolve<|dn l),iZ (b.toList.map<|resolve<|dn l)with
 |some q,some c=>if(shares<|a.toList.map (resolve<|dn l)++b.toList.map (resolve<|dn l)).isEmpty then some ([.put d<|.fn f q c],[])else none
 |_,_=>none)) (FJ l d f a.toList b.toList):=by
 refine aw _ λs n=>aw _ λr m=>aw _ λ⟨ob,asx⟩k=>aw _ λ⟨g,t⟩j=>aw _ λ⟨e,h⟩i=>?_;cases h<;>try exact bN
 refine di λc=>?_;let⟨p,c⟩:=aY.1 c;let⟨o,c3⟩:=aY.1 c;have hs:=qH i c3;rw[adW]at hs;simp[fJ l n,fJ l m,tC k p,tC j o,hs];rfl
end
def ev(tt:TT)(e:L Nat)(l:bJ)(h:Q Nat)(op:Op):qx:=
 match h with
 |none=>match op with
  |.store t a x=>(eP l a).bind λa=>(eP l x).bind λx=>RR tt l t a x
  |_=>none
 |some d=>match op with
  |.move x=>(eP l x).bind λx=>yj l d x
  |.assign x=>(eP l x).bind λx=>FM l d x
  |.load t x=>(eP l x).bind λx=>PY tt l d t x
  |.fieldAddr t x f=>(eP l x).bind λx=>CL tt l d t x f
  |.field t x f=>(eP l x).bind λx=>RV tt l d t x f
  |.indexAddr t x i=>(eP l x).bind λx=>(eP l i).bind λi=>vz tt l d t x i
  |.index t x i=>(eP l x).bind λx=>(eP l i).bind λi=>RU tt l d t x i
  |.extract x i=>(eP l x).bind λx=>IL l d x i
  |.convert s t x=>(eP l x).bind λx=>abP tt (Mu d e) l d s t x
  |.slice t x a b c=>(eP l x).bind λx=>(JT l a).bind λa=>(JT l b).bind λb=>(JT l c).bind λc=>RS tt l d t x a b c
  |.binOp op t x y _=>(eP l x).bind λx=>(eP l y).bind λy=>abJ tt (Mu d e) l d op t x y
  |.unOp op _ x=>(eP l x).bind λx=>afB (Mu d e) l d op x
  |.pick c x y=>(eP l c).bind λc=>(eP l x).bind λx=>(eP l y).bind λy=>Xs l d c x y
  |.alloc t=>RX tt l d t
  |.box t x=>(eP l x).bind λx=>abI tt l d t x
  |.build t g=>RW tt l d t g.toList
  |.buildSlice t n g=>Af tt l d t n g.toList
  |.makeSlice t x y=>(eP l x).bind λx=>(eP l y).bind λy=>CK tt l d t x y
  |.nilCheck x=>(eP l x).bind λx=>yh l d x
  |.makeFunc f a b=>FJ l d f a.toList b.toList
  |.call ⟨.builtin b,asx,j⟩=>match b,j.toList,asx.toList with
   |.len,t::_,[x]=>(eP l x).bind λx=>abH tt l d t x
   |.append,[t,m],[x,y]=>(slice? tt m).bind λ_=>(eP l x).bind λx=>(eP l y).bind λy=>pk tt l d t x y aaV
   |.min,_,[x,y]=>(eP l x).bind λx=>(eP l y).bind λy=>Xt true l d x y
   |.max,_,[x,y]=>(eP l x).bind λx=>(eP l y).bind λy=>Xt false l d x y
   |_,_,_=>none
  |_=>none
 where JT (l:bJ):Q Operand->Q (Q SR)
  |none=>some none
  |some x=>(eP l x).bind λx=>some<|some x
def ED{l:bJ}{x:Q Operand}{y:Q SR}(h:ev.JT l x=some y):x.map (resolve<|dn l)=y.map SR.den:=by
 cases x with
 |none=>simp[ev.JT]at h;grind
 |some x=>simp[ev.JT,abZ]at h;obtain⟨z,a,rfl⟩:=h;simp[cS a]
section
variable{R:Q Nat->Prop}{P:Program}{tt:TT}(hA:dD P tt)
def cG{l:bJ}{x:Operand}{m:Q (L Mv)}{f:SR->qx}(h:∀y:SR,resolve (dn l) x=y.den->dN l m (f y)):dN l m ((eP l x).bind f):=aw _ λy a=>h y<|cS a
def FT{l:bJ}{x:Q Operand}{m:Q (L Mv)}{f:Q SR->qx}(h:∀y:Q SR,x.map (resolve<|dn l)=y.map SR.den->dN l m (f y)):dN l m ((ev.JT l x).bind f):=aw _ λy a=>h y<|ED a
def abF(hA:dD P tt){q:L Nat}{l l':bJ}{o:Q Nat}{op:Op}{ty:TypeId}{pos:String}{w:Array Edge}{ops:Array Oper}{K:L Mv->St->Prop}{ob:L Pd}{s:L Nat}
 (h:ev tt q l o op=some (ob,l',s))(hc:aj ob)(D:∀p,bA p=s->K p (dn l')):rP P ops ⟨o,op,ty,pos,w,none⟩ (dn l) K:=by
 have fin:∀{m:Q (L Mv)}{e:qx},dN l m e->e=some (ob,l',s)->wR m (dn l) K:=by intro m e H he;obtain⟨p,rfl,M,J⟩:=H _ _ _ he hc;exact⟨p,W,dn l',M,D p J⟩
 cases o with
 |none=>
  cases op<;>simp[ev]at h<;>try(cases h;done)
  rw[ZO];exact fin (cG λa f=>cG λx C=>by rw[f,C];exact G8 hA l _ a x) h
 |some d=>
  cases op<;>simp[ev]at h<;>try(cases h;done)
  case move=>rw[acY];exact fin (cG λa f=>by rw[f];exact kv l d a) h
  case assign=>rw[Wr];exact fin (cG λa f=>by rw[f];exact FL l d a) h
  case load=>rw[acZ];exact fin (cG λa f=>by rw[f];exact Kt hA l d _ a) h
  case fieldAddr=>rw[Ml];exact fin (cG λa f=>by rw[f];exact Ae hA l d _ a _) h
  case field=>rw[ZR];exact fin (cG λa f=>by rw[f];exact Hb hA l d _ a _) h
  case indexAddr=>rw[Mj];exact fin (cG λa f=>cG λb i=>by rw[f,i];exact Ad hA l d _ a b) h
  case index=>rw[ZQ];exact fin (cG λa f=>cG λb i=>by rw[f,i];exact Ha hA l d _ a b) h
  case extract=>rw[TG];exact fin (cG λa f=>by rw[f];exact Dp l d a _) h
  case convert=>rw[TH];exact fin (cG λa f=>by rw[f];exact NR hA l d _ _ _ a) h
  case slice=>rw[ZP];exact fin (cG λa f=>FT λb i=>FT λc hc=>FT λe he=>by rw[f,i,hc,he];exact G9 hA l d _ a b c e) h
  case binOp=>rw[ae5];exact fin (cG λa f=>cG λb i=>by rw[f,i];exact Nt hA _ l d _ _ a b) h
  case unOp=>rw[agC];exact fin (cG λa f=>by rw[f];exact PX _ l d _ a) h
  case pick=>rw[acX];exact fin (cG λa f=>cG λb i=>cG λc hc=>by rw[f,i,hc];exact Ks l d a b c) h
  case alloc=>rw[ZT];exact fin (Hd hA l d _) h
  case box=>rw[ae4];exact fin (cG λa f=>by rw[f];exact Ns hA l d _ a) h
  case build=>rw[ZS];exact fin (Hc hA l d _ _) h
  case buildSlice=>rw[JY];exact fin (yk hA l d _ _ _) h
  case makeSlice=>rw[Mi];exact fin (cG λa f=>cG λb i=>by rw[f,i];exact Ac hA l d _ a b) h
  case nilCheck=>rw[Pm];exact fin (cG λa f=>by rw[f];exact Bz l d a) h
  case makeFunc=>rw[Pn];exact fin (BA l d _ _ _) h
  case call c=>
   let⟨j,asx,O⟩:=c;cases j<;>simp only at h<;>try(cases h;done)
   rw[TJ];split at h<;>try(cases h;done)
   rename_i t r x v n;rw[v,n];exact fin (cG λa f=>by simp[ad3,ahj,f];exact Nr hA l d _ _ a) h;rename_i t S x y v n;rw[v,n];refine fin (aw _ λn u=>cG λa f=>cG λb g=>?_) h;simp[ad3,ahj,f,g,l8,oK hA u];exact Dq hA l d _ a b aaV λ_ _ _ _ _ _ _ B A z=>XZ B A z;rename_i x y n;rw[n];refine fin (cG λa f=>cG λb g=>?_) h;simp[ad3,ahj,f,g];exact CJ l d true _ a b;rename_i x y n;rw[n];refine fin (cG λa f=>cG λb g=>?_) h;simp[ad3,ahj,f,g];exact CJ l d false _ a b
end
inductive It
 |code (c:Code)
 |fU (id:Nat)
 |scp
 |ops (all:Array Oper) (rest:List Oper)
 |vB (all:Array Oper) (mm:List Nat) (rest:List Oper) (acc:List (List Nat×List Nat))
 |inv (I:St->Prop)
def kM(R:Q Nat->Prop)(P:Program)(N:Nat)(F:St->Prop):L It->Exit->St->Prop
 |[],e,σ=>match e with
  |.normal=>F σ
  |.ret=>F σ
  |_=>False
 |.code c::k,e,σ=>match e with
  |.normal=>AW R P N c (kM R P N F k) σ
  |e=>kM R P N F k e σ
 |.fU id::k,e,σ=>match e with
  |.exit d=>if d=id then kM R P N F k .normal σ else kM R P N F k (.exit d) σ
  |e=>kM R P N F k e σ
 |.scp::k,e,σ=>match e with
  |.goto _=>False
  |e=>kM R P N F k e σ
 |.ops all rest::k,e,σ=>match e with
  |.normal=>rp P all rest σ (kM R P N F k .normal)
  |e=>kM R P N F k e σ
 |.vB all h rest g::k,e,σ=>match e with
  |.normal=>rt P all rest σ g λb f=>apart h b all.size=true/\kM R P N F k .normal f
  |e=>kM R P N F k e σ
 |.inv a::k,e,σ=>match e with
  |.normal=>a σ
  |e=>kM R P N F k e σ
def AK(R:Q Nat->Prop)(P:Program)(N:Nat)(F:St->Prop)(k:L It)(l:bJ):Prop:=kM R P N F k .normal<|dn l
section
variable{R:Q Nat->Prop}{P:Program}{N:Nat}{F:St->Prop}{k:L It}{l:bJ}{σ:St}
def nQ:∀(k:L It),kM R P N F k .ret σ=F σ
 |[]=>rfl
 |.code c::k=>nQ k
 |.fU id::k=>nQ k
 |.scp::k=>nQ k
 |.ops .. ::k=>nQ k
 |.vB .. ::k=>nQ k
 |.inv _::k=>nQ k
def FI(id:Nat):L It->Q (L It)
 |[]=>none
 |.fU a::k=>match Nat.beq id a with
  |true=>some k
  |false=>FI id k
 |_::k=>FI id k
def Ts{id:Nat}:∀{k a:L It},FI id k=some a->kM R P N F a .normal σ->kM R P N F k (.exit id) σ:=by
 intro k
 induction k with
 |nil=>intro a h _;simp[FI]at h
 |cons x k c=>
  intro a h d;cases x with
  |fU b=>
   simp[FI]at h;simp[kM];split at h;simp_all;have:id≠b:=by intro e;simp_all
   grind
  |_=>simp[FI]at h;exact c h d
def KU{a b:Code}(h:AK R P N F (.code a::.code b::k) l):AK R P N F (.code (.seq a b)::k) l:=X8 (kW (h:AW R P N a _ _) λe c h=>gk)
def Yl{id:Nat}{c:Code}(h:AK R P N F (.code c::.fU id::k) l):AK R P N F (.code (.block id c)::k) l:=Yc (kW (h:AW R P N c _ _) λe a h=>gk)
def Yk{c:Code}(h:AK R P N F (.code c::.scp::k) l):AK R P N F (.code (.scope c)::k) l:=X9 (kW (h:AW R P N c _ _) λe a h=>gk)
def dP(l:bJ)(all:L Oper):Q (Nat×Bool)->Q Bool
 |none=>some true
 |some (j,b)=>match nth all j with
  |some o=>match o.dst with
   |some d=>match Nat.blt d 500 with
    |true=>match(gt l d).v with
     |.b true=>some b
     |.b false=>some (not' b)
     |.de []=>some false
     |_=>none
    |false=>none
   |none=>none
  |none=>none
def dV{all:Array Oper}{o:Oper}{b:Bool}(h:dP l all.toList o.guard=some b):me (dn l) all o=some b:=by
 unfold me;cases f:o.guard with
 |none=>rw[f]at h;simpa[dP]using h
 |some q=>
  rw[f]at h;simp[dP]at h;split at h<;>try(cases h)
  rename_i i c;rw[pT,ail]at c;split at h<;>try(cases h)
  rename_i d g;simp[c,g,eB];split at h<;>try(cases h)
  rename_i e;rw[e];split at h<;>try(cases h)
  rename_i a;rw[a];simpa[SV.den]using h;rename_i a;rw[a];simp[SV.den];cases q.2<;>simp_all[not'];rename_i a;rw[a];rfl
def aeE(l:bJ):Q Nat->bJ×L Nat
 |some d=>L3 l d (.de []) λl'=>(l',[d])
 |none=>(l,[])
def QU(tt:TT)(b:L Nat)(all:L Oper)(l:bJ)(o:Oper):qx:=
 match o with
 |⟨a,c,_,_,_,g⟩=>match dP l all g with
  |some true=>ev tt b l a c
  |some false=>match aeE l a with
   |(d,e)=>some ([],d,e)
  |none=>none
def Lr{tt:TT}(hA:dD P tt){c:L Nat}{all:Array Oper}{o:Oper}{l':bJ}{ob:L Pd}{i:L Nat}{K:L Mv->St->Prop}(h:QU tt c all.toList l o=some (ob,l',i))(hc:aj ob)
 (b:∀f,bA f=i->K f (dn l')):rP P all o (dn l) K:=by
 let⟨e,n,m,pos,j,g⟩:=o;unfold QU at h;simp only at h;split at h<;>try(cases h;done)
 rename_i a;cases g with
 |none=>exact abF hA h hc b
 |some q=>rw[JX,dV a];simp;exact abF hA h hc b
 ·rename_i a;cases g with
  |none=>simp[dP]at a
  |some q=>
   rw[JX,dV a];simp;cases e with
   |none=>obtain⟨-,rfl,rfl⟩:=h;exact⟨[],W,dn l,W,b _ W⟩
   |some d=>obtain⟨-,rfl,rfl⟩:=h;refine⟨[.put d _],W,dn<|Tq l d _,?_,b _ W⟩;have:=mA l d<|.de [];rw[<-this];rfl
abbrev afW:=Q<|L Pd×L It×bJ
def Vu(tt:TT)(f:L Nat)(N:Nat)(k:L It)(l:bJ):afW:=
 match k with
 |[]=>none
 |.code c::k=>match c with
  |.seq a b=>some ([],.code a::.code b::k,l)
  |.skip=>some ([],k,l)
  |.label _=>some ([],k,l)
  |.region _ all false=>match all.toList.all (ni N)with
   |true=>some ([],.ops all all.toList::k,l)
   |false=>none
  |.region _ all true=>match all.toList.all (ni N),lower all.toList with
   |true,true=>some ([],.vB all (ve all.toList []) all.toList []::k,l)
   |_,_=>none
  |.block id c=>some ([],.code c::.fU id::k,l)
  |.scope c=>some ([],.code c::.scp::k,l)
  |.exit id=>match FI id k with
   |some k=>some ([],k,l)
   |none=>none
  |.ret=>some ([],[],l)
  |.cond c t e=>match aO c with
   |true=>(eP l c).bind λx=>(dB x).bind λ(ob,v)=>match v with
    |.b true=>some (ob,.code t::k,l)
    |.b false=>some (ob,.code e::k,l)
    |_=>none
   |false=>none
  |_=>none
 |.fU _::k=>some ([],k,l)
 |.scp::k=>some ([],k,l)
 |.ops all []::k=>some ([],k,l)
 |.ops all (o::d)::k=>match QU tt f all.toList l o with
  |some (ob,g,_)=>some (ob,.ops all d::k,g)
  |none=>none
 |.vB _ _ [] _::_=>none
 |.vB all i (o::d) h::k=>match QU tt f all.toList l o with
  |some (ob,g,j)=>some (ob,.vB all i d ((kJ (dn l) all o,j)::h)::k,g)
  |none=>none
 |.inv _::_=>none
def xD{tt:TT}(hA:dD P tt)(hm:P.follows .mixedOrders=true){j:L Nat}{k n:L It}{l l':bJ}{ob:L Pd}(h:Vu tt j N k l=some (ob,n,l'))(hc:aj ob)(a:AK R P N F n l'):AK R P N F k l:=by
 unfold Vu at h;split at h;cases h
 ·rename_i c k;split at h<;>try(cases h;done)
  cases h;exact KU a;cases h;exact aa3 a;cases h;exact Yb a
  ·split at h<;>try(cases h;done)
   rename_i b;cases h;exact kW (Hl b<|LR a) λe i⟨he,h⟩=>by subst he;exact h
  ·split at h<;>try(cases h;done)
   rename_i b f;cases h;exact kW (Hm hm b f W<|LL a) λe i⟨he,h⟩=>by subst he;exact h
  cases h;exact Yl a;cases h;exact Yk a
  ·split at h<;>try(cases h;done)
   rename_i k2 he;cases h;exact aa5<|Ts he a
  cases h;refine adQ ?_;rwa[nQ];split at h<;>try(cases h)
  rename_i c t e b;simp[abZ,ahk]at h;let⟨x,p,d,v,o,g⟩:=h;split at g<;>try(cases g;done)
  cases g;exact KO (t:=true) b (by rw[cS p];exact aH o hc) a;cases g;exact KO (t:=false) b (by rw[cS p];exact aH o hc) a
 cases h;exact a;cases h;exact a;cases h;exact a
 ·split at h<;>try(cases h;done)
  rename_i d r s hs;cases h;exact yP<|Lr hA hs hc λq _=>a
 cases h
 ·split at h<;>try(cases h;done)
  rename_i d r s hs;cases h;refine yP<|Lr hA hs hc λq m=>?_;rwa[m]
 cases h
def acN{α:Type _}:L Pd->L Pd->(L Pd->α)->α
 |[],a,k=>k a
 |p::q,a,k=>acN q (p::a) k
def Rf{α:Type _}:∀(a b:L Pd),∃c,(∀k:L Pd->α,acN a b k=k c)/\(aj c↔aj a/\aj b)
 |[],b=>⟨b,λ_=>rfl,by simp[aj]⟩
 |p::a,b=>by obtain⟨c,e,d⟩:=Rf a _;refine⟨c,e,?_⟩;rw[d];constructor;rintro⟨x,y,z⟩;exact⟨⟨y,x⟩,z⟩;rintro⟨⟨x,y⟩,z⟩;exact⟨y,x,z⟩
def Cp:L Pd->L Pd->L Pd
 |[],l=>l
 |p::m,l=>app (p::m) l
def sA{a b:L Pd}:aj (Cp a b)↔aj a/\aj b:=by
 cases a with
 |nil=>simp[Cp,aj]
 |cons p m=>exact aY
def ov:L Bool->Bool
 |[]=>true
 |b::l=>match b with
  |true=>ov l
  |false=>false
def XU{b:Bool}{l:L Bool}:ov (b::l)=true↔b=true/\ov l=true:=by cases b<;>simp[ov]
def drawn:L It->Q (Bool×L It)
 |.vB all b [] a::k=>some (apart b a.reverse all.size,k)
 |_=>none
def Nx{k a:L It}{b:Bool}(h:drawn k=some (b,a))(d:b=true)(c:AK R P N F a l):AK R P N F k l:=by
 unfold drawn at h;split at h<;>try(cases h;done)
 cases h;exact⟨d,c⟩
def run(tt:TT)(c:L Nat)(N:Nat):Nat->L It->bJ->L Pd->L Bool->L Pd×L Bool×L It×bJ
 |0,k,l,a,qs=>(a,qs,k,l)
 |n+1,k,l,a,qs=>match drawn k with
  |some (b,d)=>run tt c N n d l a (b::qs)
  |none=>match Vu tt c N k l with
   |some (ob,d,l')=>acN ob a λa=>run tt c N n d l' a qs
   |none=>(a,qs,k,l)
def pc{tt:TT}(hA:dD P tt)(hm:P.follows .mixedOrders=true){g:L Nat}:∀{n:Nat}{k f:L It}{l l':bJ}{a ob:L Pd}{qs d:L Bool},run tt g N n k l a qs=(ob,d,f,l')->aj ob->ov d=true->
 aj a/\ov qs=true/\(AK R P N F f l'->AK R P N F k l)
 |0,k,f,l,l',a,ob,qs,d,h,hc,j=>by simp[run]at h;grind
 |n+1,k,f,l,l',a,ob,qs,d,h,hc,j=>by simp[run]at h;split at h;rename_i b k1 q;let⟨p,e,o⟩:=pc hA hm h hc j;rw[XU]at e;exact⟨p,e.2,λm=>Nx q e.1<|o m⟩;split at h;rename_i i k1 v hs;obtain⟨c,u,t⟩:=Rf i a;rw[u]at h;let⟨p,e,o⟩:=pc hA hm h hc j;let⟨s,r⟩:=t.1 p;exact⟨r,e,λm=>xD hA hm hs s<|o m⟩;simp_all
end
def w9.refl(x:AV):w9 x x:=λ_ _ _ _ h=>h
mutual
def aB:SV->SV->Prop
 |.nil,y=>match y with
  |.nil=>True
  |.ints _ _ xs=>xs=[]
  |.gh _ xs=>xs=[]
  |.strs _ xs=>xs=[]
  |.dt _ xs=>xs=[]
  |.bm _ _ _ _ xs=>xs=[]
  |_=>False
 |.agg xs,y=>match y with
  |.agg ys=>Jg xs ys
  |_=>False
 |.de xs,y=>match y with
  |.de ys=>Jg xs ys
  |_=>False
 |.n k a,y=>SV.n k a=y
 |.b a,y=>match y with
  |.b c=>a=c
  |.u c=>a=c
  |_=>False
 |.u a,y=>match y with
  |.b c=>a=c
  |.u c=>a=c
  |_=>False
 |.s a,y=>SV.s a=y
 |.c a,y=>SV.c a=y
 |.ints k o xs,y=>SV.ints k o xs=y
 |.gh k xs,y=>match y with
  |.ints j false ys=>k=j/\xs=ys
  |y=>SV.gh k xs=y
 |.strs o xs,y=>SV.strs o xs=y
 |.dt o xs,y=>SV.dt o xs=y
 |.bm o sz d e xs,y=>SV.bm o sz d e xs=y
 |.row o sz xs,y=>match y with
  |.row o' h ys=>o=o'/\sz=h/\xs=ys
  |.bm o' h _ e ys=>o=o'/\sz=h/\xs=ys.map e
  |_=>False
 |.box o x,y=>SV.box o x=y
 |.fn f a c,y=>SV.fn f a c=y
 |.bH r a b p,y=>SV.bH r a b p=y
 |.ptr r a b p,y=>SV.ptr r a b p=y
 |.hole,y=>SV.hole=y
 |.dead,y=>SV.dead=y
 |.pv C,y=>SV.pv C=y
 |.abs J,y=>SV.abs J=y
 |.ix g i,y=>SV.ix g i=y
 |.ob J,y=>SV.ob J=y
def Jg:List SV->List SV->Prop
 |[],ys=>match ys with
  |[]=>True
  |_::_=>False
 |x::xs,ys=>match ys with
  |y::ys=>aB x y/\Jg xs ys
  |[]=>False
end
def Rr{sz a:Nat}{o:Bool}:w9 (.list .nil sz []) (.list (fl o) a []):=by intro w S v F h;cases o;simp only[Rel];left;exact⟨U,⟨none,h.2.1⟩,h.2.2⟩;simp only[Rel];left;exact⟨U,h.2.1,h.2.2⟩
mutual
theorem aB.den:∀{x y:SV},aB x y->w9 x.den y.den
 |.nil,y,h=>by
  cases y<;>simp[aB]at h
  case nil=>exact w9.refl _
  case gh=>subst h;exactλw S v F h=>by simpa[SV.den,flm,szm,Rel]using h
  all_goals(subst h;exact Rr)
 |.agg xs,y,h=>zao
 |.de xs,y,h=>zao
 |.n k a,y,h=>bv
 |.b a,y,h=>zaL
 |.u a,y,h=>zaL
 |.s a,y,h=>bv
 |.c a,y,h=>bv
 |.ints k o xs,y,h=>bv
 |.gh k xs,y,h=>by
  unfold aB at h;split at h;obtain⟨rfl,rfl⟩:=h;cases xs with
  |nil=>exact Rr (o:=false)
  |cons x xs=>exact w9.refl _
  ·subst h;exact w9.refl _
 |.strs o xs,y,h=>bv
 |.dt o xs,y,h=>bv
 |.bm o sz d e xs,y,h=>bv
 |.row o sz xs,y,h=>by
  cases y<;>simp[aB]at h;obtain⟨rfl,rfl,rfl⟩:=h;rename_i e g;have:(SV.row o sz<|g.map e).den=(SV.bm o sz ‹_› e g).den:=gs
  rw[this];exact w9.refl _;obtain⟨rfl,rfl,rfl⟩:=h;exact w9.refl _
 |.box o x,y,h=>bv
 |.fn f a c,y,h=>bv
 |.bH r a b p,y,h=>bv
 |.ptr r a b p,y,h=>bv
 |.hole,y,h=>bv
 |.dead,y,h=>bv
 |.pv _,y,h=>bv
 |.abs _,y,h=>bv
 |.ix _ _,y,h=>bv
 |.ob _,y,h=>bv
theorem Jg.cells:∀{xs g:List SV},Jg xs g->∀{w:World}{S:Nat->Prop}{one:Bool}{l:List Value}{F:List Nat},Cells w S one (aE xs) l F->Cells w S one (aE g) l F
 |[],g,h,w,S,one,l,F,hc=>by cases g<;>simp[Jg]at h;exact hc
 |x::xs,g,h,w,S,one,l,F,hc=>by
  cases g with
  |nil=>simp[Jg]at h
  |cons y g=>simp[aE,Cells]at hc⊢;obtain⟨v,n,z,u,j,i,t,s,q⟩:=hc;exact⟨v,n,z,u,j,i,t,aB.den h.1 _ _ _ _ s,Jg.cells h.2 q⟩
end
mutual
theorem aB.refl:∀x:SV,aB x x
 |.nil=>trivial
 |.agg xs=>by simp[aB];exact Jg.refl xs
 |.de xs=>by simp[aB];exact Jg.refl xs
 |.n .. |.b _|.u _|.s _|.c _|.ints .. |.gh .. |.strs .. |.dt .. |.bm .. |.box .. |.fn .. |.bH .. |.ptr .. |.hole|.dead|.pv _|.abs _|.ix .. |.ob _=>rfl
 |.row .. =>mv
theorem Jg.refl:∀xs:List SV,Jg xs xs
 |[]=>trivial
 |x::xs=>by simp[Jg];exact⟨aB.refl x,Jg.refl xs⟩
end
def aB.of_eq{x y:SV}(h:x=y):aB x y:=h▸aB.refl x
def aS(P:Program)(f:FuncId)(args:L SV)(r:SV):Prop:=Sound P f (aE args) r.den
def aS.same{P:Program}{f:FuncId}{asx bs:L SV}{r q:SV}(h:aS P f asx r)(e:aE asx=aE bs)(e':r.den=q.den):aS P f bs q:=by unfold aS at *;grind
def aS.ael{P:Program}{f:FuncId}{asx bs:L SV}{r:SV}(h:aS P f bs r)(hl:Jg asx bs):aS P f asx r:=λw S a c b hc=>h w S a c b<|Jg.cells hl hc
def Ku:Nat->L SV->bJ
 |_,[]=>[]
 |k,x::xs=>(k,⟨x,0,0⟩)::Ku (k+1) xs
def FP:∀(k:Nat)(xs:L SV),dn (Ku k xs)=mk (entry k<|aE xs)
 |_,[]=>rfl
 |k,x::xs=>by simp[Ku,gE,FP _ xs];rfl
def pL(tt:TT)(l:bJ):L ResultVar->Q (L SV)
 |[]=>some []
 |.tmp t::rs=>match(gt l t).v.plain with
  |true=>match pL tt l rs with
   |some xs=>some ((gt l t).v::xs)
   |none=>none
  |false=>none
 |.cell t ty::rs=>match(gt l t).v with
  |.box true x=>match Jl tt ty with
   |some ti=>match oa ti x with
    |true=>match pL tt l rs with
     |some xs=>some (x::xs)
     |none=>none
    |false=>none
   |none=>none
  |_=>none
def rQ{P:Program}{tt:TT}(hA:dD P tt){l:bJ}:∀{rs:L ResultVar}{xs:L SV},pL tt l rs=some xs->jT P (dn l) rs=some (aE xs)
 |[],xs,h=>by simp[pL]at h;subst h;rfl
 |.cell t ty::rs,xs,h=>by
  simp[pL]at h;split at h<;>try(cases h)
  rename_i x e;split at h<;>try(cases h)
  rename_i ti c;split at h<;>try(cases h)
  rename_i b;split at h<;>try(cases h;done)
  rename_i ys a;cases h;have d:(dn l t).av=.box true x.den:=by rw[eB,e];rfl
  simp[jT,d,eQ hA c,j6 _ _ b,rQ hA a,aE]
 |.tmp t::rs,xs,h=>by
  simp[pL]at h;split at h<;>try(cases h)
  split at h<;>try(cases h;done)
  rename_i ys a;cases h;have:(dn l t).av.plain=true:=by rwa[eB,cW]
  simp[jT,this,rQ hA a];rfl
def Ei(xs:L SV):SV:=match xs with|[x]=>x|xs=>.de xs
def Eh(xs:L SV):uP (aE xs)=(Ei xs).den:=by
 match xs with
 |[]=>rfl
 |[x]=>rfl
 |x::y::xs=>rfl
def Yx(P:Program)(rs:L ResultVar)(r:SV)(σ:St):Prop:=∃a,jT P σ rs=some a/\AP (uP a) r.den
section
variable{R:Q Nat->Prop}{P:Program}{N:Nat}{F:St->Prop}{k:L It}{l:bJ}{tt:TT}
def enter{f:FuncId}{fn:Func}{c:Code}{args:L SV}{r:SV}(d:P.funcs[f]?=some fn)(i:fn.body=some c)(hn:(fn.name== "runtime.NumGoroutine")=false)(a:Nat.ble (len args) fn.ntmps=true)
 (g:jk fn.results.toList []=true)(h:AK R0 P fn.ntmps (Yx P fn.results.toList r) [.code c] (Ku 0 args)):aS P f args r:=by
 refine Lv d i hn (by rw[bS,<-fW];simp_all) g ?_;rw[<-FP];exact kW (h:AW _ P _ c _ _) λe b h=>gk
def ret(hA:dD P tt){rs:L ResultVar}{r:SV}{xs:L SV}(h:pL tt l rs=some xs)(a:aB (Ei xs) r):AK R P N (Yx P rs r) [] l:=by refine⟨_,rQ hA h,?_⟩;rw[Eh];exact AP.of_le a.den
def aeR(hA:dD P tt){rs:L ResultVar}{r:SV}{xs:L SV}(h:pL tt l rs=some xs)(b:aB (Ei xs).cK r):AK R P N (Yx P rs r) [] l:=by refine⟨_,rQ hA h,?_⟩;rw[Eh];intro w S v F a;refine⟨[],F,I,λe c d=>b.den _ _ _ _ ?_⟩;rw[<-gY];exact Rel.share c _ a d
def xw:∀xs ys:L SV,jQ (cat xs ys)=cat (jQ xs) (jQ ys)
 |[],_=>rfl
 |x::xs,ys=>by simp[cat,jQ,xw _ ys]
def pG{α:Type}{e:α->SV}(h:∀x,(e x).cK=e x):∀xs:L α,jQ (xs.map e)=xs.map e
 |[]=>rfl
 |x::xs=>by simp[jQ,h x,pG h xs]
def go(hA:dD P tt)(hm:P.follows .mixedOrders=true)(a:L Nat){ob:L Pd}{qs:L Bool}{b:L It}{l':bJ}(h:run tt a N 100000 k l [] []=(ob,qs,b,l'))(c:ov qs=true)(d:aj ob)(e:AK R P N F b l'):AK R P N F k l:=(pc hA hm h d c).2.2 e
def branch{c:Operand}{t e:Code}{x:SR}{b:Bool}{ob:L Pd}(f:aO c=true)(h:eP l c=some x)(a:dB x=some (ob,.u b))(d:aj ob)(i:b=true->AK R P N F (.code t::k) l)(g:b=false->AK R P N F (.code e::k) l):
 AK R P N F (.code (.cond c t e)::k) l:=by
 refine KO f (by rw[cS h];exact aH a d) ?_;cases b;exact g W;exact i W
def aaZ{c:Operand}{t e:Code}{x:SR}{p:Prop}[Decidable p]{ob:L Pd}(d:aO c=true)(h:eP l c=some x)(a:dB x=some (ob,.u<|decide p))(b:aj ob)(g:p->AK R P N F (.code t::k) l)(f:¬p->AK R P N F (.code e::k) l):
 AK R P N F (.code (.cond c t e)::k) l:=
 branch d h a b (λh=>g<|of_decide_eq_true h) λh=>f<|of_decide_eq_false h
def known{d:Nat}{b c:Bool}(h:(gt l d).v=.u b)(a:b=c):dn ((d,⟨.b c,(gt l d).g1,(gt l d).g2⟩)::l)=dn l:=by
 subst a;rw[gE]
 funext i
 unfold jg;split;rename_i e;subst e;simp[Cl.den,dn,h];rfl;rfl
def iD(d:Nat){b:Bool}(h:(gt l d).v=.u b)(c:b=true->AK R P N F k ((d,⟨.b true,(gt l d).g1,(gt l d).g2⟩)::l))(a:b=false->AK R P N F k ((d,⟨.b false,(gt l d).g1,(gt l d).g2⟩)::l)):AK R P N F k l:=by cases b;have:=a W;unfold AK at this;rwa[known h W]at this;have:=c W;unfold AK at this;rwa[known h W]at this
def aI(d:Nat){p:Prop}[Decidable p](h:(gt l d).v=.u (decide p))(c:p->AK R P N F k ((d,⟨.b true,(gt l d).g1,(gt l d).g2⟩)::l))(a:¬p->AK R P N F k ((d,⟨.b false,(gt l d).g1,(gt l d).g2⟩)::l)):AK R P N F k l:=iD d h (λh=>c<|of_decide_eq_true h) λh=>a<|of_decide_eq_false h
mutual
def SV.mr:SV->List Pd×Bool
 |.bm true _ _ e _=>([.of<|∀x,(e x).dp=true],true)
 |.bm false _ _ _ _=>([],false)
 |.ints _ o _=>([],o)
 |.gh _ xs=>([xs≠[]],false)
 |.strs o _=>([],o)
 |.dt o _=>([],o)
 |.row false _ _|.ob _=>([],false)
 |.row true _ xs=>mq xs
 |.box false _=>([],false)
 |.box true x=>x.mr
 |.agg xs=>mq xs
 |.de xs=>mq xs
 |.fn _ a c=>match mq a,mq c with
  |(ob,b),(d,f)=>(Cp ob d,fe b f)
 |_=>([],true)
def mq:List SV->List Pd×Bool
 |[]=>([],true)
 |x::xs=>match x.mr,mq xs with
  |(ob,b),(d,f)=>(Cp ob d,fe b f)
end
def N4(a b:Bool):fe a b=(a&&b):=by cases a<;>rfl
mutual
theorem uJ:∀{x:SV},aj x.mr.1->x.den.dp=x.mr.2
 |.n ..,_|.b _,_|.u _,_|.s _,_|.c _,_|.nil,_|.hole,_|.dead,_|.bH ..,_|.ptr ..,_|.pv _,_|.abs _,_|.ix ..,_|.ob _,_=>rfl
 |.ints k true xs,_=>pd _ W
 |.ints k false xs,_=>rfl
 |.gh k xs,h=>by
  have h:=h.1;cases xs with
  |nil=>simp_all
  |cons=>rfl
 |.strs true xs,_=>pd _ W
 |.strs false xs,_=>rfl
 |.dt true xs,_=>pd _ W
 |.dt false xs,_=>rfl
 |.bm true sz d e xs,h=>by refine wo λy j=>?_;obtain⟨z,-,rfl⟩:=ab4.1 j;exact pd _ (h.1 z)
 |.bm false ..,_=>rfl
 |.row true sz xs,h=>o0
 |.row false ..,_=>rfl
 |.box true x,h=>by simp[SV.mr]at h⊢;simp[SV.den];exact uJ h
 |.box false _,_=>rfl
 |.agg xs,h=>o0
 |.de xs,h=>o0
 |.fn f a c,h=>by simp[SV.mr]at h⊢;obtain⟨i,g⟩:=sA.1 h;simp[SV.den,AV.dp,kh i,kh g,N4]
theorem kh:∀{xs:List SV},aj (mq xs).1->kG (aE xs)=(mq xs).2
 |[],_=>rfl
 |x::xs,h=>by simp[mq]at h⊢;obtain⟨i,g⟩:=sA.1 h;simp[aE,kG,uJ i,kh g,N4]
end
structure sQ where
 g:FuncId
 asx:List SV
 sh:List (Nat×Path)
def se(l:bJ)(f:Operand)(asx:L Operand):Q (L Pd×sQ):=
 (eP l f).bind λf=>(dB f).bind λ(ob,v)=>match v with
   |.fn (.func g) first a=>(iR<|fe (iG first)<|iG a).bind λ_=>(ko l asx).bind λd=>(xX d).bind λ(c,e)=>(vZ d).bind λ(b,sh)=>some (Cp ob<|Cp c b,⟨g,cat first<|cat e a,sh⟩)
   |_=>none
def Ub{f:Operand}{asx:L Operand}{ob:L Pd}{h:sQ}(hh:se l f asx=some (ob,h))(hc:aj ob):
 ID (dn l) (resolve (dn l) f) (asx.map<|resolve<|dn l)=some (h.g,aE h.asx,h.sh.map λm=>.share m.1 m.2):=by
 simp[se,abZ]at hh;let⟨x,s,e,v,r,a⟩:=hh;cases v<;>try(cases a)
 rename_i fn _ _;cases fn<;>try(cases a)
 simp only[abZ,bW,bL,ahk]at a;obtain⟨_,⟨q,p⟩,z,o,d,y,n,b,sh,j,rfl,rfl⟩:=a;let⟨w,c⟩:=sA.1 hc;let⟨u,t⟩:=sA.1 c;have i:x.den.cont=some (.fn _ _ _):=aH r w;unfold ID;rw[cS s,i];simp[ff,q,p,fJ l o,tC n u,qH j t,dA];simp[dh]
def lE(l:bJ)(a:Q Nat)(r:SV)(sh:L (Nat×Path)):qx:=
 match sh with
 |[]=>He [] l [] a r
 |(m,p)::sh=>match r.mr with
  |(ob,b)=>match b with
  |true=>He ob l [] a r
  |false=>match sh with
   |[]=>(uK l m p).bind λ(c,e)=>He (Cp ob c) e [m] a r
   |_=>none
 where He (ob:L Pd) (l:bJ) (f:L Nat):Q Nat->SV->qx
  |none,_=>some (ob,l,f)
  |some d,r=>qP l [] d r λe=>some (ob,e,cat f [d])
def Li{c:Q Nat}{r:SV}{sh:L (Nat×Path)}{ob:L Pd}{l':bJ}{n:L Nat}(h:lE l c r sh=some (ob,l',n))(hc:aj ob):
 ∃f,B6 c r.den (sh.map λm=>.share m.1 m.2)=some f/\Mv.runs (dn l) f=some (dn l')/\bA f=n:=by
 have plain:∀{a:L Pd},lE.He a l [] c r=some (ob,l',n)->∃f,some (dS c r.den [])=some f/\Mv.runs (dn l) f=some (dn l')/\bA f=n:=by
  intro a h;cases c with
  |none=>simp[lE.He]at h;obtain⟨-,rfl,rfl⟩:=h;exact⟨_,W,W,W⟩
  |some d=>simp[lE.He,iY]at h;obtain⟨-,rfl,rfl⟩:=h;exact⟨_,W,by simp[dS,Mv.runs,Mv.run,ia],gq⟩
 unfold lE at h;cases sh with
 |nil=>have:=plain h;unfold B6;simp_all
 |cons m sh=>
  obtain⟨a,b,p⟩:∃a b,r.mr=(a,b):=⟨_,_,W⟩;have j:aj a->r.den.dp=b:=λhc=>by have:=uJ (by rwa[p]);rw[this,p]
  rw[p]at h;have i:=h;cases b with
  |true=>
   have e:a=ob:=by cases c<;>simp[lE.He,iY]at i<;>exact i.1
   have:=plain i;unfold B6;simp_all
  |false=>
   cases sh with
   |cons _ _=>cases i
   |nil=>
    simp[abZ]at i;let⟨o,u,q,g⟩:=i;have e:Cp a o=ob:=by cases c<;>simp[lE.He,iY]at g<;>exact g.1
    subst e;let⟨t,s⟩:=sA.1 hc;unfold B6;rw[j t];cases c with
    |none=>simp only[lE.He]at g;obtain⟨-,rfl,rfl⟩:=g;simp[dS,Mv.runs];rw[mX q s];exact G
    |some d=>simp only[lE.He,iY]at g;obtain⟨-,rfl,rfl⟩:=g;simp[dS,Mv.runs];rw[mX q s];exact⟨by simp[Mv.run,ia],gq⟩
def Si{all:Array Oper}{a:Q Nat}{f:Operand}{asx i:Array _}{ty:TypeId}{pos:String}{c:Array Edge}{g:Q (Nat×Bool)}{K:L Mv->St->Prop}{ob b:L Pd}{h:sQ}{r:SV}{l':bJ}{j:L Nat}
 (o:dP l all.toList g=some true)(hh:se l f asx.toList=some (ob,h))(n:aj ob)(hs:aS P h.g h.asx r)(m:lE l a r h.sh=some (b,l',j))(e:aj b)(p:∀d,bA d=j->K d (dn l')):
 rP P all ⟨a,.call ⟨.value f,asx,i⟩,ty,pos,c,g⟩ (dn l) K:=by
 have key:rP P all ⟨a,.call ⟨.value f,asx,i⟩,ty,pos,c,none⟩ (dn l) K:=by rw[ac0,Ub hh n,UP];refine⟨r.den,hs,?_⟩;let⟨d,u,t,s⟩:=Li m e;simp[wR];simp_all
 cases g with
 |none=>grind
 |some q=>rw[JX,dV o];simp_all
def call{all:Array Oper}{rest:L Oper}{b:Q Nat}{f:Operand}{asx e:Array _}{ty:TypeId}{pos:String}{d:Array Edge}{g:Q (Nat×Bool)}{ob a:L Pd}{h:sQ}{r:SV}{l':bJ}{i:L Nat}
 (o:dP l all.toList g=some true)(hh:se l f asx.toList=some (ob,h))(m:aj ob)(hs:aS P h.g h.asx r)(j:lE l b r h.sh=some (a,l',i))(c:aj a)(n:AK R P N F (.ops all rest::k) l'):
 AK R P N F (.ops all (⟨b,.call ⟨.value f,asx,e⟩,ty,pos,d,g⟩::rest)::k) l:=by
 exact yP<|Si o hh m hs j c λp _=>n
def X0{all:Array Oper}{m:L Nat}{d:L (L Nat×L Nat)}{rest:L Oper}{a:Q Nat}{f:Operand}{asx j:Array _}{ty:TypeId}{pos:String}{c:Array Edge}{g:Q (Nat×Bool)}{ob b:L Pd}{h:sQ}{r:SV}{l':bJ}{n:L Nat}
 (q:dP l all.toList g=some true)(hh:se l f asx.toList=some (ob,h))(p:aj ob)(hs:aS P h.g h.asx r)(o:lE l a r h.sh=some (b,l',n))(e:aj b)
 (t:AK R P N F (.vB all m rest ((kJ (dn l) all ⟨a,.call ⟨.value f,asx,j⟩,ty,pos,c,g⟩,n)::d)::k) l'):
 AK R P N F (.vB all m (⟨a,.call ⟨.value f,asx,j⟩,ty,pos,c,g⟩::rest) d::k) l:=by
 exact yP (Si q hh p hs o e λs i=>by rwa[i])
def sl:L (Nat×SV)->bJ
 |[]=>[]
 |(i,x)::r=>(i,⟨x,0,0⟩)::sl r
def ShS(x y:SV):Prop:=y=x\/y=x.cK
def lB:L SV->L SV->Prop
 |[],ys=>ys=[]
 |x::xs,ys=>match ys with
  |[]=>False
  |y::ys=>ShS x y/\lB xs ys
def lB.refl:∀xs:L SV,lB xs xs
 |[]=>rfl
 |_::xs=>⟨.inl W,lB.refl _⟩
def lB.append:∀{xs ys us a:L SV},lB xs ys->lB us a->lB (xs++us) (ys++a)
 |[],ys,us,a,h,k=>by simp[lB]at h;grind
 |x::xs,ys,us,a,h,k=>by
  cases ys with
  |nil=>exact h.elim
  |cons y ys=>exact⟨h.1,lB.append h.2 k⟩
def LeT(x y:SV):Prop:=match x with
 |.row o sz b=>match y with
  |.bm d a _ e c=>o=d/\sz=a/\lB b (c.map e)
  |y=>aB (.row o sz b) y
 |x=>aB x y
def FQ{w:World}{S:Nat->Prop}{sz:Nat}:∀{xs ys:L SV}{l:L Value}{F:L Nat},lB xs ys->dG w S sz (aE xs) l F->
 ∃a d,F.Perm (a++d)/\∀S':Nat->Prop,(∀b,S b->S' b)->(∀b∈d,S' b)->dG w S' sz (aE ys) l a
 |[],ys,l,F,h,k=>by simp[lB]at h;subst h;exact⟨[],[],by rw[k.2];simp,λ_ _ _=>⟨k.1,W⟩⟩
 |x::xs,ys,l,F,h,k=>by
  cases ys with
  |nil=>exact h.elim
  |cons y ys=>
   obtain⟨v,l',g,p,rfl,rfl,m,j,n⟩:=k;let⟨a,d,o,i⟩:=FQ h.2 n;rcases h.1 with rfl|rfl;refine⟨g++a,d,by grind,λS' c e=>?_⟩;exact⟨v,l',g,a,W,W,m,Rel.mono c _ j,i S' c e⟩;refine⟨a,g++d,?_,λS' c e=>?_⟩
   grind
   refine⟨v,l',[],a,W,W,m,?_,i S' c λb f=>e b<|by simp[f]⟩;rw[<-gY];exact Rel.share c _ j λb f=>e b (by simp[f])
def LeT.den{x y:SV}(h:LeT x y):AP x.den y.den:=by
 cases x
 case row o sz J=>
  cases y
  case bm Y K X d e r=>
   obtain⟨rfl,rfl,h⟩:=h;have V:(SV.bm o sz d e r).den=.list (fl o) sz (aE<|r.map e):=gs
   have a:(aE J).length=(aE<|r.map e).length:=by
    have:∀{m j:L SV},lB m j->m.length=j.length:=by
     intro m
     induction m with
     |nil=>intro j h;subst h;rfl
     |cons u m M=>
      intro j h;cases j with
      |nil=>exact h.elim
      |cons v j=>simp[M h.2]
    simp[dh]at*;simpa using this h
   rw[V];intro w S v F n;cases o;rcases n with⟨g,f,c⟩|⟨b,s,i,A,T,g,f,c,q,z,t⟩;refine⟨[],[],by rw[c];simp,λB p _=>.inl ⟨?_,f,W⟩⟩
   grind
   let⟨C,H,D,O⟩:=FQ h z;rw[a]at g q;refine⟨[],[],by rw[t];simp,λB p _=>.inr ⟨b,s,i,A,T,g,p b f,c,q,?_,W⟩⟩;simp_all;rcases n with⟨g,f,c⟩|⟨b,i,A,F',g,f,c,q,z,t,rfl⟩;refine⟨[],[],by rw[c];simp,λB p _=>.inl ⟨?_,f,W⟩⟩
   grind
   let⟨C,H,D,O⟩:=FQ h t;rw[a]at g c;refine⟨b::C,H,List.Perm.cons b D,λB p Z=>.inr ⟨b,i,A,C,g,f,c,q,z,?_,W⟩⟩;simp_all
  all_goals exact AP.of_le<|aB.den h
 all_goals exact AP.of_le<|aB.den h
def Ld{b a f e d c:L Nat}(h:b.Perm (f++e))(k:a.Perm (d++c)):(b++a).Perm ((f++d)++(e++c)):=by grind
def Le{o:Bool}{sz:Nat}{xs ys:L AV}(a:xs.length=ys.length)(c:∀{w:World}{S:Nat->Prop}{l:L Value}{F:L Nat},dG w S sz xs l F->
 ∃h i,F.Perm (h++i)/\∀S':Nat->Prop,(∀b,S b->S' b)->(∀b∈i,S' b)->dG w S' sz ys l h):AP (.list (fl o) sz xs) (.list (fl o) sz ys):=by
 intro w S v F j;cases o;rcases j with⟨f,e,d⟩|⟨b,p,g,s,x,f,e,d,n,r,q⟩;refine⟨[],[],by rw[d];simp,λS' m _=>.inl ⟨?_,e,W⟩⟩
 grind
 let⟨h,i,t,u⟩:=c r;rw[a]at f n;refine⟨[],[],by rw[q];simp,λS' m _=>.inr ⟨b,p,g,s,x,f,m b e,d,n,?_,W⟩⟩;simp_all;rcases j with⟨f,e,d⟩|⟨b,g,s,z,f,e,d,n,r,q,rfl⟩;refine⟨[],[],by rw[d];simp,λS' m _=>.inl ⟨?_,e,W⟩⟩
 grind
 let⟨h,i,t,u⟩:=c q;rw[a]at f d;refine⟨b::h,i,List.Perm.cons b t,λS' m y=>.inr ⟨b,g,s,h,f,e,d,n,r,?_,W⟩⟩;simp_all
mutual
inductive AO:SV->SV->Prop
 |le {x y:SV}:aB x y->AO x y
 |shr {x y:SV}:y=x.cK->AO x y
 |row {o:Bool} {sz:Nat} {α:Type} {d:α} {e:α->SV} {xs:List SV} {ys:List α}:mS xs (ys.map e)->AO (.row o sz xs) (.bm o sz d e ys)
 |bm {o:Bool} {sz:Nat} {α a:Type} {d:α} {e:α->SV} {d':a} {e':a->SV} {xs:List α} {ys:List a}:mS (xs.map e) (ys.map e')->AO (.bm o sz d e xs) (.bm o sz d' e' ys)
 |agg {xs ys:List SV}:mS xs ys->AO (.agg xs) (.agg ys)
 |de {xs ys:List SV}:mS xs ys->AO (.de xs) (.de ys)
 |box {o:Bool} {x y:SV}:AO x y->AO (.box o x) (.box o y)
inductive mS:List SV->List SV->Prop
 |nil:mS [] []
 |cons {x y:SV} {xs ys:List SV}:AO x y->mS xs ys->mS (x::xs) (y::ys)
end
def AO.refl(x:SV):AO x x:=.le<|aB.refl x
def mS.refl:∀xs:L SV,mS xs xs
 |[]=>.nil
 |x::xs=>.cons (AO.refl x)<|mS.refl _
def mS.len:∀{xs ys:L SV},mS xs ys->(aE xs).length=(aE ys).length
 |[],_,h=>by cases h;rfl
 |x::xs,_,h=>by
  cases h with
  |cons b a=>simp[aE,mS.len a]
def mS.rep{x y:SV}(h:AO x y):∀n,mS (List.replicate n x) (List.replicate n y)
 |0=>.nil
 |n+1=>.cons h<|mS.rep h n
mutual
theorem AO.den:∀{x y:SV},AO x y->AP x.den y.den
 |_,_,.le h=>AP.of_le (aB.den h)
 |x,_,.shr h=>by subst h;rw[<-gY];exact AP.share _
 |_,_,.row (o:=o) (sz:=sz) (d:=d) (e:=e) (xs:=xs) (ys:=ys) h=>by
  have J:(SV.bm o sz d e ys).den=.list (fl o) sz (aE<|ys.map e):=gs
  rw[J];exact Le (o:=o) (sz:=sz) (mS.len h) λk=>mS.YN h k
 |_,_,.bm (o:=o) (sz:=sz) (d:=d) (e:=e) (d':=d') (e':=e') (xs:=xs) (ys:=ys) h=>by
  have J:(SV.bm o sz d' e' ys).den=.list (fl o) sz (aE<|ys.map e'):=gs
  have O:(SV.bm o sz d e xs).den=.list (fl o) sz (aE<|xs.map e):=gs
  rw[J,O];exact Le (o:=o) (sz:=sz) (mS.len h) λk=>mS.YN h k
 |_,_,.agg h=>zak
 |_,_,.de h=>zak
 |_,_,.box (o:=o) h=>by
  intro w S v F q;obtain⟨b,u,M,X,z,p,n,A,t,m⟩:=q;obtain⟨c,f,j,s⟩:=AO.den h w S z X A;cases o with
  |true=>obtain⟨m,rfl⟩:=m;exact⟨b::c,f,List.Perm.cons b j,λa g i=>⟨b,u,M,c,z,p,n,s a g i,t,m,W⟩⟩
  |false=>obtain⟨m,rfl,rfl⟩:=m;have hn:c++f=[]:=j.symm.eq_nil;simp[aia]at hn;obtain⟨rfl,rfl⟩:=hn;exact⟨[],[],I,λa g i=>⟨b,u,M,[],z,p,n,s a g i,t,g b m,W,W⟩⟩
theorem mS.YN:∀{xs ys:List SV},mS xs ys->∀{w:World}{S:Nat->Prop}{sz:Nat}{l:List Value}{F:List Nat},dG w S sz (aE xs) l F->
 ∃c f,F.Perm (c++f)/\∀a:Nat->Prop,(∀b,S b->a b)->(∀b∈f,a b)->dG w a sz (aE ys) l c
 |_,_,.nil=>λk=>by exact⟨[],[],by rw[k.2];simp,λ_ _ _=>⟨k.1,W⟩⟩
 |_,_,.cons p n=>λk=>by obtain⟨v,C,V,T,rfl,rfl,A,t,m⟩:=k;obtain⟨c,f,j,q⟩:=mS.YN n m;obtain⟨B,K,H,D⟩:=AO.den p _ _ _ _ t;exact⟨B++c,K++f,Ld H j,λa g i=>⟨v,C,B,c,W,W,A,D a g λb r=>i b<|by simp[r],q a g λb r=>i b<|by simp[r]⟩⟩
theorem mS.cells:∀{xs ys:List SV},mS xs ys->∀{w:World}{S:Nat->Prop}{one:Bool}{l:List Value}{F:List Nat},Cells w S one (aE xs) l F->
 ∃c f,F.Perm (c++f)/\∀a:Nat->Prop,(∀b,S b->a b)->(∀b∈f,a b)->Cells w a one (aE ys) l c
 |_,_,.nil=>λk=>by simp[aE,Cells]at k⊢;exact⟨[],[],by rw[k.2];simp,λ_ _ _=>⟨k.1,W⟩⟩
 |_,_,.cons p n=>λk=>by simp only[aE,Cells]at k⊢;obtain⟨v,C,V,T,rfl,rfl,A,t,m⟩:=k;obtain⟨c,f,j,q⟩:=mS.cells n m;obtain⟨B,K,H,D⟩:=AO.den p _ _ _ _ t;exact⟨B++c,K++f,Ld H j,λa g i=>⟨v,C,B,c,W,W,A,D a g λb r=>i b<|by simp[r],q a g λb r=>i b<|by simp[r]⟩⟩
end
def okB(l:bJ)(b:Bool)(r g2:Nat)(p:Path):Bool:=Hk b<|fe (Nat.beq (gt l r).g2 g2)<|match iK (gt l r).v p with|some ([],_)=>true|_=>false
def OkP(l:bJ)(b:Bool)(r g2:Nat)(p:Path):Prop:=(b=true\/(gt l r).g2=g2)/\(b=false->∃y,bM (gt l r).v.den p=some y)
def zE{l:bJ}{b:Bool}{r g2:Nat}{p:Path}(h:okB l b r g2 p=true):OkP l b r g2 p:=by
 cases b with
 |true=>exact⟨.inl W,λh=>by cases h⟩
 |false=>
  have h:fe _ (match iK (gt l r).v p with|some ([],_)=>true|_=>false)=true:=h;cases a:Nat.beq (gt l r).g2 _ with
  |false=>rw[a]at h;cases h
  |true=>rw[a]at h;refine⟨.inr<|agI a,λ_=>?_⟩;split at h;rename_i y c;exact⟨_,da c U⟩;cases h
def CY:L (Nat×Nat)->L (Nat×Nat)
 |[]=>[]
 |(r,_)::q=>(r,0)::CY q
def I3(l:bJ):L (Nat×Nat)->Bool
 |[]=>true
 |(r,a)::q=>fe (Nat.beq (gt l r).g1 a)<|I3 l q
def Gq{l:bJ}:∀{b:L (Nat×Nat)},I3 l b=true->∀q∈b,(gt l q.1).g1=q.2
 |[],_,q,d=>by cases d
 |(r,a)::c,h,q,d=>by simp[I3,bL]at h;rcases adb.1 d with rfl|d;simp_all;exact Gq h.2 q d
def I4:∀{d:L (Nat×Nat)},∀q∈CY d,q.2=0
 |[],q,b=>by simp[CY]at b
 |(r,a)::c,q,b=>by rcases adb.1 b with rfl|b;rfl;exact I4 q b
def I5{α:Type}(f:Nat->α):∀b:L (Nat×Nat),(CY b).map (λq=>f q.1)=b.map λq=>f q.1
 |[]=>rfl
 |(r,a)::c=>by simp[CY,I5 f c]
def yu(l:bJ)(x y:SV):Prop:=match x with
 |.bH r a g2 p=>y=.bH r 0 0 p/\OkP l (lN p) r g2 p/\(gt l r).g1=a
 |.ptr r a g2 p=>y=.ptr r 0 0 p/\OkP l (flat p) r g2 p/\(gt l r).g1=a
 |.abs J=>y=.abs J
 |.ix g b=>y=.ix g (CY b)/\I3 l b=true
 |_=>False
def abb(l:bJ)(x y:SV):Prop:=match x with
 |.bH r a g2 p=>y=.bH r 0 0 p/\okB l (lN p) r g2 p=true/\(gt l r).g1=a
 |.ptr r a g2 p=>y=.ptr r 0 0 p/\okB l (flat p) r g2 p=true/\(gt l r).g1=a
 |.abs J=>y=.abs J
 |.ix g b=>y=.ix g (CY b)/\I3 l b=true
 |x=>x.plain=true/\LeT x y
def Fits(l:bJ):L (Nat×SV)->Prop
 |[]=>True
 |(i,y)::r=>abb l (gt l i).v y/\Fits l r
def aB.plain{x y:SV}(h:aB x y)(a:x.plain=true):y.plain=true:=by
 cases x
 case gh=>unfold aB at h;split at h;rfl;grind
 all_goals first|(subst h;exact a)|(cases y<;>first|rfl|exact h.elim)
def LeT.plain{x y:SV}(h:LeT x y)(a:x.plain=true):y.plain=true:=by unfold LeT at h;split at h;split at h;rfl;exact h.plain a;exact h.plain a
def sS(l:bJ):L (Nat×SV)->Prop
 |[]=>True
 |(i,y)::r=>(((gt l i).v.plain=true/\y.plain=true/\AP (gt l i).v.den y.den)\/yu l (gt l i).v y)/\sS l r
def Bu:∀{l':L (Nat×SV)},sS l l'->∀i,(gt (sl l') i).v=.dead\/((gt l i).v.plain=true/\(gt (sl l') i).v.plain=true/\AP (gt l i).v.den (gt (sl l') i).v.den)\/yu l (gt l i).v (gt (sl l') i).v
 |[],_,i=>.inl W
 |(j,y)::r,h,i=>by simp[sl,gt];split;rename_i a;have:=agI a;subst this;exact .inr h.1;exact Bu h.2 i
def abb.Jj{l:bJ}{x y:SV}(h:abb l x y):(x.plain=true/\y.plain=true/\AP x.den y.den)\/yu l x y:=by unfold abb at h;split at h;exact .inr ⟨h.1,zE h.2.1,h.2.2⟩;exact .inr ⟨h.1,zE h.2.1,h.2.2⟩;exact .inr h;exact .inr h;exact .inl ⟨h.1,h.2.plain h.1,h.2.den⟩
def Fits.Jj{l:bJ}:∀{l':L (Nat×SV)},Fits l l'->sS l l'
 |[],_=>trivial
 |(_,_)::_,h=>⟨h.1.Jj,Fits.Jj h.2⟩
def aba(l:bJ)(x y:SV):Prop:=match x with
 |.bH r a g2 p=>y=.bH r 0 0 p/\okB l (lN p) r g2 p=true/\(gt l r).g1=a
 |.ptr r a g2 p=>y=.ptr r 0 0 p/\okB l (flat p) r g2 p=true/\(gt l r).g1=a
 |.abs J=>y=.abs J
 |.ix g b=>y=.ix g (CY b)/\I3 l b=true
 |x=>x.plain=true/\y.plain=true/\AO x y
def sR(l:bJ):L (Nat×SV)->Prop
 |[]=>True
 |(i,y)::r=>aba l (gt l i).v y/\sR l r
def aba.Jj{l:bJ}{x y:SV}(h:aba l x y):(x.plain=true/\y.plain=true/\AP x.den y.den)\/yu l x y:=by unfold aba at h;split at h;exact .inr ⟨h.1,zE h.2.1,h.2.2⟩;exact .inr ⟨h.1,zE h.2.1,h.2.2⟩;exact .inr h;exact .inr h;exact .inl ⟨h.1,h.2.1,h.2.2.den⟩
def sR.Jj{l:bJ}:∀{l':L (Nat×SV)},sR l l'->sS l l'
 |[],_=>trivial
 |(_,_)::_,h=>⟨h.1.Jj,sR.Jj h.2⟩
def Ka{V:Hid}{w0 w:World}{S0:Nat->Prop}{a:Act}{l':L (Nat×SV)}(Z:sS l l')(h:Inv N V w0 S0 (dn l) a w):Inv N V w0 S0 (dn<|sl l') a w:=by
 let⟨S,F,hc,hN,C,A,z,K⟩:=h
 let D:Nat->Bool:=λi=>match(gt (sl l') i).v with|.dead=>true|.bH .. =>true|.ptr .. =>true|.ix .. =>true|_=>false
 have hD:∀i,D i=true->(gt (sl l') i).v=.dead\/yu l (gt l i).v (gt (sl l') i).v:=by
  intro i hi;rcases Bu Z i with h|h|h;exact .inl h
  ·simp[D]at hi;have:=h.2.1;cases hv:(gt (sl l') i).v<;>rw[hv]at hi this<;>first|exact .inl rfl|(simp[SV.plain]at this;done)|(cases hi;done)
  exact .inr h
 have O:∀i,D i=false->((gt l i).v.plain=true/\(gt (sl l') i).v.plain=true/\AP (gt l i).v.den (gt (sl l') i).v.den)\/∃J,(gt l i).v=.abs J/\(gt (sl l') i).v=.abs J:=by
  intro i hi;rcases Bu Z i with h|h|h;simp[D,h]at hi;exact .inl h;unfold yu at h
  grind
 have H:∀i,∃p:L Nat×L Nat,(D i=true->p=([],[]))/\(D i=false->(F i).Perm (p.1++p.2)/\∀o:Nat->Prop,(∀b,S b->o b)->(∀b∈p.2,o b)->an w o (dn<|sl l') (tv V a) i p.1):=by
  intro i;cases hi:D i with
  |true=>simp
  |false=>rcases O i hi with⟨X,h3,T⟩|⟨J,X,T⟩;have d:=hc.rel i;rw[an.aC<|by rw[eB,cW];exact X]at d;let⟨F1,F2,hp,t⟩:=T _ _ _ _ d;refine⟨(F1,F2),λh=>by simp at h,λ_=>⟨hp,λo k1 k2=>?_⟩⟩;rw[an.aC<|by rw[eB,cW];exact h3];exact t o k1 k2;refine⟨(F i,[]),λh=>by simp at h,λ_=>⟨I,λo k1 _=>?_⟩⟩;have d:=hc.rel i;unfold an at d⊢;rw[eB,X]at d;rw[eB,T];exactλw2 S2 q1 q2=>d w2 S2 (λb c=>q1 b<|c.imp (k1 b) id) λb c=>q2 b<|k1 b c
 let⟨f,m⟩:=Classical.axiomOfChoice H;have m1:∀i b,b∈(f i).1->D i=false/\b∈F i:=by grind
 have y:∀i b,b∈(f i).2->D i=false/\b∈F i:=by grind
 refine⟨λb=>S b\/∃i,b∈(f i).2,λi=>(f i).1,⟨λi=>?_,λi=>?_,λi j n b c=>?_,λi b c=>?_,λb c=>?_⟩,hN,C,λb c=>.inl<|A b c,λb c=>?_,K⟩;cases hi:D i with
 |true=>
  rcases hD i hi with e|e;rw[an.aC<|by rw[eB,e];rfl];rw[eB,e,(m i).1 hi];simp[SV.den,Rel];rw[(m i).1 hi];have d:=hc.rel i;unfold yu at e;split at e;rename_i r a1 b1 p s;let⟨v,u,Y⟩:=e;unfold an at d⊢;rw[eB,s]at d;rw[eB,v];simp only[SV.den]at d⊢;let⟨k1,k2⟩:=u;exact⟨U,abX _,abX _,λ_ _ _=>d.2.2.2 Y k1 λh=>by rw[eB];exact k2 h⟩;rename_i r a1 b1 p s;let⟨v,u,Y⟩:=e;unfold an at d⊢;rw[eB,s]at d;rw[eB,v];simp only[SV.den]at d⊢;let⟨k1,k2⟩:=u;exact⟨U,abX _,abX _,d.2.2.2.1,λ_ _ _=>d.2.2.2.2 Y k1 λh=>by rw[eB];exact k2 h⟩
  grind
  rename_i g x s;let⟨v,u⟩:=e;unfold an at d⊢;rw[eB,s]at d;rw[eB,v];simp only[SV.den]at d⊢;refine⟨U,λq t=>by rw[I4 q t];exact abX _,λ_=>?_⟩;rw[d.2.2 λq t=>Gq u q t]
  congr 2
  exact(I5 (tv V a) x).symm;exact e.elim
 |false=>grind
 ·show(f i).1.Nodup;cases hi:D i with
  |true=>rw[(m i).1 hi];simp
  |false=>exact(ad4.1<|((m i).2 hi).1.nodup_iff.1<|hc.nodup i).1
 intro M;exact hc.dz i j n b (m1 i b c).2 (m1 j b M).2;have B:=hc.own i b (m1 i b c).2;refine⟨B.1,B.2.1,?_⟩;rintro(h|⟨j,hj⟩);exact B.2.2 h;by_cases n:i=j;subst n;have hn:=ad4.1<|((m i).2 (m1 i b c).1).1.nodup_iff.1<|hc.nodup i
 grind
 exact hc.dz i j n b (m1 i b c).2 (y j b hj).2;rcases c with c|⟨i,c⟩;exact hc.shr b c;exact(hc.own i b (y i b c).2).2.1;rcases c with c|⟨i,c⟩;exact z b c;exact .inr (hc.own i b (y i b c).2).1
def yq{c:Code}{Q:Exit->St->Prop}{l':L (Nat×SV)}(d:sS l l')(h:AW R P N c Q (dn<|sl l')):AW R P N c Q (dn l):=λV b f a w e hi=>h V b f a w e<|Ka d hi
def afo{c:Code}(l':L (Nat×SV))(a:Fits l l')(h:AK R P N F (.code c::k) (sl l')):AK R P N F (.code c::k) l:=yq a.Jj h
def vm{c:Code}(l':L (Nat×SV))(a:sR l l')(h:AK R P N F (.code c::k) (sl l')):AK R P N F (.code c::k) l:=yq a.Jj h
def AQ{b:Type}(a:b->L (Nat×SV))(A:b->Prop)(c:b->Nat)(y:b)(σ:St):Prop:=∃d,σ=dn d/\∃z,c z<c y/\A z/\sS d (a z)
def loop{b:Type}(a:b->L (Nat×SV))(A:b->Prop)(d:b->Nat)(x:b){c:Code}(p:A x)(r:Fits l (a x))(q:∀y,A y->AK R P N F (.code c::.inv (AQ a A d y)::k) (sl<|a y)):AK R P N F (.code (.loop c)::k) l:=by
 refine aa4 (λn g=>∃y,d y=n/\A y/\∃i,g=dn i/\sS i (a y)) ⟨x,W,p,l,W,r.Jj⟩ ?_;rintro n g⟨y,rfl,o,v,rfl,f⟩;refine kW (yq f (q y o:AW R P N c _ _)) λe j h=>?_;cases e with
 |normal=>obtain⟨m,rfl,z,u,t,s⟩:=h;exact⟨d z,u,z,W,t,m,W,s⟩
 |_=>exact h
def again{b:Type}{a:b->L (Nat×SV)}{A:b->Prop}{c:b->Nat}{y:b}(z:b)(f:c z<c y)(e:A z)(d:Fits l (a z)):AK R P N F (.inv (AQ a A c y)::k) l:=⟨l,W,z,f,e,d.Jj⟩
def kL{b:Type}{a:b->L (Nat×SV)}{A:b->Prop}{c:b->Nat}{y:b}(z:b)(f:c z<c y)(e:A z)(d:sR l (a z)):AK R P N F (.inv (AQ a A c y)::k) l:=⟨l,W,z,f,e,d.Jj⟩
def BW{b:Type}(a:b->L (Nat×SV))(A:b->Prop)(σ:St):Prop:=∃c,σ=dn c/\∃z,A z/\sS c (a z)
def cut{b:Type}(a:b->L (Nat×SV))(A:b->Prop){c d:Code}(m:AK R P N F (.code c::.inv (BW a A)::.code d::k) l)(j:∀z,A z->AK R P N F (.code d::k) (sl<|a z)):AK R P N F (.code c::.code d::k) l:=by
 refine kW (m:AW R P N c _ _) λe f h=>?_;cases e with
 |normal=>obtain⟨n,rfl,z,i,g⟩:=h;exact yq g (j z i)
 |_=>exact h
def meet{b:Type}{a:b->L (Nat×SV)}{A:b->Prop}(z:b)(d:A z)(c:Fits l (a z)):AK R P N F (.inv (BW a A)::k) l:=⟨l,W,z,d,c.Jj⟩
def afa{b:Type}{a:b->L (Nat×SV)}{A:b->Prop}(z:b)(d:A z)(c:sR l (a z)):AK R P N F (.inv (BW a A)::k) l:=⟨l,W,z,d,c.Jj⟩
end
section
variable{R:Q Nat->Prop}{P:Program}{N:Nat}{F:St->Prop}{k:L It}{l:bJ}
section
variable{dd:Code}{β1 β2 β3:Type}
def lM(c:β1->β2->L (Nat×SV))(A:β1->β2->Prop)(f:β1->β2->Nat)(e:β1)(d:β2){cc:Code}(h:A e d)(j:Fits l (c e d))
 (i:∀a b,A a b->AK R P N F (.code cc::.inv (AQ (λt:β1×β2=>c t.1 t.2) (λt:β1×β2=>A t.1 t.2) (λt:β1×β2=>f t.1 t.2) (a,b))::k) (sl<|c a b)):AK R P N F (.code (.loop cc)::k) l:=
 loop (λt:β1×β2=>c t.1 t.2) (λt:β1×β2=>A t.1 t.2) (λt:β1×β2=>f _ _) (e,d) h j λy g=>i _ _ g
def agZ(c:β1->β2->L (Nat×SV))(A:β1->β2->Prop){cc:Code}(f:AK R P N F (.code cc::.inv (BW (λt:β1×β2=>c t.1 t.2) λt:β1×β2=>A t.1 t.2)::.code dd::k) l)(e:∀a b,A a b->AK R P N F (.code dd::k) (sl<|c a b)):AK R P N F (.code cc::.code dd::k) l:=cut (λt:β1×β2=>c _ _) (λt:β1×β2=>A _ _) f λy d=>e _ _ d
def qQ(d:β1->β2->β3->L (Nat×SV))(A:β1->β2->β3->Prop)(h:β1->β2->β3->Nat)(g:β1)(f:β2)(e:β3){cc:Code}(j:A g f e)(n:Fits l (d g f e))
 (m:∀a b c,A a b c->AK R P N F (.code cc::.inv (AQ (λt:β1×β2×β3=>d t.1 t.2.1 t.2.2) (λt:β1×β2×β3=>A t.1 t.2.1 t.2.2) (λt:β1×β2×β3=>h t.1 t.2.1 t.2.2) (a,b,c))::k) (sl<|d a b c)):AK R P N F (.code (.loop cc)::k) l:=
 loop (λt:β1×β2×β3=>d t.1 t.2.1 t.2.2) (λt:β1×β2×β3=>A t.1 t.2.1 t.2.2) (λt:β1×β2×β3=>h _ _ _) (g,f,e) j n λy i=>m _ _ _ i
def afc{f:Type}(e:β1->β2->β3->f->L (Nat×SV))(A:β1->β2->β3->f->Prop)(m:β1->β2->β3->f->Nat)(j:β1)(i:β2)(h:β3)(g:f){cc:Code}(o:A j i h g)(q:Fits l (e j i h g))
 (p:∀a b c d,A a b c d->AK R P N F (.code cc::.inv (AQ (λt:β1×β2×β3×f=>e t.1 t.2.1 t.2.2.1 t.2.2.2) (λt:β1×β2×β3×f=>A t.1 t.2.1 t.2.2.1 t.2.2.2) (λt:β1×β2×β3×f=>m t.1 t.2.1 t.2.2.1 t.2.2.2) (a,b,c,d))::k) (sl<|e a b c d)):AK R P N F (.code (.loop cc)::k) l:=
 loop (λt:β1×β2×β3×f=>e t.1 t.2.1 t.2.2.1 t.2.2.2) (λt:β1×β2×β3×f=>A t.1 t.2.1 t.2.2.1 t.2.2.2) (λt:β1×β2×β3×f=>m _ _ _ _) (j,i,h,g) o q λy n=>p _ _ _ _ n
def ady(a:L (Nat×SV))(A:Prop){cc:Code}(c:AK R P N F (.code cc::.inv (BW (λ_:Unit=>a) λ_=>A)::.code dd::k) l)(b:A->AK R P N F (.code dd::k) (sl a)):AK R P N F (.code cc::.code dd::k) l:=cut _ _ c λ_ h=>b h
def eV{a:L (Nat×SV)}{A:Prop}(c:A)(b:Fits l a):AK R P N F (.inv (BW (λ_:Unit=>a) λ_=>A)::k) l:=meet () c b
end
end
section
variable{R:Q Nat->Prop}{P:Program}{N:Nat}{F:St->Prop}{k:L It}{l:bJ}
def pQ{g:Type}(a:g->L (Nat×SV))(A:g->Prop){d:Code}(b:∀z,A z->AK R P N F (.code d::k) (sl<|a z)):∀(cs:L Code)(e:Exit)(σ:St),kM R P N F (cs.map .code++.inv (BW a A)::.code d::k) e σ->kM R P N F (cs.map .code++.code d::k) e σ
 |[],e,σ,h=>by
  cases e with
  |normal=>obtain⟨m,rfl,z,j,i⟩:=h;exact yq i (b z j)
  |_=>exact h
 |c::cs,e,σ,h=>by
  cases e with
  |normal=>exact kW (h:AW R P N c _ σ) λe f h=>pQ a A b _ e f h
  |ret=>exact pQ a A b cs _ σ h
  |exit id=>exact pQ a A b cs _ σ h
  |goto id=>exact pQ a A b cs _ σ h
  |panic v=>exact pQ a A b cs _ σ h
  |outgrown=>exact pQ a A b cs _ σ h
def pC:Nat->Code->L Code×Code
 |n+1,.seq a b=>(a::(pC n b).1,(pC n b).2)
 |_,c=>([],c)
def Ew:∀(n:Nat)(c:Code)(σ:St),kM R P N F ((pC n c).1.map .code++.code (pC n c).2::k) .normal σ->kM R P N F (.code c::k) .normal σ
 |0,c,σ,h=>h
 |n+1,.seq a b,σ,h=>by
  refine X8<|kW (h:AW R P N a _ σ) λe f h=>?_;have g:∀(cs:List _)(d:Code)(e:Exit),(e=.normal->False)->kM R P N F (cs.map .code++.code d::k) e f->kM R P N F k e f:=by
   intro cs
   induction cs with
   |nil=>intro d e he h;cases e<;>first|exact abK rfl he|exact h
   |cons c cs i=>intro d e he h;exact i d e he (by cases e<;>first|exact abK rfl he|exact h)
  cases e with
  |normal=>exact Ew n b f h
  |ret=>exact g _ _ _ I h
  |exit id=>exact g _ _ _ I h
  |goto id=>exact g _ _ _ I h
  |panic v=>exact g _ _ _ I h
  |outgrown=>exact g _ _ _ I h
 |_+1,.skip,σ,h|_+1,.label _,σ,h|_+1,.region ..,σ,h|_+1,.block ..,σ,h|_+1,.scope ..,σ,h
 |_+1,.exit ..,σ,h|_+1,.ret,σ,h|_+1,.cond ..,σ,h|_+1,.loop ..,σ,h|_+1,.goto ..,σ,h|_+1,.rangeFunc ..,σ,h|_+1,.refuse ..,σ,h=>h
def Gb{b:Type}(n:Nat)(a:b->L (Nat×SV))(A:b->Prop){c:Code}(e:AK R P N F ((pC n c).1.map .code++.inv (BW a A)::.code (pC n c).2::k) l)(d:∀z,A z->AK R P N F (.code (pC n c).2::k) (sl<|a z)):AK R P N F (.code c::k) l:=Ew n c _ (pQ a A d _ _ _ e)
def cU(n:Nat)(a:L (Nat×SV))(A:Prop){c:Code}(d:AK R P N F ((pC n c).1.map .code++.inv (BW (λ_:Unit=>a) λ_=>A)::.code (pC n c).2::k) l)(b:A->AK R P N F (.code (pC n c).2::k) (sl a)):AK R P N F (.code c::k) l:=Gb n _ _ d λ_ h=>b h
def Ao{f e:Type}(n:Nat)(d:f->e->L (Nat×SV))(A:f->e->Prop){c:Code}(i:AK R P N F ((pC n c).1.map .code++.inv (BW (λt:f×e=>d t.1 t.2) λt:f×e=>A t.1 t.2)::.code (pC n c).2::k) l)(g:∀a b,A a b->AK R P N F (.code (pC n c).2::k) (sl<|d a b)):AK R P N F (.code c::k) l:=Gb n _ _ i λy h=>g _ _ h
end
section
variable{R:Q Nat->Prop}{P:Program}{N:Nat}{V:Hid}{w w0:World}{S S0:Nat->Prop}
def YZ{a:L Value}(b:N<=500)(hl:a.length<=N):tv V {tmps:=a.toArray++Array.replicate (N-a.toArray.size) undef,defers:=[]}=a7 V a:=by
 funext i
 simp only[tv,a7];by_cases hi:i<500;simp
 grind
 grind
def TF{xs:L AV}{c:L Value}{F:L Nat}(h:Cells w S false xs c F):Rel w S (uP xs) (zC c.toArray) F:=by
 generalize d:c.toArray=b;have e:c=b.toList:=by rw[<-d]
 rw[e]at h;unfold zC;have a:=Cells.length h;cases xs with
 |nil=>rw[dif_neg gn];exact⟨b,W,h⟩
 |cons x xs=>cases xs with
  |nil=>
   have f:b.size=1:=a;rw[dif_pos f];obtain⟨y,i,n,m,j,rfl,-,k5,rfl,rfl⟩:=h;have:b[0]=y:=by grind
   rw[this];simpa[uP]using k5
  |cons g xs=>rw[dif_neg<|by grind];exact⟨b,W,h⟩
def agV(Q:St->Prop):Exit->St->Prop
 |.normal,σ=>Q σ
 |.ret,σ=>Q σ
 |_,_=>False
def Jw{f:FuncId}{fn:Func}{c:Code}{H args s:L AV}{r:AV}{Q:St->Prop}(hf:P.funcs[f]?=some fn)(m:fn.body=some c)(hn:(fn.name== "runtime.NumGoroutine")=false)(H5:args.length<=fn.ntmps)(hN:fn.ntmps<=500)
 (hd:jk fn.results.toList []=true)(h:AW R0 P fn.ntmps c (agV Q) (both args H))
 (hQ:∀σ,Q σ->∀V w0 S0 a w,Inv fn.ntmps V w0 S0 σ a w->∃A,Inv fn.ntmps V w0 S0 A a w/\(∃xs,jT P A fn.results.toList=some xs/\AP (uP xs) r)/\∀(k:Nat)(y:AV),s[k]?=some y->(A<|500+k).av=y/\y.iF=true):
 KY P f H args s r:=by
 intro w S V M F hl hG hc;obtain⟨C,u⟩:∃C:Hid,C={v:=V.v,g:=V.g}:=⟨_,W⟩;have ev:C.v=V.v:=by rw[u]
 have eg:C.g=V.g:=by rw[u]
 have em:c6 C w=c6 V w:=by unfold c6;rw[eg]
 have F1:Inv fn.ntmps C w S (both args H) {tmps:=M.toArray++Array.replicate (fn.ntmps-M.toArray.size) undef,defers:=[]} w:=by
  refine⟨S,F,?_,by simp;omega,by rw[u],λ_ h=>h,λ_ h=>.inl h,mQ.refl _ _⟩;rw[YZ hN E,em];have e2:a7 C M=a7 V M:=by unfold a7;rw[ev]
  rw[e2];exact⟨hc.rel,hc.nodup,hc.dz,λi b m=>⟨.inr (hc.own i b m).1,(hc.own i b m).2⟩,hc.shr⟩
 have G2:C.rd=none:=by rw[u]
 have hh:=h C w S _ w ⟨by rw[u];rfl,hG.laid,by rw[eg];exact hG.apart⟩ F1;rw[G2]at hh;refine sT.mB hf (by rw[m];rfl) hn<|(callsIn_wide (n:=0)).1<|callsIn_of_wp_marks hf m U<|wpIn_mono hh λe O w1⟨B,h1,S1,T,ds,F3,H3,H6,F0,E2,o,hm⟩=>?_;have X:O.defers=ds:=gn;have gen:Q B->LeavesInM Fence.wide 0 P fn O.tmps (λe t=>∃Z,e=.returned Z/\∃x K,tZ V w w t/\(∀b,S b->x b)/\(∀b,x b->S b\/c6 V w b)/\aT x (c6 V w) (both [r] s) (a7 V [Z]) t K) O.defers .returning w1:=by
  intro G3;rw[X];refine tD ds w1 hm.1 (λd hd=>by obtain⟨D,k1,k2,-⟩:=hm.2 d hd;exact⟨D,k1,k2⟩) λt E1=>?_;have hi:Inv fn.ntmps {v:=V.v,g:=V.g,df:=ds} w S B O t:=by have k1:=F3.shut hm E1;have k2:=o.shut hm E1;subst u;exact⟨S1,T,k1,H3,X,F0,E2,⟨k2.os,k2.tape,k2.output,k2.size,k2.block⟩⟩
  have key:Q B->∃v,(results fn O.tmps).run P t=.ok v t/\∃Z,Ending.returned v=.returned Z/\
   ∃x K,tZ V w w t/\(∀b,S b->x b)/\(∀b,x b->S b\/c6 V w b)/\aT x (c6 V w) (both [r] s) (a7 V [Z]) t K:=by
   intro hq;let⟨A,⟨x,F,q,L0,X,G0,F4,p⟩,⟨xs,hx,G4⟩,hH⟩:=hQ B hq _ w S O t hi;let⟨M,K,k1,k2,k3,k4⟩:=tc q _ [] hd hx;have H4:∀b∈K,c6 V w b/\b<t.heap.size/\¬x b:=λb m=>by obtain⟨i,-,-,hi⟩:=k4 b m;exact q.own i b hi
   have G1:(results fn O.tmps).run P t=.ok (zC M.toArray) t:=zaT
   let⟨T,F2,hp,hq⟩:=G4 t x (zC M.toArray) K<|TF k2;have m1:∀b∈T,b∈K:=λb m=>hp.mem_iff.2 (by simp[m]);have m2:∀b∈F2,b∈K:=λb m=>hp.mem_iff.2 (by simp[m]);have hn:=ad4.1<|hp.nodup_iff.1 k3;have K0:∀k,∀b∈F (500+k),b∉K:=λk b m Y=>by obtain⟨i,-,K2,hi⟩:=k4 b Y;exact q.dz (500+k) i E b m hi
   have hr:=hq (λb=>x b\/b∈F2) (λb m=>.inl m) λb m=>.inr m;refine⟨_,G1,_,W,λb=>x b\/b∈F2,λi=>if i=0 then T else if 500<=i/\i-500<s.length then F i else[],⟨p.os,p.tape,p.output,p.size,p.block⟩,λb m=>.inl<|G0 b m,?_,?_⟩;rintro b(m|m);exact F4 b m;simp_all;have A0:∀b,x b\/b∈F2->b<t.heap.size:=by rintro b(m|m);exact q.shr b m;simp_all
   refine⟨λi=>?_,λi=>?_,λi j H1 b m=>?_,λi b m=>?_,A0⟩;by_cases h0:i=0;subst h0;simp[if_true];have p:=fT (args:=[r]) (H:=s) (i:=0) E;simp[ajP]at p;rw[an.aC<|by rw[p];exact hr.plain,p];simpa[a7]using hr;by_cases h1:i<500;have o:=fT (args:=[r]) (H:=s) h1;rw[agc<|by simp;omega]at o;rw[an.aC<|by rw[o];rfl,o];have:¬(500<=i/\i-500<s.length):=E;simp[h0,this,if_false,Rel];obtain⟨k,rfl⟩:∃k,i=500+k:=⟨i-500,E⟩;have o:=fi (args:=[r]) (H:=s) I k;by_cases hk:k<s.length;rw[ad7 hk]at o;let⟨e1,e2⟩:=hH k _<|ad7 hk;have z:=q.rel<|500+k;have H2:500<=500+k/\500+k-500<s.length:=E;simp only[h0,if_false,H2,and_self,if_true];have ht:tv V O (500+k)=a7 V [zC M.toArray] (500+k):=by simp[tv,a7];rw[abl E,abl E]
   generalize s[k]=y at*;cases y with
   |abs J=>
    unfold an at z⊢
    grind
   |bH _ _ _ _=>simp[AV.iF]at e2
   |ptr _ _ _ _=>simp[AV.iF]at e2
   |ix _ _=>simp[AV.iF]at e2
   |_=>rw[an.aC<|by rw[e1];rfl,e1]at z;rw[an.aC<|by rw[o];rfl,o,<-ht];exact Rel.mono (λb m=>.inl m) _ z
   ·rw[agc E]at o;rw[an.aC<|by rw[o];rfl,o];have:¬(500<=500+k/\500+k-500<s.length):=E;simp only[h0,this,if_false,Rel]
   show(if i=0 then T else if 500<=i/\i-500<s.length then F i else[]).Nodup;split;exact hn.1;split;exact q.nodup i;simp
   replace m:b∈if i=0 then T else if 500<=i/\i-500<s.length then F i else[]:=m
   show b∉if j=0 then T else if 500<=j/\j-500<s.length then F j else[];split at m;split;omega;split;rename_i hj;intro Y;have e:j=500+(j-500):=E
   grind
   simp;split at m;rename_i hi;split;intro Y;have e:i=500+(i-500):=E
   grind
   split;exact q.dz i j H1 b m;simp;cases m
   replace m:b∈if i=0 then T else if 500<=i/\i-500<s.length then F i else[]:=m
   split at m
   grind
   split at m;rename_i hi;have ho:=q.own i b m;refine⟨ho.1,ho.2.1,?_⟩;rintro(h|h);exact ho.2.2 h;have e:i=500+(i-500):=E
   grind
   cases m
  exact key G3
 cases e with
 |normal=>exact gen h1
 |ret=>exact gen h1
 |_=>exact h1.elim
def kg(P:Program)(f:FuncId)(H args a:L SV)(r:SV):Prop:=KY P f (aE H) (aE args) (aE a) r.den
def kg.same{P:Program}{f:FuncId}{H b asx bs a c:L SV}{r q:SV}(h:kg P f H asx a r)(i:aE H=aE b)(g:aE asx=aE bs)(e:aE a=aE c)(d:r.den=q.den):kg P f b bs c q:=by unfold kg at *;grind
def IM:∀(k:Nat)(xs:List SV)(m:bJ)(L:List (Nat×Sl)),dn m=mk L->dn (cat (Ku k xs) m)=mk (entry k (aE xs)++L)
 |_,[],m,L,h=>h
 |k,x::xs,m,L,h=>by simp[Ku,cat,gE,IM _ _ m L h];rfl
def adt(args H:L SV):bJ:=cat (Ku 0 args)<|Ku 500 H
def Xx(args H:L SV):dn (adt args H)=both (aE args) (aE H):=IM 0 _ _ _<|FP 500 H
def agK(l:bJ):Nat->L SV->Prop
 |_,[]=>True
 |k,y::ys=>((gt l k).v=y/\y.plain=true)/\agK l (k+1) ys
def M5(l:bJ):Nat->L SV->Prop
 |_,[]=>True
 |k,y::ys=>((gt l k).v=y/\y.iF=true)/\M5 l (k+1) ys
def Fe{l:bJ}:∀{ys:L SV}{k:Nat}(j:Nat){y:AV},M5 l k ys->(aE ys)[j]?=some y->(dn l<|k+j).av=y/\y.iF=true
 |[],k,j,y,_,h=>by simp[aE]at h
 |x::ys,k,j,y,hh,h=>by
  cases j with
  |zero=>simp[aE]at h;subst h;exact⟨by rw[eB,ai0,hh.1.1],by rw[nS];exact hh.1.2⟩
  |succ j=>
   have:=Fe j hh.2 h
   grind
def Yw(P:Program)(rs:L ResultVar)(r:SV)(c:L SV)(σ:St):Prop:=∃l a,σ=dn l/\sS l a/\(∃b,jT P (dn<|sl a) rs=some b/\AP (uP b) r.den)/\M5 (sl a) 500 c
variable{tt:TT}{F:St->Prop}{k:L It}{l:bJ}
def ns{f:FuncId}{fn:Func}{c:Code}{H args b:L SV}{r:SV}(m:P.funcs[f]?=some fn)(o:fn.body=some c)(hn:(fn.name== "runtime.NumGoroutine")=false)(d:Nat.ble (len args) fn.ntmps=true)(p:Nat.ble fn.ntmps 500=true)
 (n:jk fn.results.toList []=true)(h:AK R0 P fn.ntmps (Yw P fn.results.toList r b) [.code c] (adt args H)):kg P f H args b r:=by
 refine Jw (Q:=Yw P fn.results.toList r b) m o hn (by rw[bS,<-fW];simp_all) (af4 p) n ?_ ?_;rw[<-Xx];exact kW (h:AW _ P _ c _ _) λe g h=>gk
 rintro u⟨l,i,rfl,t,s,q⟩V _ _ a w hi;exact⟨dn<|sl i,Ka t hi,s,λk y j=>Fe k q j⟩
def agv(hA:dD P tt){rs:L ResultVar}{r:SV}{a:L SV}{xs:L SV}(l':L (Nat×SV))(c:sR l l')(h:pL tt (sl l') rs=some xs)(b:aB (Ei xs) r)(hh:M5 (sl l') 500 a):
 AK R P N (Yw P rs r a) [] l:=by
 refine⟨l,l',W,c.Jj,⟨_,rQ hA h,?_⟩,hh⟩;rw[Eh];exact AP.of_le b.den
def LU(x:SR):Q (Nat×SV):=
 match x.sl.v with
 |.bH r _ _ _=>some (r,x.rt.v)
 |.ptr r _ _ _=>some (r,x.rt.v)
 |y=>match y.aK with
  |true=>none
  |false=>match x.s with
   |some s=>some (s,y)
   |none=>none
def lv:L (Nat×SV)->L (Nat×AV)
 |[]=>[]
 |(r,y)::R=>(r,y.den)::lv R
def GR:L (Nat×SV)->Nat->Q Nat
 |[],_=>none
 |(r,_)::R,s=>match Nat.beq r s with
  |true=>some 0
  |false=>match GR R s with
   |some k=>some (k+1)
   |none=>none
def rS:∀(R:L (Nat×SV))(s:Nat),jU (lv R) s=GR R s
 |[],s=>rfl
 |(r,y)::R,s=>by
  simp[lv,jU,GR,rS R s];cases h:Nat.beq r s with
  |true=>simp_all
  |false=>rw[abl λe=>by simp_all];grind
def LV{x:cF}(h:x.sl.av.iF=true):ug x=if x.sl.av.aK then none else x.s.map λs=>(s,x.sl.av):=by unfold ug;cases hh:x.sl.av<;>rw[hh]at h<;>first|(simp[AV.iF]at h;done)|(dsimp only;grind)
def LS{x:SR}(h:x.sl.v.iF=true):LU x=if x.sl.v.aK then none else x.s.map λs=>(s,x.sl.v):=by unfold LU;cases hh:x.sl.v<;>rw[hh]at h<;>first|(simp[SV.iF]at h;done)|(dsimp only;grind)
def Te(x:SR):ug x.den=(LU x).map λq=>(q.1,q.2.den):=by
 cases a:x.sl.v.iF with
 |true=>rw[LS a,LV<|by rw[<-a,<-nS];rfl];have e:x.den.sl.av=x.sl.v.den:=W;have b:x.den.s=x.s:=W;rw[e,b,cO];split;rfl;cases x.s<;>rfl
 |false=>let⟨s,⟨v,g1,g2⟩,rt⟩:=x;cases v<;>first|(simp[SV.iF]at a;done)|rfl|(cases s<;>rfl)
def gV:L (Nat×SV)->L SR->L (Nat×SV)
 |R,[]=>R
 |R,x::xs=>match LU x with
  |some (r,y)=>match GR R r with
   |some _=>gV R xs
   |none=>gV (cat R [(r,y)]) xs
  |none=>gV R xs
def NL:∀(R:L (Nat×SV))(r:Nat)(y:SV),lv (cat R [(r,y)])=lv R++[(r,y.den)]
 |[],r,y=>rfl
 |(s,z)::R,r,y=>by simp[cat,lv,NL R r y]
def mZ:∀(R:L (Nat×SV))(xs:L SR),eJ (lv R) (xs.map SR.den)=lv (gV R xs)
 |R,[]=>rfl
 |R,x::xs=>by
  simp[eJ,gV,Te];cases LU x with
  |none=>exact mZ R _
  |some q=>
   simp[rS];cases GR R _ with
   |some k=>exact mZ R _
   |none=>rw[<-NL];exact mZ _ _
def Qx(R:L (Nat×SV))(x:SR):Q SV:=
 match x.sl.v with
 |.bH r g1 g2 p=>match GR R r with
  |some k=>match fe (Nat.beq x.rt.g1 g1) (Hk (lN p)<|Nat.beq x.rt.g2 g2)with
   |true=>some (.bH (500+k) 0 0 p)
   |false=>none
  |none=>none
 |.ptr r g1 g2 p=>match GR R r with
  |some k=>match fe (Nat.beq x.rt.g1 g1) (Hk (flat p)<|Nat.beq x.rt.g2 g2)with
   |true=>some (.ptr (500+k) 0 0 p)
   |false=>none
  |none=>none
 |y=>match y.aK with
  |true=>some y
  |false=>match x.s with
   |some s=>match GR R s with
    |some k=>some (.bH (500+k) 0 0 [])
    |none=>none
   |none=>none
def Qy{R:L (Nat×AV)}{x:cF}(h:x.sl.av.iF=true):w6 R x=if x.sl.av.aK then some x.sl.av else match x.s with
 |some s=>match jU R s with
  |some k=>some (.bH (500+k) 0 0 [])
  |none=>none
 |none=>none:=by
 unfold w6;cases hh:x.sl.av<;>rw[hh]at h<;>first|(simp[AV.iF]at h;done)|rfl
def Qw{R:L (Nat×SV)}{x:SR}(h:x.sl.v.iF=true):Qx R x=match x.sl.v.aK with
 |true=>some x.sl.v
 |false=>match x.s with
  |some s=>match GR R s with
   |some k=>some (.bH (500+k) 0 0 [])
   |none=>none
  |none=>none:=by
 unfold Qx;cases hh:x.sl.v<;>rw[hh]at h<;>first|(simp[SV.iF]at h)|rfl
def Yg{R:L (Nat×SV)}{x:SR}{y:SV}(h:Qx R x=some y):w6 (lv R) x.den=some y.den:=by
 cases d:x.sl.v.iF with
 |true=>
  rw[Qw d]at h;rw[Qy<|by rw[<-d,<-nS];rfl];have e:x.den.sl.av=x.sl.v.den:=W;have i:x.den.s=x.s:=W;rw[e,i,cO];split at h;simp_all;rename_i c;rw[abl<|by rw[c];simp];split at h<;>try(cases h)
  split at h<;>try(cases h;done)
  rename_i k f;cases h;simp[rS,f,SV.den]
 |false=>
  let⟨s,⟨v,g1,g2⟩,rt⟩:=x;cases v with
  |bH r a b p=>
   simp[Qx]at h;simp[w6,SR.den,Cl.den,rS];split at h<;>try(cases h)
   split at h<;>try(cases h;done)
   rename_i c;simp[bL,tW]at c;cases h;simp_all[SV.den]
  |ptr r a b p=>
   simp[Qx]at h;simp[w6,SR.den,Cl.den,rS];split at h<;>try(cases h)
   split at h<;>try(cases h;done)
   rename_i c;simp[bL,tW]at c;cases h;simp_all[SV.den]
  |ix g _=>
   simp[Qx,SV.aK]at h;simp[w6,SR.den,Cl.den,SV.den,rS,AV.aK,aim,if_false];cases s<;>simp only at h<;>try(cases h)
   split at h<;>try(cases h;done)
   rename_i f;cases h;simp[f,SV.den]
  |_=>simp[SV.iF]at d
def Gw(R:L (Nat×SV)):L SR->Q (L SV)
 |[]=>some []
 |x::xs=>match Qx R x with
  |some y=>match Gw R xs with
   |some ys=>some (y::ys)
   |none=>none
  |none=>none
def wN{R:L (Nat×SV)}:∀{xs:L SR}{ys:L SV},Gw R xs=some ys->xq (lv R) (xs.map SR.den)=some (aE ys)
 |[],ys,h=>by simp[Gw]at h;subst h;rfl
 |x::xs,ys,h=>by
  simp[Gw]at h;split at h<;>try(cases h)
  rename_i y c;split at h<;>try(cases h;done)
  rename_i b a;cases h;simp[xq,Yg c,wN a,aE]
def ra:L (Nat×SV)->L SV
 |[]=>[]
 |(_,y)::R=>y::ra R
def yH:∀(R:L (Nat×SV)),(lv R).map (·.2)=aE (ra R)
 |[]=>rfl
 |(r,y)::R=>by simp[lv,ra,aE,yH R]
def Ue:L (Nat×SV)->L Nat
 |[]=>[]
 |(r,_)::R=>r::Ue R
def oN:L SV->Bool
 |[]=>true
 |x::xs=>match x.plain with
  |true=>oN xs
  |false=>false
def jm:∀(xs:L SV),oN xs=true->pR (aE xs)=true
 |[],_=>rfl
 |x::xs,h=>by
  simp[oN]at h;split at h<;>try(cases h)
  rename_i a;simp[aE,pR,cW,a,jm _ h]
def Z4:L (Nat×SV)->Q Nat->Bool
 |_,none=>false
 |[],_=>false
 |(r,_)::R,some d=>match Nat.beq r d with
  |true=>true
  |false=>Z4 R<|some d
def zM:∀(R:L (Nat×SV))(d:Q Nat),Z4 R d=false->Mt (lv R) d=false
 |[],d,h=>by cases d<;>rfl
 |(r,y)::R,none,h=>rfl
 |(r,y)::R,some d,h=>by
  simp[Z4]at h;split at h<;>try(cases h)
  rename_i a;simp only[lv,Mt];rw[abl λe=>by subst e;simp at a,zM R _ h]
structure rF where
 g:FuncId
 asx:List SV
 R:List (Nat×SV)
def x9(l:bJ)(f:Operand)(asx:L Operand):Q (L Pd×rF):=
 (eP l f).bind λf=>(dB f).bind λ(ob,v)=>match v with
   |.fn (.func g) first a=>(iR<|fe (iG first)<|iG a).bind λ_=>(ko l asx).bind λc=>match gV [] c with
    |R=>(Gw R c).bind λb=>(iR<|Nat.ble (len first+len b+len a) 500).bind λ_=>some (ob,⟨g,cat first<|cat b a,R⟩)
   |_=>none
def ur(l:bJ):L (Nat×SV)->L SV->bJ
 |[],_=>l
 |(r,_)::R,ys=>match ys with
  |[]=>l
  |y::ys=>match gt l r with
   |⟨_,a,b⟩=>(r,⟨y,a,b+1⟩)::ur l R ys
def ky(l:bJ):∀(R:L (Nat×SV))(ys:L SV),lS (dn l) (qY (lv R)<|aE ys)=dn (ur l R ys)
 |[],ys=>rfl
 |(r,z)::R,[]=>rfl
 |(r,z)::R,y::ys=>by simp[lv,aE,qY,lS,ur,gE,ky l R _,Cl.den,CP,R4]
def mn(l:bJ)(a:Q Nat)(R:L (Nat×SV))(out:L SV)(r:SV):Q (bJ×L Nat):=
 match fe (Nat.beq (len R)<|len out) (fe (oN<|ra R)<|fe (oN out)<|fe r.plain<|not'<|Z4 R a)with
 |false=>none
 |true=>match a with
  |none=>some (ur l R out,Ue R)
  |some d=>qP (ur l R out) [] d r λb=>some (b,cat (Ue R) [d])
def pZ:∀(R:L (Nat×SV))(ys:L SV),len R=len ys->(qY (lv R)<|aE ys).map (·.1)=Ue R
 |[],ys,_=>by cases ys<;>rfl
 |(r,z)::R,[],h=>by simp[fW]at h
 |(r,z)::R,y::ys,h=>by simp[lv,aE,qY,Ue];rw[pZ R ys<|by simpa[fW]using h]
def F8(R:L (Nat×SV)):(lv R).length=R.length:=by
 induction R with
 |nil=>rfl
 |cons q R a=>simp[lv,a]
def adG{b:Q Nat}{f:Operand}{asx:L Operand}{ob:L Pd}{h:rF}{out:L SV}{r:SV}{l':bJ}{p:L Nat}(hh:x9 l f asx=some (ob,h))(u:aj ob)(e:mn l b h.R out r=some (l',p)):
 ∃n,Ai.xl b (resolve (dn l) f) (asx.map<|resolve<|dn l) (aE out) r.den=some (n,[.refs h.g (aE<|ra h.R) (aE h.asx) (aE out) r.den])/\Mv.runs (dn l) n=some (dn l')/\bA n=p:=by
 simp[x9,abZ]at hh;let⟨x,H,t,v,D,j⟩:=hh;cases v<;>try(cases j)
 rename_i fn first a
 cases fn<;>try(cases j)
 rename_i g;simp only[abZ,bW,bL,aeb]at j;obtain⟨_,⟨C,B⟩,i,s,o,A,_,z,rfl,rfl⟩:=j;have y:x.den.cont=some (.fn _ _ _):=aH D u;simp[mn]at e;split at e<;>try(cases e)
 rename_i q;simp[bL,not_iff]at q;let⟨m,X,T,O,M⟩:=q;have K:eJ [] (asx.map<|resolve<|dn l)=lv (gV [] i):=by rw[fJ l s];exact mZ [] i
 have J:xq (lv<|gV [] i) (asx.map<|resolve<|dn l)=some (aE o):=by rw[fJ l s];exact wN A
 have c:Ai.xl b (resolve (dn l) f) (asx.map<|resolve<|dn l) (aE out) r.den=some (dS b r.den [.back<|qY (lv<|gV [] i)<|aE out],[.refs g (aE<|ra<|gV [] i) (aE<|cat first<|cat o a) (aE out) r.den]):=by unfold Ai.xl;rw[cS H,y];simp only[ff,C,B,aiC,if_true,K,J,yH];rw[abx];simp[dA,dh];simp[jm _ X,jm _ T,cW,O,zM _ _ M,F8,bS,Bool.not_false,aiC,Bool.and_true,ahL,adS,decide_eq_true_eq];have:=af4 z;simp[fW]at this m;exact⟨m,this⟩
 refine⟨_,c,?_⟩;cases b with
 |none=>cases e;exact⟨pa,by simp[dS,bA,Mv.keys,ahl];exact pZ _ _ m⟩
 |some d=>simp[iY,abL,aeb]at e;obtain⟨rfl,rfl⟩:=e;exact⟨by simp[dS,ah7,ahA,Mv.runs,Mv.run,ky,ia],by simp[dS,ah7,ahA,bA,Mv.keys,ahl,dA];rw[pZ _ _ m]⟩
def Q5{all:Array Oper}{b:Q Nat}{f:Operand}{asx e:Array _}{ty:TypeId}{pos:String}{c:Array Edge}{g:Q (Nat×Bool)}{K:L Mv->St->Prop}{ob:L Pd}{h:rF}{out:L SV}{r:SV}{l':bJ}{d:L Nat}
 (n:dP l all.toList g=some true)(hh:x9 l f asx.toList=some (ob,h))(j:aj ob)(hs:kg P h.g (ra h.R) h.asx out r)(i:mn l b h.R out r=some (l',d))(m:∀a,bA a=d->K a (dn l')):
 Q7 P all ⟨b,.call ⟨.value f,asx,e⟩,ty,pos,c,g⟩ (dn l) K:=by
 let⟨a,q,p,o⟩:=adG hh j i;refine⟨.refs (aE out) r.den,a,[.refs h.g (aE<|ra h.R) (aE h.asx) (aE out) r.den],dn _,?_,?_,p,m a o⟩;unfold fQ;rwa[dV n];simp;exact hs
def UA{all:Array Oper}{rest:L Oper}{a:Q Nat}{f:Operand}{asx c:Array _}{ty:TypeId}{pos:String}{b:Array Edge}{g:Q (Nat×Bool)}{ob:L Pd}{h:rF}{out:L SV}{r:SV}{l':bJ}{d:L Nat}
 (m:dP l all.toList g=some true)(hh:x9 l f asx.toList=some (ob,h))(i:aj ob)(hs:kg P h.g (ra h.R) h.asx out r)(e:mn l a h.R out r=some (l',d))(j:AK R P N F (.ops all rest::k) l'):
 AK R P N F (.ops all (⟨a,.call ⟨.value f,asx,c⟩,ty,pos,b,g⟩::rest)::k) l:=by
 exact Q5 m hh i hs e λn _=>j
def Qq{all:Array Oper}{i:L Nat}{c:L (L Nat×L Nat)}{rest:L Oper}{a:Q Nat}{f:Operand}{asx e:Array _}{ty:TypeId}{pos:String}{b:Array Edge}{g:Q (Nat×Bool)}{ob:L Pd}{h:rF}{out:L SV}{r:SV}{l':bJ}{j:L Nat}
 (o:dP l all.toList g=some true)(hh:x9 l f asx.toList=some (ob,h))(n:aj ob)(hs:kg P h.g (ra h.R) h.asx out r)(m:mn l a h.R out r=some (l',j))
 (q:AK R P N F (.vB all i rest ((kJ (dn l) all ⟨a,.call ⟨.value f,asx,e⟩,ty,pos,b,g⟩,j)::c)::k) l'):
 AK R P N F (.vB all i (⟨a,.call ⟨.value f,asx,e⟩,ty,pos,b,g⟩::rest) c::k) l:=by
 exact Q5 o hh n hs m λp d=>by rwa[d]
def abG(tt:TT)(l:bJ)(d:Nat)(t:TypeId)(x:SR)(lo hi:Q SR):qx:=
 (slice? tt t).bind λe=>(Jl tt e).bind λti=>(dB x).bind λ(ob,v)=>(vj v).bind λ(sz,n)=>(iR<|fe (ng v)<|Nat.beq sz ti.size).bind λ_=>(Ga 0 0 v).bind λ_=>
   (rA lo 0).bind λ(f,a)=>(rA hi n).bind λ(c,b)=>(Bb x).bind λ(r,g1,_,p)=>(iR<|ne' r d).bind λ_=>dJ ((a<b)::(b<=n)::app ob (app f c)) l d (.bH r g1 (match x.sl.v with|.bH .. =>x.rt.g2|_=>x.sl.g2)<|p++[.oC sz a<|b-a])
def Np(hA:dD P tt)(d:Nat)(t:TypeId)(x:SR)(lo hi:Q SR):dN l (U5 P d t x.den (lo.map SR.den)<|hi.map SR.den) (abG tt l d t x lo hi):=by
 refine aw _ λe O=>aw _ λti M=>aw _ λ⟨ob,v⟩K=>aw _ λ⟨sz,n⟩J=>bG λh=>aw _ λz H=>aw _ λ⟨A,a⟩D=>aw _ λ⟨y,b⟩C=>aw _ λ⟨r,g1,g2,p⟩B=>bG λi=>Sn _ _ λc=>?_
 let⟨k1,k2,c⟩:=c;let⟨Z,c⟩:=aY.1 c;let⟨Y,T⟩:=aY.1 c;rw[bL,beq_iff]at h;let⟨f,X,q,o⟩:=nn J;obtain⟨u,X2,j,-⟩:=NO H;rw[q]at j;obtain⟨rfl,rfl,rfl⟩:=j;have hc:=aH K Z;rw[q,h.1]at hc;have m:=fF C T;rw[<-o]at m;have g:cF.gen x.den=match x.sl.v with|.bH .. =>x.rt.g2|_=>x.sl.g2:=za0
 unfold U5;simp only[yJ hA O,eQ hA M,hc,fl,fF D Y,m,pS,B,g];rw[abx ⟨h.2,k1,by rw[o];exact k2⟩,abl<|ne_iff.1 i]
def Kr(tt:TT)(l:bJ)(d:Nat)(t:TypeId)(x:Operand)(a b:Q Operand):qx:=(eP l x).bind λx=>(ev.JT l a).bind λa=>(ev.JT l b).bind λb=>abG tt l d t x a b
def VL(hA:dD P tt){all:Array Oper}{d:Nat}{t:TypeId}{x:Operand}{lo hi:Q Operand}{ty:TypeId}{pos:String}{c:Array Edge}{g:Q (Nat×Bool)}{K:L Mv->St->Prop}{ob:L Pd}{l':bJ}{b:L Nat}
 (n:dP l all.toList g=some true)(h:Kr tt l d t x lo hi=some (ob,l',b))(j:aj ob)(m:∀a,bA a=b->K a (dn l')):
 Q7 P all ⟨some d,.slice t x lo hi none,ty,pos,c,g⟩ (dn l) K:=by
 simp[Kr,abZ]at h;let⟨e,r,u,q,s,p,o⟩:=h;let⟨a,m1,i,f⟩:=Np hA d t e u s _ _ b o j;refine⟨.oC,a,[],dn _,?_,I,i,m a f⟩;unfold fQ;rw[dV n];simp[kZ,cS r,ED q,ED p,m1]
def agi(hA:dD P tt){all:Array Oper}{rest:L Oper}{d:Nat}{t:TypeId}{x:Operand}{lo hi:Q Operand}{ty:TypeId}{pos:String}{a:Array Edge}{g:Q (Nat×Bool)}{ob:L Pd}{l':bJ}{b:L Nat}
 (f:dP l all.toList g=some true)(h:Kr tt l d t x lo hi=some (ob,l',b))(c:aj ob)(e:AK R P N F (.ops all rest::k) l'):
 AK R P N F (.ops all (⟨some d,.slice t x lo hi none,ty,pos,a,g⟩::rest)::k) l:=by
 exact VL hA f h c λi _=>e
def s8{c:Code}{r:Nat}{p:Path}{ob:L Pd}{l':bJ}(A:(gt l r).v.plain=true)(h:uK l r p=some (ob,l'))(o:aj ob)(q:AK R P N F (.code c::k) l'):AK R P N F (.code c::k) l:=by intro V w0 S0 a w t hi;refine q V _ _ a w t ?_;have e:=mX h o;simp[Mv.run]at e;split at e;rename_i y s;split at e;rename_i x hs;simp at e;rw[<-e];let⟨S,F,hc,u,m,j,i,n⟩:=hi;let⟨d,z,B,C,k1,k2,k3,k4,k5⟩:=hc.share r p (by rwa[eB,cW]) s hs;exact⟨_,_,k4,u,m,λb f=>.inl<|j b f,λb f=>f.elim (i b) λf=>.inr<|(λb f=>(hc.own r b<|k5 b f).1) b f,n⟩;cases e;cases e
def aes{c:Code}{d r g1 g2:Nat}{p:Path}{y:SV}{ob:L Pd}{l':bJ}(O:(gt l d).v=.bH r g1 g2 p){i:L Pd}{m:SV}{q:SR}(hp:(gt l r).v.plain=true)(H:eP l (.tmp d)=some q)(B:dB q=some (i,m))(u:aj i)
 (h:D7 l r d p=some (ob,y,l'))(J:aj ob)(K:AK R P N F (.code c::k) l'):AK R P N F (.code c::k) l:=by
 intro V w0 S0 a w T hi;refine K V w0 S0 a w T ?_;have g:=AU h J;simp only[Mv.run]at g;split at g;cases g;rename_i x;split at g;rename_i D M;split at g;rename_i Y hs;let⟨S,F,hc,X,A,t,o,C⟩:=hi;have j:(dn l d).av=.bH r g1 g2 p:=by rw[eB,O];rfl
 obtain⟨b,z,F2,Z,k1,k2,k3,k4,-⟩:=hc.take r d p x (by rwa[eB,cW]) M hs;have f:(resolve (dn l)<|.tmp d).cont=some m.den:=by rw[cS H];exact aH B u
 have n:D=m.den:=by have:=(Ap j f).1;simp_all
 have hz:=DW hc j f k1 k2 (n▸k3);refine⟨S,Z,?_,X,A,t,o,C⟩;have:jg _ d _=tv V a:=funext λs=>by by_cases e:s=d;subst e;rw[aG];rw[ar _ _ e]
 simp_all;cases g;cases g
end
section
variable{R:Q Nat->Prop}{P:Program}{N:Nat}{F:St->Prop}{k:L It}{l:bJ}
section
variable{aft:Array Edge}{ts:Array _}{b:Bool}{K:L Mv->St->Prop}{ks:L Nat}{f:Operand}{g:Q (Nat×Bool)}{J':sV}{r:SV}{l':bJ}
def yc:L SR->Q (L Pd×L SV)
 |[]=>some ([],[])
 |x::xs=>(dB x).bind λ(ob,y)=>(iR y.aK).bind λ_=>(yc xs).bind λ(a,ys)=>some (app ob a,y::ys)
def tN:∀{xs:L SR}{ob:L Pd}{ys:L SV},yc xs=some (ob,ys)->aj ob->um (xs.map SR.den)=some (aE ys)
 |[],ob,ys,h,_=>by obtain⟨rfl,rfl⟩:=h;rfl
 |x::xs,ob,ys,h,hc=>by simp only[yc,abZ,bW,ahk]at h;obtain⟨d,y,j,_,i,c,a,e,rfl,rfl⟩:=h;let⟨n,m⟩:=aY.1 hc;simp[um,aH j n,cO,i,tN e m,aE]
structure YA where
 C:Value->Prop
 J:sV
 asx:List SV
def Xc(l:bJ)(f:Operand)(asx:L Operand):Q (L Pd×YA):=
 (eP l f).bind λx=>match x.sl.v with
   |.pv C=>match(gt l 500).v with
    |.abs J=>(ko l asx).bind λc=>(yc c).bind λ(ob,a)=>some (ob,⟨C,J,a⟩)
    |_=>none
   |_=>none
def abd(l:bJ)(a:Q Nat)(J':sV)(b:Bool):Q (bJ×L Nat):=
 match a with
 |none=>some (ur l [(500,.dead)] [.abs J'],[500])
 |some d=>qP (ur l [(500,.dead)] [.abs J']) [] d (.u b) λl'=>some (l',[500,d])
def acw{all:Array Oper}{a:Q Nat}{asx:Array _}{ty:TypeId}{pos:String}{ob:L Pd}{h:YA}
 (t:dP l all.toList g=some true)(hh:Xc l f asx.toList=some (ob,h))(q:aj ob)(hs:∀v,h.C v->Yields P h.J J' (aE h.asx) b v)(m:abd l a J' b=some (l',ks))(s:∀j,bA j=ks->K j (dn l')):
 Q7 P all ⟨a,.call ⟨.value f,asx,ts⟩,ty,pos,aft,g⟩ (dn l) K:=by
 simp[Xc,abZ]at hh;let⟨x,A,c⟩:=hh;split at c<;>try(cases c)
 rename_i C w;split at c<;>try(cases c)
 rename_i J u;simp[abZ]at c;obtain⟨M,z,p,i,y,rfl,rfl⟩:=c;have H:(resolve (dn l) f).sl.av=.pv C:=by rw[cS A];show x.sl.v.den=_;rw[w];rfl
 have D:(dn l 500).av=.abs J:=by rw[eB,u];rfl
 have B:um (asx.toList.map<|resolve<|dn l)=some (aE i):=by rw[fJ l z];exact tN y q
 have o:lS _ [(500,.abs J')]=dn _:=ky l [(500,.dead)] [.abs J'];have n:kZ P (dn l) ⟨a,.call ⟨.value f,asx,ts⟩,ty,pos,aft,g⟩ (.U0 J' b)=some (dS a (.v<|.bool b) [.back [(500,.abs J')]],[.U0 C J J' (aE i) b]):=by simp[kZ,H,D,B]
 have e:Mv.runs (dn l) (dS a (.v<|.bool b) [.back [(500,.abs J')]])=some (dn l')/\bA (dS a (.v<|.bool b) [.back [(500,AV.abs J')]])=ks:=by
  cases a with
  |none=>obtain⟨rfl,rfl⟩:=m;exact⟨by simp[dS,Mv.runs,Mv.run,o],gq⟩
  |some d=>obtain⟨rfl,rfl⟩:=m;refine⟨?_,gq⟩;have:=ia (ur l [(500,.dead)] [.abs J']) [] d<|.u b;simp only[dS,ah7,Mv.runs,Mv.run,o];exact aal _ this
 refine⟨.U0 J' b,_,[.U0 C J J' (aE i) b],dn l',?_,?_,e.1,s _ e.2⟩;unfold fQ;rwa[dV t];simp;exact hs
def U1{all:Array Oper}{rest:L Oper}{a:Q Nat}{asx:Array _}{ty:TypeId}{pos:String}{ob:L Pd}{h:YA}
 (i:dP l all.toList g=some true)(hh:Xc l f asx.toList=some (ob,h))(d:aj ob)(hs:∀v,h.C v->Yields P h.J J' (aE h.asx) b v)(c:abd l a J' b=some (l',ks))(e:AK R P N F (.ops all rest::k) l'):
 AK R P N F (.ops all (⟨a,.call ⟨.value f,asx,ts⟩,ty,pos,aft,g⟩::rest)::k) l:=by
 exact acw i hh d hs c λj _=>e
structure YB where
 g:FuncId
 C:Value->Prop
 J:sV
 asx:List SV
def Xd(l:bJ)(f:Operand)(asx:L Operand):Q (L Pd×YB):=
 match asx with
 |[]=>none
 |x::d=>(eP l x).bind λz=>match z.sl.v with
  |.pv C=>(eP l f).bind λq=>(dB q).bind λ(a,y)=>match y with
   |.fn (.func g) [] []=>match(gt l 500).v with
    |.abs J=>(ko l d).bind λe=>(yc e).bind λ(ob,c)=>some (app a ob,⟨g,C,J,c⟩)
    |_=>none
   |_=>none
  |_=>none
def Vk(l:bJ)(a:Q Nat)(J':sV)(r:SV):Q (bJ×L Nat):=
 match a with
 |none=>some (ur l [(500,.dead)] [.abs J'],[500])
 |some d=>qP (ur l [(500,.dead)] [.abs J']) [] d r λl'=>some (l',[500,d])
def acz{all:Array Oper}{a:Q Nat}{asx:Array _}{ty:TypeId}{pos:String}{ob:L Pd}{h:YB}
 (D:dP l all.toList g=some true)(hh:Xd l f asx.toList=some (ob,h))(A:aj ob)(hs:UQ P h.g h.C h.J J' (aE h.asx) r.den)(m:Vk l a J' r=some (l',ks))(B:∀p,bA p=ks->K p (dn l')):
 Q7 P all ⟨a,.call ⟨.value f,asx,ts⟩,ty,pos,aft,g⟩ (dn l) K:=by
 unfold Xd at hh;split at hh<;>try(cases hh)
 rename_i x u e;simp[abZ]at hh;let⟨z,X,c⟩:=hh;split at c<;>try(cases c)
 rename_i C M;simp[abZ,ahk]at c;let⟨q,S,v,y,O,c⟩:=c;split at c<;>try(cases c)
 rename_i n;split at c<;>try(cases c)
 rename_i J H;simp[abZ,ahk,abL,aeb]at c;obtain⟨us,V,w,j,T,rfl,rfl⟩:=c;let⟨c1,c2⟩:=aY.1 A;have e1:(resolve (dn l) x).sl.av=.pv C:=by rw[cS X];show z.sl.v.den=_;rw[M];rfl
 have e2:(dn l 500).av=.abs J:=by rw[eB,H];rfl
 have Z:um (u.map<|resolve<|dn l)=some (aE j):=by rw[fJ l V];exact tN T c2
 have Y:(resolve (dn l) f).cont=some (.fn (.func n) [] []):=by rw[cS S];exact aH O c1
 have t:lS (dn l) [(500,.abs J')]=dn (ur l [(500,.dead)] [.abs J']):=ky l [(500,.dead)] [.abs J'];have s:kZ P (dn l) ⟨a,.call ⟨.value f,asx,ts⟩,ty,pos,aft,g⟩ (.WH J' r.den)=some (dS a r.den [.back [(500,.abs J')]],[.WH n C J J' (aE j) r.den]):=by simp[kZ,e,e1,e2,Z,Y]
 have i:Mv.runs (dn l) (dS a r.den [.back [(500,.abs J')]])=some (dn l')/\bA (dS a r.den [.back [(500,AV.abs J')]])=ks:=by
  cases a with
  |none=>obtain⟨rfl,rfl⟩:=m;exact⟨by simp[dS,Mv.runs,Mv.run,t],gq⟩
  |some d=>simp[Vk,iY,abL,aeb]at m;obtain⟨rfl,rfl⟩:=m;refine⟨?_,gq⟩;have:=ia (ur l [(500,.dead)] [.abs J']) [] d r;simp only[dS,ah7,ahA,Mv.runs,Mv.run,t];simp_all
 refine⟨.WH J' r.den,_,[.WH n C J J' (aE j) r.den],dn l',?_,?_,i.1,B _ i.2⟩;unfold fQ;rwa[dV (o:=⟨a,.call ⟨.value f,asx,ts⟩,ty,pos,aft,g⟩) D];simp[ah9,forall_eq,Ob.ok];exact hs
def Il{all:Array Oper}{rest:L Oper}{a:Q Nat}{asx:Array _}{ty:TypeId}{pos:String}{ob:L Pd}{h:YB}
 (i:dP l all.toList g=some true)(hh:Xd l f asx.toList=some (ob,h))(d:aj ob)(hs:UQ P h.g h.C h.J J' (aE h.asx) r.den)(c:Vk l a J' r=some (l',ks))(e:AK R P N F (.ops all rest::k) l'):
 AK R P N F (.ops all (⟨a,.call ⟨.value f,asx,ts⟩,ty,pos,aft,g⟩::rest)::k) l:=by
 exact acz i hh d hs c λj _=>e
end
end
section
variable{v:AV}{F:L Nat}{S:Nat->Prop}{T:Nat->Value}{y:Value}{w:World}
def nT{f:Nat->L Nat}:∀n,((List.range n).flatMap f).Nodup↔(∀j,j<n->(f j).Nodup)/\∀i j,i<n->j<n->i≠j->∀c∈f i,c∉f j
 |0=>I
 |n+1=>by
  rw[ahs,ai6,ad4,nT n];have e:[n].flatMap f=f n:=I;rw[e];constructor;rintro⟨⟨g,h⟩,m,k⟩;have l:=λj b c hc a=>k c (af2.2 ⟨j,aec.2 b,hc⟩) c a W;refine⟨λj b=>?_,λi j hi b d c hc a=>?_⟩
  grind
  grind
  rintro⟨g,h⟩;refine⟨⟨λj b=>g j E,λi j hi b d=>h i j E E d⟩,g n E,λc hc o a e=>?_⟩
  grind
def wQ(fn:FuncId)(tmps:Array Value)(ps:Array Tmp)(assign body:Code)(D:Nat)(pe:Q Code):Loop:={state:=if pe.isNone then .ready else .done,pending:=pe,fn,tmps,params:=ps,assign,body,defers:=D}
def vV(w:World)(S:Nat->Prop)(v:AV)(y:Value)(F:L Nat):Prop:=match v with
 |.abs J=>sV.here J w S F
 |v=>Rel w S v y F
def vV.iF(h:vV w S v y F):v.iF=true:=by cases v<;>first|rfl|exact Rel.plain h
def vV.frame{w':World}(h:vV w S v y F)(c:∀b,S b\/b∈F->w'.heap[b]?=w.heap[b]?):vV w' S v y F:=by cases v<;>first|exact Rel.frame _ h c|exactλd g f e=>h d g (λb a=>(f b a).trans<|c b a) e
def vV.mono{S':Nat->Prop}(c:∀b,S b->S' b)(h:vV w S v y F):vV w S' v y F:=by cases v<;>first|exact Rel.mono c _ h|exactλd i f e=>h d i (λb a=>f b<|a.imp (c b) id) λb g=>e b<|c b g
def an.ofX{σ:St}{i:Nat}(a:(σ i).av.iF=true):an w S σ T i F↔vV w S (σ i).av (T i) F:=by unfold an;cases h:(σ i).av<;>rw[h]at a<;>first|(cases a;done)|exact Iff.rfl
def Jr(cs:L (AV×Value))(ex:L Nat)(T:Nat->Value)(l D:Nat)(r:Q Code->Loop)(pe:Q Code)(y:L AV):sV:=λw S F=>
 ∃a:Nat->L Nat,F.Perm (D::l::(List.range ex.length).flatMap a)/\(∀(j:Nat)(v:AV),y[j]?=some v->j<ex.length->vV w S v (T<|ex.getD j 0) (a j))/\
  (∀q∈cs,Rel w S q.1 q.2 [])/\w.heap[l]?=some (.loop<|r pe)/\w.heap[D]?=some (.deferred<|some [])
def Jr.closed{cs:L (AV×Value)}{ex:L Nat}{l D:Nat}{r:Q Code->Loop}{pe:Q Code}{y:L AV}(h:Jr cs ex T l D r pe y w S F):sV.here (Jr cs ex T l D r pe y) w S F:=by
 intro p t g f;let⟨i,e,m,d,hl,s⟩:=h;have hm:∀c,c∈F↔c∈D::l::(List.range _).flatMap i:=λc=>e.mem_iff;refine⟨i,e,λj v k o=>?_,λq n=>Rel.mono f _<|Rel.frame _ (d q n) λb a=>g b<|.inl<|ci,?_,?_⟩;refine vV.mono f<|vV.frame (m j v k o) λb a=>g b<|a.imp id λa=>(hm b).2 ?_
 grind
 simp_all;simp_all
def afD(y':L AV)(b:Bool)(a:Q Code):Exit->St->Prop:=λe c=>
 (match e with
   |.normal=>b=true/\a=none
   |.ret=>b=false/\a=some .ret
   |.exit id=>b=false/\a=some (.exit id)
   |_=>False)/\∀(j:Nat)(v:AV),y'[j]?=some v->(c<|500+j).av=v/\v.iF=true
end
section
variable{P:Program}{N:Nat}
def aT.aca{S B:Nat->Prop}{σ:St}{T:Nat->Value}{w w':World}{F:Nat->L Nat}(h:aT S B σ T w F)(hs:w'.heap.size=w.heap.size)(c:∀b,(S b\/∃i,b∈F i)->w'.heap[b]?=w.heap[b]?):aT S B σ T w' F:=
 h.step ⟨λ_=>.refl,λ_=>.refl,λ_ _=>rfl,λ_ _ _=>⟨λ_ y d=>⟨y,d⟩,λb a=>c b<|a.imp id λa=>⟨_,a⟩⟩⟩ (λ_ h=>h)
  (λi=>.inl ⟨W,W,W,λb a=>c b<|a.imp id λa=>⟨i,a⟩⟩) h.nodup h.dz (λi b a=>by rw[hs];exact h.own i b a) (λb a=>by rw[hs];exact h.shr b a)
def JG(hN:N<=500){fn:FuncId}{tmps:Array Value}{ps:Array Tmp}{assign body:Code}{l D:Nat}{cs:L (AV×Value)}{ex:L Nat}{T:Nat->Value}{y y' x:L AV}{b:Bool}{jump:Q Code}{σB:St}
 (ht:tmps.size=N)(hx:x.length=ps.size)(hy':y'.length=ex.length)
 (hstart:∀(w:World)(S:Nat->Prop)(FF:Nat->L Nat)(vs:L Value)(V:Hid),(∀q∈cs,Rel w S q.1 q.2 [])->(∀(j:Nat)(v:AV),y[j]?=some v->j<ex.length->vV w S v (T<|ex.getD j 0) (FF j))->
   (∀j,j<ex.length->(FF j).Nodup)->(∀i j,i<ex.length->j<ex.length->i≠j->∀c∈FF i,c∉FF j)->(∀j,j<ex.length->∀c∈FF j,c<w.heap.size/\¬S c)->(∀c,S c->c<w.heap.size)->Cells w S false x vs []->
   V.v=(λi=>T<|ex.getD (i-500) 0)->(∀j,j<ex.length->∀c∈FF j,V.g c)->
   aT S (c6 V w) σB (tv V {tmps:=(ps.zip vs.toArray).foldl (λtmps(t,a)=>tmps.setIfInBounds t a) tmps,defers:=[]}) w λi=>if 500<=i/\i-500<ex.length then FF (i-500)else[])
 (hcode:AW R1 P N assign (λe σ1=>e=.normal/\AW R1 P N body (afD y' b jump) σ1) σB):
 Yields P (Jr cs ex T l D (wQ fn tmps ps assign body D) none y) (Jr cs ex T l D (wQ fn tmps ps assign body D) jump y') x b (.func (.yield l) #[] #[]):=by
 refine⟨l,W,λrd w S F vs hLd hNT hJ hnd hF hS hargs=>?_⟩;let⟨FF,hp,hrel,hcs,hl,hD⟩:=hJ w S (λ_ _=>rfl) λ_ h=>h;have hm:∀c,c∈F↔c∈D::l::(List.range ex.length).flatMap FF:=λc=>hp.mem_iff;have hnd2:=hp.nodup_iff.1 hnd;let⟨hD1,hnd3⟩:=af6.1 hnd2;let⟨hl1,hnd4⟩:=af6.1 hnd3;have hlD:l≠D:=λe=>hD1 (by simp[e]);have hin:∀j,j<ex.length->∀c∈FF j,c∈(List.range ex.length).flatMap FF:=λj hj c hc=>af2.2 ⟨j,aec.2 hj,hc⟩;have hlF:l∈F:=(hm l).2 I;have hDF:D∈F:=(hm D).2 I;have hFF:∀j,j<ex.length->∀c∈FF j,c∈F:=λj hj c hc=>(hm c).2 (by grind);have hvl:=Cells.length hargs;refine⟨_,_,_,_,run_yield hl<|by show vs.toArray.size=ps.size;simp;omega,roundIn_of_wpIn U ?_⟩;obtain⟨a1,ha1⟩:∃a1:Act,a1={tmps:=(ps.zip vs.toArray).foldl (λtmps(t,a)=>tmps.setIfInBounds t a) tmps,defers:=[]}:=⟨_,W⟩;obtain⟨VB,hVB⟩:∃VB:Hid,VB={v:=λi=>T<|ex.getD (i-500) 0,g:=λc=>∃j,j<ex.length/\c∈FF j,rd:=some l,df:=[]}:=⟨_,W⟩;have hg:∀c,VB.g c->c∈F/\c∈(List.range ex.length).flatMap FF:=by simp_all
 have hgl:¬VB.g l:=λh=>hl1 (hg l h).2;have hgD:¬VB.g D:=λh=>hD1 (by simp[(hg D h).2]);let⟨hnodj,hdisj⟩:=(nT ex.length).1 hnd4;have hcore:=hstart w S FF vs VB hcs hrel hnodj hdisj (λj hj c hc=>hF c<|hFF j hj c hc) hS hargs (by rw[hVB]) (λj hj c hc=>by rw[hVB];exact⟨j,hj,hc⟩);rw[<-ha1]at hcore;have hsz1:a1.tmps.size=N:=by
  rw[ha1];rw[<-ht];have:∀(q:L (Tmp×Value))(t:Array Value),(q.foldl (λtmps p=>tmps.setIfInBounds p.1 p.2) t).size=t.size:=zaw
  rw[<-ajp];exact this _ tmps
 have hinv:Inv N VB w S σB a1 w:=⟨S,_,hcore,hsz1,by rw[ha1,hVB],λ_ h=>h,λ_ h=>.inl h,mQ.refl _ _⟩;have hrd:VB.rd=some l:=by rw[hVB]
 have hA:=hcode VB w S a1 w ⟨U,hLd,hNT.mono λb hb=>(hg b hb).1⟩ hinv;rw[hrd,ha1]at hA;refine wpIn_mono hA ?_;rintro e a2 w2⟨σ1,⟨rfl,h1⟩,S2,F2,ds2,hc2,hN2,hdf2,hs1,hs2,hk2,hm2⟩;have hlw:l<w.heap.size:=(ahP.1 hl).1;have hDw:D<w.heap.size:=(ahP.1 hD).1;have hno:∀c,c<w.heap.size->¬VB.g c->¬c6 VB w c:=λc h h' hh=>hh.elim (λhh=>E) h';have hl2:w2.heap[l]?=some (.loop<|wQ fn tmps ps assign body D none):=by rw[hk2.block l hlw hgl];exact hl
 have hlS2:¬S2 l:=λh=>(hs2 l h).elim (hF l hlF).2<|hno l hlw hgl;have hlF2:∀i,l∉F2 i:=λi h=>hno l hlw hgl (hc2.own i l h).1;have hlw2:l<w2.heap.size:=(ahP.1 hl2).1;refine⟨_,run_beginRound hl2<|by simp[wQ],?_⟩;obtain⟨w3,hw3⟩:∃w3,w3=w2.putObj l (.loop {wQ fn tmps ps assign body D none with state:=.busy}):=⟨_,W⟩;rw[<-hw3];have h3s:w3.heap.size=w2.heap.size:=gn;have h3o:∀k,k≠l->w3.heap[k]?=w2.heap[k]?:=λk hk=>by rw[hw3];exact World.putObj_heap_other hk
 have h3l:w3.heap[l]?=some (.loop {wQ fn tmps ps assign body D none with state:=.busy}):=by rw[hw3];exact World.putObj_heap_same hlw2
 have hc3:=hc2.aca h3s λb hb=>h3o b λe=>by grind
 obtain⟨V2,hV2⟩:∃V2,V2=VB.Yi F2 a2.defers:=⟨_,W⟩;have hi3:Inv N V2 w3 S2 σ1 a2 w3:=by rw[hV2];exact⟨S2,F2,⟨hc3.rel,hc3.nodup,hc3.dz,λi b hb=>⟨.inr ⟨i,hb⟩,(hc3.own i b hb).2⟩,hc3.shr⟩,hN2,W,λ_ h=>h,λ_ h=>.inl h,mQ.refl _ _⟩
 have hg2:∀c,V2.g c->VB.g c\/w.heap.size<=c:=by rw[hV2];rintro c⟨i,h⟩;exact(hc2.own i c h).1.symm
 have hsz2:=hk2.size;have hno2:∀c,c<w.heap.size->¬VB.g c->¬c6 V2 w3 c:=by
  intro c h h' hh;rcases hh with hh|hh;omega
  grind
 have hrd2:V2.rd=some l:=by rw[hV2];exact hrd
 have hL3:lW P V2 w3:=by have hLB:lW P VB w:=⟨hLd,hNT.mono λb hb=>(hg b hb).1⟩;refine⟨(hLB.MN hk2).same λg hn _=>h3o g λe=>hNT g hn<|by subst e;exact hlF,λg hn hb=>?_⟩;rcases hg2 g hb with hb|hb;exact hLB.apart g hn hb;have:=hLd.lt hn;omega
 have hB:=h1 V2 w3 S2 a2 w3 ⟨U,hL3⟩ hi3;rw[hrd2]at hB;refine wpIn_mono hB ?_;rintro e a3 w4⟨σ2,⟨he,hy2⟩,S4,F4,ds4,hc4,hN4,hdf4,hs3,hs4,hk4,hm4⟩;have hsz4:=hk4.size;have hl4:w4.heap[l]?=some (.loop {wQ fn tmps ps assign body D none with state:=.busy}):=by rw[hk4.block l E λh=>hno2 l hlw hgl<|.inr h];exact h3l
 have hlw4:l<w4.heap.size:=(ahP.1 hl4).1;have hlS4:¬S4 l:=λh=>(hs4 l h).elim hlS2<|hno2 l hlw hgl;have hlF4:∀i,l∉F4 i:=λi h=>hno2 l hlw hgl (hc4.own i l h).1;have hDS2:¬S2 D:=λh=>(hs2 D h).elim (hF D hDF).2<|hno D hDw hgD;have hDS4:¬S4 D:=λh=>(hs4 D h).elim hDS2<|hno2 D hDw hgD;have hDF4:∀i,D∉F4 i:=λi h=>hno2 D hDw hgD (hc4.own i D h).1;obtain⟨w5,hw5⟩:∃w5,w5=w4.putObj l (.loop<|wQ fn tmps ps assign body D jump):=⟨_,W⟩;have h5s:w5.heap.size=w4.heap.size:=by rw[hw5];simp[World.putObj]
 have h5o:∀k,k≠l->w5.heap[k]?=w4.heap[k]?:=λk hk=>by rw[hw5];exact World.putObj_heap_other hk
 have h5l:w5.heap[l]?=some (.loop<|wQ fn tmps ps assign body D jump):=by rw[hw5];exact World.putObj_heap_same hlw4
 have hold:∀k,k<w.heap.size->¬VB.g k->k≠l->w5.heap[k]?=w.heap[k]?:=by intro k hk hgk hkl;rw[h5o k hkl,hk4.block k E λh=>hno2 k hk hgk<|.inr h,h3o k hkl,hk2.block k hk hgk]
 have hend:(Instr.endRound l jump).run P w4=.ok (.bool jump.isNone) w5:=by rw[run_endRound jump hl4,hw5];rfl
 have hpost:∃S' F',w5.os=w.os/\w5.tape=w.tape/\w5.output=w.output/\w.heap.size<=w5.heap.size/\(∀k,k<w.heap.size->k∉F->w5.heap[k]?=w.heap[k]?)/\
  (∀c,S c->S' c)/\(∀c,S' c->S c\/w.heap.size<=c\/c∈F)/\(∀c,S' c->c<w5.heap.size)/\sV.here (Jr cs ex T l D (wQ fn tmps ps assign body D) jump y') w5 S' F'/\F'.Nodup/\∀c∈F',(w.heap.size<=c\/c∈F)/\c<w5.heap.size/\¬S' c:=by
  have hmine:∀c,c6 V2 w3 c->w.heap.size<=c\/c∈F:=by grind
  refine⟨S4,D::l::(List.range ex.length).flatMap λj=>F4<|500+j,?_,?_,?_,E,λk hk hkF=>hold k hk (λh=>hkF (hg k h).1) λe=>hkF<|by rw[e];exact hlF,λc hc=>hs3 c<|hs1 c hc,λc hc=>?_,λc hc=>?_,Jr.closed ⟨λj=>F4<|500+j,List.Perm.refl _,λj v hv hj=>?_,λq hq=>?_,h5l,?_⟩,?_,?_⟩;rw[hw5];show w4.os=_;rw[hk4.os,hw3];exact hk2.os;rw[hw5];show w4.tape=_;rw[hk4.tape,hw3];exact hk2.tape;rw[hw5];show w4.output=_;rw[hk4.output,hw3];exact hk2.output
  grind
  rw[h5s];exact hc4.shr c hc;let⟨e1,e2⟩:=hy2 j v hv;have hr:=hc4.rel<|500+j;rw[an.ofX<|by rw[e1];exact e2,e1]at hr;have hT:tv V2 a3 (500+j)=T (ex.getD j 0):=by unfold tv;rw[abl E,hV2];show VB.v (500+j)=_;rw[hVB];simp
  rw[hT]at hr;exact vV.frame hr λb hb=>h5o b (λe=>by grind);refine Rel.mono (λc hc=>hs3 c<|hs1 c hc) _<|Rel.frame _ (hcs q hq) λb hb=>?_
  grind
  grind
  refine af6.2 ⟨λh=>?_,af6.2 ⟨λh=>?_,(nT _).2 ⟨λj _=>hc4.nodup _,λi j _ _ hij=>hc4.dz _ _ E⟩⟩⟩
  grind
  grind
  intro c hc;rcases adb.1 hc with rfl|hc
  grind
  rcases adb.1 hc with rfl|hc
  grind
  obtain⟨j,-,hj⟩:=af2.1 hc;have ho:=hc4.own _ c hj
  grind
 cases e with
 |normal=>obtain⟨rfl,rfl⟩:=he;exact⟨_,_,hend,W,hpost⟩
 |ret=>obtain⟨rfl,rfl⟩:=he;exact⟨_,_,hend,W,hpost⟩
 |exit id=>obtain⟨rfl,rfl⟩:=he;exact⟨_,_,hend,W,hpost⟩
 |_=>exact he.elim
end
section
variable{P:Program}{N:Nat}{w w':World}{σ:St}
def enters{f:FuncId}{fn:Func}(d:P.funcs[f]?=some fn)(e:fn.body.isNone=false)(hn:(fn.name== "runtime.NumGoroutine")=false)(c:Array Value)(w:World):(callFunc f c).run P w=.ok (.enter f c) w:=by
 have b:¬fn.body=none:=by grind
 unfold callFunc;simp_all
def Hj{f:FuncId}{a:Array Value}{R:Value->World->Prop}(d:(callFunc f a).run P w=.ok (.enter f a) w)(h:sT P f a w R){rd:Q Nat}:
 CallsIn (FW rd) 0 P f a w λe w'=>∃b,e=.returned b/\∃v,R v w':=by
 have:=h rd {dst:=none,op:=.move<|.const<|.bool true,type:=0,pos:= "",after:=#[],guard:=none} {tmps:=#[],defers:=[]} (λ_ w'=>∃v,R v w') (λ_ _ _=>False) λv _ c=>⟨v,c⟩;rw[d]at this;refine this.2.mono λe _ he=>?_;cases e with
 |returned v=>grind
 |panicked _=>grind
 |outgrown=>let⟨_,_,h⟩:=he;grind
def idxOf(ex:L Nat)(i:Nat):Q Nat:=match ex with
 |[]=>none
 |r::ex=>if r=i then some 0 else(idxOf ex i).map (·+1)
def gQ:∀{ex:L Nat}{i j:Nat},idxOf ex i=some j->j<ex.length/\ex.getD j 0=i
 |[],i,j,h=>by simp[idxOf]at h
 |r::ex,i,j,h=>by
  unfold idxOf at h;split at h
  grind
  simp at h;obtain⟨k,a,rfl⟩:=h;have:=gQ a
  grind
def p8:∀{ex:L Nat}{i:Nat},idxOf ex i=none->i∉ex
 |[],i,_=>I
 |r::ex,i,h=>by unfold idxOf at h;split at h;cases h;rename_i e;simp at h;simp;exact⟨λe'=>e e'.symm,p8 h⟩
def u9(σ:St)(ex:L Nat)(y:L AV):St:=λi=>match idxOf ex i with
 |some j=>⟨y.getD j .dead,(σ i).g1,(σ i).g2+1⟩
 |none=>σ i
def Ys(N:Nat)(cs:L (AV×Value))(ex:L Nat)(T:Nat->Value)(tmps:Array Value)(ps:Array Tmp)(y x:L AV)(σB:St):Prop:=
 ∀(w:World)(S:Nat->Prop)(b:Nat->L Nat)(d:L Value)(V:Hid),(∀q∈cs,Rel w S q.1 q.2 [])->(∀(j:Nat)(v:AV),y[j]?=some v->j<ex.length->vV w S v (T<|ex.getD j 0) (b j))->
    (∀j,j<ex.length->(b j).Nodup)->(∀i j,i<ex.length->j<ex.length->i≠j->∀c∈b i,c∉b j)->(∀j,j<ex.length->∀c∈b j,c<w.heap.size/\¬S c)->(∀c,S c->c<w.heap.size)->Cells w S false x d []->
    V.v=(λi=>T<|ex.getD (i-500) 0)->(∀j,j<ex.length->∀c∈b j,V.g c)->
    aT S (c6 V w) σB (tv V {tmps:=(ps.zip d.toArray).foldl (λtmps(t,a)=>tmps.setIfInBounds t a) tmps,defers:=[]}) w λi=>if 500<=i/\i-500<ex.length then b (i-500)else[]
def Ya{g:Operand}{ps:Array Tmp}{o body:Code}{Q:Exit->St->Prop}{gf:FuncId}{W1:Func}{captured:L AV}{r:AV}{ex is:L Nat}{n m:Nat}{x y:Nat->L AV}{b:Nat->Bool}{pe:Nat->Option Code}{σB:Nat->St}
 (hN:N<=500)(hgf:aO g=true)(hg:(resolve σ g).cont=some (.fn (.func gf) [] captured))(hno:cz captured=true)(hf:P.funcs[gf]?=some W1)(hfb:W1.body.isNone=false)(hfn:(W1.name== "runtime.NumGoroutine")=false)(hcl:captured.length<499)
 (hex:ex.Nodup)(hpl:∀r∈ex,(σ r).av.iF=true)(his:∀i∈is,(σ i).av.plain=true/\(σ i).av.aK=true)
 (hx:∀k,k<n->(x k).length=ps.size)(hy:∀k,(y k).length=ex.length)(hy0:∀j,j<ex.length->(y 0)[j]?=some (σ<|ex.getD j 0).av)(hpe0:pe 0=none)(hpe:∀k,k<n->(∀j,j<k->b j=true)->pe k=none)
 (hit:∀(C:Value->Prop)(J:Nat->sV),(∀v,C v->∀k,k<n->(∀j,j<k->b j=true)->Yields P (J k) (J<|k+1) (x k) (b k) v)->KY P gf [.abs<|J 0] (.pv C::captured) [.abs<|J m] r)
 (G4:∀(V:Hid)(a:Act)(w:World)(S:Nat->Prop)(B:Nat->Prop)(F:Nat->L Nat),a.tmps.size=N->aT S B σ (tv V a) w F->∀k,k<n->Ys N (is.map λi=>((σ i).av,tv V a i)) ex (tv V a) a.tmps ps (y k) (x k) (σB k))
 (T0:∀k,k<n->(∀j,j<k->b j=true)->AW R1 P N o (λe σ1=>e=.normal/\AW R1 P N body (afD (y<|k+1) (b k)<|pe<|k+1) σ1) (σB k))
 (A0:match pe m with
   |none=>Q .normal (u9 σ ex<|y m)
   |some .ret=>Q .ret (u9 σ ex<|y m)
   |some (.exit id)=>Q (.exit id) (u9 σ ex<|y m)
   |_=>False):AW R0 P N (.rangeFunc g ps o body) Q σ:=by
 intro V w0 S0 a w hR hi;let⟨S,F,hc,M1,hdf,hs1,hs2,E2⟩:=hi;have hG:=hR.2;have hR:V.rd=none:=hR.1;refine wpIn_rangeFunc ?_;intro fn _;obtain⟨F1,e1,-⟩:=ba hc g hgf hg;simp only[Rel]at e1;obtain⟨af,cf,G1,G2,hev,ha1,ha2,-⟩:=e1;have haf:af=#[]:=by simp[Cells]at ha1;simp_all
 have hG2:=Cells.aK _ ha2 hno;subst haf hG2;obtain⟨D,hD⟩:∃D,D=w.heap.size:=⟨_,W⟩;obtain⟨l,hl⟩:∃l,l=w.heap.size+1:=⟨_,W⟩;obtain⟨T,Z⟩:∃T,T=(w.alloc<|.deferred<|some []).alloc (.loop<|wQ fn a.tmps ps o body D none):=⟨_,W⟩;have h1s:T.heap.size=w.heap.size+2:=gn;have h1l:T.heap[l]?=some (.loop<|wQ fn a.tmps ps o body D none):=by rw[Z,hl];have:=World.alloc_heap_new (w.alloc<|.deferred<|some [])<|.loop<|wQ fn a.tmps ps o body D none;simp_all
 have h1D:T.heap[D]?=some (.deferred<|some []):=by rw[Z,hD];exact(Below.heap_alloc _ _ _ I).trans<|World.alloc_heap_new w _
 have G3:∀k,k<w.heap.size->T.heap[k]?=w.heap[k]?:=λk hk=>by rw[Z];exact(Below.heap_alloc _ _ _<|by simp;omega).trans<|Below.heap_alloc _ _ _ hk
 have hce:∀vs f,(callFunc gf vs).run P f=.ok (.enter gf vs) f:=enters hf hfb hfn;refine⟨l,[{target:=.collected D,args:=#[]}],T,{target:=.fn (.func gf) cf,args:=#[.func (.yield l) #[] #[]]},T,gf,#[.func (.yield l) #[] #[]]++cf,T,?_,?_,λ_ _=>trivial,?_,λh=>(by cases h),?_⟩;show(Instr.enterLoop fn a.tmps ps o body V.rd).run P w=_;rw[hR,run_enterLoop_outer,Z,hD,hl];rfl;simp[Go.resolve,rangeCall,hev];rfl;simp[invoke,hce];have H5:∀c,S c->c<w.heap.size:=hc.shr;have hlw:w.heap.size<=l:=E;have hlD:l≠D:=E;obtain⟨X,R⟩:∃X:Nat->L Nat,X=λj=>F (ex.getD j 0):=⟨_,W⟩;have hexn:∀i j,i<ex.length->j<ex.length->i≠j->ex.getD i 0≠ex.getD j 0:=by
  intro i j hi s E1 e;rw[ad8,ad8,ad7 hi,ad7 s]at e;have e:ex[i]=ex[j]:=b6
  have hpw:=aio.1 hex
  grind
 have K2:∀j,j<ex.length->ex.getD j 0∈ex:=λj s=>by simp_all
 obtain⟨cs,hcs⟩:∃cs,cs=is.map λi=>((σ i).av,tv V a i):=⟨_,W⟩;obtain⟨J,hJ⟩:∃J:Nat->sV,J=λk=>Jr cs ex (tv V a) l D (wQ fn a.tmps ps o body D) (pe k) (y k):=⟨_,W⟩;have hyl:∀k,k<n->(∀j,j<k->b j=true)->Yields P (J k) (J<|k+1) (x k) (b k) (.func (.yield l) #[] #[]):=by intro k hk V0;rw[hJ];dsimp only;rw[hpe k hk V0];exact JG hN M1 (hx k hk) (hy<|k+1) (by rw[hcs];exact G4 V a w S _ F M1 hc k hk)<|T0 k hk V0
 have H1:=hit (λv=>v=.func (.yield l) #[] #[]) J λv hv k hk V0=>gn;obtain⟨Vi,hVi⟩:∃Vi:Hid,Vi={v:=λ_=>undef,g:=λc=>c=D\/c=l\/∃j,j<ex.length/\c∈X j}:=⟨_,W⟩;obtain⟨Fi,F0⟩:∃Fi:Nat->L Nat,Fi=λi=>if i=500 then D::l::(List.range ex.length).flatMap X else[]:=⟨_,W⟩;have hFw:∀i,∀c∈F i,c<w.heap.size:=λi c u=>(hc.own i c u).2.1;have hnd:((List.range ex.length).flatMap X).Nodup:=(nT _).2 ⟨λj _=>by rw[R];exact hc.nodup _,λi j hi s E1=>by rw[R];exact hc.dz _ _<|hexn i j hi s E1⟩;have hmem:∀c,c∈(List.range ex.length).flatMap X->c<w.heap.size/\¬S c:=by intro c u;obtain⟨j,-,s⟩:=af2.1 u;rw[R]at s;exact(hc.own _ c s).2
 have hJ0:sV.here (J 0) T S (D::l::(List.range ex.length).flatMap X):=by rw[hJ];dsimp only;rw[hpe0];refine Jr.closed ⟨X,List.Perm.refl _,λj v hv s=>?_,λq hq=>?_,h1l,h1D⟩;have:=hy0 j s;rw[this]at hv;cases hv;have hr:=hc.rel<|ex.getD j 0;rw[an.ofX<|hpl _<|K2 j s]at hr;rw[R];exact vV.frame hr λc u=>G3 c<|u.elim (H5 c)<|hFw _ c;rw[hcs]at hq;obtain⟨i,hi,rfl⟩:=ab4.1 hq;have hr:=hc.rel i;rw[an.aC (his i hi).1]at hr;rw[Rel.aK _ hr (his i hi).2]at hr;exact Rel.frame _ hr λc u=>G3 c<|H5 c<|by simpa using u
 have L0:Cells T S false captured cf.toList []:=Cells.frame _ ha2 λc u=>G3 c<|H5 c<|by simpa using u
 have hcl2:=Cells.length L0;have P1:([Value.func (.yield l) #[] #[]]++cf.toList).toArray=#[.func (.yield l) #[] #[]]++cf:=by apply aib;simp
 have S4:aT S Vi.g (both (.pv (λv=>v=.func (.yield l) #[] #[])::captured) [.abs<|J 0]) (a7 Vi<|[Value.func (.yield l) #[] #[]]++cf.toList) T Fi:=by
  have H2:Cells T S false (.pv (λv=>v=.func (.yield l) #[] #[])::captured) ([Value.func (.yield l) #[] #[]]++cf.toList) []:=by simp only[Cells];exact⟨_,_,[],[],W,W,I,by simp[Rel],L0⟩
  refine⟨λi=>?_,λi=>?_,λi j E1 c K=>?_,λi c K=>?_,λc K=>by grind⟩;by_cases hi:i<500;have K:=fT (args:=.pv (λv=>v=.func (.yield l) #[] #[])::captured) (H:=[.abs<|J 0]) hi;have hFe:Fi i=[]:=by rw[F0];grind
  rw[hFe];cases L1:(AV.pv (λv=>v=.func (.yield l) #[] #[])::captured)[i]?with
  |none=>rw[L1]at K;rw[an.aC<|by rw[K];rfl,K];simp[Rel]
  |some v=>
   rw[L1]at K;have K0:=Cells.get i H2 W;rw[L1]at K0;let⟨z,q1,q2⟩:=K0;rw[an.aC<|by rw[K];exact q2.plain,K];have hz:a7 Vi ([Value.func (.yield l) #[] #[]]++cf.toList) i=z:=by unfold a7;simp_all
   rw[hz];exact q2
  ·by_cases h2:i=500
   ·subst h2;have e:(both (.pv (λv=>v=.func (.yield l) #[] #[])::captured) [.abs<|J 0] 500).av=.abs (J 0):=by
     rw[show(500:Nat)=500+0 from gq,fi<|by simp;omega];rfl
    unfold an;rw[e,F0];exact hJ0
   obtain⟨j,rfl⟩:∃j,i=500+(j+1):=⟨i-501,E⟩;have e:(both (.pv (λv=>v=.func (.yield l) #[] #[])::captured) [.abs<|J 0]<|500+(j+1)).av=.dead:=by rw[fi<|by simp;omega];rfl
   rw[an.aC<|by rw[e];rfl,e];rw[F0];dsimp only;rw[abl h2];simp[Rel]
  rw[F0];grind;rw[F0]at K⊢;grind;rw[F0]at K;dsimp only at K;split at K;rw[hVi,h1s]
  grind
  cases K
 have hLi:lW P Vi T:=by have hLw:=hG.MN E2;refine⟨hLw.same λg hn hlt=>G3 g hlt,λg hn K=>?_⟩;have hlt:=hLw.lt hn;rw[hVi]at K;rcases K with rfl|rfl|⟨j,-,K⟩;omega;omega;rw[R]at K;exact hG.c6 g hn (hc.own _ g K).1
 have G0:=H1 T S Vi ([Value.func (.yield l) #[] #[]]++cf.toList) Fi (by simp;omega) hLi S4;rw[P1]at G0;refine(Hj (hce _ _) G0).mono ?_;rintro e w2⟨v0,rfl,v,S',F',F3,k1,k2,kc⟩;have hres:sV.here (J m) w2 S' (F' 500):=by have:=kc.rel 500;unfold an at this;have e:(both [r] [.abs<|J m] 500).av=.abs (J m):=gq;rw[e]at this;exact this
 have F4:=hres w2 S' (λ_ _=>rfl) λ_ h=>h;rw[hJ]at F4;obtain⟨FF,hp,hrel,-,hl2,hD2⟩:=F4;obtain⟨w4,F2⟩:∃w4,w4=w2.putObj l (.loop {wQ fn a.tmps ps o body D (pe m)with state:=.exhausted}):=⟨_,W⟩;have S1:(Instr.endLoop l).run P w2=.ok (pe m) w4:=by rw[run_endLoop hl2<|by simp[wQ];split<;>simp,F2];rfl
 have hX:ma N V w0 S0 (u9 σ ex<|y m) {a with defers:=[{target:=.collected D,args:=#[]}]++a.defers} w4:=by
  have V2:w4.heap.size=w2.heap.size:=gn;have h4o:∀k,k≠l->w4.heap[k]?=w2.heap[k]?:=λk hk=>by rw[F2];exact World.putObj_heap_other hk
  have hm:∀c,c∈F' 500↔c∈D::l::(List.range ex.length).flatMap FF:=λc=>hp.mem_iff;have hnd2:=hp.nodup_iff.1<|kc.nodup 500;let⟨hD1,hnd3⟩:=af6.1 hnd2;let⟨hl1,hnd4⟩:=af6.1 hnd3;let⟨M2,S2⟩:=(nT ex.length).1 hnd4;have hin:∀j,j<ex.length->∀c∈FF j,c∈(List.range ex.length).flatMap FF:=λj s c hc=>af2.2 ⟨j,aec.2 s,hc⟩;have O:∀j,j<ex.length->∀c∈FF j,c6 Vi T c/\c<w2.heap.size/\¬S' c/\c≠l/\c≠D:=by
   intro j s c u;have hcm:=hin j s c u;have:=kc.own 500 c<|(hm c).2<|by simp[hcm]
   grind
  have V1:=kc.own 500 D<|(hm D).2 I;have hlown:=kc.own 500 l<|(hm l).2 I;have H4:∀c,Vi.g c->c=D\/c=l\/∃j,j<ex.length/\c∈F (ex.getD j 0):=gn;have hsz0:=E2.size;have P0:∀c,c6 Vi T c->c6 V w0 c:=by rintro c(h|h);exact .inl E;rcases H4 c h with rfl|rfl|⟨j,s,h⟩;exact .inl E;exact .inl E;exact(hc.own _ c h).1
  have hst2:=F3.size;have Y:∀c,c<w.heap.size->(∀j,j<ex.length->c∉F (ex.getD j 0))->w4.heap[c]?=w.heap[c]?:=by intro c hc1 hc2;rw[h4o c E,F3.block c E λh=>?_,G3 c hc1];rcases H4 c h with h|h|⟨j,s,h⟩;omega;omega;exact hc2 j s h
  have hSk:∀c,S c->w4.heap[c]?=w.heap[c]?:=λc hcS=>Y c (H5 c hcS) λj s h=>(hc.own _ c h).2.2 hcS;have hFk:∀i,i∉ex->∀c∈F i,w4.heap[c]?=w.heap[c]?:=λi hi c H3=>Y c (hFw i c H3) λj s h=>hc.dz i (ex.getD j 0) (λe=>hi<|by rw[e];exact K2 j s) c H3 h;obtain⟨Fn,hFn⟩:∃Fn:Nat->L Nat,Fn=λi=>match idxOf ex i with|some j=>FF j|none=>F i:=⟨_,W⟩
  have A:∀{i j},idxOf ex i=some j->Fn i=FF j:=λh=>by grind
  have M:∀{i},idxOf ex i=none->Fn i=F i:=λh=>by grind
  have hmv:∀{i},idxOf ex i=none->u9 σ ex (y m) i=σ i:=λh=>by unfold u9;rw[h]
  have hms:∀{i j},idxOf ex i=some j->u9 σ ex (y m) i=⟨(y m).getD j .dead,(σ i).g1,(σ i).g2+1⟩:=λh=>by unfold u9;rw[h]
  have H6:∀i j,idxOf ex i=none->j<ex.length->∀c∈FF j,c∉F i:=by
   intro i j hi s c H3 hci;rcases(O j s c H3).1 with h|h
   grind
   rcases H4 c h with h|h|⟨j',hj',h⟩
   grind
   grind
   exact hc.dz i (ex.getD j' 0) (λe=>p8 hi<|by grind) c hci h
  have hS'c:∀c,S' c->S c\/c6 V w0 c:=λc h=>(k2 c h).imp id<|P0 c;refine⟨S',Fn,[{target:=.collected D,args:=#[]}],?_,M1,by rw[hdf],λc h=>k1 c<|hs1 c h,λc h=>(hS'c c h).elim (hs2 c) .inr,?_,I,?_⟩;have hT:tv V {a with defers:=[{target:=.collected D,args:=#[]}]++a.defers}=tv V a:=W;rw[hT];refine hc.step (w':=w4) (T':=tv V a) (S':=S') ⟨λi=>?_,λi=>?_,λ_ _=>rfl,λi q1 q2=>?_⟩ k1 (λi=>?_) (λi=>?_) (λi j E1 c t=>?_) (λi c t=>?_) (λc h=>by rw[V2];exact kc.shr c h)
  grind
  grind
  cases hi:idxOf ex i with
  |none=>rw[hmv hi];exact⟨λp z hz=>⟨z,hz⟩,λc t=>t.elim (hSk c)<|hFk i (p8 hi) c⟩
  |some j=>grind
  ·cases hi:idxOf ex i with
   |none=>left;rw[hmv hi,M hi];exact⟨W,W,W,λc t=>t.elim (hSk c)<|hFk i (p8 hi) c⟩
   |some j=>
    right;let⟨s,he⟩:=gQ hi;have hyj:(y m)[j]?=some ((y m).getD j .dead):=by grind
    have hr:=hrel j _ hyj s;rw[an.ofX<|by rw[hms hi];exact hr.iF,hms hi,A hi];rw[he]at hr;exact vV.frame hr λc t=>h4o c (λe=>by grind)
  cases hi:idxOf ex i with
  |none=>rw[M hi];exact hc.nodup i
  |some j=>rw[A hi];exact M2 j (gQ hi).1
  ·cases hi:idxOf ex i with
   |none=>
    rw[M hi]at t;cases s:idxOf ex j with
    |none=>rw[M s];exact hc.dz i j E1 c t
    |some j'=>rw[A s];exactλh=>H6 i j' hi (gQ s).1 c h t
   |some i'=>
    rw[A hi]at t;cases s:idxOf ex j with
    |none=>rw[M s];exact H6 j i' s (gQ hi).1 c t
    |some j'=>rw[A s];refine S2 i' j' (gQ hi).1 (gQ s).1 (λe=>E1 ?_) c t;rw[<-(gQ hi).2,<-(gQ s).2,e]
  cases hi:idxOf ex i with
  |none=>rw[M hi]at t;have ho:=hc.own i c t;refine⟨ho.1,by rw[V2];omega,λh=>?_⟩;rcases k2 c h with h|h;exact ho.2.2 h;rcases h with h|h;omega;rcases H4 c h with h|h|⟨j',hj',h⟩;omega;omega;exact hc.dz i (ex.getD j' 0) (λe=>p8 hi<|by grind) c t h
  |some j=>
   rw[A hi]at t;have ho:=O j (gQ hi).1 c t
   grind
  ·refine⟨?_,?_,?_,by rw[V2];omega,λk hk hgk=>?_⟩
   ·rw[F2];show w2.os=_;rw[F3.os,Z];exact E2.os
   rw[F2];show w2.tape=_;rw[F3.tape,Z];exact E2.tape;rw[F2];show w2.output=_;rw[F3.output,Z];exact E2.output;rw[Y k E λj s h=>?_];exact E2.block k hk hgk;rcases(hc.own _ k h).1 with h|h;omega;exact hgk h
  intro d hd;simp[ah9]at hd;subst hd;refine⟨D,W,by grind,E,V1.2.2,λi h=>?_⟩;cases hi:idxOf ex i with
  |none=>grind
  |some j=>rw[A hi]at h;exact(O j (gQ hi).1 D h).2.2.2.2 W
 show∃X2 w4,(Instr.endLoop l).run P w2=.ok X2 w4/\_;refine⟨pe m,w4,S1,?_⟩;cases hpm:pe m with
 |none=>grind
 |some c=>
  rw[hpm]at A0;cases c<;>try exact A0.elim
  case ret=>exact wpIn_ret ⟨_,A0,hX⟩
  case exit id=>exact wpIn_exit ⟨_,A0,hX⟩
end
def Io:∀{L:List (Nat×SV)}{i:Nat},(gt (sl L) i).v=.dead\/(i,(gt (sl L) i).v)∈L
 |[],i=>.inl W
 |(j,y)::L,i=>by simp[sl,gt];split;simp_all;rcases Io with h|h;exact .inl h;grind
def yd:∀(q:L (Tmp×Value))(t:Array Value)(i:Nat),i∉q.map (·.1)->(q.foldl (λa p=>a.setIfInBounds p.1 p.2) t).getD i undef=t.getD i undef
 |[],t,i,_=>rfl
 |p::q,t,i,h=>by
  simp only[ad3,adb,not_or]at h;simp only[agf];rw[yd q _ i h.2];simp
  grind
def Nj:∀(q:L (Tmp×Value))(t:Array Value)(i:Nat)(v:Value),(q.map (·.1)).Nodup->(i,v)∈q->i<t.size->(q.foldl (λa p=>a.setIfInBounds p.1 p.2) t).getD i undef=v
 |[],t,i,v,_,h,_=>by cases h
 |p::q,t,i,v,hn,h,hi=>by simp only[ad3,af6]at hn;simp only[agf];rcases adb.1 h with h|h;subst h;rw[yd q _ i hn.1];simp[hi];exact Nj q _ i v hn.2 h (ce)
inductive View(σ:St)(ex is:List Nat):Nat->AV->Prop
 |own {i j:Nat} (h:ex[j]?=some i):View σ ex is i (.bH (500+j) 0 0 [])
 |bH {i j r g1 g2:Nat} {p:Path} (h:ex[j]?=some r) (h1:(σ i).av=.bH r g1 g2 p) (h2:lN p=true) (h3:(σ r).g1=g1):View σ ex is i (.bH (500+j) 0 0 p)
 |ptr {i j r g1 g2:Nat} {p:Path} (h:ex[j]?=some r) (h1:(σ i).av=.ptr r g1 g2 p) (h2:flat p=true) (h3:(σ r).g1=g1):View σ ex is i (.ptr (500+j) 0 0 p)
 |val {i:Nat} (h:i∈is):View σ ex is i (σ i).av
def ux:Nat->L SV->L (Nat×SV)
 |_,[]=>[]
 |k,v::a=>(k,v)::ux (k+1) a
def uV:L Nat->L SV->L (Nat×SV)
 |[],_=>[]
 |t::a,xs=>match xs with
  |[]=>[]
  |x::xs=>(t,x)::uV a xs
def EC:∀{a:L Nat}{xs:L SV}{i:Nat}{v:SV},(i,v)∈uV a xs->∃j:Nat,a[j]?=some i/\xs[j]?=some v
 |[],xs,i,v,h=>by simp[uV]at h
 |t::a,[],i,v,h=>by simp[uV]at h
 |t::a,x::xs,i,v,h=>by simp[uV]at h;rcases h with⟨rfl,rfl⟩|h;exact⟨0,W,W⟩;let⟨j,c,b⟩:=EC h;exact⟨j+1,c,b⟩
def Ke:∀{A B:L (Nat×SV)}{i:Nat},(∀q∈A,q.1≠i)->gt (sl<|cat A B) i=gt (sl B) i
 |[],B,i,_=>rfl
 |(r,y)::A,B,i,h=>by
  simp[cat,sl,gt];have:Nat.beq i r=false:=by
   cases b:Nat.beq i r with
   |false=>rfl
   |true=>simp_all
  rw[this];exact Ke λq a=>h q (by simp[a])
def RM:∀(zs:L SV)(k j:Nat),gt (sl<|ux k zs) (k+j)=match zs[j]?with|some v=>⟨v,0,0⟩|none=>⟨.dead,0,0⟩
 |[],k,j=>by simp[ux,sl,gt]
 |v::zs,k,j=>by
  simp[ux,sl,gt];cases j with
  |zero=>simp
  |succ j=>
   have:Nat.beq (k+(j+1)) k=false:=by
    cases a:Nat.beq _ k with
    |false=>rfl
    |true=>simp_all
   have:=RM zs (k+1) j
   grind
def RI:∀{zs:L SV}{k i:Nat}{v:SV},(i,v)∈ux k zs->k<=i
 |[],k,i,v,h=>by simp[ux]at h
 |z::zs,k,i,v,h=>by simp[ux]at h;rcases h with⟨rfl,-⟩|h;exact .refl;have:=RI h;omega
section
variable{P:Program}{N:Nat}{σ:St}
def S3{ex is:List Nat}{g:List (Nat×SV)}{xs zs:List SV}{ps:Array Tmp}{D:Hid}{a:Act}{w0:World}{S0:Nat->Prop}{B:Nat->Prop}{F0:Nat->List Nat}(hN:N<=500)(ha:a.tmps.size=N)(hc:aT S0 B σ (tv D a) w0 F0)
 (H2:∀i∈is,(σ i).av.plain=true/\(σ i).av.aK=true)(E1:∀q∈g,View σ ex is q.1 q.2.den/\q.1<N/\q.1∉ps.toList)
 (E2:ps.toList.Nodup)(F1:∀t∈ps.toList,t<N)(hx:xs.length=ps.size)(G3:zs.length=ex.length)(G2:∀z∈zs,z.iF=true):
 Ys N (is.map λi=>((σ i).av,tv D a i)) ex (tv D a) a.tmps ps (aE zs) (aE xs) (dn<|sl<|cat g<|cat (uV ps.toList xs)<|ux 500 zs):=by
 intro w S FF Y V F4 K H1 H4 M hS l hv hg;obtain⟨m,X⟩:∃m:Act,m={tmps:=(ps.zip Y.toArray).foldl (λtmps(t,a)=>tmps.setIfInBounds t a) a.tmps,defers:=[]}:=⟨_,W⟩;rw[<-X];have J:=Cells.length l;rw[bS]at J;have b:m.tmps=(ps.toList.zip Y).foldl (λtmps p=>tmps.setIfInBounds p.1 p.2) a.tmps:=by rw[X];rw[<-ajp];simp
 have k:(ps.toList.zip Y).map (·.1)=ps.toList:=by exact List.map_fst_zip (by rw[J,hx];simp)
 have G0:∀i,i<N->i∉ps.toList->tv V m i=tv D a i:=by intro i hi A;rw[yC _ _<|.inl E,yC _ _<|.inl E,b];exact yd _ _ _ (by rw[k];exact A)
 have n:∀j,tv V m (500+j)=tv D a (ex.getD j 0):=by
  intro j;have G4:m.tmps.size=N:=by
   rw[b,<-ha];have:∀(q:List (Tmp×Value))(t:Array Value),(q.foldl (λtmps p=>tmps.setIfInBounds p.1 p.2) t).size=t.size:=zaw
   exact this _ _
  unfold tv;rw[abl E,hv];show tv D a (ex.getD (500+j-500) 0)=_;rw[ajr];rfl
 have C:∀{j r:Nat},ex[j]?=some r->ex.getD j 0=r/\j<ex.length:=λh=>⟨gn,(aij.1 h).1⟩;have R:∀j,gt (sl<|cat g<|cat (uV ps.toList xs)<|ux 500 zs) (500+j)=match zs[j]?with|some v=>⟨v,0,0⟩|none=>⟨.dead,0,0⟩:=by
  intro j;have g1:∀q∈g,q.1≠500+j:=λq hq e=>by grind
  have g2:∀q∈uV ps.toList xs,q.1≠500+j:=by
   intro q hq e;obtain⟨t,h1,-⟩:=EC (i:=q.1) (v:=q.2) hq
   grind
  rw[Ke g1,Ke g2,RM]
 have O:∀{i:Nat}{v:SV},(i,v)∈cat g (cat (uV ps.toList xs)<|ux 500 zs)->(i,v)∈g\/(i,v)∈uV ps.toList xs\/(i,v)∈ux 500 zs:=by intro i v h;rw[dA,dA]at h;simpa using h
 refine⟨λi=>?_,λi=>?_,λi j H3 c T=>?_,λi c T=>?_,hS⟩;by_cases hi:500<=i;obtain⟨j,rfl⟩:∃j,i=500+j:=⟨i-500,E⟩;have hh:=R j;by_cases y:j<ex.length;rw[abx ⟨E,E⟩,ajr];obtain⟨z,hz⟩:∃z,zs[j]?=some z:=⟨_,ad7 E⟩;rw[hz]at hh;rw[an.ofX<|by rw[eB,hh,nS];grind,eB,hh,n];exact K j z.den (by rw[jC];simp[hz]) y;rw[abl E];rw[agc E]at hh;rw[an.aC<|by rw[eB,hh];rfl,eB,hh];simp[SV.den,Rel];rw[abl E];rcases Io (L:=cat g<|cat (uV ps.toList xs)<|ux 500 zs) (i:=i)with h|h;rw[an.aC<|by rw[eB,h];rfl,eB,h];simp[SV.den,Rel];rcases O h with h|h|h;let⟨f,Bq,A⟩:=E1 _ h;have F:=G0 i Bq A;have e:(dn (sl<|cat g<|cat (uV ps.toList xs)<|ux 500 zs) i).av=(gt (sl<|cat g<|cat (uV ps.toList xs)<|ux 500 zs) i).v.den:=eB _ _
 replace f:View σ ex is i (gt (sl<|cat g<|cat (uV ps.toList xs)<|ux 500 zs) i).v.den:=f
 rw[<-e]at f;generalize G1:dn (sl<|cat g<|cat (uV ps.toList xs)<|ux 500 zs)=A0 at f⊢;generalize Z:(A0 i).av=d at f;cases f with
 |own y=>let⟨H,q2⟩:=C y;unfold an;rw[Z];refine⟨W,abX _,abX _,λ_ _ _=>⟨.val<|tv V m<|500+_,W,?_,I⟩⟩;show tv V m i=_;rw[n,H,F]
 |bH y p1 o p3=>
  let⟨H,q2⟩:=C y;have x:=hc.rel i;unfold an at x⊢;rw[p1]at x;rw[Z];let⟨L,k1,k2,k3⟩:=x.2.2.2 p3 (.inl o) λh=>by rw[o]at h;cases h
  obtain⟨u,rfl⟩:=Iv o k1;refine⟨W,abX _,abX _,λ_ _ _=>⟨.val u,?_,?_,I⟩⟩;rw[n,H,<-Is (w:=w0) o];exact k1;show tv V m i=u;rw[F];exact k2
 |ptr y p1 o p3=>
  let⟨H,q2⟩:=C y;have x:=hc.rel i;unfold an at x⊢;rw[p1]at x;rw[Z];let⟨ad,k1,k2⟩:=x.2.2.2.2 p3 (.inl o) λh=>by rw[o]at h;cases h
  refine⟨W,abX _,abX _,gn,λ_ _ _=>⟨ad,?_,by rw[F];exact k2⟩⟩;rw[n,H,<-MC (w:=w0) o];exact k1
 |val F3=>rw[an.aC<|by grind,Z,F];exact F4 ((σ i).av,tv D a i) (ab4.2 ⟨i,F3,W⟩)
 ·let⟨t,h1,h2⟩:=EC h;have s:=Cells.get t l W;rw[jC,h2]at s;let⟨z,z1,z2⟩:=s;have F2:(i,z)∈ps.toList.zip Y:=by
   grind
  have Bq:=F1 i<|ai3 h1;have F:tv V m i=z:=by rw[yC _ _<|.inl E,b];exact Nj _ _ _ _ (by rw[k];exact E2) F2 (by rw[ha];exact Bq)
  rw[an.aC<|by rw[eB];exact z2.plain,eB,F];exact z2
 have:=RI h;omega
 grind
 grind
 split at T;rename_i h;have:=M _ h.2 c T;exact⟨.inr<|hg _ h.2 c T,this⟩;cases T
end
section
variable{R:Q Nat->Prop}{P:Program}{N:Nat}{F:St->Prop}{k:L It}{l:bJ}
def I2(l:bJ):L Nat->L (Nat×Nat)
 |[]=>[]
 |t::b=>match gt l t with
  |⟨_,a,_⟩=>(t,a)::I2 l b
def N1(l:bJ):∀a:L Nat,I2 l a=a.map λt=>(t,(dn l t).g1)
 |[]=>rfl
 |t::a=>by simp[I2,N1 l a,CP]
def Rl(d:Nat):L Nat->Bool
 |[]=>true
 |t::a=>fe (ne' t d)<|Rl d a
def Ie{d:Nat}:∀{a:L Nat},Rl d a=true->a.all (λt=>t !=d)=true
 |[],_=>rfl
 |t::a,h=>by simp[Rl,bL]at h;simp only[af5,adS];exact⟨by simpa using ne_iff.1 h.1,Ie h.2⟩
def ac7(l:bJ)(d:Nat)(g:FuncId)(first a:L Operand):Q (bJ×L Nat):=
 match first with
 |[]=>(slotsOf a).bind λb=>(iR<|Rl d b).bind λ_=>L3 l d (.ix g<|I2 l b) λc=>some (c,[d])
 |_::_=>none
def acA{all:Array Oper}{d:Nat}{b:FuncId}{first a:Array Operand}{ty:TypeId}{pos:String}{c:Array Edge}{g:Q (Nat×Bool)}{K:L Mv->St->Prop}{l':bJ}{i:L Nat}
 (m:dP l all.toList g=some true)(h:ac7 l d b first.toList a.toList=some (l',i))(j:∀f,bA f=i->K f (dn l')):
 Q7 P all ⟨some d,.makeFunc (.func b) first a,ty,pos,c,g⟩ (dn l) K:=by
 unfold ac7 at h;split at h<;>try(cases h)
 rename_i n;simp only[abZ,bW]at h;obtain⟨e,p,_,o,rfl,rfl⟩:=h;refine⟨.mkc,[.put d<|.ix b<|I2 l e],[],dn<|Tq l d _,?_,I,?_,j _ W⟩;unfold fQ;rw[dV m];simp[kZ,n,p,Ie o,N1];have:=mA l d<|.ix b<|I2 l e;rw[<-this];rfl
def agD{all:Array Oper}{rest:L Oper}{d:Nat}{c:FuncId}{first a:Array Operand}{ty:TypeId}{pos:String}{b:Array Edge}{g:Q (Nat×Bool)}{l':bJ}{e:L Nat}
 (i:dP l all.toList g=some true)(h:ac7 l d c first.toList a.toList=some (l',e))(f:AK R P N F (.ops all rest::k) l'):
 AK R P N F (.ops all (⟨some d,.makeFunc (.func c) first a,ty,pos,b,g⟩::rest)::k) l:=by
 exact acA i h λj _=>f
def NZ(l:bJ):L (Nat×Nat)->Q (L SR)
 |[]=>some []
 |(t,a)::q=>match gt l t with
  |⟨v,g1,g2⟩=>(iR<|fe (Nat.ble (t+1) 500)<|fe v.plain<|Nat.beq g1 a).bind λ_=>(NZ l q).bind λxs=>some<|⟨some t,⟨v,g1,g2⟩,⟨.dead,0,0⟩⟩::xs
def Gp:∀{b:L (Nat×Nat)}{xs:L SR},NZ l b=some xs->b.all (λq=>decide (q.1<500)&&(dn l q.1).av.plain&&(dn l q.1).g1==q.2)=true/\(b.map λq=>resolve (dn l)<|.tmp q.1)=xs.map SR.den
 |[],xs,h=>by simp[NZ]at h;grind
 |(t,a)::q,xs,h=>by
  simp only[NZ,abZ,bW,bL,beq_iff,abL]at h;obtain⟨_,⟨g,i,f⟩,ys,e,rfl⟩:=h;let⟨k1,k2⟩:=Gp e;have c:(dn l t).av.plain=true:=by rwa[eB,cW]
  constructor;simp only[af5,adS,decide_eq_true_eq,beq_iff_eq];exact⟨⟨⟨af4 g,c⟩,by rw[CP];exact f⟩,k1⟩;simp[k2];have:cF.of (dn l) t=⟨some t,dn l t,.none⟩:=by unfold cF.of;cases d:(dn l t).av<;>rw[d]at c<;>first|rfl|(simp[AV.plain]at c)
  show cF.of _ t=_;rw[this];rfl
def PM(l:bJ)(f:Operand)(asx:L Operand):Q rF:=
 match f with
 |.tmp t=>match(gt l t).v with
  |.ix g a=>(ko l asx).bind λd=>(NZ l a).bind λe=>match cat d e with
   |b=>match gV [] b with
    |R=>(Gw R b).bind λc=>(iR<|Nat.ble (len c) 500).bind λ_=>some ⟨g,c,R⟩
  |_=>none
 |_=>none
def acB{all:Array Oper}{a:Q Nat}{f:Operand}{asx z:Array _}{ty:TypeId}{pos:String}{v:Array Edge}{g:Q (Nat×Bool)}{K:L Mv->St->Prop}{h:rF}{out:L SV}{r:SV}{l':bJ}{n:L Nat}
 (C:dP l all.toList g=some true)(hh:PM l f asx.toList=some h)(hs:kg P h.g (ra h.R) h.asx out r)(i:mn l a h.R out r=some (l',n))(B:∀x,bA x=n->K x (dn l')):
 Q7 P all ⟨a,.call ⟨.value f,asx,z⟩,ty,pos,v,g⟩ (dn l) K:=by
 unfold PM at hh;split at hh<;>try(cases hh)
 rename_i t;split at hh<;>try(cases hh)
 rename_i m e A;simp only[abZ,bW,abL]at hh;obtain⟨b,O,c,M,w,J,_,H,rfl⟩:=hh;let⟨c1,T⟩:=Gp M;have s:(dn l t).av=.ix m e:=by rw[eB,A];rfl
 have o:(asx.toList.map (resolve<|dn l)++e.map λq=>resolve (dn l)<|.tmp q.1)=(cat b c).map SR.den:=by rw[fJ l O,T,dA,adW]
 simp[mn]at i;split at i<;>try(cases i)
 rename_i y;simp[bL,not_iff]at y;let⟨u,Z,Y,X,V⟩:=y;have S:eJ [] ((cat b c).map _)=lv _:=mZ [] _;have p:Ai.xl a (resolve (dn l)<|.func m) ((cat b c).map SR.den) (aE out) r.den=some (dS a r.den [.back<|qY (lv<|gV []<|cat b c)<|aE out],[.refs m (aE<|ra<|gV []<|cat b c) (aE w) (aE out) r.den]):=by unfold Ai.xl;have D:(resolve (dn l)<|.func m).cont=some (.fn _ [] []):=W;rw[D];simp only[cz,aiC,if_true,S,wN J,yH];simp[jm _ Z,jm _ Y,cW,X,zM _ _ V,F8,bS,decide_eq_true_eq];have:=af4 H;simp[fW]at this u;omega
 have j:Mv.runs (dn l) (dS a r.den [.back<|qY (lv<|gV []<|cat b c)<|aE out])=some (dn l')/\bA (dS a r.den [.back<|qY (lv<|gV []<|cat b c)<|aE out])=n:=by
  cases a with
  |none=>cases i;exact⟨pa,by simp[dS,bA,ahl];exact pZ _ _ u⟩
  |some d=>simp[iY,aeb]at i;obtain⟨rfl,rfl⟩:=i;exact⟨by simp[dS,Mv.runs,Mv.run,ky,ia],by simp[dS,bA,Mv.keys,dA<|Ue _];rw[pZ _ _ u]⟩
 refine⟨.ix (aE out) r.den,_,[.refs m (aE<|ra<|gV []<|cat b c) (aE w) (aE out) r.den],dn l',?_,?_,j.1,B _ j.2⟩;unfold fQ;rw[dV C];simp only[kZ,s]
 grind
 simp[Ob.ok];exact hs
def ag0{all:Array Oper}{rest:L Oper}{a:Q Nat}{f:Operand}{asx c:Array _}{ty:TypeId}{pos:String}{b:Array Edge}{g:Q (Nat×Bool)}{h:rF}{out:L SV}{r:SV}{l':bJ}{d:L Nat}
 (j:dP l all.toList g=some true)(hh:PM l f asx.toList=some h)(hs:kg P h.g (ra h.R) h.asx out r)(e:mn l a h.R out r=some (l',d))(i:AK R P N F (.ops all rest::k) l'):
 AK R P N F (.ops all (⟨a,.call ⟨.value f,asx,c⟩,ty,pos,b,g⟩::rest)::k) l:=by
 exact acB j hh hs e λm _=>i
def Kd(l:bJ)(m x:Operand):Q ((World->(Nat->Prop)->Value->Prop)×SV):=
 (eP l m).bind λm=>(dB m).bind λ(ob,v)=>match ob with
   |[]=>match v with
    |.ob K=>(eP l x).bind λx=>(dB x).bind λ(a,y)=>match a with
     |[]=>(iR y.aK).bind λ_=>some (K,y)
     |_::_=>none
    |_=>none
   |_::_=>none
def VM{all:Array Oper}{d:Nat}{t:TypeId}{m x:Operand}{a:Bool}{ty:TypeId}{pos:String}{e:Array Edge}{g:Q (Nat×Bool)}{K:L Mv->St->Prop}{h:(World->(Nat->Prop)->Value->Prop)×SV}{y:SV}{l':bJ}{j:L Nat}
 (s:dP l all.toList g=some true)(hh:Kd l m x=some h)(q:y.aK=true)(hs:Looks P t a h.1 h.2.den y.den)(n:qP l [] d y (λl'=>some (l',[d]))=some (l',j))(r:∀i,bA i=j->K i (dn l')):
 Q7 P all ⟨some d,.lookup t m x a,ty,pos,e,g⟩ (dn l) K:=by
 simp[Kd,abZ]at hh;let⟨J,B,ob,v,A,b⟩:=hh;split at b<;>try(cases b)
 split at b<;>try(cases b)
 rename_i o;simp[abZ]at b;let⟨H,z,p,f,w,c⟩:=b;split at c<;>try(cases c)
 simp only[abZ,bW,abL]at c;obtain⟨_,u,rfl⟩:=c;simp[iY]at n;obtain⟨rfl,rfl⟩:=n;refine⟨.Z8 y.den,dS (some d) y.den [],[.Z8 t a o f.den y.den],dn _,?_,?_,?_,r _ gq⟩;unfold fQ;rw[dV s];have D:(resolve (dn l) m).cont=some (.ob o):=by rw[cS B];exact aH A U
 have C:(resolve (dn l) x).cont=some f.den:=by rw[cS z];exact aH w U
 simp[kZ,D,C,cO,u,q];simp;exact hs;have:=ia l [] d y;simp[dS,kl];rw[this]
def Z7{all:Array Oper}{rest:L Oper}{d:Nat}{t:TypeId}{m x:Operand}{a:Bool}{ty:TypeId}{pos:String}{b:Array Edge}{g:Q (Nat×Bool)}{h:(World->(Nat->Prop)->Value->Prop)×SV}{l':bJ}{c:L Nat}(y:SV)
 (j:dP l all.toList g=some true)(hh:Kd l m x=some h)(e:y.aK=true)(hs:Looks P t a h.1 h.2.den y.den)(f:qP l [] d y (λl'=>some (l',[d]))=some (l',c))(i:AK R P N F (.ops all rest::k) l'):
 AK R P N F (.ops all (⟨some d,.lookup t m x a,ty,pos,b,g⟩::rest)::k) l:=by
 exact VM j hh e hs f λn _=>i
def Dj{all:Array Oper}{f:L Nat}{c:L (L Nat×L Nat)}{rest:L Oper}{d:Nat}{t:TypeId}{m x:Operand}{a:Bool}{ty:TypeId}{pos:String}{b:Array Edge}{g:Q (Nat×Bool)}{h:(World->(Nat->Prop)->Value->Prop)×SV}{l':bJ}{i:L Nat}(y:SV)
 (o:dP l all.toList g=some true)(hh:Kd l m x=some h)(j:y.aK=true)(hs:Looks P t a h.1 h.2.den y.den)(n:qP l [] d y (λl'=>some (l',[d]))=some (l',i))
 (q:AK R P N F (.vB all f rest ((kJ (dn l) all ⟨some d,.lookup t m x a,ty,pos,b,g⟩,i)::c)::k) l'):
 AK R P N F (.vB all f (⟨some d,.lookup t m x a,ty,pos,b,g⟩::rest) c::k) l:=by
 exact VM o hh j hs n λp e=>by rwa[e]
def Xe(l:bJ)(asx:L Operand):Q (World->(Nat->Prop)->Value->Prop):=
 match asx with
 |[]=>none
 |m::q=>match q with
  |[]=>(eP l m).bind λm=>(dB m).bind λ(ob,v)=>match ob with
   |[]=>match v with
    |.ob K=>some K
    |_=>none
   |_::_=>none
  |_::_=>none
def acy{all:Array Oper}{d:Nat}{b:Builtin}{asx f:Array _}{ty:TypeId}{pos:String}{c:Array Edge}{g:Q (Nat×Bool)}{K:L Mv->St->Prop}{J:World->(Nat->Prop)->Value->Prop}{y:SV}{l':bJ}{j:L Nat}
 (r:dP l all.toList g=some true)(hh:Xe l asx.toList=some J)(o:y.aK=true)(hs:Obs P ⟨some d,.call ⟨.builtin b,asx,f⟩,ty,pos,c,g⟩ J y.den)(n:qP l [] d y (λl'=>some (l',[d]))=some (l',j))(p:∀i,bA i=j->K i (dn l')):
 Q7 P all ⟨some d,.call ⟨.builtin b,asx,f⟩,ty,pos,c,g⟩ (dn l) K:=by
 unfold Xe at hh;split at hh<;>try(cases hh)
 rename_i m q a;split at hh<;>try(cases hh)
 simp[abZ]at hh;let⟨w,t,ob,v,s,e⟩:=hh;split at e<;>try(cases e)
 split at e<;>try(cases e;done)
 rename_i h;obtain rfl:h=J:=b6
 simp[iY]at n;obtain⟨rfl,rfl⟩:=n;refine⟨.lK y.den,dS (some d) y.den [],[.lK ⟨some d,.call ⟨.builtin b,asx,f⟩,ty,pos,c,g⟩ h y.den],dn _,?_,?_,?_,p _ gq⟩;unfold fQ;rw[dV r];have u:(resolve (dn l) m).cont=some (.ob h):=by rw[cS t];exact aH s U
 simp[kZ,a,u,cO,o];simp;exact hs;have:=ia l [] d y;simp[dS,kl];rw[this]
def ae3{all:Array Oper}{h:L Nat}{c:L (L Nat×L Nat)}{rest:L Oper}{d:Nat}{b:Builtin}{asx e:Array _}{ty:TypeId}{pos:String}{a:Array Edge}{g:Q (Nat×Bool)}{J:World->(Nat->Prop)->Value->Prop}{l':bJ}{i:L Nat}(y:SV)
 (n:dP l all.toList g=some true)(hh:Xe l asx.toList=some J)(j:y.aK=true)(hs:Obs P ⟨some d,.call ⟨.builtin b,asx,e⟩,ty,pos,a,g⟩ J y.den)(m:qP l [] d y (λl'=>some (l',[d]))=some (l',i))
 (p:AK R P N F (.vB all h rest ((kJ (dn l) all ⟨some d,.call ⟨.builtin b,asx,e⟩,ty,pos,a,g⟩,i)::c)::k) l'):
 AK R P N F (.vB all h (⟨some d,.call ⟨.builtin b,asx,e⟩,ty,pos,a,g⟩::rest) c::k) l:=by
 exact acy n hh j hs m λo f=>by rwa[f]
end
end Go.Ai
