/- TopRefused holds. -/
import Derived.Test.YtacjimehcbbkbaaGreatDoorTZAD
import Derived.Lib.ConvBytes
import Derived.Laws.AppendOwn
import Derived.MapKept
import Derived.Test.YtacjimehcbbkbaaGreatDoorProg
set_option linter.all false
set_option maxRecDepth 100000
set_option maxHeartbeats 0
namespace Go.Ai
open Go.RowKit
section
variable{R:Q Nat->Prop}{P:Program}{N:Nat}{F:St->Prop}{k:L It}{l:bJ}
section
variable{b:Bool}{y:L SV}{i:Nat}{pe:Q Code}{σ:St}
def ma.fit{V:Hid}{w0 w:World}{S0:Nat->Prop}{a:Act}{l':L (Nat×SV)}(v:sS l l')(h:ma N V w0 S0 (dn l) a w):ma N V w0 S0 (dn<|sl l') a w:=by
 let⟨S,F,z,hc,s,o,g,f,p,m,hm⟩:=h;have hi:Inv N (V.Yi F _) w S _ a w:=⟨S,F,⟨hc.rel,hc.nodup,hc.dz,λi b e=>⟨.inr ⟨i,e⟩,(hc.own i b e).2⟩,hc.shr⟩,s,W,λ_ h=>h,λ_ h=>.inl h,mQ.refl _ _⟩
 obtain⟨t,u,c,x,-,k1,k2,-⟩:=Ka v hi;have r:∀i b,b∈u i->∃j,b∈F j:=λi b e=>by have:=c.own i b e;rcases this.1 with h|h;omega;exact h
 have q:∀b,t b->S b\/∃j,b∈F j:=λb e=>by rcases k2 b e with h|h;exact .inl h;rcases h with h|h;exact abK (c.shr b e)<|Nat.not_lt.2 h;exact .inr h
 refine⟨t,u,z,⟨c.rel,c.nodup,c.dz,λi b e=>?_,c.shr⟩,s,o,λb e=>k1 b<|g b e,λb e=>?_,p,m,λd A=>?_⟩;let⟨j,n⟩:=r i b e;exact⟨(hc.own j b n).1,(c.own i b e).2⟩;rcases q b e with h|⟨j,n⟩;exact f b h;exact .inr (hc.own j b n).1
 grind
def aa6{c:Code}{Q g:Exit->St->Prop}(h:AW R P N c Q σ)(m:∀e f,Q e f->∃d,g e d/\∀V w0 S0 a w,ma N V w0 S0 f a w->ma N V w0 S0 d a w):AW R P N c g σ:=by
 intro V _ _ a w j hi;refine wpIn_mono (h V _ _ a w j hi) ?_
 grind
def Pb:L Nat->Nat->Q Nat
 |[],_=>none
 |r::ex,i=>match Nat.beq r i with
  |true=>some 0
  |false=>match Pb ex i with
   |some k=>some (k+1)
   |none=>none
def wi:∀{ex:L Nat}{i j:Nat},Pb ex i=some j->ex[j]?=some i
 |[],i,j,h=>by simp[Pb]at h
 |r::ex,i,j,h=>by
  simp[Pb]at h;split at h;cases h;simp_all;split at h<;>try(cases h;done)
  rename_i k a;cases h;simpa using wi a
def U8(l:bJ)(ex:L Nat)(i:Nat):Q (SV×Bool):=
 match Pb ex i with
 |some j=>some (.bH (500+j) 0 0 [],false)
 |none=>match(gt l i).v with
  |.bH r g1 _ p=>match Pb ex r with
   |some j=>(iR<|fe (lN p)<|Nat.beq (gt l r).g1 g1).bind λ_=>some (.bH (500+j) 0 0 p,false)
   |none=>none
  |.ptr r g1 _ p=>match Pb ex r with
   |some j=>(iR<|fe (flat p)<|Nat.beq (gt l r).g1 g1).bind λ_=>some (.ptr (500+j) 0 0 p,false)
   |none=>none
  |v=>(iR<|fe v.plain v.aK).bind λ_=>some (v,true)
def Ov{ex:L Nat}{v:SV}{t:Bool}(h:U8 l ex i=some (v,t)):(t=false->∀is,View (dn l) ex is i v.den)/\(t=true->(dn l i).av=v.den/\v.den.plain=true/\v.den.aK=true):=by
 unfold U8 at h;split at h;rename_i j a;cases h;exact⟨λ_ _=>.own<|wi a,λh=>by grind⟩;split at h;rename_i r g1 g2 p d;split at h<;>try(cases h)
 rename_i j a;simp only[abZ,bW,bL,beq_iff]at h;obtain⟨_,⟨c,e⟩,rfl,rfl⟩:=h;exact⟨λ_ _=>.bH (wi a) (by rw[eB,d];rfl) c<|by rwa[CP],λh=>by grind⟩;rename_i r g1 g2 p d;split at h<;>try(cases h)
 rename_i j a;simp only[abZ,bW,bL,beq_iff]at h;obtain⟨_,⟨c,e⟩,rfl,rfl⟩:=h;exact⟨λ_ _=>.ptr (wi a) (by rw[eB,d];rfl) c<|by rwa[CP],λh=>by simp at h⟩;simp only[abZ,bW,bL]at h;obtain⟨_,⟨c,e⟩,rfl,rfl⟩:=h;exact⟨λh=>by simp at h,λ_=>⟨by rw[eB],by rw[cW];exact c,by rw[cO];exact e⟩⟩
def TU:L Nat->Nat->Bool
 |[],_=>false
 |r::q,i=>Hk (Nat.beq r i)<|TU q i
def ES:∀{q:L Nat}{i:Nat},TU q i=true↔i∈q
 |[],i=>by simp[TU]
 |r::q,i=>by
  simp[TU,tW,ES]
  grind
def D3(l:bJ)(ex ps:L Nat)(N:Nat):L Nat->Q (L (Nat×SV)×L Nat)
 |[]=>some ([],[])
 |i::q=>(iR<|fe (Nat.ble (i+1) N)<|not'<|TU ps i).bind λ_=>(U8 l ex i).bind λ(v,t)=>(D3 l ex ps N q).bind λ(a,is)=>match t with
  |true=>some ((i,v)::a,i::is)
  |false=>some ((i,v)::a,is)
def View.more{ex is a:L Nat}{v:AV}(h:View σ ex is i v)(hs:∀j∈is,j∈a):View σ ex a i v:=by
 cases h with
 |own h=>exact .own h
 |bH h e d c=>exact .bH h e d c
 |ptr h e d c=>exact .ptr h e d c
 |val h=>exact .val<|hs _ h
def B2{ex ps:L Nat}:∀{q:L Nat}{a:L (Nat×SV)}{is:L Nat},D3 l ex ps N q=some (a,is)->
 (∀i∈is,(dn l i).av.plain=true/\(dn l i).av.aK=true)/\∀x∈a,View (dn l) ex is x.1 x.2.den/\x.1<N/\x.1∉ps
 |[],a,is,h=>by simp[D3]at h;simp_all
 |i::q,a,is,h=>by
  simp only[D3,abZ,bW,bL,ahk]at h;let⟨_,⟨s,e⟩,v,t,r,f,m,p,o⟩:=h;let⟨k1,k2⟩:=B2 p;let⟨m1,g⟩:=Ov r;have hn:=af4 s;have n:i∉ps:=λhh=>by rw[ES.2 hh]at e;cases e
  cases t with
  |true=>
   cases o;let⟨u,C,B⟩:=g W;refine⟨λj d=>?_,λx c=>?_⟩
   grind
   rcases adb.1 c with rfl|c;exact⟨by dsimp only;rw[<-u];exact .val I,hn,n⟩;let⟨A,z,w⟩:=k2 x c;exact⟨A.more λj d=>aiG _ d,z,w⟩
  |false=>grind
def Mn:L Nat->Bool
 |[]=>true
 |i::q=>fe (not'<|TU q i)<|Mn q
def xQ:∀{q:L Nat},Mn q=true->q.Nodup
 |[],_=>aee
 |i::q,h=>by simp[Mn,bL,not_iff]at h;exact af6.2 ⟨λhh=>by rw[ES.2 hh]at h;simp at h,xQ h.2⟩
def KM(N:Nat):L Nat->Bool
 |[]=>true
 |i::q=>fe (Nat.ble (i+1) N)<|KM N q
def C2:∀{q:L Nat},KM N q=true->∀i∈q,i<N
 |[],_,i,hi=>by grind
 |j::q,h,i,hi=>by simp only[KM,bL]at h;rcases adb.1 hi with rfl|hi;exact af4 h.1;exact C2 h.2 i hi
def DK(l:bJ):L Nat->Bool
 |[]=>true
 |i::q=>fe (gt l i).v.iF<|DK l q
def zo:∀{q:L Nat},DK l q=true->∀i∈q,(dn l i).av.iF=true
 |[],_,i,hi=>by grind
 |j::q,h,i,hi=>by simp[DK,bL]at h;rcases adb.1 hi with rfl|hi;rw[eB,nS];exact h.1;exact zo h.2 i hi
def Ye(l:bJ):L Nat->L SV
 |[]=>[]
 |i::q=>(gt l i).v::Ye l q
def Jd:∀(q:L Nat)(j:Nat),j<q.length->(aE<|Ye l q)[j]?=some (dn l<|q.getD j 0).av
 |[],j,h=>by cases h
 |i::q,j,h=>by
  cases j with
  |zero=>rfl
  |succ j=>exact Jd q j (aR)
def xT(l:bJ):L Nat->L SV->bJ
 |[],_=>l
 |r::ex,ys=>match ys with
  |[]=>(match gt l r with|⟨_,a,b⟩=>(r,⟨.dead,a,b+1⟩)::xT l ex [])
  |y::ys=>(match gt l r with|⟨_,a,b⟩=>(r,⟨y,a,b+1⟩)::xT l ex ys)
def tx:∀(ex:L Nat)(ys:L SV),u9 (dn l) ex (aE ys)=dn (xT l ex ys)
 |[],ys=>gq
 |r::ex,ys=>by
  funext i
  cases ys with
  |nil=>
   simp[xT,gE,jg,Cl.den,SV.den,<-tx ex []];unfold u9;simp[idxOf,aE];by_cases h:r=i;subst h;simp[CP,R4]
   grind
  |cons y ys=>
   simp[xT,gE,jg,Cl.den,<-tx ex ys];unfold u9;simp[idxOf,aE];by_cases h:r=i;subst h;simp[CP,R4]
   grind
def QE(y:L SV)(σ:St):Prop:=∃l a,σ=dn l/\sS l a/\M5 (sl a) 500 y
def NB(y:L SV)(b:Bool)(pe:Q Code)(σ:St):Prop:=(b=true/\pe=none)/\QE y σ
def RB(y:L SV)(b:Bool)(pe:Q Code)(σ:St):Prop:=(b=false/\pe=some .ret)/\QE y σ
def Body(P:Program)(N:Nat)(body:Code)(y:L SV)(b:Bool)(pe:Q Code)(σ:St):Prop:=kM R1 P N (RB y b pe) [.code body,.inv<|NB y b pe] .normal σ
def Ox{body:Code}(h:AK R1 P N (RB y b pe) [.code body,.inv<|NB y b pe] l):AK R P N F [.inv<|Body P N body y b pe] l:=h
def Wy(l':L (Nat×SV))(d:b=true)(a:pe=none)(c:sR l l')(hh:M5 (sl l') 500 y):AK R P N F (.inv (NB y b pe)::k) l:=⟨⟨d,a⟩,l,l',W,c.Jj,hh⟩
def aeA(l':L (Nat×SV))(d:b=false)(a:pe=some .ret)(c:sR l l')(hh:M5 (sl l') 500 y):AK R P N (RB y b pe) [] l:=⟨⟨d,a⟩,l,l',W,c.Jj,hh⟩
def Cj(h:QE y σ):∃c,(∀(j:Nat)(v:AV),(aE y)[j]?=some v->(c<|500+j).av=v/\v.iF=true)/\∀V w0 S0 a w,ma N V w0 S0 σ a w->ma N V w0 S0 c a w:=by obtain⟨l,g,rfl,f,e⟩:=h;exact⟨dn _,λj v d=>Fe j e d,λV _ _ a w hi=>hi.fit f⟩
def O7{g:Operand}{ps:Array Tmp}{d body:Code}{gf:FuncId}{u:Func}{captured:L SV}{sr:SR}{T:L (Nat×SV)}{is:L Nat}(ex vs:L Nat)(n m:Nat)(x y:Nat->L SV)(b:Nat->Bool)(pe:Nat->Q Code)(r:SV)
 (hN:Nat.ble N 500=true)(E2:aO g=true)(hg:eP l g=some sr)(F0:dB sr=some ([],.fn (.func gf) [] captured))(G1:iG captured=true)(hf:P.funcs[gf]?=some u)(F2:u.body.isNone=false)(F1:(u.name== "runtime.NumGoroutine")=false)(F3:Nat.ble (len captured+1) 499=true)
 (p:fe (Mn ex) (DK l ex)=true)(o:fe (Mn ps.toList) (KM N ps.toList)=true)(Z:D3 l ex ps.toList N vs=some (T,is))
 (hx:∀k,k<n->(x k).length=ps.size)(hy:∀k,(y k).length=ex.length)(X:∀k,k<n->∀z∈y k,z.iF=true)(Y:y 0=Ye l ex)(H:pe 0=none)(A0:∀k,k<n->(∀j,j<k->b j=true)->pe k=none)
 (E1:∀(C:Value->Prop)(J:Nat->sV),(∀v,C v->∀k,k<n->(∀j,j<k->b j=true)->Yields P (J k) (J<|k+1) (aE<|x k) (b k) v)->kg P gf [.abs<|J 0] (.pv C::captured) [.abs<|J m] r)
 (t:∀k,k<n->(∀j,j<k->b j=true)->AK R1 P N (λ_=>False) [.code d,.inv<|Body P N body (y<|k+1) (b k)<|pe<|k+1] (sl<|cat T<|cat (uV ps.toList<|x k)<|ux 500 (y k)))
 (s:pe m=none->AK R0 P N F k (xT l ex<|y m))(q:∀c,pe m=some c->c=.ret/\AK R0 P N F [] (xT l ex<|y m)):AK R0 P N F (.code (.rangeFunc g ps d body)::k) l:=by
 rw[bL]at p o;let⟨v1,v2⟩:=B2 Z;have M:=af4 hN;have K:(aE captured).length<499:=by rw[bS,<-fW];exact af4 F3
 refine Ya (σB:=λk=>dn<|sl<|cat T<|cat (uV ps.toList<|x k)<|ux 500 (y k)) (captured:=aE captured) (r:=r.den) (ex:=ex) (is:=is) (n:=n) (m:=m) (x:=λk=>aE<|x k) (y:=λk=>aE<|y k) (b:=b) (pe:=pe) M E2 ?_ ?_ hf F2 F1 K (xQ p.1) (zo p.2) v1 ?_ ?_ ?_ H A0 ?_ ?_ ?_ ?_;rw[cS hg];exact aH F0 U;rwa[ff];intro k A;rw[bS];exact hx k A;intro k;rw[bS];exact hy k;intro j hj;rw[Y];exact Jd ex j hj;exactλC J h=>E1 C J h;intro V a w S B F' ha hc k A;exact S3 M ha hc v1 v2 (xQ o.1) (C2 o.2) (hx k A) (hy k)<|X k A;intro k A hb;refine kW (t k A hb) λe G0 he=>?_;cases e with
 |normal=>
  refine⟨W,?_⟩;refine aa6 he λe F4 O=>?_;cases e with
  |normal=>let⟨f,h6,h7⟩:=Cj (N:=N) O.2;exact⟨f,⟨O.1,h6⟩,h7⟩
  |ret=>let⟨f,h6,h7⟩:=Cj (N:=N) O.2;exact⟨f,⟨O.1,h6⟩,h7⟩
  |_=>exact(O).elim
 |_=>exact(he).elim
 ·cases D:pe m with
  |none=>rw[tx];exact s D
  |some c=>obtain⟨rfl,h2⟩:=q c D;rwa[tx,nQ]
end
end
section
variable{R:Q Nat->Prop}{P:Program}{N:Nat}{F:St->Prop}{k:L It}{l:bJ}
section
variable{ks:L Nat}{o:Oper}{r:SV}{l':bJ}
def kf(P:Program)(o:Oper)(H args a:L SV)(r:SV):Prop:=YC P o (aE H) (aE args) (aE a) r.den
def kf.same{H b asx bs a c:L SV}{q:SV}(h:kf P o H asx a r)(g:aE H=aE b)(f:aE asx=aE bs)(e:aE a=aE c)(d:r.den=q.den):kf P o b bs c q:=by unfold kf at *;grind
structure K3 where
 R:List (Nat×SV)
 asx:List SV
def Kc(l:bJ)(ops:L Operand):Q K3:=
 (ko l ops).bind λb=>match gV [] b with
   |R=>(Gw R b).bind λa=>(iR<|Nat.ble (len a) 500).bind λ_=>some ⟨R,a⟩
def VO{all:Array Oper}{K:L Mv->St->Prop}{h:K3}{out:L SV}
 (q:dP l all.toList o.guard=some true)(f:wX (dn l) o.op=true)(hh:Kc l o.op.operands.toList=some h)(hs:kf P o (ra h.R) h.asx out r)(a:mn l o.dst h.R out r=some (l',ks))(p:∀j,bA j=ks->K j (dn l')):
 Q7 P all o (dn l) K:=by
 unfold Kc at hh;simp only[abZ,bW,abL]at hh;obtain⟨b,u,i,t,_,s,rfl⟩:=hh;simp[mn]at a;split at a<;>try(cases a)
 rename_i n;simp[bL,not_iff]at n;let⟨g,y,x,z,w⟩:=n;have v:eJ [] (b.map _)=lv _:=mZ [] _;have c:Rq o.dst (b.map SR.den) (aE out) r.den=some (dS o.dst r.den [.back<|qY (lv<|gV [] b)<|aE out],aE<|ra<|gV [] b,aE i):=by unfold Rq;simp[v,wN t,yH];simp[jm _ y,jm _ x,cW,zM _ _ w,F8,bS];have:=af4 s;simp[fW]at this g;simp_all
 have e:Mv.runs (dn l) (dS o.dst r.den [.back<|qY (lv<|gV [] b)<|aE out])=some (dn l')/\bA (dS o.dst r.den [.back<|qY (lv<|gV [] b)<|aE out])=ks:=by
  cases m:o.dst with
  |none=>rw[m]at a;cases a;exact⟨pa,by simp[dS,bA];exact pZ _ _ g⟩
  |some d=>rw[m]at a;simp[iY]at a;obtain⟨rfl,rfl⟩:=a;exact⟨by simp[dS,Mv.runs,Mv.run,ky,ia],by simp[dS,bA,Mv.keys,dA];rw[pZ _ _ g]⟩
 refine⟨.ext (aE out) r.den,_,[.ext o (aE<|ra<|gV [] b) (aE i) (aE out) r.den],dn l',?_,?_,e.1,p _ e.2⟩;unfold fQ;rw[dV q];simp[kZ,f,fJ l u,c];simp[Ob.ok];exact hs
def oA{all:Array Oper}{rest:L Oper}{h:K3}{out:L SV}
 (d:dP l all.toList o.guard=some true)(a:wX (dn l) o.op=true)(hh:Kc l o.op.operands.toList=some h)(hs:kf P o (ra h.R) h.asx out r)(b:mn l o.dst h.R out r=some (l',ks))(c:AK R P N F (.ops all rest::k) l'):
 AK R P N F (.ops all (o::rest)::k) l:=by
 exact VO d a hh hs b λe _=>c
def ry{all:Array Oper}{d:L Nat}{a:L (L Nat×L Nat)}{rest:L Oper}{h:K3}{out:L SV}
 (f:dP l all.toList o.guard=some true)(c:wX (dn l) o.op=true)(hh:Kc l o.op.operands.toList=some h)(hs:kf P o (ra h.R) h.asx out r)(e:mn l o.dst h.R out r=some (l',ks))
 (i:AK R P N F (.vB all d rest ((kJ (dn l) all o,ks)::a)::k) l'):
 AK R P N F (.vB all d (o::rest) a::k) l:=by
 exact VO f c hh hs e λg b=>by rwa[b]
end
end
def Aw{w:World}{S:Nat->Prop}:∀{xs:L AV}{a:L Value},a.length=xs.length->(∀i(h:i<xs.length),Rel w S xs[i] (a.getD i undef) [])->Cells w S false xs a []
 |[],a,h,_=>by simp at h;simp[Cells,h]
 |x::xs,[],h,_=>by cases h
 |x::xs,v::a,h,k=>by refine⟨v,a,[],[],W,W,I,k 0 I,Aw (aR) λi hi=>?_⟩;have:=k (i+1) (by grind);grind
def oU{P:Program}{o:Oper}{args:L SV}{r:SV}(q:iG args=true)(p:oN args=true)(D:args.length<500)
 (h:∀(w:World)(S:Nat->Prop)(g:L Value),(∀b,S b->b<w.heap.size)->Cells w S false (aE args) g []->Ext P o g.toArray w λv w'=>∃S' F,Below w.heap.size w w'/\(∀b,S b->S' b)/\(∀b,S' b->S b\/w.heap.size<=b)/\(∀b,S' b->b<w'.heap.size)/\
   Rel w' S' r.den v F/\F.Nodup/\∀b∈F,w.heap.size<=b/\b<w'.heap.size/\¬S' b):
 kf P o [] args [] r:=by
 intro w S V g F hl hc;rw[bS]at hl;have c:Cells w S false (aE args) g []:=by
  refine Aw (by rw[bS];exact hl) λi hi=>?_;have M:i<args.length:=by rwa[bS]at hi
  have A:=hc.rel i;have f:=fT (args:=aE args) (H:=aE []) (i:=i) E;rw[ad7 hi]at f;have B:(aE args)[i].plain=true:=by have:=tj (jm _ p)<|ad7 hi;exact this
  rw[an.aC<|by rw[f];exact B,f]at A;have hn:(aE args)[i].aK=true:=by
   have T:cz (aE args)=true:=by rw[ff];exact q
   have:∀(l:L AV),cz l=true->∀x∈l,x.aK=true:=by
    intro l
    induction l with
    |nil=>intro _ x z;cases z
    |cons y l Y=>
     intro hl x z;simp[cz]at hl
     grind
   exact this _ T _<|ab3 hi
  have e:=Rel.aK _ A hn;have Z:a7 V g i=g.getD i undef:=by unfold a7;rw[abx E]
  simp_all
 refine Ext.mono ?_<|h w S g hc.shr c;rintro v w'⟨S',X,a,u,t,s,d,C,O⟩;have m:∀i,(both [r.den] (aE []) i).av=if i=0 then r.den else .dead:=by
  intro i;by_cases hi:i<500;rw[fT hi]
  grind
  obtain⟨j,rfl⟩:∃j,i=500+j:=⟨i-500,E⟩;rw[fi I];simp[aE]
 refine⟨S',λi=>if i=0 then X else[],⟨a.os,a.tape,a.output,a.size,λk J _=>a.block k J⟩,u,λb h=>(t b h).imp id .inl,⟨λi=>?_,λi=>?_,λi j K b f=>?_,λi b f=>?_,s⟩⟩;rw[an.aC<|by rw[m];split;exact d.plain;rfl,m];by_cases hi:i=0;subst hi;have:a7 V [v] 0=v:=W;rw[this];exact d;simp[hi,Rel]
 grind
 grind
 split at f;have:=O b f;exact⟨.inl this.1,this.2⟩;cases f
def Qh{P:Program}{o:Oper}{d f e:TypeId}{x:Operand}(s:cj){u:TypeDesc}(cH:o.op=.convert d f x)(hs:P.underlying d=some u)(z:P.underlying f=some (.slice e))(he:P.underlying e=some (.int .u8)):
 kf P o [] [.s s] [] (.ints .u8 false<|s.map λc=>(c.toNat:Int)):=by
 refine oU W W I ?_;intro w S A B hc m g;obtain⟨y,l',H,D,rfl,C,_,q,rfl,rfl⟩:=hc;obtain⟨_,rfl,rfl⟩:=q;have p:m x=.string (bs s):=by rw[cH]at g;simpa[Op.operands]using g
 refine⟨_,.slice (some ⟨w.heap.size,0,none⟩) (bs s).size<|grownCap w (bs s).size 0 e,Lib.bytesWorld w e<|bs s,?_,.inl W,λb=>S b\/b=w.heap.size,[],?_,λb h=>.inl h,λb h=>h.imp id λh=>E,λb h=>?_,?_,aee,I⟩;simp[execOp,cH,p];simp[Lib.run_convert_string_bytes w d f e _ hs z he];refine⟨W,W,W,by rw[Lib.bytesWorld_size];omega,λk v=>Lib.bytesWorld_at_old w e _ k v⟩;rw[Lib.bytesWorld_size]
 grind
 simp only[SV.den,Rel];right;have i:(bs s).size=s.length:=W;have j:=grownCap_ge w (bs s).size 0 e;refine⟨w.heap.size,0,_,_,_,by rw[adZ,adZ,i],.inr W,by unfold row?;rw[Lib.bytesWorld_at_new],?_,?_,U⟩;simp_all;have hl:(((Lib.bytesCells w e<|bs s).toList.drop 0).take<|(((s.map λc=>(c.toNat:Int)).map λa=>AV.v<|.int .u8 a).length*1))=s.map λc=>Value.int .u8 c.toNat:=by rw[ahe];unfold Lib.bytesCells;rw[Array.toList_append,ai1<|by simp[bs]];simp[bs];exact ad2 I
 rw[hl];have:∀t:cj,dG (Lib.bytesWorld w e<|bs s) (λb=>S b\/b=w.heap.size) 1 ((t.map λc=>(c.toNat:Int)).map λa=>AV.v<|.int .u8 a) (t.map λc=>Value.int .u8 c.toNat) []:=by
  intro t
  induction t with
  |nil=>simp[dG]
  |cons c t n=>exact⟨.int .u8 _,_,[],[],W,W,W,d7,n⟩
 exact this s
def ZY{P:Program}{o:Oper}{t rt:TypeId}{x:Operand}{e:Array (String×TypeId)}(cH:o.op=.binOp .neq t x (.const .nilIface) rt)(hu:P.underlying t=some (.interface e)):
 kf P o [] [.c .nilIface,.c .nilIface] [] (.b false):=by
 refine oU W W I ?_;intro w S n g hc j a;obtain⟨y,l',z,v,rfl,q,_,f,m,p,u,s,rfl,i,_,d,rfl,rfl⟩:=hc;obtain⟨_,rfl,rfl⟩:=f;obtain⟨_,rfl,rfl⟩:=d;rw[cH]at a;simp[Op.operands,abu]at a;refine⟨_,.bool false,w,?_,.inl W,S,[],Below.refl _ _,λ_ h=>h,λ_ h=>.inl h,g,ep,aee,I⟩;simp[execOp,cH,a.1,a.2];have he:(Op.equalIn 10000 t Value.nilIface Value.nilIface).run P w=.ok true w:=by unfold Op.equalIn;simp[run_underlying hu]
 simp[eqGuard,binOp,Op.equal,Op.maxDepth,he]
section
variable{P:Program}{w:World}{S:Nat->Prop}
section
variable{ts:Array TypeId}{V:Hid}{X Y:L AV}{vs:L Value}{b i n:Nat}{F:Nat->L Nat}{o:Oper}{d s:Operand}{t:TypeId}{w':World}
def LK{ty e:TypeId}{ti:TI}(l:ts[0]?=some t)(hu:P.underlying t=some (.slice e))(h:cC P e=some ti){off m1 c1 n2 c2:Nat}{a:Addr}{cs:Array Value}{us:L Value}
 (m:row? w b=some (cs,(0,0)))(hn:Nat.min n2 m1=n)(f:us.length=n*ti.size)(g:∀j v,us[j]?=some v->w.cell? (a.add j)=some v)(p:∀u∈us,u.oneCell'=true)(k:off+n*ti.size<=cs.size):
 (Builtin.copy_ ts ty #[.slice (some ⟨b,off,none⟩) m1 c1,.slice (some a) n2 c2]).run P w=.ok (.int .i64 n) (w.setRow b (cs.toList.take off++us++cs.toList.drop (off+n*ti.size)).toArray):=by
 have hh:∃e,w.heap[b]?=some (.cells cs e (0,0)):=by
  unfold row? at m
  grind
 let⟨q,he⟩:=hh;have c:=run_storeCells_at P b off q us 0 cs w he E p;simp[f]at c;simp[Builtin.copy_,l,run_underlying hu,dW h,Builtin.lenOf,hn,run_firstCells_some w _ n a n2 c2 us f g,c,goInt]
def setRow_other(b:Nat)(cs:Array Value){c:Nat}(h:c≠b):(w.setRow b cs).heap[c]?=w.heap[c]?:=by
 simp[World.setRow]
 grind
def OU{cs:Array Value}(cs':Array Value)(a:row? w b=some (cs,(0,0))):row? (w.setRow b cs') b=some (cs',(0,0)):=by
 have hh:∃e,w.heap[b]?=some (.cells cs e (0,0)):=by
  unfold row? at a
  grind
 let⟨c,he⟩:=hh;have:=setRow_heap w b _ cs' c _ he;simp[row?,this]
def kx(r x:AV):∀i,(both [r] [x] i).av=if i=0 then r else if i=500 then x else .dead:=by
 intro i;by_cases hi:i<500;rw[fT hi]
 grind
 obtain⟨j,rfl⟩:∃j,i=500+j:=⟨i-500,E⟩;rw[fi I]
 grind
def copied{args:L AV}{sz:Nat}{X':L AV}{cap:Nat}{cs cs':Array Value}{n:Int}(J:args.length<=500)(hc:aT S V.g (both args [.list .own sz X]) (a7 V vs) w F)
 (C:V.v 500=.slice (some ⟨b,0,none⟩) X.length cap)(x:row? w b=some (cs,(0,0)))(A:F 500=[b])(l:X.length<=cap/\cap<=maxLen)(q:cs'.size=cap*sz)(f:X'.length=X.length)
 (B:dG (w.setRow b cs') S sz X' (cs'.toList.take<|X.length*sz) []):
 ∃S' F',tZ V w w (w.setRow b cs')/\(∀b,S b->S' b)/\(∀b,S' b->S b\/c6 V w b)/\aT S' (c6 V w) (both [.v<|.int .i64 n] [.list .own sz X']) (a7 V [.int .i64 n]) (w.setRow b cs') F':=by
 have a:=hc.own 500 b (by grind);have p:(w.setRow b cs').heap.size=w.heap.size:=I;refine⟨S,λi=>if i=500 then[b]else[],⟨W,W,W,E,λk D H=>setRow_other b cs' λe=>gn⟩,λ_ h=>h,λ_ h=>.inl h,
  ⟨λi=>?_,λi=>?_,λi j y c m=>?_,λi c m=>?_,λc h=>by rw[p];exact hc.shr c h⟩⟩
 rw[an.aC<|gb,kx];by_cases u:i=0;subst u;exact mv;by_cases r:i=500;subst r;have z:a7 V [.int .i64 n] 500=.slice (some ⟨b,0,none⟩) X'.length cap:=by unfold a7;simp_all
 rw[z];exact .inr ⟨b,cap,cs',[],W,OU cs' x,by rw[f];exact l.1,l.2,q,by rw[f];exact B,W⟩;simp[u,r,Rel];split<;>simp
 grind
 split at m;simp at m;subst m;exact⟨.inr a.1,E,a.2.2⟩;cases m
def R3{sz off cap:Nat}{cs:Array Value}{us:L Value}(h:dG w' S sz X (cs.toList.take<|X.length*sz) [])(hY:dG w' S sz (Y.take n) us [])(hn:(Y.take n).length=n)(c:off+n<=X.length)(l:cs.size=cap*sz)(a:X.length<=cap):
 dG w' S sz (X.take off++Y.take n++X.drop (off+n)) ((cs.toList.take (off*sz)++us++cs.toList.drop (off*sz+n*sz)).take<|X.length*sz) []:=by
 have k:us.length=n*sz:=by have:=dG.length sz hY;simp_all
 have m1:X.length*sz<=cap*sz:=ad6 _ a;have p:(off+n)*sz<=X.length*sz:=ad6 _ c;have j:off*sz+n*sz=(off+n)*sz:=(aer _ _ _).symm;have g:=dG.sub sz 0 off h E;have f:=dG.sub sz (off+n) (X.length-(off+n)) h E;simp at g;rw[List.take_take,Nat.min_eq_left E]at g;rw[ad2 I]at f;have m:((cs.toList.take<|X.length*sz).drop<|(off+n)*sz).take ((X.length-(off+n))*sz)=(cs.toList.drop<|(off+n)*sz).take ((X.length-(off+n))*sz):=by
  rw[List.drop_take,List.take_take]
  grind
 rw[m]at f;have e:(cs.toList.take (off*sz)++us++cs.toList.drop (off*sz+n*sz)).take (X.length*sz)=cs.toList.take (off*sz)++us++(cs.toList.drop<|(off+n)*sz).take ((X.length-(off+n))*sz):=by
  have hl:(cs.toList.take (off*sz)++us).length=(off+n)*sz:=by grind
  rw[List.take_append,ad2<|by rwa[hl],hl,j,Nat.sub_mul]
 rw[e];have:=(g.append sz hY).append sz f;simpa using this
def M4{args:L AV}{sz:Nat}(l:args.length<=500)(hc:aT S V.g (both args [.list .own sz X]) (a7 V vs) w F)(x:X≠[])(a:cz X=true):
 ∃b cap cs,V.v 500=.slice (some ⟨b,0,none⟩) X.length cap/\row? w b=some (cs,(0,0))/\F 500=[b]/\X.length<=cap/\cap<=maxLen/\cs.size=cap*sz/\dG w S sz X (cs.toList.take<|X.length*sz) []/\¬S b:=by
 have e:=hc.rel 500;have f:=fi (H:=[.list .own sz X]) l 0;rw[an.aC<|by rw[f];rfl,f]at e;rcases e with⟨h,-⟩|⟨b,cap,cs,y,u,r,q,p,m,k,j⟩;simp_all;have c:=dG.aK _ k a;subst c;exact⟨b,cap,cs,u,r,j,q,p,m,k,(hc.own 500 b<|by grind).2.2⟩
def IH{a:Operand->Value}(e:o.op=.call ⟨.builtin .copy,#[d,s],ts⟩)(c:o.op.operands.toList.map a=vs){v:Value}(h:∀x y,vs=[x,y]->(Builtin.copy_ ts o.type #[x,y]).run P w=.ok v w'):
 (execOp a o).run P w=.ok (.value v) w':=by
 have:=h (a d) (a s) (by rw[<-c,e];rfl);simp[execOp,e,Go.resolve,invoke,builtin,this]
def QI{args:L AV}{sz cap c m:Nat}(hi:i<500)(hc:aT S V.g (both args [.list .own sz X]) (a7 V vs) w F)(k:V.v 500=.slice (some ⟨b,0,none⟩) n cap)
 (l:args[i]?=some (.bH 500 0 0 [.oC sz c m]))(h:args.length<=500)(p:0<m/\c+m<=X.length):vs.getD i undef=.slice (some ⟨b,c*sz,none⟩) m (cap-c):=by
 have f:a7 V vs 500=V.v 500:=gq;have hs:=hc.rel i;have j:=fT (args:=args) (H:=[.list .own sz X]) hi;rw[l]at j;unfold an at hs;rw[j]at hs;obtain⟨a,k1,k2,-⟩:=hs.2.2.2 (Qt _).1 (.inr (Qt _).2) λ_=>by rw[fi (args:=args) (H:=[.list .own sz X]) h 0];simp[bM];grind
 rw[f,k]at k1;simp[loc,step1,Go.Ai.cH]at k1;subst k1;have e:a7 V vs i=vs.getD i undef:=qv
 rw[e]at k2;rw[k2,Addr.add_lit];simp
def mT{args:L AV}{x:AV}(hi:i<500)(hc:aT S V.g (both args [x]) (a7 V vs) w F)
 (j:args[i]?=some (.bH 500 0 0 [])):vs.getD i undef=V.v 500:=by
 have c:a7 V vs 500=V.v 500:=gq;have hs:=hc.rel i;have f:=fT (args:=args) (H:=[x]) hi;rw[j]at f;unfold an at hs;rw[f]at hs;obtain⟨-,-,-,h⟩:=hs;obtain⟨a,k1,k2,-⟩:=h (Qt _).1 (.inl W) λh=>by simp[lN]at h
 simp[loc]at k1;subst k1;have e:a7 V _ i=vs.getD i undef:=qv
 rw[e]at k2;rw[k2,c]
def Sh{off:Nat}{cs:Array Value}{a:Nat×Nat}(c:row? w b=some (cs,a)){us:L Value}(h:∀j v,us[j]?=some v->cs.toList[off+j]?=some v)(j:Nat)(v:Value)(f:us[j]?=some v):w.cell? ((⟨b,off,none⟩:Addr).add j)=some v:=by
 have hh:∃e,w.heap[b]?=some (.cells cs e a):=by
  unfold row? at c
  grind
 rw[Addr.add_lit];simp[World.cell?];grind
def IZ{e:TypeId}{ti:TI}(Z:o.op=.call ⟨.builtin .copy,#[d,s],ts⟩)(T:ts[0]?=some t)(hu:P.underlying t=some (.slice e))(D:cC P e=some ti){sz:Nat}(k:sz=ti.size)
 (hX:X≠[])(J:cz X=true)(K:X.all (fits ti)=true){off m1 m2:Nat}(hn:Nat.min m2 m1=n)(h1:off+m1<=X.length)(h2:m2<=X.length)(g1:0<m1)(g2:0<m2):
   YC P o [.list .own sz X] [.bH 500 0 0 [.oC sz off m1],.bH 500 0 0 [.oC sz 0 m2]] [.list .own sz<|X.take off++X.take n++X.drop (off+n)] (.v<|.int .i64 n):=by
  intro w S V vs F hl hc ρ z;let⟨b,f,r,A,H,hF,g,m,M,O,N⟩:=M4 I hc hX J;have A0:n<=m1/\n<=m2:=by grind
  obtain⟨x,y,rfl⟩:∃x y,vs=[x,y]:=by
   match vs,hl with
   |[x,y],_=>exact⟨x,y,W⟩
  have hx:x=.slice (some ⟨b,off*sz,none⟩) m1 (f-off):=QI (i:=0) E hc A W I ⟨g1,h1⟩;have hy:y=.slice (some ⟨b,0*sz,none⟩) m2 (f-0):=QI (i:=1) E hc A W I ⟨g2,E⟩;have q2:(off+n)*sz<=f*sz:=ad6 _ E;have q3:(off+n)*sz=off*sz+n*sz:=aer _ _ _;have q4:n*sz<=X.length*sz:=ad6 _ E;obtain⟨us,R⟩:∃us,us=r.toList.take (n*sz):=⟨_,W⟩;have B:us.length=n*sz:=by grind
  have q:dG w S sz (X.take n) us []:=by
   have:=dG.sub sz 0 n O E
   grind
  have l:=LK (P:=P) (w:=w) (ty:=o.type) T hu D (m1:=m1) (c1:=f-off) (n2:=m2) (c2:=f-0) (a:=⟨b,0*sz,none⟩) (off:=off*sz) (us:=us) H hn (by rw[<-k];exact B) (by
   refine Sh H λj v hj=>?_
   grind) (by
   intro u C;refine dG.one sz k q ?_ u C
   grind) gn
  rw[<-k]at l;refine⟨_,.int .i64 n,_,IH Z z λx' y' e=>?_,.inl W,copied I hc A H hF ⟨g,m⟩ (cs':=(r.toList.take (off*sz)++us++r.toList.drop (off*sz+n*sz)).toArray) ?_ ?_ ?_⟩;simp_all
  grind
  grind
  have p:∀c,S c\/c∈([]:L Nat)->(w.setRow b (r.toList.take (off*sz)++us++r.toList.drop (off*sz+n*sz)).toArray).heap[c]?=w.heap[c]?:=by rintro c(h|h);exact setRow_other b _ λe=>N (e▸h);cases h
  exact R3 (dG.frame sz _ O p) (dG.frame sz _ q p) (by simp;omega) E M g
def R8{e:TypeId}{ti:TI}(ho:o.op=.call ⟨.builtin .copy,#[d,s],ts⟩)(ht:ts[0]?=some t)(hu:P.underlying t=some (.slice e))(M:cC P e=some ti){sz:Nat}(m:sz=ti.size)
 (hX:X≠[])(N:cz X=true)(hY:Y≠[])(O:Y.all (fits ti)=true)(hn:Nat.min Y.length X.length=n):
   YC P o [.list .own sz X] [.bH 500 0 0 [],.list .shr sz Y] [.list .own sz<|Y.take n++X.drop n] (.v<|.int .i64 n):=by
  intro w S V vs F hl hc ρ D;let⟨b,q,l,hv,hr,hF,k,z,R,hE,T⟩:=M4 I hc hX N;have E2:n<=Y.length/\n<=X.length:=by grind
  obtain⟨x,y,rfl⟩:∃x y,vs=[x,y]:=by
   match vs,hl with
   |[x,y],_=>exact⟨x,y,W⟩
  have hx:=(mT (i:=0) E hc W).trans hv;have r:=hc.rel 1;have B:=fT (args:=[.bH 500 0 0 [],.list .shr sz Y]) (H:=[.list .own sz X]) (i:=1) E;rw[an.aC<|by rw[B];rfl,B]at r;have A0:a7 V [x,y] 1=y:=W;rcases r with⟨h,-⟩|⟨b2,f,C,Z,F0,h3,h4,h5,h6,h7,h8⟩;exact abK h hY;have q1:n*sz<=q*sz:=ad6 _ E;have q4:n*sz<=Y.length*sz:=ad6 _ E;obtain⟨us,E1⟩:∃us,us=(Z.toList.drop f).take (n*sz):=⟨_,W⟩;have p:dG w S sz (Y.take n) us []:=by
   have:=dG.sub sz 0 n h7 E
   grind
  have J:us.length=n*sz:=by have:=dG.length sz p;simp_all
  have g:=LK (P:=P) (w:=w) (ty:=o.type) ht hu M (m1:=X.length) (c1:=q) (n2:=Y.length) (c2:=C) (a:=⟨b2,f,none⟩) (off:=0) (us:=us) hr hn (by rw[<-m];exact J) (by
   refine Sh h5 λj v hj=>?_
   grind) (by
   intro u K;refine dG.one sz m p ?_ u K
   grind) gn
  rw[<-m]at g;have e0:Y.take n++X.drop n=X.take 0++Y.take n++X.drop (0+n):=I;have e1:l.toList.take 0++us++l.toList.drop (0+n*sz)=l.toList.take (0*sz)++us++l.toList.drop (0*sz+n*sz):=I;rw[e1]at g;refine⟨_,.int .i64 n,_,IH ho D λx' y' e=>?_,.inl W,copied I hc hv hr hF ⟨k,z⟩ (cs':=(l.toList.take (0*sz)++us++l.toList.drop (0*sz+n*sz)).toArray) ?_ ?_ ?_⟩;simp_all;simp_all;simp_all;have A:∀c,S c\/c∈([]:L Nat)->(w.setRow b (l.toList.take (0*sz)++us++l.toList.drop (0*sz+n*sz)).toArray).heap[c]?=w.heap[c]?:=by rintro c(h|h);exact setRow_other b _ λe=>T (e▸h);cases h
  rw[e0];exact R3 (dG.frame sz _ hE A) (dG.frame sz _ p A) (by simp;omega) E R k
end
end
def afM:L Pd->Bool
 |[]=>true
 |⟨_,b,_⟩::l=>match b with
  |true=>afM l
  |false=>false
def aQ:∀{l:L Pd},afM l=true->aj l
 |[],_=>trivial
 |⟨p,b,h⟩::l,hc=>by
  cases b with
  |true=>exact⟨h W,aQ hc⟩
  |false=>cases hc
mutual
def xu:SV->Option Value
 |.n k a=>some (.int k a)
 |.b x=>some (.bool x)
 |.u x=>some (.bool x)
 |.s x=>some (.string<|bs x)
 |.c v=>match scalar v with
  |true=>some v
  |false=>none
 |.fn f a c=>match a,c with
  |[],[]=>some (.func f #[] #[])
  |_,_=>none
 |.agg xs=>match Lb xs with
  |some d=>some (.agg d.toArray)
  |none=>none
 |_=>none
def Lb:List SV->Option (List Value)
 |[]=>some []
 |x::xs=>match xu x,Lb xs,x.cell with
  |some v,some d,true=>some (v::d)
  |_,_,_=>none
end
def XX{x:SV}{v:Value}(h:xu x=some v)(hc:x.cell=true):v.oneCell'=true:=by
 cases x<;>simp[xu]at h<;>try(cases h;done)
 case c w=>
  split at h<;>try(cases h;done)
  rename_i hs;simp at h;subst h;cases w<;>simp[scalar]at hs<;>rfl
 case fn f a c=>
  split at h<;>try(cases h;done)
  cases h;rfl
 case agg b=>simp[SV.cell]at hc
 all_goals(subst h;rfl)
section
variable{w:World}{S:Nat->Prop}
mutual
theorem D4:∀{x:SV}{v:Value},xu x=some v->Rel w S x.den v []/\∀{y F},Rel w S x.den y F->y=v/\F=[]
 |.n k a,v,h=>ik
 |.b x,v,h=>ik
 |.u x,v,h=>ik
 |.s x,v,h=>ik
 |.c x,v,h=>by
  simp[xu]at h;split at h<;>try(cases h;done)
  rename_i hs;cases h;exact⟨⟨hs,W,W⟩,λh=>⟨h.2.1,h.2.2⟩⟩
 |.fn f a c,v,h=>by
  simp[xu]at h;split at h<;>try(cases h;done)
  cases h;refine⟨?_,λ{y F}h=>?_⟩;simp only[SV.den,aE,Rel,Cells];simp;simp only[SV.den,aE,Rel,Cells]at h;obtain⟨a,c,t,r,rfl,⟨j,rfl⟩,⟨o,rfl⟩,rfl⟩:=h;simp_all
 |.agg i,v,h=>by
  simp[xu]at h;split at h<;>try(cases h;done)
  rename_i g d;cases h;obtain⟨j,o⟩:=Hw d;refine⟨?_,λ{y F}h=>?_⟩;simp only[SV.den,Rel];exact⟨_,W,j⟩;simp[SV.den,Rel]at h;obtain⟨B,rfl,hc⟩:=h;obtain⟨e,rfl⟩:=o hc;rw[<-e];exact G
 |.nil,_,h|.ints ..,_,h|.gh ..,_,h|.strs ..,_,h|.dt ..,_,h|.bm ..,_,h|.row ..,_,h|.de _,_,h|.box ..,_,h|.bH ..,_,h|.ptr ..,_,h|.hole,_,h|.dead,_,h|.pv _,_,h|.abs _,_,h|.ix ..,_,h|.ob _,_,h=>by simp[xu]at h
theorem Hw:∀{i:List SV}{g:List Value},Lb i=some g->Cells w S true (aE i) g []/\∀{l F},Cells w S true (aE i) l F->l=g/\F=[]
 |[],g,h=>by simp[Lb,abL]at h;subst h;exact⟨G,λh=>h⟩
 |x::i,g,h=>by
  simp[Lb]at h;split at h<;>try(cases h;done)
  rename_i v m p d hc;cases h;obtain⟨j,o⟩:=D4 p;obtain⟨q,A⟩:=Hw d;refine⟨⟨v,m,[],[],W,W,λ_=>XX p hc,j,q⟩,λ{l F}h=>?_⟩;obtain⟨y,z,t,r,rfl,rfl,_,k1,k2⟩:=h
  grind
end
end
abbrev yx(κ:Type):=L<|κ×Value
def uG(a b:cj):Bool:=match decEq a b with
 |isTrue _=>true
 |isFalse _=>false
def vY{a b:cj}:uG a b=true↔a=b:=by unfold uG;split<;>simp_all
def adJ{a b:cj}(h:bs a=bs b):a=b:=by have:=aal (λx:ByteArray=>x.data.toList) h;simpa[bs]using this
def adL(a b:cj):(bs a==bs b)=uG a b:=by
 cases h:uG a b with
 |true=>exact(MapKept.bytes_beq _ _).2 (aal bs<|vY.1 h)
 |false=>
  cases c:(bs a==bs b)with
  |false=>rfl
  |true=>rw[vY.2<|adJ<|(MapKept.bytes_beq _ _).1 c]at h;cases h
class Mk (κ:Type) where
 v:κ->Value
 sv:κ->SV
 d:TypeDesc
 eq:κ->κ->Bool
 iff:∀{a b},eq a b=true↔a=b
 now:∀a b,Instr.sameNow d (v a) (v b)=some (eq a b)
 key:∀a,MapKept.IsKey d<|v a
 den:∀a,(sv a).den=.v (v a)
 val:∀a,xu (sv a)=some (v a)
 sc:∀a,scalar (v a)=true
instance:Mk cj:=⟨λs=>.string<|bs s,.s,.string,uG,vY,λa b=>aal some<|adL a b,λ_=>trivial,λ_=>rfl,λ_=>rfl,λ_=>rfl⟩
def mkEq(a b:Int):Bool:=match Int.instDecidableEq a b with
 |isTrue _=>true
 |isFalse _=>false
def EO{a b:Int}:mkEq a b=true↔a=b:=by unfold mkEq;split<;>simp_all
instance:Mk Int:=⟨λn=>.int .i64 n,.i,.int .i64,mkEq,EO,λa b=>aal some (by
 show(a==b)=_;cases h:mkEq a b with
 |true=>simp[EO.1 h]
 |false=>simp;exactλe=>by rw[EO.2 e]at h;cases h),λ_=>rfl,λ_=>rfl,λ_=>rfl,λ_=>rfl⟩
section
variable{κ:Type}[Mk κ]
def Br(k:κ):yx κ->Q Value
 |[]=>none
 |(a,v)::b=>match Mk.eq k a with
  |true=>some v
  |false=>Br k b
def zb(k:κ)(v:Value):yx κ->yx κ
 |[]=>[(k,v)]
 |(a,u)::b=>match Mk.eq k a with
  |true=>(k,v)::b
  |false=>(a,u)::zb k v b
def tR{k:κ}:∀{c:yx κ}{a:L MapEntry}{i:Nat},a.map (λe=>(e.key,e.val))=c.map (λq=>(Mk.v q.1,q.2))->Br k c=none->Instr.findNow (Mk.d κ) (Mk.v k) a i=some none
 |[],a,i,h,_=>by
  have:=aR
  subst this;rfl
 |(f,u)::c,[],i,h,_=>by cases h
 |(f,u)::c,m::a,i,h,b=>by
  simp at h;let⟨⟨j,l⟩,g⟩:=h;simp[Br]at b;cases he:Mk.eq k f with
  |true=>grind
  |false=>simp[he]at b;simp[Instr.findNow,j,Mk.now,he];exact tR g b
def tQ{k:κ}{v:Value}:∀{c:yx κ}{b:L MapEntry}{i:Nat},b.map (λe=>(e.key,e.val))=c.map (λq=>(Mk.v q.1,q.2))->Br k c=some v->
 ∃j:Nat,Instr.findNow (Mk.d κ) (Mk.v k) b i=some (some (i+j,v))/\∃m,b[j]?=some m/\m.key=Mk.v k/\∀u,(b.modify j λe=>{e with key:=Mk.v k,val:=u}).map (λe=>(e.key,e.val))=(zb k u c).map λq=>(Mk.v q.1,q.2)
 |[],b,i,h,a=>by simp[Br]at a
 |(g,u)::c,[],i,h,_=>by cases h
 |(g,u)::c,m::b,i,h,a=>by
  simp at h;let⟨⟨f,n⟩,l⟩:=h;simp[Br]at a;cases he:Mk.eq k g with
  |true=>simp[he]at a;refine⟨0,by simp[Instr.findNow,f,Mk.now,he,n,a],m,W,by rw[f,Mk.iff.1 he],λu=>?_⟩;simp[zb,he,l]
  |false=>
   simp[he]at a;let⟨j,k1,o,k2,k3,k4⟩:=tQ (i:=i+1) l a;refine⟨j+1,?_,o,k2,k3,λu=>?_⟩;simp[Instr.findNow,f,Mk.now]
   grind
   simp[zb,he,f,n,k4 u]
def HX{k:κ}{v:Value}:∀{a:yx κ},Br k a=none->zb k v a=a++[(k,v)]
 |[],_=>rfl
 |(b,u)::a,h=>by
  simp[Br]at h;cases he:Mk.eq k b with
  |true=>grind
  |false=>simp[he]at h;simp[zb,he,HX h]
end
section
variable{P:Program}{w:World}{S:Nat->Prop}
def Xj{V:Hid}{a:L Value}{F:Nat->L Nat}{args H:L SV}{i:Nat}{x:SV}{v:Value}(hi:i<500)(hc:aT S V.g (both (aE args)<|aE H) (a7 V a) w F)(f:args[i]?=some x)(d:xu x=some v):a.getD i undef=v:=by
 have b:=hc.rel i;have c:=fT (args:=aE args) (H:=aE H) hi;rw[jC,f]at c;have h:x.den.plain=true:=by rw[cW];cases x<;>simp[xu]at d<;>rfl
 rw[an.aC<|by rwa[c],c]at b;have e:a7 V a i=a.getD i undef:=qv
 rw[e]at b;exact((D4 d).2 b).1
end
section
variable{R:Q Nat->Prop}{P:Program}{tt:TT}{N:Nat}{F:St->Prop}{k:L It}{l:bJ}
def YR(hA:dD P tt){all:Array Oper}{f:L Nat}{b:L (L Nat×L Nat)}{rest:L Oper}{d:Nat}{t:TypeId}{x:Operand}{lo hi:Q Operand}{ty:TypeId}{pos:String}{a:Array Edge}{g:Q (Nat×Bool)}{ob:L Pd}{l':bJ}{i:L Nat}
 (m:dP l all.toList g=some true)(h:Kr tt l d t x lo hi=some (ob,l',i))(j:aj ob)
 (p:AK R P N F (.vB all f rest ((kJ (dn l) all ⟨some d,.slice t x lo hi none,ty,pos,a,g⟩,i)::b)::k) l'):
 AK R P N F (.vB all f (⟨some d,.slice t x lo hi none,ty,pos,a,g⟩::rest) b::k) l:=by
 exact VL hA m h j λn c=>by rwa[c]
end
section
variable{P:Program}{o:Oper}{ts:Array TypeId}{t e:TypeId}{ti:TI}{d s:Operand}
def MR{k:IntKind}{ti:TI}(c:ti.agg=false)(f:ti.size=1)(xs:L Int):(xs.map λa=>AV.v<|.int k a).all (fits ti)=true:=by rw[afY];intro x b;obtain⟨y,-,rfl⟩:=ab4.1 b;simp[fits,c,f,AV.cell]
def RC{k:IntKind}(xs:L Int):cz (xs.map λa=>AV.v<|.int k a)=true:=by refine pf λx b=>?_;obtain⟨y,-,rfl⟩:=ab4.1 b;rfl
def XN{k:IntKind}(m:o.op=.call ⟨.builtin .copy,#[d,s],ts⟩)(j:ts[0]?=some t)(hu:P.underlying t=some (.slice e))(b:cC P e=some ti)(p:ti.agg=false)(c:ti.size=1){xs ys:L Int}(g:xs≠[])(f:ys≠[]){n:Nat}(hn:Nat.min ys.length xs.length=n):
 kf P o [.ints k true xs] [.bH 500 0 0 [],.ints k false ys] [.ints k true<|ys.take n++xs.drop n] (.i n):=by
 have h:=R8 m j hu b c.symm (X:=xs.map λa=>.v<|.int k a) (Y:=ys.map λa=>.v<|.int k a) (eT) (RC _) (e7) (MR p c _) (ft);rwa[<-ai4,<-aiH,<-adW]at h
def Qf{k:IntKind}(j:o.op=.call ⟨.builtin .copy,#[d,s],ts⟩)(g:ts[0]?=some t)(hu:P.underlying t=some (.slice e))(b:cC P e=some ti)(m:ti.agg=false)(c:ti.size=1){xs:L Int}(f:xs≠[]){off m1 m2 n:Nat}(hn:Nat.min m2 m1=n)(k1:off+m1<=xs.length)(k2:m2<=xs.length)(g1:0<m1)(g2:0<m2):
 kf P o [.ints k true xs] [.bH 500 0 0 [.oC 1 off m1],.bH 500 0 0 [.oC 1 0 m2]] [.ints k true<|xs.take off++xs.take n++xs.drop (off+n)] (.i n):=by
 have h:=IZ j g hu b c.symm (X:=xs.map λa=>.v<|.int k a) (e7) (RC _) (MR m c _) (off:=off) hn (by grind) (by grind) g1 g2;rwa[<-ai4,<-ai4,<-aiH,<-adW,<-adW]at h
def XM{ti':AL}(j:o.op=.call ⟨.builtin .copy,#[d,s],ts⟩)(g:ts[0]?=some t)(hu:P.underlying t=some (.slice e))(f:cC P e=some ti'.den){xs ys:L SV}(b:xs≠[])(c:ys≠[])(m:iG xs=true)(p:∀y∈ys,oa ti' y=true){n:Nat}(hn:Nat.min ys.length xs.length=n):
 kf P o [.row true ti'.size xs] [.bH 500 0 0 [],.row false ti'.size ys] [.row true ti'.size<|ys.take n++xs.drop n] (.i n):=by
 have a:(aE ys).all (fits ti'.den)=true:=by rw[afY];intro x b;rw[dh]at b;obtain⟨y,c,rfl⟩:=ab4.1 b;exact j6 ti' y<|p y c
 have h:=R8 j g hu f W (X:=aE xs) (Y:=aE ys) (by cases xs;exact abK W b;simp[aE]) (by rwa[ff]) (by cases ys;exact abK W c;simp[aE]) a (n:=n) (by simpa only[bS]using hn);have e:(aE ys).take n++(aE xs).drop n=aE (ys.take n++xs.drop n):=by simp[dh]
 rwa[e]at h
def Qe{ti':AL}(j:o.op=.call ⟨.builtin .copy,#[d,s],ts⟩)(g:ts[0]?=some t)(hu:P.underlying t=some (.slice e))(c:cC P e=some ti'.den){xs:L SV}(b:xs≠[])(m:iG xs=true)(p:∀y∈xs,oa ti' y=true){off m1 m2 n:Nat}(hn:Nat.min m2 m1=n)(k1:off+m1<=xs.length)(k2:m2<=xs.length)(g1:0<m1)(g2:0<m2):
 kf P o [.row true ti'.size xs] [.bH 500 0 0 [.oC ti'.size off m1],.bH 500 0 0 [.oC ti'.size 0 m2]] [.row true ti'.size<|xs.take off++xs.take n++xs.drop (off+n)] (.i n):=by
 have a:(aE xs).all (fits ti'.den)=true:=by rw[afY];intro x b;rw[dh]at b;obtain⟨y,f,rfl⟩:=ab4.1 b;exact j6 _ y<|p y f
 have h:=IZ j g hu c W (by cases xs;exact abK W b;simp[aE]) (by rwa[ff]) a hn (by simpa only[bS]using k1) (by simpa only[bS]using k2) g1 g2;have e:(aE xs).take off++(aE xs).take n++(aE xs).drop (off+n)=aE (xs.take off++xs.take n++xs.drop (off+n)):=by simp[dh]
 rwa[e]at h
end
def aT.agM{S B:Nat->Prop}{σ:St}{T:Nat->Value}{w:World}{F:Nat->L Nat}(h:aT S B σ T w F){J:sV}{g:L Nat}(hn:g.Nodup)(p:∀b∈g,B b/\b<w.heap.size/\¬S b)(c:∀i,i≠500->∀b∈F i,b∉g)(q:J.here w S g):
 aT S B (jg σ 500 ⟨.abs J,(σ 500).g1+1,(σ 500).g2⟩) T w (jg F 500 g):=by
 refine h.step ⟨λr=>?_,λr=>?_,λ_ _=>rfl,λr o s=>?_⟩ (λ_ h=>h) (λi=>?_) (λi=>?_) (λi j f b d=>?_) (λi b d=>?_) h.shr;by_cases a:r=500;subst a;exact ain _;rw[ar _ _ a];exact .refl;by_cases a:r=500;subst a;exact .refl;rw[ar _ _ a];exact .refl;by_cases a:r=500;subst a;rw[aG]at o;simp at o;rw[ar _ _ a];simp_all;by_cases hi:i=500;subst hi;right;exact q;rw[ar _ _ hi,ar _ _ hi];simp_all;by_cases hi:i=500;subst hi;exact hn;rw[ar _ _ hi];exact h.nodup i;by_cases hi:i=500;subst hi;rw[ar _ _ λe=>f e.symm];exactλm=>c j (λe=>f e.symm) b m d;rw[ar _ _ hi]at d;by_cases n:j=500;subst n;exact c i hi b d;rw[ar _ _ n];exact h.dz i j f b d;by_cases hi:i=500;subst hi;exact p b d;rw[ar _ _ hi]at d;exact h.own i b d
section
variable{R:Q Nat->Prop}{P:Program}{N:Nat}{F:St->Prop}{k:L It}{l:bJ}
def Yj{id d:Nat}{T ty:TypeId}{pos:String}{q:Array Edge}{zs:Array Value}(J:Nat->sV)(hd:Nat.ble (d+1) N=true)(s:Nat.ble (d+1) 500=true)
 (r:∀w,(Instr.alloc T true<|.tuple #[]).run P w=.ok (.pointer<|some ⟨w.heap.size,0,none⟩) (w.alloc<|.cells zs T))
 (hJ:∀b w S,w.heap[b]?=some (.cells zs T)->J b w S [b])
 (hk:∀b,AK R P N F k ((500,⟨.abs<|J b,(gt l 500).g1+1,(gt l 500).g2⟩)::(d,⟨.pv (·=.pointer (some ⟨b,0,none⟩)),(gt l d).g1+1,(gt l d).g2⟩)::l)):
 AK R P N F (.code (.region id #[⟨some d,.alloc T,ty,pos,q,none⟩] false)::k) l:=by
 have s:=af4 s;have y:(500:Nat)≠d:=E;intro V t H a w hR hi;refine wpIn_region_list ?_;obtain⟨b,hb⟩:∃b,b=w.heap.size:=⟨_,W⟩;obtain⟨v,K⟩:∃v:Value,v=.pointer (some ⟨b,0,none⟩):=⟨_,W⟩;obtain⟨w',m⟩:∃w',w'=w.alloc (.cells zs T):=⟨_,W⟩;have f:Below w.heap.size w w':=by rw[m];exact(Below.refl _ _).alloc .refl _
 have E1:w'.heap[b]?=some (.cells zs T):=by rw[m,hb];exact World.alloc_heap_new w _
 have A0:w'.heap.size=w.heap.size+1:=gn;have key:ma N V t H (dn ((500,⟨.abs<|J b,(gt l 500).g1+1,(gt l 500).g2⟩)::(d,⟨.pv (·=.pointer (some ⟨b,0,none⟩)),(gt l d).g1+1,(gt l d).g2⟩)::l)) (a.put (some d) v) w':=by
  refine Inv.x ?_;let⟨S,Fr,hc,M,z,x,u,p⟩:=hi;have X:=hc.make [] d (.pv (·=v)) v [] p.new f.size (λb C _=>f.block b C) aee I (by simp[Rel]);have O:=X.agM I (λc B=>by
   simp at B;exact⟨p.new _ E,E,λh=>by have:=hc.shr _ h;omega⟩) (λi _ c j A=>by
   simp at A;split at j;cases j;have:=(hc.own i c j).2.1;omega) λY S2 X _=>hJ b Y S2 gn
  rw[<-mj (by rw[M];exact af4 hd)]at O;have e:dn ((500,⟨.abs<|J b,(gt l 500).g1+1,(gt l 500).g2⟩)::(d,⟨.pv (·=.pointer (some ⟨b,0,none⟩)),(gt l d).g1+1,(gt l d).g2⟩)::l)
   =jg (made (dn l) [] d (.pv (·=v))) 500 ⟨.abs<|J b,(made (dn l) [] d (.pv (·=v)) 500).g1+1,(made (dn l) [] d (.pv (·=v)) 500).g2⟩:=by
   simp[gE]
   funext i
   by_cases o:i=500;subst o;simp[made,abl y];rfl;rw[ar _ _ o,ar _ _ o];by_cases hid:i=d;subst hid;rw[aG,K];simp[made];rfl;rw[ar _ _ hid];simp[made,hid]
  rw[e];exact⟨S,_,O,by rw[size_put];exact M,by rw[fw];exact z,x,u,p.QQ f⟩
 unfold wpListIn;have n:Oper.UT V.rd P ⟨some d,.alloc T,ty,pos,q,none⟩ a w (wpListIn (FW V.rd) 0 P #[⟨some d,.alloc T,ty,pos,q,none⟩] (λe D w'=>∃g,kM R P N F k e g/\ma N V t H g D w') []) (λe D w'=>∃g,kM R P N F k e g/\ma N V t H g D w'):=by exact ib (v:=v) (w':=w') (by simp[execOp,r,K,m])<|wpListIn_nil ⟨_,hk b,key⟩
 split;exact n;rename_i Z;exact abK W Z
end
section
variable{P:Program}{w:World}{S:Nat->Prop}
section
variable{g:FuncId}{X:L AV}{F:L Nat}{ys:L SV}{k:Nat}{r v:SV}{hd:Value}
def JL(x:AV)(hd:Value)(a:L Nat)(o:Nat->Q Obj):sV:=λw S F=>F=a/\Rel w S x hd a/\∀b∈a,w.heap[b]?=o b
def JL.zG{x:AV}{a:L Nat}{o:Nat->Q Obj}(h:(JL x hd a o).here w S F):JL x hd a o w S F:=h w S (λ_ _=>rfl) λ_ h=>h
def K4(n:Nat)(hd:Value):Prop:=(n=0/\hd=.slice none 0 0)\/∃b a,hd=.slice (some ⟨b,0,none⟩) n a/\n<=a/\a<=maxLen
def K4.of{sz:Nat}(h:Rel w S (.list .own sz X) hd F):K4 X.length hd:=by rcases h with⟨rfl,rfl,-⟩|⟨b,a,e,f,rfl,-,d,c,-⟩;exact .inl G;exact .inr ⟨b,a,W,d,c⟩
def Fa{α:Type _}:∀{k:Nat}{x:α}{l:L α},(ins k x l).length=l.length+1
 |0,_,_=>rfl
 |_+1,_,[]=>rfl
 |k+1,x,y::l=>by simp[ins,Fa]
def NK{x:SV}:∀{k:Nat}{l:L SV},aE (ins k x l)=ins k x.den (aE l)
 |0,_=>rfl
 |_+1,[]=>rfl
 |k+1,y::l=>by simp[ins,aE,NK]
def Cells.ins{x:AV}{v:Value}(b:Rel w S x v []):∀{k:Nat}{ys:L AV}{a:L Value},Cells w S false ys a []->Cells w S false (Ai.ins k x ys) (Ai.ins k v a) []
 |0,ys,a,h=>⟨v,a,[],[],W,W,I,b,h⟩
 |_+1,[],a,h=>by obtain⟨rfl,-⟩:=h;exact⟨v,[],[],[],W,W,I,b,W,W⟩
 |k+1,y::ys,a,h=>by obtain⟨c,j,n,m,rfl,i,f,e,d⟩:=h;obtain⟨rfl,rfl⟩:=aia.1 i.symm;exact⟨c,_,[],[],W,W,f,e,Cells.ins b d⟩
def yw(P:Program)(g:FuncId)(k:Nat)(wh:Bool)(v:SV)(ys:L SV)(r:SV):Prop:=(wh=true\/∃sz X,v.den=.list .own sz X/\cz X=true)/\Query P g k v.den (aE ys) r.den
def Query.of(hp:r.plain=true)(hl:ys.length+1<=500)
 (h:∀w S hd n o,Rel w S v.den hd n->(∀b∈n,w.heap[b]?=o b)->kg P g [.abs<|JL v.den hd n o] (ins k (.pv (·=hd)) ys) [.abs<|JL v.den hd n o] r):Query P g k v.den (aE ys) r.den:=by
 intro w S hd vs n hG hT hr F3 hF hS hc;have Z:Cells w S false (aE (ins k (.pv (·=hd)) ys)) (ins k hd vs) []:=by rw[NK];exact Cells.ins (by simp[SV.den,Rel]) hc
 obtain⟨A,D⟩:∃A,A=ins k (SV.pv (·=hd)) ys:=⟨_,W⟩;obtain⟨c,E2⟩:∃c,c=ins k hd vs:=⟨_,W⟩;have F1:A.length=ys.length+1:=by rw[D,Fa]
 have F0:c.length=A.length:=by have:=dX.length (σ:=λ_=>⟨.dead,0,0⟩) (T:=λ_=>undef)<|dX.uZ Z W;rw[bS]at this;simp_all
 obtain⟨o,ho⟩:∃o:Nat->Q Obj,o=λb=>w.heap[b]?:=⟨_,W⟩;obtain⟨J,hJ⟩:∃J,J=JL v.den hd n o:=⟨_,W⟩;obtain⟨V,hV⟩:∃V:Hid,V={v:=λ_=>undef,g:=λb=>b∈n}:=⟨_,W⟩;have C:(aE A).length<=500:=by rw[bS,F1];exact hl
 have s:J.here w S n:=by intro K M k1 k2;rw[hJ];exact⟨W,Rel.mono k2 _<|hr.frame _ k1,λb f=>gn⟩
 have E1:both (aE A) (aE [.abs J]) 500=⟨.abs J,0,0⟩:=fi C 0;have u:aT S V.g (both (aE A)<|aE [.abs J]) (a7 V c) w (λi=>if i=500 then n else[]):=by
  refine⟨λi=>?_,λi=>?_,λi j F4 b f=>?_,λi b f=>?_,hS⟩;by_cases hi:i<500;have Y:i≠500:=E;simp[Y,if_false];have f:=fT (args:=aE A) (H:=aE [.abs J]) hi;cases O:(aE A)[i]?with
  |none=>rw[O]at f;rw[an.aC<|by rw[f];rfl,f];simp[Rel]
  |some y=>
   rw[O]at f;have hA:dX w S (both (aE A)<|aE [.abs J]) (a7 V c) (aE A) c:=dX.uZ (F:=[]) gn W
   refine(hA.get i O).slot (by rw[f]) ?_;simp[a7,hi,if_true]
  ·by_cases e:i=500
   ·subst e;unfold an;rw[E1];exact s
   simp[e,if_false];obtain⟨k,rfl⟩:∃k,i=500+(k+1):=⟨i-501,E⟩;have f:both (aE A) (aE [.abs J]) (500+(k+1))=⟨.dead,0,0⟩:=by rw[fi C,agc<|by simp[aE]]
   rw[an.aC<|by rw[f];rfl,f];simp[Rel]
  grind
  grind
  simp_all
 have q:=h w S hd n o hr (λb _=>by rw[ho]);rw[<-hJ,<-D]at q;rw[<-E2];have t:=q w S V c _ (by rw[bS,F0]) ⟨hG,by rw[hV];exact hT⟩ u;intro rd op a next d hK
 refine t rd op a next d λv' K⟨M,F',p,k1,k2,m⟩=>hK v' K ?_
 have A0:both (aE [r]) (aE [.abs J]) 500=⟨.abs J,0,0⟩:=fi (by simp[aE]) 0;have hj:=m.rel 500;unfold an at hj;have G0:=A0;have B:=hj;rw[hJ]at B;obtain⟨q1,-,q3⟩:=JL.zG B;have F2:=λb f=>(m.own 500 b<|by rw[q1];exact f).2.2;have z:∀b,b<w.heap.size->K.heap[b]?=w.heap[b]?:=λb f=>by by_cases e:b∈n;rw[q3 b e,ho];exact p.block b f (by rw[hV];exact e)
 have hm:∀b,c6 V w b->w.heap.size<=b\/b∈n:=λb f=>f.imp id (λh=>by rw[hV]at h;exact h);have h0:=fT (args:=[r.den]) (H:=aE [SV.abs J]) (i:=0) E;simp[ajP]at h0;have x:=m.rel 0;rw[an.aC<|by rw[h0,cW];exact hp,h0]at x;refine⟨M,F' 0,⟨p.os,p.tape,p.output,p.size,z⟩,k1,λb f=>?_,m.shr,x,m.nodup 0,λb f=>?_⟩
 grind
 let⟨p1,p2,p3⟩:=m.own 0 b f;refine⟨?_,p2,p3⟩;rcases hm b p1 with h|h;exact h;exact abK (by rw[q1];exact h)<|m.dz 0 500 E b f
def yw.of{wh:Bool}{sz:Nat}(b:v.den=.list .own sz X)(hn:cz X=true)(d:r.plain=true)(hl:ys.length+1<=500)
 (h:∀hd a o,K4 X.length hd->kg P g [.abs<|JL (.list .own sz X) hd a o] (ins k (.pv (·=hd)) ys) [.abs<|JL (.list .own sz X) hd a o] r):yw P g k wh v ys r:=
 ⟨.inr ⟨sz,X,b,hn⟩,Query.of d hl λ_ _ _ a o c _=>by rw[b]at c⊢;exact h _ a o<|K4.of c⟩
def yw.box(c:r.plain=true)(hl:ys.length+1<=500)
 (h:∀w S hd a o,Rel w S v.den hd a->(∀b∈a,w.heap[b]?=o b)->kg P g [.abs<|JL v.den hd a o] (ins k (.pv (·=hd)) ys) [.abs<|JL v.den hd a o] r):yw P g k true v ys r:=
 ⟨.inl W,Query.of c hl h⟩
end
end
section
variable{R:Q Nat->Prop}{P:Program}{N:Nat}{F:St->Prop}{k:L It}{l:bJ}
structure SB where
 g:FuncId
 v:SV
 w:Bool
 asx:List SV
def U7:SV->Bool
 |.bH _ _ _ []=>true
 |_=>false
def RJ(k:Nat)(l:bJ)(f:Operand)(asx:L Operand):Q (L Pd×SB):=
 match pick k asx with
 |none=>none
 |some (x,c)=>(eP l x).bind λz=>(dB z).bind λ(a,v)=>(eP l f).bind λq=>(dB q).bind λ(b,y)=>match y with
  |.fn (.func g) [] []=>(ko l c).bind λd=>(yc d).bind λ(ob,ys)=>some (app a<|app b ob,⟨g,v,U7 z.sl.v,ys⟩)
  |_=>none
def B5(l:bJ)(a:Q Nat)(r:SV):Q (bJ×L Nat):=
 match a with
 |none=>some (l,[])
 |some d=>qP l [] d r λb=>some (b,[d])
def B4{a:Q Nat}{r:SV}{l':bJ}{c:L Nat}(b:B5 l a r=some (l',c)):Mv.runs (dn l) (dS a r.den [])=some (dn l')/\bA (dS a r.den [])=c:=by
 cases a with
 |none=>obtain⟨rfl,rfl⟩:=b;exact G
 |some d=>simp[B5,iY]at b;obtain⟨rfl,rfl⟩:=b;refine⟨?_,gq⟩;have:=ia l [] d r;exact aal _ this
def acx{n:Nat}{all:Array Oper}{a:Q Nat}{f:Operand}{asx i:Array _}{ty:TypeId}{pos:String}{e:Array Edge}{g:Q (Nat×Bool)}{K:L Mv->St->Prop}{ob:L Pd}{h:SB}{r:SV}{l':bJ}{s:L Nat}
 (Y:dP l all.toList g=some true)(hh:RJ n l f asx.toList=some (ob,h))(T:aj ob)(hs:yw P h.g n h.w h.v h.asx r)(M:B5 l a r=some (l',s))(V:∀p,bA p=s->K p (dn l')):
 Q7 P all ⟨a,.call ⟨.value f,asx,i⟩,ty,pos,e,g⟩ (dn l) K:=by
 unfold RJ at hh;split at hh<;>try(cases hh)
 rename_i x A d;simp[abZ]at hh;let⟨z,u,B,v,h2,q,h5,C,y,Z,b⟩:=hh;split at b<;>try(cases b)
 rename_i j;simp[abZ,aeb]at b;obtain⟨us,h3,D,ys,h4,rfl,rfl⟩:=b;let⟨c1,m⟩:=aY.1 T;let⟨m,c3⟩:=aY.1 m;let⟨c,O⟩:=hs;have e1:(resolve (dn l) x).cont=some v.den:=by rw[cS u,aH h2 c1]
 have e3:um (A.map<|resolve<|dn l)=some (aE ys):=by rw[fJ l h3];exact tN h4 c3
 have e4:(resolve (dn l) f).cont=some (.fn (.func j) [] []):=by rw[cS h5];exact aH Z m
 have e5:Re v.den (resolve (dn l) x).sl.av=true:=by
  have e6:(resolve (dn l) x).sl.av=z.sl.v.den:=by rw[cS u];rfl
  rw[e6];unfold Re;rcases c with c|⟨sz,X,c,hn⟩;have c:=c;unfold U7 at c;split at c;rename_i J;rw[J];rfl;cases c
  grind
 have t:kZ P (dn l) ⟨a,.call ⟨.value f,asx,i⟩,ty,pos,e,g⟩ (.V9 n r.den)=some (dS a r.den [],[.V9 j n v.den (aE ys) r.den]):=by simp[kZ,d,e1,e3,e4,e5]
 let⟨m1,H⟩:=B4 M;refine⟨.V9 n r.den,_,[.V9 j n v.den (aE ys) r.den],dn l',?_,?_,m1,V _ H⟩;unfold fQ;rwa[dV (o:=⟨a,.call ⟨.value f,asx,i⟩,ty,pos,e,g⟩) Y];simp[Ob.ok];exact O
def acI(n:Nat){all:Array Oper}{i:L Nat}{c:L (L Nat×L Nat)}{rest:L Oper}{a:Q Nat}{f:Operand}{asx e:Array _}{ty:TypeId}{pos:String}{b:Array Edge}{g:Q (Nat×Bool)}{ob:L Pd}{h:SB}{r:SV}{l':bJ}{j:L Nat}
 (p:dP l all.toList g=some true)(hh:RJ n l f asx.toList=some (ob,h))(o:aj ob)(hs:yw P h.g n h.w h.v h.asx r)(m:B5 l a r=some (l',j))
 (s:AK R P N F (.vB all i rest ((kJ (dn l) all ⟨a,.call ⟨.value f,asx,e⟩,ty,pos,b,g⟩,j)::c)::k) l'):
 AK R P N F (.vB all i (⟨a,.call ⟨.value f,asx,e⟩,ty,pos,b,g⟩::rest) c::k) l:=by
 exact acx p hh o hs m λq d=>by rwa[d]
structure SC where
 C:Value->Prop
 J:sV
def RK(l:bJ)(x:Operand):Q SC:=
 (eP l x).bind λz=>match z.sl.v with
   |.pv C=>match(gt l 500).v with
    |.abs J=>some ⟨C,J⟩
    |_=>none
   |_=>none
def VN{all:Array Oper}{b:Q Nat}{t:TypeId}{x:Operand}{ty:TypeId}{pos:String}{c:Array Edge}{g:Q (Nat×Bool)}{K:L Mv->St->Prop}{h:SC}{y:SV}{l':bJ}{e:L Nat}
 (n:dP l all.toList g=some true)(hh:RK l x=some h)(hs:C7 P t h.C h.J y.den)(i:y.aK=true)(j:B5 l b y=some (l',e))(m:∀d,bA d=e->K d (dn l')):
 Q7 P all ⟨b,.load t x,ty,pos,c,g⟩ (dn l) K:=by
 simp[RK,abZ]at hh;let⟨z,q,a⟩:=hh;split at a<;>try(cases a)
 rename_i C p;split at a<;>try(cases a;done)
 rename_i J o;cases a;have u:(resolve (dn l) x).sl.av=.pv C:=by rw[cS q];show z.sl.v.den=_;rw[p];rfl
 have s:(dn l 500).av=.abs J:=by rw[eB,o];rfl
 let⟨m1,f⟩:=B4 j;refine⟨.W2 y.den,_,[.W2 t C J y.den],dn l',?_,?_,m1,m _ f⟩;unfold fQ;rw[dV n];simp[kZ,u,s,cO,i];simp;exact hs
def afe{all:Array Oper}{rest:L Oper}{a:Q Nat}{t:TypeId}{x:Operand}{ty:TypeId}{pos:String}{b:Array Edge}{g:Q (Nat×Bool)}{h:SC}{y:SV}{l':bJ}{c:L Nat}
 (i:dP l all.toList g=some true)(hh:RK l x=some h)(hs:C7 P t h.C h.J y.den)(d:y.aK=true)(e:B5 l a y=some (l',c))(f:AK R P N F (.ops all rest::k) l'):
 AK R P N F (.ops all (⟨a,.load t x,ty,pos,b,g⟩::rest)::k) l:=by
 exact VN i hh hs d e λj _=>f
def zO{all:Array Oper}{e:L Nat}{c:L (L Nat×L Nat)}{rest:L Oper}{a:Q Nat}{t:TypeId}{x:Operand}{ty:TypeId}{pos:String}{b:Array Edge}{g:Q (Nat×Bool)}{h:SC}{y:SV}{l':bJ}{f:L Nat}
 (m:dP l all.toList g=some true)(hh:RK l x=some h)(hs:C7 P t h.C h.J y.den)(i:y.aK=true)(j:B5 l a y=some (l',f))
 (o:AK R P N F (.vB all e rest ((kJ (dn l) all ⟨a,.load t x,ty,pos,b,g⟩,f)::c)::k) l'):
 AK R P N F (.vB all e (⟨a,.load t x,ty,pos,b,g⟩::rest) c::k) l:=by
 exact VN m hh hs i j λn d=>by rwa[d]
end
section
variable{P:Program}{w:World}{S:Nat->Prop}{o:Oper}{x i:Operand}{t e:TypeId}{ti:TI}{n m sz:Nat}{hd:Value}{X:L AV}
def adr(hd:Value)(o:Nat):Value:=match hd with
 |.slice (some a) _ _=>.pointer (some<|a.add o)
 |_=>undef
def WV{c:Array TypeId}(f:o.op=.call ⟨.builtin .len,#[x],c⟩)(d:c.toList=[t])(r:P.underlying t=some (.slice e))(h:K4 n hd):kf P o [] [.pv (·=hd)] [] (.i n):=by
 refine oU W W I ?_;intro w S v s hc k p;obtain⟨l,y,F1,z,rfl,-,-,⟨rfl,-⟩,rfl,-⟩:=hc;have q:k x=l:=by
  have:o.op.operands.toList=[x]:=by rw[f];rfl
  simp_all
 have a:c=#[t]:=aib (b5);refine⟨.value _,.int .i64 n,w,?_,.inl W,S,[],⟨W,W,W,abY _,λ_ _=>rfl⟩,λ_ h=>h,λ_ h=>.inl h,λb h=>s b h,ep,aee,I⟩;rcases h with⟨rfl,g⟩|⟨b,u,g,-,-⟩<;>simp[execOp,f,Go.resolve,q,invoke,builtin,a,Builtin.len_,run_underlying r,goInt,g]
def PJ(d:o.op=.indexAddr t x i)(l:P.underlying t=some (.slice e))(a:cC P e=some ti)(hm:m<n)(h:K4 n hd):kf P o [] [.pv (·=hd),.i m] [] (.pv (·=adr hd (m*ti.size))):=by
 refine oU W W I ?_;intro w S r p hc c g;obtain⟨f,v,F1,B,rfl,-,-,⟨rfl,-⟩,s,u,A,z,rfl,-,-,⟨-,rfl,-⟩,rfl,-⟩:=hc;obtain⟨k,hi⟩:c x=f/\c i=.int .i64 m:=by
  have:o.op.operands.toList=[x,i]:=by rw[d];rfl
  simp_all
 rcases h with⟨rfl,y⟩|⟨b,q,rfl,-,-⟩;omega;refine⟨.value<|.pointer<|some<|(⟨b,0,none⟩:Addr).add<|m*ti.size,_,w,?_,.inl W,S,[],⟨W,W,W,.refl,λ_ _=>rfl⟩,λ_ h=>h,λ_ h=>.inl h,λb h=>p b h,by simp[SV.den,Rel,adr],aee,I⟩;simp[execOp,d,k,hi,Instr.indexAt,asIntOf,run_underlying l,hm,dW a]
def Pr{y:AV}{m:Nat}:∀{X:L AV},cz X=true->X[m]?=some y->y.aK=true:=by
 induction m with
 |zero=>intro X c a;cases X with
  |nil=>cases a
  |cons z X=>cases a;simp[cz]at c;grind
 |succ m d=>intro X c a;cases X with
  |nil=>cases a
  |cons z X=>simp[cz]at c;grind
def EY{F1:L Nat}{ob:Nat->Q Obj}{y:AV}(d:cC P t=some ti)(r:cz X=true)(c:X[m]?=some y)(q:fits ti y=true):C7 P t (·=adr hd (m*sz)) (JL (.list .own sz X) hd F1 ob) y:=by
 intro w S F v s k;subst k;obtain⟨-,l,-⟩:=JL.zG s;rcases l with⟨rfl,-,-⟩|⟨b,h,cs,T,rfl,D,O,N,M,C,-⟩;cases((aij.1 c).1);obtain⟨z,A,R,B,-,J,a,f,p,-⟩:=dG.lens sz m C c;rw[Rel.aK _ a<|Pr r c]at a;refine⟨z,?_,a⟩;have g:At w ⟨b,m*sz,none⟩ z:=⟨W,cs,(0,0),D,λj u K=>by grind⟩
 have H:adr (.slice (some ⟨b,0,none⟩) X.length h) (m*sz)=.pointer (some ⟨b,m*sz,none⟩):=by
  have e:(⟨b,0,none⟩:Addr).add (m*sz)=⟨b,m*sz,none⟩:=by rw[cD W];simp
  simp[adr,e]
 rw[H];exact gP d g<|kU q a
def EJ{a:Addr}(c:o.op=.nilCheck x):kf P o [] [.pv (·=.pointer (some a))] [] (.pv (·=.pointer (some a))):=by
 refine oU W W I ?_;intro w S l k hc d f;obtain⟨p,q,F1,r,rfl,-,-,⟨rfl,-⟩,rfl,-⟩:=hc;have g:d x=.pointer (some a):=by
  have:o.op.operands.toList=[x]:=by rw[c];rfl
  grind
 exact⟨.value<|.pointer<|some a,_,w,by simp[execOp,c,g],.inl W,S,[],⟨W,W,W,.refl,λ_ _=>rfl⟩,λ_ h=>h,λ_ h=>.inl h,λb h=>k b h,by simp[SV.den,Rel],aee,I⟩
def Fu{a:Addr}{f off:Nat}{l:TypeId}(k:o.op=.fieldAddr t x f)(c:qV P t f=some (off,l))(d:cC P l=some ti)(r:ti.size≠0):kf P o [] [.pv (·=.pointer (some a))] [] (.pv (·=.pointer (some<|a.add off))):=by
 refine oU W W I ?_;intro w S v u hc p q;obtain⟨y,z,F1,B,rfl,-,-,⟨rfl,-⟩,rfl,-⟩:=hc;have s:p x=.pointer (some a):=by
  have:o.op.operands.toList=[x]:=by rw[k];rfl
  grind
 refine⟨.value<|.pointer<|some<|a.add off,_,w,?_,.inl W,S,[],⟨W,W,W,.refl,λ_ _=>rfl⟩,λ_ h=>h,λ_ h=>.inl h,λb h=>u b h,by simp[SV.den,Rel],aee,I⟩;unfold qV at c;split at c;rename_i A hu;split at c;rename_i fl g;cases c;simp[execOp,k,s,Instr.fieldAt,run_underlying hu,g,Instr.sureAddr,fieldPlace,dW d,r];cases c;cases c
structure K5(hd:Value)(ob:Nat->Option Obj)(F1:List Nat)(b:Nat)(cs:Array Value):Prop where
 e:hd=.pointer (some ⟨b,0,none⟩)
 m:b∈F1
 row:∀w':World,w'.heap[b]?=ob b->row? w' b=some (cs,(0,0))
variable{F1:L Nat}{ob:Nat->Q Obj}{b j:Nat}{cs:Array Value}{xs:L AV}
def K5.of(d:Rel w S (.box true<|.agg xs) hd F1)(f:∀b∈F1,w.heap[b]?=ob b):∃b cs,K5 hd ob F1 b cs/\∃F',Cells w S true xs cs.toList F':=by obtain⟨b,cs,s,F',z,l,r,⟨p,rfl,k⟩,h,g,a⟩:=d;subst h g;refine⟨b,p,⟨l,by rw[a];simp,λq c=>?_⟩,F',k⟩;rwa[mw<|c.trans (f b<|by grind).symm]
def K5.cells(B:K5 hd ob F1 b cs){F:L Nat}(h:(JL (.box true<|.agg xs) hd F1 ob) w S F):row? w b=some (cs,(0,0))/\∃F',Cells w S true xs cs.toList F':=by have d:=B.row w<|h.2.2 b B.m;refine⟨d,?_⟩;obtain⟨q,k,l,F',z,c,a,⟨p,rfl,g⟩,f,-⟩:=h.2.1;rw[B.e]at c;cases c;rw[d]at a;cases a;subst f;exact⟨F',g⟩
def Iu{y:AV}(B:K5 hd ob F1 b cs)(d:cC P t=some ti)(g:xs[j]?=some y)(f:y.aK=true)(p:fits ti y=true):C7 P t (·=.pointer (some<|(⟨b,0,none⟩:Addr).add j)) (JL (.box true<|.agg xs) hd F1 ob) y:=by
 intro w S F v q h;subst h;let⟨a,C,hc⟩:=B.cells<|JL.zG q;obtain⟨z,A,s,D,-,r,c,hl,-⟩:=Cells.lens j hc g;rw[Rel.aK _ c f]at c;refine⟨z,?_,c⟩;rw[cD W];refine gP d ⟨W,cs,(0,0),a,λk u l=>?_⟩<|kU p c;rw[cells_one<|r W]at l
 grind
def Bi{z:Value}(B:K5 hd ob F1 b cs)(c:cC P t=some ti)(h:ti.agg=false)(l:cs.toList[j]?=some z)(hc:z.oneCell'=true):C7 P t (·=.pointer (some<|(⟨b,0,none⟩:Addr).add j)) (JL (.box true<|.agg xs) hd F1 ob) (.pv (·=z)):=by
 intro w S F v g d;subst d;obtain⟨a,p,-⟩:=B.cells<|JL.zG g;refine⟨z,?_,W,W⟩;rw[cD W];refine gP c ⟨W,cs,(0,0),a,λk u f=>?_⟩<|.inr ⟨h,hc⟩;rw[cells_one hc]at f
 grind
def PN{F':L Nat}(hc:Cells w S true xs cs.toList F')(a:xs[j]?=some (.list .own sz X)):∃z,cs.toList[j]?=some z/\K4 X.length z/\z.oneCell'=true:=by obtain⟨z,A,f,g,-,d,c,hl,-⟩:=Cells.lens j hc a;exact⟨z,hl,K4.of c,d W⟩
def EX{y:AV}{z:Value}(B:K5 hd ob F1 b cs)(f:cs.toList[j]?=some z)(g:xs[j]?=some (.list .own sz X))(a:cC P t=some ti)(p:cz X=true)(hm:X[m]?=some y)(k:fits ti y=true):C7 P t (·=adr z (m*sz)) (JL (.box true<|.agg xs) hd F1 ob) y:=by intro w S F v r h;obtain⟨-,D,hc⟩:=B.cells<|JL.zG r;obtain⟨s,A,d,H,-,-,q,hl,-⟩:=Cells.lens j hc g;rw[f]at hl;cases hl;have c:(JL _ z d λb=>w.heap[b]?).here w S d:=λu C k1 k2=>⟨W,Rel.mono k2 _<|Rel.frame _ q k1,λb l=>k1 b<|.inr l⟩;exact EY a p hm k w S d v c h
def adM{C:Value->Prop}(d:o.op=.box t x):kf P o [] [.pv C] [] (.box true<|.pv C):=by
 refine oU W W I ?_;intro w S r g hc k l;obtain⟨a,s,F1,u,rfl,-,-,⟨q,-⟩,rfl,-⟩:=hc;have p:k x=a:=by
  have:o.op.operands.toList=[x]:=by rw[d];rfl
  grind
 have c:(w.alloc<|.cells a.cells t).heap.size=w.heap.size+1:=m9
 refine⟨.value<|.pointer<|some ⟨w.heap.size,0,none⟩,_,w.alloc _,?_,.inl W,S,[w.heap.size],(Below.refl _ _).alloc (.refl) _,λ_ h=>h,λ_ h=>.inl h,λb h=>by rw[c];have:=g b h;omega,?_,I,?_⟩;simp[execOp,d,p];rfl;exact⟨w.heap.size,a.cells,(0,0),[],a,W,nC _ _ _,⟨q,W⟩,W,W,W⟩;intro b f;simp at f;subst f;exact⟨.refl,E,λh=>by have:=g _ h;omega⟩
def Rm{a:Operand}{C:Value->Prop}(B:o.op=.load t a)(l:cC P t=some ti)(r:ti.agg=false)(N:∀v,C v->v.oneCell'=true):kf P o [.box true<|.pv C] [.bH 500 0 0 []] [.box true<|.pv C] (.pv C):=by
 intro w S V y F hl hc s J;obtain⟨x0,rfl⟩:∃x0,y=[x0]:=by
  match y,hl with
  |[x0],_=>exact⟨x0,W⟩
 have Z:x0=V.v 500:=mT (i:=0) E hc W;have A:=hc.rel 500;have T:a7 V [x0] 500=V.v 500:=gq;have p:=A;obtain⟨b,cs,R,F2,z,Y,H,⟨D,rfl⟩,O,-⟩:=A;have M:s a=.pointer (some ⟨b,0,none⟩):=by
  have H:o.op.operands.toList=[a]:=by rw[B];rfl
  simp_all
 have g:(Instr.loadAt t<|s a).run P w=.ok z w:=by simp[M];exact gP l ⟨W,cs,R,H,λj u K=>by rw[<-O];simpa using K⟩<|.inr ⟨r,N z D⟩
 refine⟨.value z,z,w,by simp[execOp,B,g],.inl W,S,λi=>if i=500 then F 500 else[],⟨W,W,W,abY _,λ_ _ _=>rfl⟩,λ_ h=>h,λ_ h=>.inl h,⟨λi=>?_,λi=>?_,λi j q c d=>?_,λi c d=>?_,hc.shr⟩⟩;have d:=kx (.pv C) (.box true<|.pv C) i;by_cases k:i=0;subst k;exact⟨D,W⟩;rw[abl k]at d;by_cases f:i=500;subst f;exact p;rw[abl f]at d;have d:(both (aE [SV.pv C]:L AV) (aE [SV.box true<|.pv C]) i).av=.dead:=d;show an w S (both (aE [SV.pv C])<|aE [SV.box true<|.pv C]) _ i _;rw[an.aC<|by rw[d];rfl,d,abl f];simp[Rel];split;exact hc.nodup _;exact aee;split at d;rename_i hi;rw[abl λe=>q<|hi.trans e.symm];simp;cases d;split at d;have:=hc.own 500 c d;exact⟨.inr this.1,this.2⟩;cases d
end
end Go.Ai
namespace Go.Ai
open Go.Proofs Go.RowKit Go.Proofs.Tryz
abbrev ab:=@aS Tryz.prog
abbrev gm:=SV.ints .i64 false
abbrev gu:=SV.ints .i64 true
abbrev gw:=SV.ints .u64 false
abbrev aj0:=SV.ints .u64 true
theorem aj8{α:Sort _}(f:α->SV){a b:α}(h:a=b):aB (f a) (f b):=aB.of_eq<|congrArg f h
theorem ak{α β:Sort _}{a:α}{b:β}{x:SV}:a=a/\b=b/\AO x x:=⟨rfl,rfl,.refl _⟩
abbrev tI(k:IntKind)(b:Nat):TE:=⟨.int k,some ⟨false,1,b,.n k 0⟩⟩
abbrev tL(e:TypeId):TE:=⟨.slice e,some ⟨false,1,24,.nil⟩⟩
abbrev tG(f:L (Nat×TypeId×Nat))(s b:Nat)(z:L SV):TE:=⟨.struct f,some ⟨true,s,b,.agg z⟩⟩
abbrev tF:TE:=⟨.func,some ⟨false,1,8,.c .nilFunc⟩⟩
abbrev tP:TE:=⟨.ptr,some ⟨false,1,8,.c<|.pointer none⟩⟩
abbrev tO:TE:=⟨.other,none⟩
abbrev tM:TE:=⟨.other,some ⟨false,1,8,.c<|.map none⟩⟩
def tt:TT:=[(0,tO),
 (1,tF),
 (2,tI .i64 8),
 (3,tI .i64 8),
 (4,⟨.bool,some ⟨false,1,1,.b false⟩⟩),
 (5,tI .u8 1),
 (6,tI .u8 1),
 (7,tG [(0,2,1),(1,3,1),(2,4,1),(3,6,1)] 4 24 [.n .i64 0,.n .i64 0,.b false,.n .u8 0]),
 (8,tG [(0,2,1),(1,3,1),(2,4,1),(3,6,1)] 4 24 [.n .i64 0,.n .i64 0,.b false,.n .u8 0]),
 (9,⟨.str,some ⟨false,1,16,.s []⟩⟩),
 (10,⟨.str,some ⟨false,1,16,.s []⟩⟩),
 (20,tO),
 (22,tL 69),
 (23,tL 3),
 (25,tG [(0,3,1),(1,22,1),(2,23,1)] 3 56 [.n .i64 0,.nil,.nil]),
 (26,tL 44),
 (28,tF),
 (30,tI .i64 8),
 (31,tO),
 (35,tL 9),
 (36,tL 47),
 (38,tG [(0,35,1),(1,36,1),(2,26,1)] 3 72 [.nil,.nil,.nil]),
 (39,tO),
 (42,⟨.str,some ⟨false,1,16,.s []⟩⟩),
 (44,tG [(0,42,1),(1,42,1)] 2 32 [.s [],.s []]),
 (46,tL 130),
 (47,tL 130),
 (51,tG [(0,3,1),(1,3,1),(2,3,1),(3,3,1)] 4 32 [.n .i64 0,.n .i64 0,.n .i64 0,.n .i64 0]),
 (56,tL 23),
 (58,tG [(0,23,1),(1,56,1)] 2 48 [.nil,.nil]),
 (61,tO),
 (63,tL 67),
 (64,tO),
 (66,tL 72),
 (67,tL 42),
 (69,tG [(0,9,1),(1,66,1),(2,3,1),(3,42,1),(4,67,1)] 5 88 [.s [],.nil,.n .i64 0,.s [],.nil]),
 (72,tG [(0,3,1),(1,42,1)] 2 24 [.n .i64 0,.s []]),
 (83,tI .u32 4),
 (85,tG [(0,26,1),(1,83,1)] 2 32 [.nil,.n .u32 0]),
 (88,tO),
 (90,tO),
 (92,tL 97),
 (93,tO),
 (97,tG [(0,3,1),(1,3,1),(2,3,1)] 3 24 [.n .i64 0,.n .i64 0,.n .i64 0]),
 (100,tO),
 (102,tO),
 (104,tO),
 (114,tO),
 (116,tO),
 (130,tG [(0,42,1),(1,23,1)] 2 40 [.s [],.nil]),
 (133,tF),
 (134,tO),
 (143,tL 337),
 (145,tG [(0,3,1),(1,143,1)] 2 32 [.n .i64 0,.nil]),
 (147,⟨.array 81 145,some ⟨true,162,2592,.agg (List.replicate 81 [.n .i64 0,.nil]).flatten⟩⟩),
 (149,tP),
 (151,tF),
 (152,tF),
 (155,tG [(0,3,1),(1,3,1),(2,3,1),(3,3,1)] 4 32 [.n .i64 0,.n .i64 0,.n .i64 0,.n .i64 0]),
 (157,tG [(0,145,2),(2,145,2)] 4 64 [.n .i64 0,.nil,.n .i64 0,.nil]),
 (161,tP),
 (163,tG [(0,25,3),(3,30,1)] 4 64 [.n .i64 0,.nil,.nil,.n .i64 0]),
 (164,tP),
 (166,tL 168),
 (168,tL 157),
 (173,tO),
 (177,tG [(0,4,1),(1,23,1)] 2 32 [.b false,.nil]),
 (178,tO),
 (186,tP),
 (190,tP),
 (191,tO),
 (196,tG [(0,25,3),(3,26,1),(4,51,4),(8,23,1),(9,56,1)] 10 160 [.n .i64 0,.nil,.nil,.nil,.n .i64 0,.n .i64 0,.n .i64 0,.n .i64 0,.nil,.nil]),
 (197,tO),
 (199,tO),
 (202,tF),
 (206,tF),
 (209,tL 30),
 (210,tF),
 (211,tP),
 (214,tL 219),
 (215,tM),
 (217,tG [(0,25,3),(3,3,1),(4,168,1),(5,214,1),(6,214,1),(7,215,1)] 8 144 [.n .i64 0,.nil,.nil,.n .i64 0,.nil,.nil,.nil,.c<|.map none]),
 (218,tL 229),
 (219,tL 229),
 (225,tG [(0,157,4),(4,157,4)] 8 128 [.n .i64 0,.nil,.n .i64 0,.nil,.n .i64 0,.nil,.n .i64 0,.nil]),
 (229,tG [(0,157,4),(4,23,1)] 5 88 [.n .i64 0,.nil,.n .i64 0,.nil,.nil]),
 (252,tF),
 (278,tO),
 (283,tI .u64 8),
 (284,tO),
 (287,tO),
 (289,tF),
 (291,tG [(0,289,1)] 1 8 [.c .nilFunc]),
 (293,tG [(0,69,5),(5,23,1),(6,3,1),(7,51,4)] 11 152 [.s [],.nil,.n .i64 0,.s [],.nil,.nil,.n .i64 0,.n .i64 0,.n .i64 0,.n .i64 0,.n .i64 0]),
 (295,tO),
 (297,tO),
 (299,tO),
 (306,tF),
 (308,tG [(0,3,1),(1,3,1),(2,133,1),(3,306,1)] 4 32 [.n .i64 0,.n .i64 0,.c .nilFunc,.c .nilFunc]),
 (309,tO),
 (316,tO),
 (321,tO),
 (322,tL 4),
 (326,tF),
 (328,tF),
 (329,tF),
 (331,tO),
 (337,tI .u64 8),
 (338,tO),
 (348,tO),
 (352,tO),
 (354,tO),
 (359,tO),
 (360,tO),
 (367,tF),
 (368,tO),
 (372,tP),
 (373,tL 5),
 (375,tG [(0,372,1),(1,373,1)] 2 32 [.c<|.pointer none,.nil]),
 (378,tO),
 (380,tF),
 (395,tP),
 (406,tI .i64 8),
 (407,tO),
 (409,tP),
 (413,⟨.array 24 5,some ⟨true,24,24,.agg [.n .u8 0,.n .u8 0,.n .u8 0,.n .u8 0,.n .u8 0,.n .u8 0,.n .u8 0,.n .u8 0,.n .u8 0,.n .u8 0,.n .u8 0,.n .u8 0,.n .u8 0,.n .u8 0,.n .u8 0,.n .u8 0,.n .u8 0,.n .u8 0,.n .u8 0,.n .u8 0,.n .u8 0,.n .u8 0,.n .u8 0,.n .u8 0]⟩⟩),
 (415,tO),
 (417,tO),
 (420,tI .i64 8),
 (421,tO),
 (53,tG [(0,26,1),(1,51,4)] 5 56 [.nil,.n .i64 0,.n .i64 0,.n .i64 0,.n .i64 0]),
 (136,tL 244),
 (244,tG [(0,3,1),(1,3,1),(2,3,1)] 3 24 [.n .i64 0,.n .i64 0,.n .i64 0]),
 (258,tF),
 (323,tF),
 (324,tF),
 (382,tF),
 (433,tG [(0,9,1),(1,9,1),(2,359,1)] 3 48 [.s [],.s [],.c .nilIface])]
def hA:dD prog tt:=by
 unfold tt
 repeat refine⟨⟨by first|exact rfl|exact⟨_,rfl⟩|exact⟨_,rfl,rfl⟩|exact⟨_,_,_,rfl⟩|exact U,λi h=>by cases h<;>rfl⟩,?_⟩
 exact U
def hm:prog.follows .mixedOrders=true:=gq
section
variable{R:Q Nat->Prop}{N:Nat}{F:St->Prop}{k:L It}{l:bJ}
variable{all:Array Oper}{rest:L Oper}{dst:Q Nat}{f:Operand}{ty:TypeId}{pos:String}{aft:Array Edge}{g:Q (Nat×Bool)}{mm:L Nat}{acc:L (L Nat×L Nat)}{xs:Array Operand}{ts:Array TypeId}{rs:L ResultVar}{r:SV}{l':bJ}{ks:L Nat}{k':L It}{ob:L Pd}{qs:L Bool}{ys:L SV}
def r0(h:run tt [] N 100000 k l [] []=([],[],k',l'))(a:AK R prog N F k' l'):AK R prog N F k l:=go hA hm [] h W U a
def r1(h:run tt [] N 100000 k l [] []=(ob,[],k',l'))(a:aj ob)(b:AK R prog N F k' l'):AK R prog N F k l:=go hA hm [] h W a b
def k0(h:run tt [] N 100000 k l [] []=([],qs,k',l'))(a:ov qs=true)(b:AK R prog N F k' l'):AK R prog N F k l:=go hA hm [] h a U b
def k1(h:run tt [] N 100000 k l [] []=(ob,qs,k',l'))(a:ov qs=true)(b:aj ob)(c:AK R prog N F k' l'):AK R prog N F k l:=go hA hm [] h a b c
def kw(a:L Nat)(h:run tt a N 100000 k l [] []=(ob,qs,k',l'))(b:ov qs=true)(c:aj ob)(d:AK R prog N F k' l'):AK R prog N F k l:=go hA hm a h b c d
def UW(m:Nat)(h:run tt [] N m k l [] []=(ob,[],k',l'))(a:aj ob)(b:AK R prog N F k' l'):AK R prog N F k l:=(pc hA hm h a W).2.2 b
def kno(m:Nat)(h:run tt [] N m k l [] []=(ob,qs,k',l'))(a:ov qs=true)(b:aj ob)(c:AK R prog N F k' l'):AK R prog N F k l:=(pc hA hm h b a).2.2 c
def br{c:Operand}{t e:Code}{x:SR}{p:Prop}[Decidable p](b:aO c=true)(h:eP l c=some x)(a:dB x=some ([],.u<|decide p))(i:p->AK R prog N F (.code t::k) l)(d:¬p->AK R prog N F (.code e::k) l):AK R prog N F (.code (.cond c t e)::k) l:=aaZ b h a U i d
def qq{c:Operand}{t e:Code}{x:SR}{b:Bool}(d:aO c=true)(h:eP l c=some x)(a:dB x=some ([],.u b))(j:b=true->AK R prog N F (.code t::k) l)(i:b=false->AK R prog N F (.code e::k) l):AK R prog N F (.code (.cond c t e)::k) l:=branch d h a U j i
def cl{h:sQ}{ks:L Nat}
 (c:dP l all.toList g=some true)(hh:se l f xs.toList=some ([],h))(hs:ab h.g h.asx r)(a:lE l dst r h.sh=some ([],l',ks))(b:AK R prog N F (.ops all rest::k) l'):
 AK R prog N F (.ops all (⟨dst,.call ⟨.value f,xs,ts⟩,ty,pos,aft,g⟩::rest)::k) l:=call c hh U hs a U b
def cd{h:sQ}{ks:L Nat}
 (c:dP l all.toList g=some true)(hh:se l f xs.toList=some ([],h))(hs:ab h.g h.asx r)(a:lE l dst r h.sh=some ([],l',ks))
 (b:AK R prog N F (.vB all mm rest ((kJ (dn l) all ⟨dst,.call ⟨.value f,xs,ts⟩,ty,pos,aft,g⟩,ks)::acc)::k) l'):
 AK R prog N F (.vB all mm (⟨dst,.call ⟨.value f,xs,ts⟩,ty,pos,aft,g⟩::rest) acc::k) l:=X0 c hh U hs a U b
def Hh{h:sQ}{us:L SV}{ob:L Pd}
 (d:dP l all.toList g=some true)(hh:se l f xs.toList=some (ob,h))(b:aj ob)(hl:Jg h.asx us)(hs:ab h.g us r)(a:lE l dst r h.sh=some ([],l',ks))(c:AK R prog N F (.ops all rest::k) l'):
 AK R prog N F (.ops all (⟨dst,.call ⟨.value f,xs,ts⟩,ty,pos,aft,g⟩::rest)::k) l:=call d hh b (hs.ael hl) a U c
def UY{h:sQ}{us:L SV}{ob:L Pd}
 (d:dP l all.toList g=some true)(hh:se l f xs.toList=some (ob,h))(b:aj ob)(hl:Jg h.asx us)(hs:ab h.g us r)(a:lE l dst r h.sh=some ([],l',ks))
 (c:AK R prog N F (.vB all mm rest ((kJ (dn l) all ⟨dst,.call ⟨.value f,xs,ts⟩,ty,pos,aft,g⟩,ks)::acc)::k) l'):
 AK R prog N F (.vB all mm (⟨dst,.call ⟨.value f,xs,ts⟩,ty,pos,aft,g⟩::rest) acc::k) l:=X0 d hh b (hs.ael hl) a U c
def OZ{xs:L SV}(h:pL tt l rs=some xs)(a:aB (Ei xs).cK r):AK R prog N (Yx prog rs r) [] l:=aeR hA h a
def aJ{xs:L SV}(h:pL tt l rs=some xs)(a:aB (Ei xs) r):AK R prog N (Yx prog rs r) [] l:=ret hA h a
def LM{a:L SV}{xs:L SV}(l':L (Nat×SV))(c:sR l l')(h:pL tt (sl l') rs=some xs)(b:aB (Ei xs) r)(hh:M5 (sl l') 500 a):AK R prog N (Yw prog rs r a) [] l:=agv hA _ c h b hh
def cr{h:rF}{out:L SV}{ks:L Nat}
 (c:dP l all.toList g=some true)(hh:x9 l f xs.toList=some ([],h))(hs:kg prog h.g (ra h.R) h.asx out r)(a:mn l dst h.R out r=some (l',ks))(b:AK R prog N F (.ops all rest::k) l'):
 AK R prog N F (.ops all (⟨dst,.call ⟨.value f,xs,ts⟩,ty,pos,aft,g⟩::rest)::k) l:=UA c hh U hs a b
def crd{h:rF}{out:L SV}{ks:L Nat}
 (c:dP l all.toList g=some true)(hh:x9 l f xs.toList=some ([],h))(hs:kg prog h.g (ra h.R) h.asx out r)(a:mn l dst h.R out r=some (l',ks))
 (b:AK R prog N F (.vB all mm rest ((kJ (dn l) all ⟨dst,.call ⟨.value f,xs,ts⟩,ty,pos,aft,g⟩,ks)::acc)::k) l'):
 AK R prog N F (.vB all mm (⟨dst,.call ⟨.value f,xs,ts⟩,ty,pos,aft,g⟩::rest) acc::k) l:=Qq c hh U hs a b
def cqd(n:Nat){h:SB}{ks:L Nat}
 (c:dP l all.toList g=some true)(hh:RJ n l f xs.toList=some ([],h))(hs:yw prog h.g n h.w h.v h.asx r)(a:B5 l dst r=some (l',ks))
 (b:AK R prog N F (.vB all mm rest ((kJ (dn l) all ⟨dst,.call ⟨.value f,xs,ts⟩,ty,pos,aft,g⟩,ks)::acc)::k) l'):
 AK R prog N F (.vB all mm (⟨dst,.call ⟨.value f,xs,ts⟩,ty,pos,aft,g⟩::rest) acc::k) l:=acI n c hh U hs a b
def cx{N:Nat}{f:FuncId}{fn:Func}{c:Code}{args:L SV}(b:prog.funcs[f]?=some fn)(a:(fn.body,fn.ntmps,fn.name== "runtime.NumGoroutine",Nat.ble (len args) fn.ntmps,jk fn.results.toList [])=(some c,N,false,true,true))
 (h:AK R0 prog N (Yx prog fn.results.toList r) [.code c] (Ku 0 args)):ab f args r:=by
 simp only[aeb]at a;let⟨m,d,j,i,e⟩:=a;subst d;exact enter b m j i e h
def cg{c:Operand}{t e:Code}{x:SR}{p:Prop}[Decidable p](a:(aO c,eP l c,dB x)=(true,some x,some ([],.u<|decide p)))(d:p->AK R prog N F (.code t::k) l)(b:¬p->AK R prog N F (.code e::k) l):AK R prog N F (.code (.cond c t e)::k) l:=by simp[aeb]at a;exact br a.1 a.2.1 a.2.2 d b
def b8{h:sQ}{ks:L Nat}
 (a:(dP l all.toList g,se l f xs.toList)=(some true,some ([],h)))(hs:ab h.g h.asx r)(b:lE l dst r h.sh=some ([],l',ks))(c:AK R prog N F (.ops all rest::k) l'):
 AK R prog N F (.ops all (⟨dst,.call ⟨.value f,xs,ts⟩,ty,pos,aft,g⟩::rest)::k) l:=by simp[aeb]at a;exact cl a.1 a.2 hs b c
def b9{h:sQ}{ks:L Nat}
 (a:(dP l all.toList g,se l f xs.toList)=(some true,some ([],h)))(hs:ab h.g h.asx r)(b:lE l dst r h.sh=some ([],l',ks))
 (c:AK R prog N F (.vB all mm rest ((kJ (dn l) all ⟨dst,.call ⟨.value f,xs,ts⟩,ty,pos,aft,g⟩,ks)::acc)::k) l'):
 AK R prog N F (.vB all mm (⟨dst,.call ⟨.value f,xs,ts⟩,ty,pos,aft,g⟩::rest) acc::k) l:=by simp[aeb]at a;exact cd a.1 a.2 hs b c
def bY{xs:L SV}(h:(pL tt l rs,Ei xs)=(some xs,r)):AK R prog N (Yx prog rs r) [] l:=by simp[aeb]at h;exact aJ h.1<|.of_eq h.2
def cw{a b:Int}(h:a=b):aB (.i a) (.i b):=.of_eq<|aal _ h
def cv{c:Operand}{t e:Code}{x:SR}{p:Prop}[Decidable p](h:run tt [] N 100000 k l [] []=([],[],.code (.cond c t e)::k',l'))(d:(aO c,eP l' c,dB x)=(true,some x,some ([],.u<|decide p)))(b:p->AK R prog N F (.code t::k') l')(a:¬p->AK R prog N F (.code e::k') l'):AK R prog N F k l:=r0 h<|cg d b a
def cu{b:sQ}{a l':bJ}(h:run tt [] N 100000 k l [] []=([],[],.ops all (⟨dst,.call ⟨.value f,xs,ts⟩,ty,pos,aft,g⟩::rest)::k',a))
 (e:(dP a all.toList g,se a f xs.toList)=(some true,some ([],b)))(hs:ab b.g b.asx r)(c:lE a dst r b.sh=some ([],l',ks))(d:AK R prog N F (.ops all rest::k') l'):
 AK R prog N F k l:=r0 h<|b8 e hs c d
def ct{b:sQ}{a l':bJ}(h:run tt [] N 100000 k l [] []=([],[],.vB all mm (⟨dst,.call ⟨.value f,xs,ts⟩,ty,pos,aft,g⟩::rest) acc::k',a))
 (e:(dP a all.toList g,se a f xs.toList)=(some true,some ([],b)))(hs:ab b.g b.asx r)(c:lE a dst r b.sh=some ([],l',ks))
 (d:AK R prog N F (.vB all mm rest ((kJ (dn a) all ⟨dst,.call ⟨.value f,xs,ts⟩,ty,pos,aft,g⟩,ks)::acc)::k') l'):AK R prog N F k l:=r0 h<|b9 e hs c d
def cm{xs:L SV}(h:run tt [] N 100000 k l [] []=([],[],[],l'))(b:pL tt l' rs=some xs)(a:aB (Ei xs) r):AK R prog N (Yx prog rs r) k l:=r0 h<|aJ b a
def cn{a:L (Nat×SV)}{A:Prop}(h:run tt [] N 100000 k l [] []=([],[],.inv (BW (λ_:Unit=>a) λ_=>A)::k',l'))(c:A)(b:Fits l' a):AK R prog N F k l:=r0 h<|eV c b
def ck(h:run tt [] N 100000 k l [] []=([],[],k',l'))(d:Nat){p:Prop}[Decidable p](e:(gt l' d).v=.u (decide p))(c:p->AK R prog N F k' ((d,⟨.b true,(gt l' d).g1,(gt l' d).g2⟩)::l'))(a:¬p->AK R prog N F k' ((d,⟨.b false,(gt l' d).g1,(gt l' d).g2⟩)::l')):AK R prog N F k l:=r0 h<|aI d e c a
def cp{c:Code}(h:run tt [] N 100000 k l [] []=([],[],.code (.loop c)::k',l')){b:Type}(a:b->L (Nat×SV))(A:b->Prop)(d:b->Nat)(x:b)(e:A x)(j:Fits l' (a x))(i:∀y,A y->AK R prog N F (.code c::.inv (AQ a A d y)::k') (sl<|a y)):AK R prog N F k l:=r0 h<|loop a A d x e j i
def cq{xs:L SV}(h:run tt [] N 100000 k l [] []=([],[],[],l'))(a:(pL tt l' rs,Ei xs)=(some xs,r)):AK R prog N (Yx prog rs r) k l:=r0 h<|bY a
def rrA{α c:Sort _}{a:α}{b:c}:a=a/\b=b:=G
def fM(h:run tt [] N 100000 k l [] []=(ob,[],k',l'))(b:AK R prog N F k' l')(a:aj ob:=by simp only[aj,abu,agL]<;>omega):AK R prog N F k l:=r1 h a b
def GW(h:run tt [] N 100000 k l [] []=([],qs,k',l'))(b:AK R prog N F k' l')(a:ov qs=true:=by kernel_rfl):AK R prog N F k l:=k0 h a b
def xf(h:run tt [] N 100000 k l [] []=(ob,qs,k',l'))(c:AK R prog N F k' l')(b:aj ob:=by simp only[aj,abu,agL]<;>omega)(a:ov qs=true:=by kernel_rfl):AK R prog N F k l:=k1 h a b c
def aL{b:Type}{a:b->L (Nat×SV)}{A:b->Prop}{c:b->Nat}{y:b}(z:b)(e:A z)(d:Fits l (a z):=by repeat' first|exact rrA|exact U|exact rfl|refine⟨?_,?_⟩)(h:c z<c y:=by(try dsimp only);omega):AK R prog N F (.inv (AQ a A c y)::k) l:=again z h e d
def aU{b:Type}(a:b->L (Nat×SV))(A:b->Prop)(d:b->Nat)(x:b){c:Code}(e:A x)(h:∀y,A y->AK R prog N F (.code c::.inv (AQ a A d y)::k) (sl<|a y))(i:Fits l (a x):=by repeat' first|exact rrA|exact U|exact rfl|refine⟨?_,?_⟩):AK R prog N F (.code (.loop c)::k) l:=loop a A d x e i h
def iX{b:Type}{a:b->L (Nat×SV)}{A:b->Prop}(z:b)(d:A z)(c:Fits l (a z):=by repeat' first|exact rrA|exact U|exact rfl|refine⟨?_,?_⟩):AK R prog N F (.inv (BW a A)::k) l:=meet z d c
def bo{a:L (Nat×SV)}{A:Prop}(c:A)(b:Fits l a:=by repeat' first|exact rrA|exact U|exact rfl|refine⟨?_,?_⟩):AK R prog N F (.inv (BW (λ_:Unit=>a) λ_=>A)::k) l:=eV c b
def bj{p:Prop}(h:p:=by simp only[aj,abu]<;>omega):p:=h
def bh{p:Prop}(h:p:=by simp only[aj,abu]):p:=h
def bg{p:Prop}(h:p:=by simp[aj,abu]<;>omega):p:=h
def bf{p:Prop}(h:p:=by simp[aj,abu]):p:=h
def bd{p:Prop}(h:p:=by simp[aj]):p:=h
def bc{p:Prop}(h:p:=by simp[aj]<;>omega):p:=h
def aP{p:Prop}(h:p:=by kernel_rfl):p:=h
end
section
variable{l:L Int}{m n:Nat}
def B9:Nat:=1000000000
def ah(n:Nat):L Int:=if h:n=0 then[]else((n%B9:Nat):Int)::ah (n/B9)
 termination_by n
 decreasing_by exact ahu (ahD h) gC
def val:L Int->Int
 |[]=>0
 |d::l=>d+1000000000*val l
def ji(l:L Int):Prop:=∀d∈l,0<=d/\d<1000000000
def dj:ah 0=[]:=by rw[ah];simp
def bF(n:Nat):val (ah n)=n:=zag
def bP(n:Nat):ji (ah n):=zae
def bK:∀{l:L Int},ji l->0<=val l
 |[],_=>by simp[val]
 |d::l,h=>zas
def fV(l:L Int)(d:Int):val (l++[d])=val l+d*1000000000^l.length:=zaA
def jq:∀{l:L Int},ji l->val l<1000000000^l.length
 |[],_=>by simp[val]
 |d::l,h=>zat
def vF:∀{l:L Int},ji l->l.getLast?≠some 0->ah (val l).toNat=l
 |[],_,_=>by simp[val,dj]
 |d::l,h,e=>zaa
def tU(h:ji l)(a:l.getLast?≠some 0)(b:val l=n):l=ah n:=by have:=vF h a;grind
def sx(n:Nat):(ah n).getLast?≠some 0:=zac
def aM(l:L Int)(i:Nat):val (l.take<|i+1)=val (l.take i)+l.getD i 0*1000000000^i:=zax
def bB(h:ji l)(i:Nat):0<=l.getD i 0/\l.getD i 0<1000000000:=zaC
def j8{d:Int}(h:ji l)(b:0<=d/\d<1000000000):ji (l++[d]):=by intro x a;rcases aeM.1 a with a|a;exact h x a;grind
def E3(h:ji l)(a:l=[]\/1000000000^(l.length-1)<=val l):l.getLast?≠some 0:=by rcases ajQ l with rfl|⟨l,d,rfl⟩;simp;rw[ajR]at*;simp;rw[fV]at a;have:=jq (l:=l) λx b=>h x (by simp[b]);grind
def eK(n:Nat):(0:Int)<1000000000^n:=Int.pow_pos gC
def tJ(h:ji l)(hl:l.getLast?≠some 0):l=[]\/1000000000^(l.length-1)<=val l:=by rcases ajQ l with rfl|⟨l,d,rfl⟩;exact .inl W;rw[ajR]at*;rw[fV];have e:=bK (l:=l) λx a=>h x (by simp[a]);have c:=h d I;simp at hl;simp;have b:=eK l.length;have:1*1000000000^l.length<=d*1000000000^l.length:=ahM E E;omega
def iv(n:Nat):ah n=[]\/(1000000000:Int)^((ah n).length-1)<=n:=by have:=tJ (bP n)<|sx n;rwa[bF]at this
def dC:L Int->L Int
 |[]=>[]
 |d::l=>match dC l with
  |[]=>if d=0 then[]else[d]
  |x::r=>d::x::r
def nM:∀l:L Int,dC (l++[0])=dC l
 |[]=>by simp[dC]
 |d::l=>by simp[dC,nM l]
def pF:∀{l:L Int},l.getLast?≠some 0->dC l=l
 |[],_=>rfl
 |[d],h=>by simp at h;simp[dC,h]
 |d::x::l,h=>by have:=pF (l:=x::l) h;rw[dC,this]
def xv{w:L Int}(hn:n+1=w.length)(h:w.getD n 0=0):dC (w.take n)=dC w:=zam
def rJ:∀l:L Int,val (dC l)=val l
 |[]=>rfl
 |d::l=>zaf
def fk(h:ji l):dC l=ah (val l).toNat:=zab
def yD:∀l:L Int,(dC l).length<=l.length
 |[]=>by simp[dC]
 |d::l=>by
  have:=yD l;simp[dC]
  grind
def iT(l:L Int)(k:Nat):val l=val (l.take k)+1000000000^(l.take k).length*val (l.drop k):=zaj
def iw(h:ji l)(k:Nat):ji (l.take k):=λx a=>h x<|ahv a
def qj(h:ji l)(k:Nat):ji (l.drop k):=λx a=>h x<|aic a
def bT(n:Nat):(n:Int)<1000000000^(ah n).length:=by have:=jq<|bP n;rwa[bF]at this
def gU(h:n≠0):0<(ah n).length:=by rw[ah,dif_neg h];simp
def ju{a b:Nat}(h:a<=b):(1000000000:Int)^a<=1000000000^b:=by obtain⟨k,rfl⟩:=Nat.exists_eq_add_of_le h;rw[ahR];have c:=eK k;have:=agh (show(1:Int)<=1000000000^k from E)<|af7<|eK a;omega
def cX(h:(ah m).length<(ah n).length):m<n:=by have c:=bT m;rcases iv n with a|a;rw[a]at h;cases h;have b:(1000000000:Int)^(ah m).length<=1000000000^((ah n).length-1):=ju E;omega
def qn(m n:Nat):Int:=if m<n then -1 else if n<m then 1 else 0
def nW{k:Nat}(d:k<(ah m).length)(hl:(ah m).length=(ah n).length)(e:(ah m).drop (k+1)=(ah n).drop (k+1))(h:(ah m).getD k 0<(ah n).getD k 0):m<n:=by
 have b:=iT (ah m)<|k+1;have a:=iT (ah n)<|k+1;rw[bF,aM]at b a;have g:=jq<|iw (bP m) k;have f:=bK<|iw (bP n) k;have c:=eK k;have:((ah m).getD k 0+1)*1000000000^k<=(ah n).getD k 0*(10^9)^k:=ahM E E
 grind
def mf:∀{l:L Int}{j:Nat}(y:Int),j<l.length->val (l.set j y)=val l+(y-l.getD j 0)*1000000000^j
 |[],j,y,h=>by cases h
 |d::l,0,y,_=>by simp[val];omega
 |d::l,j+1,y,h=>zaP
def fS(h:ji l){j:Nat}{y:Int}(b:0<=y/\y<1000000000):ji (l.set j y):=zaD
def dF(l:L Int)(j k:Nat)(y:Int):(l.set j y).getD k 0=if j=k/\k<l.length then y else l.getD k 0:=by grind
def jE(n:Nat):val (List.replicate n 0)=0:=zaG
def gI(n:Nat):ji (List.replicate n 0):=λx a=>gn
def jc(n k:Nat):(List.replicate n (0:Int)).getD k 0=0:=by grind
end
def vG(xs:L Int)(i:Nat):ab 345 [gm xs,.i i] (.i<|xs.getD i 0):=by refine enter func345 W W W W<|cv W W ?_ ?_<;>intro h;exact r1 W ⟨E,E,E,U⟩<|aJ W W;refine cm W W ?_;simp[aB,Ei,gt,agc<|show xs.length<=i from E]
def Dx(m n:Nat)(k:(ah m).length<2^40)(j:(ah n).length<2^40):ab 309 [gm<|ah m,gm<|ah n] (gu<|ah<|m+n):=by
 refine cx func309 W<|r0 W<|qQ (λ(i:Nat)(out:L Int)(c:Int)=>[(0,gm<|ah m),(1,gm<|ah n),(5,gu out),(6,.i c),(7,.i i)])
  (λi out c=>ji out/\out.length=i/\0<=c/\c<=1/\val out+c*(10^9)^i=val ((ah m).take i)+val ((ah n).take i)/\(i<=(ah m).length\/i<=(ah n).length\/(c=0/\out.getLast?≠some 0/\i<=(ah m).length+(ah n).length+1)))
  (λi _ _=>(ah m).length+(ah n).length+2-i) 0 [] 0 ⟨by simp[ji],W,E,E,by simp[val],E⟩ ⟨G,G,G,G,G,U⟩ ?_
 rintro i out c⟨a,hl,q,p,f,hi⟩;refine KU<|ady [(0,gm<|ah m),(1,gm<|ah n),(5,gu out),(6,.i c),(7,.i i)] (i<(ah m).length\/i<(ah n).length\/0<c) ?_ λg=>?_;refine ck W 13 W ?_ ?_<;>intro h;refine r0 W<|bo E;refine ck W 19 W ?_ ?_<;>intro h;refine r0 W<|bo E;refine cv W W ?_ ?_<;>intro h;refine r0 W<|bo E;refine cm W W ?_;have hc:c=0:=E;rw[ad2 E,ad2 E,bF,bF,hc]at f;have b:out.getLast?≠some 0:=by
  have g1:=iv m;have g2:=iv n;rcases hi with hi|hi|hi;refine E3 a ?_
  grind
  refine E3 a ?_
  grind
  exact hi.2.1
 show gu out=_;rw[tU a b (n:=m+n) E];have o:=bB (bP m) i;have l:=bB (bP n) i;refine cu W W (vG _ _) W<|cu W W (vG _ _) W ?_;generalize e:(ah m).getD i 0=x at*;generalize d:(ah n).getD i 0=y at*;refine r1 W ?_ ?_;simp[aj,abu,acC,ad1];omega;refine again (i+1,out++[(x+y+c)%10^9],(x+y+c)/10^9) ?_ ?_ ?_;dsimp only;omega;dsimp only;refine⟨j8 a E,by simp[hl],E,E,?_,?_⟩;rw[fV,hl,aM,aM,e,d,agR]
 grind
 grind
 exact⟨G,G,G,G,G,U⟩
def dT(xs:L Int)(c:xs.length<2^60):ab 271 [gm xs] (gm<|dC xs):=by
 refine cx func271 W<|r0 W<|aU (λw:L Int=>[(0,gm w)]) (λw=>dC w=dC xs/\w.length<=xs.length) (λw=>w.length) xs ⟨W,abY _⟩ ?_;rintro w⟨a,hl⟩;refine ck W 6 W ?_ ?_<;>intro h;refine r1 W (aD) ?_;refine cg W ?_ ?_<;>intro b;refine r1 W (aD) ?_;have e:((w.drop 0).take<|(((w.length:Nat):Int)-1).toNat-0)=w.take (w.length-1):=by simp
 refine again (w.take<|w.length-1) ?_ ⟨?_,?_⟩ ⟨⟨W,aj8 (gm) e⟩,U⟩;simp;omega;rw[<-a];refine xv E ?_;simp_all;simp;omega;refine cm W W ?_;rw[<-a];refine aj8 (gm) (pF ?_).symm;have:((((w.length:Nat):Int)-1).toNat)=w.length-1:=E
 grind
 refine cm W W ?_;have:w=[]:=ai7.1 E;subst this;rw[<-a];rfl
def oF(m n:Nat)(j:(ah m).length<2^60)(g:(ah n).length<2^60):ab 269 [gm<|ah m,gm<|ah n] (.i<|qn m n):=by
 refine cx func269 W<|cv W W ?_ ?_<;>intro h;refine cv W W ?_ ?_<;>intro d;refine cm W W<|cw ?_;have:=cX (m:=m) (n:=n) E;simp[qn,this];refine cm W W<|cw ?_;have:=cX (m:=n) (n:=m) E;simp[qn];omega;have hl:(ah m).length=(ah n).length:=E;refine r1 W (aD) ?_;refine loop (λi:Nat=>[(0,gm<|ah m),(1,gm<|ah n),(5,.i<|(i:Int)-1)]) (λi=>i<=(ah m).length/\(ah m).drop i=(ah n).drop i) (λi=>i) (ah m).length ⟨E,?_⟩
  ⟨G,G,G,U⟩ ?_
 simp_all;rintro i⟨hi,a⟩;refine cv W W ?_ ?_<;>intro d;obtain⟨k,rfl⟩:∃k,i=k+1:=⟨i-1,E⟩;have l:(((k+1:Nat):Int)-1)=(k:Int):=E;have f:(((k+1:Nat):Int)-1).toNat=k:=E;refine k1 W aP (aD) ?_;refine cg W ?_ ?_<;>intro c;rw[f]at c;refine cm W W<|cw ?_;have:=nW E hl a c;simp[qn,this];refine k1 W aP (aD) ?_;refine cg W ?_ ?_<;>intro b;rw[f]at b;refine cm W W<|cw ?_;have:=nW E hl.symm a.symm b;simp[qn];omega;rw[f]at c b;refine r1 W (aD) ?_;refine again k ?_ ⟨E,?_⟩ ⟨G,G,⟨W,aj8 SV.i E⟩,U⟩;omega;have e:(ah m).getD k 0=(ah n).getD k 0:=E;rw[ad5<|show k<(ah m).length from E,ad5<|show k<(ah n).length from E,a]
 grind
 have:i=0:=E;subst this;refine cm W W<|cw ?_;have e:ah m=ah n:=ci
 have:m=n:=by have:=aal val e;rw[bF,bF]at this;omega
 simp[qn,this]
def ub(m n:Nat)(p:(ah m).length<2^40)(hn:n<=m):aS Tryz.prog 310 [.ints .i64 false<|ah m,.ints .i64 false<|ah n] (.ints .i64 false<|ah<|m-n):=by
 have k:(ah n).length<=(ah m).length:=by
  rcases aef (ah m).length (ah n).length with h|h
  ·have:=cX h;omega
  exact h
 refine cx Tryz.func310 W<|r0 W<|qQ (λ(i:Nat)(out:List Int)(c:Int)=>[(0,.ints .i64 false<|ah m),(1,.ints .i64 false<|ah n),(5,.ints .i64 true out),(6,.i c),(7,.i i)])
  (λi out c=>ji out/\out.length=i/\0<=c/\c<=1/\val out-c*1000000000^i=val ((ah m).take i)-val ((ah n).take i)/\i<=(ah m).length)
  (λi _ _=>(ah m).length-i) 0 [] 0 ⟨by simp[ji],W,E,E,by simp[val],E⟩ ⟨G,G,G,G,G,U⟩ ?_
 rintro i out c⟨b,hl,t,s,j,hi⟩;refine cv W W ?_ ?_<;>intro h
 ·have r:=bB (bP m) i;have q:=bB (bP n) i;refine r1 W (aD) ?_;refine b9 W (vG _ _) W ?_;generalize d:(ah m).getD i 0=x at*;have a:(ah m).getD (i:Int).toNat 0=x:=d;generalize g:(ah n).getD i 0=y at*;refine k1 W aP (by simp only[aj,abu,a];omega) ?_;refine cg W ?_ ?_<;>intro f
  ·rw[a]at f;refine r1 W (by simp only[aj,abu,a,acC,ad1];omega) ?_;refine again (i+1,out++[x-y-c+1000000000],1) ?_ ⟨j8 b E,by simp[hl],ac,ac,?_,ac⟩ ⟨G,G,⟨W,?_⟩,G,G,U⟩
   ·dsimp only;omega
   ·dsimp only;rw[fV,hl,aM,aM,d,g,agR]
    grind
   rw[<-a];rfl
  rw[a]at f;refine r1 W (by simp[aj,abu,a,acC,ad1];omega) ?_;refine again (i+1,out++[x-y-c],0) ?_ ⟨j8 b E,by simp[hl],ac,ac,?_,ac⟩ ⟨G,G,⟨W,?_⟩,G,G,U⟩
  ·dsimp only;omega
  ·dsimp only;rw[fV,hl,aM,aM,d,g,agR]
   grind
  rw[<-a];rfl
 refine r0 W ?_;have l:i=(ah m).length:=E;rw[ad2 E,ad2 E,bF,bF]at j;have e:=jq b;rw[hl]at e;have o:=eK i;have hc:c=0:=by grind
 subst hc;refine b8 W (dT _ E) W<|cm W W<|aj8 (SV.ints .i64 false) ?_;rw[fk b]
 congr 1;omega
def vE(m d:Nat)(v:(ah m).length<2^40)(Fg:0<d)(Xf:d<1000000000):aS Tryz.prog 270 [.ints .i64 false<|ah m,.i d] (.de [.ints .i64 false<|ah<|m/d,.i ((m%d:Nat):Int)]):=by
 refine cx Tryz.func270 W<|r1 W (aD) ?_;refine qQ (λ(i:Nat)(out:List Int)(c:Int)=>[(0,.ints .i64 false<|ah m),(1,.i d),(6,.ints .i64 true out),(7,.i c),(8,.i<|(i:Int)-1)])
  (λi out c=>ji out/\out.length=(ah m).length/\0<=c/\c<d/\val ((ah m).drop i)=val (out.drop i)*d+c/\i<=(ah m).length)
  (λi _ _=>i) (ah m).length (List.replicate (ah m).length 0) 0 ⟨gI _,I,E,E,?_,E⟩ ⟨G,G,G,G,G,U⟩ ?_
 ·rw[agt<|abY _,agt I];simp[val]
 rintro i out c⟨e,hl,j,g,a,hi⟩;refine cv W W ?_ ?_<;>intro h
 ·obtain⟨k,rfl⟩:∃k,i=k+1:=⟨i-1,E⟩;have y:=bB (bP m) k;have f:(((k+1:Nat):Int)-1).toNat=k:=E;have ex:(ah m).getD (((k+1:Nat):Int)-1).toNat 0=(ah m).getD k 0:=by rw[f]
  generalize u:(ah m).getD k 0=x at*;have p:0<=(c*10^9+x)/d:=aiJ E E;have o:(c*10^9+x)/d<10^9:=by refine Int.ediv_lt_of_lt_mul E ?_;omega
  have n:=aid (c*10^9+x) (show(d:Int)≠0 from E);have l:=aie (c*10^9+x) (show(0:Int)<d from E);have t:=ajt (c*10^9+x) d;refine r1 W (by simp only[aj,abu,ex,hl,f];omega) ?_;refine again (k,out.set k<|(c*1000000000+x)/d,(c*1000000000+x)%d) ?_ ⟨fS e ⟨p,o⟩,d8,n,l,?_,ac⟩
   ⟨G,G,⟨W,aj8 (SV.ints .i64 true)<|by rw[ex,f]⟩,⟨W,aj8 SV.i<|by rw[ex]⟩,⟨W,aj8 SV.i E⟩,U⟩
  ·omega
  dsimp only;have s:k<(ah m).length:=E;have b:(ah m)[k]=x:=gn;rw[ad5 s,ad5<|show k<(out.set k<|(c*1000000000+x)/d).length by simp;omega,b];simp[List.getElem_set_self,val,List.drop_set_of_lt<|aip k,a]
  grind
 have:i=0:=E;subst this;simp[ahe,bF]at a;refine cu W W (dT _ E) W<|r0 W ?_;have r:val out=((m/d:Nat):Int):=by
  have w:=bK e;have:(m:Int)/d=val out:=by rw[a,Int.add_comm,Int.add_mul_ediv_right _ _ E,Int.ediv_eq_zero_of_lt j g];omega
  rw[<-this];simp
 have q:c=((m%d:Nat):Int):=by
  have:(m:Int)%d=c:=by rw[a,Int.add_comm,Int.add_mul_emod_self_right,Int.emod_eq_of_lt j g]
  rw[<-this];simp
 refine aJ W ⟨aj8 (SV.ints .i64 false) ?_,aj8 SV.i q,U⟩;rw[fk e,r];rfl
def dH:Nat->Int->Int->Int->Int->Int->Int
 |0,t,_,_,_,_=>t
 |k+1,t,r,v1,v2,u2=>if 1000000000<=t\/r*1000000000+u2<t*v2 then(if 1000000000<=r+v1 then t-1 else dH k (t-1) (r+v1) v1 v2 u2)else t
def iW{a b c:Int}(h:a<=b)(hc:0<=c):a*c<=b*c:=ahM h hc
def vp{v1 v2 u2 f P g s U V:Int}(q:0<P)(n:1<=v1)(u:0<=v2/\v2<1000000000)(v:0<=u2/\u2<1000000000)(m:0<=g/\g<P)(H:0<=s/\s<P)
 (C:V=v1*(1000000000*P)+v2*P+g)(S:U=f*(1000000000*P)+u2*P+s)(M:U<1000000000*V):
 ∀(k:Nat)(t r:Int),k=t.toNat->0<=t->0<=r->t*v1+r=f->U<(t+1)*V->U<(dH k t r v1 v2 u2+1)*V/\(dH k t r v1 v2 u2-1)*V<=U/\0<=dH k t r v1 v2 u2/\dH k t r v1 v2 u2<=t:=by
 have F:v2*P+g<10^9*P:=by
  have:=iW (show v2+1<=(10^9) from E)<|af7 q
  grind
 have z:0<=v2*P:=agy u.1 E;have w:0<V:=by have:=iW n (show 0<=1000000000*P from E);omega
 have A:f<10^9*v1+10^9:=by
  have x:f*(10^9*P)<(1000000000*v1+1000000000)*(1000000000*P):=za2
  exact aiK x E
 have i:∀t r:Int,0<=t->t<1000000000->t*v1+r=f->t*v2<=r*1000000000+u2->(t-1)*V<=U:=by
  intro t r l x h j;have R:t*V=t*v1*(1000000000*P)+t*v2*P+t*g:=by rw[C];grind
  have O:t*v1*(1000000000*P)=f*(1000000000*P)-r*1000000000*P:=l0
  have y:=iW j<|af7 q;rw[ahS]at y;have N:t*g<=1000000000*P:=zaH
  have T:=iW n (show 0<=1000000000*P from E)
  grind
 have less:∀t r:Int,0<=t->t*v1+r=f->(1000000000<=t\/r*1000000000+u2<t*v2)->U<t*V:=by
  intro t r l h j;rcases j with j|j
  ·have:=iW j<|af7 w;omega
  have R:t*V=t*v1*(1000000000*P)+t*v2*P+t*g:=by rw[C];grind
  have O:t*v1*(1000000000*P)=f*(1000000000*P)-r*1000000000*P:=l0
  have y:=iW (show r*1000000000+u2+1<=t*v2 from E)<|af7 q;rw[ahS,ahS]at y;have N:0<=t*g:=agy l m.1;omega
 intro k
 induction k with
 |zero=>intro t r K l J h B;have:t=0:=E;subst this;simp only[dH];refine⟨B,?_,E,E⟩;exact i 0 r E E h E
 |succ k D=>
  intro t r K l J h B;simp[dH];by_cases hc:1000000000<=t\/r*1000000000+u2<t*v2
  ·rw[abx hc];have hl:=less t r l h hc;have p:(t-1)*v1+(r+v1)=f:=by rw[aiL];omega
   by_cases o:1000000000<=r+v1
   ·rw[abx o];have e:t-1+1=t:=E;rw[e];refine⟨hl,?_,E,E⟩;have hs:t-1<1000000000:=by
     have:(t-1)*v1<1000000000*v1:=E;exact aiK this E
    refine i (t-1) (r+v1) E hs p ?_;have a:(t-1)*v2<=(t-1)*1000000000:=agh E E;omega
   rw[abl o];have e:t-1+1=t:=E;let⟨a,b,c,d⟩:=D (t-1) (r+v1) E E E p (by rw[e];exact hl);omega
  grind
def oz(m n:Nat)(O:(ah m).length<2^40)(N:(ah n).length<2^40):ab 201 [gm<|ah m,gm<|ah n] (gm<|ah<|m*n):=by
 refine cx func201 W<|r1 W (am) ?_;refine lM (λ(i:Nat)(out:L Int)=>[(0,gm<|ah m),(1,gm<|ah n),(5,gu out),(6,.i i)])
  (λi out=>ji out/\out.length=(ah m).length+(ah n).length/\val out=val ((ah m).take i)*n/\i<=(ah m).length/\∀k,i+(ah n).length<=k->out.getD k 0=0)
  (λi _=>(ah m).length-i) 0 (List.replicate ((ah m).length+(ah n).length) 0) ⟨gI _,I,by simp[val,jE],E,λk _=>jc _ _⟩ ⟨G,G,⟨W,aj8 (gu)<|by congr 1⟩,G,U⟩ ?_
 rintro i out⟨t,hl,s,hi,z⟩;refine cv W W ?_ ?_<;>intro h;refine r0 W ?_;have T:=bB (bP m) i;generalize r:(ah m).getD i 0=x at*;refine qQ (λ(k:Nat)(o:L Int)(c:Int)=>[(0,gm<|ah m),(1,gm<|ah n),(5,gu o),(6,.i i),(7,.i c),(8,.i k)])
  (λk o c=>ji o/\o.length=(ah m).length+(ah n).length/\0<=c/\c<10^9/\val o+c*(10^9)^(i+k)=val out+x*val ((ah n).take k)*(10^9)^i/\k<=(ah n).length/\∀a,i+k<=a->o.getD a 0=out.getD a 0)
  (λk _ _=>(ah n).length-k) 0 out 0 ⟨t,hl,E,E,by simp[val],E,λ_ _=>rfl⟩ ⟨G,G,G,G,G,G,U⟩ ?_
 rintro k o c⟨l,d,J,H,C,P,u⟩;refine cv W W ?_ ?_<;>intro B;have S:=bB (bP n) k;have R:=bB l<|i+k;have F:(i:Int).toNat=i:=E;have D:(k:Int).toNat=k:=E;have p:((i:Int)+(k:Int)).toNat=i+k:=E;generalize q:(ah n).getD k 0=y at*;generalize b:o.getD (i+k) 0=w at*;have M:0<=x*y:=agy E E;have K:x*y<=999999999*999999999:=aiM E E E E;refine k1 W aP (by simp only[aj,abu,F,D,p,r,q,b,d];omega) ?_;refine again (k+1,o.set (i+k)<|(w+x*y+c)%10^9,(w+x*y+c)/10^9) ?_ ⟨fS l E,b5,ac,ac,?_,ac,?_⟩
  ⟨G,G,⟨W,aj8 (gu) gn⟩,G,⟨W,aj8 SV.i gn⟩,G,U⟩
 dsimp only;omega;dsimp only;have f:i+k<o.length:=E;rw[mf _ f,b,aM,q,show i+(k+1)=i+k+1 from E,agR,ahR]
 grind
 dsimp only;intro a g;rw[dF,abl E];exact u a E;have A:k=(ah n).length:=E;subst A;rw[ad2<|abY _,bF]at C;have b:o.getD (i+(ah n).length) 0=0:=by grind
 have v:((i:Int)+((ah n).length:Int)).toNat=i+(ah n).length:=E;have e:o.getD ((i:Int)+((ah n).length:Int)).toNat 0=0:=by rw[v];exact b
 refine r1 W (by simp only[aj,abu,e,d,v];omega) ?_;refine again (i+1,o.set (i+(ah n).length) c) ?_ ⟨fS l ⟨J,H⟩,b5,?_,ac,?_⟩
  ⟨G,G,⟨W,aj8 (gu) gn⟩,G,U⟩
 dsimp only;omega;dsimp only;rw[mf _ E,b,aM,r]
 grind
 dsimp only;intro a g;rw[dF,abl E,u a E];exact z a E;have j:i=(ah m).length:=E;subst j;rw[ad2<|abY _,bF]at s;refine cu W W (dT _ E) W<|cm W W<|aj8 (gm) ?_;rw[fk t,s,<-ah0];rfl
def M7(u v:L Int)(j n:Nat)(hu:ji u)(A:ji v)(hn:v.length=n)(S:2<=n)(R:j+n<u.length)(H:u.length<2^60)(F:500000000<=v.getD (n-1) 0):
 ab 272 [gm u,gm v,.i j] (.i<|dH ((u.getD (j+n) 0*1000000000+u.getD (j+n-1) 0)/v.getD (n-1) 0).toNat ((u.getD (j+n) 0*1000000000+u.getD (j+n-1) 0)/v.getD (n-1) 0) ((u.getD (j+n) 0*1000000000+u.getD (j+n-1) 0)%v.getD (n-1) 0) (v.getD (n-1) 0) (v.getD (n-2) 0)<|u.getD (j+n-2) 0):=by
 have a1:=bB hu<|j+n;have a2:=bB hu<|j+n-1;have a3:=bB hu<|j+n-2;have Z:=bB A<|n-1;have Y:=bB A<|n-2;have D:((j:Int)+(n:Int)).toNat=j+n:=E;have C:((j:Int)+(n:Int)-1).toNat=j+n-1:=E;have x:((j:Int)+(n:Int)-2).toNat=j+n-2:=E;have q:((n:Int)-1).toNat=n-1:=E;have w:((n:Int)-2).toNat=n-2:=E;subst hn;generalize z:u.getD (j+v.length) 0=g at*;generalize y:u.getD (j+v.length-1) 0=f at*;generalize o:u.getD (j+v.length-2) 0=s at*;generalize d:v.getD (v.length-1) 0=c at*;generalize m:v.getD (v.length-2) 0=p at*;refine cx func272 W ?_;have M:0<=(g*10^9+f)/c:=aiJ E E;have K:(g*1000000000+f)/c<=2000000000:=by have:=Int.ediv_lt_of_lt_mul (show 0<c from E) (a:=g*1000000000+f) (b:=2000000001) E;omega
 have J:=aid (g*1000000000+f) (show c≠0 from E);have c3:=aie (g*1000000000+f) (show 0<c from E);refine k1 W aP (by simp only[aj,abu,D,C,q,z,y,d];omega) ?_;refine lM (λ(t r:Int)=>[(0,gm u),(1,gm v),(2,.i j),(7,.i v.length),(9,.i t),(10,.i r)])
  (λt r=>0<=t/\t<=2000000000/\0<=r/\r<10^9/\dH t.toNat t r c p s=dH ((g*1000000000+f)/c).toNat ((g*1000000000+f)/c) ((g*1000000000+f)%c) c p s) (λt _=>t.toNat) _ _ ⟨M,K,J,E,W⟩
  ⟨G,G,G,G,⟨W,aj8 SV.i gn⟩,⟨W,aj8 SV.i gn⟩,U⟩ ?_
 rintro t r⟨d0,X,V,T,l⟩;refine KU<|ady [(0,gm u),(1,gm v),(2,.i j),(7,.i v.length),(9,.i t),(10,.i r)] (1000000000<=t\/r*1000000000+s<t*p) ?_ λhc=>?_;refine ck W 44 W ?_ ?_<;>intro h;refine k0 W aP<|bo<|.inl h;have N:t*p<=999999999*999999999:=aiM E E E E;have O:0<=t*p:=agy E E;refine k1 W aP (by simp only[aj,abu,x,w,o,m];omega) ?_;refine cg W ?_ ?_<;>intro e;simp only[x,w,o,m]at e;refine r0 W<|bo<|.inr e;simp only[x,w,o,m]at e;refine cm W W<|cw ?_;rw[<-l];cases B:t.toNat with
 |zero=>rfl
 |succ k=>simp only[dH];rw[abl E]
 ·have P:0<t:=by
   grind
  obtain⟨k,B⟩:∃k,t.toNat=k+1:=⟨t.toNat-1,E⟩;rw[B]at l;simp only[dH]at l;rw[abx hc]at l;refine r1 W (by simp only[aj,abu,q,d];omega) ?_;refine cg W ?_ ?_<;>intro e;simp only[q,d]at e;rw[abx e]at l;refine cm W W<|aj8 SV.i l;simp only[q,d]at e;rw[abl e]at l;refine r0 W<|again (t-1,r+c) ?_ ⟨ac,ac,ac,ac,?_⟩ ⟨G,G,G,G,G,⟨W,aj8 SV.i<|by simp only[q,d]⟩,U⟩;dsimp only;omega;simp_all
section
variable{y:Int}{w:L Int}{j k n:Nat}
def Um(h:j<=k):(w.set k y).drop j=(w.drop j).set (k-j) y:=by rw[List.drop_set,abl E]
def fO(h:j<=k):(w.set k y).take j=w.take j:=by rw[List.take_set_of_le h]
def IF(w:L Int)(j k:Nat):(w.drop j).getD k 0=w.getD (j+k) 0:=by simp
def oH(h:j<=k)(a:k<w.length):val ((w.set k y).drop j)=val (w.drop j)+(y-w.getD k 0)*1000000000^(k-j):=by rw[Um h,mf _<|by simp;omega,IF,show j+(k-j)=k from E]
def sY(h:j+n<w.length):val (w.drop j)=val ((w.drop j).take n)+w.getD (j+n) 0*1000000000^n+1000000000^(n+1)*val (w.drop<|j+n+1):=by
 have e:=iT (w.drop j)<|n+1;rw[aM,IF]at e;have l:((w.drop j).take<|n+1).length=n+1:=by grind
 rwa[l,ahX]at e
def sZ(h:j+n<=w.length)(f:∀k,j<=k->k<j+n->0<=w.getD k 0/\w.getD k 0<1000000000):0<=val ((w.drop j).take n)/\val ((w.drop j).take n)<1000000000^n:=by
 have b:ji ((w.drop j).take n):=by
  intro d a;obtain⟨k,e,rfl⟩:=ahJ a;have c:k<n/\j+k<w.length:=by grind
  have:=f (j+k) E E;grind
 have l:((w.drop j).take n).length=n:=by grind
 refine⟨bK b,?_⟩;have:=jq b;grind
def iA(h:j<w.length):val (w.drop j)=w.getD j 0+1000000000*val (w.drop<|j+1):=by rw[ad5 h];simp[val,ad7 h]
def NG(h:∀k,k<w.length->0<=w.getD k 0/\w.getD k 0<1000000000):ji w:=by intro d a;obtain⟨k,b,rfl⟩:=ahJ a;grind
def B3{u:L Int}(hl:w.length=u.length){p:Nat}(h:∀k,p<=k->w.getD k 0=u.getD k 0):w.drop p=u.drop p:=by
 apply ahT;simp[hl];intro i b c
 have:=h (p+i) E;grind
def j7{f:Nat}(c:0<f)(b:f<1000000000):ah f=[(f:Int)]:=zau
def Wt{b F:Int}(c:1<=b/\b<1000000000)(d:F=1000000000/(b+1)):1<=F/\F<=500000000/\(b+1)*F<=1000000000/\500000000<=b*F:=by
 have e:=ajt 1000000000 (b+1);have o:=aid 1000000000 (show b+1≠0 from E);have m:=aie 1000000000 (show 0<b+1 from E);rw[<-d]at e;have a:1<=F:=by
  rcases aiq F 1 with h|h;have:(b+1)*F<=0:=by have:=agh (show F<=0 from E) (show 0<=b+1 from E);omega
  omega;exact h
 have p:(b+1)*F=b*F+F:=by rw[ahS];omega
 have l:b<=b*F:=by have:=agh a (show 0<=b from E);omega
 have i:F<=b*F:=by have:=iW c.1 (show 0<=F from E);omega
 have g:2<=b->2*F<=b*F:=λh=>iW h E;have f:2<=F->2*b<=b*F:=λh=>by have:=agh h (show 0<=b from E);omega
 omega
def TM{Fn:Nat}(hn:2<=(ah n).length)(r:(Fn:Int)=1000000000/((ah n).getD ((ah n).length-1) 0+1)):
 1<=Fn/\Fn<=500000000/\(ah<|n*Fn).length=(ah n).length/\500000000<=(ah<|n*Fn).getD ((ah n).length-1) 0:=by
 have f:=sx n;have p:=bB (bP n)<|(ah n).length-1;have i:(ah n).getD ((ah n).length-1) 0≠0:=by grind
 have ev:=sY (w:=ah n) (j:=0) (n:=(ah n).length-1) E;have c:=sZ (w:=ah n) (j:=0) (n:=(ah n).length-1) E λk _ _=>bB (bP n) k;simp[ahe,ahY]at ev c;rw[bF,agt<|show(ah n).length<=(ah n).length-1+1 from E]at ev;generalize o:(ah n).getD ((ah n).length-1) 0=b at*;let⟨C,B,u,A⟩:=Wt ⟨E,p.2⟩ r;generalize val ((ah n).take<|(ah n).length-1)=lo at*;simp[val]at ev;generalize g:(1000000000:Int)^((ah n).length-1)=P at*;have v:((n*Fn:Nat):Int)=lo*Fn+(b*Fn)*P:=by grind
 have l:((n*Fn:Nat):Int)<10^9*P:=by
  have z:(lo+1)*Fn<=P*Fn:=iW E E;have x:(b+1)*Fn*P<=10^9*P:=iW u E
  grind
 have m:(b*Fn)*P<=((n*Fn:Nat):Int):=by have:0<=lo*(Fn:Int):=agy c.1 E;omega
 have e:(ah<|n*Fn).length=(ah n).length:=by
  have g1:=bT<|n*Fn;have g2:=iv<|n*Fn;have q:P<=((n*Fn:Nat):Int):=by have:=iW (show 1<=b*(Fn:Int)from E) (show 0<=P from E);omega
  rcases aef (ah<|n*Fn).length (ah n).length with h|h;have:=ju (show(ah<|n*Fn).length<=(ah n).length-1 from E);omega;rcases g2 with g2|g2;simp_all;rcases aef (ah n).length (ah<|n*Fn).length with t|t;have:=ju (show(ah n).length<=(ah<|n*Fn).length-1 from E);have D:(1000000000:Int)^(ah n).length=10^9*P:=by rw[<-g,show(ah n).length=(ah n).length-1+1 from E,agR];simp;omega
  omega;omega
 refine⟨E,E,e,?_⟩;have d:=sY (w:=ah<|n*Fn) (j:=0) (n:=(ah n).length-1) E;have a:=sZ (w:=ah<|n*Fn) (j:=0) (n:=(ah n).length-1) E λk _ _=>bB (bP _) k;simp only[ahe,ahY]at d a;rw[bF,agt<|show(ah<|n*Fn).length<=(ah n).length-1+1 from E,g]at d;rw[g]at a;simp only[val]at d;generalize (ah<|n*Fn).getD ((ah n).length-1) 0=y at*;have:b*(Fn:Int)<y+1:=by
  have s:(b*(Fn:Int))*P<(y+1)*P:=by rw[ahS];omega
  exact aiK s E
 omega
end
def Uq{U V:Int}{n:Nat}(b:U<1000000000*V)(a:V<1000000000^n):U<1000000000^(n+1):=by omega
theorem oB(m n:Nat)(h1:(ah m).length<2^36)(h2:(ah n).length<2^36)(hn0:n≠0):ab 199 [gm<|ah m,gm<|ah n] (.de [gm<|ah<|m/n,gm<|ah<|m%n]):=by
 refine cx func199 W<|cu W W (oF m n E E) W<|cv W W ?_ ?_<;>intro h;have hlt:m<n:=by unfold qn at h;omega
 refine cm W W ⟨?_,aj8 (gm) ?_,U⟩;show ah (m/n)=[];rw[ahf hlt,dj];rw[ahr hlt];have hge:n<=m:=by unfold qn at h;omega
 have hnp:=gU hn0;have hlb:(ah n).length<=(ah m).length:=by rcases aef (ah m).length (ah n).length with h'|h';have:=cX h';omega;exact h'
 refine cv W W ?_ ?_<;>intro h3;have hs:ah n=[(n:Int)]/\n<1000000000:=by
  have e:=bF n;have hl:(ah n).length=1:=E;obtain⟨d,hd⟩:=List.length_eq_one_iff.1 hl;have:=bP n d (by rw[hd];simp);rw[hd]at e;simp only[val]at e
  grind
 have hg:(ah n).getD (0:Int).toNat 0=(n:Int):=by rw[hs.1];rfl
 refine r1 W (am) ?_;refine b8 W (by rw[hg];exact vE m n E E hs.2) W ?_;refine cu W W (dT _ I) W<|cm W W ⟨aB.refl _,aj8 (gm) ?_,U⟩;have hlt:m%n<n:=aea _ E;rw[fk λd hd=>by simp at hd;omega];rfl;have hl2:2<=(ah n).length:=E;have et:(((ah n).length:Int)-1).toNat=(ah n).length-1:=E;have hbt:=bB (bP n)<|(ah n).length-1;refine r1 W (by simp only[aj,abu,et];omega) ?_;rw[et];have hF0:0<=1000000000/((ah n).getD ((ah n).length-1) 0+1):=aiJ E E;obtain⟨Fn,hFn⟩:=Int.eq_ofNat_of_zero_le hF0;obtain⟨f1,f2,f3,f4⟩:=TM hl2 hFn.symm;have hFd:=j7 (f:=Fn) E E;have hFl:(ah Fn).length<2^40:=by rw[hFd];simp
 rw[hFn];refine b8 W (by rw[<-hFd];exact oz n Fn E hFl) W ?_;refine cu W W (by rw[<-hFd];exact oz m Fn E hFl) W ?_;have hla:(ah<|m*Fn).length<=(ah m).length+1:=by
  have g1:=bT m;rcases iv (m*Fn)with g2|g2;rw[g2];simp;rcases aef ((ah m).length+1) (ah<|m*Fn).length with h'|h';have:=ju (show(ah m).length+1<=(ah<|m*Fn).length-1 from E);rw[agR]at this;have e:((m*Fn:Nat):Int)<=m*500000000:=by rw[ah0];exact agh E E
  omega;exact h'
 refine r1 W (by simp only[aj,abu,len,f3];omega) ?_;have hvl:=f3;generalize hV:ah (n*Fn)=v at*;have dv:ji v:=hV▸bP _;have vv:val v=((n*Fn:Nat):Int):=by rw[<-hV,bF]
 have hvpos:0<val v:=by rw[vv];have:0<n*Fn:=aeB E E;omega
 have hvlt:val v<1000000000^(ah n).length:=by have:=jq dv;rwa[hvl]at this
 generalize hnb:(ah n).length=nb at*;generalize hlm:(ah m).length=la at*;refine loop (λw:List Int=>[(0,gm<|ah m),(8,gm [(Fn:Int)]),(9,gm v),(10,.i nb),(11,gu w)]) (λw=>ji w/\val w=((m*Fn:Nat):Int)/\w.length<=la+1) (λw=>la+1-w.length) (ah<|m*Fn)
  ⟨bP _,bF _,hla⟩ ⟨G,G,G,⟨W,aj8 SV.i<|by rw[hvl]⟩,G,U⟩ ?_
 rintro w⟨wd,wv,wl⟩;refine r1 W (am) ?_;refine cg W ?_ ?_<;>intro h4;rw[hlm]at h4;refine r1 W (na) ?_;refine again (w++[0]) ?_ ⟨j8 wd E,by rw[fV,wv];simp,by simp;omega⟩ ⟨G,G,G,G,G,U⟩;simp;omega;rw[hlm]at h4;have hwl:w.length=la+1:=E;have el1:((w.length:Int)-(nb:Int)).toNat=la+1-nb:=E;have el2:((w.length:Int)-(nb:Int)-1)=((la+1-nb:Nat):Int)-1:=E;refine r1 W (by simp only[aj,abu,hwl];omega) ?_;refine qQ (λ(i:Nat)(u q:List Int)=>[(8,gm [(Fn:Int)]),(9,gm v),(10,.i nb),(11,gu u),(12,gu q),(13,.i<|(i:Int)-1)])
  (λi u q=>ji u/\u.length=la+1/\ji q/\q.length=la+1-nb/\i<=la+1-nb/\val (u.drop i)<val v/\((m*Fn:Nat):Int)=val u+val v*val (q.drop i)*1000000000^i)
  (λi _ _=>i) (la+1-nb) w (List.replicate (la+1-nb) 0) ⟨wd,hwl,gI _,I,abY _,?_,?_⟩
  ⟨G,G,G,G,⟨W,aj8 (gu)<|by rw[el1]⟩,⟨W,aj8 SV.i el2⟩,U⟩ ?_
 have e:=iT w<|la+1-nb;have l:(w.take<|la+1-nb).length=la+1-nb:=by simp;omega
 rw[l,wv]at e;have e0:=bK<|iw wd<|la+1-nb;have g1:=bT m;rw[hlm]at g1;have g2:(1000000000:Int)^(nb-1)<=n:=by rcases iv n with g|g;simp_all;simp_all
 have p1:=eK<|la+1-nb;have e2:(1000000000:Int)^la=1000000000^(la+1-nb)*1000000000^(nb-1):=by rw[<-ahR];congr 1;omega
 have e3:((m*Fn:Nat):Int)<1000000000^(la+1-nb)*val v:=by
  rw[vv,ah0,ah0];have a1:(m:Int)*Fn<1000000000^la*Fn:=Int.mul_lt_mul_of_pos_right g1 E;have a2:(1000000000:Int)^la*Fn<=1000000000^(la+1-nb)*(n*Fn):=by rw[e2,Int.mul_assoc];exact agh (iW g2 E) E
  omega
 have:1000000000^(la+1-nb)*val (w.drop<|la+1-nb)<1000000000^(la+1-nb)*val v:=E;simp_all;rw[wv,agt I];simp[val];rintro i u q⟨ud,ul,qd,ql,hi,hlt,heq⟩;rcases i with _|j;refine cv W W (λh5=>abK h5 E) λ_=>?_;have enb:(nb:Int).toNat=nb:=E;simp only[ahe,Int.pow_zero,Int.mul_one]at hlt heq;have hu0:=bK ud;have hq0:=bK qd;have hq:val q=((m/n:Nat):Int):=by
  have e1:(m*Fn)/(n*Fn)=m/n:=aju _ _ E;have e2:((m*Fn:Nat):Int)/((n*Fn:Nat):Int)=val q:=by rw[heq,<-vv,Int.add_mul_ediv_left _ _ E,Int.ediv_eq_zero_of_lt hu0 hlt];omega
  omega
 have hr:val u=(((m%n)*Fn:Nat):Int):=by
  have e1:(m*Fn)%(n*Fn)=(m%n)*Fn:=ajv _ _ _;have e2:((m*Fn:Nat):Int)%((n*Fn:Nat):Int)=val u:=by rw[heq,<-vv,Int.add_mul_emod_self_left,Int.emod_eq_of_lt hu0 hlt]
  omega
 have hut:val (u.take nb)=(((m%n)*Fn:Nat):Int):=by
  have e:=iT u nb;have l:(u.take nb).length=nb:=by simp;omega
  rw[l]at e;have a1:=bK<|iw ud nb;have a2:=bK<|qj ud nb;have a3:1000000000^nb*val (u.drop nb)<1000000000^nb*1:=E;have a4:=Int.lt_of_mul_lt_mul_left a3<|af7<|eK nb
  grind
 refine r1 W (by simp only[aj,abu,enb,ul];omega) ?_;refine b9 W (dT _<|by simp;omega) W ?_;have etr:dC (((u.drop 0).take<|(nb:Int).toNat-0))=ah ((m%n)*Fn):=by rw[ahe,enb,aiN,fk<|iw ud _,hut];rfl
 rw[etr];refine r1 W (na) ?_;have hlr:(ah<|(m%n)*Fn).length<2^40:=by
  rw[<-etr];have a1:=yD<|((u.drop 0).take<|(nb:Int).toNat-0)
  grind
 refine b9 W (vE ((m%n)*Fn) Fn hlr E E) W<|k0 W aP<|b8 W (dT _ E) W<|cm W W ⟨aj8 (gm) ?_,aj8 (gm) ?_,U⟩;rw[fk qd,hq];rfl;rw[ajw _ E];have hjl:j+nb<la+1:=E;have ej:(((j+1:Nat):Int)-1)=(j:Int):=E;have hu:=iA (w:=u) (j:=j) E;have huj:=bB ud j;have hUV:val (u.drop j)<1000000000*val v:=E;have hU0:=bK<|qj ud j;have hhi:val (u.drop<|j+nb+1)=0:=by have e:=sY (w:=u) (j:=j) (n:=nb) E;have lo:=sZ (w:=u) (j:=j) (n:=nb) E λk _ _=>bB ud k;have d1:=bB ud<|j+nb;have d2:=bK<|qj ud<|j+nb+1;have d3:=Uq hUV hvlt;have d4:=agy d1.1<|af7<|eK nb;have d5:1000000000^(nb+1)*val (u.drop<|j+nb+1)<1000000000^(nb+1)*1:=E;have:=Int.lt_of_mul_lt_mul_left d5<|af7<|eK _;omega
 have hguess:=M7 u v j nb ud dv hvl hl2 E E f4;have hT:val (u.drop j)<((dH ((u.getD (j+nb) 0*1000000000+u.getD (j+nb-1) 0)/v.getD (nb-1) 0).toNat ((u.getD (j+nb) 0*1000000000+u.getD (j+nb-1) 0)/v.getD (nb-1) 0) ((u.getD (j+nb) 0*1000000000+u.getD (j+nb-1) 0)%v.getD (nb-1) 0) (v.getD (nb-1) 0) (v.getD (nb-2) 0)<|u.getD (j+nb-2) 0)+1)*val v/\
  ((dH ((u.getD (j+nb) 0*1000000000+u.getD (j+nb-1) 0)/v.getD (nb-1) 0).toNat ((u.getD (j+nb) 0*1000000000+u.getD (j+nb-1) 0)/v.getD (nb-1) 0) ((u.getD (j+nb) 0*1000000000+u.getD (j+nb-1) 0)%v.getD (nb-1) 0) (v.getD (nb-1) 0) (v.getD (nb-2) 0)<|u.getD (j+nb-2) 0)-1)*val v<=val (u.drop j)/\
  0<=dH ((u.getD (j+nb) 0*1000000000+u.getD (j+nb-1) 0)/v.getD (nb-1) 0).toNat ((u.getD (j+nb) 0*1000000000+u.getD (j+nb-1) 0)/v.getD (nb-1) 0) ((u.getD (j+nb) 0*1000000000+u.getD (j+nb-1) 0)%v.getD (nb-1) 0) (v.getD (nb-1) 0) (v.getD (nb-2) 0) (u.getD (j+nb-2) 0):=by
  obtain⟨c,rfl⟩:∃c,nb=c+2:=⟨nb-2,E⟩;have tv:=sY (w:=v) (j:=0) (n:=c) E;have tv1:=iA (w:=v) (j:=0+c+1) E;have tv2:v.drop (0+c+1+1)=[]:=agt E;have U:=sZ (w:=v) (j:=0) (n:=c) E λk _ _=>bB dv k;have tu:=sY (w:=u) (j:=j) (n:=c) E;have tu1:=iA (w:=u) (j:=j+c+1) E;have tu2:=iA (w:=u) (j:=j+c+1+1) E;have tul:=sZ (w:=u) (j:=j) (n:=c) E λk _ _=>bB ud k;rw[tv2]at tv1;simp only[val,ahY,ahe]at tv tv1 U;rw[tv1]at tv;have hh:val (u.drop<|j+c+1+1+1)=0:=hhi;rw[hh]at tu2;rw[tu2]at tu1;rw[tu1]at tu;have g0:=bB dv c;have g1:=bB dv<|c+1;have g2:=bB ud<|j+c;have g3:=bB ud<|j+c+1;have g4:=bB ud<|j+c+1+1;have x1:c+2-1=c+1:=E;have x2:c+2-2=c:=E;have x3:j+(c+2)=j+c+1+1:=E;have x4:j+(c+2)-1=j+c+1:=E;have x5:j+(c+2)-2=j+c:=E;rw[x1]at f4;rw[x1,x2,x4,x5,x3];generalize v.getD (c+1) 0=v1 at*;generalize v.getD c 0=v2 at*;generalize u.getD (j+c) 0=u3 at*;generalize u.getD (j+c+1) 0=u2 at*;generalize u.getD (j+c+1+1) 0=u1 at*;rw[agR]at tv tu;have hP:=eK c;have q0:0<=(u1*1000000000+u2)/v1:=aiJ E E;have q1:=aid (u1*1000000000+u2) (show v1≠0 from E);have q2:=aie (u1*1000000000+u2) (show 0<v1 from E);have q3:=ajt (u1*1000000000+u2) v1;generalize (1000000000:Int)^c=P at*;have hV':val v=v1*(1000000000*P)+v2*P+val (v.take c):=by rw[tv];grind
  have hU':val (u.drop j)=(u1*1000000000+u2)*(1000000000*P)+u3*P+val ((u.drop j).take c):=by rw[tu];grind
  have:=vp hP E g0 g2 U tul hV' hU' hUV ((u1*1000000000+u2)/v1).toNat ((u1*1000000000+u2)/v1) ((u1*1000000000+u2)%v1) W q0 q1 (by grind) ?_;omega;have a1:(u1*1000000000+u2)+1<=((u1*1000000000+u2)/v1+1)*v1:=by grind
  have a2:=iW a1 (show 0<=1000000000*P from E);have a3:u3*P+val ((u.drop j).take c)<1000000000*P:=by
   have:=iW (show u3+1<=1000000000 from E) (show 0<=P from E)
   grind
  have a4:0<=v2*P:=agy g0.1 E;have a5:((u1*1000000000+u2)/v1+1)*(v1*(1000000000*P))<=((u1*1000000000+u2)/v1+1)*val v:=agh E E
  grind
 generalize hTd:dH ((u.getD (j+nb) 0*1000000000+u.getD (j+nb-1) 0)/v.getD (nb-1) 0).toNat ((u.getD (j+nb) 0*1000000000+u.getD (j+nb-1) 0)/v.getD (nb-1) 0) ((u.getD (j+nb) 0*1000000000+u.getD (j+nb-1) 0)%v.getD (nb-1) 0) (v.getD (nb-1) 0) (v.getD (nb-2) 0) (u.getD (j+nb-2) 0)=T at*;obtain⟨hT1,hT2,hT0⟩:=hT;have hTB:T<=1000000000:=by have:(T-1)*val v<1000000000*val v:=E;have:=aiK this E;omega
 refine afo [(8,gm [(Fn:Int)]),(9,gm v),(10,.i nb),(11,gu u),(12,gu q),(13,.i j)] ⟨G,G,G,G,G,⟨W,aj8 SV.i ej⟩,U⟩<|cv W W (λ_=>?_) λh5=>abK (show(0:Int)<=j from E) h5;refine cu W W hguess W<|r0 W ?_;have ejk:∀k:Nat,((k:Int)+(j:Int)).toNat=j+k:=λk=>E;have ejn:((j:Int)+(nb:Int)).toNat=j+nb:=E;refine qQ (λ(k:Nat)(w:List Int)(c:Int)=>[(8,gm [(Fn:Int)]),(9,gm v),(10,.i nb),(11,gu w),(12,gu q),(13,.i j),(14,.i T),(15,.i c),(16,.i k)])
  (λk w c=>ji w/\w.length=la+1/\0<=c/\c<=T+1/\val (w.drop j)=val (u.drop j)-T*val (v.take k)+c*1000000000^k/\w.take j=u.take j/\k<=nb/\∀k',j+k<=k'->w.getD k' 0=u.getD k' 0)
  (λk _ _=>nb-k) 0 u 0 ⟨ud,ul,E,E,by simp[val],W,E,λ_ _=>rfl⟩ ⟨G,G,G,G,G,G,G,G,G,U⟩ ?_
 rintro k w c⟨wd',wl',c0,c1,hv',ht',hk',hsame⟩;refine cv W W ?_ ?_<;>intro h5;have ek:(k:Int).toNat=k:=E;have g1:=bB dv k;have g2:=bB wd'<|j+k;generalize hx:v.getD k 0=x at*;generalize hy:w.getD (j+k) 0=y at*;have p0:0<=T*x:=agy hT0 g1.1;have p1:T*x<=T*999999999:=agh E hT0;have q4:=ajt (T*x+c) 1000000000;have q5:=aid (T*x+c) (show(1000000000:Int)≠0 from gC);have q6:=aie (T*x+c) (show(0:Int)<1000000000 from gC);refine r1 W (mp) ?_;have step:∀(z c':Int),z=y-(T*x+c)%1000000000+(c'-(T*x+c)/1000000000)*1000000000->val ((w.set (j+k) z).drop j)=val (u.drop j)-T*val (v.take<|k+1)+c'*1000000000^(k+1):=by
  intro z c' hz;rw[oH E E,hy,hv',aM,hx,agR,show j+k-j=k from E]
  grind
 refine cg W ?_ ?_<;>intro h6;simp only[ek,ejk,hx,hy]at h6;refine r1 W (mp) ?_;refine again (k+1,w.set (j+k)<|y-(T*x+c)%1000000000+1000000000,(T*x+c)/1000000000+1) ?_
  ⟨fS wd' E,li,ac,ac,step _ ((T*x+c)/1000000000+1) E,n8,ac,λk' hk'=>by dsimp only at hk'⊢;rw[dF,abl E];grind⟩
  ⟨G,G,G,⟨W,aj8 (gu) gn⟩,G,G,G,⟨W,aj8 SV.i<|by simp only[ek,hx]⟩,G,U⟩
 dsimp only;omega;simp only[ek,ejk,hx,hy]at h6;refine r1 W (mp) ?_;refine again (k+1,w.set (j+k)<|y-(T*x+c)%1000000000,(T*x+c)/1000000000) ?_
  ⟨fS wd' E,li,ac,ac,step _ ((T*x+c)/1000000000) E,n8,ac,λk' hk'=>by dsimp only at hk'⊢;rw[dF,abl E];grind⟩
  ⟨G,G,G,⟨W,aj8 (gu) gn⟩,G,G,G,⟨W,aj8 SV.i<|by simp only[ek,hx]⟩,G,U⟩
 dsimp only;omega;have hk:k=nb:=E;subst hk;rw[ad2 E]at hv';have g2:=bB ud<|j+k;have hy0:=hsame (j+k) E;generalize hy:u.getD (j+k) 0=y at*;have hset:(w.set (j+k)<|y-c).getD (j+k) 0=y-c:=gn;refine r1 W (by simp only[aj,abu,ejn,hy0,hset,wl',ahy];omega) ?_;simp only[ejn,hy0];have hv1:val ((w.set (j+k)<|y-c).drop j)=val (u.drop j)-T*val v:=by
  rw[oH E E,hy0,hv',show j+k-j=k from E]
  grind
 have hhi1:val ((w.set (j+k)<|y-c).drop<|j+k+1)=0:=by
  rw[<-hhi]
  congr 1
  refine B3 (by simp;omega) λk' hk'=>?_;rw[dF,abl E];grind
 have hlow1:=sZ (w:=w.set (j+k)<|y-c) (j:=j) (n:=k) (by simp;omega) (λk' _ _=>by rw[dF,abl E];exact bB wd' k');have htop1:=sY (w:=w.set (j+k)<|y-c) (j:=j) (n:=k) (by simp;omega);rw[hset,hhi1]at htop1;have hpk:=eK k;refine agZ (λ(T':Int)(w':List Int)=>[(8,gm [(Fn:Int)]),(9,gm v),(10,.i k),(11,gu w'),(12,gu q),(13,.i j),(14,.i T')])
  (λT' w'=>ji w'/\w'.length=la+1/\w'.take j=u.take j/\val (w'.drop j)=val (u.drop j)-T'*val v/\0<=T'/\val (w'.drop j)<val v) ?_ ?_
 refine cg W ?_ ?_<;>intro h6;simp only[hset]at h6;have hneg:val (u.drop j)-T*val v<0:=by have:(y-c)*1000000000^k<=(-1)*1000000000^k:=iW E E;omega
 have hT1':1<=T:=by grind
 refine r1 W (am) ?_;refine qQ (λ(i:Nat)(z:List Int)(b:Int)=>[(8,gm [(Fn:Int)]),(9,gm v),(10,.i k),(11,gu z),(12,gu q),(13,.i j),(14,.i<|T-1),(19,.i b),(20,.i i)])
  (λi z b=>(∀p,p≠j+k->0<=z.getD p 0/\z.getD p 0<1000000000)/\z.length=la+1/\0<=b/\b<=1/\val (z.drop j)+b*1000000000^i=val (u.drop j)-T*val v+val (v.take i)/\z.take j=u.take j/\i<=k/\z.getD (j+k) 0=y-c/\∀p,j+k<p->z.getD p 0=u.getD p 0)
  (λi _ _=>k-i) 0 (w.set (j+k)<|y-c) 0
  ⟨λp hp=>by rw[dF,abl E];exact bB wd' p,li,E,E,by simp[val,hv1],by rw[fO E];exact ht',E,hset,λp hp=>by rw[dF,abl E];grind⟩
  ⟨G,G,G,G,G,G,G,G,G,U⟩ ?_
 rintro i z b⟨zd,zl,b0,b1,zv,zt,zi,zy,zs⟩;refine cv W W ?_ ?_<;>intro h7;have ei:(i:Int).toNat=i:=E;have g3:=bB dv i;have g4:=zd (j+i) E;generalize hx:v.getD i 0=x at*;generalize hz:z.getD (j+i) 0=z0 at*;refine k1 W aP (by simp only[aj,abu,ei,ejk,hx,hz,zl,hvl];omega) ?_;refine again (i+1,z.set (j+i)<|(z0+x+b)%1000000000,(z0+x+b)/1000000000) ?_
  ⟨λp hp=>?_,by simpa using zl,ac,ac,?_,by dsimp only;rw[fO E];exact zt,ac,by dsimp only;rw[dF,abl E];exact zy,λp hp=>by dsimp only;rw[dF,abl E];exact zs p hp⟩
  ⟨G,G,G,⟨W,aj8 (gu) gn⟩,G,G,G,⟨W,aj8 SV.i gn⟩,G,U⟩
 dsimp only;omega;dsimp only;rw[dF];split;omega;exact zd p hp;dsimp only;rw[oH E E,hz,aM,hx,agR,show j+i-j=i from E]
 grind
 have hik:i=k:=E;subst hik;rw[ad2 E]at zv;refine r1 W (by simp only[aj,abu,ejn,zy,zl];omega) ?_;have hz2:val ((z.set (j+i)<|y-c+b).drop j)=val (u.drop j)-(T-1)*val v:=by
  rw[oH E E,zy,show j+i-j=i from E,aiL]
  grind
 have hset2:(z.set (j+i)<|y-c+b).getD (j+i) 0=y-c+b:=gn;have hhi2:val ((z.set (j+i)<|y-c+b).drop<|j+i+1)=0:=by
  rw[<-hhi]
  congr 1
  refine B3 (by simp;omega) λk' hk'=>?_;rw[dF,abl E];exact zs k' E
 have hlow2:=sZ (w:=z.set (j+i)<|y-c+b) (j:=j) (n:=i) (by simp;omega) (λk' _ _=>by rw[dF,abl E];exact zd k' E);have htop2:=sY (w:=z.set (j+i)<|y-c+b) (j:=j) (n:=i) (by simp;omega);rw[hset2,hhi2]at htop2;have hR1:val (u.drop j)-(T-1)*val v<val v:=by rw[aiL];omega
 have hyc:y-c+b=0:=by rcases aiq (y-c+b) 0 with h|h;have:(y-c+b)*1000000000^i<=(-1)*1000000000^i:=iW E E;omega;omega
 refine meet (T-1,z.set (j+i)<|y-c+b) ⟨NG λp hp=>?_,by simpa using zl,by dsimp only;rw[fO E];exact zt,hz2,ac,ac⟩
  ⟨G,G,G,⟨W,aj8 (gu)<|by simp only[ejn,zy]⟩,G,G,G,U⟩
 dsimp only;rw[dF];split;omega
 grind
 simp only[hset]at h6;refine r0 W ?_;have hnn:0<=val (u.drop j)-T*val v:=by have:0<=(y-c)*1000000000^k:=agy E E;omega
 refine iX (T,w.set (j+k)<|y-c) ⟨fS wd' E,li,n8,hv1,hT0,?_⟩
 grind
 rintro T' w'⟨wd2,wl2,wt2,wv2,wT0,wlt2⟩;have wn:=bK<|qj wd2 j;have wTB:T'<1000000000:=by have:T'*val v<1000000000*val v:=E;simp_all
 refine r1 W (by simp only[aj,abu,ql];omega) ?_;have ej2:(j:Int).toNat=j:=E;refine again (j,w',q.set j T') (aip _) ⟨wd2,wl2,fS qd ⟨wT0,wTB⟩,by simpa using ql,ac,wlt2,?_⟩
  ⟨G,G,G,G,⟨W,aj8 (gu)<|by rw[ej2]⟩,G,U⟩
 dsimp only;have e1:=iT u j;have e2:=iT w' j;have l1:(u.take j).length=j:=by simp;omega
 have l2:(w'.take j).length=j:=by simp;omega
 rw[l1]at e1;rw[l2,wt2,wv2]at e2;rw[heq,e1,e2];have e3:val ((q.set j T').drop j)=T'+1000000000*val (q.drop<|j+1):=by rw[iA<|by simp;omega,dF,abx ⟨W,E⟩,List.drop_set_of_lt<|aip j]
 grind
def lu(z:Int):SV:=.agg [.u<|decide (z<0),gm<|ah z.natAbs]
def DB(b:Bool)(x:Int):Int:=if b then -x else x
def K6(z:Int):Prop:=(ah z.natAbs).length<2^34
def oX(n:Nat):0<(ah n).length↔n≠0:=by constructor;rintro h rfl;simp[dj]at h;exact gU
def yL(b:Bool)(xs:L Int)(c:ji xs)(hl:xs.length<2^60):ab 200 [.u b,gm xs] (lu<|DB b<|val xs):=by
 have d:=bK c;have hn:(DB b<|val xs).natAbs=(val xs).toNat:=by unfold DB;split<;>omega
 have a:=fk c;refine enter func200 W W W W<|cu W W (dT _ E) W<|r0 W<|iD 8 W ?_ ?_<;>intro h;refine cm W W ⟨?_,aj8 (SV.ints _ _)<|by rw[a,hn],U⟩;show decide _=decide _;rw[a];have:=oX (val xs).toNat;simp[DB,h,decide_eq_decide];omega;refine cm W W ⟨?_,aj8 (SV.ints _ _)<|by rw[a,hn],U⟩;show false=decide _;simp only[DB,h,aim,if_false];simp_all
def gH(b:Bool)(n:Nat)(hl:(ah n).length<2^60):ab 200 [.u b,gm<|ah n] (lu<|DB b n):=by have:=yL b _ (bP n) hl;rwa[bF]at this
def Cs(z:Int)(h:K6 z):ab 198 [lu z] (lu<|-z):=by
 unfold K6 at h;refine enter func198 W W W W<|cu W W (gH _ _ E) W<|cm W W<|aj8 lu ?_;unfold DB
 grind
def pY{m n K:Nat}(b:(ah m).length<=K)(a:(ah n).length<=K):(ah<|m+n).length<=K+1:=zad
def Pc(x y:Int)(f:K6 x)(e:K6 y):ab 239 [lu x,lu y] (lu<|x+y):=by
 unfold K6 at f e;have c:∀m n:Nat,(ah m).length<2^34->(ah n).length<2^34->(ah<|m+n).length<2^60:=by intro m n j i;have:=pY (K:=max (ah m).length (ah n).length) (aiO _ _)<|aiP _ _;omega
 refine cx func239 W<|cv W W ?_ ?_<;>intro h;refine ct W W (Dx _ _ E E) W<|b9 W (gH _ _<|c _ _ f e) W<|k0 W aP<|aJ W<|aj8 lu ?_;unfold DB
 grind
 refine cu W W (oF _ _ E E) W<|cv W W ?_ ?_<;>intro d;have b:y.natAbs<=x.natAbs:=by unfold qn at d;split at d<;>omega
 refine ct W W (ub _ _ E b) W<|r0 W ?_;have a:(ah<|x.natAbs-y.natAbs).length<2^60:=by rcases aef (ah x.natAbs).length (ah<|x.natAbs-y.natAbs).length with g|g;have:=cX g;omega;omega
 refine b9 W (gH _ _ a) W<|k0 W aP<|aJ W<|aj8 lu ?_;unfold DB
 grind
 have b:x.natAbs<=y.natAbs:=by unfold qn at d;omega
 refine ct W W (ub _ _ E b) W<|r0 W ?_;have a:(ah<|y.natAbs-x.natAbs).length<2^60:=by rcases aef (ah y.natAbs).length (ah<|y.natAbs-x.natAbs).length with g|g;have:=cX g;omega;omega
 refine b9 W (gH _ _ a) W<|k0 W aP<|aJ W<|aj8 lu ?_;unfold DB
 grind
def eW(m n:Nat):(ah<|m*n).length<=(ah m).length+(ah n).length:=by rcases iv _ with g|g;rw[g];simp;have g1:=bT m;rcases aef ((ah m).length+(ah n).length) (ah<|m*n).length with h|h;have a:=ju (show(ah m).length+(ah n).length<=(ah<|m*n).length-1 from E);rw[ahR]at a;have c:(m:Int)*n<=1000000000^(ah m).length*n:=iW E E;have b:(1000000000:Int)^(ah m).length*n<1000000000^(ah m).length*1000000000^(ah n).length:=Int.mul_lt_mul_of_pos_left (bT n)<|eK _;omega;exact h
def nN(x y:Int)(b:K6 x)(a:K6 y):ab 101 [lu x,lu y] (lu<|x*y):=by
 unfold K6 at b a;refine enter func101 W W W W<|ct W W (oz _ _ E E) W ?_;have hl:=eW x.natAbs y.natAbs;refine b9 W (gH _ _ E) W<|k0 W aP<|aJ W<|aj8 lu ?_;unfold DB
 grind
def Aq(m n:Nat)(l:(ah m).length<2^36)(k:(ah n).length<2^36):ab 188 [gm<|ah m,gm<|ah n] (gm<|ah<|Nat.gcd m n):=by
 refine enter func188 W W W W<|r0 W<|lM (λ(a b:Nat)=>[(0,.ints _ _<|ah a),(1,.ints _ _<|ah b)]) (λa b=>Nat.gcd a b=Nat.gcd m n/\(ah a).length<2^36/\(ah b).length<2^36) (λ_ b=>b) m n ⟨W,l,k⟩ ⟨G,G,U⟩ ?_;rintro a b⟨i,j,e⟩;refine cv W W ?_ ?_<;>intro h;have c:=(oX b).1 E;have d:a%b<b:=aea _ E;refine cu W W (oB a b j e c) W<|r0 W<|again (b,a%b) d ⟨?_,e,?_⟩ ⟨G,G,U⟩;rw[<-i,air a b,Nat.gcd_rec b a,air];dsimp only;rcases aef (ah b).length (ah<|a%b).length with g|g;have:=cX g;omega;omega;have c:b=0:=by rcases af8 b with f|f;exact f;have:=gU (show b≠0 from E);omega
 refine cm W W<|aj8 (gm) ?_;simp_all
def eH{m:Nat}(h:m<1000000000000000000000000000):(ah m).length<=3:=by rcases iv m with g|g;rw[g];simp;rcases aef 3 (ah m).length with a|a;have:=ju (show 3<=(ah m).length-1 from E);omega;exact a
def gG(n:Int)(h: -9223372036854775808<n/\n<2^63):ab 148 [.i n] (lu n):=by
 refine cx func148 W<|r0 W<|lM (λ(x:Int)(w:L Int)=>[(0,.i x),(2,.box true<|.agg [.b false,.nil]),(3,gu w),(4,.u<|decide (n<0))])
  (λx w=>ji w/\w++ah x.natAbs=ah n.natAbs/\(n<0->x<=0)/\(0<=n->0<=x)/\x.natAbs<=n.natAbs) (λx _=>x.natAbs) n [] ⟨by simp[ji],I,λh=>E,λh=>h,abY _⟩ ⟨G,G,G,G,U⟩ ?_
 rintro x w⟨d,k,p,o,l⟩;have q:w.length<=3:=by
  have:=eH (m:=n.natAbs) E
  grind
 refine cv W W ?_ ?_<;>intro r
 ·have f:x.tdiv 1000000000=(if x<0 then -((x.natAbs/10^9:Nat):Int)else((x.natAbs/10^9:Nat):Int)):=by
   split;rename_i a;have:x= -(x.natAbs:Int):=E;rw[this,Int.neg_tdiv,aiI E];simp
   grind
  have hm:x.tmod 1000000000=(if x<0 then -((x.natAbs%10^9:Nat):Int)else((x.natAbs%10^9:Nat):Int)):=by grind
  have g:ah x.natAbs=((x.natAbs%10^9:Nat):Int)::ah (x.natAbs/10^9):=by
   conv=>lhs;rw[ah]
   rw[dif_neg E];rfl
  have t:x.natAbs/10^9<x.natAbs:=ahu E gC;have s:x.natAbs%1000000000<1000000000:=aea _ gC;have b:IntKind.i64.wrap (x.tdiv 1000000000)=x.tdiv 1000000000:=rI ⟨E,E⟩;refine kw [11,21] W W (am) ?_;refine cg W ?_ ?_<;>intro j
  ·have a:x<0:=by
    omega
   rw[hm,abx a]at j;refine kw [21] W W (by simp[aj,abu,len,hm,abx a,acC,ad1];omega) ?_;refine again (x.tdiv 1000000000,w++[((x.natAbs%1000000000:Nat):Int)]) ?_ ⟨j8 d E,?_,?_,?_,?_⟩
    ⟨⟨W,aj8 SV.i b⟩,G,⟨W,aj8 (gu) gn⟩,G,U⟩
   all_goals dsimp only;rw[f,abx a]
   omega
   grind
   intro;omega;intro;omega;omega
  have c:x.tmod 1000000000=((x.natAbs%1000000000:Nat):Int):=by omega
  refine kw [21] W W (by simp[aj,abu,len,c,acC,ad1];omega) ?_;refine again (x.tdiv 1000000000,w++[((x.natAbs%1000000000:Nat):Int)]) ?_ ⟨j8 d E,?_,?_,?_,?_⟩
   ⟨⟨W,aj8 SV.i b⟩,G,⟨W,aj8 (gu)<|by rw[c]⟩,G,U⟩
  all_goals dsimp only;rw[f]
  split<;>omega
  grind
  intro;split<;>omega;intro;split<;>omega;split<;>omega
 have:x=0:=E;subst this;have e:w=ah n.natAbs:=by rw[<-k];simp[dj]
 refine cu W W (by rw[e];exact gH _ _<|by rw[<-e];omega) W ?_;refine cm W W<|aj8 lu ?_;unfold DB
 grind
def XK(d:Nat):UInt8:=UInt8.ofNat<|48+d
def decl(n k:Nat):cj:=if h:n=0/\k=0 then[]else decl (n/10) (k-1)++[XK<|n%10]
 termination_by n+k
 decreasing_by
  omega
def dm:decl 0 0=[]:=by rw[decl];simp
def bu{n k:Nat}(h:¬(n=0/\k=0)):decl n k=decl (n/10) (k-1)++[XK<|n%10]:=by rw[decl];simp[h]
def yn{q:Nat}(a:0<q):∀(j r k:Nat),r<10^j->decl (q*10^j+r) k=decl q (k-j)++decl r j
 |0,r,k,h=>by
  have:=aR
  subst this;simp[dm]
 |j+1,r,k,h=>by
  have b:¬(q*10^(j+1)+r=0/\k=0):=by have:0<q*10^(j+1):=aeB a<|ahD I;omega
  rw[bu b,bu (k:=j+1) E];have d:(q*10^(j+1)+r)/10=q*10^j+r/10:=by rw[agS,<-ahE];omega
  have c:(q*10^(j+1)+r)%10=r%10:=by grind
  rw[d,c,yn a j (r/10) (k-1) E,aen]
  congr 2
  omega
def cY:∀(n k j:Nat),n<10^j->k<=j->(decl n k).length<=j:=by
 intro n k j
 induction j generalizing n k with
 |zero=>intro c b;have:n=0/\k=0:=E;rw[this.1,this.2,dm];simp
 |succ j a=>
  intro c b;by_cases h:n=0/\k=0
  grind
  rw[bu h];have:=a (n/10) (k-1) E E;grind
def dy(s:cj):Nat:=s.foldl (λn c=>10*n+(c.toNat-48)) 0
def eG(s:cj):Prop:=∀c∈s,48<=c.toNat/\c.toNat<=57
def wk(s:cj)(c:UInt8):dy (s++[c])=10*dy s+(c.toNat-48):=by simp[dy]
def tn:∀(t:cj)(a:Nat),t.foldl (λn c=>10*n+(c.toNat-48)) a=a*10^t.length+dy t
 |[],a=>by simp[dy]
 |c::t,a=>by have d:=tn t<|10*a+(c.toNat-48);have b:=tn t<|10*0+(c.toNat-48);simp[dy]at d b⊢;grind
def u5(s t:cj):dy (s++t)=dy s*10^t.length+dy t:=by
 conv=>lhs;rw[dy,ahm]
 exact tn t _
def TK(c:UInt8)(t:cj):dy (c::t)=(c.toNat-48)*10^t.length+dy t:=by
 have:=tn t<|c.toNat-48
 conv=>lhs;rw[dy]
 grind
def nD:∀{s:cj},eG s->dy s<10^s.length
 |[],_=>by simp[dy]
 |c::t,h=>by have e:=nD (s:=t) λx a=>h x (by simp[a]);have d:=h c I;rw[TK,acC];have b:(c.toNat-48)*10^t.length<=9*10^t.length:=ad6 _ E;omega
def wJ{d:Nat}(h:d<10):(XK d).toNat=48+d:=by unfold XK;rw[UInt8.toNat_ofNat'];omega
def cP:∀n k,eG (decl n k):=by
 intro n k
 induction hm:n+k using Nat.strongRecOn generalizing n k with
 |_ m b=>
  by_cases h:n=0/\k=0;rw[h.1,h.2,dm];intro c hc;cases hc;rw[bu h];have a:n/10+(k-1)<m:=by omega
  intro c hc;rcases aeM.1 hc with hc|hc;exact b _ a _ _ W c hc;simp at hc;subst hc;rw[wJ<|aea _ gC];omega
def gK:∀n k,dy (decl n k)=n:=by
 intro n k
 induction hm:n+k using Nat.strongRecOn generalizing n k with
 |_ m b=>
  by_cases h:n=0/\k=0;rw[h.1,h.2,dm];rfl;rw[bu h];have a:n/10+(k-1)<m:=by omega
  rw[wk,b _ a _ _ W,wJ<|aea _ gC];omega
def b7(z:Int):cj:=if z<0 then 45::decl z.natAbs 1 else decl z.natAbs 1
def aF:cj->Nat
 |[]=>0
 |c::t=>if c=47 then 0 else aF t+1
def rN:∀s:cj,aF s<=s.length
 |[]=>by simp[aF]
 |c::t=>by have:=rN t;simp[aF];grind
def xa:∀{s:cj}{i:Nat},i<aF s->s.getD i 0≠47
 |[],i,h=>by grind
 |c::t,i,h=>by
  simp[aF]at h;split at h;omega;cases i with
  |zero=>grind
  |succ i=>simpa using xa E
def A1:∀{s:cj},aF s<s.length->s.getD (aF s) 0=47
 |[],h=>by cases h
 |c::t,h=>by simp[aF]at h⊢;split at h;simp_all;rename_i hc;have:=A1 (aR);grind
def Ky(n:Nat){k:Nat}(h:0<k):decl n k≠[]:=by rw[bu E];simp
def XJ:∀d:Nat,d<10->((([48,49,50,51,52,53,54,55,56,57]:cj).take<|d+1).drop d)=[XK d]:=gC
def nH(n k:Nat)(hn:n<9223372036854775808)(o:k<1000):ab 196 [.i n,.i k] (.s<|decl n k):=by
 have c:(decl n k).length<=max k 19:=cY n k _ (aey (show n<10^19 from E)<|aeh gC<|aiP _ _)<|aiO _ _;refine cx func196 W<|r0 W<|lM (λ(a:Nat)(s:cj)=>[(0,.i a),(1,.i k),(5,.s s)]) (λa s=>a<=n/\decl n k=decl a (k-s.length)++s) (λa s=>a+(k-s.length)) n [] ⟨abY _,I⟩ ⟨G,G,G,U⟩ ?_;rintro a s⟨p,hs⟩;refine KU<|ady [(0,.i a),(1,.i k),(5,.s s)] (0<a\/s.length<k) ?_ λhc=>?_;refine ck W 8 W ?_ ?_<;>intro h;refine r0 W<|bo E;refine cv W W ?_ ?_<;>intro j;refine r0 W<|bo E;refine cm W W<|aj8 SV.s ?_;have l:a=0:=E;have g:k-s.length=0:=E;rw[hs,l,g,dm];rfl;have f:a%10<10:=aea _ gC;have e:(((a:Int)%10).toNat)=a%10:=E;have d:(((a:Int)%10+1).toNat)=a%10+1:=E;have b:=XJ (a%10) f;refine r1 W ?_ ?_;simp only[aj,abu,e,d,b]
 grind
 simp only[e,d,b];have m:a/10<a\/a=0:=E;refine again (a/10,XK (a%10)::s) ?_ ⟨ac,?_⟩ ⟨G,G,G,U⟩
 grind
 dsimp only;rw[hs,bu (n:=a) E,aen]
 congr 1
def qC(s:cj)(hs:eG s)(hl:s.length<=18):ab 194 [.s s] (.i<|dy s):=by refine enter func194 W W W W<|r0 W<|aU (λi:Nat=>[(0,.s s),(3,.i<|dy<|s.take i),(4,.i i)]) (λi=>i<=s.length) (λi=>s.length-i) 0 E ?_;intro i hi;refine cv W W ?_ ?_<;>intro h;have a:i<s.length:=E;have b:(i:Int).toNat=i:=E;have hc:s.getD i 0=s[i]:=gn;have f:=hs s[i]<|ab3 a;have d:=nD (s:=s.take i) λc hc=>hs c<|ahv hc;have e:10^(s.take i).length<=10^17:=aeh gC (by simp;omega);refine r1 W (by simp only[aj,abu,b,hc];omega) ?_;refine again (i+1) E E ⟨G,⟨W,cw ?_⟩,G,U⟩;rw[b,hc,adY a,wk];omega;have:i=s.length:=E;subst this;refine cm W W<|cw ?_;simp
def lG(s:cj)(hl:s.length<2^63):ab 186 [.s s] (.i<|aF s):=by
 have d:=rN s;refine enter func186 W W W W<|r0 W<|aU (λi:Nat=>[(0,.s s),(3,.i i)]) (λi=>i<=aF s) (λi=>s.length-i) 0 E ?_;intro i hi;refine cv W W ?_ ?_<;>intro h;have c:(i:Int).toNat=i:=E;refine r1 W (by simp[aj,c];omega) ?_;refine cg W ?_ ?_<;>intro b;refine cm W W<|cw ?_;rcases aef i (aF s)with a|a;have:=xa a;exact abK (ai8.1<|show(s.getD i 0).toNat=(47:UInt8).toNat by grind) this;omega;have:i<aF s:=by rcases aef i (aF s)with a|a;exact a;have e:i=aF s:=E;have:=A1 (s:=s) E;simp_all
 refine r1 W (bi) ?_;exact aL (i+1) E;refine cm W W<|cw ?_;omega
def Ud(a b:Nat):ab 195 [.i a,.i b] (.i<|Nat.gcd a b):=by refine enter func195 W W W W<|r0 W<|lM (λ(x y:Nat)=>[(0,.i x),(1,.i y)]) (λx y=>Nat.gcd x y=Nat.gcd a b) (λ_ y=>y) a b W ⟨G,G,U⟩ ?_;rintro x y c;refine cv W W ?_ ?_<;>intro h;refine k1 W aP (bi) ?_;refine again (y,x%y) (aea _ E) ?_ ⟨G,G,U⟩;rw[<-c,air x y,Nat.gcd_rec y x,air];refine cm W W<|cw ?_;simp_all
def Am{q:Nat}(h:0<q):decl q 0=decl q 1:=by rw[bu E,bu (k:=1) E]
def Nw{n j:Nat}(h:j<(ah n).length):0<val ((ah n).drop j):=by
 have a:((ah n).drop j).getLast?≠some 0:=by rw[List.getLast?_drop,abl E];exact sx n
 rcases tJ (qj (bP n) j) a with g|g
 grind
 have:=eK<|((ah n).drop j).length-1;omega
def zk(k:Nat):(1000000000:Int)^k=((10^(9*k):Nat):Int):=by rw[ahU];simp
def FR(n j:Nat)(b:j<(ah n).length):(decl (val<|(ah n).drop j).toNat 1).length<=9*(ah n).length:=by have a:=jq<|qj (bP n) j;have d:=bK<|qj (bP n) j;rw[zk]at a;have c:10^(9*((ah n).drop j).length)<=10^(9*(ah n).length):=aeh gC (by grind);exact cY _ _ _ E E
def xy(z:Int)(h:(ah z.natAbs).length<2^44):ab 147 [lu z] (.s<|b7 z):=by
 refine cx func147 W<|cv W W ?_ ?_<;>intro o;refine cm W W<|aj8 SV.s ?_;have:z=0:=by have:=oX z.natAbs;omega
 subst this;simp[b7,bu,dm];rfl;have r:0<(ah z.natAbs).length:=E;have d:=bB (bP z.natAbs)<|(ah z.natAbs).length-1;have f:val ((ah z.natAbs).drop<|(ah z.natAbs).length-1)=(ah z.natAbs).getD ((ah z.natAbs).length-1) 0:=by rw[iA E,agt E];simp[val]
 have g:=Nw (n:=z.natAbs) (j:=(ah z.natAbs).length-1) E;have q:(((ah z.natAbs).length:Int)-1).toNat=(ah z.natAbs).length-1:=E;refine r1 W (aD) ?_;obtain⟨m,hm⟩:∃m:Nat,(ah z.natAbs).getD ((ah z.natAbs).length-1) 0=m:=⟨_,(ajO d.1).symm⟩;have a:(ah z.natAbs).getD (((ah z.natAbs).length:Int)-1).toNat 0=m:=by rw[q];exact hm
 have t:(SV.i<|(ah z.natAbs).getD (((ah z.natAbs).length:Int)-1).toNat 0)=SV.i (m:Int):=by rw[a]
 refine cl W (by rw[a];rfl) (nH m 1 E E) W ?_;refine r1 W (aD) ?_;refine loop (λj:Nat=>[(1,.box true<|lu z),(2,.s []),(3,.s<|decl (val<|(ah z.natAbs).drop j).toNat 1),(4,.i<|(j:Int)-1)]) (λj=>j<(ah z.natAbs).length) (λj=>j) ((ah z.natAbs).length-1) E ⟨G,G,⟨W,aj8 SV.s<|by rw[f,hm];rfl⟩,⟨W,aj8 SV.i E⟩,U⟩ ?_;intro j c;refine cv W W ?_ ?_<;>intro l;have p:((j:Int)-1).toNat=j-1:=E;have d:=bB (bP z.natAbs)<|j-1;obtain⟨m,hm⟩:∃m:Nat,(ah z.natAbs).getD (j-1) 0=m:=⟨_,(ajO d.1).symm⟩;have a:(ah z.natAbs).getD ((j:Int)-1).toNat 0=m:=by rw[p];exact hm
 have hl:=FR z.natAbs j c;have i:=FR z.natAbs (j-1) E;have g:=Nw c;have b:decl (val<|(ah z.natAbs).drop<|j-1).toNat 1=decl (val<|(ah z.natAbs).drop j).toNat 1++decl m 9:=by rw[iA E,show j-1+1=j from E,hm];have e:((m:Int)+1000000000*val ((ah z.natAbs).drop j)).toNat=(val<|(ah z.natAbs).drop j).toNat*10^9+m:=E;rw[e,yn E 9 m 1 E,show 1-9=0 from W,Am E]
 refine r1 W (aD) ?_;refine cl W (by rw[a];rfl) (nH m 9 E E) W ?_;refine r1 W (by simp[aj,abu,len];grind) ?_;exact again (j-1) E E ⟨G,G,⟨W,aj8 SV.s b.symm⟩,⟨W,aj8 SV.i E⟩,U⟩;have:j=0:=E;subst this;have e:(val<|(ah z.natAbs).drop 0).toNat=z.natAbs:=by rw[ahe,bF];omega
 have hl:=FR z.natAbs 0 c;refine r0 W<|qq W W W ?_ ?_<;>intro k;refine r1 W (by simp only[aj,abu,len,acC,ad1];omega) ?_;refine aJ W<|aj8 SV.s ?_;rw[e];unfold b7;simp_all;refine cm W W<|aj8 SV.s ?_;rw[e];unfold b7;simp_all
def isNeg(s:cj):Bool:=decide (0<s.length/\(s.getD 0 0).toNat=45)
def bR(s:cj):cj:=if isNeg s then s.drop 1 else s
def E5(s:cj):Int:=DB (isNeg s)<|dy<|bR s
def AA(s:cj):(bR s).length<=s.length:=by unfold bR;grind
def Cq(s:cj)(hs:eG (bR s))(hl:s.length<2^46):ab 197 [.s s] (lu<|E5 s):=by
 have n:=AA s;refine cx func197 W<|cU 3 [(0,.s<|bR s),(2,.box true<|.agg [.b false,.nil]),(3,.u<|isNeg s)] True ?_ λ_=>?_;refine ck W 8 W ?_ ?_<;>intro h;refine r1 W (aD) ?_;refine cg W ?_ ?_<;>intro f;have hn:isNeg s=true:=d6
 refine r1 W (aD) ?_;refine eV U ⟨⟨W,aj8 SV.s<|by simp[bR,hn]⟩,G,⟨W,aj8 SV.u<|(decide_eq_true f).trans hn.symm⟩,U⟩;have hn:isNeg s=false:=d6
 refine cn W U ⟨⟨W,aj8 SV.s<|by simp[bR,hn]⟩,G,⟨W,aj8 SV.u<|(decide_eq_false f).trans hn.symm⟩,U⟩;have hn:isNeg s=false:=qr
 refine cn W U ⟨⟨W,aj8 SV.s gn⟩,G,⟨W,hn.symm⟩,U⟩;refine r0 W<|lM (λ(t:cj)(w:L Int)=>[(0,.s t),(2,.box true<|.agg [.b false,.nil]),(3,.u<|isNeg s),(4,gu w)])
  (λt w=>eG t/\ji w/\val w+1000000000^w.length*dy t=dy (bR s)/\t.length+9*w.length<2^46) (λt _=>t.length) (bR s) [] ⟨hs,by simp[ji],by simp[val],by simp;omega⟩ ⟨G,G,G,G,U⟩ ?_
 rintro t w⟨g,i,j,k⟩;refine cv W W ?_ ?_<;>intro f;have m:((t.length:Int)-9).toNat=t.length-9:=E;refine r1 W (aD) ?_;have e:eG (t.drop<|t.length-9):=λc hc=>g c<|aic hc;have b:=nD e;have d:(t.drop<|t.length-9).length=9:=by simp;omega
 rw[d]at b;have l:dy t=dy (t.take<|t.length-9)*10^9+dy (t.drop<|t.length-9):=by
  conv=>lhs;rw[<-ah1 (t.length-9) t,u5]
  rw[d]
 refine cl W (by rw[m,aed];rfl) (qC _ e E) W ?_;refine r1 W (nq) ?_;refine again (t.take<|t.length-9,w++[(dy (t.drop<|t.length-9):Int)]) ?_ ⟨λc hc=>g c<|ahv hc,j8 i E,?_,?_⟩ ⟨⟨W,aj8 SV.s<|by rw[m];rfl⟩,G,G,G,U⟩;dsimp only;simp;omega;have a:(dy t:Int)=(dy (t.take<|t.length-9):Int)*10^9+(dy (t.drop<|t.length-9):Int):=E;dsimp only;rw[<-j,fV,a,ad9,ajx,agR]
 grind
 grind
 have b:=nD g;have:10^t.length<=10^9:=aeh gC E;refine cu W W (qC t g E) W<|r1 W (nq) ?_;refine b8 W (yL (isNeg s) (w++[(dy t:Int)]) (j8 i E)<|by simp;omega) W ?_;refine cm W W<|aj8 lu ?_;unfold E5;rw[<-j,fV,Int.mul_comm]
def jZ(z:Int){k:Nat}(h:(ah z.natAbs).length<=k):(b7 z).length<=9*k+2:=by have a:=bT z.natAbs;rw[zk]at a;have b:10^(9*(ah z.natAbs).length)<=10^(9*k):=aeh gC E;have:=cY z.natAbs 1 (9*k+1) E E;unfold b7;grind
def p7(z:Int):isNeg (b7 z)=decide (z<0):=by
 unfold b7 isNeg;split;rename_i h;simp[h];rename_i h;simp only[h,decide_false,decide_eq_false_iff_not];rintro⟨b,a⟩;have hm:(decl z.natAbs 1).getD 0 0∈decl z.natAbs 1:=by grind
 have:=cP _ 1 _ hm;omega
def kb(z:Int):bR (b7 z)=decl z.natAbs 1:=by unfold bR;rw[p7];by_cases h:z<0<;>simp[h,b7]
def Bl(z:Int):E5 (b7 z)=z:=by
 unfold E5;rw[p7,kb,gK];unfold DB
 grind
def tl(z:Int)(h:(ah z.natAbs).length<2^42):ab 197 [.s<|b7 z] (lu z):=by have:=Cq _ (by rw[kb];exact cP _ _)<|ahn (jZ z<|ais h) gC;rwa[Bl]at this
section
variable{d k:Nat}{q:Rat}{s t:cj}
def eR(d:Nat):cj:=if d=1 then[]else 47::decl d 1
def wP(n:Int)(d:Nat):cj:=b7 n++eR d
def qt(q:Rat):cj:=wP q.num q.den
def rb:∀{s:cj}(t:cj),(∀c∈s,c≠47)->aF (s++t)=s.length+aF t
 |[],t,_=>I
 |c::s,t,h=>by have:=rb (s:=s) t λx a=>h x (by simp[a]);simp[aF,abl<|h c I];omega
def BQ(h:eG s):∀c∈s,c≠47:=by rintro c hc rfl;have:=(h _ hc).1;grind
def aai(z:Int):∀c∈b7 z,c≠47:=by intro c hc;unfold b7 at hc;split at hc;rcases adb.1 hc with rfl|hc;decide;exact BQ (cP _ _) c hc;exact BQ (cP _ _) c hc
def yK(d:Nat):aF (eR d)=0:=by unfold eR;split<;>simp[aF]
def mW(n:Int)(d:Nat):aF (wP n d)=(b7 n).length:=by unfold wP;rw[rb _<|aai n,yK];omega
def MO(z:Int):0<(b7 z).length:=by have:=ah8.2<|Ky z.natAbs (k:=1) gC;unfold b7;grind
def Kf(h:0<s.length):(s++t).getD 0 0=s.getD 0 0:=by grind
def J9(h:0<s.length):isNeg (s++t)=isNeg s:=d6
def Bo(n:Int)(d:Nat):isNeg (wP n d)=decide (n<0):=by unfold wP;rw[J9<|MO n,p7]
def Sq(n:Int)(d:Nat):bR (wP n d)=decl n.natAbs 1++eR d:=by unfold bR;rw[Bo];by_cases h:n<0<;>simp[h,wP,b7]
def uE(n:Int)(d:Nat):(wP n d).take (b7 n).length=b7 n:=by unfold wP;simp
def vC(n:Int)(d:Nat)(h:d≠1):(wP n d).drop ((b7 n).length+1)=decl d 1:=by unfold wP eR;simp_all
def jX(n:Int)(d:Nat):(wP n d).length=(b7 n).length+(eR d).length:=by unfold wP;simp
def iC:(eR d).length=0↔d=1:=by unfold eR;grind
def MQ{a b:Int}(h:b7 a=b7 b):a=b:=by rw[<-Bl a,h,Bl]
def Zw{n m:Int}{e:Nat}(h:wP n d=wP m e):n=m/\d=e:=by
 have b:=mW n d;rw[h,mW]at b;have f:=uE n d;rw[h,<-b,uE]at f;refine⟨(MQ f).symm,?_⟩;have g:=aal List.length h;rw[jX,jX]at g;by_cases a:d=1;have:=iC.2 a;have:=iC.1 (show(eR e).length=0 from E);omega;have he:e≠1:=by intro he;have:=iC.2 he;exact a<|iC.1 E
 have c:=vC n d a;rw[h,<-b,vC m e he]at c;have:=aal dy c;rw[gK,gK]at this;grind
def Er{p:Rat}:qt p=qt q↔p=q:=by constructor;intro h;have:=Zw h;exact Rat.ext this.1 this.2;grind
def NM(n:Nat)(h:(ah n).length<=k):(decl n 1).length<=9*k+1:=by have a:=bT n;rw[zk]at a;have b:10^(9*(ah n).length)<=10^(9*k):=aeh gC E;exact cY n 1 _ E E
def SS(d:Nat)(h:(ah d).length<=k):(eR d).length<=9*k+2:=by have:=NM d h;unfold eR;grind
def Hq(q:Rat):Prop:=(ah q.num.natAbs).length<2^40/\(ah q.den).length<2^40
def td(h:Hq q):(qt q).length<2^45:=by have b:=jZ _<|ais h.1;have a:=SS _<|ais h.2;unfold qt;rw[jX];omega
def ir:ah 1=[1]:=j7 gC gC
def eM(q:Rat)(h:Hq q):ab 99 [.s<|qt q] (.de [lu q.num,lu q.den]):=by
 have hl:=td h;have p:=h.1;have o:=h.2;have r:aF (qt q)=(b7 q.num).length:=mW _ _;have c:(qt q).length=(b7 q.num).length+(eR q.den).length:=jX _ _;refine cx func99 W<|cu W W (lG (qt q) E) W<|cv W W ?_ ?_<;>intro e;have b:q.den=1:=iC.1 E;have f:qt q=b7 q.num:=by unfold qt wP;rw[b];simp[eR]
 refine r0 W<|cl W (by rw[f];rfl) (tl q.num E) W ?_;refine b8 W (gG 1 gC) W<|cm W W<|aj8 SV.de ?_;rw[b];rfl;have b:q.den≠1:=λb=>by have:=iC.2 b;omega
 have Fg:=q.den_nz;have m:((aF (qt q):Nat):Int).toNat=(b7 q.num).length:=E;have l:(((aF (qt q):Nat):Int)+1).toNat=(b7 q.num).length+1:=E;have n:0<(eR q.den).length:=by omega
 have j:(qt q).take (b7 q.num).length=b7 q.num:=uE _ _;have i:(qt q).drop ((b7 q.num).length+1)=decl q.den 1:=vC _ _ b;refine r1 W (aD) ?_;refine cd W (by rw[m,j];rfl) (tl q.num E) W ?_;refine r1 W (aD) ?_;have g:b7 (q.den:Int)=decl q.den 1:=gq;have a:=tl (q.den:Int) (by grind);rw[g]at a;refine cd W (by rw[l,aed,i];rfl) a W ?_;refine k0 W aP<|bY W
end
def Fp{n d:Int}(b:0<d):(Rat.divInt n d).num=DB (decide (n<0)) ((n.natAbs/Nat.gcd n.natAbs d.natAbs:Nat):Int):=by
 rw[Rat.num_divInt,ajy b];have e:d.gcd n=Nat.gcd n.natAbs d.natAbs:=by rw[ajz,air]
 rw[e];unfold DB;by_cases h:n<0;simp[h];have c:n= -(n.natAbs:Int):=E;have a:(Nat.gcd _ d.natAbs:Int)∣(n.natAbs:Int):=Int.ofNat_dvd.2<|Nat.gcd_dvd_left _ _
 conv=>lhs;rw[c]
 rw[Int.neg_ediv_of_dvd<|ci];simp
 grind
def Fq{n d:Int}(a:0<d):(Rat.divInt n d).den=d.natAbs/Nat.gcd n.natAbs d.natAbs:=by rw[Rat.den_divInt,abl E,ajz,air]
def nr(a b:Nat):(ah<|a/b).length<=(ah a).length:=zan
def nk(b:Bool)(n:Nat):(DB b (n:Int)).natAbs=n:=by cases b<;>simp[DB]
def rL{d:Nat}(h:d≠1):eR d=47::decl d 1:=by unfold eR;grind
def MP(d:Nat):b7 (d:Int)=decl d 1:=gq
def CR{q:Nat}:((ah q).length=1/\(ah q).getD 0 0=1)↔q=1:=by
 constructor;rintro⟨a,e⟩;have c:=bF q;have d:ah q=[(ah q).getD 0 0]:=by
  match b:ah q with
  |[]=>grind
  |[x]=>rfl
  |x::y::l=>grind
 rw[d,e]at c;simp[val]at c;omega;rintro rfl;rw[ir];simp
def gR(n d:Int)(B:d≠0)(A:(ah n.natAbs).length<2^34)(z:(ah d.natAbs).length<2^34):ab 100 [lu n,lu d] (.s<|qt<|Rat.divInt n d):=by
 refine cx func100 W<|Ao 2 (λ(a b:Int)=>[(2,.box true<|lu a),(3,.box true<|lu b)]) (λa b=>0<b/\Rat.divInt a b=Rat.divInt n d/\a.natAbs=n.natAbs/\b.natAbs=d.natAbs) ?_ ?_;refine r0 W<|qq W W W ?_ ?_<;>intro h;have h:d<0:=of_decide_eq_true h;refine ct W W (Cs n<|eS) W ?_;refine ct W W (Cs d<|eS) W ?_;refine k0 W aP<|iX (-n,-d) ⟨?_,Rat.neg_divInt_neg _ _,?_,?_⟩<;>dsimp only<;>omega;have h:¬d<0:=of_decide_eq_false h;refine r0 W<|iX (n,d) ⟨?_,W,W,W⟩;dsimp only;omega;rintro a b⟨l,u,p,Xf⟩;rw[<-u];rw[<-p]at A;rw[<-Xf]at z;have e:=Fp (n:=a) l;have f:=Fq (n:=a) l;have Fg:b.natAbs≠0:=E;have i:Nat.gcd a.natAbs b.natAbs≠0:=λh=>Fg<|Nat.eq_zero_of_gcd_eq_zero_right h;have x:(ah<|Nat.gcd a.natAbs b.natAbs).length<=(ah b.natAbs).length:=by rcases aef (ah b.natAbs).length (ah<|Nat.gcd a.natAbs b.natAbs).length with g|g;have:=cX g;have:=Nat.le_of_dvd E<|Nat.gcd_dvd_right a.natAbs b.natAbs;omega;exact g
 have v:=nr a.natAbs<|Nat.gcd a.natAbs b.natAbs;have m:=nr b.natAbs<|Nat.gcd a.natAbs b.natAbs;have o:(ah (Rat.divInt a b).num.natAbs).length<=(ah a.natAbs).length:=by rw[e,nk];exact v
 have k:(ah (Rat.divInt a b).den).length<=(ah b.natAbs).length:=by rw[f];exact m
 have w:=jZ (Rat.divInt a b).num o;have y:=NM (Rat.divInt a b).den k;have c:=CR (q:=(Rat.divInt a b).den);refine cU 5 [(8,gm<|ah (Rat.divInt a b).den),(10,.s<|b7 (Rat.divInt a b).num)] ((Rat.divInt a b).den≠1) ?_ λhc=>?_;refine cu W W (Aq a.natAbs b.natAbs E E) W<|cu W W (oB a.natAbs (Nat.gcd a.natAbs b.natAbs) E E i) W<|cu W W (oB b.natAbs (Nat.gcd a.natAbs b.natAbs) E E i) W<|cu W W (gH (decide (a<0)) (a.natAbs/Nat.gcd a.natAbs b.natAbs) E) W ?_;rw[<-e,<-f];refine cu W W (xy (Rat.divInt a b).num E) W<|r0 W ?_;have j:(Rat.divInt a b).den=1->b7 (Rat.divInt a b).num=qt (Rat.divInt a b):=by intro h;unfold qt wP eR;simp_all
 refine aI 44 W ?_ ?_<;>intro h;have C:((0:Int).toNat)=0:=W;refine r1 W (aD) ?_;refine cg W ?_ ?_<;>intro r;refine cm W W<|aj8 SV.s<|j<|c.1 ⟨E,r⟩;refine r0 W<|bo λt=>r (c.2 t).2;refine r0 W<|bo λt=>h E;refine r1 W (nq) ?_;refine b8 W (gH false (Rat.divInt a b).den E) W<|cu W W (xy (Rat.divInt a b).den<|by grind) W ?_;rw[MP];refine r1 W (by simp[aj,abu,len,ad9,acC,ad1];omega) ?_;refine aJ W<|aj8 SV.s ?_;unfold qt wP;rw[rL hc,aen];rfl
def T5:b7 0=[48]:=by simp[b7,bu,dm];rfl
def pN(z:Int):qt (z:Rat)=b7 z:=by simp[qt,wP,eR]
def DG:qt 0=[48]:=by have:=pN 0;rw[T5]at this;grind
def O9:qt 1=[49]:=by
 have:=pN 1;have e:b7 1=[49]:=by simp[b7,bu,dm];rfl
 grind
def JI{q:Rat}:qt q=[48]↔q=0:=by rw[<-DG];exact Er
def E8(q:Rat):isNeg (qt q)=decide (q.num<0):=Bo _ _
def O8(q:Rat):0<(qt q).length:=by have:=MO q.num;unfold qt;rw[jX];omega
def HI(s:cj):Int:=if s=[48]then 0 else if isNeg s then -1 else 1
def VC(q:Rat):HI (qt q)=q.num.sign:=by
 unfold HI;rw[E8];by_cases h:q=0;rw[abx<|JI.2 h,h];rfl;rw[abl λa=>h<|JI.1 a];have b:=λa=>h<|ait.1 a
 grind
def xG(s:cj)(hl:s.length<2^60):ab 158 [.s s] (.i<|HI s):=by
 refine enter func158 W W W W<|cv W W ?_ ?_<;>intro h;refine cm W W<|cw ?_;unfold HI;rw[abx h];refine r0 W ?_;have hs:HI s=if isNeg s then -1 else 1:=by unfold HI;rw[abl h]
 refine aI 8 W ?_ ?_<;>intro b;refine r1 W (bi) ?_;refine cg W ?_ ?_<;>intro a;have hn:isNeg s=true:=d6
 refine cm W W<|cw ?_;rw[hs,hn];rfl;have hn:isNeg s=false:=d6
 refine cm W W<|cw ?_;rw[hs,hn];rfl;have hn:isNeg s=false:=qr
 refine cm W W<|cw ?_;rw[hs,hn];rfl
def Ep{q:Rat}(h:Hq q):(qt q).length<2^60:=ai9 (td h) gC
def qG(q:Rat)(h:Hq q):ab 158 [.s<|qt q] (.i q.num.sign):=by have:=xG _<|Ep h;rwa[VC]at this
def V8{q:Rat}(h:q.num<0):(qt q).drop 1=qt (-q):=by unfold qt wP b7;rw[aiu,abx h,abl E];simp
def ZF{q:Rat}(h:0<q.num):45::qt q=qt (-q):=by unfold qt wP b7;rw[aiu,abl E,abx E];simp
def rV(q:Rat)(h:Hq q):ab 150 [.s<|qt q] (.s<|qt<|-q):=by have hl:=td h;have e:=O8 q;refine enter func150 W W W W<|cu W W (qG q h) W<|cv W W ?_ ?_<;>intro b;refine r1 W (by simp[aj,len];omega) ?_;refine aJ W<|aj8 SV.s ?_;rw[<-V8 (ahF.1 b),aed];rfl;have hn:¬q.num<0:=λhn=>b<|ahF.2 hn;refine cu W W (qG q h) W<|cv W W ?_ ?_<;>intro a;refine cm W W<|aj8 SV.s ?_;rw[ait.1<|ajA.1 a];rfl;have c:q.num≠0:=λd=>a (by rw[d];rfl);refine r1 W (by simp[aj,ad1];omega) ?_;refine aJ W<|aj8 SV.s<|ZF E
def o8(q:Rat):Rat:=if q.num<0 then -q else q
def sN(q:Rat)(h:Hq q):ab 202 [.s<|qt q] (.s<|qt<|o8 q):=by have b:=O8 q;refine enter func202 W W W W<|cu W W (qG q h) W<|cv W W ?_ ?_<;>intro a;have hn:=ahF.1 a;refine r1 W (bi) ?_;refine aJ W<|aj8 SV.s ?_;unfold o8;rw[abx hn,<-V8 hn,aed];rfl;refine cm W W<|aj8 SV.s ?_;unfold o8;rw[abl (λhn=>a<|ahF.2 hn)]
def Ia(q:Rat)(h:Hq q):ab 203 [.s<|qt q] (.s<|qt (q.num:Rat)):=by have hl:=Ep h;have c:aF (qt q)=(b7 _).length:=mW _ _;have a:(qt q).length=(b7 _).length+(eR _).length:=jX _ _;refine enter func203 W W W W<|cu W W (lG _ E) W<|r1 W (bi) ?_;refine aJ W<|aj8 SV.s ?_;have b:((aF (qt q):Nat):Int).toNat=(b7 q.num).length:=E;rw[pN,b];exact uE _ _
def IW(q:Rat)(h:Hq q):ab 204 [.s<|qt q] (.s<|qt (q.den:Rat)):=by
 have hl:=Ep h;have e:aF (qt q)=(b7 _).length:=mW _ _;have b:(qt q).length=(b7 _).length+(eR _).length:=jX _ _;have hi:qt (q.den:Rat)=b7 _:=pN _;rw[hi];refine enter func204 W W W W<|cu W W (lG _ E) W<|cv W W ?_ ?_<;>intro c;have a:q.den=1:=iC.1 E;refine cm W W<|aj8 SV.s ?_;rw[a];exact(O9.symm.trans<|pN 1);have a:q.den≠1:=λa=>by have:=iC.2 a;omega
 have d:(((aF (qt q):Nat):Int)+1).toNat=(b7 q.num).length+1:=E;refine r1 W (by simp[aj,len];omega) ?_;refine aJ W<|aj8 SV.s ?_;rw[d,aed];exact vC _ _ a
def oS(q:Rat):ab 102 [.s<|qt q] (.u<|decide (q=0)):=enter func102 W W W W<|cm W W<|aj8 _<|decide_eq_decide.2 JI
def xh(n:Int)(h: -9223372036854775808<n/\n<2^63):ab 63 [.i n] (.s<|qt (n:Rat)):=by rw[pN];refine enter func63 W W W W<|cu W W (gG n h) W<|b8 W (xy n (by have:=eH (m:=n.natAbs) E;omega)) W ?_;exact cq W W
end Go.Ai
