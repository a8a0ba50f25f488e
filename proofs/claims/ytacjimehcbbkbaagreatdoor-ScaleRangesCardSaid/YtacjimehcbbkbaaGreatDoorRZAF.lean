/- ScaleRanges holds of the program, under no condition. -/
import Derived.Test.YtacjimehcbbkbaaGreatDoorRZAE
import Derived.Test.YtacjimehcbbkbaaGreatDoorProg
set_option linter.all false
set_option maxRecDepth 100000
set_option maxHeartbeats 0
namespace Go.Ai
open Go.RowKit
section
variable{P:Program}{w:World}{S:Nat->Prop}
section
variable{g:FuncId}{X:L AV}{F:L Nat}{ys:L SV}{k:Nat}{r v:SV}{hd:Value}
def JL(x:AV)(hd:Value)(a:L Nat)(o:Nat->Q Obj):qg:=λw S F=>F=a/\Rel w S x hd a/\∀b∈a,w.heap[b]?=o b
def JL.x8{x:AV}{a:L Nat}{o:Nat->Q Obj}(h:(JL x hd a o).here w S F):JL x hd a o w S F:=h w S (λ_ _=>rfl) λ_ h=>h
def Kj(n:Nat)(hd:Value):Prop:=(n=0/\hd=.slice none 0 0)\/∃b a,hd=.slice (some ⟨b,0,none⟩) n a/\n<=a/\a<=maxLen
def Kj.of{sz:Nat}(h:Rel w S (.list .own sz X) hd F):Kj X.length hd:=by rcases h with⟨rfl,rfl,-⟩|⟨b,a,e,f,rfl,-,d,c,-⟩;exact .inl G;exact .inr ⟨b,a,W,d,c⟩
def D8{α:Type _}:∀{k:Nat}{x:α}{l:L α},(ins k x l).length=l.length+1
 |0,_,_=>rfl
 |_+1,_,[]=>rfl
 |k+1,x,y::l=>by simp[ins,D8 (k:=k)]
def M7{x:SV}:∀{k:Nat}{l:L SV},aB (ins k x l)=ins k x.den (aB l)
 |0,_=>rfl
 |_+1,[]=>rfl
 |k+1,y::l=>by simp[ins,aB,M7 (k:=k)]
def Cells.ins{x:AV}{v:Value}(b:Rel w S x v []):∀{k:Nat}{ys:L AV}{a:L Value},Cells w S false ys a []->Cells w S false (Ai.ins k x ys) (Ai.ins k v a) []
 |0,ys,a,h=>⟨v,a,[],[],W,W,I,b,h⟩
 |_+1,[],a,h=>by obtain⟨rfl,-⟩:=h;exact⟨v,[],[],[],W,W,I,b,W,W⟩
 |k+1,y::ys,a,h=>by obtain⟨c,j,n,m,rfl,i,f,e,d⟩:=h;obtain⟨rfl,rfl⟩:=aga.1 i.symm;exact⟨c,_,[],[],W,W,f,e,Cells.ins b d⟩
def xa(P:Program)(g:FuncId)(k:Nat)(wh:Bool)(v:SV)(ys:L SV)(r:SV):Prop:=(wh=true\/∃sz X,v.den=.list .own sz X/\bR X=true)/\Query P g k v.den (aB ys) r.den
def Query.of(hp:r.plain=true)(hl:ys.length+1<=1000000)
 (h:∀w S hd n o,Rel w S v.den hd n->(∀b∈n,w.heap[b]?=o b)->iQ P g [.abs<|JL v.den hd n o] (ins k (.pv (·=hd)) ys) [.abs<|JL v.den hd n o] r):Query P g k v.den (aB ys) r.den:=by
 intro w S hd vs n hG hT hr F2 hF hS hc;have Z:Cells w S false (aB (ins k (.pv (·=hd)) ys)) (ins k hd vs) []:=by rw[M7];exact Cells.ins (by simp[SV.den,Rel]) hc
 obtain⟨A,D⟩:∃A,A=ins k (SV.pv (·=hd)) ys:=⟨_,W⟩;obtain⟨c,E1⟩:∃c,c=ins k hd vs:=⟨_,W⟩;have F0:A.length=ys.length+1:=by rw[D,D8]
 have E2:c.length=A.length:=by have:=dN.length (σ:=λ_=>⟨.dead,0,0⟩) (T:=λ_=>undef)<|dN.tX Z W;rw[bP]at this;simp_all
 obtain⟨o,ho⟩:∃o:Nat->Q Obj,o=λb=>w.heap[b]?:=⟨_,W⟩;obtain⟨J,hJ⟩:∃J,J=JL v.den hd n o:=⟨_,W⟩;obtain⟨V,hV⟩:∃V:Hid,V={v:=λ_=>undef,g:=λb=>b∈n}:=⟨_,W⟩;have C:(aB A).length<=1000000:=by rw[bP,F0];exact hl
 have s:J.here w S n:=by intro K M k1 k2;rw[hJ];exact⟨W,Rel.mono k2 _<|hr.frame _ k1,λb f=>fP⟩
 have B0:both (aB A) (aB [.abs J]) 1000000=⟨.abs J,0,0⟩:=ew C 0;have u:aU S V.g (both (aB A)<|aB [.abs J]) (a8 V c) w (λi=>if i=1000000 then n else[]):=by
  refine⟨λi=>?_,λi=>?_,λi j F3 b f=>?_,λi b f=>?_,hS⟩;by_cases hi:i<1000000;have Y:i≠1000000:=E;simp[Y,if_false];have f:=fe (args:=aB A) (H:=aB [.abs J]) hi;cases O:(aB A)[i]?with
  |none=>rw[O]at f;rw[an.aC<|by rw[f];rfl,f];simp[Rel]
  |some y=>
   rw[O]at f;have hA:dN w S (both (aB A)<|aB [.abs J]) (a8 V c) (aB A) c:=dN.tX (F:=[]) fP W
   refine(hA.get i O).slot (by rw[f]) ?_;simp[a8,hi,if_true]
  ·by_cases e:i=1000000
   ·subst e;unfold an;rw[B0];exact s
   simp[e,if_false];obtain⟨k,rfl⟩:∃k,i=1000000+(k+1):=⟨i-1000001,E⟩;have f:both (aB A) (aB [.abs J]) (1000000+(k+1))=⟨.dead,0,0⟩:=by rw[ew C,aex<|by simp[aB]]
   rw[an.aC<|by rw[f];rfl,f];simp[Rel]
  grind
  grind
  simp_all
 have q:=h w S hd n o hr (λb _=>by rw[ho]);rw[<-hJ,<-D]at q;rw[<-E1];have t:=q w S V c _ (by rw[bP,E2]) ⟨hG,by rw[hV];exact hT⟩ u;intro rd op a next d hK
 refine t rd op a next d λv' K⟨M,F',p,k1,k2,m⟩=>hK v' K ?_
 have A0:both (aB [r]) (aB [.abs J]) 1000000=⟨.abs J,0,0⟩:=ew (by simp[aB]) 0;have hj:=m.rel 1000000;unfold an at hj;have F4:both [r.den] (aB [SV.abs J]) 1000000=⟨.abs J,0,0⟩:=A0;have B:qg.here J K M (F' 1000000):=hj;rw[hJ]at B;obtain⟨q1,-,q3⟩:=JL.x8 B;have F1:∀b∈n,¬M b:=λb f=>(m.own 1000000 b<|by rw[q1];exact f).2.2;have z:∀b,b<w.heap.size->K.heap[b]?=w.heap[b]?:=λb f=>by by_cases e:b∈n;rw[q3 b e,ho];exact p.block b f (by rw[hV];exact e)
 have hm:∀b,cK V w b->w.heap.size<=b\/b∈n:=λb f=>f.imp id (λh=>by rw[hV]at h;exact h);have h0:=fe (args:=[r.den]) (H:=aB [SV.abs J]) (i:=0) E;simp[ahb]at h0;have x:=m.rel 0;rw[an.aC<|by rw[h0,cU];exact hp,h0]at x;refine⟨M,F' 0,⟨p.os,p.tape,p.output,p.size,z⟩,k1,λb f=>?_,m.shr,x,m.nodup 0,λb f=>?_⟩
 grind
 obtain⟨p1,p2,p3⟩:=m.own 0 b f;refine⟨?_,p2,p3⟩;rcases hm b p1 with h|h;exact h;exact aaF (by rw[q1];exact h)<|m.di 0 1000000 E b f
def xa.of{wh:Bool}{sz:Nat}(b:v.den=.list .own sz X)(hn:bR X=true)(d:r.plain=true)(hl:ys.length+1<=1000000)
 (h:∀hd a o,Kj X.length hd->iQ P g [.abs<|JL (.list .own sz X) hd a o] (ins k (.pv (·=hd)) ys) [.abs<|JL (.list .own sz X) hd a o] r):xa P g k wh v ys r:=
 ⟨.inr ⟨sz,X,b,hn⟩,Query.of d hl λ_ _ hd a o c _=>by rw[b]at c⊢;exact h hd a o<|Kj.of c⟩
def xa.box(c:r.plain=true)(hl:ys.length+1<=1000000)
 (h:∀w S hd a o,Rel w S v.den hd a->(∀b∈a,w.heap[b]?=o b)->iQ P g [.abs<|JL v.den hd a o] (ins k (.pv (·=hd)) ys) [.abs<|JL v.den hd a o] r):xa P g k true v ys r:=
 ⟨.inl W,Query.of c hl h⟩
end
end
section
variable{R:Q Nat->Prop}{P:Program}{N:Nat}{F:St->Prop}{k:L It}{l:a7}
structure RA where
 g:FuncId
 v:SV
 w:Bool
 asx:List SV
def NS:SV->Bool
 |.bw _ _ _ []=>true
 |_=>false
def QM(k:Nat)(l:a7)(f:Operand)(asx:L Operand):Q (L Pd×RA):=
 match pick k asx with
 |none=>none
 |some (x,c)=>(eB l x).bind λz=>(dq z).bind λ(a,v)=>(eB l f).bind λq=>(dq q).bind λ(b,y)=>match y with
  |.fn (.func g) [] []=>(jR l c).bind λd=>(wL d).bind λ(ob,ys)=>some (app a<|app b ob,⟨g,v,NS z.sl.v,ys⟩)
  |_=>none
def vA(l:a7)(a:Q Nat)(r:SV):Q (a7×L Nat):=
 match a with
 |none=>some (l,[])
 |some d=>nk l [] d r λb=>some (b,[d])
def A4{a:Q Nat}{r:SV}{c:a7}{e:L Nat}(b:vA l a r=some (c,e)):Mv.runs (dn l) (dz a r.den [])=some (dn c)/\bp (dz a r.den [])=e:=by
 cases a with
 |none=>obtain⟨rfl,rfl⟩:=b;exact G
 |some d=>simp[vA,iG]at b;obtain⟨rfl,rfl⟩:=b;refine⟨?_,fQ⟩;have:=gQ l [] d r;exact aaf some this
def abj{n:Nat}{all:Array Oper}{a:Q Nat}{f:Operand}{asx j:Array _}{ty:TypeId}{pos:String}{e:Array Edge}{g:Q (Nat×Bool)}{K:L Mv->St->Prop}{ob:L Pd}{h:RA}{r:SV}{m:a7}{u:L Nat}
 (Z:cN l all.toList g=some true)(hh:QM n l f asx.toList=some (ob,h))(V:aj ob)(hs:xa P h.g n h.w h.v h.asx r)(O:vA l a r=some (m,u))(Y:∀t,bp t=u->K t (dn m)):
 KV P all ⟨a,.call ⟨.value f,asx,j⟩,ty,pos,e,g⟩ (dn l) K:=by
 unfold QM at hh;split at hh<;>try(cases hh)
 rename_i x B d;simp[aaV]at hh;obtain⟨z,A,C,v,h2,q,h5,D,y,h6,b⟩:=hh;split at b<;>try(cases b)
 rename_i p;simp[aaV,acQ]at b;obtain⟨us,h3,H,ys,h4,rfl,rfl⟩:=b;obtain⟨c1,s⟩:=aY.1 V;obtain⟨s,c3⟩:=aY.1 s;obtain⟨c,T⟩:=hs;have e1:(resolve (dn l) x).cont=some v.den:=by rw[cS A,aJ h2 c1]
 have e3:s6 (B.map<|resolve<|dn l)=some (aB ys):=by rw[fg l h3];exact sF h4 c3
 have e4:(resolve (dn l) f).cont=some (.fn (.func p) [] []):=by rw[cS h5];exact aJ h6 s
 have e5:Qn v.den (resolve (dn l) x).sl.av=true:=by
  have e6:(resolve (dn l) x).sl.av=z.sl.v.den:=by rw[cS A];rfl
  rw[e6];unfold Qn;rcases c with c|⟨sz,X,c,hn⟩;have c:NS z.sl.v=true:=c;unfold NS at c;split at c;rename_i M;rw[M];rfl;cases c
  grind
 have i:kF P (dn l) ⟨a,.call ⟨.value f,asx,j⟩,ty,pos,e,g⟩ (.U1 n r.den)=some (dz a r.den [],[.U1 p n v.den (aB ys) r.den]):=by simp[kF,d,e1,e3,e4,e5]
 obtain⟨m1,J⟩:=A4 O;refine⟨.U1 n r.den,_,[.U1 p n v.den (aB ys) r.den],dn m,?_,?_,m1,Y _ J⟩;unfold fD;rw[dL (o:=⟨a,.call ⟨.value f,asx,j⟩,ty,pos,e,g⟩) Z];exact i;simp[Ob.ok];exact T
def abr(n:Nat){all:Array Oper}{i:L Nat}{c:L (L Nat×L Nat)}{rest:L Oper}{a:Q Nat}{f:Operand}{asx e:Array _}{ty:TypeId}{pos:String}{b:Array Edge}{g:Q (Nat×Bool)}{ob:L Pd}{h:RA}{r:SV}{j:a7}{m:L Nat}
 (s:cN l all.toList g=some true)(hh:QM n l f asx.toList=some (ob,h))(p:aj ob)(hs:xa P h.g n h.w h.v h.asx r)(o:vA l a r=some (j,m))
 (q:AK R P N F (.nu all i rest ((iP (dn l) all ⟨a,.call ⟨.value f,asx,e⟩,ty,pos,b,g⟩,m)::c)::k) j):
 AK R P N F (.nu all i (⟨a,.call ⟨.value f,asx,e⟩,ty,pos,b,g⟩::rest) c::k) l:=by
 exact abj s hh p hs o λt d=>by rw[d];exact q
structure Iq where
 C:Value->Prop
 J:qg
def HJ(l:a7)(x:Operand):Q Iq:=
 (eB l x).bind λz=>match z.sl.v with
   |.pv C=>match(gt l 1000000).v with
    |.abs J=>some ⟨C,J⟩
    |_=>none
   |_=>none
def UI{all:Array Oper}{a:Q Nat}{t:TypeId}{x:Operand}{ty:TypeId}{pos:String}{c:Array Edge}{g:Q (Nat×Bool)}{K:L Mv->St->Prop}{h:Iq}{y:SV}{d:a7}{f:L Nat}
 (p:cN l all.toList g=some true)(hh:HJ l x=some h)(hs:vQ P t h.C h.J y.den)(j:y.aK=true)(m:vA l a y=some (d,f))(n:∀e,bp e=f->K e (dn d)):
 KV P all ⟨a,.load t x,ty,pos,c,g⟩ (dn l) K:=by
 simp[HJ,aaV]at hh;obtain⟨z,u,b⟩:=hh;split at b<;>try(cases b)
 rename_i C s;split at b<;>try(cases b;done)
 rename_i J q;cases b;have B:(resolve (dn l) x).sl.av=.pv C:=by rw[cS u];show z.sl.v.den=_;rw[s];rfl
 have A:(dn l 1000000).av=.abs J:=by rw[ee,q];rfl
 obtain⟨m1,i⟩:=A4 m;refine⟨.TS y.den,_,[.TS t C J y.den],dn d,?_,?_,m1,n _ i⟩;unfold fD;rw[dL (o:=⟨a,.load t x,ty,pos,c,g⟩) p];simp[kF,B,A,cD,j];simp;exact hs
def adI{all:Array Oper}{rest:L Oper}{a:Q Nat}{t:TypeId}{x:Operand}{ty:TypeId}{pos:String}{b:Array Edge}{g:Q (Nat×Bool)}{h:Iq}{y:SV}{c:a7}{d:L Nat}
 (j:cN l all.toList g=some true)(hh:HJ l x=some h)(hs:vQ P t h.C h.J y.den)(e:y.aK=true)(f:vA l a y=some (c,d))(i:AK R P N F (.ops all rest::k) c):
 AK R P N F (.ops all (⟨a,.load t x,ty,pos,b,g⟩::rest)::k) l:=by
 exact UI j hh hs e f λm _=>i
def adJ{all:Array Oper}{e:L Nat}{c:L (L Nat×L Nat)}{rest:L Oper}{a:Q Nat}{t:TypeId}{x:Operand}{ty:TypeId}{pos:String}{b:Array Edge}{g:Q (Nat×Bool)}{h:Iq}{y:SV}{f:a7}{i:L Nat}
 (o:cN l all.toList g=some true)(hh:HJ l x=some h)(hs:vQ P t h.C h.J y.den)(j:y.aK=true)(m:vA l a y=some (f,i))
 (n:AK R P N F (.nu all e rest ((iP (dn l) all ⟨a,.load t x,ty,pos,b,g⟩,i)::c)::k) f):
 AK R P N F (.nu all e (⟨a,.load t x,ty,pos,b,g⟩::rest) c::k) l:=by
 exact UI o hh hs j m λp d=>by rw[d];exact n
end
section
variable{P:Program}{w:World}{S:Nat->Prop}{o:Oper}{x i:Operand}{t e:TypeId}{ti:TI}{n m sz:Nat}{hd:Value}{X:L AV}
def adr(hd:Value)(o:Nat):Value:=match hd with
 |.slice (some a) _ _=>.pointer (some<|a.add o)
 |_=>undef
def VF{c:Array TypeId}(f:o.op=.call ⟨.builtin .len,#[x],c⟩)(d:c.toList=[t])(r:P.underlying t=some (.slice e))(h:Kj n hd):ji P o [] [.pv (·=hd)] [] (.i n):=by
 refine mN W W I ?_;intro w S v s hc k p;obtain⟨l,y,F1,z,rfl,-,-,⟨rfl,-⟩,rfl,-⟩:=hc;have q:k x=l:=by
  have:o.op.operands.toList=[x]:=by rw[f];rfl
  simp_all
 have a:c=#[t]:=afN (by simpa using d);refine⟨.value<|.int .i64 n,.int .i64 n,w,?_,.inl W,S,[],⟨W,W,W,aaU _,λ_ _=>rfl⟩,λ_ h=>h,λ_ h=>.inl h,λb h=>s b h,by simp[SV.den,Rel,scalar],acP,I⟩;rcases h with⟨rfl,g⟩|⟨b,u,g,-,-⟩<;>simp[execOp,f,Go.resolve,q,invoke,builtin,a,Builtin.len_,run_underlying r,goInt,g]
def O1(d:o.op=.indexAddr t x i)(l:P.underlying t=some (.slice e))(a:ct P e=some ti)(hm:m<n)(h:Kj n hd):ji P o [] [.pv (·=hd),.i m] [] (.pv (·=adr hd (m*ti.size))):=by
 refine mN W W I ?_;intro w S r p hc c g;obtain⟨f,v,F1,B,rfl,-,-,⟨rfl,-⟩,s,u,A,z,rfl,-,-,⟨-,rfl,-⟩,rfl,-⟩:=hc;obtain⟨k,hi⟩:c x=f/\c i=.int .i64 m:=by
  have:o.op.operands.toList=[x,i]:=by rw[d];rfl
  simp_all
 rcases h with⟨rfl,y⟩|⟨b,q,rfl,-,-⟩;omega;refine⟨.value<|.pointer<|some<|(⟨b,0,none⟩:Addr).add<|m*ti.size,_,w,?_,.inl W,S,[],⟨W,W,W,.refl,λ_ _=>rfl⟩,λ_ h=>h,λ_ h=>.inl h,λb h=>p b h,by simp[SV.den,Rel,adr],acP,I⟩;simp[execOp,d,k,hi,Instr.indexAt,asIntOf,run_underlying l,hm,dM a]
def OG{y:AV}{m:Nat}:∀{X:L AV},bR X=true->X[m]?=some y->y.aK=true:=by
 induction m with
 |zero=>intro X c a;cases X with
  |nil=>cases a
  |cons z X=>simp at a;subst a;simp[bR]at c;exact c.1
 |succ m d=>intro X c a;cases X with
  |nil=>cases a
  |cons z X=>simp[bR]at c;exact d c.2 a
def DV{F1:L Nat}{ob:Nat->Q Obj}{y:AV}(d:ct P t=some ti)(C:bR X=true)(c:X[m]?=some y)(s:fits ti y=true):vQ P t (·=adr hd (m*sz)) (JL (.list .own sz X) hd F1 ob) y:=by
 intro w S F v D p;subst p;obtain⟨-,q,-⟩:=JL.x8 D;have g:=(agn.1 c).1;rcases q with⟨rfl,-,-⟩|⟨b,l,cs,Y,rfl,J,T,R,O,H,-⟩;cases g;obtain⟨z,A,V,B,-,M,a,h,r,-⟩:=du.lens sz m H c;have f:=OG C c;rw[Rel.aK _ a f]at a;refine⟨z,?_,a⟩;have k:At w ⟨b,m*sz,none⟩ z:=⟨W,cs,(0,0),J,λj u N=>by grind⟩
 have K:adr (.slice (some ⟨b,0,none⟩) X.length l) (m*sz)=.pointer (some ⟨b,m*sz,none⟩):=by
  have e:(⟨b,0,none⟩:Addr).add (m*sz)=⟨b,m*sz,none⟩:=by rw[cv W];simp
  simp[adr,e]
 rw[K];exact gw d k<|ky s a
def DD{a:Addr}(c:o.op=.nilCheck x):ji P o [] [.pv (·=.pointer (some a))] [] (.pv (·=.pointer (some a))):=by
 refine mN W W I ?_;intro w S l k hc d f;obtain⟨p,q,F1,r,rfl,-,-,⟨rfl,-⟩,rfl,-⟩:=hc;have g:d x=.pointer (some a):=by
  have:o.op.operands.toList=[x]:=by rw[c];rfl
  simp_all
 exact⟨.value<|.pointer<|some a,_,w,by simp[execOp,c,g],.inl W,S,[],⟨W,W,W,.refl,λ_ _=>rfl⟩,λ_ h=>h,λ_ h=>.inl h,λb h=>k b h,by simp[SV.den,Rel],acP,I⟩
def En{a:Addr}{f off:Nat}{l:TypeId}(k:o.op=.fieldAddr t x f)(c:p8 P t f=some (off,l))(d:ct P l=some ti)(r:ti.size≠0):ji P o [] [.pv (·=.pointer (some a))] [] (.pv (·=.pointer (some<|a.add off))):=by
 refine mN W W I ?_;intro w S v u hc p q;obtain⟨y,z,F1,B,rfl,-,-,⟨rfl,-⟩,rfl,-⟩:=hc;have s:p x=.pointer (some a):=by
  have:o.op.operands.toList=[x]:=by rw[k];rfl
  simp_all
 refine⟨.value<|.pointer<|some<|a.add off,_,w,?_,.inl W,S,[],⟨W,W,W,.refl,λ_ _=>rfl⟩,λ_ h=>h,λ_ h=>.inl h,λb h=>u b h,by simp[SV.den,Rel],acP,I⟩;unfold p8 at c;split at c;rename_i A hu;split at c;rename_i fl g;cases c;simp[execOp,k,s,Instr.fieldAt,run_underlying hu,g,Instr.sureAddr,fieldPlace,dM d,r];cases c;cases c
structure Kl(hd:Value)(ob:Nat->Option Obj)(F1:List Nat)(b:Nat)(cs:Array Value):Prop where
 e:hd=.pointer (some ⟨b,0,none⟩)
 m:b∈F1
 row:∀w':World,w'.heap[b]?=ob b->row? w' b=some (cs,(0,0))
variable{F1:L Nat}{ob:Nat->Q Obj}{b j:Nat}{cs:Array Value}{xs:L AV}
def Kl.of(d:Rel w S (.box true<|.agg xs) hd F1)(f:∀b∈F1,w.heap[b]?=ob b):∃b cs,Kl hd ob F1 b cs/\∃F',Cells w S true xs cs.toList F':=by obtain⟨b,cs,s,F',z,p,l,⟨q,rfl,k⟩,h,g,a⟩:=d;subst h g;refine⟨b,q,⟨p,by rw[a];simp,λr c=>?_⟩,F',k⟩;rw[lP<|c.trans (f b<|by rw[a];simp).symm];exact l
def Kl.cells(B:Kl hd ob F1 b cs){F:L Nat}(h:(JL (.box true<|.agg xs) hd F1 ob) w S F):row? w b=some (cs,(0,0))/\∃F',Cells w S true xs cs.toList F':=by obtain⟨-,f,g⟩:=h;have d:=B.row w<|g b B.m;refine⟨d,?_⟩;obtain⟨s,p,q,F',z,c,a,⟨r,rfl,l⟩,k,-⟩:=f;rw[B.e]at c;cases c;rw[d]at a;cases a;subst k;exact⟨F',l⟩
def HA{y:AV}(B:Kl hd ob F1 b cs)(d:ct P t=some ti)(g:xs[j]?=some y)(f:y.aK=true)(p:fits ti y=true):vQ P t (·=.pointer (some<|(⟨b,0,none⟩:Addr).add j)) (JL (.box true<|.agg xs) hd F1 ob) y:=by
 intro w S F v q h;subst h;obtain⟨a,C,hc⟩:=B.cells<|JL.x8 q;obtain⟨z,A,s,D,-,r,c,hl,-⟩:=Cells.lens j hc g;rw[Rel.aK _ c f]at c;refine⟨z,?_,c⟩;rw[cv W];refine gw d ⟨W,cs,(0,0),a,λk u l=>?_⟩<|ky p c;rw[cells_one<|r W]at l
 grind
def zU{z:Value}(B:Kl hd ob F1 b cs)(c:ct P t=some ti)(h:ti.agg=false)(l:cs.toList[j]?=some z)(hc:z.oneCell'=true):vQ P t (·=.pointer (some<|(⟨b,0,none⟩:Addr).add j)) (JL (.box true<|.agg xs) hd F1 ob) (.pv (·=z)):=by
 intro w S F v g d;subst d;obtain⟨a,p,-⟩:=B.cells<|JL.x8 g;refine⟨z,?_,W,W⟩;rw[cv W];refine gw c ⟨W,cs,(0,0),a,λk u f=>?_⟩<|.inr ⟨h,hc⟩;rw[cells_one hc]at f
 grind
def O4{F':L Nat}(hc:Cells w S true xs cs.toList F')(a:xs[j]?=some (.list .own sz X)):∃z,cs.toList[j]?=some z/\Kj X.length z/\z.oneCell'=true:=by obtain⟨z,A,f,g,-,d,c,hl,-⟩:=Cells.lens j hc a;exact⟨z,hl,Kj.of c,d W⟩
def DU{y:AV}{z:Value}(B:Kl hd ob F1 b cs)(f:cs.toList[j]?=some z)(g:xs[j]?=some (.list .own sz X))(a:ct P t=some ti)(p:bR X=true)(hm:X[m]?=some y)(k:fits ti y=true):vQ P t (·=adr z (m*sz)) (JL (.box true<|.agg xs) hd F1 ob) y:=by intro w S F v r h;obtain⟨-,D,hc⟩:=B.cells<|JL.x8 r;obtain⟨s,A,d,H,-,-,q,hl,-⟩:=Cells.lens j hc g;rw[f]at hl;cases hl;have c:(JL (.list .own sz X) z d λb=>w.heap[b]?).here w S d:=λu C k1 k2=>⟨W,Rel.mono k2 _<|Rel.frame _ q k1,λb l=>k1 b<|.inr l⟩;exact DV a p hm k w S d v c h
def acq{C:Value->Prop}(d:o.op=.box t x):ji P o [] [.pv C] [] (.box true<|.pv C):=by
 refine mN W W I ?_;intro w S r g hc k l;obtain⟨a,s,F1,u,rfl,-,-,⟨q,-⟩,rfl,-⟩:=hc;have p:k x=a:=by
  have:o.op.operands.toList=[x]:=by rw[d];rfl
  simp_all
 have c:(w.alloc<|.cells a.cells t).heap.size=w.heap.size+1:=by show(w.heap.push _).size=_;simp
 refine⟨.value<|.pointer<|some ⟨w.heap.size,0,none⟩,_,w.alloc<|.cells a.cells t,?_,.inl W,S,[w.heap.size],(Below.refl _ _).alloc (.refl) _,λ_ h=>h,λ_ h=>.inl h,λb h=>by rw[c];have:=g b h;omega,?_,I,?_⟩;simp[execOp,d,p];rfl;exact⟨w.heap.size,a.cells,(0,0),[],a,W,mK _ _ _,⟨q,W⟩,W,W,W⟩;intro b f;simp at f;subst f;exact⟨.refl,E,λh=>by have:=g _ h;omega⟩
def Qu{a:Operand}{C:Value->Prop}(D:o.op=.load t a)(p:ct P t=some ti)(s:ti.agg=false)(R:∀v,C v->v.oneCell'=true):ji P o [.box true<|.pv C] [.bw 1000000 0 0 []] [.box true<|.pv C] (.pv C):=by
 intro w S V A F hl hc y K;obtain⟨x0,rfl⟩:∃x0,A=[x0]:=by
  match A,hl with
  |[x0],_=>exact⟨x0,W⟩
 have N:both (aB [SV.bw 1000000 0 0 []]) (aB [SV.box true<|.pv C]) 1000000=⟨.box true<|.pv C,0,0⟩:=ew (by simp[aB]) 0;have e0:x0=V.v 1000000:=mj (i:=0) E hc W;have B:=hc.rel 1000000;have Z:a8 V [x0] 1000000=V.v 1000000:=fQ;have q:=B;obtain⟨b,cs,Y,F2,z,h1,J,⟨H,rfl⟩,T,-⟩:=B;have k:=R z H;have O:y a=.pointer (some ⟨b,0,none⟩):=by
  have J:o.op.operands.toList=[a]:=by rw[D];rfl
  simp_all
 have g:(Instr.loadAt t<|y a).run P w=.ok z w:=by simp[O];exact gw p ⟨W,cs,Y,J,λj u M=>by rw[<-T];simpa using M⟩<|.inr ⟨s,k⟩
 refine⟨.value z,z,w,by simp[execOp,D,g],.inl W,S,λi=>if i=1000000 then F 1000000 else[],⟨W,W,W,aaU _,λ_ _ _=>rfl⟩,λ_ h=>h,λ_ h=>.inl h,⟨λi=>?_,λi=>?_,λi j r c d=>?_,λi c d=>?_,hc.shr⟩⟩;have d:=jW (.pv C) (.box true<|.pv C) i;by_cases l:i=0;subst l;have d:=d;show an w S (both (aB [SV.pv C])<|aB [SV.box true<|.pv C]) _ 0 _;exact⟨H,W⟩;rw[aaq l]at d;by_cases f:i=1000000;subst f;have d:=d;show an w S (both (aB [SV.pv C])<|aB [SV.box true<|.pv C]) _ 1000000 _;exact q;rw[aaq f]at d;have d:(both (aB [SV.pv C]:L AV) (aB [SV.box true<|.pv C]) i).av=.dead:=d;show an w S (both (aB [SV.pv C])<|aB [SV.box true<|.pv C]) _ i _;rw[an.aC<|by rw[d];rfl,d,aaq f];simp[Rel];split;exact hc.nodup _;exact acP;split at d;rename_i hi;rw[aaq λe=>r<|hi.trans e.symm];simp;cases d;split at d;have:=hc.own 1000000 c d;exact⟨.inr this.1,this.2⟩;cases d
end
end Go.Ai
namespace Go.Ai
open Go.Proofs Go.RowKit Go.Proofs.Tryz
abbrev ab:=@aN Tryz.prog
abbrev fO:=SV.ints .i64 false
abbrev fR:=SV.ints .i64 true
abbrev fS:=SV.ints .u64 false
abbrev ah9:=SV.ints .u64 true
theorem aij{α:Sort _}(f:α->SV){a b:α}(h:a=b):aw (f a) (f b):=aw.of_eq<|congrArg f h
theorem ak{α β:Sort _}{a:α}{b:β}{x:SV}:a=a/\b=b/\FE x x:=⟨rfl,rfl,.refl _⟩
abbrev tI(k:IntKind)(b:Nat):TE:=⟨.int k,some ⟨false,1,b,.n k 0⟩⟩
abbrev tL(e:TypeId):TE:=⟨.slice e,some ⟨false,1,24,.nil⟩⟩
abbrev tG(f:L (Nat×TypeId×Nat))(s b:Nat)(z:L SV):TE:=⟨.struct f,some ⟨true,s,b,.agg z⟩⟩
abbrev tF:TE:=⟨.func,some ⟨false,1,8,.c .nilFunc⟩⟩
abbrev tP:TE:=⟨.ptr,some ⟨false,1,8,.c<|.pointer none⟩⟩
abbrev tO:TE:=⟨.other,none⟩
abbrev tM:TE:=⟨.other,some ⟨false,1,8,.c<|.map none⟩⟩
def tt:TT:=[(0,tO),
 (1,tF),
 (2,tI .i64 8),
 (3,tI .i64 8),
 (4,⟨.bool,some ⟨false,1,1,.b false⟩⟩),
 (5,tI .u8 1),
 (6,tI .u8 1),
 (7,tG [(0,2,1),(1,3,1),(2,4,1),(3,6,1)] 4 24 [.n .i64 0,.n .i64 0,.b false,.n .u8 0]),
 (8,tG [(0,2,1),(1,3,1),(2,4,1),(3,6,1)] 4 24 [.n .i64 0,.n .i64 0,.b false,.n .u8 0]),
 (9,⟨.str,some ⟨false,1,16,.s []⟩⟩),
 (10,⟨.str,some ⟨false,1,16,.s []⟩⟩),
 (20,tO),
 (22,tL 69),
 (23,tL 3),
 (25,tG [(0,3,1),(1,22,1),(2,23,1)] 3 56 [.n .i64 0,.nil,.nil]),
 (26,tL 44),
 (28,tF),
 (30,tI .i64 8),
 (31,tO),
 (35,tL 9),
 (36,tL 47),
 (38,tG [(0,35,1),(1,36,1),(2,26,1)] 3 72 [.nil,.nil,.nil]),
 (39,tO),
 (42,⟨.str,some ⟨false,1,16,.s []⟩⟩),
 (44,tG [(0,42,1),(1,42,1)] 2 32 [.s [],.s []]),
 (46,tL 130),
 (47,tL 130),
 (51,tG [(0,3,1),(1,3,1),(2,3,1),(3,3,1)] 4 32 [.n .i64 0,.n .i64 0,.n .i64 0,.n .i64 0]),
 (53,tG [(0,26,1),(1,51,4)] 5 56 [.nil,.n .i64 0,.n .i64 0,.n .i64 0,.n .i64 0]),
 (56,tL 23),
 (58,tG [(0,23,1),(1,56,1)] 2 48 [.nil,.nil]),
 (61,tO),
 (63,tL 67),
 (64,tO),
 (66,tL 72),
 (67,tL 42),
 (69,tG [(0,9,1),(1,66,1),(2,3,1),(3,42,1),(4,67,1)] 5 88 [.s [],.nil,.n .i64 0,.s [],.nil]),
 (72,tG [(0,3,1),(1,42,1)] 2 24 [.n .i64 0,.s []]),
 (83,tI .u32 4),
 (90,tO),
 (92,tL 97),
 (93,tO),
 (97,tG [(0,3,1),(1,3,1),(2,3,1)] 3 24 [.n .i64 0,.n .i64 0,.n .i64 0]),
 (100,tO),
 (102,tO),
 (104,tO),
 (114,tO),
 (116,tO),
 (130,tG [(0,42,1),(1,23,1)] 2 40 [.s [],.nil]),
 (133,tF),
 (134,tO),
 (136,tL 244),
 (143,tL 337),
 (145,tG [(0,3,1),(1,143,1)] 2 32 [.n .i64 0,.nil]),
 (147,⟨.array 81 145,some ⟨true,162,2592,.agg (List.replicate 81 [.n .i64 0,.nil]).flatten⟩⟩),
 (149,tP),
 (151,tF),
 (152,tF),
 (155,tG [(0,3,1),(1,3,1),(2,3,1),(3,3,1)] 4 32 [.n .i64 0,.n .i64 0,.n .i64 0,.n .i64 0]),
 (157,tG [(0,145,2),(2,145,2)] 4 64 [.n .i64 0,.nil,.n .i64 0,.nil]),
 (161,tP),
 (163,tG [(0,25,3),(3,30,1)] 4 64 [.n .i64 0,.nil,.nil,.n .i64 0]),
 (164,tP),
 (166,tL 168),
 (168,tL 157),
 (173,tO),
 (177,tG [(0,4,1),(1,23,1)] 2 32 [.b false,.nil]),
 (178,tO),
 (190,tP),
 (191,tO),
 (196,tG [(0,25,3),(3,26,1),(4,51,4),(8,23,1),(9,56,1)] 10 160 [.n .i64 0,.nil,.nil,.nil,.n .i64 0,.n .i64 0,.n .i64 0,.n .i64 0,.nil,.nil]),
 (197,tO),
 (199,tO),
 (202,tF),
 (206,tF),
 (209,tL 30),
 (210,tF),
 (211,tP),
 (214,tL 219),
 (215,tM),
 (217,tG [(0,25,3),(3,3,1),(4,168,1),(5,214,1),(6,214,1),(7,215,1)] 8 144 [.n .i64 0,.nil,.nil,.n .i64 0,.nil,.nil,.nil,.c<|.map none]),
 (219,tL 229),
 (225,tG [(0,157,4),(4,157,4)] 8 128 [.n .i64 0,.nil,.n .i64 0,.nil,.n .i64 0,.nil,.n .i64 0,.nil]),
 (229,tG [(0,157,4),(4,23,1)] 5 88 [.n .i64 0,.nil,.n .i64 0,.nil,.nil]),
 (244,tG [(0,3,1),(1,3,1),(2,3,1)] 3 24 [.n .i64 0,.n .i64 0,.n .i64 0]),
 (252,tF),
 (258,tF),
 (278,tO),
 (283,tI .u64 8),
 (284,tO),
 (287,tO),
 (289,tF),
 (291,tG [(0,289,1)] 1 8 [.c .nilFunc]),
 (293,tG [(0,69,5),(5,23,1),(6,3,1),(7,51,4)] 11 152 [.s [],.nil,.n .i64 0,.s [],.nil,.nil,.n .i64 0,.n .i64 0,.n .i64 0,.n .i64 0,.n .i64 0]),
 (295,tO),
 (297,tO),
 (299,tO),
 (306,tF),
 (308,tG [(0,3,1),(1,3,1),(2,133,1),(3,306,1)] 4 32 [.n .i64 0,.n .i64 0,.c .nilFunc,.c .nilFunc]),
 (309,tO),
 (316,tO),
 (321,tO),
 (322,tL 4),
 (323,tF),
 (324,tF),
 (326,tF),
 (328,tF),
 (329,tF),
 (331,tO),
 (337,tI .u64 8),
 (338,tO),
 (348,tO),
 (352,tO),
 (354,tO),
 (359,tO),
 (360,tO),
 (367,tF),
 (368,tO),
 (372,tP),
 (373,tL 5),
 (375,tG [(0,372,1),(1,373,1)] 2 32 [.c<|.pointer none,.nil]),
 (378,tO),
 (380,tF),
 (382,tF),
 (395,tP),
 (406,tI .i64 8),
 (407,tO),
 (413,⟨.array 24 5,some ⟨true,24,24,.agg [.n .u8 0,.n .u8 0,.n .u8 0,.n .u8 0,.n .u8 0,.n .u8 0,.n .u8 0,.n .u8 0,.n .u8 0,.n .u8 0,.n .u8 0,.n .u8 0,.n .u8 0,.n .u8 0,.n .u8 0,.n .u8 0,.n .u8 0,.n .u8 0,.n .u8 0,.n .u8 0,.n .u8 0,.n .u8 0,.n .u8 0,.n .u8 0]⟩⟩),
 (415,tO)]
def hA:c8 prog tt:=by
 unfold tt
 repeat refine⟨⟨by first|exact rfl|exact⟨_,rfl⟩|exact⟨_,rfl,rfl⟩|exact⟨_,_,_,rfl⟩|exact U,λi h=>by cases h<;>rfl⟩,?_⟩
 exact U
def hm:prog.follows .mixedOrders=true:=fQ
section
variable{R:Q Nat->Prop}{N:Nat}{F:St->Prop}{k:L It}{l:a7}
def r0{b:L It}{a:a7}(h:run tt [] N 100000 k l [] []=([],[],b,a))(c:AK R prog N F b a):AK R prog N F k l:=go hA hm [] h W U c
def r1{ob:L Pd}{b:L It}{a:a7}(h:run tt [] N 100000 k l [] []=(ob,[],b,a))(c:aj ob)(d:AK R prog N F b a):AK R prog N F k l:=go hA hm [] h W c d
def k0{qs:L Bool}{b:L It}{a:a7}(h:run tt [] N 100000 k l [] []=([],qs,b,a))(c:nG qs=true)(d:AK R prog N F b a):AK R prog N F k l:=go hA hm [] h c U d
def k1{ob:L Pd}{qs:L Bool}{b:L It}{a:a7}(h:run tt [] N 100000 k l [] []=(ob,qs,b,a))(c:nG qs=true)(d:aj ob)(e:AK R prog N F b a):AK R prog N F k l:=go hA hm [] h c d e
def kw(a:L Nat){ob:L Pd}{qs:L Bool}{c:L It}{b:a7}(h:run tt a N 100000 k l [] []=(ob,qs,c,b))(d:nG qs=true)(e:aj ob)(f:AK R prog N F c b):AK R prog N F k l:=go hA hm a h d e f
def rno{b:L It}{a:a7}(m:Nat){ob:L Pd}(h:run tt [] N m k l [] []=(ob,[],b,a))(c:aj ob)(d:AK R prog N F b a):AK R prog N F k l:=(ow hA hm h c W).2.2 d
def br{c:Operand}{t e:Code}{x:SR}{p:Prop}[Decidable p](b:aO c=true)(h:eB l c=some x)(a:dq x=some ([],.u<|decide p))(f:p->AK R prog N F (.code t::k) l)(d:¬p->AK R prog N F (.code e::k) l):AK R prog N F (.code (.cond c t e)::k) l:=ZT b h a U f d
def nS{c:Operand}{t e:Code}{x:SR}{b:Bool}(d:aO c=true)(h:eB l c=some x)(a:dq x=some ([],.u b))(g:b=true->AK R prog N F (.code t::k) l)(f:b=false->AK R prog N F (.code e::k) l):AK R prog N F (.code (.cond c t e)::k) l:=branch d h a U g f
def cl{all:Array Oper}{rest:L Oper}{a:Q Nat}{f:Operand}{xs d:Array _}{ty:TypeId}{pos:String}{b:Array Edge}{g:Q (Nat×Bool)}{h:rG}{r:SV}{c:a7}{e:L Nat}
 (m:cN l all.toList g=some true)(hh:pX l f xs.toList=some ([],h))(hs:ab h.g h.asx r)(i:kr l a r h.sh=some ([],c,e))(j:AK R prog N F (.ops all rest::k) c):
 AK R prog N F (.ops all (⟨a,.call ⟨.value f,xs,d⟩,ty,pos,b,g⟩::rest)::k) l:=call m hh U hs i U j
def cd{all:Array Oper}{e:L Nat}{c:L (L Nat×L Nat)}{rest:L Oper}{a:Q Nat}{f:Operand}{xs d:Array _}{ty:TypeId}{pos:String}{b:Array Edge}{g:Q (Nat×Bool)}{h:rG}{r:SV}{i:a7}{j:L Nat}
 (o:cN l all.toList g=some true)(hh:pX l f xs.toList=some ([],h))(hs:ab h.g h.asx r)(m:kr l a r h.sh=some ([],i,j))
 (n:AK R prog N F (.nu all e rest ((iP (dn l) all ⟨a,.call ⟨.value f,xs,d⟩,ty,pos,b,g⟩,j)::c)::k) i):
 AK R prog N F (.nu all e (⟨a,.call ⟨.value f,xs,d⟩,ty,pos,b,g⟩::rest) c::k) l:=W2 o hh U hs m U n
def Gm{all:Array Oper}{rest:L Oper}{a:Q Nat}{f:Operand}{xs d:Array _}{ty:TypeId}{pos:String}{b:Array Edge}{g:Q (Nat×Bool)}{h:rG}{r:SV}{c:a7}{e:L Nat}{us:L SV}{ob:L Pd}
 (n:cN l all.toList g=some true)(hh:pX l f xs.toList=some (ob,h))(j:aj ob)(hl:Gx h.asx us)(hs:ab h.g us r)(i:kr l a r h.sh=some ([],c,e))(m:AK R prog N F (.ops all rest::k) c):
 AK R prog N F (.ops all (⟨a,.call ⟨.value f,xs,d⟩,ty,pos,b,g⟩::rest)::k) l:=call n hh j (hs.acY hl) i U m
def TV{all:Array Oper}{e:L Nat}{c:L (L Nat×L Nat)}{rest:L Oper}{a:Q Nat}{f:Operand}{xs d:Array _}{ty:TypeId}{pos:String}{b:Array Edge}{g:Q (Nat×Bool)}{h:rG}{r:SV}{i:a7}{j:L Nat}{us:L SV}{ob:L Pd}
 (p:cN l all.toList g=some true)(hh:pX l f xs.toList=some (ob,h))(n:aj ob)(hl:Gx h.asx us)(hs:ab h.g us r)(m:kr l a r h.sh=some ([],i,j))
 (o:AK R prog N F (.nu all e rest ((iP (dn l) all ⟨a,.call ⟨.value f,xs,d⟩,ty,pos,b,g⟩,j)::c)::k) i):
 AK R prog N F (.nu all e (⟨a,.call ⟨.value f,xs,d⟩,ty,pos,b,g⟩::rest) c::k) l:=W2 p hh n (hs.acY hl) m U o
def RY{rs:L ResultVar}{r:SV}{xs:L SV}(h:jl tt l rs=some xs)(a:aw (xB xs).cC r):AK R prog N (TK prog rs r) [] l:=adj hA h a
def aH{rs:L ResultVar}{r:SV}{xs:L SV}(h:jl tt l rs=some xs)(a:aw (xB xs) r):AK R prog N (TK prog rs r) [] l:=ret hA h a
def NJ{rs:L ResultVar}{r:SV}{b:L SV}{xs:L SV}(a:L (Nat×SV))(d:ta l a)(h:jl tt (sl a) rs=some xs)(c:aw (xB xs) r)(hh:Jw (sl a) 1000000 b):AK R prog N (Xu prog rs r b) [] l:=aeS hA a d h c hh
def cr{all:Array Oper}{rest:L Oper}{a:Q Nat}{f:Operand}{xs d:Array _}{ty:TypeId}{pos:String}{b:Array Edge}{g:Q (Nat×Bool)}{h:mJ}{out:L SV}{r:SV}{c:a7}{e:L Nat}
 (m:cN l all.toList g=some true)(hh:um l f xs.toList=some ([],h))(hs:iQ prog h.g (mo h.R) h.asx out r)(i:ja l a h.R out r=some (c,e))(j:AK R prog N F (.ops all rest::k) c):
 AK R prog N F (.ops all (⟨a,.call ⟨.value f,xs,d⟩,ty,pos,b,g⟩::rest)::k) l:=Tv m hh U hs i j
def crd{all:Array Oper}{e:L Nat}{c:L (L Nat×L Nat)}{rest:L Oper}{a:Q Nat}{f:Operand}{xs d:Array _}{ty:TypeId}{pos:String}{b:Array Edge}{g:Q (Nat×Bool)}{h:mJ}{out:L SV}{r:SV}{i:a7}{j:L Nat}
 (o:cN l all.toList g=some true)(hh:um l f xs.toList=some ([],h))(hs:iQ prog h.g (mo h.R) h.asx out r)(m:ja l a h.R out r=some (i,j))
 (n:AK R prog N F (.nu all e rest ((iP (dn l) all ⟨a,.call ⟨.value f,xs,d⟩,ty,pos,b,g⟩,j)::c)::k) i):
 AK R prog N F (.nu all e (⟨a,.call ⟨.value f,xs,d⟩,ty,pos,b,g⟩::rest) c::k) l:=PE o hh U hs m n
def wn{all:Array Oper}{rest:L Oper}{d:Nat}{t:TypeId}{x:Operand}{lo hi:Q Operand}{ty:TypeId}{pos:String}{a:Array Edge}{g:Q (Nat×Bool)}{ob:L Pd}{b:a7}{c:L Nat}
 (i:cN l all.toList g=some true)(h:Ao tt l d t x lo hi=some (ob,b,c))(e:aj ob)(f:AK R prog N F (.ops all rest::k) b):
 AK R prog N F (.ops all (⟨some d,.slice t x lo hi none,ty,pos,a,g⟩::rest)::k) l:=aeF hA i h e f
def wnd{all:Array Oper}{c:L Nat}{b:L (L Nat×L Nat)}{rest:L Oper}{d:Nat}{t:TypeId}{x:Operand}{lo hi:Q Operand}{ty:TypeId}{pos:String}{a:Array Edge}{g:Q (Nat×Bool)}{ob:L Pd}{e:a7}{f:L Nat}
 (m:cN l all.toList g=some true)(h:Ao tt l d t x lo hi=some (ob,e,f))(i:aj ob)
 (j:AK R prog N F (.nu all c rest ((iP (dn l) all ⟨some d,.slice t x lo hi none,ty,pos,a,g⟩,f)::b)::k) e):
 AK R prog N F (.nu all c (⟨some d,.slice t x lo hi none,ty,pos,a,g⟩::rest) b::k) l:=aeG hA m h i j
def mkf{all:Array Oper}{rest:L Oper}{d:Nat}{e:FuncId}{first a:Array Operand}{ty:TypeId}{pos:String}{b:Array Edge}{g:Q (Nat×Bool)}{c:a7}{f:L Nat}
 (j:cN l all.toList g=some true)(h:Vu l d e first.toList a.toList=some (c,f))(i:AK R prog N F (.ops all rest::k) c):
 AK R prog N F (.ops all (⟨some d,.makeFunc (.func e) first a,ty,pos,b,g⟩::rest)::k) l:=ae0 j h i
def cc{all:Array Oper}{rest:L Oper}{a:Q Nat}{f:Operand}{xs d:Array _}{ty:TypeId}{pos:String}{b:Array Edge}{g:Q (Nat×Bool)}{h:mJ}{out:L SV}{r:SV}{c:a7}{e:L Nat}
 (m:cN l all.toList g=some true)(hh:Ec l f xs.toList=some h)(hs:iQ prog h.g (mo h.R) h.asx out r)(i:ja l a h.R out r=some (c,e))(j:AK R prog N F (.ops all rest::k) c):
 AK R prog N F (.ops all (⟨a,.call ⟨.value f,xs,d⟩,ty,pos,b,g⟩::rest)::k) l:=afl m hh hs i j
def lk{all:Array Oper}{rest:L Oper}{d:Nat}{t:TypeId}{m x:Operand}{a:Bool}{ty:TypeId}{pos:String}{c:Array Edge}{g:Q (Nat×Bool)}{h:(World->(Nat->Prop)->Value->Prop)×SV}{b:a7}{e:L Nat}(y:SV)
 (n:cN l all.toList g=some true)(hh:Ae l m x=some h)(f:y.aK=true)(hs:Looks prog t a h.1 h.2.den y.den)(i:nk l [] d y (λb=>some (b,[d]))=some (b,e))(j:AK R prog N F (.ops all rest::k) b):
 AK R prog N F (.ops all (⟨some d,.lookup t m x a,ty,pos,c,g⟩::rest)::k) l:=ae1 y n hh f hs i j
def SO{all:Array Oper}{f:L Nat}{c:L (L Nat×L Nat)}{rest:L Oper}{d:Nat}{t:TypeId}{m x:Operand}{a:Bool}{ty:TypeId}{pos:String}{b:Array Edge}{g:Q (Nat×Bool)}{h:(World->(Nat->Prop)->Value->Prop)×SV}{e:a7}{i:L Nat}(y:SV)
 (p:cN l all.toList g=some true)(hh:Ae l m x=some h)(j:y.aK=true)(hs:Looks prog t a h.1 h.2.den y.den)(n:nk l [] d y (λe=>some (e,[d]))=some (e,i))
 (o:AK R prog N F (.nu all f rest ((iP (dn l) all ⟨some d,.lookup t m x a,ty,pos,b,g⟩,i)::c)::k) e):
 AK R prog N F (.nu all f (⟨some d,.lookup t m x a,ty,pos,b,g⟩::rest) c::k) l:=ae2 y p hh j hs n o
def yk{all:Array Oper}{rest:L Oper}{a:Q Nat}{f:Operand}{xs e:Array _}{ty:TypeId}{pos:String}{c:Array Edge}{g:Q (Nat×Bool)}{ob:L Pd}{h:NH}{J':qg}{b:Bool}{d:a7}{i:L Nat}
 (o:cN l all.toList g=some true)(hh:Mi l f xs.toList=some (ob,h))(m:aj ob)(hs:∀v,h.C v->Yields prog h.J J' (aB h.asx) b v)(j:P9 l a J' b=some (d,i))(n:AK R prog N F (.ops all rest::k) d):
 AK R prog N F (.ops all (⟨a,.call ⟨.value f,xs,e⟩,ty,pos,c,g⟩::rest)::k) l:=aaT o hh m hs j n
def ex{all:Array Oper}{rest:L Oper}{o:Oper}{h:AU}{out:L SV}{r:SV}{b:a7}{c:L Nat}
 (f:cN l all.toList o.guard=some true)(a:tg (dn l) o.op=true)(hh:Ad l o.op.operands.toList=some h)(hs:ji prog o (mo h.R) h.asx out r)(d:ja l o.dst h.R out r=some (b,c))(e:AK R prog N F (.ops all rest::k) b):
 AK R prog N F (.ops all (o::rest)::k) l:=afe f a hh hs d e
def FL{all:Array Oper}{c:L Nat}{a:L (L Nat×L Nat)}{rest:L Oper}{o:Oper}{h:AU}{out:L SV}{r:SV}{d:a7}{e:L Nat}
 (i:cN l all.toList o.guard=some true)(b:tg (dn l) o.op=true)(hh:Ad l o.op.operands.toList=some h)(hs:ji prog o (mo h.R) h.asx out r)(f:ja l o.dst h.R out r=some (d,e))
 (g:AK R prog N F (.nu all c rest ((iP (dn l) all o,e)::a)::k) d):
 AK R prog N F (.nu all c (o::rest) a::k) l:=aff i b hh hs f g
def cqd(n:Nat){all:Array Oper}{e:L Nat}{c:L (L Nat×L Nat)}{rest:L Oper}{a:Q Nat}{f:Operand}{xs d:Array _}{ty:TypeId}{pos:String}{b:Array Edge}{g:Q (Nat×Bool)}{h:RA}{r:SV}{i:a7}{j:L Nat}
 (p:cN l all.toList g=some true)(hh:QM n l f xs.toList=some ([],h))(hs:xa prog h.g n h.w h.v h.asx r)(m:vA l a r=some (i,j))
 (o:AK R prog N F (.nu all e rest ((iP (dn l) all ⟨a,.call ⟨.value f,xs,d⟩,ty,pos,b,g⟩,j)::c)::k) i):
 AK R prog N F (.nu all e (⟨a,.call ⟨.value f,xs,d⟩,ty,pos,b,g⟩::rest) c::k) l:=abr n p hh U hs m o
def obd{all:Array Oper}{h:L Nat}{c:L (L Nat×L Nat)}{rest:L Oper}{d:Nat}{b:Builtin}{xs f:Array _}{ty:TypeId}{pos:String}{a:Array Edge}{g:Q (Nat×Bool)}{J:World->(Nat->Prop)->Value->Prop}{e:a7}{i:L Nat}(y:SV)
 (o:cN l all.toList g=some true)(hh:QN l xs.toList=some J)(j:y.aK=true)(hs:Obs prog ⟨some d,.call ⟨.builtin b,xs,f⟩,ty,pos,a,g⟩ J y.den)(m:nk l [] d y (λe=>some (e,[d]))=some (e,i))
 (n:AK R prog N F (.nu all h rest ((iP (dn l) all ⟨some d,.call ⟨.builtin b,xs,f⟩,ty,pos,a,g⟩,i)::c)::k) e):
 AK R prog N F (.nu all h (⟨some d,.call ⟨.builtin b,xs,f⟩,ty,pos,a,g⟩::rest) c::k) l:=aeY y o hh j hs m n
def ldq{all:Array Oper}{rest:L Oper}{a:Q Nat}{t:TypeId}{x:Operand}{ty:TypeId}{pos:String}{b:Array Edge}{g:Q (Nat×Bool)}{h:Iq}{y:SV}{c:a7}{d:L Nat}
 (j:cN l all.toList g=some true)(hh:HJ l x=some h)(hs:vQ prog t h.C h.J y.den)(e:y.aK=true)(f:vA l a y=some (c,d))(i:AK R prog N F (.ops all rest::k) c):
 AK R prog N F (.ops all (⟨a,.load t x,ty,pos,b,g⟩::rest)::k) l:=adI j hh hs e f i
def Y2{all:Array Oper}{d:L Nat}{c:L (L Nat×L Nat)}{rest:L Oper}{a:Q Nat}{t:TypeId}{x:Operand}{ty:TypeId}{pos:String}{b:Array Edge}{g:Q (Nat×Bool)}{h:Iq}{y:SV}{e:a7}{f:L Nat}
 (n:cN l all.toList g=some true)(hh:HJ l x=some h)(hs:vQ prog t h.C h.J y.den)(i:y.aK=true)(j:vA l a y=some (e,f))
 (m:AK R prog N F (.nu all d rest ((iP (dn l) all ⟨a,.load t x,ty,pos,b,g⟩,f)::c)::k) e):
 AK R prog N F (.nu all d (⟨a,.load t x,ty,pos,b,g⟩::rest) c::k) l:=adJ n hh hs i j m
def cp{N:Nat}{f:FuncId}{fn:Func}{c:Code}{args:L SV}{r:SV}(b:prog.funcs[f]?=some fn)(a:(fn.body,fn.ntmps,fn.name== "runtime.NumGoroutine",Nat.ble (len args) fn.ntmps,fh fn.results.toList [])=(some c,N,false,true,true))
 (h:AK R0 prog N (TK prog fn.results.toList r) [.code c] (Cn 0 args)):ab f args r:=by
 simp only[acQ]at a;obtain⟨j,d,i,g,e⟩:=a;subst d;exact enter b j i g e h
def bY{c:Operand}{t e:Code}{x:SR}{p:Prop}[Decidable p](a:(aO c,eB l c,dq x)=(true,some x,some ([],.u<|decide p)))(d:p->AK R prog N F (.code t::k) l)(b:¬p->AK R prog N F (.code e::k) l):AK R prog N F (.code (.cond c t e)::k) l:=by simp only[acQ]at a;exact br a.1 a.2.1 a.2.2 d b
def bW{all:Array Oper}{rest:L Oper}{a:Q Nat}{f:Operand}{xs e:Array _}{ty:TypeId}{pos:String}{c:Array Edge}{g:Q (Nat×Bool)}{h:rG}{r:SV}{d:a7}{i:L Nat}
 (b:(cN l all.toList g,pX l f xs.toList)=(some true,some ([],h)))(hs:ab h.g h.asx r)(j:kr l a r h.sh=some ([],d,i))(m:AK R prog N F (.ops all rest::k) d):
 AK R prog N F (.ops all (⟨a,.call ⟨.value f,xs,e⟩,ty,pos,c,g⟩::rest)::k) l:=by simp only[acQ]at b;exact cl b.1 b.2 hs j m
def bX{all:Array Oper}{i:L Nat}{c:L (L Nat×L Nat)}{rest:L Oper}{a:Q Nat}{f:Operand}{xs e:Array _}{ty:TypeId}{pos:String}{b:Array Edge}{g:Q (Nat×Bool)}{h:rG}{r:SV}{j:a7}{m:L Nat}
 (d:(cN l all.toList g,pX l f xs.toList)=(some true,some ([],h)))(hs:ab h.g h.asx r)(n:kr l a r h.sh=some ([],j,m))
 (o:AK R prog N F (.nu all i rest ((iP (dn l) all ⟨a,.call ⟨.value f,xs,e⟩,ty,pos,b,g⟩,m)::c)::k) j):
 AK R prog N F (.nu all i (⟨a,.call ⟨.value f,xs,e⟩,ty,pos,b,g⟩::rest) c::k) l:=by simp only[acQ]at d;exact cd d.1 d.2 hs n o
def bV{rs:L ResultVar}{r:SV}{xs:L SV}(h:(jl tt l rs,xB xs)=(some xs,r)):AK R prog N (TK prog rs r) [] l:=by simp only[acQ]at h;exact aH h.1<|.of_eq h.2
def cn{a b:Int}(h:a=b):aw (.i a) (.i b):=.of_eq<|aaf SV.i h
def cm{c:Operand}{t e:Code}{x:SR}{p:Prop}[Decidable p]{b:L It}{a:a7}(h:run tt [] N 100000 k l [] []=([],[],.code (.cond c t e)::b,a))(g:(aO c,eB a c,dq x)=(true,some x,some ([],.u<|decide p)))(f:p->AK R prog N F (.code t::b) a)(d:¬p->AK R prog N F (.code e::b) a):AK R prog N F k l:=r0 h<|bY g f d
def ck{all:Array Oper}{rest:L Oper}{a:Q Nat}{f:Operand}{xs j:Array _}{ty:TypeId}{pos:String}{d:Array Edge}{g:Q (Nat×Bool)}{c:rG}{r:SV}{b e:a7}{m:L Nat}{i:L It}(h:run tt [] N 100000 k l [] []=([],[],.ops all (⟨a,.call ⟨.value f,xs,j⟩,ty,pos,d,g⟩::rest)::i,b))
 (p:(cN b all.toList g,pX b f xs.toList)=(some true,some ([],c)))(hs:ab c.g c.asx r)(n:kr b a r c.sh=some ([],e,m))(o:AK R prog N F (.ops all rest::i) e):
 AK R prog N F k l:=r0 h<|bW p hs n o
def cj{all:Array Oper}{j:L Nat}{d:L (L Nat×L Nat)}{rest:L Oper}{a:Q Nat}{f:Operand}{xs i:Array _}{ty:TypeId}{pos:String}{c:Array Edge}{g:Q (Nat×Bool)}{e:rG}{r:SV}{b m:a7}{n:L Nat}{o:L It}(h:run tt [] N 100000 k l [] []=([],[],.nu all j (⟨a,.call ⟨.value f,xs,i⟩,ty,pos,c,g⟩::rest) d::o,b))
 (s:(cN b all.toList g,pX b f xs.toList)=(some true,some ([],e)))(hs:ab e.g e.asx r)(p:kr b a r e.sh=some ([],m,n))
 (q:AK R prog N F (.nu all j rest ((iP (dn b) all ⟨a,.call ⟨.value f,xs,i⟩,ty,pos,c,g⟩,n)::d)::o) m):AK R prog N F k l:=r0 h<|bX s hs p q
def b7{rs:L ResultVar}{r:SV}{xs:L SV}{a:a7}(h:run tt [] N 100000 k l [] []=([],[],[],a))(c:jl tt a rs=some xs)(b:aw (xB xs) r):AK R prog N (TK prog rs r) k l:=r0 h<|aH c b
def b8{a:L (Nat×SV)}{A:Prop}{b:a7}{c:L It}(h:run tt [] N 100000 k l [] []=([],[],.inv (w8 (λ_:Unit=>a) λ_=>A)::c,b))(e:A)(d:Fits b a):AK R prog N F k l:=r0 h<|eU e d
def b6{a:a7}{c:L It}(h:run tt [] N 100000 k l [] []=([],[],c,a))(d:Nat){p:Prop}[Decidable p](g:(gt a d).v=.u (decide p))(f:p->AK R prog N F c ((d,⟨.b true,(gt a d).g1,(gt a d).g2⟩)::a))(e:¬p->AK R prog N F c ((d,⟨.b false,(gt a d).g1,(gt a d).g2⟩)::a)):AK R prog N F k l:=r0 h<|aF d g f e
def b9{e:a7}{f:L It}{c:Code}(h:run tt [] N 100000 k l [] []=([],[],.code (.loop c)::f,e)){b:Type}(a:b->L (Nat×SV))(A:b->Prop)(d:b->Nat)(x:b)(g:A x)(j:Fits e (a x))(i:∀y,A y->AK R prog N F (.code c::.inv (vR a A d y)::f) (sl<|a y)):AK R prog N F k l:=r0 h<|loop a A d x g j i
def cg{rs:L ResultVar}{r:SV}{xs:L SV}{a:a7}(h:run tt [] N 100000 k l [] []=([],[],[],a))(b:(jl tt a rs,xB xs)=(some xs,r)):AK R prog N (TK prog rs r) k l:=r0 h<|bV b
def rrA{α c:Sort _}{a:α}{b:c}:a=a/\b=b:=G
def eP{ob:L Pd}{b:L It}{a:a7}(h:run tt [] N 100000 k l [] []=(ob,[],b,a))(d:AK R prog N F b a)(c:aj ob:=by simp only[aj,aag,agc]<;>omega):AK R prog N F k l:=r1 h c d
def CM{qs:L Bool}{b:L It}{a:a7}(h:run tt [] N 100000 k l [] []=([],qs,b,a))(d:AK R prog N F b a)(c:nG qs=true:=by kernel_rfl):AK R prog N F k l:=k0 h c d
def u6{ob:L Pd}{qs:L Bool}{b:L It}{a:a7}(h:run tt [] N 100000 k l [] []=(ob,qs,b,a))(e:AK R prog N F b a)(d:aj ob:=by simp only[aj,aag,agc]<;>omega)(c:nG qs=true:=by kernel_rfl):AK R prog N F k l:=k1 h c d e
def aM{b:Type}{a:b->L (Nat×SV)}{A:b->Prop}{c:b->Nat}{y:b}(z:b)(e:A z)(d:Fits l (a z):=by repeat' first|exact rrA|exact U|exact rfl|refine⟨?_,?_⟩)(f:c z<c y:=by(try dsimp only);omega):AK R prog N F (.inv (vR a A c y)::k) l:=again z f e d
def ba{b:Type}(a:b->L (Nat×SV))(A:b->Prop)(d:b->Nat)(x:b){c:Code}(e:A x)(f:∀y,A y->AK R prog N F (.code c::.inv (vR a A d y)::k) (sl<|a y))(g:Fits l (a x):=by repeat' first|exact rrA|exact U|exact rfl|refine⟨?_,?_⟩):AK R prog N F (.code (.loop c)::k) l:=loop a A d x e g f
def fL{b:Type}{a:b->L (Nat×SV)}{A:b->Prop}(z:b)(d:A z)(c:Fits l (a z):=by repeat' first|exact rrA|exact U|exact rfl|refine⟨?_,?_⟩):AK R prog N F (.inv (w8 a A)::k) l:=meet z d c
def bm{a:L (Nat×SV)}{A:Prop}(c:A)(b:Fits l a:=by repeat' first|exact rrA|exact U|exact rfl|refine⟨?_,?_⟩):AK R prog N F (.inv (w8 (λ_:Unit=>a) λ_=>A)::k) l:=eU c b
def bk{p:Prop}(h:p:=by simp only[aj,aag]<;>omega):p:=h
def bj{p:Prop}(h:p:=by simp only[aj,aag]):p:=h
def bh{p:Prop}(h:p:=by simp[aj,aag]<;>omega):p:=h
def bg{p:Prop}(h:p:=by simp[aj,aag]):p:=h
def bf{p:Prop}(h:p:=by simp[aj]):p:=h
def bd{p:Prop}(h:p:=by simp[aj]<;>omega):p:=h
def aP{p:Prop}(h:p:=by kernel_rfl):p:=h
end
section
variable{l:L Int}{m n:Nat}
def B9:Nat:=1000000000
def ah(n:Nat):L Int:=if h:n=0 then[]else((n%B9:Nat):Int)::ah (n/B9)
 termination_by n
 decreasing_by exact afA (afF h) fV
def val:L Int->Int
 |[]=>0
 |d::l=>d+1000000000*val l
def iR(l:L Int):Prop:=∀d∈l,0<=d/\d<1000000000
def c6:ah 0=[]:=by rw[ah];simp
def bA(n:Nat):val (ah n)=n:=by
 induction n using Nat.strongRecOn with
 |_ n b=>rw[ah];split;rename_i h;subst h;rfl;rename_i h;have a:n/B9<n:=afA (afF h) fV;simp[val,b _ a];unfold B9;omega
def bL(n:Nat):iR (ah n):=by
 induction n using Nat.strongRecOn with
 |_ n c=>rw[ah];split;intro d a;cases a;rename_i h;have b:n/B9<n:=afA (afF h) fV;intro d a;rcases abm.1 a with rfl|a;unfold B9;omega;exact c _ b d a
def bE:∀{l:L Int},iR l->0<=val l
 |[],_=>by simp[val]
 |d::l,h=>by have c:=h d I;have b:=bE (l:=l) λx a=>h x (by simp[a]);simp[val];omega
def fG(l:L Int)(d:Int):val (l++[d])=val l+d*1000000000^l.length:=by
 induction l with
 |nil=>simp[val]
 |cons x l a=>simp[val];grind
def iX:∀{l:L Int},iR l->val l<1000000000^l.length
 |[],_=>by simp[val]
 |d::l,h=>by have c:=h d I;have b:=iX (l:=l) λx a=>h x (by simp[a]);simp[val];omega
def uB:∀{l:L Int},iR l->l.getLast?≠some 0->ah (val l).toNat=l
 |[],_,_=>by simp[val,c6]
 |d::l,h,e=>by
  have p:=h d I;have hl:iR l:=λx f=>h x (by simp[f]);have o:=bE hl;have b:l.getLast?≠some 0:=by grind
  have a:=uB hl b;have c:(val<|d::l).toNat≠0:=by
   simp only[val];intro q;have i:d=0:=E;have g:val l=0:=E;cases l with
   |nil=>subst i;simp at e
   |cons x l=>rw[g]at a;simp[c6]at a
  rw[ah,dif_neg c];have k:(((val<|d::l).toNat%B9:Nat):Int)=d:=by simp[val];unfold B9;omega
  have j:(val<|d::l).toNat/B9=(val l).toNat:=by simp[val];unfold B9;omega
  rw[k,j,a]
def vf(h:iR l)(a:l.getLast?≠some 0)(b:val l=n):l=ah n:=by have:=uB h a;simp_all
def rk(n:Nat):(ah n).getLast?≠some 0:=by
 induction n using Nat.strongRecOn with
 |_ n c=>
  rw[ah];split;simp;rename_i h;have b:n/B9<n:=afA (afF h) fV;have:=c _ b;cases hl:ah (n/B9)with
  |nil=>intro he;have a:=bA<|n/B9;rw[hl]at a;simp[val]at a;simp at he;unfold B9 at he a;omega
  |cons x l=>simp_all
def aL(l:L Int)(i:Nat):val (l.take<|i+1)=val (l.take i)+l.getD i 0*1000000000^i:=by
 by_cases h:i<l.length;rw[ace h,fG]
 grind
 rw[acD E,acD E];simp_all
def bt(h:iR l)(i:Nat):0<=l.getD i 0/\l.getD i 0<1000000000:=by by_cases hi:i<l.length;have:=h l[i]<|aaZ hi;simp_all;simp_all
def jM{d:Int}(h:iR l)(b:0<=d/\d<1000000000):iR (l++[d]):=by intro x a;rcases ac6.1 a with a|a;exact h x a;simp_all
def D1(h:iR l)(a:l=[]\/1000000000^(l.length-1)<=val l):l.getLast?≠some 0:=by rcases ahY l with rfl|⟨l,d,rfl⟩;simp;rw[ahZ]at*;rcases a with a|a;simp at a;simp;rintro rfl;rw[fG]at a;have:=iX (l:=l) λx b=>h x (by simp[b]);simp at a;omega
def dW(n:Nat):(0:Int)<1000000000^n:=Int.pow_pos fV
def sD(h:iR l)(hl:l.getLast?≠some 0):l=[]\/1000000000^(l.length-1)<=val l:=by rcases ahY l with rfl|⟨l,d,rfl⟩;exact .inl W;right;rw[ahZ]at*;rw[fG];have e:=bE (l:=l) λx a=>h x (by simp[a]);have c:=h d I;simp at hl;simp;have b:=dW l.length;have:1*1000000000^l.length<=d*1000000000^l.length:=afO E E;omega
def gZ(n:Nat):ah n=[]\/(1000000000:Int)^((ah n).length-1)<=n:=by have:=sD (bL n)<|rk n;rwa[bA]at this
def dp:L Int->L Int
 |[]=>[]
 |d::l=>match dp l with
  |[]=>if d=0 then[]else[d]
  |x::r=>d::x::r
def mW:∀l:L Int,dp (l++[0])=dp l
 |[]=>by simp[dp]
 |d::l=>by simp[dp,mW l]
def oL:∀{l:L Int},l.getLast?≠some 0->dp l=l
 |[],_=>rfl
 |[d],h=>by simp at h;simp[dp,h]
 |d::x::l,h=>by have:=oL (l:=x::l) h;rw[dp,this]
def vV{w:L Int}(hn:n+1=w.length)(h:w.getD n 0=0):dp (w.take n)=dp w:=by
 have e:w=w.take n++[0]:=by
  have a:n<w.length:=E;have b:=ace a
  grind
 conv=>rhs;rw[e,mW]
def qG:∀l:L Int,val (dp l)=val l
 |[]=>rfl
 |d::l=>by have a:=qG l;simp[dp];split;rename_i h;rw[h]at a;simp[val]at a⊢;split;rename_i b;simp[val];omega;simp[val];omega;rename_i x r h;rw[h]at a;simp[val]at a⊢;omega
def eM(h:iR l):dp l=ah (val l).toNat:=by
 have e:iR (dp l)/\(dp l).getLast?≠some 0:=by
  induction l with
  |nil=>exact⟨h,by simp[dp]⟩
  |cons d l f=>
   obtain⟨i1,b⟩:=f λx c=>h x (by simp[c]);have g:=h d I;simp[dp];split;split;simp_all;rename_i i;exact⟨λx c=>fP,by simpa using i⟩;rename_i x r he;rw[he]at i1 b;exact⟨λy a=>by rcases abm.1 a with rfl|a;exact g;exact i1 y a,b⟩
 rw[vf e.1 e.2 (n:=(val l).toNat) (by rw[qG];have:=bE h;omega)]
def xg:∀l:L Int,(dp l).length<=l.length
 |[]=>by simp[dp]
 |d::l=>by
  have:=xg l;simp[dp]
  grind
def iA(l:L Int)(k:Nat):val l=val (l.take k)+1000000000^(l.take k).length*val (l.drop k):=by
 induction l generalizing k with
 |nil=>simp[val]
 |cons d l a=>
  cases k with
  |zero=>simp[val]
  |succ k=>simp[val];grind
def ia(h:iR l)(k:Nat):iR (l.take k):=λx a=>h x<|afB a
def pB(h:iR l)(k:Nat):iR (l.drop k):=λx a=>h x<|agv a
def cu(n:Nat):(n:Int)<1000000000^(ah n).length:=by have:=iX<|bL n;rwa[bA]at this
def gF(h:n≠0):0<(ah n).length:=by rw[ah,dif_neg h];simp
def jc{a b:Nat}(h:a<=b):(1000000000:Int)^a<=1000000000^b:=by obtain⟨k,rfl⟩:=Nat.exists_eq_add_of_le h;rw[afT];have c:=dW a;have d:=dW k;have:=aez (show(1:Int)<=1000000000^k from E)<|adY c;omega
def cO(h:(ah m).length<(ah n).length):m<n:=by have c:=cu m;rcases gZ n with a|a;rw[a]at h;cases h;have b:(1000000000:Int)^(ah m).length<=1000000000^((ah n).length-1):=jc E;omega
def pD(m n:Nat):Int:=if m<n then -1 else if n<m then 1 else 0
def nn{k:Nat}(d:k<(ah m).length)(hl:(ah m).length=(ah n).length)(e:(ah m).drop (k+1)=(ah n).drop (k+1))(h:(ah m).getD k 0<(ah n).getD k 0):m<n:=by
 have b:=iA (ah m)<|k+1;have a:=iA (ah n)<|k+1;rw[bA,aL]at b a;have g:=iX<|ia (bL m) k;have f:=bE<|ia (bL n) k;have c:=dW k;have:((ah m).getD k 0+1)*1000000000^k<=(ah n).getD k 0*1000000000^k:=afO E E
 grind
def lK:∀{l:L Int}{j:Nat}(y:Int),j<l.length->val (l.set j y)=val l+(y-l.getD j 0)*1000000000^j
 |[],j,y,h=>by cases h
 |d::l,0,y,_=>by simp[val];omega
 |d::l,j+1,y,h=>by have:=lK (l:=l) (j:=j) y (by simpa using h);simp[val];grind
def fF(h:iR l){j:Nat}{y:Int}(b:0<=y/\y<1000000000):iR (l.set j y):=by intro x a;rcases ahx a with a|a;exact h x a;subst a;exact b
def dy(l:L Int)(j k:Nat)(y:Int):(l.set j y).getD k 0=if j=k/\k<l.length then y else l.getD k 0:=by grind
def jn(n:Nat):val (List.replicate n 0)=0:=by
 induction n with
 |zero=>rfl
 |succ n a=>simp[agL,val,a]
def gb(n:Nat):iR (List.replicate n 0):=λx a=>fP
def iJ(n k:Nat):(List.replicate n (0:Int)).getD k 0=0:=by grind
end
def dA:Nat->Int->Int->Int->Int->Int->Int
 |0,t,_,_,_,_=>t
 |k+1,t,r,v1,v2,u2=>if 1000000000<=t\/r*1000000000+u2<t*v2 then(if 1000000000<=r+v1 then t-1 else dA k (t-1) (r+v1) v1 v2 u2)else t
def iu{a b c:Int}(h:a<=b)(hc:0<=c):a*c<=b*c:=afO h hc
def uo{v1 v2 u2 f P g s U V:Int}(q:0<P)(n:1<=v1)(u:0<=v2/\v2<1000000000)(v:0<=u2/\u2<1000000000)(m:0<=g/\g<P)(H:0<=s/\s<P)
 (C:V=v1*(1000000000*P)+v2*P+g)(S:U=f*(1000000000*P)+u2*P+s)(M:U<1000000000*V):
 ∀(k:Nat)(t r:Int),k=t.toNat->0<=t->0<=r->t*v1+r=f->U<(t+1)*V->U<(dA k t r v1 v2 u2+1)*V/\(dA k t r v1 v2 u2-1)*V<=U/\0<=dA k t r v1 v2 u2/\dA k t r v1 v2 u2<=t:=by
 have F:v2*P+g<1000000000*P:=by
  have:=iu (show v2+1<=1000000000 from E)<|adY q
  grind
 have z:0<=v2*P:=aeA u.1 E;have w:0<V:=by have:=iu n (show 0<=1000000000*P from E);omega
 have A:f<1000000000*v1+1000000000:=by
  have x:f*(1000000000*P)<(1000000000*v1+1000000000)*(1000000000*P):=by
   have h:0<=u2*P:=aeA v.1 E
   grind
  exact agQ x E
 have i:∀t r:Int,0<=t->t<1000000000->t*v1+r=f->t*v2<=r*1000000000+u2->(t-1)*V<=U:=by
  intro t r l x h j;have R:t*V=t*v1*(1000000000*P)+t*v2*P+t*g:=by rw[C];grind
  have O:t*v1*(1000000000*P)=f*(1000000000*P)-r*1000000000*P:=by rw[<-h];grind
  have y:=iu j<|adY q;rw[afV]at y;have N:t*g<=1000000000*P:=by have a:=aez (adY m.2) l;have b:=iu (adY x)<|adY q;omega
  have T:=iu n (show 0<=1000000000*P from E)
  grind
 have less:∀t r:Int,0<=t->t*v1+r=f->(1000000000<=t\/r*1000000000+u2<t*v2)->U<t*V:=by
  intro t r l h j;rcases j with j|j
  ·have:=iu j<|adY w;omega
  have R:t*V=t*v1*(1000000000*P)+t*v2*P+t*g:=by rw[C];grind
  have O:t*v1*(1000000000*P)=f*(1000000000*P)-r*1000000000*P:=by rw[<-h];grind
  have y:=iu (show r*1000000000+u2+1<=t*v2 from E)<|adY q;rw[afV,afV]at y;have N:0<=t*g:=aeA l m.1;omega
 intro k
 induction k with
 |zero=>intro t r K l J h B;have:t=0:=E;subst this;simp only[dA];refine⟨B,?_,E,E⟩;exact i 0 r E E h E
 |succ k D=>
  intro t r K l J h B;simp[dA];by_cases hc:1000000000<=t\/r*1000000000+u2<t*v2
  ·rw[aas hc];have hl:=less t r l h hc;have p:(t-1)*v1+(r+v1)=f:=by rw[agR];omega
   by_cases o:1000000000<=r+v1
   ·rw[aas o];have e:t-1+1=t:=E;rw[e];refine⟨hl,?_,E,E⟩;have hs:t-1<1000000000:=by
     have:(t-1)*v1<1000000000*v1:=E;exact agQ this E
    refine i (t-1) (r+v1) E hs p ?_;have a:(t-1)*v2<=(t-1)*1000000000:=aez E E;omega
   rw[aaq o];have e:t-1+1=t:=E;obtain⟨a,b,c,d⟩:=D (t-1) (r+v1) E E E p (by rw[e];exact hl);omega
  grind
section
variable{y:Int}{w:L Int}{j k n:Nat}
def Th(h:j<=k):(w.set k y).drop j=(w.drop j).set (k-j) y:=by rw[List.drop_set,aaq E]
def fB(h:j<=k):(w.set k y).take j=w.take j:=by rw[List.take_set_of_le h]
def HL(w:L Int)(j k:Nat):(w.drop j).getD k 0=w.getD (j+k) 0:=by simp
def nT(h:j<=k)(a:k<w.length):val ((w.set k y).drop j)=val (w.drop j)+(y-w.getD k 0)*1000000000^(k-j):=by rw[Th h,lK _<|by simp;omega,HL,show j+(k-j)=k from E]
def rK(h:j+n<w.length):val (w.drop j)=val ((w.drop j).take n)+w.getD (j+n) 0*1000000000^n+1000000000^(n+1)*val (w.drop<|j+n+1):=by
 have e:=iA (w.drop j)<|n+1;rw[aL,HL]at e;have l:((w.drop j).take<|n+1).length=n+1:=by simp;omega
 rw[l,afQ]at e;exact e
def rL(h:j+n<=w.length)(f:∀k,j<=k->k<j+n->0<=w.getD k 0/\w.getD k 0<1000000000):0<=val ((w.drop j).take n)/\val ((w.drop j).take n)<1000000000^n:=by
 have b:iR ((w.drop j).take n):=by
  intro d a;obtain⟨k,e,rfl⟩:=af7 a;have c:k<n/\j+k<w.length:=by simp at e;omega
  have:=f (j+k) E E;simp_all
 have l:((w.drop j).take n).length=n:=by simp;omega
 refine⟨bE b,?_⟩;have:=iX b;rwa[l]at this
def ib(h:j<w.length):val (w.drop j)=w.getD j 0+1000000000*val (w.drop<|j+1):=by rw[acJ h];simp[val,acL h]
def MZ(h:∀k,k<w.length->0<=w.getD k 0/\w.getD k 0<1000000000):iR w:=by intro d a;obtain⟨k,b,rfl⟩:=af7 a;simp_all
def A3{u:L Int}(hl:w.length=u.length){p:Nat}(h:∀k,p<=k->w.getD k 0=u.getD k 0):w.drop p=u.drop p:=by
 apply agd;simp[hl];intro i c d;have b:p+i<w.length:=by simp at c;omega
 have a:p+i<u.length:=E;have:=h (p+i) E;simp_all
def nw{f:Nat}(c:0<f)(b:f<1000000000):ah f=[(f:Int)]:=by refine(vf (λd a=>?_) ?_ ?_).symm;simp at a;omega;simp;omega;simp[val]
def Vh{b F:Int}(c:1<=b/\b<1000000000)(d:F=1000000000/(b+1)):1<=F/\F<=500000000/\(b+1)*F<=1000000000/\500000000<=b*F:=by
 have e:=ahy 1000000000 (b+1);have o:=age 1000000000 (show b+1≠0 from E);have m:=agf 1000000000 (show 0<b+1 from E);rw[<-d]at e;have a:1<=F:=by
  rcases agw F 1 with h|h;have:(b+1)*F<=0:=by have:=aez (show F<=0 from E) (show 0<=b+1 from E);omega
  omega;exact h
 have p:(b+1)*F=b*F+F:=by rw[afV];omega
 have l:b<=b*F:=by have:=aez a (show 0<=b from E);omega
 have i:F<=b*F:=by have:=iu c.1 (show 0<=F from E);omega
 have g:2<=b->2*F<=b*F:=λh=>iu h E;have f:2<=F->2*b<=b*F:=λh=>by have:=aez h (show 0<=b from E);omega
 omega
def SB{Fn:Nat}(hn:2<=(ah n).length)(s:(Fn:Int)=1000000000/((ah n).getD ((ah n).length-1) 0+1)):
 1<=Fn/\Fn<=500000000/\(ah<|n*Fn).length=(ah n).length/\500000000<=(ah<|n*Fn).getD ((ah n).length-1) 0:=by
 have f:=rk n;have q:=bt (bL n)<|(ah n).length-1;have i:(ah n).getD ((ah n).length-1) 0≠0:=by grind
 have ev:=rK (w:=ah n) (j:=0) (n:=(ah n).length-1) E;have c:=rL (w:=ah n) (j:=0) (n:=(ah n).length-1) E λk _ _=>bt (bL n) k;simp[aeW,af0]at ev c;rw[bA,aeB<|show(ah n).length<=(ah n).length-1+1 from E]at ev;generalize p:(ah n).getD ((ah n).length-1) 0=b at*;obtain⟨D,C,v,B⟩:=Vh ⟨E,q.2⟩ s;generalize val ((ah n).take<|(ah n).length-1)=lo at*;simp[val]at ev;generalize g:(1000000000:Int)^((ah n).length-1)=P at*;have x:((n*Fn:Nat):Int)=lo*Fn+(b*Fn)*P:=by grind
 have m:lo*Fn<=P*Fn:=iu E E;have l:((n*Fn:Nat):Int)<1000000000*P:=by
  have A:(lo+1)*Fn<=P*Fn:=iu E E;have z:(b+1)*Fn*P<=1000000000*P:=iu v E
  grind
 have o:(b*Fn)*P<=((n*Fn:Nat):Int):=by have:0<=lo*(Fn:Int):=aeA c.1 E;omega
 have e:(ah<|n*Fn).length=(ah n).length:=by
  have g1:=cu<|n*Fn;have g2:=gZ<|n*Fn;have r:P<=((n*Fn:Nat):Int):=by have:=iu (show 1<=b*(Fn:Int)from E) (show 0<=P from E);omega
  rcases acX (ah<|n*Fn).length (ah n).length with h|h;have:=jc (show(ah<|n*Fn).length<=(ah n).length-1 from E);omega;rcases g2 with g2|g2;simp_all;rcases acX (ah n).length (ah<|n*Fn).length with u|u;have:=jc (show(ah n).length<=(ah<|n*Fn).length-1 from E);have F:(1000000000:Int)^(ah n).length=1000000000*P:=by rw[<-g,show(ah n).length=(ah n).length-1+1 from E,aeJ];simp;omega
  omega;omega
 refine⟨E,E,e,?_⟩;have d:=rK (w:=ah<|n*Fn) (j:=0) (n:=(ah n).length-1) E;have a:=rL (w:=ah<|n*Fn) (j:=0) (n:=(ah n).length-1) E λk _ _=>bt (bL _) k;simp only[aeW,af0]at d a;rw[bA,aeB<|show(ah<|n*Fn).length<=(ah n).length-1+1 from E,g]at d;rw[g]at a;simp only[val]at d;generalize (ah<|n*Fn).getD ((ah n).length-1) 0=y at*;have:b*(Fn:Int)<y+1:=by
  have t:(b*(Fn:Int))*P<(y+1)*P:=by rw[afV];omega
  exact agQ t E
 omega
end
def TU(d:Nat):UInt8:=UInt8.ofNat<|48+d
def decl(n k:Nat):cq:=if h:n=0/\k=0 then[]else decl (n/10) (k-1)++[TU<|n%10]
 termination_by n+k
 decreasing_by
  omega
def c7:decl 0 0=[]:=by rw[decl];simp
def bC{n k:Nat}(h:¬(n=0/\k=0)):decl n k=decl (n/10) (k-1)++[TU<|n%10]:=by rw[decl];simp[h]
def wV{q:Nat}(a:0<q):∀(j r k:Nat),r<10^j->decl (q*10^j+r) k=decl q (k-j)++decl r j
 |0,r,k,h=>by
  have:r=0:=by simpa using h
  subst this;simp[c7]
 |j+1,r,k,h=>by
  have b:¬(q*10^(j+1)+r=0/\k=0):=by have:0<q*10^(j+1):=ahg a<|afF I;omega
  rw[bC b,bC (n:=r) (k:=j+1) E];have d:(q*10^(j+1)+r)/10=q*10^j+r/10:=by rw[afi,<-af1];omega
  have c:(q*10^(j+1)+r)%10=r%10:=by grind
  rw[d,c,wV a j (r/10) (k-1) E,acT]
  congr 2
  omega
def dE:∀(n k j:Nat),n<10^j->k<=j->(decl n k).length<=j:=by
 intro n k j
 induction j generalizing n k with
 |zero=>intro c b;have:n=0/\k=0:=E;rw[this.1,this.2,c7];simp
 |succ j a=>
  intro c b;by_cases h:n=0/\k=0
  grind
  rw[bC h];have:=a (n/10) (k-1) E E;simp;omega
def cX(s:cq):Nat:=s.foldl (λn c=>10*n+(c.toNat-48)) 0
def dG(s:cq):Prop:=∀c∈s,48<=c.toNat/\c.toNat<=57
def uV(s:cq)(c:UInt8):cX (s++[c])=10*cX s+(c.toNat-48):=by simp[cX]
def sg:∀(t:cq)(a:Nat),t.foldl (λn c=>10*n+(c.toNat-48)) a=a*10^t.length+cX t
 |[],a=>by simp[cX]
 |c::t,a=>by have d:=sg t<|10*a+(c.toNat-48);have b:=sg t<|10*0+(c.toNat-48);simp[cX]at d b⊢;rw[b];grind
def tZ(s t:cq):cX (s++t)=cX s*10^t.length+cX t:=by
 conv=>lhs;rw[cX,afv]
 exact sg t<|cX s
def SA(c:UInt8)(t:cq):cX (c::t)=(c.toNat-48)*10^t.length+cX t:=by
 have:=sg t<|c.toNat-48
 conv=>lhs;rw[cX]
 simpa using this
def mL:∀{s:cq},dG s->cX s<10^s.length
 |[],_=>by simp[cX]
 |c::t,h=>by have e:=mL (s:=t) λx a=>h x (by simp[a]);have d:=h c I;rw[SA,abo];have b:(c.toNat-48)*10^t.length<=9*10^t.length:=acM _ E;omega
def vg{d:Nat}(h:d<10):(TU d).toNat=48+d:=by unfold TU;rw[UInt8.toNat_ofNat'];omega
def cE:∀n k,dG (decl n k):=by
 intro n k
 induction hm:n+k using Nat.strongRecOn generalizing n k with
 |_ m b=>
  by_cases h:n=0/\k=0;rw[h.1,h.2,c7];intro c hc;cases hc;rw[bC h];have a:n/10+(k-1)<m:=by omega
  intro c hc;rcases ac6.1 hc with hc|hc;exact b _ a (n/10) (k-1) W c hc;simp at hc;subst hc;rw[vg<|acN _ fV];omega
def gn:∀n k,cX (decl n k)=n:=by
 intro n k
 induction hm:n+k using Nat.strongRecOn generalizing n k with
 |_ m b=>
  by_cases h:n=0/\k=0;rw[h.1,h.2,c7];rfl;rw[bC h];have a:n/10+(k-1)<m:=by omega
  rw[uV,b _ a (n/10) (k-1) W,vg<|acN _ fV];omega
def bS(z:Int):cq:=if z<0 then 45::decl z.natAbs 1 else decl z.natAbs 1
def aE:cq->Nat
 |[]=>0
 |c::t=>if c=47 then 0 else aE t+1
def qN:∀s:cq,aE s<=s.length
 |[]=>by simp[aE]
 |c::t=>by have:=qN t;simp[aE];split<;>simp;omega
def vB:∀{s:cq}{i:Nat},i<aE s->s.getD i 0≠47
 |[],i,h=>by simp[aE]at h
 |c::t,i,h=>by
  simp[aE]at h;split at h;omega;rename_i hc;cases i with
  |zero=>simpa using hc
  |succ i=>simpa using vB (s:=t) (i:=i) E
def zw:∀{s:cq},aE s<s.length->s.getD (aE s) 0=47
 |[],h=>by cases h
 |c::t,h=>by simp[aE]at h⊢;split at h;simp_all;rename_i hc;rw[aaq hc];have:=zw (s:=t) (by simpa using h);simpa using this
def Rc(n:Nat){k:Nat}(h:0<k):decl n k≠[]:=by rw[bC E];simp
def uC(xs:L Int)(i:Nat):ab 345 [fO xs,.i i] (.i<|xs.getD i 0):=by refine cp func345 W<|cm W W ?_ ?_<;>intro h;refine r1 W ⟨E,E,E,U⟩<|aH W W;refine b7 W W ?_;simp[aw,xB,gt,aex<|show xs.length<=i from E]
def Cu(m n:Nat)(k:(ah m).length<2^40)(j:(ah n).length<2^40):ab 309 [fO<|ah m,fO<|ah n] (fR<|ah<|m+n):=by
 refine cp func309 W<|r0 W<|pV (λ(i:Nat)(out:L Int)(c:Int)=>[(0,fO<|ah m),(1,fO<|ah n),(5,fR out),(6,.i c),(7,.i i)])
  (λi out c=>iR out/\out.length=i/\0<=c/\c<=1/\val out+c*1000000000^i=val ((ah m).take i)+val ((ah n).take i)/\(i<=(ah m).length\/i<=(ah n).length\/(c=0/\out.getLast?≠some 0/\i<=(ah m).length+(ah n).length+1)))
  (λi _ _=>(ah m).length+(ah n).length+2-i) 0 [] 0 ⟨by simp[iR],W,E,E,by simp[val],E⟩ ⟨G,G,G,G,G,U⟩ ?_
 rintro i out c⟨a,hl,q,p,f,hi⟩;refine Ke<|acd [(0,fO<|ah m),(1,fO<|ah n),(5,fR out),(6,.i c),(7,.i i)] (i<(ah m).length\/i<(ah n).length\/0<c) ?_ λg=>?_;refine b6 W 13 W ?_ ?_<;>intro h;refine r0 W<|bm E;refine b6 W 19 W ?_ ?_<;>intro h;refine r0 W<|bm E;refine cm W W ?_ ?_<;>intro h;refine r0 W<|bm E;refine b7 W W ?_;have hc:c=0:=E;rw[acD E,acD E,bA,bA,hc]at f;have b:out.getLast?≠some 0:=by
  have g1:=gZ m;have g2:=gZ n;rcases hi with hi|hi|hi;refine D1 a ?_
  grind
  refine D1 a ?_
  grind
  exact hi.2.1
 show fR out=_;rw[vf a b (n:=m+n) E];have o:=bt (bL m) i;have l:=bt (bL n) i;refine ck W W (uC _ _) W<|ck W W (uC _ _) W ?_;generalize e:(ah m).getD i 0=x at*;generalize d:(ah n).getD i 0=y at*;refine r1 W ?_ ?_;simp[aj,aag,abo,acC];omega;refine again (i+1,out++[(x+y+c)%1000000000],(x+y+c)/1000000000) ?_ ?_ ?_;dsimp only;omega;dsimp only;refine⟨jM a E,by simp[hl],E,E,?_,?_⟩;rw[fG,hl,aL,aL,e,d,aeJ]
 grind
 grind
 exact⟨G,G,G,G,G,U⟩
def dK(xs:L Int)(c:xs.length<2^60):ab 271 [fO xs] (fO<|dp xs):=by
 refine cp func271 W<|r0 W<|ba (λw:L Int=>[(0,fO w)]) (λw=>dp w=dp xs/\w.length<=xs.length) (λw=>w.length) xs ⟨W,aaU _⟩ ?_;rintro w⟨a,hl⟩;refine b6 W 6 W ?_ ?_<;>intro h;refine r1 W (by simp[aj,aag];omega) ?_;refine bY W ?_ ?_<;>intro b;refine r1 W (by simp[aj,aag];omega) ?_;have e:((w.drop 0).take<|(((w.length:Nat):Int)-1).toNat-0)=w.take (w.length-1):=by simp
 refine again (w.take<|w.length-1) ?_ ⟨?_,?_⟩ ⟨⟨W,aij (fO) e⟩,U⟩;simp;omega;rw[<-a];refine vV E ?_;simp_all;simp;omega;refine b7 W W ?_;rw[<-a];refine aij (fO) (oL ?_).symm;intro hl;have:((((w.length:Nat):Int)-1).toNat)=w.length-1:=E
 grind
 refine b7 W W ?_;have:w=[]:=ahh.1 E;subst this;rw[<-a];rfl
def nR(m n:Nat)(j:(ah m).length<2^60)(g:(ah n).length<2^60):ab 269 [fO<|ah m,fO<|ah n] (.i<|pD m n):=by
 refine cp func269 W<|cm W W ?_ ?_<;>intro h;refine cm W W ?_ ?_<;>intro d;refine b7 W W<|cn ?_;have:=cO (m:=m) (n:=n) E;simp[pD,this];refine b7 W W<|cn ?_;have:=cO (m:=n) (n:=m) E;simp[pD];omega;have hl:(ah m).length=(ah n).length:=E;refine r1 W (by simp[aj,aag];omega) ?_;refine loop (λi:Nat=>[(0,fO<|ah m),(1,fO<|ah n),(5,.i<|(i:Int)-1)]) (λi=>i<=(ah m).length/\(ah m).drop i=(ah n).drop i) (λi=>i) (ah m).length ⟨E,?_⟩
  ⟨G,G,G,U⟩ ?_
 simp_all;rintro i⟨hi,a⟩;refine cm W W ?_ ?_<;>intro d;obtain⟨k,rfl⟩:∃k,i=k+1:=⟨i-1,E⟩;have l:(((k+1:Nat):Int)-1)=(k:Int):=E;have f:(((k+1:Nat):Int)-1).toNat=k:=E;refine k1 W aP (by simp[aj,aag];omega) ?_;refine bY W ?_ ?_<;>intro c;rw[f]at c;refine b7 W W<|cn ?_;have:=nn E hl a c;simp[pD,this];refine k1 W aP (by simp[aj,aag];omega) ?_;refine bY W ?_ ?_<;>intro b;rw[f]at b;refine b7 W W<|cn ?_;have:=nn E hl.symm a.symm b;simp[pD];omega;rw[f]at c b;refine r1 W (by simp[aj,aag];omega) ?_;refine again k ?_ ⟨E,?_⟩ ⟨G,G,⟨W,aij SV.i E⟩,U⟩;omega;have e:(ah m).getD k 0=(ah n).getD k 0:=E;rw[acJ<|show k<(ah m).length from E,acJ<|show k<(ah n).length from E,a]
 grind
 have:i=0:=E;subst this;refine b7 W W<|cn ?_;have e:ah m=ah n:=by simpa using a
 have:m=n:=by have:=aaf val e;rw[bA,bA]at this;omega
 simp[pD,this]
def sT(m n:Nat)(p:(ah m).length<2^40)(hn:n<=m):aN Tryz.prog 310 [.ints .i64 false<|ah m,.ints .i64 false<|ah n] (.ints .i64 false<|ah<|m-n):=by
 have k:(ah n).length<=(ah m).length:=by
  rcases acX (ah m).length (ah n).length with h|h
  ·have:=cO h;omega
  exact h
 refine cp Tryz.func310 W<|r0 W<|pV (λ(i:Nat)(out:List Int)(c:Int)=>[(0,.ints .i64 false<|ah m),(1,.ints .i64 false<|ah n),(5,.ints .i64 true out),(6,.i c),(7,.i i)])
  (λi out c=>iR out/\out.length=i/\0<=c/\c<=1/\val out-c*1000000000^i=val ((ah m).take i)-val ((ah n).take i)/\i<=(ah m).length)
  (λi _ _=>(ah m).length-i) 0 [] 0 ⟨by simp[iR],W,E,E,by simp[val],E⟩ ⟨G,G,G,G,G,U⟩ ?_
 rintro i out c⟨b,hl,u,t,j,hi⟩;refine cm W W ?_ ?_<;>intro h
 ·have s:=bt (bL m) i;have r:=bt (bL n) i;refine r1 W (by simp[aj,aag];omega) ?_;refine bX W (uC _ _) W ?_;have q:(i:Int).toNat=i:=E;generalize d:(ah m).getD i 0=x at*;have a:(ah m).getD (i:Int).toNat 0=x:=d;generalize g:(ah n).getD i 0=y at*;refine k1 W aP (by simp only[aj,aag,a];omega) ?_;refine bY W ?_ ?_<;>intro f
  ·rw[a]at f;refine r1 W (by simp only[aj,aag,a,abo,acC];omega) ?_;refine again (i+1,out++[x-y-c+1000000000],1) ?_ ⟨jM b E,by simp[hl],by dsimp only;omega,by dsimp only;omega,?_,by dsimp only;omega⟩ ⟨G,G,⟨W,?_⟩,G,G,U⟩
   ·dsimp only;omega
   ·dsimp only;rw[fG,hl,aL,aL,d,g,aeJ]
    grind
   rw[<-a];rfl
  rw[a]at f;refine r1 W (by simp[aj,aag,a,abo,acC];omega) ?_;refine again (i+1,out++[x-y-c],0) ?_ ⟨jM b E,by simp[hl],by dsimp only;omega,by dsimp only;omega,?_,by dsimp only;omega⟩ ⟨G,G,⟨W,?_⟩,G,G,U⟩
  ·dsimp only;omega
  ·dsimp only;rw[fG,hl,aL,aL,d,g,aeJ]
   grind
  rw[<-a];rfl
 refine r0 W ?_;have l:i=(ah m).length:=E;rw[acD E,acD E,bA,bA]at j;have e:=iX b;rw[hl]at e;have o:=dW i;have hc:c=0:=by grind
 subst hc;refine bW W (dK _ E) W<|b7 W W<|aij (SV.ints .i64 false) ?_;rw[eM b]
 congr 1;omega
def uA(m d:Nat)(v:(ah m).length<2^40)(Ed:0<d)(V7:d<1000000000):aN Tryz.prog 270 [.ints .i64 false<|ah m,.i d] (.bU [.ints .i64 false<|ah<|m/d,.i ((m%d:Nat):Int)]):=by
 refine cp Tryz.func270 W<|r1 W (by simp[aj,aag];omega) ?_;refine pV (λ(i:Nat)(out:List Int)(c:Int)=>[(0,.ints .i64 false<|ah m),(1,.i d),(6,.ints .i64 true out),(7,.i c),(8,.i<|(i:Int)-1)])
  (λi out c=>iR out/\out.length=(ah m).length/\0<=c/\c<d/\val ((ah m).drop i)=val (out.drop i)*d+c/\i<=(ah m).length)
  (λi _ _=>i) (ah m).length (List.replicate (ah m).length 0) 0 ⟨gb _,I,E,E,?_,E⟩ ⟨G,G,G,G,G,U⟩ ?_
 ·rw[aeB<|aaU _,aeB I];simp[val]
 rintro i out c⟨e,hl,j,g,a,hi⟩;refine cm W W ?_ ?_<;>intro h
 ·obtain⟨k,rfl⟩:∃k,i=k+1:=⟨i-1,E⟩;have y:=bt (bL m) k;have f:(((k+1:Nat):Int)-1).toNat=k:=E;have ex:(ah m).getD (((k+1:Nat):Int)-1).toNat 0=(ah m).getD k 0:=by rw[f]
  generalize u:(ah m).getD k 0=x at*;have p:0<=(c*1000000000+x)/d:=agN E E;have o:(c*1000000000+x)/d<1000000000:=by refine Int.ediv_lt_of_lt_mul E ?_;omega
  have n:=age (c*1000000000+x) (show(d:Int)≠0 from E);have l:=agf (c*1000000000+x) (show(0:Int)<d from E);have t:=ahy (c*1000000000+x) d;refine r1 W (by simp only[aj,aag,ex,hl,f];omega) ?_;refine again (k,out.set k<|(c*1000000000+x)/d,(c*1000000000+x)%d) ?_ ⟨fF e ⟨p,o⟩,by simpa using hl,n,l,?_,by dsimp only;omega⟩
   ⟨G,G,⟨W,aij (SV.ints .i64 true)<|by rw[ex,f]⟩,⟨W,aij SV.i<|by rw[ex]⟩,⟨W,aij SV.i E⟩,U⟩
  ·omega
  dsimp only;have s:k<(ah m).length:=E;have b:(ah m)[k]=x:=fP;rw[acJ s,acJ<|show k<(out.set k<|(c*1000000000+x)/d).length by simp;omega,b];simp[List.getElem_set_self,val,List.drop_set_of_lt<|agS k,a]
  grind
 have:i=0:=E;subst this;simp[aeW,bA]at a;refine ck W W (dK _ E) W<|r0 W ?_;have r:val out=((m/d:Nat):Int):=by
  have w:=bE e;have:(m:Int)/d=val out:=by rw[a,Int.add_comm,Int.add_mul_ediv_right _ _ E,Int.ediv_eq_zero_of_lt j g];omega
  rw[<-this];simp
 have q:c=((m%d:Nat):Int):=by
  have:(m:Int)%d=c:=by rw[a,Int.add_comm,Int.add_mul_emod_self_right,Int.emod_eq_of_lt j g]
  rw[<-this];simp
 refine aH W ⟨aij (SV.ints .i64 false) ?_,aij SV.i q,U⟩;rw[eM e,r];rfl
def nK(m n:Nat)(O:(ah m).length<2^40)(N:(ah n).length<2^40):ab 201 [fO<|ah m,fO<|ah n] (fO<|ah<|m*n):=by
 refine cp func201 W<|r1 W (by simp only[aj,aag];omega) ?_;refine lp (λ(i:Nat)(out:L Int)=>[(0,fO<|ah m),(1,fO<|ah n),(5,fR out),(6,.i i)])
  (λi out=>iR out/\out.length=(ah m).length+(ah n).length/\val out=val ((ah m).take i)*n/\i<=(ah m).length/\∀k,i+(ah n).length<=k->out.getD k 0=0)
  (λi _=>(ah m).length-i) 0 (List.replicate ((ah m).length+(ah n).length) 0) ⟨gb _,I,by simp[val,jn],E,λk _=>iJ _ _⟩ ⟨G,G,⟨W,aij (fR)<|by congr 1⟩,G,U⟩ ?_
 rintro i out⟨t,hl,s,hi,z⟩;refine cm W W ?_ ?_<;>intro h;refine r0 W ?_;have T:=bt (bL m) i;generalize r:(ah m).getD i 0=x at*;refine pV (λ(k:Nat)(o:L Int)(c:Int)=>[(0,fO<|ah m),(1,fO<|ah n),(5,fR o),(6,.i i),(7,.i c),(8,.i k)])
  (λk o c=>iR o/\o.length=(ah m).length+(ah n).length/\0<=c/\c<1000000000/\val o+c*1000000000^(i+k)=val out+x*val ((ah n).take k)*1000000000^i/\k<=(ah n).length/\∀a,i+k<=a->o.getD a 0=out.getD a 0)
  (λk _ _=>(ah n).length-k) 0 out 0 ⟨t,hl,E,E,by simp[val],E,λ_ _=>rfl⟩ ⟨G,G,G,G,G,G,U⟩ ?_
 rintro k o c⟨l,d,J,H,C,P,u⟩;refine cm W W ?_ ?_<;>intro B;have S:=bt (bL n) k;have R:=bt l<|i+k;have F:(i:Int).toNat=i:=E;have D:(k:Int).toNat=k:=E;have p:((i:Int)+(k:Int)).toNat=i+k:=E;generalize q:(ah n).getD k 0=y at*;generalize b:o.getD (i+k) 0=w at*;have M:0<=x*y:=aeA E E;have K:x*y<=999999999*999999999:=ahz E E E E;refine k1 W aP (by simp only[aj,aag,F,D,p,r,q,b,d];omega) ?_;refine again (k+1,o.set (i+k)<|(w+x*y+c)%1000000000,(w+x*y+c)/1000000000) ?_ ⟨fF l E,by simpa using d,by dsimp only;omega,by dsimp only;omega,?_,by dsimp only;omega,?_⟩
  ⟨G,G,⟨W,aij (fR) fP⟩,G,⟨W,aij SV.i fP⟩,G,U⟩
 dsimp only;omega;dsimp only;have f:i+k<o.length:=E;rw[lK _ f,b,aL,q,show i+(k+1)=i+k+1 from E,aeJ,afT]
 grind
 dsimp only;intro a g;rw[dy,aaq E];exact u a E;have A:k=(ah n).length:=E;subst A;rw[acD<|aaU _,bA]at C;have b:o.getD (i+(ah n).length) 0=0:=by grind
 have v:((i:Int)+((ah n).length:Int)).toNat=i+(ah n).length:=E;have e:o.getD ((i:Int)+((ah n).length:Int)).toNat 0=0:=by rw[v];exact b
 refine r1 W (by simp only[aj,aag,e,d,v];omega) ?_;refine again (i+1,o.set (i+(ah n).length) c) ?_ ⟨fF l ⟨J,H⟩,by simpa using d,?_,by dsimp only;omega,?_⟩
  ⟨G,G,⟨W,aij (fR) fP⟩,G,U⟩
 dsimp only;omega;dsimp only;rw[lK _ E,b,aL,r]
 grind
 dsimp only;intro a g;rw[dy,aaq E,u a E];exact z a E;have j:i=(ah m).length:=E;subst j;rw[acD<|aaU _,bA]at s;refine ck W W (dK _ E) W<|b7 W W<|aij (fO) ?_;rw[eM t,s,<-af2];rfl
def Mj(u v:L Int)(j n:Nat)(hu:iR u)(A:iR v)(hn:v.length=n)(S:2<=n)(R:j+n<u.length)(H:u.length<2^60)(F:500000000<=v.getD (n-1) 0):
 ab 272 [fO u,fO v,.i j] (.i<|dA ((u.getD (j+n) 0*1000000000+u.getD (j+n-1) 0)/v.getD (n-1) 0).toNat ((u.getD (j+n) 0*1000000000+u.getD (j+n-1) 0)/v.getD (n-1) 0) ((u.getD (j+n) 0*1000000000+u.getD (j+n-1) 0)%v.getD (n-1) 0) (v.getD (n-1) 0) (v.getD (n-2) 0)<|u.getD (j+n-2) 0):=by
 have a1:=bt hu<|j+n;have a2:=bt hu<|j+n-1;have a3:=bt hu<|j+n-2;have Z:=bt A<|n-1;have Y:=bt A<|n-2;have D:((j:Int)+(n:Int)).toNat=j+n:=E;have C:((j:Int)+(n:Int)-1).toNat=j+n-1:=E;have x:((j:Int)+(n:Int)-2).toNat=j+n-2:=E;have q:((n:Int)-1).toNat=n-1:=E;have w:((n:Int)-2).toNat=n-2:=E;subst hn;generalize z:u.getD (j+v.length) 0=g at*;generalize y:u.getD (j+v.length-1) 0=f at*;generalize o:u.getD (j+v.length-2) 0=s at*;generalize d:v.getD (v.length-1) 0=c at*;generalize m:v.getD (v.length-2) 0=p at*;refine cp func272 W ?_;have M:0<=(g*1000000000+f)/c:=agN E E;have K:(g*1000000000+f)/c<=2000000000:=by have:=Int.ediv_lt_of_lt_mul (show 0<c from E) (a:=g*1000000000+f) (b:=2000000001) E;omega
 have J:=age (g*1000000000+f) (show c≠0 from E);have c3:=agf (g*1000000000+f) (show 0<c from E);refine k1 W aP (by simp only[aj,aag,D,C,q,z,y,d];omega) ?_;refine lp (λ(t r:Int)=>[(0,fO u),(1,fO v),(2,.i j),(7,.i v.length),(9,.i t),(10,.i r)])
  (λt r=>0<=t/\t<=2000000000/\0<=r/\r<1000000000/\dA t.toNat t r c p s=dA ((g*1000000000+f)/c).toNat ((g*1000000000+f)/c) ((g*1000000000+f)%c) c p s) (λt _=>t.toNat) _ _ ⟨M,K,J,E,W⟩
  ⟨G,G,G,G,⟨W,aij SV.i fP⟩,⟨W,aij SV.i fP⟩,U⟩ ?_
 rintro t r⟨d0,X,V,T,l⟩;refine Ke<|acd [(0,fO u),(1,fO v),(2,.i j),(7,.i v.length),(9,.i t),(10,.i r)] (1000000000<=t\/r*1000000000+s<t*p) ?_ λhc=>?_;refine b6 W 44 W ?_ ?_<;>intro h;refine k0 W aP<|bm<|.inl h;have N:t*p<=999999999*999999999:=ahz E E E E;have O:0<=t*p:=aeA E E;refine k1 W aP (by simp only[aj,aag,x,w,o,m];omega) ?_;refine bY W ?_ ?_<;>intro e;simp only[x,w,o,m]at e;refine r0 W<|bm<|.inr e;simp only[x,w,o,m]at e;refine b7 W W<|cn ?_;rw[<-l];cases B:t.toNat with
 |zero=>rfl
 |succ k=>simp only[dA];rw[aaq E]
 ·have P:0<t:=by
   grind
  obtain⟨k,B⟩:∃k,t.toNat=k+1:=⟨t.toNat-1,E⟩;rw[B]at l;simp only[dA]at l;rw[aas hc]at l;refine r1 W (by simp only[aj,aag,q,d];omega) ?_;refine bY W ?_ ?_<;>intro e;simp only[q,d]at e;rw[aas e]at l;refine b7 W W<|aij SV.i l;simp only[q,d]at e;rw[aaq e]at l;refine r0 W<|again (t-1,r+c) ?_ ⟨by dsimp only;omega,by dsimp only;omega,by dsimp only;omega,by dsimp only;omega,?_⟩ ⟨G,G,G,G,G,⟨W,aij SV.i<|by simp only[q,d]⟩,U⟩;dsimp only;omega;simp_all
def Tl{U V:Int}{n:Nat}(b:U<1000000000*V)(a:V<1000000000^n):U<1000000000^(n+1):=by omega
theorem nN(m n:Nat)(h1:(ah m).length<2^36)(h2:(ah n).length<2^36)(hn0:n≠0):ab 199 [fO<|ah m,fO<|ah n] (.bU [fO<|ah<|m/n,fO<|ah<|m%n]):=by
 refine cp func199 W<|ck W W (nR m n E E) W<|cm W W ?_ ?_<;>intro h;have hlt:m<n:=by unfold pD at h;omega
 refine b7 W W ⟨?_,aij (fO) ?_,U⟩;show ah (m/n)=[];rw[ae5 hlt,c6];rw[afz hlt];have hge:n<=m:=by unfold pD at h;omega
 have hnp:=gF hn0;have hlb:(ah n).length<=(ah m).length:=by rcases acX (ah m).length (ah n).length with h'|h';have:=cO h';omega;exact h'
 refine cm W W ?_ ?_<;>intro h3;have hs:ah n=[(n:Int)]/\n<1000000000:=by
  have e:=bA n;have hl:(ah n).length=1:=E;obtain⟨d,hd⟩:=List.length_eq_one_iff.1 hl;have:=bL n d (by rw[hd];simp);rw[hd]at e;simp only[val]at e
  grind
 have hg:(ah n).getD (0:Int).toNat 0=(n:Int):=by rw[hs.1];rfl
 refine r1 W (by simp only[aj,aag];omega) ?_;refine bW W (by rw[hg];exact uA m n E E hs.2) W ?_;refine ck W W (dK _ I) W<|b7 W W ⟨aw.refl _,aij (fO) ?_,U⟩;have hlt:m%n<n:=acN _ E;rw[eM λd hd=>by simp at hd;omega];rfl;have hl2:2<=(ah n).length:=E;have et:(((ah n).length:Int)-1).toNat=(ah n).length-1:=E;have hbt:=bt (bL n)<|(ah n).length-1;refine r1 W (by simp only[aj,aag,et];omega) ?_;rw[et];have hF0:0<=1000000000/((ah n).getD ((ah n).length-1) 0+1):=agN E E;obtain⟨Fn,hFn⟩:=Int.eq_ofNat_of_zero_le hF0;obtain⟨f1,f2,f3,f4⟩:=SB hl2 hFn.symm;have hFd:=nw (f:=Fn) E E;have hFl:(ah Fn).length<2^40:=by rw[hFd];simp
 rw[hFn];refine bW W (by rw[<-hFd];exact nK n Fn E hFl) W ?_;refine ck W W (by rw[<-hFd];exact nK m Fn E hFl) W ?_;have hla:(ah<|m*Fn).length<=(ah m).length+1:=by
  have g1:=cu m;rcases gZ (m*Fn)with g2|g2;rw[g2];simp;rcases acX ((ah m).length+1) (ah<|m*Fn).length with h'|h';have:=jc (show(ah m).length+1<=(ah<|m*Fn).length-1 from E);rw[aeJ]at this;have e:((m*Fn:Nat):Int)<=m*500000000:=by rw[af2];exact aez E E
  omega;exact h'
 refine r1 W (by simp only[aj,aag,len,f3];omega) ?_;have hvl:=f3;generalize hV:ah (n*Fn)=v at*;have dv:iR v:=hV▸bL _;have vv:val v=((n*Fn:Nat):Int):=by rw[<-hV,bA]
 have hvpos:0<val v:=by rw[vv];have:0<n*Fn:=ahg E E;omega
 have hvlt:val v<1000000000^(ah n).length:=by have:=iX dv;rwa[hvl]at this
 generalize hnb:(ah n).length=nb at*;generalize hlm:(ah m).length=la at*;refine loop (λw:List Int=>[(0,fO<|ah m),(8,fO [(Fn:Int)]),(9,fO v),(10,.i nb),(11,fR w)]) (λw=>iR w/\val w=((m*Fn:Nat):Int)/\w.length<=la+1) (λw=>la+1-w.length) (ah<|m*Fn)
  ⟨bL _,bA _,hla⟩ ⟨G,G,G,⟨W,aij SV.i<|by rw[hvl]⟩,G,U⟩ ?_
 rintro w⟨wd,wv,wl⟩;refine r1 W (by simp only[aj,aag];omega) ?_;refine bY W ?_ ?_<;>intro h4;rw[hlm]at h4;refine r1 W (by simp only[aj,aag,abo,acC];omega) ?_;refine again (w++[0]) ?_ ⟨jM wd E,by rw[fG,wv];simp,by simp;omega⟩ ⟨G,G,G,G,G,U⟩;simp;omega;rw[hlm]at h4;have hwl:w.length=la+1:=E;have el1:((w.length:Int)-(nb:Int)).toNat=la+1-nb:=E;have el2:((w.length:Int)-(nb:Int)-1)=((la+1-nb:Nat):Int)-1:=E;refine r1 W (by simp only[aj,aag,hwl];omega) ?_;refine pV (λ(i:Nat)(u q:List Int)=>[(8,fO [(Fn:Int)]),(9,fO v),(10,.i nb),(11,fR u),(12,fR q),(13,.i<|(i:Int)-1)])
  (λi u q=>iR u/\u.length=la+1/\iR q/\q.length=la+1-nb/\i<=la+1-nb/\val (u.drop i)<val v/\((m*Fn:Nat):Int)=val u+val v*val (q.drop i)*1000000000^i)
  (λi _ _=>i) (la+1-nb) w (List.replicate (la+1-nb) 0) ⟨wd,hwl,gb _,I,aaU _,?_,?_⟩
  ⟨G,G,G,G,⟨W,aij (fR)<|by rw[el1]⟩,⟨W,aij SV.i el2⟩,U⟩ ?_
 have e:=iA w<|la+1-nb;have l:(w.take<|la+1-nb).length=la+1-nb:=by simp;omega
 rw[l,wv]at e;have e0:=bE<|ia wd<|la+1-nb;have g1:=cu m;rw[hlm]at g1;have g2:(1000000000:Int)^(nb-1)<=n:=by rcases gZ n with g|g;simp_all;simp_all
 have p1:=dW<|la+1-nb;have e2:(1000000000:Int)^la=1000000000^(la+1-nb)*1000000000^(nb-1):=by rw[<-afT];congr 1;omega
 have e3:((m*Fn:Nat):Int)<1000000000^(la+1-nb)*val v:=by
  rw[vv,af2,af2];have a1:(m:Int)*Fn<1000000000^la*Fn:=Int.mul_lt_mul_of_pos_right g1 E;have a2:(1000000000:Int)^la*Fn<=1000000000^(la+1-nb)*(n*Fn):=by rw[e2,Int.mul_assoc];exact aez (iu g2 E) E
  omega
 have:1000000000^(la+1-nb)*val (w.drop<|la+1-nb)<1000000000^(la+1-nb)*val v:=E;simp_all;rw[wv,aeB I];simp[val];rintro i u q⟨ud,ul,qd,ql,hi,hlt,heq⟩;rcases i with _|j;refine cm W W (λh5=>aaF h5 E) λ_=>?_;have enb:(nb:Int).toNat=nb:=E;simp only[aeW,Int.pow_zero,Int.mul_one]at hlt heq;have hu0:=bE ud;have hq0:=bE qd;have hq:val q=((m/n:Nat):Int):=by
  have e1:(m*Fn)/(n*Fn)=m/n:=ahA _ _ E;have e2:((m*Fn:Nat):Int)/((n*Fn:Nat):Int)=val q:=by rw[heq,<-vv,Int.add_mul_ediv_left _ _ E,Int.ediv_eq_zero_of_lt hu0 hlt];omega
  omega
 have hr:val u=(((m%n)*Fn:Nat):Int):=by
  have e1:(m*Fn)%(n*Fn)=(m%n)*Fn:=ahB _ _ _;have e2:((m*Fn:Nat):Int)%((n*Fn:Nat):Int)=val u:=by rw[heq,<-vv,Int.add_mul_emod_self_left,Int.emod_eq_of_lt hu0 hlt]
  omega
 have hut:val (u.take nb)=(((m%n)*Fn:Nat):Int):=by
  have e:=iA u nb;have l:(u.take nb).length=nb:=by simp;omega
  rw[l]at e;have a1:=bE<|ia ud nb;have a2:=bE<|pB ud nb;have a3:1000000000^nb*val (u.drop nb)<1000000000^nb*1:=E;have a4:=Int.lt_of_mul_lt_mul_left a3<|adY<|dW nb
  grind
 refine r1 W (by simp only[aj,aag,enb,ul];omega) ?_;refine bX W (dK _<|by simp;omega) W ?_;have etr:dp (((u.drop 0).take<|(nb:Int).toNat-0))=ah ((m%n)*Fn):=by rw[aeW,enb,agT,eM<|ia ud _,hut];rfl
 rw[etr];refine r1 W (by simp only[aj,aag,abo,acC];omega) ?_;have hlr:(ah<|(m%n)*Fn).length<2^40:=by
  rw[<-etr];have a1:=xg<|((u.drop 0).take<|(nb:Int).toNat-0)
  grind
 refine bX W (uA ((m%n)*Fn) Fn hlr E E) W<|k0 W aP<|bW W (dK _ E) W<|b7 W W ⟨aij (fO) ?_,aij (fO) ?_,U⟩;rw[eM qd,hq];rfl;rw[ahC _ E];have hjl:j+nb<la+1:=E;have ej:(((j+1:Nat):Int)-1)=(j:Int):=E;have hu:=ib (w:=u) (j:=j) E;have huj:=bt ud j;have hUV:val (u.drop j)<1000000000*val v:=E;have hU0:=bE<|pB ud j;have hhi:val (u.drop<|j+nb+1)=0:=by have e:=rK (w:=u) (j:=j) (n:=nb) E;have lo:=rL (w:=u) (j:=j) (n:=nb) E λk _ _=>bt ud k;have d1:=bt ud<|j+nb;have d2:=bE<|pB ud<|j+nb+1;have d3:=Tl hUV hvlt;have d4:=aeA d1.1<|adY<|dW nb;have d5:1000000000^(nb+1)*val (u.drop<|j+nb+1)<1000000000^(nb+1)*1:=E;have:=Int.lt_of_mul_lt_mul_left d5<|adY<|dW _;omega
 have hguess:=Mj u v j nb ud dv hvl hl2 E E f4;have hT:val (u.drop j)<((dA ((u.getD (j+nb) 0*1000000000+u.getD (j+nb-1) 0)/v.getD (nb-1) 0).toNat ((u.getD (j+nb) 0*1000000000+u.getD (j+nb-1) 0)/v.getD (nb-1) 0) ((u.getD (j+nb) 0*1000000000+u.getD (j+nb-1) 0)%v.getD (nb-1) 0) (v.getD (nb-1) 0) (v.getD (nb-2) 0)<|u.getD (j+nb-2) 0)+1)*val v/\
  ((dA ((u.getD (j+nb) 0*1000000000+u.getD (j+nb-1) 0)/v.getD (nb-1) 0).toNat ((u.getD (j+nb) 0*1000000000+u.getD (j+nb-1) 0)/v.getD (nb-1) 0) ((u.getD (j+nb) 0*1000000000+u.getD (j+nb-1) 0)%v.getD (nb-1) 0) (v.getD (nb-1) 0) (v.getD (nb-2) 0)<|u.getD (j+nb-2) 0)-1)*val v<=val (u.drop j)/\
  0<=dA ((u.getD (j+nb) 0*1000000000+u.getD (j+nb-1) 0)/v.getD (nb-1) 0).toNat ((u.getD (j+nb) 0*1000000000+u.getD (j+nb-1) 0)/v.getD (nb-1) 0) ((u.getD (j+nb) 0*1000000000+u.getD (j+nb-1) 0)%v.getD (nb-1) 0) (v.getD (nb-1) 0) (v.getD (nb-2) 0) (u.getD (j+nb-2) 0):=by
  obtain⟨c,rfl⟩:∃c,nb=c+2:=⟨nb-2,E⟩;have tv:=rK (w:=v) (j:=0) (n:=c) E;have tv1:=ib (w:=v) (j:=0+c+1) E;have tv2:v.drop (0+c+1+1)=[]:=aeB E;have U:=rL (w:=v) (j:=0) (n:=c) E λk _ _=>bt dv k;have tu:=rK (w:=u) (j:=j) (n:=c) E;have tu1:=ib (w:=u) (j:=j+c+1) E;have tu2:=ib (w:=u) (j:=j+c+1+1) E;have tul:=rL (w:=u) (j:=j) (n:=c) E λk _ _=>bt ud k;rw[tv2]at tv1;simp only[val,af0,aeW]at tv tv1 U;rw[tv1]at tv;have hh:val (u.drop<|j+c+1+1+1)=0:=hhi;rw[hh]at tu2;rw[tu2]at tu1;rw[tu1]at tu;have g0:=bt dv c;have g1:=bt dv<|c+1;have g2:=bt ud<|j+c;have g3:=bt ud<|j+c+1;have g4:=bt ud<|j+c+1+1;have x1:c+2-1=c+1:=E;have x2:c+2-2=c:=E;have x3:j+(c+2)=j+c+1+1:=E;have x4:j+(c+2)-1=j+c+1:=E;have x5:j+(c+2)-2=j+c:=E;rw[x1]at f4;rw[x1,x2,x4,x5,x3];generalize v.getD (c+1) 0=v1 at*;generalize v.getD c 0=v2 at*;generalize u.getD (j+c) 0=u3 at*;generalize u.getD (j+c+1) 0=u2 at*;generalize u.getD (j+c+1+1) 0=u1 at*;rw[aeJ]at tv tu;have hP:=dW c;have q0:0<=(u1*1000000000+u2)/v1:=agN E E;have q1:=age (u1*1000000000+u2) (show v1≠0 from E);have q2:=agf (u1*1000000000+u2) (show 0<v1 from E);have q3:=ahy (u1*1000000000+u2) v1;generalize (1000000000:Int)^c=P at*;have hV':val v=v1*(1000000000*P)+v2*P+val (v.take c):=by rw[tv];grind
  have hU':val (u.drop j)=(u1*1000000000+u2)*(1000000000*P)+u3*P+val ((u.drop j).take c):=by rw[tu];grind
  have:=uo hP E g0 g2 U tul hV' hU' hUV ((u1*1000000000+u2)/v1).toNat ((u1*1000000000+u2)/v1) ((u1*1000000000+u2)%v1) W q0 q1 (by grind) ?_;omega;have a1:(u1*1000000000+u2)+1<=((u1*1000000000+u2)/v1+1)*v1:=by grind
  have a2:=iu a1 (show 0<=1000000000*P from E);have a3:u3*P+val ((u.drop j).take c)<1000000000*P:=by
   have:=iu (show u3+1<=1000000000 from E) (show 0<=P from E)
   grind
  have a4:0<=v2*P:=aeA g0.1 E;have a5:((u1*1000000000+u2)/v1+1)*(v1*(1000000000*P))<=((u1*1000000000+u2)/v1+1)*val v:=aez E E
  grind
 generalize hTd:dA ((u.getD (j+nb) 0*1000000000+u.getD (j+nb-1) 0)/v.getD (nb-1) 0).toNat ((u.getD (j+nb) 0*1000000000+u.getD (j+nb-1) 0)/v.getD (nb-1) 0) ((u.getD (j+nb) 0*1000000000+u.getD (j+nb-1) 0)%v.getD (nb-1) 0) (v.getD (nb-1) 0) (v.getD (nb-2) 0) (u.getD (j+nb-2) 0)=T at*;obtain⟨hT1,hT2,hT0⟩:=hT;have hTB:T<=1000000000:=by have:(T-1)*val v<1000000000*val v:=E;have:=agQ this E;omega
 refine adP [(8,fO [(Fn:Int)]),(9,fO v),(10,.i nb),(11,fR u),(12,fR q),(13,.i j)] ⟨G,G,G,G,G,⟨W,aij SV.i ej⟩,U⟩<|cm W W (λ_=>?_) λh5=>aaF (show(0:Int)<=j from E) h5;refine ck W W hguess W<|r0 W ?_;have ejk:∀k:Nat,((k:Int)+(j:Int)).toNat=j+k:=λk=>E;have ejn:((j:Int)+(nb:Int)).toNat=j+nb:=E;refine pV (λ(k:Nat)(w:List Int)(c:Int)=>[(8,fO [(Fn:Int)]),(9,fO v),(10,.i nb),(11,fR w),(12,fR q),(13,.i j),(14,.i T),(15,.i c),(16,.i k)])
  (λk w c=>iR w/\w.length=la+1/\0<=c/\c<=T+1/\val (w.drop j)=val (u.drop j)-T*val (v.take k)+c*1000000000^k/\w.take j=u.take j/\k<=nb/\∀k',j+k<=k'->w.getD k' 0=u.getD k' 0)
  (λk _ _=>nb-k) 0 u 0 ⟨ud,ul,E,E,by simp[val],W,E,λ_ _=>rfl⟩ ⟨G,G,G,G,G,G,G,G,G,U⟩ ?_
 rintro k w c⟨wd',wl',c0,c1,hv',ht',hk',hsame⟩;refine cm W W ?_ ?_<;>intro h5;have ek:(k:Int).toNat=k:=E;have g1:=bt dv k;have g2:=bt wd'<|j+k;generalize hx:v.getD k 0=x at*;generalize hy:w.getD (j+k) 0=y at*;have p0:0<=T*x:=aeA hT0 g1.1;have p1:T*x<=T*999999999:=aez E hT0;have q4:=ahy (T*x+c) 1000000000;have q5:=age (T*x+c) (show(1000000000:Int)≠0 from fV);have q6:=agf (T*x+c) (show(0:Int)<1000000000 from fV);refine r1 W (by simp only[aj,aag,ek,ejk,hx,hy,wl',hvl];omega) ?_;have step:∀(z c':Int),z=y-(T*x+c)%1000000000+(c'-(T*x+c)/1000000000)*1000000000->val ((w.set (j+k) z).drop j)=val (u.drop j)-T*val (v.take<|k+1)+c'*1000000000^(k+1):=by
  intro z c' hz;rw[nT E E,hy,hv',aL,hx,aeJ,show j+k-j=k from E]
  grind
 refine bY W ?_ ?_<;>intro h6;simp only[ek,ejk,hx,hy]at h6;refine r1 W (by simp only[aj,aag,ek,ejk,hx,hy,wl',hvl];omega) ?_;refine again (k+1,w.set (j+k)<|y-(T*x+c)%1000000000+1000000000,(T*x+c)/1000000000+1) ?_
  ⟨fF wd' E,by simpa using wl',by dsimp only;omega,by dsimp only;omega,step _ ((T*x+c)/1000000000+1) E,by dsimp only;rw[fB E];exact ht',by dsimp only;omega,λk' hk'=>by dsimp only at hk'⊢;rw[dy,aaq E];grind⟩
  ⟨G,G,G,⟨W,aij (fR) fP⟩,G,G,G,⟨W,aij SV.i<|by simp only[ek,hx]⟩,G,U⟩
 dsimp only;omega;simp only[ek,ejk,hx,hy]at h6;refine r1 W (by simp only[aj,aag,ek,ejk,hx,hy,wl',hvl];omega) ?_;refine again (k+1,w.set (j+k)<|y-(T*x+c)%1000000000,(T*x+c)/1000000000) ?_
  ⟨fF wd' E,by simpa using wl',by dsimp only;omega,by dsimp only;omega,step _ ((T*x+c)/1000000000) E,by dsimp only;rw[fB E];exact ht',by dsimp only;omega,λk' hk'=>by dsimp only at hk'⊢;rw[dy,aaq E];grind⟩
  ⟨G,G,G,⟨W,aij (fR) fP⟩,G,G,G,⟨W,aij SV.i<|by simp only[ek,hx]⟩,G,U⟩
 dsimp only;omega;have hk:k=nb:=E;subst hk;rw[acD E]at hv';have g2:=bt ud<|j+k;have hy0:=hsame (j+k) E;generalize hy:u.getD (j+k) 0=y at*;have hset:(w.set (j+k)<|y-c).getD (j+k) 0=y-c:=fP;refine r1 W (by simp only[aj,aag,ejn,hy0,hset,wl',afL];omega) ?_;simp only[ejn,hy0];have hv1:val ((w.set (j+k)<|y-c).drop j)=val (u.drop j)-T*val v:=by
  rw[nT E E,hy0,hv',show j+k-j=k from E]
  grind
 have hhi1:val ((w.set (j+k)<|y-c).drop<|j+k+1)=0:=by
  rw[<-hhi]
  congr 1
  refine A3 (by simp;omega) λk' hk'=>?_;rw[dy,aaq E];grind
 have hlow1:=rL (w:=w.set (j+k)<|y-c) (j:=j) (n:=k) (by simp;omega) (λk' _ _=>by rw[dy,aaq E];exact bt wd' k');have htop1:=rK (w:=w.set (j+k)<|y-c) (j:=j) (n:=k) (by simp;omega);rw[hset,hhi1]at htop1;have hpk:=dW k;refine afk (λ(T':Int)(w':List Int)=>[(8,fO [(Fn:Int)]),(9,fO v),(10,.i k),(11,fR w'),(12,fR q),(13,.i j),(14,.i T')])
  (λT' w'=>iR w'/\w'.length=la+1/\w'.take j=u.take j/\val (w'.drop j)=val (u.drop j)-T'*val v/\0<=T'/\val (w'.drop j)<val v) ?_ ?_
 refine bY W ?_ ?_<;>intro h6;simp only[hset]at h6;have hneg:val (u.drop j)-T*val v<0:=by have:(y-c)*1000000000^k<=(-1)*1000000000^k:=iu E E;omega
 have hT1':1<=T:=by grind
 refine r1 W (by simp only[aj,aag];omega) ?_;refine pV (λ(i:Nat)(z:List Int)(b:Int)=>[(8,fO [(Fn:Int)]),(9,fO v),(10,.i k),(11,fR z),(12,fR q),(13,.i j),(14,.i<|T-1),(19,.i b),(20,.i i)])
  (λi z b=>(∀p,p≠j+k->0<=z.getD p 0/\z.getD p 0<1000000000)/\z.length=la+1/\0<=b/\b<=1/\val (z.drop j)+b*1000000000^i=val (u.drop j)-T*val v+val (v.take i)/\z.take j=u.take j/\i<=k/\z.getD (j+k) 0=y-c/\∀p,j+k<p->z.getD p 0=u.getD p 0)
  (λi _ _=>k-i) 0 (w.set (j+k)<|y-c) 0
  ⟨λp hp=>by rw[dy,aaq E];exact bt wd' p,by simpa using wl',E,E,by simp[val,hv1],by rw[fB E];exact ht',E,hset,λp hp=>by rw[dy,aaq E];grind⟩
  ⟨G,G,G,G,G,G,G,G,G,U⟩ ?_
 rintro i z b⟨zd,zl,b0,b1,zv,zt,zi,zy,zs⟩;refine cm W W ?_ ?_<;>intro h7;have ei:(i:Int).toNat=i:=E;have g3:=bt dv i;have g4:=zd (j+i) E;generalize hx:v.getD i 0=x at*;generalize hz:z.getD (j+i) 0=z0 at*;refine k1 W aP (by simp only[aj,aag,ei,ejk,hx,hz,zl,hvl];omega) ?_;refine again (i+1,z.set (j+i)<|(z0+x+b)%1000000000,(z0+x+b)/1000000000) ?_
  ⟨λp hp=>?_,by simpa using zl,by dsimp only;omega,by dsimp only;omega,?_,by dsimp only;rw[fB E];exact zt,by dsimp only;omega,by dsimp only;rw[dy,aaq E];exact zy,λp hp=>by dsimp only;rw[dy,aaq E];exact zs p hp⟩
  ⟨G,G,G,⟨W,aij (fR) fP⟩,G,G,G,⟨W,aij SV.i fP⟩,G,U⟩
 dsimp only;omega;dsimp only;rw[dy];split;omega;exact zd p hp;dsimp only;rw[nT E E,hz,aL,hx,aeJ,show j+i-j=i from E]
 grind
 have hik:i=k:=E;subst hik;rw[acD E]at zv;refine r1 W (by simp only[aj,aag,ejn,zy,zl];omega) ?_;have hz2:val ((z.set (j+i)<|y-c+b).drop j)=val (u.drop j)-(T-1)*val v:=by
  rw[nT E E,zy,show j+i-j=i from E,agR]
  grind
 have hset2:(z.set (j+i)<|y-c+b).getD (j+i) 0=y-c+b:=fP;have hhi2:val ((z.set (j+i)<|y-c+b).drop<|j+i+1)=0:=by
  rw[<-hhi]
  congr 1
  refine A3 (by simp;omega) λk' hk'=>?_;rw[dy,aaq E];exact zs k' E
 have hlow2:=rL (w:=z.set (j+i)<|y-c+b) (j:=j) (n:=i) (by simp;omega) (λk' _ _=>by rw[dy,aaq E];exact zd k' E);have htop2:=rK (w:=z.set (j+i)<|y-c+b) (j:=j) (n:=i) (by simp;omega);rw[hset2,hhi2]at htop2;have hR1:val (u.drop j)-(T-1)*val v<val v:=by rw[agR];omega
 have hyc:y-c+b=0:=by rcases agw (y-c+b) 0 with h|h;have:(y-c+b)*1000000000^i<=(-1)*1000000000^i:=iu E E;omega;omega
 refine meet (T-1,z.set (j+i)<|y-c+b) ⟨MZ λp hp=>?_,by simpa using zl,by dsimp only;rw[fB E];exact zt,hz2,by dsimp only;omega,by dsimp only;omega⟩
  ⟨G,G,G,⟨W,aij (fR)<|by simp only[ejn,zy]⟩,G,G,G,U⟩
 dsimp only;rw[dy];split;omega
 grind
 simp only[hset]at h6;refine r0 W ?_;have hnn:0<=val (u.drop j)-T*val v:=by have:0<=(y-c)*1000000000^k:=aeA E E;omega
 refine fL (T,w.set (j+k)<|y-c) ⟨fF wd' E,by simpa using wl',by dsimp only;rw[fB E];exact ht',hv1,hT0,?_⟩
 grind
 rintro T' w'⟨wd2,wl2,wt2,wv2,wT0,wlt2⟩;have wn:=bE<|pB wd2 j;have wTB:T'<1000000000:=by have:T'*val v<1000000000*val v:=E;simp_all
 refine r1 W (by simp only[aj,aag,ql];omega) ?_;have ej2:(j:Int).toNat=j:=E;refine again (j,w',q.set j T') (agS _) ⟨wd2,wl2,fF qd ⟨wT0,wTB⟩,by simpa using ql,by dsimp only;omega,wlt2,?_⟩
  ⟨G,G,G,G,⟨W,aij (fR)<|by rw[ej2]⟩,G,U⟩
 dsimp only;have e1:=iA u j;have e2:=iA w' j;have l1:(u.take j).length=j:=by simp;omega
 have l2:(w'.take j).length=j:=by simp;omega
 rw[l1]at e1;rw[l2,wt2,wv2]at e2;rw[heq,e1,e2];have e3:val ((q.set j T').drop j)=T'+1000000000*val (q.drop<|j+1):=by rw[ib<|by simp;omega,dy,aas ⟨W,E⟩,List.drop_set_of_lt<|agS j]
 grind
def kO(z:Int):SV:=.agg [.u<|decide (z<0),fO<|ah z.natAbs]
def Cz(b:Bool)(x:Int):Int:=if b then -x else x
def Ko(z:Int):Prop:=(ah z.natAbs).length<2^34
def oo(n:Nat):0<(ah n).length↔n≠0:=by constructor;rintro h rfl;simp[c6]at h;exact gF
def xt(b:Bool)(xs:L Int)(c:iR xs)(hl:xs.length<2^60):ab 200 [.u b,fO xs] (kO<|Cz b<|val xs):=by
 have d:=bE c;have hn:(Cz b<|val xs).natAbs=(val xs).toNat:=by unfold Cz;split<;>omega
 have a:=eM c;refine cp func200 W<|ck W W (dK _ E) W<|r0 W<|iC 8 W ?_ ?_<;>intro h;refine b7 W W ⟨?_,aij (fO)<|by rw[a,hn],U⟩;show decide _=decide _;rw[a];have:=oo (val xs).toNat;simp[Cz,h,decide_eq_decide];omega;refine b7 W W ⟨?_,aij (fO)<|by rw[a,hn],U⟩;show false=decide _;simp only[Cz,h,agq,if_false];symm;simp_all
def fZ(b:Bool)(n:Nat)(hl:(ah n).length<2^60):ab 200 [.u b,fO<|ah n] (kO<|Cz b n):=by have:=xt b (ah n) (bL n) hl;rwa[bA]at this
def Bt(z:Int)(h:Ko z):ab 198 [kO z] (kO<|-z):=by
 unfold Ko at h;refine cp func198 W<|ck W W (fZ _ _ E) W<|b7 W W<|aij kO ?_;unfold Cz
 grind
def pf{m n K:Nat}(b:(ah m).length<=K)(a:(ah n).length<=K):(ah<|m+n).length<=K+1:=by rcases gZ (m+n)with g|g;rw[g];simp;have g1:=cu m;have g2:=cu n;have e:=jc b;have d:=jc a;rcases acX (K+1) (ah<|m+n).length with h|h;have c:=jc (show K+1<=(ah<|m+n).length-1 from E);omega;omega
def Ow(x y:Int)(f:Ko x)(e:Ko y):ab 239 [kO x,kO y] (kO<|x+y):=by
 unfold Ko at f e;have c:∀m n:Nat,(ah m).length<2^34->(ah n).length<2^34->(ah<|m+n).length<2^60:=by intro m n j i;have:=pf (K:=max (ah m).length (ah n).length) (agU _ _)<|agV _ _;omega
 refine cp func239 W<|cm W W ?_ ?_<;>intro h;refine cj W W (Cu _ _ E E) W<|bX W (fZ _ _<|c _ _ f e) W<|k0 W aP<|aH W<|aij kO ?_;unfold Cz
 grind
 refine ck W W (nR _ _ E E) W<|cm W W ?_ ?_<;>intro d;have b:y.natAbs<=x.natAbs:=by unfold pD at d;split at d<;>omega
 refine cj W W (sT _ _ E b) W<|r0 W ?_;have a:(ah<|x.natAbs-y.natAbs).length<2^60:=by rcases acX (ah x.natAbs).length (ah<|x.natAbs-y.natAbs).length with g|g;have:=cO g;omega;omega
 refine bX W (fZ _ _ a) W<|k0 W aP<|aH W<|aij kO ?_;unfold Cz
 grind
 have b:x.natAbs<=y.natAbs:=by unfold pD at d;omega
 refine cj W W (sT _ _ E b) W<|r0 W ?_;have a:(ah<|y.natAbs-x.natAbs).length<2^60:=by rcases acX (ah y.natAbs).length (ah<|y.natAbs-x.natAbs).length with g|g;have:=cO g;omega;omega
 refine bX W (fZ _ _ a) W<|k0 W aP<|aH W<|aij kO ?_;unfold Cz
 grind
def eC(m n:Nat):(ah<|m*n).length<=(ah m).length+(ah n).length:=by rcases gZ (m*n)with g|g;rw[g];simp;have g1:=cu m;have g2:=cu n;rcases acX ((ah m).length+(ah n).length) (ah<|m*n).length with h|h;have a:=jc (show(ah m).length+(ah n).length<=(ah<|m*n).length-1 from E);rw[afT]at a;have c:(m:Int)*n<=1000000000^(ah m).length*n:=iu E E;have b:(1000000000:Int)^(ah m).length*n<1000000000^(ah m).length*1000000000^(ah n).length:=Int.mul_lt_mul_of_pos_left g2<|dW _;omega;exact h
def mX(x y:Int)(b:Ko x)(a:Ko y):ab 101 [kO x,kO y] (kO<|x*y):=by
 unfold Ko at b a;refine cp func101 W<|cj W W (nK _ _ E E) W ?_;have hl:=eC x.natAbs y.natAbs;refine bX W (fZ _ _ E) W<|k0 W aP<|aH W<|aij kO ?_;unfold Cz
 grind
def yM(m n:Nat)(l:(ah m).length<2^36)(k:(ah n).length<2^36):ab 188 [fO<|ah m,fO<|ah n] (fO<|ah<|Nat.gcd m n):=by
 refine cp func188 W<|r0 W<|lp (λ(a b:Nat)=>[(0,fO<|ah a),(1,fO<|ah b)]) (λa b=>Nat.gcd a b=Nat.gcd m n/\(ah a).length<2^36/\(ah b).length<2^36) (λ_ b=>b) m n ⟨W,l,k⟩ ⟨G,G,U⟩ ?_;rintro a b⟨i,j,e⟩;refine cm W W ?_ ?_<;>intro h;have c:=(oo b).1 E;have d:a%b<b:=acN _ E;refine ck W W (nN a b j e c) W<|r0 W<|again (b,a%b) d ⟨?_,e,?_⟩ ⟨G,G,U⟩;dsimp only;rw[<-i,agx a b,Nat.gcd_rec b a,agx];dsimp only;rcases acX (ah b).length (ah<|a%b).length with g|g;have:=cO g;omega;omega;have c:b=0:=by rcases aeg b with f|f;exact f;have:=gF (show b≠0 from E);omega
 refine b7 W W<|aij (fO) ?_;simp_all
def fX{m:Nat}(h:m<1000000000000000000000000000):(ah m).length<=3:=by rcases gZ m with g|g;rw[g];simp;rcases acX 3 (ah m).length with a|a;have:=jc (show 3<=(ah m).length-1 from E);omega;exact a
def fY(n:Int)(h: -9223372036854775808<n/\n<=9223372036854775807):ab 148 [.i n] (kO n):=by
 refine cp func148 W<|r0 W<|lp (λ(x:Int)(w:L Int)=>[(0,.i x),(2,.box true<|.agg [.b false,.nil]),(3,fR w),(4,.u<|decide (n<0))])
  (λx w=>iR w/\w++ah x.natAbs=ah n.natAbs/\(n<0->x<=0)/\(0<=n->0<=x)/\x.natAbs<=n.natAbs) (λx _=>x.natAbs) n [] ⟨by simp[iR],I,λh=>E,λh=>h,aaU _⟩ ⟨G,G,G,G,U⟩ ?_
 rintro x w⟨d,k,p,o,l⟩;have q:w.length<=3:=by
  have:=fX (m:=n.natAbs) E
  grind
 refine cm W W ?_ ?_<;>intro r
 ·have f:x.tdiv 1000000000=(if x<0 then -((x.natAbs/1000000000:Nat):Int)else((x.natAbs/1000000000:Nat):Int)):=by
   split;rename_i a;have:x= -(x.natAbs:Int):=E;rw[this,Int.neg_tdiv,ahe E];simp
   grind
  have hm:x.tmod 1000000000=(if x<0 then -((x.natAbs%1000000000:Nat):Int)else((x.natAbs%1000000000:Nat):Int)):=by grind
  have g:ah x.natAbs=((x.natAbs%1000000000:Nat):Int)::ah (x.natAbs/1000000000):=by
   conv=>lhs;rw[ah]
   rw[dif_neg E];rfl
  have t:x.natAbs/1000000000<x.natAbs:=afA E fV;have s:x.natAbs%1000000000<1000000000:=acN _ fV;have b:IntKind.i64.wrap (x.tdiv 1000000000)=x.tdiv 1000000000:=qF ⟨E,E⟩;refine kw [11,21] W W (by simp only[aj,aag];omega) ?_;refine bY W ?_ ?_<;>intro j
  ·have a:x<0:=by
    omega
   rw[hm,aas a]at j;refine kw [21] W W (by simp[aj,aag,len,hm,aas a,abo,acC];omega) ?_;refine again (x.tdiv 1000000000,w++[((x.natAbs%1000000000:Nat):Int)]) ?_ ⟨jM d E,?_,?_,?_,?_⟩
    ⟨⟨W,aij SV.i b⟩,G,⟨W,aij (fR) fP⟩,G,U⟩
   all_goals dsimp only;rw[f,aas a]
   omega
   grind
   intro;omega;intro;omega;omega
  have c:x.tmod 1000000000=((x.natAbs%1000000000:Nat):Int):=by omega
  refine kw [21] W W (by simp[aj,aag,len,c,abo,acC];omega) ?_;refine again (x.tdiv 1000000000,w++[((x.natAbs%1000000000:Nat):Int)]) ?_ ⟨jM d E,?_,?_,?_,?_⟩
   ⟨⟨W,aij SV.i b⟩,G,⟨W,aij (fR)<|by rw[c]⟩,G,U⟩
  all_goals dsimp only;rw[f]
  split<;>omega
  grind
  intro;split<;>omega;intro;split<;>omega;split<;>omega
 have:x=0:=E;subst this;have e:w=ah n.natAbs:=by rw[<-k];simp[c6]
 refine ck W W (by rw[e];exact fZ _ _<|by rw[<-e];omega) W ?_;refine b7 W W<|aij kO ?_;unfold Cz
 grind
def WG:∀d:Nat,d<10->((([48,49,50,51,52,53,54,55,56,57]:cq).take<|d+1).drop d)=[TU d]:=fV
def mQ(n k:Nat)(hn:n<9223372036854775808)(p:k<1000):ab 196 [.i n,.i k] (.s<|decl n k):=by
 have c:(decl n k).length<=max k 19:=dE n k _ (acW (show n<10^19 from E)<|adi fV<|agV _ _)<|agU _ _;refine cp func196 W<|r0 W<|lp (λ(a:Nat)(s:cq)=>[(0,.i a),(1,.i k),(5,.s s)]) (λa s=>a<=n/\decl n k=decl a (k-s.length)++s) (λa s=>a+(k-s.length)) n [] ⟨aaU _,I⟩ ⟨G,G,G,U⟩ ?_;rintro a s⟨q,hs⟩;have f:s.length<1001:=by grind
 refine Ke<|acd [(0,.i a),(1,.i k),(5,.s s)] (0<a\/s.length<k) ?_ λhc=>?_;refine b6 W 8 W ?_ ?_<;>intro h;refine r0 W<|bm E;refine cm W W ?_ ?_<;>intro l;refine r0 W<|bm E;refine b7 W W<|aij SV.s ?_;have m:a=0:=E;have j:k-s.length=0:=E;rw[hs,m,j,c7];rfl;have g:a%10<10:=acN _ fV;have e:(((a:Int)%10).toNat)=a%10:=E;have d:(((a:Int)%10+1).toNat)=a%10+1:=E;have b:=WG (a%10) g;refine r1 W ?_ ?_;simp only[aj,aag,e,d,b]
 grind
 simp only[e,d,b];have o:a/10<a\/a=0:=E;refine again (a/10,TU (a%10)::s) ?_ ⟨by dsimp only;omega,?_⟩ ⟨G,G,G,U⟩
 grind
 dsimp only;rw[hs,bC (n:=a) E,acT]
 congr 1
def pK(s:cq)(hs:dG s)(hl:s.length<=18):ab 194 [.s s] (.i<|cX s):=by refine cp func194 W<|r0 W<|ba (λi:Nat=>[(0,.s s),(3,.i<|cX<|s.take i),(4,.i i)]) (λi=>i<=s.length) (λi=>s.length-i) 0 E ?_;intro i hi;refine cm W W ?_ ?_<;>intro h;have a:i<s.length:=E;have b:(i:Int).toNat=i:=E;have hc:s.getD i 0=s[i]:=fP;have f:=hs s[i]<|aaZ a;have d:=mL (s:=s.take i) λc hc=>hs c<|afB hc;have e:10^(s.take i).length<=10^17:=adi fV (by simp;omega);refine r1 W (by simp only[aj,aag,b,hc];omega) ?_;refine again (i+1) E E ⟨G,⟨W,cn ?_⟩,G,U⟩;rw[b,hc,ace a,uV];omega;have:i=s.length:=E;subst this;refine b7 W W<|cn ?_;simp
def kX(s:cq)(hl:s.length<2^60):ab 186 [.s s] (.i<|aE s):=by
 have d:=qN s;refine cp func186 W<|r0 W<|ba (λi:Nat=>[(0,.s s),(3,.i i)]) (λi=>i<=aE s) (λi=>s.length-i) 0 E ?_;intro i hi;refine cm W W ?_ ?_<;>intro h;have c:(i:Int).toNat=i:=E;refine r1 W (by simp[aj,c];omega) ?_;refine bY W ?_ ?_<;>intro b;rw[c]at b;refine b7 W W<|cn ?_;rcases acX i (aE s)with a|a;have:=vB a;exact aaF (agW.1<|show(s.getD i 0).toNat=(47:UInt8).toNat by grind) this;omega;rw[c]at b;have:i<aE s:=by rcases acX i (aE s)with a|a;exact a;have e:i=aE s:=E;have:=zw (s:=s) E;simp_all
 refine r1 W (by simp[aj];omega) ?_;exact aM (i+1) E;refine b7 W W<|cn ?_;omega
def Td(a b:Nat):ab 195 [.i a,.i b] (.i<|Nat.gcd a b):=by refine cp func195 W<|r0 W<|lp (λ(x y:Nat)=>[(0,.i x),(1,.i y)]) (λx y=>Nat.gcd x y=Nat.gcd a b) (λ_ y=>y) a b W ⟨G,G,U⟩ ?_;rintro x y c;refine cm W W ?_ ?_<;>intro h;refine k1 W aP (by simp[aj];omega) ?_;refine again (y,x%y) (acN _ E) ?_ ⟨G,G,U⟩;rw[<-c,agx x y,Nat.gcd_rec y x,agx];have:y=0:=E;subst this;refine b7 W W<|cn ?_;simp_all
def yG{q:Nat}(h:0<q):decl q 0=decl q 1:=by rw[bC E,bC (n:=q) (k:=1) E]
def MR{n j:Nat}(h:j<(ah n).length):0<val ((ah n).drop j):=by
 have a:((ah n).drop j).getLast?≠some 0:=by rw[List.getLast?_drop,aaq E];exact rk n
 rcases sD (pB (bL n) j) a with g|g
 grind
 have:=dW<|((ah n).drop j).length-1;omega
def xL(k:Nat):(1000000000:Int)^k=((10^(9*k):Nat):Int):=by rw[agh];simp
def EK(n j:Nat)(b:j<(ah n).length):(decl (val<|(ah n).drop j).toNat 1).length<=9*(ah n).length:=by have a:=iX<|pB (bL n) j;have d:=bE<|pB (bL n) j;rw[xL]at a;have c:10^(9*((ah n).drop j).length)<=10^(9*(ah n).length):=adi fV (by simp;omega);exact dE _ _ _ E E
def vX(z:Int)(h:(ah z.natAbs).length<2^44):ab 147 [kO z] (.s<|bS z):=by
 refine cp func147 W<|cm W W ?_ ?_<;>intro o;refine b7 W W<|aij SV.s ?_;have:z=0:=by have:=oo z.natAbs;omega
 subst this;simp[bS,bC,c7];rfl;have r:0<(ah z.natAbs).length:=E;have d:=bt (bL z.natAbs)<|(ah z.natAbs).length-1;have f:val ((ah z.natAbs).drop<|(ah z.natAbs).length-1)=(ah z.natAbs).getD ((ah z.natAbs).length-1) 0:=by rw[ib E,aeB E];simp[val]
 have g:=MR (n:=z.natAbs) (j:=(ah z.natAbs).length-1) E;have q:(((ah z.natAbs).length:Int)-1).toNat=(ah z.natAbs).length-1:=E;refine r1 W (by simp[aj,aag];omega) ?_;obtain⟨m,hm⟩:∃m:Nat,(ah z.natAbs).getD ((ah z.natAbs).length-1) 0=m:=⟨_,(ahV d.1).symm⟩;have a:(ah z.natAbs).getD (((ah z.natAbs).length:Int)-1).toNat 0=m:=by rw[q];exact hm
 have t:(SV.i<|(ah z.natAbs).getD (((ah z.natAbs).length:Int)-1).toNat 0)=SV.i (m:Int):=by rw[a]
 refine cl W (by rw[a];rfl) (mQ m 1 E E) W ?_;refine r1 W (by simp[aj,aag];omega) ?_;refine loop (λj:Nat=>[(1,.box true<|kO z),(2,.s []),(3,.s<|decl (val<|(ah z.natAbs).drop j).toNat 1),(4,.i<|(j:Int)-1)]) (λj=>j<(ah z.natAbs).length) (λj=>j) ((ah z.natAbs).length-1) E ⟨G,G,⟨W,aij SV.s<|by rw[f,hm];rfl⟩,⟨W,aij SV.i E⟩,U⟩ ?_;intro j c;refine cm W W ?_ ?_<;>intro l;have p:((j:Int)-1).toNat=j-1:=E;have d:=bt (bL z.natAbs)<|j-1;obtain⟨m,hm⟩:∃m:Nat,(ah z.natAbs).getD (j-1) 0=m:=⟨_,(ahV d.1).symm⟩;have a:(ah z.natAbs).getD ((j:Int)-1).toNat 0=m:=by rw[p];exact hm
 have hl:=EK z.natAbs j c;have i:=EK z.natAbs (j-1) E;have g:=MR c;have b:decl (val<|(ah z.natAbs).drop<|j-1).toNat 1=decl (val<|(ah z.natAbs).drop j).toNat 1++decl m 9:=by rw[ib E,show j-1+1=j from E,hm];have e:((m:Int)+1000000000*val ((ah z.natAbs).drop j)).toNat=(val<|(ah z.natAbs).drop j).toNat*10^9+m:=E;rw[e,wV E 9 m 1 E,show 1-9=0 from W,yG E]
 refine r1 W (by simp[aj,aag];omega) ?_;refine cl W (by rw[a];rfl) (mQ m 9 E E) W ?_;refine r1 W (by simp[aj,aag,len];grind) ?_;exact again (j-1) E E ⟨G,G,⟨W,aij SV.s b.symm⟩,⟨W,aij SV.i E⟩,U⟩;have:j=0:=E;subst this;have e:(val<|(ah z.natAbs).drop 0).toNat=z.natAbs:=by rw[aeW,bA];omega
 have hl:=EK z.natAbs 0 c;refine r0 W<|nS W W W ?_ ?_<;>intro k;refine r1 W (by simp only[aj,aag,len,abo,acC];omega) ?_;refine aH W<|aij SV.s ?_;rw[e];unfold bS;simp_all;refine b7 W W<|aij SV.s ?_;rw[e];unfold bS;simp_all
def isNeg(s:cq):Bool:=decide (0<s.length/\(s.getD 0 0).toNat=45)
def bM(s:cq):cq:=if isNeg s then s.drop 1 else s
def D3(s:cq):Int:=Cz (isNeg s)<|cX<|bM s
def yV(s:cq):(bM s).length<=s.length:=by unfold bM;split<;>simp
def Br(s:cq)(hs:dG (bM s))(hl:s.length<2^46):ab 197 [.s s] (kO<|D3 s):=by
 have n:=yV s;refine cp func197 W<|cQ 3 [(0,.s<|bM s),(2,.box true<|.agg [.b false,.nil]),(3,.u<|isNeg s)] True ?_ λ_=>?_;refine b6 W 8 W ?_ ?_<;>intro h;refine r1 W (by simp[aj,aag];omega) ?_;refine bY W ?_ ?_<;>intro f;have hn:isNeg s=true:=by unfold isNeg;grind
 refine r1 W (by simp[aj,aag];omega) ?_;refine eU U ⟨⟨W,aij SV.s<|by simp[bM,hn]⟩,G,⟨W,aij SV.u<|(decide_eq_true f).trans hn.symm⟩,U⟩;have hn:isNeg s=false:=by unfold isNeg;grind
 refine b8 W U ⟨⟨W,aij SV.s<|by simp[bM,hn]⟩,G,⟨W,aij SV.u<|(decide_eq_false f).trans hn.symm⟩,U⟩;have hn:isNeg s=false:=by unfold isNeg;simp_all
 refine b8 W U ⟨⟨W,aij SV.s fP⟩,G,⟨W,hn.symm⟩,U⟩;refine r0 W<|lp (λ(t:cq)(w:L Int)=>[(0,.s t),(2,.box true<|.agg [.b false,.nil]),(3,.u<|isNeg s),(4,fR w)])
  (λt w=>dG t/\iR w/\val w+1000000000^w.length*cX t=cX (bM s)/\t.length+9*w.length<2^46) (λt _=>t.length) (bM s) [] ⟨hs,by simp[iR],by simp[val],by simp;omega⟩ ⟨G,G,G,G,U⟩ ?_
 rintro t w⟨g,i,j,k⟩;refine cm W W ?_ ?_<;>intro f;have m:((t.length:Int)-9).toNat=t.length-9:=E;refine r1 W (by simp[aj,aag];omega) ?_;have e:dG (t.drop<|t.length-9):=λc hc=>g c<|agv hc;have b:=mL e;have d:(t.drop<|t.length-9).length=9:=by simp;omega
 rw[d]at b;have l:cX t=cX (t.take<|t.length-9)*10^9+cX (t.drop<|t.length-9):=by
  conv=>lhs;rw[<-af3 (t.length-9) t,tZ]
  rw[d]
 refine cl W (by rw[m,acS];rfl) (pK _ e E) W ?_;refine r1 W (by simp[aj,aag,len,abo,acC];omega) ?_;refine again (t.take<|t.length-9,w++[(cX (t.drop<|t.length-9):Int)]) ?_ ⟨λc hc=>g c<|afB hc,jM i E,?_,?_⟩ ⟨⟨W,aij SV.s<|by rw[m];rfl⟩,G,G,G,U⟩;dsimp only;simp;omega;have a:(cX t:Int)=(cX (t.take<|t.length-9):Int)*1000000000+(cX (t.drop<|t.length-9):Int):=E;dsimp only;rw[<-j,fG,a,acU,List.length_singleton,aeJ]
 grind
 grind
 have b:=mL g;have:10^t.length<=10^9:=adi fV E;refine ck W W (pK t g E) W<|r1 W (by simp[aj,aag,len,abo,acC];omega) ?_;refine bW W (xt (isNeg s) (w++[(cX t:Int)]) (jM i E)<|by simp;omega) W ?_;refine b7 W W<|aij kO ?_;unfold D3;rw[<-j,fG,Int.mul_comm]
def jK(z:Int){k:Nat}(h:(ah z.natAbs).length<=k):(bS z).length<=9*k+2:=by have a:=cu z.natAbs;rw[xL]at a;have b:10^(9*(ah z.natAbs).length)<=10^(9*k):=adi fV E;have:=dE z.natAbs 1 (9*k+1) E E;unfold bS;grind
def pk(z:Int):isNeg (bS z)=decide (z<0):=by
 unfold bS isNeg;split;rename_i h;simp[h];rename_i h;have a:=cE z.natAbs 1;simp only[h,decide_false,decide_eq_false_iff_not];rintro⟨c,b⟩;have hm:(decl z.natAbs 1).getD 0 0∈decl z.natAbs 1:=by simp_all
 have:=a _ hm;omega
def jO(z:Int):bM (bS z)=decl z.natAbs 1:=by unfold bM;rw[pk];by_cases h:z<0<;>simp[h,bS]
def zX(z:Int):D3 (bS z)=z:=by
 unfold D3;rw[pk,jO,gn];unfold Cz
 grind
def sf(z:Int)(h:(ah z.natAbs).length<2^42):ab 197 [.s<|bS z] (kO z):=by have:=Br (bS z) (by rw[jO];exact cE _ _)<|afC (jK z<|agy h) fV;rwa[zX]at this
section
variable{d k:Nat}{q:Rat}{s t:cq}
def eG(d:Nat):cq:=if d=1 then[]else 47::decl d 1
def vo(n:Int)(d:Nat):cq:=bS n++eG d
def qt(q:Rat):cq:=vo q.num q.den
def qm:∀{s:cq}(t:cq),(∀c∈s,c≠47)->aE (s++t)=s.length+aE t
 |[],t,_=>I
 |c::s,t,h=>by have:=qm (s:=s) t λx a=>h x (by simp[a]);simp[aE,aaq<|h c I];omega
def AL(h:dG s):∀c∈s,c≠47:=by rintro c hc rfl;have:=(h _ hc).1;simp_all
def Y9(z:Int):∀c∈bS z,c≠47:=by intro c hc;unfold bS at hc;split at hc;rcases abm.1 hc with rfl|hc;decide;exact AL (cE _ _) c hc;exact AL (cE _ _) c hc
def xr(d:Nat):aE (eG d)=0:=by unfold eG;split<;>simp[aE]
def mq(n:Int)(d:Nat):aE (vo n d)=(bS n).length:=by unfold vo;rw[qm _<|Y9 n,xr];omega
def L4(z:Int):0<(bS z).length:=by have:=ags.2<|Rc z.natAbs (k:=1) fV;unfold bS;grind
def Jy(h:0<s.length):(s++t).getD 0 0=s.getD 0 0:=by grind
def Jt(h:0<s.length):isNeg (s++t)=isNeg s:=by unfold isNeg;grind
def Aa(n:Int)(d:Nat):isNeg (vo n d)=decide (n<0):=by unfold vo;rw[Jt<|L4 n,pk]
def Rs(n:Int)(d:Nat):bM (vo n d)=decl n.natAbs 1++eG d:=by unfold bM;rw[Aa];by_cases h:n<0<;>simp[h,vo,bS]
def tB(n:Int)(d:Nat):(vo n d).take (bS n).length=bS n:=by unfold vo;simp
def uy(n:Int)(d:Nat)(h:d≠1):(vo n d).drop ((bS n).length+1)=decl d 1:=by unfold vo eG;rw[aaq h];simp
def kK(n:Int)(d:Nat):(vo n d).length=(bS n).length+(eG d).length:=by unfold vo;simp
def ic:(eG d).length=0↔d=1:=by unfold eG;split<;>simp[*]
def L6{a b:Int}(h:bS a=bS b):a=b:=by rw[<-zX a,h,zX]
def Yr{n m:Int}{e:Nat}(h:vo n d=vo m e):n=m/\d=e:=by
 have b:=mq n d;rw[h,mq]at b;have f:=tB n d;rw[h,<-b,tB]at f;refine⟨(L6 f).symm,?_⟩;have g:=aaf List.length h;rw[kK,kK]at g;by_cases a:d=1;have:=ic.2 a;have:=ic.1 (show(eG e).length=0 from E);omega;have he:e≠1:=by intro he;have:=ic.2 he;exact a<|ic.1 E
 have c:=uy n d a;rw[h,<-b,uy m e he]at c;have:=aaf cX c;rw[gn,gn]at this;simp_all
def IX{p:Rat}:qt p=qt q↔p=q:=by constructor;intro h;have:=Yr h;exact Rat.ext this.1 this.2;rintro rfl;rfl
def M9(n:Nat)(h:(ah n).length<=k):(decl n 1).length<=9*k+1:=by have a:=cu n;rw[xL]at a;have b:10^(9*(ah n).length)<=10^(9*k):=adi fV E;exact dE n 1 (9*k+1) E E
def RN(d:Nat)(h:(ah d).length<=k):(eG d).length<=9*k+2:=by have:=M9 d h;unfold eG;grind
def Gz(q:Rat):Prop:=(ah q.num.natAbs).length<2^40/\(ah q.den).length<2^40
def wm(h:Gz q):(qt q).length<2^45:=by have b:=jK q.num<|agy h.1;have a:=RN q.den<|agy h.2;unfold qt;rw[kK];omega
def gX:ah 1=[1]:=nw (f:=1) fV fV
def dX(q:Rat)(h:Gz q):ab 99 [.s<|qt q] (.bU [kO q.num,kO q.den]):=by
 have hl:=wm h;have p:=h.1;have o:=h.2;have r:aE (qt q)=(bS q.num).length:=mq _ _;have c:(qt q).length=(bS q.num).length+(eG q.den).length:=kK _ _;refine cp func99 W<|ck W W (kX (qt q) E) W<|cm W W ?_ ?_<;>intro e;have b:q.den=1:=ic.1 E;have f:qt q=bS q.num:=by unfold qt vo;rw[b];simp[eG]
 refine r0 W<|cl W (by rw[f];rfl) (sf q.num E) W ?_;refine bW W (fY 1 fV) W<|b7 W W<|aij SV.bU ?_;rw[b];rfl;have b:q.den≠1:=λb=>by have:=ic.2 b;omega
 have Ed:=q.den_nz;have m:((aE (qt q):Nat):Int).toNat=(bS q.num).length:=E;have l:(((aE (qt q):Nat):Int)+1).toNat=(bS q.num).length+1:=E;have n:0<(eG q.den).length:=by omega
 have j:(qt q).take (bS q.num).length=bS q.num:=tB _ _;have i:(qt q).drop ((bS q.num).length+1)=decl q.den 1:=uy _ _ b;refine r1 W (by simp[aj,aag];omega) ?_;refine cd W (by rw[m,j];rfl) (sf q.num E) W ?_;refine r1 W (by simp[aj,aag];omega) ?_;have g:bS (q.den:Int)=decl q.den 1:=fQ;have a:=sf (q.den:Int) (by grind);rw[g]at a;refine cd W (by rw[l,acS,i];rfl) a W ?_;refine k0 W aP<|bV W
end
def Ej{n d:Int}(b:0<d):(Rat.divInt n d).num=Cz (decide (n<0)) ((n.natAbs/Nat.gcd n.natAbs d.natAbs:Nat):Int):=by
 rw[Rat.num_divInt,ah0 b];have e:d.gcd n=Nat.gcd n.natAbs d.natAbs:=by rw[ahD,agx]
 rw[e];unfold Cz;by_cases h:n<0;simp[h];have c:n= -(n.natAbs:Int):=E;have a:(Nat.gcd n.natAbs d.natAbs:Int)∣(n.natAbs:Int):=Int.ofNat_dvd.2<|Nat.gcd_dvd_left _ _
 conv=>lhs;rw[c]
 rw[Int.neg_ediv_of_dvd<|by simpa using a];simp
 grind
def Ek{n d:Int}(a:0<d):(Rat.divInt n d).den=d.natAbs/Nat.gcd n.natAbs d.natAbs:=by rw[Rat.den_divInt,aaq E,ahD,agx]
def mD(a b:Nat):(ah<|a/b).length<=(ah a).length:=by rcases acX (ah a).length (ah<|a/b).length with g|g;have:=cO g;have:=agi a b;omega;exact g
def mB(b:Bool)(n:Nat):(Cz b (n:Int)).natAbs=n:=by cases b<;>simp[Cz]
def qI{d:Nat}(h:d≠1):eG d=47::decl d 1:=by unfold eG;rw[aaq h]
def L5(d:Nat):bS (d:Int)=decl d 1:=fQ
def BP{q:Nat}:((ah q).length=1/\(ah q).getD 0 0=1)↔q=1:=by
 constructor;rintro⟨a,e⟩;have c:=bA q;have d:ah q=[(ah q).getD 0 0]:=by
  match b:ah q with
  |[]=>rw[b]at a;cases a
  |[x]=>rfl
  |x::y::l=>rw[b]at a;cases a
 rw[d,e]at c;simp[val]at c;omega;rintro rfl;rw[gX];simp
def gC(n d:Int)(B:d≠0)(A:(ah n.natAbs).length<2^34)(z:(ah d.natAbs).length<2^34):ab 100 [kO n,kO d] (.s<|qt<|Rat.divInt n d):=by
 refine cp func100 W<|yI 2 (λ(a b:Int)=>[(2,.box true<|kO a),(3,.box true<|kO b)]) (λa b=>0<b/\Rat.divInt a b=Rat.divInt n d/\a.natAbs=n.natAbs/\b.natAbs=d.natAbs) ?_ ?_;refine r0 W<|nS W W W ?_ ?_<;>intro h;have h:d<0:=of_decide_eq_true h;refine cj W W (Bt n<|by unfold Ko;omega) W ?_;refine cj W W (Bt d<|by unfold Ko;omega) W ?_;refine k0 W aP<|fL (-n,-d) ⟨?_,Rat.neg_divInt_neg _ _,?_,?_⟩<;>dsimp only<;>omega;have h:¬d<0:=of_decide_eq_false h;refine r0 W<|fL (n,d) ⟨?_,W,W,W⟩;dsimp only;omega;rintro a b⟨l,u,p,V7⟩;rw[<-u];rw[<-p]at A;rw[<-V7]at z;have e:=Ej (n:=a) l;have f:=Ek (n:=a) l;have Ed:b.natAbs≠0:=E;have i:Nat.gcd a.natAbs b.natAbs≠0:=λh=>Ed<|Nat.eq_zero_of_gcd_eq_zero_right h;have x:(ah<|Nat.gcd a.natAbs b.natAbs).length<=(ah b.natAbs).length:=by rcases acX (ah b.natAbs).length (ah<|Nat.gcd a.natAbs b.natAbs).length with g|g;have:=cO g;have:=Nat.le_of_dvd E<|Nat.gcd_dvd_right a.natAbs b.natAbs;omega;exact g
 have v:=mD a.natAbs<|Nat.gcd a.natAbs b.natAbs;have m:=mD b.natAbs<|Nat.gcd a.natAbs b.natAbs;have o:(ah (Rat.divInt a b).num.natAbs).length<=(ah a.natAbs).length:=by rw[e,mB];exact v
 have k:(ah (Rat.divInt a b).den).length<=(ah b.natAbs).length:=by rw[f];exact m
 have w:=jK (Rat.divInt a b).num o;have y:=M9 (Rat.divInt a b).den k;have c:=BP (q:=(Rat.divInt a b).den);refine cQ 5 [(8,fO<|ah (Rat.divInt a b).den),(10,.s<|bS (Rat.divInt a b).num)] ((Rat.divInt a b).den≠1) ?_ λhc=>?_;refine ck W W (yM a.natAbs b.natAbs E E) W<|ck W W (nN a.natAbs (Nat.gcd a.natAbs b.natAbs) E E i) W<|ck W W (nN b.natAbs (Nat.gcd a.natAbs b.natAbs) E E i) W<|ck W W (fZ (decide (a<0)) (a.natAbs/Nat.gcd a.natAbs b.natAbs) E) W ?_;rw[<-e,<-f];refine ck W W (vX (Rat.divInt a b).num E) W<|r0 W ?_;have j:(Rat.divInt a b).den=1->bS (Rat.divInt a b).num=qt (Rat.divInt a b):=by intro h;unfold qt vo eG;simp_all
 refine aF 44 W ?_ ?_<;>intro h;have C:((0:Int).toNat)=0:=W;refine r1 W (by simp[aj,aag];omega) ?_;refine bY W ?_ ?_<;>intro r;refine b7 W W<|aij SV.s<|j<|c.1 ⟨E,r⟩;refine r0 W<|bm λt=>r (c.2 t).2;refine r0 W<|bm λt=>h E;refine r1 W (by simp[aj,aag,len,abo,acC];omega) ?_;refine bW W (fZ false (Rat.divInt a b).den E) W<|ck W W (vX (Rat.divInt a b).den<|by grind) W ?_;rw[L5];refine r1 W (by simp[aj,aag,len,acU,abo,acC];omega) ?_;refine aH W<|aij SV.s ?_;unfold qt vo;rw[qI hc,acT];rfl
def S5:bS 0=[48]:=by simp[bS,bC,c7];rfl
def oX(z:Int):qt (z:Rat)=bS z:=by simp[qt,vo,eG]
def rX:qt 0=[48]:=by have:=oX 0;rw[S5]at this;simpa using this
def IW:qt 1=[49]:=by
 have:=oX 1;have e:bS 1=[49]:=by simp[bS,bC,c7];rfl
 simp_all
def IY{q:Rat}:qt q=[48]↔q=0:=by rw[<-rX];exact IX
def D6(q:Rat):isNeg (qt q)=decide (q.num<0):=Aa _ _
def Oq(q:Rat):0<(qt q).length:=by have:=L4 q.num;unfold qt;rw[kK];omega
def GS(s:cq):Int:=if s=[48]then 0 else if isNeg s then -1 else 1
def Uv(q:Rat):GS (qt q)=q.num.sign:=by
 unfold GS;rw[D6];by_cases h:q=0;rw[aas<|IY.2 h,h];rfl;rw[aaq λa=>h<|IY.1 a];have b:q.num≠0:=λa=>h<|agX.1 a
 grind
def wc(s:cq)(hl:s.length<2^60):ab 158 [.s s] (.i<|GS s):=by
 refine cp func158 W<|cm W W ?_ ?_<;>intro h;refine b7 W W<|cn ?_;unfold GS;rw[aas h];refine r0 W ?_;have hs:GS s=if isNeg s then -1 else 1:=by unfold GS;rw[aaq h]
 refine aF 8 W ?_ ?_<;>intro b;refine r1 W (by simp[aj];omega) ?_;refine bY W ?_ ?_<;>intro a;have hn:isNeg s=true:=by unfold isNeg;grind
 refine b7 W W<|cn ?_;rw[hs,hn];rfl;have hn:isNeg s=false:=by unfold isNeg;grind
 refine b7 W W<|cn ?_;rw[hs,hn];rfl;have hn:isNeg s=false:=by unfold isNeg;simp_all
 refine b7 W W<|cn ?_;rw[hs,hn];rfl
def Dm{q:Rat}(h:Gz q):(qt q).length<2^60:=agz (wm h) fV
def kY(q:Rat)(h:Gz q):ab 158 [.s<|qt q] (.i q.num.sign):=by have:=wc (qt q)<|Dm h;rwa[Uv]at this
def U0{q:Rat}(h:q.num<0):(qt q).drop 1=qt (-q):=by unfold qt vo bS;rw[agY,aas h,aaq E];simp
def Yz{q:Rat}(h:0<q.num):45::qt q=qt (-q):=by unfold qt vo bS;rw[agY,aaq E,aas E];simp
def qV(q:Rat)(h:Gz q):ab 150 [.s<|qt q] (.s<|qt<|-q):=by have hl:=wm h;have f:=Oq q;refine cp func150 W<|ck W W (kY q h) W<|cm W W ?_ ?_<;>intro b;have hn:=afI.1 b;refine r1 W (by simp[aj,len];omega) ?_;refine aH W<|aij SV.s ?_;rw[<-U0 hn,acS];rfl;have hn:¬q.num<0:=λhn=>b<|afI.2 hn;refine ck W W (kY q h) W<|cm W W ?_ ?_<;>intro a;have e:=agX.1<|ahE.1 a;refine b7 W W<|aij SV.s ?_;rw[e];rfl;have c:q.num≠0:=λd=>a (by rw[d];rfl);refine r1 W (by simp[aj,acC];omega) ?_;refine aH W<|aij SV.s<|Yz E
def nD(q:Rat):Rat:=if q.num<0 then -q else q
def rD(q:Rat)(h:Gz q):ab 202 [.s<|qt q] (.s<|qt<|nD q):=by have b:=Oq q;refine cp func202 W<|ck W W (kY q h) W<|cm W W ?_ ?_<;>intro a;have hn:=afI.1 a;refine r1 W (by simp[aj];omega) ?_;refine aH W<|aij SV.s ?_;unfold nD;rw[aas hn,<-U0 hn,acS];rfl;have hn:=λhn=>a<|afI.2 hn;refine b7 W W<|aij SV.s ?_;unfold nD;rw[aaq hn]
def Hk(q:Rat)(h:Gz q):ab 203 [.s<|qt q] (.s<|qt (q.num:Rat)):=by have hl:=Dm h;have c:aE (qt q)=(bS q.num).length:=mq _ _;have a:(qt q).length=(bS q.num).length+(eG q.den).length:=kK _ _;refine cp func203 W<|ck W W (kX (qt q) hl) W<|r1 W (by simp[aj];omega) ?_;refine aH W<|aij SV.s ?_;have b:((aE (qt q):Nat):Int).toNat=(bS q.num).length:=E;rw[oX,b];exact tB _ _
def HY(q:Rat)(h:Gz q):ab 204 [.s<|qt q] (.s<|qt (q.den:Rat)):=by
 have hl:=Dm h;have e:aE (qt q)=(bS q.num).length:=mq _ _;have b:(qt q).length=(bS q.num).length+(eG q.den).length:=kK _ _;have hi:qt (q.den:Rat)=bS q.den:=oX (q.den:Int);rw[hi];refine cp func204 W<|ck W W (kX (qt q) hl) W<|cm W W ?_ ?_<;>intro c;have a:q.den=1:=ic.1 E;refine b7 W W<|aij SV.s ?_;rw[a];exact(IW.symm.trans<|oX 1);have a:q.den≠1:=λa=>by have:=ic.2 a;omega
 have d:(((aE (qt q):Nat):Int)+1).toNat=(bS q.num).length+1:=E;refine r1 W (by simp[aj,len];omega) ?_;refine aH W<|aij SV.s ?_;rw[d,acS];exact uy _ _ a
def oc(q:Rat):ab 102 [.s<|qt q] (.u<|decide (q=0)):=by refine cp func102 W<|b7 W W<|aij SV.u<|decide_eq_decide.2 IY
def vL(n:Int)(h: -9223372036854775808<n/\n<=9223372036854775807):ab 63 [.i n] (.s<|qt (n:Rat)):=by rw[oX];refine cp func63 W<|ck W W (fY n h) W<|bW W (vX n (by have:=fX (m:=n.natAbs) E;omega)) W ?_;refine cg W W
def YA(q:Rat):Bool:=decide ((qt q).length<=20/\(decl q.num.natAbs 1).length<=9/\(eG q.den).length<=10)
def yH{n j:Nat}(h:(decl n 1).length<=j):n<10^j:=by have a:=mL<|cE n 1;rw[gn]at a;exact acW a<|adi fV h
def xG{q:Rat}(h:YA q=true):q.num.natAbs<1000000000:=yH (j:=9) (of_decide_eq_true h).2.1
def uS{q:Rat}(h:YA q=true):q.den<1000000000:=by have a:=(of_decide_eq_true h).2.2;by_cases b:q.den=1;omega;rw[qI b]at a;exact yH (j:=9) (by simpa using a)
def AH(q:Rat):bM (qt q)=decl q.num.natAbs 1++eG q.den:=Rs _ _
def GR(q:Rat):aE (bM<|qt q)=(decl q.num.natAbs 1).length:=by rw[AH,qm _<|AL<|cE _ _,xr];omega
def pS(q:Rat)(h:Gz q):ab 97 [.s<|qt q] (.bU [.i<|if YA q then q.num else 0,.i<|if YA q then(q.den:Int)else 0,.u<|YA q]):=by
 have t:=Oq q;have v:=yV<|qt q;have c:=D6 q;have g:=GR q;have m:(bM<|qt q).length=(decl q.num.natAbs 1).length+(eG q.den).length:=by rw[AH];simp
 refine cp func97 W<|cQ 5 [(5,.s<|bM<|qt q),(6,.u<|decide (q.num<0))] ((qt q).length<=20) ?_ λhc=>?_;refine cm W W ?_ ?_<;>intro a;have b:YA q=false:=decide_eq_false λd=>E;rw[b];refine b7 W W ⟨aw.refl _,aw.refl _,W,U⟩;refine b6 W 17 W (λf=>?_) λf=>aaF f E;refine r1 W bh<|bY W ?_ ?_<;>intro d;have hn:isNeg (qt q)=true:=by unfold isNeg;grind
 refine r1 W (by simp[aj,aag,len]<;>omega) ?_;refine eU E ⟨⟨W,aij SV.s<|by simp[bM,hn]⟩,⟨W,aij SV.u<|(decide_eq_true d).trans<|hn.symm.trans c⟩,U⟩;have hn:isNeg (qt q)=false:=by unfold isNeg;grind
 refine b8 W E ⟨⟨W,aij SV.s<|by simp[bM,hn]⟩,⟨W,aij SV.u<|(decide_eq_false d).trans<|hn.symm.trans c⟩,U⟩;refine cQ 2 [(6,.u<|decide (q.num<0)),(5,.s<|bM<|qt q),(7,.i<|aE<|bM<|qt q)] (YA q=true) ?_ λb=>?_;refine ck W W (kX (bM<|qt q) E) W<|b6 W 29 W ?_ ?_<;>intro a;have b:YA q=false:=decide_eq_false λd=>E;rw[b];refine b7 W W ⟨aw.refl _,aw.refl _,W,U⟩;refine r1 W (by simp[aj,aag,len]<;>omega) ?_;refine bY W ?_ ?_<;>intro d;have b:YA q=false:=decide_eq_false λd=>E;rw[b];refine b7 W W ⟨aw.refl _,aw.refl _,W,U⟩;refine r0 W<|bm<|decide_eq_true ⟨hc,E,E⟩;have j:=of_decide_eq_true b;have k:=xG b;have r:((aE (bM<|qt q):Nat):Int).toNat=(decl q.num.natAbs 1).length:=E;have p:(((aE (bM<|qt q):Nat):Int)+1).toNat=(decl q.num.natAbs 1).length+1:=E;have o:(bM<|qt q).take (decl q.num.natAbs 1).length=decl q.num.natAbs 1:=by rw[AH];simp
 refine cQ 2 [(6,.u<|decide (q.num<0)),(8,.i q.num.natAbs),(9,.i q.den)] True ?_ λ_=>?_;refine r1 W (by simp[aj,aag,len]<;>omega) ?_;refine cl W (by rw[r,o];rfl) (pK (decl q.num.natAbs 1) (cE _ _) E) W ?_;rw[gn];refine cm W W ?_ ?_<;>intro a;have e:q.den≠1:=λe=>by have:=ic.2 e;omega
 have n:(bM<|qt q).drop ((decl q.num.natAbs 1).length+1)=decl q.den 1:=by rw[AH,qI e,ahv];simp
 have l:(decl q.den 1).length<=9:=by grind
 refine r1 W (by simp[aj,aag,len]<;>omega) ?_;refine cl W (by rw[p,acS,n];rfl) (pK (decl q.den 1) (cE _ _) E) W ?_;rw[gn];refine r0 W<|bm U;have e:q.den=1:=ic.1 E;refine b8 W U ⟨G,G,⟨W,aij SV.i<|by rw[e];rfl⟩,U⟩;rw[b];refine r0 W<|nS W W W ?_ ?_<;>intro a;have a:q.num<0:=of_decide_eq_true a;refine r1 W bh<|aH W ⟨aij SV.i<|by rw[aas W];omega,aw.refl _,W,U⟩;have a:¬q.num<0:=of_decide_eq_false a;refine b7 W W ⟨aij SV.i<|by rw[aas W];omega,aw.refl _,W,U⟩
def Lt(a b:Int)(g:b≠0)(k: -9223372036854775808<a/\a<=9223372036854775807)(j: -9223372036854775808<b/\b<=9223372036854775807):ab 98 [.i a,.i b] (.s<|qt<|Rat.divInt a b):=by
 refine cp func98 W<|cQ 2 [(0,.i a),(1,.i b)] (-4000000000000000000<=a/\a<=4000000000000000000/\ -4000000000000000000<=b/\b<=4000000000000000000) ?_ λhc=>?_;have B:=fX (m:=a.natAbs) E;have A:=fX (m:=b.natAbs) E;have R:∀{K:L It}{l:a7},True:=λ{_ _}=>trivial;refine b6 W 9 W ?_ ?_<;>intro g1;refine ck W W (fY a k) W<|ck W W (fY b j) W<|ck W W (gC a b g E E) W<|cg W W;refine b6 W 13 W ?_ ?_<;>intro g2;refine ck W W (fY a k) W<|ck W W (fY b j) W<|ck W W (gC a b g E E) W<|cg W W;refine b6 W 17 W ?_ ?_<;>intro N;refine ck W W (fY a k) W<|ck W W (fY b j) W<|ck W W (gC a b g E E) W<|cg W W;refine cm W W ?_ ?_<;>intro M;refine ck W W (fY a k) W<|ck W W (fY b j) W<|ck W W (gC a b g E E) W<|cg W W;refine r0 W<|bm E;obtain⟨V,T,c3,S⟩:=hc;refine yI 1 (λ(n d:Int)=>[(0,.i n),(1,.i d)]) (λn d=>0<d/\Rat.divInt n d=Rat.divInt a b/\n.natAbs=a.natAbs/\d.natAbs=b.natAbs) ?_ ?_;refine cm W W ?_ ?_<;>intro g1;refine r1 W (by simp only[aj,aag,len]<;>omega) ?_;refine meet (-a,-b) ⟨?_,Rat.neg_divInt_neg _ _,?_,?_⟩ ⟨⟨W,aij SV.i E⟩,⟨W,aij SV.i E⟩,U⟩<;>dsimp only<;>omega;refine r0 W<|fL (a,b) ⟨?_,W,W,W⟩;dsimp only;omega;rintro n d⟨p,x,z,V7⟩;rw[<-x];have e:=Ej (n:=n) p;have f:=Ek (n:=n) p;have H:0<Nat.gcd n.natAbs d.natAbs:=Nat.gcd_pos_of_pos_right _ E;have D:=Nat.gcd_dvd_left n.natAbs d.natAbs;have F:=Nat.gcd_dvd_right n.natAbs d.natAbs;have y:(Rat.divInt n d).num.natAbs<=n.natAbs:=by rw[e,mB];exact agi _ _
 have J:(Rat.divInt n d).den<=d.natAbs:=by rw[f];exact agi _ _
 have Ed:=(Rat.divInt n d).den_nz;have O:(d.natAbs:Int)=d:=E;have c:vr false n (0-n)=(n.natAbs:Int):=by simp only[vr];omega
 have w:n.tdiv (Nat.gcd n.natAbs d.natAbs:Nat)=(Rat.divInt n d).num:=by
  rw[e];unfold Cz;by_cases h:n<0;have P:n= -(n.natAbs:Int):=E;simp only[h,decide_true,if_true]
  conv=>lhs;rw[P]
  simp
  grind
 have v:d.tdiv (Nat.gcd n.natAbs d.natAbs:Nat)=((Rat.divInt n d).den:Int):=by grind
 have u:IntKind.i64.wrap (n.tdiv (Nat.gcd n.natAbs d.natAbs:Nat))=(Rat.divInt n d).num:=by rw[w];exact qF ⟨E,E⟩
 have t:IntKind.i64.wrap (d.tdiv (Nat.gcd n.natAbs d.natAbs:Nat))=((Rat.divInt n d).den:Int):=by rw[v];exact qF ⟨E,E⟩
 refine cQ 2 [(0,.i (Rat.divInt n d).num),(1,.i (Rat.divInt n d).den)] True ?_ λ_=>?_;refine r1 W (by simp only[aj,aag,len]<;>omega) ?_;refine cl W (by rw[c,<-O];rfl) (Td n.natAbs d.natAbs) W ?_;refine kw [40,43] W aP (by simp only[aj,aag,len]<;>omega) ?_;exact eU U ⟨⟨W,aij SV.i u⟩,⟨W,aij SV.i t⟩,U⟩;generalize Rat.divInt n d=q at*;have C:(decl q.num.natAbs 1).length<=19:=dE _ _ 19 E E;have o:(decl q.den 1).length<=19:=dE _ _ 19 E E;have c:vr false q.num (0-q.num)=(q.num.natAbs:Int):=by simp only[vr];omega
 refine cQ 2 [(0,.i q.num),(1,.i q.den),(6,.s<|if q.num<0 then[45]else[])] True ?_ λ_=>?_;refine cm W W ?_ ?_<;>intro h;refine b8 W U ⟨G,G,⟨W,aij SV.s<|by rw[aas h]⟩,U⟩;refine b8 W U ⟨G,G,⟨W,aij SV.s<|by rw[aaq h]⟩,U⟩;have hs:(if q.num<0 then[45]else([]:cq)).length<=1:=by split<;>simp
 have r:(if q.num<0 then[45]else([]:cq))++decl q.num.natAbs 1=bS q.num:=by unfold bS;split<;>simp
 refine r1 W (by simp only[aj,aag,len]<;>omega) ?_;refine cl W (by rw[c];rfl) (mQ q.num.natAbs 1 E E) W ?_;refine r1 W (by simp only[aj,aag,len]<;>omega) ?_;refine bY W ?_ ?_<;>intro h;refine r1 W (by simp only[aj,aag,len,acU,abo,acC]<;>omega) ?_;refine bW W (mQ q.den 1 E E) W<|r1 W (by simp only[aj,aag,len,acU,abo,acC]<;>omega) ?_;refine aH W<|aij SV.s ?_;rw[r];unfold qt vo;rw[qI E,acT];rfl;refine b7 W W<|aij SV.s ?_;rw[r];unfold qt vo eG
 grind
section
variable{K L:Nat}{p q:Rat}
def Sz(q:Rat)(K:Nat):Prop:=(ah q.num.natAbs).length<=K/\(ah q.den).length<=K
def Sz.tf(h:Sz q K)(a:K<2^40):Gz q:=⟨afC h.1 a,afC h.2 a⟩
def Sz.mono(h:Sz q K)(a:K<=L):Sz q L:=⟨acI h.1 a,acI h.2 a⟩
def Sz.neg(h:Sz q K):Sz (-q) K:=by unfold Sz at *;simp_all
def zq{n d:Int}(a:0<d)(c:(ah n.natAbs).length<=K)(b:(ah d.natAbs).length<=K):Sz (Rat.divInt n d) K:=by unfold Sz;rw[Ej a,Ek a,mB];exact⟨acI (mD _ _) c,acI (mD _ _) b⟩
def sn(p q:Rat):Rat.divInt (p.num*q.num) ((p.den:Int)*q.den)=p*q:=by rw[Rat.mul_def',<-Rat.divInt_ofNat,af2]
def pE(p q:Rat):Rat.divInt (p.num*q.den+q.num*p.den) ((p.den:Int)*q.den)=p+q:=by rw[Rat.add_def',<-Rat.divInt_ofNat,af2]
def den_pos(p:Rat):(0:Int)<p.den:=by have:=p.den_nz;omega
def Sz.mul(h:Sz p K)(a:Sz q L):Sz (p*q) (K+L):=by rw[<-sn];refine zq (afW (den_pos p)<|den_pos q) ?_ ?_;rw[afX];exact acI (eC _ _)<|ahF h.1 a.1;rw[afX];exact acI (eC _ _)<|ahF h.2 a.2
def length_le{m n:Nat}(h:m<=n):(ah m).length<=(ah n).length:=by rcases acX (ah n).length (ah m).length with g|g;have:=cO g;omega;exact g
def BA(x y:Int)(b:(ah x.natAbs).length<=K)(a:(ah y.natAbs).length<=K):(ah (x+y).natAbs).length<=K+1:=acI (length_le<|Int.natAbs_add_le x y) (pf b a)
def iU(x y:Int)(b:(ah x.natAbs).length<=K)(a:(ah y.natAbs).length<=L):(ah (x*y).natAbs).length<=K+L:=by rw[afX];exact acI (eC _ _)<|ahF b a
def Sz.add(h:Sz p K)(a:Sz q L):Sz (p+q) (K+L+1):=by rw[<-pE];refine zq (afW (den_pos p)<|den_pos q) ?_ ?_;exact BA _ _ (iU _ _ h.1 a.2) (Nat.add_comm K L▸iU _ _ a.1 h.2);exact ahi<|iU (p.den:Int) (q.den:Int) h.2 a.2
def qW{x y:Int}(b:x.natAbs<1000000000)(a:y.natAbs<1000000000):(x*y).natAbs<=1000000000000000000:=by rw[afX];exact ael (agy b)<|agy a
def dY(p q:Rat)(b:Sz p K)(a:Sz q L)(l:K+L<2^34):ab 27 [.s<|qt p,.s<|qt q] (.s<|qt<|p*q):=by have c:=b.tf E;have fq:=a.tf E;have h:=b.1;have g:=b.2;have f:=a.1;have e:=a.2;refine cp func27 W<|cQ 4 [(0,.s<|qt p),(1,.s<|qt q)] True ?_ λ_=>?_;refine ck W W (pS p c) W<|ck W W (pS q fq) W<|r0 W<|iC 28 W ?_ ?_<;>intro g1;refine r0 W<|nS W W W ?_ ?_<;>intro g2;simp[g1,g2,if_true];have m1:=qW (xG g1)<|xG g2;have i:=qW (x:=(p.den:Int)) (y:=(q.den:Int)) (uS g1)<|uS g2;have d:=afW (den_pos p)<|den_pos q;refine r1 W (by simp[aj,aag,len]<;>omega) ?_;refine bW W (Lt (p.num*q.num) ((p.den:Int)*q.den) E E E) W<|r0 W ?_;rw[sn];exact bV W;refine r0 W<|bm U;refine r0 W<|bm U;refine ck W W (dX p c) W<|ck W W (dX q fq) W<|cj W W (mX p.num q.num (by unfold Ko;omega)<|by unfold Ko;omega) W ?_;refine cj W W (mX (p.den:Int) (q.den:Int) (by show(ah p.den).length<_;omega)<|by show(ah q.den).length<_;omega) W ?_;refine r0 W ?_;have d:=afW (den_pos p)<|den_pos q;have k:=iU p.num q.num h f;have j:=iU (p.den:Int) (q.den:Int) g e;refine bX W (gC (p.num*q.num) ((p.den:Int)*q.den) E E E) W ?_;rw[sn];refine k0 W aP<|bV W
def rC(p q:Rat)(b:Sz p K)(a:Sz q L)(t:K+L+1<2^34):ab 145 [.s<|qt p,.s<|qt q] (.s<|qt<|p+q):=by
 have e:=b.tf E;have fq:=a.tf E;have k:=b.1;have d:=b.2;have j:=a.1;have c:=a.2;refine cp func145 W<|cQ 4 [(0,.s<|qt p),(1,.s<|qt q)] True ?_ λ_=>?_;refine ck W W (pS p e) W<|ck W W (pS q fq) W<|r0 W<|iC 28 W ?_ ?_<;>intro g1;refine r0 W<|nS W W W ?_ ?_<;>intro g2;simp[g1,g2,if_true];have m1:=qW (y:=(q.den:Int)) (xG g1)<|uS g2;have m:=qW (y:=(p.den:Int)) (xG g2)<|uS g1;have l:=qW (x:=(p.den:Int)) (y:=(q.den:Int)) (uS g1)<|uS g2;have h:=afW (den_pos p)<|den_pos q;refine r1 W (by simp[aj,aag,len]<;>omega) ?_;refine bW W (Lt (p.num*q.den+q.num*p.den) ((p.den:Int)*q.den) E E E) W<|r0 W ?_;rw[pE];exact bV W;refine r0 W<|bm U;refine r0 W<|bm U;have i:=iU p.num (q.den:Int) k c;have r:=iU q.num (p.den:Int) j d;have o:=iU (p.den:Int) (q.den:Int) d c;have n:=BA (p.num*q.den) (q.num*p.den) i E;have h:=afW (den_pos p)<|den_pos q;have g:Ko (p.den:Int):=by show(ah p.den).length<_;omega
 have f:Ko (q.den:Int):=by show(ah q.den).length<_;omega
 refine ck W W (dX p e) W<|ck W W (dX q fq) W<|cj W W (mX p.num (q.den:Int) (by unfold Ko;omega) f) W ?_;refine cj W W (mX q.num (p.den:Int) (by unfold Ko;omega) g) W ?_;refine cj W W (Ow (p.num*q.den) (q.num*p.den) (by unfold Ko;omega)<|by unfold Ko;omega) W ?_;refine cj W W (mX (p.den:Int) (q.den:Int) g f) W<|cj W W (gC (p.num*q.den+q.num*p.den) ((p.den:Int)*q.den) E E E) W ?_;rw[pE];refine k0 W aP<|bV W
def GN(p q:Rat)(b:Sz p K)(a:Sz q L)(c:K+L+1<2^34):ab 67 [.s<|qt p,.s<|qt q] (.s<|qt<|p-q):=by refine cp func67 W<|ck W W (qV q<|a.tf E) W<|bW W (rC p (-q) b a.neg c) W<|r0 W ?_;rw[<-ahG];exact bV W
def Sz.sub(h:Sz p K)(a:Sz q L):Sz (p-q) (K+L+1):=by rw[ahG];exact h.add a.neg
def wW(p q:Rat):Int:=(p-q).num.sign
def ru(p q:Rat)(b:Sz p K)(a:Sz q L)(c:K+L+1<2^34):ab 146 [.s<|qt p,.s<|qt q] (.i<|wW p q):=by refine cp func146 W<|ck W W (GN p q b a c) W<|bW W (kY (p-q)<|(b.sub a).tf E) W<|cg W W
def Sz.inv(h:Sz q K):Sz q⁻¹ (K+1):=by unfold Sz;rw[Rat.num_inv,Rat.den_inv];constructor;rcases ahH q.num 0 with g|g|g;rw[Int.sign_eq_neg_one_of_neg g];simpa using ahi h.2;rw[g];simp[c6];rw[ah0 g];simpa using ahi h.2;split;rw[gX];simp;exact ahi h.1
def qP(q:Rat)(h:Sz q K)(b:K<2^34)(a:q≠0):ab 31 [.s<|qt q] (.s<|qt q⁻¹):=by have d:=h.1;have c:=h.2;have hn:=λh=>a<|agX.1 h;refine cp func31 W<|ck W W (dX q<|h.tf E) W<|ck W W (gC (q.den:Int) q.num hn (by grind) E) W<|r0 W ?_;rw[Rat.inv_def];exact bV W
def Tk(p q:Rat)(b:Sz p K)(a:Sz q L)(d:K+L+1<2^34)(c:q≠0):ab 24 [.s<|qt p,.s<|qt q] (.s<|qt<|p/q):=by refine cp func24 W<|ck W W (qP q a E c) W<|bW W (dY p q⁻¹ b a.inv E) W<|cg W W
def Sz.div(h:Sz p K)(a:Sz q L):Sz (p/q) (K+L+1):=by rw[Rat.div_def];exact h.mul a.inv
end
section
variable{s:cq}
def mS(s:cq):Bool:=s.all λc=>decide (48<=c.toNat/\c.toNat<=57)
def lB:mS s=true↔dG s:=by simp[mS,dG]
def Gj(s:cq)(hl:s.length<2^60):ab 261 [.s s] (.u<|mS s):=by
 refine cp func261 W<|r0 W<|ba (λi:Nat=>[(0,.s s),(3,.i i)]) (λi=>i<=s.length/\∀k,k<i->48<=(s.getD k 0).toNat/\(s.getD k 0).toNat<=57) (λi=>s.length-i) 0 ⟨aaQ _,λk h=>E⟩ ?_;rintro i⟨hi,l⟩;refine cm W W ?_ ?_<;>intro h;have d:i<s.length:=E;have a:(i:Int).toNat=i:=E;have b:¬(48<=(s.getD i 0).toNat/\(s.getD i 0).toNat<=57)->false=mS s:=by intro hn;symm;rw[Bool.eq_false_iff];intro g;have:=lB.1 g s[i]<|aaZ d;simp_all
 refine r1 W (by simp[aj,aag,a];omega) ?_;refine aF 14 W ?_ ?_<;>intro f;rw[a]at f;refine b7 W W<|b E;rw[a]at f;refine r1 W (by simp[aj,aag,a];omega) ?_;refine bY W ?_ ?_<;>intro e;rw[a]at e;refine b7 W W<|b E;rw[a]at e;refine r1 W (by simp[aj,aag];omega) ?_;refine aM (i+1) ⟨E,λk j=>?_⟩
 grind
 refine b7 W W ?_;show true=mS s;symm;rw[lB];intro c hc;obtain⟨k,j,rfl⟩:=af7 hc
 grind
def gg(s:cq):Bool:=if s.length=0 then false else if 1<s.length/\(s.getD 0 0).toNat=48 then false else mS s
def p9(s:cq)(hl:s.length<2^60):ab 187 [.s s] (.u<|gg s):=by
 have c:(0:Int).toNat=0:=W;refine cp func187 W<|cQ 2 [(0,.s s)] (gg s=mS s) ?_ λb=>?_;refine b6 W 6 W ?_ ?_<;>intro e;refine b7 W W ?_;show false=gg s;unfold gg;rw[aas E];have b:gg s=if 1<s.length/\(s.getD 0 0).toNat=48 then false else mS s:=by unfold gg;rw[aaq E]
 refine b6 W 10 W ?_ ?_<;>intro d;refine r1 W (by simp[aj];omega) ?_;refine bY W ?_ ?_<;>intro a;rw[c]at a;refine b7 W W ?_;show false=gg s
 grind
 rw[c]at a;refine r0 W<|bm (by grind);refine r0 W<|bm (by grind);refine ck W W (Gj s hl) W<|b7 W W ?_;rw[b];exact aw.refl _
def oG(h:gg s=true):dG s/\0<s.length:=by unfold gg at h;split at h;cases h;split at h;cases h;exact⟨lB.1 h,E⟩
def HH(h:dG s):isNeg s=false:=by refine decide_eq_false ?_;rintro⟨b,a⟩;have hm:s.getD 0 0∈s:=fP;have:=h _ hm;omega
def yW(h:dG s):bM s=s:=by unfold bM;rw[HH h];rfl
def ym(h:dG s):D3 s=cX s:=by unfold D3;rw[HH h,yW h];rfl
def xT(s:cq)(hs:dG s)(hl:s.length<2^46):ab 197 [.s s] (kO (cX s:Int)):=by have:=Br s (by rw[yW hs];exact hs) hl;rwa[ym hs]at this
def I6(b:cq)(e:aE b<b.length)(hu:dG (b.take<|aE b))(c:dG (b.drop<|aE b+1))(hl:b.length<2^46):
 ab 99 [.s b] (.bU [kO (cX (b.take<|aE b):Int),kO (cX (b.drop<|aE b+1):Int)]):=by
 refine cp func99 W<|ck W W (kX b E) W<|cm W W (λa=>aaF a E) λa=>?_;have d:((aE b:Nat):Int).toNat=aE b:=E;refine r1 W (by simp[aj];omega) ?_;refine cd W (by rw[d];rfl) (xT _ hu<|by simp;omega) W ?_;refine r1 W (by simp[aj];omega) ?_;refine cd W (by rw[acS];rfl) (xT _ c<|by simp;omega) W ?_;refine k0 W aP<|bV W
def FV{t:cq}(h:dG t):(ah<|cX t).length<=t.length+1:=by have b:=mL h;rcases gZ (cX t)with g|g;rw[g];simp;rcases acX (t.length+1) (ah<|cX t).length with a|a;rw[xL]at g;have:=adi (show 0<10 from fV) (show t.length<=9*((ah<|cX t).length-1)from E);omega;exact a
def iL(s:cq):Bool:=gg ((bM s).take<|aE<|bM s)&& !(isNeg s&&decide ((bM s).take (aE<|bM s)=[48]))
def jt(s:cq):Bool:= !decide (aE (bM s)<(bM s).length)||(gg ((bM s).drop<|aE (bM s)+1)&& !decide ((bM s).drop (aE (bM s)+1)=[48])&& !decide ((bM s).drop (aE (bM s)+1)=[49]))
def nP(s:cq):Bool:= !decide (aE (bM s)<(bM s).length)||decide (Nat.gcd (cX<|(bM s).take<|aE<|bM s) (cX<|(bM s).drop<|aE (bM s)+1)=1)
def aQ(s:cq):Int:=if iL s then(if jt s then(if 600<aE (bM s)\/aE (bM s)+601<(bM s).length then 4 else if nP s then 0 else 1)else 1)else 1
def check_sound(s:cq)(hl:s.length<2^45):ab 94 [.s s] (.i<|aQ s):=by
 have A:=yV s;have x:=qN<|bM s;have F:(0:Int).toNat=0:=W;refine cp func94 W<|cQ 3 [(0,.s s),(3,.s<|bM s)] True ?_ λ_=>?_;refine b6 W 12 W ?_ ?_<;>intro h;refine r1 W (by simp only[aj,aag];omega) ?_;refine bY W ?_ ?_<;>intro a;have hn:isNeg s=true:=by unfold isNeg;grind
 refine r1 W (by simp only[aj,aag];omega) ?_;exact eU U ⟨G,⟨W,aij SV.s<|by simp[bM,hn]⟩,U⟩;have hn:isNeg s=false:=by unfold isNeg;grind
 refine b8 W U ⟨G,⟨W,aij SV.s<|by simp[bM,hn]⟩,U⟩;have hn:isNeg s=false:=by unfold isNeg;simp_all
 refine b8 W U ⟨G,⟨W,aij SV.s<|by simp[bM,hn]⟩,U⟩;have u:((aE (bM s):Nat):Int).toNat=aE (bM s):=E;have n:(((aE (bM s):Nat):Int)+1).toNat=aE (bM s)+1:=E;refine cQ 2 [(0,.s s),(3,.s<|bM s),(4,.i<|aE<|bM s)] (iL s=true) ?_ λf=>?_;refine ck W W (kX (bM s) E) W<|r1 W (by simp only[aj,aag];omega) ?_;refine cl W (by rw[u];rfl) (p9 ((bM s).take<|aE<|bM s)<|by simp;omega) W ?_;refine r0 W<|iC 26 W ?_ ?_<;>intro h;have f:iL s=false:=by unfold iL;simp at h;simp[h]
 refine b7 W W<|cn ?_;unfold aQ;rw[f];rfl;have l:gg ((bM s).take<|aE<|bM s)=true:=by simpa using h
 have z:=(oG l).2;have y:0<s.length:=by simp at z;omega
 refine r1 W (by simp only[aj,aag];omega) ?_;refine aF 30 W ?_ ?_<;>intro a;have hn:isNeg s=true:=by unfold isNeg;grind
 refine r1 W (by simp only[aj,aag];omega) ?_;refine bY W ?_ ?_<;>intro b;rw[u]at b;have b:(bM s).take (aE<|bM s)=[48]:=b;have f:iL s=false:=by unfold iL;simp_all
 refine b7 W W<|cn ?_;unfold aQ;rw[f];rfl;rw[u]at b;have b:¬(bM s).take (aE<|bM s)=[48]:=b;refine r0 W<|bm (by unfold iL;simp_all);have hn:isNeg s=false:=by unfold isNeg;grind
 refine r0 W<|bm (by unfold iL;rw[hn,l];rfl);have e:aQ s=(if jt s then(if 600<aE (bM s)\/aE (bM s)+601<(bM s).length then 4 else if nP s then 0 else 1)else 1):=by unfold aQ;rw[f];rfl
 have p:∀k,((bM s).drop k).length<=s.length:=λk=>by simp;omega
 have o:∀k,((bM s).take k).length<=s.length:=λk=>by simp;omega
 refine cQ 1 [(0,.s s),(3,.s<|bM s),(4,.i<|aE<|bM s)] (jt s=true) ?_ λr=>?_;refine b6 W 41 W ?_ ?_<;>intro h;have j:aE (bM s)<(bM s).length:=E;have B:jt s=(gg ((bM s).drop<|aE (bM s)+1)&& !decide ((bM s).drop (aE (bM s)+1)=[48])&& !decide ((bM s).drop (aE (bM s)+1)=[49])):=by unfold jt;simp_all
 have c:jt s=false->(1:Int)=aQ s:=by grind
 have m:(List.take (bM s).length<|bM s)=bM s:=acS;refine r1 W (by simp only[aj,aag];omega) ?_;refine cl W (by rw[n,m];rfl) (p9 ((bM s).drop<|aE (bM s)+1)<|by grind) W ?_;refine r0 W<|iC 48 W ?_ ?_<;>intro g;refine b7 W W<|aij SV.i<|c fP;have g:gg ((bM s).drop<|aE (bM s)+1)=true:=by simpa using g
 refine r1 W (by simp only[aj,aag];omega) ?_;refine aF 55 W ?_ ?_<;>intro a;rw[n,m]at a;have a:(bM s).drop (aE (bM s)+1)=[48]:=a;refine b7 W W<|aij SV.i<|c<|by grind
 rw[n,m]at a;have a:¬(bM s).drop (aE (bM s)+1)=[48]:=a;refine r1 W (by simp only[aj,aag];omega) ?_;refine bY W ?_ ?_<;>intro b;rw[n,m]at b;have b:(bM s).drop (aE (bM s)+1)=[49]:=b;refine b7 W W<|aij SV.i<|c<|by grind
 rw[n,m]at b;have b:¬(bM s).drop (aE (bM s)+1)=[49]:=b;refine r0 W<|bm fP;have j:¬aE (bM s)<(bM s).length:=E;refine r0 W<|bm (by unfold jt;simp_all);rw[r]at e;refine cQ 1 [(3,.s<|bM s),(4,.i<|aE<|bM s)] (¬(600<aE (bM s)\/aE (bM s)+601<(bM s).length)) ?_ λC=>?_;have c:(600<aE (bM s)\/aE (bM s)+601<(bM s).length)->(4:Int)=aQ s:=fP;refine b6 W 65 W ?_ ?_<;>intro h;refine b7 W W<|aij SV.i<|c E;refine r1 W (by simp only[aj,aag,len]<;>omega) ?_;refine bY W ?_ ?_<;>intro a;refine b7 W W<|aij SV.i<|c E;refine r0 W<|bm E;rw[aas W,aaq C]at e;refine cm W W ?_ ?_<;>intro h;have j:aE (bM s)<(bM s).length:=E;have hu:dG ((bM s).take<|aE<|bM s):=by unfold iL at f;exact(oG<|by simp at f;exact f.1).1
 have v:dG ((bM s).drop<|aE (bM s)+1):=by unfold jt at r;rw[decide_eq_true j]at r;exact(oG fP).1
 have D:nP s=decide (Nat.gcd (cX<|(bM s).take<|aE<|bM s) (cX<|(bM s).drop<|aE (bM s)+1)=1):=by unfold nP;simp_all
 have d:∀t:cq,dG t->t.length<=600->(ah<|cX t).length<2^36:=by intro t g a;have:=FV g;omega
 refine ck W W (I6 (bM s) j hu v E) W<|ck W W (yM (cX<|(bM s).take<|aE<|bM s) (cX<|(bM s).drop<|aE (bM s)+1) (d _ hu fP)<|d _ v<|by grind) W ?_;rw[D]at e;have w:=BP (q:=Nat.gcd (cX<|(bM s).take<|aE<|bM s)<|cX<|(bM s).drop<|aE (bM s)+1);refine b6 W 90 W ?_ ?_<;>intro g;refine b7 W W<|cn ?_
 grind
 refine r1 W bk<|bY W ?_ ?_<;>intro a;refine b7 W W<|cn ?_;simp_all;refine b7 W W<|cn ?_
 grind
 have j:¬aE (bM s)<(bM s).length:=E;refine b7 W W<|cn ?_;rw[e];unfold nP;simp_all
end
def O5{t:cq}{c:UInt8}(h:t≠[]):(t++[c]).getD 0 0=t.getD 0 0:=Jy<|ags.2 h
def H7:∀(n:Nat)(s:cq),s.length=n->dG s->0<s.length->(1<s.length->(s.getD 0 0).toNat≠48)->decl (cX s) 1=s/\((s.getD 0 0).toNat≠48->0<cX s)
 |0,s,h,_,j,_=>E
 |n+1,s,h,k,j,m=>by
  obtain⟨t,c,rfl⟩:∃t c,s=t++[c]:=by
   have:=List.dropLast_concat_getLast (l:=s)<|ags.1 j
   grind
  have hc:=k c I;have d:TU (c.toNat-48)=c:=by apply agW.1;rw[vg E];omega
  rw[uV];by_cases i:t=[];subst i;have e:cX []=0:=W;rw[e];constructor;rw[bC E,show(10*0+(c.toNat-48))/10=0 from E,show(10*0+(c.toNat-48))%10=c.toNat-48 from E,d];rw[c7]
  grind
  have g:=ags.2 i;have b:=m (by simp;omega);rw[O5 i]at b;obtain⟨f,a⟩:=H7 n t (by simpa using h) (λx o=>k x<|by simp[o]) g λ_=>b;have a:=a b;constructor;rw[bC E,show(10*cX t+(c.toNat-48))/10=cX t from E,show(10*cX t+(c.toNat-48))%10=c.toNat-48 from E,d];rw[yG a,f];intro _;omega
def ES{s:cq}(h:gg s=true):decl (cX s) 1=s:=by have a:=oG h;refine(H7 _ s W a.1 a.2 λc b=>?_).1;unfold gg at h;simp_all
def Ii(s:cq):s=(if isNeg s then[45]else[])++bM s:=by
 unfold bM;by_cases h:isNeg s=true;rw[h];have a:=of_decide_eq_true h
 match s,a with
 |c::t,a=>have:c=45:=agW.1 a.2;subst this;rfl
 simp_all
def KQ{b:cq}(h:aE b<b.length):b=b.take (aE b)++47::b.drop (aE b+1):=by
 have a:=zw h;have e:b.getD (aE b) 0=b[aE b]:=fP;rw[e]at a
 conv=>lhs;rw[<-af3 (aE b) b,acJ h,a]
def Dc(q:Rat)(n:Nat):Prop:=(decl q.num.natAbs 1).length<=n/\(decl q.den 1).length<=n
def abI:cX [48]=0:=fV
def PB{s:cq}(h:aQ s=0):∃q:Rat,s=qt q/\Dc q 600:=by
 unfold aQ at h;split at h<;>try(cases h)
 rename_i x;split at h<;>try(cases h)
 rename_i w;split at h<;>try(cases h)
 split at h<;>try(cases h)
 rename_i v;have z:=qN<|bM s;simp only[iL,abi,af8]at x;obtain⟨u,g⟩:=x;have hu:=ES u;have k:((bM s).take<|aE<|bM s).length<=600:=fP;generalize l:cX ((bM s).take<|aE<|bM s)=a at hu;have d:isNeg s=true->a≠0:=by intro hn i;rw[hn,aeD]at g;have:=of_decide_eq_false g;rw[<-hu,i]at this;exact this (by simp[bC,c7];rfl)
 have key:∀b:Nat,b≠0->Nat.gcd a b=1->bM s=decl a 1++eG b->(decl b 1).length<=600->∃q:Rat,s=qt q/\Dc q 600:=by
  intro b A o e n;have f:(Cz (isNeg s) (a:Int)).natAbs.Coprime b:=by rw[mB];exact o
  refine⟨⟨Cz (isNeg s) (a:Int),b,A,f⟩,?_,?_,n⟩
  conv=>lhs;rw[Ii s,e]
  unfold qt vo bS;dsimp only;rw[mB];by_cases hn:isNeg s=true;have:=d hn;rw[aas hn,aas<|by rw[hn];simp[Cz];omega];rfl;simp[Bool.not_eq_true]at hn;rw[aaq<|by rw[hn];simp,aaq<|by rw[hn];simp[Cz]];rfl;show(decl (Cz (isNeg s) (a:Int)).natAbs 1).length<=600;rw[mB,hu];exact k
 by_cases m:aE (bM s)<(bM s).length;simp only[jt,decide_eq_true m,ahI,ag8,abi,af8]at w;obtain⟨⟨t,r⟩,p⟩:=w;have c:=ES t;have j:((bM s).drop<|aE (bM s)+1).length<=600:=by grind
 simp[nP,decide_eq_true m,ahI,ag8,decide_eq_true_eq,l]at v;generalize y:cX ((bM s).drop<|aE (bM s)+1)=b at c v;have C:b≠0:=by intro i;rw[i]at c;exact of_decide_eq_false r (by rw[<-c];simp[bC,c7];rfl)
 have B:b≠1:=by intro i;rw[i]at c;exact of_decide_eq_false p (by rw[<-c];simp[bC,c7];rfl)
 refine key b C v ?_ (by rw[c];exact j)
 conv=>lhs;rw[KQ m]
 rw[hu,qI B,c];refine key 1 fV I ?_ (by simp[bC,c7]);rw[hu];have:aE (bM s)=(bM s).length:=E;rw[this,acS];simp[eG]
def sQ{n k:Nat}(h:(decl n 1).length<=9*k):(ah n).length<=k:=by have b:=yH h;rcases gZ n with g|g;rw[g];simp;rcases acX k (ah n).length with a|a;rw[xL]at g;have:=adi (show 0<10 from fV) (show 9*k<=9*((ah n).length-1)from E);omega;exact a
def Dc.sz{q:Rat}(h:Dc q 600):Sz q 67:=⟨sQ (k:=67) (by have:=h.1;omega),sQ (k:=67) (by have:=h.2;omega)⟩
end Go.Ai
