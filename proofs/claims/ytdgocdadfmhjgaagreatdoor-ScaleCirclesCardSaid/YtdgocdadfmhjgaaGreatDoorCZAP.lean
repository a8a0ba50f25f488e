/- Parts of the proof of ScaleCircles (CheckRefused returns the error of the reference), at every input, with no further conditions. -/
import Derived.Test.YtdgocdadfmhjgaaGreatDoorCZAO
set_option linter.all false
set_option maxRecDepth 100000
set_option maxHeartbeats 0
namespace Go.Ai.Pg
open Go.Proofs Go.Ai Go.Ai.cY
def xh(p:kx)(rs:List hO)(b:iA)(S:List Int)(I:List (List Int)):SV:=
 .agg [.i p.n,.bT false 5 default dM p.aa,.ints .i64 false p.ints,.bT false 2 default fP rs,.i b.c,.i b.d,.i b.s,.i b.g,.ints .i64 true S,.bT true 1 [] (SV.ints .i64 true) I]
def ad4(p:kx)(rs:List hO)(b:iA):D3 (.box true<|.agg [.i p.n,.bT false 5 default dM p.aa,.ints .i64 false p.ints,.bT false 2 default fP rs,.i b.c,.i b.d,.i b.s,.i b.g,.nil,.nil]) (.box true<|xh p rs b [] []):=by have h1:D3 .nil (.ints .i64 true []):=.le (show an .nil (.ints .i64 true [])from rfl);have h2:D3 .nil (.bT true 1 [] (SV.ints .i64 true) []):=.le (show an .nil (.bT true 1 [] (SV.ints .i64 true) [])from rfl);exact .box<|.agg<|.cons (.refl _)<|.cons (.refl _)<|.cons (.refl _)<|.cons (.refl _)<|.cons (.refl _)<|.cons (.refl _)<|.cons (.refl _)<|.cons (.refl _)<|.cons h1<|.cons h2 .nil
noncomputable def iR(p:kx)(rs:List hO)(b:iA):Int:=if mD p rs≠0 then mD p rs else ov b
def JF(p:kx)(h:ye p)(rs:List hO)(hx:∀s∈rs,cR s.lo/\cR s.hi)(hl:rs.length<2^40)(b:iA)(he:iR p rs b≠0):
 aL Tryz.prog 40 [bh p,.bT false 2 default fP rs,ew b] (.bX [.c<|.pointer none,.i<|iR p rs b]):=by
 refine bE Tryz.func40 rfl<|r0 rfl<|bF rfl (uH p h rs hx hl) rfl<|r0 rfl<|bH rfl (λg=>?_) (λg=>?_)
 ·refine r0 rfl<|aG rfl ⟨rfl,congrArg SV.i<|by unfold iR;rw[if_pos g],ao⟩
 have e:iR p rs b=ov b:=by unfold iR;rw[if_neg g]
 refine r0 rfl<|bF rfl (Qf b) rfl<|r0 rfl<|bH rfl (λg2=>?_) λg2=>absurd (by rw[e]at he;exact he) g2;refine r0 rfl<|aG rfl ⟨rfl,congrArg SV.i e.symm,ao⟩
noncomputable def lA(rs:List hO)(b:iA):List Int:=rs.map λs=>mH (HD s) b.s
noncomputable def iU(rs:List hO)(b:iA)(u:bO):List Int:=(List.range u.ah.length).map λk=>x7 rs b u k
noncomputable def n6(rs:List hO)(b:iA)(us:List bO):List (List Int):=us.map<|iU rs b
noncomputable def WB(f:EY):Fr:=if bI f.dU<0 then⟨iS (fX<|bI f.dU).n,(fX<|bI f.dU).d⟩else fX (bI f.dU)
def Vh{f:EY}(h:aJ f.dU=0):gT (WB f) (mz<|bI f.dU)/\rQ (WB f) 600:=by
 obtain⟨-,h2⟩:=HY (fX<|bI f.dU) (dL _) (fH h).1 (by decide);rw[xX];unfold WB;by_cases g:bI f.dU<0
 ·rw[if_pos g,if_pos g];exact⟨h2,Hw (dL _)<|fH h⟩
 rw[if_neg g,if_neg g];exact⟨dL _,fH h⟩
def V6{a b:Rat}(hb:0<=b):mz (a*b)=b*mz a:=by
 rw[xX,xX];by_cases g:a<0
 ·have h1:0<=(-a)*b:=Rat.mul_nonneg (by grind) hb;split<;>grind
 have h1:0<=a*b:=Rat.mul_nonneg (by grind) hb
 grind
noncomputable def inF(p:kx)(rs:List hO)(b:iA)(j:Nat)(u:bO)(k:Nat):List (Nat×SV):=
 [(1,.bT false 2 default fP rs),(3,.box true<|bh p),(5,.box true<|ew b),(15,.ints .i64 true<|(iU rs b u).take k),(14,.box true<|dM u),(35,.box true<|xh p rs b (lA rs b)<|(n6 rs b p.aa).take j),(10,.bA 35 0 0 []),
  (65,.bT false 2 default pd u.ah),(66,.i u.ah.length),(67,.i k),(58,.bT false 5 default dM p.aa),(59,.i p.aa.length),(60,.i j)]
noncomputable def ad5(p:kx)(rs:List hO)(b:iA)(j:Nat):List (Nat×SV):=[(1,.bT false 2 default fP rs),(3,.box true<|bh p),(5,.box true<|ew b),(35,.box true<|xh p rs b (lA rs b)<|(n6 rs b p.aa).take j),(10,.bA 35 0 0 []),(58,.bT false 5 default dM p.aa),(59,.i p.aa.length),(60,.i j)]
def Xr(p:kx)(h:ye p)(rs:List hO)(hx:∀s∈rs,cR s.lo/\cR s.hi)(hl:rs.length<2^40)(b:iA)(he:iR p rs b=0)(hv:∀u∈p.aa,jc p.n u)(hr:RgV p.n rs)(qm:∀s∈rs,SpL s)(hb:Ov b)(h96:p.aa.length<=96)(hn:p.n<=100):
 aL Tryz.prog 40 [bh p,.bT false 2 default fP rs,ew b] (.bX [.box true<|xh p rs b (lA rs b)<|n6 rs b p.aa,.i 0]):=by
 have Aw:mD p rs=0:=by apply aeY;intro g;unfold iR at he;rw[if_pos g]at he;exact g he
 have dB:ov b=0:=by unfold iR at he;rwa[if_neg<|by rw[Aw];simp]at he
 have Nl:=hr.len;refine bE Tryz.func40 rfl<|r0 rfl<|bF rfl (uH p h rs hx hl) rfl ?_;rw[Aw];refine r0 rfl<|bH rfl (λg=>absurd rfl g) λ_=>?_;refine r0 rfl<|bF rfl (Qf b) rfl ?_;rw[dB];refine r0 rfl<|bH rfl (λg=>absurd rfl g) λ_=>?_;refine r0 rfl<|Kd [(1,.bT false 2 default fP rs),(3,.box true<|bh p),(5,.box true<|ew b),(35,.box true<|xh p rs b [] []),(10,.bA 35 0 0 []),(36,.bT false 2 default fP rs),(37,.i rs.length),(38,.i 0)]
  ⟨⟨rfl,rfl,.refl _⟩,⟨rfl,rfl,.refl _⟩,⟨rfl,rfl,.refl _⟩,⟨rfl,rfl,ad4 p rs b⟩,kL,⟨rfl,rfl,.refl _⟩,⟨rfl,rfl,.refl _⟩,⟨rfl,rfl,.refl _⟩,ao⟩<|loop (λi:Nat=>[(1,.bT false 2 default fP rs),(3,.box true<|bh p),(5,.box true<|ew b),(35,.box true<|xh p rs b ((lA rs b).take i) []),(10,.bA 35 0 0 []),(36,.bT false 2 default fP rs),(37,.i rs.length),(38,.i i)]) (λi=>i<=rs.length) (λi=>rs.length-i) 0 (abC _) ⟨ab,ab,ab,ab,kL,ab,ab,ab,ao⟩ ?_
 intro i hi;have wX:(lA rs b).length=rs.length:=by simp[lA]
 refine r0 rfl<|bH rfl (λg1=>?_) (λg1=>?_)
 ·have aZ:i<rs.length:=by omega
  have ei:(i:Int).toNat=i:=by omega
  have eg:rs.getD i default=rs[i]:=aw aZ;have hs:=qm _<|ab9 aZ;obtain⟨l1,l2⟩:=J7 hs;refine r1 rfl (by simp only[ag,and_true,ei];omega) ?_;rw[ei,eg];refine bG rfl (tN _ hs) rfl<|r0 rfl<|bG rfl (OZ _ l1 l2 (by decide) (ve _) b.s (by have:=hb.s;omega)) rfl ?_;refine k1 rfl (by kernel_rfl) (by simp only[ag,and_true,ac2,wX]<;>simp<;>omega) ?_;refine again (i+1) (by omega) (by omega) ⟨ab,ab,ab,⟨rfl,an.of_eq ?_⟩,kL,ab,ab,ab,ao⟩;have e:(lA rs b).take (i+1)=(lA rs b).take i++[mH (HD rs[i]) b.s]:=by rw[ac6<|by omega];simp[lA]
  rw[e];rfl
 have:i=rs.length:=by omega
 subst this;rw[<-wX,adF];refine r0 rfl ?_;have Nq:(n6 rs b p.aa).length=p.aa.length:=by simp[n6]
 refine loop (ad5 p rs b) (λj=>j<=p.aa.length) (λj=>p.aa.length-j) 0 (abC _) ⟨ab,ab,ab,ab,kL,ab,ab,ab,ao⟩ ?_;intro j hj;unfold ad5;refine r0 rfl<|bH rfl (λg2=>?_) (λg2=>?_)
 ·have CX:j<p.aa.length:=by omega
  have ej:(j:Int).toNat=j:=by omega
  have hum:p.aa[j]∈p.aa:=ab9 CX;have eu:p.aa.getD j default=p.aa[j]:=aw CX;refine r1 rfl (by simp only[ag,and_true,ej]<;>omega) ?_;rw[ej,eu];have hu:=hv _ hum;have CS:=(h.unit _ hum).ah;generalize hug:p.aa[j]=u at*;have RE:(iU rs b u).length=u.ah.length:=by simp[iU]
  refine loop (inF p rs b j u) (λk=>k<=u.ah.length) (λk=>u.ah.length-k) 0 (abC _) ⟨ab,ab,ab,ab,ab,ab,kL,ab,ab,ab,ab,ab,ab,ao⟩ ?_;intro k hk;unfold inF;refine r0 rfl<|bH rfl (λg3=>?_) (λg3=>?_)
  ·have gp:k<u.ah.length:=by omega
   have ek:(k:Int).toNat=k:=by omega
   have ef:u.ah.getD k default=u.ah[k]:=aw gp;have hfd:=hu.feed _<|ab9 gp;have hfd:=hu.feed _<|ab9 gp;have hix:x7 rs b u k=mH (Kl rs u.ah[k]) (if u.kind=bo/\k=0 then b.d else b.s):=by unfold x7;rw[ef]
   have htk:(iU rs b u).take (k+1)=(iU rs b u).take k++[x7 rs b u k]:=by rw[ac6<|by omega];simp[iU]
   obtain⟨f,hf⟩:∃f,u.ah[k]=f:=⟨_,rfl⟩;rw[hf]at hfd hix ef;obtain⟨f1,f2,f3,f4⟩:=hfd;obtain⟨n1,n2⟩:=HY (fX<|bI f.dU) (dL _) (fH f3).1 (by decide);obtain⟨m1,m2⟩:=Vh f3;refine rn 3 rfl<|b8 3 [(1,.bT false 2 default fP rs),(3,.box true<|bh p),(5,.box true<|ew b),(15,.ints .i64 true<|(iU rs b u).take k),(14,.box true<|dM u),(35,.box true<|xh p rs b (lA rs b)<|(n6 rs b p.aa).take j),(10,.bA 35 0 0 []),(65,.bT false 2 default pd u.ah),(66,.i u.ah.length),(67,.i k),(58,.bT false 5 default dM p.aa),(59,.i p.aa.length),(60,.i j),(16,.i k),(17,.box true<|pd f),(18,.box true<|eF<|WB f)] True ?_ λ_=>?_
   ·refine r1 rfl (by simp only[ag,and_true,ek]<;>omega) ?_;rw[ek,ef];refine bF rfl (qW f3) rfl<|r0 rfl<|bF rfl (PD _<|dL _) rfl<|r0 rfl ?_;have hs:(bI f.dU).num.sign<0↔bI f.dU<0:=by
     rw[afX];have:=agW (q:=bI f.dU);constructor<;>intro h<;>grind
    refine bH rfl (λh1=>?_) (λh1=>?_)
    ·have h1:=hs.1 h1;refine r0 rfl<|bF rfl n1 rfl<|r0 rfl ?_;have e:WB f=⟨iS (fX<|bI f.dU).n,(fX<|bI f.dU).d⟩:=by unfold WB;rw[if_pos h1]
     rw[e];exact aP ao ⟨ab,ab,ab,ab,ab,ab,kL,ab,ab,ab,ab,ab,ab,ab,ab,ab,ao⟩
    have h1:¬bI f.dU<0:=λh=>h1<|hs.2 h;have e:WB f=fX (bI f.dU):=by unfold WB;rw[if_neg h1]
    rw[e];refine r0 rfl<|aP ao ⟨ab,ab,ab,ab,ab,ab,kL,ab,ab,ab,ab,ab,ab,ab,ab,ab,ao⟩
   have yM:f.sh.toNat<rs.length:=by omega
   have er:rs.getD f.sh.toNat default=rs[f.sh.toNat]:=aw yM;have hsr:=qm _<|ab9 yM;obtain⟨l1,l2⟩:=J7 hsr;obtain⟨q1,q2⟩:=tM (ZA rs[f.sh.toNat]) (WB f) l1 m1 l2 m2;have Ks:HD rs[f.sh.toNat]*mz (bI f.dU)=Kl rs f:=by unfold Kl;rw[er,V6<|ve _]
   rw[Ks]at q1;have hL:∀m:Int,0<=m/\m<=40->aL Tryz.prog 92 [eF<|TQ (ZA rs[f.sh.toNat])<|WB f,.i m] (.i<|mH (Kl rs f) m):=λm hm=>OZ _ q1 q2 (by decide) (oS _) m (by omega);refine r0 rfl ?_;have aaJ:∀m:Int,0<=m/\m<=40->m=(if u.kind=bo/\k=0 then b.d else b.s)->an (.ints .i64 true<|(iU rs b u).take k++[mH (Kl rs f) m]) (.ints .i64 true<|(iU rs b u).take<|k+1):=by intro m hm e;refine an.of_eq ?_;rw[htk,hix,e]
   refine aC 84 rfl (λh1=>?_) (λh1=>?_)
   ·refine r0 rfl<|bH rfl (λh2=>?_) (λh2=>?_)
    ·have h2:u.kind=bo:=h2;have hc:b.d=(if u.kind=bo/\k=0 then b.d else b.s):=by rw[if_pos ⟨h2,by omega⟩]
     refine r1 rfl (by simp only[ag,and_true];omega) ?_;rw[er];refine bG rfl (tN _ hsr) rfl<|r0 rfl<|bG rfl (C5 _ _ l1 m1 l2 m2<|by decide) rfl<|r0 rfl<|bG rfl (hL b.d hb.d) rfl<|k1 rfl (by kernel_rfl) (by simp only[ag,and_true,ac2,RE]<;>simp<;>omega) ?_;exact again (k+1) (by omega) (by omega) ⟨ab,ab,ab,⟨rfl,aaJ _ hb.d hc⟩,ab,ab,kL,ab,ab,ab,ab,ab,ab,ao⟩
    have h2:¬u.kind=bo:=h2;have hc:b.s=(if u.kind=bo/\k=0 then b.d else b.s):=by rw[if_neg λh=>h2 h.1]
    refine r1 rfl (by simp only[ag,and_true];omega) ?_;rw[er];refine bG rfl (tN _ hsr) rfl<|r0 rfl<|bG rfl (C5 _ _ l1 m1 l2 m2<|by decide) rfl<|r0 rfl<|bG rfl (hL b.s hb.s) rfl<|k1 rfl (by kernel_rfl) (by simp only[ag,and_true,ac2,RE]<;>simp<;>omega) ?_;exact again (k+1) (by omega) (by omega) ⟨ab,ab,ab,⟨rfl,aaJ _ hb.s hc⟩,ab,ab,kL,ab,ab,ab,ab,ab,ab,ao⟩
   have hc:b.s=(if u.kind=bo/\k=0 then b.d else b.s):=by rw[if_neg λh=>h1 (by have:=h.2;show(k:Int)=0;omega)]
   refine r1 rfl (by simp only[ag,and_true];omega) ?_;rw[er];refine bG rfl (tN _ hsr) rfl<|r0 rfl<|bG rfl (C5 _ _ l1 m1 l2 m2<|by decide) rfl<|r0 rfl<|bG rfl (hL b.s hb.s) rfl<|k1 rfl (by kernel_rfl) (by simp only[ag,and_true,ac2,RE]<;>simp<;>omega) ?_;exact again (k+1) (by omega) (by omega) ⟨ab,ab,ab,⟨rfl,aaJ _ hb.s hc⟩,ab,ab,kL,ab,ab,ab,ab,ab,ab,ao⟩
  have:k=u.ah.length:=by omega
  subst this;have afj:(iU rs b u).take u.ah.length=iU rs b u:=by rw[<-RE,adF]
  rw[afj];refine r1 rfl (by simp only[ag,and_true,len,acZ,ac2,Nq]<;>omega) ?_;refine DZ (j+1) (by omega) (by omega) ⟨⟨rfl,rfl,.refl _⟩,⟨rfl,rfl,.refl _⟩,⟨rfl,rfl,.refl _⟩,⟨rfl,rfl,.box<|.agg<|.cons (.refl _)<|.cons (.refl _)<|.cons (.refl _)<|.cons (.refl _)<|.cons (.refl _)<|.cons (.refl _)<|.cons (.refl _)<|.cons (.refl _)<|.cons (.refl _)<|.cons (.row ?_) .nil⟩,kL,⟨rfl,rfl,.refl _⟩,⟨rfl,rfl,.refl _⟩,⟨rfl,rfl,.refl _⟩,ao⟩;have e:(n6 rs b p.aa).take (j+1)=(n6 rs b p.aa).take j++[iU rs b u]:=by rw[ac6<|by omega];simp[n6,hug]
  rw[c8,e,ac9];exact qp.refl _
 have:j=p.aa.length:=by omega
 subst this;rw[<-Nq,adF];refine r0 rfl<|bB rfl
def v8(f:Nat):SV:=.agg [.fn (.func f) [] []]
def v7(f:Nat):Value:=.agg #[.func (.func f) #[] #[]]
def Zp:Br:=[(bo,v7 173),(jJ,v7 174),(dQ,v7 175)]
def Xa:aL Tryz.prog 94 [] (.mp<|CA Zp):=by refine bE Tryz.func94 rfl<|r0 rfl<|ex rfl rfl rfl (J1 rfl) rfl<|r0 rfl<|ex rfl rfl rfl (tE (k:=bo) (v:=v7 173) (x:=v8 173) (.inl rfl) rfl Tryz.underlying174 Tryz.underlying9 rfl) rfl<|r0 rfl<|ex rfl rfl rfl (tE (k:=jJ) (v:=v7 174) (x:=v8 174) (.inl rfl) rfl Tryz.underlying174 Tryz.underlying9 rfl) rfl<|r0 rfl<|ex rfl rfl rfl (tE (k:=dQ) (v:=v7 175) (x:=v8 175) (.inl rfl) rfl Tryz.underlying174 Tryz.underlying9 rfl) rfl<|r0 rfl<|bB rfl
def YI(u:bO)(L:List Int)(n:Int)(b:iA):SV:=.agg [.s u.kind,.bT false 2 default pd u.ah,.i u.out,.s u.k,.strs false u.dD,.ints .i64 false L,.i n,.i b.c,.i b.d,.i b.s,.i b.g]
def cI(L:List Int)(b:iA)(u:bO):List Ou:=
 [⟨-1,-1,L.getD 0 0+40⟩,⟨(u.ah.getD 0 default).sh,-1,L.getD 0 0+b.g⟩,⟨-1,(u.ah.getD 0 default).sh,b.g-L.getD 0 0⟩,⟨u.out,-1,L.getD 1 0+L.getD 0 0-b.c⟩,
  ⟨-1,u.out,40+b.c-L.getD 0 0⟩,⟨u.out,(u.ah.getD 1 default).sh,b.g+L.getD 0 0-b.c⟩,⟨(u.ah.getD 1 default).sh,u.out,b.g-L.getD 0 0+b.c⟩]
def cA(L:List Int)(b:iA)(u:bO)(k:Nat):List Ou:=[⟨u.out,-1,L.getD k 0⟩,⟨u.out,(u.ah.getD k default).sh,b.g⟩,⟨(u.ah.getD k default).sh,u.out,b.g⟩]
def cT(L:List Int)(n:Int)(b:iA)(u:bO):List Ou:=[⟨n,-1,L.getD 0 0⟩,⟨-1,n,40⟩,⟨n,(u.ah.getD 0 default).sh,b.g⟩,⟨(u.ah.getD 0 default).sh,n,b.g⟩]
def Lim(x:Int):Prop:= -1000000<=x/\x<=1000000
def Xc(u:bO)(L:List Int)(n:Int)(b:iA)(hb:Ov b)(hf:u.ah.length=2)(hL:L.length=2)(hl:∀x∈L,Lim x):
 aL Tryz.prog 173 [YI u L n b] (.bT true 3 default mr<|cI L b u):=by
 obtain⟨x,y,rfl⟩:∃x y,L=[x,y]:=by
  match L,hL with
  |[x,y],_=>exact⟨x,y,rfl⟩
 have hx:=hl x (by simp);have hy:=hl y (by simp);unfold Lim at hx hy;have hg:=hb.g;have hc:=hb.c;have uF:Int.toNat 0=0:=rfl;have YJ:Int.toNat 1=1:=rfl;refine bE Tryz.func173 rfl<|k1 rfl (by kernel_rfl) (by simp[ag,and_true,uF,YJ,hf,acU,acY,ajv,ajo]<;>omega) ?_;exact aG rfl kL
def Xd(u:bO)(L:List Int)(n:Int)(b:iA)(hf:u.ah.length=L.length)(hL:L.length<=8):
 aL Tryz.prog 174 [YI u L n b] (.bT true 3 default mr<|(List.range u.ah.length).flatMap<|cA L b u):=by
 refine bE Tryz.func174 rfl<|r0 rfl<|loop (λk:Nat=>[(1,.box true<|YI u L n b),(3,.bT true 3 default mr<|(List.range k).flatMap<|cA L b u),(8,.bT false 2 default pd u.ah),(9,.i u.ah.length),(10,.i k)])
  (λk=>k<=u.ah.length) (λk=>u.ah.length-k) 0 (abC _) ⟨ab,ab,ab,ab,ab,ao⟩ ?_
 intro k hk;have RE:((List.range k).flatMap<|cA L b u).length<=k*3:=cJ (f:=cA L b u) (c:=3) (λk=>by simp[cA]) k;refine r0 rfl<|bH rfl (λh4=>?_) (λh4=>?_)
 ·have gp:k<u.ah.length:=by omega
  have ek:(k:Int).toNat=k:=by omega
  refine k1 rfl (by kernel_rfl) (by simp only[ag,and_true,ek,len,acZ,acU,acY]<;>omega) ?_;refine again (k+1) (by omega) (by omega) ⟨ab,⟨rfl,rfl,rfl,?_⟩,ab,ab,ab,ao⟩;rw[c8,iE,ac9,ek];exact jd.refl _
 have:k=u.ah.length:=by omega
 subst this;refine r0 rfl<|bB rfl
def Xb(u:bO)(L:List Int)(n:Int)(b:iA)(hf:u.ah.length=1)(hL:L.length=1):
 aL Tryz.prog 175 [YI u L n b] (.bT true 3 default mr<|cT L n b u):=by
 refine bE Tryz.func175 rfl<|k1 rfl (by kernel_rfl) (by simp[ag,hL]<;>omega) ?_;exact aG rfl kL
def PM(p:kx)(rs:List hO)(b:iA)(S:List Int)(I:List (List Int)):SV:=
 .agg [.i p.n,.bT false 5 default dM p.aa,.ints .i64 false p.ints,.bT false 2 default fP rs,.i b.c,.i b.d,.i b.s,.i b.g,.ints .i64 false S,.bT false 1 [] (SV.ints .i64 false) I]
def W2(rs:List hO)(b:iA){s:Nat}(h:s<rs.length):(lA rs b).getD s 0=OM rs b s:=by unfold lA OM;rw[aca,aca,af1,acL h];rfl
def Um(rs:List hO)(b:iA)(u:bO):(iU rs b u).length=u.ah.length:=by simp[iU]
def wU(rs:List hO)(b:iA)(u:bO){k:Nat}(h:k<u.ah.length):(iU rs b u).getD k 0=x7 rs b u k:=by unfold iU;rw[aca,af1,ajr h];rfl
def Un(rs:List hO)(b:iA)(us:List bO){i:Nat}(h:i<us.length):(n6 rs b us).getD i []=iU rs b us[i]:=by unfold n6;rw[aca,af1,acL h];rfl
def XX(rs:List hO)(b:iA)(u:bO){n:Int}(hu:jc n u)(hr:RgV n rs)(hl:rs.length<2^40)(bt:u.ah.length<2^40)(hb:Ov b):∀x∈iU rs b u,Lim x:=by intro x hx;unfold iU at hx;rw[ac0]at hx;obtain⟨k,hk,rfl⟩:=hx;have hk:=ae5.1 hk;obtain⟨-,c2,c3⟩:=ns rs b u k hu hk hr hl bt hb;unfold Lim;omega
def agl(rs:List hO)(b:iA)(u:bO)(h:u.ah.length=2):cI (iU rs b u) b u=Ik rs b u:=by unfold cI Ik;rw[wU rs b u<|by omega,wU rs b u<|by omega]
def agm(rs:List hO)(b:iA)(u:bO):(List.range u.ah.length).flatMap (cA (iU rs b u) b u)=(List.range u.ah.length).flatMap (th rs b u):=by
 have:∀k∈List.range u.ah.length,cA (iU rs b u) b u k=th rs b u k:=by intro k hk;unfold cA th;rw[wU rs b u<|ae5.1 hk]
 rw[List.flatMap_def,List.flatMap_def,adE this]
def agk(rs:List hO)(b:iA)(u:bO)(n:Int)(h:u.ah.length=1):cT (iU rs b u) n b u=N7 n rs b u:=by unfold cT N7;rw[wU rs b u<|by omega]
def xv(p:kx)(h:ye p)(n:Nat)(hn:p.n=n)(UH:n<=100)(X3:p.aa.length<=96)(hv:∀u∈p.aa,jc p.n u)(rs:List hO)(b:iA)(hr:RgV p.n rs)(hb:Ov b):
 aL Tryz.prog 41 [.box false<|PM p rs b (lA rs b)<|n6 rs b p.aa] (.bX [.bT true 3 default mr<|rr n p.aa rs b,.i ((n+ug p.aa p.aa.length:Nat):Int)]):=by
 have D8:=h.aa;have Nl:rs.length=n:=by have:=hr.len;omega
 have wX:(lA rs b).length=n:=by simp[lA,Nl]
 have Nq:(n6 rs b p.aa).length=p.aa.length:=by simp[n6]
 have hU:∀i,(hi:i<p.aa.length)->(xy ((n+ug p.aa i:Nat):Int) rs b<|p.aa.getD i default).length<=24:=by
  intro i hi;have hu:=hv _<|ab9 hi;rw[aw hi];unfold xy;split
  ·simp[Ik]
  split
  ·rename_i g;have:=cJ (f:=th rs b p.aa[i]) (c:=3) (λk=>by simp[th]) p.aa[i].ah.length;have:=(hu.add g).2.1;omega
  split
  ·simp[N7]
  simp
 have hto:∀i,i<=p.aa.length->(mv n p.aa rs b i).length<=200+24*i:=by
  intro i
  induction i with
  |zero=>intro _;have:=cJ (f:=DE rs b) (c:=2) (λk=>by simp[DE]) n;simp only[mv,ot,List.range_zero,List.flatMap_nil,adw];omega
  |succ i ih=>intro hi;have:=ih (by omega);have:=hU i (by omega);rw[oq,acW];omega
 refine bE Tryz.func41 rfl<|r0 rfl<|loop (λs:Nat=>[(0,.box false<|PM p rs b (lA rs b)<|n6 rs b p.aa),(4,.bT true 3 default mr<|ot rs b s),(14,.ints .i64 false<|lA rs b),(15,.i (lA rs b).length),(16,.i s)]) (λs=>s<=n) (λs=>n-s) 0 (abC _) ⟨ab,ab,ab,ab,ab,ao⟩ ?_;intro s hs;have ang:(ot rs b s).length<=s*2:=cJ (f:=DE rs b) (c:=2) (λk=>by simp[DE]) s;refine r0 rfl<|bH rfl (λh1=>?_) (λh1=>?_)
 ·have Nk:s<n:=by omega
  have es:(s:Int).toNat=s:=by omega
  have eg:=W2 rs b (show s<rs.length by omega);refine r1 rfl (by simp only[ag,and_true,es,wX,len,acZ,acU,acY]<;>omega) ?_;rw[es,eg];refine again (s+1) (by omega) (by omega) ⟨ab,⟨rfl,rfl,rfl,?_⟩,ab,ab,ab,ao⟩;rw[c8,ot,ot,iE,ac9];exact jd.refl _
 have:s=n:=by omega
 subst this;have h0:ot rs b s=mv s p.aa rs b 0:=by unfold mv;simp
 rw[h0];refine r0 rfl<|bF rfl Xa rfl<|r0 rfl<|loop (λi:Nat=>[(0,.box false<|PM p rs b (lA rs b)<|n6 rs b p.aa),(4,.bT true 3 default mr<|mv s p.aa rs b i),(7,.mp<|CA Zp),(8,.i ((s+ug p.aa i:Nat):Int)),(40,.bT false 5 default dM p.aa),(41,.i p.aa.length),(42,.i i)])
  (λi=>i<=p.aa.length) (λi=>p.aa.length-i) 0 (abC _) ⟨ab,ab,ab,⟨rfl,an.of_eq<|congrArg SV.i<|by rw[hn];simp[ug]⟩,ab,ab,ab,ao⟩ ?_
 intro i hi;refine r0 rfl<|bH rfl (λh1=>?_) (λh1=>?_)
 ·have aZ:i<p.aa.length:=by omega
  have ei:(i:Int).toNat=i:=by omega
  have eg:p.aa.getD i default=p.aa[i]:=aw aZ;have hu:=hv _<|ab9 aZ;have CS:=(h.unit _<|ab9 aZ).ah;have hlen:=hto i hi;have eR:=oq s p.aa rs b i;have KD:=Gx aZ;have Bg:=PU p.aa i;have hig:=Un rs b p.aa aZ;rw[eg]at eR;obtain⟨u,eu⟩:∃u,p.aa[i]=u:=⟨_,rfl⟩;rw[eu]at hu CS eR KD hig eg;have aiI:=XX rs b u hu hr (by omega) CS hb;have Pm:=Um rs b u;have kIA:=BC;have kIT:=wQ;have kAT:=BD;refine r1 rfl (by simp only[ag,and_true,ei]<;>omega) ?_;rw[ei,eg];by_cases h2:u.kind=bo
  ·have Pn:¬u.kind=dQ:=by rw[h2];exact kIT
   have RH:=(hu.int h2).1;rw[if_neg Pn]at KD;unfold xy at eR;rw[if_pos h2]at eR;refine Wp (v8 173) rfl rfl rfl (fW (k:=u.kind) (x:=v8 173) Tryz.underlying174 Tryz.underlying9 (v:=v7 173) (by rw[h2];rfl) rfl false) rfl ?_;refine r1 rfl (by simp only[ag,and_true,ei,Nq]<;>omega) ?_;rw[ei,hig];refine bG rfl (Xc u (iU rs b u) _ b hb RH (by omega) aiI) rfl ?_;rw[agl rs b u RH];refine k1 rfl (by kernel_rfl) (by simp only[ag,and_true,len,acZ,Ik,acU,acY];exact⟨λ_=>rfl,λ_=>rfl,by omega⟩) ?_;refine bH rfl (λh3=>absurd h3 Pn) λ_=>?_;refine r1 rfl (by simp only[ag,and_true]<;>omega) ?_;refine again (i+1) (by omega) (by omega) ⟨ab,⟨rfl,rfl,rfl,?_⟩,ab,⟨rfl,an.of_eq<|congrArg SV.i<|by rw[KD];rfl⟩,ab,ab,ab,ao⟩;rw[c8,eR,ac9];exact jd.refl _
  unfold xy at eR;rw[if_neg h2]at eR;by_cases h3:u.kind=jJ
  ·have Pn:¬u.kind=dQ:=by rw[h3];exact kAT
   rw[if_neg Pn]at KD;rw[if_pos h3]at eR;have hf8:=(hu.add h3).2.1;have bt:=cJ (f:=th rs b u) (c:=3) (λk=>by simp[th]) u.ah.length;refine Wp (v8 174) rfl rfl rfl (fW (k:=u.kind) (x:=v8 174) Tryz.underlying174 Tryz.underlying9 (v:=v7 174) (by rw[h3];rfl) rfl false) rfl ?_;refine r1 rfl (by simp only[ag,and_true,ei,Nq]<;>omega) ?_;rw[ei,hig];refine bG rfl (Xd u (iU rs b u) _ b Pm.symm<|by omega) rfl ?_;rw[agm rs b u];refine k1 rfl (by kernel_rfl) (by simp only[ag,and_true,len,acZ];exact⟨λ_=>rfl,λ_=>rfl,by omega⟩) ?_;refine bH rfl (λh4=>absurd h4 Pn) λ_=>?_;refine r1 rfl (by simp only[ag,and_true]<;>omega) ?_;refine again (i+1) (by omega) (by omega) ⟨ab,⟨rfl,rfl,rfl,?_⟩,ab,⟨rfl,an.of_eq<|congrArg SV.i<|by rw[KD];rfl⟩,ab,ab,ab,ao⟩;rw[c8,eR,ac9];exact jd.refl _
  rw[if_neg h3]at eR;have h4:u.kind=dQ:=by
   rcases hu.kind with g|g|g
   ·exact absurd g h2
   ·exact absurd g h3
   exact g
  rw[if_pos h4]at eR KD;have KA:=(hu.table h4).1;refine Wp (v8 175) rfl rfl rfl (fW (k:=u.kind) (x:=v8 175) Tryz.underlying174 Tryz.underlying9 (v:=v7 175) (by rw[h4];rfl) rfl false) rfl ?_;refine r1 rfl (by simp only[ag,and_true,ei,Nq]<;>omega) ?_;rw[ei,hig];refine bG rfl (Xb u (iU rs b u) _ b KA<|by omega) rfl ?_;rw[agk rs b u _ KA];refine k1 rfl (by kernel_rfl) (by simp only[ag,and_true,len,acZ,N7,acU,acY];exact⟨λ_=>rfl,λ_=>rfl,by omega⟩) ?_;refine bH rfl (λ_=>?_) λh5=>absurd h4 h5;refine r1 rfl (by simp only[ag,and_true]<;>omega) ?_;refine again (i+1) (by omega) (by omega) ⟨ab,⟨rfl,rfl,rfl,?_⟩,ab,⟨rfl,an.of_eq<|congrArg SV.i<|by rw[KD];omega⟩,ab,ab,ab,ao⟩;rw[c8,eR,ac9];exact jd.refl _
 have:i=p.aa.length:=by omega
 subst this;refine r0 rfl<|bB rfl
structure OpV(p:kx)(rs:List hO)(b:iA):Prop where
 al8:dR p=0
 n1:1<=p.n
 n:p.n<=100
 aa:p.aa.length<=96
 val:∀u∈p.aa,jc p.n u
 rg:RgV p.n rs
 sp:∀s∈rs,SpL s
 bn:Ov b
def QU{p:kx}(h:dR p=0):1<=p.n/\p.n<=100/\p.aa.length<=96/\∀u∈p.aa,jc p.n u:=by
 unfold dR at h;split at h
 ·cases h
 rename_i h1;split at h
 ·cases h
 rename_i h2;split at h
 ·rename_i h3;exact absurd h h3
 rename_i h3;refine⟨by omega,by omega,by omega,λu hu=>?_⟩;exact qw<|dG.1 (by simpa using h3) u hu
def tH{p:kx}{rs:List hO}{b:iA}(h:iR p rs b=0):OpV p rs b:=by
 have h1:mD p rs=0:=by apply aeY;intro g;unfold iR at h;rw[if_pos g]at h;exact g h
 have h2:ov b=0:=by unfold iR at h;rwa[if_neg<|by rw[h1];simp]at h
 have h3:dR p=0:=by apply aeY;intro g;unfold mD at h1;rw[if_pos g]at h1;exact g h1
 have h4:jh p.n rs=0:=by unfold mD at h1;rwa[if_neg<|by rw[h3];simp]at h1
 obtain⟨a1,a2,a3,a4⟩:=QU h3;refine⟨h3,a1,a2,a3,a4,Hd h4,λs hs=>?_,AR.1 h2⟩;unfold jh at h4;split at h4
 ·cases h4
 exact SX<|dG.1 h4 s hs
def MJ(p:kx)(h:ye p)(rs:List hO)(hx:∀s∈rs,cR s.lo/\cR s.hi)(hl:rs.length<2^40)(b:iA)(he:iR p rs b=0):
 aL Tryz.prog 40 [bh p,.bT false 2 default fP rs,ew b] (.bX [.box true<|xh p rs b (lA rs b)<|n6 rs b p.aa,.i 0]):=
 have v:=tH he
 Xr p h rs hx hl b he v.val v.rg v.sp v.bn v.aa v.n
def FV(p:kx)(h:ye p)(rs:List hO)(hx:∀s∈rs,cR s.lo/\cR s.hi)(hl:rs.length<2^40)(b:iA)(he:iR p rs b=0):
 aL Tryz.prog 10 [bh p,.bT false 2 default fP rs,ew b] (.bX [.ints .i64 false<|lA rs b,.bT false 1 [] (SV.ints .i64 false)<|n6 rs b p.aa,.i 0]):=by
 refine bE Tryz.func10 rfl<|r0 rfl<|bF rfl (MJ p h rs hx hl b he) rfl<|r0 rfl<|bH rfl (λg=>absurd rfl g) λ_=>?_;refine qB (r:=9) (p:=[]) rfl rfl ao<|k0 rfl (by kernel_rfl)<|bB rfl
def Lu(p:kx)(h:ye p)(rs:List hO)(hx:∀s∈rs,cR s.lo/\cR s.hi)(hl:rs.length<2^40)(b:iA)(he:iR p rs b=0):
 aL Tryz.prog 11 [bh p,.bT false 2 default fP rs,ew b] (.bX [.bT true 3 default mr<|rr p.n.toNat p.aa rs b,.i 0]):=by
 have v:=tH he;have hn:p.n=(p.n.toNat:Int):=by have:=v.n1;omega
 refine bE Tryz.func11 rfl<|r0 rfl<|bF rfl (MJ p h rs hx hl b he) rfl<|r0 rfl<|bH rfl (λg=>absurd rfl g) λ_=>?_;refine r0 rfl<|call rfl rfl ao (xv p h p.n.toNat hn (by have:=v.n;omega) v.aa v.val rs b v.rg v.bn) rfl ⟨λ_=>rfl,ao⟩ ?_;refine r0 rfl<|bB rfl
end Go.Ai.Pg
namespace Go.Ai
open Go.Proofs Go.RowKit
def DS:Bool->Bool->Bool
 |true,b=>b
 |false,true=>false
 |false,false=>true
def zr{a b:Bool}(h:DS a b=true):a=b:=by cases a<;>cases b<;>simp_all[DS]
def Ul:Int->Int->Bool
 |.ofNat a,.ofNat b=>Nat.beq a b
 |.negSucc a,.negSucc b=>Nat.beq a b
 |_,_=>false
def Uk{a b:Int}(h:Ul a b=true):a=b:=by
 cases a<;>cases b<;>first
  |(rw[adi h])
  |cases h
def yo:bK->bK->Bool
 |[],[]=>true
 |a::x,b::y=>match Nat.beq a.toNat b.toNat with
  |true=>yo x y
  |false=>false
 |_,_=>false
def Fa:∀{a b:bK},yo a b=true->a=b
 |[],[],_=>rfl
 |[],_::_,h=>by simp[yo]at h
 |_::_,[],h=>by simp[yo]at h
 |a::x,b::y,h=>by
  unfold yo at h;split at h
  ·rename_i e;rw[Fa h,ahH.1<|adi e]
  cases h
def SF:Value->Value->Bool
 |.pointer none,.pointer none=>true
 |.map none,.map none=>true
 |.nilFunc,.nilFunc=>true
 |.nilIface,.nilIface=>true
 |_,_=>false
def SE{a b:Value}(h:SF a b=true):a=b:=by unfold SF at h;split at h<;>first|rfl|cases h
def can:SV->SV
 |.fe _ []=>.nil
 |.fe k (x::xs)=>.row false 1 ((x::xs).map<|.n k)
 |.ints k o xs=>.row o 1 (xs.map<|.n k)
 |.strs o xs=>.row o 1 (xs.map .s)
 |.b9 o xs=>.row o 1 (xs.map .b)
 |.bT o sz _ e xs=>.row o sz (xs.map e)
 |.u x=>.b x
 |x=>x
def P8(x:SV):(can x).den=x.den:=by
 cases x<;>try rfl
 case fe k xs=>cases xs<;>simp[can,SV.den,flm,szm,fl,bV]
 all_goals simp[can,SV.den,bV]
def allEq(f:SV->SV->Bool):List SV->List SV->Bool
 |[],[]=>true
 |x::xs,y::ys=>match f x y with
  |true=>allEq f xs ys
  |false=>false
 |_,_=>false
def acz(f:SV->SV->Bool):SV->SV->Bool
 |.n k a,.n k' b=>cW (sQ k k') (Ul a b)
 |.b a,.b b=>DS a b
 |.s a,.s b=>yo a b
 |.c a,.c b=>SF a b
 |.nil,.nil=>true
 |.row o sz xs,.row o' gC ys=>cW (DS o o') (cW (Nat.beq sz gC)<|allEq f xs ys)
 |.agg xs,.agg ys=>allEq f xs ys
 |.bX xs,.bX ys=>allEq f xs ys
 |.box o x,.box o' y=>cW (DS o o') (f x y)
 |.fn (.func g) xs ys,.fn (.func g') rY Qm=>cW (Nat.beq g g') (cW (allEq f xs rY)<|allEq f ys Qm)
 |_,_=>false
def PR:Nat->SV->SV->Bool
 |0,_,_=>false
 |n+1,x,y=>acz (PR n) (can x)<|can y
def j5{f:SV->SV->Bool}(hf:∀x y,f x y=true->x.den=y.den):∀{xs ys:List SV},allEq f xs ys=true->au xs=au ys
 |[],[],_=>rfl
 |[],_::_,h=>by simp[allEq]at h
 |_::_,[],h=>by simp[allEq]at h
 |x::xs,y::ys,h=>by
  unfold allEq at h;split at h
  ·rename_i e;simp[au,hf _ _ e,j5 hf h]
  cases h
def VF{f:SV->SV->Bool}(hf:∀x y,f x y=true->x.den=y.den){x y:SV}(h:acz f x y=true):x.den=y.den:=by
 unfold acz at h;split at h
 ·rw[aN]at h;rw[nr h.1,Uk h.2]
 ·rw[zr h]
 ·rw[Fa h]
 ·rw[SE h]
 ·rfl
 ·rw[aN,aN]at h;simp[SV.den,zr h.1,adi h.2.1,j5 hf h.2.2]
 ·simp[SV.den,j5 hf h]
 ·simp[SV.den,j5 hf h]
 ·rw[aN]at h;simp[SV.den,zr h.1,hf _ _ h.2]
 ·rw[aN,aN]at h;simp[SV.den,adi h.1,j5 hf h.2.1,j5 hf h.2.2]
 cases h
def Gs:∀{n:Nat}{x y:SV},PR n x y=true->x.den=y.den
 |0,_,_,h=>by simp[PR]at h
 |n+1,x,y,h=>by rw[<-P8 x,<-P8 y];exact VF (λ_ _ h=>Gs h) h
def aL.shr{P:Program}{f:FuncId}{aas:List SV}{r:SV}(h:aL P f aas r):aL P f aas r.bw:=by
 intro w S vs hG hS hc;intro rd o a next Q hn
 refine h w S vs hG hS hc rd o a next Q λv w'⟨S',F,h1,h2,h3,h4,h5,h6,h7⟩=>hn v w' ?_
 refine⟨λb=>S' b\/b∈F,[],h1,λb hb=>.inl<|h2 b hb,λb hb=>?_,λb hb=>?_,?_,adn,λb hb=>by simp at hb⟩
 ·rcases hb with hb|hb
  ·exact h3 b hb
  exact .inr (h7 b hb).1
 ·rcases hb with hb|hb
  ·exact h4 b hb
  exact(h7 b hb).2.1
 rw[<-fS];exact Rel.share (λb hb=>.inl hb) _ h5 λb hb=>.inr hb
abbrev zE:=FuncId×List SV×SV
def CF:List zE->qj
 |[],_,_=>none
 |(g',as',r)::L,g,aas=>match Nat.beq g g' with
  |true=>match allEq (PR 100) aas as' with
   |true=>some r
   |false=>CF L g aas
  |false=>CF L g aas
def Zj(P:Program):List zE->Prop
 |[]=>True
 |(g,aas,r)::L=>aL P g aas r/\Zj P L
def oO{P:Program}:∀{L:List zE},Zj P L->∀{g:FuncId}{aas:List SV}{r:SV},CF L g aas=some r->aL P g aas r
 |[],_,_,_,_,h=>by simp[CF]at h
 |(g',as',r')::L,hL,g,aas,r,h=>by
  unfold CF at h;split at h
  ·rename_i e1;split at h
   ·rename_i e2;simp at h;rw[adi e1,<-h];exact hL.1.same (j5 (λ_ _ h=>Gs h) e2).symm rfl
   exact oO hL.2 h
  exact oO hL.2 h
def orK(T T':qj):qj:=λg aas=>match T g aas with
 |some r=>some r
 |none=>T' g aas
def QY{P:Program}{T T':qj}(h:∀g aas r,T g aas=some r->aL P g aas r)(h':∀g aas r,T' g aas=some r->aL P g aas r):∀g aas r,orK T T' g aas=some r->aL P g aas r:=by
 intro g aas r e;unfold orK at e;split at e
 ·rename_i e1;cases e;simp_all
 simp_all
end Go.Ai
namespace Go.Ai.Pg
open Go.Proofs Go.Ai Go.Ai.cY
def cAt(cs:List Ou)(i:Int):Ou:=cs.getD i.toNat default
def aaW(cs:List Ou)(l:List Int):Int:=(l.map λi=>(cAt cs i).iT).sum
def abl(cs:List Ou):Int->List Int->Prop
 |_,[]=>True
 |p,i::l=>(cAt cs i).adN=(cAt cs p).less/\abl cs i l
instance agK(cs:List Ou):∀p l,Decidable (abl cs p l)
 |_,[]=>.isTrue ao
 |p,i::l=>@instDecidableAnd _ _ _<|agK cs i l
def aav(cs:List Ou)(i:Int):Bool:=decide (i<0\/(cs.length:Int)<=i)
def abD(cs:List Ou)(l:List Int):Int:=if l.length=0 then 12 else if 256<l.length then 5 else if∃i∈l,aav cs i=true then 10 else if¬abl cs (l.getD (l.length-1) 0) l then 20 else if 0<=aaW cs l then 20 else 0
def abU(cs:List Ou):Prop:=∀c∈cs,-100000<=c.iT/\c.iT<=100000
def abY{cs:List Ou}(h:abU cs)(i:Int): -100000<=(cAt cs i).iT/\(cAt cs i).iT<=100000:=by
 unfold cAt;rw[aca];cases e:cs[i.toNat]?with
 |none=>exact⟨by decide,by decide⟩
 |some c=>exact h c<|agr e
def abc{cs:List Ou}{l:List Int}{i:Nat}(h:i<l.length):aaW cs (l.take<|i+1)=aaW cs (l.take i)+(cAt cs l[i]).iT:=by unfold aaW;rw[ac6 h];simp only[ac9,List.sum_append,ado,afI,List.sum_cons,List.sum_nil,Int.add_zero]
def abW{cs:List Ou}(h:abU cs)(l:List Int): -100000*l.length<=aaW cs l/\aaW cs l<=100000*l.length:=by
 induction l with
 |nil=>simp[aaW]
 |cons i l ih=>have:=abY h i;unfold aaW at*;simp;omega
def abe{cs:List Ou}{l:List Int}{i:Nat}{p:Int}(h:i<l.length):abl cs p (l.drop i)↔(cAt cs l[i]).adN=(cAt cs p).less/\abl cs l[i] (l.drop<|i+1):=by rw[ac4 h];rfl
def abq{cs:List Ou}{i:Int}(h:¬aav cs i=true):0<=i/\i.toNat<cs.length:=by unfold aav at h;simp at h;omega
def abk(cs:List Ou)(l:List Int)(hb:abU cs)(hc:cs.length<2^40)(hl:l.length<2^60):aL Tryz.prog 16 [.bT false 3 default mr cs,.ints .i64 false l] (.i<|abD cs l):=by
 unfold abD;refine bE Tryz.func16 rfl<|r0 rfl<|bH rfl (λh1=>?_) (λh1=>?_)
 ·refine r0 rfl ?_;rw[if_pos<|by omega];exact bB rfl
 rw[if_neg<|by omega];refine r0 rfl<|bH rfl (λh2=>?_) (λh2=>?_)
 ·refine r0 rfl ?_;rw[if_pos<|by omega];exact bB rfl
 rw[if_neg<|by omega];refine r0 rfl<|loop (λi:Nat=>[(0,.bT false 3 default mr cs),(1,.ints .i64 false l),(4,.i 0),(5,.i<|aaW cs<|l.take i),(6,.i i)]) (λi=>i<=l.length/\∀j,(h:j<l.length)->j<i->¬aav cs l[j]=true) (λi=>l.length-i) 0 ⟨abC _,λj _ h=>absurd h<|by omega⟩ ⟨ab,ab,ab,ab,ab,ao⟩ ?_;rintro i⟨hi,hf⟩;have ei:(i:Int).toNat=i:=by omega
 refine r0 rfl<|bH rfl (λh3=>?_) (λh3=>?_)
 ·have aZ:i<l.length:=by omega
  have eg:l.getD i 0=l[i]:=aw aZ;have hs:=abW hb<|l.take i;have eR:=abc (cs:=cs) aZ;have hm:=abY hb l[i];rw[ac2]at hs;refine r1 rfl (by simp only[ag,and_true,ei]<;>omega) ?_;rw[ei,eg];refine aC 26 rfl (λg=>?_) (λg=>?_)
  ·refine r0 rfl ?_;rw[if_pos ⟨l[i],ab9 aZ,by unfold aav;exact decide_eq_true<|.inl g⟩];exact bB rfl
  refine r1 rfl (by simp only[ag,and_true,ei]<;>omega) ?_;rw[ei,eg];refine bH rfl (λg2=>?_) (λg2=>?_)
  ·refine r0 rfl ?_;rw[if_pos ⟨l[i],ab9 aZ,by unfold aav;exact decide_eq_true<|.inr g2⟩];exact bB rfl
  refine r1 rfl (by simp only[ag,and_true,ei,eg]<;>unfold cAt at hm<;>omega) ?_;refine again (i+1) (by omega) ⟨by omega,λj hj hji=>?_⟩ ⟨ab,ab,ab,⟨rfl,bC ?_⟩,ab,ao⟩
  ·by_cases e:j=i
   ·subst e;unfold aav;simp only[decide_eq_true_eq];omega
   exact hf j hj (by omega)
  rw[eR,ei,eg];rfl
 have ei':i=l.length:=by omega
 subst ei';rw[adF];have jj:∀j,(h:j<l.length)->0<=l[j]/\l[j].toNat<cs.length:=λj h=>abq<|hf j h h;rw[if_neg (by rintro⟨x,hx,Ev⟩;obtain⟨j,hj,rfl⟩:=ag3 hx;exact hf j hj hj Ev)];have el:((l.length:Int)-1).toNat=l.length-1:=by omega
 have aaJ:=jj (l.length-1) (by omega);have egl:l.getD (l.length-1) 0=l[l.length-1]:=aw (by omega);refine r1 rfl (by simp only[ag,and_true,el]<;>omega) ?_;rw[el];refine loop (λz:Nat×Int=>[(0,.bT false 3 default mr cs),(1,.ints .i64 false l),(4,.i 0),(5,.i<|aaW cs l),(7,.i z.2),(8,.i z.1)]) (λz=>z.1<=l.length/\(0<=z.2/\z.2.toNat<cs.length)/\(abl cs (l.getD (l.length-1) 0) l↔abl cs z.2 (l.drop z.1))) (λz=>l.length-z.1) (0,l.getD (l.length-1) 0) ⟨abC _,by rw[egl];exact aaJ,Iff.rfl⟩ ⟨ab,ab,ab,ab,ab,ab,ao⟩ ?_;rintro⟨i,p⟩⟨hi,hp,hr⟩;dsimp only at hi hp hr⊢;have ei:(i:Int).toNat=i:=by omega
 refine r0 rfl<|bH rfl (λh4=>?_) (λh4=>?_)
 ·have aZ:i<l.length:=by omega
  have eg:l.getD i 0=l[i]:=aw aZ;have hx:=jj i aZ;rw[abe aZ]at hr;refine k1 rfl (by kernel_rfl) (by simp only[ag,and_true,ei,eg]<;>omega) ?_;rw[ei,eg];refine bH rfl (λg=>?_) (λg=>?_)
  ·refine r0 rfl ?_;rw[if_pos<|by rw[hr];exactλh=>g h.1];exact bB rfl
  have g:(cAt cs l[i]).adN=(cAt cs p).less:=ag0.1 g;refine r1 rfl (by simp only[ag,and_true,ei,eg]<;>omega) ?_;rw[ei,eg];refine again (i+1,l[i]) (by dsimp only;omega) ⟨by dsimp only;omega,hx,by rw[hr];exact and_iff_right g⟩ ⟨ab,ab,ab,ab,ab,ab,ao⟩
 have ei':i=l.length:=by omega
 subst ei';rw[aey]at hr;rw[if_neg<|not_not_intro<|hr.2 ao];refine r0 rfl<|bH rfl (λg=>?_) (λg=>?_)
 ·refine r0 rfl ?_;rw[if_pos<|by omega];exact bB rfl
 refine r0 rfl ?_;rw[if_neg<|by omega];exact bB rfl
def abR(cs:List Ou)(hc:cs.length<2^40)(k:Int):aL Tryz.prog 47 [.i k,.box false<|.bT false 3 default mr cs] (.u<|aav cs k):=by
 refine bE Tryz.func47 rfl<|r0 rfl<|aC 6 rfl (λg=>?_) (λg=>?_)
 ·refine r0 rfl<|aG rfl (show true=aav cs k from(decide_eq_true<|.inl g).symm)
 refine r1 rfl (by simp[ag]<;>omega) ?_;refine aG rfl<|an.of_eq<|congrArg SV.u ?_;unfold aav;rw[decide_eq_decide];omega
def abV(cs:List Ou)(hc:cs.length<2^40)(l:List Int)(hl:l.length<2^60):aL Tryz.prog 102 [.ints .i64 false l,.fn (.func 47) [] [.box false<|.bT false 3 default mr cs]] (.i<|rN (aav cs) l 0):=by
 refine bE Tryz.func102 rfl<|r0 rfl<|loop (λi:Nat=>[(0,.ints .i64 false l),(1,.fn (.func 47) [] [.box false<|.bT false 3 default mr cs]),(7,.i l.length),(8,.i i)]) (λi=>i<=l.length/\rN (aav cs) l 0=rN (aav cs) (l.drop i) i) (λi=>l.length-i) 0 ⟨abC _,rfl⟩ ⟨ab,ab,ab,ab,ao⟩ ?_;rintro i⟨hi,hf⟩;refine r0 rfl<|bH rfl (λh=>?_) (λh=>?_)
 ·have aZ:i<l.length:=by omega
  have ei:(i:Int).toNat=i:=by omega
  rw[C9 _ aZ]at hf;refine r1 rfl (by simp[ag,ei];omega) ?_;refine bF rfl (abR cs hc _) rfl ?_;rw[ei,aw aZ];refine nB rfl rfl rfl (λh2=>?_) (λh2=>?_)
  ·refine r0 rfl<|aG rfl<|bC ?_;rw[hf,if_pos h2]
  refine r1 rfl (by simp[ag,and_true];omega) ?_;refine again (i+1) (by omega) ⟨by omega,?_⟩ ⟨ab,ab,ab,ab,ao⟩;rw[hf,if_neg<|by rw[h2];simp]
 refine r0 rfl<|aG rfl<|bC ?_;rw[hf,ad3<|by omega];rfl
def abo(cs:List Ou)(hc:cs.length<2^40)(l:List Int)(hl:l.length<2^60):aL Tryz.prog 46 [.ints .i64 false l,.fn (.func 47) [] [.box false<|.bT false 3 default mr cs]] (.u<|decide (∃i∈l,aav cs i=true)):=by refine bE Tryz.func46 rfl<|r0 rfl<|bF rfl (abV cs hc l hl) rfl<|r0 rfl<|aG rfl<|an.of_eq<|congrArg SV.u ?_;rw[decide_eq_decide,rb _ _ _<|adq 0]
def abm(p:kx)(h:ye p)(rs:List hO)(hx:∀s∈rs,cR s.lo/\cR s.hi)(hl:rs.length<2^40)(b:iA)(he:iR p rs b≠0)(l:List Int):
 aL Tryz.prog 17 [bh p,.bT false 2 default fP rs,ew b,.ints .i64 false l] (.i<|iR p rs b):=by
 refine bE Tryz.func17 rfl<|r0 rfl<|bF rfl (JF p h rs hx hl b he) rfl<|r0 rfl<|bH rfl (λ_=>?_) λg=>absurd he g;refine r0 rfl<|bB rfl
def abF(p:kx)(h:ye p)(rs:List hO)(hx:∀s∈rs,cR s.lo/\cR s.hi)(Nl:rs.length<2^40)(b:iA)(he:iR p rs b=0)(cs:List Ou)(ec:rr p.n.toNat p.aa rs b=cs)(hb:abU cs)(hc:cs.length<2^40)(l:List Int)(hl:l.length<2^60):
 aL Tryz.prog 17 [bh p,.bT false 2 default fP rs,ew b,.ints .i64 false l] (.i<|abD cs l):=by
 have v:=tH he;have hn:p.n=(p.n.toNat:Int):=by have:=v.n1;omega
 have o5:=xv p h p.n.toNat hn (by have:=v.n;omega) v.aa v.val rs b v.rg v.bn;rw[ec]at o5;have o5:aL Tryz.prog 41 [.box false<|PM p rs b (lA rs b)<|n6 rs b p.aa] (.bX [.bT false 3 default mr cs,.i ((p.n.toNat+ug p.aa p.aa.length:Nat):Int)]):=o5.shr.same rfl rfl;refine bE Tryz.func17 rfl<|r0 rfl<|bF rfl (MJ p h rs hx Nl b he) rfl<|r0 rfl<|bH rfl (λg=>absurd rfl g) λ_=>?_;refine r0 rfl<|bF rfl o5 rfl<|rno 7 rfl ao<|qB (r:=11) (p:=[]) rfl rfl ao<|r0 rfl<|bF rfl (abo cs hc l hl) rfl<|r0 rfl<|bF rfl (WG _ 12) rfl<|r0 rfl<|bF rfl (WG _ 5) rfl<|r0 rfl<|bF rfl (WG _ 10) rfl<|r0 rfl<|bF rfl (Vg _<|by simp) rfl<|r0 rfl ?_;unfold abD;have key:aK id [if decide ((l.length:Int)=0)then(12:Int)else 0,if decide ((256:Int)<l.length)then 5 else 0,if decide (∃i∈l,aav cs i=true)then 10 else 0]=if l.length=0 then 12 else if 256<l.length then 5 else if∃i∈l,aav cs i=true then 10 else 0:=by
  by_cases h1:l.length=0
  ·simp[aK,h1]
  have Ew:¬(l.length:Int)=0:=by omega
  by_cases h2:256<l.length
  ·have Gf:(256:Int)<l.length:=by omega
   simp[aK,h1,h2,Ew,Gf]
  have Gf:¬(256:Int)<l.length:=by omega
  by_cases h3:∃i∈l,aav cs i=true
  ·simp only[aK,id,decide_eq_false Ew,decide_eq_false Gf,decide_eq_true h3,if_neg h1,if_neg h2,if_pos h3];simp
  simp only[aK,id,decide_eq_false Ew,decide_eq_false Gf,decide_eq_false h3,if_neg h1,if_neg h2,if_neg h3];simp
 refine bH rfl (λg=>?_) (λg=>?_)
 ·refine r0 rfl<|aG rfl<|bC<|key.trans ?_;have g:(if l.length=0 then(12:Int)else if 256<l.length then 5 else if∃i∈l,aav cs i=true then 10 else 0)≠0:=λe=>g<|key.trans e;split
  ·rfl
  split
  ·rfl
  split
  ·rfl
  rename_i h1 h2 h3;rw[if_neg h1,if_neg h2,if_neg h3]at g;exact absurd rfl g
 have g:(if l.length=0 then(12:Int)else if 256<l.length then 5 else if∃i∈l,aav cs i=true then 10 else 0)=0:=key.symm.trans<|ag0.1 g;have h1:¬l.length=0:=λh=>by rw[if_pos h]at g;simp at g
 rw[if_neg h1]at g⊢;have h2:¬256<l.length:=λh=>by rw[if_pos h]at g;simp at g
 rw[if_neg h2]at g⊢;have h3:¬∃i∈l,aav cs i=true:=λh=>by rw[if_pos h]at g;simp at g
 rw[if_neg h3];clear g key;have jj:∀j,(h:j<l.length)->0<=l[j]/\l[j].toNat<cs.length:=λj h=>abq λe=>h3 ⟨_,ab9 h,e⟩;have el:((l.length:Int)-1).toNat=l.length-1:=by omega
 have aaJ:=jj (l.length-1) (by omega);have egl:l.getD (l.length-1) 0=l[l.length-1]:=aw (by omega);refine k1 rfl (by kernel_rfl) (by simp only[ag,and_true,el,egl]<;>omega) ?_;refine loop (λz:Nat×Int=>[(3,.ints .i64 false l),(11,.box false<|.bT false 3 default mr cs),(15,.i<|aaW cs<|l.take z.1),(16,.box true<|mr<|cAt cs z.2),(61,.ints .i64 false l),(62,.i l.length),(63,.i z.1)]) (λz=>z.1<=l.length/\(abl cs (l.getD (l.length-1) 0) l↔abl cs z.2 (l.drop z.1))) (λz=>l.length-z.1) (0,l.getD (l.length-1) 0) ⟨abC _,Iff.rfl⟩ ⟨ab,ab,ab,⟨rfl,an.of_eq<|by rw[el];rfl⟩,ab,ab,ab,ao⟩ ?_;rintro⟨i,q⟩⟨hi,hr⟩;dsimp only at hi hr⊢;have ei:(i:Int).toNat=i:=by omega
 refine r0 rfl<|bH rfl (λh4=>?_) (λh4=>?_)
 ·have aZ:i<l.length:=by omega
  have eg:l.getD i 0=l[i]:=aw aZ;have hx:=jj i aZ;have hs:=abW hb<|l.take i;have eR:=abc (cs:=cs) aZ;have hm:=abY hb l[i];rw[ac2]at hs;rw[abe aZ]at hr;refine k1 rfl (by kernel_rfl) (by simp only[ag,and_true,ei,eg]<;>omega) ?_;rw[ei,eg];refine bH rfl (λg=>?_) (λg=>?_)
  ·refine r0 rfl ?_;rw[if_pos<|by rw[hr];exactλh=>g h.1];exact bB rfl
  have g:(cAt cs l[i]).adN=(cAt cs q).less:=ag0.1 g;refine r1 rfl (by simp only[ag,and_true]<;>unfold cAt at hm<;>omega) ?_;refine again (i+1,l[i]) (by dsimp only;omega) ⟨by dsimp only;omega,by rw[hr];exact and_iff_right g⟩ ⟨ab,ab,⟨rfl,bC ?_⟩,ab,ab,ab,ab,ao⟩;exact eR.symm
 have ei':i=l.length:=by omega
 subst ei';rw[aey]at hr;rw[if_neg<|not_not_intro<|hr.2 ao,adF];refine r0 rfl<|bF rfl (WG _ 20) rfl<|r0 rfl<|aG rfl<|bC ?_;by_cases g:0<=aaW cs l<;>simp[g]
end Go.Ai.Pg
namespace Go.Ai
open Go.Proofs Go.RowKit
def Jw{p:kx}(h:dR p=0):1<=p.n/\p.n<=100/\p.aa.length<=96/\∀u∈p.aa,jc p.n u:=by
 unfold dR at h;split at h
 ·cases h
 rename_i h1;split at h
 ·cases h
 rename_i h2;split at h
 ·rename_i h3;exact absurd h h3
 rename_i h3;refine⟨by omega,by omega,by omega,λu hu=>?_⟩;exact qw<|dG.1 (by simpa using h3) u hu
def TH{b:Bool}(h:(!b)=false):b=true:=by cases b<;>simp_all
def aa3{b:Bool}(h:(!b)=true):b=false:=by cases b<;>simp_all
noncomputable def sj(u:bO):Bool:=mJ u.k 6&&(decide (u.dD.length<=4)&&u.dD.all λs=>mJ s 3)&&u.ah.all λf=>mJ f.dU 3
noncomputable def A7(p:kx):Bool:=decide (p.aa.length<=8/\p.n<=9/\dR p=0)&&(p.aa.all sj&&Ba p.aa p.n.toNat)
def Hz(p:kx)(h:ye p):aL Tryz.prog 74 [bh p,.i 8] (.u<|A7 p):=by
 refine bE Tryz.func74 rfl<|r0 rfl<|aC 13 rfl (λg1=>?_) (λg1=>?_)
 ·refine r0 rfl<|aG rfl ?_;show false=A7 p;unfold A7;rw[decide_eq_false<|by omega];rfl
 refine r1 rfl (by simp[ag,and_true]<;>omega) ?_;refine aC 20 rfl (λg2=>?_) (λg2=>?_)
 ·refine r0 rfl<|aG rfl ?_;show false=A7 p;unfold A7;rw[decide_eq_false<|by omega];rfl
 refine r0 rfl<|bF rfl (mM p h) rfl<|r0 rfl<|bH rfl (λg3=>?_) (λg3=>?_)
 ·refine r0 rfl<|aG rfl ?_;show false=A7 p;unfold A7;rw[decide_eq_false λhh=>g3 hh.2.2];rfl
 have hz:dR p=0:=ag0.1 g3;have e0:A7 p=(p.aa.all sj&&Ba p.aa p.n.toNat):=by unfold A7;rw[decide_eq_true<|by omega,adx]
 obtain⟨v1,v2,v3,hv⟩:=Jw hz;rw[e0];refine r0 rfl<|loop (λi:Nat=>[(2,.box true<|bh p),(5,.i i)]) (λi=>i<=p.aa.length/\p.aa.all sj=(p.aa.drop i).all sj) (λi=>p.aa.length-i) 0 ⟨abC _,rfl⟩ ⟨ab,ab,ao⟩ ?_;rintro i⟨hi,hf⟩;refine r0 rfl<|bH rfl (λg4=>?_) (λg4=>?_)
 ·have aZ:i<p.aa.length:=by omega
  have ei:(i:Int).toNat=i:=by omega
  have eg:p.aa.getD i default=p.aa[i]:=aw aZ;have hu:=h.unit _<|ab9 aZ;rw[ac4 aZ,adl]at hf;rw[hf];refine r1 rfl (by simp[ag,and_true,ei]<;>omega) ?_;rw[ei,eg];generalize p.aa[i]=u at*;have huf:=hu.ah;have hut:=hu.dD;refine bF rfl (yT u.k 6 hu.k<|by decide) rfl<|r0 rfl<|iF 41 rfl (λg5=>?_) (λg5=>?_)
  ·refine r0 rfl<|aG rfl ?_;show false=_;have:mJ u.k 6=false:=aa3 g5;unfold sj;rw[this];rfl
  have k1:mJ u.k 6=true:=TH g5;refine r0 rfl<|bF rfl (EA u.dD 4 3 hu.Mf (by omega) (by decide)<|by decide) rfl<|r0 rfl<|nB rfl rfl rfl (λg6=>?_) (λg6=>?_)
  ·refine r0 rfl<|aG rfl ?_;show false=_;have:(decide (u.dD.length<=4)&&u.dD.all λs=>mJ s 3)=false:=aa3 g6;unfold sj;rw[this,Bool.and_false];rfl
  have k2:(decide (u.dD.length<=4)&&u.dD.all λs=>mJ s 3)=true:=TH g6;have k3:sj u=u.ah.all λf=>mJ f.dU 3:=by unfold sj;rw[k1,k2];rfl
  rw[k3];refine r0 rfl<|loop (λk:Nat=>[(2,.box true<|bh p),(5,.i i),(6,.box true<|dM u),(7,.i k)]) (λk=>k<=u.ah.length/\(u.ah.all λf=>mJ f.dU 3)=(u.ah.drop k).all λf=>mJ f.dU 3) (λk=>u.ah.length-k) 0 ⟨abC _,rfl⟩
   ⟨ab,ab,ab,ab,ao⟩ ?_
  rintro k⟨hk,RH⟩;refine r0 rfl<|bH rfl (λg7=>?_) (λg7=>?_)
  ·have gp:k<u.ah.length:=by omega
   have ek:(k:Int).toNat=k:=by omega
   have ef:u.ah.getD k default=u.ah[k]:=aw gp;have hfu:=hu.dU _<|ab9 gp;rw[ac4 gp,adl]at RH;rw[RH];refine r1 rfl (by simp[ag,and_true,ek]<;>omega) ?_;rw[ek,ef];generalize u.ah[k]=f at*;refine bF rfl (yT f.dU 3 hfu<|by decide) rfl<|r0 rfl<|nB rfl rfl rfl (λg8=>?_) (λg8=>?_)
   ·refine r0 rfl<|aG rfl ?_;show false=_;have:mJ f.dU 3=false:=aa3 g8;rw[this];rfl
   have k4:mJ f.dU 3=true:=TH g8;rw[k4,adx];refine r1 rfl (by simp[ag,and_true]<;>omega) ?_;refine again (k+1) (by omega) ⟨by omega,?_⟩ ⟨ab,ab,ab,ab,ao⟩;rfl
  have:k=u.ah.length:=by omega
  subst this;rw[RH,aey,ah0,adx];refine r1 rfl (by simp[ag,and_true]<;>omega) ?_;refine again (i+1) (by omega) ⟨by omega,?_⟩ ⟨ab,ab,ao⟩;rfl
 have:i=p.aa.length:=by omega
 subst this;rw[hf,aey,ah0,adx];refine r0 rfl<|bF rfl (Rh p h p.n.toNat (by omega) (by omega) (by omega) hv) rfl<|r0 rfl<|bB rfl
section
variable{D M κ V B:Nat}
section
variable{d:Int}{a b p:List cN}{n v w:Nat}{c:Rat}
def bP.tok(hB:qk D M κ)(hV:V<=9)(h:bP D M V d w p)(hd:d<=6)(hw:w<=B):(∀u∈p,Ea V (κ*B+2) u)/\p.length<2^30:=⟨h.pw.tok hB hV hd<|af7 (adQ _ hw) 2,by have:=h.len hV hd;omega⟩
def bP.W7(hB:qk D M κ)(hV:V<=9)(h:bP D M V d w p)(hd:d<=6)(hc:Wn D M 1 v c)(hw:v+w+1<=B):
 vL V (κ*B+2) (py c p)/\bP D M V d (v+w+1) (kJ c p):=by
 have h1:=h.pw.Zn hc;have hl:(py c p).length<=10^18:=by have:=h.len hV hd;simp[py];omega
 exact⟨h1.nok hB hV hd hl<|af7 (adQ _ hw) 2,h1.norm hB hl⟩
def bP.Oj(hB:qk D M κ)(hV:V<=9)(h:bP D M V d w a)(g:bP D M V d w b)(hd:d<=6)(hw:w+1<=B):
 vL V (κ*B+2) (a++b)/\bP D M V d (w+1) (EV a b):=by
 have h1:=h.pw.append g.pw;have hl:(a++b).length<=10^18:=by have:=h.len hV hd;have:=g.len hV hd;rw[acW];omega
 exact⟨h1.nok hB hV hd hl<|af7 (adQ _ hw) 2,h1.norm hB hl⟩
def bP.aa7{e:Int}(hB:qk D M κ)(hV:V<=9)(h:bP D M V d w a)(g:bP D M V e v b)(hd:d<=6)(he:e<=6)(hde:d+e<=6)(hw:w+v+1<=B):
 vL V (κ*B+2) (jv a b)/\bP D M V (d+e) (w+v+1) (lI a b):=by
 have h1:=h.pw.mul g.pw;have hl:(jv a b).length<=10^18:=by have h2:=h.len hV hd;have h3:=g.len hV he;rw[TO];exact acX (agG h2 h3) (by decide)
 exact⟨h1.nok hB hV hde hl<|af7 (adQ _ hw) 2,h1.norm hB hl⟩
def bP.TP{K:Nat}:vL V K (jv [] b)/\bP D M V d w (lI [] b):=by
 refine⟨⟨λu hu=>by simp[jv]at hu,λm hm=>?_⟩,?_⟩
 ·have:m=[]:=by simpa[jv]using hm
  subst this;exact⟨λu hu=>by simp[fN]at hu,by simp[fN]⟩
 exact bP.nil
def bP.ajW(hB:qk D M κ)(hV:V<=9)(h:bP D M V d w p)(hd:d<=6)(hv:v<V)(hw:w+2<=B):
 vL V (κ*B+2) (pZ p v)/\bP D M V (d-1) (w+2) (uf p v):=by
 have h1:=h.pw.der hB hd v hv;have hl:(pZ p v).length<=10^18:=by have:=h.len hV hd;have:=Dx p v;omega
 exact⟨h1.nok hB hV (by omega) hl<|af7 (adQ _ hw) 2,h1.norm hB hl⟩
def Bp(p:List cN)(v:Nat):Prop:=∃u∈p,0<u.pw.getD v 0
def BG(h:¬Bp p v):uf p v=[]:=by
 have e:pZ p v=[]:=by unfold pZ;rw[List.flatMap_eq_nil_iff];intro u hu;unfold AN;rw[if_neg λg=>h ⟨u,hu,g⟩]
 unfold uf;rw[e];rfl
def sI{l:List cN}(h:Bp (fN l) v):Bp l v:=by
 obtain⟨u,hu,g⟩:=h;rcases Cq hu with⟨t,ht,e⟩|⟨t,ht,e⟩
 ·exact⟨t,ht,by rw[<-e];exact g⟩
 cases ht
def Ht(h:Bp (a++b) v):Bp a v\/Bp b v:=by obtain⟨u,hu,g⟩:=h;exact(ac5.1 hu).imp (λh=>⟨u,h,g⟩) λh=>⟨u,h,g⟩
def OW(h:Bp (kJ c p) v):Bp p v:=by obtain⟨u,hu,g⟩:=sI h;obtain⟨t,ht,rfl⟩:=ac0.1 hu;exact⟨t,ht,g⟩
def IN:∀{a b:List Int}{v:Nat},0<(List.zipWith (·+ ·) a b).getD v 0->(∀x∈a,0<=x)->(∀x∈b,0<=x)->0<a.getD v 0\/0<b.getD v 0
 |[],_,_,h,_,_=>by cases h
 |_::_,[],_,h,_,_=>by cases h
 |x::a,y::b,0,h,ha,hb=>by simp at h⊢;omega
 |x::a,y::b,v+1,h,ha,hb=>by simp at h⊢;exact IN h (λz hz=>ha z<|by simp[hz]) λz hz=>hb z (by simp[hz])
def Xs{e:Int}{v':Nat}(ha:PW D M V d w a)(hb:PW D M V e v' b)(h:Bp (lI a b) v):Bp a v\/Bp b v:=by obtain⟨u,hu,g⟩:=sI h;obtain⟨t,ht,hu⟩:=adL.1 hu;obtain⟨s,hs,rfl⟩:=ac0.1 hu;exact(IN g (ha t ht).1.2.1 (hb s hs).1.2.1).imp (λh=>⟨t,ht,h⟩) λh=>⟨s,hs,h⟩
def FD:¬Bp (fQ c n) v:=by
 rintro⟨u,hu,g⟩;unfold fQ at hu;split at hu
 ·cases hu
 simp at hu;subst hu;rw[aca,agP]at g;split at g<;>cases g
def OV{i:Nat}(h:Bp (vN i n) v):v=i:=by obtain⟨u,hu,g⟩:=h;simp[vN]at hu;subst hu;apply aeY;intro dc;rw[aca,aiX<|by omega,agP]at g;split at g<;>cases g
def Bz(h:bP D M V d w p)(ho:Bp p v):1<=d:=by
 obtain⟨u,hu,g⟩:=ho;obtain⟨h1,h2,h3⟩:=(h.pw u hu).1;have hm:u.pw.getD v 0∈u.pw:=by
  rcases ac1 v u.pw.length with hl|hl
  ·rw[aw hl];simp_all
  rw[aca,adA hl]at g;cases g
 have:=kV h2 _ hm;omega
end
end
structure fF(us:List bO)(n:Nat):Prop where
 len:us.length<=8
 n0:0<n
 n9:n<=9
 val:∀u∈us,jc n u
 dr:vF n us
 ord:us.length<=(az us).length
 few:∀u∈us,sj u=true
 low:Ba us n=true
def aT(us:List bO)(k:Nat):bO:=us.getD ((az us).getD k 0).toNat default
def JE{us:List bO}:∀(k:Nat){out:List Int},(∀j,j<out.length->jT us (out.take j) (out.getD j 0).toNat=true)->∀j,j<(ee us k out).length->jT us ((ee us k out).take j) ((ee us k out).getD j 0).toNat=true
 |0,out,h=>h
 |k+1,out,h=>by
  rw[ee];split
  ·exact h
  rename_i g;refine JE k λj hj=>?_;rcases oY us out 0 with e|⟨i,e,_,_,h3⟩
  ·rw[e]at g;simp_all
  rw[e]at hj⊢;rw[acW,ajf]at hj;by_cases c:j<out.length
  ·rw[ah7<|by omega,aca,adH c];exact h j c
  have:j=out.length:=by omega
  subst this;rw[List.take_left',aca]
  ·simpa using h3
  rfl
def JD{us:List bO}{k:Nat}(h:k<(az us).length):jT us ((az us).take k) ((az us).getD k 0).toNat=true:=JE (out:=[]) _ (λj hj=>by cases hj) k h
def ta{s:Int}:∀{us:List bO}{k:Nat},(cg s k us= -1/\∀u∈us,u.out≠s)\/∃i,∃h:i<us.length,cg s k us=((k+i:Nat):Int)/\us[i].out=s
 |[],k=>.inl ⟨rfl,by simp⟩
 |u::us,k=>by
  simp only[cg];split
  ·rename_i h;exact .inr ⟨0,by simp,by simp,h⟩
  rename_i h;rcases ta (s:=s) (us:=us) (k:=k+1)with⟨e,g⟩|⟨i,hi,e,g⟩
  ·exact .inl ⟨e,λv hv=>by rcases aci.1 hv with rfl|hv;exact h;exact g v hv⟩
  exact .inr ⟨i+1,by simpa using hi,by omega,g⟩
def N0{α:Type}{p:α->Bool}{l:List α}(h:l.countP p=1){i j:Nat}(hi:i<l.length)(hj:j<l.length)(pi:p l[i]=true)(pj:p l[j]=true):i=j:=by
 have key:∀{i j:Nat}(hi:i<l.length)(hj:j<l.length),p l[i]=true->p l[j]=true->¬i<j:=by
  intro i j hi hj pi pj cS;have e:l=l.take j++l[j]::l.drop (j+1):=by rw[<-ac4 hj,ahg]
  rw[e,ahj,List.countP_cons_of_pos pj]at h;have:0<(l.take j).countP p:=List.countP_pos_iff.2 ⟨l[i],List.mem_take_iff_getElem.2 ⟨i,by omega,rfl⟩,pi⟩;omega
 have h1:=key hi hj pi pj;have h2:=key hj hi pj pi;omega
section
variable{us:List bO}{n:Nat}(hm:fF us n)
include hm
theorem fF.mW:(az us).length=us.length:=ahn (u5 us) hm.ord
def fF.idx{k:Nat}(h:k<us.length):((az us).getD k 0).toNat<us.length:=by
 have h':k<(az us).length:=by rw[hm.mW];exact h
 have:=gi _<|bz (d:=0) h';omega
def fF.eq{k:Nat}(h:k<us.length):aT us k=us[((az us).getD k 0).toNat]'(hm.idx h):=aw<|hm.idx h
def fF.mem{k:Nat}(h:k<us.length):aT us k∈us:=by rw[hm.eq h];simp_all
def fF.inj{i j:Nat}(hi:i<us.length)(hj:j<us.length)(h:us[i].out=us[j].out):i=j:=by
 have hv:=(hm.val _<|ab9 hi).out;have h1:=hm.dr us[i].out.toNat (by omega) (by omega);refine N0 h1 hi hj ?_ ?_
 all_goals rw[decide_eq_true_eq];omega
def fF.ad7{j k:Nat}(hj:j<us.length)(hk:k<us.length)(h:(az us).getD j 0=(az us).getD k 0):j=k:=by
 have hn:=wF us;have e:=hm.mW;rw[aw<|by omega,aw<|by omega]at h;have hp:=List.pairwise_iff_getElem.1 hn;rcases aju j k with c|c|c
 ·simp_all
 ·exact c
 exact absurd h.symm<|hp k j (by omega) (by omega) c
def fF.outs{j k:Nat}(hj:j<us.length)(hk:k<us.length)(h:(aT us j).out=(aT us k).out):j=k:=by
 rw[hm.eq hj,hm.eq hk]at h;have:=hm.inj (hm.idx hj) (hm.idx hk) h;refine hm.ad7 hj hk ?_;have h1:=gi _<|bz (d:=0)<|show j<(az us).length by rw[hm.mW];exact hj
 have h2:=gi _<|bz (d:=0)<|show k<(az us).length by rw[hm.mW];exact hk
 omega
def fF.before{k:Nat}(hk:k<us.length){f:EY}(hf:f∈cH (aT us k))(hs:0<=f.sh/\f.sh<n):f.sh=0\/∃j,j<k/\(aT us j).out=f.sh:=by
 have h:=JD (us:=us) (k:=k) (by rw[hm.mW];exact hk);unfold jT at h;rw[acd,ade]at h;have h2:=h.2 f hf;unfold kP at h2;rw[decide_eq_true_eq]at h2;rcases ta (s:=f.sh) (us:=us) (k:=0)with⟨e,g⟩|⟨i,hi,e,g⟩
 ·left;apply aeY;intro dc;have h1:=hm.dr f.sh.toNat (by omega) (by omega);have:0<us.countP (λu=>decide (u.out=(f.sh.toNat:Int))):=by omega
  obtain⟨u,hu,hp⟩:=List.countP_pos_iff.1 this;rw[decide_eq_true_eq]at hp;exact g u hu (by omega)
 right;have e':dY us f.sh=(i:Int):=by unfold dY;rw[e];simp
 rw[e']at h2;have h3:=h2.resolve_left (by omega);obtain⟨j,hj,he⟩:=List.mem_take_iff_getElem.1 h3;refine⟨j,by omega,?_⟩;have CX:j<us.length:=by omega
 rw[hm.eq CX];have:((az us).getD j 0).toNat=i:=by rw[aw<|by omega,he];rfl
 simp only[this];exact g
end
def nu{l:List Int}{i s:Nat}{x:Int}(h:i<l.length):(l.set i x).getD s 0=if s=i then x else l.getD s 0:=by
 split
 ·rename_i e;simp_all
 rename_i e;exact getD_set_ne (by omega)
def Dv{u:bO}:∀(fs:List EY){dg:List Int},u.out.toNat<dg.length->(∀s,0<=dg.getD s 0)->
 (fs.foldl (jy u) dg).length=dg.length/\(∀s,s≠u.out.toNat->(fs.foldl (jy u) dg).getD s 0=dg.getD s 0)/\dg.getD u.out.toNat 0<=(fs.foldl (jy u) dg).getD u.out.toNat 0/\
   ∀f∈fs,dg.getD f.sh.toNat 0*lh u<=(fs.foldl (jy u) dg).getD u.out.toNat 0
 |[],dg,_,_=>⟨rfl,λ_ _=>rfl,adq _,by simp⟩
 |f::fs,dg,ho,h0=>by
  have hm:1<=lh u:=by unfold lh;split<;>omega
  have hg:∀s,(jy u dg f).getD s 0=if s=u.out.toNat then max (dg.getD u.out.toNat 0) (dg.getD f.sh.toNat 0*lh u)else dg.getD s 0:=λs=>nu ho;have Kx:∀s,dg.getD s 0<=(jy u dg f).getD s 0:=λs=>by rw[hg s];split<;>(try subst_vars)<;>omega
  obtain⟨h1,h2,h3,h4⟩:=Dv fs (dg:=jy u dg f) (by unfold jy;rw[kH];exact ho) λs=>afE (h0 s)<|Kx s;rw[aeK];refine⟨by rw[h1];unfold jy;rw[kH],λs hs=>by rw[h2 s hs,hg s,if_neg hs],afE (Kx _) h3,λg D9=>?_⟩;rcases aci.1 D9 with rfl|D9
  ·have:=hg u.out.toNat;omega
  exact afE (afL (Kx _)<|by omega)<|h4 g D9
def rm(us:List bO)(n k:Nat):List Int:=((az us).take k).foldl (rk us)<|iZ us n us.length
def Ll{us:List bO}{n k:Nat}(h:k<(az us).length):rm us n (k+1)=rk us (rm us n k) ((az us).getD k 0):=by unfold rm;rw[ac6 h,afW,aw h];rfl
def zg{us:List bO}{m:Int}:∀{l:List Int}{dg r:List Int},EL us m l dg=some r->r=l.foldl (rk us) dg/\∀k,k<l.length->((l.take<|k+1).foldl (rk us) dg).getD (us.getD (l.getD k 0).toNat default).out.toNat 0<=m
 |[],dg,r,h=>by simp[EL]at h;simp_all
 |i::l,dg,r,h=>by
  rw[EL]at h;split at h
  ·cases h
  rename_i g;obtain⟨h1,h2⟩:=zg h;refine⟨h1,λk hk=>?_⟩;cases k with
  |zero=>simp only[List.take_succ_cons,ahr,aeK,aiO,ajv];omega
  |succ k=>simpa using h2 k (by simpa using hk)
def Fp{us:List bO}{m:Int}{dg:List Int}:∀{l:List Int}{rt r:List Int},Jm us m dg l rt=some r->∀k,k<l.length->((l.take<|k+1).foldl (uX us dg) rt).getD (us.getD (l.getD k 0).toNat default).out.toNat 0<=m
 |[],rt,r,h=>by simp
 |i::l,rt,r,h=>by
  rw[Jm]at h;split at h
  ·cases h
  rename_i g;have h2:=Fp h;intro k hk;cases k with
  |zero=>simp only[List.take_succ_cons,ahr,aeK,aiO,ajv];omega
  |succ k=>simpa using h2 k (by simpa using hk)
section
variable{us:List bO}{n:Nat}(hm:fF us n)
include hm
theorem fF.out{k:Nat}(h:k<us.length):1<=(aT us k).out/\(aT us k).out<n:=(hm.val _<|hm.mem h).out
def fF.dgL:∃r,EL us 6 (az us) (iZ us n us.length)=some r/\r=rm us n us.length/\(Jm us 6 r (az us)<|List.replicate n 0).isSome=true:=by
 have h:=hm.low;unfold Ba at h;split at h
 ·cases h
 rename_i dg e;refine⟨dg,e,?_,h⟩;have:=(zg e).1;rw[this];unfold rm;rw[acR<|by rw[hm.mW];exact abZ _]
def fF.dg:∀k,k<=us.length->(rm us n k).length=n/\∀s,0<=(rm us n k).getD s 0/\(rm us n k).getD s 0<=6
 |0,_=>by obtain⟨h1,h2⟩:=pX us n us.length .refl;exact⟨h1,λs=>h2.getD (by decide) s⟩
 |k+1,h=>by
  obtain⟨h1,h2⟩:=fF.dg k (by omega);have hk:k<(az us).length:=by rw[hm.mW];omega
  obtain⟨r,e,-,-⟩:=hm.dgL;have hb:=(zg e).2 k hk;have ho:=hm.out (show k<us.length by omega);have e0:us.getD ((az us).getD k 0).toNat default=aT us k:=rfl;have hb:(rm us n<|k+1).getD (aT us k).out.toNat 0<=6:=hb;rw[Ll hk]at hb⊢;unfold rk at hb⊢;rw[e0]at hb⊢;split
  ·exact⟨h1,h2⟩
  rename_i UM;rw[if_neg UM]at hb;obtain⟨q1,q2,q3,-⟩:=Dv (u:=aT us k) (aT us k).ah (dg:=rm us n k) (by omega) λs=>(h2 s).1;refine⟨by rw[q1];exact h1,λs=>?_⟩;by_cases c:s=(aT us k).out.toNat
  ·subst c;exact⟨afE (h2 _).1 q3,hb⟩
  rw[q2 s c];exact h2 s
def fF.dgS{k:Nat}(h:k<us.length):(∀s,s≠(aT us k).out.toNat->(rm us n<|k+1).getD s 0=(rm us n k).getD s 0)/\(∀s,(rm us n k).getD s 0<=(rm us n<|k+1).getD s 0)/\
 ((aT us k).kind≠bo->∀f∈(aT us k).ah,(rm us n k).getD f.sh.toNat 0*lh (aT us k)<=(rm us n<|k+1).getD (aT us k).out.toNat 0):=by
 obtain⟨h1,h2⟩:=hm.dg k (by omega);have hk:k<(az us).length:=by rw[hm.mW];omega
 have ho:=hm.out h;have e0:us.getD ((az us).getD k 0).toNat default=aT us k:=rfl;rw[Ll hk];unfold rk;rw[e0];split
 ·rename_i UM;simp_all
 obtain⟨q1,q2,q3,q4⟩:=Dv (u:=aT us k) (aT us k).ah (dg:=rm us n k) (by omega) λs=>(h2 s).1;refine⟨q2,λs=>?_,λ_=>q4⟩;by_cases c:s=(aT us k).out.toNat
 ·subst c;exact q3
 rw[q2 s c];simp_all
end
section
variable{n:Nat}{q:Rat}{s:bK}
def mO:List Nat->Nat
 |[]=>1
 |x::l=>x*mO l
def Dn:∀{l:List Nat}{x:Nat},x∈l->x∣mO l
 |y::l,x,h=>by
  rcases aci.1 h with rfl|h
  ·exact Nat.dvd_mul_right _ _
  exact Nat.dvd_trans (Dn h)<|Nat.dvd_mul_left _ _
def Cd:∀{l:List Nat},(∀x∈l,0<x)->0<mO l
 |[],_=>by simp[mO]
 |x::l,h=>ahD (h x<|by simp)<|Cd λy hy=>h y<|by simp[hy]
def Ce:∀{l:List Nat},(∀x∈l,(ae x).length<=1)->(ae<|mO l).length<=l.length+1
 |[],_=>by simp[mO];rw[iz];simp
 |x::l,h=>by have h1:=Ce (l:=l) λy hy=>h y (by simp[hy]);have h2:=dK x<|mO l;have h3:=h x (by simp);simp[mO];omega
def NU(h:n<10^9):(ae n).length<=1:=rq (k:=1)<|dA n 1 9 h<|by decide
noncomputable def jq(us:List bO):Nat:=mO ((List.range 999).map (·+1))*mO (us.map λu=>(bI u.k).den)
noncomputable def jo(us:List bO):Nat:=jq us*10^18
def NC(h:mJ s n=true):aJ s=0/\Dc (bI s) n:=by unfold mJ at h;rw[decide_eq_true_eq]at h;exact h.2
def Dc.lt(h:Dc q n):q.num.natAbs<10^n/\q.den<10^n:=⟨xq h.1,xq h.2⟩
def nF{u:bO}(h:sj u=true):mJ u.k 6=true/\u.dD.length<=4/\(∀c∈u.dD,mJ c 3=true)/\∀f∈u.ah,mJ f.dU 3=true:=by unfold sj at h;simp_all
def aak(q:Rat):q*(q.den:Rat)=(q.num:Rat):=by
 have h:=Rat.num_divInt_den q;rw[ajn]at h;have h2:((q.den:Nat):Rat)≠0:=by
  intro g;have:q.den=0:=by exact_mod_cast g
  exact q.den_nz this
 have h3:((q.den:Int):Rat)=((q.den:Nat):Rat):=ahi _
 grind
def Wn.Zx{D M:Nat}(hd:q.den∣D)(hn:q.num.natAbs*D<=M):Wn D M 1 1 q:=by
 obtain⟨e,he⟩:=hd;have hp:=q.den_pos;refine⟨q.num*(e:Nat),?_,?_⟩
 ·rw[afU,Nat.pow_one,Nat.one_mul];refine acX (adQ _ ?_) hn;rw[he];exact Nat.le_mul_of_pos_left _ hp
 rw[Nat.pow_one,he,Rat.natCast_mul,<-aiB,ahh,ahi];rw[aak]
def Ww{us:List bO}(h:mJ s 3=true):Wn (jq us) (jo us) 1 1 (bI s):=by obtain⟨h1,h2⟩:=(NC h).2.lt;have hp:=(bI s).den_pos;refine Wn.Zx (Nat.dvd_trans (Dn<|ac0.2 ⟨(bI s).den-1,ae5.2<|by omega,by omega⟩)<|Nat.dvd_mul_right _ _) ?_;rw[ac8];exact adQ _ (by omega)
end
section
variable{us:List bO}{n:Nat}(hm:fF us n)
include hm
theorem fF.base:qk (jq us) (jo us) 1012:=by
 have h1:0<mO ((List.range 999).map (·+1)):=Cd λx hx=>by obtain⟨y,-,rfl⟩:=ac0.1 hx;omega
 have h2:0<mO (us.map λu=>(bI u.k).den):=Cd λx hx=>by obtain⟨u,-,rfl⟩:=ac0.1 hx;exact(bI u.k).den_pos
 refine⟨ahD h1 h2,.refl,?_⟩;have h3:(ae (mO ((List.range 999).map (·+1)))).length<=((List.range 999).map (·+1)).length+1:=Ce λx hx=>by obtain⟨y,hy,rfl⟩:=ac0.1 hx;have:=ae5.1 hy;exact NU (by omega)
 have h4:(ae<|mO<|us.map λu=>(bI u.k).den).length<=(us.map λu=>(bI u.k).den).length+1:=Ce λx hx=>by obtain⟨u,hu,rfl⟩:=ac0.1 hx;have:=(NC (nF<|hm.few u hu).1).2.lt.2;exact NU (by omega)
 have h5:=dK (mO ((List.range 999).map (·+1)))<|mO<|us.map λu=>(bI u.k).den;have h6:=dK (jq us)<|10^18;have h7:(ae<|10^18).length<=3:=rq (k:=3)<|dA _ 1 27 (by decide)<|by decide
 rw[acZ,ajx]at h3;rw[acZ]at h4;have:=hm.len;unfold jo;unfold jq at h6⊢;omega
def fF.wnS{u:bO}(hu:u∈us):Wn (jq us) (jo us) 1 1 (bI u.k):=by obtain⟨h1,h2⟩:=(NC (nF<|hm.few u hu).1).2.lt;refine Wn.Zx (Nat.dvd_trans (Dn<|ac0.2 ⟨u,hu,rfl⟩)<|Nat.dvd_mul_left _ _) ?_;rw[ac8];exact adQ _ (by omega)
def fF.wnQ(s:Nat):Wn (jq us) (jo us) 1 1 ((bW n us).getD s 0):=by
 have key:∀(l:List bO)(o:List Rat),(∀u∈l,u∈us)->(∀s,Wn (jq us) (jo us) 1 1 (o.getD s 0))->∀s,Wn (jq us) (jo us) 1 1 ((l.foldl (λ(o:List Rat)u=>o.set u.out.toNat<|bI u.k) o).getD s 0):=by
  intro l
  induction l with
  |nil=>intro o _ h;exact h
  |cons u l ih=>
   intro o hl h;refine ih _ (λv hv=>hl v<|by simp[hv]) λs=>?_;rw[aca,ag2];split
   ·split
    ·exact hm.wnS<|hl u<|by simp
    exact Wn.zero _ _ _ _
   rw[<-aca];exact h s
 refine key us _ (λ_ h=>h) (λs=>?_) s;rw[aca,agP];split<;>exact Wn.zero _ _ _ _
end
def wS:Nat->Nat
 |0=>0
 |k+1=>3*wS k+20
def BN{k:Nat}(h:k<=8):wS k<=65600:=(by decide:∀k,k<9->wS k<=65600) k (by omega)
def fh{l:List (List cN)}{i s:Nat}{x:List cN}(h:i<l.length):(l.set i x).getD s []=if s=i then x else l.getD s []:=by
 rw[aca,ag2];split
 ·rename_i e;subst e;simp
 rename_i e;rw[if_neg<|by omega,aca]
section
variable{D M κ m B:Nat}
def Mg{x:List cN}{dx:Int}{w:Nat}(hB:qk D M κ)(hV:m+1<=9)(hx:bP D M (m+1) dx (w+2) x)(h0:0<=dx)(h6:dx<=6)(hw:3*w+20<=B):
 ∀(cs:List Rat),(∀c∈cs,Wn D M 1 1 c)->cs.length<=4->dx*((cs.length:Int)-1)<=6->
  (cs≠[]->bP D M (m+1) (dx*((cs.length:Int)-1)) (2+(cs.length-1)*(w+4)) (jE m x cs))/\
  ∀c r,cs=c::r->vL (m+1) (κ*B+2) (jv (jE m x r) x)/\vL (m+1) (κ*B+2) (lI (jE m x r) x++fQ c m)
 |[],_,_,_=>⟨λh=>absurd rfl h,λc r h=>by simp at h⟩
 |c::cs,hc,hl,hd=>by
  rw[acU]at hl hd;have se:=hc c (by simp);have hk:bP D M (m+1) 0 1 (fQ c m):=bP.const se;by_cases e:cs=[]
  ·subst e;have h1:lI (jE m x []) x=[]:=by simp[jE,lI,jv,fN]
   have h2:=bP.Oj (B:=B) hB hV (bP.nil (D:=D) (M:=M) (V:=m+1) (d:=0) (w:=1)) hk (by decide) (by omega);have h3:bP D M (m+1) (dx*(((c::([]:List Rat)).length:Int)-1)) (2+((c::([]:List Rat)).length-1)*(w+4)) (jE m x [c]):=by show bP D M (m+1) _ _ (EV (lI (jE m x []) x)<|fQ c m);rw[h1];simpa using h2.2
   refine⟨λ_=>h3,λc' r h=>?_⟩;obtain⟨rfl,rfl⟩:=h;exact⟨(bP.TP (D:=D) (M:=M) (d:=0) (w:=0)).1,by rw[h1];exact h2.1⟩
  have ua:=ag4.2 e;have hle:dx*((cs.length:Int)-1)<=dx*(((cs.length+1:Nat):Int)-1):=aec (by omega) h0;obtain⟨ih,-⟩:=Mg hB hV hx h0 h6 hw cs (λd hd=>hc d<|by simp[hd]) (by omega) (by omega);have h1:=ih e;have e1:dx*((cs.length:Int)-1)+dx=dx*(((cs.length+1:Nat):Int)-1):=by rw[show(((cs.length+1:Nat):Int)-1)=((cs.length:Int)-1)+1 by omega,ahv,agB]
  have hw1:(cs.length-1)*(w+4)<=2*(w+4):=adb _ (by omega);have e2:2+(cs.length-1)*(w+4)+(w+2)+1+1=2+((c::cs).length-1)*(w+4):=by rw[acU,show cs.length+1-1=(cs.length-1)+1 by omega,ac7];omega
  have h2:=bP.aa7 (B:=B) hB hV h1 hx (by omega) h6 (by rw[e1];omega) (by omega);rw[e1]at h2;have h3:=bP.Oj (B:=B) hB hV h2.2 (hk.mono hB (d:=0) (e:=dx*(((cs.length+1:Nat):Int)-1)) (adT h0<|by omega)<|by omega) (by omega) (by omega);refine⟨λ_=>?_,λc' r h=>?_⟩
  ·rw[<-e2];exact h3.2
  simp at h;obtain⟨rfl,rfl⟩:=h;exact⟨h2.1,h3.1⟩
def acP{sh:List (List cN)}{st:List Rat}{u:bO}{dg:Nat->Int}{d:Int}{w:Nat}(hB:qk D M κ)(hV:m+1<=9)(hs:∀s,bP D M (m+1) (dg s) w<|sh.getD s [])(eR:∀s,Wn D M 1 1 (st.getD s 0))(hk:Wn D M 1 1 (bI u.k))
 (hf:∀f∈u.ah,Wn D M 1 1 (bI f.dU)/\dg f.sh.toNat<=d)(hl:u.ah.length<=8)(h0:0<=d)(h6:d<=6)(hw:w+12<=B):
 Wj (m+1) (κ*B+2) (κ*2+2) sh st m u/\bP D M (m+1) d (w+11) (Sg sh st m u):=by
 have abB:∀f∈u.ah,vL (m+1) (κ*B+2) (py (bI f.dU)<|sh.getD f.sh.toNat [])/\bP D M (m+1) d (w+2) (kJ (bI f.dU)<|sh.getD f.sh.toNat []):=λf h=>by obtain⟨h1,h2⟩:=hf f h;have:=bP.W7 (B:=B) hB hV (hs f.sh.toNat) (by omega) h1 (by omega);exact⟨this.1,this.2.mono hB h2<|by omega⟩
 have ab8:∀i,i<=u.ah.length->bP D M (m+1) d (w+2+i) (gB sh st u i).1/\Wn D M (1+i) 2 (gB sh st u i).2:=by
  intro i
  induction i with
  |zero=>intro _;exact⟨bP.nil,hk.up hB<|by decide⟩
  |succ i ih=>
   intro hi;obtain⟨h1,h2⟩:=ih (by omega);have hm:u.ah.getD i default∈u.ah:=bz (by omega);have h3:=(abB _ hm).2;refine⟨(bP.Oj (B:=B) hB hV h1 (h3.mono hB (adq _)<|by omega) h6<|by omega).2,?_⟩;have h4:Wn D M 1 2 (bI (u.ah.getD i default).dU*st.getD (u.ah.getD i default).sh.toNat 0):=by have:=(hf _ hm).1.mul<|eR (u.ah.getD i default).sh.toNat;simpa using this
   have:=h2.add h4.neg;rw[<-Rat.sub_eq_add_neg]at this;exact this.le (by omega)
 obtain⟨a1,a2⟩:=ab8 u.ah.length .refl;have hc:=a2.one hB (by omega);have hcp:bP D M (m+1) d (w+2+8) (fQ (gB sh st u u.ah.length).2 m):=(bP.const hc).mono hB h0 (by omega);have Ep:=bP.Oj (B:=B) hB hV (a1.mono hB (adq _)<|show w+2+u.ah.length<=w+2+8 by omega) hcp h6 (by omega);refine⟨⟨λf h=>(abB f h).1,λi hi=>?_,λi hi=>?_,Ep.1⟩,Ep.2.mono hB (adq _)<|by omega⟩
 ·have hm:u.ah.getD i default∈u.ah:=bz (by omega);exact(bP.Oj (B:=B) hB hV (ab8 i<|by omega).1 ((abB _ hm).2.mono hB (adq _)<|by omega) h6<|by omega).1
 have:=((ab8 i hi).2.le<|show 1+i<=9 by omega).sz hB;exact this.mono (by have:=NU (n:=9) (by decide);omega)
end
def wB:Nat:=1300000
section
variable{us:List bO}{n m:Nat}(hm:fF us n)(hc:m=c7 us)
include hm hc
theorem fF.mle:m+1<=9:=by have:c7 us<=us.length:=agV;have:=hm.len;omega
def fF.init:∀i,i<=us.length->∀s,bP (jq us) (jo us) (m+1) ((iZ us n i).getD s 0) 0 ((G0 us n m i).getD s [])
 |0,_=>λs=>by
  have hn:=hm.n0;unfold iZ G0 B1;rw[ahr,aiO,nu<|by simpa using hn,fh<|by simpa using hn];split
  ·exact bP.var (by omega)
  rw[aca (l:=List.replicate n ([]:List cN)),agP];split<;>exact bP.nil
 |i+1,h=>λs=>by
  have ih:=fF.init i (by omega) s;have hv:=(hm.val _<|ab9<|show i<us.length by omega).out;rw[te<|by omega,G0,aw<|show i<us.length by omega];split
  ·rw[nu<|by rw[(pX us n i<|by omega).1];omega,fh<|by rw[qC];omega];split
   ·exact bP.var (by rw[hc];exact Ij us _)
   exact ih
  exact ih
def fF.SU{k:Nat}(h:k<us.length){w:Nat}(hw:3*w+20<=wB)(ih:∀s,bP (jq us) (jo us) (m+1) ((rm us n k).getD s 0) w<|(ie us n m k).getD s []):
 ((aT us k).kind=jJ->Wj (m+1) (1012*wB+2) (1012*2+2) (ie us n m k) (bW n us) m (aT us k))/\
 ((aT us k).kind=dQ->aah (m+1) (1012*wB+2) (ie us n m k) m (aT us k))/\
 ∀s,bP (jq us) (jo us) (m+1) ((rm us n<|k+1).getD s 0) (3*w+20) ((ie us n m<|k+1).getD s []):=by
 have hB:=hm.base;have hV:=hm.mle hc;have hk:k<(az us).length:=by rw[hm.mW];omega
 have ho:=hm.out h;have hu:=hm.val _<|hm.mem h;obtain⟨f1,f2,f3,f4⟩:=nF<|hm.few _<|hm.mem h;obtain⟨d1,d2,d3⟩:=hm.dgS h;obtain⟨l1,l2⟩:=hm.dg (k+1) (by omega);obtain⟨p1,p2⟩:=hm.dg k (by omega);have e0:us.getD ((az us)[k]).toNat default=aT us k:=by unfold aT;rw[aw hk]
 have cM:=hu.BZ;have hold:∀s,bP (jq us) (jo us) (m+1) ((rm us n<|k+1).getD s 0) (3*w+20) ((ie us n m k).getD s []):=λs=>(ih s).mono hB (d2 s) (by omega);have yM:ie us n m (k+1)=lD us (bW n us) m (ie us n m k) (az us)[k]:=px hk;by_cases ka:(aT us k).kind=jJ
 ·have dc:(aT us k).kind≠bo:=by rw[ka];decide
  have hl8:(aT us k).ah.length<=8:=by unfold jQ x9 D6 at cM;omega
  have Kr:lh (aT us k)=1:=by unfold lh;rw[if_neg<|by rw[ka];decide]
  obtain⟨a1,a2⟩:=acP (B:=wB) (d:=(rm us n<|k+1).getD (aT us k).out.toNat 0) hB hV ih (hm.wnQ) (hm.wnS<|hm.mem h)
   (λf hf=>⟨Ww<|f4 f hf,by have:=d3 dc f hf;rw[Kr,agB]at this;exact this⟩) hl8 (l2 _).1 (l2 _).2 (by omega)
  refine⟨λ_=>a1,λg=>?_,λs=>?_⟩
  ·rw[ka]at g;exact absurd g (by decide)
  rw[yM];unfold lD;rw[e0,if_pos ka,fh<|by rw[kG];omega];split
  ·rename_i e;subst e;exact a2.mono hB (adq _) (by omega)
  exact hold s
 by_cases kt:(aT us k).kind=dQ
 ·have dc:(aT us k).kind≠bo:=by rw[kt];decide
  unfold jQ x9 D6 at cM;rw[if_neg dc,if_neg dc,if_neg ka]at cM;have ht1:1<=(aT us k).dD.length:=by apply aeY;intro g;exact cM<|.inr<|.inr<|.inl ⟨kt,.inl<|by omega⟩
  have Kr:lh (aT us k)=max 1 (((aT us k).dD.length:Int)-1):=by unfold lh;rw[if_pos kt]
  have hfm:(aT us k).ah.getD 0 default∈(aT us k).ah:=bz (by omega);have hdx:=d3 dc _ hfm;have CZ:=p2 ((aT us k).ah.getD 0 default).sh.toNat;obtain⟨dx,edx⟩:∃dx,(rm us n k).getD ((aT us k).ah.getD 0 default).sh.toNat 0=dx:=⟨_,rfl⟩;rw[edx]at hdx CZ;have X8:=bP.W7 (B:=wB) hB hV (ih ((aT us k).ah.getD 0 default).sh.toNat) (by rw[edx];exact CZ.2) (Ww (us:=us)<|f4 _ hfm) (by omega);rw[edx]at X8;have hx:bP (jq us) (jo us) (m+1) dx (w+2) (oU (ie us n m k)<|aT us k):=X8.2.mono hB (adq _) (by omega);have o5:∀c∈(aT us k).dD.map bI,Wn (jq us) (jo us) 1 1 c:=λc hc=>by obtain⟨t,ht,rfl⟩:=ac0.1 hc;exact Ww<|f3 t ht
  have En:=l2 (aT us k).out.toNat;have Es:∀j:Nat,j<=(aT us k).dD.length->dx*((j:Int)-1)<=(rm us n<|k+1).getD (aT us k).out.toNat 0:=λj hj=>by refine afE (aec ?_ CZ.1) hdx;rw[Kr];omega
  have UK:=λ(i:Nat)=>Mg (B:=wB) hB hV hx CZ.1 CZ.2 hw (((aT us k).dD.map bI).drop i) (λc h=>o5 c<|afT h) (by simp;omega) (by have:=Es (((aT us k).dD.map bI).drop i).length (by simp);omega)
  have UW:∀i(hi:i<(aT us k).dD.length),((aT us k).dD.map bI).drop i=bI ((aT us k).dD.getD i [])::((aT us k).dD.map bI).drop (i+1):=λi hi=>by rw[ac4<|by simpa using hi,List.getElem_map,aw hi]
  refine⟨λg=>absurd g ka,λ_=>⟨X8.1,λi hi=>((UK i).2 _ _<|UW i hi).1,λi hi=>((UK i).2 _ _<|UW i hi).2⟩,λs=>?_⟩;rw[yM];unfold lD;rw[e0,if_neg ka,if_pos kt,fh<|by rw[kG];omega];split
  ·rename_i e;subst e;have h0:=(UK 0).1 (by rw[UW 0 ht1];simp);rw[aeP]at h0;have hw2:(((aT us k).dD.map bI).length-1)*(w+4)<=3*(w+4):=adb _ (by simp;omega);exact h0.mono hB (Es _<|by simp) (by omega)
  exact hold s
 refine⟨λg=>absurd g ka,λg=>absurd g kt,λs=>?_⟩;rw[yM];unfold lD;rw[e0,if_neg ka,if_neg kt];exact hold s
def fF.shK:∀k,k<=us.length->∀s,bP (jq us) (jo us) (m+1) ((rm us n k).getD s 0) (wS k) ((ie us n m k).getD s [])
 |0,_=>λs=>by have:=hm.init hc us.length .refl s;exact this
 |k+1,h=>by have hw:=BN (k:=k) (by have:=hm.len;omega);exact(hm.SU hc (by omega) (by unfold wB;omega)<|fF.shK k<|by omega).2.2
end
section
variable{D M κ m B:Nat}
def Xk{sh aW:List (List cN)}{u:bO}{d0 d1 r:Int}{w v:Nat}(hB:qk D M κ)(hV:m+1<=9)(hr:aW.length=m)
 (h0:bP D M (m+1) d0 w (sh.getD (u.ah.getD 0 default).sh.toNat []))(h1:bP D M (m+1) d1 w (sh.getD (u.ah.getD 1 default).sh.toNat []))
 (CZ:0<=d0/\d0<=6)(UY:0<=d1/\d1<=6)(Aw:0<=r/\r<=6)(aeG:1<=d1->d0+(r+d1-1)<=6)
 (lU:∀i,bP D M (m+1) 6 v<|aW.getD i [])(aeQ:∀i,Bp (sh.getD (u.ah.getD 1 default).sh.toNat []) (i+1)->bP D M (m+1) r v (aW.getD i []))
 (Er:Wn D M 1 1 (bI (u.ah.getD 0 default).dU))(KA:Wn D M 1 1 (bI (u.ah.getD 1 default).dU))(hw:2*w+v+20<=B):
 Oq (m+1) (κ*B+2) sh aW u/\∀e,(1<=d1->d0+(r+d1-1)<=e)->bP D M (m+1) e (2*w+v+20) (OR sh aW u):=by
 obtain⟨P0,e0⟩:∃P,sh.getD (u.ah.getD 0 default).sh.toNat []=P:=⟨_,rfl⟩;obtain⟨P1,e1⟩:∃P,sh.getD (u.ah.getD 1 default).sh.toNat []=P:=⟨_,rfl⟩;rw[e0]at h0;rw[e1]at h1 aeQ;obtain⟨a,ha⟩:∃a:Int,a=if 1<=d1 then r+d1-1 else 0:=⟨_,rfl⟩;have KH:1<=d1->a=r+d1-1:=λh=>by rw[ha,if_pos h]
 have ha2:¬1<=d1->a=0:=λh=>by rw[ha,if_neg h]
 have ha6:d0+a<=6:=by
  by_cases c:1<=d1
  ·rw[KH c];exact aeG c
  rw[ha2 c];omega
 have Ym:∀x,x<m+1->vL (m+1) (κ*B+2) (pZ P1 x)/\bP D M (m+1) (d1-1) (w+2) (uf P1 x):=λx hx=>h1.ajW hB hV UY.2 hx (by omega);have hmul:∀i,i<m->vL (m+1) (κ*B+2) (jv (uf P1<|i+1)<|aW.getD i [])/\bP D M (m+1) a (w+v+3) (lI (uf P1<|i+1)<|aW.getD i []):=λi hi=>by
  by_cases c:Bp P1 (i+1)
  ·have hd:=Bz h1 c;have:=bP.aa7 (B:=B) hB hV (Ym (i+1)<|by omega).2 (aeQ i c) (by omega) Aw.2 (by have:=KH hd;omega) (by omega);exact⟨this.1,this.2.mono hB (by have:=KH hd;omega)<|by omega⟩
  rw[BG c];exact bP.TP
 have IK:∀i,i<=m->bP D M (m+1) a (w+v+3+i) (kY aW P1 i):=by
  intro i
  induction i with
  |zero=>
   intro _;show bP D M (m+1) a (w+v+3) (uf P1 0);by_cases c:Bp P1 0
   ·have hd:=Bz h1 c;exact(Ym 0 (by omega)).2.mono hB (by have:=KH hd;omega) (by omega)
   rw[BG c];exact bP.nil
  |succ i ih=>intro hi;exact(bP.Oj (B:=B) hB hV (ih<|by omega) ((hmul i<|by omega).2.mono hB (adq _)<|by omega) (by omega)<|by omega).2
 have UZ:bP D M (m+1) a (w+v+3+m) (mN aW P1):=by unfold mN;rw[hr];exact IK m<|abZ _
 have afD:a<=6:=by omega
 have hm2:=bP.aa7 (B:=B) hB hV h0 UZ CZ.2 afD ha6 (by omega);have hc:Wn D M 1 2 (bI (u.ah.getD 0 default).dU*bI (u.ah.getD 1 default).dU):=by simpa using Er.mul KA
 have gD:=bP.W7 (B:=B) hB hV hm2.2 ha6 hc (by omega);refine⟨⟨?_,?_,?_,?_⟩,λe he=>?_⟩
 ·rw[e1];refine⟨(Ym 0 (by omega)).1,λi hi=>(Ym (i+1)<|by omega).1,λi hi=>(hmul i<|by omega).1,λi hi=>?_,λi hi=>?_⟩
  ·exact(bP.Oj (B:=B) hB hV (IK i<|by omega) ((hmul i<|by omega).2.mono hB (adq _)<|by omega) (by omega)<|by omega).1
  have:=bP.tok (B:=B) hB hV (lU i) (adq _) (by omega);exact⟨this.1,agU this.2<|by decide⟩
 ·rw[e1];exact bP.tok (B:=B) hB hV UZ afD (by omega)
 ·rw[e0,e1];exact hm2.1
 ·rw[e0,e1];exact gD.1
 unfold OR;rw[e0,e1];by_cases c:1<=d1
 ·exact gD.2.mono hB (by have:=KH c;have:=he c;omega) (by omega)
 have sS:mN aW P1=[]:=by
  have gu:∀x,¬Bp P1 x:=λx h=>c<|Bz h1 h;have:∀i,kY aW P1 i=[]:=by
   intro i
   induction i with
   |zero=>exact BG (gu 0)
   |succ i ih=>simp[kY];rw[ih,BG<|gu _];simp[EV,lI,jv,fN]
  exact this _
 have:kJ (bI (u.ah.getD 0 default).dU*bI (u.ah.getD 1 default).dU) (lI P0<|mN aW P1)=[]:=by
  have e2:jv P0 []=[]:=by unfold jv;simp
  rw[sS];unfold lI kJ;rw[e2];rfl
 rw[this];exact bP.nil
end
def Ed(us:List bO)(n k:Nat):List Int:=((az us).take k).foldl (uX us<|rm us n us.length)<|List.replicate n 0
def Tk{us:List bO}{n k:Nat}(h:k<(az us).length):Ed us n (k+1)=uX us (rm us n us.length) (Ed us n k) ((az us).getD k 0):=by unfold Ed;rw[ac6 h,afW,aw h];rfl
def Jl{u:bO}{dg:List Int}:∀(fs:List EY){rt:List Int},u.out.toNat<rt.length->
 (fs.foldl (js u dg) rt).length=rt.length/\(∀s,s≠u.out.toNat->(fs.foldl (js u dg) rt).getD s 0=rt.getD s 0)/\rt.getD u.out.toNat 0<=(fs.foldl (js u dg) rt).getD u.out.toNat 0/\
   ∀f∈fs,rt.getD f.sh.toNat 0+dg.getD f.sh.toNat 0-1<=(fs.foldl (js u dg) rt).getD u.out.toNat 0
 |[],rt,_=>⟨rfl,λ_ _=>rfl,adq _,by simp⟩
 |f::fs,rt,ho=>by
  have hg:∀s,(js u dg rt f).getD s 0=if s=u.out.toNat then max (rt.getD u.out.toNat 0) (rt.getD f.sh.toNat 0+dg.getD f.sh.toNat 0-1)else rt.getD s 0:=λs=>nu ho;have Kx:∀s,rt.getD s 0<=(js u dg rt f).getD s 0:=λs=>by rw[hg s];split<;>(try subst_vars)<;>omega
  obtain⟨h1,h2,h3,h4⟩:=Jl fs (rt:=js u dg rt f) (by unfold js;rw[kH];exact ho);rw[aeK];refine⟨by rw[h1];unfold js;rw[kH],λs hs=>by rw[h2 s hs,hg s,if_neg hs],afE (Kx _) h3,λg D9=>?_⟩;rcases aci.1 D9 with rfl|D9
  ·have:=hg u.out.toNat;omega
  have:=h4 g D9;have:=Kx g.sh.toNat;omega
section
variable{us:List bO}{n m:Nat}(hm:fF us n)
section
variable{k s:Nat}
include hm
theorem fF.Xe{k:Nat}(h:k<us.length)(hl:(Ed us n k).length=n)(h0:∀s,0<=(Ed us n k).getD s 0):
 (Ed us n<|k+1).length=n/\(∀s,s≠(aT us k).out.toNat->(Ed us n<|k+1).getD s 0=(Ed us n k).getD s 0)/\(∀s,(Ed us n k).getD s 0<=(Ed us n<|k+1).getD s 0)/\
 (∀f∈cH (aT us k),(Ed us n k).getD f.sh.toNat 0+(rm us n us.length).getD f.sh.toNat 0-1+(if(aT us k).kind=bo then(rm us n us.length).getD ((aT us k).ah.getD 0 default).sh.toNat 0 else 0)<=(Ed us n<|k+1).getD (aT us k).out.toNat 0):=by
 have hk:k<(az us).length:=by rw[hm.mW];omega
 have ho:=hm.out h;have e0:us.getD ((az us).getD k 0).toNat default=aT us k:=rfl;obtain⟨g1,g2⟩:=hm.dg us.length<|abZ _;rw[Tk hk];unfold uX;rw[e0];obtain⟨q1,q2,q3,q4⟩:=Jl (u:=aT us k) (dg:=rm us n us.length) (cH<|aT us k) (rt:=Ed us n k) (by omega);obtain⟨A,hA⟩:∃A,OO (aT us k) (rm us n us.length) (Ed us n k)=A:=⟨_,rfl⟩;have hA':(cH<|aT us k).foldl (js (aT us k)<|rm us n us.length) (Ed us n k)=A:=hA;rw[hA']at q1 q2 q3 q4;rw[hA];obtain⟨C,hC⟩:∃C,uq (aT us k) (rm us n us.length) A=C:=⟨_,rfl⟩;have hCs:C.length=n/\∀s,C.getD s 0=if s=(aT us k).out.toNat/\(aT us k).kind=dQ then A.getD s 0+(rm us n us.length).getD s 0 else A.getD s 0:=by
  rw[<-hC];unfold uq;split
  ·rename_i hk;refine⟨by rw[kH];omega,λs=>?_⟩;rw[nu<|by omega];by_cases c:s=(aT us k).out.toNat
   ·rw[if_pos c,if_pos ⟨c,hk⟩,c]
   rw[if_neg c,if_neg λg=>c g.1]
  rename_i hk;exact⟨by omega,λs=>by rw[if_neg λg=>hk g.2]⟩
 rw[hC];have hEs:(sy (aT us k) (rm us n us.length) C).length=n/\∀s,(sy (aT us k) (rm us n us.length) C).getD s 0=if s=(aT us k).out.toNat/\(aT us k).kind=bo then C.getD s 0+(rm us n us.length).getD ((aT us k).ah.getD 0 default).sh.toNat 0 else C.getD s 0:=by
  unfold sy;split
  ·rename_i hk;refine⟨by rw[kH];omega,λs=>?_⟩;rw[nu<|by omega];by_cases c:s=(aT us k).out.toNat
   ·rw[if_pos c,if_pos ⟨c,hk⟩,c]
   rw[if_neg c,if_neg λg=>c g.1]
  rename_i hk;exact⟨by omega,λs=>by rw[if_neg λg=>hk g.2]⟩
 refine⟨hEs.1,λs hs=>?_,λs=>?_,λf hf=>?_⟩
 ·rw[hEs.2 s,if_neg λg=>hs g.1,hCs.2 s,if_neg λg=>hs g.1];exact q2 s hs
 ·have:=(g2 s).1;have:=(g2 ((aT us k).ah.getD 0 default).sh.toNat).1;rw[hEs.2 s,hCs.2 s];by_cases c:s=(aT us k).out.toNat
  ·subst c;split<;>omega
  rw[if_neg λg=>c g.1,if_neg λg=>c g.1,q2 s c];exact adq _
 have:=q4 f hf;have:=(g2 (aT us k).out.toNat).1;rw[hEs.2,hCs.2];by_cases c:(aT us k).kind=bo
 ·rw[if_pos c,if_pos ⟨rfl,c⟩];split<;>omega
 rw[if_neg c,if_neg λg=>c g.2];split<;>omega
def fF.rt:∀k,k<=us.length->(Ed us n k).length=n/\(∀s,0<=(Ed us n k).getD s 0)/\∀s,(Ed us n k).getD s 0<=6
 |0,_=>by unfold Ed;have hb:xZ (List.replicate n 0) 6:=xZ.rep n (by decide);exact⟨by simp,λs=>(hb.getD (by decide) s).1,λs=>(hb.getD (by decide) s).2⟩
 |k+1,h=>by
  obtain⟨h1,h2,h3⟩:=fF.rt k (by omega);obtain⟨q1,q2,q3,-⟩:=hm.Xe (by omega) h1 h2;refine⟨q1,λs=>afE (h2 s)<|q3 s,λs=>?_⟩;by_cases c:s=(aT us k).out.toNat
  ·obtain⟨r,-,e,hs⟩:=hm.dgL;obtain⟨z,hz⟩:=Option.isSome_iff_exists.1 hs;have:=Fp hz k (by rw[hm.mW];omega);rw[e]at this;rw[c];exact this
  rw[q2 s c];exact h3 s
def fF.shS(h:k<us.length)(hs:s≠(aT us k).out.toNat):(ie us n m<|k+1).getD s []=(ie us n m k).getD s []:=by
 have hk:k<(az us).length:=by rw[hm.mW];omega
 have ho:=hm.out h;have e0:us.getD ((az us)[k]).toNat default=aT us k:=by unfold aT;rw[aw hk]
 rw[px hk];unfold lD;rw[e0];split
 ·rw[fh<|by rw[kG];omega,if_neg hs]
 split
 ·rw[fh<|by rw[kG];omega,if_neg hs]
 rfl
def fF.ahI(h:k<=us.length)(hs:∀j,k<=j->j<us.length->s≠(aT us j).out.toNat):(zX us n m).getD s []=(ie us n m k).getD s []:=by
 unfold zX;rw[hm.mW];have:∀j,j<=us.length->k<=j->(ie us n m j).getD s []=(ie us n m k).getD s []:=by
  intro j
  induction j with
  |zero=>intro _ hj;have:k=0:=by omega
         subst this;rfl
  |succ j ih=>
   intro hj hkj;by_cases c:k=j+1
   ·subst c;rfl
   rw[hm.shS (by omega)<|hs j (by omega)<|by omega];exact ih (by omega) (by omega)
 simp_all
def fF.shP(h:k<=us.length)(hs:s=0\/∃j,j<k/\(aT us j).out.toNat=s):(zX us n m).getD s []=(ie us n m k).getD s []:=by
 refine hm.ahI h λj hj Yf e=>?_;have ho:=hm.out Yf;rcases hs with rfl|⟨i,hi,e2⟩
 ·omega
 have Ya:=hm.out (show i<us.length by omega);have:=hm.outs (show i<us.length by omega) Yf (by omega);omega
def fF.shV{i:Nat}(hi:i<us.length)(hk:us[i].kind=bo):∀j,j<=us.length->i<j->(G0 us n m j).getD us[i].out.toNat []=vN (jA us<|i+1) m
 |0,_,h=>by omega
 |j+1,hj,h=>by
  have hv:=(hm.val _<|ab9<|show j<us.length by omega).out;rw[G0,aw<|show j<us.length by omega];by_cases c:i=j
  ·subst c;rw[if_pos hk,fh<|by rw[qC];omega,if_pos rfl]
  have ih:=fF.shV hi hk j (by omega) (by omega);split
  ·rw[fh<|by rw[qC];omega,if_neg λe=>c<|hm.inj hi (by omega)<|by omega];exact ih
  exact ih
def fF.sh0:∀j,j<=us.length->(G0 us n m j).getD 0 []=vN 0 m
 |0,_=>by have:=hm.n0;unfold G0 B1;rw[fh<|by simpa using this,if_pos rfl]
 |j+1,hj=>by
  have hv:=(hm.val _<|ab9<|show j<us.length by omega).out;rw[G0,aw<|show j<us.length by omega];split
  ·rw[fh<|by rw[qC];omega,if_neg<|by omega];exact fF.sh0 j (by omega)
  exact fF.sh0 j (by omega)
def fF.ahK:(zX us n m).getD 0 []=vN 0 m:=by rw[hm.shP (k:=0) (abC _)<|.inl rfl];exact hm.sh0 _ .refl
def fF.ahJ(h:k<us.length)(hk:(aT us k).kind=bo):(zX us n m).getD (aT us k).out.toNat []=vN (jA us ((az us).getD k 0).toNat+1) m:=by
 have Kt:=hm.idx h;have gp:=hk;rw[hm.eq h]at gp;have e1:(ie us n m 0).getD (aT us k).out.toNat []=vN (jA us ((az us).getD k 0).toNat+1) m:=by unfold ie;rw[ahr,aiO,hm.eq h,hm.shV Kt gp _ .refl Kt,tT Kt,if_pos gp]
 have:∀j,j<=us.length->(ie us n m j).getD (aT us k).out.toNat []=(ie us n m 0).getD (aT us k).out.toNat []:=by
  intro j
  induction j with
  |zero=>intro _;rfl
  |succ j ih=>
   intro hj;by_cases c:j=k
   ·subst c;have Pq:j<(az us).length:=by rw[hm.mW];omega
    have e0:us.getD ((az us)[j]).toNat default=aT us j:=by unfold aT;rw[aw Pq]
    rw[px Pq];unfold lD;rw[e0,if_neg<|by rw[hk];decide,if_neg<|by rw[hk];decide];exact ih (by omega)
   rw[hm.shS (by omega) λe=>c ?_]
   ·exact ih (by omega)
   have h1:=hm.out h;exact hm.outs (by omega) h (by omega)
 unfold zX;rw[hm.mW];simp_all
end
end
def Ii{us:List bO}{i j:Nat}(gS:i<j)(hj:j<=us.length)(hk:(us.getD i default).kind=bo):jA us i<jA us j:=by
 have h1:=tT (us:=us) (i:=i) (by omega);rw[aw<|by omega]at hk;rw[if_pos hk]at h1;have h2:jA us (i+1)<=jA us j:=by exact List.Sublist.countP_le<|List.take_sublist_take_left<|by omega
 omega
def ahC{k:Nat}(h:k<8):2*65600+k*131220+20<=wB:=by unfold wB;omega
def ahB(k:Nat):2*65600+k*131220+20<=(k+1)*131220:=by omega
def WI(k:Nat):k*131220<=(k+1)*131220:=adb _<|ag9 k
section
variable{us:List bO}{n m:Nat}(hm:fF us n)(hc:m=c7 us)
include hm hc
theorem fF.aaI(s:Nat):bP (jq us) (jo us) (m+1) ((rm us n us.length).getD s 0) 65600 ((zX us n m).getD s []):=by have h:=hm.shK hc us.length .refl s;unfold zX;rw[hm.mW];exact h.mono hm.base (adq _)<|BN hm.len
def fF.occ{k:Nat}(h:k<us.length){v:Nat}(ho:Bp ((zX us n m).getD (aT us k).out.toNat []) v):
 ((aT us k).kind=bo/\v=jA us ((az us).getD k 0).toNat+1)\/((aT us k).kind≠bo/\∃f∈(aT us k).ah,Bp ((zX us n m).getD f.sh.toNat []) v):=by
 have hk:k<(az us).length:=by rw[hm.mW];omega
 have En:=hm.out h;by_cases ki:(aT us k).kind=bo
 ·rw[hm.ahJ h ki]at ho;exact .inl ⟨ki,OV ho⟩
 refine .inr ⟨ki,?_⟩;have hu:=hm.val _<|hm.mem h;have aiE:cH (aT us k)=(aT us k).ah:=by unfold cH;rw[if_neg ki]
 have uz:∀f∈(aT us k).ah,(ie us n m k).getD f.sh.toNat []=(zX us n m).getD f.sh.toNat []:=λf hf=>by
  have hv:=hu.feed f hf;refine(hm.shP (by omega) ?_).symm;rcases hm.before h (by rw[aiE];exact hf) ⟨hv.1,hv.2.1⟩with e|⟨j,hj,e⟩
  ·left;omega
  right;exact⟨j,hj,by omega⟩
 rw[hm.shP (k:=k+1) (by omega)<|.inr ⟨k,by omega,rfl⟩,px hk]at ho;have e0:us.getD ((az us)[k]).toNat default=aT us k:=by unfold aT;rw[aw hk]
 unfold lD at ho;rw[e0]at ho;have hK:=hm.shK hc k (by omega);obtain⟨-,f2,f3,f4⟩:=nF<|hm.few _<|hm.mem h;by_cases ka:(aT us k).kind=jJ
 ·rw[if_pos ka,fh<|by rw[kG];omega,if_pos rfl]at ho;have key:∀i,i<=(aT us k).ah.length->Bp (gB (ie us n m k) (bW n us) (aT us k) i).1 v->∃f∈(aT us k).ah,Bp ((ie us n m k).getD f.sh.toNat []) v:=by
   intro i
   induction i with
   |zero=>rintro _⟨u,hu,_⟩;simp[gB]at hu
   |succ i ih=>
    intro hi h;rcases Ht (sI h)with h|h
    ·exact ih (by omega) h
    exact⟨_,bz<|by omega,OW h⟩
  rcases Ht (sI ho)with ho|ho
  ·obtain⟨f,hf,Pj⟩:=key _ (abZ _) ho;exact⟨f,hf,by rw[<-uz f hf];exact Pj⟩
  exact absurd ho FD
 have kt:(aT us k).kind=dQ:=by rcases hu.kind with e|e|e;exact absurd e ki;exact absurd e ka;exact e
 rw[if_neg ka,if_pos kt,fh<|by rw[kG];omega,if_pos rfl]at ho;obtain⟨Yd,ht1,-⟩:=hu.table kt;have hfm:(aT us k).ah.getD 0 default∈(aT us k).ah:=bz (by omega);refine⟨_,hfm,?_⟩;rw[<-uz _ hfm];have hB:=hm.base;have hV:=hm.mle hc;have CZ:=(hm.dg k<|by omega).2 ((aT us k).ah.getD 0 default).sh.toNat;have X8:=bP.W7 (B:=wB) hB hV (hK ((aT us k).ah.getD 0 default).sh.toNat) CZ.2 (Ww (us:=us)<|f4 _ hfm) (by have:=BN (k:=k) (by have:=hm.len;omega);unfold wB;omega);have hx:bP (jq us) (jo us) (m+1) _ _ (oU (ie us n m k)<|aT us k):=X8.2;have hb:=hm.dgS h;have dc:=hb.2.2 ki _ hfm;have Kr:lh (aT us k)=max 1 (((aT us k).dD.length:Int)-1):=by unfold lh;rw[if_pos kt]
 have aeO:=((hm.dg (k+1)<|by omega).2 (aT us k).out.toNat).2;have key:∀cs:List Rat,(∀c∈cs,Wn (jq us) (jo us) 1 1 c)->cs.length<=(aT us k).dD.length->Bp (jE m (oU (ie us n m k)<|aT us k) cs) v->Bp (oU (ie us n m k)<|aT us k) v:=by
  intro cs
  induction cs with
  |nil=>rintro _ _⟨u,hu,_⟩;simp[jE]at hu
  |cons c cs ih=>
   intro o5 hl h;rw[acU]at hl;rcases Ht (sI h)with h|h
   ·by_cases e:cs=[]
    ·subst e;obtain⟨u,hu,_⟩:=h;simp[lI,jv,fN]at hu
    have h0:=(Mg (B:=wB) hB hV (hx.mono hB (adq _)<|show 1+wS k+1<=wS k+2 by omega) CZ.1 CZ.2 (by have:=BN (k:=k) (by have:=hm.len;omega);unfold wB;omega) cs (λd hd=>o5 d<|by simp[hd]) (by omega) (by refine afE (afE (aec (a:=(cs.length:Int)-1) (b:=lh<|aT us k) ?_ CZ.1) dc) aeO;rw[Kr];omega)).1 e
    rcases Xs h0.pw hx.pw h with h|h
    ·exact ih (λd hd=>o5 d<|by simp[hd]) (by omega) h
    exact h
   exact absurd h FD
 exact OW<|key _ (λc hc=>by obtain⟨t,ht,rfl⟩:=ac0.1 hc;exact Ww<|f3 t ht) (by simp) ho
def fF.aW:∀k,k<=us.length->
 (∀i,bP (jq us) (jo us) (m+1) 6 (k*131220)<|(iN us n m k).getD i [])/\
 (∀s,(s=0\/∃j,j<k/\(aT us j).out.toNat=s)->∀i,Bp ((zX us n m).getD s []) (i+1)->bP (jq us) (jo us) (m+1) ((Ed us n k).getD s 0) (k*131220) ((iN us n m k).getD i [])/\∃j,j<k/\(aT us j).kind=bo/\jA us ((az us).getD j 0).toNat=i)/\
 (∀j,j<k->(aT us j).kind=bo->Oq (m+1) (1012*wB+2) (zX us n m) (iN us n m j) (aT us j))
 |0,_=>by
  have sS:∀i,(iN us n m 0).getD i []=[]:=λi=>by unfold iN;rw[ahr,aiO,aca,agP];split<;>rfl
  refine⟨λi=>by rw[sS];exact bP.nil,λs hs i ho=>?_,λj hj=>by omega⟩;rcases hs with rfl|⟨j,hj,-⟩
  ·rw[hm.ahK]at ho;have:=OV ho;omega
  omega
 |k+1,h=>by
  obtain⟨r1,r2,r3⟩:=fF.aW k (by omega);have hk:k<(az us).length:=by rw[hm.mW];omega
  have hB:=hm.base;have hV:=hm.mle hc;have hlen:=hm.len;have En:=hm.out (show k<us.length by omega);have hu:=hm.val _<|hm.mem<|show k<us.length by omega
  obtain⟨t1,t2,t3⟩:=hm.rt k (by omega);obtain⟨q1,q2,q3,q4⟩:=hm.Xe (show k<us.length by omega) t1 t2;obtain⟨u1,u2,u3⟩:=hm.rt (k+1) h;have e0:us.getD ((az us)[k]).toNat default=aT us k:=by unfold aT;rw[aw hk]
  have eo:(az us)[k]=(az us).getD k 0:=(aw hk).symm;have hold:∀i,bP (jq us) (jo us) (m+1) 6 ((k+1)*131220) ((iN us n m k).getD i []):=λi=>(r1 i).mono hB (adq _)<|WI k;have akQ:∀s,(s=0\/∃j,j<k/\(aT us j).out.toNat=s)->s≠(aT us k).out.toNat:=λs hs e=>by
   rcases hs with rfl|⟨j,hj,e2⟩
   ·omega
   have Ya:=hm.out (show j<us.length by omega);have:=hm.outs (show j<us.length by omega) (show k<us.length by omega) (by omega);omega
  have ko:iN us n m (k+1)=oH us (zX us n m) (iN us n m k) (az us)[k]:=B4 hk;have afA:∀f∈cH (aT us k),f.sh.toNat=0\/∃j,j<k/\(aT us j).out.toNat=f.sh.toNat:=λf hf=>by
   have UP:f∈(aT us k).ah:=by
    unfold cH at hf;split at hf
    ·exact afT hf
    exact hf
   have hv:=hu.feed f UP;rcases hm.before (show k<us.length by omega) hf ⟨hv.1,hv.2.1⟩with e|⟨j,hj,e⟩
   ·left;omega
   right;exact⟨j,hj,by omega⟩
  by_cases ki:(aT us k).kind=bo
  ·obtain⟨II,-⟩:=hu.int ki;have Er:(aT us k).ah.getD 0 default∈(aT us k).ah:=bz (by omega);have KA:(aT us k).ah.getD 1 default∈(aT us k).ah:=bz (by omega);have LY:(aT us k).ah.getD 1 default∈cH (aT us k):=by
    unfold cH;rw[if_pos ki,aw<|by omega];refine List.mem_drop_iff_getElem.2 ⟨0,by omega,rfl⟩
   obtain⟨-,-,-,f4⟩:=nF<|hm.few _<|hm.mem<|show k<us.length by omega
   have hd:=(hm.dg us.length<|abZ _).2;have hq:=q4 _ LY;rw[if_pos ki]at hq;have hq6:=u3 (aT us k).out.toNat;obtain⟨ok,new⟩:=Xk (B:=wB) (u:=aT us k) (r:=(Ed us n k).getD ((aT us k).ah.getD 1 default).sh.toNat 0) hB hV (tz us n m k) (hm.aaI hc _) (hm.aaI hc _) (hd _) (hd _) ⟨t2 _,t3 _⟩ (λ_=>by omega) r1
    (λi ho=>(r2 _ (afA _ LY) i ho).1) (Ww (us:=us)<|f4 _ Er) (Ww (us:=us)<|f4 _ KA) (ahC<|adv h hlen)
   have Kt:=hm.idx (show k<us.length by omega);have Bg:jA us ((az us).getD k 0).toNat<m:=by
    have h1:=Ii (us:=us) Kt (abZ _) (by have:us.getD ((az us).getD k 0).toNat default=aT us k:=rfl;rw[this];exact ki)
    have h2:=Ij us us.length;rw[hc];omega
   have gE:∀i,(iN us n m<|k+1).getD i []=if i=jA us ((az us).getD k 0).toNat then OR (zX us n m) (iN us n m k) (aT us k)else(iN us n m k).getD i []:=λi=>by rw[ko];unfold oH;rw[e0,if_pos ki,eo,fh<|by rw[tz];exact Bg]
   have hwk:=ahB k;refine⟨λi=>?_,λs hs i ho=>?_,λj hj kj=>?_⟩
   ·rw[gE];split
    ·exact(new 6 (λ_=>by omega)).mono hB (adq _) hwk
    exact hold i
   ·by_cases c:s=(aT us k).out.toNat
    ·subst c;have hi:i=jA us ((az us).getD k 0).toNat:=by
      rcases hm.occ hc (show k<us.length by omega) ho with⟨-,e⟩|⟨e,-⟩
      ·omega
      exact absurd ki e
     refine⟨?_,k,by omega,ki,hi.symm⟩;rw[gE,if_pos hi];exact(new _ λ_=>by omega).mono hB (adq _) hwk
    have Nk:s=0\/∃j,j<k/\(aT us j).out.toNat=s:=by
     rcases hs with e|⟨j,hj,e⟩
     ·exact .inl e
     refine .inr ⟨j,?_,e⟩;apply aeY;intro g;have:j=k:=by omega
     subst this;exact c e.symm
    obtain⟨p1,j,p2,p3,p4⟩:=r2 s Nk i ho;have dc:i≠jA us ((az us).getD k 0).toNat:=by
     rw[<-p4];intro e;have gS:=hm.idx (show j<us.length by omega);have kj':(us.getD ((az us).getD j 0).toNat default).kind=bo:=p3;have kk':(us.getD ((az us).getD k 0).toNat default).kind=bo:=ki;rcases aju ((az us).getD j 0).toNat ((az us).getD k 0).toNat with c2|c2|c2
     ·have:=Ii c2 (by omega) kj';omega
     ·have h1:=gi _ (bz (d:=0)<|show j<(az us).length by rw[hm.mW];omega);have h2:=gi _<|bz (d:=0) hk;have:=hm.ad7 (agU p2 h) h (by rw[<-ah3 h1.1,<-ah3 h2.1,c2]);exact absurd p2 (by rw[this];exact Nat.lt_irrefl _)
     have:=Ii c2 (by omega) kk';omega
    refine⟨?_,j,by omega,p3,p4⟩;rw[gE,if_neg dc,q2 s c];exact p1.mono hB (adq _)<|WI k
   by_cases c:j=k
   ·subst c;exact ok
   exact r3 j (by omega) kj
  have gE:iN us n m (k+1)=iN us n m k:=by rw[ko];unfold oH;rw[e0,if_neg ki]
  rw[gE];refine⟨hold,λs hs i ho=>?_,λj hj kj=>?_⟩
  ·by_cases c:s=(aT us k).out.toNat
   ·subst c;rcases hm.occ hc (show k<us.length by omega) ho with⟨e,-⟩|⟨-,f,hf,Pj⟩
    ·exact absurd e ki
    have LY:f∈cH (aT us k):=by unfold cH;rw[if_neg ki];exact hf
    obtain⟨p1,j,p2,p3,p4⟩:=r2 _ (afA f LY) i Pj;have an0:=Bz (hm.aaI hc f.sh.toNat) Pj;have hq:=q4 f LY;rw[if_neg ki]at hq;exact⟨p1.mono hB (by omega)<|WI k,j,by omega,p3,p4⟩
   have Nk:s=0\/∃j,j<k/\(aT us j).out.toNat=s:=by
    rcases hs with e|⟨j,hj,e⟩
    ·exact .inl e
    refine .inr ⟨j,?_,e⟩;apply aeY;intro g;have:j=k:=by omega
    subst this;exact c e.symm
   obtain⟨p1,j,p2,p3,p4⟩:=r2 s Nk i ho;rw[q2 s c];exact⟨p1.mono hB (adq _)<|WI k,j,by omega,p3,p4⟩
  by_cases c:j=k
  ·subst c;exact absurd kj ki
  exact r3 j (by omega) kj
def fF.read:Wc (m+1) (1012*wB+2) (1012*2+2) us n m:=by
 have hB:=hm.base;have hV:=hm.mle hc;have hlen:=hm.len;have dz:∀{l:List (List cN)}{p:List cN},p∈l->∃s,p=l.getD s []:=λ{l p}h=>by obtain⟨s,hs,rfl⟩:=ag3 h;exact⟨s,(aw hs).symm⟩
 have e0:∀k(h:k<(az us).length),us.getD ((az us)[k]).toNat default=aT us k:=λk h=>by unfold aT;rw[aw h]
 refine⟨λk hk p hp=>?_,λk hk p hp=>?_,λk hk ka=>?_,λk hk kt=>?_,λk hk ki=>?_⟩
 ·rw[hm.mW]at hk;obtain⟨s,rfl⟩:=dz hp;exact bP.tok (B:=wB) hB hV (hm.shK hc k hk s) ((hm.dg k hk).2 s).2 (by have:=BN (k:=k) (by omega);unfold wB;omega)
 ·rw[hm.mW]at hk;obtain⟨i,rfl⟩:=dz hp;exact bP.tok (B:=wB) hB hV ((hm.aW hc k hk).1 i) (adq _) (by unfold wB;omega)
 ·have gp:k<us.length:=by rw[<-hm.mW];exact hk
  rw[e0 k hk]at ka⊢;exact(hm.SU hc gp (by have:=BN (k:=k) (by omega);unfold wB;omega)<|hm.shK hc k<|by omega).1 ka
 ·have gp:k<us.length:=by rw[<-hm.mW];exact hk
  rw[e0 k hk]at kt⊢;exact(hm.SU hc gp (by have:=BN (k:=k) (by omega);unfold wB;omega)<|hm.shK hc k<|by omega).2.1 kt
 have gp:k<us.length:=by rw[<-hm.mW];exact hk
 rw[e0 k hk]at ki⊢;exact(hm.aW hc us.length .refl).2.2 k gp ki
end
noncomputable def ND(p:kx):Bool:=A7 p&&decide (CL (zX p.aa p.n.toNat (c7 p.aa)++(OQ p.aa p.n.toNat<|c7 p.aa).aW)=0)
def TU{p:kx}(h:A7 p=true):fF p.aa p.n.toNat/\p.n=p.n.toNat:=by
 unfold A7 at h;rw[acd,acd,decide_eq_true_eq,ade]at h;obtain⟨⟨h1,h2,h3⟩,h4,h5⟩:=h;obtain⟨v1,v2,v3,hv⟩:=Jw h3;have e:p.n=p.n.toNat:=by omega
 unfold dR at h3;rw[if_neg<|by omega,if_neg<|by omega]at h3;split at h3
 ·rename_i g;exact absurd h3 g
 split at h3
 ·cases h3
 split at h3
 ·cases h3
 split at h3
 ·cases h3
 split at h3
 ·cases h3
 rename_i hd;split at h3
 ·cases h3
 exact⟨⟨h1,by omega,by omega,λu hu=>by rw[<-e];exact hv u hu,Classical.not_not.1 hd,by omega,h4,h5⟩,e⟩
def af3(p:kx)(h:ye p):aL Tryz.prog 32 [bh p,.i 8] (.u<|ND p):=by
 refine bE Tryz.func32 rfl<|r0 rfl<|bF rfl (Hz p h) rfl<|r0 rfl<|iF 8 rfl (λg=>?_) (λg=>?_)
 ·obtain⟨hm,e⟩:=TU g;have hR:=hm.read (m:=c7 p.aa) rfl;have hn9:=hm.n9;have No:=hm.n0;have hlen:=hm.len;have wW:∀u∈p.aa,jc p.n u:=λu hu=>by rw[e];exact hm.val u hu
  refine r0 rfl<|bF rfl (Mz p h p.n.toNat (c7 p.aa) e rfl No (by omega) (by omega) wW hR (by unfold wB;decide) (by decide)<|by unfold wB;decide) rfl ?_;refine r0 rfl<|bF rfl (HE (OQ p.aa p.n.toNat<|c7 p.aa) (zX p.aa p.n.toNat<|c7 p.aa) (V:=c7 p.aa+1) (K:=1012*wB+2) (λq hq=>?_) ?_<|by unfold wB;decide) rfl ?_
  ·rcases ac5.1 hq with hq|hq
   ·have:=hR.sh _ (abZ _) q hq;exact⟨this.1,agU this.2<|by decide⟩
   have:=hR.rt _ (abZ _) q hq;exact⟨this.1,agU this.2<|by decide⟩
  ·unfold zX;rw[kG];have:(OQ p.aa p.n.toNat<|c7 p.aa).aW.length=c7 p.aa:=tz _ _ _ _;have h2:c7 p.aa<=p.aa.length:=agV;omega
  refine r0 rfl<|aG rfl<|an.of_eq<|congrArg SV.u ?_;unfold ND;rw[g,adx]
 refine r0 rfl<|aG rfl ?_;unfold ND;rw[g];rfl
end Go.Ai
