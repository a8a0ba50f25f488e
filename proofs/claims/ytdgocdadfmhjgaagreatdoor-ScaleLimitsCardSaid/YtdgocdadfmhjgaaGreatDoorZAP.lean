/- Parts of the proof of ScaleLimits (Limits and Conditions return the results or the errors of the reference), at every input, with no further conditions. -/
import Derived.Test.YtdgocdadfmhjgaaGreatDoorZAO
import Derived.Shelf.Strconv.Itoa4
import Derived.Ground.NamesProg
set_option linter.all false
set_option maxRecDepth 100000
set_option maxHeartbeats 0
namespace Go.Ai.Pg
open Go.Proofs Go.Ai Go.Ai.cY
def pT(s:Int)(u:bO):∀(xs:List bO)(k:Nat),cg s k (xs++[u])=if 0<=cg s k xs then cg s k xs else if u.out=s then((k+xs.length:Nat):Int)else -1
 |[],k=>by simp[cg]
 |x::xs,k=>by
  simp only[afe,cg];by_cases h:x.out=s
  ·simp[h]
  simp only[h,if_false,pT s u xs<|k+1,abn];have:k+1+xs.length=k+(xs.length+1):=by omega
  rw[this]
def pS{s:Int}:∀{xs:List bO}{k:Nat},0<=cg s k xs↔1<=xs.countP λu=>decide (u.out=s)
 |[],k=>by simp[cg]
 |x::xs,k=>by
  simp only[cg,List.countP_cons];by_cases h:x.out=s
  ·simp[h]
  simp only[h,if_false,decide_false,adh,pS (xs:=xs) (k:=k+1)];omega
def za{s:Int}:∀{xs:List bO}{k:Nat},¬0<=cg s k xs->cg s k xs= -1
 |[],k,_=>rfl
 |x::xs,k,h=>by
  simp only[cg]at h⊢;by_cases g:x.out=s
  ·rw[if_pos g]at h;exact absurd (by omega) h
  rw[if_neg g]at h⊢;exact za h
def DB{xs:List bO}{i:Nat}(h:i<xs.length)(P:bO->Bool):(xs.take<|i+1).countP P=(xs.take i).countP P+if P xs[i]then 1 else 0:=by rw[abZ h,agV,aiP]
def L4(n:Nat)(us:List bO):List Int:=(List.range n).map λ(s:Nat)=>dY us (s:Int)
def Y3{n s:Nat}{us:List bO}(h:s<n):(L4 n us).getD s 0=dY us s:=by unfold L4;rw[abc,afh,aiQ h];rfl
def uG:Int->List bO->List Int->List Int×Bool
 |_,[],L=>(L,!decide (-1∈L.drop 1))
 |k,u::r,L=>if 0<=L.getD u.out.toNat 0 then(L,false)else uG (k+1) r (L.set u.out.toNat k)
def Ib(n:Nat)(us:List bO):List Int×Bool:=uG 0 us<|List.replicate n<|-1
def RV(p:kx)(h:ye p)(n:Nat)(hn:p.n=n)(h1:1<=n)(UH:n<2^20)(ho:∀u∈p.aa,1<=u.out/\u.out<n):aL Tryz.prog 161 [bh p] (.bX [.ints .i64 false (Ib n p.aa).1,.u (Ib n p.aa).2]):=by
 have hl:=h.aa;refine bE Tryz.func161 rfl<|r0 rfl<|Il (us:=[.ints .i64 false [-1],.i n]) rfl rfl ao ⟨rfl,congrArg SV.i hn,ao⟩ (Fs (-1) n h1 UH) rfl<|r0 rfl<|kh (λ(i:Nat)(L:List Int)=>[(4,.ints .i64 true L),(12,.bT false 5 default dM p.aa),(13,.i p.aa.length),(14,.i i)]) (λi L=>i<=p.aa.length/\L.length=n/\Ib n p.aa=uG i (p.aa.drop i) L) (λi _=>p.aa.length-i) 0 (List.replicate n<|-1) ⟨aaJ _,by simp,rfl⟩ ⟨ab,ab,ab,ab,ao⟩ ?_;rintro i L⟨hi,hL,hd⟩;refine r0 rfl<|bH rfl (λg1=>?_) (λg1=>?_)
 ·have aZ:i<p.aa.length:=by omega
  have ei:(i:Int).toNat=i:=by omega
  have eg:p.aa.getD i default=p.aa[i]:=aw aZ;rw[abV aZ,uG]at hd;have hu:=ho _<|aaY aZ;refine r1 rfl (by simp only[ag,and_true,ei,eg,hL];omega) ?_;rw[ei,eg];refine bH rfl (λg2=>?_) (λg2=>?_)
  ·have g2:0<=L.getD p.aa[i].out.toNat 0:=g2;rw[if_pos g2]at hd;refine r0 rfl<|Xe rfl ?_;rw[hd];exact⟨rfl,rfl,ao⟩
  have g2:¬0<=L.getD p.aa[i].out.toNat 0:=g2;rw[if_neg g2]at hd;refine r1 rfl (by simp only[ag,and_true,hL];omega) ?_;refine again (i+1,L.set p.aa[i].out.toNat i) (by dsimp only;omega) ⟨by dsimp only;omega,by simpa using hL,by simpa using hd⟩ ⟨ab,ab,ab,ab,ao⟩
 rw[adu<|by omega,uG]at hd;refine r1 rfl (by simp only[ag,and_true,hL];omega) ?_;refine bF rfl (N5 _ (-1)<|by simp;omega) rfl ?_;refine r0 rfl<|Xe rfl ?_;rw[hd];have:((L.drop (1:Int).toNat).take<|L.length-(1:Int).toNat)=L.drop 1:=abm (by simp);refine⟨rfl,?_,ao⟩;show(!decide (-1∈(L.drop (1:Int).toNat).take (L.length-(1:Int).toNat)))= !decide (-1∈L.drop 1);rw[this]
def NR(n:Nat)(us:List bO)(h1:1<=n)(ho:∀u∈us,1<=u.out/\u.out<n):∀(i:Nat)(L:List Int),i<=us.length->L.length=n->(∀s:Nat,s<n->L.getD s 0=dY (us.take i) s)->(∀s:Nat,((us.take i).countP λu=>decide (u.out=(s:Int)))<=1)->
 ((uG i (us.drop i) L).2=true↔vF n us)/\((uG i (us.drop i) L).2=true->(uG i (us.drop i) L).1=L4 n us):=by
 intro i
 induction hm:us.length-i generalizing i with
 |zero=>
  intro L hi hL hd hc;have ei:us.take i=us:=abm (by omega);rw[ei]at hd hc;rw[adu<|by omega];simp only[uG,afL,decide_eq_false_iff_not];have dz:¬ -1∈L.drop 1↔vF n us:=by
   constructor
   ·intro hn s jn gD;have h2:=hd s gD;have:0<=dY us s:=adC λrU=>by
     refine hn<|ah0.2 ⟨s-1,by simp;omega,?_⟩;rw[List.getElem_drop];have e:1+(s-1)=s:=by omega
     simp only[e];have h5:dY us s= -1:=za rU;rw[<-h5,<-h2,abc,abl<|by omega];rfl
    have h3:=pS.1 this;have h4:=hc s;omega
   intro RJ dz;obtain⟨j,hj,e⟩:=ah0.1 dz;rw[List.getElem_drop]at e;simp at hj;have h2:=hd (1+j) (by omega);rw[abc,abl<|by omega,Option.getD_some,e]at h2;have h3:=RJ (1+j) (by omega) (by omega);have h4:=(pS (s:=((1+j:Nat):Int)) (xs:=us) (k:=0)).2 (by omega);unfold dY at h2;omega
  refine⟨dz,λ_=>?_⟩;apply ahH
  ·simp[L4,hL]
  intro s k1 k2;have h2:=hd s (by omega);rw[abc,abl k1,Option.getD_some]at h2;simp[L4,h2]
 |succ m ih=>
  intro L hi hL hd hc;have aZ:i<us.length:=by omega
  have hu:=ho _<|aaY aZ;have eu:((us[i].out.toNat:Nat):Int)=us[i].out:=by omega
  rw[abV aZ,uG];have h0:=hd us[i].out.toNat (by omega);rw[eu]at h0;by_cases g:0<=L.getD us[i].out.toNat 0
  ·rw[if_pos g];refine⟨⟨λh=>by simp at h,λRJ=>?_⟩,λh=>by simp at h⟩;rw[h0]at g;have h2:=pS.1 g;have h3:=RJ us[i].out.toNat (by omega) (by omega);rw[eu]at h3;have h4:=DB aZ λu=>decide (u.out=us[i].out);simp only[decide_true,if_true]at h4;have h5:((us.take<|i+1).countP λu=>decide (u.out=us[i].out))<=us.countP λu=>decide (u.out=us[i].out):=List.Sublist.countP_le<|List.take_sublist _ _;omega
  rw[if_neg g];have:=ih (i+1) (by omega) (L.set us[i].out.toNat i) (by omega) (by simpa using hL) ?_ ?_
  ·simpa using this
  ·intro s hs;rw[abc,agG];rw[abZ aZ];unfold dY;rw[pT];have h2:=hd s hs;rw[abc]at h2;by_cases e:us[i].out.toNat=s
   ·subst e;rw[h0]at g;unfold dY at g;rw[if_pos rfl,if_pos<|by omega,eu,if_neg g,if_pos rfl];simp;omega
   rw[if_neg e,h2];have e2:¬us[i].out=(s:Int):=by omega
   rw[if_neg e2];by_cases g2:0<=cg (s:Int) 0 (us.take i)
   ·rw[if_pos g2];rfl
   rw[if_neg g2];exact za g2
  intro s;rw[DB aZ];have h2:=hc s;by_cases e:us[i].out=(s:Int)
  ·have g2:¬0<=cg us[i].out 0 (us.take i):=by rw[h0]at g;exact g
   rw[pS]at g2;rw[e]at g2;simp only[e,decide_true,if_true];omega
  simp only[e,decide_false,adh,if_false];omega
def RT{n:Nat}{us:List bO}(h1:1<=n)(ho:∀u∈us,1<=u.out/\u.out<n):((Ib n us).2=true↔vF n us)/\((Ib n us).2=true->(Ib n us).1=L4 n us):=by have:=NR n us h1 ho 0 (List.replicate n<|-1) (aaJ _) (by simp) (λs hs=>by simp[abc,hs,dY,cg]) (λs=>by simp);simpa[Ib]using this
def f0:Fr:=⟨⟨0,none⟩,⟨1,none⟩⟩
instance:Inhabited Fr:=⟨f0⟩
def Z3:gT f0 0:=⟨by simp[f0,a8],by simp[f0,a8],rfl,rfl⟩
noncomputable def ER(n:Nat)(us:List bO):List Fr:=us.foldl (λ(o:List Fr)u=>o.set u.out.toNat<|fX<|bI u.k)<|List.replicate n f0
def LG(n:Nat)(us:List bO):(ER n us).length=n:=by
 unfold ER;have:∀(us:List bO)(o:List Fr),(us.foldl (λ(o:List Fr)u=>o.set u.out.toNat<|fX<|bI u.k) o).length=o.length:=by
  intro us
  induction us with
  |nil=>intro o;rfl
  |cons u us ih=>intro o;rw[adl,ih];simp
 rw[this];simp
def Sd{n:Nat}{us:List bO}{i:Nat}(h:i<us.length):ER n (us.take<|i+1)=(ER n<|us.take i).set us[i].out.toNat (fX<|bI us[i].k):=by unfold ER;rw[abZ h,ae8];rfl
def x0:SV:=.agg [.i 0,.nil,.i 1,.nil]
def map_unit{x:SV}:∀n,au (List.replicate n x)=(List.replicate n ()).map λ_=>x.den
 |0=>rfl
 |n+1=>by simp only[af1,au,acV,map_unit n]
def QL(n:Nat)(h0:1<=n)(hn:n<2^20):aL Tryz.prog 230 [.row false 4 [eF f0],.i n] (.bT true 4 () (λ_=>x0)<|List.replicate n ()):=(QK x0 rfl rfl n h0 hn).same rfl (by simp only[SV.den];rw[map_unit])
def Y8(p:kx)(h:ye p)(n:Nat)(hn:p.n=n)(h1:1<=n)(UH:n<2^20)(hu:∀u∈p.aa,jc p.n u):aL Tryz.prog 163 [bh p] (.bT true 4 f0 eF<|ER n p.aa):=by
 have hl:=h.aa;refine bE Tryz.func163 rfl<|r0 rfl<|bG rfl (f_s 0) rfl<|r0 rfl ?_;have hr:=QL n h1 UH;rw[<-hn]at hr;refine VM rfl rfl ao hr rfl ⟨λ_=>rfl,ao⟩<|k0 rfl (by kernel_rfl)<|Kd [(3,.bT true 4 f0 eF<|List.replicate n f0),(12,.bT false 5 default dM p.aa),(13,.i p.aa.length),(14,.i 0)] ⟨⟨rfl,rfl,.bT ?_⟩,⟨rfl,rfl,.refl _⟩,⟨rfl,rfl,.refl _⟩,⟨rfl,rfl,.refl _⟩,ao⟩ ?_
 ·rw[ahZ,ahZ];exact qp.rep (.agg<|.cons (.refl _)<|.cons (.le<|show an .nil (.fe .u64 [])from rfl)<|.cons (.refl _)<|.cons (.le<|show an .nil (.fe .u64 [])from rfl) .nil) n
 refine loop (λi:Nat=>[(3,.bT true 4 f0 eF<|ER n<|p.aa.take i),(12,.bT false 5 default dM p.aa),(13,.i p.aa.length),(14,.i i)]) (λi=>i<=p.aa.length) (λi=>p.aa.length-i) 0 (aaJ _) ⟨ab,ab,ab,ab,ao⟩ ?_;intro i hi;refine r0 rfl<|bH rfl (λg1=>?_) (λg1=>?_)
 ·have aZ:i<p.aa.length:=by omega
  have ei:(i:Int).toNat=i:=by omega
  have eg:p.aa.getD i default=p.aa[i]:=aw aZ;have hv:=hu _<|aaY aZ;have ho:=hv.out;have hlen:=LG n<|p.aa.take i;refine r1 rfl (by simp only[ag,and_true,ei];omega) ?_;rw[ei,eg];refine bG rfl (qW hv.k) rfl<|k1 rfl (by kernel_rfl) (by simp only[ag,and_true,hlen]<;>omega) ?_;refine again (i+1) (by omega) (by omega) ⟨⟨rfl,?_⟩,ab,ab,ab,ao⟩;refine⟨rfl,rfl,?_⟩;rw[Sd aZ,aeY];exact jd.refl _
 refine r0 rfl<|aG rfl<|an.of_eq ?_;rw[abm<|by omega];rfl
def Of(l:List bK):aL Tryz.prog 232 [.strs false l] (.fn (.func 260) [] [.box false<|.strs false l]):=by
 refine bE Tryz.func232 rfl<|b8 1 [(1,.box true<|.strs false l)] True ?_ λ_=>?_
 ·refine r0 rfl<|aP ao ⟨ab,ao⟩
 refine qB (r:=1) (p:=[]) rfl rfl ao<|r0 rfl<|bB rfl
def LK(l:List bK)(hl:l.length<2^40)(C:Value->Prop)(J:Nat->pk)(hy:∀v,C v->∀k,k<l.length->Yields Tryz.prog (J k) (J<|k+1) (au [.i ((l.length-1-k:Nat):Int),.s<|l.getD (l.length-1-k) []]) true v):
 lp Tryz.prog 260 [.abs<|J 0] [.pv C,.box false<|.strs false l] [.abs<|J l.length] (.bX []):=by
 refine vD (fn:=Tryz.f260) Tryz.func260 rfl rfl rfl rfl rfl<|r1 rfl (by simp only[ag,and_true];omega) ?_;refine loop (λk:Nat=>[(0,.pv C),(1,.box false<|.strs false l),(3,.i<|l.length-1-k),(1000000,.abs<|J k)]) (λk=>k<=l.length) (λk=>l.length-k) 0 (aaJ _) ⟨ab,ab,⟨rfl,an.of_eq<|congrArg SV.i<|by omega⟩,rfl,ao⟩ ?_;intro k hk;refine r0 rfl<|bH rfl (λg=>?_) (λg=>?_)
 ·have gp:k<l.length:=by omega
  have e1:((l.length:Int)-1-k)=((l.length-1-k:Nat):Int):=by omega
  rw[e1];refine r1 rfl (by simp only[ag,and_true];omega) ?_;rw[afc];refine yk rfl rfl ao (λv hv=>hy v hv k gp) rfl<|r0 rfl<|nB rfl rfl rfl (λh=>by simp at h) λ_=>?_;refine r1 rfl (by simp only[ag,and_true];omega) ?_;refine again (k+1) (by omega) (by omega) ⟨ab,ab,⟨rfl,an.of_eq<|congrArg SV.i<|by omega⟩,rfl,ao⟩
 have:k=l.length:=by omega
 subst this;refine r0 rfl<|Xf [(1000000,.abs<|J l.length)] ⟨rfl,ao⟩ rfl ao ⟨ab,ao⟩
noncomputable def Om(x:Fr)(cs:List bK):Fr:=cs.foldr (λc s=>Ol (TQ s x)<|fX<|bI c) f0
def Z1:rQ f0 1:=⟨gJ (m:=0)<|by decide,gJ (m:=1)<|by decide⟩
def zC{x:Fr}{q:Rat}(hx:gT x q){L:Nat}(lx:rQ x L):∀{cs:List bK},(∀c∈cs,aJ c=0)->gT (Om x cs) (uA q<|cs.map bI)/\rQ (Om x cs) (cs.length*(L+601)+1)
 |[],_=>⟨Z3,by simpa[Om]using Z1⟩
 |c::cs,h=>by
  obtain⟨h1,h2⟩:=zC hx lx (cs:=cs) λc hc=>h c (by simp[hc]);obtain⟨h3,h4⟩:=tM _ _ h1 hx h2 lx;obtain⟨h5,h6⟩:=Sh _ _ h3 (dL<|bI c) h4<|fH<|h c<|by simp
  refine⟨h5,KT h6 ?_⟩;rw[abn,ahS];omega
def WK(cs:List bK)(hc:∀c∈cs,aJ c=0)(hl:cs.length<2^10)(x:Fr){q:Rat}(hx:gT x q){L:Nat}(lx:rQ x L)(hL:L<2^20):aL Tryz.prog 164 [.strs false cs,eF x] (eF<|Om x cs):=by
 refine bE Tryz.func164 rfl<|r0 rfl<|bF rfl (f_s 0) rfl<|r0 rfl<|bF rfl (Of cs) rfl<|r0 rfl<|Cb [5,3] [5,3] cs.length cs.length (λk=>[.i ((cs.length-1-k:Nat):Int),.s<|cs.getD (cs.length-1-k) []]) (λk=>[.box true<|eF<|Om x<|cs.drop<|cs.length-k,.box true<|eF x]) (λ_=>true) (λ_=>none) (.bX [])
  rfl rfl rfl rfl rfl Tryz.func260 rfl rfl rfl rfl rfl rfl (λ_ _=>rfl) (λ_=>rfl) ?_ ?_ rfl (λ_ _ _=>rfl) (λC J hy=>LK cs (by omega) C J λv hv k hk=>hy v hv k hk λ_ _=>rfl) ?_ ?_ (λc h=>by cases h)
 ·intro k hk z hz;simp only[abk,adx,or_false]at hz;rcases hz with rfl|rfl<;>rfl
 ·show[SV.box true<|eF<|Om x<|cs.drop<|cs.length-0,SV.box true<|eF x]=_;rw[ahL,adE];rfl
 ·intro k hk _;have hk1:cs.length-1-k<cs.length:=by omega
  obtain⟨a1,a2⟩:=zC hx lx (cs:=cs.drop<|cs.length-k) λc h=>hc c<|ae0 h;have hlen:(cs.drop<|cs.length-k).length=k:=by simp;omega
  rw[hlen]at a2;have a3:k*(L+601)<=1024*(L+601):=abY _ (by omega);refine r0 rfl<|sn<|r0 rfl<|bF rfl (C5 _ _ a1 hx a2 lx<|by omega) rfl<|r0 rfl ?_;have hcj:=hc _<|aaY hk1;refine Il (us:=[.s cs[cs.length-1-k]]) rfl rfl ao ⟨congrArg SV.s<|aw hk1,ao⟩ (qW hcj) rfl<|r0 rfl ?_;obtain⟨b1,b2⟩:=tM _ _ a1 hx a2 lx;refine bF rfl (acp _ _ b1 (dL _) b2 (fH hcj)<|by omega) rfl<|r0 rfl ?_;have e1:cs.drop (cs.length-(k+1))=cs[cs.length-1-k]::cs.drop (cs.length-k):=by
   have e2:cs.length-(k+1)=cs.length-1-k:=by omega
   have e3:cs.length-k=cs.length-1-k+1:=by omega
   rw[e2,e3,abV hk1]
  refine An [(1000000,.box true<|eF<|Om x<|cs.drop<|cs.length-(k+1)),(1000001,.box true<|eF x)] rfl rfl ⟨⟨rfl,rfl,?_⟩,⟨rfl,rfl,.refl _⟩,ao⟩ ⟨ab,ab,ao⟩;rw[e1];exact .refl _
 intro _;rw[afM,adz];refine r0 rfl<|bB rfl
section
variable{fs:List EY}{L:List Int}{i:Nat}
def TS(p:kx)(L:List Int)(u:bO):aL Tryz.prog 229 [bh p,.ints .i64 false L,dM u] (.fn (.func 259) [] [.box false<|dM u,.box false<|.ints .i64 false L]):=by
 refine bE Tryz.func229 rfl<|b8 1 [(4,.box true<|.ints .i64 false L),(5,.box true<|dM u)] True ?_ λ_=>?_
 ·refine r0 rfl<|aP ao ⟨ab,ab,ao⟩
 refine qB (r:=4) (p:=[]) rfl rfl ao<|qB (r:=5) (p:=[]) rfl rfl ao<|r0 rfl<|bB rfl
def O3(u:bO):aL Tryz.prog 254 [dM u] (.bT false 2 default pd u.ah):=by refine bE Tryz.func254 rfl<|r0 rfl<|bB rfl
def XP(u:bO)(h:1<=u.ah.length):aL Tryz.prog 255 [dM u] (.bT false 2 default pd<|u.ah.drop 1):=by refine bE Tryz.func255 rfl<|r1 rfl (by simp only[ag,and_true];omega) ?_;have e:(u.ah.drop (1:Int).toNat).take (u.ah.length-(1:Int).toNat)=u.ah.drop 1:=abm (by simp);exact aG rfl<|an.of_eq<|congrArg (SV.bT false 2 default pd) e
def mh(L:List Int)(fs:List EY):List Int:=(fs.map λf=>L.getD f.sh.toNat 0).filter λi=>decide (0<=i)
def FM(h:i<fs.length):mh L (fs.take<|i+1)=mh L (fs.take i)++if 0<=L.getD fs[i].sh.toNat 0 then[L.getD fs[i].sh.toNat 0]else[]:=by
 unfold mh;rw[abZ h,acd,List.filter_append]
 congr 1
 by_cases g:0<=L.getD fs[i].sh.toNat 0
 ·rw[if_pos g];simp only[acV,adQ,List.filter_cons,decide_eq_true g,if_true,List.filter_nil]
 rw[if_neg g];simp only[acV,adQ,List.filter_cons,decide_eq_false g,adh,if_false,List.filter_nil]
def MT(h:i<fs.length):mh L fs=mh L (fs.take i)++((if 0<=L.getD fs[i].sh.toNat 0 then[L.getD fs[i].sh.toNat 0]else[])++mh L (fs.drop<|i+1)):=by rw[<-abv,<-FM h];unfold mh;rw[<-List.filter_append,<-acd,agS]
def Wi(b:Nat->Bool)(n m:Nat):Prop:=(∀k,k<n->(∀j,j<k->b j=true)->b k=false->m=k+1)/\((∀k,k<n->b k=true)->m=n)
def Rb(u:bO)(hu:UOk u){n:Int}(hv:jc n u)(L:List Int)(hL:n<=L.length)(b:Nat->Bool)(m:Nat)(hm:Wi b (mh L<|cH u).length m)(C:Value->Prop)(J:Nat->pk)
 (hy:∀v,C v->∀k,k<(mh L<|cH u).length->(∀j,j<k->b j=true)->Yields Tryz.prog (J k) (J<|k+1) (au [.i<|(mh L<|cH u).getD k 0]) (b k) v):
 lp Tryz.prog 259 [.abs<|J 0] [.pv C,.box false<|dM u,.box false<|.ints .i64 false L] [.abs<|J m] (.bX []):=by
 have bt:=hu.ah;have Kq:(cH u).length<2^40:=by unfold cH;split<;>simp<;>omega
 have UQ:∀f∈cH u,0<=f.sh/\f.sh<n:=λf hf=>by
  have:f∈u.ah:=by
   unfold cH at hf;split at hf
   ·exact ae0 hf
   exact hf
  have:=hv.feed f this;exact⟨this.1,this.2.1⟩
 refine vD (fn:=Tryz.f259) Tryz.func259 rfl rfl rfl rfl rfl<|b8 1 [(0,.pv C),(1,.box false<|dM u),(2,.box false<|.ints .i64 false L),(13,.bT false 2 default pd<|cH u),(14,.i (cH u).length),(15,.i 0),(1000000,.abs<|J 0)] True ?_ λ_=>?_
 ·refine r0 rfl<|bG rfl O2 rfl<|r0 rfl ?_;rcases hv.kind with h|h|h
  ·have LY:cH u=u.ah.drop 1:=by unfold cH;rw[if_pos h]
   refine Wp kI rfl rfl rfl (fW (k:=u.kind) (x:=kI) Tryz.underlying297 Tryz.underlying9 (by rw[h];exact KP) rfl false) rfl ?_;refine r0 rfl<|bG rfl (XP u (by have:=(hv.int h).1;omega)) rfl ?_;refine k0 rfl (by kernel_rfl) ?_;rw[<-LY];exact aP ao ⟨ab,ab,ab,ab,ab,ab,rfl,ao⟩
  ·have LY:cH u=u.ah:=by unfold cH;rw[if_neg<|by rw[h];exact BC.symm]
   refine Wp kA rfl rfl rfl (fW (k:=u.kind) (x:=kA) Tryz.underlying297 Tryz.underlying9 (by rw[h];exact KQ) rfl false) rfl ?_;refine r0 rfl<|bG rfl (O3 u) rfl<|k0 rfl (by kernel_rfl) ?_;rw[<-LY];exact aP ao ⟨ab,ab,ab,ab,ab,ab,rfl,ao⟩
  have LY:cH u=u.ah:=by unfold cH;rw[if_neg<|by rw[h];exact wQ.symm]
  refine Wp kT rfl rfl rfl (fW (k:=u.kind) (x:=kT) Tryz.underlying297 Tryz.underlying9 (by rw[h];exact KO) rfl false) rfl ?_;refine r0 rfl<|bG rfl (O3 u) rfl<|k0 rfl (by kernel_rfl) ?_;rw[<-LY];exact aP ao ⟨ab,ab,ab,ab,ab,ab,rfl,ao⟩
 generalize cH u=fs at*;refine r0 rfl<|loop (λi:Nat=>[(0,.pv C),(2,.box false<|.ints .i64 false L),(13,.bT false 2 default pd fs),(14,.i fs.length),(15,.i i),(1000000,.abs<|J (mh L<|fs.take i).length)]) (λi=>i<=fs.length/\∀j,j<(mh L<|fs.take i).length->b j=true) (λi=>fs.length-i) 0 ⟨aaJ _,λj hj=>by simp[mh]at hj⟩ ⟨ab,ab,ab,ab,ab,rfl,ao⟩ ?_;rintro i⟨hi,hb⟩;refine r0 rfl<|bH rfl (λg=>?_) (λg=>?_)
 ·have aZ:i<fs.length:=by omega
  have ei:(i:Int).toNat=i:=by omega
  have eg:fs.getD i default=fs[i]:=aw aZ;obtain⟨f1,f2⟩:=UQ _<|aaY aZ;have hs:=FM (L:=L) aZ;have qm:=MT (L:=L) aZ;refine r1 rfl (by simp only[ag,and_true,ei,eg];omega) ?_;rw[ei,eg];obtain⟨c,hc⟩:∃c,c=(mh L<|fs.take i).length:=⟨_,rfl⟩;rw[<-hc]at hb⊢;refine aC 26 rfl (λg2=>?_) (λg2=>?_)
  ·have g2:0<=L.getD fs[i].sh.toNat 0:=g2;rw[if_pos g2]at hs qm;have hcn:c<(mh L fs).length:=by rw[qm];simp;omega
   have gE:(mh L fs).getD c 0=L.getD fs[i].sh.toNat 0:=by rw[qm,abc,adj<|by omega,hc];simp
   refine r0 rfl<|yk rfl rfl ao (λv hv=>by have:=hy v hv c hcn hb;rw[gE]at this;exact this) rfl ?_;refine r0 rfl<|nB rfl rfl rfl (λg3=>?_) (λg3=>?_)
   ·have g3:b c=false:=by simpa using g3
    have:=hm.1 c hcn hb g3;subst this;refine r0 rfl<|Xf [(1000000,.abs<|J<|c+1)] ⟨rfl,ao⟩ rfl ao ⟨ab,ao⟩
   have g3:b c=true:=by simpa using g3
   refine r1 rfl (by simp only[ag,and_true];omega) ?_;have hlen:(mh L<|fs.take<|i+1).length=c+1:=by rw[hs,abq,<-hc];rfl
   refine again (i+1) (by omega) ⟨by omega,λj hj=>?_⟩ ⟨ab,ab,ab,ab,ab,?_,ao⟩
   ·rw[hlen]at hj;by_cases e:j=c
    ·rw[e];exact g3
    exact hb j (by omega)
   rw[hlen];rfl
  have g2:¬0<=L.getD fs[i].sh.toNat 0:=g2;rw[if_neg g2,ac7]at hs;refine r1 rfl (by simp only[ag,and_true];omega) ?_;refine again (i+1) (by omega) ⟨by omega,λj hj=>?_⟩ ⟨ab,ab,ab,ab,ab,?_,ao⟩
  ·rw[hs,<-hc]at hj;exact hb j hj
  rw[hs,<-hc];rfl
 have:i=fs.length:=by omega
 subst this;rw[ads]at hb⊢;have:=hm.2 hb;subst this;refine r0 rfl<|Xf [(1000000,.abs<|J (mh L fs).length)] ⟨rfl,ao⟩ rfl ao ⟨ab,ao⟩
end
def Gp(b:Nat->Bool):∀n,∃m,Wi b n m/\(((∀k,k<n->b k=true)/\m=n)\/∃k,k<n/\m=k+1/\b k=false/\∀j,j<k->b j=true)
 |0=>⟨0,⟨λk hk=>by omega,λ_=>rfl⟩,.inl ⟨λk hk=>by omega,rfl⟩⟩
 |n+1=>by
  obtain⟨m,h1,h2⟩:=Gp b n;rcases h2 with⟨h2,rfl⟩|⟨k,k1,rfl,k3,k4⟩
  ·cases hb:b m with
   |true=>
    have jj:∀k,k<m+1->b k=true:=λk hk=>by
     by_cases e:k=m
     ·rw[e];exact hb
     exact h2 k (by omega)
    exact⟨m+1,⟨λk hk hj hf=>by rw[jj k hk]at hf;simp at hf,λ_=>rfl⟩,.inl ⟨jj,rfl⟩⟩
   |false=>
    refine⟨m+1,⟨λk hk hj hf=>?_,λh=>absurd (h m<|by omega)<|by rw[hb];simp⟩,.inr ⟨m,by omega,rfl,hb,h2⟩⟩;by_cases e:k=m
    ·rw[e]
    have:=h2 k (by omega);rw[this]at hf;simp at hf
  refine⟨k+1,⟨λk' gp hj hf=>?_,λh=>absurd (h k<|by omega)<|by rw[k3];simp⟩,.inr ⟨k,by omega,rfl,k3,k4⟩⟩;rcases aiR k' k with e|e|e
  ·rw[k4 k' e]at hf;simp at hf
  ·rw[e]
  rw[hj k e]at k3;simp at k3
def DY(b:Nat->Bool):Nat->Bool
 |0=>true
 |k+1=>DY b k&&b k
def jM{b:Nat->Bool}:∀{k},DY b k=true↔∀j,j<k->b j=true
 |0=>by simp[DY]
 |k+1=>by
  simp only[DY,abe,jM (k:=k)];constructor
  ·rintro⟨h1,h2⟩j hj;by_cases e:j=k
   ·rw[e];exact h2
   exact h1 j (by omega)
  intro h;exact⟨λj hj=>h j<|by omega,h k<|by omega⟩
def Xj(p:kx)(u:bO)(hu:UOk u){n:Int}(hv:jc n u)(L:List Int)(hL:n<=L.length)(D:List Bool)(hD:∀x∈L,x<D.length):
 lp Tryz.prog 228 [.box true<|bh p,.box true<|.ints .i64 false L,.box true<|.b9 true D] [dM u,.bA 1000000 0 0 [],.bA 1000001 0 0 [],.bA 1000002 0 0 []]
  [.box true<|bh p,.box true<|.ints .i64 false L,.box true<|.b9 true D] (.u<|(mh L<|cH u).all λi=>D.getD i.toNat false):=by
 have dz:∀x∈mh L (cH u),0<=x/\x<D.length:=by
  intro x hx;unfold mh at hx;rw[List.mem_filter]at hx;obtain⟨h1,h2⟩:=hx;obtain⟨f,hf,rfl⟩:=abD.1 h1;have hf':f∈u.ah:=by
   unfold cH at hf;split at hf
   ·exact ae0 hf
   exact hf
  have:=hv.feed f hf';have h3:f.sh.toNat<L.length:=by omega
  refine⟨by simpa using h2,?_⟩;rw[abc,abl h3];exact hD _<|aaY h3
 obtain⟨ys,oy⟩:∃ys,ys=mh L (cH u):=⟨_,rfl⟩;obtain⟨b,hb⟩:∃b:Nat->Bool,b=λk=>D.getD (ys.getD k 0).toNat false:=⟨_,rfl⟩;obtain⟨m,hm,ZQ⟩:=Gp b ys.length;have jj:ys.all (λi=>D.getD i.toNat false)=DY b ys.length:=by
  rw[Bool.eq_iff_iff,jM,aca,hb];constructor
  ·intro h k hk;have:=h _<|aaY hk;rw[<-aw (d:=(0:Int)) hk]at this;exact this
  intro h x hx;obtain⟨k,hk,rfl⟩:=ah0.1 hx;have:=h k hk;dsimp only at this;rw[aw hk]at this;exact this
 rw[<-oy]at dz⊢;rw[jj];refine vD (fn:=Tryz.f228) Tryz.func228 rfl rfl rfl rfl rfl<|r0 rfl<|bF rfl (TS p L u) rfl<|r0 rfl<|Cb [5,1000002] [5,3] ys.length m (λk=>[.i<|ys.getD k 0]) (λ_=>[.box true<|.b false,.box true<|.b9 true D]) b (λk=>if DY b k=true then none else some .ret) (.bX [])
  rfl rfl rfl rfl rfl Tryz.func259 rfl rfl rfl rfl rfl rfl (λ_ _=>rfl) (λ_=>rfl) ?_ rfl rfl (λk _ h=>if_pos<|jM.2 h) (λC J hy=>Rb u hu hv L hL b m (by rw[<-oy];exact hm) C J<|by rw[<-oy];exact hy) ?_ ?_ ?_
 ·intro k hk z hz;simp only[abk,adx,or_false]at hz;rcases hz with rfl|rfl<;>rfl
 ·intro k hk yc;have hx:=dz _<|aaY hk;rw[<-aw (d:=(0:Int)) hk]at hx;have Yp:b k=D.getD (ys.getD k 0).toNat false:=by rw[hb]
  refine r0 rfl<|sn<|r1 rfl (by simp only[ag,and_true];omega) ?_;refine nB rfl rfl rfl (λg=>?_) (λg=>?_)
  ·have g:b k=false:=by rw[Yp];simpa using g
   refine r0 rfl<|adR [(1000000,.box true<|.b false),(1000001,.box true<|.b9 true D)] g (if_neg λh=>by rw[jM]at h;have:=h k (by omega);rw[g]at this;simp at this) ⟨⟨rfl,rfl,.refl _⟩,⟨rfl,rfl,.refl _⟩,ao⟩ ⟨ab,ab,ao⟩
  have g:b k=true:=by rw[Yp];simpa using g
  refine r0 rfl<|An [(1000000,.box true<|.b false),(1000001,.box true<|.b9 true D)] g (if_pos (jM.2 λj hj=>by
   by_cases e:j=k
   ·rw[e];exact g
   exact yc j<|by omega)) ⟨⟨rfl,rfl,.refl _⟩,⟨rfl,rfl,.refl _⟩,ao⟩ ⟨ab,ab,ao⟩
 ·intro hp;have ha:DY b ys.length=true:=by
   rcases ZQ with⟨h1,h2⟩|⟨k,k1,rfl,k3,k4⟩
   ·exact jM.2 h1
   exfalso;by_cases e:DY b (k+1)=true
   ·have:=jM.1 e k (by omega);rw[k3]at this;simp at this
   rw[if_neg e]at hp;simp at hp
  rw[ha];refine r0 rfl<|Xf [(5,.box true<|.b true),(1000000,.box true<|bh p),(1000001,.box true<|.ints .i64 false L),(1000002,.box true<|.b9 true D)] ⟨⟨rfl,rfl,.refl _⟩,⟨rfl,rfl,.refl _⟩,⟨rfl,rfl,.refl _⟩,⟨rfl,rfl,.refl _⟩,ao⟩ rfl (show true=true from rfl) ⟨ab,ab,ab,ao⟩
 intro c hp;rcases ZQ with⟨h1,rfl⟩|⟨k,k1,rfl,k3,k4⟩
 ·rw[if_pos<|jM.2 h1]at hp;simp at hp
 have e:¬DY b (k+1)=true:=λh=>by have:=jM.1 h k (by omega);rw[k3]at this;simp at this
 rw[if_neg e,aaq]at hp;have ha:DY b ys.length=false:=by
  cases h:DY b ys.length with
  |false=>rfl
  |true=>have:=jM.1 h k k1;rw[k3]at this;simp at this
 rw[ha];refine⟨hp.symm,?_⟩;exact Xf [(5,.box true<|.b false),(1000000,.box true<|bh p),(1000001,.box true<|.ints .i64 false L),(1000002,.box true<|.b9 true D)] ⟨⟨rfl,rfl,.refl _⟩,⟨rfl,rfl,.refl _⟩,⟨rfl,rfl,.refl _⟩,⟨rfl,rfl,.refl _⟩,ao⟩ rfl (show false=false from rfl) ⟨ab,ab,ab,ao⟩
def mP(n:Nat)(O:List Int):List Bool:=(List.range n).map λ(i:Nat)=>decide ((i:Int)∈O)
def ze(n:Nat)(O:List Int):(mP n O).length=n:=by simp[mP]
def zf{n i:Nat}{O:List Int}(h:i<n):(mP n O).getD i false=decide ((i:Int)∈O):=by unfold mP;rw[abc,afh,aiQ h];rfl
def RW{n i:Nat}{O:List Int}(h:i<n):(mP n O).set i true=mP n (O++[(i:Int)]):=by
 apply ahH
 ·simp[mP]
 intro j k1 k2;simp[mP]at k1;rw[List.getElem_set];simp only[mP,agW,List.getElem_range,abR,aeU];by_cases e:i=j
 ·subst e;simp
 have:¬(j:Int)=(i:Int):=by omega
 simp[e,this]
def RX(n:Nat):mP n []=List.replicate n false:=by
 apply ahH
 ·simp[mP]
 intro j k1 k2;simp[mP]
def Tp{us:List bO}{n:Nat}{O:List Int}{u:bO}(hn:∀f∈cH u,0<=f.sh/\f.sh<n):((mh (L4 n us)<|cH u).all λi=>(mP us.length O).getD i.toNat false)=(cH u).all (kP us O):=by
 generalize cH u=fs at*;rw[Bool.eq_iff_iff,aca,aca];have gE:∀f∈fs,(L4 n us).getD f.sh.toNat 0=dY us f.sh:=λf hf=>by
  have:=hn f hf;rw[Y3<|by omega]
  congr 1;omega
 constructor
 ·intro h f hf;unfold kP;rw[decide_eq_true_eq];by_cases g:dY us f.sh<0
  ·exact .inl g
  right;have hm:dY us f.sh∈mh (L4 n us) fs:=by unfold mh;rw[List.mem_filter];exact⟨abD.2 ⟨f,hf,gE f hf⟩,by simpa using g⟩
  have h2:=h _ hm;have h3:=zb us f.sh;rw[zf<|by omega,decide_eq_true_eq]at h2;have:((dY us f.sh).toNat:Int)=dY us f.sh:=by omega
  rwa[this]at h2
 intro h x hx;unfold mh at hx;rw[List.mem_filter]at hx;obtain⟨h1,h2⟩:=hx;obtain⟨f,hf,rfl⟩:=abD.1 h1;rw[gE f hf]at h2⊢;have h3:=h f hf;unfold kP at h3;rw[decide_eq_true_eq]at h3 h2;have h4:=zb us f.sh;rw[zf<|by omega,decide_eq_true_eq];have:((dY us f.sh).toNat:Int)=dY us f.sh:=by omega
 rw[this];rcases h3 with h3|h3
 ·omega
 exact h3
def Xq(p:kx)(h:ye p)(n:Nat)(hn:p.n=n)(hv:∀u∈p.aa,jc p.n u)(hlen:p.aa.length<=96):
 aL Tryz.prog 162 [bh p,.ints .i64 false<|L4 n p.aa] (.bX [.ints .i64 true<|if p.aa.length<=(az p.aa).length then az p.aa else[],.u<|decide (p.aa.length<=(az p.aa).length)]):=by
 have KG:(L4 n p.aa).length=n:=by simp[L4]
 have hD:∀x∈L4 n p.aa,x<(p.aa.length:Int):=by intro x hx;obtain⟨s,-,rfl⟩:=abD.1 hx;exact zb _ _
 refine bE Tryz.func162 rfl<|r1 rfl (by simp only[ag,and_true];omega) ?_;refine mkf rfl rfl<|r0 rfl<|loop (λO:List Int=>[(2,.box true<|bh p),(3,.box true<|.ints .i64 false<|L4 n p.aa),(6,.ints .i64 true O),(7,.box true<|.b9 true<|mP p.aa.length O),(8,.fI 228 [(2,0),(3,0),(7,0)])])
  (λO=>O.Nodup/\(∀x∈O,0<=x/\x<p.aa.length)/\az p.aa=ee p.aa (p.aa.length+1-O.length) O) (λO=>p.aa.length-O.length) [] ⟨acX,by simp,rfl⟩
  ⟨ab,ab,ab,⟨rfl,an.of_eq<|by rw[RX];rfl⟩,ab,ao⟩ ?_
 rintro O⟨hO1,hO2,hO3⟩;have hOl:=wE hO1 hO2;refine r0 rfl<|bH rfl (λg=>?_) (λg=>?_)
 ·have g:O.length<p.aa.length:=by omega
  refine r0 rfl<|loop (λi:Nat=>[(2,.box true<|bh p),(3,.box true<|.ints .i64 false<|L4 n p.aa),(6,.ints .i64 true O),(7,.box true<|.b9 true<|mP p.aa.length O),(8,.fI 228 [(2,0),(3,0),(7,0)]),(23,.bT false 5 default dM p.aa),(24,.i p.aa.length),(25,.i i)])
   (λi=>i<=p.aa.length/\cU p.aa O 0=cU p.aa O i) (λi=>p.aa.length-i) 0 ⟨aaJ _,rfl⟩
   ⟨ab,ab,ab,ab,ab,ab,ab,ab,ao⟩ ?_
  rintro i⟨hi,LV⟩;refine r0 rfl<|bH rfl (λg1=>?_) (λg1=>?_)
  ·have aZ:i<p.aa.length:=by omega
   have ei:(i:Int).toNat=i:=by omega
   have eg:p.aa.getD i default=p.aa[i]:=aw aZ;have Us:=hv _<|aaY aZ;rw[jH aZ]at LV;have x8:jT p.aa O i=(decide (¬(i:Int)∈O)&&(cH p.aa[i]).all (kP p.aa O)):=by unfold jT;rw[eg]
   rw[x8]at LV;refine r1 rfl (by simp only[ag,and_true,ei,ze];omega) ?_;rw[ei,eg,zf aZ];refine iF 35 rfl (λg2=>?_) (λg2=>?_)
   ·have g2:¬(i:Int)∈O:=by simpa using g2
    rw[decide_eq_true g2,ac8]at LV;refine r0 rfl<|cc rfl rfl (Xj p p.aa[i] (h.unit _<|aaY aZ) Us (L4 n p.aa) (by rw[KG,hn];omega) (mP p.aa.length O)<|by rw[ze];exact hD) rfl ?_;rw[Tp (O:=O) λf hf=>by
     have hf':f∈p.aa[i].ah:=by
      unfold cH at hf;split at hf
      ·exact ae0 hf
      exact hf
     have:=Us.feed f hf';rw[hn]at this;exact⟨this.1,this.2.1⟩]
    refine r0 rfl<|nB rfl rfl rfl (λg3=>?_) (λg3=>?_)
    ·rw[if_pos g3]at LV;have gu:¬cU p.aa O 0<0:=by rw[LV];omega
     obtain⟨q1,q2⟩:=wz hO1 hO2 gu;have hO4:az p.aa=ee p.aa (p.aa.length+1-(O++[(i:Int)]).length) (O++[(i:Int)]):=by
      have e:p.aa.length+1-O.length=(p.aa.length+1-(O++[(i:Int)]).length)+1:=by rw[abq,aiy];omega
      rw[hO3,e,ee,if_neg gu,LV]
     rw[LV]at q1 q2;refine r1 rfl (by simp only[ag,and_true,ei,ze];simp;omega) ?_;refine again (O++[(i:Int)]) (by simp;omega) ⟨q1,q2,hO4⟩ ⟨ab,ab,ab,⟨rfl,an.of_eq<|congrArg (SV.box true)<|congrArg (SV.b9 true) ?_⟩,ab,ao⟩;rw[ei,RW aZ]
    rw[if_neg<|by rw[g3];simp]at LV;refine r1 rfl (by simp only[ag,and_true];omega) ?_;refine again (i+1) (by omega) ⟨by omega,LV⟩ ⟨ab,ab,ab,ab,ab,ab,ab,ab,ao⟩
   have g2:(i:Int)∈O:=by simpa using g2
   rw[decide_eq_false λhh=>hh g2,Bool.false_and,if_neg<|by simp]at LV;refine r1 rfl (by simp only[ag,and_true];omega) ?_;refine again (i+1) (by omega) ⟨by omega,LV⟩ ⟨ab,ab,ab,ab,ab,ab,ab,ab,ao⟩
  rw[mX (j:=i)<|by omega]at LV;have hor:az p.aa=O:=by
   have e:p.aa.length+1-O.length=(p.aa.length-O.length)+1:=by omega
   rw[hO3,e,ee,if_pos<|by rw[LV];decide]
  rw[hor,if_neg<|by omega,decide_eq_false<|by omega];refine r0 rfl<|aG rfl ⟨rfl,rfl,ao⟩
 have hOe:O.length=p.aa.length:=by omega
 have hor:az p.aa=O:=by
  have e:p.aa.length+1-O.length=0+1:=by omega
  rw[hO3,e,ee];have:cU p.aa O 0<0:=by
   rcases oY p.aa O 0 with e|⟨i,-,-,h2,h3⟩
   ·rw[e];decide
   exfalso;unfold jT at h3;simp only[abe,decide_eq_true_eq]at h3;have:=wE (us:=p.aa) (out:=(i:Int)::O) (ac1.2 ⟨h3.1,hO1⟩) (λx hx=>by
    rcases abk.1 hx with rfl|hx
    ·omega
    exact hO2 x hx)
   simp at this;omega
  rw[if_pos this]
 rw[hor,if_pos<|by omega,decide_eq_true<|by omega];refine r0 rfl<|aG rfl ⟨rfl,rfl,ao⟩
end Go.Ai.Pg
section
namespace Go.Ai.Pg
open Go.Proofs Go.Ai Go.Ai.cY
def agp{n:Nat}{us:List bO}(h:∀u∈us,aJ u.k=0)(s:Nat)(hs:s<n):gT ((ER n us).getD s f0) ((bW n us).getD s 0)/\rQ ((ER n us).getD s f0) 600:=by
 have key:∀(us:List bO)(o:List Fr)(q:List Rat),(∀u∈us,aJ u.k=0)->o.length=q.length->(∀s,s<o.length->gT (o.getD s f0) (q.getD s 0)/\rQ (o.getD s f0) 600)->
  (us.foldl (λ(o:List Fr)u=>o.set u.out.toNat<|fX<|bI u.k) o).length=o.length/\∀s,s<o.length->gT ((us.foldl (λ(o:List Fr)u=>o.set u.out.toNat<|fX<|bI u.k) o).getD s f0) ((us.foldl (λ(o:List Rat)u=>o.set u.out.toNat<|bI u.k) q).getD s 0)/\rQ ((us.foldl (λ(o:List Fr)u=>o.set u.out.toNat<|fX<|bI u.k) o).getD s f0) 600:=by
  intro us
  induction us with
  |nil=>intro o q _ _ h;exact⟨rfl,h⟩
  |cons u us ih=>
   intro o q hk hl h;have:=ih (o.set u.out.toNat<|fX<|bI u.k) (q.set u.out.toNat<|bI u.k) (λv hv=>hk v<|by simp[hv]) (by simpa using hl) (λs hs=>by
    rw[adF]at hs;have hq:s<q.length:=by omega
    rw[abc,abc,agG,agG];by_cases e:u.out.toNat=s
    ·subst e;rw[if_pos rfl,if_pos rfl,if_pos hs,if_pos hq];exact⟨dL _,fH<|hk u<|by simp⟩
    rw[if_neg e,if_neg e];have:=h s hs;rwa[abc]at this)
   rw[adF]at this;exact this
 have h0:=key us (List.replicate n f0) (List.replicate n 0) h (by simp) (λs hs=>by rw[aw hs,aw<|by simpa using hs,List.getElem_replicate,List.getElem_replicate];exact⟨Z3,KT Z1<|by decide⟩)
 exact h0.2 s (by simpa using hs)
open Classical in
def AP(p:kx)(h:ye p):aL Tryz.prog 83 [bh p] (.i<|dR p):=by
 have D8:=h.aa;have Nq:=h.ints;refine bE Tryz.func83 rfl<|b8 3 [(1,.box true<|bh p)] (1<=p.n/\p.n<=100/\p.aa.length<=96/\aK (fL p.n) p.aa=0) ?_ ?_
 ·have e1:p.n<1\/100<p.n->3=dR p:=λa=>by unfold dR;rw[if_pos a]
  have e2:¬(p.n<1\/100<p.n)->96<p.aa.length->5=dR p:=λa b=>by unfold dR;rw[if_neg a,if_pos b]
  have e3:¬(p.n<1\/100<p.n)->¬96<p.aa.length->aK (fL p.n) p.aa≠0->aK (fL p.n) p.aa=dR p:=λa b c=>by unfold dR;rw[if_neg a,if_neg b,if_pos c]
  refine r0 rfl<|aC 20 rfl (λg1=>?_) (λg1=>?_)
  ·refine r0 rfl<|bG rfl (nD true 3) rfl<|r0 rfl<|bG rfl (nD _ 5) rfl<|r0 rfl<|bG rfl (tQ _<|by simp) rfl<|k0 rfl (by kernel_rfl)<|bH rfl (λg2=>?_) λg2=>absurd (by simp[aK]) g2;refine r0 rfl<|aG rfl<|bC ?_;rw[<-e1 (.inl<|by omega)];simp[aK]
  refine r0 rfl<|bG rfl (nD _ 3) rfl<|r0 rfl<|bG rfl (nD _ 5) rfl<|r0 rfl<|bG rfl (tQ _<|by simp) rfl<|k0 rfl (by kernel_rfl)<|bH rfl (λg2=>?_) (λg2=>?_)
  ·refine r0 rfl<|aG rfl<|bC ?_;by_cases a:100<p.n
   ·rw[<-e1 (.inr a)];simp[aK,a]
   have b:96<p.aa.length:=by
    apply adC;intro b;apply g2;have b':¬(96:Int)<p.aa.length:=by omega
    simp[aK,a,b']
   have b':(96:Int)<p.aa.length:=by omega
   rw[<-e2 (by omega) b];simp[aK,a,b']
  have g2:=ahg.1 g2;have a:¬100<p.n:=λa=>by simp[aK,a]at g2
  have b:¬96<p.aa.length:=λb=>by
   have b':(96:Int)<p.aa.length:=by omega
   simp[aK,a,b']at g2
  have e4:=e3 (by omega) b;refine r0 rfl<|loop (λi:Nat=>[(1,.box true<|bh p),(37,.bT false 5 default dM p.aa),(38,.i p.aa.length),(39,.i i)]) (λi=>i<=p.aa.length/\aK (fL p.n) p.aa=aK (fL p.n) (p.aa.drop i)) (λi=>p.aa.length-i) 0 ⟨aaJ _,rfl⟩ ⟨ab,ab,ab,ab,ao⟩ ?_;rintro i⟨hi,hf⟩;refine r0 rfl<|bH rfl (λh1=>?_) (λh1=>?_)
  ·have aZ:i<p.aa.length:=by omega
   have ei:(i:Int).toNat=i:=by omega
   have eg:p.aa.getD i default=p.aa[i]:=aw aZ;rw[dp _ aZ]at hf;refine r1 rfl (by simp only[ag,and_true,ei];omega) ?_;rw[ei,eg];refine bF rfl (Lx p _<|h.unit _<|aaY aZ) rfl<|r0 rfl<|bH rfl (λh2=>?_) (λh2=>?_)
   ·rw[if_pos h2]at hf;refine r0 rfl<|aG rfl<|bC ?_;rw[<-e4 (by rw[hf];exact h2),hf]
   rw[if_neg h2]at hf;refine r1 rfl (by simp only[ag,and_true];omega) ?_;exact again (i+1) (by omega) ⟨by omega,hf⟩ ⟨ab,ab,ab,ab,ao⟩
  refine r0 rfl<|aP ⟨by omega,by omega,by omega,?_⟩ ⟨ab,ao⟩;rw[hf,adu<|by omega];rfl
 rintro⟨n1,n2,X3,hz⟩;obtain⟨n,hn⟩:∃n:Nat,p.n=n:=⟨p.n.toNat,by omega⟩;have hv:∀u∈p.aa,jc p.n u:=λu hu=>qw<|dG.1 hz u hu;have En:∀u∈p.aa,1<=u.out/\u.out<n:=λu hu=>by have:=(hv u hu).out;omega
 have htn:p.n.toNat=n:=by omega
 have hN:dR p=if 24<p.ints.length then 5
  else if∃k∈p.ints,k<0\/p.n<=k then 10
  else if 24<c7 p.aa then 5
  else if¬vF n p.aa then 19
  else if(az p.aa).length<p.aa.length then 18
  else if∃u∈p.aa,conflict n p.aa u then 30 else 0:=by
  unfold dR;rw[if_neg<|by omega,if_neg<|by omega,if_neg<|by rw[hz];simp,htn]
 refine qB (r:=1) (p:=[]) rfl rfl ao<|b8 2 [(1,.box false<|bh p)] (¬24<p.ints.length/\(¬∃k∈p.ints,k<0\/p.n<=k)/\¬24<c7 p.aa) ?_ ?_
 ·refine r0 rfl<|bF rfl (Ls p p.ints<|by omega) rfl<|r0 rfl<|bG rfl (nD _ 5) rfl<|r0 rfl<|bG rfl (nD _ 10) rfl<|r0 rfl<|bG rfl (YR p h) rfl<|r0 rfl<|bG rfl (nD _ 5) rfl<|r0 rfl<|bG rfl (tQ _<|by simp) rfl<|k0 rfl (by kernel_rfl) ?_;by_cases a:24<p.ints.length
  ·have a':(24:Int)<p.ints.length:=by omega
   rw[if_pos a]at hN;refine bH rfl (λg=>?_) λg=>absurd (by simp[aK,a']) g;refine r0 rfl<|aG rfl<|bC ?_;rw[hN];simp[aK,a']
  have a':¬(24:Int)<p.ints.length:=by omega
  rw[if_neg a]at hN;by_cases b:∃k∈p.ints,k<0\/p.n<=k
  ·rw[if_pos b]at hN;have he:aK id [if decide ((24:Int)<p.ints.length)=true then 5 else 0,if decide (∃k∈p.ints,k<0\/p.n<=k)=true then 10 else 0,if decide ((24:Int)<c7 p.aa)=true then(5:Int)else 0]=10:=by
    rw[decide_eq_true b];simp[aK,a']
   refine bH rfl (λg=>?_) λg=>absurd (by rw[he];decide) g;refine r0 rfl<|aG rfl<|bC ?_;rw[hN];exact he
  rw[if_neg b]at hN;have he:aK id [if decide ((24:Int)<p.ints.length)=true then 5 else 0,if decide (∃k∈p.ints,k<0\/p.n<=k)=true then 10 else 0,if decide ((24:Int)<c7 p.aa)=true then(5:Int)else 0]=if 24<c7 p.aa then 5 else 0:=by
   rw[decide_eq_false b];by_cases c:24<c7 p.aa
   ·have c':(24:Int)<c7 p.aa:=by omega
    simp[aK,a',c,c']
   have c':¬(24:Int)<c7 p.aa:=by omega
   simp[aK,a',c,c']
  refine bH rfl (λg=>?_) (λg=>?_)
  ·refine r0 rfl<|aG rfl<|bC ?_;by_cases c:24<c7 p.aa
   ·rw[if_pos c]at hN he;rw[hN];exact he
   rw[if_neg c]at he;exact absurd he g
  have g:=ahg.1 g;refine r0 rfl<|aP ⟨a,b,λc=>?_⟩ ⟨ab,ao⟩;rw[if_pos c]at he;have g:aK id [if decide ((24:Int)<p.ints.length)=true then 5 else 0,if decide (∃k∈p.ints,k<0\/p.n<=k)=true then 10 else 0,if decide ((24:Int)<c7 p.aa)=true then(5:Int)else 0]=0:=g;rw[he]at g;simp at g
 rintro⟨a1,a2,a3⟩;rw[if_neg a1,if_neg a2,if_neg a3]at hN;obtain⟨d1,d2⟩:=RT (us:=p.aa) (n:=n) (by omega) En;refine r0 rfl<|bF rfl (RV p h n hn (by omega) (by omega) En) rfl<|r0 rfl<|nB rfl rfl rfl (λg=>?_) (λg=>?_)
 ·have g:(Ib n p.aa).2=false:=by simpa using g
  refine r0 rfl<|aG rfl<|bC ?_;rw[hN,if_pos λhd=>by rw[d1.2 hd]at g;simp at g]
 have g:(Ib n p.aa).2=true:=by simpa using g
 rw[if_neg λhd=>hd<|d1.1 g]at hN;rw[d2 g];refine r0 rfl<|bF rfl (Xq p h n hn hv X3) rfl<|r0 rfl<|nB rfl rfl rfl (λg2=>?_) (λg2=>?_)
 ·have g2:¬p.aa.length<=(az p.aa).length:=by simpa using g2
  refine r0 rfl<|aG rfl<|bC ?_;rw[hN,if_pos<|by omega]
 have g2:p.aa.length<=(az p.aa).length:=by simpa using g2
 rw[if_neg<|by omega]at hN;refine r0 rfl<|bF rfl (Y8 p h n hn (by omega) (by omega) hv) rfl<|r0 rfl<|loop (λi:Nat=>[(13,.bT true 4 f0 eF<|ER n p.aa),(88,.bT false 5 default dM p.aa),(89,.i p.aa.length),(90,.i i)]) (λi=>i<=p.aa.length/\¬∃u∈p.aa.take i,conflict n p.aa u) (λi=>p.aa.length-i) 0 ⟨aaJ _,by simp⟩ ⟨ab,ab,ab,ab,ao⟩ ?_;rintro i⟨hi,gu⟩;refine r0 rfl<|bH rfl (λh1=>?_) (λh1=>?_)
 ·have aZ:i<p.aa.length:=by omega
  have ei:(i:Int).toNat=i:=by omega
  have eg:p.aa.getD i default=p.aa[i]:=aw aZ;have Us:=hv _<|aaY aZ;refine r1 rfl (by simp only[ag,and_true,ei];omega) ?_;rw[ei,eg];refine bH rfl (λh2=>?_) (λh2=>?_)
  ·have h2:p.aa[i].kind=dQ:=h2;have ht:=Us.table h2;have Er:p.aa[i].ah.getD 0 default∈p.aa[i].ah:=by rw[aw<|by omega];exact aaY _
   have hfd:=Us.feed _ Er;have KG:=LG n p.aa;obtain⟨b1,b2⟩:=agp (n:=n) (us:=p.aa) (λu hu=>(hv u hu).k) (p.aa[i].ah.getD 0 default).sh.toNat (by omega);refine r1 rfl (by simp only[ag,and_true];omega) ?_;refine bG rfl (qW hfd.2.2.1) rfl<|r1 rfl (by simp only[ag,and_true,KG,Int.toNat_zero];omega) ?_;obtain⟨m1,m2⟩:=tM _ _ (dL<|bI (p.aa[i].ah.getD 0 default).dU) b1 (fH hfd.2.2.1) b2;refine bG rfl (C5 _ _ (dL _) b1 (fH hfd.2.2.1) b2<|by decide) rfl<|k0 rfl (by kernel_rfl)<|bG rfl (WK _ Us.dD (by omega) _ m1 m2<|by decide) rfl<|r0 rfl<|bG rfl (qW Us.k) rfl<|r0 rfl ?_;obtain⟨v1,v2⟩:=zC m1 m2 (cs:=p.aa[i].dD) Us.dD;refine bG rfl (YC _ _ v1 (dL<|bI p.aa[i].k) v2 (fH Us.k) (by have:p.aa[i].dD.length*(600+600+601)<=13*(600+600+601):=abY _ ht.2.2;omega)) rfl ?_;refine k0 rfl (by kernel_rfl) ?_;have gw:conflict n p.aa p.aa[i]↔¬uA (bI (p.aa[i].ah.getD 0 default).dU*(bW n p.aa).getD (p.aa[i].ah.getD 0 default).sh.toNat 0) (p.aa[i].dD.map bI)=bI p.aa[i].k:=⟨λhc e=>hc.2 e.symm,λdc=>⟨h2,λe=>dc e.symm⟩⟩
   refine nB rfl rfl rfl (λg3=>?_) (λg3=>?_)
   ·simp only[afL,decide_eq_false_iff_not]at g3;refine r0 rfl<|aG rfl<|bC ?_;rw[hN,if_pos ⟨_,aaY aZ,gw.2 g3⟩]
   simp only[Bool.not_eq_false',decide_eq_true_eq]at g3;refine r1 rfl (by simp only[ag,and_true];omega) ?_;exact again (i+1) (by omega) ⟨by omega,jI aZ gu λhc=>gw.1 hc g3⟩ ⟨ab,ab,ab,ab,ao⟩
  have h2:¬p.aa[i].kind=dQ:=h2;refine r1 rfl (by simp only[ag,and_true];omega) ?_;exact again (i+1) (by omega) ⟨by omega,jI aZ gu λhc=>h2 hc.1⟩ ⟨ab,ab,ab,ab,ao⟩
 refine r0 rfl<|aG rfl<|bC ?_;rw[abm<|by omega]at gu;rw[hN,if_neg gu]
end Go.Ai.Pg
end
namespace Go.Ai.Pg
open Go.Proofs Go.Ai Go.Ai.cY
section
variable{K:Nat}{q:Rat}
def tf(q:Rat):(0:Rat)<((q.den:Int):Rat):=by have:=q.den_pos;exact Rat.intCast_pos.2 (by omega)
def aak(q:Rat):q*((q.den:Int):Rat)=(q.num:Rat):=by
 have hd:=tf q;have h:=Rat.num_divInt_den q;rw[aiO]at h;have hn:((q.den:Int):Rat)≠0:=λe=>by rw[e]at hd;simp_all
 have:(q.num:Rat)/((q.den:Int):Rat)*((q.den:Int):Rat)=q.num:=Rat.div_mul_cancel hn;rw[h]at this;exact this
def pr(k:Nat):(((2:Int)^k:Int):Rat)=(2:Rat)^k:=by
 induction k with
 |zero=>rfl
 |succ k ih=>rw[aci,agv,<-ih,agT];rfl
def QQ(k:Nat)(q:Rat):(2:Rat)^k<=q↔(2:Int)^k*q.den<=q.num:=by
 have hd:=tf q;have he:=aak q;rw[<-ah7,agT,pr];constructor
 ·intro h;have:=Rat.mul_le_mul_of_nonneg_right h<|adB hd;rw[he]at this;exact this
 intro h;rw[<-he]at h;exact aiY h hd
def QP(k:Nat)(q:Rat):((2:Rat)^k)⁻¹ <=q↔(q.den:Int)<=(2:Int)^k*q.num:=by
 have hd:=tf q;have he:=aak q;have ht:=pD k;rw[<-ah7,agT,pr,<-he];generalize (2:Rat)^k=t at*;generalize ((q.den:Int):Rat)=d at*;have hi:=Rat.mul_inv_cancel t (λe=>by rw[e]at ht;exact absurd ht<|by decide);constructor
 ·intro h;have h1:=agY h<|adB ht;rw[hi]at h1;have h2:=Rat.mul_le_mul_of_nonneg_right h1<|adB hd
  grind
 intro h;have h1:(1:Rat)*d<=(t*q)*d:=by grind
 have h2:=aiY h1 hd;have h3:=agY h2<|adB<|ahi.2 ht;have h4:t⁻¹ *(t*q)=q:=by rw[<-ah2,ahk t⁻¹ t,hi,Rat.one_mul]
 rw[h4,Rat.mul_one]at h3;exact h3
def Hg(n:Nat):fj (yx ⟨2,none⟩ n) (n+1):=by
 have h2:=show(-9223372036854775808:Int)<=2/\(2:Int)<=9223372036854775807 by decide
 obtain⟨e,-⟩:=pC ⟨2,none⟩ n h2;unfold fj;rw[e];show(cY.ae ((2:Int)^n).natAbs).length<=n+1;have e2:((2:Int)^n).natAbs=2^n:=by rw[Int.natAbs_pow];rfl
 rw[e2];clear e e2
 induction n with
 |zero=>exact gJ (by decide)
 |succ n ih=>rw[acZ];have h1:=cY.dK (2^n) 2;have h3:(cY.ae 2).length<=1:=gJ (by decide);omega
def acq(f:Fr)(hf:gT f q)(lf:rQ f K)(hK:K<2^20)(k:Int)(hk: -1048576<k/\k<1048576):aL Tryz.prog 114 [.i k,.box false<|eF f] (.u<|decide (iC k<=q)):=by
 have h2:a8 ⟨2,none⟩:=show(-9223372036854775808:Int)<=2/\(2:Int)<=9223372036854775807 by decide
 refine bE Tryz.func114 rfl<|r0 rfl ?_;have gD:fj ⟨2,none⟩ 1:=gJ (m:=2) (by decide);refine bH rfl (λg=>?_) (λg=>?_)
 ·obtain⟨j,rfl⟩:∃j:Nat,k=j:=⟨k.toNat,by omega⟩;obtain⟨p1,p2⟩:=pC ⟨2,none⟩ j h2;obtain⟨m1,m2⟩:=cB (yx ⟨2,none⟩ j) f.d p2 hf.d;have hz:=fV p2 hf.d (Hg j) lf.2;refine r0 rfl<|bG rfl (JK 2) rfl<|r0 rfl<|bG rfl (Tw _ j h2 gD (by omega)<|by omega) rfl<|r0 rfl<|bG rfl (rE _ f.d p2 hf.d (Hg j) lf.2<|by omega) rfl<|r0 rfl<|bG rfl (VE _ f.n m2 hf.n hz (dw lf.1<|show K<=j+1+K by omega)<|by omega) rfl<|k0 rfl (by kernel_rfl)<|aG rfl<|an.of_eq<|congrArg SV.u ?_;rw[decide_eq_decide];have e:iC (j:Int)=(2:Rat)^j:=by unfold iC;rw[if_neg<|by omega];rfl
  rw[e,QQ,m1,p1,hf.vd,hf.vn,show nv ⟨2,none⟩=2 from rfl];show Int.sign _<=0↔_;rw[Int.sign_nonpos_iff];constructor<;>intro h<;>omega
 obtain⟨j,rfl⟩:∃j:Nat,k= -(j:Int):=⟨(-k).toNat,by omega⟩;obtain⟨p1,p2⟩:=pC ⟨2,none⟩ j h2;obtain⟨m1,m2⟩:=cB (yx ⟨2,none⟩ j) f.n p2 hf.n;have hz:=fV p2 hf.n (Hg j) lf.1;refine r0 rfl<|bG rfl (JK 2) rfl<|r1 rfl (by simp[ag,and_true]<;>omega) ?_;refine dk (us:=[eN ⟨2,none⟩,.i j]) rfl rfl ao ⟨⟨rfl,rfl,ao⟩,congrArg SV.i<|by omega,ao⟩ (Tw _ j h2 gD (by omega)<|by omega) rfl<|r0 rfl<|bG rfl (rE _ f.n p2 hf.n (Hg j) lf.1<|by omega) rfl<|r0 rfl<|bG rfl (VE f.d _ hf.d m2 (dw lf.2<|show K<=j+1+K by omega) hz<|by omega) rfl<|k0 rfl (by kernel_rfl)<|aG rfl<|an.of_eq<|congrArg SV.u ?_;rw[decide_eq_decide];have e:iC (-(j:Int))=((2:Rat)^j)⁻¹ :=by unfold iC;rw[if_pos<|by omega];congr 2;omega
 rw[e,QP,m1,p1,hf.vd,hf.vn,show nv ⟨2,none⟩=2 from rfl];show Int.sign _<=0↔_;rw[Int.sign_nonpos_iff];constructor<;>intro h<;>omega
def Qd(h:0<q.num):iC ((bl q.num.natAbs:Int)-bl q.den-1)<=q:=by
 have hd:=tf q;have he:=aak q;have hN:2^(bl q.num.natAbs-1)<=q.num.natAbs:=xO (by omega);have hD:=LF q.den;have hb:=zu (x:=q.num.natAbs) (by omega);have e1:iC ((bl q.num.natAbs:Int)-bl q.den-1)*(2:Rat)^bl q.den=(2:Rat)^(bl q.num.natAbs-1):=by rw[<-kd];unfold iC;rw[if_neg<|by omega];congr 1;omega
 have h1:((q.den:Int):Rat)<=(2:Rat)^bl q.den:=by
  rw[<-pr];refine ah7.2 ?_;have e:((2^bl q.den:Nat):Int)=(2:Int)^bl q.den:=by norm_cast
  omega
 have h2:(2:Rat)^(bl q.num.natAbs-1)<=(q.num:Rat):=by
  rw[<-pr];refine ah7.2 ?_;have e:((2^(bl q.num.natAbs-1):Nat):Int)=(2:Int)^(bl q.num.natAbs-1):=by norm_cast
  omega
 have h3:=agY h1<|adB<|tD<|(bl q.num.natAbs:Int)-bl q.den-1;rw[e1]at h3;have h4:=afU h3 h2;rw[<-he]at h4;exact aiY h4 hd
def Qe(h:0<q.num):¬iC ((bl q.num.natAbs:Int)-bl q.den+1)<=q:=by
 intro hle;have hd:=tf q;have he:=aak q;have hD:2^(bl q.den-1)<=q.den:=xO (by have:=q.den_pos;omega);have hN:=LF q.num.natAbs;have hb:=zu (x:=q.den) (by have:=q.den_pos;omega);have e1:iC ((bl q.num.natAbs:Int)-bl q.den+1)*(2:Rat)^(bl q.den-1)=(2:Rat)^bl q.num.natAbs:=by rw[<-kd];unfold iC;rw[if_neg<|by omega];congr 1;omega
 have h1:(2:Rat)^(bl q.den-1)<=((q.den:Int):Rat):=by
  rw[<-pr];refine ah7.2 ?_;have e:((2^(bl q.den-1):Nat):Int)=(2:Int)^(bl q.den-1):=by norm_cast
  omega
 have h2:(q.num:Rat)<(2:Rat)^bl q.num.natAbs:=by
  rw[<-pr];refine Rat.intCast_lt_intCast.2 ?_;have e:((2^bl q.num.natAbs:Nat):Int)=(2:Int)^bl q.num.natAbs:=by norm_cast
  omega
 have h3:=agY h1<|adB<|tD<|(bl q.num.natAbs:Int)-bl q.den+1;rw[e1]at h3;have h4:=Rat.mul_le_mul_of_nonneg_right hle<|adB hd;rw[he]at h4;exact absurd (afU h3 h4)<|ah3.2 h2
def Qc{x:Nat}(h:(cY.ae x).length<=K):bl x<=64*K:=by
 apply adC;intro hn;have h0:x≠0:=λe=>by rw[e]at hn;simp[bl]at hn
 have h1:=xO h0;have h2:2^(64*K)<=2^(bl x-1):=ada (by decide) (by omega);have h3:=cY.lX x;have h4:18446744073709551616^(cY.ae x).length<=18446744073709551616^K:=ada (by decide) h;have h5:(18446744073709551616:Nat)^K=2^(64*K):=by rw[ahN]
 omega
def NH(f:Fr)(hf:gT f q)(lf:rQ f K)(hK:K<2^12)(h0:0<q.num):aL Tryz.prog 58 [eF f] (.i<|xd q):=by
 have lV:=Qd h0;have ya:=Qe h0;have b1:bl q.num.natAbs<2^19:=by have:=Qc lf.1;rw[hf.vn]at this;omega
 have b2:bl q.den<2^19:=by have:=Qc lf.2;rw[hf.vd,afE]at this;omega
 obtain⟨e0,he0⟩:∃e0,e0=(bl q.num.natAbs:Int)-bl q.den:=⟨_,rfl⟩;have LZ:∀e:Int,e0-3<=e/\e<=e0+3->aL Tryz.prog 114 [.i e,.box false<|eF f] (.u<|decide (iC e<=q)):=λe h=>acq f hf lf (by omega) e (by omega);have n1:=VN f.n hf.n lf.1 (by omega);have n2:=VN f.d hf.d lf.2 (by omega);rw[hf.vn]at n1;rw[hf.vd,afE]at n2;refine bE Tryz.func58 rfl<|b8 2 [(1,.box true<|eF f),(3,.i e0)] True ?_ λ_=>?_
 ·refine r0 rfl<|bG rfl n1 rfl<|r0 rfl<|bG rfl n2 rfl<|k1 rfl (by kernel_rfl) (by simp[ag,and_true]<;>omega) ?_;exact aP ao ⟨ab,⟨rfl,an.of_eq<|congrArg SV.i he0.symm⟩,ao⟩
 refine qB (r:=1) (p:=[]) rfl rfl ao<|EM 2 (λe:Int=>[(3,.i e),(4,.fn (.func 114) [] [.box false<|eF f])]) (λe=>iC e<=q/\e<=e0/\e0-1<=e) ?_ ?_
 ·refine r0 rfl<|loop (λe:Int=>[(3,.i e),(4,.fn (.func 114) [] [.box false<|eF f])]) (λe=>e<=e0/\e0-1<=e) (λe=>(e-(e0-1)).toNat) e0 ⟨by omega,by omega⟩ ⟨ab,ab,ao⟩ ?_;rintro e⟨g1,g2⟩;refine r0 rfl<|bF rfl (LZ e<|by omega) rfl<|r0 rfl<|nB rfl rfl rfl (λg3=>?_) (λg3=>?_)
  ·have g3:¬iC e<=q:=by simpa using g3
   have:e≠e0-1:=λh=>by rw[h,he0]at g3;exact g3 lV
   refine r1 rfl (by simp[ag,and_true]<;>omega) ?_;exact again (e-1) (by omega) ⟨by omega,by omega⟩ ⟨ab,ab,ao⟩
  have g3:iC e<=q:=by simpa using g3
  refine r0 rfl<|meet e ⟨g3,g1,g2⟩ ⟨ab,ab,ao⟩
 rintro e⟨g1,g2,g3⟩;refine r0 rfl<|loop (λe:Int=>[(3,.i e),(4,.fn (.func 114) [] [.box false<|eF f])]) (λe=>iC e<=q/\e<=e0/\e0-1<=e) (λe=>(e0-e).toNat) e ⟨g1,g2,g3⟩ ⟨ab,ab,ao⟩ ?_;rintro e⟨g1,g2,g3⟩;refine r1 rfl (by simp[ag,and_true]<;>omega) ?_;refine bF rfl (LZ (e+1)<|by omega) rfl<|r0 rfl<|nB rfl rfl rfl (λg4=>?_) (λg4=>?_)
 ·have g4:iC (e+1)<=q:=by simpa using g4
  have:e≠e0:=λh=>by rw[h,he0]at g4;exact ya g4
  refine r1 rfl (by simp[ag,and_true]<;>omega) ?_;exact again (e+1) (by omega) ⟨g4,by omega,by omega⟩ ⟨ab,ab,ao⟩
 have g4:¬iC (e+1)<=q:=by simpa using g4
 refine r0 rfl<|aG rfl<|an.of_eq<|congrArg SV.i (jK ⟨g1,g4⟩).symm
end
end Go.Ai.Pg
section
namespace Go.Ai.Pg
open Go.Proofs Go.Ai Go.Ai.cY
def Vg(l:List Int)(hl:l.length<2^60):aL Tryz.prog 48 [.ints .i64 false l] (.i<|aK id l):=by
 refine bE Tryz.func48 rfl<|r0 rfl<|loop (λi:Nat=>[(5,.ints .i64 false l),(6,.i l.length),(7,.i i)]) (λi=>i<=l.length/\aK id l=aK id (l.drop i)) (λi=>l.length-i) 0 ⟨aaJ _,rfl⟩ ⟨ab,ab,ab,ao⟩ ?_;rintro i⟨hi,hf⟩;refine r0 rfl<|bH rfl (λh=>?_) (λh=>?_)
 ·have aZ:i<l.length:=by omega
  have ei:(i:Int).toNat=i:=by omega
  rw[dp _ aZ]at hf;refine r1 rfl (by simp only[ag,and_true,ei];omega) ?_;rw[ei,aw aZ];refine bH rfl (λh2=>?_) (λh2=>?_)
  ·refine r0 rfl<|aG rfl<|bC ?_;rw[hf];exact(if_pos<|show id l[i]≠0 from h2).symm
  refine r1 rfl (by simp only[ag,and_true];omega) ?_;refine again (i+1) (by omega) ⟨by omega,?_⟩ ⟨ab,ab,ab,ao⟩;rw[hf];exact if_neg (show¬id l[i]≠0 from h2)
 refine r0 rfl<|aG rfl<|bC ?_;rw[hf,adu<|by omega];rfl
def WG(b:Bool)(e:Int):aL Tryz.prog 49 [.u b,.i e] (.i<|if b then e else 0):=by
 refine bE Tryz.func49 rfl<|r0 rfl<|nB rfl rfl rfl (λh=>?_) (λh=>?_)
 ·refine r0 rfl<|aG rfl<|bC ?_;rw[h];rfl
 refine r0 rfl<|aG rfl<|bC ?_;rw[h];rfl
def yz(n lo hi:Int):aL Tryz.prog 54 [.i n,.i lo,.i hi] (.u<|decide (n<lo\/hi<n)):=by
 refine bE Tryz.func54 rfl<|r0 rfl<|aC 10 rfl (λh=>?_) (λh=>?_)
 ·refine r0 rfl<|aG rfl (show true=decide (n<lo\/hi<n)from(decide_eq_true<|.inl h).symm)
 refine r0 rfl<|aG rfl<|an.of_eq<|congrArg SV.u ?_;rw[decide_eq_decide];exact⟨.inr,λg=>g.resolve_left h⟩
def Qf(b:iA):aL Tryz.prog 22 [ew b] (.i<|ov b):=by
 refine bE Tryz.func22 rfl<|r0 rfl<|loop (λi:Nat=>[(13,.ints .i64 true<|ry b),(14,.i 4),(15,.i i)]) (λi=>i<=4/\ov b=aK (λx:Int=>if x<0\/40<x then 3 else 0) ((ry b).drop i)) (λi=>4-i) 0 ⟨aaJ _,rfl⟩ ⟨ab,ab,ab,ao⟩ ?_;rintro i⟨hi,hf⟩;have hlen:(ry b).length=4:=rfl;refine r0 rfl<|bH rfl (λh=>?_) (λh=>?_)
 ·have aZ:i<(ry b).length:=by omega
  have ei:(i:Int).toNat=i:=by omega
  rw[dp _ aZ]at hf;refine r1 rfl (by simp only[ag,and_true,ei,hlen];omega) ?_;rw[ei,aw aZ];refine bF rfl (yz _ 0 40) rfl<|r0 rfl<|nB rfl rfl rfl (λh2=>?_) (λh2=>?_)
  ·have h2:(ry b)[i]<0\/40<(ry b)[i]:=by simpa using h2
   refine r0 rfl<|aG rfl<|bC ?_;rw[hf,if_pos h2];rfl
  have h2:¬((ry b)[i]<0\/40<(ry b)[i]):=by simpa using h2
  refine r1 rfl (by simp only[ag,and_true];omega) ?_;refine again (i+1) (by omega) ⟨by omega,?_⟩ ⟨ab,ab,ab,ao⟩;rw[hf,if_neg h2];rfl
 refine r0 rfl<|aG rfl<|bC ?_;rw[hf,adu<|by omega];rfl
def WY(rs:List hO)(hx:∀s∈rs,cR s.lo/\cR s.hi)(hl:rs.length<2^60):aL Tryz.prog 171 [.bT false 2 default fP rs] (.i<|aK iu rs):=by
 refine bE Tryz.func171 rfl<|r0 rfl<|loop (λi:Nat=>[(6,.bT false 2 default fP rs),(7,.i rs.length),(8,.i i)]) (λi=>i<=rs.length/\aK iu rs=aK iu (rs.drop i)) (λi=>rs.length-i) 0 ⟨aaJ _,rfl⟩ ⟨ab,ab,ab,ao⟩ ?_;rintro i⟨hi,hf⟩;refine r0 rfl<|bH rfl (λh=>?_) (λh=>?_)
 ·have aZ:i<rs.length:=by omega
  have ei:(i:Int).toNat=i:=by omega
  have eg:rs.getD i default=rs[i]:=aw aZ;rw[dp _ aZ]at hf;refine r1 rfl (by simp only[ag,and_true,ei];omega) ?_;rw[ei,eg];have:=hx _<|aaY aZ;refine bF rfl (aaD rs[i] this.1 this.2) rfl<|r0 rfl<|bH rfl (λh2=>?_) (λh2=>?_)
  ·refine r0 rfl<|aG rfl<|bC ?_;rw[hf,if_pos h2]
  refine r1 rfl (by simp only[ag,and_true];omega) ?_;refine again (i+1) (by omega) ⟨by omega,?_⟩ ⟨ab,ab,ab,ao⟩;rw[hf,if_neg h2]
 refine r0 rfl<|aG rfl<|bC ?_;rw[hf,adu<|by omega];rfl
open Classical in
noncomputable def mD(p:kx)(rs:List hO):Int:=if dR p≠0 then dR p else jh p.n rs
def uH(p:kx)(h:ye p)(rs:List hO)(hx:∀s∈rs,cR s.lo/\cR s.hi)(hl:rs.length<2^40):aL Tryz.prog 91 [bh p,.bT false 2 default fP rs] (.i<|mD p rs):=by
 refine bE Tryz.func91 rfl<|r0 rfl<|bF rfl (AP p h) rfl<|r0 rfl<|bH rfl (λg=>?_) (λg=>?_)
 ·refine r0 rfl<|aG rfl<|an.of_eq<|congrArg SV.i<|by unfold mD;rw[if_pos g]
 refine r0 rfl<|bF rfl (WG _ 2) rfl<|r0 rfl<|bF rfl (WY rs hx<|by omega) rfl<|r0 rfl<|bF rfl (Vg _<|by simp) rfl<|r0 rfl<|aG rfl<|bC ?_;unfold mD jh;rw[if_neg g];by_cases e:(rs.length:Int)≠p.n
 ·rw[if_pos e];have:decide ((rs.length:Int)≠p.n)=true:=decide_eq_true e;simp[aK,e]
 rw[if_neg e];have e:(rs.length:Int)=p.n:=ahg.1 e;by_cases g2:aK iu rs≠0
 ·simp[aK,e,g2]
 have g2:=ahg.1 g2;simp[aK,e,g2]
end Go.Ai.Pg
end
namespace Go.Ai.Pg
open Go.Proofs Go.Ai Go.Ai.cY
section
variable{K:Nat}{q:Rat}{s:hO}
def xX(q:Rat):mz q=if q<0 then -q else q:=by
 unfold mz;by_cases h:q<0
 ·rw[if_pos h,if_pos<|Int.not_le.1 λg=>absurd (agr.1 g)<|ah3.2 h]
 rw[if_neg h,if_neg<|Int.not_lt.2<|agr.2<|Rat.not_lt.1 h]
def PX(p q:Rat):0<=DF p q↔q<=p:=by unfold DF;rw[Int.sign_nonneg_iff,agr];constructor<;>intro h<;>grind
def XG(p q:Rat):A8 p q=if q<=p then p else q:=by
 unfold A8;by_cases h:q<=p
 ·rw[if_pos h,if_pos<|(PX p q).2 h]
 rw[if_neg h,if_neg λg=>h<|(PX p q).1 g]
def SpL(s:hO):Prop:=SpV s/\bI s.lo<=bI s.hi
def SX(h:iu s=0):SpL s:=by have hv:=zS h;refine⟨hv,?_⟩;unfold iu at h;rw[if_neg<|by rw[hv.1];simp,if_neg<|by rw[hv.2];simp]at h;exact tV.1 (Int.not_lt.1 λg=>by rw[if_pos g]at h;simp at h)
def aba(h:SpL s):HD s=if bI s.hi< -bI s.lo then -bI s.lo else bI s.hi:=by
 have hl:=h.2;unfold HD;rw[XG,xX,xX];generalize bI s.lo=a at*;generalize bI s.hi=b at*
 grind
noncomputable def ZA(s:hO):Fr:=if bI s.hi< -bI s.lo then⟨iS (fX<|bI s.lo).n,(fX<|bI s.lo).d⟩else fX (bI s.hi)
def Hw{f:Fr}(h:gT f q)(hs:rQ f K):rQ ⟨iS f.n,f.d⟩ K:=⟨oL h.n hs.1,hs.2⟩
def J7(h:SpL s):gT (ZA s) (HD s)/\rQ (ZA s) 600:=by
 rw[aba h];unfold ZA;obtain⟨-,h2⟩:=HY (fX<|bI s.lo) (dL _) (fH h.1.1).1 (by decide);by_cases g:bI s.hi< -bI s.lo
 ·rw[if_pos g,if_pos g];exact⟨h2,Hw (dL _)<|fH h.1.1⟩
 rw[if_neg g,if_neg g];exact⟨dL _,fH h.1.2⟩
def tN(s:hO)(h:SpL s):aL Tryz.prog 60 [fP s] (eF<|ZA s):=by
 obtain⟨n1,n2⟩:=HY (fX<|bI s.lo) (dL _) (fH h.1.1).1 (by decide);refine bE Tryz.func60 rfl<|r0 rfl<|bG rfl (qW h.1.1) rfl<|r0 rfl<|bG rfl n1 rfl<|r0 rfl<|bG rfl (qW h.1.2) rfl<|k0 rfl (by kernel_rfl)<|bF rfl (NG _ _ n2 (dL _) (Hw (dL _)<|fH h.1.1) (fH h.1.2)<|by decide) rfl ?_;have hs:((-bI s.lo).num*(bI s.hi).den-(bI s.hi).num*(-bI s.lo).den).sign>0↔bI s.hi< -bI s.lo:=by rw[Rat.lt_iff,gt_iff_lt,Int.sign_pos_iff];omega
 refine r0 rfl<|bH rfl (λg=>?_) (λg=>?_)
 ·have g:=hs.1 g;refine r0 rfl<|aG rfl<|an.of_eq ?_;unfold ZA;rw[if_pos g];rfl
 have g:=λh=>g<|hs.2 h;refine r0 rfl<|aG rfl<|an.of_eq ?_;unfold ZA;rw[if_neg g];rfl
def PI(h:0<q.num):∃e,pn q e/\(bl q.num.natAbs:Int)-bl q.den-1<=e/\e<=(bl q.num.natAbs:Int)-bl q.den:=by
 have lV:=Qd h;have ya:=Qe h;generalize (bl q.num.natAbs:Int)-bl q.den=e0 at*;by_cases g:iC e0<=q
 ·exact⟨e0,⟨g,ya⟩,by omega,by omega⟩
 refine⟨e0-1,⟨lV,?_⟩,by omega,by omega⟩;rw[show e0-1+1=e0 by omega];exact g
def YG(f:Fr)(hf:gT f q)(lf:rQ f K)(hK:K<2^12)(h:0<q.num): -524289<=xd q/\xd q<=524289:=by obtain⟨e,h1,h2,h3⟩:=PI h;rw[jK h1];have b1:=Qc lf.1;rw[hf.vn]at b1;have b2:=Qc lf.2;rw[hf.vd,afE]at b2;omega
def NI(m:Int){x:Rat}(h:0<x.num):xd (iC m*x)=m+xd x:=by
 obtain⟨e,h1,-,-⟩:=PI h;rw[jK h1];have add:∀k:Int,iC (m+k)=iC m*iC k:=by
  intro k;rcases Int.le_total 0 k with g|g
  ·obtain⟨j,rfl⟩:∃j:Nat,k=j:=⟨k.toNat,by omega⟩;rw[kd];have e:iC (j:Int)=(2:Rat)^j:=by unfold iC;rw[if_neg<|by omega];rfl
   rw[e]
  obtain⟨j,rfl⟩:∃j:Nat,k= -(j:Int):=⟨(-k).toNat,by omega⟩;have h2:=kd (m+ -(j:Int)) j;have h3:=kd (-(j:Int)) j;rw[show m+ -(j:Int)+j=m by omega]at h2;rw[show -(j:Int)+j=0 by omega]at h3;have h4:iC 0=1:=rfl;rw[h4]at h3;have h5:=pD j;generalize (2:Rat)^j=t at*;rw[h2,ah2,ahk t,<-h3,Rat.mul_one]
 have hp:=tD m;refine jK ⟨?_,?_⟩
 ·rw[add];exact agY h1.1<|adB hp
 rw[show m+e+1=m+(e+1) by omega,add];intro hle;refine h1.2 ?_;rw[ahk<|iC m,ahk<|iC m]at hle;exact aiY hle hp
def OZ(f:Fr){a:Rat}(hf:gT f a)(lf:rQ f K)(hK:K<2^12)(ha:0<=a)(iT:Int)(hm: -1000000<=iT/\iT<=1000000):aL Tryz.prog 92 [eF f,.i iT] (.i<|mH a iT):=by
 refine bE Tryz.func92 rfl<|r0 rfl<|bF rfl (PD f hf) rfl<|r0 rfl<|bH rfl (λg=>?_) (λg=>?_)
 ·have g:a.num=0:=by rwa[aiB]at g
  refine r0 rfl<|aG rfl<|bC ?_;unfold mH;rw[if_pos<|ahO.1 g]
 have g:¬a.num=0:=by rwa[aiB]at g
 have g0:a≠0:=λh=>g (by rw[h];rfl);obtain⟨i1,i2⟩:=Rr f hf g0 lf;have ua:0<a⁻¹ :=ahi.2 (by grind);have vm:0<(a⁻¹).num:=by
  have h1:=agr.2<|adB ua;rcases Int.lt_or_eq_of_le h1 with h2|h2
  ·exact h2
  have:=ahO.1 h2.symm;rw[this]at ua;exact absurd ua (by decide)
 have hbd:=YG _ i1 i2 hK vm;refine r0 rfl<|bF rfl (acm f hf g0 lf<|by omega) rfl<|r0 rfl<|bF rfl (NH _ i1 i2 hK vm) rfl<|r1 rfl (by simp only[ag,and_true]<;>omega) ?_;refine aG rfl<|bC ?_;unfold mH;rw[if_neg g0,Rat.div_def,NI iT vm];rfl
end
def xh(p:kx)(rs:List hO)(b:iA)(S:List Int)(I:List (List Int)):SV:=
 .agg [.i p.n,.bT false 5 default dM p.aa,.ints .i64 false p.ints,.bT false 2 default fP rs,.i b.c,.i b.d,.i b.s,.i b.g,.ints .i64 true S,.bT true 1 [] (SV.ints .i64 true) I]
def ad4(p:kx)(rs:List hO)(b:iA):D3 (.box true<|.agg [.i p.n,.bT false 5 default dM p.aa,.ints .i64 false p.ints,.bT false 2 default fP rs,.i b.c,.i b.d,.i b.s,.i b.g,.nil,.nil]) (.box true<|xh p rs b [] []):=by have h1:D3 .nil (.ints .i64 true []):=.le (show an .nil (.ints .i64 true [])from rfl);have h2:D3 .nil (.bT true 1 [] (SV.ints .i64 true) []):=.le (show an .nil (.bT true 1 [] (SV.ints .i64 true) [])from rfl);exact .box<|.agg<|.cons (.refl _)<|.cons (.refl _)<|.cons (.refl _)<|.cons (.refl _)<|.cons (.refl _)<|.cons (.refl _)<|.cons (.refl _)<|.cons (.refl _)<|.cons h1<|.cons h2 .nil
noncomputable def iR(p:kx)(rs:List hO)(b:iA):Int:=if mD p rs≠0 then mD p rs else ov b
def JF(p:kx)(h:ye p)(rs:List hO)(hx:∀s∈rs,cR s.lo/\cR s.hi)(hl:rs.length<2^40)(b:iA)(he:iR p rs b≠0):
 aL Tryz.prog 40 [bh p,.bT false 2 default fP rs,ew b] (.bX [.c<|.pointer none,.i<|iR p rs b]):=by
 refine bE Tryz.func40 rfl<|r0 rfl<|bF rfl (uH p h rs hx hl) rfl<|r0 rfl<|bH rfl (λg=>?_) (λg=>?_)
 ·refine r0 rfl<|aG rfl ⟨rfl,congrArg SV.i<|by unfold iR;rw[if_pos g],ao⟩
 have e:iR p rs b=ov b:=by unfold iR;rw[if_neg g]
 refine r0 rfl<|bF rfl (Qf b) rfl<|r0 rfl<|bH rfl (λg2=>?_) λg2=>absurd (by rw[e]at he;exact he) g2;refine r0 rfl<|aG rfl ⟨rfl,congrArg SV.i e.symm,ao⟩
noncomputable def lA(rs:List hO)(b:iA):List Int:=rs.map λs=>mH (HD s) b.s
noncomputable def iU(rs:List hO)(b:iA)(u:bO):List Int:=(List.range u.ah.length).map λk=>x7 rs b u k
noncomputable def n6(rs:List hO)(b:iA)(us:List bO):List (List Int):=us.map<|iU rs b
noncomputable def WB(f:EY):Fr:=if bI f.dU<0 then⟨iS (fX<|bI f.dU).n,(fX<|bI f.dU).d⟩else fX (bI f.dU)
def Vh{f:EY}(h:aJ f.dU=0):gT (WB f) (mz<|bI f.dU)/\rQ (WB f) 600:=by
 obtain⟨-,h2⟩:=HY (fX<|bI f.dU) (dL _) (fH h).1 (by decide);rw[xX];unfold WB;by_cases g:bI f.dU<0
 ·rw[if_pos g,if_pos g];exact⟨h2,Hw (dL _)<|fH h⟩
 rw[if_neg g,if_neg g];exact⟨dL _,fH h⟩
def V6{a b:Rat}(hb:0<=b):mz (a*b)=b*mz a:=by
 rw[xX,xX];by_cases g:a<0
 ·have h1:0<=(-a)*b:=Rat.mul_nonneg (by grind) hb;split<;>grind
 have h1:0<=a*b:=Rat.mul_nonneg (by grind) hb
 grind
noncomputable def inF(p:kx)(rs:List hO)(b:iA)(j:Nat)(u:bO)(k:Nat):List (Nat×SV):=
 [(1,.bT false 2 default fP rs),(3,.box true<|bh p),(5,.box true<|ew b),(15,.ints .i64 true<|(iU rs b u).take k),(14,.box true<|dM u),(35,.box true<|xh p rs b (lA rs b)<|(n6 rs b p.aa).take j),(10,.bA 35 0 0 []),
  (65,.bT false 2 default pd u.ah),(66,.i u.ah.length),(67,.i k),(58,.bT false 5 default dM p.aa),(59,.i p.aa.length),(60,.i j)]
noncomputable def ad5(p:kx)(rs:List hO)(b:iA)(j:Nat):List (Nat×SV):=[(1,.bT false 2 default fP rs),(3,.box true<|bh p),(5,.box true<|ew b),(35,.box true<|xh p rs b (lA rs b)<|(n6 rs b p.aa).take j),(10,.bA 35 0 0 []),(58,.bT false 5 default dM p.aa),(59,.i p.aa.length),(60,.i j)]
def Xr(p:kx)(h:ye p)(rs:List hO)(hx:∀s∈rs,cR s.lo/\cR s.hi)(hl:rs.length<2^40)(b:iA)(he:iR p rs b=0)(hv:∀u∈p.aa,jc p.n u)(hr:RgV p.n rs)(qm:∀s∈rs,SpL s)(hb:Ov b)(h96:p.aa.length<=96)(hn:p.n<=100):
 aL Tryz.prog 40 [bh p,.bT false 2 default fP rs,ew b] (.bX [.box true<|xh p rs b (lA rs b)<|n6 rs b p.aa,.i 0]):=by
 have Aw:mD p rs=0:=by apply adC;intro g;unfold iR at he;rw[if_pos g]at he;exact g he
 have dB:ov b=0:=by unfold iR at he;rwa[if_neg<|by rw[Aw];simp]at he
 have Nl:=hr.len;refine bE Tryz.func40 rfl<|r0 rfl<|bF rfl (uH p h rs hx hl) rfl ?_;rw[Aw];refine r0 rfl<|bH rfl (λg=>absurd rfl g) λ_=>?_;refine r0 rfl<|bF rfl (Qf b) rfl ?_;rw[dB];refine r0 rfl<|bH rfl (λg=>absurd rfl g) λ_=>?_;refine r0 rfl<|Kd [(1,.bT false 2 default fP rs),(3,.box true<|bh p),(5,.box true<|ew b),(35,.box true<|xh p rs b [] []),(10,.bA 35 0 0 []),(36,.bT false 2 default fP rs),(37,.i rs.length),(38,.i 0)]
  ⟨⟨rfl,rfl,.refl _⟩,⟨rfl,rfl,.refl _⟩,⟨rfl,rfl,.refl _⟩,⟨rfl,rfl,ad4 p rs b⟩,kL,⟨rfl,rfl,.refl _⟩,⟨rfl,rfl,.refl _⟩,⟨rfl,rfl,.refl _⟩,ao⟩<|loop (λi:Nat=>[(1,.bT false 2 default fP rs),(3,.box true<|bh p),(5,.box true<|ew b),(35,.box true<|xh p rs b ((lA rs b).take i) []),(10,.bA 35 0 0 []),(36,.bT false 2 default fP rs),(37,.i rs.length),(38,.i i)]) (λi=>i<=rs.length) (λi=>rs.length-i) 0 (aaJ _) ⟨ab,ab,ab,ab,kL,ab,ab,ab,ao⟩ ?_
 intro i hi;have wX:(lA rs b).length=rs.length:=by simp[lA]
 refine r0 rfl<|bH rfl (λg1=>?_) (λg1=>?_)
 ·have aZ:i<rs.length:=by omega
  have ei:(i:Int).toNat=i:=by omega
  have eg:rs.getD i default=rs[i]:=aw aZ;have hs:=qm _<|aaY aZ;obtain⟨l1,l2⟩:=J7 hs;refine r1 rfl (by simp only[ag,and_true,ei];omega) ?_;rw[ei,eg];refine bG rfl (tN _ hs) rfl<|r0 rfl<|bG rfl (OZ _ l1 l2 (by decide) (ve _) b.s (by have:=hb.s;omega)) rfl ?_;refine k1 rfl (by kernel_rfl) (by simp only[ag,and_true,abP,wX]<;>simp<;>omega) ?_;refine again (i+1) (by omega) (by omega) ⟨ab,ab,ab,⟨rfl,an.of_eq ?_⟩,kL,ab,ab,ab,ao⟩;have e:(lA rs b).take (i+1)=(lA rs b).take i++[mH (HD rs[i]) b.s]:=by rw[abZ<|by omega];simp[lA]
  rw[e];rfl
 have:i=rs.length:=by omega
 subst this;rw[<-wX,ads];refine r0 rfl ?_;have Nq:(n6 rs b p.aa).length=p.aa.length:=by simp[n6]
 refine loop (ad5 p rs b) (λj=>j<=p.aa.length) (λj=>p.aa.length-j) 0 (aaJ _) ⟨ab,ab,ab,ab,kL,ab,ab,ab,ao⟩ ?_;intro j hj;unfold ad5;refine r0 rfl<|bH rfl (λg2=>?_) (λg2=>?_)
 ·have CX:j<p.aa.length:=by omega
  have ej:(j:Int).toNat=j:=by omega
  have hum:p.aa[j]∈p.aa:=aaY CX;have eu:p.aa.getD j default=p.aa[j]:=aw CX;refine r1 rfl (by simp only[ag,and_true,ej]<;>omega) ?_;rw[ej,eu];have hu:=hv _ hum;have CS:=(h.unit _ hum).ah;generalize hug:p.aa[j]=u at*;have RE:(iU rs b u).length=u.ah.length:=by simp[iU]
  refine loop (inF p rs b j u) (λk=>k<=u.ah.length) (λk=>u.ah.length-k) 0 (aaJ _) ⟨ab,ab,ab,ab,ab,ab,kL,ab,ab,ab,ab,ab,ab,ao⟩ ?_;intro k hk;unfold inF;refine r0 rfl<|bH rfl (λg3=>?_) (λg3=>?_)
  ·have gp:k<u.ah.length:=by omega
   have ek:(k:Int).toNat=k:=by omega
   have ef:u.ah.getD k default=u.ah[k]:=aw gp;have hfd:=hu.feed _<|aaY gp;have hfd:=hu.feed _<|aaY gp;have hix:x7 rs b u k=mH (Kl rs u.ah[k]) (if u.kind=bo/\k=0 then b.d else b.s):=by unfold x7;rw[ef]
   have htk:(iU rs b u).take (k+1)=(iU rs b u).take k++[x7 rs b u k]:=by rw[abZ<|by omega];simp[iU]
   obtain⟨f,hf⟩:∃f,u.ah[k]=f:=⟨_,rfl⟩;rw[hf]at hfd hix ef;obtain⟨f1,f2,f3,f4⟩:=hfd;obtain⟨n1,n2⟩:=HY (fX<|bI f.dU) (dL _) (fH f3).1 (by decide);obtain⟨m1,m2⟩:=Vh f3;refine rn 3 rfl<|b8 3 [(1,.bT false 2 default fP rs),(3,.box true<|bh p),(5,.box true<|ew b),(15,.ints .i64 true<|(iU rs b u).take k),(14,.box true<|dM u),(35,.box true<|xh p rs b (lA rs b)<|(n6 rs b p.aa).take j),(10,.bA 35 0 0 []),(65,.bT false 2 default pd u.ah),(66,.i u.ah.length),(67,.i k),(58,.bT false 5 default dM p.aa),(59,.i p.aa.length),(60,.i j),(16,.i k),(17,.box true<|pd f),(18,.box true<|eF<|WB f)] True ?_ λ_=>?_
   ·refine r1 rfl (by simp only[ag,and_true,ek]<;>omega) ?_;rw[ek,ef];refine bF rfl (qW f3) rfl<|r0 rfl<|bF rfl (PD _<|dL _) rfl<|r0 rfl ?_;have hs:(bI f.dU).num.sign<0↔bI f.dU<0:=by
     rw[afa];have:=agr (q:=bI f.dU);constructor<;>intro h<;>grind
    refine bH rfl (λh1=>?_) (λh1=>?_)
    ·have h1:=hs.1 h1;refine r0 rfl<|bF rfl n1 rfl<|r0 rfl ?_;have e:WB f=⟨iS (fX<|bI f.dU).n,(fX<|bI f.dU).d⟩:=by unfold WB;rw[if_pos h1]
     rw[e];exact aP ao ⟨ab,ab,ab,ab,ab,ab,kL,ab,ab,ab,ab,ab,ab,ab,ab,ab,ao⟩
    have h1:¬bI f.dU<0:=λh=>h1<|hs.2 h;have e:WB f=fX (bI f.dU):=by unfold WB;rw[if_neg h1]
    rw[e];refine r0 rfl<|aP ao ⟨ab,ab,ab,ab,ab,ab,kL,ab,ab,ab,ab,ab,ab,ab,ab,ab,ao⟩
   have yM:f.sh.toNat<rs.length:=by omega
   have er:rs.getD f.sh.toNat default=rs[f.sh.toNat]:=aw yM;have hsr:=qm _<|aaY yM;obtain⟨l1,l2⟩:=J7 hsr;obtain⟨q1,q2⟩:=tM (ZA rs[f.sh.toNat]) (WB f) l1 m1 l2 m2;have Ks:HD rs[f.sh.toNat]*mz (bI f.dU)=Kl rs f:=by unfold Kl;rw[er,V6<|ve _]
   rw[Ks]at q1;have hL:∀m:Int,0<=m/\m<=40->aL Tryz.prog 92 [eF<|TQ (ZA rs[f.sh.toNat])<|WB f,.i m] (.i<|mH (Kl rs f) m):=λm hm=>OZ _ q1 q2 (by decide) (oS _) m (by omega);refine r0 rfl ?_;have CW:∀m:Int,0<=m/\m<=40->m=(if u.kind=bo/\k=0 then b.d else b.s)->an (.ints .i64 true<|(iU rs b u).take k++[mH (Kl rs f) m]) (.ints .i64 true<|(iU rs b u).take<|k+1):=by intro m hm e;refine an.of_eq ?_;rw[htk,hix,e]
   refine aC 84 rfl (λh1=>?_) (λh1=>?_)
   ·refine r0 rfl<|bH rfl (λh2=>?_) (λh2=>?_)
    ·have h2:u.kind=bo:=h2;have hc:b.d=(if u.kind=bo/\k=0 then b.d else b.s):=by rw[if_pos ⟨h2,by omega⟩]
     refine r1 rfl (by simp only[ag,and_true];omega) ?_;rw[er];refine bG rfl (tN _ hsr) rfl<|r0 rfl<|bG rfl (C5 _ _ l1 m1 l2 m2<|by decide) rfl<|r0 rfl<|bG rfl (hL b.d hb.d) rfl<|k1 rfl (by kernel_rfl) (by simp only[ag,and_true,abP,RE]<;>simp<;>omega) ?_;exact again (k+1) (by omega) (by omega) ⟨ab,ab,ab,⟨rfl,CW _ hb.d hc⟩,ab,ab,kL,ab,ab,ab,ab,ab,ab,ao⟩
    have h2:¬u.kind=bo:=h2;have hc:b.s=(if u.kind=bo/\k=0 then b.d else b.s):=by rw[if_neg λh=>h2 h.1]
    refine r1 rfl (by simp only[ag,and_true];omega) ?_;rw[er];refine bG rfl (tN _ hsr) rfl<|r0 rfl<|bG rfl (C5 _ _ l1 m1 l2 m2<|by decide) rfl<|r0 rfl<|bG rfl (hL b.s hb.s) rfl<|k1 rfl (by kernel_rfl) (by simp only[ag,and_true,abP,RE]<;>simp<;>omega) ?_;exact again (k+1) (by omega) (by omega) ⟨ab,ab,ab,⟨rfl,CW _ hb.s hc⟩,ab,ab,kL,ab,ab,ab,ab,ab,ab,ao⟩
   have hc:b.s=(if u.kind=bo/\k=0 then b.d else b.s):=by rw[if_neg λh=>h1 (by have:=h.2;show(k:Int)=0;omega)]
   refine r1 rfl (by simp only[ag,and_true];omega) ?_;rw[er];refine bG rfl (tN _ hsr) rfl<|r0 rfl<|bG rfl (C5 _ _ l1 m1 l2 m2<|by decide) rfl<|r0 rfl<|bG rfl (hL b.s hb.s) rfl<|k1 rfl (by kernel_rfl) (by simp only[ag,and_true,abP,RE]<;>simp<;>omega) ?_;exact again (k+1) (by omega) (by omega) ⟨ab,ab,ab,⟨rfl,CW _ hb.s hc⟩,ab,ab,kL,ab,ab,ab,ab,ab,ab,ao⟩
  have:k=u.ah.length:=by omega
  subst this;have afj:(iU rs b u).take u.ah.length=iU rs b u:=by rw[<-RE,ads]
  rw[afj];refine r1 rfl (by simp only[ag,and_true,len,abp,abP,Nq]<;>omega) ?_;refine DZ (j+1) (by omega) (by omega) ⟨⟨rfl,rfl,.refl _⟩,⟨rfl,rfl,.refl _⟩,⟨rfl,rfl,.refl _⟩,⟨rfl,rfl,.box<|.agg<|.cons (.refl _)<|.cons (.refl _)<|.cons (.refl _)<|.cons (.refl _)<|.cons (.refl _)<|.cons (.refl _)<|.cons (.refl _)<|.cons (.refl _)<|.cons (.refl _)<|.cons (.row ?_) .nil⟩,kL,⟨rfl,rfl,.refl _⟩,⟨rfl,rfl,.refl _⟩,⟨rfl,rfl,.refl _⟩,ao⟩;have e:(n6 rs b p.aa).take (j+1)=(n6 rs b p.aa).take j++[iU rs b u]:=by rw[abZ<|by omega];simp[n6,hug]
  rw[c8,e,acd];exact qp.refl _
 have:j=p.aa.length:=by omega
 subst this;rw[<-Nq,ads];refine r0 rfl<|bB rfl
def v8(f:Nat):SV:=.agg [.fn (.func f) [] []]
def v7(f:Nat):Value:=.agg #[.func (.func f) #[] #[]]
def Zp:Br:=[(bo,v7 173),(jJ,v7 174),(dQ,v7 175)]
def Xa:aL Tryz.prog 94 [] (.mp<|CA Zp):=by refine bE Tryz.func94 rfl<|r0 rfl<|ex rfl rfl rfl (J1 rfl) rfl<|r0 rfl<|ex rfl rfl rfl (tE (k:=bo) (v:=v7 173) (x:=v8 173) (.inl rfl) rfl Tryz.underlying174 Tryz.underlying9 rfl) rfl<|r0 rfl<|ex rfl rfl rfl (tE (k:=jJ) (v:=v7 174) (x:=v8 174) (.inl rfl) rfl Tryz.underlying174 Tryz.underlying9 rfl) rfl<|r0 rfl<|ex rfl rfl rfl (tE (k:=dQ) (v:=v7 175) (x:=v8 175) (.inl rfl) rfl Tryz.underlying174 Tryz.underlying9 rfl) rfl<|r0 rfl<|bB rfl
def YI(u:bO)(L:List Int)(n:Int)(b:iA):SV:=.agg [.s u.kind,.bT false 2 default pd u.ah,.i u.out,.s u.k,.strs false u.dD,.ints .i64 false L,.i n,.i b.c,.i b.d,.i b.s,.i b.g]
def cI(L:List Int)(b:iA)(u:bO):List Ou:=
 [⟨-1,-1,L.getD 0 0+40⟩,⟨(u.ah.getD 0 default).sh,-1,L.getD 0 0+b.g⟩,⟨-1,(u.ah.getD 0 default).sh,b.g-L.getD 0 0⟩,⟨u.out,-1,L.getD 1 0+L.getD 0 0-b.c⟩,
  ⟨-1,u.out,40+b.c-L.getD 0 0⟩,⟨u.out,(u.ah.getD 1 default).sh,b.g+L.getD 0 0-b.c⟩,⟨(u.ah.getD 1 default).sh,u.out,b.g-L.getD 0 0+b.c⟩]
def cA(L:List Int)(b:iA)(u:bO)(k:Nat):List Ou:=[⟨u.out,-1,L.getD k 0⟩,⟨u.out,(u.ah.getD k default).sh,b.g⟩,⟨(u.ah.getD k default).sh,u.out,b.g⟩]
def cT(L:List Int)(n:Int)(b:iA)(u:bO):List Ou:=[⟨n,-1,L.getD 0 0⟩,⟨-1,n,40⟩,⟨n,(u.ah.getD 0 default).sh,b.g⟩,⟨(u.ah.getD 0 default).sh,n,b.g⟩]
def Lim(x:Int):Prop:= -1000000<=x/\x<=1000000
def Xc(u:bO)(L:List Int)(n:Int)(b:iA)(hb:Ov b)(hf:u.ah.length=2)(hL:L.length=2)(hl:∀x∈L,Lim x):
 aL Tryz.prog 173 [YI u L n b] (.bT true 3 default mr<|cI L b u):=by
 obtain⟨x,y,rfl⟩:∃x y,L=[x,y]:=by
  match L,hL with
  |[x,y],_=>exact⟨x,y,rfl⟩
 have hx:=hl x (by simp);have hy:=hl y (by simp);unfold Lim at hx hy;have hg:=hb.g;have hc:=hb.c;have uF:Int.toNat 0=0:=rfl;have YJ:Int.toNat 1=1:=rfl;refine bE Tryz.func173 rfl<|k1 rfl (by kernel_rfl) (by simp only[ag,and_true,uF,YJ,hf,abn,abr,ah1,ahT]<;>omega) ?_;exact aG rfl kL
def Xd(u:bO)(L:List Int)(n:Int)(b:iA)(hf:u.ah.length=L.length)(hL:L.length<=8):
 aL Tryz.prog 174 [YI u L n b] (.bT true 3 default mr<|(List.range u.ah.length).flatMap<|cA L b u):=by
 refine bE Tryz.func174 rfl<|r0 rfl<|loop (λk:Nat=>[(1,.box true<|YI u L n b),(3,.bT true 3 default mr<|(List.range k).flatMap<|cA L b u),(8,.bT false 2 default pd u.ah),(9,.i u.ah.length),(10,.i k)])
  (λk=>k<=u.ah.length) (λk=>u.ah.length-k) 0 (aaJ _) ⟨ab,ab,ab,ab,ab,ao⟩ ?_
 intro k hk;have RE:((List.range k).flatMap<|cA L b u).length<=k*3:=cJ (f:=cA L b u) (c:=3) (λk=>by simp[cA]) k;refine r0 rfl<|bH rfl (λh4=>?_) (λh4=>?_)
 ·have gp:k<u.ah.length:=by omega
  have ek:(k:Int).toNat=k:=by omega
  refine k1 rfl (by kernel_rfl) (by simp only[ag,and_true,ek,len,abp,abn,abr]<;>omega) ?_;refine again (k+1) (by omega) (by omega) ⟨ab,⟨rfl,rfl,rfl,?_⟩,ab,ab,ab,ao⟩;rw[c8,iE,acd,ek];exact jd.refl _
 have:k=u.ah.length:=by omega
 subst this;refine r0 rfl<|bB rfl
def Xb(u:bO)(L:List Int)(n:Int)(b:iA)(hf:u.ah.length=1)(hL:L.length=1):
 aL Tryz.prog 175 [YI u L n b] (.bT true 3 default mr<|cT L n b u):=by
 have uF:Int.toNat 0=0:=rfl;refine bE Tryz.func175 rfl<|k1 rfl (by kernel_rfl) (by simp only[ag,and_true,uF,hf,hL]<;>omega) ?_;exact aG rfl kL
def PM(p:kx)(rs:List hO)(b:iA)(S:List Int)(I:List (List Int)):SV:=
 .agg [.i p.n,.bT false 5 default dM p.aa,.ints .i64 false p.ints,.bT false 2 default fP rs,.i b.c,.i b.d,.i b.s,.i b.g,.ints .i64 false S,.bT false 1 [] (SV.ints .i64 false) I]
def W2(rs:List hO)(b:iA){s:Nat}(h:s<rs.length):(lA rs b).getD s 0=OM rs b s:=by unfold lA OM;rw[abc,abc,afh,abl h];rfl
def Um(rs:List hO)(b:iA)(u:bO):(iU rs b u).length=u.ah.length:=by simp[iU]
def wU(rs:List hO)(b:iA)(u:bO){k:Nat}(h:k<u.ah.length):(iU rs b u).getD k 0=x7 rs b u k:=by unfold iU;rw[abc,afh,aiQ h];rfl
def Un(rs:List hO)(b:iA)(us:List bO){i:Nat}(h:i<us.length):(n6 rs b us).getD i []=iU rs b us[i]:=by unfold n6;rw[abc,afh,abl h];rfl
def XX(rs:List hO)(b:iA)(u:bO){n:Int}(hu:jc n u)(hr:RgV n rs)(hl:rs.length<2^40)(bt:u.ah.length<2^40)(hb:Ov b):∀x∈iU rs b u,Lim x:=by intro x hx;unfold iU at hx;rw[abD]at hx;obtain⟨k,hk,rfl⟩:=hx;have hk:=aeE.1 hk;obtain⟨-,c2,c3⟩:=ns rs b u k hu hk hr hl bt hb;unfold Lim;omega
def agl(rs:List hO)(b:iA)(u:bO)(h:u.ah.length=2):cI (iU rs b u) b u=Ik rs b u:=by unfold cI Ik;rw[wU rs b u<|by omega,wU rs b u<|by omega]
def agm(rs:List hO)(b:iA)(u:bO):(List.range u.ah.length).flatMap (cA (iU rs b u) b u)=(List.range u.ah.length).flatMap (th rs b u):=by
 have:∀k∈List.range u.ah.length,cA (iU rs b u) b u k=th rs b u k:=by intro k hk;unfold cA th;rw[wU rs b u<|aeE.1 hk]
 rw[List.flatMap_def,List.flatMap_def,adf this]
def agk(rs:List hO)(b:iA)(u:bO)(n:Int)(h:u.ah.length=1):cT (iU rs b u) n b u=N7 n rs b u:=by unfold cT N7;rw[wU rs b u<|by omega]
def xv(p:kx)(h:ye p)(n:Nat)(hn:p.n=n)(UH:n<=100)(X3:p.aa.length<=96)(hv:∀u∈p.aa,jc p.n u)(rs:List hO)(b:iA)(hr:RgV p.n rs)(hb:Ov b):
 aL Tryz.prog 41 [.box false<|PM p rs b (lA rs b)<|n6 rs b p.aa] (.bX [.bT true 3 default mr<|rr n p.aa rs b,.i ((n+ug p.aa p.aa.length:Nat):Int)]):=by
 have D8:=h.aa;have Nl:rs.length=n:=by have:=hr.len;omega
 have wX:(lA rs b).length=n:=by simp[lA,Nl]
 have Nq:(n6 rs b p.aa).length=p.aa.length:=by simp[n6]
 have hU:∀i,(hi:i<p.aa.length)->(xy ((n+ug p.aa i:Nat):Int) rs b<|p.aa.getD i default).length<=24:=by
  intro i hi;have hu:=hv _<|aaY hi;rw[aw hi];unfold xy;split
  ·simp[Ik]
  split
  ·rename_i g;have:=cJ (f:=th rs b p.aa[i]) (c:=3) (λk=>by simp[th]) p.aa[i].ah.length;have:=(hu.add g).2.1;omega
  split
  ·simp[N7]
  simp
 have hto:∀i,i<=p.aa.length->(mv n p.aa rs b i).length<=200+24*i:=by
  intro i
  induction i with
  |zero=>intro _;have:=cJ (f:=DE rs b) (c:=2) (λk=>by simp[DE]) n;simp only[mv,ot,List.range_zero,List.flatMap_nil,ac7];omega
  |succ i ih=>intro hi;have:=ih (by omega);have:=hU i (by omega);rw[oq,abq];omega
 refine bE Tryz.func41 rfl<|r0 rfl<|loop (λs:Nat=>[(0,.box false<|PM p rs b (lA rs b)<|n6 rs b p.aa),(4,.bT true 3 default mr<|ot rs b s),(14,.ints .i64 false<|lA rs b),(15,.i (lA rs b).length),(16,.i s)]) (λs=>s<=n) (λs=>n-s) 0 (aaJ _) ⟨ab,ab,ab,ab,ab,ao⟩ ?_;intro s hs;have ang:(ot rs b s).length<=s*2:=cJ (f:=DE rs b) (c:=2) (λk=>by simp[DE]) s;refine r0 rfl<|bH rfl (λh1=>?_) (λh1=>?_)
 ·have Nk:s<n:=by omega
  have es:(s:Int).toNat=s:=by omega
  have eg:=W2 rs b (show s<rs.length by omega);refine r1 rfl (by simp only[ag,and_true,es,wX,len,abp,abn,abr]<;>omega) ?_;rw[es,eg];refine again (s+1) (by omega) (by omega) ⟨ab,⟨rfl,rfl,rfl,?_⟩,ab,ab,ab,ao⟩;rw[c8,ot,ot,iE,acd];exact jd.refl _
 have:s=n:=by omega
 subst this;have h0:ot rs b s=mv s p.aa rs b 0:=by unfold mv;simp
 rw[h0];refine r0 rfl<|bF rfl Xa rfl<|r0 rfl<|loop (λi:Nat=>[(0,.box false<|PM p rs b (lA rs b)<|n6 rs b p.aa),(4,.bT true 3 default mr<|mv s p.aa rs b i),(7,.mp<|CA Zp),(8,.i ((s+ug p.aa i:Nat):Int)),(40,.bT false 5 default dM p.aa),(41,.i p.aa.length),(42,.i i)])
  (λi=>i<=p.aa.length) (λi=>p.aa.length-i) 0 (aaJ _) ⟨ab,ab,ab,⟨rfl,an.of_eq<|congrArg SV.i<|by rw[hn];simp[ug]⟩,ab,ab,ab,ao⟩ ?_
 intro i hi;refine r0 rfl<|bH rfl (λh1=>?_) (λh1=>?_)
 ·have aZ:i<p.aa.length:=by omega
  have ei:(i:Int).toNat=i:=by omega
  have eg:p.aa.getD i default=p.aa[i]:=aw aZ;have hu:=hv _<|aaY aZ;have CS:=(h.unit _<|aaY aZ).ah;have hlen:=hto i hi;have eR:=oq s p.aa rs b i;have KD:=Gx aZ;have Bg:=PU p.aa i;have hig:=Un rs b p.aa aZ;rw[eg]at eR;obtain⟨u,eu⟩:∃u,p.aa[i]=u:=⟨_,rfl⟩;rw[eu]at hu CS eR KD hig eg;have aiI:=XX rs b u hu hr (by omega) CS hb;have Pm:=Um rs b u;have kIA:=BC;have kIT:=wQ;have kAT:=BD;refine r1 rfl (by simp only[ag,and_true,ei]<;>omega) ?_;rw[ei,eg];by_cases h2:u.kind=bo
  ·have Pn:¬u.kind=dQ:=by rw[h2];exact kIT
   have RH:=(hu.int h2).1;rw[if_neg Pn]at KD;unfold xy at eR;rw[if_pos h2]at eR;refine Wp (v8 173) rfl rfl rfl (fW (k:=u.kind) (x:=v8 173) Tryz.underlying174 Tryz.underlying9 (v:=v7 173) (by rw[h2];rfl) rfl false) rfl ?_;refine r1 rfl (by simp only[ag,and_true,ei,Nq]<;>omega) ?_;rw[ei,hig];refine bG rfl (Xc u (iU rs b u) _ b hb RH (by omega) aiI) rfl ?_;rw[agl rs b u RH];refine k1 rfl (by kernel_rfl) (by simp only[ag,and_true,len,abp,Ik,abn,abr];exact⟨λ_=>rfl,λ_=>rfl,by omega⟩) ?_;refine bH rfl (λh3=>absurd h3 Pn) λ_=>?_;refine r1 rfl (by simp only[ag,and_true]<;>omega) ?_;refine again (i+1) (by omega) (by omega) ⟨ab,⟨rfl,rfl,rfl,?_⟩,ab,⟨rfl,an.of_eq<|congrArg SV.i<|by rw[KD];rfl⟩,ab,ab,ab,ao⟩;rw[c8,eR,acd];exact jd.refl _
  unfold xy at eR;rw[if_neg h2]at eR;by_cases h3:u.kind=jJ
  ·have Pn:¬u.kind=dQ:=by rw[h3];exact kAT
   rw[if_neg Pn]at KD;rw[if_pos h3]at eR;have hf8:=(hu.add h3).2.1;have bt:=cJ (f:=th rs b u) (c:=3) (λk=>by simp[th]) u.ah.length;refine Wp (v8 174) rfl rfl rfl (fW (k:=u.kind) (x:=v8 174) Tryz.underlying174 Tryz.underlying9 (v:=v7 174) (by rw[h3];rfl) rfl false) rfl ?_;refine r1 rfl (by simp only[ag,and_true,ei,Nq]<;>omega) ?_;rw[ei,hig];refine bG rfl (Xd u (iU rs b u) _ b Pm.symm<|by omega) rfl ?_;rw[agm rs b u];refine k1 rfl (by kernel_rfl) (by simp only[ag,and_true,len,abp];exact⟨λ_=>rfl,λ_=>rfl,by omega⟩) ?_;refine bH rfl (λh4=>absurd h4 Pn) λ_=>?_;refine r1 rfl (by simp only[ag,and_true]<;>omega) ?_;refine again (i+1) (by omega) (by omega) ⟨ab,⟨rfl,rfl,rfl,?_⟩,ab,⟨rfl,an.of_eq<|congrArg SV.i<|by rw[KD];rfl⟩,ab,ab,ab,ao⟩;rw[c8,eR,acd];exact jd.refl _
  rw[if_neg h3]at eR;have h4:u.kind=dQ:=by
   rcases hu.kind with g|g|g
   ·exact absurd g h2
   ·exact absurd g h3
   exact g
  rw[if_pos h4]at eR KD;have KA:=(hu.table h4).1;refine Wp (v8 175) rfl rfl rfl (fW (k:=u.kind) (x:=v8 175) Tryz.underlying174 Tryz.underlying9 (v:=v7 175) (by rw[h4];rfl) rfl false) rfl ?_;refine r1 rfl (by simp only[ag,and_true,ei,Nq]<;>omega) ?_;rw[ei,hig];refine bG rfl (Xb u (iU rs b u) _ b KA<|by omega) rfl ?_;rw[agk rs b u _ KA];refine k1 rfl (by kernel_rfl) (by simp only[ag,and_true,len,abp,N7,abn,abr];exact⟨λ_=>rfl,λ_=>rfl,by omega⟩) ?_;refine bH rfl (λ_=>?_) λh5=>absurd h4 h5;refine r1 rfl (by simp only[ag,and_true]<;>omega) ?_;refine again (i+1) (by omega) (by omega) ⟨ab,⟨rfl,rfl,rfl,?_⟩,ab,⟨rfl,an.of_eq<|congrArg SV.i<|by rw[KD];omega⟩,ab,ab,ab,ao⟩;rw[c8,eR,acd];exact jd.refl _
 have:i=p.aa.length:=by omega
 subst this;refine r0 rfl<|bB rfl
structure OpV(p:kx)(rs:List hO)(b:iA):Prop where
 al8:dR p=0
 n1:1<=p.n
 n:p.n<=100
 aa:p.aa.length<=96
 val:∀u∈p.aa,jc p.n u
 rg:RgV p.n rs
 sp:∀s∈rs,SpL s
 bn:Ov b
def QU{p:kx}(h:dR p=0):1<=p.n/\p.n<=100/\p.aa.length<=96/\∀u∈p.aa,jc p.n u:=by
 unfold dR at h;split at h
 ·simp at h
 rename_i h1;split at h
 ·simp at h
 rename_i h2;split at h
 ·rename_i h3;exact absurd h h3
 rename_i h3;refine⟨by omega,by omega,by omega,λu hu=>?_⟩;exact qw<|dG.1 (by simpa using h3) u hu
def tH{p:kx}{rs:List hO}{b:iA}(h:iR p rs b=0):OpV p rs b:=by
 have h1:mD p rs=0:=by apply adC;intro g;unfold iR at h;rw[if_pos g]at h;exact g h
 have h2:ov b=0:=by unfold iR at h;rwa[if_neg<|by rw[h1];simp]at h
 have h3:dR p=0:=by apply adC;intro g;unfold mD at h1;rw[if_pos g]at h1;exact g h1
 have h4:jh p.n rs=0:=by unfold mD at h1;rwa[if_neg<|by rw[h3];simp]at h1
 obtain⟨a1,a2,a3,a4⟩:=QU h3;refine⟨h3,a1,a2,a3,a4,Hd h4,λs hs=>?_,AR.1 h2⟩;unfold jh at h4;split at h4
 ·simp at h4
 exact SX<|dG.1 h4 s hs
def MJ(p:kx)(h:ye p)(rs:List hO)(hx:∀s∈rs,cR s.lo/\cR s.hi)(hl:rs.length<2^40)(b:iA)(he:iR p rs b=0):
 aL Tryz.prog 40 [bh p,.bT false 2 default fP rs,ew b] (.bX [.box true<|xh p rs b (lA rs b)<|n6 rs b p.aa,.i 0]):=
 have v:=tH he
 Xr p h rs hx hl b he v.val v.rg v.sp v.bn v.aa v.n
def M3(p:kx)(h:ye p)(rs:List hO)(hx:∀s∈rs,cR s.lo/\cR s.hi)(hl:rs.length<2^40)(b:iA)(he:iR p rs b≠0):
 aL Tryz.prog 10 [bh p,.bT false 2 default fP rs,ew b] (.bX [.nil,.nil,.i<|iR p rs b]):=by
 refine bE Tryz.func10 rfl<|r0 rfl<|bF rfl (JF p h rs hx hl b he) rfl<|r0 rfl<|bH rfl (λ_=>?_) λg=>absurd he g;refine r0 rfl<|bB rfl
def FV(p:kx)(h:ye p)(rs:List hO)(hx:∀s∈rs,cR s.lo/\cR s.hi)(hl:rs.length<2^40)(b:iA)(he:iR p rs b=0):
 aL Tryz.prog 10 [bh p,.bT false 2 default fP rs,ew b] (.bX [.ints .i64 false<|lA rs b,.bT false 1 [] (SV.ints .i64 false)<|n6 rs b p.aa,.i 0]):=by
 refine bE Tryz.func10 rfl<|r0 rfl<|bF rfl (MJ p h rs hx hl b he) rfl<|r0 rfl<|bH rfl (λg=>absurd rfl g) λ_=>?_;refine qB (r:=9) (p:=[]) rfl rfl ao<|k0 rfl (by kernel_rfl)<|bB rfl
def R4(p:kx)(h:ye p)(rs:List hO)(hx:∀s∈rs,cR s.lo/\cR s.hi)(hl:rs.length<2^40)(b:iA)(he:iR p rs b≠0):
 aL Tryz.prog 11 [bh p,.bT false 2 default fP rs,ew b] (.bX [.nil,.i<|iR p rs b]):=by
 refine bE Tryz.func11 rfl<|r0 rfl<|bF rfl (JF p h rs hx hl b he) rfl<|r0 rfl<|bH rfl (λ_=>?_) λg=>absurd he g;refine r0 rfl<|bB rfl
def Lu(p:kx)(h:ye p)(rs:List hO)(hx:∀s∈rs,cR s.lo/\cR s.hi)(hl:rs.length<2^40)(b:iA)(he:iR p rs b=0):
 aL Tryz.prog 11 [bh p,.bT false 2 default fP rs,ew b] (.bX [.bT true 3 default mr<|rr p.n.toNat p.aa rs b,.i 0]):=by
 have v:=tH he;have hn:p.n=(p.n.toNat:Int):=by have:=v.n1;omega
 refine bE Tryz.func11 rfl<|r0 rfl<|bF rfl (MJ p h rs hx hl b he) rfl<|r0 rfl<|bH rfl (λg=>absurd rfl g) λ_=>?_;refine r0 rfl<|call rfl rfl ao (xv p h p.n.toNat hn (by have:=v.n;omega) v.aa v.val rs b v.rg v.bn) rfl ⟨λ_=>rfl,ao⟩ ?_;refine r0 rfl<|bB rfl
end Go.Ai.Pg
section
namespace Go.Proofs
open Go.Shelf
def Tryz.Kb:Go.Shelf.Ren:=⟨λ|171=>201|243=>241|246=>270|283=>271|284=>272|285=>273|286=>274|129=>195|317=>288|318=>289|319=>290|320=>291|337=>297|338=>298|n=>n,λ|3=>3|9=>9|2=>2|4=>4|171=>329|0=>0|53=>253|37=>277|5=>5|173=>331|212=>352|51=>250|20=>20|213=>353|46=>192|232=>371|233=>372|n=>n,λ|17=>5|18=>6|19=>7|n=>n⟩
theorem Tryz.XN:Go.Proofs.LaysM.n171 Tryz.prog Tryz.Kb where
 mixed:=by kernel_rfl
 f129:=Tryz.func195.trans<|congrArg some<|by kernel_rfl
 f171:=Tryz.func201.trans<|congrArg some<|by kernel_rfl
 f243:=Tryz.func241.trans<|congrArg some<|by kernel_rfl
 f246:=Tryz.func270.trans<|congrArg some<|by kernel_rfl
 f283:=Tryz.func271.trans<|congrArg some<|by kernel_rfl
 f284:=Tryz.func272.trans<|congrArg some<|by kernel_rfl
 f285:=Tryz.func273.trans<|congrArg some<|by kernel_rfl
 f286:=Tryz.func274.trans<|congrArg some<|by kernel_rfl
 f317:=Tryz.func288.trans<|congrArg some<|by kernel_rfl
 f318:=Tryz.func289.trans<|congrArg some<|by kernel_rfl
 f319:=Tryz.func290.trans<|congrArg some<|by kernel_rfl
 f320:=Tryz.func291.trans<|congrArg some<|by kernel_rfl
 f337:=Tryz.func297.trans<|congrArg some<|by kernel_rfl
 f338:=Tryz.func298.trans<|congrArg some<|by kernel_rfl
 t0:=Tryz.underlying0
 a0:=Tryz.isAgg0
 z0:=Tryz.sizeOf0
 v0:=Tryz.zeroValue0
 t2:=Tryz.underlying2
 a2:=Tryz.isAgg2
 z2:=Tryz.sizeOf2
 v2:=Tryz.zeroValue2
 t3:=Tryz.underlying3
 a3:=Tryz.isAgg3
 z3:=Tryz.sizeOf3
 v3:=Tryz.zeroValue3
 t4:=Tryz.underlying4
 a4:=Tryz.isAgg4
 z4:=Tryz.sizeOf4
 v4:=Tryz.zeroValue4
 t5:=Tryz.underlying5
 a5:=Tryz.isAgg5
 z5:=Tryz.sizeOf5
 v5:=Tryz.zeroValue5
 t9:=Tryz.underlying9
 a9:=Tryz.isAgg9
 z9:=Tryz.sizeOf9
 v9:=Tryz.zeroValue9
 t20:=Tryz.underlying20
 a20:=Tryz.isAgg20
 z20:=Tryz.sizeOf20
 v20:=Tryz.zeroValue20
 t37:=Tryz.underlying277
 a37:=Tryz.isAgg277
 z37:=Tryz.sizeOf277
 v37:=Tryz.zeroValue277
 t46:=Tryz.underlying192
 a46:=Tryz.isAgg192
 z46:=Tryz.sizeOf192
 v46:=Tryz.zeroValue192
 t51:=Tryz.underlying250
 a51:=Tryz.isAgg250
 z51:=Tryz.sizeOf250
 v51:=Tryz.zeroValue250
 t53:=Tryz.underlying253
 a53:=Tryz.isAgg253
 z53:=Tryz.sizeOf253
 v53:=Tryz.zeroValue253
 t171:=Tryz.underlying329
 a171:=Tryz.isAgg329
 z171:=Tryz.sizeOf329
 v171:=Tryz.zeroValue329
 t173:=Tryz.underlying331
 a173:=Tryz.isAgg331
 z173:=Tryz.sizeOf331
 v173:=Tryz.zeroValue331
 t212:=Tryz.underlying352
 a212:=Tryz.isAgg352
 z212:=Tryz.sizeOf352
 v212:=Tryz.zeroValue352
 t213:=Tryz.underlying353
 a213:=Tryz.isAgg353
 z213:=Tryz.sizeOf353
 t232:=Tryz.underlying371
 a232:=Tryz.isAgg371
 z232:=Tryz.sizeOf371
 v232:=Tryz.zeroValue371
 t233:=Tryz.underlying372
 a233:=Tryz.isAgg372
 z233:=Tryz.sizeOf372
 v233:=Tryz.zeroValue372
 g17:=by kernel_rfl
 g18:=by kernel_rfl
 g19:=by kernel_rfl
 i0:=by kernel_rfl
 i2:=by kernel_rfl
 i3:=by kernel_rfl
 i4:=by kernel_rfl
 i5:=by kernel_rfl
 i9:=by kernel_rfl
 i20:=by kernel_rfl
 i37:=by kernel_rfl
 i46:=by kernel_rfl
 i51:=by kernel_rfl
 i53:=by kernel_rfl
 i171:=by kernel_rfl
 i173:=by kernel_rfl
 i212:=by kernel_rfl
 i232:=by kernel_rfl
 i233:=by kernel_rfl
 m17:=by kernel_rfl
 m18:=by kernel_rfl
 m19:=by kernel_rfl
end Go.Proofs
namespace Go.Ai
open Go.Proofs
def DT(w:World)(k:Nat)(os:Array Obj):Go.RowKit.Below w.heap.size w (Sort.grow (w.drewN k) os):=⟨rfl,rfl,rfl,by simp[Sort.grow,World.drewN],λi hi=>by simp[Sort.grow,World.drewN,Array.getElem?_append,hi]⟩
def XS(n:Int)(h0: -(2^63)<=n)(h1:n<=9223372036854775807):aL Tryz.prog 201 [.i n] (.s<|Lib.itoa n):=by intro w S vs hG hS hc;simp only[au,Cells]at hc;obtain⟨y,l',F1,F2,rfl,hF,_,hr,rfl,rfl⟩:=hc;simp only[SV.den,Rel]at hr;obtain⟨_,rfl,rfl⟩:=hr;refine rX.pH (fn:=Tryz.f201) Tryz.func201 rfl rfl<|(Any.strconv_Itoa Tryz.XN n h0 h1 w hG).mono ?_;rintro e w'⟨rfl,k,os,rfl⟩;have hb:=DT w k os;exact⟨_,rfl,S,[],hb,λ_ h=>h,λ_ h=>.inl h,λb dO=>ac3 (hS b dO) hb.size,by simp[SV.den,Rel,scalar,bs],acX,by simp⟩
def decDigits_eq(u:Nat):Lib.decDigits u=decl u 1:=by
 induction u using Nat.strongRecOn with
 |ind u ih=>
  rw[Lib.decDigits,bp<|by omega];by_cases h:u<10
  ·rw[dif_pos h,show u/10=0 by omega,show 1-1=0 by rfl,cE,show u%10=u by omega];rfl
  rw[dif_neg h,ih (u/10)<|by omega];have:decl (u/10) 1=decl (u/10) (1-1):=by rw[bp (n:=u/10) (k:=1)<|by omega,bp (n:=u/10) (k:=1-1)<|by omega]
  rw[this];rfl
def XT(z:Int):Lib.itoa z=ck z:=by
 unfold Lib.itoa ck;split
 ·rw[decDigits_eq]
 rw[decDigits_eq];congr 1;omega
def Uh(n:Int)(h0: -(2^63)<=n)(h1:n<=9223372036854775807):aL Tryz.prog 201 [.i n] (.s<|ck n):=by rw[<-XT];exact XS n h0 h1
end Go.Ai
end
namespace Go.Ai.Pg
open Go.Proofs Go.Ai Go.Ai.cY
def gA:bO:=⟨bo,[⟨1,[49]⟩,⟨0,[49]⟩],1,[49],[]⟩
def fv:kx:=⟨2,[gA],[1]⟩
def check_1:aJ [49]=0:=by decide +kernel
def ad2:bI [49]≠0:=by intro h;have h1:=fO check_1;rw[h,Bw]at h1;exact absurd h1 (by decide)
def IU:fL 2 gA=0:=by
 have hf:∀k:Int,0<=k->k<2->fY 2 ⟨k,[49]⟩=0:=by intro k h0 h1;unfold fY;rw[if_neg<|by show¬(k<0\/2<=k);omega,if_neg<|by rw[check_1];simp,if_neg ad2]
 have hfe:aK (fY 2) gA.ah=0:=dG.2 (by
  intro f hf';simp only[gA,abk,adx,or_false]at hf';rcases hf' with rfl|rfl
  ·exact hf 1 (by decide) (by decide)
  exact hf 0 (by decide)<|by decide)
 unfold fL;rw[if_neg<|by simp[gA],if_neg<|by decide,if_neg<|by rw[hfe];simp,if_neg<|by decide,if_neg<|by show¬aJ [49]≠0;rw[check_1];simp];rfl
def Ho:az [gA]=[0]:=by
 have h1:cU [gA] [] 0=0:=by rw[jH<|by decide,if_pos<|by decide];rfl
 have h2:cU [gA] [0] 0= -1:=by rw[jH<|by decide,if_neg<|by decide,mX<|by decide]
 show ee [gA] 2 []=[0];rw[ee,h1,if_neg<|by decide];show ee [gA] 1 [0]=[0];rw[ee,h2,if_pos<|by decide]
def Ak:dR fv=0:=by
 have hu:aK (fL fv.n) fv.aa=0:=dG.2 (by
  intro u h;have:u=gA:=by simpa[fv]using h
  subst this;exact IU)
 unfold dR;rw[if_neg<|by decide,if_neg<|by decide,if_neg<|by rw[hu];simp,if_neg<|by decide,if_neg<|by decide,if_neg<|by decide,if_neg,if_neg<|by show¬(az [gA]).length<1;rw[Ho];decide,if_neg]
 ·rintro⟨u,h,h2,-⟩;have:u=gA:=by simpa[fv]using h
  subst this;exact absurd h2 (by decide)
 intro h;refine h λs h1 h2=>?_;have:s=1:=by have:s<2:=h2;omega
 subst this;decide
def rO:List hO:=[⟨[48],[50]⟩,⟨[49],[56]⟩]
def pP:iA:=⟨3,5,10,4⟩
def ue:iA:=⟨40,5,10,0⟩
def Vu{n:Nat}(h:n<10):decl n 1=[Sv n]:=by
 have e:n/10=0:=by omega
 have e2:n%10=n:=by omega
 rw[bp<|by omega,e,e2,cE];rfl
def P4:aJ [48]=0:=by decide +kernel
def P3:aJ [50]=0:=by decide +kernel
def P2:aJ [56]=0:=by decide +kernel
def Bv{s:bK}(n:Nat)(h:n<10)(hc:aJ s=0)(he:s=[Sv n]):bI s=(n:Rat):=by rw[<-ME,fO hc,he,MD,Vu h]
def Zt:bI [48]=0:=Bv 0 (by decide) P4 rfl
def He:bI [49]=1:=Bv 1 (by decide) check_1 rfl
def Zs:bI [50]=2:=Bv 2 (by decide) P3 rfl
def Zr:bI [56]=8:=Bv 8 (by decide) P2 rfl
def aaF:iu ⟨[48],[50]⟩=0:=by unfold iu;rw[P4,P3,Zt,Zs];decide +kernel
def aaE:iu ⟨[49],[56]⟩=0:=by unfold iu;rw[check_1,P2,He,Zr];decide +kernel
def aa9:HD ⟨[48],[50]⟩=2:=by unfold HD;rw[Zt,Zs];decide +kernel
def aa8:HD ⟨[49],[56]⟩=8:=by unfold HD;rw[He,Zr];decide +kernel
def CG:mH 2 10=9:=by unfold mH;rw[if_neg<|by decide +kernel,jK (e:=9) ⟨by decide +kernel,by decide +kernel⟩];rfl
def J5:mH 8 10=7:=by unfold mH;rw[if_neg<|by decide +kernel,jK (e:=7) ⟨by decide +kernel,by decide +kernel⟩];rfl
def XH:mH 8 5=2:=by unfold mH;rw[if_neg<|by decide +kernel,jK (e:=2) ⟨by decide +kernel,by decide +kernel⟩];rfl
def Mo(b:iA)(hb:b.s=10):lA rO b=[9,7]:=by unfold lA rO;simp only[acV,adQ,aa9,aa8,hb,CG,J5]
def aes:Kl rO ⟨1,[49]⟩=8:=by unfold Kl;rw[show rO.getD (Int.toNat<|EY.sh ⟨1,[49]⟩) default=⟨[49],[56]⟩from rfl,aa8,show EY.dU ⟨1,[49]⟩=[49]from rfl,He];decide +kernel
def aer:Kl rO ⟨0,[49]⟩=2:=by unfold Kl;rw[show rO.getD (Int.toNat<|EY.sh ⟨0,[49]⟩) default=⟨[48],[50]⟩from rfl,aa9,show EY.dU ⟨0,[49]⟩=[49]from rfl,He];decide +kernel
theorem aeq(b:iA)(hb:b.d=5):x7 rO b gA 0=2:=by unfold x7;rw[show gA.ah.getD 0 default=⟨1,[49]⟩from rfl,aes,if_pos ⟨rfl,rfl⟩,hb,XH]
def in_1(b:iA)(hb:b.s=10):x7 rO b gA 1=9:=by unfold x7;rw[show gA.ah.getD 1 default=⟨0,[49]⟩from rfl,aer,if_neg<|by simp,hb,CG]
def Nc(b:iA)(hd:b.d=5)(hs:b.s=10):n6 rO b fv.aa=[[2,9]]:=by show[iU rO b gA]=_;unfold iU;show[[x7 rO b gA 0,x7 rO b gA 1]]=_;rw[aeq b hd,in_1 b hs]
def nS:ye fv:=⟨by decide,λu h=>by
 have:u=gA:=by simpa[fv]using h
 subst this;exact⟨by decide,λf hf=>by
  have:f.dU=[49]:=by simp only[gA,abk,adx,or_false]at hf;rcases hf with rfl|rfl<;>rfl
  rw[this];exact(by unfold cR;decide:cR [49]),(by unfold cR;decide:cR [49]),by decide,λs hs=>by simp[gA]at hs⟩,by decide⟩
def yU:∀s∈rO,cR s.lo/\cR s.hi:=by intro s hs;simp only[rO,abk,adx,or_false]at hs;rcases hs with rfl|rfl<;>exact⟨by unfold cR;decide,by unfold cR;decide⟩
def By(b:iA)(hb:Ov b):iR fv rO b=0:=by
 have h1:jh fv.n rO=0:=by
  unfold jh;rw[if_neg<|by decide];refine dG.2 λs hs=>?_;simp only[rO,abk,adx,or_false]at hs;rcases hs with rfl|rfl
  ·exact aaF
  exact aaE
 have h2:mD fv rO=0:=by unfold mD;rw[if_neg<|by rw[Ak];simp];exact h1
 unfold iR;rw[if_neg<|by rw[h2];simp];exact AR.2 hb
def Y5:Ov pP:=⟨by decide,by decide,by decide,by decide⟩
def acH:Ov ue:=⟨by decide,by decide,by decide,by decide⟩
def acy:List Ou:=[⟨0,-1,9⟩,⟨-1,0,40⟩,⟨1,-1,7⟩,⟨-1,1,40⟩,⟨-1,-1,42⟩,⟨1,-1,6⟩,⟨-1,1,2⟩,⟨1,-1,8⟩,⟨-1,1,41⟩,⟨1,0,3⟩,⟨0,1,5⟩]
def agh:List Ou:=[⟨0,-1,9⟩,⟨-1,0,40⟩,⟨1,-1,7⟩,⟨-1,1,40⟩,⟨-1,-1,42⟩,⟨1,-1,2⟩,⟨-1,1,-2⟩,⟨1,-1,-29⟩,⟨-1,1,78⟩,⟨1,0,-38⟩,⟨0,1,38⟩]
def adV(b:iA)(hs:b.s=10):OM rO b 0=9:=by unfold OM;rw[show rO.getD 0 default=⟨[48],[50]⟩from rfl,aa9,hs,CG]
def adU(b:iA)(hs:b.s=10):OM rO b 1=7:=by unfold OM;rw[show rO.getD 1 default=⟨[49],[56]⟩from rfl,aa8,hs,J5]
def VD(b:iA)(hd:b.d=5)(hs:b.s=10):rr 2 fv.aa rO b=
 [⟨0,-1,9⟩,⟨-1,0,40⟩,⟨1,-1,7⟩,⟨-1,1,40⟩,⟨-1,-1,2+40⟩,⟨1,-1,2+b.g⟩,⟨-1,1,b.g-2⟩,⟨1,-1,9+2-b.c⟩,⟨-1,1,40+b.c-2⟩,⟨1,0,b.g+2-b.c⟩,⟨0,1,b.g-2+b.c⟩]:=by
 show([⟨0,-1,OM rO b 0⟩,⟨-1,0,40⟩,⟨1,-1,OM rO b 1⟩,⟨-1,1,40⟩]:List Ou)++(xy 2 rO b gA++[])=_;have hu:xy 2 rO b gA=Ik rO b gA:=if_pos rfl;rw[hu];unfold Ik;rw[adV b hs,adU b hs,aeq b hd,in_1 b hs];rfl
def PV:rr 2 fv.aa rO pP=acy:=(VD pP rfl rfl).trans rfl
def YU:rr 2 fv.aa rO ue=agh:=(VD ue rfl rfl).trans rfl
def xP:SV:=bh fv
def xR:SV:=.bT false 2 default fP rO
def Oz(b:iA)(o:Bool):SV:=.agg [.i fv.n,.bT false 5 default dM fv.aa,.ints .i64 false fv.ints,.bT false 2 default fP rO,.i b.c,.i b.d,.i b.s,.i b.g,.ints .i64 o [9,7],.bT o 1 [] (SV.ints .i64 o) [[2,9]]]
def H0:rO.length<2^40:=by decide
def TA(b:iA)(hb:Ov b)(hd:b.d=5)(hs:b.s=10):aL Tryz.prog 40 [xP,xR,ew b] (.bX [.box true<|Oz b true,.i 0]):=by have h:=MJ fv nS rO yU H0 b<|By b hb;unfold xh at h;rw[Mo b hs,Nc b hd hs]at h;exact h
def T6:aL Tryz.prog 10 [xP,xR,ew pP] (.bX [.ints .i64 false [9,7],.bT false 1 [] (SV.ints .i64 false) [[2,9]],.i 0]):=by have h:=FV fv nS rO yU H0 pP<|By pP Y5;rw[Mo pP rfl,Nc pP rfl rfl]at h;exact h
def YS:aL Tryz.prog 11 [xP,xR,ew pP] (.bX [.bT true 3 default mr acy,.i 0]):=by have h:=Lu fv nS rO yU H0 pP<|By pP Y5;rw[show fv.n.toNat=2 from rfl,PV]at h;exact h
def xu(b:iA)(hb:Ov b)(hd:b.d=5)(hs:b.s=10):aL Tryz.prog 41 [.box false<|Oz b false] (.bX [.bT true 3 default mr<|rr 2 fv.aa rO b,.i 2]):=by have v:=tH<|By b hb;have h:=xv fv nS 2 rfl (by decide) v.aa v.val rO b v.rg v.bn;unfold PM at h;rw[Mo b hs,Nc b hd hs]at h;exact h
end Go.Ai.Pg
