/- TopRefused holds. -/
import Derived.Test.YtacjimehcbbkbaaGreatDoorTZAJ
set_option linter.all false
set_option maxRecDepth 100000
set_option maxHeartbeats 0
open Go.Proofs Go.Ai Go.Ai.bI Go.RowKit Go.Proofs.Tryz
noncomputable section
namespace Go.Ai.Pg
def HG(q:QS):fG:=⟨qt q.lo,qt q.hi⟩
def Z1(a b:QS):(Dh a b).lo<=(Dh a b).hi:=by simp[Dh,wU,wq];grind
def HC(box:L QS)(t:aZ):∀v,(kD box t v).lo<=(kD box t v).hi
 |0=>Rat.le_refl
 |v+1=>by rw[nO];exact Z1 _ _
def WC{a b:QS}(h:a.lo<=a.hi):Dh a (xN b 0)=a:=by
 have:xN b 0=⟨1,1⟩:=by unfold xN;simp[wU,wq]
 simp[Dh,wU,wq]
 congr 1<;>grind
def jh.at{L:List Tm}{p:List aZ}(h:jh L p){i:Nat}(hi:i<p.length):∃hl:i<L.length,L[i].tr=p[i]:=by
 have hl:i<L.length:=by rw[<-h.tr]at hi;simpa using hi
 refine⟨hl,?_⟩;have:(L.map Tm.tr)[i]'(d8)=L[i].tr:=I;rw[<-this];congr 1;exact h.tr
def jh.len{L:List Tm}{p:List aZ}(h:jh L p):L.length=p.length:=by rw[<-h.tr];simp
def aaB(p:L aZ)(box:L QS)(f:QF box.length p)(h1:1<=box.length)(h2:box.length<=25)(Z:∀s∈box,Dc s.lo 600/\Dc s.hi 600)(he:bE fP (box.map HG)=0){A:Nat}(hA:A<=1000)(X:∀s∈box,AR s A)(K:mG (gD box p)=0):
 ab 56 [c7 false p,.bm false 2 default XB box] (.de [XB<|gD box p,.i 0]):=by
 have hl:=f.len;obtain⟨a,P,J⟩:=Tl f E h1;have F0:=P.len;have d:ahb A 67 box p:=⟨X,λt b=>⟨(f.tm t b).dc.sz,(f.tm t b).len,(f.tm t b).le⟩⟩;have hs:∀v,v<=box.length->v*(12*A+1)<=25*12001:=λv y=>agW E E;have H:∀i,i<=p.length->i*(67+box.length*(12*A+1)+1)<=64*400000:=λi hi=>agW E (by have:=hs box.length<|abY _;omega);have F:∀s∈box.map HG,cE s.lo/\cE s.hi:=λs hs=>by obtain⟨q,K,rfl⟩:=ab4.1 hs;have:=Z q K;exact⟨by have:=td this.1;show(qt q.lo).length<_;omega,by have:=td this.2;show(qt q.hi).length<_;omega⟩
 have e1:ab 133 [.bm false 2 default XB box,.fn (.func 126) [] []] (.i 0):=by have:=Xz (box.map HG) F he (by simp;omega);refine this.same ?_ W;simp only[aE,SV.den,af9];rfl
 obtain⟨m,hm⟩:∃m,box.length=m+1:=⟨box.length-1,E⟩;have e0:ab 132 [c7 false p,.i box.length] (.i 0):=by rw[hm];exact Wj p (hm▸f) E
 refine cx func56 W<|cu W W e0 W<|cv W W (λg=>abK W g) λ_=>?_;refine cu W W e1 W<|cv W W (λg=>abK W g) λ_=>?_;refine cu W W (f_s 0) W<|cu W W (N8 ⟨⟨0,none⟩,⟨1,none⟩⟩) W<|cu W W J W<|r0 W<|aU (λz:Nat×Sp=>[(1,.bm false 2 default XB box),(4,.box true<|.agg [.s [],.s []]),(8,.box true<|GN z.2),(31,aj4 a),(32,.i a.length),(33,.i z.1)]) (λz=>z.1<=p.length/\w8 z.2 (gD box<|p.take z.1)) (λz=>p.length-z.1) (0,⟨⟨⟨0,none⟩,⟨1,none⟩⟩,⟨⟨0,none⟩,⟨1,none⟩⟩⟩) ⟨abX _,⟨si 0 gC,si 0 gC⟩⟩ ?_;rintro⟨i,s⟩⟨hi,c⟩;dsimp only at hi c⊢;have B:=II d.bx (λt b=>⟨(d.tm t b).1,(d.tm t b).2.2⟩) i hi;have z4:=H i hi;refine cv W W ?_ ?_<;>intro g;have l:i<p.length:=E;have ei:(i:Int).toNat=i:=E;obtain⟨O,et⟩:=P.at l;have eg:a.getD i default=a[i]:=az O;have b:=f.tm p[i] I;have h:a[i].pw=p[i].pw:=aal aZ.pw et;have N:=P.ok a[i] I;have T:bI.fq a[i].f=p[i].c:=aal aZ.c et;have e:cB a[i].f p[i].c:=by rw[<-T];exact N
 have E1:a[i].pw.length=box.length:=by rw[h];exact b.len
 refine fM W ?_;rw[ei,eg];refine b8 W (N8 a[i].f) W<|r0 W<|aU (λz:Nat×Sp=>[(1,.bm false 2 default XB box),(4,.box true<|.agg [.s [],.s []]),(8,.box true<|GN s),(11,.box true<|GN z.2),(31,aj4 a),(32,.i a.length),(33,.i i),(41,gm a[i].pw),(42,.i a[i].pw.length),(43,.i z.1)]) (λz=>z.1<=box.length/\w8 z.2 (kD box p[i] z.1)) (λz=>box.length-z.1) (0,⟨a[i].f,a[i].f⟩) ⟨abX _,e,e⟩ ?_;rintro⟨v,x⟩⟨y,w⟩;dsimp only at y w⊢;have V:=AT d.bx b.dc.sz b.le v y;have z2:=hs v y;refine cv W W ?_ ?_<;>intro g1;have D:v<box.length:=E;have ev:(v:Int).toNat=v:=E;have u:box.getD v default=box[v]:=az D;have o:=X box[v] I;have n:=Z box[v] I;have A0:0<=a[i].pw.getD v 0/\a[i].pw.getD v 0<=12:=by rw[h];exact b.le _<|aN (by have:=b.len;omega)
 obtain⟨k,Y⟩:∃k:Nat,a[i].pw.getD v 0=k:=⟨(a[i].pw.getD v 0).toNat,E⟩;have j:(p[i].pw.getD v 0).toNat=k:=by rw[<-h,Y];rfl
 refine fM W ?_;rw[ev,Y];refine cg W ?_ ?_<;>intro g2;refine fM W ?_;rw[ev,u];refine b9 W (acT box[v] n.1 n.2) W<|r0 W ?_;obtain⟨r,hr,M⟩:=ZJ (Wo box[v]) box[v] k (Wm box[v]) o E E;refine b9 W M W ?_;have E2:k*A<=12*1000:=agW E hA;obtain⟨S,R⟩:=Y3 x r (kD box p[i] v) (xN box[v] k) w hr V (o.pow k) E;refine ct W W S W<|xf W<|aL (v+1,Jk x r) ⟨ac,by dsimp only;rw[nO,u,j];exact R⟩;have C:k=0:=E;refine fM W<|aL (v+1,x) ⟨ac,?_⟩;dsimp only;rw[nO,j,C,WC<|HC _ _ _];exact w;have ev:v=box.length:=E;subst ev;obtain⟨S,R⟩:=acR s x (gD box<|p.take i) (kD box p[i] box.length) c w B V E;refine cu W W S W<|fM W<|aL (i+1,Wi s x) ⟨ac,?_⟩;dsimp only;rw[adY l,CI];exact R;have:i=p.length:=E;subst this;rw[aed]at c B;refine cu W W (adi s (gD box p) c B E K) W<|cq W W
section
variable{l:List (List Tm)}{ps:List (List aZ)}{L:List Tm}{p:List aZ}{K V:Nat}
def Hf(L:List Tm):SV:=aj1 L
structure ot(l:List (List Tm))(ps:List (List aZ)):Prop where
 tr:l.map (List.map Tm.tr)=ps
 ok:∀L∈l,∀t∈L,t.ok
def ot.len(h:ot l ps):l.length=ps.length:=by rw[<-h.tr];simp
def ot.at(h:ot l ps)(i:Nat):jh (l.getD i []) (ps.getD i []):=by by_cases hi:i<l.length;rw[az hi,az<|by rwa[<-h.len]];refine⟨?_,h.ok _ I⟩;have:(l.map<|List.map Tm.tr)[i]'(ce)=l[i].map Tm.tr:=I;rw[<-this];congr 1;exact h.tr;rw[ad8,agc E,ad8,agc<|by rw[<-h.len];omega];exact .nil
def ot.rep(n:Nat):ot (List.replicate n []) (List.replicate n []):=⟨I,λL b t a=>gn⟩
def ot.set(h:ot l ps){i:Nat}(c:jh L p):ot (l.set i L) (ps.set i p):=
 ⟨by rw[agJ,h.tr,c.tr],λM a t b=>by rcases ajs a with a|rfl;exact h.ok M a t b;exact c.ok t b⟩
structure eO(V K:Nat)(p:List aZ):Prop where
 S5:AM p
 nz:Nz p
 tok:∀u∈p,Dy V K u
 len:p.length<2^30
def eO.nil:eO V K []:=⟨List.Pairwise.nil,(ka),I,gC⟩
def eO.Y2(h:eO V K p)(d:jh L p)(k:0<V):∀t∈L,t.ok/\kV t.f K/\PwS t.pw/\t.pw.length=V:=λt i=>by
 have hm:t.tr∈p:=by rw[<-d.tr];grind
 obtain⟨a,b,c⟩:=h.tok _ hm;have j:t.pw.length=V:=a;exact⟨d.ok t i,eX (d.ok t i) c,⟨λe=>gn,b.1,λx g=>⟨(b.2 x g).1,by have:=(b.2 x g).2;omega⟩⟩,j⟩
def IA(h:jY p=0):(∀u∈p,u.pw.sum<=12)/\p.length<=64/\∀u∈p,ja u.c=0:=by unfold jY at h;split at h;cases h;rename_i a;split at h;cases h;split at h;cases h;rename_i c;exact⟨λu hu=>Int.not_lt.1 λg=>a ⟨u,hu,g⟩,E,λu hu=>ajY.1 λg=>c ⟨u,hu,g⟩⟩
def L4(l:List (List Tm))(ps:List (List aZ))(h:ot l ps)(s:∀p∈ps,eO V K p)(u:0<V)(v:K<2^32)(hl:ps.length<2^40)(o:bE jY ps=0):ab 129 [.bm false 1 default Hf l] (.i 0):=by
 have r:=h.len;refine cx func129 W<|r0 W<|aU (λi:Nat=>[(6,.bm false 1 default Hf l),(7,.i l.length),(8,.i i)]) (λi=>i<=ps.length) (λi=>ps.length-i) 0 (abX _) ?_;intro i hi;refine cv W W ?_ ?_<;>intro g;have m:i<ps.length:=E;have w:(i:Int).toNat=i:=E;have j:=h.at i;have hm:=aN (d:=([]:List aZ)) m;have c:=s _ hm;have k:=a8.1 o _ hm;have f:=c.Y2 j u;have y:=c.len;refine fM W ?_;rw[w,show l.getD i default=l.getD i []from W];generalize l.getD i []=L at j f;generalize ps.getD i []=P at*;have q:L.length=P.length:=by rw[<-j.tr];simp
 have b:∀t∈L,t.tr∈P:=λt a=>by rw[<-j.tr];exact ahC a
 obtain⟨n,z,x⟩:=IA k;have n:Ut L<=12:=by
  cases L with
  |nil=>simp[Ut]
  |cons t L=>exact n _<|b t I
 refine b8 W (adv L λt a=>(f t a).2.2.1) W<|cu W W (pB (decide (Ut L>12)) 4) W<|cu W W (pB (decide ((L.length:Int)>64)) 5) W<|cu W W (WX L (K:=K) (λt a=>⟨(f t a).1,(f t a).2.1,x _<|b t a⟩) v E) W<|b8 W (pB false 4) W<|cu W W (wH [if decide (Ut L>12)=true then 4 else 0,if decide ((L.length:Int)>64)=true then 5 else 0,0]<|show 3<2^60 from gC) W ?_;have e:bE id [if decide (Ut L>12)=true then(4:Int)else 0,if decide ((L.length:Int)>64)=true then 5 else 0,0]=0:=by rw[decide_eq_false E,decide_eq_false E];rfl
 rw[e];refine cv W W (λg=>abK W g) λ_=>?_;refine fM W<|aL (i+1) E;refine cq W W
def ac4(v:Nat)(b:v<1000):ab 130 [.i v] (.s<|122::b7 ((v:Int)+1)):=by refine enter func130 W W W W<|fM W<|b8 W (EF _) W<|b8 W (yE ⟨(v:Int)+1,none⟩ ⟨by grind,by grind⟩ (gJ<|by show((v:Int)+1).natAbs<_;omega) gC) W ?_;have a:=Go.Ai.jZ ((v:Int)+1)<|Go.Ai.eH E;refine r1 W (by simp[aj,nv];omega) ?_;exact bY W
def W5(p:fZ)(h:uC p)(a:gg p=0):ab 51 [bV p] (.de [.i<|aW p.aa,.i 0]):=by refine cx func51 W<|cu W W (o6 p h a) W<|cv W W (λg=>abK W g) λ_=>?_;refine cu W W (KA p h) W<|cq W W
end
end Go.Ai.Pg
section
namespace Go.Ai.Pg
variable{V K:Nat}
section
variable{L M:List Tm}{p q:List aZ}{c:Rat}
def eO.iV{l:List aZ}(h:uA V K l):eO V K (fA l):=by have hl:=λu hu=>(h.1 u hu).1;exact⟨(wm hl I List.Pairwise.nil).1,EG (ka),h.norm.1,h.norm.2⟩
def ye{α a:Type}{f g:α->List a}:∀{l:List α},(∀x∈l,f x=g x)->l.flatMap f=l.flatMap g
 |[],_=>rfl
 |x::l,h=>by rw[ai2,ai2,h x I,ye λy b=>h y<|by simp[b]]
def Z2(f:jh L p)(e:jh M q):(mulM L M).map Tm.tr=iH p q/\∀t∈mulM L M,t.ok:=by constructor;rw[<-f.tr,<-e.tr];unfold mulM iH;rw[List.map_flatMap,List.flatMap_map];refine ye λt d=>?_;rw[af9,af9];refine af3 λu hu=>?_;show(⟨bI.fq<|jW t.f u.f,_⟩:aZ)=⟨_,_⟩;rw[(fm (f.ok t d)<|e.ok u hu).fq];rfl;intro t d;obtain⟨a,i,h⟩:=af2.1 d;obtain⟨b,g,rfl⟩:=ab4.1 h;exact(fm (f.ok a i)<|e.ok b g).self
def WG(L M:List Tm):(mulM L M).length=L.length*M.length:=qU (λt=>I) L
def TO(b:jh L p)(a:jh M q)(e:eO V K p)(d:eO V K q)(hn:uA V K (iH p q))(f:0<V)(g:1<=K)(j:K<2^32):
 jh (kE<|mulM L M) (jG p q)/\ab 227 [aj1 L,aj1 M] (aj1<|kE<|mulM L M):=by
 obtain⟨i,k⟩:=Z2 b a;have h:=sP.iV k (by rwa[i]) f g (by rw[WG,b.len,a.len];exact ahn (agW (Nat.le_sub_one_of_lt e.len)<|Nat.le_sub_one_of_lt d.len) gC);have:=e.len;have:=d.len;exact⟨yT h i,(ae8 L M (e.Y2 b f) (d.Y2 a f) h j E (by rw[b.len];omega)<|by rw[a.len];omega).shr.same W W⟩
def Og(b:jh L p)(a:jh M q)(hn:uA V K (p++q))(i:0<V)(d:1<=K)(j:K<2^32)(hl:p.length+q.length<2^40):
 jh (kE<|L++M) (vQ p q)/\ab 294 [aj1 L,aj1 M] (aj1<|kE<|L++M):=by
 have f:(L++M).map Tm.tr=p++q:=by rw[adW,b.tr,a.tr]
 have e:=sP.iV (λt g=>by rcases aeM.1 g with h|h;exact b.ok t h;exact a.ok t h) (by rwa[f]) i d (by rw[ad9,b.len,a.len];omega);exact⟨yT e f,(adU Jx L M e j).shr.same W W⟩
def aaH(d:jh L p)(v:Nat)(f:∀u∈p,UO u.pw):(mM L v).map Tm.tr=oY p v/\∀t∈mM L v,t.ok:=by
 have e:∀t∈L,0<=t.pw.getD v 0/\t.pw.getD v 0<2^31:=λt b=>by have hm:=f t.tr (by rw[<-d.tr];grind);by_cases h:v<t.pw.length;exact hm.2 _<|aN h;simp_all
 have key:∀t∈L,cB _ (bI.fq t.f*((t.pw.getD v 0:Int):Rat)):=λt b=>fm (d.ok t b)<|si _ (by have:=e t b;omega);constructor;rw[<-d.tr];unfold mM oY;rw[List.map_flatMap,List.flatMap_map];refine ye λt b=>?_;show List.map _ (if 0<t.pw.getD v 0 then _ else _)=if 0<t.pw.getD v 0 then _ else _;split;simp only[ad3];show[(⟨bI.fq _,_⟩:aZ)]=_;rw[(key t b).fq];rfl;rfl;intro t b;obtain⟨a,g,h⟩:=af2.1 b;unfold CU at h;split at h;simp at h;subst h;exact(key a g).self;cases h
def XF(L:List Tm)(v:Nat):(mM L v).length<=L.length:=by
 induction L with
 |nil=>simp[mM]
 |cons t l a=>
  have:mM (t::l) v=CU v t++mM l v:=W;rw[this];have:(CU v t).length<=1:=by unfold CU;split<;>simp
  simp;omega
def aaI(a:jh L p)(b:eO V K p)(v:Nat)(g:v<V)(hn:uA V K (oY p v))(d:1<=K)(h:K<2^32):
 jh (kE<|mM L v) (uz p v)/\ab 293 [aj1 L,.i v] (aj1<|kE<|mM L v):=by
 obtain⟨f,k⟩:=aaH a v λu hu=>(b.tok u hu).2.1;have j:=XF L v;have l:=b.len;rw[a.len]at j;have e:=sP.iV k (by rwa[f]) E d E;exact⟨yT e f,(XE L v (b.Y2 a E) g e h E<|by rw[a.len];omega).shr.same W W⟩
def S8(hs:AM p)(b:Nz p):iU c p=if c=0 then[]else kP c p:=by
 by_cases h:c=0;rw[abx h];have:∀(l:List aZ),(∀t∈l,t.c=0)->l.foldl jK []=[]:=λl=>by
  induction l with
  |nil=>intro _;rfl
  |cons t l d=>rw[agf,jA];unfold nX;simp_all
 refine this _ λt a=>?_;unfold kP at a
 grind
 rw[abl h];refine tq ?_ λt a=>?_;exact ajc.2 hs;obtain⟨u,hu,rfl⟩:=ab4.1 a;exactλe=>(Rat.mul_eq_zero.1 e).elim h<|b u hu
def OW(a:Fr)(L:List Tm):List Tm:=if bI.fq a=0 then[]else sM a L
def VI(d:jh L p)(e:eO V K p)(g:0<V)(a:Fr)(f:cB a c){J:Nat}(h:Sz c J)(k:J<2^30)(j:K<2^32):
 jh (OW a L) (iU c p)/\ab 229 [aj1 L,eF a] (aj1<|OW a L):=by
 have l:=e.len;have i:=Zp a f.self L (eX f h) (λt b=>⟨(e.Y2 d g t b).1,(e.Y2 d g t b).2.1⟩) E (by rw[d.len];omega);refine⟨?_,i.shr.same W W⟩;unfold OW;rw[S8 e.S5 e.nz,f.fq];split;exact .nil;refine⟨?_,λt b=>?_⟩;rw[<-d.tr];unfold sM kP;rw[af9,af9];refine af3 λt b=>?_;show(⟨bI.fq _,t.pw⟩:aZ)=⟨c*bI.fq t.f,t.pw⟩;rw[(fm (d.ok t b) f).fq,Rat.mul_comm];obtain⟨u,hu,rfl⟩:=ab4.1 b;exact(fm (d.ok u hu) f).self
def KB(a:Fr)(b:cB a c)(n:Nat)(hn:n<1000):jh (cM a<|n+1) (cZ c n)/\ab 328 [eF a,.i (n+1:Nat)] (aj1<|cM a<|n+1):=by refine⟨?_,Qk a b.self _ E⟩;unfold cM cZ;rw[b.fq];split;exact .nil;exact⟨by simp[Tm.tr,b.fq],by simp;exact b.self⟩
def YT(v n:Nat)(b:v<=n)(hn:n<1000):jh (vM v<|n+1) (iN v n)/\ab 225 [.i v,.i (n+1:Nat)] (aj1<|vM v<|n+1):=by refine⟨?_,Ow v _ E E⟩;have a:=si 1 gC;exact⟨by simp[vM,iN,Tm.tr,a.fq],by simp[vM];exact a.self⟩
end
end Go.Ai.Pg
end
section
namespace Go.Ai.Pg
variable{V K:Nat}
def Yp{p:L aZ}(b:AM p)(a:Nz p):vQ p []=p:=by unfold vQ;rw[ahl];exact tq b a
def WD(q:L aZ):jG [] q=[]:=W
def o7{rs:L (L aZ)}{p:L aZ}(h:abc V K rs p):∀i,i<=rs.length->eO V K (jM rs p i)
 |0,_=>eO.iV h.d0
 |i+1,hi=>eO.iV<|h.a i E
def UM(l:List (List Tm))(L:List Tm):Nat->List Tm
 |0=>kE (mM L 0)
 |i+1=>if kE (mM L<|i+1)=[]then UM l L i else kE (UM l L i++kE (mulM (kE<|mM L<|i+1)<|l.getD i []))
structure YF(V K:Nat)(rs:List (List aZ))(p:List aZ):Prop where
 al:abc V K rs p
 gp:eO V K p
 gr:∀r∈rs,eO V K r
 len:rs.length<V
def YF.d{rs:L (L aZ)}{p:L aZ}(h:YF V K rs p):∀i,i<=rs.length->uA V K (oY p i)
 |0,_=>h.al.d0
 |i+1,hi=>h.al.d i E
def YF.step{L:List Tm}{p:List aZ}{l:List (List Tm)}{rs:List (List aZ)}(g:jh L p)(hl:ot l rs)(h:YF V K rs p)(f:V<1000)(a:1<=K)(b:K<2^32):
 ∀i,i<=rs.length->jh (UM l L i) (jM rs p i)
 |0,_=>(aaI g h.gp 0 (lb) h.al.d0 a b).1
 |i+1,hi=>by have k:=YF.step g hl h f a b i E;have d:=(aaI g h.gp _ (lb) (h.d _ hi) a b).1;have c:=o7 h.al i E;unfold UM jM;split;rename_i e;rw[e]at d;rw[<-d.tr];show jh _ (vQ _<|jG [] _);rwa[WD,Yp c.S5 c.nz];have hm:=TO d (hl.at i) (eO.iV<|h.d _ hi) (h.gr _<|aN E) (h.al.m i E) (lb) a b;refine(Og k hm.1 (h.al.a i E) (lb) a b ?_).1;have m:=c.len;have j:=(eO.iV<|h.al.m i E).len;have j:(jG _ _).length<2^30:=j;omega
end Go.Ai.Pg
end
section
namespace Go.Ai.Pg
variable{V K:Nat}
def afE(p:fZ)(m:Nat)(st:List Fr)(sh rt:List (List Tm))(a:jy Int):List SV:=[.i p.n,aj3 p.aa,gm p.ints,.i m,.bm true 4 f0 eF st,.bm true 1 default Hf sh,.bm true 1 default Hf rt,.mx a]
def UX(p:fZ)(m:Nat)(st:List Fr)(sh rt:List (List Tm))(a:jy Int):SV:=.box true<|.agg<|afE p m st sh rt a
def acj(f g:Fr):Fr:=w7 f ⟨kq g.n,g.d⟩
def ZZ{g:Fr}{q:Rat}(a:cB g q):cB ⟨kq g.n,g.d⟩ (-q):=⟨(dZ g.n a.n).2,a.d,by rw[(dZ g.n a.n).1,a.vn,aiu],by rw[a.vd,Rat.neg_den]⟩
def Zb{f g:Fr}{p q:Rat}(b:cB f p)(a:cB g q):cB (acj f g) (p-q):=by rw[ajC];exact Kk b<|ZZ a
structure StM(st:List Fr)(sq:List Rat)(L:Nat):Prop where
 ok:∀i,cB (st.getD i f0)<|sq.getD i 0
 sz:∀i,Sz (sq.getD i 0) L
def Om(st:List Fr)(sh:List (List Tm))(u:bw):Nat->List Tm×Fr
 |0=>([],dq<|bp u.k)
 |i+1=>(kE<|(Om st sh u i).1++OW (dq<|bp (u.ai.getD i default).dQ) (sh.getD (u.ai.getD i default).sh.toNat []),acj (Om st sh u i).2<|jW (dq<|bp (u.ai.getD i default).dQ)<|st.getD (u.ai.getD i default).sh.toNat f0)
def suU(m:Nat)(st:List Fr)(sh:List (List Tm))(u:bw):List Tm:=kE<|(Om st sh u u.ai.length).1++cM (Om st sh u u.ai.length).2 (m+1)
structure UN(V K:Nat)(sh:List (List Tm))(ps:List (List aZ)):Prop where
 m:ot sh ps
 g:∀p∈ps,eO V K p
def UN.at{sh:List (List Tm)}{ps:List (List aZ)}(h:UN V K sh ps)(i:Nat):eO V K (ps.getD i []):=by by_cases hi:i<ps.length;exact h.g _<|aN hi;rw[ad8,agc E];exact .nil
def vt{s:cj}(h:aV s=0):Sz (bp s) 67:=(BH h).sz
section
variable{L m:Nat}{st:List Fr}{sq:List Rat}{sh:List (List Tm)}{ps:List (List aZ)}{u:bw}{n:Int}
variable(hV:0<V)(hV2:V<1000)(hK1:1<=K)(hK:K<2^32)(hst:StM st sq L)(hL:L<2^30)(hsh:UN V K sh ps)(hu:gF n u)(h:GM V K L ps sq m u)
include hV hV2 hK1 hK hst hL hsh hu h
theorem Js:∀i,i<=u.ai.length->jh (Om st sh u i).1 (fg ps sq u i).1/\cB (Om st sh u i).2 (fg ps sq u i).2/\eO V K (fg ps sq u i).1
 |0,_=>⟨.nil,bt _,.nil⟩
 |i+1,hi=>by obtain⟨a1,a2,a3⟩:=Js i E;have hf:=hu.feed (u.ai.getD i default)<|aN E;have hs:=VI (hsh.m.at (u.ai.getD i default).sh.toNat) (hsh.at _) hV _ (bt _) (vt hf.2.2.1) gC hK;have h1:=a3.len;have h2:(iU _<|ps.getD (u.ai.getD i default).sh.toNat []).length<2^30:=(h.JA _<|aN E).norm.2;exact⟨(Og a1 hs.1 (h.sum i E) hV hK1 hK E).1,Zb a2<|fm (bt _)<|hst.ok _,eO.iV<|h.sum i E⟩
end
end Go.Ai.Pg
end
section
namespace Go.Ai.Pg
variable{V K:Nat}
def DJ(l:L (L Tm)):cz (l.map λp=>(Hf p).den)=true:=pf (by intro x a;obtain⟨p,-,rfl⟩:=ab4.1 a;rfl)
def KT{wh:Bool}{L:List Tm}{p:List aZ}{l:List (List Tm)}{rs:List (List aZ)}(t:jh L p)(hl:ot l rs)(h:YF V K rs p)(s:V<1000)(c:1<=K)(k:K<2^32):
 yw prog 228 1 wh (.bm true 1 default Hf l) [aj1 L] (aj1<|UM l L rs.length):=by
 have x:=hl.len;have u:=h.len;refine yw.of (sz:=1) (X:=l.map λp=>(Hf p).den) W (DJ l) W I λq v o d=>?_;rw[adZ]at d;refine ns (fn:=Tryz.f228) func228 W W W W W<|cu W W (aaI t h.gp 0 E h.al.d0 c k).2 W<|r0 W<|oA W W W (WV (P:=prog) W W underlying214 d) W<|r0 W<|aU (λi:Nat=>[(0,aj1 L),(5,aj1<|UM l L i),(11,.pv (·=q)),(12,.i l.length),(13,.i i),(500,.abs<|JL (.list .own 1 (l.map λp=>(Hf p).den)) q v o)]) (λi=>i<=rs.length) (λi=>rs.length-i) 0 (abX _) ?_;intro i hi;refine cv W W ?_ ?_<;>intro g;have b:i<rs.length:=E;have j:i<l.length:=E;have f:=aaI t h.gp (i+1) E (h.d (i+1) b) c k;have hm:=TO f.1 (hl.at i) (eO.iV<|h.d (i+1) b) (h.gr _<|aN E) (h.al.m i b) E c k;have z:=o7 h.al i hi;have w:=YF.step t hl h s c k i hi;have A:(jG (uz p<|i+1)<|rs.getD i []).length<2^30:=(eO.iV<|h.al.m i b).len;have r:=Og w hm.1 (h.al.a i b) E c k (by have:=z.len;omega);have n:l.getD i []=l[i]:=az j;rw[n]at hm r;refine r0 W<|oA W W W (PJ (P:=prog) (m:=i) W underlying214 (eQ hA W) j d) W<|afe W W (EY (y:=(Hf l[i]).den) (eQ hA W) (DJ l) gn W) W W<|fM W<|Hh (us:=[aj1 L,.i (i+1:Nat)]) W W U ⟨W,aal SV.i E,U⟩ f.2 W ?_;have a:UM l L (i+1)=if kE (mM L<|i+1)=[]then UM l L i else kE (UM l L i++kE (mulM (kE<|mM L<|i+1) l[i])):=by rw[<-n];rfl
 generalize kE (mM L<|i+1)=D at f hm r a;refine cv W W ?_ ?_<;>intro g2;rw[abl λe=>gn]at a;refine cu W W hm.2 W<|cu W W r.2 W ?_;rw[<-a];refine fM W<|aL (i+1) E;rw[abx<|ai7.1 E]at a;rw[<-a];refine fM W<|aL (i+1) E;have:i=rs.length:=E;subst this;refine r0 W<|LM [(4,aj1<|UM l L rs.length),(500,.abs<|JL (.list .own 1 (l.map λp=>(Hf p).den)) q v o)] ⟨ak,W,U⟩ W (aB.refl _) ⟨G,U⟩
end Go.Ai.Pg
end
section
namespace Go.Ai.Pg
variable{V K:Nat}
def adm(l:List Fr):cz (l.map λf=>(eF f).den)=true:=pf (by intro x a;obtain⟨p,-,rfl⟩:=ab4.1 a;rw[cO];rfl)
def PK{o:Oper}{t e:TypeId}{x i:Operand}{ti:TI}{n:Nat}{m:Int}{b:Value}(d:o.op=.indexAddr t x i)(c:prog.underlying t=some (.slice e))(a:cC prog e=some ti)(f:0<=m)(hm:m.toNat<n)(h:K4 n b):kf prog o [] [.pv (·=b),.i m] [] (.pv (·=adr b (m.toNat*ti.size))):=by have:=PJ d c a hm h;rwa[show((m.toNat:Nat):Int)=m from E]at this
abbrev xRd(p:fZ)(m:Nat)(st:List Fr)(sh rt:List (List Tm))(a:jy Int):List AV:=aE<|afE p m st sh rt a
section
variable{L m:Nat}{st:List Fr}{sq:List Rat}{sh:List (List Tm)}{ps:List (List aZ)}{u:bw}{n:Int}
def aex(H:0<V)(F:V<1000)(e:1<=K)(M:K<2^32)(a:StM st sq L)(hL:L<2^30)(d:UN V K sh ps)(hu:gF n u)(h:GM V K L ps sq m u)
 (p:fZ)(hm:m<900)(rt:List (List Tm))(O:jy Int)(A0:(st.length:Int)=n)(hl:(sh.length:Int)=n)(E2:u.ai.length<2^30):
 yw prog 291 0 true (UX p m st sh rt O) [fb u] (aj1<|suU m st sh u):=by
 obtain⟨b1,b2,b3⟩:=Js H F e M a hL d hu h u.ai.length<|abY _;have hc:=KB (Om st sh u u.ai.length).2 b2 m E;have E1:(cZ (fg ps sq u u.ai.length).2 m).length<=1:=i7
 have z:=Og b1 hc.1 h.fin H e M (by have:=b3.len;omega);refine yw.box W I λw S hd F1 o hr ho=>?_;obtain⟨b,cs,B,F',C⟩:=K5.of (xs:=xRd p m st sh rt O) hr ho;obtain⟨z1,r,v,T⟩:=PN (j:=4) (sz:=4) (X:=st.map λf=>(eF f).den) C W;obtain⟨z2,q,t,R⟩:=PN (j:=5) (sz:=1) (X:=sh.map λp=>(Hf p).den) C W;rw[adZ]at v t;obtain rfl:=B.e;rw[show(UX p m st sh rt O).den=.box true (.agg<|xRd p m st sh rt O)from gq];generalize N:JL (.box true<|.agg<|xRd p m st sh rt O) (.pointer<|some ⟨b,0,none⟩) F1 o=J;refine ns (fn:=Tryz.f291) func291 W W W W W<|cu W W (jd hu.k) W<|r0 W<|aU (λi:Nat=>[(0,.pv (·=.pointer (some ⟨b,0,none⟩))),(5,aj1 (Om st sh u i).1),(6,.box true<|eF (Om st sh u i).2),(14,aj5 u.ai),(15,.i u.ai.length),(16,.i i),(500,.abs J)]) (λi=>i<=u.ai.length) (λi=>u.ai.length-i) 0 (abX _) ?_;intro i hi;refine cv W W ?_ ?_<;>intro g;have x:i<u.ai.length:=E;have ei:(i:Int).toNat=i:=E;have P:u.ai.getD i default=u.ai[i]:=az x;have A:=hu.feed u.ai[i] I;obtain⟨a1,a2,a3⟩:=Js H F e M a hL d hu h i hi;have hs:=VI (d.m.at u.ai[i].sh.toNat) (d.at _) H (dq<|bp u.ai[i].dQ) (bt _) (vt A.2.2.1) gC M;have h2:(iU (bp u.ai[i].dQ)<|ps.getD u.ai[i].sh.toNat []).length<2^30:=(h.JA _ I).norm.2;have k:=h.sum i x;rw[P]at k;have D:=Og a1 hs.1 k H e M (by have:=a3.len;omega);have e1:(Om st sh u<|i+1).1=kE ((Om st sh u i).1++OW (dq<|bp u.ai[i].dQ) (sh.getD u.ai[i].sh.toNat [])):=by rw[<-P];rfl
 have e2:(Om st sh u<|i+1).2=acj (Om st sh u i).2 (jW (dq<|bp u.ai[i].dQ)<|st.getD u.ai[i].sh.toNat f0):=by rw[<-P];rfl
 have zf:=vt A.2.2.1;have zs:=a.sz u.ai[i].sh.toNat;have om:=fm (bt<|bp u.ai[i].dQ)<|a.ok u.ai[i].sh.toNat;have zm:=zf.mul zs;have s:=h.num i hi;have l:u.ai[i].sh.toNat<sh.length:=E;have c:u.ai[i].sh.toNat<st.length:=E;have Z:sh.getD u.ai[i].sh.toNat []=sh[u.ai[i].sh.toNat]:=az l;have Y:st.getD u.ai[i].sh.toNat f0=st[u.ai[i].sh.toNat]:=az c;refine fM W ?_;rw[ei,P];refine b8 W (jd A.2.2.1) W<|r0 W<|ry W W W (EJ W) W<|ry W W W (Fu (off:=5) W W (eQ hA W) gC) W<|zO (y:=.pv (·=z2)) W W (N▸Bi B (eQ hA W) W q R) W W<|r0 W<|ry W W W (PK W underlying214 (eQ hA W) A.1 l t) W<|zO (y:=Hf<|sh.getD u.ai[i].sh.toNat []) W W (N▸EX B q W (eQ hA W) (DJ sh) (by rw[ahB,ad7 l,Z];rfl) W) W W ?_;refine ct W W hs.2 W<|ct W W D.2 W ?_;rw[<-e1];refine GW W<|r0 W<|ry W W W (EJ W) W<|ry W W W (Fu (off:=4) W W (eQ hA W) gC) W<|zO (y:=.pv (·=z1)) W W (N▸Bi B (eQ hA W) W r T) W W<|r0 W<|ry W W W (PK W underlying168 (eQ hA W) A.1 c v) W<|zO (y:=eF<|st.getD u.ai[i].sh.toNat f0) W W (N▸EX B r W (eQ hA W) (adm st) (by rw[ahB,ad7 c,Y];rfl) W) W W ?_;refine ct W W (j5 (dq<|bp u.ai[i].dQ) (st.getD u.ai[i].sh.toNat f0) (bt _) (a.ok _) (eX (bt _) zf) (eX (a.ok _) zs) E) W<|ct W W (adl (Om st sh u i).2 (jW (dq<|bp u.ai[i].dQ)<|st.getD u.ai[i].sh.toNat f0) a2 om (eX a2 s) (eX om zm) E) W<|xf W<|aL (i+1) E ⟨G,G,⟨W,by rw[e2];exact aB.refl _⟩,G,G,G,W,U⟩;have:i=u.ai.length:=E;subst this;refine r0 W<|ry W W W (EJ W) W<|ry W W W (Fu (off:=3) W W (eQ hA W) gC) W<|zO (y:=.i m) W W (N▸Iu B (eQ hA W) W W W) W W<|fM W<|UY (us:=[eF (Om st sh u u.ai.length).2,.i (m+1:Nat)]) W W U ⟨aB.refl _,aal SV.i E,U⟩ hc.2 W<|ct W W z.2 W<|GW W<|LM [(4,aj1<|suU m st sh u),(500,.abs J)] ⟨ak,W,U⟩ W (aB.refl _) ⟨G,U⟩
end
end Go.Ai.Pg
end
section
namespace Go.Ai.Pg
variable{V K:Nat}
def QR(sh:L (L Tm))(u:bw):L Tm:=OW (dq<|bp (u.ai.getD 0 default).dQ)<|sh.getD (u.ai.getD 0 default).sh.toNat []
def OA(m:Nat)(x:L Tm)(cs:L cj):L Tm:=cs.foldr (λa s=>kE<|kE (mulM s x)++cM (dq<|bp a) (m+1)) []
def tbU(m:Nat)(sh:L (L Tm))(u:bw):L Tm:=OA m (QR sh u) u.c8
def Qr(q:Rat)(m:Nat):(cZ q m).length<=1:=i7
section
variable{m:Nat}{sh:L (L Tm)}{ps:L (L aZ)}{u:bw}{n:Int}
def Vh(c:0<V)(d:K<2^32)(a:UN V K sh ps)(hu:gF n u)(h:GF V K ps m u)(b:0<u.ai.length):
 (jh (QR sh u) (lY ps u)/\ab 229 [aj1<|sh.getD (u.ai.getD 0 default).sh.toNat [],eF<|dq<|bp (u.ai.getD 0 default).dQ] (aj1<|QR sh u))/\eO V K (lY ps u):=by
 exact⟨VI (a.m.at _) (a.at _) c _ (bt _) (vt (hu.feed _<|aN b).2.2.1) gC d,eO.iV h.JA⟩
def Jm(e:0<V)(c:1<=K)(f:K<2^32)(d:UN V K sh ps)(hu:gF n u)(h:GF V K ps m u)(g:0<u.ai.length)(hm:m<900):
 ∀k,k<=u.c8.length->jh (OA m (QR sh u)<|u.c8.drop<|u.c8.length-k) (jj m (lY ps u)<|(u.c8.map bp).drop<|u.c8.length-k)/\eO V K (jj m (lY ps u)<|(u.c8.map bp).drop<|u.c8.length-k)
 |0,_=>by rw[aiN,ahw,ahK I];exact⟨.nil,.nil⟩
 |k+1,s=>by obtain⟨r,q⟩:=Jm e c f d hu h g hm k E;obtain⟨⟨p,-⟩,o⟩:=Vh e f d hu h g;have hi:u.c8.length-(k+1)<u.c8.length:=E;have j:u.c8.length-(k+1)+1=u.c8.length-k:=E;have b:=h.mul _ hi;have a:=h.sum _ hi;rw[j]at b a;have hc:=KB (dq<|bp<|u.c8.getD (u.c8.length-(k+1)) []) (bt _) m E;have i:=Og (TO r p q o b e c f).1 hc.1 a e c f (by have:=(eO.iV b).len;have:=Qr (bp<|u.c8.getD (u.c8.length-(k+1)) []) m;unfold jG;omega);rw[ad5 hi,ad5 (l:=u.c8.map bp)<|ce,j,ah3];rw[az hi]at i a;exact⟨i.1,eO.iV a⟩
def aaL(x:0<V)(f:1<=K)(A:K<2^32)(q:UN V K sh ps)(hu:gF n u)(h:GF V K ps m u)(H:0<u.ai.length)(hm:m<900)(ht:u.c8.length<2^20)
 (p:fZ)(st:L Fr)(rt:L (L Tm))(g:jy Int)(hl:(sh.length:Int)=n)(A0:u.ai.length<2^30):
 yw prog 292 0 true (UX p m st sh rt g) [fb u] (aj1<|tbU m sh u):=by
 obtain⟨⟨b1,O⟩,b2⟩:=Vh x A q hu h H;have t:=hu.feed _<|aN (d:=default) H;refine yw.box W I λw S hd F1 o hr ho=>?_;obtain⟨b,cs,B,F',M⟩:=K5.of (xs:=xRd p m st sh rt g) hr ho;obtain⟨Y,i,r,D⟩:=PN (j:=5) (sz:=1) (X:=sh.map λp=>(Hf p).den) M W;rw[adZ]at r;obtain rfl:=B.e;rw[show(UX p m st sh rt g).den=.box true (.agg<|xRd p m st sh rt g)from gq];generalize N:JL (.box true<|.agg<|xRd p m st sh rt g) (.pointer<|some ⟨b,0,none⟩) F1 o=J;refine ns (fn:=Tryz.f292) func292 W W W W W<|r0 W<|oA W W W (adM (C:=(·=.pointer (some ⟨b,0,none⟩))) W) W<|r0 W<|ry W W W (Rm (C:=(·=.pointer (some ⟨b,0,none⟩))) W (eQ hA W) W<|by rintro _ rfl;rfl) W ?_;refine ry W W W (EJ W) W<|ry W W W (Fu (off:=5) W W (eQ hA W) gC) W<|zO (y:=.pv (·=Y)) W W (N▸Bi B (eQ hA W) W i D) W W<|fM W ?_;have l:(u.ai.getD 0 default).sh.toNat<sh.length:=E;have g:sh.getD (u.ai.getD 0 default).sh.toNat []=sh[(u.ai.getD 0 default).sh.toNat]:=az l;refine ry W W W (PK (m:=(u.ai.getD 0 default).sh) W underlying214 (eQ hA W) t.1 l r) W<|zO (y:=Hf<|sh.getD (u.ai.getD 0 default).sh.toNat []) W W (N▸EX B i W (eQ hA W) (DJ sh) gn W) W W<|fM W<|b9 W (jd (s:=(u.ai.getD 0 default).dQ) t.2.2.1) W<|ct W W O W<|GW W<|b8 W (Gu u.c8) W<|r0 W<|vm [(500,.abs J),(2,.box true (.pv (·=.pointer (some ⟨b,0,none⟩)))),(5,.box true<|aj1<|QR sh u),(6,.box true<|aj1 []),(29,.fn (.func 314) [] [.box false<|.strs false u.c8])]
  ⟨W,ak,ak,⟨W,W,.box<|.le W⟩,ak,U⟩<|O7 [500,6,5,2] [6,5,2] u.c8.length u.c8.length (λk=>[.i ((u.c8.length-1-k:Nat):Int),.s<|u.c8.getD (u.c8.length-1-k) []]) (λk=>[.abs J,.box true<|aj1<|OA m (QR sh u)<|u.c8.drop<|u.c8.length-k,.box true<|aj1<|QR sh u,.box true (.pv (·=.pointer (some ⟨b,0,none⟩)))]) (λ_=>true) (λ_=>none) (.de [])
  rfl W W W W func314 W W W W W W (λ_ _=>rfl) (λ_=>rfl) ?_ ?_ W (λ_ _ _=>rfl) (λC J Z=>C3 u.c8 E C J λv hv k F=>Z v hv k F λ_ _=>rfl) ?_ ?_ (λc h=>by cases h)
 intro k F z P;simp[adb,ahd,or_false]at P;rcases P with rfl|rfl|rfl|rfl<;>rfl;show[SV.abs J,.box true<|aj1<|OA m (QR sh u)<|u.c8.drop<|u.c8.length-0,.box true<|aj1<|QR sh u,.box true (.pv (·=.pointer (some ⟨b,0,none⟩)))]=_;rw[aiN,ahw];rfl;intro k F _;have hi:u.c8.length-1-k<u.c8.length:=E;have T:u.c8.length-1-k+1=u.c8.length-k:=E;obtain⟨a1,a2⟩:=Jm x f A q hu h H hm k E;have a:=h.mul _ hi;have e:=h.sum _ hi;rw[T]at a e;have hc:=KB (dq<|bp<|u.c8.getD (u.c8.length-1-k) []) (bt _) m E;have R:=TO a1 b1 a2 b2 a x f A;have h2:=Og R.1 hc.1 e x f A (by have:=(eO.iV a).len;have:=Qr (bp<|u.c8.getD (u.c8.length-1-k) []) m;unfold jG;omega);have e4:OA m (QR sh u) (u.c8.drop<|u.c8.length-(k+1))=kE (kE (mulM (OA m (QR sh u)<|u.c8.drop<|u.c8.length-k)<|QR sh u)++cM (dq<|bp<|u.c8.getD (u.c8.length-1-k) []) (m+1)):=by rw[show u.c8.length-(k+1)=u.c8.length-1-k from E,ad5 hi,T,az hi];rfl
 refine r0 W<|Ox<|ct W W R.2 W<|ct W W (jd<|hu.c8 _<|aN hi) W<|r0 W<|ry W W W (Rm (C:=(·=.pointer (some ⟨b,0,none⟩))) W (eQ hA W) W<|by rintro _ rfl;rfl) W ?_;refine ry W W W (EJ W) W<|ry W W W (Fu (off:=3) W W (eQ hA W) gC) W<|zO (y:=.i m) W W (N▸Iu B (eQ hA W) W W W) W W<|fM W<|UY (us:=[eF<|dq<|bp<|u.c8.getD (u.c8.length-1-k) [],.i (m+1:Nat)]) W W U ⟨aB.refl _,aal SV.i E,U⟩ hc.2 W<|ct W W h2.2 W ?_;rw[<-e4];refine GW W<|Wy [(500,.abs J),(501,.box true<|aj1<|OA m (QR sh u)<|u.c8.drop<|u.c8.length-(k+1)),(502,.box true<|aj1<|QR sh u),(503,.box true (.pv (·=.pointer (some ⟨b,0,none⟩))))] W W
  ⟨W,ak,ak,ak,U⟩ ⟨G,G,G,G,U⟩
 intro _;rw[aiQ,ahe];refine r0 W<|LM [(4,aj1<|tbU m sh u),(500,.abs J)] ⟨ak,W,U⟩ W (aB.refl _) ⟨G,U⟩
end
end Go.Ai.Pg
end
section
namespace Go.Ai.Pg
def yM(us:List bw)(n m:Nat):Nat->List (List Tm)
 |0=>(List.replicate n []).set 0 (vM 0 (m+1))
 |i+1=>if(us.getD i default).kind=bk then(yM us n m i).set (us.getD i default).out.toNat (vM (fN us<|i+1)<|m+1)else yM us n m i
def yz(us:List bw):Nat->jy Int
 |0=>[]
 |i+1=>if(us.getD i default).kind=bk then yz us i++[((i:Int),.i<|fN us i)]else yz us i
def QZ(us:List bw)(st:List Fr)(m:Nat)(sh:List (List Tm))(o:Int):List (List Tm):=
 if(us.getD o.toNat default).kind=jN then sh.set (us.getD o.toNat default).out.toNat (suU m st sh<|us.getD o.toNat default)
 else if(us.getD o.toNat default).kind=dO then sh.set (us.getD o.toNat default).out.toNat (tbU m sh<|us.getD o.toNat default)else sh
def kz(us:List bw)(n m k:Nat):List (List Tm):=((aA us).take k).foldl (QZ us (qu n us) m)<|yM us n m us.length
def O5(sh rt:List (List Tm))(m:Nat)(u:bw):List Tm:=OW (jW (dq<|bp (u.ai.getD 0 default).dQ)<|dq<|bp (u.ai.getD 1 default).dQ) (kE<|mulM (sh.getD (u.ai.getD 0 default).sh.toNat [])<|UM rt (sh.getD (u.ai.getD 1 default).sh.toNat []) m)
def Q8(us:List bw)(m:Nat)(sh rt:List (List Tm))(o:Int):List (List Tm):=if(us.getD o.toNat default).kind=bk then rt.set (fN us o.toNat) (O5 sh rt m<|us.getD o.toNat default)else rt
def pJ(us:List bw)(n m k:Nat):List (List Tm):=((aA us).take k).foldl (Q8 us m<|kz us n m (aA us).length)<|List.replicate m []
theorem OR{us:List bw}{n m k:Nat}(h:k<(aA us).length):kz us n m (k+1)=QZ us (qu n us) m (kz us n m k) (aA us)[k]:=by unfold kz;rw[adY h,ahm];rfl
theorem OY{us:List bw}{n m k:Nat}(h:k<(aA us).length):pJ us n m (k+1)=Q8 us m (kz us n m (aA us).length) (pJ us n m k) (aA us)[k]:=by unfold pJ;rw[adY h,ahm];rfl
theorem abt{a b:Int}(h:a≠b):Mk.eq a b=false:=by
 cases e:Mk.eq a b with
 |false=>rfl
 |true=>exact abK (Mk.iff.1 e) h
theorem Nc{c:jy Int}{k:Int}(h:∀q∈c,q.1≠k):rq k c=none/\∀x,Dd k x c=c++[(k,x)]:=by
 induction c with
 |nil=>exact⟨W,λ_=>rfl⟩
 |cons q c g=>have d:=abt λe=>h q I e.symm;obtain⟨a,b⟩:=g λf i=>h f (by simp[i]);constructor;show(match Mk.eq k q.1 with|true=>some q.2|false=>rq k c)=none;rwa[d];intro x;show(match Mk.eq k q.1 with|true=>(k,x)::c|false=>q::Dd k x c)=_;rw[d,b];rfl
theorem Ng{a:jy Int}{k:Int}{q:Int×SV}:rq k (a++[q])=match rq k a with|some x=>some x|none=>if k=q.1 then some q.2 else none:=by
 induction a with
 |nil=>show(match Mk.eq k q.1 with|true=>some q.2|false=>none)=_;by_cases h:k=q.1;rw[Mk.iff.2 h];simp[rq,h];rw[abt h];simp[rq,h]
 |cons p a b=>
  show(match Mk.eq k p.1 with|true=>some p.2|false=>rq k<|a++[q])=match(match Mk.eq k p.1 with|true=>some p.2|false=>rq k a)with|some x=>some x|none=>if k=q.1 then some q.2 else none
  grind
theorem DQ(us:List bw):∀i,∀q∈yz us i,0<=q.1/\q.1<i
 |0,q,h=>by cases h
 |i+1,q,h=>by
  rw[yz]at h;split at h;rcases aeM.1 h with h|h;have:=DQ us i q h;omega
  grind
  have:=DQ us i q h;omega
theorem RY(us:List bw):∀i,i<=us.length->(yz us i).length=fN us i
 |0,_=>rfl
 |i+1,hi=>by
  have a:=RY us i E;rw[yz,ny E]
  grind
theorem RZ(us:List bw){j:Nat}:∀i,j<i->rq (j:Int) (yz us i)=if(us.getD j default).kind=bk then some (.i<|fN us j)else none
 |0,h=>E
 |i+1,h=>by
  rw[yz];by_cases d:j=i;subst d;have a:rq (j:Int) _=none:=(Nc λq c=>by have:=DQ us j q c;omega).1;split;rw[Ng,a];simp;exact a;have b:=RZ us (j:=j) i E;split;rw[Ng]
  grind
  exact b
theorem QK(v m:Nat):AM (iN v m)/\Nz (iN v m):=⟨List.pairwise_singleton _ _,λt a=>by unfold iN at a;simp_all⟩
theorem yN{A:List aZ->Prop}{ps:List (List aZ)}{i:Nat}{p:List aZ}(h:∀q∈ps,A q)(b:A p):∀q∈ps.set i p,A q:=λq a=>by grind
theorem OT(us:List bw)(n m:Nat)(hm:m<900)(hc:∀i,fN us i<=m):∀i,ot (yM us n m i) (DA us n m i)/\∀p∈DA us n m i,AM p/\Nz p
 |0=>⟨(ot.rep n).set (YT 0 m E E).1,yN (λq c=>by rw[(ajW.1 c).2];exact⟨List.Pairwise.nil,ka⟩)<|QK _ _⟩
 |i+1=>by obtain⟨a,b⟩:=OT us n m hm hc i;rw[yM,DA];split;exact⟨a.set (YT _ m (hc _) E).1,yN b<|QK _ _⟩;exact⟨a,b⟩
theorem StM.mono{st:List Fr}{sq:List Rat}{L M:Nat}(h:StM st sq L)(a:L<=M):StM st sq M:=⟨h.ok,λi=>(h.sz i).mono a⟩
section
variable{V K L m:Nat}{st:List Fr}{sq:List Rat}{sh:List (List Tm)}{ps:List (List aZ)}{u:bw}{n:Int}
theorem ack(e:0<V)(d:V<1000)(a:1<=K)(f:K<2^32)(b:StM st sq L)(i:L<2^30)(c:UN V K sh ps)(hu:gF n u)(h:GM V K L ps sq m u)(hm:m<900):jh (suU m st sh u) (Dw ps sq m u)/\eO V K (Dw ps sq m u):=by obtain⟨l,k,j⟩:=Js e d a f b i c hu h _ .refl;have hc:=KB (Om st sh u _).2 k m E;have g:=Qr (fg ps sq u u.ai.length).2 m;exact⟨(Og l hc.1 h.fin e a f (by have:=j.len;omega)).1,eO.iV h.fin⟩
theorem acg(d:0<V)(b:1<=K)(e:K<2^32)(a:UN V K sh ps)(hu:gF n u)(h:GF V K ps m u)(c:0<u.ai.length)(hm:m<900):jh (tbU m sh u) (Vl ps m u)/\eO V K (Vl ps m u):=by have:=Jm d b e a hu h c hm _ .refl;rwa[aiQ]at this
theorem V3{rt:List (List Tm)}{rs:List (List aZ)}(l:0<V)(f:V<1000)(c:1<=K)(g:K<2^32)(a:UN V K sh ps)(e:ot rt rs)(p:∀r∈rs,eO V K r)(b:rs.length=m)(o:m<V)(hu:gF n u)(h:GH V K ps rs u)(q:1<u.ai.length):
 jh (O5 sh rt m u) (yW ps rs u)/\eO V K (yW ps rs u):=by
 have f0:=(hu.feed _<|aN (d:=default) (i:=0) E).2.2.1;have j:YF V K rs (ps.getD (u.ai.getD 1 default).sh.toNat []):=⟨h.al,a.at _,p,E⟩;have s:=YF.step (a.m.at (u.ai.getD 1 default).sh.toNat) e j f c g rs.length .refl;rw[b]at s;have k:jh (UM rt (sh.getD (u.ai.getD 1 default).sh.toNat []) m) (ke rs<|ps.getD (u.ai.getD 1 default).sh.toNat []):=by unfold ke;rwa[b]
 have g1:=eO.iV h.mul;exact⟨(VI (TO (a.m.at (u.ai.getD 0 default).sh.toNat) k (a.at _) (o7 h.al rs.length .refl) h.mul l c g).1 g1 l _ (fm (bt _)<|bt _) ((vt f0).mul<|vt<|(hu.feed _<|aN (d:=default) (i:=1) q).2.2.1) gC g).1,eO.iV h.JA⟩
end
abbrev kR:Nat:=1012*wB+2
set_option linter.unusedSectionVars false
section
variable{us:List bw}{n m:Nat}(hd:bQ us n)(hc:m=aW us)
include hd hc
theorem XR(i:Nat):fN us i<=m:=hc▸DS us i
theorem TX:m<9:=by have:=hd.mle hc;omega
theorem stM:StM (qu n us) (bC n us) 67:=by
 have a:=λu hu=>(hd.val u hu).k;have b:=s6 (n:=n) (us:=us) (A:=λq=>Sz q 67) (qF.mono gC) λu hu=>eU<|a u hu;refine⟨λi=>?_,λi=>?_⟩;by_cases h:i<n;exact(abS a i h).1;rw[ad8,agc<|by rw[AH];omega,ad8,agc<|by rw[pH];omega];exact Xq;by_cases h:i<n;exact b _<|aN<|by rwa[pH]
 rw[ad8,agc<|by rw[pH];omega];exact qF.mono gC
theorem YY{u:bw}(hu:u∈us):0<u.ai.length/\u.ai.length<2^30/\(u.kind=bk->1<u.ai.length)/\u.c8.length<2^20:=by
 have h:=(hd.val u hu).uI;unfold jO at h;have b:1<=J2 u/\(u.kind=bk->J2 u=2):=by unfold J2;split<;>simp_all
 have a:Bq u<=8:=by unfold Bq;omega
 grind
theorem abU{k:Nat}(h:k<us.length)(a:(au us k).kind=jN):GM (m+1) kR (1012*2+2) (fB us n m k) (bC n us) m (au us k):=by
 have b:k<(aA us).length:=by rwa[hd.iP]
 have:=(hd.read hc).add k b;unfold au at a⊢;simp_all
theorem abe{k:Nat}(h:k<us.length)(a:(au us k).kind=dO):GF (m+1) kR (fB us n m k) m (au us k):=by
 have b:k<(aA us).length:=by rwa[hd.iP]
 have:=(hd.read hc).c8 k b;unfold au at a⊢;simp_all
theorem V4{k:Nat}(h:k<us.length)(a:(au us k).kind=bk):GH (m+1) kR (mb us n m) (fI us n m k) (au us k):=by
 have b:k<(aA us).length:=by rwa[hd.iP]
 have:=(hd.read hc).aeW k b;unfold au at a⊢;simp_all
theorem LF{k:Nat}(h:k<us.length):kz us n m (k+1)=if(au us k).kind=jN then(kz us n m k).set (au us k).out.toNat (suU m (qu n us) (kz us n m k)<|au us k)else if(au us k).kind=dO then(kz us n m k).set (au us k).out.toNat (tbU m (kz us n m k)<|au us k)else kz us n m k:=by
 have a:k<(aA us).length:=by rwa[hd.iP]
 rw[OR a];unfold au;rw[az a];rfl
theorem Zk{k:Nat}(h:k<us.length):fB us n m (k+1)=if(au us k).kind=jN then(fB us n m k).set (au us k).out.toNat (Dw (fB us n m k) (bC n us) m<|au us k)else if(au us k).kind=dO then(fB us n m k).set (au us k).out.toNat (Vl (fB us n m k) m<|au us k)else fB us n m k:=by
 have a:k<(aA us).length:=by rwa[hd.iP]
 rw[mY a];unfold au;rw[az a];rfl
theorem shG:∀k,k<=us.length->UN (m+1) kR (kz us n m k) (fB us n m k)
 |0,_=>by have d:=OT us n m (by have:=TX hd hc;omega) (XR hd hc) us.length;have e:=(hd.read hc).sh 0 (abX _);exact⟨d.1,λp c=>⟨(d.2 p c).1,(d.2 p c).2,(e p c).1,(e p c).2⟩⟩
 |k+1,i=>by have b:=shG k E;have a:k<us.length:=E;have hu:=hd.val _<|hd.mem a;have hm:=TX hd hc;obtain⟨h,-,-,-⟩:=YY hd hc<|hd.mem a;rw[LF hd hc a,Zk hd hc a];split;rename_i g;have:=ack E E gC gC ((stM hd hc).mono gC) gC b hu (abU hd hc a g) E;exact⟨b.m.set this.1,yN b.g this.2⟩;split;rename_i f;have:=acg E gC gC b hu (abe hd hc a f) h E;exact⟨b.m.set this.1,yN b.g this.2⟩;exact b
theorem LO{k:Nat}(h:k<us.length):pJ us n m (k+1)=if(au us k).kind=bk then(pJ us n m k).set (fN us ((aA us).getD k 0).toNat) (O5 (kz us n m us.length) (pJ us n m k) m<|au us k)else pJ us n m k:=by
 have a:k<(aA us).length:=by rwa[hd.iP]
 rw[OY a,hd.iP];unfold au;rw[az a];rfl
theorem Zv{k:Nat}(h:k<us.length):fI us n m (k+1)=if(au us k).kind=bk then(fI us n m k).set (fN us ((aA us).getD k 0).toNat) (yW (mb us n m) (fI us n m k)<|au us k)else fI us n m k:=by
 have a:k<(aA us).length:=by rwa[hd.iP]
 rw[xJ a];unfold au;rw[az a];rfl
theorem Zm:UN (m+1) kR (kz us n m us.length) (mb us n m):=by have:=shG hd hc _ .refl;unfold mb;rwa[hd.iP]
theorem rtG:∀k,k<=us.length->UN (m+1) kR (pJ us n m k) (fI us n m k)
 |0,_=>⟨ot.rep m,λp d=>by rw[(ajW.1 d).2];exact .nil⟩
 |k+1,f=>by have b:=rtG k E;have a:k<us.length:=E;have hm:=TX hd hc;obtain⟨-,-,e,-⟩:=YY hd hc<|hd.mem a;rw[LO hd hc a,Zv hd hc a];split;rename_i c;have:=V3 E E gC gC (Zm hd hc) b.m b.g (kn us n m k) E (hd.val _<|hd.mem a) (V4 hd hc a c)<|e c;exact⟨b.m.set this.1,yN b.g this.2⟩;exact b
theorem Jy(k:Nat)(a:k<=us.length):(kz us n m k).length=n:=by rw[(shG hd hc k a).m.len,ic]
theorem Q9(k:Nat)(a:k<=us.length):(pJ us n m k).length=m:=by rw[(rtG hd hc k a).m.len,kn]
end
end Go.Ai.Pg
end
namespace Go.Ai.Pg
def ag8{x y b c d e f g h j i a:SV}(l:AO f j)(k:AO g i)(hh:AO h a)(m:aB x y:=by exact W):AO (.box true<|.agg [x,b,c,d,e,f,g,h]) (.box true<|.agg [y,b,c,d,e,j,i,a]):=
 .box (.agg<|.cons (.le m)<|.cons (.refl _)<|.cons (.refl _)<|.cons (.refl _)<|.cons (.refl _)<|.cons l<|.cons k<|.cons hh .nil)
def acG(p:fZ)(P:uC p)(n m:Nat)(hn:p.n=n)(a:bQ p.aa n)(hc:m=aW p.aa):
 ab 127 [bV p] (UX p m (qu n p.aa) (kz p.aa n m p.aa.length) (pJ p.aa n m p.aa.length)<|yz p.aa p.aa.length):=by
 have G4:=TX a hc;have G3:=a.n0;have G2:=a.n9;have F3:=a.len;have O:∀u∈p.aa,gF p.n u:=by rw[hn];exact a.val
 have A:=XR a hc;refine cx func127 W<|ct W W (KA p P) W<|ct W W (Sw p P n hn E E O) W<|fM W<|ry W W W (tz (κ:=Int) W) W<|kno 15 W aP (am) ?_;refine vm [(1,.box true<|bV p),(3,.bH 30 0 0 []),(30,UX p m (qu n p.aa) (List.replicate n []) (List.replicate m []) [])]
  ⟨ak,mv,⟨W,W,.box<|.agg<|.cons (.le W)<|.cons (.refl _)<|.cons (.refl _)<|.cons (.le<|aj8 SV.i<|by rw[hc])<|.cons (.refl _)<|.cons (.row ?_)<|.cons (.row ?_)<|.cons (.refl _) .nil⟩,U⟩ ?_
 show mS (List.replicate p.n.toNat .nil) (List.map Hf<|List.replicate n []);rw[aiv,show p.n.toNat=n from E];exact mS.rep (x:=.nil) (y:=Hf []) (.le W) n;show mS (List.replicate ((aW p.aa:Nat):Int).toNat .nil) (List.map Hf<|List.replicate m []);rw[aiv,show((aW p.aa:Nat):Int).toNat=m from E];exact mS.rep (x:=.nil) (y:=Hf []) (.le W) m;refine fM W<|UY (us:=[.i 0,.i (m+1:Nat)]) W W U ⟨W,aal SV.i E,U⟩ (YT 0 m E E).2 W<|xf W ?_ (by simp only[aj,abu,ajd];omega);refine vm [(1,.box true<|bV p),(3,.bH 30 0 0 []),(30,UX p m (qu n p.aa) (yM p.aa n m 0) (List.replicate m []) []),(51,aj3 p.aa),(52,.i p.aa.length),(53,.i 0)]
  ⟨ak,mv,⟨W,W,ag8 (.row ?_) (.refl _)<|.refl _⟩,ak,ak,ak,U⟩ ?_
 rw[yM,agJ];exact mS.refl _;refine aU (λi:Nat=>[(1,.box true<|bV p),(3,.bH 30 0 0 []),(30,UX p m (qu n p.aa) (yM p.aa n m i) (List.replicate m [])<|yz p.aa i),(51,aj3 p.aa),(52,.i p.aa.length),(53,.i i)]) (λi=>i<=p.aa.length) (λi=>p.aa.length-i) 0 (abX _) ?_;intro i hi;have t:(yM p.aa n m i).length=n:=by rw[(OT p.aa n m E A i).1.len,oL]
 refine cv W W ?_ ?_<;>intro g;have F:i<p.aa.length:=E;have ei:(i:Int).toNat=i:=E;have M:p.aa.getD i default=p.aa[i]:=az F;have hu:=O p.aa[i] I;have S:=hu.out;refine fM W ?_;rw[ei,M];refine cg W ?_ ?_<;>intro B;have Y:=RY p.aa i E;have E1:=A<|i+1;have H1:fN p.aa (i+1)=fN p.aa i+1:=by rw[ny F,abx<|show p.aa[i].kind=bk from B]
 refine r0 W<|ae3 (.i (yz p.aa i).length) W W W (WW W W underlying215) W<|ry W W W (kf.at (y:=.mx<|yz p.aa i) (y':=.mx<|Dd (i:Int) (.i (yz p.aa i).length)<|yz p.aa i) (X':=UX p m (qu n p.aa) (yM p.aa n m i) (List.replicate m [])<|Dd (i:Int) (.i (yz p.aa i).length)<|yz p.aa i) I W W W W W W W W (λ_ _ _ _ h=>h.1)<|te (κ:=Int) (k:=(i:Int)) (x:=.i (yz p.aa i).length) (.inr W) W underlying215 underlying3 W W) W ?_;rw[(Nc λq hq=>by have:=DQ p.aa i q hq;omega).2];refine GW W<|r0 W ?_;have Z:(yz p.aa i++[((i:Int),SV.i (yz p.aa i).length)]).length=fN p.aa (i+1):=gn;refine ae3 (.i (yz p.aa i++[((i:Int),SV.i (yz p.aa i).length)]).length) W W W (WW W W underlying215) W ?_;rw[Z];refine fM W<|UY (us:=[.i<|fN p.aa<|i+1,.i (m+1:Nat)]) W W U ⟨W,aal SV.i E,U⟩ (YT (fN p.aa<|i+1) m E1 E).2 W<|xf W<|kL (i+1) E E ⟨ak,mv,⟨W,W,ag8 (.row ?_) (.refl _)<|.le ?_⟩,ak,ak,⟨W,W,.le<|aj8 SV.i E⟩,U⟩;rw[yM,M,abx<|show p.aa[i].kind=bk from B,agJ];exact mS.refl _;rw[yz,M,abx<|show p.aa[i].kind=bk from B,Y];exact aB.refl _;refine fM W ?_;have N:yM p.aa n m (i+1)=yM p.aa n m i:=by rw[yM,M,abl<|show¬p.aa[i].kind=bk from B]
 have e2:yz p.aa (i+1)=yz p.aa i:=by rw[yz,M,abl<|show¬p.aa[i].kind=bk from B]
 refine aL (i+1) E ⟨G,mv,⟨W,by rw[N,e2];exact aB.refl _⟩,G,G,⟨W,aj8 SV.i E⟩,U⟩;have:i=p.aa.length:=E;subst this;have S:∀u∈p.aa,1<=u.out/\u.out<n:=λu hu=>hn▸(O u hu).out;have H:=IP (n:=n) (us:=p.aa) E S;have E2:=H.2<|H.1.2 a.dr;have G0:(aA p.aa).length=p.aa.length:=a.iP;refine cu W W (IQ p P n hn E E S) W ?_;rw[E2];refine cu W W (Ri p P n hn O E) W ?_;rw[abx E];refine r0 W<|aU (λk:Nat=>[(1,.box true<|bV p),(3,.bH 30 0 0 []),(8,gu<|aA p.aa),(30,UX p m (qu n p.aa) (kz p.aa n m k) (List.replicate m [])<|yz p.aa p.aa.length),(101,.bH 8 0 0 []),(102,.i (aA p.aa).length),(103,.i k)]) (λk=>k<=p.aa.length) (λk=>p.aa.length-k) 0 (abX _) ?_;intro k D;have t:=Jy a hc k D;have f:=shG a hc k D;refine cv W W ?_ ?_<;>intro g;have c:k<p.aa.length:=E;have ek:(k:Int).toNat=k:=E;have z:=a.idx c;have v:=a.mem c;obtain⟨f1,f2,f3,f4⟩:=YY a hc v;have hu:=a.val _ v;have G1:=hu.out;have T:0<=(aA p.aa).getD k 0:=zaO
 refine fM W ?_;have R:p.aa.getD ((aA p.aa).getD k 0).toNat default=au p.aa k:=W;rw[ek,R];have o:=LF a hc c;refine b9 W J6 W<|r0 W ?_;rcases hu.kind with b|b|b;refine Dj kI W W W (mE (k:=(au p.aa k).kind) (x:=kI) underlying309 underlying9 (by rw[b];exact Fj) false) W ?_;have N:kz p.aa n m (k+1)=kz p.aa n m k:=by rw[o,abl<|by rw[b];decide,abl<|by rw[b];decide]
 refine xf W<|aL (k+1) E ⟨G,mv,G,⟨W,by rw[N];exact aB.refl _⟩,mv,G,⟨W,aj8 SV.i E⟩,U⟩;refine Dj kA W W W (mE (k:=(au p.aa k).kind) (x:=kA) underlying309 underlying9 (by rw[b];exact Fk) false) W ?_;refine GW W<|cqd 0 W W (aex (V:=m+1) (K:=kR) (L:=1012*2+2) E E gC gC ((stM a hc).mono gC) gC f hu (abU a hc c b) p E (List.replicate m []) (yz p.aa p.aa.length) (by rw[AH]) (by rw[t]) f2) W<|xf W<|kL (k+1) E E ⟨ak,mv,ak,⟨W,W,ag8 (.row ?_) (.refl _)<|.refl _⟩,mv,ak,⟨W,W,.le<|aj8 SV.i E⟩,U⟩;rw[o,abx b,agJ];exact mS.refl _;refine Dj kT W W W (mE (k:=(au p.aa k).kind) (x:=kT) underlying309 underlying9 (by rw[b];exact Fh) false) W ?_;refine GW W<|cqd 0 W W (aaL (V:=m+1) (K:=kR) E gC gC f hu (abe a hc c b) f1 E f4 p (qu n p.aa) (List.replicate m []) (yz p.aa p.aa.length) (by rw[t]) f2) W<|xf W<|kL (k+1) E E ⟨ak,mv,ak,⟨W,W,ag8 (.row ?_) (.refl _)<|.refl _⟩,mv,ak,⟨W,W,.le<|aj8 SV.i E⟩,U⟩;rw[o,abl<|by rw[b];decide,abx b,agJ];exact mS.refl _;have:k=p.aa.length:=E;subst this;refine r0 W<|aU (λk:Nat=>[(1,.box true<|bV p),(3,.bH 30 0 0 []),(8,gu<|aA p.aa),(30,UX p m (qu n p.aa) (kz p.aa n m p.aa.length) (pJ p.aa n m k)<|yz p.aa p.aa.length),(131,.bH 8 0 0 []),(132,.i (aA p.aa).length),(133,.i k)]) (λk=>k<=p.aa.length) (λk=>p.aa.length-k) 0 (abX _) ?_;intro k D;have F4:=Q9 a hc k D;have w:=rtG a hc k D;have f:=Zm a hc;refine cv W W ?_ ?_<;>intro g;have c:k<p.aa.length:=E;have ek:(k:Int).toNat=k:=E;have z:=a.idx c;have v:=a.mem c;obtain⟨f1,f2,f3,f4⟩:=YY a hc v;have hu:=a.val _ v;have T:0<=(aA p.aa).getD k 0:=zaO
 have o:=LO a hc c;have R:p.aa.getD ((aA p.aa).getD k 0).toNat default=au p.aa k:=W;have ex:=RZ p.aa (j:=((aA p.aa).getD k 0).toNat) p.aa.length z;rw[show((((aA p.aa).getD k 0).toNat:Nat):Int)=(aA p.aa).getD k 0 from E,R]at ex;refine fM W ?_;rw[ek,R];by_cases r:(au p.aa k).kind=bk;rw[abx r]at ex;refine Z7 (.de [.i<|fN p.aa ((aA p.aa).getD k 0).toNat,.b true]) W W W (mE (κ:=Int) (k:=(aA p.aa).getD k 0) (x:=.i<|fN p.aa ((aA p.aa).getD k 0).toNat) underlying215 underlying3 ex true) W ?_;have X:=f3 r;have A0:=A<|((aA p.aa).getD k 0).toNat+1;rw[ny z,abx<|by grind]at A0;have g0:=hu.feed _<|aN (d:=default) (i:=0) f1;have g1:=hu.feed _<|aN (d:=default) (i:=1) X;have e:=V4 a hc c r;have t:=Jy a hc p.aa.length<|abY _;have J:YF (m+1) kR (fI p.aa n m k) ((mb p.aa n m).getD ((au p.aa k).ai.getD 1 default).sh.toNat []):=⟨e.al,f.at _,w.g,by rw[kn];omega⟩;refine fM W<|b9 W (jd (s:=((au p.aa k).ai.getD 0 default).dQ) g0.2.2.1) W<|fM W<|b9 W (jd (s:=((au p.aa k).ai.getD 1 default).dQ) g1.2.2.1) W<|r0 W ?_;have z0:=vt g0.2.2.1;have z1:=vt g1.2.2.1;refine b9 W (j5 _ _ (bt _) (bt _) (eX (bt _) z0) (eX (bt _) z1) gC) W ?_;have F0:Int.toNat 1=1:=W;have F1:Int.toNat 0=0:=W;refine xf W ?_ (by simp only[aj,abu,t,F0,F1];omega);have a1:=YF.step (f.m.at ((au p.aa k).ai.getD 1 default).sh.toNat) w.m J E gC gC (fI p.aa n m k).length<|abY _;have a2:=o7 e.al (fI p.aa n m k).length<|abY _;have aq:=KT (wh:=false) (f.m.at ((au p.aa k).ai.getD 1 default).sh.toNat) w.m J E gC gC;have C:=kn p.aa n m k;rw[C]at a1 aq;have F2:jh (UM (pJ p.aa n m k) ((kz p.aa n m p.aa.length).getD ((au p.aa k).ai.getD 1 default).sh.toNat []) m) (ke (fI p.aa n m k)<|(mb p.aa n m).getD ((au p.aa k).ai.getD 1 default).sh.toNat []):=by unfold ke;rw[C];exact a1
 have m1:=TO (f.m.at ((au p.aa k).ai.getD 0 default).sh.toNat) F2 (f.at _) a2 e.mul E gC gC;have s1:=VI m1.1 (eO.iV e.mul) E _ (fm (bt<|bp ((au p.aa k).ai.getD 0 default).dQ)<|bt<|bp ((au p.aa k).ai.getD 1 default).dQ) (z0.mul z1) gC gC;refine cqd 1 W W aq W<|ct W W m1.2 W<|ct W W s1.2 W<|xf W<|kL (k+1) E E ⟨ak,mv,ak,⟨W,W,ag8 (.refl _) (.row ?_)<|.refl _⟩,mv,ak,⟨W,W,.le<|aj8 SV.i E⟩,U⟩;rw[o,abx r,agJ];exact mS.refl _;rw[abl r]at ex;have N:pJ p.aa n m (k+1)=pJ p.aa n m k:=by rw[o,abl r]
 obtain⟨i,i1,i2⟩:∃i,prog.info? 3=some i/\i.zero=some (.int .i64 0):=⟨_,W,W⟩;refine Z7 (.de [.i 0,.b false]) W W W (Cu (κ:=Int) (k:=(aA p.aa).getD k 0) (x:=.i 0) underlying215 underlying3 ex i1 i2 (λ_ _=>(D4 W).1) true) W<|fM W<|aL (k+1) E ⟨G,mv,G,⟨W,by rw[N];exact aB.refl _⟩,mv,G,⟨W,aj8 SV.i E⟩,U⟩;have:k=p.aa.length:=E;subst this;refine cq W W
def rdE(us:L bw)(n m:Nat):Int:=bE id [bE jY<|mb us n m,bE jY<|A7 us n m]
def rB(p:fZ)(n m:Nat)(a b:L (L Tm)):L (Nat×SV):=[(2,.box true<|.agg [.nil,.nil,.nil]),(23,UX p m (qu n p.aa) a b<|yz p.aa p.aa.length)]
def rC(p:fZ)(n m:Nat)(a b:L (L Tm)):L (Nat×SV):=(1,.box true<|bV p)::(6,.bH 23 0 0 [])::rB p n m a b
def rD(p:fZ)(n m:Nat)(b a:L (L Tm))(k:Nat):L (Nat×SV):=(43,.bH 23 0 0 [.deref,.at 6 none])::(44,.i a.length)::(45,.i k)::(8,.box true<|.agg [.strs true<|(List.range k).map λ(j:Nat)=>122::b7 ((j:Int)+1),oE true<|(A7 p.aa n m).take k,.nil])::rC p n m b a
def rE(p:fZ)(n m:Nat)(a b:L (L Tm))(i:Nat):L (Nat×SV):=(66,aj3 p.aa)::(67,.i p.aa.length)::(68,.i i)::(8,.box true<|CM ⟨lh p.aa p.aa.length,A7 p.aa n m,kX p.aa i⟩)::rC p n m a b
def rG(p:fZ)(n m:Nat)(a b:L (L Tm))(i:Nat):L (Nat×SV):=(89,.bH 23 0 0 [.deref,.at 5 none])::(90,.i a.length)::(91,.i i)::(13,oE true<|(mb p.aa n m).take i)::(8,.box true<|CM ⟨lh p.aa p.aa.length,A7 p.aa n m,kX p.aa p.aa.length⟩)::rB p n m a b
def Ra(p:fZ)(T:uC p)(n m:Nat)(hn:p.n=n)(l:bQ p.aa n)(hc:m=aW p.aa)(Y:gg p=0)(o:rdE p.aa n m=0):
 ab 55 [bV p] (.de [aaF<|Ck p.aa n m,oE false<|mb p.aa n m,.i 0]):=by
 have o:=a8.1 o;have E1:=TX l hc;have A0:=l.n0;have Z:=l.n9;have V:=l.len;have f:=Zm l hc;have e:=rtG l hc p.aa.length<|abY _;have C:fI p.aa n m p.aa.length=A7 p.aa n m:=by unfold A7;rw[l.iP]
 rw[C]at e;have z:=Jy l hc p.aa.length<|abY _;have B:=Q9 l hc p.aa.length<|abY _;have S:(A7 p.aa n m).length=m:=kn _ _ _ _;have P:(mb p.aa n m).length=n:=ic _ _ _ _;have K:fN p.aa p.aa.length=m:=by unfold fN;simp_all
 have y:∀(c:L Tm)(q:L aZ),jh c q->eO (m+1) kR q->ab 131 [Hf c] (c7 false q):=λc q a b=>by have:=(Y5 c (λt A=>⟨(b.Y2 a E t A).1,(b.Y2 a E t A).2.1,(b.Y2 a E t A).2.2.1⟩) gC (by rw[a.len];have:=b.len;omega)).shr.same (q:=c7 false<|c.map Tm.tr) W W;rw[a.tr]at this;exact this
 have v:=acG p T n m hn l hc;obtain⟨x,O⟩:∃R,pJ p.aa n m p.aa.length=R:=⟨_,W⟩;obtain⟨w,N⟩:∃R,kz p.aa n m p.aa.length=R:=⟨_,W⟩;rw[O]at v e B;rw[N]at v f z;refine cx func55 W<|cu W W (o6 p T Y) W<|cv W W (λh=>abK W h) λ_=>?_;refine cu W W v W<|ct W W (L4 _ _ f.m f.g E gC E<|o _ I) W<|ct W W (L4 _ _ e.m e.g E gC E<|o _ I) W<|ct W W (wH [0,0] gC) W<|GW W<|cg W (λh=>abK W h) λ_=>?_;refine r0 W ?_;have X:∀k,k<=m->((List.range k).map λ(j:Nat)=>(122:UInt8)::b7 ((j:Int)+1)).length=k:=λk _=>I;refine vm (rD p n m w x 0)
  ⟨mv,ak,ak,⟨W,W,.box<|.agg<|.cons (.le W)<|.cons (.le W)<|.cons (.refl _) .nil⟩,ak,mv,ak,ak,U⟩<|aU (λk:Nat=>rD p n m w x k) (λk=>k<=m) (λk=>m-k) 0 (abX _) ?_
 intro k hk;refine cv W W ?_ ?_<;>intro g;have E2:k<m:=E;have ek:(k:Int).toNat=k:=E;refine fM W ?_;rw[ek];have F1:=Go.Ai.jZ ((k:Int)+1) (k:=3)<|Go.Ai.eH E;have u:=(y _ _ (e.m.at k) (e.at k):ab 131 [Hf<|x.getD k []] (c7 false<|(A7 p.aa n m).getD k []));refine b9 W (ac4 k E) W<|xf W ?_ (by simp only[aj,abu,X k E,acC,ad1];omega);refine b9 W u W<|xf W ?_ (zaR);refine kL (k+1) E E ⟨mv,ak,ak,⟨W,W,.box<|.agg<|.cons (.le<|aj8 (SV.strs true) ?_)<|.cons (.row ?_)<|.cons (.refl _) .nil⟩,ak,mv,ak,ak,U⟩;rw[ahs,adW];rfl;rw[dA,adY E,adW,ad3,<-az (d:=[])];exact mS.refl _;have F:k=m:=E;rw[F,rD,ad2 E];refine r0 W ?_;have D:((List.range m).map λ(j:Nat)=>(122:UInt8)::b7 ((j:Int)+1))=lh p.aa p.aa.length:=by rw[lh,K]
 rw[D];refine vm (rE p n m w x 0)
  ⟨ak,ak,ak,⟨W,W,.box<|.agg<|.cons (.refl _)<|.cons (.refl _)<|.cons (.le W) .nil⟩,ak,mv,ak,ak,U⟩<|aU (λi:Nat=>rE p n m w x i) (λi=>i<=p.aa.length) (λi=>p.aa.length-i) 0 (abX _) ?_
 intro i hi;refine cv W W ?_ ?_<;>intro g2;have J:i<p.aa.length:=E;have ei:(i:Int).toNat=i:=E;have M:p.aa.getD i default=p.aa[i]:=az J;have z:=xE p.aa i;refine fM W ?_;rw[ei,M];refine cg W ?_ ?_<;>intro r;have r:p.aa[i].kind=bk:=r;refine r1 W (by simp only[aj,abu,len,adZ,acC,ad1];omega) ?_;refine kL (i+1) E E ⟨ak,ak,ak,⟨W,W,.box<|.agg<|.cons (.refl _)<|.cons (.refl _)<|.cons (.row ?_) .nil⟩,ak,mv,ak,ak,U⟩;rw[kX,M,abx r,dA,adW];exact mS.refl _;have r:¬p.aa[i].kind=bk:=r;refine fM W<|aL (i+1) E ⟨G,G,G,⟨W,aj8 (λs=>SV.box true<|CM s) ?_⟩,G,mv,G,G,U⟩;rw[kX,M,abl r];have Bq:i=p.aa.length:=E;rw[Bq];refine r0 W<|vm (rG p n m w x 0)
  ⟨mv,ak,ak,⟨W,W,.le W⟩,ak,ak,ak,U⟩<|aU (λi:Nat=>rG p n m w x i) (λi=>i<=n) (λi=>n-i) 0 (abX _) ?_
 intro j hj;refine cv W W ?_ ?_<;>intro r;have F0:j<n:=E;have ej:(j:Int).toNat=j:=E;refine fM W ?_;rw[ej];have u:=(y _ _ (f.m.at j) (f.at j):ab 131 [Hf<|w.getD j []] (c7 false<|(mb p.aa n m).getD j []));refine b8 W u W<|r1 W (zaR) ?_;refine kL (j+1) E E ⟨mv,ak,ak,⟨W,W,.row ?_⟩,ak,ak,ak,U⟩;rw[dA,adY E,adW,ad3,<-az (d:=[])];exact mS.refl _;have H:j=n:=E;rw[H,rG,ad2 E];refine r0 W<|OZ W<|aB.refl _
def eO.plv{V K:Nat}{p:L aZ}(h:eO V K p)(f:jY p=0):QF V p:=by obtain⟨a,b,c⟩:=IA f;refine⟨λt d=>?_,h.S5,b⟩;obtain⟨l,w,-⟩:=h.tok t d;exact⟨qR.1<|c t d,h.nz t d,l,λx e=>(w.2 x e).1,a t d⟩
def Sk(rs:L fG):L QS:=rs.map λs=>⟨bp s.lo,bp s.hi⟩
def Sj(rs:L fG):(Sk rs).length=rs.length:=adZ ..
def aaX{rs:L fG}(h:bE fP rs=0):(Sk rs).map HG=rs:=by
 rw[Sk,af9]
 conv=>rhs;rw[<-List.map_id rs]
 refine af3 λs hs=>?_;have:=(Ec<|a8.1 h s hs).1;show(⟨qt _,qt _⟩:fG)=s;rw[dU this.1,dU this.2]
def adI{rs:L fG}(h:bE fP rs=0):∀s∈Sk rs,AR s 67/\Dc s.lo 600/\Dc s.hi 600:=λs hs=>by obtain⟨t,a,rfl⟩:=ab4.1 hs;have:=(Ec<|a8.1 h t a).1;exact⟨⟨eU this.1,eU this.2⟩,BH this.1,BH this.2⟩
def pI(us:L bw)(n m:Nat)(rs:L fG):L QS:=(mb us n m).map<|gD<|Sk rs
def VZ{us:L bw}{n m:Nat}(h:rdE us n m=0):(∀p∈mb us n m,jY p=0)/\∀p∈A7 us n m,jY p=0:=by have:=a8.1 h;simp at this;exact⟨a8.1 this.1,a8.1 this.2⟩
def HT(p:fZ)(x:uC p)(rs:L fG)(l:∀s∈rs,cE s.lo/\cE s.hi)(hl:rs.length<2^40)(w:gg p=0)(hm:bQ p.aa p.n.toNat)(hn:p.n=p.n.toNat)(c1:(rs.length:Int)=aW p.aa+1)(c2:bE fP rs=0)(y:rdE p.aa p.n.toNat (aW p.aa)=0)
 (z:bE mG (pI p.aa p.n.toNat (aW p.aa) rs)=0):ab 10 [bV p,aj2 rs] (.de [.bm false 2 default XB<|pI p.aa p.n.toNat (aW p.aa) rs,.i 0]):=by
 have C:=TX hm W;have m:=Ra p x p.n.toNat (aW p.aa) hn hm W w y;refine cx func10 W<|cu W W (W5 p x w) W<|cv W W (λ_=>?_) λg=>abK W g;refine fM W<|b8 W (qB _ 2) W<|cu W W (Lu rs l c2 E) W<|cu W W (Ab _ I) W<|cv W W (λg=>abK (by simp[bE,c1]) g) λ_=>?_;refine cu W W m W<|cv W W (λh=>abK W h) λ_=>?_;refine r0 W ?_;have k:=Zm hm (rfl:aW p.aa=aW p.aa);have u:(Sk rs).length=aW p.aa+1:=by rw[Sj];omega
 have f:(mb p.aa p.n.toNat<|aW p.aa).length=p.n.toNat:=ic _ _ _ _;have b:∀q∈mb p.aa p.n.toNat (aW p.aa),QF (Sk rs).length q:=λq b=>by rw[u];exact(k.g q b).plv<|(VZ y).1 q b
 have d:=adI c2;have e:=aaX c2;have t:aj2 rs=aj2 ((Sk rs).map HG):=by rw[e]
 have c:∀q∈mb p.aa p.n.toNat (aW p.aa),ab 56 [c7 false q,aj2 rs] (.de [XB<|gD (Sk rs) q,.i 0]):=λq h=>by refine(aaB q (Sk rs) (b q h) E E (λs hs=>(d s hs).2) (by rw[e];exact c2) (A:=67) gC (λs hs=>(d s hs).1)<|a8.1 z _<|ahC h).same ?_ W;rw[t];simp only[aE,SV.den,af9];rfl
 have o:(pI p.aa p.n.toNat (aW p.aa) rs).length=p.n.toNat:=by rw[pI,adZ,f]
 have a:∀i(h:i<p.n.toNat),(pI p.aa p.n.toNat (aW p.aa) rs)[i]'(by omega)=gD (Sk rs) ((mb p.aa p.n.toNat<|aW p.aa)[i]'(by omega)):=λi h=>by simp only[pI,ah3]
 obtain⟨T,v⟩:∃T,pI p.aa p.n.toNat (aW p.aa) rs=T:=⟨_,W⟩;simp only[v]at z o a⊢;obtain⟨S,j⟩:∃S,mb p.aa p.n.toNat (aW p.aa)=S:=⟨_,W⟩;simp only[j]at f b c a;rw[j];have B:=hm.n9;refine aU (λi:Nat=>[(1,aj2 rs),(44,.bm false 1 default (c7 false) S),(45,.i S.length),(46,.i i),(10,.bm true 2 default XB<|T.take i)]) (λi=>i<=p.n.toNat) (λi=>p.n.toNat-i) 0 (abX _) ?_;intro i hi;refine cv W W ?_ ?_<;>intro g1;have r:i<p.n.toNat:=E;have D:(i:Int).toNat=i:=E;have hc:=c S[i]<|ab3 _;refine fM W ?_;rw[D,show S.getD i default=S[i]from az E];refine b8 W hc W<|cv W W (λh=>abK W h) λ_=>?_;refine r1 W (by simp only[aj,abu,len,afS];omega) ?_;refine kL (i+1) E E ⟨ak,ak,ak,ak,⟨W,W,.row ?_⟩,U⟩;rw[dA,adY E,a i r,adW];exact mS.refl _;rw[show i=p.n.toNat from E,ad2 E];refine r0 W<|OZ W<|aB.refl _
end Go.Ai.Pg
namespace Go.Ai
open Go.Proofs Go.RowKit Go.Proofs.Tryz
section
variable{D E M N d:Nat}{s:QS}{p q:Rat}
def NQ(D N:Nat)(q:Rat):Prop:=∃a:Int,q*(D:Rat)=a/\a.natAbs<=N
def NQ.le(h:NQ D N q)(hn:N<=M):NQ D M q:=by obtain⟨a,b,c⟩:=h;exact⟨a,b,by omega⟩
def NQ.zero(D N:Nat):NQ D N 0:=⟨0,by simp,by simp⟩
def NQ.mul(h:NQ D N p)(g:NQ E M q):NQ (D*E) (N*M) (p*q):=by obtain⟨a,b,c⟩:=h;obtain⟨d,e,f⟩:=g;exact⟨a*d,by rw[aho];grind,by rw[age];exact agW c f⟩
def NQ.add(h:NQ D N p)(g:NQ D M q):NQ D (N+M) (p+q):=by obtain⟨a,b,c⟩:=h;obtain⟨d,e,f⟩:=g;exact⟨a+d,by rw[Rat.intCast_add];grind,by omega⟩
def NQ.pow{D N:Nat}{q:Rat}(h:NQ D N q):∀k:Nat,NQ (D^k) (N^k) (q^k)
 |0=>⟨1,by simp,by simp⟩
 |k+1=>by rw[aje];exact(NQ.pow h k).mul h
def NQ.up(h:NQ D N q)(g:Nat):NQ (D*g) (N*g) q:=by have:=h.mul (E:=g) (M:=g) (q:=1) ⟨(g:Int),by rw[ahg];grind,by simp⟩;rwa[Rat.mul_one]at this
def NQ.den(h:NQ D N q)(j:0<D):q.den<=D/\q.num.natAbs<=N:=by
 obtain⟨a,b,c⟩:=h;have l:q.num*(D:Int)=a*q.den:=by
  have n:=kr q;have:((q.num*(D:Int):Int):Rat)=((a*(q.den:Int):Int):Rat):=by rw[aho,aho,ahg,ahg];grind
  exact_mod_cast this
 have k:q.num.natAbs*D=a.natAbs*q.den:=by have:=aal Int.natAbs l;rwa[age,age]at this
 have f:=q.reduced.symm.dvd_of_dvd_mul_left ⟨a.natAbs,by rw[k,aej]⟩;obtain⟨R,i⟩:=f;refine⟨Nat.le_of_dvd j ⟨R,i⟩,?_⟩;have m:q.num.natAbs*R=a.natAbs:=by
  have:q.den*(q.num.natAbs*R)=q.den*a.natAbs:=by grind
  exact Nat.eq_of_mul_eq_mul_left q.den_pos this
 have g:1<=R:=by rcases af8 R with e|e;rw[e]at i;omega;exact e
 have:=ae6 q.num.natAbs g;omega
def NE(D N:Nat)(s:QS):Prop:=NQ D N s.lo/\NQ D N s.hi
def ac8(p q:Rat):wU p q=p\/wU p q=q:=by unfold wU;split<;>simp
def ac9(p q:Rat):pV p q=p\/pV p q=q:=by unfold pV;split<;>simp
def NQ.min(b:NQ D N p)(a:NQ D N q):NQ D N (wU p q):=by rcases ac8 p q with e|e<;>rw[e]<;>assumption
def NQ.max(b:NQ D N p)(a:NQ D N q):NQ D N (pV p q):=by rcases ac9 p q with e|e<;>rw[e]<;>assumption
def NE.mul{a b:QS}(e:NE D N a)(c:NE E M b):NE (D*E) (N*M) (Dh a b):=⟨((e.1.mul c.1).min<|e.1.mul c.2).min<|(e.2.mul c.1).min<|e.2.mul c.2,((e.1.mul c.1).max<|e.1.mul c.2).max<|(e.2.mul c.1).max<|e.2.mul c.2⟩
def NE.up(h:NE D N s)(g:Nat):NE (D*g) (N*g) s:=⟨h.1.up g,h.2.up g⟩
def NE.le(h:NE D N s)(hn:N<=M):NE D M s:=⟨h.1.le hn,h.2.le hn⟩
def NE.pow(h:NE D N s)(k:Nat):NE (D^k) (N^k) (xN s k):=by refine⟨?_,(h.1.pow k).max<|h.2.pow k⟩;unfold xN;split;exact NQ.zero _ _;exact(h.1.pow k).min<|h.2.pow k
def GI(s:QS):Prop:=(s.lo.num.natAbs<=10^4/\s.lo.den<=10^4)/\s.hi.num.natAbs<=10^4/\s.hi.den<=10^4
def GI.ne(h:GI s):NE (s.lo.den*s.hi.den) (10^8) s/\0<s.lo.den*s.hi.den/\s.lo.den*s.hi.den<=10^8:=by obtain⟨⟨a,b⟩,c,d⟩:=h;refine⟨⟨?_,?_⟩,aeB s.lo.den_pos s.hi.den_pos,zq b d⟩;have:NQ _ _ _:=⟨s.lo.num,kr _,a⟩;exact(this.up _).le<|zq .refl d;have:NQ _ _ _:=⟨s.hi.num,kr _,c⟩;have:=(this.up _).le<|zq .refl b;rwa[aej]at this
def EB(d:Nat)(box:L QS)(v:Nat):Nat:=eI<|(box.take v).map λs=>(s.lo.den*s.hi.den)^d
def SF{box:L QS}{v:Nat}(h:v<box.length):EB d box (v+1)=EB d box v*(box[v].lo.den*box[v].hi.den)^d:=by
 unfold EB;have:∀l m:L Nat,eI (l++m)=eI l*eI m:=by
  intro l m
  induction l with
  |nil=>simp[eI]
  |cons x l a=>rw[ah7,eI,eI];grind
 rw[adY h,adW,this];simp[eI]
def HB{d D N:Nat}{box:L QS}{t:aZ}(e:∀s∈box,GI s)(hc:NQ D N t.c)(b:∀x∈t.pw,0<=x/\x<=d):∀v,v<=box.length->NE (D*EB d box v) (N*10^(8*d*v)) (kD box t v)
 |0,_=>by have:NE D N ⟨t.c,t.c⟩:=⟨hc,hc⟩;simpa[EB,eI,kD]using this
 |v+1,h=>by
  have j:=HB e hc b v (by omega);have a:v<box.length:=by omega
  obtain⟨n,o,m⟩:=(e box[v]<|ab3 a).ne;have l:(t.pw.getD v 0).toNat<=d:=by
   rcases aef v _ with g|g;have:=b _<|aN (d:=(0:Int)) g;omega;have:t.pw.getD v 0=0:=by grind
   rw[this];simp
  rw[nO,az a,SF a];have i:=(n.pow (t.pw.getD v 0).toNat).up<|(box[v].lo.den*box[v].hi.den)^(d-(t.pw.getD v 0).toNat);rw[<-aga,Nat.add_sub_cancel' l,<-ahU]at i;have f:=j.mul<|i.le<|zq .refl<|Mb (k:=d-(t.pw.getD v 0).toNat) m;rw[ahE,ahE,<-aga]at f;refine f.le<|ae6 _<|qy ?_;rw[Nat.mul_succ];omega
def IJ{d D:Nat}{box:L QS}(e:∀s∈box,GI s):∀{p:L aZ}{N M:Nat}{s:QS},(∀t∈p,∀x∈t.pw,0<=x/\x<=d)->NP D N p->NE (D*EB d box box.length) M s->NE (D*EB d box box.length) (M+N*10^(8*d*box.length)) (p.foldl (λs t=>KV s<|kD box t box.length) s)
 |[],N,M,s,_,_,h=>h.le (by omega)
 |t::p,N,M,s,c,⟨a,K,i,g,f⟩,h=>by have b:=HB e ⟨a,i,.refl⟩ (c t<|by simp) _ .refl;have hs:NE _ _ (KV s _):=⟨h.1.add b.1,h.2.add b.2⟩;refine(IJ e (λu hu=>c u<|by simp[hu]) g hs).le ?_;have:=ad6 (10^(8*d*box.length)) f;rw[aer]at this;omega
def ab0{d:Nat}{box:L QS}(e:∀s∈box,GI s):∀v,v<=box.length->0<EB d box v/\EB d box v<=10^(8*d*v)
 |0,_=>by simp[EB,eI]
 |v+1,h=>by
  obtain⟨a,b⟩:=ab0 e v (by omega);have c:v<box.length:=by omega
  obtain⟨-,g,f⟩:=(e box[v]<|ab3 c).ne;rw[SF c];exact⟨aeB a<|ae9 g,ab7 (zq b<|Mb f)<|qy<|by rw[Nat.mul_succ];omega⟩
def yg{x:Nat}{box:L QS}{p:L aZ}(e:∀s∈box,GI s)(i:∀t∈p,∀y∈t.pw,0<=y/\y<=d)(c:NX D x p)(n:x+8*d*box.length<600):mG (gD box p)=0:=by
 obtain⟨m,l⟩:=ab0 e _ .refl;have h:=IJ e i c.np (s:=⟨0,0⟩) (M:=0) ⟨NQ.zero _ _,NQ.zero _ _⟩;have k:=zq c.le l;obtain⟨K,o⟩:∃K,K=600:=⟨_,W⟩;have j:10^(x+8*d*box.length)<10^K:=Nat.pow_lt_pow_right (by decide) (by omega);have key:∀q,NQ (D*EB d box box.length) (0+10^x*10^(8*d*box.length)) q->ja q=0:=λq f=>by obtain⟨a,b⟩:=f.den<|aeB c.pos m;rw[<-aga]at b;exact qR.2 ⟨ab7 (cY _ 1 K (by omega)<|by omega)<|by omega,ab7 (cY _ 1 K (by omega)<|by omega)<|by omega⟩
 unfold mG;rw[abl];rintro(g|g);exact g<|key _ h.1;exact g<|key _ h.2
end
def GG.nx{D x m:Nat}{st:Rat}{p:L aZ}(h:GG D x m st p)(hs:AM p)(a:st.num.natAbs<=10^6/\st.den<=10^6):NX (D*st.den) (x+7) p:=by obtain⟨q,d,c⟩:=h;have e:NX _ (x+6) _:=((NX.const m a.1 a.2).up c.pos c.le).to (aej _ _) |>.mono E;have b:=(c.up st.den_pos a.2).app e;exact⟨b.pos,b.le,NP.Pk b.pos hs d b.np⟩
section
variable{us:L bw}{n m:Nat}(hm:bQ us n)
include hm
theorem bQ.aew{i:Nat}(hi:i<us.length):∃k,k<us.length/\((aA us).getD k 0).toNat=i:=by
 apply aiY;intro h;have hne:=λk hk e=>h ⟨k,hk,e⟩;have hol:=hm.iP;have hnn:∀k,k<us.length->0<=(aA us).getD k 0:=λk hk=>by rw[az E];exact(fo _<|ab3 _).1
 have hl:=nj (l:=i::(List.range us.length).map λk=>((aA us).getD k 0).toNat) (m:=List.range us.length) ?_ ?_;simp at hl;omega;rw[af6];refine⟨λg=>?_,?_⟩;obtain⟨k,hk,e⟩:=ab4.1 g;exact hne k (aec.1 hk) e;unfold List.Nodup;rw[aio];intro a b ha hb hab e;simp[ajk]at ha hb;simp only[ah3,List.getElem_range]at e;have:=hm.acV ha hb (by have:=hnn a ha;have:=hnn b hb;omega);omega;intro x hx;rcases adb.1 hx with rfl|hx;exact aec.2 hi;obtain⟨k,hk,rfl⟩:=ab4.1 hx;exact aec.2<|hm.idx<|aec.1 hk
def zU(us:L bw)(k:Nat):Nat:=((List.range k).filter λj=>decide ((au us j).kind=bk)).length
def bQ.ag2:aW us<=zU us us.length:=by
 have e:aW us=((List.range us.length).filter λi=>decide ((us.getD i default).kind=bk)).length:=by
  have a:us=(List.range us.length).map λi=>us.getD i default:=by apply ahT;simp;intro i a c;simp[a]
  unfold aW
  conv=>lhs;rw[a]
  rw[List.countP_map,List.countP_eq_length_filter];rfl
 rw[e];have:=nj (l:=(List.range us.length).filter λi=>decide ((us.getD i default).kind=bk)) (m:=((List.range us.length).filter λj=>decide ((au us j).kind=bk)).map λj=>((aA us).getD j 0).toNat) (List.Pairwise.filter _ List.nodup_range) λi hi=>?_;rwa[adZ]at this;obtain⟨a,c⟩:=ahx.1 hi;obtain⟨k,b,e⟩:=hm.aew<|aec.1 a;refine ab4.2 ⟨k,ahx.2 ⟨aec.2 b,?_⟩,e⟩;unfold au;rwa[e]
omit hm in
def wz(k:Nat):zU us (k+1)=zU us k+if(au us k).kind=bk then 1 else 0:=by
 unfold zU;rw[ahs,aji,ad9]
 congr 1
 by_cases h:(au us k).kind=bk<;>simp[h]
omit hm in
def aei:x0 us=7+6*zU us us.length:=by
 have:∀k,((List.range k).map λj=>if(au us j).kind=bk then 6 else 0).sum=6*zU us k:=by
  intro k
  induction k with
  |zero=>simp[zU]
  |succ k a=>rw[ahs,adW,aiy,a,wz];split<;>simp_all<;>omega
 unfold x0;rw[this]
omit hm in
def aek(k:Nat):Ol (au us k)<=28/\((au us k).kind=bk->Ol (au us k)=0):=by unfold Ol;refine⟨by split<;>(try split)<;>omega,λh=>?_⟩;rw[abl<|by rw[h];decide,abl<|by rw[h];exactλg=>abK g.1 gC]
omit hm in
def U2:∀k,xK us k+28*zU us k<=7+6*zU us us.length+28*k
 |0=>by have:=aei (us:=us);have d:zU us 0=0:=W;show x0 us+28*zU us 0<=_;omega
 |k+1=>by have c:=U2 k;obtain⟨b,a⟩:=aek (us:=us) k;rw[wz];show xK us k+Ol (au us k)+_<=_;split;rename_i h;have:=a h;omega;omega
omit hm in
def T7(j d:Nat):zU us (j+d)<=zU us j+d:=by
 induction d with
 |zero=>simp
 |succ d a=>have e:zU us (j+(d+1))=_:=wz (us:=us)<|j+d;rw[e];split<;>omega
end
section
variable{us:L bw}{n m:Nat}(hm:bQ us n)
include hm
theorem bQ.ags{s:Nat}(h:¬UR us us.length s):(mb us n m).getD s []=[]:=by
 have h0:=λe=>h<|.inl e;have hno:∀j,j<us.length->(au us j).out.toNat≠s:=λj hj e=>h<|.inr ⟨j,hj,e⟩;rw[hm.aeI (abX _) λj _ hj e=>hno j hj e.symm];have key:∀j,j<=us.length->(DA us n m j).getD s []=[]:=by
  intro j
  induction j with
  |zero=>
   unfold DA A3
   grind
  |succ j ih=>intro hj;have ih:=ih E;rw[DA,az<|show j<us.length from E];split;rename_i hk;obtain⟨k,hk1,hk2⟩:=hm.aew (show j<us.length from E);have:=hno k hk1;unfold au at this;rw[hk2,az<|show j<us.length from E]at this;have ho:=(hm.val _<|ab3<|show j<us.length from E).out;rwa[gL<|ii,abl E];exact ih
 have:=key _ .refl;unfold fB;simpa using this
def bQ.agn{k:Nat}(b:k<us.length)(h:(au us k).kind=dO)(t:(au us k).c8.length=4)(J:lQ us n ((au us k).ai.getD 0 default).sh.toNat=1)(hs:SD us n m k ((au us k).ai.getD 0 default).sh.toNat)(i:AM ((mb us n m).getD (au us k).out.toNat [])):
 ∃D,NX D (3*xK us k+48) ((mb us n m).getD (au us k).out.toNat []):=by
 have hi:(au us k).kind≠bk:=by rw[h];decide
 have j:bU (au us k)=(au us k).ai:=d9
 have hu:=hm.mem b;obtain⟨H,F,C⟩:=(hm.val _ hu).table h;have l:(au us k).ai.getD 0 default∈(au us k).ai:=aN E;have o:=hm.mK b (by rwa[j]);obtain⟨q,x,p⟩:=hm.OV b o hs (d:=1) E;obtain⟨u,A⟩:=hm.XL hu 4 E;have a:=uH hm.PS (n:=n) ((au us k).ai.getD 0 default).sh.toNat;have r:=hm.dQ hu l;have B:NX (BK us n k^1*((bC n us).getD ((au us k).ai.getD 0 default).sh.toNat 0).den) (xK us k*1+6) (cZ ((bC n us).getD ((au us k).ai.getD 0 default).sh.toNat 0) m):=((NX.const m a.1 a.2).up p.pos p.le).to (aej _ _) |>.mono E;have w:SE (lY (fB us n m k)<|au us k) (kP (bp ((au us k).ai.getD 0 default).dQ)<|q++cZ ((bC n us).getD ((au us k).ai.getD 0 default).sh.toNat 0) m):=λg=>by unfold lY;rw[BV,yt,x]
 obtain⟨T,K,v⟩:=OD (m:=m) (y:=15) w (((p.up (Rat.den_pos _) a.2).app B).JA r.1 r.2) A (ab7 u<|qy gC) ((au us k).c8.map bp) (λc hc=>by
  obtain⟨s,hs,rfl⟩:=ab4.1 hc;exact Bc bp (z:=3) (y:=12) (λs hs=>(hm.cur hu hs).1) u s hs)
  (by intro e;have:=aal List.length e;simp at this;simp[this]at t)
 rw[adZ,t]at v;have e:(mb us n m).getD (au us k).out.toNat []=jj m (lY (fB us n m k)<|au us k) ((au us k).c8.map bp):=by rw[hm.VF b hi,abl<|by rw[h];decide];rfl
 have f:=v.mono (show _<=3*xK us k+48 from E);exact⟨_,f.pos,f.le,NP.Pk f.pos i (by rwa[e]) f.np⟩
def bQ.agQ(X:us.length<=7)(l:wV us n 4=true)(hc:m=aW us){box:L QS}(A:∀s∈box,GI s)(hl:box.length=m+1):∀p∈mb us n m,mG (gD box p)=0:=by
 intro p M;obtain⟨s,hs,rfl⟩:=ahJ M;rw[<-az (d:=([]:L aZ)) hs];have B:=hm.Zl hc s;have N:=hm.ag2;have V:=U2 (us:=us) us.length;have j:∀d:Nat,lQ us n s<=d->∀t∈(mb us n m).getD s [],∀y∈t.pw,0<=y/\y<=d:=λd o t K y C=>by obtain⟨a,b,c⟩:=(B.pw t K).1;have:=jx b y C;have H:(mc us n us.length).getD s 0=lQ us n s:=W;have:=b y C;omega
 by_cases f:UR us us.length s;rcases hm.cls l us.length (abY _) s f with o|⟨o,-,S⟩;have H:=hm.sd l hc us.length (abY _) s f o;have R:=GG.nx H B.S5<|uH hm.PS s;refine yg (d:=2) A (j 2 o) R ?_;have Y:xK us us.length*(lQ us n s).toNat<=xK us us.length*2:=ae6 _ E;omega;rcases f with e|⟨k,i,rfl⟩;exact abK e S;obtain⟨Z,T⟩:=hm.adC l i<|hm.cls l k E;have hi:(au us k).kind≠bk:=λg=>by have:=hm.XD i g;omega
 have q:(au us k).kind=dO:=by have:=(hm.val _<|hm.mem i).kind;simp_all
 have O:=T q;unfold aa8 at O;have F:(au us k).c8.length=4/\lQ us n ((au us k).ai.getD 0 default).sh.toNat=1:=E;have v:bU (au us k)=(au us k).ai:=d9
 have w:(au us k).ai.getD 0 default∈(au us k).ai:=aN (by have:=((hm.val _<|hm.mem i).table q).1;omega);have z:=hm.mK i (by rw[v];exact w);obtain⟨D,P⟩:=hm.agn i q F.1 F.2 (hm.sd l hc k E _ z E) B.S5;refine yg (d:=3) A (j 3 E) P ?_;have J:=U2 (us:=us) k;have r:=wz (us:=us) k;rw[abl hi]at r;have u:=T7 (us:=us) (k+1)<|us.length-(k+1);rw[show k+1+(us.length-(k+1))=us.length from E]at u;omega;rw[hm.ags f];exact yg (d:=0) (D:=1) (x:=0) A (λt h=>by cases h) ⟨gC,gC,U⟩ E
end
def lmK(a:Int)(p:fZ)(d:L Int):L (Nat×SV):=[(1,.i a),(2,.box true<|bV p),(5,gu d),(7,gu<|aA p.aa)]
def abw(c:Int)(m0:0<=c)(m6:c<=6)(p:fZ)(h:uC p)(G0:p.aa.length<=96)(n:Nat)(hn:p.n=n)(H4:0<n)(H3:n<=100)(hv:∀u∈p.aa,gF p.n u):ab 19 [bV p,.i c] (.u<|wV p.aa n c):=by
 have hl:=h.aa;refine cx func19 W<|cU 4 [(1,.i c),(2,.box true<|bV p),(5,gu<|fu p.aa n p.aa.length)] True ?_ λ_=>?_;refine r1 W (io) ?_;refine loop (λi:Nat=>[(1,.i c),(2,.box true<|bV p),(5,gu<|fu p.aa n i),(6,.i i)]) (λi=>i<=p.aa.length) (λi=>p.aa.length-i) 0 (abX _) ⟨G,G,⟨W,aj8 (gu)<|by rw[hn];rfl⟩,G,U⟩ ?_;intro i hi;refine cv W W ?_ ?_<;>intro h1;have O:i<p.aa.length:=E;have ei:(i:Int).toNat=i:=E;have eg:p.aa.getD i default=p.aa[i]:=az O;have J:=jo (n:=n) O;have hu:=(hv _<|ab3 O).out;have K:=(pr p.aa n i hi).1;refine r1 W (by simp only[aj,abu,ei]<;>omega) ?_;rw[ei,eg];refine cg W ?_ ?_<;>intro b;have b:p.aa[i].kind=bk:=b;rw[abx b]at J;refine r1 W (by simp only[aj,abu,ei,eg,K]<;>omega) ?_;exact again (i+1) E E ⟨G,G,⟨W,aj8 (gu)<|by rw[J,ei,eg]⟩,G,U⟩;have b:¬p.aa[i].kind=bk:=b;rw[abl b]at J;refine r1 W (by simp only[aj,abu,ei,eg,K]<;>omega) ?_;exact again (i+1) E E ⟨G,G,⟨W,aj8 (gu) J.symm⟩,G,U⟩;have:i=p.aa.length:=E;subst this;refine r0 W<|bo U;have H1:=xO p.aa;refine Gb 2 (λdg:L Int=>lmK c p dg) (λdg=>F5 p.aa c (aA p.aa) (fu p.aa n p.aa.length)=some dg/\dg.length=n/\BX dg 6) ?_ ?_;refine cu W W (uW p h E<|gF.fdd hv) W<|r0 W<|lM (λ(k:Nat)(dg:L Int)=>(8,.i k)::lmK c p dg)
  (λk dg=>k<=(aA p.aa).length/\F5 p.aa c (aA p.aa) (fu p.aa n p.aa.length)=F5 p.aa c ((aA p.aa).drop k) dg/\dg.length=n/\BX dg 6)
  (λk _=>(aA p.aa).length-k) 0 (fu p.aa n p.aa.length) ⟨abX _,W,pr p.aa n _<|abY _⟩ ⟨G,G,G,G,G,U⟩ ?_
 rintro k dg⟨hk,m,w,t⟩;refine cv W W ?_ ?_<;>intro h1;have y:k<(aA p.aa).length:=E;have ek:(k:Int).toNat=k:=E;have A:(aA p.aa).getD k 0=(aA p.aa)[k]:=az y;obtain⟨o1,o2⟩:=fo _<|ab3 y;rw[ad5 y,F5]at m;obtain⟨o,eo⟩:∃o,(aA p.aa)[k]=o:=⟨_,W⟩;rw[eo]at A o1 o2 m;have s:p.aa.getD o.toNat default∈p.aa:=aN E;unfold qk at m;obtain⟨u,eu⟩:∃u,p.aa.getD o.toNat default=u:=⟨_,W⟩;rw[eu]at s m;have hu:=hv _ s;have F0:=hu.out;have V:=(h.unit _ s).ai;have Z:1<=iI u/\iI u<=12:=by unfold iI;split;rename_i g;have:=(hu.table g).2.2;omega;omega
 refine rn 3 W<|Gb 2 (λa:L Int=>(8,.i k)::(9,.box true<|fb u)::lmK c p a)
  (λa=>a=(if u.kind=bk then dg else u.ai.foldl (jI u) dg)/\a.length=n/\BX a 72/\∀j,j≠u.out.toNat->a.getD j 0=dg.getD j 0) ?_ ?_
 refine k1 W aP (by simp only[aj,abu,ek,A]<;>omega) ?_;rw[ek,A,eu];by_cases C:u.kind=bk;refine aU (λj:Nat=>(8,.i k)::(9,.box true<|fb u)::(10,.i 0)::lmK c p dg) (λ_=>True) (λ_=>0) 0 U ?_;intro j _;refine ck W 65 W ?_ ?_<;>intro b;refine cv W W (λh3=>abK C h3) λh3=>?_;refine r0 W<|iX dg ⟨by rw[abx C],w,t.mono gC,λ_ _=>rfl⟩;refine r0 W<|iX dg ⟨by rw[abx C],w,t.mono gC,λ_ _=>rfl⟩;rw[abl C];refine lM (λ(j:Nat)(a:L Int)=>(8,.i k)::(9,.box true<|fb u)::(10,.i j)::lmK c p a)
  (λj a=>j<=u.ai.length/\u.ai.foldl (jI u) dg=(u.ai.drop j).foldl (jI u) a/\a.length=n/\BX a 72/\(∀i,i≠u.out.toNat->a.getD i 0=dg.getD i 0)/\(j=0\/u.kind≠dO->BX a 6))
  (λj _=>u.ai.length-j) 0 dg ⟨abX _,W,w,t.mono gC,λ_ _=>rfl,λ_=>t⟩ ⟨G,G,G,G,G,G,G,U⟩ ?_
 rintro j a⟨hj,v,q,r,F,R⟩;refine ck W 65 W ?_ ?_<;>intro b;refine cv W W (λh3=>?_) λh3=>abK C h3;have z:j<u.ai.length:=E;have ej:(j:Int).toNat=j:=E;have H:u.ai.getD j default=u.ai[j]:=az z;rw[ad5 z,agf]at v;have P:=hu.feed _<|ab3 z;have E2:0<=a.getD u.ai[j].sh.toNat 0/\a.getD u.ai[j].sh.toNat 0*iI u<=72:=by
  have E1:=r.getD gC u.ai[j].sh.toNat;refine⟨E1.1,?_⟩;by_cases hT:u.kind=dO;have:=(hu.table hT).1;have h6:=(R<|.inl E).getD gC u.ai[j].sh.toNat
  calc a.getD u.ai[j].sh.toNat 0*iI u<=6*12:=aiM h6.2 Z.2 E gC
   _<=72:=gC
  unfold iI;simp_all
 have H2:0<=a.getD u.ai[j].sh.toNat 0*iI u:=agy E2.1 E;have ho:=r.getD gC u.out.toNat;have key:∀d:Int,d=a.getD u.ai[j].sh.toNat 0*iI u->a.set u.out.toNat (max (a.getD u.out.toNat 0) d)=jI u a u.ai[j]:=by rintro d rfl;rfl
 refine r1 W (by simp only[aj,abu,ej,H,q]<;>omega) ?_;rw[ej,H];have ag:∀d:Int,d=a.getD u.ai[j].sh.toNat 0*iI u->(j+1<=u.ai.length/\u.ai.foldl (jI u) dg=(u.ai.drop<|j+1).foldl (jI u) (a.set u.out.toNat<|max (a.getD u.out.toNat 0) d)/\(a.set u.out.toNat<|max (a.getD u.out.toNat 0) d).length=n/\BX (a.set u.out.toNat<|max (a.getD u.out.toNat 0) d) 72/\(∀i,i≠u.out.toNat->(a.set u.out.toNat<|max (a.getD u.out.toNat 0) d).getD i 0=dg.getD i 0)/\(j+1=0\/u.kind≠dO->BX (a.set u.out.toNat<|max (a.getD u.out.toNat 0) d) 6)):=by
  intro d hd;refine⟨E,gn,by rw[qI];exact q,r.set E,λi hi=>?_,λhh=>?_⟩
  grind
  have F2:u.kind≠dO:=hh.resolve_left E;have h6:=R<|.inr F2;refine h6.set ?_;have h7:=h6.getD gC u.out.toNat;have h8:=h6.getD gC u.ai[j].sh.toNat;rw[hd];unfold iI;grind
 refine cg W ?_ ?_<;>intro S;have S:u.kind=dO:=S;have ht:=hu.table S;have A0:wT false 1 ((u.c8.length:Int)-1)=iI u:=by unfold iI;rw[abx S];rfl
 refine k1 W aP (by simp only[aj,abu,A0,q]<;>omega) ?_;refine again (j+1,a.set u.out.toNat<|max (a.getD u.out.toNat 0)<|a.getD u.ai[j].sh.toNat 0*iI u) (ac) (ag _ W) ⟨G,G,G,G,G,⟨W,aj8 (gu) ?_⟩,G,U⟩;rw[A0];rfl;have S:¬u.kind=dO:=S;have Xf:a.getD u.ai[j].sh.toNat 0=a.getD u.ai[j].sh.toNat 0*iI u:=by unfold iI;simp_all
 refine k1 W aP (o4) ?_;exact aL (j+1,a.set u.out.toNat<|max (a.getD u.out.toNat 0)<|a.getD u.ai[j].sh.toNat 0)<|ag _ Xf;have:j=u.ai.length:=E;subst this;rw[ahw]at v;refine r0 W<|iX a ⟨v.symm,q,r,F⟩;rintro a⟨F3,q,r,F⟩;rw[<-F3]at m;refine r1 W (o4) ?_;refine cg W ?_ ?_<;>intro b;have b:c<a.getD u.out.toNat 0:=b;rw[abx b]at m;refine cm W W ?_;show false=wV p.aa n c;unfold wV;rw[m];have b:¬c<a.getD u.out.toNat 0:=b;rw[abl b]at m;refine r1 W bj<|aL (k+1,a) ⟨ac,m,q,?_⟩;intro x T;obtain⟨i,hi,rfl⟩:=ajh.1 T;have e:a[i]=a.getD i 0:=(az hi).symm;refine⟨(r _ T).1,?_⟩;rw[e];by_cases D:i=u.out.toNat;rw[D];omega;rw[F i D];exact(t.getD gC i).2;refine r0 W ?_;rw[agt E]at m;exact iX dg ⟨m,w,t⟩;rintro dg⟨m,w,t⟩;have hL:wV p.aa n c=(JF p.aa c dg (aA p.aa)<|List.replicate n 0).isSome:=by unfold wV;rw[m]
 refine r1 W bj<|lM (λ(k:Nat)(rt:L Int)=>(12,gu rt)::(13,.i k)::lmK c p dg)
  (λk rt=>k<=(aA p.aa).length/\wV p.aa n c=(JF p.aa c dg ((aA p.aa).drop k) rt).isSome/\rt.length=n/\BX rt 6)
  (λk _=>(aA p.aa).length-k) 0 (List.replicate n 0) ⟨abX _,hL,I,BX.rep n gC⟩ ⟨⟨W,aj8 (gu)<|by rw[hn];rfl⟩,G,G,G,G,G,U⟩ ?_
 rintro k rt⟨hk,m,F1,Y⟩;refine cv W W ?_ ?_<;>intro h1;have y:k<(aA p.aa).length:=E;have ek:(k:Int).toNat=k:=E;have A:(aA p.aa).getD k 0=(aA p.aa)[k]:=az y;obtain⟨o1,o2⟩:=fo _<|ab3 y;rw[ad5 y,JF]at m;obtain⟨o,eo⟩:∃o,(aA p.aa)[k]=o:=⟨_,W⟩;rw[eo]at A o1 o2 m;have s:p.aa.getD o.toNat default∈p.aa:=aN E;unfold uO at m;obtain⟨u,eu⟩:∃u,p.aa.getD o.toNat default=u:=⟨_,W⟩;rw[eu]at s m;have hu:=hv _ s;have F0:=hu.out;have X:=h.unit _ s;have V:=X.ai;have H5:(bU u).length<=u.ai.length:=by unfold bU;split<;>simp
 have N:∀f∈bU u,f∈u.ai:=by intro f m;unfold bU at m;grind
 have G1:∀j,j≠u.out.toNat->∀l:L Int,∀x,(l.set u.out.toNat x).getD j 0=l.getD j 0:=λj hj l x=>getD_set_ne λe=>hj e.symm;refine rn 3 W<|Gb 3 (λaJ:L Int=>(12,gu aJ)::(13,.i k)::(14,.box true<|fb u)::lmK c p dg)
  (λaJ=>aJ=LN u dg rt/\aJ.length=n/\BX aJ 100/\∀j,j≠u.out.toNat->aJ.getD j 0=rt.getD j 0) ?_ ?_
 refine k1 W aP (by simp only[aj,abu,ek,A]<;>omega) ?_;rw[ek,A,eu];refine b8 W (zJ u X (λg=>by have:=(hu.int g).1;omega)) W ?_;refine r0 W<|lM (λ(j:Nat)(aJ:L Int)=>(12,gu aJ)::(13,.i k)::(14,.box true<|fb u)::(15,aj5<|bU u)::(16,.i j)::lmK c p dg)
  (λj aJ=>j<=(bU u).length/\LN u dg rt=((bU u).drop j).foldl (jS u dg) aJ/\aJ.length=n/\BX aJ (6+6*j)/\(∀i,i≠u.out.toNat->aJ.getD i 0=rt.getD i 0))
  (λj _=>(bU u).length-j) 0 rt ⟨abX _,W,F1,Y.mono gC,λ_ _=>rfl⟩ ⟨G,G,G,G,G,G,G,G,G,U⟩ ?_
 rintro j aJ⟨hj,v,q,r,F⟩;have G2:(bU u).length<=8:=by rcases hu.kind with g|g|g;have:=(hu.int g).1;omega;have:=(hu.add g).2.1;omega;have:=(hu.table g).1;omega
 refine cv W W ?_ ?_<;>intro b;have z:j<(bU u).length:=E;have ej:(j:Int).toNat=j:=E;have H:(bU u).getD j default=(bU u)[j]:=az z;rw[ad5 z,agf]at v;have P:=hu.feed _<|N _<|ab3 z;have R:BX aJ 54:=r.mono E;have T:=r.getD E (bU u)[j].sh.toNat;have ho:=r.getD E u.out.toNat;have hd:=t.getD gC (bU u)[j].sh.toNat;refine k1 W aP (by simp only[aj,abu,ej,H,q,w]<;>omega) ?_;refine again (j+1,jS u dg aJ (bU u)[j]) (ac) ⟨ac,v,by unfold jS;rw[qI];exact q,?_,λi hi=>?_⟩ ⟨⟨W,aj8 (gu) ?_⟩,G,G,G,G,G,G,G,G,U⟩;unfold jS;refine BX.set (r.mono<|ac) ?_;dsimp only;omega;unfold jS;simp_all;rw[ej,H];rfl;have:j=(bU u).length:=E;subst this;rw[ahw]at v;refine r0 W<|iX aJ ⟨v.symm,q,r.mono E,F⟩;rintro rP⟨e1,l1,b1,g1⟩;rw[<-e1]at m;have K2:=t.getD gC u.out.toNat;have G4:=b1.getD gC u.out.toNat;refine Gb 1 (λaJ:L Int=>(12,gu aJ)::(13,.i k)::(14,.box true<|fb u)::lmK c p dg)
  (λaJ=>aJ=uf u dg rP/\aJ.length=n/\BX aJ 106/\∀j,j≠u.out.toNat->aJ.getD j 0=rt.getD j 0) ?_ ?_
 refine cv W W ?_ ?_<;>intro b;have b:u.kind=dO:=b;refine k1 W aP (by simp only[aj,abu,l1,w]<;>omega) ?_;refine meet (uf u dg rP) ⟨W,?_,?_,λj hj=>?_⟩ ⟨⟨W,aj8 (gu)<|by unfold uf;rw[abx b]⟩,G,G,G,G,G,G,U⟩;unfold uf;simp_all;unfold uf;rw[abx b];exact(b1.mono gC).set E;unfold uf;simp_all;have b:¬u.kind=dO:=b;refine r0 W<|iX rP ⟨?_,l1,b1.mono gC,g1⟩;unfold uf;rw[abl b];rintro M⟨e2,l2,b2,g2⟩;rw[<-e2]at m;have G3:=b2.getD gC u.out.toNat;refine Gb 1 (λaJ:L Int=>(12,gu aJ)::(13,.i k)::(14,.box true<|fb u)::lmK c p dg)
  (λaJ=>aJ=qK u dg M/\aJ.length=n/\BX aJ 112/\∀j,j≠u.out.toNat->aJ.getD j 0=rt.getD j 0) ?_ ?_
 refine cv W W ?_ ?_<;>intro b;have b:u.kind=bk:=b;have H6:=(hu.int b).1;have F4:Int.toNat 0=0:=W;have K0:=hu.feed _<|aN (d:=default)<|show 0<u.ai.length from E;have Fg:=t.getD gC (u.ai.getD 0 default).sh.toNat;refine k1 W aP (by simp only[aj,abu,l2,w,F4]<;>omega) ?_;refine meet (qK u dg M) ⟨W,?_,?_,λj hj=>?_⟩ ⟨⟨W,aj8 (gu)<|by unfold qK;rw[abx b];rfl⟩,G,G,G,G,G,G,U⟩;unfold qK;simp_all;unfold qK;rw[abx b];exact(b2.mono gC).set E;unfold qK;simp_all;have b:¬u.kind=bk:=b;refine r0 W<|iX M ⟨?_,l2,b2.mono gC,g2⟩;unfold qK;rw[abl b];rintro B⟨e3,l3,b3,g3⟩;rw[<-e3]at m;refine r1 W (by simp only[aj,abu,l3]<;>omega) ?_;refine cg W ?_ ?_<;>intro b;have b:c<B.getD u.out.toNat 0:=b;rw[abx b]at m;refine cm W W ?_;show false=wV p.aa n c;rw[m];rfl;have b:¬c<B.getD u.out.toNat 0:=b;rw[abl b]at m;refine r1 W bj<|aL (k+1,B) ⟨ac,m,l3,?_⟩;intro x T;obtain⟨i,hi,rfl⟩:=ajh.1 T;have e:B[i]=B.getD i 0:=(az hi).symm;refine⟨(b3 _ T).1,?_⟩;rw[e];by_cases D:i=u.out.toNat;rw[D];omega;rw[g3 i D];exact(Y.getD gC i).2;rw[agt E]at m;refine cm W W ?_;show true=wV p.aa n c;rw[m];rfl
def Bg(p:fZ):Bool:=decide (p.aa.length<=7/\p.n<=8/\gg p=0)&&(p.aa.all qD&&Pz p.aa p.n.toNat)
def WK{p:fZ}(h:Bg p=true):Z3 p=true:=by unfold Bg at h;unfold Z3;rw[adS,decide_eq_true_eq]at h⊢;exact⟨⟨E,E,h.1.2.2⟩,h.2⟩
def WJ(p:fZ)(h:uC p):ab 118 [bV p,.i 7] (.u<|Bg p):=by
 refine cx func118 W<|ck W 13 W ?_ ?_<;>intro g1;refine cm W W ?_;show false=Bg p;unfold Bg
 grind
 refine r1 W bg<|aI 20 W ?_ ?_<;>intro g2;refine cm W W ?_;show false=Bg p;unfold Bg
 grind
 refine cu W W (Dv p h) W<|cv W W ?_ ?_<;>intro m;refine cm W W ?_;show false=Bg p;unfold Bg;simp_all;have q:gg p=0:=ajZ.1 m;have A:Bg p=(p.aa.all qD&&Pz p.aa p.n.toNat):=by
  unfold Bg
  grind
 obtain⟨D,C,B,r⟩:=L5 q;rw[A];refine r0 W<|aU (λi:Nat=>[(2,.box true<|bV p),(5,.i i)]) (λi=>i<=p.aa.length/\p.aa.all qD=(p.aa.drop i).all qD) (λi=>p.aa.length-i) 0 ⟨abX _,W⟩ ?_;rintro i⟨hi,e⟩;refine cv W W ?_ ?_<;>intro x;have b:i<p.aa.length:=E;have o:(i:Int).toNat=i:=E;have y:p.aa.getD i default=p.aa[i]:=az b;have hu:=h.unit _<|ab3 b;rw[ad5 b,af5]at e;rw[e];refine r1 W (by simp[aj,abu,o]<;>omega) ?_;rw[o,y];generalize p.aa[i]=u at*;have v:=hu.ai;have t:=hu.c8;refine b8 W (sj u.k 6 hu.k gC) W<|r0 W<|iD 41 W ?_ ?_<;>intro j;refine cm W W ?_;show false=_;have:je u.k 6=false:=ZV j;unfold qD;rw[this];rfl;have k1:je u.k 6=true:=Ws j;refine cu W W (G6 u.c8 4 3 hu.OB E gC gC) W<|r0 W<|qq W W W ?_ ?_<;>intro g;refine cm W W ?_;show false=_;have:(decide (u.c8.length<=4)&&u.c8.all λs=>je s 3)=false:=ZV g;unfold qD;grind;have k2:(decide (u.c8.length<=4)&&u.c8.all λs=>je s 3)=true:=Ws g;have k3:qD u=u.ai.all λf=>je f.dQ 3:=by unfold qD;rw[k1,k2];rfl
 rw[k3];refine r0 W<|aU (λk:Nat=>[(2,.box true<|bV p),(5,.i i),(6,.box true<|fb u),(7,.i k)]) (λk=>k<=u.ai.length/\(u.ai.all λf=>je f.dQ 3)=(u.ai.drop k).all λf=>je f.dQ 3) (λk=>u.ai.length-k) 0 ⟨abX _,W⟩ ?_;rintro k⟨F,c⟩;refine cv W W ?_ ?_<;>intro w;have a:k<u.ai.length:=E;have n:(k:Int).toNat=k:=E;have z:u.ai.getD k default=u.ai[k]:=az a;have d:=hu.dQ _<|ab3 a;rw[ad5 a,af5]at c;rw[c];refine r1 W (by simp[aj,abu,n]<;>omega) ?_;rw[n,z];generalize u.ai[k]=f at*;refine b8 W (sj f.dQ 3 d gC) W<|r0 W<|qq W W W ?_ ?_<;>intro l;refine cm W W ?_;show false=_;simp_all;have k4:je f.dQ 3=true:=Ws l;rw[k4,ahL];refine r1 W bg<|aL (k+1) ⟨E,?_⟩;rfl;have:k=u.ai.length:=E;subst this;rw[c,ahw,List.all_nil,ahL];refine r1 W bg<|aL (i+1) ⟨E,?_⟩;rfl;have:i=p.aa.length:=E;subst this;rw[e,ahw,List.all_nil,ahL];refine cu W W (abw 6 gC gC p h E p.n.toNat E E E r) W<|cq W W
def PR(p:fZ):Bool:=Bg p&&decide (Bk (mb p.aa p.n.toNat (aW p.aa)++(Ck p.aa p.n.toNat<|aW p.aa).bq)=0)
def afz(p:fZ)(h:uC p):ab 42 [bV p,.i 7] (.u<|PR p):=by
 refine cx func42 W<|cu W W (WJ p h) W<|r0 W<|iD 8 W ?_ ?_<;>intro g;obtain⟨hm,e⟩:=Mq<|WK g;have d:=hm.read (m:=aW p.aa) W;have j:=hm.n9;have c:=hm.n0;have f:=hm.len;have a:∀u∈p.aa,gF p.n u:=λu hu=>by rw[e];exact hm.val u hu
 refine cu W W (O4 p h p.n.toNat (aW p.aa) e W c E E a d (by unfold wB;decide) gC<|by unfold wB;decide) W ?_;refine cu W W (J5 (Ck p.aa p.n.toNat<|aW p.aa) (mb p.aa p.n.toNat<|aW p.aa) (V:=aW p.aa+1) (K:=1012*wB+2) (λq b=>?_) ?_<|by unfold wB;decide) W ?_;rcases aeM.1 b with b|b;have:=d.sh _ (abY _) q b;exact⟨this.1,ai9 this.2 gC⟩;have:=d.rt _ (abY _) q b;exact⟨this.1,ai9 this.2 gC⟩;unfold mb;rw[ic];have:(Ck p.aa p.n.toNat<|aW p.aa).bq.length=aW p.aa:=kn _ _ _ _;have k:aW p.aa<=p.aa.length:=ahN;omega;refine cm W W<|aj8 SV.u ?_;unfold PR;rw[g,ahL];refine cm W W ?_;unfold PR;rw[g];rfl
def G5(d:Nat)(s:fG):Bool:=je s.lo d&&(je s.hi d&&decide (¬0<wY (bp s.lo) (bp s.hi)))
def Ui(l:L fG)(n d:Nat):Bool:=decide (l.length<=n)&&l.all (G5 d)
def FG(l:L fG)(n d:Nat)(hs:∀s∈l,cE s.lo/\cE s.hi)(hl:l.length<2^63)(hn:n<2^40)(m:d<2^40):ab 108 [aj2 l,.i n,.i d] (.u<|Ui l n d):=by
 refine cx func108 W<|cv W W ?_ ?_<;>intro g;refine cm W W ?_;show false=_;unfold Ui;rw[decide_eq_false E];rfl;refine r0 W ?_;have p:Ui l n d=l.all (G5 d):=by unfold Ui;rw[decide_eq_true E,ahL]
 rw[p];refine aU (λi:Nat=>[(0,aj2 l),(2,.i d),(7,.i i)]) (λi=>i<=l.length/\l.all (G5 d)=(l.drop i).all (G5 d)) (λi=>l.length-i) 0 ⟨abX _,W⟩ ?_;rintro i⟨hi,c⟩;refine cv W W ?_ ?_<;>intro g1;have a:i<l.length:=E;have b:(i:Int).toNat=i:=E;have e:l.getD i default=l[i]:=az a;obtain⟨k,j⟩:=hs _<|ab3 a;rw[ad5 a,af5]at c;refine r1 W (pj) ?_;obtain⟨s,o⟩:∃s,l[i]=s:=⟨_,W⟩;rw[o]at e k j c;rw[c,b,e];refine b9 W (sj s.lo d k m) W<|r0 W<|iD 26 W ?_ ?_<;>intro g2;refine k0 W aP<|aJ W ?_;show false=_;unfold G5;rw[ZV g2];rfl;have k1:je s.lo d=true:=Ws g2;refine r1 W (pj) ?_;rw[b,e];refine b9 W (sj s.hi d j m) W<|r0 W<|iD 36 W ?_ ?_<;>intro h;refine k0 W aP<|aJ W ?_;show false=_;unfold G5;rw[k1,ZV h];rfl;have k2:je s.hi d=true:=Ws h;have hc:=sD (bp s.lo) (bp s.hi) (eU (vr k1).1) (eU (vr k2).1) gC;rw[dU (vr k1).1,dU (vr k2).1]at hc;refine r1 W (pj) ?_;rw[b,e];refine b9 W hc W<|k0 W aP<|cg W ?_ ?_<;>intro f;refine cm W W ?_;show false=_;unfold G5;rw[k1,k2,decide_eq_false<|not_not_intro f];rfl;refine r1 W (am) ?_;refine aL (i+1) ⟨E,?_⟩;unfold G5;rw[k1,k2,decide_eq_true f];rfl;have:i=l.length:=E;subst this;rw[c,ahw,List.all_nil];refine cm W W W
def Z9(p:fZ)(rs:L fG):Bool:=PR p&&(wV p.aa p.n.toNat 4&&(decide ((rs.length:Int)=aW p.aa+1)&&Ui rs 8 4))
def Bw{p:fZ}(h:PR p=true):bQ p.aa p.n.toNat/\p.n=p.n.toNat/\p.aa.length<=7/\gg p=0/\Bk (mb p.aa p.n.toNat (aW p.aa)++(Ck p.aa p.n.toNat<|aW p.aa).bq)=0:=by unfold PR at h;rw[adS,decide_eq_true_eq]at h;obtain⟨a,b⟩:=Mq<|WK h.1;have c:=h.1;unfold Bg at c;rw[adS,decide_eq_true_eq]at c;exact⟨a,b,c.1.1,c.1.2.2,h.2⟩
def TZ(p:fZ)(b:uC p)(rs:L fG)(hs:∀s∈rs,cE s.lo/\cE s.hi)(hl:rs.length<2^63):ab 33 [bV p,aj2 rs] (.u<|Z9 p rs):=by
 refine cx func33 W<|cu W W (afz p b) W<|r0 W<|iD 7 W ?_ ?_<;>intro g1;obtain⟨hm,hn,g,f,-⟩:=Bw g1;have c:=hm.n0;have e:=hm.n9;have d:∀u∈p.aa,gF p.n u:=λu hu=>by rw[hn];exact hm.val u hu
 refine cu W W (abw 4 gC gC p b E p.n.toNat hn c E d) W<|r0 W<|iD 11 W ?_ ?_<;>intro g2;refine cu W W (mH p b) W ?_;have hc:aW p.aa<=8:=by have:aW p.aa<=p.aa.length:=ahN;omega
 refine r1 W (by simp[aj,abu];unfold aW at hc;omega) ?_;refine aI 19 W ?_ ?_<;>intro a;have a:(rs.length:Int)=aW p.aa+1:=a;refine cu W W (FG rs 8 4 hs hl gC gC) W<|cm W W<|aj8 SV.u ?_;unfold Z9;rw[g1,g2,decide_eq_true a];rfl;have a:¬(rs.length:Int)=aW p.aa+1:=a;refine cm W W ?_;show false=_;unfold Z9;rw[g1,g2,decide_eq_false a];rfl;refine cm W W ?_;show false=_;unfold Z9;rw[g1,g2];rfl;refine cm W W ?_;show false=_;unfold Z9;rw[g1];rfl
end Go.Ai
namespace Go.Ai.Pg
def J3:ab 109 [] (.agg [.i 2,.row true 5 [.agg [.s [105,110,116,101,103,114,97,116,111,114],.row true 2 [.agg [.i 1,.s [49]],.agg [.i 0,.s [49]]],.i 1,.s [49],.nil]],gu [1]]):=by refine cx func109 W<|cq W W
def afA:je [49] 3=true:=by unfold je;rw[mz];decide +kernel
def Pw{k:cj}(a:aV k=0)(b:je k 6=true):bQ (ou k).aa 2 where
 len:=by simp[ou]
 n0:=gC
 n9:=gC
 val:=λu h=>by
  have:u=tH k:=gl
  subst this;exact pD<|Vb a
 dr:=λs d c=>by obtain rfl:s=1:=E;simp[ou,tH]
 ord:=by show 1<=(aA [tH k]).length;rw[wj];decide
 PS:=λu h=>by
  have:u=tH k:=gl
  subst this;unfold qD tH;simp[b,afA]
 low:=by show Pz [tH k] 2=true;unfold Pz;rw[wj];rfl
def aaM(k:cj):aW (ou k).aa=1:=by simp[ou,tH,aW]
def VG{k:cj}(f:aV k=0)(g:je k 6=true):mb (ou k).aa 2 1=[iN 0 1,iN 1 1]:=by
 have hm:=Pw f g;have d:=hm.acv (m:=1);have e:au (ou k).aa 0=tH k:=by show au [tH k] 0=tH k;unfold au;rw[wj];rfl
 have c:=hm.acu (m:=1) (k:=0) (by simp[ou]) (by rw[e];rfl);rw[e]at c;have h:((aA (ou k).aa).getD 0 0).toNat=0:=by show((aA [tH k]).getD 0 0).toNat=0;rw[wj];rfl
 rw[h]at c;have hl:=ic (ou k).aa 2 1 (aA (ou k).aa).length;have hl:(mb (ou k).aa 2 1).length=2:=hl
 match hs:mb (ou k).aa 2 1,hl with
 |[a,b],_=>rw[hs]at d c;have d:a=iN 0 1:=d;have c:b=iN 1 1:=c;rw[d,c]
def agU:gD [⟨0,2⟩,⟨1,8⟩] (iN 0 1)=⟨0,2⟩:=by
 have h:(gD [⟨0,2⟩,⟨1,8⟩]<|iN 0 1).lo=0/\(gD [⟨0,2⟩,⟨1,8⟩]<|iN 0 1).hi=2:=be
 generalize gD [⟨0,2⟩,⟨1,8⟩] (iN 0 1)=q at*;obtain⟨a,b⟩:=q;simp_all
def agT:gD [⟨0,2⟩,⟨1,8⟩] (iN 1 1)=⟨1,8⟩:=by
 have h:(gD [⟨0,2⟩,⟨1,8⟩]<|iN 1 1).lo=1/\(gD [⟨0,2⟩,⟨1,8⟩]<|iN 1 1).hi=8:=be
 generalize gD [⟨0,2⟩,⟨1,8⟩] (iN 1 1)=q at*;obtain⟨a,b⟩:=q;simp_all
def afT:Sk qW=[⟨0,2⟩,⟨1,8⟩]:=by unfold Sk qW;simp[Rb,Cn,mz,LZ]
def Vw{k:cj}(a:aV k=0)(b:je k 6=true):pI (ou k).aa 2 1 qW=[⟨0,2⟩,⟨1,8⟩]:=by unfold pI;rw[VG a b,afT];simp[agU,agT]
def aag:ja 1=0:=by rw[qR];decide +kernel
def Bj(v:Nat)(a:v<2):jY (iN v 1)=0:=by unfold jY iN;rw[abl,abl I,abl];rintro⟨u,hu,h⟩;simp at hu;subst hu;exact h aag;rintro⟨u,hu,h⟩;simp at hu;subst hu;rcases(E:v=0\/v=1)with rfl|rfl<;>cases h
instance:DecidableEq aZ:=λa b=>decidable_of_iff (a.c=b.c/\a.pw=b.pw) (by cases a;cases b;simp)
def acH:iU (1*1) (jG (iN 1 1)<|ke [[]]<|iN 0 1)=iN 1 1:=be
def aeO{k:cj}(a:aV k=0)(b:je k 6=true):A7 (ou k).aa 2 1=[iN 1 1]:=by have e:aA (ou k).aa=[0]:=wj k;unfold A7 fI;rw[e,VG a b];show[yW [iN 0 1,iN 1 1] [[]]<|tH k]=_;unfold yW;have d:((tH k).ai.getD 0 default)=⟨1,[49]⟩:=W;have c:((tH k).ai.getD 1 default)=⟨0,[49]⟩:=W;rw[d,c,mz];exact aal (λx=>[x]) acH
def abk{k:cj}(c:aV k=0)(d:je k 6=true):rdE (ou k).aa 2 1=0:=by
 unfold rdE;rw[VG c d,aeO c d];refine a8.2 λx b=>?_;simp at b;rcases b with rfl|rfl;exact a8.2 λq a=>by simp at a;rcases a with rfl|rfl;exact Bj 0 gC;exact Bj 1 gC
 exact a8.2 λq a=>by simp at a;rw[a];exact Bj 1 gC
def Kn:je [49] 6=true:=by unfold je;rw[mz];decide +kernel
def Xl:je [50] 6=true:=by unfold je;rw[Cn];decide +kernel
def aaA:(pI (ou [49]).aa (ou [49]).n.toNat 1 qW).map HG=qW:=by rw[show pI (ou [49]).aa (ou [49]).n.toNat 1 qW=_ from Vw check_1 Kn];simp only[ad3,ahj,qW,<-Rb,<-Cn,<-LZ,<-mz,HG];rw[dU Sd,dU o5,dU Sc,dU check_1]
def ads{o:Oper}{x y:Operand}{a b:cj}{u:TypeId}(k:o.op=.binOp .eql 44 x y u):kf prog o [] [.agg [.s a,.s b],.agg [.s a,.s b]] [] (.b true):=by
 refine oU W W I ?_;intro w S m A hc j c;have g:prog.underlying 44=some (.struct<|prog.fieldsOf 44):=aP;have z:prog.stoodInHeld 44=false:=aP;have t:m=[.agg #[.string (bs a),.string<|bs b],.agg #[.string (bs a),.string<|bs b]]:=by
  simp only[aE,SV.den,Cells,Rel]at hc;obtain⟨p,M,Y,X,rfl,-,-,f,n,K,V,T,rfl,-,-,e,rfl,-⟩:=hc;have key:∀(v:Value)(F:L Nat),(∃i:Array Value,v=.agg i/\Cells w S true [.v<|.string<|bs a,.v<|.string<|bs b] i.toList F)->v=.agg #[.string (bs a),.string<|bs b]:=by rintro v F⟨⟨i⟩,rfl,h⟩;simp only[Cells,Rel]at h;obtain⟨H,m1,R,P,l,-,-,r1,D,J,O,N,C,-,-,q,B,-⟩:=h;rw[r1.2.1,C,q.2.1,B]at l;rw[l]
  rw[key p _<|by simp only[Cells,Rel];exact f,key n _<|by simp only[Cells,Rel];exact e]
 have r:j x=.agg #[.string (bs a),.string<|bs b]/\j y=.agg #[.string (bs a),.string<|bs b]:=by
  have:o.op.operands.toList=[x,y]:=by rw[k];rfl
  rw[this,t]at c;simp[ad3,ahj,List.cons.injEq,abu]at c;exact c
 have d:(binOp .eql 44 (.agg #[.string (bs a),.string<|bs b])<|.agg #[.string (bs a),.string<|bs b]).run prog w=.ok (.bool true) w:=by
  rw[run_eql_struct,show(10000:Nat)=9999+1 from W,run_equalIn_agg w 9999 44 _ _ g z];simp[Program.fieldsOf,underlying44]
  go_simp
 refine⟨.value<|.bool true,.bool true,w,?_,.inl W,S,[],⟨W,W,W,abY _,λ_ _=>rfl⟩,λ_ h=>h,λ_ h=>.inl h,λb h=>A b h,ep,aee,I⟩;simp[execOp,k,r,run_eqGuard_agg,hm,d]
def V5:ab 10 [bV<|ou [49],aj2 qW] (.de [aj2 qW,.i 0]):=by
 have h:=HT (ou [49]) th qW By Kq (JN check_1) (Pw check_1 Kn) W W abE (abk check_1 Kn) (by
  rw[show pI (ou [49]).aa (ou [49]).n.toNat (aW (ou [49]).aa) qW=_ from Vw check_1 Kn];exact a8.2 (by intro s h;simp at h;rcases h with rfl|rfl<;>decide +kernel))
 have e:(pI (ou [49]).aa (ou [49]).n.toNat 1 qW).map (λq=>(XB q).den)=qW.map λx=>(fc x).den:=by have a:=aal (List.map λx=>(fc x).den) aaA;rwa[af9]at a
 exact h.same W (by rw[show aW (ou [49]).aa=1 from W];simp[SV.den,aE,e])
def aeY:qt 64=[54,52]:=by
 have e:decl 64 1=[54,52]:=by rw[bu gC,bu gC,dm];rfl
 exact(Eo 64).trans e
def acL:qt 512=[53,49,50]:=by
 have e:decl 512 1=[53,49,50]:=by rw[bu gC,bu gC,bu gC,dm];rfl
 exact(Eo 512).trans e
def ago:qt (bp [49]*iO 6)=[54,52]:=by rw[mz,show(1:Rat)*iO 6=64 from be,aeY]
def aeu:qt (bp [56]*iO 6)=[53,49,50]:=by rw[LZ,show(8:Rat)*iO 6=512 from be,acL]
def acQ:uC (ou [50]):=abn (lf)
def ZB:ab 55 [bV<|ou [50]] (.de [aaF<|Ck (ou [50]).aa 2 1,oE false<|mb (ou [50]).aa 2 1,.i 0]):=by exact Ra _ acQ 2 1 W (Pw o5 Xl) (aaM _).symm (JN o5)<|abk o5 Xl
def adP:ab 38 [gN,xR,oc Xr] (.de [XA false [9,6] [[2,7]],.i 0]):=by have b:gi qS qW Xr=adB:=aaO;have a:qz qS=2:=W;have h:=X5 qS th qW By Kq Xr (ZM Xr ag3) (by rw[b,a];decide +kernel);have c:GY qS qW Xr [0,9,6] qS.aa.length=[[tE qW Xr CD 0,6-tE qW Xr CD 0+3]]:=W;rw[b,a,show(dI adB 2).v=[0,9,6] from be,c,afr Xr W]at h;exact(h.same W W).K9<|.cons aat<|.cons (.refl _)<|.cons (.refl _) .nil
def Tp:ab 10 [gN,xR] (.de [xR,.i 0]):=V5.K9<|.cons aat<|.cons (.refl _) .nil
def Y0:ab 110 [gN,xR,sX] (.de [.row true 2 [tX [48] [50] 9,.agg [.s [54,52],.s [53,49,50]]],.i 0]):=by have h:=Vd;unfold tL tX at h;rwa[ago,aeu]at h
def mF:ab 35 [] (.b true):=by refine cx func35 W<|cu W W J3 W<|cu W W (S9.same W W) W<|cu W W (Tp.same W W) W<|cu W W (adP.same W W) W<|cu W W (Y0.same W W) W<|cu W W (ZB.same W W) W ?_;unfold Ck;refine r1 W (aQ W)<|aI 58 W (λ_=>?_) λg=>abK gC g;refine r1 W (aQ W)<|aI 63 W (λ_=>?_) λg=>abK gC g;refine r1 W (aQ W)<|oA W W W (kf.same (ads (a:=[54,52]) (b:=[53,49,50]) W) W W W W) W<|r1 W (aQ W)<|aI 76 W (λ_=>?_) λg=>abK gC g;refine r1 W (aQ W)<|aI 0 W (λ_=>?_) λg=>abK gC g;exact bY W
def Ul(box:L QS)(p:L aZ):(gD box p).lo<=(gD box p).hi:=by
 have:∀(p:L aZ)(s:QS),s.lo<=s.hi->(p.foldl (λs t=>KV s<|kD box t _) s).lo<=(p.foldl (λs t=>KV s<|kD box t box.length) s).hi:=λp=>by
  induction p with
  |nil=>simp_all
  |cons t p a=>exactλs h=>a _ (by have:=HC box t box.length;unfold KV;grind)
 exact this p _ Rat.le_refl
def acm{q:QS}(h:mG q=0)(b:q.lo<=q.hi):fP (HG q)=0/\cE (HG q).lo/\cE (HG q).hi:=by
 have a:Dc q.lo 600/\Dc q.hi 600:=by unfold mG at h;split at h;cases h;rename_i g;simpa[qR]using g
 have d:=Gj a.1;have c:=Gj a.2;have e:∀{q:Rat},aV _=0->bp _=q:=λh=>Er.1<|dU h;have i:=td a.1;have f:=td a.2;refine⟨?_,by unfold cE HG;dsimp only;omega,by unfold cE HG;dsimp only;omega⟩;unfold fP HG;rw[e d,e c];have:=oZ.2 b;simp;omega
def Uh{s:fG}(h:G5 4 s=true):fP s=0/\GI ⟨bp s.lo,bp s.hi⟩:=by unfold G5 je at h;simp at h;obtain⟨⟨-,a,b⟩,⟨-,c,d⟩,e⟩:=h;refine⟨by unfold fP;simp[a,c,e],?_⟩;have:=b.lt;have:=d.lt;unfold GI;dsimp only;omega
def Rn{p:fZ}{rs:L fG}(h:Z9 p rs=true):PR p=true/\wV p.aa p.n.toNat 4=true/\(rs.length:Int)=aW p.aa+1/\∀s∈rs,fP s=0/\GI ⟨bp s.lo,bp s.hi⟩:=by unfold Z9 Ui at h;simp at h;exact⟨h.1,h.2.1,h.2.2.1,λs hs=>Uh<|h.2.2.2.2 s hs⟩
def aff{p:fZ}{rs:L fG}(h:Z9 p rs=true):rdE p.aa p.n.toNat (aW p.aa)=0/\bE mG (pI p.aa p.n.toNat (aW p.aa) rs)=0/\my p.n ((pI p.aa p.n.toNat (aW p.aa) rs).map HG)=0/\∀s∈(pI p.aa p.n.toNat (aW p.aa) rs).map HG,cE s.lo/\cE s.hi:=by
 obtain⟨o,m,hl,hs⟩:=Rn h;obtain⟨j,hn,hu,r,b⟩:=Bw o;have l:rdE p.aa p.n.toNat (aW p.aa)=0:=by have b:=a8.1 b;unfold rdE;rw[a8.2 λq a=>b q<|List.mem_append_left _ a,show bE _ (A7 _ _ _)=0 from a8.2 λq a=>b q<|List.mem_append_right _ a];rfl
 have k:∀s∈Sk rs,GI s:=λs d=>by obtain⟨t,g,rfl⟩:=ab4.1 d;exact(hs t g).2
 have i:=j.agQ hu m W k (by rw[Sj];omega);have a:∀q∈pI _ _ _ rs,mG q=0/\q.lo<=q.hi:=λq a=>by obtain⟨t,g,rfl⟩:=ab4.1 a;exact⟨i t g,Ul _ _⟩
 have c:∀s∈(pI p.aa p.n.toNat (aW p.aa) rs).map HG,fP s=0/\cE _/\cE _:=λs d=>by obtain⟨q,e,rfl⟩:=ab4.1 d;exact acm (a q e).1 (a q e).2
 refine⟨l,a8.2 λq h=>(a q h).1,?_,λs h=>(c s h).2⟩;have f:(((pI p.aa p.n.toNat (aW p.aa) rs).map HG).length:Int)=p.n:=by rw[adZ];unfold pI;rw[adZ,show(mb _ _ _).length=p.n.toNat from ic _ _ _ _];exact hn.symm
 unfold my;rw[abl<|by rw[f];simp];exact a8.2 λs h=>(c s h).1
def aeq{cs:L jz}(v:Int->Int):∀(l:L Int)(p:Int),KL cs p l->(∀i∈l,v (vP cs i).less<=v (vP cs i).oI+(vP cs i).dM)->
 v (vP cs<|l.getLastD p).less<=v (vP cs p).less+vO cs l
 |[],p,_,_=>by simp[vO]
 |i::l,p,h,g=>by have c:=aeq v l i h.2 λj a=>g j<|aiG _ a;have b:=g i<|ahQ ..;rw[h.1]at b;unfold vO at*;simp only[ad3,ajM,List.getLastD_cons]at*;omega
def CV{cs:L jz}{l:L Int}(h:CX cs l=0)(v:Int->Int):(∀i∈l,0<=i/\i.toNat<cs.length)/\∃i∈l,v (vP cs i).oI+(vP cs i).dM<v (vP cs i).less:=by
 unfold CX at h;split at h;cases h;split at h;cases h;split at h;cases h;rename_i b;split at h;cases h;rename_i a;split at h;cases h;refine⟨λi hi=>N5 λe=>b ⟨i,hi,e⟩,aiY λhn=>?_⟩;have:=aeq v l _ (ajY.1 a) λi hi=>Int.not_lt.1 λg=>hn ⟨i,hi,g⟩;have e:l.getLastD (l.getD (l.length-1) 0)=l.getD (l.length-1) 0:=by
  cases l with
  |nil=>rfl
  |cons x l=>rw[List.getLastD_cons];grind
 rw[e]at this;omega
def xn(w:Nat):Nat->Nat
 |0=>w
 |i+1=>xn w i/3+7919*(xn w i%81)
def Ss{w:Nat}(h:w<2^32):∀i,xn w i<2^32
 |0=>h
 |i+1=>by have:=Ss h i;unfold xn;omega
def u6(w i:Nat):L Int:=(List.range i).map λj=>((xn w j%81:Nat):Int)-40
def zH(w i:Nat):(u6 w i).length=i:=by simp[u6]
def TL(w i:Nat):u6 w (i+1)=u6 w i++[((xn w i%81:Nat):Int)-40]:=by unfold u6;rw[ahs,adW];rfl
def ac2(w i j:Nat): -40<=(u6 w i).getD j 0/\(u6 w i).getD j 0<=40:=by rw[ad8];by_cases h:j<i;rw[ad7<|by rwa[zH]];simp[u6];omega;rw[agc<|by rw[zH];omega];simp_all
def cV(V:L Int)(k:Int):Int:=if 0<=k then V.getD k.toNat 0 else 0
def UF(cs:L jz)(V l:L Int)(i:Nat):Bool:=(l.take i).any λx=>decide (cV V (vP cs x).oI+(vP cs x).dM<cV V (vP cs x).less)
def X1{cs:L jz}{V l:L Int}{i:Nat}(h:i<l.length):UF cs V l (i+1)=(UF cs V l i||decide (cV V (vP cs l[i]).oI+(vP cs l[i]).dM<cV V (vP cs l[i]).less)):=by unfold UF;rw[adY h,List.any_append];simp
def aaY{cs:L jz}{l:L Int}(V:L Int)(h:CX cs l=0):UF cs V l l.length=true:=by obtain⟨i,hi,g⟩:=(CV h _).2;unfold UF;rw[aed,List.any_eq_true];exact⟨i,hi,decide_eq_true g⟩
def afN{V:L Int}(h:∀j,-40<=V.getD j 0/\V.getD j 0<=40)(k:Int): -40<=cV V k/\cV V k<=40:=by unfold cV;split;exact h _;simp_all
def zA(p:fZ)(box:L fG)(w:Nat)(b:iM)(rs:L fG)(cr:L Int):L (Nat×SV):=[(3,.box true<|bV p),(4,.box true<|.agg [aj2 box,.n .u32 w]),(5,.box true<|oc b),(7,aj2 rs),(9,gu cr),(13,aj7<|gi p rs b)]
def zB(p:fZ)(box:L fG)(w:Nat)(b:iM)(rs:L fG)(cr V:L Int)(i:Nat):L (Nat×SV):=(17,.u<|UF (gi p rs b) V cr i)::(118,.bH 9 0 0 [])::(119,.i cr.length)::(120,.i i)::(15,gu V)::zA p box w b rs cr
def LX(p:fZ)(q:uC p)(box:L fG)(hs:∀s∈box,cE s.lo/\cE s.hi)(hl:box.length<2^63)(w:Nat)(hw:w<2^32)(b:iM):
 ab 6 [bV p,.agg [aj2 box,.n .u32 w],oc b] (.b true):=by
 refine cx func6 W<|cu W W (TZ p q box hs hl) W<|r0 W<|iD 30 W ?_ ?_<;>intro g1;refine cu W W mF W<|cq W W;have J:Z9 p box=true:=lw
 obtain⟨h7,hL,K,Z⟩:=Rn J;obtain⟨hd,hn,hu,hz,-⟩:=Bw h7;obtain⟨hR,F0,u,l⟩:=aff J;have N:aW p.aa<=8:=by have:aW p.aa<=p.aa.length:=ahN;omega
 refine cu W W (sG b) W<|cv W W ?_ ?_<;>intro g;refine cu W W mF W<|cq W W;have G4:tY b=0:=ajZ.1 g;have y:=HT p q box hs E hz hd hn K (a8.2 λs h=>(Z s h).1) hR F0;have D:(((pI p.aa p.n.toNat (aW p.aa) box).map HG).length:Int)=p.n:=(yX u).len;have H2:=hd.n9;have y:ab 10 [bV p,aj2 box] (.de [aj2<|(pI p.aa p.n.toNat (aW p.aa) box).map HG,.i 0]):=y.same W (by simp only[SV.den,aE,af9];rfl);generalize (pI p.aa p.n.toNat (aW p.aa) box).map HG=rs at*;have e:rs.length<2^40:=E;have M:=Av p rs l e;rw[u]at M;refine cu W W y W<|ck W 45 W (λg=>abK W g) λ_=>?_;refine cu W W M W<|cv W W (λg=>abK W g) λ_=>?_;have A0:nc p rs=0:=by unfold nc;rw[abl<|by rw[hz];simp,u]
 have cH:∀{c:iM},tY c=0->oD p rs c=0:=λh=>by unfold oD;rw[abl<|by rw[A0];simp,h]
 have H:=cH G4;have r:=VW p q rs l e b H;by_cases F:(dI (gi p rs b)<|qz p).l= -1;rw[abx F]at r;refine cu W W r W<|cv W W (λ_=>?_) λg=>abK W g;refine cu W W (X5 p q rs l e b H F) W<|ck W 69 W (λ_=>?_) λg=>abK W g;refine cu W W mF W<|cq W W;rw[abl F]at r;have v:=nh H;obtain⟨m,H3,H1⟩:=KF q e v;obtain⟨j,F3⟩:=aaR m (by have:=Ar p.aa p.aa.length;unfold qz;omega) F;have G1:(od (gi p rs b)<|qz p).length<=256:=by unfold CX at j;split at j;cases j;split at j;cases j;omega
 have E1:=O3 p q rs l e b H (gi p rs b) W m.b E (od (gi p rs b)<|qz p) E j;have F4:=XQ p q rs l e b H;refine cu W W r W<|cv W W (λg=>abK g gC) λ_=>?_;refine cu W W F4 W ?_;have F1:kK p.n.toNat p.aa rs b=gi p rs b:=W;rw[F1];have N:=m.i;have G0:=m.b;have G2:=CV j;have B:=λV=>aaY V j;generalize od (gi p rs b) (qz p)=cr at*;refine ck W 81 W (λg=>abK W g) λ_=>?_;refine ck W 85 W (λg=>abK W g) λ_=>?_;refine r1 W bd<|aI 90 W (λg=>?_) λ_=>?_;exact abK (ajg (by have g:(cr.length:Int)=0:=g;omega)) F3;refine cu W W E1 W<|cv W W (λg=>abK W g) λ_=>?_;refine cu W W (ZW p q v.n1 v.n v.aa) W<|r0 W<|aU (λi:Nat=>(15,gu<|u6 w i)::(16,.n .u32 (xn w i:Nat))::(101,.i (qz p:Nat))::(102,.i i)::zA p box w b rs cr) (λi=>i<=qz p) (λi=>qz p-i) 0 (abX _) ?_;intro i hi;have H5:=Ss (E:w<2^32) i;refine cv W W ?_ ?_<;>intro g;have es:=TL w i;have E2:=zH w i;refine r1 W (by simp only[aj,abu,acC,ad1,E2];omega) ?_;refine again (i+1) E E ⟨⟨W,aj8 (gu) ?_⟩,⟨W,aj8 (SV.n .u32) ?_⟩,G,G,G,G,G,G,G,G,U⟩;rw[es];rfl;have ew:∀a:Int,IntKind.u32.wrap a=a%2^32:=λ_=>rfl;have eb:xn w (i+1)=xn w i/3+7919*(xn w i%81):=W;rw[ew,ew,ew,aiI E,eb];omega;have C:i=qz p:=E;subst C;have hV:=zH w<|qz p;have S:=ac2 w<|qz p;have B:=B<|u6 w<|qz p;generalize u6 w (qz p)=V at*;have P:=(G2 λ_=>0).1;have K0:gi p rs b=gi p rs b:=W;refine r0 W<|aU (λi:Nat=>zB p box w b rs cr V i) (λi=>i<=cr.length) (λi=>cr.length-i) 0 (abX _) ?_;intro i hi;refine cv W W ?_ ?_<;>intro g;have A:i<cr.length:=E;have C:(i:Int).toNat=i:=E;obtain⟨x0,Y⟩:=P _<|ab3 A;have f:=X1 (cs:=gi p rs b) (V:=V) A;have hc:=N _<|ab3 Y;have F2:=G0 _<|ab3 Y;rw[<-az (d:=(default:jz)) Y]at hc F2;rw[show vP (gi p rs b) cr[i]=(gi p rs b).getD cr[i].toNat default from W]at f;refine r1 W (by simp only[aj,abu,C];omega) ?_;rw[C,az A];generalize cr[i]=x at*;refine aI 126 W (λg=>abK g E) λ_=>?_;refine ck W 132 W (λg=>abK g E) λ_=>?_;refine r1 W (am) ?_;refine aI 142 W (λg=>abK g E) λ_=>?_;refine r1 W (am) ?_;refine aI 152 W (λg=>abK g E) λ_=>?_;refine r1 W (am) ?_;refine aI 160 W (λg=>abK g E) λ_=>?_;refine r1 W (am) ?_;refine cg W (λg=>abK g E) λ_=>?_;have cL:∀k:Int,0<=k->cV V k=V.getD k.toNat 0:=λk h=>abx h;have cN:∀k:Int,¬0<=k->cV V k=0:=λk h=>abl h;refine UW 1 W U<|cU 2 ((19,.i x)::(20,.i<|cV V ((gi p rs b).getD x.toNat default).less)::(21,.i 0)::zB p box w b rs cr V i) True ?_ λ_=>?_;refine r1 W (am) ?_;refine cg W ?_ ?_<;>intro g;refine r1 W (am) ?_;rw[cL _ g];exact bo U;refine r0 W ?_;rw[cN _ g];exact bo U;refine cU 1 ((19,.i x)::(20,.i<|cV V ((gi p rs b).getD x.toNat default).less)::(21,.i<|cV V ((gi p rs b).getD x.toNat default).oI)::zB p box w b rs cr V i) True ?_ λ_=>?_;refine r1 W (am) ?_;refine cg W ?_ ?_<;>intro g;refine r1 W (am) ?_;rw[cL _ g];exact bo U;refine r0 W ?_;rw[cN _ g];exact bo U;have b1:=afN S ((gi p rs b).getD x.toNat default).less;have b2:=afN S ((gi p rs b).getD x.toNat default).oI;refine r0 W<|iD 197 W ?_ ?_<;>intro h;rw[h,Bool.true_or]at f;refine r1 W (am) ?_;exact again (i+1) E E ⟨⟨W,f.symm⟩,mv,G,G,G,G,G,G,G,G,G,U⟩;rw[h,aiE]at f;refine r1 W (am) ?_;exact again (i+1) E E ⟨⟨W,f.symm⟩,mv,G,G,G,G,G,G,G,G,G,U⟩;have C:i=cr.length:=E;subst C;refine r0 W<|qq W W W ?_ ?_<;>intro g;rw[B]at g;cases g;have O:=v.bn;have H4:=O.s;have H6:=O.g;have T:IntKind.u32.wrap ((w:Int).tdiv 3)=((w/3:Nat):Int):=by show(w:Int).tdiv 3%2^32=_;rw[aiI E];omega
 refine k1 W aP (by simp only[aj,abu,T];omega) ?_;rw[T];have R:BLe ⟨b.c,b.d,b.s-(w:Int)%3,b.g-((w/3:Nat):Int)%3⟩ b:=⟨W,W,ac,ac⟩;generalize X:(⟨b.c,b.d,b.s-(w:Int)%3,b.g-((w/3:Nat):Int)%3⟩:iM)=lo at*;have o:=sG lo;by_cases z:tY lo=0;have t:=cH z;have D:(dI (gi p rs lo)<|qz p).l≠ -1:=λh=>F (Ta m<|Ze R<|HO (KF q e<|nh t).1 h).1;have G3:=aa2 p q rs l e lo t D;rw[z]at o;subst X;refine b8 W o W<|cv W W (λg=>abK W g) λ_=>?_;refine cu W W G3 W<|ck W 242 W (λ_=>?_) λg=>abK W g;refine cu W W mF W<|cq W W;subst X;refine b8 W o W<|cv W W (λ_=>?_) λg=>abK z g;refine cu W W mF W<|cq W W
end Go.Ai.Pg
namespace Go.Ai.Pg
open Go Go.Proofs Go.Ai Go.Ai.bI Go.RowKit Go.Proofs.Tryz
def o83:gX prog 83 (λw:Nat=>.n .u32 w) λw=>w<2^32:=λa=>by obtain⟨n,rfl,-,h⟩:=DataW.trod_int underlying83 a;simp[Lit.wf,IntKind.min,IntKind.max,IntKind.signed,IntKind.bits]at h;obtain⟨m,rfl⟩:∃m:Nat,n=m:=⟨n.toNat,E⟩;exact⟨m,_,E,W,W,λS b=>ep⟩
def o85:vW prog 85 2 (λa:L fG×Nat=>.agg [aj2 a.1,.n .u32 a.2]) λa=>(AN a.1/\∀s∈a.1,AN s.lo/\AN s.hi)/\a.2<2^32:=λ{H j w _ e x}c=>by
 obtain⟨a,o,h,l,g,r0⟩:=jH underlying85 c (i:=0) W aP o26;obtain⟨b,m,g1,k,f,r1⟩:=jH underlying85 c (i:=1) W aP o83;have hl:e.length=2:=(mV underlying85 c).trans aP
 match e,hl with
 |[_,_],hl=>cases l;cases k;exact⟨(a,b),⟨h,g1⟩,hl,λS d=>wc<|ee g (r0 S d)<|ee f (r1 S d) sJ⟩
def Tk(p:fZ)(a:uC p)(rs:L fG)(w:Nat)(e:AN rs)(d:∀s∈rs,AN s.lo/\AN s.hi)(c:w<2^32)(b:iM):ab 6 [bV p,.agg [aj2 rs,.n .u32 w],oc b] (.b true):=LX p a rs d e w c b
end Go.Ai.Pg
