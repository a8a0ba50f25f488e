/- Parts of the proof of ScaleKeeps (as AIM.md's row tells), at every input, with no further conditions. -/
import Derived.Test.YtpoaaoihkhdijaaGreatDoorKZAM
set_option linter.all false
set_option maxRecDepth 100000
set_option maxHeartbeats 0
namespace Go.Ai.Pg
open Go.Proofs Go.Ai Go.Ai.eE
section
variable{fs:List Hi}{L:List Int}{i:Nat}
def QW(p:gV)(L:List Int)(u:bT):aM Tryz.prog 260 [bh p,.ints .i64 false L,dQ u] (.fn (.func 300) [] [.box false<|dQ u,.box false<|.ints .i64 false L]):=by
 refine bS Tryz.func260 W<|cx 1 [(4,.box true<|.ints .i64 false L),(5,.box true<|dQ u)] True ?_ λ_=>?_
 ·refine bL W U ⟨G,G,U⟩
 refine oN (r:=4) (p:=[]) W W U<|oN (r:=5) (p:=[]) W W U<|bN W W
def MH(u:bT):aM Tryz.prog 295 [dQ u] (.bA false 2 default oX u.ah):=by refine bS Tryz.func295 W<|bN W W
def Ue(u:bT)(h:1<=u.ah.length):aM Tryz.prog 296 [dQ u] (.bA false 2 default oX<|u.ah.drop 1):=by refine bS Tryz.func296 W<|r1 W (by simp[ag];omega) ?_;have e:(u.ah.drop (1:Int).toNat).take (u.ah.length-(1:Int).toNat)=u.ah.drop 1:=abB I;exact aE W<|ar.of_eq<|congrArg (SV.bA false 2 default oX) e
def mu(L:List Int)(fs:List Hi):List Int:=(fs.map λf=>L.getD f.sh.toNat 0).filter λi=>decide (0<=i)
def Ev(h:i<fs.length):mu L (fs.take<|i+1)=mu L (fs.take i)++if 0<=L.getD fs[i].sh.toNat 0 then[L.getD fs[i].sh.toNat 0]else[]:=by
 unfold mu;rw[abR h,abQ,List.filter_append];by_cases g:0<=L.getD fs[i].sh.toNat 0
 ·rw[if_pos g];simp only[ab8,acX,List.filter_cons,decide_eq_true g,if_true,List.filter_nil]
 rw[if_neg g];simp only[ab8,acX,List.filter_cons,decide_eq_false g,acQ,if_false,List.filter_nil]
def KW(h:i<fs.length):mu L fs=mu L (fs.take i)++((if 0<=L.getD fs[i].sh.toNat 0 then[L.getD fs[i].sh.toNat 0]else[])++mu L (fs.drop<|i+1)):=by rw[<-abG,<-Ev h];unfold mu;rw[<-List.filter_append,<-abQ,aed]
def SJ(b:Nat->Bool)(n m:Nat):Prop:=(∀k,k<n->(∀j,j<k->b j=true)->b k=false->m=k+1)/\((∀k,k<n->b k=true)->m=n)
def OA(u:bT)(hu:XH u){n:Int}(t:iQ n u)(L:List Int)(K:n<=L.length)(b:Nat->Bool)(m:Nat)(hm:SJ b (mu L<|cR u).length m)(C:Value->Prop)(J:Nat->tD)
 (D:∀v,C v->∀k,k<(mu L<|cR u).length->(∀j,j<k->b j=true)->Yields Tryz.prog (J k) (J<|k+1) (aB [.i<|(mu L<|cR u).getD k 0]) (b k) v):
 lp Tryz.prog 300 [.abs<|J 0] [.pv C,.box false<|dQ u,.box false<|.ints .i64 false L] [.abs<|J m] (.bW []):=by
 have H:=hu.ah;have F:(cR u).length<2^40:=by unfold cR;split<;>simp<;>omega
 have p:∀f∈cR u,0<=f.sh/\f.sh<n:=λf z=>by
  have:f∈u.ah:=by
   unfold cR at z;split at z
   ·exact adg z
   exact z
  have:=t.feed f this;exact⟨this.1,this.2.1⟩
 refine sE (fn:=Tryz.f300) Tryz.func300 W W W W W<|cx 1 [(0,.pv C),(1,.box false<|dQ u),(2,.box false<|.ints .i64 false L),(13,.bA false 2 default oX<|cR u),(14,.i (cR u).length),(15,.i 0),(1000000,.abs<|J 0)] True ?_ λ_=>?_
 ·refine bO W W MG W<|r0 W ?_;rcases t.kind with h|h|h
  ·have a:cR u=u.ah.drop 1:=by unfold cR;rw[if_pos h]
   refine SQ kI W W W (gq (k:=u.kind) (x:=kI) Tryz.underlying337 Tryz.underlying9 (by rw[h];exact I6) W false) W ?_;refine bO W W (Ue u (by have:=(t.int h).1;omega)) W ?_;refine k0 W aW ?_;rw[<-a];exact aN U ⟨G,G,G,G,G,G,W,U⟩
  ·have a:cR u=u.ah:=by unfold cR;rw[if_neg<|by rw[h];exact Gp.symm]
   refine SQ kA W W W (gq (k:=u.kind) (x:=kA) Tryz.underlying337 Tryz.underlying9 (by rw[h];exact I7) W false) W ?_;refine bO W W (MH u) W<|k0 W aW ?_;rw[<-a];exact aN U ⟨G,G,G,G,G,G,W,U⟩
  have a:cR u=u.ah:=by unfold cR;rw[if_neg<|by rw[h];exact wm.symm]
  refine SQ kT W W W (gq (k:=u.kind) (x:=kT) Tryz.underlying337 Tryz.underlying9 (by rw[h];exact I5) W false) W ?_;refine bO W W (MH u) W<|k0 W aW ?_;rw[<-a];exact aN U ⟨G,G,G,G,G,G,W,U⟩
 generalize cR u=fs at*;refine bM W (λi:Nat=>[(0,.pv C),(2,.box false<|.ints .i64 false L),(13,.bA false 2 default oX fs),(14,.i fs.length),(15,.i i),(1000000,.abs<|J (mu L<|fs.take i).length)]) (λi=>i<=fs.length/\∀j,j<(mu L<|fs.take i).length->b j=true) (λi=>fs.length-i) 0 ⟨aaM _,λj s=>by simp[mu]at s⟩ ⟨G,G,G,G,G,W,U⟩ ?_;rintro i⟨hi,q⟩;refine bQ W W ?_ ?_<;>intro g
 ·have d:i<fs.length:=E;have A:(i:Int).toNat=i:=E;have B:fs.getD i default=fs[i]:=au d;obtain⟨N,M⟩:=p _<|abw d;have hs:=Ev (L:=L) d;have o:=KW (L:=L) d;refine r1 W (by simp only[ag,and_true,A,B];omega) ?_;rw[A,B];obtain⟨c,hc⟩:∃c,c=(mu L<|fs.take i).length:=⟨_,W⟩;rw[<-hc]at q⊢;refine aC 26 W ?_ ?_<;>intro g2
  ·have g2:0<=L.getD fs[i].sh.toNat 0:=g2;rw[if_pos g2]at hs o;have y:c<(mu L fs).length:=by rw[o];simp;omega
   have w:(mu L fs).getD c 0=L.getD fs[i].sh.toNat 0:=by rw[o,abx,acu E,hc];simp
   refine r0 W<|yk W W U (λv t=>by have:=D v t c y q;rw[w]at this;exact this) W ?_;refine r0 W<|ni W W W ?_ ?_<;>intro r
   ·have r:b c=false:=by simpa using r
    have:=hm.1 c y q r;subst this;refine r0 W<|SN [(1000000,.abs<|J<|c+1)] ⟨W,U⟩ W U ⟨G,U⟩
   have r:b c=true:=by simpa using r
   refine r1 W (by simp[ag,and_true];omega) ?_;have l:(mu L<|fs.take<|i+1).length=c+1:=by rw[hs,abE,<-hc];rfl
   refine again (i+1) E ⟨E,λj s=>?_⟩ ⟨G,G,G,G,G,?_,U⟩
   ·rw[l]at s;by_cases e:j=c
    ·rw[e];exact r
    exact q j E
   rw[l];rfl
  have g2:¬0<=L.getD fs[i].sh.toNat 0:=g2;rw[if_neg g2,acj]at hs;refine r1 W (by simp[ag,and_true];omega) ?_;refine again (i+1) E ⟨E,λj s=>?_⟩ ⟨G,G,G,G,G,?_,U⟩
  ·rw[hs,<-hc]at s;exact q j s
  rw[hs,<-hc];rfl
 have:i=fs.length:=E;subst this;rw[acz]at q⊢;have:=hm.2 q;subst this;refine r0 W<|SN [(1000000,.abs<|J (mu L fs).length)] ⟨W,U⟩ W U ⟨G,U⟩
end
def EZ(b:Nat->Bool):∀n,∃m,SJ b n m/\(((∀k,k<n->b k=true)/\m=n)\/∃k,k<n/\m=k+1/\b k=false/\∀j,j<k->b j=true)
 |0=>⟨0,⟨λk d=>E,λ_=>rfl⟩,.inl ⟨λk d=>E,W⟩⟩
 |n+1=>by
  obtain⟨m,p,f⟩:=EZ b n;rcases f with⟨f,rfl⟩|⟨k,k1,rfl,k3,k4⟩
  ·cases i:b m with
   |true=>
    have c:∀k,k<m+1->b k=true:=λk d=>by
     by_cases e:k=m
     ·rw[e];exact i
     exact f k E
    exact⟨m+1,⟨λk d g a=>by rw[c k d]at a;simp at a,λ_=>rfl⟩,.inl ⟨c,W⟩⟩
   |false=>
    refine⟨m+1,⟨λk d g a=>?_,λh=>absurd (h m E)<|by rw[i];simp⟩,.inr ⟨m,E,W,i,f⟩⟩;by_cases e:k=m
    ·rw[e]
    have:=f k E;rw[this]at a;cases a
  refine⟨k+1,⟨λl o g a=>?_,λh=>absurd (h k E)<|by rw[k3];simp⟩,.inr ⟨k,E,W,k3,k4⟩⟩;rcases afE l k with e|e|e
  ·rw[k4 l e]at a;cases a
  ·rw[e]
  rw[g k e]at k3;cases k3
def Db(b:Nat->Bool):Nat->Bool
 |0=>true
 |k+1=>Db b k&&b k
def jO{b:Nat->Bool}:∀{k},Db b k=true↔∀j,j<k->b j=true
 |0=>by simp[Db]
 |k+1=>by
  simp[Db,jO (k:=k)];constructor
  ·rintro⟨d,c⟩j a;by_cases e:j=k
   ·rw[e];exact c
   exact d j E
  intro h;exact⟨λj a=>h j E,h k E⟩
def TJ(p:gV)(u:bT)(hu:XH u){n:Int}(M:iQ n u)(L:List Int)(R:n<=L.length)(D:List Bool)(S:∀x∈L,x<D.length):
 lp Tryz.prog 259 [.box true<|bh p,.box true<|.ints .i64 false L,.box true<|.cz true D] [dQ u,.bC 1000000 0 0 [],.bC 1000001 0 0 [],.bC 1000002 0 0 []]
  [.box true<|bh p,.box true<|.ints .i64 false L,.box true<|.cz true D] (.u<|(mu L<|cR u).all λi=>D.getD i.toNat false):=by
 have q:∀x∈mu L (cR u),0<=x/\x<D.length:=by
  intro x s;unfold mu at s;rw[List.mem_filter]at s;obtain⟨y,P⟩:=s;obtain⟨f,A,rfl⟩:=abF.1 y;have B:f∈u.ah:=by
   unfold cR at A;split at A
   ·exact adg A
   exact A
  have:=M.feed f B;have O:f.sh.toNat<L.length:=E;refine⟨by simpa using P,?_⟩;rw[abx,abA O];exact S _<|abw O
 obtain⟨a,r⟩:∃a,a=mu L (cR u):=⟨_,W⟩;obtain⟨b,N⟩:∃b:Nat->Bool,b=λk=>D.getD (a.getD k 0).toNat false:=⟨_,W⟩;obtain⟨m,hm,l⟩:=EZ b a.length;have w:a.all (λi=>D.getD i.toNat false)=Db b a.length:=by
  rw[aeP,jO,abN,N];constructor
  ·intro h k o;have:=h _<|abw o;rw[<-au (d:=(0:Int)) o]at this;exact this
  intro h x s;obtain⟨k,o,rfl⟩:=ae4.1 s;have:=h k o;dsimp only at this;rw[au o]at this;exact this
 rw[<-r]at q⊢;rw[w];refine sE (fn:=Tryz.f259) Tryz.func259 W W W W W<|bP W W (QW p L u) W<|r0 W<|Bv [5,1000002] [5,3] a.length m (λk=>[.i<|a.getD k 0]) (λ_=>[.box true<|.b false,.box true<|.cz true D]) b (λk=>if Db b k=true then none else some .ret) (.bW [])
  rfl W W W W Tryz.func300 W W W W W W (λ_ _=>rfl) (λ_=>rfl) ?_ W W (λk _ h=>if_pos<|jO.2 h) (λC J Q=>OA u hu M L R b m (by rw[<-r];exact hm) C J<|by rw[<-r];exact Q) ?_ ?_ ?_
 ·intro k o z K;simp[abz,acG,or_false]at K;rcases K with rfl|rfl<;>rfl
 ·intro k o F;have s:=q _<|abw o;rw[<-au (d:=(0:Int)) o]at s;have v:b k=D.getD (a.getD k 0).toNat false:=by rw[N]
  refine r0 W<|rH<|r1 W (by simp only[ag,and_true];omega) ?_;refine ni W W W ?_ ?_<;>intro g
  ·have g:b k=false:=by rw[v];simpa using g
   refine r0 W<|XS [(1000000,.box true<|.b false),(1000001,.box true<|.cz true D)] g (if_neg λh=>by rw[jO]at h;have:=h k E;rw[g]at this;cases this) ⟨⟨W,W,.refl _⟩,⟨W,W,.refl _⟩,U⟩ ⟨G,G,U⟩
  have g:b k=true:=by rw[v];simpa using g
  refine r0 W<|zA [(1000000,.box true<|.b false),(1000001,.box true<|.cz true D)] g (if_pos (jO.2 λj T=>by
   by_cases e:j=k
   ·rw[e];exact g
   exact F j E)) ⟨⟨W,W,.refl _⟩,⟨W,W,.refl _⟩,U⟩ ⟨G,G,U⟩
 ·intro t;have H:Db b a.length=true:=by
   rcases l with⟨y,P⟩|⟨k,k1,rfl,k3,k4⟩
   ·exact jO.2 y
   exfalso;by_cases e:Db b (k+1)=true
   ·have:=jO.1 e k E;rw[k3]at this;cases this
   rw[if_neg e]at t;cases t
  rw[H];refine r0 W<|SN [(5,.box true<|.b true),(1000000,.box true<|bh p),(1000001,.box true<|.ints .i64 false L),(1000002,.box true<|.cz true D)] ⟨⟨W,W,.refl _⟩,⟨W,W,.refl _⟩,⟨W,W,.refl _⟩,⟨W,W,.refl _⟩,U⟩ W (show true=true from W) ⟨G,G,G,U⟩
 intro c t;rcases l with⟨y,rfl⟩|⟨k,k1,rfl,k3,k4⟩
 ·rw[if_pos<|jO.2 y]at t;cases t
 have e:¬Db b (k+1)=true:=λh=>by have:=jO.1 h k E;rw[k3]at this;cases this
 rw[if_neg e,aaw]at t;have H:Db b a.length=false:=by
  cases h:Db b a.length with
  |false=>rfl
  |true=>have:=jO.1 h k k1;rw[k3]at this;cases this
 rw[H];refine⟨t.symm,?_⟩;exact SN [(5,.box true<|.b false),(1000000,.box true<|bh p),(1000001,.box true<|.ints .i64 false L),(1000002,.box true<|.cz true D)] ⟨⟨W,W,.refl _⟩,⟨W,W,.refl _⟩,⟨W,W,.refl _⟩,⟨W,W,.refl _⟩,U⟩ W (show false=false from W) ⟨G,G,G,U⟩
def n6(n:Nat)(O:List Int):List Bool:=(List.range n).map λ(i:Nat)=>decide ((i:Int)∈O)
def yp(n:Nat)(O:List Int):(n6 n O).length=n:=by simp[n6]
def yq{n i:Nat}{O:List Int}(h:i<n):(n6 n O).getD i false=decide ((i:Int)∈O):=by unfold n6;rw[abx,adb,ae5 h];rfl
def O3{n i:Nat}{O:List Int}(h:i<n):(n6 n O).set i true=n6 n (O++[(i:Int)]):=by
 apply aex
 ·simp[n6]
 intro j k1 k2;simp[n6];by_cases e:i=j
 ·subst e;simp
 have:¬(j:Int)=(i:Int):=E;simp[e,this]
def O4(n:Nat):n6 n []=List.replicate n false:=by
 apply aex
 ·simp[n6]
 intro j k1 k2;simp[n6]
def Qv{us:List bT}{n:Nat}{O:List Int}{u:bT}(hn:∀f∈cR u,0<=f.sh/\f.sh<n):((mu (Ka n us)<|cR u).all λi=>(n6 us.length O).getD i.toNat false)=(cR u).all (kP us O):=by
 generalize cR u=j at*;rw[aeP,abN,abN];have a:∀f∈j,(Ka n us).getD f.sh.toNat 0=eh us f.sh:=λf b=>by
  have:=hn f b;rw[UX E]
  congr 1;omega
 constructor
 ·intro h f b;unfold kP;rw[decide_eq_true_eq];by_cases g:eh us f.sh<0
  ·exact .inl g
  right;have hm:eh us f.sh∈mu (Ka n us) j:=by unfold mu;rw[List.mem_filter];exact⟨abF.2 ⟨f,b,a f b⟩,by simpa using g⟩
  have d:=h _ hm;have c:=yo us f.sh;rw[yq E,decide_eq_true_eq]at d;have:((eh us f.sh).toNat:Int)=eh us f.sh:=E;rwa[this]at d
 intro h x e;unfold mu at e;rw[List.mem_filter]at e;obtain⟨k,d⟩:=e;obtain⟨f,b,rfl⟩:=abF.1 k;rw[a f b]at d⊢;have c:=h f b;unfold kP at c;rw[decide_eq_true_eq]at c d;have l:=yo us f.sh;rw[yq E,decide_eq_true_eq];have:((eh us f.sh).toNat:Int)=eh us f.sh:=E;rw[this];rcases c with c|c
 ·omega
 exact c
def TP(p:gV)(h:rA p)(n:Nat)(hn:p.n=n)(J:∀u∈p.aa,iQ p.n u)(F:p.aa.length<=96):
 aM Tryz.prog 188 [bh p,.ints .i64 false<|Ka n p.aa] (.bW [.ints .i64 true<|if p.aa.length<=(az p.aa).length then az p.aa else[],.u<|decide (p.aa.length<=(az p.aa).length)]):=by
 have y:(Ka n p.aa).length=n:=by simp[Ka]
 have M:∀x∈Ka n p.aa,x<(p.aa.length:Int):=by intro x m;obtain⟨s,-,rfl⟩:=abF.1 m;exact yo _ _
 refine bS Tryz.func188 W<|r1 W (by simp only[ag,and_true];omega) ?_;refine mkf W W<|bM W (λO:List Int=>[(2,.box true<|bh p),(3,.box true<|.ints .i64 false<|Ka n p.aa),(6,.ints .i64 true O),(7,.box true<|.cz true<|n6 p.aa.length O),(8,.fS 259 [(2,0),(3,0),(7,0)])])
  (λO=>O.Nodup/\(∀x∈O,0<=x/\x<p.aa.length)/\az p.aa=ew p.aa (p.aa.length+1-O.length) O) (λO=>p.aa.length-O.length) [] ⟨acd,I,W⟩
  ⟨G,G,G,⟨W,ar.of_eq<|by rw[O4];rfl⟩,G,U⟩ ?_
 rintro O⟨l,k,d⟩;have K:=vX l k;refine bQ W W ?_ ?_<;>intro g
 ·have g:O.length<p.aa.length:=E;refine bM W (λi:Nat=>[(2,.box true<|bh p),(3,.box true<|.ints .i64 false<|Ka n p.aa),(6,.ints .i64 true O),(7,.box true<|.cz true<|n6 p.aa.length O),(8,.fS 259 [(2,0),(3,0),(7,0)]),(23,.bA false 5 default dQ p.aa),(24,.i p.aa.length),(25,.i i)])
   (λi=>i<=p.aa.length/\cY p.aa O 0=cY p.aa O i) (λi=>p.aa.length-i) 0 ⟨aaM _,W⟩
   ⟨G,G,G,G,G,G,G,G,U⟩ ?_
  rintro i⟨hi,a⟩;refine bQ W W ?_ ?_<;>intro g1
  ·have b:i<p.aa.length:=E;have t:(i:Int).toNat=i:=E;have H:p.aa.getD i default=p.aa[i]:=au b;have o:=J _<|abw b;rw[jH b]at a;have v:jV p.aa O i=(decide (¬(i:Int)∈O)&&(cR p.aa[i]).all (kP p.aa O)):=by unfold jV;rw[H]
   rw[v]at a;refine r1 W (by simp only[ag,and_true,t,yp];omega) ?_;rw[t,H,yq b];refine iN 35 W ?_ ?_<;>intro g2
   ·have g2:¬(i:Int)∈O:=by simpa using g2
    rw[decide_eq_true g2,ab3]at a;refine r0 W<|cc W W (TJ p p.aa[i] (h.unit _<|abw b) o (Ka n p.aa) (by rw[y,hn];omega) (n6 p.aa.length O)<|by rw[yp];exact M) W ?_;rw[Qv (O:=O) λf r=>by
     have w:f∈p.aa[i].ah:=by
      unfold cR at r;split at r
      ·exact adg r
      exact r
     have:=o.feed f w;rw[hn]at this;exact⟨this.1,this.2.1⟩]
    refine r0 W<|ni W W W ?_ ?_<;>intro B
    ·rw[if_pos B]at a;have q:¬cY p.aa O 0<0:=by rw[a];omega
     obtain⟨D,C⟩:=vW l k q;have z:az p.aa=ew p.aa (p.aa.length+1-(O++[(i:Int)]).length) (O++[(i:Int)]):=by
      have e:p.aa.length+1-O.length=(p.aa.length+1-(O++[(i:Int)]).length)+1:=by rw[abE,adt];omega
      rw[d,e,ew,if_neg q,a]
     rw[a]at D C;refine r1 W (by simp only[ag,and_true,t,yp];simp;omega) ?_;refine again (O++[(i:Int)]) (by simp;omega) ⟨D,C,z⟩ ⟨G,G,G,⟨W,ar.of_eq<|congrArg (SV.box true)<|congrArg (SV.cz true) ?_⟩,G,U⟩;rw[t,O3 b]
    rw[if_neg<|by rw[B];simp]at a;refine r1 W (by simp only[ag,and_true];omega) ?_;refine again (i+1) E ⟨E,a⟩ ⟨G,G,G,G,G,G,G,G,U⟩
   have g2:(i:Int)∈O:=by simpa using g2
   rw[decide_eq_false λhh=>hh g2,Bool.false_and,if_neg I]at a;refine r1 W (by simp only[ag,and_true];omega) ?_;refine again (i+1) E ⟨E,a⟩ ⟨G,G,G,G,G,G,G,G,U⟩
  rw[mV (j:=i) E]at a;have c:az p.aa=O:=by have e:p.aa.length+1-O.length=(p.aa.length-O.length)+1:=E;rw[d,e,ew,if_pos<|by rw[a];decide]
  rw[c,if_neg E,decide_eq_false E];refine bK W W ⟨W,W,U⟩
 have L:O.length=p.aa.length:=E;have c:az p.aa=O:=by
  have e:p.aa.length+1-O.length=0+1:=E;rw[d,e,ew];have:cY p.aa O 0<0:=by
   rcases oR p.aa O 0 with e|⟨i,-,-,N,A⟩
   ·rw[e];decide
   exfalso;unfold jV at A;simp only[aby,decide_eq_true_eq]at A;have:=vX (us:=p.aa) (out:=(i:Int)::O) (acb.2 ⟨A.1,l⟩) (λx m=>by
    rcases abz.1 m with rfl|m
    ·omega
    exact k x m)
   simp at this;omega
  rw[if_pos this]
 rw[c,if_pos E,decide_eq_true E];refine bK W W ⟨W,W,U⟩
end Go.Ai.Pg
section
namespace Go.Ai.Pg
open Go.Proofs Go.Ai Go.Ai.eE
def YO{n:Nat}{us:List bT}(h:∀u∈us,aL u.k=0)(s:Nat)(hs:s<n):gW ((DO n us).getD s f0) ((cp n us).getD s 0)/\ri ((DO n us).getD s f0) 600:=by
 have a:∀(us:List bT)(o:List Fr)(q:List Rat),(∀u∈us,aL u.k=0)->o.length=q.length->(∀s,s<o.length->gW (o.getD s f0) (q.getD s 0)/\ri (o.getD s f0) 600)->
  (us.foldl (λ(o:List Fr)u=>o.set u.out.toNat<|aac<|bV u.k) o).length=o.length/\∀s,s<o.length->gW ((us.foldl (λ(o:List Fr)u=>o.set u.out.toNat<|aac<|bV u.k) o).getD s f0) ((us.foldl (λ(o:List Rat)u=>o.set u.out.toNat<|bV u.k) q).getD s 0)/\ri ((us.foldl (λ(o:List Fr)u=>o.set u.out.toNat<|aac<|bV u.k) o).getD s f0) 600:=by
  intro us
  induction us with
  |nil=>intro o q _ _ h;exact⟨W,h⟩
  |cons u us c=>
   intro o q b hl h;have:=c (o.set u.out.toNat<|aac<|bV u.k) (q.set u.out.toNat<|bV u.k) (λv d=>b v<|by simp[d]) (by simpa using hl) (λs hs=>by
    rw[acO]at hs;have f:s<q.length:=E;rw[abx,abx,adL,adL];by_cases e:u.out.toNat=s
    ·subst e;rw[if_pos W,if_pos W,if_pos hs,if_pos f];exact⟨dP _,fQ<|b u I⟩
    rw[if_neg e,if_neg e];have:=h s hs;rwa[abx]at this)
   rw[acO]at this;exact this
 have g:=a us (List.replicate n f0) (List.replicate n 0) h I (λs hs=>by rw[au hs,au<|by simpa using hs,List.getElem_replicate,List.getElem_replicate];exact⟨VG,Ja VF fh⟩)
 exact g.2 s (by simpa using hs)
open Classical in
def zX(p:gV)(h:rA p):aM Tryz.prog 107 [bh p] (.i<|dT p):=by
 have V:=h.aa;have Y:=h.ints;refine bS Tryz.func107 W<|cx 3 [(1,.box true<|bh p)] (1<=p.n/\p.n<=100/\p.aa.length<=96/\aK (fW p.n) p.aa=0) ?_ ?_
 ·have O:p.n<1\/100<p.n->3=dT p:=λa=>by unfold dT;rw[if_pos a]
  have e2:¬(p.n<1\/100<p.n)->96<p.aa.length->5=dT p:=λa b=>by unfold dT;rw[if_neg a,if_pos b]
  have e3:¬(p.n<1\/100<p.n)->¬96<p.aa.length->aK (fW p.n) p.aa≠0->aK (fW p.n) p.aa=dT p:=λa b c=>by unfold dT;rw[if_neg a,if_neg b,if_pos c]
  refine bJ W 20 W ?_ ?_<;>intro g1
  ·refine bO W W (nA true 3) W<|bO W W (nA _ 5) W<|bO W W (tp _ I) W<|k0 W aW<|gg W (λg2=>?_) λg2=>absurd (by simp[aK]) g2;refine bK W W<|bR ?_;rw[<-O (.inl E)];simp[aK]
  refine bO W W (nA _ 3) W<|bO W W (nA _ 5) W<|bO W W (tp _ I) W<|k0 W aW<|gg W ?_ ?_<;>intro g2
  ·refine bK W W<|bR ?_;by_cases a:100<p.n
   ·rw[<-O (.inr a)];simp[aK,a]
   have b:96<p.aa.length:=by apply acF;intro b;apply g2;have A:¬(96:Int)<p.aa.length:=E;simp[aK,a,A]
   have A:(96:Int)<p.aa.length:=E;rw[<-e2 E b];simp[aK,a,A]
  have g2:=adm.1 g2;have a:¬100<p.n:=λa=>by simp[aK,a]at g2
  have b:¬96<p.aa.length:=λb=>by have A:(96:Int)<p.aa.length:=E;simp[aK,a,A]at g2
  have Z:=e3 E b;refine bM W (λi:Nat=>[(1,.box true<|bh p),(37,.bA false 5 default dQ p.aa),(38,.i p.aa.length),(39,.i i)]) (λi=>i<=p.aa.length/\aK (fW p.n) p.aa=aK (fW p.n) (p.aa.drop i)) (λi=>p.aa.length-i) 0 ⟨aaM _,W⟩ ⟨G,G,G,G,U⟩ ?_;rintro i⟨hi,s⟩;refine bQ W W ?_ ?_<;>intro J
  ·have d:i<p.aa.length:=E;have z:(i:Int).toNat=i:=E;have K:p.aa.getD i default=p.aa[i]:=au d;rw[dA _ d]at s;refine r1 W (by simp only[ag,and_true,z];omega) ?_;rw[z,K];refine bG W (JM p _<|h.unit _<|abw d) W<|bQ W W ?_ ?_<;>intro l
   ·rw[if_pos l]at s;refine bK W W<|bR ?_;rw[<-Z (by rw[s];exact l),s]
   rw[if_neg l]at s;refine r1 W (by simp only[ag,and_true];omega) ?_;exact again (i+1) E ⟨E,s⟩ ⟨G,G,G,G,U⟩
  refine bL W ⟨E,E,E,?_⟩ ⟨G,U⟩;rw[s,acs E];rfl
 rintro⟨n1,n2,w,N⟩;obtain⟨n,hn⟩:∃n:Nat,p.n=n:=⟨p.n.toNat,E⟩;have v:∀u∈p.aa,iQ p.n u:=λu hu=>p9<|dK.1 N u hu;have o:∀u∈p.aa,1<=u.out/\u.out<n:=λu hu=>by have:=(v u hu).out;omega
 have B:p.n.toNat=n:=E;have f:dT p=if 24<p.ints.length then 5
  else if∃k∈p.ints,k<0\/p.n<=k then 10
  else if 24<dq p.aa then 5
  else if¬u9 n p.aa then 19
  else if(az p.aa).length<p.aa.length then 18
  else if∃u∈p.aa,conflict n p.aa u then 30 else 0:=by
  unfold dT;rw[if_neg E,if_neg E,if_neg<|by rw[N];simp,B]
 refine oN (r:=1) (p:=[]) W W U<|cx 2 [(1,.box false<|bh p)] (¬24<p.ints.length/\(¬∃k∈p.ints,k<0\/p.n<=k)/\¬24<dq p.aa) ?_ ?_
 ·refine bP W W (JH p p.ints E) W<|bO W W (nA _ 5) W<|bO W W (nA _ 10) W<|bO W W (UG p h) W<|bO W W (nA _ 5) W<|bO W W (tp _ I) W<|k0 W aW ?_;by_cases a:24<p.ints.length
  ·have t:(24:Int)<p.ints.length:=E;rw[if_pos a]at f;refine gg W (λg=>?_) λg=>absurd (by simp[aK,t]) g;refine bK W W<|bR ?_;rw[f];simp[aK,t]
  have t:¬(24:Int)<p.ints.length:=E;rw[if_neg a]at f;by_cases b:∃k∈p.ints,k<0\/p.n<=k
  ·rw[if_pos b]at f;have he:aK id [if decide ((24:Int)<p.ints.length)=true then 5 else 0,if decide (∃k∈p.ints,k<0\/p.n<=k)=true then 10 else 0,if decide ((24:Int)<dq p.aa)=true then(5:Int)else 0]=10:=by
    rw[decide_eq_true b];simp[aK,t]
   refine gg W (λg=>?_) λg=>absurd (by rw[he];decide) g;refine bK W W<|bR ?_;rw[f];exact he
  rw[if_neg b]at f;have he:aK id [if decide ((24:Int)<p.ints.length)=true then 5 else 0,if decide (∃k∈p.ints,k<0\/p.n<=k)=true then 10 else 0,if decide ((24:Int)<dq p.aa)=true then(5:Int)else 0]=if 24<dq p.aa then 5 else 0:=by
   rw[decide_eq_false b];by_cases c:24<dq p.aa
   ·have L:(24:Int)<dq p.aa:=E;simp[aK,t,c,L]
   have L:¬(24:Int)<dq p.aa:=E;simp[aK,t,c,L]
  refine gg W ?_ ?_<;>intro g
  ·refine bK W W<|bR ?_;by_cases c:24<dq p.aa
   ·rw[if_pos c]at f he;rw[f];exact he
   rw[if_neg c]at he;exact absurd he g
  have g:=adm.1 g;refine bL W ⟨a,b,λc=>?_⟩ ⟨G,U⟩;rw[if_pos c]at he;have g:aK id [if decide ((24:Int)<p.ints.length)=true then 5 else 0,if decide (∃k∈p.ints,k<0\/p.n<=k)=true then 10 else 0,if decide ((24:Int)<dq p.aa)=true then(5:Int)else 0]=0:=g;rw[he]at g;simp at g
 rintro⟨a1,a2,a3⟩;rw[if_neg a1,if_neg a2,if_neg a3]at f;obtain⟨P,d2⟩:=O0 (us:=p.aa) (n:=n) E o;refine bP W W (O2 p h n hn E E o) W<|r0 W<|ni W W W ?_ ?_<;>intro g
 ·have g:(GL n p.aa).2=false:=by simpa using g
  refine bK W W<|bR ?_;rw[f,if_pos λF=>by rw[P.2 F]at g;simp at g]
 have g:(GL n p.aa).2=true:=by simpa using g
 rw[if_neg λF=>F<|P.1 g]at f;rw[d2 g];refine bP W W (TP p h n hn v w) W<|r0 W<|ni W W W ?_ ?_<;>intro g2
 ·have g2:¬p.aa.length<=(az p.aa).length:=by simpa using g2
  refine bK W W<|bR ?_;rw[f,if_pos E]
 have g2:p.aa.length<=(az p.aa).length:=by simpa using g2
 rw[if_neg E]at f;refine bP W W (U3 p h n hn E E v) W<|bM W (λi:Nat=>[(13,.bA true 4 f0 eF<|DO n p.aa),(88,.bA false 5 default dQ p.aa),(89,.i p.aa.length),(90,.i i)]) (λi=>i<=p.aa.length/\¬∃u∈p.aa.take i,conflict n p.aa u) (λi=>p.aa.length-i) 0 ⟨aaM _,I⟩ ⟨G,G,G,G,U⟩ ?_;rintro i⟨hi,m⟩;refine bQ W W ?_ ?_<;>intro J
 ·have d:i<p.aa.length:=E;have z:(i:Int).toNat=i:=E;have K:p.aa.getD i default=p.aa[i]:=au d;have j:=v _<|abw d;refine r1 W (by simp only[ag,and_true,z];omega) ?_;rw[z,K];refine gg W ?_ ?_<;>intro l
  ·have l:p.aa[i].kind=dy:=l;have X:=j.table l;have D:p.aa[i].ah.getD 0 default∈p.aa[i].ah:=by rw[au E];exact abw _
   have q:=j.feed _ D;have H:=JW n p.aa;obtain⟨R,Q⟩:=YO (n:=n) (us:=p.aa) (λu hu=>(v u hu).k) (p.aa[i].ah.getD 0 default).sh.toNat E;refine r1 W (by simp only[ag,and_true];omega) ?_;refine bH W (qG q.2.2.1) W<|r1 W (by simp only[ag,and_true,H,Int.toNat_zero];omega) ?_;obtain⟨m1,M⟩:=tg _ _ (dP<|bV (p.aa[i].ah.getD 0 default).dZ) R (fQ q.2.2.1) Q;refine bH W (Ch _ _ (dP _) R (fQ q.2.2.1) Q fh) W<|k0 W aW<|bH W (S5 _ j.dI E _ m1 M fh) W<|bO W W (qG j.k) W<|r0 W ?_;obtain⟨T,S⟩:=yI m1 M (cs:=p.aa[i].dI) j.dI;refine bH W (Uu _ _ T (dP<|bV p.aa[i].k) S (fQ j.k) (by have:p.aa[i].dI.length*(600+600+601)<=13*(600+600+601):=abT _ X.2.2;omega)) W ?_;refine k0 W aW ?_;have x:conflict n p.aa p.aa[i]↔¬wu (bV (p.aa[i].ah.getD 0 default).dZ*(cp n p.aa).getD (p.aa[i].ah.getD 0 default).sh.toNat 0) (p.aa[i].dI.map bV)=bV p.aa[i].k:=⟨λhc e=>hc.2 e.symm,λC=>⟨l,λe=>C e.symm⟩⟩
   refine ni W W W ?_ ?_<;>intro y
   ·simp only[ado,decide_eq_false_iff_not]at y;refine bK W W<|bR ?_;rw[f,if_pos ⟨_,abw d,x.2 y⟩]
   simp only[Bool.not_eq_false',decide_eq_true_eq]at y;refine r1 W (by simp only[ag,and_true];omega) ?_;exact again (i+1) E ⟨E,jI d m λhc=>x.1 hc y⟩ ⟨G,G,G,G,U⟩
  have l:¬p.aa[i].kind=dy:=l;refine r1 W (by simp only[ag,and_true];omega) ?_;exact again (i+1) E ⟨E,jI d m λhc=>l hc.1⟩ ⟨G,G,G,G,U⟩
 refine bK W W<|bR ?_;rw[abB E]at m;rw[f,if_neg m]
end Go.Ai.Pg
end
namespace Go.Ai.Pg
open Go.Proofs Go.Ai Go.Ai.eE
section
variable{K:Nat}{q:Rat}
def sM(q:Rat):(0:Rat)<((q.den:Int):Rat):=by have:=q.den_pos;exact Rat.intCast_pos.2 E
def tf(q:Rat):q*((q.den:Int):Rat)=(q.num:Rat):=by
 have a:=sM q;have h:=Rat.num_divInt_den q;rw[ae0]at h;have hn:((q.den:Int):Rat)≠0:=λe=>by rw[e]at a;simp_all
 have:(q.num:Rat)/((q.den:Int):Rat)*((q.den:Int):Rat)=q.num:=Rat.div_mul_cancel hn;rw[h]at this;exact this
def pc(k:Nat):(((2:Int)^k:Int):Rat)=(2:Rat)^k:=by
 induction k with
 |zero=>rfl
 |succ k a=>rw[abV,aek,<-a,aef];rfl
def Oc(k:Nat)(q:Rat):(2:Rat)^k<=q↔(2:Int)^k*q.den<=q.num:=by
 have a:=sM q;have he:=tf q;rw[<-aeG,aef,pc];constructor
 ·intro h;have:=Rat.mul_le_mul_of_nonneg_right h<|acq a;rw[he]at this;exact this
 intro h;rw[<-he]at h;exact afF h a
def Oa(k:Nat)(q:Rat):((2:Rat)^k)⁻¹ <=q↔(q.den:Int)<=(2:Int)^k*q.num:=by
 have c:=sM q;have he:=tf q;have a:=vR k;rw[<-aeG,aef,pc,<-he];generalize (2:Rat)^k=t at*;generalize ((q.den:Int):Rat)=d at*;have hi:=Rat.mul_inv_cancel t (λe=>by rw[e]at a;exact absurd a fh);constructor
 ·intro h;have b:=adw h<|acq a;rw[hi]at b;have g:=Rat.mul_le_mul_of_nonneg_right b<|acq c
  grind
 intro h;have b:(1:Rat)*d<=(t*q)*d:=by grind
 have g:=afF b c;have f:=adw g<|acq<|aeE.2 a;have i:t⁻¹ *(t*q)=q:=by rw[<-ae7,adx t⁻¹ t,hi,Rat.one_mul]
 rw[i,Rat.mul_one]at f;exact f
def FT(n:Nat):fV (xI ⟨2,none⟩ n) (n+1):=by
 have b:=show(-9223372036854775808:Int)<=2/\(2:Int)<=9223372036854775807 from fh;obtain⟨e,-⟩:=pr ⟨2,none⟩ n b;unfold fV;rw[e];show(eE.ae ((2:Int)^n).natAbs).length<=n+1;have a:((2:Int)^n).natAbs=2^n:=by rw[Int.natAbs_pow];rfl
 rw[a];clear e a
 induction n with
 |zero=>exact iJ fh
 |succ n c=>rw[acm];have f:=eE.dO (2^n) 2;have d:(eE.ae 2).length<=1:=iJ fh;omega
def Xb(f:Fr)(a:gW f q)(c:ri f K)(s:K<2^20)(k:Int)(r: -1048576<k/\k<1048576):aM Tryz.prog 229 [.i k,.box false<|eF f] (.u<|decide (iK k<=q)):=by
 have l:bj ⟨2,none⟩:=show(-9223372036854775808:Int)<=2/\(2:Int)<=9223372036854775807 from fh;refine bS Tryz.func229 W<|r0 W ?_;have d:fV ⟨2,none⟩ 1:=iJ (m:=2) fh;refine gg W ?_ ?_<;>intro g
 ·obtain⟨j,rfl⟩:∃j:Nat,k=j:=⟨k.toNat,E⟩;obtain⟨n,b⟩:=pr ⟨2,none⟩ j l;obtain⟨m1,o⟩:=cP (xI ⟨2,none⟩ j) f.d b a.d;have p:=gp b a.d (FT j) c.2;refine bO W W (Ii 2) W<|bO W W (QC _ j l d E E) W<|bO W W (qY _ f.d b a.d (FT j) c.2 E) W<|bO W W (R3 _ f.n o a.n p (dF c.1<|show K<=j+1+K from E) E) W<|k0 W aW<|aE W<|ar.of_eq<|congrArg SV.u ?_;rw[decide_eq_decide];have e:iK (j:Int)=(2:Rat)^j:=by unfold iK;rw[if_neg E];rfl
  rw[e,Oc,m1,n,a.vd,a.vn,show nv ⟨2,none⟩=2 from W];show Int.sign _<=0↔_;rw[Int.sign_nonpos_iff];constructor<;>intro h<;>omega
 obtain⟨j,rfl⟩:∃j:Nat,k= -(j:Int):=⟨(-k).toNat,E⟩;obtain⟨n,b⟩:=pr ⟨2,none⟩ j l;obtain⟨m1,o⟩:=cP (xI ⟨2,none⟩ j) f.n b a.n;have p:=gp b a.n (FT j) c.1;refine bO W W (Ii 2) W<|r1 W a7<|VP (us:=[eN ⟨2,none⟩,.i j]) W W U ⟨⟨W,W,U⟩,congrArg SV.i E,U⟩ (QC _ j l d E E) W<|bO W W (qY _ f.n b a.n (FT j) c.1 E) W<|bO W W (R3 f.d _ a.d o (dF c.2<|show K<=j+1+K from E) p E) W<|k0 W aW<|aE W<|ar.of_eq<|congrArg SV.u ?_;rw[decide_eq_decide];have e:iK (-(j:Int))=((2:Rat)^j)⁻¹ :=by unfold iK;rw[if_pos E];congr 2;omega
 rw[e,Oa,m1,n,a.vd,a.vn,show nv ⟨2,none⟩=2 from W];show Int.sign _<=0↔_;rw[Int.sign_nonpos_iff];constructor<;>intro h<;>omega
def Nw(h:0<q.num):iK ((bl q.num.natAbs:Int)-bl q.den-1)<=q:=by
 have c:=sM q;have he:=tf q;have j:2^(bl q.num.natAbs-1)<=q.num.natAbs:=xe E;have k:=JU q.den;have i:=yD (x:=q.num.natAbs) E;have g:iK ((bl q.num.natAbs:Int)-bl q.den-1)*(2:Rat)^bl q.den=(2:Rat)^(bl q.num.natAbs-1):=by rw[<-kd];unfold iK;rw[if_neg E];congr 1;omega
 have f:((q.den:Int):Rat)<=(2:Rat)^bl q.den:=by
  rw[<-pc];refine aeG.2 ?_;have e:((2^bl q.den:Nat):Int)=(2:Int)^bl q.den:=by norm_cast
  omega
 have d:(2:Rat)^(bl q.num.natAbs-1)<=(q.num:Rat):=by
  rw[<-pc];refine aeG.2 ?_;have e:((2^(bl q.num.natAbs-1):Nat):Int)=(2:Int)^(bl q.num.natAbs-1):=by norm_cast
  omega
 have b:=adw f<|acq<|s8<|(bl q.num.natAbs:Int)-bl q.den-1;rw[g]at b;have a:=ac7 b d;rw[<-he]at a;exact afF a c
def Nx(h:0<q.num):¬iK ((bl q.num.natAbs:Int)-bl q.den+1)<=q:=by
 intro a;have d:=sM q;have he:=tf q;have l:2^(bl q.den-1)<=q.den:=xe (by have:=q.den_pos;omega);have k:=JU q.num.natAbs;have j:=yD (x:=q.den) (by have:=q.den_pos;omega);have i:iK ((bl q.num.natAbs:Int)-bl q.den+1)*(2:Rat)^(bl q.den-1)=(2:Rat)^bl q.num.natAbs:=by rw[<-kd];unfold iK;rw[if_neg E];congr 1;omega
 have g:(2:Rat)^(bl q.den-1)<=((q.den:Int):Rat):=by
  rw[<-pc];refine aeG.2 ?_;have e:((2^(bl q.den-1):Nat):Int)=(2:Int)^(bl q.den-1):=by norm_cast
  omega
 have f:(q.num:Rat)<(2:Rat)^bl q.num.natAbs:=by
  rw[<-pc];refine Rat.intCast_lt_intCast.2 ?_;have e:((2^bl q.num.natAbs:Nat):Int)=(2:Int)^bl q.num.natAbs:=by norm_cast
  omega
 have c:=adw g<|acq<|s8<|(bl q.num.natAbs:Int)-bl q.den+1;rw[i]at c;have b:=Rat.mul_le_mul_of_nonneg_right a<|acq d;rw[he]at b;exact absurd (ac7 c b)<|ae8.2 f
def Nv{x:Nat}(h:(eE.ae x).length<=K):bl x<=64*K:=by
 apply acF;intro hn;have a:x≠0:=λe=>by rw[e]at hn;simp[bl]at hn
 have g:=xe a;have f:2^(64*K)<=2^(bl x-1):=acp fh E;have d:=eE.l9 x;have c:18446744073709551616^(eE.ae x).length<=18446744073709551616^K:=acp fh h;have b:(18446744073709551616:Nat)^K=2^(64*K):=by rw[aeW]
 omega
def Ll(f:Fr)(d:gW f q)(j:ri f K)(s:K<2^12)(o:0<q.num):aM Tryz.prog 140 [eF f] (.i<|wI q):=by
 have l:=Nw o;have m:=Nx o;have u:bl q.num.natAbs<2^19:=by have:=Nv j.1;rw[d.vn]at this;omega
 have t:bl q.den<2^19:=by have:=Nv j.2;rw[d.vd,adH]at this;omega
 obtain⟨a,g⟩:∃a,a=(bl q.num.natAbs:Int)-bl q.den:=⟨_,W⟩;have k:∀e:Int,a-3<=e/\e<=a+3->aM Tryz.prog 229 [.i e,.box false<|eF f] (.u<|decide (iK e<=q)):=λe h=>Xb f d j E e E;have n1:=Sd f.n d.n j.1 E;have n:=Sd f.d d.d j.2 E;rw[d.vn]at n1;rw[d.vd,adH]at n;refine bS Tryz.func140 W<|cx 2 [(1,.box true<|eF f),(3,.i a)] True ?_ λ_=>?_
 ·refine bO W W n1 W<|bO W W n W<|k1 W aW a7<|aN U ⟨G,⟨W,ar.of_eq<|congrArg SV.i g.symm⟩,U⟩
 refine oN (r:=1) (p:=[]) W W U<|CP 2 (λe:Int=>[(3,.i e),(4,.fn (.func 229) [] [.box false<|eF f])]) (λe=>iK e<=q/\e<=a/\a-1<=e) ?_ ?_
 ·refine bM W (λe:Int=>[(3,.i e),(4,.fn (.func 229) [] [.box false<|eF f])]) (λe=>e<=a/\a-1<=e) (λe=>(e-(a-1)).toNat) a ⟨E,E⟩ ⟨G,G,U⟩ ?_;rintro e⟨g1,g2⟩;refine bP W W (k e E) W<|r0 W<|ni W W W ?_ ?_<;>intro b
  ·have b:¬iK e<=q:=by simpa using b
   have:e≠a-1:=λh=>by rw[h,g]at b;exact b l
   refine r1 W a7<|again (e-1) E ⟨E,E⟩ ⟨G,G,U⟩
  have b:iK e<=q:=by simpa using b
  refine r0 W<|meet e ⟨b,g1,g2⟩ ⟨G,G,U⟩
 rintro e⟨g1,g2,b⟩;refine bM W (λe:Int=>[(3,.i e),(4,.fn (.func 229) [] [.box false<|eF f])]) (λe=>iK e<=q/\e<=a/\a-1<=e) (λe=>(a-e).toNat) e ⟨g1,g2,b⟩ ⟨G,G,U⟩ ?_;rintro e⟨g1,g2,b⟩;refine r1 W a7<|bG W (k (e+1) E) W<|r0 W<|ni W W W ?_ ?_<;>intro c
 ·have c:iK (e+1)<=q:=by simpa using c
  have:e≠a:=λh=>by rw[h,g]at c;exact m c
  refine r1 W a7<|again (e+1) E ⟨c,E,E⟩ ⟨G,G,U⟩
 have c:¬iK (e+1)<=q:=by simpa using c
 refine bK W W<|ar.of_eq<|congrArg SV.i (jJ ⟨g1,c⟩).symm
end
end Go.Ai.Pg
section
namespace Go.Ai.Pg
open Go.Proofs Go.Ai Go.Ai.eE
def RG(l:List Int)(hl:l.length<2^60):aM Tryz.prog 75 [.ints .i64 false l] (.i<|aK id l):=by
 refine bS Tryz.func75 W<|bM W (λi:Nat=>[(5,.ints .i64 false l),(6,.i l.length),(7,.i i)]) (λi=>i<=l.length/\aK id l=aK id (l.drop i)) (λi=>l.length-i) 0 ⟨aaM _,W⟩ ⟨G,G,G,U⟩ ?_;rintro i⟨hi,a⟩;refine bQ W W ?_ ?_<;>intro h
 ·have b:i<l.length:=E;have d:(i:Int).toNat=i:=E;rw[dA _ b]at a;refine r1 W (by simp[ag,d];omega) ?_;refine gg W ?_ ?_<;>intro c
  ·refine bK W W<|bR ?_;rw[a];simp_all
  refine r1 W (by simp[ag];omega) ?_;refine again (i+1) E ⟨E,?_⟩ ⟨G,G,G,U⟩;rw[a];simp_all
 refine bK W W<|bR ?_;rw[a,acs E];rfl
def SX(b:Bool)(e:Int):aM Tryz.prog 76 [.u b,.i e] (.i<|if b then e else 0):=by
 refine bS Tryz.func76 W<|r0 W<|ni W W W ?_ ?_<;>intro h
 ·refine bK W W<|bR ?_;rw[h];rfl
 refine bK W W<|bR ?_;rw[h];rfl
def xK(n lo hi:Int):aM Tryz.prog 145 [.i n,.i lo,.i hi] (.u<|decide (n<lo\/hi<n)):=by
 refine bS Tryz.func145 W<|bJ W 10 W ?_ ?_<;>intro h
 ·refine bK W W (show true=decide (n<lo\/hi<n)from(decide_eq_true<|.inl h).symm)
 refine bK W W<|ar.of_eq<|congrArg SV.u ?_;rw[decide_eq_decide];omega
def Ny(b:fE):aM Tryz.prog 114 [dz b] (.i<|od b):=by
 refine bS Tryz.func114 W<|bM W (λi:Nat=>[(13,.ints .i64 true<|qT b),(14,.i 4),(15,.i i)]) (λi=>i<=4/\od b=aK (λx:Int=>if x<0\/40<x then 3 else 0) ((qT b).drop i)) (λi=>4-i) 0 ⟨aaM _,W⟩ ⟨G,G,G,U⟩ ?_;rintro i⟨hi,e⟩;have c:(qT b).length=4:=W;refine bQ W W ?_ ?_<;>intro h
 ·have d:i<(qT b).length:=E;have f:(i:Int).toNat=i:=E;rw[dA _ d]at e;refine r1 W (by simp[ag,and_true,f,c];omega) ?_;rw[f,au d];refine bG W (xK _ 0 40) W<|ni W W W ?_ ?_<;>intro a
  ·have a:(qT b)[i]<0\/40<(qT b)[i]:=by simpa using a
   refine bK W W<|bR ?_;rw[e,if_pos a];rfl
  have a:¬((qT b)[i]<0\/40<(qT b)[i]):=by simpa using a
  refine r1 W (by simp[ag,and_true];omega) ?_;refine again (i+1) E ⟨E,?_⟩ ⟨G,G,G,U⟩;rw[e,if_neg a];rfl
 refine bK W W<|bR ?_;rw[e,acs E];rfl
def Tj(rs:List fD)(e:∀s∈rs,ct s.lo/\ct s.hi)(hl:rs.length<2^60):aM Tryz.prog 122 [.bA false 2 default dX rs] (.i<|aK iz rs):=by
 refine bS Tryz.func122 W<|bM W (λi:Nat=>[(6,.bA false 2 default dX rs),(7,.i rs.length),(8,.i i)]) (λi=>i<=rs.length/\aK iz rs=aK iz (rs.drop i)) (λi=>rs.length-i) 0 ⟨aaM _,W⟩ ⟨G,G,G,U⟩ ?_;rintro i⟨hi,b⟩;refine bQ W W ?_ ?_<;>intro h
 ·have a:i<rs.length:=E;have d:(i:Int).toNat=i:=E;have f:rs.getD i default=rs[i]:=au a;rw[dA _ a]at b;refine r1 W (by simp[ag,d];omega) ?_;rw[d,f];have:=e _<|abw a;refine bG W (Wi rs[i] this.1 this.2) W<|bQ W W ?_ ?_<;>intro c
  ·refine bK W W<|bR ?_;rw[b,if_pos c]
  refine r1 W (by simp[ag,and_true];omega) ?_;refine again (i+1) E ⟨E,?_⟩ ⟨G,G,G,U⟩;rw[b,if_neg c]
 refine bK W W<|bR ?_;rw[b,acs E];rfl
open Classical in
noncomputable def mH(p:gV)(rs:List fD):Int:=if dT p≠0 then dT p else jR p.n rs
def um(p:gV)(h:rA p)(rs:List fD)(a:∀s∈rs,ct s.lo/\ct s.hi)(hl:rs.length<2^40):aM Tryz.prog 93 [bh p,.bA false 2 default dX rs] (.i<|mH p rs):=by
 refine bS Tryz.func93 W<|bP W W (zX p h) W<|bQ W W ?_ ?_<;>intro g
 ·refine bK W W<|ar.of_eq<|congrArg SV.i<|by unfold mH;rw[if_pos g]
 refine bP W W (SX _ 2) W<|bP W W (Tj rs a E) W<|bP W W (RG _ I) W<|bK W W<|bR ?_;unfold mH jR;rw[if_neg g];by_cases e:(rs.length:Int)≠p.n
 ·rw[if_pos e];simp[aK,e]
 rw[if_neg e];by_cases g2:aK iz rs≠0
 ·simp[aK,e,g2]
 have g2:=adm.1 g2;simp[aK,e,g2]
end Go.Ai.Pg
end
namespace Go.Ai.Pg
open Go.Proofs Go.Ai Go.Ai.eE
section
variable{K:Nat}{q:Rat}{s:fD}
def xj(q:Rat):mD q=if q<0 then -q else q:=by
 unfold mD;by_cases h:q<0
 ·rw[if_pos h,if_pos<|Int.not_le.1 λg=>absurd (adJ.1 g)<|ae8.2 h]
 rw[if_neg h,if_neg<|aeH.2<|adJ.2<|afc.1 h]
def Nk(p q:Rat):0<=CV p q↔q<=p:=by unfold CV;rw[Int.sign_nonneg_iff,adJ];constructor<;>grind
def T9(p q:Rat):An p q=if q<=p then p else q:=by
 unfold An;by_cases h:q<=p
 ·rw[if_pos h,if_pos<|(Nk p q).2 h]
 rw[if_neg h,if_neg λg=>h<|(Nk p q).1 g]
def XJ(s:fD):Prop:=XI s/\bV s.lo<=bV s.hi
def P2(h:iz s=0):XJ s:=by have a:=yW h;refine⟨a,?_⟩;unfold iz at h;rw[if_neg<|by rw[a.1];simp,if_neg<|by rw[a.2];simp]at h;exact tB.1 (aeH.1 λg=>by rw[if_pos g]at h;cases h)
def WO(h:XJ s):Gm s=if bV s.hi< -bV s.lo then -bV s.lo else bV s.hi:=by
 have hl:=h.2;unfold Gm;rw[T9,xj,xj]
 grind
noncomputable def Vx(s:fD):Fr:=if bV s.hi< -bV s.lo then⟨jc (aac<|bV s.lo).n,(aac<|bV s.lo).d⟩else aac (bV s.hi)
def Gg{f:Fr}(h:gW f q)(hs:ri f K):ri ⟨jc f.n,f.d⟩ K:=⟨oA h.n hs.1,hs.2⟩
def IF(h:XJ s):gW (Vx s) (Gm s)/\ri (Vx s) 600:=by
 rw[WO h];unfold Vx;obtain⟨-,a⟩:=GG (aac<|bV s.lo) (dP _) (fQ h.1.1).1 fh;by_cases g:bV s.hi< -bV s.lo
 ·rw[if_pos g,if_pos g];exact⟨a,Gg (dP _)<|fQ h.1.1⟩
 rw[if_neg g,if_neg g];exact⟨dP _,fQ h.1.2⟩
def th(s:fD)(h:XJ s):aM Tryz.prog 99 [dX s] (eF<|Vx s):=by
 obtain⟨n1,a⟩:=GG (aac<|bV s.lo) (dP _) (fQ h.1.1).1 fh;refine bS Tryz.func99 W<|bO W W (qG h.1.1) W<|bH W n1 W<|bO W W (qG h.1.2) W<|k0 W aW<|bG W (Lk _ _ a (dP _) (Gg (dP _)<|fQ h.1.1) (fQ h.1.2) fh) W ?_;have hs:((-bV s.lo).num*(bV s.hi).den-(bV s.hi).num*(-bV s.lo).den).sign>0↔bV s.hi< -bV s.lo:=by rw[Rat.lt_iff,gt_iff_lt,Int.sign_pos_iff];omega
 refine bQ W W ?_ ?_<;>intro g
 ·have g:=hs.1 g;refine bK W W<|ar.of_eq ?_;unfold Vx;rw[if_pos g];rfl
 have g:=λh=>g<|hs.2 h;refine bK W W<|ar.of_eq ?_;unfold Vx;rw[if_neg g];rfl
def M0(h:0<q.num):∃e,o4 q e/\(bl q.num.natAbs:Int)-bl q.den-1<=e/\e<=(bl q.num.natAbs:Int)-bl q.den:=by
 have b:=Nw h;have c:=Nx h;generalize (bl q.num.natAbs:Int)-bl q.den=a at*;by_cases g:iK a<=q
 ·exact⟨a,⟨g,c⟩,E,E⟩
 refine⟨a-1,⟨b,?_⟩,E,E⟩;rw[show a-1+1=a from E];exact g
def Uy(f:Fr)(b:gW f q)(a:ri f K)(i:K<2^12)(h:0<q.num): -524289<=wI q/\wI q<=524289:=by obtain⟨e,c,k,j⟩:=M0 h;rw[jJ c];have g:=Nv a.1;rw[b.vn]at g;have d:=Nv a.2;rw[b.vd,adH]at d;omega
def Lm(m:Int){x:Rat}(h:0<x.num):wI (iK m*x)=m+wI x:=by
 obtain⟨e,c,-,-⟩:=M0 h;rw[jJ c];have add:∀k:Int,iK (m+k)=iK m*iK k:=by
  intro k;rcases Int.le_total 0 k with g|g
  ·obtain⟨j,rfl⟩:∃j:Nat,k=j:=⟨k.toNat,E⟩;rw[kd];have e:iK (j:Int)=(2:Rat)^j:=by unfold iK;rw[if_neg E];rfl
   rw[e]
  obtain⟨j,rfl⟩:∃j:Nat,k= -(j:Int):=⟨(-k).toNat,E⟩;have f:=kd (m+ -(j:Int)) j;have b:=kd (-(j:Int)) j;rw[show m+ -(j:Int)+j=m from E]at f;rw[show -(j:Int)+j=0 from E]at b;have i:iK 0=1:=W;rw[i]at b;generalize (2:Rat)^j=t at*;rw[f,ae7,adx t,<-b,Rat.mul_one]
 have d:=s8 m;refine jJ ⟨?_,?_⟩
 ·rw[add];exact adw c.1<|acq d
 rw[show m+e+1=m+(e+1)from E,add];intro a;refine c.2 ?_;rw[adx<|iK m,adx<|iK m]at a;exact afF a d
def MD(f:Fr){a:Rat}(d:gW f a)(k:ri f K)(m:K<2^12)(p:0<=a)(dH:Int)(hm: -1000000<=dH/\dH<=1000000):aM Tryz.prog 143 [eF f,.i dH] (.i<|mK a dH):=by
 refine bS Tryz.func143 W<|bP W W (MV f d) W<|bQ W W ?_ ?_<;>intro g
 ·have g:a.num=0:=by rwa[afx]at g
  refine bK W W<|bR ?_;unfold mK;rw[if_pos<|aeX.1 g]
 have g:¬a.num=0:=by rwa[afx]at g
 have j:a≠0:=λh=>g (by rw[h];rfl);obtain⟨i1,l⟩:=OQ f d j k;have b:0<a⁻¹ :=aeE.2 (by grind);have c:0<(a⁻¹).num:=by
  have o:=adJ.2<|acq b;rcases Int.lt_or_eq_of_le o with e|e
  ·exact e
  have:=aeX.1 e.symm;rw[this]at b;exact absurd b fh
 have n:=Uy _ i1 l m c;refine bP W W (W7 f d j k E) W<|bG W (Ll _ i1 l m c) W<|r1 W aX<|aE W<|bR ?_;unfold mK;rw[if_neg j,Rat.div_def,Lm dH c];rfl
end
def zR(p:gV)(rs:List fD)(b:fE)(S:List Int)(a:List (List Int)):SV:=
 .agg [.i p.n,.bA false 5 default dQ p.aa,.ints .i64 false p.ints,.bA false 2 default dX rs,.i b.c,.i b.d,.i b.s,.i b.g,.ints .i64 true S,.bA true 1 [] (SV.ints .i64 true) a]
def X6(p:gV)(rs:List fD)(b:fE):Ah (.box true<|.agg [.i p.n,.bA false 5 default dQ p.aa,.ints .i64 false p.ints,.bA false 2 default dX rs,.i b.c,.i b.d,.i b.s,.i b.g,.nil,.nil]) (.box true<|zR p rs b [] []):=by have e:Ah .nil (.ints .i64 true []):=.le (show ar .nil (.ints .i64 true [])from W);have a:Ah .nil (.bA true 1 [] (SV.ints .i64 true) []):=.le (show ar .nil (.bA true 1 [] (SV.ints .i64 true) [])from W);exact .box<|.agg<|.cons (.refl _)<|.cons (.refl _)<|.cons (.refl _)<|.cons (.refl _)<|.cons (.refl _)<|.cons (.refl _)<|.cons (.refl _)<|.cons (.refl _)<|.cons e<|.cons a .nil
noncomputable def gm(p:gV)(rs:List fD)(b:fE):Int:=if mH p rs≠0 then mH p rs else od b
noncomputable def lF(rs:List fD)(b:fE):List Int:=rs.map λs=>mK (Gm s) b.s
noncomputable def ky(rs:List fD)(b:fE)(u:bT):List Int:=(List.range u.ah.length).map λk=>tM rs b u k
noncomputable def lS(rs:List fD)(b:fE)(us:List bT):List (List Int):=us.map<|ky rs b
noncomputable def SU(f:Hi):Fr:=if bV f.dZ<0 then⟨jc (aac<|bV f.dZ).n,(aac<|bV f.dZ).d⟩else aac (bV f.dZ)
def RH{f:Hi}(h:aL f.dZ=0):gW (SU f) (mD<|bV f.dZ)/\ri (SU f) 600:=by
 obtain⟨-,a⟩:=GG (aac<|bV f.dZ) (dP _) (fQ h).1 fh;rw[xj];unfold SU;by_cases g:bV f.dZ<0
 ·rw[if_pos g,if_pos g];exact⟨a,Gg (dP _)<|fQ h⟩
 rw[if_neg g,if_neg g];exact⟨dP _,fQ h⟩
def SA{a b:Rat}(c:0<=b):mD (a*b)=b*mD a:=by
 rw[xj,xj];by_cases g:a<0
 ·have d:0<=(-a)*b:=Rat.mul_nonneg (by grind) c;split<;>grind
 have d:0<=a*b:=Rat.mul_nonneg (by grind) c
 grind
noncomputable def Z1(p:gV)(rs:List fD)(b:fE)(j:Nat)(u:bT)(k:Nat):List (Nat×SV):=
 [(1,.bA false 2 default dX rs),(3,.box true<|bh p),(5,.box true<|dz b),(15,.ints .i64 true<|(ky rs b u).take k),(14,.box true<|dQ u),(35,.box true<|zR p rs b (lF rs b)<|(lS rs b p.aa).take j),(10,.bC 35 0 0 []),
  (65,.bA false 2 default oX u.ah),(66,.i u.ah.length),(67,.i k),(58,.bA false 5 default dQ p.aa),(59,.i p.aa.length),(60,.i j)]
noncomputable def X7(p:gV)(rs:List fD)(b:fE)(j:Nat):List (Nat×SV):=[(1,.bA false 2 default dX rs),(3,.box true<|bh p),(5,.box true<|dz b),(35,.box true<|zR p rs b (lF rs b)<|(lS rs b p.aa).take j),(10,.bC 35 0 0 []),(58,.bA false 5 default dQ p.aa),(59,.i p.aa.length),(60,.i j)]
def TQ(p:gV)(h:rA p)(rs:List fD)(hx:∀s∈rs,ct s.lo/\ct s.hi)(hl:rs.length<2^40)(b:fE)(he:gm p rs b=0)(hv:∀u∈p.aa,iQ p.n u)(hr:Vc p.n rs)(A:∀s∈rs,XJ s)(v:J9 b)(B0:p.aa.length<=96)(hn:p.n<=100):
 aM Tryz.prog 65 [bh p,.bA false 2 default dX rs,dz b] (.bW [.box true<|zR p rs b (lF rs b)<|lS rs b p.aa,.i 0]):=by
 have D:mH p rs=0:=by apply acF;intro g;unfold gm at he;rw[if_pos g]at he;exact g he
 have Q:od b=0:=by unfold gm at he;rwa[if_neg<|by rw[D];simp]at he
 have A0:=hr.len;refine bS Tryz.func65 W<|bP W W (um p h rs hx hl) W ?_;rw[D];refine bQ W W (λg=>absurd W g) λ_=>?_;refine bP W W (Ny b) W ?_;rw[Q];refine bQ W W (λg=>absurd W g) λ_=>?_;refine r0 W<|EI [(1,.bA false 2 default dX rs),(3,.box true<|bh p),(5,.box true<|dz b),(35,.box true<|zR p rs b [] []),(10,.bC 35 0 0 []),(36,.bA false 2 default dX rs),(37,.i rs.length),(38,.i 0)]
  ⟨⟨W,W,.refl _⟩,⟨W,W,.refl _⟩,⟨W,W,.refl _⟩,⟨W,W,X6 p rs b⟩,kL,⟨W,W,.refl _⟩,⟨W,W,.refl _⟩,⟨W,W,.refl _⟩,U⟩<|loop (λi:Nat=>[(1,.bA false 2 default dX rs),(3,.box true<|bh p),(5,.box true<|dz b),(35,.box true<|zR p rs b ((lF rs b).take i) []),(10,.bC 35 0 0 []),(36,.bA false 2 default dX rs),(37,.i rs.length),(38,.i i)]) (λi=>i<=rs.length) (λi=>rs.length-i) 0 (aaM _) ⟨G,G,G,G,kL,G,G,G,U⟩ ?_
 intro i hi;have B:(lF rs b).length=rs.length:=by simp[lF]
 refine bQ W W ?_ ?_<;>intro g1
 ·have K:i<rs.length:=E;have ei:(i:Int).toNat=i:=E;have eg:rs.getD i default=rs[i]:=au K;have hs:=A _<|abw K;obtain⟨y,x⟩:=IF hs;refine r1 W (by simp only[ag,and_true,ei];omega) ?_;rw[ei,eg];refine bH W (th _ hs) W<|bO W W (MD _ y x fh (uQ _) b.s (by have:=v.s;omega)) W ?_;refine k1 W aW (by simp only[ag,and_true,abH,B]<;>simp<;>omega) ?_;refine again (i+1) E E ⟨G,G,G,⟨W,ar.of_eq ?_⟩,kL,G,G,G,U⟩;have e:(lF rs b).take (i+1)=(lF rs b).take i++[mK (Gm rs[i]) b.s]:=by
   rw[abR E];simp[lF]
  rw[e];rfl
 have:i=rs.length:=E;subst this;rw[<-B,acz];refine r0 W ?_;have J:(lS rs b p.aa).length=p.aa.length:=by simp[lS]
 refine loop (X7 p rs b) (λj=>j<=p.aa.length) (λj=>p.aa.length-j) 0 (aaM _) ⟨G,G,G,G,kL,G,G,G,U⟩ ?_;intro j hj;unfold X7;refine bQ W W ?_ ?_<;>intro g2
 ·have F:j<p.aa.length:=E;have Z:(j:Int).toNat=j:=E;have z:p.aa[j]∈p.aa:=abw F;have eu:p.aa.getD j default=p.aa[j]:=au F;refine r1 W (by simp only[ag,and_true,Z]<;>omega) ?_;rw[Z,eu];have hu:=hv _ z;have X:=(h.unit _ z).ah;generalize N:p.aa[j]=u at*;have l:(ky rs b u).length=u.ah.length:=by simp[ky]
  refine loop (Z1 p rs b j u) (λk=>k<=u.ah.length) (λk=>u.ah.length-k) 0 (aaM _) ⟨G,G,G,G,G,G,kL,G,G,G,G,G,G,U⟩ ?_;intro k hk;unfold Z1;refine bQ W W ?_ ?_<;>intro g3
  ·have o:k<u.ah.length:=E;have Y:(k:Int).toNat=k:=E;have T:u.ah.getD k default=u.ah[k]:=au o;have t:=hu.feed _<|abw o;have t:=hu.feed _<|abw o;have H:tM rs b u k=mK (IT rs u.ah[k]) (if u.kind=bq/\k=0 then b.d else b.s):=by unfold tM;rw[T]
   have O:(ky rs b u).take (k+1)=(ky rs b u).take k++[tM rs b u k]:=by rw[abR E];simp[ky]
   obtain⟨f,hf⟩:∃f,u.ah[k]=f:=⟨_,W⟩;rw[hf]at t H T;obtain⟨f1,f2,S,f4⟩:=t;obtain⟨n1,n2⟩:=GG (aac<|bV f.dZ) (dP _) (fQ S).1 fh;obtain⟨m1,L⟩:=RH S;refine rn 3 W<|cx 3 [(1,.bA false 2 default dX rs),(3,.box true<|bh p),(5,.box true<|dz b),(15,.ints .i64 true<|(ky rs b u).take k),(14,.box true<|dQ u),(35,.box true<|zR p rs b (lF rs b)<|(lS rs b p.aa).take j),(10,.bC 35 0 0 []),(65,.bA false 2 default oX u.ah),(66,.i u.ah.length),(67,.i k),(58,.bA false 5 default dQ p.aa),(59,.i p.aa.length),(60,.i j),(16,.i k),(17,.box true<|oX f),(18,.box true<|eF<|SU f)] True ?_ λ_=>?_
   ·refine r1 W (by simp only[ag,and_true,Y]<;>omega) ?_;rw[Y,T];refine bG W (qG S) W<|bP W W (MV _<|dP _) W<|r0 W ?_;have hs:(bV f.dZ).num.sign<0↔bV f.dZ<0:=by
     rw[adl];have:=adJ (q:=bV f.dZ);constructor<;>intro h<;>grind
    refine gg W ?_ ?_<;>intro c
    ·have c:=hs.1 c;refine bP W W n1 W<|r0 W ?_;have e:SU f=⟨jc (aac<|bV f.dZ).n,(aac<|bV f.dZ).d⟩:=by unfold SU;rw[if_pos c]
     rw[e];exact aN U ⟨G,G,G,G,G,G,kL,G,G,G,G,G,G,G,G,G,U⟩
    have c:¬bV f.dZ<0:=λh=>c<|hs.2 h;have e:SU f=aac (bV f.dZ):=by unfold SU;rw[if_neg c]
    rw[e];refine bL W U ⟨G,G,G,G,G,G,kL,G,G,G,G,G,G,G,G,G,U⟩
   have C:f.sh.toNat<rs.length:=E;have M:rs.getD f.sh.toNat default=rs[f.sh.toNat]:=au C;have d:=A _<|abw C;obtain⟨y,x⟩:=IF d;obtain⟨V,q2⟩:=tg (Vx rs[f.sh.toNat]) (SU f) y m1 x L;have P:Gm rs[f.sh.toNat]*mD (bV f.dZ)=IT rs f:=by unfold IT;rw[M,SA<|uQ _]
   rw[P]at V;have R:∀m:Int,0<=m/\m<=40->aM Tryz.prog 143 [eF<|QV (Vx rs[f.sh.toNat])<|SU f,.i m] (.i<|mK (IT rs f) m):=λm hm=>MD _ V q2 fh (oI _) m E;refine r0 W ?_;have a:∀m:Int,0<=m/\m<=40->m=(if u.kind=bq/\k=0 then b.d else b.s)->ar (.ints .i64 true<|(ky rs b u).take k++[mK (IT rs f) m]) (.ints .i64 true<|(ky rs b u).take<|k+1):=by intro m hm e;refine ar.of_eq ?_;rw[O,H,e]
   refine aC 84 W ?_ ?_<;>intro c
   ·refine bQ W W ?_ ?_<;>intro w
    ·have w:u.kind=bq:=w;have hc:b.d=(if u.kind=bq/\k=0 then b.d else b.s):=by rw[if_pos ⟨w,E⟩]
     refine r1 W (by simp only[ag,and_true];omega) ?_;rw[M];refine bH W (th _ d) W<|bO W W (Ch _ _ y m1 x L fh) W<|bO W W (R b.d v.d) W<|k1 W aW (by simp only[ag,and_true,abH,l]<;>simp<;>omega) ?_;exact again (k+1) E E ⟨G,G,G,⟨W,a _ v.d hc⟩,G,G,kL,G,G,G,G,G,G,U⟩
    have w:¬u.kind=bq:=w;have hc:b.s=(if u.kind=bq/\k=0 then b.d else b.s):=by rw[if_neg λh=>w h.1]
    refine r1 W (by simp only[ag,and_true];omega) ?_;rw[M];refine bH W (th _ d) W<|bO W W (Ch _ _ y m1 x L fh) W<|bO W W (R b.s v.s) W<|k1 W aW (by simp only[ag,and_true,abH,l]<;>simp<;>omega) ?_;exact again (k+1) E E ⟨G,G,G,⟨W,a _ v.s hc⟩,G,G,kL,G,G,G,G,G,G,U⟩
   have hc:b.s=(if u.kind=bq/\k=0 then b.d else b.s):=by rw[if_neg λh=>c (by have:=h.2;show(k:Int)=0;omega)]
   refine r1 W (by simp only[ag,and_true];omega) ?_;rw[M];refine bH W (th _ d) W<|bO W W (Ch _ _ y m1 x L fh) W<|bO W W (R b.s v.s) W<|k1 W aW (by simp only[ag,and_true,abH,l]<;>simp<;>omega) ?_;exact again (k+1) E E ⟨G,G,G,⟨W,a _ v.s hc⟩,G,G,kL,G,G,G,G,G,G,U⟩
  have:k=u.ah.length:=E;subst this;have r:(ky rs b u).take u.ah.length=ky rs b u:=by rw[<-l,acz]
  rw[r];refine r1 W (by simp only[ag,and_true,len,abL,abH,J]<;>omega) ?_;refine vf (j+1) E E ⟨⟨W,W,.refl _⟩,⟨W,W,.refl _⟩,⟨W,W,.refl _⟩,⟨W,W,.box<|.agg<|.cons (.refl _)<|.cons (.refl _)<|.cons (.refl _)<|.cons (.refl _)<|.cons (.refl _)<|.cons (.refl _)<|.cons (.refl _)<|.cons (.refl _)<|.cons (.refl _)<|.cons (.row ?_) .nil⟩,kL,⟨W,W,.refl _⟩,⟨W,W,.refl _⟩,⟨W,W,.refl _⟩,U⟩;have e:(lS rs b p.aa).take (j+1)=(lS rs b p.aa).take j++[ky rs b u]:=by rw[abR E];simp[lS,N]
  rw[cX,e,abQ];exact o6.refl _
 have:j=p.aa.length:=E;subst this;rw[<-J,acz];refine bN W W
def vG(f:Nat):SV:=.agg [.fn (.func f) [] []]
def vF(f:Nat):Value:=.agg #[.func (.func f) #[] #[]]
def Vl:AF:=[(bq,vF 236),(jz,vF 237),(dy,vF 238)]
def Tv:aM Tryz.prog 147 [] (.mp<|BU Vl):=by refine bS Tryz.func147 W<|r0 W<|ex W W W (Iz W) W<|r0 W<|ex W W W (s9 (k:=bq) (v:=vF 236) (x:=vG 236) (.inl W) W Tryz.underlying231 Tryz.underlying9 W) W<|r0 W<|ex W W W (s9 (k:=jz) (v:=vF 237) (x:=vG 237) (.inl W) W Tryz.underlying231 Tryz.underlying9 W) W<|r0 W<|ex W W W (s9 (k:=dy) (v:=vF 238) (x:=vG 238) (.inl W) W Tryz.underlying231 Tryz.underlying9 W) W<|bN W W
def UA(u:bT)(L:List Int)(n:Int)(b:fE):SV:=.agg [.s u.kind,.bA false 2 default oX u.ah,.i u.out,.s u.k,.strs false u.dI,.ints .i64 false L,.i n,.i b.c,.i b.d,.i b.s,.i b.g]
def cI(L:List Int)(b:fE)(u:bT):List iV:=
 [⟨-1,-1,L.getD 0 0+40⟩,⟨(u.ah.getD 0 default).sh,-1,L.getD 0 0+b.g⟩,⟨-1,(u.ah.getD 0 default).sh,b.g-L.getD 0 0⟩,⟨u.out,-1,L.getD 1 0+L.getD 0 0-b.c⟩,
  ⟨-1,u.out,40+b.c-L.getD 0 0⟩,⟨u.out,(u.ah.getD 1 default).sh,b.g+L.getD 0 0-b.c⟩,⟨(u.ah.getD 1 default).sh,u.out,b.g-L.getD 0 0+b.c⟩]
def cA(L:List Int)(b:fE)(u:bT)(k:Nat):List iV:=[⟨u.out,-1,L.getD k 0⟩,⟨u.out,(u.ah.getD k default).sh,b.g⟩,⟨(u.ah.getD k default).sh,u.out,b.g⟩]
def cT(L:List Int)(n:Int)(b:fE)(u:bT):List iV:=[⟨n,-1,L.getD 0 0⟩,⟨-1,n,40⟩,⟨n,(u.ah.getD 0 default).sh,b.g⟩,⟨(u.ah.getD 0 default).sh,n,b.g⟩]
def Zc(x:Int):Prop:= -1000000<=x/\x<=1000000
def Tx(u:bT)(L:List Int)(n:Int)(b:fE)(d:J9 b)(g:u.ah.length=2)(h:L.length=2)(hl:∀x∈L,Zc x):
 aM Tryz.prog 236 [UA u L n b] (.bA true 3 default iU<|cI L b u):=by
 obtain⟨x,y,rfl⟩:∃x y,L=[x,y]:=by
  match L,h with
  |[x,y],_=>exact⟨x,y,W⟩
 have f:=hl x I;have e:=hl y I;unfold Zc at f e;have i:=d.g;have hc:=d.c;have c:Int.toNat 0=0:=W;have a:Int.toNat 1=1:=W;refine bS Tryz.func236 W<|k1 W aW (by simp[ag,and_true,c,a,g,abD,abK,afd,afB]<;>omega) ?_;exact aE W kL
def Tz(u:bT)(L:List Int)(n:Int)(b:fE)(i:u.ah.length=L.length)(j:L.length<=8):
 aM Tryz.prog 237 [UA u L n b] (.bA true 3 default iU<|(List.range u.ah.length).flatMap<|cA L b u):=by
 refine bS Tryz.func237 W<|bM W (λk:Nat=>[(1,.box true<|UA u L n b),(3,.bA true 3 default iU<|(List.range k).flatMap<|cA L b u),(8,.bA false 2 default oX u.ah),(9,.i u.ah.length),(10,.i k)])
  (λk=>k<=u.ah.length) (λk=>u.ah.length-k) 0 (aaM _) ⟨G,G,G,G,G,U⟩ ?_
 intro k h;have d:((List.range k).flatMap<|cA L b u).length<=k*3:=cS (f:=cA L b u) (c:=3) (λk=>by simp[cA]) k;refine bQ W W ?_ ?_<;>intro g
 ·have e:k<u.ah.length:=E;have a:(k:Int).toNat=k:=E;refine k1 W aW (by simp only[ag,and_true,a,len,abL,abD,abK]<;>omega) ?_;refine again (k+1) E E ⟨G,⟨W,W,W,?_⟩,G,G,G,U⟩;rw[cX,iM,abQ,a];exact jC.refl _
 have:k=u.ah.length:=E;subst this;refine bN W W
def Tw(u:bT)(L:List Int)(n:Int)(b:fE)(c:u.ah.length=1)(a:L.length=1):
 aM Tryz.prog 238 [UA u L n b] (.bA true 3 default iU<|cT L n b u):=by
 refine bS Tryz.func238 W<|k1 W aW (by simp[ag,a]<;>omega) ?_;exact aE W kL
def CA(p:gV)(rs:List fD)(b:fE)(S:List Int)(a:List (List Int)):SV:=
 .agg [.i p.n,.bA false 5 default dQ p.aa,.ints .i64 false p.ints,.bA false 2 default dX rs,.i b.c,.i b.d,.i b.s,.i b.g,.ints .i64 false S,.bA false 1 [] (SV.ints .i64 false) a]
def Tn(rs:List fD)(b:fE){s:Nat}(h:s<rs.length):(lF rs b).getD s 0=Px rs b s:=by unfold lF Px;rw[abx,abx,adb,abA h];rfl
def IN(rs:List fD)(b:fE)(u:bT):(ky rs b u).length=u.ah.length:=by simp[ky]
def sv(rs:List fD)(b:fE)(u:bT){k:Nat}(h:k<u.ah.length):(ky rs b u).getD k 0=tM rs b u k:=by unfold ky;rw[abx,adb,ae5 h];rfl
def Rk(rs:List fD)(b:fE)(us:List bT){i:Nat}(h:i<us.length):(lS rs b us).getD i []=ky rs b us[i]:=by unfold lS;rw[abx,adb,abA h];rfl
def Um(rs:List fD)(b:fE)(u:bT){n:Int}(hu:iQ n u)(e:Vc n rs)(hl:rs.length<2^40)(d:u.ah.length<2^40)(f:J9 b):∀x∈ky rs b u,Zc x:=by intro x a;unfold ky at a;rw[abF]at a;obtain⟨k,c,rfl⟩:=a;have c:=ab9.1 c;obtain⟨-,g,c3⟩:=jo rs b u k hu c e hl d f;unfold Zc;omega
def YL(rs:List fD)(b:fE)(u:bT)(h:u.ah.length=2):cI (ky rs b u) b u=CU rs b u:=by unfold cI CU;rw[sv rs b u E,sv rs b u E]
def YM(rs:List fD)(b:fE)(u:bT):(List.range u.ah.length).flatMap (cA (ky rs b u) b u)=(List.range u.ah.length).flatMap (qR rs b u):=by
 have:∀k∈List.range u.ah.length,cA (ky rs b u) b u k=qR rs b u k:=by intro k a;unfold cA qR;rw[sv rs b u<|ab9.1 a]
 rw[List.flatMap_def,List.flatMap_def,acr this]
def YJ(rs:List fD)(b:fE)(u:bT)(n:Int)(h:u.ah.length=1):cT (ky rs b u) n b u=GS n rs b u:=by unfold cT GS;rw[sv rs b u E]
def qP(p:gV)(h:rA p)(n:Nat)(hn:p.n=n)(Z:n<=100)(N:p.aa.length<=96)(M:∀u∈p.aa,iQ p.n u)(rs:List fD)(b:fE)(P:Vc p.n rs)(R:J9 b):
 aM Tryz.prog 72 [.box false<|CA p rs b (lF rs b)<|lS rs b p.aa] (.bW [.bA true 3 default iU<|iv n p.aa rs b,.i ((n+eR p.aa p.aa.length:Nat):Int)]):=by
 have X:=h.aa;have J:rs.length=n:=by have:=P.len;omega
 have H:(lF rs b).length=n:=by simp[lF,J]
 have r:(lS rs b p.aa).length=p.aa.length:=by simp[lS]
 have hU:∀i,(hi:i<p.aa.length)->(ry ((n+eR p.aa i:Nat):Int) rs b<|p.aa.getD i default).length<=24:=by
  intro i hi;have hu:=M _<|abw hi;rw[au hi];unfold ry;split
  ·simp[CU]
  split
  ·rename_i g;have:=cS (f:=qR rs b p.aa[i]) (c:=3) (λk=>by simp[qR]) p.aa[i].ah.length;have:=(hu.add g).2.1;omega
  split
  ·simp[GS]
  simp
 have F:∀i,i<=p.aa.length->(jM n p.aa rs b i).length<=200+24*i:=by
  intro i
  induction i with
  |zero=>intro _;have:=cS (f:=yw rs b) (c:=2) (λk=>by simp[yw]) n;simp only[jM,kZ,List.range_zero,List.flatMap_nil,acj];omega
  |succ i V=>intro hi;have:=V E;have:=hU i E;rw[oa,abE];omega
 refine bS Tryz.func72 W<|bM W (λs:Nat=>[(0,.box false<|CA p rs b (lF rs b)<|lS rs b p.aa),(4,.bA true 3 default iU<|kZ rs b s),(14,.ints .i64 false<|lF rs b),(15,.i (lF rs b).length),(16,.i s)]) (λs=>s<=n) (λs=>n-s) 0 (aaM _) ⟨G,G,G,G,G,U⟩ ?_;intro s hs;have O:(kZ rs b s).length<=s*2:=cS (f:=yw rs b) (c:=2) (λk=>by simp[yw]) s;refine bQ W W ?_ ?_<;>intro L
 ·have Y:s<n:=E;have S:(s:Int).toNat=s:=E;have B:=Tn rs b (show s<rs.length from E);refine r1 W (by simp only[ag,and_true,S,H,len,abL,abD,abK]<;>omega) ?_;rw[S,B];refine again (s+1) E E ⟨G,⟨W,W,W,?_⟩,G,G,G,U⟩;rw[cX,kZ,kZ,iM,abQ];exact jC.refl _
 have:s=n:=E;subst this;have h0:kZ rs b s=jM s p.aa rs b 0:=by unfold jM;simp
 rw[h0];refine bP W W Tv W<|bM W (λi:Nat=>[(0,.box false<|CA p rs b (lF rs b)<|lS rs b p.aa),(4,.bA true 3 default iU<|jM s p.aa rs b i),(7,.mp<|BU Vl),(8,.i ((s+eR p.aa i:Nat):Int)),(40,.bA false 5 default dQ p.aa),(41,.i p.aa.length),(42,.i i)])
  (λi=>i<=p.aa.length) (λi=>p.aa.length-i) 0 (aaM _) ⟨G,G,G,⟨W,ar.of_eq<|congrArg SV.i<|by rw[hn];simp[eR]⟩,G,G,G,U⟩ ?_
 intro i hi;refine bQ W W ?_ ?_<;>intro L
 ·have j:i<p.aa.length:=E;have q:(i:Int).toNat=i:=E;have B:p.aa.getD i default=p.aa[i]:=au j;have hu:=M _<|abw j;have m:=(h.unit _<|abw j).ah;have Q:=F i hi;have a:=oa s p.aa rs b i;have d:=kp j;have E1:=qQ p.aa i;have l:=Rk rs b p.aa j;rw[B]at a;obtain⟨u,eu⟩:∃u,p.aa[i]=u:=⟨_,W⟩;rw[eu]at hu m a d l B;have y:=Um rs b u hu P E m R;have K:=IN rs b u;have T:=Gp;have C:=wm;have D:=AR;refine r1 W (by simp only[ag,and_true,q]<;>omega) ?_;rw[q,B];by_cases w:u.kind=bq
  ·have e:¬u.kind=dy:=by rw[w];exact C
   have z:=(hu.int w).1;rw[if_neg e]at d;unfold ry at a;rw[if_pos w]at a;refine SQ (vG 236) W W W (gq (k:=u.kind) (x:=vG 236) Tryz.underlying231 Tryz.underlying9 (v:=vF 236) (by rw[w];rfl) W false) W ?_;refine r1 W (by simp only[ag,and_true,q,r]<;>omega) ?_;rw[q,l];refine bH W (Tx u (ky rs b u) _ b R z E y) W ?_;rw[YL rs b u z];refine k1 W aW (by simp only[ag,and_true,len,abL,CU,abD,abK];exact⟨λ_=>rfl,λ_=>rfl,E⟩) ?_;refine gg W (λo=>absurd o e) λ_=>?_;refine r1 W ba<|again (i+1) E E ⟨G,⟨W,W,W,?_⟩,G,⟨W,ar.of_eq<|congrArg SV.i<|by rw[d];rfl⟩,G,G,G,U⟩;rw[cX,a,abQ];exact jC.refl _
  unfold ry at a;rw[if_neg w]at a;by_cases o:u.kind=jz
  ·have e:¬u.kind=dy:=by rw[o];exact D
   rw[if_neg e]at d;rw[if_pos o]at a;have B0:=(hu.add o).2.1;have A0:=cS (f:=qR rs b u) (c:=3) (λk=>by simp[qR]) u.ah.length;refine SQ (vG 237) W W W (gq (k:=u.kind) (x:=vG 237) Tryz.underlying231 Tryz.underlying9 (v:=vF 237) (by rw[o];rfl) W false) W ?_;refine r1 W (by simp only[ag,and_true,q,r]<;>omega) ?_;rw[q,l];refine bH W (Tz u (ky rs b u) _ b K.symm E) W ?_;rw[YM rs b u];refine k1 W aW (by simp only[ag,and_true,len,abL];exact⟨λ_=>rfl,λ_=>rfl,E⟩) ?_;refine gg W (λt=>absurd t e) λ_=>?_;refine r1 W ba<|again (i+1) E E ⟨G,⟨W,W,W,?_⟩,G,⟨W,ar.of_eq<|congrArg SV.i<|by rw[d];rfl⟩,G,G,G,U⟩;rw[cX,a,abQ];exact jC.refl _
  rw[if_neg o]at a;have t:u.kind=dy:=by
   rcases hu.kind with g|g|g
   ·exact absurd g w
   ·exact absurd g o
   exact g
  rw[if_pos t]at a d;have A:=(hu.table t).1;refine SQ (vG 238) W W W (gq (k:=u.kind) (x:=vG 238) Tryz.underlying231 Tryz.underlying9 (v:=vF 238) (by rw[t];rfl) W false) W ?_;refine r1 W (by simp only[ag,and_true,q,r]<;>omega) ?_;rw[q,l];refine bH W (Tw u (ky rs b u) _ b A E) W ?_;rw[YJ rs b u _ A];refine k1 W aW (by simp only[ag,and_true,len,abL,GS,abD,abK];exact⟨λ_=>rfl,λ_=>rfl,E⟩) ?_;refine gg W (λ_=>?_) λh5=>absurd t h5;refine r1 W ba<|again (i+1) E E ⟨G,⟨W,W,W,?_⟩,G,⟨W,ar.of_eq<|congrArg SV.i<|by rw[d];omega⟩,G,G,G,U⟩;rw[cX,a,abQ];exact jC.refl _
 have:i=p.aa.length:=E;subst this;refine bN W W
structure YU(p:gV)(rs:List fD)(b:fE):Prop where
 aae:dT p=0
 n1:1<=p.n
 n:p.n<=100
 aa:p.aa.length<=96
 val:∀u∈p.aa,iQ p.n u
 rg:Vc p.n rs
 sp:∀s∈rs,XJ s
 bn:J9 b
def Og{p:gV}(h:dT p=0):1<=p.n/\p.n<=100/\p.aa.length<=96/\∀u∈p.aa,iQ p.n u:=by
 unfold dT at h;split at h
 ·cases h
 rename_i c;split at h
 ·cases h
 rename_i b;split at h
 ·rename_i a;exact absurd h a
 rename_i a;refine⟨E,E,E,λu hu=>?_⟩;exact p9<|dK.1 (by simpa using a) u hu
def nm{p:gV}{rs:List fD}{b:fE}(h:gm p rs b=0):YU p rs b:=by
 have a:mH p rs=0:=by apply acF;intro g;unfold gm at h;rw[if_pos g]at h;exact g h
 have e:od b=0:=by unfold gm at h;rwa[if_neg<|by rw[a];simp]at h
 have d:dT p=0:=by apply acF;intro g;unfold mH at a;rw[if_pos g]at a;exact g a
 have c:jR p.n rs=0:=by unfold mH at a;rwa[if_neg<|by rw[d];simp]at a
 obtain⟨k,j,i,f⟩:=Og d;refine⟨d,k,j,i,f,FP c,λs hs=>?_,Ab.1 e⟩;unfold jR at c;split at c
 ·cases c
 exact P2<|dK.1 c s hs
def F9(p:gV)(h:rA p)(rs:List fD)(a:∀s∈rs,ct s.lo/\ct s.hi)(hl:rs.length<2^40)(b:fE)(he:gm p rs b=0):
 aM Tryz.prog 65 [bh p,.bA false 2 default dX rs,dz b] (.bW [.box true<|zR p rs b (lF rs b)<|lS rs b p.aa,.i 0]):=
 have v:=nm he
 TQ p h rs a hl b he v.val v.rg v.sp v.bn v.aa v.n
def OI(p:gV)(h:rA p)(rs:List fD)(a:∀s∈rs,ct s.lo/\ct s.hi)(hl:rs.length<2^40)(b:fE)(he:gm p rs b=0):
 aM Tryz.prog 16 [bh p,.bA false 2 default dX rs,dz b] (.bW [.ints .i64 false<|lF rs b,.bA false 1 [] (SV.ints .i64 false)<|lS rs b p.aa,.i 0]):=by
 refine bS Tryz.func16 W<|bP W W (F9 p h rs a hl b he) W<|bQ W W (λg=>absurd W g) λ_=>?_;refine oN (r:=9) (p:=[]) W W U<|k0 W aW<|bF W
def RZ(p:gV)(h:rA p)(rs:List fD)(a:∀s∈rs,ct s.lo/\ct s.hi)(hl:rs.length<2^40)(b:fE)(he:gm p rs b=0):
 aM Tryz.prog 58 [bh p,.bA false 2 default dX rs,dz b] (.bW [.bA true 3 default iU<|iv p.n.toNat p.aa rs b,.i 0]):=by
 have v:=nm he;have hn:p.n=(p.n.toNat:Int):=by have:=v.n1;omega
 refine bS Tryz.func58 W<|bP W W (F9 p h rs a hl b he) W<|bQ W W (λg=>absurd W g) λ_=>?_;refine r0 W<|call W W U (qP p h p.n.toNat hn (by have:=v.n;omega) v.aa v.val rs b v.rg v.bn) W ⟨λ_=>rfl,U⟩ ?_;refine bN W W
end Go.Ai.Pg
namespace Go.Ai
open Go.Proofs Go.RowKit
def C5:Bool->Bool->Bool
 |true,b=>b
 |false,true=>false
 |false,false=>true
def yC{a b:Bool}(h:C5 a b=true):a=b:=by cases a<;>cases b<;>simp_all[C5]
def Vz:Int->Int->Bool
 |.ofNat a,.ofNat b=>Nat.beq a b
 |.negSucc a,.negSucc b=>Nat.beq a b
 |_,_=>false
def Rj{a b:Int}(h:Vz a b=true):a=b:=by
 cases a<;>cases b<;>first
  |(rw[abZ h])
  |cases h
def xz:ck->ck->Bool
 |[],[]=>true
 |a::x,b::y=>match Nat.beq a.toNat b.toNat with
  |true=>xz x y
  |false=>false
 |_,_=>false
def D4:∀{a b:ck},xz a b=true->a=b
 |[],[],_=>rfl
 |[],_::_,h=>by simp[xz]at h
 |_::_,[],h=>by simp[xz]at h
 |a::x,b::y,h=>by
  unfold xz at h;split at h
  ·rename_i e;rw[D4 h,aeA.1<|abZ e]
  cases h
def PJ:Value->Value->Bool
 |.pointer none,.pointer none=>true
 |.map none,.map none=>true
 |.nilFunc,.nilFunc=>true
 |.nilIface,.nilIface=>true
 |_,_=>false
def PI{a b:Value}(h:PJ a b=true):a=b:=by unfold PJ at h;split at h<;>first|rfl|cases h
def can:SV->SV
 |.fv _ []=>.nil
 |.fv k (x::xs)=>.row false 1 ((x::xs).map<|.n k)
 |.ints k o xs=>.row o 1 (xs.map<|.n k)
 |.strs o xs=>.row o 1 (xs.map .s)
 |.cz o xs=>.row o 1 (xs.map .b)
 |.bA o sz _ e xs=>.row o sz (xs.map e)
 |.u x=>.b x
 |x=>x
def Nr(x:SV):(can x).den=x.den:=by
 cases x<;>try rfl
 case fv k a=>cases a<;>simp[can,SV.den,Yx,XQ,fl,cn]
 all_goals simp[can,SV.den,cn]
def allEq(f:SV->SV->Bool):List SV->List SV->Bool
 |[],[]=>true
 |x::xs,y::ys=>match f x y with
  |true=>allEq f xs ys
  |false=>false
 |_,_=>false
def Xh(f:SV->SV->Bool):SV->SV->Bool
 |.n k a,.n i b=>eX (su k i) (Vz a b)
 |.b a,.b b=>C5 a b
 |.s a,.s b=>xz a b
 |.c a,.c b=>PJ a b
 |.nil,.nil=>true
 |.row o sz xs,.row o' h ys=>eX (C5 o o') (eX (Nat.beq sz h)<|allEq f xs ys)
 |.agg xs,.agg ys=>allEq f xs ys
 |.bW xs,.bW ys=>allEq f xs ys
 |.box o x,.box o' y=>eX (C5 o o') (f x y)
 |.fn (.func g) xs ys,.fn (.func j) e d=>eX (Nat.beq g j) (eX (allEq f xs e)<|allEq f ys d)
 |_,_=>false
def Ng:Nat->SV->SV->Bool
 |0,_,_=>false
 |n+1,x,y=>Xh (Ng n) (can x)<|can y
def j5{f:SV->SV->Bool}(a:∀x y,f x y=true->x.den=y.den):∀{xs ys:List SV},allEq f xs ys=true->aB xs=aB ys
 |[],[],_=>rfl
 |[],_::_,h=>by simp[allEq]at h
 |_::_,[],h=>by simp[allEq]at h
 |x::xs,y::ys,h=>by
  unfold allEq at h;split at h
  ·rename_i e;simp[aB,a _ _ e,j5 a h]
  cases h
def R4{f:SV->SV->Bool}(a:∀x y,f x y=true->x.den=y.den){x y:SV}(h:Xh f x y=true):x.den=y.den:=by
 unfold Xh at h;split at h
 ·rw[aO]at h;rw[np h.1,Rj h.2]
 ·rw[yC h]
 ·rw[D4 h]
 ·rw[PI h]
 ·rfl
 ·rw[aO,aO]at h;simp[SV.den,yC h.1,abZ h.2.1,j5 a h.2.2]
 ·simp[SV.den,j5 a h]
 ·simp[SV.den,j5 a h]
 ·rw[aO]at h;simp[SV.den,yC h.1,a _ _ h.2]
 ·rw[aO,aO]at h;simp[SV.den,abZ h.1,j5 a h.2.1,j5 a h.2.2]
 cases h
def E4:∀{n:Nat}{x y:SV},Ng n x y=true->x.den=y.den
 |0,_,_,h=>by simp[Ng]at h
 |n+1,x,y,h=>by rw[<-Nr x,<-Nr y];exact R4 (λ_ _ h=>E4 h) h
def aM.shr{P:Program}{f:FuncId}{asx:List SV}{r:SV}(h:aM P f asx r):aM P f asx r.b9:=by
 intro w S g j i hc;intro rd o a next Q hn
 refine h w S g j i hc rd o a next Q λv e⟨q,F,p,n,m,l,k,s,d⟩=>hn v e ?_
 refine⟨λb=>q b\/b∈F,[],p,λb c=>.inl<|n b c,λb c=>?_,λb c=>?_,?_,acd,λb c=>by simp at c⟩
 ·rcases c with c|c
  ·exact m b c
  exact .inr (d b c).1
 ·rcases c with c|c
  ·exact l b c
  exact(d b c).2.1
 rw[<-gh];exact Rel.share (λb c=>.inl c) _ k λb c=>.inr c
abbrev yK:=FuncId×List SV×SV
def BX:List yK->pW
 |[],_,_=>none
 |(b,a,r)::L,g,asx=>match Nat.beq g b with
  |true=>match allEq (Ng 100) asx a with
   |true=>some r
   |false=>BX L g asx
  |false=>BX L g asx
def Vf(P:Program):List yK->Prop
 |[]=>True
 |(g,asx,r)::L=>aM P g asx r/\Vf P L
def oC{P:Program}:∀{L:List yK},Vf P L->∀{g:FuncId}{asx:List SV}{r:SV},BX L g asx=some r->aM P g asx r
 |[],_,_,_,_,h=>by simp[BX]at h
 |(f,d,e)::L,a,g,asx,r,h=>by
  unfold BX at h;split at h
  ·rename_i c;split at h
   ·rename_i b;simp at h;rw[abZ c,<-h];exact a.1.same (j5 (λ_ _ h=>E4 h) b).symm W
   exact oC a.2 h
  exact oC a.2 h
def Zs(T T':pW):pW:=λg asx=>match T g asx with
 |some r=>some r
 |none=>T' g asx
def Ok{P:Program}{T T':pW}(h:∀g asx r,T g asx=some r->aM P g asx r)(a:∀g asx r,T' g asx=some r->aM P g asx r):∀g asx r,Zs T T' g asx=some r->aM P g asx r:=by
 intro g asx r e;unfold Zs at e;split at e
 ·rename_i b;cases e;simp_all
 simp_all
end Go.Ai
namespace Go.Ai.Pg
open Go.Proofs Go.Ai Go.Ai.eE
def DM(cs:List iV)(i:Int):iV:=cs.getD i.toNat default
def w8(cs:List iV)(l:List Int):Int:=(l.map λi=>(DM cs i).dH).sum
def JS(cs:List iV):Int->List Int->Prop
 |_,[]=>True
 |p,i::l=>(DM cs i).qf=(DM cs p).less/\JS cs i l
instance YK(cs:List iV):∀p l,Decidable (JS cs p l)
 |_,[]=>.isTrue U
 |p,i::l=>@instDecidableAnd _ _ _<|YK cs i l
def J0(cs:List iV)(i:Int):Bool:=decide (i<0\/(cs.length:Int)<=i)
def Nn(cs:List iV)(l:List Int):Int:=if l.length=0 then 12 else if 256<l.length then 5 else if∃i∈l,J0 cs i=true then 10 else if¬JS cs (l.getD (l.length-1) 0) l then 20 else if 0<=w8 cs l then 20 else 0
def SK(cs:List iV):Prop:=∀c∈cs,-100000<=c.dH/\c.dH<=100000
def VR{cs:List iV}(h:SK cs)(i:Int): -100000<=(DM cs i).dH/\(DM cs i).dH<=100000:=by
 unfold DM;rw[abx];cases e:cs[i.toNat]?with
 |none=>exact⟨fh,fh⟩
 |some c=>exact h c<|adD e
def Pf{cs:List iV}{l:List Int}{i:Nat}(h:i<l.length):w8 cs (l.take<|i+1)=w8 cs (l.take i)+(DM cs l[i]).dH:=by unfold w8;rw[abR h];simp only[abQ,List.sum_append,ab8,acX,ae2,List.sum_nil,Int.add_zero]
def Xl{cs:List iV}(h:SK cs)(l:List Int): -100000*l.length<=w8 cs l/\w8 cs l<=100000*l.length:=by
 induction l with
 |nil=>simp[w8]
 |cons i l a=>have:=VR h i;unfold w8 at*;simp;omega
def Ph{cs:List iV}{l:List Int}{i:Nat}{p:Int}(h:i<l.length):JS cs p (l.drop i)↔(DM cs l[i]).qf=(DM cs p).less/\JS cs l[i] (l.drop<|i+1):=by rw[abO h];rfl
def Sj{cs:List iV}{i:Int}(h:¬J0 cs i=true):0<=i/\i.toNat<cs.length:=by unfold J0 at h;simp at h;omega
def abl(cs:List iV)(hc:cs.length<2^40)(k:Int):aM Tryz.prog 74 [.i k,.box false<|.bA false 3 default iU cs] (.u<|J0 cs k):=by
 refine bS Tryz.func74 W<|bJ W 6 W ?_ ?_<;>intro g
 ·refine bK W W (show true=J0 cs k from(decide_eq_true<|.inl g).symm)
 refine r1 W aX<|aE W<|ar.of_eq<|congrArg SV.u ?_;unfold J0;rw[decide_eq_decide];omega
def abn(cs:List iV)(hc:cs.length<2^40)(l:List Int)(hl:l.length<2^60):aM Tryz.prog 148 [.ints .i64 false l,.fn (.func 74) [] [.box false<|.bA false 3 default iU cs]] (.i<|rf (J0 cs) l 0):=by
 refine bS Tryz.func148 W<|bM W (λi:Nat=>[(0,.ints .i64 false l),(1,.fn (.func 74) [] [.box false<|.bA false 3 default iU cs]),(7,.i l.length),(8,.i i)]) (λi=>i<=l.length/\rf (J0 cs) l 0=rf (J0 cs) (l.drop i) i) (λi=>l.length-i) 0 ⟨aaM _,W⟩ ⟨G,G,G,G,U⟩ ?_;rintro i⟨hi,b⟩;refine bQ W W ?_ ?_<;>intro h
 ·have a:i<l.length:=E;have d:(i:Int).toNat=i:=E;rw[Cm _ a]at b;refine r1 W (by simp[ag,d];omega) ?_;refine bG W (abl cs hc _) W ?_;rw[d,au a];refine ni W W W ?_ ?_<;>intro c
  ·refine bK W W<|bR ?_;rw[b,if_pos c]
  refine r1 W (by simp[ag,and_true];omega) ?_;refine again (i+1) E ⟨E,?_⟩ ⟨G,G,G,G,U⟩;rw[b,if_neg<|by rw[c];simp]
 refine bK W W<|bR ?_;rw[b,acs E];rfl
def abh(cs:List iV)(hc:cs.length<2^40)(l:List Int)(hl:l.length<2^60):aM Tryz.prog 73 [.ints .i64 false l,.fn (.func 74) [] [.box false<|.bA false 3 default iU cs]] (.u<|decide (∃i∈l,J0 cs i=true)):=by refine bS Tryz.func73 W<|bP W W (abn cs hc l hl) W<|bK W W<|ar.of_eq<|congrArg SV.u ?_;rw[decide_eq_decide,qK _ _ _<|ab2 0]
def abj(p:gV)(h:rA p)(rs:List fD)(D:∀s∈rs,ct s.lo/\ct s.hi)(y:rs.length<2^40)(b:fE)(he:gm p rs b=0)(cs:List iV)(M:iv p.n.toNat p.aa rs b=cs)(F:SK cs)(hc:cs.length<2^40)(l:List Int)(hl:l.length<2^60):
 aM Tryz.prog 23 [bh p,.bA false 2 default dX rs,dz b,.ints .i64 false l] (.i<|Nn cs l):=by
 have v:=nm he;have hn:p.n=(p.n.toNat:Int):=by have:=v.n1;omega
 have d:=qP p h p.n.toNat hn (by have:=v.n;omega) v.aa v.val rs b v.rg v.bn;rw[M]at d;have d:aM Tryz.prog 72 [.box false<|CA p rs b (lF rs b)<|lS rs b p.aa] (.bW [.bA false 3 default iU cs,.i ((p.n.toNat+eR p.aa p.aa.length:Nat):Int)]):=d.shr.same W W;refine bS Tryz.func23 W<|bP W W (F9 p h rs D y b he) W<|bQ W W (λg=>absurd W g) λ_=>?_;refine bP W W d W<|Qr 7 W U<|oN (r:=11) (p:=[]) W W U<|bP W W (abh cs hc l hl) W<|bP W W (SX _ 12) W<|bP W W (SX _ 5) W<|bP W W (SX _ 10) W<|bP W W (RG _ I) W<|r0 W ?_;unfold Nn;have a:aK id [if decide ((l.length:Int)=0)then(12:Int)else 0,if decide ((256:Int)<l.length)then 5 else 0,if decide (∃i∈l,J0 cs i=true)then 10 else 0]=if l.length=0 then 12 else if 256<l.length then 5 else if∃i∈l,J0 cs i=true then 10 else 0:=by
  by_cases o:l.length=0
  ·simp[aK,o]
  have u:¬(l.length:Int)=0:=E;by_cases t:256<l.length
  ·have k:(256:Int)<l.length:=E;simp[aK,o,t,u,k]
  have k:¬(256:Int)<l.length:=E;by_cases f:∃i∈l,J0 cs i=true
  ·simp only[aK,id,decide_eq_false u,decide_eq_false k,decide_eq_true f,if_neg o,if_neg t,if_pos f];simp
  simp only[aK,id,decide_eq_false u,decide_eq_false k,decide_eq_false f,if_neg o,if_neg t,if_neg f];simp
 refine gg W ?_ ?_<;>intro g
 ·refine bK W W<|bR<|a.trans ?_;have g:(if l.length=0 then(12:Int)else if 256<l.length then 5 else if∃i∈l,J0 cs i=true then 10 else 0)≠0:=λe=>g<|a.trans e;split
  ·rfl
  split
  ·rfl
  split
  ·rfl
  rename_i o t f;rw[if_neg o,if_neg t,if_neg f]at g;exact absurd W g
 have g:(if l.length=0 then(12:Int)else if 256<l.length then 5 else if∃i∈l,J0 cs i=true then 10 else 0)=0:=a.symm.trans<|adm.1 g;have o:¬l.length=0:=λh=>by rw[if_pos h]at g;simp at g
 rw[if_neg o]at g⊢;have t:¬256<l.length:=λh=>by rw[if_pos h]at g;simp at g
 rw[if_neg t]at g⊢;have f:¬∃i∈l,J0 cs i=true:=λh=>by rw[if_pos h]at g;simp at g
 rw[if_neg f];clear g a;have m:∀j,(h:j<l.length)->0<=l[j]/\l[j].toNat<cs.length:=λj h=>Sj λe=>f ⟨_,abw h,e⟩;have H:((l.length:Int)-1).toNat=l.length-1:=E;have A:=m (l.length-1) E;have C:l.getD (l.length-1) 0=l[l.length-1]:=au E;refine k1 W aW (by simp only[ag,and_true,H,C]<;>omega) ?_;refine loop (λz:Nat×Int=>[(3,.ints .i64 false l),(11,.box false<|.bA false 3 default iU cs),(15,.i<|w8 cs<|l.take z.1),(16,.box true<|iU<|DM cs z.2),(61,.ints .i64 false l),(62,.i l.length),(63,.i z.1)]) (λz=>z.1<=l.length/\(JS cs (l.getD (l.length-1) 0) l↔JS cs z.2 (l.drop z.1))) (λz=>l.length-z.1) (0,l.getD (l.length-1) 0) ⟨aaM _,Iff.rfl⟩ ⟨G,G,G,⟨W,ar.of_eq<|by rw[H];rfl⟩,G,G,G,U⟩ ?_;rintro⟨i,q⟩⟨hi,w⟩;dsimp only at hi w⊢;have J:(i:Int).toNat=i:=E;refine bQ W W ?_ ?_<;>intro L
 ·have c:i<l.length:=E;have K:l.getD i 0=l[i]:=au c;have D:=m i c;have hs:=Xl F<|l.take i;have x:=Pf (cs:=cs) c;have hm:=VR F l[i];rw[abH]at hs;rw[Ph c]at w;refine k1 W aW (by simp only[ag,and_true,J,K]<;>omega) ?_;rw[J,K];refine gg W ?_ ?_<;>intro g
  ·refine r0 W ?_;rw[if_pos<|by rw[w];exactλh=>g h.1];exact bF W
  have g:(DM cs l[i]).qf=(DM cs q).less:=adm.1 g;refine r1 W (by simp only[ag,and_true]<;>unfold DM at hm<;>omega) ?_;refine again (i+1,l[i]) (by dsimp only;omega) ⟨by dsimp only;omega,by rw[w];exact and_iff_right g⟩ ⟨G,G,⟨W,bR ?_⟩,G,G,G,G,U⟩;exact x.symm
 have B:i=l.length:=E;subst B;rw[acN]at w;rw[if_neg<|not_not_intro<|w.2 U,acz];refine bP W W (SX _ 20) W<|bK W W<|bR ?_;by_cases g:0<=w8 cs l<;>simp[g]
end Go.Ai.Pg
namespace Go.Ai.Pg
open Go.Proofs Go.Ai
structure Rx where
 v:List Int
 b:List Int
 l:Int
def nl(c:iV):Nat:=(c.less+1).toNat
def nt(c:iV):Nat:=(c.qf+1).toNat
abbrev ga(x:List Int)(i:Nat):Int:=x.getD i 0
def nH(s:Rx)(c:iV):Prop:=ga s.v (nt c)<1099511627776/\ga s.v (nt c)+c.dH<ga s.v (nl c)
instance(s:Rx)(c:iV):Decidable (nH s c):=inferInstanceAs<|Decidable<|_/\_
def gO(s:Rx)(j:Nat)(c:iV):Rx:=if nH s c then⟨s.v.set (nl c)<|ga s.v (nt c)+c.dH,s.b.set (nl c) j,c.less+1⟩else s
def iT(cs:List iV)(s:Rx):Nat->Rx
 |0=>s
 |j+1=>gO (iT cs s j) j<|cs.getD j default
def dY(cs:List iV)(s:Rx):Rx:=iT cs {s with l:= -1} cs.length
def js(cs:List iV):Nat->Rx->Rx
 |0,s=>s
 |k+1,s=>if(dY cs s).l= -1 then dY cs s else js cs k (dY cs s)
def Py(n:Nat):Rx:=⟨(List.replicate (n+1) 1099511627776).set 0 0,List.replicate (n+1)<|-1,-1⟩
structure CW(cs:List iV)(n:Nat):Prop where
 b:SK cs
 i:∀c∈cs,-1<=c.less/\c.less<n/\ -1<=c.qf/\c.qf<n
 r:∀k<n,∃c∈cs,c.less=k/\c.qf= -1/\c.dH<=40
 z:∀k<n,∃c∈cs,c.less= -1/\c.qf=k/\c.dH=40
def Dj(cs:List iV)(y:Nat->Int):Prop:=y 0=0/\∀c∈cs,y (nl c)<=y (nt c)+c.dH
section
variable{cs:List iV}{n:Nat}{s:Rx}{y z:Nat->Int}
def kV{x:List Int}{i:Nat}(h:i<x.length)(a:Int)(k:Nat):ga (x.set i a) k=if k=i then a else ga x k:=by
 unfold ga;simp only[abx,adL];by_cases e:i=k
 ·subst e;simp[h]
 simp[e,show¬k=i fromλh=>e h.symm]
def CW.at(h:CW cs n){c:iV}(hc:c∈cs):nl c<=n/\nt c<=n/\(nl c:Int)=c.less+1/\(nt c:Int)=c.qf+1/\ -100000<=c.dH/\c.dH<=100000:=by have b:=h.i c hc;have a:=h.b c hc;unfold nl nt;omega
def iC{j:Nat}(h:j<cs.length):cs.getD j default∈cs:=by rw[au h];exact abw h
structure pZ(n:Nat)(s:Rx):Prop where
 v:s.v.length=n+1
 b:s.b.length=n+1
 z:ga s.v 0<=0
 f:∀k≤n,ga s.v k<=1099511627776
def pZ.step(h:pZ n s)(hc:CW cs n)(j:Nat){c:iV}(hm:c∈cs):pZ n (gO s j c)/\∀k≤n,ga (gO s j c).v k<=ga s.v k:=by
 obtain⟨f,e,d,b⟩:=h;obtain⟨r,q,p,o,-,-⟩:=hc.at hm;unfold gO;by_cases g:nH s c
 ·rw[if_pos g];have m:=λk=>kV (x:=s.v) (i:=nl c) E (ga s.v (nt c)+c.dH) k;have a:∀k,ga (s.v.set (nl c)<|ga s.v (nt c)+c.dH) k<=ga s.v k:=λk=>by
   rw[m];unfold nH at g;split
   ·subst_vars;omega
   exact ab2 _
  refine⟨⟨by simpa using f,by simpa using e,acI (a 0) d,λk l=>acI (a k)<|b k l⟩,λk _=>a k⟩
 rw[if_neg g];exact⟨⟨f,e,d,b⟩,λ_ _=>ab2 _⟩
def pZ.to(h:pZ n s)(hc:CW cs n):∀j≤cs.length,pZ n (iT cs s j)/\∀k≤n,ga (iT cs s j).v k<=ga s.v k
 |0,_=>⟨h,λ_ _=>ab2 _⟩
 |j+1,f=>by obtain⟨a,b⟩:=pZ.to h hc j E;obtain⟨c,d⟩:=a.step hc j<|iC (j:=j) f;exact⟨c,λk e=>acI (d k e)<|b k e⟩
def pZ.round(h:pZ n s)(hc:CW cs n):pZ n (dY cs s)/\∀k≤n,ga (dY cs s).v k<=ga s.v k:=pZ.to (s:={s with l:= -1}) ⟨h.v,h.b,h.z,h.f⟩ hc _ (abq _)
def Lo(n:Nat)(y:Nat->Int)(s:Rx):Prop:=∀k≤n,y k<=ga s.v k
def Lo.step(h:Lo n y s)(b:pZ n s)(hc:CW cs n)(a:Dj cs y)(j:Nat){c:iV}(hm:c∈cs):Lo n y (gO s j c):=by
 obtain⟨f,e,-⟩:=hc.at hm;have hl:=b.v;unfold gO;by_cases g:nH s c
 ·rw[if_pos g];intro k d;dsimp only;rw[kV E];split
  ·subst_vars;have:=a.2 c hm;have:=h _ e;omega
  exact h k d
 rw[if_neg g];exact h
def Lo.to(h:Lo n y s)(b:pZ n s)(hc:CW cs n)(a:Dj cs y):∀j≤cs.length,Lo n y (iT cs s j)
 |0,_=>h
 |j+1,c=>(Lo.to h b hc a j E).step (b.to hc j E).1 hc a j<|iC (j:=j) c
def Lo.round(h:Lo n y s)(a:pZ n s)(hc:CW cs n)(b:Dj cs y):Lo n y (dY cs s):=Lo.to (s:={s with l:= -1}) h ⟨a.v,a.b,a.z,a.f⟩ hc b _ (abq _)
def Lo.run(hc:CW cs n)(b:Dj cs y):∀(k:Nat){s:Rx},Lo n y s->pZ n s->Lo n y (js cs k s)/\pZ n (js cs k s)
 |0,s,h,a=>⟨h,a⟩
 |k+1,s,h,a=>by
  have d:=h.round a hc b;have c:=(a.round hc).1;unfold js;split
  ·exact⟨d,c⟩
  exact Lo.run hc b k d c
def Mn(hc:CW cs n)(hs:s.l= -1):∀j≤cs.length,(iT cs s j).l= -1->iT cs s j=s/\∀i<j,¬nH s (cs.getD i default)
 |0,_,_=>⟨W,λi hi=>absurd hi E⟩
 |j+1,a,h=>by
  have hm:=(hc.at<|iC (j:=j) a).2.2.1;unfold iT gO at h⊢;by_cases g:nH (iT cs s j) (cs.getD j default)
  ·rw[if_pos g]at h;dsimp only at h;omega
  rw[if_neg g]at h⊢;obtain⟨e,f⟩:=Mn hc hs j E h;rw[e]at g;refine⟨e,λi hi=>?_⟩;by_cases b:i=j
  ·rw[b];exact g
  exact f i E
def Bp(hc:CW cs n)(h:(dY cs s).l= -1):(∀c∈cs,¬nH (dY cs s) c):=by obtain⟨e,f⟩:=Mn (s:={s with l:= -1}) hc W _ (abq _) h;intro c hm;obtain⟨i,hi,rfl⟩:=adz hm;have:=f i hi;rw[au hi,<-e]at this;exact this
def HP(hc:CW cs n):∀(k:Nat){s:Rx},(js cs (k+1) s).l= -1->∀c∈cs,¬nH (js cs (k+1) s) c
 |k,s,h=>by
  unfold js at h⊢;split at h
  ·rename_i g;rw[if_pos g];exact Bp hc g
  rename_i g;rw[if_neg g];cases k with
  |zero=>exact absurd h g
  |succ k=>exact HP hc k h
def Ks(hc:CW cs n)(a:Dj cs y):∀k≤n,y k<=100000:=λk d=>by
 by_cases e:k=0
 ·rw[e,a.1];decide
 obtain⟨c,hm,h,g,-⟩:=hc.r (k-1) E;have b:=a.2 c hm;have f:=hc.b c hm;rw[show nl c=k by unfold nl;omega,show nt c=0 by unfold nt;omega,a.1]at b;omega
def Kt(hc:CW cs n)(a:Dj cs y){k:Nat}(h:k<=n): -40<=y k/\y k<=40:=by
 by_cases e:k=0
 ·rw[e,a.1];decide
 obtain⟨c,hm,p,o,m⟩:=hc.r (k-1) E;obtain⟨d,b,l,j,i⟩:=hc.z (k-1) E;have g:=a.2 c hm;have f:=a.2 d b;rw[show nl c=k by unfold nl;omega,show nt c=0 by unfold nt;omega,a.1]at g;rw[show nl d=0 by unfold nl;omega,show nt d=k by unfold nt;omega,a.1]at f;omega
def Mp(hc:CW cs n)(d:pZ n s)(h:∀c∈cs,¬nH s c)(b:∀y,Dj cs y->Lo n y s):Dj cs (ga s.v):=by
 have g:∀k≤n,ga s.v k<1099511627776:=λk j=>by
  have f:=d.z;by_cases e:k=0
  ·rw[e];omega
  obtain⟨c,hm,m,l,-⟩:=hc.r (k-1) E;have a:=h c hm;have i:=hc.b c hm;unfold nH at a;rw[show nl c=k by unfold nl;omega,show nt c=0 by unfold nt;omega]at a;omega
 have hs:∀c∈cs,ga s.v (nl c)<=ga s.v (nt c)+c.dH:=λc hm=>by have a:=h c hm;have i:=g (nt c) (hc.at hm).2.1;unfold nH at a;omega
 have f:=b (λk=>ga s.v k-ga s.v 0) ⟨Int.sub_self _,λc hm=>by have:=hs c hm;dsimp only;omega⟩ 0 (aaM _);dsimp only at f;exact⟨by have:=d.z;omega,hs⟩
def zb(n:Nat):pZ n (Py n):=by
 have h:∀k,ga (Py n).v k=if k=0 then 0 else ga (List.replicate (n+1) 1099511627776) k:=λk=>kV I 0 k;refine⟨by simp[Py],by simp[Py],by rw[h];simp,λk a=>?_⟩;rw[h];split
 ·decide
 unfold ga;rw[au<|by simp;omega];simp
def KA(hc:CW cs n)(a:Dj cs y):Lo n y (Py n):=λk b=>by
 have h:ga (Py n).v k=if k=0 then 0 else ga (List.replicate (n+1) 1099511627776) k:=kV I 0 k;rw[h];have:=Ks hc a k b;split
 ·rename_i e;rw[e,a.1];decide
 unfold ga;rw[au<|by simp;omega];simp;omega
def cq(cs:List iV)(n:Nat):Rx:=js cs (n+2)<|Py n
def sW(hc:CW cs n)(h:(cq cs n).l= -1):Dj cs (ga (cq cs n).v):=by
 have c:pZ n (cq cs n):=by
  have:∀(k:Nat){s:Rx},pZ n s->pZ n (js cs k s):=by
   intro k
   induction k with
   |zero=>exactλh=>h
   |succ k b=>intro s h;unfold js;split;exact(h.round hc).1;exact b (h.round hc).1
  exact this _<|zb n
 exact Mp hc c (HP hc (n+1) h) λy a=>(Lo.run hc a _ (KA hc a)<|zb n).1
end
def xp(cs:List iV)(b:List Int)(k:Nat):iV:=cs.getD (ga b k).toNat default
def b7(cs:List iV)(b:List Int)(k:Nat):Nat->Nat
 |0=>k
 |m+1=>nt<|xp cs b<|b7 cs b k m
structure Rd(cs:List iV)(n q j:Nat)(s:Rx)(u:Nat->Nat):Prop where
 a:∀k,u k<=q
 b:∀k,1<=u k->k<=n/\∃i,i<cs.length/\ga s.b k=i/\nl (cs.getD i default)=k/\u k<=u (nt<|cs.getD i default)+1
 c:∀i,i<cs.length->ga s.v (nl<|cs.getD i default)<=ga s.v (nt<|cs.getD i default)+(cs.getD i default).dH\/1099511627776<=ga s.v (nt<|cs.getD i default)\/(if i<j then q else q-1)<=u (nt<|cs.getD i default)
 d:s.l= -1\/∃k,s.l=(k:Nat)/\u k=q
section
variable{cs:List iV}{n q j:Nat}{s:Rx}{u:Nat->Nat}
def Rd.step(h:Rd cs n q j s u)(hc:CW cs n)(o:pZ n s)(F:1<=q)(d:j<cs.length):∃t,Rd cs n q (j+1) (gO s j<|cs.getD j default) t:=by
 obtain⟨L,K,D,J,-,-⟩:=hc.at<|iC (j:=j) d;have m:=h.c j d;obtain⟨f,p,b,v⟩:=h;rw[if_neg<|Nat.lt_irrefl j]at m;unfold gO;by_cases g:nH s (cs.getD j default)
 ·rw[if_pos g];have r:=λk=>kV (x:=s.v) (i:=nl<|cs.getD j default) (by have:=o.v;omega) (ga s.v (nt<|cs.getD j default)+(cs.getD j default).dH) k;have w:=λk=>kV (x:=s.b) (i:=nl<|cs.getD j default) (by have:=o.b;omega) (j:Int) k;obtain⟨g1,g2⟩:=g;have m:q-1<=u (nt<|cs.getD j default):=E;refine⟨λk=>if k=nl (cs.getD j default)then q else u k,λk=>?_,λk c=>?_,λi hi=>?_,.inr ⟨nl<|cs.getD j default,D.symm,if_pos W⟩⟩
  ·have:=f k;split<;>omega
  ·dsimp only at c⊢;rw[w];by_cases e:k=nl (cs.getD j default)
   ·rw[if_pos e,if_pos e];exact⟨E,j,d,W,e.symm,by split<;>omega⟩
   rw[if_neg e]at c⊢;rw[if_neg e];obtain⟨C,i,B,A,z,H⟩:=p k c;exact⟨C,i,B,A,z,by have:=f k;split<;>omega⟩
  dsimp only;rw[r,r];have:=b i hi;by_cases e:i=j
  ·subst e;rw[if_pos W];by_cases a:nt (cs.getD i default)=nl (cs.getD i default)
   ·rw[if_pos a,if_pos a,if_pos<|adh _];omega
   rw[if_neg a,if_neg a];omega
  have l:(if i<j+1 then q else q-1)=if i<j then q else q-1:=by split<;>split<;>omega
  rw[l];by_cases a:nt (cs.getD i default)=nl (cs.getD j default)
  ·rw[if_pos a,if_pos a];right;right;split<;>omega
  rw[if_neg a,if_neg a];split
  ·rename_i y;rw[y]at this;omega
  exact this
 rw[if_neg g];refine⟨u,f,p,λi hi=>?_,v⟩;have:=b i hi;by_cases e:i=j
 ·subst e;unfold nH at g;omega
 have l:(if i<j+1 then q else q-1)=if i<j then q else q-1:=by split<;>split<;>omega
 rw[l];exact this
def Rd.to(hc:CW cs n)(b:pZ n s)(c:1<=q)(h:Rd cs n q 0 s u):∀j≤cs.length,∃a,Rd cs n q j (iT cs s j) a
 |0,_=>⟨u,h⟩
 |j+1,e=>by obtain⟨a,d⟩:=Rd.to hc b c h j E;exact d.step hc (b.to hc j E).1 c E
def Rd.round(h:Rd cs n q cs.length s u)(hc:CW cs n)(a:pZ n s):∃b,Rd cs n (q+1) cs.length (dY cs s) b:=Rd.to (s:={s with l:= -1}) (u:=u) hc ⟨a.v,a.b,a.z,a.f⟩ E ⟨λk=>by have:=h.a k;omega,h.b,λi hi=>by have:=h.c i hi;rw[if_pos hi]at this;rw[if_neg<|adn i];simpa using this,.inl W⟩ _ (abq _)
def Rd.run(hc:CW cs n):∀(k:Nat){q:Nat}{s:Rx}{u:Nat->Nat},pZ n s->Rd cs n q cs.length s u->(js cs (k+1) s).l≠ -1->∃a,Rd cs n (q+k+1) cs.length (js cs (k+1) s) a
 |k,q,s,u,b,h,hl=>by
  obtain⟨a,c⟩:=h.round hc b;unfold js at hl⊢;split at hl
  ·rename_i g;exact absurd g hl
  rename_i g;rw[if_neg g];cases k with
  |zero=>exact⟨a,c⟩
  |succ k=>obtain⟨d,e⟩:=Rd.run hc k (b.round hc).1 c hl;exact⟨d,by rw[show q+(k+1)+1=q+1+k+1 from E];exact e⟩
def Ql(hc:CW cs n)(hl:(cq cs n).l≠ -1):∃u,Rd cs n (n+2) cs.length (cq cs n) u:=by have:=Rd.run (u:=λ_=>0) (q:=0) hc (n+1) (zb n) ⟨λ_=>abq _,λk a=>absurd a E,λi hi=>by rw[if_pos hi];omega,.inl W⟩ hl;rwa[show 0+(n+1)+1=n+2 from E]at this
def QE:∀(n:Nat)(f:Nat->Nat),(∀i,i<=n+1->f i<=n)->∃i j,i<j/\j<=n+1/\f i=f j
 |0,f,h=>⟨0,1,E,E,by have:=h 0 E;have:=h 1 E;omega⟩
 |n+1,f,h=>by
  by_cases g:∃i,i<=n+1/\f i=f (n+2)
  ·obtain⟨i,hi,e⟩:=g;exact⟨i,n+2,E,E,e⟩
  have g:∀i,i<=n+1->f i≠f (n+2):=λi hi e=>g ⟨i,hi,e⟩;obtain⟨i,j,b,c,a⟩:=QE n (λi=>if f i=n+1 then f (n+2)else f i) (λi hi=>by have:=h i E;have:=g i hi;have:=h (n+2) E;split<;>omega)
  refine⟨i,j,b,E,?_⟩;have:=g i E;have:=g j E;split at a<;>split at a<;>omega
def Fm(hc:CW cs n)(hl:(cq cs n).l≠ -1):∃k:Nat,(cq cs n).l=k/\
 (∀m,b7 cs (cq cs n).b k m<=n/\∃i,i<cs.length/\ga (cq cs n).b (b7 cs (cq cs n).b k m)=(i:Nat)/\nl (cs.getD i default)=b7 cs (cq cs n).b k m)/\
 ∃p,1<=p/\p<=n+1/\b7 cs (cq cs n).b k (n+1+p)=b7 cs (cq cs n).b k (n+1):=by
 obtain⟨u,h⟩:=Ql hc hl;obtain⟨k,x,B⟩:=h.d.resolve_left hl;generalize cq cs n=s at*;have hu:∀m,m<=n+1->n+2<=u (b7 cs s.b k m)+m:=by
  intro m
  induction m with
  |zero=>intro _;show n+2<=u k+0;omega
  |succ m f=>intro hm;have:=f E;obtain⟨-,i,r,d,o,A⟩:=h.b _ (show 1<=u (b7 cs s.b k m)from E);unfold b7 xp;rw[d,ab4];omega
 have w:∀m,m<=n+1->b7 cs s.b k m<=n/\∃i,i<cs.length/\ga s.b (b7 cs s.b k m)=(i:Nat)/\nl (cs.getD i default)=b7 cs s.b k m:=λm hm=>by have:=hu m hm;obtain⟨y,i,r,d,o,-⟩:=h.b _ (show 1<=u (b7 cs s.b k m)from E);exact⟨y,i,r,d,o⟩
 obtain⟨i,j,v,z,he⟩:=QE n (b7 cs s.b k) λi hi=>(w i hi).1;have c:∀t,b7 cs s.b k (i+t)=b7 cs s.b k (j+t):=by
  intro t
  induction t with
  |zero=>exact he
  |succ t f=>show nt (xp cs s.b<|b7 cs s.b k<|i+t)=nt (xp cs s.b<|b7 cs s.b k<|j+t);rw[f]
 have g:∀m,∃a,a<j/\b7 cs s.b k m=b7 cs s.b k a:=by
  intro m
  induction m with
  |zero=>exact⟨0,E,W⟩
  |succ m f=>
   obtain⟨a,r,d⟩:=f;have o:b7 cs s.b k (m+1)=b7 cs s.b k (a+1):=by show nt (xp cs s.b<|b7 cs s.b k m)=nt (xp cs s.b<|b7 cs s.b k a);rw[d]
   by_cases e:a+1=j
   ·exact⟨i,v,by rw[o,e,he]⟩
   exact⟨a+1,E,o⟩
 refine⟨k,x,λm=>?_,j-i,E,E,?_⟩
 ·obtain⟨a,r,d⟩:=g m;rw[d];exact w a E
 have:=c<|n+1-i;rw[show i+(n+1-i)=n+1 from E,show j+(n+1-i)=n+1+(j-i)from E]at this;exact this.symm
end
def Wt{xs:List Int}{k:Nat}(h:k<xs.length):ga xs.reverse k=ga xs (xs.length-1-k):=by unfold ga;rw[au<|by simpa using h,au E,List.getElem_reverse]
def W2{x y:List Int}(hl:x.length=y.length)(h:∀k<x.length,ga x k=ga y k):x=y:=by refine aex hl λk a b=>?_;have:=h k a;unfold ga at this;rwa[au a,au b]at this
def N4(xs:List Int)(hl:xs.length<2^40):lp Tryz.prog 231 [.ints .i64 true xs] [.bC 1000000 0 0 []] [.ints .i64 true xs.reverse] (.bW []):=by
 refine sE (fn:=Tryz.f231) Tryz.func231 W W W W W<|r1 W ba<|loop (λz:Nat×List Int=>[(0,.bC 1000000 0 0 []),(2,.i z.1),(3,.i<|(xs.length:Int)-1-z.1),(1000000,.ints .i64 true z.2)])
  (λz=>z.1<=xs.length/\z.2.length=xs.length/\∀k<xs.length,ga z.2 k=if k<z.1\/xs.length<=k+z.1 then ga xs (xs.length-1-k)else ga xs k) (λz=>xs.length-z.1) (0,xs)
  ⟨aaM _,W,λk c=>by rw[if_neg E]⟩ ⟨kL,G,⟨W,ar.of_eq<|congrArg SV.i E⟩,G,U⟩ ?_
 rintro⟨i,y⟩⟨hi,b,a⟩;dsimp only at hi b a⊢;refine bQ W W ?_ ?_<;>intro g
 ·have f:(i:Int).toNat=i:=E;have e:((xs.length:Int)-1-i).toNat=xs.length-1-i:=E;refine k1 W aW (by simp only[ag,and_true,f,e,b,acO]<;>omega) ?_;rw[f,e];refine again (i+1,(y.set i<|ga y<|xs.length-1-i).set (xs.length-1-i)<|ga y i) (by dsimp only;omega) ⟨by dsimp only;omega,by simpa using b,λk c=>?_⟩ ⟨kL,G,⟨W,ar.of_eq<|congrArg SV.i<|by dsimp only;omega⟩,G,U⟩;dsimp only;have m:ga y i=ga xs i:=by rw[a i E,if_neg E]
  have l:ga y (xs.length-1-i)=ga xs (xs.length-1-i):=by rw[a _ E,if_neg E]
  rw[kV<|by simp;omega,kV E,m,l,a k c];by_cases j:k=xs.length-1-i
  ·rw[if_pos j,if_pos E,show xs.length-1-k=i from E]
  rw[if_neg j];by_cases d:k=i
  ·rw[if_pos d,if_pos E,d]
  rw[if_neg d];by_cases h:k<i\/xs.length<=k+i
  ·rw[if_pos h,if_pos E]
  rw[if_neg h,if_neg E]
 have:y=xs.reverse:=W2 (by simpa using b) λk c=>by
  rw[a k E,Wt E];split
  ·rfl
  congr 1;omega
 subst this;refine r0 W<|SN [(1000000,.ints .i64 true xs.reverse)] ⟨⟨W,W,.le W⟩,U⟩ W U ⟨G,U⟩
structure VX(cs:List iV)(n T:Nat)(s:Rx):Prop where
 v:s.v.length=n+1
 b:s.b.length=n+1
 f:∀k≤n,-(100000*T)<=ga s.v k/\ga s.v k<=1099511627776
def VX.step{cs:List iV}{n T:Nat}{s:Rx}(h:VX cs n T s)(hc:CW cs n)(j:Nat){c:iV}(hm:c∈cs):VX cs n (T+1) (gO s j c):=by
 obtain⟨i,f,p,o,m,l⟩:=hc.at hm;obtain⟨e,d,a⟩:=h;unfold gO;by_cases g:nH s c
 ·rw[if_pos g];unfold nH at g;refine⟨by simpa using e,by simpa using d,λk b=>?_⟩;dsimp only;rw[kV E];have:=a k b;have:=a _ i;have:=a _ f;split<;>omega
 rw[if_neg g];exact⟨e,d,λk b=>by have:=a k b;omega⟩
def XY(cs:List iV)(n:Nat):VX cs n 0 (Py n):=by
 have:=zb n;refine⟨this.v,this.b,λk a=>⟨?_,this.f k a⟩⟩;have h:ga (Py n).v k=if k=0 then 0 else ga (List.replicate (n+1) 1099511627776) k:=kV I 0 k;rw[h];split
 ·decide
 unfold ga;rw[au<|by simp;omega];simp
def vE{cs:List iV}{n:Nat}(hc:CW cs n):pZ n (cq cs n):=by
 have:∀(k:Nat){s:Rx},pZ n s->pZ n (js cs k s):=by
  intro k
  induction k with
  |zero=>exactλh=>h
  |succ k a=>intro s h;unfold js;split;exact(h.round hc).1;exact a (h.round hc).1
 exact this _<|zb n
def pP(cs:List iV)(b:List Int)(stop:Nat):Nat->Nat->List Int
 |0,_=>[]
 |f+1,a=>ga b a::if nt (xp cs b a)=stop then[]else pP cs b stop f (nt<|xp cs b a)
def mA(cs:List iV)(n:Nat):List Int:=(pP cs (cq cs n).b (b7 cs (cq cs n).b (cq cs n).l.toNat<|n+1) (n+1)<|b7 cs (cq cs n).b (cq cs n).l.toNat<|n+1).reverse
def TG(cs:List iV)(n:Nat):SV:=if(cq cs n).l= -1 then .bW [.ints .i64 true (cq cs n).v,.nil]else .bW [.nil,.ints .i64 true<|mA cs n]
def yx(cs:List iV)(b:List Int)(stop:Nat):∀(f a:Nat),(pP cs b stop f a).length<=f
 |0,_=>abq _
 |f+1,a=>by
  unfold pP;rw[abD];split
  ·exact Nat.succ_le_succ<|aaM _
  exact Nat.succ_le_succ<|yx cs b stop f _
def rO(cs:List iV)(b:List Int)(k m:Nat):∀p,b7 cs b (b7 cs b k m) p=b7 cs b k (m+p)
 |0=>rfl
 |p+1=>by show nt (xp cs b _)=nt (xp cs b _);rw[rO cs b k m p];rfl
def sX(cs:List iV)(b:List Int)(k p:Nat):b7 cs b (nt<|xp cs b k) p=b7 cs b k (p+1):=by have:=rO cs b k 1 p;rw[aeT]at this;exact this
def TF(cs:List iV)(n:Nat)(hc:CW cs n)(hl:cs.length<2^20)(hn:n<2^10):aM Tryz.prog 141 [.bA false 3 default iU cs,.i n] (TG cs n):=by
 refine bS Tryz.func141 W<|r1 W ba<|bG W (po 1099511627776 (n+1) E E) W<|r1 W ba<|bG W (po (-1) (n+1) E E) W<|Qr 2 W U<|CP 4 (λs:Rx=>[(0,.bA false 3 default iU cs),(1,.i n),(4,.nil),(5,.nil),(6,.ints .i64 true s.v),(7,.ints .i64 true s.b),(8,.i s.l)]) (λs=>s=cq cs n) ?_ ?_
 ·refine r1 W (by simp only[ag,and_true,ac2]<;>omega) ?_;refine loop (λz:Rx×Nat=>[(0,.bA false 3 default iU cs),(1,.i n),(4,.nil),(5,.nil),(6,.ints .i64 true z.1.v),(7,.ints .i64 true z.1.b),(8,.i z.1.l),(25,.i<|(n:Int)+2),(26,.i z.2)])
   (λz=>z.2<=n+2/\VX cs n (z.2*cs.length) z.1/\cq cs n=js cs (n+2-z.2) z.1) (λz=>n+2-z.2) (Py n,0) ⟨aaM _,by rw[aer];exact XY cs n,W⟩
   ⟨G,G,⟨W,U⟩,⟨W,U⟩,G,G,G,G,G,U⟩ ?_
  rintro⟨s,i⟩⟨hi,Q,he⟩;dsimp only at hi Q he⊢;refine bQ W W ?_ ?_<;>intro g
  ·have E1:i<n+2:=E;refine bM W (λj:Nat=>[(0,.bA false 3 default iU cs),(1,.i n),(4,.nil),(5,.nil),(6,.ints .i64 true (iT cs {s with l:= -1} j).v),(7,.ints .i64 true (iT cs {s with l:= -1} j).b),(8,.i (iT cs {s with l:= -1} j).l),(25,.i<|(n:Int)+2),(26,.i i),(28,.bA false 3 default iU cs),(29,.i cs.length),(30,.i j)])
    (λj=>j<=cs.length/\VX cs n (i*cs.length+j) (iT cs {s with l:= -1} j)) (λj=>cs.length-j) 0 ⟨aaM _,⟨Q.v,Q.b,Q.f⟩⟩
    ⟨G,G,⟨W,U⟩,⟨W,U⟩,G,G,G,G,G,G,G,G,U⟩ ?_
   rintro j⟨hj,o⟩;refine bQ W W ?_ ?_<;>intro g2
   ·have Y:j<cs.length:=E;have ej:(j:Int).toNat=j:=E;obtain⟨c,ec⟩:∃c,c=cs.getD j default:=⟨_,W⟩;have hm:=iC (cs:=cs) Y;have J:=o.step hc j hm;have d:iT cs {s with l:= -1} (j+1)=gO (iT cs {s with l:= -1} j) j (cs.getD j default):=W;rw[<-ec]at J hm d;obtain⟨a1,a2,a3,a4,a5,a6⟩:=hc.at hm;have hM:i*cs.length<=1026*cs.length:=abT _ E;generalize i*cs.length=M at*;have e1:(c.qf+1).toNat=nt c:=W;have e2:(c.less+1).toNat=nl c:=W;generalize iT cs {s with l:= -1} j=q at*;have b1:=o.f _ a1;have b2:=o.f _ a2;have hT:M+j<2^31:=E;unfold ga at b1 b2;refine r1 W (by simp only[ag,and_true,ej,<-ec,o.v]<;>omega) ?_;rw[ej,<-ec,e1];refine aC 43 W ?_ ?_<;>intro T
    ·refine k1 W aW (by simp only[ag,and_true,o.v,e2]<;>omega) ?_;rw[e2];refine gg W ?_ ?_<;>intro S
     ·refine k1 W aW (by simp only[ag,and_true,o.v,o.b,e2]<;>omega) ?_;rw[ej,show gO q j c=_ from if_pos ⟨T,S⟩]at*;exact again (j+1) E ⟨E,by rw[d];exact J⟩ ⟨G,G,⟨W,U⟩,⟨W,U⟩,⟨W,ar.of_eq<|congrArg (SV.ints .i64 true)<|by rw[d];rfl⟩,⟨W,ar.of_eq<|congrArg (SV.ints .i64 true)<|by rw[d];rfl⟩,⟨W,ar.of_eq<|congrArg SV.i<|by rw[d]⟩,G,G,G,G,G,U⟩
     refine r1 W ba ?_;rw[show gO q j c=q from if_neg λh=>S h.2]at d;exact again (j+1) E ⟨E,by rw[d];exact⟨o.v,o.b,λk X=>by have:=o.f k X;omega⟩⟩ ⟨G,G,⟨W,U⟩,⟨W,U⟩,⟨W,ar.of_eq<|congrArg (SV.ints .i64 true)<|by rw[d]⟩,⟨W,ar.of_eq<|congrArg (SV.ints .i64 true)<|by rw[d]⟩,⟨W,ar.of_eq<|congrArg SV.i<|by rw[d]⟩,G,G,G,G,G,U⟩
    refine k1 W aW ba ?_;rw[show gO q j c=q from if_neg λh=>T h.1]at d;exact again (j+1) E ⟨E,by rw[d];exact⟨o.v,o.b,λk X=>by have:=o.f k X;omega⟩⟩ ⟨G,G,⟨W,U⟩,⟨W,U⟩,⟨W,ar.of_eq<|congrArg (SV.ints .i64 true)<|by rw[d]⟩,⟨W,ar.of_eq<|congrArg (SV.ints .i64 true)<|by rw[d]⟩,⟨W,ar.of_eq<|congrArg SV.i<|by rw[d]⟩,G,G,G,G,G,U⟩
   have A0:j=cs.length:=E;subst A0;refine bQ W W ?_ ?_<;>intro D
   ·refine r0 W<|meet (dY cs s) ?_ ⟨G,G,⟨W,U⟩,⟨W,U⟩,G,G,G,U⟩;rw[he,show n+2-i=n+1-i+1 from E];exact(if_pos D).symm
   refine r1 W ba<|again (dY cs s,i+1) (by dsimp only;omega) ⟨by dsimp only;omega,by rw[abP,afe];exact o,?_⟩ ⟨G,G,⟨W,U⟩,⟨W,U⟩,G,G,G,G,G,U⟩;dsimp only;rw[he,show n+2-i=n+1-i+1 from E,show n+2-(i+1)=n+1-i from E];exact if_neg D
  refine r0 W<|meet s ?_ ⟨G,G,⟨W,U⟩,⟨W,U⟩,G,G,G,U⟩;rw[he,show n+2-i=0 from E];rfl
 rintro s rfl;have N:=(vE hc).b;refine bQ W W ?_ ?_<;>intro g
 ·rw[show TG cs n=_ from if_pos g];refine bN W W
 rw[show TG cs n=_ from if_neg g];obtain⟨k,ek,hv,p,p1,p2,hp⟩:=Fm hc g;have B:mA cs n=_:=W;unfold mA at B⊢;rw[ek]at B⊢;rw[ab4]at B⊢;generalize (cq cs n).b=b at*;obtain⟨stop,R⟩:∃stop,stop=b7 cs b k (n+1):=⟨_,W⟩;rw[<-R];have O:∀m,∃i,i<cs.length/\b.getD (b7 cs b k m) 0=(i:Int)/\((cs.getD i default).qf+1=((b7 cs b k (m+1):Nat):Int))/\b7 cs b k m<b.length/\b7 cs b k m<=n/\ -1<=(cs.getD i default).qf/\(cs.getD i default).qf<n:=λm=>by obtain⟨t,i,y,h3,h4⟩:=hv m;obtain⟨a1,a2,a3,a4,-,-⟩:=hc.at<|iC (j:=i) y;refine⟨i,y,h3,?_,by rw[N];omega,t,E,E⟩;show _=((nt (xp cs b<|b7 cs b k m):Nat):Int);unfold xp;rw[h3,ab4,a4]
 refine r1 W ba<|loop (λi:Nat=>[(0,.bA false 3 default iU cs),(7,.ints .i64 true b),(8,.i (b7 cs b k i:Nat)),(82,.i<|(n:Int)+1),(83,.i i)]) (λi=>i<=n+1) (λi=>n+1-i) 0 (aaM _)
  ⟨G,G,G,G,G,U⟩ ?_
 intro i hi;refine bQ W W ?_ ?_<;>intro g2
 ·obtain⟨x,x1,v,P,x4,x5,x6,x7⟩:=O i;have w:((b7 cs b k i:Nat):Int).toNat=b7 cs b k i:=ab4 _;have ex:(x:Int).toNat=x:=ab4 _;refine r1 W (by simp only[ag,and_true,w,v,ex]<;>omega) ?_;rw[w,v,ex,P];exact again (i+1) E E ⟨G,G,G,G,G,U⟩
 have w:i=n+1:=E;subst w;rw[<-R];refine r0 W ?_;obtain⟨C,eC⟩:∃C,C=pP cs b stop (n+1) stop:=⟨_,W⟩;have lC:C.length<=n+1:=by rw[eC];exact yx _ _ _ _ _
 rw[<-eC];refine loop (λz:List Int×Nat×Nat=>[(0,.bA false 3 default iU cs),(7,.ints .i64 true b),(8,.i (stop:Nat)),(12,.ints .i64 true z.1),(13,.i (z.2.1:Nat))])
  (λz=>(∃m,z.2.1=b7 cs b k m)/\z.1.length<=n+1/\((z.2.2=0/\z.1=C/\z.1≠[]/\z.2.1=stop)\/(z.1=[]\/z.2.1≠stop)/\z.1++pP cs b stop z.2.2 z.2.1=C/\∃p,1<=p/\p<=z.2.2/\b7 cs b z.2.1 p=stop)) (λz=>z.2.2) ([],stop,n+1)
  ⟨⟨n+1,R⟩,aaM _,.inr ⟨.inl W,eC.symm,p,p1,p2,by rw[R,rO,hp]⟩⟩ ⟨G,G,G,G,G,U⟩ ?_
 rintro⟨r,a,f⟩⟨⟨m,ea⟩,la,H⟩;dsimp only at ea la H⊢;have on:(r=[]\/a≠stop)->∃u,u<f/\(r++[b.getD a 0]).length<=n+1/\((u=0/\r++[b.getD a 0]=C/\r++[b.getD a 0]≠[]/\nt (xp cs b a)=stop)\/(r++[b.getD a 0]=[]\/nt (xp cs b a)≠stop)/\r++[b.getD a 0]++pP cs b stop u (nt<|xp cs b a)=C/\∃p,1<=p/\p<=u/\b7 cs b (nt<|xp cs b a) p=stop):=λh=>by
  have H:r++pP cs b stop f a=C/\∃p,1<=p/\p<=f/\b7 cs b a p=stop:=by
   rcases H with⟨-,-,t,y⟩|⟨-,t⟩
   ·exact(h.elim t λh=>h y).elim
   exact t
  obtain⟨t,p,p1,p2,y⟩:=H;obtain⟨u,rfl⟩:∃u,f=u+1:=⟨f-1,E⟩;unfold pP at t;have V:=congrArg List.length t;rw[abE,abD]at V;have K:(r++[b.getD a 0]).length<=n+1:=by rw[abE,adt];omega
  by_cases e:nt (xp cs b a)=stop
  ·rw[if_pos e]at t;exact⟨0,Nat.succ_pos _,K,.inl ⟨W,t,I,e⟩⟩
  rw[if_neg e]at t;have B0:p≠1:=λh=>e (by rw[h]at y;exact y);refine⟨u,adh _,K,.inr ⟨.inr e,by rw[abG];exact t,p-1,E,E,?_⟩⟩;rw[sX,show p-1+1=p from E];exact y
 obtain⟨x,x1,v,P,x4,x5,x6,x7⟩:=O m;rw[<-ea]at v x4;have w:(a:Int).toNat=a:=ab4 _;have ex:(x:Int).toNat=x:=ab4 _;have en:nt (xp cs b a)=b7 cs b k (m+1):=by rw[ea];rfl
 refine bJ W 99 W ?_ ?_<;>intro D
 ·obtain⟨u,q1,F,A⟩:=on (.inl<|aeJ E);refine r1 W (by simp only[ag,and_true,w,v,ex,adt]<;>omega) ?_;rw[w,v,ex,P];rw[en]at A;rw[v]at F A;refine again (r++[(x:Int)],b7 cs b k<|m+1,u) (by dsimp only;omega) ⟨⟨m+1,W⟩,F,A⟩ ⟨G,G,G,G,G,U⟩
 refine bQ W W ?_ ?_<;>intro Z
 ·obtain⟨u,q1,F,A⟩:=on (.inr λe=>Z<|by rw[e]);refine r1 W (by simp only[ag,and_true,w,v,ex,adt]<;>omega) ?_;rw[w,v,ex,P];rw[en]at A;rw[v]at F A;refine again (r++[(x:Int)],b7 cs b k<|m+1,u) (by dsimp only;omega) ⟨⟨m+1,W⟩,F,A⟩ ⟨G,G,G,G,G,U⟩
 have L:r=C:=by
  rcases H with⟨-,t,-,-⟩|⟨t,-⟩
  ·exact t
  refine absurd t λh=>h.elim (λh=>D<|by rw[h];rfl) λh=>Z λe=>h E
 subst L;refine r0 W<|cr W W (N4 r E) W<|bN W W
end Go.Ai.Pg
