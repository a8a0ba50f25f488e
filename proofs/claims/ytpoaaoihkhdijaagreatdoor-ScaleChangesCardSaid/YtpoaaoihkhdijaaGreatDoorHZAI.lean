/- Parts of the proof of ScaleChanges (as AIM.md's row tells), at every input, with no further conditions. -/
import Derived.Test.YtpoaaoihkhdijaaGreatDoorHZAH
set_option linter.all false
set_option maxRecDepth 100000
set_option maxHeartbeats 0
namespace Go.Ai
open Go.Proofs Go.RowKit
def abX(xs:List Int)(i:Nat):aM Tryz.prog 242 [.ints .i64 false xs,.i i] (.i<|xs.getD i 0):=by
 refine bS Tryz.func242 W<|bQ W W ?_ ?_<;>intro h
 ·refine r1 W ⟨E,E,E,U⟩<|aE W W
 refine bK W W ?_;simp[ar,vK,gt,afL<|show xs.length<=i from E]
def AD(m n:Nat)(k:(ae m).length<2^40)(j:(ae n).length<2^40):aM Tryz.prog 157 [.ints .i64 false<|ae m,.ints .i64 false<|ae n] (.ints .i64 true<|ae<|m+n):=by
 refine bS Tryz.func157 W<|r0 W<|oB (λ(i:Nat)(out:List Int)(c:Int)=>[(0,.ints .i64 false<|ae m),(1,.ints .i64 false<|ae n),(5,.ints .i64 true out),(6,.i c),(7,.i i)])
  (λi out c=>gX out/\out.length=i/\0<=c/\c<=1/\val out+c*1000000000^i=val ((ae m).take i)+val ((ae n).take i)/\(i<=(ae m).length\/i<=(ae n).length\/(c=0/\out.getLast?≠some 0/\i<=(ae m).length+(ae n).length+1)))
  (λi _ _=>(ae m).length+(ae n).length+2-i) 0 [] 0 ⟨by simp[gX],W,E,E,by simp[val],E⟩ ⟨G,G,G,G,G,U⟩ ?_
 rintro i out c⟨a,hl,q,p,f,hi⟩;refine Hf (Xf [(0,.ints .i64 false<|ae m),(1,.ints .i64 false<|ae n),(5,.ints .i64 true out),(6,.i c),(7,.i i)] (i<(ae m).length\/i<(ae n).length\/0<c) ?_ λg=>?_)
 ·refine bJ W 13 W ?_ ?_<;>intro h
  ·refine r0 W<|gm E
  refine bJ W 19 W ?_ ?_<;>intro h
  ·refine r0 W<|gm E
  refine bQ W W ?_ ?_<;>intro h
  ·refine r0 W<|gm E
  refine bK W W ?_;have hc:c=0:=E;rw[adM E,adM E,ai,ai,hc]at f;have b:out.getLast?≠some 0:=by
   have g1:=gw m;have g2:=gw n;rcases hi with hi|hi|hi
   ·refine B3 a ?_
    grind
   ·refine B3 a ?_
    grind
   exact hi.2.1
  show SV.ints .i64 true out=_;rw[tw a b (n:=m+n) E]
 have o:=bf (eC m) i;have l:=bf (eC n) i;refine bP W W (abX _ _) W<|bP W W (abX _ _) W ?_;generalize e:(ae m).getD i 0=x at*;generalize d:(ae n).getD i 0=y at*;refine r1 W ?_ ?_
 ·simp[bo,and_true,adX,aeg];omega
 refine again (i+1,out++[(x+y+c)%1000000000],(x+y+c)/1000000000) ?_ ?_ ?_
 ·dsimp only;omega
 ·dsimp only;refine⟨jg a E,by simp[hl],E,E,?_,?_⟩
  ·rw[eO,hl,aI,aI,e,d,ae1]
   grind
  grind
 exact⟨G,G,G,G,G,U⟩
def dw(xs:List Int)(c:xs.length<2^60):aM Tryz.prog 240 [.ints .i64 false xs] (.ints .i64 false<|cW xs):=by
 refine bS Tryz.func240 W<|r0 W<|ra (λw:List Int=>[(0,.ints .i64 false w)]) (λw=>cW w=cW xs/\w.length<=xs.length) (λw=>w.length) xs ⟨W,adp _⟩ ?_;rintro w⟨a,hl⟩;refine bJ W 6 W ?_ ?_<;>intro h
 ·refine r1 W (by simp[bo,and_true];omega) ?_;refine gb W ?_ ?_<;>intro b
  ·refine r1 W (by simp[bo,and_true];omega) ?_;have e:((w.drop 0).take<|(((w.length:Nat):Int)-1).toNat-0)=w.take (w.length-1):=by
    simp
   refine again (w.take<|w.length-1) ?_ ⟨?_,?_⟩ ⟨⟨W,ar.of_eq<|congrArg (SV.ints .i64 false) e⟩,U⟩
   ·simp;omega
   ·rw[<-a];refine ux E ?_;simp_all
   simp;omega
  refine bK W W ?_;rw[<-a];refine ar.of_eq<|congrArg (SV.ints .i64 false) (nD ?_).symm;intro hl;have:((((w.length:Nat):Int)-1).toNat)=w.length-1:=E
  grind
 refine bK W W ?_;have:w=[]:=List.length_eq_zero_iff.1 E;subst this;rw[<-a];rfl
def mQ(m n:Nat)(j:(ae m).length<2^60)(g:(ae n).length<2^60):aM Tryz.prog 158 [.ints .i64 false<|ae m,.ints .i64 false<|ae n] (.i<|oc m n):=by
 refine bS Tryz.func158 W<|bQ W W ?_ ?_<;>intro h
 ·refine bQ W W ?_ ?_<;>intro d
  ·refine bK W W<|bR ?_;have:=cE (m:=m) (n:=n) E;simp[oc,this]
  refine bK W W<|bR ?_;have:=cE (m:=n) (n:=m) E;simp[oc];omega
 have hl:(ae m).length=(ae n).length:=E;refine r1 W (by simp[bo,and_true];omega) ?_;refine loop (λi:Nat=>[(0,.ints .i64 false<|ae m),(1,.ints .i64 false<|ae n),(5,.i<|(i:Int)-1)]) (λi=>i<=(ae m).length/\(ae m).drop i=(ae n).drop i) (λi=>i) (ae m).length ⟨E,?_⟩
  ⟨G,G,G,U⟩ ?_
 ·simp_all
 rintro i⟨hi,a⟩;refine bQ W W ?_ ?_<;>intro d
 ·obtain⟨k,rfl⟩:∃k,i=k+1:=⟨i-1,E⟩;have l:(((k+1:Nat):Int)-1)=(k:Int):=E;have f:(((k+1:Nat):Int)-1).toNat=k:=E;refine k1 W aW (by simp[bo,and_true];omega) ?_;refine gb W ?_ ?_<;>intro c
  ·rw[f]at c;refine bK W W<|bR ?_;have:=mv E hl a c;simp[oc,this]
  refine k1 W aW (by simp[bo,and_true];omega) ?_;refine gb W ?_ ?_<;>intro b
  ·rw[f]at b;refine bK W W<|bR ?_;have:=mv E hl.symm a.symm b;simp[oc];omega
  rw[f]at c b;refine r1 W (by simp[bo,and_true];omega) ?_;refine again k ?_ ⟨E,?_⟩ ⟨G,G,⟨W,ar.of_eq<|congrArg SV.i E⟩,U⟩
  ·omega
  have e:(ae m).getD k 0=(ae n).getD k 0:=E;rw[aeE<|show k<(ae m).length from E,aeE<|show k<(ae n).length from E,a]
  grind
 have:i=0:=E;subst this;refine bK W W<|bR ?_;have e:ae m=ae n:=by simpa using a
 have:m=n:=by have:=congrArg val e;rw[ai,ai]at this;omega
 simp[oc,this]
def qV(m n:Nat)(p:(ae m).length<2^40)(hn:n<=m):aM Tryz.prog 159 [.ints .i64 false<|ae m,.ints .i64 false<|ae n] (.ints .i64 false<|ae<|m-n):=by
 have k:(ae n).length<=(ae m).length:=by
  rcases aeQ (ae m).length (ae n).length with h|h
  ·have:=cE h;omega
  exact h
 refine bS Tryz.func159 W<|r0 W<|oB (λ(i:Nat)(out:List Int)(c:Int)=>[(0,.ints .i64 false<|ae m),(1,.ints .i64 false<|ae n),(5,.ints .i64 true out),(6,.i c),(7,.i i)])
  (λi out c=>gX out/\out.length=i/\0<=c/\c<=1/\val out-c*1000000000^i=val ((ae m).take i)-val ((ae n).take i)/\i<=(ae m).length)
  (λi _ _=>(ae m).length-i) 0 [] 0 ⟨by simp[gX],W,E,E,by simp[val],E⟩ ⟨G,G,G,G,G,U⟩ ?_
 rintro i out c⟨b,hl,u,t,j,hi⟩;refine bQ W W ?_ ?_<;>intro h
 ·have s:=bf (eC m) i;have r:=bf (eC n) i;refine r1 W (by simp[bo,and_true];omega) ?_;refine bH W (abX _ _) W ?_;have q:(i:Int).toNat=i:=E;generalize d:(ae m).getD i 0=x at*;have a:(ae m).getD (i:Int).toNat 0=x:=d;generalize g:(ae n).getD i 0=y at*;refine k1 W aW (by simp only[bo,and_true,a];omega) ?_;refine gb W ?_ ?_<;>intro f
  ·rw[a]at f;refine r1 W (by simp only[bo,and_true,a,adX,aeg];omega) ?_;refine again (i+1,out++[x-y-c+1000000000],1) ?_ ⟨jg b E,by simp[hl],by dsimp only;omega,by dsimp only;omega,?_,by dsimp only;omega⟩ ⟨G,G,⟨W,?_⟩,G,G,U⟩
   ·dsimp only;omega
   ·dsimp only;rw[eO,hl,aI,aI,d,g,ae1]
    grind
   rw[<-a];rfl
  rw[a]at f;refine r1 W (by simp[bo,and_true,a,adX,aeg];omega) ?_;refine again (i+1,out++[x-y-c],0) ?_ ⟨jg b E,by simp[hl],by dsimp only;omega,by dsimp only;omega,?_,by dsimp only;omega⟩ ⟨G,G,⟨W,?_⟩,G,G,U⟩
  ·dsimp only;omega
  ·dsimp only;rw[eO,hl,aI,aI,d,g,ae1]
   grind
  rw[<-a];rfl
 refine r0 W ?_;have l:i=(ae m).length:=E;rw[adM E,adM E,ai,ai]at j;have e:=ic b;rw[hl]at e;have o:=dE i;have hc:c=0:=by grind
 subst hc;refine bG W (dw _ E) W<|bK W W<|ar.of_eq<|congrArg (SV.ints .i64 false) ?_;rw[ee b]
 congr 1;omega
def sI(m d:Nat)(v:(ae m).length<2^40)(Cc:0<d)(Rr:d<1000000000):aM Tryz.prog 239 [.ints .i64 false<|ae m,.i d] (.bW [.ints .i64 false<|ae<|m/d,.i ((m%d:Nat):Int)]):=by
 refine bS Tryz.func239 W<|r1 W (by simp[bo,and_true];omega) ?_;refine oB (λ(i:Nat)(out:List Int)(c:Int)=>[(0,.ints .i64 false<|ae m),(1,.i d),(6,.ints .i64 true out),(7,.i c),(8,.i<|(i:Int)-1)])
  (λi out c=>gX out/\out.length=(ae m).length/\0<=c/\c<d/\val ((ae m).drop i)=val (out.drop i)*d+c/\i<=(ae m).length)
  (λi _ _=>i) (ae m).length (List.replicate (ae m).length 0) 0 ⟨fw _,I,E,E,?_,E⟩ ⟨G,G,G,G,G,U⟩ ?_
 ·rw[afi<|adp _,afi I];simp[val]
 rintro i out c⟨e,hl,j,g,a,hi⟩;refine bQ W W ?_ ?_<;>intro h
 ·obtain⟨k,rfl⟩:∃k,i=k+1:=⟨i-1,E⟩;have y:=bf (eC m) k;have f:(((k+1:Nat):Int)-1).toNat=k:=E;have ex:(ae m).getD (((k+1:Nat):Int)-1).toNat 0=(ae m).getD k 0:=by rw[f]
  generalize u:(ae m).getD k 0=x at*;have p:0<=(c*1000000000+x)/d:=ahb E E;have o:(c*1000000000+x)/d<1000000000:=by refine Int.ediv_lt_of_lt_mul E ?_;omega
  have n:=agB (c*1000000000+x) (show(d:Int)≠0 from E);have l:=agC (c*1000000000+x) (show(0:Int)<d from E);have t:=ah5 (c*1000000000+x) d;refine r1 W (by simp only[bo,and_true,ex,hl,f];omega) ?_;refine again (k,out.set k<|(c*1000000000+x)/d,(c*1000000000+x)%d) ?_ ⟨eM e ⟨p,o⟩,by simpa using hl,n,l,?_,by dsimp only;omega⟩
   ⟨G,G,⟨W,ar.of_eq<|congrArg (SV.ints .i64 true)<|by rw[ex,f]⟩,⟨W,ar.of_eq<|congrArg SV.i<|by rw[ex]⟩,⟨W,ar.of_eq<|congrArg SV.i E⟩,U⟩
  ·omega
  dsimp only;have s:k<(ae m).length:=E;have b:(ae m)[k]=x:=eW;rw[aeE s,aeE<|show k<(out.set k<|(c*1000000000+x)/d).length by simp;omega,b];simp[List.getElem_set_self,val,List.drop_set_of_lt<|ahD k,a]
  grind
 have:i=0:=E;subst this;simp[afG,ai]at a;refine bP W W (dw _ E) W<|r0 W ?_;have r:val out=((m/d:Nat):Int):=by
  have w:=bm e;have:(m:Int)/d=val out:=by rw[a,Int.add_comm,Int.add_mul_ediv_right _ _ E,Int.ediv_eq_zero_of_lt j g];omega
  rw[<-this];simp
 have q:c=((m%d:Nat):Int):=by
  have:(m:Int)%d=c:=by rw[a,Int.add_comm,Int.add_mul_emod_self_right,Int.emod_eq_of_lt j g]
  rw[<-this];simp
 refine aE W ⟨ar.of_eq<|congrArg (SV.ints .i64 false) ?_,ar.of_eq<|congrArg SV.i q,U⟩;rw[ee e,r];rfl
def cZ:Nat->Int->Int->Int->Int->Int->Int
 |0,t,_,_,_,_=>t
 |k+1,t,r,v1,v2,u2=>if 1000000000<=t\/r*1000000000+u2<t*v2 then(if 1000000000<=r+v1 then t-1 else cZ k (t-1) (r+v1) v1 v2 u2)else t
def gn{a b c:Int}(h:a<=b)(hc:0<=c):a*c<=b*c:=af4 h hc
def sx{v1 v2 u2 f P g s U V:Int}(q:0<P)(n:1<=v1)(u:0<=v2/\v2<1000000000)(v:0<=u2/\u2<1000000000)(m:0<=g/\g<P)(H:0<=s/\s<P)
 (C:V=v1*(1000000000*P)+v2*P+g)(Q:U=f*(1000000000*P)+u2*P+s)(L:U<1000000000*V):
 ∀(k:Nat)(t r:Int),k=t.toNat->0<=t->0<=r->t*v1+r=f->U<(t+1)*V->U<(cZ k t r v1 v2 u2+1)*V/\(cZ k t r v1 v2 u2-1)*V<=U/\0<=cZ k t r v1 v2 u2/\cZ k t r v1 v2 u2<=t:=by
 have F:v2*P+g<1000000000*P:=by
  have:=gn (show v2+1<=1000000000 from E)<|afh q
  grind
 have z:0<=v2*P:=afs u.1 E;have w:0<V:=by have:=gn n (show 0<=1000000000*P from E);omega
 have A:f<1000000000*v1+1000000000:=by
  have x:f*(1000000000*P)<(1000000000*v1+1000000000)*(1000000000*P):=by
   have h:0<=u2*P:=afs v.1 E
   grind
  exact ahc x E
 have i:∀t r:Int,0<=t->t<1000000000->t*v1+r=f->t*v2<=r*1000000000+u2->(t-1)*V<=U:=by
  intro t r l x h j;have O:t*V=t*v1*(1000000000*P)+t*v2*P+t*g:=by rw[C];grind
  have N:t*v1*(1000000000*P)=f*(1000000000*P)-r*1000000000*P:=by rw[<-h];grind
  have y:=gn j<|afh q;rw[ae7]at y;have M:t*g<=1000000000*P:=by have a:=afg (afh m.2) l;have b:=gn (afh x)<|afh q;omega
  have R:=gn n (show 0<=1000000000*P from E)
  grind
 have less:∀t r:Int,0<=t->t*v1+r=f->(1000000000<=t\/r*1000000000+u2<t*v2)->U<t*V:=by
  intro t r l h j;rcases j with j|j
  ·have:=gn j<|afh w;omega
  have O:t*V=t*v1*(1000000000*P)+t*v2*P+t*g:=by rw[C];grind
  have N:t*v1*(1000000000*P)=f*(1000000000*P)-r*1000000000*P:=by rw[<-h];grind
  have y:=gn (show r*1000000000+u2+1<=t*v2 from E)<|afh q;rw[ae7,ae7]at y;have M:0<=t*g:=afs l m.1;omega
 intro k
 induction k with
 |zero=>intro t r K l J h B;have:t=0:=E;subst this;simp only[cZ];refine⟨B,?_,E,E⟩;exact i 0 r E E h E
 |succ k D=>
  intro t r K l J h B;simp[cZ];by_cases hc:1000000000<=t\/r*1000000000+u2<t*v2
  ·rw[if_pos hc];have hl:=less t r l h hc;have p:(t-1)*v1+(r+v1)=f:=by rw[afH];omega
   by_cases o:1000000000<=r+v1
   ·rw[if_pos o];have e:t-1+1=t:=E;rw[e];refine⟨hl,?_,E,E⟩;have hs:t-1<1000000000:=by
     have:(t-1)*v1<1000000000*v1:=E;exact ahc this E
    refine i (t-1) (r+v1) E hs p ?_;have a:(t-1)*v2<=(t-1)*1000000000:=afg E E;omega
   rw[if_neg o];have e:t-1+1=t:=E;obtain⟨a,b,c,d⟩:=D (t-1) (r+v1) E E E p (by rw[e];exact hl);omega
  grind
def mJ(m n:Nat)(N:(ae m).length<2^40)(M:(ae n).length<2^40):aM Tryz.prog 160 [.ints .i64 false<|ae m,.ints .i64 false<|ae n] (.ints .i64 false<|ae<|m*n):=by
 refine bS Tryz.func160 W<|r1 W (by simp only[bo,and_true];omega) ?_;refine kR (λ(i:Nat)(out:List Int)=>[(0,.ints .i64 false<|ae m),(1,.ints .i64 false<|ae n),(5,.ints .i64 true out),(6,.i i)])
  (λi out=>gX out/\out.length=(ae m).length+(ae n).length/\val out=val ((ae m).take i)*n/\i<=(ae m).length/\∀k,i+(ae n).length<=k->out.getD k 0=0)
  (λi _=>(ae m).length-i) 0 (List.replicate ((ae m).length+(ae n).length) 0) ⟨fw _,I,by simp[val,iH],E,λk _=>fK _ _⟩ ⟨G,G,⟨W,ar.of_eq<|congrArg (SV.ints .i64 true)<|by congr 1⟩,G,U⟩ ?_
 rintro i out⟨t,hl,s,hi,z⟩;refine bQ W W ?_ ?_<;>intro h
 ·refine r0 W ?_;have R:=bf (eC m) i;generalize r:(ae m).getD i 0=x at*;refine oB (λ(k:Nat)(o:List Int)(c:Int)=>[(0,.ints .i64 false<|ae m),(1,.ints .i64 false<|ae n),(5,.ints .i64 true o),(6,.i i),(7,.i c),(8,.i k)])
   (λk o c=>gX o/\o.length=(ae m).length+(ae n).length/\0<=c/\c<1000000000/\val o+c*1000000000^(i+k)=val out+x*val ((ae n).take k)*1000000000^i/\k<=(ae n).length/\∀a,i+k<=a->o.getD a 0=out.getD a 0)
   (λk _ _=>(ae n).length-k) 0 out 0 ⟨t,hl,E,E,by simp[val],E,λ_ _=>rfl⟩ ⟨G,G,G,G,G,G,U⟩ ?_
  rintro k o c⟨l,d,J,H,C,O,u⟩;refine bQ W W ?_ ?_<;>intro B
  ·have Q:=bf (eC n) k;have P:=bf l<|i+k;have F:(i:Int).toNat=i:=E;have D:(k:Int).toNat=k:=E;have p:((i:Int)+(k:Int)).toNat=i+k:=E;generalize q:(ae n).getD k 0=y at*;generalize b:o.getD (i+k) 0=w at*;have L:0<=x*y:=afs E E;have K:x*y<=999999999*999999999:=ah6 E E E E;refine k1 W aW (by simp only[bo,and_true,F,D,p,r,q,b,d];omega) ?_;refine again (k+1,o.set (i+k)<|(w+x*y+c)%1000000000,(w+x*y+c)/1000000000) ?_ ⟨eM l E,by simpa using d,by dsimp only;omega,by dsimp only;omega,?_,by dsimp only;omega,?_⟩
    ⟨G,G,⟨W,ar.of_eq<|congrArg (SV.ints .i64 true) eW⟩,G,⟨W,ar.of_eq<|congrArg SV.i eW⟩,G,U⟩
   ·dsimp only;omega
   ·dsimp only;have f:i+k<o.length:=E;rw[kC _ f,b,aI,q,show i+(k+1)=i+k+1 from E,ae1,af1]
    grind
   dsimp only;intro a g;rw[cv,if_neg E];exact u a E
  have A:k=(ae n).length:=E;subst A;rw[adM<|adp _,ai]at C;have b:o.getD (i+(ae n).length) 0=0:=by grind
  have v:((i:Int)+((ae n).length:Int)).toNat=i+(ae n).length:=E;have e:o.getD ((i:Int)+((ae n).length:Int)).toNat 0=0:=by rw[v];exact b
  refine r1 W (by simp only[bo,and_true,e,d,v];omega) ?_;refine again (i+1,o.set (i+(ae n).length) c) ?_ ⟨eM l ⟨J,H⟩,by simpa using d,?_,by dsimp only;omega,?_⟩
   ⟨G,G,⟨W,ar.of_eq<|congrArg (SV.ints .i64 true) eW⟩,G,U⟩
  ·dsimp only;omega
  ·dsimp only;rw[kC _ E,b,aI,r]
   grind
  dsimp only;intro a g;rw[cv,if_neg E,u a E];exact z a E
 have j:i=(ae m).length:=E;subst j;rw[adM<|adp _,ai]at s;refine bP W W (dw _ E) W<|bK W W<|ar.of_eq<|congrArg (SV.ints .i64 false) ?_;rw[ee t,s,<-afn];rfl
def I0(u v:List Int)(j n:Nat)(hu:gX u)(A:gX v)(hn:v.length=n)(Q:2<=n)(P:j+n<u.length)(H:u.length<2^60)(F:500000000<=v.getD (n-1) 0):
 aM Tryz.prog 241 [.ints .i64 false u,.ints .i64 false v,.i j] (.i<|cZ ((u.getD (j+n) 0*1000000000+u.getD (j+n-1) 0)/v.getD (n-1) 0).toNat ((u.getD (j+n) 0*1000000000+u.getD (j+n-1) 0)/v.getD (n-1) 0) ((u.getD (j+n) 0*1000000000+u.getD (j+n-1) 0)%v.getD (n-1) 0) (v.getD (n-1) 0) (v.getD (n-2) 0)<|u.getD (j+n-2) 0):=by
 have a1:=bf hu<|j+n;have Z:=bf hu<|j+n-1;have Y:=bf hu<|j+n-2;have X:=bf A<|n-1;have V:=bf A<|n-2;have D:((j:Int)+(n:Int)).toNat=j+n:=E;have C:((j:Int)+(n:Int)-1).toNat=j+n-1:=E;have x:((j:Int)+(n:Int)-2).toNat=j+n-2:=E;have q:((n:Int)-1).toNat=n-1:=E;have w:((n:Int)-2).toNat=n-2:=E;subst hn;generalize z:u.getD (j+v.length) 0=g at*;generalize y:u.getD (j+v.length-1) 0=f at*;generalize o:u.getD (j+v.length-2) 0=s at*;generalize d:v.getD (v.length-1) 0=c at*;generalize m:v.getD (v.length-2) 0=p at*;refine bS Tryz.func241 W ?_;have L:0<=(g*1000000000+f)/c:=ahb E E;have K:(g*1000000000+f)/c<=2000000000:=by have:=Int.ediv_lt_of_lt_mul (show 0<c from E) (a:=g*1000000000+f) (b:=2000000001) E;omega
 have J:=agB (g*1000000000+f) (show c≠0 from E);have c3:=agC (g*1000000000+f) (show 0<c from E);refine k1 W aW (by simp only[bo,and_true,D,C,q,z,y,d];omega) ?_;refine kR (λ(t r:Int)=>[(0,.ints .i64 false u),(1,.ints .i64 false v),(2,.i j),(7,.i v.length),(9,.i t),(10,.i r)])
  (λt r=>0<=t/\t<=2000000000/\0<=r/\r<1000000000/\cZ t.toNat t r c p s=cZ ((g*1000000000+f)/c).toNat ((g*1000000000+f)/c) ((g*1000000000+f)%c) c p s) (λt _=>t.toNat) _ _ ⟨L,K,J,E,W⟩
  ⟨G,G,G,G,⟨W,ar.of_eq<|congrArg SV.i eW⟩,⟨W,ar.of_eq<|congrArg SV.i eW⟩,U⟩ ?_
 rintro t r⟨d0,T,S,R,l⟩;refine Hf (Xf [(0,.ints .i64 false u),(1,.ints .i64 false v),(2,.i j),(7,.i v.length),(9,.i t),(10,.i r)] (1000000000<=t\/r*1000000000+s<t*p) ?_ λhc=>?_)
 ·refine bJ W 44 W ?_ ?_<;>intro h
  ·refine k0 W aW<|gm<|.inl h
  have M:t*p<=999999999*999999999:=ah6 E E E E;have N:0<=t*p:=afs E E;refine k1 W aW (by simp only[bo,and_true,x,w,o,m];omega) ?_;refine gb W ?_ ?_<;>intro e
  ·simp only[x,w,o,m]at e;refine r0 W<|gm<|.inr e
  simp only[x,w,o,m]at e;refine bK W W<|bR ?_;rw[<-l];cases B:t.toNat with
  |zero=>rfl
  |succ k=>simp only[cZ];rw[if_neg E]
 have O:0<t:=by grind
 obtain⟨k,B⟩:∃k,t.toNat=k+1:=⟨t.toNat-1,E⟩;rw[B]at l;simp only[cZ]at l;rw[if_pos hc]at l;refine r1 W (by simp only[bo,and_true,q,d];omega) ?_;refine gb W ?_ ?_<;>intro e
 ·simp only[q,d]at e;rw[if_pos e]at l;refine bK W W<|ar.of_eq<|congrArg SV.i l
 simp only[q,d]at e;rw[if_neg e]at l;refine r0 W<|again (t-1,r+c) ?_ ⟨by dsimp only;omega,by dsimp only;omega,by dsimp only;omega,by dsimp only;omega,?_⟩ ⟨G,G,G,G,G,⟨W,ar.of_eq<|congrArg SV.i<|by simp only[q,d]⟩,U⟩
 ·dsimp only;omega
 simp_all
section
variable{y:Int}{w:List Int}{j k n:Nat}
def O1(h:j<=k):(w.set k y).drop j=(w.drop j).set (k-j) y:=by rw[List.drop_set,if_neg E]
def eK(h:j<=k):(w.set k y).take j=w.take j:=by rw[List.take_set_of_le h]
def EP(w:List Int)(j k:Nat):(w.drop j).getD k 0=w.getD (j+k) 0:=by simp
def mR(h:j<=k)(a:k<w.length):val ((w.set k y).drop j)=val (w.drop j)+(y-w.getD k 0)*1000000000^(k-j):=by rw[O1 h,kC _<|by simp;omega,EP,show j+(k-j)=k from E]
def p7(h:j+n<w.length):val (w.drop j)=val ((w.drop j).take n)+w.getD (j+n) 0*1000000000^n+1000000000^(n+1)*val (w.drop<|j+n+1):=by
 have e:=gN (w.drop j)<|n+1;rw[aI,EP]at e;have l:((w.drop j).take<|n+1).length=n+1:=by simp;omega
 rw[l,agk]at e;exact e
def p8(h:j+n<=w.length)(f:∀k,j<=k->k<j+n->0<=w.getD k 0/\w.getD k 0<1000000000):0<=val ((w.drop j).take n)/\val ((w.drop j).take n)<1000000000^n:=by
 have b:gX ((w.drop j).take n):=by
  intro d a;obtain⟨k,e,rfl⟩:=agP a;have c:k<n/\j+k<w.length:=by simp at e;omega
  have:=f (j+k) E E;simp_all
 have l:((w.drop j).take n).length=n:=by simp;omega
 refine⟨bm b,?_⟩;have:=ic b;rwa[l]at this
def gB(h:j<w.length):val (w.drop j)=w.getD j 0+1000000000*val (w.drop<|j+1):=by rw[aeE h];simp[val,aeF h]
def Jx(h:∀k,k<w.length->0<=w.getD k 0/\w.getD k 0<1000000000):gX w:=by intro d a;obtain⟨k,b,rfl⟩:=agP a;simp_all
def yS{u:List Int}(hl:w.length=u.length){p:Nat}(h:∀k,p<=k->w.getD k 0=u.getD k 0):w.drop p=u.drop p:=by
 apply afz
 ·simp[hl]
 intro i c d;have b:p+i<w.length:=by simp at c;omega
 have a:p+i<u.length:=E;have:=h (p+i) E;simp_all
def mz{f:Nat}(c:0<f)(b:f<1000000000):ae f=[(f:Int)]:=by
 refine(tw (λd a=>?_) ?_ ?_).symm
 ·simp at a;omega
 ·simp;omega
 simp[val]
def QM{b F:Int}(c:1<=b/\b<1000000000)(d:F=1000000000/(b+1)):1<=F/\F<=500000000/\(b+1)*F<=1000000000/\500000000<=b*F:=by
 have e:=ah5 1000000000 (b+1);have o:=agB 1000000000 (show b+1≠0 from E);have m:=agC 1000000000 (show 0<b+1 from E);rw[<-d]at e;have a:1<=F:=by
  rcases agD F 1 with h|h
  ·have:(b+1)*F<=0:=by
    have:=afg (show F<=0 from E) (show 0<=b+1 from E);omega
   omega
  exact h
 have p:(b+1)*F=b*F+F:=by rw[ae7];omega
 have l:b<=b*F:=by have:=afg a (show 0<=b from E);omega
 have i:F<=b*F:=by have:=gn c.1 (show 0<=F from E);omega
 have g:2<=b->2*F<=b*F:=λh=>gn h E;have f:2<=F->2*b<=b*F:=λh=>by have:=afg h (show 0<=b from E);omega
 omega
def Oy{Fn:Nat}(hn:2<=(ae n).length)(s:(Fn:Int)=1000000000/((ae n).getD ((ae n).length-1) 0+1)):
 1<=Fn/\Fn<=500000000/\(ae<|n*Fn).length=(ae n).length/\500000000<=(ae<|n*Fn).getD ((ae n).length-1) 0:=by
 have f:=pJ n;have q:=bf (eC n)<|(ae n).length-1;have i:(ae n).getD ((ae n).length-1) 0≠0:=by grind
 have ev:=p7 (w:=ae n) (j:=0) (n:=(ae n).length-1) E;have c:=p8 (w:=ae n) (j:=0) (n:=(ae n).length-1) E λk _ _=>bf (eC n) k;simp[afG,af7]at ev c;rw[ai,afi<|show(ae n).length<=(ae n).length-1+1 from E]at ev;generalize p:(ae n).getD ((ae n).length-1) 0=b at*;obtain⟨D,C,v,B⟩:=QM ⟨E,q.2⟩ s;generalize val ((ae n).take<|(ae n).length-1)=lo at*;simp[val]at ev;generalize g:(1000000000:Int)^((ae n).length-1)=P at*;have x:((n*Fn:Nat):Int)=lo*Fn+(b*Fn)*P:=by grind
 have m:lo*Fn<=P*Fn:=gn E E;have l:((n*Fn:Nat):Int)<1000000000*P:=by
  have A:(lo+1)*Fn<=P*Fn:=gn E E;have z:(b+1)*Fn*P<=1000000000*P:=gn v E
  grind
 have o:(b*Fn)*P<=((n*Fn:Nat):Int):=by have:0<=lo*(Fn:Int):=afs c.1 E;omega
 have e:(ae<|n*Fn).length=(ae n).length:=by
  have g1:=cw<|n*Fn;have g2:=gw<|n*Fn;have r:P<=((n*Fn:Nat):Int):=by have:=gn (show 1<=b*(Fn:Int)from E) (show 0<=P from E);omega
  rcases aeQ (ae<|n*Fn).length (ae n).length with h|h
  ·have:=im (show(ae<|n*Fn).length<=(ae n).length-1 from E);omega
  rcases g2 with g2|g2
  ·simp_all
  rcases aeQ (ae n).length (ae<|n*Fn).length with u|u
  ·have:=im (show(ae n).length<=(ae<|n*Fn).length-1 from E);have F:(1000000000:Int)^(ae n).length=1000000000*P:=by
    rw[<-g,show(ae n).length=(ae n).length-1+1 from E,ae1];simp;omega
   omega
  omega
 refine⟨E,E,e,?_⟩;have d:=p7 (w:=ae<|n*Fn) (j:=0) (n:=(ae n).length-1) E;have a:=p8 (w:=ae<|n*Fn) (j:=0) (n:=(ae n).length-1) E λk _ _=>bf (eC _) k;simp only[afG,af7]at d a;rw[ai,afi<|show(ae<|n*Fn).length<=(ae n).length-1+1 from E,g]at d;rw[g]at a;simp only[val]at d;generalize (ae<|n*Fn).getD ((ae n).length-1) 0=y at*;have:b*(Fn:Int)<y+1:=by
  have t:(b*(Fn:Int))*P<(y+1)*P:=by rw[ae7];omega
  exact ahc t E
 omega
end
def O6{U V:Int}{n:Nat}(b:U<1000000000*V)(a:V<1000000000^n):U<1000000000^(n+1):=by omega
theorem mM(m n:Nat)(h1:(ae m).length<2^36)(h2:(ae n).length<2^36)(hn0:n≠0):aM Tryz.prog 151 [.ints .i64 false<|ae m,.ints .i64 false<|ae n] (.bW [.ints .i64 false<|ae<|m/n,.ints .i64 false<|ae<|m%n]):=by
 refine bS Tryz.func151 W<|bP W W (mQ m n E E) W<|bQ W W ?_ ?_<;>intro h
 ·have hlt:m<n:=by
   unfold oc at h;omega
  refine bK W W ⟨?_,ar.of_eq<|congrArg (SV.ints .i64 false) ?_,U⟩
  ·show ae (m/n)=[];rw[afw hlt,dm]
  rw[afy hlt]
 have hge:n<=m:=by unfold oc at h;omega
 have hnp:=iF hn0;have hlb:(ae n).length<=(ae m).length:=by
  rcases aeQ (ae m).length (ae n).length with h'|h'
  ·have:=cE h';omega
  exact h'
 refine bQ W W ?_ ?_<;>intro h3
 ·have hs:ae n=[(n:Int)]/\n<1000000000:=by
   have e:=ai n;have hl:(ae n).length=1:=E;obtain⟨d,hd⟩:=List.length_eq_one_iff.1 hl;have:=eC n d (by rw[hd];simp);rw[hd]at e;simp only[val]at e
   grind
  have hg:(ae n).getD (0:Int).toNat 0=(n:Int):=by rw[hs.1];rfl
  refine r1 W (by simp only[bo,and_true];omega) ?_;refine bG W (by rw[hg];exact sI m n E E hs.2) W ?_;refine bP W W (dw _ I) W<|bK W W ⟨ar.refl _,ar.of_eq<|congrArg (SV.ints .i64 false) ?_,U⟩;have hlt:m%n<n:=aeV _ E;rw[ee λd hd=>by simp at hd;omega];rfl
 have hl2:2<=(ae n).length:=E;have et:(((ae n).length:Int)-1).toNat=(ae n).length-1:=E;have hbt:=bf (eC n)<|(ae n).length-1;refine r1 W (by simp only[bo,and_true,et];omega) ?_;rw[et];have hF0:0<=1000000000/((ae n).getD ((ae n).length-1) 0+1):=ahb E E;obtain⟨Fn,hFn⟩:=Int.eq_ofNat_of_zero_le hF0;obtain⟨f1,f2,f3,f4⟩:=Oy hl2 hFn.symm;have hFd:=mz (f:=Fn) E E;have hFl:(ae Fn).length<2^40:=by rw[hFd];simp
 rw[hFn];refine bG W (by rw[<-hFd];exact mJ n Fn E hFl) W ?_;refine bP W W (by rw[<-hFd];exact mJ m Fn E hFl) W ?_;have hla:(ae<|m*Fn).length<=(ae m).length+1:=by
  have g1:=cw m;rcases gw (m*Fn)with g2|g2
  ·rw[g2];simp
  rcases aeQ ((ae m).length+1) (ae<|m*Fn).length with h'|h'
  ·have:=im (show(ae m).length+1<=(ae<|m*Fn).length-1 from E);rw[ae1]at this;have e:((m*Fn:Nat):Int)<=m*500000000:=by rw[afn];exact afg E E
   omega
  exact h'
 refine r1 W (by simp only[bo,and_true,len,f3];omega) ?_;have hvl:=f3;generalize hV:ae (n*Fn)=v at*;have dv:gX v:=hV▸eC _;have vv:val v=((n*Fn:Nat):Int):=by rw[<-hV,ai]
 have hvpos:0<val v:=by rw[vv];have:0<n*Fn:=ahd E E;omega
 have hvlt:val v<1000000000^(ae n).length:=by have:=ic dv;rwa[hvl]at this
 generalize hnb:(ae n).length=nb at*;generalize hlm:(ae m).length=la at*;refine loop (λw:List Int=>[(0,.ints .i64 false<|ae m),(8,.ints .i64 false [(Fn:Int)]),(9,.ints .i64 false v),(10,.i nb),(11,.ints .i64 true w)]) (λw=>gX w/\val w=((m*Fn:Nat):Int)/\w.length<=la+1) (λw=>la+1-w.length) (ae<|m*Fn)
  ⟨eC _,ai _,hla⟩ ⟨G,G,G,⟨W,ar.of_eq<|congrArg SV.i<|by rw[hvl]⟩,G,U⟩ ?_
 rintro w⟨wd,wv,wl⟩;refine r1 W (by simp only[bo,and_true];omega) ?_;refine gb W ?_ ?_<;>intro h4
 ·rw[hlm]at h4;refine r1 W (by simp only[bo,and_true,adX,aeg];omega) ?_;refine again (w++[0]) ?_ ⟨jg wd E,by rw[eO,wv];simp,by simp;omega⟩ ⟨G,G,G,G,G,U⟩;simp;omega
 rw[hlm]at h4;have hwl:w.length=la+1:=E;have el1:((w.length:Int)-(nb:Int)).toNat=la+1-nb:=E;have el2:((w.length:Int)-(nb:Int)-1)=((la+1-nb:Nat):Int)-1:=E;refine r1 W (by simp only[bo,and_true,hwl];omega) ?_;refine oB (λ(i:Nat)(u q:List Int)=>[(8,.ints .i64 false [(Fn:Int)]),(9,.ints .i64 false v),(10,.i nb),(11,.ints .i64 true u),(12,.ints .i64 true q),(13,.i<|(i:Int)-1)])
  (λi u q=>gX u/\u.length=la+1/\gX q/\q.length=la+1-nb/\i<=la+1-nb/\val (u.drop i)<val v/\((m*Fn:Nat):Int)=val u+val v*val (q.drop i)*1000000000^i)
  (λi _ _=>i) (la+1-nb) w (List.replicate (la+1-nb) 0) ⟨wd,hwl,fw _,I,adp _,?_,?_⟩
  ⟨G,G,G,G,⟨W,ar.of_eq<|congrArg (SV.ints .i64 true)<|by rw[el1]⟩,⟨W,ar.of_eq<|congrArg SV.i el2⟩,U⟩ ?_
 ·have e:=gN w (la+1-nb);have l:(w.take<|la+1-nb).length=la+1-nb:=by simp;omega
  rw[l,wv]at e;have e0:=bm<|gA wd<|la+1-nb;have g1:=cw m;rw[hlm]at g1;have g2:(1000000000:Int)^(nb-1)<=n:=by
   rcases gw n with g|g
   ·simp_all
   simp_all
  have p1:=dE<|la+1-nb;have e2:(1000000000:Int)^la=1000000000^(la+1-nb)*1000000000^(nb-1):=by rw[<-af1];congr 1;omega
  have e3:((m*Fn:Nat):Int)<1000000000^(la+1-nb)*val v:=by
   rw[vv,afn,afn];have a1:(m:Int)*Fn<1000000000^la*Fn:=Int.mul_lt_mul_of_pos_right g1 E;have a2:(1000000000:Int)^la*Fn<=1000000000^(la+1-nb)*(n*Fn):=by rw[e2,ae8];exact afg (gn g2 E) E
   omega
  have:1000000000^(la+1-nb)*val (w.drop<|la+1-nb)<1000000000^(la+1-nb)*val v:=E;simp_all
 ·rw[wv,afi I];simp[val]
 rintro i u q⟨ud,ul,qd,ql,hi,hlt,heq⟩;rcases i with _|j
 ·refine bQ W W (λh5=>absurd h5 E) λ_=>?_;have enb:(nb:Int).toNat=nb:=E;simp only[afG,agU,ahe]at hlt heq;have hu0:=bm ud;have hq0:=bm qd;have hq:val q=((m/n:Nat):Int):=by
   have e1:(m*Fn)/(n*Fn)=m/n:=ah7 _ _ E;have e2:((m*Fn:Nat):Int)/((n*Fn:Nat):Int)=val q:=by rw[heq,<-vv,Int.add_mul_ediv_left _ _ E,Int.ediv_eq_zero_of_lt hu0 hlt];omega
   omega
  have hr:val u=(((m%n)*Fn:Nat):Int):=by
   have e1:(m*Fn)%(n*Fn)=(m%n)*Fn:=ah8 _ _ _;have e2:((m*Fn:Nat):Int)%((n*Fn:Nat):Int)=val u:=by rw[heq,<-vv,Int.add_mul_emod_self_left,Int.emod_eq_of_lt hu0 hlt]
   omega
  have hut:val (u.take nb)=(((m%n)*Fn:Nat):Int):=by
   have e:=gN u nb;have l:(u.take nb).length=nb:=by simp;omega
   rw[l]at e;have a1:=bm<|gA ud nb;have a2:=bm<|n7 ud nb;have a3:1000000000^nb*val (u.drop nb)<1000000000^nb*1:=E;have a4:=Int.lt_of_mul_lt_mul_left a3<|afh<|dE nb
   grind
  refine r1 W (by simp only[bo,and_true,enb,ul];omega) ?_;refine bH W (dw _<|by simp;omega) W ?_;have etr:cW (((u.drop 0).take<|(nb:Int).toNat-0))=ae ((m%n)*Fn):=by rw[afG,enb,ahf,ee<|gA ud _,hut];rfl
  rw[etr];refine r1 W (by simp only[bo,and_true,adX,aeg];omega) ?_;have hlr:(ae<|(m%n)*Fn).length<2^40:=by
   rw[<-etr];have a1:=vq<|((u.drop 0).take<|(nb:Int).toNat-0)
   grind
  refine bH W (sI ((m%n)*Fn) Fn hlr E E) W<|k0 W aW<|bG W (dw _ E) W<|bK W W ⟨ar.of_eq<|congrArg (SV.ints .i64 false) ?_,ar.of_eq<|congrArg (SV.ints .i64 false) ?_,U⟩
  ·rw[ee qd,hq];rfl
  rw[ah9 _ E]
 have hjl:j+nb<la+1:=E;have ej:(((j+1:Nat):Int)-1)=(j:Int):=E;have hu:=gB (w:=u) (j:=j) E;have huj:=bf ud j;have hUV:val (u.drop j)<1000000000*val v:=E;have hU0:=bm<|n7 ud j;have hhi:val (u.drop<|j+nb+1)=0:=by have e:=p7 (w:=u) (j:=j) (n:=nb) E;have lo:=p8 (w:=u) (j:=j) (n:=nb) E λk _ _=>bf ud k;have d1:=bf ud<|j+nb;have d2:=bm<|n7 ud<|j+nb+1;have d3:=O6 hUV hvlt;have d4:=afs d1.1<|afh<|dE nb;have d5:1000000000^(nb+1)*val (u.drop<|j+nb+1)<1000000000^(nb+1)*1:=E;have:=Int.lt_of_mul_lt_mul_left d5<|afh<|dE _;omega
 have hguess:=I0 u v j nb ud dv hvl hl2 E E f4;have hT:val (u.drop j)<((cZ ((u.getD (j+nb) 0*1000000000+u.getD (j+nb-1) 0)/v.getD (nb-1) 0).toNat ((u.getD (j+nb) 0*1000000000+u.getD (j+nb-1) 0)/v.getD (nb-1) 0) ((u.getD (j+nb) 0*1000000000+u.getD (j+nb-1) 0)%v.getD (nb-1) 0) (v.getD (nb-1) 0) (v.getD (nb-2) 0)<|u.getD (j+nb-2) 0)+1)*val v/\
  ((cZ ((u.getD (j+nb) 0*1000000000+u.getD (j+nb-1) 0)/v.getD (nb-1) 0).toNat ((u.getD (j+nb) 0*1000000000+u.getD (j+nb-1) 0)/v.getD (nb-1) 0) ((u.getD (j+nb) 0*1000000000+u.getD (j+nb-1) 0)%v.getD (nb-1) 0) (v.getD (nb-1) 0) (v.getD (nb-2) 0)<|u.getD (j+nb-2) 0)-1)*val v<=val (u.drop j)/\
  0<=cZ ((u.getD (j+nb) 0*1000000000+u.getD (j+nb-1) 0)/v.getD (nb-1) 0).toNat ((u.getD (j+nb) 0*1000000000+u.getD (j+nb-1) 0)/v.getD (nb-1) 0) ((u.getD (j+nb) 0*1000000000+u.getD (j+nb-1) 0)%v.getD (nb-1) 0) (v.getD (nb-1) 0) (v.getD (nb-2) 0) (u.getD (j+nb-2) 0):=by
  obtain⟨c,rfl⟩:∃c,nb=c+2:=⟨nb-2,E⟩;have tv:=p7 (w:=v) (j:=0) (n:=c) E;have tv1:=gB (w:=v) (j:=0+c+1) E;have tv2:v.drop (0+c+1+1)=[]:=afi E;have U:=p8 (w:=v) (j:=0) (n:=c) E λk _ _=>bf dv k;have tu:=p7 (w:=u) (j:=j) (n:=c) E;have tu1:=gB (w:=u) (j:=j+c+1) E;have tu2:=gB (w:=u) (j:=j+c+1+1) E;have tul:=p8 (w:=u) (j:=j) (n:=c) E λk _ _=>bf ud k;rw[tv2]at tv1;simp only[val,af7,afG]at tv tv1 U;rw[tv1]at tv;have hh:val (u.drop<|j+c+1+1+1)=0:=hhi;rw[hh]at tu2;rw[tu2]at tu1;rw[tu1]at tu;have g0:=bf dv c;have g1:=bf dv<|c+1;have g2:=bf ud<|j+c;have g3:=bf ud<|j+c+1;have g4:=bf ud<|j+c+1+1;have x1:c+2-1=c+1:=E;have x2:c+2-2=c:=E;have x3:j+(c+2)=j+c+1+1:=E;have x4:j+(c+2)-1=j+c+1:=E;have x5:j+(c+2)-2=j+c:=E;rw[x1]at f4;rw[x1,x2,x4,x5,x3];generalize v.getD (c+1) 0=v1 at*;generalize v.getD c 0=v2 at*;generalize u.getD (j+c) 0=u3 at*;generalize u.getD (j+c+1) 0=u2 at*;generalize u.getD (j+c+1+1) 0=u1 at*;rw[ae1]at tv tu;have hP:=dE c;have q0:0<=(u1*1000000000+u2)/v1:=ahb E E;have q1:=agB (u1*1000000000+u2) (show v1≠0 from E);have q2:=agC (u1*1000000000+u2) (show 0<v1 from E);have q3:=ah5 (u1*1000000000+u2) v1;generalize (1000000000:Int)^c=P at*;have hV':val v=v1*(1000000000*P)+v2*P+val (v.take c):=by rw[tv];grind
  have hU':val (u.drop j)=(u1*1000000000+u2)*(1000000000*P)+u3*P+val ((u.drop j).take c):=by rw[tu];grind
  have:=sx hP E g0 g2 U tul hV' hU' hUV ((u1*1000000000+u2)/v1).toNat ((u1*1000000000+u2)/v1) ((u1*1000000000+u2)%v1) W q0 q1 (by grind) ?_
  ·omega
  have a1:(u1*1000000000+u2)+1<=((u1*1000000000+u2)/v1+1)*v1:=by grind
  have a2:=gn a1 (show 0<=1000000000*P from E);have a3:u3*P+val ((u.drop j).take c)<1000000000*P:=by
   have:=gn (show u3+1<=1000000000 from E) (show 0<=P from E)
   grind
  have a4:0<=v2*P:=afs g0.1 E;have a5:((u1*1000000000+u2)/v1+1)*(v1*(1000000000*P))<=((u1*1000000000+u2)/v1+1)*val v:=afg E E
  grind
 generalize hTd:cZ ((u.getD (j+nb) 0*1000000000+u.getD (j+nb-1) 0)/v.getD (nb-1) 0).toNat ((u.getD (j+nb) 0*1000000000+u.getD (j+nb-1) 0)/v.getD (nb-1) 0) ((u.getD (j+nb) 0*1000000000+u.getD (j+nb-1) 0)%v.getD (nb-1) 0) (v.getD (nb-1) 0) (v.getD (nb-2) 0) (u.getD (j+nb-2) 0)=T at*;obtain⟨hT1,hT2,hT0⟩:=hT;have hTB:T<=1000000000:=by have:(T-1)*val v<1000000000*val v:=E;have:=ahc this E;omega
 refine Yp [(8,.ints .i64 false [(Fn:Int)]),(9,.ints .i64 false v),(10,.i nb),(11,.ints .i64 true u),(12,.ints .i64 true q),(13,.i j)] ⟨G,G,G,G,G,⟨W,ar.of_eq<|congrArg SV.i ej⟩,U⟩<|bQ W W (λ_=>?_) λh5=>absurd (show(0:Int)<=j from E) h5;refine bP W W hguess W<|r0 W ?_;have ejk:∀k:Nat,((k:Int)+(j:Int)).toNat=j+k:=λk=>E;have ejn:((j:Int)+(nb:Int)).toNat=j+nb:=E;refine oB (λ(k:Nat)(w:List Int)(c:Int)=>[(8,.ints .i64 false [(Fn:Int)]),(9,.ints .i64 false v),(10,.i nb),(11,.ints .i64 true w),(12,.ints .i64 true q),(13,.i j),(14,.i T),(15,.i c),(16,.i k)])
  (λk w c=>gX w/\w.length=la+1/\0<=c/\c<=T+1/\val (w.drop j)=val (u.drop j)-T*val (v.take k)+c*1000000000^k/\w.take j=u.take j/\k<=nb/\∀k',j+k<=k'->w.getD k' 0=u.getD k' 0)
  (λk _ _=>nb-k) 0 u 0 ⟨ud,ul,E,E,by simp[val],W,E,λ_ _=>rfl⟩ ⟨G,G,G,G,G,G,G,G,G,U⟩ ?_
 rintro k w c⟨wd',wl',c0,c1,hv',ht',hk',hsame⟩;refine bQ W W ?_ ?_<;>intro h5
 ·have ek:(k:Int).toNat=k:=E;have g1:=bf dv k;have g2:=bf wd'<|j+k;generalize hx:v.getD k 0=x at*;generalize hy:w.getD (j+k) 0=y at*;have p0:0<=T*x:=afs hT0 g1.1;have p1:T*x<=T*999999999:=afg E hT0;have q4:=ah5 (T*x+c) 1000000000;have q5:=agB (T*x+c) (show(1000000000:Int)≠0 from fh);have q6:=agC (T*x+c) (show(0:Int)<1000000000 from fh);refine r1 W (by simp only[bo,and_true,ek,ejk,hx,hy,wl',hvl];omega) ?_;have step:∀(z c':Int),z=y-(T*x+c)%1000000000+(c'-(T*x+c)/1000000000)*1000000000->val ((w.set (j+k) z).drop j)=val (u.drop j)-T*val (v.take<|k+1)+c'*1000000000^(k+1):=by
   intro z c' hz;rw[mR E E,hy,hv',aI,hx,ae1,show j+k-j=k from E]
   grind
  refine gb W ?_ ?_<;>intro h6
  ·simp only[ek,ejk,hx,hy]at h6;refine r1 W (by simp only[bo,and_true,ek,ejk,hx,hy,wl',hvl];omega) ?_;refine again (k+1,w.set (j+k)<|y-(T*x+c)%1000000000+1000000000,(T*x+c)/1000000000+1) ?_
    ⟨eM wd' E,by simpa using wl',by dsimp only;omega,by dsimp only;omega,step _ ((T*x+c)/1000000000+1) E,by dsimp only;rw[eK E];exact ht',by dsimp only;omega,λk' hk'=>by dsimp only at hk'⊢;rw[cv,if_neg E];grind⟩
    ⟨G,G,G,⟨W,ar.of_eq<|congrArg (SV.ints .i64 true) eW⟩,G,G,G,⟨W,ar.of_eq<|congrArg SV.i<|by simp only[ek,hx]⟩,G,U⟩
   dsimp only;omega
  simp only[ek,ejk,hx,hy]at h6;refine r1 W (by simp only[bo,and_true,ek,ejk,hx,hy,wl',hvl];omega) ?_;refine again (k+1,w.set (j+k)<|y-(T*x+c)%1000000000,(T*x+c)/1000000000) ?_
   ⟨eM wd' E,by simpa using wl',by dsimp only;omega,by dsimp only;omega,step _ ((T*x+c)/1000000000) E,by dsimp only;rw[eK E];exact ht',by dsimp only;omega,λk' hk'=>by dsimp only at hk'⊢;rw[cv,if_neg E];grind⟩
   ⟨G,G,G,⟨W,ar.of_eq<|congrArg (SV.ints .i64 true) eW⟩,G,G,G,⟨W,ar.of_eq<|congrArg SV.i<|by simp only[ek,hx]⟩,G,U⟩
  dsimp only;omega
 have hk:k=nb:=E;subst hk;rw[adM E]at hv';have g2:=bf ud<|j+k;have hy0:=hsame (j+k) E;generalize hy:u.getD (j+k) 0=y at*;have hset:(w.set (j+k)<|y-c).getD (j+k) 0=y-c:=eW;refine r1 W (by simp only[bo,and_true,ejn,hy0,hset,wl',ad2];omega) ?_;simp only[ejn,hy0];have hv1:val ((w.set (j+k)<|y-c).drop j)=val (u.drop j)-T*val v:=by
  rw[mR E E,hy0,hv',show j+k-j=k from E]
  grind
 have hhi1:val ((w.set (j+k)<|y-c).drop<|j+k+1)=0:=by
  rw[<-hhi]
  congr 1
  refine yS (by simp;omega) λk' hk'=>?_;rw[cv,if_neg E];grind
 have hlow1:=p8 (w:=w.set (j+k)<|y-c) (j:=j) (n:=k) (by simp;omega) (λk' _ _=>by rw[cv,if_neg E];exact bf wd' k');have htop1:=p7 (w:=w.set (j+k)<|y-c) (j:=j) (n:=k) (by simp;omega);rw[hset,hhi1]at htop1;have hpk:=dE k;refine ZK (λ(T':Int)(w':List Int)=>[(8,.ints .i64 false [(Fn:Int)]),(9,.ints .i64 false v),(10,.i k),(11,.ints .i64 true w'),(12,.ints .i64 true q),(13,.i j),(14,.i T')])
  (λT' w'=>gX w'/\w'.length=la+1/\w'.take j=u.take j/\val (w'.drop j)=val (u.drop j)-T'*val v/\0<=T'/\val (w'.drop j)<val v) ?_ ?_
 ·refine gb W ?_ ?_<;>intro h6
  ·simp only[hset]at h6;have hneg:val (u.drop j)-T*val v<0:=by
    have:(y-c)*1000000000^k<=(-1)*1000000000^k:=gn E E;omega
   have hT1':1<=T:=by grind
   refine r1 W (by simp only[bo,and_true];omega) ?_;refine oB (λ(i:Nat)(z:List Int)(b:Int)=>[(8,.ints .i64 false [(Fn:Int)]),(9,.ints .i64 false v),(10,.i k),(11,.ints .i64 true z),(12,.ints .i64 true q),(13,.i j),(14,.i<|T-1),(19,.i b),(20,.i i)])
    (λi z b=>(∀p,p≠j+k->0<=z.getD p 0/\z.getD p 0<1000000000)/\z.length=la+1/\0<=b/\b<=1/\val (z.drop j)+b*1000000000^i=val (u.drop j)-T*val v+val (v.take i)/\z.take j=u.take j/\i<=k/\z.getD (j+k) 0=y-c/\∀p,j+k<p->z.getD p 0=u.getD p 0)
    (λi _ _=>k-i) 0 (w.set (j+k)<|y-c) 0
    ⟨λp hp=>by rw[cv,if_neg E];exact bf wd' p,by simpa using wl',E,E,by simp[val,hv1],by rw[eK E];exact ht',E,hset,λp hp=>by rw[cv,if_neg E];grind⟩
    ⟨G,G,G,G,G,G,G,G,G,U⟩ ?_
   rintro i z b⟨zd,zl,b0,b1,zv,zt,zi,zy,zs⟩;refine bQ W W ?_ ?_<;>intro h7
   ·have ei:(i:Int).toNat=i:=E;have g3:=bf dv i;have g4:=zd (j+i) E;generalize hx:v.getD i 0=x at*;generalize hz:z.getD (j+i) 0=z0 at*;refine k1 W aW (by simp only[bo,and_true,ei,ejk,hx,hz,zl,hvl];omega) ?_;refine again (i+1,z.set (j+i)<|(z0+x+b)%1000000000,(z0+x+b)/1000000000) ?_
     ⟨λp hp=>?_,by simpa using zl,by dsimp only;omega,by dsimp only;omega,?_,by dsimp only;rw[eK E];exact zt,by dsimp only;omega,by dsimp only;rw[cv,if_neg E];exact zy,λp hp=>by dsimp only;rw[cv,if_neg E];exact zs p hp⟩
     ⟨G,G,G,⟨W,ar.of_eq<|congrArg (SV.ints .i64 true) eW⟩,G,G,G,⟨W,ar.of_eq<|congrArg SV.i eW⟩,G,U⟩
    ·dsimp only;omega
    ·dsimp only;rw[cv];split
     ·omega
     exact zd p hp
    dsimp only;rw[mR E E,hz,aI,hx,ae1,show j+i-j=i from E]
    grind
   have hik:i=k:=E;subst hik;rw[adM E]at zv;refine r1 W (by simp only[bo,and_true,ejn,zy,zl];omega) ?_;have hz2:val ((z.set (j+i)<|y-c+b).drop j)=val (u.drop j)-(T-1)*val v:=by
    rw[mR E E,zy,show j+i-j=i from E,afH]
    grind
   have hset2:(z.set (j+i)<|y-c+b).getD (j+i) 0=y-c+b:=eW;have hhi2:val ((z.set (j+i)<|y-c+b).drop<|j+i+1)=0:=by
    rw[<-hhi]
    congr 1
    refine yS (by simp;omega) λk' hk'=>?_;rw[cv,if_neg E];exact zs k' E
   have hlow2:=p8 (w:=z.set (j+i)<|y-c+b) (j:=j) (n:=i) (by simp;omega) (λk' _ _=>by rw[cv,if_neg E];exact zd k' E);have htop2:=p7 (w:=z.set (j+i)<|y-c+b) (j:=j) (n:=i) (by simp;omega);rw[hset2,hhi2]at htop2;have hR1:val (u.drop j)-(T-1)*val v<val v:=by rw[afH];omega
   have hyc:y-c+b=0:=by
    rcases agD (y-c+b) 0 with h|h
    ·have:(y-c+b)*1000000000^i<=(-1)*1000000000^i:=gn E E;omega
    omega
   refine meet (T-1,z.set (j+i)<|y-c+b) ⟨Jx λp hp=>?_,by simpa using zl,by dsimp only;rw[eK E];exact zt,hz2,by dsimp only;omega,by dsimp only;omega⟩
    ⟨G,G,G,⟨W,ar.of_eq<|congrArg (SV.ints .i64 true)<|by simp only[ejn,zy]⟩,G,G,G,U⟩
   dsimp only;rw[cv];split
   ·omega
   grind
  simp only[hset]at h6;refine r0 W ?_;have hnn:0<=val (u.drop j)-T*val v:=by have:0<=(y-c)*1000000000^k:=afs E E;omega
  refine il (T,w.set (j+k)<|y-c) ⟨eM wd' E,by simpa using wl',by dsimp only;rw[eK E];exact ht',hv1,hT0,?_⟩
  grind
 rintro T' w'⟨wd2,wl2,wt2,wv2,wT0,wlt2⟩;have wn:=bm<|n7 wd2 j;have wTB:T'<1000000000:=by have:T'*val v<1000000000*val v:=E;simp_all
 refine r1 W (by simp only[bo,and_true,ql];omega) ?_;have ej2:(j:Int).toNat=j:=E;refine again (j,w',q.set j T') (ahD _) ⟨wd2,wl2,eM qd ⟨wT0,wTB⟩,by simpa using ql,by dsimp only;omega,wlt2,?_⟩
  ⟨G,G,G,G,⟨W,ar.of_eq<|congrArg (SV.ints .i64 true)<|by rw[ej2]⟩,G,U⟩
 dsimp only;have e1:=gN u j;have e2:=gN w' j;have l1:(u.take j).length=j:=by simp;omega
 have l2:(w'.take j).length=j:=by simp;omega
 rw[l1]at e1;rw[l2,wt2,wv2]at e2;rw[heq,e1,e2];have e3:val ((q.set j T').drop j)=T'+1000000000*val (q.drop<|j+1):=by rw[gB<|by simp;omega,cv,if_pos ⟨W,E⟩,List.drop_set_of_lt<|ahD j]
 grind
def j0(z:Int):SV:=.agg [.u<|decide (z<0),.ints .i64 false<|ae z.natAbs]
def AG(b:Bool)(x:Int):Int:=if b then -x else x
def Hk(z:Int):Prop:=(ae z.natAbs).length<2^34
def nh(n:Nat):0<(ae n).length↔n≠0:=by
 constructor
 ·rintro h rfl;simp[dm]at h
 exact iF
def vC(b:Bool)(xs:List Int)(c:gX xs)(hl:xs.length<2^60):aM Tryz.prog 153 [.u b,.ints .i64 false xs] (j0<|AG b<|val xs):=by
 have d:=bm c;have hn:(AG b<|val xs).natAbs=(val xs).toNat:=by unfold AG;split<;>omega
 have a:=ee c;refine bS Tryz.func153 W<|bP W W (dw _ E) W<|r0 W<|iN 8 W ?_ ?_<;>intro h
 ·refine bK W W ⟨?_,ar.of_eq<|congrArg (SV.ints .i64 false)<|by rw[a,hn],U⟩;show decide _=decide _;rw[a];have:=nh (val xs).toNat;simp[AG,h,decide_eq_decide];omega
 refine bK W W ⟨?_,ar.of_eq<|congrArg (SV.ints .i64 false)<|by rw[a,hn],U⟩;show false=decide _;simp only[AG,h,agw,if_false];symm;simp_all
def fm(b:Bool)(n:Nat)(hl:(ae n).length<2^60):aM Tryz.prog 153 [.u b,.ints .i64 false<|ae n] (j0<|AG b n):=by have:=vC b (ae n) (eC n) hl;rwa[ai]at this
def zB(z:Int)(h:Hk z):aM Tryz.prog 149 [j0 z] (j0<|-z):=by
 unfold Hk at h;refine bS Tryz.func149 W<|bP W W (fm _ _ E) W<|bK W W<|ar.of_eq<|congrArg j0 ?_;unfold AG
 grind
def nT{m n K:Nat}(b:(ae m).length<=K)(a:(ae n).length<=K):(ae<|m+n).length<=K+1:=by
 rcases gw (m+n)with g|g
 ·rw[g];simp
 have g1:=cw m;have g2:=cw n;have e:=im b;have d:=im a;rcases aeQ (K+1) (ae<|m+n).length with h|h
 ·have c:=im (show K+1<=(ae<|m+n).length-1 from E);omega
 omega
def KM(x y:Int)(f:Hk x)(e:Hk y):aM Tryz.prog 83 [j0 x,j0 y] (j0<|x+y):=by
 unfold Hk at f e;have c:∀m n:Nat,(ae m).length<2^34->(ae n).length<2^34->(ae<|m+n).length<2^60:=by intro m n j i;have:=nT (K:=max (ae m).length (ae n).length) (Nat.le_max_left _ _)<|Nat.le_max_right _ _;omega
 refine bS Tryz.func83 W<|bQ W W ?_ ?_<;>intro h
 ·refine bO W W (AD _ _ E E) W<|bH W (fm _ _<|c _ _ f e) W<|k0 W aW<|aE W<|ar.of_eq<|congrArg j0 ?_;unfold AG
  grind
 refine bP W W (mQ _ _ E E) W<|bQ W W ?_ ?_<;>intro d
 ·have b:y.natAbs<=x.natAbs:=by unfold oc at d;split at d<;>omega
  refine bO W W (qV _ _ E b) W<|r0 W ?_;have a:(ae<|x.natAbs-y.natAbs).length<2^60:=by
   rcases aeQ (ae x.natAbs).length (ae<|x.natAbs-y.natAbs).length with g|g
   ·have:=cE g;omega
   omega
  refine bH W (fm _ _ a) W<|k0 W aW<|aE W<|ar.of_eq<|congrArg j0 ?_;unfold AG
  grind
 have b:x.natAbs<=y.natAbs:=by unfold oc at d;omega
 refine bO W W (qV _ _ E b) W<|r0 W ?_;have a:(ae<|y.natAbs-x.natAbs).length<2^60:=by
  rcases aeQ (ae y.natAbs).length (ae<|y.natAbs-x.natAbs).length with g|g
  ·have:=cE g;omega
  omega
 refine bH W (fm _ _ a) W<|k0 W aW<|aE W<|ar.of_eq<|congrArg j0 ?_;unfold AG
 grind
def dO(m n:Nat):(ae<|m*n).length<=(ae m).length+(ae n).length:=by
 rcases gw (m*n)with g|g
 ·rw[g];simp
 have g1:=cw m;have g2:=cw n;rcases aeQ ((ae m).length+(ae n).length) (ae<|m*n).length with h|h
 ·have a:=im (show(ae m).length+(ae n).length<=(ae<|m*n).length-1 from E);rw[af1]at a;have c:(m:Int)*n<=1000000000^(ae m).length*n:=gn E E;have b:(1000000000:Int)^(ae m).length*n<1000000000^(ae m).length*1000000000^(ae n).length:=Int.mul_lt_mul_of_pos_left g2<|dE _;omega
 exact h
def mh(x y:Int)(b:Hk x)(a:Hk y):aM Tryz.prog 84 [j0 x,j0 y] (j0<|x*y):=by
 unfold Hk at b a;refine bS Tryz.func84 W<|bO W W (mJ _ _ E E) W ?_;have hl:=dO x.natAbs y.natAbs;refine bH W (fm _ _ E) W<|k0 W aW<|aE W<|ar.of_eq<|congrArg j0 ?_;rw[<-af5];unfold AG
 grind
def wV(m n:Nat)(l:(ae m).length<2^36)(k:(ae n).length<2^36):aM Tryz.prog 150 [.ints .i64 false<|ae m,.ints .i64 false<|ae n] (.ints .i64 false<|ae<|Nat.gcd m n):=by
 refine bS Tryz.func150 W<|r0 W<|kR (λ(a b:Nat)=>[(0,.ints .i64 false<|ae a),(1,.ints .i64 false<|ae b)]) (λa b=>Nat.gcd a b=Nat.gcd m n/\(ae a).length<2^36/\(ae b).length<2^36) (λ_ b=>b) m n ⟨W,l,k⟩ ⟨G,G,U⟩ ?_;rintro a b⟨i,j,e⟩;refine bQ W W ?_ ?_<;>intro h
 ·have c:=(nh b).1 E;have d:a%b<b:=aeV _ E;refine bP W W (mM a b j e c) W<|r0 W<|again (b,a%b) d ⟨?_,e,?_⟩ ⟨G,G,U⟩
  ·dsimp only;rw[<-i,agV a b,Nat.gcd_rec b a,agV]
  dsimp only;rcases aeQ (ae b).length (ae<|a%b).length with g|g
  ·have:=cE g;omega
  omega
 have c:b=0:=by
  rcases afd b with f|f
  ·exact f
  have:=iF (show b≠0 from E);omega
 subst c;refine bK W W<|ar.of_eq<|congrArg (SV.ints .i64 false) ?_;simp_all
def jn{m:Nat}(h:m<1000000000000000000000000000):(ae m).length<=3:=by
 rcases gw m with g|g
 ·rw[g];simp
 rcases aeQ 3 (ae m).length with a|a
 ·have:=im (show 3<=(ae m).length-1 from E);omega
 exact a
def fj(n:Int)(h: -9223372036854775808<n/\n<=9223372036854775807):aM Tryz.prog 78 [.i n] (j0 n):=by
 refine bS Tryz.func78 W<|r0 W<|kR (λ(x:Int)(w:List Int)=>[(0,.i x),(2,.box true<|.agg [.b false,.nil]),(3,.ints .i64 true w),(4,.u<|decide (n<0))])
  (λx w=>gX w/\w++ae x.natAbs=ae n.natAbs/\(n<0->x<=0)/\(0<=n->0<=x)/\x.natAbs<=n.natAbs) (λx _=>x.natAbs) n [] ⟨by simp[gX],I,λh=>E,λh=>h,adp _⟩ ⟨G,G,G,G,U⟩ ?_
 rintro x w⟨d,k,p,o,l⟩;have q:w.length<=3:=by
  have:=jn (m:=n.natAbs) E
  grind
 refine bQ W W ?_ ?_<;>intro r
 ·have f:x.tdiv 1000000000=(if x<0 then -((x.natAbs/1000000000:Nat):Int)else((x.natAbs/1000000000:Nat):Int)):=by
   split
   ·rename_i a;have:x= -(x.natAbs:Int):=E;rw[this,Int.neg_tdiv,ahC E];simp
   grind
  have hm:x.tmod 1000000000=(if x<0 then -((x.natAbs%1000000000:Nat):Int)else((x.natAbs%1000000000:Nat):Int)):=by grind
  have g:ae x.natAbs=((x.natAbs%1000000000:Nat):Int)::ae (x.natAbs/1000000000):=by
   conv=>lhs;rw[ae]
   rw[dif_neg E];rfl
  have t:x.natAbs/1000000000<x.natAbs:=afP E fh;have s:x.natAbs%1000000000<1000000000:=aeV _ fh;have b:IntKind.i64.wrap (x.tdiv 1000000000)=x.tdiv 1000000000:=o7 ⟨E,E⟩;refine kw [11,21] W W (by simp only[bo,and_true];omega) ?_;refine gb W ?_ ?_<;>intro j
  ·have a:x<0:=by
    omega
   rw[hm,if_pos a]at j;refine kw [21] W W (by simp[bo,and_true,len,hm,if_pos a,adX,aeg];omega) ?_;refine again (x.tdiv 1000000000,w++[((x.natAbs%1000000000:Nat):Int)]) ?_ ⟨jg d E,?_,?_,?_,?_⟩
    ⟨⟨W,ar.of_eq<|congrArg SV.i b⟩,G,⟨W,ar.of_eq<|congrArg (SV.ints .i64 true) eW⟩,G,U⟩
   all_goals dsimp only;rw[f,if_pos a]
   ·omega
   ·grind
   ·intro;omega
   ·intro;omega
   omega
  have c:x.tmod 1000000000=((x.natAbs%1000000000:Nat):Int):=by omega
  refine kw [21] W W (by simp[bo,and_true,len,c,adX,aeg];omega) ?_;refine again (x.tdiv 1000000000,w++[((x.natAbs%1000000000:Nat):Int)]) ?_ ⟨jg d E,?_,?_,?_,?_⟩
   ⟨⟨W,ar.of_eq<|congrArg SV.i b⟩,G,⟨W,ar.of_eq<|congrArg (SV.ints .i64 true)<|by rw[c]⟩,G,U⟩
  all_goals dsimp only;rw[f]
  ·split<;>omega
  ·grind
  ·intro;split<;>omega
  ·intro;split<;>omega
  split<;>omega
 have:x=0:=E;subst this;have e:w=ae n.natAbs:=by rw[<-k];simp[dm]
 refine bP W W (by rw[e];exact fm _ _<|by rw[<-e];omega) W ?_;refine bK W W<|ar.of_eq<|congrArg j0 ?_;unfold AG
 grind
def RU(d:Nat):UInt8:=UInt8.ofNat<|48+d
def decl(n k:Nat):hO:=if h:n=0/\k=0 then[]else decl (n/10) (k-1)++[RU<|n%10]
 termination_by n+k
 decreasing_by
  omega
def dp:decl 0 0=[]:=by rw[decl];simp
def cC{n k:Nat}(h:¬(n=0/\k=0)):decl n k=decl (n/10) (k-1)++[RU<|n%10]:=by rw[decl];simp[h]
def CM{q:Nat}(a:0<q):∀(j r k:Nat),r<10^j->decl (q*10^j+r) k=decl q (k-j)++decl r j
 |0,r,k,h=>by
  have:r=0:=by simpa using h
  subst this;simp[dp]
 |j+1,r,k,h=>by
  have b:¬(q*10^(j+1)+r=0/\k=0):=by have:0<q*10^(j+1):=ahd a<|af0 I;omega
  rw[cC b,cC (n:=r) (k:=j+1) E];have d:(q*10^(j+1)+r)/10=q*10^j+r/10:=by rw[afu,<-afl];omega
  have c:(q*10^(j+1)+r)%10=r%10:=by grind
  rw[d,c,CM a j (r/10) (k-1) E,aeZ]
  congr 2
  omega
def eI:∀(n k j:Nat),n<10^j->k<=j->(decl n k).length<=j:=by
 intro n k j
 induction j generalizing n k with
 |zero=>intro c b;have:n=0/\k=0:=E;rw[this.1,this.2,dp];simp
 |succ j a=>
  intro c b;by_cases h:n=0/\k=0
  ·grind
  rw[cC h];have:=a (n/10) (k-1) E E;simp;omega
def cJ(s:hO):Nat:=s.foldl (λn c=>10*n+(c.toNat-48)) 0
def dh(s:hO):Prop:=∀c∈s,48<=c.toNat/\c.toNat<=57
def tc(s:hO)(c:UInt8):cJ (s++[c])=10*cJ s+(c.toNat-48):=by simp[cJ]
def qx:∀(t:hO)(a:Nat),t.foldl (λn c=>10*n+(c.toNat-48)) a=a*10^t.length+cJ t
 |[],a=>by simp[cJ]
 |c::t,a=>by have d:=qx t<|10*a+(c.toNat-48);have b:=qx t<|10*0+(c.toNat-48);simp[cJ]at d b⊢;rw[b];grind
def sd(s t:hO):cJ (s++t)=cJ s*10^t.length+cJ t:=by
 conv=>lhs;rw[cJ,age]
 exact qx t<|cJ s
def Ox(c:UInt8)(t:hO):cJ (c::t)=(c.toNat-48)*10^t.length+cJ t:=by
 have:=qx t<|c.toNat-48
 conv=>lhs;rw[cJ]
 simpa using this
def l0:∀{s:hO},dh s->cJ s<10^s.length
 |[],_=>by simp[cJ]
 |c::t,h=>by have e:=l0 (s:=t) λx a=>h x (by simp[a]);have d:=h c I;rw[Ox,adX];have b:(c.toNat-48)*10^t.length<=9*10^t.length:=aeX _ E;omega
def yu{d:Nat}(h:d<10):(RU d).toNat=48+d:=by unfold RU;rw[UInt8.toNat_ofNat'];omega
def cM:∀n k,dh (decl n k):=by
 intro n k
 induction hm:n+k using Nat.strongRecOn generalizing n k with
 |_ m b=>
  by_cases h:n=0/\k=0
  ·rw[h.1,h.2,dp];intro c hc;cases hc
  rw[cC h];have a:n/10+(k-1)<m:=by omega
  intro c hc;rcases afR.1 hc with hc|hc
  ·exact b _ a (n/10) (k-1) W c hc
  simp at hc;subst hc;rw[yu<|aeV _ fh];omega
def ke:∀n k,cJ (decl n k)=n:=by
 intro n k
 induction hm:n+k using Nat.strongRecOn generalizing n k with
 |_ m b=>
  by_cases h:n=0/\k=0
  ·rw[h.1,h.2,dp];rfl
  rw[cC h];have a:n/10+(k-1)<m:=by omega
  rw[tc,b _ a (n/10) (k-1) W,yu<|aeV _ fh];omega
def cK(z:Int):hO:=if z<0 then 45::decl z.natAbs 1 else decl z.natAbs 1
def aw:hO->Nat
 |[]=>0
 |c::t=>if c=47 then 0 else aw t+1
def pf:∀s:hO,aw s<=s.length
 |[]=>by simp[aw]
 |c::t=>by have:=pf t;simp[aw];split<;>simp;omega
def tX:∀{s:hO}{i:Nat},i<aw s->s.getD i 0≠47
 |[],i,h=>by simp[aw]at h
 |c::t,i,h=>by
  simp[aw]at h;split at h
  ·omega
  rename_i hc;cases i with
  |zero=>simpa using hc
  |succ i=>simpa using tX (s:=t) (i:=i) E
def xA:∀{s:hO},aw s<s.length->s.getD (aw s) 0=47
 |[],h=>by cases h
 |c::t,h=>by
  simp[aw]at h⊢;split at h
  ·simp_all
  rename_i hc;rw[if_neg hc];have:=xA (s:=t) (by simpa using h);simpa using this
def UE(n:Nat){k:Nat}(h:0<k):decl n k≠[]:=by rw[cC E];simp
def RT:∀d:Nat,d<10->((([48,49,50,51,52,53,54,55,56,57]:hO).take<|d+1).drop d)=[RU d]:=fh
def ma(n k:Nat)(hn:n<9223372036854775808)(p:k<1000):aM Tryz.prog 80 [.i n,.i k] (.s<|decl n k):=by
 have c:(decl n k).length<=max k 19:=eI n k _ (ae3 (show n<10^19 from E)<|ae2 fh<|Nat.le_max_right _ _)<|Nat.le_max_left _ _;refine bS Tryz.func80 W<|r0 W<|kR (λ(a:Nat)(s:hO)=>[(0,.i a),(1,.i k),(5,.s s)]) (λa s=>a<=n/\decl n k=decl a (k-s.length)++s) (λa s=>a+(k-s.length)) n [] ⟨adp _,I⟩ ⟨G,G,G,U⟩ ?_;rintro a s⟨q,hs⟩;have f:s.length<1001:=by grind
 refine Hf (Xf [(0,.i a),(1,.i k),(5,.s s)] (0<a\/s.length<k) ?_ λhc=>?_)
 ·refine bJ W 8 W ?_ ?_<;>intro h
  ·refine r0 W<|gm E
  refine bQ W W ?_ ?_<;>intro l
  ·refine r0 W<|gm E
  refine bK W W<|ar.of_eq<|congrArg SV.s ?_;have m:a=0:=E;have j:k-s.length=0:=E;rw[hs,m,j,dp];rfl
 have g:a%10<10:=aeV _ fh;have e:(((a:Int)%10).toNat)=a%10:=E;have d:(((a:Int)%10+1).toNat)=a%10+1:=E;have b:=RT (a%10) g;refine r1 W ?_ ?_
 ·simp only[bo,and_true,e,d,b]
  grind
 simp only[e,d,b];have o:a/10<a\/a=0:=E;refine again (a/10,RU (a%10)::s) ?_ ⟨by dsimp only;omega,?_⟩ ⟨G,G,G,U⟩
 ·grind
 dsimp only;rw[hs,cC (n:=a) E,aeZ]
 congr 1
def oq(s:hO)(hs:dh s)(hl:s.length<=18):aM Tryz.prog 155 [.s s] (.i<|cJ s):=by
 refine bS Tryz.func155 W<|r0 W<|ra (λi:Nat=>[(0,.s s),(3,.i<|cJ<|s.take i),(4,.i i)]) (λi=>i<=s.length) (λi=>s.length-i) 0 E ?_;intro i hi;refine bQ W W ?_ ?_<;>intro h
 ·have a:i<s.length:=E;have b:(i:Int).toNat=i:=E;have hc:s.getD i 0=s[i]:=eW;have f:=hs s[i]<|adC a;have d:=l0 (s:=s.take i) λc hc=>hs c<|agA hc;have e:10^(s.take i).length<=10^17:=ae2 fh (by simp;omega);refine r1 W (by simp only[bo,and_true,b,hc];omega) ?_;refine again (i+1) E E ⟨G,⟨W,bR ?_⟩,G,U⟩;rw[b,hc,aey a,tc];omega
 have:i=s.length:=E;subst this;refine bK W W<|bR ?_;simp
def j9(s:hO)(hl:s.length<2^60):aM Tryz.prog 154 [.s s] (.i<|aw s):=by
 have d:=pf s;refine bS Tryz.func154 W<|r0 W<|ra (λi:Nat=>[(0,.s s),(3,.i i)]) (λi=>i<=aw s) (λi=>s.length-i) 0 E ?_;intro i hi;refine bQ W W ?_ ?_<;>intro h
 ·have c:(i:Int).toNat=i:=E;refine r1 W (by simp[bo,c];omega) ?_;refine gb W ?_ ?_<;>intro b
  ·rw[c]at b;refine bK W W<|bR ?_;rcases aeQ i (aw s)with a|a
   ·have:=tX a;exact absurd (ahg.1<|show(s.getD i 0).toNat=(47:UInt8).toNat by grind) this
   omega
  rw[c]at b;have:i<aw s:=by
   rcases aeQ i (aw s)with a|a
   ·exact a
   have e:i=aw s:=E;have:=xA (s:=s) E;simp_all
  refine r1 W (by simp[bo];omega) ?_;exact gS (i+1) E
 refine bK W W<|bR ?_;omega
def OW(a b:Nat):aM Tryz.prog 79 [.i a,.i b] (.i<|Nat.gcd a b):=by
 refine bS Tryz.func79 W<|r0 W<|kR (λ(x y:Nat)=>[(0,.i x),(1,.i y)]) (λx y=>Nat.gcd x y=Nat.gcd a b) (λ_ y=>y) a b W ⟨G,G,U⟩ ?_;rintro x y c;refine bQ W W ?_ ?_<;>intro h
 ·refine k1 W aW (by simp[bo];omega) ?_;refine again (y,x%y) (aeV _ E) ?_ ⟨G,G,U⟩;rw[<-c,agV x y,Nat.gcd_rec y x,agV]
 have:y=0:=E;subst this;refine bK W W<|bR ?_;simp_all
def JC{q:Nat}(h:0<q):decl q 0=decl q 1:=by rw[cC E,cC (n:=q) (k:=1) E]
def Js{n j:Nat}(h:j<(ae n).length):0<val ((ae n).drop j):=by
 have a:((ae n).drop j).getLast?≠some 0:=by rw[List.getLast?_drop,if_neg E];exact pJ n
 rcases qF (n7 (eC n) j) a with g|g
 ·grind
 have:=dE<|((ae n).drop j).length-1;omega
def vS(k:Nat):(1000000000:Int)^k=((10^(9*k):Nat):Int):=by rw[agn];simp
def CC(n j:Nat)(b:j<(ae n).length):(decl (val<|(ae n).drop j).toNat 1).length<=9*(ae n).length:=by have a:=ic<|n7 (eC n) j;have d:=bm<|n7 (eC n) j;rw[vS]at a;have c:10^(9*((ae n).drop j).length)<=10^(9*(ae n).length):=ae2 fh (by simp;omega);exact eI _ _ _ E E
def uz(z:Int)(h:(ae z.natAbs).length<2^44):aM Tryz.prog 152 [j0 z] (.s<|cK z):=by
 refine bS Tryz.func152 W<|bQ W W ?_ ?_<;>intro o
 ·refine bK W W<|ar.of_eq<|congrArg SV.s ?_;have:z=0:=by
   have:=nh z.natAbs;omega
  subst this;simp[cK,cC,dp];rfl
 have r:0<(ae z.natAbs).length:=E;have d:=bf (eC z.natAbs)<|(ae z.natAbs).length-1;have f:val ((ae z.natAbs).drop<|(ae z.natAbs).length-1)=(ae z.natAbs).getD ((ae z.natAbs).length-1) 0:=by rw[gB E,afi E];simp[val]
 have g:=Js (n:=z.natAbs) (j:=(ae z.natAbs).length-1) E;have q:(((ae z.natAbs).length:Int)-1).toNat=(ae z.natAbs).length-1:=E;refine r1 W (by simp[bo,and_true];omega) ?_;obtain⟨m,hm⟩:∃m:Nat,(ae z.natAbs).getD ((ae z.natAbs).length-1) 0=m:=⟨_,(ahv d.1).symm⟩;have a:(ae z.natAbs).getD (((ae z.natAbs).length:Int)-1).toNat 0=m:=by rw[q];exact hm
 have t:(SV.i<|(ae z.natAbs).getD (((ae z.natAbs).length:Int)-1).toNat 0)=SV.i (m:Int):=by rw[a]
 refine cl W (by rw[a];rfl) (ma m 1 E E) W ?_;refine r1 W (by simp[bo,and_true];omega) ?_;refine loop (λj:Nat=>[(1,.box true<|j0 z),(2,.s []),(3,.s<|decl (val<|(ae z.natAbs).drop j).toNat 1),(4,.i<|(j:Int)-1)]) (λj=>j<(ae z.natAbs).length) (λj=>j) ((ae z.natAbs).length-1) E ⟨G,G,⟨W,ar.of_eq<|congrArg SV.s<|by rw[f,hm];rfl⟩,⟨W,ar.of_eq<|congrArg SV.i E⟩,U⟩ ?_;intro j c;refine bQ W W ?_ ?_<;>intro l
 ·have p:((j:Int)-1).toNat=j-1:=E;have d:=bf (eC z.natAbs)<|j-1;obtain⟨m,hm⟩:∃m:Nat,(ae z.natAbs).getD (j-1) 0=m:=⟨_,(ahv d.1).symm⟩;have a:(ae z.natAbs).getD ((j:Int)-1).toNat 0=m:=by rw[p];exact hm
  have hl:=CC z.natAbs j c;have i:=CC z.natAbs (j-1) E;have g:=Js c;have b:decl (val<|(ae z.natAbs).drop<|j-1).toNat 1=decl (val<|(ae z.natAbs).drop j).toNat 1++decl m 9:=by rw[gB E,show j-1+1=j from E,hm];have e:((m:Int)+1000000000*val ((ae z.natAbs).drop j)).toNat=(val<|(ae z.natAbs).drop j).toNat*10^9+m:=E;rw[e,CM E 9 m 1 E,show 1-9=0 from W,JC E]
  refine r1 W (by simp[bo,and_true];omega) ?_;refine cl W (by rw[a];rfl) (ma m 9 E E) W ?_;refine r1 W (by simp[bo,and_true,len];grind) ?_;exact again (j-1) E E ⟨G,G,⟨W,ar.of_eq<|congrArg SV.s b.symm⟩,⟨W,ar.of_eq<|congrArg SV.i E⟩,U⟩
 have:j=0:=E;subst this;have e:(val<|(ae z.natAbs).drop 0).toNat=z.natAbs:=by rw[afG,ai];omega
 have hl:=CC z.natAbs 0 c;refine r0 W<|ni W W W ?_ ?_<;>intro k
 ·refine r1 W (by simp only[bo,and_true,len,adX,aeg];omega) ?_;refine aE W<|ar.of_eq<|congrArg SV.s ?_;rw[e];unfold cK;simp_all
 refine bK W W<|ar.of_eq<|congrArg SV.s ?_;rw[e];unfold cK;simp_all
def isNeg(s:hO):Bool:=decide (0<s.length/\(s.getD 0 0).toNat=45)
def bz(s:hO):hO:=if isNeg s then s.drop 1 else s
def B5(s:hO):Int:=AG (isNeg s)<|cJ<|bz s
def xa(s:hO):(bz s).length<=s.length:=by unfold bz;split<;>simp
def zu(s:hO)(hs:dh (bz s))(hl:s.length<2^46):aM Tryz.prog 156 [.s s] (j0<|B5 s):=by
 have n:=xa s;refine bS Tryz.func156 W<|cx 3 [(0,.s<|bz s),(2,.box true<|.agg [.b false,.nil]),(3,.u<|isNeg s)] True ?_ λ_=>?_
 ·refine bJ W 8 W ?_ ?_<;>intro h
  ·refine r1 W (by simp[bo,and_true];omega) ?_;refine gb W ?_ ?_<;>intro f
   ·have hn:isNeg s=true:=by unfold isNeg;grind
    refine r1 W (by simp[bo,and_true];omega) ?_;refine aN U ⟨⟨W,ar.of_eq<|congrArg SV.s<|by simp[bz,hn]⟩,G,⟨W,ar.of_eq<|congrArg SV.u<|(decide_eq_true f).trans hn.symm⟩,U⟩
   have hn:isNeg s=false:=by unfold isNeg;grind
   refine bL W U ⟨⟨W,ar.of_eq<|congrArg SV.s<|by simp[bz,hn]⟩,G,⟨W,ar.of_eq<|congrArg SV.u<|(decide_eq_false f).trans hn.symm⟩,U⟩
  have hn:isNeg s=false:=by unfold isNeg;simp_all
  refine bL W U ⟨⟨W,ar.of_eq<|congrArg SV.s eW⟩,G,⟨W,hn.symm⟩,U⟩
 refine r0 W<|kR (λ(t:hO)(w:List Int)=>[(0,.s t),(2,.box true<|.agg [.b false,.nil]),(3,.u<|isNeg s),(4,.ints .i64 true w)])
  (λt w=>dh t/\gX w/\val w+1000000000^w.length*cJ t=cJ (bz s)/\t.length+9*w.length<2^46) (λt _=>t.length) (bz s) [] ⟨hs,by simp[gX],by simp[val],by simp;omega⟩ ⟨G,G,G,G,U⟩ ?_
 rintro t w⟨g,i,j,k⟩;refine bQ W W ?_ ?_<;>intro f
 ·have m:((t.length:Int)-9).toNat=t.length-9:=E;refine r1 W (by simp[bo,and_true];omega) ?_;have e:dh (t.drop<|t.length-9):=λc hc=>g c<|agd hc;have b:=l0 e;have d:(t.drop<|t.length-9).length=9:=by simp;omega
  rw[d]at b;have l:cJ t=cJ (t.take<|t.length-9)*10^9+cJ (t.drop<|t.length-9):=by
   conv=>lhs;rw[<-agE (t.length-9) t,sd]
   rw[d]
  refine cl W (by rw[m,afA];rfl) (oq _ e E) W ?_;refine r1 W (by simp[bo,and_true,len,adX,aeg];omega) ?_;refine again (t.take<|t.length-9,w++[(cJ (t.drop<|t.length-9):Int)]) ?_ ⟨λc hc=>g c<|agA hc,jg i E,?_,?_⟩ ⟨⟨W,ar.of_eq<|congrArg SV.s<|by rw[m];rfl⟩,G,G,G,U⟩
  ·dsimp only;simp;omega
  ·have a:(cJ t:Int)=(cJ (t.take<|t.length-9):Int)*1000000000+(cJ (t.drop<|t.length-9):Int):=E;dsimp only;rw[<-j,eO,a,aeP,aia,ae1]
   grind
  grind
 have b:=l0 g;have:10^t.length<=10^9:=ae2 fh E;refine bP W W (oq t g E) W<|r1 W (by simp[bo,and_true,len,adX,aeg];omega) ?_;refine bG W (vC (isNeg s) (w++[(cJ t:Int)]) (jg i E)<|by simp;omega) W ?_;refine bK W W<|ar.of_eq<|congrArg j0 ?_;unfold B5;rw[<-j,eO,afj]
def wq(z:Int){k:Nat}(h:(ae z.natAbs).length<=k):(cK z).length<=9*k+2:=by have a:=cw z.natAbs;rw[vS]at a;have b:10^(9*(ae z.natAbs).length)<=10^(9*k):=ae2 fh E;have:=eI z.natAbs 1 (9*k+1) E E;unfold cK;grind
def nV(z:Int):isNeg (cK z)=decide (z<0):=by
 unfold cK isNeg;split
 ·rename_i h;simp[h]
 rename_i h;have a:=cM z.natAbs 1;simp only[h,decide_false,decide_eq_false_iff_not];rintro⟨c,b⟩;have hm:(decl z.natAbs 1).getD 0 0∈decl z.natAbs 1:=by simp_all
 have:=a _ hm;omega
def jN(z:Int):bz (cK z)=decl z.natAbs 1:=by unfold bz;rw[nV];by_cases h:z<0<;>simp[h,cK]
def xX(z:Int):B5 (cK z)=z:=by
 unfold B5;rw[nV,jN,ke];unfold AG
 grind
def qw(z:Int)(h:(ae z.natAbs).length<2^42):aM Tryz.prog 156 [.s<|cK z] (j0 z):=by have:=zu (cK z) (by rw[jN];exact cM _ _)<|af2 (wq z<|ago h) fh;rwa[xX]at this
section
variable{d k:Nat}{q:Rat}{s t:hO}
def fk(d:Nat):hO:=if d=1 then[]else 47::decl d 1
def uI(n:Int)(d:Nat):hO:=cK n++fk d
def qt(q:Rat):hO:=uI q.num q.den
def oM:∀{s:hO}(t:hO),(∀c∈s,c≠47)->aw (s++t)=s.length+aw t
 |[],t,_=>I
 |c::s,t,h=>by have:=oM (s:=s) t λx a=>h x (by simp[a]);simp[aw,if_neg<|h c I];omega
def yF(h:dh s):∀c∈s,c≠47:=by rintro c hc rfl;have:=(h _ hc).1;simp_all
def Ug(z:Int):∀c∈cK z,c≠47:=by
 intro c hc;unfold cK at hc;split at hc
 ·rcases adZ.1 hc with rfl|hc
  ·decide
  exact yF (cM _ _) c hc
 exact yF (cM _ _) c hc
def vB(d:Nat):aw (fk d)=0:=by unfold fk;split<;>simp[aw]
def lE(n:Int)(d:Nat):aw (uI n d)=(cK n).length:=by unfold uI;rw[oM _<|Ug n,vB];omega
def IJ(z:Int):0<(cK z).length:=by have:=agy.2<|UE z.natAbs (k:=1) fh;unfold cK;grind
def wz(h:0<s.length):(s++t).getD 0 0=s.getD 0 0:=by grind
def Gq(h:0<s.length):isNeg (s++t)=isNeg s:=by unfold isNeg;grind
def xZ(n:Int)(d:Nat):isNeg (uI n d)=decide (n<0):=by unfold uI;rw[Gq<|IJ n,nV]
def Nu(n:Int)(d:Nat):bz (uI n d)=decl n.natAbs 1++fk d:=by unfold bz;rw[xZ];by_cases h:n<0<;>simp[h,uI,cK]
def rI(n:Int)(d:Nat):(uI n d).take (cK n).length=cK n:=by unfold uI;simp
def sG(n:Int)(d:Nat)(h:d≠1):(uI n d).drop ((cK n).length+1)=decl d 1:=by unfold uI fk;rw[if_neg h];simp
def jY(n:Int)(d:Nat):(uI n d).length=(cK n).length+(fk d).length:=by unfold uI;simp
def fF:(fk d).length=0↔d=1:=by unfold fk;split<;>simp[*]
def Rf{a b:Int}(h:cK a=cK b):a=b:=by rw[<-xX a,h,xX]
def TB{n m:Int}{e:Nat}(h:uI n d=uI m e):n=m/\d=e:=by
 have b:=lE n d;rw[h,lE]at b;have f:=rI n d;rw[h,<-b,rI]at f;refine⟨(Rf f).symm,?_⟩;have g:=congrArg List.length h;rw[jY,jY]at g;by_cases a:d=1
 ·have:=fF.2 a;have:=fF.1 (show(fk e).length=0 from E);omega
 have he:e≠1:=by intro he;have:=fF.2 he;exact a<|fF.1 E
 have c:=sG n d a;rw[h,<-b,sG m e he]at c;have:=congrArg cJ c;rw[ke,ke]at this;simp_all
def KK{p:Rat}:qt p=qt q↔p=q:=by
 constructor
 ·intro h;have:=TB h;exact Rat.ext this.1 this.2
 rintro rfl;rfl
def JD(n:Nat)(h:(ae n).length<=k):(decl n 1).length<=9*k+1:=by have a:=cw n;rw[vS]at a;have b:10^(9*(ae n).length)<=10^(9*k):=ae2 fh E;exact eI n 1 (9*k+1) E E
def NS(d:Nat)(h:(ae d).length<=k):(fk d).length<=9*k+2:=by have:=JD d h;unfold fk;grind
def DU(q:Rat):Prop:=(ae q.num.natAbs).length<2^40/\(ae q.den).length<2^40
def KJ(h:DU q):(qt q).length<2^45:=by have b:=wq q.num<|ago h.1;have a:=NS q.den<|ago h.2;unfold qt;rw[jY];omega
def iG:ae 1=[1]:=mz (f:=1) fh fh
def dU(q:Rat)(h:DU q):aM Tryz.prog 82 [.s<|qt q] (.bW [j0 q.num,j0 q.den]):=by
 have hl:=KJ h;have p:=h.1;have o:=h.2;have r:aw (qt q)=(cK q.num).length:=lE _ _;have c:(qt q).length=(cK q.num).length+(fk q.den).length:=jY _ _;refine bS Tryz.func82 W<|bP W W (j9 (qt q) E) W<|bQ W W ?_ ?_<;>intro e
 ·have b:q.den=1:=fF.1 E;have f:qt q=cK q.num:=by unfold qt uI;rw[b];simp[fk]
  refine r0 W<|cl W (by rw[f];rfl) (qw q.num E) W ?_;refine bG W (fj 1 fh) W<|bK W W<|ar.of_eq<|congrArg SV.bW ?_;rw[b];rfl
 have b:q.den≠1:=λb=>by have:=fF.2 b;omega
 have Cc:=q.den_nz;have m:((aw (qt q):Nat):Int).toNat=(cK q.num).length:=E;have l:(((aw (qt q):Nat):Int)+1).toNat=(cK q.num).length+1:=E;have n:0<(fk q.den).length:=by omega
 have j:(qt q).take (cK q.num).length=cK q.num:=rI _ _;have i:(qt q).drop ((cK q.num).length+1)=decl q.den 1:=sG _ _ b;refine r1 W (by simp[bo,and_true];omega) ?_;refine cd W (by rw[m,j];rfl) (qw q.num E) W ?_;refine r1 W (by simp[bo,and_true];omega) ?_;have g:cK (q.den:Int)=decl q.den 1:=fb;have a:=qw (q.den:Int) (by grind);rw[g]at a;refine cd W (by rw[l,afA,i];rfl) a W ?_;refine k0 W aW<|bF W
end
def Cf{n d:Int}(b:0<d):(Rat.divInt n d).num=AG (decide (n<0)) ((n.natAbs/Nat.gcd n.natAbs d.natAbs:Nat):Int):=by
 rw[Rat.num_divInt,agp b];have e:d.gcd n=Nat.gcd n.natAbs d.natAbs:=by rw[ahh,agV]
 rw[e];unfold AG;by_cases h:n<0
 ·simp[h];have c:n= -(n.natAbs:Int):=E;have a:(Nat.gcd n.natAbs d.natAbs:Int)∣(n.natAbs:Int):=Int.ofNat_dvd.2<|Nat.gcd_dvd_left _ _
  conv=>lhs;rw[c]
  rw[Int.neg_ediv_of_dvd<|by simpa using a];simp
 grind
def Cg{n d:Int}(a:0<d):(Rat.divInt n d).den=d.natAbs/Nat.gcd n.natAbs d.natAbs:=by rw[Rat.den_divInt,if_neg E,ahh,agV]
def lR(a b:Nat):(ae<|a/b).length<=(ae a).length:=by
 rcases aeQ (ae a).length (ae<|a/b).length with g|g
 ·have:=cE g;have:=agF a b;omega
 exact g
def lO(b:Bool)(n:Nat):(AG b (n:Int)).natAbs=n:=by cases b<;>simp[AG]
def nF{d:Nat}(h:d≠1):fk d=47::decl d 1:=by unfold fk;rw[if_neg h]
def IK(d:Nat):cK (d:Int)=decl d 1:=fb
def zU{q:Nat}:((ae q).length=1/\(ae q).getD 0 0=1)↔q=1:=by
 constructor
 ·rintro⟨a,e⟩;have c:=ai q;have d:ae q=[(ae q).getD 0 0]:=by
   match b:ae q with
   |[]=>rw[b]at a;cases a
   |[x]=>rfl
   |x::y::l=>rw[b]at a;cases a
  rw[d,e]at c;simp[val]at c;omega
 rintro rfl;rw[iG];simp
def fM(n d:Int)(B:d≠0)(A:(ae n.natAbs).length<2^34)(z:(ae d.natAbs).length<2^34):aM Tryz.prog 77 [j0 n,j0 d] (.s<|qt<|Rat.divInt n d):=by
 refine bS Tryz.func77 W<|wR 2 (λ(a b:Int)=>[(2,.box true<|j0 a),(3,.box true<|j0 b)]) (λa b=>0<b/\Rat.divInt a b=Rat.divInt n d/\a.natAbs=n.natAbs/\b.natAbs=d.natAbs) ?_ ?_
 ·refine r0 W<|ni W W W ?_ ?_<;>intro h
  ·have h:d<0:=of_decide_eq_true h;refine bO W W (zB n<|by unfold Hk;omega) W ?_;refine bO W W (zB d<|by unfold Hk;omega) W ?_;refine k0 W aW<|il (-n,-d) ⟨?_,Rat.neg_divInt_neg _ _,?_,?_⟩<;>dsimp only<;>omega
  have h:¬d<0:=of_decide_eq_false h;refine r0 W<|il (n,d) ⟨?_,W,W,W⟩;dsimp only;omega
 rintro a b⟨l,u,p,Rr⟩;rw[<-u];rw[<-p]at A;rw[<-Rr]at z;have e:=Cf (n:=a) l;have f:=Cg (n:=a) l;have Cc:b.natAbs≠0:=E;have i:Nat.gcd a.natAbs b.natAbs≠0:=λh=>Cc<|Nat.eq_zero_of_gcd_eq_zero_right h;have x:(ae<|Nat.gcd a.natAbs b.natAbs).length<=(ae b.natAbs).length:=by
  rcases aeQ (ae b.natAbs).length (ae<|Nat.gcd a.natAbs b.natAbs).length with g|g
  ·have:=cE g;have:=Nat.le_of_dvd E<|Nat.gcd_dvd_right a.natAbs b.natAbs;omega
  exact g
 have v:=lR a.natAbs<|Nat.gcd a.natAbs b.natAbs;have m:=lR b.natAbs<|Nat.gcd a.natAbs b.natAbs;have o:(ae (Rat.divInt a b).num.natAbs).length<=(ae a.natAbs).length:=by rw[e,lO];exact v
 have k:(ae (Rat.divInt a b).den).length<=(ae b.natAbs).length:=by rw[f];exact m
 have w:=wq (Rat.divInt a b).num o;have y:=JD (Rat.divInt a b).den k;have c:=zU (q:=(Rat.divInt a b).den);refine cx 5 [(8,.ints .i64 false<|ae (Rat.divInt a b).den),(10,.s<|cK (Rat.divInt a b).num)] ((Rat.divInt a b).den≠1) ?_ λhc=>?_
 ·refine bP W W (wV a.natAbs b.natAbs E E) W<|bP W W (mM a.natAbs (Nat.gcd a.natAbs b.natAbs) E E i) W<|bP W W (mM b.natAbs (Nat.gcd a.natAbs b.natAbs) E E i) W<|bP W W (fm (decide (a<0)) (a.natAbs/Nat.gcd a.natAbs b.natAbs) E) W ?_;rw[<-e,<-f];refine bP W W (uz (Rat.divInt a b).num E) W<|r0 W ?_;have j:(Rat.divInt a b).den=1->cK (Rat.divInt a b).num=qt (Rat.divInt a b):=by
   intro h;unfold qt uI fk;simp_all
  refine aC 44 W ?_ ?_<;>intro h
  ·have C:((0:Int).toNat)=0:=W;refine r1 W (by simp[bo,and_true];omega) ?_;refine gb W ?_ ?_<;>intro r
   ·refine bK W W<|ar.of_eq<|congrArg SV.s<|j<|c.1 ⟨E,r⟩
   refine r0 W<|gm λt=>r (c.2 t).2
  refine r0 W<|gm λt=>h E
 refine r1 W (by simp[bo,and_true,len,adX,aeg];omega) ?_;refine bG W (fm false (Rat.divInt a b).den E) W<|bP W W (uz (Rat.divInt a b).den<|by grind) W ?_;rw[IK];refine r1 W (by simp[bo,and_true,len,aeP,adX,aeg];omega) ?_;refine aE W<|ar.of_eq<|congrArg SV.s ?_;unfold qt uI;rw[nF hc,aeZ];rfl
def OO:cK 0=[48]:=by simp[cK,cC,dp];rfl
def nL(z:Int):qt (z:Rat)=cK z:=by simp[qt,uI,fk]
def AL:qt 0=[48]:=by have:=nL 0;rw[OO]at this;simpa using this
def KH:qt 1=[49]:=by
 have:=nL 1;have e:cK 1=[49]:=by simp[cK,cC,dp];rfl
 simp_all
def FR{q:Rat}:qt q=[48]↔q=0:=by rw[<-AL];exact KK
def IL(q:Rat):isNeg (qt q)=decide (q.num<0):=xZ _ _
def KG(q:Rat):0<(qt q).length:=by have:=IJ q.num;unfold qt;rw[jY];omega
def D7(s:hO):Int:=if s=[48]then 0 else if isNeg s then -1 else 1
def P7(q:Rat):D7 (qt q)=q.num.sign:=by
 unfold D7;rw[IL];by_cases h:q=0
 ·rw[if_pos<|FR.2 h,h];rfl
 rw[if_neg λa=>h<|FR.1 a];have b:q.num≠0:=λa=>h<|ahE.1 a
 grind
def uE(s:hO)(hl:s.length<2^60):aM Tryz.prog 161 [.s s] (.i<|D7 s):=by
 refine bS Tryz.func161 W<|bQ W W ?_ ?_<;>intro h
 ·refine bK W W<|bR ?_;unfold D7;rw[if_pos h]
 refine r0 W ?_;have hs:D7 s=if isNeg s then -1 else 1:=by unfold D7;rw[if_neg h]
 refine aC 8 W ?_ ?_<;>intro b
 ·refine r1 W (by simp[bo];omega) ?_;refine gb W ?_ ?_<;>intro a
  ·have hn:isNeg s=true:=by unfold isNeg;grind
   refine bK W W<|bR ?_;rw[hs,hn];rfl
  have hn:isNeg s=false:=by unfold isNeg;grind
  refine bK W W<|bR ?_;rw[hs,hn];rfl
 have hn:isNeg s=false:=by unfold isNeg;simp_all
 refine bK W W<|bR ?_;rw[hs,hn];rfl
def Bw{q:Rat}(h:DU q):(qt q).length<2^60:=agq (KJ h) fh
def ou(q:Rat)(h:DU q):aM Tryz.prog 161 [.s<|qt q] (.i q.num.sign):=by have:=uE (qt q)<|Bw h;rwa[P7]at this
def Qx{q:Rat}(h:q.num<0):(qt q).drop 1=qt (-q):=by unfold qt uI cK;rw[ahF,if_pos h,if_neg E];simp
def TM{q:Rat}(h:0<q.num):45::qt q=qt (-q):=by unfold qt uI cK;rw[ahF,if_neg E,if_pos E];simp
def pB(q:Rat)(h:DU q):aM Tryz.prog 85 [.s<|qt q] (.s<|qt<|-q):=by
 have hl:=KJ h;have f:=KG q;refine bS Tryz.func85 W<|bP W W (ou q h) W<|bQ W W ?_ ?_<;>intro b
 ·have hn:=af6.1 b;refine r1 W (by simp[bo,len];omega) ?_;refine aE W<|ar.of_eq<|congrArg SV.s ?_;rw[<-Qx hn,afA];rfl
 have hn:¬q.num<0:=λhn=>b<|af6.2 hn;refine bP W W (ou q h) W<|bQ W W ?_ ?_<;>intro a
 ·have e:=ahE.1 (aib.1 a);refine bK W W<|ar.of_eq<|congrArg SV.s ?_;rw[e];rfl
 have c:q.num≠0:=λd=>a (by rw[d];rfl);refine r1 W (by simp[bo,aeg];omega) ?_;refine aE W<|ar.of_eq<|congrArg SV.s<|TM E
def mD(q:Rat):Rat:=if q.num<0 then -q else q
def pV(q:Rat)(h:DU q):aM Tryz.prog 87 [.s<|qt q] (.s<|qt<|mD q):=by
 have b:=KG q;refine bS Tryz.func87 W<|bP W W (ou q h) W<|bQ W W ?_ ?_<;>intro a
 ·have hn:=af6.1 a;refine r1 W (by simp[bo];omega) ?_;refine aE W<|ar.of_eq<|congrArg SV.s ?_;unfold mD;rw[if_pos hn,<-Qx hn,afA];rfl
 have hn:=λhn=>a<|af6.2 hn;refine bK W W<|ar.of_eq<|congrArg SV.s ?_;unfold mD;rw[if_neg hn]
def En(q:Rat)(h:DU q):aM Tryz.prog 198 [.s<|qt q] (.s<|qt (q.num:Rat)):=by have hl:=Bw h;have c:aw (qt q)=(cK q.num).length:=lE _ _;have a:(qt q).length=(cK q.num).length+(fk q.den).length:=jY _ _;refine bS Tryz.func198 W<|bP W W (j9 (qt q) hl) W<|r1 W (by simp[bo];omega) ?_;refine aE W<|ar.of_eq<|congrArg SV.s ?_;have b:((aw (qt q):Nat):Int).toNat=(cK q.num).length:=E;rw[nL,b];exact rI _ _
def E3(q:Rat)(h:DU q):aM Tryz.prog 199 [.s<|qt q] (.s<|qt (q.den:Rat)):=by
 have hl:=Bw h;have e:aw (qt q)=(cK q.num).length:=lE _ _;have b:(qt q).length=(cK q.num).length+(fk q.den).length:=jY _ _;have hi:qt (q.den:Rat)=cK q.den:=nL (q.den:Int);rw[hi];refine bS Tryz.func199 W<|bP W W (j9 (qt q) hl) W<|bQ W W ?_ ?_<;>intro c
 ·have a:q.den=1:=fF.1 E;refine bK W W<|ar.of_eq<|congrArg SV.s ?_;rw[a];exact(KH.symm.trans<|nL 1)
 have a:q.den≠1:=λa=>by have:=fF.2 a;omega
 have d:(((aw (qt q):Nat):Int)+1).toNat=(cK q.num).length+1:=E;refine r1 W (by simp[bo,len];omega) ?_;refine aE W<|ar.of_eq<|congrArg SV.s ?_;rw[d,afA];exact sG _ _ a
def mY(q:Rat):aM Tryz.prog 38 [.s<|qt q] (.u<|decide (q=0)):=by refine bS Tryz.func38 W<|bK W W<|ar.of_eq<|congrArg SV.u<|decide_eq_decide.2 FR
def ug(n:Int)(h: -9223372036854775808<n/\n<=9223372036854775807):aM Tryz.prog 127 [.i n] (.s<|qt (n:Rat)):=by rw[nL];refine bS Tryz.func127 W<|bP W W (fj n h) W<|bG W (uz n (by have:=jn (m:=n.natAbs) E;omega)) W ?_;refine bN W W
def TN(q:Rat):Bool:=decide ((qt q).length<=20/\(decl q.num.natAbs 1).length<=9/\(fk q.den).length<=10)
def wQ{n j:Nat}(h:(decl n 1).length<=j):n<10^j:=by have a:=l0<|cM n 1;rw[ke]at a;exact ae3 a<|ae2 fh h
def vO{q:Rat}(h:TN q=true):q.num.natAbs<1000000000:=wQ (j:=9) (of_decide_eq_true h).2.1
def s7{q:Rat}(h:TN q=true):q.den<1000000000:=by
 have a:=(of_decide_eq_true h).2.2;by_cases b:q.den=1
 ·omega
 rw[nF b]at a;exact wQ (j:=9) (by simpa using a)
def G0(q:Rat):bz (qt q)=decl q.num.natAbs 1++fk q.den:=Nu _ _
def NX(q:Rat):aw (bz<|qt q)=(decl q.num.natAbs 1).length:=by rw[G0,oM _<|yF<|cM _ _,vB];omega
def oy(q:Rat)(h:DU q):aM Tryz.prog 81 [.s<|qt q] (.bW [.i<|if TN q then q.num else 0,.i<|if TN q then(q.den:Int)else 0,.u<|TN q]):=by
 have t:=KG q;have v:=xa<|qt q;have c:=IL q;have g:=NX q;have m:(bz<|qt q).length=(decl q.num.natAbs 1).length+(fk q.den).length:=by rw[G0];simp
 refine bS Tryz.func81 W<|cx 5 [(5,.s<|bz<|qt q),(6,.u<|decide (q.num<0))] ((qt q).length<=20) ?_ λhc=>?_
 ·refine bQ W W ?_ ?_<;>intro a
  ·have b:TN q=false:=decide_eq_false λd=>E;rw[b];refine bK W W ⟨ar.refl _,ar.refl _,W,U⟩
  refine bJ W 17 W (λf=>?_) λf=>absurd f E;refine r1 W a7<|gb W ?_ ?_<;>intro d
  ·have hn:isNeg (qt q)=true:=by unfold isNeg;grind
   refine r1 W (by simp[bo,and_true,len]<;>omega) ?_;refine aN E ⟨⟨W,ar.of_eq<|congrArg SV.s<|by simp[bz,hn]⟩,⟨W,ar.of_eq<|congrArg SV.u<|(decide_eq_true d).trans<|hn.symm.trans c⟩,U⟩
  have hn:isNeg (qt q)=false:=by unfold isNeg;grind
  refine bL W E ⟨⟨W,ar.of_eq<|congrArg SV.s<|by simp[bz,hn]⟩,⟨W,ar.of_eq<|congrArg SV.u<|(decide_eq_false d).trans<|hn.symm.trans c⟩,U⟩
 refine cx 2 [(6,.u<|decide (q.num<0)),(5,.s<|bz<|qt q),(7,.i<|aw<|bz<|qt q)] (TN q=true) ?_ λb=>?_
 ·refine bP W W (j9 (bz<|qt q) E) W<|bJ W 29 W ?_ ?_<;>intro a
  ·have b:TN q=false:=decide_eq_false λd=>E;rw[b];refine bK W W ⟨ar.refl _,ar.refl _,W,U⟩
  refine r1 W (by simp[bo,and_true,len]<;>omega) ?_;refine gb W ?_ ?_<;>intro d
  ·have b:TN q=false:=decide_eq_false λd=>E;rw[b];refine bK W W ⟨ar.refl _,ar.refl _,W,U⟩
  refine r0 W<|gm<|decide_eq_true ⟨hc,E,E⟩
 have j:=of_decide_eq_true b;have k:=vO b;have r:((aw (bz<|qt q):Nat):Int).toNat=(decl q.num.natAbs 1).length:=E;have p:(((aw (bz<|qt q):Nat):Int)+1).toNat=(decl q.num.natAbs 1).length+1:=E;have o:(bz<|qt q).take (decl q.num.natAbs 1).length=decl q.num.natAbs 1:=by rw[G0];simp
 refine cx 2 [(6,.u<|decide (q.num<0)),(8,.i q.num.natAbs),(9,.i q.den)] True ?_ λ_=>?_
 ·refine r1 W (by simp[bo,and_true,len]<;>omega) ?_;refine cl W (by rw[r,o];rfl) (oq (decl q.num.natAbs 1) (cM _ _) E) W ?_;rw[ke];refine bQ W W ?_ ?_<;>intro a
  ·have e:q.den≠1:=λe=>by have:=fF.2 e;omega
   have n:(bz<|qt q).drop ((decl q.num.natAbs 1).length+1)=decl q.den 1:=by rw[G0,nF e,ahZ];simp
   have l:(decl q.den 1).length<=9:=by grind
   refine r1 W (by simp[bo,and_true,len]<;>omega) ?_;refine cl W (by rw[p,afA,n];rfl) (oq (decl q.den 1) (cM _ _) E) W ?_;rw[ke];refine r0 W<|gm U
  have e:q.den=1:=fF.1 E;refine bL W U ⟨G,G,⟨W,ar.of_eq<|congrArg SV.i<|by rw[e];rfl⟩,U⟩
 rw[b];refine r0 W<|ni W W W ?_ ?_<;>intro a
 ·have a:q.num<0:=of_decide_eq_true a;refine r1 W a7<|aE W ⟨ar.of_eq<|congrArg SV.i<|by rw[if_pos W];omega,ar.refl _,W,U⟩
 have a:¬q.num<0:=of_decide_eq_false a;refine bK W W ⟨ar.of_eq<|congrArg SV.i<|by rw[if_pos W];omega,ar.refl _,W,U⟩
def Ih(a b:Int)(g:b≠0)(k: -9223372036854775808<a/\a<=9223372036854775807)(j: -9223372036854775808<b/\b<=9223372036854775807):aM Tryz.prog 24 [.i a,.i b] (.s<|qt<|Rat.divInt a b):=by
 refine bS Tryz.func24 W<|cx 2 [(0,.i a),(1,.i b)] (-4000000000000000000<=a/\a<=4000000000000000000/\ -4000000000000000000<=b/\b<=4000000000000000000) ?_ λhc=>?_
 ·have B:=jn (m:=a.natAbs) E;have A:=jn (m:=b.natAbs) E;have P:∀{K:List It}{l:aU},True:=λ{_ _}=>trivial;refine bJ W 9 W ?_ ?_<;>intro g1
  ·refine bP W W (fj a k) W<|bP W W (fj b j) W<|bP W W (fM a b g E E) W<|bN W W
  refine bJ W 13 W ?_ ?_<;>intro g2
  ·refine bP W W (fj a k) W<|bP W W (fj b j) W<|bP W W (fM a b g E E) W<|bN W W
  refine bJ W 17 W ?_ ?_<;>intro M
  ·refine bP W W (fj a k) W<|bP W W (fj b j) W<|bP W W (fM a b g E E) W<|bN W W
  refine bQ W W ?_ ?_<;>intro L
  ·refine bP W W (fj a k) W<|bP W W (fj b j) W<|bP W W (fM a b g E E) W<|bN W W
  refine r0 W<|gm E
 obtain⟨S,R,c3,Q⟩:=hc;refine wR 1 (λ(n d:Int)=>[(0,.i n),(1,.i d)]) (λn d=>0<d/\Rat.divInt n d=Rat.divInt a b/\n.natAbs=a.natAbs/\d.natAbs=b.natAbs) ?_ ?_
 ·refine bQ W W ?_ ?_<;>intro g1
  ·refine r1 W (by simp only[bo,and_true,len]<;>omega) ?_;refine meet (-a,-b) ⟨?_,Rat.neg_divInt_neg _ _,?_,?_⟩ ⟨⟨W,ar.of_eq<|congrArg SV.i E⟩,⟨W,ar.of_eq<|congrArg SV.i E⟩,U⟩<;>dsimp only<;>omega
  refine r0 W<|il (a,b) ⟨?_,W,W,W⟩;dsimp only;omega
 rintro n d⟨p,x,z,Rr⟩;rw[<-x];have e:=Cf (n:=n) p;have f:=Cg (n:=n) p;have H:0<Nat.gcd n.natAbs d.natAbs:=Nat.gcd_pos_of_pos_right _ E;have D:=Nat.gcd_dvd_left n.natAbs d.natAbs;have F:=Nat.gcd_dvd_right n.natAbs d.natAbs;have y:(Rat.divInt n d).num.natAbs<=n.natAbs:=by rw[e,lO];exact agF _ _
 have J:(Rat.divInt n d).den<=d.natAbs:=by rw[f];exact agF _ _
 have Cc:=(Rat.divInt n d).den_nz;have N:(d.natAbs:Int)=d:=E;have c:abP false n (0-n)=(n.natAbs:Int):=by simp only[abP];omega
 have w:n.tdiv (Nat.gcd n.natAbs d.natAbs:Nat)=(Rat.divInt n d).num:=by
  rw[e];unfold AG;by_cases h:n<0
  ·have O:n= -(n.natAbs:Int):=E;simp only[h,decide_true,if_true]
   conv=>lhs;rw[O]
   simp
  grind
 have v:d.tdiv (Nat.gcd n.natAbs d.natAbs:Nat)=((Rat.divInt n d).den:Int):=by grind
 have u:IntKind.i64.wrap (n.tdiv (Nat.gcd n.natAbs d.natAbs:Nat))=(Rat.divInt n d).num:=by rw[w];exact o7 ⟨E,E⟩
 have t:IntKind.i64.wrap (d.tdiv (Nat.gcd n.natAbs d.natAbs:Nat))=((Rat.divInt n d).den:Int):=by rw[v];exact o7 ⟨E,E⟩
 refine cx 2 [(0,.i (Rat.divInt n d).num),(1,.i (Rat.divInt n d).den)] True ?_ λ_=>?_
 ·refine r1 W (by simp only[bo,and_true,len]<;>omega) ?_;refine cl W (by rw[c,<-N];rfl) (OW n.natAbs d.natAbs) W ?_;refine kw [40,43] W aW (by simp only[bo,and_true,len]<;>omega) ?_;exact aN U ⟨⟨W,ar.of_eq<|congrArg SV.i u⟩,⟨W,ar.of_eq<|congrArg SV.i t⟩,U⟩
 generalize Rat.divInt n d=q at*;have C:(decl q.num.natAbs 1).length<=19:=eI _ _ 19 E E;have o:(decl q.den 1).length<=19:=eI _ _ 19 E E;have c:abP false q.num (0-q.num)=(q.num.natAbs:Int):=by simp only[abP];omega
 refine cx 2 [(0,.i q.num),(1,.i q.den),(6,.s<|if q.num<0 then[45]else[])] True ?_ λ_=>?_
 ·refine bQ W W ?_ ?_<;>intro h
  ·refine bL W U ⟨G,G,⟨W,ar.of_eq<|congrArg SV.s<|by rw[if_pos h]⟩,U⟩
  refine bL W U ⟨G,G,⟨W,ar.of_eq<|congrArg SV.s<|by rw[if_neg h]⟩,U⟩
 have hs:(if q.num<0 then[45]else([]:hO)).length<=1:=by split<;>simp
 have r:(if q.num<0 then[45]else([]:hO))++decl q.num.natAbs 1=cK q.num:=by unfold cK;split<;>simp
 refine r1 W (by simp only[bo,and_true,len]<;>omega) ?_;refine cl W (by rw[c];rfl) (ma q.num.natAbs 1 E E) W ?_;refine r1 W (by simp only[bo,and_true,len]<;>omega) ?_;refine gb W ?_ ?_<;>intro h
 ·refine r1 W (by simp only[bo,and_true,len,aeP,adX,aeg]<;>omega) ?_;refine bG W (ma q.den 1 E E) W<|r1 W (by simp only[bo,and_true,len,aeP,adX,aeg]<;>omega) ?_;refine aE W<|ar.of_eq<|congrArg SV.s ?_;rw[r];unfold qt uI;rw[nF E,aeZ];rfl
 refine bK W W<|ar.of_eq<|congrArg SV.s ?_;rw[r];unfold qt uI fk
 grind
section
variable{K L:Nat}{p q:Rat}
def Sz(q:Rat)(K:Nat):Prop:=(ae q.num.natAbs).length<=K/\(ae q.den).length<=K
def Sz.tQ(h:Sz q K)(a:K<2^40):DU q:=⟨af2 h.1 a,af2 h.2 a⟩
def Sz.mono(h:Sz q K)(a:K<=L):Sz q L:=⟨ad0 h.1 a,ad0 h.2 a⟩
def Sz.neg(h:Sz q K):Sz (-q) K:=by unfold Sz at *;simp_all
def xw{n d:Int}(a:0<d)(c:(ae n.natAbs).length<=K)(b:(ae d.natAbs).length<=K):Sz (Rat.divInt n d) K:=by unfold Sz;rw[Cf a,Cg a,lO];exact⟨ad0 (lR _ _) c,ad0 (lR _ _) b⟩
def qz(p q:Rat):Rat.divInt (p.num*q.num) ((p.den:Int)*q.den)=p*q:=by rw[Rat.mul_def',<-Rat.divInt_ofNat,afn]
def oe(p q:Rat):Rat.divInt (p.num*q.den+q.num*p.den) ((p.den:Int)*q.den)=p+q:=by rw[Rat.add_def',<-Rat.divInt_ofNat,afn]
def den_pos(p:Rat):(0:Int)<p.den:=by have:=p.den_nz;omega
def Sz.mul(h:Sz p K)(a:Sz q L):Sz (p*q) (K+L):=by
 rw[<-qz];refine xw (agf (den_pos p)<|den_pos q) ?_ ?_
 ·rw[af5];exact ad0 (dO _ _)<|aic h.1 a.1
 rw[af5];exact ad0 (dO _ _)<|aic h.2 a.2
def length_le{m n:Nat}(h:m<=n):(ae m).length<=(ae n).length:=by
 rcases aeQ (ae n).length (ae m).length with g|g
 ·have:=cE g;omega
 exact g
def zH(x y:Int)(b:(ae x.natAbs).length<=K)(a:(ae y.natAbs).length<=K):(ae (x+y).natAbs).length<=K+1:=ad0 (length_le<|Int.natAbs_add_le x y) (nT b a)
def ia(x y:Int)(b:(ae x.natAbs).length<=K)(a:(ae y.natAbs).length<=L):(ae (x*y).natAbs).length<=K+L:=by rw[af5];exact ad0 (dO _ _)<|aic b a
def Sz.add(h:Sz p K)(a:Sz q L):Sz (p+q) (K+L+1):=by
 rw[<-oe];refine xw (agf (den_pos p)<|den_pos q) ?_ ?_
 ·exact zH _ _ (ia _ _ h.1 a.2) (Nat.add_comm K L▸ia _ _ a.1 h.2)
 exact ahG<|ia (p.den:Int) (q.den:Int) h.2 a.2
def pC{x y:Int}(b:x.natAbs<1000000000)(a:y.natAbs<1000000000):(x*y).natAbs<=1000000000000000000:=by rw[af5];exact agr (ago b)<|ago a
def gi(p q:Rat)(b:Sz p K)(a:Sz q L)(l:K+L<2^34):aM Tryz.prog 26 [.s<|qt p,.s<|qt q] (.s<|qt<|p*q):=by
 have c:=b.tQ E;have fq:=a.tQ E;have h:=b.1;have g:=b.2;have f:=a.1;have e:=a.2;refine bS Tryz.func26 W<|cx 4 [(0,.s<|qt p),(1,.s<|qt q)] True ?_ λ_=>?_
 ·refine bP W W (oy p c) W<|bP W W (oy q fq) W<|r0 W<|iN 28 W ?_ ?_<;>intro g1
  ·refine r0 W<|ni W W W ?_ ?_<;>intro g2
   ·simp[g1,g2,if_true];have m1:=pC (vO g1)<|vO g2;have i:=pC (x:=(p.den:Int)) (y:=(q.den:Int)) (s7 g1)<|s7 g2;have d:=agf (den_pos p)<|den_pos q;refine r1 W (by simp[bo,and_true,len]<;>omega) ?_;refine bG W (Ih (p.num*q.num) ((p.den:Int)*q.den) E E E) W<|r0 W ?_;rw[qz];exact bF W
   refine r0 W<|gm U
  refine r0 W<|gm U
 refine bP W W (dU p c) W<|bP W W (dU q fq) W<|bO W W (mh p.num q.num (by unfold Hk;omega)<|by unfold Hk;omega) W ?_;refine bO W W (mh (p.den:Int) (q.den:Int) (by show(ae p.den).length<_;omega)<|by show(ae q.den).length<_;omega) W ?_;refine r0 W ?_;have d:=agf (den_pos p)<|den_pos q;have k:=ia p.num q.num h f;have j:=ia (p.den:Int) (q.den:Int) g e;refine bH W (fM (p.num*q.num) ((p.den:Int)*q.den) E E E) W ?_;rw[qz];refine k0 W aW<|bF W
def yG(p q:Rat)(b:Sz p K)(a:Sz q L)(t:K+L+1<2^34):aM Tryz.prog 25 [.s<|qt p,.s<|qt q] (.s<|qt<|p+q):=by
 have e:=b.tQ E;have fq:=a.tQ E;have k:=b.1;have d:=b.2;have j:=a.1;have c:=a.2;refine bS Tryz.func25 W<|cx 4 [(0,.s<|qt p),(1,.s<|qt q)] True ?_ λ_=>?_
 ·refine bP W W (oy p e) W<|bP W W (oy q fq) W<|r0 W<|iN 28 W ?_ ?_<;>intro g1
  ·refine r0 W<|ni W W W ?_ ?_<;>intro g2
   ·simp[g1,g2,if_true];have m1:=pC (y:=(q.den:Int)) (vO g1)<|s7 g2;have m:=pC (y:=(p.den:Int)) (vO g2)<|s7 g1;have l:=pC (x:=(p.den:Int)) (y:=(q.den:Int)) (s7 g1)<|s7 g2;have h:=agf (den_pos p)<|den_pos q;refine r1 W (by simp[bo,and_true,len]<;>omega) ?_;refine bG W (Ih (p.num*q.den+q.num*p.den) ((p.den:Int)*q.den) E E E) W<|r0 W ?_;rw[oe];exact bF W
   refine r0 W<|gm U
  refine r0 W<|gm U
 have i:=ia p.num (q.den:Int) k c;have r:=ia q.num (p.den:Int) j d;have o:=ia (p.den:Int) (q.den:Int) d c;have n:=zH (p.num*q.den) (q.num*p.den) i E;have h:=agf (den_pos p)<|den_pos q;have g:Hk (p.den:Int):=by show(ae p.den).length<_;omega
 have f:Hk (q.den:Int):=by show(ae q.den).length<_;omega
 refine bP W W (dU p e) W<|bP W W (dU q fq) W<|bO W W (mh p.num (q.den:Int) (by unfold Hk;omega) f) W ?_;refine bO W W (mh q.num (p.den:Int) (by unfold Hk;omega) g) W ?_;refine bO W W (KM (p.num*q.den) (q.num*p.den) (by unfold Hk;omega)<|by unfold Hk;omega) W ?_;refine bO W W (mh (p.den:Int) (q.den:Int) g f) W<|bO W W (fM (p.num*q.den+q.num*p.den) ((p.den:Int)*q.den) E E E) W ?_;rw[oe];refine k0 W aW<|bF W
def D3(p q:Rat)(b:Sz p K)(a:Sz q L)(c:K+L+1<2^34):aM Tryz.prog 27 [.s<|qt p,.s<|qt q] (.s<|qt<|p-q):=by refine bS Tryz.func27 W<|bP W W (pB q<|a.tQ E) W<|bG W (yG p (-q) b a.neg c) W<|r0 W ?_;rw[<-Rat.sub_eq_add_neg];exact bF W
def Sz.sub(h:Sz p K)(a:Sz q L):Sz (p-q) (K+L+1):=by rw[Rat.sub_eq_add_neg];exact h.add a.neg
def CV(p q:Rat):Int:=(p-q).num.sign
def tA(p q:Rat)(b:Sz p K)(a:Sz q L)(c:K+L+1<2^34):aM Tryz.prog 86 [.s<|qt p,.s<|qt q] (.i<|CV p q):=by refine bS Tryz.func86 W<|bP W W (D3 p q b a c) W<|bG W (ou (p-q)<|(b.sub a).tQ E) W<|bN W W
def Sz.inv(h:Sz q K):Sz q⁻¹ (K+1):=by
 unfold Sz;rw[Rat.num_inv,Rat.den_inv];constructor
 ·rcases ahH q.num 0 with g|g|g
  ·rw[ahI g];simpa using ahG h.2
  ·rw[g];simp[dm]
  rw[agp g];simpa using ahG h.2
 split
 ·rw[iG];simp
 exact ahG h.1
def pq(q:Rat)(h:Sz q K)(b:K<2^34)(a:q≠0):aM Tryz.prog 88 [.s<|qt q] (.s<|qt q⁻¹):=by have d:=h.1;have c:=h.2;have hn:=λh=>a<|ahE.1 h;refine bS Tryz.func88 W<|bP W W (dU q<|h.tQ E) W<|bP W W (fM (q.den:Int) q.num hn (by grind) E) W<|r0 W ?_;rw[Rat.inv_def];exact bF W
def O5(p q:Rat)(b:Sz p K)(a:Sz q L)(d:K+L+1<2^34)(c:q≠0):aM Tryz.prog 39 [.s<|qt p,.s<|qt q] (.s<|qt<|p/q):=by refine bS Tryz.func39 W<|bP W W (pq q a E c) W<|bG W (gi p q⁻¹ b a.inv E) W<|bN W W
def Sz.div(h:Sz p K)(a:Sz q L):Sz (p/q) (K+L+1):=by rw[ahi];exact h.mul a.inv
end
section
variable{s:hO}
def mb(s:hO):Bool:=s.all λc=>decide (48<=c.toNat/\c.toNat<=57)
def mC:mb s=true↔dh s:=by simp[mb,dh]
def DG(s:hO)(hl:s.length<2^60):aM Tryz.prog 266 [.s s] (.u<|mb s):=by
 refine bS Tryz.func266 W<|r0 W<|ra (λi:Nat=>[(0,.s s),(3,.i i)]) (λi=>i<=s.length/\∀k,k<i->48<=(s.getD k 0).toNat/\(s.getD k 0).toNat<=57) (λi=>s.length-i) 0 ⟨adk _,λk h=>E⟩ ?_;rintro i⟨hi,l⟩;refine bQ W W ?_ ?_<;>intro h
 ·have d:i<s.length:=E;have a:(i:Int).toNat=i:=E;have b:¬(48<=(s.getD i 0).toNat/\(s.getD i 0).toNat<=57)->false=mb s:=by
   intro hn;symm;rw[Bool.eq_false_iff];intro g;have:=mC.1 g s[i]<|adC d;simp_all
  refine r1 W (by simp[bo,and_true,a];omega) ?_;refine aC 14 W ?_ ?_<;>intro f
  ·rw[a]at f;refine bK W W<|b E
  rw[a]at f;refine r1 W (by simp[bo,and_true,a];omega) ?_;refine gb W ?_ ?_<;>intro e
  ·rw[a]at e;refine bK W W<|b E
  rw[a]at e;refine r1 W (by simp[bo,and_true];omega) ?_;refine gS (i+1) ⟨E,λk j=>?_⟩
  grind
 refine bK W W ?_;show true=mb s;symm;rw[mC];intro c hc;obtain⟨k,j,rfl⟩:=agP hc
 grind
def fY(s:hO):Bool:=if s.length=0 then false else if 1<s.length/\(s.getD 0 0).toNat=48 then false else mb s
def oH(s:hO)(hl:s.length<2^60):aM Tryz.prog 197 [.s s] (.u<|fY s):=by
 have c:(0:Int).toNat=0:=W;refine bS Tryz.func197 W<|cx 2 [(0,.s s)] (fY s=mb s) ?_ λb=>?_
 ·refine bJ W 6 W ?_ ?_<;>intro e
  ·refine bK W W ?_;show false=fY s;unfold fY;rw[if_pos E]
  have b:fY s=if 1<s.length/\(s.getD 0 0).toNat=48 then false else mb s:=by unfold fY;rw[if_neg E]
  refine bJ W 10 W ?_ ?_<;>intro d
  ·refine r1 W (by simp[bo];omega) ?_;refine gb W ?_ ?_<;>intro a
   ·rw[c]at a;refine bK W W ?_;show false=fY s
    grind
   rw[c]at a;refine r0 W<|gm (by grind)
  refine r0 W<|gm (by grind)
 refine bP W W (DG s hl) W<|bK W W ?_;rw[b];exact ar.refl _
def ny(h:fY s=true):dh s/\0<s.length:=by
 unfold fY at h;split at h
 ·cases h
 split at h
 ·cases h
 exact⟨mC.1 h,E⟩
def EL(h:dh s):isNeg s=false:=by refine decide_eq_false ?_;rintro⟨b,a⟩;have hm:s.getD 0 0∈s:=eW;have:=h _ hm;omega
def xb(h:dh s):bz s=s:=by unfold bz;rw[EL h];rfl
def wo(h:dh s):B5 s=cJ s:=by unfold B5;rw[EL h,xb h];rfl
def vV(s:hO)(hs:dh s)(hl:s.length<2^46):aM Tryz.prog 156 [.s s] (j0 (cJ s:Int)):=by have:=zu s (by rw[xb hs];exact hs) hl;rwa[wo hs]at this
def F6(b:hO)(e:aw b<b.length)(hu:dh (b.take<|aw b))(c:dh (b.drop<|aw b+1))(hl:b.length<2^46):
 aM Tryz.prog 82 [.s b] (.bW [j0 (cJ (b.take<|aw b):Int),j0 (cJ (b.drop<|aw b+1):Int)]):=by
 refine bS Tryz.func82 W<|bP W W (j9 b E) W<|bQ W W (λa=>absurd a E) λa=>?_;have d:((aw b:Nat):Int).toNat=aw b:=E;refine r1 W (by simp[bo];omega) ?_;refine cd W (by rw[d];rfl) (vV _ hu<|by simp;omega) W ?_;refine r1 W (by simp[bo];omega) ?_;refine cd W (by rw[afA];rfl) (vV _ c<|by simp;omega) W ?_;refine k0 W aW<|bF W
def Dq{t:hO}(h:dh t):(ae<|cJ t).length<=t.length+1:=by
 have b:=l0 h;rcases gw (cJ t)with g|g
 ·rw[g];simp
 rcases aeQ (t.length+1) (ae<|cJ t).length with a|a
 ·rw[vS]at g;have:=ae2 (show 0<10 from fh) (show t.length<=9*((ae<|cJ t).length-1)from E);omega
 exact a
def iw(s:hO):Bool:=fY ((bz s).take<|aw<|bz s)&& !(isNeg s&&decide ((bz s).take (aw<|bz s)=[48]))
def jB(s:hO):Bool:= !decide (aw (bz s)<(bz s).length)||(fY ((bz s).drop<|aw (bz s)+1)&& !decide ((bz s).drop (aw (bz s)+1)=[48])&& !decide ((bz s).drop (aw (bz s)+1)=[49]))
def oY(s:hO):Bool:= !decide (aw (bz s)<(bz s).length)||decide (Nat.gcd (cJ<|(bz s).take<|aw<|bz s) (cJ<|(bz s).drop<|aw (bz s)+1)=1)
def aL(s:hO):Int:=if iw s then(if jB s then(if 600<aw (bz s)\/aw (bz s)+601<(bz s).length then 4 else if oY s then 0 else 1)else 1)else 1
def check_sound(s:hO)(hl:s.length<2^45):aM Tryz.prog 117 [.s s] (.i<|aL s):=by
 have A:=xa s;have x:=pf<|bz s;have F:(0:Int).toNat=0:=W;refine bS Tryz.func117 W<|cx 3 [(0,.s s),(3,.s<|bz s)] True ?_ λ_=>?_
 ·refine bJ W 12 W ?_ ?_<;>intro h
  ·refine r1 W (by simp only[bo,and_true];omega) ?_;refine gb W ?_ ?_<;>intro a
   ·have hn:isNeg s=true:=by unfold isNeg;grind
    refine r1 W (by simp only[bo,and_true];omega) ?_;exact aN U ⟨G,⟨W,ar.of_eq<|congrArg SV.s<|by simp[bz,hn]⟩,U⟩
   have hn:isNeg s=false:=by unfold isNeg;grind
   refine bL W U ⟨G,⟨W,ar.of_eq<|congrArg SV.s<|by simp[bz,hn]⟩,U⟩
  have hn:isNeg s=false:=by unfold isNeg;simp_all
  refine bL W U ⟨G,⟨W,ar.of_eq<|congrArg SV.s<|by simp[bz,hn]⟩,U⟩
 have u:((aw (bz s):Nat):Int).toNat=aw (bz s):=E;have n:(((aw (bz s):Nat):Int)+1).toNat=aw (bz s)+1:=E;refine cx 2 [(0,.s s),(3,.s<|bz s),(4,.i<|aw<|bz s)] (iw s=true) ?_ λf=>?_
 ·refine bP W W (j9 (bz s) E) W<|r1 W (by simp only[bo,and_true];omega) ?_;refine cl W (by rw[u];rfl) (oH ((bz s).take<|aw<|bz s)<|by simp;omega) W ?_;refine r0 W<|iN 26 W ?_ ?_<;>intro h
  ·have f:iw s=false:=by unfold iw;simp at h;simp[h]
   refine bK W W<|bR ?_;unfold aL;rw[f];rfl
  have l:fY ((bz s).take<|aw<|bz s)=true:=by simpa using h
  have z:=(ny l).2;have y:0<s.length:=by simp at z;omega
  refine r1 W (by simp only[bo,and_true];omega) ?_;refine aC 30 W ?_ ?_<;>intro a
  ·have hn:isNeg s=true:=by unfold isNeg;grind
   refine r1 W (by simp only[bo,and_true];omega) ?_;refine gb W ?_ ?_<;>intro b
   ·rw[u]at b;have b:(bz s).take (aw<|bz s)=[48]:=b;have f:iw s=false:=by unfold iw;simp_all
    refine bK W W<|bR ?_;unfold aL;rw[f];rfl
   rw[u]at b;have b:¬(bz s).take (aw<|bz s)=[48]:=b;refine r0 W<|gm (by unfold iw;simp_all)
  have hn:isNeg s=false:=by unfold isNeg;grind
  refine r0 W<|gm (by unfold iw;rw[hn,l];rfl)
 have e:aL s=(if jB s then(if 600<aw (bz s)\/aw (bz s)+601<(bz s).length then 4 else if oY s then 0 else 1)else 1):=by unfold aL;rw[f];rfl
 have p:∀k,((bz s).drop k).length<=s.length:=λk=>by simp;omega
 have o:∀k,((bz s).take k).length<=s.length:=λk=>by simp;omega
 refine cx 1 [(0,.s s),(3,.s<|bz s),(4,.i<|aw<|bz s)] (jB s=true) ?_ λr=>?_
 ·refine bJ W 41 W ?_ ?_<;>intro h
  ·have j:aw (bz s)<(bz s).length:=E;have B:jB s=(fY ((bz s).drop<|aw (bz s)+1)&& !decide ((bz s).drop (aw (bz s)+1)=[48])&& !decide ((bz s).drop (aw (bz s)+1)=[49])):=by unfold jB;simp_all
   have c:jB s=false->(1:Int)=aL s:=by grind
   have m:(List.take (bz s).length<|bz s)=bz s:=afA;refine r1 W (by simp only[bo,and_true];omega) ?_;refine cl W (by rw[n,m];rfl) (oH ((bz s).drop<|aw (bz s)+1)<|by grind) W ?_;refine r0 W<|iN 48 W ?_ ?_<;>intro g
   ·refine bK W W<|ar.of_eq<|congrArg SV.i<|c eW
   have g:fY ((bz s).drop<|aw (bz s)+1)=true:=by simpa using g
   refine r1 W (by simp only[bo,and_true];omega) ?_;refine aC 55 W ?_ ?_<;>intro a
   ·rw[n,m]at a;have a:(bz s).drop (aw (bz s)+1)=[48]:=a;refine bK W W<|ar.of_eq<|congrArg SV.i<|c<|by grind
   rw[n,m]at a;have a:¬(bz s).drop (aw (bz s)+1)=[48]:=a;refine r1 W (by simp only[bo,and_true];omega) ?_;refine gb W ?_ ?_<;>intro b
   ·rw[n,m]at b;have b:(bz s).drop (aw (bz s)+1)=[49]:=b;refine bK W W<|ar.of_eq<|congrArg SV.i<|c<|by grind
   rw[n,m]at b;have b:¬(bz s).drop (aw (bz s)+1)=[49]:=b;refine r0 W<|gm eW
  have j:¬aw (bz s)<(bz s).length:=E;refine r0 W<|gm (by unfold jB;simp_all)
 rw[r]at e;refine cx 1 [(3,.s<|bz s),(4,.i<|aw<|bz s)] (¬(600<aw (bz s)\/aw (bz s)+601<(bz s).length)) ?_ λC=>?_
 ·have c:(600<aw (bz s)\/aw (bz s)+601<(bz s).length)->(4:Int)=aL s:=eW;refine bJ W 65 W ?_ ?_<;>intro h
  ·refine bK W W<|ar.of_eq<|congrArg SV.i<|c E
  refine r1 W (by simp only[bo,and_true,len]<;>omega) ?_;refine gb W ?_ ?_<;>intro a
  ·refine bK W W<|ar.of_eq<|congrArg SV.i<|c E
  refine r0 W<|gm E
 rw[if_pos W,if_neg C]at e;refine bQ W W ?_ ?_<;>intro h
 ·have j:aw (bz s)<(bz s).length:=E;have hu:dh ((bz s).take<|aw<|bz s):=by
   unfold iw at f;exact(ny<|by simp at f;exact f.1).1
  have v:dh ((bz s).drop<|aw (bz s)+1):=by unfold jB at r;rw[decide_eq_true j]at r;exact(ny eW).1
  have D:oY s=decide (Nat.gcd (cJ<|(bz s).take<|aw<|bz s) (cJ<|(bz s).drop<|aw (bz s)+1)=1):=by unfold oY;simp_all
  have d:∀t:hO,dh t->t.length<=600->(ae<|cJ t).length<2^36:=by intro t g a;have:=Dq g;omega
  refine bP W W (F6 (bz s) j hu v E) W<|bP W W (wV (cJ<|(bz s).take<|aw<|bz s) (cJ<|(bz s).drop<|aw (bz s)+1) (d _ hu eW)<|d _ v<|by grind) W ?_;rw[D]at e;have w:=zU (q:=Nat.gcd (cJ<|(bz s).take<|aw<|bz s)<|cJ<|(bz s).drop<|aw (bz s)+1);refine bJ W 90 W ?_ ?_<;>intro g
  ·refine bK W W<|bR ?_
   grind
  refine r1 W ba<|gb W ?_ ?_<;>intro a
  ·refine bK W W<|bR ?_;simp_all
  refine bK W W<|bR ?_
  grind
 have j:¬aw (bz s)<(bz s).length:=E;refine bK W W<|bR ?_;rw[e];unfold oY;simp_all
end
end Go.Ai
