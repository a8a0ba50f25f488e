/- ScaleRanges holds of the program, under no condition. -/
import Derived.Test.YtacjimehcbbkbaaGreatDoorRZAG
import Derived.Deep.Slices
import Derived.ChangeArms
import Derived.ChangeStays
import Derived.ChangeBook
import Derived.Shelf.Strconv.Itoa4
import Derived.Ground.NamesProg
import Derived.Lib.ItoaMem
import Derived.Shelf.Spec.BitsCarry
import Derived.Lib.Mul64
set_option linter.all false
set_option maxRecDepth 100000
set_option maxHeartbeats 0
noncomputable section
namespace Go.Ai
open Go.Proofs Go.RowKit Go.Proofs.Tryz
abbrev jj(κ:Type):=L<|κ×SV
section
variable{κ:Type}[Mk κ]
def pr(k:κ):jj κ->Q SV
 |[]=>none
 |(a,x)::b=>match Mk.eq k a with
  |true=>some x
  |false=>pr k b
def B7(k:κ)(x:SV):jj κ->jj κ
 |[]=>[(k,x)]
 |(a,y)::b=>match Mk.eq k a with
  |true=>(k,x)::b
  |false=>(a,y)::B7 k x b
inductive uJ(w:World)(S:Nat->Prop):jj κ->xb κ->Prop
 |nil:uJ w S [] []
 |cons {k:κ} {x:SV} {v:Value} {es:jj κ} {vs:xb κ}:Rel w S x.den v []->uJ w S es vs->uJ w S ((k,x)::es) ((k,v)::vs)
section
variable{w w':World}{S S':Nat->Prop}
def uJ.mono(g:∀b,S b->w'.heap[b]?=w.heap[b]?)(f:∀b,S b->S' b){c:jj κ}{a:xb κ}(h:uJ w S c a):uJ w' S' c a:=by
 induction h with
 |nil=>exact .nil
 |cons h _ d=>exact .cons (Rel.mono f _<|Rel.frame _ h λb e=>g b<|e.resolve_right I) d
def uJ.get{k:κ}{b:jj κ}{a:xb κ}(h:uJ w S b a):(pr k b=none/\Af k a=none)\/∃x v,pr k b=some x/\Af k a=some v/\Rel w S x.den v []:=by
 induction h with
 |nil=>exact .inl G
 |@cons c x v b a h _ d=>
  unfold pr Af;cases Mk.eq k c with
  |true=>simp_all
  |false=>exact d
def uJ.put{k:κ}{x:SV}{v:Value}(c:Rel w S x.den v []){b:jj κ}{a:xb κ}(h:uJ w S b a):uJ w S (B7 k x b) (xI k v a):=by
 induction h with
 |nil=>exact .cons c .nil
 |@cons d y u b a h f e=>
  unfold B7 xI;cases Mk.eq k d with
  |true=>exact .cons c f
  |false=>exact .cons h e
structure FG(w:World)(S:Nat->Prop)(es:jj κ)(ms:Array MapEntry)(c:Nat):Prop where
 afS:∃vs:xb κ,ms.toList.map (λe=>(e.key,e.val))=vs.map (λq=>(Mk.v q.1,q.2))/\uJ w S es vs
 born:∀e∈ms.toList,e.born<c
 one:(ms.toList.map (·.born)).Nodup
def FG.mono(g:∀b,S b->w'.heap[b]?=w.heap[b]?)(f:∀b,S b->S' b){d:jj κ}{a:Array MapEntry}{c:Nat}(h:FG w S d a c):FG w' S' d a c:=by obtain⟨⟨e,k1,k2⟩,k3,k4⟩:=h;exact⟨⟨e,k1,k2.mono g f⟩,k3,k4⟩
end
def YY(d:jj κ)(w:World)(S:Nat->Prop)(y:Value):Prop:=∃b a c,y=.map (some b)/\w.heap[b]?=some (.map a c)/\FG w S d a c
abbrev SV.mx(a:jj κ):SV:=.ob<|YY a
section
variable{w:World}{S:Nat->Prop}{P:Program}{t key elem:TypeId}
def UQ{f:jj κ}{b:Nat}{a:Array MapEntry}{c:Nat}(d:w.heap[b]?=some (.map a c))(h:FG w S f a c):Rel w S (SV.mx f).den (.map<|some b) [b]:=⟨W,W,λw' S' e g=>⟨b,a,c,W,(e b<|.inr I).trans d,h.mono (λb d=>e b<|.inl d) g⟩⟩
def lV(g:P.underlying t=some (.map key elem))(f:P.underlying key=some (Mk.d κ)){n:jj κ}{k:κ}{x:SV}(h:pr k n=some x)(ok:Bool):Looks P t ok (YY n) (.v<|Mk.v k) (if ok then SV.bU [x,.b true]else x).den:=by
 rintro w S _ u⟨b,y,c,rfl,m,⟨s,hm,o⟩,-,-⟩p;obtain⟨_,rfl,_⟩:=p;rcases o.get (k:=k)with⟨e,-⟩|⟨r,v,e,q,a⟩;rw[h]at e;cases e;rw[h]at e;cases e;obtain⟨j,e,-⟩:=sH (i:=0) hm q;cases ok with
 |true=>refine⟨.tuple #[v,.bool true],?_,?_⟩;simp[Instr.lookup,run_underlying g,MapKept.run_getObj_map m,MapKept.run_checkKey f (k:=Mk.v k)<|Mk.key k,MapKept.run_findKey f e];simp;exact⟨_,W,v,_,[],[],W,W,I,a,.bool true,_,[],[],W,W,I,lO,W,W⟩
 |false=>refine⟨v,?_,a⟩;simp[Instr.lookup,run_underlying g,MapKept.run_getObj_map m,MapKept.run_checkKey f (k:=Mk.v k)<|Mk.key k,MapKept.run_findKey f e]
def uf(j:P.underlying t=some (.map key elem))(f:P.underlying key=some (Mk.d κ)){n:jj κ}{k:κ}{x:SV}{z:Value}{i:TypeInfo}(s:pr k n=none)(hi:P.info? elem=some i)(p:i.zero=some z)(g:∀w S,Rel w S x.den z [])(ok:Bool):Looks P t ok (YY n) (.v<|Mk.v k) (if ok then SV.bU [x,.b false]else x).den:=by
 rintro w S _ A⟨b,B,c,rfl,m,⟨o,hm,q⟩,-,-⟩r;obtain⟨_,rfl,_⟩:=r;have u:Af k o=none:=by rcases q.get (k:=k)with⟨-,h⟩|⟨y,v,e,-⟩;exact h;rw[s]at e;cases e
 have e:=sI (i:=0) hm u;have a:(zeroValue elem).run P w=.ok z w:=by simp[zeroValue,typeInfo,hi,p]
 cases ok with
 |true=>refine⟨.tuple #[z,.bool false],?_,?_⟩;simp[Instr.lookup,run_underlying j,MapKept.run_getObj_map m,MapKept.run_checkKey f (k:=Mk.v k)<|Mk.key k,MapKept.run_findKey f e,a];simp;exact⟨_,W,z,_,[],[],W,W,I,g w S,.bool false,_,[],[],W,W,I,lO,W,W⟩
 |false=>refine⟨z,?_,g w S⟩;simp[Instr.lookup,run_underlying j,MapKept.run_getObj_map m,MapKept.run_checkKey f (k:=Mk.v k)<|Mk.key k,MapKept.run_findKey f e,a]
def sw{o:Oper}(i:o.op=.makeMap t none):ji P o [] [] [] (.mx (κ:=κ) []):=by
 refine mN W W I ?_;intro w S n f hc m g;have a:(Instr.makeMap t none).run P w=.ok (.map<|some w.heap.size) (w.alloc<|.map #[] 0):=by simp[Instr.makeMap]
 have e:=MapKept.heap_alloc w<|.map #[] 0;have c:(w.alloc<|.map #[] 0).heap.size=w.heap.size+1:=by show(w.heap.push _).size=_;simp
 refine⟨.value<|.map<|some w.heap.size,.map<|some w.heap.size,w.alloc<|.map #[] 0,by simp[execOp,i,a],.inl W,S,[w.heap.size],⟨W,W,W,E,λk j=>e.2 k j⟩,λb h=>h,λb h=>.inl h,λb h=>by rw[c];have:=f b h;omega,?_,I,?_⟩;exact UQ e.1 ⟨⟨[],W,.nil⟩,I,I⟩;intro b d;simp at d;subst d;exact⟨.refl,E,λh=>by have:=f _ h;omega⟩
def ji.at{o:Oper}{X X' y y' r:SV}{q:Path}{xs:List SV}(hl:xs.length<1000000)(M2:nW xs=true)(hp:X.plain=true)(S0:X'.plain=true)(hy:y.plain=true)(M1:y'.plain=true)(hr:r.plain=true)
 (hg:bH X.den q=some y.den)(hs:ff X.den q y'.den=some X'.den)(H3:∀(w:World)(S:Nat->Prop)(v:Value)(F:List Nat),Rel w S y.den v F->v.oneCell'=true)
 (h:ji P o [y] (.bw 1000000 0 0 []::xs) [y'] r):ji P o [X] (.bw 1000000 0 0 q::xs) [X'] r:=by
 intro w S V Y F P0 hc;have G2:∀p,(aB<|.bw 1000000 0 0 p::xs).length<=1000000:=λp=>by rw[bP];simp[abo];omega
 have G1:both (aB<|.bw 1000000 0 0 q::xs) (aB [X]) 1000000=⟨X.den,0,0⟩:=ew (G2 q) 0;have G0:both (aB<|.bw 1000000 0 0 []::xs) (aB [y]) 1000000=⟨y.den,0,0⟩:=ew (G2 []) 0;have hd:∀(p:Path)(Z:SV)(i:Nat),1000000<i->both (aB<|.bw 1000000 0 0 p::xs) (aB [Z]) i=⟨.dead,0,0⟩:=λp Z i hi=>by obtain⟨k,rfl⟩:∃k,i=1000000+(k+1):=⟨i-1000001,E⟩;rw[ew<|G2 p,aex<|by simp[aB]]
 have H1:∀{j:Nat}{x:SV},xs[j]?=some x->x.plain=true:=by
  have:∀{l:List SV},nW l=true->∀{j:Nat}{x:SV},l[j]?=some x->x.plain=true:=by
   intro l
   induction l with
   |nil=>intro _ j x h;cases h
   |cons z l ih=>
    intro h j x hx;simp[nW]at h;split at h;rename_i hz;cases j with
    |zero=>cases hx;exact hz
    |succ j=>exact ih h (by simpa using hx)
    ·cases h
  exactλ{_ _}h=>this M2 h
 have F0:=hc.rel 1000000;have hT:a8 V Y 1000000=V.v 1000000:=W;rw[an.aC<|by rw[G1,cU];exact hp,G1,hT]at F0;obtain⟨L,z,A,F1,B,k1,k2,k3,k4,kw,k6⟩:=Rel.iy q (L:=.val<|V.v 1000000) F0 W hg hs (hc.nodup _) (λb c=>(hc.own 1000000 b c).2.2) (by simp[Loc.fu]);have L0:=H3 _ _ _ _ k3;have h0:=hc.rel 0;have V0:both (aB<|.bw 1000000 0 0 q::xs) (aB [X]) 0=⟨.bw 1000000 0 0 q,0,0⟩:=fe E;have G6:(Y.getD 0 undef)=z/\F 0=[]:=by
  unfold an at h0;rw[V0]at h0;simp only[G1]at h0;obtain⟨s,-,-,n⟩:=h0;obtain⟨L',q1,q2,q3⟩:=n U (.inr U) λ_=>⟨_,hg⟩;rw[hT,k1]at q1;cases q1;refine⟨?_,s⟩;show a8 V Y 0=z;cases L with
  |val u=>exact q2.trans k2.symm
  |addr ad=>exact Mf q2 k2 (cells_one<|q3 ad W)<|cells_one L0
 have hN:=hc.nodup 1000000;rw[k4,acH,acH]at hN;have B0:∀b,b∈F1->b∈F 1000000:=λb c=>by rw[k4];simp[c]
 have D:∀b,b∈A\/b∈B->b∈F 1000000:=λb c=>by rw[k4];grind
 obtain⟨J,A0⟩:∃J:Hid,J={V with v:=iy V.v 1000000 z,g:=λb=>b∈F1\/∃i,i≠1000000/\b∈F i}:=⟨_,W⟩;have G3:J.v 1000000=z:=by rw[A0];show iy V.v 1000000 z 1000000=z;rw[aI]
 have E1:∀b,J.g b->V.g b/\b<w.heap.size/\¬S b/\b∉A/\b∉B:=by rw[A0];rintro b(c|⟨i,hi,c⟩);have:=hc.own _ b<|B0 b c;exact⟨this.1,this.2.1,this.2.2,by grind,by grind⟩;have:=hc.own _ b c;exact⟨this.1,this.2.1,this.2.2,λh=>hc.di i 1000000 hi b c<|D b<|.inl h,λh=>hc.di i 1000000 hi b c<|D b<|.inr h⟩
 have G5:∀i,i≠1000000->a8 J Y i=a8 V Y i:=λi hi=>by unfold a8;split;rfl;rw[A0];exact ar _ _ hi
 have S4:aU S J.g (both (aB<|.bw 1000000 0 0 []::xs)<|aB [y]) (a8 J Y) w (λi=>if i=1000000 then F1 else F i):=by
  refine⟨λi=>?_,λi=>?_,λi j O b c=>?_,λi b c=>?_,hc.shr⟩;by_cases hi:i=1000000;subst hi;rw[an.aC<|by rw[G0,cU];exact hy,G0,aas W];have:a8 J Y 1000000=z:=by exact G3
  rw[this];exact k3;rw[aaq hi];by_cases E2:i=0;subst E2;unfold an;rw[show both (aB<|.bw 1000000 0 0 []::xs) (aB [y]) 0=⟨.bw 1000000 0 0 [],0,0⟩from fe E];simp only[G0];refine⟨G6.2,aaU _,aaU _,λ_ _ _=>⟨.val<|a8 J Y 1000000,W,?_,I⟩⟩;show a8 J Y 0=a8 J Y 1000000;rw[G5 0 E];exact G6.1.trans G3.symm;have hr:=hc.rel i;by_cases H4:i<1000000;have s:=fe (args:=aB<|.bw 1000000 0 0 []::xs) (H:=aB [y]) H4;have n:=fe (args:=aB<|.bw 1000000 0 0 q::xs) (H:=aB [X]) H4;obtain⟨j,rfl⟩:∃j,i=j+1:=⟨i-1,E⟩;have e3:both (aB<|.bw 1000000 0 0 []::xs) (aB [y]) (j+1)=both (aB<|.bw 1000000 0 0 q::xs) (aB [X]) (j+1):=by rw[s,n];rfl
  have H2:(both (aB<|.bw 1000000 0 0 q::xs) (aB [X])<|j+1).av.plain=true:=by
   rw[n];show(match(aB xs)[j]?with|some x=>(⟨x,0,0⟩:Sl)|none=>⟨.dead,0,0⟩).av.plain=true;rw[jm];cases hx:xs[j]?with
   |none=>rfl
   |some x=>show x.den.plain=true;rw[cU];exact H1 hx
  rw[an.aC H2]at hr;rw[an.aC<|by rw[e3];exact H2,e3,G5 _ hi];exact hr;have s:=hd q X i E;have n:=hd [] y i E;rw[an.aC<|by rw[s];rfl,s]at hr;rw[an.aC<|by rw[n];rfl,n];exact hr;split;exact hN.1.2.1;exact hc.nodup i;split at c;rename_i hi;rw[aaq λe=>O<|hi.trans e.symm];exactλf=>hc.di 1000000 j (λe=>O<|hi.trans e) b (B0 b c) f;rename_i hi;split;exactλf=>hc.di i 1000000 hi b c<|B0 b f;exact hc.di i j O b c;split at c;have:=hc.own 1000000 b<|B0 b c;exact⟨by rw[A0];exact .inl c,this.2⟩;rename_i hi;have:=hc.own i b c;exact⟨by rw[A0];exact .inr ⟨i,hi,c⟩,this.2⟩
 have H5:=h w S J Y _ (by simpa[aB]using P0) S4;refine Ext.mono (λv w' hq=>?_) H5;obtain⟨S',F2,T,s1,s2,m⟩:=hq;have C:∀b,b∈A\/b∈B->¬cK J w b:=λb c hm=>by have:=(hc.own 1000000 b<|D b c).2.1;rcases hm with h|h;omega;have:=(E1 b h).2.2.2;grind
 have K:∀b,b<w.heap.size->¬J.g b->w'.heap[b]?=w.heap[b]?:=λb h1 h2=>T.block b h1 h2;have G4:∀b,b∈A\/b∈B->w'.heap[b]?=w.heap[b]?:=λb c=>K b (hc.own 1000000 b<|D b c).2.1 λh=>C b c<|.inr h;have F3:=m.rel 1000000;have K0:both [r.den] (aB [y']) 1000000=⟨y'.den,0,0⟩:=ew I 0;rw[an.aC<|by rw[K0,cU];exact M1,K0]at F3;have V1:a8 J [v] 1000000=z:=G3;rw[V1]at F3;have F4:∀b,L.fu=some b->b∈A:=by
  intro b c;cases L with
  |val u=>cases c
  |addr ad=>cases c;rcases kw with h|⟨a,h,-⟩;exact h;cases h
 obtain⟨z',j1,-,-,j4⟩:=k6 w' S' z (F2 1000000) s1 W (λh=>h) (λb c _=>by
  rcases c with c|c|c|c;exact K b (hc.shr b c) λh=>(E1 b h).2.2.1 c;exact G4 b<|.inl c;exact G4 b<|.inr c;cases c) (by
  cases L with
  |val u=>rfl
  |addr ad=>have P1:w'.heap[ad.block]?=w.heap[ad.block]?:=G4 _<|.inl<|F4 _ W;have:=oK (w:=w) k2;intro cs fz S2;obtain⟨V2,q1,q2⟩:=this cs fz S2;exact⟨V2,(lP P1).trans q1,q2⟩) F3
 simp[vS]at j4;subst j4;have d:∀i b,b∈F2 i->cK J w b/\b<w'.heap.size/\¬S' b:=λi b c=>m.own i b c;have M:∀b,cK J w b->cK V w b:=λb c=>c.imp id λh=>(E1 b h).1;have H6:both [r.den] (aB [X']) 1000000=⟨X'.den,0,0⟩:=ew I 0;refine⟨S',λi=>if i=1000000 then A++F2 1000000++B else F2 i,⟨T.os,T.tape,T.output,T.size,λk hk S1=>K k hk λh=>S1 (E1 k h).1⟩,s1,λb c=>(s2 b c).imp id<|M b,⟨λi=>?_,λi=>?_,λi j O b c=>?_,λi b c=>?_,m.shr⟩⟩;by_cases hi:i=1000000;subst hi;rw[an.aC<|by rw[H6,cU];exact S0,H6,aas W];exact j1;rw[aaq hi];have:=m.rel i;have s:=jW r.den y'.den i;have n:=jW r.den X'.den i;rw[aaq hi]at s n;by_cases E2:i=0;subst E2;rw[aas W]at s n;have s:(both [r.den] (aB [y']) 0).av=r.den:=s;have n:(both [r.den] (aB [X']) 0).av=r.den:=n;rw[an.aC<|by rw[s,cU];exact hr,s]at this;rw[an.aC<|by rw[n,cU];exact hr,n];exact this;rw[aaq E2]at s n;have s:(both [r.den] (aB [y']) i).av=.dead:=s;have n:(both [r.den] (aB [X']) i).av=.dead:=n;rw[an.aC<|by rw[s];rfl,s]at this;rw[an.aC<|by rw[n];rfl,n];exact this;split;rw[acH,acH];refine⟨⟨hN.1.1,m.nodup _,λa ha b c e=>?_⟩,hN.2.1,λa ha b c e=>?_⟩;subst e;exact C a (.inl ha) (d _ a c).1;subst e;rcases ac6.1 ha with ha|ha;exact hN.2.2 a (by simp[ha]) a c W;exact C a (.inr c) (d _ a ha).1;exact m.nodup i;split at c;rename_i hi;rw[aaq λe=>O<|hi.trans e.symm];intro f;rcases ac6.1 c with c|c;rcases ac6.1 c with c|c;exact C b (.inl c) (d _ b f).1;exact m.di 1000000 j (λe=>O<|hi.trans e) b c f;exact C b (.inr c) (d _ b f).1;rename_i hi;split;intro f;rcases ac6.1 f with f|f;rcases ac6.1 f with f|f;exact C b (.inl f) (d _ b c).1;exact m.di i 1000000 hi b c f;exact C b (.inr f) (d _ b c).1;exact m.di i j O b c;have K2:b∈A\/b∈B->cK V w b/\b<w'.heap.size/\¬S' b:=λc=>by have ho:=hc.own 1000000 b<|D b c;have:=T.size;refine⟨.inr ho.1,E,λh=>?_⟩;rcases s2 b h with h|h;exact ho.2.2 h;exact C b c h
 split at c;rcases ac6.1 c with c|c;rcases ac6.1 c with c|c;exact K2<|.inl c;have:=d _ b c;exact⟨M b this.1,this.2⟩;exact K2<|.inr c;have:=d _ b c;exact⟨M b this.1,this.2⟩
def VG{o:Oper}{a:jj κ}{x:Operand}{f:Array TypeId}(j:o.op=.call ⟨.builtin .len,#[x],f⟩)(g:f.toList=[t])(v:P.underlying t=some (.map key elem)):Obs P o (YY a) (SV.i a.length).den:=by
 rintro w S _ n⟨b,p,c,rfl,y,⟨e,hm,u⟩,-,-⟩r;have s:n x=.map (some b):=by
  have:o.op.operands.toList=[x]:=by rw[j];rfl
  simp_all
 have d:f=#[t]:=afN (by simpa using g);have hl:p.size=a.length:=by
  have m:=aaf List.length hm;simp at m;have z:∀{a:jj κ}{e:xb κ},uJ w S a e->e.length=a.length:=λh=>by
   induction h with
   |nil=>rfl
   |cons _ _ q=>simp[q]
  rw[m,z u]
 refine⟨.int .i64 a.length,?_,W,W,W⟩;simp[execOp,j,Go.resolve,s,invoke,builtin,d,Builtin.len_,run_underlying v,goInt,MapKept.run_getObj_map y,hl]
def O3{V:Hid}{c:L Value}{F:Nat->L Nat}{args:L AV}{J:World->(Nat->Prop)->Value->Prop}(d:args.length<=1000000)(hc:aU S V.g (both args [.ob J]) (a8 V c) w F):
 F 1000000=qp w (V.v 1000000)/\J w S (V.v 1000000):=by
 have a:=hc.rel 1000000;have b:=ew (args:=args) (H:=[.ob J]) d 0;rw[an.aC<|by rw[b];rfl,b]at a;exact⟨a.2.1,a.2.2 w S (λ_ _=>rfl) λ_ h=>h⟩
def YX{V:Hid}{q:L Value}{F:Nat->L Nat}{args:L AV}{J J':World->(Nat->Prop)->Value->Prop}{b:Nat}{o o':Obj}{v:Value}(hc:aU S V.g (both args [.ob J]) (a8 V q) w F)
 (r:V.v 1000000=.map (some b))(d:w.heap[b]?=some o)(u:F 1000000=[b])(B:Rel {w with heap:=w.heap.setIfInBounds b o'} S (.ob J') (.map<|some b) [b]):
 ∃S' y,sS V w w {w with heap:=w.heap.setIfInBounds b o'}/\(∀b,S b->S' b)/\(∀b,S' b->S b\/cK V w b)/\aU S' (cK V w) (both [.dead] [.ob J']) (a8 V [v]) {w with heap:=w.heap.setIfInBounds b o'} y:=by
 have a:=hc.own 1000000 b (by rw[u];simp);have m:=MapKept.heap_set (o':=o') d;have f:(w.heap.setIfInBounds b o').size=w.heap.size:=I;refine⟨S,λi=>if i=1000000 then[b]else[],⟨W,W,W,by show _<=(w.heap.setIfInBounds b o').size;omega,λk z s=>m.2 k λe=>by subst e;exact s a.1⟩,λ_ h=>h,λ_ h=>.inl h,
  ⟨λi=>?_,λi=>?_,λi j n c d=>?_,λi c d=>?_,λc h=>by show c<(w.heap.setIfInBounds b o').size;rw[f];exact hc.shr c h⟩⟩
 rw[an.aC<|by rw[jW];split;rfl;split<;>rfl,jW];by_cases x:i=0;subst x;simp[Rel];by_cases p:i=1000000;subst p;have A:a8 V [v] 1000000=.map (some b):=by unfold a8;rw[aaq E,r]
 simp_all;simp[p,Rel];split<;>simp;split at d;rename_i hi;rw[aaq λe=>n E];simp;cases d;split at d;simp at d;subst d;exact⟨.inr a.1,by show _<(w.heap.setIfInBounds c o').size;rw[f];exact a.2.1,a.2.2⟩;cases d
def rY{o:Oper}{Z:jj κ}{k:κ}{x:SV}{a b c:Operand}(s:o.op=.insert t a b c\/o.op=.mapUpdate t a b c)(hd:o.dst=none)(ht:P.underlying t=some (.map key elem))(X:P.underlying key=some (Mk.d κ))(hx:x.aK=true)(hp:x.plain=true):
 ji P o [.mx Z] [.bw 1000000 0 0 [],Mk.sv k,x] [.mx<|B7 k x Z] .dead:=by
 intro w S V vs F hl hc O D;obtain⟨hF,m,B,cl,hv,hm,⟨us,y,A0⟩,A,r⟩:=O3 (by simp[aB]) hc;rw[hv]at hF;obtain⟨x0,T,g,rfl⟩:∃x0 T g,vs=[x0,T,g]:=by
  match vs,hl with
  |[x0,T,g],_=>simp_all
 have e0:=(mj (i:=0) E hc W).trans hv;have e1:=We (args:=[.bw 1000000 0 0 [],Mk.sv k,x]) (H:=[.mx Z]) (i:=1) E hc W<|Mk.val k;have e2:Rel w S x.den g []:=by have C:=hc.rel 2;have hb:=fe (args:=aB [.bw 1000000 0 0 [],Mk.sv k,x]) (H:=aB [.mx Z]) (i:=2) E;rw[an.aC<|by rw[hb];show x.den.plain=true;rw[cU];exact hp,hb]at C;have C:Rel w S x.den (a8 V [x0,T,g] 2) (F 2):=C;rw[Rel.aK _ C<|by rw[cD];exact hx]at C;exact C
 have K:O a=.map (some m)/\O b=Mk.v k/\O c=g:=by
  have:o.op.operands.toList=[a,b,c]:=by rcases s with s|s<;>rw[s]<;>rfl
  rw[this]at D;simp[aag]at D;simp_all
 have key:∃f n,f.toList.map (λe:MapEntry=>(e.key,e.val))=(xI k g us).map (λq=>(Mk.v q.1,q.2))/\(∀e∈f.toList,e.born<n)/\(f.toList.map (·.born)).Nodup/\
  (Instr.mapUpdate t (.map<|some m) (Mk.v k) g).run P w=.ok () {w with heap:=w.heap.setIfInBounds m<|.map f n}:=by
  cases hg:Af k us with
  |none=>have Y:=sI (i:=0) y hg;refine⟨B.push {key:=Mk.v k,val:=g,born:=cl},cl+1,by rw[He hg];simp[y],?_,?_,?_⟩;intro e he;simp at he;rcases he with he|rfl;have:=A e (by simpa using he);omega;exact agS _;simp[Array.toList_push,acB,acK,afu];refine acH.2 ⟨r,I,λi hi j hj e=>?_⟩;simp at hj;obtain⟨q,hq,rfl⟩:=abS.1 hi;have:=A q hq;omega;simp[Instr.mapUpdate,run_underlying ht,MapKept.run_getObj_map hm,MapKept.run_checkKey X (k:=Mk.v k)<|Mk.key k,MapKept.run_findKey X Y,MapKept.run_setObj_map _ hm]
  |some u=>
   obtain⟨j,Y,e,h2,h3,h4⟩:=sH (i:=0) y hg;have hj:B[j]?=some e:=by simpa using h2
   have M:(B.modify j λe=>{e with key:=Mk.v k,val:=g}).toList.map (·.born)=B.toList.map (·.born):=by rw[Array.toList_modify];apply agd I;intro i Y h2;simp[List.getElem_modify];split<;>rfl
   refine⟨B.modify j λe=>{e with key:=Mk.v k,val:=g},cl,by rw[<-h4 g];simp,λe he=>?_,by rw[M];exact r,?_⟩;have:e.born∈B.toList.map (·.born):=by rw[<-M];exact agb he
   obtain⟨q,hq,B0⟩:=abS.1 this;have:=A q hq;omega;simp[Instr.mapUpdate,run_underlying ht,MapKept.run_getObj_map hm,MapKept.run_checkKey X (k:=Mk.v k)<|Mk.key k,MapKept.run_findKey X Y,hj,h3,MapKept.run_keyThatStays (d:=Mk.d κ) (k:=Mk.v k)<|Mk.key k,MapKept.run_setObj_map _ hm]
 obtain⟨f,n,k1,k2,k3,J⟩:=key;have hx:(execOp O o).run P w=.ok .skip {w with heap:=w.heap.setIfInBounds m<|.map f n}:=by rcases s with s|s<;>simp[execOp,s,K,J]
 have p:=hc.own 1000000 m (by rw[hF];show m∈[m];simp);have v:=MapKept.heap_set (o':=.map f n) hm;refine⟨_,.nilIface,_,hx,.inr ⟨W,hd⟩,YX hc hv hm hF<|UQ v.1 ⟨⟨_,k1,(A0.mono (λc z=>v.2 c λe=>p.2.2 (e▸z)) λ_ h=>h).put<|Rel.frame _ e2 λc z=>v.2 c λe=>p.2.2 (e▸z.resolve_right I)⟩,k2,k3⟩⟩
end
def QC(b:jj κ)(done:L Nat)(w:World)(S:Nat->Prop)(y:Value):Prop:=∃c m a cl seen,y=.pointer (some ⟨c,0,none⟩)/\w.heap[c]?=some (.mapIter (some m) cl seen cl)/\w.heap[m]?=some (.map a cl)/\FG w S b a cl/\
 seen.toList=done.map (λi=>(a.toList.map (·.born)).getD i 0)/\done.Nodup/\∀i∈done,i<b.length
abbrev SV.it(a:jj κ)(done:L Nat):SV:=.ob<|QC a done
section
variable{w:World}{S:Nat->Prop}{P:Program}{t key elem:TypeId}
def IT{f:jj κ}{done:L Nat}{c m:Nat}{a:Array MapEntry}{cl:Nat}{seen:Array Nat}(hc:w.heap[c]?=some (.mapIter (some m) cl seen cl))(hm:w.heap[m]?=some (.map a cl))(h:FG w S f a cl)
 (p:seen.toList=done.map (λi=>(a.toList.map (·.born)).getD i 0))(o:done.Nodup)(n:∀i∈done,i<f.length):Rel w S (SV.it f done).den (.pointer<|some ⟨c,0,none⟩) [c,m]:=by
 have e:qp w (.pointer<|some ⟨c,0,none⟩)=[c,m]:=by show(match w.heap[c]?with|some (.mapIter (some m) _ _ _)=>[c,m]|_=>[c])=_;rw[hc]
 exact⟨W,e.symm,λw' S' d g=>⟨c,m,a,cl,seen,W,(d c<|.inr I).trans hc,(d m<|.inr I).trans hm,h.mono (λb j=>d b<|.inl j) g,p,o,n⟩⟩
def UY{o:Oper}{v:jj κ}{a:Operand}(z:o.op=.range t a)(H:P.underlying t=some (.map key elem)):ji P o [.mx v] [.bw 1000000 0 0 []] [.dead] (.it v []):=by
 intro w S V x F hl hc D d;obtain⟨A,m,T,cl,y,hm,M⟩:=O3 (by simp[aB]) hc;rw[y]at A;obtain⟨x0,rfl⟩:∃x0,x=[x0]:=by
  match x,hl with
  |[x0],_=>exact⟨_,W⟩
 have O:=(mj (i:=0) E hc W).trans y;have n:D a=.map (some m):=by rw[show o.op.operands.toList=[a] by rw[z];rfl]at d;simp at d;exact d.trans O
 obtain⟨it,p⟩:∃it,it=Obj.mapIter (some m) cl #[] cl:=⟨_,W⟩;have g:(Instr.range t<|.map<|some m).run P w=.ok (.pointer<|some ⟨w.heap.size,0,none⟩) (w.alloc it):=by simp[Instr.range,run_underlying H,MapKept.run_getObj_map hm,p]
 have q:=MapKept.heap_alloc w it;have J:(w.alloc it).heap.size=w.heap.size+1:=by show(w.heap.push _).size=_;simp
 have b:=hc.own 1000000 m (by rw[A];show m∈[m];simp);have r:m<w.heap.size:=b.2.1;refine⟨.value<|.pointer<|some ⟨w.heap.size,0,none⟩,.pointer<|some ⟨w.heap.size,0,none⟩,w.alloc it,by simp[execOp,z,n,g],.inl W,S,λi=>if i=0 then[w.heap.size,m]else[],⟨W,W,W,E,λk K _=>q.2 k K⟩,λ_ h=>h,λ_ h=>.inl h,
  ⟨λi=>?_,λi=>?_,λi j s c f=>?_,λi c f=>?_,λc h=>by have:=hc.shr c h;omega⟩⟩
 change an _ _ (both [(SV.it v []).den] [AV.dead]) _ i _;rw[an.aC<|by rw[jW];split;rfl;split<;>rfl,jW];by_cases C:i=0;subst C;exact IT (by rw[q.1,p]) (by rw[q.2 m r];exact hm) (M.mono (λc u=>q.2 c<|hc.shr c u) λ_ h=>h) W I I;by_cases B:i=1000000;subst B;simp[Rel];simp[C,B,Rel];split;simp;omega;simp;split at f;rename_i hi;rw[aaq λe=>s E];simp;cases f;split at f;simp at f;rcases f with rfl|rfl;exact⟨.inl<|aaU _,E,λh=>by have:=hc.shr _ h;omega⟩;exact⟨.inr b.1,E,b.2.2⟩;cases f
def uJ.at{b:jj κ}{a:xb κ}(h:uJ w S b a){k:κ}{x:SV}:∀{i:Nat},b[i]?=some (k,x)->∃v,a[i]?=some (k,v)/\Rel w S x.den v []:=by
 induction h with
 |nil=>intro i h;cases h
 |@cons d y v b a h _ c=>
  intro i hi;cases i with
  |zero=>cases hi;simp_all
  |succ i=>simpa using c hi
def uJ.len{b:jj κ}{a:xb κ}(h:uJ w S b a):b.length=a.length:=by
 induction h with
 |nil=>rfl
 |cons _ _ c=>simp[c]
def FG.len{b:jj κ}{a:Array MapEntry}{c:Nat}(h:FG w S b a c):a.toList.length=b.length:=by obtain⟨⟨d,k1,k2⟩,-,-⟩:=h;have:=aaf List.length k1;rw[k2.len];simpa using this
def FG.at{d:jj κ}{b:Array MapEntry}{c:Nat}(h:FG w S d b c){k:κ}{x:SV}{i:Nat}(hi:d[i]?=some (k,x)):∃e,b.toList[i]?=some e/\e.key=Mk.v k/\Rel w S x.den e.val []:=by obtain⟨⟨j,k1,k2⟩,-,-⟩:=h;obtain⟨v,g,f⟩:=k2.at hi;have:=aaf (·[i]?) k1;simp only[afE,g]at this;obtain⟨e,he,a⟩:=aeT.1 this;simp at a;exact⟨e,he,a.1,by rw[a.2];exact f⟩
def ME{α:Type}(f:α->Nat):∀{l:L α}{i:Nat}{e:α},(l.map f).Nodup->l[i]?=some e->l.find? (λa=>f a==f e)=some e
 |[],i,e,_,h=>by cases h
 |a::l,0,e,_,h=>by cases h;simp
 |a::l,i+1,e,hn,h=>by
  rw[acK,ad2]at hn;have hm:=aha (by simpa using h);have b:(f a==f e)=false:=by simp;exactλh=>hn.1 (by rw[h];exact agb hm)
  rw[ahQ,b];exact ME f hn.2 h
def Ws{o:Oper}{q:jj κ}{done:L Nat}{i:Nat}{k:κ}{x:SV}{a:Operand}(A:o.op=.entry a)(hi:q[i]?=some (k,x)):ji P o [.it q<|done++[i]] [.bw 1000000 0 0 []] [.it q<|done++[i]] (.bU [Mk.sv k,x]):=by
 intro w S V y F hl hc H f;obtain⟨u,c,m,J,cl,seen,r,p,C,v,B,O,M⟩:=O3 (by simp[aB]) hc;have z:=IT p C v B O M;rw[r,show qp w (.pointer<|some ⟨c,0,none⟩)=[c,m]from z.2.1.symm]at u;obtain⟨x0,rfl⟩:∃x0,y=[x0]:=by
  match y,hl with
  |[x0],_=>exact⟨_,W⟩
 have T:=(mj (i:=0) E hc W).trans r;have n:H a=.pointer (some ⟨c,0,none⟩):=by rw[show o.op.operands.toList=[a] by rw[A];rfl]at f;simp at f;exact f.trans T
 obtain⟨e,k1,k2,k3⟩:=v.at hi;have d:seen.back?=some e.born:=by rw[<-Array.getLast?_toList,B,acB,acK,afu,List.getLast?_append];simp[k1]
 have K:J.find? (λa=>a.born==e.born)=some e:=by rw[<-Array.find?_toList];exact ME _ v.one k1
 have g1:(getObj c).run P w=.ok (.mapIter (some m) cl seen cl) w:=by simp[getObj,Sem.run,p]
 have g:(Instr.entry<|.pointer<|some ⟨c,0,none⟩).run P w=.ok (.tuple #[e.key,e.val]) w:=by simp[Instr.entry,g1,MapKept.run_getObj_map C,d,K]
 refine⟨.value<|.tuple #[e.key,e.val],.tuple #[e.key,e.val],w,by simp[execOp,A,n,g],.inl W,S,λi=>if i=1000000 then[c,m]else[],⟨W,W,W,aaU _,λ_ _ _=>rfl⟩,λ_ h=>h,λ_ h=>.inl h,
  ⟨λj=>?_,λj=>?_,λj X s b d=>?_,λj b d=>?_,hc.shr⟩⟩
 ·change an _ _ (both [(SV.bU [Mk.sv k,x]).den] [(SV.it q<|done++[i]).den]) _ j _;rw[an.aC<|by rw[jW];split;rfl;split<;>rfl,jW];by_cases D:j=0;subst D;exact⟨_,W,e.key,_,[],[],W,W,I,(by rw[Mk.den];exact⟨Mk.sc k,k2,W⟩),e.val,_,[],[],W,W,I,k3,W,W⟩;by_cases p:j=1000000;subst p;rw[aaq E,aas W,aas W,show a8 V [.tuple #[e.key,e.val]] 1000000=V.v 1000000 by unfold a8;rw[aaq E],r];exact z;simp[D,p,Rel]
 split;rw[<-u];exact hc.nodup _;simp;split at d;rename_i hi;rw[aaq λe=>s E];simp;cases d;split at d;rw[<-u]at d;have:=hc.own _ b d;exact⟨.inr this.1,this.2.1,this.2.2⟩;cases d
end
section
variable{w:World}{P:Program}
def Vl{c m cl:Nat}{b:Array MapEntry}{seen:Array Nat}(ty:TypeId)(q:w.heap[c]?=some (.mapIter (some m) cl seen cl))(v:w.heap[m]?=some (.map b cl))(f:∀e∈b.toList,e.born<cl):
 ((∀e∈b.toList,e.born∈seen.toList)/\(Instr.next (.pointer<|some ⟨c,0,none⟩) false ty).run P w=.ok (.tuple #[.bool false]) w)\/
 ∃e a,e∈b.toList/\e.born∉seen.toList/\(a=w\/a=w.drew)/\(Instr.next (.pointer<|some ⟨c,0,none⟩) false ty).run P w=.ok (.tuple #[.bool true,e.key,e.val]) {a with heap:=a.heap.setIfInBounds c<|.mapIter (some m) cl (seen.push e.born) cl}:=by
 have g1:∀w:World,w.heap[c]?=some (.mapIter (some m) cl seen cl)->(getObj c).run P w=.ok (.mapIter (some m) cl seen cl) w:=λw h=>by simp[getObj,Sem.run,h]
 have x:∀(w:World)(o:Obj),w.heap[c]?=some (.mapIter (some m) cl seen cl)->(setObj c o).run P w=.ok () {w with heap:=w.heap.setIfInBounds c o}:=λw o h=>by simp[setObj,Sem.run,h]
 have A:(!seen.isEmpty&& !b.isEmpty&&b.all λe=>decide (e.born>=cl))=false:=by
  cases hm:b.isEmpty with
  |true=>simp
  |false=>
   have:0<b.size:=by simpa[Array.isEmpty,Nat.pos_iff_ne_zero]using hm
   have g:=f b[0] I;have:b.all (λe=>decide (e.born>=cl))=false:=by rw[Array.all_eq_false];exact⟨0,this,by simp;omega⟩
   simp[this]
 obtain⟨left,hl⟩:∃left,left=b.filter λe=> !seen.contains e.born:=⟨_,W⟩;have d:∀e∈left,e∈b.toList/\e.born∉seen.toList:=λe he=>by rw[hl]at he;simp at he;exact⟨by simpa using he.1,by simpa using he.2⟩
 have z:left.filter (λe=>decide (e.born<cl))=left:=Array.filter_eq_self.2 λe he=>by simpa using f e (d e he).1
 have y:left.filter (λe=>decide (e.born>=cl))=#[]:=by rw[Array.filter_eq_empty_iff];intro e he;have:=f e (d e he).1;simp;omega
 have s:(Instr.next (.pointer<|some ⟨c,0,none⟩) false ty).run P w=(do
  match((if left.isEmpty then#[none]else#[])++left.map some)[<-choose (.mapNext ((if left.isEmpty then#[none]else#[])++left.map some).size)]?with
  |some (some e)=>
   setObj c (.mapIter (some m) cl (seen.push e.born) cl)
   pure (.tuple #[.bool true,e.key,e.val])
  |some none=>pure (.tuple #[.bool false])
  |none=>stuck "Next: no such candidate":Sem Value).run P w:=by
  unfold Instr.next;simp only[Sem.run_bind,g1 w q,Result.andThen_ok,MapKept.run_getObj_map v,A,<-hl,z,y,Array.append_empty,agq,if_false];rfl
 cases he:left.isEmpty with
 |true=>
  have r:left=#[]:=by simpa using he
  left;refine⟨λe he=>?_,?_⟩;by_cases h:e.born∈seen.toList;exact h;have:e∈left:=by rw[hl];simp;exact⟨by simpa using he,by simpa using h⟩
  rw[r]at this;simp at this;rw[s,r];simp[Sem.run_bind,run_choose_drew,Question.forced]
 |false=>
  have n:0<left.size:=by
   have:left≠#[]:=by simpa using he
   exact Array.size_pos_iff.2 this
  right;obtain⟨j,a,p,i,u⟩:∃j a,j<left.size/\(a=w\/a=w.drew)/\(choose<|.mapNext left.size).run P w=.ok j a:=by rw[run_choose_drew];split;exact⟨0,w,n,.inl W,W⟩;exact⟨_,_,acN _ n,.inr W,W⟩
  have g:=d left[j] (Array.getElem_mem p);have hh:a.heap[c]?=some (.mapIter (some m) cl seen cl):=by rcases i with rfl|rfl<;>exact q
  refine⟨left[j],a,g.1,g.2,i,?_⟩;rw[s,he];simp[-run_choose_drew,-run_choose,u,p,x a _ hh]
end
def aU.aeK{S B:Nat->Prop}{σ:St}{T:Nat->Value}{w w':World}{F:Nat->L Nat}(h:aU S B σ T w F){t:Nat}{J J':World->(Nat->Prop)->Value->Prop}(n:(σ t).av=.ob J)(c:w'.heap.size=w.heap.size)(d:∀b,b∉F t->w'.heap[b]?=w.heap[b]?)(j:Rel w' S (.ob J') (T t) (F t)):
 aU S B (iy σ t ⟨.ob J',(σ t).g1,(σ t).g2+1⟩) T w' F:=by
 have e:=λb a=>d b λm=>(h.own t b m).2.2 a;have f:=λi hi b a=>d b<|h.di i t hi b a;refine h.step (w':=w') (S':=S) (T':=T) ⟨λr=>?_,λr=>?_,λ_ _=>rfl,λr o g=>?_⟩ (λ_ h=>h) (λi=>?_) h.nodup h.di (λi b a=>by rw[c];exact h.own i b a) (λb a=>by rw[c];exact h.shr b a);by_cases hi:r=t;subst hi;rw[aI];exact .refl;rw[ar _ _ hi];exact .refl;by_cases hi:r=t;subst hi;rw[aI];simp_all;rw[ar _ _ hi];exact .refl;by_cases hi:r=t;subst hi;rw[aI]at g;simp at g;rw[ar _ _ hi];exact⟨λp y h=>⟨y,h⟩,λb a=>a.elim (e b)<|f r hi b⟩;by_cases hi:i=t;subst hi;right;rw[an.aC<|by rw[aI];rfl,aI];exact j;left;rw[ar _ _ hi];exact⟨W,W,W,λb a=>a.elim (e b)<|f i hi b⟩
section
variable{R:Q Nat->Prop}{P:Program}{N:Nat}{F:St->Prop}{k:L It}{l:a7}
def adA{id t d n:Nat}{ty F0:TypeId}{pos O:String}{H2 Y:Array Edge}{D:jj κ}{done:L Nat}(hv:(gt l t).v=.it D done)(hd:Nat.ble (d+1) N=true)(G5:Nat.ble (n+1) N=true)(H1:Nat.ble N 1000000=true)(ht:Nat.ble (t+1) 1000000=true)(hn:dt (ne' d t) (dt (ne' n t)<|ne' d n)=true)
 (h1:∀i,i<D.length->i∉done->AK R P N F k ((n,⟨.b true,(gt l n).g1+1,(gt l n).g2⟩)::(d,⟨.dead,(gt l d).g1+1,(gt l d).g2⟩)::(t,⟨.it D<|done++[i],(gt l t).g1,(gt l t).g2+1⟩)::l))
 (h2:(∀i<D.length,i∈done)->AK R P N F k ((n,⟨.b false,(gt l n).g1+1,(gt l n).g2⟩)::(d,⟨.dead,(gt l d).g1+1,(gt l d).g2⟩)::l)):
 AK R P N F (.code (.region id #[⟨some d,.next (.tmp t) false,ty,pos,H2,none⟩,⟨some n,.extract (.tmp d) 0,F0,O,Y,none⟩] false)::k) l:=by
 have hd:=acR hd;have G5:=acR G5;simp[aW,ne_iff]at hn;obtain⟨n1,n2,n3⟩:=hn;intro V x Z a w hR hi;refine wpIn_region_list ?_;obtain⟨S,Fr,hc,hN,M1,H4,H3,E1⟩:=hi;have E2:(dn l t).av=.ob (QC D done):=by rw[ee,hv];rfl
 have hr:=hc.rel t;rw[an.aC<|by rw[E2];rfl,E2]at hr;obtain⟨-,hF,hJ⟩:=hr;obtain⟨c,m,ms,cl,seen,e1,e2,e3,hE,e4,e5,e6⟩:=hJ w S (λ_ _=>rfl) λ_ h=>h;have F4:=IT e2 e3 hE e4 e5 e6;rw[e1,show qp w (.pointer<|some ⟨c,0,none⟩)=[c,m]from F4.2.1.symm]at hF;have ht:=acR ht;have H1:=acR H1;have K2:a.eval (.tmp t)=.pointer (some ⟨c,0,none⟩):=by rw[gW V a E];exact e1
 obtain⟨T,H⟩:∃T:Oper,T=⟨some d,.next (.tmp t) false,ty,pos,H2,none⟩:=⟨_,W⟩;obtain⟨C,p⟩:∃C:Oper,C=⟨some n,.extract (.tmp d) 0,F0,O,Y,none⟩:=⟨_,W⟩;rw[<-H,<-p];have fin:∀(b:Bool)(K:Array Value)(w':World),(Instr.next (.pointer<|some ⟨c,0,none⟩) false ty).run P w=.ok (.tuple K) w'->K[0]?=some (.bool b)->
  (∃f,gK R P N F k .normal f/\kV N V x Z f ((a.put (some d)<|.tuple K).put (some n)<|.bool b) w')->
  wpListIn (FW V.rd) 0 P #[T,C] (λe A w'=>∃f,gK R P N F k e f/\kV N V x Z f A w') [T,C] a w:=by
  intro b K w' o M2 G3;have G4:(a.put (some d)<|.tuple K).eval (.tmp d)=.tuple K:=by rw[gW V _ E,lL<|by rw[hN];omega,aI]
  have s2:wpListIn (FW V.rd) 0 P #[T,C] (λe A w'=>∃f,gK R P N F k e f/\kV N V x Z f A w') [C] (a.put (some d)<|.tuple K) w':=by
   unfold wpListIn;have u:Oper.T3 V.rd P C (a.put (some d)<|.tuple K) w' (wpListIn (FW V.rd) 0 P #[T,C] (λe A w'=>∃f,gK R P N F k e f/\kV N V x Z f A w') []) (λe A w'=>∃f,gK R P N F k e f/\kV N V x Z f A w'):=by refine fK (v:=.bool b) (w':=w') (by simp[execOp,p,G4,Instr.extract,M2]) ?_;rw[p];exact wpListIn_nil G3
   split;exact u;rename_i hw;exact aaF (by rw[p];rfl) hw
  unfold wpListIn;have u:Oper.T3 V.rd P T a w (wpListIn (FW V.rd) 0 P #[T,C] (λe A w'=>∃f,gK R P N F k e f/\kV N V x Z f A w') [C]) (λe A w'=>∃f,gK R P N F k e f/\kV N V x Z f A w'):=by refine fK (v:=.tuple K) (w':=w') (by simp[execOp,H,K2,o]) ?_;rw[H]at s2⊢;exact s2
  split;exact u;rename_i hw;exact aaF (by rw[H];rfl) hw
 have M:∀(y:a7)(b:Bool)(v:Value)(w':World),aU S (cK V x) (dn y) (tv V a) w' Fr->mb V x w'->(∀b,w'.heap.size<=b->cK V x b)->
  Inv N V x Z (dn<|(n,⟨.b b,(gt y n).g1+1,(gt y n).g2⟩)::(d,⟨.dead,(gt y d).g1+1,(gt y d).g2⟩)::y) ((a.put (some d) v).put (some n)<|.bool b) w':=by
  intro y b v w' P1 K0 X;have q1:=P1.make (w':=w') [] d .dead v [] X (aaU _) (λ_ _ _=>rfl) acP I (by simp[Rel]);have q2:=q1.make (w':=w') [] n (.v<|.bool b) (.bool b) [] X (aaU _) (λ_ _ _=>rfl) acP I (by simp[Rel,scalar]);rw[<-lL (V:=V) (by rw[hN];omega),<-lL (V:=V) (by rw[size_put,hN];omega)]at q2;have e:dn ((n,⟨.b b,(gt y n).g1+1,(gt y n).g2⟩)::(d,⟨.dead,(gt y d).g1+1,(gt y d).g2⟩)::y)=made (made (dn y) [] d .dead) [] n (.v<|.bool b):=by
   simp[fb]
   funext i
   by_cases y1:i=n;subst y1;rw[aI];have:¬i=d:=λe=>n3 e.symm;simp[made];rw[aaq this];rfl;rw[ar _ _ y1];by_cases y2:i=d;subst y2;rw[aI];simp[made];rw[aaq y1];rfl;rw[ar _ _ y2];simp[made,y1,y2]
  rw[e];exact⟨S,_,q2,by rw[size_put,size_put];exact hN,by rw[eQ,eQ];exact M1,H4,H3,K0⟩
 rcases Vl (P:=P) ty e2 e3 hE.born with⟨G6,o⟩|⟨e,w1,he,H5,F1,o⟩;refine fin false _ w o W ⟨_,h2 λi hi=>?_,(M l false _ w hc E1 E1.new).x⟩;have z:i<ms.toList.length:=by rw[hE.len];exact hi
 have:=G6 _<|aaZ z;rw[e4,abS]at this;obtain⟨j,hj,hq⟩:=this;have G2:j<ms.toList.length:=by rw[hE.len];exact e6 j hj
 have:j=i:=(List.getElem_inj (h₀:=by simpa using G2) (h₁:=by simpa using z) hE.one).1 (by rw[acO,afE,acL G2]at hq;simpa using hq)
 exact this▸hj;obtain⟨i,hi,rfl⟩:=af7 he;have z:i<D.length:=by rw[<-hE.len];exact hi
 have G0:i∉done:=λh=>H5 (by rw[e4,abS];exact⟨i,h,by rw[acO,afE,acL hi];rfl⟩);have r:w1.heap=w.heap:=by rcases F1 with rfl|rfl<;>rfl
 have S0:sS V x w w1:=by rcases F1 with rfl|rfl<;>exact⟨rfl,rfl,rfl,aaU _,λ_ _ _=>rfl⟩
 obtain⟨B,s⟩:∃B:World,B={w1 with heap:=w1.heap.setIfInBounds c<|.mapIter (some m) cl (seen.push ms.toList[i].born) cl}:=⟨_,W⟩;rw[<-s]at o;have F3:=MapKept.heap_set (w:=w1) (o':=.mapIter (some m) cl (seen.push ms.toList[i].born) cl) (by rw[r];exact e2);have P0:B.heap[c]?=some (.mapIter (some m) cl (seen.push ms.toList[i].born) cl):=by rw[s];exact F3.1
 have p:∀b,b≠c->B.heap[b]?=w.heap[b]?:=λb J=>by rw[s,<-r];exact F3.2 b J
 have F2:B.heap.size=w.heap.size:=by rw[s];show(w1.heap.setIfInBounds c _).size=_;rw[Array.size_setIfInBounds,r]
 have B0:c∈Fr t:=by rw[hF];simp
 have H6:m≠c:=by have:=hc.nodup t;rw[hF]at this;simp at this;exactλe=>this e.symm
 have S1:∀b,S b->B.heap[b]?=w.heap[b]?:=λb J=>p b λe=>(hc.own t c B0).2.2 (e▸J);have A0:Rel B S (.ob<|QC D<|done++[i]) (tv V a t) (Fr t):=by
  rw[e1,hF];exact IT P0 ((p m H6).trans e3) (hE.mono S1 λ_ h=>h) (by
   rw[Array.toList_push,e4,acB];simp[acO];rw[aev<|by simpa using hi];rfl) (by
   rw[acH];exact⟨e5,I,λa ha b J e=>G0<|by simp at J;rw[<-J,<-e];exact ha⟩) (λj hj=>by
   rcases ac6.1 hj with h|h;exact e6 j h;simp at h;rw[h];exact z)
 have q:=hc.aeK E2 F2 (λb J=>p b λe=>J (e▸B0)) A0;have L0:iy (dn l) t ⟨.ob<|QC D<|done++[i],(dn l t).g1,(dn l t).g2+1⟩=dn ((t,⟨.it D<|done++[i],(gt l t).g1,(gt l t).g2+1⟩)::l):=by rw[fb];rfl
 rw[L0]at q;have G1:mb V x B:=E1.trans (S0.trans ⟨by rw[s],by rw[s],by rw[s],by rw[F2,r];exact aaU _,λb J hg=>by rw[p b λe=>by rcases(hc.own t c B0).1 with h|h;omega;exact hg (e▸h),r]⟩)
 have hp:=M _ true (.tuple #[.bool true,ms.toList[i].key,ms.toList[i].val]) B q G1 G1.new;have g:∀j,j≠t->gt ((t,⟨.it D<|done++[i],(gt l t).g1,(gt l t).g2+1⟩)::l) j=gt l j:=λj hj=>by
  show(match Nat.beq j t with|true=>_|false=>gt l j)=_;cases e:Nat.beq j t with
  |true=>exact aaF (ac2 e) hj
  |false=>rfl
 rw[g n n2,g d n1]at hp;exact fin true _ B o W ⟨_,h1 i z G0,hp.x⟩
end
end
def Lf{p:jZ}(h:dH p=0):1<=p.n/\p.n<=100/\p.aa.length<=96/\∀u∈p.aa,iq p.n u:=by unfold dH at h;split at h;cases h;rename_i c;split at h;cases h;rename_i b;split at h;omega;rename_i a;refine⟨E,E,E,λu hu=>?_⟩;exact rM<|bO.1 (by simpa using a) u hu
def Vg{b:Bool}(h:(!b)=false):b=true:=by cases b<;>simp_all
def ady{b:Bool}(h:(!b)=true):b=false:=by cases b<;>simp_all
def tA(u:bN):Bool:=oh u.k 6&&(decide (u.cW.length<=4)&&u.cW.all λs=>oh s 3)&&u.ai.all λf=>oh f.dU 3
def Ca(p:jZ):Bool:=decide (p.aa.length<=8/\p.n<=9/\dH p=0)&&(p.aa.all tA&&Cc p.aa p.n.toNat)
def Jj(p:jZ)(h:AS p):ab 118 [bI p,.i 8] (.u<|Ca p):=by
 refine cp func118 W<|b6 W 13 W ?_ ?_<;>intro g1;refine b7 W W ?_;show false=Ca p;unfold Ca
 grind
 refine r1 W bh<|aF 20 W ?_ ?_<;>intro g2;refine b7 W W ?_;show false=Ca p;unfold Ca
 grind
 refine ck W W (nO p h) W<|cm W W ?_ ?_<;>intro m;refine b7 W W ?_;show false=Ca p;unfold Ca;simp_all;have q:dH p=0:=agE.1 m;have A:Ca p=(p.aa.all tA&&Cc p.aa p.n.toNat):=by
  unfold Ca
  grind
 obtain⟨D,C,B,r⟩:=Lf q;rw[A];refine r0 W<|ba (λi:Nat=>[(2,.box true<|bI p),(5,.i i)]) (λi=>i<=p.aa.length/\p.aa.all tA=(p.aa.drop i).all tA) (λi=>p.aa.length-i) 0 ⟨aaQ _,W⟩ ?_;rintro i⟨hi,e⟩;refine cm W W ?_ ?_<;>intro x;have b:i<p.aa.length:=E;have o:(i:Int).toNat=i:=E;have y:p.aa.getD i default=p.aa[i]:=az b;have hu:=h.unit _<|aaZ b;rw[acJ b,ac4]at e;rw[e];refine r1 W (by simp[aj,aag,o]<;>omega) ?_;rw[o,y];generalize p.aa[i]=u at*;have v:=hu.ai;have t:=hu.cW;refine bW W (Am u.k 6 hu.k fV) W<|r0 W<|iC 41 W ?_ ?_<;>intro j;refine b7 W W ?_;show false=_;have:oh u.k 6=false:=ady j;unfold tA;rw[this];rfl;have k1:oh u.k 6=true:=Vg j;refine ck W W (F9 u.cW 4 3 hu.N0 E fV fV) W<|r0 W<|nS W W W ?_ ?_<;>intro g;refine b7 W W ?_;show false=_;have:(decide (u.cW.length<=4)&&u.cW.all λs=>oh s 3)=false:=ady g;unfold tA;grind;have k2:(decide (u.cW.length<=4)&&u.cW.all λs=>oh s 3)=true:=Vg g;have k3:tA u=u.ai.all λf=>oh f.dU 3:=by unfold tA;rw[k1,k2];rfl
 rw[k3];refine r0 W<|ba (λk:Nat=>[(2,.box true<|bI p),(5,.i i),(6,.box true<|dZ u),(7,.i k)]) (λk=>k<=u.ai.length/\(u.ai.all λf=>oh f.dU 3)=(u.ai.drop k).all λf=>oh f.dU 3) (λk=>u.ai.length-k) 0 ⟨aaQ _,W⟩ ?_;rintro k⟨F,c⟩;refine cm W W ?_ ?_<;>intro w;have a:k<u.ai.length:=E;have n:(k:Int).toNat=k:=E;have z:u.ai.getD k default=u.ai[k]:=az a;have d:=hu.dU _<|aaZ a;rw[acJ a,ac4]at c;rw[c];refine r1 W (by simp[aj,aag,n]<;>omega) ?_;rw[n,z];generalize u.ai[k]=f at*;refine bW W (Am f.dU 3 d fV) W<|r0 W<|nS W W W ?_ ?_<;>intro l;refine b7 W W ?_;show false=_;simp_all;have k4:oh f.dU 3=true:=Vg l;rw[k4,aeD];refine r1 W bh<|aM (k+1) ⟨E,?_⟩;rfl;have:k=u.ai.length:=E;subst this;rw[c,aeM,agu,aeD];refine r1 W bh<|aM (i+1) ⟨E,?_⟩;rfl;have:i=p.aa.length:=E;subst this;rw[e,aeM,agu,aeD];refine ck W W (SM p h p.n.toNat E E E r) W<|cg W W
section
variable{D M κ V B:Nat}
section
variable{d:Int}{a b p:L bq}{n v w:Nat}{c:Rat}
def cB.tok(i:rH D M κ)(f:V<=9)(h:cB D M V d w p)(e:d<=6)(g:w<=B):(∀u∈p,Cv V (κ*B+2) u)/\p.length<2^30:=⟨h.pw.tok i f e<|afJ (aey _ g) 2,by have:=h.len f e;omega⟩
def cB.Yi(g:rH D M κ)(f:V<=9)(h:cB D M V d w p)(e:d<=6)(hc:Wn D M 1 v c)(j:v+w+1<=B):
 tp V (κ*B+2) (oR c p)/\cB D M V d (v+w+1) (jr c p):=by
 have i:=h.pw.TQ hc;have hl:(oR c p).length<=10^18:=by have:=h.len f e;simp[oR];omega
 exact⟨i.nok g f e hl<|afJ (aey _ j) 2,i.norm g hl⟩
def cB.PN(i:rH D M κ)(f:V<=9)(h:cB D M V d w a)(g:cB D M V d w b)(e:d<=6)(k:w+1<=B):
 tp V (κ*B+2) (a++b)/\cB D M V d (w+1) (AM a b):=by
 have j:=h.pw.append g.pw;have hl:(a++b).length<=10^18:=by
  have:=h.len f e;have:=g.len f e
  grind
 exact⟨j.nok i f e hl<|afJ (aey _ k) 2,j.norm i hl⟩
def cB.abN{e:Int}(i:rH D M κ)(f:V<=9)(h:cB D M V d w a)(g:cB D M V e v b)(l:d<=6)(he:e<=6)(hde:d+e<=6)(k:w+v+1<=B):
 tp V (κ*B+2) (jT a b)/\cB D M V (d+e) (w+v+1) (kv a b):=by
 have j:=h.pw.mul g.pw;have hl:(jT a b).length<=10^18:=by have o:=h.len f l;have m:=g.len f he;rw[Vn];exact acI (ael o m) fV
 exact⟨j.nok i f hde hl<|afJ (aey _ k) 2,j.norm i hl⟩
def cB.Vq{K:Nat}:tp V K (jT [] b)/\cB D M V d w (kv [] b):=by
 refine⟨⟨λu hu=>by simp[jT]at hu,λm hm=>?_⟩,?_⟩;have:m=[]:=by simpa[jT]using hm
 subst this;exact⟨λu hu=>by simp[fj]at hu,by simp[fj]⟩;exact cB.nil
def cB.afj(e:rH D M κ)(g:V<=9)(h:cB D M V d w p)(f:d<=6)(k:v<V)(j:w+2<=B):
 tp V (κ*B+2) (oq p v)/\cB D M V (d-1) (w+2) (sP p v):=by
 have i:=h.pw.der e f v k;have hl:(oq p v).length<=10^18:=by have:=h.len g f;have:=ET p v;omega
 exact⟨i.nok e g E hl<|afJ (aey _ j) 2,i.norm e hl⟩
def Cw(p:L bq)(v:Nat):Prop:=∃u∈p,0<u.pw.getD v 0
def CO(h:¬Cw p v):sP p v=[]:=by
 have e:oq p v=[]:=by unfold oq;rw[List.flatMap_eq_nil_iff];intro u hu;unfold BQ;rw[aaq λg=>h ⟨u,hu,g⟩]
 unfold sP;rw[e];rfl
def tY{l:L bq}(h:Cw (fj l) v):Cw l v:=by obtain⟨u,hu,g⟩:=h;rcases DC hu with⟨t,f,e⟩|⟨t,f,e⟩;exact⟨t,f,by rw[<-e];exact g⟩;cases f
def Jd(h:Cw (a++b) v):Cw a v\/Cw b v:=by obtain⟨u,hu,g⟩:=h;exact(ac6.1 hu).imp (λh=>⟨u,h,g⟩) λh=>⟨u,h,g⟩
def Qs(h:Cw (jr c p) v):Cw p v:=by obtain⟨u,hu,g⟩:=tY h;obtain⟨t,e,rfl⟩:=abS.1 hu;exact⟨t,e,g⟩
def TW:∀{a b:L Int}{v:Nat},0<(List.zipWith (·+ ·) a b).getD v 0->(∀x∈a,0<=x)->(∀x∈b,0<=x)->0<a.getD v 0\/0<b.getD v 0
 |[],_,_,h,_,_=>by cases h
 |_::_,[],_,h,_,_=>by cases h
 |x::a,y::b,0,h,f,e=>by grind
 |x::a,y::b,v+1,h,f,e=>by grind
def YF{e:Int}{i:Nat}(k:PW D M V d w a)(j:PW D M V e i b)(h:Cw (kv a b) v):Cw a v\/Cw b v:=by obtain⟨u,hu,g⟩:=tY h;obtain⟨t,f,hu⟩:=afG.1 hu;obtain⟨s,hs,rfl⟩:=abS.1 hu;exact(TW g (k t f).1.2.1 (j s hs).1.2.1).imp (λh=>⟨t,f,h⟩) λh=>⟨s,hs,h⟩
def Hj:¬Cw (eK c n) v:=by
 rintro⟨u,hu,g⟩;unfold eK at hu
 grind
def Qr{i:Nat}(h:Cw (rJ i n) v):v=i:=by obtain⟨u,hu,g⟩:=h;simp[rJ]at hu;grind
def CI(h:cB D M V d w p)(e:Cw p v):1<=d:=by
 obtain⟨u,hu,g⟩:=e;obtain⟨j,f,i⟩:=(h.pw u hu).1;have hm:u.pw.getD v 0∈u.pw:=by grind
 have:=jV f _ hm;omega
end
end
structure fo(us:List bN)(n:Nat):Prop where
 len:us.length<=8
 n0:0<n
 n9:n<=9
 val:∀u∈us,iq n u
 dr:wU n us
 ord:us.length<=(aA us).length
 few:∀u∈us,tA u=true
 low:Cc us n=true
def aS(us:L bN)(k:Nat):bN:=us.getD ((aA us).getD k 0).toNat default
def Lp{us:L bN}:∀(k:Nat){out:L Int},(∀j,j<out.length->kE us (out.take j) (out.getD j 0).toNat=true)->∀j,j<(eW us k out).length->kE us ((eW us k out).take j) ((eW us k out).getD j 0).toNat=true
 |0,out,h=>h
 |k+1,out,h=>by
  rw[eW];split;exact h;rename_i g;refine Lp k λj a=>?_;rcases qq us out 0 with e|⟨i,e,_,_,b⟩;rw[e]at g;simp_all
  grind
def Ln{us:L bN}{k:Nat}(h:k<(aA us).length):kE us ((aA us).take k) ((aA us).getD k 0).toNat=true:=Lp (out:=[]) _ (λj a=>by cases a) k h
def uz{s:Int}:∀{us:L bN}{k:Nat},(cV s k us= -1/\∀u∈us,u.out≠s)\/∃i,∃h:i<us.length,cV s k us=((k+i:Nat):Int)/\us[i].out=s
 |[],k=>.inl ⟨W,I⟩
 |u::us,k=>by simp only[cV];split;rename_i h;exact .inr ⟨0,I,I,h⟩;rename_i h;rcases uz (s:=s) (us:=us) (k:=k+1)with⟨e,g⟩|⟨i,hi,e,g⟩;simp_all;exact .inr ⟨i+1,by simpa using hi,E,g⟩
def Pr{α:Type}{p:α->Bool}{l:L α}(h:l.countP p=1){i j:Nat}(hi:i<l.length)(a:j<l.length)(c:p l[i]=true)(b:p l[j]=true):i=j:=by
 have key:∀{i j:Nat}(hi:i<l.length)(a:j<l.length),p l[i]=true->p l[j]=true->¬i<j:=by
  intro i j hi a c b d;have e:l=l.take j++l[j]::l.drop (j+1):=I
  grind
 grind
section
variable{us:L bN}{n:Nat}(hm:fo us n)
include hm
theorem fo.jG:(aA us).length=us.length:=agI (wo us) hm.ord
def fo.idx{k:Nat}(h:k<us.length):((aA us).getD k 0).toNat<us.length:=by
 have a:k<(aA us).length:=by rw[hm.jG];exact h
 have:=fI _<|aX (d:=0) a;omega
def fo.eq{k:Nat}(h:k<us.length):aS us k=us[((aA us).getD k 0).toNat]'(hm.idx h):=az<|hm.idx h
def fo.mem{k:Nat}(h:k<us.length):aS us k∈us:=by rw[hm.eq h];simp_all
def fo.inj{i j:Nat}(hi:i<us.length)(a:j<us.length)(h:us[i].out=us[j].out):i=j:=by
 have c:=(hm.val _<|aaZ hi).out;have b:=hm.dr us[i].out.toNat E E;refine Pr b hi a ?_ ?_
 all_goals grind
def fo.adt{j k:Nat}(c:j<us.length)(b:k<us.length)(h:(aA us).getD j 0=(aA us).getD k 0):j=k:=by
 have hn:=xY us;have e:=hm.jG;rw[az E,az E]at h;have a:=agP.1 hn
 grind
def fo.outs{j k:Nat}(b:j<us.length)(a:k<us.length)(h:(aS us j).out=(aS us k).out):j=k:=by
 rw[hm.eq b,hm.eq a]at h;have:=hm.inj (hm.idx b) (hm.idx a) h;refine hm.adt b a ?_;have e:=fI _<|aX (d:=0)<|show j<(aA us).length by rw[hm.jG];exact b
 have c:=fI _<|aX (d:=0)<|show k<(aA us).length by rw[hm.jG];exact a
 omega
def fo.before{k:Nat}(d:k<us.length){f:Kk}(l:f∈dm (aS us k))(hs:0<=f.sh/\f.sh<n):f.sh=0\/∃j,j<k/\(aS us j).out=f.sh:=by
 have h:=Ln (us:=us) (k:=k) (by rw[hm.jG];exact d);unfold kE at h;rw[abi,acZ]at h;have a:=h.2 f l;unfold lT at a;rw[decide_eq_true_eq]at a;rcases uz (s:=f.sh) (us:=us) (k:=0)with⟨e,g⟩|⟨i,hi,e,g⟩;left;apply afw;intro c;have r:=hm.dr f.sh.toNat E E;have:0<us.countP (λu=>decide (u.out=(f.sh.toNat:Int))):=E;obtain⟨u,hu,p⟩:=List.countP_pos_iff.1 this
 grind
 right;have o:gE us f.sh=(i:Int):=by unfold gE;rw[e];simp
 rw[o]at a;have m:=a.resolve_left E;obtain⟨j,q,he⟩:=List.mem_take_iff_getElem.1 m;refine⟨j,E,?_⟩;have b:j<us.length:=E;rw[hm.eq b]
 grind
end
def u7{l:L Int}{i s:Nat}{x:Int}(h:i<l.length):(l.set i x).getD s 0=if s=i then x else l.getD s 0:=by grind
def ER{u:bN}:∀(c:L Kk){dg:L Int},u.out.toNat<dg.length->(∀s,0<=dg.getD s 0)->
 (c.foldl (kh u) dg).length=dg.length/\(∀s,s≠u.out.toNat->(c.foldl (kh u) dg).getD s 0=dg.getD s 0)/\dg.getD u.out.toNat 0<=(c.foldl (kh u) dg).getD u.out.toNat 0/\
   ∀f∈c,dg.getD f.sh.toNat 0*mf u<=(c.foldl (kh u) dg).getD u.out.toNat 0
 |[],dg,_,_=>⟨W,λ_ _=>rfl,aet _,I⟩
 |f::c,dg,d,j=>by
  have hm:1<=mf u:=by unfold mf;split<;>omega
  have k:∀s,(kh u dg f).getD s 0=if s=u.out.toNat then max (dg.getD u.out.toNat 0) (dg.getD f.sh.toNat 0*mf u)else dg.getD s 0:=λs=>u7 d;have a:∀s,dg.getD s 0<=(kh u dg f).getD s 0:=λs=>by grind
  obtain⟨i,l,h,e⟩:=ER c (dg:=kh u dg f) (by unfold kh;rw[rR];exact d) λs=>afD (j s)<|a s;rw[aeC];refine⟨by rw[i];unfold kh;rw[rR],λs hs=>fP,afD (a _) h,λg b=>?_⟩;rcases abm.1 b with rfl|b
  grind
  exact afD (afO (a _) E)<|e g b
def tj(us:L bN)(n k:Nat):L Int:=((aA us).take k).foldl (sO us)<|jN us n us.length
def M4{us:L bN}{n k:Nat}(h:k<(aA us).length):tj us n (k+1)=sO us (tj us n k) ((aA us).getD k 0):=by unfold tj;rw[ace h,afv,az h];rfl
def Ax{us:L bN}{m:Int}:∀{l:L Int}{dg r:L Int},Gk us m l dg=some r->r=l.foldl (sO us) dg/\∀k,k<l.length->((l.take<|k+1).foldl (sO us) dg).getD (us.getD (l.getD k 0).toNat default).out.toNat 0<=m
 |[],dg,r,h=>by simp[Gk]at h;simp_all
 |i::l,dg,r,h=>by
  rw[Gk]at h;split at h;cases h;rename_i g;obtain⟨b,a⟩:=Ax h
  grind
def GZ{us:L bN}{m:Int}{dg:L Int}:∀{l:L Int}{rt r:L Int},K3 us m dg l rt=some r->∀k,k<l.length->((l.take<|k+1).foldl (wj us dg) rt).getD (us.getD (l.getD k 0).toNat default).out.toNat 0<=m
 |[],rt,r,h=>I
 |i::l,rt,r,h=>by
  rw[K3]at h;split at h;cases h;rename_i g;have a:=GZ h
  grind
section
variable{us:L bN}{n:Nat}(hm:fo us n)
include hm
theorem fo.out{k:Nat}(h:k<us.length):1<=(aS us k).out/\(aS us k).out<n:=(hm.val _<|hm.mem h).out
def fo.dgL:∃r,Gk us 6 (aA us) (jN us n us.length)=some r/\r=tj us n us.length/\(K3 us 6 r (aA us)<|List.replicate n 0).isSome=true:=by have h:=hm.low;unfold Cc at h;split at h;cases h;rename_i dg e;refine⟨dg,e,?_,h⟩;have:=(Ax e).1;rw[this];unfold tj;rw[acD<|by rw[hm.jG];exact aaU _]
def fo.dg:∀k,k<=us.length->(tj us n k).length=n/\∀s,0<=(tj us n k).getD s 0/\(tj us n k).getD s 0<=6
 |0,_=>by obtain⟨d,c⟩:=rm us n us.length .refl;exact⟨d,λs=>c.getD fV s⟩
 |k+1,h=>by
  obtain⟨d,c⟩:=fo.dg k E;have f:k<(aA us).length:=by rw[hm.jG];omega
  obtain⟨r,e,-,-⟩:=hm.dgL;have b:=(Ax e).2 k f;have m:=hm.out (show k<us.length from E);have g:us.getD ((aA us).getD k 0).toNat default=aS us k:=W;have b:(tj us n<|k+1).getD (aS us k).out.toNat 0<=6:=b;rw[M4 f]at b⊢;unfold sO at b⊢;rw[g]at b⊢;split;exact⟨d,c⟩;rename_i a;rw[aaq a]at b;obtain⟨l,j,i,-⟩:=ER (u:=aS us k) (aS us k).ai (dg:=tj us n k) E λs=>(c s).1
  grind
def fo.dgS{k:Nat}(h:k<us.length):(∀s,s≠(aS us k).out.toNat->(tj us n<|k+1).getD s 0=(tj us n k).getD s 0)/\(∀s,(tj us n k).getD s 0<=(tj us n<|k+1).getD s 0)/\
 ((aS us k).kind≠bF->∀f∈(aS us k).ai,(tj us n k).getD f.sh.toNat 0*mf (aS us k)<=(tj us n<|k+1).getD (aS us k).out.toNat 0):=by
 obtain⟨l,b⟩:=hm.dg k E;have a:k<(aA us).length:=by rw[hm.jG];omega
 have j:=hm.out h;have c:us.getD ((aA us).getD k 0).toNat default=aS us k:=W;rw[M4 a];unfold sO;rw[c];split;simp_all;obtain⟨i,g,e,d⟩:=ER (u:=aS us k) (aS us k).ai (dg:=tj us n k) E λs=>(b s).1
 grind
end
section
variable{n:Nat}{q:Rat}{s:cq}
def nQ:L Nat->Nat
 |[]=>1
 |x::l=>x*nQ l
def EJ:∀{l:L Nat}{x:Nat},x∈l->x∣nQ l
 |y::l,x,h=>by rcases abm.1 h with rfl|h;exact ah4 _ _;exact Nat.dvd_trans (EJ h)<|Nat.dvd_mul_left _ _
def Dn:∀{l:L Nat},(∀x∈l,0<x)->0<nQ l
 |[],_=>by simp[nQ]
 |x::l,h=>ahg (h x I)<|Dn λy a=>h y<|by simp[a]
def Dp:∀{l:L Nat},(∀x∈l,(ah x).length<=1)->(ah<|nQ l).length<=l.length+1
 |[],_=>by simp[nQ];rw[gX];simp
 |x::l,h=>by have d:=Dp (l:=l) λy a=>h y (by simp[a]);have c:=eC x<|nQ l;have b:=h x I;simp[nQ];omega
def Pn(h:n<10^9):(ah n).length<=1:=sQ (k:=1)<|dE n 1 9 h fV
def j7(us:L bN):Nat:=nQ ((List.range 999).map (·+1))*nQ (us.map λu=>(bQ u.k).den)
def lA(us:L bN):Nat:=j7 us*10^18
def O7(h:oh s n=true):aQ s=0/\Dc (bQ s) n:=by unfold oh at h;simp_all
def Dc.lt(h:Dc q n):q.num.natAbs<10^n/\q.den<10^n:=⟨yH h.1,yH h.2⟩
def oJ{u:bN}(h:tA u=true):oh u.k 6=true/\u.cW.length<=4/\(∀c∈u.cW,oh c 3=true)/\∀f∈u.ai,oh f.dU 3=true:=by unfold tA at h;simp_all
def uY(q:Rat):q*(q.den:Rat)=(q.num:Rat):=by
 have h:=ah2 q;rw[ahK]at h;have b:((q.den:Nat):Rat)≠0:=by
  intro g;have:q.den=0:=by exact_mod_cast g
  exact q.den_nz this
 have a:((q.den:Int):Rat)=((q.den:Nat):Rat):=agA _
 grind
def Wn.aao{D M:Nat}(b:q.den∣D)(hn:q.num.natAbs*D<=M):Wn D M 1 1 q:=by obtain⟨e,he⟩:=b;have a:=q.den_pos;refine⟨q.num*(e:Nat),?_,?_⟩;rw[afX,Nat.pow_one,Nat.one_mul];refine acI (aey _ ?_) hn;rw[he];exact Nat.le_mul_of_pos_left _ a;rw[Nat.pow_one,he,Rat.natCast_mul,<-Rat.mul_assoc,ahj,agA];rw[uY]
def wn3{us:L bN}(h:oh s 3=true):Wn (j7 us) (lA us) 1 1 (bQ s):=by obtain⟨c,b⟩:=(O7 h).2.lt;have a:=(bQ s).den_pos;refine Wn.aao (Nat.dvd_trans (EJ<|abS.2 ⟨(bQ s).den-1,afH.2 E,E⟩)<|ah4 _ _) ?_;rw[aen];exact aey _ E
end
section
variable{us:L bN}{n:Nat}(hm:fo us n)
include hm
theorem fo.base:rH (j7 us) (lA us) 1012:=by
 have h1:0<nQ ((List.range 999).map (·+1)):=Dn λx hx=>by grind
 have h2:0<nQ (us.map λu=>(bQ u.k).den):=Dn λx hx=>by obtain⟨u,-,rfl⟩:=abS.1 hx;exact(bQ u.k).den_pos
 refine⟨ahg h1 h2,.refl,?_⟩;have h3:(ah (nQ ((List.range 999).map (·+1)))).length<=((List.range 999).map (·+1)).length+1:=Dp λx hx=>by obtain⟨y,hy,rfl⟩:=abS.1 hx;have:=afH.1 hy;exact Pn E
 have h4:(ah<|nQ<|us.map λu=>(bQ u.k).den).length<=(us.map λu=>(bQ u.k).den).length+1:=Dp λx hx=>by obtain⟨u,hu,rfl⟩:=abS.1 hx;have:=(O7 (oJ<|hm.few u hu).1).2.lt.2;exact Pn E
 have h5:=eC (nQ ((List.range 999).map (·+1)))<|nQ<|us.map λu=>(bQ u.k).den;have h6:=eC (j7 us)<|10^18;have h7:(ah<|10^18).length<=3:=sQ (k:=3)<|dE _ 1 27 fV fV;rw[acx,ah8]at h3;rw[acx]at h4;have:=hm.len;unfold lA;unfold j7 at h6⊢;omega
def fo.wnS{u:bN}(hu:u∈us):Wn (j7 us) (lA us) 1 1 (bQ u.k):=by obtain⟨b,a⟩:=(O7 (oJ<|hm.few u hu).1).2.lt;refine Wn.aao (Nat.dvd_trans (EJ<|abS.2 ⟨u,hu,W⟩)<|Nat.dvd_mul_left _ _) ?_;rw[aen];exact aey _ E
def fo.wnQ(s:Nat):Wn (j7 us) (lA us) 1 1 ((cw n us).getD s 0):=by
 have key:∀(l:L bN)(o:L Rat),(∀u∈l,u∈us)->(∀s,Wn (j7 us) (lA us) 1 1 (o.getD s 0))->∀s,Wn (j7 us) (lA us) 1 1 ((l.foldl (λ(o:L Rat)u=>o.set u.out.toNat<|bQ u.k) o).getD s 0):=by
  intro l
  induction l with
  |nil=>intro o _ h;exact h
  |cons u l a=>intro o hl h;refine a _ (λv b=>hl v<|by simp[b]) λs=>?_;rw[acO,agH];split;split;exact hm.wnS<|hl u I;exact Wn.zero _ _ _ _;simp_all
 refine key us _ (λ_ h=>h) (λs=>?_) s;rw[acO,ah1];split<;>exact Wn.zero _ _ _ _
end
def wS:Nat->Nat
 |0=>0
 |k+1=>3*wS k+20
def CZ{k:Nat}(h:k<=8):wS k<=65600:=(fV:∀k,k<9->wS k<=65600) k E
def jq{l:L (L bq)}{i s:Nat}{x:L bq}(h:i<l.length):(l.set i x).getD s []=if s=i then x else l.getD s []:=by grind
section
variable{D M κ m B:Nat}
def N1{x:L bq}{a:Int}{w:Nat}(b:rH D M κ)(f:m+1<=9)(o:cB D M (m+1) a (w+2) x)(n:0<=a)(s:a<=6)(y:3*w+20<=B):
 ∀(cs:L Rat),(∀c∈cs,Wn D M 1 1 c)->cs.length<=4->a*((cs.length:Int)-1)<=6->
  (cs≠[]->cB D M (m+1) (a*((cs.length:Int)-1)) (2+(cs.length-1)*(w+4)) (j0 m x cs))/\
  ∀c r,cs=c::r->tp (m+1) (κ*B+2) (jT (j0 m x r) x)/\tp (m+1) (κ*B+2) (kv (j0 m x r) x++eK c m)
 |[],_,_,_=>⟨λh=>aaF W h,λc r h=>by simp at h⟩
 |c::cs,hc,hl,i=>by
  rw[abo]at hl i;have j:=hc c I;have q:cB D M (m+1) 0 1 (eK c m):=cB.const j;by_cases e:cs=[];subst e;have l:kv (j0 m x []) x=[]:=fQ;have g:=cB.PN (B:=B) b f (cB.nil (D:=D) (M:=M) (V:=m+1) (d:=0) (w:=1)) q fV E;have k:cB D M (m+1) (a*(((c::([]:L Rat)).length:Int)-1)) (2+((c::([]:L Rat)).length-1)*(w+4)) (j0 m x [c]):=by show cB D M (m+1) _ _ (AM (kv (j0 m x []) x)<|eK c m);simp_all
  refine⟨λ_=>k,λC r h=>?_⟩;obtain⟨rfl,rfl⟩:=h;exact⟨(cB.Vq (D:=D) (M:=M) (d:=0) (w:=0)).1,by rw[l];exact g.1⟩;have p:=ags.2 e;have z:a*((cs.length:Int)-1)<=a*(((cs.length+1:Nat):Int)-1):=aez E n;obtain⟨u,-⟩:=N1 b f o n s y cs (λd i=>hc d<|by simp[i]) E E;have l:=u e;have t:a*((cs.length:Int)-1)+a=a*(((cs.length+1:Nat):Int)-1):=by grind
  have v:(cs.length-1)*(w+4)<=2*(w+4):=acM _ E;have A:2+(cs.length-1)*(w+4)+(w+2)+1+1=2+((c::cs).length-1)*(w+4):=by rw[abo,show cs.length+1-1=(cs.length-1)+1 from E,adD];omega
  have g:=cB.abN (B:=B) b f l o E s (by rw[t];omega) E;rw[t]at g;have k:=cB.PN (B:=B) b f g.2 (q.mono b (d:=0) (e:=a*(((cs.length+1:Nat):Int)-1)) (aeA n E) E) E E;refine⟨λ_=>?_,λC r h=>?_⟩;rw[<-A];exact k.2;simp_all
def acy{sh:L (L bq)}{g:L Rat}{u:bN}{dg:Nat->Int}{d:Int}{w:Nat}(a:rH D M κ)(j:m+1<=9)(hs:∀s,cB D M (m+1) (dg s) w<|sh.getD s [])(l:∀s,Wn D M 1 1 (g.getD s 0))(x:Wn D M 1 1 (bQ u.k))
 (t:∀f∈u.ai,Wn D M 1 1 (bQ f.dU)/\dg f.sh.toNat<=d)(hl:u.ai.length<=8)(A:0<=d)(p:d<=6)(H:w+12<=B):
 FJ (m+1) (κ*B+2) (κ*2+2) sh g m u/\cB D M (m+1) d (w+11) (Kf sh g m u):=by
 have b:∀f∈u.ai,tp (m+1) (κ*B+2) (oR (bQ f.dU)<|sh.getD f.sh.toNat [])/\cB D M (m+1) d (w+2) (jr (bQ f.dU)<|sh.getD f.sh.toNat []):=λf h=>by obtain⟨r,q⟩:=t f h;have:=cB.Yi (B:=B) a j (hs f.sh.toNat) E r E;exact⟨this.1,this.2.mono a q E⟩
 have c:∀i,i<=u.ai.length->cB D M (m+1) d (w+2+i) (gh sh g u i).1/\Wn D M (1+i) 2 (gh sh g u i).2:=by
  intro i
  induction i with
  |zero=>intro _;exact⟨cB.nil,x.up a fV⟩
  |succ i v=>
   intro hi;obtain⟨r,q⟩:=v E;have hm:u.ai.getD i default∈u.ai:=aX E;have z:=(b _ hm).2;refine⟨(cB.PN (B:=B) a j r (z.mono a (aet _) E) p E).2,?_⟩;have y:Wn D M 1 2 (bQ (u.ai.getD i default).dU*g.getD (u.ai.getD i default).sh.toNat 0):=by have:=(t _ hm).1.mul<|l (u.ai.getD i default).sh.toNat;simpa using this
   have:=q.add y.neg;rw[<-ahG]at this;exact this.le E
 obtain⟨F,C⟩:=c u.ai.length .refl;have hc:=C.one a E;have o:cB D M (m+1) d (w+2+8) (eK (gh sh g u u.ai.length).2 m):=(cB.const hc).mono a A E;have e:=cB.PN (B:=B) a j (F.mono a (aet _)<|show w+2+u.ai.length<=w+2+8 from E) o p E;refine⟨⟨λf h=>(b f h).1,λi hi=>?_,λi hi=>?_,e.1⟩,e.2.mono a (aet _) E⟩;have hm:u.ai.getD i default∈u.ai:=aX E;exact(cB.PN (B:=B) a j (c i E).1 ((b _ hm).2.mono a (aet _) E) p E).1;have:=((c i hi).2.le<|show 1+i<=9 from E).sz a;exact this.mono (by have:=Pn (n:=9) fV;omega)
end
def wB:Nat:=1300000
section
variable{us:L bN}{n m:Nat}(hm:fo us n)(hc:m=aT us)
include hm hc
theorem fo.mle:m+1<=9:=by have:aT us<=us.length:=agk;have:=hm.len;omega
def fo.init:∀i,i<=us.length->∀s,cB (j7 us) (lA us) (m+1) ((jN us n i).getD s 0) 0 ((FK us n m i).getD s [])
 |0,_=>λs=>by have hn:=hm.n0;unfold jN FK Da;rw[ahq,ag5,u7<|by simpa using hn,jq<|by simpa using hn];split;exact cB.var E;rw[acO (l:=List.replicate n ([]:L bq)),ah1];split<;>exact cB.nil
 |i+1,h=>λs=>by have a:=fo.init i E s;have b:=(hm.val _<|aaZ<|show i<us.length from E).out;rw[uD E,FK,az<|show i<us.length from E];split;rw[u7<|by rw[(rm us n i E).1];omega,jq<|by rw[pO];omega];split;exact cB.var (by rw[hc];exact CP us _);exact a;exact a
def fo.Un{k:Nat}(h:k<us.length){w:Nat}(hw:3*w+20<=wB)(H:∀s,cB (j7 us) (lA us) (m+1) ((tj us n k).getD s 0) w<|(gJ us n m k).getD s []):
 ((aS us k).kind=kg->FJ (m+1) (1012*wB+2) (1012*2+2) (gJ us n m k) (cw n us) m (aS us k))/\
 ((aS us k).kind=eJ->FB (m+1) (1012*wB+2) (gJ us n m k) m (aS us k))/\
 ∀s,cB (j7 us) (lA us) (m+1) ((tj us n<|k+1).getD s 0) (3*w+20) ((gJ us n m<|k+1).getD s []):=by
 have v:=hm.base;have O:=hm.mle hc;have R:k<(aA us).length:=by rw[hm.jG];omega
 have ho:=hm.out h;have hu:=hm.val _<|hm.mem h;obtain⟨f1,f2,f3,T⟩:=oJ<|hm.few _<|hm.mem h;obtain⟨d1,d2,d3⟩:=hm.dgS h;obtain⟨l1,F⟩:=hm.dg (k+1) E;obtain⟨p1,X⟩:=hm.dg k E;have V:us.getD ((aA us)[k]).toNat default=aS us k:=by unfold aS;rw[az R]
 have q:=hu.Bc;have p:∀s,cB (j7 us) (lA us) (m+1) ((tj us n<|k+1).getD s 0) (3*w+20) ((gJ us n m k).getD s []):=λs=>(H s).mono v (d2 s) E;have r:gJ us n m (k+1)=mv us (cw n us) m (gJ us n m k) (aA us)[k]:=ov R;by_cases o:(aS us k).kind=kg;have l:(aS us k).kind≠bF:=by rw[o];decide
 have K:(aS us k).ai.length<=8:=by unfold j8 vJ Cd at q;omega
 have y:mf (aS us k)=1:=by unfold mf;rw[aaq<|by rw[o];decide]
 obtain⟨a1,a2⟩:=acy (B:=wB) (d:=(tj us n<|k+1).getD (aS us k).out.toNat 0) v O H (hm.wnQ) (hm.wnS<|hm.mem h)
  (λf hf=>⟨wn3<|T f hf,fP⟩) K (F _).1 (F _).2 E
 refine⟨λ_=>a1,λg=>?_,λs=>?_⟩;rw[o]at g;exact aaF g fV;rw[r];unfold mv;rw[V,aas o,jq<|by rw[jB];omega];split;rename_i e;subst e;exact a2.mono v (aet _) E;exact p s;by_cases C:(aS us k).kind=eJ;have l:(aS us k).kind≠bF:=by rw[C];decide
 unfold j8 vJ Cd at q;rw[aaq l,aaq l,aaq o]at q;have J:1<=(aS us k).cW.length:=by grind
 have y:mf (aS us k)=max 1 (((aS us k).cW.length:Int)-1):=by unfold mf;rw[aas C]
 have z:(aS us k).ai.getD 0 default∈(aS us k).ai:=aX E;have A:=d3 l _ z;have Ed:=X ((aS us k).ai.getD 0 default).sh.toNat;obtain⟨D,x⟩:∃D,(tj us n k).getD ((aS us k).ai.getD 0 default).sh.toNat 0=D:=⟨_,W⟩;rw[x]at A Ed;have u:=cB.Yi (B:=wB) v O (H ((aS us k).ai.getD 0 default).sh.toNat) (by rw[x];exact Ed.2) (wn3 (us:=us)<|T _ z) E;rw[x]at u;have Y:cB (j7 us) (lA us) (m+1) D (w+2) (nH (gJ us n m k)<|aS us k):=u.2.mono v (aet _) E;have N:∀c∈(aS us k).cW.map bQ,Wn (j7 us) (lA us) 1 1 c:=λc hc=>by obtain⟨t,ht,rfl⟩:=abS.1 hc;exact wn3<|f3 t ht
 have P:=F (aS us k).out.toNat;have M:∀j:Nat,j<=(aS us k).cW.length->D*((j:Int)-1)<=(tj us n<|k+1).getD (aS us k).out.toNat 0:=λj hj=>by refine afD (aez ?_ Ed.1) A;rw[y];omega
 have a:=λ(i:Nat)=>N1 (B:=wB) v O Y Ed.1 Ed.2 hw (((aS us k).cW.map bQ).drop i) (λc h=>N c<|agv h) (by simp;omega) (by grind)
 have b:∀i(hi:i<(aS us k).cW.length),((aS us k).cW.map bQ).drop i=bQ ((aS us k).cW.getD i [])::((aS us k).cW.map bQ).drop (i+1):=λi hi=>by rw[acJ<|by simpa using hi,agl,az hi]
 refine⟨λg=>aaF g o,λ_=>⟨u.1,λi hi=>((a i).2 _ _<|b i hi).1,λi hi=>((a i).2 _ _<|b i hi).2⟩,λs=>?_⟩;rw[r];unfold mv;rw[V,aaq o,aas C,jq<|by rw[jB];omega];split;rename_i e;subst e;have S:=(a 0).1 (by rw[b 0 J];simp);rw[aeW]at S;have Z:(((aS us k).cW.map bQ).length-1)*(w+4)<=3*(w+4):=acM _ (by simp;omega);exact S.mono v (M _ I) E;exact p s;refine⟨λg=>aaF g o,λg=>aaF g C,λs=>?_⟩;rw[r];unfold mv;simp_all
def fo.shK:∀k,k<=us.length->∀s,cB (j7 us) (lA us) (m+1) ((tj us n k).getD s 0) (wS k) ((gJ us n m k).getD s [])
 |0,_=>λs=>by have:=hm.init hc us.length .refl s;exact this
 |k+1,h=>by have a:=CZ (k:=k) (by have:=hm.len;omega);exact(hm.Un hc E (by unfold wB;omega)<|fo.shK k E).2.2
end
section
variable{D M κ m B:Nat}
def Yx{sh bo:L (L bq)}{u:bN}{d0 f r:Int}{w v:Nat}(j:rH D M κ)(o:m+1<=9)(hr:bo.length=m)
 (V:cB D M (m+1) d0 w (sh.getD (u.ai.getD 0 default).sh.toNat []))(y:cB D M (m+1) f w (sh.getD (u.ai.getD 1 default).sh.toNat []))
 (Ed:0<=d0/\d0<=6)(V7:0<=f/\f<=6)(H:0<=r/\r<=6)(S:1<=f->d0+(r+f-1)<=6)
 (F:∀i,cB D M (m+1) 6 v<|bo.getD i [])(l:∀i,Cw (sh.getD (u.ai.getD 1 default).sh.toNat []) (i+1)->cB D M (m+1) r v (bo.getD i []))
 (N:Wn D M 1 1 (bQ (u.ai.getD 0 default).dU))(K:Wn D M 1 1 (bQ (u.ai.getD 1 default).dU))(hw:2*w+v+20<=B):
 FC (m+1) (κ*B+2) sh bo u/\∀e,(1<=f->d0+(r+f-1)<=e)->cB D M (m+1) e (2*w+v+20) (Dl sh bo u):=by
 obtain⟨Y,X⟩:∃P,sh.getD (u.ai.getD 0 default).sh.toNat []=P:=⟨_,W⟩;obtain⟨g,z⟩:∃P,sh.getD (u.ai.getD 1 default).sh.toNat []=P:=⟨_,W⟩;rw[X]at V;rw[z]at y l;obtain⟨a,T⟩:∃a:Int,a=if 1<=f then r+f-1 else 0:=⟨_,W⟩;have t:1<=f->a=r+f-1:=λh=>by rw[T,aas h]
 have A0:¬1<=f->a=0:=λh=>by rw[T,aaq h]
 have s:d0+a<=6:=by omega
 have b:∀x,x<m+1->tp (m+1) (κ*B+2) (oq g x)/\cB D M (m+1) (f-1) (w+2) (sP g x):=λx Z=>y.afj j o V7.2 Z E;have k:∀i,i<m->tp (m+1) (κ*B+2) (jT (sP g<|i+1)<|bo.getD i [])/\cB D M (m+1) a (w+v+3) (kv (sP g<|i+1)<|bo.getD i []):=λi hi=>by
  by_cases c:Cw g (i+1);have O:=CI y c;have:=cB.abN (B:=B) j o (b (i+1) E).2 (l i c) E H.2 (by have:=t O;omega) E
  grind
  rw[CO c];exact cB.Vq
 have R:∀i,i<=m->cB D M (m+1) a (w+v+3+i) (jw bo g i):=by
  intro i
  induction i with
  |zero=>intro _;show cB D M (m+1) a (w+v+3) (sP g 0);by_cases c:Cw g 0;have O:=CI y c;exact(b 0 E).2.mono j (by have:=t O;omega) E;rw[CO c];exact cB.nil
  |succ i A=>intro hi;exact(cB.PN (B:=B) j o (A E) ((k i E).2.mono j (aet _) E) E E).2
 have d:cB D M (m+1) a (w+v+3+m) (kn bo g):=by unfold kn;simp_all
 have n:a<=6:=E;have J:=cB.abN (B:=B) j o V d Ed.2 n s E;have hc:Wn D M 1 2 (bQ (u.ai.getD 0 default).dU*bQ (u.ai.getD 1 default).dU):=by simpa using N.mul K
 have C:=cB.Yi (B:=B) j o J.2 s hc E;refine⟨⟨?_,?_,?_,?_⟩,λe he=>?_⟩;rw[z];refine⟨(b 0 E).1,λi hi=>(b (i+1) E).1,λi hi=>(k i E).1,λi hi=>?_,λi hi=>?_⟩;exact(cB.PN (B:=B) j o (R i E) ((k i E).2.mono j (aet _) E) E E).1;have:=cB.tok (B:=B) j o (F i) (aet _) E
 grind
 rw[z];exact cB.tok (B:=B) j o d n E;simp_all;simp_all;unfold Dl;rw[X,z];by_cases c:1<=f;exact C.2.mono j E E;have q:kn bo g=[]:=by
  have p:∀x,¬Cw g x:=λx h=>c<|CI y h;have:∀i,jw bo g i=[]:=by
   intro i
   induction i with
   |zero=>exact CO (p 0)
   |succ i A=>simp[jw];rw[A,CO<|p _];rfl
  exact this _
 have:jr (bQ (u.ai.getD 0 default).dU*bQ (u.ai.getD 1 default).dU) (kv Y<|kn bo g)=[]:=by
  have e2:jT Y []=[]:=by unfold jT;simp
  rw[q];unfold kv jr;rw[e2];rfl
 rw[this];exact cB.nil
end
def FQ(us:L bN)(n k:Nat):L Int:=((aA us).take k).foldl (wj us<|tj us n us.length)<|List.replicate n 0
def UN{us:L bN}{n k:Nat}(h:k<(aA us).length):FQ us n (k+1)=wj us (tj us n us.length) (FQ us n k) ((aA us).getD k 0):=by unfold FQ;rw[ace h,afv,az h];rfl
def KZ{u:bN}{dg:L Int}:∀(a:L Kk){rt:L Int},u.out.toNat<rt.length->
 (a.foldl (kb u dg) rt).length=rt.length/\(∀s,s≠u.out.toNat->(a.foldl (kb u dg) rt).getD s 0=rt.getD s 0)/\rt.getD u.out.toNat 0<=(a.foldl (kb u dg) rt).getD u.out.toNat 0/\
   ∀f∈a,rt.getD f.sh.toNat 0+dg.getD f.sh.toNat 0-1<=(a.foldl (kb u dg) rt).getD u.out.toNat 0
 |[],rt,_=>⟨W,λ_ _=>rfl,aet _,I⟩
 |f::a,rt,c=>by
  have i:∀s,(kb u dg rt f).getD s 0=if s=u.out.toNat then max (rt.getD u.out.toNat 0) (rt.getD f.sh.toNat 0+dg.getD f.sh.toNat 0-1)else rt.getD s 0:=λs=>u7 c;have b:∀s,rt.getD s 0<=(kb u dg rt f).getD s 0:=λs=>by grind
  obtain⟨h,k,e,j⟩:=KZ a (rt:=kb u dg rt f) (by unfold kb;rw[rR];exact c);rw[aeC];refine⟨by rw[h];unfold kb;rw[rR],λs hs=>fP,afD (b _) e,λg d=>?_⟩
  grind
section
variable{us:L bN}{n m:Nat}(hm:fo us n)
section
variable{k s:Nat}
include hm
theorem fo.RY{k:Nat}(h:k<us.length)(hl:(FQ us n k).length=n)(h0:∀s,0<=(FQ us n k).getD s 0):
 (FQ us n<|k+1).length=n/\(∀s,s≠(aS us k).out.toNat->(FQ us n<|k+1).getD s 0=(FQ us n k).getD s 0)/\(∀s,(FQ us n k).getD s 0<=(FQ us n<|k+1).getD s 0)/\
 (∀f∈dm (aS us k),(FQ us n k).getD f.sh.toNat 0+(tj us n us.length).getD f.sh.toNat 0-1+(if(aS us k).kind=bF then(tj us n us.length).getD ((aS us k).ai.getD 0 default).sh.toNat 0 else 0)<=(FQ us n<|k+1).getD (aS us k).out.toNat 0):=by
 have hk:k<(aA us).length:=by rw[hm.jG];omega
 have ho:=hm.out h;have e0:us.getD ((aA us).getD k 0).toNat default=aS us k:=W;obtain⟨g1,g2⟩:=hm.dg us.length<|aaU _;rw[UN hk];unfold wj;rw[e0];obtain⟨q1,q2,q3,q4⟩:=KZ (u:=aS us k) (dg:=tj us n us.length) (dm<|aS us k) (rt:=FQ us n k) E;obtain⟨A,hA⟩:∃A,Qk (aS us k) (tj us n us.length) (FQ us n k)=A:=⟨_,W⟩;have hA':(dm<|aS us k).foldl (kb (aS us k)<|tj us n us.length) (FQ us n k)=A:=hA;rw[hA']at q1 q2 q3 q4;rw[hA];obtain⟨C,hC⟩:∃C,vD (aS us k) (tj us n us.length) A=C:=⟨_,W⟩;have hCs:C.length=n/\∀s,C.getD s 0=if s=(aS us k).out.toNat/\(aS us k).kind=eJ then A.getD s 0+(tj us n us.length).getD s 0 else A.getD s 0:=by
  rw[<-hC];unfold vD
  grind
 rw[hC];have hEs:(tH (aS us k) (tj us n us.length) C).length=n/\∀s,(tH (aS us k) (tj us n us.length) C).getD s 0=if s=(aS us k).out.toNat/\(aS us k).kind=bF then C.getD s 0+(tj us n us.length).getD ((aS us k).ai.getD 0 default).sh.toNat 0 else C.getD s 0:=by
  unfold tH
  grind
 grind
def fo.rt:∀k,k<=us.length->(FQ us n k).length=n/\(∀s,0<=(FQ us n k).getD s 0)/\∀s,(FQ us n k).getD s 0<=6
 |0,_=>by
  unfold FQ
  grind
 |k+1,h=>by obtain⟨g,a,j⟩:=fo.rt k E;obtain⟨d,i,b,-⟩:=hm.RY E g a;refine⟨d,λs=>afD (a s)<|b s,λs=>?_⟩;by_cases c:s=(aS us k).out.toNat;obtain⟨r,-,e,hs⟩:=hm.dgL;obtain⟨z,f⟩:=Option.isSome_iff_exists.1 hs;have:=GZ f k (by rw[hm.jG];omega);rw[e]at this;rw[c];exact this;simp_all
def fo.shS(h:k<us.length)(hs:s≠(aS us k).out.toNat):(gJ us n m<|k+1).getD s []=(gJ us n m k).getD s []:=by
 have a:k<(aA us).length:=by rw[hm.jG];omega
 have b:=hm.out h;have c:us.getD ((aA us)[k]).toNat default=aS us k:=by unfold aS;rw[az a]
 rw[ov a];unfold mv
 grind
def fo.aeN(h:k<=us.length)(hs:∀j,k<=j->j<us.length->s≠(aS us j).out.toNat):(nc us n m).getD s []=(gJ us n m k).getD s []:=by
 unfold nc;rw[hm.jG];have:∀j,j<=us.length->k<=j->(gJ us n m j).getD s []=(gJ us n m k).getD s []:=by
  intro j
  induction j with
  |zero=>simp_all
  |succ j b=>intro d a;by_cases c:k=j+1;subst c;rfl;rw[hm.shS E<|hs j E E];grind
 simp_all
def fo.shP(h:k<=us.length)(hs:s=0\/∃j,j<k/\(aS us j).out.toNat=s):(nc us n m).getD s []=(gJ us n m k).getD s []:=by refine hm.aeN h λj d a e=>?_;have c:=hm.out a;rcases hs with rfl|⟨i,hi,f⟩;omega;have b:=hm.out (show i<us.length from E);have:=hm.outs (show i<us.length from E) a E;omega
def fo.shV{i:Nat}(hi:i<us.length)(b:us[i].kind=bF):∀j,j<=us.length->i<j->(FK us n m j).getD us[i].out.toNat []=rJ (fM us<|i+1) m
 |0,_,h=>E
 |j+1,f,h=>by have d:=(hm.val _<|aaZ<|show j<us.length from E).out;rw[FK,az<|show j<us.length from E];by_cases c:i=j;subst c;rw[aas b,jq<|by rw[pO];omega,aas W];have a:=fo.shV hi b j E E;split;rw[jq<|by rw[pO];omega,aaq λe=>c<|hm.inj hi E E];exact a;exact a
def fo.sh0:∀j,j<=us.length->(FK us n m j).getD 0 []=rJ 0 m
 |0,_=>by have:=hm.n0;unfold FK Da;simp_all
 |j+1,b=>by have a:=(hm.val _<|aaZ<|show j<us.length from E).out;rw[FK,az<|show j<us.length from E];split;rw[jq<|by rw[pO];omega,aaq E];exact fo.sh0 j E;exact fo.sh0 j E
def fo.aeP:(nc us n m).getD 0 []=rJ 0 m:=by rw[hm.shP (k:=0) (aaQ _)<|.inl W];exact hm.sh0 _ .refl
def fo.aeO(h:k<us.length)(f:(aS us k).kind=bF):(nc us n m).getD (aS us k).out.toNat []=rJ (fM us ((aA us).getD k 0).toNat+1) m:=by
 have a:=hm.idx h;have b:=f;rw[hm.eq h]at b;have p:(gJ us n m 0).getD (aS us k).out.toNat []=rJ (fM us ((aA us).getD k 0).toNat+1) m:=by unfold gJ;rw[ahq,ag5,hm.eq h,hm.shV a b _ .refl a,mH a,aas b]
 have:∀j,j<=us.length->(gJ us n m j).getD (aS us k).out.toNat []=(gJ us n m 0).getD (aS us k).out.toNat []:=by
  intro j
  induction j with
  |zero=>intro _;rfl
  |succ j g=>
   intro l;by_cases c:j=k;subst c;have d:j<(aA us).length:=by rw[hm.jG];omega
   have i:us.getD ((aA us)[j]).toNat default=aS us j:=by unfold aS;rw[az d]
   rw[ov d];unfold mv;rw[i,aaq<|by rw[f];decide,aaq<|by rw[f];decide];exact g E;rw[hm.shS E λe=>c ?_];exact g E;have o:=hm.out h;exact hm.outs E h E
 unfold nc;rw[hm.jG];simp_all
end
end
def JY{us:L bN}{i j:Nat}(b:i<j)(d:j<=us.length)(a:(us.getD i default).kind=bF):fM us i<fM us j:=by
 have c:=mH (us:=us) (i:=i) E;rw[az E]at a;rw[aas a]at c;have e:fM us (i+1)<=fM us j:=by exact List.Sublist.countP_le<|List.take_sublist_take_left E
 omega
def aeI{k:Nat}(h:k<8):2*65600+k*131220+20<=wB:=by unfold wB;omega
def aeH(k:Nat):2*65600+k*131220+20<=(k+1)*131220:=E
def XK(k:Nat):k*131220<=(k+1)*131220:=acM _<|agt k
section
variable{us:L bN}{n m:Nat}(hm:fo us n)(hc:m=aT us)
include hm hc
theorem fo.abh(s:Nat):cB (j7 us) (lA us) (m+1) ((tj us n us.length).getD s 0) 65600 ((nc us n m).getD s []):=by have h:=hm.shK hc us.length .refl s;unfold nc;rw[hm.jG];exact h.mono hm.base (aet _)<|CZ hm.len
def fo.occ{k:Nat}(h:k<us.length){v:Nat}(g:Cw ((nc us n m).getD (aS us k).out.toNat []) v):
 ((aS us k).kind=bF/\v=fM us ((aA us).getD k 0).toNat+1)\/((aS us k).kind≠bF/\∃f∈(aS us k).ai,Cw ((nc us n m).getD f.sh.toNat []) v):=by
 have M:k<(aA us).length:=by rw[hm.jG];omega
 have K:=hm.out h;by_cases r:(aS us k).kind=bF;rw[hm.aeO h r]at g;exact .inl ⟨r,Qr g⟩;refine .inr ⟨r,?_⟩;have hu:=hm.val _<|hm.mem h;have s:dm (aS us k)=(aS us k).ai:=by unfold dm;rw[aaq r]
 have p:∀f∈(aS us k).ai,(gJ us n m k).getD f.sh.toNat []=(nc us n m).getD f.sh.toNat []:=λf N=>by
  have J:=hu.feed f N;refine(hm.shP E ?_).symm;rcases hm.before h (by rw[s];exact N) ⟨J.1,J.2.1⟩with e|⟨j,hj,e⟩;left;omega
  grind
 rw[hm.shP (k:=k+1) E<|.inr ⟨k,E,W⟩,ov M]at g;have e0:us.getD ((aA us)[k]).toNat default=aS us k:=by unfold aS;rw[az M]
 unfold mv at g;rw[e0]at g;have X:=hm.shK hc k E;obtain⟨-,f2,f3,Z⟩:=oJ<|hm.few _<|hm.mem h;by_cases x:(aS us k).kind=kg;rw[aas x,jq<|by rw[jB];omega,aas W]at g;have key:∀i,i<=(aS us k).ai.length->Cw (gh (gJ us n m k) (cw n us) (aS us k) i).1 v->∃f∈(aS us k).ai,Cw ((gJ us n m k).getD f.sh.toNat []) v:=by
  intro i
  induction i with
  |zero=>rintro _⟨u,hu,_⟩;simp[gh]at hu
  |succ i F=>intro hi h;rcases Jd (tY h)with h|h;exact F E h;exact⟨_,aX E,Qs h⟩
 rcases Jd (tY g)with g|g
 grind
 exact aaF g Hj;have w:(aS us k).kind=eJ:=by rcases hu.kind with e|e|e;exact aaF e r;exact aaF e x;exact e
 rw[aaq x,aas w,jq<|by rw[jB];omega,aas W]at g;obtain⟨S,P,-⟩:=hu.table w;have l:(aS us k).ai.getD 0 default∈(aS us k).ai:=aX E;refine⟨_,l,?_⟩;rw[<-p _ l];have D:=hm.base;have O:=hm.mle hc;have Ed:=(hm.dg k E).2 ((aS us k).ai.getD 0 default).sh.toNat;have y:=cB.Yi (B:=wB) D O (X ((aS us k).ai.getD 0 default).sh.toNat) Ed.2 (wn3 (us:=us)<|Z _ l) (by have:=CZ (k:=k) (by have:=hm.len;omega);unfold wB;omega);have H:cB (j7 us) (lA us) (m+1) _ _ (nH (gJ us n m k)<|aS us k):=y.2;have V:=hm.dgS h;have z:=V.2.2 r _ l;have A:mf (aS us k)=max 1 (((aS us k).cW.length:Int)-1):=by unfold mf;rw[aas w]
 have q:=((hm.dg (k+1) E).2 (aS us k).out.toNat).2;have key:∀o:L Rat,(∀c∈o,Wn (j7 us) (lA us) 1 1 c)->o.length<=(aS us k).cW.length->Cw (j0 m (nH (gJ us n m k)<|aS us k) o) v->Cw (nH (gJ us n m k)<|aS us k) v:=by
  intro o
  induction o with
  |nil=>rintro _ _⟨u,hu,_⟩;simp[j0]at hu
  |cons c o F=>
   intro C hl h;rw[abo]at hl;rcases Jd (tY h)with h|h;by_cases e:o=[];subst e;obtain⟨u,hu,_⟩:=h;simp[kv,jT,fj]at hu;have Y:=(N1 (B:=wB) D O (H.mono D (aet _)<|show 1+wS k+1<=wS k+2 from E) Ed.1 Ed.2 (by have:=CZ (k:=k) (by have:=hm.len;omega);unfold wB;omega) o (λd T=>C d<|by simp[T]) E (by refine afD (afD (aez (a:=(o.length:Int)-1) (b:=mf<|aS us k) ?_ Ed.1) z) q;rw[A];omega)).1 e
   rcases YF Y.pw H.pw h with h|h
   grind
   exact h;exact aaF h Hj
 exact Qs<|key _ (λc hc=>by obtain⟨t,R,rfl⟩:=abS.1 hc;exact wn3<|f3 t R) I g
def fo.bo:∀k,k<=us.length->
 (∀i,cB (j7 us) (lA us) (m+1) 6 (k*131220)<|(fC us n m k).getD i [])/\
 (∀s,(s=0\/∃j,j<k/\(aS us j).out.toNat=s)->∀i,Cw ((nc us n m).getD s []) (i+1)->cB (j7 us) (lA us) (m+1) ((FQ us n k).getD s 0) (k*131220) ((fC us n m k).getD i [])/\∃j,j<k/\(aS us j).kind=bF/\fM us ((aA us).getD j 0).toNat=i)/\
 (∀j,j<k->(aS us j).kind=bF->FC (m+1) (1012*wB+2) (nc us n m) (fC us n m j) (aS us j))
 |0,_=>by
  have z:∀i,(fC us n m 0).getD i []=[]:=λi=>by
   unfold fC
   grind
  refine⟨λi=>by rw[z];exact cB.nil,λs hs i l=>?_,λj C=>E⟩;rcases hs with rfl|⟨j,C,-⟩;rw[hm.aeP]at l;have:=Qr l;omega;omega
 |k+1,h=>by
  obtain⟨r1,H,r3⟩:=fo.bo k E;have J:k<(aA us).length:=by rw[hm.jG];omega
  have F:=hm.base;have hV:=hm.mle hc;have A:=hm.len;have A0:=hm.out (show k<us.length from E);have hu:=hm.val _<|hm.mem<|show k<us.length from E;obtain⟨t1,Z,t3⟩:=hm.rt k E;obtain⟨q1,q2,q3,q4⟩:=hm.RY (show k<us.length from E) t1 Z;obtain⟨u1,u2,u3⟩:=hm.rt (k+1) h;have e0:us.getD ((aA us)[k]).toNat default=aS us k:=by unfold aS;rw[az J]
  have eo:(aA us)[k]=(aA us).getD k 0:=(az J).symm;have x:∀i,cB (j7 us) (lA us) (m+1) 6 ((k+1)*131220) ((fC us n m k).getD i []):=λi=>(r1 i).mono F (aet _)<|XK k;have P:∀s,(s=0\/∃j,j<k/\(aS us j).out.toNat=s)->s≠(aS us k).out.toNat:=λs hs e=>by rcases hs with rfl|⟨j,C,e2⟩;omega;have F0:=hm.out (show j<us.length from E);have:=hm.outs (show j<us.length from E) (show k<us.length from E) E;omega
  have a:fC us n m (k+1)=pP us (nc us n m) (fC us n m k) (aA us)[k]:=wi J;have p:∀f∈dm (aS us k),f.sh.toNat=0\/∃j,j<k/\(aS us j).out.toNat=f.sh.toNat:=λf X=>by
   have S:f∈(aS us k).ai:=by
    unfold dm at X
    grind
   have hv:=hu.feed f S;rcases hm.before (show k<us.length from E) X ⟨hv.1,hv.2.1⟩with e|⟨j,C,e⟩;left;omega
   grind
  by_cases o:(aS us k).kind=bF;obtain⟨F1,-⟩:=hu.int o;have V:(aS us k).ai.getD 0 default∈(aS us k).ai:=aX E;have T:(aS us k).ai.getD 1 default∈(aS us k).ai:=aX E;have b:(aS us k).ai.getD 1 default∈dm (aS us k):=by unfold dm;rw[aas o,az E];refine List.mem_drop_iff_getElem.2 ⟨0,E,W⟩
  obtain⟨-,-,-,f4⟩:=oJ<|hm.few _<|hm.mem<|show k<us.length from E;have hd:=(hm.dg us.length<|aaU _).2;have O:=q4 _ b;rw[aas o]at O;have E2:=u3 (aS us k).out.toNat;obtain⟨ok,new⟩:=Yx (B:=wB) (u:=aS us k) (r:=(FQ us n k).getD ((aS us k).ai.getD 1 default).sh.toNat 0) F hV (jo us n m k) (hm.abh hc _) (hm.abh hc _) (hd _) (hd _) ⟨Z _,t3 _⟩ (λ_=>E) r1
   (λi l=>(H _ (p _ b) i l).1) (wn3 (us:=us)<|f4 _ V) (wn3 (us:=us)<|f4 _ T) (aeI<|acW h A)
  have D:=hm.idx (show k<us.length from E);have Y:fM us ((aA us).getD k 0).toNat<m:=by
   have h1:=JY (us:=us) D (aaU _) (by grind)
   have h2:=CP us us.length;rw[hc];omega
  have g:∀i,(fC us n m<|k+1).getD i []=if i=fM us ((aA us).getD k 0).toNat then Dl (nc us n m) (fC us n m k) (aS us k)else(fC us n m k).getD i []:=λi=>by rw[a];unfold pP;rw[e0,aas o,eo,jq<|by rw[jo];exact Y]
  have E1:=aeH k;refine⟨λi=>?_,λs hs i l=>?_,λj C kj=>?_⟩
  grind
  by_cases c:s=(aS us k).out.toNat;subst c;have hi:i=fM us ((aA us).getD k 0).toNat:=by rcases hm.occ hc (show k<us.length from E) l with⟨-,e⟩|⟨e,-⟩;omega;exact aaF o e
  grind
  have q:s=0\/∃j,j<k/\(aS us j).out.toNat=s:=by grind
  obtain⟨w,j,K,v,t⟩:=H s q i l;have R:i≠fM us ((aA us).getD k 0).toNat:=by
   rw[<-t];intro e;have F2:=hm.idx (show j<us.length from E);have N:(us.getD ((aA us).getD j 0).toNat default).kind=bF:=v;have M:(us.getD ((aA us).getD k 0).toNat default).kind=bF:=o;rcases Nat.lt_trichotomy ((aA us).getD j 0).toNat ((aA us).getD k 0).toNat with c2|c2|c2;have:=JY c2 E N;omega;have h1:=fI _<|aX (d:=0)<|show j<(aA us).length by rw[hm.jG];omega
   have h2:=fI _<|aX (d:=0) J;have:=hm.adt (agz K h) h (by grind);omega;have:=JY c2 E M;omega
  refine⟨?_,j,E,v,t⟩;rw[g,aaq R,q2 s c];exact w.mono F (aet _)<|XK k
  grind
  have g:fC us n m (k+1)=fC us n m k:=by rw[a];unfold pP;rw[e0,aaq o]
  rw[g];refine⟨x,λs hs i l=>?_,λj C kj=>?_⟩;by_cases c:s=(aS us k).out.toNat;subst c;rcases hm.occ hc (show k<us.length from E) l with⟨e,-⟩|⟨-,f,X,y⟩;exact aaF e o;have b:f∈dm (aS us k):=by unfold dm;grind
  obtain⟨w,j,K,v,t⟩:=H _ (p f b) i y;have B0:=CI (hm.abh hc f.sh.toNat) y;have O:=q4 f b;rw[aaq o]at O;exact⟨w.mono F E<|XK k,j,E,v,t⟩;have q:s=0\/∃j,j<k/\(aS us j).out.toNat=s:=by grind
  obtain⟨w,j,K,v,t⟩:=H s q i l;rw[q2 s c];exact⟨w.mono F (aet _)<|XK k,j,E,v,t⟩
  grind
def fo.read:Xv (m+1) (1012*wB+2) (1012*2+2) us n m:=by
 have r:=hm.base;have q:=hm.mle hc;have o:=hm.len;have c:∀{l:L (L bq)}{p:L bq},p∈l->∃s,p=l.getD s []:=λ{l p}h=>by obtain⟨s,hs,rfl⟩:=af7 h;exact⟨s,(az hs).symm⟩
 have e:∀k(h:k<(aA us).length),us.getD ((aA us)[k]).toNat default=aS us k:=λk h=>by unfold aS;rw[az h]
 refine⟨λk a p d=>?_,λk a p d=>?_,λk a j=>?_,λk a f=>?_,λk a g=>?_⟩;rw[hm.jG]at a;obtain⟨s,rfl⟩:=c d;exact cB.tok (B:=wB) r q (hm.shK hc k a s) ((hm.dg k a).2 s).2 (by have:=CZ (k:=k) E;unfold wB;omega);rw[hm.jG]at a;obtain⟨i,rfl⟩:=c d;exact cB.tok (B:=wB) r q ((hm.bo hc k a).1 i) (aet _) (by unfold wB;omega)
 have b:k<us.length:=by rw[<-hm.jG];exact a
 rw[e k a]at j⊢;exact(hm.Un hc b (by have:=CZ (k:=k) E;unfold wB;omega)<|hm.shK hc k E).1 j;have b:k<us.length:=by rw[<-hm.jG];exact a
 rw[e k a]at f⊢;exact(hm.Un hc b (by have:=CZ (k:=k) E;unfold wB;omega)<|hm.shK hc k E).2.1 f;have b:k<us.length:=by rw[<-hm.jG];exact a
 rw[e k a]at g⊢;exact(hm.bo hc us.length .refl).2.2 k b g
end
def MH(p:jZ):Bool:=Ca p&&decide (zW (nc p.aa p.n.toNat (aT p.aa)++(Bk p.aa p.n.toNat<|aT p.aa).bo)=0)
def LB{p:jZ}(h:Ca p=true):fo p.aa p.n.toNat/\p.n=p.n.toNat:=by unfold Ca at h;rw[abi,abi,decide_eq_true_eq,acZ]at h;obtain⟨⟨i,m,a⟩,f,d⟩:=h;obtain⟨l,k,j,b⟩:=Lf a;have e:p.n=p.n.toNat:=E;unfold dH at a;rw[aaq E,aaq E]at a;split at a;rename_i g;exact aaF a g;split at a;cases a;split at a;cases a;split at a;cases a;split at a;cases a;rename_i c;split at a;cases a;exact⟨⟨i,E,E,λu hu=>by rw[<-e];exact b u hu,agF.1 c,E,f,d⟩,e⟩
def ad0(p:jZ)(h:AS p):ab 42 [bI p,.i 8] (.u<|MH p):=by
 refine cp func42 W<|ck W W (Jj p h) W<|r0 W<|iC 8 W ?_ ?_<;>intro g;obtain⟨hm,e⟩:=LB g;have d:=hm.read (m:=aT p.aa) W;have j:=hm.n9;have c:=hm.n0;have f:=hm.len;have a:∀u∈p.aa,iq p.n u:=λu hu=>by rw[e];exact hm.val u hu
 refine ck W W (Di p h p.n.toNat (aT p.aa) e W c E E a d (by unfold wB;decide) fV<|by unfold wB;decide) W ?_;refine ck W W (yj (Bk p.aa p.n.toNat<|aT p.aa) (nc p.aa p.n.toNat<|aT p.aa) (V:=aT p.aa+1) (K:=1012*wB+2) (λq b=>?_) ?_<|by unfold wB;decide) W ?_;rcases ac6.1 b with b|b;have:=d.sh _ (aaU _) q b;exact⟨this.1,agz this.2 fV⟩;have:=d.rt _ (aaU _) q b;exact⟨this.1,agz this.2 fV⟩;unfold nc;rw[jB];have:(Bk p.aa p.n.toNat<|aT p.aa).bo.length=aT p.aa:=jo _ _ _ _;have k:aT p.aa<=p.aa.length:=agk;omega;refine b7 W W<|aij SV.u ?_;unfold MH;rw[g,aeD];refine b7 W W ?_;unfold MH;rw[g];rfl
def oI(u:bN):Bool:=decide (u.kind.length<=30/\u.ai.length<=12/\u.cW.length<=20/\u.k.length<=14)&&((u.ai.all λf=>decide (f.dU.length<=14))&&u.cW.all λc=>decide (c.length<=14))
def Dv(p:jZ):Prop:=¬(12<p.aa.length/\p.aa.length<=96)/\p.aa.length<=110/\p.ints.length<=40
instance(p:jZ):Decidable (Dv p):=by unfold Dv;infer_instance
def sy(p:jZ):Bool:=decide (Dv p)&&(p.aa.all oI&&(decide (dH p≠0)||MH p))
structure PSz(p:jZ):Prop where
 aa:p.aa.length<=9223372036854775807
 ints:p.ints.length<=9223372036854775807
 kind:∀u∈p.aa,u.kind.length<=9223372036854775807
 ai:∀u∈p.aa,u.ai.length<=9223372036854775807
 cW:∀u∈p.aa,u.cW.length<=9223372036854775807
 k:∀u∈p.aa,u.k.length<=9223372036854775807
 dU:∀u∈p.aa,∀f∈u.ai,f.dU.length<=9223372036854775807
 N0:∀u∈p.aa,∀c∈u.cW,c.length<=9223372036854775807
def LQ{p:jZ}(a:Dv p)(h:p.aa.all oI=true):AS p:=by rw[acZ]at h;refine⟨by have:=a.2.1;omega,λu hu=>?_,by have:=a.2.2;omega⟩;have:=h u hu;unfold oI at this;simp at this;obtain⟨⟨_,j,i,g⟩,e,d⟩:=this;exact⟨E,λf b=>by have:=e f b;unfold dI;omega,by unfold dI;omega,E,λc hc=>by have:=d c hc;unfold dI;omega⟩
def Y0(p:jZ)(e:PSz p):ab 7 [bI p] (.u<|sy p):=by
 have hl:=e.aa;have hi:=e.ints;have d:¬Dv p->sy p=false:=λh=>by unfold sy;simp_all
 refine cp func7 W ?_;have ret:∀(h:sy p=false),false=sy p:=λh=>h.symm;refine cQ 2 [(1,.box true<|bI p)] (Dv p) ?_ λz=>?_;refine b6 W 13 W ?_ ?_<;>intro g1;refine b6 W 19 W ?_ ?_<;>intro g2;refine b7 W W<|ret<|d λh=>h.1 ⟨E,E⟩;refine b6 W 25 W ?_ ?_<;>intro q;refine b7 W W<|ret (d λh=>by have:=h.2.1;omega);refine cm W W ?_ ?_<;>intro o;refine b7 W W<|ret (d λh=>by have:=h.2.2;omega);refine r0 W<|bm ⟨λh=>E,E,E⟩;refine b6 W 25 W ?_ ?_<;>intro q;refine b7 W W<|ret (d λh=>by have:=h.2.1;omega);refine cm W W ?_ ?_<;>intro o;refine b7 W W<|ret (d λh=>by have:=h.2.2;omega);refine r0 W<|bm ⟨λh=>E,E,E⟩;have s:sy p=(p.aa.all oI&&(decide (dH p≠0)||MH p)):=by unfold sy;simp_all
 rw[s];clear ret d s;refine r0 W<|ba (λi:Nat=>[(1,.box true<|bI p),(32,aic p.aa),(33,.i p.aa.length),(34,.i i)]) (λi=>i<=p.aa.length/\p.aa.all oI=(p.aa.drop i).all oI) (λi=>p.aa.length-i) 0 ⟨aaQ _,W⟩ ?_;rintro i⟨B,t⟩;refine cm W W ?_ ?_<;>intro g1;have g:i<p.aa.length:=E;have y:(i:Int).toNat=i:=E;have D:p.aa.getD i default=p.aa[i]:=az g;have a:=aaZ g;have k1:=e.kind _ a;have k2:=e.ai _ a;have k3:=e.cW _ a;have k4:=e.k _ a;have k5:=e.dU _ a;have k6:=e.N0 _ a;rw[acJ g,ac4]at t;rw[t];refine r1 W (by simp only[aj,aag,y]<;>omega) ?_;rw[y,D];generalize p.aa[i]=u at*;have d:(¬(u.kind.length<=30/\u.ai.length<=12/\u.cW.length<=20/\u.k.length<=14))->oI u=false:=λh=>by unfold oI;grind
 have ret:oI u=false->false=(oI u&&(p.aa.drop<|i+1).all oI&&(decide (dH p≠0)||MH p)):=λh=>by rw[h];rfl
 refine aF 42 W ?_ ?_<;>intro g2;refine b7 W W<|ret<|d λh=>E;refine b6 W 48 W ?_ ?_<;>intro q;refine b7 W W<|ret<|d λh=>E;refine b6 W 54 W ?_ ?_<;>intro o;refine b7 W W<|ret<|d λh=>E;refine cm W W ?_ ?_<;>intro C;refine b7 W W<|ret<|d λh=>E;have s:oI u=((u.ai.all λf=>decide (f.dU.length<=14))&&u.cW.all λc=>decide (c.length<=14)):=by unfold oI;grind
 rw[s];clear ret d;refine r0 W<|ba (λk:Nat=>[(1,.box true<|bI p),(32,aic p.aa),(33,.i p.aa.length),(34,.i i),(4,.box true<|dZ u),(61,aie u.ai),(62,.i u.ai.length),(63,.i k)]) (λk=>k<=u.ai.length/\(u.ai.all λf=>decide (f.dU.length<=14))=(u.ai.drop k).all λf=>decide (f.dU.length<=14)) (λk=>u.ai.length-k) 0 ⟨aaQ _,W⟩ ?_;rintro k⟨A,l⟩;refine cm W W ?_ ?_<;>intro w;have b:k<u.ai.length:=E;have r:(k:Int).toNat=k:=E;have x:u.ai.getD k default=u.ai[k]:=az b;have k7:=k5 _<|aaZ b;rw[acJ b,ac4]at l;rw[l];refine r1 W (by simp only[aj,aag,r]<;>omega) ?_;rw[r,x];generalize u.ai[k]=f at*;refine bY W ?_ ?_<;>intro v;refine b7 W W ?_;show false=_
 grind
 rw[show decide (f.dU.length<=14)=true from decide_eq_true E,aeD];refine r1 W bk<|aM (k+1) ⟨E,W⟩;have:k=u.ai.length:=E;subst this;rw[l,aeM,agu,aeD];refine r0 W<|ba (λk:Nat=>[(1,.box true<|bI p),(32,aic p.aa),(33,.i p.aa.length),(34,.i i),(73,.strs false u.cW),(74,.i u.cW.length),(75,.i k)]) (λk=>k<=u.cW.length/\(u.cW.all λc=>decide (c.length<=14))=(u.cW.drop k).all λc=>decide (c.length<=14)) (λk=>u.cW.length-k) 0 ⟨aaQ _,W⟩ ?_;rintro k⟨A,j⟩;refine cm W W ?_ ?_<;>intro w;have b:k<u.cW.length:=E;have r:(k:Int).toNat=k:=E;have x:u.cW.getD k []=u.cW[k]:=az b;have k7:=k6 _<|aaZ b;rw[acJ b,ac4]at j;rw[j];refine r1 W (by simp only[aj,aag,r]<;>omega) ?_;rw[r,x];generalize u.cW[k]=c at*;refine bY W ?_ ?_<;>intro v;refine b7 W W ?_;show false=_
 grind
 rw[show decide (c.length<=14)=true from decide_eq_true E,aeD];refine r1 W bk<|aM (k+1) ⟨E,W⟩;have:k=u.cW.length:=E;subst this;rw[j,aeM,agu,aeD];refine r1 W bk<|aM (i+1) ⟨E,W⟩;have:i=p.aa.length:=E;subst this;rw[t,aeM,agu,aeD];refine r0 W ?_;have n:p.aa.all oI=true:=fP;have m:AS p:=LQ z n;refine bW W (nO p m) W<|b6 W 87 W ?_ ?_<;>intro g2;refine b7 W W ?_;show true=_;simp_all;refine ck W W (ad0 p m) W<|b7 W W<|aij SV.u ?_;simp_all
def A8(s:jh):Bool:=decide (s.lo.length<=24/\s.hi.length<=24)
def QV(l:L jh):Bool:=l.all A8&&decide (l.length<=110)
def ab5(l:L jh)(hl:l.length<=9223372036854775807)(h:∀s∈l,s.lo.length<=9223372036854775807/\s.hi.length<=9223372036854775807):ab 8 [aib l] (.u<|QV l):=by
 refine cp func8 W<|r0 W ?_;unfold QV;refine ba (λi:Nat=>[(0,aib l),(5,aib l),(6,.i l.length),(7,.i i)]) (λi=>i<=l.length/\l.all A8=(l.drop i).all A8) (λi=>l.length-i) 0 ⟨aaQ _,W⟩ ?_;rintro i⟨hi,b⟩;refine cm W W ?_ ?_<;>intro g1;have a:i<l.length:=E;have c:(i:Int).toNat=i:=E;have e:l.getD i default=l[i]:=az a;rw[acJ a,ac4]at b;rw[b];refine r1 W (by simp[aj,aag,c]<;>omega) ?_;rw[c,e];generalize l[i]=s at*;have ret:A8 s=false->false=(A8 s&&(l.drop<|i+1).all A8&&decide (l.length<=110)):=λh=>by rw[h];rfl
 refine aF 15 W ?_ ?_<;>intro g2;refine b7 W W<|ret<|decide_eq_false E;refine cm W W ?_ ?_<;>intro d;refine b7 W W<|ret<|decide_eq_false E;have f:A8 s=true:=decide_eq_true E;rw[f,aeD];refine r1 W bh<|aM (i+1) ⟨E,W⟩;have:i=l.length:=E;subst this;rw[b,aeM,agu,aeD];refine b7 W W<|aij SV.u<|decide_eq_decide.2 E
section
variable{R:Q Nat->Prop}{P:Program}{N:Nat}{F:St->Prop}{k:L It}{l:a7}
section
variable{K:L (Nat×SV)}{Z h p0 r:Nat}{v y:SV}
def Dw:L (Nat×SV)->Bool
 |[]=>true
 |(_,x)::r=>dt x.plain<|Dw r
def DB(z:Nat):L (Nat×SV)->Bool
 |[]=>true
 |(i,_)::r=>dt (ne' i z)<|DB z r
def tT:∀{K:L (Nat×SV)},Dw K=true->∀i,(dn (sl K) i).av.plain=true
 |[],_,i=>rfl
 |(j,x)::K,h,i=>by simp[Dw,aW]at h;simp[sl,fb];by_cases e:i=j;subst e;rw[aI];simp[Cl.den,cU];exact h.1;rw[ar _ _ e];exact tT h.2 i
def o8{z:Nat}:∀{K:L (Nat×SV)},DB z K=true->(dn (sl K) z).av=.dead
 |[],_=>rfl
 |(j,x)::K,h=>by simp[DB,aW,ne_iff]at h;simp[sl,fb];rw[ar _ _ λe=>h.1 e.symm];exact o8 h.2
def V3(r p0:Nat)(v:SV)(q:Path)(K:L (Nat×SV)):L (Nat×SV):=(p0,.ptr r 0 0 q)::(r,v)::K
def Hg(r p0 Z h:Nat)(v y:SV)(s:Path)(K:L (Nat×SV)):L (Nat×SV):=(h,.bw Z 0 0 [])::(Z,y)::(p0,.ptr Z 0 0 s)::(r,v)::K
def QJ{q:Path}:dn (sl<|V3 r p0 v q K)=XB (dn<|sl K) r p0 v.den q:=by simp[V3,sl,fb,XB,Cl.den,SV.den]
def Lm{s:Path}:dn (sl<|Hg r p0 Z h v y s K)=xw (dn<|sl K) r p0 Z h v.den y.den s:=by simp[Hg,sl,fb,xw,Cl.den,SV.den]
def acE(L:List (Nat×SV))(σ:St):Prop:=∃l,σ=dn l/\ta l L
def Ys{c:Code}{g K2:L (Nat×SV)}{Q f:Path}{i b:Nat}{j v3 y2:SV}{v1 v2:(Value->Prop)->SV}{sz t:Nat}{xs ys:L AV}{u:SV}{ob:L Pd}
 (hn:Names N r p0 Z h)(q:dt (Dw g) (dt (DB Z g)<|DB h g)=true)(p:dt (Dw K2) (dt (DB Z K2)<|DB h K2)=true)(A:j.plain=true)(z:∀C,(v2 C).plain=true)
 (hg:iv j Q=some ([],y))(S:y.den=.list .own sz xs)(hs:∀C,me j Q (.pv C)=some ([],v1 C))(J:iv j (Q++.idx i b::f)=some (ob,u))(B:aj ob)
 (D:∀C,iv (v2 C) Q=some ([],.pv C))(m:y2.den=.list .own t ys)(x:∀C,me (v2 C) Q y2=some ([],v3))(H:flat (.idx i b::f)=true)
 (hc:∀C,AK R P N (λ_=>False) [.code c,.inv<|acE<|Hg r p0 Z h (v2 C) y2 (.idx i b::f) K2]<|sl<|Hg r p0 Z h (v1 C) y (.idx i b::f) g)
 (hk:AK R P N F k (sl<|V3 r p0 v3 (Q++.idx i b::f) K2)):AK R P N F (.code c::k) (sl<|V3 r p0 j (Q++.idx i b::f) g):=by
 rw[aW,aW]at q p;intro V w0 S0 a w O hi;rw[QJ]at hi;obtain⟨v,Y⟩:=R4 (av1:=λC=>(v1 C).den) hn (tT q.1) (o8 q.2.1) (o8 q.2.2) (by rw[cU];exact A) (by rw[cY hg U,S]) (λC=>gu (hs C) U) ⟨_,cY J B⟩ hi.x;have d:=hc (·=v);have d:AW R P N c (gK R P N (λ_=>False) [.inv (acE (Hg r p0 Z h (v2 (·=v)) y2 (.idx i b::f) K2))]) (dn (sl (Hg r p0 Z h (v1 (·=v)) y (.idx i b::f) g))):=d;rw[Lm,S]at d;have M:R (V.CY Z h v).rd/\lE P (V.CY Z h v) w0:=⟨O.1,⟨O.2.laid,O.2.apart⟩⟩;have X:=d.x (V:=V.CY Z h v) (w0:=w0) (S0:=S0) (a:=a) (w:=w) M Y;refine wpIn_mono X λe a' w'⟨s,he,T⟩=>?_;cases e with
 |normal=>obtain⟨l2,rfl,hf⟩:=(he:acE _ s);have o:=T.fit hf.Km;rw[Lm,m]at o;have n:=Ol (av3:=v3.den) hn (tT p.1) (o8 p.2.1) (o8 p.2.2) (by rw[cU];exact z _) (cY (D _) U) (by rw[<-m];exact gu (x _) U) H o;rw[<-QJ]at n;exact⟨_,hk,n⟩
 |_=>exact(he:False).elim
end
end
section
variable{P:Program}
section
variable{α:Type}{t:TypeId}{G:α->Prop}{E:α->SV}
def ir(P:Program)(t:TypeId)(E:α->SV)(G:α->Prop):Prop:=
 ∀{H:Type}{enc:TypeId×Value->H}{w:World}{fuel:Nat}{cs:L Value}{x:DataW H×L MemPlace},DataW.trod enc P w 0 (λ_=>true) true fuel t cs=some x->
  ∃(a:α)(v:Value),G a/\cs=[v]/\v.oneCell'=true/\∀S:Nat->Prop,(∀b,b<w.heap.size->S b)->Rel w S (E a).den v []
def Xw(P:Program)(t:TypeId)(sz:Nat)(E:α->SV)(G:α->Prop):Prop:=
 ∀{H:Type}{enc:TypeId×Value->H}{w:World}{fuel:Nat}{cs:L Value}{x:DataW H×L MemPlace},DataW.trod enc P w 0 (λ_=>true) true fuel t cs=some x->
  ∃(a:α)(v:Value),G a/\cs=v.cells.toList/\v.cells.size=sz/\∀S:Nat->Prop,(∀b,b<w.heap.size->S b)->Rel w S (E a).den v []
def ir.wide(h:ir P t E G):Xw P t 1 E G:=λc=>by obtain⟨a,v,f,e,b,d⟩:=h c;exact⟨a,v,f,by rw[cells_one b];exact e,by rw[cells_one b];rfl,d⟩
def ir.map{b:Type}{d:b->SV}{c:b->Prop}(f:α->b)(he:∀a,(d<|f a).den=(E a).den)(g:∀a,G a->c (f a))(h:ir P t E G):ir P t d c:=λe=>by
 obtain⟨a,v,l,k,j,i⟩:=h e
 grind
def Sn(b:P.underlying t=some (.int .i64)):ir P t (λn:Int=>.i n) λ_=>True:=λa=>by obtain⟨n,rfl,-,-⟩:=DataW.trod_int b a;exact⟨n,_,U,W,W,λS c=>by simp[SV.den,Rel,scalar]⟩
def Hi(b:P.underlying t=some .string):ir P t (λs:cq=>.s s) λs=>s.length<=9223372036854775807:=λa=>by obtain⟨s,rfl,-,hs⟩:=DataW.trod_string b a;refine⟨s.data.toList,_,?_,W,W,λS c=>by simp[SV.den,Rel,scalar,Tw]⟩;show s.data.toList.length<=_;rw[ae7];exact hs
def Ww{w:World}{S:Nat->Prop}{sz:Nat}{cs:Array Value}:∀(X:L AV)(off:Nat),off+X.length*sz<=cs.size->(∀i(hi:i<X.length),∃v:Value,v.cells.size=sz/\(∀j,j<sz->cs[off+i*sz+j]?=v.cells[j]?)/\Rel w S X[i] v [])->
 du w S sz X ((cs.toList.drop off).take<|X.length*sz) []
 |[],off,_,_=>by simp[du]
 |x::X,off,a,h=>by
  rw[abo,adD]at a;obtain⟨v,d,f,c⟩:=h 0 (by simp);have b:=Ww (w:=w) (S:=S) (sz:=sz) (cs:=cs) X (off+sz) (by omega) λi hi=>by
   obtain⟨v,k1,k2,k3⟩:=h (i+1) (by simpa using hi)
   grind
  refine⟨v,_,[],[],?_,W,d,c,b⟩;have e:(x::X).length*sz=sz+X.length*sz:=by grind
  rw[e,List.take_add,afQ]
  congr 1
  apply agG
  grind
def ng{e:TypeId}{sz:Nat}(d:α)(M:P.underlying t=some (.slice e))(hc:P.cellsOf e=sz)(s:0<sz)(h:Xw P e sz E G):
 ir P t (λl:L α=>.bc false sz d E l) λl=>l.length<=9223372036854775807/\∀a∈l,G a:=λ{H enc w fuel cs x}K=>by
 rcases Deep.open_slice M K with⟨rfl,-⟩|⟨a,len,V,m,n,D,Pl,rfl,-,hl,hm,y,-,k⟩;exact⟨[],_,⟨by simp,by simp⟩,W,W,λS A=>by simp[SV.den,Rel,fl]⟩;subst y;by_cases R:m=0;subst R;have:len=0:=by omega
 subst this;exact⟨[],_,⟨by simp,by simp⟩,W,W,λS A=>by simp[SV.den,Rel,fl]⟩;rw[hc]at k;have cell:∀i,i<m->∀j,j<sz->∃u,w.cell? ((a.add<|i*sz).add j)=some u:=λi hi j N=>by obtain⟨B,k1,-⟩:=k i hi;obtain⟨-,k2,k3⟩:=World.cells?_some k1;simp_all
 obtain⟨X,g⟩:=cell 0 (by omega) 0 s;have T:(a.add<|0*sz).add 0=a:=by simp[Addr.add]
 rw[T]at g;obtain⟨b,c,o⟩:=a;have q:∃(row:Array Value)(J:TypeId)(r:Nat×Nat),w.heap[b]?=some (.cells row J r)/\o=none:=by unfold World.cell? at g;split at g;simp_all;cases g
 obtain⟨row,J,r,hh,rfl⟩:=q;have C:row? w b=some (row,r):=Bf hh;have O:b<w.heap.size:=by grind
 have z:∀i,i<m->∀j,j<sz->w.cell? (((⟨b,c,none⟩:Addr).add<|i*sz).add j)=row[c+i*sz+j]?:=λi hi j N=>by
  rw[Deep.add_add,cv W,ny W C]
  grind
 have F:c+m*sz<=row.size:=by
  obtain⟨u,hu⟩:=cell (m-1) (by omega) (sz-1) (by omega);rw[z (m-1) (by omega) (sz-1)<|by omega]at hu;have h1:=(afR.1 hu).1;have e1:m*sz=(m-1)*sz+sz:=by
   have:m=(m-1)+1:=by omega
   grind
  omega
 haveI:Inhabited α:=⟨d⟩
 obtain⟨f,Y⟩:=Deep.choose_lt (α:=α) (n:=len) (p:=λi a=>G a/\∃v:Value,v.cells.size=sz/\(∀j,j<sz->row[c+i*sz+j]?=v.cells[j]?)/\∀S:Nat->Prop,(∀b,b<w.heap.size->S b)->Rel w S (E a).den v []) λi hi=>by
  obtain⟨B,k1,k2⟩:=k i (by omega);obtain⟨-,k3,k4⟩:=World.cells?_some k1;obtain⟨a,v,g1,rfl,g3,g4⟩:=h k2
  grind
 refine⟨(List.range len).map f,_,⟨by simp[acx,ah8];simp[maxLen]at hm;omega,λa Z=>?_⟩,W,W,λS A=>?_⟩
 grind
 simp only[SV.den,fl,Rel];refine .inr ⟨b,c,m,row,r,by simp,A b O,C,by simpa using hl,?_,U⟩;refine Ww _ c ?_ λi hi=>?_;simp[acx,ah8];have:len*sz<=m*sz:=acM _ hl;omega
 grind
def AT(P:Program)(t:TypeId)(sz:Nat)(E:α->SV)(G:α->Prop):Prop:=
 ∀{H:Type}{enc:TypeId×Value->H}{w:World}{fuel:Nat}{cs:L Value}{x:DataW H×L MemPlace},DataW.trod enc P w 0 (λ_=>true) true fuel t cs=some x->
  ∃a:α,G a/\cs.length=sz/\∀S:Nat->Prop,(∀b,b<w.heap.size->S b)->Rel w S (E a).den (.agg cs.toArray) []
def AT.wide{sz:Nat}(h:AT P t sz E G):Xw P t sz E G:=λ{H enc w fuel cs x}b=>by obtain⟨a,e,d,c⟩:=h b;exact⟨a,.agg cs.toArray,e,by simp[Value.cells],by simpa[Value.cells]using d,c⟩
end
section
variable{H:Type}{enc:TypeId×Value->H}{w:World}{fuel:Nat}{cs:L Value}{x:DataW H×L MemPlace}{t:TypeId}{fs:Array Field}
def nM(g:P.underlying t=some (.struct fs))(e:DataW.trod enc P w 0 (λ_=>true) true fuel t cs=some x){i:Nat}{f:Field}(j:fs[i]?=some f)(hc:P.cellsOf f.type=1){α:Type}{E:α->SV}{G:α->Prop}(h:ir P f.type E G):
 ∃(a:α)(v:Value),G a/\cs[f.offset]?=some v/\v.oneCell'=true/\∀S:Nat->Prop,(∀b,b<w.heap.size->S b)->Rel w S (E a).den v []:=by
 obtain⟨d,n,-,-,-,hl,hh⟩:=DataW.trod_struct g e;have hi:i<d.length:=by grind
 have c:=hh i f j;rw[acL hi,hc]at c;obtain⟨a,v,p,o,m,k⟩:=h c;refine⟨a,v,p,?_,m,k⟩;have:=aaf (λl:L Value=>l[0]?) o;simpa using this
def rO(b:P.underlying t=some (.struct fs))(a:DataW.trod enc P w 0 (λ_=>true) true fuel t cs=some x):cs.length=P.cellsOf t:=by obtain⟨c,n,-,-,h,-⟩:=DataW.trod_struct b a;exact h
end
def gR{w:World}{S:Nat->Prop}{one:Bool}{x:AV}{v:Value}{xs:L AV}{a:L Value}(d:v.oneCell'=true)(c:Rel w S x v [])(b:Cells w S one xs a []):Cells w S one (x::xs) (v::a) []:=by simp only[Cells];grind
def yS{w:World}{S:Nat->Prop}{one:Bool}:Cells w S one [] [] []:=by simp[Cells]
def CB{w:World}{S:Nat->Prop}{xs:L AV}{a:L Value}(h:Cells w S true xs a []):Rel w S (.agg xs) (.agg a.toArray) []:=by simp[Rel];simp_all
def Bj{H:Type}{enc:TypeId×Value->H}{a f:World}{t:TypeId}(hl:laidOutB P=true)(g:P.readableRec t=true)(j:t<P.types.size)(k:Below a.heap.size a f){n:Nat}{cs:L Value}{x:DataW H×L MemPlace}
 (h:DataW.trod enc P a 0 (λ_=>true) true n t cs=some x):DataW.trod enc P f 0 (λb=>decide (b<a.heap.size)) true n t cs=some x:=
 have c:=DataW.trod_lt n t cs x h
 DataW.trod_stays (kids_book hl g) (book_sized g) (λh=>by cases h) ⟨j,book_self t⟩ h
  (λp d=>by
    have e:=k.block p.block<|c p d;cases p with
    |cell b i=>simp[World.sameAt,World.cell?];rw[show f.heap[b]?=a.heap[b]?from e]
    |map b=>exact e)
  λp d=>by simpa using c p d
end
section
variable{α:Type}{l:L α}{a b c:α}
def Rk:prog.cellsOf 72=2:=aP
def Rl:prog.cellsOf 69=5:=aP
def ZP:prog.cellsOf 25=3:=aP
def Nn:prog.cellsOf 44=2:=aP
def c3:prog.cellsOf 3=1:=aP
def c9:prog.cellsOf 9=1:=aP
def c46:prog.cellsOf 42=1:=aP
def c45:prog.cellsOf 66=1:=aP
def c47:prog.cellsOf 67=1:=aP
def c22:prog.cellsOf 22=1:=aP
def c23:prog.cellsOf 23=1:=aP
abbrev FD{α:Type}(l:L α):Prop:=l.length<=9223372036854775807
def aar(h:l.length=2)(e:l[0]?=some a)(d:l[1]?=some b):l=[a,b]:=by
 match l,h with
 |[x,y],_=>simp at e d;rw[e,d]
def adL(h:l.length=3)(f:l[0]?=some a)(e:l[1]?=some b)(d:l[2]?=some c):l=[a,b,c]:=by
 match l,h with
 |[x,y,z],_=>simp at f e d;rw[f,e,d]
def adK{d e:α}(h:l.length=5)(k:l[0]?=some a)(j:l[1]?=some b)(i:l[2]?=some c)(g:l[3]?=some d)(f:l[4]?=some e):l=[a,b,c,d,e]:=by
 match l,h with
 |[x,y,z,u,v],_=>simp at k j i g f;rw[k,j,i,g,f]
def o3:ir prog 3 (λn:Int=>.i n) λ_=>True:=Sn underlying3
def o46:ir prog 42 (λs:cq=>.s s) FD:=Hi underlying42
def o9:ir prog 9 (λs:cq=>.s s) FD:=Hi underlying9
def o79:AT prog 72 2 pJ λf=>FD f.dU:=λ{H k w g q x}d=>by obtain⟨a,p,-,n,j,r0⟩:=nM underlying72 d (i:=0) W c3 o3;obtain⟨b,o,g1,m,h,r1⟩:=nM underlying72 d (i:=1) W c46 o46;have hl:=(rO underlying72 d).trans Rk;obtain rfl:=aar hl n m;exact⟨⟨a,b⟩,g1,hl,λS e=>CB<|gR j (r0 S e)<|gR h (r1 S e) yS⟩
def o67:AT prog 44 2 fA λs=>FD s.lo/\FD s.hi:=λ{H k w f q x}d=>by obtain⟨a,p,j,n,h,r0⟩:=nM underlying44 d (i:=0) W c46 o46;obtain⟨b,o,g1,m,g,r1⟩:=nM underlying44 d (i:=1) W c46 o46;have hl:=(rO underlying44 d).trans Nn;obtain rfl:=aar hl n m;exact⟨⟨a,b⟩,⟨j,g1⟩,hl,λS e=>CB<|gR h (r0 S e)<|gR g (r1 S e) yS⟩
def o45:ir prog 66 (λl=>aie l) λl=>FD l/\∀f∈l,FD f.dU:=ng default underlying66 Rk fV o79.wide
def o47:ir prog 67 (λl=>.strs false l) λl=>FD l/\∀c∈l,FD c:=ir.map id (λ_=>rfl) (λ_ h=>h)<|ng [] underlying67 c46 fV<|ir.wide o46
def o23:ir prog 23 (λl=>fO l) λl=>FD l:=ir.map id (λ_=>rfl) (λ_ h=>h.1)<|ng 0 underlying23 c3 fV<|ir.wide o3
def o26:ir prog 26 (λl=>aib l) λl=>FD l/\∀s∈l,FD s.lo/\FD s.hi:=ng default underlying26 Nn fV o67.wide
structure USz(u:bN):Prop where
 kind:FD u.kind
 ai:FD u.ai
 cW:FD u.cW
 k:FD u.k
 dU:∀f∈u.ai,FD f.dU
 N0:∀c∈u.cW,FD c
def o49:AT prog 69 5 dZ USz:=λ{H v w j N x}f=>by obtain⟨a,M,u,C,s,r0⟩:=nM underlying69 f (i:=0) W c9 o9;obtain⟨b,K,g1,B,r,r1⟩:=nM underlying69 f (i:=1) W c45 o45;obtain⟨c,J,-,A,q,n⟩:=nM underlying69 f (i:=2) W c3 o3;obtain⟨d,F,t,z,p,m⟩:=nM underlying69 f (i:=3) W c46 o46;obtain⟨e,D,h,y,o,k⟩:=nM underlying69 f (i:=4) W c47 o47;have hl:=(rO underlying69 f).trans Rl;obtain rfl:=adK hl C B A z y;exact⟨⟨a,b,c,d,e⟩,⟨u,g1.1,h.1,t,g1.2,h.2⟩,hl,λS g=>CB<|gR s (r0 S g)<|gR r (r1 S g)<|gR q (n S g)<|gR p (m S g)<|gR o (k S g) yS⟩
def o22:ir prog 22 (λl=>aic l) λl=>FD l/\∀u∈l,USz u:=ng default underlying22 Rl fV o49.wide
def o25:AT prog 25 3 bI PSz:=λ{H m w f t x}d=>by
 obtain⟨a,s,-,p,k,r0⟩:=nM underlying25 d (i:=0) W c3 o3;obtain⟨b,r,g1,o,j,r1⟩:=nM underlying25 d (i:=1) W c22 o22;obtain⟨c,q,g2,n,h,g⟩:=nM underlying25 d (i:=2) W c23 o23;have hl:=(rO underlying25 d).trans ZP;obtain rfl:=adL hl p o n;exact⟨⟨a,b,c⟩,⟨g1.1,g2,λu hu=>(g1.2 u hu).kind,λu hu=>(g1.2 u hu).ai,λu hu=>(g1.2 u hu).cW,λu hu=>(g1.2 u hu).k,λu hu=>(g1.2 u hu).dU,λu hu=>(g1.2 u hu).N0⟩,hl,
  λS e=>CB<|gR k (r0 S e)<|gR j (r1 S e)<|gR h (g S e) yS⟩
end
end Go.Ai
section
namespace Go.Proofs
open Go.Shelf Go.Proofs.Tryz
def Tryz.LW:Go.Shelf.Ren:=⟨λ|171=>298|243=>330|246=>361|283=>362|284=>363|285=>364|286=>365|129=>286|317=>384|318=>385|319=>386|320=>387|337=>396|338=>397|n=>n,λ|3=>3|9=>9|2=>2|4=>4|171=>413|0=>0|53=>337|37=>373|5=>5|173=>415|212=>436|51=>83|20=>20|213=>437|46=>283|232=>452|233=>453|n=>n,λ|17=>5|18=>6|19=>7|n=>n⟩
theorem Tryz.Y6:Go.Proofs.LaysM.n171 prog Tryz.LW where
 mixed:=Go.Ai.aP
 f129:=func286.trans<|aaf some Go.Ai.aP
 f171:=func298.trans<|aaf some Go.Ai.aP
 f243:=func330.trans<|aaf some Go.Ai.aP
 f246:=func361.trans<|aaf some Go.Ai.aP
 f283:=func362.trans<|aaf some Go.Ai.aP
 f284:=func363.trans<|aaf some Go.Ai.aP
 f285:=func364.trans<|aaf some Go.Ai.aP
 f286:=func365.trans<|aaf some Go.Ai.aP
 f317:=func384.trans<|aaf some Go.Ai.aP
 f318:=func385.trans<|aaf some Go.Ai.aP
 f319:=func386.trans<|aaf some Go.Ai.aP
 f320:=func387.trans<|aaf some Go.Ai.aP
 f337:=func396.trans<|aaf some Go.Ai.aP
 f338:=func397.trans<|aaf some Go.Ai.aP
 t0:=underlying0
 a0:=isAgg0
 z0:=sizeOf0
 v0:=zeroValue0
 t2:=underlying2
 a2:=isAgg2
 z2:=sizeOf2
 v2:=zeroValue2
 t3:=underlying3
 a3:=isAgg3
 z3:=sizeOf3
 v3:=zeroValue3
 t4:=underlying4
 a4:=isAgg4
 z4:=sizeOf4
 v4:=zeroValue4
 t5:=underlying5
 a5:=isAgg5
 z5:=sizeOf5
 v5:=zeroValue5
 t9:=underlying9
 a9:=isAgg9
 z9:=sizeOf9
 v9:=zeroValue9
 t20:=underlying20
 a20:=isAgg20
 z20:=sizeOf20
 v20:=zeroValue20
 t37:=underlying373
 a37:=isAgg373
 z37:=sizeOf373
 v37:=zeroValue373
 t46:=underlying283
 a46:=isAgg283
 z46:=sizeOf283
 v46:=zeroValue283
 t51:=underlying83
 a51:=isAgg83
 z51:=sizeOf83
 v51:=zeroValue83
 t53:=underlying337
 a53:=isAgg337
 z53:=sizeOf337
 v53:=zeroValue337
 t171:=underlying413
 a171:=isAgg413
 z171:=sizeOf413
 v171:=zeroValue413
 t173:=underlying415
 a173:=isAgg415
 z173:=sizeOf415
 v173:=zeroValue415
 t212:=underlying436
 a212:=isAgg436
 z212:=sizeOf436
 v212:=zeroValue436
 t213:=underlying437
 a213:=isAgg437
 z213:=sizeOf437
 t232:=underlying452
 a232:=isAgg452
 z232:=sizeOf452
 v232:=zeroValue452
 t233:=underlying453
 a233:=isAgg453
 z233:=sizeOf453
 v233:=zeroValue453
 g17:=Go.Ai.aP
 g18:=Go.Ai.aP
 g19:=Go.Ai.aP
 i0:=Go.Ai.aP
 i2:=Go.Ai.aP
 i3:=Go.Ai.aP
 i4:=Go.Ai.aP
 i5:=Go.Ai.aP
 i9:=Go.Ai.aP
 i20:=Go.Ai.aP
 i37:=Go.Ai.aP
 i46:=Go.Ai.aP
 i51:=Go.Ai.aP
 i53:=Go.Ai.aP
 i171:=Go.Ai.aP
 i173:=Go.Ai.aP
 i212:=Go.Ai.aP
 i232:=Go.Ai.aP
 i233:=Go.Ai.aP
 m17:=Go.Ai.aP
 m18:=Go.Ai.aP
 m19:=Go.Ai.aP
end Go.Proofs
namespace Go.Ai
open Go.Proofs Go.Proofs.Tryz
def wY(w:World)(k:Nat)(os:Array Obj):Go.RowKit.Below w.heap.size w (Sort.grow (w.drewN k) os):=⟨W,W,W,I,λi hi=>by simp[Sort.grow,Array.getElem?_append,hi]⟩
def Za(n:Int)(l: -(2^63)<=n)(j:n<=9223372036854775807):ab 298 [.i n] (.s<|Lib.itoa n):=by intro w S o g f hc;obtain⟨y,p,t,r,rfl,q,_,d,rfl,rfl⟩:=hc;obtain⟨_,rfl,rfl⟩:=d;refine qD.lS (fn:=Tryz.f298) func298 W W<|(Any.strconv_Itoa Tryz.Y6 n l j w g).mono ?_;rintro e m⟨rfl,k,os,rfl⟩;have c:=wY w k os;exact⟨_,W,S,[],c,λ_ h=>h,λ_ h=>.inl h,λb a=>acW (f b a) c.size,by simp[SV.den,Rel,scalar,bs],acP,I⟩
def decDigits_eq(u:Nat):Lib.decDigits u=decl u 1:=by
 induction u using Nat.strongRecOn with
 |ind u a=>
  rw[Lib.decDigits,bC E];by_cases h:u<10;rw[dif_pos h,show u/10=0 from E,c7,show u%10=u from E];rfl;rw[dif_neg h,a (u/10) E];have:decl (u/10) 1=decl (u/10) (1-1):=by rw[bC (n:=u/10) (k:=1) E,bC (n:=u/10) (k:=1-1) E]
  rw[this];rfl
def Zb(z:Int):Lib.itoa z=bS z:=by unfold Lib.itoa bS;split;rw[decDigits_eq];rw[decDigits_eq];congr 1;omega
def Js(n:Int)(b: -(2^63)<=n)(a:n<=9223372036854775807):ab 298 [.i n] (.s<|bS n):=by rw[<-Zb];exact Za n b a
end Go.Ai
end
section
namespace Go.Proofs
open Go.Shelf Go.Proofs.Tryz
def Tryz.LV:Go.Shelf.Ren:=⟨λ|283=>362|n=>n,λ|3=>3|9=>9|4=>4|n=>n,λ|n=>n⟩
theorem Tryz.Y5:Go.Proofs.Lays.n283 prog Tryz.LV where
 mixed:=Go.Ai.aP
 f283:=func362.trans<|aaf some Go.Ai.aP
 t3:=underlying3
 a3:=isAgg3
 z3:=sizeOf3
 v3:=zeroValue3
 t4:=underlying4
 a4:=isAgg4
 z4:=sizeOf4
 v4:=zeroValue4
 t9:=underlying9
 a9:=isAgg9
 z9:=sizeOf9
 v9:=zeroValue9
def Tryz.LU:Go.Shelf.Ren:=⟨λ|284=>363|129=>286|317=>384|318=>385|n=>n,λ|53=>337|3=>3|212=>436|0=>0|4=>4|46=>283|5=>5|9=>9|n=>n,λ|17=>5|n=>n⟩
theorem Tryz.Y4:Go.Proofs.LaysM.n284 prog Tryz.LU where
 mixed:=Go.Ai.aP
 f129:=func286.trans<|aaf some Go.Ai.aP
 f284:=func363.trans<|aaf some Go.Ai.aP
 f317:=func384.trans<|aaf some Go.Ai.aP
 f318:=func385.trans<|aaf some Go.Ai.aP
 t0:=underlying0
 a0:=isAgg0
 z0:=sizeOf0
 v0:=zeroValue0
 t3:=underlying3
 a3:=isAgg3
 z3:=sizeOf3
 v3:=zeroValue3
 t4:=underlying4
 a4:=isAgg4
 z4:=sizeOf4
 v4:=zeroValue4
 t5:=underlying5
 a5:=isAgg5
 z5:=sizeOf5
 v5:=zeroValue5
 t9:=underlying9
 a9:=isAgg9
 z9:=sizeOf9
 v9:=zeroValue9
 t46:=underlying283
 a46:=isAgg283
 z46:=sizeOf283
 v46:=zeroValue283
 t53:=underlying337
 a53:=isAgg337
 z53:=sizeOf337
 v53:=zeroValue337
 t212:=underlying436
 a212:=isAgg436
 z212:=sizeOf436
 v212:=zeroValue436
 g17:=Go.Ai.aP
 i0:=Go.Ai.aP
 i3:=Go.Ai.aP
 i4:=Go.Ai.aP
 i5:=Go.Ai.aP
 i9:=Go.Ai.aP
 i46:=Go.Ai.aP
 i53:=Go.Ai.aP
 i212:=Go.Ai.aP
 m17:=Go.Ai.aP
def Tryz.LS:Go.Shelf.Ren:=⟨λ|285=>364|n=>n,λ|37=>373|53=>337|3=>3|4=>4|51=>83|9=>9|5=>5|0=>0|n=>n,λ|n=>n⟩
theorem Tryz.Y3:Go.Proofs.Lays.n285 prog Tryz.LS where
 mixed:=Go.Ai.aP
 f285:=func364.trans<|aaf some Go.Ai.aP
 t0:=underlying0
 a0:=isAgg0
 z0:=sizeOf0
 v0:=zeroValue0
 t3:=underlying3
 a3:=isAgg3
 z3:=sizeOf3
 v3:=zeroValue3
 t4:=underlying4
 a4:=isAgg4
 z4:=sizeOf4
 v4:=zeroValue4
 t5:=underlying5
 a5:=isAgg5
 z5:=sizeOf5
 v5:=zeroValue5
 t9:=underlying9
 a9:=isAgg9
 z9:=sizeOf9
 v9:=zeroValue9
 t37:=underlying373
 a37:=isAgg373
 z37:=sizeOf373
 v37:=zeroValue373
 t51:=underlying83
 a51:=isAgg83
 z51:=sizeOf83
 v51:=zeroValue83
 t53:=underlying337
 a53:=isAgg337
 z53:=sizeOf337
 v53:=zeroValue337
open Go.Shelf Go.RowKit Go.Sort Go.Lib Go.Proofs.Tryz
def Tryz.N8(i:Nat)(h:i<100)(w:World):Calls prog 362 #[.int .i64 i] w λe w'=>e=.returned (.string ⟨(Lib.decDigits i).toArray⟩)/\w'=w:=Any.internal_strconv_small Tryz.Y5 i h w
def Tryz.MX(u:Nat)(c:1<=u)(b:u<2^64)(w:World)(a:Lib.TabIs prog w "internal/strconv.uint64pow10" .u64 Lib.pow10Tab):Calls prog 363 #[.int .u64 u] w λe w'=>e=.returned (.int .i64<|Lib.nDigits u)/\w'=w:=Any.internal_strconv_numDigits Tryz.Y4 u c b w a
end Go.Proofs
end
namespace Go.Proofs
open Go.Shelf Go.RowKit Go.Sort Go.Lib Go.Proofs.Tryz
section
variable{l p:L Int}{k:Nat}{a:Q Addr}{w:World}
def iO(w:World)(a:Q Addr)(pw:L Int):Prop:=∀j,j<pw.length->∃b,a=some b/\w.cell? (b.add j)=some (.int .i64<|pw.getD j 0)
def Ui(h:∀x∈l,0<=x/\x<2147483648):0<=l.sum/\l.sum<=2147483648*l.length:=by
 induction l with
 |nil=>simp
 |cons x l b=>have:=b λy c=>h y (by simp[c]);have:=h x I;simp;omega
def KB(h:k<l.length):(l.take<|k+1).sum=(l.take k).sum+l.getD k 0:=by rw[ace h,List.sum_append];simp[h]
theorem Tryz.ad7(a:Option Addr)(c:Nat)(pw:List Int)(w:World)(hn:pw.length<2^20)(hb:∀x∈pw,0<=x/\x<2147483648)(hc:iO w a pw):
 Calls prog 295 #[.slice a pw.length c] w λe w'=>e=.returned (.int .i64 pw.sum)/\w'=w:=by
 go_enter func295,Tryz.ntmps295
 go_wp2
 go_loop [3,8] (λs i=>∃k:Nat,k<=pw.length/\i=.int .i64 k/\s=.int .i64 (pw.take k).sum) λ_ i=>pw.length-(RowKit.intOf i).toNat
 case atStart=>exact⟨0,aaQ _,W,I⟩
 case round=>
  obtain⟨k,hk,rfl,rfl⟩:=hrel;by_cases hlt:k<pw.length
  ·obtain⟨ad,rfl,hcell⟩:=hc k hlt
   go_wp2
   have h1:=Ui (l:=pw.take k) λy hy=>hb y<|afB hy;have h2:=hb pw[k] I;have h3:=KB hlt;rw[ade]at h1;simp[hlt]at h3
   go_round
   case rel=>exact⟨k+1,E,by go_num,by congr 1;rw[h3];unfold wrap64;omega⟩
   case measure=>simp[RowKit.intOf];omega
  go_wp2
  have:k=pw.length:=E;subst this
  go_ret
  simp
def s9{x y:Int}:Lib.compareInt x y=0↔x=y:=by unfold Lib.compareInt;(repeat' split)<;>omega
def wG:L Int->L Int->Int
 |[],[]=>0
 |[],_::_=> -1
 |_::_,[]=>1
 |x::l,y::m=>if x=y then wG l m else Lib.compareInt x y
def SQ{q:L Int}(c:k<p.length)(b:k<q.length):wG (p.drop k) (q.drop k)=if p.getD k 0=q.getD k 0 then wG (p.drop<|k+1) (q.drop<|k+1)else Lib.compareInt (p.getD k 0) (q.getD k 0):=by rw[acJ c,acJ b];simp[wG,c,b]
theorem Tryz.ae3(hcmp:∀x y W,Calls prog 340 #[.int .i64 x,.int .i64 y] W λe w'=>e=.returned (.int .i64<|Lib.compareInt x y)/\w'=W)
 (a b:Option Addr)(c d:Nat)(p q:List Int)(w:World)(hn:p.length<2^20)(hm:q.length=p.length)(hc:iO w a p)(hd:iO w b q):
 Calls prog 341 #[.slice a p.length c,.slice b p.length d] w λe w'=>e=.returned (.int .i64<|wG p q)/\w'=w:=by
 go_enter func341,Tryz.ntmps341
 go_wp2
 go_loop [11] (λi=>∃k:Nat,k<=p.length/\i=.int .i64 k/\wG p q=wG (p.drop k) (q.drop k)) λi=>p.length-(RowKit.intOf i).toNat
 case atStart=>exact⟨0,aaQ _,rfl,I⟩
 case round=>
  obtain⟨k,hk,rfl,hl⟩:=hrel;by_cases hlt:k<p.length
  ·obtain⟨ad,rfl,hcell⟩:=hc k hlt;obtain⟨ae,rfl,hcell2⟩:=hd k E;rw[SQ hlt E]at hl;generalize p.getD k 0=x at hcell hl;generalize q.getD k 0=y at hcell2 hl;have A:=Lib.hid hl;clear hl hc hd;have H:=hcmp x y;have Z:=Lib.hid<|@s9 x y;generalize Lib.compareInt x y=r at H Z A
   go_wp2_with (go_at_call 340;refine(H _).mono ?_;rintro e w'⟨rfl,rfl⟩)
   ·have hne:(r !=0)=true:=by assumption
    go_ret
    have:=A.out;rw[aaq λe=>by rw[Z.out.2 e]at hne;cases hne]at this;exact⟨by rw[this];rfl,rfl⟩
   have he:(r !=0)=false:=by assumption
   have:=A.out;rw[aas<|Z.out.1<|by simpa using he]at this
   go_round
   case rel=>exact⟨k+1,E,by go_num,this⟩
   case measure=>simp[RowKit.intOf];omega
  go_wp2
  have:k=p.length:=E;subst this
  go_ret
  have e:wG (p.drop p.length) (q.drop p.length)=0:=by rw[aeM,aeB E];rfl
  exact⟨by rw[e];rfl,rfl⟩
theorem Tryz.orC(g:Nat)(x y:Int)(w:World)(h0:w.cell? ⟨g,0,none⟩=some (.int .i64 x))(h1:w.cell? ⟨g,1,none⟩=some (.int .i64 y)):
 Calls prog 339 #[.slice (some ⟨g,0,none⟩) 2 2] w λe w'=>e=.returned (.int .i64<|if x≠0 then x else y)/\w'=w:=by
 have hc:∀k,k<2->w.cell? ⟨g,k,none⟩=some (.int .i64<|if k=0 then x else y):=λk hk=>by rcases(show k=0\/k=1 from E)with rfl|rfl;exact h0;exact h1
 clear h0 h1;generalize hr:(if x≠0 then x else y)=r;have R:=Lib.hid hr;clear hr
 go_enter func339,Tryz.ntmps339
 go_wp2
 go_loop [8] (λi=>∃k:Nat,k<=2/\i=.int .i64 k/\(k≠0->x=0)/\(k=2->y=0)) λi=>2-(RowKit.intOf i).toNat
 case atStart=>exact⟨0,E,W,E,E⟩
 case round=>
  obtain⟨k,hk,rfl,hx,hy⟩:=hrel;by_cases hlt:k<2
  ·have hcell:=hc k hlt;have A:=Lib.hid<|And.intro hx hy;clear hx hy hc;generalize hz:(if k=0 then x else y)=z at hcell;have B:=Lib.hid hz;clear hz
   go_wp2
   ·have hne:(z !=0)=true:=by assumption
    go_ret
    have hz:z≠0:=by simpa using hne
    refine⟨?_,W⟩;show Ending.returned (Value.int .i64 z)=_;have h1:=R.out;have h2:=B.out;have h3:=A.out
    congr 2
    by_cases e:k=0;rw[aas e]at h2;subst h2;rw[aas hz]at h1;exact h1;rw[aaq e]at h2;rw[aaq<|by simp[h3.1 e]]at h1;omega
   have hne:(z !=0)=false:=by assumption
   have hz:z=0:=by simpa using hne
   have h2:=B.out;have h3:=A.out
   go_round
   case rel=>refine⟨k+1,E,by go_num,λ_=>?_,λe=>?_⟩;by_cases e:k=0;rw[aas e]at h2;omega;exact h3.1 e;rw[aaq E]at h2;omega
   case measure=>simp[RowKit.intOf];omega
  go_wp2
  have:k=2:=E;subst this
  go_ret
  have h1:=R.out;rw[aaq<|by simp[hx E],hy W]at h1;exact⟨by rw[<-h1];rfl,W⟩
def Cr(p q:L Int):Int:=if Lib.compareInt q.sum p.sum≠0 then Lib.compareInt q.sum p.sum else wG q p
def iO.grow(h:iO w a p)(n:Nat)(os:Array Obj):iO (grow (w.drewN n) os) a p:=λj d=>by
 obtain⟨c,f,b⟩:=h j d;exact⟨c,f,by
  have e:(c.add j).block<w.heap.size:=by apply afw;intro hh;simp[World.cell?,ago<|Nat.le_of_not_lt hh]at b
  rw[cell?_grow _ _ _<|by exact e];exact b⟩
theorem Tryz.aea(hcmp:∀x y W,Calls prog 340 #[.int .i64 x,.int .i64 y] W λe w'=>e=.returned (.int .i64<|Lib.compareInt x y)/\w'=W)
 (a b:Option Addr)(c d:Nat)(p q:List Int)(w:World)(hn:p.length<2^20)(hm:q.length=p.length)(hp:∀x∈p,0<=x/\x<2147483648)(hq:∀x∈q,0<=x/\x<2147483648)(hc:iO w a p)(hd:iO w b q):
 Calls prog 305 #[.slice a p.length c,.slice b p.length d] w λe w'=>e=.returned (.int .i64<|Cr p q)/\∃n os,w'=grow (w.drewN n) os:=by
 have H1:=Tryz.ad7 a c p w hn hp hc;have H2:=Tryz.ad7 b d q w E hq hd;have H3:=hcmp q.sum p.sum w;have H4:=Tryz.ae3 hcmp b a d c q p w E E hd hc;rw[hm]at H2 H4;have H5:=λW g=>Tryz.orC g (Lib.compareInt q.sum p.sum) (wG q p) W;have e:Cr p q=if Lib.compareInt q.sum p.sum≠0 then Lib.compareInt q.sum p.sum else wG q p:=rfl;rw[<-e]at H5;clear e hcmp hc hd hp hq;generalize Cr p q=r at H5⊢;generalize Lib.compareInt q.sum p.sum=x at H3 H5;generalize wG q p=y at H4 H5
 go_enter func305,Tryz.ntmps305
 go_wp2_with fail
 refine H2.mono ?_;rintro e w'⟨rfl,hw⟩;subst hw;clear H2
 go_wp2_with fail
 refine H1.mono ?_;rintro e w'⟨rfl,hw⟩;subst hw;clear H1
 go_wp2_with fail
 refine H3.mono ?_;rintro e w'⟨rfl,hw⟩;subst hw;clear H3
 go_wp2_with fail
 refine H4.mono ?_;rintro e w'⟨rfl,hw⟩;subst hw;clear H4;have H6:=H5 (w'.alloc<|.cells #[.int .i64 x,.int .i64 y] 3) w'.heap.size I I;clear H5
 go_wp2_with fail
 refine H6.mono ?_;rintro e w2⟨rfl,hw⟩;subst hw
 go_wp2
 go_ret
 exact⟨rfl,0,_,by rw[alloc_eq_grow];rfl⟩
def iO.alloc(h:iO w a p)(o:Obj):iO (w.alloc o) a p:=by have:=h.grow 0 #[o];rw[alloc_eq_grow];exact this
theorem Tryz.afm(hcmp:∀x y W,Calls prog 340 #[.int .i64 x,.int .i64 y] W λe w'=>e=.returned (.int .i64<|Lib.compareInt x y)/\w'=W)
 (c0 c1 c2 c3 d0 d1 d2 d3:Value)(a b:Option Addr)(c d:Nat)(p q:List Int)(w:World)(hn:p.length<2^20)(hm:q.length=p.length)(hp:∀x∈p,0<=x/\x<2147483648)(hq:∀x∈q,0<=x/\x<2147483648)(hc:iO w a p)(hd:iO w b q):
 Calls prog 308 #[.agg #[c0,c1,c2,c3,.slice a p.length c],.agg #[d0,d1,d2,d3,.slice b p.length d]] w λe w'=>e=.returned (.int .i64<|Cr p q)/\∃n os,w'=grow (w.drewN n) os:=by
 have H:=λo1 o2=>Tryz.aea hcmp a b c d p q ((w.alloc o1).alloc o2) hn hm hp hq ((hc.alloc _).alloc _)<|(hd.alloc _).alloc _;clear hcmp hp hq hc hd;generalize Cr p q=r at H⊢
 go_enter func308,Tryz.ntmps308
 go_wp2_with fail
 refine(H _ _).mono ?_;rintro e w2⟨rfl,n,os,hw⟩;subst hw
 go_wp2
 go_ret
 have e:∀o1 o2,grow (((w.alloc o1).alloc o2).drewN n) os=grow (w.drewN n) ((#[o1]++#[o2])++os):=λo1 o2=>by rw[alloc_eq_grow,alloc_eq_grow,<-grow_grow,<-grow_grow];rfl
 exact⟨rfl,n,_,e _ _⟩
end
def Me(w:World)(T:TypeId)(nd:Nat)(hs:nd<=24):Holds (λ(b:UInt8)=>Value.int .u8 (b.toNat:Int)) (w.alloc<|.cells zeros24 T) w.heap.size 0 (Array.replicate nd (0:UInt8)):=λj a=>by
 have c:j<nd:=by simpa using a
 refine⟨?_,World.frozen?_alloc_new _ _ _ _⟩;rw[World.cell?_alloc_new,zeros24_at _ E,getElem!_pos _ j a];simp
def afc(w:World)(o:Obj)(c:Array UInt8)(k:Nat):∃os,(putRow (λ(b:UInt8)=>Value.int .u8 (b.toNat:Int)) (w.alloc o) w.heap.size 0 c).drewN k=grow (w.drewN k) os:=by rw[alloc_eq_grow];obtain⟨a,_,e⟩:=putRow_grow_new (λ(b:UInt8)=>Value.int .u8 (b.toNat:Int)) w #[o] w.heap.size 0 c<|aaU _;exact⟨a,by rw[e];rfl⟩
theorem Tryz.afb(u:Nat)(hu64:u<2^64)(w:World)(htab:Lib.TabIs prog w "internal/strconv.uint64pow10" .u64 Lib.pow10Tab):
 Calls prog 335 #[.int .u64 u,.int .i64 10] w λe w'=>e=.returned (.string ⟨(Lib.decDigits u).toArray⟩)/\∃k os,w'=grow (w.drewN k) os:=by
 by_cases hs:u<100
 go_enter func335,Tryz.ntmps335
 go_wp2_with (go_at_call 362;refine(Tryz.N8 u hs _).mono ?_;rintro e w'⟨rfl,rfl⟩)
 go_ret
 exact⟨rfl,0,#[],by simp[World.drewN_zero]⟩;have hu1:1<=u:=E;have hnd20:Lib.nDigits u<=20:=by have:=Lib.numDigits_eq u hu1 hu64;split at this<;>omega
 have hal:prog.arrayLen 413=24:=by simp[Program.arrayLen,underlying413]
 have hsl1:∀W,(Instr.sliceAt 413 (.pointer<|some ⟨w.heap.size,0,none⟩) none (some<|.int .i64 (Lib.nDigits u:Int)) none).run prog W=.ok (.slice (some ⟨w.heap.size,0,none⟩) (Lib.nDigits u) 24) W:=λW=>by
  rw[run_sliceAt_array_h W 413 ⟨w.heap.size,0,none⟩ (by simp[Program.arrayLen,Program.elem,underlying413]) .i64 (Lib.nDigits u:Int) E<|by rw[hal];omega]
  go_simp
  try omega
 have hH0:=Me w 413 (Lib.nDigits u) E;have hfmt:=Any.internal_strconv_formatBase10 Tryz.Y3 w.heap.size 0 24 u (Array.replicate (Lib.nDigits u) 0) (w.alloc<|.cells Lib.zeros24 413) hH0 (by rw[ahR];exact Lib.lt_pow_nDigits u) hu64 (by rw[ahR];omega);rw[ahR]at hfmt;have hfmt:Calls prog 364 #[.slice (some ⟨w.heap.size,0,none⟩) (Lib.nDigits u) 24,.int .u64 u] (w.alloc<|.cells Lib.zeros24 413) _:=hfmt;have HH0:=Lib.hid hH0;clear hH0 hal
 go_enter func335,Tryz.ntmps335
 go_wp2_with (first
  |(go_at_call 363;refine(Tryz.MX u hu1 hu64 _<|Lib.tabIs_alloc htab _).mono ?_;rintro e w'⟨rfl,rfl⟩))
 go_at_call 364
 refine hfmt.mono ?_;rintro e w'⟨rfl,k,v',dk,rfl,hF⟩;have hcv:(convert 373 9 (.slice (some ⟨w.heap.size,0,none⟩) (Lib.nDigits u) 24)).run prog ((putRow (λ(b:UInt8)=>Value.int .u8 (b.toNat:Int)) (w.alloc<|.cells Lib.zeros24 413) w.heap.size 0 dk).drewN k)=.ok (.string ⟨(Lib.decDigits u).toArray⟩) ((putRow (λ(b:UInt8)=>Value.int .u8 (b.toNat:Int)) (w.alloc<|.cells Lib.zeros24 413) w.heap.size 0 dk).drewN k):=by
  have h:=run_convert_bytes_back (P:=prog) ((putRow (λ(b:UInt8)=>Value.int .u8 (b.toNat:Int)) (w.alloc<|.cells Lib.zeros24 413) w.heap.size 0 dk).drewN k) 373 9 5 ⟨w.heap.size,0,none⟩ 24 (Lib.decDigits u) underlying373 underlying5 underlying9 (λj hj=>by rw[Lib.row_is_numeral hF j hj,Lib.add_plain,World.cell?_drewN];exact cell?_putRow (λ(b:UInt8)=>Value.int .u8 (b.toNat:Int)) _ w.heap.size 0 _ dk HH0.out (by rw[hF.size,ahR]) j<|by rw[hF.size];rw[Lib.decDigits_length]at hj;exact hj)
  rw[Lib.decDigits_length]at h;exact h
 go_wp2
 go_ret
 obtain⟨os,eo⟩:=afc w (.cells Lib.zeros24 413) dk k;exact⟨rfl,k,os,eo⟩
end Go.Proofs
namespace Go.Ai.bG
section
variable{l:L Int}{m n:Nat}
def B9:Nat:=2^64
def ah(n:Nat):L Int:=if h:n=0 then[]else((n%B9:Nat):Int)::ah (n/B9)
 termination_by n
 decreasing_by exact afA (afF h) fV
def val:L Int->Int
 |[]=>0
 |d::l=>d+2^64*val l
def iR(l:L Int):Prop:=∀d∈l,0<=d/\d<2^64
def c6:ah 0=[]:=by rw[ah];simp
def bA(n:Nat):val (ah n)=n:=by
 induction n using Nat.strongRecOn with
 |_ n b=>rw[ah];split;rename_i h;subst h;rfl;rename_i h;have a:n/B9<n:=afA (afF h) fV;simp[val,b _ a];unfold B9;omega
def bL(n:Nat):iR (ah n):=by
 induction n using Nat.strongRecOn with
 |_ n c=>rw[ah];split;intro d a;cases a;rename_i h;have b:n/B9<n:=afA (afF h) fV;intro d a;rcases abm.1 a with rfl|a;unfold B9;omega;exact c _ b d a
def bE:∀{l:L Int},iR l->0<=val l
 |[],_=>by simp[val]
 |d::l,h=>by have c:=h d I;have b:=bE (l:=l) λx a=>h x (by simp[a]);simp[val];omega
def fG(l:L Int)(d:Int):val (l++[d])=val l+d*18446744073709551616^l.length:=by
 induction l with
 |nil=>simp[val]
 |cons x l a=>simp[val];grind
def iX:∀{l:L Int},iR l->val l<18446744073709551616^l.length
 |[],_=>by simp[val]
 |d::l,h=>by have c:=h d I;have b:=iX (l:=l) λx a=>h x (by simp[a]);simp[val];omega
def uB:∀{l:L Int},iR l->l.getLast?≠some 0->ah (val l).toNat=l
 |[],_,_=>by simp[val,c6]
 |d::l,h,e=>by
  have p:=h d I;have hl:iR l:=λx f=>h x (by simp[f]);have o:=bE hl;have b:l.getLast?≠some 0:=by grind
  have a:=uB hl b;have c:(val<|d::l).toNat≠0:=by
   simp only[val];intro q;have i:d=0:=E;have g:val l=0:=E;cases l with
   |nil=>subst i;simp at e
   |cons x l=>rw[g]at a;simp[c6]at a
  rw[ah,dif_neg c];have k:(((val<|d::l).toNat%B9:Nat):Int)=d:=by simp[val];unfold B9;omega
  have j:(val<|d::l).toNat/B9=(val l).toNat:=by simp[val];unfold B9;omega
  rw[k,j,a]
def vf(h:iR l)(a:l.getLast?≠some 0)(b:val l=n):l=ah n:=by have:=uB h a;simp_all
def rk(n:Nat):(ah n).getLast?≠some 0:=by
 induction n using Nat.strongRecOn with
 |_ n c=>
  rw[ah];split;simp;rename_i h;have b:n/B9<n:=afA (afF h) fV;have:=c _ b;cases hl:ah (n/B9)with
  |nil=>intro he;have a:=bA<|n/B9;rw[hl]at a;simp[val]at a;simp at he;unfold B9 at he a;omega
  |cons x l=>simp_all
def aL(l:L Int)(i:Nat):val (l.take<|i+1)=val (l.take i)+l.getD i 0*18446744073709551616^i:=by
 by_cases h:i<l.length;rw[ace h,fG]
 grind
 rw[acD E,acD E];simp_all
def bt(h:iR l)(i:Nat):0<=l.getD i 0/\l.getD i 0<2^64:=by by_cases hi:i<l.length;have:=h l[i]<|aaZ hi;simp_all;simp_all
def dW(n:Nat):(0:Int)<18446744073709551616^n:=Int.pow_pos fV
def sD(h:iR l)(hl:l.getLast?≠some 0):l=[]\/18446744073709551616^(l.length-1)<=val l:=by rcases ahY l with rfl|⟨l,d,rfl⟩;exact .inl W;right;rw[ahZ]at*;rw[fG];have e:=bE (l:=l) λx a=>h x (by simp[a]);have c:=h d I;simp at hl;simp;have b:=dW l.length;have:1*18446744073709551616^l.length<=d*18446744073709551616^l.length:=afO E E;omega
def gZ(n:Nat):ah n=[]\/(18446744073709551616:Int)^((ah n).length-1)<=n:=by have:=sD (bL n)<|rk n;rwa[bA]at this
def dp:L Int->L Int
 |[]=>[]
 |d::l=>match dp l with
  |[]=>if d=0 then[]else[d]
  |x::r=>d::x::r
def mW:∀l:L Int,dp (l++[0])=dp l
 |[]=>by simp[dp]
 |d::l=>by simp[dp,mW l]
def oL:∀{l:L Int},l.getLast?≠some 0->dp l=l
 |[],_=>rfl
 |[d],h=>by simp at h;simp[dp,h]
 |d::x::l,h=>by have:=oL (l:=x::l) h;rw[dp,this]
def vV{w:L Int}(hn:n+1=w.length)(h:w.getD n 0=0):dp (w.take n)=dp w:=by
 have e:w=w.take n++[0]:=by
  have a:n<w.length:=E;have b:=ace a
  grind
 conv=>rhs;rw[e,mW]
def qG:∀l:L Int,val (dp l)=val l
 |[]=>rfl
 |d::l=>by have a:=qG l;simp[dp];split;rename_i h;rw[h]at a;simp[val]at a⊢;split;rename_i b;simp[val];omega;simp[val];omega;rename_i x r h;rw[h]at a;simp[val]at a⊢;omega
def eM(h:iR l):dp l=ah (val l).toNat:=by
 have e:iR (dp l)/\(dp l).getLast?≠some 0:=by
  induction l with
  |nil=>exact⟨h,by simp[dp]⟩
  |cons d l f=>
   obtain⟨i1,b⟩:=f λx c=>h x (by simp[c]);have g:=h d I;simp[dp];split;split;simp_all;rename_i i;exact⟨λx c=>fP,by simpa using i⟩;rename_i x r he;rw[he]at i1 b;exact⟨λy a=>by rcases abm.1 a with rfl|a;exact g;exact i1 y a,b⟩
 rw[vf e.1 e.2 (n:=(val l).toNat) (by rw[qG];have:=bE h;omega)]
def iA(l:L Int)(k:Nat):val l=val (l.take k)+18446744073709551616^(l.take k).length*val (l.drop k):=by
 induction l generalizing k with
 |nil=>simp[val]
 |cons d l a=>
  cases k with
  |zero=>simp[val]
  |succ k=>simp[val];grind
def ia(h:iR l)(k:Nat):iR (l.take k):=λx a=>h x<|afB a
def cu(n:Nat):(n:Int)<18446744073709551616^(ah n).length:=by have:=iX<|bL n;rwa[bA]at this
def gF(h:n≠0):0<(ah n).length:=by rw[ah,dif_neg h];simp
def jc{a b:Nat}(h:a<=b):(18446744073709551616:Int)^a<=18446744073709551616^b:=by obtain⟨k,rfl⟩:=Nat.exists_eq_add_of_le h;rw[afT];have c:=dW a;have d:=dW k;have:=aez (show(1:Int)<=18446744073709551616^k from E)<|adY c;omega
def cO(h:(ah m).length<(ah n).length):m<n:=by have c:=cu m;rcases gZ n with a|a;rw[a]at h;cases h;have b:(18446744073709551616:Int)^(ah m).length<=18446744073709551616^((ah n).length-1):=jc E;omega
def pD(m n:Nat):Int:=if m<n then -1 else if n<m then 1 else 0
def nn{k:Nat}(d:k<(ah m).length)(hl:(ah m).length=(ah n).length)(e:(ah m).drop (k+1)=(ah n).drop (k+1))(h:(ah m).getD k 0<(ah n).getD k 0):m<n:=by
 have b:=iA (ah m)<|k+1;have a:=iA (ah n)<|k+1;rw[bA,aL]at b a;have g:=iX<|ia (bL m) k;have f:=bE<|ia (bL n) k;have c:=dW k;have:((ah m).getD k 0+1)*18446744073709551616^k<=(ah n).getD k 0*18446744073709551616^k:=afO E E
 grind
def lK:∀{l:L Int}{j:Nat}(y:Int),j<l.length->val (l.set j y)=val l+(y-l.getD j 0)*18446744073709551616^j
 |[],j,y,h=>by cases h
 |d::l,0,y,_=>by simp[val];omega
 |d::l,j+1,y,h=>by have:=lK (l:=l) (j:=j) y (by simpa using h);simp[val];grind
def fF(h:iR l){j:Nat}{y:Int}(b:0<=y/\y<2^64):iR (l.set j y):=by intro x a;rcases ahx a with a|a;exact h x a;subst a;exact b
def dy(l:L Int)(j k:Nat)(y:Int):(l.set j y).getD k 0=if j=k/\k<l.length then y else l.getD k 0:=by grind
def jn(n:Nat):val (List.replicate n 0)=0:=by
 induction n with
 |zero=>rfl
 |succ n a=>simp[agL,val,a]
def gb(n:Nat):iR (List.replicate n 0):=λx a=>fP
def iJ(n k:Nat):(List.replicate n (0:Int)).getD k 0=0:=by grind
end
def dA:Nat->Int->Int->Int->Int->Int->Int
 |0,t,_,_,_,_=>t
 |k+1,t,r,v1,v2,u2=>if 2^64<=t\/r*2^64+u2<t*v2 then(if 2^64<=r+v1 then t-1 else dA k (t-1) (r+v1) v1 v2 u2)else t
def iu{a b c:Int}(h:a<=b)(hc:0<=c):a*c<=b*c:=afO h hc
def uo{v1 v2 u2 f P g s U V:Int}(q:0<P)(n:1<=v1)(u:0<=v2/\v2<18446744073709551616)(v:0<=u2/\u2<18446744073709551616)(m:0<=g/\g<P)(H:0<=s/\s<P)
 (C:V=v1*(18446744073709551616*P)+v2*P+g)(S:U=f*(18446744073709551616*P)+u2*P+s)(M:U<18446744073709551616*V):
 ∀(k:Nat)(t r:Int),k=t.toNat->0<=t->0<=r->t*v1+r=f->U<(t+1)*V->U<(dA k t r v1 v2 u2+1)*V/\(dA k t r v1 v2 u2-1)*V<=U/\0<=dA k t r v1 v2 u2/\dA k t r v1 v2 u2<=t:=by
 have F:v2*P+g<18446744073709551616*P:=by
  have:=iu (show v2+1<=18446744073709551616 from E)<|adY q
  grind
 have z:0<=v2*P:=aeA u.1 E;have w:0<V:=by have:=iu n (show 0<=18446744073709551616*P from E);omega
 have A:f<18446744073709551616*v1+18446744073709551616:=by
  have x:f*(18446744073709551616*P)<(18446744073709551616*v1+18446744073709551616)*(18446744073709551616*P):=by
   have h:0<=u2*P:=aeA v.1 E
   grind
  exact agQ x E
 have i:∀t r:Int,0<=t->t<18446744073709551616->t*v1+r=f->t*v2<=r*18446744073709551616+u2->(t-1)*V<=U:=by
  intro t r l x h j;have R:t*V=t*v1*(18446744073709551616*P)+t*v2*P+t*g:=by rw[C];grind
  have O:t*v1*(18446744073709551616*P)=f*(18446744073709551616*P)-r*18446744073709551616*P:=by rw[<-h];grind
  have y:=iu j<|adY q;rw[afV]at y;have N:t*g<=18446744073709551616*P:=by have a:=aez (adY m.2) l;have b:=iu (adY x)<|adY q;omega
  have T:=iu n (show 0<=18446744073709551616*P from E)
  grind
 have less:∀t r:Int,0<=t->t*v1+r=f->(18446744073709551616<=t\/r*18446744073709551616+u2<t*v2)->U<t*V:=by
  intro t r l h j;rcases j with j|j
  ·have:=iu j<|adY w;omega
  have R:t*V=t*v1*(18446744073709551616*P)+t*v2*P+t*g:=by rw[C];grind
  have O:t*v1*(18446744073709551616*P)=f*(18446744073709551616*P)-r*18446744073709551616*P:=by rw[<-h];grind
  have y:=iu (show r*18446744073709551616+u2+1<=t*v2 from E)<|adY q;rw[afV,afV]at y;have N:0<=t*g:=aeA l m.1;omega
 intro k
 induction k with
 |zero=>intro t r K l J h B;have:t=0:=E;subst this;simp only[dA];refine⟨B,?_,E,E⟩;exact i 0 r E E h E
 |succ k D=>
  intro t r K l J h B;simp[dA];by_cases hc:18446744073709551616<=t\/r*18446744073709551616+u2<t*v2
  ·rw[aas hc];have hl:=less t r l h hc;have p:(t-1)*v1+(r+v1)=f:=by rw[agR];omega
   by_cases o:18446744073709551616<=r+v1
   ·rw[aas o];have e:t-1+1=t:=E;rw[e];refine⟨hl,?_,E,E⟩;have hs:t-1<18446744073709551616:=by
     have:(t-1)*v1<18446744073709551616*v1:=E;exact agQ this E
    refine i (t-1) (r+v1) E hs p ?_;have a:(t-1)*v2<=(t-1)*18446744073709551616:=aez E E;omega
   rw[aaq o];have e:t-1+1=t:=E;obtain⟨a,b,c,d⟩:=D (t-1) (r+v1) E E E p (by rw[e];exact hl);omega
  grind
def fB{w:L Int}{j k:Nat}{y:Int}(h:j<=k):(w.set k y).take j=w.take j:=by rw[List.take_set_of_le h]
def nw{f:Nat}(c:0<f)(b:f<2^64):ah f=[(f:Int)]:=by refine(vf (λd a=>?_) ?_ ?_).symm;simp at a;omega;simp;omega;simp[val]
def pf{m n K:Nat}(b:(ah m).length<=K)(a:(ah n).length<=K):(ah<|m+n).length<=K+1:=by rcases gZ (m+n)with g|g;rw[g];simp;have g1:=cu m;have g2:=cu n;have e:=jc b;have d:=jc a;rcases acX (K+1) (ah<|m+n).length with h|h;have c:=jc (show K+1<=(ah<|m+n).length-1 from E);omega;omega
def eC(m n:Nat):(ah<|m*n).length<=(ah m).length+(ah n).length:=by rcases gZ (m*n)with g|g;rw[g];simp;have g1:=cu m;have g2:=cu n;rcases acX ((ah m).length+(ah n).length) (ah<|m*n).length with h|h;have a:=jc (show(ah m).length+(ah n).length<=(ah<|m*n).length-1 from E);rw[afT]at a;have c:(m:Int)*n<=18446744073709551616^(ah m).length*n:=iu E E;have b:(18446744073709551616:Int)^(ah m).length*n<18446744073709551616^(ah m).length*18446744073709551616^(ah n).length:=Int.mul_lt_mul_of_pos_left g2<|dW _;omega;exact h
def mD(a b:Nat):(ah<|a/b).length<=(ah a).length:=by rcases acX (ah a).length (ah<|a/b).length with g|g;have:=cO g;have:=agi a b;omega;exact g
def length_le{m n:Nat}(h:m<=n):(ah m).length<=(ah n).length:=by rcases acX (ah n).length (ah m).length with g|g;have:=cO g;omega;exact g
end Go.Ai.bG
namespace Go.Ai.bG
open Go.Proofs Go.Ai Go.Proofs.Tryz
def Mt{P:Program}{f:FuncId}{k:IntKind}{qs rs:L Int}(h:∀w:World,(callFunc f (qs.map λa=>Value.int k a).toArray).run P w=.ok (.value<|.tuple (rs.map λa=>Value.int k a).toArray) w):
 aN P f (qs.map λa=>SV.n k a) (.bU<|rs.map λa=>SV.n k a):=by
 intro w S c _ m hc;have key:∀(l:L Int)(c:L Value),Cells w S false (aB<|l.map λa=>SV.n k a) c []->c=l.map λa=>Value.int k a:=by
  intro l
  induction l with
  |nil=>intro c hc;exact hc.1
  |cons a l g=>intro c hc;obtain⟨y,i,s,r,rfl,q,_,j,hc⟩:=hc;obtain⟨rfl,rfl⟩:=aga.1 q.symm;rw[j.2.1,g i hc];rfl
 have e:=key qs c hc;subst e;have d:∀l:L Int,Cells w S false (aB<|l.map λa=>SV.n k a) (l.map λa=>Value.int k a) []:=by
  intro l
  induction l with
  |nil=>simp[aB,Cells]
  |cons a l g=>exact⟨_,_,[],[],W,W,I,by simp[SV.den,Rel,scalar],g⟩
 intro rd o a next b p
 rw[h w];refine p _ _ ⟨S,[],Go.RowKit.Below.refl _ _,λ_ h=>h,λ_ h=>.inl h,m,?_,acP,I⟩;exact⟨_,W,d rs⟩
def gi(x y c:Nat)(hc:c<=1):ab 315 [.n .u64 x,.n .u64 y,.n .u64 c] (.bU [.n .u64 ((x+y+c)%2^64:Nat),.n .u64 ((x+y+c)/2^64:Nat)]):=by refine Mt (qs:=[(x:Int),y,c]) (rs:=[(((x+y+c)%2^64:Nat):Int),(((x+y+c)/2^64:Nat):Int)]) λw=>?_;refine(run_callFunc_extern (fn:=Tryz.f315) func315 aP aP aP (e:=add64Entry) aP _ w).trans ?_;have:=run_add64 (P:=prog) x y c E E E E w;simp_all
def qJ(x y b:Nat)(a:b<=1):ab 317 [.n .u64 x,.n .u64 y,.n .u64 b] (.bU [.n .u64 ((x+2^64-y-b)%2^64:Nat),.n .u64 ((if x<y+b then 1 else 0:Nat):Int)]):=by refine Mt (qs:=[(x:Int),y,b]) (rs:=[(((x+2^64-y-b)%2^64:Nat):Int),((if x<y+b then 1 else 0:Nat):Int)]) λw=>?_;refine(run_callFunc_extern (fn:=Tryz.f317) func317 aP aP aP (e:=sub64Entry) aP _ w).trans ?_;have:=run_sub64 (P:=prog) x y b a w;simp_all
def dK(xs:L Int)(d:xs.length<2^60):ab 316 [fS xs] (fS<|dp xs):=by
 refine cp func316 W<|r0 W<|ba (λn:Nat=>[(0,fS xs),(3,.i n)]) (λn=>n<=xs.length/\dp (xs.take n)=dp xs) (λn=>n) xs.length ⟨aaU _,by rw[acS]⟩ ?_;rintro n⟨hn,a⟩;refine b6 W 8 W ?_ ?_<;>intro h;have e:(((n:Nat):Int)-1).toNat=n-1:=E;refine r1 W bh ?_;rw[e];refine bY W ?_ ?_<;>intro b;refine r1 W bh<|again (n-1) E ⟨E,?_⟩ ⟨G,⟨W,aij SV.i E⟩,U⟩;rw[<-a];have:=vV (w:=xs.take n) (n:=n-1) (by grind) (by grind)
 grind
 have c:(n:Int).toNat=n:=E;refine r1 W bh<|aH W ?_;rw[c];refine aij (fS) ?_;rw[aeW,agT,<-a];refine(oL ?_).symm
 grind
 have:n=0:=E;subst this;refine r1 W bh<|aH W<|aij (fS) ?_;rw[<-a];simp[dp]
def pC(m n:Nat)(j:(ah m).length<2^60)(g:(ah n).length<2^60):ab 251 [fS<|ah m,fS<|ah n] (.i<|pD m n):=by
 refine cp func251 W<|cm W W ?_ ?_<;>intro h;refine cm W W ?_ ?_<;>intro f;refine b7 W W<|cn ?_;have:=cO (m:=m) (n:=n) E;simp[pD,this];refine b7 W W<|cn ?_;have:=cO (m:=n) (n:=m) E;simp[pD];omega;have hl:(ah m).length=(ah n).length:=E;refine r1 W (by simp[aj,aag];omega) ?_;refine loop (λi:Nat=>[(0,fS<|ah m),(1,fS<|ah n),(5,.i<|(i:Int)-1)]) (λi=>i<=(ah m).length/\(ah m).drop i=(ah n).drop i) (λi=>i) (ah m).length ⟨E,?_⟩
  ⟨G,G,G,U⟩ ?_
 simp_all;rintro i⟨hi,a⟩;refine cm W W ?_ ?_<;>intro f;obtain⟨k,rfl⟩:∃k,i=k+1:=⟨i-1,E⟩;have c:(((k+1:Nat):Int)-1).toNat=k:=E;refine k1 W aP (by simp[aj,aag];omega) ?_;refine bY W ?_ ?_<;>intro d;rw[c]at d;refine k1 W aP (by simp[aj,aag];omega) ?_;refine bY W ?_ ?_<;>intro b;rw[c]at b;refine b7 W W<|cn ?_;have:=nn E hl a b;simp[pD,this];rw[c]at b;refine b7 W W<|cn ?_;have:=nn E hl.symm a.symm E;simp[pD];omega;rw[c]at d;refine r1 W (by simp[aj,aag];omega) ?_;refine again k (agS _) ⟨E,?_⟩ ⟨G,G,⟨W,aij SV.i E⟩,U⟩;have e:(ah m).getD k 0=(ah n).getD k 0:=E;rw[acJ<|show k<(ah m).length from E,acJ<|show k<(ah n).length from E,a]
 grind
 have:i=0:=E;subst this;refine b7 W W<|cn ?_;have e:ah m=ah n:=by simpa using a
 have:m=n:=by have:=aaf val e;rw[bA,bA]at this;omega
 simp[pD,this]
def nr(n i:Nat):∃x:Nat,(ah n).getD i 0=x/\x<2^64:=by have:=bt (bL n) i;exact⟨((ah n).getD i 0).toNat,E,E⟩
def Fz(m n:Nat)(B:(ah m).length<2^40)(A:(ah n).length<2^40):ab 250 [fS<|ah m,fS<|ah n] (fS<|ah<|m+n):=by
 refine cp func250 W<|yI 2 (λa b:Nat=>[(0,fS<|ah a),(1,fS<|ah b)]) (λa b=>a+b=m+n/\(ah b).length<=(ah a).length/\(ah a).length<2^40) ?_ ?_;refine cm W W ?_ ?_<;>intro h;refine r0 W<|fL (n,m) ⟨by dsimp only;omega,by dsimp only;omega,by dsimp only;omega⟩;refine r0 W<|fL (m,n) ⟨fT,by dsimp only;omega,by dsimp only;omega⟩;rintro a b⟨hs,hl,z⟩;rw[<-hs];refine r1 W bk<|pV (λ(i:Nat)(out:L Int)(c:Nat)=>[(0,fS<|ah a),(1,fS<|ah b),(5,ah9 out),(6,.n .u64 c),(21,.i (ah a).length),(22,.i i)])
  (λi out c=>i<=(ah a).length/\iR out/\out.length=(ah a).length+1/\c<=1/\val out+c*18446744073709551616^i=val ((ah a).take i)+val ((ah b).take i)/\∀k,i<=k->out.getD k 0=0)
  (λi _ _=>(ah a).length-i) 0 (List.replicate ((ah a).length+1) 0) 0 ⟨aaQ _,gb _,I,E,by simp[val,jn],λk _=>iJ _ _⟩
  ⟨G,G,⟨W,aij (ah9)<|by congr 1⟩,G,G,G,U⟩ ?_
 rintro i out c⟨hi,q,d,hc,p,f⟩;refine cm W W ?_ ?_<;>intro h;have u:i<(ah a).length:=E;have e:(i:Int).toNat=i:=E;obtain⟨x,j,t⟩:=nr a i;obtain⟨y,o,s⟩:=nr b i;have step:∀l:a7,True->True:=λ_ h=>h;have fin:(i+1<=(ah a).length/\iR (out.set i (((x+y+c)%2^64:Nat):Int))/\(out.set i (((x+y+c)%2^64:Nat):Int)).length=(ah a).length+1/\(x+y+c)/2^64<=1/\
  val (out.set i (((x+y+c)%2^64:Nat):Int))+((x+y+c)/2^64:Nat)*18446744073709551616^(i+1)=val ((ah a).take<|i+1)+val ((ah b).take<|i+1)/\∀k,i+1<=k->(out.set i (((x+y+c)%2^64:Nat):Int)).getD k 0=0):=by
  refine⟨E,fF q E,by simpa using d,E,?_,λk w=>?_⟩;rw[lK _ E,f i<|aaU _,aL,aL,j,o,aeJ]
  grind
  rw[dy,aaq E];exact f k E
 refine cm W W ?_ ?_<;>intro v;refine r1 W (by simp only[aj,aag,e]<;>omega) ?_;refine cl W (by rw[e,j,o];rfl) (gi x y c hc) W ?_;refine r1 W (by simp only[aj,aag,e,d]<;>omega) ?_;exact again (i+1,out.set i (((x+y+c)%2^64:Nat):Int),(x+y+c)/2^64) (by dsimp only;omega) fin ⟨G,G,⟨W,aij (ah9)<|by rw[e]⟩,G,G,G,U⟩;have g:y=0:=by grind
 subst g;refine r1 W (by simp only[aj,aag,e]<;>omega) ?_;refine cl W (by rw[e,j];rfl) (gi x 0 c hc) W ?_;refine r1 W (by simp only[aj,aag,e,d]<;>omega) ?_;exact again (i+1,out.set i (((x+0+c)%2^64:Nat):Int),(x+0+c)/2^64) (by dsimp only;omega) fin ⟨G,G,⟨W,aij (ah9)<|by rw[e]⟩,G,G,G,U⟩;have:i=(ah a).length:=E;subst this;have r:(((ah a).length:Nat):Int).toNat=(ah a).length:=E;rw[acD<|aaU _,acD E,bA,bA]at p;refine r1 W (by simp only[aj,aag,r,d]<;>omega) ?_;rw[r];refine bW W (dK (out.set (ah a).length c)<|by simp;omega) W ?_;refine b7 W W<|aij (fS) ?_;rw[eM<|fF q E,lK _ E,f _<|aaU _,Int.sub_zero,p]
 congr 1
def tC(m n:Nat)(C:(ah m).length<2^40)(u:n<=m):ab 252 [fS<|ah m,fS<|ah n] (fS<|ah<|m-n):=by
 have v:(ah n).length<=(ah m).length:=by rcases acX (ah m).length (ah n).length with g|g;have:=cO g;omega;exact g
 refine cp func252 W<|r1 W bk<|pV (λ(i:Nat)(out:L Int)(c:Nat)=>[(0,fS<|ah m),(1,fS<|ah n),(5,ah9 out),(6,.n .u64 c),(13,.i (ah m).length),(14,.i i)])
  (λi out c=>i<=(ah m).length/\iR out/\out.length=(ah m).length/\c<=1/\val out=val ((ah m).take i)-val ((ah n).take i)+c*18446744073709551616^i/\∀k,i<=k->out.getD k 0=0)
  (λi _ _=>(ah m).length-i) 0 (List.replicate (ah m).length 0) 0 ⟨aaQ _,gb _,I,E,by simp[val,jn],λk _=>iJ _ _⟩
  ⟨G,G,⟨W,aij (ah9)<|by congr 1⟩,G,G,G,U⟩ ?_
 rintro i out c⟨hi,d,a,hc,s,o⟩;refine cm W W ?_ ?_<;>intro h;have w:i<(ah m).length:=E;have b:(i:Int).toNat=i:=E;obtain⟨x,f,r⟩:=nr m i;obtain⟨y,p,q⟩:=nr n i;have fin:(i+1<=(ah m).length/\iR (out.set i (((x+2^64-y-c)%2^64:Nat):Int))/\(out.set i (((x+2^64-y-c)%2^64:Nat):Int)).length=(ah m).length/\(if x<y+c then 1 else 0:Nat)<=1/\
  val (out.set i (((x+2^64-y-c)%2^64:Nat):Int))=val ((ah m).take<|i+1)-val ((ah n).take<|i+1)+((if x<y+c then 1 else 0:Nat):Int)*18446744073709551616^(i+1)/\∀k,i+1<=k->(out.set i (((x+2^64-y-c)%2^64:Nat):Int)).getD k 0=0):=by
  refine⟨E,fF d E,by simpa using a,by split<;>omega,?_,λk B=>?_⟩;rw[lK _ E,o i<|aaU _,aL,aL,f,p,aeJ];have A:(((x+2^64-y-c)%2^64:Nat):Int)=(x:Int)-y-c+2^64*((if x<y+c then 1 else 0:Nat):Int):=by split<;>omega
  grind
  rw[dy,aaq E];exact o k E
 refine cm W W ?_ ?_<;>intro z;refine r1 W (by simp only[aj,aag,b]<;>omega) ?_;refine cl W (by rw[b,f,p];rfl) (qJ x y c hc) W ?_;refine r1 W (by simp only[aj,aag,b,a]<;>omega) ?_;exact again (i+1,out.set i (((x+2^64-y-c)%2^64:Nat):Int),(if x<y+c then 1 else 0:Nat)) (by dsimp only;omega) fin ⟨G,G,⟨W,aij (ah9)<|by rw[b]⟩,G,G,G,U⟩;have e:y=0:=by grind
 subst e;refine r1 W (by simp only[aj,aag,b]<;>omega) ?_;refine cl W (by rw[b,f];rfl) (qJ x 0 c hc) W ?_;refine r1 W (by simp only[aj,aag,b,a]<;>omega) ?_;exact again (i+1,out.set i (((x+2^64-0-c)%2^64:Nat):Int),(if x<0+c then 1 else 0:Nat)) (by dsimp only;omega) fin ⟨G,G,⟨W,aij (ah9)<|by rw[b]⟩,G,G,G,U⟩;have:i=(ah m).length:=E;subst this;rw[acD<|aaU _,acD E,bA,bA]at s;have j:=iX d;have t:=bE d;rw[a]at j;have l:c=0:=by grind
 subst l;refine ck W W (dK out E) W<|b7 W W<|aij (fS) ?_;rw[eM d]
 congr 1;omega
def wrm(n:Nat):IntKind.u64.wrap (n:Int)=((n%2^64:Nat):Int):=by show(n:Int)%2^64=_;omega
def wr{n:Nat}(h:n<2^64):IntKind.u64.wrap (n:Int)=(n:Int):=by rw[wrm,afz h]
def TZ{a:Int}:IntKind.u64.wrap a=a%2^64:=W
def Vx(y:Nat):IntKind.u64.wrap ((BitVec.ofInt IntKind.u64.bits (y:Int)&&&BitVec.ofInt IntKind.u64.bits 4294967295).toNat:Int)=((y%2^32:Nat):Int):=by
 rw[wrm]
 congr 1
 have a:(BitVec.ofNat 64 y&&&BitVec.ofNat 64 (2^32-1)).toNat=(y%2^64)&&&((2^32-1)%2^64):=I;rw[show((2:Nat)^32-1)%2^64=2^32-1 from W,Nat.and_two_pow_sub_one_eq_mod]at a;show(BitVec.ofNat 64 y&&&BitVec.ofNat 64 (2^32-1)).toNat%_=_;omega
def GU(y:Nat):(y:Int).fdiv (2^min (Int.toNat 32) IntKind.u64.bits)=((y/2^32:Nat):Int):=by rw[ah3 _ fV];rfl
def ll(x y:Nat)(c:x<18446744073709551616)(b:y<18446744073709551616):aN Tryz.prog 255 [.n .u64 x,.n .u64 y] (.bU [.n .u64 (x*y/18446744073709551616:Nat),.n .u64 (x*y%18446744073709551616:Nat)]):=by
 refine cp Tryz.func255 W<|r1 W ?_ ?_
 ·simp only[aj];decide
 obtain⟨o,m,l,a⟩:=Go.Lib.mul64_hi x y c b;have d:x*y/18446744073709551616<18446744073709551616:=by rw[aeQ fV];exact Nat.mul_lt_mul'' c b
 rw[<-a]at d;refine aH W ⟨aaf (SV.n .u64) ?_,aaf (SV.n .u64) ?_,U⟩
 ·have h:=wr (n:=x/4294967296*(y/4294967296)) E;have wB:=wr (n:=x/4294967296*(y%4294967296)) E;have g:=wr (n:=x%4294967296*(y/4294967296)) E;have f:=wr o;have e:=wr m;have k:=wr l;have j:=wr (n:=x/4294967296*(y/4294967296)+(x/4294967296*(y%4294967296)+x%4294967296*(y%4294967296)/4294967296)/4294967296) E;have i:=wr d;simp only[Vx,GU,<-af2,<-aho,h,wB,g,f,e,k,j,i];rw[a]
 rw[<-af2,wrm]
end Go.Ai.bG
