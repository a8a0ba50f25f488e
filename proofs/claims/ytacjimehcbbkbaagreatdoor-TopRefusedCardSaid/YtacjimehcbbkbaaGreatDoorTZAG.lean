/- TopRefused holds. -/
import Derived.Test.YtacjimehcbbkbaaGreatDoorTZAF
import Derived.Deep.Slices
import Derived.ChangeArms
import Derived.ChangeStays
import Derived.ChangeBook
import Derived.Shelf.Spec.BitsCarry
set_option linter.all false
set_option maxRecDepth 100000
set_option maxHeartbeats 0
noncomputable section
namespace Go.Ai
open Go.Proofs Go.RowKit Go.Proofs.Tryz
abbrev jy(κ:Type):=L<|κ×SV
section
variable{κ:Type}[Mk κ]
def rq(k:κ):jy κ->Q SV
 |[]=>none
 |(a,x)::b=>match Mk.eq k a with
  |true=>some x
  |false=>rq k b
def Dd(k:κ)(x:SV):jy κ->jy κ
 |[]=>[(k,x)]
 |(a,y)::b=>match Mk.eq k a with
  |true=>(k,x)::b
  |false=>(a,y)::Dd k x b
inductive vS(w:World)(S:Nat->Prop):jy κ->yx κ->Prop
 |nil:vS w S [] []
 |cons {k:κ} {x:SV} {v:Value} {es:jy κ} {vs:yx κ}:Rel w S x.den v []->vS w S es vs->vS w S ((k,x)::es) ((k,v)::vs)
section
variable{w w':World}{S S':Nat->Prop}
def vS.mono(g:∀b,S b->w'.heap[b]?=w.heap[b]?)(f:∀b,S b->S' b){c:jy κ}{a:yx κ}(h:vS w S c a):vS w' S' c a:=by
 induction h with
 |nil=>exact .nil
 |cons h _ d=>exact .cons (Rel.mono f _<|Rel.frame _ h λb e=>g b<|e.resolve_right I) d
def vS.get{k:κ}{b:jy κ}{a:yx κ}(h:vS w S b a):(rq k b=none/\Br k a=none)\/∃x v,rq k b=some x/\Br k a=some v/\Rel w S x.den v []:=by
 induction h with
 |nil=>exact .inl G
 |@cons c x v b a h _ d=>
  unfold rq Br;cases Mk.eq k c with
  |true=>simp_all
  |false=>exact d
def vS.put{k:κ}{x:SV}{v:Value}(c:Rel w S x.den v []){b:jy κ}{a:yx κ}(h:vS w S b a):vS w S (Dd k x b) (zb k v a):=by
 induction h with
 |nil=>exact .cons c .nil
 |@cons d y u b a h f e=>
  unfold Dd zb;cases Mk.eq k d with
  |true=>exact .cons c f
  |false=>exact .cons h e
structure GK(w:World)(S:Nat->Prop)(es:jy κ)(ms:Array MapEntry)(c:Nat):Prop where
 aht:∃vs:yx κ,ms.toList.map (λe=>(e.key,e.val))=vs.map (λq=>(Mk.v q.1,q.2))/\vS w S es vs
 born:∀e∈ms.toList,e.born<c
 one:(ms.toList.map (·.born)).Nodup
def GK.mono(g:∀b,S b->w'.heap[b]?=w.heap[b]?)(f:∀b,S b->S' b){d:jy κ}{a:Array MapEntry}{c:Nat}(h:GK w S d a c):GK w' S' d a c:=by obtain⟨⟨e,k1,k2⟩,k3,k4⟩:=h;exact⟨⟨e,k1,k2.mono g f⟩,k3,k4⟩
end
def Z6(d:jy κ)(w:World)(S:Nat->Prop)(y:Value):Prop:=∃b a c,y=.map (some b)/\w.heap[b]?=some (.map a c)/\GK w S d a c
abbrev SV.mx(a:jy κ):SV:=.ob<|Z6 a
section
variable{w:World}{S:Nat->Prop}{P:Program}{t key elem:TypeId}
def VV{f:jy κ}{b:Nat}{a:Array MapEntry}{c:Nat}(d:w.heap[b]?=some (.map a c))(h:GK w S f a c):Rel w S (SV.mx f).den (.map<|some b) [b]:=⟨W,W,λw' S' e g=>⟨b,a,c,W,(e b<|.inr I).trans d,h.mono (λb d=>e b<|.inl d) g⟩⟩
def mE(g:P.underlying t=some (.map key elem))(f:P.underlying key=some (Mk.d κ)){n:jy κ}{k:κ}{x:SV}(h:rq k n=some x)(ok:Bool):Looks P t ok (Z6 n) (.v<|Mk.v k) (if ok then SV.de [x,.b true]else x).den:=by
 rintro w S _ u⟨b,y,c,rfl,m,⟨s,hm,o⟩,-,-⟩p;obtain⟨_,rfl,_⟩:=p;rcases o.get with⟨e,-⟩|⟨r,v,e,q,a⟩;rw[h]at e;cases e;rw[h]at e;cases e;obtain⟨j,e,-⟩:=tQ (i:=0) hm q;cases ok with
 |true=>refine⟨.tuple #[v,.bool true],?_,?_⟩;simp[Instr.lookup,run_underlying g,MapKept.run_getObj_map m,MapKept.run_checkKey f (k:=Mk.v k)<|Mk.key k,MapKept.run_findKey f e];simp;exact⟨_,W,v,_,[],[],W,W,I,a,.bool true,_,[],[],W,W,I,mv,W,W⟩
 |false=>refine⟨v,?_,a⟩;simp[Instr.lookup,run_underlying g,MapKept.run_getObj_map m,MapKept.run_checkKey f (k:=Mk.v k)<|Mk.key k,MapKept.run_findKey f e]
def Cu(j:P.underlying t=some (.map key elem))(f:P.underlying key=some (Mk.d κ)){n:jy κ}{k:κ}{x:SV}{z:Value}{i:TypeInfo}(s:rq k n=none)(hi:P.info? elem=some i)(p:i.zero=some z)(g:∀w S,Rel w S x.den z [])(ok:Bool):Looks P t ok (Z6 n) (.v<|Mk.v k) (if ok then SV.de [x,.b false]else x).den:=by
 rintro w S _ A⟨b,B,c,rfl,m,⟨o,hm,q⟩,-,-⟩r;obtain⟨_,rfl,_⟩:=r;have u:Br k o=none:=by rcases q.get with⟨-,h⟩|⟨y,v,e,-⟩;exact h;rw[s]at e;cases e
 have e:=tR (i:=0) hm u;have a:(zeroValue elem).run P w=.ok z w:=by simp[zeroValue,typeInfo,hi,p]
 cases ok with
 |true=>refine⟨.tuple #[z,.bool false],?_,?_⟩;simp[Instr.lookup,run_underlying j,MapKept.run_getObj_map m,MapKept.run_checkKey f (k:=Mk.v k)<|Mk.key k,MapKept.run_findKey f e,a];simp;exact⟨_,W,z,_,[],[],W,W,I,g w S,.bool false,_,[],[],W,W,I,mv,W,W⟩
 |false=>refine⟨z,?_,g w S⟩;simp[Instr.lookup,run_underlying j,MapKept.run_getObj_map m,MapKept.run_checkKey f (k:=Mk.v k)<|Mk.key k,MapKept.run_findKey f e,a]
def tz{o:Oper}(i:o.op=.makeMap t none):kf P o [] [] [] (.mx (κ:=κ) []):=by
 refine oU W W I ?_;intro w S n f hc m g;have a:(Instr.makeMap t none).run P w=.ok (.map<|some w.heap.size) (w.alloc<|.map #[] 0):=by simp[Instr.makeMap]
 have e:=MapKept.heap_alloc w<|.map #[] 0;have c:(w.alloc<|.map #[] 0).heap.size=w.heap.size+1:=m9
 refine⟨.value _,.map<|some w.heap.size,w.alloc _,by simp[execOp,i,a],.inl W,S,[w.heap.size],⟨W,W,W,E,λk j=>e.2 k j⟩,λb h=>h,λb h=>.inl h,λb h=>by rw[c];have:=f b h;omega,?_,I,?_⟩;exact VV e.1 ⟨⟨[],W,.nil⟩,I,I⟩;intro b d;simp at d;subst d;exact⟨.refl,E,λh=>by have:=f _ h;omega⟩
def kf.at{o:Oper}{X X' y y' r:SV}{q:Path}{xs:List SV}(hl:xs.length<500)(P1:oN xs=true)(hp:X.plain=true)(S2:X'.plain=true)(hy:y.plain=true)(P0:y'.plain=true)(hr:r.plain=true)
 (hg:bM X.den q=some y.den)(hs:fH X.den q y'.den=some X'.den)(H6:∀(w:World)(S:Nat->Prop)(v:Value)(F:List Nat),Rel w S y.den v F->v.oneCell'=true)
 (h:kf P o [y] (.bH 500 0 0 []::xs) [y'] r):kf P o [X] (.bH 500 0 0 q::xs) [X'] r:=by
 intro w S V Y F S0 hc;have G3:∀p,(aE<|.bH 500 0 0 p::xs).length<=500:=λp=>by rw[bS];simp[acC];omega
 have G2:both (aE<|.bH 500 0 0 q::xs) (aE [X]) 500=⟨X.den,0,0⟩:=fi (G3 q) 0;have G1:both (aE<|.bH 500 0 0 []::xs) (aE [y]) 500=⟨y.den,0,0⟩:=fi (G3 []) 0;have hd:∀(p:Path)(Z:SV)(i:Nat),500<i->both (aE<|.bH 500 0 0 p::xs) (aE [Z]) i=⟨.dead,0,0⟩:=λp Z i hi=>by obtain⟨k,rfl⟩:∃k,i=500+(k+1):=⟨i-501,E⟩;rw[fi<|G3 p,agc<|by simp[aE]]
 have H4:∀{j:Nat}{x:SV},xs[j]?=some x->x.plain=true:=by
  have:∀{l:List SV},oN l=true->∀{j:Nat}{x:SV},l[j]?=some x->x.plain=true:=by
   intro l
   induction l with
   |nil=>intro _ j x h;cases h
   |cons z l ih=>
    intro h j x hx;simp[oN]at h;split at h;rename_i hz;cases j with
    |zero=>cases hx;exact hz
    |succ j=>exact ih h (by simpa using hx)
    ·cases h
  exactλ{_ _}h=>this P1 h
 have F3:=hc.rel 500;have hT:a7 V Y 500=V.v 500:=W;rw[an.aC<|by rw[G2,cW];exact hp,G2,hT]at F3;obtain⟨L,z,A,F1,B,k1,k2,k3,k4,kw,k6⟩:=Rel.jg q (L:=.val<|V.v 500) F3 W hg hs (hc.nodup _) (λb c=>(hc.own 500 b c).2.2) (dl);have M2:=H6 _ _ _ _ k3;have h0:=hc.rel 0;have V1:both (aE<|.bH 500 0 0 q::xs) (aE [X]) 0=⟨.bH 500 0 0 q,0,0⟩:=fT E;have H3:(Y.getD 0 undef)=z/\F 0=[]:=by
  unfold an at h0;rw[V1]at h0;simp only[G2]at h0;obtain⟨s,-,-,n⟩:=h0;obtain⟨L',q1,q2,q3⟩:=n U (.inr U) λ_=>⟨_,hg⟩;rw[hT,k1]at q1;cases q1;refine⟨?_,s⟩;show a7 V Y 0=z;cases L with
  |val u=>exact q2.trans k2.symm
  |addr ad=>exact M3 q2 k2 (cells_one<|q3 ad W)<|cells_one M2
 have hN:=hc.nodup 500;rw[k4,ad4,ad4]at hN;have E1:∀b,b∈F1->b∈F 500:=λb c=>by rw[k4];simp[c]
 have D:∀b,b∈A\/b∈B->b∈F 500:=λb c=>by rw[k4];grind
 obtain⟨J,A0⟩:∃J:Hid,J={V with v:=jg V.v 500 z,g:=λb=>b∈F1\/∃i,i≠500/\b∈F i}:=⟨_,W⟩;have G4:J.v 500=z:=by rw[A0];show jg V.v 500 z 500=z;rw[aG]
 have E2:∀b,J.g b->V.g b/\b<w.heap.size/\¬S b/\b∉A/\b∉B:=by rw[A0];rintro b(c|⟨i,hi,c⟩);have:=hc.own _ b<|E1 b c;exact⟨this.1,this.2.1,this.2.2,by grind,by grind⟩;have:=hc.own _ b c;exact⟨this.1,this.2.1,this.2.2,λh=>hc.dz i 500 hi b c<|D b<|.inl h,λh=>hc.dz i 500 hi b c<|D b<|.inr h⟩
 have H2:∀i,i≠500->a7 J Y i=a7 V Y i:=λi hi=>by unfold a7;split;rfl;rw[A0];exact ar _ _ hi
 have V0:aT S J.g (both (aE<|.bH 500 0 0 []::xs)<|aE [y]) (a7 J Y) w (λi=>if i=500 then F1 else F i):=by
  refine⟨λi=>?_,λi=>?_,λi j O b c=>?_,λi b c=>?_,hc.shr⟩;by_cases hi:i=500;subst hi;rw[an.aC<|by rw[G1,cW];exact hy,G1,abx W];have:a7 J Y 500=z:=by exact G4
  rw[this];exact k3;rw[abl hi];by_cases F0:i=0;subst F0;unfold an;rw[show both (aE<|.bH 500 0 0 []::xs) (aE [y]) 0=⟨.bH 500 0 0 [],0,0⟩from fT E];simp only[G1];refine⟨H3.2,abY _,abY _,λ_ _ _=>⟨.val<|a7 J Y 500,W,?_,I⟩⟩;show a7 J Y 0=a7 J Y 500;rw[H2 0 E];exact H3.1.trans G4.symm;have hr:=hc.rel i;by_cases K0:i<500;have s:=fT (args:=aE<|.bH 500 0 0 []::xs) (H:=aE [y]) K0;have n:=fT (args:=aE<|.bH 500 0 0 q::xs) (H:=aE [X]) K0;obtain⟨j,rfl⟩:∃j,i=j+1:=⟨i-1,E⟩;have e3:both (aE<|.bH 500 0 0 []::xs) (aE [y]) (j+1)=both (aE<|.bH 500 0 0 q::xs) (aE [X]) (j+1):=by rw[s,n];rfl
  have H5:(both (aE<|.bH 500 0 0 q::xs) (aE [X])<|j+1).av.plain=true:=by
   rw[n];show(match(aE xs)[j]?with|some x=>(⟨x,0,0⟩:Sl)|none=>⟨.dead,0,0⟩).av.plain=true;rw[jC];cases hx:xs[j]?with
   |none=>rfl
   |some x=>show x.den.plain=true;rw[cW];exact H4 hx
  rw[an.aC H5]at hr;rw[an.aC<|by rw[e3];exact H5,e3,H2 _ hi];exact hr;have s:=hd q X i E;have n:=hd [] y i E;rw[an.aC<|by rw[s];rfl,s]at hr;rw[an.aC<|by rw[n];rfl,n];exact hr;split;exact hN.1.2.1;exact hc.nodup i;split at c;rename_i hi;rw[abl λe=>O<|hi.trans e.symm];exactλf=>hc.dz 500 j (λe=>O<|hi.trans e) b (E1 b c) f;rename_i hi;split;exactλf=>hc.dz i 500 hi b c<|E1 b f;exact hc.dz i j O b c;split at c;have:=hc.own 500 b<|E1 b c;exact⟨by rw[A0];exact .inl c,this.2⟩;rename_i hi;have:=hc.own i b c;exact⟨by rw[A0];exact .inr ⟨i,hi,c⟩,this.2⟩
 have K2:=h w S J Y _ (by simpa[aE]using S0) V0;refine Ext.mono (λv w' hq=>?_) K2;obtain⟨S',F2,T,s1,s2,m⟩:=hq;have C:∀b,b∈A\/b∈B->¬c6 J w b:=λb c hm=>by have:=(hc.own 500 b<|D b c).2.1;rcases hm with h|h;omega;have:=(E2 b h).2.2.2;grind
 have K:∀b,b<w.heap.size->¬J.g b->w'.heap[b]?=w.heap[b]?:=λb h1 h2=>T.block b h1 h2;have H1:∀b,b∈A\/b∈B->w'.heap[b]?=w.heap[b]?:=λb c=>K b (hc.own 500 b<|D b c).2.1 λh=>C b c<|.inr h;have F4:=m.rel 500;have L1:both [r.den] (aE [y']) 500=⟨y'.den,0,0⟩:=fi I 0;rw[an.aC<|by rw[L1,cW];exact P0,L1]at F4;have V2:a7 J [v] 500=z:=G4;rw[V2]at F4;have G0:∀b,L.fU=some b->b∈A:=by
  intro b c;cases L with
  |val u=>cases c
  |addr ad=>cases c;rcases kw with h|⟨a,h,-⟩;exact h;cases h
 obtain⟨z',j1,-,-,j4⟩:=k6 w' S' z (F2 500) s1 W (λh=>h) (λb c _=>by
  rcases c with c|c|c|c;exact K b (hc.shr b c) λh=>(E2 b h).2.2.1 c;exact H1 b<|.inl c;exact H1 b<|.inr c;cases c) (by
  cases L with
  |val u=>rfl
  |addr ad=>have S1:w'.heap[ad.block]?=w.heap[ad.block]?:=H1 _<|.inl<|G0 _ W;have:=pE (w:=w) k2;intro cs fz T0;obtain⟨W1,q1,q2⟩:=this cs fz T0;exact⟨W1,(mw S1).trans q1,q2⟩) F4
 simp[xr]at j4;subst j4;have d:∀i b,b∈F2 i->c6 J w b/\b<w'.heap.size/\¬S' b:=λi b c=>m.own i b c;have M:∀b,c6 J w b->c6 V w b:=λb c=>c.imp id λh=>(E2 b h).1;have L0:both [r.den] (aE [X']) 500=⟨X'.den,0,0⟩:=fi I 0;refine⟨S',λi=>if i=500 then A++F2 500++B else F2 i,⟨T.os,T.tape,T.output,T.size,λk hk S4=>K k hk λh=>S4 (E2 k h).1⟩,s1,λb c=>(s2 b c).imp id<|M b,⟨λi=>?_,λi=>?_,λi j O b c=>?_,λi b c=>?_,m.shr⟩⟩;by_cases hi:i=500;subst hi;rw[an.aC<|by rw[L0,cW];exact S2,L0,abx W];exact j1;rw[abl hi];have:=m.rel i;have s:=kx r.den y'.den i;have n:=kx r.den X'.den i;rw[abl hi]at s n;by_cases F0:i=0;subst F0;rw[abx W]at s n;have s:(both [r.den] (aE [y']) 0).av=r.den:=s;have n:(both [r.den] (aE [X']) 0).av=r.den:=n;rw[an.aC<|by rw[s,cW];exact hr,s]at this;rw[an.aC<|by rw[n,cW];exact hr,n];exact this;rw[abl F0]at s n;have s:(both [r.den] (aE [y']) i).av=.dead:=s;have n:(both [r.den] (aE [X']) i).av=.dead:=n;rw[an.aC<|by rw[s];rfl,s]at this;rw[an.aC<|by rw[n];rfl,n];exact this;split;rw[ad4,ad4];refine⟨⟨hN.1.1,m.nodup _,λa ha b c e=>?_⟩,hN.2.1,λa ha b c e=>?_⟩;subst e;exact C a (.inl ha) (d _ a c).1;subst e;rcases aeM.1 ha with ha|ha;exact hN.2.2 a (by simp[ha]) a c W;exact C a (.inr c) (d _ a ha).1;exact m.nodup i;split at c;rename_i hi;rw[abl λe=>O<|hi.trans e.symm];intro f;rcases aeM.1 c with c|c;rcases aeM.1 c with c|c;exact C b (.inl c) (d _ b f).1;exact m.dz 500 j (λe=>O<|hi.trans e) b c f;exact C b (.inr c) (d _ b f).1;rename_i hi;split;intro f;rcases aeM.1 f with f|f;rcases aeM.1 f with f|f;exact C b (.inl f) (d _ b c).1;exact m.dz i 500 hi b c f;exact C b (.inr f) (d _ b c).1;exact m.dz i j O b c;have M1:b∈A\/b∈B->c6 V w b/\b<w'.heap.size/\¬S' b:=λc=>by have ho:=hc.own 500 b<|D b c;have:=T.size;refine⟨.inr ho.1,E,λh=>?_⟩;rcases s2 b h with h|h;exact ho.2.2 h;exact C b c h
 split at c;rcases aeM.1 c with c|c;rcases aeM.1 c with c|c;exact M1<|.inl c;have:=d _ b c;exact⟨M b this.1,this.2⟩;exact M1<|.inr c;have:=d _ b c;exact⟨M b this.1,this.2⟩
def WW{o:Oper}{a:jy κ}{x:Operand}{f:Array TypeId}(j:o.op=.call ⟨.builtin .len,#[x],f⟩)(g:f.toList=[t])(v:P.underlying t=some (.map key elem)):Obs P o (Z6 a) (SV.i a.length).den:=by
 rintro w S _ n⟨b,p,c,rfl,y,⟨e,hm,u⟩,-,-⟩r;have s:n x=.map (some b):=by
  have:o.op.operands.toList=[x]:=by rw[j];rfl
  simp_all
 have d:f=#[t]:=aib (eT);have hl:p.size=a.length:=by
  have m:=aal List.length hm;simp at m;have z:∀{a:jy κ}{e:yx κ},vS w S a e->e.length=a.length:=λh=>by
   induction h with
   |nil=>rfl
   |cons _ _ q=>simp[q]
  rw[m,z u]
 refine⟨.int _ _,?_,W,W,W⟩;simp[execOp,j,Go.resolve,s,invoke,builtin,d,Builtin.len_,run_underlying v,goInt,MapKept.run_getObj_map y,hl]
def PL{V:Hid}{c:L Value}{F:Nat->L Nat}{args:L AV}{J:World->(Nat->Prop)->Value->Prop}(d:args.length<=500)(hc:aT S V.g (both args [.ob J]) (a7 V c) w F):
 F 500=rf w (V.v 500)/\J w S (V.v 500):=by
 have a:=hc.rel 500;have b:=fi (H:=[.ob J]) d 0;rw[an.aC<|by rw[b];rfl,b]at a;exact⟨a.2.1,a.2.2 w S (λ_ _=>rfl) λ_ h=>h⟩
def Z5{V:Hid}{p:L Value}{F:Nat->L Nat}{args:L AV}{J J':World->(Nat->Prop)->Value->Prop}{b:Nat}{o o':Obj}{v:Value}(hc:aT S V.g (both args [.ob J]) (a7 V p) w F)
 (q:V.v 500=.map (some b))(d:w.heap[b]?=some o)(s:F 500=[b])(A:Rel {w with heap:=w.heap.setIfInBounds b o'} S (.ob J') (.map<|some b) [b]):
 ∃S' x,tZ V w w {w with heap:=w.heap.setIfInBounds b o'}/\(∀b,S b->S' b)/\(∀b,S' b->S b\/c6 V w b)/\aT S' (c6 V w) (both [.dead] [.ob J']) (a7 V [v]) {w with heap:=w.heap.setIfInBounds b o'} x:=by
 have a:=hc.own 500 b (by rw[s];simp);have f:(w.heap.setIfInBounds b o').size=w.heap.size:=I;refine⟨S,λi=>if i=500 then[b]else[],⟨W,W,W,by show _<=(w.heap.setIfInBounds b o').size;omega,λk y r=>(MapKept.heap_set d).2 k λe=>by subst e;exact r a.1⟩,λ_ h=>h,λ_ h=>.inl h,
  ⟨λi=>?_,λi=>?_,λi j m c d=>?_,λi c d=>?_,λc h=>by show c<(w.heap.setIfInBounds b o').size;rw[f];exact hc.shr c h⟩⟩
 rw[an.aC<|gb,kx];by_cases u:i=0;subst u;simp[Rel];by_cases n:i=500;subst n;have z:a7 V [v] 500=.map (some b):=by unfold a7;rw[abl E,q]
 simp_all;simp[n,Rel];split<;>simp;split at d;rename_i hi;rw[abl λe=>m E];simp;cases d;split at d;simp at d;subst d;exact⟨.inr a.1,by show _<(w.heap.setIfInBounds c o').size;rw[f];exact a.2.1,a.2.2⟩;cases d
def te{o:Oper}{Z:jy κ}{k:κ}{x:SV}{a b c:Operand}(s:o.op=.insert t a b c\/o.op=.mapUpdate t a b c)(hd:o.dst=none)(ht:P.underlying t=some (.map key elem))(X:P.underlying key=some (Mk.d κ))(hx:x.aK=true)(hp:x.plain=true):
 kf P o [.mx Z] [.bH 500 0 0 [],Mk.sv k,x] [.mx<|Dd k x Z] .dead:=by
 intro w S V vs F hl hc O D;obtain⟨hF,m,B,cl,hv,hm,⟨us,y,A0⟩,A,r⟩:=PL (by simp[aE]) hc;rw[hv]at hF;obtain⟨x0,T,g,rfl⟩:∃x0 T g,vs=[x0,T,g]:=by
  match vs,hl with
  |[x0,T,g],_=>simp_all
 have e0:=(mT (i:=0) E hc W).trans hv;have e1:=Xj (args:=[.bH 500 0 0 [],Mk.sv k,x]) (H:=[.mx Z]) (i:=1) E hc W<|Mk.val k;have e2:Rel w S x.den g []:=by have C:=hc.rel 2;have hb:=fT (args:=aE [.bH 500 0 0 [],Mk.sv k,x]) (H:=aE [.mx Z]) (i:=2) E;rw[an.aC<|by rw[hb];show x.den.plain=true;rw[cW];exact hp,hb]at C;have C:Rel w S x.den (a7 V [x0,T,g] 2) (F 2):=C;rw[Rel.aK _ C<|by rw[cO];exact hx]at C;exact C
 have K:O a=.map (some m)/\O b=Mk.v k/\O c=g:=by
  have:o.op.operands.toList=[a,b,c]:=by rcases s with s|s<;>rw[s]<;>rfl
  rw[this]at D;simp[abu]at D;simp_all
 have key:∃f n,f.toList.map (λe:MapEntry=>(e.key,e.val))=(zb k g us).map (λq=>(Mk.v q.1,q.2))/\(∀e∈f.toList,e.born<n)/\(f.toList.map (·.born)).Nodup/\
  (Instr.mapUpdate t (.map<|some m) (Mk.v k) g).run P w=.ok () {w with heap:=w.heap.setIfInBounds m<|.map f n}:=by
  cases hg:Br k us with
  |none=>have Y:=tR (i:=0) y hg;refine⟨B.push {key:=Mk.v k,val:=g,born:=cl},cl+1,by rw[HX hg];simp[y],?_,?_,?_⟩;intro e he;simp at he;rcases he with he|rfl;have:=A e (gv);omega;exact aip _;simp[Array.toList_push,adW,ad3,ahj];refine ad4.2 ⟨r,I,λi hi j hj e=>?_⟩;simp at hj;obtain⟨q,hq,rfl⟩:=ab4.1 hi;have:=A q hq;omega;simp[Instr.mapUpdate,run_underlying ht,MapKept.run_getObj_map hm,MapKept.run_checkKey X (k:=Mk.v k)<|Mk.key k,MapKept.run_findKey X Y,MapKept.run_setObj_map _ hm]
  |some u=>
   obtain⟨j,Y,e,h2,h3,h4⟩:=tQ (i:=0) y hg;have hj:B[j]?=some e:=by simpa using h2
   have M:(B.modify j λe=>{e with key:=Mk.v k,val:=g}).toList.map (·.born)=B.toList.map (·.born):=by rw[Array.toList_modify];apply ahT I;intro i Y h2;simp[List.getElem_modify];split<;>rfl
   refine⟨B.modify j λe=>{e with key:=Mk.v k,val:=g},cl,by rw[<-h4 g];simp,λe he=>?_,by rw[M];exact r,?_⟩;have:e.born∈B.toList.map (·.born):=by rw[<-M];exact ahC he
   obtain⟨q,hq,E1⟩:=ab4.1 this;have:=A q hq;omega;simp[Instr.mapUpdate,run_underlying ht,MapKept.run_getObj_map hm,MapKept.run_checkKey X (k:=Mk.v k)<|Mk.key k,MapKept.run_findKey X Y,hj,h3,MapKept.run_keyThatStays (d:=Mk.d κ) (k:=Mk.v k)<|Mk.key k,MapKept.run_setObj_map _ hm]
 obtain⟨f,n,k1,k2,k3,J⟩:=key;have hx:(execOp O o).run P w=.ok .skip {w with heap:=w.heap.setIfInBounds m<|.map f n}:=by rcases s with s|s<;>simp[execOp,s,K,J]
 have p:=hc.own 500 m (by rw[hF];show m∈[m];simp);have v:=MapKept.heap_set (o':=.map f n) hm;refine⟨_,.nilIface,_,hx,.inr ⟨W,hd⟩,Z5 hc hv hm hF<|VV v.1 ⟨⟨_,k1,(A0.mono (λc z=>v.2 c λe=>p.2.2 (e▸z)) λ_ h=>h).put<|Rel.frame _ e2 λc z=>v.2 c λe=>p.2.2 (e▸z.resolve_right I)⟩,k2,k3⟩⟩
end
def Ry(b:jy κ)(done:L Nat)(w:World)(S:Nat->Prop)(y:Value):Prop:=∃c m a cl seen,y=.pointer (some ⟨c,0,none⟩)/\w.heap[c]?=some (.mapIter (some m) cl seen cl)/\w.heap[m]?=some (.map a cl)/\GK w S b a cl/\
 seen.toList=done.map (λi=>(a.toList.map (·.born)).getD i 0)/\done.Nodup/\∀i∈done,i<b.length
abbrev SV.it(a:jy κ)(done:L Nat):SV:=.ob<|Ry a done
section
variable{w:World}{S:Nat->Prop}{P:Program}{t key elem:TypeId}
def JH{f:jy κ}{done:L Nat}{c m:Nat}{a:Array MapEntry}{cl:Nat}{seen:Array Nat}(hc:w.heap[c]?=some (.mapIter (some m) cl seen cl))(hm:w.heap[m]?=some (.map a cl))(h:GK w S f a cl)
 (p:seen.toList=done.map (λi=>(a.toList.map (·.born)).getD i 0))(o:done.Nodup)(n:∀i∈done,i<f.length):Rel w S (SV.it f done).den (.pointer<|some ⟨c,0,none⟩) [c,m]:=by
 have e:rf w (.pointer<|some ⟨c,0,none⟩)=[c,m]:=by show(match w.heap[c]?with|some (.mapIter (some m) _ _ _)=>[c,m]|_=>[c])=_;rw[hc]
 exact⟨W,e.symm,λw' S' d g=>⟨c,m,a,cl,seen,W,(d c<|.inr I).trans hc,(d m<|.inr I).trans hm,h.mono (λb j=>d b<|.inl j) g,p,o,n⟩⟩
def V6{o:Oper}{u:jy κ}{a:Operand}(y:o.op=.range t a)(D:P.underlying t=some (.map key elem)):kf P o [.mx u] [.bH 500 0 0 []] [.dead] (.it u []):=by
 intro w S V v F hl hc C d;obtain⟨z,m,O,cl,x,hm,K⟩:=PL (by simp[aE]) hc;rw[x]at z;obtain⟨x0,rfl⟩:∃x0,v=[x0]:=by
  match v,hl with
  |[x0],_=>exact⟨_,W⟩
 have M:=(mT (i:=0) E hc W).trans x;have n:C a=.map (some m):=by rw[show o.op.operands.toList=[a] by rw[y];rfl]at d;simp at d;exact d.trans M
 obtain⟨it,p⟩:∃it,it=Obj.mapIter (some m) cl #[] cl:=⟨_,W⟩;have g:(Instr.range t<|.map<|some m).run P w=.ok (.pointer<|some ⟨w.heap.size,0,none⟩) (w.alloc it):=by simp[Instr.range,run_underlying D,MapKept.run_getObj_map hm,p]
 have q:=MapKept.heap_alloc w it;have H:(w.alloc it).heap.size=w.heap.size+1:=m9
 have b:=hc.own 500 m (by rw[z];show m∈[m];simp);refine⟨.value<|.pointer<|some ⟨w.heap.size,0,none⟩,.pointer<|some ⟨w.heap.size,0,none⟩,w.alloc it,by simp[execOp,y,n,g],.inl W,S,λi=>if i=0 then[w.heap.size,m]else[],⟨W,W,W,E,λk J _=>q.2 k J⟩,λ_ h=>h,λ_ h=>.inl h,
  ⟨λi=>?_,λi=>?_,λi j r c f=>?_,λi c f=>?_,λc h=>by have:=hc.shr c h;omega⟩⟩
 change an _ _ (both [(SV.it u []).den] [AV.dead]) _ i _;rw[an.aC<|gb,kx];by_cases B:i=0;subst B;exact JH (by rw[q.1,p]) (by rwa[q.2 m b.2.1]) (K.mono (λc s=>q.2 c<|hc.shr c s) λ_ h=>h) W I I;by_cases A:i=500;subst A;simp[Rel];simp[B,A,Rel];split;simp;omega;simp;split at f;rename_i hi;rw[abl λe=>r E];simp;cases f;split at f;simp at f;rcases f with rfl|rfl;exact⟨.inl<|abY _,E,λh=>by have:=hc.shr _ h;omega⟩;exact⟨.inr b.1,E,b.2.2⟩;cases f
def vS.at{b:jy κ}{a:yx κ}(h:vS w S b a){k:κ}{x:SV}:∀{i:Nat},b[i]?=some (k,x)->∃v,a[i]?=some (k,v)/\Rel w S x.den v []:=by
 induction h with
 |nil=>intro i h;cases h
 |@cons d y v b a h _ c=>
  intro i hi;cases i with
  |zero=>cases hi;simp_all
  |succ i=>simpa using c hi
def vS.len{b:jy κ}{a:yx κ}(h:vS w S b a):b.length=a.length:=by
 induction h with
 |nil=>rfl
 |cons _ _ c=>simp[c]
def GK.len{b:jy κ}{a:Array MapEntry}{c:Nat}(h:GK w S b a c):a.toList.length=b.length:=by obtain⟨⟨d,k1,k2⟩,-,-⟩:=h;have:=aal List.length k1;rw[k2.len];simpa using this
def GK.at{d:jy κ}{b:Array MapEntry}{c:Nat}(h:GK w S d b c){k:κ}{x:SV}{i:Nat}(hi:d[i]?=some (k,x)):∃e,b.toList[i]?=some e/\e.key=Mk.v k/\Rel w S x.den e.val []:=by obtain⟨⟨j,k1,k2⟩,-,-⟩:=h;obtain⟨v,g,f⟩:=k2.at hi;have:=aal (·[i]?) k1;simp only[ahB,g]at this;obtain⟨e,he,a⟩:=ahc.1 this;simp at a;exact⟨e,he,a.1,by rw[a.2];exact f⟩
def Nl{α:Type}(f:α->Nat):∀{l:L α}{i:Nat}{e:α},(l.map f).Nodup->l[i]?=some e->l.find? (λa=>f a==f e)=some e
 |[],i,e,_,h=>by cases h
 |a::l,0,e,_,h=>by cases h;simp
 |a::l,i+1,e,hn,h=>by
  rw[ad3,af6]at hn;have hm:=ai3 (aR);have b:(f a==f e)=false:=by simp;exactλh=>hn.1 (by rw[h];exact ahC hm)
  rw[ajK,b];exact Nl f hn.2 h
def Xw{o:Oper}{q:jy κ}{done:L Nat}{i:Nat}{k:κ}{x:SV}{a:Operand}(A:o.op=.entry a)(hi:q[i]?=some (k,x)):kf P o [.it q<|done++[i]] [.bH 500 0 0 []] [.it q<|done++[i]] (.de [Mk.sv k,x]):=by
 intro w S V y F hl hc H f;obtain⟨u,c,m,J,cl,seen,r,p,C,v,B,O,M⟩:=PL (by simp[aE]) hc;have z:=JH p C v B O M;rw[r,show rf w (.pointer<|some ⟨c,0,none⟩)=[c,m]from z.2.1.symm]at u;obtain⟨x0,rfl⟩:∃x0,y=[x0]:=by
  match y,hl with
  |[x0],_=>exact⟨_,W⟩
 have T:=(mT (i:=0) E hc W).trans r;have n:H a=.pointer (some ⟨c,0,none⟩):=by rw[show o.op.operands.toList=[a] by rw[A];rfl]at f;simp at f;exact f.trans T
 obtain⟨e,k1,k2,k3⟩:=v.at hi;have d:seen.back?=some e.born:=by rw[<-Array.getLast?_toList,B,adW,ad3,ahj,List.getLast?_append];simp[k1]
 have K:J.find? (λa=>a.born==e.born)=some e:=by rw[<-Array.find?_toList];exact Nl _ v.one k1
 have g1:(getObj c).run P w=.ok (.mapIter (some m) cl seen cl) w:=by simp[getObj,Sem.run,p]
 have g:(Instr.entry<|.pointer<|some ⟨c,0,none⟩).run P w=.ok (.tuple #[e.key,e.val]) w:=by simp[Instr.entry,g1,MapKept.run_getObj_map C,d,K]
 refine⟨.value<|.tuple #[e.key,e.val],.tuple #[e.key,e.val],w,by simp[execOp,A,n,g],.inl W,S,λi=>if i=500 then[c,m]else[],⟨W,W,W,abY _,λ_ _ _=>rfl⟩,λ_ h=>h,λ_ h=>.inl h,
  ⟨λj=>?_,λj=>?_,λj X s b d=>?_,λj b d=>?_,hc.shr⟩⟩
 ·change an _ _ (both [(SV.de [Mk.sv k,x]).den] [(SV.it q<|done++[i]).den]) _ j _;rw[an.aC<|gb,kx];by_cases D:j=0;subst D;exact⟨_,W,e.key,_,[],[],W,W,I,(by rw[Mk.den];exact⟨Mk.sc k,k2,W⟩),e.val,_,[],[],W,W,I,k3,W,W⟩;by_cases p:j=500;subst p;rw[abl E,abx W,abx W,show a7 V [.tuple #[e.key,e.val]] 500=V.v 500 by unfold a7;rw[abl E],r];exact z;simp[D,p,Rel]
 split;rw[<-u];exact hc.nodup _;simp;split at d;rename_i hi;rw[abl λe=>s E];simp;cases d;split at d;rw[<-u]at d;have:=hc.own _ b d;exact⟨.inr this.1,this.2.1,this.2.2⟩;cases d
end
section
variable{w:World}{P:Program}
def Wx{c m cl:Nat}{b:Array MapEntry}{seen:Array Nat}(ty:TypeId)(q:w.heap[c]?=some (.mapIter (some m) cl seen cl))(v:w.heap[m]?=some (.map b cl))(f:∀e∈b.toList,e.born<cl):
 ((∀e∈b.toList,e.born∈seen.toList)/\(Instr.next (.pointer<|some ⟨c,0,none⟩) false ty).run P w=.ok (.tuple #[.bool false]) w)\/
 ∃e a,e∈b.toList/\e.born∉seen.toList/\(a=w\/a=w.drew)/\(Instr.next (.pointer<|some ⟨c,0,none⟩) false ty).run P w=.ok (.tuple #[.bool true,e.key,e.val]) {a with heap:=a.heap.setIfInBounds c<|.mapIter (some m) cl (seen.push e.born) cl}:=by
 have g1:∀w:World,w.heap[c]?=some (.mapIter (some m) cl seen cl)->(getObj c).run P w=.ok (.mapIter (some m) cl seen cl) w:=λw h=>by simp[getObj,Sem.run,h]
 have x:∀(w:World)(o:Obj),w.heap[c]?=some (.mapIter (some m) cl seen cl)->(setObj c o).run P w=.ok () {w with heap:=w.heap.setIfInBounds c o}:=λw o h=>by simp[setObj,Sem.run,h]
 have A:(!seen.isEmpty&& !b.isEmpty&&b.all λe=>decide (e.born>=cl))=false:=by
  cases hm:b.isEmpty with
  |true=>simp
  |false=>
   have:0<b.size:=by simpa[Array.isEmpty,Nat.pos_iff_ne_zero]using hm
   have g:=f b[0] I;have:b.all (λe=>decide (e.born>=cl))=false:=by rw[Array.all_eq_false];exact⟨0,this,by simp;omega⟩
   simp[this]
 obtain⟨left,hl⟩:∃left,left=b.filter λe=> !seen.contains e.born:=⟨_,W⟩;have d:∀e∈left,e∈b.toList/\e.born∉seen.toList:=λe he=>by rw[hl]at he;simp at he;exact⟨by simpa using he.1,by simpa using he.2⟩
 have z:left.filter (λe=>decide (e.born<cl))=left:=Array.filter_eq_self.2 λe he=>by simpa using f e (d e he).1
 have y:left.filter (λe=>decide (e.born>=cl))=#[]:=by rw[Array.filter_eq_empty_iff];intro e he;have:=f e (d e he).1;simp;omega
 have s:(Instr.next (.pointer<|some ⟨c,0,none⟩) false ty).run P w=(do
  match((if left.isEmpty then#[none]else#[])++left.map some)[<-choose (.mapNext ((if left.isEmpty then#[none]else#[])++left.map some).size)]?with
  |some (some e)=>
   setObj c (.mapIter (some m) cl (seen.push e.born) cl)
   pure (.tuple #[.bool true,e.key,e.val])
  |some none=>pure (.tuple #[.bool false])
  |none=>stuck "Next: no such candidate":Sem Value).run P w:=by
  unfold Instr.next;simp only[Sem.run_bind,g1 w q,Result.andThen_ok,MapKept.run_getObj_map v,A,<-hl,z,y,Array.append_empty,aim,if_false];rfl
 cases he:left.isEmpty with
 |true=>
  have r:left=#[]:=gv
  left;refine⟨λe he=>?_,?_⟩;by_cases h:e.born∈seen.toList;exact h;have:e∈left:=by rw[hl];simp;exact⟨gv,aR⟩
  rw[r]at this;simp at this;rw[s,r];simp[Sem.run_bind,run_choose_drew,Question.forced]
 |false=>
  have n:0<left.size:=by
   have:left≠#[]:=gv
   exact Array.size_pos_iff.2 this
  right;obtain⟨j,a,p,i,u⟩:∃j a,j<left.size/\(a=w\/a=w.drew)/\(choose<|.mapNext left.size).run P w=.ok j a:=by rw[run_choose_drew];split;exact⟨0,w,n,.inl W,W⟩;exact⟨_,_,aea _ n,.inr W,W⟩
  have g:=d left[j] (Array.getElem_mem p);have hh:a.heap[c]?=some (.mapIter (some m) cl seen cl):=by rcases i with rfl|rfl<;>exact q
  refine⟨left[j],a,g.1,g.2,i,?_⟩;rw[s,he];simp[-run_choose_drew,-run_choose,u,p,x a _ hh]
end
def aT.agl{S B:Nat->Prop}{σ:St}{T:Nat->Value}{w w':World}{F:Nat->L Nat}(h:aT S B σ T w F){t:Nat}{J J':World->(Nat->Prop)->Value->Prop}(m:(σ t).av=.ob J)(c:w'.heap.size=w.heap.size)(d:∀b,b∉F t->w'.heap[b]?=w.heap[b]?)(n:Rel w' S (.ob J') (T t) (F t)):
 aT S B (jg σ t ⟨.ob J',(σ t).g1,(σ t).g2+1⟩) T w' F:=by
 have e:=λb a=>d b λj=>(h.own t b j).2.2 a;have f:=λi hi b a=>d b<|h.dz i t hi b a;refine h.step ⟨λr=>?_,λr=>?_,λ_ _=>rfl,λr o g=>?_⟩ (λ_ h=>h) (λi=>?_) h.nodup h.dz (λi b a=>by rw[c];exact h.own i b a) (λb a=>by rw[c];exact h.shr b a);by_cases hi:r=t;subst hi;rw[aG];exact .refl;rw[ar _ _ hi];exact .refl;by_cases hi:r=t;subst hi;rw[aG];simp_all;rw[ar _ _ hi];exact .refl;by_cases hi:r=t;subst hi;rw[aG]at g;simp at g;rw[ar _ _ hi];exact⟨λp y h=>⟨y,h⟩,λb a=>a.elim (e b)<|f r hi b⟩;by_cases hi:i=t;subst hi;right;rwa[an.aC<|by rw[aG];rfl,aG];left;rw[ar _ _ hi];exact⟨W,W,W,λb a=>a.elim (e b)<|f i hi b⟩
section
variable{R:Q Nat->Prop}{P:Program}{N:Nat}{F:St->Prop}{k:L It}{l:bJ}
def ae7{id t d n:Nat}{ty F1:TypeId}{pos O:String}{H5 Y:Array Edge}{D:jy κ}{done:L Nat}(hv:(gt l t).v=.it D done)(hd:Nat.ble (d+1) N=true)(H2:Nat.ble (n+1) N=true)(H4:Nat.ble N 500=true)(ht:Nat.ble (t+1) 500=true)(hn:fe (ne' d t) (fe (ne' n t)<|ne' d n)=true)
 (h1:∀i,i<D.length->i∉done->AK R P N F k ((n,⟨.b true,(gt l n).g1+1,(gt l n).g2⟩)::(d,⟨.dead,(gt l d).g1+1,(gt l d).g2⟩)::(t,⟨.it D<|done++[i],(gt l t).g1,(gt l t).g2+1⟩)::l))
 (h2:(∀i<D.length,i∈done)->AK R P N F k ((n,⟨.b false,(gt l n).g1+1,(gt l n).g2⟩)::(d,⟨.dead,(gt l d).g1+1,(gt l d).g2⟩)::l)):
 AK R P N F (.code (.region id #[⟨some d,.next (.tmp t) false,ty,pos,H5,none⟩,⟨some n,.extract (.tmp d) 0,F1,O,Y,none⟩] false)::k) l:=by
 have hd:=af4 hd;have H2:=af4 H2;simp[bL,ne_iff]at hn;obtain⟨n1,n2,n3⟩:=hn;intro V x Z a w hR hi;refine wpIn_region_list ?_;obtain⟨S,Fr,hc,hN,P0,K0,H6,E2⟩:=hi;have F0:(dn l t).av=.ob (Ry D done):=by rw[eB,hv];rfl
 have hr:=hc.rel t;rw[an.aC<|by rw[F0];rfl,F0]at hr;obtain⟨-,hF,hJ⟩:=hr;obtain⟨c,m,ms,cl,seen,e1,e2,e3,hE,e4,e5,e6⟩:=hJ w S (λ_ _=>rfl) λ_ h=>h;have G0:=JH e2 e3 hE e4 e5 e6;rw[e1,show rf w (.pointer<|some ⟨c,0,none⟩)=[c,m]from G0.2.1.symm]at hF;have ht:=af4 ht;have H4:=af4 H4;have M1:a.eval (.tmp t)=.pointer (some ⟨c,0,none⟩):=by rw[iq V a E];exact e1
 obtain⟨T,H⟩:∃T:Oper,T=⟨some d,.next (.tmp t) false,ty,pos,H5,none⟩:=⟨_,W⟩;obtain⟨C,p⟩:∃C:Oper,C=⟨some n,.extract (.tmp d) 0,F1,O,Y,none⟩:=⟨_,W⟩;rw[<-H,<-p];have fin:∀(b:Bool)(K:Array Value)(w':World),(Instr.next (.pointer<|some ⟨c,0,none⟩) false ty).run P w=.ok (.tuple K) w'->K[0]?=some (.bool b)->
  (∃f,kM R P N F k .normal f/\ma N V x Z f ((a.put (some d)<|.tuple K).put (some n)<|.bool b) w')->
  wpListIn (FW V.rd) 0 P #[T,C] (λe A w'=>∃f,kM R P N F k e f/\ma N V x Z f A w') [T,C] a w:=by
  intro b K w' o P1 G4;have H1:(a.put (some d)<|.tuple K).eval (.tmp d)=.tuple K:=by rw[iq V _ E,mj<|by rw[hN];omega,aG]
  have s2:wpListIn (FW V.rd) 0 P #[T,C] (λe A w'=>∃f,kM R P N F k e f/\ma N V x Z f A w') [C] (a.put (some d)<|.tuple K) w':=by
   unfold wpListIn;have u:Oper.UT V.rd P C (a.put (some d)<|.tuple K) w' (wpListIn (FW V.rd) 0 P #[T,C] (λe A w'=>∃f,kM R P N F k e f/\ma N V x Z f A w') []) (λe A w'=>∃f,kM R P N F k e f/\ma N V x Z f A w'):=by refine ib (v:=.bool b) (w':=w') (by simp[execOp,p,H1,Instr.extract,P1]) ?_;rw[p];exact wpListIn_nil G4
   split;exact u;rename_i hw;exact abK (by rw[p];rfl) hw
  unfold wpListIn;have u:Oper.UT V.rd P T a w (wpListIn (FW V.rd) 0 P #[T,C] (λe A w'=>∃f,kM R P N F k e f/\ma N V x Z f A w') [C]) (λe A w'=>∃f,kM R P N F k e f/\ma N V x Z f A w'):=by refine ib (v:=.tuple K) (w':=w') (by simp[execOp,H,M1,o]) ?_;rw[H]at s2⊢;exact s2
  split;exact u;rename_i hw;exact abK (by rw[H];rfl) hw
 have M:∀(y:bJ)(b:Bool)(v:Value)(w':World),aT S (c6 V x) (dn y) (tv V a) w' Fr->mQ V x w'->(∀b,w'.heap.size<=b->c6 V x b)->
  Inv N V x Z (dn<|(n,⟨.b b,(gt y n).g1+1,(gt y n).g2⟩)::(d,⟨.dead,(gt y d).g1+1,(gt y d).g2⟩)::y) ((a.put (some d) v).put (some n)<|.bool b) w':=by
  intro y b v w' S1 L1 X;have q1:=S1.make (w':=w') [] d .dead v [] X (abY _) (λ_ _ _=>rfl) aee I (by simp[Rel]);have q2:=q1.make (w':=w') [] n (.v<|.bool b) (.bool b) [] X (abY _) (λ_ _ _=>rfl) aee I (d7);rw[<-mj (V:=V) (by rw[hN];omega),<-mj (V:=V) (by rw[size_put,hN];omega)]at q2;have e:dn ((n,⟨.b b,(gt y n).g1+1,(gt y n).g2⟩)::(d,⟨.dead,(gt y d).g1+1,(gt y d).g2⟩)::y)=made (made (dn y) [] d .dead) [] n (.v<|.bool b):=by
   simp[gE]
   funext i
   by_cases y1:i=n;subst y1;rw[aG];have:¬i=d:=λe=>n3 e.symm;simp[made];rw[abl this];rfl;rw[ar _ _ y1];by_cases y2:i=d;subst y2;rw[aG];simp[made];rw[abl y1];rfl;rw[ar _ _ y2];simp[made,y1,y2]
  rw[e];exact⟨S,_,q2,by rw[size_put,size_put];exact hN,by rw[fw,fw];exact P0,K0,H6,L1⟩
 rcases Wx (P:=P) ty e2 e3 hE.born with⟨H3,o⟩|⟨e,w1,he,K2,F2,o⟩;refine fin false _ w o W ⟨_,h2 λi hi=>?_,(M l false _ w hc E2 E2.new).x⟩;have z:i<ms.toList.length:=by rw[hE.len];exact hi
 have:=H3 _<|ab3 z;rw[e4,ab4]at this;obtain⟨j,hj,hq⟩:=this;have G3:j<ms.toList.length:=by rw[hE.len];exact e6 j hj
 have:j=i:=(List.getElem_inj (h₀:=by simpa using G3) (h₁:=by simpa using z) hE.one).1 (by rw[ad8,ahB,ad7 G3]at hq;simpa using hq)
 exact this▸hj;obtain⟨i,hi,rfl⟩:=ahJ he;have z:i<D.length:=by rw[<-hE.len];exact hi
 have G1:i∉done:=λh=>K2 (by rw[e4,ab4];exact⟨i,h,by rw[ad8,ahB,ad7 hi];rfl⟩);have r:w1.heap=w.heap:=by rcases F2 with rfl|rfl<;>rfl
 have S2:tZ V x w w1:=by rcases F2 with rfl|rfl<;>exact⟨rfl,rfl,rfl,abY _,λ_ _ _=>rfl⟩
 obtain⟨B,s⟩:∃B:World,B={w1 with heap:=w1.heap.setIfInBounds c<|.mapIter (some m) cl (seen.push ms.toList[i].born) cl}:=⟨_,W⟩;rw[<-s]at o;have F4:=MapKept.heap_set (w:=w1) (o':=.mapIter (some m) cl (seen.push ms.toList[i].born) cl) (by rw[r];exact e2);have S0:B.heap[c]?=some (.mapIter (some m) cl (seen.push ms.toList[i].born) cl):=by rw[s];exact F4.1
 have p:∀b,b≠c->B.heap[b]?=w.heap[b]?:=λb J=>by rw[s,<-r];exact F4.2 b J
 have F3:B.heap.size=w.heap.size:=by rw[s];show(w1.heap.setIfInBounds c _).size=_;rw[Array.size_setIfInBounds,r]
 have E1:c∈Fr t:=by rw[hF];simp
 have L0:m≠c:=by have:=hc.nodup t;rw[hF]at this;simp at this;exactλe=>this e.symm
 have S4:∀b,S b->B.heap[b]?=w.heap[b]?:=λb J=>p b λe=>(hc.own t c E1).2.2 (e▸J);have A0:Rel B S (.ob<|Ry D<|done++[i]) (tv V a t) (Fr t):=by
  rw[e1,hF];exact JH S0 ((p m L0).trans e3) (hE.mono S4 λ_ h=>h) (by
   rw[Array.toList_push,e4,adW];simp[ad8];rw[agd<|ce];rfl) (by
   rw[ad4];exact⟨e5,I,λa ha b J e=>G1<|by simp at J;rw[<-J,<-e];exact ha⟩) (λj hj=>by
   rcases aeM.1 hj with h|h;exact e6 j h;simp at h;rw[h];exact z)
 have q:=hc.agl F0 F3 (λb J=>p b λe=>J (e▸E1)) A0;have M2:jg (dn l) t ⟨.ob<|Ry D<|done++[i],(dn l t).g1,(dn l t).g2+1⟩=dn ((t,⟨.it D<|done++[i],(gt l t).g1,(gt l t).g2+1⟩)::l):=by rw[gE];rfl
 rw[M2]at q;have G2:mQ V x B:=E2.trans (S2.trans ⟨by rw[s],by rw[s],by rw[s],by rw[F3,r];exact abY _,λb J hg=>by rw[p b λe=>by rcases(hc.own t c E1).1 with h|h;omega;exact hg (e▸h),r]⟩)
 have hp:=M _ true (.tuple #[.bool true,ms.toList[i].key,ms.toList[i].val]) B q G2 G2.new;have g:∀j,j≠t->gt ((t,⟨.it D<|done++[i],(gt l t).g1,(gt l t).g2+1⟩)::l) j=gt l j:=λj hj=>by
  show(match Nat.beq j t with|true=>_|false=>gt l j)=_;cases e:Nat.beq j t with
  |true=>exact abK (agI e) hj
  |false=>rfl
 rw[g n n2,g d n1]at hp;exact fin true _ B o W ⟨_,h1 i z G1,hp.x⟩
end
end
def L5{p:fZ}(h:gg p=0):1<=p.n/\p.n<=100/\p.aa.length<=96/\∀u∈p.aa,gF p.n u:=by unfold gg at h;split at h;cases h;rename_i c;split at h;cases h;rename_i b;split at h;omega;rename_i a;refine⟨E,E,E,λu hu=>?_⟩;exact pD<|a8.1 (ci) u hu
def Ws{b:Bool}(h:(!b)=false):b=true:=by cases b<;>simp_all
def ZV{b:Bool}(h:(!b)=true):b=false:=by cases b<;>simp_all
def qD(u:bw):Bool:=je u.k 6&&(decide (u.c8.length<=4)&&u.c8.all λs=>je s 3)&&u.ai.all λf=>je f.dQ 3
def Z3(p:fZ):Bool:=decide (p.aa.length<=8/\p.n<=9/\gg p=0)&&(p.aa.all qD&&Pz p.aa p.n.toNat)
section
variable{D M κ V B:Nat}
section
variable{d:Int}{a b p:L aZ}{n v w:Nat}{c:Rat}
def cJ.tok(i:sU D M κ)(f:V<=9)(h:cJ D M V d w p)(e:d<=6)(g:w<=B):(∀u∈p,Dy V (κ*B+2) u)/\p.length<2^30:=⟨h.pw.tok i f e<|ahG (ae6 _ g) 2,by have:=h.len f e;omega⟩
def cJ.Zo(g:sU D M κ)(f:V<=9)(h:cJ D M V d w p)(e:d<=6)(hc:Wn D M 1 v c)(j:v+w+1<=B):
 uA V (κ*B+2) (kP c p)/\cJ D M V d (v+w+1) (iU c p):=by
 have i:=h.pw.JA hc;have hl:(kP c p).length<=10^18:=by have:=h.len f e;simp[kP];omega
 exact⟨i.nok g f e hl<|ahG (ae6 _ j) 2,i.norm g hl⟩
def cJ.Qz(i:sU D M κ)(f:V<=9)(h:cJ D M V d w a)(g:cJ D M V d w b)(e:d<=6)(k:w+1<=B):
 uA V (κ*B+2) (a++b)/\cJ D M V d (w+1) (vQ a b):=by
 have j:=h.pw.append g.pw;have hl:(a++b).length<=10^18:=by
  have:=h.len f e;have:=g.len f e
  grind
 exact⟨j.nok i f e hl<|ahG (ae6 _ k) 2,j.norm i hl⟩
def cJ.ac6{e:Int}(i:sU D M κ)(f:V<=9)(h:cJ D M V d w a)(g:cJ D M V e v b)(l:d<=6)(he:e<=6)(hde:d+e<=6)(k:w+v+1<=B):
 uA V (κ*B+2) (iH a b)/\cJ D M V (d+e) (w+v+1) (jG a b):=by
 have j:=h.pw.mul g.pw;have hl:(iH a b).length<=10^18:=by rw[WB];exact ab7 (agW (h.len f l)<|g.len f he) gC
 exact⟨j.nok i f hde hl<|ahG (ae6 _ k) 2,j.norm i hl⟩
def cJ.WE{K:Nat}:uA V K (iH [] b)/\cJ D M V d w (jG [] b):=by
 refine⟨⟨λu hu=>by simp[iH]at hu,λm hm=>?_⟩,?_⟩;have:m=[]:=by simpa[iH]using hm
 subst this;exact⟨λu hu=>by simp[fA]at hu,by simp[fA]⟩;exact cJ.nil
def cJ.agY(e:sU D M κ)(g:V<=9)(h:cJ D M V d w p)(f:d<=6)(k:v<V)(j:w+2<=B):
 uA V (κ*B+2) (oY p v)/\cJ D M V (d-1) (w+2) (uz p v):=by
 have i:=h.pw.der e f v k;have hl:(oY p v).length<=10^18:=by have:=h.len g f;have:=F7 p v;omega
 exact⟨i.nok e g E hl<|ahG (ae6 _ j) 2,i.norm e hl⟩
def Dz(p:L aZ)(v:Nat):Prop:=∃u∈p,0<u.pw.getD v 0
def DR(h:¬Dz p v):uz p v=[]:=by
 have e:oY p v=[]:=by unfold oY;rw[List.flatMap_eq_nil_iff];intro u hu;unfold CT;rw[abl λg=>h ⟨u,hu,g⟩]
 unfold uz;rw[e];rfl
def u4{l:L aZ}(h:Dz (fA l) v):Dz l v:=by obtain⟨u,hu,g⟩:=h;rcases EI hu with⟨t,f,e⟩|⟨t,f,e⟩;exact⟨t,f,by rw[<-e];exact g⟩;cases f
def JW(h:Dz (a++b) v):Dz a v\/Dz b v:=by obtain⟨u,hu,g⟩:=h;exact(aeM.1 hu).imp (λh=>⟨u,h,g⟩) λh=>⟨u,h,g⟩
def Rk(h:Dz (iU c p) v):Dz p v:=by obtain⟨u,hu,g⟩:=u4 h;obtain⟨t,e,rfl⟩:=ab4.1 hu;exact⟨t,e,g⟩
def UZ:∀{a b:L Int}{v:Nat},0<(List.zipWith (·+ ·) a b).getD v 0->(∀x∈a,0<=x)->(∀x∈b,0<=x)->0<a.getD v 0\/0<b.getD v 0
 |[],_,_,h,_,_=>by cases h
 |_::_,[],_,h,_,_=>by cases h
 |x::a,y::b,0,h,f,e=>by grind
 |x::a,y::b,v+1,h,f,e=>by grind
def ZN{e:Int}{i:Nat}(k:PW D M V d w a)(j:PW D M V e i b)(h:Dz (jG a b) v):Dz a v\/Dz b v:=by obtain⟨u,hu,g⟩:=u4 h;obtain⟨t,f,hu⟩:=af2.1 hu;obtain⟨s,hs,rfl⟩:=ab4.1 hu;exact(UZ g (k t f).1.2.1 (j s hs).1.2.1).imp (λh=>⟨t,f,h⟩) λh=>⟨s,hs,h⟩
def H9:¬Dz (cZ c n) v:=by
 rintro⟨u,hu,g⟩;unfold cZ at hu
 grind
def Rj{i:Nat}(h:Dz (iN i n) v):v=i:=by obtain⟨u,hu,g⟩:=h;simp[iN]at hu;grind
def DM(h:cJ D M V d w p)(e:Dz p v):1<=d:=by
 obtain⟨u,hu,g⟩:=e;obtain⟨j,f,i⟩:=(h.pw u hu).1;have hm:u.pw.getD v 0∈u.pw:=by grind
 have:=jx f _ hm;omega
end
end
structure bQ(us:List bw)(n:Nat):Prop where
 len:us.length<=8
 n0:0<n
 n9:n<=9
 val:∀u∈us,gF n u
 dr:ym n us
 ord:us.length<=(aA us).length
 PS:∀u∈us,qD u=true
 low:Pz us n=true
def au(us:L bw)(k:Nat):bw:=us.getD ((aA us).getD k 0).toNat default
def Mf{us:L bw}:∀(k:Nat){out:L Int},(∀j,j<out.length->kF us (out.take j) (out.getD j 0).toNat=true)->∀j,j<(fD us k out).length->kF us ((fD us k out).take j) ((fD us k out).getD j 0).toNat=true
 |0,out,h=>h
 |k+1,out,h=>by
  rw[fD];split;exact h;rename_i g;refine Mf k λj a=>?_;rcases ri us out 0 with e|⟨i,e,_,_,b⟩;rw[e]at g;simp_all
  grind
def Me{us:L bw}{k:Nat}(h:k<(aA us).length):kF us ((aA us).take k) ((aA us).getD k 0).toNat=true:=Mf _ (λj a=>by cases a) k h
def vD{s:Int}:∀{us:L bw}{k:Nat},(db s k us= -1/\∀u∈us,u.out≠s)\/∃i,∃h:i<us.length,db s k us=((k+i:Nat):Int)/\us[i].out=s
 |[],k=>.inl ⟨W,I⟩
 |u::us,k=>by simp only[db];split;rename_i h;exact .inr ⟨0,I,I,h⟩;rename_i h;rcases vD (s:=s) (us:=us) (k:=k+1)with⟨e,g⟩|⟨i,hi,e,g⟩;simp_all;exact .inr ⟨i+1,ce,E,g⟩
def Qd{α:Type}{p:α->Bool}{l:L α}(h:l.countP p=1){i j:Nat}(hi:i<l.length)(a:j<l.length)(c:p l[i]=true)(b:p l[j]=true):i=j:=by
 have key:∀{i j:Nat}(hi:i<l.length)(a:j<l.length),p l[i]=true->p l[j]=true->¬i<j:=by
  have e:l=l.take j++l[j]::l.drop (j+1):=I
  grind
 grind
section
variable{us:L bw}{n:Nat}(hm:bQ us n)
include hm
theorem bQ.iP:(aA us).length=us.length:=aiB (xO us) hm.ord
def bQ.idx{k:Nat}(h:k<us.length):((aA us).getD k 0).toNat<us.length:=by
 have a:k<(aA us).length:=by rwa[hm.iP]
 have:=fo _<|aN (d:=0) a;omega
def bQ.eq{k:Nat}(h:k<us.length):au us k=us[((aA us).getD k 0).toNat]'(hm.idx h):=az _
def bQ.mem{k:Nat}(h:k<us.length):au us k∈us:=by rw[hm.eq h];simp_all
def bQ.inj{i j:Nat}(hi:i<us.length)(a:j<us.length)(h:us[i].out=us[j].out):i=j:=by
 have c:=(hm.val _<|ab3 hi).out;have b:=hm.dr us[i].out.toNat E E;refine Qd b hi a ?_ ?_
 all_goals grind
def bQ.acV{j k:Nat}(c:j<us.length)(b:k<us.length)(h:(aA us).getD j 0=(aA us).getD k 0):j=k:=by
 have e:=hm.iP;have a:=aio.1<|zw us
 grind
def bQ.outs{j k:Nat}(b:j<us.length)(a:k<us.length)(h:(au us j).out=(au us k).out):j=k:=by
 rw[hm.eq b,hm.eq a]at h;have:=hm.inj _ _ h;refine hm.acV b a ?_;have e:=fo _<|aN (d:=0)<|show j<(aA us).length by rwa[hm.iP]
 have c:=fo _<|aN (d:=0)<|show k<(aA us).length by rwa[hm.iP]
 omega
def bQ.before{k:Nat}(o:k<us.length){f:GJ}(d:f∈bU (au us k))(hs:0<=f.sh/\f.sh<n):f.sh=0\/∃j,j<k/\(au us j).out=f.sh:=by
 have h:=Me (by rwa[hm.iP]);unfold kF at h;rw[adS,afY]at h;have b:=h.2 f d;unfold mC at b;rw[decide_eq_true_eq]at b;rcases vD (s:=f.sh) (us:=us) (k:=0)with⟨e,g⟩|⟨i,hi,e,g⟩;left;apply aha;intro c;have q:=hm.dr f.sh.toNat E E;have:0<us.countP (λu=>decide (u.out=(f.sh.toNat:Int))):=E;obtain⟨u,hu,m⟩:=List.countP_pos_iff.1 this
 grind
 right;have r:gT us f.sh=(i:Int):=by unfold gT;rw[e];simp
 have l:=b.resolve_left E;obtain⟨j,p,he⟩:=List.mem_take_iff_getElem.1 l;refine⟨j,E,?_⟩;have a:j<us.length:=E;rw[hm.eq a]
 grind
end
def sf{l:L Int}{i s:Nat}{x:Int}(h:i<l.length):(l.set i x).getD s 0=if s=i then x else l.getD s 0:=by grind
def FY{u:bw}:∀(c:L GJ){dg:L Int},u.out.toNat<dg.length->(∀s,0<=dg.getD s 0)->
 (c.foldl (jI u) dg).length=dg.length/\(∀s,s≠u.out.toNat->(c.foldl (jI u) dg).getD s 0=dg.getD s 0)/\dg.getD u.out.toNat 0<=(c.foldl (jI u) dg).getD u.out.toNat 0/\
   ∀f∈c,dg.getD f.sh.toNat 0*iI u<=(c.foldl (jI u) dg).getD u.out.toNat 0
 |[],dg,_,_=>⟨W,λ_ _=>rfl,aeF _,I⟩
 |f::c,dg,d,j=>by
  have hm:1<=iI u:=by unfold iI;split<;>omega
  have k:∀s,(jI u dg f).getD s 0=if s=u.out.toNat then max _ _ else dg.getD s 0:=λs=>sf d;have a:∀s,dg.getD s 0<=(jI u dg f).getD s 0:=λs=>by grind
  obtain⟨i,l,h,e⟩:=FY c (by unfold jI;rwa[qI]) λs=>agH (j s)<|a s;rw[agf];refine⟨by rw[i];unfold jI;rw[qI],λs hs=>gn,agH (a _) h,λg b=>?_⟩;rcases adb.1 b with rfl|b
  grind
  exact agH (ahM (a _) E)<|e g b
def mc(us:L bw)(n k:Nat):L Int:=((aA us).take k).foldl (qk us)<|fu us n us.length
def Ak{us:L bw}{n k:Nat}(h:k<(aA us).length):mc us n (k+1)=qk us (mc us n k) ((aA us).getD k 0):=by unfold mc;rw[adY h,ahm,az h];rfl
def wI{us:L bw}{m:Int}:∀{l:L Int}{dg r:L Int},F5 us m l dg=some r->r=l.foldl (qk us) dg/\∀k,k<l.length->((l.take<|k+1).foldl (qk us) dg).getD (us.getD (l.getD k 0).toNat default).out.toNat 0<=m
 |[],dg,r,h=>by simp[F5]at h;simp_all
 |i::l,dg,r,h=>by
  rw[F5]at h;split at h;cases h;rename_i g;obtain⟨b,a⟩:=wI h
  grind
def A8{us:L bw}{m:Int}{dg:L Int}:∀{l:L Int}{rt r:L Int},JF us m dg l rt=some r->∀k,k<l.length->((l.take<|k+1).foldl (uO us dg) rt).getD (us.getD (l.getD k 0).toNat default).out.toNat 0<=m
 |[],rt,r,h=>I
 |i::l,rt,r,h=>by
  rw[JF]at h;split at h;cases h;rename_i g;have a:=A8 h
  grind
def CS{us:L bw}{n:Nat}(hn:0<n)(a:∀u∈us,1<=u.out):∀i,i<=us.length->(fu us n i).getD 0 0=1
 |0,_=>by unfold fu;simp_all
 |i+1,h=>by
  rw[jo E];have b:=CS hn a i E
  grind
section
variable{us:L bw}{n:Nat}(hm:bQ us n)
include hm
theorem bQ.out{k:Nat}(h:k<us.length):1<=(au us k).out/\(au us k).out<n:=(hm.val _<|hm.mem h).out
def bQ.dgL:∃r,F5 us 6 (aA us) (fu us n us.length)=some r/\r=mc us n us.length/\(JF us 6 r (aA us)<|List.replicate n 0).isSome=true:=by have h:=hm.low;unfold Pz at h;split at h;cases h;rename_i dg e;refine⟨dg,e,?_,h⟩;have:=(wI e).1;rw[this];unfold mc;rw[ad2<|by rw[hm.iP];exact abY _]
def bQ.dg:∀k,k<=us.length->(mc us n k).length=n/\∀s,0<=(mc us n k).getD s 0/\(mc us n k).getD s 0<=6
 |0,_=>by obtain⟨d,b⟩:=pr us n _ .refl;exact⟨d,λs=>b.getD gC s⟩
 |k+1,h=>by
  obtain⟨d,b⟩:=bQ.dg k E;have f:k<(aA us).length:=bZ
  obtain⟨r,e,-,-⟩:=hm.dgL;have a:=(wI e).2 k f;have l:=hm.out (show k<us.length from E);have m:us.getD ((aA us).getD k 0).toNat _=au us k:=W;have a:(mc us n _).getD (au us k).out.toNat 0<=6:=a;rw[Ak f]at a⊢;unfold qk at a⊢;split;exact⟨d,b⟩;rename_i c;obtain⟨j,i,g,-⟩:=FY (u:=au us k) (au us k).ai (dg:=mc us n k) E λs=>(b s).1
  grind
def bQ.dgS{k:Nat}(h:k<us.length):(∀s,s≠(au us k).out.toNat->(mc us n<|k+1).getD s 0=(mc us n k).getD s 0)/\(∀s,(mc us n k).getD s 0<=(mc us n<|k+1).getD s 0)/\
 ((au us k).kind≠bk->∀f∈(au us k).ai,(mc us n k).getD f.sh.toNat 0*iI (au us k)<=(mc us n<|k+1).getD (au us k).out.toNat 0):=by
 obtain⟨j,b⟩:=hm.dg k E;have a:k<(aA us).length:=bZ
 have i:=hm.out h;have l:us.getD ((aA us).getD k 0).toNat _=au us k:=W;rw[Ak a];unfold qk;split;simp_all;obtain⟨g,e,d,c⟩:=FY (u:=au us k) (au us k).ai (dg:=mc us n k) E λs=>(b s).1
 grind
def bQ.dgM{j k:Nat}(h:k<=us.length)(b:j<=k)(s:Nat):(mc us n j).getD s 0<=(mc us n k).getD s 0:=by
 induction k with
 |zero=>simp_all
 |succ k a=>by_cases c:j=k+1;subst c;simp_all;exact agH (a E E)<|(hm.dgS E).2.1 s
end
section
variable{n:Nat}{q:Rat}{s:cj}
def eI:L Nat->Nat
 |[]=>1
 |x::l=>x*eI l
def vA:∀{l:L Nat}{x:Nat},x∈l->x∣eI l
 |y::l,x,h=>by rcases adb.1 h with rfl|h;exact Nat.dvd_mul_right _ _;exact Nat.dvd_trans (vA h)<|Nat.dvd_mul_left _ _
def pP:∀{l:L Nat},(∀x∈l,0<x)->0<eI l
 |[],_=>by simp[eI]
 |x::l,h=>aeB (h x I)<|pP λy a=>h y<|by simp[a]
def Es:∀{l:L Nat},(∀x∈l,(ah x).length<=1)->(ah<|eI l).length<=l.length+1
 |[],_=>by simp[eI];rw[ir];simp
 |x::l,h=>by have d:=Es (l:=l) λy a=>h y (by simp[a]);have c:=eW x<|eI l;have b:=h x I;simp[eI];omega
def P8(h:n<10^9):(ah n).length<=1:=nu<|cY n 1 9 h gC
def kC(us:L bw):Nat:=eI ((List.range 999).map (·+1))*eI (us.map λu=>(bp u.k).den)
def lR(us:L bw):Nat:=kC us*10^18
def vr(h:je s n=true):aV s=0/\Dc (bp s) n:=by unfold je at h;simp_all
def Dc.lt(h:Dc q n):q.num.natAbs<10^n/\q.den<10^n:=⟨An h.1,An h.2⟩
def iB{u:bw}(h:qD u=true):je u.k 6=true/\u.c8.length<=4/\(∀c∈u.c8,je c 3=true)/\∀f∈u.ai,je f.dQ 3=true:=by unfold qD at h;simp_all
def kr(q:Rat):q*(q.den:Rat)=(q.num:Rat):=by
 have h:=ajT q;rw[ajG]at h;have b:((q.den:Nat):Rat)≠0:=by
  intro g;have:q.den=0:=by exact_mod_cast g
  exact q.den_nz this
 have a:((q.den:Int):Rat)=((q.den:Nat):Rat):=ahg _
 grind
def Wn.abq{D M:Nat}(a:q.den∣D)(hn:q.num.natAbs*D<=M):Wn D M 1 1 q:=by obtain⟨e,he⟩:=a;refine⟨q.num*(e:Nat),?_,?_⟩;rw[age,Nat.pow_one,aiV];refine ab7 (ae6 _ ?_) hn;rw[he];exact Nat.le_mul_of_pos_left _ q.den_pos;rw[Nat.pow_one,he,Rat.natCast_mul,<-Rat.mul_assoc,aho,ahg];rw[kr]
def wn3{us:L bw}(h:je s 3=true):Wn (kC us) (lR us) 1 1 (bp s):=by obtain⟨c,b⟩:=(vr h).2.lt;have a:=(bp s).den_pos;refine Wn.abq (Nat.dvd_trans (vA<|ab4.2 ⟨(bp s).den-1,aec.2 E,E⟩)<|Nat.dvd_mul_right _ _) ?_;rw[aej];exact ae6 _ E
end
section
variable{us:L bw}{n:Nat}(hm:bQ us n)
include hm
theorem bQ.base:sU (kC us) (lR us) 1012:=by
 have h1:0<eI ((List.range 999).map (·+1)):=pP λx hx=>by grind
 have h2:0<eI (us.map λu=>(bp u.k).den):=pP λx hx=>by obtain⟨u,-,rfl⟩:=ab4.1 hx;exact(bp u.k).den_pos
 refine⟨aeB h1 h2,.refl,?_⟩;have h3:(ah _).length<=((List.range 999).map (·+1)).length+1:=Es λx hx=>by obtain⟨y,hy,rfl⟩:=ab4.1 hx;have:=aec.1 hy;exact P8 E
 have h4:(ah _).length<=(us.map λu=>(bp u.k).den).length+1:=Es λx hx=>by obtain⟨u,hu,rfl⟩:=ab4.1 hx;have:=(vr (iB<|hm.PS u hu).1).2.lt.2;exact P8 E
 have h5:=eW (eI ((List.range 999).map (·+1)))<|eI<|us.map λu=>(bp u.k).den;have h6:=eW (kC us)<|10^18;have h7:(ah<|10^18).length<=3:=nu<|cY _ 1 27 gC gC;rw[adZ,ajk]at h3;rw[adZ]at h4;have:=hm.len;unfold lR;unfold kC at h6⊢;omega
def bQ.wnS{u:bw}(hu:u∈us):Wn (kC us) (lR us) 1 1 (bp u.k):=by obtain⟨b,a⟩:=(vr (iB<|hm.PS u hu).1).2.lt;refine Wn.abq (Nat.dvd_trans (vA<|ab4.2 ⟨u,hu,W⟩)<|Nat.dvd_mul_left _ _) ?_;rw[aej];exact ae6 _ E
def bQ.wnQ(s:Nat):Wn (kC us) (lR us) 1 1 ((bC n us).getD s 0):=by
 have key:∀(l:L bw)(o:L Rat),(∀u∈l,u∈us)->(∀s,Wn (kC us) (lR us) 1 1 (o.getD s 0))->∀s,Wn (kC us) (lR us) 1 1 ((l.foldl (λ(o:L Rat)u=>o.set u.out.toNat<|bp u.k) o).getD s 0):=by
  intro l
  induction l with
  |nil=>intro o _ h;exact h
  |cons u l a=>intro o hl h;refine a _ (λv b=>hl v<|by simp[b]) λs=>?_;rw[ad8,aiA];split;split;exact hm.wnS<|hl u I;exact Wn.zero _ _ _ _;simp_all
 refine key us _ (λ_ h=>h) (λs=>?_) s;rw[ad8,ajS];split<;>exact Wn.zero _ _ _ _
end
def wS:Nat->Nat
 |0=>0
 |k+1=>3*wS k+20
def D2{k:Nat}(h:k<=8):wS k<=65600:=(gC:∀k,k<9->wS k<=65600) k E
def gL{l:L (L aZ)}{i s:Nat}{x:L aZ}(h:i<l.length):(l.set i x).getD s []=if s=i then x else l.getD s []:=by grind
section
variable{D M κ m B:Nat}
def OC{x:L aZ}{a:Int}{w:Nat}(b:sU D M κ)(f:m+1<=9)(n:cJ D M (m+1) a (w+2) x)(l:0<=a)(q:a<=6)(v:3*w+20<=B):
 ∀(cs:L Rat),(∀c∈cs,Wn D M 1 1 c)->cs.length<=4->a*((cs.length:Int)-1)<=6->
  (cs≠[]->cJ D M (m+1) (a*((cs.length:Int)-1)) (2+(cs.length-1)*(w+4)) (jj m x cs))/\
  ∀c r,cs=c::r->uA (m+1) (κ*B+2) (iH (jj m x r) x)/\uA (m+1) (κ*B+2) (jG (jj m x r) x++cZ c m)
 |[],_,_,_=>⟨λh=>abK W h,λc r h=>by simp at h⟩
 |c::cs,hc,hl,i=>by
  rw[acC]at hl i;have j:=hc c I;have p:cJ D M _ 0 1 (cZ c m):=cJ.const j;by_cases e:cs=[];subst e;have z:jG (jj m x []) x=[]:=gq;have g:=cJ.Qz (B:=B) b f (cJ.nil (D:=D) (M:=M) (V:=m+1) (d:=0) (w:=1)) p gC E;have k:cJ D M (m+1) (a*(((c::([]:L Rat)).length:Int)-1)) (2+((c::([]:L Rat)).length-1)*(w+4)) (jj m x [c]):=by show cJ D M (m+1) _ _ (vQ (jG (jj m x []) x)<|cZ c m);simp_all
  refine⟨λ_=>k,λC r h=>?_⟩;obtain⟨rfl,rfl⟩:=h;exact⟨(cJ.WE (D:=D) (M:=M) (d:=0) (w:=0)).1,by rw[z];exact g.1⟩;have o:=ah8.2 e;have y:a*((cs.length:Int)-1)<=a*(((cs.length+1:Nat):Int)-1):=agh E l;obtain⟨t,-⟩:=OC b f n l q v cs (λd i=>hc d<|by simp[i]) E E;have s:a*((cs.length:Int)-1)+a=a*(((cs.length+1:Nat):Int)-1):=by grind
  have u:(cs.length-1)*(w+4)<=2*(w+4):=ad6 _ E;have A:2+(cs.length-1)*(w+4)+(w+2)+1+1=2+((c::cs).length-1)*(w+4):=by rw[acC,show cs.length+1-1=(cs.length-1)+1 from E,aer];omega
  have g:=cJ.ac6 (B:=B) b f (t e) n E q (by rw[s];omega) E;rw[s]at g;have k:=cJ.Qz (B:=B) b f g.2 (p.mono b (d:=0) (e:=a*(((cs.length+1:Nat):Int)-1)) (agy l E) E) E E;refine⟨λ_=>?_,λC r h=>?_⟩;rw[<-A];exact k.2;simp_all
def adT{sh:L (L aZ)}{st:L Rat}{u:bw}{dg:Nat->Int}{d:Int}{w:Nat}(a:sU D M κ)(g:m+1<=9)(hs:∀s,cJ D M (m+1) (dg s) w<|sh.getD s [])(j:∀s,Wn D M 1 1 (st.getD s 0))(v:Wn D M 1 1 (bp u.k))
 (r:∀f∈u.ai,Wn D M 1 1 (bp f.dQ)/\dg f.sh.toNat<=d)(hl:u.ai.length<=8)(y:0<=d)(o:d<=6)(C:w+12<=B):
 GM (m+1) (κ*B+2) (κ*2+2) sh st m u/\cJ D M (m+1) d (w+11) (Dw sh st m u):=by
 have b:∀f∈u.ai,uA _ _ _/\cJ D M _ d (w+2) _:=λf h=>by obtain⟨q,p⟩:=r f h;have:=cJ.Zo (B:=B) a g (hs f.sh.toNat) E q E;exact⟨this.1,this.2.mono a p E⟩
 have c:∀i,i<=u.ai.length->cJ D M (m+1) d (w+2+i) (fg sh st u i).1/\Wn D M (1+i) 2 (fg sh st u i).2:=by
  intro i
  induction i with
  |zero=>intro _;exact⟨cJ.nil,v.up a gC⟩
  |succ i t=>
   intro hi;obtain⟨q,p⟩:=t E;have hm:u.ai.getD i default∈u.ai:=aN E;refine⟨(cJ.Qz (B:=B) a g q (((b _ hm).2).mono a (aeF _) E) o E).2,?_⟩;have x:Wn D M 1 2 (bp (u.ai.getD i default).dQ*st.getD (u.ai.getD i default).sh.toNat 0):=by have:=(r _ hm).1.mul<|j (u.ai.getD i default).sh.toNat;simpa using this
   have:=p.add x.neg;rw[<-ajC]at this;exact this.le E
 obtain⟨A,z⟩:=c u.ai.length .refl;have hc:=z.one a E;have l:cJ D M (m+1) d (w+2+8) (cZ (fg sh st u u.ai.length).2 m):=(cJ.const hc).mono a y E;have e:=cJ.Qz (B:=B) a g (A.mono a (aeF _)<|show w+2+u.ai.length<=w+2+8 from E) l o E;refine⟨⟨λf h=>(b f h).1,λi hi=>?_,λi hi=>?_,e.1⟩,e.2.mono a (aeF _) E⟩;have hm:u.ai.getD i default∈u.ai:=aN E;exact(cJ.Qz (B:=B) a g (c i E).1 ((b _ hm).2.mono a (aeF _) E) o E).1;have:=((c i hi).2.le<|show 1+i<=9 from E).sz a;exact this.mono (by have:=P8 (n:=9) gC;omega)
end
def wB:Nat:=1300000
section
variable{us:L bw}{n m:Nat}(hm:bQ us n)(hc:m=aW us)
include hm hc
theorem bQ.mle:m+1<=9:=by have:aW us<=us.length:=ahN;have:=hm.len;omega
def bQ.init:∀i,i<=us.length->∀s,cJ (kC us) (lR us) (m+1) ((fu us n i).getD s 0) 0 ((DA us n m i).getD s [])
 |0,_=>λs=>by have hn:=hm.n0;unfold fu DA A3;rw[aiW,aii,sf<|ft,gL<|ft];split;exact cJ.var E;rw[ad8 (l:=List.replicate n ([]:L aZ)),ajS];split<;>exact cJ.nil
 |i+1,h=>λs=>by have a:=bQ.init i E s;have b:=(hm.val _<|ab3<|show i<us.length from E).out;rw[jo E,DA,az<|show i<us.length from E];split;rw[sf<|by rw[(pr us n i E).1];omega,gL<|ii];split;exact cJ.var (by rw[hc];exact DS us _);exact a;exact a
def bQ.Vt{k:Nat}(h:k<us.length){w:Nat}(hw:3*w+20<=wB)(H:∀s,cJ (kC us) (lR us) (m+1) ((mc us n k).getD s 0) w<|(fB us n m k).getD s []):
 ((au us k).kind=jN->GM (m+1) (1012*wB+2) (1012*2+2) (fB us n m k) (bC n us) m (au us k))/\
 ((au us k).kind=dO->GF (m+1) (1012*wB+2) (fB us n m k) m (au us k))/\
 ∀s,cJ (kC us) (lR us) (m+1) ((mc us n<|k+1).getD s 0) (3*w+20) ((fB us n m<|k+1).getD s []):=by
 have v:=hm.base;have O:=hm.mle hc;have R:k<(aA us).length:=bZ
 have ho:=hm.out h;have hu:=hm.val _<|hm.mem h;obtain⟨f1,f2,f3,T⟩:=iB<|hm.PS _<|hm.mem h;obtain⟨d1,d2,d3⟩:=hm.dgS h;obtain⟨l1,F⟩:=hm.dg (k+1) E;obtain⟨p1,X⟩:=hm.dg k E;have V:us.getD ((aA us)[k]).toNat default=au us k:=by unfold au;rw[az R]
 have q:=hu.uI;have p:∀s,cJ (kC us) (lR us) (m+1) ((mc us n<|k+1).getD s 0) (3*w+20) ((fB us n m k).getD s []):=λs=>(H s).mono v (d2 s) E;have r:fB us n m (k+1)=mu us (bC n us) m (fB us n m k) (aA us)[k]:=mY R;by_cases o:(au us k).kind=jN;have l:(au us k).kind≠bk:=by rw[o];decide
 have K:(au us k).ai.length<=8:=by unfold jO Bq J2 at q;omega
 have y:iI (au us k)=1:=by unfold iI;rw[abl<|by rw[o];decide]
 obtain⟨a1,a2⟩:=adT (B:=wB) (d:=(mc us n<|k+1).getD (au us k).out.toNat 0) v O H (hm.wnQ) (hm.wnS<|hm.mem h)
  (λf hf=>⟨wn3<|T f hf,gn⟩) K (F _).1 (F _).2 E
 refine⟨λ_=>a1,λg=>?_,λs=>?_⟩;rw[o]at g;exact abK g gC;rw[r];unfold mu;rw[V,abx o,gL<|f9];split;rename_i e;subst e;exact a2.mono v (aeF _) E;exact p s;by_cases C:(au us k).kind=dO;have l:(au us k).kind≠bk:=by rw[C];decide
 unfold jO Bq J2 at q;rw[abl l,abl l,abl o]at q;have J:1<=(au us k).c8.length:=by grind
 have y:iI (au us k)=max 1 (((au us k).c8.length:Int)-1):=by unfold iI;rw[abx C]
 have z:(au us k).ai.getD 0 default∈(au us k).ai:=aN E;have A:=d3 l _ z;have Fg:=X ((au us k).ai.getD 0 default).sh.toNat;obtain⟨D,x⟩:∃D,(mc us n k).getD ((au us k).ai.getD 0 default).sh.toNat 0=D:=⟨_,W⟩;rw[x]at A Fg;have u:=cJ.Zo (B:=wB) v O (H ((au us k).ai.getD 0 default).sh.toNat) (by rw[x];exact Fg.2) (wn3 (us:=us)<|T _ z) E;rw[x]at u;have Y:cJ (kC us) (lR us) (m+1) D (w+2) (lY (fB us n m k)<|au us k):=u.2.mono v (aeF _) E;have N:∀c∈(au us k).c8.map bp,Wn (kC us) (lR us) 1 1 c:=λc hc=>by obtain⟨t,ht,rfl⟩:=ab4.1 hc;exact wn3<|f3 t ht
 have P:=F (au us k).out.toNat;have M:∀j:Nat,j<=(au us k).c8.length->D*((j:Int)-1)<=(mc us n<|k+1).getD (au us k).out.toNat 0:=λj hj=>by refine agH (agh ?_ Fg.1) A;rw[y];omega
 have a:=λ(i:Nat)=>OC (B:=wB) v O Y Fg.1 Fg.2 hw (((au us k).c8.map bp).drop i) (λc h=>N c<|aic h) (by simp;omega) (by grind)
 have b:∀i(hi:i<(au us k).c8.length),((au us k).c8.map bp).drop i=bp ((au us k).c8.getD i [])::((au us k).c8.map bp).drop (i+1):=λi hi=>by rw[ad5<|ce,ah3,az hi]
 refine⟨λg=>abK g o,λ_=>⟨u.1,λi hi=>((a i).2 _ _<|b i hi).1,λi hi=>((a i).2 _ _<|b i hi).2⟩,λs=>?_⟩;rw[r];unfold mu;rw[V,abl o,abx C,gL<|f9];split;rename_i e;subst e;have S:=(a 0).1 (by rw[b 0 J];simp);rw[ahe]at S;have Z:(((au us k).c8.map bp).length-1)*(w+4)<=3*(w+4):=ad6 _ (by simp;omega);exact S.mono v (M _ I) E;exact p s;refine⟨λg=>abK g o,λg=>abK g C,λs=>?_⟩;rw[r];unfold mu;simp_all
def bQ.shK:∀k,k<=us.length->∀s,cJ (kC us) (lR us) (m+1) ((mc us n k).getD s 0) (wS k) ((fB us n m k).getD s [])
 |0,_=>λs=>by have:=hm.init hc _ .refl s;exact this
 |k+1,h=>by have a:=D2 (k:=k) (by have:=hm.len;omega);exact(hm.Vt hc E (by unfold wB;omega)<|bQ.shK k E).2.2
end
section
variable{D M κ m B:Nat}
def ZD{sh bq:L (L aZ)}{u:bw}{d0 f r:Int}{w v:Nat}(j:sU D M κ)(o:m+1<=9)(hr:bq.length=m)
 (T:cJ D M (m+1) d0 w (sh.getD (u.ai.getD 0 default).sh.toNat []))(y:cJ D M (m+1) f w (sh.getD (u.ai.getD 1 default).sh.toNat []))
 (Fg:0<=d0/\d0<=6)(Xf:0<=f/\f<=6)(H:0<=r/\r<=6)(S:1<=f->d0+(r+f-1)<=6)
 (F:∀i,cJ D M (m+1) 6 v<|bq.getD i [])(l:∀i,Dz (sh.getD (u.ai.getD 1 default).sh.toNat []) (i+1)->cJ D M (m+1) r v (bq.getD i []))
 (N:Wn D M 1 1 (bp (u.ai.getD 0 default).dQ))(K:Wn D M 1 1 (bp (u.ai.getD 1 default).dQ))(hw:2*w+v+20<=B):
 GH (m+1) (κ*B+2) sh bq u/\∀e,(1<=f->d0+(r+f-1)<=e)->cJ D M (m+1) e (2*w+v+20) (yW sh bq u):=by
 obtain⟨X,V⟩:∃P,sh.getD (u.ai.getD 0 default).sh.toNat []=P:=⟨_,W⟩;obtain⟨g,z⟩:∃P,sh.getD (u.ai.getD 1 default).sh.toNat []=P:=⟨_,W⟩;rw[V]at T;rw[z]at y l;obtain⟨a,Z⟩:∃a:Int,a=if 1<=f then r+f-1 else 0:=⟨_,W⟩;have t:1<=f->a=r+f-1:=λh=>by rw[Z,abx h]
 have s:d0+a<=6:=by omega
 have b:∀x,x<m+1->uA (m+1) (κ*B+2) (oY g x)/\cJ D M (m+1) (f-1) (w+2) (uz g x):=λx Y=>y.agY j o Xf.2 Y E;have k:∀i,i<m->uA (m+1) (κ*B+2) (iH (uz g<|i+1)<|bq.getD i [])/\cJ D M (m+1) a (w+v+3) (jG (uz g<|i+1)<|bq.getD i []):=λi hi=>by
  by_cases c:Dz g (i+1);have O:=DM y c;have:=cJ.ac6 (B:=B) j o (b (i+1) E).2 (l i c) E H.2 (by have:=t O;omega) E
  grind
  rw[DR c];exact cJ.WE
 have R:∀i,i<=m->cJ D M (m+1) a (w+v+3+i) (jM bq g i):=by
  intro i
  induction i with
  |zero=>intro _;show cJ D M (m+1) a (w+v+3) (uz g 0);by_cases c:Dz g 0;have O:=DM y c;exact(b 0 E).2.mono j (by have:=t O;omega) E;rw[DR c];exact cJ.nil
  |succ i A=>intro hi;exact(cJ.Qz (B:=B) j o (A E) ((k i E).2.mono j (aeF _) E) E E).2
 have d:cJ D M (m+1) a (w+v+3+m) (ke bq g):=by unfold ke;simp_all
 have n:a<=6:=E;have J:=cJ.ac6 (B:=B) j o T d Fg.2 n s E;have hc:Wn D M 1 2 (bp (u.ai.getD 0 default).dQ*bp (u.ai.getD 1 default).dQ):=by simpa using N.mul K
 have C:=cJ.Zo (B:=B) j o J.2 s hc E;refine⟨⟨?_,?_,?_,?_⟩,λe he=>?_⟩;rw[z];refine⟨(b 0 E).1,λi hi=>(b (i+1) E).1,λi hi=>(k i E).1,λi hi=>?_,λi hi=>?_⟩;exact(cJ.Qz (B:=B) j o (R i E) ((k i E).2.mono j (aeF _) E) E E).1;have:=cJ.tok (B:=B) j o (F i) (aeF _) E
 grind
 rw[z];exact cJ.tok (B:=B) j o d n E;simp_all;simp_all;unfold yW;rw[V,z];by_cases c:1<=f;exact C.2.mono j E E;have q:ke bq g=[]:=by
  have p:∀x,¬Dz g x:=λx h=>c<|DM y h;have:∀i,jM bq g i=[]:=by
   intro i
   induction i with
   |zero=>exact DR (p 0)
   |succ i A=>simp[jM];rw[A,DR<|p _];rfl
  exact this _
 have:iU (bp (u.ai.getD 0 default).dQ*bp (u.ai.getD 1 default).dQ) (jG X<|ke bq g)=[]:=by
  have e2:iH X []=[]:=by unfold iH;simp
  rw[q];unfold jG iU;rw[e2];rfl
 rw[this];exact cJ.nil
end
def xL(us:L bw)(n k:Nat):L Int:=((aA us).take k).foldl (uO us<|mc us n us.length)<|List.replicate n 0
def LP{us:L bw}{n k:Nat}(h:k<(aA us).length):xL us n (k+1)=uO us (mc us n us.length) (xL us n k) ((aA us).getD k 0):=by unfold xL;rw[adY h,ahm,az h];rfl
def Eg{u:bw}{dg:L Int}:∀(a:L GJ){rt:L Int},u.out.toNat<rt.length->
 (a.foldl (jS u dg) rt).length=rt.length/\(∀s,s≠u.out.toNat->(a.foldl (jS u dg) rt).getD s 0=rt.getD s 0)/\rt.getD u.out.toNat 0<=(a.foldl (jS u dg) rt).getD u.out.toNat 0/\
   ∀f∈a,rt.getD f.sh.toNat 0+dg.getD f.sh.toNat 0-1<=(a.foldl (jS u dg) rt).getD u.out.toNat 0
 |[],rt,_=>⟨W,λ_ _=>rfl,aeF _,I⟩
 |f::a,rt,c=>by
  have i:∀s,(jS u dg rt f).getD s 0=if s=u.out.toNat then max _ _ else rt.getD s 0:=λs=>sf c;have b:∀s,rt.getD s 0<=(jS u dg rt f).getD s 0:=λs=>by grind
  obtain⟨h,k,e,j⟩:=Eg a (rt:=jS u dg rt f) (by unfold jS;rwa[qI]);rw[agf];refine⟨by rw[h];unfold jS;rw[qI],λs hs=>gn,agH (b _) e,λg d=>?_⟩
  grind
section
variable{us:L bw}{n m:Nat}(hm:bQ us n)
section
variable{k s:Nat}
include hm
theorem bQ.OZ{k:Nat}(h:k<us.length)(hl:(xL us n k).length=n)(h0:∀s,0<=(xL us n k).getD s 0):
 (xL us n<|k+1).length=n/\(∀s,s≠(au us k).out.toNat->(xL us n<|k+1).getD s 0=(xL us n k).getD s 0)/\(∀s,(xL us n k).getD s 0<=(xL us n<|k+1).getD s 0)/\
 (∀f∈bU (au us k),(xL us n k).getD f.sh.toNat 0+(mc us n us.length).getD f.sh.toNat 0-1+(if(au us k).kind=bk then(mc us n us.length).getD ((au us k).ai.getD 0 default).sh.toNat 0 else 0)<=(xL us n<|k+1).getD (au us k).out.toNat 0):=by
 have hk:k<(aA us).length:=bZ
 have ho:=hm.out h;have e0:us.getD ((aA us).getD k 0).toNat _=au us k:=W;obtain⟨g1,g2⟩:=hm.dg _<|abY _;rw[LP hk];unfold uO;rw[e0];obtain⟨q1,q2,q3,q4⟩:=Eg (u:=au us k) (dg:=mc us n us.length) (bU<|au us k) (rt:=xL us n k) E;obtain⟨A,hA⟩:∃A,LN (au us k) (mc us n us.length) (xL us n k)=A:=⟨_,W⟩;have hA':(bU<|au us k).foldl (jS (au us k)<|mc us n us.length) (xL us n k)=A:=hA;rw[hA];obtain⟨C,hC⟩:∃C,uf (au us k) (mc us n us.length) A=C:=⟨_,W⟩;have hCs:C.length=n/\∀s,C.getD s 0=if s=(au us k).out.toNat/\(au us k).kind=dO then A.getD s 0+(mc us n us.length).getD s 0 else A.getD s 0:=by
  rw[<-hC];unfold uf
  grind
 have hEs:(qK (au us k) (mc us n us.length) C).length=n/\∀s,(qK (au us k) (mc us n us.length) C).getD s 0=if s=(au us k).out.toNat/\(au us k).kind=bk then C.getD s 0+(mc us n us.length).getD ((au us k).ai.getD 0 default).sh.toNat 0 else C.getD s 0:=by
  unfold qK
  grind
 grind
def bQ.rt:∀k,k<=us.length->(xL us n k).length=n/\(∀s,0<=(xL us n k).getD s 0)/\∀s,(xL us n k).getD s 0<=6
 |0,_=>by
  unfold xL
  grind
 |k+1,h=>by obtain⟨g,a,j⟩:=bQ.rt k E;obtain⟨d,i,b,-⟩:=hm.OZ E g a;refine⟨d,λs=>agH (a s)<|b s,λs=>?_⟩;by_cases c:s=(au us k).out.toNat;obtain⟨r,-,e,hs⟩:=hm.dgL;obtain⟨z,f⟩:=Option.isSome_iff_exists.1 hs;have:=A8 f k (bZ);rw[e]at this;rwa[c];simp_all
def bQ.shS(h:k<us.length)(hs:s≠(au us k).out.toNat):(fB us n m<|k+1).getD s []=(fB us n m k).getD s []:=by
 have a:k<(aA us).length:=bZ
 have b:us.getD ((aA us)[k]).toNat default=au us k:=by unfold au;rw[az a]
 rw[mY a];unfold mu
 grind
def bQ.aeI(h:k<=us.length)(hs:∀j,k<=j->j<us.length->s≠(au us j).out.toNat):(mb us n m).getD s []=(fB us n m k).getD s []:=by
 unfold mb;rw[hm.iP];have:∀j,j<=us.length->k<=j->(fB us n m j).getD s []=(fB us n m k).getD s []:=by
  intro j
  induction j with
  |zero=>simp_all
  |succ j b=>intro d a;by_cases c:k=j+1;subst c;rfl;rw[hm.shS E<|hs j E E];grind
 simp_all
def bQ.shP(h:k<=us.length)(hs:s=0\/∃j,j<k/\(au us j).out.toNat=s):(mb us n m).getD s []=(fB us n m k).getD s []:=by refine hm.aeI h λj d a e=>?_;have c:=hm.out a;rcases hs with rfl|⟨i,hi,f⟩;omega;have b:=hm.out (show i<us.length from E);have:=hm.outs (show i<us.length from E) a E;omega
def bQ.shV{i:Nat}(hi:i<us.length)(a:us[i].kind=bk):∀j,j<=us.length->i<j->(DA us n m j).getD us[i].out.toNat []=iN (fN us<|i+1) m
 |0,_,h=>E
 |j+1,f,h=>by have d:=(hm.val _<|ab3<|show j<us.length from E).out;rw[DA,az<|show j<us.length from E];by_cases c:i=j;subst c;rw[abx a,gL<|ii,abx W];have b:=bQ.shV hi a j E E;split;rwa[gL<|ii,abl λe=>c<|hm.inj hi E E];exact b
def bQ.sh0:∀j,j<=us.length->(DA us n m j).getD 0 []=iN 0 m
 |0,_=>by have:=hm.n0;unfold DA A3;simp_all
 |j+1,b=>by have a:=(hm.val _<|ab3<|show j<us.length from E).out;rw[DA,az<|show j<us.length from E];split;rw[gL<|ii,abl E];exact bQ.sh0 j E;exact bQ.sh0 j E
def bQ.acv:(mb us n m).getD 0 []=iN 0 m:=by rw[hm.shP (abX _)<|.inl W];exact hm.sh0 _ .refl
def bQ.acu(h:k<us.length)(f:(au us k).kind=bk):(mb us n m).getD (au us k).out.toNat []=iN (fN us ((aA us).getD k 0).toNat+1) m:=by
 have a:=hm.idx h;have b:=f;rw[hm.eq h]at b;have p:(fB us n m 0).getD (au us k).out.toNat []=iN (fN us ((aA us).getD k 0).toNat+1) m:=by unfold fB;rw[aiW,aii,hm.eq h,hm.shV _ b _ .refl a,ny a,abx b]
 have:∀j,j<=us.length->(fB us n m j).getD (au us k).out.toNat []=(fB us n m 0).getD (au us k).out.toNat []:=by
  intro j
  induction j with
  |zero=>intro _;rfl
  |succ j g=>
   intro l;by_cases c:j=k;subst c;have d:j<(aA us).length:=bZ
   have i:us.getD ((aA us)[j]).toNat default=au us j:=by unfold au;rw[az d]
   rw[mY d];unfold mu;rw[i,abl<|by rw[f];decide,abl<|by rw[f];decide];exact g E;rw[hm.shS E λe=>c ?_];exact g E;have o:=hm.out h;exact hm.outs E h E
 unfold mb;rw[hm.iP];simp_all
end
end
def KD{us:L bw}{i j:Nat}(b:i<j)(d:j<=us.length)(a:(us.getD i default).kind=bk):fN us i<fN us j:=by
 have c:=ny (us:=us) (i:=i) E;rw[az E]at a;rw[abx a]at c;have e:fN us (i+1)<=fN us j:=by exact List.Sublist.countP_le<|List.take_sublist_take_left E
 omega
def agk{k:Nat}(h:k<8):2*65600+k*131220+20<=wB:=by unfold wB;omega
def agj(k:Nat):2*65600+k*131220+20<=(k+1)*131220:=E
def YS(k:Nat):k*131220<=(k+1)*131220:=ad6 _<|ain k
section
variable{us:L bw}{n m:Nat}(hm:bQ us n)(hc:m=aW us)
include hm hc
theorem bQ.Zl(s:Nat):cJ (kC us) (lR us) (m+1) ((mc us n us.length).getD s 0) 65600 ((mb us n m).getD s []):=by unfold mb;rw[hm.iP];exact(hm.shK hc _ .refl s).mono hm.base (aeF _)<|D2 hm.len
def bQ.occ{k:Nat}(h:k<us.length){v:Nat}(g:Dz ((mb us n m).getD (au us k).out.toNat []) v):
 ((au us k).kind=bk/\v=fN us ((aA us).getD k 0).toNat+1)\/((au us k).kind≠bk/\∃f∈(au us k).ai,Dz ((mb us n m).getD f.sh.toNat []) v):=by
 have M:k<(aA us).length:=bZ
 have K:=hm.out h;by_cases r:(au us k).kind=bk;rw[hm.acu h r]at g;exact .inl ⟨r,Rj g⟩;refine .inr ⟨r,?_⟩;have hu:=hm.val _<|hm.mem h;have s:bU (au us k)=(au us k).ai:=by unfold bU;rw[abl r]
 have p:∀f∈(au us k).ai,(fB us n m k).getD f.sh.toNat []=(mb us n m).getD f.sh.toNat []:=λf N=>by
  have J:=hu.feed f N;refine(hm.shP E ?_).symm;rcases hm.before h (by rw[s];exact N) ⟨J.1,J.2.1⟩with e|⟨j,hj,e⟩;left;omega
  grind
 rw[hm.shP (k:=k+1) E<|.inr ⟨k,E,W⟩,mY M]at g;have e0:us.getD ((aA us)[k]).toNat default=au us k:=by unfold au;rw[az M]
 unfold mu at g;rw[e0]at g;have X:=hm.shK hc k E;obtain⟨-,f2,f3,Z⟩:=iB<|hm.PS _<|hm.mem h;by_cases x:(au us k).kind=jN;rw[abx x,gL<|f9,abx W]at g;have key:∀i,i<=(au us k).ai.length->Dz (fg (fB us n m k) (bC n us) (au us k) i).1 v->∃f∈(au us k).ai,Dz ((fB us n m k).getD f.sh.toNat []) v:=by
  intro i
  induction i with
  |zero=>rintro _⟨u,hu,_⟩;simp[fg]at hu
  |succ i F=>intro hi h;rcases JW (u4 h)with h|h;exact F E h;exact⟨_,aN E,Rk h⟩
 rcases JW (u4 g)with g|g
 grind
 exact abK g H9;have w:(au us k).kind=dO:=by rcases hu.kind with e|e|e;exact abK e r;exact abK e x;exact e
 rw[abl x,abx w,gL<|f9,abx W]at g;obtain⟨S,P,-⟩:=hu.table w;have l:(au us k).ai.getD 0 default∈(au us k).ai:=aN E;refine⟨_,l,?_⟩;rw[<-p _ l];have D:=hm.base;have O:=hm.mle hc;have Fg:=(hm.dg k E).2 ((au us k).ai.getD 0 default).sh.toNat;have y:=cJ.Zo (B:=wB) D O (X ((au us k).ai.getD 0 default).sh.toNat) Fg.2 (wn3 (us:=us)<|Z _ l) (zaI);have H:cJ (kC us) (lR us) (m+1) _ _ (lY (fB us n m k)<|au us k):=y.2;have V:=hm.dgS h;have z:=V.2.2 r _ l;have A:iI (au us k)=max 1 (((au us k).c8.length:Int)-1):=by unfold iI;rw[abx w]
 have q:=((hm.dg (k+1) E).2 (au us k).out.toNat).2;have key:∀o:L Rat,(∀c∈o,Wn (kC us) (lR us) 1 1 c)->o.length<=(au us k).c8.length->Dz (jj m (lY (fB us n m k)<|au us k) o) v->Dz (lY (fB us n m k)<|au us k) v:=by
  intro o
  induction o with
  |nil=>rintro _ _⟨u,hu,_⟩;simp[jj]at hu
  |cons c o F=>
   intro C hl h;rw[acC]at hl;rcases JW (u4 h)with h|h;by_cases e:o=[];subst e;obtain⟨u,hu,_⟩:=h;simp[jG,iH,fA]at hu;have Y:=(OC (B:=wB) D O (H.mono D (aeF _)<|show 1+wS k+1<=wS k+2 from E) Fg.1 Fg.2 (zaI) o (λd T=>C d<|by simp[T]) E (by refine agH (agH (agh (a:=(o.length:Int)-1) (b:=iI<|au us k) ?_ Fg.1) z) q;rw[A];omega)).1 e
   rcases ZN Y.pw H.pw h with h|h
   grind
   exact h;exact abK h H9
 exact Rk<|key _ (λc hc=>by obtain⟨t,R,rfl⟩:=ab4.1 hc;exact wn3<|f3 t R) I g
def bQ.bq:∀k,k<=us.length->
 (∀i,cJ (kC us) (lR us) (m+1) 6 (k*131220)<|(fI us n m k).getD i [])/\
 (∀s,(s=0\/∃j,j<k/\(au us j).out.toNat=s)->∀i,Dz ((mb us n m).getD s []) (i+1)->cJ (kC us) (lR us) (m+1) ((xL us n k).getD s 0) (k*131220) ((fI us n m k).getD i [])/\∃j,j<k/\(au us j).kind=bk/\fN us ((aA us).getD j 0).toNat=i)/\
 (∀j,j<k->(au us j).kind=bk->GH (m+1) (1012*wB+2) (mb us n m) (fI us n m j) (au us j))
 |0,_=>by
  have z:∀i,(fI us n m 0).getD i []=[]:=λi=>by
   unfold fI
   grind
  refine⟨λi=>by rw[z];exact cJ.nil,λs hs i l=>?_,λj C=>E⟩;rcases hs with rfl|⟨j,C,-⟩;rw[hm.acv]at l;have:=Rj l;omega;omega
 |k+1,h=>by
  obtain⟨r1,H,r3⟩:=bQ.bq k E;have J:k<(aA us).length:=bZ
  have F:=hm.base;have hV:=hm.mle hc;have A:=hm.len;have A0:=hm.out (show k<us.length from E);have hu:=hm.val _<|hm.mem<|show k<us.length from E;obtain⟨t1,Z,t3⟩:=hm.rt k E;obtain⟨q1,q2,q3,q4⟩:=hm.OZ (show k<us.length from E) t1 Z;obtain⟨u1,u2,u3⟩:=hm.rt (k+1) h;have e0:us.getD ((aA us)[k]).toNat default=au us k:=by unfold au;rw[az J]
  have eo:(aA us)[k]=(aA us).getD k 0:=(az J).symm;have x:∀i,cJ (kC us) (lR us) (m+1) 6 ((k+1)*131220) ((fI us n m k).getD i []):=λi=>(r1 i).mono F (aeF _)<|YS k;have P:∀s,(s=0\/∃j,j<k/\(au us j).out.toNat=s)->s≠(au us k).out.toNat:=λs hs e=>by rcases hs with rfl|⟨j,C,e2⟩;omega;have F1:=hm.out (show j<us.length from E);have:=hm.outs (show j<us.length from E) (show k<us.length from E) E;omega
  have a:fI us n m (k+1)=qJ us (mb us n m) (fI us n m k) (aA us)[k]:=xJ J;have p:∀f∈bU (au us k),f.sh.toNat=0\/∃j,j<k/\(au us j).out.toNat=f.sh.toNat:=λf X=>by
   have S:f∈(au us k).ai:=by
    unfold bU at X
    grind
   have hv:=hu.feed f S;rcases hm.before (show k<us.length from E) X ⟨hv.1,hv.2.1⟩with e|⟨j,C,e⟩;left;omega
   grind
  by_cases o:(au us k).kind=bk;obtain⟨F2,-⟩:=hu.int o;have V:(au us k).ai.getD 0 default∈(au us k).ai:=aN E;have T:(au us k).ai.getD 1 default∈(au us k).ai:=aN E;have b:(au us k).ai.getD 1 default∈bU (au us k):=by unfold bU;rw[abx o,az E];refine List.mem_drop_iff_getElem.2 ⟨0,E,W⟩
  obtain⟨-,-,-,f4⟩:=iB<|hm.PS _<|hm.mem<|show k<us.length from E;have hd:=(hm.dg us.length<|abY _).2;have O:=q4 _ b;rw[abx o]at O;have F0:=u3 (au us k).out.toNat;obtain⟨ok,new⟩:=ZD (B:=wB) (u:=au us k) (r:=(xL us n k).getD ((au us k).ai.getD 1 default).sh.toNat 0) F hV (kn us n m k) (hm.Zl hc _) (hm.Zl hc _) (hd _) (hd _) ⟨Z _,t3 _⟩ (λ_=>E) r1
   (λi l=>(H _ (p _ b) i l).1) (wn3 (us:=us)<|f4 _ V) (wn3 (us:=us)<|f4 _ T) (agk<|aey h A)
  have D:=hm.idx (show k<us.length from E);have Y:fN us ((aA us).getD k 0).toNat<m:=by
   have h1:=KD (us:=us) D (abY _) (by grind)
   have h2:=DS us us.length;rw[hc];omega
  have g:∀i,(fI us n m<|k+1).getD i []=if i=fN us ((aA us).getD k 0).toNat then yW (mb us n m) (fI us n m k) (au us k)else(fI us n m k).getD i []:=λi=>by rw[a];unfold qJ;rw[e0,abx o,eo,gL<|by rw[kn];exact Y]
  have E2:=agj k;refine⟨λi=>?_,λs hs i l=>?_,λj C kj=>?_⟩
  grind
  by_cases c:s=(au us k).out.toNat;subst c;have hi:i=fN us ((aA us).getD k 0).toNat:=by rcases hm.occ hc (show k<us.length from E) l with⟨-,e⟩|⟨e,-⟩;omega;exact abK o e
  grind
  have q:s=0\/∃j,j<k/\(au us j).out.toNat=s:=by grind
  obtain⟨w,j,K,v,t⟩:=H s q i l;have R:i≠fN us ((aA us).getD k 0).toNat:=by
   rw[<-t];intro e;have F3:=hm.idx (show j<us.length from E);have N:(us.getD ((aA us).getD j 0).toNat default).kind=bk:=v;have M:(us.getD ((aA us).getD k 0).toNat default).kind=bk:=o;rcases Nat.lt_trichotomy ((aA us).getD j 0).toNat ((aA us).getD k 0).toNat with c2|c2|c2;have:=KD c2 E N;omega;have h1:=fo _<|aN (d:=0)<|show j<(aA us).length from bZ
   have h2:=fo _<|aN (d:=0) J;have:=hm.acV (ai9 K h) h (by grind);omega;have:=KD c2 E M;omega
  refine⟨?_,j,E,v,t⟩;rw[g,abl R,q2 s c];exact w.mono F (aeF _)<|YS k
  grind
  have g:fI us n m (k+1)=fI us n m k:=by rw[a];unfold qJ;rw[e0,abl o]
  rw[g];refine⟨x,λs hs i l=>?_,λj C kj=>?_⟩;by_cases c:s=(au us k).out.toNat;subst c;rcases hm.occ hc (show k<us.length from E) l with⟨e,-⟩|⟨-,f,X,y⟩;exact abK e o;have b:f∈bU (au us k):=by unfold bU;grind
  obtain⟨w,j,K,v,t⟩:=H _ (p f b) i y;have E1:=DM (hm.Zl hc f.sh.toNat) y;have O:=q4 f b;rw[abl o]at O;exact⟨w.mono F E<|YS k,j,E,v,t⟩;have q:s=0\/∃j,j<k/\(au us j).out.toNat=s:=by grind
  obtain⟨w,j,K,v,t⟩:=H s q i l;rw[q2 s c];exact⟨w.mono F (aeF _)<|YS k,j,E,v,t⟩
  grind
def bQ.read:Yy (m+1) (1012*wB+2) (1012*2+2) us n m:=by
 have r:=hm.base;have q:=hm.mle hc;have o:=hm.len;have c:∀{l:List _}{p:L aZ},p∈l->∃s,p=l.getD s []:=λ{l p}h=>by obtain⟨s,hs,rfl⟩:=ahJ h;exact⟨s,(az hs).symm⟩
 have e:∀k _,us.getD ((aA us)[k]).toNat _=au us k:=λk h=>by unfold au;rw[az h]
 refine⟨λk a p d=>?_,λk a p d=>?_,λk a j=>?_,λk a f=>?_,λk a g=>?_⟩;rw[hm.iP]at a;obtain⟨s,rfl⟩:=c d;exact cJ.tok r q (hm.shK hc k a s) ((hm.dg k a).2 s).2 (m7);rw[hm.iP]at a;obtain⟨i,rfl⟩:=c d;exact cJ.tok (B:=wB) r q ((hm.bq hc k a).1 i) (aeF _) (by unfold wB;omega)
 have b:k<us.length:=by rwa[<-hm.iP]
 rw[e k a]at j⊢;exact(hm.Vt hc b (m7)<|hm.shK hc k E).1 j;have b:k<us.length:=by rwa[<-hm.iP]
 rw[e k a]at f⊢;exact(hm.Vt hc b (m7)<|hm.shK hc k E).2.1 f;have b:k<us.length:=by rwa[<-hm.iP]
 rw[e k a]at g⊢;exact(hm.bq hc us.length .refl).2.2 k b g
end
def Mq{p:fZ}(h:Z3 p=true):bQ p.aa p.n.toNat/\p.n=p.n.toNat:=by unfold Z3 at h;rw[adS,adS,decide_eq_true_eq,afY]at h;obtain⟨⟨i,m,a⟩,f,d⟩:=h;obtain⟨l,k,j,b⟩:=L5 a;have e:p.n=p.n.toNat:=E;unfold gg at a;rw[abl E,abl E]at a;split at a;rename_i g;exact abK a g;split at a;cases a;split at a;cases a;split at a;cases a;split at a;cases a;rename_i c;split at a;cases a;exact⟨⟨i,E,E,λu hu=>by rw[<-e];exact b u hu,ajY.1 c,E,f,d⟩,e⟩
def abo(p:fZ):Prop:=¬(12<p.aa.length/\p.aa.length<=96)/\p.aa.length<=110/\p.ints.length<=40
instance(p:fZ):Decidable (abo p):=by unfold abo;infer_instance
section
variable{R:Q Nat->Prop}{P:Program}{N:Nat}{F:St->Prop}{k:L It}{l:bJ}
section
variable{c:Code}{K:L (Nat×SV)}{Z h p0 r:Nat}{q:Path}{u v y:SV}
def Ez:L (Nat×SV)->Bool
 |[]=>true
 |(_,x)::r=>fe x.plain<|Ez r
def EH(z:Nat):L (Nat×SV)->Bool
 |[]=>true
 |(i,_)::r=>fe (ne' i z)<|EH z r
def uU:∀{K:L (Nat×SV)},Ez K=true->∀i,(dn (sl K) i).av.plain=true
 |[],_,i=>rfl
 |(j,x)::K,h,i=>by simp[Ez,bL]at h;simp[sl,gE];by_cases e:i=j;subst e;rw[aG];simp[Cl.den,cW];exact h.1;rw[ar _ _ e];exact uU h.2 i
def pU{z:Nat}:∀{K:L (Nat×SV)},EH z K=true->(dn (sl K) z).av=.dead
 |[],_=>rfl
 |(j,x)::K,h=>by simp[EH,bL,ne_iff]at h;simp[sl,gE];rw[ar _ _ λe=>h.1 e.symm];exact pU h.2
def T9(r p0:Nat)(v:SV)(q:Path)(K:L (Nat×SV)):L (Nat×SV):=(p0,.ptr r 0 0 q)::(r,v)::K
def Rh(r p0 Z h:Nat)(v y:SV)(s:Path)(K:L (Nat×SV)):L (Nat×SV):=(h,.bH Z 0 0 [])::(Z,y)::(p0,.ptr Z 0 0 s)::(r,v)::K
def RG:dn (sl<|T9 r p0 v q K)=YH (dn<|sl K) r p0 v.den q:=by simp[T9,sl,gE,YH,Cl.den,SV.den]
def Md{s:Path}:dn (sl<|Rh r p0 Z h v y s K)=yO (dn<|sl K) r p0 Z h v.den y.den s:=by simp[Rh,sl,gE,yO,Cl.den,SV.den]
def afZ(L:List (Nat×SV))(σ:St):Prop:=∃l,σ=dn l/\sR l L
def afp{a g2:Nat}{ob:L Pd}(b:(gt l p0).v=.ptr r a g2 q)(i:(gt l r).g1=a)(g:(gt l r).g2=g2)(e:iK (gt l r).v q=some (ob,u))(d:aj ob)(f:sR l ((r,v)::K))(h:AK R P N F (.code c::k) (sl<|T9 r p0 v q K)):AK R P N F (.code c::k) l:=yq (l':=T9 r p0 v q K) ⟨.inr<|by rw[b];exact⟨W,⟨.inr g,λ_=>⟨_,da e d⟩⟩,i⟩,f.Jj⟩ h
def Zx{o K2:L (Nat×SV)}{Q f:Path}{i d:Nat}{g v3 y2:SV}{v1 v2:(Value->Prop)->SV}{sz x:Nat}{xs ys:L AV}{ob:L Pd}
 (hn:Names N r p0 Z h)(s:fe (Ez o) (fe (EH Z o)<|EH h o)=true)(p:fe (Ez K2) (fe (EH Z K2)<|EH h K2)=true)(Y:g.plain=true)(A:∀C,(v2 C).plain=true)
 (hg:iK g Q=some ([],y))(S:y.den=.list .own sz xs)(hs:∀C,mR g Q (.pv C)=some ([],v1 C))(J:iK g (Q++.idx i d::f)=some (ob,u))(B:aj ob)
 (D:∀C,iK (v2 C) Q=some ([],.pv C))(j:y2.den=.list .own x ys)(z:∀C,mR (v2 C) Q y2=some ([],v3))(H:flat (.idx i d::f)=true)
 (hc:∀C,AK R P N (λ_=>False) [.code c,.inv<|afZ<|Rh r p0 Z h (v2 C) y2 (.idx i d::f) K2]<|sl<|Rh r p0 Z h (v1 C) y (.idx i d::f) o)
 (hk:AK R P N F k (sl<|T9 r p0 v3 (Q++.idx i d::f) K2)):AK R P N F (.code c::k) (sl<|T9 r p0 g (Q++.idx i d::f) o):=by
 rw[bL,bL]at s p;intro V w0 S0 a w O hi;rw[RG]at hi;obtain⟨v,X⟩:=Th hn (uU s.1) (pU s.2.1) (pU s.2.2) (by rwa[cW]) (by rw[da hg U,S]) (λC=>gO (hs C) U) ⟨_,da J B⟩ hi.x;have b:=hc (·=v);have b:AW R P N c _ _:=b;rw[Md,S]at b;have M:R (V.D1 Z h v).rd/\lW P (V.D1 Z h v) w0:=⟨O.1,⟨O.2.laid,O.2.apart⟩⟩;refine wpIn_mono (b.x (V:=V.D1 Z h v) (w0:=w0) (S0:=S0) (a:=a) (w:=w) M X) λe a' w'⟨t,he,T⟩=>?_;cases e with
 |normal=>obtain⟨l2,rfl,hf⟩:=(he:afZ _ t);have n:=T.fit hf.Jj;rw[Md,j]at n;have m:=O2 (av3:=v3.den) hn (uU p.1) (pU p.2.1) (pU p.2.2) (by rw[cW];exact A _) (da (D _) U) (by rw[<-j];exact gO (z _) U) H n;rw[<-RG]at m;exact⟨_,hk,m⟩
 |_=>exact(he:False).elim
end
end
def Sg:L aZ->(L Int->Rat)->Rat
 |[],_=>0
 |t::p,g=>t.c*g t.pw+Sg p g
def lD(g:L Int->Rat):∀p q:L aZ,Sg (p++q) g=Sg p g+Sg q g
 |[],q=>by rw[ahA,Sg,Rat.zero_add]
 |t::p,q=>by rw[ah7,Sg,Sg,lD g p q];grind
def Yv(g:L Int->Rat)(t:aZ):∀p:L aZ,Sg (nX t p) g=t.c*g t.pw+Sg p g
 |[]=>by unfold nX;split<;>simp_all[Sg,Rat.add_zero]
 |u::r=>by have a:=Yv g t r;unfold nX;split;rw[Sg,Sg];grind;split;rename_i d b;split;rw[Sg];grind;rw[Sg,Sg];grind;split;rename_i h;grind;rw[Sg]
def SA(g:L Int->Rat):∀l p:L aZ,Sg (l.foldl jK p) g=Sg p g+Sg l g
 |[],p=>by rw[aii,Sg,Rat.add_zero]
 |t::l,p=>by rw[agf,SA g l,jA,Yv,Sg];grind
def KZ(g:L Int->Rat)(l:L aZ):Sg (fA l) g=Sg l g:=by unfold fA;rw[SA,Sg,Rat.zero_add]
def yt(g:L Int->Rat)(c:Rat):∀p:L aZ,Sg (kP c p) g=c*Sg p g
 |[]=>by simp[kP,Sg]
 |t::p=>by have:=yt g c p;unfold kP at this⊢;rw[ad3,Sg,Sg];grind
def Yu(g:L Int->Rat)(t:aZ):∀b:L aZ,Sg (b.map λu=>(⟨t.c*u.c,List.zipWith (·+ ·) t.pw u.pw⟩:aZ)) g=t.c*Sg b λw=>g (List.zipWith (·+ ·) t.pw w)
 |[]=>by simp[Sg]
 |u::b=>by rw[ad3,Sg,Sg,Yu g t b];grind
def K1(g:L Int->Rat)(b:L aZ):∀a:L aZ,Sg (iH a b) g=Sg a λv=>Sg b λw=>g (List.zipWith (·+ ·) v w)
 |[]=>by simp[iH,Sg]
 |t::a=>by have:=K1 g b a;unfold iH at this⊢;rw[ai2,lD,Yu,this,Sg]
def jD(g:L Int->Rat)(c:Rat)(m:Nat):Sg (cZ c m) g=c*g (List.replicate (m+1) 0):=by unfold cZ;split<;>simp_all[Sg,Rat.add_zero]
def SE(p q:L aZ):Prop:=∀g,Sg p g=Sg q g
def SE.mul{a d b c:L aZ}(f:SE a d)(e:SE b c):SE (iH a b) (iH d c):=λg=>by rw[K1,K1,f];congr 1;funext v;exact e _
def NP(D N:Nat):L aZ->Prop
 |[]=>True
 |t::p=>∃(a:Int)(M:Nat),t.c*(D:Rat)=a/\NP D M p/\a.natAbs+M<=N
def NP.le{D N M:Nat}(h:N<=M):∀{p:L aZ},NP D N p->NP D M p
 |[],_=>trivial
 |_::_,⟨a,K,c,b,d⟩=>⟨a,K,c,b,E⟩
def NP.app{D M:Nat}{q:L aZ}(b:NP D M q):∀{p:L aZ}{N:Nat},NP D N p->NP D (N+M) (p++q)
 |[],N,_=>b.le E
 |_::_,N,⟨a,K,d,c,e⟩=>⟨a,K+M,d,NP.app b c,E⟩
def NP.ag7{D N M:Nat}{p q:L aZ}(b:NP D N p)(a:NP D M q):NP D (N+M) (p++q):=NP.app a b
def NP.up{D:Nat}(g:Nat):∀{p:L aZ}{N:Nat},NP D N p->NP (D*g) (N*g) p
 |[],N,_=>trivial
 |t::_,N,⟨a,K,d,c,b⟩=>by refine⟨a*g,K*g,?_,NP.up g c,?_⟩;rw[aho,ahg];grind;rw[age,ahW,<-aer];exact ad6 _ b
def NP.JA{D E:Nat}{c:Rat}{b:Int}(hc:c*(E:Rat)=b):∀{p:L aZ}{N:Nat},NP D N p->NP (E*D) (b.natAbs*N) (kP c p)
 |[],N,_=>trivial
 |t::p,N,⟨a,K,f,e,d⟩=>by refine⟨b*a,b.natAbs*K,?_,NP.JA hc e,?_⟩;show c*t.c*_=_;rw[aho];grind;rw[age,<-aiU];exact ae6 _ d
def NP.map{D E:Nat}{t:aZ}{c:Int}(hc:t.c*(E:Rat)=c):∀{b:L aZ}{N:Nat},NP D N b->NP (E*D) (c.natAbs*N) (b.map λu=>(⟨t.c*u.c,List.zipWith (·+ ·) t.pw u.pw⟩:aZ))
 |[],N,_=>trivial
 |u::p,N,⟨a,K,f,e,d⟩=>by refine⟨c*a,c.natAbs*K,?_,NP.map hc e,?_⟩;show t.c*u.c*_=_;rw[aho];grind;rw[age,<-aiU];exact ae6 _ d
def NP.mul{D E M:Nat}{b:L aZ}(d:NP D M b):∀{a:L aZ}{N:Nat},NP E N a->NP (E*D) (N*M) (iH a b)
 |[],N,_=>trivial
 |t::a,N,⟨c,K,g,f,e⟩=>by have:=NP.app (NP.mul d f)<|NP.map g d;exact this.le (by rw[<-aer];exact ad6 _ e)
def NP.const{D:Nat}{c:Rat}{b:Int}(hc:c*(D:Rat)=b)(m:Nat):NP D b.natAbs (cZ c m):=by unfold cZ;split;trivial;exact⟨b,0,hc,U,E⟩
def NP.split{D:Nat}(v:L Int):∀{q:L aZ}{N:Nat},NP D N q->∃(a:Int)(M:Nat),(∀g,Sg q g*(D:Rat)=a*g v+(Sg (q.filter λt=>decide (t.pw≠v)) g)*(D:Rat))/\NP D M (q.filter λt=>decide (t.pw≠v))/\a.natAbs+M<=N
 |[],N,_=>⟨0,0,λg=>by simp[Sg,Rat.add_zero],U,I⟩
 |t::q,N,⟨b,K,d,c,e⟩=>by
  obtain⟨a,M,g1,g2,f⟩:=NP.split v c;by_cases h:t.pw=v;refine⟨b+a,M,λg=>?_,by simpa[h]using g2,E⟩;rw[Sg]
  grind
  refine⟨a,b.natAbs+M,λg=>?_,?_,E⟩;rw[List.filter_cons_of_pos<|by simp[h],Sg,Sg]
  grind
  rw[List.filter_cons_of_pos<|by simp[h]];exact⟨b,M,d,g2,.refl⟩
def Oj{v:L Int}{g h:L Int->Rat}(e:∀w,w≠v->g w=h w):∀{p:L aZ},(∀t∈p,t.pw≠v)->Sg p g=Sg p h
 |[],_=>rfl
 |t::p,a=>by rw[Sg,Sg,e _<|a t I,Oj e λu hu=>a u<|by simp[hu]]
def adX:∀p:L aZ,Sg p (λ_=>0)=0
 |[]=>rfl
 |t::p=>by rw[Sg,adX p];grind
def NP.Pk{D:Nat}(k:0<D):∀{p q:L aZ}{N:Nat},AM p->SE p q->NP D N q->NP D N p
 |[],_,_,_,_,_=>trivial
 |t::p,q,N,hs,he,i=>by
  have j:(D:Rat)≠0:=by exact_mod_cast (E:D≠0)
  obtain⟨a,M,g1,g2,l⟩:=NP.split _ i;have d:∀u∈p,u.pw≠t.pw:=λu hu e=>by have:=List.rel_of_pairwise_cons hs hu;rw[e,iy]at this;cases this
  have c:∀u∈q.filter λh=>decide (h.pw≠t.pw),u.pw≠t.pw:=λu hu=>by simpa using(ahx.1 hu).2
  refine⟨a,M,?_,NP.Pk k (List.Pairwise.of_cons hs) (λg=>?_) g2,l⟩;have f:=g1 λw=>if w=t.pw then 1 else 0;rw[<-he,Sg,Oj (λw b=>abl b) d,Oj (λw b=>abl b) c,adX,adX]at f
  grind
  have f:=g1 λw=>if w=t.pw then 0 else g w;rw[<-he,Sg,Oj (λw b=>abl b) d,Oj (λw b=>abl b) c]at f
  grind
section
variable{p q:L aZ}{D a g x y:Nat}{c:Rat}
def zq{b:Nat}(h:a<=10^x)(g:b<=10^y):a*b<=10^(x+y):=by rw[aga];exact agW h g
def qy(h:x<=y):10^x<=10^y:=aeh gC h
def Mb{k:Nat}(h:a<=10^x):a^k<=10^(x*k):=by rw[ahU];exact ah2 h k
structure NX(D x:Nat)(p:List aZ):Prop where
 pos:0<D
 le:D<=10^x
 np:NP D (10^x) p
def NX.mono(h:NX D x p)(b:x<=y):NX D y p:=⟨h.pos,ab7 h.le<|qy b,h.np.le<|qy b⟩
def NX.up(h:NX D x p)(d:0<g)(b:g<=10^y):NX (D*g) (x+y) p:=⟨aeB h.pos d,zq h.le b,(h.np.up g).le<|by rw[aga];exact ae6 _ b⟩
def NX.app(h:NX D x p)(g:NX D x q):NX D (x+1) (p++q):=⟨h.pos,ab7 h.le<|qy E,(h.np.ag7 g.np).le<|by rw[agS];omega⟩
def NX.mul{E:Nat}(h:NX D x p)(g:NX E y q):NX (D*E) (x+y) (iH p q):=⟨aeB h.pos g.pos,zq h.le g.le,by rw[aga];exact NP.mul g.np h.np⟩
def NX.JA(h:NX D x p)(hn:c.num.natAbs<=10^y)(b:c.den<=10^y):NX (c.den*D) (y+x) (kP c p):=⟨aeB c.den_pos h.pos,zq b h.le,(NP.JA (kr c) h.np).le<|by rw[aga];exact ad6 _ hn⟩
def NX.const(m:Nat)(hn:c.num.natAbs<=10^y)(b:c.den<=10^y):NX c.den y (cZ c m):=⟨c.den_pos,b,(NP.const (kr c) m).le hn⟩
def GG(D x m:Nat)(st:Rat)(p:L aZ):Prop:=∃q,SE p (q++cZ st m)/\NX D x q
def GG.up{m:Nat}{st:Rat}(h:GG D x m st p)(d:0<g)(b:g<=10^y):GG (D*g) (x+y) m st p:=by obtain⟨q,f,e⟩:=h;exact⟨q,f,e.up d b⟩
end
def DY(g:L Int->Rat)(p q:L aZ):Sg (vQ p q) g=Sg p g+Sg q g:=by unfold vQ;rw[KZ,lD]
def Sy(p q:L aZ):SE (jG p q) (iH p q):=λg=>by unfold jG;rw[KZ]
def BV(g:L Int->Rat)(c:Rat)(p:L aZ):Sg (iU c p) g=c*Sg p g:=by unfold iU;rw[KZ,yt]
def NP.dQ{D F x y:Nat}{c:Rat}{q:L aZ}(hc:∃b:Int,c*(F:Rat)=b/\b.natAbs<=10^y)(h:NP D (10^x) q):NP (F*D) (10^(y+x)) (kP c q):=by obtain⟨b,d,a⟩:=hc;exact(NP.JA d h).le (by rw[aga];exact ad6 _ a)
def Yn{ps:L (L aZ)}{st:L Rat}{u:bw}{D F x y m:Nat}(hl:u.ai.length<=8)(p:0<D)(d:D<=10^x)(o:0<F)(c:F<=10^y)
 (l:∀f∈u.ai,GG D x m (st.getD f.sh.toNat 0)<|ps.getD f.sh.toNat [])(n:∀f∈u.ai,∃b:Int,bp f.dQ*(F:Rat)=b/\b.natAbs<=10^y):
 GG (F*D) (y+x+1) m (bp u.k) (Dw ps st m u):=by
 have key:∀i,i<=u.ai.length->∃(a:L aZ)(s:Rat),SE (fg ps st u i).1 (a++cZ s m)/\(fg ps st u i).2=bp u.k-s/\NP (F*D) (i*10^(y+x)) a:=by
  intro i
  induction i with
  |zero=>intro _;exact⟨[],0,λg=>by rw[fg,ahA,jD,Sg];grind,by rw[fg];grind,U⟩
  |succ i j=>intro hi;obtain⟨a,s,h,r,e⟩:=j E;have hm:u.ai.getD i default∈u.ai:=aN E;obtain⟨q,g1,g2⟩:=l _ hm;refine⟨a++kP (bp (u.ai.getD i default).dQ) q,s+bp (u.ai.getD i default).dQ*st.getD (u.ai.getD i default).sh.toNat 0,λg=>?_,?_,?_⟩;rw[fg,DY,h,BV,g1,lD,lD,lD,lD,yt,jD,jD,jD];grind;rw[fg];grind;rw[aer,aiV];exact NP.app (NP.dQ (n _ hm) g2.np) e
 obtain⟨a,s,h,r,e⟩:=key _ .refl;refine⟨a,λg=>?_,aeB o p,ab7 (zq c d)<|qy E,e.le ?_⟩;unfold Dw;rw[DY,h,lD,lD,jD,jD,jD];grind;rw[aej];exact ae6 _ E
def OD{xp X:L aZ}{C E x y m:Nat}(l:SE xp X)(i:NX E x X)(n:0<C)(e:C<=10^y):∀(cs:L Rat),(∀c∈cs,∃b:Int,c*(C:Rat)=b/\b.natAbs<=10^y)->cs≠[]->
 ∃T,SE (jj m xp cs) T/\NX (C*E^(cs.length-1)) (y+(x+1)*(cs.length-1)) T
 |[],_,h=>abK W h
 |[c],hc,_=>by obtain⟨b,k,j⟩:=hc c (by simp);refine⟨cZ c m,λg=>?_,by simpa using n,b6,?_⟩;show Sg (vQ (jG [] xp) _) g=_;rw[DY,Sy,K1,Sg];grind;have:=(NP.const k m).le j;simpa using this
 |c::d::cs,hc,_=>by
  obtain⟨T,k,j⟩:=OD l i n e (d::cs) (λa h=>hc a<|by simp[h]) (by simp);obtain⟨b,s,p⟩:=hc c (by simp);refine⟨iH T X++cZ c m,λg=>?_,?_⟩;show Sg (vQ (jG (jj m xp _) xp) _) g=_;rw[DY,Sy,(SE.mul k l),lD];have f:=j.mul i;simp[Nat.add_sub_cancel]at f⊢;have q:C*E^cs.length*E=C*E^(cs.length+1):=by rw[agS,ahE]
  rw[q]at f;have o:NX (C*E^(cs.length+1)) (y+(x+1)*cs.length+x) (cZ c m):=by
   refine⟨f.pos,f.le,?_⟩;have r:c*((C*E^(cs.length+1):Nat):Rat)=((b*(E^(cs.length+1):Nat):Int):Rat):=by rw[aho,ahg];grind
   refine(NP.const r m).le ?_;rw[age];refine ab7 (zq p<|Mb i.le)<|qy ?_;have:=aiU x cs.length 1;have:=aer x 1 cs.length;omega
  exact(f.app o).mono (by have:=aiU (x+1) cs.length 1;omega)
def wV(us:L bw)(n:Nat)(dM:Int):Bool:=match F5 us dM (aA us) (fu us n us.length)with
 |none=>false
 |some dg=>(JF us dM dg (aA us)<|List.replicate n 0).isSome
def NH{u:bw}{B:Int}(j:0<=B):∀(c:L GJ){dg:L Int},u.out.toNat<dg.length->dg.getD u.out.toNat 0<=B->(∀f∈c,f.sh.toNat≠u.out.toNat/\dg.getD f.sh.toNat 0*iI u<=B)->
 (c.foldl (jI u) dg).getD u.out.toNat 0<=B
 |[],_,_,h,_=>h
 |f::c,dg,i,h,e=>by have d:∀s,(jI u dg f).getD s 0=if s=u.out.toNat then max _ _ else dg.getD s 0:=λs=>sf i;have k:=(e f I).2;refine NH j c (by unfold jI;rwa[qI]) (by rw[d,abx W];omega) λg h=>?_;obtain⟨a,b⟩:=e g (by simp[h]);exact⟨a,by rw[d,abl a];exact b⟩
section
variable{us:L bw}{n:Nat}(hm:bQ us n)
include hm
theorem bQ.Qb{j:Nat}:∀k,k<=us.length->j<k->(mc us n k).getD (au us j).out.toNat 0=(mc us n<|j+1).getD (au us j).out.toNat 0
 |0,_,h=>E
 |k+1,hk,h=>by by_cases c:j=k;rw[c];rw[(hm.dgS<|show k<us.length from E).1 _ λe=>?_,bQ.Qb k E E];have o2:=hm.out (show k<us.length from E);exact c<|hm.outs E E E
def bQ.VS{j:Nat}:∀k,k<=us.length->j<k->(xL us n k).getD (au us j).out.toNat 0=(xL us n<|j+1).getD (au us j).out.toNat 0
 |0,_,h=>E
 |k+1,d,h=>by by_cases c:j=k;rw[c];obtain⟨r1,a,-⟩:=hm.rt k E;rw[(hm.OZ (show k<us.length from E) r1 a).2.1 _ λe=>?_,bQ.VS k E E];have b:=hm.out (show k<us.length from E);exact c<|hm.outs E E E
end
def lQ(us:L bw)(n s:Nat):Int:=(mc us n us.length).getD s 0
def Tc(us:L bw)(n s:Nat):Int:=(xL us n us.length).getD s 0
def IS{us:L bw}{n s:Nat}(hs:s≠0):∀i,i<=us.length->(∀j,j<i->∀h:j<us.length,us[j].kind=bk->us[j].out.toNat≠s)->(fu us n i).getD s 0=0
 |0,_,_=>by
  unfold fu
  grind
 |i+1,hi,h=>by
  rw[jo E];have a:=IS (n:=n) hs i E λj b=>h j E;split;rename_i g
  grind
  exact a
def IT{us:L bw}{n s:Nat}:∀i,i<=us.length->∀j,j<=i->1<=(fu us n j).getD s 0->1<=(fu us n i).getD s 0
 |0,_,j,b,h=>by obtain rfl:j=0:=E;exact h
 |i+1,hi,j,b,h=>by
  by_cases c:j=i+1;subst c;exact h;have a:=IT i E j E h;rw[jo E];split
  grind
  exact a
section
variable{us:L bw}{n:Nat}(hm:bQ us n)
include hm
theorem Qa{i:Nat}(hi:i<us.length)(hk:us[i].kind=bk):1<=(fu us n us.length).getD us[i].out.toNat 0:=by
 refine IT _ (abY _) _ hi ?_;have ho:=(hm.val _<|ab3 hi).out;have hl:=(pr us n i E).1;rw[jo hi,abx hk]
 grind
def bQ.dg0:∀k,k<=us.length->(mc us n k).getD 0 0=1
 |0,_=>by exact CS hm.n0 (λu hu=>(hm.val u hu).out.1) _ (abY _)
 |k+1,h=>by have o:=hm.out (show k<us.length from E);rw[(hm.dgS<|show k<us.length from E).1 _ E];exact bQ.dg0 k E
def UR(us:L bw)(k s:Nat):Prop:=s=0\/∃j,j<k/\(au us j).out.toNat=s
def bQ.abN{k s:Nat}(a:k<=us.length)(h:UR us k s):(mc us n k).getD s 0=lQ us n s:=by rcases h with rfl|⟨j,b,rfl⟩;unfold lQ;rw[hm.dg0 k a,hm.dg0 _<|abY _];unfold lQ;rw[hm.Qb k a b,hm.Qb _ (abY _) E]
def bQ.mK{k:Nat}(b:k<us.length){f:GJ}(a:f∈bU (au us k)):UR us k f.sh.toNat:=by have hu:=(hm.val _<|hm.mem b).feed f (by unfold bU at a;split at a;exact aic a;exact a);rcases hm.before b a ⟨hu.1,hu.2.1⟩with h|⟨j,c,h⟩;exact .inl E;exact .inr ⟨j,c,by rw[h]⟩
def bQ.adp{k:Nat}(a:k<us.length){s:Nat}(h:UR us k s):s≠(au us k).out.toNat:=by have o:=hm.out a;rcases h with rfl|⟨j,c,rfl⟩;omega;have b:=hm.out (show j<us.length from E);intro e;have:=hm.outs (show j<us.length from E) a E;omega
def bQ.abM{k:Nat}(b:k<us.length)(hi:(au us k).kind≠bk):∀j,j<=k->(mc us n j).getD (au us k).out.toNat 0=0
 |0,_=>by have o:=hm.out b;refine IS E _ (abY _) λi _ c a e=>?_;have d:=hm.inj c _ (by rw[<-hm.eq b];omega);rw[hm.eq b]at hi;simp only[d]at a;exact hi a
 |j+1,h=>by have f:=hm.out (show j<us.length from E);rw[(hm.dgS<|show j<us.length from E).1 _ λe=>?_];exact bQ.abM b hi j E;have:=hm.outs (show j<us.length from E) b E;omega
def bQ.afF{k:Nat}(a:k<us.length)(hi:(au us k).kind≠bk){B:Int}(g:0<=B)(h:∀f∈(au us k).ai,lQ us n f.sh.toNat*iI (au us k)<=B):lQ us n (au us k).out.toNat<=B:=by
 have c:k<(aA us).length:=bZ
 have b:bU (au us k)=(au us k).ai:=d9
 have o:=hm.out a;obtain⟨l,j⟩:=hm.dg k E;have i:us.getD ((aA us).getD k 0).toNat _=au us k:=W;unfold lQ;rw[hm.Qb _ (abY _) a,Ak c];unfold qk;rw[i,abl hi];refine NH g _ E (by rwa[hm.abM a hi k<|abY _]) λf e=>?_;have d:=hm.mK a (by rwa[b]);exact⟨hm.adp a d,by rw[hm.abN E d];exact h f e⟩
def bQ.adu{k:Nat}(b:k<us.length)(hi:(au us k).kind≠bk){f:GJ}(c:f∈(au us k).ai):lQ us n f.sh.toNat*iI (au us k)<=lQ us n (au us k).out.toNat:=by
 have a:bU (au us k)=(au us k).ai:=d9
 have:=(hm.dgS b).2.2 hi f c;rw[hm.abN E<|hm.mK b<|by rwa[a]]at this;unfold lQ at this⊢;rwa[hm.Qb _ (abY _) b]
def bQ.agu{k:Nat}(h:k<us.length):∀f∈bU (au us k),(xL us n k).getD f.sh.toNat 0+(mc us n us.length).getD f.sh.toNat 0-1+(if(au us k).kind=dO then(mc us n us.length).getD (au us k).out.toNat 0 else 0)<=(xL us n<|k+1).getD (au us k).out.toNat 0:=by
 obtain⟨hl,p,-⟩:=hm.rt k E;have a:k<(aA us).length:=bZ
 have o:=hm.out h;have g:us.getD ((aA us).getD k 0).toNat _=au us k:=W;obtain⟨g1,g2⟩:=hm.dg _<|abY _;rw[LP a];unfold uO;rw[g];obtain⟨m,l,j,i⟩:=Eg (u:=au us k) (dg:=mc us n us.length) (bU<|au us k) (rt:=xL us n k) E;obtain⟨A,hA⟩:∃A,LN (au us k) (mc us n us.length) (xL us n k)=A:=⟨_,W⟩;have e:(bU<|au us k).foldl (jS (au us k)<|mc us n us.length) (xL us n k)=A:=hA;rw[hA];obtain⟨C,d⟩:∃C,uf (au us k) (mc us n us.length) A=C:=⟨_,W⟩;have c:C.length=n/\∀s,C.getD s 0=if s=(au us k).out.toNat/\(au us k).kind=dO then A.getD s 0+(mc us n us.length).getD s 0 else A.getD s 0:=by
  rw[<-d];unfold uf
  grind
 have b:(qK (au us k) (mc us n us.length) C).length=n/\∀s,(qK (au us k) (mc us n us.length) C).getD s 0=if s=(au us k).out.toNat/\(au us k).kind=bk then C.getD s 0+(mc us n us.length).getD ((au us k).ai.getD 0 default).sh.toNat 0 else C.getD s 0:=by
  unfold qK
  grind
 grind
def bQ.aeQ{k s:Nat}(a:k<=us.length)(h:∃j,j<k/\(au us j).out.toNat=s):(xL us n k).getD s 0=Tc us n s:=by obtain⟨j,b,rfl⟩:=h;unfold Tc;rw[hm.VS k a b,hm.VS _ (abY _) E]
def bQ.aeP{k:Nat}(a:k<us.length){f:GJ}(b:f∈bU (au us k)):(if f.sh.toNat=0 then 0 else Tc us n f.sh.toNat)+lQ us n f.sh.toNat-1+(if(au us k).kind=dO then lQ us n (au us k).out.toNat else 0)<=Tc us n (au us k).out.toNat:=by
 have d:=hm.agu a f b;have c:Tc us n (au us k).out.toNat=(xL us n<|k+1).getD (au us k).out.toNat 0:=by unfold Tc;exact hm.VS _ (abY _) a
 have h:=(hm.rt k E).2.1 f.sh.toNat;rw[<-c]at d;unfold lQ;rcases hm.mK a b with e|e;rw[abx e];omega;have o:f.sh.toNat≠0:=by obtain⟨j,g,e⟩:=e;have:=hm.out (show j<us.length from E);omega
 rwa[abl o,<-hm.aeQ E e]
def bQ.agE{dM:Int}(b:wV us n dM=true){k:Nat}(c:k<us.length):lQ us n (au us k).out.toNat<=dM/\Tc us n (au us k).out.toNat<=dM:=by
 have a:k<(aA us).length:=bZ
 unfold wV at b;split at b;cases b;rename_i dg e;obtain⟨i,h⟩:=wI e;have g:dg=mc us n us.length:=by rw[i];unfold mc;rw[ad2<|by rw[hm.iP];exact abY _]
 obtain⟨z,f⟩:=Option.isSome_iff_exists.1 b;have d:=A8 f k a;unfold lQ Tc;rw[hm.Qb _ (abY _) c,hm.VS _ (abY _) c];rw[g]at d;exact⟨h k a,d⟩
def bQ.R6:∀k,k<=us.length->∀s,UR us k s->1<=lQ us n s
 |0,_,s,h=>by rcases h with rfl|⟨j,f,-⟩;unfold lQ;rw[hm.dg0 _<|abY _];exact aeF _;omega
 |k+1,o,s,h=>by
  have b:=bQ.R6 k E;rcases h with rfl|⟨j,f,rfl⟩;exact b 0 (.inl W);by_cases c:j<k;exact b _<|.inr ⟨j,c,W⟩;have:j=k:=E;subst this;by_cases hi:(au us j).kind=bk;unfold lQ;rw[hm.Qb _ (abY _) E];have e:=hm.dgM (show j+1<=us.length from E) (abX _) (au us j).out.toNat;refine agH ?_ e;have i:=Qa hm (hm.idx<|show j<us.length from E) (by rwa[<-hm.eq (show j<us.length from E)]);rw[<-hm.eq (show j<us.length from E)]at i;unfold mc;simp only[aiW,aii];omega;have d:bU (au us j)=(au us j).ai:=d9
  have hu:=hm.val _<|hm.mem<|show j<us.length from E;have a:=hu.uI;have hl:1<=(au us j).ai.length:=by unfold jO Bq J2 at a;omega
  have g:(au us j).ai.getD 0 default∈(au us j).ai:=aN E;have e:=hm.adu (show j<us.length from E) hi g;have m:=b _<|hm.mK (show j<us.length from E)<|by rwa[d]
  have l:1<=iI (au us j):=by unfold iI;split<;>omega
  have:=aiM m l gC E;omega
end
section
variable{us:L bw}{n:Nat}(hm:bQ us n)
def FZ(us:L bw)(n s:Nat):∀i,i<=us.length->(fu us n i).getD s 0<=1
 |0,_=>by
  unfold fu
  grind
 |i+1,hi=>by
  rw[jo E];have a:=FZ us n s i E;split
  grind
  exact a
include hm
theorem bQ.XD{k:Nat}(hk:k<us.length)(hi:(au us k).kind=bk):lQ us n (au us k).out.toNat<=1:=by
 have key:∀j,j<=us.length->(mc us n j).getD (au us k).out.toNat 0<=1:=by
  intro j
  induction j with
  |zero=>intro _;exact FZ us n _ _ (abY _)
  |succ j ih=>
   intro h;have o2:=hm.out (show j<us.length from E);have ih:=ih E;by_cases c:j=k;subst c;have hko:j<(aA us).length:=bZ
   have e0:us.getD ((aA us).getD j 0).toNat _=au us j:=W;rw[Ak hko];unfold qk;rwa[e0,abx hi];rw[(hm.dgS<|show j<us.length from E).1 _ λe=>?_];exact ih;have:=hm.outs (show j<us.length from E) hk E;omega
 exact key _<|abY _
def aa8(us:L bw)(n k:Nat):Prop:=
 1<=lQ us n ((au us k).ai.getD 0 default).sh.toNat/\
 (((au us k).c8.length<=2/\lQ us n ((au us k).ai.getD 0 default).sh.toNat<=2/\lQ us n (au us k).out.toNat=lQ us n ((au us k).ai.getD 0 default).sh.toNat)\/
  ((au us k).c8.length=3/\lQ us n ((au us k).ai.getD 0 default).sh.toNat=1/\lQ us n (au us k).out.toNat=2)\/
  ((au us k).c8.length=4/\lQ us n ((au us k).ai.getD 0 default).sh.toNat=1/\lQ us n (au us k).out.toNat=3/\3<=Tc us n (au us k).out.toNat))
def bQ.adC(K:wV us n 4=true){k:Nat}(g:k<us.length)(C:∀s,UR us k s->lQ us n s<=2\/(lQ us n s=3/\3<=Tc us n s/\s≠0)):
 ((au us k).kind=jN->lQ us n (au us k).out.toNat<=2/\∀f∈(au us k).ai,lQ us n f.sh.toNat<=2)/\((au us k).kind=dO->aa8 us n k):=by
 obtain⟨V,T⟩:=hm.agE K g;have hu:=hm.val _<|hm.mem g;have q:∀s,0<=Tc us n s:=λs=>(hm.rt us.length<|abY _).2.1 s;refine⟨λu=>?_,λt=>?_⟩;have hi:(au us k).kind≠bk:=by rw[u];decide
 have c:bU (au us k)=(au us k).ai:=d9
 have o:iI (au us k)=1:=by unfold iI;rw[abl<|by rw[u];decide]
 have p:∀f∈(au us k).ai,lQ us n f.sh.toNat<=2:=λf j=>by rcases C _ (hm.mK g<|by rw[c];exact j)with h|⟨N,M,A⟩;exact h;have:=hm.aeP g (f:=f) (by rw[c];exact j);rw[abl A,abl<|by rw[u];decide]at this;omega
 exact⟨hm.afF g hi gC λf j=>by rw[o];have:=p f j;omega,p⟩;have hi:(au us k).kind≠bk:=by rw[t];decide
 have c:bU (au us k)=(au us k).ai:=d9
 obtain⟨S,R,P⟩:=hu.table t;obtain⟨-,X,-,-⟩:=iB<|hm.PS _<|hm.mem g;have m:(au us k).ai.getD 0 default∈(au us k).ai:=aN E;have y:∀f∈(au us k).ai,f=(au us k).ai.getD 0 default:=λf j=>by obtain⟨i,hi,rfl⟩:=ahJ j;have:i=0:=E;subst this;rw[az hi]
 have o:iI (au us k)=max 1 (((au us k).c8.length:Int)-1):=by unfold iI;rw[abx t]
 have F:=hm.mK g (by rw[c];exact m);have v:=hm.R6 k E _ F;have l:=hm.adu g hi m;have D:=hm.aeP g (f:=(au us k).ai.getD 0 default) (by rw[c];exact m);have w:=C _ F;have H:=q ((au us k).ai.getD 0 default).sh.toNat;unfold aa8;have b:∀B:Int,0<=B->lQ us n ((au us k).ai.getD 0 default).sh.toNat*iI (au us k)<=B->lQ us n (au us k).out.toNat<=B:=λB O h=>hm.afF g hi O λf j=>by rw[y f j];exact h
 generalize ((au us k).ai.getD 0 default).sh.toNat=x at*;generalize lQ us n x=d at*;generalize lQ us n (au us k).out.toNat=e at*;generalize Tc us n (au us k).out.toNat=r at*;generalize (au us k).c8.length=a at*;have z:d<=2:=by rcases w with h|⟨N,M,A⟩;exact h;rw[abl A]at D;have:3*1<=d*iI (au us k):=aiM E E gC E;omega
 have J:d-1+e<=r:=by split at D<;>omega
 rcases(E:a<=2\/a=3\/a=4)with h|h|h;have m1:iI (au us k)=1:=E;rw[m1]at l b;have:=b d E E;exact⟨v,.inl ⟨h,z,E⟩⟩;have m1:iI (au us k)=2:=E;rw[m1]at l b;have:=b (d*2) E E;exact⟨v,.inr<|.inl ⟨h,E,E⟩⟩;have m1:iI (au us k)=3:=E;rw[m1]at l b;have:=b (d*3) E E;exact⟨v,.inr<|.inr ⟨h,E,E,E⟩⟩
def bQ.cls(b:wV us n 4=true):∀k,k<=us.length->∀s,UR us k s->lQ us n s<=2\/(lQ us n s=3/\3<=Tc us n s/\s≠0)
 |0,_,s,h=>by rcases h with rfl|⟨j,f,-⟩;exact .inl (by unfold lQ;rw[hm.dg0 _<|abY _];decide);omega
 |k+1,l,s,h=>by
  have a:=bQ.cls b k E;rcases h with rfl|⟨j,f,rfl⟩;exact a 0 (.inl W);by_cases c:j<k;exact a _<|.inr ⟨j,c,W⟩;obtain rfl:j=k:=E;obtain⟨i,g⟩:=hm.adC b (show j<us.length from E) a;have o:=hm.out (show j<us.length from E);by_cases hi:(au us j).kind=bk;have:=hm.XD (show j<us.length from E) hi;exact .inl E;by_cases e:(au us j).kind=jN;exact .inl (i e).1;have d:(au us j).kind=dO:=by have:=(hm.val _<|hm.mem<|show j<us.length from E).kind;simp_all
  obtain⟨-,h|h|h⟩:=g d;exact .inl E;exact .inl E;exact .inr ⟨h.2.2.1,h.2.2.2,E⟩
end
def zg{y:Nat}:∀{l:L Nat},(∀x∈l,x<=10^y)->eI l<=10^(y*l.length)
 |[],_=>by simp[eI]
 |x::l,h=>by
  have:=zq (h x I)<|zg (l:=l) λz a=>h z<|by simp[a]
  exact ab7 this<|qy<|by rw[acC,Nat.mul_succ];omega
def Bc{α:Type}(f:α->Rat){z y:Nat}{l:L α}(h:∀a∈l,(f a).num.natAbs<=10^z)(k:eI (l.map λa=>(f a).den)<=10^y):∀a∈l,∃b:Int,f a*((eI (l.map λa=>(f a).den):Nat):Rat)=b/\b.natAbs<=10^(z+y):=λa e=>by
 have j:=vA<|ahC (f:=λa=>(f a).den) e;have c:0<eI (l.map λa=>(f a).den):=pP λx i=>by obtain⟨b,-,rfl⟩:=ab4.1 i;exact(f b).den_pos
 obtain⟨R,g⟩:=j;have d:=ab7 (Nat.le_of_dvd c ⟨(f a).den,by rw[g,aej]⟩) k;refine⟨(f a).num*R,?_,by rw[age];exact zq (h a e) d⟩;rw[g,aho,ahg,<-kr (f a)];grind
def RP{s:cj}{y:Nat}(h:je s y=true):(bp s).num.natAbs<=10^y/\(bp s).den<=10^y:=by have:=(vr h).2.lt;omega
def uH{n:Nat}{us:L bw}(h:∀u∈us,qD u=true)(s:Nat):((bC n us).getD s 0).num.natAbs<=10^6/\((bC n us).getD s 0).den<=10^6:=by
 rcases aef s (bC n us).length with g|g;exact s6 (A:=λq=>q.num.natAbs<=10^6/\q.den<=10^6) gC (λu hu=>RP (iB<|h u hu).1) _<|aN g;have e:(bC n us).getD s 0=0:=by grind
 rw[e];decide
def Ls{n:Nat}{us:L bw}(h:∀u∈us,1<=u.out):(bC n us).getD 0 0=0:=by
 have:∀(l:L bw)(o:L Rat),(∀u∈l,1<=u.out)->o.getD 0 0=0->(l.foldl (λ(o:L Rat)u=>o.set u.out.toNat<|bp u.k) o).getD 0 0=0:=by
  intro l
  induction l with
  |nil=>intro o _ h;exact h
  |cons u l a=>intro o hl c;exact a _ (λv b=>hl v<|by simp[b]) (by grind)
 exact this us _ h (by grind)
def OK{n:Nat}{us:L bw}(b:∀u∈us,0<=u.out/\u.out.toNat<n)(hi:∀i j,∀f:i<us.length,∀e:j<us.length,us[i].out.toNat=us[j].out.toNat->i=j){i:Nat}(h:i<us.length):(bC n us).getD us[i].out.toNat 0=bp us[i].k:=by
 have:∀j,j<=us.length->((us.take j).foldl (λ(o:L Rat)u=>o.set u.out.toNat<|bp u.k)<|List.replicate n 0).length=n/\(i<j->((us.take j).foldl (λ(o:L Rat)u=>o.set u.out.toNat<|bp u.k)<|List.replicate n 0).getD us[i].out.toNat 0=bp us[i].k):=by
  intro j
  induction j with
  |zero=>intro _;simp_all
  |succ j a=>
   intro d;rw[adY E];by_cases c:i=j;subst c;grind;have:=hi i j h E
   grind
 have:=(this _ .refl).2 h;rwa[aed]at this
def Xo(us:L bw)(n:Nat)(u:bw):Nat:=
 if u.kind=jN then eI (u.ai.map λf=>(bp f.dQ).den)
 else if u.kind=dO/\u.c8.length<=3 then(bp (u.ai.getD 0 default).dQ).den*((bC n us).getD (u.ai.getD 0 default).sh.toNat 0).den*eI (u.c8.map λc=>(bp c).den)*(bp u.k).den
 else 1
def Ol(u:bw):Nat:=if u.kind=jN then 28 else if u.kind=dO/\u.c8.length<=3 then 28 else 0
def YL(u:bw):Nat:=if u.kind=bk then(bp u.k).den else 1
def B0(us:L bw):Nat:=eI<|(List.range us.length).map λj=>YL<|au us j
def x0(us:L bw):Nat:=7+((List.range us.length).map λj=>if(au us j).kind=bk then 6 else 0).sum
def BK(us:L bw)(n:Nat):Nat->Nat
 |0=>B0 us
 |k+1=>BK us n k*Xo us n (au us k)
def xK(us:L bw):Nat->Nat
 |0=>x0 us
 |k+1=>xK us k+Ol (au us k)
def U3(us:L bw):∀k,7<=xK us k
 |0=>by unfold xK x0;omega
 |k+1=>by have:=U3 us k;unfold xK;omega
section
variable{us:L bw}{n m:Nat}(hm:bQ us n)
include hm
theorem bQ.dQ{u:bw}(hu:u∈us){f:GJ}(hf:f∈u.ai):(bp f.dQ).num.natAbs<=10^3/\(bp f.dQ).den<=10^3:=RP<|(iB<|hm.PS _ hu).2.2.2 f hf
def bQ.cur{u:bw}(hu:u∈us){c:cj}(hc:c∈u.c8):(bp c).num.natAbs<=10^3/\(bp c).den<=10^3:=RP<|(iB<|hm.PS _ hu).2.2.1 c hc
def bQ.stk{u:bw}(hu:u∈us):(bp u.k).num.natAbs<=10^6/\(bp u.k).den<=10^6:=RP (iB<|hm.PS _ hu).1
def bQ.sO{k:Nat}(c:k<us.length):(bC n us).getD (au us k).out.toNat 0=bp (au us k).k:=by rw[hm.eq c];exact OK (λu hu=>by have:=(hm.val u hu).out;omega) (λi j b a e=>hm.inj b a (by have:=(hm.val _<|ab3 b).out;have:=(hm.val _<|ab3 a).out;omega)) _
def bQ.XL{u:bw}(hu:u∈us)(y:Nat)(hl:u.c8.length<=y):eI (u.c8.map λc=>(bp c).den)<=10^(3*y)/\0<eI (u.c8.map λc=>(bp c).den):=by refine⟨ab7 (zg (y:=3) λx a=>?_)<|qy<|md,pP λx a=>?_⟩;obtain⟨c,hc,rfl⟩:=ab4.1 a;exact(hm.cur hu hc).2;obtain⟨c,hc,rfl⟩:=ab4.1 a;exact(bp c).den_pos
def bQ.fcP{k:Nat}(i:k<us.length):0<Xo us n (au us k)/\Xo us n (au us k)<=10^Ol (au us k):=by
 have hu:=hm.mem i;have e:=(hm.val _ hu).uI;unfold Xo Ol;split;rename_i l;have g:(au us k).ai.length<=8:=by unfold jO Bq at e;omega
 refine⟨pP λx d=>?_,ab7 (zg (y:=3) λx d=>?_)<|qy<|md⟩;obtain⟨c,hc,rfl⟩:=ab4.1 d;exact(bp c.dQ).den_pos;obtain⟨c,hc,rfl⟩:=ab4.1 d;exact(hm.dQ hu hc).2;split;rename_i h;obtain⟨a,b⟩:=hm.XL hu 3 h.2;have f:(au us k).ai.getD 0 default∈(au us k).ai:=aN (by have:=((hm.val _ hu).table h.1).1;omega);have j:=(uH hm.PS (n:=n) ((au us k).ai.getD 0 default).sh.toNat).2;refine⟨aeB (aeB (aeB (Rat.den_pos _)<|Rat.den_pos _) b)<|Rat.den_pos _,ab7 (zq (zq (zq ((hm.dQ hu f).2) j) a)<|(hm.stk hu).2)<|qy E⟩;exact⟨gC,gC⟩
def bQ.B0P:0<B0 us/\B0 us<=10^(x0 us-7)/\7<=x0 us/\∀k,k<us.length->(au us k).kind=bk->(bp (au us k).k).den∣B0 us:=by
 have a:∀j,0<YL (au us j):=λj=>by unfold YL;split;exact Rat.den_pos _;decide
 have g:∀l:L Nat,(∀j∈l,j<us.length)->eI (l.map λj=>YL<|au us j)<=10^(l.map λj=>if(au us j).kind=bk then 6 else 0).sum:=by
  intro l
  induction l with
  |nil=>intro _;simp[eI]
  |cons j l b=>intro h;have o:=b λi hi=>h i (by simp[hi]);rw[ad3,ad3,ajM];refine zq ?_ o;unfold YL;split;exact(hm.stk<|hm.mem<|h j I).2;decide
 refine⟨pP λx c=>?_,?_,by unfold x0;omega,λk d hi=>?_⟩;obtain⟨j,-,rfl⟩:=ab4.1 c;exact a j;have:=g _ λj e=>aec.1 e;unfold x0;rwa[ajr];have:=vA<|ahC (f:=λj=>YL<|au us j)<|aec.2 d;unfold YL at this;rwa[abx hi]at this
def bQ.BKP:∀k,k<=us.length->0<BK us n k/\BK us n k<=10^(xK us k-7)/\B0 us∣BK us n k
 |0,_=>⟨hm.B0P.1,hm.B0P.2.1,Nat.dvd_refl _⟩
 |k+1,h=>by obtain⟨a,b,c⟩:=bQ.BKP k E;obtain⟨d,e⟩:=hm.fcP (show k<us.length from E);have:=U3 us k;exact⟨aeB a d,ab7 (zq b e)<|qy<|by show xK us k-7+Ol _<=xK us k+Ol _-7;omega,Nat.dvd_trans c<|Nat.dvd_mul_right _ _⟩
end
def GG.mono{D x y m:Nat}{st:Rat}{p:L aZ}(h:GG D x m st p)(c:x<=y):GG D y m st p:=by obtain⟨q,a,b⟩:=h;exact⟨q,a,b.mono c⟩
def GG.to{D E x m:Nat}{st:Rat}{p:L aZ}(h:GG D x m st p)(e:D=E):GG E x m st p:=e▸h
def SD(us:L bw)(n m k s:Nat):Prop:=GG (BK us n k^(lQ us n s).toNat) (xK us k*(lQ us n s).toNat) m ((bC n us).getD s 0)<|(mb us n m).getD s []
section
variable{us:L bw}{n m:Nat}(hm:bQ us n)
include hm
theorem SD.next{k s:Nat}(h:SD us n m k s)(hk:k<us.length):SD us n m (k+1) s:=by obtain⟨a,b⟩:=hm.fcP hk;have:=GG.up h (y:=Ol (au us k)*(lQ us n s).toNat) (ae9 a)<|Mb b;rwa[<-Nat.mul_pow,<-aer]at this
def bQ.sd0:SD us n m 0 0:=by
 have b:lQ us n 0=1:=by unfold lQ;exact hm.dg0 _ .refl
 unfold SD;rw[b,hm.acv,Ls λu hu=>(hm.val u hu).out.1];refine⟨iN 0 m,λg=>by rw[lD,jD];grind,?_⟩;have a:B0 us<=10^x0 us:=ab7 hm.B0P.2.1<|qy E;refine⟨by simpa[BK]using hm.B0P.1,by simpa[BK,xK]using a,(B0 us:Int),0,?_,U,?_⟩;show _*_=_;rw[ahg];simp[BK];simpa[xK]using a
def bQ.aeK{k:Nat}(d:k<us.length)(hi:(au us k).kind=bk)(hc:m=aW us):SD us n m (k+1) (au us k).out.toNat:=by
 obtain⟨a,b,c⟩:=hm.BKP (k+1) E;have p:lQ us n (au us k).out.toNat=1:=by have:=hm.XD d hi;have:=hm.R6 (k+1) E _<|.inr ⟨k,E,W⟩;omega
 obtain⟨R,f⟩:=Nat.dvd_trans (hm.B0P.2.2.2 k d hi) c;obtain⟨h,q⟩:=hm.stk<|hm.mem d;have r:=U3 us<|k+1;unfold SD;rw[p,hm.acu d hi,hm.sO d];have o:BK us n (k+1)^Int.toNat 1=BK us n (k+1):=Nat.pow_one _;have l:xK us (k+1)*Int.toNat 1=xK us (k+1):=Nat.mul_one _;rw[o,l];have e:R<=10^(xK us (k+1)-7):=ab7 (Nat.le_of_dvd a ⟨(bp (au us k).k).den,by rw[f,aej]⟩) b;refine⟨iN (fN us ((aA us).getD k 0).toNat+1) m++cZ (-bp (au us k).k) m,λg=>by rw[lD,lD,jD,jD];grind,a,ab7 b<|qy E,?_⟩;have j:NP (BK us n<|k+1) (BK us n<|k+1) (iN (fN us ((aA us).getD k 0).toNat+1) m):=by refine⟨(BK us n (k+1):Int),0,?_,U,I⟩;rw[ahg];grind
 have i: -bp (au us k).k*((BK us n (k+1):Nat):Rat)=((-(bp (au us k).k).num*R:Int):Rat):=by rw[f,aho,Rat.intCast_neg,ahg,<-kr (bp (au us k).k)];grind
 refine(NP.app (NP.const i m) j).le ?_;rw[age,Int.natAbs_neg,ahW];have v:=zq h e;have u:10^(6+(xK us (k+1)-7))=10^(xK us (k+1)-1):=by congr 1;omega
 have t:10^(xK us (k+1)-7)<=10^(xK us (k+1)-1):=qy E;have s:10^xK us (k+1)=10^(xK us (k+1)-1)*10:=by rw[<-agS];congr 1;omega
 omega
end
def NX.to{D E x:Nat}{p:L aZ}(h:NX D x p)(e:D=E):NX E x p:=e▸h
section
variable{us:L bw}{n m:Nat}(hm:bQ us n)
include hm
theorem bQ.VF{k:Nat}(hk:k<us.length)(hi:(au us k).kind≠bk):(mb us n m).getD (au us k).out.toNat []=if(au us k).kind=jN then Dw (fB us n m k) (bC n us) m (au us k)else Vl (fB us n m k) m (au us k):=by
 have hko:k<(aA us).length:=bZ
 have ho:=hm.out hk;have e0:us.getD ((aA us)[k]).toNat default=au us k:=by unfold au;rw[az hko]
 rw[hm.shP (k:=k+1) E<|.inr ⟨k,E,W⟩,mY hko];unfold mu;rw[e0];have hkd:=(hm.val _<|hm.mem hk).kind;split;rw[gL<|f9,abx W];rw[abx gn,gL<|f9,abx W]
def bQ.OV{k s:Nat}(f:k<us.length)(e:UR us k s)(h:SD us n m k s){d:Nat}(c:(lQ us n s).toNat<=d):GG (BK us n k^d) (xK us k*d) m ((bC n us).getD s 0) ((fB us n m k).getD s []):=by obtain⟨a,b,-⟩:=hm.BKP k E;rw[<-hm.shP E e];have:=GG.up h (y:=xK us k*(d-(lQ us n s).toNat)) (ae9 a)<|Mb<|ab7 b<|qy E;rwa[<-aga,<-aiU,Nat.add_sub_cancel' c]at this
def bQ.aeL{k:Nat}(j:k<us.length)(l:(au us k).kind=jN)(M:lQ us n (au us k).out.toNat<=2)(C:∀s,UR us k s->lQ us n s<=2->SD us n m k s):SD us n m (k+1) (au us k).out.toNat:=by
 have hi:(au us k).kind≠bk:=by rw[l];decide
 have p:bU (au us k)=(au us k).ai:=d9
 have q:iI (au us k)=1:=by unfold iI;rw[abl<|by rw[l];decide]
 have hu:=hm.mem j;have o:=(hm.val _ hu).uI;have r:(au us k).ai.length<=8:=by unfold jO Bq J2 at o;omega
 obtain⟨a,b,-⟩:=hm.BKP k E;obtain⟨B,N⟩:=hm.fcP j;have t:Xo us n (au us k)=eI ((au us k).ai.map λf=>(bp f.dQ).den):=by unfold Xo;rw[abx l]
 have H:Ol (au us k)=28:=by unfold Ol;rw[abx l]
 have g:eI ((au us k).ai.map λf=>(bp f.dQ).den)<=10^24:=ab7 (zg (y:=3) λx v=>by obtain⟨c,hc,rfl⟩:=ab4.1 v;exact(hm.dQ hu hc).2) (qy<|md)
 have w:=hm.R6 (k+1) E _<|.inr ⟨k,E,W⟩;have h:∀f∈(au us k).ai,UR us k f.sh.toNat/\lQ us n f.sh.toNat<=lQ us n (au us k).out.toNat:=λf i=>by have:=hm.adu j hi i;rw[q,Int.mul_one]at this;exact⟨hm.mK j<|by rw[p];exact i,this⟩
 obtain⟨d,K⟩:∃d,(lQ us n (au us k).out.toNat).toNat=d:=⟨_,W⟩;have A:=Yn (ps:=fB us n m k) (st:=bC n us) (u:=au us k) (D:=BK us n k^d) (F:=Xo us n<|au us k) (x:=xK us k*d) (y:=27) (m:=m) r (ae9 a) (Mb<|ab7 b<|qy E) B (by rw[t];exact ab7 g<|qy gC)
  (λf i=>hm.OV j (h f i).1 (C _ (h f i).1 (by have:=(h f i).2;omega)) (by have:=(h f i).2;omega))
  (by rw[t];exact Bc (λf:GJ=>bp f.dQ) (z:=3) (y:=24) (λf i=>(hm.dQ hu i).1) g)
 unfold SD;rw[hm.VF j hi,abx l,hm.sO j,K];have v:xK us (k+1)=xK us k+28:=by show xK us k+Ol (au us k)=_;rw[H]
 have J:BK us n (k+1)=BK us n k*Xo us n (au us k):=W;rw[J];rcases(E:d=1\/d=2)with e|e;subst e;exact(A.mono E).to (by rw[Nat.pow_one,Nat.pow_one,aej]);subst e;exact((A.up B (y:=24)<|by rw[t];exact g).mono E).to (by grind)
end
def Y7{xp i cs0:L aZ}{D x y m:Nat}{r st uk:Rat}{cs:L Rat}{C:Nat}(l:GG D x m st i)(he:SE xp (kP r i))(j:r.num.natAbs<=10^3/\r.den<=10^3)(d:st.num.natAbs<=10^6/\st.den<=10^6)(a:uk.num.natAbs<=10^6/\uk.den<=10^6)
 (p:0<C)(f:C<=10^y)(hc:∀c∈cs,∃b:Int,c*(C:Rat)=b/\b.natAbs<=10^y)(hn:cs≠[]):
 GG (C*(r.den*(D*st.den))^(cs.length-1)*uk.den) (y+(x+11)*(cs.length-1)+7) m uk (jj m xp cs):=by
 obtain⟨q,s,h⟩:=l;have u:NX _ (x+6) _:=((NX.const m d.1 d.2).up h.pos h.le).to (aej _ _) |>.mono E;have o:SE xp (kP r<|q++cZ st m):=λg=>by rw[he,yt,yt,s]
 obtain⟨T,k,e⟩:=OD o (((h.up st.den_pos d.2).app u).JA j.1 j.2) p f cs hc hn;have t:NX (C*(r.den*(D*st.den))^(cs.length-1)*uk.den) (y+(3+(x+6+1)+1)*(cs.length-1)+6) (cZ (-uk) m):=by have:=(NX.const m (by rw[aiu,Int.natAbs_neg];exact a.1)<|by rw[Rat.neg_den];exact a.2).up e.pos e.le;exact(this.to<|aej _ _).mono E
 refine⟨T++cZ _ m,λg=>by rw[k,lD,lD,jD,jD];grind,((e.up uk.den_pos a.2).app t).mono ?_⟩;have:3+(x+6+1)+1=x+11:=E;simp_all
section
variable{us:L bw}{n m:Nat}(hm:bQ us n)
include hm
theorem bQ.agm{k:Nat}(hk:k<us.length)(kt:(au us k).kind=dO){d:Nat}(hs:SD us n m k ((au us k).ai.getD 0 default).sh.toNat)(hd:(lQ us n ((au us k).ai.getD 0 default).sh.toNat).toNat=d):
 GG (eI ((au us k).c8.map λc=>(bp c).den)*((bp ((au us k).ai.getD 0 default).dQ).den*(BK us n k^d*((bC n us).getD ((au us k).ai.getD 0 default).sh.toNat 0).den))^((au us k).c8.length-1)*(bp (au us k).k).den)
  (3+3*(au us k).c8.length+(xK us k*d+11)*((au us k).c8.length-1)+7) m (bp (au us k).k) ((mb us n m).getD (au us k).out.toNat []):=by
 have hi:(au us k).kind≠bk:=by rw[kt];decide
 have hml:bU (au us k)=(au us k).ai:=d9
 have hu:=hm.mem hk;obtain⟨t1,t2,t3⟩:=(hm.val _ hu).table kt;have hfm:(au us k).ai.getD 0 default∈(au us k).ai:=aN E;have hdt:=hm.mK hk (by rwa[hml]);have h1:=hm.OV hk hdt hs (d:=d) E;obtain⟨c1,c2⟩:=hm.XL hu _ .refl;have h2:=Y7 (xp:=lY (fB us n m k)<|au us k) (cs0:=[]) (r:=bp ((au us k).ai.getD 0 default).dQ) (uk:=bp (au us k).k) (cs:=(au us k).c8.map bp) (C:=eI<|(au us k).c8.map λc=>(bp c).den) (y:=3+3*(au us k).c8.length)
  h1 (λg=>by unfold lY;rw[BV,yt]) (hm.dQ hu hfm) (uH hm.PS _) (hm.stk hu) c2 (ab7 c1<|qy E)
  (λc hc=>by obtain⟨s,hs,rfl⟩:=ab4.1 hc;exact Bc bp (z:=3) (y:=3*(au us k).c8.length) (λs hs=>(hm.cur hu hs).1) c1 s hs)
  (by intro e;have:=aal List.length e;simp at this;simp[this]at t2)
 rw[adZ]at h2;rwa[hm.VF hk hi,abl<|by rw[kt];decide]
def bQ.aeJ{k:Nat}(o:k<us.length)(i:(au us k).kind=dO)(V:aa8 us n k)(hd:lQ us n (au us k).out.toNat<=2)(J:∀s,UR us k s->lQ us n s<=2->SD us n m k s):SD us n m (k+1) (au us k).out.toNat:=by
 have hi:(au us k).kind≠bk:=by rw[i];decide
 have u:bU (au us k)=(au us k).ai:=d9
 have hu:=hm.mem o;obtain⟨t1,t2,t3⟩:=(hm.val _ hu).table i;have j:(au us k).ai.getD 0 default∈(au us k).ai:=aN E;have v:=hm.mK o (by rw[u];exact j);obtain⟨q1,F⟩:=V;obtain⟨a,b,-⟩:=hm.BKP k E;have w:(au us k).c8.length<=3:=E;have l:=hm.agm o i (m:=m) (J _ v E) W;obtain⟨c1,x⟩:=hm.XL hu 3 w;have r1:=(hm.dQ hu j).2;have r:=(uH hm.PS (n:=n) ((au us k).ai.getD 0 default).sh.toNat).2;have p:=(hm.stk hu).2;have r0:=(bp ((au us k).ai.getD 0 default).dQ).den_pos;have t:=((bC n us).getD ((au us k).ai.getD 0 default).sh.toNat 0).den_pos;have q:=(bp (au us k).k).den_pos;have T:Xo us n (au us k)=(bp ((au us k).ai.getD 0 default).dQ).den*((bC n us).getD ((au us k).ai.getD 0 default).sh.toNat 0).den*eI ((au us k).c8.map λc=>(bp c).den)*(bp (au us k).k).den:=by unfold Xo;rw[abl<|by rw[i];decide,abx ⟨i,w⟩]
 have O:Ol (au us k)=28:=by unfold Ol;rw[abl<|by rw[i];decide,abx ⟨i,w⟩]
 have N:xK us (k+1)=xK us k+28:=by show xK us k+Ol (au us k)=_;rw[O]
 have Y:BK us n (k+1)=BK us n k*Xo us n (au us k):=W;have z:BK us n k<=10^xK us k:=ab7 b<|qy E;unfold SD;rw[hm.sO o,Y,N,T];obtain⟨c3,-⟩:=hm.XL hu _<|abY (au us k).c8.length;generalize (mb us n m).getD (au us k).out.toNat []=P at*;generalize (bp ((au us k).ai.getD 0 default).dQ).den=R at*;generalize ((bC n us).getD ((au us k).ai.getD 0 default).sh.toNat 0).den=S at*;generalize eI ((au us k).c8.map λc=>(bp c).den)=C at*;generalize (bp (au us k).k).den=K at*;generalize BK us n k=B at*;generalize xK us k=X at*;generalize lQ us n ((au us k).ai.getD 0 default).sh.toNat=dx at*;generalize lQ us n (au us k).out.toNat=d at*;generalize (au us k).c8.length=f at*;have up:∀{D e:Nat}(g y:Nat),GG D e m (bp (au us k).k) P->0<g->g<=10^y->GG (D*g) (e+y) m (bp (au us k).k) P:=λg y h Z M=>h.up Z M;rcases F with⟨l2,x2,e⟩|⟨H,A,e⟩|⟨l4,-⟩;subst e;rcases(E:d=1\/d=2)with e|e<;>subst e<;>rcases(E:f=1\/f=2)with e|e<;>subst e;have:=up (B*(R*S)) (X+(3+6)) l (aeB a<|aeB r0 t)<|zq z<|zq r1 r;exact(this.mono<|by simp;omega).to (by simp;grind);exact(l.mono<|by simp;omega).to (by simp;grind);have:=up (B^2*((R*S)^2*(C*K))) (X*2+((3+6)*2+(3*1+6))) l (aeB (ae9 a)<|aeB (ae9<|aeB r0 t)<|aeB x q)<|zq (Mb z)<|zq (Mb<|zq r1 r)<|zq c3 p;exact(this.mono<|by simp;omega).to (by simp;grind);have:=up ((R*S)*(C*K)) ((3+6)+(3*2+6)) l (aeB (aeB r0 t)<|aeB x q)<|zq (zq r1 r)<|zq c3 p;exact(this.mono<|by simp;omega).to (by simp;grind);subst e A H;have:=up (C*K) (3*3+6) l (aeB x q)<|zq c3 p;exact(this.mono<|by simp;omega).to (by simp;grind);omega
def bQ.sd(f:wV us n 4=true)(hc:m=aW us):∀k,k<=us.length->∀s,UR us k s->lQ us n s<=2->SD us n m k s
 |0,_,s,h,_=>by rcases h with rfl|⟨j,o,-⟩;exact hm.sd0;omega
 |k+1,q,s,h,e=>by
  have d:=bQ.sd f hc k E;have a:k<us.length:=E;have b:=λg=>SD.next hm (d s g e) a;rcases h with rfl|⟨j,o,rfl⟩;exact b<|.inl W;by_cases c:j<k;exact b<|.inr ⟨j,c,W⟩;obtain rfl:j=k:=E;obtain⟨r,p⟩:=hm.adC f a<|hm.cls f j E;by_cases hi:(au us j).kind=bk;exact hm.aeK a hi hc;by_cases l:(au us j).kind=jN;exact hm.aeL a l e d;have i:(au us j).kind=dO:=by have:=(hm.val _<|hm.mem a).kind;simp_all
  exact hm.aeJ a i (p i) e d
end
section
variable{P:Program}
section
variable{α:Type}{t:TypeId}{G:α->Prop}{E:α->SV}
def gX(P:Program)(t:TypeId)(E:α->SV)(G:α->Prop):Prop:=
 ∀{H:Type}{enc:TypeId×Value->H}{w:World}{fuel:Nat}{cs:L Value}{x:DataW H×L MemPlace},DataW.trod enc P w 0 (λ_=>true) true fuel t cs=some x->
  ∃(a:α)(v:Value),G a/\cs=[v]/\v.oneCell'=true/\∀S:Nat->Prop,(∀b,b<w.heap.size->S b)->Rel w S (E a).den v []
def Yz(P:Program)(t:TypeId)(sz:Nat)(E:α->SV)(G:α->Prop):Prop:=
 ∀{H:Type}{enc:TypeId×Value->H}{w:World}{fuel:Nat}{cs:L Value}{x:DataW H×L MemPlace},DataW.trod enc P w 0 (λ_=>true) true fuel t cs=some x->
  ∃(a:α)(v:Value),G a/\cs=v.cells.toList/\v.cells.size=sz/\∀S:Nat->Prop,(∀b,b<w.heap.size->S b)->Rel w S (E a).den v []
def gX.wide(h:gX P t E G):Yz P t 1 E G:=λc=>by obtain⟨a,v,f,e,b,d⟩:=h c;exact⟨a,v,f,by rw[cells_one b];exact e,by rw[cells_one b];rfl,d⟩
def gX.map{b:Type}{d:b->SV}{c:b->Prop}(f:α->b)(he:∀a,(d<|f a).den=(E a).den)(g:∀a,G a->c (f a))(h:gX P t E G):gX P t d c:=λe=>by
 obtain⟨a,v,l,k,j,i⟩:=h e
 grind
def Tz(b:P.underlying t=some (.int .i64)):gX P t (λn:Int=>.i n) λ_=>True:=λa=>by obtain⟨n,rfl,-,-⟩:=DataW.trod_int b a;exact⟨n,_,U,W,W,λS c=>ep⟩
def H8(b:P.underlying t=some .string):gX P t (λs:cj=>.s s) λs=>s.length<2^63:=λa=>by obtain⟨s,rfl,-,hs⟩:=DataW.trod_string b a;refine⟨s.data.toList,_,?_,W,W,λS c=>by simp[SV.den,Rel,scalar,UD]⟩;show s.data.toList.length<_;rw[ahi];exact Nat.lt_succ_of_le hs
def Xy{w:World}{S:Nat->Prop}{sz:Nat}{cs:Array Value}:∀(X:L AV)(off:Nat),off+X.length*sz<=cs.size->(∀i(hi:i<X.length),∃v:Value,v.cells.size=sz/\(∀j,j<sz->cs[off+i*sz+j]?=v.cells[j]?)/\Rel w S X[i] v [])->
 dG w S sz X ((cs.toList.drop off).take<|X.length*sz) []
 |[],off,_,_=>by simp[dG]
 |x::X,off,a,h=>by
  rw[acC,aer]at a;obtain⟨v,d,f,c⟩:=h 0 (by simp);have b:=Xy (w:=w) (S:=S) (sz:=sz) (cs:=cs) X (off+sz) (by omega) λi hi=>by
   obtain⟨v,k1,k2,k3⟩:=h (i+1) (ce)
   grind
  refine⟨v,_,[],[],?_,W,d,c,b⟩;have e:(x::X).length*sz=sz+X.length*sz:=by grind
  apply aiz
  grind
def nR{e:TypeId}{sz:Nat}(d:α)(M:P.underlying t=some (.slice e))(hc:P.cellsOf e=sz)(s:0<sz)(h:Yz P e sz E G):
 gX P t (λl:L α=>.bm false sz d E l) λl=>l.length<2^63/\∀a∈l,G a:=λ{H enc w fuel cs x}K=>by
 rcases Deep.open_slice M K with⟨rfl,-⟩|⟨a,len,T,m,n,D,Pl,rfl,-,hl,hm,y,-,q⟩;exact⟨[],_,⟨by simp,by simp⟩,W,W,λS A=>by simp[SV.den,Rel,fl]⟩;subst y;by_cases R:m=0;subst R;have:len=0:=by omega
 subst this;exact⟨[],_,⟨by simp,by simp⟩,W,W,λS A=>by simp[SV.den,Rel,fl]⟩;have cell:∀i,i<m->∀j,j<sz->∃u,w.cell? ((a.add<|i*sz).add j)=some u:=λi hi j N=>by obtain⟨B,k1,-⟩:=q i hi;obtain⟨-,k2,k3⟩:=World.cells?_some k1;simp_all
 obtain⟨V,g⟩:=cell 0 (by omega) 0 s;have ea:(a.add<|0*sz).add 0=a:=by simp[Addr.add]
 obtain⟨b,c,k⟩:=a;have o:∃(row:Array Value)(J:TypeId)(r:Nat×Nat),w.heap[b]?=some (.cells row J r)/\k=none:=by unfold World.cell? at g;split at g;simp_all;cases g
 obtain⟨row,J,r,hh,rfl⟩:=o;have C:row? w b=some (row,r):=Cg hh;have O:b<w.heap.size:=by grind
 have z:∀i,i<m->∀j,j<sz->w.cell? (((⟨b,c,none⟩:Addr).add<|i*sz).add j)=row[c+i*sz+j]?:=λi hi j N=>by
  rw[Deep.add_add,cD W,oe W C]
  grind
 have F:c+m*sz<=row.size:=by
  obtain⟨u,hu⟩:=cell (m-1) (by omega) (sz-1) (by omega);rw[z (m-1) (by omega) (sz-1)<|by omega]at hu;have Z:=(ahP.1 hu).1;have e1:m*sz=(m-1)*sz+sz:=by
   have:m=(m-1)+1:=by omega
   grind
  omega
 haveI:Inhabited α:=⟨d⟩
 obtain⟨f,X⟩:=Deep.choose_lt (α:=α) (n:=len) (p:=λi a=>G a/\∃v:Value,v.cells.size=sz/\(∀j,j<sz->row[c+i*sz+j]?=v.cells[j]?)/\∀S:Nat->Prop,(∀b,b<w.heap.size->S b)->Rel w S (E a).den v []) λi hi=>by
  obtain⟨B,k1,k2⟩:=q i (by omega);obtain⟨-,k3,k4⟩:=World.cells?_some k1;obtain⟨a,v,g1,rfl,g3,g4⟩:=h k2
  grind
 refine⟨(List.range len).map f,_,⟨by simp[adZ,ajk];simp[maxLen]at hm;omega,λa Y=>?_⟩,W,W,λS A=>?_⟩
 grind
 simp only[SV.den,fl,Rel];refine .inr ⟨b,c,m,row,r,by simp,A b O,C,d8,?_,U⟩;refine Xy _ c ?_ λi hi=>?_;simp[adZ,ajk];have:len*sz<=m*sz:=ad6 _ hl;omega
 grind
def vW(P:Program)(t:TypeId)(sz:Nat)(E:α->SV)(G:α->Prop):Prop:=
 ∀{H:Type}{enc:TypeId×Value->H}{w:World}{fuel:Nat}{cs:L Value}{x:DataW H×L MemPlace},DataW.trod enc P w 0 (λ_=>true) true fuel t cs=some x->
  ∃a:α,G a/\cs.length=sz/\∀S:Nat->Prop,(∀b,b<w.heap.size->S b)->Rel w S (E a).den (.agg cs.toArray) []
def vW.wide{sz:Nat}(h:vW P t sz E G):Yz P t sz E G:=λ{H enc w _ cs x}b=>by obtain⟨a,e,d,c⟩:=h b;exact⟨a,.agg _,e,by simp[Value.cells],by simpa[Value.cells]using d,c⟩
end
section
variable{H:Type}{enc:TypeId×Value->H}{w:World}{fuel:Nat}{cs:L Value}{x:DataW H×L MemPlace}{t:TypeId}{fs:Array Field}
def jH(g:P.underlying t=some (.struct fs))(e:DataW.trod enc P w 0 (λ_=>true) true fuel t cs=some x){i:Nat}{f:Field}(j:fs[i]?=some f)(hc:P.cellsOf f.type=1){α:Type}{E:α->SV}{G:α->Prop}(h:gX P f.type E G):
 ∃(a:α)(v:Value),G a/\cs[f.offset]?=some v/\v.oneCell'=true/\∀S:Nat->Prop,(∀b,b<w.heap.size->S b)->Rel w S (E a).den v []:=by
 obtain⟨d,n,-,-,-,hl,hh⟩:=DataW.trod_struct g e;have hi:i<d.length:=by grind
 have c:=hh i f j;rw[ad7 hi,hc]at c;obtain⟨a,v,p,o,m,k⟩:=h c;refine⟨a,v,p,?_,m,k⟩;have:=aal (λl:List _=>l[0]?) o;simpa using this
def mV(b:P.underlying t=some (.struct fs))(a:DataW.trod enc P w 0 (λ_=>true) true fuel t cs=some x):cs.length=P.cellsOf t:=by obtain⟨c,n,-,-,h,-⟩:=DataW.trod_struct b a;exact h
end
def ee{w:World}{S:Nat->Prop}{one:Bool}{x:AV}{v:Value}{xs:L AV}{a:L Value}(d:v.oneCell'=true)(c:Rel w S x v [])(b:Cells w S one xs a []):Cells w S one (x::xs) (v::a) []:=by simp only[Cells];grind
def sJ{w:World}{S:Nat->Prop}{one:Bool}:Cells w S one [] [] []:=by simp[Cells]
def wc{w:World}{S:Nat->Prop}{xs:L AV}{a:L Value}(h:Cells w S true xs a []):Rel w S (.agg xs) (.agg a.toArray) []:=by simp[Rel];simp_all
def uQ{H:Type}{enc:TypeId×Value->H}{a f:World}{t:TypeId}(hl:laidOutB P=true)(g:P.readableRec t=true)(j:t<P.types.size)(k:Below a.heap.size a f){n:Nat}{cs:L Value}{x:DataW H×L MemPlace}
 (h:DataW.trod enc P a 0 (λ_=>true) true n t cs=some x):DataW.trod enc P f 0 (λb=>decide (b<a.heap.size)) true n t cs=some x:=
 have c:=DataW.trod_lt n t cs x h
 DataW.trod_stays (kids_book hl g) (book_sized g) (λh=>by cases h) ⟨j,book_self t⟩ h
  (λp d=>by
    have e:=k.block _<|c p d;cases p with
    |cell b i=>simp[World.sameAt,World.cell?];rw[show f.heap[b]?=a.heap[b]?from e]
    |map b=>exact e)
  λp d=>by simpa using c p d
end
abbrev AN{α:Type}(l:L α):Prop:=l.length<2^63
def o3:gX prog 3 (λn:Int=>.i n) λ_=>True:=Tz underlying3
def o46:gX prog 42 (λs:cj=>.s s) AN:=H8 underlying42
def o9:gX prog 9 (λs:cj=>.s s) AN:=H8 underlying9
def o79:vW prog 72 2 uy λf=>AN f.dQ:=λ{H j w _ e x}c=>by
 obtain⟨a,n,-,l,h,r0⟩:=jH underlying72 c (i:=0) W aP o3;obtain⟨b,m,g1,k,g,r1⟩:=jH underlying72 c (i:=1) W aP o46;have hl:e.length=2:=(mV underlying72 c).trans aP
 match e,hl with
 |[_,_],hl=>cases l;cases k;exact⟨⟨a,b⟩,g1,hl,λS d=>wc<|ee h (r0 S d)<|ee g (r1 S d) sJ⟩
def o67:vW prog 44 2 fc λs=>AN s.lo/\AN s.hi:=λ{H j w _ e x}c=>by
 obtain⟨a,n,h,l,g,r0⟩:=jH underlying44 c (i:=0) W aP o46;obtain⟨b,m,g1,k,f,r1⟩:=jH underlying44 c (i:=1) W aP o46;have hl:e.length=2:=(mV underlying44 c).trans aP
 match e,hl with
 |[_,_],hl=>cases l;cases k;exact⟨⟨a,b⟩,⟨h,g1⟩,hl,λS d=>wc<|ee g (r0 S d)<|ee f (r1 S d) sJ⟩
def o28:vW prog 51 4 oc λ_=>True:=λ{H o w _ g x}e=>by
 obtain⟨a,y,-,s,n,r0⟩:=jH underlying51 e (i:=0) W aP o3;obtain⟨b,v,-,r,m,r1⟩:=jH underlying51 e (i:=1) W aP o3;obtain⟨c,u,-,q,l,j⟩:=jH underlying51 e (i:=2) W aP o3;obtain⟨d,t,-,p,k,h⟩:=jH underlying51 e (i:=3) W aP o3;have hl:g.length=4:=(mV underlying51 e).trans aP
 match g,hl with
 |[_,_,_,_],hl=>cases s;cases r;cases q;cases p;exact⟨⟨a,b,c,d⟩,U,hl,λS f=>wc<|ee n (r0 S f)<|ee m (r1 S f)<|ee l (j S f)<|ee k (h S f) sJ⟩
def o45:gX prog 66 (λl=>aj5 l) λl=>AN l/\∀f∈l,AN f.dQ:=nR _ underlying66 aP gC o79.wide
def o47:gX prog 67 (λl=>.strs false l) λl=>AN l/\∀c∈l,AN c:=gX.map id (λ_=>rfl) (λ_ h=>h)<|nR [] underlying67 aP gC<|gX.wide o46
def o23:gX prog 23 (λl=>gm l) λl=>AN l:=gX.map id (λ_=>rfl) (λ_ h=>h.1)<|nR 0 underlying23 aP gC<|gX.wide o3
def o26:gX prog 26 (λl=>aj2 l) λl=>AN l/\∀s∈l,AN s.lo/\AN s.hi:=nR _ underlying26 aP gC o67.wide
def o49:vW prog 69 5 fb UOk:=λ{H t w _ j x}f=>by
 obtain⟨a,J,-,A,r,r0⟩:=jH underlying69 f (i:=0) W aP o9;obtain⟨b,F,g1,z,q,r1⟩:=jH underlying69 f (i:=1) W aP o45;obtain⟨c,D,-,y,p,m⟩:=jH underlying69 f (i:=2) W aP o3;obtain⟨d,C,s,v,o,l⟩:=jH underlying69 f (i:=3) W aP o46;obtain⟨e,B,h,u,n,k⟩:=jH underlying69 f (i:=4) W aP o47;have hl:j.length=5:=(mV underlying69 f).trans aP
 match j,hl with
 |[_,_,_,_,_],hl=>cases A;cases z;cases y;cases v;cases u;exact⟨⟨a,b,c,d,e⟩,⟨g1.1,g1.2,s,h.1,h.2⟩,hl,λS g=>wc<|ee r (r0 S g)<|ee q (r1 S g)<|ee p (m S g)<|ee o (l S g)<|ee n (k S g) sJ⟩
def o22:gX prog 22 (λl=>aj3 l) λl=>AN l/\∀u∈l,UOk u:=nR _ underlying22 aP gC o49.wide
def o25:vW prog 25 3 bV uC:=λ{H l w _ f x}d=>by
 obtain⟨a,r,-,o,k,r0⟩:=jH underlying25 d (i:=0) W aP o3;obtain⟨b,q,g1,n,j,r1⟩:=jH underlying25 d (i:=1) W aP o22;obtain⟨c,p,g2,m,h,g⟩:=jH underlying25 d (i:=2) W aP o23;have hl:f.length=3:=(mV underlying25 d).trans aP
 match f,hl with
 |[_,_,_],hl=>cases o;cases n;cases m;exact⟨⟨a,b,c⟩,⟨g1.1,g1.2,g2⟩,hl,λS e=>wc<|ee k (r0 S e)<|ee j (r1 S e)<|ee h (g S e) sJ⟩
end Go.Ai
namespace Go.Ai.bI
section
variable{l:L Int}{m n:Nat}
def B9:Nat:=2^64
def ah(n:Nat):L Int:=if h:n=0 then[]else((n%B9:Nat):Int)::ah (n/B9)
 termination_by n
 decreasing_by exact ahu (ahD h) gC
def val:L Int->Int
 |[]=>0
 |d::l=>d+2^64*val l
def ji(l:L Int):Prop:=∀d∈l,0<=d/\d<2^64
def dj:ah 0=[]:=by rw[ah];simp
def bF(n:Nat):val (ah n)=n:=zag
def bP(n:Nat):ji (ah n):=zae
def bK:∀{l:L Int},ji l->0<=val l
 |[],_=>by simp[val]
 |d::l,h=>zas
def fV(l:L Int)(d:Int):val (l++[d])=val l+d*18446744073709551616^l.length:=zaA
def jq:∀{l:L Int},ji l->val l<18446744073709551616^l.length
 |[],_=>by simp[val]
 |d::l,h=>zat
def vF:∀{l:L Int},ji l->l.getLast?≠some 0->ah (val l).toNat=l
 |[],_,_=>by simp[val,dj]
 |d::l,h,e=>zaa
def tU(h:ji l)(a:l.getLast?≠some 0)(b:val l=n):l=ah n:=by have:=vF h a;grind
def sx(n:Nat):(ah n).getLast?≠some 0:=zac
def aM(l:L Int)(i:Nat):val (l.take<|i+1)=val (l.take i)+l.getD i 0*18446744073709551616^i:=zax
def bB(h:ji l)(i:Nat):0<=l.getD i 0/\l.getD i 0<2^64:=zaC
def eK(n:Nat):(0:Int)<18446744073709551616^n:=Int.pow_pos gC
def tJ(h:ji l)(hl:l.getLast?≠some 0):l=[]\/18446744073709551616^(l.length-1)<=val l:=by rcases ajQ l with rfl|⟨l,d,rfl⟩;exact .inl W;rw[ajR]at*;rw[fV];have e:=bK (l:=l) λx a=>h x (by simp[a]);have c:=h d I;simp at hl;simp;have b:=eK l.length;have:1*18446744073709551616^l.length<=d*18446744073709551616^l.length:=ahM E E;omega
def iv(n:Nat):ah n=[]\/(18446744073709551616:Int)^((ah n).length-1)<=n:=by have:=tJ (bP n)<|sx n;rwa[bF]at this
def dC:L Int->L Int
 |[]=>[]
 |d::l=>match dC l with
  |[]=>if d=0 then[]else[d]
  |x::r=>d::x::r
def nM:∀l:L Int,dC (l++[0])=dC l
 |[]=>by simp[dC]
 |d::l=>by simp[dC,nM l]
def pF:∀{l:L Int},l.getLast?≠some 0->dC l=l
 |[],_=>rfl
 |[d],h=>by simp at h;simp[dC,h]
 |d::x::l,h=>by have:=pF (l:=x::l) h;rw[dC,this]
def xv{w:L Int}(hn:n+1=w.length)(h:w.getD n 0=0):dC (w.take n)=dC w:=zam
def rJ:∀l:L Int,val (dC l)=val l
 |[]=>rfl
 |d::l=>zaf
def fk(h:ji l):dC l=ah (val l).toNat:=zab
def iT(l:L Int)(k:Nat):val l=val (l.take k)+18446744073709551616^(l.take k).length*val (l.drop k):=zaj
def iw(h:ji l)(k:Nat):ji (l.take k):=λx a=>h x<|ahv a
def bT(n:Nat):(n:Int)<18446744073709551616^(ah n).length:=by have:=jq<|bP n;rwa[bF]at this
def gU(h:n≠0):0<(ah n).length:=by rw[ah,dif_neg h];simp
def ju{a b:Nat}(h:a<=b):(18446744073709551616:Int)^a<=18446744073709551616^b:=by obtain⟨k,rfl⟩:=Nat.exists_eq_add_of_le h;rw[ahR];have c:=eK k;have:=agh (show(1:Int)<=18446744073709551616^k from E)<|af7<|eK a;omega
def cX(h:(ah m).length<(ah n).length):m<n:=by have c:=bT m;rcases iv n with a|a;rw[a]at h;cases h;have b:(18446744073709551616:Int)^(ah m).length<=18446744073709551616^((ah n).length-1):=ju E;omega
def qn(m n:Nat):Int:=if m<n then -1 else if n<m then 1 else 0
def nW{k:Nat}(d:k<(ah m).length)(hl:(ah m).length=(ah n).length)(e:(ah m).drop (k+1)=(ah n).drop (k+1))(h:(ah m).getD k 0<(ah n).getD k 0):m<n:=by
 have b:=iT (ah m)<|k+1;have a:=iT (ah n)<|k+1;rw[bF,aM]at b a;have g:=jq<|iw (bP m) k;have f:=bK<|iw (bP n) k;have c:=eK k;have:((ah m).getD k 0+1)*18446744073709551616^k<=(ah n).getD k 0*(2^64)^k:=ahM E E
 grind
def mf:∀{l:L Int}{j:Nat}(y:Int),j<l.length->val (l.set j y)=val l+(y-l.getD j 0)*18446744073709551616^j
 |[],j,y,h=>by cases h
 |d::l,0,y,_=>by simp[val];omega
 |d::l,j+1,y,h=>zaP
def fS(h:ji l){j:Nat}{y:Int}(b:0<=y/\y<2^64):ji (l.set j y):=zaD
def dF(l:L Int)(j k:Nat)(y:Int):(l.set j y).getD k 0=if j=k/\k<l.length then y else l.getD k 0:=by grind
def jE(n:Nat):val (List.replicate n 0)=0:=zaG
def gI(n:Nat):ji (List.replicate n 0):=λx a=>gn
def jc(n k:Nat):(List.replicate n (0:Int)).getD k 0=0:=by grind
end
def dH:Nat->Int->Int->Int->Int->Int->Int
 |0,t,_,_,_,_=>t
 |k+1,t,r,v1,v2,u2=>if 2^64<=t\/r*2^64+u2<t*v2 then(if 2^64<=r+v1 then t-1 else dH k (t-1) (r+v1) v1 v2 u2)else t
def iW{a b c:Int}(h:a<=b)(hc:0<=c):a*c<=b*c:=ahM h hc
def vp{v1 v2 u2 f P g s U V:Int}(q:0<P)(n:1<=v1)(u:0<=v2/\v2<18446744073709551616)(v:0<=u2/\u2<18446744073709551616)(m:0<=g/\g<P)(H:0<=s/\s<P)
 (C:V=v1*(18446744073709551616*P)+v2*P+g)(S:U=f*(18446744073709551616*P)+u2*P+s)(M:U<18446744073709551616*V):
 ∀(k:Nat)(t r:Int),k=t.toNat->0<=t->0<=r->t*v1+r=f->U<(t+1)*V->U<(dH k t r v1 v2 u2+1)*V/\(dH k t r v1 v2 u2-1)*V<=U/\0<=dH k t r v1 v2 u2/\dH k t r v1 v2 u2<=t:=by
 have F:v2*P+g<2^64*P:=by
  have:=iW (show v2+1<=(2^64) from E)<|af7 q
  grind
 have z:0<=v2*P:=agy u.1 E;have w:0<V:=by have:=iW n (show 0<=18446744073709551616*P from E);omega
 have A:f<2^64*v1+2^64:=by
  have x:f*(2^64*P)<(2^64*v1+2^64)*(2^64*P):=za2
  exact aiK x E
 have i:∀t r:Int,0<=t->t<2^64->t*v1+r=f->t*v2<=r*18446744073709551616+u2->(t-1)*V<=U:=by
  intro t r l x h j;have R:t*V=t*v1*(18446744073709551616*P)+t*v2*P+t*g:=by rw[C];grind
  have O:t*v1*(18446744073709551616*P)=f*(18446744073709551616*P)-r*18446744073709551616*P:=l0
  have y:=iW j<|af7 q;rw[ahS]at y;have N:t*g<=18446744073709551616*P:=zaH
  have T:=iW n (show 0<=18446744073709551616*P from E)
  grind
 have less:∀t r:Int,0<=t->t*v1+r=f->(18446744073709551616<=t\/r*18446744073709551616+u2<t*v2)->U<t*V:=by
  intro t r l h j;rcases j with j|j
  ·have:=iW j<|af7 w;omega
  have R:t*V=t*v1*(18446744073709551616*P)+t*v2*P+t*g:=by rw[C];grind
  have O:t*v1*(18446744073709551616*P)=f*(18446744073709551616*P)-r*18446744073709551616*P:=l0
  have y:=iW (show r*18446744073709551616+u2+1<=t*v2 from E)<|af7 q;rw[ahS,ahS]at y;have N:0<=t*g:=agy l m.1;omega
 intro k
 induction k with
 |zero=>intro t r K l J h B;have:t=0:=E;subst this;simp only[dH];refine⟨B,?_,E,E⟩;exact i 0 r E E h E
 |succ k D=>
  intro t r K l J h B;simp[dH];by_cases hc:18446744073709551616<=t\/r*18446744073709551616+u2<t*v2
  ·rw[abx hc];have hl:=less t r l h hc;have p:(t-1)*v1+(r+v1)=f:=by rw[aiL];omega
   by_cases o:18446744073709551616<=r+v1
   ·rw[abx o];have e:t-1+1=t:=E;rw[e];refine⟨hl,?_,E,E⟩;have hs:t-1<18446744073709551616:=by
     have:(t-1)*v1<18446744073709551616*v1:=E;exact aiK this E
    refine i (t-1) (r+v1) E hs p ?_;have a:(t-1)*v2<=(t-1)*18446744073709551616:=agh E E;omega
   rw[abl o];have e:t-1+1=t:=E;let⟨a,b,c,d⟩:=D (t-1) (r+v1) E E E p (by rw[e];exact hl);omega
  grind
def fO{w:L Int}{j k:Nat}{y:Int}(h:j<=k):(w.set k y).take j=w.take j:=by rw[List.take_set_of_le h]
def j7{f:Nat}(c:0<f)(b:f<2^64):ah f=[(f:Int)]:=zau
def pY{m n K:Nat}(b:(ah m).length<=K)(a:(ah n).length<=K):(ah<|m+n).length<=K+1:=zad
def eW(m n:Nat):(ah<|m*n).length<=(ah m).length+(ah n).length:=by rcases iv _ with g|g;rw[g];simp;have g1:=bT m;rcases aef ((ah m).length+(ah n).length) (ah<|m*n).length with h|h;have a:=ju (show(ah m).length+(ah n).length<=(ah<|m*n).length-1 from E);rw[ahR]at a;have c:(m:Int)*n<=18446744073709551616^(ah m).length*n:=iW E E;have b:(18446744073709551616:Int)^(ah m).length*n<18446744073709551616^(ah m).length*18446744073709551616^(ah n).length:=Int.mul_lt_mul_of_pos_left (bT n)<|eK _;omega;exact h
def nr(a b:Nat):(ah<|a/b).length<=(ah a).length:=zan
def length_le{m n:Nat}(h:m<=n):(ah m).length<=(ah n).length:=zar
end Go.Ai.bI
namespace Go.Ai.bI
open Go.Proofs Go.Ai Go.Proofs.Tryz
def Nh{P:Program}{f:FuncId}{k:IntKind}{qs rs:L Int}(h:∀w:World,(callFunc f (qs.map λa=>Value.int k a).toArray).run P w=.ok (.value<|.tuple (rs.map λa=>Value.int k a).toArray) w):
 aS P f (qs.map λa=>SV.n k a) (.de<|rs.map λa=>SV.n k a):=by
 intro w S c _ m hc;have key:∀(l:L Int)(c:List _),Cells w S false (aE<|l.map λa=>SV.n k a) c []->c=l.map λa=>Value.int k a:=by
  intro l
  induction l with
  |nil=>intro c hc;exact hc.1
  |cons a l g=>intro c hc;obtain⟨y,i,s,r,rfl,q,_,j,hc⟩:=hc;obtain⟨rfl,rfl⟩:=aia.1 q.symm;rw[j.2.1,g i hc];rfl
 have e:=key qs c hc;subst e;have d:∀l:L Int,Cells w S false (aE<|l.map λa=>SV.n k a) (l.map λa=>Value.int k a) []:=by
  intro l
  induction l with
  |nil=>simp[aE,Cells]
  |cons a l g=>exact⟨_,_,[],[],W,W,I,ep,g⟩
 intro rd o a _ b p;rw[h w];refine p _ _ ⟨S,[],Go.RowKit.Below.refl _ _,λ_ h=>h,λ_ h=>.inl h,m,?_,aee,I⟩;exact⟨_,W,d rs⟩
def iz(x y c:Nat)(hc:c<=1):ab 315 [.n .u64 x,.n .u64 y,.n .u64 c] (.de [.n .u64 ((x+y+c)%2^64:Nat),.n .u64 ((x+y+c)/2^64:Nat)]):=by refine Nh (qs:=[(x:Int),y,c]) (rs:=[(((x+y+c)%2^64:Nat):Int),(((x+y+c)/2^64:Nat):Int)]) λw=>?_;refine(run_callFunc_extern (fn:=Tryz.f315) func315 aP aP aP (e:=add64Entry) aP _ w).trans ?_;have:=run_add64 (P:=prog) x y c E E E E w;simp_all
def vX(x y b:Nat)(a:b<=1):ab 317 [.n .u64 x,.n .u64 y,.n .u64 b] (.de [.n .u64 ((x+2^64-y-b)%2^64:Nat),.n .u64 ((if x<y+b then 1 else 0:Nat):Int)]):=by refine Nh (qs:=[(x:Int),y,b]) (rs:=[(((x+2^64-y-b)%2^64:Nat):Int),((if x<y+b then 1 else 0:Nat):Int)]) λw=>?_;refine(run_callFunc_extern (fn:=Tryz.f317) func317 aP aP aP (e:=sub64Entry) aP _ w).trans ?_;have:=run_sub64 (P:=prog) x y b a w;simp_all
def dT(xs:L Int)(c:xs.length<2^60):ab 316 [gw xs] (gw<|dC xs):=by
 refine cx func316 W<|r0 W<|aU (λn:Nat=>[(0,gw xs),(3,.i n)]) (λn=>n<=xs.length/\dC (xs.take n)=dC xs) (λn=>n) xs.length ⟨abY _,by rw[aed]⟩ ?_;rintro n⟨hn,a⟩;refine ck W 8 W ?_ ?_<;>intro h;have e:(((n:Nat):Int)-1).toNat=n-1:=E;refine r1 W bg ?_;rw[e];refine cg W ?_ ?_<;>intro b;refine r1 W bg<|again (n-1) E ⟨E,?_⟩ ⟨G,⟨W,aj8 SV.i E⟩,U⟩;have:=xv (w:=xs.take n) (n:=n-1) (by grind) (by grind)
 grind
 have d:(n:Int).toNat=n:=E;refine r1 W bg<|aJ W<|aj8 (gw) ?_;rw[ahe,aiN,<-a];refine(pF ?_).symm
 grind
 have:n=0:=E;subst this;refine r1 W bg<|aJ W<|aj8 (gw) ?_;rw[<-a];simp[dC]
def qm(m n:Nat)(j:(ah m).length<2^60)(g:(ah n).length<2^60):ab 251 [gw<|ah m,gw<|ah n] (.i<|qn m n):=by
 refine cx func251 W<|cv W W ?_ ?_<;>intro h;refine cv W W ?_ ?_<;>intro f;refine cm W W<|cw ?_;have:=cX (m:=m) (n:=n) E;simp[qn,this];refine cm W W<|cw ?_;have:=cX (m:=n) (n:=m) E;simp[qn];omega;have hl:(ah m).length=(ah n).length:=E;refine r1 W (aD) ?_;refine loop (λi:Nat=>[(0,gw<|ah m),(1,gw<|ah n),(5,.i<|(i:Int)-1)]) (λi=>i<=(ah m).length/\(ah m).drop i=(ah n).drop i) (λi=>i) (ah m).length ⟨E,?_⟩
  ⟨G,G,G,U⟩ ?_
 simp_all;rintro i⟨hi,a⟩;refine cv W W ?_ ?_<;>intro f;obtain⟨k,rfl⟩:∃k,i=k+1:=⟨i-1,E⟩;have c:(((k+1:Nat):Int)-1).toNat=k:=E;refine k1 W aP (aD) ?_;refine cg W ?_ ?_<;>intro d;rw[c]at d;refine k1 W aP (aD) ?_;refine cg W ?_ ?_<;>intro b;rw[c]at b;refine cm W W<|cw ?_;have:=nW E hl a b;simp[qn,this];rw[c]at b;refine cm W W<|cw ?_;have:=nW E hl.symm a.symm E;simp[qn];omega;rw[c]at d;refine r1 W (aD) ?_;refine again k (aip _) ⟨E,?_⟩ ⟨G,G,⟨W,aj8 SV.i E⟩,U⟩;have e:(ah m).getD k 0=(ah n).getD k 0:=E;rw[ad5<|show k<(ah m).length from E,ad5<|show k<(ah n).length from E,a]
 grind
 have:i=0:=E;subst this;refine cm W W<|cw ?_;have e:ah m=ah n:=ci
 have:m=n:=by have:=aal val e;rw[bF,bF]at this;omega
 simp[qn,this]
end Go.Ai.bI
