/- ScaleRanges holds of the program, under no condition. -/
import Derived.WalkKit
import Derived.Lib.LaidTab
import Derived.Lib.ItoaNum
import Derived.TacticsIn
import Derived.OrdersIn
set_option linter.all false
set_option maxRecDepth 100000
set_option maxHeartbeats 0
section
def aaf:=@congrArg
def aag:=@and_true
def aaq:=@if_neg
def aas:=@if_pos
def aaF:=@absurd
def aaP:=@Option.some.injEq
def aaQ:=@Nat.zero_le
def aaU:=@Nat.le_refl
def aaV:=@Option.bind_eq_some_iff
def aaZ:=@List.getElem_mem
def abi:=@Bool.and_eq_true
def abm:=@List.mem_cons
def abo:=@List.length_cons
def abS:=@List.mem_map
def ace:=@List.take_succ_eq_append_getElem
def acx:=@List.length_map
def acB:=@List.map_append
def acC:=@List.length_nil
def acD:=@List.take_of_length_le
def acH:=@List.nodup_append
def acI:=@Nat.le_trans
def acJ:=@List.drop_eq_getElem_cons
def acK:=@List.map_cons
def acL:=@List.getElem?_eq_getElem
def acM:=@Nat.mul_le_mul_right
def acN:=@Nat.mod_lt
def acO:=@List.getD_eq_getElem?_getD
def acP:=@List.nodup_nil
def acQ:=@Prod.mk.injEq
def acR:=@Nat.le_of_ble_eq_true
def acS:=@List.take_length
def acT:=@List.append_assoc
def acU:=@List.length_append
def acW:=@Nat.lt_of_lt_of_le
def acX:=@Nat.lt_or_ge
def acZ:=@List.all_eq_true
def ac2:=@Nat.eq_of_beq_eq_true
def ac4:=@List.all_cons
def ac6:=@List.mem_append
def ade:=@List.length_take
def adi:=@Nat.pow_le_pow_right
def adx:=@List.map_congr_left
def adD:=@Nat.add_mul
def adY:=@Int.le_of_lt
def ad2:=@List.nodup_cons
def aeg:=@Nat.eq_zero_or_pos
def ael:=@Nat.mul_le_mul
def aen:=@Nat.mul_comm
def aer:=@List.map_map
def aet:=@Int.le_refl
def aeu:=@Option.bind_some
def aev:=@Array.getElem?_eq_getElem
def aew:=@List.drop_eq_nil_of_le
def aex:=@List.getElem?_eq_none
def aey:=@Nat.mul_le_mul_left
def aez:=@Int.mul_le_mul_of_nonneg_left
def aeA:=@Int.mul_nonneg
def aeB:=@List.drop_of_length_le
def aeC:=@List.foldl_cons
def aeD:=@Bool.true_and
def aeE:=@List.map_set
def aeJ:=@Int.pow_succ
def aeM:=@List.drop_length
def aeQ:=@Nat.div_lt_iff_lt_mul
def aeT:=@Option.map_eq_some_iff
def aeW:=@List.drop_zero
def ae5:=@Nat.div_eq_of_lt
def ae6:=@Nat.pow_pos
def ae7:=@Array.length_toList
def ae8:=@List.not_mem_nil
def afd:=@List.append_nil
def afh:=@Prod.exists
def afi:=@Nat.pow_succ
def afr:=@Rat.le_of_lt
def afs:=@List.pairwise_cons
def afu:=@List.map_nil
def afv:=@List.foldl_append
def afw:=@Decidable.byContradiction
def afx:=@List.getElem?_append_right
def afy:=@List.nil_append
def afz:=@Nat.mod_eq_of_lt
def afA:=@Nat.div_lt_self
def afB:=@List.mem_of_mem_take
def afC:=@Nat.lt_of_le_of_lt
def afD:=@Int.le_trans
def afE:=@List.getElem?_map
def afF:=@Nat.pos_of_ne_zero
def afG:=@List.mem_flatMap
def afH:=@List.mem_range
def afI:=@Int.sign_neg_iff
def afJ:=@Nat.add_le_add_right
def afK:=@Nat.mod_add_div
def afL:=@List.length_set
def afM:=@List.getElem?_append_left
def afN:=@Array.ext'
def afO:=@Int.mul_le_mul_of_nonneg_right
def afP:=@Rat.num_nonneg
def afQ:=@List.drop_drop
def afR:=@Array.getElem?_eq_some_iff
def afT:=@Int.pow_add
def afV:=@Int.add_mul
def afW:=@Int.mul_pos
def afX:=@Int.natAbs_mul
def afY:=@Nat.pow_add
def afZ:=@List.mem_filter
def af0:=@Nat.zero_add
def af1:=@Nat.mul_assoc
def af2:=@Int.natCast_mul
def af3:=@List.take_append_drop
def af4:=@Nat.div_div_eq_div_mul
def af5:=@Array.getElem?_toList
def af6:=@List.getElem?_take
def af7:=@List.getElem_of_mem
def af8:=@Bool.not_eq_true'
def af9:=@List.mem_singleton
def aga:=@List.append_eq_nil_iff
def agb:=@List.mem_map_of_mem
def agc:=@Int.toNat_natCast
def agd:=@List.ext_getElem
def age:=@Int.emod_nonneg
def agf:=@Int.emod_lt_of_pos
def agh:=@Nat.pow_mul
def agi:=@Nat.div_le_self
def agj:=@Nat.pow_le_pow_left
def agk:=@List.countP_le_length
def agl:=@List.getElem_map
def agm:=@Nat.add_mul_div_left
def agn:=@List.getElem?_eq_some_iff
def ago:=@Array.getElem?_eq_none
def agp:=@List.getElem?_drop
def agq:=@Bool.false_eq_true
def agr:=@List.cons_append
def ags:=@List.length_pos_iff
def agt:=@Nat.le_succ
def agu:=@List.all_nil
def agv:=@List.mem_of_mem_drop
def agw:=@Int.lt_or_le
def agx:=@Nat.gcd_comm
def agy:=@Nat.le_of_lt
def agz:=@Nat.lt_trans
def agA:=@Rat.intCast_natCast
def agB:=@List.map_replicate
def agC:=@Rat.mul_le_mul_of_nonneg_left
def agD:=@Rat.le_trans
def agE:=@Decidable.not_not
def agF:=@Classical.not_not
def agG:=@List.ext_getElem?
def agH:=@List.getElem?_set
def agI:=@Nat.le_antisymm
def agJ:=@Bool.and_self
def agK:=@Bool.or_eq_true
def agL:=@List.replicate_succ
def agM:=@List.map_drop
def agN:=@Int.ediv_nonneg
def agO:=@List.range_succ
def agP:=@List.pairwise_iff_getElem
def agQ:=@Int.lt_of_mul_lt_mul_right
def agR:=@Int.sub_mul
def agS:=@Nat.lt_succ_self
def agT:=@Nat.sub_zero
def agU:=@Nat.le_max_left
def agV:=@Nat.le_max_right
def agW:=@UInt8.toNat_inj
def agX:=@Rat.num_eq_zero
def agY:=@Rat.neg_num
def agZ:=@Nat.sub_self
def ag0:=@List.countP_append
def ag1:=@Rat.inv_pos
def ag2:=@Rat.not_le
def ag3:=@Int.natAbs_natCast
def ag4:=@Array.getElem?_modify
def ag5:=@List.foldl_nil
def ag6:=@Option.map_some
def ag7:=@Nat.add_zero
def ag8:=@Bool.false_or
def ag9:=@List.take_append_of_le_length
def aha:=@List.mem_of_getElem?
def ahb:=@List.getElem?_cons_zero
def ahc:=@List.map_take
def ahd:=@Prod.mk.inj
def ahe:=@Int.tdiv_eq_ediv_of_nonneg
def ahf:=@List.flatMap_append
def ahg:=@Nat.mul_pos
def ahh:=@List.length_eq_zero_iff
def ahi:=@Nat.le_succ_of_le
def ahj:=@Rat.intCast_mul
def ahk:=@Nat.succ_mul
def ahl:=@List.pairwise_map
def ahm:=@List.mem_iff_getElem
def ahn:=@Rat.pow_succ
def aho:=@Int.natCast_add
def ahp:=@Rat.intCast_le_intCast
def ahq:=@List.take_zero
def ahr:=@Array.getElem?_extract
def ahs:=@Array.ext_getElem?
def aht:=@Nat.add_assoc
def ahu:=@Array.foldl_toList
def ahv:=@List.drop_append
def ahw:=@List.flatMap_cons
def ahx:=@List.mem_or_eq_of_mem_set
def ahy:=@Int.mul_ediv_add_emod
def ahz:=@Int.mul_le_mul
def ahA:=@Nat.mul_div_mul_right
def ahB:=@Nat.mul_mod_mul_right
def ahC:=@Nat.mul_div_cancel
def ahD:=@Int.gcd_eq_natAbs_gcd_natAbs
def ahE:=@Int.sign_eq_zero_iff_zero
def ahF:=@Nat.add_le_add
def ahG:=@Rat.sub_eq_add_neg
def ahH:=@Int.lt_trichotomy
def ahI:=@Bool.not_true
def ahJ:=@Nat.le_mul_of_pos_right
def ahK:=@Rat.divInt_eq_div
def ahL:=@List.take_prefix
def ahM:=@List.countP_singleton
def ahN:=@List.length_replicate
def ahO:=@Nat.le_div_iff_mul_le
def ahP:=@Int.natCast_ediv
def ahQ:=@List.find?_cons
def ahR:=@Array.size_replicate
def ahS:=@List.filter_append
def ahT:=@Rat.le_of_mul_le_mul_right
def ahU:=@List.getElem?_take_of_lt
def ahV:=@Int.toNat_of_nonneg
def ahW:=@List.mem_cons_self
def ahX:=@Nat.add_sub_cancel_left
def ahY:=@List.eq_nil_or_concat
def ahZ:=@List.concat_eq_append
def ah0:=@Int.sign_eq_one_of_pos
def ah1:=@List.getElem?_replicate
def ah2:=@Rat.num_divInt_den
def ah3:=@Int.fdiv_eq_ediv_of_nonneg
def ah4:=@Nat.dvd_mul_right
def ah5:=@List.eq_nil_of_length_eq_zero
def ah6:=@List.mem_replicate
def ah7:=@Rat.mul_le_mul_of_nonneg_right
def ah8:=@List.length_range
def U:True:=⟨⟩
theorem G{α β:Sort _}{a:α}{b:β}:a=a/\b=b:=⟨rfl,rfl⟩
theorem lO{α β γ:Sort _}{a:α}{b:β}{c:γ}:a=a/\b=b/\c=c:=⟨rfl,rfl,rfl⟩
theorem E{p:Prop}(h:p:=by omega):p:=h
theorem I{p:Prop}(h:p:=by simp):p:=h
theorem fV{p:Prop}(h:p:=by decide):p:=h
theorem fU{p:Prop}(h:p:=by decide +kernel):p:=h
theorem fT{p:Prop}(h:p:=by dsimp only):p:=h
theorem fP{p:Prop}(h:p:=by simp_all):p:=h
theorem fN{p:Prop}(h:p:=by simp at *):p:=h
theorem fQ{p:Prop}(h:p:=by rfl):p:=h
theorem W{α:Sort _}{a:α}:a=a:=rfl
abbrev L:=@List
abbrev Q:=@Option
namespace Go.Ai
open Go.RowKit
inductive Fl|nil|shr|own
 deriving DecidableEq
inductive Step
 |idx (i sz:Nat)
 |at(o:Nat) (n:Option Nat)
 |deref
 |bU (i:Nat)
 |nF (sz o n:Nat)
 deriving DecidableEq
abbrev Path:=L Step
inductive AV
 |v (x:Value)
 |list (f:Fl) (sz:Nat) (xs:List AV)
 |box (own:Bool) (x:AV)
 |agg (xs:List AV)
 |bU (xs:List AV)
 |fn (f:Fn) (first captured:List AV)
 |bw (r g1 g2:Nat) (p:Path)
 |ptr (r g1 g2:Nat) (p:Path)
 |hole
 |dead
 |pv (C:Value->Prop)
 |abs (J:World->(Nat->Prop)->List Nat->Prop)
 |gI (g:FuncId) (caps:List (Nat×Nat))
 |ob (J:World->(Nat->Prop)->Value->Prop)
instance:Inhabited AV:=⟨.dead⟩
def scalar:Value->Bool
 |.bool _|.int .. |.float .. |.complex .. |.string _|.pointer none|.map none|.nilFunc|.nilIface=>true
 |_=>false
def row?(w:World)(b:Nat):Q (Array Value×(Nat×Nat)):=
 match w.heap[b]?with
 |some (.cells c _ a)=>some (c,a)
 |_=>none
def qp(w:World)(y:Value):L Nat:=match y.cells.toList with
 |[.map<|some b]=>[b]
 |[.pointer<|some a]=>match w.heap[a.block]?with
  |some (.mapIter (some m) _ _ _)=>[a.block,m]
  |_=>[a.block]
 |_=>[]
def Sk{w w':World}{y:Value}(h:∀b∈qp w y,w'.heap[b]?=w.heap[b]?):qp w' y=qp w y:=by
 unfold qp at h⊢;split;rfl;rename_i a e;rw[e]at h;have:w'.heap[a.block]?=w.heap[a.block]?:=by simp only at h;split at h<;>exact h _ I
 rw[this];rfl
def lP{w w':World}{b:Nat}(h:w'.heap[b]?=w.heap[b]?):row? w' b=row? w b:=by unfold row?;rw[h]
mutual
def Rel(w:World)(S:Nat->Prop):AV->Value->List Nat->Prop
 |.v x,y,F=>scalar x=true/\y=x/\F=[]
 |.list f sz xs,y,F=>
  match f with
  |.nil=>xs=[]/\y=.slice none 0 0/\F=[]
  |.shr=>(xs=[]/\(∃i,y=.slice i 0 0)/\F=[])\/∃b off cap cs h,y=.slice (some ⟨b,off,none⟩) xs.length cap/\S b/\row? w b=some (cs,h)/\xs.length<=cap/\
    du w S sz xs ((cs.toList.drop off).take<|xs.length*sz) []/\F=[]
  |.own=>(xs=[]/\y=.slice none 0 0/\F=[])\/∃b cap cs F',y=.slice (some ⟨b,0,none⟩) xs.length cap/\row? w b=some (cs,(0,0))/\xs.length<=cap/\cap<=maxLen/\
    cs.size=cap*sz/\du w S sz xs (cs.toList.take<|xs.length*sz) F'/\F=b::F'
 |.box own x,y,F=>∃b cs h F' z,y=.pointer (some ⟨b,0,none⟩)/\row? w b=some (cs,h)/\Rel w S x z F'/\z.cells=cs/\
   (if own then h=(0,0)/\F=b::F' else S b/\F'=[]/\F=[])
 |.agg xs,y,F=>∃cs,y=.agg cs/\Cells w S true xs cs.toList F
 |.bU xs,y,F=>∃cs,y=.tuple cs/\Cells w S false xs cs.toList F
 |.fn f first captured,y,F=>∃a c e d,y=.func f a c/\Cells w S false first a.toList e/\Cells w S false captured c.toList d/\F=e++d
 |.bw ..,_,_=>False
 |.ptr ..,_,_=>False
 |.hole,y,F=>y.oneCell'=true/\F=[]
 |.dead,_,F=>F=[]
 |.pv C,y,F=>C y/\F=[]
 |.abs _,_,_=>False
 |.gI ..,_,_=>False
 |.ob J,y,F=>y.oneCell'=true/\F=qp w y/\∀w' S',(∀b,S b\/b∈F->w'.heap[b]?=w.heap[b]?)->(∀b,S b->S' b)->J w' S' y
def Cells(w:World)(S:Nat->Prop)(one:Bool):List AV->List Value->List Nat->Prop
 |[],l,F=>l=[]/\F=[]
 |x::xs,l,F=>∃y g e d,l=y::g/\F=e++d/\(one=true->y.oneCell'=true)/\Rel w S x y e/\Cells w S one xs g d
def du(w:World)(S:Nat->Prop)(sz:Nat):List AV->List Value->List Nat->Prop
 |[],l,F=>l=[]/\F=[]
 |x::xs,l,F=>∃y g e d,l=y.cells.toList++g/\F=e++d/\y.cells.size=sz/\Rel w S x y e/\du w S sz xs g d
end
section
variable{w w':World}{S S':Nat->Prop}
mutual
theorem Rel.frame:∀(av:AV){y:Value}{F:List Nat},Rel w S av y F->(∀b,S b\/b∈F->w'.heap[b]?=w.heap[b]?)->Rel w' S av y F
 |.v x,y,F,h,_=>by simpa[Rel]using h
 |.list .nil sz xs,y,F,h,_=>by simpa[Rel]using h
 |.list .shr sz xs,y,F,h,k=>by rcases h with h|⟨b,off,cap,cs,s,e,g,i,m,n,r⟩;exact .inl h;exact .inr ⟨b,off,cap,cs,s,e,g,(lP<|k b<|.inl g).trans i,m,du.frame sz xs n λb d=>k b<|.inl<|by simpa using d,r⟩
 |.list .own sz xs,y,F,h,k=>by rcases h with h|⟨b,cap,cs,F',e,g,i,m,n,r,rfl⟩;exact .inl h;exact .inr ⟨b,cap,cs,F',e,(lP<|k b<|.inr I).trans g,i,m,n,du.frame sz xs r λb d=>k b<|d.imp id<|by simp;exact .inr,W⟩
 |.box own x,y,F,h,k=>by obtain⟨b,cs,s,F',z,e,g,i,m,n⟩:=h;cases own;simp[if_false]at n;obtain⟨t,rfl,rfl⟩:=n;exact⟨b,cs,s,[],z,e,(lP<|k b<|.inl t).trans g,Rel.frame x i λb d=>k b<|.inl<|by simpa using d,m,by simp[t]⟩;simp at n;obtain⟨rfl,rfl⟩:=n;exact⟨b,cs,_,F',z,e,(lP<|k b<|.inr I).trans g,Rel.frame x i λb d=>k b<|d.imp id<|by simp;exact .inr,m,I⟩
 |.agg xs,y,F,h,k=>by obtain⟨cs,e,g⟩:=h;exact⟨cs,e,Cells.frame xs g k⟩
 |.bU xs,y,F,h,k=>by obtain⟨cs,e,g⟩:=h;exact⟨cs,e,Cells.frame xs g k⟩
 |.fn f first j,y,F,h,k=>by obtain⟨a,c,p,o,e,g,i,rfl⟩:=h;exact⟨a,c,p,o,e,Cells.frame first g λb d=>k b<|d.imp id<|by simp;exact .inl,Cells.frame j i λb d=>k b<|d.imp id<|by simp;exact .inr,W⟩
 |.bw ..,_,_,h,_=>by simp[Rel]at h
 |.ptr ..,_,_,h,_=>by simp[Rel]at h
 |.hole,_,_,h,_=>by simpa[Rel]using h
 |.dead,_,_,h,_=>by simpa[Rel]using h
 |.pv _,_,_,h,_=>by simpa[Rel]using h
 |.abs _,_,_,h,_=>by simp[Rel]at h
 |.gI ..,_,_,h,_=>by simp[Rel]at h
 |.ob J,y,F,h,k=>by obtain⟨e,rfl,i⟩:=h;exact⟨e,(Sk λb d=>k b<|.inr d).symm,λu C B A=>i u C (λb d=>(B b d).trans<|k b d) A⟩
theorem Cells.frame:∀(xs:List AV){one:Bool}{l:List Value}{F:List Nat},Cells w S one xs l F->(∀b,S b\/b∈F->w'.heap[b]?=w.heap[b]?)->Cells w' S one xs l F
 |[],one,l,F,h,_=>by simpa[Cells]using h
 |x::xs,one,l,F,h,k=>by obtain⟨y,q,p,o,e,rfl,g,i,m⟩:=h;exact⟨y,q,p,o,e,W,g,Rel.frame x i λb d=>k b<|d.imp id<|by simp;exact .inl,Cells.frame xs m λb d=>k b<|d.imp id<|by simp;exact .inr⟩
theorem du.frame(sz:Nat):∀(xs:List AV){l:List Value}{F:List Nat},du w S sz xs l F->(∀b,S b\/b∈F->w'.heap[b]?=w.heap[b]?)->du w' S sz xs l F
 |[],l,F,h,_=>by simpa[du]using h
 |x::xs,l,F,h,k=>by obtain⟨y,q,p,o,e,rfl,g,i,m⟩:=h;exact⟨y,q,p,o,e,W,g,Rel.frame x i λb d=>k b<|d.imp id<|by simp;exact .inl,du.frame sz xs m λb d=>k b<|d.imp id<|by simp;exact .inr⟩
end
mutual
theorem Rel.mono(d:∀b,S b->S' b):∀(av:AV){y:Value}{F:List Nat},Rel w S av y F->Rel w S' av y F
 |.v x,y,F,h=>by simpa[Rel]using h
 |.list .nil sz xs,y,F,h=>by simpa[Rel]using h
 |.list .shr sz xs,y,F,h=>by rcases h with h|⟨b,off,cap,cs,s,g,e,k,j,m,r⟩;exact .inl h;exact .inr ⟨b,off,cap,cs,s,g,d b e,k,j,du.mono d sz xs m,r⟩
 |.list .own sz xs,y,F,h=>by rcases h with h|⟨b,cap,cs,F',g,e,k,j,m,r,A⟩;exact .inl h;exact .inr ⟨b,cap,cs,F',g,e,k,j,m,du.mono d sz xs r,A⟩
 |.box own x,y,F,h=>by
  obtain⟨b,cs,s,F',z,g,e,k,j,m⟩:=h;refine⟨b,cs,s,F',z,g,e,Rel.mono d x k,j,?_⟩
  grind
 |.agg xs,y,F,h=>by obtain⟨cs,g,e⟩:=h;exact⟨cs,g,Cells.mono d xs e⟩
 |.bU xs,y,F,h=>by obtain⟨cs,g,e⟩:=h;exact⟨cs,g,Cells.mono d xs e⟩
 |.fn f first i,y,F,h=>by obtain⟨a,c,o,n,g,e,k,j⟩:=h;exact⟨a,c,o,n,g,Cells.mono d first e,Cells.mono d i k,j⟩
 |.bw ..,_,_,h=>by simp[Rel]at h
 |.ptr ..,_,_,h=>by simp[Rel]at h
 |.hole,_,_,h=>by simpa[Rel]using h
 |.dead,_,_,h=>by simpa[Rel]using h
 |.pv _,_,_,h=>by simpa[Rel]using h
 |.abs _,_,_,h=>by simp[Rel]at h
 |.gI ..,_,_,h=>by simp[Rel]at h
 |.ob _,y,F,h=>⟨h.1,h.2.1,λw' B u t=>h.2.2 w' B (λb q=>u b<|q.imp (d b) id) λb q=>t b<|d b q⟩
theorem Cells.mono(d:∀b,S b->S' b):∀(xs:List AV){one:Bool}{l:List Value}{F:List Nat},Cells w S one xs l F->Cells w S' one xs l F
 |[],one,l,F,h=>by simpa[Cells]using h
 |x::xs,one,l,F,h=>by obtain⟨y,p,o,n,g,e,k,j,m⟩:=h;exact⟨y,p,o,n,g,e,k,Rel.mono d x j,Cells.mono d xs m⟩
theorem du.mono(d:∀b,S b->S' b)(sz:Nat):∀(xs:List AV){l:List Value}{F:List Nat},du w S sz xs l F->du w S' sz xs l F
 |[],l,F,h=>by simpa[du]using h
 |x::xs,l,F,h=>by obtain⟨y,p,o,n,g,e,k,j,m⟩:=h;exact⟨y,p,o,n,g,e,k,Rel.mono d x j,du.mono d sz xs m⟩
end
end
mutual
def AV.cC:AV->AV
 |.list .own sz xs=>.list .shr sz (iZ xs)
 |.list .nil sz xs=>.list .nil sz xs
 |.list .shr sz xs=>.list .shr sz xs
 |.box true x=>.box false x.cC
 |.box false x=>.box false x
 |.agg xs=>.agg (iZ xs)
 |.bU xs=>.bU (iZ xs)
 |.fn f a c=>.fn f (iZ a) (iZ c)
 |.v x=>.v x
 |.bw r g1 g2 p=>.bw r g1 g2 p
 |.ptr r g1 g2 p=>.ptr r g1 g2 p
 |.hole=>.hole
 |.dead=>.dead
 |.pv C=>.pv C
 |.abs J=>.abs J
 |.gI g b=>.gI g b
 |.ob _=>.dead
def iZ:List AV->List AV
 |[]=>[]
 |x::xs=>x.cC::iZ xs
end
def kq:∀xs:L AV,(iZ xs).length=xs.length
 |[]=>rfl
 |x::xs=>by simp[iZ,kq xs]
section
variable{w:World}{S S':Nat->Prop}
mutual
theorem Rel.share(e:∀b,S b->S' b):∀(av:AV){y:Value}{F:List Nat},Rel w S av y F->(∀b∈F,S' b)->Rel w S' av.cC y []
 |.v x,y,F,h,_=>by simp only[Rel,AV.cC]at h⊢;simp_all
 |.list .nil sz xs,y,F,h,_=>by simp only[Rel,AV.cC]at h⊢;simp_all
 |.list .shr sz xs,y,F,h,_=>by simp only[Rel,AV.cC]at h⊢;rcases h with h|⟨b,off,cap,cs,q,g,m,j,o,n,r⟩;simp_all;exact .inr ⟨b,off,cap,cs,q,g,e b m,j,o,du.mono e sz xs n,U⟩
 |.list .own sz xs,y,F,h,k=>by simp only[Rel,AV.cC]at h⊢;rcases h with⟨rfl,h,-⟩|⟨b,cap,cs,F',g,m,j,o,n,r,rfl⟩;exact .inl ⟨W,⟨none,h⟩,U⟩;refine .inr ⟨b,0,cap,cs,(0,0),by rw[kq];exact g,k b I,m,by rw[kq];exact j,?_,U⟩;rw[kq];exact du.share e sz xs r (λb d=>k b<|by simp[d])
 |.box own x,y,F,h,k=>by obtain⟨b,cs,q,F',z,g,m,j,o,n⟩:=h;cases own;simp[if_false]at n;obtain⟨d,rfl,rfl⟩:=n;exact⟨b,cs,q,[],z,g,m,Rel.mono e x j,o,by simp[e b d]⟩;simp at n;obtain⟨rfl,rfl⟩:=n;exact⟨b,cs,_,[],z,g,m,Rel.share e x j λb d=>k b<|by simp[d],o,by simp[k b I]⟩
 |.agg xs,y,F,h,k=>by obtain⟨cs,g,m⟩:=h;exact⟨cs,g,Cells.share e xs m k⟩
 |.bU xs,y,F,h,k=>by obtain⟨cs,g,m⟩:=h;exact⟨cs,g,Cells.share e xs m k⟩
 |.fn f first i,y,F,h,k=>by obtain⟨a,c,t,s,g,m,j,rfl⟩:=h;exact⟨a,c,[],[],g,Cells.share e first m λb d=>k b<|by simp[d],Cells.share e i j λb d=>k b<|by simp[d],W⟩
 |.bw ..,_,_,h,_=>by simp[Rel]at h
 |.ptr ..,_,_,h,_=>by simp[Rel]at h
 |.hole,_,_,h,_=>by simp only[Rel,AV.cC]at h⊢;simp_all
 |.dead,_,_,h,_=>by simp[Rel,AV.cC]
 |.pv _,_,_,h,_=>by simp only[Rel,AV.cC]at h⊢;simp_all
 |.abs _,_,_,h,_=>by simp[Rel]at h
 |.gI ..,_,_,h,_=>by simp[Rel]at h
 |.ob _,_,_,_,_=>by simp[Rel,AV.cC]
theorem Cells.share(e:∀b,S b->S' b):∀(xs:List AV){one:Bool}{l:List Value}{F:List Nat},Cells w S one xs l F->(∀b∈F,S' b)->Cells w S' one (iZ xs) l []
 |[],one,l,F,h,_=>by simpa[Cells,iZ]using h.1
 |x::xs,one,l,F,h,k=>by obtain⟨y,p,t,s,g,rfl,j,o,n⟩:=h;exact⟨y,p,[],[],g,W,j,Rel.share e x o λb d=>k b<|by simp[d],Cells.share e xs n λb d=>k b<|by simp[d]⟩
theorem du.share(e:∀b,S b->S' b)(sz:Nat):∀(xs:List AV){l:List Value}{F:List Nat},du w S sz xs l F->(∀b∈F,S' b)->du w S' sz (iZ xs) l []
 |[],l,F,h,_=>by simpa[du,iZ]using h.1
 |x::xs,l,F,h,k=>by obtain⟨y,p,t,s,g,rfl,j,o,n⟩:=h;exact⟨y,p,[],[],g,W,j,Rel.share e x o λb d=>k b<|by simp[d],du.share e sz xs n λb d=>k b<|by simp[d]⟩
end
end
end Go.Ai
end
namespace Go.Ai
open Go.RowKit
inductive Loc
 |val (y:Value)
 |addr (a:Addr)
def cF:Value->Step->Q Loc
 |.pointer (some a),.deref=>some (.addr a)
 |.slice (some a) _ _,.idx i sz=>some (.addr<|a.add<|i*sz)
 |.tuple b,.bU i=>b[i]?.map .val
 |.slice (some a) _ c,.nF sz o n=>some (.val<|.slice (some<|a.add<|o*sz) n<|c-o)
 |.agg cs,.at o none=>cs[o]?.map .val
 |.agg cs,.at o (some n)=>some (.val<|.agg<|cs.extract o<|o+n)
 |_,_=>none
def step1(w:World):Loc->Step->Q Loc
 |.val y,s=>cF y s
 |.addr a,.at o _=>some (.addr<|a.add o)
 |.addr a,s=>(w.cell? a).bind (cF · s)
def loc(w:World):Loc->Path->Q Loc
 |L,[]=>some L
 |L,s::p=>(step1 w L s).bind (loc w · p)
def bH:AV->Path->Q AV
 |x,[]=>some x
 |x,s::p=>
  match x,s with
  |.list _ sz xs,.idx i a=>if sz=a then xs[i]?.bind (bH · p)else none
  |.box _ x,.deref=>bH x p
  |.agg xs,.at o none=>xs[o]?.bind (bH · p)
  |.agg xs,.at o (some n)=>if o+n<=xs.length then bH (.agg<|(xs.drop o).take n) p else none
  |.bU xs,.bU i=>xs[i]?.bind (bH · p)
  |.list _ sz xs,.nF a o n=>if sz=a/\0<n/\o+n<=xs.length then bH .dead p else none
  |_,_=>none
def ff:AV->Path->AV->Q AV
 |_,[],y=>some y
 |x,s::p,y=>
  match x,s with
  |.list .own sz xs,.idx i b=>if sz=b then xs[i]?.bind λx=>(ff x p y).map λa=>.list .own sz (xs.set i a)else none
  |.box true x,.deref=>(ff x p y).map λa=>.box true a
  |.agg xs,.at o none=>xs[o]?.bind λx=>(ff x p y).map λa=>.agg (xs.set o a)
  |.agg xs,.at o (some n)=>if o+n<=xs.length then(ff (.agg<|(xs.drop o).take n) p y).bind λ
    |.agg ys=>if ys.length=n then some (.agg<|xs.take o++ys++xs.drop (o+n))else none
    |_=>none
   else none
  |.bU xs,.bU i=>xs[i]?.bind λx=>(ff x p y).map λa=>.bU (xs.set i a)
  |_,_=>none
def At(w:World)(a:Addr)(z:Value):Prop:=a.spot=none/\∃b c,row? w a.block=some (b,c)/\∀j u,z.cells[j]?=some u->b[a.off+j]?=some u
def holds(w:World):Loc->Value->Prop
 |.val y,z=>z=y
 |.addr a,z=>At w a z
section
variable{w w':World}{S S':Nat->Prop}
def Cells.length:∀{xs:L AV}{one:Bool}{l:L Value}{F:L Nat},Cells w S one xs l F->l.length=xs.length
 |[],one,l,F,h=>by simp[Cells]at h;simp[h.1]
 |x::xs,one,l,F,h=>by obtain⟨y,b,f,e,rfl,rfl,d,c,a⟩:=h;simp[Cells.length a]
def du.length(sz:Nat):∀{xs:L AV}{l:L Value}{F:L Nat},du w S sz xs l F->l.length=xs.length*sz
 |[],l,F,h=>by simp[du]at h;simp[h.1]
 |x::xs,l,F,h=>by obtain⟨y,b,f,e,rfl,rfl,d,c,a⟩:=h;simp[du.length sz a,adD];omega
def Cells.lens:∀{xs:L AV}{one:Bool}{l:L Value}{F:L Nat}(o:Nat){x:AV},Cells w S one xs l F->xs[o]?=some x->
 ∃y A g B,F=A++g++B/\(one=true->y.oneCell'=true)/\Rel w S x y g/\l[o]?=some y/\
  ∀(w':World)(S':Nat->Prop)(d:AV)(y':Value)(a:L Nat),(∀b,S b->S' b)->(one=true->y'.oneCell'=true)->
   (∀b,S b\/b∈A\/b∈B->w'.heap[b]?=w.heap[b]?)->Rel w' S' d y' a->Cells w' S' one (xs.set o d) (l.set o y') (A++a++B)
 |[],one,l,F,o,x,h,c=>by cases c
 |x0::xs,one,l,F,0,x,h,c=>by obtain⟨y,s,i,r,rfl,rfl,p,n,m⟩:=h;simp at c;subst c;refine⟨y,[],i,r,I,p,n,I,λw' S' d y' a f q k j=>?_⟩;exact⟨y',s,a,r,W,W,q,j,Cells.mono f _<|Cells.frame xs m λb e=>k b<|e.imp id .inr⟩
 |x0::xs,one,l,F,o+1,x,h,c=>by
  obtain⟨y,s,i,r,rfl,rfl,p,n,m⟩:=h;obtain⟨z,A,g,B,rfl,g2,v,u,t⟩:=Cells.lens o m c;refine⟨z,i++A,g,B,I,g2,v,u,λw' S' d y' a f q k j=>?_⟩;exact⟨y,_,i,A++a++B,W,I,p,Rel.mono f _<|Rel.frame x0 n λb e=>k b<|e.imp id λh=>.inl<|by simp[h],
   t w' S' d y' a f q (λb e=>k b<|by grind) j⟩
def Cells.append:∀{xs ys:L AV}{one:Bool}{l m:L Value}{F a:L Nat},Cells w S one xs l F->Cells w S one ys m a->Cells w S one (xs++ys) (l++m) (F++a)
 |[],ys,one,l,m,F,a,h,k=>by simp[Cells]at h;simp_all
 |x::xs,ys,one,l,m,F,a,h,k=>by obtain⟨y,b,g,f,rfl,rfl,e,d,c⟩:=h;exact⟨y,b++m,g,f++a,I,I,e,d,Cells.append c k⟩
def Cells.split:∀(n:Nat){xs:L AV}{one:Bool}{l:L Value}{F:L Nat},Cells w S one xs l F->
 ∃a b,F=a++b/\Cells w S one (xs.take n) (l.take n) a/\Cells w S one (xs.drop n) (l.drop n) b
 |0,xs,one,l,F,h=>⟨[],F,I,by simp[Cells],h⟩
 |n+1,[],one,l,F,h=>by simp[Cells]at h;obtain⟨rfl,rfl⟩:=h;exact⟨[],[],I,by simp[Cells],by simp[Cells]⟩
 |n+1,x::xs,one,l,F,h=>by obtain⟨y,i,a,b,rfl,rfl,f,e,d⟩:=h;obtain⟨c,g,rfl,k1,k2⟩:=Cells.split n d;refine⟨a++c,g,I,?_,k2⟩;exact⟨y,_,a,c,W,W,f,e,k1⟩
def du.append(sz:Nat):∀{xs ys:L AV}{l m:L Value}{F a:L Nat},du w S sz xs l F->du w S sz ys m a->du w S sz (xs++ys) (l++m) (F++a)
 |[],ys,l,m,F,a,h,k=>by simp[du]at h;simp_all
 |x::xs,ys,l,m,F,a,h,k=>by obtain⟨y,b,g,f,rfl,rfl,e,d,c⟩:=h;exact⟨y,b++m,g,f++a,I,I,e,d,du.append sz c k⟩
def du.split(sz:Nat):∀(n:Nat){xs:L AV}{l:L Value}{F:L Nat},du w S sz xs l F->
 ∃a b,F=a++b/\du w S sz (xs.take n) (l.take<|n*sz) a/\du w S sz (xs.drop n) (l.drop<|n*sz) b
 |0,xs,l,F,h=>⟨[],F,I,by simp[du],by simpa using h⟩
 |n+1,[],l,F,h=>by simp[du]at h;obtain⟨rfl,rfl⟩:=h;exact⟨[],[],I,by simp[du],by simp[du]⟩
 |n+1,x::xs,l,F,h=>by
  obtain⟨y,j,a,b,rfl,rfl,g,f,d⟩:=h;obtain⟨c,i,rfl,k1,k2⟩:=du.split sz n d;have e:(n+1)*sz=y.cells.toList.length+n*sz:=by grind
  refine⟨a++c,i,I,?_,?_⟩;simp;exact⟨y,_,a,c,by grind,W,g,f,k1⟩;rw[e,List.drop_length_add_append];simpa using k2
def du.lens(sz:Nat){xs:L AV}{l:L Value}{F:L Nat}(i:Nat){x:AV}(h:du w S sz xs l F)(r:xs[i]?=some x):
 ∃y A m B,F=A++m++B/\y.cells.size=sz/\Rel w S x y m/\(∀j u,y.cells[j]?=some u->l[i*sz+j]?=some u)/\i*sz+sz<=l.length/\
  ∀(w':World)(S':Nat->Prop)(e:AV)(y':Value)(c:L Nat),(∀b,S b->S' b)->y'.cells.size=sz->
   (∀b,S b\/b∈A\/b∈B->w'.heap[b]?=w.heap[b]?)->Rel w' S' e y' c->
   du w' S' sz (xs.set i e) (l.take (i*sz)++y'.cells.toList++l.drop (i*sz+sz)) (A++c++B):=by
 obtain⟨A,a,rfl,H,v⟩:=du.split sz i h;have d:=(agn.1 r).1;have o:=(agn.1 r).2;rw[acJ d,o]at v;obtain⟨y,q,m,B,K,rfl,t,D,C⟩:=v;have hl:=du.length sz h;have g:i*sz+sz<=l.length:=by
  have:(i+1)*sz<=xs.length*sz:=acM _ d
  grind
 have n:y.cells.toList.length=sz:=t;have J:l.drop (i*sz+sz)=q:=by rw[<-afQ,K,<-n,List.drop_left]
 refine⟨y,A,m,B,I,t,D,λj u hu=>?_,g,λw' S' e y' c s hs k z=>?_⟩;have M:j<y.cells.toList.length:=by grind
 have:l[i*sz+j]?=(l.drop<|i*sz)[j]?:=I
 grind
 rw[J];have f:xs.set i e=xs.take i++(e::xs.drop (i+1)):=by rw[List.set_eq_take_append_cons_drop,aas d]
 rw[f,acT,acT];refine du.append sz (du.mono s sz _<|du.frame sz _ H λb p=>k b<|p.imp id .inl)<|⟨y',q,c,B,W,W,hs,z,du.mono s sz _<|du.frame sz _ C λb p=>k b<|p.imp id .inr⟩
end
section
variable{a:Addr}{w:World}
def cv(h:a.spot=none)(n:Nat):a.add n=⟨a.block,a.off+n,none⟩:=by cases a with|mk b o s=>cases h;unfold Addr.add;split<;>simp_all
def ny(h:a.spot=none){cs:Array Value}{c:Nat×Nat}(b:row? w a.block=some (cs,c)):w.cell? a=cs[a.off]?:=by
 unfold row? at b;unfold World.cell?
 grind
def cells_one{y:Value}(h:y.oneCell'=true):y.cells=#[y]:=by cases y<;>simp_all[Value.oneCell',Value.cells]
def bK(cs:Array Value):(Value.agg cs).cells=cs:=W
def At.cell{z:Value}(h:At w a z)(c:z.cells=#[z]):w.cell? a=some z:=by obtain⟨hs,e,d,b,hc⟩:=h;rw[ny hs b];have:=hc 0 z (by simp[c]);simpa using this
def Chg(w w':World)(a:Addr)(z:Value):Prop:=
 ∀c d,row? w a.block=some (c,d)->∃b,row? w' a.block=some (b,d)/\b.size=c.size/\(∀j u,z.cells[j]?=some u->b[a.off+j]?=some u)/\
  ∀k,k<a.off\/a.off+z.cells.size<=k->b[k]?=c[k]?
end
section
variable{w:World}{S:Nat->Prop}
def de{L:Loc}{z:Value}(h:holds w L z)(b:z.cells=#[z]){s:Step}(hs:∀o n,s≠.at o n):step1 w L s=cF z s:=by
 cases L with
 |val y=>simp[holds]at h;subst h;rfl
 |addr a=>
  cases s with
  | «at» o n=>simp_all
  |_=>simp[step1,At.cell h b]
def gq{b off:Nat}{cs:Array Value}{c:Nat×Nat}{z:Value}(d:row? w b=some (cs,c))(h:∀j u,z.cells[j]?=some u->cs[off+j]?=some u):At w ⟨b,off,none⟩ z:=⟨W,cs,c,d,h⟩
def At.same{w w':World}{a:Addr}{z:Value}(h:At w a z)(b:w'.heap[a.block]?=w.heap[a.block]?):At w' a z:=by obtain⟨hs,f,e,d,c⟩:=h;exact⟨hs,f,e,(lP b).trans d,c⟩
def Same(w w':World)(L:Loc):Prop:=∀a,L=.addr a->w'.heap[a.block]?=w.heap[a.block]?
def holds.same{w w':World}{L:Loc}{z:Value}(h:holds w L z)(hs:Same w w' L):holds w' L z:=by
 cases L with
 |val y=>exact h
 |addr a=>exact At.same h<|hs a W
def Same.val{w w':World}(y:Value):Same w w' (.val y):=λ_ h=>by cases h
def Same.addr{w w':World}{a:Addr}(h:w'.heap[a.block]?=w.heap[a.block]?):Same w w' (.addr a):=λ_ e=>by cases e;exact h
def Rel.step{s:Step}{p:Path}{x:AV}{z:Value}{F:List Nat}{L:Loc}{y:AV}(h:Rel w S x z F)(k:holds w L z)(g:bH x (s::p)=some y):
 ∃X x' z' F',step1 w L s=some X/\holds w X z'/\Rel w S x' z' F'/\bH x' p=some y/\(∀b∈F',b∈F)/\
  ∀w',Same w w' L->(∀b,S b\/b∈F->w'.heap[b]?=w.heap[b]?)->step1 w' L s=some X/\Same w w' X:=by
 unfold bH at g;split at g;rename_i f sz R i Y;split at g;rename_i B0;subst B0;obtain⟨V,m,g⟩:=aaV.1 g;cases f with
 |nil=>simp[Rel]at h;simp_all
 |shr=>
  simp only[Rel]at h;rcases h with⟨rfl,-,-⟩|⟨b,Z,K,D,fz,rfl,hS,J,hc,hE,rfl⟩;cases m;obtain⟨P,A,v,B,hF,hy,t,N,E2,-⟩:=du.lens sz i hE m;have hA:At w ((⟨b,Z,none⟩:Addr).add<|i*sz) P:=by
   rw[cv W];refine gq J λj u hu=>?_
   grind
  have F3:v=[]:=fP;refine⟨.addr _,V,P,v,by rw[de k W I];rfl,hA,t,g,λb C=>by grind,λw' e l=>?_⟩;exact⟨by rw[de (k.same e) W I];rfl,.addr<|by rw[cv W];exact l b<|.inl hS⟩
 |own=>
  simp only[Rel]at h;rcases h with⟨rfl,-,-⟩|⟨b,K,D,F',rfl,J,hc,hm,E1,hE,rfl⟩;cases m;obtain⟨P,A,v,B,rfl,hy,t,N,E2,-⟩:=du.lens sz i hE m;have hA:At w ((⟨b,0,none⟩:Addr).add<|i*sz) P:=by
   rw[cv W];refine gq J λj u hu=>?_
   grind
  refine⟨.addr _,V,P,v,by rw[de k W I];rfl,hA,t,g,λb C=>by simp[C],λw' e l=>?_⟩;exact⟨by rw[de (k.same e) W I];rfl,.addr<|by rw[cv W];simp_all⟩
 ·cases g
 rename_i own x0;simp only[Rel]at h;obtain⟨b,D,fz,F',z0,rfl,J,t,hz,h5⟩:=h;have hA:At w ⟨b,0,none⟩ z0:=gq J λj u hu=>fP;refine⟨.addr _,x0,z0,F',by rw[de k W I];rfl,hA,t,g,λc hc=>?_,λw' e l=>?_⟩
 grind
 refine⟨by rw[de (k.same e) W I];rfl,.addr<|l b ?_⟩
 grind
 rename_i R o;obtain⟨xo,A0,g⟩:=aaV.1 g;simp[Rel]at h;obtain⟨D,rfl,T⟩:=h;obtain⟨H,A,v,B,rfl,h1,t,hl,-⟩:=Cells.lens o T A0;have F0:=cells_one<|h1 W;have r:D[o]?=some H:=by simpa using hl
 cases L with
 |val q=>simp[holds]at k;subst k;exact⟨.val H,xo,H,v,by simp[step1,cF,r],W,t,g,λb C=>by simp[C],λw' _ _=>⟨by simp[step1,cF,r],.val _⟩⟩
 |addr a=>
  have O:∀M,At M a (.agg D)->At M (a.add o) H:=by
   rintro M⟨hs,F1,fz,J,hc⟩;rw[cv hs];refine gq J λj u hu=>?_;rw[F0]at hu
   match j,hu with
   |0,hu=>cases hu;simpa[bK]using hc o H (by simpa[bK]using r)
  exact⟨_,xo,H,v,W,O w k,t,g,λb C=>by simp[C],λw' e _=>⟨W,.addr<|by rw[cv k.1];exact e a W⟩⟩
 ·rename_i R o n;split at g;rename_i F2;simp[Rel]at h;obtain⟨D,rfl,T⟩:=h;obtain⟨A,d,rfl,c1,c2⟩:=Cells.split o T;obtain⟨v,B,rfl,d1,d2⟩:=Cells.split n c2;have t:Rel w S (.agg<|(R.drop o).take n) (.agg<|D.extract o<|o+n) v:=by
   simp only[Rel];simp_all
  cases L with
  |val q=>simp[holds]at k;subst k;exact⟨_,_,_,v,W,W,t,g,λb C=>by simp[C],λw' _ _=>⟨W,.val _⟩⟩
  |addr a=>
   have O:∀M,At M a (.agg D)->At M (a.add o) (.agg<|D.extract o<|o+n):=by rintro M⟨hs,F1,fz,J,hc⟩;rw[cv hs];refine gq J λj u hu=>?_;rw[bK,ahr]at hu;split at hu;have:=hc (o+j) u (by rw[bK];exact hu);grind;cases hu
   exact⟨_,_,_,v,W,O w k,t,g,λb C=>by simp[C],λw' e _=>⟨W,.addr<|by rw[cv k.1];exact e a W⟩⟩
  ·cases g
 rename_i R i;obtain⟨V,m,g⟩:=aaV.1 g;simp[Rel]at h;obtain⟨D,rfl,T⟩:=h;obtain⟨H,A,v,B,rfl,-,t,hl,-⟩:=Cells.lens i T m;have r:D[i]?=some H:=by simpa using hl
 exact⟨.val H,V,H,v,by rw[de k W I];simp[cF,r],W,t,g,λb C=>by simp[C],
  λw' e _=>⟨by rw[de (k.same e) W I];simp[cF,r],.val _⟩⟩
 rename_i f sz R Y o n;split at g;rename_i hc;obtain⟨rfl,h0,h1⟩:=hc;have hz:∃ad len K,z=.slice (some ad) len K:=by
  cases f with
  |nil=>simp[Rel]at h;simp_all
  |shr=>
   simp only[Rel]at h
   grind
  |own=>
   simp only[Rel]at h
   grind
 obtain⟨ad,len,K,rfl⟩:=hz;exact⟨.val _,.dead,_,[],by rw[de k W I];rfl,W,by simp[Rel],g,I,λw' e _=>⟨by rw[de (k.same e) W I];rfl,.val _⟩⟩;cases g;cases g
def Rel.read:∀(p:Path){x:AV}{z:Value}{F:List Nat}{L:Loc}{y:AV},Rel w S x z F->holds w L z->bH x p=some y->
 ∃L1 d f,loc w L p=some L1/\holds w L1 d/\Rel w S y d f/\(∀b∈f,b∈F)/\
  ∀w',Same w w' L->(∀b,S b\/b∈F->w'.heap[b]?=w.heap[b]?)->loc w' L p=some L1/\Same w w' L1
 |[],x,z,F,L,y,h,j,e=>by simp[bH]at e;subst e;exact⟨L,z,F,W,j,h,λ_ h=>h,λw' h _=>⟨W,h⟩⟩
 |s::p,x,z,F,L,y,h,j,e=>by obtain⟨A,v,u,F',t,r,q,o,k,n⟩:=Rel.step h j e;obtain⟨L1,d,f,k1,k2,k3,k4,k5⟩:=Rel.read p q r o;refine⟨L1,d,f,by rw[loc,t];exact k1,k2,k3,λb i=>k b<|k4 b i,λw' g c=>?_⟩;obtain⟨g1,g2⟩:=n w' g c;obtain⟨m,l⟩:=k5 w' g2 λb i=>c b<|i.imp id<|k b;exact⟨by rw[loc,g1];exact m,l⟩
end
section
variable{w:World}{S:Nat->Prop}
def Loc.fu:Loc->Q Nat
 |.val _=>none
 |.addr a=>some a.block
def acA(L:Loc)(z:Value)(A:List Nat):Loc->Value->Prop
 |.val _,_=>True
 |.addr b,c=>b.block∈A\/∃a,L=.addr a/\b.block=a.block/\a.off<=b.off/\b.off+c.cells.size<=a.off+z.cells.size
def aaO(w w':World)(L1:Loc)(b a:Value):Prop:=
 match L1 with
 |.val _=>a=b
 |.addr c=>Chg w w' c a
def vS(w':World)(z:Value):Loc->Value->Prop
 |.val _,b=>b=z
 |.addr a,b=>At w' a b
def N7{l y:L Value}{k sz n:Nat}(hl:k+sz<=l.length)(d:y.length=sz){cs':L Value}(a:cs'.length=l.length)
 (f:∀j,j<sz->cs'[k+j]?=y[j]?)(c:∀j,j<k\/k+sz<=j->cs'[j]?=l[j]?):cs'=l.take k++y++l.drop (k+sz):=by
 apply agG;intro j;by_cases e:j<k
 grind
 by_cases b:j<k+sz
 grind
 rw[c j<|.inr E,afx<|by simp;omega]
 grind
def Rel.iy:∀(p:Path){x x' y y':AV}{z:Value}{F:List Nat}{L:Loc},Rel w S x z F->holds w L z->bH x p=some y->ff x p y'=some x'->
 F.Nodup->(∀b∈F,¬S b)->(∀b,L.fu=some b->¬S b/\b∉F)->
 ∃L1 z1 A F1 B,loc w L p=some L1/\holds w L1 z1/\Rel w S y z1 F1/\F=A++F1++B/\acA L z A L1 z1/\
  ∀(w':World)(S':Nat->Prop)(J:Value)(H:List Nat),(∀b,S b->S' b)->J.cells.size=z1.cells.size->(z1.oneCell'=true->J.oneCell'=true)->
   (∀b,(S b\/b∈A\/b∈B\/L.fu=some b)->L1.fu≠some b->w'.heap[b]?=w.heap[b]?)->aaO w w' L1 z1 J->Rel w' S' y' J H->
   ∃Y,Rel w' S' x' Y (A++H++B)/\Y.cells.size=z.cells.size/\(z.oneCell'=true->Y.oneCell'=true)/\vS w' z L Y
 |[],x,x',y,y',z,F,L,h,hL,Z,hs,_,_,_=>by
  simp only[bH,ff,aaP]at Z hs;subst Z hs;refine⟨L,z,[],F,[],W,hL,h,I,?_,λw' S' J H hS hz h1 m ht hr=>⟨J,by simpa using hr,hz,h1,?_⟩⟩;cases L with
  |val q=>trivial
  |addr a=>exact .inr ⟨a,W,W,aaU _,aaU _⟩
  ·cases L with
   |val q=>exact ht
   |addr a=>obtain⟨D,cs,fz,M,hc⟩:=hL;obtain⟨t,e1,e2,e3,e4⟩:=ht cs fz M;exact⟨D,t,fz,e1,e3⟩
 |s::p,x,x',y,y',z,F,L,h,hL,Z,hs,hN,G1,T=>by
  unfold bH at Z;split at Z;rename_i f sz xs i W1;split at Z;rename_i H6;subst H6;cases f with
  |nil=>simp[ff]at hs
  |shr=>simp[ff]at hs
  |own=>
   obtain⟨xi,G2,Z⟩:=aaV.1 Z;simp only[ff,G2,if_true,aeu,aeT]at hs;obtain⟨L0,hs,rfl⟩:=hs;simp only[Rel]at h;rcases h with⟨rfl,-,-⟩|⟨b,cap,cs,F',rfl,hr,hc,hm,M1,hE,rfl⟩;simp at G2;obtain⟨yi,A0,Fx,B0,rfl,hy,hR,hcell,hle,F4⟩:=du.lens sz i hE G2;have hA:At w ⟨b,i*sz,none⟩ yi:=gq hr λj u hu=>by grind
   have hxl:i<xs.length:=(agn.1 G2).1;have hEl:=du.length sz hE;simp only[ade,ae7]at hEl hle;have P1:=ad2.1 hN;simp only[ac6,not_or]at P1;have G4:Fx.Nodup:=by grind
   obtain⟨L1,z1,A,F1,B,k1,k2,k3,rfl,k5,k6⟩:=Rel.iy p (L:=.addr ⟨b,i*sz,none⟩) hR hA Z hs G4
    (λc g=>G1 c<|by simp[g]) (λc g=>by simp[Loc.fu]at g;simp_all)
   refine⟨L1,z1,b::(A0++A),F1,B++B0,?_,k2,k3,I,?_,λw' S' J H hS hz h1 m ht E2=>?_⟩;rw[loc,de hL W I,cF,cv W];simpa using k1;cases L1 with
   |val q=>trivial
   |addr v=>rcases k5 with k5|⟨a,O,k5,_⟩;exact .inl (by simp[k5]);cases O;exact .inl (by simp[k5])
   ·have G3:∀c,(S c\/c∈A\/c∈B\/Loc.fu (.addr ⟨b,i*sz,none⟩)=some c)->L1.fu≠some c->w'.heap[c]?=w.heap[c]?:=λc g F0=>
     m c (by rcases g with h|h|h|h<;>simp[Loc.fu]at h⊢ <;>simp[h]) F0
    obtain⟨Y,j1,j2,j3,j4⟩:=k6 w' S' J H hS hz h1 G3 ht E2;have H2:∃t,row? w' b=some (t,(0,0))/\t.size=cs.size/\∀k,k<i*sz\/i*sz+sz<=k->t[k]?=cs[k]?:=by
     by_cases K:L1.fu=some b;cases L1 with
     |val q=>simp[Loc.fu]at K
     |addr v=>
      simp only[Loc.fu,aaP]at K;rcases k5 with k5|⟨a,O,k5,k7,k8⟩;simp_all;cases O;obtain⟨t,e1,e2,e3,e4⟩:=ht cs (0,0) (by rw[K];exact hr)
      grind
     ·exact⟨cs,(lP<|m b I K).trans hr,W,λ_ _=>rfl⟩
    obtain⟨t,r1,r2,r3⟩:=H2;have H4:At w' ⟨b,i*sz,none⟩ Y:=j4;obtain⟨-,P,V,rx,E1⟩:=H4;simp only at rx E1;rw[r1]at rx;obtain⟨rfl,rfl⟩:t=P/\(0,0)=V:=by simpa using rx
    have V0:=F4 w' S' L0 Y (A++H++B) hS (by rw[j2,hy]) (λc g=>m c (by
     grind) (λl=>by
      cases L1 with
      |val q=>simp[Loc.fu]at l
      |addr v=>
       simp only[Loc.fu,aaP]at l;have hin:c∈b::A:=by
        rcases k5 with k5|⟨a,O,k5,_⟩;simp[<-l,k5]
        grind
       grind)) j1
    refine⟨_,?_,W,λh=>h,?_⟩;simp only[Rel];refine .inr ⟨b,cap,t,A0++(A++H++B)++B0,by rw[afL],r1,fP,hm,by rw[r2];exact M1,?_,I⟩;rw[afL];have e:t.toList.take (xs.length*sz)=(cs.toList.take<|xs.length*sz).take (i*sz)++Y.cells.toList++(cs.toList.take<|xs.length*sz).drop (i*sz+sz):=by
     refine N7 (n:=0) (by simp;omega) (by simp[j2,hy]) (by simp[r2]) (λj hj=>?_) λj hj=>?_;rw[ahU E];simp_all
     grind
    rw[e];exact V0;cases L with
    |val q=>rfl
    |addr a=>
     obtain⟨D,X,N,M,F2⟩:=hL;have P0:a.block∉b::(A0++(A++F1++B)++B0):=(T a.block W).2;refine⟨D,X,N,(lP<|m a.block (by simp[Loc.fu]) λl=>?_).trans M,F2⟩;cases L1 with
     |val q=>simp[Loc.fu]at l
     |addr v=>
      simp only[Loc.fu,aaP]at l;rcases k5 with k5|⟨a',O,k5,_⟩;simp_all
      grind
  ·simp at Z
  rename_i own x0;cases own with
  |false=>simp[ff]at hs
  |true=>
   simp only[ff,aeT]at hs;obtain⟨x0',hs,rfl⟩:=hs;simp only[Rel,if_true]at h;obtain⟨b,cs,fz,F',z0,rfl,hr,hR,hz0,rfl,rfl⟩:=h;have hA:At w ⟨b,0,none⟩ z0:=gq hr λj u hu=>fP;have P1:=ad2.1 hN;obtain⟨L1,z1,A,F1,B,k1,k2,k3,rfl,k5,k6⟩:=Rel.iy p (L:=.addr ⟨b,0,none⟩) hR hA Z hs P1.2
    (λc g=>G1 c<|by simp[g]) (λc g=>by simp[Loc.fu]at g;simp_all)
   refine⟨L1,z1,b::A,F1,B,?_,k2,k3,I,?_,λw' S' J H hS hz h1 m ht E2=>?_⟩;rw[loc,de hL W I,cF];simpa using k1;cases L1 with
   |val q=>trivial
   |addr v=>rcases k5 with k5|⟨a,O,k5,_⟩;exact .inl (by simp[k5]);cases O;exact .inl (by simp[k5])
   ·have G3:∀c,(S c\/c∈A\/c∈B\/Loc.fu (.addr ⟨b,0,none⟩)=some c)->L1.fu≠some c->w'.heap[c]?=w.heap[c]?:=λc g F0=>
     m c (by rcases g with h|h|h|h<;>simp[Loc.fu]at h⊢ <;>simp[h]) F0
    obtain⟨Y,j1,j2,j3,j4⟩:=k6 w' S' J H hS hz h1 G3 ht E2;have H2:∃t,row? w' b=some (t,(0,0))/\t.size=cs.size:=by
     by_cases K:L1.fu=some b;cases L1 with
     |val q=>simp[Loc.fu]at K
     |addr v=>simp only[Loc.fu,aaP]at K;obtain⟨t,e1,e2,e3,e4⟩:=ht cs (0,0) (by rw[K];exact hr);exact⟨t,by rw[<-K];exact e1,e2⟩
     ·exact⟨cs,(lP<|m b I K).trans hr,W⟩
    obtain⟨t,r1,r2⟩:=H2;have H4:At w' ⟨b,0,none⟩ Y:=j4;obtain⟨-,P,V,rx,E1⟩:=H4;simp only at rx E1;rw[r1]at rx;obtain⟨rfl,rfl⟩:t=P/\(0,0)=V:=by simpa using rx
    refine⟨_,?_,W,λh=>h,?_⟩;simp only[Rel,if_true];refine⟨b,t,(0,0),A++H++B,Y,W,r1,j1,?_,W,I⟩;apply ahs;intro j;by_cases hj:j<Y.cells.size;have:=E1 j Y.cells[j] (by simp[hj]);simp only[af0]at this;rw[this];simp[hj];have M2:¬j<t.size:=by rw[r2,<-hz0,<-j2];exact hj
    simp[hj,M2];cases L with
    |val q=>rfl
    |addr a=>
     obtain⟨D,X,N,M,F2⟩:=hL;have P0:a.block∉b::(A++F1++B):=(T a.block W).2;refine⟨D,X,N,(lP<|m a.block (by simp[Loc.fu]) λl=>?_).trans M,F2⟩;cases L1 with
     |val q=>simp[Loc.fu]at l
     |addr v=>simp only[Loc.fu,aaP]at l;rcases k5 with k5|⟨a',O,k5,_⟩;exact P0 (by simp[<-l,k5]);cases O;simp only at k5;exact P0 (by simp[<-l,k5])
  ·rename_i xs o;obtain⟨xo,S1,Z⟩:=aaV.1 Z;simp only[ff,S1,aeu,aeT]at hs;obtain⟨V2,hs,rfl⟩:=hs;simp only[Rel]at h;obtain⟨cs,rfl,hC⟩:=h;obtain⟨y0,A0,Fx,B0,rfl,h1,hR,hl,F4⟩:=Cells.lens o hC S1;have V1:=cells_one<|h1 W;have H1:cs[o]?=some y0:=by simpa using hl
   have R:∃L',step1 w L (.at o none)=some L'/\holds w L' y0/\L'.fu=L.fu/\(∀a,L=.addr a->L'=.addr ⟨a.block,a.off+o,none⟩)/\∀q,L=.val q->L'=.val y0:=by
    cases L with
    |val q=>simp only[holds]at hL;subst hL;exact⟨.val y0,by simp only[step1,cF];simp[H1],W,W,I,I⟩
    |addr a=>
     obtain⟨D,t,fz,hr,hc⟩:=hL;refine⟨_,W,?_,by rw[cv D];rfl,λa' O=>by cases O;rw[cv D],I⟩;rw[cv D];refine gq hr λj u hu=>?_;rw[V1]at hu
     match j,hu with
     |0,hu=>simp at hu;subst hu;simpa[bK]using hc o y0 (by simpa[bK]using H1)
   obtain⟨L',e1,e2,e3,e4,e5⟩:=R;have G4:Fx.Nodup:=by rw[acH,acH]at hN;exact hN.1.2.1
   obtain⟨L1,z1,A,F1,B,k1,k2,k3,rfl,k5,k6⟩:=Rel.iy p hR e2 Z hs G4 (λc g=>G1 c<|by simp[g])
    (λc g=>by rw[e3]at g;exact⟨(T c g).1,λhm=>(T c g).2<|by simp[hm]⟩)
   have hW:∀v,L1=.addr v->v.block∈A\/∃a,L=.addr a/\v.block=a.block/\a.off+o<=v.off/\v.off+z1.cells.size<=a.off+o+1:=by
    intro v H3;subst H3;rcases k5 with k5|⟨a',O,g1,g2,g3⟩;exact .inl k5;cases C:L with
    |val q=>rw[e5 q C]at O;cases O
    |addr a=>rw[e4 a C]at O;cases O;exact .inr ⟨a,W,g1,g2,by rw[V1]at g3;simpa using g3⟩
   refine⟨L1,z1,A0++A,F1,B++B0,by rw[loc,e1];exact k1,k2,k3,I,?_,λw' S' J H hS hz H5 m ht E2=>?_⟩;cases r:L1 with
   |val q=>trivial
   |addr v=>rcases hW v r with k|⟨a,g1,g2,g3,g4⟩;exact .inl (by simp[k]);refine .inr ⟨a,g1,g2,E,?_⟩;have:o<cs.size:=(afR.1 H1).1;rw[bK];omega
   ·obtain⟨Y,j1,j2,j3,j4⟩:=k6 w' S' J H hS hz H5 (λc g F0=>m c (by
     rcases g with h|h|h|h;exact .inl h;exact .inr<|.inl<|by simp[h]
     exact .inr<|.inr<|.inl<|by simp[h]
     exact .inr<|.inr<|.inr<|by rw[e3]at h;exact h) F0) ht E2
    have F3:=F4 w' S' V2 Y (A++H++B) hS (λ_=>j3<|h1 W) (λc g=>m c (by
     rcases g with h|h|h;exact .inl h;exact .inr<|.inl<|by simp[h]
     exact .inr<|.inr<|.inl<|by simp[h]) (λl=>by
     cases r:L1 with
     |val q=>rw[r]at l;simp[Loc.fu]at l
     |addr v=>rw[r]at l;simp only[Loc.fu,aaP]at l;rcases hW v r with k|⟨a,g1,g2,-⟩;rw[l]at k;rcases g with h|h|h;exact G1 c (by simp[k]) h;rw[acH,acH]at hN;exact hN.1.2.2 c h c (by simp[k]) W;rw[acH]at hN;exact hN.2.2 c (by simp[k]) c h W;have:=T c (by rw[g1,<-l,g2];rfl);rcases g with h|h|h;exact this.1 h;exact this.2 (by simp[h]);exact this.2<|by simp[h])) j1
    refine⟨.agg<|cs.setIfInBounds o Y,?_,by simp[bK],λh=>by simp[Value.oneCell']at h,?_⟩;simp only[Rel];exact⟨_,W,by simpa using F3⟩;cases C:L with
    |val q=>
     rw[e5 q C]at j4;simp only[vS]at j4⊢;subst j4
     congr 1
     apply ahs;intro j;rw[Array.getElem?_setIfInBounds];split;rename_i hj;subst hj;split;exact H1.symm;rename_i hh;rw[ago E];rfl
    |addr a=>
     rw[e4 a C]at j4;rw[C]at hL m;obtain⟨D,X,N,M,F2⟩:=hL;obtain⟨-,P,V,rx,E1⟩:=j4;simp only at rx E1;have X2:=cells_one<|j3<|h1 W;refine⟨D,P,V,rx,λj u hu=>?_⟩;rw[bK,Array.getElem?_setIfInBounds]at hu;split at hu;rename_i hj;subst hj;split at hu;simp only[aaP]at hu;subst hu;have:=E1 0 Y (by rw[X2];rfl);simpa using this;simp at hu;rename_i hj;have G0:=F2 j u (by rw[bK];exact hu);by_cases K:L1.fu=some a.block;cases r:L1 with
     |val q=>rw[r]at K;simp[Loc.fu]at K
     |addr v=>
      rw[r]at K ht;simp only[Loc.fu,aaP]at K;rcases hW v r with k|⟨a',g1,g2,g3,g4⟩;exact aaF (by simp[K▸k])<|(T a.block<|by rw[C];rfl).2;rw[C]at g1;cases g1;obtain⟨t,q1,q2,q3,q4⟩:=ht X N (by rw[K];exact M);rw[K,rx]at q1;obtain⟨rfl,rfl⟩:P=t/\V=N:=by simpa using q1
      rw[q4 _<|by rw[hz];omega];exact G0
     ·have:=lP (m a.block (by simp[Loc.fu]) K);rw[rx,M]at this;obtain⟨rfl,rfl⟩:P=X/\V=N:=by simpa using this
      exact G0
  rename_i xs o n;split at Z;rename_i hon;simp only[ff,hon,if_true,aaV]at hs;obtain⟨xs',hs,G6⟩:=hs;simp only[Rel]at h;obtain⟨cs,rfl,hC⟩:=h;obtain⟨A0,d,rfl,c1,c2⟩:=Cells.split o hC;obtain⟨Fx,B0,rfl,d1,d2⟩:=Cells.split n c2;rw[afQ,afQ]at d2;have S2:=Cells.length hC;have hlen':cs.size=xs.length:=by simpa using S2
  have hR:Rel w S (.agg<|(xs.drop o).take n) (.agg<|cs.extract o<|o+n) Fx:=by simp only[Rel];refine⟨_,W,?_⟩;have:(cs.extract o<|o+n).toList=(cs.toList.drop o).take n:=I;rw[this];exact d1
  have H6:(Value.agg<|cs.extract o<|o+n).cells.size=n:=by rw[bK];simp;omega
  have R:∃L',step1 w L (.at o<|some n)=some L'/\holds w L' (.agg<|cs.extract o<|o+n)/\L'.fu=L.fu/\(∀a,L=.addr a->L'=.addr ⟨a.block,a.off+o,none⟩)/\
   ∀q,L=.val q->L'=.val (.agg<|cs.extract o<|o+n):=by
   cases L with
   |val q=>simp only[holds]at hL;subst hL;exact⟨_,W,W,W,I,I⟩
   |addr a=>obtain⟨D,t,fz,hr,hc⟩:=hL;refine⟨_,W,?_,by rw[cv D];rfl,λa' O=>by cases O;rw[cv D],I⟩;rw[cv D];refine gq hr λj u hu=>?_;rw[bK,ahr]at hu;split at hu;have:=hc (o+j) u (by rw[bK];exact hu);simpa[aht]using this;simp at hu
  obtain⟨L',e1,e2,e3,e4,e5⟩:=R;have G4:Fx.Nodup:=by rw[acH,acH]at hN;exact hN.2.1.1
  obtain⟨L1,z1,A,F1,B,k1,k2,k3,rfl,k5,k6⟩:=Rel.iy p hR e2 Z hs G4 (λc g=>G1 c<|by simp[g])
   (λc g=>by rw[e3]at g;exact⟨(T c g).1,λhm=>(T c g).2<|by simp[hm]⟩)
  have hW:∀v,L1=.addr v->v.block∈A\/∃a,L=.addr a/\v.block=a.block/\a.off+o<=v.off/\v.off+z1.cells.size<=a.off+o+n:=by
   intro v H3;subst H3;rcases k5 with k5|⟨a',O,g1,g2,g3⟩;exact .inl k5;cases C:L with
   |val q=>rw[e5 q C]at O;cases O
   |addr a=>rw[e4 a C]at O;cases O;exact .inr ⟨a,W,g1,g2,by rw[H6]at g3;exact g3⟩
  refine⟨L1,z1,A0++A,F1,B++B0,by rw[loc,e1];exact k1,k2,k3,I,?_,λw' S' J H hS hz H5 m ht E2=>?_⟩;cases r:L1 with
  |val q=>trivial
  |addr v=>rcases hW v r with k|⟨a,g1,g2,g3,g4⟩;exact .inl (by simp[k]);refine .inr ⟨a,g1,g2,E,?_⟩;rw[bK];omega
  ·obtain⟨Y,j1,j2,j3,j4⟩:=k6 w' S' J H hS hz H5 (λc g F0=>m c (by
    rcases g with h|h|h|h;exact .inl h;exact .inr<|.inl<|by simp[h]
    exact .inr<|.inr<|.inl<|by simp[h]
    exact .inr<|.inr<|.inr<|by rw[e3]at h;exact h) F0) ht E2
   split at G6;rename_i ys;split at G6;rename_i hys;simp only[aaP]at G6;subst G6;simp only[Rel]at j1;obtain⟨S0,rfl,hC1⟩:=j1;have K2:S0.size=n:=by rw[H6,bK]at j2;exact j2
   have G5:∀c,(S c\/c∈A0\/c∈B0)->w'.heap[c]?=w.heap[c]?:=λc g=>m c (by
    rcases g with h|h|h;exact .inl h;exact .inr<|.inl<|by simp[h]
    exact .inr<|.inr<|.inl<|by simp[h]) (λl=>by
    cases r:L1 with
    |val q=>rw[r]at l;simp[Loc.fu]at l
    |addr v=>rw[r]at l;simp only[Loc.fu,aaP]at l;rcases hW v r with k|⟨a,g1,g2,-⟩;rw[l]at k;rcases g with h|h|h;exact G1 c (by simp[k]) h;rw[acH]at hN;exact hN.2.2 c h c (by simp[k]) W;rw[acH,acH]at hN;exact hN.2.1.2.2 c (by simp[k]) c h W;have:=T c (by rw[g1,<-l,g2];rfl);rcases g with h|h|h;exact this.1 h;exact this.2 (by simp[h]);exact this.2<|by simp[h])
   have S4:Cells w' S' true (xs.take o++ys++xs.drop (o+n)) (cs.toList.take o++S0.toList++cs.toList.drop (o+n)) (A0++(A++H++B)++B0):=
    Cells.append (Cells.append (Cells.mono hS _<|Cells.frame _ c1 λc g=>G5 c<|g.imp id .inl) hC1)
     (Cells.mono hS _<|Cells.frame _ d2 λc g=>G5 c<|g.imp id .inr)
   refine⟨.agg (cs.toList.take o++S0.toList++cs.toList.drop (o+n)).toArray,?_,?_,λh=>by simp[Value.oneCell']at h,?_⟩;simp only[Rel];exact⟨_,W,by simpa using S4⟩;rw[bK,bK];simp;omega;cases C:L with
   |val q=>
    rw[e5 q C]at j4;simp only[vS,Value.agg.injEq]at j4⊢;subst j4;apply ahs;intro j;simp only[List.getElem?_toArray];by_cases hj:j<o;rw[acT,afM<|by simp;omega,ahU hj];simp;by_cases M2:j<o+n;rw[acT,afx<|by simp;omega,afM<|by simp;omega];simp only[af5,ahr,ade,ae7];rw[aas E]
    congr 1;omega
    rw[afx<|by simp;omega];simp only[agp,af5,acU,ade,ae7,K2]
    congr 1;omega
   |addr a=>
    rw[e4 a C]at j4;rw[C]at hL m;obtain⟨D,X,N,M,F2⟩:=hL;obtain⟨-,P,V,rx,E1⟩:=j4;simp only at rx E1;refine⟨D,P,V,rx,λj u hu=>?_⟩;rw[bK]at hu;simp only[List.getElem?_toArray]at hu;have K0:∀j u,(j<o\/o+n<=j)->cs[j]?=some u->P[a.off+j]?=some u:=by
     intro j u hj hu;have G0:=F2 j u (by rw[bK];exact hu);by_cases K:L1.fu=some a.block;cases r:L1 with
     |val q=>rw[r]at K;simp[Loc.fu]at K
     |addr v=>
      rw[r]at K ht;simp only[Loc.fu,aaP]at K;rcases hW v r with k|⟨a',g1,g2,g3,g4⟩;exact aaF (by simp[K▸k])<|(T a.block<|by rw[C];rfl).2;rw[C]at g1;cases g1;obtain⟨t,q1,q2,q3,q4⟩:=ht X N (by rw[K];exact M);rw[K,rx]at q1;obtain⟨rfl,rfl⟩:P=t/\V=N:=by simpa using q1
      rw[q4 _<|by rw[hz];omega];exact G0
     ·have:=lP (m a.block (by simp[Loc.fu]) K);rw[rx,M]at this;obtain⟨rfl,rfl⟩:P=X/\V=N:=by simpa using this
      exact G0
    by_cases hj:j<o;rw[acT,afM<|by simp;omega,ahU hj]at hu;exact K0 j u (.inl hj) (by simpa using hu);by_cases M2:j<o+n;rw[acT,afx<|by simp;omega,afM<|by simp;omega]at hu;simp only[af5,ade,ae7]at hu;have:=E1 (j-min o cs.size) u (by rw[bK];exact hu);rw[<-this];congr 1;omega;rw[afx<|by simp;omega]at hu;simp only[agp,af5,acU,ade,ae7,K2]at hu;refine K0 j u (.inr E) ?_;rw[<-hu];congr 1;omega
   ·simp at G6
   simp at G6
  simp at Z;rename_i xs i;obtain⟨xi,G2,Z⟩:=aaV.1 Z;simp only[ff,G2,aeu,aeT]at hs;obtain⟨L0,hs,rfl⟩:=hs;simp only[Rel]at h;obtain⟨cs,rfl,hC⟩:=h;obtain⟨y0,A0,Fx,B0,rfl,-,hR,hl,F4⟩:=Cells.lens i hC G2;have H1:cs[i]?=some y0:=by simpa using hl
  have R:step1 w L (.bU i)=some (.val y0):=by rw[de hL W I];simp[cF,H1]
  have G4:Fx.Nodup:=by rw[acH,acH]at hN;exact hN.1.2.1
  obtain⟨L1,z1,A,F1,B,k1,k2,k3,rfl,k5,k6⟩:=Rel.iy p (L:=.val y0) hR W Z hs G4 (λc g=>G1 c<|by simp[g]) (by simp[Loc.fu]);have hW:∀v,L1=.addr v->v.block∈A:=by intro v H3;subst H3;rcases k5 with k5|⟨a',O,_⟩;exact k5;cases O
  refine⟨L1,z1,A0++A,F1,B++B0,by rw[loc,R];exact k1,k2,k3,I,?_,λw' S' J H hS hz H5 m ht E2=>?_⟩;cases r:L1 with
  |val q=>trivial
  |addr v=>exact .inl (by simp[hW v r])
  ·obtain⟨Y,j1,j2,j3,j4⟩:=k6 w' S' J H hS hz H5 (λc g F0=>m c (by
    rcases g with h|h|h|h;exact .inl h;exact .inr<|.inl<|by simp[h]
    exact .inr<|.inr<|.inl<|by simp[h]
    simp[Loc.fu]at h) F0) ht E2
   simp only[vS]at j4;subst j4;have F3:=F4 w' S' L0 Y (A++H++B) hS I (λc g=>m c (by
    rcases g with h|h|h;exact .inl h;exact .inr<|.inl<|by simp[h]
    exact .inr<|.inr<|.inl<|by simp[h]) (λl=>by
    cases r:L1 with
    |val q=>rw[r]at l;simp[Loc.fu]at l
    |addr v=>rw[r]at l;simp only[Loc.fu,aaP]at l;have k:=hW v r;rw[l]at k;rcases g with h|h|h;exact G1 c (by simp[k]) h;rw[acH,acH]at hN;exact hN.1.2.2 c h c (by simp[k]) W;rw[acH]at hN;exact hN.2.2 c (by simp[k]) c h W)) j1
   refine⟨.tuple cs,?_,W,λh=>h,?_⟩;simp only[Rel];refine⟨cs,W,?_⟩;have:cs.toList.set i Y=cs.toList:=by apply agG;intro j;rw[agH];split;rename_i hj;subst hj;split;exact hl.symm;rename_i hh;rw[aex E];rfl
   rw[this]at F3;simpa using F3;cases C:L with
   |val q=>rfl
   |addr a=>
    rw[C]at hL m;obtain⟨D,X,N,M,F2⟩:=hL;refine⟨D,X,N,(lP<|m a.block (by simp[Loc.fu]) λl=>?_).trans M,F2⟩;cases r:L1 with
    |val q=>rw[r]at l;simp[Loc.fu]at l
    |addr v=>rw[r]at l;simp only[Loc.fu,aaP]at l;have k:=hW v r;rw[l]at k;exact(T a.block<|by rw[C];rfl).2 (by simp[k])
  rename_i f sz xs W1 o n;cases f<;>simp[ff]at hs;simp at Z
end
section
variable{F:L Nat}{i:Nat}{S:Nat->Prop}{T:Nat->Value}{p:Path}{α:Type}{w w':World}
structure Sl where
 av:AV
 g1:Nat
 g2:Nat
instance:Inhabited Sl:=⟨⟨.dead,0,0⟩⟩
abbrev St:=Nat->Sl
def iy(f:Nat->α)(i:Nat)(x:α):Nat->α:=λj=>if j=i then x else f j
def aI(f:Nat->α)(i:Nat)(x:α):iy f i x i=x:=by simp[iy]
def ar(f:Nat->α){j:Nat}(x:α)(h:j≠i):iy f i x j=f j:=by simp[iy,h]
def flat:Path->Bool
 |[]=>false
 |_::p=>p.all λ|.at .. =>true|_=>false
def lu:Path->Bool
 |[]=>true
 |[.nF ..]=>true
 |[.bU _]=>true
 |_=>false
def RJ:Path->Bool
 |[]=>true
 |[.bU _]=>true
 |_=>false
def Iu{q:Prop}(h:RJ p=true\/q):lu p=true\/q:=h.imp (λh=>by unfold RJ at h;split at h;rfl;rfl;cases h) id
def Hz(h:lu p=true)(z:Value):loc w (.val z) p=loc w' (.val z) p:=by unfold lu at h;split at h;rfl;simp[loc,step1];simp[loc,step1];cases h
def HB(h:lu p=true){z:Value}{L:Loc}(hl:loc w (.val z) p=some L):∃u,L=.val u:=by
 unfold lu at h;split at h;simp[loc]at hl;exact⟨z,hl.symm⟩;simp[loc,step1]at hl;cases z<;>simp[cF]at hl
 grind
 simp[loc,step1]at hl;cases z<;>simp[cF]at hl
 grind
 cases h
def Jl{w w':World}:∀(p:Path)(a:Addr),(p.all λ|.at .. =>true|_=>false)=true->loc w (.addr a) p=loc w' (.addr a) p
 |[],a,_=>rfl
 |.at o n::p,a,h=>by exact Jl p _ h
 |.idx .. ::p,a,h=>by cases h
 |.deref::p,a,h=>by cases h
 |.bU .. ::p,a,h=>by cases h
 |.nF .. ::p,a,h=>by cases h
def Bw{w w':World}:∀(p:Path)(z:Value),(p.all λ|.at .. =>true|_=>false)=true->loc w (.val z) p=loc w' (.val z) p
 |[],z,_=>rfl
 |.at o n::p,z,h=>by
  simp[loc,step1];have c:=h;cases hh:cF z (.at o n)with
  |none=>rfl
  |some b=>
   cases b with
   |val y=>exact Bw p y c
   |addr a=>exact Jl p a c
 |.idx .. ::p,a,h=>by cases h
 |.deref::p,a,h=>by cases h
 |.bU .. ::p,a,h=>by cases h
 |.nF .. ::p,a,h=>by cases h
def LM(h:flat p=true)(z:Value):loc w (.val z) p=loc w' (.val z) p:=by
 cases p with
 |nil=>rfl
 |cons s p=>
  simp[loc,step1];cases hh:cF z s with
  |none=>rfl
  |some b=>
   cases b with
   |val y=>exact Bw p y h
   |addr a=>exact Jl p a h
def an(w:World)(S:Nat->Prop)(σ:St)(T:Nat->Value)(i:Nat)(F:L Nat):Prop:=
 match(σ i).av with
 |.bw r g1 g2 p=>F=[]/\g1<=(σ r).g1/\g2<=(σ r).g2/\((σ r).g1=g1->(lu p=true\/(σ r).g2=g2)->(lu p=false->∃y,bH (σ r).av p=some y)->
   ∃a,loc w (.val<|T r) p=some a/\holds w a (T i)/\∀d,a=.addr d->(T i).oneCell'=true)
 |.ptr r g1 g2 p=>F=[]/\g1<=(σ r).g1/\g2<=(σ r).g2/\(∃d,T i=.pointer (some d))/\((σ r).g1=g1->(flat p=true\/(σ r).g2=g2)->(flat p=false->∃y,bH (σ r).av p=some y)->
   ∃d,loc w (.val<|T r) p=some (.addr d)/\T i=.pointer (some d))
 |.abs J=>∀w' e,(∀b,S b\/b∈F->w'.heap[b]?=w.heap[b]?)->(∀b,S b->e b)->J w' e F
 |.gI g c=>F=[]/\(∀q∈c,q.2<=(σ q.1).g1)/\((∀q∈c,(σ q.1).g1=q.2)->T i=.func (.func g) #[] (c.map λq=>T q.1).toArray)
 |av=>Rel w S av (T i) F
def AV.plain:AV->Bool
 |.bw .. |.ptr .. |.abs .. |.gI .. =>false
 |_=>true
def an.aC{σ:St}(a:(σ i).av.plain=true):an w S σ T i F↔Rel w S (σ i).av (T i) F:=by unfold an;split;rename_i h;rw[h]at a;simp[AV.plain]at a;rename_i h;rw[h]at a;simp[AV.plain]at a;rename_i h;rw[h]at a;simp[AV.plain]at a;rename_i h;rw[h]at a;simp[AV.plain]at a;rfl
def Rel.plain{av:AV}{y:Value}(h:Rel w S av y F):av.plain=true:=by cases av<;>simp_all[Rel,AV.plain]
structure aU(S:Nat->Prop)(B:Nat->Prop)(σ:St)(T:Nat->Value)(w:World)(F:Nat->List Nat):Prop where
 rel:∀i,an w S σ T i<|F i
 nodup:∀i,(F i).Nodup
 di:∀i j,i≠j->∀b∈F i,b∉F j
 own:∀i,∀b∈F i,B b/\b<w.heap.size/\¬S b
 shr:∀b,S b->b<w.heap.size
structure aeq(S:Nat->Prop)(σ σ':St)(T T':Nat->Value)(w w':World)(F:Nat->List Nat):Prop where
 g1:∀r,(σ r).g1<=(σ' r).g1
 g2:∀r,(σ r).g2<=(σ' r).g2
 val:∀r,(σ' r).g1=(σ r).g1->T' r=T r
 ins:∀r,(σ' r).g1=(σ r).g1->(σ' r).g2=(σ r).g2->(∀p y,bH (σ' r).av p=some y->∃y',bH (σ r).av p=some y')/\∀b,S b\/b∈F r->w'.heap[b]?=w.heap[b]?
def an.goes{S':Nat->Prop}{σ c:St}{T':Nat->Value}{F:Nat->List Nat}(hc:∀i,an w S σ T i<|F i)(a:aeq S σ c T T' w w' F)
 (hS:∀b,S b->S' b)(R:(c i).av=(σ i).av)(n:T' i=T i)(D:∀b,S b\/b∈F i->w'.heap[b]?=w.heap[b]?):an w' S' c T' i (F i):=by
 have h:=hc i;unfold an at h⊢;rw[R];split;rename_i r g1 g2 p C;rw[C]at h;obtain⟨B,m,l,A⟩:=h;refine⟨B,acI m<|a.g1 r,acI l<|a.g2 r,λk1 k2 k3=>?_⟩;have o:(σ r).g1=g1:=agI (by have:=a.g1 r;omega) m;have d:(c r).g1=(σ r).g1:=E;by_cases e:lu p=true;obtain⟨L,f,v,Y⟩:=A o (.inl e) (λh=>by rw[e]at h;cases h);obtain⟨u,rfl⟩:=HB e f;refine⟨_,by rw[a.val r d,<-Hz (w:=w) e];exact f,?_,I⟩;simpa[holds,n]using v;have N:(c r).g2=g2:=k2.resolve_left e;have V:(σ r).g2=g2:=agI (by have:=a.g2 r;omega) l;obtain⟨K,x⟩:=k3 (by simpa using e);obtain⟨P,O⟩:=a.ins r d E;obtain⟨y,k⟩:=P p K x;obtain⟨L,f,v,Y⟩:=A o (.inr V) λ_=>⟨y,k⟩;have H:=hc r;have j:(σ r).av.plain=true:=by
  cases p with
  |nil=>exact aaF W e
  |cons s p=>cases hh:(σ r).av<;>simp[AV.plain]<;>(rw[hh]at k;simp[bH]at k)
 rw[an.aC j]at H;obtain⟨L1,z1,F1,r1,r2,r3,r4,M⟩:=Rel.read p (L:=.val<|T r) H W k;rw[r1]at f;simp[aaP]at f;subst f;obtain⟨q1,q2⟩:=M w' (.val _) O;exact⟨L1,by rw[a.val r d];exact q1,by rw[n];exact v.same q2,by rw[n];exact Y⟩;rename_i r g1 g2 p C;rw[C]at h;obtain⟨B,m,l,h5,A⟩:=h;refine⟨B,acI m<|a.g1 r,acI l<|a.g2 r,by rw[n];exact h5,λk1 k2 k3=>?_⟩;have o:(σ r).g1=g1:=agI (by have:=a.g1 r;omega) m;have d:(c r).g1=(σ r).g1:=E;by_cases e:flat p=true;obtain⟨X,f,v⟩:=A o (.inl e) (λh=>by rw[e]at h;cases h);exact⟨X,by rw[a.val r d,<-LM (w:=w) e];exact f,by rw[n];exact v⟩;have N:(c r).g2=g2:=k2.resolve_left e;have V:(σ r).g2=g2:=agI (by have:=a.g2 r;omega) l;obtain⟨K,x⟩:=k3 (by simpa using e);obtain⟨P,O⟩:=a.ins r d E;obtain⟨y,k⟩:=P p K x;obtain⟨X,f,v⟩:=A o (.inr V) λ_=>⟨y,k⟩;have H:=hc r;cases p with
 |nil=>simp[loc]at f
 |cons s p=>
  have j:(σ r).av.plain=true:=by cases hh:(σ r).av<;>simp[AV.plain]<;>(rw[hh]at k;simp[bH]at k)
  rw[an.aC j]at H;obtain⟨L1,z1,F1,r1,r2,r3,r4,M⟩:=Rel.read (s::p) (L:=.val<|T r) H W k;rw[r1]at f;cases f;exact⟨X,by rw[a.val r d];exact(M w' (.val _) O).1,by rw[n];exact v⟩
 ·grind
 rename_i g t C;rw[C]at h;obtain⟨B,m,l⟩:=h;refine⟨B,λq z=>acI (m q z)<|a.g1 _,λk1=>?_⟩;have o:∀q∈t,(σ q.1).g1=q.2:=λq z=>agI (by have:=a.g1 q.1;grind)<|m q z;rw[n,l o]
 congr 2
 exact adx λq z=>(a.val q.1<|by rw[k1 q z,o q z]).symm;rename_i B m l A;have j:(σ i).av.plain=true:=by
  cases hh:(σ i).av with
  |bw r g1 g2 p=>grind
  |ptr r g1 g2 p=>grind
  |abs J=>exact aaF hh (l J)
  |gI g t=>simp_all
  |_=>rfl
 have Z:=hc i;rw[an.aC j]at Z;rw[n];exact Rel.mono hS _<|Rel.frame _ Z D
end
section
variable{S S':Nat->Prop}{B:Nat->Prop}{σ:St}{T:Nat->Value}{w w':World}{F:Nat->L Nat}
section
variable{av' y y':AV}{ad:Addr}{i:Nat}{z:Value}
def aU.step(h:aU S B σ T w F){a:St}{T':Nat->Value}{F':Nat->L Nat}(e:aeq S σ a T T' w w' F)(g:∀b,S b->S' b)
 (hs:∀i,((a i).av=(σ i).av/\T' i=T i/\F' i=F i/\∀b,S b\/b∈F i->w'.heap[b]?=w.heap[b]?)\/an w' S' a T' i (F' i))
 (hn:∀i,(F' i).Nodup)(f:∀i j,i≠j->∀b∈F' i,b∉F' j)(d:∀i,∀b∈F' i,B b/\b<w'.heap.size/\¬S' b)(c:∀b,S' b->b<w'.heap.size):
 aU S' B a T' w' F' where
 rel i:=by rcases hs i with⟨h1,m,l,k⟩|h1;rw[l];exact an.goes h.rel e g h1 m k;exact h1
 nodup:=hn
 di:=f
 own:=d
 shr:=c
def aU.put(h:aU S B σ T w F)(d:Nat)(av:AV)(z:Value)(c:an w S (iy σ d ⟨av,(σ d).g1+1,(σ d).g2⟩) (iy T d z) d []):
 aU S B (iy σ d ⟨av,(σ d).g1+1,(σ d).g2⟩) (iy T d z) w (iy F d []):=by
 refine h.step (w':=w) (S':=S) ⟨λr=>?_,λr=>?_,λr f=>?_,λr f _=>?_⟩ (λ_ h=>h) (λi=>?_) (λi=>?_) (λi j g b a=>?_) (λi b a=>?_) h.shr;by_cases e:r=d;subst e;rw[aI];simp;rw[ar _ _ e];exact .refl;by_cases e:r=d;subst e;rw[aI];simp;rw[ar _ _ e];exact .refl;by_cases e:r=d;subst e;rw[aI]at f;simp at f;rw[ar _ _ e];by_cases e:r=d;subst e;rw[aI]at f;simp at f;rw[ar _ _ e];simp_all;by_cases e:i=d;subst e;right;rw[aI];exact c;left;rw[ar _ _ e,ar _ _ e,ar _ _ e];simp_all;by_cases e:i=d;subst e;rw[aI];simp_all;rw[ar _ _ e];exact h.nodup i;by_cases e:i=d;subst e;rw[aI]at a;cases a;rw[ar _ _ e]at a;by_cases k:j=d;subst k;rw[aI];simp;rw[ar _ _ k];exact h.di i j g b a;by_cases e:i=d;subst e;rw[aI]at a;cases a;rw[ar _ _ e]at a;exact h.own i b a
def made(σ:St)(M:L Nat)(n:Nat)(y:AV):St:=λi=>if i=n then⟨y,(σ n).g1+1,(σ n).g2⟩else if i∈M then⟨.dead,(σ i).g1+1,(σ i).g2⟩else σ i
def aU.make(h:aU S B σ T w F)(M:L Nat)(n:Nat)(y:AV)(z:Value)(p:L Nat)(J:∀b,w.heap.size<=b->B b)(d:w.heap.size<=w'.heap.size)
 (k:∀b,b<w.heap.size->(∀m∈M,b∉F m)->w'.heap[b]?=w.heap[b]?)(x:p.Nodup)(g:∀b∈p,(∃m∈M,b∈F m)\/w.heap.size<=b/\b<w'.heap.size)
 (l:Rel w' S y z p):aU S B (made σ M n y) (iy T n z) w' (λi=>if i=n then p else if i∈M then[]else F i):=by
 have o:∀i b,b∈F i->b<w.heap.size:=λi b a=>(h.own i b a).2.1;have v:∀b,S b->w'.heap[b]?=w.heap[b]?:=λb a=>k b (h.shr b a) λm _ c=>(h.own m b c).2.2 a;have A:∀i,i∉M->∀b∈F i,w'.heap[b]?=w.heap[b]?:=λi hi b a=>k b (o i b a) λm hm c=>h.di i m (λe=>hi (e▸hm)) b a c;have H:∀i,i∉M->∀b∈F i,b∉p:=λi hi b a t=>by
  rcases g b t with⟨m,hm,c⟩|⟨C,_⟩;exact h.di i m (λe=>hi (e▸hm)) b a c
  grind
 refine h.step (w':=w') (S':=S) ⟨λr=>?_,λr=>?_,λr q=>?_,λr q _=>?_⟩ (λ_ h=>h) (λi=>?_) (λi=>?_) (λi j s b a=>?_) (λi b a=>?_)
  (λb a=>acW (h.shr b a) d)
 unfold made;grind;unfold made;grind;unfold made at q;split at q;simp_all;rename_i e;exact ar _ _ e;unfold made at q⊢;grind;by_cases e:i=n;subst e;right;rw[an.aC<|by simp[made];exact l.plain];simp[made,aI];exact l;by_cases f:i∈M;right;rw[an.aC<|by simp[made,e,f,AV.plain]];simp[made,e,f,Rel];left;simp[made,e,f,ar _ _ e]
 grind
 by_cases e:i=n;simp_all;by_cases f:i∈M;simp[e,f];simp[e,f,if_false];exact h.nodup i;by_cases e:i=n
 grind
 simp only[e,if_false]at a;by_cases f:i∈M;simp[f]at a;simp[f,if_false]at a;by_cases D:j=n
 grind
 simp only[D,if_false];by_cases u:j∈M;simp[u];simp[u,if_false];exact h.di i j s b a;by_cases e:i=n;simp[e,if_true]at a;rcases g b a with⟨m,hm,c⟩|⟨C,K⟩;exact⟨(h.own m b c).1,acW (o m b c) d,(h.own m b c).2.2⟩
 grind
 simp only[e,if_false]at a;by_cases f:i∈M;simp[f]at a;simp[f,if_false]at a;exact⟨(h.own i b a).1,acW (o i b a) d,(h.own i b a).2.2⟩
def WV(h:At w ad z):Chg w w ad z:=by intro f e d;obtain⟨_,c,b,a,hc⟩:=h;simp_all
def oK{L:Loc}(h:holds w L z):aaO w w L z z:=by
 cases L with
 |val y=>rfl
 |addr a=>exact WV h
def AV.cell:AV->Bool
 |.v _|.list .. |.box .. |.fn .. |.hole|.ob _=>true
 |_=>false
def Rel.one{av:AV}{y:Value}{F:L Nat}(h:Rel w S av y F)(hc:av.cell=true):y.oneCell'=true:=by
 cases av with
 |v x=>simp[Rel]at h;obtain⟨d,rfl,-⟩:=h;cases y<;>simp_all[scalar,Value.oneCell']
 |list f sz m=>
  cases f with
  |nil=>simp[Rel]at h;rw[h.2.1];rfl
  |shr=>simp only[Rel]at h;rcases h with⟨-,⟨ad,d⟩,-⟩|⟨b,j,e,g,k,d,-⟩<;>rw[d]<;>rfl
  |own=>simp only[Rel]at h;rcases h with⟨-,d,-⟩|⟨b,e,g,l,d,-⟩<;>rw[d]<;>rfl
 |box own x=>simp only[Rel]at h;obtain⟨b,g,k,l,z,d,-⟩:=h;rw[d];rfl
 |fn f a c=>simp only[Rel]at h;obtain⟨o,n,q,p,d,-⟩:=h;rw[d];rfl
 |hole=>simp[Rel]at h;exact h.1
 |ob J=>exact h.1
 |_=>simp[AV.cell]at hc
def jf(y:AV):AV:=if y.cell then .hole else .dead
def Rel.jf{a:L Nat}(h:Rel w S y z a):Rel w S (jf y) z []:=by unfold Ai.jf;split;rename_i hc;simp only[Rel];exact⟨h.one hc,U⟩;simp[Rel]
def Sub(a x:AV):Prop:=∀(p:Path)(y':AV),bH a p=some y'->∃y,bH x p=some y
def IA:∀(p:Path){b xs:L AV},b.length=xs.length->(∀(i:Nat)(c a:AV),b[i]?=some c->xs[i]?=some a->Sub c a)->∀y':AV,bH (.agg b) p=some y'->∃y,bH (.agg xs) p=some y
 |[],b,xs,_,_,y',_=>⟨_,W⟩
 |.at o none::p,b,xs,hl,he,y',h=>by
  simp[bH,aaV]at h⊢;obtain⟨c,g,f⟩:=h;have d:o<xs.length:=by grind
  obtain⟨y,j⟩:=he o c _ g (acL d) p y' f;simp_all
 |.at o (some n)::p,b,xs,hl,he,y',h=>by
  simp only[bH]at h⊢;rw[hl]at h;split at h;rename_i e;rw[aas e];refine IA p (by simp[hl]) (λi c a g f=>?_) y' h
  grind
  cases h
 |.idx .. ::p,b,xs,_,_,y',h=>by simp[bH]at h
 |.deref::p,b,xs,_,_,y',h=>by simp[bH]at h
 |.bU .. ::p,b,xs,_,_,y',h=>by simp[bH]at h
 |.nF .. ::p,b,xs,_,_,y',h=>by simp[bH]at h
def Iz{xs:L AV}{x d:AV}(g:xs[i]?=some x)(h:Sub d x):∀(j:Nat)(c a:AV),(xs.set i d)[j]?=some c->xs[j]?=some a->Sub c a:=by intro j c a b e;rw[agH]at b;split at b;simp_all;rw[b]at e;cases e;exactλp y f=>⟨y,f⟩
def KD{b xs:L AV}(hl:b.length=xs.length)(he:∀(i:Nat)(c a:AV),b[i]?=some c->xs[i]?=some a->Sub c a){p:Path}(h:b[i]?.bind (bH · p)=some y'):∃y,xs[i]?.bind (bH · p)=some y:=by
 simp[aaV]at h⊢;obtain⟨c,f,e⟩:=h;have d:i<xs.length:=by grind
 obtain⟨y,g⟩:=he i c _ f (acL d) p y' e;simp_all
def uQ:∀(q:Path){x y h v:AV},bH x q=some y->Sub h y->ff x q h=some v->Sub v x
 |[],x,y,h,v,k,m,d=>by simp[bH,aaP]at k;simp[ff,aaP]at d;simp_all
 |s::q,x,y,h,v,k,m,d=>by
  intro p y' f;cases p with
  |nil=>exact⟨_,W⟩
  |cons t p=>
   unfold ff at d;split at d;rename_i sz xs i P;split at d;rename_i e;subst e;simp[aaV,aeT]at d;obtain⟨x0,l,A,g,rfl⟩:=d;simp[bH,if_true,l,aeu]at k;have he:=Iz l<|uQ q k m g;cases t with
   |idx j O=>simp only[bH]at f⊢;split at f;rename_i e;rw[aas e];exact KD I he f;cases f
   |nF a b c=>simp only[bH,afL]at f⊢;exact⟨_,f⟩
   |_=>simp[bH]at f
   ·cases d
   simp[aeT]at d;obtain⟨A,g,rfl⟩:=d;simp[bH]at k;cases t with
   |deref=>simp[bH]at f⊢;exact uQ q k m g p y' f
   |_=>simp[bH]at f
   ·rename_i xs o;simp[aaV,aeT]at d;obtain⟨x0,l,A,g,rfl⟩:=d;simp[bH,l,aeu]at k;exact IA (t::p) I (Iz l<|uQ q k m g) y' f
   rename_i xs o n;split at d;rename_i K;simp only[aaV]at d;obtain⟨z,l,g⟩:=d;split at g;rename_i M;split at g;rename_i hn;cases g;simp[bH,aas K]at k;have r:=uQ q k m l;have u:(xs.take o++M++xs.drop (o+n)).length=xs.length:=by simp;omega
   refine IA (t::p) u (λi Z a g1 g2=>?_) y' f;by_cases V:i<o;rw[acT,afM<|by simp;omega,af6,aas V,g2]at g1;cases g1;exactλp y H=>⟨y,H⟩;by_cases Y:i<o+n;rw[acT,afx<|by simp;omega,afM<|by simp;omega]at g1;have J:(xs.take o).length=o:=by simp;omega
   rw[J]at g1;intro R N D;obtain⟨X,C⟩:=r (.at (i-o) none::R) N (by simp[bH,g1,aeu];exact D);simp[bH,af6,agp]at C
   grind
   rw[afx<|by simp;omega,agp]at g1;have J:(xs.take o++M).length=o+n:=by simp;omega
   rw[J,show o+n+(i-(o+n))=i from E,g2]at g1;cases g1;exactλp y H=>⟨y,H⟩;cases g;cases g;cases d;rename_i xs i;simp[aaV,aeT]at d;obtain⟨x0,l,A,g,rfl⟩:=d;simp[bH,l,aeu]at k;have he:=Iz l<|uQ q k m g;cases t with
   |bU j=>simp[bH]at f⊢;exact KD I he f
   |_=>simp[bH]at f
   ·cases d
def Ul(y:AV):Sub (jf y) y:=by
 intro p y' h;cases p with
 |nil=>exact⟨_,W⟩
 |cons s p=>unfold jf at h;split at h<;>(cases s<;>simp[bH]at h)
def kC(s:Sl)(p:Path)(av:AV):Sl:=if p=[]then⟨av,s.g1+1,s.g2⟩else⟨av,s.g1,s.g2⟩
def GH(s:Sl)(p:Path)(av:AV):(kC s p av).av=av:=by unfold kC;split<;>rfl
def RI(s:Sl)(p:Path)(av:AV):s.g1<=(kC s p av).g1:=by unfold kC;split<;>simp
def RH(s:Sl)(p:Path)(av:AV):s.g2<=(kC s p av).g2:=by unfold kC;split<;>simp
def aU.take(h:aU S B σ T w F)(r n:Nat)(p:Path)(K:n≠r)(M:(σ r).av.plain=true)(C:bH (σ r).av p=some y)(hs:ff (σ r).av p (jf y)=some av'):
 ∃L z o F',loc w (.val<|T r) p=some L/\holds w L z/\Rel w S y z o/\
  aU S B (iy (iy σ r<|kC (σ r) p av') n ⟨y,(σ n).g1+1,(σ n).g2⟩) (iy T n z) w F'/\F' n=o/\∀m,m≠r->m≠n->F' m=F m:=by
 have x:=h.rel r;rw[an.aC M]at x;obtain⟨L,z,A,o,u,k1,k2,k3,k4,k5,k6⟩:=Rel.iy p (L:=.val<|T r) x W C hs (h.nodup r) (λb c=>(h.own r b c).2.2) (by simp[Loc.fu]);obtain⟨V,J,-,-,v⟩:=k6 w S z [] (λ_ h=>h) W (λh=>h) (λ_ _ _=>rfl) (oK k2) k3.jf;simp[vS]at v;subst v;have O:=h.nodup r;rw[k4,acH,acH]at O;have f:∀b,b∈A++[]++u->b∈F r:=λb c=>by grind
 have d:∀b,b∈o->b∈F r:=λb c=>by rw[k4];simp[c]
 refine⟨L,z,o,λi=>if i=n then o else if i=r then A++[]++u else F i,k1,k2,k3,?_,I,λm R P=>by simp[R,P]⟩;refine h.step (w':=w) (S':=S) ⟨λi=>?_,λi=>?_,λi hi=>?_,λi hi t=>?_⟩ (λ_ h=>h) (λi=>?_) (λi=>?_) (λi j g b c=>?_) (λi b c=>?_) h.shr;by_cases e:i=n;subst e;rw[aI];simp;rw[ar _ _ e];by_cases a:i=r;subst a;rw[aI];exact RI _ _ _;rw[ar _ _ a];exact aaU _;by_cases e:i=n;subst e;rw[aI];simp;rw[ar _ _ e];by_cases a:i=r;subst a;rw[aI];exact RH _ _ _;rw[ar _ _ a];exact aaU _;by_cases e:i=n;subst e;rw[aI]at hi;simp at hi;exact ar _ _ e;by_cases e:i=n;subst e;rw[aI]at hi;simp at hi;rw[ar _ _ e]at hi t⊢;by_cases a:i=r;subst a;rw[aI,GH];exact⟨uQ p C (Ul y) hs,λ_ _=>rfl⟩;rw[ar _ _ a];simp_all;by_cases e:i=n;subst e;right;rw[an.aC<|by rw[aI];exact k3.plain];simp[aI,if_true];exact k3;by_cases a:i=r;subst a;right;have:(iy (iy σ i<|kC (σ i) p av') n ⟨y,(σ n).g1+1,(σ n).g2⟩ i).av=av':=by rw[ar _ _ e,aI,GH]
 rw[an.aC<|by rw[this];exact J.plain,this,ar _ _ e];simp_all;left;simp only[ar _ _ e,ar _ _ a,e,a,if_false,true_and];simp;by_cases e:i=n;simp_all;by_cases a:i=r
 grind
 simp[e,a,if_false];exact h.nodup i;have D:∀b,b∈o->b∉A++[]++u:=λb c k=>by grind
 by_cases e:i=n;simp[e,if_true]at c;have N:j≠n:=λq=>g<|e.trans q.symm;simp only[N,if_false];by_cases a:j=r;simp_all;rw[aaq a];exactλl=>h.di j r a b l<|d b c;simp only[e,if_false]at c;by_cases a:i=r;rw[aas a]at c;by_cases s:j=n
 grind
 simp[s,if_false];rw[aaq λq=>g<|a.trans q.symm];exactλl=>h.di j r (λq=>g<|a.trans q.symm) b l<|f b c;rw[aaq a]at c;by_cases s:j=n;simp[s,if_true];exactλk=>h.di i r a b c<|d b k;simp only[s,if_false];by_cases H:j=r;rw[aas H];exactλk=>h.di i r a b c<|f b k;rw[aaq H];exact h.di i j g b c;by_cases e:i=n;simp[e,if_true]at c;exact h.own r b<|d b c;simp only[e,if_false]at c;by_cases a:i=r;rw[aas a]at c;exact h.own r b<|f b c;rw[aaq a]at c;exact h.own i b c
def aU.share(h:aU S B σ T w F)(r:Nat)(p:Path)(D:(σ r).av.plain=true)(H:bH (σ r).av p=some y)(hs:ff (σ r).av p y.cC=some av'):
 ∃(L:Loc)(z:Value)(f:List Nat)(F':Nat->List Nat),loc w (.val<|T r) p=some L/\holds w L z/\Rel w S y z f/\
  aU (λb=>S b\/b∈f) B (iy σ r ⟨av',(σ r).g1,(σ r).g2+1⟩) T w F'/\(∀b∈f,b∈F r):=by
 have v:=h.rel r;rw[an.aC D]at v;obtain⟨L,z,A,f,m,k1,k2,k3,k4,k5,k6⟩:=Rel.iy p (L:=.val<|T r) v W H hs (h.nodup r) (λb a=>(h.own r b a).2.2) (by simp[Loc.fu]);have c:∀b,b∈f->b∈F r:=λb a=>by rw[k4];simp[a]
 obtain⟨M,u,-,-,t⟩:=k6 w (λb=>S b\/b∈f) z [] (λ_ h=>.inl h) W (λh=>h) (λ_ _ _=>rfl) (oK k2)<|Rel.share (λ_ h=>.inl h) _ k3 λb a=>.inr a;simp[vS]at t;subst t;have J:=h.nodup r;rw[k4,acH,acH]at J;have d:∀b,b∈A++[]++m->b∈F r:=λb a=>by grind
 have x:∀b,b∈f->b∉A++[]++m:=λb a l=>by grind
 refine⟨L,z,f,λi=>if i=r then A++[]++m else F i,k1,k2,k3,?_,c⟩;refine h.step (w':=w) (S':=λb=>S b\/b∈f) (F':=λi=>if i=r then A++[]++m else F i) ⟨λi=>?_,λi=>?_,λi hi=>rfl,λi hi k=>?_⟩ (λ_ h=>.inl h) (λi=>?_) (λi=>?_) (λi j g b a=>?_) (λi b a=>?_) λb(a:S b\/b∈f)=>?_;by_cases e:i=r;subst e;rw[aI];exact .refl;rw[ar _ _ e];exact .refl;by_cases e:i=r;subst e;rw[aI];simp;rw[ar _ _ e];exact .refl;by_cases e:i=r;subst e;rw[aI]at k;simp at k;rw[ar _ _ e];simp_all;by_cases e:i=r;subst e;right;rw[an.aC<|by rw[aI];exact u.plain,aI];simp only;exact u;left;simp only[ar _ _ e,e,if_false,true_and];simp;by_cases e:i=r
 grind
 simp[e];exact h.nodup i;by_cases e:i=r;simp only[e]at a;rw[aaq λo=>g<|e.trans o.symm];exactλn=>h.di j r (λo=>g<|e.trans o.symm) b n<|d b a;simp[e]at a;by_cases C:j=r;rw[aas C];exactλl=>h.di i r e b a<|d b l;rw[aaq C];exact h.di i j g b a;by_cases e:i=r;simp only[e]at a;obtain⟨s,q,o3⟩:=h.own r b<|d b a
 grind
 simp[e]at a;obtain⟨s,q,o3⟩:=h.own i b a;exact⟨s,q,λhh=>hh.elim o3 λK=>h.di i r e b a<|c b K⟩;rcases a with a|a;exact h.shr b a;exact(h.own r b<|c b a).2.1
def stored(σ:St)(r:Nat)(M:L Nat)(av:AV):St:=λi=>if i=r then⟨av,(σ r).g1,(σ r).g2+1⟩else if i∈M then⟨.dead,(σ i).g1+1,(σ i).g2⟩else σ i
def aU.store(h:aU S B σ T w F)(r:Nat)(M:List Nat)(p:Path){u:Value}{q:List Nat}(J:r∉M)(hp:(σ r).av.plain=true)
 (hg:bH (σ r).av p=some y)(hs:ff (σ r).av p y'=some av')(hl:loc w (.val<|T r) p=some (.addr ad))
 (hv:Rel w S y' u q)(E2:q.Nodup)(f:∀b∈q,∃m∈M,b∈F m):
 ∃z,At w ad z/\(∃O,Rel w S y z O)/\B ad.block/\(u.cells.size=z.cells.size->(z.oneCell'=true->u.oneCell'=true)->
  ∀w',w'.heap.size=w.heap.size->(∀b,b≠ad.block->w'.heap[b]?=w.heap[b]?)->Chg w w' ad u->
   ∃F',aU S B (stored σ r M av') T w' F'):=by
 have V:=h.rel r;rw[an.aC hp]at V;obtain⟨L,z,A,O,P,k1,k2,k3,k4,k5,k6⟩:=Rel.iy p (L:=.val<|T r) V W hg hs (h.nodup r) (λb c=>(h.own r b c).2.2) (by simp[Loc.fu]);rw[k1]at hl;cases hl;have hA:ad.block∈A:=by rcases k5 with k5|⟨a,ha,_⟩;exact k5;cases ha
 have k:ad.block∈F r:=by rw[k4];simp[hA]
 have C:∀b∈q,b∉F r:=λb c=>by obtain⟨m,hm,o⟩:=f b c;exact h.di m r (λe=>J (e▸hm)) b o
 have A0:∀i,i∉M->∀b∈q,b∉F i:=λi hi b c=>by obtain⟨m,hm,o⟩:=f b c;exact h.di m i (λe=>hi (e▸hm)) b o
 refine⟨z,k2,⟨O,k3⟩,(h.own r _ k).1,λH h1 w' l s N=>?_⟩;have B0:∀i,i≠r->∀b∈F i,b≠ad.block:=λi hi b c e=>h.di i r hi b c (e▸k);have x:∀b,S b->b≠ad.block:=λb c e=>(h.own r _ k).2.2 (e▸c);have D:Rel w' S y' u q:=Rel.frame _ hv λb c=>s b<|c.elim (x b) λc e=>C b c (e▸k);obtain⟨zz,j1,-,-,R⟩:=k6 w' S u q (λ_ h=>h) H h1 (λb _ c=>s b<|by simpa[Loc.fu,eq_comm]using c) N D;simp[vS]at R;subst R;have hN:=h.nodup r;rw[k4,acH,acH]at hN;have n:∀b,b∈A++q++P->b∈F r\/b∈q:=λb c=>by grind
 have E1:∀b,b∈A\/b∈P->b∈F r:=λb c=>by grind
 refine⟨λi=>if i=r then A++q++P else if i∈M then[]else F i,?_⟩;refine h.step (w':=w') (S':=S) ⟨λi=>?_,λi=>?_,λi hi=>rfl,λi hi K=>?_⟩ (λ_ h=>h) (λi=>?_) (λi=>?_) (λi j v b c=>?_) (λi b c=>?_) (λb c=>by rw[l];exact h.shr b c);unfold stored;grind;unfold stored;grind;unfold stored at hi K⊢
 grind
 by_cases e:i=r;subst e;right;have:(stored σ i M av' i).av=av':=by simp[stored]
 rw[an.aC<|by rw[this];exact j1.plain,this];simp_all;by_cases g:i∈M;right;have:(stored σ r M av' i).av=.dead:=by simp[stored,e,g]
 rw[an.aC<|by rw[this];rfl,this];simp[e,g,Rel];left;simp[stored,e,g,if_false,true_and]
 grind
 by_cases e:i=r
 grind
 by_cases g:i∈M;simp[e,g];simp[e,g,if_false];exact h.nodup i;by_cases e:i=r;rw[aas e]at c;have X:j≠r:=λe'=>v<|e.trans e'.symm;rw[aaq X];by_cases g:j∈M;simp[g];simp[g,if_false];intro t;rcases n b c with d|d;exact h.di j r X b t d;simp_all;rw[aaq e]at c;by_cases g:i∈M;simp[g]at c;simp[g,if_false]at c;by_cases Z:j=r;rw[aas Z];intro t;rcases n b t with d|d;exact h.di i r e b c d;simp_all;rw[aaq Z];by_cases Y:j∈M;simp[Y];simp[Y,if_false];exact h.di i j v b c;rw[l];by_cases e:i=r;rw[aas e]at c;rcases n b c with d|d;exact h.own r b d;obtain⟨m,hm,o⟩:=f b d;exact h.own m b o;rw[aaq e]at c;by_cases g:i∈M;simp[g]at c;simp[g,if_false]at c;exact h.own i b c
end
end
mutual
def AV.aK:AV->Bool
 |.list .own _ _=>false
 |.list .nil _ _=>true
 |.list .shr _ _=>true
 |.box own _=> !own
 |.agg xs=>bR xs
 |.bU xs=>bR xs
 |.fn _ a c=>bR a&&bR c
 |.v _=>true
 |.bw .. =>false
 |.ptr .. =>false
 |.hole=>true
 |.dead=>true
 |.pv _=>true
 |.abs _=>false
 |.gI .. =>false
 |.ob _=>false
def bR:List AV->Bool
 |[]=>true
 |x::xs=>x.aK&&bR xs
end
mutual
def AV.refs:AV->Bool
 |.list .nil _ _=>false
 |.list .own _ _=>true
 |.list .shr _ _=>true
 |.box _ _=>true
 |.agg xs=>UR xs
 |.bU xs=>UR xs
 |.fn .. =>true
 |.v _=>false
 |.bw .. =>true
 |.ptr .. =>true
 |.hole=>true
 |.dead=>true
 |.pv _=>true
 |.abs _=>true
 |.gI .. =>true
 |.ob _=>true
def UR:List AV->Bool
 |[]=>false
 |x::xs=>x.refs||UR xs
end
mutual
def AV.da:AV->Bool
 |.list .nil _ _=>true
 |.list .own _ xs=>ke xs
 |.list .shr _ _=>false
 |.box own x=>own&&x.da
 |.agg xs=>ke xs
 |.bU xs=>ke xs
 |.fn _ a c=>ke a&&ke c
 |.v _=>true
 |.bw .. =>true
 |.ptr .. =>true
 |.hole=>true
 |.dead=>true
 |.pv _=>true
 |.abs _=>true
 |.gI .. =>true
 |.ob _=>false
def ke:List AV->Bool
 |[]=>true
 |x::xs=>x.da&&ke xs
end
section
variable{w:World}{S S':Nat->Prop}
mutual
theorem Rel.da:∀(av:AV){y:Value}{F:List Nat},Rel w S av y F->av.da=true->Rel w S' av y F
 |.v x,y,F,h,_=>by simpa[Rel]using h
 |.list .nil sz xs,y,F,h,_=>by simpa[Rel]using h
 |.list .shr sz xs,y,F,h,k=>by simp[AV.da]at k
 |.list .own sz xs,y,F,h,k=>by rcases h with h|⟨b,cap,cs,F',e,d,i,g,j,q,p⟩;exact .inl h;exact .inr ⟨b,cap,cs,F',e,d,i,g,j,du.da sz xs q<|by simpa[AV.da]using k,p⟩
 |.box true x,y,F,h,k=>by obtain⟨b,cs,r,F',z,e,d,i,g,j⟩:=h;exact⟨b,cs,r,F',z,e,d,Rel.da x i<|by simpa[AV.da]using k,g,j⟩
 |.box false x,y,F,h,k=>by simp[AV.da]at k
 |.agg xs,y,F,h,k=>by obtain⟨cs,e,d⟩:=h;exact⟨cs,e,Cells.da xs d<|by simpa[AV.da]using k⟩
 |.bU xs,y,F,h,k=>by obtain⟨cs,e,d⟩:=h;exact⟨cs,e,Cells.da xs d<|by simpa[AV.da]using k⟩
 |.fn f a c,y,F,h,k=>by simp[AV.da]at k;obtain⟨t,s,n,m,e,d,i,g⟩:=h;exact⟨t,s,n,m,e,Cells.da a d k.1,Cells.da c i k.2,g⟩
 |.bw ..,y,F,h,_=>by simp[Rel]at h
 |.ptr ..,y,F,h,_=>by simp[Rel]at h
 |.hole,y,F,h,_=>by simpa[Rel]using h
 |.dead,y,F,h,_=>by simpa[Rel]using h
 |.pv _,y,F,h,_=>by simpa[Rel]using h
 |.abs _,y,F,h,_=>by simp[Rel]at h
 |.gI ..,y,F,h,_=>by simp[Rel]at h
 |.ob _,y,F,h,k=>by simp[AV.da]at k
theorem Cells.da:∀(xs:List AV){one:Bool}{l:List Value}{F:List Nat},Cells w S one xs l F->ke xs=true->Cells w S' one xs l F
 |[],one,l,F,h,_=>by simpa[Cells]using h
 |x::xs,one,l,F,h,k=>by simp[ke]at k;obtain⟨y,o,n,m,e,d,i,g,j⟩:=h;exact⟨y,o,n,m,e,d,i,Rel.da x g k.1,Cells.da xs j k.2⟩
theorem du.da(sz:Nat):∀(xs:List AV){l:List Value}{F:List Nat},du w S sz xs l F->ke xs=true->du w S' sz xs l F
 |[],l,F,h,_=>by simpa[du]using h
 |x::xs,l,F,h,k=>by simp[ke]at k;obtain⟨y,o,n,m,e,d,i,g,j⟩:=h;exact⟨y,o,n,m,e,d,i,Rel.da x g k.1,du.da sz xs j k.2⟩
end
mutual
theorem Rel.aK:∀(av:AV){y:Value}{F:List Nat},Rel w S av y F->av.aK=true->F=[]
 |.v x,y,F,h,_=>by simp[Rel]at h;exact h.2.2
 |.list .nil sz xs,y,F,h,_=>by simp[Rel]at h;exact h.2.2
 |.list .shr sz xs,y,F,h,_=>by simp only[Rel]at h;grind
 |.list .own sz xs,y,F,h,k=>by simp[AV.aK]at k
 |.box own x,y,F,h,k=>by simp[AV.aK]at k;subst k;simp only[Rel]at h;grind
 |.agg xs,y,F,h,k=>by simp[Rel]at h;obtain⟨cs,e,b⟩:=h;exact Cells.aK xs b (by simpa[AV.aK]using k)
 |.bU xs,y,F,h,k=>by simp[Rel]at h;obtain⟨cs,e,b⟩:=h;exact Cells.aK xs b (by simpa[AV.aK]using k)
 |.fn f a c,y,F,h,k=>by simp[AV.aK]at k;simp only[Rel]at h;obtain⟨o,n,j,i,e,b,d,rfl⟩:=h;rw[Cells.aK a b k.1,Cells.aK c d k.2];rfl
 |.bw ..,_,_,h,_=>by simp[Rel]at h
 |.ptr ..,_,_,h,_=>by simp[Rel]at h
 |.hole,_,_,h,_=>by simp[Rel]at h;exact h.2
 |.dead,_,_,h,_=>by simpa[Rel]using h
 |.pv _,_,_,h,_=>by simp[Rel]at h;exact h.2
 |.abs _,_,_,h,_=>by simp[Rel]at h
 |.gI ..,_,_,h,_=>by simp[Rel]at h
 |.ob _,_,_,_,k=>by simp[AV.aK]at k
theorem Cells.aK:∀(xs:List AV){one:Bool}{l:List Value}{F:List Nat},Cells w S one xs l F->bR xs=true->F=[]
 |[],one,l,F,h,_=>by simp[Cells]at h;exact h.2
 |x::xs,one,l,F,h,k=>by simp[bR]at k;obtain⟨y,m,j,i,e,rfl,b,d,g⟩:=h;rw[Rel.aK x d k.1,Cells.aK xs g k.2];rfl
end
end
inductive Mv
 |share (r:Nat) (p:Path)
 |take (r n:Nat) (p:Path)
 |make (M:List Nat) (n:Nat) (y:AV)
 |put (n:Nat) (y:AV)
 |store (r:Nat) (p:Path) (M:List Nat) (y:AV)
 |back (R:List (Nat×AV))
def l9(σ:St):L (Nat×AV)->St
 |[]=>σ
 |(r,y)::R=>iy (l9 σ R) r ⟨y,(σ r).g1,(σ r).g2+1⟩
def Mv.run(σ:St):Mv->Q St
 |.share r p=>match bH (σ r).av p with
  |some y=>match ff (σ r).av p y.cC with
   |some av=>some (iy σ r ⟨av,(σ r).g1,(σ r).g2+1⟩)
   |none=>none
  |none=>none
 |.take r n p=>if n=r then none else match bH (σ r).av p with
  |some y=>match ff (σ r).av p (jf y)with
   |some av=>some (iy (iy σ r<|kC (σ r) p av) n ⟨y,(σ n).g1+1,(σ n).g2⟩)
   |none=>none
  |none=>none
 |.make M n y=>some (made σ M n y)
 |.put n y=>some (iy σ n ⟨y,(σ n).g1+1,(σ n).g2⟩)
 |.store r p M y=>if r∈M then none else match ff (σ r).av p y with
  |some av=>some (stored σ r M av)
  |none=>none
 |.back R=>some<|l9 σ R
def Mv.runs(σ:St):L Mv->Q St
 |[]=>some σ
 |m::a=>match m.run σ with
  |some σ=>Mv.runs σ a
  |none=>none
def kl:Value->AV
 |.slice none 0 0=>.list .nil 0 []
 |v=>if scalar v then .v v else .dead
def gH:Value->AV
 |.agg cs=>.agg (cs.toList.map kl)
 |v=>kl v
def oC:Value->Bool
 |.agg cs=>cs.toList.all (·.oneCell')
 |_=>true
structure TI where
 agg:Bool
 size:Nat
 bytes:Nat
 zero:AV
def ct(P:Program)(t:TypeId):Q TI:=
 match P.info? t,P.underlying t with
 |some i,some u=>match i.zero with
  |some z=>if z.cells.size=i.size/\oC z=true then some ⟨match u with|.struct _|.array .. =>true|_=>false,i.size,i.bytes,gH z⟩else none
  |none=>none
 |_,_=>none
def dO(P:Program)(t:TypeId):Q TypeId:=
 match P.underlying t with
 |some (.slice e)=>some e
 |_=>none
def p8(P:Program)(t:TypeId)(f:Nat):Q (Nat×TypeId):=
 match P.underlying t with
 |some (.struct a)=>match a[f]?with
  |some f=>some (f.offset,f.type)
  |none=>none
 |_=>none
def jP(i:TI)(o:Nat):Step:=.at o<|if i.agg then some i.size else none
structure cx where
 s:Option Nat
 sl:Sl
 rt:Sl
def Sl.none:Sl:=⟨.dead,0,0⟩
def cx.of(σ:St)(t:Nat):cx:=
 match(σ t).av with
 |.bw r _ _ _=>⟨some t,σ t,σ r⟩
 |.ptr r _ _ _=>⟨some t,σ t,σ r⟩
 |.abs _=>⟨none,.none,.none⟩
 |_=>⟨some t,σ t,.none⟩
def resolve(σ:St):Operand->cx
 |.tmp t=>.of σ t
 |.const v=>⟨none,⟨gH v,0,0⟩,.none⟩
 |.func f=>⟨none,⟨.fn (.func f) [] [],0,0⟩,.none⟩
 |.global _=>⟨none,.none,.none⟩
def zP:Path->AV->Bool
 |[],_=>true
 |[.bU _],_=>true
 |_,y=>y.cell
def cx.cont(x:cx):Q AV:=
 match x.sl.av with
 |.bw _ g1 g2 p=>
  if x.rt.g1=g1 then if RJ p=true\/x.rt.g2=g2 then match bH x.rt.av p with
   |some y=>if zP p y&&y.plain then some y else none
   |none=>none
  else none else none
 |.ptr .. =>none
 |.hole=>none
 |.dead=>none
 |.gI .. =>none
 |y=>some y
def cx.place(x:cx):Q (Nat×Nat×Nat×Path):=
 match x.sl.av with
 |.bw r g1 g2 p=>some (r,g1,g2,p)
 |.ptr .. =>none
 |_=>match x.s with
  |some s=>some (s,x.sl.g1,x.sl.g2,[])
  |none=>none
def GG:Path->Q (Path×Nat×Nat×Nat)
 |[]=>none
 |s::p=>match p with
  |[]=>match s with
   |.nF sz o n=>some ([],sz,o,n)
   |_=>none
  |_::_=>match GG p with
   |some (q,u)=>some (s::q,u)
   |none=>none
def cx.nF(x:cx):Q (Nat×Nat×Nat×Path×Nat×Nat×Nat):=
 match x.sl.av with
 |.bw r g1 g2 p=>match GG p with
  |some (q,sz,o,n)=>if x.rt.g1=g1 then if lu p=true\/x.rt.g2=g2 then match bH x.rt.av q with
   |some (.list _ a b)=>if sz=a/\0<n/\o+n<=b.length then some (r,g1,x.rt.g2,q,sz,o,n)else none
   |_=>none
   else none else none
  |none=>none
 |_=>none
def cx.addr(x:cx):Q (Nat×Nat×Nat×Path×AV):=
 match x.sl.av with
 |.ptr r g1 g2 p=>if x.rt.g1=g1 then if flat p\/x.rt.g2=g2 then some (r,x.rt.g1,x.rt.g2,p,x.rt.av)else none else none
 |.box _ _=>match x.s with
  |some s=>some (s,x.sl.g1,x.sl.g2,[.deref],x.sl.av)
  |none=>none
 |.bw r _ _ p=>match x.cont with
  |some (.box _ _)=>some (r,x.rt.g1,x.rt.g2,p++[.deref],x.rt.av)
  |_=>none
 |_=>none
def dD(d:Nat)(x:cx):Q (L Mv):=
 match x.sl.av with
 |.bw r g1 g2 p=>if r=d then none else some [.put d<|.bw r g1 g2 p]
 |.ptr r g1 g2 p=>if r=d then none else some [.put d<|.ptr r g1 g2 p]
 |.gI g a=>if a.all (λq=>q.1 !=d)=true then some [.put d<|.gI g a]else none
 |y=>if y.aK then some [.put d y]else match x.s with
  |some s=>if s=d then none else some [.put d<|.bw s x.sl.g1 x.sl.g2 []]
  |none=>none
def dT(d:Nat)(x:cx):Q (L Mv):=
 match x.sl.av with
 |.ptr r g1 g2 p=>if r=d then none else some [.put d<|.ptr r g1 g2 p]
 |.gI g a=>if a.all (λq=>q.1 !=d)=true then some [.put d<|.gI g a]else none
 |.bw r _ _ p=>match x.cont with
  |some y=>if y.aK then some [.put d y]else match p with
   |[]=>some [.take r d []]
   |[.bU i]=>some [.take r d [.bU i]]
   |_=>if r=d then none else some [.share r p,.put d y.cC]
  |none=>none
 |.box b z=>if(AV.box b z).aK then some [.put d<|.box b z]else match x.s with
  |some s=>if s=d then none else some [.put d<|.bw s x.sl.g1 x.sl.g2 []]
  |none=>none
 |y=>if y.aK then some [.put d y]else match x.s with
  |some s=>if s=d then none else some [.make [s] d y]
  |none=>none
def eX(x:cx):Q (AV×L Nat):=
 match x.sl.av with
 |.bw r _ _ p=>match x.cont with
  |some y=>if y.aK then some (y,[])else if p=[]then some (y,[r])else none
  |none=>none
 |.ptr .. =>none
 |.dead=>none
 |.gI .. =>none
 |y=>if y.aK then some (y,[])else match x.s with
  |some s=>some (y,[s])
  |none=>none
def gU:L cx->Q (L AV×L Nat)
 |[]=>some ([],[])
 |x::xs=>match eX x,gU xs with
  |some (y,M),some (ys,N)=>if M.all (λm=> !N.contains m)then some (y::ys,M++N)else none
  |_,_=>none
def C8(cs:L AV)(o n:Nat)(y:AV):Q (L AV):=
 if o+n<=cs.length then match y with
  |.agg a=>if a.length=n then some (cs.take o++a++cs.drop (o+n))else none
  |y=>if n=1&&y.cell then some (cs.set o y)else none
 else none
def placesOf(P:Program)(t:TypeId):Q (L<|Nat×Nat):=
 match P.underlying t with
 |some (.struct a)=>a.toList.mapM λf=>(P.info? f.type).map λi=>(f.offset,i.size)
 |_=>none
def uq(a:L (Nat×Nat)):L AV->L (Nat×AV)->Q (L AV)
 |cs,[]=>some cs
 |cs,(i,y)::r=>match a[i]?with
  |some (o,n)=>match C8 cs o n y with
   |some cs=>uq a cs r
   |none=>none
  |none=>none
def fits(ti:TI):AV->Bool
 |.agg xs=>ti.agg&&xs.length=ti.size
 |y=> !ti.agg&&ti.size=1&&y.cell
def zB(P:Program)(op:BinOp)(t:TypeId)(x y:Value):Q Value:=
 match x,y with
 |.int k a,.int c b=>
  match op with
  |.shl=>if b<0 then none else some (.int k<|k.wrap<|a*2^min b.toNat k.bits)
  |.shr=>if b<0 then none else some (.int k<|a.fdiv<|2^min b.toNat k.bits)
  |_=>if k=c then match op with
   |.add=>some (.int k<|k.wrap<|a+b)
   |.sub=>some (.int k<|k.wrap<|a-b)
   |.mul=>some (.int k<|k.wrap<|a*b)
   |.quo=>if b=0 then none else some (.int k<|k.wrap<|a.tdiv b)
   |.rem=>if b=0 then none else some (.int k<|a.tmod b)
   |.and=>some (.int k<|k.wrap (BitVec.ofInt k.bits a&&&BitVec.ofInt k.bits b).toNat)
   |.or=>some (.int k<|k.wrap (BitVec.ofInt k.bits a|||BitVec.ofInt k.bits b).toNat)
   |.xor=>some (.int k<|k.wrap (BitVec.ofInt k.bits a^^^BitVec.ofInt k.bits b).toNat)
   |.andNot=>some (.int k<|k.wrap (BitVec.ofInt k.bits a&&& ~~~ BitVec.ofInt k.bits b).toNat)
   |.eql=>some (.bool<|a==b)
   |.neq=>some (.bool<|a !=b)
   |.lss=>some (.bool<|decide (a<b))
   |.leq=>some (.bool<|decide (a<=b))
   |.gtr=>some (.bool<|decide (a>b))
   |.geq=>some (.bool<|decide (a>=b))
   |_=>none
   else none
 |.string a,.string b=>
  match op with
  |.add=>if((a.size+b.size:Nat):Int)>IntKind.i64.max then none else some (.string<|a++b)
  |.eql=>some (.bool<|a.toList==b.toList)
  |.neq=>some (.bool !(a.toList==b.toList))
  |.lss=>some (.bool<|Op.bytesLess a.toList b.toList)
  |_=>none
 |.bool a,.bool b=>match P.underlying t with
  |some .bool=>match op with
   |.eql=>some (.bool<|a==b)
   |.neq=>some (.bool<|!(a==b))
   |_=>none
  |_=>none
 |_,_=>none
def uno(op:UnOp)(x:Value):Q Value:=
 match op,x with
 |.neg,.int k n=>some (.int k<|k.wrap<|0-n)
 |.xor,.int k n=>some (.int k<|k.wrap (BitVec.ofInt k.bits (if k.signed then -1 else k.max)^^^BitVec.ofInt k.bits n).toNat)
 |.not,.bool b=>some (.bool !b)
 |_,_=>none
def isNil(P:Program)(t:TypeId)(x y:AV):Q Bool:=
 match y with
 |.list .nil _ _=>match x with
  |.list f _ a=>match P.underlying t with
   |some (.slice _)=>match f with
    |.nil=>some true
    |_=>if a.isEmpty then none else some false
   |_=>none
  |_=>none
 |.v (.pointer none)=>match P.underlying t with
  |some (.pointer _)=>match x with
   |.box _ _=>some false
   |.v (.pointer none)=>some true
   |_=>none
  |_=>none
 |.v .nilFunc=>match P.underlying t with
  |some (.func _ _ _)=>match x with
   |.fn _ _ _=>some false
   |.v .nilFunc=>some true
   |_=>none
  |_=>none
 |_=>none
def OH(op:BinOp)(b:Q Bool):Q AV:=
 match op,b with
 |.eql,some b=>some (.v<|.bool b)
 |.neq,some b=>some (.v<|.bool !b)
 |_,_=>none
def nA(P:Program)(op:BinOp)(t:TypeId)(x y:AV):Q AV:=
 match x with
 |.v a=>match y with
  |.v b=>match zB P op t a b with
   |some v=>some (.v v)
   |none=>OH op (isNil P t (.v a)<|.v b)
  |_=>none
 |_=>OH op<|isNil P t x y
def ug(P:Program)(d:Nat)(t:TypeId)(x:cx):Q (L Mv):=
 match ct P t with
 |some ti=>match x.addr with
  |some (r,g1,g2,p,av)=>match bH av p with
   |some y=>if fits ti y then
     if y.aK then some [.put d y]
     else if r=d then none
     else if y.cell then some [.put d<|.bw r g1 g2 p]else some [.share r p,.put d y.cC]
    else none
   |none=>none
  |none=>none
 |none=>none
def v7(P:Program)(t:TypeId)(a x:cx):Q (L Mv):=
 match ct P t with
 |some ti=>match a.addr with
  |some (r,_,_,p,av)=>match bH av p with
   |some b=>if fits ti b&&ti.size !=0 then match eX x with
     |some (y,M)=>if fits ti y then some [.store r p M y]else none
     |none=>none
    else none
   |none=>none
  |none=>none
 |none=>none
def kM(P:Program)(d:Nat)(t:TypeId)(x:cx)(f:Nat):Q (L Mv):=
 match p8 P t f with
 |some (o,a)=>match ct P a with
  |some ti=>match x.addr with
   |some (r,g1,g2,p,av)=>if r=d then none else if ti.size=0 then none else
    if flat (p++[jP ti o])then some [.put d<|.ptr r g1 g2<|p++[jP ti o]]else match bH av (p++[jP ti o])with
     |some _=>some [.put d<|.ptr r g1 g2<|p++[jP ti o]]
     |none=>none
   |none=>none
  |none=>none
 |none=>none
def il(P:Program)(d:Nat)(t:TypeId)(x i:cx):Q (L Mv):=
 match i.cont with
 |some (.v<|.int _ n)=>match P.underlying t with
  |some (.slice e)=>match ct P e with
   |some ti=>match x.nF with
    |some (r,g1,g2,q,sz,o,m)=>if sz=ti.size/\0<=n/\n<m then if r=d then none else some [.put d<|.ptr r g1 g2<|q++[.idx (o+n.toNat) sz]]else none
    |none=>match x.cont with
     |some (.list _ sz a)=>if sz=ti.size/\0<=n/\n<a.length then match x.place with
       |some (r,g1,g2,p)=>if r=d then none else some [.put d<|.ptr r g1 g2<|p++[.idx n.toNat sz]]
       |none=>none
      else none
     |_=>none
   |none=>none
  |some (.array len e)=>match ct P e with
   |some ti=>match x.addr with
    |some (r,g1,g2,p,av)=>if 0<=n/\n<len/\r≠d then
      match bH av (p++[jP ti<|n.toNat*ti.size])with
      |some _=>some [.put d<|.ptr r g1 g2<|p++[jP ti<|n.toNat*ti.size]]
      |none=>none
     else none
    |none=>none
   |none=>none
  |_=>none
 |_=>none
def py(d:Nat)(x:cx)(i:Nat):Q (L Mv):=
 match x.cont with
 |some (.bU a)=>match a[i]?with
  |some y=>if y.aK then some [.put d y]else match x.place with
   |some (r,g1,g2,p)=>if r=d\/p≠[]then none else some [.put d<|.bw r g1 g2 [.bU i]]
   |none=>none
  |none=>none
 |_=>none
def Al(P:Program)(d:Nat)(t:TypeId)(x:cx)(f:Nat):Q (L Mv):=
 match p8 P t f with
 |some (o,a)=>match ct P a with
  |some ti=>match x.cont with
   |some av=>match bH av [jP ti o]with
    |some y=>if y.aK then some [.put d y]else none
    |none=>none
   |none=>none
  |none=>none
 |none=>none
def wJ(P:Program)(d:Nat)(t:TypeId)(x i:cx):Q (L Mv):=
 match i.cont with
 |some (.v<|.int _ n)=>match P.underlying t with
  |some .string=>match x.cont with
   |some (.v<|.string s)=>if 0<=n then match s[n.toNat]?with
     |some b=>some [.put d<|.v<|.int .u8 b.toNat]
     |none=>none
    else none
   |_=>none
  |some (.array len e)=>match ct P e with
   |some ti=>match x.cont with
    |some av=>if 0<=n/\n<len then match bH av [jP ti<|n.toNat*ti.size]with
      |some y=>if y.aK then some [.put d y]else none
      |none=>none
     else none
    |none=>none
   |none=>none
  |_=>none
 |_=>none
def EY(P:Program)(d:Nat)(a b:TypeId)(x:cx):Q (L Mv):=
 match P.underlying a,P.underlying b,x.cont with
 |some _,some<|.int k,some (.v<|.int _ n)=>some [.put d<|.v<|.int k<|k.wrap n]
 |some .string,some .string,some (.v<|.string s)=>some [.put d<|.v<|.string s]
 |_,_,_=>none
def od:Q cx->Nat->Q Nat
 |none,a=>some a
 |some x,_=>match x.cont with
  |some (.v<|.int _ n)=>if 0<=n then some n.toNat else none
  |_=>none
def rQ(P:Program)(d:Nat)(t:TypeId)(x:cx)(lo hi mx:Q cx):Q (L Mv):=
 match P.underlying t with
 |some .string=>match x.cont with
  |some (.v<|.string s)=>match mx with
   |none=>match od lo 0,od hi s.size with
    |some l,some h=>if l<=h/\h<=s.size then some [.put d<|.v<|.string<|s.extract l h]else none
    |_,_=>none
   |some _=>none
  |_=>none
 |some (.slice e)=>match ct P e with
  |some ti=>match x.cont with
   |some (.list f sz a)=>match od lo 0,od hi a.length with
    |some l,some h=>match od mx h with
     |some m=>if l<=h/\h<=m/\m<=a.length then match f with
       |.nil=>some [.put d<|.list .nil sz []]
       |.shr=>if sz=ti.size then some [.put d<|.list .shr sz<|(a.drop l).take<|h-l]else none
       |.own=>if sz=ti.size then match x.place with
         |some (r,_,_,p)=>if r=d then none else some [.share r p,.put d<|.list .shr sz<|((iZ a).drop l).take<|h-l]
         |none=>none
        else none
      else none
     |none=>none
    |_,_=>none
   |_=>none
  |none=>none
 |_=>none
def ma(P:Program)(d:Nat)(t:TypeId)(x y:cx):Q (L Mv):=
 match dO P t with
 |some e=>match ct P e with
  |some ti=>
   if ti.size=0 then none else
   match y.cont with
   |some (.list h f a)=>
    let b:Q (L Nat):=if bR a then some []else match h,y.sl.av with
     |.own,.list _ _ _=>match y.s with
      |some s=>some [s]
      |none=>none
     |_,_=>none
    match b with
    |none=>none
    |some b=>
     if(a.isEmpty||(f==ti.size&&a.all (fits ti)))&& !b.contains d then
     match x.cont with
     |some (.list .nil _ _)=>if(a.length*ti.bytes)<=140737488355328/\a.length<=maxLen then
       some [.make b d<|if a.isEmpty then .list .nil 0 []else .list .own ti.size a]else none
     |some (.list .own g c)=>if g=ti.size/\(c.length+a.length)*ti.bytes<=140737488355328/\c.length+a.length<=maxLen then
       match x.sl.av with
       |.bw r _ _ p=>if r∈b then none else some [.take r d p,.make (d::b) d<|.list .own ti.size<|c++a]
       |_=>match x.s with
        |some s=>if s∈b then none else some [.make (s::b) d<|.list .own ti.size<|c++a]
        |none=>none
      else none
     |_=>none
     else none
   |_=>none
  |none=>none
 |none=>none
def Y1(x:cx):Q AV:=
 match x.cont with
 |some y=>some y.cC
 |none=>none
def iH:L cx->Q (L AV)
 |[]=>some []
 |x::xs=>match Y1 x,iH xs with
  |some y,some ys=>some (y::ys)
  |_,_=>none
def shares:L cx->L Mv
 |[]=>[]
 |x::xs=>match x.cont with
  |some y=>if y.aK then shares xs else match x.place with
   |some (r,_,_,p)=>.share r p::shares xs
   |none=>.take 0 0 []::shares xs
  |none=>.take 0 0 []::shares xs
abbrev Obl:=FuncId×L AV×AV
def dz(d:Q Nat)(a:AV)(b:L Mv):L Mv:=
 match d with
 |some d=>b++[.make [] d a]
 |none=>b
def Fh(d:Q Nat)(f:cx)(asx:L cx)(b:AV):Q (L Mv×L Obl):=
 match f.cont with
 |some (.fn (.func g) first a)=>if bR first&&bR a then match iH asx with
   |some c=>if !b.da then match shares asx with
     |[]=>some (dz d b [],[(g,first++c++a,b)])
     |[m]=>some (dz d b [m],[(g,first++c++a,b)])
     |_=>none
    else some (dz d b [],[(g,first++c++a,b)])
   |none=>none
  else none
 |_=>none
def lG(P:Program)(d:Nat)(b:Builtin)(f:L TypeId)(asx:L cx):Q (L Mv):=
 match b,f,asx with
 |.len,t::_,[x]=>match x.cont with
  |some (.v<|.string s)=>match P.underlying t with
   |some .string=>some [.put d<|.v<|.int .i64 s.size]
   |_=>none
  |some (.list _ _ e)=>match P.underlying t with
   |some (.slice _)=>some [.put d<|.v<|.int .i64 e.length]
   |_=>none
  |_=>none
 |.append,[t,g],[x,y]=>match dO P g with
  |some _=>ma P d t x y
  |none=>none
 |.min,_,[x,y]=>match x.cont,y.cont with
  |some (.v<|.int k a),some (.v<|.int c b)=>if k=c then some [.put d<|.v<|.int k<|min a b]else none
  |_,_=>none
 |.max,_,[x,y]=>match x.cont,y.cont with
  |some (.v<|.int k a),some (.v<|.int c b)=>if k=c then some [.put d<|.v<|.int k<|max a b]else none
  |_,_=>none
 |_,_,_=>none
def gS:Q (L Mv)->Q (L Mv×L Obl)
 |some a=>some (a,[])
 |none=>none
def B8(P:Program)(σ:St)(o:Oper)(j:AV):Q (L Mv×L Obl):=
 match o.dst with
 |none=>match o.op with
  |.store t a x=>gS (v7 P t (resolve σ a)<|resolve σ x)
  |.call c=>match c.callee with
   |.value f=>Fh none (resolve σ f) (c.args.toList.map<|resolve σ) j
   |_=>none
  |_=>none
 |some d=>match o.op with
  |.move x=>gS (dD d<|resolve σ x)
  |.nilCheck x=>match(resolve σ x).cont with
   |some (.box _ _)=>gS (dD d<|resolve σ x)
   |some (.fn (.func _) _ _)=>gS (dD d<|resolve σ x)
   |_=>match(resolve σ x).sl.av with
    |.ptr .. =>match(resolve σ x).addr with
     |some _=>gS (dD d<|resolve σ x)
     |none=>none
    |_=>none
  |.assign x=>gS (dT d<|resolve σ x)
  |.pick c x y=>match(resolve σ c).cont with
   |some (.v<|.bool b)=>match b with
    |true=>gS (dD d<|resolve σ x)
    |false=>gS (dD d<|resolve σ y)
   |_=>none
  |.alloc t=>match ct P t with
   |some ti=>some ([.make [] d<|.box true ti.zero],[])
   |none=>none
  |.box t x=>match ct P t with
   |some ti=>match eX (resolve σ x)with
    |some (y,M)=>if fits ti y then some ([.make M d<|.box true y],[])else none
    |none=>none
   |none=>none
  |.build t k=>match ct P t with
   |some ti=>match ti.zero with
    |.agg z=>match placesOf P t with
     |some u=>match gU (k.toList.map λp=>resolve σ p.2)with
      |some (q,M)=>match uq u z ((k.toList.map (·.1)).zip q)with
       |some w=>some ([.make M d<|.agg w],[])
       |none=>none
      |none=>none
     |none=>none
    |_=>none
   |none=>none
  |.buildSlice t n k=>match dO P t with
   |some e=>match ct P e with
    |some ti=>match gU (k.toList.map λp=>resolve σ p.2)with
     |some (q,M)=>if(k.toList.map (·.1)=List.range n)/\(q.all<|fits ti)/\n*ti.size<=2^24/\n<=maxLen then some ([.make M d<|.list .own ti.size q],[])else none
     |none=>none
    |none=>none
   |none=>none
  |.load t a=>gS (ug P d t<|resolve σ a)
  |.fieldAddr t x f=>gS (kM P d t (resolve σ x) f)
  |.field t x f=>gS (Al P d t (resolve σ x) f)
  |.indexAddr t x i=>gS (il P d t (resolve σ x)<|resolve σ i)
  |.index t x i=>gS (wJ P d t (resolve σ x)<|resolve σ i)
  |.extract x i=>gS (py d (resolve σ x) i)
  |.binOp r t x y _=>match(resolve σ x).cont with
   |some a=>match(resolve σ y).cont with
    |some b=>match nA P r t a b with
     |some v=>some ([.put d v],[])
     |none=>none
    |none=>none
   |none=>none
  |.unOp r _ x=>match(resolve σ x).cont with
   |some (.v a)=>match uno r a with
    |some v=>some ([.put d<|.v v],[])
    |none=>none
   |_=>none
  |.convert s t x=>gS (EY P d s t<|resolve σ x)
  |.slice t x l h m=>gS (rQ P d t (resolve σ x) (l.map<|resolve σ) (h.map<|resolve σ)<|m.map<|resolve σ)
  |.makeSlice t l c=>match dO P t with
   |some e=>match ct P e with
    |some ti=>match(resolve σ l).cont,(resolve σ c).cont with
     |some (.v<|.int _ a),some (.v<|.int _ b)=>if 0<=a/\a<=b/\b*ti.bytes<=140737488355328/\b<=maxLen/\0<ti.size then
       some ([.make [] d<|.list .own ti.size<|List.replicate a.toNat ti.zero],[])else none
     |_,_=>none
    |none=>none
   |none=>none
  |.makeFunc f first g=>match iH (first.toList.map<|resolve σ),iH (g.toList.map<|resolve σ)with
   |some a,some c=>if(shares<|first.toList.map (resolve σ)++g.toList.map (resolve σ)).isEmpty then some ([.put d<|.fn f a c],[])else none
   |_,_=>none
  |.call c=>match c.callee with
   |.value f=>Fh (some d) (resolve σ f) (c.args.toList.map<|resolve σ) j
   |.builtin b=>gS (lG P d b c.argTypes.toList<|c.args.toList.map<|resolve σ)
   |_=>none
  |_=>none
section
variable{a:Act}{d t:Nat}{P:Program}{w w' w0:World}
structure Hid where
 v:Nat->Value
 g:Nat->Prop
 rd:Option Nat:=none
 df:List Deferred:=[]
def an.Ri{S:Nat->Prop}{σ:St}{T:Nat->Value}{g1 g2:Nat}{F:L Nat}{g:FuncId}{b:L (Nat×Nat)}(h:an w S σ T t F)(i:(σ t).av=.gI g b)(f:b.all (λq=>q.1 !=d)=true):
 an w S (iy σ d ⟨.gI g b,g1,g2⟩) (iy T d<|T t) d []:=by
 have c:∀q∈b,q.1≠d:=by simpa using f
 unfold an at h⊢;rw[i]at h;simp only[aI]at h⊢;obtain⟨-,l,j⟩:=h;refine⟨U,λq e=>by rw[ar _ _<|c q e];exact l q e,λk=>?_⟩;rw[j λq e=>by have:=k q e;rwa[ar _ _<|c q e]at this]
 congr 2
 exact adx λq e=>by rw[ar _ _<|c q e]
def cK(V:Hid)(w0:World)(b:Nat):Prop:=w0.heap.size<=b\/V.g b
structure sS(V:Hid)(w0 w w':World):Prop where
 os:w'.os=w.os
 tape:w'.tape=w.tape
 output:w'.output=w.output
 size:w.heap.size<=w'.heap.size
 block:∀k,k<w0.heap.size->¬V.g k->w'.heap[k]?=w.heap[k]?
def mb(V:Hid)(w0 w:World):Prop:=sS V w0 w0 w
def Laid(P:Program)(w:World):Prop:=Lib.TabIs P w "internal/strconv.uint64pow10" .u64 Lib.pow10Tab
def B2(P:Program)(B:Nat->Prop):Prop:=∀g,P.globalNamed "internal/strconv.uint64pow10"=some g->¬B g
structure lE(P:Program)(V:Hid)(w:World):Prop where
 laid:Laid P w
 apart:B2 P V.g
def Laid.same(h:Laid P w)(b:∀g,P.globalNamed "internal/strconv.uint64pow10"=some g->g<w.heap.size->w'.heap[g]?=w.heap[g]?):Laid P w':=by
 unfold Laid Lib.TabIs World.var? at*;cases hn:P.globalNamed "internal/strconv.uint64pow10" with
 |none=>rw[hn]at h;cases h
 |some g=>grind
def Laid.lt(h:Laid P w){g:Nat}(hn:P.globalNamed "internal/strconv.uint64pow10"=some g):g<w.heap.size:=by
 unfold Laid Lib.TabIs World.var? at h
 grind
def lE.L3{V:Hid}(h:lE P V w0)(k:mb V w0 w):Laid P w:=h.laid.same λg hn b=>k.block g b<|h.apart g hn
def lE.cK{V:Hid}(h:lE P V w0):B2 P (cK V w0):=λg hn b=>b.elim (λb=>by have:=h.laid.lt hn;omega)<|h.apart g hn
def B2.mono{B C:Nat->Prop}(h:B2 P C)(k:∀b,B b->C b):B2 P B:=λg hn c=>h g hn<|k g c
def sS.trans{V:Hid}{a b c:World}(h:sS V w0 a b)(k:sS V w0 b c):sS V w0 a c:=⟨k.os.trans h.os,k.tape.trans h.tape,k.output.trans h.output,acI h.size k.size,λi hi e=>(k.block i hi e).trans<|h.block i hi e⟩
def mb.refl(V:Hid)(w:World):mb V w w:=⟨W,W,W,.refl,λ_ _ _=>rfl⟩
def mb.trans{V:Hid}(h:mb V w0 w)(k:sS V w0 w w'):mb V w0 w':=sS.trans h k
def mb.P7{V:Hid}(h:mb V w0 w)(k:Below w.heap.size w w'):mb V w0 w':=h.trans ⟨k.os,k.tape,k.output,k.size,λi hi _=>k.block i<|acW hi h.size⟩
def mb.new{V:Hid}(h:mb V w0 w):∀b,w.heap.size<=b->cK V w0 b:=λ_ c=>.inl<|acI h.size c
def yd{V:Hid}{k:Nat}(h:cK V w0 k)(c:k<w0.heap.size)(b:¬V.g k):False:=h.elim (λh=>E) b
def tv(V:Hid)(a:Act):Nat->Value:=λi=>if i<1000000\/i<a.tmps.size then a.tmps.getD i undef else V.v i
def xf(V:Hid)(a:Act){i:Nat}(h:i<1000000\/i<a.tmps.size):tv V a i=a.tmps.getD i undef:=by unfold tv;rw[aas h]
def lL{V:Hid}(h:d<a.tmps.size)(v:Value):tv V (a.put (some d) v)=iy (tv V a) d v:=by
 funext i
 unfold tv iy Act.put;simp only[Array.getD_eq_getD_getElem?,Array.getElem?_setIfInBounds]
 grind
def size_put(a:Act)(d:Q Nat)(v:Value):(a.put d v).tmps.size=a.tmps.size:=by cases d<;>simp[Act.put]
def eQ(a:Act)(d:Q Nat)(v:Value):(a.put d v).defers=a.defers:=by cases d<;>simp[Act.put]
def gW(V:Hid)(a:Act)(h:t<1000000):a.eval (.tmp t)=tv V a t:=(xf V a<|.inl h).symm
def Inv(N:Nat)(V:Hid)(w0:World)(S0:Nat->Prop)(σ:St)(a:Act)(w:World):Prop:=∃S F,aU S (cK V w0) σ (tv V a) w F/\a.tmps.size=N/\a.defers=V.df/\(∀b,S0 b->S b)/\(∀b,S b->S0 b\/cK V w0 b)/\mb V w0 w
def FW(rd:Q Nat):Fence:={Fence.wide with round:=rd}
def PC{rd:Q Nat}{n:Nat}{f:FuncId}{args:Array Value}{R:Ending->World->Prop}(h:Calls P f args w R):CallsIn (FW rd) n P f args w R:=by have b:=(callsIn_wide (n:=n)).2 h;exact⟨U,λc _=>b.2 c<|room_wide _⟩
def Oper.T3(rd:Option Nat)(P:Program)(o:Oper)(a:Act)(w:World)(next:Act->World->Prop)(Q:Exit->Act->World->Prop):Prop:=o.wpIn (FW rd) 0 P a w next Q
def Oper.qj{rd:Option Nat}{o:Oper}{next:Act->World->Prop}{Q:Exit->Act->World->Prop}(hn:∀c,o.op≠.defer c)
 (h:o.uponIn (FW rd) 0 P a next Q ((execOp a.eval o).run P w)):Oper.T3 rd P o a w next Q:=
 ⟨λ_ _=>trivial,by rw[Oper.semAt_eq _ _ _ hn];exact h⟩
def qD(P:Program)(f:FuncId)(c:Array Value)(w:World)(R:Value->World->Prop):Prop:=∀(rd:Q Nat)(o:Oper)(a:Act)(next:Act->World->Prop)(b:Exit->Act->World->Prop),(∀v w',R v w'->next (a.put o.dst v) w')->o.uponIn (FW rd) 0 P a next b ((callFunc f c).run P w)
def Sound(P:Program)(f:FuncId)(args:L AV)(r:AV):Prop:=
 ∀(w:World)(S:Nat->Prop)(e:L Value),Laid P w->(∀b,S b->b<w.heap.size)->Cells w S false args e []->
  qD P f e.toArray w λv w'=>∃c F,Below w.heap.size w w'/\(∀b,S b->c b)/\(∀b,c b->S b\/w.heap.size<=b)/\(∀b,c b->b<w'.heap.size)/\
   Rel w' c r v F/\F.Nodup/\∀b∈F,w.heap.size<=b/\b<w'.heap.size/\¬c b
end
section
variable{P:Program}{S:Nat->Prop}{B:Nat->Prop}{σ:St}{w:World}{F:Nat->L Nat}{V:Hid}
def Dg(w:World)(S:Nat->Prop)(v:Value):Rel w S (kl v) v []:=by unfold kl;split;simp[Rel];split;rename_i h;simp[Rel,h];simp[Rel]
def yR(w:World)(S:Nat->Prop)(one:Bool):∀(l:L Value),(one=true->∀v∈l,v.oneCell'=true)->Cells w S one (l.map kl) l []
 |[],_=>by simp[Cells]
 |v::l,h=>by exact⟨v,l,[],[],W,W,λb=>h b v I,Dg w S v,yR w S one l λb u hu=>h b u<|by simp[hu]⟩
def iS(w:World)(S:Nat->Prop)(v:Value)(h:oC v=true):Rel w S (gH v) v []:=by unfold gH;split;rename_i c;refine⟨c,W,yR w S true _ λ_ v b=>?_⟩;simp only[oC,acZ]at h;exact h v b;exact Dg w S v
def aO:Operand->Bool
 |.const v=>oC v
 |.tmp t=>Nat.blt t 1000000
 |_=>true
def gD{t:Nat}(h:aO (.tmp t)=true):t<1000000:=by have:=acR h;omega
def aV{a:Act}(h:aU S B σ (tv V a) w F)(x:Operand)(O:aO x=true){y:AV}(hc:(resolve σ x).cont=some y):
 ∃A,Rel w S y (a.eval x) A/\(∀b∈A,∃i,b∈F i)/\
  (∀t,x=.tmp t->(σ t).av.plain=true->A=F t/\y=(σ t).av)/\
  (∀t r g1 g2,x=.tmp t->(σ t).av=.bw r g1 g2 []->A=F r/\y=(σ r).av/\tv V a t=tv V a r/\(σ r).av.plain=true):=by
 cases x with
 |const v=>
  simp[resolve,cx.cont]at hc;have z:=iS w S v O;have H:y=gH v:=by split at hc<;>simp_all[Rel]
  subst H;exact⟨[],z,I,I,I⟩
 |func f=>simp[resolve,cx.cont,aaP]at hc;subst hc;refine⟨[],?_,I,I,I⟩;exact⟨#[],#[],[],[],W,by simp[Cells],by simp[Cells],W⟩
 |global g=>simp[resolve,cx.cont,Sl.none]at hc
 |tmp t=>
  have M:a.eval (.tmp t)=tv V a t:=gW V a<|gD O;simp[resolve]at hc;have u:=h.rel t;rw[M];by_cases k:(σ t).av.plain=true;rw[an.aC k]at u;have H:y=(σ t).av:=by
   unfold cx.of at hc;split at hc;rename_i e;rw[e]at k;simp[AV.plain]at k;rename_i e;rw[e]at k;simp[AV.plain]at k;rename_i e;rw[e]at k;simp[AV.plain]at k;simp[cx.cont]at hc
   grind
  subst H;refine⟨F t,u,λb N=>⟨t,N⟩,λY e _=>?_,λY r g1 g2 e N=>?_⟩;simp_all;cases e;rw[N]at k;simp[AV.plain]at k;cases j:(σ t).av with
  |bw r g1 g2 p=>
   unfold an at u;rw[j]at u;simp only at u;simp only[cx.of,j,cx.cont]at hc;split at hc;rename_i e1;split at hc;rename_i e2;split at hc;rename_i X c;split at hc;rename_i l;simp[aaP]at hc;subst hc;simp[abi]at l;obtain⟨-,-,-,h4⟩:=u;obtain⟨L,o,C,l3⟩:=h4 e1 (Iu e2) λ_=>⟨_,c⟩;by_cases m:p=[];subst m;simp[bH,aaP]at c;subst c;have z:=h.rel r;rw[an.aC l.2]at z;simp[loc,aaP]at o;subst o;simp[holds]at C
   grind
   have K:(σ r).av.plain=true:=by
    cases p with
    |nil=>exact aaF W m
    |cons s p=>cases hh:(σ r).av<;>simp[AV.plain]<;>(rw[hh]at c;simp[bH]at c)
   have z:=h.rel r;rw[an.aC K]at z;obtain⟨L1,T,A,r1,D,Z,r4,r5⟩:=Rel.read p (L:=.val<|tv V a r) z W c;rw[o]at r1;cases r1;have hz:tv V a t=T:=by
    cases L with
    |val q=>simp[holds]at C D;rw[C,D]
    |addr ad=>
     have ha:=l3 ad W;have n:X.cell=true:=by unfold zP at l;split at l;exact aaF W m;rename_i i;simp[loc,step1]at o;cases hT:tv V a r<;>rw[hT]at o<;>simp[cF]at o;exact l.1
     have h1:=At.cell C<|cells_one ha;have h2:=At.cell D<|cells_one<|Z.one n;simp_all
   grind
   cases hc;cases hc;cases hc;cases hc
  |ptr r g1 g2 p=>simp[cx.of,j,cx.cont]at hc
  |abs J=>simp[cx.of,j,cx.cont,Sl.none]at hc
  |gI g R=>simp[cx.of,j,cx.cont]at hc
  |_=>rw[j]at k;simp[AV.plain]at k
def J5{a:Act}(h:aU S B σ (tv V a) w F){t r g1 g2:Nat}{p:Path}{y:AV}(e:(σ t).av=.bw r g1 g2 p)(hc:(resolve σ<|.tmp t).cont=some y)
 {L:Loc}{z:Value}{u:List Nat}(hl:loc w (.val<|tv V a r) p=some L)(hh:holds w L z)(k:Rel w S y z u):z=tv V a t:=by
 have g:=h.rel t;unfold an at g;rw[e]at g;obtain⟨-,-,-,m⟩:=g;simp only[resolve,cx.of,e,cx.cont]at hc;split at hc;rename_i o;split at hc;rename_i n;obtain⟨A,i,f,j⟩:=m o (Iu n) λ_=>by grind
 rw[hl]at i;cases i;cases L with
 |val q=>simp[holds]at f hh;rw[f,hh]
 |addr s=>
  split at hc;split at hc;rename_i b;simp at hc;rw[hc]at b;simp at b;have c:y.cell=true:=by have:=b.1;unfold zP at this;split at this;simp[loc]at hl;simp[loc,step1]at hl;cases l:tv V a r<;>rw[l]at hl<;>simp[cF]at hl;exact this
  have x:=At.cell f<|cells_one<|j s W;have v:=At.cell hh<|cells_one<|k.one c;simp_all;cases hc;cases hc
 ·cases hc
 cases hc
def EZ{t r g1 g2:Nat}{p:Path}{y:AV}(e:(σ t).av=.bw r g1 g2 p)(hc:(resolve σ<|.tmp t).cont=some y):
 bH (σ r).av p=some y/\(p≠[]->(σ r).av.plain=true)/\y.plain=true:=by
 simp only[resolve,cx.of,e,cx.cont]at hc;split at hc;split at hc;split at hc;rename_i f c;split at hc;rename_i b;cases hc;simp at b;refine⟨c,λg=>?_,b.2⟩;cases p with
 |nil=>simp_all
 |cons s p=>cases hh:(σ r).av<;>simp[AV.plain]<;>(rw[hh]at c;simp[bH]at c)
 ·cases hc
 cases hc;cases hc;cases hc
def Inv.put{N:Nat}{w0:World}{S0:Nat->Prop}{a:Act}{d:Nat}{y:AV}{z:Value}(h:Inv N V w0 S0 σ a w)(i:d<N)
 (b:∀S F,aU S (cK V w0) σ (tv V a) w F->an w S (iy σ d ⟨y,(σ d).g1+1,(σ d).g2⟩) (iy (tv V a) d z) d []):
 Inv N V w0 S0 (iy σ d ⟨y,(σ d).g1+1,(σ d).g2⟩) (a.put (some d) z) w:=by
 obtain⟨S,F,hc,g,f,e,c,j⟩:=h;refine⟨S,iy F d [],?_,by rw[size_put];exact g,by rw[eQ];exact f,e,c,j⟩;rw[lL<|by rw[g];exact i];exact hc.put d y z<|b S F hc
def Inv.ju{N:Nat}{w0:World}{S0:Nat->Prop}{a:Act}{d:Nat}{y:AV}{z:Value}(h:Inv N V w0 S0 σ a w)(c:d<N)
 (b:∀S F,aU S (cK V w0) σ (tv V a) w F->Rel w S y z []):
 Inv N V w0 S0 (iy σ d ⟨y,(σ d).g1+1,(σ d).g2⟩) (a.put (some d) z) w:=
 h.put c λS F hc=>by have:=b S F hc;rw[an.aC<|by rw[aI];exact this.plain];simpa[aI]using this
def Mv.cG{d:Nat}{y:AV}:Mv.runs σ [.put d y]=some (iy σ d ⟨y,(σ d).g1+1,(σ d).g2⟩):=W
def ya(v:Value):(kl v).aK=true:=by unfold kl;split;rfl;split<;>rfl
def vG:∀l:L Value,bR (l.map kl)=true
 |[]=>rfl
 |v::l=>by simp[bR,ya,vG l]
def vH(v:Value):(gH v).aK=true:=by unfold gH;split;simp[AV.aK,vG];exact ya v
def I3(v:Value):(kl v).plain=true:=by unfold kl;split;rfl;split<;>rfl
def eV(v:Value):(gH v).plain=true:=by unfold gH;split;rfl;exact I3 v
def mG{N:Nat}{w0:World}{S0:Nat->Prop}{a:Act}{d:Nat}{l:St}(h:Inv N V w0 S0 σ a w)(k:d<N)(x:Operand)(s:aO x=true){m:L Mv}
 (hm:dD d (resolve σ x)=some m)(c:Mv.runs σ m=some l):Inv N V w0 S0 l (a.put (some d)<|a.eval x) w:=by
 cases x with
 |const v=>
  have:m=[.put d<|gH v]:=by
   simp[resolve,dD]at hm
   grind
  subst this;simp[Mv.cG,aaP]at c;subst c;exact h.ju k λS F _=>iS w S v s
 |func f=>
  simp[resolve,dD,AV.aK,bR,agJ,if_true,aaP]at hm;subst hm;simp[Mv.cG,aaP]at c;subst c;exact h.ju k λS F _=>by simp only[Rel,Act.eval];exact⟨#[],#[],[],[],W,by simp[Cells],by simp[Cells],W⟩
 |global g=>simp[resolve,Sl.none,dD,AV.aK,if_true,aaP]at hm;subst hm;simp[Mv.cG,aaP]at c;subst c;exact h.ju k λS F _=>by simp[Rel]
 |tmp t=>
  rw[gW V a<|gD s];cases b:(σ t).av with
  |bw r g1 g2 p=>simp only[resolve,cx.of,b,dD]at hm;split at hm;cases hm;rename_i e;cases hm;simp[Mv.cG,aaP]at c;subst c;refine h.put k λS F hc=>?_;have i:=hc.rel t;unfold an at i⊢;rw[b]at i;simp only[aI,ar _ _ e]at i⊢;simp_all
  |ptr r g1 g2 p=>simp only[resolve,cx.of,b,dD]at hm;split at hm;cases hm;rename_i e;cases hm;simp[Mv.cG,aaP]at c;subst c;refine h.put k λS F hc=>?_;have i:=hc.rel t;unfold an at i⊢;rw[b]at i;simp only[aI,ar _ _ e]at i⊢;simp_all
  |abs J=>simp[resolve,cx.of,b,Sl.none,dD,AV.aK,if_true,aaP]at hm;subst hm;simp[Mv.cG,aaP]at c;subst c;exact h.ju k λS F hc=>by simp[Rel]
  |gI g u=>simp only[resolve,cx.of,b,dD]at hm;split at hm;rename_i e;cases hm;simp only[Mv.cG,aaP]at c;subst c;exact h.put k λS F hc=>(hc.rel t).Ri b e;cases hm
  |_=>
   all_goals
    have n:(σ t).av.plain=true:=by rw[b];rfl
    have o:(resolve σ<|.tmp t)=⟨some t,σ t,.none⟩:=by simp[resolve,cx.of,b]
    rw[o]at hm;have j:(if(σ t).av.aK then some [Mv.put d (σ t).av]else if t=d then none else some [.put d<|.bw t (σ t).g1 (σ t).g2 []])=some m:=by simpa only[dD,b]using hm
    split at j;rename_i q;cases j;simp only[Mv.cG,aaP]at c;subst c;exact h.ju k λS F hc=>by have i:=hc.rel t;rw[an.aC n]at i;rw[Rel.aK _ i q]at i;exact i
    split at j;cases j;rename_i e;cases j;simp only[Mv.cG,aaP]at c;subst c;refine h.put k λS F hc=>?_;unfold an;simp only[aI,ar _ _ e];exact⟨U,aaU _,aaU _,λ_ _ _=>⟨.val _,W,W,I⟩⟩
end
section
variable{P:Program}{N:Nat}{w0 w:World}{V:Hid}{S0:Nat->Prop}{σ σ':St}{a:Act}
section
variable{y:AV}{M:L Nat}{d:Nat}
def mK(w:World)(cs:Array Value)(e:TypeId):row? (w.alloc<|.cells cs e) w.heap.size=some (cs,(0,0)):=by unfold row?;rw[heap_alloc_new]
def qn(w:World)(o:Obj){b:Nat}(h:b<w.heap.size):(w.alloc o).heap[b]?=w.heap[b]?:=Below.heap_alloc w o b h
def Inv.make{w':World}{z:Value}(h:Inv N V w0 S0 σ a w)(p:d<N)(l:Below w.heap.size w w')
 (o:∀S F,aU S (cK V w0) σ (tv V a) w F->∃c,Rel w' S y z c/\c.Nodup/\∀b∈c,(∃m∈M,b∈F m)\/w.heap.size<=b/\b<w'.heap.size):
 Inv N V w0 S0 (made σ M d y) (a.put (some d) z) w':=by
 obtain⟨S,F,hc,n,j,g,f,e⟩:=h;obtain⟨c,s,r,q⟩:=o S F hc;refine⟨S,λi=>if i=d then c else if i∈M then[]else F i,?_,by rw[size_put];exact n,by rw[eQ];exact j,g,f,e.P7 l⟩;rw[lL<|by rw[n];exact p];refine hc.make M d y z c e.new l.size (λb k _=>?_) r q s;exact l.block b k
def iD:Mv.runs σ [.make M d y]=some (made σ M d y):=W
def J9(h:Inv N V w0 S0 σ a w)(s:d<N)(x:Operand)(hx:aO x=true){C:L Mv}
 (hm:dT d (resolve σ x)=some C)(i:Mv.runs σ C=some σ'):Inv N V w0 S0 σ' (a.put (some d)<|a.eval x) w:=by
 have general:∀y,(resolve σ x).cont=some y->y.aK=true->C=[.put d y]->Inv N V w0 S0 σ' (a.put (some d)<|a.eval x) w:=by
  intro y hy n R;subst R;simp only[Mv.cG,aaP]at i;subst i;exact h.ju s λS F hc=>by obtain⟨F1,h1,-⟩:=aV hc x hx hy;rw[Rel.aK _ h1 n]at h1;exact h1
 cases x with
 |const v=>
  have:C=[.put d<|gH v]:=by simp only[resolve,dT]at hm;have h1:=vH v;have h2:=eV v;split at hm<;>simp_all[AV.plain]
  subst this;simp only[Mv.cG,aaP]at i;subst i;exact h.ju s λS F _=>iS w S v hx
 |func f=>simp only[resolve,dT,AV.aK,bR,agJ,if_true,aaP]at hm;exact general (.fn (.func f) [] []) W W hm.symm
 |global g=>simp only[resolve,Sl.none,dT,AV.aK,if_true,aaP]at hm;subst hm;simp only[Mv.cG,aaP]at i;subst i;exact h.ju s λS F _=>by simp[Rel]
 |tmp t=>
  have q:a.eval (.tmp t)=tv V a t:=gW V a<|gD hx;cases e:(σ t).av with
  |ptr r g1 g2 p=>rw[q];simp only[resolve,cx.of,e,dT]at hm;split at hm;cases hm;rename_i u;cases hm;simp only[Mv.cG,aaP]at i;subst i;refine h.put s λS F hc=>?_;have m:=hc.rel t;unfold an at m⊢;rw[e]at m;simp only[aI,ar _ _ u]at m⊢;simp_all
  |bw r g1 g2 p=>
   simp only[resolve,cx.of,e,dT]at hm;split at hm;rename_i y hy;split at hm;rename_i n;simp only[aaP]at hm;exact general y (by simpa only[resolve,cx.of,e]using hy) n hm.symm;have D:(resolve σ<|.tmp t).cont=some y:=by simpa only[resolve,cx.of,e]using hy
   obtain⟨l,Z,Y⟩:=EZ e D;have o:(σ r).av.plain=true:=by by_cases hp:p=[];subst hp;simp only[bH,aaP]at l;rw[l];exact Y;exact Z hp
   have E1:C=[.take r d p]->Inv N V w0 S0 σ' (a.put (some d)<|a.eval<|.tmp t) w:=by intro R;subst R;simp only[Mv.runs,Mv.run]at i;split at i;rename_i B0 j;cases i;split at j;cases j;rename_i E2;rw[l]at j;simp only at j;split at j;rename_i F0 hs;cases j;obtain⟨S,F,hc,hN,T,K,H,X⟩:=h;obtain⟨c,z,F2,F',k1,k2,k3,k4,-⟩:=hc.take r d p E2 o l hs;rw[J5 hc e D k1 k2 k3]at k4;refine⟨S,F',?_,by rw[size_put];exact hN,by rw[eQ];exact T,K,H,X⟩;rw[lL<|by rw[hN];exact s,q];exact k4;cases j;cases i
   split at hm;simp_all;simp_all;split at hm;cases hm;rename_i F4;cases hm;simp only[Mv.runs,Mv.run,l]at i;split at i;rename_i B0 j;split at j;rename_i F0 hs;simp only[aaP]at j i;subst j;subst i;obtain⟨S,F,hc,hN,T,K,H,X⟩:=h;obtain⟨c,z,F1,F',k1,k2,k3,k4,k5⟩:=hc.share r p o l hs;have hz:=J5 hc e D k1 k2 k3;have A0:∀b∈F1,cK V w0 b:=λb A=>(hc.own r b<|k5 b A).1;have hS:=Rel.share (S':=λb=>S b\/b∈F1) (λ_ h=>.inl h) _ k3 λb A=>.inr A;refine⟨λb=>S b\/b∈F1,iy F' d [],?_,by rw[size_put];exact hN,by rw[eQ];exact T,λb A=>.inl<|K b A,λb A=>A.elim (H b) λA=>.inr<|A0 b A,X⟩;rw[lL<|by rw[hN];exact s];refine k4.put d _ _ ?_;rw[an.aC<|by rw[aI];exact hS.plain,aI,aI,q,<-hz];exact hS;cases j;cases i;cases hm
  |abs J=>simp only[resolve,cx.of,e,Sl.none,dT,AV.aK,if_true,aaP]at hm;subst hm;simp only[Mv.cG,aaP]at i;subst i;exact h.ju s λS F hc=>by simp[Rel]
  |gI g F3=>rw[q];simp only[resolve,cx.of,e,dT]at hm;split at hm;rename_i u;cases hm;simp only[Mv.cG,aaP]at i;subst i;exact h.put s λS F hc=>(hc.rel t).Ri e u;cases hm
  |box b z=>
   rw[q];have B:(σ t).av.plain=true:=by rw[e];rfl
   have O:(resolve σ<|.tmp t)=⟨some t,σ t,.none⟩:=by simp[resolve,cx.of,e]
   rw[O]at hm;have k:(if(σ t).av.aK then some [Mv.put d (σ t).av]else if t=d then none else some [.put d<|.bw t (σ t).g1 (σ t).g2 []])=some C:=by simpa only[dT,e]using hm
   split at k;rename_i n;cases k;simp only[Mv.cG,aaP]at i;subst i;exact h.ju s λS F hc=>by have m:=hc.rel t;rw[an.aC B]at m;rw[Rel.aK _ m n]at m;exact m
   split at k;simp at k;rename_i u;cases k;simp only[Mv.cG,aaP]at i;subst i;refine h.put s λS F hc=>?_;unfold an;simp only[aI,ar _ _ u];exact⟨U,aaU _,aaU _,λ_ _ _=>⟨.val _,W,W,I⟩⟩
  |_=>
   all_goals
    rw[q];have B:(σ t).av.plain=true:=by rw[e];rfl
    have O:(resolve σ<|.tmp t)=⟨some t,σ t,.none⟩:=by simp[resolve,cx.of,e]
    rw[O]at hm;have k:(if(σ t).av.aK then some [Mv.put d (σ t).av]else if t=d then none else some [.make [t] d (σ t).av])=some C:=by simpa only[dT,e]using hm
    split at k;rename_i n;cases k;simp only[Mv.cG,aaP]at i;subst i;exact h.ju s λS F hc=>by have m:=hc.rel t;rw[an.aC B]at m;rw[Rel.aK _ m n]at m;exact m
    split at k;simp at k;cases k;simp only[iD,aaP]at i;subst i;refine h.make s (.refl _ _) λS F hc=>?_;have m:=hc.rel t;rw[an.aC B]at m;exact⟨F t,m,hc.nodup t,λb A=>.inl ⟨t,I,A⟩⟩
end
end
section
variable{P:Program}{N:Nat}{w0 w:World}{V:Hid}{S S0:Nat->Prop}{B:Nat->Prop}{σ σ':St}{a:Act}{F:Nat->L Nat}
section
variable{y:AV}{F1:L Nat}{t:TypeId}{z:Value}
def fK{rd:Option Nat}{o:Oper}{K:Act->World->Prop}{Q:Exit->Act->World->Prop}{v:Value}{w':World}(b:(execOp a.eval o).run P w=.ok (.value v) w')(h:K (a.put o.dst v) w'):Oper.T3 rd P o a w K Q:=by refine Oper.qj (λc hc=>?_) (by rw[b];exact h);simp[execOp,hc]at b;cases d:(Go.resolve a.eval c o.type).run P w<;>simp[d]at b
def qz(h:aU S B σ (tv V a) w F)(x:Operand)(l:aO x=true){M:L Nat}(d:eX (resolve σ x)=some (y,M)):
 ∃j,Rel w S y (a.eval x) j/\j.Nodup/\∀b∈j,∃m∈M,b∈F m:=by
 have general:(resolve σ x).cont=some y->y.aK=true->∃j,Rel w S y (a.eval x) j/\j.Nodup/\∀b∈j,∃m∈M,b∈F m:=by
  intro o e;obtain⟨F1,A,-⟩:=aV h x l o;rw[Rel.aK _ A e]at A
  grind
 cases x with
 |const v=>
  have:y=gH v:=by simp[resolve,eX]at d;have R:=eV v;split at d<;>simp_all[AV.plain]
  subst this;exact⟨[],iS w S v l,acP,I⟩
 |func f=>obtain⟨rfl,rfl⟩:=d;exact general W W
 |global g=>simp[resolve,Sl.none,eX]at d
 |tmp t=>
  cases c:(σ t).av with
  |ptr r g1 g2 p=>simp[resolve,cx.of,c,eX]at d
  |dead=>simp[resolve,cx.of,c,eX]at d
  |bw r g1 g2 p=>
   simp[resolve,cx.of,c,eX]at d;split at d;rename_i D o;have n:(resolve σ<|.tmp t).cont=some D:=by simpa only[resolve,cx.of,c]using o
   split at d;simp_all;split at d;rename_i H;subst H;cases d;obtain⟨F1,O,X,T,K⟩:=aV h (.tmp t) l n;obtain⟨rfl,-,-,-⟩:=K t r g1 g2 W c;exact⟨_,O,h.nodup r,λb u=>⟨r,I,u⟩⟩;cases d;cases d
  |abs J=>simp[resolve,cx.of,c,Sl.none,eX]at d
  |gI g C=>simp[resolve,cx.of,c,eX]at d
  |_=>
   all_goals
    rw[gW V a<|gD l];have q:(σ t).av.plain=true:=by rw[c];rfl
    have s:(resolve σ<|.tmp t)=⟨some t,σ t,.none⟩:=by simp[resolve,cx.of,c]
    rw[s]at d;have i:(if(σ t).av.aK then some ((σ t).av,([]:L Nat))else some ((σ t).av,[t]))=some (y,M):=by simpa only[eX,c]using d
    have k:=h.rel t;rw[an.aC q]at k;split at i;rename_i e;cases i;rw[Rel.aK _ k e]at k;exact⟨[],k,acP,I⟩;cases i;exact⟨F t,k,h.nodup t,λb u=>⟨t,I,u⟩⟩
def mM(h:aU S B σ (tv V a) w F):∀(xs:L Operand),xs.all aO=true->∀{ys:L AV}{M:L Nat},gU (xs.map<|resolve σ)=some (ys,M)->
 ∃j,Cells w S false ys (xs.map a.eval) j/\j.Nodup/\∀b∈j,∃m∈M,b∈F m
 |[],_,ys,M,d=>by obtain⟨rfl,rfl⟩:=d;exact⟨[],by simp[Cells],acP,I⟩
 |x::xs,g,ys,M,d=>by
  simp only[ac4,abi]at g;simp only[acK,gU]at d;split at d;rename_i y K o J r q;split at d;rename_i l;cases d;obtain⟨F1,H,A,v⟩:=qz h x g.1 r;obtain⟨C,D,u,s⟩:=mM h xs g.2 q;refine⟨F1++C,?_,?_,λb n=>?_⟩;simp only[Cells]
  grind
  rw[acH];refine⟨A,u,λb n c hc e=>?_⟩;subst e;obtain⟨m,hm,i⟩:=v b n;obtain⟨k,p,f⟩:=s b hc;have:m≠k:=λe=>by simp_all
  exact h.di m k this b i f
  grind
  cases d;cases d
def mn{ti:TI}(h:ct P t=some ti):∃i u z,P.info? t=some i/\P.underlying t=some u/\i.zero=some z/\ti.size=i.size/\ti.bytes=i.bytes/\ti.zero=gH z/\
 ti.agg=(match u with|.struct _|.array .. =>true|_=>false)/\z.cells.size=ti.size/\oC z=true:=by
 unfold ct at h
 grind
def zD{ti:TI}(h:ct P t=some ti)(w:World):(isAgg t).run P w=.ok ti.agg w:=by obtain⟨i,u,z,j,c,g,f,e,d,b,-⟩:=mn h;unfold isAgg;simp[run_underlying c];rw[b];cases u<;>rfl
def dM{ti:TI}(h:ct P t=some ti)(w:World):(sizeOf t).run P w=.ok ti.size w:=by obtain⟨i,u,z,c,j,g,b,f,e,d⟩:=mn h;simp[sizeOf,typeInfo,c,b]
def Dd{ti:TI}(h:ct P t=some ti)(w:World):∃z,(zeroValue t).run P w=.ok z w/\ti.zero=gH z/\z.cells.size=ti.size/\oC z=true:=by obtain⟨i,u,z,f,l,e,k,j,d,g,c,b⟩:=mn h;exact⟨z,by simp[zeroValue,typeInfo,f,e],d,c,b⟩
def gw{ti:TI}(d:ct P t=some ti){b:Addr}(h:At w b z)(f:(ti.agg=true/\∃cs,z=.agg cs/\cs.size=ti.size)\/(ti.agg=false/\z.oneCell'=true)):
 (loadVar t b).run P w=.ok z w:=by
 unfold loadVar;simp only[Sem.run_bind,zD d,Result.andThen_ok];rcases f with⟨c,cs,rfl,e⟩|⟨c,e⟩;obtain⟨hs,k,l,i,hc⟩:=h;simp[c,dM d];have:=run_loadCells_list (P:=P) w b cs.toList (λj v g=>by rw[cv hs,ny (a:=⟨b.block,b.off+j,none⟩) W i];exact hc j v<|by simpa[bK]using g)
 simp_all;simp only[c,agq,if_false];rw[run_load,h.cell<|cells_one e]
def ky{ti:TI}(b:fits ti y=true)(c:Rel w S y z F1):
 (ti.agg=true/\∃cs,z=.agg cs/\cs.size=ti.size)\/(ti.agg=false/\z.oneCell'=true):=by
 unfold fits at b;split at b;rename_i d;simp at b;obtain⟨cs,rfl,hc⟩:=c;exact .inl ⟨b.1,cs,W,by have:=Cells.length hc;simp at this;omega⟩;simp at b;exact .inr ⟨b.1.1,c.one b.2⟩
def vc{ti:TI}(b:fits ti y=true)(c:Rel w S y z F1):z.cells.size=ti.size:=by unfold fits at b;split at b;rename_i d;simp at b;obtain⟨e,rfl,hc⟩:=c;rw[bK];have:=Cells.length hc;simp at this;omega;simp at b;rw[cells_one<|c.one b.2];simp[b.1.2]
def je(w:World):∀(p q:Path)(L:Loc),loc w L (p++q)=(loc w L p).bind (loc w · q)
 |[],q,L=>rfl
 |s::p,q,L=>by
  simp[loc];cases step1 w L s with
  |none=>rfl
  |some b=>simp;exact je w p q b
def kQ(h:aU S B σ (tv V a) w F)(x:Operand)(m:aO x=true){r g1 g2:Nat}{p:Path}{av:AV}(i:(resolve σ x).addr=some (r,g1,g2,p,av)):
 g1=(σ r).g1/\g2=(σ r).g2/\av=(σ r).av/\(∃u,a.eval x=.pointer (some u))/\((flat p=false->∃y,bH av p=some y)->∃u,loc w (.val<|tv V a r) p=some (.addr u)/\a.eval x=.pointer (some u)):=by
 cases x with
 |const v=>simp[resolve,cx.addr]at i;have s:=eV v;split at i;rename_i e;rw[e]at s;simp[AV.plain]at s;cases i;rename_i e;rw[e]at s;simp[AV.plain]at s;cases i
 |func f=>simp[resolve,cx.addr]at i
 |global g=>simp[resolve,Sl.none,cx.addr]at i
 |tmp t=>
  have n:a.eval (.tmp t)=tv V a t:=gW V a<|gD m;rw[n];have l:=h.rel t;cases d:(σ t).av with
  |ptr M K H O=>unfold an at l;rw[d]at l;obtain⟨-,-,-,h5,R⟩:=l;simp only[resolve,cx.of,d,cx.addr]at i;split at i;rename_i o;split at i;rename_i T;cases i;simp_all;cases i;cases i
  |box own x0=>
   have C:(σ t).av.plain=true:=by rw[d];rfl
   rw[an.aC C,d]at l;simp[resolve,cx.of,d,cx.addr,aaP,acQ]at i;obtain⟨rfl,rfl,rfl,rfl,rfl⟩:=i;obtain⟨b,cs,Z,F',z,k,-⟩:=l;exact⟨W,W,by rw[d],⟨⟨b,0,none⟩,k⟩,λ_=>⟨⟨b,0,none⟩,by simp[loc,step1,k,cF],k⟩⟩
  |bw M K H O=>
   simp[resolve,cx.of,d,cx.addr]at i;split at i;rename_i own x0 hc;simp[aaP,acQ]at i;obtain⟨rfl,rfl,rfl,rfl,rfl⟩:=i;have D:(resolve σ<|.tmp t).cont=some (.box own x0):=by simpa only[resolve,cx.of,d]using hc
   have j:=l;unfold an at j;rw[d]at j;obtain⟨-,-,-,R⟩:=j;have Y:∃c,loc w (.val<|tv V a M) O=some c/\holds w c (tv V a t):=by
    simp only[cx.cont,d]at hc;split at hc;rename_i o;split at hc;rename_i T;obtain⟨c,A,q,-⟩:=R o (Iu T) λ_=>by grind
    exact⟨c,A,q⟩;cases hc;cases hc
   obtain⟨c,A,q⟩:=Y;obtain⟨F1,o,-⟩:=aV h (.tmp t) m D;simp only[Rel,n]at o;obtain⟨b,cs,Z,F',z,k,-⟩:=o;refine⟨W,W,W,⟨⟨b,0,none⟩,k⟩,λ_=>⟨⟨b,0,none⟩,?_,k⟩⟩;rw[je,A];simp[aeu,loc];rw[k]at q;rw[de q W I];rfl;cases i
  |abs J=>simp[resolve,cx.of,d,cx.addr,Sl.none]at i
  |gI g X=>simp[resolve,cx.of,d,cx.addr]at i
  |_=>simp[resolve,cx.of,d,cx.addr]at i
end
end
section
variable{P:Program}{N:Nat}{w0 w:World}{V:Hid}{S S0:Nat->Prop}{B:Nat->Prop}{σ σ':St}{a:Act}{F:Nat->L Nat}
section
variable{y:AV}{d o r t:Nat}{p:Path}
def Good(N:Nat)(V:Hid)(w0:World)(S0:Nat->Prop)(σ':St)(a:Act)(d:Nat)(r:Result Value):Prop:=∃v b,r=.ok v b/\Inv N V w0 S0 σ' (a.put (some d) v) b
def xM{T:Nat->Value}{c:Addr}(b:bH (σ r).av p=some y)(hl:loc w (.val<|T r) p=some (.addr c)):(σ r).av.plain=true:=by
 cases p with
 |nil=>simp[loc]at hl
 |cons s p=>cases hh:(σ r).av<;>simp[AV.plain]<;>(rw[hh]at b;simp[bH]at b)
def Inv.GV{y':AV}{n:Value}(h:Inv N V w0 S0 σ a w)(C:d<N)(A:(σ r).av.plain=true)(q:bH (σ r).av p=some y)
 (g:Mv.runs σ [.share r p,.put d y']=some σ')
 (x:∀S F L z f,aU S (cK V w0) σ (tv V a) w F->loc w (.val<|tv V a r) p=some L->holds w L z->Rel w S y z f->∀S',Rel w S' y.cC z []->Rel w S' y' n []):
 Inv N V w0 S0 σ' (a.put (some d) n) w:=by
 simp[Mv.runs,Mv.run,q]at g;split at g;rename_i v c;split at c;rename_i D hs;simp at c g;subst c;subst g;obtain⟨S,F,hc,u,l,k,j,m⟩:=h;obtain⟨L,z,f,H,k1,k2,k3,k4,k5⟩:=hc.share r p A q hs;have i:=λb e=>(hc.own r b<|k5 b e).1;have s:=x S F L z f hc k1 k2 k3 (λb=>S b\/b∈f)<|Rel.share (S':=λb=>S b\/b∈f) (λ_ h=>.inl h) _ k3 λb e=>.inr e;refine⟨λb=>S b\/b∈f,iy H d [],?_,by rw[size_put];exact u,by rw[eQ];exact l,λb e=>.inl<|k b e,λb e=>e.elim (j b) λe=>.inr<|i b e,m⟩;rw[lL<|by rw[u];exact C];refine k4.put d _ _ ?_;rw[an.aC<|by rw[aI];exact s.plain,aI,aI];exact s;cases c;cases g
def ON(h:Inv N V w0 S0 σ a w)(hd:d<N)(x:Operand)(B0:aO x=true){ms:List Mv}
 (hm:ug P d t (resolve σ x)=some ms)(C:Mv.runs σ ms=some σ'):Good N V w0 S0 σ' a d ((Instr.loadAt t<|a.eval x).run P w):=by
 unfold ug at hm;split at hm;rename_i ti Y;split at hm;rename_i r g1 g2 p av hx;split at hm;rename_i y T;split at hm;rename_i f;have c:∀S F,aU S (cK V w0) σ (tv V a) w F->∃s z v,loc w (.val<|tv V a r) p=some (.addr s)/\At w s z/\Rel w S y z v/\(Instr.loadAt t<|a.eval x).run P w=.ok z w/\(σ r).av.plain=true/\av=(σ r).av/\g1=(σ r).g1/\g2=(σ r).g2:=by intro S F hc;obtain⟨rfl,rfl,rfl,-,D⟩:=kQ hc x B0 hx;obtain⟨s,u,R⟩:=D λ_=>⟨y,T⟩;have l:=xM T u;have A:=hc.rel r;rw[an.aC l]at A;obtain⟨L,z,v,k1,k2,k3,-⟩:=Rel.read p (L:=.val<|tv V a r) A W T;rw[u]at k1;cases k1;refine⟨s,z,v,u,k2,k3,?_,l,W,W,W⟩;simp[Instr.loadAt,Instr.sureAddr,R,Sem.run_bind,Sem.run_pure,Result.andThen_ok];exact gw Y k2<|ky f k3
 split at hm;rename_i A0;cases hm;simp[Mv.cG,aaP]at C;subst C;have H:=h;obtain⟨S,F,hc,-⟩:=h;obtain⟨s,z,v,u,R,l3,m,-⟩:=c S F hc;refine⟨z,w,m,H.ju hd λK O i=>?_⟩;obtain⟨q,X,M,k,g,e,b,-⟩:=c K O i;rw[m]at b;simp[Result.ok.injEq,aag]at b;subst b;rw[Rel.aK _ e A0]at e;exact e;split at hm;cases hm;rename_i Z;split at hm;rename_i n;cases hm;simp[Mv.cG,aaP]at C;subst C;have H:=h;obtain⟨S,F,hc,-⟩:=h;obtain⟨s,z,v,u,R,l3,m,-⟩:=c S F hc;refine⟨z,w,m,H.put hd λK O i=>?_⟩;obtain⟨q,X,M,k,g,e,b,-,rfl,rfl,rfl⟩:=c K O i;rw[m]at b;simp[Result.ok.injEq,aag]at b;subst b;unfold an;simp only[aI,ar _ _ Z];exact⟨U,aaU _,aaU _,λ_ _ _=>⟨.addr q,k,g,λ_ _=>e.one n⟩⟩;cases hm;have H:=h;obtain⟨S,F,hc,-⟩:=h;obtain⟨s,z,v,u,R,l3,m,l,rfl,-⟩:=c S F hc;refine⟨z,w,m,H.GV hd l T C λK O L X M i k1 k2 k3 E2 hS=>?_⟩;obtain⟨q,z2,F2,k,g,e,b,-⟩:=c K O i;rw[m]at b;simp[Result.ok.injEq,aag]at b;subst b;rw[k]at k1;cases k1;have:X=z:=by
  rcases ky f e with⟨h1,cs,rfl,h2⟩|⟨h1,h2⟩;rcases ky f k3 with⟨J,E1,rfl,h4⟩|⟨J,-⟩
  congr 1
  obtain⟨-,c1,f1,r1,q1⟩:=g;obtain⟨-,c2,f2,r2,q2⟩:=k2;rw[r1]at r2;cases r2;apply ahs;intro j;by_cases hj:j<cs.size;have e1:=q1 j cs[j] (by simp[bK,hj]);have e2:=q2 j E1[j] (by simp[bK])
  grind
  simp_all;simp_all;rcases ky f k3 with⟨J,-⟩|⟨J,h4⟩;rw[h1]at J;cases J;have e1:=At.cell g<|cells_one h2;have e2:=At.cell k2<|cells_one h4;simp_all
 rw[<-this];exact hS;cases hm;cases hm;cases hm;cases hm
def jg(q:Path)(k:AV->Q AV)(b:∀x,bH x q=k x):∀(p:Path)(x:AV),bH x (p++q)=(bH x p).bind k
 |[],x=>b x
 |s::p,x=>by
  simp;unfold bH;split;split;rename_i xs i e _;cases xs[i]?with
  |none=>rfl
  |some c=>simp;exact jg q k b p c
  ·rfl
  exact jg q k b p _;rename_i xs o;cases xs[o]?with
  |none=>rfl
  |some c=>simp;exact jg q k b p c
  ·split
   ·exact jg q k b p _
   rfl
  rename_i xs i;cases xs[i]?with
  |none=>rfl
  |some c=>simp;exact jg q k b p c
  ·split
   ·exact jg q k b p _
   rfl
  rfl
def BE(p q:Path)(x:AV):bH x (p++q)=(bH x p).bind (bH · q):=jg q _ (λ_=>rfl) p x
def Tf{s:Step}{n:Q Nat}(h:flat (s::p)=false):flat ((s::p)++[.at o n])=false:=by simp only[flat,agr,List.all_append]at h⊢;rw[h];rfl
def aaL{av:AV}{ti:TI}(b:flat (p++[jP ti o])=false->∃y,bH av (p++[jP ti o])=some y)(f:flat p=false):∃y,bH av p=some y:=by
 cases p with
 |nil=>exact⟨_,W⟩
 |cons s p=>
  obtain⟨y,c⟩:=b<|Tf f;rw[BE]at c;cases e:bH av (s::p)with
  |none=>simp_all
  |some g=>simp_all
def Ch{f:Nat}(h:Inv N V w0 S0 σ a w)(J:d<N)(x:Operand)(b:aO x=true){l:L Mv}
 (hm:kM P d t (resolve σ x) f=some l)(D:Mv.runs σ l=some σ'):Good N V w0 S0 σ' a d ((Instr.fieldAt t (a.eval x) f).run P w):=by
 unfold kM at hm;split at hm;rename_i o R g;split at hm;rename_i ti n;split at hm;rename_i r g1 g2 p av C;split at hm;cases hm;rename_i s;split at hm;cases hm;rename_i q;have u:l=[.put d<|.ptr r g1 g2<|p++[jP ti o]]/\(flat (p++[jP ti o])=false->∃y,bH av (p++[jP ti o])=some y):=by grind
 obtain⟨rfl,v⟩:=u;simp[Mv.cG]at D;subst D;have K:=h;obtain⟨S,F,hc,-⟩:=h;have j:=aaL v;obtain⟨-,-,-,-,k⟩:=kQ hc x b C;obtain⟨H,O,A⟩:=k j;have i:(Instr.fieldAt t (a.eval x) f).run P w=.ok (.pointer<|some<|H.add o) w:=by unfold p8 at g;split at g;rename_i T hu;split at g;rename_i fl b;cases g;simp[Instr.fieldAt,run_underlying hu,b,A,Instr.sureAddr,fieldPlace,dM n,q];cases g;cases g
 refine⟨_,w,i,K.put J λS' F' z=>?_⟩;obtain⟨Z,Y,X,-,e⟩:=kQ z x b C;obtain⟨M,m,c⟩:=e j;rw[A]at c;simp[aaP]at c;subst c;unfold an;simp only[aI,ar _ _ s];refine⟨U,E,E,⟨_,W⟩,λ_ _ _=>⟨H.add o,?_,W⟩⟩;rw[je,m];rfl;cases hm;cases hm;cases hm
def jF(h:aU S B σ (tv V a) w F)(x:Operand)(C:aO x=true){g1 g2:Nat}(hc:(resolve σ x).cont=some y)(c:(resolve σ x).place=some (r,g1,g2,p)):
 bH (σ r).av p=some y/\(σ r).g1=g1/\(RJ p=true\/(σ r).g2=g2)/\g1<=(σ r).g1/\g2<=(σ r).g2/\(σ r).av.plain=true/\∃L,loc w (.val<|tv V a r) p=some L/\holds w L (a.eval x)/\(∀ad,L=.addr ad->(a.eval x).oneCell'=true):=by
 cases x with
 |const v=>simp[resolve,cx.place]at c;have D:=eV v;split at c;rename_i e;rw[e]at D;simp[AV.plain]at D;cases c;cases c
 |func f=>simp[resolve,cx.place]at c
 |global g=>simp[resolve,Sl.none,cx.place]at c
 |tmp t=>
  rw[gW V a<|gD C];cases b:(σ t).av with
  |bw z l k A=>
   have n:r=z/\g1=l/\g2=k/\p=A:=by simp[resolve,cx.of,b,cx.place,aaP,acQ]at c;simp_all
   obtain⟨rfl,rfl,rfl,rfl⟩:=n;obtain⟨k1,k2,k3⟩:=EZ b hc;have m:=h.rel t;unfold an at m;rw[b]at m;obtain⟨-,Z,Y,T⟩:=m;simp only[resolve,cx.of,b,cx.cont]at hc;split at hc;rename_i u;split at hc;rename_i s;obtain⟨L,O,M,K⟩:=T u (Iu s) λ_=>by simp_all
   refine⟨k1,u,s,Z,Y,?_,L,O,M,K⟩;by_cases j:p=[];subst j;simp[bH,aaP]at k1;rw[k1];exact k3;exact k2 j;cases hc;cases hc
  |ptr z l k A=>simp[resolve,cx.of,b,cx.place]at c
  |abs J=>simp[resolve,cx.of,b,cx.place,Sl.none]at c
  |gI g H=>simp[resolve,cx.of,b,cx.cont]at hc
  |_=>
   all_goals
    have i:(σ t).av.plain=true:=by rw[b];rfl
    have q:(resolve σ<|.tmp t)=⟨some t,σ t,.none⟩:=by simp[resolve,cx.of,b]
    obtain⟨F1,u,s,X,e4⟩:=aV h (.tmp t) C hc;have R:y=(σ t).av:=(X t W i).2;rw[q]at c;simp[cx.place,b,aaP,acQ]at c;obtain⟨rfl,rfl,rfl,rfl⟩:=c;exact⟨by rw[R];rfl,W,.inl W,aaU _,aaU _,i,.val _,W,W,I⟩
end
end
end Go.Ai
