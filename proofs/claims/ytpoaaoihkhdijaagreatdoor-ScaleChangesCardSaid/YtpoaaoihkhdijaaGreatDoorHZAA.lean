/- Parts of the proof of ScaleChanges (as AIM.md's row tells), at every input, with no further conditions. -/
import Derived.WalkKit
import Derived.Lib.LaidTab
import Derived.Lib.ItoaNum
import Derived.TacticsIn
import Derived.OrdersIn
set_option linter.all false
set_option maxRecDepth 100000
set_option maxHeartbeats 0
section
abbrev ada:=@Option.some.injEq
abbrev adk:=@Nat.zero_le
abbrev adp:=@Nat.le_refl
abbrev ads:=@Option.bind_eq_some_iff
abbrev adC:=@List.getElem_mem
abbrev adD:=@Bool.and_eq_true
abbrev adM:=@List.take_of_length_le
abbrev adX:=@List.length_cons
abbrev adY:=@List.getD_eq_getElem?_getD
abbrev adZ:=@List.mem_cons
abbrev ad0:=@Nat.le_trans
abbrev ad2:=@List.length_set
abbrev aeg:=@List.length_nil
abbrev aey:=@List.take_succ_eq_append_getElem
abbrev aeE:=@List.drop_eq_getElem_cons
abbrev aeF:=@List.getElem?_eq_getElem
abbrev aeI:=@List.all_eq_true
abbrev aeJ:=@List.nodup_append
abbrev aeN:=@List.mem_map
abbrev aeO:=@Nat.mul_comm
abbrev aeP:=@List.length_append
abbrev aeQ:=@Nat.lt_or_ge
abbrev aeV:=@Nat.mod_lt
abbrev aeW:=@List.length_map
abbrev aeX:=@Nat.mul_le_mul_right
abbrev aeY:=@List.map_append
abbrev aeZ:=@List.append_assoc
abbrev ae0:=@Prod.mk.injEq
abbrev ae1:=@Int.pow_succ
abbrev ae2:=@Nat.pow_le_pow_right
abbrev ae3:=@Nat.lt_of_lt_of_le
abbrev ae4:=@Nat.le_of_ble_eq_true
abbrev ae5:=@List.nodup_nil
abbrev ae6:=@List.all_cons
abbrev ae7:=@Int.add_mul
abbrev ae8:=@Int.mul_assoc
abbrev ae9:=@Nat.add_mul
abbrev afa:=@Bool.true_and
abbrev afb:=@Nat.eq_of_beq_eq_true
abbrev afc:=@List.map_cons
abbrev afd:=@Nat.eq_zero_or_pos
abbrev afe:=@Nat.pow_pos
abbrev aff:=@Int.le_refl
abbrev afg:=@Int.mul_le_mul_of_nonneg_left
abbrev afh:=@Int.le_of_lt
abbrev afi:=@List.drop_of_length_le
abbrev afj:=@Int.mul_comm
abbrev afk:=@Int.toNat_natCast
abbrev afl:=@Nat.mul_assoc
abbrev afm:=@List.length_take
abbrev afn:=@Int.natCast_mul
abbrev afo:=@List.drop_eq_nil_of_le
abbrev afp:=@Option.bind_some
abbrev afq:=@List.map_congr_left
abbrev afr:=@Nat.mul_le_mul_left
abbrev afs:=@Int.mul_nonneg
abbrev afu:=@Nat.pow_succ
abbrev afv:=@List.nodup_cons
abbrev afw:=@Nat.div_eq_of_lt
abbrev afx:=@Nat.div_lt_iff_lt_mul
abbrev afy:=@Nat.mod_eq_of_lt
abbrev afz:=@List.ext_getElem
abbrev afA:=@List.take_length
abbrev afB:=@Rat.le_of_lt
abbrev afC:=@Decidable.byContradiction
abbrev afD:=@List.getElem?_append_right
abbrev afE:=@Option.map_eq_some_iff
abbrev afF:=@Prod.exists
abbrev afG:=@List.drop_zero
abbrev afH:=@Int.sub_mul
abbrev afI:=@Decidable.not_not
abbrev afJ:=@Array.length_toList
abbrev afK:=@List.getElem?_append_left
abbrev afL:=@List.getElem?_eq_none
abbrev afM:=@Array.getElem?_eq_getElem
abbrev afN:=@List.append_nil
abbrev afO:=@List.map_set
abbrev afP:=@Nat.div_lt_self
abbrev afQ:=@Int.natAbs_natCast
abbrev afR:=@List.mem_append
abbrev afS:=@List.nil_append
abbrev afT:=@List.foldl_cons
abbrev afU:=@List.drop_length
abbrev afV:=@Nat.pow_add
abbrev afW:=@Int.le_trans
abbrev afX:=@Nat.mod_add_div
abbrev afY:=@List.not_mem_nil
abbrev afZ:=@List.map_nil
abbrev af0:=@Nat.pos_of_ne_zero
abbrev af1:=@Int.pow_add
abbrev af2:=@Nat.lt_of_le_of_lt
abbrev af3:=@Nat.min_eq_left
abbrev af4:=@Int.mul_le_mul_of_nonneg_right
abbrev af5:=@Int.natAbs_mul
abbrev af6:=@Int.sign_neg_iff
abbrev af7:=@Nat.zero_add
abbrev af8:=@Array.getElem?_eq_some_iff
abbrev af9:=@Bool.not_eq_true'
abbrev aga:=@Array.ext'
abbrev agb:=@List.getElem?_map
abbrev agc:=@List.mem_flatMap
abbrev agd:=@List.mem_of_mem_drop
abbrev age:=@List.foldl_append
abbrev agf:=@Int.mul_pos
abbrev agh:=@Nat.add_le_add_right
abbrev agi:=@List.length_replicate
abbrev agj:=@List.getElem?_eq_some_iff
abbrev agk:=@List.drop_drop
abbrev agl:=@List.mem_singleton
abbrev agm:=@List.mem_range
abbrev agn:=@Nat.pow_mul
abbrev ago:=@Nat.le_of_lt
abbrev agp:=@Int.sign_eq_one_of_pos
abbrev agq:=@Nat.lt_trans
abbrev agr:=@Nat.mul_le_mul
abbrev ags:=@Rat.le_trans
abbrev agt:=@Rat.mul_one
abbrev agu:=@Nat.div_div_eq_div_mul
abbrev agv:=@List.getElem_mapIdx
abbrev agw:=@Bool.false_eq_true
abbrev agx:=@List.cons_append
abbrev agy:=@List.length_pos_iff
abbrev agz:=@List.map_map
abbrev agA:=@List.mem_of_mem_take
abbrev agB:=@Int.emod_nonneg
abbrev agC:=@Int.emod_lt_of_pos
abbrev agD:=@Int.lt_or_le
abbrev agE:=@List.take_append_drop
abbrev agF:=@Nat.div_le_self
abbrev agG:=@List.countP_le_length
abbrev agH:=@Rat.num_nonneg
abbrev agI:=@Int.natCast_pow
abbrev agJ:=@Rat.mul_comm
abbrev agK:=@Int.one_mul
abbrev agL:=@Nat.add_mul_div_left
abbrev agM:=@Nat.not_lt_zero
abbrev agN:=@Nat.add_assoc
abbrev agO:=@List.getElem?_set
abbrev agP:=@List.getElem_of_mem
abbrev agQ:=@Nat.add_zero
abbrev agR:=@List.replicate_succ
abbrev agS:=@List.append_eq_nil_iff
abbrev agT:=@Nat.le_succ
abbrev agU:=@Int.pow_zero
abbrev agV:=@Nat.gcd_comm
abbrev agW:=@Nat.pow_le_pow_left
abbrev agX:=@Rat.intCast_natCast
abbrev agY:=@Nat.sub_self
abbrev agZ:=@List.countP_append
abbrev ag0:=@Rat.pow_zero
abbrev ag1:=@Rat.pow_succ
abbrev ag2:=@Nat.mul_add
abbrev ag3:=@Rat.mul_le_mul_of_nonneg_left
abbrev ag4:=@Int.natCast_add
abbrev ag5:=@Array.getElem?_toList
abbrev ag6:=@Nat.le_antisymm
abbrev ag7:=@Bool.and_self
abbrev ag8:=@Bool.or_eq_true
abbrev ag9:=@Nat.add_sub_cancel_left
abbrev aha:=@List.map_drop
abbrev ahb:=@Int.ediv_nonneg
abbrev ahc:=@Int.lt_of_mul_lt_mul_right
abbrev ahd:=@Nat.mul_pos
abbrev ahe:=@Int.mul_one
abbrev ahf:=@Nat.sub_zero
abbrev ahg:=@UInt8.toNat_inj
abbrev ahh:=@Int.gcd_eq_natAbs_gcd_natAbs
abbrev ahi:=@Rat.div_def
abbrev ahj:=@Rat.intCast_mul
abbrev ahk:=@Rat.divInt_eq_div
abbrev ahl:=@List.getElem?_replicate
abbrev ahm:=@List.map_replicate
abbrev ahn:=@Rat.inv_pos
abbrev aho:=@Int.neg_mul
abbrev ahp:=@List.take_zero
abbrev ahq:=@Rat.num_natCast
abbrev ahr:=@Rat.den_natCast
abbrev ahs:=@List.ext_getElem?
abbrev aht:=@List.getElem?_take_of_lt
abbrev ahu:=@List.getElem?_drop
abbrev ahv:=@Int.toNat_of_nonneg
abbrev ahw:=@Option.map_some
abbrev ahx:=@Bool.false_or
abbrev ahy:=@List.take_append_of_le_length
abbrev ahz:=@List.getElem?_cons_zero
abbrev ahA:=@List.map_take
abbrev ahB:=@Prod.mk.inj
abbrev ahC:=@Int.tdiv_eq_ediv_of_nonneg
abbrev ahD:=@Nat.lt_succ_self
abbrev ahE:=@Rat.num_eq_zero
abbrev ahF:=@Rat.neg_num
abbrev ahG:=@Nat.le_succ_of_le
abbrev ahH:=@Int.lt_trichotomy
abbrev ahI:=@Int.sign_eq_neg_one_of_neg
abbrev ahJ:=@Nat.succ_mul
abbrev ahK:=@List.mem_iff_getElem
abbrev ahL:=@List.getElem?_range
abbrev ahM:=@Rat.mul_assoc
abbrev ahN:=@Rat.not_le
abbrev ahO:=@Nat.add_mul_mod_self_left
abbrev ahP:=@Int.natCast_ediv
abbrev ahQ:=@Rat.intCast_le_intCast
abbrev ahR:=@List.all_nil
abbrev ahS:=@List.foldl_nil
abbrev ahT:=@Array.getElem?_extract
abbrev ahU:=@Array.ext_getElem?
abbrev ahV:=@Array.getElem?_eq_none
abbrev ahW:=@List.getElem?_take
abbrev ahX:=@List.take_take
abbrev ahY:=@Array.foldl_toList
abbrev ahZ:=@List.drop_append
abbrev ah0:=@List.flatten_append
abbrev ah1:=@List.mem_of_getElem?
abbrev ah2:=@List.any_eq_true
abbrev ah3:=@List.range_succ
abbrev ah4:=@List.mem_or_eq_of_mem_set
abbrev ah5:=@Int.mul_ediv_add_emod
abbrev ah6:=@Int.mul_le_mul
abbrev ah7:=@Nat.mul_div_mul_right
abbrev ah8:=@Nat.mul_mod_mul_right
abbrev ah9:=@Nat.mul_div_cancel
abbrev aia:=@List.length_singleton
abbrev aib:=@Int.sign_eq_zero_iff_zero
abbrev aic:=@Nat.add_le_add
abbrev aid:=@Bool.not_true
abbrev aie:=@Nat.le_mul_of_pos_right
abbrev aif:=@List.set_append_right
abbrev aih:=@List.countP_singleton
abbrev aii:=@List.getElem_map
abbrev aij:=@Nat.div_add_mod
abbrev aik:=@Int.fdiv_eq_ediv_of_nonneg
abbrev ail:=@Nat.le_div_iff_mul_le
abbrev aim:=@Nat.lt_trichotomy
abbrev ain:=@List.getD_cons_zero
abbrev aio:=@List.length_drop
abbrev aip:=@Bool.eq_iff_iff
abbrev aiq:=@Rat.le_of_mul_le_mul_right
abbrev air:=@Rat.natCast_pow
abbrev ais:=@Array.size_replicate
abbrev ait:=@Int.tmod_eq_emod_of_nonneg
abbrev aiu:=@List.flatMap_append
abbrev aiv:=@List.eq_nil_or_concat
abbrev aiw:=@List.concat_eq_append
abbrev aix:=@List.getD_cons_succ
abbrev aiy:=@List.eq_nil_of_length_eq_zero
abbrev aiz:=@Rat.mul_le_mul_of_nonneg_right
abbrev aiA:=@List.length_range
def U:True:=⟨⟩
theorem G{α β:Sort _}{a:α}{b:β}:a=a/\b=b:=⟨rfl,rfl⟩
theorem kL{α β γ:Sort _}{a:α}{b:β}{c:γ}:a=a/\b=b/\c=c:=⟨rfl,rfl,rfl⟩
theorem E{p:Prop}(h:p:=by omega):p:=h
theorem I{p:Prop}(h:p:=by simp):p:=h
theorem fh{p:Prop}(h:p:=by decide):p:=h
theorem fg{p:Prop}(h:p:=by decide +kernel):p:=h
theorem ff{p:Prop}(h:p:=by dsimp only):p:=h
theorem eW{p:Prop}(h:p:=by simp_all):p:=h
theorem eU{p:Prop}(h:p:=by simp at *):p:=h
theorem fb{p:Prop}(h:p:=by rfl):p:=h
theorem W{α:Sort _}{a:α}:a=a:=rfl
namespace Go.Ai
open Go.RowKit
inductive Fl|nil|shr|own
 deriving DecidableEq
inductive Step
 |idx (i sz:Nat)
 |at(o:Nat) (n:Option Nat)
 |deref
 |bW (i:Nat)
 |lZ (sz o n:Nat)
 deriving DecidableEq
abbrev Path:=List Step
inductive AV
 |v (x:Value)
 |list (f:Fl) (sz:Nat) (xs:List AV)
 |box (own:Bool) (x:AV)
 |agg (xs:List AV)
 |bW (xs:List AV)
 |fn (f:Fn) (first captured:List AV)
 |bC (r g1 g2:Nat) (p:Path)
 |ptr (r g1 g2:Nat) (p:Path)
 |hole
 |dead
 |pv (C:Value->Prop)
 |abs (J:World->(Nat->Prop)->List Nat->Prop)
 |fS (g:FuncId) (caps:List (Nat×Nat))
 |mp (K:Obj->Prop)
instance:Inhabited AV:=⟨.dead⟩
def scalar:Value->Bool
 |.bool _|.int .. |.float .. |.complex .. |.string _|.pointer none|.map none|.nilFunc|.nilIface=>true
 |_=>false
def row?(w:World)(b:Nat):Option (Array Value×(Nat×Nat)):=
 match w.heap[b]?with
 |some (.cells c _ a)=>some (c,a)
 |_=>none
def mG{w w':World}{b:Nat}(h:w'.heap[b]?=w.heap[b]?):row? w' b=row? w b:=by unfold row?;rw[h]
mutual
def Rel(w:World)(S:Nat->Prop):AV->Value->List Nat->Prop
 |.v x,y,F=>scalar x=true/\y=x/\F=[]
 |.list f sz xs,y,F=>
  match f with
  |.nil=>xs=[]/\y=.slice none 0 0/\F=[]
  |.shr=>(xs=[]/\(∃h,y=.slice h 0 0)/\F=[])\/∃b off cap cs g,y=.slice (some ⟨b,off,none⟩) xs.length cap/\S b/\row? w b=some (cs,g)/\xs.length<=cap/\
    c7 w S sz xs ((cs.toList.drop off).take<|xs.length*sz) []/\F=[]
  |.own=>(xs=[]/\y=.slice none 0 0/\F=[])\/∃b cap cs F',y=.slice (some ⟨b,0,none⟩) xs.length cap/\row? w b=some (cs,(0,0))/\xs.length<=cap/\cap<=maxLen/\
    cs.size=cap*sz/\c7 w S sz xs (cs.toList.take<|xs.length*sz) F'/\F=b::F'
 |.box own x,y,F=>∃b cs g F' z,y=.pointer (some ⟨b,0,none⟩)/\row? w b=some (cs,g)/\Rel w S x z F'/\z.cells=cs/\
   (if own then g=(0,0)/\F=b::F' else S b/\F'=[]/\F=[])
 |.agg xs,y,F=>∃cs,y=.agg cs/\Cells w S true xs cs.toList F
 |.bW xs,y,F=>∃cs,y=.tuple cs/\Cells w S false xs cs.toList F
 |.fn f first captured,y,F=>∃a c e d,y=.func f a c/\Cells w S false first a.toList e/\Cells w S false captured c.toList d/\F=e++d
 |.bC ..,_,_=>False
 |.ptr ..,_,_=>False
 |.hole,y,F=>y.oneCell'=true/\F=[]
 |.dead,_,F=>F=[]
 |.pv C,y,F=>C y/\F=[]
 |.abs _,_,_=>False
 |.fS ..,_,_=>False
 |.mp K,y,F=>∃b o,y=.map (some b)/\w.heap[b]?=some o/\K o/\F=[b]
def Cells(w:World)(S:Nat->Prop)(one:Bool):List AV->List Value->List Nat->Prop
 |[],l,F=>l=[]/\F=[]
 |x::xs,l,F=>∃y l' e d,l=y::l'/\F=e++d/\(one=true->y.oneCell'=true)/\Rel w S x y e/\Cells w S one xs l' d
def c7(w:World)(S:Nat->Prop)(sz:Nat):List AV->List Value->List Nat->Prop
 |[],l,F=>l=[]/\F=[]
 |x::xs,l,F=>∃y l' e d,l=y.cells.toList++l'/\F=e++d/\y.cells.size=sz/\Rel w S x y e/\c7 w S sz xs l' d
end
section
variable{w w':World}{S S':Nat->Prop}
mutual
theorem Rel.frame:∀(av:AV){y:Value}{F:List Nat},Rel w S av y F->(∀b,S b\/b∈F->w'.heap[b]?=w.heap[b]?)->Rel w' S av y F
 |.v x,y,F,h,_=>by simpa[Rel]using h
 |.list .nil sz xs,y,F,h,_=>by simpa[Rel]using h
 |.list .shr sz xs,y,F,h,k=>by
  rcases h with h|⟨b,off,cap,cs,t,g,e,i,m,n,s⟩
  ·exact .inl h
  exact .inr ⟨b,off,cap,cs,t,g,e,(mG<|k b<|.inl e).trans i,m,c7.frame sz xs n λb d=>k b<|.inl<|by simpa using d,s⟩
 |.list .own sz xs,y,F,h,k=>by
  rcases h with h|⟨b,cap,cs,F',g,e,i,m,n,s,rfl⟩
  ·exact .inl h
  exact .inr ⟨b,cap,cs,F',g,(mG<|k b<|.inr I).trans e,i,m,n,c7.frame sz xs s λb d=>k b<|d.imp id<|by simp;exact .inr,W⟩
 |.box own x,y,F,h,k=>by
  obtain⟨b,cs,t,F',z,g,e,i,m,n⟩:=h;cases own
  ·simp[if_false]at n;obtain⟨u,rfl,rfl⟩:=n;exact⟨b,cs,t,[],z,g,(mG<|k b<|.inl u).trans e,Rel.frame x i λb d=>k b<|.inl<|by simpa using d,m,by simp[u]⟩
  simp at n;obtain⟨rfl,rfl⟩:=n;exact⟨b,cs,_,F',z,g,(mG<|k b<|.inr I).trans e,Rel.frame x i λb d=>k b<|d.imp id<|by simp;exact .inr,m,I⟩
 |.agg xs,y,F,h,k=>by obtain⟨cs,g,e⟩:=h;exact⟨cs,g,Cells.frame xs e k⟩
 |.bW xs,y,F,h,k=>by obtain⟨cs,g,e⟩:=h;exact⟨cs,g,Cells.frame xs e k⟩
 |.fn f first j,y,F,h,k=>by obtain⟨a,c,q,p,g,e,i,rfl⟩:=h;exact⟨a,c,q,p,g,Cells.frame first e λb d=>k b<|d.imp id<|by simp;exact .inl,Cells.frame j i λb d=>k b<|d.imp id<|by simp;exact .inr,W⟩
 |.bC ..,_,_,h,_=>by simp[Rel]at h
 |.ptr ..,_,_,h,_=>by simp[Rel]at h
 |.hole,_,_,h,_=>by simpa[Rel]using h
 |.dead,_,_,h,_=>by simpa[Rel]using h
 |.pv _,_,_,h,_=>by simpa[Rel]using h
 |.abs _,_,_,h,_=>by simp[Rel]at h
 |.fS ..,_,_,h,_=>by simp[Rel]at h
 |.mp K,y,F,h,k=>by obtain⟨b,o,g,e,i,rfl⟩:=h;exact⟨b,o,g,(k b<|.inr I).trans e,i,W⟩
theorem Cells.frame:∀(xs:List AV){one:Bool}{l:List Value}{F:List Nat},Cells w S one xs l F->(∀b,S b\/b∈F->w'.heap[b]?=w.heap[b]?)->Cells w' S one xs l F
 |[],one,l,F,h,_=>by simpa[Cells]using h
 |x::xs,one,l,F,h,k=>by obtain⟨y,r,q,p,g,rfl,e,i,m⟩:=h;exact⟨y,r,q,p,g,W,e,Rel.frame x i λb d=>k b<|d.imp id<|by simp;exact .inl,Cells.frame xs m λb d=>k b<|d.imp id<|by simp;exact .inr⟩
theorem c7.frame(sz:Nat):∀(xs:List AV){l:List Value}{F:List Nat},c7 w S sz xs l F->(∀b,S b\/b∈F->w'.heap[b]?=w.heap[b]?)->c7 w' S sz xs l F
 |[],l,F,h,_=>by simpa[c7]using h
 |x::xs,l,F,h,k=>by obtain⟨y,r,q,p,g,rfl,e,i,m⟩:=h;exact⟨y,r,q,p,g,W,e,Rel.frame x i λb d=>k b<|d.imp id<|by simp;exact .inl,c7.frame sz xs m λb d=>k b<|d.imp id<|by simp;exact .inr⟩
end
mutual
theorem Rel.mono(g:∀b,S b->S' b):∀(av:AV){y:Value}{F:List Nat},Rel w S av y F->Rel w S' av y F
 |.v x,y,F,h=>by simpa[Rel]using h
 |.list .nil sz xs,y,F,h=>by simpa[Rel]using h
 |.list .shr sz xs,y,F,h=>by
  rcases h with h|⟨b,off,cap,cs,r,e,d,k,j,m,q⟩
  ·exact .inl h
  exact .inr ⟨b,off,cap,cs,r,e,g b d,k,j,c7.mono g sz xs m,q⟩
 |.list .own sz xs,y,F,h=>by
  rcases h with h|⟨b,cap,cs,F',e,d,k,j,m,q,s⟩
  ·exact .inl h
  exact .inr ⟨b,cap,cs,F',e,d,k,j,m,c7.mono g sz xs q,s⟩
 |.box own x,y,F,h=>by
  obtain⟨b,cs,r,F',z,e,d,k,j,m⟩:=h;refine⟨b,cs,r,F',z,e,d,Rel.mono g x k,j,?_⟩
  grind
 |.agg xs,y,F,h=>by obtain⟨cs,e,d⟩:=h;exact⟨cs,e,Cells.mono g xs d⟩
 |.bW xs,y,F,h=>by obtain⟨cs,e,d⟩:=h;exact⟨cs,e,Cells.mono g xs d⟩
 |.fn f first i,y,F,h=>by obtain⟨a,c,o,n,e,d,k,j⟩:=h;exact⟨a,c,o,n,e,Cells.mono g first d,Cells.mono g i k,j⟩
 |.bC ..,_,_,h=>by simp[Rel]at h
 |.ptr ..,_,_,h=>by simp[Rel]at h
 |.hole,_,_,h=>by simpa[Rel]using h
 |.dead,_,_,h=>by simpa[Rel]using h
 |.pv _,_,_,h=>by simpa[Rel]using h
 |.abs _,_,_,h=>by simp[Rel]at h
 |.fS ..,_,_,h=>by simp[Rel]at h
 |.mp _,y,F,h=>by simpa[Rel]using h
theorem Cells.mono(g:∀b,S b->S' b):∀(xs:List AV){one:Bool}{l:List Value}{F:List Nat},Cells w S one xs l F->Cells w S' one xs l F
 |[],one,l,F,h=>by simpa[Cells]using h
 |x::xs,one,l,F,h=>by obtain⟨y,p,o,n,e,d,k,j,m⟩:=h;exact⟨y,p,o,n,e,d,k,Rel.mono g x j,Cells.mono g xs m⟩
theorem c7.mono(g:∀b,S b->S' b)(sz:Nat):∀(xs:List AV){l:List Value}{F:List Nat},c7 w S sz xs l F->c7 w S' sz xs l F
 |[],l,F,h=>by simpa[c7]using h
 |x::xs,l,F,h=>by obtain⟨y,p,o,n,e,d,k,j,m⟩:=h;exact⟨y,p,o,n,e,d,k,Rel.mono g x j,c7.mono g sz xs m⟩
end
end
mutual
def AV.b9:AV->AV
 |.list .own sz xs=>.list .shr sz (ig xs)
 |.list .nil sz xs=>.list .nil sz xs
 |.list .shr sz xs=>.list .shr sz xs
 |.box true x=>.box false x.b9
 |.box false x=>.box false x
 |.agg xs=>.agg (ig xs)
 |.bW xs=>.bW (ig xs)
 |.fn f a c=>.fn f (ig a) (ig c)
 |.v x=>.v x
 |.bC r g1 g2 p=>.bC r g1 g2 p
 |.ptr r g1 g2 p=>.ptr r g1 g2 p
 |.hole=>.hole
 |.dead=>.dead
 |.pv C=>.pv C
 |.abs J=>.abs J
 |.fS g b=>.fS g b
 |.mp _=>.dead
def ig:List AV->List AV
 |[]=>[]
 |x::xs=>x.b9::ig xs
end
def jD:∀xs:List AV,(ig xs).length=xs.length
 |[]=>rfl
 |x::xs=>by simp[ig,jD xs]
section
variable{w:World}{S S':Nat->Prop}
mutual
theorem Rel.share(e:∀b,S b->S' b):∀(av:AV){y:Value}{F:List Nat},Rel w S av y F->(∀b∈F,S' b)->Rel w S' av.b9 y []
 |.v x,y,F,h,_=>by simp only[Rel,AV.b9]at h⊢;simp_all
 |.list .nil sz xs,y,F,h,_=>by simp only[Rel,AV.b9]at h⊢;simp_all
 |.list .shr sz xs,y,F,h,_=>by
  simp only[Rel,AV.b9]at h⊢;rcases h with h|⟨b,off,cap,cs,q,g,m,j,o,n,r⟩
  ·simp_all
  exact .inr ⟨b,off,cap,cs,q,g,e b m,j,o,c7.mono e sz xs n,U⟩
 |.list .own sz xs,y,F,h,k=>by
  simp only[Rel,AV.b9]at h⊢;rcases h with⟨rfl,h,-⟩|⟨b,cap,cs,F',g,m,j,o,n,r,rfl⟩
  ·exact .inl ⟨W,⟨none,h⟩,U⟩
  refine .inr ⟨b,0,cap,cs,(0,0),by rw[jD];exact g,k b I,m,by rw[jD];exact j,?_,U⟩;rw[jD];exact c7.share e sz xs r (λb d=>k b<|by simp[d])
 |.box own x,y,F,h,k=>by
  obtain⟨b,cs,q,F',z,g,m,j,o,n⟩:=h;cases own
  ·simp[if_false]at n;obtain⟨d,rfl,rfl⟩:=n;exact⟨b,cs,q,[],z,g,m,Rel.mono e x j,o,by simp[e b d]⟩
  simp at n;obtain⟨rfl,rfl⟩:=n;exact⟨b,cs,_,[],z,g,m,Rel.share e x j λb d=>k b<|by simp[d],o,by simp[k b I]⟩
 |.agg xs,y,F,h,k=>by obtain⟨cs,g,m⟩:=h;exact⟨cs,g,Cells.share e xs m k⟩
 |.bW xs,y,F,h,k=>by obtain⟨cs,g,m⟩:=h;exact⟨cs,g,Cells.share e xs m k⟩
 |.fn f first i,y,F,h,k=>by obtain⟨a,c,t,s,g,m,j,rfl⟩:=h;exact⟨a,c,[],[],g,Cells.share e first m λb d=>k b<|by simp[d],Cells.share e i j λb d=>k b<|by simp[d],W⟩
 |.bC ..,_,_,h,_=>by simp[Rel]at h
 |.ptr ..,_,_,h,_=>by simp[Rel]at h
 |.hole,_,_,h,_=>by simp only[Rel,AV.b9]at h⊢;simp_all
 |.dead,_,_,h,_=>by simp[Rel,AV.b9]
 |.pv _,_,_,h,_=>by simp only[Rel,AV.b9]at h⊢;simp_all
 |.abs _,_,_,h,_=>by simp[Rel]at h
 |.fS ..,_,_,h,_=>by simp[Rel]at h
 |.mp _,_,_,_,_=>by simp[Rel,AV.b9]
theorem Cells.share(e:∀b,S b->S' b):∀(xs:List AV){one:Bool}{l:List Value}{F:List Nat},Cells w S one xs l F->(∀b∈F,S' b)->Cells w S' one (ig xs) l []
 |[],one,l,F,h,_=>by simpa[Cells,ig]using h.1
 |x::xs,one,l,F,h,k=>by obtain⟨y,p,t,s,g,rfl,j,o,n⟩:=h;exact⟨y,p,[],[],g,W,j,Rel.share e x o λb d=>k b<|by simp[d],Cells.share e xs n λb d=>k b<|by simp[d]⟩
theorem c7.share(e:∀b,S b->S' b)(sz:Nat):∀(xs:List AV){l:List Value}{F:List Nat},c7 w S sz xs l F->(∀b∈F,S' b)->c7 w S' sz (ig xs) l []
 |[],l,F,h,_=>by simpa[c7,ig]using h.1
 |x::xs,l,F,h,k=>by obtain⟨y,p,t,s,g,rfl,j,o,n⟩:=h;exact⟨y,p,[],[],g,W,j,Rel.share e x o λb d=>k b<|by simp[d],c7.share e sz xs n λb d=>k b<|by simp[d]⟩
end
end
end Go.Ai
end
namespace Go.Ai
open Go.RowKit
inductive Loc
 |val (y:Value)
 |addr (a:Addr)
def cm:Value->Step->Option Loc
 |.pointer (some a),.deref=>some (.addr a)
 |.slice (some a) _ _,.idx i sz=>some (.addr<|a.add<|i*sz)
 |.tuple b,.bW i=>b[i]?.map .val
 |.slice (some a) _ c,.lZ sz o n=>some (.val<|.slice (some<|a.add<|o*sz) n<|c-o)
 |.agg cs,.at o none=>cs[o]?.map .val
 |.agg cs,.at o (some n)=>some (.val<|.agg<|cs.extract o<|o+n)
 |_,_=>none
def step1(w:World):Loc->Step->Option Loc
 |.val y,s=>cm y s
 |.addr a,.at o _=>some (.addr<|a.add o)
 |.addr a,s=>(w.cell? a).bind (cm · s)
def loc(w:World):Loc->Path->Option Loc
 |L,[]=>some L
 |L,s::p=>(step1 w L s).bind (loc w · p)
def bp:AV->Path->Option AV
 |x,[]=>some x
 |x,s::p=>
  match x,s with
  |.list _ sz xs,.idx i a=>if sz=a then xs[i]?.bind (bp · p)else none
  |.box _ x,.deref=>bp x p
  |.agg xs,.at o none=>xs[o]?.bind (bp · p)
  |.agg xs,.at o (some n)=>if o+n<=xs.length then bp (.agg<|(xs.drop o).take n) p else none
  |.bW xs,.bW i=>xs[i]?.bind (bp · p)
  |.list _ sz xs,.lZ a o n=>if sz=a/\0<n/\o+n<=xs.length then bp .dead p else none
  |_,_=>none
def eJ:AV->Path->AV->Option AV
 |_,[],y=>some y
 |x,s::p,y=>
  match x,s with
  |.list .own sz xs,.idx i b=>if sz=b then xs[i]?.bind λx=>(eJ x p y).map λa=>.list .own sz (xs.set i a)else none
  |.box true x,.deref=>(eJ x p y).map λa=>.box true a
  |.agg xs,.at o none=>xs[o]?.bind λx=>(eJ x p y).map λa=>.agg (xs.set o a)
  |.agg xs,.at o (some n)=>if o+n<=xs.length then(eJ (.agg<|(xs.drop o).take n) p y).bind λ
    |.agg ys=>if ys.length=n then some (.agg<|xs.take o++ys++xs.drop (o+n))else none
    |_=>none
   else none
  |.bW xs,.bW i=>xs[i]?.bind λx=>(eJ x p y).map λa=>.bW (xs.set i a)
  |_,_=>none
def At(w:World)(a:Addr)(z:Value):Prop:=a.spot=none/\∃b c,row? w a.block=some (b,c)/\∀j u,z.cells[j]?=some u->b[a.off+j]?=some u
def holds(w:World):Loc->Value->Prop
 |.val y,z=>z=y
 |.addr a,z=>At w a z
section
variable{w w':World}{S S':Nat->Prop}
def Cells.length:∀{xs:List AV}{one:Bool}{l:List Value}{F:List Nat},Cells w S one xs l F->l.length=xs.length
 |[],one,l,F,h=>by simp[Cells]at h;simp[h.1]
 |x::xs,one,l,F,h=>by obtain⟨y,l',e,d,rfl,rfl,c,b,a⟩:=h;simp[Cells.length a]
def c7.length(sz:Nat):∀{xs:List AV}{l:List Value}{F:List Nat},c7 w S sz xs l F->l.length=xs.length*sz
 |[],l,F,h=>by simp[c7]at h;simp[h.1]
 |x::xs,l,F,h=>by obtain⟨y,l',e,d,rfl,rfl,c,b,a⟩:=h;simp[c7.length sz a,ae9];omega
def Cells.lens:∀{xs:List AV}{one:Bool}{l:List Value}{F:List Nat}(o:Nat){x:AV},Cells w S one xs l F->xs[o]?=some x->
 ∃y A i B,F=A++i++B/\(one=true->y.oneCell'=true)/\Rel w S x y i/\l[o]?=some y/\
  ∀(w':World)(S':Nat->Prop)(e:AV)(c:Value)(a:List Nat),(∀b,S b->S' b)->(one=true->c.oneCell'=true)->
   (∀b,S b\/b∈A\/b∈B->w'.heap[b]?=w.heap[b]?)->Rel w' S' e c a->Cells w' S' one (xs.set o e) (l.set o c) (A++a++B)
 |[],one,l,F,o,x,h,d=>by cases d
 |x0::xs,one,l,F,0,x,h,d=>by obtain⟨y,l',j,s,rfl,rfl,q,p,n⟩:=h;simp at d;subst d;refine⟨y,[],j,s,I,q,p,I,λw' S' e c a g r k m=>?_⟩;exact⟨c,l',a,s,W,W,r,m,Cells.mono g _<|Cells.frame xs n λb f=>k b<|f.imp id .inr⟩
 |x0::xs,one,l,F,o+1,x,h,d=>by
  obtain⟨y,l',j,s,rfl,rfl,q,p,n⟩:=h;obtain⟨z,A,i,B,rfl,g2,v,u,t⟩:=Cells.lens o n d;refine⟨z,j++A,i,B,I,g2,v,u,λw' S' e c a g r k m=>?_⟩;exact⟨y,_,j,A++a++B,W,I,q,Rel.mono g _<|Rel.frame x0 p λb f=>k b<|f.imp id λh=>.inl<|by simp[h],
   t w' S' e c a g r (λb f=>k b<|by grind) m⟩
def Cells.append:∀{xs ys:List AV}{one:Bool}{l m:List Value}{F a:List Nat},Cells w S one xs l F->Cells w S one ys m a->Cells w S one (xs++ys) (l++m) (F++a)
 |[],ys,one,l,m,F,a,h,k=>by simp[Cells]at h;simp_all
 |x::xs,ys,one,l,m,F,a,h,k=>by obtain⟨y,l',f,e,rfl,rfl,d,c,b⟩:=h;exact⟨y,l'++m,f,e++a,I,I,d,c,Cells.append b k⟩
def Cells.split:∀(n:Nat){xs:List AV}{one:Bool}{l:List Value}{F:List Nat},Cells w S one xs l F->
 ∃a b,F=a++b/\Cells w S one (xs.take n) (l.take n) a/\Cells w S one (xs.drop n) (l.drop n) b
 |0,xs,one,l,F,h=>⟨[],F,I,by simp[Cells],h⟩
 |n+1,[],one,l,F,h=>by simp[Cells]at h;obtain⟨rfl,rfl⟩:=h;exact⟨[],[],I,by simp[Cells],by simp[Cells]⟩
 |n+1,x::xs,one,l,F,h=>by obtain⟨y,i,a,b,rfl,rfl,f,e,d⟩:=h;obtain⟨c,g,rfl,k1,k2⟩:=Cells.split n d;refine⟨a++c,g,I,?_,k2⟩;exact⟨y,_,a,c,W,W,f,e,k1⟩
def c7.append(sz:Nat):∀{xs ys:List AV}{l m:List Value}{F a:List Nat},c7 w S sz xs l F->c7 w S sz ys m a->c7 w S sz (xs++ys) (l++m) (F++a)
 |[],ys,l,m,F,a,h,k=>by simp[c7]at h;simp_all
 |x::xs,ys,l,m,F,a,h,k=>by obtain⟨y,l',f,e,rfl,rfl,d,c,b⟩:=h;exact⟨y,l'++m,f,e++a,I,I,d,c,c7.append sz b k⟩
def c7.split(sz:Nat):∀(n:Nat){xs:List AV}{l:List Value}{F:List Nat},c7 w S sz xs l F->
 ∃a b,F=a++b/\c7 w S sz (xs.take n) (l.take<|n*sz) a/\c7 w S sz (xs.drop n) (l.drop<|n*sz) b
 |0,xs,l,F,h=>⟨[],F,I,by simp[c7],by simpa using h⟩
 |n+1,[],l,F,h=>by simp[c7]at h;obtain⟨rfl,rfl⟩:=h;exact⟨[],[],I,by simp[c7],by simp[c7]⟩
 |n+1,x::xs,l,F,h=>by
  obtain⟨y,j,a,b,rfl,rfl,g,f,d⟩:=h;obtain⟨c,i,rfl,k1,k2⟩:=c7.split sz n d;have e:(n+1)*sz=y.cells.toList.length+n*sz:=by grind
  refine⟨a++c,i,I,?_,?_⟩
  ·simp;exact⟨y,_,a,c,by grind,W,g,f,k1⟩
  rw[e,List.drop_length_add_append];simpa using k2
def c7.lens(sz:Nat){xs:List AV}{l:List Value}{F:List Nat}(i:Nat){x:AV}(h:c7 w S sz xs l F)(s:xs[i]?=some x):
 ∃y A n B,F=A++n++B/\y.cells.size=sz/\Rel w S x y n/\(∀j u,y.cells[j]?=some u->l[i*sz+j]?=some u)/\i*sz+sz<=l.length/\
  ∀(w':World)(S':Nat->Prop)(f:AV)(e:Value)(c:List Nat),(∀b,S b->S' b)->e.cells.size=sz->
   (∀b,S b\/b∈A\/b∈B->w'.heap[b]?=w.heap[b]?)->Rel w' S' f e c->
   c7 w' S' sz (xs.set i f) (l.take (i*sz)++e.cells.toList++l.drop (i*sz+sz)) (A++c++B):=by
 obtain⟨A,a,rfl,J,z⟩:=c7.split sz i h;have d:=(agj.1 s).1;have p:=(agj.1 s).2;rw[aeE d,p]at z;obtain⟨y,r,n,B,L,rfl,v,H,D⟩:=z;have hl:=c7.length sz h;have m:i*sz+sz<=l.length:=by
  have:(i+1)*sz<=xs.length*sz:=aeX _ d
  grind
 have o:y.cells.toList.length=sz:=v;have K:l.drop (i*sz+sz)=r:=by rw[<-agk,L,<-o,List.drop_left]
 refine⟨y,A,n,B,I,v,H,λj u hu=>?_,m,λw' S' f e c t hs k C=>?_⟩
 ·have M:j<y.cells.toList.length:=by grind
  have:l[i*sz+j]?=(l.drop<|i*sz)[j]?:=I
  grind
 rw[K];have g:xs.set i f=xs.take i++(f::xs.drop (i+1)):=by rw[List.set_eq_take_append_cons_drop,if_pos d]
 rw[g,aeZ,aeZ];refine c7.append sz (c7.mono t sz _<|c7.frame sz _ J λb q=>k b<|q.imp id .inl)<|⟨e,r,c,B,W,W,hs,C,c7.mono t sz _<|c7.frame sz _ D λb q=>k b<|q.imp id .inr⟩
end
section
variable{a:Addr}{w:World}
def cj(h:a.spot=none)(n:Nat):a.add n=⟨a.block,a.off+n,none⟩:=by cases a with|mk b o s=>cases h;unfold Addr.add;split<;>simp_all
def pS(h:a.spot=none){cs:Array Value}{c:Nat×Nat}(b:row? w a.block=some (cs,c)):w.cell? a=cs[a.off]?:=by
 unfold row? at b;unfold World.cell?
 grind
def cD{y:Value}(h:y.oneCell'=true):y.cells=#[y]:=by cases y<;>simp_all[Value.oneCell',Value.cells]
def bu(cs:Array Value):(Value.agg cs).cells=cs:=W
def At.cell{z:Value}(h:At w a z)(c:z.cells=#[z]):w.cell? a=some z:=by obtain⟨hs,e,d,b,hc⟩:=h;rw[pS hs b];have:=hc 0 z (by simp[c]);simpa using this
def ZQ(w w':World)(a:Addr)(z:Value):Prop:=
 ∀c d,row? w a.block=some (c,d)->∃b,row? w' a.block=some (b,d)/\b.size=c.size/\(∀j u,z.cells[j]?=some u->b[a.off+j]?=some u)/\
  ∀k,k<a.off\/a.off+z.cells.size<=k->b[k]?=c[k]?
end
section
variable{w:World}{S:Nat->Prop}
def cN{L:Loc}{z:Value}(h:holds w L z)(b:z.cells=#[z]){s:Step}(hs:∀o n,s≠.at o n):step1 w L s=cm z s:=by
 cases L with
 |val y=>simp[holds]at h;subst h;rfl
 |addr a=>
  cases s with
  | «at» o n=>simp_all
  |_=>simp[step1,At.cell h b]
def fC{b off:Nat}{cs:Array Value}{c:Nat×Nat}{z:Value}(d:row? w b=some (cs,c))(h:∀j u,z.cells[j]?=some u->cs[off+j]?=some u):At w ⟨b,off,none⟩ z:=⟨W,cs,c,d,h⟩
def At.same{w w':World}{a:Addr}{z:Value}(h:At w a z)(b:w'.heap[a.block]?=w.heap[a.block]?):At w' a z:=by obtain⟨hs,f,e,d,c⟩:=h;exact⟨hs,f,e,(mG b).trans d,c⟩
def Same(w w':World)(L:Loc):Prop:=∀a,L=.addr a->w'.heap[a.block]?=w.heap[a.block]?
def holds.same{w w':World}{L:Loc}{z:Value}(h:holds w L z)(hs:Same w w' L):holds w' L z:=by
 cases L with
 |val y=>exact h
 |addr a=>exact At.same h<|hs a W
def Same.val{w w':World}(y:Value):Same w w' (.val y):=λ_ h=>by cases h
def Same.addr{w w':World}{a:Addr}(h:w'.heap[a.block]?=w.heap[a.block]?):Same w w' (.addr a):=λ_ e=>by cases e;exact h
def Rel.step{s:Step}{p:Path}{x:AV}{z:Value}{F:List Nat}{L:Loc}{y:AV}(h:Rel w S x z F)(k:holds w L z)(g:bp x (s::p)=some y):
 ∃V x' z' F',step1 w L s=some V/\holds w V z'/\Rel w S x' z' F'/\bp x' p=some y/\(∀b∈F',b∈F)/\
  ∀w',Same w w' L->(∀b,S b\/b∈F->w'.heap[b]?=w.heap[b]?)->step1 w' L s=some V/\Same w w' V:=by
 unfold bp at g;split at g
 ·rename_i f sz Q i X;split at g
  ·rename_i A0;subst A0;obtain⟨T,m,g⟩:=ads.1 g;cases f with
   |nil=>simp[Rel]at h;simp_all
   |shr=>
    simp only[Rel]at h;rcases h with⟨rfl,-,-⟩|⟨b,Y,K,D,fz,rfl,hS,J,hc,hE,rfl⟩
    ·cases m
    obtain⟨P,A,v,B,hF,hy,t,N,D1,-⟩:=c7.lens sz i hE m;have hA:At w ((⟨b,Y,none⟩:Addr).add<|i*sz) P:=by
     rw[cj W];refine fC J λj u hu=>?_
     grind
    have F0:v=[]:=eW;refine⟨.addr _,T,P,v,by rw[cN k W I];rfl,hA,t,g,λb C=>by grind,λw' e l=>?_⟩;exact⟨by rw[cN (k.same e) W I];rfl,.addr<|by rw[cj W];exact l b<|.inl hS⟩
   |own=>
    simp only[Rel]at h;rcases h with⟨rfl,-,-⟩|⟨b,K,D,F',rfl,J,hc,hm,B0,hE,rfl⟩
    ·cases m
    obtain⟨P,A,v,B,rfl,hy,t,N,D1,-⟩:=c7.lens sz i hE m;have hA:At w ((⟨b,0,none⟩:Addr).add<|i*sz) P:=by
     rw[cj W];refine fC J λj u hu=>?_
     grind
    refine⟨.addr _,T,P,v,by rw[cN k W I];rfl,hA,t,g,λb C=>by simp[C],λw' e l=>?_⟩;exact⟨by rw[cN (k.same e) W I];rfl,.addr<|by rw[cj W];simp_all⟩
  cases g
 ·rename_i own x0;simp only[Rel]at h;obtain⟨b,D,fz,F',z0,rfl,J,t,hz,h5⟩:=h;have hA:At w ⟨b,0,none⟩ z0:=fC J λj u hu=>eW;refine⟨.addr _,x0,z0,F',by rw[cN k W I];rfl,hA,t,g,λc hc=>?_,λw' e l=>?_⟩
  ·grind
  refine⟨by rw[cN (k.same e) W I];rfl,.addr<|l b ?_⟩
  grind
 ·rename_i Q o;obtain⟨xo,Z,g⟩:=ads.1 g;simp[Rel]at h;obtain⟨D,rfl,R⟩:=h;obtain⟨H,A,v,B,rfl,h1,t,hl,-⟩:=Cells.lens o R Z;have D2:=cD<|h1 W;have r:D[o]?=some H:=by simpa using hl
  cases L with
  |val q=>simp[holds]at k;subst k;exact⟨.val H,xo,H,v,by simp[step1,cm,r],W,t,g,λb C=>by simp[C],λw' _ _=>⟨by simp[step1,cm,r],.val _⟩⟩
  |addr a=>
   have O:∀M,At M a (.agg D)->At M (a.add o) H:=by
    rintro M⟨hs,E1,fz,J,hc⟩;rw[cj hs];refine fC J λj u hu=>?_;rw[D2]at hu
    match j,hu with
    |0,hu=>cases hu;simpa[bu]using hc o H (by simpa[bu]using r)
   exact⟨_,xo,H,v,W,O w k,t,g,λb C=>by simp[C],λw' e _=>⟨W,.addr<|by rw[cj k.1];exact e a W⟩⟩
 ·rename_i Q o n;split at g
  ·rename_i E2;simp[Rel]at h;obtain⟨D,rfl,R⟩:=h;obtain⟨A,d,rfl,c1,c2⟩:=Cells.split o R;obtain⟨v,B,rfl,d1,d2⟩:=Cells.split n c2;have t:Rel w S (.agg<|(Q.drop o).take n) (.agg<|D.extract o<|o+n) v:=by
    simp only[Rel];simp_all
   cases L with
   |val q=>simp[holds]at k;subst k;exact⟨_,_,_,v,W,W,t,g,λb C=>by simp[C],λw' _ _=>⟨W,.val _⟩⟩
   |addr a=>
    have O:∀M,At M a (.agg D)->At M (a.add o) (.agg<|D.extract o<|o+n):=by
     rintro M⟨hs,E1,fz,J,hc⟩;rw[cj hs];refine fC J λj u hu=>?_;rw[bu,ahT]at hu;split at hu
     ·have:=hc (o+j) u (by rw[bu];exact hu);grind
     cases hu
    exact⟨_,_,_,v,W,O w k,t,g,λb C=>by simp[C],λw' e _=>⟨W,.addr<|by rw[cj k.1];exact e a W⟩⟩
  cases g
 ·rename_i Q i;obtain⟨T,m,g⟩:=ads.1 g;simp[Rel]at h;obtain⟨D,rfl,R⟩:=h;obtain⟨H,A,v,B,rfl,-,t,hl,-⟩:=Cells.lens i R m;have r:D[i]?=some H:=by simpa using hl
  exact⟨.val H,T,H,v,by rw[cN k W I];simp[cm,r],W,t,g,λb C=>by simp[C],
   λw' e _=>⟨by rw[cN (k.same e) W I];simp[cm,r],.val _⟩⟩
 ·rename_i f sz Q X o n;split at g
  ·rename_i hc;obtain⟨rfl,h0,h1⟩:=hc;have hz:∃ad len K,z=.slice (some ad) len K:=by
    cases f with
    |nil=>simp[Rel]at h;simp_all
    |shr=>
     simp only[Rel]at h
     grind
    |own=>
     simp only[Rel]at h
     grind
   obtain⟨ad,len,K,rfl⟩:=hz;exact⟨.val _,.dead,_,[],by rw[cN k W I];rfl,W,by simp[Rel],g,I,λw' e _=>⟨by rw[cN (k.same e) W I];rfl,.val _⟩⟩
  cases g
 cases g
def Rel.read:∀(p:Path){x:AV}{z:Value}{F:List Nat}{L:Loc}{y:AV},Rel w S x z F->holds w L z->bp x p=some y->
 ∃L1 d f,loc w L p=some L1/\holds w L1 d/\Rel w S y d f/\(∀b∈f,b∈F)/\
  ∀w',Same w w' L->(∀b,S b\/b∈F->w'.heap[b]?=w.heap[b]?)->loc w' L p=some L1/\Same w w' L1
 |[],x,z,F,L,y,h,j,e=>by simp[bp]at e;subst e;exact⟨L,z,F,W,j,h,λ_ h=>h,λw' h _=>⟨W,h⟩⟩
 |s::p,x,z,F,L,y,h,j,e=>by obtain⟨A,v,u,F',t,r,q,o,k,n⟩:=Rel.step h j e;obtain⟨L1,d,f,k1,k2,k3,k4,k5⟩:=Rel.read p q r o;refine⟨L1,d,f,by rw[loc,t];exact k1,k2,k3,λb i=>k b<|k4 b i,λw' g c=>?_⟩;obtain⟨g1,g2⟩:=n w' g c;obtain⟨m,l⟩:=k5 w' g2 λb i=>c b<|i.imp id<|k b;exact⟨by rw[loc,g1];exact m,l⟩
end
section
variable{w:World}{S:Nat->Prop}
def Loc.jS:Loc->Option Nat
 |.val _=>none
 |.addr a=>some a.block
def Xx(L:Loc)(z:Value)(A:List Nat):Loc->Value->Prop
 |.val _,_=>True
 |.addr b,c=>b.block∈A\/∃a,L=.addr a/\b.block=a.block/\a.off<=b.off/\b.off+c.cells.size<=a.off+z.cells.size
def VV(w w':World)(L1:Loc)(b a:Value):Prop:=
 match L1 with
 |.val _=>a=b
 |.addr c=>ZQ w w' c a
def xn(w':World)(z:Value):Loc->Value->Prop
 |.val _,b=>b=z
 |.addr a,b=>At w' a b
def Kr{l y:List Value}{k sz n:Nat}(hl:k+sz<=l.length)(d:y.length=sz){cs':List Value}(a:cs'.length=l.length)
 (f:∀j,j<sz->cs'[k+j]?=y[j]?)(c:∀j,j<k\/k+sz<=j->cs'[j]?=l[j]?):cs'=l.take k++y++l.drop (k+sz):=by
 apply ahs;intro j;by_cases e:j<k
 ·grind
 by_cases b:j<k+sz
 ·grind
 rw[c j<|.inr E,afD<|by simp;omega]
 grind
def Rel.iI:∀(p:Path){x x' y y':AV}{z:Value}{F:List Nat}{L:Loc},Rel w S x z F->holds w L z->bp x p=some y->eJ x p y'=some x'->
 F.Nodup->(∀b∈F,¬S b)->(∀b,L.jS=some b->¬S b/\b∉F)->
 ∃L1 z1 A F1 B,loc w L p=some L1/\holds w L1 z1/\Rel w S y z1 F1/\F=A++F1++B/\Xx L z A L1 z1/\
  ∀(w':World)(S':Nat->Prop)(J:Value)(H:List Nat),(∀b,S b->S' b)->J.cells.size=z1.cells.size->(z1.oneCell'=true->J.oneCell'=true)->
   (∀b,(S b\/b∈A\/b∈B\/L.jS=some b)->L1.jS≠some b->w'.heap[b]?=w.heap[b]?)->VV w w' L1 z1 J->Rel w' S' y' J H->
   ∃X,Rel w' S' x' X (A++H++B)/\X.cells.size=z.cells.size/\(z.oneCell'=true->X.oneCell'=true)/\xn w' z L X
 |[],x,x',y,y',z,F,L,h,hL,Y,hs,_,_,_=>by
  simp only[bp,eJ,ada]at Y hs;subst Y hs;refine⟨L,z,[],F,[],W,hL,h,I,?_,λw' S' J H hS hz h1 m ht hr=>⟨J,by simpa using hr,hz,h1,?_⟩⟩
  ·cases L with
   |val q=>trivial
   |addr a=>exact .inr ⟨a,W,W,adp _,adp _⟩
  cases L with
  |val q=>exact ht
  |addr a=>obtain⟨D,cs,fz,M,hc⟩:=hL;obtain⟨t,e1,e2,e3,e4⟩:=ht cs fz M;exact⟨D,t,fz,e1,e3⟩
 |s::p,x,x',y,y',z,F,L,h,hL,Y,hs,hN,F3,R=>by
  unfold bp at Y;split at Y
  ·rename_i f sz xs i sz';split at Y
   ·rename_i K2;subst K2;cases f with
    |nil=>simp[eJ]at hs
    |shr=>simp[eJ]at hs
    |own=>
     obtain⟨xi,F4,Y⟩:=ads.1 Y;simp only[eJ,F4,if_true,afp,afE]at hs;obtain⟨M2,hs,rfl⟩:=hs;simp only[Rel]at h;rcases h with⟨rfl,-,-⟩|⟨b,cap,cs,F',rfl,hr,hc,hm,P0,hE,rfl⟩
     ·simp at F4
     obtain⟨yi,A0,Fx,B0,rfl,hy,hR,hcell,hle,F0⟩:=c7.lens sz i hE F4;have hA:At w ⟨b,i*sz,none⟩ yi:=fC hr λj u hu=>by grind
     have hxl:i<xs.length:=(agj.1 F4).1;have hEl:=c7.length sz hE;simp only[afm,afJ]at hEl hle;have S1:=afv.1 hN;simp only[afR,not_or]at S1;have G2:Fx.Nodup:=by grind
     obtain⟨L1,z1,A,F1,B,k1,k2,k3,rfl,k5,k6⟩:=Rel.iI p (L:=.addr ⟨b,i*sz,none⟩) hR hA Y hs G2
      (λc g=>F3 c<|by simp[g]) (λc g=>by simp[Loc.jS]at g;simp_all)
     refine⟨L1,z1,b::(A0++A),F1,B++B0,?_,k2,k3,I,?_,λw' S' J H hS hz h1 m ht D1=>?_⟩
     ·rw[loc,cN hL W I,cm,cj W];simpa using k1
     ·cases L1 with
      |val q=>trivial
      |addr v=>
       rcases k5 with k5|⟨a,O,k5,_⟩
       ·exact .inl (by simp[k5])
       cases O;exact .inl (by simp[k5])
     have G1:∀c,(S c\/c∈A\/c∈B\/Loc.jS (.addr ⟨b,i*sz,none⟩)=some c)->L1.jS≠some c->w'.heap[c]?=w.heap[c]?:=λc g D2=>m c (by rcases g with h|h|h|h<;>simp[Loc.jS]at h⊢ <;>simp[h]) D2
     obtain⟨X,j1,j2,j3,j4⟩:=k6 w' S' J H hS hz h1 G1 ht D1;have G6:∃t,row? w' b=some (t,(0,0))/\t.size=cs.size/\∀k,k<i*sz\/i*sz+sz<=k->t[k]?=cs[k]?:=by
      by_cases K:L1.jS=some b
      ·cases L1 with
       |val q=>simp[Loc.jS]at K
       |addr v=>
        simp only[Loc.jS,ada]at K;rcases k5 with k5|⟨a,O,k5,k7,k8⟩
        ·simp_all
        cases O;obtain⟨t,e1,e2,e3,e4⟩:=ht cs (0,0) (by rw[K];exact hr)
        grind
      exact⟨cs,(mG<|m b I K).trans hr,W,λ_ _=>rfl⟩
     obtain⟨t,r1,r2,r3⟩:=G6;have H2:At w' ⟨b,i*sz,none⟩ X:=j4;obtain⟨-,P,T,rx,Z⟩:=H2;simp only at rx Z;rw[r1]at rx;obtain⟨rfl,rfl⟩:t=P/\(0,0)=T:=by simpa using rx
     have V2:=F0 w' S' M2 X (A++H++B) hS (by rw[j2,hy]) (λc g=>m c (by
      grind) (λl=>by
       cases L1 with
       |val q=>simp[Loc.jS]at l
       |addr v=>
        simp only[Loc.jS,ada]at l;have hin:c∈b::A:=by
         rcases k5 with k5|⟨a,O,k5,_⟩
         ·simp[<-l,k5]
         grind
        grind)) j1
     refine⟨_,?_,W,λh=>h,?_⟩
     ·simp only[Rel];refine .inr ⟨b,cap,t,A0++(A++H++B)++B0,by rw[ad2],r1,eW,hm,by rw[r2];exact P0,?_,I⟩;rw[ad2];have e:t.toList.take (xs.length*sz)=(cs.toList.take<|xs.length*sz).take (i*sz)++X.cells.toList++(cs.toList.take<|xs.length*sz).drop (i*sz+sz):=by
       refine Kr (n:=0) (by simp;omega) (by simp[j2,hy]) (by simp[r2]) (λj hj=>?_) (λj hj=>?_)
       ·rw[aht E];simp_all
       grind
      rw[e];exact V2
     cases L with
     |val q=>rfl
     |addr a=>
      obtain⟨D,V,N,M,E1⟩:=hL;have S0:a.block∉b::(A0++(A++F1++B)++B0):=(R a.block W).2;refine⟨D,V,N,(mG<|m a.block (by simp[Loc.jS]) λl=>?_).trans M,E1⟩;cases L1 with
      |val q=>simp[Loc.jS]at l
      |addr v=>
       simp only[Loc.jS,ada]at l;rcases k5 with k5|⟨a',O,k5,_⟩
       ·simp_all
       grind
   simp at Y
  ·rename_i own x0;cases own with
   |false=>simp[eJ]at hs
   |true=>
    simp only[eJ,afE]at hs;obtain⟨x0',hs,rfl⟩:=hs;simp only[Rel,if_true]at h;obtain⟨b,cs,fz,F',z0,rfl,hr,hR,hz0,rfl,rfl⟩:=h;have hA:At w ⟨b,0,none⟩ z0:=fC hr λj u hu=>eW;have S1:=afv.1 hN;obtain⟨L1,z1,A,F1,B,k1,k2,k3,rfl,k5,k6⟩:=Rel.iI p (L:=.addr ⟨b,0,none⟩) hR hA Y hs S1.2
     (λc g=>F3 c<|by simp[g]) (λc g=>by simp[Loc.jS]at g;simp_all)
    refine⟨L1,z1,b::A,F1,B,?_,k2,k3,I,?_,λw' S' J H hS hz h1 m ht D1=>?_⟩
    ·rw[loc,cN hL W I,cm];simpa using k1
    ·cases L1 with
     |val q=>trivial
     |addr v=>
      rcases k5 with k5|⟨a,O,k5,_⟩
      ·exact .inl (by simp[k5])
      cases O;exact .inl (by simp[k5])
    have G1:∀c,(S c\/c∈A\/c∈B\/Loc.jS (.addr ⟨b,0,none⟩)=some c)->L1.jS≠some c->w'.heap[c]?=w.heap[c]?:=λc g D2=>m c (by rcases g with h|h|h|h<;>simp[Loc.jS]at h⊢ <;>simp[h]) D2
    obtain⟨X,j1,j2,j3,j4⟩:=k6 w' S' J H hS hz h1 G1 ht D1;have G6:∃t,row? w' b=some (t,(0,0))/\t.size=cs.size:=by
     by_cases K:L1.jS=some b
     ·cases L1 with
      |val q=>simp[Loc.jS]at K
      |addr v=>simp only[Loc.jS,ada]at K;obtain⟨t,e1,e2,e3,e4⟩:=ht cs (0,0) (by rw[K];exact hr);exact⟨t,by rw[<-K];exact e1,e2⟩
     exact⟨cs,(mG<|m b I K).trans hr,W⟩
    obtain⟨t,r1,r2⟩:=G6;have H2:At w' ⟨b,0,none⟩ X:=j4;obtain⟨-,P,T,rx,Z⟩:=H2;simp only at rx Z;rw[r1]at rx;obtain⟨rfl,rfl⟩:t=P/\(0,0)=T:=by simpa using rx
    refine⟨_,?_,W,λh=>h,?_⟩
    ·simp only[Rel,if_true];refine⟨b,t,(0,0),A++H++B,X,W,r1,j1,?_,W,I⟩;apply ahU;intro j;by_cases hj:j<X.cells.size
     ·have:=Z j X.cells[j] (by simp[hj]);simp only[af7]at this;rw[this];simp[hj]
     have P1:¬j<t.size:=by rw[r2,<-hz0,<-j2];exact hj
     simp[hj,P1]
    cases L with
    |val q=>rfl
    |addr a=>
     obtain⟨D,V,N,M,E1⟩:=hL;have S0:a.block∉b::(A++F1++B):=(R a.block W).2;refine⟨D,V,N,(mG<|m a.block (by simp[Loc.jS]) λl=>?_).trans M,E1⟩;cases L1 with
     |val q=>simp[Loc.jS]at l
     |addr v=>
      simp only[Loc.jS,ada]at l;rcases k5 with k5|⟨a',O,k5,_⟩
      ·exact S0 (by simp[<-l,k5])
      cases O;simp only at k5;exact S0 (by simp[<-l,k5])
  ·rename_i xs o;obtain⟨xo,S4,Y⟩:=ads.1 Y;simp only[eJ,S4,afp,afE]at hs;obtain⟨X2,hs,rfl⟩:=hs;simp only[Rel]at h;obtain⟨cs,rfl,hC⟩:=h;obtain⟨y0,A0,Fx,B0,rfl,h1,hR,hl,F0⟩:=Cells.lens o hC S4;have W1:=cD<|h1 W;have G5:cs[o]?=some y0:=by simpa using hl
   have Q:∃L',step1 w L (.at o none)=some L'/\holds w L' y0/\L'.jS=L.jS/\(∀a,L=.addr a->L'=.addr ⟨a.block,a.off+o,none⟩)/\∀q,L=.val q->L'=.val y0:=by
    cases L with
    |val q=>simp only[holds]at hL;subst hL;exact⟨.val y0,by simp only[step1,cm];simp[G5],W,W,I,I⟩
    |addr a=>
     obtain⟨D,t,fz,hr,hc⟩:=hL;refine⟨_,W,?_,by rw[cj D];rfl,λa' O=>by cases O;rw[cj D],I⟩;rw[cj D];refine fC hr λj u hu=>?_;rw[W1]at hu
     match j,hu with
     |0,hu=>simp at hu;subst hu;simpa[bu]using hc o y0 (by simpa[bu]using G5)
   obtain⟨L',e1,e2,e3,e4,e5⟩:=Q;have G2:Fx.Nodup:=by rw[aeJ,aeJ]at hN;exact hN.1.2.1
   obtain⟨L1,z1,A,F1,B,k1,k2,k3,rfl,k5,k6⟩:=Rel.iI p hR e2 Y hs G2 (λc g=>F3 c<|by simp[g])
    (λc g=>by rw[e3]at g;exact⟨(R c g).1,λhm=>(R c g).2<|by simp[hm]⟩)
   have hW:∀v,L1=.addr v->v.block∈A\/∃a,L=.addr a/\v.block=a.block/\a.off+o<=v.off/\v.off+z1.cells.size<=a.off+o+1:=by
    intro v H1;subst H1;rcases k5 with k5|⟨a',O,g1,g2,g3⟩
    ·exact .inl k5
    cases C:L with
    |val q=>rw[e5 q C]at O;cases O
    |addr a=>rw[e4 a C]at O;cases O;exact .inr ⟨a,W,g1,g2,by rw[W1]at g3;simpa using g3⟩
   refine⟨L1,z1,A0++A,F1,B++B0,by rw[loc,e1];exact k1,k2,k3,I,?_,λw' S' J H hS hz K0 m ht D1=>?_⟩
   ·cases r:L1 with
    |val q=>trivial
    |addr v=>
     rcases hW v r with k|⟨a,g1,g2,g3,g4⟩
     ·exact .inl (by simp[k])
     refine .inr ⟨a,g1,g2,E,?_⟩;have:o<cs.size:=(af8.1 G5).1;rw[bu];omega
   obtain⟨X,j1,j2,j3,j4⟩:=k6 w' S' J H hS hz K0 (λc g D2=>m c (by
    rcases g with h|h|h|h
    ·exact .inl h
    ·exact .inr (.inl<|by simp[h])
    ·exact .inr<|.inr<|.inl<|by simp[h]
    exact .inr<|.inr<|.inr<|by rw[e3]at h;exact h) D2) ht D1
   have E2:=F0 w' S' X2 X (A++H++B) hS (λ_=>j3<|h1 W) (λc g=>m c (by
    rcases g with h|h|h
    ·exact .inl h
    ·exact .inr<|.inl<|by simp[h]
    exact .inr<|.inr<|.inl<|by simp[h]) (λl=>by
    cases r:L1 with
    |val q=>rw[r]at l;simp[Loc.jS]at l
    |addr v=>
     rw[r]at l;simp only[Loc.jS,ada]at l;rcases hW v r with k|⟨a,g1,g2,-⟩
     ·rw[l]at k;rcases g with h|h|h
      ·exact F3 c (by simp[k]) h
      ·rw[aeJ,aeJ]at hN;exact hN.1.2.2 c h c (by simp[k]) W
      rw[aeJ]at hN;exact hN.2.2 c (by simp[k]) c h W
     have:=R c (by rw[g1,<-l,g2];rfl);rcases g with h|h|h
     ·exact this.1 h
     ·exact this.2 (by simp[h])
     exact this.2<|by simp[h])) j1
   refine⟨.agg<|cs.setIfInBounds o X,?_,by simp[bu],λh=>by simp[Value.oneCell']at h,?_⟩
   ·simp only[Rel];exact⟨_,W,by simpa using E2⟩
   cases C:L with
   |val q=>
    rw[e5 q C]at j4;simp only[xn]at j4⊢;subst j4
    congr 1
    apply ahU;intro j;rw[Array.getElem?_setIfInBounds];split
    ·rename_i hj;subst hj;split
     ·exact G5.symm
     rename_i hh;rw[ahV E]
    rfl
   |addr a=>
    rw[e4 a C]at j4;rw[C]at hL m;obtain⟨D,V,N,M,E1⟩:=hL;obtain⟨-,P,T,rx,Z⟩:=j4;simp only at rx Z;have hz1:=cD<|j3<|h1 W;refine⟨D,P,T,rx,λj u hu=>?_⟩;rw[bu,Array.getElem?_setIfInBounds]at hu;split at hu
    ·rename_i hj;subst hj;split at hu
     ·simp only[ada]at hu;subst hu;have:=Z 0 X (by rw[hz1];rfl);simpa using this
     simp at hu
    rename_i hj;have F2:=E1 j u (by rw[bu];exact hu);by_cases K:L1.jS=some a.block
    ·cases r:L1 with
     |val q=>rw[r]at K;simp[Loc.jS]at K
     |addr v=>
      rw[r]at K ht;simp only[Loc.jS,ada]at K;rcases hW v r with k|⟨a',g1,g2,g3,g4⟩
      ·exact absurd (by simp[K▸k])<|(R a.block<|by rw[C];rfl).2
      rw[C]at g1;cases g1;obtain⟨t,q1,q2,q3,q4⟩:=ht V N (by rw[K];exact M);rw[K,rx]at q1;obtain⟨rfl,rfl⟩:P=t/\T=N:=by simpa using q1
      rw[q4 _<|by rw[hz];omega];exact F2
    have:=mG<|m a.block (by simp[Loc.jS]) K;rw[rx,M]at this;obtain⟨rfl,rfl⟩:P=V/\T=N:=by simpa using this
    exact F2
  ·rename_i xs o n;split at Y
   ·rename_i hon;simp only[eJ,hon,if_true,ads]at hs;obtain⟨xs',hs,G4⟩:=hs;simp only[Rel]at h;obtain⟨cs,rfl,hC⟩:=h;obtain⟨A0,d,rfl,c1,c2⟩:=Cells.split o hC;obtain⟨Fx,B0,rfl,d1,d2⟩:=Cells.split n c2;rw[agk,agk]at d2;have U1:=Cells.length hC;have hlen':cs.size=xs.length:=by simpa using U1
    have hR:Rel w S (.agg<|(xs.drop o).take n) (.agg<|cs.extract o<|o+n) Fx:=by simp only[Rel];refine⟨_,W,?_⟩;have:(cs.extract o<|o+n).toList=(cs.toList.drop o).take n:=I;rw[this];exact d1
    have K2:(Value.agg<|cs.extract o<|o+n).cells.size=n:=by rw[bu];simp;omega
    have Q:∃L',step1 w L (.at o<|some n)=some L'/\holds w L' (.agg<|cs.extract o<|o+n)/\L'.jS=L.jS/\(∀a,L=.addr a->L'=.addr ⟨a.block,a.off+o,none⟩)/\
     ∀q,L=.val q->L'=.val (.agg<|cs.extract o<|o+n):=by
     cases L with
     |val q=>simp only[holds]at hL;subst hL;exact⟨_,W,W,W,I,I⟩
     |addr a=>
      obtain⟨D,t,fz,hr,hc⟩:=hL;refine⟨_,W,?_,by rw[cj D];rfl,λa' O=>by cases O;rw[cj D],I⟩;rw[cj D];refine fC hr λj u hu=>?_;rw[bu,ahT]at hu;split at hu
      ·have:=hc (o+j) u (by rw[bu];exact hu);simpa[agN]using this
      simp at hu
    obtain⟨L',e1,e2,e3,e4,e5⟩:=Q;have G2:Fx.Nodup:=by rw[aeJ,aeJ]at hN;exact hN.2.1.1
    obtain⟨L1,z1,A,F1,B,k1,k2,k3,rfl,k5,k6⟩:=Rel.iI p hR e2 Y hs G2 (λc g=>F3 c<|by simp[g])
     (λc g=>by rw[e3]at g;exact⟨(R c g).1,λhm=>(R c g).2<|by simp[hm]⟩)
    have hW:∀v,L1=.addr v->v.block∈A\/∃a,L=.addr a/\v.block=a.block/\a.off+o<=v.off/\v.off+z1.cells.size<=a.off+o+n:=by
     intro v H1;subst H1;rcases k5 with k5|⟨a',O,g1,g2,g3⟩
     ·exact .inl k5
     cases C:L with
     |val q=>rw[e5 q C]at O;cases O
     |addr a=>rw[e4 a C]at O;cases O;exact .inr ⟨a,W,g1,g2,by rw[K2]at g3;exact g3⟩
    refine⟨L1,z1,A0++A,F1,B++B0,by rw[loc,e1];exact k1,k2,k3,I,?_,λw' S' J H hS hz K0 m ht D1=>?_⟩
    ·cases r:L1 with
     |val q=>trivial
     |addr v=>
      rcases hW v r with k|⟨a,g1,g2,g3,g4⟩
      ·exact .inl (by simp[k])
      refine .inr ⟨a,g1,g2,E,?_⟩;rw[bu];omega
    obtain⟨X,j1,j2,j3,j4⟩:=k6 w' S' J H hS hz K0 (λc g D2=>m c (by
     rcases g with h|h|h|h
     ·exact .inl h
     ·exact .inr (.inl<|by simp[h])
     ·exact .inr<|.inr<|.inl<|by simp[h]
     exact .inr<|.inr<|.inr<|by rw[e3]at h;exact h) D2) ht D1
    split at G4
    ·rename_i ys;split at G4
     ·rename_i hys;simp only[ada]at G4;subst G4;simp only[Rel]at j1;obtain⟨S2,rfl,hC1⟩:=j1;have M1:S2.size=n:=by rw[K2,bu]at j2;exact j2
      have G3:∀c,(S c\/c∈A0\/c∈B0)->w'.heap[c]?=w.heap[c]?:=λc g=>m c (by
       rcases g with h|h|h
       ·exact .inl h
       ·exact .inr<|.inl<|by simp[h]
       exact .inr<|.inr<|.inl<|by simp[h]) (λl=>by
       cases r:L1 with
       |val q=>rw[r]at l;simp[Loc.jS]at l
       |addr v=>
        rw[r]at l;simp only[Loc.jS,ada]at l;rcases hW v r with k|⟨a,g1,g2,-⟩
        ·rw[l]at k;rcases g with h|h|h
         ·exact F3 c (by simp[k]) h
         ·rw[aeJ]at hN;exact hN.2.2 c h c (by simp[k]) W
         rw[aeJ,aeJ]at hN;exact hN.2.1.2.2 c (by simp[k]) c h W
        have:=R c (by rw[g1,<-l,g2];rfl);rcases g with h|h|h
        ·exact this.1 h
        ·exact this.2 (by simp[h])
        exact this.2<|by simp[h])
      have V0:Cells w' S' true (xs.take o++ys++xs.drop (o+n)) (cs.toList.take o++S2.toList++cs.toList.drop (o+n)) (A0++(A++H++B)++B0):=
       Cells.append (Cells.append (Cells.mono hS _<|Cells.frame _ c1 λc g=>G3 c<|g.imp id .inl) hC1)
        (Cells.mono hS _<|Cells.frame _ d2 λc g=>G3 c<|g.imp id .inr)
      refine⟨.agg (cs.toList.take o++S2.toList++cs.toList.drop (o+n)).toArray,?_,?_,λh=>by simp[Value.oneCell']at h,?_⟩
      ·simp only[Rel];exact⟨_,W,by simpa using V0⟩
      ·rw[bu,bu];simp;omega
      cases C:L with
      |val q=>
       rw[e5 q C]at j4;simp only[xn,Value.agg.injEq]at j4⊢;subst j4;apply ahU;intro j;simp only[List.getElem?_toArray];by_cases hj:j<o
       ·rw[aeZ,afK<|by simp;omega,aht hj];simp
       by_cases P1:j<o+n
       ·rw[aeZ,afD<|by simp;omega,afK<|by simp;omega];simp only[ag5,ahT,afm,afJ];rw[if_pos E]
        congr 1;omega
       rw[afD<|by simp;omega];simp only[ahu,ag5,aeP,afm,afJ,M1]
       congr 1;omega
      |addr a=>
       rw[e4 a C]at j4;rw[C]at hL m;obtain⟨D,V,N,M,E1⟩:=hL;obtain⟨-,P,T,rx,Z⟩:=j4;simp only at rx Z;refine⟨D,P,T,rx,λj u hu=>?_⟩;rw[bu]at hu;simp only[List.getElem?_toArray]at hu;have L0:∀j u,(j<o\/o+n<=j)->cs[j]?=some u->P[a.off+j]?=some u:=by
        intro j u hj hu;have F2:=E1 j u (by rw[bu];exact hu);by_cases K:L1.jS=some a.block
        ·cases r:L1 with
         |val q=>rw[r]at K;simp[Loc.jS]at K
         |addr v=>
          rw[r]at K ht;simp only[Loc.jS,ada]at K;rcases hW v r with k|⟨a',g1,g2,g3,g4⟩
          ·exact absurd (by simp[K▸k])<|(R a.block<|by rw[C];rfl).2
          rw[C]at g1;cases g1;obtain⟨t,q1,q2,q3,q4⟩:=ht V N (by rw[K];exact M);rw[K,rx]at q1;obtain⟨rfl,rfl⟩:P=t/\T=N:=by simpa using q1
          rw[q4 _<|by rw[hz];omega];exact F2
        have:=mG<|m a.block (by simp[Loc.jS]) K;rw[rx,M]at this;obtain⟨rfl,rfl⟩:P=V/\T=N:=by simpa using this
        exact F2
       by_cases hj:j<o
       ·rw[aeZ,afK<|by simp;omega,aht hj]at hu;exact L0 j u (.inl hj) (by simpa using hu)
       by_cases P1:j<o+n
       ·rw[aeZ,afD<|by simp;omega,afK<|by simp;omega]at hu;simp only[ag5,afm,afJ]at hu;have:=Z (j-min o cs.size) u (by rw[bu];exact hu);rw[<-this];congr 1;omega
       rw[afD<|by simp;omega]at hu;simp only[ahu,ag5,aeP,afm,afJ,M1]at hu;refine L0 j u (.inr E) ?_;rw[<-hu];congr 1;omega
     simp at G4
    simp at G4
   simp at Y
  ·rename_i xs i;obtain⟨xi,F4,Y⟩:=ads.1 Y;simp only[eJ,F4,afp,afE]at hs;obtain⟨M2,hs,rfl⟩:=hs;simp only[Rel]at h;obtain⟨cs,rfl,hC⟩:=h;obtain⟨y0,A0,Fx,B0,rfl,-,hR,hl,F0⟩:=Cells.lens i hC F4;have G5:cs[i]?=some y0:=by simpa using hl
   have Q:step1 w L (.bW i)=some (.val y0):=by rw[cN hL W I];simp[cm,G5]
   have G2:Fx.Nodup:=by rw[aeJ,aeJ]at hN;exact hN.1.2.1
   obtain⟨L1,z1,A,F1,B,k1,k2,k3,rfl,k5,k6⟩:=Rel.iI p (L:=.val y0) hR W Y hs G2 (λc g=>F3 c<|by simp[g]) (by simp[Loc.jS]);have hW:∀v,L1=.addr v->v.block∈A:=by
    intro v H1;subst H1;rcases k5 with k5|⟨a',O,_⟩
    ·exact k5
    cases O
   refine⟨L1,z1,A0++A,F1,B++B0,by rw[loc,Q];exact k1,k2,k3,I,?_,λw' S' J H hS hz K0 m ht D1=>?_⟩
   ·cases r:L1 with
    |val q=>trivial
    |addr v=>exact .inl (by simp[hW v r])
   obtain⟨X,j1,j2,j3,j4⟩:=k6 w' S' J H hS hz K0 (λc g D2=>m c (by
    rcases g with h|h|h|h
    ·exact .inl h
    ·exact .inr (.inl<|by simp[h])
    ·exact .inr<|.inr<|.inl<|by simp[h]
    simp[Loc.jS]at h) D2) ht D1
   simp only[xn]at j4;subst j4;have E2:=F0 w' S' M2 X (A++H++B) hS I (λc g=>m c (by
    rcases g with h|h|h
    ·exact .inl h
    ·exact .inr<|.inl<|by simp[h]
    exact .inr<|.inr<|.inl<|by simp[h]) (λl=>by
    cases r:L1 with
    |val q=>rw[r]at l;simp[Loc.jS]at l
    |addr v=>
     rw[r]at l;simp only[Loc.jS,ada]at l;have k:=hW v r;rw[l]at k;rcases g with h|h|h
     ·exact F3 c (by simp[k]) h
     ·rw[aeJ,aeJ]at hN;exact hN.1.2.2 c h c (by simp[k]) W
     rw[aeJ]at hN;exact hN.2.2 c (by simp[k]) c h W)) j1
   refine⟨.tuple cs,?_,W,λh=>h,?_⟩
   ·simp only[Rel];refine⟨cs,W,?_⟩;have:cs.toList.set i X=cs.toList:=by
     apply ahs;intro j;rw[agO];split
     ·rename_i hj;subst hj;split
      ·exact hl.symm
      rename_i hh;rw[afL E]
     rfl
    rw[this]at E2;simpa using E2
   cases C:L with
   |val q=>rfl
   |addr a=>
    rw[C]at hL m;obtain⟨D,V,N,M,E1⟩:=hL;refine⟨D,V,N,(mG<|m a.block (by simp[Loc.jS]) λl=>?_).trans M,E1⟩;cases r:L1 with
    |val q=>rw[r]at l;simp[Loc.jS]at l
    |addr v=>rw[r]at l;simp only[Loc.jS,ada]at l;have k:=hW v r;rw[l]at k;exact(R a.block<|by rw[C];rfl).2 (by simp[k])
  ·rename_i f sz xs sz' o n;cases f<;>simp[eJ]at hs
  simp at Y
end
section
variable{F:List Nat}{i:Nat}{S:Nat->Prop}{T:Nat->Value}{p:Path}{α:Type}{w w':World}
structure Sl where
 av:AV
 g1:Nat
 g2:Nat
instance:Inhabited Sl:=⟨⟨.dead,0,0⟩⟩
abbrev St:=Nat->Sl
def iI(f:Nat->α)(i:Nat)(x:α):Nat->α:=λj=>if j=i then x else f j
def aH(f:Nat->α)(i:Nat)(x:α):iI f i x i=x:=by simp[iI]
def b6(f:Nat->α){j:Nat}(x:α)(h:j≠i):iI f i x j=f j:=by simp[iI,h]
def flat:Path->Bool
 |[]=>false
 |_::p=>p.all λ|.at .. =>true|_=>false
def kh:Path->Bool
 |[]=>true
 |[.lZ ..]=>true
 |[.bW _]=>true
 |_=>false
def NP:Path->Bool
 |[]=>true
 |[.bW _]=>true
 |_=>false
def Fu{q:Prop}(h:NP p=true\/q):kh p=true\/q:=h.imp (λh=>by
 unfold NP at h;split at h
 ·rfl
 ·rfl
 cases h) id
def ED(h:kh p=true)(z:Value):loc w (.val z) p=loc w' (.val z) p:=by
 unfold kh at h;split at h
 ·rfl
 ·simp[loc,step1]
 ·simp[loc,step1]
 cases h
def EE(h:kh p=true){z:Value}{L:Loc}(hl:loc w (.val z) p=some L):∃u,L=.val u:=by
 unfold kh at h;split at h
 ·simp[loc]at hl;exact⟨z,hl.symm⟩
 ·simp[loc,step1]at hl;cases z<;>simp[cm]at hl
  grind
 ·simp[loc,step1]at hl;cases z<;>simp[cm]at hl
  grind
 cases h
def Gl{w w':World}:∀(p:Path)(a:Addr),(p.all λ|.at .. =>true|_=>false)=true->loc w (.addr a) p=loc w' (.addr a) p
 |[],a,_=>rfl
 |.at o n::p,a,h=>by exact Gl p _ h
 |.idx .. ::p,a,h=>by cases h
 |.deref::p,a,h=>by cases h
 |.bW .. ::p,a,h=>by cases h
 |.lZ .. ::p,a,h=>by cases h
def zC{w w':World}:∀(p:Path)(z:Value),(p.all λ|.at .. =>true|_=>false)=true->loc w (.val z) p=loc w' (.val z) p
 |[],z,_=>rfl
 |.at o n::p,z,h=>by
  simp[loc,step1];have b:=h;cases hh:cm z (.at o n)with
  |none=>rfl
  |some L=>
   cases L with
   |val y=>exact zC p y b
   |addr a=>exact Gl p a b
 |.idx .. ::p,a,h=>by cases h
 |.deref::p,a,h=>by cases h
 |.bW .. ::p,a,h=>by cases h
 |.lZ .. ::p,a,h=>by cases h
def IB(h:flat p=true)(z:Value):loc w (.val z) p=loc w' (.val z) p:=by
 cases p with
 |nil=>rfl
 |cons s p=>
  simp[loc,step1];cases hh:cm z s with
  |none=>rfl
  |some L=>
   cases L with
   |val y=>exact zC p y h
   |addr a=>exact Gl p a h
def an(w:World)(S:Nat->Prop)(σ:St)(T:Nat->Value)(i:Nat)(F:List Nat):Prop:=
 match(σ i).av with
 |.bC r g1 g2 p=>F=[]/\g1<=(σ r).g1/\g2<=(σ r).g2/\((σ r).g1=g1->(kh p=true\/(σ r).g2=g2)->(kh p=false->∃y,bp (σ r).av p=some y)->
   ∃L,loc w (.val<|T r) p=some L/\holds w L (T i)/\∀c,L=.addr c->(T i).oneCell'=true)
 |.ptr r g1 g2 p=>F=[]/\g1<=(σ r).g1/\g2<=(σ r).g2/\(∃c,T i=.pointer (some c))/\((σ r).g1=g1->(flat p=true\/(σ r).g2=g2)->(flat p=false->∃y,bp (σ r).av p=some y)->
   ∃c,loc w (.val<|T r) p=some (.addr c)/\T i=.pointer (some c))
 |.abs J=>∀w' d,(∀b,S b\/b∈F->w'.heap[b]?=w.heap[b]?)->(∀b,S b->d b)->J w' d F
 |.fS g a=>F=[]/\(∀q∈a,q.2<=(σ q.1).g1)/\((∀q∈a,(σ q.1).g1=q.2)->T i=.func (.func g) #[] (a.map λq=>T q.1).toArray)
 |av=>Rel w S av (T i) F
def AV.plain:AV->Bool
 |.bC .. |.ptr .. |.abs .. |.fS .. =>false
 |_=>true
def an.aA{σ:St}(a:(σ i).av.plain=true):an w S σ T i F↔Rel w S (σ i).av (T i) F:=by
 unfold an;split
 ·rename_i h;rw[h]at a;simp[AV.plain]at a
 ·rename_i h;rw[h]at a;simp[AV.plain]at a
 ·rename_i h;rw[h]at a;simp[AV.plain]at a
 ·rename_i h;rw[h]at a;simp[AV.plain]at a
 rfl
def Rel.plain{av:AV}{y:Value}(h:Rel w S av y F):av.plain=true:=by cases av<;>simp_all[Rel,AV.plain]
structure aT(S:Nat->Prop)(B:Nat->Prop)(σ:St)(T:Nat->Value)(w:World)(F:Nat->List Nat):Prop where
 rel:∀i,an w S σ T i<|F i
 nodup:∀i,(F i).Nodup
 du:∀i j,i≠j->∀b∈F i,b∉F j
 own:∀i,∀b∈F i,B b/\b<w.heap.size/\¬S b
 shr:∀b,S b->b<w.heap.size
structure YX(S:Nat->Prop)(σ σ':St)(T T':Nat->Value)(w w':World)(F:Nat->List Nat):Prop where
 g1:∀r,(σ r).g1<=(σ' r).g1
 g2:∀r,(σ r).g2<=(σ' r).g2
 val:∀r,(σ' r).g1=(σ r).g1->T' r=T r
 ins:∀r,(σ' r).g1=(σ r).g1->(σ' r).g2=(σ r).g2->(∀p y,bp (σ' r).av p=some y->∃y',bp (σ r).av p=some y')/\∀b,S b\/b∈F r->w'.heap[b]?=w.heap[b]?
def an.goes{S':Nat->Prop}{σ c:St}{T':Nat->Value}{F:Nat->List Nat}(hc:∀i,an w S σ T i<|F i)(a:YX S σ c T T' w w' F)
 (hS:∀b,S b->S' b)(Q:(c i).av=(σ i).av)(n:T' i=T i)(D:∀b,S b\/b∈F i->w'.heap[b]?=w.heap[b]?):an w' S' c T' i (F i):=by
 have h:=hc i;unfold an at h⊢;rw[Q];split
 ·rename_i r g1 g2 p C;rw[C]at h;obtain⟨B,m,l,A⟩:=h;refine⟨B,ad0 m<|a.g1 r,ad0 l<|a.g2 r,λk1 k2 k3=>?_⟩;have o:(σ r).g1=g1:=ag6 (by have:=a.g1 r;omega) m;have d:(c r).g1=(σ r).g1:=E;by_cases e:kh p=true
  ·obtain⟨L,f,v,X⟩:=A o (.inl e) (λh=>by rw[e]at h;cases h);obtain⟨u,rfl⟩:=EE e f;refine⟨_,by rw[a.val r d,<-ED (w:=w) e];exact f,?_,I⟩;simpa[holds,n]using v
  have N:(c r).g2=g2:=k2.resolve_left e;have R:(σ r).g2=g2:=ag6 (by have:=a.g2 r;omega) l;obtain⟨K,x⟩:=k3 (by simpa using e);obtain⟨P,O⟩:=a.ins r d E;obtain⟨y,k⟩:=P p K x;obtain⟨L,f,v,X⟩:=A o (.inr R) λ_=>⟨y,k⟩;have H:=hc r;have j:(σ r).av.plain=true:=by
   cases p with
   |nil=>exact absurd W e
   |cons s p=>cases hh:(σ r).av<;>simp[AV.plain]<;>(rw[hh]at k;simp[bp]at k)
  rw[an.aA j]at H;obtain⟨L1,Z,F1,r1,r2,r3,r4,M⟩:=Rel.read p (L:=.val<|T r) H W k;rw[r1]at f;simp[ada]at f;subst f;obtain⟨q1,q2⟩:=M w' (.val _) O;exact⟨L1,by rw[a.val r d];exact q1,by rw[n];exact v.same q2,by rw[n];exact X⟩
 ·rename_i r g1 g2 p C;rw[C]at h;obtain⟨B,m,l,h5,A⟩:=h;refine⟨B,ad0 m<|a.g1 r,ad0 l<|a.g2 r,by rw[n];exact h5,λk1 k2 k3=>?_⟩;have o:(σ r).g1=g1:=ag6 (by have:=a.g1 r;omega) m;have d:(c r).g1=(σ r).g1:=E;by_cases e:flat p=true
  ·obtain⟨V,f,v⟩:=A o (.inl e) (λh=>by rw[e]at h;cases h);exact⟨V,by rw[a.val r d,<-IB (w:=w) e];exact f,by rw[n];exact v⟩
  have N:(c r).g2=g2:=k2.resolve_left e;have R:(σ r).g2=g2:=ag6 (by have:=a.g2 r;omega) l;obtain⟨K,x⟩:=k3 (by simpa using e);obtain⟨P,O⟩:=a.ins r d E;obtain⟨y,k⟩:=P p K x;obtain⟨V,f,v⟩:=A o (.inr R) λ_=>⟨y,k⟩;have H:=hc r;cases p with
  |nil=>simp[loc]at f
  |cons s p=>
   have j:(σ r).av.plain=true:=by cases hh:(σ r).av<;>simp[AV.plain]<;>(rw[hh]at k;simp[bp]at k)
   rw[an.aA j]at H;obtain⟨L1,Z,F1,r1,r2,r3,r4,M⟩:=Rel.read (s::p) (L:=.val<|T r) H W k;rw[r1]at f;cases f;exact⟨V,by rw[a.val r d];exact(M w' (.val _) O).1,by rw[n];exact v⟩
 ·grind
 ·rename_i g t C;rw[C]at h;obtain⟨B,m,l⟩:=h;refine⟨B,λq z=>ad0 (m q z)<|a.g1 _,λk1=>?_⟩;have o:∀q∈t,(σ q.1).g1=q.2:=λq z=>ag6 (by have:=a.g1 q.1;grind)<|m q z;rw[n,l o]
  congr 2
  exact afq λq z=>(a.val q.1<|by rw[k1 q z,o q z]).symm
 rename_i B m l A;have j:(σ i).av.plain=true:=by
  cases hh:(σ i).av with
  |bC r g1 g2 p=>grind
  |ptr r g1 g2 p=>grind
  |abs J=>exact absurd hh (l J)
  |fS g t=>simp_all
  |_=>rfl
 have Y:=hc i;rw[an.aA j]at Y;rw[n];exact Rel.mono hS _<|Rel.frame _ Y D
end
section
variable{S S':Nat->Prop}{B:Nat->Prop}{σ:St}{T:Nat->Value}{w w':World}{F:Nat->List Nat}
section
variable{av' y y':AV}{ad:Addr}{i:Nat}{z:Value}
def aT.step(h:aT S B σ T w F){a:St}{T':Nat->Value}{F':Nat->List Nat}(f:YX S σ a T T' w w' F)(k:∀b,S b->S' b)
 (hs:∀i,((a i).av=(σ i).av/\T' i=T i/\F' i=F i/\∀b,S b\/b∈F i->w'.heap[b]?=w.heap[b]?)\/an w' S' a T' i (F' i))
 (hn:∀i,(F' i).Nodup)(g:∀i j,i≠j->∀b∈F' i,b∉F' j)(e:∀i,∀b∈F' i,B b/\b<w'.heap.size/\¬S' b)(c:∀b,S' b->b<w'.heap.size):
 aT S' B a T' w' F' where
 rel i:=by
  rcases hs i with⟨d,n,m,l⟩|d
  ·rw[m];exact an.goes h.rel f k d n l
  exact d
 nodup:=hn
 du:=g
 own:=e
 shr:=c
def aT.put(h:aT S B σ T w F)(d:Nat)(av:AV)(z:Value)(c:an w S (iI σ d ⟨av,(σ d).g1+1,(σ d).g2⟩) (iI T d z) d []):
 aT S B (iI σ d ⟨av,(σ d).g1+1,(σ d).g2⟩) (iI T d z) w (iI F d []):=by
 refine h.step (w':=w) (S':=S) ⟨λr=>?_,λr=>?_,λr f=>?_,λr f _=>?_⟩ (λ_ h=>h) (λi=>?_) (λi=>?_) (λi j g b a=>?_) (λi b a=>?_) h.shr
 ·by_cases e:r=d
  ·subst e;rw[aH];simp
  rw[b6 _ _ e];exact .refl
 ·by_cases e:r=d
  ·subst e;rw[aH];simp
  rw[b6 _ _ e];exact .refl
 ·by_cases e:r=d
  ·subst e;rw[aH]at f;simp at f
  rw[b6 _ _ e]
 ·by_cases e:r=d
  ·subst e;rw[aH]at f;simp at f
  rw[b6 _ _ e];simp_all
 ·by_cases e:i=d
  ·subst e;right;rw[aH];exact c
  left;rw[b6 _ _ e,b6 _ _ e,b6 _ _ e];simp_all
 ·by_cases e:i=d
  ·subst e;rw[aH];simp_all
  rw[b6 _ _ e];exact h.nodup i
 ·by_cases e:i=d
  ·subst e;rw[aH]at a;cases a
  rw[b6 _ _ e]at a;by_cases k:j=d
  ·subst k;rw[aH];simp
  rw[b6 _ _ k];exact h.du i j g b a
 by_cases e:i=d
 ·subst e;rw[aH]at a;cases a
 rw[b6 _ _ e]at a;exact h.own i b a
def made(σ:St)(M:List Nat)(n:Nat)(y:AV):St:=λi=>if i=n then⟨y,(σ n).g1+1,(σ n).g2⟩else if i∈M then⟨.dead,(σ i).g1+1,(σ i).g2⟩else σ i
def aT.make(h:aT S B σ T w F)(M:List Nat)(n:Nat)(y:AV)(z:Value)(p:List Nat)(J:∀b,w.heap.size<=b->B b)(d:w.heap.size<=w'.heap.size)
 (k:∀b,b<w.heap.size->(∀m∈M,b∉F m)->w'.heap[b]?=w.heap[b]?)(x:p.Nodup)(g:∀b∈p,(∃m∈M,b∈F m)\/w.heap.size<=b/\b<w'.heap.size)
 (l:Rel w' S y z p):aT S B (made σ M n y) (iI T n z) w' (λi=>if i=n then p else if i∈M then[]else F i):=by
 have o:∀i b,b∈F i->b<w.heap.size:=λi b a=>(h.own i b a).2.1;have v:∀b,S b->w'.heap[b]?=w.heap[b]?:=λb a=>k b (h.shr b a) λm _ c=>(h.own m b c).2.2 a;have A:∀i,i∉M->∀b∈F i,w'.heap[b]?=w.heap[b]?:=λi hi b a=>k b (o i b a) λm hm c=>h.du i m (λe=>hi (e▸hm)) b a c;have H:∀i,i∉M->∀b∈F i,b∉p:=λi hi b a t=>by
  rcases g b t with⟨m,hm,c⟩|⟨C,_⟩
  ·exact h.du i m (λe=>hi (e▸hm)) b a c
  grind
 refine h.step (w':=w') (S':=S) ⟨λr=>?_,λr=>?_,λr q=>?_,λr q _=>?_⟩ (λ_ h=>h) (λi=>?_) (λi=>?_) (λi j s b a=>?_) (λi b a=>?_)
  (λb a=>ae3 (h.shr b a) d)
 ·unfold made;grind
 ·unfold made;grind
 ·unfold made at q;split at q
  ·simp_all
  rename_i e;exact b6 _ _ e
 ·unfold made at q⊢;grind
 ·by_cases e:i=n
  ·subst e;right;rw[an.aA<|by simp[made];exact l.plain];simp[made,aH];exact l
  by_cases f:i∈M
  ·right;rw[an.aA<|by simp[made,e,f,AV.plain]];simp[made,e,f,Rel]
  left;simp[made,e,f,b6 _ _ e]
  grind
 ·by_cases e:i=n
  ·simp_all
  by_cases f:i∈M
  ·simp[e,f]
  simp[e,f,if_false];exact h.nodup i
 ·by_cases e:i=n
  ·grind
  simp only[e,if_false]at a;by_cases f:i∈M
  ·simp[f]at a
  simp[f,if_false]at a;by_cases D:j=n
  ·grind
  simp only[D,if_false];by_cases u:j∈M
  ·simp[u]
  simp[u,if_false];exact h.du i j s b a
 by_cases e:i=n
 ·simp[e,if_true]at a;rcases g b a with⟨m,hm,c⟩|⟨C,K⟩
  ·exact⟨(h.own m b c).1,ae3 (o m b c) d,(h.own m b c).2.2⟩
  grind
 simp only[e,if_false]at a;by_cases f:i∈M
 ·simp[f]at a
 simp[f,if_false]at a;exact⟨(h.own i b a).1,ae3 (o i b a) d,(h.own i b a).2.2⟩
def R7(h:At w ad z):ZQ w w ad z:=by intro f e d;obtain⟨_,c,b,a,hc⟩:=h;simp_all
def qb{L:Loc}(h:holds w L z):VV w w L z z:=by
 cases L with
 |val y=>rfl
 |addr a=>exact R7 h
def AV.cell:AV->Bool
 |.v _|.list .. |.box .. |.fn .. |.hole=>true
 |_=>false
def Rel.one{av:AV}{y:Value}{F:List Nat}(h:Rel w S av y F)(hc:av.cell=true):y.oneCell'=true:=by
 cases av with
 |v x=>simp[Rel]at h;obtain⟨d,rfl,-⟩:=h;cases y<;>simp_all[scalar,Value.oneCell']
 |list f sz m=>
  cases f with
  |nil=>simp[Rel]at h;rw[h.2.1];rfl
  |shr=>simp only[Rel]at h;rcases h with⟨-,⟨ad,d⟩,-⟩|⟨b,j,e,g,k,d,-⟩<;>rw[d]<;>rfl
  |own=>simp only[Rel]at h;rcases h with⟨-,d,-⟩|⟨b,e,g,l,d,-⟩<;>rw[d]<;>rfl
 |box own x=>simp only[Rel]at h;obtain⟨b,g,k,l,z,d,-⟩:=h;rw[d];rfl
 |fn f a c=>simp only[Rel]at h;obtain⟨o,n,q,p,d,-⟩:=h;rw[d];rfl
 |hole=>simp[Rel]at h;exact h.1
 |_=>simp[AV.cell]at hc
def ir(y:AV):AV:=if y.cell then .hole else .dead
def Rel.ir{a:List Nat}(h:Rel w S y z a):Rel w S (ir y) z []:=by
 unfold Ai.ir;split
 ·rename_i hc;simp only[Rel];exact⟨h.one hc,U⟩
 simp[Rel]
def Sub(a x:AV):Prop:=∀(p:Path)(y':AV),bp a p=some y'->∃y,bp x p=some y
def FB:∀(p:Path){b xs:List AV},b.length=xs.length->(∀(i:Nat)(c a:AV),b[i]?=some c->xs[i]?=some a->Sub c a)->∀y':AV,bp (.agg b) p=some y'->∃y,bp (.agg xs) p=some y
 |[],b,xs,_,_,y',_=>⟨_,W⟩
 |.at o none::p,b,xs,hl,he,y',h=>by
  simp[bp,ads]at h⊢;obtain⟨c,g,f⟩:=h;have d:o<xs.length:=by grind
  obtain⟨y,j⟩:=he o c _ g (aeF d) p y' f;simp_all
 |.at o (some n)::p,b,xs,hl,he,y',h=>by
  simp only[bp]at h⊢;rw[hl]at h;split at h
  ·rename_i e;rw[if_pos e];refine FB p (by simp[hl]) (λi c a g f=>?_) y' h
   grind
  cases h
 |.idx .. ::p,b,xs,_,_,y',h=>by simp[bp]at h
 |.deref::p,b,xs,_,_,y',h=>by simp[bp]at h
 |.bW .. ::p,b,xs,_,_,y',h=>by simp[bp]at h
 |.lZ .. ::p,b,xs,_,_,y',h=>by simp[bp]at h
def FA{xs:List AV}{x d:AV}(g:xs[i]?=some x)(h:Sub d x):∀(j:Nat)(c a:AV),(xs.set i d)[j]?=some c->xs[j]?=some a->Sub c a:=by
 intro j c a b e;rw[agO]at b;split at b
 ·simp_all
 rw[b]at e;cases e;exactλp y f=>⟨y,f⟩
def Hx{b xs:List AV}(hl:b.length=xs.length)(he:∀(i:Nat)(c a:AV),b[i]?=some c->xs[i]?=some a->Sub c a){p:Path}(h:b[i]?.bind (bp · p)=some y'):∃y,xs[i]?.bind (bp · p)=some y:=by
 simp[ads]at h⊢;obtain⟨c,f,e⟩:=h;have d:i<xs.length:=by grind
 obtain⟨y,g⟩:=he i c _ f (aeF d) p y' e;simp_all
def sV:∀(q:Path){x y h v:AV},bp x q=some y->Sub h y->eJ x q h=some v->Sub v x
 |[],x,y,h,v,k,m,d=>by simp[bp,ada]at k;simp[eJ,ada]at d;simp_all
 |s::q,x,y,h,v,k,m,d=>by
  intro p y' f;cases p with
  |nil=>exact⟨_,W⟩
  |cons t p=>
   unfold eJ at d;split at d
   ·rename_i sz xs i O;split at d
    ·rename_i e;subst e;simp[ads,afE]at d;obtain⟨x0,l,A,g,rfl⟩:=d;simp[bp,if_true,l,afp]at k;have he:=FA l<|sV q k m g;cases t with
     |idx j N=>
      simp only[bp]at f⊢;split at f
      ·rename_i e;rw[if_pos e];exact Hx I he f
      cases f
     |lZ a b c=>simp only[bp,ad2]at f⊢;exact⟨_,f⟩
     |_=>simp[bp]at f
    cases d
   ·simp[afE]at d;obtain⟨A,g,rfl⟩:=d;simp[bp]at k;cases t with
    |deref=>simp[bp]at f⊢;exact sV q k m g p y' f
    |_=>simp[bp]at f
   ·rename_i xs o;simp[ads,afE]at d;obtain⟨x0,l,A,g,rfl⟩:=d;simp[bp,l,afp]at k;exact FB (t::p) I (FA l<|sV q k m g) y' f
   ·rename_i xs o n;split at d
    ·rename_i K;simp only[ads]at d;obtain⟨z,l,g⟩:=d;split at g
     ·rename_i L;split at g
      ·rename_i hn;cases g;simp[bp,if_pos K]at k;have r:=sV q k m l;have u:(xs.take o++L++xs.drop (o+n)).length=xs.length:=by simp;omega
       refine FB (t::p) u (λi X a g1 g2=>?_) y' f;by_cases Q:i<o
       ·rw[aeZ,afK<|by simp;omega,ahW,if_pos Q,g2]at g1;cases g1;exactλp y H=>⟨y,H⟩
       by_cases V:i<o+n
       ·rw[aeZ,afD<|by simp;omega,afK<|by simp;omega]at g1;have J:(xs.take o).length=o:=by simp;omega
        rw[J]at g1;intro P M D;obtain⟨R,C⟩:=r (.at (i-o) none::P) M (by simp[bp,g1,afp];exact D);simp[bp,ahW,ahu]at C
        grind
       rw[afD<|by simp;omega,ahu]at g1;have J:(xs.take o++L).length=o+n:=by simp;omega
       rw[J,show o+n+(i-(o+n))=i from E,g2]at g1;cases g1;exactλp y H=>⟨y,H⟩
      cases g
     cases g
    cases d
   ·rename_i xs i;simp[ads,afE]at d;obtain⟨x0,l,A,g,rfl⟩:=d;simp[bp,l,afp]at k;have he:=FA l<|sV q k m g;cases t with
    |bW j=>simp[bp]at f⊢;exact Hx I he f
    |_=>simp[bp]at f
   cases d
def PV(y:AV):Sub (ir y) y:=by
 intro p y' h;cases p with
 |nil=>exact⟨_,W⟩
 |cons s p=>unfold ir at h;split at h<;>(cases s<;>simp[bp]at h)
def ju(s:Sl)(p:Path)(av:AV):Sl:=if p=[]then⟨av,s.g1+1,s.g2⟩else⟨av,s.g1,s.g2⟩
def xt(s:Sl)(p:Path)(av:AV):(ju s p av).av=av:=by unfold ju;split<;>rfl
def NO(s:Sl)(p:Path)(av:AV):s.g1<=(ju s p av).g1:=by unfold ju;split<;>simp
def NN(s:Sl)(p:Path)(av:AV):s.g2<=(ju s p av).g2:=by unfold ju;split<;>simp
def aT.take(h:aT S B σ T w F)(r n:Nat)(p:Path)(K:n≠r)(M:(σ r).av.plain=true)(C:bp (σ r).av p=some y)(hs:eJ (σ r).av p (ir y)=some av'):
 ∃L z o F',loc w (.val<|T r) p=some L/\holds w L z/\Rel w S y z o/\
  aT S B (iI (iI σ r<|ju (σ r) p av') n ⟨y,(σ n).g1+1,(σ n).g2⟩) (iI T n z) w F'/\F' n=o/\∀m,m≠r->m≠n->F' m=F m:=by
 have x:=h.rel r;rw[an.aA M]at x;obtain⟨L,z,A,o,u,k1,k2,k3,k4,k5,k6⟩:=Rel.iI p (L:=.val<|T r) x W C hs (h.nodup r) (λb c=>(h.own r b c).2.2) (by simp[Loc.jS]);obtain⟨R,J,-,-,v⟩:=k6 w S z [] (λ_ h=>h) W (λh=>h) (λ_ _ _=>rfl) (qb k2) k3.ir;simp[xn]at v;subst v;have O:=h.nodup r;rw[k4,aeJ,aeJ]at O;have f:∀b,b∈A++[]++u->b∈F r:=λb c=>by grind
 have d:∀b,b∈o->b∈F r:=λb c=>by rw[k4];simp[c]
 refine⟨L,z,o,λi=>if i=n then o else if i=r then A++[]++u else F i,k1,k2,k3,?_,I,λm Q P=>by simp[Q,P]⟩;refine h.step (w':=w) (S':=S) ⟨λi=>?_,λi=>?_,λi hi=>?_,λi hi t=>?_⟩ (λ_ h=>h) (λi=>?_) (λi=>?_) (λi j g b c=>?_) (λi b c=>?_) h.shr
 ·by_cases e:i=n
  ·subst e;rw[aH];simp
  rw[b6 _ _ e];by_cases a:i=r
  ·subst a;rw[aH];exact NO _ _ _
  rw[b6 _ _ a];exact adp _
 ·by_cases e:i=n
  ·subst e;rw[aH];simp
  rw[b6 _ _ e];by_cases a:i=r
  ·subst a;rw[aH];exact NN _ _ _
  rw[b6 _ _ a];exact adp _
 ·by_cases e:i=n
  ·subst e;rw[aH]at hi;simp at hi
  exact b6 _ _ e
 ·by_cases e:i=n
  ·subst e;rw[aH]at hi;simp at hi
  rw[b6 _ _ e]at hi t⊢;by_cases a:i=r
  ·subst a;rw[aH,xt];exact⟨sV p C (PV y) hs,λ_ _=>rfl⟩
  rw[b6 _ _ a];simp_all
 ·by_cases e:i=n
  ·subst e;right;rw[an.aA<|by rw[aH];exact k3.plain];simp[aH,if_true];exact k3
  by_cases a:i=r
  ·subst a;right;have:(iI (iI σ i<|ju (σ i) p av') n ⟨y,(σ n).g1+1,(σ n).g2⟩ i).av=av':=by rw[b6 _ _ e,aH,xt]
   rw[an.aA<|by rw[this];exact J.plain,this,b6 _ _ e];simp_all
  left;simp only[b6 _ _ e,b6 _ _ a,e,a,if_false,true_and];simp
 ·by_cases e:i=n
  ·simp_all
  by_cases a:i=r
  ·grind
  simp[e,a,if_false];exact h.nodup i
 ·have D:∀b,b∈o->b∉A++[]++u:=λb c k=>by
   grind
  by_cases e:i=n
  ·simp[e,if_true]at c;have N:j≠n:=λq=>g<|e.trans q.symm;simp only[N,if_false];by_cases a:j=r
   ·simp_all
   rw[if_neg a];exactλl=>h.du j r a b l<|d b c
  simp only[e,if_false]at c;by_cases a:i=r
  ·rw[if_pos a]at c;by_cases s:j=n
   ·grind
   simp[s,if_false];rw[if_neg λq=>g<|a.trans q.symm];exactλl=>h.du j r (λq=>g<|a.trans q.symm) b l<|f b c
  rw[if_neg a]at c;by_cases s:j=n
  ·simp[s,if_true];exactλk=>h.du i r a b c<|d b k
  simp only[s,if_false];by_cases H:j=r
  ·rw[if_pos H];exactλk=>h.du i r a b c<|f b k
  rw[if_neg H];exact h.du i j g b c
 by_cases e:i=n
 ·simp[e,if_true]at c;exact h.own r b<|d b c
 simp only[e,if_false]at c;by_cases a:i=r
 ·rw[if_pos a]at c;exact h.own r b<|f b c
 rw[if_neg a]at c;exact h.own i b c
def aT.share(h:aT S B σ T w F)(r:Nat)(p:Path)(D:(σ r).av.plain=true)(H:bp (σ r).av p=some y)(hs:eJ (σ r).av p y.b9=some av'):
 ∃(L:Loc)(z:Value)(f:List Nat)(F':Nat->List Nat),loc w (.val<|T r) p=some L/\holds w L z/\Rel w S y z f/\
  aT (λb=>S b\/b∈f) B (iI σ r ⟨av',(σ r).g1,(σ r).g2+1⟩) T w F'/\(∀b∈f,b∈F r):=by
 have v:=h.rel r;rw[an.aA D]at v;obtain⟨L,z,A,f,m,k1,k2,k3,k4,k5,k6⟩:=Rel.iI p (L:=.val<|T r) v W H hs (h.nodup r) (λb a=>(h.own r b a).2.2) (by simp[Loc.jS]);have c:∀b,b∈f->b∈F r:=λb a=>by rw[k4];simp[a]
 obtain⟨M,u,-,-,t⟩:=k6 w (λb=>S b\/b∈f) z [] (λ_ h=>.inl h) W (λh=>h) (λ_ _ _=>rfl) (qb k2)<|Rel.share (λ_ h=>.inl h) _ k3 λb a=>.inr a;simp[xn]at t;subst t;have J:=h.nodup r;rw[k4,aeJ,aeJ]at J;have d:∀b,b∈A++[]++m->b∈F r:=λb a=>by grind
 have x:∀b,b∈f->b∉A++[]++m:=λb a l=>by grind
 refine⟨L,z,f,λi=>if i=r then A++[]++m else F i,k1,k2,k3,?_,c⟩;refine h.step (w':=w) (S':=λb=>S b\/b∈f) (F':=λi=>if i=r then A++[]++m else F i) ⟨λi=>?_,λi=>?_,λi hi=>rfl,λi hi k=>?_⟩ (λ_ h=>.inl h) (λi=>?_) (λi=>?_) (λi j g b a=>?_) (λi b a=>?_) (λb(a:S b\/b∈f)=>?_)
 ·by_cases e:i=r
  ·subst e;rw[aH];exact .refl
  rw[b6 _ _ e];exact .refl
 ·by_cases e:i=r
  ·subst e;rw[aH];simp
  rw[b6 _ _ e];exact .refl
 ·by_cases e:i=r
  ·subst e;rw[aH]at k;simp at k
  rw[b6 _ _ e];simp_all
 ·by_cases e:i=r
  ·subst e;right;rw[an.aA<|by rw[aH];exact u.plain,aH];simp only;exact u
  left;simp only[b6 _ _ e,e,if_false,true_and];simp
 ·by_cases e:i=r
  ·grind
  simp[e];exact h.nodup i
 ·by_cases e:i=r
  ·simp only[e]at a;rw[if_neg λo=>g<|e.trans o.symm];exactλn=>h.du j r (λo=>g<|e.trans o.symm) b n<|d b a
  simp[e]at a;by_cases C:j=r
  ·rw[if_pos C];exactλl=>h.du i r e b a<|d b l
  rw[if_neg C];exact h.du i j g b a
 ·by_cases e:i=r
  ·simp only[e]at a;obtain⟨s,q,o3⟩:=h.own r b<|d b a
   grind
  simp[e]at a;obtain⟨s,q,o3⟩:=h.own i b a;exact⟨s,q,λhh=>hh.elim o3 λK=>h.du i r e b a<|c b K⟩
 rcases a with a|a
 ·exact h.shr b a
 exact(h.own r b<|c b a).2.1
def stored(σ:St)(r:Nat)(M:List Nat)(av:AV):St:=λi=>if i=r then⟨av,(σ r).g1,(σ r).g2+1⟩else if i∈M then⟨.dead,(σ i).g1+1,(σ i).g2⟩else σ i
def aT.store(h:aT S B σ T w F)(r:Nat)(M:List Nat)(p:Path){u:Value}{q:List Nat}(J:r∉M)(hp:(σ r).av.plain=true)
 (hg:bp (σ r).av p=some y)(hs:eJ (σ r).av p y'=some av')(hl:loc w (.val<|T r) p=some (.addr ad))
 (hv:Rel w S y' u q)(D2:q.Nodup)(f:∀b∈q,∃m∈M,b∈F m):
 ∃z,At w ad z/\(∃O,Rel w S y z O)/\B ad.block/\(u.cells.size=z.cells.size->(z.oneCell'=true->u.oneCell'=true)->
  ∀w',w'.heap.size=w.heap.size->(∀b,b≠ad.block->w'.heap[b]?=w.heap[b]?)->ZQ w w' ad u->
   ∃F',aT S B (stored σ r M av') T w' F'):=by
 have R:=h.rel r;rw[an.aA hp]at R;obtain⟨L,z,A,O,P,k1,k2,k3,k4,k5,k6⟩:=Rel.iI p (L:=.val<|T r) R W hg hs (h.nodup r) (λb c=>(h.own r b c).2.2) (by simp[Loc.jS]);rw[k1]at hl;cases hl;have hA:ad.block∈A:=by
  rcases k5 with k5|⟨a,ha,_⟩
  ·exact k5
  cases ha
 have k:ad.block∈F r:=by rw[k4];simp[hA]
 have C:∀b∈q,b∉F r:=λb c=>by obtain⟨m,hm,o⟩:=f b c;exact h.du m r (λe=>J (e▸hm)) b o
 have A0:∀i,i∉M->∀b∈q,b∉F i:=λi hi b c=>by obtain⟨m,hm,o⟩:=f b c;exact h.du m i (λe=>hi (e▸hm)) b o
 refine⟨z,k2,⟨O,k3⟩,(h.own r _ k).1,λH h1 w' l s N=>?_⟩;have B0:∀i,i≠r->∀b∈F i,b≠ad.block:=λi hi b c e=>h.du i r hi b c (e▸k);have x:∀b,S b->b≠ad.block:=λb c e=>(h.own r _ k).2.2 (e▸c);have D:Rel w' S y' u q:=Rel.frame _ hv λb c=>s b<|c.elim (x b) λc e=>C b c (e▸k);obtain⟨zz,Z,-,-,Q⟩:=k6 w' S u q (λ_ h=>h) H h1 (λb _ c=>s b<|by simpa[Loc.jS,eq_comm]using c) N D;simp[xn]at Q;subst Q;have hN:=h.nodup r;rw[k4,aeJ,aeJ]at hN;have n:∀b,b∈A++q++P->b∈F r\/b∈q:=λb c=>by grind
 have D1:∀b,b∈A\/b∈P->b∈F r:=λb c=>by grind
 refine⟨λi=>if i=r then A++q++P else if i∈M then[]else F i,?_⟩;refine h.step (w':=w') (S':=S) ⟨λi=>?_,λi=>?_,λi hi=>rfl,λi hi K=>?_⟩ (λ_ h=>h) (λi=>?_) (λi=>?_) (λi j v b c=>?_) (λi b c=>?_) (λb c=>by rw[l];exact h.shr b c)
 ·unfold stored;grind
 ·unfold stored;grind
 ·unfold stored at hi K⊢
  grind
 ·by_cases e:i=r
  ·subst e;right;have:(stored σ i M av' i).av=av':=by simp[stored]
   rw[an.aA<|by rw[this];exact Z.plain,this];simp_all
  by_cases g:i∈M
  ·right;have:(stored σ r M av' i).av=.dead:=by simp[stored,e,g]
   rw[an.aA<|by rw[this];rfl,this];simp[e,g,Rel]
  left;simp[stored,e,g,if_false,true_and]
  grind
 ·by_cases e:i=r
  ·grind
  by_cases g:i∈M
  ·simp[e,g]
  simp[e,g,if_false];exact h.nodup i
 ·by_cases e:i=r
  ·rw[if_pos e]at c;have V:j≠r:=λe'=>v<|e.trans e'.symm;rw[if_neg V];by_cases g:j∈M
   ·simp[g]
   simp[g,if_false];intro t;rcases n b c with d|d
   ·exact h.du j r V b t d
   simp_all
  rw[if_neg e]at c;by_cases g:i∈M
  ·simp[g]at c
  simp[g,if_false]at c;by_cases Y:j=r
  ·rw[if_pos Y];intro t;rcases n b t with d|d
   ·exact h.du i r e b c d
   simp_all
  rw[if_neg Y];by_cases X:j∈M
  ·simp[X]
  simp[X,if_false];exact h.du i j v b c
 rw[l];by_cases e:i=r
 ·rw[if_pos e]at c;rcases n b c with d|d
  ·exact h.own r b d
  obtain⟨m,hm,o⟩:=f b d;exact h.own m b o
 rw[if_neg e]at c;by_cases g:i∈M
 ·simp[g]at c
 simp[g,if_false]at c;exact h.own i b c
end
end
mutual
def AV.aG:AV->Bool
 |.list .own _ _=>false
 |.list .nil _ _=>true
 |.list .shr _ _=>true
 |.box own _=> !own
 |.agg xs=>bU xs
 |.bW xs=>bU xs
 |.fn _ a c=>bU a&&bU c
 |.v _=>true
 |.bC .. =>false
 |.ptr .. =>false
 |.hole=>true
 |.dead=>true
 |.pv _=>true
 |.abs _=>false
 |.fS .. =>false
 |.mp _=>false
def bU:List AV->Bool
 |[]=>true
 |x::xs=>x.aG&&bU xs
end
mutual
def AV.refs:AV->Bool
 |.list .nil _ _=>false
 |.list .own _ _=>true
 |.list .shr _ _=>true
 |.box _ _=>true
 |.agg xs=>Qt xs
 |.bW xs=>Qt xs
 |.fn .. =>true
 |.v _=>false
 |.bC .. =>true
 |.ptr .. =>true
 |.hole=>true
 |.dead=>true
 |.pv _=>true
 |.abs _=>true
 |.fS .. =>true
 |.mp _=>true
def Qt:List AV->Bool
 |[]=>false
 |x::xs=>x.refs||Qt xs
end
mutual
def AV.cL:AV->Bool
 |.list .nil _ _=>true
 |.list .own _ xs=>jw xs
 |.list .shr _ _=>false
 |.box own x=>own&&x.cL
 |.agg xs=>jw xs
 |.bW xs=>jw xs
 |.fn _ a c=>jw a&&jw c
 |.v _=>true
 |.bC .. =>true
 |.ptr .. =>true
 |.hole=>true
 |.dead=>true
 |.pv _=>true
 |.abs _=>true
 |.fS .. =>true
 |.mp _=>true
def jw:List AV->Bool
 |[]=>true
 |x::xs=>x.cL&&jw xs
end
section
variable{w:World}{S S':Nat->Prop}
mutual
theorem Rel.cL:∀(av:AV){y:Value}{F:List Nat},Rel w S av y F->av.cL=true->Rel w S' av y F
 |.v x,y,F,h,_=>by simpa[Rel]using h
 |.list .nil sz xs,y,F,h,_=>by simpa[Rel]using h
 |.list .shr sz xs,y,F,h,k=>by simp[AV.cL]at k
 |.list .own sz xs,y,F,h,k=>by
  rcases h with h|⟨b,cap,cs,F',e,d,i,g,j,q,p⟩
  ·exact .inl h
  exact .inr ⟨b,cap,cs,F',e,d,i,g,j,c7.cL sz xs q<|by simpa[AV.cL]using k,p⟩
 |.box true x,y,F,h,k=>by obtain⟨b,cs,r,F',z,e,d,i,g,j⟩:=h;exact⟨b,cs,r,F',z,e,d,Rel.cL x i<|by simpa[AV.cL]using k,g,j⟩
 |.box false x,y,F,h,k=>by simp[AV.cL]at k
 |.agg xs,y,F,h,k=>by obtain⟨cs,e,d⟩:=h;exact⟨cs,e,Cells.cL xs d<|by simpa[AV.cL]using k⟩
 |.bW xs,y,F,h,k=>by obtain⟨cs,e,d⟩:=h;exact⟨cs,e,Cells.cL xs d<|by simpa[AV.cL]using k⟩
 |.fn f a c,y,F,h,k=>by simp[AV.cL]at k;obtain⟨t,s,n,m,e,d,i,g⟩:=h;exact⟨t,s,n,m,e,Cells.cL a d k.1,Cells.cL c i k.2,g⟩
 |.bC ..,y,F,h,_=>by simp[Rel]at h
 |.ptr ..,y,F,h,_=>by simp[Rel]at h
 |.hole,y,F,h,_=>by simpa[Rel]using h
 |.dead,y,F,h,_=>by simpa[Rel]using h
 |.pv _,y,F,h,_=>by simpa[Rel]using h
 |.abs _,y,F,h,_=>by simp[Rel]at h
 |.fS ..,y,F,h,_=>by simp[Rel]at h
 |.mp _,y,F,h,_=>by simpa[Rel]using h
theorem Cells.cL:∀(xs:List AV){one:Bool}{l:List Value}{F:List Nat},Cells w S one xs l F->jw xs=true->Cells w S' one xs l F
 |[],one,l,F,h,_=>by simpa[Cells]using h
 |x::xs,one,l,F,h,k=>by simp[jw]at k;obtain⟨y,o,n,m,e,d,i,g,j⟩:=h;exact⟨y,o,n,m,e,d,i,Rel.cL x g k.1,Cells.cL xs j k.2⟩
theorem c7.cL(sz:Nat):∀(xs:List AV){l:List Value}{F:List Nat},c7 w S sz xs l F->jw xs=true->c7 w S' sz xs l F
 |[],l,F,h,_=>by simpa[c7]using h
 |x::xs,l,F,h,k=>by simp[jw]at k;obtain⟨y,o,n,m,e,d,i,g,j⟩:=h;exact⟨y,o,n,m,e,d,i,Rel.cL x g k.1,c7.cL sz xs j k.2⟩
end
mutual
theorem Rel.aG:∀(av:AV){y:Value}{F:List Nat},Rel w S av y F->av.aG=true->F=[]
 |.v x,y,F,h,_=>by simp[Rel]at h;exact h.2.2
 |.list .nil sz xs,y,F,h,_=>by simp[Rel]at h;exact h.2.2
 |.list .shr sz xs,y,F,h,_=>by simp only[Rel]at h;grind
 |.list .own sz xs,y,F,h,k=>by simp[AV.aG]at k
 |.box own x,y,F,h,k=>by simp[AV.aG]at k;subst k;simp only[Rel]at h;grind
 |.agg xs,y,F,h,k=>by simp[Rel]at h;obtain⟨cs,e,b⟩:=h;exact Cells.aG xs b (by simpa[AV.aG]using k)
 |.bW xs,y,F,h,k=>by simp[Rel]at h;obtain⟨cs,e,b⟩:=h;exact Cells.aG xs b (by simpa[AV.aG]using k)
 |.fn f a c,y,F,h,k=>by simp[AV.aG]at k;simp only[Rel]at h;obtain⟨o,n,j,i,e,b,d,rfl⟩:=h;rw[Cells.aG a b k.1,Cells.aG c d k.2];rfl
 |.bC ..,_,_,h,_=>by simp[Rel]at h
 |.ptr ..,_,_,h,_=>by simp[Rel]at h
 |.hole,_,_,h,_=>by simp[Rel]at h;exact h.2
 |.dead,_,_,h,_=>by simpa[Rel]using h
 |.pv _,_,_,h,_=>by simp[Rel]at h;exact h.2
 |.abs _,_,_,h,_=>by simp[Rel]at h
 |.fS ..,_,_,h,_=>by simp[Rel]at h
 |.mp _,_,_,_,k=>by simp[AV.aG]at k
theorem Cells.aG:∀(xs:List AV){one:Bool}{l:List Value}{F:List Nat},Cells w S one xs l F->bU xs=true->F=[]
 |[],one,l,F,h,_=>by simp[Cells]at h;exact h.2
 |x::xs,one,l,F,h,k=>by simp[bU]at k;obtain⟨y,m,j,i,e,rfl,b,d,g⟩:=h;rw[Rel.aG x d k.1,Cells.aG xs g k.2];rfl
end
end
inductive Mv
 |share (r:Nat) (p:Path)
 |take (r n:Nat) (p:Path)
 |make (M:List Nat) (n:Nat) (y:AV)
 |put (n:Nat) (y:AV)
 |store (r:Nat) (p:Path) (M:List Nat) (y:AV)
 |back (R:List (Nat×AV))
def lh(σ:St):List (Nat×AV)->St
 |[]=>σ
 |(r,y)::R=>iI (lh σ R) r ⟨y,(σ r).g1,(σ r).g2+1⟩
def Mv.run(σ:St):Mv->Option St
 |.share r p=>match bp (σ r).av p with
  |some y=>match eJ (σ r).av p y.b9 with
   |some av=>some (iI σ r ⟨av,(σ r).g1,(σ r).g2+1⟩)
   |none=>none
  |none=>none
 |.take r n p=>if n=r then none else match bp (σ r).av p with
  |some y=>match eJ (σ r).av p (ir y)with
   |some av=>some (iI (iI σ r<|ju (σ r) p av) n ⟨y,(σ n).g1+1,(σ n).g2⟩)
   |none=>none
  |none=>none
 |.make M n y=>some (made σ M n y)
 |.put n y=>some (iI σ n ⟨y,(σ n).g1+1,(σ n).g2⟩)
 |.store r p M y=>if r∈M then none else match eJ (σ r).av p y with
  |some av=>some (stored σ r M av)
  |none=>none
 |.back R=>some<|lh σ R
def Mv.runs(σ:St):List Mv->Option St
 |[]=>some σ
 |m::a=>match m.run σ with
  |some σ=>Mv.runs σ a
  |none=>none
end Go.Ai
