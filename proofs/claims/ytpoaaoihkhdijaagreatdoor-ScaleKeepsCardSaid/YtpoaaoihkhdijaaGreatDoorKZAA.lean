/- Parts of the proof of ScaleKeeps (as AIM.md's row tells), at every input, with no further conditions. -/
import Derived.WalkKit
import Derived.Lib.LaidTab
import Derived.Lib.ItoaNum
import Derived.TacticsIn
import Derived.OrdersIn
set_option linter.all false
set_option maxRecDepth 100000
set_option maxHeartbeats 0
section
abbrev aaw:=@Option.some.injEq
abbrev aaM:=@Nat.zero_le
abbrev abq:=@Nat.le_refl
abbrev abr:=@Option.bind_eq_some_iff
abbrev abw:=@List.getElem_mem
abbrev abx:=@List.getD_eq_getElem?_getD
abbrev aby:=@Bool.and_eq_true
abbrev abz:=@List.mem_cons
abbrev abA:=@List.getElem?_eq_getElem
abbrev abB:=@List.take_of_length_le
abbrev abC:=@List.nodup_append
abbrev abD:=@List.length_cons
abbrev abE:=@List.length_append
abbrev abF:=@List.mem_map
abbrev abG:=@List.append_assoc
abbrev abH:=@List.length_take
abbrev abI:=@Nat.le_trans
abbrev abJ:=@List.mem_append
abbrev abK:=@List.length_nil
abbrev abL:=@List.length_map
abbrev abM:=@Nat.lt_or_ge
abbrev abN:=@List.all_eq_true
abbrev abO:=@List.drop_eq_getElem_cons
abbrev abP:=@Nat.add_mul
abbrev abQ:=@List.map_append
abbrev abR:=@List.take_succ_eq_append_getElem
abbrev abS:=@Nat.mul_comm
abbrev abT:=@Nat.mul_le_mul_right
abbrev abU:=@Int.add_mul
abbrev abV:=@Int.pow_succ
abbrev abW:=@Nat.mod_lt
abbrev abX:=@Int.mul_assoc
abbrev abY:=@Prod.mk.injEq
abbrev abZ:=@Nat.eq_of_beq_eq_true
abbrev ab0:=@Int.mul_comm
abbrev ab1:=@List.mem_flatMap
abbrev ab2:=@Int.le_refl
abbrev ab3:=@Bool.true_and
abbrev ab4:=@Int.toNat_natCast
abbrev ab5:=@List.drop_of_length_le
abbrev ab6:=@Nat.le_of_ble_eq_true
abbrev ab7:=@List.all_cons
abbrev ab8:=@List.map_cons
abbrev ab9:=@List.mem_range
abbrev aca:=@Int.le_of_lt
abbrev acb:=@List.nodup_cons
abbrev acd:=@List.nodup_nil
abbrev ace:=@Nat.eq_zero_or_pos
abbrev acf:=@Array.length_toList
abbrev acg:=@Nat.lt_of_lt_of_le
abbrev ach:=@Nat.mul_assoc
abbrev aci:=@List.getElem?_eq_none
abbrev acj:=@List.append_nil
abbrev ack:=@Int.natCast_mul
abbrev acm:=@Nat.pow_succ
abbrev acn:=@List.getElem?_append_left
abbrev aco:=@Array.getElem?_eq_getElem
abbrev acp:=@Nat.pow_le_pow_right
abbrev acq:=@Rat.le_of_lt
abbrev acr:=@List.map_congr_left
abbrev acs:=@List.drop_eq_nil_of_le
abbrev acu:=@List.getElem?_append_right
abbrev acv:=@Option.bind_some
abbrev acw:=@Array.ext'
abbrev acx:=@Nat.mul_le_mul_left
abbrev acy:=@Int.mul_nonneg
abbrev acz:=@List.take_length
abbrev acA:=@Array.getElem?_eq_some_iff
abbrev acB:=@List.length_drop
abbrev acC:=@Int.mul_le_mul_of_nonneg_left
abbrev acD:=@Nat.pow_pos
abbrev acE:=@List.getElem?_take
abbrev acF:=@Decidable.byContradiction
abbrev acG:=@List.not_mem_nil
abbrev acH:=@Int.sub_mul
abbrev acI:=@Int.le_trans
abbrev acJ:=@Nat.div_lt_iff_lt_mul
abbrev acK:=@List.foldl_cons
abbrev acL:=@List.drop_zero
abbrev acM:=@Nat.div_eq_of_lt
abbrev acN:=@List.drop_length
abbrev acO:=@List.length_set
abbrev acP:=@Nat.min_eq_left
abbrev acQ:=@Bool.false_eq_true
abbrev acR:=@List.mem_cons_of_mem
abbrev acS:=@Array.getElem?_toList
abbrev acT:=@Nat.mod_eq_of_lt
abbrev acU:=@List.getElem?_eq_some_iff
abbrev acV:=@Nat.add_assoc
abbrev acW:=@Option.map_eq_some_iff
abbrev acX:=@List.map_nil
abbrev acY:=@Prod.exists
abbrev acZ:=@Int.pow_add
abbrev ac0:=@Int.lt_or_le
abbrev ac1:=@Nat.pow_add
abbrev ac2:=@List.length_replicate
abbrev ac3:=@Nat.mod_add_div
abbrev ac4:=@List.nil_append
abbrev ac5:=@Nat.div_lt_self
abbrev ac6:=@Int.mul_le_mul_of_nonneg_right
abbrev ac7:=@Rat.le_trans
abbrev ac8:=@List.getElem?_take_of_lt
abbrev ac9:=@Nat.zero_add
abbrev ada:=@List.getElem?_drop
abbrev adb:=@List.getElem?_map
abbrev ade:=@List.map_set
abbrev adf:=@Nat.pos_of_ne_zero
abbrev adg:=@List.mem_of_mem_drop
abbrev adh:=@Nat.lt_succ_self
abbrev adi:=@Int.natAbs_mul
abbrev adj:=@Int.mul_pos
abbrev adk:=@List.foldl_append
abbrev adl:=@Int.sign_neg_iff
abbrev adm:=@Decidable.not_not
abbrev adn:=@Nat.not_lt_zero
abbrev ado:=@Bool.not_eq_true'
abbrev adp:=@List.length_eq_zero_iff
abbrev adq:=@List.mem_of_mem_take
abbrev ads:=@Nat.le_of_lt
abbrev adt:=@List.length_singleton
abbrev adu:=@Nat.lt_of_le_of_lt
abbrev adv:=@Nat.add_le_add_right
abbrev adw:=@Rat.mul_le_mul_of_nonneg_left
abbrev adx:=@Rat.mul_comm
abbrev ady:=@List.drop_drop
abbrev adz:=@List.getElem_of_mem
abbrev adA:=@List.map_map
abbrev adB:=@List.mem_cons_self
abbrev adC:=@List.mem_singleton
abbrev adD:=@List.mem_of_getElem?
abbrev adE:=@Int.tdiv_eq_ediv_of_nonneg
abbrev adF:=@Int.one_mul
abbrev adG:=@Int.mul_one
abbrev adH:=@Int.natAbs_natCast
abbrev adI:=@Nat.mul_le_mul
abbrev adJ:=@Rat.num_nonneg
abbrev adK:=@Nat.div_div_eq_div_mul
abbrev adL:=@List.getElem?_set
abbrev adM:=@List.cons_append
abbrev adN:=@Nat.sub_self
abbrev adO:=@List.getElem?_replicate
abbrev adP:=@Int.emod_nonneg
abbrev adQ:=@Int.emod_lt_of_pos
abbrev adR:=@Int.sign_eq_one_of_pos
abbrev adS:=@Nat.div_le_self
abbrev adT:=@Nat.lt_trans
abbrev adU:=@List.countP_le_length
abbrev adV:=@Nat.add_mul_div_left
abbrev adW:=@Array.getElem?_eq_none
abbrev adX:=@List.length_pos_iff
abbrev adY:=@Bool.or_eq_true
abbrev adZ:=@Nat.add_zero
abbrev ad0:=@Bool.false_or
abbrev ad1:=@List.replicate_succ
abbrev ad2:=@List.append_eq_nil_iff
abbrev ad3:=@Nat.add_sub_cancel_left
abbrev ad4:=@Nat.le_succ
abbrev ad5:=@Int.ediv_nonneg
abbrev ad6:=@List.range_succ
abbrev ad7:=@List.eq_of_mem_replicate
abbrev ad8:=@Int.mul_ediv_add_emod
abbrev ad9:=@Int.lt_of_mul_lt_mul_right
abbrev aea:=@Int.pow_zero
abbrev aeb:=@Int.lt_trichotomy
abbrev aec:=@Nat.gcd_comm
abbrev aed:=@List.take_append_drop
abbrev aee:=@Rat.neg_num
abbrev aef:=@Rat.intCast_mul
abbrev aeg:=@Rat.intCast_natCast
abbrev aeh:=@List.countP_append
abbrev aei:=@List.getElem_map
abbrev aej:=@Rat.pow_zero
abbrev aek:=@Rat.pow_succ
abbrev ael:=@Nat.mul_add
abbrev aem:=@Int.natCast_add
abbrev aen:=@Nat.le_antisymm
abbrev aeo:=@Bool.and_self
abbrev aep:=@List.take_take
abbrev aeq:=@Option.map_some
abbrev aer:=@Nat.zero_mul
abbrev aes:=@List.take_zero
abbrev aet:=@List.map_drop
abbrev aeu:=@Nat.le_add_right
abbrev aev:=@Int.mul_add
abbrev aew:=@Int.pow_pos
abbrev aex:=@List.ext_getElem
abbrev aey:=@Nat.mul_pos
abbrev aez:=@Int.natAbs_neg
abbrev aeA:=@UInt8.toNat_inj
abbrev aeB:=@Int.ofNat.inj
abbrev aeC:=@Int.gcd_eq_natAbs_gcd_natAbs
abbrev aeD:=@Int.sign_eq_neg_one_of_neg
abbrev aeE:=@Rat.inv_pos
abbrev aeF:=@Int.neg_mul
abbrev aeG:=@Rat.intCast_le_intCast
abbrev aeH:=@Int.not_lt
abbrev aeI:=@List.all_nil
abbrev aeJ:=@List.eq_nil_of_length_eq_zero
abbrev aeK:=@List.ext_getElem?
abbrev aeL:=@Int.toNat_of_nonneg
abbrev aeM:=@List.size_toArray
abbrev aeN:=@List.take_append_of_le_length
abbrev aeO:=@List.getElem?_cons_zero
abbrev aeP:=@Bool.eq_iff_iff
abbrev aeQ:=@List.map_take
abbrev aeR:=@Prod.mk.inj
abbrev aeS:=@Int.tmod_eq_emod_of_nonneg
abbrev aeT:=@Nat.add_comm
abbrev aeU:=@List.mem_or_eq_of_mem_set
abbrev aeV:=@Nat.sub_zero
abbrev aeW:=@Nat.pow_mul
abbrev aeX:=@Rat.num_eq_zero
abbrev aeY:=@Nat.le_succ_of_le
abbrev aeZ:=@Bool.not_true
abbrev ae0:=@Rat.divInt_eq_div
abbrev ae1:=@Nat.succ_mul
abbrev ae2:=@List.sum_cons
abbrev ae3:=@List.map_replicate
abbrev ae4:=@List.mem_iff_getElem
abbrev ae5:=@List.getElem?_range
abbrev ae6:=@Int.natCast_pow
abbrev ae7:=@Rat.mul_assoc
abbrev ae8:=@Rat.not_le
abbrev ae9:=@Int.fdiv_eq_ediv_of_nonneg
abbrev afa:=@Nat.add_mul_mod_self_left
abbrev afb:=@Int.natCast_ediv
abbrev afc:=@Rat.not_lt
abbrev afd:=@List.getD_cons_zero
abbrev afe:=@Nat.one_mul
abbrev aff:=@List.foldl_nil
abbrev afg:=@List.length_range
abbrev afh:=@Array.getElem?_extract
abbrev afi:=@Array.ext_getElem?
abbrev afj:=@List.getElem?_toArray
abbrev afk:=@List.getElem?_set_ne
abbrev afl:=@Array.foldl_toList
abbrev afm:=@Function.comp_def
abbrev afn:=@List.drop_append
abbrev afo:=@List.cons.injEq
abbrev afp:=@List.any_eq_true
abbrev afq:=@List.flatMap_append
abbrev afr:=@List.mem_range'_1
abbrev afs:=@Int.mul_le_mul
abbrev afu:=@Nat.mul_div_mul_right
abbrev afv:=@Nat.mul_mod_mul_right
abbrev afw:=@Nat.mul_div_cancel
abbrev afx:=@Int.sign_eq_zero_iff_zero
abbrev afy:=@Nat.add_le_add
abbrev afz:=@Nat.le_mul_of_pos_right
abbrev afA:=@Nat.pow_le_pow_left
abbrev afB:=@List.getD_cons_succ
abbrev afC:=@List.countP_singleton
abbrev afD:=@Nat.le_div_iff_mul_le
abbrev afE:=@Nat.lt_trichotomy
abbrev afF:=@Rat.le_of_mul_le_mul_right
abbrev afG:=@List.eq_nil_or_concat
abbrev afH:=@List.concat_eq_append
abbrev afI:=@List.getLast?_eq_getElem?
def U:True:=⟨⟩
theorem G{α β:Sort _}{a:α}{b:β}:a=a/\b=b:=⟨rfl,rfl⟩
theorem kL{α β γ:Sort _}{a:α}{b:β}{c:γ}:a=a/\b=b/\c=c:=⟨rfl,rfl,rfl⟩
theorem E{p:Prop}(h:p:=by omega):p:=h
theorem I{p:Prop}(h:p:=by simp):p:=h
theorem fh{p:Prop}(h:p:=by decide):p:=h
theorem fg{p:Prop}(h:p:=by decide +kernel):p:=h
theorem ff{p:Prop}(h:p:=by dsimp only):p:=h
theorem eW{p:Prop}(h:p:=by simp_all):p:=h
theorem eU{p:Prop}(h:p:=by simp at *):p:=h
theorem fb{p:Prop}(h:p:=by rfl):p:=h
theorem W{α:Sort _}{a:α}:a=a:=rfl
namespace Go.Ai
open Go.RowKit
inductive Fl|nil|shr|own
 deriving DecidableEq
inductive Step
 |idx (i sz:Nat)
 |at(o:Nat) (n:Option Nat)
 |deref
 |bW (i:Nat)
 |lZ (sz o n:Nat)
 deriving DecidableEq
abbrev Path:=List Step
inductive AV
 |v (x:Value)
 |list (f:Fl) (sz:Nat) (xs:List AV)
 |box (own:Bool) (x:AV)
 |agg (xs:List AV)
 |bW (xs:List AV)
 |fn (f:Fn) (first captured:List AV)
 |bC (r g1 g2:Nat) (p:Path)
 |ptr (r g1 g2:Nat) (p:Path)
 |hole
 |dead
 |pv (C:Value->Prop)
 |abs (J:World->(Nat->Prop)->List Nat->Prop)
 |fS (g:FuncId) (caps:List (Nat×Nat))
 |mp (K:Obj->Prop)
instance:Inhabited AV:=⟨.dead⟩
def scalar:Value->Bool
 |.bool _|.int .. |.float .. |.complex .. |.string _|.pointer none|.map none|.nilFunc|.nilIface=>true
 |_=>false
def row?(w:World)(b:Nat):Option (Array Value×(Nat×Nat)):=
 match w.heap[b]?with
 |some (.cells c _ a)=>some (c,a)
 |_=>none
def mG{w w':World}{b:Nat}(h:w'.heap[b]?=w.heap[b]?):row? w' b=row? w b:=by unfold row?;rw[h]
mutual
def Rel(w:World)(S:Nat->Prop):AV->Value->List Nat->Prop
 |.v x,y,F=>scalar x=true/\y=x/\F=[]
 |.list f sz xs,y,F=>
  match f with
  |.nil=>xs=[]/\y=.slice none 0 0/\F=[]
  |.shr=>(xs=[]/\(∃i,y=.slice i 0 0)/\F=[])\/∃b off cap cs h,y=.slice (some ⟨b,off,none⟩) xs.length cap/\S b/\row? w b=some (cs,h)/\xs.length<=cap/\
    c7 w S sz xs ((cs.toList.drop off).take<|xs.length*sz) []/\F=[]
  |.own=>(xs=[]/\y=.slice none 0 0/\F=[])\/∃b cap cs F',y=.slice (some ⟨b,0,none⟩) xs.length cap/\row? w b=some (cs,(0,0))/\xs.length<=cap/\cap<=maxLen/\
    cs.size=cap*sz/\c7 w S sz xs (cs.toList.take<|xs.length*sz) F'/\F=b::F'
 |.box own x,y,F=>∃b cs h F' z,y=.pointer (some ⟨b,0,none⟩)/\row? w b=some (cs,h)/\Rel w S x z F'/\z.cells=cs/\
   (if own then h=(0,0)/\F=b::F' else S b/\F'=[]/\F=[])
 |.agg xs,y,F=>∃cs,y=.agg cs/\Cells w S true xs cs.toList F
 |.bW xs,y,F=>∃cs,y=.tuple cs/\Cells w S false xs cs.toList F
 |.fn f first captured,y,F=>∃a c e d,y=.func f a c/\Cells w S false first a.toList e/\Cells w S false captured c.toList d/\F=e++d
 |.bC ..,_,_=>False
 |.ptr ..,_,_=>False
 |.hole,y,F=>y.oneCell'=true/\F=[]
 |.dead,_,F=>F=[]
 |.pv C,y,F=>C y/\F=[]
 |.abs _,_,_=>False
 |.fS ..,_,_=>False
 |.mp K,y,F=>∃b o,y=.map (some b)/\w.heap[b]?=some o/\K o/\F=[b]
def Cells(w:World)(S:Nat->Prop)(one:Bool):List AV->List Value->List Nat->Prop
 |[],l,F=>l=[]/\F=[]
 |x::xs,l,F=>∃y g e d,l=y::g/\F=e++d/\(one=true->y.oneCell'=true)/\Rel w S x y e/\Cells w S one xs g d
def c7(w:World)(S:Nat->Prop)(sz:Nat):List AV->List Value->List Nat->Prop
 |[],l,F=>l=[]/\F=[]
 |x::xs,l,F=>∃y g e d,l=y.cells.toList++g/\F=e++d/\y.cells.size=sz/\Rel w S x y e/\c7 w S sz xs g d
end
section
variable{w w':World}{S S':Nat->Prop}
mutual
theorem Rel.frame:∀(av:AV){y:Value}{F:List Nat},Rel w S av y F->(∀b,S b\/b∈F->w'.heap[b]?=w.heap[b]?)->Rel w' S av y F
 |.v x,y,F,h,_=>by simpa[Rel]using h
 |.list .nil sz xs,y,F,h,_=>by simpa[Rel]using h
 |.list .shr sz xs,y,F,h,k=>by
  rcases h with h|⟨b,off,cap,cs,t,g,e,i,m,n,s⟩
  ·exact .inl h
  exact .inr ⟨b,off,cap,cs,t,g,e,(mG<|k b<|.inl e).trans i,m,c7.frame sz xs n λb d=>k b<|.inl<|by simpa using d,s⟩
 |.list .own sz xs,y,F,h,k=>by
  rcases h with h|⟨b,cap,cs,F',g,e,i,m,n,s,rfl⟩
  ·exact .inl h
  exact .inr ⟨b,cap,cs,F',g,(mG<|k b<|.inr I).trans e,i,m,n,c7.frame sz xs s λb d=>k b<|d.imp id<|by simp;exact .inr,W⟩
 |.box own x,y,F,h,k=>by
  obtain⟨b,cs,t,F',z,g,e,i,m,n⟩:=h;cases own
  ·simp[if_false]at n;obtain⟨u,rfl,rfl⟩:=n;exact⟨b,cs,t,[],z,g,(mG<|k b<|.inl u).trans e,Rel.frame x i λb d=>k b<|.inl<|by simpa using d,m,by simp[u]⟩
  simp at n;obtain⟨rfl,rfl⟩:=n;exact⟨b,cs,_,F',z,g,(mG<|k b<|.inr I).trans e,Rel.frame x i λb d=>k b<|d.imp id<|by simp;exact .inr,m,I⟩
 |.agg xs,y,F,h,k=>by obtain⟨cs,g,e⟩:=h;exact⟨cs,g,Cells.frame xs e k⟩
 |.bW xs,y,F,h,k=>by obtain⟨cs,g,e⟩:=h;exact⟨cs,g,Cells.frame xs e k⟩
 |.fn f first j,y,F,h,k=>by obtain⟨a,c,q,p,g,e,i,rfl⟩:=h;exact⟨a,c,q,p,g,Cells.frame first e λb d=>k b<|d.imp id<|by simp;exact .inl,Cells.frame j i λb d=>k b<|d.imp id<|by simp;exact .inr,W⟩
 |.bC ..,_,_,h,_=>by simp[Rel]at h
 |.ptr ..,_,_,h,_=>by simp[Rel]at h
 |.hole,_,_,h,_=>by simpa[Rel]using h
 |.dead,_,_,h,_=>by simpa[Rel]using h
 |.pv _,_,_,h,_=>by simpa[Rel]using h
 |.abs _,_,_,h,_=>by simp[Rel]at h
 |.fS ..,_,_,h,_=>by simp[Rel]at h
 |.mp K,y,F,h,k=>by obtain⟨b,o,g,e,i,rfl⟩:=h;exact⟨b,o,g,(k b<|.inr I).trans e,i,W⟩
theorem Cells.frame:∀(xs:List AV){one:Bool}{l:List Value}{F:List Nat},Cells w S one xs l F->(∀b,S b\/b∈F->w'.heap[b]?=w.heap[b]?)->Cells w' S one xs l F
 |[],one,l,F,h,_=>by simpa[Cells]using h
 |x::xs,one,l,F,h,k=>by obtain⟨y,r,q,p,g,rfl,e,i,m⟩:=h;exact⟨y,r,q,p,g,W,e,Rel.frame x i λb d=>k b<|d.imp id<|by simp;exact .inl,Cells.frame xs m λb d=>k b<|d.imp id<|by simp;exact .inr⟩
theorem c7.frame(sz:Nat):∀(xs:List AV){l:List Value}{F:List Nat},c7 w S sz xs l F->(∀b,S b\/b∈F->w'.heap[b]?=w.heap[b]?)->c7 w' S sz xs l F
 |[],l,F,h,_=>by simpa[c7]using h
 |x::xs,l,F,h,k=>by obtain⟨y,r,q,p,g,rfl,e,i,m⟩:=h;exact⟨y,r,q,p,g,W,e,Rel.frame x i λb d=>k b<|d.imp id<|by simp;exact .inl,c7.frame sz xs m λb d=>k b<|d.imp id<|by simp;exact .inr⟩
end
mutual
theorem Rel.mono(g:∀b,S b->S' b):∀(av:AV){y:Value}{F:List Nat},Rel w S av y F->Rel w S' av y F
 |.v x,y,F,h=>by simpa[Rel]using h
 |.list .nil sz xs,y,F,h=>by simpa[Rel]using h
 |.list .shr sz xs,y,F,h=>by
  rcases h with h|⟨b,off,cap,cs,r,e,d,k,j,m,q⟩
  ·exact .inl h
  exact .inr ⟨b,off,cap,cs,r,e,g b d,k,j,c7.mono g sz xs m,q⟩
 |.list .own sz xs,y,F,h=>by
  rcases h with h|⟨b,cap,cs,F',e,d,k,j,m,q,s⟩
  ·exact .inl h
  exact .inr ⟨b,cap,cs,F',e,d,k,j,m,c7.mono g sz xs q,s⟩
 |.box own x,y,F,h=>by
  obtain⟨b,cs,r,F',z,e,d,k,j,m⟩:=h;refine⟨b,cs,r,F',z,e,d,Rel.mono g x k,j,?_⟩;cases own
  ·simp at m⊢;simp_all
  simpa using m
 |.agg xs,y,F,h=>by obtain⟨cs,e,d⟩:=h;exact⟨cs,e,Cells.mono g xs d⟩
 |.bW xs,y,F,h=>by obtain⟨cs,e,d⟩:=h;exact⟨cs,e,Cells.mono g xs d⟩
 |.fn f first i,y,F,h=>by obtain⟨a,c,o,n,e,d,k,j⟩:=h;exact⟨a,c,o,n,e,Cells.mono g first d,Cells.mono g i k,j⟩
 |.bC ..,_,_,h=>by simp[Rel]at h
 |.ptr ..,_,_,h=>by simp[Rel]at h
 |.hole,_,_,h=>by simpa[Rel]using h
 |.dead,_,_,h=>by simpa[Rel]using h
 |.pv _,_,_,h=>by simpa[Rel]using h
 |.abs _,_,_,h=>by simp[Rel]at h
 |.fS ..,_,_,h=>by simp[Rel]at h
 |.mp _,y,F,h=>by simpa[Rel]using h
theorem Cells.mono(g:∀b,S b->S' b):∀(xs:List AV){one:Bool}{l:List Value}{F:List Nat},Cells w S one xs l F->Cells w S' one xs l F
 |[],one,l,F,h=>by simpa[Cells]using h
 |x::xs,one,l,F,h=>by obtain⟨y,p,o,n,e,d,k,j,m⟩:=h;exact⟨y,p,o,n,e,d,k,Rel.mono g x j,Cells.mono g xs m⟩
theorem c7.mono(g:∀b,S b->S' b)(sz:Nat):∀(xs:List AV){l:List Value}{F:List Nat},c7 w S sz xs l F->c7 w S' sz xs l F
 |[],l,F,h=>by simpa[c7]using h
 |x::xs,l,F,h=>by obtain⟨y,p,o,n,e,d,k,j,m⟩:=h;exact⟨y,p,o,n,e,d,k,Rel.mono g x j,c7.mono g sz xs m⟩
end
end
mutual
def AV.b9:AV->AV
 |.list .own sz xs=>.list .shr sz (ig xs)
 |.list .nil sz xs=>.list .nil sz xs
 |.list .shr sz xs=>.list .shr sz xs
 |.box true x=>.box false x.b9
 |.box false x=>.box false x
 |.agg xs=>.agg (ig xs)
 |.bW xs=>.bW (ig xs)
 |.fn f a c=>.fn f (ig a) (ig c)
 |.v x=>.v x
 |.bC r g1 g2 p=>.bC r g1 g2 p
 |.ptr r g1 g2 p=>.ptr r g1 g2 p
 |.hole=>.hole
 |.dead=>.dead
 |.pv C=>.pv C
 |.abs J=>.abs J
 |.fS g b=>.fS g b
 |.mp _=>.dead
def ig:List AV->List AV
 |[]=>[]
 |x::xs=>x.b9::ig xs
end
def jD:∀xs:List AV,(ig xs).length=xs.length
 |[]=>rfl
 |x::xs=>by simp[ig,jD xs]
section
variable{w:World}{S S':Nat->Prop}
mutual
theorem Rel.share(e:∀b,S b->S' b):∀(av:AV){y:Value}{F:List Nat},Rel w S av y F->(∀b∈F,S' b)->Rel w S' av.b9 y []
 |.v x,y,F,h,_=>by simp only[Rel,AV.b9]at h⊢;exact⟨h.1,h.2.1,U⟩
 |.list .nil sz xs,y,F,h,_=>by simp only[Rel,AV.b9]at h⊢;exact⟨h.1,h.2.1,U⟩
 |.list .shr sz xs,y,F,h,_=>by
  simp only[Rel,AV.b9]at h⊢;rcases h with h|⟨b,off,cap,cs,q,g,m,j,o,n,r⟩
  ·exact .inl ⟨h.1,h.2.1,U⟩
  exact .inr ⟨b,off,cap,cs,q,g,e b m,j,o,c7.mono e sz xs n,U⟩
 |.list .own sz xs,y,F,h,k=>by
  simp only[Rel,AV.b9]at h⊢;rcases h with⟨rfl,h,-⟩|⟨b,cap,cs,F',g,m,j,o,n,r,rfl⟩
  ·exact .inl ⟨W,⟨none,h⟩,U⟩
  refine .inr ⟨b,0,cap,cs,(0,0),by rw[jD];exact g,k b I,m,by rw[jD];exact j,?_,U⟩;rw[jD];exact c7.share e sz xs r (λb d=>k b<|by simp[d])
 |.box own x,y,F,h,k=>by
  obtain⟨b,cs,q,F',z,g,m,j,o,n⟩:=h;cases own
  ·simp[if_false]at n;obtain⟨d,rfl,rfl⟩:=n;exact⟨b,cs,q,[],z,g,m,Rel.mono e x j,o,by simp[e b d]⟩
  simp at n;obtain⟨rfl,rfl⟩:=n;exact⟨b,cs,_,[],z,g,m,Rel.share e x j λb d=>k b<|by simp[d],o,by simp[k b I]⟩
 |.agg xs,y,F,h,k=>by obtain⟨cs,g,m⟩:=h;exact⟨cs,g,Cells.share e xs m k⟩
 |.bW xs,y,F,h,k=>by obtain⟨cs,g,m⟩:=h;exact⟨cs,g,Cells.share e xs m k⟩
 |.fn f first i,y,F,h,k=>by obtain⟨a,c,t,s,g,m,j,rfl⟩:=h;exact⟨a,c,[],[],g,Cells.share e first m λb d=>k b<|by simp[d],Cells.share e i j λb d=>k b<|by simp[d],W⟩
 |.bC ..,_,_,h,_=>by simp[Rel]at h
 |.ptr ..,_,_,h,_=>by simp[Rel]at h
 |.hole,_,_,h,_=>by simp only[Rel,AV.b9]at h⊢;exact⟨h.1,U⟩
 |.dead,_,_,h,_=>by simp[Rel,AV.b9]
 |.pv _,_,_,h,_=>by simp only[Rel,AV.b9]at h⊢;exact⟨h.1,U⟩
 |.abs _,_,_,h,_=>by simp[Rel]at h
 |.fS ..,_,_,h,_=>by simp[Rel]at h
 |.mp _,_,_,_,_=>by simp[Rel,AV.b9]
theorem Cells.share(e:∀b,S b->S' b):∀(xs:List AV){one:Bool}{l:List Value}{F:List Nat},Cells w S one xs l F->(∀b∈F,S' b)->Cells w S' one (ig xs) l []
 |[],one,l,F,h,_=>by simpa[Cells,ig]using h.1
 |x::xs,one,l,F,h,k=>by obtain⟨y,p,t,s,g,rfl,j,o,n⟩:=h;exact⟨y,p,[],[],g,W,j,Rel.share e x o λb d=>k b<|by simp[d],Cells.share e xs n λb d=>k b<|by simp[d]⟩
theorem c7.share(e:∀b,S b->S' b)(sz:Nat):∀(xs:List AV){l:List Value}{F:List Nat},c7 w S sz xs l F->(∀b∈F,S' b)->c7 w S' sz (ig xs) l []
 |[],l,F,h,_=>by simpa[c7,ig]using h.1
 |x::xs,l,F,h,k=>by obtain⟨y,p,t,s,g,rfl,j,o,n⟩:=h;exact⟨y,p,[],[],g,W,j,Rel.share e x o λb d=>k b<|by simp[d],c7.share e sz xs n λb d=>k b<|by simp[d]⟩
end
end
end Go.Ai
end
namespace Go.Ai
open Go.RowKit
inductive Loc
 |val (y:Value)
 |addr (a:Addr)
def cm:Value->Step->Option Loc
 |.pointer (some a),.deref=>some (.addr a)
 |.slice (some a) _ _,.idx i sz=>some (.addr<|a.add<|i*sz)
 |.tuple b,.bW i=>b[i]?.map .val
 |.slice (some a) _ c,.lZ sz o n=>some (.val<|.slice (some<|a.add<|o*sz) n<|c-o)
 |.agg cs,.at o none=>cs[o]?.map .val
 |.agg cs,.at o (some n)=>some (.val<|.agg<|cs.extract o<|o+n)
 |_,_=>none
def step1(w:World):Loc->Step->Option Loc
 |.val y,s=>cm y s
 |.addr a,.at o _=>some (.addr<|a.add o)
 |.addr a,s=>(w.cell? a).bind (cm · s)
def loc(w:World):Loc->Path->Option Loc
 |L,[]=>some L
 |L,s::p=>(step1 w L s).bind (loc w · p)
def bp:AV->Path->Option AV
 |x,[]=>some x
 |x,s::p=>
  match x,s with
  |.list _ sz xs,.idx i a=>if sz=a then xs[i]?.bind (bp · p)else none
  |.box _ x,.deref=>bp x p
  |.agg xs,.at o none=>xs[o]?.bind (bp · p)
  |.agg xs,.at o (some n)=>if o+n<=xs.length then bp (.agg<|(xs.drop o).take n) p else none
  |.bW xs,.bW i=>xs[i]?.bind (bp · p)
  |.list _ sz xs,.lZ a o n=>if sz=a/\0<n/\o+n<=xs.length then bp .dead p else none
  |_,_=>none
def eJ:AV->Path->AV->Option AV
 |_,[],y=>some y
 |x,s::p,y=>
  match x,s with
  |.list .own sz xs,.idx i b=>if sz=b then xs[i]?.bind λx=>(eJ x p y).map λa=>.list .own sz (xs.set i a)else none
  |.box true x,.deref=>(eJ x p y).map λa=>.box true a
  |.agg xs,.at o none=>xs[o]?.bind λx=>(eJ x p y).map λa=>.agg (xs.set o a)
  |.agg xs,.at o (some n)=>if o+n<=xs.length then(eJ (.agg<|(xs.drop o).take n) p y).bind λ
    |.agg ys=>if ys.length=n then some (.agg<|xs.take o++ys++xs.drop (o+n))else none
    |_=>none
   else none
  |.bW xs,.bW i=>xs[i]?.bind λx=>(eJ x p y).map λa=>.bW (xs.set i a)
  |_,_=>none
def At(w:World)(a:Addr)(z:Value):Prop:=a.spot=none/\∃b c,row? w a.block=some (b,c)/\∀j u,z.cells[j]?=some u->b[a.off+j]?=some u
def holds(w:World):Loc->Value->Prop
 |.val y,z=>z=y
 |.addr a,z=>At w a z
section
variable{w w':World}{S S':Nat->Prop}
def Cells.length:∀{xs:List AV}{one:Bool}{l:List Value}{F:List Nat},Cells w S one xs l F->l.length=xs.length
 |[],one,l,F,h=>by simp[Cells]at h;simp[h.1]
 |x::xs,one,l,F,h=>by obtain⟨y,b,f,e,rfl,rfl,d,c,a⟩:=h;simp[Cells.length a]
def c7.length(sz:Nat):∀{xs:List AV}{l:List Value}{F:List Nat},c7 w S sz xs l F->l.length=xs.length*sz
 |[],l,F,h=>by simp[c7]at h;simp[h.1]
 |x::xs,l,F,h=>by obtain⟨y,b,f,e,rfl,rfl,d,c,a⟩:=h;simp[c7.length sz a,abP];omega
def Cells.lens:∀{xs:List AV}{one:Bool}{l:List Value}{F:List Nat}(o:Nat){x:AV},Cells w S one xs l F->xs[o]?=some x->
 ∃y A i B,F=A++i++B/\(one=true->y.oneCell'=true)/\Rel w S x y i/\l[o]?=some y/\
  ∀(w':World)(S':Nat->Prop)(e:AV)(c:Value)(a:List Nat),(∀b,S b->S' b)->(one=true->c.oneCell'=true)->
   (∀b,S b\/b∈A\/b∈B->w'.heap[b]?=w.heap[b]?)->Rel w' S' e c a->Cells w' S' one (xs.set o e) (l.set o c) (A++a++B)
 |[],one,l,F,o,x,h,d=>by cases d
 |x0::xs,one,l,F,0,x,h,d=>by obtain⟨y,t,j,s,rfl,rfl,q,p,n⟩:=h;simp at d;subst d;refine⟨y,[],j,s,I,q,p,I,λw' S' e c a g r k m=>?_⟩;exact⟨c,t,a,s,W,W,r,m,Cells.mono g _<|Cells.frame xs n λb f=>k b<|f.imp id .inr⟩
 |x0::xs,one,l,F,o+1,x,h,d=>by
  obtain⟨y,t,j,s,rfl,rfl,q,p,n⟩:=h;obtain⟨z,A,i,B,rfl,g2,C,v,u⟩:=Cells.lens o n d;refine⟨z,j++A,i,B,I,g2,C,v,λw' S' e c a g r k m=>?_⟩;exact⟨y,_,j,A++a++B,W,I,q,Rel.mono g _<|Rel.frame x0 p λb f=>k b<|f.imp id λh=>.inl<|by simp[h],
   u w' S' e c a g r (λb f=>k b<|by rcases f with h|h|h<;>simp[h]) m⟩
def Cells.append:∀{xs ys:List AV}{one:Bool}{l m:List Value}{F a:List Nat},Cells w S one xs l F->Cells w S one ys m a->Cells w S one (xs++ys) (l++m) (F++a)
 |[],ys,one,l,m,F,a,h,k=>by simp[Cells]at h;obtain⟨rfl,rfl⟩:=h;simpa using k
 |x::xs,ys,one,l,m,F,a,h,k=>by obtain⟨y,b,g,f,rfl,rfl,e,d,c⟩:=h;exact⟨y,b++m,g,f++a,I,I,e,d,Cells.append c k⟩
def Cells.split:∀(n:Nat){xs:List AV}{one:Bool}{l:List Value}{F:List Nat},Cells w S one xs l F->
 ∃a b,F=a++b/\Cells w S one (xs.take n) (l.take n) a/\Cells w S one (xs.drop n) (l.drop n) b
 |0,xs,one,l,F,h=>⟨[],F,I,by simp[Cells],h⟩
 |n+1,[],one,l,F,h=>by simp[Cells]at h;obtain⟨rfl,rfl⟩:=h;exact⟨[],[],I,by simp[Cells],by simp[Cells]⟩
 |n+1,x::xs,one,l,F,h=>by obtain⟨y,i,a,b,rfl,rfl,f,e,d⟩:=h;obtain⟨c,g,rfl,k1,k2⟩:=Cells.split n d;refine⟨a++c,g,I,?_,k2⟩;exact⟨y,_,a,c,W,W,f,e,k1⟩
def c7.append(sz:Nat):∀{xs ys:List AV}{l m:List Value}{F a:List Nat},c7 w S sz xs l F->c7 w S sz ys m a->c7 w S sz (xs++ys) (l++m) (F++a)
 |[],ys,l,m,F,a,h,k=>by simp[c7]at h;obtain⟨rfl,rfl⟩:=h;simpa using k
 |x::xs,ys,l,m,F,a,h,k=>by obtain⟨y,b,g,f,rfl,rfl,e,d,c⟩:=h;exact⟨y,b++m,g,f++a,I,I,e,d,c7.append sz c k⟩
def c7.split(sz:Nat):∀(n:Nat){xs:List AV}{l:List Value}{F:List Nat},c7 w S sz xs l F->
 ∃a b,F=a++b/\c7 w S sz (xs.take n) (l.take<|n*sz) a/\c7 w S sz (xs.drop n) (l.drop<|n*sz) b
 |0,xs,l,F,h=>⟨[],F,I,by simp[c7],by simpa using h⟩
 |n+1,[],l,F,h=>by simp[c7]at h;obtain⟨rfl,rfl⟩:=h;exact⟨[],[],I,by simp[c7],by simp[c7]⟩
 |n+1,x::xs,l,F,h=>by
  obtain⟨y,j,a,b,rfl,rfl,g,f,d⟩:=h;obtain⟨c,i,rfl,k1,k2⟩:=c7.split sz n d;have e:(n+1)*sz=y.cells.toList.length+n*sz:=by simp[abP];omega
  refine⟨a++c,i,I,?_,?_⟩
  ·simp;exact⟨y,_,a,c,by rw[e,List.take_length_add_append],W,g,f,k1⟩
  rw[e,List.drop_length_add_append];simpa using k2
def c7.lens(sz:Nat){xs:List AV}{l:List Value}{F:List Nat}(i:Nat){x:AV}(h:c7 w S sz xs l F)(s:xs[i]?=some x):
 ∃y A n B,F=A++n++B/\y.cells.size=sz/\Rel w S x y n/\(∀j u,y.cells[j]?=some u->l[i*sz+j]?=some u)/\i*sz+sz<=l.length/\
  ∀(w':World)(S':Nat->Prop)(f:AV)(e:Value)(c:List Nat),(∀b,S b->S' b)->e.cells.size=sz->
   (∀b,S b\/b∈A\/b∈B->w'.heap[b]?=w.heap[b]?)->Rel w' S' f e c->
   c7 w' S' sz (xs.set i f) (l.take (i*sz)++e.cells.toList++l.drop (i*sz+sz)) (A++c++B):=by
 obtain⟨A,a,rfl,L,z⟩:=c7.split sz i h;have d:=(acU.1 s).1;have p:=(acU.1 s).2;rw[abO d,p]at z;obtain⟨y,r,n,B,C,rfl,v,K,J⟩:=z;have hl:=c7.length sz h;have m:i*sz+sz<=l.length:=by have:(i+1)*sz<=xs.length*sz:=abT _ d;rw[abP]at this;omega
 have o:y.cells.toList.length=sz:=v;have M:l.drop (i*sz+sz)=r:=by rw[<-ady,C,<-o,List.drop_left]
 refine⟨y,A,n,B,I,v,K,λj u hu=>?_,m,λw' S' f e c t hs k D=>?_⟩
 ·have H:j<y.cells.toList.length:=by simpa using(acA.1 hu).1
  have:l[i*sz+j]?=(l.drop<|i*sz)[j]?:=I;rw[this,C,acn H];simpa using hu
 rw[M];have g:xs.set i f=xs.take i++(f::xs.drop (i+1)):=by rw[List.set_eq_take_append_cons_drop,if_pos d]
 rw[g,abG,abG];refine c7.append sz (c7.mono t sz _<|c7.frame sz _ L λb q=>k b<|q.imp id .inl)<|⟨e,r,c,B,W,W,hs,D,c7.mono t sz _<|c7.frame sz _ J λb q=>k b<|q.imp id .inr⟩
end
section
variable{a:Addr}{w:World}
def cj(h:a.spot=none)(n:Nat):a.add n=⟨a.block,a.off+n,none⟩:=by cases a with|mk b o s=>cases h;unfold Addr.add;split<;>simp_all
def pS(h:a.spot=none){cs:Array Value}{d:Nat×Nat}(b:row? w a.block=some (cs,d)):w.cell? a=cs[a.off]?:=by
 unfold row? at b;unfold World.cell?;split at b
 ·rename_i c e f hc;rw[hc];simp at b;simp[h,b.1]
 cases b
def cD{y:Value}(h:y.oneCell'=true):y.cells=#[y]:=by cases y<;>simp_all[Value.oneCell',Value.cells]
def bu(cs:Array Value):(Value.agg cs).cells=cs:=W
def At.cell{z:Value}(h:At w a z)(c:z.cells=#[z]):w.cell? a=some z:=by obtain⟨hs,e,d,b,hc⟩:=h;rw[pS hs b];have:=hc 0 z (by simp[c]);simpa using this
def ZQ(w w':World)(a:Addr)(z:Value):Prop:=
 ∀c d,row? w a.block=some (c,d)->∃b,row? w' a.block=some (b,d)/\b.size=c.size/\(∀j u,z.cells[j]?=some u->b[a.off+j]?=some u)/\
  ∀k,k<a.off\/a.off+z.cells.size<=k->b[k]?=c[k]?
end
section
variable{w:World}{S:Nat->Prop}
def cN{L:Loc}{z:Value}(h:holds w L z)(b:z.cells=#[z]){s:Step}(hs:∀o n,s≠.at o n):step1 w L s=cm z s:=by
 cases L with
 |val y=>simp[holds]at h;subst h;rfl
 |addr a=>
  cases s with
  | «at» o n=>simp_all
  |_=>simp[step1,At.cell h b]
def iu{b off:Nat}{cs:Array Value}{c:Nat×Nat}{z:Value}(d:row? w b=some (cs,c))(h:∀j u,z.cells[j]?=some u->cs[off+j]?=some u):At w ⟨b,off,none⟩ z:=⟨W,cs,c,d,h⟩
def At.same{w w':World}{a:Addr}{z:Value}(h:At w a z)(b:w'.heap[a.block]?=w.heap[a.block]?):At w' a z:=by obtain⟨hs,f,e,d,c⟩:=h;exact⟨hs,f,e,(mG b).trans d,c⟩
def Same(w w':World)(L:Loc):Prop:=∀a,L=.addr a->w'.heap[a.block]?=w.heap[a.block]?
def holds.same{w w':World}{L:Loc}{z:Value}(h:holds w L z)(hs:Same w w' L):holds w' L z:=by
 cases L with
 |val y=>exact h
 |addr a=>exact At.same h<|hs a W
def Same.val{w w':World}(y:Value):Same w w' (.val y):=λ_ h=>by cases h
def Same.addr{w w':World}{a:Addr}(h:w'.heap[a.block]?=w.heap[a.block]?):Same w w' (.addr a):=λ_ e=>by cases e;exact h
def Rel.step{s:Step}{p:Path}{x:AV}{z:Value}{F:List Nat}{L:Loc}{y:AV}(h:Rel w S x z F)(k:holds w L z)(g:bp x (s::p)=some y):
 ∃L' x' z' F',step1 w L s=some L'/\holds w L' z'/\Rel w S x' z' F'/\bp x' p=some y/\(∀b∈F',b∈F)/\
  ∀w',Same w w' L->(∀b,S b\/b∈F->w'.heap[b]?=w.heap[b]?)->step1 w' L s=some L'/\Same w w' L':=by
 unfold bp at g;split at g
 ·rename_i f sz T i A0;split at g
  ·rename_i E1;subst E1;obtain⟨Y,l,g⟩:=abr.1 g;cases f with
   |nil=>simp[Rel]at h;rw[h.1]at l;cases l
   |shr=>
    simp only[Rel]at h;rcases h with⟨rfl,-,-⟩|⟨b,V,H,t,Z,rfl,hS,M,hc,hE,rfl⟩
    ·cases l
    obtain⟨R,A,J,B,hF,hy,D,r,F0,-⟩:=c7.lens sz i hE l;have hA:At w ((⟨b,V,none⟩:Addr).add<|i*sz) R:=by
     rw[cj W];refine iu M λj u hu=>?_;have:=r j u hu;rw[acE]at this;split at this
     ·simpa[acV]using this
     cases this
    have F1:J=[]:=by have:=congrArg List.length hF;simp at this;exact aeJ E
    refine⟨.addr _,Y,R,J,by rw[cN k W I];rfl,hA,D,g,λb v=>by rw[F1]at v;simp at v,λw' e m=>?_⟩;exact⟨by rw[cN (k.same e) W I];rfl,.addr<|by rw[cj W];exact m b<|.inl hS⟩
   |own=>
    simp only[Rel]at h;rcases h with⟨rfl,-,-⟩|⟨b,H,t,F',rfl,M,hc,hm,E2,hE,rfl⟩
    ·cases l
    obtain⟨R,A,J,B,rfl,hy,D,r,F0,-⟩:=c7.lens sz i hE l;have hA:At w ((⟨b,0,none⟩:Addr).add<|i*sz) R:=by
     rw[cj W];refine iu M λj u hu=>?_;have:=r j u hu;rw[acE]at this;split at this
     ·simpa[acV]using this
     cases this
    refine⟨.addr _,Y,R,J,by rw[cN k W I];rfl,hA,D,g,λb v=>by simp[v],λw' e m=>?_⟩;exact⟨by rw[cN (k.same e) W I];rfl,.addr<|by rw[cj W];exact m b<|.inr I⟩
  cases g
 ·rename_i own x0;simp only[Rel]at h;obtain⟨b,t,Z,F',z0,rfl,M,D,hz,N⟩:=h;have hA:At w ⟨b,0,none⟩ z0:=iu M λj u hu=>by subst hz;simpa using hu
  refine⟨.addr _,x0,z0,F',by rw[cN k W I];rfl,hA,D,g,λc hc=>?_,λw' e m=>?_⟩
  ·cases own
   ·simp[acQ,if_false]at N;rw[N.2.1]at hc;cases hc
   simp[if_true]at N;rw[N.2];exact acR _ hc
  refine⟨by rw[cN (k.same e) W I];rfl,.addr<|m b ?_⟩;cases own
  ·simp[acQ,if_false]at N;exact .inl N.1
  simp[if_true]at N;rw[N.2];exact .inr I
 ·rename_i T o;obtain⟨xo,B0,g⟩:=abr.1 g;simp[Rel]at h;obtain⟨t,rfl,X⟩:=h;obtain⟨K,A,J,B,rfl,Q,D,hl,-⟩:=Cells.lens o X B0;have F2:=cD<|Q W;have C:t[o]?=some K:=by simpa using hl
  cases L with
  |val q=>simp[holds]at k;subst k;exact⟨.val K,xo,K,J,by simp[step1,cm,C],W,D,g,λb v=>by simp[v],λw' _ _=>⟨by simp[step1,cm,C],.val _⟩⟩
  |addr a=>
   have P:∀O,At O a (.agg t)->At O (a.add o) K:=by
    rintro O⟨hs,F3,Z,M,hc⟩;rw[cj hs];refine iu M λj u hu=>?_;rw[F2]at hu
    match j,hu with
    |0,hu=>cases hu;simpa[bu]using hc o K (by simpa[bu]using C)
   exact⟨_,xo,K,J,W,P w k,D,g,λb v=>by simp[v],λw' e _=>⟨W,.addr<|by rw[cj k.1];exact e a W⟩⟩
 ·rename_i T o n;split at g
  ·rename_i F4;simp[Rel]at h;obtain⟨t,rfl,X⟩:=h;obtain⟨A,d,rfl,c1,c2⟩:=Cells.split o X;obtain⟨J,B,rfl,d1,d2⟩:=Cells.split n c2;have D:Rel w S (.agg<|(T.drop o).take n) (.agg<|t.extract o<|o+n) J:=by
    simp only[Rel];refine⟨_,W,?_⟩;have:(t.extract o<|o+n).toList=(t.toList.drop o).take n:=I;rw[this];exact d1
   cases L with
   |val q=>simp[holds]at k;subst k;exact⟨_,_,_,J,W,W,D,g,λb v=>by simp[v],λw' _ _=>⟨W,.val _⟩⟩
   |addr a=>
    have P:∀O,At O a (.agg t)->At O (a.add o) (.agg<|t.extract o<|o+n):=by
     rintro O⟨hs,F3,Z,M,hc⟩;rw[cj hs];refine iu M λj u hu=>?_;rw[bu,afh]at hu;split at hu
     ·have:=hc (o+j) u (by rw[bu];exact hu);simpa[acV]using this
     cases hu
    exact⟨_,_,_,J,W,P w k,D,g,λb v=>by simp[v],λw' e _=>⟨W,.addr<|by rw[cj k.1];exact e a W⟩⟩
  cases g
 ·rename_i T i;obtain⟨Y,l,g⟩:=abr.1 g;simp[Rel]at h;obtain⟨t,rfl,X⟩:=h;obtain⟨K,A,J,B,rfl,-,D,hl,-⟩:=Cells.lens i X l;have C:t[i]?=some K:=by simpa using hl
  exact⟨.val K,Y,K,J,by rw[cN k W I];simp[cm,C],W,D,g,λb v=>by simp[v],
   λw' e _=>⟨by rw[cN (k.same e) W I];simp[cm,C],.val _⟩⟩
 ·rename_i f sz T A0 o n;split at g
  ·rename_i hc;obtain⟨rfl,h0,Q⟩:=hc;have hz:∃ad len H,z=.slice (some ad) len H:=by
    cases f with
    |nil=>simp[Rel]at h;rw[h.1]at Q;simp at Q;omega
    |shr=>
     simp only[Rel]at h;rcases h with⟨rfl,-,-⟩|⟨b,V,H,t,Z,rfl,-⟩
     ·simp at Q;omega
     exact⟨_,_,_,W⟩
    |own=>
     simp only[Rel]at h;rcases h with⟨rfl,-,-⟩|⟨b,H,t,F',rfl,-⟩
     ·simp at Q;omega
     exact⟨_,_,_,W⟩
   obtain⟨ad,len,H,rfl⟩:=hz;exact⟨.val _,.dead,_,[],by rw[cN k W I];rfl,W,by simp[Rel],g,I,λw' e _=>⟨by rw[cN (k.same e) W I];rfl,.val _⟩⟩
  cases g
 cases g
def Rel.read:∀(p:Path){x:AV}{z:Value}{F:List Nat}{L:Loc}{y:AV},Rel w S x z F->holds w L z->bp x p=some y->
 ∃L1 d f,loc w L p=some L1/\holds w L1 d/\Rel w S y d f/\(∀b∈f,b∈F)/\
  ∀w',Same w w' L->(∀b,S b\/b∈F->w'.heap[b]?=w.heap[b]?)->loc w' L p=some L1/\Same w w' L1
 |[],x,z,F,L,y,h,j,e=>by simp[bp]at e;subst e;exact⟨L,z,F,W,j,h,λ_ h=>h,λw' h _=>⟨W,h⟩⟩
 |s::p,x,z,F,L,y,h,j,e=>by obtain⟨A,v,u,F',t,r,q,o,k,n⟩:=Rel.step h j e;obtain⟨L1,d,f,k1,k2,k3,k4,k5⟩:=Rel.read p q r o;refine⟨L1,d,f,by rw[loc,t];exact k1,k2,k3,λb i=>k b<|k4 b i,λw' g c=>?_⟩;obtain⟨g1,g2⟩:=n w' g c;obtain⟨m,l⟩:=k5 w' g2 λb i=>c b<|i.imp id<|k b;exact⟨by rw[loc,g1];exact m,l⟩
end
section
variable{w:World}{S:Nat->Prop}
def Loc.jS:Loc->Option Nat
 |.val _=>none
 |.addr a=>some a.block
def Xx(L:Loc)(z:Value)(A:List Nat):Loc->Value->Prop
 |.val _,_=>True
 |.addr b,c=>b.block∈A\/∃a,L=.addr a/\b.block=a.block/\a.off<=b.off/\b.off+c.cells.size<=a.off+z.cells.size
def VV(w w':World)(L1:Loc)(b a:Value):Prop:=
 match L1 with
 |.val _=>a=b
 |.addr c=>ZQ w w' c a
def xn(w':World)(z:Value):Loc->Value->Prop
 |.val _,b=>b=z
 |.addr a,b=>At w' a b
def Kr{l y:List Value}{k sz n:Nat}(hl:k+sz<=l.length)(g:y.length=sz){cs':List Value}(a:cs'.length=l.length)
 (f:∀j,j<sz->cs'[k+j]?=y[j]?)(c:∀j,j<k\/k+sz<=j->cs'[j]?=l[j]?):cs'=l.take k++y++l.drop (k+sz):=by
 apply aeK;intro j;by_cases b:j<k
 ·rw[c j<|.inl b,abG,acn<|by simp;omega,ac8 b]
 by_cases d:j<k+sz
 ·have e:j=k+(j-k):=E;rw[e,f (j-k) E,abG,acu<|by simp;omega,acn<|by simp;omega]
  congr 1
  simp;omega
 rw[c j<|.inr E,acu<|by simp;omega];simp
 congr 1
 omega
def Rel.iI:∀(p:Path){x x' y y':AV}{z:Value}{F:List Nat}{L:Loc},Rel w S x z F->holds w L z->bp x p=some y->eJ x p y'=some x'->
 F.Nodup->(∀b∈F,¬S b)->(∀b,L.jS=some b->¬S b/\b∉F)->
 ∃L1 z1 A F1 B,loc w L p=some L1/\holds w L1 z1/\Rel w S y z1 F1/\F=A++F1++B/\Xx L z A L1 z1/\
  ∀(w':World)(S':Nat->Prop)(J:Value)(H:List Nat),(∀b,S b->S' b)->J.cells.size=z1.cells.size->(z1.oneCell'=true->J.oneCell'=true)->
   (∀b,(S b\/b∈A\/b∈B\/L.jS=some b)->L1.jS≠some b->w'.heap[b]?=w.heap[b]?)->VV w w' L1 z1 J->Rel w' S' y' J H->
   ∃Q,Rel w' S' x' Q (A++H++B)/\Q.cells.size=z.cells.size/\(z.oneCell'=true->Q.oneCell'=true)/\xn w' z L Q
 |[],x,x',y,y',z,F,L,h,hL,hg,hs,_,_,_=>by
  simp only[bp,eJ,aaw]at hg hs;subst hg hs;refine⟨L,z,[],F,[],W,hL,h,I,?_,λw' S' J H hS hz h1 m ht hr=>⟨J,by simpa using hr,hz,h1,?_⟩⟩
  ·cases L with
   |val q=>trivial
   |addr a=>exact .inr ⟨a,W,W,abq _,abq _⟩
  cases L with
  |val q=>exact ht
  |addr a=>obtain⟨D,cs,fz,M,hc⟩:=hL;obtain⟨t,e1,e2,e3,e4⟩:=ht cs fz M;exact⟨D,t,fz,e1,e3⟩
 |s::p,x,x',y,y',z,F,L,h,hL,hg,hs,hN,Y,X=>by
  unfold bp at hg;split at hg
  ·rename_i f sz xs i sz';split at hg
   ·rename_i M2;subst M2;cases f with
    |nil=>simp[eJ]at hs
    |shr=>simp[eJ]at hs
    |own=>
     obtain⟨xi,G2,hg⟩:=abr.1 hg;simp only[eJ,G2,if_true,acv,acW]at hs;obtain⟨S0,hs,rfl⟩:=hs;simp only[Rel]at h;rcases h with⟨rfl,-,-⟩|⟨b,cap,cs,F',rfl,hr,hc,hm,S1,hE,rfl⟩
     ·simp at G2
     obtain⟨yi,A0,Fx,B0,rfl,hy,hR,V0,hle,F4⟩:=c7.lens sz i hE G2;have hA:At w ⟨b,i*sz,none⟩ yi:=iu hr λj u hu=>by
      have:=V0 j u hu;rw[acE]at this;split at this
      ·simpa using this
      simp at this
     have hxl:i<xs.length:=(acU.1 G2).1;have hEl:=c7.length sz hE;simp only[abH,acf]at hEl hle;have V:=acb.1 hN;simp only[abJ,not_or]at V;have G4:Fx.Nodup:=by have:=V.2;rw[abC,abC]at this;exact this.1.2.1
     obtain⟨L1,z1,A,F1,B,k1,k2,k3,rfl,k5,k6⟩:=Rel.iI p (L:=.addr ⟨b,i*sz,none⟩) hR hA hg hs G4
      (λc g=>Y c<|by simp[g]) (λc g=>by simp[Loc.jS]at g;subst g;exact⟨Y _ I,V.1.1.2⟩)
     refine⟨L1,z1,b::(A0++A),F1,B++B0,?_,k2,k3,I,?_,λw' S' J H hS hz h1 m ht E2=>?_⟩
     ·rw[loc,cN hL W I,cm,cj W];simpa using k1
     ·cases L1 with
      |val q=>trivial
      |addr v=>
       rcases k5 with k5|⟨a,N,k5,_⟩
       ·exact .inl (by simp[k5])
       cases N;exact .inl (by simp[k5])
     have G3:∀c,(S c\/c∈A\/c∈B\/Loc.jS (.addr ⟨b,i*sz,none⟩)=some c)->L1.jS≠some c->w'.heap[c]?=w.heap[c]?:=λc g F0=>m c (by rcases g with h|h|h|h<;>simp[Loc.jS]at h⊢ <;>simp[h]) F0
     obtain⟨Q,j1,j2,j3,j4⟩:=k6 w' S' J H hS hz h1 G3 ht E2;have H2:∃t,row? w' b=some (t,(0,0))/\t.size=cs.size/\∀k,k<i*sz\/i*sz+sz<=k->t[k]?=cs[k]?:=by
      by_cases K:L1.jS=some b
      ·cases L1 with
       |val q=>simp[Loc.jS]at K
       |addr v=>
        simp only[Loc.jS,aaw]at K;rcases k5 with k5|⟨a,N,k5,k7,k8⟩
        ·exact absurd (K▸k5) λhmem=>V.1.1.2<|by simp[hmem]
        cases N;obtain⟨t,e1,e2,e3,e4⟩:=ht cs (0,0) (by rw[K];exact hr);refine⟨t,by rw[<-K];exact e1,e2,λk hk=>e4 k ?_⟩;simp only at k7 k8;rw[hy]at k8;rw[hz];omega
      exact⟨cs,(mG<|m b I K).trans hr,W,λ_ _=>rfl⟩
     obtain⟨t,r1,r2,r3⟩:=H2;have L0:At w' ⟨b,i*sz,none⟩ Q:=j4;obtain⟨-,P,Z,rx,T⟩:=L0;simp only at rx T;rw[r1]at rx;obtain⟨rfl,rfl⟩:t=P/\(0,0)=Z:=by simpa using rx
     have hEl':=F4 w' S' S0 Q (A++H++B) hS (by rw[j2,hy]) (λc g=>m c (by
      rcases g with h|h|h
      ·exact .inl h
      ·exact .inr<|.inl<|by simp[h]
      exact .inr<|.inr<|.inl<|by simp[h]) (λl=>by
      cases L1 with
      |val q=>simp[Loc.jS]at l
      |addr v=>
       simp only[Loc.jS,aaw]at l;have S4:c∈b::A:=by
        rcases k5 with k5|⟨a,N,k5,_⟩
        ·simp[<-l,k5]
        cases N;simp only at k5;simp[<-l,k5]
       rcases g with h|h|h
       ·refine(Y c ?_) h;rcases abz.1 S4 with e|e<;>simp[e]
       ·rcases abz.1 S4 with e|e
        ·subst e;exact V.1.1.1 h
        have:=V.2;rw[abC,abC]at this;exact this.1.2.2 c h c (by simp[e]) W
       rcases abz.1 S4 with e|e
       ·subst e;exact V.1.2 h
       have:=V.2;rw[abC]at this;exact this.2.2 c (by simp[e]) c h W)) j1
     refine⟨_,?_,W,λh=>h,?_⟩
     ·simp only[Rel];refine .inr ⟨b,cap,t,A0++(A++H++B)++B0,by rw[acO],r1,by rw[acO];exact hc,hm,by rw[r2];exact S1,?_,I⟩;rw[acO];have e:t.toList.take (xs.length*sz)=(cs.toList.take<|xs.length*sz).take (i*sz)++Q.cells.toList++(cs.toList.take<|xs.length*sz).drop (i*sz+sz):=by
       refine Kr (n:=0) (by simp;omega) (by simp[j2,hy]) (by simp[r2]) (λj hj=>?_) (λj hj=>?_)
       ·rw[ac8 E];have hj':j<Q.cells.size:=by rw[j2,hy];exact hj
        have:=T j Q.cells[j] (by simp[hj']);simp only[acS];rw[this];simp[hj']
       simp only[acE,acS];split
       ·exact r3 j hj
       rfl
      rw[e];exact hEl'
     cases L with
     |val q=>rfl
     |addr a=>
      obtain⟨D,E1,O,M,F2⟩:=hL;have K2:a.block∉b::(A0++(A++F1++B)++B0):=(X a.block W).2;refine⟨D,E1,O,(mG<|m a.block (by simp[Loc.jS]) λl=>?_).trans M,F2⟩;cases L1 with
      |val q=>simp[Loc.jS]at l
      |addr v=>
       simp only[Loc.jS,aaw]at l;rcases k5 with k5|⟨a',N,k5,_⟩
       ·exact K2 (by simp[<-l,k5])
       cases N;simp only at k5;exact K2 (by simp[<-l,k5])
   simp at hg
  ·rename_i own x0;cases own with
   |false=>simp[eJ]at hs
   |true=>
    simp only[eJ,acW]at hs;obtain⟨x0',hs,rfl⟩:=hs;simp only[Rel,if_true]at h;obtain⟨b,cs,fz,F',z0,rfl,hr,hR,W1,rfl,rfl⟩:=h;have hA:At w ⟨b,0,none⟩ z0:=iu hr λj u hu=>by subst W1;simpa using hu
    have V:=acb.1 hN;obtain⟨L1,z1,A,F1,B,k1,k2,k3,rfl,k5,k6⟩:=Rel.iI p (L:=.addr ⟨b,0,none⟩) hR hA hg hs V.2
     (λc g=>Y c<|by simp[g]) (λc g=>by simp[Loc.jS]at g;subst g;exact⟨Y _ I,V.1⟩)
    refine⟨L1,z1,b::A,F1,B,?_,k2,k3,I,?_,λw' S' J H hS hz h1 m ht E2=>?_⟩
    ·rw[loc,cN hL W I,cm];simpa using k1
    ·cases L1 with
     |val q=>trivial
     |addr v=>
      rcases k5 with k5|⟨a,N,k5,_⟩
      ·exact .inl (by simp[k5])
      cases N;exact .inl (by simp[k5])
    have G3:∀c,(S c\/c∈A\/c∈B\/Loc.jS (.addr ⟨b,0,none⟩)=some c)->L1.jS≠some c->w'.heap[c]?=w.heap[c]?:=λc g F0=>m c (by rcases g with h|h|h|h<;>simp[Loc.jS]at h⊢ <;>simp[h]) F0
    obtain⟨Q,j1,j2,j3,j4⟩:=k6 w' S' J H hS hz h1 G3 ht E2;have H2:∃t,row? w' b=some (t,(0,0))/\t.size=cs.size:=by
     by_cases K:L1.jS=some b
     ·cases L1 with
      |val q=>simp[Loc.jS]at K
      |addr v=>simp only[Loc.jS,aaw]at K;obtain⟨t,e1,e2,e3,e4⟩:=ht cs (0,0) (by rw[K];exact hr);exact⟨t,by rw[<-K];exact e1,e2⟩
     exact⟨cs,(mG<|m b I K).trans hr,W⟩
    obtain⟨t,r1,r2⟩:=H2;have L0:At w' ⟨b,0,none⟩ Q:=j4;obtain⟨-,P,Z,rx,T⟩:=L0;simp only at rx T;rw[r1]at rx;obtain⟨rfl,rfl⟩:t=P/\(0,0)=Z:=by simpa using rx
    refine⟨_,?_,W,λh=>h,?_⟩
    ·simp only[Rel,if_true];refine⟨b,t,(0,0),A++H++B,Q,W,r1,j1,?_,W,I⟩;apply afi;intro j;by_cases hj:j<Q.cells.size
     ·have:=T j Q.cells[j] (by simp[hj]);simp only[ac9]at this;rw[this];simp[hj]
     have S2:¬j<t.size:=by rw[r2,<-W1,<-j2];exact hj
     simp[hj,S2]
    cases L with
    |val q=>rfl
    |addr a=>
     obtain⟨D,E1,O,M,F2⟩:=hL;have K2:a.block∉b::(A++F1++B):=(X a.block W).2;refine⟨D,E1,O,(mG<|m a.block (by simp[Loc.jS]) λl=>?_).trans M,F2⟩;cases L1 with
     |val q=>simp[Loc.jS]at l
     |addr v=>
      simp only[Loc.jS,aaw]at l;rcases k5 with k5|⟨a',N,k5,_⟩
      ·exact K2 (by simp[<-l,k5])
      cases N;simp only at k5;exact K2 (by simp[<-l,k5])
  ·rename_i xs o;obtain⟨xo,X2,hg⟩:=abr.1 hg;simp only[eJ,X2,acv,acW]at hs;obtain⟨xo',hs,rfl⟩:=hs;simp only[Rel]at h;obtain⟨cs,rfl,hC⟩:=h;obtain⟨y0,A0,Fx,B0,rfl,h1,hR,hl,F4⟩:=Cells.lens o hC X2;have h1':=cD<|h1 W;have H1:cs[o]?=some y0:=by simpa using hl
   have R:∃L',step1 w L (.at o none)=some L'/\holds w L' y0/\L'.jS=L.jS/\(∀a,L=.addr a->L'=.addr ⟨a.block,a.off+o,none⟩)/\∀q,L=.val q->L'=.val y0:=by
    cases L with
    |val q=>simp only[holds]at hL;subst hL;exact⟨.val y0,by simp only[step1,cm];simp[H1],W,W,I,I⟩
    |addr a=>
     obtain⟨D,t,fz,hr,hc⟩:=hL;refine⟨_,W,?_,by rw[cj D];rfl,λa' N=>by cases N;rw[cj D],I⟩;rw[cj D];refine iu hr λj u hu=>?_;rw[h1']at hu
     match j,hu with
     |0,hu=>simp at hu;subst hu;simpa[bu]using hc o y0 (by simpa[bu]using H1)
   obtain⟨L',e1,e2,e3,e4,e5⟩:=R;have G4:Fx.Nodup:=by rw[abC,abC]at hN;exact hN.1.2.1
   obtain⟨L1,z1,A,F1,B,k1,k2,k3,rfl,k5,k6⟩:=Rel.iI p hR e2 hg hs G4 (λc g=>Y c<|by simp[g])
    (λc g=>by rw[e3]at g;exact⟨(X c g).1,λhm=>(X c g).2<|by simp[hm]⟩)
   have hW:∀v,L1=.addr v->v.block∈A\/∃a,L=.addr a/\v.block=a.block/\a.off+o<=v.off/\v.off+z1.cells.size<=a.off+o+1:=by
    intro v K0;subst K0;rcases k5 with k5|⟨a',N,g1,g2,g3⟩
    ·exact .inl k5
    cases C:L with
    |val q=>rw[e5 q C]at N;cases N
    |addr a=>rw[e4 a C]at N;cases N;exact .inr ⟨a,W,g1,g2,by rw[h1']at g3;simpa using g3⟩
   refine⟨L1,z1,A0++A,F1,B++B0,by rw[loc,e1];exact k1,k2,k3,I,?_,λw' S' J H hS hz M1 m ht E2=>?_⟩
   ·cases r:L1 with
    |val q=>trivial
    |addr v=>
     rcases hW v r with k|⟨a,g1,g2,g3,g4⟩
     ·exact .inl (by simp[k])
     refine .inr ⟨a,g1,g2,E,?_⟩;have:o<cs.size:=(acA.1 H1).1;rw[bu];omega
   obtain⟨Q,j1,j2,j3,j4⟩:=k6 w' S' J H hS hz M1 (λc g F0=>m c (by
    rcases g with h|h|h|h
    ·exact .inl h
    ·exact .inr (.inl<|by simp[h])
    ·exact .inr<|.inr<|.inl<|by simp[h]
    exact .inr<|.inr<|.inr<|by rw[e3]at h;exact h) F0) ht E2
   have F3:=F4 w' S' xo' Q (A++H++B) hS (λ_=>j3<|h1 W) (λc g=>m c (by
    rcases g with h|h|h
    ·exact .inl h
    ·exact .inr<|.inl<|by simp[h]
    exact .inr<|.inr<|.inl<|by simp[h]) (λl=>by
    cases r:L1 with
    |val q=>rw[r]at l;simp[Loc.jS]at l
    |addr v=>
     rw[r]at l;simp only[Loc.jS,aaw]at l;rcases hW v r with k|⟨a,g1,g2,-⟩
     ·rw[l]at k;rcases g with h|h|h
      ·exact Y c (by simp[k]) h
      ·rw[abC,abC]at hN;exact hN.1.2.2 c h c (by simp[k]) W
      rw[abC]at hN;exact hN.2.2 c (by simp[k]) c h W
     have:=X c (by rw[g1,<-l,g2];rfl);rcases g with h|h|h
     ·exact this.1 h
     ·exact this.2 (by simp[h])
     exact this.2<|by simp[h])) j1
   refine⟨.agg<|cs.setIfInBounds o Q,?_,by simp[bu],λh=>by simp[Value.oneCell']at h,?_⟩
   ·simp only[Rel];exact⟨_,W,by simpa using F3⟩
   cases C:L with
   |val q=>
    rw[e5 q C]at j4;simp only[xn]at j4⊢;subst j4
    congr 1
    apply afi;intro j;rw[Array.getElem?_setIfInBounds];split
    ·rename_i hj;subst hj;split
     ·exact H1.symm
     rename_i hh;rw[adW E]
    rfl
   |addr a=>
    rw[e4 a C]at j4;rw[C]at hL m;obtain⟨D,E1,O,M,F2⟩:=hL;obtain⟨-,P,Z,rx,T⟩:=j4;simp only at rx T;have hz1:=cD<|j3<|h1 W;refine⟨D,P,Z,rx,λj u hu=>?_⟩;rw[bu,Array.getElem?_setIfInBounds]at hu;split at hu
    ·rename_i hj;subst hj;split at hu
     ·simp only[aaw]at hu;subst hu;have:=T 0 Q (by rw[hz1];rfl);simpa using this
     simp at hu
    rename_i hj;have G1:=F2 j u (by rw[bu];exact hu);by_cases K:L1.jS=some a.block
    ·cases r:L1 with
     |val q=>rw[r]at K;simp[Loc.jS]at K
     |addr v=>
      rw[r]at K ht;simp only[Loc.jS,aaw]at K;rcases hW v r with k|⟨a',g1,g2,g3,g4⟩
      ·exact absurd (by simp[K▸k])<|(X a.block<|by rw[C];rfl).2
      rw[C]at g1;cases g1;obtain⟨t,q1,q2,q3,q4⟩:=ht E1 O (by rw[K];exact M);rw[K,rx]at q1;obtain⟨rfl,rfl⟩:P=t/\Z=O:=by simpa using q1
      rw[q4 _<|by rw[hz];omega];exact G1
    have:=mG<|m a.block (by simp[Loc.jS]) K;rw[rx,M]at this;obtain⟨rfl,rfl⟩:P=E1/\Z=O:=by simpa using this
    exact G1
  ·rename_i xs o n;split at hg
   ·rename_i hon;simp only[eJ,hon,if_true,abr]at hs;obtain⟨xs',hs,G6⟩:=hs;simp only[Rel]at h;obtain⟨cs,rfl,hC⟩:=h;obtain⟨A0,d,rfl,c1,c2⟩:=Cells.split o hC;obtain⟨Fx,B0,rfl,d1,d2⟩:=Cells.split n c2;rw[ady,ady]at d2;have hlen:=Cells.length hC;have hlen':cs.size=xs.length:=by simpa using hlen
    have hR:Rel w S (.agg<|(xs.drop o).take n) (.agg<|cs.extract o<|o+n) Fx:=by simp only[Rel];refine⟨_,W,?_⟩;have:(cs.extract o<|o+n).toList=(cs.toList.drop o).take n:=I;rw[this];exact d1
    have M2:(Value.agg<|cs.extract o<|o+n).cells.size=n:=by rw[bu];simp;omega
    have R:∃L',step1 w L (.at o<|some n)=some L'/\holds w L' (.agg<|cs.extract o<|o+n)/\L'.jS=L.jS/\(∀a,L=.addr a->L'=.addr ⟨a.block,a.off+o,none⟩)/\
     ∀q,L=.val q->L'=.val (.agg<|cs.extract o<|o+n):=by
     cases L with
     |val q=>simp only[holds]at hL;subst hL;exact⟨_,W,W,W,I,I⟩
     |addr a=>
      obtain⟨D,t,fz,hr,hc⟩:=hL;refine⟨_,W,?_,by rw[cj D];rfl,λa' N=>by cases N;rw[cj D],I⟩;rw[cj D];refine iu hr λj u hu=>?_;rw[bu,afh]at hu;split at hu
      ·have:=hc (o+j) u (by rw[bu];exact hu);simpa[acV]using this
      simp at hu
    obtain⟨L',e1,e2,e3,e4,e5⟩:=R;have G4:Fx.Nodup:=by rw[abC,abC]at hN;exact hN.2.1.1
    obtain⟨L1,z1,A,F1,B,k1,k2,k3,rfl,k5,k6⟩:=Rel.iI p hR e2 hg hs G4 (λc g=>Y c<|by simp[g])
     (λc g=>by rw[e3]at g;exact⟨(X c g).1,λhm=>(X c g).2<|by simp[hm]⟩)
    have hW:∀v,L1=.addr v->v.block∈A\/∃a,L=.addr a/\v.block=a.block/\a.off+o<=v.off/\v.off+z1.cells.size<=a.off+o+n:=by
     intro v K0;subst K0;rcases k5 with k5|⟨a',N,g1,g2,g3⟩
     ·exact .inl k5
     cases C:L with
     |val q=>rw[e5 q C]at N;cases N
     |addr a=>rw[e4 a C]at N;cases N;exact .inr ⟨a,W,g1,g2,by rw[M2]at g3;exact g3⟩
    refine⟨L1,z1,A0++A,F1,B++B0,by rw[loc,e1];exact k1,k2,k3,I,?_,λw' S' J H hS hz M1 m ht E2=>?_⟩
    ·cases r:L1 with
     |val q=>trivial
     |addr v=>
      rcases hW v r with k|⟨a,g1,g2,g3,g4⟩
      ·exact .inl (by simp[k])
      refine .inr ⟨a,g1,g2,E,?_⟩;rw[bu];omega
    obtain⟨Q,j1,j2,j3,j4⟩:=k6 w' S' J H hS hz M1 (λc g F0=>m c (by
     rcases g with h|h|h|h
     ·exact .inl h
     ·exact .inr (.inl<|by simp[h])
     ·exact .inr<|.inr<|.inl<|by simp[h]
     exact .inr<|.inr<|.inr<|by rw[e3]at h;exact h) F0) ht E2
    split at G6
    ·rename_i ys;split at G6
     ·rename_i hys;simp only[aaw]at G6;subst G6;simp only[Rel]at j1;obtain⟨V2,rfl,hC1⟩:=j1;have P1:V2.size=n:=by rw[M2,bu]at j2;exact j2
      have G5:∀c,(S c\/c∈A0\/c∈B0)->w'.heap[c]?=w.heap[c]?:=λc g=>m c (by
       rcases g with h|h|h
       ·exact .inl h
       ·exact .inr<|.inl<|by simp[h]
       exact .inr<|.inr<|.inl<|by simp[h]) (λl=>by
       cases r:L1 with
       |val q=>rw[r]at l;simp[Loc.jS]at l
       |addr v=>
        rw[r]at l;simp only[Loc.jS,aaw]at l;rcases hW v r with k|⟨a,g1,g2,-⟩
        ·rw[l]at k;rcases g with h|h|h
         ·exact Y c (by simp[k]) h
         ·rw[abC]at hN;exact hN.2.2 c h c (by simp[k]) W
         rw[abC,abC]at hN;exact hN.2.1.2.2 c (by simp[k]) c h W
        have:=X c (by rw[g1,<-l,g2];rfl);rcases g with h|h|h
        ·exact this.1 h
        ·exact this.2 (by simp[h])
        exact this.2<|by simp[h])
      have hall:Cells w' S' true (xs.take o++ys++xs.drop (o+n)) (cs.toList.take o++V2.toList++cs.toList.drop (o+n)) (A0++(A++H++B)++B0):=
       Cells.append (Cells.append (Cells.mono hS _<|Cells.frame _ c1 λc g=>G5 c<|g.imp id .inl) hC1)
        (Cells.mono hS _<|Cells.frame _ d2 λc g=>G5 c<|g.imp id .inr)
      refine⟨.agg (cs.toList.take o++V2.toList++cs.toList.drop (o+n)).toArray,?_,?_,λh=>by simp[Value.oneCell']at h,?_⟩
      ·simp only[Rel];exact⟨_,W,by simpa using hall⟩
      ·rw[bu,bu];simp;omega
      cases C:L with
      |val q=>
       rw[e5 q C]at j4;simp only[xn,Value.agg.injEq]at j4⊢;subst j4;apply afi;intro j;simp only[afj];by_cases hj:j<o
       ·rw[abG,acn<|by simp;omega,ac8 hj];simp
       by_cases S2:j<o+n
       ·rw[abG,acu<|by simp;omega,acn<|by simp;omega];simp only[acS,afh,abH,acf];rw[if_pos E]
        congr 1;omega
       rw[acu<|by simp;omega];simp only[ada,acS,abE,abH,acf,P1]
       congr 1;omega
      |addr a=>
       rw[e4 a C]at j4;rw[C]at hL m;obtain⟨D,E1,O,M,F2⟩:=hL;obtain⟨-,P,Z,rx,T⟩:=j4;simp only at rx T;refine⟨D,P,Z,rx,λj u hu=>?_⟩;rw[bu]at hu;simp only[afj]at hu;have P0:∀j u,(j<o\/o+n<=j)->cs[j]?=some u->P[a.off+j]?=some u:=by
        intro j u hj hu;have G1:=F2 j u (by rw[bu];exact hu);by_cases K:L1.jS=some a.block
        ·cases r:L1 with
         |val q=>rw[r]at K;simp[Loc.jS]at K
         |addr v=>
          rw[r]at K ht;simp only[Loc.jS,aaw]at K;rcases hW v r with k|⟨a',g1,g2,g3,g4⟩
          ·exact absurd (by simp[K▸k])<|(X a.block<|by rw[C];rfl).2
          rw[C]at g1;cases g1;obtain⟨t,q1,q2,q3,q4⟩:=ht E1 O (by rw[K];exact M);rw[K,rx]at q1;obtain⟨rfl,rfl⟩:P=t/\Z=O:=by simpa using q1
          rw[q4 _<|by rw[hz];omega];exact G1
        have:=mG<|m a.block (by simp[Loc.jS]) K;rw[rx,M]at this;obtain⟨rfl,rfl⟩:P=E1/\Z=O:=by simpa using this
        exact G1
       by_cases hj:j<o
       ·rw[abG,acn<|by simp;omega,ac8 hj]at hu;exact P0 j u (.inl hj) (by simpa using hu)
       by_cases S2:j<o+n
       ·rw[abG,acu<|by simp;omega,acn<|by simp;omega]at hu;simp only[acS,abH,acf]at hu;have:=T (j-min o cs.size) u (by rw[bu];exact hu);rw[<-this];congr 1;omega
       rw[acu<|by simp;omega]at hu;simp only[ada,acS,abE,abH,acf,P1]at hu;refine P0 j u (.inr E) ?_;rw[<-hu];congr 1;omega
     simp at G6
    simp at G6
   simp at hg
  ·rename_i xs i;obtain⟨xi,G2,hg⟩:=abr.1 hg;simp only[eJ,G2,acv,acW]at hs;obtain⟨S0,hs,rfl⟩:=hs;simp only[Rel]at h;obtain⟨cs,rfl,hC⟩:=h;obtain⟨y0,A0,Fx,B0,rfl,-,hR,hl,F4⟩:=Cells.lens i hC G2;have H1:cs[i]?=some y0:=by simpa using hl
   have R:step1 w L (.bW i)=some (.val y0):=by rw[cN hL W I];simp[cm,H1]
   have G4:Fx.Nodup:=by rw[abC,abC]at hN;exact hN.1.2.1
   obtain⟨L1,z1,A,F1,B,k1,k2,k3,rfl,k5,k6⟩:=Rel.iI p (L:=.val y0) hR W hg hs G4 (λc g=>Y c<|by simp[g]) (by simp[Loc.jS]);have hW:∀v,L1=.addr v->v.block∈A:=by
    intro v K0;subst K0;rcases k5 with k5|⟨a',N,_⟩
    ·exact k5
    cases N
   refine⟨L1,z1,A0++A,F1,B++B0,by rw[loc,R];exact k1,k2,k3,I,?_,λw' S' J H hS hz M1 m ht E2=>?_⟩
   ·cases r:L1 with
    |val q=>trivial
    |addr v=>exact .inl (by simp[hW v r])
   obtain⟨Q,j1,j2,j3,j4⟩:=k6 w' S' J H hS hz M1 (λc g F0=>m c (by
    rcases g with h|h|h|h
    ·exact .inl h
    ·exact .inr (.inl<|by simp[h])
    ·exact .inr<|.inr<|.inl<|by simp[h]
    simp[Loc.jS]at h) F0) ht E2
   simp only[xn]at j4;subst j4;have F3:=F4 w' S' S0 Q (A++H++B) hS I (λc g=>m c (by
    rcases g with h|h|h
    ·exact .inl h
    ·exact .inr<|.inl<|by simp[h]
    exact .inr<|.inr<|.inl<|by simp[h]) (λl=>by
    cases r:L1 with
    |val q=>rw[r]at l;simp[Loc.jS]at l
    |addr v=>
     rw[r]at l;simp only[Loc.jS,aaw]at l;have k:=hW v r;rw[l]at k;rcases g with h|h|h
     ·exact Y c (by simp[k]) h
     ·rw[abC,abC]at hN;exact hN.1.2.2 c h c (by simp[k]) W
     rw[abC]at hN;exact hN.2.2 c (by simp[k]) c h W)) j1
   refine⟨.tuple cs,?_,W,λh=>h,?_⟩
   ·simp only[Rel];refine⟨cs,W,?_⟩;have:cs.toList.set i Q=cs.toList:=by
     apply aeK;intro j;rw[adL];split
     ·rename_i hj;subst hj;split
      ·exact hl.symm
      rename_i hh;rw[aci E]
     rfl
    rw[this]at F3;simpa using F3
   cases C:L with
   |val q=>rfl
   |addr a=>
    rw[C]at hL m;obtain⟨D,E1,O,M,F2⟩:=hL;refine⟨D,E1,O,(mG<|m a.block (by simp[Loc.jS]) λl=>?_).trans M,F2⟩;cases r:L1 with
    |val q=>rw[r]at l;simp[Loc.jS]at l
    |addr v=>rw[r]at l;simp only[Loc.jS,aaw]at l;have k:=hW v r;rw[l]at k;exact(X a.block<|by rw[C];rfl).2 (by simp[k])
  ·rename_i f sz xs sz' o n;cases f<;>simp[eJ]at hs
  simp at hg
end
section
variable{F:List Nat}{i:Nat}{S:Nat->Prop}{T:Nat->Value}{p:Path}{α:Type}{w w':World}
structure Sl where
 av:AV
 g1:Nat
 g2:Nat
instance:Inhabited Sl:=⟨⟨.dead,0,0⟩⟩
abbrev St:=Nat->Sl
def iI(f:Nat->α)(i:Nat)(x:α):Nat->α:=λj=>if j=i then x else f j
def aH(f:Nat->α)(i:Nat)(x:α):iI f i x i=x:=by simp[iI]
def ao(f:Nat->α){j:Nat}(x:α)(h:j≠i):iI f i x j=f j:=by simp[iI,h]
def flat:Path->Bool
 |[]=>false
 |_::p=>p.all λ|.at .. =>true|_=>false
def kh:Path->Bool
 |[]=>true
 |[.lZ ..]=>true
 |[.bW _]=>true
 |_=>false
def NP:Path->Bool
 |[]=>true
 |[.bW _]=>true
 |_=>false
def Fu{q:Prop}(h:NP p=true\/q):kh p=true\/q:=h.imp (λh=>by
 unfold NP at h;split at h
 ·rfl
 ·rfl
 cases h) id
def ED(h:kh p=true)(z:Value):loc w (.val z) p=loc w' (.val z) p:=by
 unfold kh at h;split at h
 ·rfl
 ·simp[loc,step1]
 ·simp[loc,step1]
 cases h
def EE(h:kh p=true){z:Value}{L:Loc}(hl:loc w (.val z) p=some L):∃u,L=.val u:=by
 unfold kh at h;split at h
 ·simp[loc]at hl;exact⟨z,hl.symm⟩
 ·simp[loc,step1]at hl;cases z<;>simp[cm]at hl;rename_i a n c;cases a<;>simp at hl;exact⟨_,hl.symm⟩
 ·simp[loc,step1]at hl;cases z<;>simp[cm]at hl;obtain⟨u,-,hu⟩:=hl;exact⟨_,hu.symm⟩
 cases h
def Gl{w w':World}:∀(p:Path)(a:Addr),(p.all λ|.at .. =>true|_=>false)=true->loc w (.addr a) p=loc w' (.addr a) p
 |[],a,_=>rfl
 |.at o n::p,a,h=>by exact Gl p _ h
 |.idx .. ::p,a,h=>by cases h
 |.deref::p,a,h=>by cases h
 |.bW .. ::p,a,h=>by cases h
 |.lZ .. ::p,a,h=>by cases h
def zC{w w':World}:∀(p:Path)(z:Value),(p.all λ|.at .. =>true|_=>false)=true->loc w (.val z) p=loc w' (.val z) p
 |[],z,_=>rfl
 |.at o n::p,z,h=>by
  simp[loc,step1];have b:=h;cases hh:cm z (.at o n)with
  |none=>rfl
  |some L=>
   cases L with
   |val y=>exact zC p y b
   |addr a=>exact Gl p a b
 |.idx .. ::p,a,h=>by cases h
 |.deref::p,a,h=>by cases h
 |.bW .. ::p,a,h=>by cases h
 |.lZ .. ::p,a,h=>by cases h
def IB(h:flat p=true)(z:Value):loc w (.val z) p=loc w' (.val z) p:=by
 cases p with
 |nil=>rfl
 |cons s p=>
  simp[loc,step1];cases hh:cm z s with
  |none=>rfl
  |some L=>
   cases L with
   |val y=>exact zC p y h
   |addr a=>exact Gl p a h
def an(w:World)(S:Nat->Prop)(σ:St)(T:Nat->Value)(i:Nat)(F:List Nat):Prop:=
 match(σ i).av with
 |.bC r g1 g2 p=>F=[]/\g1<=(σ r).g1/\g2<=(σ r).g2/\((σ r).g1=g1->(kh p=true\/(σ r).g2=g2)->(kh p=false->∃y,bp (σ r).av p=some y)->
   ∃L,loc w (.val<|T r) p=some L/\holds w L (T i)/\∀c,L=.addr c->(T i).oneCell'=true)
 |.ptr r g1 g2 p=>F=[]/\g1<=(σ r).g1/\g2<=(σ r).g2/\(∃c,T i=.pointer (some c))/\((σ r).g1=g1->(flat p=true\/(σ r).g2=g2)->(flat p=false->∃y,bp (σ r).av p=some y)->
   ∃c,loc w (.val<|T r) p=some (.addr c)/\T i=.pointer (some c))
 |.abs J=>∀w' d,(∀b,S b\/b∈F->w'.heap[b]?=w.heap[b]?)->(∀b,S b->d b)->J w' d F
 |.fS g a=>F=[]/\(∀q∈a,q.2<=(σ q.1).g1)/\((∀q∈a,(σ q.1).g1=q.2)->T i=.func (.func g) #[] (a.map λq=>T q.1).toArray)
 |av=>Rel w S av (T i) F
def AV.plain:AV->Bool
 |.bC .. |.ptr .. |.abs .. |.fS .. =>false
 |_=>true
def an.aA{σ:St}(a:(σ i).av.plain=true):an w S σ T i F↔Rel w S (σ i).av (T i) F:=by
 unfold an;split
 ·rename_i h;rw[h]at a;simp[AV.plain]at a
 ·rename_i h;rw[h]at a;simp[AV.plain]at a
 ·rename_i h;rw[h]at a;simp[AV.plain]at a
 ·rename_i h;rw[h]at a;simp[AV.plain]at a
 rfl
def Rel.plain{av:AV}{y:Value}(h:Rel w S av y F):av.plain=true:=by cases av<;>simp_all[Rel,AV.plain]
structure aT(S:Nat->Prop)(B:Nat->Prop)(σ:St)(T:Nat->Value)(w:World)(F:Nat->List Nat):Prop where
 rel:∀i,an w S σ T i<|F i
 nodup:∀i,(F i).Nodup
 du:∀i j,i≠j->∀b∈F i,b∉F j
 own:∀i,∀b∈F i,B b/\b<w.heap.size/\¬S b
 shr:∀b,S b->b<w.heap.size
structure YX(S:Nat->Prop)(σ σ':St)(T T':Nat->Value)(w w':World)(F:Nat->List Nat):Prop where
 g1:∀r,(σ r).g1<=(σ' r).g1
 g2:∀r,(σ r).g2<=(σ' r).g2
 val:∀r,(σ' r).g1=(σ r).g1->T' r=T r
 ins:∀r,(σ' r).g1=(σ r).g1->(σ' r).g2=(σ r).g2->(∀p y,bp (σ' r).av p=some y->∃y',bp (σ r).av p=some y')/\∀b,S b\/b∈F r->w'.heap[b]?=w.heap[b]?
def an.goes{S':Nat->Prop}{σ c:St}{T':Nat->Value}{F:Nat->List Nat}(hc:∀i,an w S σ T i<|F i)(a:YX S σ c T T' w w' F)
 (V:∀b,S b->S' b)(R:(c i).av=(σ i).av)(t:T' i=T i)(o:∀b,S b\/b∈F i->w'.heap[b]?=w.heap[b]?):an w' S' c T' i (F i):=by
 have h:=hc i;unfold an at h⊢;rw[R];split
 ·rename_i r g1 g2 p A;rw[A]at h;obtain⟨D,l,n,C⟩:=h;refine⟨D,abI l<|a.g1 r,abI n<|a.g2 r,λk1 k2 k3=>?_⟩;have v:(σ r).g1=g1:=aen (by have:=a.g1 r;omega) l;have d:(c r).g1=(σ r).g1:=E;by_cases e:kh p=true
  ·obtain⟨L,f,x,Z⟩:=C v (.inl e) (λh=>by rw[e]at h;cases h);obtain⟨u,rfl⟩:=EE e f;refine⟨_,by rw[a.val r d,<-ED (w:=w) e];exact f,?_,I⟩;simpa[holds,t]using x
  have O:(c r).g2=g2:=k2.resolve_left e;have X:(σ r).g2=g2:=aen (by have:=a.g2 r;omega) n;obtain⟨M,z⟩:=k3 (by simpa using e);obtain⟨Q,P⟩:=a.ins r d E;obtain⟨y,m⟩:=Q p M z;obtain⟨L,f,x,Z⟩:=C v (.inr X) λ_=>⟨y,m⟩;have H:=hc r;have j:(σ r).av.plain=true:=by
   cases p with
   |nil=>exact absurd W e
   |cons s p=>cases hh:(σ r).av<;>simp[AV.plain]<;>(rw[hh]at m;simp[bp]at m)
  rw[an.aA j]at H;obtain⟨L1,z1,F1,r1,r2,r3,r4,N⟩:=Rel.read p (L:=.val<|T r) H W m;rw[r1]at f;simp[aaw]at f;subst f;obtain⟨q1,q2⟩:=N w' (.val _) P;exact⟨L1,by rw[a.val r d];exact q1,by rw[t];exact x.same q2,by rw[t];exact Z⟩
 ·rename_i r g1 g2 p A;rw[A]at h;obtain⟨D,l,n,h5,C⟩:=h;refine⟨D,abI l<|a.g1 r,abI n<|a.g2 r,by rw[t];exact h5,λk1 k2 k3=>?_⟩;have v:(σ r).g1=g1:=aen (by have:=a.g1 r;omega) l;have d:(c r).g1=(σ r).g1:=E;by_cases e:flat p=true
  ·obtain⟨Y,f,x⟩:=C v (.inl e) (λh=>by rw[e]at h;cases h);exact⟨Y,by rw[a.val r d,<-IB (w:=w) e];exact f,by rw[t];exact x⟩
  have O:(c r).g2=g2:=k2.resolve_left e;have X:(σ r).g2=g2:=aen (by have:=a.g2 r;omega) n;obtain⟨M,z⟩:=k3 (by simpa using e);obtain⟨Q,P⟩:=a.ins r d E;obtain⟨y,m⟩:=Q p M z;obtain⟨Y,f,x⟩:=C v (.inr X) λ_=>⟨y,m⟩;have H:=hc r;cases p with
  |nil=>simp[loc]at f
  |cons s p=>
   have j:(σ r).av.plain=true:=by cases hh:(σ r).av<;>simp[AV.plain]<;>(rw[hh]at m;simp[bp]at m)
   rw[an.aA j]at H;obtain⟨L1,z1,F1,r1,r2,r3,r4,N⟩:=Rel.read (s::p) (L:=.val<|T r) H W m;rw[r1]at f;cases f;exact⟨Y,by rw[a.val r d];exact(N w' (.val _) P).1,by rw[t];exact x⟩
 ·rename_i J A;rw[A]at h;exactλw2 S2 k1 k2=>h w2 S2 (λb K=>(k1 b<|K.imp (V b) id).trans<|o b K) (λb K=>k2 b<|V b K)
 ·rename_i g k A;rw[A]at h;obtain⟨D,l,n⟩:=h;refine⟨D,λq B=>abI (l q B)<|a.g1 _,λk1=>?_⟩;have v:∀q∈k,(σ q.1).g1=q.2:=λq B=>aen (by have:=a.g1 q.1;rw[k1 q B]at this;exact this)<|l q B;rw[t,n v]
  congr 2
  exact acr λq B=>(a.val q.1<|by rw[k1 q B,v q B]).symm
 rename_i D l n C;have j:(σ i).av.plain=true:=by
  cases hh:(σ i).av with
  |bC r g1 g2 p=>exact absurd hh (D r g1 g2 p)
  |ptr r g1 g2 p=>exact absurd hh (l r g1 g2 p)
  |abs J=>exact absurd hh (n J)
  |fS g k=>exact absurd hh (C g k)
  |_=>rfl
 have h':=hc i;rw[an.aA j]at h';rw[t];exact Rel.mono V _<|Rel.frame _ h' o
end
section
variable{S S':Nat->Prop}{B:Nat->Prop}{σ:St}{T:Nat->Value}{w w':World}{F:Nat->List Nat}
section
variable{av' y y':AV}{ad:Addr}{i:Nat}{z:Value}
def aT.step(h:aT S B σ T w F){a:St}{T':Nat->Value}{F':Nat->List Nat}(f:YX S σ a T T' w w' F)(k:∀b,S b->S' b)
 (hs:∀i,((a i).av=(σ i).av/\T' i=T i/\F' i=F i/\∀b,S b\/b∈F i->w'.heap[b]?=w.heap[b]?)\/an w' S' a T' i (F' i))
 (hn:∀i,(F' i).Nodup)(g:∀i j,i≠j->∀b∈F' i,b∉F' j)(e:∀i,∀b∈F' i,B b/\b<w'.heap.size/\¬S' b)(c:∀b,S' b->b<w'.heap.size):
 aT S' B a T' w' F' where
 rel i:=by
  rcases hs i with⟨d,n,m,l⟩|d
  ·rw[m];exact an.goes h.rel f k d n l
  exact d
 nodup:=hn
 du:=g
 own:=e
 shr:=c
def aT.put(h:aT S B σ T w F)(d:Nat)(av:AV)(z:Value)(c:an w S (iI σ d ⟨av,(σ d).g1+1,(σ d).g2⟩) (iI T d z) d []):
 aT S B (iI σ d ⟨av,(σ d).g1+1,(σ d).g2⟩) (iI T d z) w (iI F d []):=by
 refine h.step (w':=w) (S':=S) ⟨λr=>?_,λr=>?_,λr f=>?_,λr f _=>?_⟩ (λ_ h=>h) (λi=>?_) (λi=>?_) (λi j g b a=>?_) (λi b a=>?_) h.shr
 ·by_cases e:r=d
  ·subst e;rw[aH];simp
  rw[ao _ _ e];exact .refl
 ·by_cases e:r=d
  ·subst e;rw[aH];simp
  rw[ao _ _ e];exact .refl
 ·by_cases e:r=d
  ·subst e;rw[aH]at f;simp at f
  rw[ao _ _ e]
 ·by_cases e:r=d
  ·subst e;rw[aH]at f;simp at f
  rw[ao _ _ e];simp_all
 ·by_cases e:i=d
  ·subst e;right;rw[aH];exact c
  left;rw[ao _ _ e,ao _ _ e,ao _ _ e];simp_all
 ·by_cases e:i=d
  ·subst e;rw[aH];simp_all
  rw[ao _ _ e];exact h.nodup i
 ·by_cases e:i=d
  ·subst e;rw[aH]at a;cases a
  rw[ao _ _ e]at a;by_cases k:j=d
  ·subst k;rw[aH];simp
  rw[ao _ _ k];exact h.du i j g b a
 by_cases e:i=d
 ·subst e;rw[aH]at a;cases a
 rw[ao _ _ e]at a;exact h.own i b a
def made(σ:St)(M:List Nat)(n:Nat)(y:AV):St:=λi=>if i=n then⟨y,(σ n).g1+1,(σ n).g2⟩else if i∈M then⟨.dead,(σ i).g1+1,(σ i).g2⟩else σ i
def aT.make(h:aT S B σ T w F)(M:List Nat)(n:Nat)(y:AV)(z:Value)(v:List Nat)(O:∀b,w.heap.size<=b->B b)(f:w.heap.size<=w'.heap.size)
 (o:∀b,b<w.heap.size->(∀m∈M,b∉F m)->w'.heap[b]?=w.heap[b]?)(H:v.Nodup)(g:∀b∈v,(∃m∈M,b∈F m)\/w.heap.size<=b/\b<w'.heap.size)
 (q:Rel w' S y z v):aT S B (made σ M n y) (iI T n z) w' (λi=>if i=n then v else if i∈M then[]else F i):=by
 have l:∀i b,b∈F i->b<w.heap.size:=λi b a=>(h.own i b a).2.1;have t:∀b,S b->w'.heap[b]?=w.heap[b]?:=λb a=>o b (h.shr b a) λm _ d=>(h.own m b d).2.2 a;have u:∀i,i∉M->∀b∈F i,w'.heap[b]?=w.heap[b]?:=λi hi b a=>o b (l i b a) λm hm d=>h.du i m (λe=>hi (e▸hm)) b a d;have x:∀i,i∉M->∀b∈F i,b∉v:=λi hi b a C=>by
  rcases g b C with⟨m,hm,d⟩|⟨J,_⟩
  ·exact h.du i m (λe=>hi (e▸hm)) b a d
  have:=l i b a;omega
 refine h.step (w':=w') (S':=S) ⟨λr=>?_,λr=>?_,λr k=>?_,λr k _=>?_⟩ (λ_ h=>h) (λi=>?_) (λi=>?_) (λi j s b a=>?_) (λi b a=>?_)
  (λb a=>acg (h.shr b a) f)
 ·unfold made;split
  ·rename_i e;subst e;simp
  split<;>simp
 ·unfold made;split
  ·rename_i e;subst e;simp
  split<;>simp
 ·unfold made at k;split at k
  ·rename_i e;subst e;simp at k
  rename_i e;exact ao _ _ e
 ·unfold made at k⊢;split at k
  ·rename_i e;subst e;simp at k
  rename_i e;split at k
  ·simp at k
  rename_i c;rw[if_neg e,if_neg c];exact⟨λp y x=>⟨y,x⟩,λb a=>a.elim (t b)<|u r c b⟩
 ·by_cases e:i=n
  ·subst e;right;rw[an.aA<|by simp[made];exact q.plain];simp[made,aH];exact q
  by_cases c:i∈M
  ·right;rw[an.aA<|by simp[made,e,c,AV.plain]];simp[made,e,c,Rel]
  left;simp[made,e,c,ao _ _ e];exactλb a=>a.elim (t b) (u i c b)
 ·by_cases e:i=n
  ·simp[e,if_true];exact H
  by_cases c:i∈M
  ·simp[e,c]
  simp[e,c,if_false];exact h.nodup i
 ·by_cases e:i=n
  ·simp[e,if_true]at a;have N:j≠n:=λQ=>s<|e.trans Q.symm;simp only[N,if_false];by_cases c:j∈M
   ·simp[c]
   simp[c,if_false];exactλA=>x j c b A a
  simp only[e,if_false]at a;by_cases c:i∈M
  ·simp[c]at a
  simp[c,if_false]at a;by_cases L:j=n
  ·simp[L,if_true];exact x i c b a
  simp only[L,if_false];by_cases K:j∈M
  ·simp[K]
  simp[K,if_false];exact h.du i j s b a
 by_cases e:i=n
 ·simp[e,if_true]at a;rcases g b a with⟨m,hm,d⟩|⟨J,P⟩
  ·exact⟨(h.own m b d).1,acg (l m b d) f,(h.own m b d).2.2⟩
  exact⟨O b J,P,λD=>by have:=h.shr b D;omega⟩
 simp only[e,if_false]at a;by_cases c:i∈M
 ·simp[c]at a
 simp[c,if_false]at a;exact⟨(h.own i b a).1,acg (l i b a) f,(h.own i b a).2.2⟩
def R7(h:At w ad z):ZQ w w ad z:=by intro f e d;obtain⟨_,c,b,a,hc⟩:=h;simp_all
def qb{L:Loc}(h:holds w L z):VV w w L z z:=by
 cases L with
 |val y=>rfl
 |addr a=>exact R7 h
def AV.cell:AV->Bool
 |.v _|.list .. |.box .. |.fn .. |.hole=>true
 |_=>false
def Rel.one{av:AV}{y:Value}{F:List Nat}(h:Rel w S av y F)(hc:av.cell=true):y.oneCell'=true:=by
 cases av with
 |v x=>simp[Rel]at h;obtain⟨d,rfl,-⟩:=h;cases y<;>simp_all[scalar,Value.oneCell']
 |list f sz m=>
  cases f with
  |nil=>simp[Rel]at h;rw[h.2.1];rfl
  |shr=>simp only[Rel]at h;rcases h with⟨-,⟨ad,d⟩,-⟩|⟨b,j,e,g,k,d,-⟩<;>rw[d]<;>rfl
  |own=>simp only[Rel]at h;rcases h with⟨-,d,-⟩|⟨b,e,g,l,d,-⟩<;>rw[d]<;>rfl
 |box own x=>simp only[Rel]at h;obtain⟨b,g,k,l,z,d,-⟩:=h;rw[d];rfl
 |fn f a c=>simp only[Rel]at h;obtain⟨o,n,q,p,d,-⟩:=h;rw[d];rfl
 |hole=>simp[Rel]at h;exact h.1
 |_=>simp[AV.cell]at hc
def ir(y:AV):AV:=if y.cell then .hole else .dead
def Rel.ir{a:List Nat}(h:Rel w S y z a):Rel w S (ir y) z []:=by
 unfold Ai.ir;split
 ·rename_i hc;simp only[Rel];exact⟨h.one hc,U⟩
 simp[Rel]
def Sub(a x:AV):Prop:=∀(p:Path)(y':AV),bp a p=some y'->∃y,bp x p=some y
def FB:∀(p:Path){b xs:List AV},b.length=xs.length->(∀(i:Nat)(d a:AV),b[i]?=some d->xs[i]?=some a->Sub d a)->∀y':AV,bp (.agg b) p=some y'->∃y,bp (.agg xs) p=some y
 |[],b,xs,_,_,y',_=>⟨_,W⟩
 |.at o none::p,b,xs,hl,he,y',h=>by
  simp[bp,abr]at h⊢;obtain⟨d,c,e⟩:=h;have f:o<xs.length:=by rw[<-hl];exact(acU.1 c).1
  obtain⟨y,k⟩:=he o d _ c (abA f) p y' e;simp_all
 |.at o (some n)::p,b,xs,hl,he,y',h=>by
  simp only[bp]at h⊢;rw[hl]at h;split at h
  ·rename_i g;rw[if_pos g];refine FB p (by simp[hl]) (λi d a c e=>?_) y' h;rw[acE]at c e;split at c
   ·rename_i j;rw[if_pos j,ada]at e;rw[ada]at c;exact he _ d a c e
   cases c
  cases h
 |.idx .. ::p,b,xs,_,_,y',h=>by simp[bp]at h
 |.deref::p,b,xs,_,_,y',h=>by simp[bp]at h
 |.bW .. ::p,b,xs,_,_,y',h=>by simp[bp]at h
 |.lZ .. ::p,b,xs,_,_,y',h=>by simp[bp]at h
def FA{xs:List AV}{x f:AV}(k:xs[i]?=some x)(h:Sub f x):∀(j:Nat)(d a:AV),(xs.set i f)[j]?=some d->xs[j]?=some a->Sub d a:=by
 intro j d a b c;rw[adL]at b;split at b
 ·rename_i e;subst e;split at b
  ·cases b;rw[k]at c;cases c;exact h
  cases b
 rw[b]at c;cases c;exactλp y g=>⟨y,g⟩
def Hx{b xs:List AV}(hl:b.length=xs.length)(he:∀(i:Nat)(c a:AV),b[i]?=some c->xs[i]?=some a->Sub c a){p:Path}(h:b[i]?.bind (bp · p)=some y'):∃y,xs[i]?.bind (bp · p)=some y:=by
 simp[abr]at h⊢;obtain⟨c,e,f⟩:=h;have d:i<xs.length:=by rw[<-hl];exact(acU.1 e).1
 obtain⟨y,g⟩:=he i c _ e (abA d) p y' f;simp_all
def sV:∀(q:Path){x y h A:AV},bp x q=some y->Sub h y->eJ x q h=some A->Sub A x
 |[],x,y,h,A,g,r,d=>by simp[bp,aaw]at g;simp[eJ,aaw]at d;subst g;subst d;exact r
 |s::q,x,y,h,A,g,r,d=>by
  intro p y' f;cases p with
  |nil=>exact⟨_,W⟩
  |cons t p=>
   unfold eJ at d;split at d
   ·rename_i sz xs i P;split at d
    ·rename_i e;subst e;simp[abr,acW]at d;obtain⟨x0,l,C,k,rfl⟩:=d;simp[bp,if_true,l,acv]at g;have he:=FA l<|sV q g r k;cases t with
     |idx j O=>
      simp only[bp]at f⊢;split at f
      ·rename_i e;rw[if_pos e];exact Hx I he f
      cases f
     |lZ a b c=>simp only[bp,acO]at f⊢;exact⟨_,f⟩
     |_=>simp[bp]at f
    cases d
   ·simp[acW]at d;obtain⟨C,k,rfl⟩:=d;simp[bp]at g;cases t with
    |deref=>simp[bp]at f⊢;exact sV q g r k p y' f
    |_=>simp[bp]at f
   ·rename_i xs o;simp[abr,acW]at d;obtain⟨x0,l,C,k,rfl⟩:=d;simp[bp,l,acv]at g;exact FB (t::p) I (FA l<|sV q g r k) y' f
   ·rename_i xs o n;split at d
    ·rename_i K;simp only[abr]at d;obtain⟨z,l,k⟩:=d;split at k
     ·rename_i L;split at k
      ·rename_i hn;cases k;simp[bp,if_pos K]at g;have u:=sV q g r l;have v:(xs.take o++L++xs.drop (o+n)).length=xs.length:=by simp;omega
       refine FB (t::p) v (λi X a g1 g2=>?_) y' f;by_cases R:i<o
       ·rw[abG,acn<|by simp;omega,acE,if_pos R,g2]at g1;cases g1;exactλp y H=>⟨y,H⟩
       by_cases V:i<o+n
       ·rw[abG,acu<|by simp;omega,acn<|by simp;omega]at g1;have J:(xs.take o).length=o:=by simp;omega
        rw[J]at g1;intro Q N D;obtain⟨M,m⟩:=u (.at (i-o) none::Q) N (by simp[bp,g1,acv];exact D);simp[bp,acE,ada]at m;rw[if_pos E,show o+(i-o)=i from E,g2]at m;exact⟨M,m⟩
       rw[acu<|by simp;omega,ada]at g1;have J:(xs.take o++L).length=o+n:=by simp;omega
       rw[J,show o+n+(i-(o+n))=i from E,g2]at g1;cases g1;exactλp y H=>⟨y,H⟩
      cases k
     cases k
    cases d
   ·rename_i xs i;simp[abr,acW]at d;obtain⟨x0,l,C,k,rfl⟩:=d;simp[bp,l,acv]at g;have he:=FA l<|sV q g r k;cases t with
    |bW j=>simp[bp]at f⊢;exact Hx I he f
    |_=>simp[bp]at f
   cases d
def PV(y:AV):Sub (ir y) y:=by
 intro p y' h;cases p with
 |nil=>exact⟨_,W⟩
 |cons s p=>unfold ir at h;split at h<;>(cases s<;>simp[bp]at h)
def ju(s:Sl)(p:Path)(av:AV):Sl:=if p=[]then⟨av,s.g1+1,s.g2⟩else⟨av,s.g1,s.g2⟩
def xt(s:Sl)(p:Path)(av:AV):(ju s p av).av=av:=by unfold ju;split<;>rfl
def NO(s:Sl)(p:Path)(av:AV):s.g1<=(ju s p av).g1:=by unfold ju;split<;>simp
def NN(s:Sl)(p:Path)(av:AV):s.g2<=(ju s p av).g2:=by unfold ju;split<;>simp
def aT.take(h:aT S B σ T w F)(r n:Nat)(p:Path)(O:n≠r)(P:(σ r).av.plain=true)(K:bp (σ r).av p=some y)(hs:eJ (σ r).av p (ir y)=some av'):
 ∃L z t F',loc w (.val<|T r) p=some L/\holds w L z/\Rel w S y z t/\
  aT S B (iI (iI σ r<|ju (σ r) p av') n ⟨y,(σ n).g1+1,(σ n).g2⟩) (iI T n z) w F'/\F' n=t/\∀m,m≠r->m≠n->F' m=F m:=by
 have J:=h.rel r;rw[an.aA P]at J;obtain⟨L,z,A,t,C,k1,k2,k3,k4,k5,k6⟩:=Rel.iI p (L:=.val<|T r) J W K hs (h.nodup r) (λb c=>(h.own r b c).2.2) (by simp[Loc.jS]);obtain⟨Y,H,-,-,D⟩:=k6 w S z [] (λ_ h=>h) W (λh=>h) (λ_ _ _=>rfl) (qb k2) k3.ir;simp[xn]at D;subst D;have s:=h.nodup r;rw[k4,abC,abC]at s;have k:∀b,b∈A++[]++C->b∈F r:=λb c=>by rw[k4];simp at c⊢;rcases c with h|h<;>simp[h]
 have g:∀b,b∈t->b∈F r:=λb c=>by rw[k4];simp[c]
 refine⟨L,z,t,λi=>if i=n then t else if i=r then A++[]++C else F i,k1,k2,k3,?_,I,λm X V=>by simp[X,V]⟩;refine h.step (w':=w) (S':=S) ⟨λi=>?_,λi=>?_,λi hi=>?_,λi hi x=>?_⟩ (λ_ h=>h) (λi=>?_) (λi=>?_) (λi j l b c=>?_) (λi b c=>?_) h.shr
 ·by_cases e:i=n
  ·subst e;rw[aH];simp
  rw[ao _ _ e];by_cases d:i=r
  ·subst d;rw[aH];exact NO _ _ _
  rw[ao _ _ d];exact abq _
 ·by_cases e:i=n
  ·subst e;rw[aH];simp
  rw[ao _ _ e];by_cases d:i=r
  ·subst d;rw[aH];exact NN _ _ _
  rw[ao _ _ d];exact abq _
 ·by_cases e:i=n
  ·subst e;rw[aH]at hi;simp at hi
  exact ao _ _ e
 ·by_cases e:i=n
  ·subst e;rw[aH]at hi;simp at hi
  rw[ao _ _ e]at hi x⊢;by_cases d:i=r
  ·subst d;rw[aH,xt];exact⟨sV p K (PV y) hs,λ_ _=>rfl⟩
  rw[ao _ _ d];exact⟨λp y N=>⟨y,N⟩,λ_ _=>rfl⟩
 ·by_cases e:i=n
  ·subst e;right;rw[an.aA<|by rw[aH];exact k3.plain];simp[aH,if_true];exact k3
  by_cases d:i=r
  ·subst d;right;have:(iI (iI σ i<|ju (σ i) p av') n ⟨y,(σ n).g1+1,(σ n).g2⟩ i).av=av':=by rw[ao _ _ e,aH,xt]
   rw[an.aA<|by rw[this];exact H.plain,this,ao _ _ e];simp only[e,if_false,if_true];exact H
  left;simp only[ao _ _ e,ao _ _ d,e,d,if_false,true_and];exactλ_ _=>trivial
 ·by_cases e:i=n
  ·simp[e,if_true];exact s.1.2.1
  by_cases d:i=r
  ·simp only[e,if_false];rw[if_pos d];rw[acj,abC];exact⟨s.1.1,s.2.1,λa R b c=>s.2.2 a (by simp[R]) b c⟩
  simp[e,d,if_false];exact h.nodup i
 ·have o:∀b,b∈t->b∉A++[]++C:=λb c f=>by
   simp at f;rcases f with h|h
   ·exact s.1.2.2 b h b c W
   exact s.2.2 b (by simp[c]) b h W
  by_cases e:i=n
  ·simp[e,if_true]at c;have Q:j≠n:=λv=>l<|e.trans v.symm;simp only[Q,if_false];by_cases d:j=r
   ·rw[if_pos d];exact o b c
   rw[if_neg d];exactλq=>h.du j r d b q<|g b c
  simp only[e,if_false]at c;by_cases d:i=r
  ·rw[if_pos d]at c;by_cases u:j=n
   ·simp[u,if_true];exactλf=>o b f c
   simp[u,if_false];rw[if_neg λv=>l<|d.trans v.symm];exactλq=>h.du j r (λv=>l<|d.trans v.symm) b q<|k b c
  rw[if_neg d]at c;by_cases u:j=n
  ·simp[u,if_true];exactλf=>h.du i r d b c<|g b f
  simp only[u,if_false];by_cases M:j=r
  ·rw[if_pos M];exactλf=>h.du i r d b c<|k b f
  rw[if_neg M];exact h.du i j l b c
 by_cases e:i=n
 ·simp[e,if_true]at c;exact h.own r b<|g b c
 simp only[e,if_false]at c;by_cases d:i=r
 ·rw[if_pos d]at c;exact h.own r b<|k b c
 rw[if_neg d]at c;exact h.own i b c
def aT.share(h:aT S B σ T w F)(r:Nat)(p:Path)(K:(σ r).av.plain=true)(M:bp (σ r).av p=some y)(hs:eJ (σ r).av p y.b9=some av'):
 ∃(L:Loc)(z:Value)(g:List Nat)(F':Nat->List Nat),loc w (.val<|T r) p=some L/\holds w L z/\Rel w S y z g/\
  aT (λb=>S b\/b∈g) B (iI σ r ⟨av',(σ r).g1,(σ r).g2+1⟩) T w F'/\(∀b∈g,b∈F r):=by
 have H:=h.rel r;rw[an.aA K]at H;obtain⟨L,z,A,g,q,k1,k2,k3,k4,k5,k6⟩:=Rel.iI p (L:=.val<|T r) H W M hs (h.nodup r) (λb c=>(h.own r b c).2.2) (by simp[Loc.jS]);have d:∀b,b∈g->b∈F r:=λb c=>by rw[k4];simp[c]
 obtain⟨O,D,-,-,C⟩:=k6 w (λb=>S b\/b∈g) z [] (λ_ h=>.inl h) W (λh=>h) (λ_ _ _=>rfl) (qb k2)<|Rel.share (λ_ h=>.inl h) _ k3 λb c=>.inr c;simp[xn]at C;subst C;have m:=h.nodup r;rw[k4,abC,abC]at m;have f:∀b,b∈A++[]++q->b∈F r:=λb c=>by rw[k4];simp at c⊢;rcases c with h|h<;>simp[h]
 have o:∀b,b∈g->b∉A++[]++q:=λb c k=>by
  simp at k;rcases k with h|h
  ·exact m.1.2.2 b h b c W
  exact m.2.2 b (by simp[c]) b h W
 refine⟨L,z,g,λi=>if i=r then A++[]++q else F i,k1,k2,k3,?_,d⟩;refine h.step (w':=w) (S':=λb=>S b\/b∈g) (F':=λi=>if i=r then A++[]++q else F i) ⟨λi=>?_,λi=>?_,λi hi=>rfl,λi hi n=>?_⟩ (λ_ h=>.inl h) (λi=>?_) (λi=>?_) (λi j l b c=>?_) (λi b c=>?_) (λb(c:S b\/b∈g)=>?_)
 ·by_cases e:i=r
  ·subst e;rw[aH];exact .refl
  rw[ao _ _ e];exact .refl
 ·by_cases e:i=r
  ·subst e;rw[aH];simp
  rw[ao _ _ e];exact .refl
 ·by_cases e:i=r
  ·subst e;rw[aH]at n;simp at n
  rw[ao _ _ e];simp_all
 ·by_cases e:i=r
  ·subst e;right;rw[an.aA<|by rw[aH];exact D.plain,aH];simp only;exact D
  left;simp only[ao _ _ e,e,if_false,true_and];exactλ_ _=>trivial
 ·by_cases e:i=r
  ·simp only[e,if_true];rw[acj,abC];exact⟨m.1.1,m.2.1,λa N b c=>m.2.2 a (by simp[N]) b c⟩
  simp[e];exact h.nodup i
 ·by_cases e:i=r
  ·simp only[e]at c;rw[if_neg λx=>l<|e.trans x.symm];exactλu=>h.du j r (λx=>l<|e.trans x.symm) b u<|f b c
  simp[e]at c;by_cases J:j=r
  ·rw[if_pos J];exactλk=>h.du i r e b c<|f b k
  rw[if_neg J];exact h.du i j l b c
 ·by_cases e:i=r
  ·simp only[e]at c;obtain⟨t,s,o3⟩:=h.own r b<|f b c;exact⟨t,s,λhh=>hh.elim o3 λv=>o b v c⟩
  simp[e]at c;obtain⟨t,s,o3⟩:=h.own i b c;exact⟨t,s,λhh=>hh.elim o3 λv=>h.du i r e b c<|d b v⟩
 rcases c with c|c
 ·exact h.shr b c
 exact(h.own r b<|d b c).2.1
def stored(σ:St)(r:Nat)(M:List Nat)(av:AV):St:=λi=>if i=r then⟨av,(σ r).g1,(σ r).g2+1⟩else if i∈M then⟨.dead,(σ i).g1+1,(σ i).g2⟩else σ i
def aT.store(h:aT S B σ T w F)(r:Nat)(M:List Nat)(p:Path){C:Value}{t:List Nat}(R:r∉M)(hp:(σ r).av.plain=true)
 (hg:bp (σ r).av p=some y)(hs:eJ (σ r).av p y'=some av')(hl:loc w (.val<|T r) p=some (.addr ad))
 (hv:Rel w S y' C t)(X:t.Nodup)(g:∀b∈t,∃m∈M,b∈F m):
 ∃z,At w ad z/\(∃Y,Rel w S y z Y)/\B ad.block/\(C.cells.size=z.cells.size->(z.oneCell'=true->C.oneCell'=true)->
  ∀w',w'.heap.size=w.heap.size->(∀b,b≠ad.block->w'.heap[b]?=w.heap[b]?)->ZQ w w' ad C->
   ∃F',aT S B (stored σ r M av') T w' F'):=by
 have hr:=h.rel r;rw[an.aA hp]at hr;obtain⟨L,z,A,Y,Z,k1,k2,k3,k4,k5,k6⟩:=Rel.iI p (L:=.val<|T r) hr W hg hs (h.nodup r) (λb c=>(h.own r b c).2.2) (by simp[Loc.jS]);rw[k1]at hl;cases hl;have hA:ad.block∈A:=by
  rcases k5 with k5|⟨a,v,_⟩
  ·exact k5
  cases v
 have l:ad.block∈F r:=by rw[k4];simp[hA]
 have x:∀b∈t,b∉F r:=λb c=>by obtain⟨m,hm,q⟩:=g b c;exact h.du m r (λe=>R (e▸hm)) b q
 have D:∀i,i∉M->∀b∈t,b∉F i:=λi hi b c=>by obtain⟨m,hm,q⟩:=g b c;exact h.du m i (λe=>hi (e▸hm)) b q
 refine⟨z,k2,⟨Y,k3⟩,(h.own r _ l).1,λQ h1 w' n k V=>?_⟩;have H:∀i,i≠r->∀b∈F i,b≠ad.block:=λi hi b c e=>h.du i r hi b c (e▸l);have s:∀b,S b->b≠ad.block:=λb c e=>(h.own r _ l).2.2 (e▸c);have P:Rel w' S y' C t:=Rel.frame _ hv λb c=>k b<|c.elim (s b) λc e=>x b c (e▸l);obtain⟨zz,j1,-,-,j4⟩:=k6 w' S C t (λ_ h=>h) Q h1 (λb _ c=>k b<|by simpa[Loc.jS,eq_comm]using c) V P;simp[xn]at j4;subst j4;have O:=h.nodup r;rw[k4,abC,abC]at O;have o:∀b,b∈A++t++Z->b∈F r\/b∈t:=λb c=>by rw[k4];simp at c⊢;rcases c with h|h|h<;>simp[h]
 have J:∀b,b∈A\/b∈Z->b∈F r:=λb c=>by rw[k4];simp;rcases c with h|h<;>simp[h]
 refine⟨λi=>if i=r then A++t++Z else if i∈M then[]else F i,?_⟩;refine h.step (w':=w') (S':=S) ⟨λi=>?_,λi=>?_,λi hi=>rfl,λi hi N=>?_⟩ (λ_ h=>h) (λi=>?_) (λi=>?_) (λi j K b c=>?_) (λi b c=>?_) (λb c=>by rw[n];exact h.shr b c)
 ·unfold stored;split
  ·rename_i e;subst e;exact abq _
  split<;>simp
 ·unfold stored;split
  ·rename_i e;subst e;simp
  split<;>simp
 ·unfold stored at hi N⊢;split at hi
  ·rename_i e;subst e;simp at N
  rename_i e;split at hi
  ·simp at hi
  rename_i f;rw[if_neg e,if_neg f];exact⟨λp y hy=>⟨y,hy⟩,λb c=>k b<|c.elim (s b)<|H i e b⟩
 ·by_cases e:i=r
  ·subst e;right;have:(stored σ i M av' i).av=av':=by simp[stored]
   rw[an.aA<|by rw[this];exact j1.plain,this];simp only[if_true];exact j1
  by_cases f:i∈M
  ·right;have:(stored σ r M av' i).av=.dead:=by simp[stored,e,f]
   rw[an.aA<|by rw[this];rfl,this];simp[e,f,Rel]
  left;simp[stored,e,f,if_false,true_and];exactλb c=>k b (c.elim (s b)<|H i e b)
 ·by_cases e:i=r
  ·rw[if_pos e];rw[abC,abC];refine⟨⟨O.1.1,X,λa v b c e=>x b c (e▸J a (.inl v))⟩,O.2.1,λa v b c e=>?_⟩;rcases abJ.1 v with v|v
   ·exact O.2.2 a (by simp[v]) b c e
   exact x a v (e▸J b (.inr c))
  by_cases f:i∈M
  ·simp[e,f]
  simp[e,f,if_false];exact h.nodup i
 ·by_cases e:i=r
  ·rw[if_pos e]at c;have hj:j≠r:=λe'=>K<|e.trans e'.symm;rw[if_neg hj];by_cases f:j∈M
   ·simp[f]
   simp[f,if_false];intro u;rcases o b c with d|d
   ·exact h.du j r hj b u d
   exact D j f b d u
  rw[if_neg e]at c;by_cases f:i∈M
  ·simp[f]at c
  simp[f,if_false]at c;by_cases e3:j=r
  ·rw[if_pos e3];intro u;rcases o b u with d|d
   ·exact h.du i r e b c d
   exact D i f b d c
  rw[if_neg e3];by_cases e4:j∈M
  ·simp[e4]
  simp[e4,if_false];exact h.du i j K b c
 rw[n];by_cases e:i=r
 ·rw[if_pos e]at c;rcases o b c with d|d
  ·exact h.own r b d
  obtain⟨m,hm,q⟩:=g b d;exact h.own m b q
 rw[if_neg e]at c;by_cases f:i∈M
 ·simp[f]at c
 simp[f,if_false]at c;exact h.own i b c
end
end
mutual
def AV.aG:AV->Bool
 |.list .own _ _=>false
 |.list .nil _ _=>true
 |.list .shr _ _=>true
 |.box own _=> !own
 |.agg xs=>bU xs
 |.bW xs=>bU xs
 |.fn _ a c=>bU a&&bU c
 |.v _=>true
 |.bC .. =>false
 |.ptr .. =>false
 |.hole=>true
 |.dead=>true
 |.pv _=>true
 |.abs _=>false
 |.fS .. =>false
 |.mp _=>false
def bU:List AV->Bool
 |[]=>true
 |x::xs=>x.aG&&bU xs
end
mutual
def AV.refs:AV->Bool
 |.list .nil _ _=>false
 |.list .own _ _=>true
 |.list .shr _ _=>true
 |.box _ _=>true
 |.agg xs=>Qt xs
 |.bW xs=>Qt xs
 |.fn .. =>true
 |.v _=>false
 |.bC .. =>true
 |.ptr .. =>true
 |.hole=>true
 |.dead=>true
 |.pv _=>true
 |.abs _=>true
 |.fS .. =>true
 |.mp _=>true
def Qt:List AV->Bool
 |[]=>false
 |x::xs=>x.refs||Qt xs
end
mutual
def AV.cL:AV->Bool
 |.list .nil _ _=>true
 |.list .own _ xs=>jw xs
 |.list .shr _ _=>false
 |.box own x=>own&&x.cL
 |.agg xs=>jw xs
 |.bW xs=>jw xs
 |.fn _ a c=>jw a&&jw c
 |.v _=>true
 |.bC .. =>true
 |.ptr .. =>true
 |.hole=>true
 |.dead=>true
 |.pv _=>true
 |.abs _=>true
 |.fS .. =>true
 |.mp _=>true
def jw:List AV->Bool
 |[]=>true
 |x::xs=>x.cL&&jw xs
end
section
variable{w:World}{S S':Nat->Prop}
mutual
theorem Rel.cL:∀(av:AV){y:Value}{F:List Nat},Rel w S av y F->av.cL=true->Rel w S' av y F
 |.v x,y,F,h,_=>by simpa[Rel]using h
 |.list .nil sz xs,y,F,h,_=>by simpa[Rel]using h
 |.list .shr sz xs,y,F,h,k=>by simp[AV.cL]at k
 |.list .own sz xs,y,F,h,k=>by
  rcases h with h|⟨b,cap,cs,F',e,d,i,g,j,q,p⟩
  ·exact .inl h
  exact .inr ⟨b,cap,cs,F',e,d,i,g,j,c7.cL sz xs q<|by simpa[AV.cL]using k,p⟩
 |.box true x,y,F,h,k=>by obtain⟨b,cs,r,F',z,e,d,i,g,j⟩:=h;exact⟨b,cs,r,F',z,e,d,Rel.cL x i<|by simpa[AV.cL]using k,g,j⟩
 |.box false x,y,F,h,k=>by simp[AV.cL]at k
 |.agg xs,y,F,h,k=>by obtain⟨cs,e,d⟩:=h;exact⟨cs,e,Cells.cL xs d<|by simpa[AV.cL]using k⟩
 |.bW xs,y,F,h,k=>by obtain⟨cs,e,d⟩:=h;exact⟨cs,e,Cells.cL xs d<|by simpa[AV.cL]using k⟩
 |.fn f a c,y,F,h,k=>by simp[AV.cL]at k;obtain⟨t,s,n,m,e,d,i,g⟩:=h;exact⟨t,s,n,m,e,Cells.cL a d k.1,Cells.cL c i k.2,g⟩
 |.bC ..,y,F,h,_=>by simp[Rel]at h
 |.ptr ..,y,F,h,_=>by simp[Rel]at h
 |.hole,y,F,h,_=>by simpa[Rel]using h
 |.dead,y,F,h,_=>by simpa[Rel]using h
 |.pv _,y,F,h,_=>by simpa[Rel]using h
 |.abs _,y,F,h,_=>by simp[Rel]at h
 |.fS ..,y,F,h,_=>by simp[Rel]at h
 |.mp _,y,F,h,_=>by simpa[Rel]using h
theorem Cells.cL:∀(xs:List AV){one:Bool}{l:List Value}{F:List Nat},Cells w S one xs l F->jw xs=true->Cells w S' one xs l F
 |[],one,l,F,h,_=>by simpa[Cells]using h
 |x::xs,one,l,F,h,k=>by simp[jw]at k;obtain⟨y,o,n,m,e,d,i,g,j⟩:=h;exact⟨y,o,n,m,e,d,i,Rel.cL x g k.1,Cells.cL xs j k.2⟩
theorem c7.cL(sz:Nat):∀(xs:List AV){l:List Value}{F:List Nat},c7 w S sz xs l F->jw xs=true->c7 w S' sz xs l F
 |[],l,F,h,_=>by simpa[c7]using h
 |x::xs,l,F,h,k=>by simp[jw]at k;obtain⟨y,o,n,m,e,d,i,g,j⟩:=h;exact⟨y,o,n,m,e,d,i,Rel.cL x g k.1,c7.cL sz xs j k.2⟩
end
mutual
theorem Rel.aG:∀(av:AV){y:Value}{F:List Nat},Rel w S av y F->av.aG=true->F=[]
 |.v x,y,F,h,_=>by simp[Rel]at h;exact h.2.2
 |.list .nil sz xs,y,F,h,_=>by simp[Rel]at h;exact h.2.2
 |.list .shr sz xs,y,F,h,_=>by simp only[Rel]at h;rcases h with⟨-,-,m⟩|⟨b,off,cap,cs,n,g,d,e,j,i,m⟩<;>exact m
 |.list .own sz xs,y,F,h,k=>by simp[AV.aG]at k
 |.box own x,y,F,h,k=>by simp[AV.aG]at k;subst k;simp only[Rel]at h;obtain⟨b,cs,n,F',z,g,d,e,j,i⟩:=h;simp at i;exact i.2.2
 |.agg xs,y,F,h,k=>by simp[Rel]at h;obtain⟨cs,g,d⟩:=h;exact Cells.aG xs d (by simpa[AV.aG]using k)
 |.bW xs,y,F,h,k=>by simp[Rel]at h;obtain⟨cs,g,d⟩:=h;exact Cells.aG xs d (by simpa[AV.aG]using k)
 |.fn f a c,y,F,h,k=>by simp[AV.aG]at k;simp only[Rel]at h;obtain⟨s,r,p,o,g,d,e,rfl⟩:=h;rw[Cells.aG a d k.1,Cells.aG c e k.2];rfl
 |.bC ..,_,_,h,_=>by simp[Rel]at h
 |.ptr ..,_,_,h,_=>by simp[Rel]at h
 |.hole,_,_,h,_=>by simp[Rel]at h;exact h.2
 |.dead,_,_,h,_=>by simpa[Rel]using h
 |.pv _,_,_,h,_=>by simp[Rel]at h;exact h.2
 |.abs _,_,_,h,_=>by simp[Rel]at h
 |.fS ..,_,_,h,_=>by simp[Rel]at h
 |.mp _,_,_,_,k=>by simp[AV.aG]at k
theorem Cells.aG:∀(xs:List AV){one:Bool}{l:List Value}{F:List Nat},Cells w S one xs l F->bU xs=true->F=[]
 |[],one,l,F,h,_=>by simp[Cells]at h;exact h.2
 |x::xs,one,l,F,h,k=>by simp[bU]at k;obtain⟨y,q,p,o,g,rfl,d,e,j⟩:=h;rw[Rel.aG x e k.1,Cells.aG xs j k.2];rfl
end
end
inductive Mv
 |share (r:Nat) (p:Path)
 |take (r n:Nat) (p:Path)
 |make (M:List Nat) (n:Nat) (y:AV)
 |put (n:Nat) (y:AV)
 |store (r:Nat) (p:Path) (M:List Nat) (y:AV)
 |back (R:List (Nat×AV))
def lh(σ:St):List (Nat×AV)->St
 |[]=>σ
 |(r,y)::R=>iI (lh σ R) r ⟨y,(σ r).g1,(σ r).g2+1⟩
def Mv.run(σ:St):Mv->Option St
 |.share r p=>match bp (σ r).av p with
  |some y=>match eJ (σ r).av p y.b9 with
   |some av=>some (iI σ r ⟨av,(σ r).g1,(σ r).g2+1⟩)
   |none=>none
  |none=>none
 |.take r n p=>if n=r then none else match bp (σ r).av p with
  |some y=>match eJ (σ r).av p (ir y)with
   |some av=>some (iI (iI σ r<|ju (σ r) p av) n ⟨y,(σ n).g1+1,(σ n).g2⟩)
   |none=>none
  |none=>none
 |.make M n y=>some (made σ M n y)
 |.put n y=>some (iI σ n ⟨y,(σ n).g1+1,(σ n).g2⟩)
 |.store r p M y=>if r∈M then none else match eJ (σ r).av p y with
  |some av=>some (stored σ r M av)
  |none=>none
 |.back R=>some<|lh σ R
def Mv.runs(σ:St):List Mv->Option St
 |[]=>some σ
 |m::a=>match m.run σ with
  |some σ=>Mv.runs σ a
  |none=>none
end Go.Ai
