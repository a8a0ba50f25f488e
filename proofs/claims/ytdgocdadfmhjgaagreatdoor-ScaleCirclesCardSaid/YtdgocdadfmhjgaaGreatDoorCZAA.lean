/- Parts of the proof of ScaleCircles (CheckRefused returns the error of the reference), at every input, with no further conditions. -/
import Derived.WalkKit
import Derived.Lib.LaidTab
import Derived.Lib.ItoaNum
import Derived.TacticsIn
import Derived.OrdersIn
set_option linter.all false
set_option maxRecDepth 100000
set_option maxHeartbeats 0
section
abbrev abr:=@Option.some.injEq
abbrev abC:=@Nat.zero_le
abbrev abZ:=@Nat.le_refl
abbrev ab3:=@Option.bind_eq_some_iff
abbrev ab9:=@List.getElem_mem
abbrev aca:=@List.getD_eq_getElem?_getD
abbrev acd:=@Bool.and_eq_true
abbrev aci:=@List.mem_cons
abbrev acL:=@List.getElem?_eq_getElem
abbrev acR:=@List.take_of_length_le
abbrev acT:=@List.nodup_append
abbrev acU:=@List.length_cons
abbrev acV:=@List.append_assoc
abbrev acW:=@List.length_append
abbrev acX:=@Nat.le_trans
abbrev acY:=@List.length_nil
abbrev acZ:=@List.length_map
abbrev ac0:=@List.mem_map
abbrev ac1:=@Nat.lt_or_ge
abbrev ac2:=@List.length_take
abbrev ac3:=@Prod.mk.injEq
abbrev ac4:=@List.drop_eq_getElem_cons
abbrev ac5:=@List.mem_append
abbrev ac6:=@List.take_succ_eq_append_getElem
abbrev ac7:=@Nat.add_mul
abbrev ac8:=@Nat.mul_comm
abbrev ac9:=@List.map_append
abbrev ada:=@Int.add_mul
abbrev adb:=@Nat.mul_le_mul_right
abbrev ade:=@List.all_eq_true
abbrev adf:=@Int.pow_succ
abbrev adg:=@Nat.mod_lt
abbrev adh:=@Int.mul_assoc
abbrev adi:=@Nat.eq_of_beq_eq_true
abbrev adj:=@Int.mul_comm
abbrev adk:=@Nat.le_of_ble_eq_true
abbrev adl:=@List.all_cons
abbrev adm:=@List.nodup_cons
abbrev adn:=@List.nodup_nil
abbrev ado:=@List.map_cons
abbrev adp:=@Nat.eq_zero_or_pos
abbrev adq:=@Int.le_refl
abbrev ads:=@Int.le_of_lt
abbrev adt:=@List.drop_of_length_le
abbrev adu:=@Array.length_toList
abbrev adv:=@Nat.lt_of_lt_of_le
abbrev adw:=@List.append_nil
abbrev adx:=@Bool.true_and
abbrev ady:=@Nat.pow_succ
abbrev adz:=@Nat.mul_assoc
abbrev adA:=@List.getElem?_eq_none
abbrev adB:=@Int.natCast_mul
abbrev adC:=@Array.getElem?_eq_getElem
abbrev adD:=@Nat.pow_le_pow_right
abbrev adE:=@List.map_congr_left
abbrev adF:=@List.take_length
abbrev adH:=@List.getElem?_append_left
abbrev adI:=@Option.bind_some
abbrev adK:=@Array.ext'
abbrev adL:=@List.mem_flatMap
abbrev adQ:=@Nat.mul_le_mul_left
abbrev adT:=@Int.mul_nonneg
abbrev adW:=@Array.getElem?_eq_some_iff
abbrev adX:=@List.getElem?_append_right
abbrev ad3:=@List.drop_eq_nil_of_le
abbrev aec:=@Int.mul_le_mul_of_nonneg_left
abbrev aef:=@Nat.pow_pos
abbrev aeu:=@Bool.false_eq_true
abbrev aev:=@List.getElem?_take
abbrev aew:=@Int.sub_mul
abbrev aey:=@List.drop_length
abbrev aeE:=@Nat.div_lt_iff_lt_mul
abbrev aeK:=@List.foldl_cons
abbrev aeP:=@List.drop_zero
abbrev aeS:=@Nat.div_eq_of_lt
abbrev aeU:=@Rat.le_of_lt
abbrev aeY:=@Decidable.byContradiction
abbrev ae0:=@Nat.min_eq_left
abbrev ae5:=@List.mem_range
abbrev ae7:=@List.length_set
abbrev ae8:=@Array.getElem?_toList
abbrev afa:=@List.length_drop
abbrev afb:=@Nat.mod_eq_of_lt
abbrev afc:=@Nat.add_assoc
abbrev afe:=@Option.map_eq_some_iff
abbrev afh:=@Prod.exists
abbrev afq:=@Int.pow_add
abbrev afs:=@Int.lt_or_le
abbrev afy:=@Nat.pow_add
abbrev afE:=@Int.le_trans
abbrev afF:=@Nat.mod_add_div
abbrev afG:=@List.nil_append
abbrev afH:=@List.not_mem_nil
abbrev afI:=@List.map_nil
abbrev afK:=@Nat.div_lt_self
abbrev afL:=@Int.mul_le_mul_of_nonneg_right
abbrev afM:=@List.getElem?_eq_some_iff
abbrev afP:=@Nat.zero_add
abbrev afQ:=@List.map_set
abbrev afS:=@Nat.pos_of_ne_zero
abbrev afT:=@List.mem_of_mem_drop
abbrev afU:=@Int.natAbs_mul
abbrev afV:=@Int.mul_pos
abbrev afW:=@List.foldl_append
abbrev afX:=@Int.sign_neg_iff
abbrev af1:=@List.getElem?_map
abbrev af4:=@List.length_eq_zero_iff
abbrev af5:=@List.mem_of_mem_take
abbrev af6:=@Nat.le_of_lt
abbrev af7:=@Nat.add_le_add_right
abbrev agc:=@List.length_replicate
abbrev agd:=@Int.toNat_natCast
abbrev agf:=@List.drop_drop
abbrev agn:=@List.getElem?_take_of_lt
abbrev ago:=@List.getElem?_drop
abbrev agq:=@Bool.not_eq_true'
abbrev agr:=@List.mem_of_getElem?
abbrev ags:=@Int.tdiv_eq_ediv_of_nonneg
abbrev agv:=@Int.one_mul
abbrev agB:=@Int.mul_one
abbrev agE:=@Int.natAbs_natCast
abbrev agF:=@Nat.lt_of_le_of_lt
abbrev agG:=@Nat.mul_le_mul
abbrev agH:=@Rat.le_trans
abbrev agI:=@Nat.div_div_eq_div_mul
abbrev agL:=@List.cons_append
abbrev agM:=@Nat.sub_self
abbrev agN:=@List.map_map
abbrev agO:=@List.mem_singleton
abbrev agP:=@List.getElem?_replicate
abbrev agQ:=@Int.emod_nonneg
abbrev agR:=@Int.emod_lt_of_pos
abbrev agS:=@Int.sign_eq_one_of_pos
abbrev agT:=@Nat.div_le_self
abbrev agU:=@Nat.lt_trans
abbrev agV:=@List.countP_le_length
abbrev agW:=@Rat.num_nonneg
abbrev agX:=@Rat.pow_zero
abbrev agY:=@Rat.pow_succ
abbrev agZ:=@Nat.add_mul_div_left
abbrev ag0:=@Decidable.not_not
abbrev ag1:=@Array.getElem?_eq_none
abbrev ag2:=@List.getElem?_set
abbrev ag3:=@List.getElem_of_mem
abbrev ag4:=@List.length_pos_iff
abbrev ag5:=@Bool.or_eq_true
abbrev ag6:=@Nat.add_zero
abbrev ag7:=@List.replicate_succ
abbrev ag8:=@List.append_eq_nil_iff
abbrev ag9:=@Nat.le_succ
abbrev aha:=@Int.mul_ediv_add_emod
abbrev ahb:=@Nat.lt_succ_self
abbrev ahc:=@Int.lt_of_mul_lt_mul_right
abbrev ahd:=@Int.pow_zero
abbrev ahe:=@Int.lt_trichotomy
abbrev ahf:=@Nat.gcd_comm
abbrev ahg:=@List.take_append_drop
abbrev ahh:=@Rat.intCast_mul
abbrev ahi:=@Rat.intCast_natCast
abbrev ahj:=@List.countP_append
abbrev ahk:=@Nat.mul_add
abbrev ahl:=@Rat.mul_le_mul_of_nonneg_left
abbrev ahm:=@Int.natCast_add
abbrev ahn:=@Nat.le_antisymm
abbrev aho:=@Bool.and_self
abbrev ahp:=@List.take_take
abbrev ahq:=@Option.map_some
abbrev ahr:=@List.take_zero
abbrev ahs:=@Nat.add_sub_cancel_left
abbrev aht:=@List.map_drop
abbrev ahu:=@Int.ediv_nonneg
abbrev ahv:=@Int.mul_add
abbrev ahw:=@List.eq_of_mem_replicate
abbrev ahD:=@Nat.mul_pos
abbrev ahE:=@Int.natAbs_neg
abbrev ahH:=@UInt8.toNat_inj
abbrev ahL:=@Int.ofNat.inj
abbrev ahN:=@Int.gcd_eq_natAbs_gcd_natAbs
abbrev ahO:=@Int.sign_eq_neg_one_of_neg
abbrev ahR:=@Rat.neg_num
abbrev ahS:=@Rat.inv_pos
abbrev ahT:=@Rat.mul_comm
abbrev ahZ:=@Int.neg_mul
abbrev ah0:=@List.all_nil
abbrev ah1:=@List.mem_cons_of_mem
abbrev ah2:=@List.ext_getElem?
abbrev ah3:=@Int.toNat_of_nonneg
abbrev ah5:=@List.size_toArray
abbrev ah6:=@Bool.false_or
abbrev ah7:=@List.take_append_of_le_length
abbrev ah8:=@Nat.zero_mul
abbrev aia:=@List.getElem?_cons_zero
abbrev aib:=@List.map_take
abbrev aid:=@Prod.mk.inj
abbrev aie:=@Int.tmod_eq_emod_of_nonneg
abbrev aif:=@List.mem_or_eq_of_mem_set
abbrev aih:=@List.ext_getElem
abbrev ain:=@Nat.sub_zero
abbrev aio:=@Nat.pow_mul
abbrev aip:=@Rat.num_eq_zero
abbrev ait:=@Nat.le_succ_of_le
abbrev aiv:=@Nat.succ_mul
abbrev aiw:=@List.map_replicate
abbrev aix:=@List.mem_iff_getElem
abbrev aiy:=@Int.natCast_pow
abbrev aiB:=@Rat.mul_assoc
abbrev aiD:=@Rat.not_le
abbrev aiJ:=@Nat.add_mul_mod_self_left
abbrev aiM:=@Int.natCast_ediv
abbrev aiN:=@Rat.intCast_le_intCast
abbrev aiO:=@List.foldl_nil
abbrev aiP:=@List.eq_nil_of_length_eq_zero
abbrev aiQ:=@Array.getElem?_extract
abbrev aiR:=@Array.ext_getElem?
abbrev aiS:=@List.getElem?_toArray
abbrev aiW:=@Option.map_none
abbrev aiX:=@List.getElem?_set_ne
abbrev aiY:=@Array.foldl_toList
abbrev aiZ:=@List.drop_append
abbrev ai0:=@List.cons.injEq
abbrev ai1:=@List.range_succ
abbrev ai4:=@List.flatMap_append
abbrev ai5:=@List.mem_range'_1
abbrev ai6:=@Int.mul_le_mul
abbrev ai9:=@Nat.mul_div_mul_right
abbrev ajb:=@Nat.mul_mod_mul_right
abbrev ajc:=@Nat.mul_div_cancel
abbrev ajf:=@List.length_singleton
abbrev ajg:=@Int.sign_eq_zero_iff_zero
abbrev ajh:=@Nat.add_le_add
abbrev ajk:=@Bool.not_true
abbrev ajl:=@Nat.le_mul_of_pos_right
abbrev ajm:=@Nat.pow_le_pow_left
abbrev ajn:=@Rat.divInt_eq_div
abbrev ajo:=@List.getD_cons_succ
abbrev ajp:=@List.countP_singleton
abbrev ajr:=@List.getElem?_range
abbrev ajs:=@Int.fdiv_eq_ediv_of_nonneg
abbrev ajt:=@Nat.le_div_iff_mul_le
abbrev aju:=@Nat.lt_trichotomy
abbrev ajv:=@List.getD_cons_zero
abbrev ajw:=@Rat.le_of_mul_le_mul_right
abbrev ajx:=@List.length_range
abbrev ajy:=@Function.comp_def
abbrev ajz:=@List.flatMap_cons
abbrev ajA:=@List.eq_nil_or_concat
abbrev ajB:=@List.concat_eq_append
abbrev ajC:=@List.getLast?_eq_getElem?
def ao:True:=⟨⟩
theorem ab{α β:Sort _}{a:α}{b:β}:a=a/\b=b:=⟨rfl,rfl⟩
theorem kL{α β γ:Sort _}{a:α}{b:β}{c:γ}:a=a/\b=b/\c=c:=⟨rfl,rfl,rfl⟩
namespace Go.Ai
open Go.RowKit
inductive Fl|nil|shr|own
 deriving DecidableEq
inductive Step
 |idx (i sz:Nat)
 |at(o:Nat) (n:Option Nat)
 |deref
 |bX (i:Nat)
 |lR (sz o n:Nat)
 deriving DecidableEq
abbrev Path:=List Step
inductive AV
 |v (x:Value)
 |list (f:Fl) (sz:Nat) (xs:List AV)
 |box (own:Bool) (x:AV)
 |agg (xs:List AV)
 |bX (xs:List AV)
 |fn (f:Fn) (first captured:List AV)
 |bA (r g1 g2:Nat) (p:Path)
 |ptr (r g1 g2:Nat) (p:Path)
 |hole
 |dead
 |pv (C:Value->Prop)
 |abs (J:World->(Nat->Prop)->List Nat->Prop)
 |fI (g:FuncId) (ba:List (Nat×Nat))
 |mp (K:Obj->Prop)
instance:Inhabited AV:=⟨.dead⟩
def scalar:Value->Bool
 |.bool _|.int .. |.float .. |.complex .. |.string _|.pointer none|.map none|.nilFunc|.nilIface=>true
 |_=>false
def row?(w:World)(b:Nat):Option (Array Value×(Nat×Nat)):=
 match w.heap[b]?with
 |some (.cells cs _ fz)=>some (cs,fz)
 |_=>none
def mC{w w':World}{b:Nat}(h:w'.heap[b]?=w.heap[b]?):row? w' b=row? w b:=by unfold row?;rw[h]
mutual
def Rel(w:World)(S:Nat->Prop):AV->Value->List Nat->Prop
 |.v x,y,F=>scalar x=true/\y=x/\F=[]
 |.list f sz xs,y,F=>
  match f with
  |.nil=>xs=[]/\y=.slice none 0 0/\F=[]
  |.shr=>(xs=[]/\(∃ad,y=.slice ad 0 0)/\F=[])\/∃b off cap cs fz,y=.slice (some ⟨b,off,none⟩) xs.length cap/\S b/\row? w b=some (cs,fz)/\xs.length<=cap/\
    cv w S sz xs ((cs.toList.drop off).take<|xs.length*sz) []/\F=[]
  |.own=>(xs=[]/\y=.slice none 0 0/\F=[])\/∃b cap cs F',y=.slice (some ⟨b,0,none⟩) xs.length cap/\row? w b=some (cs,(0,0))/\xs.length<=cap/\cap<=maxLen/\
    cs.size=cap*sz/\cv w S sz xs (cs.toList.take<|xs.length*sz) F'/\F=b::F'
 |.box own x,y,F=>∃b cs fz F' z,y=.pointer (some ⟨b,0,none⟩)/\row? w b=some (cs,fz)/\Rel w S x z F'/\z.cells=cs/\
   (if own then fz=(0,0)/\F=b::F' else S b/\F'=[]/\F=[])
 |.agg xs,y,F=>∃cs,y=.agg cs/\Cells w S true xs cs.toList F
 |.bX xs,y,F=>∃cs,y=.tuple cs/\Cells w S false xs cs.toList F
 |.fn f first captured,y,F=>∃a c F1 F2,y=.func f a c/\Cells w S false first a.toList F1/\Cells w S false captured c.toList F2/\F=F1++F2
 |.bA ..,_,_=>False
 |.ptr ..,_,_=>False
 |.hole,y,F=>y.oneCell'=true/\F=[]
 |.dead,_,F=>F=[]
 |.pv C,y,F=>C y/\F=[]
 |.abs _,_,_=>False
 |.fI ..,_,_=>False
 |.mp K,y,F=>∃b o,y=.map (some b)/\w.heap[b]?=some o/\K o/\F=[b]
def Cells(w:World)(S:Nat->Prop)(one:Bool):List AV->List Value->List Nat->Prop
 |[],l,F=>l=[]/\F=[]
 |x::xs,l,F=>∃y l' F1 F2,l=y::l'/\F=F1++F2/\(one=true->y.oneCell'=true)/\Rel w S x y F1/\Cells w S one xs l' F2
def cv(w:World)(S:Nat->Prop)(sz:Nat):List AV->List Value->List Nat->Prop
 |[],l,F=>l=[]/\F=[]
 |x::xs,l,F=>∃y l' F1 F2,l=y.cells.toList++l'/\F=F1++F2/\y.cells.size=sz/\Rel w S x y F1/\cv w S sz xs l' F2
end
section
variable{w w':World}{S S':Nat->Prop}
mutual
theorem Rel.frame:∀(av:AV){y:Value}{F:List Nat},Rel w S av y F->(∀b,S b\/b∈F->w'.heap[b]?=w.heap[b]?)->Rel w' S av y F
 |.v x,y,F,h,_=>by simpa[Rel]using h
 |.list .nil sz xs,y,F,h,_=>by simpa[Rel]using h
 |.list .shr sz xs,y,F,h,k=>by
  rcases h with h|⟨b,off,cap,cs,fz,h1,h2,h3,h4,h5,h6⟩
  ·exact .inl h
  exact .inr ⟨b,off,cap,cs,fz,h1,h2,(mC<|k b<|.inl h2).trans h3,h4,cv.frame sz xs h5 λb hb=>k b<|.inl<|by simpa using hb,h6⟩
 |.list .own sz xs,y,F,h,k=>by
  rcases h with h|⟨b,cap,cs,F',h1,h2,h3,h4,h5,h6,rfl⟩
  ·exact .inl h
  exact .inr ⟨b,cap,cs,F',h1,(mC<|k b<|.inr<|by simp).trans h2,h3,h4,h5,cv.frame sz xs h6 λb hb=>k b<|hb.imp id<|by simp;exact .inr,rfl⟩
 |.box own x,y,F,h,k=>by
  obtain⟨b,cs,fz,F',z,h1,h2,h3,h4,h5⟩:=h;cases own
  ·simp[aeu,if_false]at h5;obtain⟨hS,rfl,rfl⟩:=h5;exact⟨b,cs,fz,[],z,h1,(mC<|k b<|.inl hS).trans h2,Rel.frame x h3 λb hb=>k b<|.inl<|by simpa using hb,h4,by simp[hS]⟩
  simp[if_true]at h5;obtain⟨rfl,rfl⟩:=h5;exact⟨b,cs,_,F',z,h1,(mC<|k b<|.inr<|by simp).trans h2,Rel.frame x h3 λb hb=>k b<|hb.imp id<|by simp;exact .inr,h4,by simp⟩
 |.agg xs,y,F,h,k=>by obtain⟨cs,h1,h2⟩:=h;exact⟨cs,h1,Cells.frame xs h2 k⟩
 |.bX xs,y,F,h,k=>by obtain⟨cs,h1,h2⟩:=h;exact⟨cs,h1,Cells.frame xs h2 k⟩
 |.fn f first captured,y,F,h,k=>by obtain⟨a,c,F1,F2,h1,h2,h3,rfl⟩:=h;exact⟨a,c,F1,F2,h1,Cells.frame first h2 λb hb=>k b<|hb.imp id<|by simp;exact .inl,Cells.frame captured h3 λb hb=>k b<|hb.imp id<|by simp;exact .inr,rfl⟩
 |.bA ..,_,_,h,_=>by simp[Rel]at h
 |.ptr ..,_,_,h,_=>by simp[Rel]at h
 |.hole,_,_,h,_=>by simpa[Rel]using h
 |.dead,_,_,h,_=>by simpa[Rel]using h
 |.pv _,_,_,h,_=>by simpa[Rel]using h
 |.abs _,_,_,h,_=>by simp[Rel]at h
 |.fI ..,_,_,h,_=>by simp[Rel]at h
 |.mp K,y,F,h,k=>by obtain⟨b,o,h1,h2,h3,rfl⟩:=h;exact⟨b,o,h1,(k b<|.inr<|by simp).trans h2,h3,rfl⟩
theorem Cells.frame:∀(xs:List AV){one:Bool}{l:List Value}{F:List Nat},Cells w S one xs l F->(∀b,S b\/b∈F->w'.heap[b]?=w.heap[b]?)->Cells w' S one xs l F
 |[],one,l,F,h,_=>by simpa[Cells]using h
 |x::xs,one,l,F,h,k=>by simp[Cells]at h⊢;obtain⟨y,l',F1,F2,h1,rfl,h2,h3,h4⟩:=h;exact⟨y,l',F1,F2,h1,rfl,h2,Rel.frame x h3 λb hb=>k b<|hb.imp id<|by simp;exact .inl,Cells.frame xs h4 λb hb=>k b<|hb.imp id<|by simp;exact .inr⟩
theorem cv.frame(sz:Nat):∀(xs:List AV){l:List Value}{F:List Nat},cv w S sz xs l F->(∀b,S b\/b∈F->w'.heap[b]?=w.heap[b]?)->cv w' S sz xs l F
 |[],l,F,h,_=>by simpa[cv]using h
 |x::xs,l,F,h,k=>by simp[cv]at h⊢;obtain⟨y,l',F1,F2,h1,rfl,h2,h3,h4⟩:=h;exact⟨y,l',F1,F2,h1,rfl,h2,Rel.frame x h3 λb hb=>k b<|hb.imp id<|by simp;exact .inl,cv.frame sz xs h4 λb hb=>k b<|hb.imp id<|by simp;exact .inr⟩
end
mutual
theorem Rel.mono(hS:∀b,S b->S' b):∀(av:AV){y:Value}{F:List Nat},Rel w S av y F->Rel w S' av y F
 |.v x,y,F,h=>by simpa[Rel]using h
 |.list .nil sz xs,y,F,h=>by simpa[Rel]using h
 |.list .shr sz xs,y,F,h=>by
  rcases h with h|⟨b,off,cap,cs,fz,h1,h2,h3,h4,h5,h6⟩
  ·exact .inl h
  exact .inr ⟨b,off,cap,cs,fz,h1,hS b h2,h3,h4,cv.mono hS sz xs h5,h6⟩
 |.list .own sz xs,y,F,h=>by
  rcases h with h|⟨b,cap,cs,F',h1,h2,h3,h4,h5,h6,h7⟩
  ·exact .inl h
  exact .inr ⟨b,cap,cs,F',h1,h2,h3,h4,h5,cv.mono hS sz xs h6,h7⟩
 |.box own x,y,F,h=>by
  obtain⟨b,cs,fz,F',z,h1,h2,h3,h4,h5⟩:=h;refine⟨b,cs,fz,F',z,h1,h2,Rel.mono hS x h3,h4,?_⟩;cases own
  ·simp[if_false]at h5⊢;simp_all
  simpa using h5
 |.agg xs,y,F,h=>by obtain⟨cs,h1,h2⟩:=h;exact⟨cs,h1,Cells.mono hS xs h2⟩
 |.bX xs,y,F,h=>by obtain⟨cs,h1,h2⟩:=h;exact⟨cs,h1,Cells.mono hS xs h2⟩
 |.fn f first captured,y,F,h=>by obtain⟨a,c,F1,F2,h1,h2,h3,h4⟩:=h;exact⟨a,c,F1,F2,h1,Cells.mono hS first h2,Cells.mono hS captured h3,h4⟩
 |.bA ..,_,_,h=>by simp[Rel]at h
 |.ptr ..,_,_,h=>by simp[Rel]at h
 |.hole,_,_,h=>by simpa[Rel]using h
 |.dead,_,_,h=>by simpa[Rel]using h
 |.pv _,_,_,h=>by simpa[Rel]using h
 |.abs _,_,_,h=>by simp[Rel]at h
 |.fI ..,_,_,h=>by simp[Rel]at h
 |.mp _,y,F,h=>by simpa[Rel]using h
theorem Cells.mono(hS:∀b,S b->S' b):∀(xs:List AV){one:Bool}{l:List Value}{F:List Nat},Cells w S one xs l F->Cells w S' one xs l F
 |[],one,l,F,h=>by simpa[Cells]using h
 |x::xs,one,l,F,h=>by obtain⟨y,l',F1,F2,h1,h2,h3,h4,h5⟩:=h;exact⟨y,l',F1,F2,h1,h2,h3,Rel.mono hS x h4,Cells.mono hS xs h5⟩
theorem cv.mono(hS:∀b,S b->S' b)(sz:Nat):∀(xs:List AV){l:List Value}{F:List Nat},cv w S sz xs l F->cv w S' sz xs l F
 |[],l,F,h=>by simpa[cv]using h
 |x::xs,l,F,h=>by obtain⟨y,l',F1,F2,h1,h2,h3,h4,h5⟩:=h;exact⟨y,l',F1,F2,h1,h2,h3,Rel.mono hS x h4,cv.mono hS sz xs h5⟩
end
end
mutual
def AV.bw:AV->AV
 |.list .own sz xs=>.list .shr sz (gh xs)
 |.list .nil sz xs=>.list .nil sz xs
 |.list .shr sz xs=>.list .shr sz xs
 |.box true x=>.box false x.bw
 |.box false x=>.box false x
 |.agg xs=>.agg (gh xs)
 |.bX xs=>.bX (gh xs)
 |.fn f a c=>.fn f (gh a) (gh c)
 |.v x=>.v x
 |.bA r g1 g2 p=>.bA r g1 g2 p
 |.ptr r g1 g2 p=>.ptr r g1 g2 p
 |.hole=>.hole
 |.dead=>.dead
 |.pv C=>.pv C
 |.abs J=>.abs J
 |.fI g ba=>.fI g ba
 |.mp _=>.dead
def gh:List AV->List AV
 |[]=>[]
 |x::xs=>x.bw::gh xs
end
def jD:∀xs:List AV,(gh xs).length=xs.length
 |[]=>rfl
 |x::xs=>by simp[gh,jD xs]
section
variable{w:World}{S S':Nat->Prop}
mutual
theorem Rel.share(hS:∀b,S b->S' b):∀(av:AV){y:Value}{F:List Nat},Rel w S av y F->(∀b∈F,S' b)->Rel w S' av.bw y []
 |.v x,y,F,h,_=>by simp only[Rel,AV.bw]at h⊢;exact⟨h.1,h.2.1,ao⟩
 |.list .nil sz xs,y,F,h,_=>by simp only[Rel,AV.bw]at h⊢;exact⟨h.1,h.2.1,ao⟩
 |.list .shr sz xs,y,F,h,_=>by
  simp only[Rel,AV.bw]at h⊢;rcases h with h|⟨b,off,cap,cs,fz,h1,h2,h3,h4,h5,h6⟩
  ·exact .inl ⟨h.1,h.2.1,ao⟩
  exact .inr ⟨b,off,cap,cs,fz,h1,hS b h2,h3,h4,cv.mono hS sz xs h5,ao⟩
 |.list .own sz xs,y,F,h,k=>by
  simp only[Rel,AV.bw]at h⊢;rcases h with⟨rfl,h,-⟩|⟨b,cap,cs,F',h1,h2,h3,h4,h5,h6,rfl⟩
  ·exact .inl ⟨rfl,⟨none,h⟩,ao⟩
  refine .inr ⟨b,0,cap,cs,(0,0),by rw[jD];exact h1,k b<|by simp,h2,by rw[jD];exact h3,?_,ao⟩;rw[jD];exact cv.share hS sz xs h6 (λb hb=>k b<|by simp[hb])
 |.box own x,y,F,h,k=>by
  obtain⟨b,cs,fz,F',z,h1,h2,h3,h4,h5⟩:=h;cases own
  ·simp[aeu,if_false]at h5;obtain⟨hb,rfl,rfl⟩:=h5;exact⟨b,cs,fz,[],z,h1,h2,Rel.mono hS x h3,h4,by simp[hS b hb]⟩
  simp[if_true]at h5;obtain⟨rfl,rfl⟩:=h5;exact⟨b,cs,_,[],z,h1,h2,Rel.share hS x h3 λb hb=>k b<|by simp[hb],h4,by simp[k b<|by simp]⟩
 |.agg xs,y,F,h,k=>by obtain⟨cs,h1,h2⟩:=h;exact⟨cs,h1,Cells.share hS xs h2 k⟩
 |.bX xs,y,F,h,k=>by obtain⟨cs,h1,h2⟩:=h;exact⟨cs,h1,Cells.share hS xs h2 k⟩
 |.fn f first captured,y,F,h,k=>by obtain⟨a,c,F1,F2,h1,h2,h3,rfl⟩:=h;exact⟨a,c,[],[],h1,Cells.share hS first h2 λb hb=>k b<|by simp[hb],Cells.share hS captured h3 λb hb=>k b<|by simp[hb],rfl⟩
 |.bA ..,_,_,h,_=>by simp[Rel]at h
 |.ptr ..,_,_,h,_=>by simp[Rel]at h
 |.hole,_,_,h,_=>by simp only[Rel,AV.bw]at h⊢;exact⟨h.1,ao⟩
 |.dead,_,_,h,_=>by simp[Rel,AV.bw]
 |.pv _,_,_,h,_=>by simp only[Rel,AV.bw]at h⊢;exact⟨h.1,ao⟩
 |.abs _,_,_,h,_=>by simp[Rel]at h
 |.fI ..,_,_,h,_=>by simp[Rel]at h
 |.mp _,_,_,_,_=>by simp[Rel,AV.bw]
theorem Cells.share(hS:∀b,S b->S' b):∀(xs:List AV){one:Bool}{l:List Value}{F:List Nat},Cells w S one xs l F->(∀b∈F,S' b)->Cells w S' one (gh xs) l []
 |[],one,l,F,h,_=>by simpa[Cells,gh]using h.1
 |x::xs,one,l,F,h,k=>by simp only[Cells,gh]at h⊢;obtain⟨y,l',F1,F2,h1,rfl,h3,h4,h5⟩:=h;exact⟨y,l',[],[],h1,rfl,h3,Rel.share hS x h4 λb hb=>k b<|by simp[hb],Cells.share hS xs h5 λb hb=>k b<|by simp[hb]⟩
theorem cv.share(hS:∀b,S b->S' b)(sz:Nat):∀(xs:List AV){l:List Value}{F:List Nat},cv w S sz xs l F->(∀b∈F,S' b)->cv w S' sz (gh xs) l []
 |[],l,F,h,_=>by simpa[cv,gh]using h.1
 |x::xs,l,F,h,k=>by simp only[cv,gh]at h⊢;obtain⟨y,l',F1,F2,h1,rfl,h3,h4,h5⟩:=h;exact⟨y,l',[],[],h1,rfl,h3,Rel.share hS x h4 λb hb=>k b<|by simp[hb],cv.share hS sz xs h5 λb hb=>k b<|by simp[hb]⟩
end
end
end Go.Ai
end
namespace Go.Ai
open Go.RowKit
inductive Loc
 |val (y:Value)
 |addr (a:Addr)
def bU:Value->Step->Option Loc
 |.pointer (some a),.deref=>some (.addr a)
 |.slice (some a) _ _,.idx i sz=>some (.addr<|a.add<|i*sz)
 |.tuple vs,.bX i=>vs[i]?.map .val
 |.slice (some a) _ c,.lR sz o n=>some (.val<|.slice (some<|a.add<|o*sz) n<|c-o)
 |.agg cs,.at o none=>cs[o]?.map .val
 |.agg cs,.at o (some n)=>some (.val<|.agg<|cs.extract o<|o+n)
 |_,_=>none
def step1(w:World):Loc->Step->Option Loc
 |.val y,s=>bU y s
 |.addr a,.at o _=>some (.addr<|a.add o)
 |.addr a,s=>(w.cell? a).bind (bU · s)
def loc(w:World):Loc->Path->Option Loc
 |L,[]=>some L
 |L,s::p=>(step1 w L s).bind (loc w · p)
def bg:AV->Path->Option AV
 |x,[]=>some x
 |x,s::p=>
  match x,s with
  |.list _ sz xs,.idx i gC=>if sz=gC then xs[i]?.bind (bg · p)else none
  |.box _ x,.deref=>bg x p
  |.agg xs,.at o none=>xs[o]?.bind (bg · p)
  |.agg xs,.at o (some n)=>if o+n<=xs.length then bg (.agg<|(xs.drop o).take n) p else none
  |.bX xs,.bX i=>xs[i]?.bind (bg · p)
  |.list _ sz xs,.lR gC o n=>if sz=gC/\0<n/\o+n<=xs.length then bg .dead p else none
  |_,_=>none
def dW:AV->Path->AV->Option AV
 |_,[],y=>some y
 |x,s::p,y=>
  match x,s with
  |.list .own sz xs,.idx i gC=>if sz=gC then xs[i]?.bind λx=>(dW x p y).map λx'=>.list .own sz (xs.set i x')else none
  |.box true x,.deref=>(dW x p y).map λx'=>.box true x'
  |.agg xs,.at o none=>xs[o]?.bind λx=>(dW x p y).map λx'=>.agg (xs.set o x')
  |.agg xs,.at o (some n)=>if o+n<=xs.length then(dW (.agg<|(xs.drop o).take n) p y).bind λ
    |.agg ys=>if ys.length=n then some (.agg<|xs.take o++ys++xs.drop (o+n))else none
    |_=>none
   else none
  |.bX xs,.bX i=>xs[i]?.bind λx=>(dW x p y).map λx'=>.bX (xs.set i x')
  |_,_=>none
def At(w:World)(a:Addr)(z:Value):Prop:=a.spot=none/\∃cs fz,row? w a.block=some (cs,fz)/\∀j u,z.cells[j]?=some u->cs[a.off+j]?=some u
def holds(w:World):Loc->Value->Prop
 |.val y,z=>z=y
 |.addr a,z=>At w a z
section
variable{w w':World}{S S':Nat->Prop}
def Cells.length:∀{xs:List AV}{one:Bool}{l:List Value}{F:List Nat},Cells w S one xs l F->l.length=xs.length
 |[],one,l,F,h=>by simp[Cells]at h;simp[h.1]
 |x::xs,one,l,F,h=>by obtain⟨y,l',F1,F2,rfl,rfl,h3,h4,h5⟩:=h;simp[Cells.length h5]
def cv.length(sz:Nat):∀{xs:List AV}{l:List Value}{F:List Nat},cv w S sz xs l F->l.length=xs.length*sz
 |[],l,F,h=>by simp[cv]at h;simp[h.1]
 |x::xs,l,F,h=>by obtain⟨y,l',F1,F2,rfl,rfl,h3,h4,h5⟩:=h;simp[cv.length sz h5,ac7];omega
def Cells.lens:∀{xs:List AV}{one:Bool}{l:List Value}{F:List Nat}(o:Nat){x:AV},Cells w S one xs l F->xs[o]?=some x->
 ∃y A Fx B,F=A++Fx++B/\(one=true->y.oneCell'=true)/\Rel w S x y Fx/\l[o]?=some y/\
  ∀(w':World)(S':Nat->Prop)(x':AV)(y':Value)(IF:List Nat),(∀b,S b->S' b)->(one=true->y'.oneCell'=true)->
   (∀b,S b\/b∈A\/b∈B->w'.heap[b]?=w.heap[b]?)->Rel w' S' x' y' IF->Cells w' S' one (xs.set o x') (l.set o y') (A++IF++B)
 |[],one,l,F,o,x,h,hx=>by cases hx
 |x0::xs,one,l,F,0,x,h,hx=>by obtain⟨y,l',F1,F2,rfl,rfl,h3,h4,h5⟩:=h;simp at hx;subst hx;refine⟨y,[],F1,F2,by simp,h3,h4,by simp,λw' S' x' y' IF hS h1 k hr=>?_⟩;exact⟨y',l',IF,F2,rfl,rfl,h1,hr,Cells.mono hS _<|Cells.frame xs h5 λb hb=>k b<|hb.imp id .inr⟩
 |x0::xs,one,l,F,o+1,x,h,hx=>by
  obtain⟨y,l',F1,F2,rfl,rfl,h3,h4,h5⟩:=h;obtain⟨z,A,Fx,B,rfl,g2,g3,g4,g5⟩:=Cells.lens o h5 hx;refine⟨z,F1++A,Fx,B,by simp,g2,g3,g4,λw' S' x' y' IF hS h1 k hr=>?_⟩;exact⟨y,_,F1,A++IF++B,rfl,by simp,h3,Rel.mono hS _<|Rel.frame x0 h4 λb hb=>k b<|hb.imp id λh=>.inl<|by simp[h],
   g5 w' S' x' y' IF hS h1 (λb hb=>k b<|by rcases hb with h|h|h<;>simp[h]) hr⟩
def Cells.append:∀{xs ys:List AV}{one:Bool}{l m:List Value}{F G:List Nat},Cells w S one xs l F->Cells w S one ys m G->Cells w S one (xs++ys) (l++m) (F++G)
 |[],ys,one,l,m,F,G,h,k=>by simp[Cells]at h;obtain⟨rfl,rfl⟩:=h;simpa using k
 |x::xs,ys,one,l,m,F,G,h,k=>by obtain⟨y,l',F1,F2,rfl,rfl,h3,h4,h5⟩:=h;exact⟨y,l'++m,F1,F2++G,by simp,by simp,h3,h4,Cells.append h5 k⟩
def Cells.split:∀(n:Nat){xs:List AV}{one:Bool}{l:List Value}{F:List Nat},Cells w S one xs l F->
 ∃F1 F2,F=F1++F2/\Cells w S one (xs.take n) (l.take n) F1/\Cells w S one (xs.drop n) (l.drop n) F2
 |0,xs,one,l,F,h=>⟨[],F,by simp,by simp[Cells],h⟩
 |n+1,[],one,l,F,h=>by simp[Cells]at h;obtain⟨rfl,rfl⟩:=h;exact⟨[],[],by simp,by simp[Cells],by simp[Cells]⟩
 |n+1,x::xs,one,l,F,h=>by obtain⟨y,l',F1,F2,rfl,rfl,h3,h4,h5⟩:=h;obtain⟨G1,G2,rfl,k1,k2⟩:=Cells.split n h5;refine⟨F1++G1,G2,by simp,?_,k2⟩;exact⟨y,_,F1,G1,rfl,rfl,h3,h4,k1⟩
def cv.append(sz:Nat):∀{xs ys:List AV}{l m:List Value}{F G:List Nat},cv w S sz xs l F->cv w S sz ys m G->cv w S sz (xs++ys) (l++m) (F++G)
 |[],ys,l,m,F,G,h,k=>by simp[cv]at h;obtain⟨rfl,rfl⟩:=h;simpa using k
 |x::xs,ys,l,m,F,G,h,k=>by obtain⟨y,l',F1,F2,rfl,rfl,h3,h4,h5⟩:=h;exact⟨y,l'++m,F1,F2++G,by simp,by simp,h3,h4,cv.append sz h5 k⟩
def cv.split(sz:Nat):∀(n:Nat){xs:List AV}{l:List Value}{F:List Nat},cv w S sz xs l F->
 ∃F1 F2,F=F1++F2/\cv w S sz (xs.take n) (l.take<|n*sz) F1/\cv w S sz (xs.drop n) (l.drop<|n*sz) F2
 |0,xs,l,F,h=>⟨[],F,by simp,by simp[cv],by simpa using h⟩
 |n+1,[],l,F,h=>by simp[cv]at h;obtain⟨rfl,rfl⟩:=h;exact⟨[],[],by simp,by simp[cv],by simp[cv]⟩
 |n+1,x::xs,l,F,h=>by
  obtain⟨y,l',F1,F2,rfl,rfl,h3,h4,h5⟩:=h;obtain⟨G1,G2,rfl,k1,k2⟩:=cv.split sz n h5;have e:(n+1)*sz=y.cells.toList.length+n*sz:=by simp[ac7];omega
  refine⟨F1++G1,G2,by simp,?_,?_⟩
  ·simp;exact⟨y,_,F1,G1,by rw[e,List.take_length_add_append],rfl,h3,h4,k1⟩
  rw[e,List.drop_length_add_append];simpa using k2
def cv.lens(sz:Nat){xs:List AV}{l:List Value}{F:List Nat}(i:Nat){x:AV}(h:cv w S sz xs l F)(hx:xs[i]?=some x):
 ∃y A Fx B,F=A++Fx++B/\y.cells.size=sz/\Rel w S x y Fx/\(∀j u,y.cells[j]?=some u->l[i*sz+j]?=some u)/\i*sz+sz<=l.length/\
  ∀(w':World)(S':Nat->Prop)(x':AV)(y':Value)(IF:List Nat),(∀b,S b->S' b)->y'.cells.size=sz->
   (∀b,S b\/b∈A\/b∈B->w'.heap[b]?=w.heap[b]?)->Rel w' S' x' y' IF->
   cv w' S' sz (xs.set i x') (l.take (i*sz)++y'.cells.toList++l.drop (i*sz+sz)) (A++IF++B):=by
 obtain⟨A,G,rfl,h1,h2⟩:=cv.split sz i h;have cS:=(afM.1 hx).1;have wV:=(afM.1 hx).2;rw[ac4 cS,wV]at h2;obtain⟨y,l',Fx,B,e1,rfl,h4,h5,h6⟩:=h2;have hl:=cv.length sz h;have hlen:i*sz+sz<=l.length:=by have:(i+1)*sz<=xs.length*sz:=adb _ cS;rw[ac7]at this;omega
 have oy:y.cells.toList.length=sz:=h4;have e2:l.drop (i*sz+sz)=l':=by rw[<-agf,e1,<-oy,List.drop_left]
 refine⟨y,A,Fx,B,by simp,h4,h5,λj u hu=>?_,hlen,λw' S' x' y' IF hS hs k hr=>?_⟩
 ·have hj:j<y.cells.toList.length:=by simpa using(adW.1 hu).1
  have:l[i*sz+j]?=(l.drop<|i*sz)[j]?:=by simp
  rw[this,e1,adH hj];simpa using hu
 rw[e2];have lj:xs.set i x'=xs.take i++(x'::xs.drop (i+1)):=by rw[List.set_eq_take_append_cons_drop,if_pos cS]
 rw[lj,acV,acV];refine cv.append sz (cv.mono hS sz _<|cv.frame sz _ h1 λb hb=>k b<|hb.imp id .inl)<|⟨y',l',IF,B,rfl,rfl,hs,hr,cv.mono hS sz _<|cv.frame sz _ h6 λb hb=>k b<|hb.imp id .inr⟩
end
section
variable{a:Addr}{w:World}
def bS(h:a.spot=none)(n:Nat):a.add n=⟨a.block,a.off+n,none⟩:=by cases a with|mk b o s=>cases h;unfold Addr.add;split<;>simp_all
def qb(h:a.spot=none){cs:Array Value}{fz:Nat×Nat}(hr:row? w a.block=some (cs,fz)):w.cell? a=cs[a.off]?:=by
 unfold row? at hr;unfold World.cell?;split at hr
 ·rename_i c e f hc;rw[hc];simp at hr;simp[h,hr.1]
 cases hr
def cj{y:Value}(h:y.oneCell'=true):y.cells=#[y]:=by cases y<;>simp_all[Value.oneCell',Value.cells]
def bf(cs:Array Value):(Value.agg cs).cells=cs:=rfl
def At.cell{z:Value}(h:At w a z)(h1:z.cells=#[z]):w.cell? a=some z:=by obtain⟨hs,cs,fz,hr,hc⟩:=h;rw[qb hs hr];have:=hc 0 z (by simp[h1]);simpa using this
def Chg(w w':World)(a:Addr)(z:Value):Prop:=
 ∀cs fz,row? w a.block=some (cs,fz)->∃cs',row? w' a.block=some (cs',fz)/\cs'.size=cs.size/\(∀j u,z.cells[j]?=some u->cs'[a.off+j]?=some u)/\
  ∀k,k<a.off\/a.off+z.cells.size<=k->cs'[k]?=cs[k]?
end
section
variable{w:World}{S:Nat->Prop}
def cx{L:Loc}{z:Value}(h:holds w L z)(h1:z.cells=#[z]){s:Step}(hs:∀o n,s≠.at o n):step1 w L s=bU z s:=by
 cases L with
 |val y=>simp[holds]at h;subst h;rfl
 |addr a=>
  cases s with
  | «at» o n=>simp_all
  |_=>simp[step1,At.cell h h1]
def fi{b off:Nat}{cs:Array Value}{fz:Nat×Nat}{z:Value}(hr:row? w b=some (cs,fz))(h:∀j u,z.cells[j]?=some u->cs[off+j]?=some u):At w ⟨b,off,none⟩ z:=⟨rfl,cs,fz,hr,h⟩
def At.same{w w':World}{a:Addr}{z:Value}(h:At w a z)(hr:w'.heap[a.block]?=w.heap[a.block]?):At w' a z:=by obtain⟨hs,cs,fz,h1,h2⟩:=h;exact⟨hs,cs,fz,(mC hr).trans h1,h2⟩
def Same(w w':World)(L:Loc):Prop:=∀a,L=.addr a->w'.heap[a.block]?=w.heap[a.block]?
def holds.same{w w':World}{L:Loc}{z:Value}(h:holds w L z)(hs:Same w w' L):holds w' L z:=by
 cases L with
 |val y=>exact h
 |addr a=>exact At.same h<|hs a rfl
def Same.val{w w':World}(y:Value):Same w w' (.val y):=λ_ h=>by cases h
def Same.addr{w w':World}{a:Addr}(h:w'.heap[a.block]?=w.heap[a.block]?):Same w w' (.addr a):=λ_ e=>by cases e;exact h
def Rel.step{s:Step}{p:Path}{x:AV}{z:Value}{F:List Nat}{L:Loc}{y:AV}(h:Rel w S x z F)(hL:holds w L z)(hg:bg x (s::p)=some y):
 ∃L' x' z' F',step1 w L s=some L'/\holds w L' z'/\Rel w S x' z' F'/\bg x' p=some y/\(∀b∈F',b∈F)/\
  ∀w',Same w w' L->(∀b,S b\/b∈F->w'.heap[b]?=w.heap[b]?)->step1 w' L s=some L'/\Same w w' L':=by
 unfold bg at hg;split at hg
 ·rename_i f sz xs i gC;split at hg
  ·rename_i cM;subst cM;obtain⟨xi,wV,hg⟩:=ab3.1 hg;cases f with
   |nil=>simp[Rel]at h;rw[h.1]at wV;cases wV
   |shr=>
    simp only[Rel]at h;rcases h with⟨rfl,-,-⟩|⟨b,off,cap,cs,fz,rfl,hS,hr,hc,hE,rfl⟩
    ·cases wV
    obtain⟨yi,A,Fx,B,hF,hy,hR,iV,hle,-⟩:=cv.lens sz i hE wV;have hA:At w ((⟨b,off,none⟩:Addr).add<|i*sz) yi:=by
     rw[bS rfl];refine fi hr λj u hu=>?_;have:=iV j u hu;rw[aev]at this;split at this
     ·simpa[afc]using this
     cases this
    have hFx:Fx=[]:=by have:=congrArg List.length hF;simp at this;exact aiP (by omega)
    refine⟨.addr _,xi,yi,Fx,by rw[cx hL rfl<|by simp];rfl,hA,hR,hg,λb hb=>by rw[hFx]at hb;simp at hb,λw' RM dI=>?_⟩;exact⟨by rw[cx (hL.same RM) rfl<|by simp];rfl,.addr<|by rw[bS rfl];exact dI b<|.inl hS⟩
   |own=>
    simp only[Rel]at h;rcases h with⟨rfl,-,-⟩|⟨b,cap,cs,F',rfl,hr,hc,hm,iw,hE,rfl⟩
    ·cases wV
    obtain⟨yi,A,Fx,B,rfl,hy,hR,iV,hle,-⟩:=cv.lens sz i hE wV;have hA:At w ((⟨b,0,none⟩:Addr).add<|i*sz) yi:=by
     rw[bS rfl];refine fi hr λj u hu=>?_;have:=iV j u hu;rw[aev]at this;split at this
     ·simpa[afc]using this
     cases this
    refine⟨.addr _,xi,yi,Fx,by rw[cx hL rfl<|by simp];rfl,hA,hR,hg,λb hb=>by simp[hb],λw' RM dI=>?_⟩;exact⟨by rw[cx (hL.same RM) rfl<|by simp];rfl,.addr<|by rw[bS rfl];exact dI b<|.inr<|by simp⟩
  cases hg
 ·rename_i own x0;simp only[Rel]at h;obtain⟨b,cs,fz,F',z0,rfl,hr,hR,hz,h5⟩:=h;have hA:At w ⟨b,0,none⟩ z0:=fi hr λj u hu=>by subst hz;simpa using hu
  refine⟨.addr _,x0,z0,F',by rw[cx hL rfl<|by simp];rfl,hA,hR,hg,λc hc=>?_,λw' RM dI=>?_⟩
  ·cases own
   ·simp[aeu,if_false]at h5;rw[h5.2.1]at hc;cases hc
   simp[if_true]at h5;rw[h5.2];exact ah1 _ hc
  refine⟨by rw[cx (hL.same RM) rfl<|by simp];rfl,.addr<|dI b ?_⟩;cases own
  ·simp[aeu,if_false]at h5;exact .inl h5.1
  simp[if_true]at h5;rw[h5.2];exact .inr (by simp)
 ·rename_i xs o;obtain⟨xo,hxo,hg⟩:=ab3.1 hg;simp[Rel]at h;obtain⟨cs,rfl,hC⟩:=h;obtain⟨y0,A,Fx,B,rfl,h1,hR,hl,-⟩:=Cells.lens o hC hxo;have Ew:=cj<|h1 rfl;have lV:cs[o]?=some y0:=by simpa using hl
  cases L with
  |val q=>simp[holds]at hL;subst hL;exact⟨.val y0,xo,y0,Fx,by simp[step1,bU,lV],rfl,hR,hg,λb hb=>by simp[hb],λw' _ _=>⟨by simp[step1,bU,lV],.val _⟩⟩
  |addr a=>
   have Wz:∀w0,At w0 a (.agg cs)->At w0 (a.add o) y0:=by
    rintro w0⟨hs,cs',fz,hr,hc⟩;rw[bS hs];refine fi hr λj u hu=>?_;rw[Ew]at hu
    match j,hu with
    |0,hu=>cases hu;simpa[bf]using hc o y0 (by simpa[bf]using lV)
   exact⟨_,xo,y0,Fx,rfl,Wz w hL,hR,hg,λb hb=>by simp[hb],λw' RM _=>⟨rfl,.addr<|by rw[bS hL.1];exact RM a rfl⟩⟩
 ·rename_i xs o n;split at hg
  ·rename_i hon;simp[Rel]at h;obtain⟨cs,rfl,hC⟩:=h;obtain⟨A,G,rfl,c1,c2⟩:=Cells.split o hC;obtain⟨Fx,B,rfl,d1,d2⟩:=Cells.split n c2;have hR:Rel w S (.agg<|(xs.drop o).take n) (.agg<|cs.extract o<|o+n) Fx:=by
    simp only[Rel];refine⟨_,rfl,?_⟩;have:(cs.extract o<|o+n).toList=(cs.toList.drop o).take n:=by simp
    rw[this];exact d1
   cases L with
   |val q=>simp[holds]at hL;subst hL;exact⟨_,_,_,Fx,rfl,rfl,hR,hg,λb hb=>by simp[hb],λw' _ _=>⟨rfl,.val _⟩⟩
   |addr a=>
    have Wz:∀w0,At w0 a (.agg cs)->At w0 (a.add o) (.agg<|cs.extract o<|o+n):=by
     rintro w0⟨hs,cs',fz,hr,hc⟩;rw[bS hs];refine fi hr λj u hu=>?_;rw[bf,aiQ]at hu;split at hu
     ·have:=hc (o+j) u (by rw[bf];exact hu);simpa[afc]using this
     cases hu
    exact⟨_,_,_,Fx,rfl,Wz w hL,hR,hg,λb hb=>by simp[hb],λw' RM _=>⟨rfl,.addr<|by rw[bS hL.1];exact RM a rfl⟩⟩
  cases hg
 ·rename_i xs i;obtain⟨xi,wV,hg⟩:=ab3.1 hg;simp[Rel]at h;obtain⟨cs,rfl,hC⟩:=h;obtain⟨y0,A,Fx,B,rfl,-,hR,hl,-⟩:=Cells.lens i hC wV;have lV:cs[i]?=some y0:=by simpa using hl
  exact⟨.val y0,xi,y0,Fx,by rw[cx hL rfl<|by simp];simp[bU,lV],rfl,hR,hg,λb hb=>by simp[hb],
   λw' RM _=>⟨by rw[cx (hL.same RM) rfl<|by simp];simp[bU,lV],.val _⟩⟩
 ·rename_i f sz xs gC o n;split at hg
  ·rename_i hc;obtain⟨rfl,h0,h1⟩:=hc;have hz:∃ad len cap,z=.slice (some ad) len cap:=by
    cases f with
    |nil=>simp[Rel]at h;rw[h.1]at h1;simp at h1;omega
    |shr=>
     simp only[Rel]at h;rcases h with⟨rfl,-,-⟩|⟨b,off,cap,cs,fz,rfl,-⟩
     ·simp at h1;omega
     exact⟨_,_,_,rfl⟩
    |own=>
     simp only[Rel]at h;rcases h with⟨rfl,-,-⟩|⟨b,cap,cs,F',rfl,-⟩
     ·simp at h1;omega
     exact⟨_,_,_,rfl⟩
   obtain⟨ad,len,cap,rfl⟩:=hz;exact⟨.val _,.dead,_,[],by rw[cx hL rfl<|by simp];rfl,rfl,by simp[Rel],hg,by simp,λw' RM _=>⟨by rw[cx (hL.same RM) rfl<|by simp];rfl,.val _⟩⟩
  cases hg
 cases hg
def Rel.read:∀(p:Path){x:AV}{z:Value}{F:List Nat}{L:Loc}{y:AV},Rel w S x z F->holds w L z->bg x p=some y->
 ∃L1 z1 F1,loc w L p=some L1/\holds w L1 z1/\Rel w S y z1 F1/\(∀b∈F1,b∈F)/\
  ∀w',Same w w' L->(∀b,S b\/b∈F->w'.heap[b]?=w.heap[b]?)->loc w' L p=some L1/\Same w w' L1
 |[],x,z,F,L,y,h,hL,hg=>by simp[bg]at hg;subst hg;exact⟨L,z,F,rfl,hL,h,λ_ h=>h,λw' h _=>⟨rfl,h⟩⟩
 |s::p,x,z,F,L,y,h,hL,hg=>by obtain⟨L',x',z',F',e1,e2,e3,e4,e5,e6⟩:=Rel.step h hL hg;obtain⟨L1,z1,F1,k1,k2,k3,k4,k5⟩:=Rel.read p e3 e2 e4;refine⟨L1,z1,F1,by rw[loc,e1];exact k1,k2,k3,λb hb=>e5 b<|k4 b hb,λw' XY dI=>?_⟩;obtain⟨g1,g2⟩:=e6 w' XY dI;obtain⟨g3,g4⟩:=k5 w' g2 λb hb=>dI b<|hb.imp id<|e5 b;exact⟨by rw[loc,g1];exact g3,g4⟩
end
section
variable{w:World}{S:Nat->Prop}
def Loc.jP:Loc->Option Nat
 |.val _=>none
 |.addr a=>some a.block
def acQ(L:Loc)(z:Value)(A:List Nat):Loc->Value->Prop
 |.val _,_=>True
 |.addr ad,z1=>ad.block∈A\/∃a,L=.addr a/\ad.block=a.block/\a.off<=ad.off/\ad.off+z1.cells.size<=a.off+z.cells.size
def aag(w w':World)(L1:Loc)(z1 GL:Value):Prop:=
 match L1 with
 |.val _=>GL=z1
 |.addr ad=>Chg w w' ad GL
def x6(w':World)(z:Value):Loc->Value->Prop
 |.val _,z'=>z'=z
 |.addr a,z'=>At w' a z'
def Mm{l y:List Value}{k sz n:Nat}(hl:k+sz<=l.length)(hy:y.length=sz){cs':List Value}(hlen:cs'.length=l.length)
 (h1:∀j,j<sz->cs'[k+j]?=y[j]?)(h2:∀j,j<k\/k+sz<=j->cs'[j]?=l[j]?):cs'=l.take k++y++l.drop (k+sz):=by
 apply ah2;intro j;by_cases hj:j<k
 ·rw[h2 j<|.inl hj,acV,adH<|by simp;omega,agn hj]
 by_cases Yf:j<k+sz
 ·have e:j=k+(j-k):=by omega
  rw[e,h1 (j-k)<|by omega,acV,adX<|by simp;omega,adH<|by simp;omega]
  congr 1
  simp;omega
 rw[h2 j<|.inr<|by omega,adX<|by simp;omega];simp
 congr 1
 omega
def Rel.gQ:∀(p:Path){x x' y y':AV}{z:Value}{F:List Nat}{L:Loc},Rel w S x z F->holds w L z->bg x p=some y->dW x p y'=some x'->
 F.Nodup->(∀b∈F,¬S b)->(∀b,L.jP=some b->¬S b/\b∉F)->
 ∃L1 z1 A F1 B,loc w L p=some L1/\holds w L1 z1/\Rel w S y z1 F1/\F=A++F1++B/\acQ L z A L1 z1/\
  ∀(w':World)(S':Nat->Prop)(GL:Value)(zI:List Nat),(∀b,S b->S' b)->GL.cells.size=z1.cells.size->(z1.oneCell'=true->GL.oneCell'=true)->
   (∀b,(S b\/b∈A\/b∈B\/L.jP=some b)->L1.jP≠some b->w'.heap[b]?=w.heap[b]?)->aag w w' L1 z1 GL->Rel w' S' y' GL zI->
   ∃z',Rel w' S' x' z' (A++zI++B)/\z'.cells.size=z.cells.size/\(z.oneCell'=true->z'.oneCell'=true)/\x6 w' z L z'
 |[],x,x',y,y',z,F,L,h,hL,hg,hs,_,_,_=>by
  simp only[bg,dW,abr]at hg hs;subst hg hs;refine⟨L,z,[],F,[],rfl,hL,h,by simp,?_,λw' S' GL zI hS hz h1 dI ht hr=>⟨GL,by simpa using hr,hz,h1,?_⟩⟩
  ·cases L with
   |val q=>trivial
   |addr a=>exact .inr ⟨a,rfl,rfl,abZ _,abZ _⟩
  cases L with
  |val q=>exact ht
  |addr a=>obtain⟨qm,cs,fz,Aw,hc⟩:=hL;obtain⟨cs',e1,e2,e3,e4⟩:=ht cs fz Aw;exact⟨qm,cs',fz,e1,e3⟩
 |s::p,x,x',y,y',z,F,L,h,hL,hg,hs,hN,U2,U1=>by
  unfold bg at hg;split at hg
  ·rename_i f sz xs i gC;split at hg
   ·rename_i cM;subst cM;cases f with
    |nil=>simp[dW]at hs
    |shr=>simp[dW]at hs
    |own=>
     obtain⟨xi,wV,hg⟩:=ab3.1 hg;simp only[dW,wV,if_true,adI,afe]at hs;obtain⟨xi',hs,rfl⟩:=hs;simp only[Rel]at h;rcases h with⟨rfl,-,-⟩|⟨b,cap,cs,F',rfl,hr,hc,hm,iw,hE,rfl⟩
     ·simp at wV
     obtain⟨yi,A0,Fx,B0,rfl,hy,hR,iV,hle,Km⟩:=cv.lens sz i hE wV;have hA:At w ⟨b,i*sz,none⟩ yi:=fi hr λj u hu=>by
      have:=iV j u hu;rw[aev]at this;split at this
      ·simpa using this
      simp at this
     have hxl:i<xs.length:=(afM.1 wV).1;have hEl:=cv.length sz hE;simp only[ac2,adu]at hEl hle;have yd:=adm.1 hN;simp only[ac5,not_or]at yd;have hNF:Fx.Nodup:=by have:=yd.2;rw[acT,acT]at this;exact this.1.2.1
     obtain⟨L1,z1,A,F1,B,k1,k2,k3,rfl,k5,k6⟩:=Rel.gQ p (L:=.addr ⟨b,i*sz,none⟩) hR hA hg hs hNF
      (λc cm=>U2 c<|by simp[cm]) (λc cm=>by simp[Loc.jP]at cm;subst cm;exact⟨U2 _<|by simp,yd.1.1.2⟩)
     refine⟨L1,z1,b::(A0++A),F1,B++B0,?_,k2,k3,by simp,?_,λw' S' GL zI hS hz h1 dI ht rH=>?_⟩
     ·rw[loc,cx hL rfl<|by simp,bU,bS rfl];simpa using k1
     ·cases L1 with
      |val q=>trivial
      |addr ad=>
       rcases k5 with k5|⟨a,ha,k5,_⟩
       ·exact .inl (by simp[k5])
       cases ha;exact .inl (by simp[k5])
     have Uw:∀c,(S c\/c∈A\/c∈B\/Loc.jP (.addr ⟨b,i*sz,none⟩)=some c)->L1.jP≠some c->w'.heap[c]?=w.heap[c]?:=λc cm dc=>dI c (by rcases cm with h|h|h|h<;>simp[Loc.jP]at h⊢ <;>simp[h]) dc
     obtain⟨z',j1,j2,j3,j4⟩:=k6 w' S' GL zI hS hz h1 Uw ht rH;have ab4:∃cs',row? w' b=some (cs',(0,0))/\cs'.size=cs.size/\∀k,k<i*sz\/i*sz+sz<=k->cs'[k]?=cs[k]?:=by
      by_cases hb:L1.jP=some b
      ·cases L1 with
       |val q=>simp[Loc.jP]at hb
       |addr ad=>
        simp only[Loc.jP,abr]at hb;rcases k5 with k5|⟨a,ha,k5,k7,k8⟩
        ·exact absurd (hb▸k5) λdz=>yd.1.1.2<|by simp[dz]
        cases ha;obtain⟨cs',e1,e2,e3,e4⟩:=ht cs (0,0) (by rw[hb];exact hr);refine⟨cs',by rw[<-hb];exact e1,e2,λk hk=>e4 k ?_⟩;simp only at k7 k8;rw[hy]at k8;rw[hz];omega
      exact⟨cs,(mC<|dI b (by simp) hb).trans hr,rfl,λ_ _=>rfl⟩
     obtain⟨cs',r1,r2,r3⟩:=ab4;have acf:At w' ⟨b,i*sz,none⟩ z':=j4;obtain⟨-,Sw,U8,rx,vo⟩:=acf;simp only at rx vo;rw[r1]at rx;obtain⟨rfl,rfl⟩:cs'=Sw/\(0,0)=U8:=by simpa using rx
     have ajD:=Km w' S' xi' z' (A++zI++B) hS (by rw[j2,hy]) (λc cm=>dI c (by
      rcases cm with h|h|h
      ·exact .inl h
      ·exact .inr<|.inl<|by simp[h]
      exact .inr<|.inr<|.inl<|by simp[h]) (λqn=>by
      cases L1 with
      |val q=>simp[Loc.jP]at qn
      |addr ad=>
       simp only[Loc.jP,abr]at qn;have Ks:c∈b::A:=by
        rcases k5 with k5|⟨a,ha,k5,_⟩
        ·simp[<-qn,k5]
        cases ha;simp only at k5;simp[<-qn,k5]
       rcases cm with h|h|h
       ·refine(U2 c ?_) h;rcases aci.1 Ks with e|e<;>simp[e]
       ·rcases aci.1 Ks with e|e
        ·subst e;exact yd.1.1.1 h
        have:=yd.2;rw[acT,acT]at this;exact this.1.2.2 c h c (by simp[e]) rfl
       rcases aci.1 Ks with e|e
       ·subst e;exact yd.1.2 h
       have:=yd.2;rw[acT]at this;exact this.2.2 c (by simp[e]) c h rfl)) j1
     refine⟨_,?_,rfl,λh=>h,?_⟩
     ·simp only[Rel];refine .inr ⟨b,cap,cs',A0++(A++zI++B)++B0,by rw[ae7],r1,by rw[ae7];exact hc,hm,by rw[r2];exact iw,?_,by simp⟩;rw[ae7];have e:cs'.toList.take (xs.length*sz)=(cs.toList.take<|xs.length*sz).take (i*sz)++z'.cells.toList++(cs.toList.take<|xs.length*sz).drop (i*sz+sz):=by
       refine Mm (n:=0) (by simp;omega) (by simp[j2,hy]) (by simp[r2]) (λj hj=>?_) (λj hj=>?_)
       ·rw[agn<|by omega];have CX:j<z'.cells.size:=by rw[j2,hy];exact hj
        have:=vo j z'.cells[j] (by simp[CX]);simp only[ae8];rw[this];simp[CX]
       simp only[aev,ae8];split
       ·exact r3 j hj
       rfl
      rw[e];exact ajD
     cases L with
     |val q=>rfl
     |addr a=>
      obtain⟨qm,Lp,NA,Aw,RK⟩:=hL;have Ss:a.block∉b::(A0++(A++F1++B)++B0):=(U1 a.block rfl).2;refine⟨qm,Lp,NA,(mC<|dI a.block (by simp[Loc.jP]) λqn=>?_).trans Aw,RK⟩;cases L1 with
      |val q=>simp[Loc.jP]at qn
      |addr ad=>
       simp only[Loc.jP,abr]at qn;rcases k5 with k5|⟨a',ha,k5,_⟩
       ·exact Ss (by simp[<-qn,k5])
       cases ha;simp only at k5;exact Ss (by simp[<-qn,k5])
   simp at hg
  ·rename_i own x0;cases own with
   |false=>simp[dW]at hs
   |true=>
    simp only[dW,afe]at hs;obtain⟨x0',hs,rfl⟩:=hs;simp only[Rel,if_true]at h;obtain⟨b,cs,fz,F',z0,rfl,hr,hR,Ws,rfl,rfl⟩:=h;have hA:At w ⟨b,0,none⟩ z0:=fi hr λj u hu=>by subst Ws;simpa using hu
    have yd:=adm.1 hN;obtain⟨L1,z1,A,F1,B,k1,k2,k3,rfl,k5,k6⟩:=Rel.gQ p (L:=.addr ⟨b,0,none⟩) hR hA hg hs yd.2
     (λc cm=>U2 c<|by simp[cm]) (λc cm=>by simp[Loc.jP]at cm;subst cm;exact⟨U2 _<|by simp,yd.1⟩)
    refine⟨L1,z1,b::A,F1,B,?_,k2,k3,by simp,?_,λw' S' GL zI hS hz h1 dI ht rH=>?_⟩
    ·rw[loc,cx hL rfl<|by simp,bU];simpa using k1
    ·cases L1 with
     |val q=>trivial
     |addr ad=>
      rcases k5 with k5|⟨a,ha,k5,_⟩
      ·exact .inl (by simp[k5])
      cases ha;exact .inl (by simp[k5])
    have Uw:∀c,(S c\/c∈A\/c∈B\/Loc.jP (.addr ⟨b,0,none⟩)=some c)->L1.jP≠some c->w'.heap[c]?=w.heap[c]?:=λc cm dc=>dI c (by rcases cm with h|h|h|h<;>simp[Loc.jP]at h⊢ <;>simp[h]) dc
    obtain⟨z',j1,j2,j3,j4⟩:=k6 w' S' GL zI hS hz h1 Uw ht rH;have ab4:∃cs',row? w' b=some (cs',(0,0))/\cs'.size=cs.size:=by
     by_cases hb:L1.jP=some b
     ·cases L1 with
      |val q=>simp[Loc.jP]at hb
      |addr ad=>simp only[Loc.jP,abr]at hb;obtain⟨cs',e1,e2,e3,e4⟩:=ht cs (0,0) (by rw[hb];exact hr);exact⟨cs',by rw[<-hb];exact e1,e2⟩
     exact⟨cs,(mC<|dI b (by simp) hb).trans hr,rfl⟩
    obtain⟨cs',r1,r2⟩:=ab4;have acf:At w' ⟨b,0,none⟩ z':=j4;obtain⟨-,Sw,U8,rx,vo⟩:=acf;simp only at rx vo;rw[r1]at rx;obtain⟨rfl,rfl⟩:cs'=Sw/\(0,0)=U8:=by simpa using rx
    refine⟨_,?_,rfl,λh=>h,?_⟩
    ·simp only[Rel,if_true];refine⟨b,cs',(0,0),A++zI++B,z',rfl,r1,j1,?_,rfl,by simp⟩;apply aiR;intro j;by_cases hj:j<z'.cells.size
     ·have:=vo j z'.cells[j] (by simp[hj]);simp only[afP]at this;rw[this];simp[hj]
     have Yf:¬j<cs'.size:=by rw[r2,<-Ws,<-j2];exact hj
     simp[hj,Yf]
    cases L with
    |val q=>rfl
    |addr a=>
     obtain⟨qm,Lp,NA,Aw,RK⟩:=hL;have Ss:a.block∉b::(A++F1++B):=(U1 a.block rfl).2;refine⟨qm,Lp,NA,(mC<|dI a.block (by simp[Loc.jP]) λqn=>?_).trans Aw,RK⟩;cases L1 with
     |val q=>simp[Loc.jP]at qn
     |addr ad=>
      simp only[Loc.jP,abr]at qn;rcases k5 with k5|⟨a',ha,k5,_⟩
      ·exact Ss (by simp[<-qn,k5])
      cases ha;simp only at k5;exact Ss (by simp[<-qn,k5])
  ·rename_i xs o;obtain⟨xo,hxo,hg⟩:=ab3.1 hg;simp only[dW,hxo,adI,afe]at hs;obtain⟨xo',hs,rfl⟩:=hs;simp only[Rel]at h;obtain⟨cs,rfl,hC⟩:=h;obtain⟨y0,A0,Fx,B0,rfl,h1,hR,hl,Km⟩:=Cells.lens o hC hxo;have Ew:=cj<|h1 rfl;have lV:cs[o]?=some y0:=by simpa using hl
   have ko:∃L',step1 w L (.at o none)=some L'/\holds w L' y0/\L'.jP=L.jP/\(∀a,L=.addr a->L'=.addr ⟨a.block,a.off+o,none⟩)/\∀q,L=.val q->L'=.val y0:=by
    cases L with
    |val q=>simp only[holds]at hL;subst hL;exact⟨.val y0,by simp only[step1,bU];simp[lV],rfl,rfl,by simp,by simp⟩
    |addr a=>
     obtain⟨qm,cs',fz,hr,hc⟩:=hL;refine⟨_,rfl,?_,by rw[bS qm];rfl,λa' ha=>by cases ha;rw[bS qm],by simp⟩;rw[bS qm];refine fi hr λj u hu=>?_;rw[Ew]at hu
     match j,hu with
     |0,hu=>simp at hu;subst hu;simpa[bf]using hc o y0 (by simpa[bf]using lV)
   obtain⟨L',e1,e2,e3,e4,e5⟩:=ko;have hNF:Fx.Nodup:=by rw[acT,acT]at hN;exact hN.1.2.1
   obtain⟨L1,z1,A,F1,B,k1,k2,k3,rfl,k5,k6⟩:=Rel.gQ p hR e2 hg hs hNF (λc cm=>U2 c<|by simp[cm])
    (λc cm=>by rw[e3]at cm;exact⟨(U1 c cm).1,λhm=>(U1 c cm).2<|by simp[hm]⟩)
   have hW:∀ad,L1=.addr ad->ad.block∈A\/∃a,L=.addr a/\ad.block=a.block/\a.off+o<=ad.off/\ad.off+z1.cells.size<=a.off+o+1:=by
    intro ad had;subst had;rcases k5 with k5|⟨a',ha,g1,g2,g3⟩
    ·exact .inl k5
    cases Ge:L with
    |val q=>rw[e5 q Ge]at ha;cases ha
    |addr a=>rw[e4 a Ge]at ha;cases ha;exact .inr ⟨a,rfl,g1,g2,by rw[Ew]at g3;simpa using g3⟩
   refine⟨L1,z1,A0++A,F1,B++B0,by rw[loc,e1];exact k1,k2,k3,by simp,?_,λw' S' GL zI hS hz h1z dI ht rH=>?_⟩
   ·cases w7:L1 with
    |val q=>trivial
    |addr ad=>
     rcases hW ad w7 with k|⟨a,g1,g2,g3,g4⟩
     ·exact .inl (by simp[k])
     refine .inr ⟨a,g1,g2,by omega,?_⟩;have:o<cs.size:=(adW.1 lV).1;rw[bf];omega
   obtain⟨z',j1,j2,j3,j4⟩:=k6 w' S' GL zI hS hz h1z (λc cm dc=>dI c (by
    rcases cm with h|h|h|h
    ·exact .inl h
    ·exact .inr (.inl<|by simp[h])
    ·exact .inr<|.inr<|.inl<|by simp[h]
    exact .inr<|.inr<|.inr<|by rw[e3]at h;exact h) dc) ht rH
   have PA:=Km w' S' xo' z' (A++zI++B) hS (λ_=>j3<|h1 rfl) (λc cm=>dI c (by
    rcases cm with h|h|h
    ·exact .inl h
    ·exact .inr<|.inl<|by simp[h]
    exact .inr<|.inr<|.inl<|by simp[h]) (λqn=>by
    cases w7:L1 with
    |val q=>rw[w7]at qn;simp[Loc.jP]at qn
    |addr ad=>
     rw[w7]at qn;simp only[Loc.jP,abr]at qn;rcases hW ad w7 with k|⟨a,g1,g2,-⟩
     ·rw[qn]at k;rcases cm with h|h|h
      ·exact U2 c (by simp[k]) h
      ·rw[acT,acT]at hN;exact hN.1.2.2 c h c (by simp[k]) rfl
      rw[acT]at hN;exact hN.2.2 c (by simp[k]) c h rfl
     have:=U1 c (by rw[g1,<-qn,g2];rfl);rcases cm with h|h|h
     ·exact this.1 h
     ·exact this.2 (by simp[h])
     exact this.2<|by simp[h])) j1
   refine⟨.agg<|cs.setIfInBounds o z',?_,by simp[bf],λh=>by simp[Value.oneCell']at h,?_⟩
   ·simp only[Rel];exact⟨_,rfl,by simpa using PA⟩
   cases Ge:L with
   |val q=>
    rw[e5 q Ge]at j4;simp only[x6]at j4⊢;subst j4
    congr 1
    apply aiR;intro j;rw[Array.getElem?_setIfInBounds];split
    ·rename_i hj;subst hj;split
     ·exact lV.symm
     rename_i hh;rw[ag1<|by omega]
    rfl
   |addr a=>
    rw[e4 a Ge]at j4;rw[Ge]at hL dI;obtain⟨qm,Lp,NA,Aw,RK⟩:=hL;obtain⟨-,Sw,U8,rx,vo⟩:=j4;simp only at rx vo;have hz1:=cj<|j3<|h1 rfl;refine⟨qm,Sw,U8,rx,λj u hu=>?_⟩;rw[bf,Array.getElem?_setIfInBounds]at hu;split at hu
    ·rename_i hj;subst hj;split at hu
     ·simp only[abr]at hu;subst hu;have:=vo 0 z' (by rw[hz1];rfl);simpa using this
     simp at hu
    rename_i hj;have hold:=RK j u (by rw[bf];exact hu);by_cases hb:L1.jP=some a.block
    ·cases w7:L1 with
     |val q=>rw[w7]at hb;simp[Loc.jP]at hb
     |addr ad=>
      rw[w7]at hb ht;simp only[Loc.jP,abr]at hb;rcases hW ad w7 with k|⟨a',g1,g2,g3,g4⟩
      ·exact absurd (by simp[hb▸k])<|(U1 a.block<|by rw[Ge];rfl).2
      rw[Ge]at g1;cases g1;obtain⟨cs',q1,q2,q3,q4⟩:=ht Lp NA (by rw[hb];exact Aw);rw[hb,rx]at q1;obtain⟨rfl,rfl⟩:Sw=cs'/\U8=NA:=by simpa using q1
      rw[q4 _<|by rw[hz];omega];exact hold
    have:=mC<|dI a.block (by simp[Loc.jP]) hb;rw[rx,Aw]at this;obtain⟨rfl,rfl⟩:Sw=Lp/\U8=NA:=by simpa using this
    exact hold
  ·rename_i xs o n;split at hg
   ·rename_i hon;simp only[dW,hon,if_true,ab3]at hs;obtain⟨rY,hs,gD⟩:=hs;simp only[Rel]at h;obtain⟨cs,rfl,hC⟩:=h;obtain⟨A0,G,rfl,c1,c2⟩:=Cells.split o hC;obtain⟨Fx,B0,rfl,d1,d2⟩:=Cells.split n c2;rw[agf,agf]at d2;have hlen:=Cells.length hC;have ak1:cs.size=xs.length:=by simpa using hlen
    have hR:Rel w S (.agg<|(xs.drop o).take n) (.agg<|cs.extract o<|o+n) Fx:=by
     simp only[Rel];refine⟨_,rfl,?_⟩;have:(cs.extract o<|o+n).toList=(cs.toList.drop o).take n:=by simp
     rw[this];exact d1
    have cM:(Value.agg<|cs.extract o<|o+n).cells.size=n:=by rw[bf];simp;omega
    have ko:∃L',step1 w L (.at o<|some n)=some L'/\holds w L' (.agg<|cs.extract o<|o+n)/\L'.jP=L.jP/\(∀a,L=.addr a->L'=.addr ⟨a.block,a.off+o,none⟩)/\
     ∀q,L=.val q->L'=.val (.agg<|cs.extract o<|o+n):=by
     cases L with
     |val q=>simp only[holds]at hL;subst hL;exact⟨_,rfl,rfl,rfl,by simp,by simp⟩
     |addr a=>
      obtain⟨qm,cs',fz,hr,hc⟩:=hL;refine⟨_,rfl,?_,by rw[bS qm];rfl,λa' ha=>by cases ha;rw[bS qm],by simp⟩;rw[bS qm];refine fi hr λj u hu=>?_;rw[bf,aiQ]at hu;split at hu
      ·have:=hc (o+j) u (by rw[bf];exact hu);simpa[afc]using this
      simp at hu
    obtain⟨L',e1,e2,e3,e4,e5⟩:=ko;have hNF:Fx.Nodup:=by rw[acT,acT]at hN;exact hN.2.1.1
    obtain⟨L1,z1,A,F1,B,k1,k2,k3,rfl,k5,k6⟩:=Rel.gQ p hR e2 hg hs hNF (λc cm=>U2 c<|by simp[cm])
     (λc cm=>by rw[e3]at cm;exact⟨(U1 c cm).1,λhm=>(U1 c cm).2<|by simp[hm]⟩)
    have hW:∀ad,L1=.addr ad->ad.block∈A\/∃a,L=.addr a/\ad.block=a.block/\a.off+o<=ad.off/\ad.off+z1.cells.size<=a.off+o+n:=by
     intro ad had;subst had;rcases k5 with k5|⟨a',ha,g1,g2,g3⟩
     ·exact .inl k5
     cases Ge:L with
     |val q=>rw[e5 q Ge]at ha;cases ha
     |addr a=>rw[e4 a Ge]at ha;cases ha;exact .inr ⟨a,rfl,g1,g2,by rw[cM]at g3;exact g3⟩
    refine⟨L1,z1,A0++A,F1,B++B0,by rw[loc,e1];exact k1,k2,k3,by simp,?_,λw' S' GL zI hS hz h1z dI ht rH=>?_⟩
    ·cases w7:L1 with
     |val q=>trivial
     |addr ad=>
      rcases hW ad w7 with k|⟨a,g1,g2,g3,g4⟩
      ·exact .inl (by simp[k])
      refine .inr ⟨a,g1,g2,by omega,?_⟩;rw[bf];omega
    obtain⟨z',j1,j2,j3,j4⟩:=k6 w' S' GL zI hS hz h1z (λc cm dc=>dI c (by
     rcases cm with h|h|h|h
     ·exact .inl h
     ·exact .inr (.inl<|by simp[h])
     ·exact .inr<|.inr<|.inl<|by simp[h]
     exact .inr<|.inr<|.inr<|by rw[e3]at h;exact h) dc) ht rH
    split at gD
    ·rename_i ys;split at gD
     ·rename_i oy;simp only[abr]at gD;subst gD;simp only[Rel]at j1;obtain⟨cs1,rfl,hC1⟩:=j1;have afv:cs1.size=n:=by rw[cM,bf]at j2;exact j2
      have UA:∀c,(S c\/c∈A0\/c∈B0)->w'.heap[c]?=w.heap[c]?:=λc cm=>dI c (by
       rcases cm with h|h|h
       ·exact .inl h
       ·exact .inr<|.inl<|by simp[h]
       exact .inr<|.inr<|.inl<|by simp[h]) (λqn=>by
       cases w7:L1 with
       |val q=>rw[w7]at qn;simp[Loc.jP]at qn
       |addr ad=>
        rw[w7]at qn;simp only[Loc.jP,abr]at qn;rcases hW ad w7 with k|⟨a,g1,g2,-⟩
        ·rw[qn]at k;rcases cm with h|h|h
         ·exact U2 c (by simp[k]) h
         ·rw[acT]at hN;exact hN.2.2 c h c (by simp[k]) rfl
         rw[acT,acT]at hN;exact hN.2.1.2.2 c (by simp[k]) c h rfl
        have:=U1 c (by rw[g1,<-qn,g2];rfl);rcases cm with h|h|h
        ·exact this.1 h
        ·exact this.2 (by simp[h])
        exact this.2<|by simp[h])
      have jj:Cells w' S' true (xs.take o++ys++xs.drop (o+n)) (cs.toList.take o++cs1.toList++cs.toList.drop (o+n)) (A0++(A++zI++B)++B0):=
       Cells.append (Cells.append (Cells.mono hS _<|Cells.frame _ c1 λc cm=>UA c<|cm.imp id .inl) hC1)
        (Cells.mono hS _<|Cells.frame _ d2 λc cm=>UA c<|cm.imp id .inr)
      refine⟨.agg (cs.toList.take o++cs1.toList++cs.toList.drop (o+n)).toArray,?_,?_,λh=>by simp[Value.oneCell']at h,?_⟩
      ·simp only[Rel];exact⟨_,rfl,by simpa using jj⟩
      ·rw[bf,bf];simp;omega
      cases Ge:L with
      |val q=>
       rw[e5 q Ge]at j4;simp only[x6,Value.agg.injEq]at j4⊢;subst j4;apply aiR;intro j;simp only[aiS];by_cases hj:j<o
       ·rw[acV,adH<|by simp;omega,agn hj];simp
       by_cases Yf:j<o+n
       ·rw[acV,adX<|by simp;omega,adH<|by simp;omega];simp only[ae8,aiQ,ac2,adu];rw[if_pos<|by omega]
        congr 1;omega
       rw[adX<|by simp;omega];simp only[ago,ae8,acW,ac2,adu,afv]
       congr 1;omega
      |addr a=>
       rw[e4 a Ge]at j4;rw[Ge]at hL dI;obtain⟨qm,Lp,NA,Aw,RK⟩:=hL;obtain⟨-,Sw,U8,rx,vo⟩:=j4;simp only at rx vo;refine⟨qm,Sw,U8,rx,λj u hu=>?_⟩;rw[bf]at hu;simp only[aiS]at hu;have En:∀j u,(j<o\/o+n<=j)->cs[j]?=some u->Sw[a.off+j]?=some u:=by
        intro j u hj hu;have hold:=RK j u (by rw[bf];exact hu);by_cases hb:L1.jP=some a.block
        ·cases w7:L1 with
         |val q=>rw[w7]at hb;simp[Loc.jP]at hb
         |addr ad=>
          rw[w7]at hb ht;simp only[Loc.jP,abr]at hb;rcases hW ad w7 with k|⟨a',g1,g2,g3,g4⟩
          ·exact absurd (by simp[hb▸k])<|(U1 a.block<|by rw[Ge];rfl).2
          rw[Ge]at g1;cases g1;obtain⟨cs',q1,q2,q3,q4⟩:=ht Lp NA (by rw[hb];exact Aw);rw[hb,rx]at q1;obtain⟨rfl,rfl⟩:Sw=cs'/\U8=NA:=by simpa using q1
          rw[q4 _<|by rw[hz];omega];exact hold
        have:=mC<|dI a.block (by simp[Loc.jP]) hb;rw[rx,Aw]at this;obtain⟨rfl,rfl⟩:Sw=Lp/\U8=NA:=by simpa using this
        exact hold
       by_cases hj:j<o
       ·rw[acV,adH<|by simp;omega,agn hj]at hu;exact En j u (.inl hj) (by simpa using hu)
       by_cases Yf:j<o+n
       ·rw[acV,adX<|by simp;omega,adH<|by simp;omega]at hu;simp only[ae8,ac2,adu]at hu;have:=vo (j-min o cs.size) u (by rw[bf];exact hu);rw[<-this];congr 1;omega
       rw[adX<|by simp;omega]at hu;simp only[ago,ae8,acW,ac2,adu,afv]at hu;refine En j u (.inr<|by omega) ?_;rw[<-hu];congr 1;omega
     simp at gD
    simp at gD
   simp at hg
  ·rename_i xs i;obtain⟨xi,wV,hg⟩:=ab3.1 hg;simp only[dW,wV,adI,afe]at hs;obtain⟨xi',hs,rfl⟩:=hs;simp only[Rel]at h;obtain⟨cs,rfl,hC⟩:=h;obtain⟨y0,A0,Fx,B0,rfl,-,hR,hl,Km⟩:=Cells.lens i hC wV;have lV:cs[i]?=some y0:=by simpa using hl
   have ko:step1 w L (.bX i)=some (.val y0):=by rw[cx hL rfl<|by simp];simp[bU,lV]
   have hNF:Fx.Nodup:=by rw[acT,acT]at hN;exact hN.1.2.1
   obtain⟨L1,z1,A,F1,B,k1,k2,k3,rfl,k5,k6⟩:=Rel.gQ p (L:=.val y0) hR rfl hg hs hNF (λc cm=>U2 c<|by simp[cm]) (by simp[Loc.jP]);have hW:∀ad,L1=.addr ad->ad.block∈A:=by
    intro ad had;subst had;rcases k5 with k5|⟨a',ha,_⟩
    ·exact k5
    cases ha
   refine⟨L1,z1,A0++A,F1,B++B0,by rw[loc,ko];exact k1,k2,k3,by simp,?_,λw' S' GL zI hS hz h1z dI ht rH=>?_⟩
   ·cases w7:L1 with
    |val q=>trivial
    |addr ad=>exact .inl (by simp[hW ad w7])
   obtain⟨z',j1,j2,j3,j4⟩:=k6 w' S' GL zI hS hz h1z (λc cm dc=>dI c (by
    rcases cm with h|h|h|h
    ·exact .inl h
    ·exact .inr (.inl<|by simp[h])
    ·exact .inr<|.inr<|.inl<|by simp[h]
    simp[Loc.jP]at h) dc) ht rH
   simp only[x6]at j4;subst j4;have PA:=Km w' S' xi' z' (A++zI++B) hS (by simp) (λc cm=>dI c (by
    rcases cm with h|h|h
    ·exact .inl h
    ·exact .inr<|.inl<|by simp[h]
    exact .inr<|.inr<|.inl<|by simp[h]) (λqn=>by
    cases w7:L1 with
    |val q=>rw[w7]at qn;simp[Loc.jP]at qn
    |addr ad=>
     rw[w7]at qn;simp only[Loc.jP,abr]at qn;have k:=hW ad w7;rw[qn]at k;rcases cm with h|h|h
     ·exact U2 c (by simp[k]) h
     ·rw[acT,acT]at hN;exact hN.1.2.2 c h c (by simp[k]) rfl
     rw[acT]at hN;exact hN.2.2 c (by simp[k]) c h rfl)) j1
   refine⟨.tuple cs,?_,rfl,λh=>h,?_⟩
   ·simp only[Rel];refine⟨cs,rfl,?_⟩;have:cs.toList.set i z'=cs.toList:=by
     apply ah2;intro j;rw[ag2];split
     ·rename_i hj;subst hj;split
      ·exact hl.symm
      rename_i hh;rw[adA<|by omega]
     rfl
    rw[this]at PA;simpa using PA
   cases Ge:L with
   |val q=>rfl
   |addr a=>
    rw[Ge]at hL dI;obtain⟨qm,Lp,NA,Aw,RK⟩:=hL;refine⟨qm,Lp,NA,(mC<|dI a.block (by simp[Loc.jP]) λqn=>?_).trans Aw,RK⟩;cases w7:L1 with
    |val q=>rw[w7]at qn;simp[Loc.jP]at qn
    |addr ad=>rw[w7]at qn;simp only[Loc.jP,abr]at qn;have k:=hW ad w7;rw[qn]at k;exact(U1 a.block<|by rw[Ge];rfl).2 (by simp[k])
  ·rename_i f sz xs gC o n;cases f<;>simp[dW]at hs
  simp at hg
end
section
variable{F:List Nat}{i:Nat}{S:Nat->Prop}{T:Nat->Value}{p:Path}{α:Type}{w w':World}
structure Sl where
 av:AV
 g1:Nat
 g2:Nat
instance:Inhabited Sl:=⟨⟨.dead,0,0⟩⟩
abbrev St:=Nat->Sl
def gQ(f:Nat->α)(i:Nat)(x:α):Nat->α:=λj=>if j=i then x else f j
def aA(f:Nat->α)(i:Nat)(x:α):gQ f i x i=x:=by simp[gQ]
def ai(f:Nat->α){j:Nat}(x:α)(h:j≠i):gQ f i x j=f j:=by simp[gQ,h]
def flat:Path->Bool
 |[]=>false
 |_::p=>p.all λ|.at .. =>true|_=>false
def kl:Path->Bool
 |[]=>true
 |[.lR ..]=>true
 |[.bX _]=>true
 |_=>false
def Qu:Path->Bool
 |[]=>true
 |[.bX _]=>true
 |_=>false
def GO{q:Prop}(h:Qu p=true\/q):kl p=true\/q:=h.imp (λh=>by
 unfold Qu at h;split at h
 ·rfl
 ·rfl
 cases h) id
def FU(h:kl p=true)(z:Value):loc w (.val z) p=loc w' (.val z) p:=by
 unfold kl at h;split at h
 ·rfl
 ·simp[loc,step1]
 ·simp[loc,step1]
 cases h
def FX(h:kl p=true){z:Value}{L:Loc}(hl:loc w (.val z) p=some L):∃u,L=.val u:=by
 unfold kl at h;split at h
 ·simp[loc]at hl;exact⟨z,hl.symm⟩
 ·simp[loc,step1]at hl;cases z<;>simp[bU]at hl;rename_i a n c;cases a<;>simp at hl;exact⟨_,hl.symm⟩
 ·simp[loc,step1]at hl;cases z<;>simp[bU]at hl;obtain⟨u,-,hu⟩:=hl;exact⟨_,hu.symm⟩
 cases h
def HB{w w':World}:∀(p:Path)(a:Addr),(p.all λ|.at .. =>true|_=>false)=true->loc w (.addr a) p=loc w' (.addr a) p
 |[],a,_=>rfl
 |.at o n::p,a,h=>by exact HB p _ h
 |.idx .. ::p,a,h=>by cases h
 |.deref::p,a,h=>by cases h
 |.bX .. ::p,a,h=>by cases h
 |.lR .. ::p,a,h=>by cases h
def Ap{w w':World}:∀(p:Path)(z:Value),(p.all λ|.at .. =>true|_=>false)=true->loc w (.val z) p=loc w' (.val z) p
 |[],z,_=>rfl
 |.at o n::p,z,h=>by
  simp[loc,step1];have hp:=h;cases hh:bU z (.at o n)with
  |none=>rfl
  |some L=>
   cases L with
   |val y=>exact Ap p y hp
   |addr a=>exact HB p a hp
 |.idx .. ::p,a,h=>by cases h
 |.deref::p,a,h=>by cases h
 |.bX .. ::p,a,h=>by cases h
 |.lR .. ::p,a,h=>by cases h
def J3(h:flat p=true)(z:Value):loc w (.val z) p=loc w' (.val z) p:=by
 cases p with
 |nil=>rfl
 |cons s p=>
  simp[loc,step1];cases hh:bU z s with
  |none=>rfl
  |some L=>
   cases L with
   |val y=>exact Ap p y h
   |addr a=>exact HB p a h
def ak(w:World)(S:Nat->Prop)(σ:St)(T:Nat->Value)(i:Nat)(F:List Nat):Prop:=
 match(σ i).av with
 |.bA r g1 g2 p=>F=[]/\g1<=(σ r).g1/\g2<=(σ r).g2/\((σ r).g1=g1->(kl p=true\/(σ r).g2=g2)->(kl p=false->∃y,bg (σ r).av p=some y)->
   ∃L,loc w (.val<|T r) p=some L/\holds w L (T i)/\∀ad,L=.addr ad->(T i).oneCell'=true)
 |.ptr r g1 g2 p=>F=[]/\g1<=(σ r).g1/\g2<=(σ r).g2/\(∃ad,T i=.pointer (some ad))/\((σ r).g1=g1->(flat p=true\/(σ r).g2=g2)->(flat p=false->∃y,bg (σ r).av p=some y)->
   ∃ad,loc w (.val<|T r) p=some (.addr ad)/\T i=.pointer (some ad))
 |.abs J=>∀w' S',(∀b,S b\/b∈F->w'.heap[b]?=w.heap[b]?)->(∀b,S b->S' b)->J w' S' F
 |.fI g ba=>F=[]/\(∀q∈ba,q.2<=(σ q.1).g1)/\((∀q∈ba,(σ q.1).g1=q.2)->T i=.func (.func g) #[] (ba.map λq=>T q.1).toArray)
 |av=>Rel w S av (T i) F
def AV.plain:AV->Bool
 |.bA .. |.ptr .. |.abs .. |.fI .. =>false
 |_=>true
def ak.aB{σ:St}(hp:(σ i).av.plain=true):ak w S σ T i F↔Rel w S (σ i).av (T i) F:=by
 unfold ak;split
 ·rename_i h;rw[h]at hp;simp[AV.plain]at hp
 ·rename_i h;rw[h]at hp;simp[AV.plain]at hp
 ·rename_i h;rw[h]at hp;simp[AV.plain]at hp
 ·rename_i h;rw[h]at hp;simp[AV.plain]at hp
 rfl
def Rel.plain{av:AV}{y:Value}(h:Rel w S av y F):av.plain=true:=by cases av<;>simp_all[Rel,AV.plain]
structure aS(S:Nat->Prop)(B:Nat->Prop)(σ:St)(T:Nat->Value)(w:World)(F:Nat->List Nat):Prop where
 rel:∀i,ak w S σ T i<|F i
 nodup:∀i,(F i).Nodup
 di:∀i j,i≠j->∀b∈F i,b∉F j
 own:∀i,∀b∈F i,B b/\b<w.heap.size/\¬S b
 shr:∀b,S b->b<w.heap.size
structure agA(S:Nat->Prop)(σ σ':St)(T T':Nat->Value)(w w':World)(F:Nat->List Nat):Prop where
 g1:∀r,(σ r).g1<=(σ' r).g1
 g2:∀r,(σ r).g2<=(σ' r).g2
 val:∀r,(σ' r).g1=(σ r).g1->T' r=T r
 ins:∀r,(σ' r).g1=(σ r).g1->(σ' r).g2=(σ r).g2->(∀p y,bg (σ' r).av p=some y->∃y',bg (σ r).av p=some y')/\∀b,S b\/b∈F r->w'.heap[b]?=w.heap[b]?
def ak.goes{S':Nat->Prop}{σ σ':St}{T':Nat->Value}{F:Nat->List Nat}(hc:∀i,ak w S σ T i<|F i)(hg:agA S σ σ' T T' w w' F)
 (hS:∀b,S b->S' b)(cC:(σ' i).av=(σ i).av)(hT:T' i=T i)(dI:∀b,S b\/b∈F i->w'.heap[b]?=w.heap[b]?):ak w' S' σ' T' i (F i):=by
 have h:=hc i;unfold ak at h⊢;rw[cC];split
 ·rename_i r g1 g2 p hv;rw[hv]at h;obtain⟨h1,h2,h3,h4⟩:=h;refine⟨h1,acX h2<|hg.g1 r,acX h3<|hg.g2 r,λk1 k2 k3=>?_⟩;have e1:(σ r).g1=g1:=ahn (by have:=hg.g1 r;omega) h2;have YK:(σ' r).g1=(σ r).g1:=by omega
  by_cases hp:kl p=true
  ·obtain⟨L,l1,l2,l5⟩:=h4 e1 (.inl hp) (λh=>by rw[hp]at h;cases h);obtain⟨u,rfl⟩:=FX hp l1;refine⟨_,by rw[hg.val r YK,<-FU (w:=w) hp];exact l1,?_,by simp⟩;simpa[holds,hT]using l2
  have k2':(σ' r).g2=g2:=k2.resolve_left hp;have e2:(σ r).g2=g2:=ahn (by have:=hg.g2 r;omega) h3;obtain⟨y',D7⟩:=k3 (by simpa using hp);obtain⟨j1,j2⟩:=hg.ins r YK (by omega);obtain⟨y,hy⟩:=j1 p y' D7;obtain⟨L,l1,l2,l5⟩:=h4 e1 (.inr e2) λ_=>⟨y,hy⟩;have hr:=hc r;have iD:(σ r).av.plain=true:=by
   cases p with
   |nil=>exact absurd rfl hp
   |cons s p=>cases hh:(σ r).av<;>simp[AV.plain]<;>(rw[hh]at hy;simp[bg]at hy)
  rw[ak.aB iD]at hr;obtain⟨L1,z1,F1,r1,r2,r3,r4,r5⟩:=Rel.read p (L:=.val<|T r) hr rfl hy;rw[r1]at l1;simp[abr]at l1;subst l1;obtain⟨q1,q2⟩:=r5 w' (.val _) j2;exact⟨L1,by rw[hg.val r YK];exact q1,by rw[hT];exact l2.same q2,by rw[hT];exact l5⟩
 ·rename_i r g1 g2 p hv;rw[hv]at h;obtain⟨h1,h2,h3,h5,h4⟩:=h;refine⟨h1,acX h2<|hg.g1 r,acX h3<|hg.g2 r,by rw[hT];exact h5,λk1 k2 k3=>?_⟩;have e1:(σ r).g1=g1:=ahn (by have:=hg.g1 r;omega) h2;have YK:(σ' r).g1=(σ r).g1:=by omega
  by_cases hp:flat p=true
  ·obtain⟨ad,l1,l2⟩:=h4 e1 (.inl hp) (λh=>by rw[hp]at h;cases h);exact⟨ad,by rw[hg.val r YK,<-J3 (w:=w) hp];exact l1,by rw[hT];exact l2⟩
  have k2':(σ' r).g2=g2:=k2.resolve_left hp;have e2:(σ r).g2=g2:=ahn (by have:=hg.g2 r;omega) h3;obtain⟨y',D7⟩:=k3 (by simpa using hp);obtain⟨j1,j2⟩:=hg.ins r YK (by omega);obtain⟨y,hy⟩:=j1 p y' D7;obtain⟨ad,l1,l2⟩:=h4 e1 (.inr e2) λ_=>⟨y,hy⟩;have hr:=hc r;cases p with
  |nil=>simp[loc]at l1
  |cons s p=>
   have iD:(σ r).av.plain=true:=by cases hh:(σ r).av<;>simp[AV.plain]<;>(rw[hh]at hy;simp[bg]at hy)
   rw[ak.aB iD]at hr;obtain⟨L1,z1,F1,r1,r2,r3,r4,r5⟩:=Rel.read (s::p) (L:=.val<|T r) hr rfl hy;rw[r1]at l1;cases l1;exact⟨ad,by rw[hg.val r YK];exact(r5 w' (.val _) j2).1,by rw[hT];exact l2⟩
 ·rename_i J hv;rw[hv]at h;exactλw2 S2 k1 k2=>h w2 S2 (λb hb=>(k1 b<|hb.imp (hS b) id).trans<|dI b hb) (λb hb=>k2 b<|hS b hb)
 ·rename_i g ba hv;rw[hv]at h;obtain⟨h1,h2,h3⟩:=h;refine⟨h1,λq hq=>acX (h2 q hq)<|hg.g1 _,λk1=>?_⟩;have e1:∀q∈ba,(σ q.1).g1=q.2:=λq hq=>ahn (by have:=hg.g1 q.1;rw[k1 q hq]at this;exact this)<|h2 q hq;rw[hT,h3 e1]
  congr 2
  exact adE λq hq=>(hg.val q.1<|by rw[k1 q hq,e1 q hq]).symm
 rename_i h1 h2 h3 h4;have iD:(σ i).av.plain=true:=by
  cases hh:(σ i).av with
  |bA r g1 g2 p=>exact absurd hh (h1 r g1 g2 p)
  |ptr r g1 g2 p=>exact absurd hh (h2 r g1 g2 p)
  |abs J=>exact absurd hh (h3 J)
  |fI g ba=>exact absurd hh (h4 g ba)
  |_=>rfl
 have h':=hc i;rw[ak.aB iD]at h';rw[hT];exact Rel.mono hS _<|Rel.frame _ h' dI
end
section
variable{S S':Nat->Prop}{B:Nat->Prop}{σ:St}{T:Nat->Value}{w w':World}{F:Nat->List Nat}
section
variable{av' y y':AV}{ad:Addr}{i:Nat}{z:Value}
def aS.step(h:aS S B σ T w F){σ':St}{T':Nat->Value}{F':Nat->List Nat}(hg:agA S σ σ' T T' w w' F)(hS:∀b,S b->S' b)
 (hs:∀i,((σ' i).av=(σ i).av/\T' i=T i/\F' i=F i/\∀b,S b\/b∈F i->w'.heap[b]?=w.heap[b]?)\/ak w' S' σ' T' i (F' i))
 (hn:∀i,(F' i).Nodup)(hd:∀i j,i≠j->∀b∈F' i,b∉F' j)(ho:∀i,∀b∈F' i,B b/\b<w'.heap.size/\¬S' b)(yM:∀b,S' b->b<w'.heap.size):
 aS S' B σ' T' w' F' where
 rel i:=by
  rcases hs i with⟨h1,h2,h3,h4⟩|h1
  ·rw[h3];exact ak.goes h.rel hg hS h1 h2 h4
  exact h1
 nodup:=hn
 di:=hd
 own:=ho
 shr:=yM
def aS.put(h:aS S B σ T w F)(d:Nat)(av:AV)(z:Value)(fK:ak w S (gQ σ d ⟨av,(σ d).g1+1,(σ d).g2⟩) (gQ T d z) d []):
 aS S B (gQ σ d ⟨av,(σ d).g1+1,(σ d).g2⟩) (gQ T d z) w (gQ F d []):=by
 refine h.step (w':=w) (S':=S) ⟨λr=>?_,λr=>?_,λr hr=>?_,λr hr _=>?_⟩ (λ_ h=>h) (λi=>?_) (λi=>?_) (λi j gS b hb=>?_) (λi b hb=>?_) h.shr
 ·by_cases e:r=d
  ·subst e;rw[aA];simp
  rw[ai _ _ e];exact .refl
 ·by_cases e:r=d
  ·subst e;rw[aA];simp
  rw[ai _ _ e];exact .refl
 ·by_cases e:r=d
  ·subst e;rw[aA]at hr;simp at hr
  rw[ai _ _ e]
 ·by_cases e:r=d
  ·subst e;rw[aA]at hr;simp at hr
  rw[ai _ _ e];simp_all
 ·by_cases e:i=d
  ·subst e;right;rw[aA];exact fK
  left;rw[ai _ _ e,ai _ _ e,ai _ _ e];simp_all
 ·by_cases e:i=d
  ·subst e;rw[aA];simp_all
  rw[ai _ _ e];exact h.nodup i
 ·by_cases e:i=d
  ·subst e;rw[aA]at hb;cases hb
  rw[ai _ _ e]at hb;by_cases e':j=d
  ·subst e';rw[aA];simp
  rw[ai _ _ e'];exact h.di i j gS b hb
 by_cases e:i=d
 ·subst e;rw[aA]at hb;cases hb
 rw[ai _ _ e]at hb;exact h.own i b hb
def made(σ:St)(M:List Nat)(n:Nat)(y:AV):St:=λi=>if i=n then⟨y,(σ n).g1+1,(σ n).g2⟩else if i∈M then⟨.dead,(σ i).g1+1,(σ i).g2⟩else σ i
def aS.make(h:aS S B σ T w F)(M:List Nat)(n:Nat)(y:AV)(z:Value)(Fy:List Nat)(hB:∀b,w.heap.size<=b->B b)(iw:w.heap.size<=w'.heap.size)
 (dI:∀b,b<w.heap.size->(∀m∈M,b∉F m)->w'.heap[b]?=w.heap[b]?)(hFy:Fy.Nodup)(Gb:∀b∈Fy,(∃m∈M,b∈F m)\/w.heap.size<=b/\b<w'.heap.size)
 (fK:Rel w' S y z Fy):aS S B (made σ M n y) (gQ T n z) w' (λi=>if i=n then Fy else if i∈M then[]else F i):=by
 have cS:∀i b,b∈F i->b<w.heap.size:=λi b hb=>(h.own i b hb).2.1;have ZW:∀b,S b->w'.heap[b]?=w.heap[b]?:=λb hb=>dI b (h.shr b hb) λm _ rV=>(h.own m b rV).2.2 hb;have hF':∀i,i∉M->∀b∈F i,w'.heap[b]?=w.heap[b]?:=λi hi b hb=>dI b (cS i b hb) λm hm rV=>h.di i m (λe=>hi (e▸hm)) b hb rV;have hy:∀i,i∉M->∀b∈F i,b∉Fy:=λi hi b hb hbF=>by
  rcases Gb b hbF with⟨m,hm,rV⟩|⟨h1,_⟩
  ·exact h.di i m (λe=>hi (e▸hm)) b hb rV
  have:=cS i b hb;omega
 refine h.step (w':=w') (S':=S) ⟨λr=>?_,λr=>?_,λr hr=>?_,λr hr _=>?_⟩ (λ_ h=>h) (λi=>?_) (λi=>?_) (λi j gS b hb=>?_) (λi b hb=>?_)
  (λb hb=>adv (h.shr b hb) iw)
 ·unfold made;split
  ·rename_i e;subst e;simp
  split<;>simp
 ·unfold made;split
  ·rename_i e;subst e;simp
  split<;>simp
 ·unfold made at hr;split at hr
  ·rename_i e;subst e;simp at hr
  rename_i e;exact ai _ _ e
 ·unfold made at hr⊢;split at hr
  ·rename_i e;subst e;simp at hr
  rename_i e;split at hr
  ·simp at hr
  rename_i e2;rw[if_neg e,if_neg e2];exact⟨λp y hy=>⟨y,hy⟩,λb hb=>hb.elim (ZW b)<|hF' r e2 b⟩
 ·by_cases e:i=n
  ·subst e;right;rw[ak.aB<|by simp[made];exact fK.plain];simp[made,aA];exact fK
  by_cases e2:i∈M
  ·right;rw[ak.aB<|by simp[made,e,e2,AV.plain]];simp[made,e,e2,Rel]
  left;simp[made,e,e2,ai _ _ e];exactλb hb=>hb.elim (ZW b) (hF' i e2 b)
 ·by_cases e:i=n
  ·simp[e,if_true];exact hFy
  by_cases e2:i∈M
  ·simp[e,e2]
  simp[e,e2,if_false];exact h.nodup i
 ·by_cases e:i=n
  ·simp[e,if_true]at hb;have hj:j≠n:=λe'=>gS<|e.trans e'.symm;simp only[hj,if_false];by_cases e2:j∈M
   ·simp[e2]
   simp[e2,if_false];exactλIJ=>hy j e2 b IJ hb
  simp only[e,if_false]at hb;by_cases e2:i∈M
  ·simp[e2]at hb
  simp[e2,if_false]at hb;by_cases e3:j=n
  ·simp[e3,if_true];exact hy i e2 b hb
  simp only[e3,if_false];by_cases e4:j∈M
  ·simp[e4]
  simp[e4,if_false];exact h.di i j gS b hb
 by_cases e:i=n
 ·simp[e,if_true]at hb;rcases Gb b hb with⟨m,hm,rV⟩|⟨h1,h2⟩
  ·exact⟨(h.own m b rV).1,adv (cS m b rV) iw,(h.own m b rV).2.2⟩
  exact⟨hB b h1,h2,λhSb=>by have:=h.shr b hSb;omega⟩
 simp only[e,if_false]at hb;by_cases e2:i∈M
 ·simp[e2]at hb
 simp[e2,if_false]at hb;exact⟨(h.own i b hb).1,adv (cS i b hb) iw,(h.own i b hb).2.2⟩
def VH(h:At w ad z):Chg w w ad z:=by intro cs fz hr;obtain⟨_,cs',fz',rH,hc⟩:=h;simp_all
def qx{L:Loc}(h:holds w L z):aag w w L z z:=by
 cases L with
 |val y=>rfl
 |addr a=>exact VH h
def AV.cell:AV->Bool
 |.v _|.list .. |.box .. |.fn .. |.hole=>true
 |_=>false
def Rel.one{av:AV}{y:Value}{F:List Nat}(h:Rel w S av y F)(hc:av.cell=true):y.oneCell'=true:=by
 cases av with
 |v x=>simp[Rel]at h;obtain⟨h1,rfl,-⟩:=h;cases y<;>simp_all[scalar,Value.oneCell']
 |list f sz xs=>
  cases f with
  |nil=>simp[Rel]at h;rw[h.2.1];rfl
  |shr=>simp only[Rel]at h;rcases h with⟨-,⟨ad,h1⟩,-⟩|⟨b,off,cap,cs,fz,h1,-⟩<;>rw[h1]<;>rfl
  |own=>simp only[Rel]at h;rcases h with⟨-,h1,-⟩|⟨b,cap,cs,F',h1,-⟩<;>rw[h1]<;>rfl
 |box own x=>simp only[Rel]at h;obtain⟨b,cs,fz,F',z,h1,-⟩:=h;rw[h1];rfl
 |fn f a c=>simp only[Rel]at h;obtain⟨a',c',F1,F2,h1,-⟩:=h;rw[h1];rfl
 |hole=>simp[Rel]at h;exact h.1
 |_=>simp[AV.cell]at hc
def im(y:AV):AV:=if y.cell then .hole else .dead
def Rel.im{F1:List Nat}(h:Rel w S y z F1):Rel w S (im y) z []:=by
 unfold Ai.im;split
 ·rename_i hc;simp only[Rel];exact⟨h.one hc,ao⟩
 simp[Rel]
def Sub(x' x:AV):Prop:=∀(p:Path)(y':AV),bg x' p=some y'->∃y,bg x p=some y
def GS:∀(p:Path){rY xs:List AV},rY.length=xs.length->(∀(i:Nat)(a' a:AV),rY[i]?=some a'->xs[i]?=some a->Sub a' a)->∀y':AV,bg (.agg rY) p=some y'->∃y,bg (.agg xs) p=some y
 |[],rY,xs,_,_,y',_=>⟨_,rfl⟩
 |.at o none::p,rY,xs,hl,he,y',h=>by
  simp[bg,ab3]at h⊢;obtain⟨a',h1,h2⟩:=h;have cS:o<xs.length:=by rw[<-hl];exact(afM.1 h1).1
  obtain⟨y,hy⟩:=he o a' _ h1 (acL cS) p y' h2;simp_all
 |.at o (some n)::p,rY,xs,hl,he,y',h=>by
  simp only[bg]at h⊢;rw[hl]at h;split at h
  ·rename_i hle;rw[if_pos hle];refine GS p (by simp[hl]) (λi a' a h1 h2=>?_) y' h;rw[aev]at h1 h2;split at h1
   ·rename_i Ks;rw[if_pos Ks,ago]at h2;rw[ago]at h1;exact he _ a' a h1 h2
   cases h1
  cases h
 |.idx .. ::p,rY,xs,_,_,y',h=>by simp[bg]at h
 |.deref::p,rY,xs,_,_,y',h=>by simp[bg]at h
 |.bX .. ::p,rY,xs,_,_,y',h=>by simp[bg]at h
 |.lR .. ::p,rY,xs,_,_,y',h=>by simp[bg]at h
def GR{xs:List AV}{x x1:AV}(hx:xs[i]?=some x)(h:Sub x1 x):∀(j:Nat)(a' a:AV),(xs.set i x1)[j]?=some a'->xs[j]?=some a->Sub a' a:=by
 intro j a' a h1 h2;rw[ag2]at h1;split at h1
 ·rename_i e;subst e;split at h1
  ·cases h1;rw[hx]at h2;cases h2;exact h
  cases h1
 rw[h1]at h2;cases h2;exactλp y hy=>⟨y,hy⟩
def I1{rY xs:List AV}(hl:rY.length=xs.length)(he:∀(i:Nat)(a' a:AV),rY[i]?=some a'->xs[i]?=some a->Sub a' a){p:Path}(h:rY[i]?.bind (bg · p)=some y'):∃y,xs[i]?.bind (bg · p)=some y:=by
 simp[ab3]at h⊢;obtain⟨a',h1,h2⟩:=h;have cS:i<xs.length:=by rw[<-hl];exact(afM.1 h1).1
 obtain⟨y,hy⟩:=he i a' _ h1 (acL cS) p y' h2;simp_all
def tx:∀(q:Path){x y h x':AV},bg x q=some y->Sub h y->dW x q h=some x'->Sub x' x
 |[],x,y,h,x',h1,h2,h3=>by simp[bg,abr]at h1;simp[dW,abr]at h3;subst h1;subst h3;exact h2
 |s::q,x,y,h,x',h1,h2,h3=>by
  intro p y' hp;cases p with
  |nil=>exact⟨_,rfl⟩
  |cons t p=>
   unfold dW at h3;split at h3
   ·rename_i sz xs i gC;split at h3
    ·rename_i e;subst e;simp[ab3,afe]at h3;obtain⟨x0,e1,x1,e2,rfl⟩:=h3;simp[bg,if_true,e1,adI]at h1;have he:=GR e1<|tx q h1 h2 e2;cases t with
     |idx j sz2=>
      simp only[bg]at hp⊢;split at hp
      ·rename_i e;rw[if_pos e];exact I1 (by simp) he hp
      cases hp
     |lR a b c=>simp only[bg,ae7]at hp⊢;exact⟨_,hp⟩
     |_=>simp[bg]at hp
    cases h3
   ·simp[afe]at h3;obtain⟨x1,e2,rfl⟩:=h3;simp[bg]at h1;cases t with
    |deref=>simp[bg]at hp⊢;exact tx q h1 h2 e2 p y' hp
    |_=>simp[bg]at hp
   ·rename_i xs o;simp[ab3,afe]at h3;obtain⟨x0,e1,x1,e2,rfl⟩:=h3;simp[bg,e1,adI]at h1;exact GS (t::p) (by simp) (GR e1<|tx q h1 h2 e2) y' hp
   ·rename_i xs o n;split at h3
    ·rename_i hle;simp only[ab3]at h3;obtain⟨z,e1,e2⟩:=h3;split at e2
     ·rename_i ys;split at e2
      ·rename_i hn;cases e2;simp[bg,if_pos hle]at h1;have Em:=tx q h1 h2 e1;have hlen:(xs.take o++ys++xs.drop (o+n)).length=xs.length:=by simp;omega
       refine GS (t::p) hlen (λi a' a g1 g2=>?_) y' hp;by_cases c1:i<o
       ·rw[acV,adH<|by simp;omega,aev,if_pos c1,g2]at g1;cases g1;exactλp y hy=>⟨y,hy⟩
       by_cases c2:i<o+n
       ·rw[acV,adX<|by simp;omega,adH<|by simp;omega]at g1;have ho:(xs.take o).length=o:=by simp;omega
        rw[ho]at g1;intro p2 y2 Rt;obtain⟨y3,hy3⟩:=Em (.at (i-o) none::p2) y2 (by simp[bg,g1,adI];exact Rt);simp[bg,aev,ago]at hy3;rw[if_pos<|by omega,show o+(i-o)=i by omega,g2]at hy3;exact⟨y3,hy3⟩
       rw[adX<|by simp;omega,ago]at g1;have ho:(xs.take o++ys).length=o+n:=by simp;omega
       rw[ho,show o+n+(i-(o+n))=i by omega,g2]at g1;cases g1;exactλp y hy=>⟨y,hy⟩
      cases e2
     cases e2
    cases h3
   ·rename_i xs i;simp[ab3,afe]at h3;obtain⟨x0,e1,x1,e2,rfl⟩:=h3;simp[bg,e1,adI]at h1;have he:=GR e1<|tx q h1 h2 e2;cases t with
    |bX j=>simp[bg]at hp⊢;exact I1 (by simp) he hp
    |_=>simp[bg]at hp
   cases h3
def SP(y:AV):Sub (im y) y:=by
 intro p y' h;cases p with
 |nil=>exact⟨_,rfl⟩
 |cons s p=>unfold im at h;split at h<;>(cases s<;>simp[bg]at h)
def jr(s:Sl)(p:Path)(av:AV):Sl:=if p=[]then⟨av,s.g1+1,s.g2⟩else⟨av,s.g1,s.g2⟩
def yg(s:Sl)(p:Path)(av:AV):(jr s p av).av=av:=by unfold jr;split<;>rfl
def Qt(s:Sl)(p:Path)(av:AV):s.g1<=(jr s p av).g1:=by unfold jr;split<;>simp
def Qs(s:Sl)(p:Path)(av:AV):s.g2<=(jr s p av).g2:=by unfold jr;split<;>simp
def aS.take(h:aS S B σ T w F)(r n:Nat)(p:Path)(hrn:n≠r)(hp:(σ r).av.plain=true)(hg:bg (σ r).av p=some y)(hs:dW (σ r).av p (im y)=some av'):
 ∃L z F1 F',loc w (.val<|T r) p=some L/\holds w L z/\Rel w S y z F1/\
  aS S B (gQ (gQ σ r<|jr (σ r) p av') n ⟨y,(σ n).g1+1,(σ n).g2⟩) (gQ T n z) w F'/\F' n=F1/\∀m,m≠r->m≠n->F' m=F m:=by
 have hr:=h.rel r;rw[ak.aB hp]at hr;obtain⟨L,z,A,F1,B',k1,k2,k3,k4,k5,k6⟩:=Rel.gQ p (L:=.val<|T r) hr rfl hg hs (h.nodup r) (λb hb=>(h.own r b hb).2.2) (by simp[Loc.jP]);obtain⟨z',j1,-,-,j4⟩:=k6 w S z [] (λ_ h=>h) rfl (λh=>h) (λ_ _ _=>rfl) (qx k2) k3.im;simp[x6]at j4;subst j4;have hN:=h.nodup r;rw[k4,acT,acT]at hN;have dz:∀b,b∈A++[]++B'->b∈F r:=λb hb=>by rw[k4];simp at hb⊢;rcases hb with h|h<;>simp[h]
 have rI:∀b,b∈F1->b∈F r:=λb hb=>by rw[k4];simp[hb]
 refine⟨L,z,F1,λi=>if i=n then F1 else if i=r then A++[]++B' else F i,k1,k2,k3,?_,by simp,λm h1 h2=>by simp[h1,h2]⟩;refine h.step (w':=w) (S':=S) ⟨λi=>?_,λi=>?_,λi hi=>?_,λi hi RG=>?_⟩ (λ_ h=>h) (λi=>?_) (λi=>?_) (λi j gS b hb=>?_) (λi b hb=>?_) h.shr
 ·by_cases e:i=n
  ·subst e;rw[aA];simp
  rw[ai _ _ e];by_cases e2:i=r
  ·subst e2;rw[aA];exact Qt _ _ _
  rw[ai _ _ e2];exact abZ _
 ·by_cases e:i=n
  ·subst e;rw[aA];simp
  rw[ai _ _ e];by_cases e2:i=r
  ·subst e2;rw[aA];exact Qs _ _ _
  rw[ai _ _ e2];exact abZ _
 ·by_cases e:i=n
  ·subst e;rw[aA]at hi;simp at hi
  exact ai _ _ e
 ·by_cases e:i=n
  ·subst e;rw[aA]at hi;simp at hi
  rw[ai _ _ e]at hi RG⊢;by_cases e2:i=r
  ·subst e2;rw[aA,yg];exact⟨tx p hg (SP y) hs,λ_ _=>rfl⟩
  rw[ai _ _ e2];exact⟨λp y hy=>⟨y,hy⟩,λ_ _=>rfl⟩
 ·by_cases e:i=n
  ·subst e;right;rw[ak.aB<|by rw[aA];exact k3.plain];simp[aA,if_true];exact k3
  by_cases e2:i=r
  ·subst e2;right;have:(gQ (gQ σ i<|jr (σ i) p av') n ⟨y,(σ n).g1+1,(σ n).g2⟩ i).av=av':=by rw[ai _ _ e,aA,yg]
   rw[ak.aB<|by rw[this];exact j1.plain,this,ai _ _ e];simp only[e,if_false,if_true];exact j1
  left;simp only[ai _ _ e,ai _ _ e2,e,e2,if_false,true_and];exactλ_ _=>trivial
 ·by_cases e:i=n
  ·simp[e,if_true];exact hN.1.2.1
  by_cases e2:i=r
  ·simp only[e,if_false];rw[if_pos e2];rw[adw,acT];exact⟨hN.1.1,hN.2.1,λa ha b hb=>hN.2.2 a (by simp[ha]) b hb⟩
  simp[e,e2,if_false];exact h.nodup i
 ·have Be:∀b,b∈F1->b∉A++[]++B':=λb hb dO=>by
   simp at dO;rcases dO with h|h
   ·exact hN.1.2.2 b h b hb rfl
   exact hN.2.2 b (by simp[hb]) b h rfl
  by_cases e:i=n
  ·simp[e,if_true]at hb;have hj:j≠n:=λe'=>gS<|e.trans e'.symm;simp only[hj,if_false];by_cases e2:j=r
   ·rw[if_pos e2];exact Be b hb
   rw[if_neg e2];exactλIJ=>h.di j r e2 b IJ<|rI b hb
  simp only[e,if_false]at hb;by_cases e2:i=r
  ·rw[if_pos e2]at hb;by_cases e3:j=n
   ·simp[e3,if_true];exactλdO=>Be b dO hb
   simp[e3,if_false];rw[if_neg λe'=>gS<|e2.trans e'.symm];exactλIJ=>h.di j r (λe'=>gS<|e2.trans e'.symm) b IJ<|dz b hb
  rw[if_neg e2]at hb;by_cases e3:j=n
  ·simp[e3,if_true];exactλdO=>h.di i r e2 b hb<|rI b dO
  simp only[e3,if_false];by_cases e4:j=r
  ·rw[if_pos e4];exactλdO=>h.di i r e2 b hb<|dz b dO
  rw[if_neg e4];exact h.di i j gS b hb
 by_cases e:i=n
 ·simp[e,if_true]at hb;exact h.own r b<|rI b hb
 simp only[e,if_false]at hb;by_cases e2:i=r
 ·rw[if_pos e2]at hb;exact h.own r b<|dz b hb
 rw[if_neg e2]at hb;exact h.own i b hb
def aS.share(h:aS S B σ T w F)(r:Nat)(p:Path)(hp:(σ r).av.plain=true)(hg:bg (σ r).av p=some y)(hs:dW (σ r).av p y.bw=some av'):
 ∃(L:Loc)(z:Value)(F1:List Nat)(F':Nat->List Nat),loc w (.val<|T r) p=some L/\holds w L z/\Rel w S y z F1/\
  aS (λb=>S b\/b∈F1) B (gQ σ r ⟨av',(σ r).g1,(σ r).g2+1⟩) T w F'/\(∀b∈F1,b∈F r):=by
 have hr:=h.rel r;rw[ak.aB hp]at hr;obtain⟨L,z,A,F1,B',k1,k2,k3,k4,k5,k6⟩:=Rel.gQ p (L:=.val<|T r) hr rfl hg hs (h.nodup r) (λb hb=>(h.own r b hb).2.2) (by simp[Loc.jP]);have rI:∀b,b∈F1->b∈F r:=λb hb=>by rw[k4];simp[hb]
 obtain⟨z',j1,-,-,j4⟩:=k6 w (λb=>S b\/b∈F1) z [] (λ_ h=>.inl h) rfl (λh=>h) (λ_ _ _=>rfl) (qx k2)<|Rel.share (λ_ h=>.inl h) _ k3 λb hb=>.inr hb;simp[x6]at j4;subst j4;have hN:=h.nodup r;rw[k4,acT,acT]at hN;have dz:∀b,b∈A++[]++B'->b∈F r:=λb hb=>by rw[k4];simp at hb⊢;rcases hb with h|h<;>simp[h]
 have Be:∀b,b∈F1->b∉A++[]++B':=λb hb dO=>by
  simp at dO;rcases dO with h|h
  ·exact hN.1.2.2 b h b hb rfl
  exact hN.2.2 b (by simp[hb]) b h rfl
 refine⟨L,z,F1,λi=>if i=r then A++[]++B' else F i,k1,k2,k3,?_,rI⟩;refine h.step (w':=w) (S':=λb=>S b\/b∈F1) (F':=λi=>if i=r then A++[]++B' else F i) ⟨λi=>?_,λi=>?_,λi hi=>rfl,λi hi RG=>?_⟩ (λ_ h=>.inl h) (λi=>?_) (λi=>?_) (λi j gS b hb=>?_) (λi b hb=>?_) (λb(hb:S b\/b∈F1)=>?_)
 ·by_cases e:i=r
  ·subst e;rw[aA];exact .refl
  rw[ai _ _ e];exact .refl
 ·by_cases e:i=r
  ·subst e;rw[aA];simp
  rw[ai _ _ e];exact .refl
 ·by_cases e:i=r
  ·subst e;rw[aA]at RG;simp at RG
  rw[ai _ _ e];simp_all
 ·by_cases e:i=r
  ·subst e;right;rw[ak.aB<|by rw[aA];exact j1.plain,aA];simp only;exact j1
  left;simp only[ai _ _ e,e,if_false,true_and];exactλ_ _=>trivial
 ·by_cases e:i=r
  ·simp only[e,if_true];rw[adw,acT];exact⟨hN.1.1,hN.2.1,λa ha b hb=>hN.2.2 a (by simp[ha]) b hb⟩
  simp[e];exact h.nodup i
 ·by_cases e:i=r
  ·simp only[e]at hb;rw[if_neg λe'=>gS<|e.trans e'.symm];exactλIJ=>h.di j r (λe'=>gS<|e.trans e'.symm) b IJ<|dz b hb
  simp[e]at hb;by_cases e2:j=r
  ·rw[if_pos e2];exactλdO=>h.di i r e b hb<|dz b dO
  rw[if_neg e2];exact h.di i j gS b hb
 ·by_cases e:i=r
  ·simp only[e]at hb;obtain⟨o1,o2,o3⟩:=h.own r b<|dz b hb;exact⟨o1,o2,λhh=>hh.elim o3 λh1=>Be b h1 hb⟩
  simp[e]at hb;obtain⟨o1,o2,o3⟩:=h.own i b hb;exact⟨o1,o2,λhh=>hh.elim o3 λh1=>h.di i r e b hb<|rI b h1⟩
 rcases hb with hb|hb
 ·exact h.shr b hb
 exact(h.own r b<|rI b hb).2.1
def stored(σ:St)(r:Nat)(M:List Nat)(av:AV):St:=λi=>if i=r then⟨av,(σ r).g1,(σ r).g2+1⟩else if i∈M then⟨.dead,(σ i).g1+1,(σ i).g2⟩else σ i
def aS.store(h:aS S B σ T w F)(r:Nat)(M:List Nat)(p:Path){z':Value}{Fv:List Nat}(X9:r∉M)(hp:(σ r).av.plain=true)
 (hg:bg (σ r).av p=some y)(hs:dW (σ r).av p y'=some av')(hl:loc w (.val<|T r) p=some (.addr ad))
 (hv:Rel w S y' z' Fv)(hFv:Fv.Nodup)(Gb:∀b∈Fv,∃m∈M,b∈F m):
 ∃z,At w ad z/\(∃F1,Rel w S y z F1)/\B ad.block/\(z'.cells.size=z.cells.size->(z.oneCell'=true->z'.oneCell'=true)->
  ∀w',w'.heap.size=w.heap.size->(∀b,b≠ad.block->w'.heap[b]?=w.heap[b]?)->Chg w w' ad z'->
   ∃F',aS S B (stored σ r M av') T w' F'):=by
 have hr:=h.rel r;rw[ak.aB hp]at hr;obtain⟨L,z,A,F1,B',k1,k2,k3,k4,k5,k6⟩:=Rel.gQ p (L:=.val<|T r) hr rfl hg hs (h.nodup r) (λb hb=>(h.own r b hb).2.2) (by simp[Loc.jP]);rw[k1]at hl;cases hl;have hA:ad.block∈A:=by
  rcases k5 with k5|⟨a,ha,_⟩
  ·exact k5
  cases ha
 have Yq:ad.block∈F r:=by rw[k4];simp[hA]
 have hvr:∀b∈Fv,b∉F r:=λb hb=>by obtain⟨m,hm,rV⟩:=Gb b hb;exact h.di m r (λe=>X9 (e▸hm)) b rV
 have hvo:∀i,i∉M->∀b∈Fv,b∉F i:=λi hi b hb=>by obtain⟨m,hm,rV⟩:=Gb b hb;exact h.di m i (λe=>hi (e▸hm)) b rV
 refine⟨z,k2,⟨F1,k3⟩,(h.own r _ Yq).1,λcM h1 w' iw dI hch=>?_⟩;have dc:∀i,i≠r->∀b∈F i,b≠ad.block:=λi hi b hb e=>h.di i r hi b hb (e▸Yq);have acb:∀b,S b->b≠ad.block:=λb hb e=>(h.own r _ Yq).2.2 (e▸hb);have hv':Rel w' S y' z' Fv:=Rel.frame _ hv λb hb=>dI b<|hb.elim (acb b) λhb e=>hvr b hb (e▸Yq);obtain⟨zz,j1,-,-,j4⟩:=k6 w' S z' Fv (λ_ h=>h) cM h1 (λb _ hb=>dI b<|by simpa[Loc.jP,eq_comm]using hb) hch hv';simp[x6]at j4;subst j4;have hN:=h.nodup r;rw[k4,acT,acT]at hN;have dz:∀b,b∈A++Fv++B'->b∈F r\/b∈Fv:=λb hb=>by rw[k4];simp at hb⊢;rcases hb with h|h|h<;>simp[h]
 have hmA:∀b,b∈A\/b∈B'->b∈F r:=λb hb=>by rw[k4];simp;rcases hb with h|h<;>simp[h]
 refine⟨λi=>if i=r then A++Fv++B' else if i∈M then[]else F i,?_⟩;refine h.step (w':=w') (S':=S) ⟨λi=>?_,λi=>?_,λi hi=>rfl,λi hi RG=>?_⟩ (λ_ h=>h) (λi=>?_) (λi=>?_) (λi j gS b hb=>?_) (λi b hb=>?_) (λb hb=>by rw[iw];exact h.shr b hb)
 ·unfold stored;split
  ·rename_i e;subst e;exact abZ _
  split<;>simp
 ·unfold stored;split
  ·rename_i e;subst e;simp
  split<;>simp
 ·unfold stored at hi RG⊢;split at hi
  ·rename_i e;subst e;simp at RG
  rename_i e;split at hi
  ·simp at hi
  rename_i e2;rw[if_neg e,if_neg e2];exact⟨λp y hy=>⟨y,hy⟩,λb hb=>dI b<|hb.elim (acb b)<|dc i e b⟩
 ·by_cases e:i=r
  ·subst e;right;have:(stored σ i M av' i).av=av':=by simp[stored]
   rw[ak.aB<|by rw[this];exact j1.plain,this];simp only[if_true];exact j1
  by_cases e2:i∈M
  ·right;have:(stored σ r M av' i).av=.dead:=by simp[stored,e,e2]
   rw[ak.aB<|by rw[this];rfl,this];simp[e,e2,Rel]
  left;simp[stored,e,e2,if_false,true_and];exactλb hb=>dI b (hb.elim (acb b)<|dc i e b)
 ·by_cases e:i=r
  ·rw[if_pos e];rw[acT,acT];refine⟨⟨hN.1.1,hFv,λa ha b hb e=>hvr b hb (e▸hmA a (.inl ha))⟩,hN.2.1,λa ha b hb e=>?_⟩;rcases ac5.1 ha with ha|ha
   ·exact hN.2.2 a (by simp[ha]) b hb e
   exact hvr a ha (e▸hmA b (.inr hb))
  by_cases e2:i∈M
  ·simp[e,e2]
  simp[e,e2,if_false];exact h.nodup i
 ·by_cases e:i=r
  ·rw[if_pos e]at hb;have hj:j≠r:=λe'=>gS<|e.trans e'.symm;rw[if_neg hj];by_cases e2:j∈M
   ·simp[e2]
   simp[e2,if_false];intro IJ;rcases dz b hb with dO|dO
   ·exact h.di j r hj b IJ dO
   exact hvo j e2 b dO IJ
  rw[if_neg e]at hb;by_cases e2:i∈M
  ·simp[e2]at hb
  simp[e2,if_false]at hb;by_cases e3:j=r
  ·rw[if_pos e3];intro IJ;rcases dz b IJ with dO|dO
   ·exact h.di i r e b hb dO
   exact hvo i e2 b dO hb
  rw[if_neg e3];by_cases e4:j∈M
  ·simp[e4]
  simp[e4,if_false];exact h.di i j gS b hb
 rw[iw];by_cases e:i=r
 ·rw[if_pos e]at hb;rcases dz b hb with dO|dO
  ·exact h.own r b dO
  obtain⟨m,hm,rV⟩:=Gb b dO;exact h.own m b rV
 rw[if_neg e]at hb;by_cases e2:i∈M
 ·simp[e2]at hb
 simp[e2,if_false]at hb;exact h.own i b hb
end
end
mutual
def AV.aF:AV->Bool
 |.list .own _ _=>false
 |.list .nil _ _=>true
 |.list .shr _ _=>true
 |.box own _=> !own
 |.agg xs=>bx xs
 |.bX xs=>bx xs
 |.fn _ a c=>bx a&&bx c
 |.v _=>true
 |.bA .. =>false
 |.ptr .. =>false
 |.hole=>true
 |.dead=>true
 |.pv _=>true
 |.abs _=>false
 |.fI .. =>false
 |.mp _=>false
def bx:List AV->Bool
 |[]=>true
 |x::xs=>x.aF&&bx xs
end
mutual
def AV.refs:AV->Bool
 |.list .nil _ _=>false
 |.list .own _ _=>true
 |.list .shr _ _=>true
 |.box _ _=>true
 |.agg xs=>Tn xs
 |.bX xs=>Tn xs
 |.fn .. =>true
 |.v _=>false
 |.bA .. =>true
 |.ptr .. =>true
 |.hole=>true
 |.dead=>true
 |.pv _=>true
 |.abs _=>true
 |.fI .. =>true
 |.mp _=>true
def Tn:List AV->Bool
 |[]=>false
 |x::xs=>x.refs||Tn xs
end
mutual
def AV.bJ:AV->Bool
 |.list .nil _ _=>true
 |.list .own _ xs=>ju xs
 |.list .shr _ _=>false
 |.box own x=>own&&x.bJ
 |.agg xs=>ju xs
 |.bX xs=>ju xs
 |.fn _ a c=>ju a&&ju c
 |.v _=>true
 |.bA .. =>true
 |.ptr .. =>true
 |.hole=>true
 |.dead=>true
 |.pv _=>true
 |.abs _=>true
 |.fI .. =>true
 |.mp _=>true
def ju:List AV->Bool
 |[]=>true
 |x::xs=>x.bJ&&ju xs
end
section
variable{w:World}{S S':Nat->Prop}
mutual
theorem Rel.bJ:∀(av:AV){y:Value}{F:List Nat},Rel w S av y F->av.bJ=true->Rel w S' av y F
 |.v x,y,F,h,_=>by simpa[Rel]using h
 |.list .nil sz xs,y,F,h,_=>by simpa[Rel]using h
 |.list .shr sz xs,y,F,h,k=>by simp[AV.bJ]at k
 |.list .own sz xs,y,F,h,k=>by
  rcases h with h|⟨b,cap,cs,F',h1,h2,h3,h4,h5,h6,h7⟩
  ·exact .inl h
  exact .inr ⟨b,cap,cs,F',h1,h2,h3,h4,h5,cv.bJ sz xs h6<|by simpa[AV.bJ]using k,h7⟩
 |.box true x,y,F,h,k=>by obtain⟨b,cs,fz,F',z,h1,h2,h3,h4,h5⟩:=h;exact⟨b,cs,fz,F',z,h1,h2,Rel.bJ x h3<|by simpa[AV.bJ]using k,h4,h5⟩
 |.box false x,y,F,h,k=>by simp[AV.bJ]at k
 |.agg xs,y,F,h,k=>by obtain⟨cs,h1,h2⟩:=h;exact⟨cs,h1,Cells.bJ xs h2<|by simpa[AV.bJ]using k⟩
 |.bX xs,y,F,h,k=>by obtain⟨cs,h1,h2⟩:=h;exact⟨cs,h1,Cells.bJ xs h2<|by simpa[AV.bJ]using k⟩
 |.fn f a c,y,F,h,k=>by simp[AV.bJ]at k;obtain⟨a',c',F1,F2,h1,h2,h3,h4⟩:=h;exact⟨a',c',F1,F2,h1,Cells.bJ a h2 k.1,Cells.bJ c h3 k.2,h4⟩
 |.bA ..,y,F,h,_=>by simp[Rel]at h
 |.ptr ..,y,F,h,_=>by simp[Rel]at h
 |.hole,y,F,h,_=>by simpa[Rel]using h
 |.dead,y,F,h,_=>by simpa[Rel]using h
 |.pv _,y,F,h,_=>by simpa[Rel]using h
 |.abs _,y,F,h,_=>by simp[Rel]at h
 |.fI ..,y,F,h,_=>by simp[Rel]at h
 |.mp _,y,F,h,_=>by simpa[Rel]using h
theorem Cells.bJ:∀(xs:List AV){one:Bool}{l:List Value}{F:List Nat},Cells w S one xs l F->ju xs=true->Cells w S' one xs l F
 |[],one,l,F,h,_=>by simpa[Cells]using h
 |x::xs,one,l,F,h,k=>by simp[ju,acd]at k;obtain⟨y,l',F1,F2,h1,h2,h3,h4,h5⟩:=h;exact⟨y,l',F1,F2,h1,h2,h3,Rel.bJ x h4 k.1,Cells.bJ xs h5 k.2⟩
theorem cv.bJ(sz:Nat):∀(xs:List AV){l:List Value}{F:List Nat},cv w S sz xs l F->ju xs=true->cv w S' sz xs l F
 |[],l,F,h,_=>by simpa[cv]using h
 |x::xs,l,F,h,k=>by simp[ju,acd]at k;obtain⟨y,l',F1,F2,h1,h2,h3,h4,h5⟩:=h;exact⟨y,l',F1,F2,h1,h2,h3,Rel.bJ x h4 k.1,cv.bJ sz xs h5 k.2⟩
end
mutual
theorem Rel.aF:∀(av:AV){y:Value}{F:List Nat},Rel w S av y F->av.aF=true->F=[]
 |.v x,y,F,h,_=>by simp[Rel]at h;exact h.2.2
 |.list .nil sz xs,y,F,h,_=>by simp[Rel]at h;exact h.2.2
 |.list .shr sz xs,y,F,h,_=>by simp only[Rel]at h;rcases h with⟨-,-,h6⟩|⟨b,off,cap,cs,fz,h1,h2,h3,h4,h5,h6⟩<;>exact h6
 |.list .own sz xs,y,F,h,k=>by simp[AV.aF]at k
 |.box own x,y,F,h,k=>by simp[AV.aF]at k;subst k;simp only[Rel]at h;obtain⟨b,cs,fz,F',z,h1,h2,h3,h4,h5⟩:=h;simp at h5;exact h5.2.2
 |.agg xs,y,F,h,k=>by simp[Rel]at h;obtain⟨cs,h1,h2⟩:=h;exact Cells.aF xs h2 (by simpa[AV.aF]using k)
 |.bX xs,y,F,h,k=>by simp[Rel]at h;obtain⟨cs,h1,h2⟩:=h;exact Cells.aF xs h2 (by simpa[AV.aF]using k)
 |.fn f a c,y,F,h,k=>by simp[AV.aF]at k;simp only[Rel]at h;obtain⟨a',c',F1,F2,h1,h2,h3,rfl⟩:=h;rw[Cells.aF a h2 k.1,Cells.aF c h3 k.2];rfl
 |.bA ..,_,_,h,_=>by simp[Rel]at h
 |.ptr ..,_,_,h,_=>by simp[Rel]at h
 |.hole,_,_,h,_=>by simp[Rel]at h;exact h.2
 |.dead,_,_,h,_=>by simpa[Rel]using h
 |.pv _,_,_,h,_=>by simp[Rel]at h;exact h.2
 |.abs _,_,_,h,_=>by simp[Rel]at h
 |.fI ..,_,_,h,_=>by simp[Rel]at h
 |.mp _,_,_,_,k=>by simp[AV.aF]at k
theorem Cells.aF:∀(xs:List AV){one:Bool}{l:List Value}{F:List Nat},Cells w S one xs l F->bx xs=true->F=[]
 |[],one,l,F,h,_=>by simp[Cells]at h;exact h.2
 |x::xs,one,l,F,h,k=>by simp[bx]at k;obtain⟨y,l',F1,F2,h1,rfl,h2,h3,h4⟩:=h;rw[Rel.aF x h3 k.1,Cells.aF xs h4 k.2];rfl
end
end
inductive Mv
 |share (r:Nat) (p:Path)
 |take (r n:Nat) (p:Path)
 |make (M:List Nat) (n:Nat) (y:AV)
 |put (n:Nat) (y:AV)
 |store (r:Nat) (p:Path) (M:List Nat) (y:AV)
 |back (R:List (Nat×AV))
def kr(σ:St):List (Nat×AV)->St
 |[]=>σ
 |(r,y)::R=>gQ (kr σ R) r ⟨y,(σ r).g1,(σ r).g2+1⟩
def Mv.run(σ:St):Mv->Option St
 |.share r p=>match bg (σ r).av p with
  |some y=>match dW (σ r).av p y.bw with
   |some av=>some (gQ σ r ⟨av,(σ r).g1,(σ r).g2+1⟩)
   |none=>none
  |none=>none
 |.take r n p=>if n=r then none else match bg (σ r).av p with
  |some y=>match dW (σ r).av p (im y)with
   |some av=>some (gQ (gQ σ r<|jr (σ r) p av) n ⟨y,(σ n).g1+1,(σ n).g2⟩)
   |none=>none
  |none=>none
 |.make M n y=>some (made σ M n y)
 |.put n y=>some (gQ σ n ⟨y,(σ n).g1+1,(σ n).g2⟩)
 |.store r p M y=>if r∈M then none else match dW (σ r).av p y with
  |some av=>some (stored σ r M av)
  |none=>none
 |.back R=>some<|kr σ R
def Mv.runs(σ:St):List Mv->Option St
 |[]=>some σ
 |m::ms=>match m.run σ with
  |some σ=>Mv.runs σ ms
  |none=>none
end Go.Ai
