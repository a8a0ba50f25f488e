/- Parts of the proof of ScaleLimits (Limits and Conditions return the results or the errors of the reference), at every input, with no further conditions. -/
import Derived.Test.YtdgocdadfmhjgaaGreatDoorZAQ
import Derived.Test.YtdgocdadfmhjgaaGreatDoorZAR
import Derived.Test.YtdgocdadfmhjgaaGreatDoorCards
import Derived.Test.YtdgocdadfmhjgaaGreatDoorTie
import Derived.ProofKit
import Derived.OpenShut
import Derived.Deep.DeepHandedRow
import Derived.Lib.SmallJoins
import Derived.Lay
import Derived.ChangeMaps5
set_option linter.all false
set_option maxRecDepth 100000
set_option maxHeartbeats 0
section
namespace Go.Ai.Pg
open Go Go.Ai Go.Ai.cY Go.RowKit
set_option maxRecDepth 100000
def HC(p:kx)(hz:PSz p)(rs:List hO)(b:iA)(l1:AY rs)(l2:∀s∈rs,AY s.lo/\AY s.hi){w:World}(hG:Laid Go.Proofs.Tryz.prog w){c0 c1:Array Value}
 (r0:Rel w (·<w.heap.size) (bh p).den (.agg c0.toList.toArray) [])(r1:Rel w (·<w.heap.size) (AI rs b).den (.agg c1.toList.toArray) []):
 Calls Go.Proofs.Tryz.prog 3 #[.agg c0,.agg c1] w λe w'=>e=.returned (.bool true)/\Below w.heap.size w w':=by
 have hc:Cells w (·<w.heap.size) false (au [bh p,AI rs b]) [.agg c0,.agg c1] []:=by simp only[au,Cells];exact⟨_,_,[],[],rfl,rfl,(λh=>by cases h),r0,_,_,[],[],rfl,rfl,(λh=>by cases h),r1,rfl,rfl⟩
 refine(R6 Go.Proofs.Tryz.func3 rfl rfl ((M0 Y9 p hz rs b l1 l2) w (·<w.heap.size) [.agg c0,.agg c1] hG (λ_ h=>h) hc)).mono λe w'⟨v,h1,S',F,h2,_,_,_,h3,_⟩=>?_;simp only[SV.den,Rel]at h3;rw[h1,h3.2.1];exact⟨rfl,h2⟩
end Go.Ai.Pg
namespace Go.Proofs.YtdgocdadfmhjgaaGreatDoor.ScaleLimitsProof
open Go Go.ChangeShapes Go.WideShapes Go.ChangeAt Go.RowKit Go.Ai
set_option maxRecDepth 100000
def wO{P:Program}{x:String×DataW Unit}{r:List (String×DataW Unit)}{w:World}(h:laidMet P (x::r) w):laidMet P r w:=by obtain⟨n,d⟩:=x;obtain⟨ps,⟨g,t,cs,fuel,p,q,h1,h2,h3,h4,h5,rfl⟩,hn,hh⟩:=h;exact⟨q,h5,(abo.1 hn).2.1,λb off hb=>hh b off<|by simp[hb]⟩
def own:ownKnob Tryz.prog.godebug=none:=by kernel_rfl
def ajM:Tryz.prog.globalNamed "internal/strconv.uint64pow10"=some 5:=by kernel_rfl
def U5:(Tryz.prog.globals[5]?).map (·.type)=some 352:=by kernel_rfl
def acB:Tryz.prog.cellsOf 352=20:=by kernel_rfl
def acC:Tryz.prog.cellsOf 253=1:=by kernel_rfl
def table{W:World}(h:laidMetH Tryz.prog Rows.scaleLimitsRow.laid W):Laid Tryz.prog W:=by have h':laidMet Tryz.prog Rows.scaleLimitsRow.laid W:=h;exact Lib.tabIs_of_head (rest:=[("strconv.ErrRange",Rows.laid_strconv_ErrRange),("strconv.ErrSyntax",Rows.laid_strconv_ErrSyntax)]) ajM U5 Tryz.underlying352 Tryz.underlying253 acC acB<|wO<|wO h'
def Ei{w w':World}{may:MemPlace->Prop}(h:Below w.heap.size w w'):w.keptBut w' may:=by
 refine⟨h.os,h.output,λi hi=>?_⟩;rw[h.block i hi];cases hh:w.heap[i]?with
 |none=>rfl
 |some o=>cases o<;>simp
def ad1:Tryz.prog.readableRec 25=true:=by kernel_rfl
def ad0:Tryz.prog.readableRec 30=true:=by kernel_rfl
def b25:25<Tryz.prog.types.size:=of_decide_eq_true (by kernel_rfl)
def b30:30<Tryz.prog.types.size:=of_decide_eq_true (by kernel_rfl)
def VC(H:Type)(enc:TypeId×Value->H)(W:World)(base:Nat)(args:Array Value)(ds gs:List (DataW H))(before:List MemPlace)
 (wW:∀(j:Nat)t v,Tryz.f3.params[j]?=some t->args[j]?=some v->Value.okWide Tryz.prog W .any base t v)
 (hW:DataW.Whole enc Tryz.prog Tryz.f3.params.toList Rows.scaleLimitsSpec.vars false W args.toList ds gs before)(hL:laidMetH Tryz.prog Rows.scaleLimitsRow.laid W):
 Calls Tryz.prog 3 args W λe W'=>∃v,e=.returned v/\Rows.scaleLimitsSpec.post enc Tryz.prog Tryz.f3 false true false false W args v W':=by
 have hW':=hW;obtain⟨p,q,hA0,hV,rfl,hfz,BF⟩:=hW;have hA:DataW.TrodAll enc Tryz.prog W 0 (λ_=>true) true Tryz.f3.params.toList args.toList ds p:=hA0;rw[Tryz.params3]at hA wW;obtain⟨v0,v1,d0,d1,p0,p1,rfl,rfl,rfl,h0,h1⟩:=trodAll_two hA;obtain⟨rfl,rfl⟩:=trodVars_none hV;obtain⟨c0,rfl,-⟩:=okWide_struct Tryz.underlying25<|wW 0 25 v0 rfl rfl;obtain⟨c1,rfl,-⟩:=okWide_struct Tryz.underlying30<|wW 1 30 v1 rfl rfl;obtain⟨n0,k0⟩:=h0;obtain⟨n1,k1⟩:=h1;obtain⟨pl,hz,-,r0⟩:=o25 k0;obtain⟨⟨rs,b⟩,⟨l1,l2⟩,-,r1⟩:=o30 k1;have walk:=Go.Ai.Pg.HC pl hz rs b l1 l2 (table hL) (r0 _ λ_ h=>h)<|r1 _ λ_ h=>h;refine walk.mono λe W'⟨he,hb⟩=>?_;subst he;refine⟨_,rfl,_,_,_,[],p0++p1,[],hW',?_,?_,?_,Ei hb,λh=>by cases h⟩
 ·exact trodAll_mk1 (shut_bool Tryz.underlying4 true)
 ·exact trodAll_mk2 ⟨n0,Ae dZ.k1 ad1 b25 hb k0⟩ ⟨n1,Ae dZ.k1 ad0 b30 hb k1⟩
 rfl
def OB:Array Value:=#[.agg #[.int .i64 0,.slice none 0 0,.slice none 0 0],.agg #[.slice none 0 0,.int .i64 0,.int .i64 0,.int .i64 0,.int .i64 0]]
def T7(os:Os):laidMet Tryz.prog Rows.scaleLimitsRow.laid ((World.laidAll Tryz.prog os Rows.scaleLimitsRow.laid).forCall (λ_ _=>0) ⟨#[],OB,[]⟩).memory:=laidMet_laidAll _ (by kernel_rfl) (by kernel_rfl)
def reads(os:Os){H:Type}(enc:TypeId×Value->H):∃places,DataW.whole enc Tryz.prog ((World.laidAll Tryz.prog os Rows.scaleLimitsRow.laid).forCall (λ_ _=>0) ⟨#[],OB,[]⟩).memory Tryz.f3.params.toList Rows.scaleLimitsSpec.vars false OB.toList 8=some ([.agg [.lit<|.int .i64 0,.nil,.nil],.agg [.nil,.agg [.lit<|.int .i64 0,.lit<|.int .i64 0,.lit<|.int .i64 0,.lit<|.int .i64 0]]],[],places):=⟨[],by kernel_rfl⟩
def lifted(os:Os)(started:os.Started)(H:Type)(enc:TypeId×Value->H)(F:Stop.Interp):
 ReturnsInHanded {} Tryz.checked os 3 .any ((OpenSpec.ofChange Rows.scaleLimitsSpec).preRow enc Tryz.prog Tryz.f3 Rows.scaleLimitsRow.domain false Rows.scaleLimitsRow.laid) (((OpenSpec.ofChange Rows.scaleLimitsSpec).at F).post enc Tryz.prog Tryz.f3 false true false false):=by
 obtain⟨places,hx⟩:=reads os enc;refine returnsInHanded_of_row (C:=Tryz.checked) (s:=OpenSpec.ofChange Rows.scaleLimitsSpec) own started (by kernel_rfl) Tryz.func3
  (witness_row_at (enc:=enc) (C:=Tryz.checked) false (World.laidAll Tryz.prog os Rows.scaleLimitsRow.laid) OB (World.laidAll_os _ _ _) (by kernel_rfl) (by kernel_rfl) (by kernel_rfl)
    (OpenSpec.preRow_of_cond 8 hx (by kernel_rfl) (λk hk=>by cases hk) (by kernel_rfl)<|T7 os)) ?_
 intro W base args ds gs before wW hW _ _ _ hL _ _;exact VC H enc W base args ds gs before wW hW hL
def said:Rows.ScaleLimitsSaid:=
 OpenClaim.holds_of_cond 3 Tryz.f3 rfl rfl rfl rfl rfl rfl rfl ⟨rfl,rfl,rfl,rfl,rfl⟩ rfl rfl rfl rfl rfl dZ.named Tryz.func3 dZ.closed
  dZ.inst dZ.wrap
  (λos started H enc _ F=>by rw[OpenClaim.pre_eq_preRow];exact lifted os started H enc F)
end Go.Proofs.YtdgocdadfmhjgaaGreatDoor.ScaleLimitsProof
end
