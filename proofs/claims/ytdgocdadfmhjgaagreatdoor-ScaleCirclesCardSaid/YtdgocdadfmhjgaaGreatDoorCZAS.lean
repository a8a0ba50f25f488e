/- Parts of the proof of ScaleCircles (CheckRefused returns the error of the reference), at every input, with no further conditions. -/
import Derived.Test.YtdgocdadfmhjgaaGreatDoorCZAQ
import Derived.Test.YtdgocdadfmhjgaaGreatDoorCZAR
import Derived.Test.YtdgocdadfmhjgaaGreatDoorCards
import Derived.Test.YtdgocdadfmhjgaaGreatDoorTie
import Derived.ProofKit
import Derived.OpenShut
import Derived.Deep.DeepHandedRow
import Derived.Lib.SmallJoins
import Derived.Lay
import Derived.ChangeMaps5
set_option linter.all false
set_option maxRecDepth 100000
set_option maxHeartbeats 0
section
namespace Go.Ai.Pg
open Go Go.Ai Go.Ai.cY Go.RowKit
set_option maxRecDepth 100000
def aaY(p:kx)(hz:PSz p)(rs:List hO)(b:iA)(l1:AY rs)(l2:∀s∈rs,AY s.lo/\AY s.hi)(c:List Int)(l3:AY c){w:World}(hG:Laid Go.Proofs.Tryz.prog w){c0 c1:Array Value}{v2:Value}
 (r0:Rel w (·<w.heap.size) (bh p).den (.agg c0.toList.toArray) [])(r1:Rel w (·<w.heap.size) (AI rs b).den (.agg c1.toList.toArray) [])(r2:Rel w (·<w.heap.size) (SV.ints .i64 false c).den v2 []):
 Calls Go.Proofs.Tryz.prog 4 #[.agg c0,.agg c1,v2] w λe w'=>e=.returned (.bool true)/\Below w.heap.size w w':=by
 have hc:Cells w (·<w.heap.size) false (au [bh p,AI rs b,.ints .i64 false c]) [.agg c0,.agg c1,v2] []:=by exact⟨_,_,[],[],rfl,rfl,(λh=>by cases h),r0,_,_,[],[],rfl,rfl,(λh=>by cases h),r1,_,_,[],[],rfl,rfl,(λh=>by cases h),r2,rfl,rfl⟩
 refine(R6 Go.Proofs.Tryz.func4 rfl rfl ((abp Y9 p hz rs b l1 l2 c l3) w (·<w.heap.size) [.agg c0,.agg c1,v2] hG (λ_ h=>h) hc)).mono λe w'⟨v,h1,S',F,h2,_,_,_,h3,_⟩=>?_;rw[h1,h3.2.1];simp_all
end Go.Ai.Pg
namespace Go.Proofs.YtdgocdadfmhjgaaGreatDoor.ScaleCirclesProof
open Go Go.ChangeShapes Go.WideShapes Go.ChangeAt Go.RowKit Go.Ai
set_option maxRecDepth 100000
def wO{P:Program}{x:String×DataW Unit}{r:List (String×DataW Unit)}{w:World}(h:laidMet P (x::r) w):laidMet P r w:=by obtain⟨ps,⟨g,t,cs,fuel,p,q,h1,h2,h3,h4,h5,rfl⟩,hn,hh⟩:=h;exact⟨q,h5,(acT.1 hn).2.1,λb off hb=>hh b off<|by simp[hb]⟩
def own:ownKnob Tryz.prog.godebug=none:=by kernel_rfl
def ajM:Tryz.prog.globalNamed "internal/strconv.uint64pow10"=some 5:=by kernel_rfl
def U5:(Tryz.prog.globals[5]?).map (·.type)=some 352:=by kernel_rfl
def acB:Tryz.prog.cellsOf 352=20:=by kernel_rfl
def acC:Tryz.prog.cellsOf 253=1:=by kernel_rfl
def table{W:World}(h:laidMetH Tryz.prog Rows.scaleCirclesRow.laid W):Laid Tryz.prog W:=by have h':=h;exact Lib.tabIs_of_head (rest:=[("strconv.ErrRange",Rows.laid_strconv_ErrRange),("strconv.ErrSyntax",Rows.laid_strconv_ErrSyntax)]) ajM U5 Tryz.underlying352 Tryz.underlying253 acC acB<|wO<|wO h'
def Ei{w w':World}{may:MemPlace->Prop}(h:Below w.heap.size w w'):w.keptBut w' may:=by
 refine⟨h.os,h.output,λi hi=>?_⟩;rw[h.block i hi];cases hh:w.heap[i]?with
 |none=>rfl
 |some o=>cases o<;>simp
def ad1:Tryz.prog.readableRec 25=true:=by kernel_rfl
def ad0:Tryz.prog.readableRec 30=true:=by kernel_rfl
def ae4:Tryz.prog.readableRec 23=true:=by kernel_rfl
def b23:23<Tryz.prog.types.size:=of_decide_eq_true (by kernel_rfl)
def b25:25<Tryz.prog.types.size:=of_decide_eq_true (by kernel_rfl)
def b30:30<Tryz.prog.types.size:=of_decide_eq_true (by kernel_rfl)
def VC(H:Type)(enc:TypeId×Value->H)(W:World)(base:Nat)(args:Array Value)(ds gs:List (DataW H))(before:List MemPlace)
 (wW:∀(j:Nat)t v,Tryz.f4.params[j]?=some t->args[j]?=some v->Value.okWide Tryz.prog W .any base t v)
 (hW:DataW.Whole enc Tryz.prog Tryz.f4.params.toList Rows.scaleCirclesSpec.vars false W args.toList ds gs before)(hL:laidMetH Tryz.prog Rows.scaleCirclesRow.laid W):
 Calls Tryz.prog 4 args W λe W'=>∃v,e=.returned v/\Rows.scaleCirclesSpec.post enc Tryz.prog Tryz.f4 false true false false W args v W':=by
 have hW':=hW;obtain⟨p,q,hA0,hV,rfl,hfz,BF⟩:=hW;have hA:=hA0;obtain⟨v0,v1,v2,d0,d1,d2,p0,p1,p2,rfl,rfl,rfl,h0,h1,h2⟩:=trodAll_three hA;obtain⟨rfl,rfl⟩:=trodVars_none hV;obtain⟨c0,rfl,-⟩:=okWide_struct Tryz.underlying25<|wW 0 25 v0 rfl rfl;obtain⟨c1,rfl,-⟩:=okWide_struct Tryz.underlying30<|wW 1 30 v1 rfl rfl;obtain⟨n0,k0⟩:=h0;obtain⟨n1,k1⟩:=h1;obtain⟨n2,k2⟩:=h2;obtain⟨pl,hz,-,r0⟩:=o25 k0;obtain⟨⟨rs,b⟩,⟨l1,l2⟩,-,r1⟩:=o30 k1;obtain⟨ad,ln,cp,rfl⟩:=okWide_slice Tryz.underlying23<|wW 2 23 v2 rfl rfl;obtain⟨ci,z,l3,ZE,-,r2⟩:=o23 k2;obtain rfl:Value.slice ad ln cp=z:=(List.cons.inj<|show[Value.slice ad ln cp]=[z]from ZE).1;have walk:=Go.Ai.Pg.aaY pl hz rs b l1 l2 ci l3 (table hL) (r0 _ λ_ h=>h) (r1 _ λ_ h=>h)<|r2 _ λ_ h=>h;refine walk.mono λe W'⟨he,hb⟩=>?_;subst he;refine⟨_,rfl,_,_,_,[],p0++p1++p2,[],hW',?_,?_,?_,Ei hb,λh=>by cases h⟩
 ·exact trodAll_mk1 (shut_bool Tryz.underlying4 true)
 ·rw[acV];exact trodAll_mk3 ⟨n0,Ae qy.k1 ad1 b25 hb k0⟩ ⟨n1,Ae qy.k1 ad0 b30 hb k1⟩ ⟨n2,Ae qy.k1 ae4 b23 hb k2⟩
 rfl
def OB:Array Value:=#[.agg #[.int .i64 0,.slice none 0 0,.slice none 0 0],.agg #[.slice none 0 0,.int .i64 0,.int .i64 0,.int .i64 0,.int .i64 0],.slice none 0 0]
def T7(os:Os):laidMet Tryz.prog Rows.scaleCirclesRow.laid ((World.laidAll Tryz.prog os Rows.scaleCirclesRow.laid).forCall (λ_ _=>0) ⟨#[],OB,[]⟩).memory:=laidMet_laidAll _ (by kernel_rfl) (by kernel_rfl)
def reads(os:Os){H:Type}(enc:TypeId×Value->H):∃places,DataW.whole enc Tryz.prog ((World.laidAll Tryz.prog os Rows.scaleCirclesRow.laid).forCall (λ_ _=>0) ⟨#[],OB,[]⟩).memory Tryz.f4.params.toList Rows.scaleCirclesSpec.vars false OB.toList 8=some ([.agg [.lit<|.int .i64 0,.nil,.nil],.agg [.nil,.agg [.lit<|.int .i64 0,.lit<|.int .i64 0,.lit<|.int .i64 0,.lit<|.int .i64 0]],.nil],[],places):=⟨[],by kernel_rfl⟩
def lifted(os:Os)(started:os.Started)(H:Type)(enc:TypeId×Value->H)(F:Stop.Interp):
 ReturnsInHanded {} Tryz.checked os 4 .any ((OpenSpec.ofChange Rows.scaleCirclesSpec).preRow enc Tryz.prog Tryz.f4 Rows.scaleCirclesRow.domain false Rows.scaleCirclesRow.laid) (((OpenSpec.ofChange Rows.scaleCirclesSpec).at F).post enc Tryz.prog Tryz.f4 false true false false):=by
 obtain⟨places,hx⟩:=reads os enc;refine returnsInHanded_of_row (C:=Tryz.checked) (s:=OpenSpec.ofChange Rows.scaleCirclesSpec) own started (by kernel_rfl) Tryz.func4
  (witness_row_at (enc:=enc) (C:=Tryz.checked) false (World.laidAll Tryz.prog os Rows.scaleCirclesRow.laid) OB (World.laidAll_os _ _ _) (by kernel_rfl) (by kernel_rfl) (by kernel_rfl)
    (OpenSpec.preRow_of_cond 8 hx (by kernel_rfl) (λk hk=>by cases hk) (by kernel_rfl)<|T7 os)) ?_
 intro W base args ds gs before wW hW _ _ _ hL _ _;exact VC H enc W base args ds gs before wW hW hL
def said:Rows.ScaleCirclesSaid:=
 OpenClaim.holds_of_cond 4 Tryz.f4 rfl rfl rfl rfl rfl rfl rfl ⟨rfl,rfl,rfl,rfl,rfl⟩ rfl rfl rfl rfl rfl qy.named Tryz.func4 qy.closed
  qy.inst qy.wrap
  (λos started H enc _ F=>by rw[OpenClaim.pre_eq_preRow];exact lifted os started H enc F)
end Go.Proofs.YtdgocdadfmhjgaaGreatDoor.ScaleCirclesProof
end
