/- Parts of the proof of ScaleChanges (as AIM.md's row tells), at every input, with no further conditions. -/
import Derived.Test.YtpoaaoihkhdijaaGreatDoorHZAQ
import Derived.Test.YtpoaaoihkhdijaaGreatDoorHZAR
import Derived.Test.YtpoaaoihkhdijaaGreatDoorCards
import Derived.Test.YtpoaaoihkhdijaaGreatDoorTie
import Derived.ProofKit
import Derived.OpenShut
import Derived.Deep.DeepHandedRow
import Derived.Lib.SmallJoins
import Derived.Lay
import Derived.ChangeMaps5
set_option linter.all false
set_option maxRecDepth 100000
set_option maxHeartbeats 0
section
namespace Go.Ai.Pg
open Go Go.Ai Go.Ai.eE Go.RowKit
set_option maxRecDepth 100000
def adj(p0:gV)(f:Zb p0)(c:List hO)(m:fE)(b:List Int)(a:List (List Int))(i:Ag c)(g:∀s∈c,Ag s)(l:Ag b)(k:Ag a)(j:∀x∈a,Ag x){w:World}(o:Laid Go.Proofs.Tryz.prog w){d c1:Array Value}
 (r0:Rel w (·<w.heap.size) (bh p0).den (.agg d.toList.toArray) [])(r1:Rel w (·<w.heap.size) (adg c m b a).den (.agg c1.toList.toArray) []):
 Calls Go.Proofs.Tryz.prog 7 #[.agg d,.agg c1] w λe w'=>e=.returned (.bool true)/\Below w.heap.size w w':=by
 have hc:Cells w (·<w.heap.size) false (aB [bh p0,adg c m b a]) [.agg d,.agg c1] []:=by simp only[aB,Cells];exact⟨_,_,[],[],W,W,(λh=>by cases h),r0,_,_,[],[],W,W,(λh=>by cases h),r1,W,W⟩
 refine(Pc Go.Proofs.Tryz.func7 W W ((adO U4 p0 f c m b a i g l k j) w (·<w.heap.size) [.agg d,.agg c1] o (λ_ h=>h) hc)).mono λe w'⟨v,q,r,F,p,_,_,_,n,_⟩=>?_;simp only[SV.den,Rel]at n;rw[q,n.2.1];exact⟨W,p⟩
end Go.Ai.Pg
namespace Go.Proofs.YtpoaaoihkhdijaaGreatDoor.ScaleChangesProof
open Go Go.ChangeShapes Go.WideShapes Go.ChangeAt Go.RowKit Go.Ai
set_option maxRecDepth 100000
def wj{P:Program}{x:String×DataW Unit}{r:List (String×DataW Unit)}{w:World}(h:laidMet P (x::r) w):laidMet P r w:=by obtain⟨f,⟨g,t,m,c,p,q,l,k,j,i,e,rfl⟩,hn,hh⟩:=h;exact⟨q,e,(aeJ.1 hn).2.1,λb a d=>hh b a<|by simp[d]⟩
def own:ownKnob Tryz.prog.godebug=none:=aW
def ZC:Tryz.prog.globalNamed "internal/strconv.uint64pow10"=some 5:=aW
def Rw:(Tryz.prog.globals[5]?).map (·.type)=some 429:=aW
def Xi:Tryz.prog.cellsOf 429=20:=aW
def Xj:Tryz.prog.cellsOf 311=1:=aW
def table{a:World}(h:laidMetH Tryz.prog Rows.scaleChangesRow.laid a):Laid Tryz.prog a:=by have b:=h;exact Lib.tabIs_of_head (rest:=[("strconv.ErrRange",Rows.laid_strconv_ErrRange),("strconv.ErrSyntax",Rows.laid_strconv_ErrSyntax)]) ZC Rw Tryz.underlying429 Tryz.underlying311 Xj Xi<|wj<|wj b
def Ds{w w':World}{a:MemPlace->Prop}(h:Below w.heap.size w w'):w.keptBut w' a:=by
 refine⟨h.os,h.output,λi hi=>?_⟩;rw[h.block i hi];cases hh:w.heap[i]?with
 |none=>rfl
 |some o=>cases o<;>simp
def X4:Tryz.prog.readableRec 25=true:=aW
def b25:25<Tryz.prog.types.size:=of_decide_eq_true aW
def aeT:Tryz.prog.readableRec 86=true:=aW
def b86:86<Tryz.prog.types.size:=of_decide_eq_true aW
def RY(H:Type)(enc:TypeId×Value->H)(a:World)(base:Nat)(args:Array Value)(u M:List (DataW H))(before:List MemPlace)
 (b:∀(j:Nat)t v,Tryz.f7.params[j]?=some t->args[j]?=some v->Value.okWide Tryz.prog a .any base t v)
 (hW:DataW.Whole enc Tryz.prog Tryz.f7.params.toList Rows.scaleChangesSpec.vars false a args.toList u M before)(J:laidMetH Tryz.prog Rows.scaleChangesRow.laid a):
 Calls Tryz.prog 7 args a λe w=>∃v,e=.returned v/\Rows.scaleChangesSpec.post enc Tryz.prog Tryz.f7 false true false false a args v w:=by
 have r:=hW;obtain⟨p,q,s,F,rfl,D,C⟩:=hW;have hA:DataW.TrodAll enc Tryz.prog a 0 (λ_=>true) true Tryz.f7.params.toList args.toList u p:=s;rw[Tryz.params7]at hA b;obtain⟨y,x,d0,P,A,z,rfl,rfl,rfl,L,K⟩:=trodAll_two hA;obtain⟨rfl,rfl⟩:=trodVars_none F;obtain⟨R,rfl,-⟩:=okWide_struct Tryz.underlying25<|b 0 25 y W W;obtain⟨Q,rfl,-⟩:=okWide_struct Tryz.underlying86<|b 1 86 x W W;obtain⟨n0,k0⟩:=L;obtain⟨n1,k1⟩:=K;obtain⟨B,g,-,r0⟩:=o25 k0;obtain⟨⟨N,O,d,f⟩,⟨k,i,o,m,l⟩,-,r1⟩:=Go.Ai.Pg.o86 k1;have c:=Go.Ai.Pg.adj B g N O d f k i o m l (table J) (r0 _ λ_ h=>h)<|r1 _ λ_ h=>h;refine c.mono λe w⟨he,n⟩=>?_;subst he;refine⟨_,W,_,_,_,[],A++z,[],r,?_,?_,?_,Ds n,λh=>by cases h⟩
 ·exact trodAll_mk1 (shut_bool Tryz.underlying4 true)
 ·exact trodAll_mk2 ⟨n0,zm ov.k1 X4 b25 n k0⟩ ⟨n1,zm ov.k1 aeT b86 n k1⟩
 rfl
def Mc:Array Value:=#[.agg #[.int .i64 0,.slice none 0 0,.slice none 0 0],.agg #[.slice none 0 0,.int .i64 0,.int .i64 0,.int .i64 0,.int .i64 0,.slice none 0 0,.slice none 0 0]]
def Q6(os:Os):laidMet Tryz.prog Rows.scaleChangesRow.laid ((World.laidAll Tryz.prog os Rows.scaleChangesRow.laid).forCall (λ_ _=>0) ⟨#[],Mc,[]⟩).memory:=laidMet_laidAll _ aW aW
def reads(os:Os){H:Type}(enc:TypeId×Value->H):∃a,DataW.whole enc Tryz.prog ((World.laidAll Tryz.prog os Rows.scaleChangesRow.laid).forCall (λ_ _=>0) ⟨#[],Mc,[]⟩).memory Tryz.f7.params.toList Rows.scaleChangesSpec.vars false Mc.toList 8=some ([.agg [.lit<|.int .i64 0,.nil,.nil],.agg [.nil,.agg [.lit<|.int .i64 0,.lit<|.int .i64 0,.lit<|.int .i64 0,.lit<|.int .i64 0],.agg [.nil,.nil]]],[],a):=⟨[],aW⟩
def lifted(os:Os)(b:os.Started)(H:Type)(enc:TypeId×Value->H)(F:Stop.Interp):
 ReturnsInHanded {} Tryz.checked os 7 .any ((OpenSpec.ofChange Rows.scaleChangesSpec).preRow enc Tryz.prog Tryz.f7 Rows.scaleChangesRow.domain false Rows.scaleChangesRow.laid) (((OpenSpec.ofChange Rows.scaleChangesSpec).at F).post enc Tryz.prog Tryz.f7 false true false false):=by
 obtain⟨e,f⟩:=reads os enc;refine returnsInHanded_of_row (C:=Tryz.checked) (s:=OpenSpec.ofChange Rows.scaleChangesSpec) own b aW Tryz.func7
  (witness_row_at (enc:=enc) (C:=Tryz.checked) false (World.laidAll Tryz.prog os Rows.scaleChangesRow.laid) Mc (World.laidAll_os _ _ _) aW aW aW
    (OpenSpec.preRow_of_cond 8 f aW (λk g=>by cases g) aW<|Q6 os)) ?_
 intro a base d j i before c hW _ _ _ h _ _;exact RY H enc a base d j i before c hW h
def said:Rows.ScaleChangesSaid:=
 OpenClaim.holds_of_cond 7 Tryz.f7 W W W W W W W ⟨W,W,W,W,W⟩ W W W W W ov.named Tryz.func7 ov.closed
  ov.inst ov.wrap
  (λos a H b _ F=>by rw[OpenClaim.pre_eq_preRow];exact lifted os a H b F)
end Go.Proofs.YtpoaaoihkhdijaaGreatDoor.ScaleChangesProof
end
