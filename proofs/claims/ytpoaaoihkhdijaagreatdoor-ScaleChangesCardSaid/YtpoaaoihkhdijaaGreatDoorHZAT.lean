/- Parts of the proof of ScaleChanges (as AIM.md's row tells), at every input, with no further conditions. -/
import Derived.Test.YtpoaaoihkhdijaaGreatDoorRows
import Derived.Test.YtpoaaoihkhdijaaGreatDoorChecked
import Derived.Test.YtpoaaoihkhdijaaGreatDoorCards
import Derived.Test.YtpoaaoihkhdijaaGreatDoorTie
import Derived.Laws.StandIn
set_option linter.all false
set_option maxRecDepth 100000
set_option maxHeartbeats 0
namespace Go.Proofs.YtpoaaoihkhdijaaGreatDoor.ScaleChangesProof
open Go
set_option maxRecDepth 100000
def plain(f:FuncId)(fn:Func)(hf:Tryz.pinned.checked.prog.funcNamed "integraph/integraphlaw06.ScaleChanges"=some f)(hfn:Tryz.pinned.checked.prog.funcs[f]?=some fn):
 true=Tryz.pinned.checked.prog.looks []/\∀(j:Nat)t,fn.params[j]?=some t->Tryz.pinned.checked.prog.wantsStandIn t=false:=by
 obtain rfl:f=7:=Option.some.inj ((show Tryz.prog.funcNamed "integraph/integraphlaw06.ScaleChanges"=some 7 by kernel_rfl).symm.trans hf) |>.symm;obtain rfl:fn=Tryz.f7:=(Option.some.inj<|Tryz.func7.symm.trans hfn).symm;refine⟨by kernel_rfl,λj t ht=>?_⟩;rw[Tryz.params7]at ht;have ht':t∈(#[25,86]:Array Nat):=Array.mem_of_getElem? ht;simp only[List.mem_toArray,List.mem_cons,List.not_mem_nil,or_false]at ht';rcases ht' with rfl|rfl
 ·exact(show Tryz.prog.wantsStandIn 25=false by kernel_rfl)
 exact(show Tryz.prog.wantsStandIn 86=false by kernel_rfl)
def main:Tryz.pinned.checked.prog.mainIs=some (Rows.scaleChangesCard.stood.harness.fst,Rows.scaleChangesCard.stood.harness.snd.toList):=by kernel_rfl
def V8:OpenClaim.wfByText (OpenSpec.ofChange Rows.scaleChangesSpec) Rows.scaleChangesRow=true:=by kernel_rfl
def start:Rows.scaleChangesRow.start=Start.entering:=by kernel_rfl
def har:(!Rows.scaleChangesCard.stood.harness.fst&&Rows.scaleChangesCard.stood.harness.snd.isEmpty&& !Rows.scaleChangesCard.stood.looks)=false:=by kernel_rfl
end Go.Proofs.YtpoaaoihkhdijaaGreatDoor.ScaleChangesProof
