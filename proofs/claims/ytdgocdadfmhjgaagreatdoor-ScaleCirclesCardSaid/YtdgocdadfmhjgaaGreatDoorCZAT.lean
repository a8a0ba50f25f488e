/- Parts of the proof of ScaleCircles (CheckRefused returns the error of the reference), at every input, with no further conditions. -/
import Derived.Test.YtdgocdadfmhjgaaGreatDoorRows
import Derived.Test.YtdgocdadfmhjgaaGreatDoorChecked
import Derived.Test.YtdgocdadfmhjgaaGreatDoorCards
import Derived.Test.YtdgocdadfmhjgaaGreatDoorTie
import Derived.Laws.StandIn
set_option linter.all false
set_option maxRecDepth 100000
set_option maxHeartbeats 0
namespace Go.Proofs.YtdgocdadfmhjgaaGreatDoor.ScaleCirclesProof
open Go
set_option maxRecDepth 100000
def plain(f:FuncId)(fn:Func)(hf:Tryz.pinned.checked.prog.funcNamed "integraph/integraphlaw06.ScaleCircles"=some f)(Yi:Tryz.pinned.checked.prog.funcs[f]?=some fn):
 true=Tryz.pinned.checked.prog.looks []/\∀(j:Nat)t,fn.params[j]?=some t->Tryz.pinned.checked.prog.wantsStandIn t=false:=by
 obtain rfl:f=4:=Option.some.inj ((show Tryz.prog.funcNamed "integraph/integraphlaw06.ScaleCircles"=some 4 by kernel_rfl).symm.trans hf) |>.symm;obtain rfl:fn=Tryz.f4:=(Option.some.inj<|Tryz.func4.symm.trans Yi).symm;refine⟨by kernel_rfl,λj t ht=>?_⟩;rw[Tryz.params4]at ht;have Pc:t∈(#[25,30,23]:Array Nat):=Array.mem_of_getElem? ht;simp only[List.mem_toArray,List.mem_cons,List.not_mem_nil,or_false]at Pc;rcases Pc with rfl|rfl|rfl
 ·exact(show Tryz.prog.wantsStandIn 25=false by kernel_rfl)
 ·exact(show Tryz.prog.wantsStandIn 30=false by kernel_rfl)
 exact(show Tryz.prog.wantsStandIn 23=false by kernel_rfl)
def main:Tryz.pinned.checked.prog.mainIs=some (Rows.scaleCirclesCard.stood.harness.fst,Rows.scaleCirclesCard.stood.harness.snd.toList):=by kernel_rfl
def aar:OpenClaim.wfByText (OpenSpec.ofChange Rows.scaleCirclesSpec) Rows.scaleCirclesRow=true:=by kernel_rfl
def start:Rows.scaleCirclesRow.start=Start.entering:=by kernel_rfl
def har:(!Rows.scaleCirclesCard.stood.harness.fst&&Rows.scaleCirclesCard.stood.harness.snd.isEmpty&& !Rows.scaleCirclesCard.stood.looks)=false:=by kernel_rfl
end Go.Proofs.YtdgocdadfmhjgaaGreatDoor.ScaleCirclesProof
