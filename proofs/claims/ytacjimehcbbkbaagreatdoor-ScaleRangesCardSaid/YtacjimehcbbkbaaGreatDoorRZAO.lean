/- ScaleRanges holds of the program, under no condition. -/
import Derived.Test.YtacjimehcbbkbaaGreatDoorRows
import Derived.Test.YtacjimehcbbkbaaGreatDoorChecked
import Derived.Test.YtacjimehcbbkbaaGreatDoorCards
import Derived.Test.YtacjimehcbbkbaaGreatDoorTie
import Derived.Laws.StandIn
set_option linter.all false
set_option maxRecDepth 100000
set_option maxHeartbeats 0
namespace Go.Proofs.YtacjimehcbbkbaaGreatDoor.ScaleRangesProof
open Go
set_option maxRecDepth 100000
def plain(f:FuncId)(fn:Func)(hf:Tryz.pinned.checked.prog.funcNamed "integraph/integraphlaw06.ScaleRanges"=some f)(hfn:Tryz.pinned.checked.prog.funcs[f]?=some fn):
 true=Tryz.pinned.checked.prog.looks []/\∀(j:Nat)t,fn.params[j]?=some t->Tryz.pinned.checked.prog.wantsStandIn t=false:=by
 obtain rfl:f=3:=Option.some.inj ((show Tryz.prog.funcNamed "integraph/integraphlaw06.ScaleRanges"=some 3 by kernel_rfl).symm.trans hf) |>.symm;obtain rfl:fn=Tryz.f3:=(Option.some.inj<|Tryz.func3.symm.trans hfn).symm;refine⟨by kernel_rfl,λj t ht=>?_⟩;rw[Tryz.params3]at ht;have ht':t∈(#[25,26]:Array Nat):=Array.mem_of_getElem? ht;simp only[List.mem_toArray,List.mem_cons,List.not_mem_nil,or_false]at ht';rcases ht' with rfl|rfl;exact(show Tryz.prog.wantsStandIn 25=false by kernel_rfl);exact(show Tryz.prog.wantsStandIn 26=false by kernel_rfl)
def main:Tryz.pinned.checked.prog.mainIs=some (Rows.scaleRangesCard.stood.harness.fst,Rows.scaleRangesCard.stood.harness.snd.toList):=by kernel_rfl
def aaW:OpenClaim.wfByText (OpenSpec.ofChange Rows.scaleRangesSpec) Rows.scaleRangesRow=true:=by kernel_rfl
def start:Rows.scaleRangesRow.start=Start.entering:=by kernel_rfl
def har:(!Rows.scaleRangesCard.stood.harness.fst&&Rows.scaleRangesCard.stood.harness.snd.isEmpty&& !Rows.scaleRangesCard.stood.looks)=false:=by kernel_rfl
end Go.Proofs.YtacjimehcbbkbaaGreatDoor.ScaleRangesProof
