/- Parts of the proof of ScaleNumbers (CheckBench, Exponent and Largest answer as the reference does), at every input, with no further conditions. -/
import Derived.Test.YtdgocdadfmhjgaaGreatDoorRows
import Derived.Test.YtdgocdadfmhjgaaGreatDoorChecked
import Derived.Test.YtdgocdadfmhjgaaGreatDoorCards
import Derived.Test.YtdgocdadfmhjgaaGreatDoorTie
import Derived.Laws.StandIn
set_option linter.unusedVariables false
set_option linter.unusedSimpArgs false
namespace Go.Proofs.YtdgocdadfmhjgaaGreatDoor.ScaleNumbersProof
open Go
set_option maxRecDepth 100000
theorem plain(f:FuncId)(fn:Func)(hf:Tryz.pinned.checked.prog.funcNamed "integraph/integraphlaw06.ScaleNumbers"=some f)(Sa:Tryz.pinned.checked.prog.funcs[f]?=some fn):
 true=Tryz.pinned.checked.prog.looks []/\∀(j:Nat)t,fn.params[j]?=some t->Tryz.pinned.checked.prog.wantsStandIn t=false:=by
 obtain rfl:f=6:=Option.some.inj ((show Tryz.prog.funcNamed "integraph/integraphlaw06.ScaleNumbers"=some 6 by kernel_rfl).symm.trans hf) |>.symm;obtain rfl:fn=Tryz.f6:=(Option.some.inj (Tryz.func6.symm.trans Sa)).symm;refine⟨by kernel_rfl,fun j t ht=>?_⟩;rw[Tryz.params6]at ht;have JT:t∈(#[28,46,67]:Array Nat):=Array.mem_of_getElem? ht;simp only[List.mem_toArray,List.mem_cons,List.not_mem_nil,or_false]at JT;rcases JT with rfl|rfl|rfl
 ·exact(show Tryz.prog.wantsStandIn 28=false by kernel_rfl)
 ·exact(show Tryz.prog.wantsStandIn 46=false by kernel_rfl)
 exact(show Tryz.prog.wantsStandIn 67=false by kernel_rfl)
theorem main:Tryz.pinned.checked.prog.mainIs=some (Rows.scaleNumbersCard.stood.harness.fst,Rows.scaleNumbersCard.stood.harness.snd.toList):=by kernel_rfl
theorem Ux:OpenClaim.wfByText (OpenSpec.ofChange Rows.scaleNumbersSpec) Rows.scaleNumbersRow=true:=by kernel_rfl
theorem start:Rows.scaleNumbersRow.start=Start.entering:=by kernel_rfl
theorem har:(!Rows.scaleNumbersCard.stood.harness.fst&&Rows.scaleNumbersCard.stood.harness.snd.isEmpty&& !Rows.scaleNumbersCard.stood.looks)=false:=by kernel_rfl
end Go.Proofs.YtdgocdadfmhjgaaGreatDoor.ScaleNumbersProof
