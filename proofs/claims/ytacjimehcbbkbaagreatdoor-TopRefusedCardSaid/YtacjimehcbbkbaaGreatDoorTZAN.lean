/- TopRefused holds. -/
import Derived.Test.YtacjimehcbbkbaaGreatDoorRows
import Derived.Test.YtacjimehcbbkbaaGreatDoorChecked
import Derived.Test.YtacjimehcbbkbaaGreatDoorCards
import Derived.Laws.StandIn
set_option linter.all false
set_option maxRecDepth 100000
set_option maxHeartbeats 0
namespace Go.Proofs.YtacjimehcbbkbaaGreatDoor.TopRefusedProof
open Go
set_option maxRecDepth 100000
def plain(f:FuncId)(fn:Func)(hf:Tryz.pinned.checked.prog.funcNamed "integraph/integraphtop.TopRefused"=some f)(hfn:Tryz.pinned.checked.prog.funcs[f]?=some fn):
 true=Tryz.pinned.checked.prog.looks []/\∀(j:Nat)t,fn.params[j]?=some t->Tryz.pinned.checked.prog.wantsStandIn t=false:=by
 obtain rfl:f=6:=Option.some.inj ((show Tryz.prog.funcNamed "integraph/integraphtop.TopRefused"=some 6 by kernel_rfl).symm.trans hf) |>.symm;obtain rfl:fn=Tryz.f6:=(Option.some.inj<|Tryz.func6.symm.trans hfn).symm;refine⟨by kernel_rfl,λj t ht=>?_⟩;rw[Tryz.params6]at ht;have ht':t∈(#[25,85,51]:Array Nat):=Array.mem_of_getElem? ht;simp only[List.mem_toArray,List.mem_cons,List.not_mem_nil,or_false]at ht';rcases ht' with rfl|rfl|rfl;exact(show Tryz.prog.wantsStandIn 25=false by kernel_rfl);exact(show Tryz.prog.wantsStandIn 85=false by kernel_rfl);exact(show Tryz.prog.wantsStandIn 51=false by kernel_rfl)
def main:Tryz.pinned.checked.prog.mainIs=some (Rows.topRefusedCard.stood.harness.fst,Rows.topRefusedCard.stood.harness.snd.toList):=by kernel_rfl
def ab5:OpenClaim.wfByText (OpenSpec.ofChange Rows.topRefusedSpec) Rows.topRefusedRow=true:=by kernel_rfl
def start:Rows.topRefusedRow.start=Start.entering:=by kernel_rfl
def har:(!Rows.topRefusedCard.stood.harness.fst&&Rows.topRefusedCard.stood.harness.snd.isEmpty&& !Rows.topRefusedCard.stood.looks)=false:=by kernel_rfl
end Go.Proofs.YtacjimehcbbkbaaGreatDoor.TopRefusedProof
