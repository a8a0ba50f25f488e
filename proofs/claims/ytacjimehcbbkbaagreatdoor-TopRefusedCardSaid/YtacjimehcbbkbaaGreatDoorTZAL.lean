/- TopRefused holds. -/
import Derived.Test.YtacjimehcbbkbaaGreatDoorRows
import Derived.Test.YtacjimehcbbkbaaGreatDoorChecked
import Derived.JoinedOf
set_option linter.all false
set_option maxRecDepth 100000
set_option maxHeartbeats 0
namespace Go.Proofs.YtacjimehcbbkbaaGreatDoor.fh
open Go
set_option maxRecDepth 100000
def k1:(laidOutB Tryz.prog)=true:=by kernel_rfl
def closed:joinedFacts Tryz.prog 6 Tryz.f6 Rows.topRefusedSpec Rows.topRefusedRow=true:=by
 unfold joinedFacts;simp only[Bool.and_eq_true]
 and_intros<;>as_aux_lemma=>kernel_rfl
def named:Tryz.pinned.checked.prog.funcNamed Rows.topRefusedRow.func=some 6:=by kernel_rfl
def inst:Tryz.f6.isInstance Tryz.pinned.checked.prog Rows.topRefusedRow.origin Rows.topRefusedRow.targs:=of_decide_eq_true (by kernel_rfl)
def wrap:Tryz.f6.isWrapper Tryz.pinned.checked.prog Rows.topRefusedRow.wrapper Rows.topRefusedRow.mainSum:=by unfold Func.isWrapper;first|(rw[if_pos<|by decide +kernel];kernel_rfl)|(rw[if_neg<|by decide +kernel];exact⟨rfl,rfl⟩)
end Go.Proofs.YtacjimehcbbkbaaGreatDoor.fh
