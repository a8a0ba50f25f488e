/- ScaleRanges holds of the program, under no condition. -/
import Derived.Test.YtacjimehcbbkbaaGreatDoorRows
import Derived.Test.YtacjimehcbbkbaaGreatDoorChecked
import Derived.JoinedOf
set_option linter.all false
set_option maxRecDepth 100000
set_option maxHeartbeats 0
namespace Go.Proofs.YtacjimehcbbkbaaGreatDoor.eR
open Go
set_option maxRecDepth 100000
def k0:(Rows.scaleRangesRow.wf<|OpenSpec.ofChange Rows.scaleRangesSpec)=true:=by kernel_rfl
def k1:(laidOutB Tryz.prog)=true:=by kernel_rfl
def k2:(mapsRowed Tryz.prog)=true:=by kernel_rfl
def k3:(Tryz.f3.params.all (Tryz.prog.readableRec ·))=true:=by kernel_rfl
def k4:(namedTie Tryz.prog Rows.scaleRangesRow.named Rows.scaleRangesSpec.vars)=true:=by kernel_rfl
def k5:((Rows.scaleRangesRow.stops==[]))=true:=by kernel_rfl
def k6:((Tryz.prog.stops==[]))=true:=by kernel_rfl
def k7:((Rows.scaleRangesRow.knobs==[]))=true:=by kernel_rfl
def k8:((Tryz.prog.stopKnobs==[]))=true:=by kernel_rfl
def k9:((Rows.scaleRangesRow.inPlace==Tryz.prog.inPlace 3))=true:=by kernel_rfl
def k10:((Rows.scaleRangesRow.unfollowed==Tryz.prog.unfollowed 3))=true:=by kernel_rfl
def XF:((Rows.scaleRangesRow.recurses==Tryz.prog.recurses 3))=true:=by kernel_rfl
def k12:((Rows.scaleRangesRow.named==Tryz.prog.varsNamed 3))=true:=by kernel_rfl
def k13:((Rows.scaleRangesRow.maps==(Tryz.f3.params.toList++Rows.scaleRangesSpec.plain.varTypes Tryz.prog).any (Tryz.prog.mapsRec ·)))=true:=by kernel_rfl
def k14:((Rows.scaleRangesRow.ifaces==(Tryz.f3.params.toList++Rows.scaleRangesSpec.plain.varTypes Tryz.prog).any (Tryz.prog.ifacesRec ·)))=true:=by kernel_rfl
def k15:((Rows.scaleRangesRow.mapsOut==Tryz.prog.mapsAmong Tryz.f3.resultTypes.toList))=true:=by kernel_rfl
def k16:((Rows.scaleRangesRow.loops==(Tryz.f3.params.toList++Rows.scaleRangesSpec.plain.varTypes Tryz.prog).any (Tryz.prog.loopsFrom ·)))=true:=by kernel_rfl
def k17:((Rows.scaleRangesRow.wideKeys==(Tryz.f3.params.toList++Rows.scaleRangesSpec.plain.varTypes Tryz.prog++Tryz.f3.resultTypes.toList).any (Tryz.prog.wideKeysFrom ·)))=true:=by kernel_rfl
def k18:(Rows.scaleRangesSpec.vars.all (Tryz.prog.varReadable ·))=true:=by kernel_rfl
def k19:(Tryz.f3.resultTypes.all λt=>Tryz.prog.readableRec t&&decide (t<Tryz.prog.types.size))=true:=by kernel_rfl
def k20:((Rows.scaleRangesRow.ifacesOut==Tryz.f3.resultTypes.toList.any (Tryz.prog.ifacesRec ·)))=true:=by kernel_rfl
def k21:((Rows.scaleRangesRow.loopsOut==Tryz.f3.resultTypes.toList.any (Tryz.prog.loopsFrom ·)))=true:=by kernel_rfl
def k22:((Rows.scaleRangesRow.plainKeys==Tryz.prog.plainKeys))=true:=by kernel_rfl
def k23:(Rows.scaleRangesRow.shortTexts.isNone)=true:=by kernel_rfl
def k24:(Tryz.prog.stopsHeard)=true:=by kernel_rfl
def k25:(Tryz.prog.mayEnter)=true:=by kernel_rfl
def k26:((Rows.scaleRangesRow.lifted==Tryz.prog.liftsFinal))=true:=by kernel_rfl
def k27:((Tryz.prog.make==some Rows.scaleRangesRow.make))=true:=by kernel_rfl
def k28:((Rows.scaleRangesRow.kinds==(if Rows.scaleRangesRow.domain.isEmpty then[]else Tryz.f3.params.toList.map λt=>match Tryz.prog.underlying t with|some (.int k)=>some k|_=>none)))=true:=by kernel_rfl
def k29:((Rows.scaleRangesRow.pinned==Rows.scaleRangesRow.pinnedBy))=true:=by kernel_rfl
def k30:((Rows.scaleRangesRow.veiled==(Tryz.f3.params.toList++Rows.scaleRangesSpec.plain.varTypes Tryz.prog++Tryz.f3.resultTypes.toList).any (Tryz.prog.veiledRec ·)))=true:=by kernel_rfl
def k31:(Rows.scaleRangesRow.veiledFits Tryz.prog Tryz.f3.params.toList<|Tryz.f3.params.toList++Rows.scaleRangesSpec.plain.varTypes Tryz.prog++Tryz.f3.resultTypes.toList)=true:=by kernel_rfl
def closed:joinedFacts Tryz.prog 3 Tryz.f3 Rows.scaleRangesSpec Rows.scaleRangesRow=true:=by unfold joinedFacts;simp only[Bool.and_eq_true];exact⟨⟨⟨⟨⟨⟨⟨⟨⟨⟨⟨⟨⟨⟨⟨⟨⟨⟨⟨⟨⟨⟨⟨⟨⟨⟨⟨⟨⟨⟨⟨k0,k1⟩,k2⟩,k3⟩,k4⟩,k5⟩,k6⟩,k7⟩,k8⟩,k9⟩,k10⟩,XF⟩,k12⟩,k13⟩,k14⟩,k15⟩,k16⟩,k17⟩,k18⟩,k19⟩,k20⟩,k21⟩,k22⟩,k23⟩,k24⟩,k25⟩,k26⟩,k27⟩,k28⟩,k29⟩,k30⟩,k31⟩
def named:Tryz.pinned.checked.prog.funcNamed Rows.scaleRangesRow.func=some 3:=by kernel_rfl
def inst:Tryz.f3.isInstance Tryz.pinned.checked.prog Rows.scaleRangesRow.origin Rows.scaleRangesRow.targs:=of_decide_eq_true (by kernel_rfl)
def wrap:Tryz.f3.isWrapper Tryz.pinned.checked.prog Rows.scaleRangesRow.wrapper Rows.scaleRangesRow.mainSum:=by unfold Func.isWrapper;first|(rw[if_pos<|by decide +kernel];kernel_rfl)|(rw[if_neg<|by decide +kernel];exact⟨rfl,rfl⟩)
end Go.Proofs.YtacjimehcbbkbaaGreatDoor.eR
