/- Parts of the proof of ScaleChanges (as AIM.md's row tells), at every input, with no further conditions. -/
import Derived.Test.YtpoaaoihkhdijaaGreatDoorRows
import Derived.Test.YtpoaaoihkhdijaaGreatDoorChecked
import Derived.JoinedOf
set_option linter.all false
set_option maxRecDepth 100000
set_option maxHeartbeats 0
namespace Go.Proofs.YtpoaaoihkhdijaaGreatDoor.ov
open Go
set_option maxRecDepth 100000
def k0:(Rows.scaleChangesRow.wf<|OpenSpec.ofChange Rows.scaleChangesSpec)=true:=by kernel_rfl
def k1:(laidOutB Tryz.prog)=true:=by kernel_rfl
def k2:(mapsRowed Tryz.prog)=true:=by kernel_rfl
def k3:(Tryz.f7.params.all (Tryz.prog.readableRec ·))=true:=by kernel_rfl
def k4:(namedTie Tryz.prog Rows.scaleChangesRow.named Rows.scaleChangesSpec.vars)=true:=by kernel_rfl
def k5:((Rows.scaleChangesRow.stops==[]))=true:=by kernel_rfl
def k6:((Tryz.prog.stops==[]))=true:=by kernel_rfl
def k7:((Rows.scaleChangesRow.knobs==[]))=true:=by kernel_rfl
def k8:((Tryz.prog.stopKnobs==[]))=true:=by kernel_rfl
def k9:((Rows.scaleChangesRow.inPlace==Tryz.prog.inPlace 7))=true:=by kernel_rfl
def WS:((Rows.scaleChangesRow.unfollowed==Tryz.prog.unfollowed 7))=true:=by kernel_rfl
def SS:((Rows.scaleChangesRow.recurses==Tryz.prog.recurses 7))=true:=by kernel_rfl
def Zy:((Rows.scaleChangesRow.named==Tryz.prog.varsNamed 7))=true:=by kernel_rfl
def k13:((Rows.scaleChangesRow.maps==(Tryz.f7.params.toList++Rows.scaleChangesSpec.plain.varTypes Tryz.prog).any (Tryz.prog.mapsRec ·)))=true:=by kernel_rfl
def k14:((Rows.scaleChangesRow.ifaces==(Tryz.f7.params.toList++Rows.scaleChangesSpec.plain.varTypes Tryz.prog).any (Tryz.prog.ifacesRec ·)))=true:=by kernel_rfl
def k15:((Rows.scaleChangesRow.mapsOut==Tryz.prog.mapsAmong Tryz.f7.resultTypes.toList))=true:=by kernel_rfl
def k16:((Rows.scaleChangesRow.loops==(Tryz.f7.params.toList++Rows.scaleChangesSpec.plain.varTypes Tryz.prog).any (Tryz.prog.loopsFrom ·)))=true:=by kernel_rfl
def k17:((Rows.scaleChangesRow.wideKeys==(Tryz.f7.params.toList++Rows.scaleChangesSpec.plain.varTypes Tryz.prog++Tryz.f7.resultTypes.toList).any (Tryz.prog.wideKeysFrom ·)))=true:=by kernel_rfl
def k18:(Rows.scaleChangesSpec.vars.all (Tryz.prog.varReadable ·))=true:=by kernel_rfl
def k19:(Tryz.f7.resultTypes.all λt=>Tryz.prog.readableRec t&&decide (t<Tryz.prog.types.size))=true:=by kernel_rfl
def k20:((Rows.scaleChangesRow.ifacesOut==Tryz.f7.resultTypes.toList.any (Tryz.prog.ifacesRec ·)))=true:=by kernel_rfl
def k21:((Rows.scaleChangesRow.loopsOut==Tryz.f7.resultTypes.toList.any (Tryz.prog.loopsFrom ·)))=true:=by kernel_rfl
def k22:((Rows.scaleChangesRow.plainKeys==Tryz.prog.plainKeys))=true:=by kernel_rfl
def k23:(Rows.scaleChangesRow.shortTexts.isNone)=true:=by kernel_rfl
def k24:(Tryz.prog.stopsHeard)=true:=by kernel_rfl
def k25:(Tryz.prog.mayEnter)=true:=by kernel_rfl
def k26:((Rows.scaleChangesRow.lifted==Tryz.prog.liftsFinal))=true:=by kernel_rfl
def k27:((Tryz.prog.make==some Rows.scaleChangesRow.make))=true:=by kernel_rfl
def k28:((Rows.scaleChangesRow.kinds==(if Rows.scaleChangesRow.domain.isEmpty then[]else Tryz.f7.params.toList.map λt=>match Tryz.prog.underlying t with|some (.int k)=>some k|_=>none)))=true:=by kernel_rfl
def k29:((Rows.scaleChangesRow.pinned==Rows.scaleChangesRow.pinnedBy))=true:=by kernel_rfl
def k30:((Rows.scaleChangesRow.veiled==(Tryz.f7.params.toList++Rows.scaleChangesSpec.plain.varTypes Tryz.prog++Tryz.f7.resultTypes.toList).any (Tryz.prog.veiledRec ·)))=true:=by kernel_rfl
def k31:(Rows.scaleChangesRow.veiledFits Tryz.prog Tryz.f7.params.toList<|Tryz.f7.params.toList++Rows.scaleChangesSpec.plain.varTypes Tryz.prog++Tryz.f7.resultTypes.toList)=true:=by kernel_rfl
def closed:joinedFacts Tryz.prog 7 Tryz.f7 Rows.scaleChangesSpec Rows.scaleChangesRow=true:=by unfold joinedFacts;simp only[Bool.and_eq_true];exact⟨⟨⟨⟨⟨⟨⟨⟨⟨⟨⟨⟨⟨⟨⟨⟨⟨⟨⟨⟨⟨⟨⟨⟨⟨⟨⟨⟨⟨⟨⟨k0,k1⟩,k2⟩,k3⟩,k4⟩,k5⟩,k6⟩,k7⟩,k8⟩,k9⟩,WS⟩,SS⟩,Zy⟩,k13⟩,k14⟩,k15⟩,k16⟩,k17⟩,k18⟩,k19⟩,k20⟩,k21⟩,k22⟩,k23⟩,k24⟩,k25⟩,k26⟩,k27⟩,k28⟩,k29⟩,k30⟩,k31⟩
def named:Tryz.pinned.checked.prog.funcNamed Rows.scaleChangesRow.func=some 7:=by kernel_rfl
def inst:Tryz.f7.isInstance Tryz.pinned.checked.prog Rows.scaleChangesRow.origin Rows.scaleChangesRow.targs:=of_decide_eq_true (by kernel_rfl)
def wrap:Tryz.f7.isWrapper Tryz.pinned.checked.prog Rows.scaleChangesRow.wrapper Rows.scaleChangesRow.mainSum:=by unfold Func.isWrapper;first|(rw[if_pos<|by decide +kernel];kernel_rfl)|(rw[if_neg<|by decide +kernel];exact⟨rfl,rfl⟩)
end Go.Proofs.YtpoaaoihkhdijaaGreatDoor.ov
