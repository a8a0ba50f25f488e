/- Parts of the proof of ScaleGreatest (no set-up that CheckSetup accepts has a shaft's exponent that is greater than that of Best, there is none where Best finds none, and Best grows with Shaft and Gear), at every input, with no further conditions. -/
import Derived.Test.YtpoaaoihkhdijaaGreatDoorRows
import Derived.Test.YtpoaaoihkhdijaaGreatDoorChecked
import Derived.JoinedOf
set_option linter.all false
set_option maxRecDepth 100000
set_option maxHeartbeats 0
namespace Go.Proofs.YtpoaaoihkhdijaaGreatDoor.lT
open Go
set_option maxRecDepth 100000
def k0:(Rows.scaleGreatestRow.wf<|OpenSpec.ofChange Rows.scaleGreatestSpec)=true:=by kernel_rfl
def k1:(laidOutB Tryz.prog)=true:=by kernel_rfl
def k2:(mapsRowed Tryz.prog)=true:=by kernel_rfl
def k3:(Tryz.f3.params.all (Tryz.prog.readableRec ·))=true:=by kernel_rfl
def k4:(namedTie Tryz.prog Rows.scaleGreatestRow.named Rows.scaleGreatestSpec.vars)=true:=by kernel_rfl
def k5:((Rows.scaleGreatestRow.stops==[]))=true:=by kernel_rfl
def k6:((Tryz.prog.stops==[]))=true:=by kernel_rfl
def k7:((Rows.scaleGreatestRow.knobs==[]))=true:=by kernel_rfl
def k8:((Tryz.prog.stopKnobs==[]))=true:=by kernel_rfl
def k9:((Rows.scaleGreatestRow.inPlace==Tryz.prog.inPlace 3))=true:=by kernel_rfl
def WS:((Rows.scaleGreatestRow.unfollowed==Tryz.prog.unfollowed 3))=true:=by kernel_rfl
def SS:((Rows.scaleGreatestRow.recurses==Tryz.prog.recurses 3))=true:=by kernel_rfl
def Zy:((Rows.scaleGreatestRow.named==Tryz.prog.varsNamed 3))=true:=by kernel_rfl
def k13:((Rows.scaleGreatestRow.maps==(Tryz.f3.params.toList++Rows.scaleGreatestSpec.plain.varTypes Tryz.prog).any (Tryz.prog.mapsRec ·)))=true:=by kernel_rfl
def k14:((Rows.scaleGreatestRow.ifaces==(Tryz.f3.params.toList++Rows.scaleGreatestSpec.plain.varTypes Tryz.prog).any (Tryz.prog.ifacesRec ·)))=true:=by kernel_rfl
def k15:((Rows.scaleGreatestRow.mapsOut==Tryz.prog.mapsAmong Tryz.f3.resultTypes.toList))=true:=by kernel_rfl
def k16:((Rows.scaleGreatestRow.loops==(Tryz.f3.params.toList++Rows.scaleGreatestSpec.plain.varTypes Tryz.prog).any (Tryz.prog.loopsFrom ·)))=true:=by kernel_rfl
def k17:((Rows.scaleGreatestRow.wideKeys==(Tryz.f3.params.toList++Rows.scaleGreatestSpec.plain.varTypes Tryz.prog++Tryz.f3.resultTypes.toList).any (Tryz.prog.wideKeysFrom ·)))=true:=by kernel_rfl
def k18:(Rows.scaleGreatestSpec.vars.all (Tryz.prog.varReadable ·))=true:=by kernel_rfl
def k19:(Tryz.f3.resultTypes.all λt=>Tryz.prog.readableRec t&&decide (t<Tryz.prog.types.size))=true:=by kernel_rfl
def k20:((Rows.scaleGreatestRow.ifacesOut==Tryz.f3.resultTypes.toList.any (Tryz.prog.ifacesRec ·)))=true:=by kernel_rfl
def k21:((Rows.scaleGreatestRow.loopsOut==Tryz.f3.resultTypes.toList.any (Tryz.prog.loopsFrom ·)))=true:=by kernel_rfl
def k22:((Rows.scaleGreatestRow.plainKeys==Tryz.prog.plainKeys))=true:=by kernel_rfl
def k23:(Rows.scaleGreatestRow.shortTexts.isNone)=true:=by kernel_rfl
def k24:(Tryz.prog.stopsHeard)=true:=by kernel_rfl
def k25:(Tryz.prog.mayEnter)=true:=by kernel_rfl
def k26:((Rows.scaleGreatestRow.lifted==Tryz.prog.liftsFinal))=true:=by kernel_rfl
def k27:((Tryz.prog.make==some Rows.scaleGreatestRow.make))=true:=by kernel_rfl
def k28:((Rows.scaleGreatestRow.kinds==(if Rows.scaleGreatestRow.domain.isEmpty then[]else Tryz.f3.params.toList.map λt=>match Tryz.prog.underlying t with|some (.int k)=>some k|_=>none)))=true:=by kernel_rfl
def k29:((Rows.scaleGreatestRow.pinned==Rows.scaleGreatestRow.pinnedBy))=true:=by kernel_rfl
def k30:((Rows.scaleGreatestRow.veiled==(Tryz.f3.params.toList++Rows.scaleGreatestSpec.plain.varTypes Tryz.prog++Tryz.f3.resultTypes.toList).any (Tryz.prog.veiledRec ·)))=true:=by kernel_rfl
def k31:(Rows.scaleGreatestRow.veiledFits Tryz.prog Tryz.f3.params.toList<|Tryz.f3.params.toList++Rows.scaleGreatestSpec.plain.varTypes Tryz.prog++Tryz.f3.resultTypes.toList)=true:=by kernel_rfl
def closed:joinedFacts Tryz.prog 3 Tryz.f3 Rows.scaleGreatestSpec Rows.scaleGreatestRow=true:=by unfold joinedFacts;simp only[Bool.and_eq_true];exact⟨⟨⟨⟨⟨⟨⟨⟨⟨⟨⟨⟨⟨⟨⟨⟨⟨⟨⟨⟨⟨⟨⟨⟨⟨⟨⟨⟨⟨⟨⟨k0,k1⟩,k2⟩,k3⟩,k4⟩,k5⟩,k6⟩,k7⟩,k8⟩,k9⟩,WS⟩,SS⟩,Zy⟩,k13⟩,k14⟩,k15⟩,k16⟩,k17⟩,k18⟩,k19⟩,k20⟩,k21⟩,k22⟩,k23⟩,k24⟩,k25⟩,k26⟩,k27⟩,k28⟩,k29⟩,k30⟩,k31⟩
def named:Tryz.pinned.checked.prog.funcNamed Rows.scaleGreatestRow.func=some 3:=by kernel_rfl
def inst:Tryz.f3.isInstance Tryz.pinned.checked.prog Rows.scaleGreatestRow.origin Rows.scaleGreatestRow.targs:=of_decide_eq_true (by kernel_rfl)
def wrap:Tryz.f3.isWrapper Tryz.pinned.checked.prog Rows.scaleGreatestRow.wrapper Rows.scaleGreatestRow.mainSum:=by unfold Func.isWrapper;first|(rw[if_pos<|by decide +kernel];kernel_rfl)|(rw[if_neg<|by decide +kernel];exact⟨rfl,rfl⟩)
end Go.Proofs.YtpoaaoihkhdijaaGreatDoor.lT
