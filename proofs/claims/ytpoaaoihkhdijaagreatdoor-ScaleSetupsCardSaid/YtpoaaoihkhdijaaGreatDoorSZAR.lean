/- Parts of the proof of ScaleSetups (as AIM.md's row tells), at every input, with no further conditions. -/
import Derived.Test.YtpoaaoihkhdijaaGreatDoorRows
import Derived.Test.YtpoaaoihkhdijaaGreatDoorChecked
import Derived.JoinedOf
set_option linter.all false
set_option maxRecDepth 100000
set_option maxHeartbeats 0
namespace Go.Proofs.YtpoaaoihkhdijaaGreatDoor.gI
open Go
set_option maxRecDepth 100000
def k0:(Rows.scaleSetupsRow.wf<|OpenSpec.ofChange Rows.scaleSetupsSpec)=true:=by kernel_rfl
def k1:(laidOutB Tryz.prog)=true:=by kernel_rfl
def k2:(mapsRowed Tryz.prog)=true:=by kernel_rfl
def k3:(Tryz.f6.params.all (Tryz.prog.readableRec ·))=true:=by kernel_rfl
def k4:(namedTie Tryz.prog Rows.scaleSetupsRow.named Rows.scaleSetupsSpec.vars)=true:=by kernel_rfl
def k5:((Rows.scaleSetupsRow.stops==[]))=true:=by kernel_rfl
def k6:((Tryz.prog.stops==[]))=true:=by kernel_rfl
def k7:((Rows.scaleSetupsRow.knobs==[]))=true:=by kernel_rfl
def k8:((Tryz.prog.stopKnobs==[]))=true:=by kernel_rfl
def k9:((Rows.scaleSetupsRow.inPlace==Tryz.prog.inPlace 6))=true:=by kernel_rfl
def WS:((Rows.scaleSetupsRow.unfollowed==Tryz.prog.unfollowed 6))=true:=by kernel_rfl
def SS:((Rows.scaleSetupsRow.recurses==Tryz.prog.recurses 6))=true:=by kernel_rfl
def Zy:((Rows.scaleSetupsRow.named==Tryz.prog.varsNamed 6))=true:=by kernel_rfl
def k13:((Rows.scaleSetupsRow.maps==(Tryz.f6.params.toList++Rows.scaleSetupsSpec.plain.varTypes Tryz.prog).any (Tryz.prog.mapsRec ·)))=true:=by kernel_rfl
def k14:((Rows.scaleSetupsRow.ifaces==(Tryz.f6.params.toList++Rows.scaleSetupsSpec.plain.varTypes Tryz.prog).any (Tryz.prog.ifacesRec ·)))=true:=by kernel_rfl
def k15:((Rows.scaleSetupsRow.mapsOut==Tryz.prog.mapsAmong Tryz.f6.resultTypes.toList))=true:=by kernel_rfl
def k16:((Rows.scaleSetupsRow.loops==(Tryz.f6.params.toList++Rows.scaleSetupsSpec.plain.varTypes Tryz.prog).any (Tryz.prog.loopsFrom ·)))=true:=by kernel_rfl
def k17:((Rows.scaleSetupsRow.wideKeys==(Tryz.f6.params.toList++Rows.scaleSetupsSpec.plain.varTypes Tryz.prog++Tryz.f6.resultTypes.toList).any (Tryz.prog.wideKeysFrom ·)))=true:=by kernel_rfl
def k18:(Rows.scaleSetupsSpec.vars.all (Tryz.prog.varReadable ·))=true:=by kernel_rfl
def k19:(Tryz.f6.resultTypes.all λt=>Tryz.prog.readableRec t&&decide (t<Tryz.prog.types.size))=true:=by kernel_rfl
def k20:((Rows.scaleSetupsRow.ifacesOut==Tryz.f6.resultTypes.toList.any (Tryz.prog.ifacesRec ·)))=true:=by kernel_rfl
def k21:((Rows.scaleSetupsRow.loopsOut==Tryz.f6.resultTypes.toList.any (Tryz.prog.loopsFrom ·)))=true:=by kernel_rfl
def k22:((Rows.scaleSetupsRow.plainKeys==Tryz.prog.plainKeys))=true:=by kernel_rfl
def k23:(Rows.scaleSetupsRow.shortTexts.isNone)=true:=by kernel_rfl
def k24:(Tryz.prog.stopsHeard)=true:=by kernel_rfl
def k25:(Tryz.prog.mayEnter)=true:=by kernel_rfl
def k26:((Rows.scaleSetupsRow.lifted==Tryz.prog.liftsFinal))=true:=by kernel_rfl
def k27:((Tryz.prog.make==some Rows.scaleSetupsRow.make))=true:=by kernel_rfl
def k28:((Rows.scaleSetupsRow.kinds==(if Rows.scaleSetupsRow.domain.isEmpty then[]else Tryz.f6.params.toList.map λt=>match Tryz.prog.underlying t with|some (.int k)=>some k|_=>none)))=true:=by kernel_rfl
def k29:((Rows.scaleSetupsRow.pinned==Rows.scaleSetupsRow.pinnedBy))=true:=by kernel_rfl
def k30:((Rows.scaleSetupsRow.veiled==(Tryz.f6.params.toList++Rows.scaleSetupsSpec.plain.varTypes Tryz.prog++Tryz.f6.resultTypes.toList).any (Tryz.prog.veiledRec ·)))=true:=by kernel_rfl
def k31:(Rows.scaleSetupsRow.veiledFits Tryz.prog Tryz.f6.params.toList<|Tryz.f6.params.toList++Rows.scaleSetupsSpec.plain.varTypes Tryz.prog++Tryz.f6.resultTypes.toList)=true:=by kernel_rfl
def closed:joinedFacts Tryz.prog 6 Tryz.f6 Rows.scaleSetupsSpec Rows.scaleSetupsRow=true:=by unfold joinedFacts;simp only[Bool.and_eq_true];exact⟨⟨⟨⟨⟨⟨⟨⟨⟨⟨⟨⟨⟨⟨⟨⟨⟨⟨⟨⟨⟨⟨⟨⟨⟨⟨⟨⟨⟨⟨⟨k0,k1⟩,k2⟩,k3⟩,k4⟩,k5⟩,k6⟩,k7⟩,k8⟩,k9⟩,WS⟩,SS⟩,Zy⟩,k13⟩,k14⟩,k15⟩,k16⟩,k17⟩,k18⟩,k19⟩,k20⟩,k21⟩,k22⟩,k23⟩,k24⟩,k25⟩,k26⟩,k27⟩,k28⟩,k29⟩,k30⟩,k31⟩
def named:Tryz.pinned.checked.prog.funcNamed Rows.scaleSetupsRow.func=some 6:=by kernel_rfl
def inst:Tryz.f6.isInstance Tryz.pinned.checked.prog Rows.scaleSetupsRow.origin Rows.scaleSetupsRow.targs:=of_decide_eq_true (by kernel_rfl)
def wrap:Tryz.f6.isWrapper Tryz.pinned.checked.prog Rows.scaleSetupsRow.wrapper Rows.scaleSetupsRow.mainSum:=by unfold Func.isWrapper;first|(rw[if_pos<|by decide +kernel];kernel_rfl)|(rw[if_neg<|by decide +kernel];exact⟨rfl,rfl⟩)
end Go.Proofs.YtpoaaoihkhdijaaGreatDoor.gI
