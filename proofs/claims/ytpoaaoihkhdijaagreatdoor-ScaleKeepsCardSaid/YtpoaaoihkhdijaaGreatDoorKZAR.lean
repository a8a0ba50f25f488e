/- Parts of the proof of ScaleKeeps (as AIM.md's row tells), at every input, with no further conditions. -/
import Derived.Test.YtpoaaoihkhdijaaGreatDoorRows
import Derived.Test.YtpoaaoihkhdijaaGreatDoorChecked
import Derived.JoinedOf
set_option linter.all false
set_option maxRecDepth 100000
set_option maxHeartbeats 0
namespace Go.Proofs.YtpoaaoihkhdijaaGreatDoor.ik
open Go
set_option maxRecDepth 100000
def k0:(Rows.scaleKeepsRow.wf<|OpenSpec.ofChange Rows.scaleKeepsSpec)=true:=by kernel_rfl
def k1:(laidOutB Tryz.prog)=true:=by kernel_rfl
def k2:(mapsRowed Tryz.prog)=true:=by kernel_rfl
def k3:(Tryz.f5.params.all (Tryz.prog.readableRec ·))=true:=by kernel_rfl
def k4:(namedTie Tryz.prog Rows.scaleKeepsRow.named Rows.scaleKeepsSpec.vars)=true:=by kernel_rfl
def k5:((Rows.scaleKeepsRow.stops==[]))=true:=by kernel_rfl
def k6:((Tryz.prog.stops==[]))=true:=by kernel_rfl
def k7:((Rows.scaleKeepsRow.knobs==[]))=true:=by kernel_rfl
def k8:((Tryz.prog.stopKnobs==[]))=true:=by kernel_rfl
def k9:((Rows.scaleKeepsRow.inPlace==Tryz.prog.inPlace 5))=true:=by kernel_rfl
def WS:((Rows.scaleKeepsRow.unfollowed==Tryz.prog.unfollowed 5))=true:=by kernel_rfl
def SS:((Rows.scaleKeepsRow.recurses==Tryz.prog.recurses 5))=true:=by kernel_rfl
def Zy:((Rows.scaleKeepsRow.named==Tryz.prog.varsNamed 5))=true:=by kernel_rfl
def k13:((Rows.scaleKeepsRow.maps==(Tryz.f5.params.toList++Rows.scaleKeepsSpec.plain.varTypes Tryz.prog).any (Tryz.prog.mapsRec ·)))=true:=by kernel_rfl
def k14:((Rows.scaleKeepsRow.ifaces==(Tryz.f5.params.toList++Rows.scaleKeepsSpec.plain.varTypes Tryz.prog).any (Tryz.prog.ifacesRec ·)))=true:=by kernel_rfl
def k15:((Rows.scaleKeepsRow.mapsOut==Tryz.prog.mapsAmong Tryz.f5.resultTypes.toList))=true:=by kernel_rfl
def k16:((Rows.scaleKeepsRow.loops==(Tryz.f5.params.toList++Rows.scaleKeepsSpec.plain.varTypes Tryz.prog).any (Tryz.prog.loopsFrom ·)))=true:=by kernel_rfl
def k17:((Rows.scaleKeepsRow.wideKeys==(Tryz.f5.params.toList++Rows.scaleKeepsSpec.plain.varTypes Tryz.prog++Tryz.f5.resultTypes.toList).any (Tryz.prog.wideKeysFrom ·)))=true:=by kernel_rfl
def k18:(Rows.scaleKeepsSpec.vars.all (Tryz.prog.varReadable ·))=true:=by kernel_rfl
def k19:(Tryz.f5.resultTypes.all λt=>Tryz.prog.readableRec t&&decide (t<Tryz.prog.types.size))=true:=by kernel_rfl
def k20:((Rows.scaleKeepsRow.ifacesOut==Tryz.f5.resultTypes.toList.any (Tryz.prog.ifacesRec ·)))=true:=by kernel_rfl
def k21:((Rows.scaleKeepsRow.loopsOut==Tryz.f5.resultTypes.toList.any (Tryz.prog.loopsFrom ·)))=true:=by kernel_rfl
def k22:((Rows.scaleKeepsRow.plainKeys==Tryz.prog.plainKeys))=true:=by kernel_rfl
def k23:(Rows.scaleKeepsRow.shortTexts.isNone)=true:=by kernel_rfl
def k24:(Tryz.prog.stopsHeard)=true:=by kernel_rfl
def k25:(Tryz.prog.mayEnter)=true:=by kernel_rfl
def k26:((Rows.scaleKeepsRow.lifted==Tryz.prog.liftsFinal))=true:=by kernel_rfl
def k27:((Tryz.prog.make==some Rows.scaleKeepsRow.make))=true:=by kernel_rfl
def k28:((Rows.scaleKeepsRow.kinds==(if Rows.scaleKeepsRow.domain.isEmpty then[]else Tryz.f5.params.toList.map λt=>match Tryz.prog.underlying t with|some (.int k)=>some k|_=>none)))=true:=by kernel_rfl
def k29:((Rows.scaleKeepsRow.pinned==Rows.scaleKeepsRow.pinnedBy))=true:=by kernel_rfl
def k30:((Rows.scaleKeepsRow.veiled==(Tryz.f5.params.toList++Rows.scaleKeepsSpec.plain.varTypes Tryz.prog++Tryz.f5.resultTypes.toList).any (Tryz.prog.veiledRec ·)))=true:=by kernel_rfl
def k31:(Rows.scaleKeepsRow.veiledFits Tryz.prog Tryz.f5.params.toList<|Tryz.f5.params.toList++Rows.scaleKeepsSpec.plain.varTypes Tryz.prog++Tryz.f5.resultTypes.toList)=true:=by kernel_rfl
def closed:joinedFacts Tryz.prog 5 Tryz.f5 Rows.scaleKeepsSpec Rows.scaleKeepsRow=true:=by unfold joinedFacts;simp only[Bool.and_eq_true];exact⟨⟨⟨⟨⟨⟨⟨⟨⟨⟨⟨⟨⟨⟨⟨⟨⟨⟨⟨⟨⟨⟨⟨⟨⟨⟨⟨⟨⟨⟨⟨k0,k1⟩,k2⟩,k3⟩,k4⟩,k5⟩,k6⟩,k7⟩,k8⟩,k9⟩,WS⟩,SS⟩,Zy⟩,k13⟩,k14⟩,k15⟩,k16⟩,k17⟩,k18⟩,k19⟩,k20⟩,k21⟩,k22⟩,k23⟩,k24⟩,k25⟩,k26⟩,k27⟩,k28⟩,k29⟩,k30⟩,k31⟩
def named:Tryz.pinned.checked.prog.funcNamed Rows.scaleKeepsRow.func=some 5:=by kernel_rfl
def inst:Tryz.f5.isInstance Tryz.pinned.checked.prog Rows.scaleKeepsRow.origin Rows.scaleKeepsRow.targs:=of_decide_eq_true (by kernel_rfl)
def wrap:Tryz.f5.isWrapper Tryz.pinned.checked.prog Rows.scaleKeepsRow.wrapper Rows.scaleKeepsRow.mainSum:=by unfold Func.isWrapper;first|(rw[if_pos<|by decide +kernel];kernel_rfl)|(rw[if_neg<|by decide +kernel];exact⟨rfl,rfl⟩)
end Go.Proofs.YtpoaaoihkhdijaaGreatDoor.ik
