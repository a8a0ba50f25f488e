/- Parts of the proof of ScaleBest (Best returns the greatest set-up, and Refuse a circle that the reference accepts, if there is none; or the errors of the reference), at every input, with no further conditions. -/
import Derived.Test.YtpoaaoihkhdijaaGreatDoorRows
import Derived.Test.YtpoaaoihkhdijaaGreatDoorChecked
import Derived.JoinedOf
set_option linter.all false
set_option maxRecDepth 100000
set_option maxHeartbeats 0
namespace Go.Proofs.YtpoaaoihkhdijaaGreatDoor.fO
open Go
set_option maxRecDepth 100000
def k0:(Rows.scaleBestRow.wf<|OpenSpec.ofChange Rows.scaleBestSpec)=true:=by kernel_rfl
def k1:(laidOutB Tryz.prog)=true:=by kernel_rfl
def k2:(mapsRowed Tryz.prog)=true:=by kernel_rfl
def k3:(Tryz.f4.params.all (Tryz.prog.readableRec ·))=true:=by kernel_rfl
def k4:(namedTie Tryz.prog Rows.scaleBestRow.named Rows.scaleBestSpec.vars)=true:=by kernel_rfl
def k5:((Rows.scaleBestRow.stops==[]))=true:=by kernel_rfl
def k6:((Tryz.prog.stops==[]))=true:=by kernel_rfl
def k7:((Rows.scaleBestRow.knobs==[]))=true:=by kernel_rfl
def k8:((Tryz.prog.stopKnobs==[]))=true:=by kernel_rfl
def k9:((Rows.scaleBestRow.inPlace==Tryz.prog.inPlace 4))=true:=by kernel_rfl
def WS:((Rows.scaleBestRow.unfollowed==Tryz.prog.unfollowed 4))=true:=by kernel_rfl
def SS:((Rows.scaleBestRow.recurses==Tryz.prog.recurses 4))=true:=by kernel_rfl
def Zy:((Rows.scaleBestRow.named==Tryz.prog.varsNamed 4))=true:=by kernel_rfl
def k13:((Rows.scaleBestRow.maps==(Tryz.f4.params.toList++Rows.scaleBestSpec.plain.varTypes Tryz.prog).any (Tryz.prog.mapsRec ·)))=true:=by kernel_rfl
def k14:((Rows.scaleBestRow.ifaces==(Tryz.f4.params.toList++Rows.scaleBestSpec.plain.varTypes Tryz.prog).any (Tryz.prog.ifacesRec ·)))=true:=by kernel_rfl
def k15:((Rows.scaleBestRow.mapsOut==Tryz.prog.mapsAmong Tryz.f4.resultTypes.toList))=true:=by kernel_rfl
def k16:((Rows.scaleBestRow.loops==(Tryz.f4.params.toList++Rows.scaleBestSpec.plain.varTypes Tryz.prog).any (Tryz.prog.loopsFrom ·)))=true:=by kernel_rfl
def k17:((Rows.scaleBestRow.wideKeys==(Tryz.f4.params.toList++Rows.scaleBestSpec.plain.varTypes Tryz.prog++Tryz.f4.resultTypes.toList).any (Tryz.prog.wideKeysFrom ·)))=true:=by kernel_rfl
def k18:(Rows.scaleBestSpec.vars.all (Tryz.prog.varReadable ·))=true:=by kernel_rfl
def k19:(Tryz.f4.resultTypes.all λt=>Tryz.prog.readableRec t&&decide (t<Tryz.prog.types.size))=true:=by kernel_rfl
def k20:((Rows.scaleBestRow.ifacesOut==Tryz.f4.resultTypes.toList.any (Tryz.prog.ifacesRec ·)))=true:=by kernel_rfl
def k21:((Rows.scaleBestRow.loopsOut==Tryz.f4.resultTypes.toList.any (Tryz.prog.loopsFrom ·)))=true:=by kernel_rfl
def k22:((Rows.scaleBestRow.plainKeys==Tryz.prog.plainKeys))=true:=by kernel_rfl
def k23:(Rows.scaleBestRow.shortTexts.isNone)=true:=by kernel_rfl
def k24:(Tryz.prog.stopsHeard)=true:=by kernel_rfl
def k25:(Tryz.prog.mayEnter)=true:=by kernel_rfl
def k26:((Rows.scaleBestRow.lifted==Tryz.prog.liftsFinal))=true:=by kernel_rfl
def k27:((Tryz.prog.make==some Rows.scaleBestRow.make))=true:=by kernel_rfl
def k28:((Rows.scaleBestRow.kinds==(if Rows.scaleBestRow.domain.isEmpty then[]else Tryz.f4.params.toList.map λt=>match Tryz.prog.underlying t with|some (.int k)=>some k|_=>none)))=true:=by kernel_rfl
def k29:((Rows.scaleBestRow.pinned==Rows.scaleBestRow.pinnedBy))=true:=by kernel_rfl
def k30:((Rows.scaleBestRow.veiled==(Tryz.f4.params.toList++Rows.scaleBestSpec.plain.varTypes Tryz.prog++Tryz.f4.resultTypes.toList).any (Tryz.prog.veiledRec ·)))=true:=by kernel_rfl
def k31:(Rows.scaleBestRow.veiledFits Tryz.prog Tryz.f4.params.toList<|Tryz.f4.params.toList++Rows.scaleBestSpec.plain.varTypes Tryz.prog++Tryz.f4.resultTypes.toList)=true:=by kernel_rfl
def closed:joinedFacts Tryz.prog 4 Tryz.f4 Rows.scaleBestSpec Rows.scaleBestRow=true:=by unfold joinedFacts;simp only[Bool.and_eq_true];exact⟨⟨⟨⟨⟨⟨⟨⟨⟨⟨⟨⟨⟨⟨⟨⟨⟨⟨⟨⟨⟨⟨⟨⟨⟨⟨⟨⟨⟨⟨⟨k0,k1⟩,k2⟩,k3⟩,k4⟩,k5⟩,k6⟩,k7⟩,k8⟩,k9⟩,WS⟩,SS⟩,Zy⟩,k13⟩,k14⟩,k15⟩,k16⟩,k17⟩,k18⟩,k19⟩,k20⟩,k21⟩,k22⟩,k23⟩,k24⟩,k25⟩,k26⟩,k27⟩,k28⟩,k29⟩,k30⟩,k31⟩
def named:Tryz.pinned.checked.prog.funcNamed Rows.scaleBestRow.func=some 4:=by kernel_rfl
def inst:Tryz.f4.isInstance Tryz.pinned.checked.prog Rows.scaleBestRow.origin Rows.scaleBestRow.targs:=of_decide_eq_true (by kernel_rfl)
def wrap:Tryz.f4.isWrapper Tryz.pinned.checked.prog Rows.scaleBestRow.wrapper Rows.scaleBestRow.mainSum:=by unfold Func.isWrapper;first|(rw[if_pos<|by decide +kernel];kernel_rfl)|(rw[if_neg<|by decide +kernel];exact⟨rfl,rfl⟩)
end Go.Proofs.YtpoaaoihkhdijaaGreatDoor.fO
