/- Parts of the proof of ScaleNumbers (CheckBench, Exponent and Largest answer as the reference does), at every input, with no further conditions. -/
import Derived.Test.YtdgocdadfmhjgaaGreatDoorRows
import Derived.Test.YtdgocdadfmhjgaaGreatDoorChecked
import Derived.JoinedOf
set_option linter.unusedVariables false
set_option linter.unusedSimpArgs false
namespace Go.Proofs.YtdgocdadfmhjgaaGreatDoor.eQ
open Go
set_option maxRecDepth 100000
theorem k0:(Rows.scaleNumbersRow.wf (OpenSpec.ofChange Rows.scaleNumbersSpec))=true:=by kernel_rfl
theorem k1:(laidOutB Tryz.prog)=true:=by kernel_rfl
theorem k2:(mapsRowed Tryz.prog)=true:=by kernel_rfl
theorem k3:(Tryz.f6.params.all (Tryz.prog.readableRec ·))=true:=by kernel_rfl
theorem k4:(namedTie Tryz.prog Rows.scaleNumbersRow.named Rows.scaleNumbersSpec.vars)=true:=by kernel_rfl
theorem k5:((Rows.scaleNumbersRow.stops==[]))=true:=by kernel_rfl
theorem k6:((Tryz.prog.stops==[]))=true:=by kernel_rfl
theorem k7:((Rows.scaleNumbersRow.knobs==[]))=true:=by kernel_rfl
theorem k8:((Tryz.prog.stopKnobs==[]))=true:=by kernel_rfl
theorem k9:((Rows.scaleNumbersRow.inPlace==Tryz.prog.inPlace 6))=true:=by kernel_rfl
theorem Vf:((Rows.scaleNumbersRow.unfollowed==Tryz.prog.unfollowed 6))=true:=by kernel_rfl
theorem Qz:((Rows.scaleNumbersRow.recurses==Tryz.prog.recurses 6))=true:=by kernel_rfl
theorem k12:((Rows.scaleNumbersRow.named==Tryz.prog.varsNamed 6))=true:=by kernel_rfl
theorem k13:((Rows.scaleNumbersRow.maps==(Tryz.f6.params.toList++Rows.scaleNumbersSpec.plain.varTypes Tryz.prog).any (Tryz.prog.mapsRec ·)))=true:=by kernel_rfl
theorem k14:((Rows.scaleNumbersRow.ifaces==(Tryz.f6.params.toList++Rows.scaleNumbersSpec.plain.varTypes Tryz.prog).any (Tryz.prog.ifacesRec ·)))=true:=by kernel_rfl
theorem k15:((Rows.scaleNumbersRow.mapsOut==Tryz.prog.mapsAmong Tryz.f6.resultTypes.toList))=true:=by kernel_rfl
theorem k16:((Rows.scaleNumbersRow.loops==(Tryz.f6.params.toList++Rows.scaleNumbersSpec.plain.varTypes Tryz.prog).any (Tryz.prog.loopsFrom ·)))=true:=by kernel_rfl
theorem k17:((Rows.scaleNumbersRow.wideKeys==(Tryz.f6.params.toList++Rows.scaleNumbersSpec.plain.varTypes Tryz.prog++Tryz.f6.resultTypes.toList).any (Tryz.prog.wideKeysFrom ·)))=true:=by kernel_rfl
theorem k18:(Rows.scaleNumbersSpec.vars.all (Tryz.prog.varReadable ·))=true:=by kernel_rfl
theorem k19:(Tryz.f6.resultTypes.all (fun t=>Tryz.prog.readableRec t&&decide (t<Tryz.prog.types.size)))=true:=by kernel_rfl
theorem k20:((Rows.scaleNumbersRow.ifacesOut==Tryz.f6.resultTypes.toList.any (Tryz.prog.ifacesRec ·)))=true:=by kernel_rfl
theorem k21:((Rows.scaleNumbersRow.loopsOut==Tryz.f6.resultTypes.toList.any (Tryz.prog.loopsFrom ·)))=true:=by kernel_rfl
theorem k22:((Rows.scaleNumbersRow.plainKeys==Tryz.prog.plainKeys))=true:=by kernel_rfl
theorem k23:(Rows.scaleNumbersRow.shortTexts.isNone)=true:=by kernel_rfl
theorem k24:(Tryz.prog.stopsHeard)=true:=by kernel_rfl
theorem k25:(Tryz.prog.mayEnter)=true:=by kernel_rfl
theorem k26:((Rows.scaleNumbersRow.lifted==Tryz.prog.liftsFinal))=true:=by kernel_rfl
theorem k27:((Tryz.prog.make==some Rows.scaleNumbersRow.make))=true:=by kernel_rfl
theorem k28:((Rows.scaleNumbersRow.kinds==(if Rows.scaleNumbersRow.domain.isEmpty then[]else Tryz.f6.params.toList.map fun t=>match Tryz.prog.underlying t with|some (.int k)=>some k|_=>none)))=true:=by kernel_rfl
theorem k29:((Rows.scaleNumbersRow.pinned==Rows.scaleNumbersRow.pinnedBy))=true:=by kernel_rfl
theorem k30:((Rows.scaleNumbersRow.veiled==(Tryz.f6.params.toList++Rows.scaleNumbersSpec.plain.varTypes Tryz.prog++Tryz.f6.resultTypes.toList).any (Tryz.prog.veiledRec ·)))=true:=by kernel_rfl
theorem k31:(Rows.scaleNumbersRow.veiledFits Tryz.prog Tryz.f6.params.toList (Tryz.f6.params.toList++Rows.scaleNumbersSpec.plain.varTypes Tryz.prog++Tryz.f6.resultTypes.toList))=true:=by kernel_rfl
theorem closed:joinedFacts Tryz.prog 6 Tryz.f6 Rows.scaleNumbersSpec Rows.scaleNumbersRow=true:=by unfold joinedFacts;simp only[Bool.and_eq_true];exact⟨⟨⟨⟨⟨⟨⟨⟨⟨⟨⟨⟨⟨⟨⟨⟨⟨⟨⟨⟨⟨⟨⟨⟨⟨⟨⟨⟨⟨⟨⟨k0,k1⟩,k2⟩,k3⟩,k4⟩,k5⟩,k6⟩,k7⟩,k8⟩,k9⟩,Vf⟩,Qz⟩,k12⟩,k13⟩,k14⟩,k15⟩,k16⟩,k17⟩,k18⟩,k19⟩,k20⟩,k21⟩,k22⟩,k23⟩,k24⟩,k25⟩,k26⟩,k27⟩,k28⟩,k29⟩,k30⟩,k31⟩
theorem named:Tryz.pinned.checked.prog.funcNamed Rows.scaleNumbersRow.func=some 6:=by kernel_rfl
theorem inst:Tryz.f6.isInstance Tryz.pinned.checked.prog Rows.scaleNumbersRow.origin Rows.scaleNumbersRow.targs:=of_decide_eq_true (by kernel_rfl)
theorem wrap:Tryz.f6.isWrapper Tryz.pinned.checked.prog Rows.scaleNumbersRow.wrapper Rows.scaleNumbersRow.mainSum:=by unfold Func.isWrapper;first|(rw[if_pos (by decide +kernel)];kernel_rfl)|(rw[if_neg (by decide +kernel)];exact⟨rfl,rfl⟩)
end Go.Proofs.YtdgocdadfmhjgaaGreatDoor.eQ
