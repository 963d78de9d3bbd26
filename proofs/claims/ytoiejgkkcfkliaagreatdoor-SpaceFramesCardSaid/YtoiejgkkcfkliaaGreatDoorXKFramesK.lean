/- Lemmas on the program and its library: part XKFramesK. -/
import Derived.ProofKit
import Derived.LaidMore
import Derived.OpenShut
import Derived.MakeChecks
import Derived.LaidHandle
import Derived.SevenTiedAt
import Derived.Stop.LaidErr
import Derived.Lib.LaidTab
import Derived.Test.YtoiejgkkcfkliaaGreatDoorTie
import Derived.Test.YtoiejgkkcfkliaaGreatDoorCards
set_option linter.unusedVariables false
set_option linter.unusedSimpArgs false
section
namespace Go.Proofs.YtoiejgkkcfkliaaGreatDoor
open Go Go.ChangeShapes Go.WideShapes Go.ChangeAt Go.RowKit Go.ChangeMaps
theorem spaceFrames_k0:(Rows.spaceFramesRow.wf (OpenSpec.ofChange Rows.spaceFramesSpec))=true:=by kernel_rfl
theorem spaceFrames_k1:(laidOutB Tryz.pinned.checked.prog)=true:=by kernel_rfl
theorem spaceFrames_k2:(mapsRowed Tryz.pinned.checked.prog)=true:=by kernel_rfl
theorem spaceFrames_k3:(Tryz.f13.params.all (Tryz.pinned.checked.prog.readableRec ·))=true:=by kernel_rfl
theorem spaceFrames_k4:(namedTie Tryz.pinned.checked.prog Rows.spaceFramesRow.named Rows.spaceFramesSpec.vars)=true:=by kernel_rfl
theorem spaceFrames_k5:((Rows.spaceFramesRow.stops == []))=true:=by kernel_rfl
theorem spaceFrames_k6:((Tryz.pinned.checked.prog.stops == []))=true:=by kernel_rfl
theorem spaceFrames_k7:((Rows.spaceFramesRow.knobs == []))=true:=by kernel_rfl
theorem spaceFrames_k8:((Tryz.pinned.checked.prog.stopKnobs == []))=true:=by kernel_rfl
theorem spaceFrames_k9:((Rows.spaceFramesRow.inPlace == Tryz.pinned.checked.prog.inPlace 13))=true:=by kernel_rfl
theorem spaceFrames_k10:((Rows.spaceFramesRow.unfollowed == Tryz.pinned.checked.prog.unfollowed 13))=true:=by kernel_rfl
theorem spaceFrames_k11:((Rows.spaceFramesRow.recurses == Tryz.pinned.checked.prog.recurses 13))=true:=by kernel_rfl
theorem spaceFrames_k12:((Rows.spaceFramesRow.named == Tryz.pinned.checked.prog.varsNamed 13))=true:=by kernel_rfl
theorem spaceFrames_k13:((Rows.spaceFramesRow.maps == (Tryz.f13.params.toList++Rows.spaceFramesSpec.plain.varTypes Tryz.pinned.checked.prog).any (Tryz.pinned.checked.prog.mapsRec ·)))=true:=by kernel_rfl
theorem spaceFrames_k14:((Rows.spaceFramesRow.ifaces == (Tryz.f13.params.toList++Rows.spaceFramesSpec.plain.varTypes Tryz.pinned.checked.prog).any (Tryz.pinned.checked.prog.ifacesRec ·)))=true:=by kernel_rfl
theorem spaceFrames_k15:((Rows.spaceFramesRow.mapsOut == Tryz.pinned.checked.prog.mapsAmong Tryz.f13.resultTypes.toList))=true:=by kernel_rfl
theorem spaceFrames_k16:((Rows.spaceFramesRow.loops == (Tryz.f13.params.toList++Rows.spaceFramesSpec.plain.varTypes Tryz.pinned.checked.prog).any (Tryz.pinned.checked.prog.loopsFrom ·)))=true:=by kernel_rfl
theorem spaceFrames_k17:((Rows.spaceFramesRow.wideKeys == (Tryz.f13.params.toList++Rows.spaceFramesSpec.plain.varTypes Tryz.pinned.checked.prog++Tryz.f13.resultTypes.toList).any (Tryz.pinned.checked.prog.wideKeysFrom ·)))=true:=by kernel_rfl
theorem spaceFrames_k18:(Rows.spaceFramesSpec.vars.all (Tryz.pinned.checked.prog.varReadable ·))=true:=by kernel_rfl
theorem spaceFrames_k19:(Tryz.f13.resultTypes.all (fun t=>Tryz.pinned.checked.prog.readableRec t && decide (t < Tryz.pinned.checked.prog.types.size)))=true:=by kernel_rfl
theorem spaceFrames_k20:((Rows.spaceFramesRow.ifacesOut == Tryz.f13.resultTypes.toList.any (Tryz.pinned.checked.prog.ifacesRec ·)))=true:=by kernel_rfl
theorem spaceFrames_k21:((Rows.spaceFramesRow.loopsOut == Tryz.f13.resultTypes.toList.any (Tryz.pinned.checked.prog.loopsFrom ·)))=true:=by kernel_rfl
theorem spaceFrames_k22:((Rows.spaceFramesRow.plainKeys == Tryz.pinned.checked.prog.plainKeys))=true:=by kernel_rfl
theorem spaceFrames_k23:(Rows.spaceFramesRow.shortTexts.isNone)=true:=by kernel_rfl
theorem spaceFrames_k24:(Tryz.pinned.checked.prog.stopsHeard)=true:=by kernel_rfl
theorem spaceFrames_k25:(Tryz.pinned.checked.prog.mayEnter)=true:=by kernel_rfl
theorem spaceFrames_k26:((Rows.spaceFramesRow.lifted == Tryz.pinned.checked.prog.liftsFinal))=true:=by kernel_rfl
theorem spaceFrames_k27:((Tryz.pinned.checked.prog.make == some Rows.spaceFramesRow.make))=true:=by kernel_rfl
theorem spaceFrames_k28:((Rows.spaceFramesRow.kinds == (if Rows.spaceFramesRow.domain.isEmpty then [] else Tryz.f13.params.toList.map fun t=>match Tryz.pinned.checked.prog.underlying t with|some (.int k)=>some k|_=>none)))=true:=by kernel_rfl
theorem spaceFrames_k29:((Rows.spaceFramesRow.pinned == Rows.spaceFramesRow.pinnedBy))=true:=by kernel_rfl
theorem spaceFrames_k30:((Rows.spaceFramesRow.veiled == (Tryz.f13.params.toList++Rows.spaceFramesSpec.plain.varTypes Tryz.pinned.checked.prog++Tryz.f13.resultTypes.toList).any (Tryz.pinned.checked.prog.veiledRec ·)))=true:=by kernel_rfl
theorem spaceFrames_k31:(Rows.spaceFramesRow.veiledFits Tryz.pinned.checked.prog Tryz.f13.params.toList (Tryz.f13.params.toList++Rows.spaceFramesSpec.plain.varTypes Tryz.pinned.checked.prog++Tryz.f13.resultTypes.toList))=true:=by kernel_rfl
end Go.Proofs.YtoiejgkkcfkliaaGreatDoor
end
