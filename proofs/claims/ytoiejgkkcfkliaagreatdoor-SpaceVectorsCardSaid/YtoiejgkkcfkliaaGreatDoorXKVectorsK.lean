/- Lemmas on the program and its library: part XKVectorsK. -/
import Derived.ProofKit
import Derived.LaidMore
import Derived.OpenShut
import Derived.MakeChecks
import Derived.LaidHandle
import Derived.SevenTiedAt
import Derived.Stop.LaidErr
import Derived.Lib.LaidTab
import Derived.Test.YtoiejgkkcfkliaaGreatDoorTie
import Derived.Test.YtoiejgkkcfkliaaGreatDoorCards
set_option linter.unusedVariables false
set_option linter.unusedSimpArgs false
section
namespace Go.Proofs.YtoiejgkkcfkliaaGreatDoor
open Go Go.ChangeShapes Go.WideShapes Go.ChangeAt Go.RowKit Go.ChangeMaps
theorem spaceVectors_k0:(Rows.spaceVectorsRow.wf (OpenSpec.ofChange Rows.spaceVectorsSpec))=true:=by kernel_rfl
theorem spaceVectors_k1:(laidOutB Tryz.pinned.checked.prog)=true:=by kernel_rfl
theorem spaceVectors_k2:(mapsRowed Tryz.pinned.checked.prog)=true:=by kernel_rfl
theorem spaceVectors_k3:(Tryz.f16.params.all (Tryz.pinned.checked.prog.readableRec ·))=true:=by kernel_rfl
theorem spaceVectors_k4:(namedTie Tryz.pinned.checked.prog Rows.spaceVectorsRow.named Rows.spaceVectorsSpec.vars)=true:=by kernel_rfl
theorem spaceVectors_k5:((Rows.spaceVectorsRow.stops == []))=true:=by kernel_rfl
theorem spaceVectors_k6:((Tryz.pinned.checked.prog.stops == []))=true:=by kernel_rfl
theorem spaceVectors_k7:((Rows.spaceVectorsRow.knobs == []))=true:=by kernel_rfl
theorem spaceVectors_k8:((Tryz.pinned.checked.prog.stopKnobs == []))=true:=by kernel_rfl
theorem spaceVectors_k9:((Rows.spaceVectorsRow.inPlace == Tryz.pinned.checked.prog.inPlace 16))=true:=by kernel_rfl
theorem spaceVectors_k10:((Rows.spaceVectorsRow.unfollowed == Tryz.pinned.checked.prog.unfollowed 16))=true:=by kernel_rfl
theorem spaceVectors_k11:((Rows.spaceVectorsRow.recurses == Tryz.pinned.checked.prog.recurses 16))=true:=by kernel_rfl
theorem spaceVectors_k12:((Rows.spaceVectorsRow.named == Tryz.pinned.checked.prog.varsNamed 16))=true:=by kernel_rfl
theorem spaceVectors_k13:((Rows.spaceVectorsRow.maps == (Tryz.f16.params.toList++Rows.spaceVectorsSpec.plain.varTypes Tryz.pinned.checked.prog).any (Tryz.pinned.checked.prog.mapsRec ·)))=true:=by kernel_rfl
theorem spaceVectors_k14:((Rows.spaceVectorsRow.ifaces == (Tryz.f16.params.toList++Rows.spaceVectorsSpec.plain.varTypes Tryz.pinned.checked.prog).any (Tryz.pinned.checked.prog.ifacesRec ·)))=true:=by kernel_rfl
theorem spaceVectors_k15:((Rows.spaceVectorsRow.mapsOut == Tryz.pinned.checked.prog.mapsAmong Tryz.f16.resultTypes.toList))=true:=by kernel_rfl
theorem spaceVectors_k16:((Rows.spaceVectorsRow.loops == (Tryz.f16.params.toList++Rows.spaceVectorsSpec.plain.varTypes Tryz.pinned.checked.prog).any (Tryz.pinned.checked.prog.loopsFrom ·)))=true:=by kernel_rfl
theorem spaceVectors_k17:((Rows.spaceVectorsRow.wideKeys == (Tryz.f16.params.toList++Rows.spaceVectorsSpec.plain.varTypes Tryz.pinned.checked.prog++Tryz.f16.resultTypes.toList).any (Tryz.pinned.checked.prog.wideKeysFrom ·)))=true:=by kernel_rfl
theorem spaceVectors_k18:(Rows.spaceVectorsSpec.vars.all (Tryz.pinned.checked.prog.varReadable ·))=true:=by kernel_rfl
theorem spaceVectors_k19:(Tryz.f16.resultTypes.all (fun t=>Tryz.pinned.checked.prog.readableRec t && decide (t < Tryz.pinned.checked.prog.types.size)))=true:=by kernel_rfl
theorem spaceVectors_k20:((Rows.spaceVectorsRow.ifacesOut == Tryz.f16.resultTypes.toList.any (Tryz.pinned.checked.prog.ifacesRec ·)))=true:=by kernel_rfl
theorem spaceVectors_k21:((Rows.spaceVectorsRow.loopsOut == Tryz.f16.resultTypes.toList.any (Tryz.pinned.checked.prog.loopsFrom ·)))=true:=by kernel_rfl
theorem spaceVectors_k22:((Rows.spaceVectorsRow.plainKeys == Tryz.pinned.checked.prog.plainKeys))=true:=by kernel_rfl
theorem spaceVectors_k23:(Rows.spaceVectorsRow.shortTexts.isNone)=true:=by kernel_rfl
theorem spaceVectors_k24:(Tryz.pinned.checked.prog.stopsHeard)=true:=by kernel_rfl
theorem spaceVectors_k25:(Tryz.pinned.checked.prog.mayEnter)=true:=by kernel_rfl
theorem spaceVectors_k26:((Rows.spaceVectorsRow.lifted == Tryz.pinned.checked.prog.liftsFinal))=true:=by kernel_rfl
theorem spaceVectors_k27:((Tryz.pinned.checked.prog.make == some Rows.spaceVectorsRow.make))=true:=by kernel_rfl
theorem spaceVectors_k28:((Rows.spaceVectorsRow.kinds == (if Rows.spaceVectorsRow.domain.isEmpty then [] else Tryz.f16.params.toList.map fun t=>match Tryz.pinned.checked.prog.underlying t with|some (.int k)=>some k|_=>none)))=true:=by kernel_rfl
theorem spaceVectors_k29:((Rows.spaceVectorsRow.pinned == Rows.spaceVectorsRow.pinnedBy))=true:=by kernel_rfl
theorem spaceVectors_k30:((Rows.spaceVectorsRow.veiled == (Tryz.f16.params.toList++Rows.spaceVectorsSpec.plain.varTypes Tryz.pinned.checked.prog++Tryz.f16.resultTypes.toList).any (Tryz.pinned.checked.prog.veiledRec ·)))=true:=by kernel_rfl
theorem spaceVectors_k31:(Rows.spaceVectorsRow.veiledFits Tryz.pinned.checked.prog Tryz.f16.params.toList (Tryz.f16.params.toList++Rows.spaceVectorsSpec.plain.varTypes Tryz.pinned.checked.prog++Tryz.f16.resultTypes.toList))=true:=by kernel_rfl
end Go.Proofs.YtoiejgkkcfkliaaGreatDoor
end
