/- Lemmas on the program and its library: part XKCoordinatesK. -/
import Derived.ProofKit
import Derived.LaidMore
import Derived.OpenShut
import Derived.MakeChecks
import Derived.LaidHandle
import Derived.SevenTiedAt
import Derived.Stop.LaidErr
import Derived.Lib.LaidTab
import Derived.Test.YtoiejgkkcfkliaaGreatDoorTie
import Derived.Test.YtoiejgkkcfkliaaGreatDoorCards
set_option linter.unusedVariables false
set_option linter.unusedSimpArgs false
section
namespace Go.Proofs.YtoiejgkkcfkliaaGreatDoor
open Go Go.ChangeShapes Go.WideShapes Go.ChangeAt Go.RowKit Go.ChangeMaps
theorem spaceCoordinates_k0:(Rows.spaceCoordinatesRow.wf (OpenSpec.ofChange Rows.spaceCoordinatesSpec))=true:=by kernel_rfl
theorem spaceCoordinates_k1:(laidOutB Tryz.pinned.checked.prog)=true:=by kernel_rfl
theorem spaceCoordinates_k2:(mapsRowed Tryz.pinned.checked.prog)=true:=by kernel_rfl
theorem spaceCoordinates_k3:(Tryz.f11.params.all (Tryz.pinned.checked.prog.readableRec ·))=true:=by kernel_rfl
theorem spaceCoordinates_k4:(namedTie Tryz.pinned.checked.prog Rows.spaceCoordinatesRow.named Rows.spaceCoordinatesSpec.vars)=true:=by kernel_rfl
theorem spaceCoordinates_k5:((Rows.spaceCoordinatesRow.stops == []))=true:=by kernel_rfl
theorem spaceCoordinates_k6:((Tryz.pinned.checked.prog.stops == []))=true:=by kernel_rfl
theorem spaceCoordinates_k7:((Rows.spaceCoordinatesRow.knobs == []))=true:=by kernel_rfl
theorem spaceCoordinates_k8:((Tryz.pinned.checked.prog.stopKnobs == []))=true:=by kernel_rfl
theorem spaceCoordinates_k9:((Rows.spaceCoordinatesRow.inPlace == Tryz.pinned.checked.prog.inPlace 11))=true:=by kernel_rfl
theorem spaceCoordinates_k10:((Rows.spaceCoordinatesRow.unfollowed == Tryz.pinned.checked.prog.unfollowed 11))=true:=by kernel_rfl
theorem spaceCoordinates_k11:((Rows.spaceCoordinatesRow.recurses == Tryz.pinned.checked.prog.recurses 11))=true:=by kernel_rfl
theorem spaceCoordinates_k12:((Rows.spaceCoordinatesRow.named == Tryz.pinned.checked.prog.varsNamed 11))=true:=by kernel_rfl
theorem spaceCoordinates_k13:((Rows.spaceCoordinatesRow.maps == (Tryz.f11.params.toList++Rows.spaceCoordinatesSpec.plain.varTypes Tryz.pinned.checked.prog).any (Tryz.pinned.checked.prog.mapsRec ·)))=true:=by kernel_rfl
theorem spaceCoordinates_k14:((Rows.spaceCoordinatesRow.ifaces == (Tryz.f11.params.toList++Rows.spaceCoordinatesSpec.plain.varTypes Tryz.pinned.checked.prog).any (Tryz.pinned.checked.prog.ifacesRec ·)))=true:=by kernel_rfl
theorem spaceCoordinates_k15:((Rows.spaceCoordinatesRow.mapsOut == Tryz.pinned.checked.prog.mapsAmong Tryz.f11.resultTypes.toList))=true:=by kernel_rfl
theorem spaceCoordinates_k16:((Rows.spaceCoordinatesRow.loops == (Tryz.f11.params.toList++Rows.spaceCoordinatesSpec.plain.varTypes Tryz.pinned.checked.prog).any (Tryz.pinned.checked.prog.loopsFrom ·)))=true:=by kernel_rfl
theorem spaceCoordinates_k17:((Rows.spaceCoordinatesRow.wideKeys == (Tryz.f11.params.toList++Rows.spaceCoordinatesSpec.plain.varTypes Tryz.pinned.checked.prog++Tryz.f11.resultTypes.toList).any (Tryz.pinned.checked.prog.wideKeysFrom ·)))=true:=by kernel_rfl
theorem spaceCoordinates_k18:(Rows.spaceCoordinatesSpec.vars.all (Tryz.pinned.checked.prog.varReadable ·))=true:=by kernel_rfl
theorem spaceCoordinates_k19:(Tryz.f11.resultTypes.all (fun t=>Tryz.pinned.checked.prog.readableRec t && decide (t < Tryz.pinned.checked.prog.types.size)))=true:=by kernel_rfl
theorem spaceCoordinates_k20:((Rows.spaceCoordinatesRow.ifacesOut == Tryz.f11.resultTypes.toList.any (Tryz.pinned.checked.prog.ifacesRec ·)))=true:=by kernel_rfl
theorem spaceCoordinates_k21:((Rows.spaceCoordinatesRow.loopsOut == Tryz.f11.resultTypes.toList.any (Tryz.pinned.checked.prog.loopsFrom ·)))=true:=by kernel_rfl
theorem spaceCoordinates_k22:((Rows.spaceCoordinatesRow.plainKeys == Tryz.pinned.checked.prog.plainKeys))=true:=by kernel_rfl
theorem spaceCoordinates_k23:(Rows.spaceCoordinatesRow.shortTexts.isNone)=true:=by kernel_rfl
theorem spaceCoordinates_k24:(Tryz.pinned.checked.prog.stopsHeard)=true:=by kernel_rfl
theorem spaceCoordinates_k25:(Tryz.pinned.checked.prog.mayEnter)=true:=by kernel_rfl
theorem spaceCoordinates_k26:((Rows.spaceCoordinatesRow.lifted == Tryz.pinned.checked.prog.liftsFinal))=true:=by kernel_rfl
theorem spaceCoordinates_k27:((Tryz.pinned.checked.prog.make == some Rows.spaceCoordinatesRow.make))=true:=by kernel_rfl
theorem spaceCoordinates_k28:((Rows.spaceCoordinatesRow.kinds == (if Rows.spaceCoordinatesRow.domain.isEmpty then [] else Tryz.f11.params.toList.map fun t=>match Tryz.pinned.checked.prog.underlying t with|some (.int k)=>some k|_=>none)))=true:=by kernel_rfl
theorem spaceCoordinates_k29:((Rows.spaceCoordinatesRow.pinned == Rows.spaceCoordinatesRow.pinnedBy))=true:=by kernel_rfl
theorem spaceCoordinates_k30:((Rows.spaceCoordinatesRow.veiled == (Tryz.f11.params.toList++Rows.spaceCoordinatesSpec.plain.varTypes Tryz.pinned.checked.prog++Tryz.f11.resultTypes.toList).any (Tryz.pinned.checked.prog.veiledRec ·)))=true:=by kernel_rfl
theorem spaceCoordinates_k31:(Rows.spaceCoordinatesRow.veiledFits Tryz.pinned.checked.prog Tryz.f11.params.toList (Tryz.f11.params.toList++Rows.spaceCoordinatesSpec.plain.varTypes Tryz.pinned.checked.prog++Tryz.f11.resultTypes.toList))=true:=by kernel_rfl
end Go.Proofs.YtoiejgkkcfkliaaGreatDoor
end
