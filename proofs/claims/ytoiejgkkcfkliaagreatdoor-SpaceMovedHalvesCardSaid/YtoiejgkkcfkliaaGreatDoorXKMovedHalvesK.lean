/- Lemmas on the program and its library: part XKMovedHalvesK. -/
import Derived.ProofKit
import Derived.LaidMore
import Derived.OpenShut
import Derived.MakeChecks
import Derived.LaidHandle
import Derived.SevenTiedAt
import Derived.Stop.LaidErr
import Derived.Lib.LaidTab
import Derived.Test.YtoiejgkkcfkliaaGreatDoorTie
import Derived.Test.YtoiejgkkcfkliaaGreatDoorCards
set_option linter.unusedVariables false
set_option linter.unusedSimpArgs false
section
namespace Go.Proofs.YtoiejgkkcfkliaaGreatDoor
open Go Go.ChangeShapes Go.WideShapes Go.ChangeAt Go.RowKit Go.ChangeMaps
theorem spaceMovedHalves_k0:(Rows.spaceMovedHalvesRow.wf (OpenSpec.ofChange Rows.spaceMovedHalvesSpec))=true:=by kernel_rfl
theorem spaceMovedHalves_k1:(laidOutB Tryz.pinned.checked.prog)=true:=by kernel_rfl
theorem spaceMovedHalves_k2:(mapsRowed Tryz.pinned.checked.prog)=true:=by kernel_rfl
theorem spaceMovedHalves_k3:(Tryz.f4.params.all (Tryz.pinned.checked.prog.readableRec ·))=true:=by kernel_rfl
theorem spaceMovedHalves_k4:(namedTie Tryz.pinned.checked.prog Rows.spaceMovedHalvesRow.named Rows.spaceMovedHalvesSpec.vars)=true:=by kernel_rfl
theorem spaceMovedHalves_k5:((Rows.spaceMovedHalvesRow.stops == []))=true:=by kernel_rfl
theorem spaceMovedHalves_k6:((Tryz.pinned.checked.prog.stops == []))=true:=by kernel_rfl
theorem spaceMovedHalves_k7:((Rows.spaceMovedHalvesRow.knobs == []))=true:=by kernel_rfl
theorem spaceMovedHalves_k8:((Tryz.pinned.checked.prog.stopKnobs == []))=true:=by kernel_rfl
theorem spaceMovedHalves_k9:((Rows.spaceMovedHalvesRow.inPlace == Tryz.pinned.checked.prog.inPlace 4))=true:=by kernel_rfl
theorem spaceMovedHalves_k10:((Rows.spaceMovedHalvesRow.unfollowed == Tryz.pinned.checked.prog.unfollowed 4))=true:=by kernel_rfl
theorem spaceMovedHalves_k11:((Rows.spaceMovedHalvesRow.recurses == Tryz.pinned.checked.prog.recurses 4))=true:=by kernel_rfl
theorem spaceMovedHalves_k12:((Rows.spaceMovedHalvesRow.named == Tryz.pinned.checked.prog.varsNamed 4))=true:=by kernel_rfl
theorem spaceMovedHalves_k13:((Rows.spaceMovedHalvesRow.maps == (Tryz.f4.params.toList++Rows.spaceMovedHalvesSpec.plain.varTypes Tryz.pinned.checked.prog).any (Tryz.pinned.checked.prog.mapsRec ·)))=true:=by kernel_rfl
theorem spaceMovedHalves_k14:((Rows.spaceMovedHalvesRow.ifaces == (Tryz.f4.params.toList++Rows.spaceMovedHalvesSpec.plain.varTypes Tryz.pinned.checked.prog).any (Tryz.pinned.checked.prog.ifacesRec ·)))=true:=by kernel_rfl
theorem spaceMovedHalves_k15:((Rows.spaceMovedHalvesRow.mapsOut == Tryz.pinned.checked.prog.mapsAmong Tryz.f4.resultTypes.toList))=true:=by kernel_rfl
theorem spaceMovedHalves_k16:((Rows.spaceMovedHalvesRow.loops == (Tryz.f4.params.toList++Rows.spaceMovedHalvesSpec.plain.varTypes Tryz.pinned.checked.prog).any (Tryz.pinned.checked.prog.loopsFrom ·)))=true:=by kernel_rfl
theorem spaceMovedHalves_k17:((Rows.spaceMovedHalvesRow.wideKeys == (Tryz.f4.params.toList++Rows.spaceMovedHalvesSpec.plain.varTypes Tryz.pinned.checked.prog++Tryz.f4.resultTypes.toList).any (Tryz.pinned.checked.prog.wideKeysFrom ·)))=true:=by kernel_rfl
theorem spaceMovedHalves_k18:(Rows.spaceMovedHalvesSpec.vars.all (Tryz.pinned.checked.prog.varReadable ·))=true:=by kernel_rfl
theorem spaceMovedHalves_k19:(Tryz.f4.resultTypes.all (fun t=>Tryz.pinned.checked.prog.readableRec t && decide (t < Tryz.pinned.checked.prog.types.size)))=true:=by kernel_rfl
theorem spaceMovedHalves_k20:((Rows.spaceMovedHalvesRow.ifacesOut == Tryz.f4.resultTypes.toList.any (Tryz.pinned.checked.prog.ifacesRec ·)))=true:=by kernel_rfl
theorem spaceMovedHalves_k21:((Rows.spaceMovedHalvesRow.loopsOut == Tryz.f4.resultTypes.toList.any (Tryz.pinned.checked.prog.loopsFrom ·)))=true:=by kernel_rfl
theorem spaceMovedHalves_k22:((Rows.spaceMovedHalvesRow.plainKeys == Tryz.pinned.checked.prog.plainKeys))=true:=by kernel_rfl
theorem spaceMovedHalves_k23:(Rows.spaceMovedHalvesRow.shortTexts.isNone)=true:=by kernel_rfl
theorem spaceMovedHalves_k24:(Tryz.pinned.checked.prog.stopsHeard)=true:=by kernel_rfl
theorem spaceMovedHalves_k25:(Tryz.pinned.checked.prog.mayEnter)=true:=by kernel_rfl
theorem spaceMovedHalves_k26:((Rows.spaceMovedHalvesRow.lifted == Tryz.pinned.checked.prog.liftsFinal))=true:=by kernel_rfl
theorem spaceMovedHalves_k27:((Tryz.pinned.checked.prog.make == some Rows.spaceMovedHalvesRow.make))=true:=by kernel_rfl
theorem spaceMovedHalves_k28:((Rows.spaceMovedHalvesRow.kinds == (if Rows.spaceMovedHalvesRow.domain.isEmpty then [] else Tryz.f4.params.toList.map fun t=>match Tryz.pinned.checked.prog.underlying t with|some (.int k)=>some k|_=>none)))=true:=by kernel_rfl
theorem spaceMovedHalves_k29:((Rows.spaceMovedHalvesRow.pinned == Rows.spaceMovedHalvesRow.pinnedBy))=true:=by kernel_rfl
theorem spaceMovedHalves_k30:((Rows.spaceMovedHalvesRow.veiled == (Tryz.f4.params.toList++Rows.spaceMovedHalvesSpec.plain.varTypes Tryz.pinned.checked.prog++Tryz.f4.resultTypes.toList).any (Tryz.pinned.checked.prog.veiledRec ·)))=true:=by kernel_rfl
theorem spaceMovedHalves_k31:(Rows.spaceMovedHalvesRow.veiledFits Tryz.pinned.checked.prog Tryz.f4.params.toList (Tryz.f4.params.toList++Rows.spaceMovedHalvesSpec.plain.varTypes Tryz.pinned.checked.prog++Tryz.f4.resultTypes.toList))=true:=by kernel_rfl
end Go.Proofs.YtoiejgkkcfkliaaGreatDoor
end
