/- Lemmas on the program and its library: part XKHalvesK. -/
import Derived.ProofKit
import Derived.LaidMore
import Derived.OpenShut
import Derived.MakeChecks
import Derived.LaidHandle
import Derived.SevenTiedAt
import Derived.Stop.LaidErr
import Derived.Lib.LaidTab
import Derived.Test.YtoiejgkkcfkliaaGreatDoorTie
import Derived.Test.YtoiejgkkcfkliaaGreatDoorCards
set_option linter.unusedVariables false
set_option linter.unusedSimpArgs false
section
namespace Go.Proofs.YtoiejgkkcfkliaaGreatDoor
open Go Go.ChangeShapes Go.WideShapes Go.ChangeAt Go.RowKit Go.ChangeMaps
theorem spaceHalves_k0:(Rows.spaceHalvesRow.wf (OpenSpec.ofChange Rows.spaceHalvesSpec))=true:=by kernel_rfl
theorem spaceHalves_k1:(laidOutB Tryz.pinned.checked.prog)=true:=by kernel_rfl
theorem spaceHalves_k2:(mapsRowed Tryz.pinned.checked.prog)=true:=by kernel_rfl
theorem spaceHalves_k3:(Tryz.f5.params.all (Tryz.pinned.checked.prog.readableRec ·))=true:=by kernel_rfl
theorem spaceHalves_k4:(namedTie Tryz.pinned.checked.prog Rows.spaceHalvesRow.named Rows.spaceHalvesSpec.vars)=true:=by kernel_rfl
theorem spaceHalves_k5:((Rows.spaceHalvesRow.stops == []))=true:=by kernel_rfl
theorem spaceHalves_k6:((Tryz.pinned.checked.prog.stops == []))=true:=by kernel_rfl
theorem spaceHalves_k7:((Rows.spaceHalvesRow.knobs == []))=true:=by kernel_rfl
theorem spaceHalves_k8:((Tryz.pinned.checked.prog.stopKnobs == []))=true:=by kernel_rfl
theorem spaceHalves_k9:((Rows.spaceHalvesRow.inPlace == Tryz.pinned.checked.prog.inPlace 5))=true:=by kernel_rfl
theorem spaceHalves_k10:((Rows.spaceHalvesRow.unfollowed == Tryz.pinned.checked.prog.unfollowed 5))=true:=by kernel_rfl
theorem spaceHalves_k11:((Rows.spaceHalvesRow.recurses == Tryz.pinned.checked.prog.recurses 5))=true:=by kernel_rfl
theorem spaceHalves_k12:((Rows.spaceHalvesRow.named == Tryz.pinned.checked.prog.varsNamed 5))=true:=by kernel_rfl
theorem spaceHalves_k13:((Rows.spaceHalvesRow.maps == (Tryz.f5.params.toList++Rows.spaceHalvesSpec.plain.varTypes Tryz.pinned.checked.prog).any (Tryz.pinned.checked.prog.mapsRec ·)))=true:=by kernel_rfl
theorem spaceHalves_k14:((Rows.spaceHalvesRow.ifaces == (Tryz.f5.params.toList++Rows.spaceHalvesSpec.plain.varTypes Tryz.pinned.checked.prog).any (Tryz.pinned.checked.prog.ifacesRec ·)))=true:=by kernel_rfl
theorem spaceHalves_k15:((Rows.spaceHalvesRow.mapsOut == Tryz.pinned.checked.prog.mapsAmong Tryz.f5.resultTypes.toList))=true:=by kernel_rfl
theorem spaceHalves_k16:((Rows.spaceHalvesRow.loops == (Tryz.f5.params.toList++Rows.spaceHalvesSpec.plain.varTypes Tryz.pinned.checked.prog).any (Tryz.pinned.checked.prog.loopsFrom ·)))=true:=by kernel_rfl
theorem spaceHalves_k17:((Rows.spaceHalvesRow.wideKeys == (Tryz.f5.params.toList++Rows.spaceHalvesSpec.plain.varTypes Tryz.pinned.checked.prog++Tryz.f5.resultTypes.toList).any (Tryz.pinned.checked.prog.wideKeysFrom ·)))=true:=by kernel_rfl
theorem spaceHalves_k18:(Rows.spaceHalvesSpec.vars.all (Tryz.pinned.checked.prog.varReadable ·))=true:=by kernel_rfl
theorem spaceHalves_k19:(Tryz.f5.resultTypes.all (fun t=>Tryz.pinned.checked.prog.readableRec t && decide (t < Tryz.pinned.checked.prog.types.size)))=true:=by kernel_rfl
theorem spaceHalves_k20:((Rows.spaceHalvesRow.ifacesOut == Tryz.f5.resultTypes.toList.any (Tryz.pinned.checked.prog.ifacesRec ·)))=true:=by kernel_rfl
theorem spaceHalves_k21:((Rows.spaceHalvesRow.loopsOut == Tryz.f5.resultTypes.toList.any (Tryz.pinned.checked.prog.loopsFrom ·)))=true:=by kernel_rfl
theorem spaceHalves_k22:((Rows.spaceHalvesRow.plainKeys == Tryz.pinned.checked.prog.plainKeys))=true:=by kernel_rfl
theorem spaceHalves_k23:(Rows.spaceHalvesRow.shortTexts.isNone)=true:=by kernel_rfl
theorem spaceHalves_k24:(Tryz.pinned.checked.prog.stopsHeard)=true:=by kernel_rfl
theorem spaceHalves_k25:(Tryz.pinned.checked.prog.mayEnter)=true:=by kernel_rfl
theorem spaceHalves_k26:((Rows.spaceHalvesRow.lifted == Tryz.pinned.checked.prog.liftsFinal))=true:=by kernel_rfl
theorem spaceHalves_k27:((Tryz.pinned.checked.prog.make == some Rows.spaceHalvesRow.make))=true:=by kernel_rfl
theorem spaceHalves_k28:((Rows.spaceHalvesRow.kinds == (if Rows.spaceHalvesRow.domain.isEmpty then [] else Tryz.f5.params.toList.map fun t=>match Tryz.pinned.checked.prog.underlying t with|some (.int k)=>some k|_=>none)))=true:=by kernel_rfl
theorem spaceHalves_k29:((Rows.spaceHalvesRow.pinned == Rows.spaceHalvesRow.pinnedBy))=true:=by kernel_rfl
theorem spaceHalves_k30:((Rows.spaceHalvesRow.veiled == (Tryz.f5.params.toList++Rows.spaceHalvesSpec.plain.varTypes Tryz.pinned.checked.prog++Tryz.f5.resultTypes.toList).any (Tryz.pinned.checked.prog.veiledRec ·)))=true:=by kernel_rfl
theorem spaceHalves_k31:(Rows.spaceHalvesRow.veiledFits Tryz.pinned.checked.prog Tryz.f5.params.toList (Tryz.f5.params.toList++Rows.spaceHalvesSpec.plain.varTypes Tryz.pinned.checked.prog++Tryz.f5.resultTypes.toList))=true:=by kernel_rfl
end Go.Proofs.YtoiejgkkcfkliaaGreatDoor
end
