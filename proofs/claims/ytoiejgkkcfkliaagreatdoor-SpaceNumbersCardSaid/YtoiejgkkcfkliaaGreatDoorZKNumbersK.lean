/- Lemmas on the program and its library, part KNumbersK. -/
import Derived.Test.YtoiejgkkcfkliaaGreatDoorTie
import Derived.Test.YtoiejgkkcfkliaaGreatDoorCards
import Derived.ProofKit
import Derived.LaidMore
import Derived.OpenShut
import Derived.MakeChecks
import Derived.LaidHandle
import Derived.SevenTiedAt
import Derived.Stop.LaidErr
import Derived.Lib.LaidTab
set_option linter.unusedVariables false
set_option linter.unusedSimpArgs false
section
namespace Go.Proofs.YtoiejgkkcfkliaaGreatDoor
open Go Go.ChangeShapes Go.WideShapes Go.ChangeAt Go.RowKit Go.ChangeMaps
theorem spaceNumbers_k0:(Rows.spaceNumbersRow.wf (OpenSpec.ofChange Rows.spaceNumbersSpec))=true:=by kernel_rfl
theorem spaceNumbers_k1:(laidOutB Tryz.pinned.checked.prog)=true:=by kernel_rfl
theorem spaceNumbers_k2:(mapsRowed Tryz.pinned.checked.prog)=true:=by kernel_rfl
theorem spaceNumbers_k3:(Tryz.f15.params.all (Tryz.pinned.checked.prog.readableRec ·))=true:=by kernel_rfl
theorem spaceNumbers_k4:(namedTie Tryz.pinned.checked.prog Rows.spaceNumbersRow.named Rows.spaceNumbersSpec.vars)=true:=by kernel_rfl
theorem spaceNumbers_k5:((Rows.spaceNumbersRow.stops == []))=true:=by kernel_rfl
theorem spaceNumbers_k6:((Tryz.pinned.checked.prog.stops == []))=true:=by kernel_rfl
theorem spaceNumbers_k7:((Rows.spaceNumbersRow.knobs == []))=true:=by kernel_rfl
theorem spaceNumbers_k8:((Tryz.pinned.checked.prog.stopKnobs == []))=true:=by kernel_rfl
theorem spaceNumbers_k9:((Rows.spaceNumbersRow.inPlace == Tryz.pinned.checked.prog.inPlace 15))=true:=by kernel_rfl
theorem spaceNumbers_k10:((Rows.spaceNumbersRow.unfollowed == Tryz.pinned.checked.prog.unfollowed 15))=true:=by kernel_rfl
theorem spaceNumbers_k11:((Rows.spaceNumbersRow.recurses == Tryz.pinned.checked.prog.recurses 15))=true:=by kernel_rfl
theorem spaceNumbers_k12:((Rows.spaceNumbersRow.named == Tryz.pinned.checked.prog.varsNamed 15))=true:=by kernel_rfl
theorem spaceNumbers_k13:((Rows.spaceNumbersRow.maps == (Tryz.f15.params.toList++Rows.spaceNumbersSpec.plain.varTypes Tryz.pinned.checked.prog).any (Tryz.pinned.checked.prog.mapsRec ·)))=true:=by kernel_rfl
theorem spaceNumbers_k14:((Rows.spaceNumbersRow.ifaces == (Tryz.f15.params.toList++Rows.spaceNumbersSpec.plain.varTypes Tryz.pinned.checked.prog).any (Tryz.pinned.checked.prog.ifacesRec ·)))=true:=by kernel_rfl
theorem spaceNumbers_k15:((Rows.spaceNumbersRow.mapsOut == Tryz.pinned.checked.prog.mapsAmong Tryz.f15.resultTypes.toList))=true:=by kernel_rfl
theorem spaceNumbers_k16:((Rows.spaceNumbersRow.loops == (Tryz.f15.params.toList++Rows.spaceNumbersSpec.plain.varTypes Tryz.pinned.checked.prog).any (Tryz.pinned.checked.prog.loopsFrom ·)))=true:=by kernel_rfl
theorem spaceNumbers_k17:((Rows.spaceNumbersRow.wideKeys == (Tryz.f15.params.toList++Rows.spaceNumbersSpec.plain.varTypes Tryz.pinned.checked.prog++Tryz.f15.resultTypes.toList).any (Tryz.pinned.checked.prog.wideKeysFrom ·)))=true:=by kernel_rfl
theorem spaceNumbers_k18:(Rows.spaceNumbersSpec.vars.all (Tryz.pinned.checked.prog.varReadable ·))=true:=by kernel_rfl
theorem spaceNumbers_k19:(Tryz.f15.resultTypes.all (fun t=>Tryz.pinned.checked.prog.readableRec t && decide (t < Tryz.pinned.checked.prog.types.size)))=true:=by kernel_rfl
theorem spaceNumbers_k20:((Rows.spaceNumbersRow.ifacesOut == Tryz.f15.resultTypes.toList.any (Tryz.pinned.checked.prog.ifacesRec ·)))=true:=by kernel_rfl
theorem spaceNumbers_k21:((Rows.spaceNumbersRow.loopsOut == Tryz.f15.resultTypes.toList.any (Tryz.pinned.checked.prog.loopsFrom ·)))=true:=by kernel_rfl
theorem spaceNumbers_k22:((Rows.spaceNumbersRow.plainKeys == Tryz.pinned.checked.prog.plainKeys))=true:=by kernel_rfl
theorem spaceNumbers_k23:(Rows.spaceNumbersRow.shortTexts.isNone)=true:=by kernel_rfl
theorem spaceNumbers_k24:(Tryz.pinned.checked.prog.stopsHeard)=true:=by kernel_rfl
theorem spaceNumbers_k25:(Tryz.pinned.checked.prog.mayEnter)=true:=by kernel_rfl
theorem spaceNumbers_k26:((Rows.spaceNumbersRow.lifted == Tryz.pinned.checked.prog.liftsFinal))=true:=by kernel_rfl
theorem spaceNumbers_k27:((Tryz.pinned.checked.prog.make == some Rows.spaceNumbersRow.make))=true:=by kernel_rfl
theorem spaceNumbers_k28:((Rows.spaceNumbersRow.kinds == (if Rows.spaceNumbersRow.domain.isEmpty then [] else Tryz.f15.params.toList.map fun t=>match Tryz.pinned.checked.prog.underlying t with|some (.int k)=>some k|_=>none)))=true:=by kernel_rfl
theorem spaceNumbers_k29:((Rows.spaceNumbersRow.pinned == Rows.spaceNumbersRow.pinnedBy))=true:=by kernel_rfl
theorem spaceNumbers_k30:((Rows.spaceNumbersRow.veiled == (Tryz.f15.params.toList++Rows.spaceNumbersSpec.plain.varTypes Tryz.pinned.checked.prog++Tryz.f15.resultTypes.toList).any (Tryz.pinned.checked.prog.veiledRec ·)))=true:=by kernel_rfl
theorem spaceNumbers_k31:(Rows.spaceNumbersRow.veiledFits Tryz.pinned.checked.prog Tryz.f15.params.toList (Tryz.f15.params.toList++Rows.spaceNumbersSpec.plain.varTypes Tryz.pinned.checked.prog++Tryz.f15.resultTypes.toList))=true:=by kernel_rfl
end Go.Proofs.YtoiejgkkcfkliaaGreatDoor
end
