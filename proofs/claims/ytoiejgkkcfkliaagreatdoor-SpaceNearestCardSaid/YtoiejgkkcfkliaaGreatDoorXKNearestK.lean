/- Lemmas on the program and its library: part XKNearestK. -/
import Derived.ProofKit
import Derived.LaidMore
import Derived.OpenShut
import Derived.MakeChecks
import Derived.LaidHandle
import Derived.SevenTiedAt
import Derived.Stop.LaidErr
import Derived.Lib.LaidTab
import Derived.Test.YtoiejgkkcfkliaaGreatDoorTie
import Derived.Test.YtoiejgkkcfkliaaGreatDoorCards
set_option linter.unusedVariables false
set_option linter.unusedSimpArgs false
section
namespace Go.Proofs.YtoiejgkkcfkliaaGreatDoor
open Go Go.ChangeShapes Go.WideShapes Go.ChangeAt Go.RowKit Go.ChangeMaps
theorem spaceNearest_k0:(Rows.spaceNearestRow.wf (OpenSpec.ofChange Rows.spaceNearestSpec))=true:=by kernel_rfl
theorem spaceNearest_k1:(laidOutB Tryz.pinned.checked.prog)=true:=by kernel_rfl
theorem spaceNearest_k2:(mapsRowed Tryz.pinned.checked.prog)=true:=by kernel_rfl
theorem spaceNearest_k3:(Tryz.f7.params.all (Tryz.pinned.checked.prog.readableRec ·))=true:=by kernel_rfl
theorem spaceNearest_k4:(namedTie Tryz.pinned.checked.prog Rows.spaceNearestRow.named Rows.spaceNearestSpec.vars)=true:=by kernel_rfl
theorem spaceNearest_k5:((Rows.spaceNearestRow.stops == []))=true:=by kernel_rfl
theorem spaceNearest_k6:((Tryz.pinned.checked.prog.stops == []))=true:=by kernel_rfl
theorem spaceNearest_k7:((Rows.spaceNearestRow.knobs == []))=true:=by kernel_rfl
theorem spaceNearest_k8:((Tryz.pinned.checked.prog.stopKnobs == []))=true:=by kernel_rfl
theorem spaceNearest_k9:((Rows.spaceNearestRow.inPlace == Tryz.pinned.checked.prog.inPlace 7))=true:=by kernel_rfl
theorem spaceNearest_k10:((Rows.spaceNearestRow.unfollowed == Tryz.pinned.checked.prog.unfollowed 7))=true:=by kernel_rfl
theorem spaceNearest_k11:((Rows.spaceNearestRow.recurses == Tryz.pinned.checked.prog.recurses 7))=true:=by kernel_rfl
theorem spaceNearest_k12:((Rows.spaceNearestRow.named == Tryz.pinned.checked.prog.varsNamed 7))=true:=by kernel_rfl
theorem spaceNearest_k13:((Rows.spaceNearestRow.maps == (Tryz.f7.params.toList++Rows.spaceNearestSpec.plain.varTypes Tryz.pinned.checked.prog).any (Tryz.pinned.checked.prog.mapsRec ·)))=true:=by kernel_rfl
theorem spaceNearest_k14:((Rows.spaceNearestRow.ifaces == (Tryz.f7.params.toList++Rows.spaceNearestSpec.plain.varTypes Tryz.pinned.checked.prog).any (Tryz.pinned.checked.prog.ifacesRec ·)))=true:=by kernel_rfl
theorem spaceNearest_k15:((Rows.spaceNearestRow.mapsOut == Tryz.pinned.checked.prog.mapsAmong Tryz.f7.resultTypes.toList))=true:=by kernel_rfl
theorem spaceNearest_k16:((Rows.spaceNearestRow.loops == (Tryz.f7.params.toList++Rows.spaceNearestSpec.plain.varTypes Tryz.pinned.checked.prog).any (Tryz.pinned.checked.prog.loopsFrom ·)))=true:=by kernel_rfl
theorem spaceNearest_k17:((Rows.spaceNearestRow.wideKeys == (Tryz.f7.params.toList++Rows.spaceNearestSpec.plain.varTypes Tryz.pinned.checked.prog++Tryz.f7.resultTypes.toList).any (Tryz.pinned.checked.prog.wideKeysFrom ·)))=true:=by kernel_rfl
theorem spaceNearest_k18:(Rows.spaceNearestSpec.vars.all (Tryz.pinned.checked.prog.varReadable ·))=true:=by kernel_rfl
theorem spaceNearest_k19:(Tryz.f7.resultTypes.all (fun t=>Tryz.pinned.checked.prog.readableRec t && decide (t < Tryz.pinned.checked.prog.types.size)))=true:=by kernel_rfl
theorem spaceNearest_k20:((Rows.spaceNearestRow.ifacesOut == Tryz.f7.resultTypes.toList.any (Tryz.pinned.checked.prog.ifacesRec ·)))=true:=by kernel_rfl
theorem spaceNearest_k21:((Rows.spaceNearestRow.loopsOut == Tryz.f7.resultTypes.toList.any (Tryz.pinned.checked.prog.loopsFrom ·)))=true:=by kernel_rfl
theorem spaceNearest_k22:((Rows.spaceNearestRow.plainKeys == Tryz.pinned.checked.prog.plainKeys))=true:=by kernel_rfl
theorem spaceNearest_k23:(Rows.spaceNearestRow.shortTexts.isNone)=true:=by kernel_rfl
theorem spaceNearest_k24:(Tryz.pinned.checked.prog.stopsHeard)=true:=by kernel_rfl
theorem spaceNearest_k25:(Tryz.pinned.checked.prog.mayEnter)=true:=by kernel_rfl
theorem spaceNearest_k26:((Rows.spaceNearestRow.lifted == Tryz.pinned.checked.prog.liftsFinal))=true:=by kernel_rfl
theorem spaceNearest_k27:((Tryz.pinned.checked.prog.make == some Rows.spaceNearestRow.make))=true:=by kernel_rfl
theorem spaceNearest_k28:((Rows.spaceNearestRow.kinds == (if Rows.spaceNearestRow.domain.isEmpty then [] else Tryz.f7.params.toList.map fun t=>match Tryz.pinned.checked.prog.underlying t with|some (.int k)=>some k|_=>none)))=true:=by kernel_rfl
theorem spaceNearest_k29:((Rows.spaceNearestRow.pinned == Rows.spaceNearestRow.pinnedBy))=true:=by kernel_rfl
theorem spaceNearest_k30:((Rows.spaceNearestRow.veiled == (Tryz.f7.params.toList++Rows.spaceNearestSpec.plain.varTypes Tryz.pinned.checked.prog++Tryz.f7.resultTypes.toList).any (Tryz.pinned.checked.prog.veiledRec ·)))=true:=by kernel_rfl
theorem spaceNearest_k31:(Rows.spaceNearestRow.veiledFits Tryz.pinned.checked.prog Tryz.f7.params.toList (Tryz.f7.params.toList++Rows.spaceNearestSpec.plain.varTypes Tryz.pinned.checked.prog++Tryz.f7.resultTypes.toList))=true:=by kernel_rfl
end Go.Proofs.YtoiejgkkcfkliaaGreatDoor
end
