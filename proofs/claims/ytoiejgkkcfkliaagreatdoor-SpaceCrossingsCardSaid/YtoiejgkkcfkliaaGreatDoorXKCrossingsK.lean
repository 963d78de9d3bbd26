/- Lemmas on the program and its library: part XKCrossingsK. -/
import Derived.ProofKit
import Derived.LaidMore
import Derived.OpenShut
import Derived.MakeChecks
import Derived.LaidHandle
import Derived.SevenTiedAt
import Derived.Stop.LaidErr
import Derived.Lib.LaidTab
import Derived.Test.YtoiejgkkcfkliaaGreatDoorTie
import Derived.Test.YtoiejgkkcfkliaaGreatDoorCards
set_option linter.unusedVariables false
set_option linter.unusedSimpArgs false
section
namespace Go.Proofs.YtoiejgkkcfkliaaGreatDoor
open Go Go.ChangeShapes Go.WideShapes Go.ChangeAt Go.RowKit Go.ChangeMaps
theorem spaceCrossings_k0:(Rows.spaceCrossingsRow.wf (OpenSpec.ofChange Rows.spaceCrossingsSpec))=true:=by kernel_rfl
theorem spaceCrossings_k1:(laidOutB Tryz.pinned.checked.prog)=true:=by kernel_rfl
theorem spaceCrossings_k2:(mapsRowed Tryz.pinned.checked.prog)=true:=by kernel_rfl
theorem spaceCrossings_k3:(Tryz.f10.params.all (Tryz.pinned.checked.prog.readableRec ·))=true:=by kernel_rfl
theorem spaceCrossings_k4:(namedTie Tryz.pinned.checked.prog Rows.spaceCrossingsRow.named Rows.spaceCrossingsSpec.vars)=true:=by kernel_rfl
theorem spaceCrossings_k5:((Rows.spaceCrossingsRow.stops == []))=true:=by kernel_rfl
theorem spaceCrossings_k6:((Tryz.pinned.checked.prog.stops == []))=true:=by kernel_rfl
theorem spaceCrossings_k7:((Rows.spaceCrossingsRow.knobs == []))=true:=by kernel_rfl
theorem spaceCrossings_k8:((Tryz.pinned.checked.prog.stopKnobs == []))=true:=by kernel_rfl
theorem spaceCrossings_k9:((Rows.spaceCrossingsRow.inPlace == Tryz.pinned.checked.prog.inPlace 10))=true:=by kernel_rfl
theorem spaceCrossings_k10:((Rows.spaceCrossingsRow.unfollowed == Tryz.pinned.checked.prog.unfollowed 10))=true:=by kernel_rfl
theorem spaceCrossings_k11:((Rows.spaceCrossingsRow.recurses == Tryz.pinned.checked.prog.recurses 10))=true:=by kernel_rfl
theorem spaceCrossings_k12:((Rows.spaceCrossingsRow.named == Tryz.pinned.checked.prog.varsNamed 10))=true:=by kernel_rfl
theorem spaceCrossings_k13:((Rows.spaceCrossingsRow.maps == (Tryz.f10.params.toList++Rows.spaceCrossingsSpec.plain.varTypes Tryz.pinned.checked.prog).any (Tryz.pinned.checked.prog.mapsRec ·)))=true:=by kernel_rfl
theorem spaceCrossings_k14:((Rows.spaceCrossingsRow.ifaces == (Tryz.f10.params.toList++Rows.spaceCrossingsSpec.plain.varTypes Tryz.pinned.checked.prog).any (Tryz.pinned.checked.prog.ifacesRec ·)))=true:=by kernel_rfl
theorem spaceCrossings_k15:((Rows.spaceCrossingsRow.mapsOut == Tryz.pinned.checked.prog.mapsAmong Tryz.f10.resultTypes.toList))=true:=by kernel_rfl
theorem spaceCrossings_k16:((Rows.spaceCrossingsRow.loops == (Tryz.f10.params.toList++Rows.spaceCrossingsSpec.plain.varTypes Tryz.pinned.checked.prog).any (Tryz.pinned.checked.prog.loopsFrom ·)))=true:=by kernel_rfl
theorem spaceCrossings_k17:((Rows.spaceCrossingsRow.wideKeys == (Tryz.f10.params.toList++Rows.spaceCrossingsSpec.plain.varTypes Tryz.pinned.checked.prog++Tryz.f10.resultTypes.toList).any (Tryz.pinned.checked.prog.wideKeysFrom ·)))=true:=by kernel_rfl
theorem spaceCrossings_k18:(Rows.spaceCrossingsSpec.vars.all (Tryz.pinned.checked.prog.varReadable ·))=true:=by kernel_rfl
theorem spaceCrossings_k19:(Tryz.f10.resultTypes.all (fun t=>Tryz.pinned.checked.prog.readableRec t && decide (t < Tryz.pinned.checked.prog.types.size)))=true:=by kernel_rfl
theorem spaceCrossings_k20:((Rows.spaceCrossingsRow.ifacesOut == Tryz.f10.resultTypes.toList.any (Tryz.pinned.checked.prog.ifacesRec ·)))=true:=by kernel_rfl
theorem spaceCrossings_k21:((Rows.spaceCrossingsRow.loopsOut == Tryz.f10.resultTypes.toList.any (Tryz.pinned.checked.prog.loopsFrom ·)))=true:=by kernel_rfl
theorem spaceCrossings_k22:((Rows.spaceCrossingsRow.plainKeys == Tryz.pinned.checked.prog.plainKeys))=true:=by kernel_rfl
theorem spaceCrossings_k23:(Rows.spaceCrossingsRow.shortTexts.isNone)=true:=by kernel_rfl
theorem spaceCrossings_k24:(Tryz.pinned.checked.prog.stopsHeard)=true:=by kernel_rfl
theorem spaceCrossings_k25:(Tryz.pinned.checked.prog.mayEnter)=true:=by kernel_rfl
theorem spaceCrossings_k26:((Rows.spaceCrossingsRow.lifted == Tryz.pinned.checked.prog.liftsFinal))=true:=by kernel_rfl
theorem spaceCrossings_k27:((Tryz.pinned.checked.prog.make == some Rows.spaceCrossingsRow.make))=true:=by kernel_rfl
theorem spaceCrossings_k28:((Rows.spaceCrossingsRow.kinds == (if Rows.spaceCrossingsRow.domain.isEmpty then [] else Tryz.f10.params.toList.map fun t=>match Tryz.pinned.checked.prog.underlying t with|some (.int k)=>some k|_=>none)))=true:=by kernel_rfl
theorem spaceCrossings_k29:((Rows.spaceCrossingsRow.pinned == Rows.spaceCrossingsRow.pinnedBy))=true:=by kernel_rfl
theorem spaceCrossings_k30:((Rows.spaceCrossingsRow.veiled == (Tryz.f10.params.toList++Rows.spaceCrossingsSpec.plain.varTypes Tryz.pinned.checked.prog++Tryz.f10.resultTypes.toList).any (Tryz.pinned.checked.prog.veiledRec ·)))=true:=by kernel_rfl
theorem spaceCrossings_k31:(Rows.spaceCrossingsRow.veiledFits Tryz.pinned.checked.prog Tryz.f10.params.toList (Tryz.f10.params.toList++Rows.spaceCrossingsSpec.plain.varTypes Tryz.pinned.checked.prog++Tryz.f10.resultTypes.toList))=true:=by kernel_rfl
end Go.Proofs.YtoiejgkkcfkliaaGreatDoor
end
