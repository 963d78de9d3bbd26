/- Lemmas on the program and its library: part XKLagrangeK. -/
import Derived.ProofKit
import Derived.LaidMore
import Derived.OpenShut
import Derived.MakeChecks
import Derived.LaidHandle
import Derived.SevenTiedAt
import Derived.Stop.LaidErr
import Derived.Lib.LaidTab
import Derived.Test.YtoiejgkkcfkliaaGreatDoorTie
import Derived.Test.YtoiejgkkcfkliaaGreatDoorCards
set_option linter.unusedVariables false
set_option linter.unusedSimpArgs false
section
namespace Go.Proofs.YtoiejgkkcfkliaaGreatDoor
open Go Go.ChangeShapes Go.WideShapes Go.ChangeAt Go.RowKit Go.ChangeMaps
theorem spaceLagrange_k0:(Rows.spaceLagrangeRow.wf (OpenSpec.ofChange Rows.spaceLagrangeSpec))=true:=by kernel_rfl
theorem spaceLagrange_k1:(laidOutB Tryz.pinned.checked.prog)=true:=by kernel_rfl
theorem spaceLagrange_k2:(mapsRowed Tryz.pinned.checked.prog)=true:=by kernel_rfl
theorem spaceLagrange_k3:(Tryz.f12.params.all (Tryz.pinned.checked.prog.readableRec ·))=true:=by kernel_rfl
theorem spaceLagrange_k4:(namedTie Tryz.pinned.checked.prog Rows.spaceLagrangeRow.named Rows.spaceLagrangeSpec.vars)=true:=by kernel_rfl
theorem spaceLagrange_k5:((Rows.spaceLagrangeRow.stops == []))=true:=by kernel_rfl
theorem spaceLagrange_k6:((Tryz.pinned.checked.prog.stops == []))=true:=by kernel_rfl
theorem spaceLagrange_k7:((Rows.spaceLagrangeRow.knobs == []))=true:=by kernel_rfl
theorem spaceLagrange_k8:((Tryz.pinned.checked.prog.stopKnobs == []))=true:=by kernel_rfl
theorem spaceLagrange_k9:((Rows.spaceLagrangeRow.inPlace == Tryz.pinned.checked.prog.inPlace 12))=true:=by kernel_rfl
theorem spaceLagrange_k10:((Rows.spaceLagrangeRow.unfollowed == Tryz.pinned.checked.prog.unfollowed 12))=true:=by kernel_rfl
theorem spaceLagrange_k11:((Rows.spaceLagrangeRow.recurses == Tryz.pinned.checked.prog.recurses 12))=true:=by kernel_rfl
theorem spaceLagrange_k12:((Rows.spaceLagrangeRow.named == Tryz.pinned.checked.prog.varsNamed 12))=true:=by kernel_rfl
theorem spaceLagrange_k13:((Rows.spaceLagrangeRow.maps == (Tryz.f12.params.toList++Rows.spaceLagrangeSpec.plain.varTypes Tryz.pinned.checked.prog).any (Tryz.pinned.checked.prog.mapsRec ·)))=true:=by kernel_rfl
theorem spaceLagrange_k14:((Rows.spaceLagrangeRow.ifaces == (Tryz.f12.params.toList++Rows.spaceLagrangeSpec.plain.varTypes Tryz.pinned.checked.prog).any (Tryz.pinned.checked.prog.ifacesRec ·)))=true:=by kernel_rfl
theorem spaceLagrange_k15:((Rows.spaceLagrangeRow.mapsOut == Tryz.pinned.checked.prog.mapsAmong Tryz.f12.resultTypes.toList))=true:=by kernel_rfl
theorem spaceLagrange_k16:((Rows.spaceLagrangeRow.loops == (Tryz.f12.params.toList++Rows.spaceLagrangeSpec.plain.varTypes Tryz.pinned.checked.prog).any (Tryz.pinned.checked.prog.loopsFrom ·)))=true:=by kernel_rfl
theorem spaceLagrange_k17:((Rows.spaceLagrangeRow.wideKeys == (Tryz.f12.params.toList++Rows.spaceLagrangeSpec.plain.varTypes Tryz.pinned.checked.prog++Tryz.f12.resultTypes.toList).any (Tryz.pinned.checked.prog.wideKeysFrom ·)))=true:=by kernel_rfl
theorem spaceLagrange_k18:(Rows.spaceLagrangeSpec.vars.all (Tryz.pinned.checked.prog.varReadable ·))=true:=by kernel_rfl
theorem spaceLagrange_k19:(Tryz.f12.resultTypes.all (fun t=>Tryz.pinned.checked.prog.readableRec t && decide (t < Tryz.pinned.checked.prog.types.size)))=true:=by kernel_rfl
theorem spaceLagrange_k20:((Rows.spaceLagrangeRow.ifacesOut == Tryz.f12.resultTypes.toList.any (Tryz.pinned.checked.prog.ifacesRec ·)))=true:=by kernel_rfl
theorem spaceLagrange_k21:((Rows.spaceLagrangeRow.loopsOut == Tryz.f12.resultTypes.toList.any (Tryz.pinned.checked.prog.loopsFrom ·)))=true:=by kernel_rfl
theorem spaceLagrange_k22:((Rows.spaceLagrangeRow.plainKeys == Tryz.pinned.checked.prog.plainKeys))=true:=by kernel_rfl
theorem spaceLagrange_k23:(Rows.spaceLagrangeRow.shortTexts.isNone)=true:=by kernel_rfl
theorem spaceLagrange_k24:(Tryz.pinned.checked.prog.stopsHeard)=true:=by kernel_rfl
theorem spaceLagrange_k25:(Tryz.pinned.checked.prog.mayEnter)=true:=by kernel_rfl
theorem spaceLagrange_k26:((Rows.spaceLagrangeRow.lifted == Tryz.pinned.checked.prog.liftsFinal))=true:=by kernel_rfl
theorem spaceLagrange_k27:((Tryz.pinned.checked.prog.make == some Rows.spaceLagrangeRow.make))=true:=by kernel_rfl
theorem spaceLagrange_k28:((Rows.spaceLagrangeRow.kinds == (if Rows.spaceLagrangeRow.domain.isEmpty then [] else Tryz.f12.params.toList.map fun t=>match Tryz.pinned.checked.prog.underlying t with|some (.int k)=>some k|_=>none)))=true:=by kernel_rfl
theorem spaceLagrange_k29:((Rows.spaceLagrangeRow.pinned == Rows.spaceLagrangeRow.pinnedBy))=true:=by kernel_rfl
theorem spaceLagrange_k30:((Rows.spaceLagrangeRow.veiled == (Tryz.f12.params.toList++Rows.spaceLagrangeSpec.plain.varTypes Tryz.pinned.checked.prog++Tryz.f12.resultTypes.toList).any (Tryz.pinned.checked.prog.veiledRec ·)))=true:=by kernel_rfl
theorem spaceLagrange_k31:(Rows.spaceLagrangeRow.veiledFits Tryz.pinned.checked.prog Tryz.f12.params.toList (Tryz.f12.params.toList++Rows.spaceLagrangeSpec.plain.varTypes Tryz.pinned.checked.prog++Tryz.f12.resultTypes.toList))=true:=by kernel_rfl
end Go.Proofs.YtoiejgkkcfkliaaGreatDoor
end
