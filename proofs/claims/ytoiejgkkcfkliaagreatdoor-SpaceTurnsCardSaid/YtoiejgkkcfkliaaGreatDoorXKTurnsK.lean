/- Lemmas on the program and its library: part XKTurnsK. -/
import Derived.ProofKit
import Derived.LaidMore
import Derived.OpenShut
import Derived.MakeChecks
import Derived.LaidHandle
import Derived.SevenTiedAt
import Derived.Stop.LaidErr
import Derived.Lib.LaidTab
import Derived.Test.YtoiejgkkcfkliaaGreatDoorTie
import Derived.Test.YtoiejgkkcfkliaaGreatDoorCards
set_option linter.unusedVariables false
set_option linter.unusedSimpArgs false
section
namespace Go.Proofs.YtoiejgkkcfkliaaGreatDoor
open Go Go.ChangeShapes Go.WideShapes Go.ChangeAt Go.RowKit Go.ChangeMaps
theorem spaceTurns_k0:(Rows.spaceTurnsRow.wf (OpenSpec.ofChange Rows.spaceTurnsSpec))=true:=by kernel_rfl
theorem spaceTurns_k1:(laidOutB Tryz.pinned.checked.prog)=true:=by kernel_rfl
theorem spaceTurns_k2:(mapsRowed Tryz.pinned.checked.prog)=true:=by kernel_rfl
theorem spaceTurns_k3:(Tryz.f9.params.all (Tryz.pinned.checked.prog.readableRec ·))=true:=by kernel_rfl
theorem spaceTurns_k4:(namedTie Tryz.pinned.checked.prog Rows.spaceTurnsRow.named Rows.spaceTurnsSpec.vars)=true:=by kernel_rfl
theorem spaceTurns_k5:((Rows.spaceTurnsRow.stops == []))=true:=by kernel_rfl
theorem spaceTurns_k6:((Tryz.pinned.checked.prog.stops == []))=true:=by kernel_rfl
theorem spaceTurns_k7:((Rows.spaceTurnsRow.knobs == []))=true:=by kernel_rfl
theorem spaceTurns_k8:((Tryz.pinned.checked.prog.stopKnobs == []))=true:=by kernel_rfl
theorem spaceTurns_k9:((Rows.spaceTurnsRow.inPlace == Tryz.pinned.checked.prog.inPlace 9))=true:=by kernel_rfl
theorem spaceTurns_k10:((Rows.spaceTurnsRow.unfollowed == Tryz.pinned.checked.prog.unfollowed 9))=true:=by kernel_rfl
theorem spaceTurns_k11:((Rows.spaceTurnsRow.recurses == Tryz.pinned.checked.prog.recurses 9))=true:=by kernel_rfl
theorem spaceTurns_k12:((Rows.spaceTurnsRow.named == Tryz.pinned.checked.prog.varsNamed 9))=true:=by kernel_rfl
theorem spaceTurns_k13:((Rows.spaceTurnsRow.maps == (Tryz.f9.params.toList++Rows.spaceTurnsSpec.plain.varTypes Tryz.pinned.checked.prog).any (Tryz.pinned.checked.prog.mapsRec ·)))=true:=by kernel_rfl
theorem spaceTurns_k14:((Rows.spaceTurnsRow.ifaces == (Tryz.f9.params.toList++Rows.spaceTurnsSpec.plain.varTypes Tryz.pinned.checked.prog).any (Tryz.pinned.checked.prog.ifacesRec ·)))=true:=by kernel_rfl
theorem spaceTurns_k15:((Rows.spaceTurnsRow.mapsOut == Tryz.pinned.checked.prog.mapsAmong Tryz.f9.resultTypes.toList))=true:=by kernel_rfl
theorem spaceTurns_k16:((Rows.spaceTurnsRow.loops == (Tryz.f9.params.toList++Rows.spaceTurnsSpec.plain.varTypes Tryz.pinned.checked.prog).any (Tryz.pinned.checked.prog.loopsFrom ·)))=true:=by kernel_rfl
theorem spaceTurns_k17:((Rows.spaceTurnsRow.wideKeys == (Tryz.f9.params.toList++Rows.spaceTurnsSpec.plain.varTypes Tryz.pinned.checked.prog++Tryz.f9.resultTypes.toList).any (Tryz.pinned.checked.prog.wideKeysFrom ·)))=true:=by kernel_rfl
theorem spaceTurns_k18:(Rows.spaceTurnsSpec.vars.all (Tryz.pinned.checked.prog.varReadable ·))=true:=by kernel_rfl
theorem spaceTurns_k19:(Tryz.f9.resultTypes.all (fun t=>Tryz.pinned.checked.prog.readableRec t && decide (t < Tryz.pinned.checked.prog.types.size)))=true:=by kernel_rfl
theorem spaceTurns_k20:((Rows.spaceTurnsRow.ifacesOut == Tryz.f9.resultTypes.toList.any (Tryz.pinned.checked.prog.ifacesRec ·)))=true:=by kernel_rfl
theorem spaceTurns_k21:((Rows.spaceTurnsRow.loopsOut == Tryz.f9.resultTypes.toList.any (Tryz.pinned.checked.prog.loopsFrom ·)))=true:=by kernel_rfl
theorem spaceTurns_k22:((Rows.spaceTurnsRow.plainKeys == Tryz.pinned.checked.prog.plainKeys))=true:=by kernel_rfl
theorem spaceTurns_k23:(Rows.spaceTurnsRow.shortTexts.isNone)=true:=by kernel_rfl
theorem spaceTurns_k24:(Tryz.pinned.checked.prog.stopsHeard)=true:=by kernel_rfl
theorem spaceTurns_k25:(Tryz.pinned.checked.prog.mayEnter)=true:=by kernel_rfl
theorem spaceTurns_k26:((Rows.spaceTurnsRow.lifted == Tryz.pinned.checked.prog.liftsFinal))=true:=by kernel_rfl
theorem spaceTurns_k27:((Tryz.pinned.checked.prog.make == some Rows.spaceTurnsRow.make))=true:=by kernel_rfl
theorem spaceTurns_k28:((Rows.spaceTurnsRow.kinds == (if Rows.spaceTurnsRow.domain.isEmpty then [] else Tryz.f9.params.toList.map fun t=>match Tryz.pinned.checked.prog.underlying t with|some (.int k)=>some k|_=>none)))=true:=by kernel_rfl
theorem spaceTurns_k29:((Rows.spaceTurnsRow.pinned == Rows.spaceTurnsRow.pinnedBy))=true:=by kernel_rfl
theorem spaceTurns_k30:((Rows.spaceTurnsRow.veiled == (Tryz.f9.params.toList++Rows.spaceTurnsSpec.plain.varTypes Tryz.pinned.checked.prog++Tryz.f9.resultTypes.toList).any (Tryz.pinned.checked.prog.veiledRec ·)))=true:=by kernel_rfl
theorem spaceTurns_k31:(Rows.spaceTurnsRow.veiledFits Tryz.pinned.checked.prog Tryz.f9.params.toList (Tryz.f9.params.toList++Rows.spaceTurnsSpec.plain.varTypes Tryz.pinned.checked.prog++Tryz.f9.resultTypes.toList))=true:=by kernel_rfl
end Go.Proofs.YtoiejgkkcfkliaaGreatDoor
end
