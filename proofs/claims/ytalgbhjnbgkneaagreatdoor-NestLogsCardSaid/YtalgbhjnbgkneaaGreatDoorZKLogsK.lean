/- Lemmas on the program and its library, part KLogsK. -/
import Derived.Test.YtalgbhjnbgkneaaGreatDoorTie
import Derived.Test.YtalgbhjnbgkneaaGreatDoorCards
import Derived.ProofKit
import Derived.LaidMore
import Derived.OpenShut
import Derived.MakeChecks
import Derived.LaidHandle
import Derived.SevenTiedAt
import Derived.Stop.LaidErr
import Derived.Lib.LaidTab
set_option linter.unusedVariables false
set_option linter.unusedSimpArgs false
section
namespace Go.Proofs.YtalgbhjnbgkneaaGreatDoor
open Go Go.ChangeShapes Go.WideShapes Go.ChangeAt Go.RowKit Go.ChangeMaps
theorem nestLogs_k0:(Rows.nestLogsRow.wf (OpenSpec.ofChange Rows.nestLogsSpec))=true:=by kernel_rfl
theorem nestLogs_k1:(laidOutB Tryz.pinned.checked.prog)=true:=by kernel_rfl
theorem nestLogs_k2:(mapsRowed Tryz.pinned.checked.prog)=true:=by kernel_rfl
theorem nestLogs_k3:(Tryz.f10.params.all (Tryz.pinned.checked.prog.readableRec ·))=true:=by kernel_rfl
theorem nestLogs_k4:(namedTie Tryz.pinned.checked.prog Rows.nestLogsRow.named Rows.nestLogsSpec.vars)=true:=by kernel_rfl
theorem nestLogs_k5:((Rows.nestLogsRow.stops == []))=true:=by kernel_rfl
theorem nestLogs_k6:((Tryz.pinned.checked.prog.stops == []))=true:=by kernel_rfl
theorem nestLogs_k7:((Rows.nestLogsRow.knobs == []))=true:=by kernel_rfl
theorem nestLogs_k8:((Tryz.pinned.checked.prog.stopKnobs == []))=true:=by kernel_rfl
theorem nestLogs_k9:((Rows.nestLogsRow.inPlace == Tryz.pinned.checked.prog.inPlace 10))=true:=by kernel_rfl
theorem nestLogs_k10:((Rows.nestLogsRow.unfollowed == Tryz.pinned.checked.prog.unfollowed 10))=true:=by kernel_rfl
theorem nestLogs_k11:((Rows.nestLogsRow.recurses == Tryz.pinned.checked.prog.recurses 10))=true:=by kernel_rfl
theorem nestLogs_k12:((Rows.nestLogsRow.named == Tryz.pinned.checked.prog.varsNamed 10))=true:=by kernel_rfl
theorem nestLogs_k13:((Rows.nestLogsRow.maps == (Tryz.f10.params.toList++Rows.nestLogsSpec.plain.varTypes Tryz.pinned.checked.prog).any (Tryz.pinned.checked.prog.mapsRec ·)))=true:=by kernel_rfl
theorem nestLogs_k14:((Rows.nestLogsRow.ifaces == (Tryz.f10.params.toList++Rows.nestLogsSpec.plain.varTypes Tryz.pinned.checked.prog).any (Tryz.pinned.checked.prog.ifacesRec ·)))=true:=by kernel_rfl
theorem nestLogs_k15:((Rows.nestLogsRow.mapsOut == Tryz.pinned.checked.prog.mapsAmong Tryz.f10.resultTypes.toList))=true:=by kernel_rfl
theorem nestLogs_k16:((Rows.nestLogsRow.loops == (Tryz.f10.params.toList++Rows.nestLogsSpec.plain.varTypes Tryz.pinned.checked.prog).any (Tryz.pinned.checked.prog.loopsFrom ·)))=true:=by kernel_rfl
theorem nestLogs_k17:((Rows.nestLogsRow.wideKeys == (Tryz.f10.params.toList++Rows.nestLogsSpec.plain.varTypes Tryz.pinned.checked.prog++Tryz.f10.resultTypes.toList).any (Tryz.pinned.checked.prog.wideKeysFrom ·)))=true:=by kernel_rfl
theorem nestLogs_k18:(Rows.nestLogsSpec.vars.all (Tryz.pinned.checked.prog.varReadable ·))=true:=by kernel_rfl
theorem nestLogs_k19:(Tryz.f10.resultTypes.all (fun t=>Tryz.pinned.checked.prog.readableRec t && decide (t < Tryz.pinned.checked.prog.types.size)))=true:=by kernel_rfl
theorem nestLogs_k20:((Rows.nestLogsRow.ifacesOut == Tryz.f10.resultTypes.toList.any (Tryz.pinned.checked.prog.ifacesRec ·)))=true:=by kernel_rfl
theorem nestLogs_k21:((Rows.nestLogsRow.loopsOut == Tryz.f10.resultTypes.toList.any (Tryz.pinned.checked.prog.loopsFrom ·)))=true:=by kernel_rfl
theorem nestLogs_k22:((Rows.nestLogsRow.plainKeys == Tryz.pinned.checked.prog.plainKeys))=true:=by kernel_rfl
theorem nestLogs_k23:(Rows.nestLogsRow.shortTexts.isNone)=true:=by kernel_rfl
theorem nestLogs_k24:(Tryz.pinned.checked.prog.stopsHeard)=true:=by kernel_rfl
theorem nestLogs_k25:(Tryz.pinned.checked.prog.mayEnter)=true:=by kernel_rfl
theorem nestLogs_k26:((Rows.nestLogsRow.lifted == Tryz.pinned.checked.prog.liftsFinal))=true:=by kernel_rfl
theorem nestLogs_k27:((Tryz.pinned.checked.prog.make == some Rows.nestLogsRow.make))=true:=by kernel_rfl
theorem nestLogs_k28:((Rows.nestLogsRow.kinds == (if Rows.nestLogsRow.domain.isEmpty then [] else Tryz.f10.params.toList.map fun t=>match Tryz.pinned.checked.prog.underlying t with|some (.int k)=>some k|_=>none)))=true:=by kernel_rfl
theorem nestLogs_k29:((Rows.nestLogsRow.pinned == Rows.nestLogsRow.pinnedBy))=true:=by kernel_rfl
theorem nestLogs_k30:((Rows.nestLogsRow.veiled == (Tryz.f10.params.toList++Rows.nestLogsSpec.plain.varTypes Tryz.pinned.checked.prog++Tryz.f10.resultTypes.toList).any (Tryz.pinned.checked.prog.veiledRec ·)))=true:=by kernel_rfl
theorem nestLogs_k31:(Rows.nestLogsRow.veiledFits Tryz.pinned.checked.prog Tryz.f10.params.toList (Tryz.f10.params.toList++Rows.nestLogsSpec.plain.varTypes Tryz.pinned.checked.prog++Tryz.f10.resultTypes.toList))=true:=by kernel_rfl
end Go.Proofs.YtalgbhjnbgkneaaGreatDoor
end
