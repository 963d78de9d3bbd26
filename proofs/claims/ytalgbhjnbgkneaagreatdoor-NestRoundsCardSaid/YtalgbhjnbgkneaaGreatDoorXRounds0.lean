/- Further lemmas on the program, part Rounds0. -/
import Derived.Test.YtalgbhjnbgkneaaGreatDoorTie
import Derived.Test.YtalgbhjnbgkneaaGreatDoorCards
import Derived.ProofKit
import Derived.LaidMore
import Derived.OpenShut
import Derived.MakeChecks
import Derived.LaidHandle
import Derived.SevenTiedAt
import Derived.Stop.LaidErr
import Derived.Lib.LaidTab
set_option linter.unusedVariables false
set_option linter.unusedSimpArgs false
section
namespace Go.Proofs.YtalgbhjnbgkneaaGreatDoor
open Go Go.ChangeShapes Go.WideShapes Go.ChangeAt Go.RowKit Go.ChangeMaps
theorem nestRounds_k0:(Rows.nestRoundsRow.wf (OpenSpec.ofChange Rows.nestRoundsSpec))=true:=by kernel_rfl
theorem nestRounds_k1:(laidOutB Tryz.pinned.checked.prog)=true:=by kernel_rfl
theorem nestRounds_k2:(mapsRowed Tryz.pinned.checked.prog)=true:=by kernel_rfl
theorem nestRounds_k3:(Tryz.f11.params.all (Tryz.pinned.checked.prog.readableRec ·))=true:=by kernel_rfl
theorem nestRounds_k4:(namedTie Tryz.pinned.checked.prog Rows.nestRoundsRow.named Rows.nestRoundsSpec.vars)=true:=by kernel_rfl
theorem nestRounds_k5:((Rows.nestRoundsRow.stops == []))=true:=by kernel_rfl
theorem nestRounds_k6:((Tryz.pinned.checked.prog.stops == []))=true:=by kernel_rfl
theorem nestRounds_k7:((Rows.nestRoundsRow.knobs == []))=true:=by kernel_rfl
theorem nestRounds_k8:((Tryz.pinned.checked.prog.stopKnobs == []))=true:=by kernel_rfl
theorem nestRounds_k9:((Rows.nestRoundsRow.inPlace == Tryz.pinned.checked.prog.inPlace 11))=true:=by kernel_rfl
theorem nestRounds_k10:((Rows.nestRoundsRow.unfollowed == Tryz.pinned.checked.prog.unfollowed 11))=true:=by kernel_rfl
theorem nestRounds_k11:((Rows.nestRoundsRow.recurses == Tryz.pinned.checked.prog.recurses 11))=true:=by kernel_rfl
theorem nestRounds_k12:((Rows.nestRoundsRow.named == Tryz.pinned.checked.prog.varsNamed 11))=true:=by kernel_rfl
theorem nestRounds_k13:((Rows.nestRoundsRow.maps == (Tryz.f11.params.toList++Rows.nestRoundsSpec.plain.varTypes Tryz.pinned.checked.prog).any (Tryz.pinned.checked.prog.mapsRec ·)))=true:=by kernel_rfl
theorem nestRounds_k14:((Rows.nestRoundsRow.ifaces == (Tryz.f11.params.toList++Rows.nestRoundsSpec.plain.varTypes Tryz.pinned.checked.prog).any (Tryz.pinned.checked.prog.ifacesRec ·)))=true:=by kernel_rfl
theorem nestRounds_k15:((Rows.nestRoundsRow.mapsOut == Tryz.pinned.checked.prog.mapsAmong Tryz.f11.resultTypes.toList))=true:=by kernel_rfl
theorem nestRounds_k16:((Rows.nestRoundsRow.loops == (Tryz.f11.params.toList++Rows.nestRoundsSpec.plain.varTypes Tryz.pinned.checked.prog).any (Tryz.pinned.checked.prog.loopsFrom ·)))=true:=by kernel_rfl
theorem nestRounds_k17:((Rows.nestRoundsRow.wideKeys == (Tryz.f11.params.toList++Rows.nestRoundsSpec.plain.varTypes Tryz.pinned.checked.prog++Tryz.f11.resultTypes.toList).any (Tryz.pinned.checked.prog.wideKeysFrom ·)))=true:=by kernel_rfl
theorem nestRounds_k18:(Rows.nestRoundsSpec.vars.all (Tryz.pinned.checked.prog.varReadable ·))=true:=by kernel_rfl
theorem nestRounds_k19:(Tryz.f11.resultTypes.all (fun t=>Tryz.pinned.checked.prog.readableRec t && decide (t < Tryz.pinned.checked.prog.types.size)))=true:=by kernel_rfl
theorem nestRounds_k20:((Rows.nestRoundsRow.ifacesOut == Tryz.f11.resultTypes.toList.any (Tryz.pinned.checked.prog.ifacesRec ·)))=true:=by kernel_rfl
theorem nestRounds_k21:((Rows.nestRoundsRow.loopsOut == Tryz.f11.resultTypes.toList.any (Tryz.pinned.checked.prog.loopsFrom ·)))=true:=by kernel_rfl
theorem nestRounds_k22:((Rows.nestRoundsRow.plainKeys == Tryz.pinned.checked.prog.plainKeys))=true:=by kernel_rfl
theorem nestRounds_k23:(Rows.nestRoundsRow.shortTexts.isNone)=true:=by kernel_rfl
theorem nestRounds_k24:(Tryz.pinned.checked.prog.stopsHeard)=true:=by kernel_rfl
theorem nestRounds_k25:(Tryz.pinned.checked.prog.mayEnter)=true:=by kernel_rfl
theorem nestRounds_k26:((Rows.nestRoundsRow.lifted == Tryz.pinned.checked.prog.liftsFinal))=true:=by kernel_rfl
theorem nestRounds_k27:((Tryz.pinned.checked.prog.make == some Rows.nestRoundsRow.make))=true:=by kernel_rfl
theorem nestRounds_k28:((Rows.nestRoundsRow.kinds == (if Rows.nestRoundsRow.domain.isEmpty then [] else Tryz.f11.params.toList.map fun t=>match Tryz.pinned.checked.prog.underlying t with|some (.int k)=>some k|_=>none)))=true:=by kernel_rfl
theorem nestRounds_k29:((Rows.nestRoundsRow.pinned == Rows.nestRoundsRow.pinnedBy))=true:=by kernel_rfl
theorem nestRounds_k30:((Rows.nestRoundsRow.veiled == (Tryz.f11.params.toList++Rows.nestRoundsSpec.plain.varTypes Tryz.pinned.checked.prog++Tryz.f11.resultTypes.toList).any (Tryz.pinned.checked.prog.veiledRec ·)))=true:=by kernel_rfl
theorem nestRounds_k31:(Rows.nestRoundsRow.veiledFits Tryz.pinned.checked.prog Tryz.f11.params.toList (Tryz.f11.params.toList++Rows.nestRoundsSpec.plain.varTypes Tryz.pinned.checked.prog++Tryz.f11.resultTypes.toList))=true:=by kernel_rfl
end Go.Proofs.YtalgbhjnbgkneaaGreatDoor
end
