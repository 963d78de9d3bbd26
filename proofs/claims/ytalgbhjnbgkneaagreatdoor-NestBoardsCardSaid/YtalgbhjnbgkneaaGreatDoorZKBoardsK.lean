/- Lemmas on the program and its library, part KBoardsK. -/
import Derived.Test.YtalgbhjnbgkneaaGreatDoorTie
import Derived.Test.YtalgbhjnbgkneaaGreatDoorCards
import Derived.ProofKit
import Derived.LaidMore
import Derived.OpenShut
import Derived.MakeChecks
import Derived.LaidHandle
import Derived.SevenTiedAt
import Derived.Stop.LaidErr
import Derived.Lib.LaidTab
set_option linter.unusedVariables false
set_option linter.unusedSimpArgs false
section
namespace Go.Proofs.YtalgbhjnbgkneaaGreatDoor
open Go Go.ChangeShapes Go.WideShapes Go.ChangeAt Go.RowKit Go.ChangeMaps
theorem nestBoards_k0:(Rows.nestBoardsRow.wf (OpenSpec.ofChange Rows.nestBoardsSpec))=true:=by kernel_rfl
theorem nestBoards_k1:(laidOutB Tryz.pinned.checked.prog)=true:=by kernel_rfl
theorem nestBoards_k2:(mapsRowed Tryz.pinned.checked.prog)=true:=by kernel_rfl
theorem nestBoards_k3:(Tryz.f6.params.all (Tryz.pinned.checked.prog.readableRec ·))=true:=by kernel_rfl
theorem nestBoards_k4:(namedTie Tryz.pinned.checked.prog Rows.nestBoardsRow.named Rows.nestBoardsSpec.vars)=true:=by kernel_rfl
theorem nestBoards_k5:((Rows.nestBoardsRow.stops == []))=true:=by kernel_rfl
theorem nestBoards_k6:((Tryz.pinned.checked.prog.stops == []))=true:=by kernel_rfl
theorem nestBoards_k7:((Rows.nestBoardsRow.knobs == []))=true:=by kernel_rfl
theorem nestBoards_k8:((Tryz.pinned.checked.prog.stopKnobs == []))=true:=by kernel_rfl
theorem nestBoards_k9:((Rows.nestBoardsRow.inPlace == Tryz.pinned.checked.prog.inPlace 6))=true:=by kernel_rfl
theorem nestBoards_k10:((Rows.nestBoardsRow.unfollowed == Tryz.pinned.checked.prog.unfollowed 6))=true:=by kernel_rfl
theorem nestBoards_k11:((Rows.nestBoardsRow.recurses == Tryz.pinned.checked.prog.recurses 6))=true:=by kernel_rfl
theorem nestBoards_k12:((Rows.nestBoardsRow.named == Tryz.pinned.checked.prog.varsNamed 6))=true:=by kernel_rfl
theorem nestBoards_k13:((Rows.nestBoardsRow.maps == (Tryz.f6.params.toList++Rows.nestBoardsSpec.plain.varTypes Tryz.pinned.checked.prog).any (Tryz.pinned.checked.prog.mapsRec ·)))=true:=by kernel_rfl
theorem nestBoards_k14:((Rows.nestBoardsRow.ifaces == (Tryz.f6.params.toList++Rows.nestBoardsSpec.plain.varTypes Tryz.pinned.checked.prog).any (Tryz.pinned.checked.prog.ifacesRec ·)))=true:=by kernel_rfl
theorem nestBoards_k15:((Rows.nestBoardsRow.mapsOut == Tryz.pinned.checked.prog.mapsAmong Tryz.f6.resultTypes.toList))=true:=by kernel_rfl
theorem nestBoards_k16:((Rows.nestBoardsRow.loops == (Tryz.f6.params.toList++Rows.nestBoardsSpec.plain.varTypes Tryz.pinned.checked.prog).any (Tryz.pinned.checked.prog.loopsFrom ·)))=true:=by kernel_rfl
theorem nestBoards_k17:((Rows.nestBoardsRow.wideKeys == (Tryz.f6.params.toList++Rows.nestBoardsSpec.plain.varTypes Tryz.pinned.checked.prog++Tryz.f6.resultTypes.toList).any (Tryz.pinned.checked.prog.wideKeysFrom ·)))=true:=by kernel_rfl
theorem nestBoards_k18:(Rows.nestBoardsSpec.vars.all (Tryz.pinned.checked.prog.varReadable ·))=true:=by kernel_rfl
theorem nestBoards_k19:(Tryz.f6.resultTypes.all (fun t=>Tryz.pinned.checked.prog.readableRec t && decide (t < Tryz.pinned.checked.prog.types.size)))=true:=by kernel_rfl
theorem nestBoards_k20:((Rows.nestBoardsRow.ifacesOut == Tryz.f6.resultTypes.toList.any (Tryz.pinned.checked.prog.ifacesRec ·)))=true:=by kernel_rfl
theorem nestBoards_k21:((Rows.nestBoardsRow.loopsOut == Tryz.f6.resultTypes.toList.any (Tryz.pinned.checked.prog.loopsFrom ·)))=true:=by kernel_rfl
theorem nestBoards_k22:((Rows.nestBoardsRow.plainKeys == Tryz.pinned.checked.prog.plainKeys))=true:=by kernel_rfl
theorem nestBoards_k23:(Rows.nestBoardsRow.shortTexts.isNone)=true:=by kernel_rfl
theorem nestBoards_k24:(Tryz.pinned.checked.prog.stopsHeard)=true:=by kernel_rfl
theorem nestBoards_k25:(Tryz.pinned.checked.prog.mayEnter)=true:=by kernel_rfl
theorem nestBoards_k26:((Rows.nestBoardsRow.lifted == Tryz.pinned.checked.prog.liftsFinal))=true:=by kernel_rfl
theorem nestBoards_k27:((Tryz.pinned.checked.prog.make == some Rows.nestBoardsRow.make))=true:=by kernel_rfl
theorem nestBoards_k28:((Rows.nestBoardsRow.kinds == (if Rows.nestBoardsRow.domain.isEmpty then [] else Tryz.f6.params.toList.map fun t=>match Tryz.pinned.checked.prog.underlying t with|some (.int k)=>some k|_=>none)))=true:=by kernel_rfl
theorem nestBoards_k29:((Rows.nestBoardsRow.pinned == Rows.nestBoardsRow.pinnedBy))=true:=by kernel_rfl
theorem nestBoards_k30:((Rows.nestBoardsRow.veiled == (Tryz.f6.params.toList++Rows.nestBoardsSpec.plain.varTypes Tryz.pinned.checked.prog++Tryz.f6.resultTypes.toList).any (Tryz.pinned.checked.prog.veiledRec ·)))=true:=by kernel_rfl
theorem nestBoards_k31:(Rows.nestBoardsRow.veiledFits Tryz.pinned.checked.prog Tryz.f6.params.toList (Tryz.f6.params.toList++Rows.nestBoardsSpec.plain.varTypes Tryz.pinned.checked.prog++Tryz.f6.resultTypes.toList))=true:=by kernel_rfl
end Go.Proofs.YtalgbhjnbgkneaaGreatDoor
end
