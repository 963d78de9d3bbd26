/- Lemmas on the program and its library: part XKComposedK. -/
import Derived.ProofKit
import Derived.LaidMore
import Derived.OpenShut
import Derived.MakeChecks
import Derived.LaidHandle
import Derived.SevenTiedAt
import Derived.Stop.LaidErr
import Derived.Lib.LaidTab
import Derived.Test.YtoiejgkkcfkliaaGreatDoorTie
import Derived.Test.YtoiejgkkcfkliaaGreatDoorCards
set_option linter.unusedVariables false
set_option linter.unusedSimpArgs false
section
namespace Go.Proofs.YtoiejgkkcfkliaaGreatDoor
open Go Go.ChangeShapes Go.WideShapes Go.ChangeAt Go.RowKit Go.ChangeMaps
theorem b7b:(Rows.spaceComposedRow.wf (OpenSpec.ofChange Rows.spaceComposedSpec))=true:=by kernel_rfl
theorem b7c:(laidOutB Tryz.pinned.checked.prog)=true:=by kernel_rfl
theorem b7d:(mapsRowed Tryz.pinned.checked.prog)=true:=by kernel_rfl
theorem b7e:(Tryz.f8.params.all (Tryz.pinned.checked.prog.readableRec ·))=true:=by kernel_rfl
theorem b7f:(namedTie Tryz.pinned.checked.prog Rows.spaceComposedRow.named Rows.spaceComposedSpec.vars)=true:=by kernel_rfl
theorem b7g:((Rows.spaceComposedRow.stops == []))=true:=by kernel_rfl
theorem b7h:((Tryz.pinned.checked.prog.stops == []))=true:=by kernel_rfl
theorem b7i:((Rows.spaceComposedRow.knobs == []))=true:=by kernel_rfl
theorem b7j:((Tryz.pinned.checked.prog.stopKnobs == []))=true:=by kernel_rfl
theorem b7k:((Rows.spaceComposedRow.inPlace == Tryz.pinned.checked.prog.inPlace 8))=true:=by kernel_rfl
theorem b5o:((Rows.spaceComposedRow.unfollowed == Tryz.pinned.checked.prog.unfollowed 8))=true:=by kernel_rfl
theorem b5p:((Rows.spaceComposedRow.recurses == Tryz.pinned.checked.prog.recurses 8))=true:=by kernel_rfl
theorem b5q:((Rows.spaceComposedRow.named == Tryz.pinned.checked.prog.varsNamed 8))=true:=by kernel_rfl
theorem b5r:((Rows.spaceComposedRow.maps == (Tryz.f8.params.toList++Rows.spaceComposedSpec.plain.varTypes Tryz.pinned.checked.prog).any (Tryz.pinned.checked.prog.mapsRec ·)))=true:=by kernel_rfl
theorem b5s:((Rows.spaceComposedRow.ifaces == (Tryz.f8.params.toList++Rows.spaceComposedSpec.plain.varTypes Tryz.pinned.checked.prog).any (Tryz.pinned.checked.prog.ifacesRec ·)))=true:=by kernel_rfl
theorem b5t:((Rows.spaceComposedRow.mapsOut == Tryz.pinned.checked.prog.mapsAmong Tryz.f8.resultTypes.toList))=true:=by kernel_rfl
theorem b5u:((Rows.spaceComposedRow.loops == (Tryz.f8.params.toList++Rows.spaceComposedSpec.plain.varTypes Tryz.pinned.checked.prog).any (Tryz.pinned.checked.prog.loopsFrom ·)))=true:=by kernel_rfl
theorem b5v:((Rows.spaceComposedRow.wideKeys == (Tryz.f8.params.toList++Rows.spaceComposedSpec.plain.varTypes Tryz.pinned.checked.prog++Tryz.f8.resultTypes.toList).any (Tryz.pinned.checked.prog.wideKeysFrom ·)))=true:=by kernel_rfl
theorem b5w:(Rows.spaceComposedSpec.vars.all (Tryz.pinned.checked.prog.varReadable ·))=true:=by kernel_rfl
theorem b5x:(Tryz.f8.resultTypes.all (fun t=>Tryz.pinned.checked.prog.readableRec t && decide (t < Tryz.pinned.checked.prog.types.size)))=true:=by kernel_rfl
theorem b5y:((Rows.spaceComposedRow.ifacesOut == Tryz.f8.resultTypes.toList.any (Tryz.pinned.checked.prog.ifacesRec ·)))=true:=by kernel_rfl
theorem b5z:((Rows.spaceComposedRow.loopsOut == Tryz.f8.resultTypes.toList.any (Tryz.pinned.checked.prog.loopsFrom ·)))=true:=by kernel_rfl
theorem b50:((Rows.spaceComposedRow.plainKeys == Tryz.pinned.checked.prog.plainKeys))=true:=by kernel_rfl
theorem b51:(Rows.spaceComposedRow.shortTexts.isNone)=true:=by kernel_rfl
theorem b52:(Tryz.pinned.checked.prog.stopsHeard)=true:=by kernel_rfl
theorem b53:(Tryz.pinned.checked.prog.mayEnter)=true:=by kernel_rfl
theorem b54:((Rows.spaceComposedRow.lifted == Tryz.pinned.checked.prog.liftsFinal))=true:=by kernel_rfl
theorem b55:((Tryz.pinned.checked.prog.make == some Rows.spaceComposedRow.make))=true:=by kernel_rfl
theorem b56:((Rows.spaceComposedRow.kinds == (if Rows.spaceComposedRow.domain.isEmpty then [] else Tryz.f8.params.toList.map fun t=>match Tryz.pinned.checked.prog.underlying t with|some (.int k)=>some k|_=>none)))=true:=by kernel_rfl
theorem b57:((Rows.spaceComposedRow.pinned == Rows.spaceComposedRow.pinnedBy))=true:=by kernel_rfl
theorem b58:((Rows.spaceComposedRow.veiled == (Tryz.f8.params.toList++Rows.spaceComposedSpec.plain.varTypes Tryz.pinned.checked.prog++Tryz.f8.resultTypes.toList).any (Tryz.pinned.checked.prog.veiledRec ·)))=true:=by kernel_rfl
theorem b59:(Rows.spaceComposedRow.veiledFits Tryz.pinned.checked.prog Tryz.f8.params.toList (Tryz.f8.params.toList++Rows.spaceComposedSpec.plain.varTypes Tryz.pinned.checked.prog++Tryz.f8.resultTypes.toList))=true:=by kernel_rfl
end Go.Proofs.YtoiejgkkcfkliaaGreatDoor
end
