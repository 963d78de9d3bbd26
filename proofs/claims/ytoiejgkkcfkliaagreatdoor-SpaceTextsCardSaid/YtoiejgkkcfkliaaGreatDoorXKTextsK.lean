/- Lemmas on the program and its library: part XKTextsK. -/
import Derived.ProofKit
import Derived.LaidMore
import Derived.OpenShut
import Derived.MakeChecks
import Derived.LaidHandle
import Derived.SevenTiedAt
import Derived.Stop.LaidErr
import Derived.Lib.LaidTab
import Derived.Test.YtoiejgkkcfkliaaGreatDoorTie
import Derived.Test.YtoiejgkkcfkliaaGreatDoorCards
set_option linter.unusedVariables false
set_option linter.unusedSimpArgs false
section
namespace Go.Proofs.YtoiejgkkcfkliaaGreatDoor
open Go Go.ChangeShapes Go.WideShapes Go.ChangeAt Go.RowKit Go.ChangeMaps
theorem spaceTexts_k0:(Rows.spaceTextsRow.wf (OpenSpec.ofChange Rows.spaceTextsSpec))=true:=by kernel_rfl
theorem spaceTexts_k1:(laidOutB Tryz.pinned.checked.prog)=true:=by kernel_rfl
theorem spaceTexts_k2:(mapsRowed Tryz.pinned.checked.prog)=true:=by kernel_rfl
theorem spaceTexts_k3:(Tryz.f3.params.all (Tryz.pinned.checked.prog.readableRec ·))=true:=by kernel_rfl
theorem spaceTexts_k4:(namedTie Tryz.pinned.checked.prog Rows.spaceTextsRow.named Rows.spaceTextsSpec.vars)=true:=by kernel_rfl
theorem spaceTexts_k5:((Rows.spaceTextsRow.stops == []))=true:=by kernel_rfl
theorem spaceTexts_k6:((Tryz.pinned.checked.prog.stops == []))=true:=by kernel_rfl
theorem spaceTexts_k7:((Rows.spaceTextsRow.knobs == []))=true:=by kernel_rfl
theorem spaceTexts_k8:((Tryz.pinned.checked.prog.stopKnobs == []))=true:=by kernel_rfl
theorem spaceTexts_k9:((Rows.spaceTextsRow.inPlace == Tryz.pinned.checked.prog.inPlace 3))=true:=by kernel_rfl
theorem spaceTexts_k10:((Rows.spaceTextsRow.unfollowed == Tryz.pinned.checked.prog.unfollowed 3))=true:=by kernel_rfl
theorem spaceTexts_k11:((Rows.spaceTextsRow.recurses == Tryz.pinned.checked.prog.recurses 3))=true:=by kernel_rfl
theorem spaceTexts_k12:((Rows.spaceTextsRow.named == Tryz.pinned.checked.prog.varsNamed 3))=true:=by kernel_rfl
theorem spaceTexts_k13:((Rows.spaceTextsRow.maps == (Tryz.f3.params.toList++Rows.spaceTextsSpec.plain.varTypes Tryz.pinned.checked.prog).any (Tryz.pinned.checked.prog.mapsRec ·)))=true:=by kernel_rfl
theorem spaceTexts_k14:((Rows.spaceTextsRow.ifaces == (Tryz.f3.params.toList++Rows.spaceTextsSpec.plain.varTypes Tryz.pinned.checked.prog).any (Tryz.pinned.checked.prog.ifacesRec ·)))=true:=by kernel_rfl
theorem spaceTexts_k15:((Rows.spaceTextsRow.mapsOut == Tryz.pinned.checked.prog.mapsAmong Tryz.f3.resultTypes.toList))=true:=by kernel_rfl
theorem spaceTexts_k16:((Rows.spaceTextsRow.loops == (Tryz.f3.params.toList++Rows.spaceTextsSpec.plain.varTypes Tryz.pinned.checked.prog).any (Tryz.pinned.checked.prog.loopsFrom ·)))=true:=by kernel_rfl
theorem spaceTexts_k17:((Rows.spaceTextsRow.wideKeys == (Tryz.f3.params.toList++Rows.spaceTextsSpec.plain.varTypes Tryz.pinned.checked.prog++Tryz.f3.resultTypes.toList).any (Tryz.pinned.checked.prog.wideKeysFrom ·)))=true:=by kernel_rfl
theorem spaceTexts_k18:(Rows.spaceTextsSpec.vars.all (Tryz.pinned.checked.prog.varReadable ·))=true:=by kernel_rfl
theorem spaceTexts_k19:(Tryz.f3.resultTypes.all (fun t=>Tryz.pinned.checked.prog.readableRec t && decide (t < Tryz.pinned.checked.prog.types.size)))=true:=by kernel_rfl
theorem spaceTexts_k20:((Rows.spaceTextsRow.ifacesOut == Tryz.f3.resultTypes.toList.any (Tryz.pinned.checked.prog.ifacesRec ·)))=true:=by kernel_rfl
theorem spaceTexts_k21:((Rows.spaceTextsRow.loopsOut == Tryz.f3.resultTypes.toList.any (Tryz.pinned.checked.prog.loopsFrom ·)))=true:=by kernel_rfl
theorem spaceTexts_k22:((Rows.spaceTextsRow.plainKeys == Tryz.pinned.checked.prog.plainKeys))=true:=by kernel_rfl
theorem spaceTexts_k23:(Rows.spaceTextsRow.shortTexts.isNone)=true:=by kernel_rfl
theorem spaceTexts_k24:(Tryz.pinned.checked.prog.stopsHeard)=true:=by kernel_rfl
theorem spaceTexts_k25:(Tryz.pinned.checked.prog.mayEnter)=true:=by kernel_rfl
theorem spaceTexts_k26:((Rows.spaceTextsRow.lifted == Tryz.pinned.checked.prog.liftsFinal))=true:=by kernel_rfl
theorem spaceTexts_k27:((Tryz.pinned.checked.prog.make == some Rows.spaceTextsRow.make))=true:=by kernel_rfl
theorem spaceTexts_k28:((Rows.spaceTextsRow.kinds == (if Rows.spaceTextsRow.domain.isEmpty then [] else Tryz.f3.params.toList.map fun t=>match Tryz.pinned.checked.prog.underlying t with|some (.int k)=>some k|_=>none)))=true:=by kernel_rfl
theorem spaceTexts_k29:((Rows.spaceTextsRow.pinned == Rows.spaceTextsRow.pinnedBy))=true:=by kernel_rfl
theorem spaceTexts_k30:((Rows.spaceTextsRow.veiled == (Tryz.f3.params.toList++Rows.spaceTextsSpec.plain.varTypes Tryz.pinned.checked.prog++Tryz.f3.resultTypes.toList).any (Tryz.pinned.checked.prog.veiledRec ·)))=true:=by kernel_rfl
theorem spaceTexts_k31:(Rows.spaceTextsRow.veiledFits Tryz.pinned.checked.prog Tryz.f3.params.toList (Tryz.f3.params.toList++Rows.spaceTextsSpec.plain.varTypes Tryz.pinned.checked.prog++Tryz.f3.resultTypes.toList))=true:=by kernel_rfl
end Go.Proofs.YtoiejgkkcfkliaaGreatDoor
end
