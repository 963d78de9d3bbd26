/- Lemmas on the program and its library: part XKFeetK. -/
import Derived.ProofKit
import Derived.LaidMore
import Derived.OpenShut
import Derived.MakeChecks
import Derived.LaidHandle
import Derived.SevenTiedAt
import Derived.Stop.LaidErr
import Derived.Lib.LaidTab
import Derived.Test.YtoiejgkkcfkliaaGreatDoorTie
import Derived.Test.YtoiejgkkcfkliaaGreatDoorCards
set_option linter.unusedVariables false
set_option linter.unusedSimpArgs false
section
namespace Go.Proofs.YtoiejgkkcfkliaaGreatDoor
open Go Go.ChangeShapes Go.WideShapes Go.ChangeAt Go.RowKit Go.ChangeMaps
theorem spaceFeet_k0:(Rows.spaceFeetRow.wf (OpenSpec.ofChange Rows.spaceFeetSpec))=true:=by kernel_rfl
theorem spaceFeet_k1:(laidOutB Tryz.pinned.checked.prog)=true:=by kernel_rfl
theorem spaceFeet_k2:(mapsRowed Tryz.pinned.checked.prog)=true:=by kernel_rfl
theorem spaceFeet_k3:(Tryz.f6.params.all (Tryz.pinned.checked.prog.readableRec ·))=true:=by kernel_rfl
theorem spaceFeet_k4:(namedTie Tryz.pinned.checked.prog Rows.spaceFeetRow.named Rows.spaceFeetSpec.vars)=true:=by kernel_rfl
theorem spaceFeet_k5:((Rows.spaceFeetRow.stops == []))=true:=by kernel_rfl
theorem spaceFeet_k6:((Tryz.pinned.checked.prog.stops == []))=true:=by kernel_rfl
theorem spaceFeet_k7:((Rows.spaceFeetRow.knobs == []))=true:=by kernel_rfl
theorem spaceFeet_k8:((Tryz.pinned.checked.prog.stopKnobs == []))=true:=by kernel_rfl
theorem spaceFeet_k9:((Rows.spaceFeetRow.inPlace == Tryz.pinned.checked.prog.inPlace 6))=true:=by kernel_rfl
theorem spaceFeet_k10:((Rows.spaceFeetRow.unfollowed == Tryz.pinned.checked.prog.unfollowed 6))=true:=by kernel_rfl
theorem spaceFeet_k11:((Rows.spaceFeetRow.recurses == Tryz.pinned.checked.prog.recurses 6))=true:=by kernel_rfl
theorem spaceFeet_k12:((Rows.spaceFeetRow.named == Tryz.pinned.checked.prog.varsNamed 6))=true:=by kernel_rfl
theorem spaceFeet_k13:((Rows.spaceFeetRow.maps == (Tryz.f6.params.toList++Rows.spaceFeetSpec.plain.varTypes Tryz.pinned.checked.prog).any (Tryz.pinned.checked.prog.mapsRec ·)))=true:=by kernel_rfl
theorem spaceFeet_k14:((Rows.spaceFeetRow.ifaces == (Tryz.f6.params.toList++Rows.spaceFeetSpec.plain.varTypes Tryz.pinned.checked.prog).any (Tryz.pinned.checked.prog.ifacesRec ·)))=true:=by kernel_rfl
theorem spaceFeet_k15:((Rows.spaceFeetRow.mapsOut == Tryz.pinned.checked.prog.mapsAmong Tryz.f6.resultTypes.toList))=true:=by kernel_rfl
theorem spaceFeet_k16:((Rows.spaceFeetRow.loops == (Tryz.f6.params.toList++Rows.spaceFeetSpec.plain.varTypes Tryz.pinned.checked.prog).any (Tryz.pinned.checked.prog.loopsFrom ·)))=true:=by kernel_rfl
theorem spaceFeet_k17:((Rows.spaceFeetRow.wideKeys == (Tryz.f6.params.toList++Rows.spaceFeetSpec.plain.varTypes Tryz.pinned.checked.prog++Tryz.f6.resultTypes.toList).any (Tryz.pinned.checked.prog.wideKeysFrom ·)))=true:=by kernel_rfl
theorem spaceFeet_k18:(Rows.spaceFeetSpec.vars.all (Tryz.pinned.checked.prog.varReadable ·))=true:=by kernel_rfl
theorem spaceFeet_k19:(Tryz.f6.resultTypes.all (fun t=>Tryz.pinned.checked.prog.readableRec t && decide (t < Tryz.pinned.checked.prog.types.size)))=true:=by kernel_rfl
theorem spaceFeet_k20:((Rows.spaceFeetRow.ifacesOut == Tryz.f6.resultTypes.toList.any (Tryz.pinned.checked.prog.ifacesRec ·)))=true:=by kernel_rfl
theorem spaceFeet_k21:((Rows.spaceFeetRow.loopsOut == Tryz.f6.resultTypes.toList.any (Tryz.pinned.checked.prog.loopsFrom ·)))=true:=by kernel_rfl
theorem spaceFeet_k22:((Rows.spaceFeetRow.plainKeys == Tryz.pinned.checked.prog.plainKeys))=true:=by kernel_rfl
theorem spaceFeet_k23:(Rows.spaceFeetRow.shortTexts.isNone)=true:=by kernel_rfl
theorem spaceFeet_k24:(Tryz.pinned.checked.prog.stopsHeard)=true:=by kernel_rfl
theorem spaceFeet_k25:(Tryz.pinned.checked.prog.mayEnter)=true:=by kernel_rfl
theorem spaceFeet_k26:((Rows.spaceFeetRow.lifted == Tryz.pinned.checked.prog.liftsFinal))=true:=by kernel_rfl
theorem spaceFeet_k27:((Tryz.pinned.checked.prog.make == some Rows.spaceFeetRow.make))=true:=by kernel_rfl
theorem spaceFeet_k28:((Rows.spaceFeetRow.kinds == (if Rows.spaceFeetRow.domain.isEmpty then [] else Tryz.f6.params.toList.map fun t=>match Tryz.pinned.checked.prog.underlying t with|some (.int k)=>some k|_=>none)))=true:=by kernel_rfl
theorem spaceFeet_k29:((Rows.spaceFeetRow.pinned == Rows.spaceFeetRow.pinnedBy))=true:=by kernel_rfl
theorem spaceFeet_k30:((Rows.spaceFeetRow.veiled == (Tryz.f6.params.toList++Rows.spaceFeetSpec.plain.varTypes Tryz.pinned.checked.prog++Tryz.f6.resultTypes.toList).any (Tryz.pinned.checked.prog.veiledRec ·)))=true:=by kernel_rfl
theorem spaceFeet_k31:(Rows.spaceFeetRow.veiledFits Tryz.pinned.checked.prog Tryz.f6.params.toList (Tryz.f6.params.toList++Rows.spaceFeetSpec.plain.varTypes Tryz.pinned.checked.prog++Tryz.f6.resultTypes.toList))=true:=by kernel_rfl
end Go.Proofs.YtoiejgkkcfkliaaGreatDoor
end
