/- Lemmas on the program and its library: part XKPlanesK. -/
import Derived.ProofKit
import Derived.LaidMore
import Derived.OpenShut
import Derived.MakeChecks
import Derived.LaidHandle
import Derived.SevenTiedAt
import Derived.Stop.LaidErr
import Derived.Lib.LaidTab
import Derived.Test.YtoiejgkkcfkliaaGreatDoorTie
import Derived.Test.YtoiejgkkcfkliaaGreatDoorCards
set_option linter.unusedVariables false
set_option linter.unusedSimpArgs false
section
namespace Go.Proofs.YtoiejgkkcfkliaaGreatDoor
open Go Go.ChangeShapes Go.WideShapes Go.ChangeAt Go.RowKit Go.ChangeMaps
theorem spacePlanes_k0:(Rows.spacePlanesRow.wf (OpenSpec.ofChange Rows.spacePlanesSpec))=true:=by kernel_rfl
theorem spacePlanes_k1:(laidOutB Tryz.pinned.checked.prog)=true:=by kernel_rfl
theorem spacePlanes_k2:(mapsRowed Tryz.pinned.checked.prog)=true:=by kernel_rfl
theorem spacePlanes_k3:(Tryz.f14.params.all (Tryz.pinned.checked.prog.readableRec ·))=true:=by kernel_rfl
theorem spacePlanes_k4:(namedTie Tryz.pinned.checked.prog Rows.spacePlanesRow.named Rows.spacePlanesSpec.vars)=true:=by kernel_rfl
theorem spacePlanes_k5:((Rows.spacePlanesRow.stops == []))=true:=by kernel_rfl
theorem spacePlanes_k6:((Tryz.pinned.checked.prog.stops == []))=true:=by kernel_rfl
theorem spacePlanes_k7:((Rows.spacePlanesRow.knobs == []))=true:=by kernel_rfl
theorem spacePlanes_k8:((Tryz.pinned.checked.prog.stopKnobs == []))=true:=by kernel_rfl
theorem spacePlanes_k9:((Rows.spacePlanesRow.inPlace == Tryz.pinned.checked.prog.inPlace 14))=true:=by kernel_rfl
theorem spacePlanes_k10:((Rows.spacePlanesRow.unfollowed == Tryz.pinned.checked.prog.unfollowed 14))=true:=by kernel_rfl
theorem spacePlanes_k11:((Rows.spacePlanesRow.recurses == Tryz.pinned.checked.prog.recurses 14))=true:=by kernel_rfl
theorem spacePlanes_k12:((Rows.spacePlanesRow.named == Tryz.pinned.checked.prog.varsNamed 14))=true:=by kernel_rfl
theorem spacePlanes_k13:((Rows.spacePlanesRow.maps == (Tryz.f14.params.toList++Rows.spacePlanesSpec.plain.varTypes Tryz.pinned.checked.prog).any (Tryz.pinned.checked.prog.mapsRec ·)))=true:=by kernel_rfl
theorem spacePlanes_k14:((Rows.spacePlanesRow.ifaces == (Tryz.f14.params.toList++Rows.spacePlanesSpec.plain.varTypes Tryz.pinned.checked.prog).any (Tryz.pinned.checked.prog.ifacesRec ·)))=true:=by kernel_rfl
theorem spacePlanes_k15:((Rows.spacePlanesRow.mapsOut == Tryz.pinned.checked.prog.mapsAmong Tryz.f14.resultTypes.toList))=true:=by kernel_rfl
theorem spacePlanes_k16:((Rows.spacePlanesRow.loops == (Tryz.f14.params.toList++Rows.spacePlanesSpec.plain.varTypes Tryz.pinned.checked.prog).any (Tryz.pinned.checked.prog.loopsFrom ·)))=true:=by kernel_rfl
theorem spacePlanes_k17:((Rows.spacePlanesRow.wideKeys == (Tryz.f14.params.toList++Rows.spacePlanesSpec.plain.varTypes Tryz.pinned.checked.prog++Tryz.f14.resultTypes.toList).any (Tryz.pinned.checked.prog.wideKeysFrom ·)))=true:=by kernel_rfl
theorem spacePlanes_k18:(Rows.spacePlanesSpec.vars.all (Tryz.pinned.checked.prog.varReadable ·))=true:=by kernel_rfl
theorem spacePlanes_k19:(Tryz.f14.resultTypes.all (fun t=>Tryz.pinned.checked.prog.readableRec t && decide (t < Tryz.pinned.checked.prog.types.size)))=true:=by kernel_rfl
theorem spacePlanes_k20:((Rows.spacePlanesRow.ifacesOut == Tryz.f14.resultTypes.toList.any (Tryz.pinned.checked.prog.ifacesRec ·)))=true:=by kernel_rfl
theorem spacePlanes_k21:((Rows.spacePlanesRow.loopsOut == Tryz.f14.resultTypes.toList.any (Tryz.pinned.checked.prog.loopsFrom ·)))=true:=by kernel_rfl
theorem spacePlanes_k22:((Rows.spacePlanesRow.plainKeys == Tryz.pinned.checked.prog.plainKeys))=true:=by kernel_rfl
theorem spacePlanes_k23:(Rows.spacePlanesRow.shortTexts.isNone)=true:=by kernel_rfl
theorem spacePlanes_k24:(Tryz.pinned.checked.prog.stopsHeard)=true:=by kernel_rfl
theorem spacePlanes_k25:(Tryz.pinned.checked.prog.mayEnter)=true:=by kernel_rfl
theorem spacePlanes_k26:((Rows.spacePlanesRow.lifted == Tryz.pinned.checked.prog.liftsFinal))=true:=by kernel_rfl
theorem spacePlanes_k27:((Tryz.pinned.checked.prog.make == some Rows.spacePlanesRow.make))=true:=by kernel_rfl
theorem spacePlanes_k28:((Rows.spacePlanesRow.kinds == (if Rows.spacePlanesRow.domain.isEmpty then [] else Tryz.f14.params.toList.map fun t=>match Tryz.pinned.checked.prog.underlying t with|some (.int k)=>some k|_=>none)))=true:=by kernel_rfl
theorem spacePlanes_k29:((Rows.spacePlanesRow.pinned == Rows.spacePlanesRow.pinnedBy))=true:=by kernel_rfl
theorem spacePlanes_k30:((Rows.spacePlanesRow.veiled == (Tryz.f14.params.toList++Rows.spacePlanesSpec.plain.varTypes Tryz.pinned.checked.prog++Tryz.f14.resultTypes.toList).any (Tryz.pinned.checked.prog.veiledRec ·)))=true:=by kernel_rfl
theorem spacePlanes_k31:(Rows.spacePlanesRow.veiledFits Tryz.pinned.checked.prog Tryz.f14.params.toList (Tryz.f14.params.toList++Rows.spacePlanesSpec.plain.varTypes Tryz.pinned.checked.prog++Tryz.f14.resultTypes.toList))=true:=by kernel_rfl
end Go.Proofs.YtoiejgkkcfkliaaGreatDoor
end
