/- Space statement SpaceCoordinates holds for every input: the law returns true and its arguments read as before. -/
import Derived.Test.YtoiejgkkcfkliaaGreatDoorXKCoordinatesF
import Derived.Test.YtoiejgkkcfkliaaGreatDoorXKCoordinatesK
set_option linter.unusedVariables false
set_option linter.unusedSimpArgs false
section
set_option maxRecDepth 1000000
namespace Go.Proofs.YtoiejgkkcfkliaaGreatDoor
open Go Go.Ax Go.ChangeShapes Go.WideShapes Go.ChangeAt Go.RowKit Go.ChangeMaps
theorem spaceCoordinates_closed:joinedFacts Tryz.pinned.checked.prog 11 Tryz.f11 Rows.spaceCoordinatesSpec Rows.spaceCoordinatesRow=true:=by
  unfold joinedFacts
  exact (and2 (and2 (and2 (and2 (and2 (and2 (and2 (and2 (and2 (and2 (and2 (and2 (and2 (and2 (and2 (and2 (and2 (and2 (and2 (and2 (and2 (and2 (and2 (and2 (and2 (and2 (and2 (and2 (and2 (and2 (and2 spaceCoordinates_k0 spaceCoordinates_k1) spaceCoordinates_k2) spaceCoordinates_k3) spaceCoordinates_k4) spaceCoordinates_k5) spaceCoordinates_k6) spaceCoordinates_k7) spaceCoordinates_k8) spaceCoordinates_k9) spaceCoordinates_k10) spaceCoordinates_k11) spaceCoordinates_k12) spaceCoordinates_k13) spaceCoordinates_k14) spaceCoordinates_k15) spaceCoordinates_k16) spaceCoordinates_k17) spaceCoordinates_k18) spaceCoordinates_k19) spaceCoordinates_k20) spaceCoordinates_k21) spaceCoordinates_k22) spaceCoordinates_k23) spaceCoordinates_k24) spaceCoordinates_k25) spaceCoordinates_k26) spaceCoordinates_k27) spaceCoordinates_k28) spaceCoordinates_k29) spaceCoordinates_k30) spaceCoordinates_k31)
theorem spaceCoordinates_named:Tryz.pinned.checked.prog.funcNamed Rows.spaceCoordinatesRow.func=some 11:=by kernel_rfl
theorem spaceCoordinates_inst:Tryz.f11.isInstance Tryz.pinned.checked.prog Rows.spaceCoordinatesRow.origin Rows.spaceCoordinatesRow.targs:=of_decide_eq_true (by kernel_rfl)
theorem spaceCoordinates_wrap:Tryz.f11.isWrapper Tryz.pinned.checked.prog Rows.spaceCoordinatesRow.wrapper Rows.spaceCoordinatesRow.mainSum:=by
  unfold Func.isWrapper;first|(rw [if_pos (by decide +kernel)];kernel_rfl)|(rw [if_neg (by decide +kernel)];exact ⟨rfl,rfl⟩)
theorem spaceCoordinates_holds:Rows.SpaceCoordinatesSaid:=
  OpenClaim.holds_of_wide 11 Tryz.f11 rfl rfl rfl rfl rfl rfl rfl ⟨rfl,rfl,rfl,rfl,rfl⟩ rfl rfl rfl rfl rfl spaceCoordinates_named Tryz.func11 spaceCoordinates_closed spaceCoordinates_inst spaceCoordinates_wrap
    (fun os started H enc _=>spaceCoordinates_lifted os started H enc)
theorem spaceCoordinates_wf:Rows.spaceCoordinatesRow.wfByText (OpenSpec.ofChange Rows.spaceCoordinatesSpec)=true:=by kernel_rfl
theorem spaceCoordinates_looks:true=Tryz.pinned.checked.prog.looks []:=by kernel_rfl
theorem spaceCoordinates_main:Tryz.pinned.checked.prog.mainIs=some (true,"81da6fbd9c49cf521be0089a49d14cb5087461cb03ea0b319b989e6d81769743".toList):=by kernel_rfl
theorem spaceCoordinates_goes:false=Rows.spaceCoordinatesRow.goesBy Tryz.pinned.checked.prog:=by kernel_rfl
theorem spaceCoordinates_stand:([39,37,42].all fun u=>!Tryz.pinned.checked.prog.wantsStandIn u)=true:=by kernel_rfl
theorem spaceCoordinates_card:Rows.SpaceCoordinatesCardSaid:=
  Claim7.holds_tied_plain_at .later [] [.data,.data,.data,.sentinel,.sentinel] true (true,"81da6fbd9c49cf521be0089a49d14cb5087461cb03ea0b319b989e6d81769743") true
    spaceCoordinates_holds (fun _ h=>by cases h) spaceCoordinates_wf (fun _ h=>by cases h) spaceCoordinates_row_tie rfl ⟨rfl,rfl⟩ spaceCoordinates_main rfl
    (fun f fn hf hfn=>by
      obtain rfl:f=11:=(Option.some.inj (spaceCoordinates_named.symm.trans hf)).symm
      obtain rfl:fn=Tryz.f11:=(Option.some.inj (Tryz.func11.symm.trans hfn)).symm
      exact ⟨spaceCoordinates_looks,fun j t ht=>by
        rw [Tryz.params11] at ht
        have hm:t∈[39,37,42]:=by simpa using Array.mem_of_getElem? ht
        exact (show Tryz.pinned.checked.prog.wantsStandIn t=false by simpa using List.all_eq_true.1 spaceCoordinates_stand t hm)⟩)
    spaceCoordinates_goes
end Go.Proofs.YtoiejgkkcfkliaaGreatDoor
end
