/- Space statement SpaceFrames holds for every input: the law returns true and its arguments read as before. -/
import Derived.Test.YtoiejgkkcfkliaaGreatDoorXKFramesF
import Derived.Test.YtoiejgkkcfkliaaGreatDoorXKFramesK
set_option linter.unusedVariables false
set_option linter.unusedSimpArgs false
section
set_option maxRecDepth 1000000
namespace Go.Proofs.YtoiejgkkcfkliaaGreatDoor
open Go Go.Ax Go.ChangeShapes Go.WideShapes Go.ChangeAt Go.RowKit Go.ChangeMaps
theorem spaceFrames_closed:joinedFacts Tryz.pinned.checked.prog 13 Tryz.f13 Rows.spaceFramesSpec Rows.spaceFramesRow=true:=by
  unfold joinedFacts
  exact (and2 (and2 (and2 (and2 (and2 (and2 (and2 (and2 (and2 (and2 (and2 (and2 (and2 (and2 (and2 (and2 (and2 (and2 (and2 (and2 (and2 (and2 (and2 (and2 (and2 (and2 (and2 (and2 (and2 (and2 (and2 spaceFrames_k0 spaceFrames_k1) spaceFrames_k2) spaceFrames_k3) spaceFrames_k4) spaceFrames_k5) spaceFrames_k6) spaceFrames_k7) spaceFrames_k8) spaceFrames_k9) spaceFrames_k10) spaceFrames_k11) spaceFrames_k12) spaceFrames_k13) spaceFrames_k14) spaceFrames_k15) spaceFrames_k16) spaceFrames_k17) spaceFrames_k18) spaceFrames_k19) spaceFrames_k20) spaceFrames_k21) spaceFrames_k22) spaceFrames_k23) spaceFrames_k24) spaceFrames_k25) spaceFrames_k26) spaceFrames_k27) spaceFrames_k28) spaceFrames_k29) spaceFrames_k30) spaceFrames_k31)
theorem spaceFrames_named:Tryz.pinned.checked.prog.funcNamed Rows.spaceFramesRow.func=some 13:=by kernel_rfl
theorem spaceFrames_inst:Tryz.f13.isInstance Tryz.pinned.checked.prog Rows.spaceFramesRow.origin Rows.spaceFramesRow.targs:=of_decide_eq_true (by kernel_rfl)
theorem spaceFrames_wrap:Tryz.f13.isWrapper Tryz.pinned.checked.prog Rows.spaceFramesRow.wrapper Rows.spaceFramesRow.mainSum:=by
  unfold Func.isWrapper;first|(rw [if_pos (by decide +kernel)];kernel_rfl)|(rw [if_neg (by decide +kernel)];exact ⟨rfl,rfl⟩)
theorem spaceFrames_holds:Rows.SpaceFramesSaid:=
  OpenClaim.holds_of_wide 13 Tryz.f13 rfl rfl rfl rfl rfl rfl rfl ⟨rfl,rfl,rfl,rfl,rfl⟩ rfl rfl rfl rfl rfl spaceFrames_named Tryz.func13 spaceFrames_closed spaceFrames_inst spaceFrames_wrap
    (fun os started H enc _=>spaceFrames_lifted os started H enc)
theorem spaceFrames_wf:Rows.spaceFramesRow.wfByText (OpenSpec.ofChange Rows.spaceFramesSpec)=true:=by kernel_rfl
theorem spaceFrames_looks:true=Tryz.pinned.checked.prog.looks []:=by kernel_rfl
theorem spaceFrames_main:Tryz.pinned.checked.prog.mainIs=some (true,"81da6fbd9c49cf521be0089a49d14cb5087461cb03ea0b319b989e6d81769743".toList):=by kernel_rfl
theorem spaceFrames_goes:false=Rows.spaceFramesRow.goesBy Tryz.pinned.checked.prog:=by kernel_rfl
theorem spaceFrames_stand:([39,37].all fun u=>!Tryz.pinned.checked.prog.wantsStandIn u)=true:=by kernel_rfl
theorem spaceFrames_card:Rows.SpaceFramesCardSaid:=
  Claim7.holds_tied_plain_at .later [] [.data,.data,.data,.sentinel,.sentinel] true (true,"81da6fbd9c49cf521be0089a49d14cb5087461cb03ea0b319b989e6d81769743") true
    spaceFrames_holds (fun _ h=>by cases h) spaceFrames_wf (fun _ h=>by cases h) spaceFrames_row_tie rfl ⟨rfl,rfl⟩ spaceFrames_main rfl
    (fun f fn hf hfn=>by
      obtain rfl:f=13:=(Option.some.inj (spaceFrames_named.symm.trans hf)).symm
      obtain rfl:fn=Tryz.f13:=(Option.some.inj (Tryz.func13.symm.trans hfn)).symm
      exact ⟨spaceFrames_looks,fun j t ht=>by
        rw [Tryz.params13] at ht
        have hm:t∈[39,37]:=by simpa using Array.mem_of_getElem? ht
        exact (show Tryz.pinned.checked.prog.wantsStandIn t=false by simpa using List.all_eq_true.1 spaceFrames_stand t hm)⟩)
    spaceFrames_goes
end Go.Proofs.YtoiejgkkcfkliaaGreatDoor
end
