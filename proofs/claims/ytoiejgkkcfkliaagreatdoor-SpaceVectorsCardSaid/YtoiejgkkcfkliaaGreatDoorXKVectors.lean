/- Space statement SpaceVectors holds for every input: the law returns true and its arguments read as before. -/
import Derived.Test.YtoiejgkkcfkliaaGreatDoorXKVectorsF
import Derived.Test.YtoiejgkkcfkliaaGreatDoorXKVectorsK
set_option linter.unusedVariables false
set_option linter.unusedSimpArgs false
section
set_option maxRecDepth 1000000
namespace Go.Proofs.YtoiejgkkcfkliaaGreatDoor
open Go Go.Ax Go.ChangeShapes Go.WideShapes Go.ChangeAt Go.RowKit Go.ChangeMaps
theorem spaceVectors_closed:joinedFacts Tryz.pinned.checked.prog 16 Tryz.f16 Rows.spaceVectorsSpec Rows.spaceVectorsRow=true:=by
  unfold joinedFacts
  exact (and2 (and2 (and2 (and2 (and2 (and2 (and2 (and2 (and2 (and2 (and2 (and2 (and2 (and2 (and2 (and2 (and2 (and2 (and2 (and2 (and2 (and2 (and2 (and2 (and2 (and2 (and2 (and2 (and2 (and2 (and2 spaceVectors_k0 spaceVectors_k1) spaceVectors_k2) spaceVectors_k3) spaceVectors_k4) spaceVectors_k5) spaceVectors_k6) spaceVectors_k7) spaceVectors_k8) spaceVectors_k9) spaceVectors_k10) spaceVectors_k11) spaceVectors_k12) spaceVectors_k13) spaceVectors_k14) spaceVectors_k15) spaceVectors_k16) spaceVectors_k17) spaceVectors_k18) spaceVectors_k19) spaceVectors_k20) spaceVectors_k21) spaceVectors_k22) spaceVectors_k23) spaceVectors_k24) spaceVectors_k25) spaceVectors_k26) spaceVectors_k27) spaceVectors_k28) spaceVectors_k29) spaceVectors_k30) spaceVectors_k31)
theorem spaceVectors_named:Tryz.pinned.checked.prog.funcNamed Rows.spaceVectorsRow.func=some 16:=by kernel_rfl
theorem spaceVectors_inst:Tryz.f16.isInstance Tryz.pinned.checked.prog Rows.spaceVectorsRow.origin Rows.spaceVectorsRow.targs:=of_decide_eq_true (by kernel_rfl)
theorem spaceVectors_wrap:Tryz.f16.isWrapper Tryz.pinned.checked.prog Rows.spaceVectorsRow.wrapper Rows.spaceVectorsRow.mainSum:=by
  unfold Func.isWrapper;first|(rw [if_pos (by decide +kernel)];kernel_rfl)|(rw [if_neg (by decide +kernel)];exact ⟨rfl,rfl⟩)
theorem spaceVectors_holds:Rows.SpaceVectorsSaid:=
  OpenClaim.holds_of_wide 16 Tryz.f16 rfl rfl rfl rfl rfl rfl rfl ⟨rfl,rfl,rfl,rfl,rfl⟩ rfl rfl rfl rfl rfl spaceVectors_named Tryz.func16 spaceVectors_closed spaceVectors_inst spaceVectors_wrap
    (fun os started H enc _=>spaceVectors_lifted os started H enc)
theorem spaceVectors_wf:Rows.spaceVectorsRow.wfByText (OpenSpec.ofChange Rows.spaceVectorsSpec)=true:=by kernel_rfl
theorem spaceVectors_looks:true=Tryz.pinned.checked.prog.looks []:=by kernel_rfl
theorem spaceVectors_main:Tryz.pinned.checked.prog.mainIs=some (true,"81da6fbd9c49cf521be0089a49d14cb5087461cb03ea0b319b989e6d81769743".toList):=by kernel_rfl
theorem spaceVectors_goes:false=Rows.spaceVectorsRow.goesBy Tryz.pinned.checked.prog:=by kernel_rfl
theorem spaceVectors_stand:([37,37,26].all fun u=>!Tryz.pinned.checked.prog.wantsStandIn u)=true:=by kernel_rfl
theorem spaceVectors_card:Rows.SpaceVectorsCardSaid:=
  Claim7.holds_tied_plain_at .later [] [.data,.data,.data,.sentinel,.sentinel] true (true,"81da6fbd9c49cf521be0089a49d14cb5087461cb03ea0b319b989e6d81769743") true
    spaceVectors_holds (fun _ h=>by cases h) spaceVectors_wf (fun _ h=>by cases h) spaceVectors_row_tie rfl ⟨rfl,rfl⟩ spaceVectors_main rfl
    (fun f fn hf hfn=>by
      obtain rfl:f=16:=(Option.some.inj (spaceVectors_named.symm.trans hf)).symm
      obtain rfl:fn=Tryz.f16:=(Option.some.inj (Tryz.func16.symm.trans hfn)).symm
      exact ⟨spaceVectors_looks,fun j t ht=>by
        rw [Tryz.params16] at ht
        have hm:t∈[37,37,26]:=by simpa using Array.mem_of_getElem? ht
        exact (show Tryz.pinned.checked.prog.wantsStandIn t=false by simpa using List.all_eq_true.1 spaceVectors_stand t hm)⟩)
    spaceVectors_goes
end Go.Proofs.YtoiejgkkcfkliaaGreatDoor
end
