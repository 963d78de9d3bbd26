/- Space statement SpaceTexts holds for every input: the law returns true and its arguments read as before. -/
import Derived.Test.YtoiejgkkcfkliaaGreatDoorXKTextsF
import Derived.Test.YtoiejgkkcfkliaaGreatDoorXKTextsK
set_option linter.unusedVariables false
set_option linter.unusedSimpArgs false
section
set_option maxRecDepth 1000000
namespace Go.Proofs.YtoiejgkkcfkliaaGreatDoor
open Go Go.Ax Go.ChangeShapes Go.WideShapes Go.ChangeAt Go.RowKit Go.ChangeMaps
theorem spaceTexts_closed:joinedFacts Tryz.pinned.checked.prog 3 Tryz.f3 Rows.spaceTextsSpec Rows.spaceTextsRow=true:=by
  unfold joinedFacts
  exact (and2 (and2 (and2 (and2 (and2 (and2 (and2 (and2 (and2 (and2 (and2 (and2 (and2 (and2 (and2 (and2 (and2 (and2 (and2 (and2 (and2 (and2 (and2 (and2 (and2 (and2 (and2 (and2 (and2 (and2 (and2 spaceTexts_k0 spaceTexts_k1) spaceTexts_k2) spaceTexts_k3) spaceTexts_k4) spaceTexts_k5) spaceTexts_k6) spaceTexts_k7) spaceTexts_k8) spaceTexts_k9) spaceTexts_k10) spaceTexts_k11) spaceTexts_k12) spaceTexts_k13) spaceTexts_k14) spaceTexts_k15) spaceTexts_k16) spaceTexts_k17) spaceTexts_k18) spaceTexts_k19) spaceTexts_k20) spaceTexts_k21) spaceTexts_k22) spaceTexts_k23) spaceTexts_k24) spaceTexts_k25) spaceTexts_k26) spaceTexts_k27) spaceTexts_k28) spaceTexts_k29) spaceTexts_k30) spaceTexts_k31)
theorem spaceTexts_named:Tryz.pinned.checked.prog.funcNamed Rows.spaceTextsRow.func=some 3:=by kernel_rfl
theorem spaceTexts_inst:Tryz.f3.isInstance Tryz.pinned.checked.prog Rows.spaceTextsRow.origin Rows.spaceTextsRow.targs:=of_decide_eq_true (by kernel_rfl)
theorem spaceTexts_wrap:Tryz.f3.isWrapper Tryz.pinned.checked.prog Rows.spaceTextsRow.wrapper Rows.spaceTextsRow.mainSum:=by
  unfold Func.isWrapper;first|(rw [if_pos (by decide +kernel)];kernel_rfl)|(rw [if_neg (by decide +kernel)];exact ⟨rfl,rfl⟩)
theorem spaceTexts_holds:Rows.SpaceTextsSaid:=
  OpenClaim.holds_of_wide 3 Tryz.f3 rfl rfl rfl rfl rfl rfl rfl ⟨rfl,rfl,rfl,rfl,rfl⟩ rfl rfl rfl rfl rfl spaceTexts_named Tryz.func3 spaceTexts_closed spaceTexts_inst spaceTexts_wrap
    (fun os started H enc _=>spaceTexts_lifted os started H enc)
theorem spaceTexts_wf:Rows.spaceTextsRow.wfByText (OpenSpec.ofChange Rows.spaceTextsSpec)=true:=by kernel_rfl
theorem spaceTexts_looks:true=Tryz.pinned.checked.prog.looks []:=by kernel_rfl
theorem spaceTexts_main:Tryz.pinned.checked.prog.mainIs=some (true,"81da6fbd9c49cf521be0089a49d14cb5087461cb03ea0b319b989e6d81769743".toList):=by kernel_rfl
theorem spaceTexts_goes:false=Rows.spaceTextsRow.goesBy Tryz.pinned.checked.prog:=by kernel_rfl
theorem spaceTexts_stand:([9,3,3].all fun u=>!Tryz.pinned.checked.prog.wantsStandIn u)=true:=by kernel_rfl
theorem spaceTexts_card:Rows.SpaceTextsCardSaid:=
  Claim7.holds_tied_plain_at .later [] [.data,.data,.data,.sentinel,.sentinel] true (true,"81da6fbd9c49cf521be0089a49d14cb5087461cb03ea0b319b989e6d81769743") true
    spaceTexts_holds (fun _ h=>by cases h) spaceTexts_wf (fun _ h=>by cases h) spaceTexts_row_tie rfl ⟨rfl,rfl⟩ spaceTexts_main rfl
    (fun f fn hf hfn=>by
      obtain rfl:f=3:=(Option.some.inj (spaceTexts_named.symm.trans hf)).symm
      obtain rfl:fn=Tryz.f3:=(Option.some.inj (Tryz.func3.symm.trans hfn)).symm
      exact ⟨spaceTexts_looks,fun j t ht=>by
        rw [Tryz.params3] at ht
        have hm:t∈[9,3,3]:=by simpa using Array.mem_of_getElem? ht
        exact (show Tryz.pinned.checked.prog.wantsStandIn t=false by simpa using List.all_eq_true.1 spaceTexts_stand t hm)⟩)
    spaceTexts_goes
end Go.Proofs.YtoiejgkkcfkliaaGreatDoor
end
