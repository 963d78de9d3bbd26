/- Space statement SpaceHalves holds for every input: the law returns true and its arguments read as before. -/
import Derived.Test.YtoiejgkkcfkliaaGreatDoorXKHalvesF
import Derived.Test.YtoiejgkkcfkliaaGreatDoorXKHalvesK
set_option linter.unusedVariables false
set_option linter.unusedSimpArgs false
section
set_option maxRecDepth 1000000
namespace Go.Proofs.YtoiejgkkcfkliaaGreatDoor
open Go Go.Ax Go.ChangeShapes Go.WideShapes Go.ChangeAt Go.RowKit Go.ChangeMaps
theorem spaceHalves_closed:joinedFacts Tryz.pinned.checked.prog 5 Tryz.f5 Rows.spaceHalvesSpec Rows.spaceHalvesRow=true:=by
  unfold joinedFacts
  exact (and2 (and2 (and2 (and2 (and2 (and2 (and2 (and2 (and2 (and2 (and2 (and2 (and2 (and2 (and2 (and2 (and2 (and2 (and2 (and2 (and2 (and2 (and2 (and2 (and2 (and2 (and2 (and2 (and2 (and2 (and2 spaceHalves_k0 spaceHalves_k1) spaceHalves_k2) spaceHalves_k3) spaceHalves_k4) spaceHalves_k5) spaceHalves_k6) spaceHalves_k7) spaceHalves_k8) spaceHalves_k9) spaceHalves_k10) spaceHalves_k11) spaceHalves_k12) spaceHalves_k13) spaceHalves_k14) spaceHalves_k15) spaceHalves_k16) spaceHalves_k17) spaceHalves_k18) spaceHalves_k19) spaceHalves_k20) spaceHalves_k21) spaceHalves_k22) spaceHalves_k23) spaceHalves_k24) spaceHalves_k25) spaceHalves_k26) spaceHalves_k27) spaceHalves_k28) spaceHalves_k29) spaceHalves_k30) spaceHalves_k31)
theorem spaceHalves_named:Tryz.pinned.checked.prog.funcNamed Rows.spaceHalvesRow.func=some 5:=by kernel_rfl
theorem spaceHalves_inst:Tryz.f5.isInstance Tryz.pinned.checked.prog Rows.spaceHalvesRow.origin Rows.spaceHalvesRow.targs:=of_decide_eq_true (by kernel_rfl)
theorem spaceHalves_wrap:Tryz.f5.isWrapper Tryz.pinned.checked.prog Rows.spaceHalvesRow.wrapper Rows.spaceHalvesRow.mainSum:=by
  unfold Func.isWrapper;first|(rw [if_pos (by decide +kernel)];kernel_rfl)|(rw [if_neg (by decide +kernel)];exact ⟨rfl,rfl⟩)
theorem spaceHalves_holds:Rows.SpaceHalvesSaid:=
  OpenClaim.holds_of_wide 5 Tryz.f5 rfl rfl rfl rfl rfl rfl rfl ⟨rfl,rfl,rfl,rfl,rfl⟩ rfl rfl rfl rfl rfl spaceHalves_named Tryz.func5 spaceHalves_closed spaceHalves_inst spaceHalves_wrap
    (fun os started H enc _=>spaceHalves_lifted os started H enc)
theorem spaceHalves_wf:Rows.spaceHalvesRow.wfByText (OpenSpec.ofChange Rows.spaceHalvesSpec)=true:=by kernel_rfl
theorem spaceHalves_looks:true=Tryz.pinned.checked.prog.looks []:=by kernel_rfl
theorem spaceHalves_main:Tryz.pinned.checked.prog.mainIs=some (true,"81da6fbd9c49cf521be0089a49d14cb5087461cb03ea0b319b989e6d81769743".toList):=by kernel_rfl
theorem spaceHalves_goes:false=Rows.spaceHalvesRow.goesBy Tryz.pinned.checked.prog:=by kernel_rfl
theorem spaceHalves_stand:([42,37,26].all fun u=>!Tryz.pinned.checked.prog.wantsStandIn u)=true:=by kernel_rfl
theorem spaceHalves_card:Rows.SpaceHalvesCardSaid:=
  Claim7.holds_tied_plain_at .later [] [.data,.data,.data,.sentinel,.sentinel] true (true,"81da6fbd9c49cf521be0089a49d14cb5087461cb03ea0b319b989e6d81769743") true
    spaceHalves_holds (fun _ h=>by cases h) spaceHalves_wf (fun _ h=>by cases h) spaceHalves_row_tie rfl ⟨rfl,rfl⟩ spaceHalves_main rfl
    (fun f fn hf hfn=>by
      obtain rfl:f=5:=(Option.some.inj (spaceHalves_named.symm.trans hf)).symm
      obtain rfl:fn=Tryz.f5:=(Option.some.inj (Tryz.func5.symm.trans hfn)).symm
      exact ⟨spaceHalves_looks,fun j t ht=>by
        rw [Tryz.params5] at ht
        have hm:t∈[42,37,26]:=by simpa using Array.mem_of_getElem? ht
        exact (show Tryz.pinned.checked.prog.wantsStandIn t=false by simpa using List.all_eq_true.1 spaceHalves_stand t hm)⟩)
    spaceHalves_goes
end Go.Proofs.YtoiejgkkcfkliaaGreatDoor
end
