/- Space statement SpaceMovedHalves holds for every input: the law returns true and its arguments read as before. -/
import Derived.Test.YtoiejgkkcfkliaaGreatDoorXKMovedHalvesF
import Derived.Test.YtoiejgkkcfkliaaGreatDoorXKMovedHalvesK
set_option linter.unusedVariables false
set_option linter.unusedSimpArgs false
section
set_option maxRecDepth 1000000
namespace Go.Proofs.YtoiejgkkcfkliaaGreatDoor
open Go Go.Ax Go.ChangeShapes Go.WideShapes Go.ChangeAt Go.RowKit Go.ChangeMaps
theorem a2l:joinedFacts Tryz.pinned.checked.prog 4 Tryz.f4 Rows.spaceMovedHalvesSpec Rows.spaceMovedHalvesRow=true:=by
  unfold joinedFacts
  exact (and2 (and2 (and2 (and2 (and2 (and2 (and2 (and2 (and2 (and2 (and2 (and2 (and2 (and2 (and2 (and2 (and2 (and2 (and2 (and2 (and2 (and2 (and2 (and2 (and2 (and2 (and2 (and2 (and2 (and2 (and2 spaceMovedHalves_k0 spaceMovedHalves_k1) spaceMovedHalves_k2) spaceMovedHalves_k3) spaceMovedHalves_k4) spaceMovedHalves_k5) spaceMovedHalves_k6) spaceMovedHalves_k7) spaceMovedHalves_k8) spaceMovedHalves_k9) spaceMovedHalves_k10) spaceMovedHalves_k11) spaceMovedHalves_k12) spaceMovedHalves_k13) spaceMovedHalves_k14) spaceMovedHalves_k15) spaceMovedHalves_k16) spaceMovedHalves_k17) spaceMovedHalves_k18) spaceMovedHalves_k19) spaceMovedHalves_k20) spaceMovedHalves_k21) spaceMovedHalves_k22) spaceMovedHalves_k23) spaceMovedHalves_k24) spaceMovedHalves_k25) spaceMovedHalves_k26) spaceMovedHalves_k27) spaceMovedHalves_k28) spaceMovedHalves_k29) spaceMovedHalves_k30) spaceMovedHalves_k31)
theorem a19:Tryz.pinned.checked.prog.funcNamed Rows.spaceMovedHalvesRow.func=some 4:=by kernel_rfl
theorem a2v:Tryz.f4.isInstance Tryz.pinned.checked.prog Rows.spaceMovedHalvesRow.origin Rows.spaceMovedHalvesRow.targs:=of_decide_eq_true (by kernel_rfl)
theorem a2t:Tryz.f4.isWrapper Tryz.pinned.checked.prog Rows.spaceMovedHalvesRow.wrapper Rows.spaceMovedHalvesRow.mainSum:=by
  unfold Func.isWrapper;first|(rw [if_pos (by decide +kernel)];kernel_rfl)|(rw [if_neg (by decide +kernel)];exact ⟨rfl,rfl⟩)
theorem a2n:Rows.SpaceMovedHalvesSaid:=
  OpenClaim.holds_of_wide 4 Tryz.f4 rfl rfl rfl rfl rfl rfl rfl ⟨rfl,rfl,rfl,rfl,rfl⟩ rfl rfl rfl rfl rfl a19 Tryz.func4 a2l a2v a2t
    (fun os started H enc _=>a2j os started H enc)
theorem a3a:Rows.spaceMovedHalvesRow.wfByText (OpenSpec.ofChange Rows.spaceMovedHalvesSpec)=true:=by kernel_rfl
theorem a2p:true=Tryz.pinned.checked.prog.looks []:=by kernel_rfl
theorem a2r:Tryz.pinned.checked.prog.mainIs=some (true,"81da6fbd9c49cf521be0089a49d14cb5087461cb03ea0b319b989e6d81769743".toList):=by kernel_rfl
theorem a2u:false=Rows.spaceMovedHalvesRow.goesBy Tryz.pinned.checked.prog:=by kernel_rfl
theorem a2o:([39,42].all fun u=>!Tryz.pinned.checked.prog.wantsStandIn u)=true:=by kernel_rfl
theorem spaceMovedHalves_card:Rows.SpaceMovedHalvesCardSaid:=
  Claim7.holds_tied_plain_at .later [] [.data,.data,.data,.sentinel,.sentinel] true (true,"81da6fbd9c49cf521be0089a49d14cb5087461cb03ea0b319b989e6d81769743") true
    a2n (fun _ h=>by cases h) a3a (fun _ h=>by cases h) spaceMovedHalves_row_tie rfl ⟨rfl,rfl⟩ a2r rfl
    (fun f fn hf hfn=>by
      obtain rfl:f=4:=(Option.some.inj (a19.symm.trans hf)).symm
      obtain rfl:fn=Tryz.f4:=(Option.some.inj (Tryz.func4.symm.trans hfn)).symm
      exact ⟨a2p,fun j t ht=>by
        rw [Tryz.params4] at ht
        have hm:t∈[39,42]:=by simpa using Array.mem_of_getElem? ht
        exact (show Tryz.pinned.checked.prog.wantsStandIn t=false by simpa using List.all_eq_true.1 a2o t hm)⟩)
    a2u
end Go.Proofs.YtoiejgkkcfkliaaGreatDoor
end
