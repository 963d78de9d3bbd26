/- Space statement SpaceNearest holds for every input: the law returns true and its arguments read as before. -/
import Derived.Test.YtoiejgkkcfkliaaGreatDoorXKNearestF
import Derived.Test.YtoiejgkkcfkliaaGreatDoorXKNearestK
set_option linter.unusedVariables false
set_option linter.unusedSimpArgs false
section
set_option maxRecDepth 1000000
namespace Go.Proofs.YtoiejgkkcfkliaaGreatDoor
open Go Go.Ax Go.ChangeShapes Go.WideShapes Go.ChangeAt Go.RowKit Go.ChangeMaps
theorem a28:joinedFacts Tryz.pinned.checked.prog 7 Tryz.f7 Rows.spaceNearestSpec Rows.spaceNearestRow=true:=by
  unfold joinedFacts
  exact (and2 (and2 (and2 (and2 (and2 (and2 (and2 (and2 (and2 (and2 (and2 (and2 (and2 (and2 (and2 (and2 (and2 (and2 (and2 (and2 (and2 (and2 (and2 (and2 (and2 (and2 (and2 (and2 (and2 (and2 (and2 spaceNearest_k0 spaceNearest_k1) spaceNearest_k2) spaceNearest_k3) spaceNearest_k4) spaceNearest_k5) spaceNearest_k6) spaceNearest_k7) spaceNearest_k8) spaceNearest_k9) spaceNearest_k10) spaceNearest_k11) spaceNearest_k12) spaceNearest_k13) spaceNearest_k14) spaceNearest_k15) spaceNearest_k16) spaceNearest_k17) spaceNearest_k18) spaceNearest_k19) spaceNearest_k20) spaceNearest_k21) spaceNearest_k22) spaceNearest_k23) spaceNearest_k24) spaceNearest_k25) spaceNearest_k26) spaceNearest_k27) spaceNearest_k28) spaceNearest_k29) spaceNearest_k30) spaceNearest_k31)
theorem a2h:Tryz.pinned.checked.prog.funcNamed Rows.spaceNearestRow.func=some 7:=by kernel_rfl
theorem a3k:Tryz.f7.isInstance Tryz.pinned.checked.prog Rows.spaceNearestRow.origin Rows.spaceNearestRow.targs:=of_decide_eq_true (by kernel_rfl)
theorem a3m:Tryz.f7.isWrapper Tryz.pinned.checked.prog Rows.spaceNearestRow.wrapper Rows.spaceNearestRow.mainSum:=by
  unfold Func.isWrapper;first|(rw [if_pos (by decide +kernel)];kernel_rfl)|(rw [if_neg (by decide +kernel)];exact ⟨rfl,rfl⟩)
theorem a3f:Rows.SpaceNearestSaid:=
  OpenClaim.holds_of_wide 7 Tryz.f7 rfl rfl rfl rfl rfl rfl rfl ⟨rfl,rfl,rfl,rfl,rfl⟩ rfl rfl rfl rfl rfl a2h Tryz.func7 a28 a3k a3m
    (fun os started H enc _=>a29 os started H enc)
theorem a31:Rows.spaceNearestRow.wfByText (OpenSpec.ofChange Rows.spaceNearestSpec)=true:=by kernel_rfl
theorem a3h:true=Tryz.pinned.checked.prog.looks []:=by kernel_rfl
theorem a3q:Tryz.pinned.checked.prog.mainIs=some (true,"81da6fbd9c49cf521be0089a49d14cb5087461cb03ea0b319b989e6d81769743".toList):=by kernel_rfl
theorem a3s:false=Rows.spaceNearestRow.goesBy Tryz.pinned.checked.prog:=by kernel_rfl
theorem a3i:([42,37,37].all fun u=>!Tryz.pinned.checked.prog.wantsStandIn u)=true:=by kernel_rfl
theorem spaceNearest_card:Rows.SpaceNearestCardSaid:=
  Claim7.holds_tied_plain_at .later [] [.data,.data,.data,.sentinel,.sentinel] true (true,"81da6fbd9c49cf521be0089a49d14cb5087461cb03ea0b319b989e6d81769743") true
    a3f (fun _ h=>by cases h) a31 (fun _ h=>by cases h) spaceNearest_row_tie rfl ⟨rfl,rfl⟩ a3q rfl
    (fun f fn hf hfn=>by
      obtain rfl:f=7:=(Option.some.inj (a2h.symm.trans hf)).symm
      obtain rfl:fn=Tryz.f7:=(Option.some.inj (Tryz.func7.symm.trans hfn)).symm
      exact ⟨a3h,fun j t ht=>by
        rw [Tryz.params7] at ht
        have hm:t∈[42,37,37]:=by simpa using Array.mem_of_getElem? ht
        exact (show Tryz.pinned.checked.prog.wantsStandIn t=false by simpa using List.all_eq_true.1 a3i t hm)⟩)
    a3s
end Go.Proofs.YtoiejgkkcfkliaaGreatDoor
end
