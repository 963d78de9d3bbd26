/- For all texts of numbers the functions Add, Sub, Mul, Div, Compare and Floor return what the reference returns, or the first error: the statement SpaceNumbers returns true for all arguments, without further conditions. -/
import Derived.Test.YtoiejgkkcfkliaaGreatDoorZKNumbersK
import Derived.Test.YtoiejgkkcfkliaaGreatDoorZKNumbersF
set_option linter.unusedVariables false
set_option linter.unusedSimpArgs false
section
set_option maxRecDepth 1000000
namespace Go.Proofs.YtoiejgkkcfkliaaGreatDoor
open Go Go.Ax Go.ChangeShapes Go.WideShapes Go.ChangeAt Go.RowKit Go.ChangeMaps
theorem spaceNumbers_closed:joinedFacts Tryz.pinned.checked.prog 15 Tryz.f15 Rows.spaceNumbersSpec Rows.spaceNumbersRow=true:=by
  unfold joinedFacts
  exact (and2 (and2 (and2 (and2 (and2 (and2 (and2 (and2 (and2 (and2 (and2 (and2 (and2 (and2 (and2 (and2 (and2 (and2 (and2 (and2 (and2 (and2 (and2 (and2 (and2 (and2 (and2 (and2 (and2 (and2 (and2 spaceNumbers_k0 spaceNumbers_k1) spaceNumbers_k2) spaceNumbers_k3) spaceNumbers_k4) spaceNumbers_k5) spaceNumbers_k6) spaceNumbers_k7) spaceNumbers_k8) spaceNumbers_k9) spaceNumbers_k10) spaceNumbers_k11) spaceNumbers_k12) spaceNumbers_k13) spaceNumbers_k14) spaceNumbers_k15) spaceNumbers_k16) spaceNumbers_k17) spaceNumbers_k18) spaceNumbers_k19) spaceNumbers_k20) spaceNumbers_k21) spaceNumbers_k22) spaceNumbers_k23) spaceNumbers_k24) spaceNumbers_k25) spaceNumbers_k26) spaceNumbers_k27) spaceNumbers_k28) spaceNumbers_k29) spaceNumbers_k30) spaceNumbers_k31)
theorem spaceNumbers_named:Tryz.pinned.checked.prog.funcNamed Rows.spaceNumbersRow.func=some 15:=by kernel_rfl
theorem spaceNumbers_inst:Tryz.f15.isInstance Tryz.pinned.checked.prog Rows.spaceNumbersRow.origin Rows.spaceNumbersRow.targs:=of_decide_eq_true (by kernel_rfl)
theorem spaceNumbers_wrap:Tryz.f15.isWrapper Tryz.pinned.checked.prog Rows.spaceNumbersRow.wrapper Rows.spaceNumbersRow.mainSum:=by
  unfold Func.isWrapper;first|(rw [if_pos (by decide +kernel)];kernel_rfl)|(rw [if_neg (by decide +kernel)];exact ⟨rfl,rfl⟩)
theorem spaceNumbers_holds:Rows.SpaceNumbersSaid:=
  OpenClaim.holds_of_wide 15 Tryz.f15 rfl rfl rfl rfl rfl rfl rfl ⟨rfl,rfl,rfl,rfl,rfl⟩ rfl rfl rfl rfl rfl spaceNumbers_named Tryz.func15 spaceNumbers_closed spaceNumbers_inst spaceNumbers_wrap
    (fun os started H enc _=>spaceNumbers_lifted os started H enc)
theorem spaceNumbers_wf:Rows.spaceNumbersRow.wfByText (OpenSpec.ofChange Rows.spaceNumbersSpec)=true:=by kernel_rfl
theorem spaceNumbers_looks:true=Tryz.pinned.checked.prog.looks []:=by kernel_rfl
theorem spaceNumbers_main:Tryz.pinned.checked.prog.mainIs=some (true,"81da6fbd9c49cf521be0089a49d14cb5087461cb03ea0b319b989e6d81769743".toList):=by kernel_rfl
theorem spaceNumbers_goes:false=Rows.spaceNumbersRow.goesBy Tryz.pinned.checked.prog:=by kernel_rfl
theorem spaceNumbers_stand:([26,26].all fun u=>!Tryz.pinned.checked.prog.wantsStandIn u)=true:=by kernel_rfl
theorem spaceNumbers_card:Rows.SpaceNumbersCardSaid:=
  Claim7.holds_tied_plain_at .later [] [.data,.data,.data,.sentinel,.sentinel] true (true,"81da6fbd9c49cf521be0089a49d14cb5087461cb03ea0b319b989e6d81769743") true
    spaceNumbers_holds (fun _ h=>by cases h) spaceNumbers_wf (fun _ h=>by cases h) spaceNumbers_row_tie rfl ⟨rfl,rfl⟩ spaceNumbers_main rfl
    (fun f fn hf hfn=>by
      obtain rfl:f=15:=(Option.some.inj (spaceNumbers_named.symm.trans hf)).symm
      obtain rfl:fn=Tryz.f15:=(Option.some.inj (Tryz.func15.symm.trans hfn)).symm
      exact ⟨spaceNumbers_looks,fun j t ht=>by
        rw [Tryz.params15] at ht
        have hm:t∈[26,26]:=by simpa using Array.mem_of_getElem? ht
        exact (show Tryz.pinned.checked.prog.wantsStandIn t=false by simpa using List.all_eq_true.1 spaceNumbers_stand t hm)⟩)
    spaceNumbers_goes
-- axioms of spaceNumbers_card
end Go.Proofs.YtoiejgkkcfkliaaGreatDoor
end
