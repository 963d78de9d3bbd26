/- for every four bytes, the section is the greatest, the strongest is the strongest, and the boards are the widest, symmetrical and at most as wide in sum as the best -/
import Derived.Test.YtalgbhjnbgkneaaGreatDoorXRounds0
import Derived.Test.YtalgbhjnbgkneaaGreatDoorXRounds6
set_option linter.unusedVariables false
set_option linter.unusedSimpArgs false
section
set_option maxRecDepth 1000000
namespace Go.Proofs.YtalgbhjnbgkneaaGreatDoor
open Go Go.Ax Go.ChangeShapes Go.WideShapes Go.ChangeAt Go.RowKit Go.ChangeMaps
theorem nestRounds_closed:joinedFacts Tryz.pinned.checked.prog 11 Tryz.f11 Rows.nestRoundsSpec Rows.nestRoundsRow=true:=by
  unfold joinedFacts
  exact (and2 (and2 (and2 (and2 (and2 (and2 (and2 (and2 (and2 (and2 (and2 (and2 (and2 (and2 (and2 (and2 (and2 (and2 (and2 (and2 (and2 (and2 (and2 (and2 (and2 (and2 (and2 (and2 (and2 (and2 (and2 nestRounds_k0 nestRounds_k1) nestRounds_k2) nestRounds_k3) nestRounds_k4) nestRounds_k5) nestRounds_k6) nestRounds_k7) nestRounds_k8) nestRounds_k9) nestRounds_k10) nestRounds_k11) nestRounds_k12) nestRounds_k13) nestRounds_k14) nestRounds_k15) nestRounds_k16) nestRounds_k17) nestRounds_k18) nestRounds_k19) nestRounds_k20) nestRounds_k21) nestRounds_k22) nestRounds_k23) nestRounds_k24) nestRounds_k25) nestRounds_k26) nestRounds_k27) nestRounds_k28) nestRounds_k29) nestRounds_k30) nestRounds_k31)
theorem nestRounds_named:Tryz.pinned.checked.prog.funcNamed Rows.nestRoundsRow.func=some 11:=by kernel_rfl
theorem nestRounds_inst:Tryz.f11.isInstance Tryz.pinned.checked.prog Rows.nestRoundsRow.origin Rows.nestRoundsRow.targs:=of_decide_eq_true (by kernel_rfl)
theorem nestRounds_wrap:Tryz.f11.isWrapper Tryz.pinned.checked.prog Rows.nestRoundsRow.wrapper Rows.nestRoundsRow.mainSum:=by
  unfold Func.isWrapper;first|(rw [if_pos (by decide +kernel)];kernel_rfl)|(rw [if_neg (by decide +kernel)];exact ⟨rfl,rfl⟩)
theorem nestRounds_holds:Rows.NestRoundsSaid:=
  OpenClaim.holds_of_wide 11 Tryz.f11 rfl rfl rfl rfl rfl rfl rfl ⟨rfl,rfl,rfl,rfl,rfl⟩ rfl rfl rfl rfl rfl nestRounds_named Tryz.func11 nestRounds_closed nestRounds_inst nestRounds_wrap
    (fun os started H enc _=>nestRounds_lifted os started H enc)
theorem nestRounds_wf:Rows.nestRoundsRow.wfByText (OpenSpec.ofChange Rows.nestRoundsSpec)=true:=by kernel_rfl
theorem nestRounds_looks:true=Tryz.pinned.checked.prog.looks []:=by kernel_rfl
theorem nestRounds_main:Tryz.pinned.checked.prog.mainIs=some (true,"50356dcba32ed55c4617451c5aaf5385d559f24b45e0dc2f44e12789b08e3f2b".toList):=by kernel_rfl
theorem nestRounds_goes:false=Rows.nestRoundsRow.goesBy Tryz.pinned.checked.prog:=by kernel_rfl
theorem nestRounds_stand:([80].all fun u=>!Tryz.pinned.checked.prog.wantsStandIn u)=true:=by kernel_rfl
theorem nestRounds_card:Rows.NestRoundsCardSaid:=
  Claim7.holds_tied_plain_at .later [] [.data,.data,.data] true (true,"50356dcba32ed55c4617451c5aaf5385d559f24b45e0dc2f44e12789b08e3f2b") true
    nestRounds_holds (fun _ h=>by cases h) nestRounds_wf (fun _ h=>by cases h) nestRounds_row_tie rfl ⟨rfl,rfl⟩ nestRounds_main rfl
    (fun f fn hf hfn=>by
      obtain rfl:f=11:=(Option.some.inj (nestRounds_named.symm.trans hf)).symm
      obtain rfl:fn=Tryz.f11:=(Option.some.inj (Tryz.func11.symm.trans hfn)).symm
      exact ⟨nestRounds_looks,fun j t ht=>by
        rw [Tryz.params11] at ht
        have hm:t∈[80]:=by simpa using Array.mem_of_getElem? ht
        exact (show Tryz.pinned.checked.prog.wantsStandIn t=false by simpa using List.all_eq_true.1 nestRounds_stand t hm)⟩)
    nestRounds_goes
-- axioms of nestRounds_card
end Go.Proofs.YtalgbhjnbgkneaaGreatDoor
end
