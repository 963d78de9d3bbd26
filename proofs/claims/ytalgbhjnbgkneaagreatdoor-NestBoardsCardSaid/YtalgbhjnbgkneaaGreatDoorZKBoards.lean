/- for every saw and every number, Boards and BestBoards return what the reference returns, or the first error -/
import Derived.Test.YtalgbhjnbgkneaaGreatDoorZKBoardsK
import Derived.Test.YtalgbhjnbgkneaaGreatDoorZKBoardsF
set_option linter.unusedVariables false
set_option linter.unusedSimpArgs false
section
set_option maxRecDepth 1000000
namespace Go.Proofs.YtalgbhjnbgkneaaGreatDoor
open Go Go.Ax Go.ChangeShapes Go.WideShapes Go.ChangeAt Go.RowKit Go.ChangeMaps
theorem nestBoards_closed:joinedFacts Tryz.pinned.checked.prog 6 Tryz.f6 Rows.nestBoardsSpec Rows.nestBoardsRow=true:=by
  unfold joinedFacts
  exact (and2 (and2 (and2 (and2 (and2 (and2 (and2 (and2 (and2 (and2 (and2 (and2 (and2 (and2 (and2 (and2 (and2 (and2 (and2 (and2 (and2 (and2 (and2 (and2 (and2 (and2 (and2 (and2 (and2 (and2 (and2 nestBoards_k0 nestBoards_k1) nestBoards_k2) nestBoards_k3) nestBoards_k4) nestBoards_k5) nestBoards_k6) nestBoards_k7) nestBoards_k8) nestBoards_k9) nestBoards_k10) nestBoards_k11) nestBoards_k12) nestBoards_k13) nestBoards_k14) nestBoards_k15) nestBoards_k16) nestBoards_k17) nestBoards_k18) nestBoards_k19) nestBoards_k20) nestBoards_k21) nestBoards_k22) nestBoards_k23) nestBoards_k24) nestBoards_k25) nestBoards_k26) nestBoards_k27) nestBoards_k28) nestBoards_k29) nestBoards_k30) nestBoards_k31)
theorem nestBoards_named:Tryz.pinned.checked.prog.funcNamed Rows.nestBoardsRow.func=some 6:=by kernel_rfl
theorem nestBoards_inst:Tryz.f6.isInstance Tryz.pinned.checked.prog Rows.nestBoardsRow.origin Rows.nestBoardsRow.targs:=of_decide_eq_true (by kernel_rfl)
theorem nestBoards_wrap:Tryz.f6.isWrapper Tryz.pinned.checked.prog Rows.nestBoardsRow.wrapper Rows.nestBoardsRow.mainSum:=by
  unfold Func.isWrapper;first|(rw [if_pos (by decide +kernel)];kernel_rfl)|(rw [if_neg (by decide +kernel)];exact ⟨rfl,rfl⟩)
theorem nestBoards_holds:Rows.NestBoardsSaid:=
  OpenClaim.holds_of_wide 6 Tryz.f6 rfl rfl rfl rfl rfl rfl rfl ⟨rfl,rfl,rfl,rfl,rfl⟩ rfl rfl rfl rfl rfl nestBoards_named Tryz.func6 nestBoards_closed nestBoards_inst nestBoards_wrap
    (fun os started H enc _=>nestBoards_lifted os started H enc)
theorem nestBoards_wf:Rows.nestBoardsRow.wfByText (OpenSpec.ofChange Rows.nestBoardsSpec)=true:=by kernel_rfl
theorem nestBoards_looks:true=Tryz.pinned.checked.prog.looks []:=by kernel_rfl
theorem nestBoards_main:Tryz.pinned.checked.prog.mainIs=some (true,"50356dcba32ed55c4617451c5aaf5385d559f24b45e0dc2f44e12789b08e3f2b".toList):=by kernel_rfl
theorem nestBoards_goes:false=Rows.nestBoardsRow.goesBy Tryz.pinned.checked.prog:=by kernel_rfl
theorem nestBoards_stand:([51,3].all fun u=>!Tryz.pinned.checked.prog.wantsStandIn u)=true:=by kernel_rfl
theorem nestBoards_card:Rows.NestBoardsCardSaid:=
  Claim7.holds_tied_plain_at .later [] [.data,.data,.data] true (true,"50356dcba32ed55c4617451c5aaf5385d559f24b45e0dc2f44e12789b08e3f2b") true
    nestBoards_holds (fun _ h=>by cases h) nestBoards_wf (fun _ h=>by cases h) nestBoards_row_tie rfl ⟨rfl,rfl⟩ nestBoards_main rfl
    (fun f fn hf hfn=>by
      obtain rfl:f=6:=(Option.some.inj (nestBoards_named.symm.trans hf)).symm
      obtain rfl:fn=Tryz.f6:=(Option.some.inj (Tryz.func6.symm.trans hfn)).symm
      exact ⟨nestBoards_looks,fun j t ht=>by
        rw [Tryz.params6] at ht
        have hm:t∈[51,3]:=by simpa using Array.mem_of_getElem? ht
        exact (show Tryz.pinned.checked.prog.wantsStandIn t=false by simpa using List.all_eq_true.1 nestBoards_stand t hm)⟩)
    nestBoards_goes
-- axioms of nestBoards_card
end Go.Proofs.YtalgbhjnbgkneaaGreatDoor
end
