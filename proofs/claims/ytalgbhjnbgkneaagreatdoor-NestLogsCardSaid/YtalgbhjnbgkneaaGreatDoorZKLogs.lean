/- NestLogs holds for every input: the card is proved. -/
import Derived.Test.YtalgbhjnbgkneaaGreatDoorZKLogsK
import Derived.Test.YtalgbhjnbgkneaaGreatDoorZKLogsF
set_option linter.unusedVariables false
set_option linter.unusedSimpArgs false
section
set_option maxRecDepth 1000000
namespace Go.Proofs.YtalgbhjnbgkneaaGreatDoor
open Go Go.Ax Go.ChangeShapes Go.WideShapes Go.ChangeAt Go.RowKit Go.ChangeMaps
theorem nestLogs_closed:joinedFacts Tryz.pinned.checked.prog 10 Tryz.f10 Rows.nestLogsSpec Rows.nestLogsRow=true:=by
  unfold joinedFacts
  exact (and2 (and2 (and2 (and2 (and2 (and2 (and2 (and2 (and2 (and2 (and2 (and2 (and2 (and2 (and2 (and2 (and2 (and2 (and2 (and2 (and2 (and2 (and2 (and2 (and2 (and2 (and2 (and2 (and2 (and2 (and2 nestLogs_k0 nestLogs_k1) nestLogs_k2) nestLogs_k3) nestLogs_k4) nestLogs_k5) nestLogs_k6) nestLogs_k7) nestLogs_k8) nestLogs_k9) nestLogs_k10) nestLogs_k11) nestLogs_k12) nestLogs_k13) nestLogs_k14) nestLogs_k15) nestLogs_k16) nestLogs_k17) nestLogs_k18) nestLogs_k19) nestLogs_k20) nestLogs_k21) nestLogs_k22) nestLogs_k23) nestLogs_k24) nestLogs_k25) nestLogs_k26) nestLogs_k27) nestLogs_k28) nestLogs_k29) nestLogs_k30) nestLogs_k31)
theorem nestLogs_named:Tryz.pinned.checked.prog.funcNamed Rows.nestLogsRow.func=some 10:=by kernel_rfl
theorem nestLogs_inst:Tryz.f10.isInstance Tryz.pinned.checked.prog Rows.nestLogsRow.origin Rows.nestLogsRow.targs:=of_decide_eq_true (by kernel_rfl)
theorem nestLogs_wrap:Tryz.f10.isWrapper Tryz.pinned.checked.prog Rows.nestLogsRow.wrapper Rows.nestLogsRow.mainSum:=by
  unfold Func.isWrapper;first|(rw [if_pos (by decide +kernel)];kernel_rfl)|(rw [if_neg (by decide +kernel)];exact ⟨rfl,rfl⟩)
theorem nestLogs_holds:Rows.NestLogsSaid:=
  OpenClaim.holds_of_wide 10 Tryz.f10 rfl rfl rfl rfl rfl rfl rfl ⟨rfl,rfl,rfl,rfl,rfl⟩ rfl rfl rfl rfl rfl nestLogs_named Tryz.func10 nestLogs_closed nestLogs_inst nestLogs_wrap
    (fun os started H enc _=>nestLogs_lifted os started H enc)
theorem nestLogs_wf:Rows.nestLogsRow.wfByText (OpenSpec.ofChange Rows.nestLogsSpec)=true:=by kernel_rfl
theorem nestLogs_looks:true=Tryz.pinned.checked.prog.looks []:=by kernel_rfl
theorem nestLogs_main:Tryz.pinned.checked.prog.mainIs=some (true,"50356dcba32ed55c4617451c5aaf5385d559f24b45e0dc2f44e12789b08e3f2b".toList):=by kernel_rfl
theorem nestLogs_goes:false=Rows.nestLogsRow.goesBy Tryz.pinned.checked.prog:=by kernel_rfl
theorem nestLogs_stand:([3,3,3].all fun u=>!Tryz.pinned.checked.prog.wantsStandIn u)=true:=by kernel_rfl
theorem nestLogs_card:Rows.NestLogsCardSaid:=
  Claim7.holds_tied_plain_at .later [] [.data,.data,.data] true (true,"50356dcba32ed55c4617451c5aaf5385d559f24b45e0dc2f44e12789b08e3f2b") true
    nestLogs_holds (fun _ h=>by cases h) nestLogs_wf (fun _ h=>by cases h) nestLogs_row_tie rfl ⟨rfl,rfl⟩ nestLogs_main rfl
    (fun f fn hf hfn=>by
      obtain rfl:f=10:=(Option.some.inj (nestLogs_named.symm.trans hf)).symm
      obtain rfl:fn=Tryz.f10:=(Option.some.inj (Tryz.func10.symm.trans hfn)).symm
      exact ⟨nestLogs_looks,fun j t ht=>by
        rw [Tryz.params10] at ht
        have hm:t∈[3,3,3]:=by simpa using Array.mem_of_getElem? ht
        exact (show Tryz.pinned.checked.prog.wantsStandIn t=false by simpa using List.all_eq_true.1 nestLogs_stand t hm)⟩)
    nestLogs_goes
-- axioms of nestLogs_card
end Go.Proofs.YtalgbhjnbgkneaaGreatDoor
end
