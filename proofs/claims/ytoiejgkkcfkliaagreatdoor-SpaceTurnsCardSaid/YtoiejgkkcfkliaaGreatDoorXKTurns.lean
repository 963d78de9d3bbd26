/- Space statement SpaceTurns holds for every input: the law returns true and its arguments read as before. -/
import Derived.Test.YtoiejgkkcfkliaaGreatDoorXKTurnsF
import Derived.Test.YtoiejgkkcfkliaaGreatDoorXKTurnsK
set_option linter.unusedVariables false
set_option linter.unusedSimpArgs false
section
set_option maxRecDepth 1000000
namespace Go.Proofs.YtoiejgkkcfkliaaGreatDoor
open Go Go.Ax Go.ChangeShapes Go.WideShapes Go.ChangeAt Go.RowKit Go.ChangeMaps
theorem spaceTurns_closed:joinedFacts Tryz.pinned.checked.prog 9 Tryz.f9 Rows.spaceTurnsSpec Rows.spaceTurnsRow=true:=by
  unfold joinedFacts
  exact (and2 (and2 (and2 (and2 (and2 (and2 (and2 (and2 (and2 (and2 (and2 (and2 (and2 (and2 (and2 (and2 (and2 (and2 (and2 (and2 (and2 (and2 (and2 (and2 (and2 (and2 (and2 (and2 (and2 (and2 (and2 spaceTurns_k0 spaceTurns_k1) spaceTurns_k2) spaceTurns_k3) spaceTurns_k4) spaceTurns_k5) spaceTurns_k6) spaceTurns_k7) spaceTurns_k8) spaceTurns_k9) spaceTurns_k10) spaceTurns_k11) spaceTurns_k12) spaceTurns_k13) spaceTurns_k14) spaceTurns_k15) spaceTurns_k16) spaceTurns_k17) spaceTurns_k18) spaceTurns_k19) spaceTurns_k20) spaceTurns_k21) spaceTurns_k22) spaceTurns_k23) spaceTurns_k24) spaceTurns_k25) spaceTurns_k26) spaceTurns_k27) spaceTurns_k28) spaceTurns_k29) spaceTurns_k30) spaceTurns_k31)
theorem spaceTurns_named:Tryz.pinned.checked.prog.funcNamed Rows.spaceTurnsRow.func=some 9:=by kernel_rfl
theorem spaceTurns_inst:Tryz.f9.isInstance Tryz.pinned.checked.prog Rows.spaceTurnsRow.origin Rows.spaceTurnsRow.targs:=of_decide_eq_true (by kernel_rfl)
theorem spaceTurns_wrap:Tryz.f9.isWrapper Tryz.pinned.checked.prog Rows.spaceTurnsRow.wrapper Rows.spaceTurnsRow.mainSum:=by
  unfold Func.isWrapper;first|(rw [if_pos (by decide +kernel)];kernel_rfl)|(rw [if_neg (by decide +kernel)];exact ⟨rfl,rfl⟩)
theorem spaceTurns_holds:Rows.SpaceTurnsSaid:=
  OpenClaim.holds_of_wide 9 Tryz.f9 rfl rfl rfl rfl rfl rfl rfl ⟨rfl,rfl,rfl,rfl,rfl⟩ rfl rfl rfl rfl rfl spaceTurns_named Tryz.func9 spaceTurns_closed spaceTurns_inst spaceTurns_wrap
    (fun os started H enc _=>spaceTurns_lifted os started H enc)
theorem spaceTurns_wf:Rows.spaceTurnsRow.wfByText (OpenSpec.ofChange Rows.spaceTurnsSpec)=true:=by kernel_rfl
theorem spaceTurns_looks:true=Tryz.pinned.checked.prog.looks []:=by kernel_rfl
theorem spaceTurns_main:Tryz.pinned.checked.prog.mainIs=some (true,"81da6fbd9c49cf521be0089a49d14cb5087461cb03ea0b319b989e6d81769743".toList):=by kernel_rfl
theorem spaceTurns_goes:false=Rows.spaceTurnsRow.goesBy Tryz.pinned.checked.prog:=by kernel_rfl
theorem spaceTurns_stand:([80,80,93].all fun u=>!Tryz.pinned.checked.prog.wantsStandIn u)=true:=by kernel_rfl
theorem spaceTurns_card:Rows.SpaceTurnsCardSaid:=
  Claim7.holds_tied_plain_at .later [] [.data,.data,.data,.sentinel,.sentinel] true (true,"81da6fbd9c49cf521be0089a49d14cb5087461cb03ea0b319b989e6d81769743") true
    spaceTurns_holds (fun _ h=>by cases h) spaceTurns_wf (fun _ h=>by cases h) spaceTurns_row_tie rfl ⟨rfl,rfl⟩ spaceTurns_main rfl
    (fun f fn hf hfn=>by
      obtain rfl:f=9:=(Option.some.inj (spaceTurns_named.symm.trans hf)).symm
      obtain rfl:fn=Tryz.f9:=(Option.some.inj (Tryz.func9.symm.trans hfn)).symm
      exact ⟨spaceTurns_looks,fun j t ht=>by
        rw [Tryz.params9] at ht
        have hm:t∈[80,80,93]:=by simpa using Array.mem_of_getElem? ht
        exact (show Tryz.pinned.checked.prog.wantsStandIn t=false by simpa using List.all_eq_true.1 spaceTurns_stand t hm)⟩)
    spaceTurns_goes
end Go.Proofs.YtoiejgkkcfkliaaGreatDoor
end
