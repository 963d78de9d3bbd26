/- Space statement SpaceLagrange holds for every input: the law returns true and its arguments read as before. -/
import Derived.Test.YtoiejgkkcfkliaaGreatDoorXKLagrangeF
import Derived.Test.YtoiejgkkcfkliaaGreatDoorXKLagrangeK
set_option linter.unusedVariables false
set_option linter.unusedSimpArgs false
section
set_option maxRecDepth 1000000
namespace Go.Proofs.YtoiejgkkcfkliaaGreatDoor
open Go Go.Ax Go.ChangeShapes Go.WideShapes Go.ChangeAt Go.RowKit Go.ChangeMaps
theorem spaceLagrange_closed:joinedFacts Tryz.pinned.checked.prog 12 Tryz.f12 Rows.spaceLagrangeSpec Rows.spaceLagrangeRow=true:=by
  unfold joinedFacts
  exact (and2 (and2 (and2 (and2 (and2 (and2 (and2 (and2 (and2 (and2 (and2 (and2 (and2 (and2 (and2 (and2 (and2 (and2 (and2 (and2 (and2 (and2 (and2 (and2 (and2 (and2 (and2 (and2 (and2 (and2 (and2 spaceLagrange_k0 spaceLagrange_k1) spaceLagrange_k2) spaceLagrange_k3) spaceLagrange_k4) spaceLagrange_k5) spaceLagrange_k6) spaceLagrange_k7) spaceLagrange_k8) spaceLagrange_k9) spaceLagrange_k10) spaceLagrange_k11) spaceLagrange_k12) spaceLagrange_k13) spaceLagrange_k14) spaceLagrange_k15) spaceLagrange_k16) spaceLagrange_k17) spaceLagrange_k18) spaceLagrange_k19) spaceLagrange_k20) spaceLagrange_k21) spaceLagrange_k22) spaceLagrange_k23) spaceLagrange_k24) spaceLagrange_k25) spaceLagrange_k26) spaceLagrange_k27) spaceLagrange_k28) spaceLagrange_k29) spaceLagrange_k30) spaceLagrange_k31)
theorem spaceLagrange_named:Tryz.pinned.checked.prog.funcNamed Rows.spaceLagrangeRow.func=some 12:=by kernel_rfl
theorem spaceLagrange_inst:Tryz.f12.isInstance Tryz.pinned.checked.prog Rows.spaceLagrangeRow.origin Rows.spaceLagrangeRow.targs:=of_decide_eq_true (by kernel_rfl)
theorem spaceLagrange_wrap:Tryz.f12.isWrapper Tryz.pinned.checked.prog Rows.spaceLagrangeRow.wrapper Rows.spaceLagrangeRow.mainSum:=by
  unfold Func.isWrapper;first|(rw [if_pos (by decide +kernel)];kernel_rfl)|(rw [if_neg (by decide +kernel)];exact ⟨rfl,rfl⟩)
theorem spaceLagrange_holds:Rows.SpaceLagrangeSaid:=
  OpenClaim.holds_of_wide 12 Tryz.f12 rfl rfl rfl rfl rfl rfl rfl ⟨rfl,rfl,rfl,rfl,rfl⟩ rfl rfl rfl rfl rfl spaceLagrange_named Tryz.func12 spaceLagrange_closed spaceLagrange_inst spaceLagrange_wrap
    (fun os started H enc _=>spaceLagrange_lifted os started H enc)
theorem spaceLagrange_wf:Rows.spaceLagrangeRow.wfByText (OpenSpec.ofChange Rows.spaceLagrangeSpec)=true:=by kernel_rfl
theorem spaceLagrange_looks:true=Tryz.pinned.checked.prog.looks []:=by kernel_rfl
theorem spaceLagrange_main:Tryz.pinned.checked.prog.mainIs=some (true,"81da6fbd9c49cf521be0089a49d14cb5087461cb03ea0b319b989e6d81769743".toList):=by kernel_rfl
theorem spaceLagrange_goes:false=Rows.spaceLagrangeRow.goesBy Tryz.pinned.checked.prog:=by kernel_rfl
theorem spaceLagrange_stand:([37,37,26].all fun u=>!Tryz.pinned.checked.prog.wantsStandIn u)=true:=by kernel_rfl
theorem spaceLagrange_card:Rows.SpaceLagrangeCardSaid:=
  Claim7.holds_tied_plain_at .later [] [.data,.data,.data,.sentinel,.sentinel] true (true,"81da6fbd9c49cf521be0089a49d14cb5087461cb03ea0b319b989e6d81769743") true
    spaceLagrange_holds (fun _ h=>by cases h) spaceLagrange_wf (fun _ h=>by cases h) spaceLagrange_row_tie rfl ⟨rfl,rfl⟩ spaceLagrange_main rfl
    (fun f fn hf hfn=>by
      obtain rfl:f=12:=(Option.some.inj (spaceLagrange_named.symm.trans hf)).symm
      obtain rfl:fn=Tryz.f12:=(Option.some.inj (Tryz.func12.symm.trans hfn)).symm
      exact ⟨spaceLagrange_looks,fun j t ht=>by
        rw [Tryz.params12] at ht
        have hm:t∈[37,37,26]:=by simpa using Array.mem_of_getElem? ht
        exact (show Tryz.pinned.checked.prog.wantsStandIn t=false by simpa using List.all_eq_true.1 spaceLagrange_stand t hm)⟩)
    spaceLagrange_goes
end Go.Proofs.YtoiejgkkcfkliaaGreatDoor
end
