/- Space statement SpaceFeet holds for every input: the law returns true and its arguments read as before. -/
import Derived.Test.YtoiejgkkcfkliaaGreatDoorXKFeetF
import Derived.Test.YtoiejgkkcfkliaaGreatDoorXKFeetK
set_option linter.unusedVariables false
set_option linter.unusedSimpArgs false
section
set_option maxRecDepth 1000000
namespace Go.Proofs.YtoiejgkkcfkliaaGreatDoor
open Go Go.Ax Go.ChangeShapes Go.WideShapes Go.ChangeAt Go.RowKit Go.ChangeMaps
theorem spaceFeet_closed:joinedFacts Tryz.pinned.checked.prog 6 Tryz.f6 Rows.spaceFeetSpec Rows.spaceFeetRow=true:=by
  unfold joinedFacts
  exact (and2 (and2 (and2 (and2 (and2 (and2 (and2 (and2 (and2 (and2 (and2 (and2 (and2 (and2 (and2 (and2 (and2 (and2 (and2 (and2 (and2 (and2 (and2 (and2 (and2 (and2 (and2 (and2 (and2 (and2 (and2 spaceFeet_k0 spaceFeet_k1) spaceFeet_k2) spaceFeet_k3) spaceFeet_k4) spaceFeet_k5) spaceFeet_k6) spaceFeet_k7) spaceFeet_k8) spaceFeet_k9) spaceFeet_k10) spaceFeet_k11) spaceFeet_k12) spaceFeet_k13) spaceFeet_k14) spaceFeet_k15) spaceFeet_k16) spaceFeet_k17) spaceFeet_k18) spaceFeet_k19) spaceFeet_k20) spaceFeet_k21) spaceFeet_k22) spaceFeet_k23) spaceFeet_k24) spaceFeet_k25) spaceFeet_k26) spaceFeet_k27) spaceFeet_k28) spaceFeet_k29) spaceFeet_k30) spaceFeet_k31)
theorem spaceFeet_named:Tryz.pinned.checked.prog.funcNamed Rows.spaceFeetRow.func=some 6:=by kernel_rfl
theorem spaceFeet_inst:Tryz.f6.isInstance Tryz.pinned.checked.prog Rows.spaceFeetRow.origin Rows.spaceFeetRow.targs:=of_decide_eq_true (by kernel_rfl)
theorem spaceFeet_wrap:Tryz.f6.isWrapper Tryz.pinned.checked.prog Rows.spaceFeetRow.wrapper Rows.spaceFeetRow.mainSum:=by
  unfold Func.isWrapper;first|(rw [if_pos (by decide +kernel)];kernel_rfl)|(rw [if_neg (by decide +kernel)];exact ⟨rfl,rfl⟩)
theorem spaceFeet_holds:Rows.SpaceFeetSaid:=
  OpenClaim.holds_of_wide 6 Tryz.f6 rfl rfl rfl rfl rfl rfl rfl ⟨rfl,rfl,rfl,rfl,rfl⟩ rfl rfl rfl rfl rfl spaceFeet_named Tryz.func6 spaceFeet_closed spaceFeet_inst spaceFeet_wrap
    (fun os started H enc _=>spaceFeet_lifted os started H enc)
theorem spaceFeet_wf:Rows.spaceFeetRow.wfByText (OpenSpec.ofChange Rows.spaceFeetSpec)=true:=by kernel_rfl
theorem spaceFeet_looks:true=Tryz.pinned.checked.prog.looks []:=by kernel_rfl
theorem spaceFeet_main:Tryz.pinned.checked.prog.mainIs=some (true,"81da6fbd9c49cf521be0089a49d14cb5087461cb03ea0b319b989e6d81769743".toList):=by kernel_rfl
theorem spaceFeet_goes:false=Rows.spaceFeetRow.goesBy Tryz.pinned.checked.prog:=by kernel_rfl
theorem spaceFeet_stand:([42,37,37].all fun u=>!Tryz.pinned.checked.prog.wantsStandIn u)=true:=by kernel_rfl
theorem spaceFeet_card:Rows.SpaceFeetCardSaid:=
  Claim7.holds_tied_plain_at .later [] [.data,.data,.data,.sentinel,.sentinel] true (true,"81da6fbd9c49cf521be0089a49d14cb5087461cb03ea0b319b989e6d81769743") true
    spaceFeet_holds (fun _ h=>by cases h) spaceFeet_wf (fun _ h=>by cases h) spaceFeet_row_tie rfl ⟨rfl,rfl⟩ spaceFeet_main rfl
    (fun f fn hf hfn=>by
      obtain rfl:f=6:=(Option.some.inj (spaceFeet_named.symm.trans hf)).symm
      obtain rfl:fn=Tryz.f6:=(Option.some.inj (Tryz.func6.symm.trans hfn)).symm
      exact ⟨spaceFeet_looks,fun j t ht=>by
        rw [Tryz.params6] at ht
        have hm:t∈[42,37,37]:=by simpa using Array.mem_of_getElem? ht
        exact (show Tryz.pinned.checked.prog.wantsStandIn t=false by simpa using List.all_eq_true.1 spaceFeet_stand t hm)⟩)
    spaceFeet_goes
end Go.Proofs.YtoiejgkkcfkliaaGreatDoor
end
