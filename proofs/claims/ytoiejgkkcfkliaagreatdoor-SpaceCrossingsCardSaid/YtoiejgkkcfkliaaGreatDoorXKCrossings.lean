/- SpaceCrossings holds for every input: it returns true and its arguments read as before. -/
import Derived.Test.YtoiejgkkcfkliaaGreatDoorXKCrossingsF
import Derived.Test.YtoiejgkkcfkliaaGreatDoorXKCrossingsK
set_option linter.unusedVariables false
set_option linter.unusedSimpArgs false
set_option maxRecDepth 1000000
namespace Go.Proofs.YtoiejgkkcfkliaaGreatDoor
open Go
theorem a2w:joinedFacts Tryz.pinned.checked.prog 10 Tryz.f10 Rows.spaceCrossingsSpec Rows.spaceCrossingsRow=true:=by
  unfold joinedFacts
  exact (and2 (and2 (and2 (and2 (and2 (and2 (and2 (and2 (and2 (and2 (and2 (and2 (and2 (and2 (and2 (and2 (and2 (and2 (and2 (and2 (and2 (and2 (and2 (and2 (and2 (and2 (and2 (and2 (and2 (and2 (and2 spaceCrossings_k0 spaceCrossings_k1) spaceCrossings_k2) spaceCrossings_k3) spaceCrossings_k4) spaceCrossings_k5) spaceCrossings_k6) spaceCrossings_k7) spaceCrossings_k8) spaceCrossings_k9) spaceCrossings_k10) spaceCrossings_k11) spaceCrossings_k12) spaceCrossings_k13) spaceCrossings_k14) spaceCrossings_k15) spaceCrossings_k16) spaceCrossings_k17) spaceCrossings_k18) spaceCrossings_k19) spaceCrossings_k20) spaceCrossings_k21) spaceCrossings_k22) spaceCrossings_k23) spaceCrossings_k24) spaceCrossings_k25) spaceCrossings_k26) spaceCrossings_k27) spaceCrossings_k28) spaceCrossings_k29) spaceCrossings_k30) spaceCrossings_k31)
theorem a2e:Tryz.pinned.checked.prog.funcNamed Rows.spaceCrossingsRow.func=some 10:=by kernel_rfl
theorem a27:Tryz.f10.isInstance Tryz.pinned.checked.prog Rows.spaceCrossingsRow.origin Rows.spaceCrossingsRow.targs:=of_decide_eq_true (by kernel_rfl)
theorem a3c:Tryz.f10.isWrapper Tryz.pinned.checked.prog Rows.spaceCrossingsRow.wrapper Rows.spaceCrossingsRow.mainSum:=by
  unfold Func.isWrapper;rw [if_neg (by decide +kernel)];exact ⟨rfl,rfl⟩
theorem a25:Rows.SpaceCrossingsSaid:=
  OpenClaim.holds_of_wide 10 Tryz.f10 rfl rfl rfl rfl rfl rfl rfl ⟨rfl,rfl,rfl,rfl,rfl⟩ rfl rfl rfl rfl rfl a2e Tryz.func10 a2w a27 a3c
    (fun a b c d _=>a2s a b c d)
theorem a3n:Rows.spaceCrossingsRow.wfByText (OpenSpec.ofChange Rows.spaceCrossingsSpec)=true:=by kernel_rfl
theorem a2x:true=Tryz.pinned.checked.prog.looks []:=by kernel_rfl
theorem a3d:Tryz.pinned.checked.prog.mainIs=some (true,"81da6fbd9c49cf521be0089a49d14cb5087461cb03ea0b319b989e6d81769743".toList):=by kernel_rfl
theorem a3b:false=Rows.spaceCrossingsRow.goesBy Tryz.pinned.checked.prog:=by kernel_rfl
theorem a2y:([104].all fun u=>!Tryz.pinned.checked.prog.wantsStandIn u)=true:=by kernel_rfl
theorem spaceCrossings_card:Rows.SpaceCrossingsCardSaid:=
  Claim7.holds_tied_plain_at .later [] [.data,.data,.data,.sentinel,.sentinel] true (true,"81da6fbd9c49cf521be0089a49d14cb5087461cb03ea0b319b989e6d81769743") true
    a25 (fun _ h=>by cases h) a3n (fun _ h=>by cases h) spaceCrossings_row_tie rfl ⟨rfl,rfl⟩ a3d rfl
    (fun f g h k=>by
      obtain rfl:f=10:=(Option.some.inj (a2e.symm.trans h)).symm
      obtain rfl:g=Tryz.f10:=(Option.some.inj (Tryz.func10.symm.trans k)).symm
      exact ⟨a2x,fun j t ht=>by
        rw [Tryz.params10] at ht
        have m:t∈[104]:=by simpa using Array.mem_of_getElem? ht
        exact (show Tryz.pinned.checked.prog.wantsStandIn t=false by simpa using List.all_eq_true.1 a2y t m)⟩)
    a3b
end Go.Proofs.YtoiejgkkcfkliaaGreatDoor
