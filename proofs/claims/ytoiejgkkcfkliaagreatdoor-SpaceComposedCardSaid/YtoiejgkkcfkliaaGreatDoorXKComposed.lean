/- Space statement SpaceComposed holds for every input: the law returns true and its arguments read as before. -/
import Derived.Test.YtoiejgkkcfkliaaGreatDoorXKComposedF
import Derived.Test.YtoiejgkkcfkliaaGreatDoorXKComposedK
set_option linter.unusedVariables false
set_option linter.unusedSimpArgs false
section
set_option maxRecDepth 1000000
namespace Go.Proofs.YtoiejgkkcfkliaaGreatDoor
open Go Go.Ax Go.ChangeShapes Go.WideShapes Go.ChangeAt Go.RowKit Go.ChangeMaps
theorem b1u:joinedFacts Tryz.pinned.checked.prog 8 Tryz.f8 Rows.spaceComposedSpec Rows.spaceComposedRow=true:=by
  unfold joinedFacts
  exact (a36 (a36 (a36 (a36 (a36 (a36 (a36 (a36 (a36 (a36 (a36 (a36 (a36 (a36 (a36 (a36 (a36 (a36 (a36 (a36 (a36 (a36 (a36 (a36 (a36 (a36 (a36 (a36 (a36 (a36 (a36 b7b b7c) b7d) b7e) b7f) b7g) b7h) b7i) b7j) b7k) b5o) b5p) b5q) b5r) b5s) b5t) b5u) b5v) b5w) b5x) b5y) b5z) b50) b51) b52) b53) b54) b55) b56) b57) b58) b59)
theorem a6e:Tryz.pinned.checked.prog.funcNamed Rows.spaceComposedRow.func=some 8:=by kernel_rfl
theorem b38:Tryz.f8.isInstance Tryz.pinned.checked.prog Rows.spaceComposedRow.origin Rows.spaceComposedRow.targs:=of_decide_eq_true (by kernel_rfl)
theorem b4a:Tryz.f8.isWrapper Tryz.pinned.checked.prog Rows.spaceComposedRow.wrapper Rows.spaceComposedRow.mainSum:=by
  unfold Func.isWrapper;first|(rw [if_pos (by decide +kernel)];kernel_rfl)|(rw [if_neg (by decide +kernel)];exact ⟨rfl,rfl⟩)
theorem b2r:Rows.SpaceComposedSaid:=
  OpenClaim.holds_of_wide 8 Tryz.f8 rfl rfl rfl rfl rfl rfl rfl ⟨rfl,rfl,rfl,rfl,rfl⟩ rfl rfl rfl rfl rfl a6e Tryz.func8 b1u b38 b4a
    (fun os started H enc _=>b1v os started H enc)
theorem b7l:Rows.spaceComposedRow.wfByText (OpenSpec.ofChange Rows.spaceComposedSpec)=true:=by kernel_rfl
theorem b2s:true=Tryz.pinned.checked.prog.looks []:=by kernel_rfl
theorem b39:Tryz.pinned.checked.prog.mainIs=some (true,"81da6fbd9c49cf521be0089a49d14cb5087461cb03ea0b319b989e6d81769743".toList):=by kernel_rfl
theorem b37:false=Rows.spaceComposedRow.goesBy Tryz.pinned.checked.prog:=by kernel_rfl
theorem b2t:([39,39,80].all fun u=>!Tryz.pinned.checked.prog.wantsStandIn u)=true:=by kernel_rfl
theorem spaceComposed_card:Rows.SpaceComposedCardSaid:=
  Claim7.holds_tied_plain_at .later [] [.data,.data,.data,.sentinel,.sentinel] true (true,"81da6fbd9c49cf521be0089a49d14cb5087461cb03ea0b319b989e6d81769743") true
    b2r (fun _ h=>by cases h) b7l (fun _ h=>by cases h) spaceComposed_row_tie rfl ⟨rfl,rfl⟩ b39 rfl
    (fun f fn hf hfn=>by
      obtain rfl:f=8:=(Option.some.inj (a6e.symm.trans hf)).symm
      obtain rfl:fn=Tryz.f8:=(Option.some.inj (Tryz.func8.symm.trans hfn)).symm
      exact ⟨b2s,fun j t ht=>by
        rw [Tryz.params8] at ht
        have hm:t∈[39,39,80]:=by simpa using Array.mem_of_getElem? ht
        exact (show Tryz.pinned.checked.prog.wantsStandIn t=false by simpa using List.all_eq_true.1 b2t t hm)⟩)
    b37
end Go.Proofs.YtoiejgkkcfkliaaGreatDoor
end
