/- Space statement SpacePlanes holds for every input: the law returns true and its arguments read as before. -/
import Derived.Test.YtoiejgkkcfkliaaGreatDoorXKPlanesF
import Derived.Test.YtoiejgkkcfkliaaGreatDoorXKPlanesK
set_option linter.unusedVariables false
set_option linter.unusedSimpArgs false
section
set_option maxRecDepth 1000000
namespace Go.Proofs.YtoiejgkkcfkliaaGreatDoor
open Go Go.Ax Go.ChangeShapes Go.WideShapes Go.ChangeAt Go.RowKit Go.ChangeMaps
theorem a3g:joinedFacts Tryz.pinned.checked.prog 14 Tryz.f14 Rows.spacePlanesSpec Rows.spacePlanesRow=true:=by
  unfold joinedFacts
  exact (and2 (and2 (and2 (and2 (and2 (and2 (and2 (and2 (and2 (and2 (and2 (and2 (and2 (and2 (and2 (and2 (and2 (and2 (and2 (and2 (and2 (and2 (and2 (and2 (and2 (and2 (and2 (and2 (and2 (and2 (and2 spacePlanes_k0 spacePlanes_k1) spacePlanes_k2) spacePlanes_k3) spacePlanes_k4) spacePlanes_k5) spacePlanes_k6) spacePlanes_k7) spacePlanes_k8) spacePlanes_k9) spacePlanes_k10) spacePlanes_k11) spacePlanes_k12) spacePlanes_k13) spacePlanes_k14) spacePlanes_k15) spacePlanes_k16) spacePlanes_k17) spacePlanes_k18) spacePlanes_k19) spacePlanes_k20) spacePlanes_k21) spacePlanes_k22) spacePlanes_k23) spacePlanes_k24) spacePlanes_k25) spacePlanes_k26) spacePlanes_k27) spacePlanes_k28) spacePlanes_k29) spacePlanes_k30) spacePlanes_k31)
theorem a2i:Tryz.pinned.checked.prog.funcNamed Rows.spacePlanesRow.func=some 14:=by kernel_rfl
theorem a3w:Tryz.f14.isInstance Tryz.pinned.checked.prog Rows.spacePlanesRow.origin Rows.spacePlanesRow.targs:=of_decide_eq_true (by kernel_rfl)
theorem a3v:Tryz.f14.isWrapper Tryz.pinned.checked.prog Rows.spacePlanesRow.wrapper Rows.spacePlanesRow.mainSum:=by
  unfold Func.isWrapper;first|(rw [if_pos (by decide +kernel)];kernel_rfl)|(rw [if_neg (by decide +kernel)];exact ⟨rfl,rfl⟩)
theorem a3r:Rows.SpacePlanesSaid:=
  OpenClaim.holds_of_wide 14 Tryz.f14 rfl rfl rfl rfl rfl rfl rfl ⟨rfl,rfl,rfl,rfl,rfl⟩ rfl rfl rfl rfl rfl a2i Tryz.func14 a3g a3w a3v
    (fun os started H enc _=>a3j os started H enc)
theorem a36:Rows.spacePlanesRow.wfByText (OpenSpec.ofChange Rows.spacePlanesSpec)=true:=by kernel_rfl
theorem a3u:true=Tryz.pinned.checked.prog.looks []:=by kernel_rfl
theorem a3x:Tryz.pinned.checked.prog.mainIs=some (true,"81da6fbd9c49cf521be0089a49d14cb5087461cb03ea0b319b989e6d81769743".toList):=by kernel_rfl
theorem a3y:false=Rows.spacePlanesRow.goesBy Tryz.pinned.checked.prog:=by kernel_rfl
theorem a3t:([125].all fun u=>!Tryz.pinned.checked.prog.wantsStandIn u)=true:=by kernel_rfl
theorem spacePlanes_card:Rows.SpacePlanesCardSaid:=
  Claim7.holds_tied_plain_at .later [] [.data,.data,.data,.sentinel,.sentinel] true (true,"81da6fbd9c49cf521be0089a49d14cb5087461cb03ea0b319b989e6d81769743") true
    a3r (fun _ h=>by cases h) a36 (fun _ h=>by cases h) spacePlanes_row_tie rfl ⟨rfl,rfl⟩ a3x rfl
    (fun f fn hf hfn=>by
      obtain rfl:f=14:=(Option.some.inj (a2i.symm.trans hf)).symm
      obtain rfl:fn=Tryz.f14:=(Option.some.inj (Tryz.func14.symm.trans hfn)).symm
      exact ⟨a3u,fun j t ht=>by
        rw [Tryz.params14] at ht
        have hm:t∈[125]:=by simpa using Array.mem_of_getElem? ht
        exact (show Tryz.pinned.checked.prog.wantsStandIn t=false by simpa using List.all_eq_true.1 a3t t hm)⟩)
    a3y
end Go.Proofs.YtoiejgkkcfkliaaGreatDoor
end
