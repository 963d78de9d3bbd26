/- Lemmas on the program and its library, part KNumbersF. -/
import Derived.Test.YtoiejgkkcfkliaaGreatDoorZK0
import Derived.Test.YtoiejgkkcfkliaaGreatDoorZL4
set_option linter.unusedVariables false
set_option linter.unusedSimpArgs false
section
set_option maxRecDepth 100000
namespace Go.Proofs.YtoiejgkkcfkliaaGreatDoor
open Go Go.Ax Go.ChangeShapes Go.WideShapes Go.ChangeAt Go.RowKit Go.ChangeMaps
theorem spaceNumbers_lifted (os:Os) (started:os.Started) (H:Type) (enc:TypeId×Value→H) :
    ReturnsInHanded {} Tryz.checked os 15 .any (fun w args=>(Rows.spaceNumbersSpec.pre enc Tryz.prog Tryz.f15 [] false w args∧laidMetH Tryz.prog laid5 w)∧sizedMet enc Tryz.prog Tryz.f15 (OpenSpec.ofChange Rows.spaceNumbersSpec) false w args)
      (Rows.spaceNumbersSpec.post enc Tryz.prog Tryz.f15 false true false false):=by
  refine returnsInHanded_of_change_and (C:=Tryz.checked) (X:=fun w _=>laidMetH Tryz.prog laid5 w) (fun _ _ _ hh h=>h.of_heap hh) own started (by kernel_rfl) Tryz.func15
    (ChangeSpec.witness_shaped (enc:=enc) (C:=Tryz.checked) (os:=os) (X:=fun w _=>laidMetH Tryz.prog laid5 w) false (World.doorLaid Tryz.prog 400 os) #[.string ⟨#[]⟩,.string ⟨#[]⟩] 8 rfl (World.shaped_of_RefB (by kernel_rfl) (by kernel_rfl)) (by kernel_rfl) (by kernel_rfl) (by kernel_rfl) (door_met os _)) ?_
  intro W base args ds gs before hval0 hW _ _ hL _
  have hval:∀(j:Nat) t v,Tryz.f15.params[j]?=some t→args[j]?=some v→Value.okWide Tryz.prog W .any base t v:=hval0
  have hW':=hW
  obtain ⟨p,q,hA0,hV,rfl,hfz,hnd⟩:=hW
  have hA:DataW.TrodAll enc Tryz.prog W 0 (fun _=>true) true Tryz.f15.params.toList args.toList ds p:=hA0
  rw [Tryz.params15] at hA hval
  obtain ⟨v0,v1,d0,d1,p0,p1,rfl,rfl,rfl,h0,h1⟩:=trodAll_two hA
  obtain ⟨rfl,rfl⟩:=trodVars_none hV
  obtain ⟨s0,rfl,rfl,rfl,z0⟩:=open_string Tryz.underlying26 (hval 0 26 v0 rfl rfl) h0
  obtain ⟨s1,rfl,rfl,rfl,z1⟩:=open_string Tryz.underlying26 (hval 1 26 v1 rfl rfl) h1
  clear hA0 hval0
  simp only [List.append_nil] at hW'
  refine ((w_Numbers s0.data.toList s1.data.toList).use (E:=env0) (w:=W) (vs:=[.string s0,.string s1]) (env0_ok W) (G_of_laid hL) ⟨_,_,rfl,rv_v _ rfl _ _,⟨_,_,rfl,rv_v _ rfl _ _,rfl⟩⟩).mono fun e W' ⟨v,he,hr,hb⟩=>?_
  obtain rfl:=rv_true hr
  subst he
  exact ⟨_,rfl,_,_,[],[],[],[],hW',trodAll_mk1 (shut_bool Tryz.underlying4 _),trodAll_mk2 (shut_string Tryz.underlying26 z0) (shut_string Tryz.underlying26 z1),rfl,hb.frame _,fun h=>by cases h⟩
end Go.Proofs.YtoiejgkkcfkliaaGreatDoor
end
