/- Lemmas on the program and its library, part KBoardsF. -/
import Derived.Test.YtalgbhjnbgkneaaGreatDoorZK0
import Derived.Test.YtalgbhjnbgkneaaGreatDoorZM5
set_option linter.unusedVariables false
set_option linter.unusedSimpArgs false
section
set_option maxHeartbeats 4000000
set_option maxRecDepth 100000
namespace Go.Proofs.YtalgbhjnbgkneaaGreatDoor
open Go Go.Ax Go.ChangeShapes Go.WideShapes Go.ChangeAt Go.RowKit Go.ChangeMaps
theorem nestBoards_lifted (os:Os) (started:os.Started) (H:Type) (enc:TypeId×Value→H) :
    ReturnsInHanded {} Tryz.checked os 6 .any (fun w args=>(Rows.nestBoardsSpec.pre enc Tryz.prog Tryz.f6 [] false w args∧laidMetH Tryz.prog laidL w)∧sizedMet enc Tryz.prog Tryz.f6 (OpenSpec.ofChange Rows.nestBoardsSpec) false w args)
      (Rows.nestBoardsSpec.post enc Tryz.prog Tryz.f6 false true false false):=by
  refine returnsInHanded_of_change_and (C:=Tryz.checked) (X:=fun w _=>laidMetH Tryz.prog laidL w) (fun _ _ _ hh h=>h.of_heap hh) own started (by kernel_rfl) Tryz.func6
    (ChangeSpec.witness_shaped (enc:=enc) (C:=Tryz.checked) (os:=os) (X:=fun w _=>laidMetH Tryz.prog laidL w) false (World.doorLaid Tryz.prog 400 os) #[.agg #[.int .i64 0,.int .i64 0,.int .i64 0],.int .i64 0] 8 rfl (World.shaped_of_RefB (by kernel_rfl) (by kernel_rfl)) (by kernel_rfl) (by kernel_rfl) (by kernel_rfl) (door_met os _)) ?_
  intro W base args ds gs before hval0 hW _ _ hL _
  have hval:∀(j:Nat) t v,Tryz.f6.params[j]?=some t→args[j]?=some v→Value.okWide Tryz.prog W .any base t v:=hval0
  have hW':=hW
  obtain ⟨p,q,hA0,hV,rfl,hfz,hnd⟩:=hW
  have hA:DataW.TrodAll enc Tryz.prog W 0 (fun _=>true) true Tryz.f6.params.toList args.toList ds p:=hA0
  rw [Tryz.params6] at hA hval
  obtain ⟨v0,v1,d0,d1,p0,p1,rfl,rfl,rfl,h0,h1⟩:=trodAll_two hA
  obtain ⟨rfl,rfl⟩:=trodVars_none hV
  obtain ⟨c0,rfl,rfl,z0,l0⟩:=flat_open 6 (show fkOf Tryz.prog 6 51=some [.i .i64,.i .i64,.i .i64] by kernel_rfl) (by first|exact .inl ⟨_,_,Tryz.underlying51⟩|exact .inr ⟨_,Tryz.underlying51⟩) (hval 0 51 v0 rfl rfl) h0
  obtain ⟨s0_0,_,rfl,y0_0,s0_1,_,rfl,y0_1,s0_2,_,rfl,y0_2,rfl⟩:=l0
  obtain ⟨s1,rfl,rfl,rfl,z1⟩:=open_int Tryz.underlying3 (hval 1 3 v1 rfl rfl) h1
  have b1:=int_in z1
  clear hA0 hval0
  simp only [List.append_nil] at hW'
  have hp:=w_Boards s0_0 s0_1 s0_2 s1
  have h1:=hp.use (E:=env0) (w:=W) (vs:=[.agg [.int .i64 s0_0,.int .i64 s0_1,.int .i64 s0_2].toArray,.int .i64 s1]) (env0_ok W) (G_of_laid hL) ⟨_,_,rfl,⟨_,rfl,(lr_cons rfl (lr_cons rfl (lr_cons rfl lr_nil)))⟩,⟨_,_,rfl,rv_v _ rfl _ _,rfl⟩⟩
  refine h1.mono fun e W' ⟨v,he,hr,hb⟩=>?_
  obtain rfl:=rv_true hr
  subst he
  exact ⟨_,rfl,_,_,[],[],[],[],hW',trodAll_mk1 (shut_bool Tryz.underlying4 _),trodAll_mk2 (z0 _ _ _ _) (shut_int Tryz.underlying3 z1),rfl,hb.frame _,fun h=>by cases h⟩
end Go.Proofs.YtalgbhjnbgkneaaGreatDoor
end
