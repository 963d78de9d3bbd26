/- Lemmas on the program and its library: part XKCoordinatesF. -/
import Derived.Test.YtoiejgkkcfkliaaGreatDoorQCZ
import Derived.Test.YtoiejgkkcfkliaaGreatDoorXC
import Derived.Test.YtoiejgkkcfkliaaGreatDoorZK0
set_option linter.unusedVariables false
set_option linter.unusedSimpArgs false
section
set_option maxHeartbeats 4000000
set_option maxRecDepth 100000
namespace Go.Proofs.YtoiejgkkcfkliaaGreatDoor
open Go Go.Ax Go.ChangeShapes Go.WideShapes Go.ChangeAt Go.RowKit Go.ChangeMaps
theorem spaceCoordinates_lifted (os:Os) (started:os.Started) (H:Type) (enc:TypeId×Value→H) :
    ReturnsInHanded {} Tryz.checked os 11 .any (fun w args=>(Rows.spaceCoordinatesSpec.pre enc Tryz.prog Tryz.f11 [] false w args∧laidMetH Tryz.prog laid5 w)∧sizedMet enc Tryz.prog Tryz.f11 (OpenSpec.ofChange Rows.spaceCoordinatesSpec) false w args)
      (Rows.spaceCoordinatesSpec.post enc Tryz.prog Tryz.f11 false true false false):=by
  refine returnsInHanded_of_change_and (C:=Tryz.checked) (X:=fun w _=>laidMetH Tryz.prog laid5 w) (fun _ _ _ hh h=>h.of_heap hh) own started (by kernel_rfl) Tryz.func11
    (ChangeSpec.witness_shaped (enc:=enc) (C:=Tryz.checked) (os:=os) (X:=fun w _=>laidMetH Tryz.prog laid5 w) false (World.doorLaid Tryz.prog 400 os) #[.agg #[.string ⟨#[]⟩,.string ⟨#[]⟩,.string ⟨#[]⟩,.string ⟨#[]⟩,.string ⟨#[]⟩,.string ⟨#[]⟩,.string ⟨#[]⟩,.string ⟨#[]⟩,.string ⟨#[]⟩,.string ⟨#[]⟩,.string ⟨#[]⟩,.string ⟨#[]⟩],.agg #[.string ⟨#[]⟩,.string ⟨#[]⟩,.string ⟨#[]⟩],.agg #[.int .i64 0,.int .i64 0,.int .i64 0,.string ⟨#[]⟩]] 8 rfl (World.shaped_of_RefB (by kernel_rfl) (by kernel_rfl)) (by kernel_rfl) (by kernel_rfl) (by kernel_rfl) (door_met os _)) ?_
  intro W base args ds gs before hval0 hW _ _ hL _
  have hval:∀(j:Nat) t v,Tryz.f11.params[j]?=some t→args[j]?=some v→Value.okWide Tryz.prog W .any base t v:=hval0
  have hW':=hW
  obtain ⟨p,q,hA0,hV,rfl,hfz,hnd⟩:=hW
  have hA:DataW.TrodAll enc Tryz.prog W 0 (fun _=>true) true Tryz.f11.params.toList args.toList ds p:=hA0
  rw [Tryz.params11] at hA hval
  obtain ⟨v0,v1,v2,d0,d1,d2,p0,p1,p2,rfl,rfl,rfl,h0,h1,h2⟩:=trodAll_three hA
  obtain ⟨rfl,rfl⟩:=trodVars_none hV
  obtain ⟨c0,rfl,rfl,z0,l0⟩:=flat_open 6 (show fkOf Tryz.prog 6 39=some [.s,.s,.s,.s,.s,.s,.s,.s,.s,.s,.s,.s] by kernel_rfl) (by first|exact .inl ⟨_,_,Tryz.underlying39⟩|exact .inr ⟨_,Tryz.underlying39⟩) (hval 0 39 v0 rfl rfl) h0
  obtain ⟨s0_0,_,rfl,y0_0,s0_1,_,rfl,y0_1,s0_2,_,rfl,y0_2,s0_3,_,rfl,y0_3,s0_4,_,rfl,y0_4,s0_5,_,rfl,y0_5,s0_6,_,rfl,y0_6,s0_7,_,rfl,y0_7,s0_8,_,rfl,y0_8,s0_9,_,rfl,y0_9,s0_10,_,rfl,y0_10,s0_11,_,rfl,y0_11,rfl⟩:=l0
  obtain ⟨c1,rfl,rfl,z1,l1⟩:=flat_open 6 (show fkOf Tryz.prog 6 37=some [.s,.s,.s] by kernel_rfl) (by first|exact .inl ⟨_,_,Tryz.underlying37⟩|exact .inr ⟨_,Tryz.underlying37⟩) (hval 1 37 v1 rfl rfl) h1
  obtain ⟨s1_0,_,rfl,y1_0,s1_1,_,rfl,y1_1,s1_2,_,rfl,y1_2,rfl⟩:=l1
  obtain ⟨c2,rfl,rfl,z2,l2⟩:=flat_open 6 (show fkOf Tryz.prog 6 42=some [.i .i64,.i .i64,.i .i64,.s] by kernel_rfl) (by first|exact .inl ⟨_,_,Tryz.underlying42⟩|exact .inr ⟨_,Tryz.underlying42⟩) (hval 2 42 v2 rfl rfl) h2
  obtain ⟨s2_0,_,rfl,y2_0,s2_1,_,rfl,y2_1,s2_2,_,rfl,y2_2,s2_3,_,rfl,y2_3,rfl⟩:=l2
  clear hA0 hval0
  simp only [List.append_nil] at hW'
  have hp:=w_Coordinates (s0_0.data.toList,s0_1.data.toList,s0_2.data.toList) (s0_3.data.toList,s0_4.data.toList,s0_5.data.toList) (s0_6.data.toList,s0_7.data.toList,s0_8.data.toList) (s0_9.data.toList,s0_10.data.toList,s0_11.data.toList) (s1_0.data.toList,s1_1.data.toList,s1_2.data.toList) ⟨s2_0,s2_1,s2_2,s2_3.data.toList⟩ ⟨int_in y2_0,int_in y2_1,int_in y2_2⟩ (len_in y2_3)
  have h1:=hp.use (E:=env0) (w:=W) (vs:=[.agg [.string s0_0,.string s0_1,.string s0_2,.string s0_3,.string s0_4,.string s0_5,.string s0_6,.string s0_7,.string s0_8,.string s0_9,.string s0_10,.string s0_11].toArray,.agg [.string s1_0,.string s1_1,.string s1_2].toArray,.agg [.int .i64 s2_0,.int .i64 s2_1,.int .i64 s2_2,.string s2_3].toArray]) (env0_ok W) (G_of_laid hL) ⟨_,_,rfl,⟨_,rfl,(lr_cons rfl (lr_cons rfl (lr_cons rfl (lr_cons rfl (lr_cons rfl (lr_cons rfl (lr_cons rfl (lr_cons rfl (lr_cons rfl (lr_cons rfl (lr_cons rfl (lr_cons rfl lr_nil))))))))))))⟩,⟨_,_,rfl,⟨_,rfl,(lr_cons rfl (lr_cons rfl (lr_cons rfl lr_nil)))⟩,⟨_,_,rfl,⟨_,rfl,(lr_cons rfl (lr_cons rfl (lr_cons rfl (lr_cons rfl lr_nil))))⟩,rfl⟩⟩⟩
  refine h1.mono fun e W' ⟨v,he,hr,hb⟩=>?_
  obtain rfl:=rv_true hr
  subst he
  exact ⟨_,rfl,_,_,[],[],[],[],hW',trodAll_mk1 (shut_bool Tryz.underlying4 _),trodAll_mk3 (z0 _ _ _ _) (z1 _ _ _ _) (z2 _ _ _ _),rfl,hb.frame _,fun h=>by cases h⟩
end Go.Proofs.YtoiejgkkcfkliaaGreatDoor
end
