/- Lemmas on the program and its library: part XKComposedF. -/
import Derived.Test.YtoiejgkkcfkliaaGreatDoorU19w
import Derived.Test.YtoiejgkkcfkliaaGreatDoorXC
import Derived.Test.YtoiejgkkcfkliaaGreatDoorZK0
set_option linter.unusedVariables false
set_option linter.unusedSimpArgs false
section
set_option maxHeartbeats 4000000
set_option maxRecDepth 100000
namespace Go.Proofs.YtoiejgkkcfkliaaGreatDoor
open Go Go.Ax Go.ChangeShapes Go.WideShapes Go.ChangeAt Go.RowKit Go.ChangeMaps
theorem b1v (os:Os) (started:os.Started) (H:Type) (enc:TypeId×Value→H) :
    ReturnsInHanded {} Tryz.checked os 8 .any (fun w args=>(Rows.spaceComposedSpec.pre enc Tryz.prog Tryz.f8 [] false w args∧laidMetH Tryz.prog c6o w)∧sizedMet enc Tryz.prog Tryz.f8 (OpenSpec.ofChange Rows.spaceComposedSpec) false w args)
      (Rows.spaceComposedSpec.post enc Tryz.prog Tryz.f8 false true false false):=by
  refine returnsInHanded_of_change_and (C:=Tryz.checked) (X:=fun w _=>laidMetH Tryz.prog c6o w) (fun _ _ _ hh h=>h.of_heap hh) own started (by kernel_rfl) Tryz.func8
    (ChangeSpec.witness_shaped (enc:=enc) (C:=Tryz.checked) (os:=os) (X:=fun w _=>laidMetH Tryz.prog c6o w) false (World.doorLaid Tryz.prog 400 os) #[.agg #[.string ⟨#[]⟩,.string ⟨#[]⟩,.string ⟨#[]⟩,.string ⟨#[]⟩,.string ⟨#[]⟩,.string ⟨#[]⟩,.string ⟨#[]⟩,.string ⟨#[]⟩,.string ⟨#[]⟩,.string ⟨#[]⟩,.string ⟨#[]⟩,.string ⟨#[]⟩],.agg #[.string ⟨#[]⟩,.string ⟨#[]⟩,.string ⟨#[]⟩,.string ⟨#[]⟩,.string ⟨#[]⟩,.string ⟨#[]⟩,.string ⟨#[]⟩,.string ⟨#[]⟩,.string ⟨#[]⟩,.string ⟨#[]⟩,.string ⟨#[]⟩,.string ⟨#[]⟩],.agg #[.string ⟨#[]⟩,.string ⟨#[]⟩,.string ⟨#[]⟩,.string ⟨#[]⟩]] 8 rfl (World.shaped_of_RefB (by kernel_rfl) (by kernel_rfl)) (by kernel_rfl) (by kernel_rfl) (by kernel_rfl) (d5y os _)) ?_
  intro W base args ds gs before hval0 hW _ _ hL _
  have hval:∀(j:Nat) t v,Tryz.f8.params[j]?=some t→args[j]?=some v→Value.okWide Tryz.prog W .any base t v:=hval0
  have hW':=hW
  obtain ⟨p,q,hA0,hV,rfl,hfz,hnd⟩:=hW
  have hA:DataW.TrodAll enc Tryz.prog W 0 (fun _=>true) true Tryz.f8.params.toList args.toList ds p:=hA0
  rw [Tryz.params8] at hA hval
  obtain ⟨v0,v1,v2,d0,d1,d2,p0,p1,p2,rfl,rfl,rfl,h0,h1,h2⟩:=trodAll_three hA
  obtain ⟨rfl,rfl⟩:=trodVars_none hV
  obtain ⟨c0,rfl,rfl,z0,l0⟩:=b6o 6 (show c04 Tryz.prog 6 39=some [.s,.s,.s,.s,.s,.s,.s,.s,.s,.s,.s,.s] by kernel_rfl) (by first|exact .inl ⟨_,_,Tryz.underlying39⟩|exact .inr ⟨_,Tryz.underlying39⟩) (hval 0 39 v0 rfl rfl) h0
  obtain ⟨s0_0,_,rfl,y0_0,s0_1,_,rfl,y0_1,s0_2,_,rfl,y0_2,s0_3,_,rfl,y0_3,s0_4,_,rfl,y0_4,s0_5,_,rfl,y0_5,s0_6,_,rfl,y0_6,s0_7,_,rfl,y0_7,s0_8,_,rfl,y0_8,s0_9,_,rfl,y0_9,s0_10,_,rfl,y0_10,s0_11,_,rfl,y0_11,rfl⟩:=l0
  obtain ⟨c1,rfl,rfl,z1,l1⟩:=b6o 6 (show c04 Tryz.prog 6 39=some [.s,.s,.s,.s,.s,.s,.s,.s,.s,.s,.s,.s] by kernel_rfl) (by first|exact .inl ⟨_,_,Tryz.underlying39⟩|exact .inr ⟨_,Tryz.underlying39⟩) (hval 1 39 v1 rfl rfl) h1
  obtain ⟨s1_0,_,rfl,y1_0,s1_1,_,rfl,y1_1,s1_2,_,rfl,y1_2,s1_3,_,rfl,y1_3,s1_4,_,rfl,y1_4,s1_5,_,rfl,y1_5,s1_6,_,rfl,y1_6,s1_7,_,rfl,y1_7,s1_8,_,rfl,y1_8,s1_9,_,rfl,y1_9,s1_10,_,rfl,y1_10,s1_11,_,rfl,y1_11,rfl⟩:=l1
  obtain ⟨c2,rfl,rfl,z2,l2⟩:=b6o 6 (show c04 Tryz.prog 6 80=some [.s,.s,.s,.s] by kernel_rfl) (by first|exact .inl ⟨_,_,Tryz.underlying80⟩|exact .inr ⟨_,Tryz.underlying80⟩) (hval 2 80 v2 rfl rfl) h2
  obtain ⟨s2_0,_,rfl,y2_0,s2_1,_,rfl,y2_1,s2_2,_,rfl,y2_2,s2_3,_,rfl,y2_3,rfl⟩:=l2
  clear hA0 hval0
  simp only [List.append_nil] at hW'
  have hp:=c9t (s0_0.data.toList,s0_1.data.toList,s0_2.data.toList) (s0_3.data.toList,s0_4.data.toList,s0_5.data.toList) (s0_6.data.toList,s0_7.data.toList,s0_8.data.toList) (s0_9.data.toList,s0_10.data.toList,s0_11.data.toList) (s1_0.data.toList,s1_1.data.toList,s1_2.data.toList) (s1_3.data.toList,s1_4.data.toList,s1_5.data.toList) (s1_6.data.toList,s1_7.data.toList,s1_8.data.toList) (s1_9.data.toList,s1_10.data.toList,s1_11.data.toList) s2_0.data.toList s2_1.data.toList s2_2.data.toList s2_3.data.toList
  have h1:=hp.use (E:=env0) (w:=W) (vs:=[.agg [.string s0_0,.string s0_1,.string s0_2,.string s0_3,.string s0_4,.string s0_5,.string s0_6,.string s0_7,.string s0_8,.string s0_9,.string s0_10,.string s0_11].toArray,.agg [.string s1_0,.string s1_1,.string s1_2,.string s1_3,.string s1_4,.string s1_5,.string s1_6,.string s1_7,.string s1_8,.string s1_9,.string s1_10,.string s1_11].toArray,.agg [.string s2_0,.string s2_1,.string s2_2,.string s2_3].toArray]) (d8l W) (d1p hL) ⟨_,_,rfl,⟨_,rfl,(a0i rfl (a0i rfl (a0i rfl (a0i rfl (a0i rfl (a0i rfl (a0i rfl (a0i rfl (a0i rfl (a0i rfl (a0i rfl (a0i rfl c8q))))))))))))⟩,⟨_,_,rfl,⟨_,rfl,(a0i rfl (a0i rfl (a0i rfl (a0i rfl (a0i rfl (a0i rfl (a0i rfl (a0i rfl (a0i rfl (a0i rfl (a0i rfl (a0i rfl c8q))))))))))))⟩,⟨_,_,rfl,⟨_,rfl,(a0i rfl (a0i rfl (a0i rfl (a0i rfl c8q))))⟩,rfl⟩⟩⟩
  refine h1.mono fun e W' ⟨v,he,hr,hb⟩=>?_
  obtain rfl:=d9h hr
  subst he
  exact ⟨_,rfl,_,_,[],[],[],[],hW',trodAll_mk1 (shut_bool Tryz.underlying4 _),trodAll_mk3 (z0 _ _ _ _) (z1 _ _ _ _) (z2 _ _ _ _),rfl,hb.frame _,fun h=>by cases h⟩
end Go.Proofs.YtoiejgkkcfkliaaGreatDoor
end
