/- The law, lifted. -/
import Derived.Test.YtoiejgkkcfkliaaGreatDoorXC
import Derived.Test.YtoiejgkkcfkliaaGreatDoorVC
import Derived.Test.YtoiejgkkcfkliaaGreatDoorZK0
set_option linter.unusedVariables false
set_option linter.unusedSimpArgs false
set_option maxHeartbeats 4000000
set_option maxRecDepth 100000
namespace Go.Proofs.YtoiejgkkcfkliaaGreatDoor
open Go Go.Ax Go.ChangeShapes Go.WideShapes Go.ChangeAt Go.RowKit Go.ChangeMaps
theorem a2s (os:Os) (z:os.Started) (H:Type) (enc:TypeId×Value→H) :
    ReturnsInHanded {} Tryz.checked os 10 .any (fun w args=>(Rows.spaceCrossingsSpec.pre enc Tryz.prog Tryz.f10 [] false w args∧laidMetH Tryz.prog laid5 w)∧sizedMet enc Tryz.prog Tryz.f10 (OpenSpec.ofChange Rows.spaceCrossingsSpec) false w args)
      (Rows.spaceCrossingsSpec.post enc Tryz.prog Tryz.f10 false true false false):=by
  refine returnsInHanded_of_change_and (C:=Tryz.checked) (X:=fun w _=>laidMetH Tryz.prog laid5 w) (fun _ _ _ hh h=>h.of_heap hh) own z (by kernel_rfl) Tryz.func10
    (ChangeSpec.witness_shaped (enc:=enc) (C:=Tryz.checked) (os:=os) (X:=fun w _=>laidMetH Tryz.prog laid5 w) false (World.doorLaid Tryz.prog 400 os) #[.agg #[.string ⟨#[]⟩,.string ⟨#[]⟩,.string ⟨#[]⟩,.string ⟨#[]⟩,.string ⟨#[]⟩,.string ⟨#[]⟩,.string ⟨#[]⟩,.string ⟨#[]⟩,.string ⟨#[]⟩,.int .i64 0,.int .i64 0,.int .i64 0,.string ⟨#[]⟩,.int .i64 0,.int .i64 0,.int .i64 0,.string ⟨#[]⟩,.int .i64 0,.int .i64 0,.int .i64 0,.string ⟨#[]⟩]] 8 rfl (World.shaped_of_RefB (by kernel_rfl) (by kernel_rfl)) (by kernel_rfl) (by kernel_rfl) (by kernel_rfl) (door_met os _)) ?_
  intro W b args ds gs before hv hW _ _ hL _
  have hval:∀(j:Nat) t v,Tryz.f10.params[j]?=some t→args[j]?=some v→Value.okWide Tryz.prog W .any b t v:=hv
  have hW':=hW
  obtain ⟨p,q,hA0,hV,rfl,_,_⟩:=hW
  have hA:DataW.TrodAll enc Tryz.prog W 0 (fun _=>true) true Tryz.f10.params.toList args.toList ds p:=hA0
  rw [Tryz.params10] at hA hval
  obtain ⟨v0,d0,rfl,rfl,h0⟩:=trodAll_one hA
  obtain ⟨rfl,rfl⟩:=trodVars_none hV
  obtain ⟨c0,rfl,rfl,z0,l0⟩:=flat_open 6 (show fkOf Tryz.prog 6 104=some [.s,.s,.s,.s,.s,.s,.s,.s,.s,.i .i64,.i .i64,.i .i64,.s,.i .i64,.i .i64,.i .i64,.s,.i .i64,.i .i64,.i .i64,.s] by kernel_rfl) (by first|exact .inl ⟨_,_,Tryz.underlying104⟩|exact .inr ⟨_,Tryz.underlying104⟩) (hval 0 104 v0 rfl rfl) h0
  obtain ⟨s0,_,rfl,_,s1,_,rfl,_,s2,_,rfl,_,s3,_,rfl,_,s4,_,rfl,_,s5,_,rfl,_,s6,_,rfl,_,s7,_,rfl,_,s8,_,rfl,_,s9,_,rfl,y9,s10,_,rfl,y10,s11,_,rfl,y11,s12,_,rfl,_,s13,_,rfl,y13,s14,_,rfl,y14,s15,_,rfl,y15,s16,_,rfl,_,s17,_,rfl,y17,s18,_,rfl,y18,s19,_,rfl,y19,s20,_,rfl,_,rfl⟩:=l0
  clear hA0 hv
  simp only [List.append_nil] at hW'
  have hp:=a4d (s0.data.toList,s1.data.toList,s2.data.toList) (s3.data.toList,s4.data.toList,s5.data.toList) (s6.data.toList,s7.data.toList,s8.data.toList) ⟨s9,s10,s11,s12.data.toList⟩ ⟨s13,s14,s15,s16.data.toList⟩ ⟨s17,s18,s19,s20.data.toList⟩ ⟨int_in y9,int_in y10,int_in y11⟩ ⟨int_in y13,int_in y14,int_in y15⟩ ⟨int_in y17,int_in y18,int_in y19⟩
  have h1:=hp.use (E:=env0) (w:=W) (vs:=[.agg [.string s0,.string s1,.string s2,.string s3,.string s4,.string s5,.string s6,.string s7,.string s8,.int .i64 s9,.int .i64 s10,.int .i64 s11,.string s12,.int .i64 s13,.int .i64 s14,.int .i64 s15,.string s16,.int .i64 s17,.int .i64 s18,.int .i64 s19,.string s20].toArray]) (env0_ok W) (G_of_laid hL) ⟨_,_,rfl,⟨_,rfl,by repeat (first|exact lr_nil|refine lr_cons rfl ?_)⟩,rfl⟩
  refine h1.mono fun e W' ⟨v,he,hr,hb⟩=>?_
  obtain rfl:=rv_true hr
  subst he
  exact ⟨_,rfl,_,_,[],[],[],[],hW',trodAll_mk1 (shut_bool Tryz.underlying4 _),trodAll_mk1 (z0 _ _ _ _),rfl,hb.frame _,fun h=>by cases h⟩
end Go.Proofs.YtoiejgkkcfkliaaGreatDoor
