/- Further lemmas on the program, part Rounds6. -/
import Derived.Test.YtalgbhjnbgkneaaGreatDoorZK0
import Derived.Test.YtalgbhjnbgkneaaGreatDoorXRounds5
set_option linter.unusedVariables false
set_option linter.unusedSimpArgs false
section
set_option maxHeartbeats 4000000
set_option maxRecDepth 100000
namespace Go.Proofs.YtalgbhjnbgkneaaGreatDoor
open Go Go.Ax Go.ChangeShapes Go.WideShapes Go.ChangeAt Go.RowKit Go.ChangeMaps
theorem u8_in {s:Int} (h:(Lit.int .u8 s).wf=true):∃n:Nat,s=n∧n < 256:=by
  have h:(decide (IntKind.u8.min≤s) && decide (s≤IntKind.u8.max))=true:=h
  rw [Bool.and_eq_true] at h
  have h1:=of_decide_eq_true h.1
  have h2:=of_decide_eq_true h.2
  have e1:IntKind.u8.min=0:=by decide
  have e2:IntKind.u8.max=255:=by decide
  exact ⟨s.toNat,by omega,by omega⟩
theorem nestRounds_lifted (os:Os) (started:os.Started) (H:Type) (enc:TypeId×Value→H) :
    ReturnsInHanded {} Tryz.checked os 11 .any (fun w args=>(Rows.nestRoundsSpec.pre enc Tryz.prog Tryz.f11 [] false w args∧laidMetH Tryz.prog laidL w)∧sizedMet enc Tryz.prog Tryz.f11 (OpenSpec.ofChange Rows.nestRoundsSpec) false w args)
      (Rows.nestRoundsSpec.post enc Tryz.prog Tryz.f11 false true false false):=by
  refine returnsInHanded_of_change_and (C:=Tryz.checked) (X:=fun w _=>laidMetH Tryz.prog laidL w) (fun _ _ _ hh h=>h.of_heap hh) own started (by kernel_rfl) Tryz.func11
    (ChangeSpec.witness_shaped (enc:=enc) (C:=Tryz.checked) (os:=os) (X:=fun w _=>laidMetH Tryz.prog laidL w) false (World.doorLaid Tryz.prog 400 os) #[.agg #[.int .u8 0,.int .u8 0,.int .u8 0,.int .u8 0]] 8 rfl (World.shaped_of_RefB (by kernel_rfl) (by kernel_rfl)) (by kernel_rfl) (by kernel_rfl) (by kernel_rfl) (door_met os _)) ?_
  intro W base args ds gs before hval0 hW _ _ hL _
  have hval:∀(j:Nat) t v,Tryz.f11.params[j]?=some t→args[j]?=some v→Value.okWide Tryz.prog W .any base t v:=hval0
  have hW':=hW
  obtain ⟨p,q,hA0,hV,rfl,hfz,hnd⟩:=hW
  have hA:DataW.TrodAll enc Tryz.prog W 0 (fun _=>true) true Tryz.f11.params.toList args.toList ds p:=hA0
  rw [Tryz.params11] at hA hval
  obtain ⟨v0,d0,rfl,rfl,h0⟩:=trodAll_one hA
  obtain ⟨rfl,rfl⟩:=trodVars_none hV
  obtain ⟨c0,rfl,rfl,z0,l0⟩:=flat_open 6 (show fkOf Tryz.prog 6 80=some [.i .u8,.i .u8,.i .u8,.i .u8] by kernel_rfl) (by first|exact .inl ⟨_,_,Tryz.underlying80⟩|exact .inr ⟨_,Tryz.underlying80⟩) (hval 0 80 v0 rfl rfl) h0
  obtain ⟨s0_0,_,rfl,y0_0,s0_1,_,rfl,y0_1,s0_2,_,rfl,y0_2,s0_3,_,rfl,y0_3,rfl⟩:=l0
  obtain ⟨n0,rfl,q0⟩:=u8_in y0_0
  obtain ⟨n1,rfl,q1⟩:=u8_in y0_1
  obtain ⟨n2,rfl,q2⟩:=u8_in y0_2
  obtain ⟨n3,rfl,q3⟩:=u8_in y0_3
  clear hA0 hval0
  simp only [List.append_nil] at hW'
  have hp:=w_Rounds n0 n1 n2 n3 q0 q1 q2 q3
  have h1:=hp.use (E:=env0) (w:=W) (vs:=[.agg [.int .u8 n0,.int .u8 n1,.int .u8 n2,.int .u8 n3].toArray]) (env0_ok W) (G_of_laid hL) ⟨_,_,rfl,⟨_,rfl,(lr_cons rfl (lr_cons rfl (lr_cons rfl (lr_cons rfl lr_nil))))⟩,rfl⟩
  refine h1.mono fun e W' ⟨v,he,hr,hb⟩=>?_
  obtain rfl:=rv_true hr
  subst he
  exact ⟨_,rfl,_,_,[],[],[],[],hW',trodAll_mk1 (shut_bool Tryz.underlying4 _),trodAll_mk1 (z0 _ _ _ _),rfl,hb.frame _,fun h=>by cases h⟩
end Go.Proofs.YtalgbhjnbgkneaaGreatDoor
end
