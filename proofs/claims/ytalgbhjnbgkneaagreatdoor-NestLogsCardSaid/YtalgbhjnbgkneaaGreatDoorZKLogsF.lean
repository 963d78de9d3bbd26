/- Lemmas on the program and its library, part KLogsF. -/
import Derived.Test.YtalgbhjnbgkneaaGreatDoorZK0
import Derived.Test.YtalgbhjnbgkneaaGreatDoorZNL
set_option linter.unusedVariables false
set_option linter.unusedSimpArgs false
section
set_option maxHeartbeats 4000000
set_option maxRecDepth 100000
namespace Go.Proofs.YtalgbhjnbgkneaaGreatDoor
open Go Go.Ax Go.ChangeShapes Go.WideShapes Go.ChangeAt Go.RowKit Go.ChangeMaps
theorem nestLogs_lifted (os:Os) (started:os.Started) (H:Type) (enc:TypeId×Value→H) :
    ReturnsInHanded {} Tryz.checked os 10 .any (fun w args=>(Rows.nestLogsSpec.pre enc Tryz.prog Tryz.f10 [] false w args∧laidMetH Tryz.prog laidL w)∧sizedMet enc Tryz.prog Tryz.f10 (OpenSpec.ofChange Rows.nestLogsSpec) false w args)
      (Rows.nestLogsSpec.post enc Tryz.prog Tryz.f10 false true false false):=by
  refine returnsInHanded_of_change_and (C:=Tryz.checked) (X:=fun w _=>laidMetH Tryz.prog laidL w) (fun _ _ _ hh h=>h.of_heap hh) own started (by kernel_rfl) Tryz.func10
    (ChangeSpec.witness_shaped (enc:=enc) (C:=Tryz.checked) (os:=os) (X:=fun w _=>laidMetH Tryz.prog laidL w) false (World.doorLaid Tryz.prog 400 os) #[.int .i64 0,.int .i64 0,.int .i64 0] 8 rfl (World.shaped_of_RefB (by kernel_rfl) (by kernel_rfl)) (by kernel_rfl) (by kernel_rfl) (by kernel_rfl) (door_met os _)) ?_
  intro W base args ds gs before hval0 hW _ _ hL _
  have hval:∀(j:Nat) t v,Tryz.f10.params[j]?=some t→args[j]?=some v→Value.okWide Tryz.prog W .any base t v:=hval0
  have hW':=hW
  obtain ⟨p,q,hA0,hV,rfl,hfz,hnd⟩:=hW
  have hA:DataW.TrodAll enc Tryz.prog W 0 (fun _=>true) true Tryz.f10.params.toList args.toList ds p:=hA0
  rw [Tryz.params10] at hA hval
  obtain ⟨v0,v1,v2,d0,d1,d2,p0,p1,p2,rfl,rfl,rfl,h0,h1,h2⟩:=trodAll_three hA
  obtain ⟨rfl,rfl⟩:=trodVars_none hV
  obtain ⟨s0,rfl,rfl,rfl,z0⟩:=open_int Tryz.underlying3 (hval 0 3 v0 rfl rfl) h0
  have b0:=int_in z0
  obtain ⟨s1,rfl,rfl,rfl,z1⟩:=open_int Tryz.underlying3 (hval 1 3 v1 rfl rfl) h1
  have b1:=int_in z1
  obtain ⟨s2,rfl,rfl,rfl,z2⟩:=open_int Tryz.underlying3 (hval 2 3 v2 rfl rfl) h2
  have b2:=int_in z2
  clear hA0 hval0
  simp only [List.append_nil] at hW'
  have hp:=w_Logs s0 s1 s2
  have h1:=hp.use (E:=env0) (w:=W) (vs:=[.int .i64 s0,.int .i64 s1,.int .i64 s2]) (env0_ok W) (G_of_laid hL) ⟨_,_,rfl,rv_v _ rfl _ _,⟨_,_,rfl,rv_v _ rfl _ _,⟨_,_,rfl,rv_v _ rfl _ _,rfl⟩⟩⟩
  refine h1.mono fun e W' ⟨v,he,hr,hb⟩=>?_
  obtain rfl:=rv_true hr
  subst he
  exact ⟨_,rfl,_,_,[],[],[],[],hW',trodAll_mk1 (shut_bool Tryz.underlying4 _),trodAll_mk3 (shut_int Tryz.underlying3 z0) (shut_int Tryz.underlying3 z1) (shut_int Tryz.underlying3 z2),rfl,hb.frame _,fun h=>by cases h⟩
end Go.Proofs.YtalgbhjnbgkneaaGreatDoor
end
