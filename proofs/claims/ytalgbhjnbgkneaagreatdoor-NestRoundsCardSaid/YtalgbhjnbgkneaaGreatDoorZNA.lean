/- Lemmas on the program and its library, part NA. -/
import Derived.Test.YtalgbhjnbgkneaaGreatDoorZVx36
import Derived.Test.YtalgbhjnbgkneaaGreatDoorZAuto2
set_option linter.unusedVariables false
set_option linter.unusedSimpArgs false
section
set_option maxRecDepth 1000000
namespace Go.Proofs
open Go.Ax Go.Vx
theorem rv_one (x:Value) (hx:x.oneCell'=true) (E:Env) (w:World):RV E w (.one (.v x)) x:=⟨rfl,rfl,hx⟩
theorem wr_start {w:World} (hg:G w):∃ρ,WR w 8 ρ (⟨Tr.lf,8⟩:Sx).f w∧∀b,8≤b→ρ b= .fresh:=by
  have h8:=hg.2
  have hl:∀b k s,(if b < 8 then Ph.live b 0 else Ph.fresh)= .live k s→b < 8∧k=b:=fun b k s h=>by
    by_cases hb:b < 8
    · rw [if_pos hb] at h;cases h;exact ⟨hb,rfl⟩
    · rw [if_neg hb] at h;cases h
  refine ⟨fun b=>if b < 8 then .live b 0 else .fresh,⟨fun b x h=>?_,fun b k s h=>?_,fun b k s h=>?_,fun b b' k s s' h h'=>?_,⟨rfl,rfl,rfl,Nat.le_refl _,fun _ _=>rfl⟩,fun b hb=>⟨0,if_pos hb⟩⟩,fun b hb=>if_neg (by omega)⟩
  · have:(⟨Tr.lf,8⟩:Sx).f b=none:=Tr.get_lf b
    rw [this] at h;cases h
  · obtain ⟨h1,rfl⟩:=hl b k s h;exact .inl ⟨h1,rfl,by omega⟩
  · obtain ⟨h1,rfl⟩:=hl b k s h;omega
  · obtain ⟨h1,rfl⟩:=hl b k s h
    obtain ⟨h2,h3⟩:=hl b' _ s' h'
    exact h3
theorem names_ok:(Tryz.prog.funcs.all fun fn=>!(fn.name == "runtime.NumGoroutine"))=true:=by kernel_rfl
theorem fns_ok:FnsOk Tryz.prog (fun f=>Tryz.prog.funcs[f]?) noExt:=
  ⟨fun _ _ h=>h,fun f fn h _=>by
    have h1:=Array.all_eq_true.1 names_ok
    obtain ⟨h2,h3⟩:=Array.getElem?_eq_some_iff.1 h
    have h4:=h1 f h2
    rw [h3] at h4
    simpa using h4,fun _ _ _ _ _ _ h=>by cases h⟩
theorem awake_run:kYes tt 8 (fun f=>Tryz.prog.funcs[f]?) noExt 100000 100 17=true:=by kernel_rfl
theorem c_awake:Ax.Pure Tryz.prog G 17 [] (.one (.v (.bool true))):=by
  obtain ⟨S,hS⟩:=saysYes_eq (kYes_says awake_run)
  have hcal:Callable Tryz.prog 17:=⟨_,Tryz.func17,by kernel_rfl,by kernel_rfl⟩
  refine ⟨hcal,⟨trivial,trivial⟩,fun E w vs _ _ hG _ hvs=>?_⟩
  have hv:vs= []:=hvs
  subst hv
  exact (closed_call mixed tt_ok fns_ok (fun w hg=>wr_start hg) hcal hS w hG).mono fun e w' h=>⟨_,h.1,rv_one _ rfl _ _,h.2⟩
end Go.Proofs
end
