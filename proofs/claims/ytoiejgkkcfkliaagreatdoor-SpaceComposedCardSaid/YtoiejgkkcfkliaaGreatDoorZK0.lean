/- Lemmas on the program and its library: part ZK0. -/
import Derived.ProofKit
import Derived.LaidMore
import Derived.OpenShut
import Derived.MakeChecks
import Derived.LaidHandle
import Derived.SevenTiedAt
import Derived.Stop.LaidErr
import Derived.Lib.LaidTab
import Derived.Test.YtoiejgkkcfkliaaGreatDoorTie
import Derived.Test.YtoiejgkkcfkliaaGreatDoorCards
import Derived.Test.YtoiejgkkcfkliaaGreatDoorZL3
set_option linter.unusedVariables false
set_option linter.unusedSimpArgs false
section
namespace Go.Proofs.YtoiejgkkcfkliaaGreatDoor
open Go Go.Ax Go.ChangeShapes Go.WideShapes Go.ChangeAt Go.RowKit Go.ChangeMaps
theorem own:ownKnob Tryz.prog.godebug=none:=by kernel_rfl
abbrev c6o:List (String×DataW Unit):=[("math/bits.deBruijn32tab",Rows.laid_math_bits_deBruijn32tab),("math/bits.deBruijn64tab",Rows.laid_math_bits_deBruijn64tab),("internal/strconv.uint64pow10",Rows.laid_internal_strconv_uint64pow10),("strconv.ErrRange",Rows.laid_strconv_ErrRange),("strconv.ErrSyntax",Rows.laid_strconv_ErrSyntax)]
theorem d1p {W:World} (h:laidMetH Tryz.prog c6o W):G W:=by
  rw [MakeChecks.laidMetH_plain _ _ _ (by kernel_rfl)] at h
  have h2:laidMet Tryz.prog (("internal/strconv.uint64pow10",Lib.tabData .u64 Lib.pow10Tab) :: [("strconv.ErrRange",Rows.laid_strconv_ErrRange),("strconv.ErrSyntax",Rows.laid_strconv_ErrSyntax)]) W:=laidMet.tail (laidMet.tail h)
  have h3:=Lib.tabIs_of_head (g:=5) (t:=308) (e:=248) (n:=20) (by kernel_rfl) (by kernel_rfl) (by kernel_rfl) (by kernel_rfl) (by kernel_rfl) (by kernel_rfl) h2
  unfold Lib.TabIs World.var? at h3
  rw [show Tryz.prog.globalNamed "internal/strconv.uint64pow10"=some 5 by kernel_rfl] at h3
  exact h3
theorem d5y (os:Os) (args:Array Value):laidMetH Tryz.prog c6o ((World.doorLaid Tryz.prog 400 os).forCall (fun _ _=>0) ⟨#[],args,[]⟩).memory:=
  laidMetH_of_parts3 (fuel:=8) (laidMet_of_run' 8 (by kernel_rfl) (by kernel_rfl)) (by kernel_rfl) (by kernel_rfl)
theorem a36 {a b:Bool} (h:a=true) (k:b=true):(a && b)=true:=by rw [h,k];rfl
theorem int_in {s:Int} (h:(Lit.int .i64 s).wf=true):i64 s:=by
  have h:(decide (IntKind.i64.min≤s) && decide (s≤IntKind.i64.max))=true:=h
  rw [Bool.and_eq_true] at h
  have h1:=of_decide_eq_true h.1
  have h2:=of_decide_eq_true h.2
  have e1:IntKind.i64.min= -9223372036854775808:=by decide
  have e2:IntKind.i64.max=9223372036854775807:=by decide
  rw [e1] at h1;rw [e2] at h2
  exact ⟨by omega,by omega⟩
def env0:u6:=⟨fun _=>none,fun _=>False⟩
theorem d8l (w:World):a3q env0 w:=⟨fun _ h=>h.elim,(fun _ _ h=>(by cases h)),(fun _ _ _ h=>(by cases h))⟩
theorem d9h {E:u6} {w:World} {v:Value} (h:RV E w (Bo true) v):v= .bool true:=by
  obtain ⟨_,h1,_⟩:=h
  simpa using h1
end Go.Proofs.YtoiejgkkcfkliaaGreatDoor
end
