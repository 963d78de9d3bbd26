/- Lemmas on the program and its library, part K0. -/
import Derived.Test.YtalgbhjnbgkneaaGreatDoorTie
import Derived.Test.YtalgbhjnbgkneaaGreatDoorCards
import Derived.ProofKit
import Derived.LaidMore
import Derived.OpenShut
import Derived.MakeChecks
import Derived.LaidHandle
import Derived.SevenTiedAt
import Derived.Stop.LaidErr
import Derived.Lib.LaidTab
import Derived.Test.YtalgbhjnbgkneaaGreatDoorZN0
import Derived.Test.YtalgbhjnbgkneaaGreatDoorZAxC
set_option linter.unusedVariables false
set_option linter.unusedSimpArgs false
section
namespace Go.Proofs.YtalgbhjnbgkneaaGreatDoor
open Go Go.Ax Go.ChangeShapes Go.WideShapes Go.ChangeAt Go.RowKit Go.ChangeMaps
theorem own:ownKnob Tryz.prog.godebug=none:=by kernel_rfl
abbrev laidL:List (String×DataW Unit):=[("math/bits.deBruijn32tab",Rows.laid_math_bits_deBruijn32tab),("math/bits.deBruijn64tab",Rows.laid_math_bits_deBruijn64tab),("internal/strconv.uint64pow10",Rows.laid_internal_strconv_uint64pow10)]
theorem G_of_laid {W:World} (h:laidMetH Tryz.prog laidL W):G W:=by
  rw [MakeChecks.laidMetH_plain _ _ _ (by kernel_rfl)] at h
  have h1:=laidMet.tail h
  have h2:laidMet Tryz.prog [("internal/strconv.uint64pow10",Lib.tabData .u64 Lib.pow10Tab)] W:=laidMet.tail h1
  have h3:=Lib.tabIs_of_head (g:=5) (t:=330) (e:=247) (n:=20) (by kernel_rfl) (by kernel_rfl) (by kernel_rfl) (by kernel_rfl) (by kernel_rfl) (by kernel_rfl) h2
  unfold Lib.TabIs World.var? at h3
  rw [show Tryz.prog.globalNamed "internal/strconv.uint64pow10"=some 5 by kernel_rfl] at h3
  refine ⟨h3,?_⟩
  obtain ⟨ps,⟨g',t',cs,fuel,p,q,hg',ht',hvar,hd,_,_⟩,_⟩:=h1
  unfold World.var? at hvar
  rw [show Tryz.prog.globalNamed "math/bits.deBruijn64tab"=some 7 by kernel_rfl] at hvar
  have hvar:(match (W.heap[7]?:Option Obj) with|some (.cells cs _ _)=>some cs|_=>none)=some cs:=hvar
  rcases Nat.lt_or_ge 7 W.heap.size with h|h
  · exact h
  · rw [Array.getElem?_eq_none h] at hvar;cases hvar
theorem door_met (os:Os) (args:Array Value):laidMetH Tryz.prog laidL ((World.doorLaid Tryz.prog 400 os).forCall (fun _ _=>0) ⟨#[],args,[]⟩).memory:=
  laidMetH_of_parts3 (fuel:=8) (laidMet_of_run' 8 (by kernel_rfl) (by kernel_rfl)) (by kernel_rfl) (by kernel_rfl)
theorem and2 {a b:Bool} (h:a=true) (k:b=true):(a && b)=true:=by rw [h,k];rfl
abbrev i64 (s:Int):Prop:=-9223372036854775808≤s∧s≤9223372036854775807
theorem int_in {s:Int} (h:(Lit.int .i64 s).wf=true):i64 s:=by
  have h:(decide (IntKind.i64.min≤s) && decide (s≤IntKind.i64.max))=true:=h
  rw [Bool.and_eq_true] at h
  have h1:=of_decide_eq_true h.1
  have h2:=of_decide_eq_true h.2
  have e1:IntKind.i64.min= -9223372036854775808:=by decide
  have e2:IntKind.i64.max=9223372036854775807:=by decide
  rw [e1] at h1;rw [e2] at h2
  exact ⟨by omega,by omega⟩
def env0:Env:=⟨fun _=>none,fun _=>False⟩
theorem env0_ok (w:World):EnvOk env0 w:=⟨fun _ h=>h.elim,(fun _ _ h=>(by cases h)),(fun _ _ _ h=>(by cases h))⟩
theorem rv_v (x:Value) (hx:x.oneCell'=true) (E:Env) (w:World):RV E w (.one (.v x)) x:=⟨rfl,rfl,hx⟩
theorem rv_true {E:Env} {w:World} {v:Value} (h:RV E w (Bo true) v):v= .bool true:=by
  obtain ⟨_,h1,_⟩:=h
  simpa using h1
end Go.Proofs.YtalgbhjnbgkneaaGreatDoor
end
