/- Lemmas on the program and its library: part XL6e. -/
import Derived.Test.YtoiejgkkcfkliaaGreatDoorXL6b
import Derived.Test.YtoiejgkkcfkliaaGreatDoorXL6c
import Derived.Test.YtoiejgkkcfkliaaGreatDoorXL6d
set_option linter.unusedVariables false
set_option linter.unusedSimpArgs false
section
set_option maxHeartbeats 8000000
set_option maxRecDepth 100000
namespace Go.Proofs
open Go.Ax
theorem w_Vectors (a b:V3) (c:List UInt8):Ax.Pure Tryz.prog G 16 [txV a,txV b,S (bs c)] (Bo true):=by
  have c_sh:=l_short2 40 (by decide) a b
  by_cases hsh:shVs 40 [a,b]=true
  · rw [hsh] at c_sh
    by_cases lc:c.length≤40
    · have sa:=shV_short (shVs2.1 hsh).1 (by decide)
      have sb:=shV_short (shVs2.1 hsh).2 (by decide)
      by_cases ha:fstVec a=0
      · by_cases hc:checkL c=0
        · exact vec_own ha hc sa sb lc c_sh
        · exact vec_no ha hc sa sb lc c_sh
      · exact vec_bad ha sa sb lc c_sh
    · have c_aw:=c_awake
      have lc':40 < (bs c).size:=by rw [bs_size];omega
      refine zen Tryz.func16 rfl Tryz.ntmps16 ?_
      intro w0 E0 hc
      repeat' (first|(with_reducible first|refine Wp_seq ?_|refine zr0 hc ?_|refine zm0 hc ?_|refine zwk ?_|refine Wp_block ?_|refine zgo ?_|refine zbn ?_|refine zge Tryz.results16 ?_|refine Sub.refl _|refine allP_nil|refine zoa1 (out':=?_) ?_|refine zca1 (y:=?_) ?_|refine zea1 (eo':=?_) ?_)|(with_reducible refine allP_cons ?_ ?_;focus (first|decide|omega))|(with_reducible first|refine zg2 ?_ ?_|refine zoc c_aw ?_ ?_|refine zoc c_sh ?_ ?_|refine zbo ?_|refine zg3 ?_ (fun h=>?_) (fun h=>?_)|refine zg4 (fun h=>?_) (fun h=>?_)|fail)|((first|omega|(refine nf1 ?_;with_reducible assumption)|(refine nf2 ?_;with_reducible assumption));done))
  · have c_aw:=c_awake
    rw [Bool.eq_false_iff.2 hsh] at c_sh
    refine zen Tryz.func16 rfl Tryz.ntmps16 ?_
    intro w0 E0 hc
    repeat' (first|(with_reducible first|refine Wp_seq ?_|refine zr0 hc ?_|refine zm0 hc ?_|refine zwk ?_|refine Wp_block ?_|refine zgo ?_|refine zbn ?_|refine zge Tryz.results16 ?_|refine Sub.refl _|refine allP_nil|refine zoa1 (out':=?_) ?_|refine zca1 (y:=?_) ?_|refine zea1 (eo':=?_) ?_)|(with_reducible refine allP_cons ?_ ?_;focus (first|decide|omega))|(with_reducible first|refine zg2 ?_ ?_|refine zoc c_aw ?_ ?_|refine zoc c_sh ?_ ?_|refine zbo ?_|refine zg3 ?_ (fun h=>?_) (fun h=>?_)|refine zg4 (fun h=>?_) (fun h=>?_)|fail)|((first|omega|(refine nf1 ?_;with_reducible assumption)|(refine nf2 ?_;with_reducible assumption));done))
end Go.Proofs
end
