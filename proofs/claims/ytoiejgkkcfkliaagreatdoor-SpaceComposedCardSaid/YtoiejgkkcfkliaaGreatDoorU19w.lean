/- Lemmas on the program and its library: part U19w. -/
import Derived.Test.YtoiejgkkcfkliaaGreatDoorU19b
import Derived.Test.YtoiejgkkcfkliaaGreatDoorU19o
import Derived.Test.YtoiejgkkcfkliaaGreatDoorU19z
set_option linter.unusedVariables false
set_option linter.unusedSimpArgs false
section
set_option maxHeartbeats 8000000
set_option maxRecDepth 100000
namespace Go.Proofs
open Go.Ax
theorem c9t (a b c d a' b' c' d':V3) (q1 q2 q3 q4:List UInt8):Ax.Pure Tryz.prog G 8 [txF a b c d,txF a' b' c' d',txQ q1 q2 q3 q4] (Bo true):=by
  have c_aw:=b8i
  have c_sf:=d0s 20 (by decide) a b c d
  have c_sg:=d0s 20 (by decide) a' b' c' d'
  have z1:=m6 q1
  have z2:=m6 q2
  have z3:=m6 q3
  have z4:=m6 q4
  by_cases hf:b2q 20 [a,b,c,d]=true
  rotate_left
  · rw [Bool.eq_false_iff.2 hf] at c_sf
    refine r8 Tryz.func8 rfl Tryz.ntmps8 ?_
    intro w0 E0 hc
    repeat' (first|(with_reducible first|refine j0 ?_|refine zr0 hc ?_|refine zm0 hc ?_|refine zwk ?_|refine i6 ?_|refine zgo ?_|refine zbn ?_|refine zge Tryz.results8 ?_|refine Sub.refl _|refine f9|refine w6 (out':=?_) ?_|refine u9 (y:=?_) ?_|refine w5 (eo':=?_) ?_)|(with_reducible refine f6 ?_ ?_;focus (first|decide|omega))|(with_reducible first|refine zg2 ?_ ?_|refine c9 c_aw ?_ ?_|refine c9 c_sf ?_ ?_|refine zbo ?_|refine zg3 ?_ (fun h=>?_) (fun h=>?_)|refine zg4 (fun h=>?_) (fun h=>?_)|fail)|((first|omega|(refine nf1 ?_;with_reducible assumption)|(refine nf2 ?_;with_reducible assumption));done))
  rw [hf] at c_sf
  by_cases hg:b2q 20 [a',b',c',d']=true
  rotate_left
  · rw [Bool.eq_false_iff.2 hg] at c_sg
    refine r8 Tryz.func8 rfl Tryz.ntmps8 ?_
    intro w0 E0 hc
    repeat' (first|(with_reducible first|refine j0 ?_|refine zr0 hc ?_|refine zm0 hc ?_|refine zwk ?_|refine i6 ?_|refine zgo ?_|refine zbn ?_|refine zge Tryz.results8 ?_|refine Sub.refl _|refine f9|refine w6 (out':=?_) ?_|refine u9 (y:=?_) ?_|refine w5 (eo':=?_) ?_)|(with_reducible refine f6 ?_ ?_;focus (first|decide|omega))|(with_reducible first|refine zg2 ?_ ?_|refine c9 c_aw ?_ ?_|refine c9 c_sf ?_ ?_|refine c9 c_sg ?_ ?_|refine zbo ?_|refine zg3 ?_ (fun h=>?_) (fun h=>?_)|refine zg4 (fun h=>?_) (fun h=>?_)|fail)|((first|omega|(refine nf1 ?_;with_reducible assumption)|(refine nf2 ?_;with_reducible assumption));done))
  rw [hg] at c_sg
  by_cases hl:q1.length≤20∧q2.length≤20∧q3.length≤20∧q4.length≤20
  rotate_left
  · have hl':20 < (bs q1).size∨20 < (bs q2).size∨20 < (bs q3).size∨20 < (bs q4).size:=by omega
    clear hl
    refine r8 Tryz.func8 rfl Tryz.ntmps8 ?_
    intro w0 E0 hc
    repeat' (first|(with_reducible first|refine j0 ?_|refine zr0 hc ?_|refine zm0 hc ?_|refine zwk ?_|refine i6 ?_|refine zgo ?_|refine zbn ?_|refine zge Tryz.results8 ?_|refine Sub.refl _|refine f9|refine w6 (out':=?_) ?_|refine u9 (y:=?_) ?_|refine w5 (eo':=?_) ?_)|(with_reducible refine f6 ?_ ?_;focus (first|decide|omega))|(with_reducible first|refine zg2 ?_ ?_|refine c9 c_aw ?_ ?_|refine c9 c_sf ?_ ?_|refine c9 c_sg ?_ ?_|refine zbo ?_|refine zg3 ?_ (fun h=>?_) (fun h=>?_)|refine zg4 (fun h=>?_) (fun h=>?_)|fail)|((first|omega|(refine nf1 ?_;with_reducible assumption)|(refine nf2 ?_;with_reducible assumption));done))
  obtain ⟨l1,l2,l3,l4⟩:=hl
  have s:∀{v:V3},shV 20 v→u7 v:=fun h=>d3e h (by decide)
  obtain ⟨sa,sb,sc,sd⟩:=e0a.1 hf
  obtain ⟨sa',sb',sc',sd'⟩:=e0a.1 hg
  by_cases hq:a1e [q1,q2,q3,q4]=0
  · have h:u5 [a0a q1,a0a q2,a0a q3,a0a q4]=0:=hq
    obtain ⟨h1,h⟩:=b1h h
    obtain ⟨h2,h⟩:=b1h h
    obtain ⟨h3,h⟩:=b1h h
    obtain ⟨h4,_⟩:=b1h h
    obtain ⟨w,rfl,hw⟩:=a2l h1
    obtain ⟨u1,rfl,k1⟩:=a2l h2
    obtain ⟨u2,rfl,k2⟩:=a2l h3
    obtain ⟨u3,rfl,k3⟩:=a2l h4
    by_cases h0:w=0∧u1=0∧u2=0∧u3=0
    · obtain ⟨rfl,rfl,rfl,rfl⟩:=h0
      rw [a3n] at l1 ⊢
      exact d1x (s sa) (s sb) (s sc) (s sd) (s sa') (s sb') (s sc') (s sd') c_sf c_sg l1 l1 l1 l1
    · exact d8e hw ⟨k1,k2,k3⟩ h0 (s sa) (s sb) (s sc) (s sd) (s sa') (s sb') (s sc') (s sd') c_sf c_sg l1 l2 l3 l4
  · exact d5q hq (s sa) (s sb) (s sc) (s sd) (s sa') (s sb') (s sc') (s sd') c_sf c_sg l1 l2 l3 l4
end Go.Proofs
end
