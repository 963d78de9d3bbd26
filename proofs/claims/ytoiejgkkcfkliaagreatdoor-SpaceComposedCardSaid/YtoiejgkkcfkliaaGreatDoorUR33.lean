/- Lemmas on the program and its library: part UR33. -/
import Derived.Test.YtoiejgkkcfkliaaGreatDoorUR
set_option linter.unusedVariables false
set_option linter.unusedSimpArgs false
section
set_option maxHeartbeats 8000000
set_option maxRecDepth 100000
namespace Go.Proofs
open Go.Ax
theorem c4h (o1 o2 o3 x1 x2 x3 y1 y2 y3 z1 z2 z3:Rat) (nx:c7 x1 x2 x3 x1 x2 x3≠0) (ny:c7 y1 y2 y3 y1 y2 y3≠0) (nz:c7 z1 z2 z3 z1 z2 z3≠0) (qo:Q 2400 o1∧Q 2400 o2∧Q 2400 o3) (qx:Q 2400 x1∧Q 2400 x2∧Q 2400 x3) (qy:Q 2400 y1∧Q 2400 y2∧Q 2400 y3) (qz:Q 2400 z1∧Q 2400 z2∧Q 2400 z3) {a0 a1 a2 a3 a4 a5 a6 a7 a8 a9 a10 a11:Rat}
    (h0:c7 (0 - o1) (0 - o2) (0 - o3) x1 x2 x3 / c7 x1 x2 x3 x1 x2 x3=a0) (h1:c7 (0 - o1) (0 - o2) (0 - o3) y1 y2 y3 / c7 y1 y2 y3 y1 y2 y3=a1) (h2:c7 (0 - o1) (0 - o2) (0 - o3) z1 z2 z3 / c7 z1 z2 z3 z1 z2 z3=a2) (h3:c7 (((1:Int):Rat) - o1) (((0:Int):Rat) - o2) (((0:Int):Rat) - o3) x1 x2 x3 / c7 x1 x2 x3 x1 x2 x3 - c7 (0 - o1) (0 - o2) (0 - o3) x1 x2 x3 / c7 x1 x2 x3 x1 x2 x3=a3) (h4:c7 (((1:Int):Rat) - o1) (((0:Int):Rat) - o2) (((0:Int):Rat) - o3) y1 y2 y3 / c7 y1 y2 y3 y1 y2 y3 - c7 (0 - o1) (0 - o2) (0 - o3) y1 y2 y3 / c7 y1 y2 y3 y1 y2 y3=a4) (h5:c7 (((1:Int):Rat) - o1) (((0:Int):Rat) - o2) (((0:Int):Rat) - o3) z1 z2 z3 / c7 z1 z2 z3 z1 z2 z3 - c7 (0 - o1) (0 - o2) (0 - o3) z1 z2 z3 / c7 z1 z2 z3 z1 z2 z3=a5) (h6:c7 (((0:Int):Rat) - o1) (((1:Int):Rat) - o2) (((0:Int):Rat) - o3) x1 x2 x3 / c7 x1 x2 x3 x1 x2 x3 - c7 (0 - o1) (0 - o2) (0 - o3) x1 x2 x3 / c7 x1 x2 x3 x1 x2 x3=a6) (h7:c7 (((0:Int):Rat) - o1) (((1:Int):Rat) - o2) (((0:Int):Rat) - o3) y1 y2 y3 / c7 y1 y2 y3 y1 y2 y3 - c7 (0 - o1) (0 - o2) (0 - o3) y1 y2 y3 / c7 y1 y2 y3 y1 y2 y3=a7) (h8:c7 (((0:Int):Rat) - o1) (((1:Int):Rat) - o2) (((0:Int):Rat) - o3) z1 z2 z3 / c7 z1 z2 z3 z1 z2 z3 - c7 (0 - o1) (0 - o2) (0 - o3) z1 z2 z3 / c7 z1 z2 z3 z1 z2 z3=a8) (h9:c7 (((0:Int):Rat) - o1) (((0:Int):Rat) - o2) (((1:Int):Rat) - o3) x1 x2 x3 / c7 x1 x2 x3 x1 x2 x3 - c7 (0 - o1) (0 - o2) (0 - o3) x1 x2 x3 / c7 x1 x2 x3 x1 x2 x3=a9) (h10:c7 (((0:Int):Rat) - o1) (((0:Int):Rat) - o2) (((1:Int):Rat) - o3) y1 y2 y3 / c7 y1 y2 y3 y1 y2 y3 - c7 (0 - o1) (0 - o2) (0 - o3) y1 y2 y3 / c7 y1 y2 y3 y1 y2 y3=a10) (h11:c7 (((0:Int):Rat) - o1) (((0:Int):Rat) - o2) (((1:Int):Rat) - o3) z1 z2 z3 / c7 z1 z2 z3 z1 z2 z3 - c7 (0 - o1) (0 - o2) (0 - o3) z1 z2 z3 / c7 z1 z2 z3 z1 z2 z3=a11) :
    Ax.Pure Tryz.prog G 67 [tF (c5 o1) (c5 o2) (c5 o3) (c5 x1) (c5 x2) (c5 x3) (c5 y1) (c5 y2) (c5 y3) (c5 z1) (c5 z2) (c5 z3)] (tF (c5 a0) (c5 a1) (c5 a2) (c5 a3) (c5 a4) (c5 a5) (c5 a6) (c5 a7) (c5 a8) (c5 a9) (c5 a10) (c5 a11)):=by
  subst h0 h1 h2 h3 h4 h5 h6 h7 h8 h9 h10 h11
  have i0:i64 0:=⟨by decide,by decide⟩
  have i1:i64 1:=⟨by decide,by decide⟩
  have c_or:=b92
  have c_i1:=c4g 1 0 0 i1 i0 i0
  have c_i2:=c4g 0 1 0 i0 i1 i0
  have c_i3:=c4g 0 0 1 i0 i0 i1
  have q0:Q 2400 (0:Rat):=j4 a9t rfl
  have qi0:Q 2400 ((0:Int):Rat):=q0
  have qi1:Q 2400 ((1:Int):Rat):=j4 b7r rfl
  have c_l0:=b8p (k:=2400) (by decide) o1 o2 o3 x1 x2 x3 y1 y2 y3 z1 z2 z3 0 0 0 nx ny nz qo qx qy qz ⟨q0,q0,q0⟩
  have g0x:=j4 (K:=100000) (a0b (a0e (j9 q0 qo.1) (j9 q0 qo.2.1) (j9 q0 qo.2.2) (j4 (K:=4801) qx.1 rfl) (j4 qx.2.1 rfl) (j4 qx.2.2 rfl)) (a0e qx.1 qx.2.1 qx.2.2 qx.1 qx.2.1 qx.2.2)) rfl
  have g0y:=j4 (K:=100000) (a0b (a0e (j9 q0 qo.1) (j9 q0 qo.2.1) (j9 q0 qo.2.2) (j4 (K:=4801) qy.1 rfl) (j4 qy.2.1 rfl) (j4 qy.2.2 rfl)) (a0e qy.1 qy.2.1 qy.2.2 qy.1 qy.2.1 qy.2.2)) rfl
  have g0z:=j4 (K:=100000) (a0b (a0e (j9 q0 qo.1) (j9 q0 qo.2.1) (j9 q0 qo.2.2) (j4 (K:=4801) qz.1 rfl) (j4 qz.2.1 rfl) (j4 qz.2.2 rfl)) (a0e qz.1 qz.2.1 qz.2.2 qz.1 qz.2.1 qz.2.2)) rfl
  have c_l1:=b8p (k:=2400) (by decide) o1 o2 o3 x1 x2 x3 y1 y2 y3 z1 z2 z3 (((1:Int):Rat)) (((0:Int):Rat)) (((0:Int):Rat)) nx ny nz qo qx qy qz ⟨qi1,qi0,qi0⟩
  have g1x:=j4 (K:=100000) (a0b (a0e (j9 qi1 qo.1) (j9 qi0 qo.2.1) (j9 qi0 qo.2.2) (j4 (K:=4801) qx.1 rfl) (j4 qx.2.1 rfl) (j4 qx.2.2 rfl)) (a0e qx.1 qx.2.1 qx.2.2 qx.1 qx.2.1 qx.2.2)) rfl
  have g1y:=j4 (K:=100000) (a0b (a0e (j9 qi1 qo.1) (j9 qi0 qo.2.1) (j9 qi0 qo.2.2) (j4 (K:=4801) qy.1 rfl) (j4 qy.2.1 rfl) (j4 qy.2.2 rfl)) (a0e qy.1 qy.2.1 qy.2.2 qy.1 qy.2.1 qy.2.2)) rfl
  have g1z:=j4 (K:=100000) (a0b (a0e (j9 qi1 qo.1) (j9 qi0 qo.2.1) (j9 qi0 qo.2.2) (j4 (K:=4801) qz.1 rfl) (j4 qz.2.1 rfl) (j4 qz.2.2 rfl)) (a0e qz.1 qz.2.1 qz.2.2 qz.1 qz.2.1 qz.2.2)) rfl
  have c_l2:=b8p (k:=2400) (by decide) o1 o2 o3 x1 x2 x3 y1 y2 y3 z1 z2 z3 (((0:Int):Rat)) (((1:Int):Rat)) (((0:Int):Rat)) nx ny nz qo qx qy qz ⟨qi0,qi1,qi0⟩
  have g2x:=j4 (K:=100000) (a0b (a0e (j9 qi0 qo.1) (j9 qi1 qo.2.1) (j9 qi0 qo.2.2) (j4 (K:=4801) qx.1 rfl) (j4 qx.2.1 rfl) (j4 qx.2.2 rfl)) (a0e qx.1 qx.2.1 qx.2.2 qx.1 qx.2.1 qx.2.2)) rfl
  have g2y:=j4 (K:=100000) (a0b (a0e (j9 qi0 qo.1) (j9 qi1 qo.2.1) (j9 qi0 qo.2.2) (j4 (K:=4801) qy.1 rfl) (j4 qy.2.1 rfl) (j4 qy.2.2 rfl)) (a0e qy.1 qy.2.1 qy.2.2 qy.1 qy.2.1 qy.2.2)) rfl
  have g2z:=j4 (K:=100000) (a0b (a0e (j9 qi0 qo.1) (j9 qi1 qo.2.1) (j9 qi0 qo.2.2) (j4 (K:=4801) qz.1 rfl) (j4 qz.2.1 rfl) (j4 qz.2.2 rfl)) (a0e qz.1 qz.2.1 qz.2.2 qz.1 qz.2.1 qz.2.2)) rfl
  have c_l3:=b8p (k:=2400) (by decide) o1 o2 o3 x1 x2 x3 y1 y2 y3 z1 z2 z3 (((0:Int):Rat)) (((0:Int):Rat)) (((1:Int):Rat)) nx ny nz qo qx qy qz ⟨qi0,qi0,qi1⟩
  have g3x:=j4 (K:=100000) (a0b (a0e (j9 qi0 qo.1) (j9 qi0 qo.2.1) (j9 qi1 qo.2.2) (j4 (K:=4801) qx.1 rfl) (j4 qx.2.1 rfl) (j4 qx.2.2 rfl)) (a0e qx.1 qx.2.1 qx.2.2 qx.1 qx.2.1 qx.2.2)) rfl
  have g3y:=j4 (K:=100000) (a0b (a0e (j9 qi0 qo.1) (j9 qi0 qo.2.1) (j9 qi1 qo.2.2) (j4 (K:=4801) qy.1 rfl) (j4 qy.2.1 rfl) (j4 qy.2.2 rfl)) (a0e qy.1 qy.2.1 qy.2.2 qy.1 qy.2.1 qy.2.2)) rfl
  have g3z:=j4 (K:=100000) (a0b (a0e (j9 qi0 qo.1) (j9 qi0 qo.2.1) (j9 qi1 qo.2.2) (j4 (K:=4801) qz.1 rfl) (j4 qz.2.1 rfl) (j4 qz.2.2 rfl)) (a0e qz.1 qz.2.1 qz.2.2 qz.1 qz.2.1 qz.2.2)) rfl
  generalize c7 (0 - o1) (0 - o2) (0 - o3) x1 x2 x3 / c7 x1 x2 x3 x1 x2 x3=v0x at *
  generalize c7 (0 - o1) (0 - o2) (0 - o3) y1 y2 y3 / c7 y1 y2 y3 y1 y2 y3=v0y at *
  generalize c7 (0 - o1) (0 - o2) (0 - o3) z1 z2 z3 / c7 z1 z2 z3 z1 z2 z3=v0z at *
  generalize c7 (((1:Int):Rat) - o1) (((0:Int):Rat) - o2) (((0:Int):Rat) - o3) x1 x2 x3 / c7 x1 x2 x3 x1 x2 x3=v1x at *
  generalize c7 (((1:Int):Rat) - o1) (((0:Int):Rat) - o2) (((0:Int):Rat) - o3) y1 y2 y3 / c7 y1 y2 y3 y1 y2 y3=v1y at *
  generalize c7 (((1:Int):Rat) - o1) (((0:Int):Rat) - o2) (((0:Int):Rat) - o3) z1 z2 z3 / c7 z1 z2 z3 z1 z2 z3=v1z at *
  generalize c7 (((0:Int):Rat) - o1) (((1:Int):Rat) - o2) (((0:Int):Rat) - o3) x1 x2 x3 / c7 x1 x2 x3 x1 x2 x3=v2x at *
  generalize c7 (((0:Int):Rat) - o1) (((1:Int):Rat) - o2) (((0:Int):Rat) - o3) y1 y2 y3 / c7 y1 y2 y3 y1 y2 y3=v2y at *
  generalize c7 (((0:Int):Rat) - o1) (((1:Int):Rat) - o2) (((0:Int):Rat) - o3) z1 z2 z3 / c7 z1 z2 z3 z1 z2 z3=v2z at *
  generalize c7 (((0:Int):Rat) - o1) (((0:Int):Rat) - o2) (((1:Int):Rat) - o3) x1 x2 x3 / c7 x1 x2 x3 x1 x2 x3=v3x at *
  generalize c7 (((0:Int):Rat) - o1) (((0:Int):Rat) - o2) (((1:Int):Rat) - o3) y1 y2 y3 / c7 y1 y2 y3 y1 y2 y3=v3y at *
  generalize c7 (((0:Int):Rat) - o1) (((0:Int):Rat) - o2) (((1:Int):Rat) - o3) z1 z2 z3 / c7 z1 z2 z3 z1 z2 z3=v3z at *
  have c_s1:=b5j (k:=100000) (by decide) v1x v1y v1z v0x v0y v0z ⟨g1x,g1y,g1z⟩ ⟨g0x,g0y,g0z⟩
  have c_s2:=b5j (k:=100000) (by decide) v2x v2y v2z v0x v0y v0z ⟨g2x,g2y,g2z⟩ ⟨g0x,g0y,g0z⟩
  have c_s3:=b5j (k:=100000) (by decide) v3x v3y v3z v0x v0y v0z ⟨g3x,g3y,g3z⟩ ⟨g0x,g0y,g0z⟩
  refine r8 Tryz.func67 rfl Tryz.ntmps67 ?_
  intro w0 E0 hc
  repeat' (first|(with_reducible first|refine j0 ?_|refine zr0 hc ?_|refine zm0 hc ?_|refine zwk ?_|refine i6 ?_|refine zgo ?_|refine zbn ?_|refine zge Tryz.results67 ?_|refine Sub.refl _|refine f9|refine w6 (out':=?_) ?_|refine u9 (y:=?_) ?_|refine w5 (eo':=?_) ?_)|(with_reducible refine f6 ?_ ?_;focus (first|decide|omega))|(with_reducible first|refine zg2 ?_ ?_|refine c9 c_or ?_ ?_|refine c9 c_i1 ?_ ?_|refine c9 c_i2 ?_ ?_|refine c9 c_i3 ?_ ?_|refine c9 c_l0 ?_ ?_|refine c9 c_l1 ?_ ?_|refine c9 c_l2 ?_ ?_|refine c9 c_l3 ?_ ?_|refine c9 c_s1 ?_ ?_|refine c9 c_s2 ?_ ?_|refine c9 c_s3 ?_ ?_|refine zbo ?_|refine zg3 ?_ (fun h=>?_) (fun h=>?_)|refine zg4 (fun h=>?_) (fun h=>?_)|fail)|(omega;done))
end Go.Proofs
end
