/- Lemmas on the program and its library: part QSW. -/
import Derived.Test.YtoiejgkkcfkliaaGreatDoorZW32
set_option linter.unusedVariables false
set_option linter.unusedSimpArgs false
section
namespace Go.Proofs
open Go.Ax
abbrev txV (v:V3):AV:=.agg (leafV v)
end Go.Proofs
end
section
set_option maxHeartbeats 4000000
set_option maxRecDepth 100000
namespace Go.Proofs
open Go.Ax
theorem c_part (a b c d e f:Rat) (h0:dot3 d e f d e f≠0) (hb:rz a≤10000000∧rz b≤10000000∧rz c≤10000000∧rz d≤10000000∧rz e≤10000000∧rz f≤10000000):Ax.Pure Tryz.prog G 237 [vA d e f,.one (.pp [.frac a,.frac b,.frac c])] (fracA (dot3 a b c d e f / dot3 d e f d e f)):=by
  have q1:=rz_dot a b c d e f
  have q2:=rz_dot d e f d e f
  unfold dot3 at *
  refine zen Tryz.func237 rfl Tryz.ntmps237 ?_
  intro w0 E0 hc
  repeat' (first|refine zR1 hc Tryz.results237 ?_|(with_reducible first|exact trivial|refine zan ?_ ?_|refine zim (fun h=>?_)|refine zoc (c_Dot _ _ _ _ _ _ ?_) ?_ ?_|refine zoc (c_FDiv _ _ ?_ ?_ ?_) ?_ ?_|fail)|((first|exact h0|omega);done))
theorem c_VLocal (o1 o2 o3 x1 x2 x3 y1 y2 y3 z1 z2 z3 a b c:Rat) (hx:dot3 x1 x2 x3 x1 x2 x3≠0) (hy:dot3 y1 y2 y3 y1 y2 y3≠0) (hz:dot3 z1 z2 z3 z1 z2 z3≠0) (hb:rz x1≤1000000∧rz x2≤1000000∧rz x3≤1000000∧rz y1≤1000000∧rz y2≤1000000∧rz y3≤1000000∧rz z1≤1000000∧rz z2≤1000000∧rz z3≤1000000∧rz a≤1000000∧rz b≤1000000∧rz c≤1000000):Ax.Pure Tryz.prog G 183 [fA o1 o2 o3 x1 x2 x3 y1 y2 y3 z1 z2 z3,vA a b c] (vA (dot3 a b c x1 x2 x3 / dot3 x1 x2 x3 x1 x2 x3) (dot3 a b c y1 y2 y3 / dot3 y1 y2 y3 y1 y2 y3) (dot3 a b c z1 z2 z3 / dot3 z1 z2 z3 z1 z2 z3)):=by
  have c_p1:=c_part a b c x1 x2 x3 hx (by omega)
  have c_p2:=c_part a b c y1 y2 y3 hy (by omega)
  have c_p3:=c_part a b c z1 z2 z3 hz (by omega)
  refine zen Tryz.func183 rfl Tryz.ntmps183 ?_
  intro w0 E0 hc
  repeat' (first|(with_reducible first|refine Wp_seq ?_|refine zwk ?_|refine Wp_block ?_|refine zgo ?_|refine zbn ?_|refine zge Tryz.results183 ?_|refine Sub.refl _|refine allP_nil|refine zoa1 (out':=?_) ?_|refine zca1 (y:=?_) ?_|refine zea1 (eo':=?_) ?_)|(with_reducible refine zrs [2] hc ?_ ?_;focus (with_unfolding_all rfl))|(with_reducible refine zrm [2] hc mixed ?_ ?_;focus (with_unfolding_all rfl))|(with_reducible refine allP_cons ?_ ?_;focus (first|decide|omega))|(with_reducible first|refine zg2 ?_ ?_|refine zbo ?_|refine zg3 ?_ (fun h=>?_) (fun h=>?_)|refine zg4 (fun h=>?_) (fun h=>?_)|fail)|(omega;done))
  refine Wp_frzP hc 1 (sz:=12) (ro:=false) (g:=fun _=> [.frac a,.frac b,.frac c]) (Is.refl _) ⟨trivial,trivial,trivial,trivial⟩ rfl ?_
  refine Wp_weaker (st':=stOf [(2,.one (.ptr 0 48 0 0)),(4,.one (.ptr 2 12 0 0)),(5,.one (.fn (.func 237) [] [.pp [.frac a,.frac b,.frac c]]))] [(0,⟨48,1,fun _=> [.frac o1,.frac o2,.frac o3,.frac x1,.frac x2,.frac x3,.frac y1,.frac y2,.frac y3,.frac z1,.frac z2,.frac z3],false⟩),(2,⟨12,1,fun _=> [.v (.int .i64 0),.v (.slice none 0 0),.v (.int .i64 0),.v (.slice none 0 0),.v (.int .i64 0),.v (.slice none 0 0),.v (.int .i64 0),.v (.slice none 0 0),.v (.int .i64 0),.v (.slice none 0 0),.v (.int .i64 0),.v (.slice none 0 0)],false⟩)] 3) ?_ ?_
  · refine zW1 ?_ <;> repeat' (with_reducible first|exact trivial|refine zan ?_ ?_|refine zal (fun i hi=>?_))
  repeat' (first|refine zR1 hc Tryz.results183 ?_|(with_reducible first|exact trivial|refine zan ?_ ?_|refine zim (fun h=>?_)|refine zoc c_p1 ?_ ?_|refine zoc c_p2 ?_ ?_|refine zoc c_p3 ?_ ?_|fail)|(omega;done))
theorem c_VCoordinates (o1 o2 o3 x1 x2 x3 y1 y2 y3 z1 z2 z3 a b c:Rat) (hx:dot3 x1 x2 x3 x1 x2 x3≠0) (hy:dot3 y1 y2 y3 y1 y2 y3≠0) (hz:dot3 z1 z2 z3 z1 z2 z3≠0) (hb:rz x1≤100000∧rz x2≤100000∧rz x3≤100000∧rz y1≤100000∧rz y2≤100000∧rz y3≤100000∧rz z1≤100000∧rz z2≤100000∧rz z3≤100000∧rz a≤100000∧rz b≤100000∧rz c≤100000∧rz o1≤100000∧rz o2≤100000∧rz o3≤100000):Ax.Pure Tryz.prog G 181 [fA o1 o2 o3 x1 x2 x3 y1 y2 y3 z1 z2 z3,vA a b c] (vA (dot3 (a - o1) (b - o2) (c - o3) x1 x2 x3 / dot3 x1 x2 x3 x1 x2 x3) (dot3 (a - o1) (b - o2) (c - o3) y1 y2 y3 / dot3 y1 y2 y3 y1 y2 y3) (dot3 (a - o1) (b - o2) (c - o3) z1 z2 z3 / dot3 z1 z2 z3 z1 z2 z3)):=by
  have s1:=rz_sub a o1
  have s2:=rz_sub b o2
  have s3:=rz_sub c o3
  have c_l:=c_VLocal o1 o2 o3 x1 x2 x3 y1 y2 y3 z1 z2 z3 (a - o1) (b - o2) (c - o3) hx hy hz (by omega)
  refine zen Tryz.func181 rfl Tryz.ntmps181 ?_
  intro w0 E0 hc
  repeat' (first|refine zR1 hc Tryz.results181 ?_|(with_reducible first|exact trivial|refine zan ?_ ?_|refine zim (fun h=>?_)|refine zoc (c_VSub _ _ _ _ _ _ ?_) ?_ ?_|refine zoc c_l ?_ ?_|fail)|(omega;done))
end Go.Proofs
end
section
namespace Go.Proofs
open Go.Ax
abbrev txF (a b c d:V3):AV:=tF a.1 a.2.1 a.2.2 b.1 b.2.1 b.2.2 c.1 c.2.1 c.2.2 d.1 d.2.1 d.2.2
end Go.Proofs
end
