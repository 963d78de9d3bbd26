/- Lemmas on the program and its library, part N4. -/
import Derived.Test.YtalgbhjnbgkneaaGreatDoorZN0
set_option linter.unusedVariables false
set_option linter.unusedSimpArgs false
section
set_option maxHeartbeats 4000000
set_option maxRecDepth 100000
namespace Go.Proofs
open Go.Ax
abbrev row1' (a:Int):AV:=.one (.row 1 1 (fun i=> [[Leaf.v (.int .i64 a)]].getD i []))
abbrev row3' (a b c:Int):AV:=.one (.row 1 3 (fun i=> [[Leaf.v (.int .i64 a)],[Leaf.v (.int .i64 b)],[Leaf.v (.int .i64 c)]].getD i []))
section
variable (c_aw:Ax.Pure Tryz.prog G 17 [] (Bo true)) (w h d:Int)
include c_aw
theorem logs_d (x y e s g:Int) (hA:¬80 < d) (c_2:Ax.Pure Tryz.prog G 50 [N d,N w] (.tup [N s,N g])) (c_3:Ax.Pure Tryz.prog G 51 [N d] (.tup [N x,N y,N e])) (hx:(x=0∧y=0∧e=7)∨(x≠0∧e=0)) (c_5:Ax.Pure Tryz.prog G 40 [row1' d] (N 0)) (c_7:Ax.Pure Tryz.prog G 53 [N d] (.tup [N x,N y])) (c_8:Ax.Pure Tryz.prog G 40 [row1' w] (N 0)) (c_9:Ax.Pure Tryz.prog G 54 [N d,N w] (N s)) (c_w:Ax.Pure Tryz.prog G 33 [Bo (s == 0),N 7] (N g)) (c_n:Ax.Pure Tryz.prog G 24 [N s,N g,N g,N s] (Bo true)) (c_1:Ax.Pure Tryz.prog G 49 [N w,N h,N d] (.tup [Bo false,N 3])) (c_4:Ax.Pure Tryz.prog G 40 [row3' w h d] (N 3)):Ax.Pure Tryz.prog G 10 [N w,N h,N d] (Bo true):=by
  refine zen Tryz.func10 rfl Tryz.ntmps10 ?_
  intro w0 E0 hc
  repeat' (first|(with_reducible first|refine Wp_seq ?_|refine zr0 hc ?_|refine zm0 hc ?_|refine zwk ?_|refine Wp_block ?_|refine zgo ?_|refine zbn ?_|refine zge Tryz.results10 ?_|refine Sub.refl _|refine allP_nil|refine zoa1 (out':=?_) ?_|refine zca1 (y:=?_) ?_|refine zea1 (eo':=?_) ?_)|(with_reducible refine allP_cons ?_ ?_;focus (first|decide|omega))|(with_reducible first|refine zg2 ?_ ?_|refine zoc c_aw ?_ ?_|refine zoc c_1 ?_ ?_|refine zoc c_2 ?_ ?_|refine zoc c_3 ?_ ?_|refine zoc c_4 ?_ ?_|refine zoc c_5 ?_ ?_|refine zoc c_7 ?_ ?_|refine zoc c_8 ?_ ?_|refine zoc c_9 ?_ ?_|refine zoc c_w ?_ ?_|refine zoc c_n ?_ ?_|refine zbo ?_|refine zg3 ?_ (fun h=>?_) (fun h=>?_)|refine zg4 (fun h=>?_) (fun h=>?_)|fail)|(omega;done))
end
end Go.Proofs
end
