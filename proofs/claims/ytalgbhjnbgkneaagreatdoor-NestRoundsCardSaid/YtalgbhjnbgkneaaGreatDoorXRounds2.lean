/- Further lemmas on the program, part Rounds2. -/
import Derived.Test.YtalgbhjnbgkneaaGreatDoorXRounds1
set_option linter.unusedVariables false
set_option linter.unusedSimpArgs false
section
set_option maxHeartbeats 4000000
set_option maxRecDepth 100000
namespace Go.Proofs
open Go.Ax
abbrev u4 (a b c p:Int):AV:=.agg [.v (.int .u8 a),.v (.int .u8 b),.v (.int .u8 c),.v (.int .u8 p)]
section
variable (c_aw:Ax.Pure Tryz.prog G 17 [] (Bo true)) (a b c p D T K W M:Nat) (ha:a < 256) (hb:b < 256) (hc':c < 256) (hp:p < 256) (hD:D=1+a%100) (hT:T=1+b%40) (hK:K=c%10) (hW:W=1+p%D) (hM:M=1+p%6)
include c_aw ha hb hc' hp hD hT hK hW hM
theorem rnd_a (s x y z e m f:Nat) (c_1:Ax.Pure Tryz.prog G 50 [N D,N W] (.tup [N s,N e])) (c_2:Ax.Pure Tryz.prog G 51 [N D] (.tup [N x,N y,N z]))
    (hP:(e=7∧¬IntKind.i64.wrap (IntKind.i64.wrap ((W:Int)*W)+1)≤IntKind.i64.wrap ((D:Int)*D))∨(e=0∧z=0∧1≤x∧x≤D∧1≤y∧y≤D∧¬IntKind.i64.wrap ((D:Int)*D) < IntKind.i64.wrap (IntKind.i64.wrap ((x:Int)*x)+IntKind.i64.wrap ((y:Int)*y))∧¬IntKind.i64.wrap (IntKind.i64.wrap ((x:Int)*y)*y) < IntKind.i64.wrap (IntKind.i64.wrap ((W:Int)*s)*s)))
    (c_3:e=0→Ax.Pure Tryz.prog G 49 [N W,N s,N D] (.tup [Bo true,N 0])) (c_4:e=0→Ax.Pure Tryz.prog G 49 [N W,N (IntKind.i64.wrap ((s:Int)+1)),N D] (.tup [Bo false,N 0]))
    (c_5:Ax.Pure Tryz.prog G 38 [N D,N T,N K,N M] (.tup [L64 [],N 7])) (c_6:Ax.Pure Tryz.prog G 39 [N D,N T,N K] (.tup [N m,N f])) (hf:(m≠M∧f=0)∨(m=0∧f=7)):Ax.Pure Tryz.prog G 11 [u4 a b c p] (Bo true):=by
  have F0:IntKind.i64.wrap (0+0)=0:=rfl
  have e1:IntKind.i64.wrap (1+(IntKind.i64.wrap (a:Int)).tmod 100)=D:=by
    rw [w64 (x:=a) (by omega) (by omega),Int.tmod_eq_emod_of_nonneg (by omega),w64 (by omega) (by omega)];omega
  have e2:IntKind.i64.wrap (1+(IntKind.i64.wrap (b:Int)).tmod 40)=T:=by
    rw [w64 (x:=b) (by omega) (by omega),Int.tmod_eq_emod_of_nonneg (by omega),w64 (by omega) (by omega)];omega
  have e3:(IntKind.i64.wrap (c:Int)).tmod 10=K:=by
    rw [w64 (x:=c) (by omega) (by omega),Int.tmod_eq_emod_of_nonneg (by omega)];omega
  have e4:IntKind.i64.wrap (p:Int)=p:=w64 (by omega) (by omega)
  have m5:=Nat.mod_lt p (show D > 0 by omega)
  have e5:IntKind.i64.wrap (1+(p:Int).tmod D)=W:=by
    rw [Int.tmod_eq_emod_of_nonneg (by omega),w64 (by omega) (by omega)];omega
  refine zen Tryz.func11 rfl Tryz.ntmps11 ?_
  intro w0 E0 hc
  repeat' (first|(with_reducible first|refine Wp_seq ?_|refine zwk ?_|refine Wp_block ?_|refine zgo ?_|refine zbn ?_|refine zge Tryz.results11 ?_|refine Sub.refl _|refine allP_nil|refine zoa1 (out':=?_) ?_|refine zca1 (y:=?_) ?_|refine zea1 (eo':=?_) ?_)|(with_reducible refine zrs [2] hc ?_ ?_;focus (with_unfolding_all rfl))|(with_reducible refine zrm [2] hc mixed ?_ ?_;focus (with_unfolding_all rfl))|(with_reducible refine allP_cons ?_ ?_;focus (first|decide|omega))|(with_reducible first|refine zg2 ?_ ?_|refine zbo ?_|refine zg3 ?_ (fun h=>?_) (fun h=>?_)|refine zg4 (fun h=>?_) (fun h=>?_)|fail)|((first|omega|contradiction);done))
  rw [e1,e2,e3]
  repeat' (first|(with_reducible first|refine Wp_seq ?_|refine zwk ?_|refine Wp_block ?_|refine zgo ?_|refine zbn ?_|refine zge Tryz.results11 ?_|refine Sub.refl _|refine allP_nil|refine zoa1 (out':=?_) ?_|refine zca1 (y:=?_) ?_|refine zea1 (eo':=?_) ?_)|(with_reducible refine zrs [3] hc ?_ ?_;focus (with_unfolding_all rfl))|(with_reducible refine zrm [3] hc mixed ?_ ?_;focus (with_unfolding_all rfl))|(with_reducible refine allP_cons ?_ ?_;focus (first|decide|omega))|(with_reducible first|refine zg2 ?_ ?_|refine zbo ?_|refine zg3 ?_ (fun h=>?_) (fun h=>?_)|refine zg4 (fun h=>?_) (fun h=>?_)|fail)|((first|omega|contradiction);done))
  rw [e4]
  repeat' (first|(with_reducible first|refine Wp_seq ?_|refine zwk ?_|refine Wp_block ?_|refine zgo ?_|refine zbn ?_|refine zge Tryz.results11 ?_|refine Sub.refl _|refine allP_nil|refine zoa1 (out':=?_) ?_|refine zca1 (y:=?_) ?_|refine zea1 (eo':=?_) ?_)|(with_reducible refine zrs [4] hc ?_ ?_;focus (with_unfolding_all rfl))|(with_reducible refine zrm [4] hc mixed ?_ ?_;focus (with_unfolding_all rfl))|(with_reducible refine allP_cons ?_ ?_;focus (first|decide|omega))|(with_reducible first|refine zg2 ?_ ?_|refine zbo ?_|refine zg3 ?_ (fun h=>?_) (fun h=>?_)|refine zg4 (fun h=>?_) (fun h=>?_)|fail)|((first|omega|contradiction);done))
  · exact ⟨by omega,rfl⟩
  rw [e5]
  refine Wp_weaker (st':=stOf [(3,N D),(4,N T),(5,N K),(6,N p),(7,N W)] [] 1) ?_ ?_
  · refine zwa1 (l1:=?_) (h1:=?_) ?_ ?_ <;> (repeat' (first|(with_reducible first|exact slotsOk_nil|exact boxesOk_nil|refine slotsOk_eq ?_ ?_|refine slotsOk_cons ?_ ?_ ?_|refine boxesOk_one rfl ?_ ?_ ?_|refine boxesOk_cons rfl (fun i hi=>?_) ?_ (fun i hi=>?_) ?_|refine sub_int ?_|refine sub_own_eq ?_ ?_|refine sub_gr_eq ?_ ?_|exact sub_nil_gr|exact sub_own_gr)|(first|omega|(simp only [IntKind.wrap_i64,IntKind.wrap_u64,List.length_append,List.length_singleton,List.length_cons,List.length_nil];omega))|((first|show AV.cl _ _|show clL _ _);simp [AV.cl,clL,Leaf.cl,clV];done)|(dsimp only [ite00];done)|(with_reducible first|exact SubLv.refl _|refine subLv_int ?_ ?_|refine subLv_frac ?_ ?_)|(dsimp only [ite00];with_reducible exact SubLv.refl _)|fail))
  have e6:IntKind.i64.wrap (1+(p:Int).tmod 6)=M:=by
    rw [Int.tmod_eq_emod_of_nonneg (by omega),w64 (by omega) (by omega)];omega
  clear e1 e2 e3 e4 e5 m5
  repeat' (first|(with_reducible first|refine Wp_seq ?_|refine zwk ?_|refine Wp_block ?_|refine zgo ?_|refine zbn ?_|refine zge Tryz.results11 ?_|refine Sub.refl _|refine allP_nil|refine zoa1 (out':=?_) ?_|refine zca1 (y:=?_) ?_|refine zea1 (eo':=?_) ?_)|(with_reducible refine zrs [15] hc ?_ ?_;focus (with_unfolding_all rfl))|(with_reducible refine zrm [15] hc mixed ?_ ?_;focus (with_unfolding_all rfl))|(with_reducible refine allP_cons ?_ ?_;focus (first|decide|omega))|(with_reducible first|refine zg2 ?_ ?_|refine zoc c_aw ?_ ?_|refine zoc c_1 ?_ ?_|refine zoc c_2 ?_ ?_|refine zoc (c_3 ?_) ?_ ?_|refine zoc (c_4 ?_) ?_ ?_|refine zbo ?_|refine zg3 ?_ (fun h=>?_) (fun h=>?_)|refine zg4 (fun h=>?_) (fun h=>?_)|fail)|((first|omega|contradiction);done))
  all_goals
    refine Wp_weaker (st':=stOf [(3,N D),(4,N T),(5,N K),(6,N p)] [] 1) ?_ ?_
    · refine zwa1 (l1:=?_) (h1:=?_) ?_ ?_ <;> (repeat' (first|(with_reducible first|exact slotsOk_nil|exact boxesOk_nil|refine slotsOk_eq ?_ ?_|refine slotsOk_cons ?_ ?_ ?_|refine boxesOk_one rfl ?_ ?_ ?_|refine boxesOk_cons rfl (fun i hi=>?_) ?_ (fun i hi=>?_) ?_|refine sub_int ?_|refine sub_own_eq ?_ ?_|refine sub_gr_eq ?_ ?_|exact sub_nil_gr|exact sub_own_gr)|(first|omega|(simp only [IntKind.wrap_i64,IntKind.wrap_u64,List.length_append,List.length_singleton,List.length_cons,List.length_nil];omega))|((first|show AV.cl _ _|show clL _ _);simp [AV.cl,clL,Leaf.cl,clV];done)|(dsimp only [ite00];done)|(with_reducible first|exact SubLv.refl _|refine subLv_int ?_ ?_|refine subLv_frac ?_ ?_)|(dsimp only [ite00];with_reducible exact SubLv.refl _)|fail))
    repeat' (first|(with_reducible first|refine Wp_seq ?_|refine zwk ?_|refine Wp_block ?_|refine zgo ?_|refine zbn ?_|refine zge Tryz.results11 ?_|refine Sub.refl _|refine allP_nil|refine zoa1 (out':=?_) ?_|refine zca1 (y:=?_) ?_|refine zea1 (eo':=?_) ?_)|(with_reducible refine zrs [16] hc ?_ ?_;focus (with_unfolding_all rfl))|(with_reducible refine zrm [16] hc mixed ?_ ?_;focus (with_unfolding_all rfl))|(with_reducible refine allP_cons ?_ ?_;focus (first|decide|omega))|(with_reducible first|refine zg2 ?_ ?_|refine zbo ?_|refine zg3 ?_ (fun h=>?_) (fun h=>?_)|refine zg4 (fun h=>?_) (fun h=>?_)|fail)|((first|omega|contradiction);done))
    rw [e6]
    repeat' (first|(with_reducible first|refine Wp_seq ?_|refine zr0 hc ?_|refine zm0 hc ?_|refine zwk ?_|refine Wp_block ?_|refine zgo ?_|refine zbn ?_|refine zge Tryz.results11 ?_|refine Sub.refl _|refine allP_nil|refine zoa1 (out':=?_) ?_|refine zca1 (y:=?_) ?_|refine zea1 (eo':=?_) ?_)|(with_reducible refine allP_cons ?_ ?_;focus (first|decide|omega))|(with_reducible first|refine zg2 ?_ ?_|refine zoc c_5 ?_ ?_|refine zoc c_6 ?_ ?_|refine zbo ?_|refine zg3 ?_ (fun h=>?_) (fun h=>?_)|refine zg4 (fun h=>?_) (fun h=>?_)|fail)|((first|omega|contradiction);done))
    all_goals
      have hm:m=0:=by omega
      subst hm
      exact sub_eq rfl
end
end Go.Proofs
end
