/- Lemmas on the program and its library: part XW32. -/
import Derived.RangeFuncNested
import Derived.RangeFuncBound
import Derived.RangeFuncCalls
import Derived.RangeFuncLeaves
import Derived.Shelf.Abstract
import Derived.Shelf.RegionOpen
import Derived.WalkKit
import Derived.OwnWalkIn
import Derived.TacticsInMore
import Derived.LoopNIn
import Derived.LoopIn
import Derived.Test.YtoiejgkkcfkliaaGreatDoorXA
set_option linter.unusedVariables false
set_option linter.unusedSimpArgs false
section
set_option maxHeartbeats 4000000
set_option maxRecDepth 100000
namespace Go.Proofs
open Go.Ax
theorem c_part (a b c d e f:Rat) (h0:dot3 d e f d e f≠0) (hb:rz a≤10000000∧rz b≤10000000∧rz c≤10000000∧rz d≤10000000∧rz e≤10000000∧rz f≤10000000):Ax.Pure Tryz.prog G 237 [vA d e f,.one (.pp [.frac a,.frac b,.frac c])] (fracA (dot3 a b c d e f / dot3 d e f d e f)):=by
  have q1:=rz_dot a b c d e f
  have q2:=rz_dot d e f d e f
  unfold dot3 at *
  refine zen Tryz.func237 rfl Tryz.ntmps237 ?_
  intro w0 E0 hc
  repeat' (first|refine zR1 hc Tryz.results237 ?_|(with_reducible first|exact trivial|refine zan ?_ ?_|refine zim (fun h=>?_)|refine zoc (c_Dot _ _ _ _ _ _ ?_) ?_ ?_|refine zoc (c_FDiv _ _ ?_ ?_ ?_) ?_ ?_|fail)|((first|exact h0|omega);done))
theorem c_VLocal (o1 o2 o3 x1 x2 x3 y1 y2 y3 z1 z2 z3 a b c:Rat) (hx:dot3 x1 x2 x3 x1 x2 x3≠0) (hy:dot3 y1 y2 y3 y1 y2 y3≠0) (hz:dot3 z1 z2 z3 z1 z2 z3≠0) (hb:rz x1≤1000000∧rz x2≤1000000∧rz x3≤1000000∧rz y1≤1000000∧rz y2≤1000000∧rz y3≤1000000∧rz z1≤1000000∧rz z2≤1000000∧rz z3≤1000000∧rz a≤1000000∧rz b≤1000000∧rz c≤1000000):Ax.Pure Tryz.prog G 183 [fA o1 o2 o3 x1 x2 x3 y1 y2 y3 z1 z2 z3,vA a b c] (vA (dot3 a b c x1 x2 x3 / dot3 x1 x2 x3 x1 x2 x3) (dot3 a b c y1 y2 y3 / dot3 y1 y2 y3 y1 y2 y3) (dot3 a b c z1 z2 z3 / dot3 z1 z2 z3 z1 z2 z3)):=by
  have c_p1:=c_part a b c x1 x2 x3 hx (by omega)
  have c_p2:=c_part a b c y1 y2 y3 hy (by omega)
  have c_p3:=c_part a b c z1 z2 z3 hz (by omega)
  refine zen Tryz.func183 rfl Tryz.ntmps183 ?_
  intro w0 E0 hc
  repeat' (first|(with_reducible first|refine Wp_seq ?_|refine zwk ?_|refine Wp_block ?_|refine zgo ?_|refine zbn ?_|refine zge Tryz.results183 ?_|refine Sub.refl _|refine allP_nil|refine zoa1 (out':=?_) ?_|refine zca1 (y:=?_) ?_|refine zea1 (eo':=?_) ?_)|(with_reducible refine zrs [2] hc ?_ ?_;focus (with_unfolding_all rfl))|(with_reducible refine zrm [2] hc mixed ?_ ?_;focus (with_unfolding_all rfl))|(with_reducible refine allP_cons ?_ ?_;focus (first|decide|omega))|(with_reducible first|refine zg2 ?_ ?_|refine zbo ?_|refine zg3 ?_ (fun h=>?_) (fun h=>?_)|refine zg4 (fun h=>?_) (fun h=>?_)|fail)|(omega;done))
  refine Wp_frzP hc 1 (sz:=12) (ro:=false) (g:=fun _=> [.frac a,.frac b,.frac c]) (Is.refl _) ⟨trivial,trivial,trivial,trivial⟩ rfl ?_
  refine Wp_weaker (st':=stOf [(2,.one (.ptr 0 48 0 0)),(4,.one (.ptr 2 12 0 0)),(5,.one (.fn (.func 237) [] [.pp [.frac a,.frac b,.frac c]]))] [(0,⟨48,1,fun _=> [.frac o1,.frac o2,.frac o3,.frac x1,.frac x2,.frac x3,.frac y1,.frac y2,.frac y3,.frac z1,.frac z2,.frac z3],false⟩),(2,⟨12,1,fun _=> [.v (.int .i64 0),.v (.slice none 0 0),.v (.int .i64 0),.v (.slice none 0 0),.v (.int .i64 0),.v (.slice none 0 0),.v (.int .i64 0),.v (.slice none 0 0),.v (.int .i64 0),.v (.slice none 0 0),.v (.int .i64 0),.v (.slice none 0 0)],false⟩)] 3) ?_ ?_
  · refine zW1 ?_ <;> repeat' (with_reducible first|exact trivial|refine zan ?_ ?_|refine zal (fun i hi=>?_))
  repeat' (first|refine zR1 hc Tryz.results183 ?_|(with_reducible first|exact trivial|refine zan ?_ ?_|refine zim (fun h=>?_)|refine zoc c_p1 ?_ ?_|refine zoc c_p2 ?_ ?_|refine zoc c_p3 ?_ ?_|fail)|(omega;done))
theorem c_VCoordinates (o1 o2 o3 x1 x2 x3 y1 y2 y3 z1 z2 z3 a b c:Rat) (hx:dot3 x1 x2 x3 x1 x2 x3≠0) (hy:dot3 y1 y2 y3 y1 y2 y3≠0) (hz:dot3 z1 z2 z3 z1 z2 z3≠0) (hb:rz x1≤100000∧rz x2≤100000∧rz x3≤100000∧rz y1≤100000∧rz y2≤100000∧rz y3≤100000∧rz z1≤100000∧rz z2≤100000∧rz z3≤100000∧rz a≤100000∧rz b≤100000∧rz c≤100000∧rz o1≤100000∧rz o2≤100000∧rz o3≤100000):Ax.Pure Tryz.prog G 181 [fA o1 o2 o3 x1 x2 x3 y1 y2 y3 z1 z2 z3,vA a b c] (vA (dot3 (a - o1) (b - o2) (c - o3) x1 x2 x3 / dot3 x1 x2 x3 x1 x2 x3) (dot3 (a - o1) (b - o2) (c - o3) y1 y2 y3 / dot3 y1 y2 y3 y1 y2 y3) (dot3 (a - o1) (b - o2) (c - o3) z1 z2 z3 / dot3 z1 z2 z3 z1 z2 z3)):=by
  have s1:=rz_sub a o1
  have s2:=rz_sub b o2
  have s3:=rz_sub c o3
  have c_l:=c_VLocal o1 o2 o3 x1 x2 x3 y1 y2 y3 z1 z2 z3 (a - o1) (b - o2) (c - o3) hx hy hz (by omega)
  refine zen Tryz.func181 rfl Tryz.ntmps181 ?_
  intro w0 E0 hc
  repeat' (first|refine zR1 hc Tryz.results181 ?_|(with_reducible first|exact trivial|refine zan ?_ ?_|refine zim (fun h=>?_)|refine zoc (c_VSub _ _ _ _ _ _ ?_) ?_ ?_|refine zoc c_l ?_ ?_|fail)|(omega;done))
end Go.Proofs
end
section
set_option maxHeartbeats 4000000
set_option maxRecDepth 1000000
namespace Go.Proofs
open Go.Ax
open Go.RowKit Go.Shelf
attribute [local go_sem] Oper.semAt_some
theorem s_CheckFrame_err (a b c d:V3) (ha:shortV a) (hb:shortV b) (hc':shortV c) (hd:shortV d) (he:fstVs [a,b,c,d]≠0):Ax.Pure Tryz.prog G 92 [.agg (leafV a++leafV b++leafV c++leafV d)] (N (fstVs [a,b,c,d])):=by
  have c_c:=c_checkVecs4 a b c d ha hb hc' hd
  generalize fstVs [a,b,c,d]=e at *
  refine zen Tryz.func92 rfl Tryz.ntmps92 ?_
  intro w0 E0 hc
  repeat' (first|refine zR1 hc Tryz.results92 ?_|(with_reducible first|exact trivial|refine zan ?_ ?_|refine zim (fun h=>?_)|refine zoc c_c ?_ ?_|fail)|((first|omega|exact absurd (by assumption) he);done))
end Go.Proofs
end
section
set_option maxHeartbeats 4000000
set_option maxRecDepth 100000
namespace Go.Proofs
open Go.Ax
def FrE (a b c d:V3) (e:Int):Prop:=(e=fstVs [a,b,c,d]∧e≠0)∨∃o1 o2 o3 x1 x2 x3 y1 y2 y3 z1 z2 z3:Rat,(a=v3 o1 o2 o3∧b=v3 x1 x2 x3∧c=v3 y1 y2 y3∧d=v3 z1 z2 z3)∧(okV o1 o2 o3∧okV x1 x2 x3∧okV y1 y2 y3∧okV z1 z2 z3)∧e=axE x1 x2 x3 y1 y2 y3 z1 z2 z3
abbrev txF (a b c d:V3):AV:=tF a.1 a.2.1 a.2.2 b.1 b.2.1 b.2.2 c.1 c.2.1 c.2.2 d.1 d.2.1 d.2.2
theorem s_CheckFr {a b c d:V3} {e:Int} (ha:shortV a) (hb:shortV b) (hc:shortV c) (hd:shortV d) (h:FrE a b c d e):Ax.Pure Tryz.prog G 92 [txF a b c d] (N e):=by
  rcases h with ⟨rfl,h⟩|⟨o1,o2,o3,x1,x2,x3,y1,y2,y3,z1,z2,z3,⟨rfl,rfl,rfl,rfl⟩,⟨h1,h2,h3,h4⟩,rfl⟩
  · exact s_CheckFrame_err a b c d ha hb hc hd h
  · exact s_CheckFrame o1 o2 o3 x1 x2 x3 y1 y2 y3 z1 z2 z3 h1 h2 h3 h4
theorem s_gF_4 {k:Nat} (hk:k≤1000000) (o1 o2 o3 x1 x2 x3 y1 y2 y3 z1 z2 z3:Rat) (qo:Q k o1∧Q k o2∧Q k o3) (qx:Q k x1∧Q k x2∧Q k x3) (qy:Q k y1∧Q k y2∧Q k y3) (qz:Q k z1∧Q k z2∧Q k z3) (ho:(dot3 x1 x2 x3 y1 y2 y3=0∧dot3 y1 y2 y3 z1 z2 z3=0∧dot3 z1 z2 z3 x1 x2 x3=0)) (hb:bigF o1 o2 o3 x1 x2 x3 y1 y2 y3 z1 z2 z3=true):Ax.Pure Tryz.prog G 178 [fA o1 o2 o3 x1 x2 x3 y1 y2 y3 z1 z2 z3] (.tup [tF [] [] [] [] [] [] [] [] [] [] [] [],N 4]):=by
  have c_o:=c_isOrth o1 o2 o3 x1 x2 x3 y1 y2 y3 z1 z2 z3 hk qx qy qz
  have c_l:=c_FrLarge hk o1 o2 o3 x1 x2 x3 y1 y2 y3 z1 z2 z3 qo qx qy qz
  have c_t:=c_FrText hk o1 o2 o3 x1 x2 x3 y1 y2 y3 z1 z2 z3 qo qx qy qz
  rw [decide_eq_true ho] at c_o
  rw [hb] at c_l
  have c_f:=(show Ax.Pure Tryz.prog G 143 [.one (.row 1 2 (fun i=> [[Leaf.v (.int .i64 0)],[Leaf.v (.int .i64 4)]].getD i []))] (N 4) from c_first2 0 4)
  refine zen Tryz.func178 rfl Tryz.ntmps178 ?_
  intro w0 E0 hc
  repeat' (first|refine zR1 hc Tryz.results178 ?_|(with_reducible first|exact trivial|refine zan ?_ ?_|refine zim (fun h=>?_)|refine zoc c_o ?_ ?_|refine zoc c_l ?_ ?_|refine zoc c_t ?_ ?_|refine zoc (c_wt _) ?_ ?_|refine zoc (c_wf _) ?_ ?_|refine zoc (c_wnt _) ?_ ?_|refine zoc (c_wnf _) ?_ ?_|refine zoc c_f ?_ ?_|fail)|((first|omega|exact absurd rfl (by assumption)|(refine nf1 ?_;assumption)|(refine nf2 ?_;assumption));done))
theorem s_gF_15 {k:Nat} (hk:k≤1000000) (o1 o2 o3 x1 x2 x3 y1 y2 y3 z1 z2 z3:Rat) (qo:Q k o1∧Q k o2∧Q k o3) (qx:Q k x1∧Q k x2∧Q k x3) (qy:Q k y1∧Q k y2∧Q k y3) (qz:Q k z1∧Q k z2∧Q k z3) (ho:¬(dot3 x1 x2 x3 y1 y2 y3=0∧dot3 y1 y2 y3 z1 z2 z3=0∧dot3 z1 z2 z3 x1 x2 x3=0)) (hb:bigF o1 o2 o3 x1 x2 x3 y1 y2 y3 z1 z2 z3=false):Ax.Pure Tryz.prog G 178 [fA o1 o2 o3 x1 x2 x3 y1 y2 y3 z1 z2 z3] (.tup [tF [] [] [] [] [] [] [] [] [] [] [] [],N 15]):=by
  have c_o:=c_isOrth o1 o2 o3 x1 x2 x3 y1 y2 y3 z1 z2 z3 hk qx qy qz
  have c_l:=c_FrLarge hk o1 o2 o3 x1 x2 x3 y1 y2 y3 z1 z2 z3 qo qx qy qz
  have c_t:=c_FrText hk o1 o2 o3 x1 x2 x3 y1 y2 y3 z1 z2 z3 qo qx qy qz
  rw [decide_eq_false ho] at c_o
  rw [hb] at c_l
  have c_f:=(show Ax.Pure Tryz.prog G 143 [.one (.row 1 2 (fun i=> [[Leaf.v (.int .i64 15)],[Leaf.v (.int .i64 0)]].getD i []))] (N 15) from c_first2 15 0)
  refine zen Tryz.func178 rfl Tryz.ntmps178 ?_
  intro w0 E0 hc
  repeat' (first|refine zR1 hc Tryz.results178 ?_|(with_reducible first|exact trivial|refine zan ?_ ?_|refine zim (fun h=>?_)|refine zoc c_o ?_ ?_|refine zoc c_l ?_ ?_|refine zoc c_t ?_ ?_|refine zoc (c_wt _) ?_ ?_|refine zoc (c_wf _) ?_ ?_|refine zoc (c_wnt _) ?_ ?_|refine zoc (c_wnf _) ?_ ?_|refine zoc c_f ?_ ?_|fail)|((first|omega|exact absurd rfl (by assumption)|(refine nf1 ?_;assumption)|(refine nf2 ?_;assumption));done))
theorem s_gF_15b {k:Nat} (hk:k≤1000000) (o1 o2 o3 x1 x2 x3 y1 y2 y3 z1 z2 z3:Rat) (qo:Q k o1∧Q k o2∧Q k o3) (qx:Q k x1∧Q k x2∧Q k x3) (qy:Q k y1∧Q k y2∧Q k y3) (qz:Q k z1∧Q k z2∧Q k z3) (ho:¬(dot3 x1 x2 x3 y1 y2 y3=0∧dot3 y1 y2 y3 z1 z2 z3=0∧dot3 z1 z2 z3 x1 x2 x3=0)) (hb:bigF o1 o2 o3 x1 x2 x3 y1 y2 y3 z1 z2 z3=true):Ax.Pure Tryz.prog G 178 [fA o1 o2 o3 x1 x2 x3 y1 y2 y3 z1 z2 z3] (.tup [tF [] [] [] [] [] [] [] [] [] [] [] [],N 15]):=by
  have c_o:=c_isOrth o1 o2 o3 x1 x2 x3 y1 y2 y3 z1 z2 z3 hk qx qy qz
  have c_l:=c_FrLarge hk o1 o2 o3 x1 x2 x3 y1 y2 y3 z1 z2 z3 qo qx qy qz
  have c_t:=c_FrText hk o1 o2 o3 x1 x2 x3 y1 y2 y3 z1 z2 z3 qo qx qy qz
  rw [decide_eq_false ho] at c_o
  rw [hb] at c_l
  have c_f:=(show Ax.Pure Tryz.prog G 143 [.one (.row 1 2 (fun i=> [[Leaf.v (.int .i64 15)],[Leaf.v (.int .i64 4)]].getD i []))] (N 15) from c_first2 15 4)
  refine zen Tryz.func178 rfl Tryz.ntmps178 ?_
  intro w0 E0 hc
  repeat' (first|refine zR1 hc Tryz.results178 ?_|(with_reducible first|exact trivial|refine zan ?_ ?_|refine zim (fun h=>?_)|refine zoc c_o ?_ ?_|refine zoc c_l ?_ ?_|refine zoc c_t ?_ ?_|refine zoc (c_wt _) ?_ ?_|refine zoc (c_wf _) ?_ ?_|refine zoc (c_wnt _) ?_ ?_|refine zoc (c_wnf _) ?_ ?_|refine zoc c_f ?_ ?_|fail)|((first|omega|exact absurd rfl (by assumption)|(refine nf1 ?_;assumption)|(refine nf2 ?_;assumption));done))
theorem c_giveF_no {k:Nat} (hk:k≤1000000) (o1 o2 o3 x1 x2 x3 y1 y2 y3 z1 z2 z3:Rat) (qo:Q k o1∧Q k o2∧Q k o3) (qx:Q k x1∧Q k x2∧Q k x3) (qy:Q k y1∧Q k y2∧Q k y3) (qz:Q k z1∧Q k z2∧Q k z3) (h:gvF o1 o2 o3 x1 x2 x3 y1 y2 y3 z1 z2 z3≠0):Ax.Pure Tryz.prog G 178 [fA o1 o2 o3 x1 x2 x3 y1 y2 y3 z1 z2 z3] (.tup [tF [] [] [] [] [] [] [] [] [] [] [] [],N (gvF o1 o2 o3 x1 x2 x3 y1 y2 y3 z1 z2 z3)]):=by
  unfold gvF at h ⊢
  split
  · rename_i ho
    rw [if_pos ho] at h
    split
    · rename_i hb
      exact s_gF_4 hk _ _ _ _ _ _ _ _ _ _ _ _ qo qx qy qz ho hb
    · rename_i hb
      rw [if_neg hb] at h
      exact absurd rfl h
  · rename_i ho
    cases hb:bigF o1 o2 o3 x1 x2 x3 y1 y2 y3 z1 z2 z3
    · exact s_gF_15 hk _ _ _ _ _ _ _ _ _ _ _ _ qo qx qy qz ho hb
    · exact s_gF_15b hk _ _ _ _ _ _ _ _ _ _ _ _ qo qx qy qz ho hb
theorem s_Place_err (a b c d v:V3) (e1:Int) (c_c:Ax.Pure Tryz.prog G 92 [txF a b c d] (N e1)) (hv:shortV v) (he:firstNZ [e1,fstVec v]≠0):Ax.Pure Tryz.prog G 75 [txF a b c d,txV v] (.tup [tV [] [] [],N (firstNZ [e1,fstVec v])]):=by
  have c_v:=s_CheckVec hv
  have c_f:=err_first2 (a:=e1) (b:=fstVec v) rfl
  generalize firstNZ [e1,fstVec v]=e at *
  refine zen Tryz.func75 rfl Tryz.ntmps75 ?_
  intro w0 E0 hc
  repeat' (first|refine zR1 hc Tryz.results75 ?_|(with_reducible first|exact trivial|refine zan ?_ ?_|refine zim (fun h=>?_)|refine zoc c_c ?_ ?_|refine zoc c_v ?_ ?_|refine zoc c_f ?_ ?_|fail)|((first|omega|exact absurd (by assumption) he);done))
theorem s_Local_err (a b c d v:V3) (e1:Int) (c_c:Ax.Pure Tryz.prog G 92 [txF a b c d] (N e1)) (hv:shortV v) (he:firstNZ [e1,fstVec v]≠0):Ax.Pure Tryz.prog G 83 [txF a b c d,txV v] (.tup [tV [] [] [],N (firstNZ [e1,fstVec v])]):=by
  have c_v:=s_CheckVec hv
  have c_f:=err_first2 (a:=e1) (b:=fstVec v) rfl
  generalize firstNZ [e1,fstVec v]=e at *
  refine zen Tryz.func83 rfl Tryz.ntmps83 ?_
  intro w0 E0 hc
  repeat' (first|refine zR1 hc Tryz.results83 ?_|(with_reducible first|exact trivial|refine zan ?_ ?_|refine zim (fun h=>?_)|refine zoc c_c ?_ ?_|refine zoc c_v ?_ ?_|refine zoc c_f ?_ ?_|fail)|((first|omega|exact absurd (by assumption) he);done))
theorem s_Shift_err (a b c d v:V3) (e1:Int) (c_c:Ax.Pure Tryz.prog G 92 [txF a b c d] (N e1)) (hv:shortV v) (he:firstNZ [e1,fstVec v]≠0):Ax.Pure Tryz.prog G 93 [txF a b c d,txV v] (.tup [tF [] [] [] [] [] [] [] [] [] [] [] [],N (firstNZ [e1,fstVec v])]):=by
  have c_v:=s_CheckVec hv
  have c_f:=err_first2 (a:=e1) (b:=fstVec v) rfl
  generalize firstNZ [e1,fstVec v]=e at *
  refine zen Tryz.func93 rfl Tryz.ntmps93 ?_
  intro w0 E0 hc
  repeat' (first|refine zR1 hc Tryz.results93 ?_|(with_reducible first|exact trivial|refine zan ?_ ?_|refine zim (fun h=>?_)|refine zoc c_c ?_ ?_|refine zoc c_v ?_ ?_|refine zoc c_f ?_ ?_|fail)|((first|omega|exact absurd (by assumption) he);done))
theorem s_Stretch_err (a b c d:V3) (e1:Int) (c_c:Ax.Pure Tryz.prog G 92 [txF a b c d] (N e1)) (he:e1≠0):Ax.Pure Tryz.prog G 94 [txF a b c d] (.tup [tV [] [] [],N e1]):=by
  refine zen Tryz.func94 rfl Tryz.ntmps94 ?_
  intro w0 E0 hc
  repeat' (first|refine zR1 hc Tryz.results94 ?_|(with_reducible first|exact trivial|refine zan ?_ ?_|refine zim (fun h=>?_)|refine zoc c_c ?_ ?_|fail)|((first|omega|exact absurd (by assumption) he);done))
theorem s_Local (o1 o2 o3 x1 x2 x3 y1 y2 y3 z1 z2 z3:Rat) (hF:okF o1 o2 o3 x1 x2 x3 y1 y2 y3 z1 z2 z3) (p1 p2 p3:Rat) (hp:okV p1 p2 p3):Ax.Pure Tryz.prog G 83 [tF (ratL o1) (ratL o2) (ratL o3) (ratL x1) (ratL x2) (ratL x3) (ratL y1) (ratL y2) (ratL y3) (ratL z1) (ratL z2) (ratL z3),tV (ratL p1) (ratL p2) (ratL p3)] (.tup [tV (txl (bigV (dot3 (p1 - o1) (p2 - o2) (p3 - o3) x1 x2 x3 / dot3 x1 x2 x3 x1 x2 x3) (dot3 (p1 - o1) (p2 - o2) (p3 - o3) y1 y2 y3 / dot3 y1 y2 y3 y1 y2 y3) (dot3 (p1 - o1) (p2 - o2) (p3 - o3) z1 z2 z3 / dot3 z1 z2 z3 z1 z2 z3)) (dot3 (p1 - o1) (p2 - o2) (p3 - o3) x1 x2 x3 / dot3 x1 x2 x3 x1 x2 x3)) (txl (bigV (dot3 (p1 - o1) (p2 - o2) (p3 - o3) x1 x2 x3 / dot3 x1 x2 x3 x1 x2 x3) (dot3 (p1 - o1) (p2 - o2) (p3 - o3) y1 y2 y3 / dot3 y1 y2 y3 y1 y2 y3) (dot3 (p1 - o1) (p2 - o2) (p3 - o3) z1 z2 z3 / dot3 z1 z2 z3 z1 z2 z3)) (dot3 (p1 - o1) (p2 - o2) (p3 - o3) y1 y2 y3 / dot3 y1 y2 y3 y1 y2 y3)) (txl (bigV (dot3 (p1 - o1) (p2 - o2) (p3 - o3) x1 x2 x3 / dot3 x1 x2 x3 x1 x2 x3) (dot3 (p1 - o1) (p2 - o2) (p3 - o3) y1 y2 y3 / dot3 y1 y2 y3 y1 y2 y3) (dot3 (p1 - o1) (p2 - o2) (p3 - o3) z1 z2 z3 / dot3 z1 z2 z3 z1 z2 z3)) (dot3 (p1 - o1) (p2 - o2) (p3 - o3) z1 z2 z3 / dot3 z1 z2 z3 z1 z2 z3)),N (exl (bigV (dot3 (p1 - o1) (p2 - o2) (p3 - o3) x1 x2 x3 / dot3 x1 x2 x3 x1 x2 x3) (dot3 (p1 - o1) (p2 - o2) (p3 - o3) y1 y2 y3 / dot3 y1 y2 y3 y1 y2 y3) (dot3 (p1 - o1) (p2 - o2) (p3 - o3) z1 z2 z3 / dot3 z1 z2 z3 z1 z2 z3)))]):=by
  obtain ⟨hx0,hy0,hz0,hor,hdt⟩:=axE_zero hF.2.2.2.2
  have c_c:=s_chkF hF
  have c_F:=s_FromFrame hF
  obtain ⟨⟨qo1,qo2,qo3⟩,⟨qx1,qx2,qx3⟩,⟨qy1,qy2,qy3⟩,⟨qz1,qz2,qz3⟩⟩:(Q 2400 o1∧Q 2400 o2∧Q 2400 o3)∧(Q 2400 x1∧Q 2400 x2∧Q 2400 x3)∧(Q 2400 y1∧Q 2400 y2∧Q 2400 y3)∧Q 2400 z1∧Q 2400 z2∧Q 2400 z3:=⟨okV_Q hF.1,okV_Q hF.2.1,okV_Q hF.2.2.1,okV_Q hF.2.2.2.1⟩
  obtain ⟨qp1,qp2,qp3⟩:=okV_Q hp
  have c_v:=s_chkV hp
  have c_p:=s_VFrom hp
  have c_pl:=c_VCoordinates o1 o2 o3 x1 x2 x3 y1 y2 y3 z1 z2 z3 p1 p2 p3 (dot_pos hx0) (dot_pos hy0) (dot_pos hz0) ⟨rz_of qx1 rfl,rz_of qx2 rfl,rz_of qx3 rfl,rz_of qy1 rfl,rz_of qy2 rfl,rz_of qy3 rfl,rz_of qz1 rfl,rz_of qz2 rfl,rz_of qz3 rfl,rz_of qp1 rfl,rz_of qp2 rfl,rz_of qp3 rfl,rz_of qo1 rfl,rz_of qo2 rfl,rz_of qo3 rfl⟩
  have c_g:=c_giveVec (k:=1000000) (by decide) (dot3 (p1 - o1) (p2 - o2) (p3 - o3) x1 x2 x3 / dot3 x1 x2 x3 x1 x2 x3) (dot3 (p1 - o1) (p2 - o2) (p3 - o3) y1 y2 y3 / dot3 y1 y2 y3 y1 y2 y3) (dot3 (p1 - o1) (p2 - o2) (p3 - o3) z1 z2 z3 / dot3 z1 z2 z3 z1 z2 z3) ⟨Q_of (Q_div (Q_add (Q_add (Q_mul (Q_sub qp1 qo1) qx1) (Q_mul (Q_sub qp2 qo2) qx2)) (Q_mul (Q_sub qp3 qo3) qx3)) (Q_add (Q_add (Q_mul qx1 qx1) (Q_mul qx2 qx2)) (Q_mul qx3 qx3))) rfl,Q_of (Q_div (Q_add (Q_add (Q_mul (Q_sub qp1 qo1) qy1) (Q_mul (Q_sub qp2 qo2) qy2)) (Q_mul (Q_sub qp3 qo3) qy3)) (Q_add (Q_add (Q_mul qy1 qy1) (Q_mul qy2 qy2)) (Q_mul qy3 qy3))) rfl,Q_of (Q_div (Q_add (Q_add (Q_mul (Q_sub qp1 qo1) qz1) (Q_mul (Q_sub qp2 qo2) qz2)) (Q_mul (Q_sub qp3 qo3) qz3)) (Q_add (Q_add (Q_mul qz1 qz1) (Q_mul qz2 qz2)) (Q_mul qz3 qz3))) rfl⟩
  refine zen Tryz.func83 rfl Tryz.ntmps83 ?_
  intro w0 E0 hc
  repeat' (first|refine zR1 hc Tryz.results83 ?_|(with_reducible first|exact trivial|refine zan ?_ ?_|refine zim (fun h=>?_)|refine zoc c_c ?_ ?_|refine zoc c_v ?_ ?_|refine zoc s_first20 ?_ ?_|refine zoc c_F ?_ ?_|refine zoc c_p ?_ ?_|refine zoc c_pl ?_ ?_|refine zoc c_g ?_ ?_|fail)|((first|omega|exact absurd rfl (by assumption)|(refine nf1 ?_;assumption)|(refine nf2 ?_;assumption));done))
theorem s_Shift (o1 o2 o3 x1 x2 x3 y1 y2 y3 z1 z2 z3:Rat) (hF:okF o1 o2 o3 x1 x2 x3 y1 y2 y3 z1 z2 z3) (p1 p2 p3:Rat) (hp:okV p1 p2 p3) (hh:gvF (o1+p1) (o2+p2) (o3+p3) x1 x2 x3 y1 y2 y3 z1 z2 z3=0):Ax.Pure Tryz.prog G 93 [tF (ratL o1) (ratL o2) (ratL o3) (ratL x1) (ratL x2) (ratL x3) (ratL y1) (ratL y2) (ratL y3) (ratL z1) (ratL z2) (ratL z3),tV (ratL p1) (ratL p2) (ratL p3)] (.tup [tF (ratL (o1+p1)) (ratL (o2+p2)) (ratL (o3+p3)) (ratL x1) (ratL x2) (ratL x3) (ratL y1) (ratL y2) (ratL y3) (ratL z1) (ratL z2) (ratL z3),N 0]):=by
  obtain ⟨hx0,hy0,hz0,hor,hdt⟩:=axE_zero hF.2.2.2.2
  have c_c:=s_chkF hF
  have c_F:=s_FromFrame hF
  obtain ⟨⟨qo1,qo2,qo3⟩,⟨qx1,qx2,qx3⟩,⟨qy1,qy2,qy3⟩,⟨qz1,qz2,qz3⟩⟩:(Q 2400 o1∧Q 2400 o2∧Q 2400 o3)∧(Q 2400 x1∧Q 2400 x2∧Q 2400 x3)∧(Q 2400 y1∧Q 2400 y2∧Q 2400 y3)∧Q 2400 z1∧Q 2400 z2∧Q 2400 z3:=⟨okV_Q hF.1,okV_Q hF.2.1,okV_Q hF.2.2.1,okV_Q hF.2.2.2.1⟩
  obtain ⟨qp1,qp2,qp3⟩:=okV_Q hp
  have c_v:=s_chkV hp
  have c_p:=s_VFrom hp
  have c_a:=c_VAdd o1 o2 o3 p1 p2 p3 ⟨rz_of qo1 rfl,rz_of qo2 rfl,rz_of qo3 rfl,rz_of qp1 rfl,rz_of qp2 rfl,rz_of qp3 rfl⟩
  have c_g:=c_giveF (k:=1000000) (by decide) (o1+p1) (o2+p2) (o3+p3) x1 x2 x3 y1 y2 y3 z1 z2 z3 ⟨Q_of (Q_add qo1 qp1) rfl,Q_of (Q_add qo2 qp2) rfl,Q_of (Q_add qo3 qp3) rfl⟩ ⟨Q_of qx1 rfl,Q_of qx2 rfl,Q_of qx3 rfl⟩ ⟨Q_of qy1 rfl,Q_of qy2 rfl,Q_of qy3 rfl⟩ ⟨Q_of qz1 rfl,Q_of qz2 rfl,Q_of qz3 rfl⟩ hh
  refine zen Tryz.func93 rfl Tryz.ntmps93 ?_
  intro w0 E0 hc
  repeat' (first|refine zR1 hc Tryz.results93 ?_|(with_reducible first|exact trivial|refine zan ?_ ?_|refine zim (fun h=>?_)|refine zoc c_c ?_ ?_|refine zoc c_v ?_ ?_|refine zoc s_first20 ?_ ?_|refine zoc c_F ?_ ?_|refine zoc c_p ?_ ?_|refine zoc c_a ?_ ?_|refine zoc c_g ?_ ?_|fail)|((first|omega|exact absurd rfl (by assumption)|(refine nf1 ?_;assumption)|(refine nf2 ?_;assumption));done))
theorem s_Shift_no (o1 o2 o3 x1 x2 x3 y1 y2 y3 z1 z2 z3:Rat) (hF:okF o1 o2 o3 x1 x2 x3 y1 y2 y3 z1 z2 z3) (p1 p2 p3:Rat) (hp:okV p1 p2 p3) (hh:gvF (o1+p1) (o2+p2) (o3+p3) x1 x2 x3 y1 y2 y3 z1 z2 z3≠0):Ax.Pure Tryz.prog G 93 [tF (ratL o1) (ratL o2) (ratL o3) (ratL x1) (ratL x2) (ratL x3) (ratL y1) (ratL y2) (ratL y3) (ratL z1) (ratL z2) (ratL z3),tV (ratL p1) (ratL p2) (ratL p3)] (.tup [tF [] [] [] [] [] [] [] [] [] [] [] [],N (gvF (o1+p1) (o2+p2) (o3+p3) x1 x2 x3 y1 y2 y3 z1 z2 z3)]):=by
  obtain ⟨hx0,hy0,hz0,hor,hdt⟩:=axE_zero hF.2.2.2.2
  have c_c:=s_chkF hF
  have c_F:=s_FromFrame hF
  obtain ⟨⟨qo1,qo2,qo3⟩,⟨qx1,qx2,qx3⟩,⟨qy1,qy2,qy3⟩,⟨qz1,qz2,qz3⟩⟩:(Q 2400 o1∧Q 2400 o2∧Q 2400 o3)∧(Q 2400 x1∧Q 2400 x2∧Q 2400 x3)∧(Q 2400 y1∧Q 2400 y2∧Q 2400 y3)∧Q 2400 z1∧Q 2400 z2∧Q 2400 z3:=⟨okV_Q hF.1,okV_Q hF.2.1,okV_Q hF.2.2.1,okV_Q hF.2.2.2.1⟩
  obtain ⟨qp1,qp2,qp3⟩:=okV_Q hp
  have c_v:=s_chkV hp
  have c_p:=s_VFrom hp
  have c_a:=c_VAdd o1 o2 o3 p1 p2 p3 ⟨rz_of qo1 rfl,rz_of qo2 rfl,rz_of qo3 rfl,rz_of qp1 rfl,rz_of qp2 rfl,rz_of qp3 rfl⟩
  have c_g:=c_giveF_no (k:=1000000) (by decide) (o1+p1) (o2+p2) (o3+p3) x1 x2 x3 y1 y2 y3 z1 z2 z3 ⟨Q_of (Q_add qo1 qp1) rfl,Q_of (Q_add qo2 qp2) rfl,Q_of (Q_add qo3 qp3) rfl⟩ ⟨Q_of qx1 rfl,Q_of qx2 rfl,Q_of qx3 rfl⟩ ⟨Q_of qy1 rfl,Q_of qy2 rfl,Q_of qy3 rfl⟩ ⟨Q_of qz1 rfl,Q_of qz2 rfl,Q_of qz3 rfl⟩ hh
  refine zen Tryz.func93 rfl Tryz.ntmps93 ?_
  intro w0 E0 hc
  repeat' (first|refine zR1 hc Tryz.results93 ?_|(with_reducible first|exact trivial|refine zan ?_ ?_|refine zim (fun h=>?_)|refine zoc c_c ?_ ?_|refine zoc c_v ?_ ?_|refine zoc s_first20 ?_ ?_|refine zoc c_F ?_ ?_|refine zoc c_p ?_ ?_|refine zoc c_a ?_ ?_|refine zoc c_g ?_ ?_|fail)|((first|omega|exact absurd rfl (by assumption)|(refine nf1 ?_;assumption)|(refine nf2 ?_;assumption));done))
theorem s_Stretch (o1 o2 o3 x1 x2 x3 y1 y2 y3 z1 z2 z3:Rat) (hF:okF o1 o2 o3 x1 x2 x3 y1 y2 y3 z1 z2 z3):Ax.Pure Tryz.prog G 94 [tF (ratL o1) (ratL o2) (ratL o3) (ratL x1) (ratL x2) (ratL x3) (ratL y1) (ratL y2) (ratL y3) (ratL z1) (ratL z2) (ratL z3)] (.tup [tV (txl (bigV (dot3 x1 x2 x3 x1 x2 x3) (dot3 y1 y2 y3 y1 y2 y3) (dot3 z1 z2 z3 z1 z2 z3)) (dot3 x1 x2 x3 x1 x2 x3)) (txl (bigV (dot3 x1 x2 x3 x1 x2 x3) (dot3 y1 y2 y3 y1 y2 y3) (dot3 z1 z2 z3 z1 z2 z3)) (dot3 y1 y2 y3 y1 y2 y3)) (txl (bigV (dot3 x1 x2 x3 x1 x2 x3) (dot3 y1 y2 y3 y1 y2 y3) (dot3 z1 z2 z3 z1 z2 z3)) (dot3 z1 z2 z3 z1 z2 z3)),N (exl (bigV (dot3 x1 x2 x3 x1 x2 x3) (dot3 y1 y2 y3 y1 y2 y3) (dot3 z1 z2 z3 z1 z2 z3)))]):=by
  obtain ⟨hx0,hy0,hz0,hor,hdt⟩:=axE_zero hF.2.2.2.2
  have c_c:=s_chkF hF
  have c_F:=s_FromFrame hF
  obtain ⟨⟨qo1,qo2,qo3⟩,⟨qx1,qx2,qx3⟩,⟨qy1,qy2,qy3⟩,⟨qz1,qz2,qz3⟩⟩:(Q 2400 o1∧Q 2400 o2∧Q 2400 o3)∧(Q 2400 x1∧Q 2400 x2∧Q 2400 x3)∧(Q 2400 y1∧Q 2400 y2∧Q 2400 y3)∧Q 2400 z1∧Q 2400 z2∧Q 2400 z3:=⟨okV_Q hF.1,okV_Q hF.2.1,okV_Q hF.2.2.1,okV_Q hF.2.2.2.1⟩
  have c_x:=c_Dot3 (k:=2400) (by decide) x1 x2 x3 x1 x2 x3 qx1 qx2 qx3 qx1 qx2 qx3
  have c_y:=c_Dot3 (k:=2400) (by decide) y1 y2 y3 y1 y2 y3 qy1 qy2 qy3 qy1 qy2 qy3
  have c_z:=c_Dot3 (k:=2400) (by decide) z1 z2 z3 z1 z2 z3 qz1 qz2 qz3 qz1 qz2 qz3
  have c_g:=c_giveVec (k:=1000000) (by decide) (dot3 x1 x2 x3 x1 x2 x3) (dot3 y1 y2 y3 y1 y2 y3) (dot3 z1 z2 z3 z1 z2 z3) ⟨Q_of (Q_add (Q_add (Q_mul qx1 qx1) (Q_mul qx2 qx2)) (Q_mul qx3 qx3)) rfl,Q_of (Q_add (Q_add (Q_mul qy1 qy1) (Q_mul qy2 qy2)) (Q_mul qy3 qy3)) rfl,Q_of (Q_add (Q_add (Q_mul qz1 qz1) (Q_mul qz2 qz2)) (Q_mul qz3 qz3)) rfl⟩
  refine zen Tryz.func94 rfl Tryz.ntmps94 ?_
  intro w0 E0 hc
  repeat' (first|refine zR1 hc Tryz.results94 ?_|(with_reducible first|exact trivial|refine zan ?_ ?_|refine zim (fun h=>?_)|refine zoc c_c ?_ ?_|refine zoc c_F ?_ ?_|refine zoc c_x ?_ ?_|refine zoc c_y ?_ ?_|refine zoc c_z ?_ ?_|refine zoc c_g ?_ ?_|fail)|((first|omega|exact absurd rfl (by assumption)|(refine nf1 ?_;assumption)|(refine nf2 ?_;assumption));done))
end Go.Proofs
end
