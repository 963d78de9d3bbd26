/- Lemmas on the program and its library: part XFt. -/
import Derived.Test.YtoiejgkkcfkliaaGreatDoorXW29
set_option linter.unusedVariables false
set_option linter.unusedSimpArgs false
section
set_option maxHeartbeats 4000000
set_option maxRecDepth 100000
namespace Go.Proofs
open Go.Ax
theorem two_text:(⟨#[50]⟩:ByteArray)=bs (ratL 2):=by
  have:ratL 2= [50]:=by
    unfold ratL intL
    rw [if_pos (by rfl),if_neg (by decide)]
    show Lib.decDigits 2= [50]
    rw [dec_small (by decide)];rfl
  rw [this]
theorem r_Project (x y z:Int) (w:Rat) (hh:okH x y z w) (p1 p2 p3:Rat) (hp:okV p1 p2 p3):Ax.Pure Tryz.prog G 50 [tH x y z (ratL w),tV (ratL p1) (ratL p2) (ratL p3)] (tV (ratL (p1 - ((dot3 (x:Rat) (y:Rat) (z:Rat) p1 p2 p3 - w) / dot3 (x:Rat) (y:Rat) (z:Rat) (x:Rat) (y:Rat) (z:Rat))*(x:Rat))) (ratL (p2 - ((dot3 (x:Rat) (y:Rat) (z:Rat) p1 p2 p3 - w) / dot3 (x:Rat) (y:Rat) (z:Rat) (x:Rat) (y:Rat) (z:Rat))*(y:Rat))) (ratL (p3 - ((dot3 (x:Rat) (y:Rat) (z:Rat) p1 p2 p3 - w) / dot3 (x:Rat) (y:Rat) (z:Rat) (x:Rat) (y:Rat) (z:Rat))*(z:Rat)))):=by
  have hx:=okI_i64 hh.1.1
  have hy:=okI_i64 hh.1.2.1
  have hz:=okI_i64 hh.1.2.2
  have qx:=okI_Q hh.1.1
  have qy:=okI_Q hh.1.2.1
  have qz:=okI_Q hh.1.2.2
  have qw:=bigQ_Q hh.2.2
  have qp:=okV_Q hp
  have c_v:=r_Value (k:=2400) (by decide) x y z w p1 p2 p3 hx hy hz qx qy qz qw qp
  have c_nn:=r_Normal x y z (ratL w) hx hy hz
  have c_sq:=r_Square (k:=2400) (by decide) (x:Rat) (y:Rat) (z:Rat) ⟨qx,qy,qz⟩
  have hne:dot3 (x:Rat) (y:Rat) (z:Rat) (x:Rat) (y:Rat) (z:Rat)≠0:=dot_pos (okH_ne hh)
  obtain ⟨qp1,qp2,qp3⟩:=qp
  have qv:Q 20000 (dot3 (x:Rat) (y:Rat) (z:Rat) p1 p2 p3 - w):=Q_of (Q_sub (Q_dot qx qy qz qp1 qp2 qp3) qw) rfl
  have qn:Q 20000 (dot3 (x:Rat) (y:Rat) (z:Rat) (x:Rat) (y:Rat) (z:Rat)):=Q_of (Q_dot qx qy qz qx qy qz) rfl
  have c_dv:=r_Div _ _ hne qv qn (by decide)
  have qt:=Q_div qv qn
  have c_sc:=r_Scale (k:=40000) (by decide) ((dot3 (x:Rat) (y:Rat) (z:Rat) p1 p2 p3 - w) / dot3 (x:Rat) (y:Rat) (z:Rat) (x:Rat) (y:Rat) (z:Rat)) (x:Rat) (y:Rat) (z:Rat) (Q_of qt rfl) ⟨Q_of qx rfl,Q_of qy rfl,Q_of qz rfl⟩
  have c_sb:=r_SubVec (k:=60000) (by decide) p1 p2 p3 (((dot3 (x:Rat) (y:Rat) (z:Rat) p1 p2 p3 - w) / dot3 (x:Rat) (y:Rat) (z:Rat) (x:Rat) (y:Rat) (z:Rat))*(x:Rat)) (((dot3 (x:Rat) (y:Rat) (z:Rat) p1 p2 p3 - w) / dot3 (x:Rat) (y:Rat) (z:Rat) (x:Rat) (y:Rat) (z:Rat))*(y:Rat)) (((dot3 (x:Rat) (y:Rat) (z:Rat) p1 p2 p3 - w) / dot3 (x:Rat) (y:Rat) (z:Rat) (x:Rat) (y:Rat) (z:Rat))*(z:Rat)) ⟨Q_of qp1 rfl,Q_of qp2 rfl,Q_of qp3 rfl⟩ ⟨Q_of (Q_mul qt qx) rfl,Q_of (Q_mul qt qy) rfl,Q_of (Q_mul qt qz) rfl⟩
  refine zen Tryz.func50 rfl Tryz.ntmps50 ?_
  intro w0 E0 hc
  repeat' (first|refine zR1 hc Tryz.results50 ?_|(with_reducible first|exact trivial|refine zan ?_ ?_|refine zim (fun h=>?_)|refine zoc c_nn ?_ ?_|refine zoc c_v ?_ ?_|refine zoc c_sq ?_ ?_|refine zoc c_dv ?_ ?_|refine zoc c_sc ?_ ?_|refine zoc c_sb ?_ ?_|fail)|(omega;done))
theorem r_Distance (x y z:Int) (w:Rat) (hh:okH x y z w) (p1 p2 p3:Rat) (hp:okV p1 p2 p3):Ax.Pure Tryz.prog G 51 [tH x y z (ratL w),tV (ratL p1) (ratL p2) (ratL p3)] (S (bs (ratL ((dot3 (x:Rat) (y:Rat) (z:Rat) p1 p2 p3 - w)*(dot3 (x:Rat) (y:Rat) (z:Rat) p1 p2 p3 - w) / dot3 (x:Rat) (y:Rat) (z:Rat) (x:Rat) (y:Rat) (z:Rat))))):=by
  have hx:=okI_i64 hh.1.1
  have hy:=okI_i64 hh.1.2.1
  have hz:=okI_i64 hh.1.2.2
  have qx:=okI_Q hh.1.1
  have qy:=okI_Q hh.1.2.1
  have qz:=okI_Q hh.1.2.2
  have qw:=bigQ_Q hh.2.2
  have qp:=okV_Q hp
  have c_v:=r_Value (k:=2400) (by decide) x y z w p1 p2 p3 hx hy hz qx qy qz qw qp
  have c_nn:=r_Normal x y z (ratL w) hx hy hz
  have c_sq:=r_Square (k:=2400) (by decide) (x:Rat) (y:Rat) (z:Rat) ⟨qx,qy,qz⟩
  have hne:dot3 (x:Rat) (y:Rat) (z:Rat) (x:Rat) (y:Rat) (z:Rat)≠0:=dot_pos (okH_ne hh)
  obtain ⟨qp1,qp2,qp3⟩:=qp
  have qv:Q 20000 (dot3 (x:Rat) (y:Rat) (z:Rat) p1 p2 p3 - w):=Q_of (Q_sub (Q_dot qx qy qz qp1 qp2 qp3) qw) rfl
  have qn:Q 20000 (dot3 (x:Rat) (y:Rat) (z:Rat) (x:Rat) (y:Rat) (z:Rat)):=Q_of (Q_dot qx qy qz qx qy qz) rfl
  have c_m:=r_MulQ _ _ qv qv (by decide)
  have c_dv:=r_Div _ _ hne (Q_mul qv qv) (Q_of qn rfl) (k:=20000+20000) (by decide)
  refine zen Tryz.func51 rfl Tryz.ntmps51 ?_
  intro w0 E0 hc
  repeat' (first|refine zR1 hc Tryz.results51 ?_|(with_reducible first|exact trivial|refine zan ?_ ?_|refine zim (fun h=>?_)|refine zoc c_nn ?_ ?_|refine zoc c_v ?_ ?_|refine zoc c_sq ?_ ?_|refine zoc c_m ?_ ?_|refine zoc c_dv ?_ ?_|fail)|(omega;done))
theorem r_Mirror (x y z:Int) (w:Rat) (hh:okH x y z w) (p1 p2 p3:Rat) (hp:okV p1 p2 p3):Ax.Pure Tryz.prog G 52 [tH x y z (ratL w),tV (ratL p1) (ratL p2) (ratL p3)] (tV (ratL (2*(p1 - ((dot3 (x:Rat) (y:Rat) (z:Rat) p1 p2 p3 - w) / dot3 (x:Rat) (y:Rat) (z:Rat) (x:Rat) (y:Rat) (z:Rat))*(x:Rat)) - p1)) (ratL (2*(p2 - ((dot3 (x:Rat) (y:Rat) (z:Rat) p1 p2 p3 - w) / dot3 (x:Rat) (y:Rat) (z:Rat) (x:Rat) (y:Rat) (z:Rat))*(y:Rat)) - p2)) (ratL (2*(p3 - ((dot3 (x:Rat) (y:Rat) (z:Rat) p1 p2 p3 - w) / dot3 (x:Rat) (y:Rat) (z:Rat) (x:Rat) (y:Rat) (z:Rat))*(z:Rat)) - p3))):=by
  have c_p:=r_Project x y z w hh p1 p2 p3 hp
  have hx:=okI_i64 hh.1.1
  have hy:=okI_i64 hh.1.2.1
  have hz:=okI_i64 hh.1.2.2
  have qx:=okI_Q hh.1.1
  have qy:=okI_Q hh.1.2.1
  have qz:=okI_Q hh.1.2.2
  have qw:=bigQ_Q hh.2.2
  have qp:=okV_Q hp
  have _c_v:=r_Value (k:=2400) (by decide) x y z w p1 p2 p3 hx hy hz qx qy qz qw qp
  have c_nn:=r_Normal x y z (ratL w) hx hy hz
  have c_sq:=r_Square (k:=2400) (by decide) (x:Rat) (y:Rat) (z:Rat) ⟨qx,qy,qz⟩
  have hne:dot3 (x:Rat) (y:Rat) (z:Rat) (x:Rat) (y:Rat) (z:Rat)≠0:=dot_pos (okH_ne hh)
  obtain ⟨qp1,qp2,qp3⟩:=qp
  have qv:Q 20000 (dot3 (x:Rat) (y:Rat) (z:Rat) p1 p2 p3 - w):=Q_of (Q_sub (Q_dot qx qy qz qp1 qp2 qp3) qw) rfl
  have qn:Q 20000 (dot3 (x:Rat) (y:Rat) (z:Rat) (x:Rat) (y:Rat) (z:Rat)):=Q_of (Q_dot qx qy qz qx qy qz) rfl
  have c_dv:=r_Div _ _ hne qv qn (by decide)
  have qt:=Q_div qv qn
  have c_sc:=r_Scale (k:=40000) (by decide) ((dot3 (x:Rat) (y:Rat) (z:Rat) p1 p2 p3 - w) / dot3 (x:Rat) (y:Rat) (z:Rat) (x:Rat) (y:Rat) (z:Rat)) (x:Rat) (y:Rat) (z:Rat) (Q_of qt rfl) ⟨Q_of qx rfl,Q_of qy rfl,Q_of qz rfl⟩
  have c_sb:=r_SubVec (k:=60000) (by decide) p1 p2 p3 (((dot3 (x:Rat) (y:Rat) (z:Rat) p1 p2 p3 - w) / dot3 (x:Rat) (y:Rat) (z:Rat) (x:Rat) (y:Rat) (z:Rat))*(x:Rat)) (((dot3 (x:Rat) (y:Rat) (z:Rat) p1 p2 p3 - w) / dot3 (x:Rat) (y:Rat) (z:Rat) (x:Rat) (y:Rat) (z:Rat))*(y:Rat)) (((dot3 (x:Rat) (y:Rat) (z:Rat) p1 p2 p3 - w) / dot3 (x:Rat) (y:Rat) (z:Rat) (x:Rat) (y:Rat) (z:Rat))*(z:Rat)) ⟨Q_of qp1 rfl,Q_of qp2 rfl,Q_of qp3 rfl⟩ ⟨Q_of (Q_mul qt qx) rfl,Q_of (Q_mul qt qy) rfl,Q_of (Q_mul qt qz) rfl⟩
  have q1:=Q_sub qp1 (Q_mul qt qx)
  have q2:=Q_sub qp2 (Q_mul qt qy)
  have q3:=Q_sub qp3 (Q_mul qt qz)
  have qtw:Q 64 (2:Rat):=Q_i64 (z:=2) (by decide) (by decide)
  have c_2:=r_Scale (k:=100000) (by decide) 2 (p1 - ((dot3 (x:Rat) (y:Rat) (z:Rat) p1 p2 p3 - w) / dot3 (x:Rat) (y:Rat) (z:Rat) (x:Rat) (y:Rat) (z:Rat))*(x:Rat)) (p2 - ((dot3 (x:Rat) (y:Rat) (z:Rat) p1 p2 p3 - w) / dot3 (x:Rat) (y:Rat) (z:Rat) (x:Rat) (y:Rat) (z:Rat))*(y:Rat)) (p3 - ((dot3 (x:Rat) (y:Rat) (z:Rat) p1 p2 p3 - w) / dot3 (x:Rat) (y:Rat) (z:Rat) (x:Rat) (y:Rat) (z:Rat))*(z:Rat)) (Q_of qtw rfl) ⟨Q_of q1 rfl,Q_of q2 rfl,Q_of q3 rfl⟩
  rw [←two_text] at c_2
  have c_3:=r_SubVec (k:=200000) (by decide) (2*(p1 - ((dot3 (x:Rat) (y:Rat) (z:Rat) p1 p2 p3 - w) / dot3 (x:Rat) (y:Rat) (z:Rat) (x:Rat) (y:Rat) (z:Rat))*(x:Rat))) (2*(p2 - ((dot3 (x:Rat) (y:Rat) (z:Rat) p1 p2 p3 - w) / dot3 (x:Rat) (y:Rat) (z:Rat) (x:Rat) (y:Rat) (z:Rat))*(y:Rat))) (2*(p3 - ((dot3 (x:Rat) (y:Rat) (z:Rat) p1 p2 p3 - w) / dot3 (x:Rat) (y:Rat) (z:Rat) (x:Rat) (y:Rat) (z:Rat))*(z:Rat))) p1 p2 p3 ⟨Q_of (Q_mul qtw q1) rfl,Q_of (Q_mul qtw q2) rfl,Q_of (Q_mul qtw q3) rfl⟩ ⟨Q_of qp1 rfl,Q_of qp2 rfl,Q_of qp3 rfl⟩
  clear c_sb c_sc c_dv
  refine zen Tryz.func52 rfl Tryz.ntmps52 ?_
  intro w0 E0 hc
  repeat' (first|refine zR1 hc Tryz.results52 ?_|(with_reducible first|exact trivial|refine zan ?_ ?_|refine zim (fun h=>?_)|refine zoc c_p ?_ ?_|refine zoc c_2 ?_ ?_|refine zoc c_3 ?_ ?_|fail)|(omega;done))
end Go.Proofs
end
section
set_option maxHeartbeats 4000000
set_option maxRecDepth 100000
namespace Go.Proofs
open Go.Ax
theorem r_Meet (x y z:Int) (w:Rat) (hh:okH x y z w) (p1 p2 p3:Rat) (hp:okV p1 p2 p3) (d1 d2 d3:Rat) (hd:okV d1 d2 d3) (h0:(dot3 (x:Rat) (y:Rat) (z:Rat) d1 d2 d3)≠0) :
    Ax.Pure Tryz.prog G 53 [tH x y z (ratL w),tV (ratL p1) (ratL p2) (ratL p3),tV (ratL d1) (ratL d2) (ratL d3)] (.tup [tV (ratL (p1 - (dot3 (x:Rat) (y:Rat) (z:Rat) p1 p2 p3 - w) / (dot3 (x:Rat) (y:Rat) (z:Rat) d1 d2 d3)*d1)) (ratL (p2 - (dot3 (x:Rat) (y:Rat) (z:Rat) p1 p2 p3 - w) / (dot3 (x:Rat) (y:Rat) (z:Rat) d1 d2 d3)*d2)) (ratL (p3 - (dot3 (x:Rat) (y:Rat) (z:Rat) p1 p2 p3 - w) / (dot3 (x:Rat) (y:Rat) (z:Rat) d1 d2 d3)*d3)),Bo true]):=by
  have hx:=okI_i64 hh.1.1
  have hy:=okI_i64 hh.1.2.1
  have hz:=okI_i64 hh.1.2.2
  have qx:=okI_Q hh.1.1
  have qy:=okI_Q hh.1.2.1
  have qz:=okI_Q hh.1.2.2
  have qw:=bigQ_Q hh.2.2
  have qp:=okV_Q hp
  have qd:=okV_Q hd
  have c_n:=r_Normal x y z (ratL w) hx hy hz
  have c_v:=r_Value (k:=2400) (by decide) x y z w p1 p2 p3 hx hy hz qx qy qz qw qp
  have c_k:=r_Dot (k:=2400) (by decide) (x:Rat) (y:Rat) (z:Rat) d1 d2 d3 ⟨qx,qy,qz⟩ qd
  have c_z:=r_IsZero (dot3 (x:Rat) (y:Rat) (z:Rat) d1 d2 d3)
  rw [decide_eq_false h0] at c_z
  obtain ⟨qp1,qp2,qp3⟩:=qp
  obtain ⟨qd1,qd2,qd3⟩:=qd
  have qv:Q 20000 (dot3 (x:Rat) (y:Rat) (z:Rat) p1 p2 p3 - w):=Q_of (Q_sub (Q_dot qx qy qz qp1 qp2 qp3) qw) rfl
  have qk:Q 20000 (dot3 (x:Rat) (y:Rat) (z:Rat) d1 d2 d3):=Q_of (Q_dot qx qy qz qd1 qd2 qd3) rfl
  have c_dv:=r_Div _ _ h0 qv qk (by decide)
  have qt:=Q_div qv qk
  generalize (dot3 (x:Rat) (y:Rat) (z:Rat) p1 p2 p3 - w) / (dot3 (x:Rat) (y:Rat) (z:Rat) d1 d2 d3)=t at *
  have c_sc:=r_Scale (k:=40000) (by decide) t d1 d2 d3 (Q_of qt rfl) ⟨Q_of qd1 rfl,Q_of qd2 rfl,Q_of qd3 rfl⟩
  have c_sb:=r_SubVec (k:=60000) (by decide) p1 p2 p3 (t*d1) (t*d2) (t*d3) ⟨Q_of qp1 rfl,Q_of qp2 rfl,Q_of qp3 rfl⟩ ⟨Q_of (Q_mul qt qd1) rfl,Q_of (Q_mul qt qd2) rfl,Q_of (Q_mul qt qd3) rfl⟩
  refine zen Tryz.func53 rfl Tryz.ntmps53 ?_
  intro w0 E0 hc
  repeat' (first|refine zR1 hc Tryz.results53 ?_|(with_reducible first|exact trivial|refine zan ?_ ?_|refine zim (fun h=>?_)|refine zoc c_n ?_ ?_|refine zoc c_v ?_ ?_|refine zoc c_k ?_ ?_|refine zoc c_z ?_ ?_|refine zoc c_dv ?_ ?_|refine zoc c_sc ?_ ?_|refine zoc c_sb ?_ ?_|fail)|((first|(refine nf1 ?_;with_reducible assumption)|(refine nf2 ?_;with_reducible assumption));done))
theorem r_Meet0 (x y z:Int) (w:Rat) (hh:okH x y z w) (p1 p2 p3:Rat) (d1 d2 d3:Rat) (hd:okV d1 d2 d3) (h0:(dot3 (x:Rat) (y:Rat) (z:Rat) d1 d2 d3)=0) :
    Ax.Pure Tryz.prog G 53 [tH x y z (ratL w),tV (ratL p1) (ratL p2) (ratL p3),tV (ratL d1) (ratL d2) (ratL d3)] (.tup [tV [] [] [],Bo false]):=by
  have c_n:=r_Normal x y z (ratL w) (okI_i64 hh.1.1) (okI_i64 hh.1.2.1) (okI_i64 hh.1.2.2)
  have c_k:=r_Dot (k:=2400) (by decide) (x:Rat) (y:Rat) (z:Rat) d1 d2 d3 ⟨okI_Q hh.1.1,okI_Q hh.1.2.1,okI_Q hh.1.2.2⟩ (okV_Q hd)
  have c_z:=r_IsZero (dot3 (x:Rat) (y:Rat) (z:Rat) d1 d2 d3)
  rw [decide_eq_true h0] at c_z
  refine zen Tryz.func53 rfl Tryz.ntmps53 ?_
  intro w0 E0 hc
  repeat' (first|refine zR1 hc Tryz.results53 ?_|(with_reducible first|exact trivial|refine zan ?_ ?_|refine zim (fun h=>?_)|refine zoc c_n ?_ ?_|refine zoc c_k ?_ ?_|refine zoc c_z ?_ ?_|fail)|((first|(refine nf1 ?_;with_reducible assumption)|(refine nf2 ?_;with_reducible assumption));done))
def bothV (f g:FuncId) (args:List AV):Prop:=∃A B C:Rat,(Q 900000 A∧Q 900000 B∧Q 900000 C)∧Ax.Pure Tryz.prog G f args (.tup [tV (txl (bigV A B C) A) (txl (bigV A B C) B) (txl (bigV A B C) C),N (exl (bigV A B C))])∧Ax.Pure Tryz.prog G g args (tV (ratL A) (ratL B) (ratL C))
theorem meet_both (x y z:Int) (w:Rat) (hh:okH x y z w) (p1 p2 p3:Rat) (hp:okV p1 p2 p3) (d1 d2 d3:Rat) (hd:okV d1 d2 d3) :
    (∃A B C:Rat,(Q 900000 A∧Q 900000 B∧Q 900000 C)∧Ax.Pure Tryz.prog G 45 [tH x y z (ratL w),tV (ratL p1) (ratL p2) (ratL p3),tV (ratL d1) (ratL d2) (ratL d3)] (.tup [tV (txl (bigV A B C) A) (txl (bigV A B C) B) (txl (bigV A B C) C),N (exl (bigV A B C))])∧Ax.Pure Tryz.prog G 53 [tH x y z (ratL w),tV (ratL p1) (ratL p2) (ratL p3),tV (ratL d1) (ratL d2) (ratL d3)] (.tup [tV (ratL A) (ratL B) (ratL C),Bo true]))∨
    (Ax.Pure Tryz.prog G 45 [tH x y z (ratL w),tV (ratL p1) (ratL p2) (ratL p3),tV (ratL d1) (ratL d2) (ratL d3)] (.tup [tV [] [] [],N 7])∧Ax.Pure Tryz.prog G 53 [tH x y z (ratL w),tV (ratL p1) (ratL p2) (ratL p3),tV (ratL d1) (ratL d2) (ratL d3)] (.tup [tV [] [] [],Bo false])):=by
  by_cases h0:(dot3 (x:Rat) (y:Rat) (z:Rat) d1 d2 d3)=0
  · exact .inr ⟨s_Meet0 x y z w hh p1 p2 p3 d1 d2 d3 hp hd h0,r_Meet0 x y z w hh p1 p2 p3 d1 d2 d3 hd h0⟩
  · left
    have h:=r_Meet x y z w hh p1 p2 p3 hp d1 d2 d3 hd h0
    rw [Rat.mul_comm _ d1,Rat.mul_comm _ d2,Rat.mul_comm _ d3] at h
    obtain ⟨qp1,qp2,qp3⟩:=okV_Q hp
    obtain ⟨qd1,qd2,qd3⟩:=okV_Q hd
    have qt:=Q_div (Q_sub (Q_dot (okI_Q hh.1.1) (okI_Q hh.1.2.1) (okI_Q hh.1.2.2) qp1 qp2 qp3) (bigQ_Q hh.2.2)) (Q_dot (okI_Q hh.1.1) (okI_Q hh.1.2.1) (okI_Q hh.1.2.2) qd1 qd2 qd3)
    exact ⟨_,_,_,⟨Q_of (Q_sub qp1 (Q_mul qd1 qt)) rfl,Q_of (Q_sub qp2 (Q_mul qd2 qt)) rfl,Q_of (Q_sub qp3 (Q_mul qd3 qt)) rfl⟩,s_Meet x y z w hh p1 p2 p3 d1 d2 d3 hp hd h0,h⟩
theorem prj (p x t:Rat):p+x*(-t)=p - t*x:=by grind
theorem mir (p x t:Rat):p+x*(-t)+x*(-t)=2*(p - t*x) - p:=by grind
theorem project_both (x y z:Int) (w:Rat) (hh:okH x y z w) (p1 p2 p3:Rat) (hp:okV p1 p2 p3):bothV 46 50 [tH x y z (ratL w),tV (ratL p1) (ratL p2) (ratL p3)]:=by
  have h:=s_Project x y z w hh p1 p2 p3 hp
  rw [prj p1,prj p2,prj p3] at h
  obtain ⟨qp1,qp2,qp3⟩:=okV_Q hp
  have qt:=Q_div (Q_sub (Q_dot (okI_Q hh.1.1) (okI_Q hh.1.2.1) (okI_Q hh.1.2.2) qp1 qp2 qp3) (bigQ_Q hh.2.2)) (Q_dot (okI_Q hh.1.1) (okI_Q hh.1.2.1) (okI_Q hh.1.2.2) (okI_Q hh.1.1) (okI_Q hh.1.2.1) (okI_Q hh.1.2.2))
  exact ⟨_,_,_,⟨Q_of (Q_sub qp1 (Q_mul qt (okI_Q hh.1.1))) rfl,Q_of (Q_sub qp2 (Q_mul qt (okI_Q hh.1.2.1))) rfl,Q_of (Q_sub qp3 (Q_mul qt (okI_Q hh.1.2.2))) rfl⟩,h,r_Project x y z w hh p1 p2 p3 hp⟩
theorem mirror_both (x y z:Int) (w:Rat) (hh:okH x y z w) (p1 p2 p3:Rat) (hp:okV p1 p2 p3):bothV 48 52 [tH x y z (ratL w),tV (ratL p1) (ratL p2) (ratL p3)]:=by
  have h:=s_Mirror x y z w hh p1 p2 p3 hp
  rw [mir p1,mir p2,mir p3] at h
  obtain ⟨qp1,qp2,qp3⟩:=okV_Q hp
  have qt:=Q_div (Q_sub (Q_dot (okI_Q hh.1.1) (okI_Q hh.1.2.1) (okI_Q hh.1.2.2) qp1 qp2 qp3) (bigQ_Q hh.2.2)) (Q_dot (okI_Q hh.1.1) (okI_Q hh.1.2.1) (okI_Q hh.1.2.2) (okI_Q hh.1.1) (okI_Q hh.1.2.1) (okI_Q hh.1.2.2))
  have q2:Q 64 (2:Rat):=Q_i64 (z:=2) (by decide) (by decide)
  exact ⟨_,_,_,⟨Q_of (Q_sub (Q_mul q2 (Q_sub qp1 (Q_mul qt (okI_Q hh.1.1)))) qp1) rfl,Q_of (Q_sub (Q_mul q2 (Q_sub qp2 (Q_mul qt (okI_Q hh.1.2.1)))) qp2) rfl,Q_of (Q_sub (Q_mul q2 (Q_sub qp3 (Q_mul qt (okI_Q hh.1.2.2)))) qp3) rfl⟩,h,r_Mirror x y z w hh p1 p2 p3 hp⟩
theorem distance_both (x y z:Int) (w:Rat) (hh:okH x y z w) (p1 p2 p3:Rat) (hp:okV p1 p2 p3):∃A:Rat,Q 900000 A∧Ax.Pure Tryz.prog G 47 [tH x y z (ratL w),tV (ratL p1) (ratL p2) (ratL p3)] (.tup [S (bs (txl (bigQ A) A)),N (exl (bigQ A))])∧Ax.Pure Tryz.prog G 51 [tH x y z (ratL w),tV (ratL p1) (ratL p2) (ratL p3)] (S (bs (ratL A))):=by
  have h:=s_Distance x y z w hh p1 p2 p3 hp
  rw [dst _ _ _ _ (dot_pos (okH_ne hh))] at h
  obtain ⟨qp1,qp2,qp3⟩:=okV_Q hp
  have qv:=Q_sub (Q_dot (okI_Q hh.1.1) (okI_Q hh.1.2.1) (okI_Q hh.1.2.2) qp1 qp2 qp3) (bigQ_Q hh.2.2)
  exact ⟨_,Q_of (Q_div (Q_mul qv qv) (Q_dot (okI_Q hh.1.1) (okI_Q hh.1.2.1) (okI_Q hh.1.2.2) (okI_Q hh.1.1) (okI_Q hh.1.2.1) (okI_Q hh.1.2.2))) rfl,h,r_Distance x y z w hh p1 p2 p3 hp⟩
end Go.Proofs
end
