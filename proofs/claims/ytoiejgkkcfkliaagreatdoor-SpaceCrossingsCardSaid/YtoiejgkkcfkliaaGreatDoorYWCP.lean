/- Lemmas on the program and its library: part YWCP. -/
import Derived.Test.YtoiejgkkcfkliaaGreatDoorYW
set_option linter.unusedVariables false
set_option linter.unusedSimpArgs false
section
set_option maxHeartbeats 8000000
set_option maxRecDepth 100000
namespace Go.Proofs
open Go.Ax
theorem a06 (a b c d e f g h i:Rat):rz (det3 a b c d e f g h i)≤2*(rz a+rz b+rz c+rz d+rz e+rz f)+rz g+rz h+rz i+5:=by
  unfold det3
  have h1:=rz_crs b f c e
  have h2:=rz_crs c d a f
  have h3:=rz_crs a e b d
  have h4:=rz_mul (b*f - c*e) g
  have h5:=rz_mul (c*d - a*f) h
  have h6:=rz_mul (a*e - b*d) i
  have h7:=rz_add ((b*f - c*e)*g) ((c*d - a*f)*h)
  have h8:=rz_add ((b*f - c*e)*g+(c*d - a*f)*h) ((a*e - b*d)*i)
  omega
def r8 (p q r:Rat) (d e f:Rat):Rat:=p*d+q*e+r*f
theorem w7 (a1 a2 a3 a4 b1 b2 b3 b4 c1 c2 c3 c4:Rat) (hb:rz a1≤1000000∧rz a2≤1000000∧rz a3≤1000000∧rz a4≤1000000∧rz b1≤1000000∧rz b2≤1000000∧rz b3≤1000000∧rz b4≤1000000∧rz c1≤1000000∧rz c2≤1000000∧rz c3≤1000000∧rz c4≤1000000) (h0:det3 a1 a2 a3 b1 b2 b3 c1 c2 c3≠0):Ax.Pure Tryz.prog G 195 [hA a1 a2 a3 a4,hA b1 b2 b3 b4,hA c1 c2 c3 c4] (.tup [vA (r8 (b2*c3 - b3*c2) (c2*a3 - c3*a2) (a2*b3 - a3*b2) a4 b4 c4*(det3 a1 a2 a3 b1 b2 b3 c1 c2 c3)⁻¹) (r8 (b3*c1 - b1*c3) (c3*a1 - c1*a3) (a3*b1 - a1*b3) a4 b4 c4*(det3 a1 a2 a3 b1 b2 b3 c1 c2 c3)⁻¹) (r8 (b1*c2 - b2*c1) (c1*a2 - c2*a1) (a1*b2 - a2*b1) a4 b4 c4*(det3 a1 a2 a3 b1 b2 b3 c1 c2 c3)⁻¹),Bo true]):=by
  have bc1:=rz_crs b2 c3 b3 c2
  have bc2:=rz_crs b3 c1 b1 c3
  have bc3:=rz_crs b1 c2 b2 c1
  have ca1:=rz_crs c2 a3 c3 a2
  have ca2:=rz_crs c3 a1 c1 a3
  have ca3:=rz_crs c1 a2 c2 a1
  have ab1:=rz_crs a2 b3 a3 b2
  have ab2:=rz_crs a3 b1 a1 b3
  have ab3:=rz_crs a1 b2 a2 b1
  have p1:=rz_mul (b2*c3 - b3*c2) a4
  have q1:=rz_mul (c2*a3 - c3*a2) b4
  have r1:=rz_mul (a2*b3 - a3*b2) c4
  have s1:=rz_add ((b2*c3 - b3*c2)*a4) ((c2*a3 - c3*a2)*b4)
  have t1:=rz_add ((b2*c3 - b3*c2)*a4+(c2*a3 - c3*a2)*b4) ((a2*b3 - a3*b2)*c4)
  have p2:=rz_mul (b3*c1 - b1*c3) a4
  have q2:=rz_mul (c3*a1 - c1*a3) b4
  have r2:=rz_mul (a3*b1 - a1*b3) c4
  have s2:=rz_add ((b3*c1 - b1*c3)*a4) ((c3*a1 - c1*a3)*b4)
  have t2:=rz_add ((b3*c1 - b1*c3)*a4+(c3*a1 - c1*a3)*b4) ((a3*b1 - a1*b3)*c4)
  have p3:=rz_mul (b1*c2 - b2*c1) a4
  have q3:=rz_mul (c1*a2 - c2*a1) b4
  have r3:=rz_mul (a1*b2 - a2*b1) c4
  have s3:=rz_add ((b1*c2 - b2*c1)*a4) ((c1*a2 - c2*a1)*b4)
  have t3:=rz_add ((b1*c2 - b2*c1)*a4+(c1*a2 - c2*a1)*b4) ((a1*b2 - a2*b1)*c4)
  have dt:=a06 a1 a2 a3 b1 b2 b3 c1 c2 c3
  have di:=rz_inv (det3 a1 a2 a3 b1 b2 b3 c1 c2 c3)
  have hs:¬(det3 a1 a2 a3 b1 b2 b3 c1 c2 c3).num.sign=0:=fun e=>h0 (qsign_zero.1 e)
  refine zen Tryz.func195 rfl Tryz.ntmps195 ?_
  intro w0 E0 hc
  repeat' (first|refine zR1 hc Tryz.results195 ?_|(with_reducible first|exact trivial|refine zan ?_ ?_|refine zim (fun h=>?_)|refine zoc (c_Det _ _ _ _ _ _ _ _ _ ?_) ?_ ?_|refine zoc (c_FSign _) ?_ ?_|refine zoc (c_Cross _ _ _ _ _ _ ?_) ?_ ?_|refine zoc (c_VScale _ _ _ _ ?_) ?_ ?_|refine zoc (c_VAdd _ _ _ _ _ _ ?_) ?_ ?_|refine zoc (c_FInv _ ?_ ?_) ?_ ?_|fail)|((first|exact h0|omega);done))
  all_goals first|exact Sub.refl _|skip
end Go.Proofs
end
section
set_option maxHeartbeats 4000000
set_option maxRecDepth 100000
namespace Go.Proofs
open Go.Ax
theorem a0e {k:Nat} (hk:k≤100000) (a b c d:Rat) (h0:¬(a=0∧b=0∧c=0)) (ha:Q k a) (hb:Q k b) (hc:Q k c) (hd:Q k d) (h:¬hOk a b c d):Ax.Pure Tryz.prog G 144 [hA a b c d] (.tup [tH 0 0 0 [],N 4]):=
  a3e (k:=k+((3*k+1)+(k+3*k+1))) (by omega) a b c d _ _ _ _ (c_Normal (k:=k) (by omega) a b c d h0 ha hb hc hd) (Q_mul hd (Q_nrm ha hb hc)) h
theorem t7 (a1 a2 a3 b1 b2 b3 d1 d2 d3:Rat) (ha:okV a1 a2 a3) (hb:okV b1 b2 b3) (hd:okV d1 d2 d3) (h0:((b2 - a2)*(d3 - a3) - (b3 - a3)*(d2 - a2))=0∧((b3 - a3)*(d1 - a1) - (b1 - a1)*(d3 - a3))=0∧((b1 - a1)*(d2 - a2) - (b2 - a2)*(d1 - a1))=0):Ax.Pure Tryz.prog G 77 [tV (ratL a1) (ratL a2) (ratL a3),tV (ratL b1) (ratL b2) (ratL b3),tV (ratL d1) (ratL d2) (ratL d3)] (.tup [tH 0 0 0 [],N 7]):=by
  obtain ⟨qa1,qa2,qa3⟩:=okV_Q ha
  obtain ⟨qb1,qb2,qb3⟩:=okV_Q hb
  obtain ⟨qd1,qd2,qd3⟩:=okV_Q hd
  have c_c:=c_checkVecs3 (v3 a1 a2 a3) (v3 b1 b2 b3) (v3 d1 d2 d3) (okV_short ha) (okV_short hb) (okV_short hd)
  rw [fstVs3 (okV_fst ha) (okV_fst hb) (okV_fst hd)] at c_c
  have c_a:=s_VFrom ha
  have c_b:=s_VFrom hb
  have c_d:=s_VFrom hd
  have c_s1:=c_VSub b1 b2 b3 a1 a2 a3 ⟨rz_of qb1 rfl,rz_of qb2 rfl,rz_of qb3 rfl,rz_of qa1 rfl,rz_of qa2 rfl,rz_of qa3 rfl⟩
  have c_s2:=c_VSub d1 d2 d3 a1 a2 a3 ⟨rz_of qd1 rfl,rz_of qd2 rfl,rz_of qd3 rfl,rz_of qa1 rfl,rz_of qa2 rfl,rz_of qa3 rfl⟩
  have u1:=Q_sub qb1 qa1
  have u2:=Q_sub qb2 qa2
  have u3:=Q_sub qb3 qa3
  have v1:=Q_sub qd1 qa1
  have v2:=Q_sub qd2 qa2
  have v3:=Q_sub qd3 qa3
  have c_x:=c_Cross (b1 - a1) (b2 - a2) (b3 - a3) (d1 - a1) (d2 - a2) (d3 - a3) ⟨rz_of u1 rfl,rz_of u2 rfl,rz_of u3 rfl,rz_of v1 rfl,rz_of v2 rfl,rz_of v3 rfl⟩
  have n1:=Q_sub (Q_mul u2 v3) (Q_mul u3 v2)
  have n2:=Q_sub (Q_mul u3 v1) (Q_mul u1 v3)
  have n3:=Q_sub (Q_mul u1 v2) (Q_mul u2 v1)
  generalize (b2 - a2)*(d3 - a3) - (b3 - a3)*(d2 - a2)=m1 at *
  generalize (b3 - a3)*(d1 - a1) - (b1 - a1)*(d3 - a3)=m2 at *
  generalize (b1 - a1)*(d2 - a2) - (b2 - a2)*(d1 - a1)=m3 at *
  have c_z:=c_IsZero m1 m2 m3
  have c_dt:=c_Dot m1 m2 m3 a1 a2 a3 ⟨rz_of n1 rfl,rz_of n2 rfl,rz_of n3 rfl,rz_of qa1 rfl,rz_of qa2 rfl,rz_of qa3 rfl⟩
  have qdt:=Q_add (Q_add (Q_mul n1 qa1) (Q_mul n2 qa2)) (Q_mul n3 qa3)
  rw [decide_eq_true h0] at c_z
  refine zen Tryz.func77 rfl Tryz.ntmps77 ?_
  intro w0 E0 hc
  repeat' (first|refine zR1 hc Tryz.results77 ?_|(with_reducible first|exact trivial|refine zan ?_ ?_|refine zim (fun h=>?_)|refine zoc c_c ?_ ?_|refine zoc c_a ?_ ?_|refine zoc c_b ?_ ?_|refine zoc c_d ?_ ?_|refine zoc c_s1 ?_ ?_|refine zoc c_s2 ?_ ?_|refine zoc c_x ?_ ?_|refine zoc c_z ?_ ?_|refine zoc c_dt ?_ ?_|fail)|((first|omega|exact absurd rfl (by assumption)|(refine nf1 ?_;assumption)|(refine nf2 ?_;assumption));done))
theorem s9 (a1 a2 a3 b1 b2 b3 d1 d2 d3:Rat) (ha:okV a1 a2 a3) (hb:okV b1 b2 b3) (hd:okV d1 d2 d3) (h0:¬(((b2 - a2)*(d3 - a3) - (b3 - a3)*(d2 - a2))=0∧((b3 - a3)*(d1 - a1) - (b1 - a1)*(d3 - a3))=0∧((b1 - a1)*(d2 - a2) - (b2 - a2)*(d1 - a1))=0)) (hh:¬hOk ((b2 - a2)*(d3 - a3) - (b3 - a3)*(d2 - a2)) ((b3 - a3)*(d1 - a1) - (b1 - a1)*(d3 - a3)) ((b1 - a1)*(d2 - a2) - (b2 - a2)*(d1 - a1)) (((b2 - a2)*(d3 - a3) - (b3 - a3)*(d2 - a2))*a1+((b3 - a3)*(d1 - a1) - (b1 - a1)*(d3 - a3))*a2+((b1 - a1)*(d2 - a2) - (b2 - a2)*(d1 - a1))*a3)):Ax.Pure Tryz.prog G 77 [tV (ratL a1) (ratL a2) (ratL a3),tV (ratL b1) (ratL b2) (ratL b3),tV (ratL d1) (ratL d2) (ratL d3)] (.tup [tH 0 0 0 [],N 4]):=by
  obtain ⟨qa1,qa2,qa3⟩:=okV_Q ha
  obtain ⟨qb1,qb2,qb3⟩:=okV_Q hb
  obtain ⟨qd1,qd2,qd3⟩:=okV_Q hd
  have c_c:=c_checkVecs3 (v3 a1 a2 a3) (v3 b1 b2 b3) (v3 d1 d2 d3) (okV_short ha) (okV_short hb) (okV_short hd)
  rw [fstVs3 (okV_fst ha) (okV_fst hb) (okV_fst hd)] at c_c
  have c_a:=s_VFrom ha
  have c_b:=s_VFrom hb
  have c_d:=s_VFrom hd
  have c_s1:=c_VSub b1 b2 b3 a1 a2 a3 ⟨rz_of qb1 rfl,rz_of qb2 rfl,rz_of qb3 rfl,rz_of qa1 rfl,rz_of qa2 rfl,rz_of qa3 rfl⟩
  have c_s2:=c_VSub d1 d2 d3 a1 a2 a3 ⟨rz_of qd1 rfl,rz_of qd2 rfl,rz_of qd3 rfl,rz_of qa1 rfl,rz_of qa2 rfl,rz_of qa3 rfl⟩
  have u1:=Q_sub qb1 qa1
  have u2:=Q_sub qb2 qa2
  have u3:=Q_sub qb3 qa3
  have v1:=Q_sub qd1 qa1
  have v2:=Q_sub qd2 qa2
  have v3:=Q_sub qd3 qa3
  have c_x:=c_Cross (b1 - a1) (b2 - a2) (b3 - a3) (d1 - a1) (d2 - a2) (d3 - a3) ⟨rz_of u1 rfl,rz_of u2 rfl,rz_of u3 rfl,rz_of v1 rfl,rz_of v2 rfl,rz_of v3 rfl⟩
  have n1:=Q_sub (Q_mul u2 v3) (Q_mul u3 v2)
  have n2:=Q_sub (Q_mul u3 v1) (Q_mul u1 v3)
  have n3:=Q_sub (Q_mul u1 v2) (Q_mul u2 v1)
  generalize (b2 - a2)*(d3 - a3) - (b3 - a3)*(d2 - a2)=m1 at *
  generalize (b3 - a3)*(d1 - a1) - (b1 - a1)*(d3 - a3)=m2 at *
  generalize (b1 - a1)*(d2 - a2) - (b2 - a2)*(d1 - a1)=m3 at *
  have c_z:=c_IsZero m1 m2 m3
  have c_dt:=c_Dot m1 m2 m3 a1 a2 a3 ⟨rz_of n1 rfl,rz_of n2 rfl,rz_of n3 rfl,rz_of qa1 rfl,rz_of qa2 rfl,rz_of qa3 rfl⟩
  have qdt:=Q_add (Q_add (Q_mul n1 qa1) (Q_mul n2 qa2)) (Q_mul n3 qa3)
  rw [decide_eq_false h0] at c_z
  have c_g:=a0e (k:=80000) (by decide) m1 m2 m3 _ h0 (Q_of n1 rfl) (Q_of n2 rfl) (Q_of n3 rfl) (Q_of qdt rfl) hh
  refine zen Tryz.func77 rfl Tryz.ntmps77 ?_
  intro w0 E0 hc
  repeat' (first|refine zR1 hc Tryz.results77 ?_|(with_reducible first|exact trivial|refine zan ?_ ?_|refine zim (fun h=>?_)|refine zoc c_c ?_ ?_|refine zoc c_a ?_ ?_|refine zoc c_b ?_ ?_|refine zoc c_d ?_ ?_|refine zoc c_s1 ?_ ?_|refine zoc c_s2 ?_ ?_|refine zoc c_x ?_ ?_|refine zoc c_z ?_ ?_|refine zoc c_dt ?_ ?_|refine zoc c_g ?_ ?_|fail)|((first|omega|exact absurd rfl (by assumption)|(refine nf1 ?_;assumption)|(refine nf2 ?_;assumption));done))
theorem u9 (a1 a2 a3 a4 b1 b2 b3 b4 c1 c2 c3 c4:Rat) (hb:rz a1≤1000000∧rz a2≤1000000∧rz a3≤1000000∧rz a4≤1000000∧rz b1≤1000000∧rz b2≤1000000∧rz b3≤1000000∧rz b4≤1000000∧rz c1≤1000000∧rz c2≤1000000∧rz c3≤1000000∧rz c4≤1000000) (h0:det3 a1 a2 a3 b1 b2 b3 c1 c2 c3=0):Ax.Pure Tryz.prog G 195 [hA a1 a2 a3 a4,hA b1 b2 b3 b4,hA c1 c2 c3 c4] (.tup [.agg [.v (.int .i64 0),.v (.slice none 0 0),.v (.int .i64 0),.v (.slice none 0 0),.v (.int .i64 0),.v (.slice none 0 0),.v (.int .i64 0),.v (.slice none 0 0),.v (.int .i64 0),.v (.slice none 0 0),.v (.int .i64 0),.v (.slice none 0 0)],Bo false]):=by
  have hs:(det3 a1 a2 a3 b1 b2 b3 c1 c2 c3).num.sign=0:=qsign_zero.2 h0
  refine zen Tryz.func195 rfl Tryz.ntmps195 ?_
  intro w0 E0 hc
  repeat' (first|refine zR1 hc Tryz.results195 ?_|(with_reducible first|exact trivial|refine zan ?_ ?_|refine zim (fun h=>?_)|refine zoc (c_Det _ _ _ _ _ _ _ _ _ ?_) ?_ ?_|refine zoc (c_FSign _) ?_ ?_|fail)|(omega;done))
theorem t6 (x1 y1 z1:Int) (w1:Rat) (h1:okH x1 y1 z1 w1) (x2 y2 z2:Int) (w2:Rat) (h2:okH x2 y2 z2 w2) (x3 y3 z3:Int) (w3:Rat) (h3:okH x3 y3 z3 w3) (h0:det3 (x1:Rat) (y1:Rat) (z1:Rat) (x2:Rat) (y2:Rat) (z2:Rat) (x3:Rat) (y3:Rat) (z3:Rat)=0):Ax.Pure Tryz.prog G 80 [tH x1 y1 z1 (ratL w1),tH x2 y2 z2 (ratL w2),tH x3 y3 z3 (ratL w3)] (.tup [tV [] [] [],N 7]):=by
  have c_c1:=s_chkH h1
  have c_h1:=s_FromHalf h1
  have qx1:=okI_Q h1.1.1
  have qy1:=okI_Q h1.1.2.1
  have qz1:=okI_Q h1.1.2.2
  have qw1:=bigQ_Q h1.2.2
  have c_c2:=s_chkH h2
  have c_h2:=s_FromHalf h2
  have qx2:=okI_Q h2.1.1
  have qy2:=okI_Q h2.1.2.1
  have qz2:=okI_Q h2.1.2.2
  have qw2:=bigQ_Q h2.2.2
  have c_c3:=s_chkH h3
  have c_h3:=s_FromHalf h3
  have qx3:=okI_Q h3.1.1
  have qy3:=okI_Q h3.1.2.1
  have qz3:=okI_Q h3.1.2.2
  have qw3:=bigQ_Q h3.2.2
  have c_x:=u9 (x1:Rat) (y1:Rat) (z1:Rat) w1 (x2:Rat) (y2:Rat) (z2:Rat) w2 (x3:Rat) (y3:Rat) (z3:Rat) w3 ⟨rz_of qx1 rfl,rz_of qy1 rfl,rz_of qz1 rfl,rz_of qw1 rfl,rz_of qx2 rfl,rz_of qy2 rfl,rz_of qz2 rfl,rz_of qw2 rfl,rz_of qx3 rfl,rz_of qy3 rfl,rz_of qz3 rfl,rz_of qw3 rfl⟩ h0
  refine zen Tryz.func80 rfl Tryz.ntmps80 ?_
  intro w0 E0 hc
  repeat' (first|refine zR1 hc Tryz.results80 ?_|(with_reducible first|exact trivial|refine zan ?_ ?_|refine zim (fun h=>?_)|refine zoc c_c1 ?_ ?_|refine zoc c_c2 ?_ ?_|refine zoc c_c3 ?_ ?_|refine zoc s_first30 ?_ ?_|refine zoc c_h1 ?_ ?_|refine zoc c_h2 ?_ ?_|refine zoc c_h3 ?_ ?_|refine zoc c_x ?_ ?_|fail)|((first|omega|exact absurd rfl (by assumption)|(refine nf1 ?_;assumption)|(refine nf2 ?_;assumption));done))
theorem t8 (x1 y1 z1:Int) (w1:Rat) (h1:okH x1 y1 z1 w1) (x2 y2 z2:Int) (w2:Rat) (h2:okH x2 y2 z2 w2) (x3 y3 z3:Int) (w3:Rat) (h3:okH x3 y3 z3 w3) (h0:det3 (x1:Rat) (y1:Rat) (z1:Rat) (x2:Rat) (y2:Rat) (z2:Rat) (x3:Rat) (y3:Rat) (z3:Rat)≠0):Ax.Pure Tryz.prog G 80 [tH x1 y1 z1 (ratL w1),tH x2 y2 z2 (ratL w2),tH x3 y3 z3 (ratL w3)] (.tup [tV (txl (bigV (r8 ((y2:Rat)*(z3:Rat) - (z2:Rat)*(y3:Rat)) ((y3:Rat)*(z1:Rat) - (z3:Rat)*(y1:Rat)) ((y1:Rat)*(z2:Rat) - (z1:Rat)*(y2:Rat)) w1 w2 w3*(det3 (x1:Rat) (y1:Rat) (z1:Rat) (x2:Rat) (y2:Rat) (z2:Rat) (x3:Rat) (y3:Rat) (z3:Rat))⁻¹) (r8 ((z2:Rat)*(x3:Rat) - (x2:Rat)*(z3:Rat)) ((z3:Rat)*(x1:Rat) - (x3:Rat)*(z1:Rat)) ((z1:Rat)*(x2:Rat) - (x1:Rat)*(z2:Rat)) w1 w2 w3*(det3 (x1:Rat) (y1:Rat) (z1:Rat) (x2:Rat) (y2:Rat) (z2:Rat) (x3:Rat) (y3:Rat) (z3:Rat))⁻¹) (r8 ((x2:Rat)*(y3:Rat) - (y2:Rat)*(x3:Rat)) ((x3:Rat)*(y1:Rat) - (y3:Rat)*(x1:Rat)) ((x1:Rat)*(y2:Rat) - (y1:Rat)*(x2:Rat)) w1 w2 w3*(det3 (x1:Rat) (y1:Rat) (z1:Rat) (x2:Rat) (y2:Rat) (z2:Rat) (x3:Rat) (y3:Rat) (z3:Rat))⁻¹)) (r8 ((y2:Rat)*(z3:Rat) - (z2:Rat)*(y3:Rat)) ((y3:Rat)*(z1:Rat) - (z3:Rat)*(y1:Rat)) ((y1:Rat)*(z2:Rat) - (z1:Rat)*(y2:Rat)) w1 w2 w3*(det3 (x1:Rat) (y1:Rat) (z1:Rat) (x2:Rat) (y2:Rat) (z2:Rat) (x3:Rat) (y3:Rat) (z3:Rat))⁻¹)) (txl (bigV (r8 ((y2:Rat)*(z3:Rat) - (z2:Rat)*(y3:Rat)) ((y3:Rat)*(z1:Rat) - (z3:Rat)*(y1:Rat)) ((y1:Rat)*(z2:Rat) - (z1:Rat)*(y2:Rat)) w1 w2 w3*(det3 (x1:Rat) (y1:Rat) (z1:Rat) (x2:Rat) (y2:Rat) (z2:Rat) (x3:Rat) (y3:Rat) (z3:Rat))⁻¹) (r8 ((z2:Rat)*(x3:Rat) - (x2:Rat)*(z3:Rat)) ((z3:Rat)*(x1:Rat) - (x3:Rat)*(z1:Rat)) ((z1:Rat)*(x2:Rat) - (x1:Rat)*(z2:Rat)) w1 w2 w3*(det3 (x1:Rat) (y1:Rat) (z1:Rat) (x2:Rat) (y2:Rat) (z2:Rat) (x3:Rat) (y3:Rat) (z3:Rat))⁻¹) (r8 ((x2:Rat)*(y3:Rat) - (y2:Rat)*(x3:Rat)) ((x3:Rat)*(y1:Rat) - (y3:Rat)*(x1:Rat)) ((x1:Rat)*(y2:Rat) - (y1:Rat)*(x2:Rat)) w1 w2 w3*(det3 (x1:Rat) (y1:Rat) (z1:Rat) (x2:Rat) (y2:Rat) (z2:Rat) (x3:Rat) (y3:Rat) (z3:Rat))⁻¹)) (r8 ((z2:Rat)*(x3:Rat) - (x2:Rat)*(z3:Rat)) ((z3:Rat)*(x1:Rat) - (x3:Rat)*(z1:Rat)) ((z1:Rat)*(x2:Rat) - (x1:Rat)*(z2:Rat)) w1 w2 w3*(det3 (x1:Rat) (y1:Rat) (z1:Rat) (x2:Rat) (y2:Rat) (z2:Rat) (x3:Rat) (y3:Rat) (z3:Rat))⁻¹)) (txl (bigV (r8 ((y2:Rat)*(z3:Rat) - (z2:Rat)*(y3:Rat)) ((y3:Rat)*(z1:Rat) - (z3:Rat)*(y1:Rat)) ((y1:Rat)*(z2:Rat) - (z1:Rat)*(y2:Rat)) w1 w2 w3*(det3 (x1:Rat) (y1:Rat) (z1:Rat) (x2:Rat) (y2:Rat) (z2:Rat) (x3:Rat) (y3:Rat) (z3:Rat))⁻¹) (r8 ((z2:Rat)*(x3:Rat) - (x2:Rat)*(z3:Rat)) ((z3:Rat)*(x1:Rat) - (x3:Rat)*(z1:Rat)) ((z1:Rat)*(x2:Rat) - (x1:Rat)*(z2:Rat)) w1 w2 w3*(det3 (x1:Rat) (y1:Rat) (z1:Rat) (x2:Rat) (y2:Rat) (z2:Rat) (x3:Rat) (y3:Rat) (z3:Rat))⁻¹) (r8 ((x2:Rat)*(y3:Rat) - (y2:Rat)*(x3:Rat)) ((x3:Rat)*(y1:Rat) - (y3:Rat)*(x1:Rat)) ((x1:Rat)*(y2:Rat) - (y1:Rat)*(x2:Rat)) w1 w2 w3*(det3 (x1:Rat) (y1:Rat) (z1:Rat) (x2:Rat) (y2:Rat) (z2:Rat) (x3:Rat) (y3:Rat) (z3:Rat))⁻¹)) (r8 ((x2:Rat)*(y3:Rat) - (y2:Rat)*(x3:Rat)) ((x3:Rat)*(y1:Rat) - (y3:Rat)*(x1:Rat)) ((x1:Rat)*(y2:Rat) - (y1:Rat)*(x2:Rat)) w1 w2 w3*(det3 (x1:Rat) (y1:Rat) (z1:Rat) (x2:Rat) (y2:Rat) (z2:Rat) (x3:Rat) (y3:Rat) (z3:Rat))⁻¹)),N (exl (bigV (r8 ((y2:Rat)*(z3:Rat) - (z2:Rat)*(y3:Rat)) ((y3:Rat)*(z1:Rat) - (z3:Rat)*(y1:Rat)) ((y1:Rat)*(z2:Rat) - (z1:Rat)*(y2:Rat)) w1 w2 w3*(det3 (x1:Rat) (y1:Rat) (z1:Rat) (x2:Rat) (y2:Rat) (z2:Rat) (x3:Rat) (y3:Rat) (z3:Rat))⁻¹) (r8 ((z2:Rat)*(x3:Rat) - (x2:Rat)*(z3:Rat)) ((z3:Rat)*(x1:Rat) - (x3:Rat)*(z1:Rat)) ((z1:Rat)*(x2:Rat) - (x1:Rat)*(z2:Rat)) w1 w2 w3*(det3 (x1:Rat) (y1:Rat) (z1:Rat) (x2:Rat) (y2:Rat) (z2:Rat) (x3:Rat) (y3:Rat) (z3:Rat))⁻¹) (r8 ((x2:Rat)*(y3:Rat) - (y2:Rat)*(x3:Rat)) ((x3:Rat)*(y1:Rat) - (y3:Rat)*(x1:Rat)) ((x1:Rat)*(y2:Rat) - (y1:Rat)*(x2:Rat)) w1 w2 w3*(det3 (x1:Rat) (y1:Rat) (z1:Rat) (x2:Rat) (y2:Rat) (z2:Rat) (x3:Rat) (y3:Rat) (z3:Rat))⁻¹)))]):=by
  have c_c1:=s_chkH h1
  have c_h1:=s_FromHalf h1
  have qx1:=okI_Q h1.1.1
  have qy1:=okI_Q h1.1.2.1
  have qz1:=okI_Q h1.1.2.2
  have qw1:=bigQ_Q h1.2.2
  have c_c2:=s_chkH h2
  have c_h2:=s_FromHalf h2
  have qx2:=okI_Q h2.1.1
  have qy2:=okI_Q h2.1.2.1
  have qz2:=okI_Q h2.1.2.2
  have qw2:=bigQ_Q h2.2.2
  have c_c3:=s_chkH h3
  have c_h3:=s_FromHalf h3
  have qx3:=okI_Q h3.1.1
  have qy3:=okI_Q h3.1.2.1
  have qz3:=okI_Q h3.1.2.2
  have qw3:=bigQ_Q h3.2.2
  have c_x:=w7 (x1:Rat) (y1:Rat) (z1:Rat) w1 (x2:Rat) (y2:Rat) (z2:Rat) w2 (x3:Rat) (y3:Rat) (z3:Rat) w3 ⟨rz_of qx1 rfl,rz_of qy1 rfl,rz_of qz1 rfl,rz_of qw1 rfl,rz_of qx2 rfl,rz_of qy2 rfl,rz_of qz2 rfl,rz_of qw2 rfl,rz_of qx3 rfl,rz_of qy3 rfl,rz_of qz3 rfl,rz_of qw3 rfl⟩ h0
  have qd:=Q_inv (Q_add (Q_add (Q_mul (Q_sub (Q_mul qy1 qz2) (Q_mul qz1 qy2)) qx3) (Q_mul (Q_sub (Q_mul qz1 qx2) (Q_mul qx1 qz2)) qy3)) (Q_mul (Q_sub (Q_mul qx1 qy2) (Q_mul qy1 qx2)) qz3))
  have e0:(det3 (x1:Rat) (y1:Rat) (z1:Rat) (x2:Rat) (y2:Rat) (z2:Rat) (x3:Rat) (y3:Rat) (z3:Rat))⁻¹=((((y1:Rat)*z2 - z1*y2)*x3+((z1:Rat)*x2 - x1*z2)*y3+((x1:Rat)*y2 - y1*x2)*z3))⁻¹:=rfl
  rw [←e0] at qd
  have c_g:=c_giveVec (k:=200000) (by decide) (r8 ((y2:Rat)*(z3:Rat) - (z2:Rat)*(y3:Rat)) ((y3:Rat)*(z1:Rat) - (z3:Rat)*(y1:Rat)) ((y1:Rat)*(z2:Rat) - (z1:Rat)*(y2:Rat)) w1 w2 w3*(det3 (x1:Rat) (y1:Rat) (z1:Rat) (x2:Rat) (y2:Rat) (z2:Rat) (x3:Rat) (y3:Rat) (z3:Rat))⁻¹) (r8 ((z2:Rat)*(x3:Rat) - (x2:Rat)*(z3:Rat)) ((z3:Rat)*(x1:Rat) - (x3:Rat)*(z1:Rat)) ((z1:Rat)*(x2:Rat) - (x1:Rat)*(z2:Rat)) w1 w2 w3*(det3 (x1:Rat) (y1:Rat) (z1:Rat) (x2:Rat) (y2:Rat) (z2:Rat) (x3:Rat) (y3:Rat) (z3:Rat))⁻¹) (r8 ((x2:Rat)*(y3:Rat) - (y2:Rat)*(x3:Rat)) ((x3:Rat)*(y1:Rat) - (y3:Rat)*(x1:Rat)) ((x1:Rat)*(y2:Rat) - (y1:Rat)*(x2:Rat)) w1 w2 w3*(det3 (x1:Rat) (y1:Rat) (z1:Rat) (x2:Rat) (y2:Rat) (z2:Rat) (x3:Rat) (y3:Rat) (z3:Rat))⁻¹) ⟨Q_of (Q_mul (Q_add (Q_add (Q_mul (Q_sub (Q_mul qy2 qz3) (Q_mul qz2 qy3)) qw1) (Q_mul (Q_sub (Q_mul qy3 qz1) (Q_mul qz3 qy1)) qw2)) (Q_mul (Q_sub (Q_mul qy1 qz2) (Q_mul qz1 qy2)) qw3)) qd) rfl,Q_of (Q_mul (Q_add (Q_add (Q_mul (Q_sub (Q_mul qz2 qx3) (Q_mul qx2 qz3)) qw1) (Q_mul (Q_sub (Q_mul qz3 qx1) (Q_mul qx3 qz1)) qw2)) (Q_mul (Q_sub (Q_mul qz1 qx2) (Q_mul qx1 qz2)) qw3)) qd) rfl,Q_of (Q_mul (Q_add (Q_add (Q_mul (Q_sub (Q_mul qx2 qy3) (Q_mul qy2 qx3)) qw1) (Q_mul (Q_sub (Q_mul qx3 qy1) (Q_mul qy3 qx1)) qw2)) (Q_mul (Q_sub (Q_mul qx1 qy2) (Q_mul qy1 qx2)) qw3)) qd) rfl⟩
  refine zen Tryz.func80 rfl Tryz.ntmps80 ?_
  intro w0 E0 hc
  repeat' (first|refine zR1 hc Tryz.results80 ?_|(with_reducible first|exact trivial|refine zan ?_ ?_|refine zim (fun h=>?_)|refine zoc c_c1 ?_ ?_|refine zoc c_c2 ?_ ?_|refine zoc c_c3 ?_ ?_|refine zoc s_first30 ?_ ?_|refine zoc c_h1 ?_ ?_|refine zoc c_h2 ?_ ?_|refine zoc c_h3 ?_ ?_|refine zoc c_x ?_ ?_|refine zoc c_g ?_ ?_|fail)|((first|omega|exact absurd rfl (by assumption)|(refine nf1 ?_;assumption)|(refine nf2 ?_;assumption));done))
end Go.Proofs
end
