/- Lemmas on the program and its library: part XVL. -/
import Derived.Test.YtoiejgkkcfkliaaGreatDoorXA
set_option linter.unusedVariables false
set_option linter.unusedSimpArgs false
section
set_option maxHeartbeats 4000000
set_option maxRecDepth 100000
namespace Go.Proofs
open Go.Ax
theorem s_Dot (a1 a2 a3 b1 b2 b3:Rat) (ha:okV a1 a2 a3) (hb:okV b1 b2 b3):Ax.Pure Tryz.prog G 87 [tV (ratL a1) (ratL a2) (ratL a3),tV (ratL b1) (ratL b2) (ratL b3)] (.tup [S (bs (txl (bigQ (dot3 a1 a2 a3 b1 b2 b3)) (dot3 a1 a2 a3 b1 b2 b3))),N (exl (bigQ (dot3 a1 a2 a3 b1 b2 b3)))]):=by
  have qa:=okV_Q ha
  have qb:=okV_Q hb
  obtain ⟨qa1,qa2,qa3⟩:=qa
  obtain ⟨qb1,qb2,qb3⟩:=qb
  have c_c:=c_checkVecs2 (v3 a1 a2 a3) (v3 b1 b2 b3) (okV_short ha) (okV_short hb)
  rw [fstVs2 (okV_fst ha) (okV_fst hb)] at c_c
  have c_a:=c_VFrom (k:=2400) (by decide) a1 a2 a3 (okV_Q ha)
  have c_b:=c_VFrom (k:=2400) (by decide) b1 b2 b3 (okV_Q hb)
  have c_d:=c_Dot3 (k:=2400) (by decide) a1 a2 a3 b1 b2 b3 qa1 qa2 qa3 qb1 qb2 qb3
  have c_g:=c_give (by decide) _ (Q_dot qa1 qa2 qa3 qb1 qb2 qb3)
  refine zen Tryz.func87 rfl Tryz.ntmps87 ?_
  intro w0 E0 hc
  repeat' (first|refine zR1 hc Tryz.results87 ?_|(with_reducible first|exact trivial|refine zan ?_ ?_|refine zim (fun h=>?_)|refine zoc c_c ?_ ?_|refine zoc c_a ?_ ?_|refine zoc c_b ?_ ?_|refine zoc c_d ?_ ?_|refine zoc c_g ?_ ?_|fail)|((first|omega|exact absurd rfl (by assumption));done))
theorem s_Cross (a1 a2 a3 b1 b2 b3:Rat) (ha:okV a1 a2 a3) (hb:okV b1 b2 b3):Ax.Pure Tryz.prog G 86 [tV (ratL a1) (ratL a2) (ratL a3),tV (ratL b1) (ratL b2) (ratL b3)] (.tup [tV (txl (bigV (a2*b3 - a3*b2) (a3*b1 - a1*b3) (a1*b2 - a2*b1)) (a2*b3 - a3*b2)) (txl (bigV (a2*b3 - a3*b2) (a3*b1 - a1*b3) (a1*b2 - a2*b1)) (a3*b1 - a1*b3)) (txl (bigV (a2*b3 - a3*b2) (a3*b1 - a1*b3) (a1*b2 - a2*b1)) (a1*b2 - a2*b1)),N (exl (bigV (a2*b3 - a3*b2) (a3*b1 - a1*b3) (a1*b2 - a2*b1)))]):=by
  have qa:=okV_Q ha
  have qb:=okV_Q hb
  obtain ⟨qa1,qa2,qa3⟩:=qa
  obtain ⟨qb1,qb2,qb3⟩:=qb
  have c_c:=c_checkVecs2 (v3 a1 a2 a3) (v3 b1 b2 b3) (okV_short ha) (okV_short hb)
  rw [fstVs2 (okV_fst ha) (okV_fst hb)] at c_c
  have c_a:=c_VFrom (k:=2400) (by decide) a1 a2 a3 (okV_Q ha)
  have c_b:=c_VFrom (k:=2400) (by decide) b1 b2 b3 (okV_Q hb)
  have c_d:=c_Cross a1 a2 a3 b1 b2 b3 ⟨rz_of qa1 rfl,rz_of qa2 rfl,rz_of qa3 rfl,rz_of qb1 rfl,rz_of qb2 rfl,rz_of qb3 rfl⟩
  have c_g:=c_giveVec (k:=9601) (by decide) (a2*b3 - a3*b2) (a3*b1 - a1*b3) (a1*b2 - a2*b1) ⟨Q_sub (Q_mul qa2 qb3) (Q_mul qa3 qb2),Q_sub (Q_mul qa3 qb1) (Q_mul qa1 qb3),Q_sub (Q_mul qa1 qb2) (Q_mul qa2 qb1)⟩
  refine zen Tryz.func86 rfl Tryz.ntmps86 ?_
  intro w0 E0 hc
  repeat' (first|refine zR1 hc Tryz.results86 ?_|(with_reducible first|exact trivial|refine zan ?_ ?_|refine zim (fun h=>?_)|refine zoc c_c ?_ ?_|refine zoc c_a ?_ ?_|refine zoc c_b ?_ ?_|refine zoc c_d ?_ ?_|refine zoc c_g ?_ ?_|fail)|((first|omega|exact absurd rfl (by assumption));done))
theorem s_Square (a1 a2 a3:Rat) (ha:okV a1 a2 a3):Ax.Pure Tryz.prog G 88 [tV (ratL a1) (ratL a2) (ratL a3)] (.tup [S (bs (txl (bigQ (dot3 a1 a2 a3 a1 a2 a3)) (dot3 a1 a2 a3 a1 a2 a3))),N (exl (bigQ (dot3 a1 a2 a3 a1 a2 a3)))]):=by
  have c_d:=s_Dot a1 a2 a3 a1 a2 a3 ha ha
  refine zen Tryz.func88 rfl Tryz.ntmps88 ?_
  intro w0 E0 hc
  repeat' (first|refine zR1 hc Tryz.results88 ?_|(with_reducible first|exact trivial|refine zan ?_ ?_|refine zim (fun h=>?_)|refine zoc c_d ?_ ?_|fail)|(omega;done))
theorem s_Scale (c a1 a2 a3:Rat) (hc':bigQ c=false) (ha:okV a1 a2 a3):Ax.Pure Tryz.prog G 90 [S (bs (ratL c)),tV (ratL a1) (ratL a2) (ratL a3)] (.tup [tV (txl (bigV (a1*c) (a2*c) (a3*c)) (a1*c)) (txl (bigV (a1*c) (a2*c) (a3*c)) (a2*c)) (txl (bigV (a1*c) (a2*c) (a3*c)) (a3*c)),N (exl (bigV (a1*c) (a2*c) (a3*c)))]):=by
  obtain ⟨qa1,qa2,qa3⟩:=okV_Q ha
  have qc:=bigQ_Q hc'
  have c_c:=c_Check _ (ok_len hc')
  rw [ok_chk hc'] at c_c
  have c_v:=c_CheckVec _ _ _ (ok_len ha.1) (ok_len ha.2.1) (ok_len ha.2.2)
  rw [okV_fstE ha] at c_v
  have c_f:=c_first2 0 0
  have c_a:=c_VFrom (k:=2400) (by decide) a1 a2 a3 (okV_Q ha)
  have c_b:=c_From (k:=2400) (by decide) c qc
  have c_s:=c_VScale a1 a2 a3 c ⟨rz_of qa1 rfl,rz_of qa2 rfl,rz_of qa3 rfl,rz_of qc rfl⟩
  have c_g:=c_giveVec (k:=4800) (by decide) (a1*c) (a2*c) (a3*c) ⟨Q_mul qa1 qc,Q_mul qa2 qc,Q_mul qa3 qc⟩
  refine zen Tryz.func90 rfl Tryz.ntmps90 ?_
  intro w0 E0 hc
  repeat' (first|refine zR1 hc Tryz.results90 ?_|(with_reducible first|exact trivial|refine zan ?_ ?_|refine zim (fun h=>?_)|refine zoc c_c ?_ ?_|refine zoc c_v ?_ ?_|refine zoc c_f ?_ ?_|refine zoc c_a ?_ ?_|refine zoc c_b ?_ ?_|refine zoc c_s ?_ ?_|refine zoc c_g ?_ ?_|fail)|((first|omega|exact absurd rfl (by assumption));done))
theorem s_Along_no (a1 a2 a3 b1 b2 b3:Rat) (ha:okV a1 a2 a3) (hb:okV b1 b2 b3) (h0:¬(a1=0∧a2=0∧a3=0)) (hs:¬(a1*(dot3 a1 a2 a3 b1 b2 b3 / dot3 a1 a2 a3 a1 a2 a3)=b1∧a2*(dot3 a1 a2 a3 b1 b2 b3 / dot3 a1 a2 a3 a1 a2 a3)=b2∧a3*(dot3 a1 a2 a3 b1 b2 b3 / dot3 a1 a2 a3 a1 a2 a3)=b3)):Ax.Pure Tryz.prog G 91 [tV (ratL a1) (ratL a2) (ratL a3),tV (ratL b1) (ratL b2) (ratL b3)] (.tup [S (bs []),N 7]):=by
  have qa:=okV_Q ha
  have qb:=okV_Q hb
  obtain ⟨qa1,qa2,qa3⟩:=qa
  obtain ⟨qb1,qb2,qb3⟩:=qb
  have c_c:=c_checkVecs2 (v3 a1 a2 a3) (v3 b1 b2 b3) (okV_short ha) (okV_short hb)
  rw [fstVs2 (okV_fst ha) (okV_fst hb)] at c_c
  have c_a:=c_VFrom (k:=2400) (by decide) a1 a2 a3 (okV_Q ha)
  have c_b:=c_VFrom (k:=2400) (by decide) b1 b2 b3 (okV_Q hb)
  have hz:=dot_pos h0
  have c_z:=c_IsZero a1 a2 a3
  rw [decide_eq_false h0] at c_z
  have c_ab:=c_Dot3 (k:=2400) (by decide) a1 a2 a3 b1 b2 b3 qa1 qa2 qa3 qb1 qb2 qb3
  have c_aa:=c_Dot3 (k:=2400) (by decide) a1 a2 a3 a1 a2 a3 qa1 qa2 qa3 qa1 qa2 qa3
  have q1:=Q_dot qa1 qa2 qa3 qb1 qb2 qb3
  have q2:=Q_dot qa1 qa2 qa3 qa1 qa2 qa3
  have c_dv:=c_FDiv _ _ hz (rz_of q1 rfl) (rz_of q2 rfl)
  have qt:=Q_div q1 q2
  generalize dot3 a1 a2 a3 b1 b2 b3 / dot3 a1 a2 a3 a1 a2 a3=t at *
  have c_s:=c_VScale a1 a2 a3 t ⟨rz_of qa1 rfl,rz_of qa2 rfl,rz_of qa3 rfl,rz_of qt rfl⟩
  have c_m:=c_VSame (a1*t) (a2*t) (a3*t) b1 b2 b3 ⟨rz_of (Q_mul qa1 qt) rfl,rz_of (Q_mul qa2 qt) rfl,rz_of (Q_mul qa3 qt) rfl,rz_of qb1 rfl,rz_of qb2 rfl,rz_of qb3 rfl⟩
  have c_g:=c_give (by decide) t qt
  rw [decide_eq_false hs] at c_m
  refine zen Tryz.func91 rfl Tryz.ntmps91 ?_
  intro w0 E0 hc
  repeat' (first|refine zR1 hc Tryz.results91 ?_|(with_reducible first|exact trivial|refine zan ?_ ?_|refine zim (fun h=>?_)|refine zoc c_c ?_ ?_|refine zoc c_a ?_ ?_|refine zoc c_b ?_ ?_|refine zoc c_z ?_ ?_|refine zoc c_ab ?_ ?_|refine zoc c_aa ?_ ?_|refine zoc c_dv ?_ ?_|refine zoc c_s ?_ ?_|refine zoc c_m ?_ ?_|fail)|((first|omega|exact absurd rfl (by assumption)|(refine nf1 ?_;assumption)|(refine nf2 ?_;assumption));done))
end Go.Proofs
end
section
namespace Go.Proofs
open Go.Ax
theorem rat_beq (a b:Rat):((bs (ratL a)).toList == (bs (ratL b)).toList)=decide (a=b):=by
  rw [bs_beq]
  exact decide_eq_decide.2 ⟨ratL_inj,fun h=>h ▸ rfl⟩
end Go.Proofs
end
