/- Lemmas on the program and its library: part XW26. -/
import Derived.Test.YtoiejgkkcfkliaaGreatDoorXA
set_option linter.unusedVariables false
set_option linter.unusedSimpArgs false
section
set_option maxHeartbeats 4000000
set_option maxRecDepth 100000
namespace Go.Proofs
open Go.Ax
theorem c_join (f:FuncId) (a1 a2 a3 b1 b2 b3 r1 r2 r3:Rat) (c_1:Ax.Pure Tryz.prog G f [fracA a1,fracA b1] (fracA r1)) (c_2:Ax.Pure Tryz.prog G f [fracA a2,fracA b2] (fracA r2)) (c_3:Ax.Pure Tryz.prog G f [fracA a3,fracA b3] (fracA r3)):Ax.Pure Tryz.prog G 208 [vA a1 a2 a3,vA b1 b2 b3,.one (.fn (.func f) [] [])] (vA r1 r2 r3):=by
  refine zen Tryz.func208 rfl Tryz.ntmps208 ?_
  intro w0 E0 hc
  repeat' (first|refine zR1 hc Tryz.results208 ?_|(with_reducible first|exact trivial|refine zan ?_ ?_|refine zim (fun h=>?_)|refine zoc c_1 ?_ ?_|refine zoc c_2 ?_ ?_|refine zoc c_3 ?_ ?_|fail)|(omega;done))
theorem s_AddVec_err (a b:V3) (ha:shortV a) (hb:shortV b) (he:fstVs [a,b]≠0):Ax.Pure Tryz.prog G 110 [txV a,txV b] (.tup [tV [] [] [],N (fstVs [a,b])]):=by
  have c_c:=c_checkVecs2 a b ha hb
  generalize fstVs [a,b]=e at *
  refine zen Tryz.func110 rfl Tryz.ntmps110 ?_
  intro w0 E0 hc
  repeat' (first|refine zR1 hc Tryz.results110 ?_|(with_reducible first|exact trivial|refine zan ?_ ?_|refine zim (fun h=>?_)|refine zoc c_c ?_ ?_|fail)|((first|omega|exact absurd (by assumption) he);done))
theorem s_AddVec (a1 a2 a3 b1 b2 b3:Rat) (ha:okV a1 a2 a3) (hb:okV b1 b2 b3):Ax.Pure Tryz.prog G 110 [tV (ratL a1) (ratL a2) (ratL a3),tV (ratL b1) (ratL b2) (ratL b3)] (.tup [tV (txl (bigV (a1+b1) (a2+b2) (a3+b3)) (a1+b1)) (txl (bigV (a1+b1) (a2+b2) (a3+b3)) (a2+b2)) (txl (bigV (a1+b1) (a2+b2) (a3+b3)) (a3+b3)),N (exl (bigV (a1+b1) (a2+b2) (a3+b3)))]):=by
  have qa:=okV_Q ha
  have qb:=okV_Q hb
  obtain ⟨qa1,qa2,qa3⟩:=qa
  obtain ⟨qb1,qb2,qb3⟩:=qb
  have c_c:=c_checkVecs2 (v3 a1 a2 a3) (v3 b1 b2 b3) (okV_short ha) (okV_short hb)
  rw [fstVs2 (okV_fst ha) (okV_fst hb)] at c_c
  have c_a:=c_VFrom (k:=2400) (by decide) a1 a2 a3 (okV_Q ha)
  have c_b:=c_VFrom (k:=2400) (by decide) b1 b2 b3 (okV_Q hb)
  have c_j:=c_join 189 a1 a2 a3 b1 b2 b3 (a1+b1) (a2+b2) (a3+b3) (c_FAdd _ _ (rz_of qa1 rfl) (rz_of qb1 rfl)) (c_FAdd _ _ (rz_of qa2 rfl) (rz_of qb2 rfl)) (c_FAdd _ _ (rz_of qa3 rfl) (rz_of qb3 rfl))
  have c_g:=c_giveVec (k:=4801) (by decide) (a1+b1) (a2+b2) (a3+b3) ⟨Q_add qa1 qb1,Q_add qa2 qb2,Q_add qa3 qb3⟩
  refine zen Tryz.func110 rfl Tryz.ntmps110 ?_
  intro w0 E0 hc
  repeat' (first|refine zR1 hc Tryz.results110 ?_|(with_reducible first|exact trivial|refine zan ?_ ?_|refine zim (fun h=>?_)|refine zoc c_c ?_ ?_|refine zoc c_a ?_ ?_|refine zoc c_b ?_ ?_|refine zoc c_j ?_ ?_|refine zoc c_g ?_ ?_|fail)|((first|omega|exact absurd rfl (by assumption));done))
theorem s_SubVec_err (a b:V3) (ha:shortV a) (hb:shortV b) (he:fstVs [a,b]≠0):Ax.Pure Tryz.prog G 111 [txV a,txV b] (.tup [tV [] [] [],N (fstVs [a,b])]):=by
  have c_c:=c_checkVecs2 a b ha hb
  generalize fstVs [a,b]=e at *
  refine zen Tryz.func111 rfl Tryz.ntmps111 ?_
  intro w0 E0 hc
  repeat' (first|refine zR1 hc Tryz.results111 ?_|(with_reducible first|exact trivial|refine zan ?_ ?_|refine zim (fun h=>?_)|refine zoc c_c ?_ ?_|fail)|((first|omega|exact absurd (by assumption) he);done))
theorem s_SubVec (a1 a2 a3 b1 b2 b3:Rat) (ha:okV a1 a2 a3) (hb:okV b1 b2 b3):Ax.Pure Tryz.prog G 111 [tV (ratL a1) (ratL a2) (ratL a3),tV (ratL b1) (ratL b2) (ratL b3)] (.tup [tV (txl (bigV (a1 - b1) (a2 - b2) (a3 - b3)) (a1 - b1)) (txl (bigV (a1 - b1) (a2 - b2) (a3 - b3)) (a2 - b2)) (txl (bigV (a1 - b1) (a2 - b2) (a3 - b3)) (a3 - b3)),N (exl (bigV (a1 - b1) (a2 - b2) (a3 - b3)))]):=by
  have qa:=okV_Q ha
  have qb:=okV_Q hb
  obtain ⟨qa1,qa2,qa3⟩:=qa
  obtain ⟨qb1,qb2,qb3⟩:=qb
  have c_c:=c_checkVecs2 (v3 a1 a2 a3) (v3 b1 b2 b3) (okV_short ha) (okV_short hb)
  rw [fstVs2 (okV_fst ha) (okV_fst hb)] at c_c
  have c_a:=c_VFrom (k:=2400) (by decide) a1 a2 a3 (okV_Q ha)
  have c_b:=c_VFrom (k:=2400) (by decide) b1 b2 b3 (okV_Q hb)
  have c_j:=c_join 149 a1 a2 a3 b1 b2 b3 (a1 - b1) (a2 - b2) (a3 - b3) (c_FSub _ _ (rz_of qa1 rfl) (rz_of qb1 rfl)) (c_FSub _ _ (rz_of qa2 rfl) (rz_of qb2 rfl)) (c_FSub _ _ (rz_of qa3 rfl) (rz_of qb3 rfl))
  have c_g:=c_giveVec (k:=4801) (by decide) (a1 - b1) (a2 - b2) (a3 - b3) ⟨Q_sub qa1 qb1,Q_sub qa2 qb2,Q_sub qa3 qb3⟩
  refine zen Tryz.func111 rfl Tryz.ntmps111 ?_
  intro w0 E0 hc
  repeat' (first|refine zR1 hc Tryz.results111 ?_|(with_reducible first|exact trivial|refine zan ?_ ?_|refine zim (fun h=>?_)|refine zoc c_c ?_ ?_|refine zoc c_a ?_ ?_|refine zoc c_b ?_ ?_|refine zoc c_j ?_ ?_|refine zoc c_g ?_ ?_|fail)|((first|omega|exact absurd rfl (by assumption));done))
theorem s_Dot_err (a b:V3) (ha:shortV a) (hb:shortV b) (he:fstVs [a,b]≠0):Ax.Pure Tryz.prog G 87 [txV a,txV b] (.tup [S (bs []),N (fstVs [a,b])]):=by
  have c_c:=c_checkVecs2 a b ha hb
  generalize fstVs [a,b]=e at *
  refine zen Tryz.func87 rfl Tryz.ntmps87 ?_
  intro w0 E0 hc
  repeat' (first|refine zR1 hc Tryz.results87 ?_|(with_reducible first|exact trivial|refine zan ?_ ?_|refine zim (fun h=>?_)|refine zoc c_c ?_ ?_|fail)|((first|omega|exact absurd (by assumption) he);done))
theorem s_Cross_err (a b:V3) (ha:shortV a) (hb:shortV b) (he:fstVs [a,b]≠0):Ax.Pure Tryz.prog G 86 [txV a,txV b] (.tup [tV [] [] [],N (fstVs [a,b])]):=by
  have c_c:=c_checkVecs2 a b ha hb
  generalize fstVs [a,b]=e at *
  refine zen Tryz.func86 rfl Tryz.ntmps86 ?_
  intro w0 E0 hc
  repeat' (first|refine zR1 hc Tryz.results86 ?_|(with_reducible first|exact trivial|refine zan ?_ ?_|refine zim (fun h=>?_)|refine zoc c_c ?_ ?_|fail)|((first|omega|exact absurd (by assumption) he);done))
theorem s_Square_err (a:V3) (ha:shortV a) (he:fstVec a≠0):Ax.Pure Tryz.prog G 88 [txV a] (.tup [S (bs []),N (fstVec a)]):=by
  have e:fstVs [a,a]=fstVec a:=by simp only [fstVs,List.map,firstNZ,if_neg he]
  have c_d:=s_Dot_err a a ha ha (by rw [e];exact he)
  rw [e] at c_d
  refine zen Tryz.func88 rfl Tryz.ntmps88 ?_
  intro w0 E0 hc
  repeat' (first|refine zR1 hc Tryz.results88 ?_|(with_reducible first|exact trivial|refine zan ?_ ?_|refine zim (fun h=>?_)|refine zoc c_d ?_ ?_|fail)|(omega;done))
theorem s_Scale_err (c:List UInt8) (a:V3) (hc':c.length≤900000) (ha:shortV a) (he:firstNZ [checkL c,fstVec a]≠0):Ax.Pure Tryz.prog G 90 [S (bs c),txV a] (.tup [tV [] [] [],N (firstNZ [checkL c,fstVec a])]):=by
  have c_c:=c_Check c hc'
  have c_v:Ax.Pure Tryz.prog G 109 [txV a] (N (fstVec a)):=c_CheckVec a.1 a.2.1 a.2.2 ha.1 ha.2.1 ha.2.2
  have c_f:=c_first2 (checkL c) (fstVec a)
  generalize firstNZ [checkL c,fstVec a]=e at *
  refine zen Tryz.func90 rfl Tryz.ntmps90 ?_
  intro w0 E0 hc
  repeat' (first|refine zR1 hc Tryz.results90 ?_|(with_reducible first|exact trivial|refine zan ?_ ?_|refine zim (fun h=>?_)|refine zoc c_c ?_ ?_|refine zoc c_v ?_ ?_|refine zoc c_f ?_ ?_|fail)|((first|omega|exact absurd (by assumption) he);done))
theorem s_Along_err (a b:V3) (ha:shortV a) (hb:shortV b) (he:fstVs [a,b]≠0):Ax.Pure Tryz.prog G 91 [txV a,txV b] (.tup [S (bs []),N (fstVs [a,b])]):=by
  have c_c:=c_checkVecs2 a b ha hb
  generalize fstVs [a,b]=e at *
  refine zen Tryz.func91 rfl Tryz.ntmps91 ?_
  intro w0 E0 hc
  repeat' (first|refine zR1 hc Tryz.results91 ?_|(with_reducible first|exact trivial|refine zan ?_ ?_|refine zim (fun h=>?_)|refine zoc c_c ?_ ?_|fail)|((first|omega|exact absurd (by assumption) he);done))
theorem s_Along0 (b1 b2 b3:Rat) (hb:okV b1 b2 b3):Ax.Pure Tryz.prog G 91 [tV (ratL 0) (ratL 0) (ratL 0),tV (ratL b1) (ratL b2) (ratL b3)] (.tup [S (bs []),N 6]):=by
  have ha:okV 0 0 0:=⟨ok_zero,ok_zero,ok_zero⟩
  have c_c:=c_checkVecs2 (v3 0 0 0) (v3 b1 b2 b3) (okV_short ha) (okV_short hb)
  rw [fstVs2 (okV_fst ha) (okV_fst hb)] at c_c
  have c_a:=c_VFrom (k:=2400) (by decide) 0 0 0 (okV_Q ha)
  have c_b:=c_VFrom (k:=2400) (by decide) b1 b2 b3 (okV_Q hb)
  have c_z:=c_IsZero 0 0 0
  rw [decide_eq_true ⟨rfl,rfl,rfl⟩] at c_z
  refine zen Tryz.func91 rfl Tryz.ntmps91 ?_
  intro w0 E0 hc
  repeat' (first|refine zR1 hc Tryz.results91 ?_|(with_reducible first|exact trivial|refine zan ?_ ?_|refine zim (fun h=>?_)|refine zoc c_c ?_ ?_|refine zoc c_a ?_ ?_|refine zoc c_b ?_ ?_|refine zoc c_z ?_ ?_|fail)|((first|omega|exact absurd rfl (by assumption));done))
end Go.Proofs
end
