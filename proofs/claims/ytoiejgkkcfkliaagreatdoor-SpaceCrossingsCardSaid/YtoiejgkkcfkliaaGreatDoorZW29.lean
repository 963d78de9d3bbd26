/- Lemmas on the program and its library: part ZW29. -/
import Derived.Test.YtoiejgkkcfkliaaGreatDoorZW26
import Derived.Test.YtoiejgkkcfkliaaGreatDoorZW28
set_option linter.unusedVariables false
set_option linter.unusedSimpArgs false
section
set_option maxHeartbeats 4000000
set_option maxRecDepth 100000
namespace Go.Proofs
open Go.Ax
theorem okI_Q {x:Int} (h:okI x):Q 2400 (x:Rat):=by
  obtain ⟨h1,h2⟩:=h
  exact Q_mono (Q_i64 (z:=x) (by omega) (by omega)) (by decide)
theorem okI_i64 {x:Int} (h:okI x):i64 x:=by
  obtain ⟨h1,h2⟩:=h
  exact ⟨by omega,by omega⟩
def okH (x y z:Int) (d:Rat):Prop:=(okI x∧okI y∧okI z)∧gcdN x y z 3=1∧bigQ d=false
theorem okH_chk {x y z:Int} {d:Rat} (h:okH x y z d):chkH x y z (ratL d)=0:=by
  obtain ⟨⟨⟨x1,x2⟩,⟨y1,y2⟩,⟨z1,z2⟩⟩,hg,hd⟩:=h
  have hf:farN x y z 3=false:=by
    show (far1 x || far1 y || far1 z)=false
    unfold far1
    rw [decide_eq_false (by omega),decide_eq_false (by omega),decide_eq_false (by omega),decide_eq_false (by omega),decide_eq_false (by omega),decide_eq_false (by omega)];rfl
  unfold chkH
  rw [hg,hf,ok_chk hd];rfl
theorem okH_ne {x y z:Int} {d:Rat} (h:okH x y z d):¬((x:Rat)=0∧(y:Rat)=0∧(z:Rat)=0):=by
  rintro ⟨h1,h2,h3⟩
  have h1:x=0:=Rat.intCast_eq_zero_iff.1 h1
  have h2:y=0:=Rat.intCast_eq_zero_iff.1 h2
  have h3:z=0:=Rat.intCast_eq_zero_iff.1 h3
  have:=h.2.1
  subst h1 h2 h3
  exact absurd this (by decide)
theorem s_chkH {x y z:Int} {d:Rat} (h:okH x y z d):Ax.Pure Tryz.prog G 37 [tH x y z (ratL d)] (N 0):=by
  have:=c_CheckHalf x y z (ratL d) (okI_i64 h.1.1) (okI_i64 h.1.2.1) (okI_i64 h.1.2.2) (ok_len h.2.2)
  rwa [okH_chk h] at this
theorem s_FromHalf {x y z:Int} {d:Rat} (h:okH x y z d):Ax.Pure Tryz.prog G 147 [tH x y z (ratL d)] (hA (x:Rat) (y:Rat) (z:Rat) d):=
  c_FromHalf (k:=2400) (by decide) x y z d ⟨(okI_i64 h.1.1).1,(okI_i64 h.1.1).2,(okI_i64 h.1.2.1).1,(okI_i64 h.1.2.1).2,(okI_i64 h.1.2.2).1,(okI_i64 h.1.2.2).2⟩ (bigQ_Q h.2.2)
theorem s_chkV {a b c:Rat} (h:okV a b c):Ax.Pure Tryz.prog G 109 [tV (ratL a) (ratL b) (ratL c)] (N 0):=by
  have:=c_CheckVec _ _ _ (ok_len h.1) (ok_len h.2.1) (ok_len h.2.2)
  rwa [okV_fstE h] at this
theorem s_chk {a:Rat} (h:bigQ a=false):Ax.Pure Tryz.prog G 20 [S (bs (ratL a))] (N 0):=by
  have:=c_Check _ (ok_len h)
  rwa [ok_chk h] at this
theorem s_VFrom {a b c:Rat} (h:okV a b c):Ax.Pure Tryz.prog G 154 [tV (ratL a) (ratL b) (ratL c)] (vA a b c):=c_VFrom (k:=2400) (by decide) a b c (okV_Q h)
theorem s_From {a:Rat} (h:bigQ a=false):Ax.Pure Tryz.prog G 155 [S (bs (ratL a))] (fracA a):=c_From (k:=2400) (by decide) a (bigQ_Q h)
theorem s_first20:Ax.Pure Tryz.prog G 143 [.one (.row 1 2 (fun i=> [[Leaf.v (.int .i64 0)],[Leaf.v (.int .i64 0)]].getD i []))] (N 0):=c_first2 0 0
theorem s_first30:Ax.Pure Tryz.prog G 143 [.one (.row 1 3 (fun i=> [[Leaf.v (.int .i64 0)],[Leaf.v (.int .i64 0)],[Leaf.v (.int .i64 0)]].getD i []))] (N 0):=c_first3 0 0 0
theorem Q_nrm {k:Nat} {a b c:Rat} (ha:Q k a) (hb:Q k b) (hc:Q k c):Q ((3*k+1)+(k+3*k+1)) (nrm a b c):=
  Q_div (Q_nat (dnm_lt ha hb hc 3)) (Q_nat (k:=k+3*k) (cmn_lt ha hb hc (dnm_lt ha hb hc 3) 3))
def hOk (a b c d:Rat):Prop:=(okI (a*nrm a b c).num∧okI (b*nrm a b c).num∧okI (c*nrm a b c).num)∧bigQ (d*nrm a b c)=false
abbrev hT (a b c d:Rat):AV:=tH (a*nrm a b c).num (b*nrm a b c).num (c*nrm a b c).num (ratL (d*nrm a b c))
theorem c_giveH {k:Nat} (hk:k≤100000) (a b c d:Rat) (h0:¬(a=0∧b=0∧c=0)) (ha:Q k a) (hb:Q k b) (hc:Q k c) (hd:Q k d) (h:hOk a b c d):Ax.Pure Tryz.prog G 144 [hA a b c d] (.tup [hT a b c d,N 0]):=
  c_giveHalf (k:=k+((3*k+1)+(k+3*k+1))) (by omega) a b c d _ _ _ _ (c_Normal (k:=k) (by omega) a b c d h0 ha hb hc hd) (Q_mul hd (Q_nrm ha hb hc)) h
theorem s_MakeHalf (n1 n2 n3:Rat) (d:Rat) (hn:okV n1 n2 n3) (hd:bigQ d=false) (h0:¬(n1=0∧n2=0∧n3=0)) (hh:hOk n1 n2 n3 d):Ax.Pure Tryz.prog G 38 [tV (ratL n1) (ratL n2) (ratL n3),S (bs (ratL d))] (.tup [hT n1 n2 n3 d,N 0]):=by
  obtain ⟨qn1,qn2,qn3⟩:=okV_Q hn
  have qd:=bigQ_Q hd
  have c_v:=s_chkV hn
  have c_d:=s_chk hd
  have c_n:=s_VFrom hn
  have c_w:=s_From hd
  have c_z:=c_IsZero n1 n2 n3
  rw [decide_eq_false h0] at c_z
  have c_g:=c_giveH (k:=2400) (by decide) n1 n2 n3 d h0 qn1 qn2 qn3 qd hh
  refine zen Tryz.func38 rfl Tryz.ntmps38 ?_
  intro w0 E0 hc
  repeat' (first|refine zR1 hc Tryz.results38 ?_|(with_reducible first|exact trivial|refine zan ?_ ?_|refine zim (fun h=>?_)|refine zoc c_v ?_ ?_|refine zoc c_d ?_ ?_|refine zoc s_first20 ?_ ?_|refine zoc c_n ?_ ?_|refine zoc c_w ?_ ?_|refine zoc c_z ?_ ?_|refine zoc c_g ?_ ?_|fail)|((first|omega|exact absurd rfl (by assumption)|(refine nf1 ?_;assumption)|(refine nf2 ?_;assumption));done))
theorem s_Side (x y z:Int) (w:Rat) (hh:okH x y z w) (p1 p2 p3:Rat) (hp:okV p1 p2 p3):Ax.Pure Tryz.prog G 42 [tH x y z (ratL w),tV (ratL p1) (ratL p2) (ratL p3)] (.tup [N (dot3 (x:Rat) (y:Rat) (z:Rat) p1 p2 p3 - w).num.sign,N 0]):=by
  have qx:=okI_Q hh.1.1
  have qy:=okI_Q hh.1.2.1
  have qz:=okI_Q hh.1.2.2
  have qw:=bigQ_Q hh.2.2
  obtain ⟨qp1,qp2,qp3⟩:=okV_Q hp
  have c_c:=s_chkH hh
  have c_h:=s_FromHalf hh
  have c_v:=s_chkV hp
  have c_p:=s_VFrom hp
  have c_val:=c_Value x y z w p1 p2 p3 ⟨rz_of qx rfl,rz_of qy rfl,rz_of qz rfl,rz_of qw rfl,rz_of qp1 rfl,rz_of qp2 rfl,rz_of qp3 rfl⟩
  have c_s:=c_FSign (dot3 (x:Rat) (y:Rat) (z:Rat) p1 p2 p3 - w)
  refine zen Tryz.func42 rfl Tryz.ntmps42 ?_
  intro w0 E0 hc
  repeat' (first|refine zR1 hc Tryz.results42 ?_|(with_reducible first|exact trivial|refine zan ?_ ?_|refine zim (fun h=>?_)|refine zoc c_c ?_ ?_|refine zoc c_v ?_ ?_|refine zoc s_first20 ?_ ?_|refine zoc c_h ?_ ?_|refine zoc c_p ?_ ?_|refine zoc c_val ?_ ?_|refine zoc c_s ?_ ?_|fail)|((first|omega|exact absurd rfl (by assumption)|(refine nf1 ?_;assumption)|(refine nf2 ?_;assumption));done))
theorem s_Through (a1 a2 a3 b1 b2 b3 d1 d2 d3:Rat) (ha:okV a1 a2 a3) (hb:okV b1 b2 b3) (hd:okV d1 d2 d3) (h0:¬(((b2 - a2)*(d3 - a3) - (b3 - a3)*(d2 - a2))=0∧((b3 - a3)*(d1 - a1) - (b1 - a1)*(d3 - a3))=0∧((b1 - a1)*(d2 - a2) - (b2 - a2)*(d1 - a1))=0)) (hh:hOk ((b2 - a2)*(d3 - a3) - (b3 - a3)*(d2 - a2)) ((b3 - a3)*(d1 - a1) - (b1 - a1)*(d3 - a3)) ((b1 - a1)*(d2 - a2) - (b2 - a2)*(d1 - a1)) (((b2 - a2)*(d3 - a3) - (b3 - a3)*(d2 - a2))*a1+((b3 - a3)*(d1 - a1) - (b1 - a1)*(d3 - a3))*a2+((b1 - a1)*(d2 - a2) - (b2 - a2)*(d1 - a1))*a3)):Ax.Pure Tryz.prog G 77 [tV (ratL a1) (ratL a2) (ratL a3),tV (ratL b1) (ratL b2) (ratL b3),tV (ratL d1) (ratL d2) (ratL d3)] (.tup [hT ((b2 - a2)*(d3 - a3) - (b3 - a3)*(d2 - a2)) ((b3 - a3)*(d1 - a1) - (b1 - a1)*(d3 - a3)) ((b1 - a1)*(d2 - a2) - (b2 - a2)*(d1 - a1)) (((b2 - a2)*(d3 - a3) - (b3 - a3)*(d2 - a2))*a1+((b3 - a3)*(d1 - a1) - (b1 - a1)*(d3 - a3))*a2+((b1 - a1)*(d2 - a2) - (b2 - a2)*(d1 - a1))*a3),N 0]):=by
  obtain ⟨qa1,qa2,qa3⟩:=okV_Q ha
  obtain ⟨qb1,qb2,qb3⟩:=okV_Q hb
  obtain ⟨qd1,qd2,qd3⟩:=okV_Q hd
  have c_c:=c_checkVecs3 (v3 a1 a2 a3) (v3 b1 b2 b3) (v3 d1 d2 d3) (okV_short ha) (okV_short hb) (okV_short hd)
  rw [fstVs3 (okV_fst ha) (okV_fst hb) (okV_fst hd)] at c_c
  have c_a:=s_VFrom ha
  have c_b:=s_VFrom hb
  have c_d:=s_VFrom hd
  have c_s1:=c_VSub b1 b2 b3 a1 a2 a3 ⟨rz_of qb1 rfl,rz_of qb2 rfl,rz_of qb3 rfl,rz_of qa1 rfl,rz_of qa2 rfl,rz_of qa3 rfl⟩
  have c_s2:=c_VSub d1 d2 d3 a1 a2 a3 ⟨rz_of qd1 rfl,rz_of qd2 rfl,rz_of qd3 rfl,rz_of qa1 rfl,rz_of qa2 rfl,rz_of qa3 rfl⟩
  have u1:=Q_sub qb1 qa1
  have u2:=Q_sub qb2 qa2
  have u3:=Q_sub qb3 qa3
  have v1:=Q_sub qd1 qa1
  have v2:=Q_sub qd2 qa2
  have v3:=Q_sub qd3 qa3
  have c_x:=c_Cross (b1 - a1) (b2 - a2) (b3 - a3) (d1 - a1) (d2 - a2) (d3 - a3) ⟨rz_of u1 rfl,rz_of u2 rfl,rz_of u3 rfl,rz_of v1 rfl,rz_of v2 rfl,rz_of v3 rfl⟩
  have n1:=Q_sub (Q_mul u2 v3) (Q_mul u3 v2)
  have n2:=Q_sub (Q_mul u3 v1) (Q_mul u1 v3)
  have n3:=Q_sub (Q_mul u1 v2) (Q_mul u2 v1)
  generalize (b2 - a2)*(d3 - a3) - (b3 - a3)*(d2 - a2)=m1 at *
  generalize (b3 - a3)*(d1 - a1) - (b1 - a1)*(d3 - a3)=m2 at *
  generalize (b1 - a1)*(d2 - a2) - (b2 - a2)*(d1 - a1)=m3 at *
  have c_z:=c_IsZero m1 m2 m3
  have c_dt:=c_Dot m1 m2 m3 a1 a2 a3 ⟨rz_of n1 rfl,rz_of n2 rfl,rz_of n3 rfl,rz_of qa1 rfl,rz_of qa2 rfl,rz_of qa3 rfl⟩
  have qdt:=Q_add (Q_add (Q_mul n1 qa1) (Q_mul n2 qa2)) (Q_mul n3 qa3)
  rw [decide_eq_false h0] at c_z
  have c_g:=c_giveH (k:=80000) (by decide) m1 m2 m3 _ h0 (Q_of n1 rfl) (Q_of n2 rfl) (Q_of n3 rfl) (Q_of qdt rfl) hh
  refine zen Tryz.func77 rfl Tryz.ntmps77 ?_
  intro w0 E0 hc
  repeat' (first|refine zR1 hc Tryz.results77 ?_|(with_reducible first|exact trivial|refine zan ?_ ?_|refine zim (fun h=>?_)|refine zoc c_c ?_ ?_|refine zoc c_a ?_ ?_|refine zoc c_b ?_ ?_|refine zoc c_d ?_ ?_|refine zoc c_s1 ?_ ?_|refine zoc c_s2 ?_ ?_|refine zoc c_x ?_ ?_|refine zoc c_z ?_ ?_|refine zoc c_dt ?_ ?_|refine zoc c_g ?_ ?_|fail)|((first|omega|exact absurd rfl (by assumption)|(refine nf1 ?_;assumption)|(refine nf2 ?_;assumption));done))
theorem s_Meet (x y z:Int) (w:Rat) (hh:okH x y z w) (p1 p2 p3 d1 d2 d3:Rat) (hp:okV p1 p2 p3) (hd:okV d1 d2 d3) (h0:dot3 (x:Rat) (y:Rat) (z:Rat) d1 d2 d3≠0):Ax.Pure Tryz.prog G 45 [tH x y z (ratL w),tV (ratL p1) (ratL p2) (ratL p3),tV (ratL d1) (ratL d2) (ratL d3)] (.tup [tV (txl (bigV (p1 - d1*((dot3 (x:Rat) (y:Rat) (z:Rat) p1 p2 p3 - w) / dot3 (x:Rat) (y:Rat) (z:Rat) d1 d2 d3)) (p2 - d2*((dot3 (x:Rat) (y:Rat) (z:Rat) p1 p2 p3 - w) / dot3 (x:Rat) (y:Rat) (z:Rat) d1 d2 d3)) (p3 - d3*((dot3 (x:Rat) (y:Rat) (z:Rat) p1 p2 p3 - w) / dot3 (x:Rat) (y:Rat) (z:Rat) d1 d2 d3))) (p1 - d1*((dot3 (x:Rat) (y:Rat) (z:Rat) p1 p2 p3 - w) / dot3 (x:Rat) (y:Rat) (z:Rat) d1 d2 d3))) (txl (bigV (p1 - d1*((dot3 (x:Rat) (y:Rat) (z:Rat) p1 p2 p3 - w) / dot3 (x:Rat) (y:Rat) (z:Rat) d1 d2 d3)) (p2 - d2*((dot3 (x:Rat) (y:Rat) (z:Rat) p1 p2 p3 - w) / dot3 (x:Rat) (y:Rat) (z:Rat) d1 d2 d3)) (p3 - d3*((dot3 (x:Rat) (y:Rat) (z:Rat) p1 p2 p3 - w) / dot3 (x:Rat) (y:Rat) (z:Rat) d1 d2 d3))) (p2 - d2*((dot3 (x:Rat) (y:Rat) (z:Rat) p1 p2 p3 - w) / dot3 (x:Rat) (y:Rat) (z:Rat) d1 d2 d3))) (txl (bigV (p1 - d1*((dot3 (x:Rat) (y:Rat) (z:Rat) p1 p2 p3 - w) / dot3 (x:Rat) (y:Rat) (z:Rat) d1 d2 d3)) (p2 - d2*((dot3 (x:Rat) (y:Rat) (z:Rat) p1 p2 p3 - w) / dot3 (x:Rat) (y:Rat) (z:Rat) d1 d2 d3)) (p3 - d3*((dot3 (x:Rat) (y:Rat) (z:Rat) p1 p2 p3 - w) / dot3 (x:Rat) (y:Rat) (z:Rat) d1 d2 d3))) (p3 - d3*((dot3 (x:Rat) (y:Rat) (z:Rat) p1 p2 p3 - w) / dot3 (x:Rat) (y:Rat) (z:Rat) d1 d2 d3))),N (exl (bigV (p1 - d1*((dot3 (x:Rat) (y:Rat) (z:Rat) p1 p2 p3 - w) / dot3 (x:Rat) (y:Rat) (z:Rat) d1 d2 d3)) (p2 - d2*((dot3 (x:Rat) (y:Rat) (z:Rat) p1 p2 p3 - w) / dot3 (x:Rat) (y:Rat) (z:Rat) d1 d2 d3)) (p3 - d3*((dot3 (x:Rat) (y:Rat) (z:Rat) p1 p2 p3 - w) / dot3 (x:Rat) (y:Rat) (z:Rat) d1 d2 d3))))]):=by
  have qx:=okI_Q hh.1.1
  have qy:=okI_Q hh.1.2.1
  have qz:=okI_Q hh.1.2.2
  have qw:=bigQ_Q hh.2.2
  obtain ⟨qp1,qp2,qp3⟩:=okV_Q hp
  obtain ⟨qd1,qd2,qd3⟩:=okV_Q hd
  have c_c:=s_chkH hh
  have c_h:=s_FromHalf hh
  have c_v:=s_chkV hp
  have c_p:=s_VFrom hp
  have c_vd:=s_chkV hd
  have c_d:=s_VFrom hd
  have c_sp:=c_Dot3 (k:=2400) (by decide) x y z d1 d2 d3 qx qy qz qd1 qd2 qd3
  have qsp:=Q_dot qx qy qz qd1 qd2 qd3
  have c_s:=c_FSign (dot3 (x:Rat) (y:Rat) (z:Rat) d1 d2 d3)
  have c_val:=c_Value x y z w p1 p2 p3 ⟨rz_of qx rfl,rz_of qy rfl,rz_of qz rfl,rz_of qw rfl,rz_of qp1 rfl,rz_of qp2 rfl,rz_of qp3 rfl⟩
  have hs0:(dot3 (x:Rat) (y:Rat) (z:Rat) d1 d2 d3).num.sign≠0:=fun e=>h0 (qsign_zero.1 e)
  have qv:=Q_sub (Q_dot qx qy qz qp1 qp2 qp3) qw
  have c_dv:=c_FDiv (dot3 (x:Rat) (y:Rat) (z:Rat) p1 p2 p3 - w) (dot3 (x:Rat) (y:Rat) (z:Rat) d1 d2 d3) h0 (rz_of qv rfl) (rz_of qsp rfl)
  have qt:=Q_div qv qsp
  generalize (dot3 (x:Rat) (y:Rat) (z:Rat) p1 p2 p3 - w) / dot3 (x:Rat) (y:Rat) (z:Rat) d1 d2 d3=t at *
  have c_sc:=c_VScale d1 d2 d3 t ⟨rz_of qd1 rfl,rz_of qd2 rfl,rz_of qd3 rfl,rz_of qt rfl⟩
  have c_sb:=c_VSub p1 p2 p3 (d1*t) (d2*t) (d3*t) ⟨rz_of qp1 rfl,rz_of qp2 rfl,rz_of qp3 rfl,rz_of (Q_mul qd1 qt) rfl,rz_of (Q_mul qd2 qt) rfl,rz_of (Q_mul qd3 qt) rfl⟩
  have g1:=Q_sub qp1 (Q_mul qd1 qt)
  have g2:=Q_sub qp2 (Q_mul qd2 qt)
  have g3:=Q_sub qp3 (Q_mul qd3 qt)
  have c_g:=c_giveVec (k:=100000) (by decide) (p1 - d1*t) (p2 - d2*t) (p3 - d3*t) ⟨Q_of g1 rfl,Q_of g2 rfl,Q_of g3 rfl⟩
  refine zen Tryz.func45 rfl Tryz.ntmps45 ?_
  intro w0 E0 hc
  repeat' (first|refine zR1 hc Tryz.results45 ?_|(with_reducible first|exact trivial|refine zan ?_ ?_|refine zim (fun h=>?_)|refine zoc c_c ?_ ?_|refine zoc c_v ?_ ?_|refine zoc c_vd ?_ ?_|refine zoc s_first30 ?_ ?_|refine zoc c_h ?_ ?_|refine zoc c_p ?_ ?_|refine zoc c_d ?_ ?_|refine zoc c_sp ?_ ?_|refine zoc c_s ?_ ?_|refine zoc c_val ?_ ?_|refine zoc c_dv ?_ ?_|refine zoc c_sc ?_ ?_|refine zoc c_sb ?_ ?_|refine zoc c_g ?_ ?_|fail)|((first|omega|exact hs0 (by assumption)|exact absurd rfl (by assumption)|(refine nf1 ?_;assumption)|(refine nf2 ?_;assumption));done))
theorem c_way (x y z:Int) (w:Rat) (hh:okH x y z w) (p1 p2 p3:Rat) (hp:okV p1 p2 p3):Ax.Pure Tryz.prog G 173 [hA (x:Rat) (y:Rat) (z:Rat) w,vA p1 p2 p3] (vA ((x:Rat)*(-((dot3 (x:Rat) (y:Rat) (z:Rat) p1 p2 p3 - w) / dot3 (x:Rat) (y:Rat) (z:Rat) (x:Rat) (y:Rat) (z:Rat)))) ((y:Rat)*(-((dot3 (x:Rat) (y:Rat) (z:Rat) p1 p2 p3 - w) / dot3 (x:Rat) (y:Rat) (z:Rat) (x:Rat) (y:Rat) (z:Rat)))) ((z:Rat)*(-((dot3 (x:Rat) (y:Rat) (z:Rat) p1 p2 p3 - w) / dot3 (x:Rat) (y:Rat) (z:Rat) (x:Rat) (y:Rat) (z:Rat))))):=by
  have qx:=okI_Q hh.1.1
  have qy:=okI_Q hh.1.2.1
  have qz:=okI_Q hh.1.2.2
  have qw:=bigQ_Q hh.2.2
  obtain ⟨qp1,qp2,qp3⟩:=okV_Q hp
  have c_val:=c_Value x y z w p1 p2 p3 ⟨rz_of qx rfl,rz_of qy rfl,rz_of qz rfl,rz_of qw rfl,rz_of qp1 rfl,rz_of qp2 rfl,rz_of qp3 rfl⟩
  have hn:=dot_pos (okH_ne hh)
  have c_nn:=c_Dot3 (k:=2400) (by decide) x y z x y z qx qy qz qx qy qz
  have qn:=Q_dot qx qy qz qx qy qz
  have qv:=Q_sub (Q_dot qx qy qz qp1 qp2 qp3) qw
  have c_dv:=c_FDiv (dot3 (x:Rat) (y:Rat) (z:Rat) p1 p2 p3 - w) (dot3 (x:Rat) (y:Rat) (z:Rat) (x:Rat) (y:Rat) (z:Rat)) hn (rz_of qv rfl) (rz_of qn rfl)
  have qt:=Q_div qv qn
  have c_ng:=c_FNeg _ (rz_of qt rfl)
  have c_sc:=c_VScale x y z _ ⟨rz_of qx rfl,rz_of qy rfl,rz_of qz rfl,rz_of (Q_neg qt) rfl⟩
  refine zen Tryz.func173 rfl Tryz.ntmps173 ?_
  intro w0 E0 hc
  repeat' (first|refine zR1 hc Tryz.results173 ?_|(with_reducible first|exact trivial|refine zan ?_ ?_|refine zim (fun h=>?_)|refine zoc c_val ?_ ?_|refine zoc c_nn ?_ ?_|refine zoc c_dv ?_ ?_|refine zoc c_ng ?_ ?_|refine zoc c_sc ?_ ?_|fail)|(omega;done))
theorem Q_way {x y z:Int} {w p1 p2 p3:Rat} (hh:okH x y z w) (hp:okV p1 p2 p3):Q 60000 ((x:Rat)*(-((dot3 (x:Rat) (y:Rat) (z:Rat) p1 p2 p3 - w) / dot3 (x:Rat) (y:Rat) (z:Rat) (x:Rat) (y:Rat) (z:Rat))))∧Q 60000 ((y:Rat)*(-((dot3 (x:Rat) (y:Rat) (z:Rat) p1 p2 p3 - w) / dot3 (x:Rat) (y:Rat) (z:Rat) (x:Rat) (y:Rat) (z:Rat))))∧Q 60000 ((z:Rat)*(-((dot3 (x:Rat) (y:Rat) (z:Rat) p1 p2 p3 - w) / dot3 (x:Rat) (y:Rat) (z:Rat) (x:Rat) (y:Rat) (z:Rat)))):=by
  have qx:=okI_Q hh.1.1
  have qy:=okI_Q hh.1.2.1
  have qz:=okI_Q hh.1.2.2
  have qw:=bigQ_Q hh.2.2
  obtain ⟨qp1,qp2,qp3⟩:=okV_Q hp
  have qt:=Q_neg (Q_div (Q_sub (Q_dot qx qy qz qp1 qp2 qp3) qw) (Q_dot qx qy qz qx qy qz))
  exact ⟨Q_of (Q_mul qx qt) rfl,Q_of (Q_mul qy qt) rfl,Q_of (Q_mul qz qt) rfl⟩
theorem s_toPlane (x y z:Int) (w:Rat) (hh:okH x y z w) (p1 p2 p3:Rat) (hp:okV p1 p2 p3) (f:FuncId) (r1 r2 r3:Rat) (qr:Q 200000 r1∧Q 200000 r2∧Q 200000 r3) (c_mk:Ax.Pure Tryz.prog G f [vA p1 p2 p3,vA ((x:Rat)*(-((dot3 (x:Rat) (y:Rat) (z:Rat) p1 p2 p3 - w) / dot3 (x:Rat) (y:Rat) (z:Rat) (x:Rat) (y:Rat) (z:Rat)))) ((y:Rat)*(-((dot3 (x:Rat) (y:Rat) (z:Rat) p1 p2 p3 - w) / dot3 (x:Rat) (y:Rat) (z:Rat) (x:Rat) (y:Rat) (z:Rat)))) ((z:Rat)*(-((dot3 (x:Rat) (y:Rat) (z:Rat) p1 p2 p3 - w) / dot3 (x:Rat) (y:Rat) (z:Rat) (x:Rat) (y:Rat) (z:Rat))))] (vA r1 r2 r3)):Ax.Pure Tryz.prog G 171 [tH x y z (ratL w),tV (ratL p1) (ratL p2) (ratL p3),.one (.fn (.func f) [] [])] (.tup [tV (txl (bigV (r1) (r2) (r3)) (r1)) (txl (bigV (r1) (r2) (r3)) (r2)) (txl (bigV (r1) (r2) (r3)) (r3)),N (exl (bigV (r1) (r2) (r3)))]):=by
  have c_c:=s_chkH hh
  have c_h:=s_FromHalf hh
  have c_v:=s_chkV hp
  have c_p:=s_VFrom hp
  have c_w:=c_way x y z w hh p1 p2 p3 hp
  have c_g:=c_giveVec (k:=200000) (by decide) r1 r2 r3 qr
  refine zen Tryz.func171 rfl Tryz.ntmps171 ?_
  intro w0 E0 hc
  repeat' (first|refine zR1 hc Tryz.results171 ?_|(with_reducible first|exact trivial|refine zan ?_ ?_|refine zim (fun h=>?_)|refine zoc c_c ?_ ?_|refine zoc c_v ?_ ?_|refine zoc s_first20 ?_ ?_|refine zoc c_h ?_ ?_|refine zoc c_p ?_ ?_|refine zoc c_w ?_ ?_|refine zoc c_mk ?_ ?_|refine zoc c_g ?_ ?_|fail)|((first|omega|exact absurd rfl (by assumption)|(refine nf1 ?_;assumption)|(refine nf2 ?_;assumption));done))
theorem c_mirror (p1 p2 p3 w1 w2 w3:Rat) (qp1:Q 2400 p1) (qp2:Q 2400 p2) (qp3:Q 2400 p3) (g1:Q 60000 w1) (g2:Q 60000 w2) (g3:Q 60000 w3):Ax.Pure Tryz.prog G 174 [vA p1 p2 p3,vA w1 w2 w3] (vA (p1+w1+w1) (p2+w2+w2) (p3+w3+w3)):=by
  have c_1:=c_VAdd p1 p2 p3 w1 w2 w3 ⟨rz_of qp1 rfl,rz_of qp2 rfl,rz_of qp3 rfl,rz_of g1 rfl,rz_of g2 rfl,rz_of g3 rfl⟩
  have c_2:=c_VAdd (p1+w1) (p2+w2) (p3+w3) w1 w2 w3 ⟨rz_of (Q_add qp1 g1) rfl,rz_of (Q_add qp2 g2) rfl,rz_of (Q_add qp3 g3) rfl,rz_of g1 rfl,rz_of g2 rfl,rz_of g3 rfl⟩
  refine zen Tryz.func174 rfl Tryz.ntmps174 ?_
  intro w0 E0 hc
  repeat' (first|refine zR1 hc Tryz.results174 ?_|(with_reducible first|exact trivial|refine zan ?_ ?_|refine zim (fun h=>?_)|refine zoc c_1 ?_ ?_|refine zoc c_2 ?_ ?_|fail)|(omega;done))
theorem s_Mirror (x y z:Int) (w:Rat) (hh:okH x y z w) (p1 p2 p3:Rat) (hp:okV p1 p2 p3):Ax.Pure Tryz.prog G 48 [tH x y z (ratL w),tV (ratL p1) (ratL p2) (ratL p3)] (.tup [tV (txl (bigV (p1+(x:Rat)*(-((dot3 (x:Rat) (y:Rat) (z:Rat) p1 p2 p3 - w) / dot3 (x:Rat) (y:Rat) (z:Rat) (x:Rat) (y:Rat) (z:Rat)))+(x:Rat)*(-((dot3 (x:Rat) (y:Rat) (z:Rat) p1 p2 p3 - w) / dot3 (x:Rat) (y:Rat) (z:Rat) (x:Rat) (y:Rat) (z:Rat)))) (p2+(y:Rat)*(-((dot3 (x:Rat) (y:Rat) (z:Rat) p1 p2 p3 - w) / dot3 (x:Rat) (y:Rat) (z:Rat) (x:Rat) (y:Rat) (z:Rat)))+(y:Rat)*(-((dot3 (x:Rat) (y:Rat) (z:Rat) p1 p2 p3 - w) / dot3 (x:Rat) (y:Rat) (z:Rat) (x:Rat) (y:Rat) (z:Rat)))) (p3+(z:Rat)*(-((dot3 (x:Rat) (y:Rat) (z:Rat) p1 p2 p3 - w) / dot3 (x:Rat) (y:Rat) (z:Rat) (x:Rat) (y:Rat) (z:Rat)))+(z:Rat)*(-((dot3 (x:Rat) (y:Rat) (z:Rat) p1 p2 p3 - w) / dot3 (x:Rat) (y:Rat) (z:Rat) (x:Rat) (y:Rat) (z:Rat))))) (p1+(x:Rat)*(-((dot3 (x:Rat) (y:Rat) (z:Rat) p1 p2 p3 - w) / dot3 (x:Rat) (y:Rat) (z:Rat) (x:Rat) (y:Rat) (z:Rat)))+(x:Rat)*(-((dot3 (x:Rat) (y:Rat) (z:Rat) p1 p2 p3 - w) / dot3 (x:Rat) (y:Rat) (z:Rat) (x:Rat) (y:Rat) (z:Rat))))) (txl (bigV (p1+(x:Rat)*(-((dot3 (x:Rat) (y:Rat) (z:Rat) p1 p2 p3 - w) / dot3 (x:Rat) (y:Rat) (z:Rat) (x:Rat) (y:Rat) (z:Rat)))+(x:Rat)*(-((dot3 (x:Rat) (y:Rat) (z:Rat) p1 p2 p3 - w) / dot3 (x:Rat) (y:Rat) (z:Rat) (x:Rat) (y:Rat) (z:Rat)))) (p2+(y:Rat)*(-((dot3 (x:Rat) (y:Rat) (z:Rat) p1 p2 p3 - w) / dot3 (x:Rat) (y:Rat) (z:Rat) (x:Rat) (y:Rat) (z:Rat)))+(y:Rat)*(-((dot3 (x:Rat) (y:Rat) (z:Rat) p1 p2 p3 - w) / dot3 (x:Rat) (y:Rat) (z:Rat) (x:Rat) (y:Rat) (z:Rat)))) (p3+(z:Rat)*(-((dot3 (x:Rat) (y:Rat) (z:Rat) p1 p2 p3 - w) / dot3 (x:Rat) (y:Rat) (z:Rat) (x:Rat) (y:Rat) (z:Rat)))+(z:Rat)*(-((dot3 (x:Rat) (y:Rat) (z:Rat) p1 p2 p3 - w) / dot3 (x:Rat) (y:Rat) (z:Rat) (x:Rat) (y:Rat) (z:Rat))))) (p2+(y:Rat)*(-((dot3 (x:Rat) (y:Rat) (z:Rat) p1 p2 p3 - w) / dot3 (x:Rat) (y:Rat) (z:Rat) (x:Rat) (y:Rat) (z:Rat)))+(y:Rat)*(-((dot3 (x:Rat) (y:Rat) (z:Rat) p1 p2 p3 - w) / dot3 (x:Rat) (y:Rat) (z:Rat) (x:Rat) (y:Rat) (z:Rat))))) (txl (bigV (p1+(x:Rat)*(-((dot3 (x:Rat) (y:Rat) (z:Rat) p1 p2 p3 - w) / dot3 (x:Rat) (y:Rat) (z:Rat) (x:Rat) (y:Rat) (z:Rat)))+(x:Rat)*(-((dot3 (x:Rat) (y:Rat) (z:Rat) p1 p2 p3 - w) / dot3 (x:Rat) (y:Rat) (z:Rat) (x:Rat) (y:Rat) (z:Rat)))) (p2+(y:Rat)*(-((dot3 (x:Rat) (y:Rat) (z:Rat) p1 p2 p3 - w) / dot3 (x:Rat) (y:Rat) (z:Rat) (x:Rat) (y:Rat) (z:Rat)))+(y:Rat)*(-((dot3 (x:Rat) (y:Rat) (z:Rat) p1 p2 p3 - w) / dot3 (x:Rat) (y:Rat) (z:Rat) (x:Rat) (y:Rat) (z:Rat)))) (p3+(z:Rat)*(-((dot3 (x:Rat) (y:Rat) (z:Rat) p1 p2 p3 - w) / dot3 (x:Rat) (y:Rat) (z:Rat) (x:Rat) (y:Rat) (z:Rat)))+(z:Rat)*(-((dot3 (x:Rat) (y:Rat) (z:Rat) p1 p2 p3 - w) / dot3 (x:Rat) (y:Rat) (z:Rat) (x:Rat) (y:Rat) (z:Rat))))) (p3+(z:Rat)*(-((dot3 (x:Rat) (y:Rat) (z:Rat) p1 p2 p3 - w) / dot3 (x:Rat) (y:Rat) (z:Rat) (x:Rat) (y:Rat) (z:Rat)))+(z:Rat)*(-((dot3 (x:Rat) (y:Rat) (z:Rat) p1 p2 p3 - w) / dot3 (x:Rat) (y:Rat) (z:Rat) (x:Rat) (y:Rat) (z:Rat))))),N (exl (bigV (p1+(x:Rat)*(-((dot3 (x:Rat) (y:Rat) (z:Rat) p1 p2 p3 - w) / dot3 (x:Rat) (y:Rat) (z:Rat) (x:Rat) (y:Rat) (z:Rat)))+(x:Rat)*(-((dot3 (x:Rat) (y:Rat) (z:Rat) p1 p2 p3 - w) / dot3 (x:Rat) (y:Rat) (z:Rat) (x:Rat) (y:Rat) (z:Rat)))) (p2+(y:Rat)*(-((dot3 (x:Rat) (y:Rat) (z:Rat) p1 p2 p3 - w) / dot3 (x:Rat) (y:Rat) (z:Rat) (x:Rat) (y:Rat) (z:Rat)))+(y:Rat)*(-((dot3 (x:Rat) (y:Rat) (z:Rat) p1 p2 p3 - w) / dot3 (x:Rat) (y:Rat) (z:Rat) (x:Rat) (y:Rat) (z:Rat)))) (p3+(z:Rat)*(-((dot3 (x:Rat) (y:Rat) (z:Rat) p1 p2 p3 - w) / dot3 (x:Rat) (y:Rat) (z:Rat) (x:Rat) (y:Rat) (z:Rat)))+(z:Rat)*(-((dot3 (x:Rat) (y:Rat) (z:Rat) p1 p2 p3 - w) / dot3 (x:Rat) (y:Rat) (z:Rat) (x:Rat) (y:Rat) (z:Rat))))))]):=by
  obtain ⟨qp1,qp2,qp3⟩:=okV_Q hp
  obtain ⟨g1,g2,g3⟩:=Q_way hh hp
  have c_t:=s_toPlane x y z w hh p1 p2 p3 hp
  generalize (x:Rat)*(-((dot3 (x:Rat) (y:Rat) (z:Rat) p1 p2 p3 - w) / dot3 (x:Rat) (y:Rat) (z:Rat) (x:Rat) (y:Rat) (z:Rat)))=w1 at *
  generalize (y:Rat)*(-((dot3 (x:Rat) (y:Rat) (z:Rat) p1 p2 p3 - w) / dot3 (x:Rat) (y:Rat) (z:Rat) (x:Rat) (y:Rat) (z:Rat)))=w2 at *
  generalize (z:Rat)*(-((dot3 (x:Rat) (y:Rat) (z:Rat) p1 p2 p3 - w) / dot3 (x:Rat) (y:Rat) (z:Rat) (x:Rat) (y:Rat) (z:Rat)))=w3 at *
  have c_t:=c_t 174 (p1+w1+w1) (p2+w2+w2) (p3+w3+w3) ⟨Q_of (Q_add (Q_add qp1 g1) g1) rfl,Q_of (Q_add (Q_add qp2 g2) g2) rfl,Q_of (Q_add (Q_add qp3 g3) g3) rfl⟩ (c_mirror p1 p2 p3 w1 w2 w3 qp1 qp2 qp3 g1 g2 g3)
  refine zen Tryz.func48 rfl Tryz.ntmps48 ?_
  intro w0 E0 hc
  repeat' (first|refine zR1 hc Tryz.results48 ?_|(with_reducible first|exact trivial|refine zan ?_ ?_|refine zim (fun h=>?_)|refine zoc c_t ?_ ?_|fail)|(omega;done))
end Go.Proofs
end
