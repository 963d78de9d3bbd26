/- Lemmas on the program and its library: part ZW29. -/
import Derived.Test.YtoiejgkkcfkliaaGreatDoorZW26
import Derived.Test.YtoiejgkkcfkliaaGreatDoorZW28
set_option linter.unusedVariables false
set_option linter.unusedSimpArgs false
section
set_option maxHeartbeats 4000000
set_option maxRecDepth 100000
namespace Go.Proofs
open Go.Ax
theorem a68 {x:Int} (h:okI x):Q 2400 (x:Rat):=by
  obtain ⟨h1,h2⟩:=h
  exact a07 (c1l (z:=x) (by omega) (by omega)) (by decide)
theorem a6i {x:Int} (h:okI x):i64 x:=by
  obtain ⟨h1,h2⟩:=h
  exact ⟨by omega,by omega⟩
def okH (x y z:Int) (d:Rat):Prop:=(okI x∧okI y∧okI z)∧b1c x y z 3=1∧y4 d=false
theorem d80 {x y z:Int} {d:Rat} (h:okH x y z d):chkH x y z (c5 d)=0:=by
  obtain ⟨⟨⟨x1,x2⟩,⟨y1,y2⟩,⟨z1,z2⟩⟩,hg,hd⟩:=h
  have hf:b9n x y z 3=false:=by
    show (b2o x || b2o y || b2o z)=false
    unfold b2o
    rw [decide_eq_false (by omega),decide_eq_false (by omega),decide_eq_false (by omega),decide_eq_false (by omega),decide_eq_false (by omega),decide_eq_false (by omega)];rfl
  unfold chkH
  rw [hg,hf,a2j hd];rfl
theorem d6e {x y z:Int} {d:Rat} (h:okH x y z d):¬((x:Rat)=0∧(y:Rat)=0∧(z:Rat)=0):=by
  rintro ⟨h1,h2,h3⟩
  have h1:x=0:=Rat.intCast_eq_zero_iff.1 h1
  have h2:y=0:=Rat.intCast_eq_zero_iff.1 h2
  have h3:z=0:=Rat.intCast_eq_zero_iff.1 h3
  have:=h.2.1
  subst h1 h2 h3
  exact absurd this (by decide)
theorem c4r {x y z:Int} {d:Rat} (h:okH x y z d):Ax.Pure Tryz.prog G 37 [tH x y z (c5 d)] (N 0):=by
  have:=c5r x y z (c5 d) (a6i h.1.1) (a6i h.1.2.1) (a6i h.1.2.2) (a0g h.2.2)
  rwa [d80 h] at this
theorem b0j {x y z:Int} {d:Rat} (h:okH x y z d):Ax.Pure Tryz.prog G 147 [tH x y z (c5 d)] (hA (x:Rat) (y:Rat) (z:Rat) d):=
  c71 (k:=2400) (by decide) x y z d ⟨(a6i h.1.1).1,(a6i h.1.1).2,(a6i h.1.2.1).1,(a6i h.1.2.1).2,(a6i h.1.2.2).1,(a6i h.1.2.2).2⟩ (a0z h.2.2)
theorem b68 {a b c:Rat} (h:okV a b c):Ax.Pure Tryz.prog G 109 [tV (c5 a) (c5 b) (c5 c)] (N 0):=by
  have:=b9c _ _ _ (a0g h.1) (a0g h.2.1) (a0g h.2.2)
  rwa [d6f h] at this
theorem s_chk {a:Rat} (h:y4 a=false):Ax.Pure Tryz.prog G 20 [S (bs (c5 a))] (N 0):=by
  have:=b4k _ (a0g h)
  rwa [a2j h] at this
theorem a34 {a b c:Rat} (h:okV a b c):Ax.Pure Tryz.prog G 154 [tV (c5 a) (c5 b) (c5 c)] (vA a b c):=a9x (k:=2400) (by decide) a b c (s9 h)
theorem c4p {a:Rat} (h:y4 a=false):Ax.Pure Tryz.prog G 155 [S (bs (c5 a))] (a0h a):=a78 (k:=2400) (by decide) a (a0z h)
theorem a5f:Ax.Pure Tryz.prog G 143 [.one (.row 1 2 (fun i=> [[i7.v (.int .i64 0)],[i7.v (.int .i64 0)]].getD i []))] (N 0):=a4l 0 0
theorem d3b:Ax.Pure Tryz.prog G 143 [.one (.row 1 3 (fun i=> [[i7.v (.int .i64 0)],[i7.v (.int .i64 0)],[i7.v (.int .i64 0)]].getD i []))] (N 0):=d5j 0 0 0
theorem d9y {k:Nat} {a b c:Rat} (ha:Q k a) (hb:Q k b) (hc:Q k c):Q ((3*k+1)+(k+3*k+1)) (nrm a b c):=
  a0b (c5e (c79 ha hb hc 3)) (c5e (k:=k+3*k) (d5p ha hb hc (c79 ha hb hc 3) 3))
def hOk (a b c d:Rat):Prop:=(okI (a*nrm a b c).num∧okI (b*nrm a b c).num∧okI (c*nrm a b c).num)∧y4 (d*nrm a b c)=false
abbrev hT (a b c d:Rat):AV:=tH (a*nrm a b c).num (b*nrm a b c).num (c*nrm a b c).num (c5 (d*nrm a b c))
theorem c96 {k:Nat} (hk:k≤100000) (a b c d:Rat) (h0:¬(a=0∧b=0∧c=0)) (ha:Q k a) (hb:Q k b) (hc:Q k c) (hd:Q k d) (h:hOk a b c d):Ax.Pure Tryz.prog G 144 [hA a b c d] (.tup [hT a b c d,N 0]):=
  b9j (k:=k+((3*k+1)+(k+3*k+1))) (by omega) a b c d _ _ _ _ (c5z (k:=k) (by omega) a b c d h0 ha hb hc hd) (c6 hd (d9y ha hb hc)) h
theorem c9b (n1 n2 n3:Rat) (d:Rat) (hn:okV n1 n2 n3) (hd:y4 d=false) (h0:¬(n1=0∧n2=0∧n3=0)) (hh:hOk n1 n2 n3 d):Ax.Pure Tryz.prog G 38 [tV (c5 n1) (c5 n2) (c5 n3),S (bs (c5 d))] (.tup [hT n1 n2 n3 d,N 0]):=by
  obtain ⟨qn1,qn2,qn3⟩:=s9 hn
  have qd:=a0z hd
  have c_v:=b68 hn
  have c_d:=s_chk hd
  have c_n:=a34 hn
  have c_w:=c4p hd
  have c_z:=a60 n1 n2 n3
  rw [decide_eq_false h0] at c_z
  have c_g:=c96 (k:=2400) (by decide) n1 n2 n3 d h0 qn1 qn2 qn3 qd hh
  refine r8 Tryz.func38 rfl Tryz.ntmps38 ?_
  intro w0 E0 hc
  repeat' (first|refine n7 hc Tryz.results38 ?_|(with_reducible first|exact trivial|refine j3 ?_ ?_|refine m8 (fun h=>?_)|refine c9 c_v ?_ ?_|refine c9 c_d ?_ ?_|refine c9 a5f ?_ ?_|refine c9 c_n ?_ ?_|refine c9 c_w ?_ ?_|refine c9 c_z ?_ ?_|refine c9 c_g ?_ ?_|fail)|((first|omega|exact absurd rfl (by assumption)|(refine nf1 ?_;assumption)|(refine nf2 ?_;assumption));done))
theorem e1w (x y z:Int) (w:Rat) (hh:okH x y z w) (p1 p2 p3:Rat) (hp:okV p1 p2 p3):Ax.Pure Tryz.prog G 42 [tH x y z (c5 w),tV (c5 p1) (c5 p2) (c5 p3)] (.tup [N (c7 (x:Rat) (y:Rat) (z:Rat) p1 p2 p3 - w).num.sign,N 0]):=by
  have qx:=a68 hh.1.1
  have qy:=a68 hh.1.2.1
  have qz:=a68 hh.1.2.2
  have qw:=a0z hh.2.2
  obtain ⟨qp1,qp2,qp3⟩:=s9 hp
  have c_c:=c4r hh
  have c_h:=b0j hh
  have c_v:=b68 hp
  have c_p:=a34 hp
  have c_val:=c3e x y z w p1 p2 p3 ⟨c8 qx rfl,c8 qy rfl,c8 qz rfl,c8 qw rfl,c8 qp1 rfl,c8 qp2 rfl,c8 qp3 rfl⟩
  have c_s:=a7m (c7 (x:Rat) (y:Rat) (z:Rat) p1 p2 p3 - w)
  refine r8 Tryz.func42 rfl Tryz.ntmps42 ?_
  intro w0 E0 hc
  repeat' (first|refine n7 hc Tryz.results42 ?_|(with_reducible first|exact trivial|refine j3 ?_ ?_|refine m8 (fun h=>?_)|refine c9 c_c ?_ ?_|refine c9 c_v ?_ ?_|refine c9 a5f ?_ ?_|refine c9 c_h ?_ ?_|refine c9 c_p ?_ ?_|refine c9 c_val ?_ ?_|refine c9 c_s ?_ ?_|fail)|((first|omega|exact absurd rfl (by assumption)|(refine nf1 ?_;assumption)|(refine nf2 ?_;assumption));done))
theorem d2z (a1 a2 a3 b1 b2 b3 d1 d2 d3:Rat) (ha:okV a1 a2 a3) (hb:okV b1 b2 b3) (hd:okV d1 d2 d3) (h0:¬(((b2 - a2)*(d3 - a3) - (b3 - a3)*(d2 - a2))=0∧((b3 - a3)*(d1 - a1) - (b1 - a1)*(d3 - a3))=0∧((b1 - a1)*(d2 - a2) - (b2 - a2)*(d1 - a1))=0)) (hh:hOk ((b2 - a2)*(d3 - a3) - (b3 - a3)*(d2 - a2)) ((b3 - a3)*(d1 - a1) - (b1 - a1)*(d3 - a3)) ((b1 - a1)*(d2 - a2) - (b2 - a2)*(d1 - a1)) (((b2 - a2)*(d3 - a3) - (b3 - a3)*(d2 - a2))*a1+((b3 - a3)*(d1 - a1) - (b1 - a1)*(d3 - a3))*a2+((b1 - a1)*(d2 - a2) - (b2 - a2)*(d1 - a1))*a3)):Ax.Pure Tryz.prog G 77 [tV (c5 a1) (c5 a2) (c5 a3),tV (c5 b1) (c5 b2) (c5 b3),tV (c5 d1) (c5 d2) (c5 d3)] (.tup [hT ((b2 - a2)*(d3 - a3) - (b3 - a3)*(d2 - a2)) ((b3 - a3)*(d1 - a1) - (b1 - a1)*(d3 - a3)) ((b1 - a1)*(d2 - a2) - (b2 - a2)*(d1 - a1)) (((b2 - a2)*(d3 - a3) - (b3 - a3)*(d2 - a2))*a1+((b3 - a3)*(d1 - a1) - (b1 - a1)*(d3 - a3))*a2+((b1 - a1)*(d2 - a2) - (b2 - a2)*(d1 - a1))*a3),N 0]):=by
  obtain ⟨qa1,qa2,qa3⟩:=s9 ha
  obtain ⟨qb1,qb2,qb3⟩:=s9 hb
  obtain ⟨qd1,qd2,qd3⟩:=s9 hd
  have c_c:=c3h (v3 a1 a2 a3) (v3 b1 b2 b3) (v3 d1 d2 d3) (a3l ha) (a3l hb) (a3l hd)
  rw [e1k (a6j ha) (a6j hb) (a6j hd)] at c_c
  have c_a:=a34 ha
  have c_b:=a34 hb
  have c_d:=a34 hd
  have c_s1:=c3d b1 b2 b3 a1 a2 a3 ⟨c8 qb1 rfl,c8 qb2 rfl,c8 qb3 rfl,c8 qa1 rfl,c8 qa2 rfl,c8 qa3 rfl⟩
  have c_s2:=c3d d1 d2 d3 a1 a2 a3 ⟨c8 qd1 rfl,c8 qd2 rfl,c8 qd3 rfl,c8 qa1 rfl,c8 qa2 rfl,c8 qa3 rfl⟩
  have u1:=j9 qb1 qa1
  have u2:=j9 qb2 qa2
  have u3:=j9 qb3 qa3
  have v1:=j9 qd1 qa1
  have v2:=j9 qd2 qa2
  have v3:=j9 qd3 qa3
  have c_x:=c2y (b1 - a1) (b2 - a2) (b3 - a3) (d1 - a1) (d2 - a2) (d3 - a3) ⟨c8 u1 rfl,c8 u2 rfl,c8 u3 rfl,c8 v1 rfl,c8 v2 rfl,c8 v3 rfl⟩
  have n1:=j9 (c6 u2 v3) (c6 u3 v2)
  have n2:=j9 (c6 u3 v1) (c6 u1 v3)
  have n3:=j9 (c6 u1 v2) (c6 u2 v1)
  generalize (b2 - a2)*(d3 - a3) - (b3 - a3)*(d2 - a2)=m1 at *
  generalize (b3 - a3)*(d1 - a1) - (b1 - a1)*(d3 - a3)=m2 at *
  generalize (b1 - a1)*(d2 - a2) - (b2 - a2)*(d1 - a1)=m3 at *
  have c_z:=a60 m1 m2 m3
  have c_dt:=c1s m1 m2 m3 a1 a2 a3 ⟨c8 n1 rfl,c8 n2 rfl,c8 n3 rfl,c8 qa1 rfl,c8 qa2 rfl,c8 qa3 rfl⟩
  have qdt:=f0 (f0 (c6 n1 qa1) (c6 n2 qa2)) (c6 n3 qa3)
  rw [decide_eq_false h0] at c_z
  have c_g:=c96 (k:=80000) (by decide) m1 m2 m3 _ h0 (j4 n1 rfl) (j4 n2 rfl) (j4 n3 rfl) (j4 qdt rfl) hh
  refine r8 Tryz.func77 rfl Tryz.ntmps77 ?_
  intro w0 E0 hc
  repeat' (first|refine n7 hc Tryz.results77 ?_|(with_reducible first|exact trivial|refine j3 ?_ ?_|refine m8 (fun h=>?_)|refine c9 c_c ?_ ?_|refine c9 c_a ?_ ?_|refine c9 c_b ?_ ?_|refine c9 c_d ?_ ?_|refine c9 c_s1 ?_ ?_|refine c9 c_s2 ?_ ?_|refine c9 c_x ?_ ?_|refine c9 c_z ?_ ?_|refine c9 c_dt ?_ ?_|refine c9 c_g ?_ ?_|fail)|((first|omega|exact absurd rfl (by assumption)|(refine nf1 ?_;assumption)|(refine nf2 ?_;assumption));done))
theorem e1v (x y z:Int) (w:Rat) (hh:okH x y z w) (p1 p2 p3 d1 d2 d3:Rat) (hp:okV p1 p2 p3) (hd:okV d1 d2 d3) (h0:c7 (x:Rat) (y:Rat) (z:Rat) d1 d2 d3≠0):Ax.Pure Tryz.prog G 45 [tH x y z (c5 w),tV (c5 p1) (c5 p2) (c5 p3),tV (c5 d1) (c5 d2) (c5 d3)] (.tup [tV (txl (a1i (p1 - d1*((c7 (x:Rat) (y:Rat) (z:Rat) p1 p2 p3 - w) / c7 (x:Rat) (y:Rat) (z:Rat) d1 d2 d3)) (p2 - d2*((c7 (x:Rat) (y:Rat) (z:Rat) p1 p2 p3 - w) / c7 (x:Rat) (y:Rat) (z:Rat) d1 d2 d3)) (p3 - d3*((c7 (x:Rat) (y:Rat) (z:Rat) p1 p2 p3 - w) / c7 (x:Rat) (y:Rat) (z:Rat) d1 d2 d3))) (p1 - d1*((c7 (x:Rat) (y:Rat) (z:Rat) p1 p2 p3 - w) / c7 (x:Rat) (y:Rat) (z:Rat) d1 d2 d3))) (txl (a1i (p1 - d1*((c7 (x:Rat) (y:Rat) (z:Rat) p1 p2 p3 - w) / c7 (x:Rat) (y:Rat) (z:Rat) d1 d2 d3)) (p2 - d2*((c7 (x:Rat) (y:Rat) (z:Rat) p1 p2 p3 - w) / c7 (x:Rat) (y:Rat) (z:Rat) d1 d2 d3)) (p3 - d3*((c7 (x:Rat) (y:Rat) (z:Rat) p1 p2 p3 - w) / c7 (x:Rat) (y:Rat) (z:Rat) d1 d2 d3))) (p2 - d2*((c7 (x:Rat) (y:Rat) (z:Rat) p1 p2 p3 - w) / c7 (x:Rat) (y:Rat) (z:Rat) d1 d2 d3))) (txl (a1i (p1 - d1*((c7 (x:Rat) (y:Rat) (z:Rat) p1 p2 p3 - w) / c7 (x:Rat) (y:Rat) (z:Rat) d1 d2 d3)) (p2 - d2*((c7 (x:Rat) (y:Rat) (z:Rat) p1 p2 p3 - w) / c7 (x:Rat) (y:Rat) (z:Rat) d1 d2 d3)) (p3 - d3*((c7 (x:Rat) (y:Rat) (z:Rat) p1 p2 p3 - w) / c7 (x:Rat) (y:Rat) (z:Rat) d1 d2 d3))) (p3 - d3*((c7 (x:Rat) (y:Rat) (z:Rat) p1 p2 p3 - w) / c7 (x:Rat) (y:Rat) (z:Rat) d1 d2 d3))),N (exl (a1i (p1 - d1*((c7 (x:Rat) (y:Rat) (z:Rat) p1 p2 p3 - w) / c7 (x:Rat) (y:Rat) (z:Rat) d1 d2 d3)) (p2 - d2*((c7 (x:Rat) (y:Rat) (z:Rat) p1 p2 p3 - w) / c7 (x:Rat) (y:Rat) (z:Rat) d1 d2 d3)) (p3 - d3*((c7 (x:Rat) (y:Rat) (z:Rat) p1 p2 p3 - w) / c7 (x:Rat) (y:Rat) (z:Rat) d1 d2 d3))))]):=by
  have qx:=a68 hh.1.1
  have qy:=a68 hh.1.2.1
  have qz:=a68 hh.1.2.2
  have qw:=a0z hh.2.2
  obtain ⟨qp1,qp2,qp3⟩:=s9 hp
  obtain ⟨qd1,qd2,qd3⟩:=s9 hd
  have c_c:=c4r hh
  have c_h:=b0j hh
  have c_v:=b68 hp
  have c_p:=a34 hp
  have c_vd:=b68 hd
  have c_d:=a34 hd
  have c_sp:=a77 (k:=2400) (by decide) x y z d1 d2 d3 qx qy qz qd1 qd2 qd3
  have qsp:=a0e qx qy qz qd1 qd2 qd3
  have c_s:=a7m (c7 (x:Rat) (y:Rat) (z:Rat) d1 d2 d3)
  have c_val:=c3e x y z w p1 p2 p3 ⟨c8 qx rfl,c8 qy rfl,c8 qz rfl,c8 qw rfl,c8 qp1 rfl,c8 qp2 rfl,c8 qp3 rfl⟩
  have hs0:(c7 (x:Rat) (y:Rat) (z:Rat) d1 d2 d3).num.sign≠0:=fun e=>h0 (a2a.1 e)
  have qv:=j9 (a0e qx qy qz qp1 qp2 qp3) qw
  have c_dv:=b3m (c7 (x:Rat) (y:Rat) (z:Rat) p1 p2 p3 - w) (c7 (x:Rat) (y:Rat) (z:Rat) d1 d2 d3) h0 (c8 qv rfl) (c8 qsp rfl)
  have qt:=a0b qv qsp
  generalize (c7 (x:Rat) (y:Rat) (z:Rat) p1 p2 p3 - w) / c7 (x:Rat) (y:Rat) (z:Rat) d1 d2 d3=t at *
  have c_sc:=a3x d1 d2 d3 t ⟨c8 qd1 rfl,c8 qd2 rfl,c8 qd3 rfl,c8 qt rfl⟩
  have c_sb:=c3d p1 p2 p3 (d1*t) (d2*t) (d3*t) ⟨c8 qp1 rfl,c8 qp2 rfl,c8 qp3 rfl,c8 (c6 qd1 qt) rfl,c8 (c6 qd2 qt) rfl,c8 (c6 qd3 qt) rfl⟩
  have g1:=j9 qp1 (c6 qd1 qt)
  have g2:=j9 qp2 (c6 qd2 qt)
  have g3:=j9 qp3 (c6 qd3 qt)
  have c_g:=b6k (k:=100000) (by decide) (p1 - d1*t) (p2 - d2*t) (p3 - d3*t) ⟨j4 g1 rfl,j4 g2 rfl,j4 g3 rfl⟩
  refine r8 Tryz.func45 rfl Tryz.ntmps45 ?_
  intro w0 E0 hc
  repeat' (first|refine n7 hc Tryz.results45 ?_|(with_reducible first|exact trivial|refine j3 ?_ ?_|refine m8 (fun h=>?_)|refine c9 c_c ?_ ?_|refine c9 c_v ?_ ?_|refine c9 c_vd ?_ ?_|refine c9 d3b ?_ ?_|refine c9 c_h ?_ ?_|refine c9 c_p ?_ ?_|refine c9 c_d ?_ ?_|refine c9 c_sp ?_ ?_|refine c9 c_s ?_ ?_|refine c9 c_val ?_ ?_|refine c9 c_dv ?_ ?_|refine c9 c_sc ?_ ?_|refine c9 c_sb ?_ ?_|refine c9 c_g ?_ ?_|fail)|((first|omega|exact hs0 (by assumption)|exact absurd rfl (by assumption)|(refine nf1 ?_;assumption)|(refine nf2 ?_;assumption));done))
theorem c_way (x y z:Int) (w:Rat) (hh:okH x y z w) (p1 p2 p3:Rat) (hp:okV p1 p2 p3):Ax.Pure Tryz.prog G 173 [hA (x:Rat) (y:Rat) (z:Rat) w,vA p1 p2 p3] (vA ((x:Rat)*(-((c7 (x:Rat) (y:Rat) (z:Rat) p1 p2 p3 - w) / c7 (x:Rat) (y:Rat) (z:Rat) (x:Rat) (y:Rat) (z:Rat)))) ((y:Rat)*(-((c7 (x:Rat) (y:Rat) (z:Rat) p1 p2 p3 - w) / c7 (x:Rat) (y:Rat) (z:Rat) (x:Rat) (y:Rat) (z:Rat)))) ((z:Rat)*(-((c7 (x:Rat) (y:Rat) (z:Rat) p1 p2 p3 - w) / c7 (x:Rat) (y:Rat) (z:Rat) (x:Rat) (y:Rat) (z:Rat))))):=by
  have qx:=a68 hh.1.1
  have qy:=a68 hh.1.2.1
  have qz:=a68 hh.1.2.2
  have qw:=a0z hh.2.2
  obtain ⟨qp1,qp2,qp3⟩:=s9 hp
  have c_val:=c3e x y z w p1 p2 p3 ⟨c8 qx rfl,c8 qy rfl,c8 qz rfl,c8 qw rfl,c8 qp1 rfl,c8 qp2 rfl,c8 qp3 rfl⟩
  have hn:=y6 (d6e hh)
  have c_nn:=a77 (k:=2400) (by decide) x y z x y z qx qy qz qx qy qz
  have qn:=a0e qx qy qz qx qy qz
  have qv:=j9 (a0e qx qy qz qp1 qp2 qp3) qw
  have c_dv:=b3m (c7 (x:Rat) (y:Rat) (z:Rat) p1 p2 p3 - w) (c7 (x:Rat) (y:Rat) (z:Rat) (x:Rat) (y:Rat) (z:Rat)) hn (c8 qv rfl) (c8 qn rfl)
  have qt:=a0b qv qn
  have c_ng:=d5a _ (c8 qt rfl)
  have c_sc:=a3x x y z _ ⟨c8 qx rfl,c8 qy rfl,c8 qz rfl,c8 (c9w qt) rfl⟩
  refine r8 Tryz.func173 rfl Tryz.ntmps173 ?_
  intro w0 E0 hc
  repeat' (first|refine n7 hc Tryz.results173 ?_|(with_reducible first|exact trivial|refine j3 ?_ ?_|refine m8 (fun h=>?_)|refine c9 c_val ?_ ?_|refine c9 c_nn ?_ ?_|refine c9 c_dv ?_ ?_|refine c9 c_ng ?_ ?_|refine c9 c_sc ?_ ?_|fail)|(omega;done))
theorem Q_way {x y z:Int} {w p1 p2 p3:Rat} (hh:okH x y z w) (hp:okV p1 p2 p3):Q 60000 ((x:Rat)*(-((c7 (x:Rat) (y:Rat) (z:Rat) p1 p2 p3 - w) / c7 (x:Rat) (y:Rat) (z:Rat) (x:Rat) (y:Rat) (z:Rat))))∧Q 60000 ((y:Rat)*(-((c7 (x:Rat) (y:Rat) (z:Rat) p1 p2 p3 - w) / c7 (x:Rat) (y:Rat) (z:Rat) (x:Rat) (y:Rat) (z:Rat))))∧Q 60000 ((z:Rat)*(-((c7 (x:Rat) (y:Rat) (z:Rat) p1 p2 p3 - w) / c7 (x:Rat) (y:Rat) (z:Rat) (x:Rat) (y:Rat) (z:Rat)))):=by
  have qx:=a68 hh.1.1
  have qy:=a68 hh.1.2.1
  have qz:=a68 hh.1.2.2
  have qw:=a0z hh.2.2
  obtain ⟨qp1,qp2,qp3⟩:=s9 hp
  have qt:=c9w (a0b (j9 (a0e qx qy qz qp1 qp2 qp3) qw) (a0e qx qy qz qx qy qz))
  exact ⟨j4 (c6 qx qt) rfl,j4 (c6 qy qt) rfl,j4 (c6 qz qt) rfl⟩
theorem d3c (x y z:Int) (w:Rat) (hh:okH x y z w) (p1 p2 p3:Rat) (hp:okV p1 p2 p3) (f:FuncId) (r1 r2 r3:Rat) (qr:Q 200000 r1∧Q 200000 r2∧Q 200000 r3) (c_mk:Ax.Pure Tryz.prog G f [vA p1 p2 p3,vA ((x:Rat)*(-((c7 (x:Rat) (y:Rat) (z:Rat) p1 p2 p3 - w) / c7 (x:Rat) (y:Rat) (z:Rat) (x:Rat) (y:Rat) (z:Rat)))) ((y:Rat)*(-((c7 (x:Rat) (y:Rat) (z:Rat) p1 p2 p3 - w) / c7 (x:Rat) (y:Rat) (z:Rat) (x:Rat) (y:Rat) (z:Rat)))) ((z:Rat)*(-((c7 (x:Rat) (y:Rat) (z:Rat) p1 p2 p3 - w) / c7 (x:Rat) (y:Rat) (z:Rat) (x:Rat) (y:Rat) (z:Rat))))] (vA r1 r2 r3)):Ax.Pure Tryz.prog G 171 [tH x y z (c5 w),tV (c5 p1) (c5 p2) (c5 p3),.one (.fn (.func f) [] [])] (.tup [tV (txl (a1i (r1) (r2) (r3)) (r1)) (txl (a1i (r1) (r2) (r3)) (r2)) (txl (a1i (r1) (r2) (r3)) (r3)),N (exl (a1i (r1) (r2) (r3)))]):=by
  have c_c:=c4r hh
  have c_h:=b0j hh
  have c_v:=b68 hp
  have c_p:=a34 hp
  have c_w:=c_way x y z w hh p1 p2 p3 hp
  have c_g:=b6k (k:=200000) (by decide) r1 r2 r3 qr
  refine r8 Tryz.func171 rfl Tryz.ntmps171 ?_
  intro w0 E0 hc
  repeat' (first|refine n7 hc Tryz.results171 ?_|(with_reducible first|exact trivial|refine j3 ?_ ?_|refine m8 (fun h=>?_)|refine c9 c_c ?_ ?_|refine c9 c_v ?_ ?_|refine c9 a5f ?_ ?_|refine c9 c_h ?_ ?_|refine c9 c_p ?_ ?_|refine c9 c_w ?_ ?_|refine c9 c_mk ?_ ?_|refine c9 c_g ?_ ?_|fail)|((first|omega|exact absurd rfl (by assumption)|(refine nf1 ?_;assumption)|(refine nf2 ?_;assumption));done))
theorem d5n (p1 p2 p3 w1 w2 w3:Rat) (qp1:Q 2400 p1) (qp2:Q 2400 p2) (qp3:Q 2400 p3) (g1:Q 60000 w1) (g2:Q 60000 w2) (g3:Q 60000 w3):Ax.Pure Tryz.prog G 174 [vA p1 p2 p3,vA w1 w2 w3] (vA (p1+w1+w1) (p2+w2+w2) (p3+w3+w3)):=by
  have c_1:=b3o p1 p2 p3 w1 w2 w3 ⟨c8 qp1 rfl,c8 qp2 rfl,c8 qp3 rfl,c8 g1 rfl,c8 g2 rfl,c8 g3 rfl⟩
  have c_2:=b3o (p1+w1) (p2+w2) (p3+w3) w1 w2 w3 ⟨c8 (f0 qp1 g1) rfl,c8 (f0 qp2 g2) rfl,c8 (f0 qp3 g3) rfl,c8 g1 rfl,c8 g2 rfl,c8 g3 rfl⟩
  refine r8 Tryz.func174 rfl Tryz.ntmps174 ?_
  intro w0 E0 hc
  repeat' (first|refine n7 hc Tryz.results174 ?_|(with_reducible first|exact trivial|refine j3 ?_ ?_|refine m8 (fun h=>?_)|refine c9 c_1 ?_ ?_|refine c9 c_2 ?_ ?_|fail)|(omega;done))
theorem d60 (x y z:Int) (w:Rat) (hh:okH x y z w) (p1 p2 p3:Rat) (hp:okV p1 p2 p3):Ax.Pure Tryz.prog G 48 [tH x y z (c5 w),tV (c5 p1) (c5 p2) (c5 p3)] (.tup [tV (txl (a1i (p1+(x:Rat)*(-((c7 (x:Rat) (y:Rat) (z:Rat) p1 p2 p3 - w) / c7 (x:Rat) (y:Rat) (z:Rat) (x:Rat) (y:Rat) (z:Rat)))+(x:Rat)*(-((c7 (x:Rat) (y:Rat) (z:Rat) p1 p2 p3 - w) / c7 (x:Rat) (y:Rat) (z:Rat) (x:Rat) (y:Rat) (z:Rat)))) (p2+(y:Rat)*(-((c7 (x:Rat) (y:Rat) (z:Rat) p1 p2 p3 - w) / c7 (x:Rat) (y:Rat) (z:Rat) (x:Rat) (y:Rat) (z:Rat)))+(y:Rat)*(-((c7 (x:Rat) (y:Rat) (z:Rat) p1 p2 p3 - w) / c7 (x:Rat) (y:Rat) (z:Rat) (x:Rat) (y:Rat) (z:Rat)))) (p3+(z:Rat)*(-((c7 (x:Rat) (y:Rat) (z:Rat) p1 p2 p3 - w) / c7 (x:Rat) (y:Rat) (z:Rat) (x:Rat) (y:Rat) (z:Rat)))+(z:Rat)*(-((c7 (x:Rat) (y:Rat) (z:Rat) p1 p2 p3 - w) / c7 (x:Rat) (y:Rat) (z:Rat) (x:Rat) (y:Rat) (z:Rat))))) (p1+(x:Rat)*(-((c7 (x:Rat) (y:Rat) (z:Rat) p1 p2 p3 - w) / c7 (x:Rat) (y:Rat) (z:Rat) (x:Rat) (y:Rat) (z:Rat)))+(x:Rat)*(-((c7 (x:Rat) (y:Rat) (z:Rat) p1 p2 p3 - w) / c7 (x:Rat) (y:Rat) (z:Rat) (x:Rat) (y:Rat) (z:Rat))))) (txl (a1i (p1+(x:Rat)*(-((c7 (x:Rat) (y:Rat) (z:Rat) p1 p2 p3 - w) / c7 (x:Rat) (y:Rat) (z:Rat) (x:Rat) (y:Rat) (z:Rat)))+(x:Rat)*(-((c7 (x:Rat) (y:Rat) (z:Rat) p1 p2 p3 - w) / c7 (x:Rat) (y:Rat) (z:Rat) (x:Rat) (y:Rat) (z:Rat)))) (p2+(y:Rat)*(-((c7 (x:Rat) (y:Rat) (z:Rat) p1 p2 p3 - w) / c7 (x:Rat) (y:Rat) (z:Rat) (x:Rat) (y:Rat) (z:Rat)))+(y:Rat)*(-((c7 (x:Rat) (y:Rat) (z:Rat) p1 p2 p3 - w) / c7 (x:Rat) (y:Rat) (z:Rat) (x:Rat) (y:Rat) (z:Rat)))) (p3+(z:Rat)*(-((c7 (x:Rat) (y:Rat) (z:Rat) p1 p2 p3 - w) / c7 (x:Rat) (y:Rat) (z:Rat) (x:Rat) (y:Rat) (z:Rat)))+(z:Rat)*(-((c7 (x:Rat) (y:Rat) (z:Rat) p1 p2 p3 - w) / c7 (x:Rat) (y:Rat) (z:Rat) (x:Rat) (y:Rat) (z:Rat))))) (p2+(y:Rat)*(-((c7 (x:Rat) (y:Rat) (z:Rat) p1 p2 p3 - w) / c7 (x:Rat) (y:Rat) (z:Rat) (x:Rat) (y:Rat) (z:Rat)))+(y:Rat)*(-((c7 (x:Rat) (y:Rat) (z:Rat) p1 p2 p3 - w) / c7 (x:Rat) (y:Rat) (z:Rat) (x:Rat) (y:Rat) (z:Rat))))) (txl (a1i (p1+(x:Rat)*(-((c7 (x:Rat) (y:Rat) (z:Rat) p1 p2 p3 - w) / c7 (x:Rat) (y:Rat) (z:Rat) (x:Rat) (y:Rat) (z:Rat)))+(x:Rat)*(-((c7 (x:Rat) (y:Rat) (z:Rat) p1 p2 p3 - w) / c7 (x:Rat) (y:Rat) (z:Rat) (x:Rat) (y:Rat) (z:Rat)))) (p2+(y:Rat)*(-((c7 (x:Rat) (y:Rat) (z:Rat) p1 p2 p3 - w) / c7 (x:Rat) (y:Rat) (z:Rat) (x:Rat) (y:Rat) (z:Rat)))+(y:Rat)*(-((c7 (x:Rat) (y:Rat) (z:Rat) p1 p2 p3 - w) / c7 (x:Rat) (y:Rat) (z:Rat) (x:Rat) (y:Rat) (z:Rat)))) (p3+(z:Rat)*(-((c7 (x:Rat) (y:Rat) (z:Rat) p1 p2 p3 - w) / c7 (x:Rat) (y:Rat) (z:Rat) (x:Rat) (y:Rat) (z:Rat)))+(z:Rat)*(-((c7 (x:Rat) (y:Rat) (z:Rat) p1 p2 p3 - w) / c7 (x:Rat) (y:Rat) (z:Rat) (x:Rat) (y:Rat) (z:Rat))))) (p3+(z:Rat)*(-((c7 (x:Rat) (y:Rat) (z:Rat) p1 p2 p3 - w) / c7 (x:Rat) (y:Rat) (z:Rat) (x:Rat) (y:Rat) (z:Rat)))+(z:Rat)*(-((c7 (x:Rat) (y:Rat) (z:Rat) p1 p2 p3 - w) / c7 (x:Rat) (y:Rat) (z:Rat) (x:Rat) (y:Rat) (z:Rat))))),N (exl (a1i (p1+(x:Rat)*(-((c7 (x:Rat) (y:Rat) (z:Rat) p1 p2 p3 - w) / c7 (x:Rat) (y:Rat) (z:Rat) (x:Rat) (y:Rat) (z:Rat)))+(x:Rat)*(-((c7 (x:Rat) (y:Rat) (z:Rat) p1 p2 p3 - w) / c7 (x:Rat) (y:Rat) (z:Rat) (x:Rat) (y:Rat) (z:Rat)))) (p2+(y:Rat)*(-((c7 (x:Rat) (y:Rat) (z:Rat) p1 p2 p3 - w) / c7 (x:Rat) (y:Rat) (z:Rat) (x:Rat) (y:Rat) (z:Rat)))+(y:Rat)*(-((c7 (x:Rat) (y:Rat) (z:Rat) p1 p2 p3 - w) / c7 (x:Rat) (y:Rat) (z:Rat) (x:Rat) (y:Rat) (z:Rat)))) (p3+(z:Rat)*(-((c7 (x:Rat) (y:Rat) (z:Rat) p1 p2 p3 - w) / c7 (x:Rat) (y:Rat) (z:Rat) (x:Rat) (y:Rat) (z:Rat)))+(z:Rat)*(-((c7 (x:Rat) (y:Rat) (z:Rat) p1 p2 p3 - w) / c7 (x:Rat) (y:Rat) (z:Rat) (x:Rat) (y:Rat) (z:Rat))))))]):=by
  obtain ⟨qp1,qp2,qp3⟩:=s9 hp
  obtain ⟨g1,g2,g3⟩:=Q_way hh hp
  have c_t:=d3c x y z w hh p1 p2 p3 hp
  generalize (x:Rat)*(-((c7 (x:Rat) (y:Rat) (z:Rat) p1 p2 p3 - w) / c7 (x:Rat) (y:Rat) (z:Rat) (x:Rat) (y:Rat) (z:Rat)))=w1 at *
  generalize (y:Rat)*(-((c7 (x:Rat) (y:Rat) (z:Rat) p1 p2 p3 - w) / c7 (x:Rat) (y:Rat) (z:Rat) (x:Rat) (y:Rat) (z:Rat)))=w2 at *
  generalize (z:Rat)*(-((c7 (x:Rat) (y:Rat) (z:Rat) p1 p2 p3 - w) / c7 (x:Rat) (y:Rat) (z:Rat) (x:Rat) (y:Rat) (z:Rat)))=w3 at *
  have c_t:=c_t 174 (p1+w1+w1) (p2+w2+w2) (p3+w3+w3) ⟨j4 (f0 (f0 qp1 g1) g1) rfl,j4 (f0 (f0 qp2 g2) g2) rfl,j4 (f0 (f0 qp3 g3) g3) rfl⟩ (d5n p1 p2 p3 w1 w2 w3 qp1 qp2 qp3 g1 g2 g3)
  refine r8 Tryz.func48 rfl Tryz.ntmps48 ?_
  intro w0 E0 hc
  repeat' (first|refine n7 hc Tryz.results48 ?_|(with_reducible first|exact trivial|refine j3 ?_ ?_|refine m8 (fun h=>?_)|refine c9 c_t ?_ ?_|fail)|(omega;done))
end Go.Proofs
end
