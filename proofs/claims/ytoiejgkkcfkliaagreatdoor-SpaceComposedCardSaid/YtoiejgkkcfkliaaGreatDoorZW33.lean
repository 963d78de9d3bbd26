/- Lemmas on the program and its library: part ZW33. -/
import Derived.Test.YtoiejgkkcfkliaaGreatDoorZW32
set_option linter.unusedVariables false
set_option linter.unusedSimpArgs false
section
set_option maxHeartbeats 4000000
set_option maxRecDepth 100000
namespace Go.Proofs
open Go.Ax
theorem d5l {k kd:Nat} (hk:k≤1000000) (hkd:kd+((3*k+1)+(k+3*k+1))≤1000000) (hkk:kd≤1000000) (a b c d:Rat) (h0:¬(a=0∧b=0∧c=0)) (ha:Q k a) (hb:Q k b) (hc:Q k c) (hd:Q kd d) (h:hOk a b c d):Ax.Pure Tryz.prog G 144 [hA a b c d] (.tup [hT a b c d,N 0]):=
  b9j hkd a b c d _ _ _ _ (c5z (k:=max k kd) (by omega) a b c d h0 (a07 ha (by omega)) (a07 hb (by omega)) (a07 hc (by omega)) (a07 hd (by omega))) (c6 hd (d9y ha hb hc)) h
theorem ph_ne {x1 x2 x3 y1 y2 y3 z1 z2 z3 a b c:Rat} (hx:c7 x1 x2 x3 x1 x2 x3≠0) (hy:c7 y1 y2 y3 y1 y2 y3≠0) (hz:c7 z1 z2 z3 z1 z2 z3≠0) (ho:b6z x1 x2 x3 y1 y2 y3 z1 z2 z3) (h:¬(a=0∧b=0∧c=0)):¬((phN x1 x2 x3 y1 y2 y3 z1 z2 z3 a b c).1=0∧(phN x1 x2 x3 y1 y2 y3 z1 z2 z3 a b c).2.1=0∧(phN x1 x2 x3 y1 y2 y3 z1 z2 z3 a b c).2.2=0):=by
  rintro ⟨h1,h2,h3⟩
  obtain ⟨o1,o2,o3⟩:=ho
  unfold phN at h1 h2 h3
  unfold c7 at *
  dsimp only at h1 h2 h3
  apply h
  refine ⟨?_,?_,?_⟩<;> grind
theorem c7c (o1 o2 o3 x1 x2 x3 y1 y2 y3 z1 z2 z3:Rat) (hF:okF o1 o2 o3 x1 x2 x3 y1 y2 y3 z1 z2 z3) (m n l:Int) (w:Rat) (hh:okH m n l w) (hk:hOk (phN x1 x2 x3 y1 y2 y3 z1 z2 z3 (m:Rat) (n:Rat) (l:Rat)).1 (phN x1 x2 x3 y1 y2 y3 z1 z2 z3 (m:Rat) (n:Rat) (l:Rat)).2.1 (phN x1 x2 x3 y1 y2 y3 z1 z2 z3 (m:Rat) (n:Rat) (l:Rat)).2.2 (w+c7 (phN x1 x2 x3 y1 y2 y3 z1 z2 z3 (m:Rat) (n:Rat) (l:Rat)).1 (phN x1 x2 x3 y1 y2 y3 z1 z2 z3 (m:Rat) (n:Rat) (l:Rat)).2.1 (phN x1 x2 x3 y1 y2 y3 z1 z2 z3 (m:Rat) (n:Rat) (l:Rat)).2.2 o1 o2 o3)):Ax.Pure Tryz.prog G 28 [tF (c5 o1) (c5 o2) (c5 o3) (c5 x1) (c5 x2) (c5 x3) (c5 y1) (c5 y2) (c5 y3) (c5 z1) (c5 z2) (c5 z3),tH m n l (c5 w)] (.tup [hT (phN x1 x2 x3 y1 y2 y3 z1 z2 z3 (m:Rat) (n:Rat) (l:Rat)).1 (phN x1 x2 x3 y1 y2 y3 z1 z2 z3 (m:Rat) (n:Rat) (l:Rat)).2.1 (phN x1 x2 x3 y1 y2 y3 z1 z2 z3 (m:Rat) (n:Rat) (l:Rat)).2.2 (w+c7 (phN x1 x2 x3 y1 y2 y3 z1 z2 z3 (m:Rat) (n:Rat) (l:Rat)).1 (phN x1 x2 x3 y1 y2 y3 z1 z2 z3 (m:Rat) (n:Rat) (l:Rat)).2.1 (phN x1 x2 x3 y1 y2 y3 z1 z2 z3 (m:Rat) (n:Rat) (l:Rat)).2.2 o1 o2 o3),N 0]):=by
  obtain ⟨hx0,hy0,hz0,hor,hdt⟩:=a2t hF.2.2.2.2
  have c_c:=b1s hF
  have c_F:=a2m hF
  obtain ⟨⟨qo1,qo2,qo3⟩,⟨qx1,qx2,qx3⟩,⟨qy1,qy2,qy3⟩,⟨qz1,qz2,qz3⟩⟩:(Q 2400 o1∧Q 2400 o2∧Q 2400 o3)∧(Q 2400 x1∧Q 2400 x2∧Q 2400 x3)∧(Q 2400 y1∧Q 2400 y2∧Q 2400 y3)∧Q 2400 z1∧Q 2400 z2∧Q 2400 z3:=⟨s9 hF.1,s9 hF.2.1,s9 hF.2.2.1,s9 hF.2.2.2.1⟩
  have c_hc:=c4r hh
  have c_h:=b0j hh
  have h0:=d6e hh
  have qm:=a68 hh.1.1
  have qn:=a68 hh.1.2.1
  have ql:=a68 hh.1.2.2
  have qw:=a0z hh.2.2
  have c_ph:=c3c o1 o2 o3 x1 x2 x3 y1 y2 y3 z1 z2 z3 (m:Rat) (n:Rat) (l:Rat) w (y6 hx0) (y6 hy0) (y6 hz0) ⟨c8 qo1 rfl,c8 qo2 rfl,c8 qo3 rfl,c8 qx1 rfl,c8 qx2 rfl,c8 qx3 rfl,c8 qy1 rfl,c8 qy2 rfl,c8 qy3 rfl,c8 qz1 rfl,c8 qz2 rfl,c8 qz3 rfl,c8 qm rfl,c8 qn rfl,c8 ql rfl,c8 qw rfl⟩
  have p0:=ph_ne (y6 hx0) (y6 hy0) (y6 hz0) hor h0
  have p1:Q 60000 (phN x1 x2 x3 y1 y2 y3 z1 z2 z3 (m:Rat) (n:Rat) (l:Rat)).1:=j4 (f0 (f0 (c6 qx1 (a0b qm (f0 (f0 (c6 qx1 qx1) (c6 qx2 qx2)) (c6 qx3 qx3)))) (c6 qy1 (a0b qn (f0 (f0 (c6 qy1 qy1) (c6 qy2 qy2)) (c6 qy3 qy3))))) (c6 qz1 (a0b ql (f0 (f0 (c6 qz1 qz1) (c6 qz2 qz2)) (c6 qz3 qz3))))) rfl
  have p2:Q 60000 (phN x1 x2 x3 y1 y2 y3 z1 z2 z3 (m:Rat) (n:Rat) (l:Rat)).2.1:=j4 (f0 (f0 (c6 qx2 (a0b qm (f0 (f0 (c6 qx1 qx1) (c6 qx2 qx2)) (c6 qx3 qx3)))) (c6 qy2 (a0b qn (f0 (f0 (c6 qy1 qy1) (c6 qy2 qy2)) (c6 qy3 qy3))))) (c6 qz2 (a0b ql (f0 (f0 (c6 qz1 qz1) (c6 qz2 qz2)) (c6 qz3 qz3))))) rfl
  have p3:Q 60000 (phN x1 x2 x3 y1 y2 y3 z1 z2 z3 (m:Rat) (n:Rat) (l:Rat)).2.2:=j4 (f0 (f0 (c6 qx3 (a0b qm (f0 (f0 (c6 qx1 qx1) (c6 qx2 qx2)) (c6 qx3 qx3)))) (c6 qy3 (a0b qn (f0 (f0 (c6 qy1 qy1) (c6 qy2 qy2)) (c6 qy3 qy3))))) (c6 qz3 (a0b ql (f0 (f0 (c6 qz1 qz1) (c6 qz2 qz2)) (c6 qz3 qz3))))) rfl
  generalize (phN x1 x2 x3 y1 y2 y3 z1 z2 z3 (m:Rat) (n:Rat) (l:Rat)).1=r1 at *
  generalize (phN x1 x2 x3 y1 y2 y3 z1 z2 z3 (m:Rat) (n:Rat) (l:Rat)).2.1=r2 at *
  generalize (phN x1 x2 x3 y1 y2 y3 z1 z2 z3 (m:Rat) (n:Rat) (l:Rat)).2.2=r3 at *
  have c_g:=d5l (k:=60000) (kd:=200000) (by decide) (by decide) (by decide) r1 r2 r3 (w+c7 r1 r2 r3 o1 o2 o3) p0 p1 p2 p3 (j4 (f0 qw (f0 (f0 (c6 p1 qo1) (c6 p2 qo2)) (c6 p3 qo3))) rfl) hk
  refine r8 Tryz.func28 rfl Tryz.ntmps28 ?_
  intro w0 E0 hc
  repeat' (first|refine n7 hc Tryz.results28 ?_|(with_reducible first|exact trivial|refine j3 ?_ ?_|refine m8 (fun h=>?_)|refine c9 c_c ?_ ?_|refine c9 c_hc ?_ ?_|refine c9 a5f ?_ ?_|refine c9 c_F ?_ ?_|refine c9 c_h ?_ ?_|refine c9 c_ph ?_ ?_|refine c9 c_g ?_ ?_|fail)|((first|omega|exact absurd rfl (by assumption)|(refine nf1 ?_;assumption)|(refine nf2 ?_;assumption));done))
end Go.Proofs
end
