/- Lemmas on the program and its library: part ZW33. -/
import Derived.Test.YtoiejgkkcfkliaaGreatDoorZW32
set_option linter.unusedVariables false
set_option linter.unusedSimpArgs false
section
set_option maxHeartbeats 4000000
set_option maxRecDepth 100000
namespace Go.Proofs
open Go.Ax
theorem c_giveH2 {k kd:Nat} (hk:k≤1000000) (hkd:kd+((3*k+1)+(k+3*k+1))≤1000000) (hkk:kd≤1000000) (a b c d:Rat) (h0:¬(a=0∧b=0∧c=0)) (ha:Q k a) (hb:Q k b) (hc:Q k c) (hd:Q kd d) (h:hOk a b c d):Ax.Pure Tryz.prog G 144 [hA a b c d] (.tup [hT a b c d,N 0]):=
  c_giveHalf hkd a b c d _ _ _ _ (c_Normal (k:=max k kd) (by omega) a b c d h0 (Q_mono ha (by omega)) (Q_mono hb (by omega)) (Q_mono hc (by omega)) (Q_mono hd (by omega))) (Q_mul hd (Q_nrm ha hb hc)) h
theorem ph_ne {x1 x2 x3 y1 y2 y3 z1 z2 z3 a b c:Rat} (hx:dot3 x1 x2 x3 x1 x2 x3≠0) (hy:dot3 y1 y2 y3 y1 y2 y3≠0) (hz:dot3 z1 z2 z3 z1 z2 z3≠0) (ho:orth x1 x2 x3 y1 y2 y3 z1 z2 z3) (h:¬(a=0∧b=0∧c=0)):¬((phN x1 x2 x3 y1 y2 y3 z1 z2 z3 a b c).1=0∧(phN x1 x2 x3 y1 y2 y3 z1 z2 z3 a b c).2.1=0∧(phN x1 x2 x3 y1 y2 y3 z1 z2 z3 a b c).2.2=0):=by
  rintro ⟨h1,h2,h3⟩
  obtain ⟨o1,o2,o3⟩:=ho
  unfold phN at h1 h2 h3
  unfold dot3 at *
  dsimp only at h1 h2 h3
  apply h
  refine ⟨?_,?_,?_⟩<;> grind
theorem s_PlaceHalf (o1 o2 o3 x1 x2 x3 y1 y2 y3 z1 z2 z3:Rat) (hF:okF o1 o2 o3 x1 x2 x3 y1 y2 y3 z1 z2 z3) (m n l:Int) (w:Rat) (hh:okH m n l w) (hk:hOk (phN x1 x2 x3 y1 y2 y3 z1 z2 z3 (m:Rat) (n:Rat) (l:Rat)).1 (phN x1 x2 x3 y1 y2 y3 z1 z2 z3 (m:Rat) (n:Rat) (l:Rat)).2.1 (phN x1 x2 x3 y1 y2 y3 z1 z2 z3 (m:Rat) (n:Rat) (l:Rat)).2.2 (w+dot3 (phN x1 x2 x3 y1 y2 y3 z1 z2 z3 (m:Rat) (n:Rat) (l:Rat)).1 (phN x1 x2 x3 y1 y2 y3 z1 z2 z3 (m:Rat) (n:Rat) (l:Rat)).2.1 (phN x1 x2 x3 y1 y2 y3 z1 z2 z3 (m:Rat) (n:Rat) (l:Rat)).2.2 o1 o2 o3)):Ax.Pure Tryz.prog G 28 [tF (ratL o1) (ratL o2) (ratL o3) (ratL x1) (ratL x2) (ratL x3) (ratL y1) (ratL y2) (ratL y3) (ratL z1) (ratL z2) (ratL z3),tH m n l (ratL w)] (.tup [hT (phN x1 x2 x3 y1 y2 y3 z1 z2 z3 (m:Rat) (n:Rat) (l:Rat)).1 (phN x1 x2 x3 y1 y2 y3 z1 z2 z3 (m:Rat) (n:Rat) (l:Rat)).2.1 (phN x1 x2 x3 y1 y2 y3 z1 z2 z3 (m:Rat) (n:Rat) (l:Rat)).2.2 (w+dot3 (phN x1 x2 x3 y1 y2 y3 z1 z2 z3 (m:Rat) (n:Rat) (l:Rat)).1 (phN x1 x2 x3 y1 y2 y3 z1 z2 z3 (m:Rat) (n:Rat) (l:Rat)).2.1 (phN x1 x2 x3 y1 y2 y3 z1 z2 z3 (m:Rat) (n:Rat) (l:Rat)).2.2 o1 o2 o3),N 0]):=by
  obtain ⟨hx0,hy0,hz0,hor,hdt⟩:=axE_zero hF.2.2.2.2
  have c_c:=s_chkF hF
  have c_F:=s_FromFrame hF
  obtain ⟨⟨qo1,qo2,qo3⟩,⟨qx1,qx2,qx3⟩,⟨qy1,qy2,qy3⟩,⟨qz1,qz2,qz3⟩⟩:(Q 2400 o1∧Q 2400 o2∧Q 2400 o3)∧(Q 2400 x1∧Q 2400 x2∧Q 2400 x3)∧(Q 2400 y1∧Q 2400 y2∧Q 2400 y3)∧Q 2400 z1∧Q 2400 z2∧Q 2400 z3:=⟨okV_Q hF.1,okV_Q hF.2.1,okV_Q hF.2.2.1,okV_Q hF.2.2.2.1⟩
  have c_hc:=s_chkH hh
  have c_h:=s_FromHalf hh
  have h0:=okH_ne hh
  have qm:=okI_Q hh.1.1
  have qn:=okI_Q hh.1.2.1
  have ql:=okI_Q hh.1.2.2
  have qw:=bigQ_Q hh.2.2
  have c_ph:=c_VPlaceHalf o1 o2 o3 x1 x2 x3 y1 y2 y3 z1 z2 z3 (m:Rat) (n:Rat) (l:Rat) w (dot_pos hx0) (dot_pos hy0) (dot_pos hz0) ⟨rz_of qo1 rfl,rz_of qo2 rfl,rz_of qo3 rfl,rz_of qx1 rfl,rz_of qx2 rfl,rz_of qx3 rfl,rz_of qy1 rfl,rz_of qy2 rfl,rz_of qy3 rfl,rz_of qz1 rfl,rz_of qz2 rfl,rz_of qz3 rfl,rz_of qm rfl,rz_of qn rfl,rz_of ql rfl,rz_of qw rfl⟩
  have p0:=ph_ne (dot_pos hx0) (dot_pos hy0) (dot_pos hz0) hor h0
  have p1:Q 60000 (phN x1 x2 x3 y1 y2 y3 z1 z2 z3 (m:Rat) (n:Rat) (l:Rat)).1:=Q_of (Q_add (Q_add (Q_mul qx1 (Q_div qm (Q_add (Q_add (Q_mul qx1 qx1) (Q_mul qx2 qx2)) (Q_mul qx3 qx3)))) (Q_mul qy1 (Q_div qn (Q_add (Q_add (Q_mul qy1 qy1) (Q_mul qy2 qy2)) (Q_mul qy3 qy3))))) (Q_mul qz1 (Q_div ql (Q_add (Q_add (Q_mul qz1 qz1) (Q_mul qz2 qz2)) (Q_mul qz3 qz3))))) rfl
  have p2:Q 60000 (phN x1 x2 x3 y1 y2 y3 z1 z2 z3 (m:Rat) (n:Rat) (l:Rat)).2.1:=Q_of (Q_add (Q_add (Q_mul qx2 (Q_div qm (Q_add (Q_add (Q_mul qx1 qx1) (Q_mul qx2 qx2)) (Q_mul qx3 qx3)))) (Q_mul qy2 (Q_div qn (Q_add (Q_add (Q_mul qy1 qy1) (Q_mul qy2 qy2)) (Q_mul qy3 qy3))))) (Q_mul qz2 (Q_div ql (Q_add (Q_add (Q_mul qz1 qz1) (Q_mul qz2 qz2)) (Q_mul qz3 qz3))))) rfl
  have p3:Q 60000 (phN x1 x2 x3 y1 y2 y3 z1 z2 z3 (m:Rat) (n:Rat) (l:Rat)).2.2:=Q_of (Q_add (Q_add (Q_mul qx3 (Q_div qm (Q_add (Q_add (Q_mul qx1 qx1) (Q_mul qx2 qx2)) (Q_mul qx3 qx3)))) (Q_mul qy3 (Q_div qn (Q_add (Q_add (Q_mul qy1 qy1) (Q_mul qy2 qy2)) (Q_mul qy3 qy3))))) (Q_mul qz3 (Q_div ql (Q_add (Q_add (Q_mul qz1 qz1) (Q_mul qz2 qz2)) (Q_mul qz3 qz3))))) rfl
  generalize (phN x1 x2 x3 y1 y2 y3 z1 z2 z3 (m:Rat) (n:Rat) (l:Rat)).1=r1 at *
  generalize (phN x1 x2 x3 y1 y2 y3 z1 z2 z3 (m:Rat) (n:Rat) (l:Rat)).2.1=r2 at *
  generalize (phN x1 x2 x3 y1 y2 y3 z1 z2 z3 (m:Rat) (n:Rat) (l:Rat)).2.2=r3 at *
  have c_g:=c_giveH2 (k:=60000) (kd:=200000) (by decide) (by decide) (by decide) r1 r2 r3 (w+dot3 r1 r2 r3 o1 o2 o3) p0 p1 p2 p3 (Q_of (Q_add qw (Q_add (Q_add (Q_mul p1 qo1) (Q_mul p2 qo2)) (Q_mul p3 qo3))) rfl) hk
  refine zen Tryz.func28 rfl Tryz.ntmps28 ?_
  intro w0 E0 hc
  repeat' (first|refine zR1 hc Tryz.results28 ?_|(with_reducible first|exact trivial|refine zan ?_ ?_|refine zim (fun h=>?_)|refine zoc c_c ?_ ?_|refine zoc c_hc ?_ ?_|refine zoc s_first20 ?_ ?_|refine zoc c_F ?_ ?_|refine zoc c_h ?_ ?_|refine zoc c_ph ?_ ?_|refine zoc c_g ?_ ?_|fail)|((first|omega|exact absurd rfl (by assumption)|(refine nf1 ?_;assumption)|(refine nf2 ?_;assumption));done))
end Go.Proofs
end
