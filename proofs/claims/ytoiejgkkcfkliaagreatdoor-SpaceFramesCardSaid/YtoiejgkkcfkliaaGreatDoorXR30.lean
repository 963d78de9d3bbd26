/- Lemmas on the program and its library: part XR30. -/
import Derived.Test.YtoiejgkkcfkliaaGreatDoorXW32
set_option linter.unusedVariables false
set_option linter.unusedSimpArgs false
section
set_option maxHeartbeats 4000000
set_option maxRecDepth 100000
namespace Go.Proofs
open Go.Ax
theorem l_short4 (n:Nat) (hn:n≤1000) (a b c d:V3):Ax.Pure Tryz.prog G 36 [N n,.one (.row 3 4 (fun i=> [leafV a,leafV b,leafV c,leafV d].getD i []))] (Bo (shVs n [a,b,c,d])):=
  pure_args (l_short n 4 [a,b,c,d] rfl hn (show 4≤1000000 by decide)) ⟨Sub.refl _,sub_row_eq (row4_lt rfl rfl rfl rfl),trivial⟩ ⟨trivial,trivial,trivial⟩
theorem l_brief (n:Nat) (hn:n≤1000) (a b c d:V3):Ax.Pure Tryz.prog G 27 [N n,txF a b c d] (Bo (shVs n [a,b,c,d])):=by
  have c_s:=l_short4 n hn a b c d
  refine zen Tryz.func27 rfl Tryz.ntmps27 ?_
  intro w0 E0 hc
  repeat' (first|refine zR1 hc Tryz.results27 ?_|(with_reducible first|exact trivial|refine zan ?_ ?_|refine zim (fun h=>?_)|refine zoc c_s ?_ ?_|fail)|(omega;done))
end Go.Proofs
end
section
set_option maxHeartbeats 4000000
set_option maxRecDepth 100000
namespace Go.Proofs
open Go.Ax
theorem r_Det {k:Nat} (hk:k≤40000) (a1 a2 a3 b1 b2 b3 c1 c2 c3:Rat) (qa:Q k a1∧Q k a2∧Q k a3) (qb:Q k b1∧Q k b2∧Q k b3) (qc:Q k c1∧Q k c2∧Q k c3):Ax.Pure Tryz.prog G 193 [tV (ratL a1) (ratL a2) (ratL a3),tV (ratL b1) (ratL b2) (ratL b3),tV (ratL c1) (ratL c2) (ratL c3)] (S (bs (ratL (dot3 a1 a2 a3 (b2*c3 - b3*c2) (b3*c1 - b1*c3) (b1*c2 - b2*c1))))):=by
  have c_x:=r_Cross (by omega) b1 b2 b3 c1 c2 c3 qb qc
  obtain ⟨qa1,qa2,qa3⟩:=qa
  obtain ⟨qb1,qb2,qb3⟩:=qb
  obtain ⟨qc1,qc2,qc3⟩:=qc
  have x1:=Q_sub (Q_mul qb2 qc3) (Q_mul qb3 qc2)
  have x2:=Q_sub (Q_mul qb3 qc1) (Q_mul qb1 qc3)
  have x3:=Q_sub (Q_mul qb1 qc2) (Q_mul qb2 qc1)
  have c_d:=r_Dot (k:=k+k+(k+k)+1) (by omega) a1 a2 a3 (b2*c3 - b3*c2) (b3*c1 - b1*c3) (b1*c2 - b2*c1) ⟨Q_mono qa1 (by omega),Q_mono qa2 (by omega),Q_mono qa3 (by omega)⟩ ⟨x1,x2,x3⟩
  refine zen Tryz.func193 rfl Tryz.ntmps193 ?_
  intro w0 E0 hc
  repeat' (first|refine zR1 hc Tryz.results193 ?_|(with_reducible first|exact trivial|refine zan ?_ ?_|refine zim (fun h=>?_)|refine zoc c_x ?_ ?_|refine zoc c_d ?_ ?_|fail)|(omega;done))
theorem r_Direct {k:Nat} (hk:k≤100000) (o1 o2 o3 x1 x2 x3 y1 y2 y3 z1 z2 z3 p1 p2 p3:Rat) (qx:Q k x1∧Q k x2∧Q k x3) (qy:Q k y1∧Q k y2∧Q k y3) (qz:Q k z1∧Q k z2∧Q k z3) (qp:Q k p1∧Q k p2∧Q k p3):Ax.Pure Tryz.prog G 151 [tF (ratL o1) (ratL o2) (ratL o3) (ratL x1) (ratL x2) (ratL x3) (ratL y1) (ratL y2) (ratL y3) (ratL z1) (ratL z2) (ratL z3),tV (ratL p1) (ratL p2) (ratL p3)] (tV (ratL (p1*x1+p2*y1+p3*z1)) (ratL (p1*x2+p2*y2+p3*z2)) (ratL (p1*x3+p2*y3+p3*z3))):=by
  have c_x:=r_Scale (k:=k) (by omega) p1 x1 x2 x3 qp.1 qx
  have c_y:=r_Scale (k:=k) (by omega) p2 y1 y2 y3 qp.2.1 qy
  have c_z:=r_Scale (k:=k) (by omega) p3 z1 z2 z3 qp.2.2 qz
  obtain ⟨qx1,qx2,qx3⟩:=qx
  obtain ⟨qy1,qy2,qy3⟩:=qy
  obtain ⟨qz1,qz2,qz3⟩:=qz
  obtain ⟨qp1,qp2,qp3⟩:=qp
  have c_a:=r_AddVec (k:=k+k) (by omega) (p1*x1) (p1*x2) (p1*x3) (p2*y1) (p2*y2) (p2*y3) ⟨Q_mul qp1 qx1,Q_mul qp1 qx2,Q_mul qp1 qx3⟩ ⟨Q_mul qp2 qy1,Q_mul qp2 qy2,Q_mul qp2 qy3⟩
  have c_b:=r_AddVec (k:=k+k+(k+k)+1) (by omega) (p1*x1+p2*y1) (p1*x2+p2*y2) (p1*x3+p2*y3) (p3*z1) (p3*z2) (p3*z3) ⟨Q_add (Q_mul qp1 qx1) (Q_mul qp2 qy1),Q_add (Q_mul qp1 qx2) (Q_mul qp2 qy2),Q_add (Q_mul qp1 qx3) (Q_mul qp2 qy3)⟩ ⟨Q_mono (Q_mul qp3 qz1) (by omega),Q_mono (Q_mul qp3 qz2) (by omega),Q_mono (Q_mul qp3 qz3) (by omega)⟩
  refine zen Tryz.func151 rfl Tryz.ntmps151 ?_
  intro w0 E0 hc
  repeat' (first|refine zR1 hc Tryz.results151 ?_|(with_reducible first|exact trivial|refine zan ?_ ?_|refine zim (fun h=>?_)|refine zoc c_x ?_ ?_|refine zoc c_y ?_ ?_|refine zoc c_z ?_ ?_|refine zoc c_a ?_ ?_|refine zoc c_b ?_ ?_|fail)|(omega;done))
theorem r_Place {k:Nat} (hk:k≤100000) (o1 o2 o3 x1 x2 x3 y1 y2 y3 z1 z2 z3 p1 p2 p3:Rat) (qo:Q k o1∧Q k o2∧Q k o3) (qx:Q k x1∧Q k x2∧Q k x3) (qy:Q k y1∧Q k y2∧Q k y3) (qz:Q k z1∧Q k z2∧Q k z3) (qp:Q k p1∧Q k p2∧Q k p3):Ax.Pure Tryz.prog G 95 [tF (ratL o1) (ratL o2) (ratL o3) (ratL x1) (ratL x2) (ratL x3) (ratL y1) (ratL y2) (ratL y3) (ratL z1) (ratL z2) (ratL z3),tV (ratL p1) (ratL p2) (ratL p3)] (tV (ratL (o1+(p1*x1+p2*y1+p3*z1))) (ratL (o2+(p1*x2+p2*y2+p3*z2))) (ratL (o3+(p1*x3+p2*y3+p3*z3)))):=by
  have c_d:=r_Direct hk o1 o2 o3 x1 x2 x3 y1 y2 y3 z1 z2 z3 p1 p2 p3 qx qy qz qp
  obtain ⟨qo1,qo2,qo3⟩:=qo
  obtain ⟨qx1,qx2,qx3⟩:=qx
  obtain ⟨qy1,qy2,qy3⟩:=qy
  obtain ⟨qz1,qz2,qz3⟩:=qz
  obtain ⟨qp1,qp2,qp3⟩:=qp
  have c_a:=r_AddVec (k:=k+k+(k+k)+1+(k+k)+1) (by omega) o1 o2 o3 (p1*x1+p2*y1+p3*z1) (p1*x2+p2*y2+p3*z2) (p1*x3+p2*y3+p3*z3) ⟨Q_mono qo1 (by omega),Q_mono qo2 (by omega),Q_mono qo3 (by omega)⟩ ⟨Q_add (Q_add (Q_mul qp1 qx1) (Q_mul qp2 qy1)) (Q_mul qp3 qz1),Q_add (Q_add (Q_mul qp1 qx2) (Q_mul qp2 qy2)) (Q_mul qp3 qz2),Q_add (Q_add (Q_mul qp1 qx3) (Q_mul qp2 qy3)) (Q_mul qp3 qz3)⟩
  refine zen Tryz.func95 rfl Tryz.ntmps95 ?_
  intro w0 E0 hc
  repeat' (first|refine zR1 hc Tryz.results95 ?_|(with_reducible first|exact trivial|refine zan ?_ ?_|refine zim (fun h=>?_)|refine zoc c_d ?_ ?_|refine zoc c_a ?_ ?_|fail)|(omega;done))
theorem r_Stretch {k:Nat} (hk:k≤200000) (o1 o2 o3 x1 x2 x3 y1 y2 y3 z1 z2 z3:Rat) (qx:Q k x1∧Q k x2∧Q k x3) (qy:Q k y1∧Q k y2∧Q k y3) (qz:Q k z1∧Q k z2∧Q k z3):Ax.Pure Tryz.prog G 71 [tF (ratL o1) (ratL o2) (ratL o3) (ratL x1) (ratL x2) (ratL x3) (ratL y1) (ratL y2) (ratL y3) (ratL z1) (ratL z2) (ratL z3)] (tV (ratL (dot3 x1 x2 x3 x1 x2 x3)) (ratL (dot3 y1 y2 y3 y1 y2 y3)) (ratL (dot3 z1 z2 z3 z1 z2 z3))):=by
  have c_x:=r_Square hk x1 x2 x3 qx
  have c_y:=r_Square hk y1 y2 y3 qy
  have c_z:=r_Square hk z1 z2 z3 qz
  refine zen Tryz.func71 rfl Tryz.ntmps71 ?_
  intro w0 E0 hc
  repeat' (first|refine zR1 hc Tryz.results71 ?_|(with_reducible first|exact trivial|refine zan ?_ ?_|refine zim (fun h=>?_)|refine zoc c_x ?_ ?_|refine zoc c_y ?_ ?_|refine zoc c_z ?_ ?_|fail)|(omega;done))
theorem r_Local {k:Nat} (hk:k≤20000) (o1 o2 o3 x1 x2 x3 y1 y2 y3 z1 z2 z3 p1 p2 p3:Rat) (hx:dot3 x1 x2 x3 x1 x2 x3≠0) (hy:dot3 y1 y2 y3 y1 y2 y3≠0) (hz:dot3 z1 z2 z3 z1 z2 z3≠0) (qo:Q k o1∧Q k o2∧Q k o3) (qx:Q k x1∧Q k x2∧Q k x3) (qy:Q k y1∧Q k y2∧Q k y3) (qz:Q k z1∧Q k z2∧Q k z3) (qp:Q k p1∧Q k p2∧Q k p3):Ax.Pure Tryz.prog G 96 [tF (ratL o1) (ratL o2) (ratL o3) (ratL x1) (ratL x2) (ratL x3) (ratL y1) (ratL y2) (ratL y3) (ratL z1) (ratL z2) (ratL z3),tV (ratL p1) (ratL p2) (ratL p3)] (tV (ratL (dot3 (p1 - o1) (p2 - o2) (p3 - o3) x1 x2 x3 / dot3 x1 x2 x3 x1 x2 x3)) (ratL (dot3 (p1 - o1) (p2 - o2) (p3 - o3) y1 y2 y3 / dot3 y1 y2 y3 y1 y2 y3)) (ratL (dot3 (p1 - o1) (p2 - o2) (p3 - o3) z1 z2 z3 / dot3 z1 z2 z3 z1 z2 z3))):=by
  have c_s:=r_SubVec (k:=k) (by omega) p1 p2 p3 o1 o2 o3 qp qo
  have c_t:=r_Stretch (k:=k) (by omega) o1 o2 o3 x1 x2 x3 y1 y2 y3 z1 z2 z3 qx qy qz
  obtain ⟨qo1,qo2,qo3⟩:=qo
  obtain ⟨qx1,qx2,qx3⟩:=qx
  obtain ⟨qy1,qy2,qy3⟩:=qy
  obtain ⟨qz1,qz2,qz3⟩:=qz
  obtain ⟨qp1,qp2,qp3⟩:=qp
  have s1:=Q_sub qp1 qo1
  have s2:=Q_sub qp2 qo2
  have s3:=Q_sub qp3 qo3
  have u1:=Q_mono qx1 (show k≤k+k+1 by omega)
  have u2:=Q_mono qx2 (show k≤k+k+1 by omega)
  have u3:=Q_mono qx3 (show k≤k+k+1 by omega)
  have c_dx:=r_Dot (k:=k+k+1) (by omega) (p1 - o1) (p2 - o2) (p3 - o3) x1 x2 x3 ⟨s1,s2,s3⟩ ⟨u1,u2,u3⟩
  have c_vx:=r_Div _ _ hx (Q_dot s1 s2 s3 u1 u2 u3) (Q_dot u1 u2 u3 u1 u2 u3) (by omega)
  clear u1 u2 u3
  have u1:=Q_mono qy1 (show k≤k+k+1 by omega)
  have u2:=Q_mono qy2 (show k≤k+k+1 by omega)
  have u3:=Q_mono qy3 (show k≤k+k+1 by omega)
  have c_dy:=r_Dot (k:=k+k+1) (by omega) (p1 - o1) (p2 - o2) (p3 - o3) y1 y2 y3 ⟨s1,s2,s3⟩ ⟨u1,u2,u3⟩
  have c_vy:=r_Div _ _ hy (Q_dot s1 s2 s3 u1 u2 u3) (Q_dot u1 u2 u3 u1 u2 u3) (by omega)
  clear u1 u2 u3
  have u1:=Q_mono qz1 (show k≤k+k+1 by omega)
  have u2:=Q_mono qz2 (show k≤k+k+1 by omega)
  have u3:=Q_mono qz3 (show k≤k+k+1 by omega)
  have c_dz:=r_Dot (k:=k+k+1) (by omega) (p1 - o1) (p2 - o2) (p3 - o3) z1 z2 z3 ⟨s1,s2,s3⟩ ⟨u1,u2,u3⟩
  have c_vz:=r_Div _ _ hz (Q_dot s1 s2 s3 u1 u2 u3) (Q_dot u1 u2 u3 u1 u2 u3) (by omega)
  clear u1 u2 u3
  refine zen Tryz.func96 rfl Tryz.ntmps96 ?_
  intro w0 E0 hc
  repeat' (first|refine zR1 hc Tryz.results96 ?_|(with_reducible first|exact trivial|refine zan ?_ ?_|refine zim (fun h=>?_)|refine zoc c_s ?_ ?_|refine zoc c_t ?_ ?_|refine zoc c_dx ?_ ?_|refine zoc c_dy ?_ ?_|refine zoc c_dz ?_ ?_|refine zoc c_vx ?_ ?_|refine zoc c_vy ?_ ?_|refine zoc c_vz ?_ ?_|fail)|(omega;done))
theorem r_Shift {k:Nat} (hk:k≤1000000) (o1 o2 o3 x1 x2 x3 y1 y2 y3 z1 z2 z3 p1 p2 p3:Rat) (qo:Q k o1∧Q k o2∧Q k o3) (qp:Q k p1∧Q k p2∧Q k p3):Ax.Pure Tryz.prog G 97 [tF (ratL o1) (ratL o2) (ratL o3) (ratL x1) (ratL x2) (ratL x3) (ratL y1) (ratL y2) (ratL y3) (ratL z1) (ratL z2) (ratL z3),tV (ratL p1) (ratL p2) (ratL p3)] (tF (ratL (o1+p1)) (ratL (o2+p2)) (ratL (o3+p3)) (ratL x1) (ratL x2) (ratL x3) (ratL y1) (ratL y2) (ratL y3) (ratL z1) (ratL z2) (ratL z3)):=by
  have c_a:=r_AddVec hk o1 o2 o3 p1 p2 p3 qo qp
  refine zen Tryz.func97 rfl Tryz.ntmps97 ?_
  intro w0 E0 hc
  repeat' (first|refine zR1 hc Tryz.results97 ?_|(with_reducible first|exact trivial|refine zan ?_ ?_|refine zim (fun h=>?_)|refine zoc c_a ?_ ?_|fail)|(omega;done))
end Go.Proofs
end
section
set_option maxHeartbeats 4000000
set_option maxRecDepth 100000
namespace Go.Proofs
open Go.Ax
theorem det_eq (x1 x2 x3 y1 y2 y3 z1 z2 z3:Rat):dot3 x1 x2 x3 (y2*z3 - y3*z2) (y3*z1 - y1*z3) (y1*z2 - y2*z1)=det3 x1 x2 x3 y1 y2 y3 z1 z2 z3:=by
  unfold det3 dot3;grind
theorem sgQ_pos {q:Rat}:sgQ q≤0↔¬0 < q:=by
  rw [show 0 < q↔0 < q.num by rw [Rat.lt_iff];simp]
  unfold sgQ
  split
  · rename_i h;subst h;decide
  · rename_i h
    have:q.num≠0:=fun e=>h (Rat.num_eq_zero.1 e)
    split <;> omega
theorem r_LargeFrame {k:Nat} (hk:k≤1000000) (o1 o2 o3 x1 x2 x3 y1 y2 y3 z1 z2 z3:Rat) (qo:Q k o1∧Q k o2∧Q k o3) (qx:Q k x1∧Q k x2∧Q k x3) (qy:Q k y1∧Q k y2∧Q k y3) (qz:Q k z1∧Q k z2∧Q k z3):Ax.Pure Tryz.prog G 192 [tF (ratL o1) (ratL o2) (ratL o3) (ratL x1) (ratL x2) (ratL x3) (ratL y1) (ratL y2) (ratL y3) (ratL z1) (ratL z2) (ratL z3)] (N (if bigF o1 o2 o3 x1 x2 x3 y1 y2 y3 z1 z2 z3=true then 4 else 0)):=by
  have c_o:=r_LargeVec hk o1 o2 o3 qo.1 qo.2.1 qo.2.2
  have c_x:=r_LargeVec hk x1 x2 x3 qx.1 qx.2.1 qx.2.2
  have c_y:=r_LargeVec hk y1 y2 y3 qy.1 qy.2.1 qy.2.2
  have c_z:=r_LargeVec hk z1 z2 z3 qz.1 qz.2.1 qz.2.2
  have hb:bigF o1 o2 o3 x1 x2 x3 y1 y2 y3 z1 z2 z3=(bigV o1 o2 o3 || (bigV x1 x2 x3 || (bigV y1 y2 y3 || bigV z1 z2 z3))):=by unfold bigF;simp [Bool.or_assoc]
  rw [hb]
  clear hb
  generalize bigV o1 o2 o3=bo at *
  generalize bigV x1 x2 x3=bx at *
  generalize bigV y1 y2 y3=by' at *
  generalize bigV z1 z2 z3=bz at *
  obtain ⟨eo,ho,hO⟩:∃e:Int,(if bo=true then 4 else 0)=e∧((bo=true∧e=4)∨(bo=false∧e=0)):=⟨_,rfl,by cases bo <;> simp⟩
  obtain ⟨ex,hx,hX⟩:∃e:Int,(if bx=true then 4 else 0)=e∧((bx=true∧e=4)∨(bx=false∧e=0)):=⟨_,rfl,by cases bx <;> simp⟩
  obtain ⟨ey,hy,hY⟩:∃e:Int,(if by'=true then 4 else 0)=e∧((by'=true∧e=4)∨(by'=false∧e=0)):=⟨_,rfl,by cases by' <;> simp⟩
  obtain ⟨ez,hz,hZ⟩:∃e:Int,(if bz=true then 4 else 0)=e∧((bz=true∧e=4)∨(bz=false∧e=0)):=⟨_,rfl,by cases bz <;> simp⟩
  rw [ho] at c_o
  rw [hx] at c_x
  rw [hy] at c_y
  rw [hz] at c_z
  clear ho hx hy hz
  have w1:IntKind.i64.wrap (eo+ex)=eo+ex:=w64 (by omega) (by omega)
  have w2:IntKind.i64.wrap (eo+ex+ey)=eo+ex+ey:=w64 (by omega) (by omega)
  have w3:IntKind.i64.wrap (eo+ex+ey+ez)=eo+ex+ey+ez:=w64 (by omega) (by omega)
  have w4:IntKind.i64.wrap (IntKind.i64.wrap (IntKind.i64.wrap (eo+ex)+ey)+ez)=eo+ex+ey+ez:=by rw [w1,w2,w3]
  refine zen Tryz.func192 rfl Tryz.ntmps192 ?_
  intro w0 E0 hc
  repeat' (first|refine zR1 hc Tryz.results192 ?_|(with_reducible first|exact trivial|refine zan ?_ ?_|refine zim (fun h=>?_)|refine zoc c_o ?_ ?_|refine zoc c_x ?_ ?_|refine zoc c_y ?_ ?_|refine zoc c_z ?_ ?_|fail)|(omega;done))
  · rw [w4] at h
    rcases hO with ⟨rfl,e1⟩|⟨rfl,e1⟩<;> rcases hX with ⟨rfl,e2⟩|⟨rfl,e2⟩<;> rcases hY with ⟨rfl,e3⟩|⟨rfl,e3⟩<;> rcases hZ with ⟨rfl,e4⟩|⟨rfl,e4⟩<;> first|exact Sub.refl _|omega
  · rw [w4] at h
    rcases hO with ⟨rfl,e1⟩|⟨rfl,e1⟩<;> rcases hX with ⟨rfl,e2⟩|⟨rfl,e2⟩<;> rcases hY with ⟨rfl,e3⟩|⟨rfl,e3⟩<;> rcases hZ with ⟨rfl,e4⟩|⟨rfl,e4⟩<;> first|exact Sub.refl _|omega
theorem r_Shape {k:Nat} (hk:k≤40000) (o1 o2 o3 x1 x2 x3 y1 y2 y3 z1 z2 z3:Rat) (qx:Q k x1∧Q k x2∧Q k x3) (qy:Q k y1∧Q k y2∧Q k y3) (qz:Q k z1∧Q k z2∧Q k z3):Ax.Pure Tryz.prog G 68 [tF (ratL o1) (ratL o2) (ratL o3) (ratL x1) (ratL x2) (ratL x3) (ratL y1) (ratL y2) (ratL y3) (ratL z1) (ratL z2) (ratL z3)] (N (if (dot3 x1 x2 x3 y1 y2 y3=0∧dot3 y1 y2 y3 z1 z2 z3=0∧dot3 z1 z2 z3 x1 x2 x3=0)∧0 < det3 x1 x2 x3 y1 y2 y3 z1 z2 z3 then 0 else 15)):=by
  have c_1:=r_Dot (k:=k) (by omega) x1 x2 x3 y1 y2 y3 qx qy
  have c_2:=r_Dot (k:=k) (by omega) y1 y2 y3 z1 z2 z3 qy qz
  have c_3:=r_Dot (k:=k) (by omega) z1 z2 z3 x1 x2 x3 qz qx
  have c_d:=r_Det (k:=k) (by omega) x1 x2 x3 y1 y2 y3 z1 z2 z3 qx qy qz
  rw [det_eq] at c_d
  generalize dot3 x1 x2 x3 y1 y2 y3=d1 at *
  generalize dot3 y1 y2 y3 z1 z2 z3=d2 at *
  generalize dot3 z1 z2 z3 x1 x2 x3=d3 at *
  generalize det3 x1 x2 x3 y1 y2 y3 z1 z2 z3=dt at *
  have c_4:=r_IsZero d1
  have c_5:=r_IsZero d2
  have c_6:=r_IsZero d3
  have c_7:=r_Sign dt
  have hs:sgQ dt≤0↔¬0 < dt:=sgQ_pos
  generalize sgQ dt=s at *
  refine zen Tryz.func68 rfl Tryz.ntmps68 ?_
  intro w0 E0 hc
  repeat' (first|refine zR1 hc Tryz.results68 ?_|(with_reducible first|exact trivial|refine zan ?_ ?_|refine zim (fun h=>?_)|refine zoc c_1 ?_ ?_|refine zoc c_2 ?_ ?_|refine zoc c_3 ?_ ?_|refine zoc c_4 ?_ ?_|refine zoc c_5 ?_ ?_|refine zoc c_6 ?_ ?_|refine zoc c_d ?_ ?_|refine zoc c_7 ?_ ?_|fail)|(omega;done))
  all_goals
    refine sub_int ?_
    by_cases e1:d1=0 <;> by_cases e2:d2=0 <;> by_cases e3:d3=0 <;> by_cases e4:0 < dt <;> simp_all <;> omega
end Go.Proofs
end
section
set_option maxHeartbeats 4000000
set_option maxRecDepth 100000
namespace Go.Proofs
open Go.Ax
theorem row4V {a b c d:V3}:Sub (.one (.row 3 4 (fun i=> [leafV a,leafV b,leafV c,leafV d].getD i []))) (rowV [a,b,c,d] 4):=sub_row_eq (row4_lt rfl rfl rfl rfl)
theorem four_V {P:Nat→V3→Prop} {a b c d:V3} (h0:P 0 a) (h1:P 1 b) (h2:P 2 c) (h3:P 3 d) (i:Nat) (hi:i < 4):P i ([a,b,c,d].getD i ([],[],[])):=by
  rcases (by omega:i=0∨i=1∨i=2∨i=3) with rfl|rfl|rfl|rfl
  · exact h0
  · exact h1
  · exact h2
  · exact h3
theorem r_CheckFr_err {a b c d:V3} (ha:shortV a) (hb:shortV b) (hc':shortV c) (hd:shortV d) (h0:fstVs [a,b,c,d]≠0):Ax.Pure Tryz.prog G 31 [txF a b c d] (N (fstVs [a,b,c,d])):=by
  have c_v:∀i:Nat,i < 4→Ax.Pure Tryz.prog G 39 [txV ([a,b,c,d].getD i ([],[],[]))] (N (fstVec ([a,b,c,d].getD i ([],[],[])))):=
    four_V (P:=fun _ v=>Ax.Pure Tryz.prog G 39 [txV v] (N (fstVec v))) (r_CheckVec _ _ _ ha.1 ha.2.1 ha.2.2) (r_CheckVec _ _ _ hb.1 hb.2.1 hb.2.2) (r_CheckVec _ _ _ hc'.1 hc'.2.1 hc'.2.2) (r_CheckVec _ _ _ hd.1 hd.2.1 hd.2.2)
  refine zen Tryz.func31 rfl Tryz.ntmps31 ?_
  intro w0 E0 hc
  repeat' (first|refine zR1 hc Tryz.results31 ?_|(with_reducible first|exact trivial|refine zan ?_ ?_|refine zim (fun h=>?_)|fail)|(omega;done))
  refine Wp_loopI (α:=Nat) (fun i=>stOf [(1,.one (.ptr 0 12 0 0)),(3,rowV [a,b,c,d] 4),(4,N i)] [(0,⟨12,1,fun _=> [.v (.string (bs a.1)),.v (.string (bs a.2.1)),.v (.string (bs a.2.2)),.v (.string (bs b.1)),.v (.string (bs b.2.1)),.v (.string (bs b.2.2)),.v (.string (bs c.1)),.v (.string (bs c.2.1)),.v (.string (bs c.2.2)),.v (.string (bs d.1)),.v (.string (bs d.2.1)),.v (.string (bs d.2.2))],false⟩)] 1) (fun i=>i≤4∧fstVs [a,b,c,d]=fstVs ([a,b,c,d].drop i)) (fun i=>4 - i) 0 ⟨Nat.zero_le _,rfl⟩ ?_ ?_
  · refine zW1 ?_ <;> repeat' (with_reducible first|exact trivial|refine zan ?_ ?_|refine zal (fun i hi=>?_))
    all_goals exact row4V
  · rintro i ⟨h1,h2⟩
    have hd:=fun h:i < 4=>fstVs_drop (ls:=[a,b,c,d]) (i:=i) h
    have c_vi:=c_v i
    repeat' (first|refine zR1 hc Tryz.results31 ?_|(with_reducible first|exact trivial|refine zan ?_ ?_|refine zim (fun h=>?_)|refine zoc (c_vi ?_) ?_ ?_|fail)|((first|omega|(simp only [Int.toNat_natCast];omega));done))
    · exact sub_eq (by rw [h2,hd (by omega),if_neg h])
    · refine ⟨i+1,⟨by omega,by rw [h2,hd (by omega),if_pos h]⟩,by omega,?_⟩
      refine zW1 ?_ <;> repeat' (with_reducible first|exact trivial|refine zan ?_ ?_|refine zal (fun i hi=>?_))
    · obtain rfl:i=4:=by omega
      exact absurd h2 h0
theorem r_CheckFr_go {a b c d:V3} {zz:Nat→Bool} {s:Int} (c_v:∀i,i < 4→Ax.Pure Tryz.prog G 39 [txV ([a,b,c,d].getD i ([],[],[]))] (N 0))
    (c_o:∀i,i < 4→Ax.Pure Tryz.prog G 79 [txV ([a,b,c,d].getD i ([],[],[]))] (Bo (zz i))) (c_s:Ax.Pure Tryz.prog G 68 [txF a b c d] (N s)) :
    Ax.Pure Tryz.prog G 31 [txF a b c d] (N (if zz 1=true∨zz 2=true∨zz 3=true then 6 else s)):=by
  refine zen Tryz.func31 rfl Tryz.ntmps31 ?_
  intro w0 E0 hc
  repeat' (first|refine zR1 hc Tryz.results31 ?_|(with_reducible first|exact trivial|refine zan ?_ ?_|refine zim (fun h=>?_)|fail)|(omega;done))
  refine Wp_loopI (α:=Nat) (fun i=>stOf [(1,.one (.ptr 0 12 0 0)),(3,rowV [a,b,c,d] 4),(4,N i)] [(0,⟨12,1,fun _=> [.v (.string (bs a.1)),.v (.string (bs a.2.1)),.v (.string (bs a.2.2)),.v (.string (bs b.1)),.v (.string (bs b.2.1)),.v (.string (bs b.2.2)),.v (.string (bs c.1)),.v (.string (bs c.2.1)),.v (.string (bs c.2.2)),.v (.string (bs d.1)),.v (.string (bs d.2.1)),.v (.string (bs d.2.2))],false⟩)] 1) (fun i=>i≤4∧True) (fun i=>4 - i) 0 ⟨Nat.zero_le _,trivial⟩ ?_ ?_
  · refine zW1 ?_ <;> repeat' (with_reducible first|exact trivial|refine zan ?_ ?_|refine zal (fun i hi=>?_))
    all_goals exact row4V
  rintro i ⟨h1,-⟩
  have c_vi:=c_v i
  repeat' (first|refine zR1 hc Tryz.results31 ?_|(with_reducible first|exact trivial|refine zan ?_ ?_|refine zim (fun h=>?_)|refine zoc (c_vi ?_) ?_ ?_|fail)|((first|omega|(simp only [Int.toNat_natCast];omega));done))
  · refine ⟨i+1,⟨by omega,trivial⟩,by omega,?_⟩
    refine zW1 ?_ <;> repeat' (with_reducible first|exact trivial|refine zan ?_ ?_|refine zal (fun i hi=>?_))
  refine Wp_loopI (α:=Nat) (fun i=>stOf [(1,.one (.ptr 0 12 0 0)),(3,rowV [a,b,c,d] 4),(6,N i)] [(0,⟨12,1,fun _=> [.v (.string (bs a.1)),.v (.string (bs a.2.1)),.v (.string (bs a.2.2)),.v (.string (bs b.1)),.v (.string (bs b.2.1)),.v (.string (bs b.2.2)),.v (.string (bs c.1)),.v (.string (bs c.2.1)),.v (.string (bs c.2.2)),.v (.string (bs d.1)),.v (.string (bs d.2.1)),.v (.string (bs d.2.2))],false⟩)] 1) (fun i=>1≤i∧i≤4∧∀j,1≤j→j < i→zz j=false) (fun i=>4 - i) 1 ⟨Nat.le_refl _,by decide,fun j h1 h2=>by omega⟩ ?_ ?_
  · refine zW1 ?_ <;> repeat' (with_reducible first|exact trivial|refine zan ?_ ?_|refine zal (fun i hi=>?_))
  rintro i ⟨h1,h2,h3⟩
  have c_oi:=c_o i
  repeat' (first|refine zR1 hc Tryz.results31 ?_|(with_reducible first|exact trivial|refine zan ?_ ?_|refine zim (fun h=>?_)|refine zoc (c_oi ?_) ?_ ?_|refine zoc c_s ?_ ?_|fail)|((first|omega|(simp only [Int.toNat_natCast];omega));done))
  · refine sub_int ?_
    rw [if_pos]
    rcases (by omega:i=1∨i=2∨i=3) with rfl|rfl|rfl
    · exact .inl h
    · exact .inr (.inl h)
    · exact .inr (.inr h)
  · refine ⟨i+1,⟨by omega,by omega,fun j j1 j2=>?_⟩,by omega,?_⟩
    · by_cases e:j=i
      · rw [e];exact h
      · exact h3 j j1 (by omega)
    · refine zW1 ?_ <;> repeat' (with_reducible first|exact trivial|refine zan ?_ ?_|refine zal (fun i hi=>?_))
  · obtain rfl:i=4:=by omega
    rw [if_neg (by rw [h3 1 (by omega) (by omega),h3 2 (by omega) (by omega),h3 3 (by omega) (by omega)];simp)]
    exact Sub.refl _
theorem r_CheckFr_ok (o1 o2 o3 x1 x2 x3 y1 y2 y3 z1 z2 z3:Rat) (ho:okV o1 o2 o3) (hx:okV x1 x2 x3) (hy:okV y1 y2 y3) (hz:okV z1 z2 z3):Ax.Pure Tryz.prog G 31 [txF (v3 o1 o2 o3) (v3 x1 x2 x3) (v3 y1 y2 y3) (v3 z1 z2 z3)] (N (axE x1 x2 x3 y1 y2 y3 z1 z2 z3)):=by
  have h:=r_CheckFr_go (a:=v3 o1 o2 o3) (b:=v3 x1 x2 x3) (c:=v3 y1 y2 y3) (d:=v3 z1 z2 z3) (zz:=fun i=> [decide (o1=0∧o2=0∧o3=0),decide (x1=0∧x2=0∧x3=0),decide (y1=0∧y2=0∧y3=0),decide (z1=0∧z2=0∧z3=0)].getD i false)
    (four_V (P:=fun _ v=>Ax.Pure Tryz.prog G 39 [txV v] (N 0)) (chk_V ho) (chk_V hx) (chk_V hy) (chk_V hz))
    (four_V (P:=fun i v=>Ax.Pure Tryz.prog G 79 [txV v] (Bo ([decide (o1=0∧o2=0∧o3=0),decide (x1=0∧x2=0∧x3=0),decide (y1=0∧y2=0∧y3=0),decide (z1=0∧z2=0∧z3=0)].getD i false))) (r_IsOrigin o1 o2 o3) (r_IsOrigin x1 x2 x3) (r_IsOrigin y1 y2 y3) (r_IsOrigin z1 z2 z3))
    (r_Shape (k:=2400) (by decide) o1 o2 o3 x1 x2 x3 y1 y2 y3 z1 z2 z3 (okV_Q hx) (okV_Q hy) (okV_Q hz))
  have e:(∃i,zv x1 x2 x3 y1 y2 y3 z1 z2 z3 i=true)↔decide (x1=0∧x2=0∧x3=0)=true∨decide (y1=0∧y2=0∧y3=0)=true∨decide (z1=0∧z2=0∧z3=0)=true:=by
    constructor
    · rintro ⟨⟨i,hi⟩,h⟩
      rcases (by omega:i=0∨i=1∨i=2) with rfl|rfl|rfl
      · exact .inl h
      · exact .inr (.inl h)
      · exact .inr (.inr h)
    · rintro (h|h|h)
      · exact ⟨0,h⟩
      · exact ⟨1,h⟩
      · exact ⟨2,h⟩
  have h:Ax.Pure Tryz.prog G 31 _ (N (if decide (x1=0∧x2=0∧x3=0)=true∨decide (y1=0∧y2=0∧y3=0)=true∨decide (z1=0∧z2=0∧z3=0)=true then _ else _)):=h
  unfold axE
  by_cases k:∃i,zv x1 x2 x3 y1 y2 y3 z1 z2 z3 i=true
  · rw [if_pos (e.1 k)] at h;rw [if_pos k];exact h
  · rw [if_neg (fun x=>k (e.2 x))] at h;rw [if_neg k];exact h
theorem r_CheckFr {a b c d:V3} {e:Int} (ha:shortV a) (hb:shortV b) (hc:shortV c) (hd:shortV d) (h:FrE a b c d e):Ax.Pure Tryz.prog G 31 [txF a b c d] (N e):=by
  rcases h with ⟨rfl,h⟩|⟨o1,o2,o3,x1,x2,x3,y1,y2,y3,z1,z2,z3,⟨rfl,rfl,rfl,rfl⟩,⟨ho,hx,hy,hz⟩,rfl⟩
  · exact r_CheckFr_err ha hb hc hd h
  · exact r_CheckFr_ok o1 o2 o3 x1 x2 x3 y1 y2 y3 z1 z2 z3 ho hx hy hz
end Go.Proofs
end
