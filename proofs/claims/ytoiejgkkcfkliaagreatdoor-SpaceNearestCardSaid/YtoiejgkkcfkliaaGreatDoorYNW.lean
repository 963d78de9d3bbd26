/- Lemmas on the program and its library: part YNW. -/
import Derived.Test.YtoiejgkkcfkliaaGreatDoorYA1
set_option linter.unusedVariables false
set_option linter.unusedSimpArgs false
section
set_option maxHeartbeats 4000000
set_option maxRecDepth 100000
namespace Go.Proofs
open Go.Ax
theorem a3z (x y z:Int) (w:Rat) (hh:okH x y z w) (p1 p2 p3:Rat) (hp:okV p1 p2 p3):Ax.Pure Tryz.prog G 46 [tH x y z (ratL w),tV (ratL p1) (ratL p2) (ratL p3)] (.tup [tV (txl (bigV (p1+(x:Rat)*(-((dot3 (x:Rat) (y:Rat) (z:Rat) p1 p2 p3 - w) / dot3 (x:Rat) (y:Rat) (z:Rat) (x:Rat) (y:Rat) (z:Rat)))) (p2+(y:Rat)*(-((dot3 (x:Rat) (y:Rat) (z:Rat) p1 p2 p3 - w) / dot3 (x:Rat) (y:Rat) (z:Rat) (x:Rat) (y:Rat) (z:Rat)))) (p3+(z:Rat)*(-((dot3 (x:Rat) (y:Rat) (z:Rat) p1 p2 p3 - w) / dot3 (x:Rat) (y:Rat) (z:Rat) (x:Rat) (y:Rat) (z:Rat))))) (p1+(x:Rat)*(-((dot3 (x:Rat) (y:Rat) (z:Rat) p1 p2 p3 - w) / dot3 (x:Rat) (y:Rat) (z:Rat) (x:Rat) (y:Rat) (z:Rat))))) (txl (bigV (p1+(x:Rat)*(-((dot3 (x:Rat) (y:Rat) (z:Rat) p1 p2 p3 - w) / dot3 (x:Rat) (y:Rat) (z:Rat) (x:Rat) (y:Rat) (z:Rat)))) (p2+(y:Rat)*(-((dot3 (x:Rat) (y:Rat) (z:Rat) p1 p2 p3 - w) / dot3 (x:Rat) (y:Rat) (z:Rat) (x:Rat) (y:Rat) (z:Rat)))) (p3+(z:Rat)*(-((dot3 (x:Rat) (y:Rat) (z:Rat) p1 p2 p3 - w) / dot3 (x:Rat) (y:Rat) (z:Rat) (x:Rat) (y:Rat) (z:Rat))))) (p2+(y:Rat)*(-((dot3 (x:Rat) (y:Rat) (z:Rat) p1 p2 p3 - w) / dot3 (x:Rat) (y:Rat) (z:Rat) (x:Rat) (y:Rat) (z:Rat))))) (txl (bigV (p1+(x:Rat)*(-((dot3 (x:Rat) (y:Rat) (z:Rat) p1 p2 p3 - w) / dot3 (x:Rat) (y:Rat) (z:Rat) (x:Rat) (y:Rat) (z:Rat)))) (p2+(y:Rat)*(-((dot3 (x:Rat) (y:Rat) (z:Rat) p1 p2 p3 - w) / dot3 (x:Rat) (y:Rat) (z:Rat) (x:Rat) (y:Rat) (z:Rat)))) (p3+(z:Rat)*(-((dot3 (x:Rat) (y:Rat) (z:Rat) p1 p2 p3 - w) / dot3 (x:Rat) (y:Rat) (z:Rat) (x:Rat) (y:Rat) (z:Rat))))) (p3+(z:Rat)*(-((dot3 (x:Rat) (y:Rat) (z:Rat) p1 p2 p3 - w) / dot3 (x:Rat) (y:Rat) (z:Rat) (x:Rat) (y:Rat) (z:Rat))))),N (exl (bigV (p1+(x:Rat)*(-((dot3 (x:Rat) (y:Rat) (z:Rat) p1 p2 p3 - w) / dot3 (x:Rat) (y:Rat) (z:Rat) (x:Rat) (y:Rat) (z:Rat)))) (p2+(y:Rat)*(-((dot3 (x:Rat) (y:Rat) (z:Rat) p1 p2 p3 - w) / dot3 (x:Rat) (y:Rat) (z:Rat) (x:Rat) (y:Rat) (z:Rat)))) (p3+(z:Rat)*(-((dot3 (x:Rat) (y:Rat) (z:Rat) p1 p2 p3 - w) / dot3 (x:Rat) (y:Rat) (z:Rat) (x:Rat) (y:Rat) (z:Rat))))))]):=by
  obtain ⟨qp1,qp2,qp3⟩:=okV_Q hp
  obtain ⟨g1,g2,g3⟩:=Q_way hh hp
  have c_t:=s_toPlane x y z w hh p1 p2 p3 hp
  generalize (x:Rat)*(-((dot3 (x:Rat) (y:Rat) (z:Rat) p1 p2 p3 - w) / dot3 (x:Rat) (y:Rat) (z:Rat) (x:Rat) (y:Rat) (z:Rat)))=w1 at *
  generalize (y:Rat)*(-((dot3 (x:Rat) (y:Rat) (z:Rat) p1 p2 p3 - w) / dot3 (x:Rat) (y:Rat) (z:Rat) (x:Rat) (y:Rat) (z:Rat)))=w2 at *
  generalize (z:Rat)*(-((dot3 (x:Rat) (y:Rat) (z:Rat) p1 p2 p3 - w) / dot3 (x:Rat) (y:Rat) (z:Rat) (x:Rat) (y:Rat) (z:Rat)))=w3 at *
  have c_t:=c_t 172 (p1+w1) (p2+w2) (p3+w3) ⟨Q_of (Q_add qp1 g1) rfl,Q_of (Q_add qp2 g2) rfl,Q_of (Q_add qp3 g3) rfl⟩ (c_VAdd p1 p2 p3 w1 w2 w3 ⟨rz_of qp1 rfl,rz_of qp2 rfl,rz_of qp3 rfl,rz_of g1 rfl,rz_of g2 rfl,rz_of g3 rfl⟩)
  refine zen Tryz.func46 rfl Tryz.ntmps46 ?_
  intro w0 E0 hc
  repeat' (first|refine zR1 hc Tryz.results46 ?_|(with_reducible first|exact trivial|refine zan ?_ ?_|refine zim (fun h=>?_)|refine zoc c_t ?_ ?_|fail)|(omega;done))
theorem a4e (x y z:Int) (w:Rat) (hh:okH x y z w) (p1 p2 p3:Rat) (hp:okV p1 p2 p3):Ax.Pure Tryz.prog G 47 [tH x y z (ratL w),tV (ratL p1) (ratL p2) (ratL p3)] (.tup [S (bs (txl (bigQ (dot3 ((x:Rat)*(-((dot3 (x:Rat) (y:Rat) (z:Rat) p1 p2 p3 - w) / dot3 (x:Rat) (y:Rat) (z:Rat) (x:Rat) (y:Rat) (z:Rat)))) ((y:Rat)*(-((dot3 (x:Rat) (y:Rat) (z:Rat) p1 p2 p3 - w) / dot3 (x:Rat) (y:Rat) (z:Rat) (x:Rat) (y:Rat) (z:Rat)))) ((z:Rat)*(-((dot3 (x:Rat) (y:Rat) (z:Rat) p1 p2 p3 - w) / dot3 (x:Rat) (y:Rat) (z:Rat) (x:Rat) (y:Rat) (z:Rat)))) ((x:Rat)*(-((dot3 (x:Rat) (y:Rat) (z:Rat) p1 p2 p3 - w) / dot3 (x:Rat) (y:Rat) (z:Rat) (x:Rat) (y:Rat) (z:Rat)))) ((y:Rat)*(-((dot3 (x:Rat) (y:Rat) (z:Rat) p1 p2 p3 - w) / dot3 (x:Rat) (y:Rat) (z:Rat) (x:Rat) (y:Rat) (z:Rat)))) ((z:Rat)*(-((dot3 (x:Rat) (y:Rat) (z:Rat) p1 p2 p3 - w) / dot3 (x:Rat) (y:Rat) (z:Rat) (x:Rat) (y:Rat) (z:Rat)))))) (dot3 ((x:Rat)*(-((dot3 (x:Rat) (y:Rat) (z:Rat) p1 p2 p3 - w) / dot3 (x:Rat) (y:Rat) (z:Rat) (x:Rat) (y:Rat) (z:Rat)))) ((y:Rat)*(-((dot3 (x:Rat) (y:Rat) (z:Rat) p1 p2 p3 - w) / dot3 (x:Rat) (y:Rat) (z:Rat) (x:Rat) (y:Rat) (z:Rat)))) ((z:Rat)*(-((dot3 (x:Rat) (y:Rat) (z:Rat) p1 p2 p3 - w) / dot3 (x:Rat) (y:Rat) (z:Rat) (x:Rat) (y:Rat) (z:Rat)))) ((x:Rat)*(-((dot3 (x:Rat) (y:Rat) (z:Rat) p1 p2 p3 - w) / dot3 (x:Rat) (y:Rat) (z:Rat) (x:Rat) (y:Rat) (z:Rat)))) ((y:Rat)*(-((dot3 (x:Rat) (y:Rat) (z:Rat) p1 p2 p3 - w) / dot3 (x:Rat) (y:Rat) (z:Rat) (x:Rat) (y:Rat) (z:Rat)))) ((z:Rat)*(-((dot3 (x:Rat) (y:Rat) (z:Rat) p1 p2 p3 - w) / dot3 (x:Rat) (y:Rat) (z:Rat) (x:Rat) (y:Rat) (z:Rat))))))),N (exl (bigQ (dot3 ((x:Rat)*(-((dot3 (x:Rat) (y:Rat) (z:Rat) p1 p2 p3 - w) / dot3 (x:Rat) (y:Rat) (z:Rat) (x:Rat) (y:Rat) (z:Rat)))) ((y:Rat)*(-((dot3 (x:Rat) (y:Rat) (z:Rat) p1 p2 p3 - w) / dot3 (x:Rat) (y:Rat) (z:Rat) (x:Rat) (y:Rat) (z:Rat)))) ((z:Rat)*(-((dot3 (x:Rat) (y:Rat) (z:Rat) p1 p2 p3 - w) / dot3 (x:Rat) (y:Rat) (z:Rat) (x:Rat) (y:Rat) (z:Rat)))) ((x:Rat)*(-((dot3 (x:Rat) (y:Rat) (z:Rat) p1 p2 p3 - w) / dot3 (x:Rat) (y:Rat) (z:Rat) (x:Rat) (y:Rat) (z:Rat)))) ((y:Rat)*(-((dot3 (x:Rat) (y:Rat) (z:Rat) p1 p2 p3 - w) / dot3 (x:Rat) (y:Rat) (z:Rat) (x:Rat) (y:Rat) (z:Rat)))) ((z:Rat)*(-((dot3 (x:Rat) (y:Rat) (z:Rat) p1 p2 p3 - w) / dot3 (x:Rat) (y:Rat) (z:Rat) (x:Rat) (y:Rat) (z:Rat)))))))]):=by
  have c_c:=s_chkH hh
  have c_h:=s_FromHalf hh
  have c_v:=s_chkV hp
  have c_p:=s_VFrom hp
  obtain ⟨g1,g2,g3⟩:=Q_way hh hp
  have c_w:=c_way x y z w hh p1 p2 p3 hp
  generalize (x:Rat)*(-((dot3 (x:Rat) (y:Rat) (z:Rat) p1 p2 p3 - w) / dot3 (x:Rat) (y:Rat) (z:Rat) (x:Rat) (y:Rat) (z:Rat)))=w1 at *
  generalize (y:Rat)*(-((dot3 (x:Rat) (y:Rat) (z:Rat) p1 p2 p3 - w) / dot3 (x:Rat) (y:Rat) (z:Rat) (x:Rat) (y:Rat) (z:Rat)))=w2 at *
  generalize (z:Rat)*(-((dot3 (x:Rat) (y:Rat) (z:Rat) p1 p2 p3 - w) / dot3 (x:Rat) (y:Rat) (z:Rat) (x:Rat) (y:Rat) (z:Rat)))=w3 at *
  have c_d:=c_Dot3 (k:=60000) (by decide) w1 w2 w3 w1 w2 w3 g1 g2 g3 g1 g2 g3
  have c_g:=c_give (k:=360002) (by decide) _ (Q_of (Q_dot g1 g2 g3 g1 g2 g3) rfl)
  refine zen Tryz.func47 rfl Tryz.ntmps47 ?_
  intro w0 E0 hc
  repeat' (first|refine zR1 hc Tryz.results47 ?_|(with_reducible first|exact trivial|refine zan ?_ ?_|refine zim (fun h=>?_)|refine zoc c_c ?_ ?_|refine zoc c_v ?_ ?_|refine zoc s_first20 ?_ ?_|refine zoc c_h ?_ ?_|refine zoc c_p ?_ ?_|refine zoc c_w ?_ ?_|refine zoc c_d ?_ ?_|refine zoc c_g ?_ ?_|fail)|((first|omega|exact absurd rfl (by assumption)|(refine nf1 ?_;assumption)|(refine nf2 ?_;assumption));done))
end Go.Proofs
end
