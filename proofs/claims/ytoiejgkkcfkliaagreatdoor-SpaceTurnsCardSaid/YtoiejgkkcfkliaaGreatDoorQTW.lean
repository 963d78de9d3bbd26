/- Lemmas on the program and its library: part QTW. -/
import Derived.Test.YtoiejgkkcfkliaaGreatDoorQSW
import Derived.Test.YtoiejgkkcfkliaaGreatDoorZW33
import Derived.Test.YtoiejgkkcfkliaaGreatDoorZW34
set_option linter.unusedVariables false
set_option linter.unusedSimpArgs false
section
namespace Go.Proofs
open Go.Ax
theorem bigQ_neg (q:Rat):bigQ (-q)=bigQ q:=by
  unfold bigQ bigZ
  rw [Rat.neg_num,Rat.neg_den,Int.natAbs_neg]
end Go.Proofs
end
section
set_option maxHeartbeats 4000000
set_option maxRecDepth 100000
namespace Go.Proofs
open Go.Ax
theorem s_Inverse (o1 o2 o3 x1 x2 x3 y1 y2 y3 z1 z2 z3:Rat) (hF:okF o1 o2 o3 x1 x2 x3 y1 y2 y3 z1 z2 z3) (hh:gvF (dot3 (((0:Int):Rat) - o1) (((0:Int):Rat) - o2) (((0:Int):Rat) - o3) x1 x2 x3 / dot3 x1 x2 x3 x1 x2 x3) (dot3 (((0:Int):Rat) - o1) (((0:Int):Rat) - o2) (((0:Int):Rat) - o3) y1 y2 y3 / dot3 y1 y2 y3 y1 y2 y3) (dot3 (((0:Int):Rat) - o1) (((0:Int):Rat) - o2) (((0:Int):Rat) - o3) z1 z2 z3 / dot3 z1 z2 z3 z1 z2 z3) (dot3 ((1:Int):Rat) ((0:Int):Rat) ((0:Int):Rat) x1 x2 x3 / dot3 x1 x2 x3 x1 x2 x3) (dot3 ((1:Int):Rat) ((0:Int):Rat) ((0:Int):Rat) y1 y2 y3 / dot3 y1 y2 y3 y1 y2 y3) (dot3 ((1:Int):Rat) ((0:Int):Rat) ((0:Int):Rat) z1 z2 z3 / dot3 z1 z2 z3 z1 z2 z3) (dot3 ((0:Int):Rat) ((1:Int):Rat) ((0:Int):Rat) x1 x2 x3 / dot3 x1 x2 x3 x1 x2 x3) (dot3 ((0:Int):Rat) ((1:Int):Rat) ((0:Int):Rat) y1 y2 y3 / dot3 y1 y2 y3 y1 y2 y3) (dot3 ((0:Int):Rat) ((1:Int):Rat) ((0:Int):Rat) z1 z2 z3 / dot3 z1 z2 z3 z1 z2 z3) (dot3 ((0:Int):Rat) ((0:Int):Rat) ((1:Int):Rat) x1 x2 x3 / dot3 x1 x2 x3 x1 x2 x3) (dot3 ((0:Int):Rat) ((0:Int):Rat) ((1:Int):Rat) y1 y2 y3 / dot3 y1 y2 y3 y1 y2 y3) (dot3 ((0:Int):Rat) ((0:Int):Rat) ((1:Int):Rat) z1 z2 z3 / dot3 z1 z2 z3 z1 z2 z3)=0):Ax.Pure Tryz.prog G 61 [tF (ratL o1) (ratL o2) (ratL o3) (ratL x1) (ratL x2) (ratL x3) (ratL y1) (ratL y2) (ratL y3) (ratL z1) (ratL z2) (ratL z3)] (.tup [tF (ratL (dot3 (((0:Int):Rat) - o1) (((0:Int):Rat) - o2) (((0:Int):Rat) - o3) x1 x2 x3 / dot3 x1 x2 x3 x1 x2 x3)) (ratL (dot3 (((0:Int):Rat) - o1) (((0:Int):Rat) - o2) (((0:Int):Rat) - o3) y1 y2 y3 / dot3 y1 y2 y3 y1 y2 y3)) (ratL (dot3 (((0:Int):Rat) - o1) (((0:Int):Rat) - o2) (((0:Int):Rat) - o3) z1 z2 z3 / dot3 z1 z2 z3 z1 z2 z3)) (ratL (dot3 ((1:Int):Rat) ((0:Int):Rat) ((0:Int):Rat) x1 x2 x3 / dot3 x1 x2 x3 x1 x2 x3)) (ratL (dot3 ((1:Int):Rat) ((0:Int):Rat) ((0:Int):Rat) y1 y2 y3 / dot3 y1 y2 y3 y1 y2 y3)) (ratL (dot3 ((1:Int):Rat) ((0:Int):Rat) ((0:Int):Rat) z1 z2 z3 / dot3 z1 z2 z3 z1 z2 z3)) (ratL (dot3 ((0:Int):Rat) ((1:Int):Rat) ((0:Int):Rat) x1 x2 x3 / dot3 x1 x2 x3 x1 x2 x3)) (ratL (dot3 ((0:Int):Rat) ((1:Int):Rat) ((0:Int):Rat) y1 y2 y3 / dot3 y1 y2 y3 y1 y2 y3)) (ratL (dot3 ((0:Int):Rat) ((1:Int):Rat) ((0:Int):Rat) z1 z2 z3 / dot3 z1 z2 z3 z1 z2 z3)) (ratL (dot3 ((0:Int):Rat) ((0:Int):Rat) ((1:Int):Rat) x1 x2 x3 / dot3 x1 x2 x3 x1 x2 x3)) (ratL (dot3 ((0:Int):Rat) ((0:Int):Rat) ((1:Int):Rat) y1 y2 y3 / dot3 y1 y2 y3 y1 y2 y3)) (ratL (dot3 ((0:Int):Rat) ((0:Int):Rat) ((1:Int):Rat) z1 z2 z3 / dot3 z1 z2 z3 z1 z2 z3)),N 0]):=by
  obtain ⟨hx0,hy0,hz0,hor,hdt⟩:=axE_zero hF.2.2.2.2
  have c_c:=s_chkF hF
  have c_F:=s_FromFrame hF
  obtain ⟨⟨qo1,qo2,qo3⟩,⟨qx1,qx2,qx3⟩,⟨qy1,qy2,qy3⟩,⟨qz1,qz2,qz3⟩⟩:(Q 2400 o1∧Q 2400 o2∧Q 2400 o3)∧(Q 2400 x1∧Q 2400 x2∧Q 2400 x3)∧(Q 2400 y1∧Q 2400 y2∧Q 2400 y3)∧Q 2400 z1∧Q 2400 z2∧Q 2400 z3:=⟨okV_Q hF.1,okV_Q hF.2.1,okV_Q hF.2.2.1,okV_Q hF.2.2.2.1⟩
  have qi0:Q 1 (((0:Int):Rat)):=Q_zero
  have qi1:Q 1 (((1:Int):Rat)):=Q_one
  have c_v0:=c_VOf 0 0 0 (by decide)
  have c_v1:=c_VOf 1 0 0 (by decide)
  have c_v2:=c_VOf 0 1 0 (by decide)
  have c_v3:=c_VOf 0 0 1 (by decide)
  have c_l0:=c_VCoordinates o1 o2 o3 x1 x2 x3 y1 y2 y3 z1 z2 z3 ((0:Int):Rat) ((0:Int):Rat) ((0:Int):Rat) (dot_pos hx0) (dot_pos hy0) (dot_pos hz0) ⟨rz_of qx1 rfl,rz_of qx2 rfl,rz_of qx3 rfl,rz_of qy1 rfl,rz_of qy2 rfl,rz_of qy3 rfl,rz_of qz1 rfl,rz_of qz2 rfl,rz_of qz3 rfl,rz_of qi0 rfl,rz_of qi0 rfl,rz_of qi0 rfl,rz_of qo1 rfl,rz_of qo2 rfl,rz_of qo3 rfl⟩
  have c_l1:=c_VLocal o1 o2 o3 x1 x2 x3 y1 y2 y3 z1 z2 z3 ((1:Int):Rat) ((0:Int):Rat) ((0:Int):Rat) (dot_pos hx0) (dot_pos hy0) (dot_pos hz0) ⟨rz_of qx1 rfl,rz_of qx2 rfl,rz_of qx3 rfl,rz_of qy1 rfl,rz_of qy2 rfl,rz_of qy3 rfl,rz_of qz1 rfl,rz_of qz2 rfl,rz_of qz3 rfl,rz_of qi1 rfl,rz_of qi0 rfl,rz_of qi0 rfl⟩
  have c_l2:=c_VLocal o1 o2 o3 x1 x2 x3 y1 y2 y3 z1 z2 z3 ((0:Int):Rat) ((1:Int):Rat) ((0:Int):Rat) (dot_pos hx0) (dot_pos hy0) (dot_pos hz0) ⟨rz_of qx1 rfl,rz_of qx2 rfl,rz_of qx3 rfl,rz_of qy1 rfl,rz_of qy2 rfl,rz_of qy3 rfl,rz_of qz1 rfl,rz_of qz2 rfl,rz_of qz3 rfl,rz_of qi0 rfl,rz_of qi1 rfl,rz_of qi0 rfl⟩
  have c_l3:=c_VLocal o1 o2 o3 x1 x2 x3 y1 y2 y3 z1 z2 z3 ((0:Int):Rat) ((0:Int):Rat) ((1:Int):Rat) (dot_pos hx0) (dot_pos hy0) (dot_pos hz0) ⟨rz_of qx1 rfl,rz_of qx2 rfl,rz_of qx3 rfl,rz_of qy1 rfl,rz_of qy2 rfl,rz_of qy3 rfl,rz_of qz1 rfl,rz_of qz2 rfl,rz_of qz3 rfl,rz_of qi0 rfl,rz_of qi0 rfl,rz_of qi1 rfl⟩
  have c_g:=c_giveF (k:=1000000) (by decide) (dot3 (((0:Int):Rat) - o1) (((0:Int):Rat) - o2) (((0:Int):Rat) - o3) x1 x2 x3 / dot3 x1 x2 x3 x1 x2 x3) (dot3 (((0:Int):Rat) - o1) (((0:Int):Rat) - o2) (((0:Int):Rat) - o3) y1 y2 y3 / dot3 y1 y2 y3 y1 y2 y3) (dot3 (((0:Int):Rat) - o1) (((0:Int):Rat) - o2) (((0:Int):Rat) - o3) z1 z2 z3 / dot3 z1 z2 z3 z1 z2 z3) (dot3 ((1:Int):Rat) ((0:Int):Rat) ((0:Int):Rat) x1 x2 x3 / dot3 x1 x2 x3 x1 x2 x3) (dot3 ((1:Int):Rat) ((0:Int):Rat) ((0:Int):Rat) y1 y2 y3 / dot3 y1 y2 y3 y1 y2 y3) (dot3 ((1:Int):Rat) ((0:Int):Rat) ((0:Int):Rat) z1 z2 z3 / dot3 z1 z2 z3 z1 z2 z3) (dot3 ((0:Int):Rat) ((1:Int):Rat) ((0:Int):Rat) x1 x2 x3 / dot3 x1 x2 x3 x1 x2 x3) (dot3 ((0:Int):Rat) ((1:Int):Rat) ((0:Int):Rat) y1 y2 y3 / dot3 y1 y2 y3 y1 y2 y3) (dot3 ((0:Int):Rat) ((1:Int):Rat) ((0:Int):Rat) z1 z2 z3 / dot3 z1 z2 z3 z1 z2 z3) (dot3 ((0:Int):Rat) ((0:Int):Rat) ((1:Int):Rat) x1 x2 x3 / dot3 x1 x2 x3 x1 x2 x3) (dot3 ((0:Int):Rat) ((0:Int):Rat) ((1:Int):Rat) y1 y2 y3 / dot3 y1 y2 y3 y1 y2 y3) (dot3 ((0:Int):Rat) ((0:Int):Rat) ((1:Int):Rat) z1 z2 z3 / dot3 z1 z2 z3 z1 z2 z3) ⟨Q_of (Q_div (Q_add (Q_add (Q_mul (Q_sub qi0 qo1) qx1) (Q_mul (Q_sub qi0 qo2) qx2)) (Q_mul (Q_sub qi0 qo3) qx3)) (Q_add (Q_add (Q_mul qx1 qx1) (Q_mul qx2 qx2)) (Q_mul qx3 qx3))) rfl,Q_of (Q_div (Q_add (Q_add (Q_mul (Q_sub qi0 qo1) qy1) (Q_mul (Q_sub qi0 qo2) qy2)) (Q_mul (Q_sub qi0 qo3) qy3)) (Q_add (Q_add (Q_mul qy1 qy1) (Q_mul qy2 qy2)) (Q_mul qy3 qy3))) rfl,Q_of (Q_div (Q_add (Q_add (Q_mul (Q_sub qi0 qo1) qz1) (Q_mul (Q_sub qi0 qo2) qz2)) (Q_mul (Q_sub qi0 qo3) qz3)) (Q_add (Q_add (Q_mul qz1 qz1) (Q_mul qz2 qz2)) (Q_mul qz3 qz3))) rfl⟩ ⟨Q_of (Q_div (Q_add (Q_add (Q_mul qi1 qx1) (Q_mul qi0 qx2)) (Q_mul qi0 qx3)) (Q_add (Q_add (Q_mul qx1 qx1) (Q_mul qx2 qx2)) (Q_mul qx3 qx3))) rfl,Q_of (Q_div (Q_add (Q_add (Q_mul qi1 qy1) (Q_mul qi0 qy2)) (Q_mul qi0 qy3)) (Q_add (Q_add (Q_mul qy1 qy1) (Q_mul qy2 qy2)) (Q_mul qy3 qy3))) rfl,Q_of (Q_div (Q_add (Q_add (Q_mul qi1 qz1) (Q_mul qi0 qz2)) (Q_mul qi0 qz3)) (Q_add (Q_add (Q_mul qz1 qz1) (Q_mul qz2 qz2)) (Q_mul qz3 qz3))) rfl⟩ ⟨Q_of (Q_div (Q_add (Q_add (Q_mul qi0 qx1) (Q_mul qi1 qx2)) (Q_mul qi0 qx3)) (Q_add (Q_add (Q_mul qx1 qx1) (Q_mul qx2 qx2)) (Q_mul qx3 qx3))) rfl,Q_of (Q_div (Q_add (Q_add (Q_mul qi0 qy1) (Q_mul qi1 qy2)) (Q_mul qi0 qy3)) (Q_add (Q_add (Q_mul qy1 qy1) (Q_mul qy2 qy2)) (Q_mul qy3 qy3))) rfl,Q_of (Q_div (Q_add (Q_add (Q_mul qi0 qz1) (Q_mul qi1 qz2)) (Q_mul qi0 qz3)) (Q_add (Q_add (Q_mul qz1 qz1) (Q_mul qz2 qz2)) (Q_mul qz3 qz3))) rfl⟩ ⟨Q_of (Q_div (Q_add (Q_add (Q_mul qi0 qx1) (Q_mul qi0 qx2)) (Q_mul qi1 qx3)) (Q_add (Q_add (Q_mul qx1 qx1) (Q_mul qx2 qx2)) (Q_mul qx3 qx3))) rfl,Q_of (Q_div (Q_add (Q_add (Q_mul qi0 qy1) (Q_mul qi0 qy2)) (Q_mul qi1 qy3)) (Q_add (Q_add (Q_mul qy1 qy1) (Q_mul qy2 qy2)) (Q_mul qy3 qy3))) rfl,Q_of (Q_div (Q_add (Q_add (Q_mul qi0 qz1) (Q_mul qi0 qz2)) (Q_mul qi1 qz3)) (Q_add (Q_add (Q_mul qz1 qz1) (Q_mul qz2 qz2)) (Q_mul qz3 qz3))) rfl⟩ hh
  refine zen Tryz.func61 rfl Tryz.ntmps61 ?_
  intro w0 E0 hc
  repeat' (first|refine zR1 hc Tryz.results61 ?_|(with_reducible first|exact trivial|refine zan ?_ ?_|refine zim (fun h=>?_)|refine zoc c_c ?_ ?_|refine zoc c_F ?_ ?_|refine zoc c_v0 ?_ ?_|refine zoc c_v1 ?_ ?_|refine zoc c_v2 ?_ ?_|refine zoc c_v3 ?_ ?_|refine zoc c_l0 ?_ ?_|refine zoc c_l1 ?_ ?_|refine zoc c_l2 ?_ ?_|refine zoc c_l3 ?_ ?_|refine zoc c_g ?_ ?_|fail)|((first|omega|exact absurd rfl (by assumption)|(refine nf1 ?_;assumption)|(refine nf2 ?_;assumption));done))
end Go.Proofs
end
section
set_option maxHeartbeats 4000000
set_option maxRecDepth 100000
namespace Go.Proofs
open Go.Ax
theorem s_Turn0:Ax.Pure Tryz.prog G 62 [.agg [.v (.string (bs (ratL 0))),.v (.string (bs (ratL 0))),.v (.string (bs (ratL 0))),.v (.string (bs (ratL 0)))]] (.tup [tF [] [] [] [] [] [] [] [] [] [] [] [],N 6]):=by
  have hw:bigQ 0=false:=ok_zero
  have hu:okV 0 0 0:=⟨ok_zero,ok_zero,ok_zero⟩
  have c_c:=c_checkAll4 (ratL 0) (ratL 0) (ratL 0) (ratL 0) (ok_len hw) (ok_len hu.1) (ok_len hu.2.1) (ok_len hu.2.2)
  rw [fst4 hw hu.1 hu.2.1 hu.2.2] at c_c
  have c_w:=s_From hw
  have c_u:=s_VFrom hu
  have c_z:=c_IsZero 0 0 0
  have c_s:=c_FSign 0
  rw [decide_eq_true ⟨rfl,rfl,rfl⟩] at c_z
  refine zen Tryz.func62 rfl Tryz.ntmps62 ?_
  intro w0 E0 hc
  repeat' (first|(with_reducible first|refine Wp_seq ?_|refine zwk ?_|refine Wp_block ?_|refine zgo ?_|refine zbn ?_|refine zge Tryz.results62 ?_|refine Sub.refl _|refine allP_nil|refine zoa1 (out':=?_) ?_|refine zca1 (y:=?_) ?_|refine zea1 (eo':=?_) ?_)|(with_reducible refine zrs [1] hc ?_ ?_;focus (with_unfolding_all rfl))|(with_reducible refine zrm [1] hc mixed ?_ ?_;focus (with_unfolding_all rfl))|(with_reducible refine allP_cons ?_ ?_;focus (first|decide|omega))|(with_reducible first|refine zg2 ?_ ?_|refine zbo ?_|refine zg3 ?_ (fun h=>?_) (fun h=>?_)|refine zg4 (fun h=>?_) (fun h=>?_)|fail)|(omega;done))
  refine Wp_frzP hc 0 (sz:=4) (ro:=false) (g:=fun _=> [.v (.string (bs (ratL 0))),.v (.string (bs (ratL 0))),.v (.string (bs (ratL 0))),.v (.string (bs (ratL 0)))]) (Is.refl _) ⟨trivial,trivial,trivial,trivial,trivial⟩ rfl ?_
  refine Wp_weaker (st':=stOf [(1,.one (.pp [.v (.string (bs (ratL 0))),.v (.string (bs (ratL 0))),.v (.string (bs (ratL 0))),.v (.string (bs (ratL 0)))])),(2,.one (.ptr 1 12 0 0)),(3,N 0)] [(1,⟨12,1,fun _=> [.v (.string ⟨#[]⟩),.v (.string ⟨#[]⟩),.v (.string ⟨#[]⟩),.v (.string ⟨#[]⟩),.v (.string ⟨#[]⟩),.v (.string ⟨#[]⟩),.v (.string ⟨#[]⟩),.v (.string ⟨#[]⟩),.v (.string ⟨#[]⟩),.v (.string ⟨#[]⟩),.v (.string ⟨#[]⟩),.v (.string ⟨#[]⟩)],false⟩)] 2) ?_ ?_
  · refine zW1 ?_ <;> repeat' (with_reducible first|exact trivial|refine zan ?_ ?_|refine zal (fun i hi=>?_))
  repeat' (first|refine zR1 hc Tryz.results62 ?_|(with_reducible first|exact trivial|refine zan ?_ ?_|refine zim (fun h=>?_)|refine zoc c_c ?_ ?_|refine zoc c_w ?_ ?_|refine zoc c_u ?_ ?_|refine zoc c_s ?_ ?_|refine zoc c_z ?_ ?_|fail)|((first|omega|exact absurd rfl (by assumption));done))
end Go.Proofs
end
