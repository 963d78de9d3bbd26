/- Lemmas on the program and its library: part ZW32. -/
import Derived.Test.YtoiejgkkcfkliaaGreatDoorZW29
import Derived.Test.YtoiejgkkcfkliaaGreatDoorZW31
set_option linter.unusedVariables false
set_option linter.unusedSimpArgs false
section
set_option maxHeartbeats 4000000
set_option maxRecDepth 100000
namespace Go.Proofs
open Go.Ax
def okF (o1 o2 o3 x1 x2 x3 y1 y2 y3 z1 z2 z3:Rat):Prop:=okV o1 o2 o3∧okV x1 x2 x3∧okV y1 y2 y3∧okV z1 z2 z3∧axE x1 x2 x3 y1 y2 y3 z1 z2 z3=0
def orth (x1 x2 x3 y1 y2 y3 z1 z2 z3:Rat):Prop:=dot3 x1 x2 x3 y1 y2 y3=0∧dot3 y1 y2 y3 z1 z2 z3=0∧dot3 z1 z2 z3 x1 x2 x3=0
theorem axE_zero {x1 x2 x3 y1 y2 y3 z1 z2 z3:Rat} (h:axE x1 x2 x3 y1 y2 y3 z1 z2 z3=0):¬(x1=0∧x2=0∧x3=0)∧¬(y1=0∧y2=0∧y3=0)∧¬(z1=0∧z2=0∧z3=0)∧orth x1 x2 x3 y1 y2 y3 z1 z2 z3∧0 < det3 x1 x2 x3 y1 y2 y3 z1 z2 z3:=by
  unfold axE at h
  split at h
  · cases h
  rename_i hz
  split at h
  · rename_i ho
    exact ⟨fun h=>hz ⟨0,decide_eq_true h⟩,fun h=>hz ⟨1,decide_eq_true h⟩,fun h=>hz ⟨2,decide_eq_true h⟩,ho.1,ho.2⟩
  · cases h
theorem s_chkF {o1 o2 o3 x1 x2 x3 y1 y2 y3 z1 z2 z3:Rat} (h:okF o1 o2 o3 x1 x2 x3 y1 y2 y3 z1 z2 z3):Ax.Pure Tryz.prog G 92 [tF (ratL o1) (ratL o2) (ratL o3) (ratL x1) (ratL x2) (ratL x3) (ratL y1) (ratL y2) (ratL y3) (ratL z1) (ratL z2) (ratL z3)] (N 0):=by
  have:=s_CheckFrame o1 o2 o3 x1 x2 x3 y1 y2 y3 z1 z2 z3 h.1 h.2.1 h.2.2.1 h.2.2.2.1
  rwa [h.2.2.2.2] at this
theorem s_FromFrame {o1 o2 o3 x1 x2 x3 y1 y2 y3 z1 z2 z3:Rat} (h:okF o1 o2 o3 x1 x2 x3 y1 y2 y3 z1 z2 z3):Ax.Pure Tryz.prog G 145 [tF (ratL o1) (ratL o2) (ratL o3) (ratL x1) (ratL x2) (ratL x3) (ratL y1) (ratL y2) (ratL y3) (ratL z1) (ratL z2) (ratL z3)] (fA o1 o2 o3 x1 x2 x3 y1 y2 y3 z1 z2 z3):=c_FromFrame (k:=2400) (by decide) o1 o2 o3 x1 x2 x3 y1 y2 y3 z1 z2 z3 (okV_Q h.1) (okV_Q h.2.1) (okV_Q h.2.2.1) (okV_Q h.2.2.2.1)
theorem c_wt (e:Int):Ax.Pure Tryz.prog G 153 [Bo true,N e] (N e):=c_when true e
theorem c_wf (e:Int):Ax.Pure Tryz.prog G 153 [Bo false,N e] (N 0):=c_when false e
theorem c_wnt (e:Int):Ax.Pure Tryz.prog G 153 [Bo (!true),N e] (N 0):=c_when false e
theorem c_wnf (e:Int):Ax.Pure Tryz.prog G 153 [Bo (!false),N e] (N e):=c_when true e
def gvF (o1 o2 o3 x1 x2 x3 y1 y2 y3 z1 z2 z3:Rat):Int:=if dot3 x1 x2 x3 y1 y2 y3=0∧dot3 y1 y2 y3 z1 z2 z3=0∧dot3 z1 z2 z3 x1 x2 x3=0 then (if bigF o1 o2 o3 x1 x2 x3 y1 y2 y3 z1 z2 z3=true then 4 else 0) else 15
theorem s_gF_ok {k:Nat} (hk:k≤1000000) (o1 o2 o3 x1 x2 x3 y1 y2 y3 z1 z2 z3:Rat) (qo:Q k o1∧Q k o2∧Q k o3) (qx:Q k x1∧Q k x2∧Q k x3) (qy:Q k y1∧Q k y2∧Q k y3) (qz:Q k z1∧Q k z2∧Q k z3) (ho:(dot3 x1 x2 x3 y1 y2 y3=0∧dot3 y1 y2 y3 z1 z2 z3=0∧dot3 z1 z2 z3 x1 x2 x3=0)) (hb:bigF o1 o2 o3 x1 x2 x3 y1 y2 y3 z1 z2 z3=false):Ax.Pure Tryz.prog G 178 [fA o1 o2 o3 x1 x2 x3 y1 y2 y3 z1 z2 z3] (.tup [tF (ratL o1) (ratL o2) (ratL o3) (ratL x1) (ratL x2) (ratL x3) (ratL y1) (ratL y2) (ratL y3) (ratL z1) (ratL z2) (ratL z3),N 0]):=by
  have c_o:=c_isOrth o1 o2 o3 x1 x2 x3 y1 y2 y3 z1 z2 z3 hk qx qy qz
  have c_l:=c_FrLarge hk o1 o2 o3 x1 x2 x3 y1 y2 y3 z1 z2 z3 qo qx qy qz
  have c_t:=c_FrText hk o1 o2 o3 x1 x2 x3 y1 y2 y3 z1 z2 z3 qo qx qy qz
  rw [decide_eq_true ho] at c_o
  rw [hb] at c_l
  have c_f:=(show Ax.Pure Tryz.prog G 143 [.one (.row 1 2 (fun i=> [[Leaf.v (.int .i64 0)],[Leaf.v (.int .i64 0)]].getD i []))] (N 0) from c_first2 0 0)
  refine zen Tryz.func178 rfl Tryz.ntmps178 ?_
  intro w0 E0 hc
  repeat' (first|refine zR1 hc Tryz.results178 ?_|(with_reducible first|exact trivial|refine zan ?_ ?_|refine zim (fun h=>?_)|refine zoc c_o ?_ ?_|refine zoc c_l ?_ ?_|refine zoc c_t ?_ ?_|refine zoc (c_wt _) ?_ ?_|refine zoc (c_wf _) ?_ ?_|refine zoc (c_wnt _) ?_ ?_|refine zoc (c_wnf _) ?_ ?_|refine zoc c_f ?_ ?_|fail)|((first|omega|exact absurd rfl (by assumption)|(refine nf1 ?_;assumption)|(refine nf2 ?_;assumption));done))
theorem c_giveF {k:Nat} (hk:k≤1000000) (o1 o2 o3 x1 x2 x3 y1 y2 y3 z1 z2 z3:Rat) (qo:Q k o1∧Q k o2∧Q k o3) (qx:Q k x1∧Q k x2∧Q k x3) (qy:Q k y1∧Q k y2∧Q k y3) (qz:Q k z1∧Q k z2∧Q k z3) (h:gvF o1 o2 o3 x1 x2 x3 y1 y2 y3 z1 z2 z3=0):Ax.Pure Tryz.prog G 178 [fA o1 o2 o3 x1 x2 x3 y1 y2 y3 z1 z2 z3] (.tup [tF (ratL o1) (ratL o2) (ratL o3) (ratL x1) (ratL x2) (ratL x3) (ratL y1) (ratL y2) (ratL y3) (ratL z1) (ratL z2) (ratL z3),N 0]):=by
  unfold gvF at h
  split at h
  · rename_i ho
    split at h
    · cases h
    · rename_i hb
      exact s_gF_ok hk _ _ _ _ _ _ _ _ _ _ _ _ qo qx qy qz ho (Bool.eq_false_iff.2 hb)
  · cases h
theorem s_Place (o1 o2 o3 x1 x2 x3 y1 y2 y3 z1 z2 z3:Rat) (hF:okF o1 o2 o3 x1 x2 x3 y1 y2 y3 z1 z2 z3) (p1 p2 p3:Rat) (hp:okV p1 p2 p3):Ax.Pure Tryz.prog G 75 [tF (ratL o1) (ratL o2) (ratL o3) (ratL x1) (ratL x2) (ratL x3) (ratL y1) (ratL y2) (ratL y3) (ratL z1) (ratL z2) (ratL z3),tV (ratL p1) (ratL p2) (ratL p3)] (.tup [tV (txl (bigV (o1+(x1*p1+y1*p2+z1*p3)) (o2+(x2*p1+y2*p2+z2*p3)) (o3+(x3*p1+y3*p2+z3*p3))) (o1+(x1*p1+y1*p2+z1*p3))) (txl (bigV (o1+(x1*p1+y1*p2+z1*p3)) (o2+(x2*p1+y2*p2+z2*p3)) (o3+(x3*p1+y3*p2+z3*p3))) (o2+(x2*p1+y2*p2+z2*p3))) (txl (bigV (o1+(x1*p1+y1*p2+z1*p3)) (o2+(x2*p1+y2*p2+z2*p3)) (o3+(x3*p1+y3*p2+z3*p3))) (o3+(x3*p1+y3*p2+z3*p3))),N (exl (bigV (o1+(x1*p1+y1*p2+z1*p3)) (o2+(x2*p1+y2*p2+z2*p3)) (o3+(x3*p1+y3*p2+z3*p3))))]):=by
  obtain ⟨hx0,hy0,hz0,hor,hdt⟩:=axE_zero hF.2.2.2.2
  have c_c:=s_chkF hF
  have c_F:=s_FromFrame hF
  obtain ⟨⟨qo1,qo2,qo3⟩,⟨qx1,qx2,qx3⟩,⟨qy1,qy2,qy3⟩,⟨qz1,qz2,qz3⟩⟩:(Q 2400 o1∧Q 2400 o2∧Q 2400 o3)∧(Q 2400 x1∧Q 2400 x2∧Q 2400 x3)∧(Q 2400 y1∧Q 2400 y2∧Q 2400 y3)∧Q 2400 z1∧Q 2400 z2∧Q 2400 z3:=⟨okV_Q hF.1,okV_Q hF.2.1,okV_Q hF.2.2.1,okV_Q hF.2.2.2.1⟩
  obtain ⟨qp1,qp2,qp3⟩:=okV_Q hp
  have c_v:=s_chkV hp
  have c_p:=s_VFrom hp
  have c_pl:=c_Place o1 o2 o3 x1 x2 x3 y1 y2 y3 z1 z2 z3 p1 p2 p3 ⟨rz_of qo1 rfl,rz_of qo2 rfl,rz_of qo3 rfl,rz_of qx1 rfl,rz_of qx2 rfl,rz_of qx3 rfl,rz_of qy1 rfl,rz_of qy2 rfl,rz_of qy3 rfl,rz_of qz1 rfl,rz_of qz2 rfl,rz_of qz3 rfl,rz_of qp1 rfl,rz_of qp2 rfl,rz_of qp3 rfl⟩
  have c_g:=c_giveVec (k:=1000000) (by decide) (o1+(x1*p1+y1*p2+z1*p3)) (o2+(x2*p1+y2*p2+z2*p3)) (o3+(x3*p1+y3*p2+z3*p3)) ⟨Q_of (Q_add qo1 (Q_add (Q_add (Q_mul qx1 qp1) (Q_mul qy1 qp2)) (Q_mul qz1 qp3))) rfl,Q_of (Q_add qo2 (Q_add (Q_add (Q_mul qx2 qp1) (Q_mul qy2 qp2)) (Q_mul qz2 qp3))) rfl,Q_of (Q_add qo3 (Q_add (Q_add (Q_mul qx3 qp1) (Q_mul qy3 qp2)) (Q_mul qz3 qp3))) rfl⟩
  refine zen Tryz.func75 rfl Tryz.ntmps75 ?_
  intro w0 E0 hc
  repeat' (first|refine zR1 hc Tryz.results75 ?_|(with_reducible first|exact trivial|refine zan ?_ ?_|refine zim (fun h=>?_)|refine zoc c_c ?_ ?_|refine zoc c_v ?_ ?_|refine zoc s_first20 ?_ ?_|refine zoc c_F ?_ ?_|refine zoc c_p ?_ ?_|refine zoc c_pl ?_ ?_|refine zoc c_g ?_ ?_|fail)|((first|omega|exact absurd rfl (by assumption)|(refine nf1 ?_;assumption)|(refine nf2 ?_;assumption));done))
theorem s_Compose (o1 o2 o3 x1 x2 x3 y1 y2 y3 z1 z2 z3:Rat) (hF:okF o1 o2 o3 x1 x2 x3 y1 y2 y3 z1 z2 z3) (p1 p2 p3 a1 a2 a3 b1 b2 b3 c1 c2 c3:Rat) (hG:okF p1 p2 p3 a1 a2 a3 b1 b2 b3 c1 c2 c3) (hh:gvF (o1+(x1*p1+y1*p2+z1*p3)) (o2+(x2*p1+y2*p2+z2*p3)) (o3+(x3*p1+y3*p2+z3*p3)) (x1*a1+y1*a2+z1*a3) (x2*a1+y2*a2+z2*a3) (x3*a1+y3*a2+z3*a3) (x1*b1+y1*b2+z1*b3) (x2*b1+y2*b2+z2*b3) (x3*b1+y3*b2+z3*b3) (x1*c1+y1*c2+z1*c3) (x2*c1+y2*c2+z2*c3) (x3*c1+y3*c2+z3*c3)=0):Ax.Pure Tryz.prog G 60 [tF (ratL o1) (ratL o2) (ratL o3) (ratL x1) (ratL x2) (ratL x3) (ratL y1) (ratL y2) (ratL y3) (ratL z1) (ratL z2) (ratL z3),tF (ratL p1) (ratL p2) (ratL p3) (ratL a1) (ratL a2) (ratL a3) (ratL b1) (ratL b2) (ratL b3) (ratL c1) (ratL c2) (ratL c3)] (.tup [tF (ratL (o1+(x1*p1+y1*p2+z1*p3))) (ratL (o2+(x2*p1+y2*p2+z2*p3))) (ratL (o3+(x3*p1+y3*p2+z3*p3))) (ratL (x1*a1+y1*a2+z1*a3)) (ratL (x2*a1+y2*a2+z2*a3)) (ratL (x3*a1+y3*a2+z3*a3)) (ratL (x1*b1+y1*b2+z1*b3)) (ratL (x2*b1+y2*b2+z2*b3)) (ratL (x3*b1+y3*b2+z3*b3)) (ratL (x1*c1+y1*c2+z1*c3)) (ratL (x2*c1+y2*c2+z2*c3)) (ratL (x3*c1+y3*c2+z3*c3)),N 0]):=by
  obtain ⟨hx0,hy0,hz0,hor,hdt⟩:=axE_zero hF.2.2.2.2
  have c_c:=s_chkF hF
  have c_F:=s_FromFrame hF
  obtain ⟨⟨qo1,qo2,qo3⟩,⟨qx1,qx2,qx3⟩,⟨qy1,qy2,qy3⟩,⟨qz1,qz2,qz3⟩⟩:(Q 2400 o1∧Q 2400 o2∧Q 2400 o3)∧(Q 2400 x1∧Q 2400 x2∧Q 2400 x3)∧(Q 2400 y1∧Q 2400 y2∧Q 2400 y3)∧Q 2400 z1∧Q 2400 z2∧Q 2400 z3:=⟨okV_Q hF.1,okV_Q hF.2.1,okV_Q hF.2.2.1,okV_Q hF.2.2.2.1⟩
  have c_c2:=s_chkF hG
  have c_F2:=s_FromFrame hG
  obtain ⟨⟨qp1,qp2,qp3⟩,⟨qa1,qa2,qa3⟩,⟨qb1,qb2,qb3⟩,⟨qc1,qc2,qc3⟩⟩:(Q 2400 p1∧Q 2400 p2∧Q 2400 p3)∧(Q 2400 a1∧Q 2400 a2∧Q 2400 a3)∧(Q 2400 b1∧Q 2400 b2∧Q 2400 b3)∧Q 2400 c1∧Q 2400 c2∧Q 2400 c3:=⟨okV_Q hG.1,okV_Q hG.2.1,okV_Q hG.2.2.1,okV_Q hG.2.2.2.1⟩
  have c_pl:=c_Place o1 o2 o3 x1 x2 x3 y1 y2 y3 z1 z2 z3 p1 p2 p3 ⟨rz_of qo1 rfl,rz_of qo2 rfl,rz_of qo3 rfl,rz_of qx1 rfl,rz_of qx2 rfl,rz_of qx3 rfl,rz_of qy1 rfl,rz_of qy2 rfl,rz_of qy3 rfl,rz_of qz1 rfl,rz_of qz2 rfl,rz_of qz3 rfl,rz_of qp1 rfl,rz_of qp2 rfl,rz_of qp3 rfl⟩
  have c_ta:=c_Turn o1 o2 o3 x1 x2 x3 y1 y2 y3 z1 z2 z3 a1 a2 a3 ⟨rz_of qo1 rfl,rz_of qo2 rfl,rz_of qo3 rfl,rz_of qx1 rfl,rz_of qx2 rfl,rz_of qx3 rfl,rz_of qy1 rfl,rz_of qy2 rfl,rz_of qy3 rfl,rz_of qz1 rfl,rz_of qz2 rfl,rz_of qz3 rfl,rz_of qa1 rfl,rz_of qa2 rfl,rz_of qa3 rfl⟩
  have c_tb:=c_Turn o1 o2 o3 x1 x2 x3 y1 y2 y3 z1 z2 z3 b1 b2 b3 ⟨rz_of qo1 rfl,rz_of qo2 rfl,rz_of qo3 rfl,rz_of qx1 rfl,rz_of qx2 rfl,rz_of qx3 rfl,rz_of qy1 rfl,rz_of qy2 rfl,rz_of qy3 rfl,rz_of qz1 rfl,rz_of qz2 rfl,rz_of qz3 rfl,rz_of qb1 rfl,rz_of qb2 rfl,rz_of qb3 rfl⟩
  have c_tc:=c_Turn o1 o2 o3 x1 x2 x3 y1 y2 y3 z1 z2 z3 c1 c2 c3 ⟨rz_of qo1 rfl,rz_of qo2 rfl,rz_of qo3 rfl,rz_of qx1 rfl,rz_of qx2 rfl,rz_of qx3 rfl,rz_of qy1 rfl,rz_of qy2 rfl,rz_of qy3 rfl,rz_of qz1 rfl,rz_of qz2 rfl,rz_of qz3 rfl,rz_of qc1 rfl,rz_of qc2 rfl,rz_of qc3 rfl⟩
  have c_g:=c_giveF (k:=1000000) (by decide) (o1+(x1*p1+y1*p2+z1*p3)) (o2+(x2*p1+y2*p2+z2*p3)) (o3+(x3*p1+y3*p2+z3*p3)) (x1*a1+y1*a2+z1*a3) (x2*a1+y2*a2+z2*a3) (x3*a1+y3*a2+z3*a3) (x1*b1+y1*b2+z1*b3) (x2*b1+y2*b2+z2*b3) (x3*b1+y3*b2+z3*b3) (x1*c1+y1*c2+z1*c3) (x2*c1+y2*c2+z2*c3) (x3*c1+y3*c2+z3*c3) ⟨Q_of (Q_add qo1 (Q_add (Q_add (Q_mul qx1 qp1) (Q_mul qy1 qp2)) (Q_mul qz1 qp3))) rfl,Q_of (Q_add qo2 (Q_add (Q_add (Q_mul qx2 qp1) (Q_mul qy2 qp2)) (Q_mul qz2 qp3))) rfl,Q_of (Q_add qo3 (Q_add (Q_add (Q_mul qx3 qp1) (Q_mul qy3 qp2)) (Q_mul qz3 qp3))) rfl⟩ ⟨Q_of (Q_add (Q_add (Q_mul qx1 qa1) (Q_mul qy1 qa2)) (Q_mul qz1 qa3)) rfl,Q_of (Q_add (Q_add (Q_mul qx2 qa1) (Q_mul qy2 qa2)) (Q_mul qz2 qa3)) rfl,Q_of (Q_add (Q_add (Q_mul qx3 qa1) (Q_mul qy3 qa2)) (Q_mul qz3 qa3)) rfl⟩ ⟨Q_of (Q_add (Q_add (Q_mul qx1 qb1) (Q_mul qy1 qb2)) (Q_mul qz1 qb3)) rfl,Q_of (Q_add (Q_add (Q_mul qx2 qb1) (Q_mul qy2 qb2)) (Q_mul qz2 qb3)) rfl,Q_of (Q_add (Q_add (Q_mul qx3 qb1) (Q_mul qy3 qb2)) (Q_mul qz3 qb3)) rfl⟩ ⟨Q_of (Q_add (Q_add (Q_mul qx1 qc1) (Q_mul qy1 qc2)) (Q_mul qz1 qc3)) rfl,Q_of (Q_add (Q_add (Q_mul qx2 qc1) (Q_mul qy2 qc2)) (Q_mul qz2 qc3)) rfl,Q_of (Q_add (Q_add (Q_mul qx3 qc1) (Q_mul qy3 qc2)) (Q_mul qz3 qc3)) rfl⟩ hh
  refine zen Tryz.func60 rfl Tryz.ntmps60 ?_
  intro w0 E0 hc
  repeat' (first|refine zR1 hc Tryz.results60 ?_|(with_reducible first|exact trivial|refine zan ?_ ?_|refine zim (fun h=>?_)|refine zoc c_c ?_ ?_|refine zoc c_c2 ?_ ?_|refine zoc s_first20 ?_ ?_|refine zoc c_F ?_ ?_|refine zoc c_F2 ?_ ?_|refine zoc c_pl ?_ ?_|refine zoc c_ta ?_ ?_|refine zoc c_tb ?_ ?_|refine zoc c_tc ?_ ?_|refine zoc c_g ?_ ?_|fail)|((first|omega|exact absurd rfl (by assumption)|(refine nf1 ?_;assumption)|(refine nf2 ?_;assumption));done))
end Go.Proofs
end
