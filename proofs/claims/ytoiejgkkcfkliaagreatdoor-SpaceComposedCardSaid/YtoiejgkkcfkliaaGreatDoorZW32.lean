/- Lemmas on the program and its library: part ZW32. -/
import Derived.Test.YtoiejgkkcfkliaaGreatDoorZW29
import Derived.Test.YtoiejgkkcfkliaaGreatDoorZW31
set_option linter.unusedVariables false
set_option linter.unusedSimpArgs false
section
set_option maxHeartbeats 4000000
set_option maxRecDepth 100000
namespace Go.Proofs
open Go.Ax
def okF (o1 o2 o3 x1 x2 x3 y1 y2 y3 z1 z2 z3:Rat):Prop:=okV o1 o2 o3∧okV x1 x2 x3∧okV y1 y2 y3∧okV z1 z2 z3∧axE x1 x2 x3 y1 y2 y3 z1 z2 z3=0
def b6z (x1 x2 x3 y1 y2 y3 z1 z2 z3:Rat):Prop:=c7 x1 x2 x3 y1 y2 y3=0∧c7 y1 y2 y3 z1 z2 z3=0∧c7 z1 z2 z3 x1 x2 x3=0
theorem a2t {x1 x2 x3 y1 y2 y3 z1 z2 z3:Rat} (h:axE x1 x2 x3 y1 y2 y3 z1 z2 z3=0):¬(x1=0∧x2=0∧x3=0)∧¬(y1=0∧y2=0∧y3=0)∧¬(z1=0∧z2=0∧z3=0)∧b6z x1 x2 x3 y1 y2 y3 z1 z2 z3∧0 < a94 x1 x2 x3 y1 y2 y3 z1 z2 z3:=by
  unfold axE at h
  split at h
  · cases h
  rename_i hz
  split at h
  · rename_i ho
    exact ⟨fun h=>hz ⟨0,decide_eq_true h⟩,fun h=>hz ⟨1,decide_eq_true h⟩,fun h=>hz ⟨2,decide_eq_true h⟩,ho.1,ho.2⟩
  · cases h
theorem b1s {o1 o2 o3 x1 x2 x3 y1 y2 y3 z1 z2 z3:Rat} (h:okF o1 o2 o3 x1 x2 x3 y1 y2 y3 z1 z2 z3):Ax.Pure Tryz.prog G 92 [tF (c5 o1) (c5 o2) (c5 o3) (c5 x1) (c5 x2) (c5 x3) (c5 y1) (c5 y2) (c5 y3) (c5 z1) (c5 z2) (c5 z3)] (N 0):=by
  have:=b5l o1 o2 o3 x1 x2 x3 y1 y2 y3 z1 z2 z3 h.1 h.2.1 h.2.2.1 h.2.2.2.1
  rwa [h.2.2.2.2] at this
theorem a2m {o1 o2 o3 x1 x2 x3 y1 y2 y3 z1 z2 z3:Rat} (h:okF o1 o2 o3 x1 x2 x3 y1 y2 y3 z1 z2 z3):Ax.Pure Tryz.prog G 145 [tF (c5 o1) (c5 o2) (c5 o3) (c5 x1) (c5 x2) (c5 x3) (c5 y1) (c5 y2) (c5 y3) (c5 z1) (c5 z2) (c5 z3)] (fA o1 o2 o3 x1 x2 x3 y1 y2 y3 z1 z2 z3):=b7u (k:=2400) (by decide) o1 o2 o3 x1 x2 x3 y1 y2 y3 z1 z2 z3 (s9 h.1) (s9 h.2.1) (s9 h.2.2.1) (s9 h.2.2.2.1)
theorem c_wt (e:Int):Ax.Pure Tryz.prog G 153 [Bo true,N e] (N e):=a91 true e
theorem c_wf (e:Int):Ax.Pure Tryz.prog G 153 [Bo false,N e] (N 0):=a91 false e
theorem c98 (e:Int):Ax.Pure Tryz.prog G 153 [Bo (!true),N e] (N 0):=a91 false e
theorem c97 (e:Int):Ax.Pure Tryz.prog G 153 [Bo (!false),N e] (N e):=a91 true e
def gvF (o1 o2 o3 x1 x2 x3 y1 y2 y3 z1 z2 z3:Rat):Int:=if c7 x1 x2 x3 y1 y2 y3=0∧c7 y1 y2 y3 z1 z2 z3=0∧c7 z1 z2 z3 x1 x2 x3=0 then (if b3j o1 o2 o3 x1 x2 x3 y1 y2 y3 z1 z2 z3=true then 4 else 0) else 15
theorem d9n {k:Nat} (hk:k≤1000000) (o1 o2 o3 x1 x2 x3 y1 y2 y3 z1 z2 z3:Rat) (qo:Q k o1∧Q k o2∧Q k o3) (qx:Q k x1∧Q k x2∧Q k x3) (qy:Q k y1∧Q k y2∧Q k y3) (qz:Q k z1∧Q k z2∧Q k z3) (ho:(c7 x1 x2 x3 y1 y2 y3=0∧c7 y1 y2 y3 z1 z2 z3=0∧c7 z1 z2 z3 x1 x2 x3=0)) (hb:b3j o1 o2 o3 x1 x2 x3 y1 y2 y3 z1 z2 z3=false):Ax.Pure Tryz.prog G 178 [fA o1 o2 o3 x1 x2 x3 y1 y2 y3 z1 z2 z3] (.tup [tF (c5 o1) (c5 o2) (c5 o3) (c5 x1) (c5 x2) (c5 x3) (c5 y1) (c5 y2) (c5 y3) (c5 z1) (c5 z2) (c5 z3),N 0]):=by
  have c_o:=b07 o1 o2 o3 x1 x2 x3 y1 y2 y3 z1 z2 z3 hk qx qy qz
  have c_l:=b14 hk o1 o2 o3 x1 x2 x3 y1 y2 y3 z1 z2 z3 qo qx qy qz
  have c_t:=b4m hk o1 o2 o3 x1 x2 x3 y1 y2 y3 z1 z2 z3 qo qx qy qz
  rw [decide_eq_true ho] at c_o
  rw [hb] at c_l
  have c_f:=(show Ax.Pure Tryz.prog G 143 [.one (.row 1 2 (fun i=> [[i7.v (.int .i64 0)],[i7.v (.int .i64 0)]].getD i []))] (N 0) from a4l 0 0)
  refine r8 Tryz.func178 rfl Tryz.ntmps178 ?_
  intro w0 E0 hc
  repeat' (first|refine n7 hc Tryz.results178 ?_|(with_reducible first|exact trivial|refine j3 ?_ ?_|refine m8 (fun h=>?_)|refine c9 c_o ?_ ?_|refine c9 c_l ?_ ?_|refine c9 c_t ?_ ?_|refine c9 (c_wt _) ?_ ?_|refine c9 (c_wf _) ?_ ?_|refine c9 (c98 _) ?_ ?_|refine c9 (c97 _) ?_ ?_|refine c9 c_f ?_ ?_|fail)|((first|omega|exact absurd rfl (by assumption)|(refine nf1 ?_;assumption)|(refine nf2 ?_;assumption));done))
theorem c3l {k:Nat} (hk:k≤1000000) (o1 o2 o3 x1 x2 x3 y1 y2 y3 z1 z2 z3:Rat) (qo:Q k o1∧Q k o2∧Q k o3) (qx:Q k x1∧Q k x2∧Q k x3) (qy:Q k y1∧Q k y2∧Q k y3) (qz:Q k z1∧Q k z2∧Q k z3) (h:gvF o1 o2 o3 x1 x2 x3 y1 y2 y3 z1 z2 z3=0):Ax.Pure Tryz.prog G 178 [fA o1 o2 o3 x1 x2 x3 y1 y2 y3 z1 z2 z3] (.tup [tF (c5 o1) (c5 o2) (c5 o3) (c5 x1) (c5 x2) (c5 x3) (c5 y1) (c5 y2) (c5 y3) (c5 z1) (c5 z2) (c5 z3),N 0]):=by
  unfold gvF at h
  split at h
  · rename_i ho
    split at h
    · cases h
    · rename_i hb
      exact d9n hk _ _ _ _ _ _ _ _ _ _ _ _ qo qx qy qz ho (Bool.eq_false_iff.2 hb)
  · cases h
theorem d9k (o1 o2 o3 x1 x2 x3 y1 y2 y3 z1 z2 z3:Rat) (hF:okF o1 o2 o3 x1 x2 x3 y1 y2 y3 z1 z2 z3) (p1 p2 p3:Rat) (hp:okV p1 p2 p3):Ax.Pure Tryz.prog G 75 [tF (c5 o1) (c5 o2) (c5 o3) (c5 x1) (c5 x2) (c5 x3) (c5 y1) (c5 y2) (c5 y3) (c5 z1) (c5 z2) (c5 z3),tV (c5 p1) (c5 p2) (c5 p3)] (.tup [tV (txl (a1i (o1+(x1*p1+y1*p2+z1*p3)) (o2+(x2*p1+y2*p2+z2*p3)) (o3+(x3*p1+y3*p2+z3*p3))) (o1+(x1*p1+y1*p2+z1*p3))) (txl (a1i (o1+(x1*p1+y1*p2+z1*p3)) (o2+(x2*p1+y2*p2+z2*p3)) (o3+(x3*p1+y3*p2+z3*p3))) (o2+(x2*p1+y2*p2+z2*p3))) (txl (a1i (o1+(x1*p1+y1*p2+z1*p3)) (o2+(x2*p1+y2*p2+z2*p3)) (o3+(x3*p1+y3*p2+z3*p3))) (o3+(x3*p1+y3*p2+z3*p3))),N (exl (a1i (o1+(x1*p1+y1*p2+z1*p3)) (o2+(x2*p1+y2*p2+z2*p3)) (o3+(x3*p1+y3*p2+z3*p3))))]):=by
  obtain ⟨hx0,hy0,hz0,hor,hdt⟩:=a2t hF.2.2.2.2
  have c_c:=b1s hF
  have c_F:=a2m hF
  obtain ⟨⟨qo1,qo2,qo3⟩,⟨qx1,qx2,qx3⟩,⟨qy1,qy2,qy3⟩,⟨qz1,qz2,qz3⟩⟩:(Q 2400 o1∧Q 2400 o2∧Q 2400 o3)∧(Q 2400 x1∧Q 2400 x2∧Q 2400 x3)∧(Q 2400 y1∧Q 2400 y2∧Q 2400 y3)∧Q 2400 z1∧Q 2400 z2∧Q 2400 z3:=⟨s9 hF.1,s9 hF.2.1,s9 hF.2.2.1,s9 hF.2.2.2.1⟩
  obtain ⟨qp1,qp2,qp3⟩:=s9 hp
  have c_v:=b68 hp
  have c_p:=a34 hp
  have c_pl:=c3b o1 o2 o3 x1 x2 x3 y1 y2 y3 z1 z2 z3 p1 p2 p3 ⟨c8 qo1 rfl,c8 qo2 rfl,c8 qo3 rfl,c8 qx1 rfl,c8 qx2 rfl,c8 qx3 rfl,c8 qy1 rfl,c8 qy2 rfl,c8 qy3 rfl,c8 qz1 rfl,c8 qz2 rfl,c8 qz3 rfl,c8 qp1 rfl,c8 qp2 rfl,c8 qp3 rfl⟩
  have c_g:=b6k (k:=1000000) (by decide) (o1+(x1*p1+y1*p2+z1*p3)) (o2+(x2*p1+y2*p2+z2*p3)) (o3+(x3*p1+y3*p2+z3*p3)) ⟨j4 (f0 qo1 (f0 (f0 (c6 qx1 qp1) (c6 qy1 qp2)) (c6 qz1 qp3))) rfl,j4 (f0 qo2 (f0 (f0 (c6 qx2 qp1) (c6 qy2 qp2)) (c6 qz2 qp3))) rfl,j4 (f0 qo3 (f0 (f0 (c6 qx3 qp1) (c6 qy3 qp2)) (c6 qz3 qp3))) rfl⟩
  refine r8 Tryz.func75 rfl Tryz.ntmps75 ?_
  intro w0 E0 hc
  repeat' (first|refine n7 hc Tryz.results75 ?_|(with_reducible first|exact trivial|refine j3 ?_ ?_|refine m8 (fun h=>?_)|refine c9 c_c ?_ ?_|refine c9 c_v ?_ ?_|refine c9 a5f ?_ ?_|refine c9 c_F ?_ ?_|refine c9 c_p ?_ ?_|refine c9 c_pl ?_ ?_|refine c9 c_g ?_ ?_|fail)|((first|omega|exact absurd rfl (by assumption)|(refine nf1 ?_;assumption)|(refine nf2 ?_;assumption));done))
theorem c2f (o1 o2 o3 x1 x2 x3 y1 y2 y3 z1 z2 z3:Rat) (hF:okF o1 o2 o3 x1 x2 x3 y1 y2 y3 z1 z2 z3) (p1 p2 p3 a1 a2 a3 b1 b2 b3 c1 c2 c3:Rat) (hG:okF p1 p2 p3 a1 a2 a3 b1 b2 b3 c1 c2 c3) (hh:gvF (o1+(x1*p1+y1*p2+z1*p3)) (o2+(x2*p1+y2*p2+z2*p3)) (o3+(x3*p1+y3*p2+z3*p3)) (x1*a1+y1*a2+z1*a3) (x2*a1+y2*a2+z2*a3) (x3*a1+y3*a2+z3*a3) (x1*b1+y1*b2+z1*b3) (x2*b1+y2*b2+z2*b3) (x3*b1+y3*b2+z3*b3) (x1*c1+y1*c2+z1*c3) (x2*c1+y2*c2+z2*c3) (x3*c1+y3*c2+z3*c3)=0):Ax.Pure Tryz.prog G 60 [tF (c5 o1) (c5 o2) (c5 o3) (c5 x1) (c5 x2) (c5 x3) (c5 y1) (c5 y2) (c5 y3) (c5 z1) (c5 z2) (c5 z3),tF (c5 p1) (c5 p2) (c5 p3) (c5 a1) (c5 a2) (c5 a3) (c5 b1) (c5 b2) (c5 b3) (c5 c1) (c5 c2) (c5 c3)] (.tup [tF (c5 (o1+(x1*p1+y1*p2+z1*p3))) (c5 (o2+(x2*p1+y2*p2+z2*p3))) (c5 (o3+(x3*p1+y3*p2+z3*p3))) (c5 (x1*a1+y1*a2+z1*a3)) (c5 (x2*a1+y2*a2+z2*a3)) (c5 (x3*a1+y3*a2+z3*a3)) (c5 (x1*b1+y1*b2+z1*b3)) (c5 (x2*b1+y2*b2+z2*b3)) (c5 (x3*b1+y3*b2+z3*b3)) (c5 (x1*c1+y1*c2+z1*c3)) (c5 (x2*c1+y2*c2+z2*c3)) (c5 (x3*c1+y3*c2+z3*c3)),N 0]):=by
  obtain ⟨hx0,hy0,hz0,hor,hdt⟩:=a2t hF.2.2.2.2
  have c_c:=b1s hF
  have c_F:=a2m hF
  obtain ⟨⟨qo1,qo2,qo3⟩,⟨qx1,qx2,qx3⟩,⟨qy1,qy2,qy3⟩,⟨qz1,qz2,qz3⟩⟩:(Q 2400 o1∧Q 2400 o2∧Q 2400 o3)∧(Q 2400 x1∧Q 2400 x2∧Q 2400 x3)∧(Q 2400 y1∧Q 2400 y2∧Q 2400 y3)∧Q 2400 z1∧Q 2400 z2∧Q 2400 z3:=⟨s9 hF.1,s9 hF.2.1,s9 hF.2.2.1,s9 hF.2.2.2.1⟩
  have c_c2:=b1s hG
  have c_F2:=a2m hG
  obtain ⟨⟨qp1,qp2,qp3⟩,⟨qa1,qa2,qa3⟩,⟨qb1,qb2,qb3⟩,⟨qc1,qc2,qc3⟩⟩:(Q 2400 p1∧Q 2400 p2∧Q 2400 p3)∧(Q 2400 a1∧Q 2400 a2∧Q 2400 a3)∧(Q 2400 b1∧Q 2400 b2∧Q 2400 b3)∧Q 2400 c1∧Q 2400 c2∧Q 2400 c3:=⟨s9 hG.1,s9 hG.2.1,s9 hG.2.2.1,s9 hG.2.2.2.1⟩
  have c_pl:=c3b o1 o2 o3 x1 x2 x3 y1 y2 y3 z1 z2 z3 p1 p2 p3 ⟨c8 qo1 rfl,c8 qo2 rfl,c8 qo3 rfl,c8 qx1 rfl,c8 qx2 rfl,c8 qx3 rfl,c8 qy1 rfl,c8 qy2 rfl,c8 qy3 rfl,c8 qz1 rfl,c8 qz2 rfl,c8 qz3 rfl,c8 qp1 rfl,c8 qp2 rfl,c8 qp3 rfl⟩
  have c_ta:=b3n o1 o2 o3 x1 x2 x3 y1 y2 y3 z1 z2 z3 a1 a2 a3 ⟨c8 qo1 rfl,c8 qo2 rfl,c8 qo3 rfl,c8 qx1 rfl,c8 qx2 rfl,c8 qx3 rfl,c8 qy1 rfl,c8 qy2 rfl,c8 qy3 rfl,c8 qz1 rfl,c8 qz2 rfl,c8 qz3 rfl,c8 qa1 rfl,c8 qa2 rfl,c8 qa3 rfl⟩
  have c_tb:=b3n o1 o2 o3 x1 x2 x3 y1 y2 y3 z1 z2 z3 b1 b2 b3 ⟨c8 qo1 rfl,c8 qo2 rfl,c8 qo3 rfl,c8 qx1 rfl,c8 qx2 rfl,c8 qx3 rfl,c8 qy1 rfl,c8 qy2 rfl,c8 qy3 rfl,c8 qz1 rfl,c8 qz2 rfl,c8 qz3 rfl,c8 qb1 rfl,c8 qb2 rfl,c8 qb3 rfl⟩
  have c_tc:=b3n o1 o2 o3 x1 x2 x3 y1 y2 y3 z1 z2 z3 c1 c2 c3 ⟨c8 qo1 rfl,c8 qo2 rfl,c8 qo3 rfl,c8 qx1 rfl,c8 qx2 rfl,c8 qx3 rfl,c8 qy1 rfl,c8 qy2 rfl,c8 qy3 rfl,c8 qz1 rfl,c8 qz2 rfl,c8 qz3 rfl,c8 qc1 rfl,c8 qc2 rfl,c8 qc3 rfl⟩
  have c_g:=c3l (k:=1000000) (by decide) (o1+(x1*p1+y1*p2+z1*p3)) (o2+(x2*p1+y2*p2+z2*p3)) (o3+(x3*p1+y3*p2+z3*p3)) (x1*a1+y1*a2+z1*a3) (x2*a1+y2*a2+z2*a3) (x3*a1+y3*a2+z3*a3) (x1*b1+y1*b2+z1*b3) (x2*b1+y2*b2+z2*b3) (x3*b1+y3*b2+z3*b3) (x1*c1+y1*c2+z1*c3) (x2*c1+y2*c2+z2*c3) (x3*c1+y3*c2+z3*c3) ⟨j4 (f0 qo1 (f0 (f0 (c6 qx1 qp1) (c6 qy1 qp2)) (c6 qz1 qp3))) rfl,j4 (f0 qo2 (f0 (f0 (c6 qx2 qp1) (c6 qy2 qp2)) (c6 qz2 qp3))) rfl,j4 (f0 qo3 (f0 (f0 (c6 qx3 qp1) (c6 qy3 qp2)) (c6 qz3 qp3))) rfl⟩ ⟨j4 (f0 (f0 (c6 qx1 qa1) (c6 qy1 qa2)) (c6 qz1 qa3)) rfl,j4 (f0 (f0 (c6 qx2 qa1) (c6 qy2 qa2)) (c6 qz2 qa3)) rfl,j4 (f0 (f0 (c6 qx3 qa1) (c6 qy3 qa2)) (c6 qz3 qa3)) rfl⟩ ⟨j4 (f0 (f0 (c6 qx1 qb1) (c6 qy1 qb2)) (c6 qz1 qb3)) rfl,j4 (f0 (f0 (c6 qx2 qb1) (c6 qy2 qb2)) (c6 qz2 qb3)) rfl,j4 (f0 (f0 (c6 qx3 qb1) (c6 qy3 qb2)) (c6 qz3 qb3)) rfl⟩ ⟨j4 (f0 (f0 (c6 qx1 qc1) (c6 qy1 qc2)) (c6 qz1 qc3)) rfl,j4 (f0 (f0 (c6 qx2 qc1) (c6 qy2 qc2)) (c6 qz2 qc3)) rfl,j4 (f0 (f0 (c6 qx3 qc1) (c6 qy3 qc2)) (c6 qz3 qc3)) rfl⟩ hh
  refine r8 Tryz.func60 rfl Tryz.ntmps60 ?_
  intro w0 E0 hc
  repeat' (first|refine n7 hc Tryz.results60 ?_|(with_reducible first|exact trivial|refine j3 ?_ ?_|refine m8 (fun h=>?_)|refine c9 c_c ?_ ?_|refine c9 c_c2 ?_ ?_|refine c9 a5f ?_ ?_|refine c9 c_F ?_ ?_|refine c9 c_F2 ?_ ?_|refine c9 c_pl ?_ ?_|refine c9 c_ta ?_ ?_|refine c9 c_tb ?_ ?_|refine c9 c_tc ?_ ?_|refine c9 c_g ?_ ?_|fail)|((first|omega|exact absurd rfl (by assumption)|(refine nf1 ?_;assumption)|(refine nf2 ?_;assumption));done))
end Go.Proofs
end
