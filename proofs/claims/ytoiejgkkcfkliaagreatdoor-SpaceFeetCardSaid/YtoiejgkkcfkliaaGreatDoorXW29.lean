/- Lemmas on the program and its library: part XW29. -/
import Derived.Test.YtoiejgkkcfkliaaGreatDoorXFH
set_option linter.unusedVariables false
set_option linter.unusedSimpArgs false
section
set_option maxHeartbeats 4000000
set_option maxRecDepth 100000
namespace Go.Proofs
open Go.Ax
theorem err_first3 {a b c e:Int} (h:e=firstNZ [a,b,c]):Ax.Pure Tryz.prog G 143 [.one (.row 1 3 (fun i=> [[Leaf.v (.int .i64 a)],[Leaf.v (.int .i64 b)],[Leaf.v (.int .i64 c)]].getD i []))] (N e):=h ▸ c_first3 a b c
theorem s_Meet_err (h:H4) (p d:V3) (hs:shortH h) (hp:shortV p) (hd:shortV d) (he:firstNZ [fstH h,fstVec p,fstVec d]≠0):Ax.Pure Tryz.prog G 45 [txH h,txV p,txV d] (.tup [tV [] [] [],N (firstNZ [fstH h,fstVec p,fstVec d])]):=by
  have c_1:=s_CheckHalf hs
  have c_2:=s_CheckVec hp
  have c_3:=s_CheckVec hd
  have c_f:=err_first3 (a:=fstH h) (b:=fstVec p) (c:=fstVec d) rfl
  generalize firstNZ [fstH h,fstVec p,fstVec d]=e at *
  refine zen Tryz.func45 rfl Tryz.ntmps45 ?_
  intro w0 E0 hc
  repeat' (first|refine zR1 hc Tryz.results45 ?_|(with_reducible first|exact trivial|refine zan ?_ ?_|refine zim (fun h=>?_)|refine zoc c_1 ?_ ?_|refine zoc c_2 ?_ ?_|refine zoc c_3 ?_ ?_|refine zoc c_f ?_ ?_|fail)|((first|omega|exact absurd (by assumption) he);done))
theorem s_Meet0 (x y z:Int) (w:Rat) (hh:okH x y z w) (p1 p2 p3 d1 d2 d3:Rat) (hp:okV p1 p2 p3) (hd:okV d1 d2 d3) (h0:dot3 (x:Rat) (y:Rat) (z:Rat) d1 d2 d3=0):Ax.Pure Tryz.prog G 45 [tH x y z (ratL w),tV (ratL p1) (ratL p2) (ratL p3),tV (ratL d1) (ratL d2) (ratL d3)] (.tup [tV [] [] [],N 7]):=by
  have qx:=okI_Q hh.1.1
  have qy:=okI_Q hh.1.2.1
  have qz:=okI_Q hh.1.2.2
  have qw:=bigQ_Q hh.2.2
  obtain ⟨qp1,qp2,qp3⟩:=okV_Q hp
  obtain ⟨qd1,qd2,qd3⟩:=okV_Q hd
  have c_c:=s_chkH hh
  have c_h:=s_FromHalf hh
  have c_v:=s_chkV hp
  have c_p:=s_VFrom hp
  have c_vd:=s_chkV hd
  have c_d:=s_VFrom hd
  have c_sp:=c_Dot3 (k:=2400) (by decide) x y z d1 d2 d3 qx qy qz qd1 qd2 qd3
  have qsp:=Q_dot qx qy qz qd1 qd2 qd3
  have c_s:=c_FSign (dot3 (x:Rat) (y:Rat) (z:Rat) d1 d2 d3)
  have c_val:=c_Value x y z w p1 p2 p3 ⟨rz_of qx rfl,rz_of qy rfl,rz_of qz rfl,rz_of qw rfl,rz_of qp1 rfl,rz_of qp2 rfl,rz_of qp3 rfl⟩
  have hs0:=qsign_zero.2 h0
  refine zen Tryz.func45 rfl Tryz.ntmps45 ?_
  intro w0 E0 hc
  repeat' (first|refine zR1 hc Tryz.results45 ?_|(with_reducible first|exact trivial|refine zan ?_ ?_|refine zim (fun h=>?_)|refine zoc c_c ?_ ?_|refine zoc c_v ?_ ?_|refine zoc c_vd ?_ ?_|refine zoc s_first30 ?_ ?_|refine zoc c_h ?_ ?_|refine zoc c_p ?_ ?_|refine zoc c_d ?_ ?_|refine zoc c_sp ?_ ?_|refine zoc c_s ?_ ?_|refine zoc c_val ?_ ?_|fail)|((first|omega|exact absurd rfl (by assumption)|(refine nf1 ?_;assumption)|(refine nf2 ?_;assumption));done))
theorem s_toPlane_err (h:H4) (p:V3) (hs:shortH h) (hp:shortV p) (he:firstNZ [fstH h,fstVec p]≠0) (f:FuncId):Ax.Pure Tryz.prog G 171 [txH h,txV p,.one (.fn (.func f) [] [])] (.tup [tV [] [] [],N (firstNZ [fstH h,fstVec p])]):=by
  have c_c:=s_CheckHalf hs
  have c_v:=s_CheckVec hp
  have c_f:=err_first2 (a:=fstH h) (b:=fstVec p) rfl
  generalize firstNZ [fstH h,fstVec p]=e at *
  refine zen Tryz.func171 rfl Tryz.ntmps171 ?_
  intro w0 E0 hc
  repeat' (first|refine zR1 hc Tryz.results171 ?_|(with_reducible first|exact trivial|refine zan ?_ ?_|refine zim (fun h=>?_)|refine zoc c_c ?_ ?_|refine zoc c_v ?_ ?_|refine zoc c_f ?_ ?_|fail)|((first|omega|exact absurd (by assumption) he);done))
theorem s_Project_err (h:H4) (p:V3) (hs:shortH h) (hp:shortV p) (he:firstNZ [fstH h,fstVec p]≠0):Ax.Pure Tryz.prog G 46 [txH h,txV p] (.tup [tV [] [] [],N (firstNZ [fstH h,fstVec p])]):=by
  have c_t:=s_toPlane_err h p hs hp he 172
  refine zen Tryz.func46 rfl Tryz.ntmps46 ?_
  intro w0 E0 hc
  repeat' (first|refine zR1 hc Tryz.results46 ?_|(with_reducible first|exact trivial|refine zan ?_ ?_|refine zim (fun h=>?_)|refine zoc c_t ?_ ?_|fail)|(omega;done))
theorem s_Mirror_err (h:H4) (p:V3) (hs:shortH h) (hp:shortV p) (he:firstNZ [fstH h,fstVec p]≠0):Ax.Pure Tryz.prog G 48 [txH h,txV p] (.tup [tV [] [] [],N (firstNZ [fstH h,fstVec p])]):=by
  have c_t:=s_toPlane_err h p hs hp he 174
  refine zen Tryz.func48 rfl Tryz.ntmps48 ?_
  intro w0 E0 hc
  repeat' (first|refine zR1 hc Tryz.results48 ?_|(with_reducible first|exact trivial|refine zan ?_ ?_|refine zim (fun h=>?_)|refine zoc c_t ?_ ?_|fail)|(omega;done))
theorem s_Project (x y z:Int) (w:Rat) (hh:okH x y z w) (p1 p2 p3:Rat) (hp:okV p1 p2 p3):Ax.Pure Tryz.prog G 46 [tH x y z (ratL w),tV (ratL p1) (ratL p2) (ratL p3)] (.tup [tV (txl (bigV (p1+(x:Rat)*(-((dot3 (x:Rat) (y:Rat) (z:Rat) p1 p2 p3 - w) / dot3 (x:Rat) (y:Rat) (z:Rat) (x:Rat) (y:Rat) (z:Rat)))) (p2+(y:Rat)*(-((dot3 (x:Rat) (y:Rat) (z:Rat) p1 p2 p3 - w) / dot3 (x:Rat) (y:Rat) (z:Rat) (x:Rat) (y:Rat) (z:Rat)))) (p3+(z:Rat)*(-((dot3 (x:Rat) (y:Rat) (z:Rat) p1 p2 p3 - w) / dot3 (x:Rat) (y:Rat) (z:Rat) (x:Rat) (y:Rat) (z:Rat))))) (p1+(x:Rat)*(-((dot3 (x:Rat) (y:Rat) (z:Rat) p1 p2 p3 - w) / dot3 (x:Rat) (y:Rat) (z:Rat) (x:Rat) (y:Rat) (z:Rat))))) (txl (bigV (p1+(x:Rat)*(-((dot3 (x:Rat) (y:Rat) (z:Rat) p1 p2 p3 - w) / dot3 (x:Rat) (y:Rat) (z:Rat) (x:Rat) (y:Rat) (z:Rat)))) (p2+(y:Rat)*(-((dot3 (x:Rat) (y:Rat) (z:Rat) p1 p2 p3 - w) / dot3 (x:Rat) (y:Rat) (z:Rat) (x:Rat) (y:Rat) (z:Rat)))) (p3+(z:Rat)*(-((dot3 (x:Rat) (y:Rat) (z:Rat) p1 p2 p3 - w) / dot3 (x:Rat) (y:Rat) (z:Rat) (x:Rat) (y:Rat) (z:Rat))))) (p2+(y:Rat)*(-((dot3 (x:Rat) (y:Rat) (z:Rat) p1 p2 p3 - w) / dot3 (x:Rat) (y:Rat) (z:Rat) (x:Rat) (y:Rat) (z:Rat))))) (txl (bigV (p1+(x:Rat)*(-((dot3 (x:Rat) (y:Rat) (z:Rat) p1 p2 p3 - w) / dot3 (x:Rat) (y:Rat) (z:Rat) (x:Rat) (y:Rat) (z:Rat)))) (p2+(y:Rat)*(-((dot3 (x:Rat) (y:Rat) (z:Rat) p1 p2 p3 - w) / dot3 (x:Rat) (y:Rat) (z:Rat) (x:Rat) (y:Rat) (z:Rat)))) (p3+(z:Rat)*(-((dot3 (x:Rat) (y:Rat) (z:Rat) p1 p2 p3 - w) / dot3 (x:Rat) (y:Rat) (z:Rat) (x:Rat) (y:Rat) (z:Rat))))) (p3+(z:Rat)*(-((dot3 (x:Rat) (y:Rat) (z:Rat) p1 p2 p3 - w) / dot3 (x:Rat) (y:Rat) (z:Rat) (x:Rat) (y:Rat) (z:Rat))))),N (exl (bigV (p1+(x:Rat)*(-((dot3 (x:Rat) (y:Rat) (z:Rat) p1 p2 p3 - w) / dot3 (x:Rat) (y:Rat) (z:Rat) (x:Rat) (y:Rat) (z:Rat)))) (p2+(y:Rat)*(-((dot3 (x:Rat) (y:Rat) (z:Rat) p1 p2 p3 - w) / dot3 (x:Rat) (y:Rat) (z:Rat) (x:Rat) (y:Rat) (z:Rat)))) (p3+(z:Rat)*(-((dot3 (x:Rat) (y:Rat) (z:Rat) p1 p2 p3 - w) / dot3 (x:Rat) (y:Rat) (z:Rat) (x:Rat) (y:Rat) (z:Rat))))))]):=by
  obtain ⟨qp1,qp2,qp3⟩:=okV_Q hp
  obtain ⟨g1,g2,g3⟩:=Q_way hh hp
  have c_t:=s_toPlane x y z w hh p1 p2 p3 hp
  generalize (x:Rat)*(-((dot3 (x:Rat) (y:Rat) (z:Rat) p1 p2 p3 - w) / dot3 (x:Rat) (y:Rat) (z:Rat) (x:Rat) (y:Rat) (z:Rat)))=w1 at *
  generalize (y:Rat)*(-((dot3 (x:Rat) (y:Rat) (z:Rat) p1 p2 p3 - w) / dot3 (x:Rat) (y:Rat) (z:Rat) (x:Rat) (y:Rat) (z:Rat)))=w2 at *
  generalize (z:Rat)*(-((dot3 (x:Rat) (y:Rat) (z:Rat) p1 p2 p3 - w) / dot3 (x:Rat) (y:Rat) (z:Rat) (x:Rat) (y:Rat) (z:Rat)))=w3 at *
  have c_t:=c_t 172 (p1+w1) (p2+w2) (p3+w3) ⟨Q_of (Q_add qp1 g1) rfl,Q_of (Q_add qp2 g2) rfl,Q_of (Q_add qp3 g3) rfl⟩ (c_VAdd p1 p2 p3 w1 w2 w3 ⟨rz_of qp1 rfl,rz_of qp2 rfl,rz_of qp3 rfl,rz_of g1 rfl,rz_of g2 rfl,rz_of g3 rfl⟩)
  refine zen Tryz.func46 rfl Tryz.ntmps46 ?_
  intro w0 E0 hc
  repeat' (first|refine zR1 hc Tryz.results46 ?_|(with_reducible first|exact trivial|refine zan ?_ ?_|refine zim (fun h=>?_)|refine zoc c_t ?_ ?_|fail)|(omega;done))
theorem s_Distance_err (h:H4) (p:V3) (hs:shortH h) (hp:shortV p) (he:firstNZ [fstH h,fstVec p]≠0):Ax.Pure Tryz.prog G 47 [txH h,txV p] (.tup [S (bs []),N (firstNZ [fstH h,fstVec p])]):=by
  have c_c:=s_CheckHalf hs
  have c_v:=s_CheckVec hp
  have c_f:=err_first2 (a:=fstH h) (b:=fstVec p) rfl
  generalize firstNZ [fstH h,fstVec p]=e at *
  refine zen Tryz.func47 rfl Tryz.ntmps47 ?_
  intro w0 E0 hc
  repeat' (first|refine zR1 hc Tryz.results47 ?_|(with_reducible first|exact trivial|refine zan ?_ ?_|refine zim (fun h=>?_)|refine zoc c_c ?_ ?_|refine zoc c_v ?_ ?_|refine zoc c_f ?_ ?_|fail)|((first|omega|exact absurd (by assumption) he);done))
theorem s_Distance (x y z:Int) (w:Rat) (hh:okH x y z w) (p1 p2 p3:Rat) (hp:okV p1 p2 p3):Ax.Pure Tryz.prog G 47 [tH x y z (ratL w),tV (ratL p1) (ratL p2) (ratL p3)] (.tup [S (bs (txl (bigQ (dot3 ((x:Rat)*(-((dot3 (x:Rat) (y:Rat) (z:Rat) p1 p2 p3 - w) / dot3 (x:Rat) (y:Rat) (z:Rat) (x:Rat) (y:Rat) (z:Rat)))) ((y:Rat)*(-((dot3 (x:Rat) (y:Rat) (z:Rat) p1 p2 p3 - w) / dot3 (x:Rat) (y:Rat) (z:Rat) (x:Rat) (y:Rat) (z:Rat)))) ((z:Rat)*(-((dot3 (x:Rat) (y:Rat) (z:Rat) p1 p2 p3 - w) / dot3 (x:Rat) (y:Rat) (z:Rat) (x:Rat) (y:Rat) (z:Rat)))) ((x:Rat)*(-((dot3 (x:Rat) (y:Rat) (z:Rat) p1 p2 p3 - w) / dot3 (x:Rat) (y:Rat) (z:Rat) (x:Rat) (y:Rat) (z:Rat)))) ((y:Rat)*(-((dot3 (x:Rat) (y:Rat) (z:Rat) p1 p2 p3 - w) / dot3 (x:Rat) (y:Rat) (z:Rat) (x:Rat) (y:Rat) (z:Rat)))) ((z:Rat)*(-((dot3 (x:Rat) (y:Rat) (z:Rat) p1 p2 p3 - w) / dot3 (x:Rat) (y:Rat) (z:Rat) (x:Rat) (y:Rat) (z:Rat)))))) (dot3 ((x:Rat)*(-((dot3 (x:Rat) (y:Rat) (z:Rat) p1 p2 p3 - w) / dot3 (x:Rat) (y:Rat) (z:Rat) (x:Rat) (y:Rat) (z:Rat)))) ((y:Rat)*(-((dot3 (x:Rat) (y:Rat) (z:Rat) p1 p2 p3 - w) / dot3 (x:Rat) (y:Rat) (z:Rat) (x:Rat) (y:Rat) (z:Rat)))) ((z:Rat)*(-((dot3 (x:Rat) (y:Rat) (z:Rat) p1 p2 p3 - w) / dot3 (x:Rat) (y:Rat) (z:Rat) (x:Rat) (y:Rat) (z:Rat)))) ((x:Rat)*(-((dot3 (x:Rat) (y:Rat) (z:Rat) p1 p2 p3 - w) / dot3 (x:Rat) (y:Rat) (z:Rat) (x:Rat) (y:Rat) (z:Rat)))) ((y:Rat)*(-((dot3 (x:Rat) (y:Rat) (z:Rat) p1 p2 p3 - w) / dot3 (x:Rat) (y:Rat) (z:Rat) (x:Rat) (y:Rat) (z:Rat)))) ((z:Rat)*(-((dot3 (x:Rat) (y:Rat) (z:Rat) p1 p2 p3 - w) / dot3 (x:Rat) (y:Rat) (z:Rat) (x:Rat) (y:Rat) (z:Rat))))))),N (exl (bigQ (dot3 ((x:Rat)*(-((dot3 (x:Rat) (y:Rat) (z:Rat) p1 p2 p3 - w) / dot3 (x:Rat) (y:Rat) (z:Rat) (x:Rat) (y:Rat) (z:Rat)))) ((y:Rat)*(-((dot3 (x:Rat) (y:Rat) (z:Rat) p1 p2 p3 - w) / dot3 (x:Rat) (y:Rat) (z:Rat) (x:Rat) (y:Rat) (z:Rat)))) ((z:Rat)*(-((dot3 (x:Rat) (y:Rat) (z:Rat) p1 p2 p3 - w) / dot3 (x:Rat) (y:Rat) (z:Rat) (x:Rat) (y:Rat) (z:Rat)))) ((x:Rat)*(-((dot3 (x:Rat) (y:Rat) (z:Rat) p1 p2 p3 - w) / dot3 (x:Rat) (y:Rat) (z:Rat) (x:Rat) (y:Rat) (z:Rat)))) ((y:Rat)*(-((dot3 (x:Rat) (y:Rat) (z:Rat) p1 p2 p3 - w) / dot3 (x:Rat) (y:Rat) (z:Rat) (x:Rat) (y:Rat) (z:Rat)))) ((z:Rat)*(-((dot3 (x:Rat) (y:Rat) (z:Rat) p1 p2 p3 - w) / dot3 (x:Rat) (y:Rat) (z:Rat) (x:Rat) (y:Rat) (z:Rat)))))))]):=by
  have c_c:=s_chkH hh
  have c_h:=s_FromHalf hh
  have c_v:=s_chkV hp
  have c_p:=s_VFrom hp
  obtain ⟨g1,g2,g3⟩:=Q_way hh hp
  have c_w:=c_way x y z w hh p1 p2 p3 hp
  generalize (x:Rat)*(-((dot3 (x:Rat) (y:Rat) (z:Rat) p1 p2 p3 - w) / dot3 (x:Rat) (y:Rat) (z:Rat) (x:Rat) (y:Rat) (z:Rat)))=w1 at *
  generalize (y:Rat)*(-((dot3 (x:Rat) (y:Rat) (z:Rat) p1 p2 p3 - w) / dot3 (x:Rat) (y:Rat) (z:Rat) (x:Rat) (y:Rat) (z:Rat)))=w2 at *
  generalize (z:Rat)*(-((dot3 (x:Rat) (y:Rat) (z:Rat) p1 p2 p3 - w) / dot3 (x:Rat) (y:Rat) (z:Rat) (x:Rat) (y:Rat) (z:Rat)))=w3 at *
  have c_d:=c_Dot3 (k:=60000) (by decide) w1 w2 w3 w1 w2 w3 g1 g2 g3 g1 g2 g3
  have c_g:=c_give (k:=360002) (by decide) _ (Q_of (Q_dot g1 g2 g3 g1 g2 g3) rfl)
  refine zen Tryz.func47 rfl Tryz.ntmps47 ?_
  intro w0 E0 hc
  repeat' (first|refine zR1 hc Tryz.results47 ?_|(with_reducible first|exact trivial|refine zan ?_ ?_|refine zim (fun h=>?_)|refine zoc c_c ?_ ?_|refine zoc c_v ?_ ?_|refine zoc s_first20 ?_ ?_|refine zoc c_h ?_ ?_|refine zoc c_p ?_ ?_|refine zoc c_w ?_ ?_|refine zoc c_d ?_ ?_|refine zoc c_g ?_ ?_|fail)|((first|omega|exact absurd rfl (by assumption)|(refine nf1 ?_;assumption)|(refine nf2 ?_;assumption));done))
end Go.Proofs
end
