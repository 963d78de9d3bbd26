/- Lemmas on the program and its library: part XHm. -/
import Derived.Test.YtoiejgkkcfkliaaGreatDoorXFH
import Derived.Test.YtoiejgkkcfkliaaGreatDoorXW28
set_option linter.unusedVariables false
set_option linter.unusedSimpArgs false
section
set_option maxHeartbeats 4000000
set_option maxRecDepth 100000
namespace Go.Proofs
open Go.Ax
theorem c_giveH_no {k:Nat} (hk:k≤100000) (a b c d:Rat) (h0:¬(a=0∧b=0∧c=0)) (ha:Q k a) (hb:Q k b) (hc:Q k c) (hd:Q k d) (h:¬hOk a b c d):Ax.Pure Tryz.prog G 144 [hA a b c d] (.tup [tH 0 0 0 [],N 4]):=
  c_giveHalf_no (k:=k+((3*k+1)+(k+3*k+1))) (by omega) a b c d _ _ _ _ (c_Normal (k:=k) (by omega) a b c d h0 ha hb hc hd) (Q_mul hd (Q_nrm ha hb hc)) h
theorem s_MakeHalf_err (n:V3) (d:List UInt8) (hn:shortV n) (hd:d.length≤900000) (he:firstNZ [fstVec n,checkL d]≠0):Ax.Pure Tryz.prog G 38 [txV n,S (bs d)] (.tup [tH 0 0 0 [],N (firstNZ [fstVec n,checkL d])]):=by
  have c_v:=s_CheckVec hn
  have c_d:=c_Check d hd
  have c_f:=err_first2 (a:=fstVec n) (b:=checkL d) rfl
  generalize firstNZ [fstVec n,checkL d]=e at *
  refine zen Tryz.func38 rfl Tryz.ntmps38 ?_
  intro w0 E0 hc
  repeat' (first|refine zR1 hc Tryz.results38 ?_|(with_reducible first|exact trivial|refine zan ?_ ?_|refine zim (fun h=>?_)|refine zoc c_v ?_ ?_|refine zoc c_d ?_ ?_|refine zoc c_f ?_ ?_|fail)|((first|omega|exact absurd (by assumption) he);done))
theorem s_MakeHalf0 (d:Rat) (hd:bigQ d=false):Ax.Pure Tryz.prog G 38 [tV (ratL 0) (ratL 0) (ratL 0),S (bs (ratL d))] (.tup [tH 0 0 0 [],N 6]):=by
  have hn:okV 0 0 0:=⟨ok_zero,ok_zero,ok_zero⟩
  have c_v:=s_chkV hn
  have c_d:=s_chk hd
  have c_n:=s_VFrom hn
  have c_w:=s_From hd
  have c_z:=c_IsZero 0 0 0
  rw [decide_eq_true ⟨rfl,rfl,rfl⟩] at c_z
  refine zen Tryz.func38 rfl Tryz.ntmps38 ?_
  intro w0 E0 hc
  repeat' (first|refine zR1 hc Tryz.results38 ?_|(with_reducible first|exact trivial|refine zan ?_ ?_|refine zim (fun h=>?_)|refine zoc c_v ?_ ?_|refine zoc c_d ?_ ?_|refine zoc s_first20 ?_ ?_|refine zoc c_n ?_ ?_|refine zoc c_w ?_ ?_|refine zoc c_z ?_ ?_|fail)|((first|omega|exact absurd rfl (by assumption)|(refine nf1 ?_;assumption)|(refine nf2 ?_;assumption));done))
theorem s_MakeHalf_no (n1 n2 n3:Rat) (d:Rat) (hn:okV n1 n2 n3) (hd:bigQ d=false) (h0:¬(n1=0∧n2=0∧n3=0)) (hh:¬hOk n1 n2 n3 d):Ax.Pure Tryz.prog G 38 [tV (ratL n1) (ratL n2) (ratL n3),S (bs (ratL d))] (.tup [tH 0 0 0 [],N 4]):=by
  obtain ⟨qn1,qn2,qn3⟩:=okV_Q hn
  have qd:=bigQ_Q hd
  have c_v:=s_chkV hn
  have c_d:=s_chk hd
  have c_n:=s_VFrom hn
  have c_w:=s_From hd
  have c_z:=c_IsZero n1 n2 n3
  rw [decide_eq_false h0] at c_z
  have c_g:=c_giveH_no (k:=2400) (by decide) n1 n2 n3 d h0 qn1 qn2 qn3 qd hh
  refine zen Tryz.func38 rfl Tryz.ntmps38 ?_
  intro w0 E0 hc
  repeat' (first|refine zR1 hc Tryz.results38 ?_|(with_reducible first|exact trivial|refine zan ?_ ?_|refine zim (fun h=>?_)|refine zoc c_v ?_ ?_|refine zoc c_d ?_ ?_|refine zoc s_first20 ?_ ?_|refine zoc c_n ?_ ?_|refine zoc c_w ?_ ?_|refine zoc c_z ?_ ?_|refine zoc c_g ?_ ?_|fail)|((first|omega|exact absurd rfl (by assumption)|(refine nf1 ?_;assumption)|(refine nf2 ?_;assumption));done))
theorem s_Opposite_err (h:H4) (hs:shortH h) (he:fstH h≠0):Ax.Pure Tryz.prog G 41 [txH h] (.tup [tH 0 0 0 [],N (fstH h)]):=by
  have c_c:=s_CheckHalf hs
  generalize fstH h=e at *
  refine zen Tryz.func41 rfl Tryz.ntmps41 ?_
  intro w0 E0 hc
  repeat' (first|refine zR1 hc Tryz.results41 ?_|(with_reducible first|exact trivial|refine zan ?_ ?_|refine zim (fun h=>?_)|refine zoc c_c ?_ ?_|fail)|((first|omega|exact absurd (by assumption) he);done))
theorem dnm_int (x y z:Int):dnm (x:Rat) (y:Rat) (z:Rat) 3=1:=by
  show lc (lc (lc 1 (x:Rat).den) (y:Rat).den) (z:Rat).den=1
  rw [Rat.den_intCast,Rat.den_intCast,Rat.den_intCast];rfl
theorem nmr_int (x:Int):nmr (x:Rat) 1=x.natAbs:=by
  unfold nmr
  rw [show ((1:Nat):Rat)=1 from rfl,Rat.mul_one,Rat.num_intCast]
theorem nrm_int {x y z:Int} (h:gcdN x y z 3=1):nrm (x:Rat) (y:Rat) (z:Rat)=1:=by
  have e:cmn (x:Rat) (y:Rat) (z:Rat) 1 3=gcdN x y z 3:=by
    show Nat.gcd (Nat.gcd (Nat.gcd 0 (nmr x 1)) (nmr y 1)) (nmr z 1)=_
    rw [nmr_int,nmr_int,nmr_int];rfl
  unfold nrm
  rw [dnm_int,e,h,show ((1:Nat):Rat)=1 from rfl,Rat.div_def,Rat.one_mul]
  exact Rat.inv_eq_of_mul_eq_one (Rat.one_mul 1)
theorem gcdN_neg (x y z:Int):gcdN (-x) (-y) (-z) 3=gcdN x y z 3:=by
  show Nat.gcd (Nat.gcd (Nat.gcd 0 (-x).natAbs) (-y).natAbs) (-z).natAbs=_
  rw [Int.natAbs_neg,Int.natAbs_neg,Int.natAbs_neg];rfl
theorem bigQ_neg (q:Rat):bigQ (-q)=bigQ q:=by
  unfold bigQ bigZ
  rw [Rat.neg_num,Rat.neg_den,Int.natAbs_neg]
theorem hOk_int {x y z:Int} {d:Rat} (h:okH x y z d):hOk (x:Rat) (y:Rat) (z:Rat) d:=by
  unfold hOk
  rw [nrm_int h.2.1,Rat.mul_one,Rat.mul_one,Rat.mul_one,Rat.mul_one,Rat.num_intCast,Rat.num_intCast,Rat.num_intCast]
  exact ⟨h.1,h.2.2⟩
theorem hT_int {x y z:Int} {d:Rat} (h:okH x y z d):hT (x:Rat) (y:Rat) (z:Rat) d=tH x y z (ratL d):=by
  unfold hT
  rw [nrm_int h.2.1,Rat.mul_one,Rat.mul_one,Rat.mul_one,Rat.mul_one,Rat.num_intCast,Rat.num_intCast,Rat.num_intCast]
theorem okH_neg {x y z:Int} {d:Rat} (h:okH x y z d):okH (-x) (-y) (-z) (-d):=by
  obtain ⟨⟨⟨x1,x2⟩,⟨y1,y2⟩,⟨z1,z2⟩⟩,hg,hd⟩:=h
  exact ⟨⟨⟨by omega,by omega⟩,⟨by omega,by omega⟩,⟨by omega,by omega⟩⟩,by rw [gcdN_neg];exact hg,by rw [bigQ_neg];exact hd⟩
theorem s_Opposite (x y z:Int) (w:Rat) (hh:okH x y z w):Ax.Pure Tryz.prog G 41 [tH x y z (ratL w)] (.tup [tH (-x) (-y) (-z) (ratL (-w)),N 0]):=by
  have qx:=okI_Q hh.1.1
  have qy:=okI_Q hh.1.2.1
  have qz:=okI_Q hh.1.2.2
  have qw:=bigQ_Q hh.2.2
  have c_c:=s_chkH hh
  have c_h:=s_FromHalf hh
  have c_o:=c_HOpposite x y z w ⟨rz_of qx rfl,rz_of qy rfl,rz_of qz rfl,rz_of qw rfl⟩
  have hn:=okH_neg hh
  have c_g:=c_giveH (k:=2400) (by decide) ((-x:Int):Rat) ((-y:Int):Rat) ((-z:Int):Rat) (-w) (okH_ne hn) (okI_Q hn.1.1) (okI_Q hn.1.2.1) (okI_Q hn.1.2.2) (Q_neg qw) (hOk_int hn)
  rw [hT_int hn,Rat.intCast_neg,Rat.intCast_neg,Rat.intCast_neg] at c_g
  refine zen Tryz.func41 rfl Tryz.ntmps41 ?_
  intro w0 E0 hc
  repeat' (first|refine zR1 hc Tryz.results41 ?_|(with_reducible first|exact trivial|refine zan ?_ ?_|refine zim (fun h=>?_)|refine zoc c_c ?_ ?_|refine zoc c_h ?_ ?_|refine zoc c_o ?_ ?_|refine zoc c_g ?_ ?_|fail)|((first|omega|exact absurd rfl (by assumption)|(refine nf1 ?_;assumption)|(refine nf2 ?_;assumption));done))
theorem s_Side_err (h:H4) (p:V3) (hs:shortH h) (hp:shortV p) (he:firstNZ [fstH h,fstVec p]≠0):Ax.Pure Tryz.prog G 42 [txH h,txV p] (.tup [N 0,N (firstNZ [fstH h,fstVec p])]):=by
  have c_c:=s_CheckHalf hs
  have c_v:=s_CheckVec hp
  have c_f:=err_first2 (a:=fstH h) (b:=fstVec p) rfl
  generalize firstNZ [fstH h,fstVec p]=e at *
  refine zen Tryz.func42 rfl Tryz.ntmps42 ?_
  intro w0 E0 hc
  repeat' (first|refine zR1 hc Tryz.results42 ?_|(with_reducible first|exact trivial|refine zan ?_ ?_|refine zim (fun h=>?_)|refine zoc c_c ?_ ?_|refine zoc c_v ?_ ?_|refine zoc c_f ?_ ?_|fail)|((first|omega|exact absurd (by assumption) he);done))
end Go.Proofs
end
section
set_option maxHeartbeats 4000000
set_option maxRecDepth 100000
namespace Go.Proofs
open Go.Ax
theorem l_pl_bad (e:Int) (he:e≠0) (x y z:Int) (d:List UInt8):Ax.Pure Tryz.prog G 33 [tH 0 0 0 [],N e,N e,tH x y z d] (Bo true):=by
  refine zen Tryz.func33 rfl Tryz.ntmps33 ?_
  intro w0 E0 hc
  repeat' (first|refine zR1 hc Tryz.results33 ?_|(with_reducible first|exact trivial|refine zan ?_ ?_|refine zim (fun h=>?_)|fail)|((first|omega|(exfalso;dsimp only [bs] at h;simp at h;done));done))
  all_goals exact sub_eq (congrArg Bo (by simp))
theorem l_pl_ok (x y z:Int) (d:List UInt8):Ax.Pure Tryz.prog G 33 [tH x y z d,N 0,N 0,tH x y z d] (Bo true):=by
  refine zen Tryz.func33 rfl Tryz.ntmps33 ?_
  intro w0 E0 hc
  repeat' (first|refine zR1 hc Tryz.results33 ?_|(with_reducible first|exact trivial|refine zan ?_ ?_|refine zim (fun h=>?_)|fail)|((first|omega|(exfalso;dsimp only [bs] at h;simp at h;done));done))
  all_goals exact sub_eq (congrArg Bo (by simp))
end Go.Proofs
end
section
set_option maxHeartbeats 4000000
set_option maxRecDepth 100000
namespace Go.Proofs
open Go.Ax
theorem r_Side {k:Nat} (hk:k≤50000) (x y z:Int) (w p1 p2 p3:Rat) (hx:i64 x) (hy:i64 y) (hz:i64 z) (qx:Q k (x:Rat)) (qy:Q k (y:Rat)) (qz:Q k (z:Rat)) (qw:Q k w) (qp:Q k p1∧Q k p2∧Q k p3):Ax.Pure Tryz.prog G 44 [tH x y z (ratL w),tV (ratL p1) (ratL p2) (ratL p3)] (N (sgQ (dot3 (x:Rat) (y:Rat) (z:Rat) p1 p2 p3 - w))):=by
  have c_v:=r_Value hk x y z w p1 p2 p3 hx hy hz qx qy qz qw qp
  have c_s:=r_Sign (dot3 (x:Rat) (y:Rat) (z:Rat) p1 p2 p3 - w)
  refine zen Tryz.func44 rfl Tryz.ntmps44 ?_
  intro w0 E0 hc
  repeat' (first|refine zR1 hc Tryz.results44 ?_|(with_reducible first|exact trivial|refine zan ?_ ?_|refine zim (fun h=>?_)|refine zoc c_v ?_ ?_|refine zoc c_s ?_ ?_|fail)|(omega;done))
end Go.Proofs
end
section
set_option maxHeartbeats 4000000
set_option maxRecDepth 100000
namespace Go.Proofs
open Go.Ax
theorem r_Opposite (x y z:Int) (w:Rat) (hh:okH x y z w):Ax.Pure Tryz.prog G 43 [tH x y z (ratL w)] (tH (-x) (-y) (-z) (ratL (-w))):=by
  have hx:=okI_i64 hh.1.1
  have hy:=okI_i64 hh.1.2.1
  have hz:=okI_i64 hh.1.2.2
  have qx:=okI_Q hh.1.1
  have qy:=okI_Q hh.1.2.1
  have qz:=okI_Q hh.1.2.2
  have qw:=bigQ_Q hh.2.2
  have c_n:=r_Neg w qw (by decide)
  have w1:IntKind.i64.wrap (0 - x)= -x:=by have:=hh.1.1;unfold okI at this;rw [w64 (x:=0 - x) (by omega) (by omega)];omega
  have w2:IntKind.i64.wrap (0 - y)= -y:=by have:=hh.1.2.1;unfold okI at this;rw [w64 (x:=0 - y) (by omega) (by omega)];omega
  have w3:IntKind.i64.wrap (0 - z)= -z:=by have:=hh.1.2.2;unfold okI at this;rw [w64 (x:=0 - z) (by omega) (by omega)];omega
  refine zen Tryz.func43 rfl Tryz.ntmps43 ?_
  intro w0 E0 hc
  repeat' (first|refine zR1 hc Tryz.results43 ?_|(with_reducible first|exact trivial|refine zan ?_ ?_|refine zim (fun h=>?_)|refine zoc c_n ?_ ?_|fail)|(omega;done))
  all_goals rw [w1,w2,w3];exact Sub.refl _
end Go.Proofs
end
section
namespace Go.Proofs
open Go.Ax
theorem sign_sg (q:Rat):q.num.sign=sgQ q:=by
  unfold sgQ
  by_cases h:q=0
  · subst h;rfl
  · rw [if_neg h]
    have:q.num≠0:=fun e=>h (Rat.num_eq_zero.1 e)
    by_cases h2:q.num < 0
    · rw [if_pos h2,Int.sign_eq_neg_one_of_neg h2]
    · rw [if_neg h2,Int.sign_eq_one_of_pos (by omega)]
end Go.Proofs
end
