/- Lemmas on the program and its library: part YMW. -/
import Derived.RangeFuncNested
import Derived.RangeFuncBound
import Derived.RangeFuncCalls
import Derived.RangeFuncLeaves
import Derived.Shelf.Abstract
import Derived.Shelf.RegionOpen
import Derived.WalkKit
import Derived.OwnWalkIn
import Derived.TacticsInMore
import Derived.LoopNIn
import Derived.LoopIn
import Derived.Test.YtoiejgkkcfkliaaGreatDoorYA2
import Derived.Test.YtoiejgkkcfkliaaGreatDoorYW
set_option linter.unusedVariables false
set_option linter.unusedSimpArgs false
section
namespace Go.Proofs
open Go.Ax
theorem c9 {a b e:Int} (h:e=firstNZ [a,b]):Ax.Pure Tryz.prog G 143 [.one (.row 1 2 (fun i=> [[Leaf.v (.int .i64 a)],[Leaf.v (.int .i64 b)]].getD i []))] (N e):=h ▸ c_first2 a b
end Go.Proofs
end
section
set_option maxHeartbeats 4000000
set_option maxRecDepth 1000000
namespace Go.Proofs
open Go.Ax
open Go.RowKit Go.Shelf
attribute [local go_sem] Oper.semAt_some
theorem a6 (a b c d:V3) (ha:shortV a) (hb:shortV b) (hc':shortV c) (hd:shortV d) (he:fstVs [a,b,c,d]≠0):Ax.Pure Tryz.prog G 92 [.agg (leafV a++leafV b++leafV c++leafV d)] (N (fstVs [a,b,c,d])):=by
  have c_c:=c_checkVecs4 a b c d ha hb hc' hd
  generalize fstVs [a,b,c,d]=e at *
  refine zen Tryz.func92 rfl Tryz.ntmps92 ?_
  intro w0 E0 hc
  repeat' (first|refine zR1 hc Tryz.results92 ?_|(with_reducible first|exact trivial|refine zan ?_ ?_|refine zim (fun h=>?_)|refine zoc c_c ?_ ?_|fail)|((first|omega|exact absurd (by assumption) he);done))
end Go.Proofs
end
section
set_option maxHeartbeats 4000000
set_option maxRecDepth 100000
namespace Go.Proofs
open Go.Ax
def FrE (a b c d:V3) (e:Int):Prop:=(e=fstVs [a,b,c,d]∧e≠0)∨∃o1 o2 o3 x1 x2 x3 y1 y2 y3 z1 z2 z3:Rat,(a=v3 o1 o2 o3∧b=v3 x1 x2 x3∧c=v3 y1 y2 y3∧d=v3 z1 z2 z3)∧(okV o1 o2 o3∧okV x1 x2 x3∧okV y1 y2 y3∧okV z1 z2 z3)∧e=axE x1 x2 x3 y1 y2 y3 z1 z2 z3
theorem j7 {a b c d:V3} {e:Int} (ha:shortV a) (hb:shortV b) (hc:shortV c) (hd:shortV d) (h:FrE a b c d e):Ax.Pure Tryz.prog G 92 [txF a b c d] (N e):=by
  rcases h with ⟨rfl,h⟩|⟨o1,o2,o3,x1,x2,x3,y1,y2,y3,z1,z2,z3,⟨rfl,rfl,rfl,rfl⟩,⟨h1,h2,h3,h4⟩,rfl⟩
  · exact a6 a b c d ha hb hc hd h
  · exact s_CheckFrame o1 o2 o3 x1 x2 x3 y1 y2 y3 z1 z2 z3 h1 h2 h3 h4
theorem c5 (a b c d:V3) (e1:Int) (c_c:Ax.Pure Tryz.prog G 92 [txF a b c d] (N e1)) (h:H4) (hs:a16 h) (he:firstNZ [e1,a13 h]≠0):Ax.Pure Tryz.prog G 28 [txF a b c d,txH h] (.tup [tH 0 0 0 [],N (firstNZ [e1,a13 h])]):=by
  have c_v:=a2d hs
  have c_f:=c9 (a:=e1) (b:=a13 h) rfl
  generalize firstNZ [e1,a13 h]=e at *
  refine zen Tryz.func28 rfl Tryz.ntmps28 ?_
  intro w0 E0 hc
  repeat' (first|refine zR1 hc Tryz.results28 ?_|(with_reducible first|exact trivial|refine zan ?_ ?_|refine zim (fun h=>?_)|refine zoc c_c ?_ ?_|refine zoc c_v ?_ ?_|refine zoc c_f ?_ ?_|fail)|((first|omega|exact absurd (by assumption) he);done))
theorem a8 (a b c d:V3) (e1:Int) (c_c:Ax.Pure Tryz.prog G 92 [txF a b c d] (N e1)) (h:H4) (hs:a16 h) (he:firstNZ [e1,a13 h]≠0):Ax.Pure Tryz.prog G 29 [txF a b c d,txH h] (.tup [tH 0 0 0 [],N (firstNZ [e1,a13 h])]):=by
  have c_v:=a2d hs
  have c_f:=c9 (a:=e1) (b:=a13 h) rfl
  generalize firstNZ [e1,a13 h]=e at *
  refine zen Tryz.func29 rfl Tryz.ntmps29 ?_
  intro w0 E0 hc
  repeat' (first|refine zR1 hc Tryz.results29 ?_|(with_reducible first|exact trivial|refine zan ?_ ?_|refine zim (fun h=>?_)|refine zoc c_c ?_ ?_|refine zoc c_v ?_ ?_|refine zoc c_f ?_ ?_|fail)|((first|omega|exact absurd (by assumption) he);done))
end Go.Proofs
end
section
set_option maxHeartbeats 4000000
set_option maxRecDepth 100000
namespace Go.Proofs
open Go.Ax
theorem a7 {k kd:Nat} (hk:k≤1000000) (hkd:kd+((3*k+1)+(k+3*k+1))≤1000000) (hkk:kd≤1000000) (a b c d:Rat) (h0:¬(a=0∧b=0∧c=0)) (ha:Q k a) (hb:Q k b) (hc:Q k c) (hd:Q kd d) (h:¬hOk a b c d):Ax.Pure Tryz.prog G 144 [hA a b c d] (.tup [tH 0 0 0 [],N 4]):=
  a3e hkd a b c d _ _ _ _ (c_Normal (k:=max k kd) (by omega) a b c d h0 (Q_mono ha (by omega)) (Q_mono hb (by omega)) (Q_mono hc (by omega)) (Q_mono hd (by omega))) (Q_mul hd (Q_nrm ha hb hc)) h
theorem m6 {x1 x2 x3 y1 y2 y3 z1 z2 z3 a b c:Rat} (hd:0 < det3 x1 x2 x3 y1 y2 y3 z1 z2 z3) (h:¬(a=0∧b=0∧c=0)):¬(dot3 a b c x1 x2 x3=0∧dot3 a b c y1 y2 y3=0∧dot3 a b c z1 z2 z3=0):=by
  rintro ⟨h1,h2,h3⟩
  have e1:a*det3 x1 x2 x3 y1 y2 y3 z1 z2 z3=0:=by unfold det3 dot3 at *;grind
  have e2:b*det3 x1 x2 x3 y1 y2 y3 z1 z2 z3=0:=by unfold det3 dot3 at *;grind
  have e3:c*det3 x1 x2 x3 y1 y2 y3 z1 z2 z3=0:=by unfold det3 dot3 at *;grind
  generalize det3 x1 x2 x3 y1 y2 y3 z1 z2 z3=d at *
  apply h
  refine ⟨?_,?_,?_⟩<;> grind
theorem c8 (o1 o2 o3 x1 x2 x3 y1 y2 y3 z1 z2 z3:Rat) (hF:okF o1 o2 o3 x1 x2 x3 y1 y2 y3 z1 z2 z3) (m n l:Int) (w:Rat) (hh:okH m n l w) (hk:¬hOk (phN x1 x2 x3 y1 y2 y3 z1 z2 z3 (m:Rat) (n:Rat) (l:Rat)).1 (phN x1 x2 x3 y1 y2 y3 z1 z2 z3 (m:Rat) (n:Rat) (l:Rat)).2.1 (phN x1 x2 x3 y1 y2 y3 z1 z2 z3 (m:Rat) (n:Rat) (l:Rat)).2.2 (w+dot3 (phN x1 x2 x3 y1 y2 y3 z1 z2 z3 (m:Rat) (n:Rat) (l:Rat)).1 (phN x1 x2 x3 y1 y2 y3 z1 z2 z3 (m:Rat) (n:Rat) (l:Rat)).2.1 (phN x1 x2 x3 y1 y2 y3 z1 z2 z3 (m:Rat) (n:Rat) (l:Rat)).2.2 o1 o2 o3)):Ax.Pure Tryz.prog G 28 [tF (ratL o1) (ratL o2) (ratL o3) (ratL x1) (ratL x2) (ratL x3) (ratL y1) (ratL y2) (ratL y3) (ratL z1) (ratL z2) (ratL z3),tH m n l (ratL w)] (.tup [tH 0 0 0 [],N 4]):=by
  obtain ⟨hx0,hy0,hz0,hor,hdt⟩:=axE_zero hF.2.2.2.2
  have c_c:=s_chkF hF
  have c_F:=s_FromFrame hF
  obtain ⟨⟨qo1,qo2,qo3⟩,⟨qx1,qx2,qx3⟩,⟨qy1,qy2,qy3⟩,⟨qz1,qz2,qz3⟩⟩:(Q 2400 o1∧Q 2400 o2∧Q 2400 o3)∧(Q 2400 x1∧Q 2400 x2∧Q 2400 x3)∧(Q 2400 y1∧Q 2400 y2∧Q 2400 y3)∧Q 2400 z1∧Q 2400 z2∧Q 2400 z3:=⟨okV_Q hF.1,okV_Q hF.2.1,okV_Q hF.2.2.1,okV_Q hF.2.2.2.1⟩
  have c_hc:=s_chkH hh
  have c_h:=s_FromHalf hh
  have h0:=okH_ne hh
  have qm:=okI_Q hh.1.1
  have qn:=okI_Q hh.1.2.1
  have ql:=okI_Q hh.1.2.2
  have qw:=bigQ_Q hh.2.2
  have c_ph:=c_VPlaceHalf o1 o2 o3 x1 x2 x3 y1 y2 y3 z1 z2 z3 (m:Rat) (n:Rat) (l:Rat) w (dot_pos hx0) (dot_pos hy0) (dot_pos hz0) ⟨rz_of qo1 rfl,rz_of qo2 rfl,rz_of qo3 rfl,rz_of qx1 rfl,rz_of qx2 rfl,rz_of qx3 rfl,rz_of qy1 rfl,rz_of qy2 rfl,rz_of qy3 rfl,rz_of qz1 rfl,rz_of qz2 rfl,rz_of qz3 rfl,rz_of qm rfl,rz_of qn rfl,rz_of ql rfl,rz_of qw rfl⟩
  have p0:=ph_ne (dot_pos hx0) (dot_pos hy0) (dot_pos hz0) hor h0
  have p1:Q 60000 (phN x1 x2 x3 y1 y2 y3 z1 z2 z3 (m:Rat) (n:Rat) (l:Rat)).1:=Q_of (Q_add (Q_add (Q_mul qx1 (Q_div qm (Q_add (Q_add (Q_mul qx1 qx1) (Q_mul qx2 qx2)) (Q_mul qx3 qx3)))) (Q_mul qy1 (Q_div qn (Q_add (Q_add (Q_mul qy1 qy1) (Q_mul qy2 qy2)) (Q_mul qy3 qy3))))) (Q_mul qz1 (Q_div ql (Q_add (Q_add (Q_mul qz1 qz1) (Q_mul qz2 qz2)) (Q_mul qz3 qz3))))) rfl
  have p2:Q 60000 (phN x1 x2 x3 y1 y2 y3 z1 z2 z3 (m:Rat) (n:Rat) (l:Rat)).2.1:=Q_of (Q_add (Q_add (Q_mul qx2 (Q_div qm (Q_add (Q_add (Q_mul qx1 qx1) (Q_mul qx2 qx2)) (Q_mul qx3 qx3)))) (Q_mul qy2 (Q_div qn (Q_add (Q_add (Q_mul qy1 qy1) (Q_mul qy2 qy2)) (Q_mul qy3 qy3))))) (Q_mul qz2 (Q_div ql (Q_add (Q_add (Q_mul qz1 qz1) (Q_mul qz2 qz2)) (Q_mul qz3 qz3))))) rfl
  have p3:Q 60000 (phN x1 x2 x3 y1 y2 y3 z1 z2 z3 (m:Rat) (n:Rat) (l:Rat)).2.2:=Q_of (Q_add (Q_add (Q_mul qx3 (Q_div qm (Q_add (Q_add (Q_mul qx1 qx1) (Q_mul qx2 qx2)) (Q_mul qx3 qx3)))) (Q_mul qy3 (Q_div qn (Q_add (Q_add (Q_mul qy1 qy1) (Q_mul qy2 qy2)) (Q_mul qy3 qy3))))) (Q_mul qz3 (Q_div ql (Q_add (Q_add (Q_mul qz1 qz1) (Q_mul qz2 qz2)) (Q_mul qz3 qz3))))) rfl
  generalize (phN x1 x2 x3 y1 y2 y3 z1 z2 z3 (m:Rat) (n:Rat) (l:Rat)).1=r1 at *
  generalize (phN x1 x2 x3 y1 y2 y3 z1 z2 z3 (m:Rat) (n:Rat) (l:Rat)).2.1=r2 at *
  generalize (phN x1 x2 x3 y1 y2 y3 z1 z2 z3 (m:Rat) (n:Rat) (l:Rat)).2.2=r3 at *
  have c_g:=a7 (k:=60000) (kd:=200000) (by decide) (by decide) (by decide) r1 r2 r3 (w+dot3 r1 r2 r3 o1 o2 o3) p0 p1 p2 p3 (Q_of (Q_add qw (Q_add (Q_add (Q_mul p1 qo1) (Q_mul p2 qo2)) (Q_mul p3 qo3))) rfl) hk
  refine zen Tryz.func28 rfl Tryz.ntmps28 ?_
  intro w0 E0 hc
  repeat' (first|refine zR1 hc Tryz.results28 ?_|(with_reducible first|exact trivial|refine zan ?_ ?_|refine zim (fun h=>?_)|refine zoc c_c ?_ ?_|refine zoc c_hc ?_ ?_|refine zoc s_first20 ?_ ?_|refine zoc c_F ?_ ?_|refine zoc c_h ?_ ?_|refine zoc c_ph ?_ ?_|refine zoc c_g ?_ ?_|fail)|((first|omega|exact absurd rfl (by assumption)|(refine nf1 ?_;assumption)|(refine nf2 ?_;assumption));done))
theorem i7 (o1 o2 o3 x1 x2 x3 y1 y2 y3 z1 z2 z3:Rat) (hF:okF o1 o2 o3 x1 x2 x3 y1 y2 y3 z1 z2 z3) (m n l:Int) (w:Rat) (hh:okH m n l w) (hk:hOk (dot3 (m:Rat) (n:Rat) (l:Rat) x1 x2 x3) (dot3 (m:Rat) (n:Rat) (l:Rat) y1 y2 y3) (dot3 (m:Rat) (n:Rat) (l:Rat) z1 z2 z3) (w - dot3 (m:Rat) (n:Rat) (l:Rat) o1 o2 o3)):Ax.Pure Tryz.prog G 29 [tF (ratL o1) (ratL o2) (ratL o3) (ratL x1) (ratL x2) (ratL x3) (ratL y1) (ratL y2) (ratL y3) (ratL z1) (ratL z2) (ratL z3),tH m n l (ratL w)] (.tup [hT (dot3 (m:Rat) (n:Rat) (l:Rat) x1 x2 x3) (dot3 (m:Rat) (n:Rat) (l:Rat) y1 y2 y3) (dot3 (m:Rat) (n:Rat) (l:Rat) z1 z2 z3) (w - dot3 (m:Rat) (n:Rat) (l:Rat) o1 o2 o3),N 0]):=by
  obtain ⟨hx0,hy0,hz0,hor,hdt⟩:=axE_zero hF.2.2.2.2
  have c_c:=s_chkF hF
  have c_F:=s_FromFrame hF
  obtain ⟨⟨qo1,qo2,qo3⟩,⟨qx1,qx2,qx3⟩,⟨qy1,qy2,qy3⟩,⟨qz1,qz2,qz3⟩⟩:(Q 2400 o1∧Q 2400 o2∧Q 2400 o3)∧(Q 2400 x1∧Q 2400 x2∧Q 2400 x3)∧(Q 2400 y1∧Q 2400 y2∧Q 2400 y3)∧Q 2400 z1∧Q 2400 z2∧Q 2400 z3:=⟨okV_Q hF.1,okV_Q hF.2.1,okV_Q hF.2.2.1,okV_Q hF.2.2.2.1⟩
  have c_hc:=s_chkH hh
  have c_h:=s_FromHalf hh
  have h0:=okH_ne hh
  have qm:=okI_Q hh.1.1
  have qn:=okI_Q hh.1.2.1
  have ql:=okI_Q hh.1.2.2
  have qw:=bigQ_Q hh.2.2
  have c_dx:=c_Dot3 (k:=2400) (by decide) (m:Rat) (n:Rat) (l:Rat) x1 x2 x3 qm qn ql qx1 qx2 qx3
  have ddx:Q 20000 (dot3 (m:Rat) (n:Rat) (l:Rat) x1 x2 x3):=Q_of (Q_dot qm qn ql qx1 qx2 qx3) rfl
  have c_dy:=c_Dot3 (k:=2400) (by decide) (m:Rat) (n:Rat) (l:Rat) y1 y2 y3 qm qn ql qy1 qy2 qy3
  have ddy:Q 20000 (dot3 (m:Rat) (n:Rat) (l:Rat) y1 y2 y3):=Q_of (Q_dot qm qn ql qy1 qy2 qy3) rfl
  have c_dz:=c_Dot3 (k:=2400) (by decide) (m:Rat) (n:Rat) (l:Rat) z1 z2 z3 qm qn ql qz1 qz2 qz3
  have ddz:Q 20000 (dot3 (m:Rat) (n:Rat) (l:Rat) z1 z2 z3):=Q_of (Q_dot qm qn ql qz1 qz2 qz3) rfl
  have c_do:=c_Dot3 (k:=2400) (by decide) (m:Rat) (n:Rat) (l:Rat) o1 o2 o3 qm qn ql qo1 qo2 qo3
  have ddo:Q 20000 (dot3 (m:Rat) (n:Rat) (l:Rat) o1 o2 o3):=Q_of (Q_dot qm qn ql qo1 qo2 qo3) rfl
  have c_sb:=c_FSub w (dot3 (m:Rat) (n:Rat) (l:Rat) o1 o2 o3) (rz_of qw rfl) (rz_of ddo rfl)
  have p0:=m6 hdt h0
  have c_g:=c_giveH2 (k:=20000) (kd:=200000) (by decide) (by decide) (by decide) (dot3 (m:Rat) (n:Rat) (l:Rat) x1 x2 x3) (dot3 (m:Rat) (n:Rat) (l:Rat) y1 y2 y3) (dot3 (m:Rat) (n:Rat) (l:Rat) z1 z2 z3) _ p0 ddx ddy ddz (Q_of (Q_sub qw ddo) rfl) hk
  refine zen Tryz.func29 rfl Tryz.ntmps29 ?_
  intro w0 E0 hc
  repeat' (first|refine zR1 hc Tryz.results29 ?_|(with_reducible first|exact trivial|refine zan ?_ ?_|refine zim (fun h=>?_)|refine zoc c_c ?_ ?_|refine zoc c_hc ?_ ?_|refine zoc s_first20 ?_ ?_|refine zoc c_F ?_ ?_|refine zoc c_h ?_ ?_|refine zoc c_dx ?_ ?_|refine zoc c_dy ?_ ?_|refine zoc c_dz ?_ ?_|refine zoc c_do ?_ ?_|refine zoc c_sb ?_ ?_|refine zoc c_g ?_ ?_|fail)|((first|omega|exact absurd rfl (by assumption)|(refine nf1 ?_;assumption)|(refine nf2 ?_;assumption));done))
theorem c6 (o1 o2 o3 x1 x2 x3 y1 y2 y3 z1 z2 z3:Rat) (hF:okF o1 o2 o3 x1 x2 x3 y1 y2 y3 z1 z2 z3) (m n l:Int) (w:Rat) (hh:okH m n l w) (hk:¬hOk (dot3 (m:Rat) (n:Rat) (l:Rat) x1 x2 x3) (dot3 (m:Rat) (n:Rat) (l:Rat) y1 y2 y3) (dot3 (m:Rat) (n:Rat) (l:Rat) z1 z2 z3) (w - dot3 (m:Rat) (n:Rat) (l:Rat) o1 o2 o3)):Ax.Pure Tryz.prog G 29 [tF (ratL o1) (ratL o2) (ratL o3) (ratL x1) (ratL x2) (ratL x3) (ratL y1) (ratL y2) (ratL y3) (ratL z1) (ratL z2) (ratL z3),tH m n l (ratL w)] (.tup [tH 0 0 0 [],N 4]):=by
  obtain ⟨hx0,hy0,hz0,hor,hdt⟩:=axE_zero hF.2.2.2.2
  have c_c:=s_chkF hF
  have c_F:=s_FromFrame hF
  obtain ⟨⟨qo1,qo2,qo3⟩,⟨qx1,qx2,qx3⟩,⟨qy1,qy2,qy3⟩,⟨qz1,qz2,qz3⟩⟩:(Q 2400 o1∧Q 2400 o2∧Q 2400 o3)∧(Q 2400 x1∧Q 2400 x2∧Q 2400 x3)∧(Q 2400 y1∧Q 2400 y2∧Q 2400 y3)∧Q 2400 z1∧Q 2400 z2∧Q 2400 z3:=⟨okV_Q hF.1,okV_Q hF.2.1,okV_Q hF.2.2.1,okV_Q hF.2.2.2.1⟩
  have c_hc:=s_chkH hh
  have c_h:=s_FromHalf hh
  have h0:=okH_ne hh
  have qm:=okI_Q hh.1.1
  have qn:=okI_Q hh.1.2.1
  have ql:=okI_Q hh.1.2.2
  have qw:=bigQ_Q hh.2.2
  have c_dx:=c_Dot3 (k:=2400) (by decide) (m:Rat) (n:Rat) (l:Rat) x1 x2 x3 qm qn ql qx1 qx2 qx3
  have ddx:Q 20000 (dot3 (m:Rat) (n:Rat) (l:Rat) x1 x2 x3):=Q_of (Q_dot qm qn ql qx1 qx2 qx3) rfl
  have c_dy:=c_Dot3 (k:=2400) (by decide) (m:Rat) (n:Rat) (l:Rat) y1 y2 y3 qm qn ql qy1 qy2 qy3
  have ddy:Q 20000 (dot3 (m:Rat) (n:Rat) (l:Rat) y1 y2 y3):=Q_of (Q_dot qm qn ql qy1 qy2 qy3) rfl
  have c_dz:=c_Dot3 (k:=2400) (by decide) (m:Rat) (n:Rat) (l:Rat) z1 z2 z3 qm qn ql qz1 qz2 qz3
  have ddz:Q 20000 (dot3 (m:Rat) (n:Rat) (l:Rat) z1 z2 z3):=Q_of (Q_dot qm qn ql qz1 qz2 qz3) rfl
  have c_do:=c_Dot3 (k:=2400) (by decide) (m:Rat) (n:Rat) (l:Rat) o1 o2 o3 qm qn ql qo1 qo2 qo3
  have ddo:Q 20000 (dot3 (m:Rat) (n:Rat) (l:Rat) o1 o2 o3):=Q_of (Q_dot qm qn ql qo1 qo2 qo3) rfl
  have c_sb:=c_FSub w (dot3 (m:Rat) (n:Rat) (l:Rat) o1 o2 o3) (rz_of qw rfl) (rz_of ddo rfl)
  have p0:=m6 hdt h0
  have c_g:=a7 (k:=20000) (kd:=200000) (by decide) (by decide) (by decide) (dot3 (m:Rat) (n:Rat) (l:Rat) x1 x2 x3) (dot3 (m:Rat) (n:Rat) (l:Rat) y1 y2 y3) (dot3 (m:Rat) (n:Rat) (l:Rat) z1 z2 z3) _ p0 ddx ddy ddz (Q_of (Q_sub qw ddo) rfl) hk
  refine zen Tryz.func29 rfl Tryz.ntmps29 ?_
  intro w0 E0 hc
  repeat' (first|refine zR1 hc Tryz.results29 ?_|(with_reducible first|exact trivial|refine zan ?_ ?_|refine zim (fun h=>?_)|refine zoc c_c ?_ ?_|refine zoc c_hc ?_ ?_|refine zoc s_first20 ?_ ?_|refine zoc c_F ?_ ?_|refine zoc c_h ?_ ?_|refine zoc c_dx ?_ ?_|refine zoc c_dy ?_ ?_|refine zoc c_dz ?_ ?_|refine zoc c_do ?_ ?_|refine zoc c_sb ?_ ?_|refine zoc c_g ?_ ?_|fail)|((first|omega|exact absurd rfl (by assumption)|(refine nf1 ?_;assumption)|(refine nf2 ?_;assumption));done))
end Go.Proofs
end
