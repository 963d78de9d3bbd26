/- Lemmas on the program and its library: part VA2. -/
import Derived.Test.YtoiejgkkcfkliaaGreatDoorYA1
import Derived.Test.YtoiejgkkcfkliaaGreatDoorVL1
set_option linter.unusedVariables false
set_option linter.unusedSimpArgs false
section
set_option maxHeartbeats 4000000
set_option maxRecDepth 100000
namespace Go.Proofs
open Go.Ax
theorem a1y (ls:List (List UInt8)) (n:Nat) (hn:n=ls.length) (hl:∀l∈ls,l.length≤900000) (hl2:ls.length≤1000000):Ax.Pure Tryz.prog G 63 [rowT ls n] (N (fstE ls)):=by
  have c_c:∀i:Nat,i < ls.length→Ax.Pure Tryz.prog G 21 [S (bs (ls.getD i []))] (N (checkL (ls.getD i []))):=fun i hi=>
    r_Check _ (hl _ (by rw [List.getD_eq_getElem?_getD,List.getElem?_eq_getElem hi];exact List.getElem_mem hi))
  refine zen Tryz.func63 rfl Tryz.ntmps63 ?_
  intro w0 E0 hc
  repeat' (first|refine zR1 hc Tryz.results63 ?_|(with_reducible first|exact trivial|refine zan ?_ ?_|refine zim (fun h=>?_)|fail)|(omega;done))
  refine Wp_loopI (α:=Nat) (fun i=>stOf [(0,rowT ls n),(3,N i)] [] 0) (fun i=>i≤ls.length∧fstE ls=fstE (ls.drop i)) (fun i=>ls.length - i) 0 ⟨Nat.zero_le _,rfl⟩ ?_ ?_
  · refine zW1 ?_ <;> repeat' (with_reducible first|exact trivial|refine zan ?_ ?_|refine zal (fun i hi=>?_))
  · rintro i ⟨h1,h2⟩
    have hd:=fun h:i < ls.length=>fstE_drop h
    have c_ci:=c_c i
    repeat' (first|refine zR1 hc Tryz.results63 ?_|(with_reducible first|exact trivial|refine zan ?_ ?_|refine zim (fun h=>?_)|refine zoc (c_ci ?_) ?_ ?_|fail)|((first|omega|(simp only [Int.toNat_natCast];omega));done))
    · have hd':=hd (by omega)
      rw [if_neg h] at hd'
      exact sub_eq (by rw [h2,hd'])
    · have hd':=hd (by omega)
      rw [if_pos h] at hd'
      refine ⟨i+1,⟨by omega,by rw [h2,hd']⟩,by omega,?_⟩
      refine zW1 ?_ <;> repeat' (with_reducible first|exact trivial|refine zan ?_ ?_|refine zal (fun i hi=>?_))
    · have:ls.length≤i:=by omega
      rw [List.drop_eq_nil_of_le this] at h2
      exact sub_eq (by rw [h2];rfl)
theorem a1x (a b c:List UInt8) (ha:a.length≤900000) (hb:b.length≤900000) (hc:c.length≤900000):Ax.Pure Tryz.prog G 63 [.one (.row 1 3 (fun i=> [[Leaf.v (.string (bs a))],[Leaf.v (.string (bs b))],[Leaf.v (.string (bs c))]].getD i []))] (N (fstE [a,b,c])):=
  pure_args (a1y [a,b,c] 3 rfl (mem3 ha hb hc) (show 3≤1000000 by decide)) ⟨sub_row_eq (row3_lt rfl rfl rfl),trivial⟩ ⟨trivial,trivial⟩
theorem a2c (a b c:List UInt8) (ha:a.length≤900000) (hb:b.length≤900000) (hc':c.length≤900000):Ax.Pure Tryz.prog G 39 [tV a b c] (N (fstE [a,b,c])):=by
  have c_c:=a1x a b c ha hb hc'
  refine zen Tryz.func39 rfl Tryz.ntmps39 ?_
  intro w0 E0 hc
  repeat' (first|refine zR1 hc Tryz.results39 ?_|(with_reducible first|exact trivial|refine zan ?_ ?_|refine zim (fun h=>?_)|refine zoc c_c ?_ ?_|fail)|(omega;done))
end Go.Proofs
end
section
namespace Go.Proofs
open Go.Ax
structure H4 where
  x:Int
  y:Int
  z:Int
  d:List UInt8
def a16 (h:H4):Prop:=(i64 h.x∧i64 h.y∧i64 h.z)∧h.d.length≤900000
abbrev txH (h:H4):AV:=tH h.x h.y h.z h.d
def a13 (h:H4):Int:=chkH h.x h.y h.z h.d
theorem a2d {h:H4} (hh:a16 h):Ax.Pure Tryz.prog G 37 [txH h] (N (a13 h)):=c_CheckHalf h.x h.y h.z h.d hh.1.1 hh.1.2.1 hh.1.2.2 hh.2
end Go.Proofs
end
section
set_option maxHeartbeats 4000000
set_option maxRecDepth 100000
namespace Go.Proofs
open Go.Ax
def a2q (n:Nat) (ls:List V3):Bool:=ls.all fun v=>decide (shV n v)
theorem a1z {n:Nat} {ls:List V3} {i:Nat} (h:i < ls.length):a2q n (ls.drop i)=(decide (shV n (ls.getD i ([],[],[]))) && a2q n (ls.drop (i+1))):=by
  unfold a2q
  rw [List.drop_eq_getElem_cons h,List.all_cons,List.getD_eq_getElem?_getD,List.getElem?_eq_getElem h];rfl
theorem a4h (n m:Nat) (ls:List V3) (hm:m=ls.length) (hn:n≤1000) (hl2:ls.length≤1000000):Ax.Pure Tryz.prog G 36 [N n,rowV ls m] (Bo (a2q n ls)):=by
  refine zen Tryz.func36 rfl Tryz.ntmps36 ?_
  intro w0 E0 hc
  repeat' (first|refine zR1 hc Tryz.results36 ?_|(with_reducible first|exact trivial|refine zan ?_ ?_|refine zim (fun h=>?_)|fail)|(omega;done))
  refine Wp_loopI (α:=Nat) (fun i=>stOf [(0,N n),(1,rowV ls m),(5,N i)] [] 0) (fun i=>i≤ls.length∧a2q n ls=a2q n (ls.drop i)) (fun i=>ls.length - i) 0 ⟨Nat.zero_le _,rfl⟩ ?_ ?_
  · refine zW1 ?_ <;> repeat' (with_reducible first|exact trivial|refine zan ?_ ?_|refine zal (fun i hi=>?_))
  · rintro i ⟨h1,h2⟩
    have hd:=fun h:i < ls.length=>a1z (n:=n) h
    have s1:=bs_size (ls.getD i ([],[],[])).1
    have s2:=bs_size (ls.getD i ([],[],[])).2.1
    have s3:=bs_size (ls.getD i ([],[],[])).2.2
    have hT:i < ls.length→(ls.getD i ([],[],[])).1.length≤n→(ls.getD i ([],[],[])).2.1.length≤n→(ls.getD i ([],[],[])).2.2.length≤n→a2q n ls=a2q n (ls.drop (i+1)):=fun h a b c=>by
      rw [h2,hd h,decide_eq_true (show shV n _ from ⟨a,b,c⟩)];rfl
    have hF:i < ls.length→¬((ls.getD i ([],[],[])).1.length≤n∧(ls.getD i ([],[],[])).2.1.length≤n∧(ls.getD i ([],[],[])).2.2.length≤n)→a2q n ls=false:=fun h a=>by
      rw [h2,hd h,decide_eq_false (show ¬shV n _ from a)];rfl
    have hE:¬i < ls.length→a2q n ls=true:=fun h=>by
      rw [h2,List.drop_eq_nil_of_le (by omega)];rfl
    repeat' (first|refine zR1 hc Tryz.results36 ?_|(with_reducible first|exact trivial|refine zan ?_ ?_|refine zim (fun h=>?_)|fail)|(omega;done))
    · rw [hF (by omega) (by omega)];exact Sub.refl _
    · refine ⟨i+1,⟨by omega,hT (by omega) (by omega) (by omega) (by omega)⟩,by omega,?_⟩
      refine zW1 ?_ <;> repeat' (with_reducible first|exact trivial|refine zan ?_ ?_|refine zal (fun i hi=>?_))
    · rw [hF (by omega) (by omega)];exact Sub.refl _
    · rw [hF (by omega) (by omega)];exact Sub.refl _
    · rw [hE (by omega)];exact Sub.refl _
theorem a22 (e:Int) (he:e≠0) (x y z:Int) (d:List UInt8):Ax.Pure Tryz.prog G 33 [tH 0 0 0 [],N e,N e,tH x y z d] (Bo true):=by
  refine zen Tryz.func33 rfl Tryz.ntmps33 ?_
  intro w0 E0 hc
  repeat' (first|refine zR1 hc Tryz.results33 ?_|(with_reducible first|exact trivial|refine zan ?_ ?_|refine zim (fun h=>?_)|fail)|((first|omega|(exfalso;dsimp only [bs] at h;simp at h;done));done))
  all_goals exact sub_eq (congrArg Bo (by simp))
theorem a4i (x y z:Int) (d:List UInt8):Ax.Pure Tryz.prog G 33 [tH x y z d,N 0,N 0,tH x y z d] (Bo true):=by
  refine zen Tryz.func33 rfl Tryz.ntmps33 ?_
  intro w0 E0 hc
  repeat' (first|refine zR1 hc Tryz.results33 ?_|(with_reducible first|exact trivial|refine zan ?_ ?_|refine zim (fun h=>?_)|fail)|((first|omega|(exfalso;dsimp only [bs] at h;simp at h;done));done))
  all_goals exact sub_eq (congrArg Bo (by simp))
end Go.Proofs
end
section
set_option maxHeartbeats 4000000
set_option maxRecDepth 100000
namespace Go.Proofs
open Go.Ax
theorem a10:(⟨#[48]⟩:ByteArray)=bs (ratL 0):=by rw [ratL_zero]
theorem a2z {k:Nat} (hk:k≤1000000) (a1 a2 a3 b1 b2 b3:Rat) (qa:Q k a1∧Q k a2∧Q k a3) (qb:Q k b1∧Q k b2∧Q k b3):Ax.Pure Tryz.prog G 58 [tV (ratL a1) (ratL a2) (ratL a3),tV (ratL b1) (ratL b2) (ratL b3)] (tV (ratL (a1 - b1)) (ratL (a2 - b2)) (ratL (a3 - b3))):=by
  obtain ⟨qa1,qa2,qa3⟩:=qa
  obtain ⟨qb1,qb2,qb3⟩:=qb
  have c_1:=r_Sub a1 b1 qa1 qb1 hk
  have c_2:=r_Sub a2 b2 qa2 qb2 hk
  have c_3:=r_Sub a3 b3 qa3 qb3 hk
  refine zen Tryz.func58 rfl Tryz.ntmps58 ?_
  intro w0 E0 hc
  repeat' (first|refine zR1 hc Tryz.results58 ?_|(with_reducible first|exact trivial|refine zan ?_ ?_|refine zim (fun h=>?_)|refine zoc c_1 ?_ ?_|refine zoc c_2 ?_ ?_|refine zoc c_3 ?_ ?_|fail)|(omega;done))
theorem a2m {k:Nat} (hk:k≤1000000) (c:Rat) (a1 a2 a3:Rat) (qc:Q k c) (qa:Q k a1∧Q k a2∧Q k a3):Ax.Pure Tryz.prog G 112 [S (bs (ratL c)),tV (ratL a1) (ratL a2) (ratL a3)] (tV (ratL (c*a1)) (ratL (c*a2)) (ratL (c*a3))):=by
  obtain ⟨qa1,qa2,qa3⟩:=qa
  have c_1:=r_MulQ c a1 qc qa1 hk
  have c_2:=r_MulQ c a2 qc qa2 hk
  have c_3:=r_MulQ c a3 qc qa3 hk
  refine zen Tryz.func112 rfl Tryz.ntmps112 ?_
  intro w0 E0 hc
  repeat' (first|refine zR1 hc Tryz.results112 ?_|(with_reducible first|exact trivial|refine zan ?_ ?_|refine zim (fun h=>?_)|refine zoc c_1 ?_ ?_|refine zoc c_2 ?_ ?_|refine zoc c_3 ?_ ?_|fail)|(omega;done))
theorem a23 {k:Nat} (hk:k≤200000) (a1 a2 a3 b1 b2 b3:Rat) (qa:Q k a1∧Q k a2∧Q k a3) (qb:Q k b1∧Q k b2∧Q k b3):Ax.Pure Tryz.prog G 76 [tV (ratL a1) (ratL a2) (ratL a3),tV (ratL b1) (ratL b2) (ratL b3)] (S (bs (ratL (dot3 a1 a2 a3 b1 b2 b3)))):=by
  obtain ⟨qa1,qa2,qa3⟩:=qa
  obtain ⟨qb1,qb2,qb3⟩:=qb
  have c_1:=r_MulQ a1 b1 qa1 qb1 (by omega)
  have m1:=Q_mul qa1 qb1
  have c_2:=r_MulQ a2 b2 qa2 qb2 (by omega)
  have m2:=Q_mul qa2 qb2
  have c_3:=r_MulQ a3 b3 qa3 qb3 (by omega)
  have m3:=Q_mul qa3 qb3
  have c_4:=r_AddQ (a1*b1) (a2*b2) m1 m2 (by omega)
  have c_5:Ax.Pure Tryz.prog G 59 [S (bs (ratL (a1*b1+a2*b2))),S (bs (ratL (a3*b3)))] (S (bs (ratL (dot3 a1 a2 a3 b1 b2 b3)))):=r_AddQ (a1*b1+a2*b2) (a3*b3) (Q_add m1 m2) (Q_mono m3 (by omega)) (by omega)
  refine zen Tryz.func76 rfl Tryz.ntmps76 ?_
  intro w0 E0 hc
  repeat' (first|refine zR1 hc Tryz.results76 ?_|(with_reducible first|exact trivial|refine zan ?_ ?_|refine zim (fun h=>?_)|refine zoc c_1 ?_ ?_|refine zoc c_2 ?_ ?_|refine zoc c_3 ?_ ?_|refine zoc c_4 ?_ ?_|refine zoc c_5 ?_ ?_|fail)|(omega;done))
theorem a3l {k:Nat} (hk:k≤200000) (a1 a2 a3 b1 b2 b3:Rat) (qa:Q k a1∧Q k a2∧Q k a3) (qb:Q k b1∧Q k b2∧Q k b3):Ax.Pure Tryz.prog G 78 [tV (ratL a1) (ratL a2) (ratL a3),tV (ratL b1) (ratL b2) (ratL b3)] (tV (ratL (a2*b3 - a3*b2)) (ratL (a3*b1 - a1*b3)) (ratL (a1*b2 - a2*b1))):=by
  obtain ⟨qa1,qa2,qa3⟩:=qa
  obtain ⟨qb1,qb2,qb3⟩:=qb
  have c_m12:=r_MulQ a1 b2 qa1 qb2 (by omega)
  have m12:=Q_mul qa1 qb2
  have c_m13:=r_MulQ a1 b3 qa1 qb3 (by omega)
  have m13:=Q_mul qa1 qb3
  have c_m21:=r_MulQ a2 b1 qa2 qb1 (by omega)
  have m21:=Q_mul qa2 qb1
  have c_m23:=r_MulQ a2 b3 qa2 qb3 (by omega)
  have m23:=Q_mul qa2 qb3
  have c_m31:=r_MulQ a3 b1 qa3 qb1 (by omega)
  have m31:=Q_mul qa3 qb1
  have c_m32:=r_MulQ a3 b2 qa3 qb2 (by omega)
  have m32:=Q_mul qa3 qb2
  have c_s23:=r_Sub (a2*b3) (a3*b2) m23 m32 (by omega)
  have c_s31:=r_Sub (a3*b1) (a1*b3) m31 m13 (by omega)
  have c_s12:=r_Sub (a1*b2) (a2*b1) m12 m21 (by omega)
  refine zen Tryz.func78 rfl Tryz.ntmps78 ?_
  intro w0 E0 hc
  repeat' (first|refine zR1 hc Tryz.results78 ?_|(with_reducible first|exact trivial|refine zan ?_ ?_|refine zim (fun h=>?_)|refine zoc c_m12 ?_ ?_|refine zoc c_m13 ?_ ?_|refine zoc c_m21 ?_ ?_|refine zoc c_m23 ?_ ?_|refine zoc c_m31 ?_ ?_|refine zoc c_m32 ?_ ?_|refine zoc c_s23 ?_ ?_|refine zoc c_s31 ?_ ?_|refine zoc c_s12 ?_ ?_|fail)|(omega;done))
theorem a2k {k:Nat} (hk:k≤200000) (a1 a2 a3:Rat) (qa:Q k a1∧Q k a2∧Q k a3):Ax.Pure Tryz.prog G 57 [tV (ratL a1) (ratL a2) (ratL a3)] (S (bs (ratL (dot3 a1 a2 a3 a1 a2 a3)))):=by
  have c_d:=a23 hk a1 a2 a3 a1 a2 a3 qa qa
  refine zen Tryz.func57 rfl Tryz.ntmps57 ?_
  intro w0 E0 hc
  repeat' (first|refine zR1 hc Tryz.results57 ?_|(with_reducible first|exact trivial|refine zan ?_ ?_|refine zim (fun h=>?_)|refine zoc c_d ?_ ?_|fail)|(omega;done))
theorem a4m {k:Nat} (hk:k≤40000) (a1 a2 a3 b1 b2 b3 c1 c2 c3:Rat) (qa:Q k a1∧Q k a2∧Q k a3) (qb:Q k b1∧Q k b2∧Q k b3) (qc:Q k c1∧Q k c2∧Q k c3):Ax.Pure Tryz.prog G 193 [tV (ratL a1) (ratL a2) (ratL a3),tV (ratL b1) (ratL b2) (ratL b3),tV (ratL c1) (ratL c2) (ratL c3)] (S (bs (ratL (dot3 a1 a2 a3 (b2*c3 - b3*c2) (b3*c1 - b1*c3) (b1*c2 - b2*c1))))):=by
  have c_x:=a3l (by omega) b1 b2 b3 c1 c2 c3 qb qc
  obtain ⟨qa1,qa2,qa3⟩:=qa
  obtain ⟨qb1,qb2,qb3⟩:=qb
  obtain ⟨qc1,qc2,qc3⟩:=qc
  have x1:=Q_sub (Q_mul qb2 qc3) (Q_mul qb3 qc2)
  have x2:=Q_sub (Q_mul qb3 qc1) (Q_mul qb1 qc3)
  have x3:=Q_sub (Q_mul qb1 qc2) (Q_mul qb2 qc1)
  have c_d:=a23 (k:=k+k+(k+k)+1) (by omega) a1 a2 a3 (b2*c3 - b3*c2) (b3*c1 - b1*c3) (b1*c2 - b2*c1) ⟨Q_mono qa1 (by omega),Q_mono qa2 (by omega),Q_mono qa3 (by omega)⟩ ⟨x1,x2,x3⟩
  refine zen Tryz.func193 rfl Tryz.ntmps193 ?_
  intro w0 E0 hc
  repeat' (first|refine zR1 hc Tryz.results193 ?_|(with_reducible first|exact trivial|refine zan ?_ ?_|refine zim (fun h=>?_)|refine zoc c_x ?_ ?_|refine zoc c_d ?_ ?_|fail)|(omega;done))
theorem a11:Ax.Pure Tryz.prog G 89 [] (tV (ratL 0) (ratL 0) (ratL 0)):=by
  refine zen Tryz.func89 rfl Tryz.ntmps89 ?_
  intro w0 E0 hc
  repeat' (first|refine zR1 hc Tryz.results89 ?_|(with_reducible first|exact trivial|refine zan ?_ ?_|refine zim (fun h=>?_)|fail)|(omega;done))
  all_goals rw [ratL_zero];exact Sub.refl _
theorem a2b (a1 a2 a3:Rat):Ax.Pure Tryz.prog G 79 [tV (ratL a1) (ratL a2) (ratL a3)] (Bo (decide (a1=0∧a2=0∧a3=0))):=by
  have c_o:=a11
  have e:∀a:Rat,((bs (ratL a)).toList == (bs (ratL 0)).toList)=decide (a=0):=fun a=>by
    rw [←a10];exact Bool.eq_iff_iff.2 ((ratL_eq_zero a).trans (by simp))
  refine zen Tryz.func79 rfl Tryz.ntmps79 ?_
  intro w0 E0 hc
  repeat' (first|refine zR1 hc Tryz.results79 ?_|(with_reducible first|exact trivial|refine zan ?_ ?_|refine zim (fun h=>?_)|refine zoc c_o ?_ ?_|fail)|((refine sub_eq (congrArg Bo ?_);rw [e,e,e];by_cases h1:a1=0 <;> by_cases h2:a2=0 <;> by_cases h3:a3=0 <;> simp [h1,h2,h3]);done))
end Go.Proofs
end
section
namespace Go.Proofs
open Go.Ax
theorem a35 {v:V3} (h:fstVec v=0):∃a b c:Rat,v=v3 a b c∧okV a b c:=by
  obtain ⟨x,y,z⟩:=v
  have h:firstNZ [checkL x,checkL y,checkL z]=0:=h
  by_cases hx:checkL x=0
  · by_cases hy:checkL y=0
    · by_cases hz:checkL z=0
      · obtain ⟨a,rfl,ha⟩:=checkL_zero hx
        obtain ⟨b,rfl,hb⟩:=checkL_zero hy
        obtain ⟨c,rfl,hc⟩:=checkL_zero hz
        exact ⟨a,b,c,rfl,ha,hb,hc⟩
      · rw [hx,hy,nz0,nz0,nz1 hz] at h;exact absurd h hz
    · rw [hx,nz0,nz1 hy] at h;exact absurd h hy
  · rw [nz1 hx] at h;exact absurd h hx
theorem a2a {n:Nat} {v:V3} (h:shV n v) (hn:n≤900000):shortV v:=⟨Nat.le_trans h.1 hn,Nat.le_trans h.2.1 hn,Nat.le_trans h.2.2 hn⟩
end Go.Proofs
end
section
namespace Go.Proofs
open Go.Ax
theorem a4f (x1 x2 x3 y1 y2 y3 z1 z2 z3:Rat):dot3 x1 x2 x3 (y2*z3 - y3*z2) (y3*z1 - y1*z3) (y1*z2 - y2*z1)=det3 x1 x2 x3 y1 y2 y3 z1 z2 z3:=by
  unfold det3 dot3;grind
end Go.Proofs
end
section
namespace Go.Proofs
open Go.Ax
theorem a12 {a b c:Rat} (h:okV a b c):fstVec (v3 a b c)=0:=by
  show firstNZ [checkL (ratL a),checkL (ratL b),checkL (ratL c)]=0
  rw [ok_chk h.1,ok_chk h.2.1,ok_chk h.2.2];rfl
theorem a38 {a b c:Rat} (h:okV a b c):Ax.Pure Tryz.prog G 39 [tV (ratL a) (ratL b) (ratL c)] (N 0):=by
  have k:=a2c (ratL a) (ratL b) (ratL c) (ok_len h.1) (ok_len h.2.1) (ok_len h.2.2)
  rw [show fstE [ratL a,ratL b,ratL c]=0 from a12 h] at k
  exact k
end Go.Proofs
end
section
namespace Go.Proofs
open Go.Ax
theorem a15 {a:Int} {l:List Int} (h:firstNZ (a :: l)=0):a=0∧firstNZ l=0:=by
  by_cases ha:a=0
  · subst ha;rw [nz0] at h;exact ⟨rfl,h⟩
  · rw [nz1 ha] at h;exact absurd h ha
end Go.Proofs
end
section
namespace Go.Proofs
open Go.Ax
theorem a4c {x y z:Int} {d:List UInt8} (e:chkH x y z d=0):∃w:Rat,d=ratL w∧okH x y z w:=by
  unfold chkH at e
  by_cases h0:gcdN x y z 3=0
  · rw [if_pos h0,nz1 (by decide)] at e;cases e
  rw [if_neg h0,nz0] at e
  cases hf:farN x y z 3
  rotate_left
  · rw [hf,if_pos rfl,nz1 (by decide)] at e;cases e
  rw [hf,if_neg (by decide),nz0] at e
  by_cases h1:gcdN x y z 3=1
  rotate_left
  · rw [if_neg h1,nz1 (by decide)] at e;cases e
  rw [if_pos h1,nz0] at e
  have e2:checkL d=0:=Classical.byContradiction fun h=>by rw [nz1 h] at e;exact h e
  obtain ⟨w,rfl,hw⟩:=checkL_zero e2
  have hf:(far1 x || far1 y || far1 z)=false:=hf
  rw [Bool.or_eq_false_iff,Bool.or_eq_false_iff] at hf
  have k:∀v:Int,far1 v=false→okI v:=fun v h=>by
    unfold far1 at h
    rw [Bool.or_eq_false_iff,decide_eq_false_iff_not,decide_eq_false_iff_not] at h
    exact ⟨by omega,by omega⟩
  exact ⟨w,rfl,⟨k x hf.1.1,k y hf.1.2,k z hf.2⟩,h1,hw⟩
end Go.Proofs
end
section
namespace Go.Proofs
open Go.Ax
theorem a17 {h:H4} (hh:h.d.length≤900000):Ax.Pure Tryz.prog G 32 [txH h] (N (a13 h)):=a30 h.x h.y h.z h.d hh
end Go.Proofs
end
