/- Lemmas on the program and its library: part VL1. -/
import Derived.Test.YtoiejgkkcfkliaaGreatDoorZW33
import Derived.Test.YtoiejgkkcfkliaaGreatDoorZW34
import Derived.Test.YtoiejgkkcfkliaaGreatDoorZW35
import Derived.Test.YtoiejgkkcfkliaaGreatDoorVW36
import Derived.Test.YtoiejgkkcfkliaaGreatDoorZL3
set_option linter.unusedVariables false
set_option linter.unusedSimpArgs false
section
set_option maxRecDepth 100000
namespace Go.Proofs
open Go.Ax
def ddF:Nat→Nat→List UInt8
  | 0,_=> []
  | f+1,u=>if u < 10 then [UInt8.ofNat (48+u)] else ddF f (u / 10)++ [UInt8.ofNat (48+u%10)]
theorem c77:∀(f u:Nat),u < 10 ^ (f+1)→Lib.decDigits u=ddF (f+1) u
  | 0,u,h=>by rw [a0x (by omega)];unfold ddF;rw [if_pos (by omega)]
  | f + 1, u, h => by
    unfold ddF
    by_cases h0:u < 10
    · rw [a0x h0,if_pos h0]
    · rw [if_neg h0,a3c (by omega),c77 f (u / 10) (by rw [Nat.pow_succ] at h;omega)]
def intC (z:Int):List UInt8:=if z < 0 then 45 :: ddF 20 z.natAbs else ddF 20 z.natAbs
def ratC (q:Rat):List UInt8:=if q.den=1 then intC q.num else intC q.num++47 :: ddF 20 q.den
def a0o (q:Rat):Bool:=Nat.blt q.num.natAbs 100000000000000000000 && Nat.blt q.den 100000000000000000000
theorem c2i {q:Rat} (h:a0o q=true):q.num.natAbs < 10 ^ 20∧q.den < 10 ^ 20:=by
  unfold a0o at h
  rw [Bool.and_eq_true,Nat.blt_eq,Nat.blt_eq] at h
  exact h
theorem a9i {q:Rat} (h:a0o q=true):y4 q=false:=by
  obtain ⟨h1,h2⟩:=c2i h
  exact d6g (Nat.le_trans (a0p h1 (by decide)) (by decide)) (Nat.le_trans (a0p h2 (by decide)) (by decide))
theorem e1s {q:Rat} (h:a0o q=true):c5 q=ratC q:=by
  obtain ⟨h1,h2⟩:=c2i h
  unfold c5 ratC r6 intC
  rw [c77 19 _ h1,c77 19 _ h2]
structure LQ (q:Rat) (l:List UInt8):Prop where
  t:c5 q=l
  b:y4 q=false
theorem lq {q:Rat} {l:List UInt8} (h:(a0o q && decide (ratC q=l))=true):LQ q l:=by
  rw [Bool.and_eq_true,decide_eq_true_iff] at h
  exact ⟨(e1s h.1).trans h.2,a9i h.1⟩
theorem dq {p:Prop} [Decidable p] (h:decide p=true):p:=of_decide_eq_true h
theorem resQ {f:FuncId} {args:List AV} {q:Rat} {l:List UInt8} (h:Ax.Pure Tryz.prog G f args (.tup [S (bs (txl (y4 q) q)),N (exl (y4 q))])) (k:LQ q l):Ax.Pure Tryz.prog G f args (.tup [S (bs l),N 0]):=by
  rw [k.b] at h
  rw [show l=c5 q from k.t.symm];exact h
theorem resV {f:FuncId} {args:List AV} {a b c:Rat} {x y z:List UInt8} (h:Ax.Pure Tryz.prog G f args (.tup [tV (txl (a1i a b c) a) (txl (a1i a b c) b) (txl (a1i a b c) c),N (exl (a1i a b c))])) (ka:LQ a x) (kb:LQ b y) (kc:LQ c z):Ax.Pure Tryz.prog G f args (.tup [tV x y z,N 0]):=by
  have e:a1i a b c=false:=by unfold a1i;rw [ka.b,kb.b,kc.b];rfl
  rw [e] at h
  rw [←ka.t,←kb.t,←kc.t];exact h
theorem resH {f:FuncId} {args:List AV} {a b c d:Rat} {x y z:Int} {w:List UInt8} (h:Ax.Pure Tryz.prog G f args (.tup [hT a b c d,N 0])) (ha:(a*nrm a b c).num=x) (hb:(b*nrm a b c).num=y) (hc:(c*nrm a b c).num=z) (hd:LQ (d*nrm a b c) w):Ax.Pure Tryz.prog G f args (.tup [tH x y z w,N 0]):=by
  rw [←ha,←hb,←hc,←hd.t];exact h
theorem hok {a b c d:Rat} (h:(decide ((-999999999≤(a*nrm a b c).num∧(a*nrm a b c).num≤999999999)∧(-999999999≤(b*nrm a b c).num∧(b*nrm a b c).num≤999999999)∧(-999999999≤(c*nrm a b c).num∧(c*nrm a b c).num≤999999999)) && a0o (d*nrm a b c))=true):hOk a b c d:=by
  rw [Bool.and_eq_true,decide_eq_true_iff] at h
  exact ⟨h.1,a9i h.2⟩
theorem resF {f:FuncId} {args:List AV} {o1 o2 o3 x1 x2 x3 y1 y2 y3 z1 z2 z3:Rat} {a1 a2 a3 b1 b2 b3 c1 c2 c3 d1 d2 d3:List UInt8} (h:Ax.Pure Tryz.prog G f args (.tup [tF (c5 o1) (c5 o2) (c5 o3) (c5 x1) (c5 x2) (c5 x3) (c5 y1) (c5 y2) (c5 y3) (c5 z1) (c5 z2) (c5 z3),N 0]))
    (k1:LQ o1 a1) (k2:LQ o2 a2) (k3:LQ o3 a3) (k4:LQ x1 b1) (k5:LQ x2 b2) (k6:LQ x3 b3) (k7:LQ y1 c1) (k8:LQ y2 c2) (k9:LQ y3 c3) (k10:LQ z1 d1) (k11:LQ z2 d2) (k12:LQ z3 d3):Ax.Pure Tryz.prog G f args (.tup [tF a1 a2 a3 b1 b2 b3 c1 c2 c3 d1 d2 d3,N 0]):=by
  rw [←k1.t,←k2.t,←k3.t,←k4.t,←k5.t,←k6.t,←k7.t,←k8.t,←k9.t,←k10.t,←k11.t,←k12.t];exact h
theorem d52 {o1 o2 o3 x1 x2 x3 y1 y2 y3 z1 z2 z3:Rat} (h:(decide (c7 x1 x2 x3 y1 y2 y3=0∧c7 y1 y2 y3 z1 z2 z3=0∧c7 z1 z2 z3 x1 x2 x3=0) && (a0o o1 && a0o o2 && a0o o3 && a0o x1 && a0o x2 && a0o x3 && a0o y1 && a0o y2 && a0o y3 && a0o z1 && a0o z2 && a0o z3))=true):gvF o1 o2 o3 x1 x2 x3 y1 y2 y3 z1 z2 z3=0:=by
  simp only [Bool.and_eq_true,decide_eq_true_iff] at h
  obtain ⟨h0,⟨⟨⟨⟨⟨⟨⟨⟨⟨⟨⟨h1,h2⟩,h3⟩,h4⟩,h5⟩,h6⟩,h7⟩,h8⟩,h9⟩,h10⟩,h11⟩,h12⟩⟩:=h
  unfold gvF b3j a1i
  rw [if_pos h0,a9i h1,a9i h2,a9i h3,a9i h4,a9i h5,a9i h6,a9i h7,a9i h8,a9i h9,a9i h10,a9i h11,a9i h12]
  rfl
theorem a6b {a b c:Rat} (h:(a0o a && a0o b && a0o c)=true):okV a b c:=by
  simp only [Bool.and_eq_true] at h
  exact ⟨a9i h.1.1,a9i h.1.2,a9i h.2⟩
theorem e05 {x1 x2 x3 y1 y2 y3 z1 z2 z3:Rat} (hx:¬(x1=0∧x2=0∧x3=0)) (hy:¬(y1=0∧y2=0∧y3=0)) (hz:¬(z1=0∧z2=0∧z3=0)) (ho:b6z x1 x2 x3 y1 y2 y3 z1 z2 z3) (hd:0 < a94 x1 x2 x3 y1 y2 y3 z1 z2 z3):axE x1 x2 x3 y1 y2 y3 z1 z2 z3=0:=by
  unfold axE
  rw [if_neg,if_pos ⟨ho,hd⟩]
  rintro ⟨⟨i,hi⟩,h⟩
  rcases (by omega:i=0∨i=1∨i=2) with rfl|rfl|rfl
  · exact hx (of_decide_eq_true h)
  · exact hy (of_decide_eq_true h)
  · exact hz (of_decide_eq_true h)
theorem okF_c {o1 o2 o3 x1 x2 x3 y1 y2 y3 z1 z2 z3:Rat} (h:((a0o o1 && a0o o2 && a0o o3) && (a0o x1 && a0o x2 && a0o x3) && (a0o y1 && a0o y2 && a0o y3) && (a0o z1 && a0o z2 && a0o z3) && decide ((¬(x1=0∧x2=0∧x3=0))∧(¬(y1=0∧y2=0∧y3=0))∧(¬(z1=0∧z2=0∧z3=0))∧(c7 x1 x2 x3 y1 y2 y3=0∧c7 y1 y2 y3 z1 z2 z3=0∧c7 z1 z2 z3 x1 x2 x3=0)∧0 < a94 x1 x2 x3 y1 y2 y3 z1 z2 z3))=true):okF o1 o2 o3 x1 x2 x3 y1 y2 y3 z1 z2 z3:=by
  rw [Bool.and_eq_true,Bool.and_eq_true,Bool.and_eq_true,Bool.and_eq_true,decide_eq_true_iff] at h
  obtain ⟨⟨⟨⟨h1,h2⟩,h3⟩,h4⟩,h5,h6,h7,h8,h9⟩:=h
  exact ⟨a6b h1,a6b h2,a6b h3,a6b h4,e05 h5 h6 h7 h8 h9⟩
theorem d0z {x y z:Int} {d:Rat} (h:(decide (((-999999999≤x∧x≤999999999)∧(-999999999≤y∧y≤999999999)∧(-999999999≤z∧z≤999999999))∧b1c x y z 3=1) && a0o d)=true):okH x y z d:=by
  rw [Bool.and_eq_true,decide_eq_true_iff] at h
  exact ⟨h.1.1,h.1.2,a9i h.2⟩
theorem l_0:c5 0= [48]:=(lq (by kernel_rfl)).t
theorem l_1:c5 1= [49]:=(lq (by kernel_rfl)).t
theorem l_2:c5 2= [50]:=(lq (by kernel_rfl)).t
theorem l_3:c5 3= [51]:=(lq (by kernel_rfl)).t
theorem l_4:c5 4= [52]:=(lq (by kernel_rfl)).t
theorem l_5:c5 5= [53]:=(lq (by kernel_rfl)).t
theorem l_7:c5 7= [55]:=(lq (by kernel_rfl)).t
theorem l_10:c5 10= [49,48]:=(lq (by kernel_rfl)).t
theorem l_30:c5 30= [51,48]:=(lq (by kernel_rfl)).t
theorem l_n1:c5 (-1)= [45,49]:=(lq (by kernel_rfl)).t
theorem l_n2:c5 (-2)= [45,50]:=(lq (by kernel_rfl)).t
theorem l_n4:c5 (-4)= [45,52]:=(lq (by kernel_rfl)).t
theorem l_h:c5 (1 / 2)= [49,47,50]:=(lq (by kernel_rfl)).t
theorem l_t:c5 (-1 / 3)= [45,49,47,51]:=(lq (by kernel_rfl)).t
theorem d4e:Ax.Pure Tryz.prog G 22 [S (bs [49,50,46,53,48])] (.tup [S (bs [50,53,47,50]),N 0]):=by
  have h:=c7b false [49,50] [53,48] (fun _=>by decide) (by decide) (by decide)
  rw [if_pos (by decide)] at h
  exact resQ (q:=prQ false 1250 100) h (lq (by kernel_rfl))
theorem d4b:Ax.Pure Tryz.prog G 91 [tV [50] [48] [52],tV [45,49] [48] [45,50]] (.tup [S (bs [45,49,47,50]),N 0]):=by
  have h:=d9j 2 0 4 (-1) 0 (-2) (a6b (by kernel_rfl)) (a6b (by kernel_rfl)) (dq (by kernel_rfl)) (dq (by kernel_rfl))
  rw [l_2,l_0,l_4,l_n1,l_n2] at h
  exact resQ h (lq (by kernel_rfl))
theorem c5k:Ax.Pure Tryz.prog G 38 [tV [49,47,50] [48] [45,49,47,51],S (bs [53])] (.tup [tH 3 0 (-2) [51,48],N 0]):=by
  have h:=c9b (1 / 2) 0 (-1 / 3) 5 (a6b (by kernel_rfl)) (a9i (by kernel_rfl)) (dq (by kernel_rfl)) (hok (by kernel_rfl))
  rw [l_h,l_0,l_t,l_5] at h
  exact resH h (by kernel_rfl) (by kernel_rfl) (by kernel_rfl) (lq (by kernel_rfl))
theorem c7y:Ax.Pure Tryz.prog G 77 [tV [49] [48] [48],tV [48] [49] [48],tV [48] [48] [49]] (.tup [tH 1 1 1 [49],N 0]):=by
  have h:=d2z 1 0 0 0 1 0 0 0 1 (a6b (by kernel_rfl)) (a6b (by kernel_rfl)) (a6b (by kernel_rfl)) (dq (by kernel_rfl)) (hok (by kernel_rfl))
  rw [l_1,l_0] at h
  exact resH h (by kernel_rfl) (by kernel_rfl) (by kernel_rfl) (lq (by kernel_rfl))
theorem d1r:Ax.Pure Tryz.prog G 48 [tH 1 1 1 [49],tV [48] [48] [48]] (.tup [tV [50,47,51] [50,47,51] [50,47,51],N 0]):=by
  have h:=d60 1 1 1 1 (d0z (by kernel_rfl)) 0 0 0 (a6b (by kernel_rfl))
  rw [l_1,l_0] at h
  exact resV h (lq (by kernel_rfl)) (lq (by kernel_rfl)) (lq (by kernel_rfl))
theorem d70:Ax.Pure Tryz.prog G 45 [tH 1 1 1 [49,48],tV [48] [48] [48],tV [49] [49] [48]] (.tup [tV [53] [53] [48],N 0]):=by
  have h:=e1v 1 1 1 10 (d0z (by kernel_rfl)) 0 0 0 1 1 0 (a6b (by kernel_rfl)) (a6b (by kernel_rfl)) (dq (by kernel_rfl))
  rw [l_10,l_1,l_0] at h
  exact resV h (lq (by kernel_rfl)) (lq (by kernel_rfl)) (lq (by kernel_rfl))
theorem c2w:okF 1 0 0 3 4 0 (-4) 3 0 0 0 5:=okF_c (by kernel_rfl)
theorem d4f:Ax.Pure Tryz.prog G 75 [tF [49] [48] [48] [51] [52] [48] [45,52] [51] [48] [48] [48] [53],tV [49] [49] [49]] (.tup [tV [48] [55] [53],N 0]):=by
  have h:=d9k 1 0 0 3 4 0 (-4) 3 0 0 0 5 c2w 1 1 1 (a6b (by kernel_rfl))
  rw [l_1,l_0,l_3,l_4,l_n4,l_5] at h
  exact resV h (lq (by kernel_rfl)) (lq (by kernel_rfl)) (lq (by kernel_rfl))
theorem c2v:Ax.Pure Tryz.prog G 28 [tF [49] [48] [48] [51] [52] [48] [45,52] [51] [48] [48] [48] [53],tH 1 0 0 [49]] (.tup [tH 3 4 0 [50,56],N 0]):=by
  have h:=c7c 1 0 0 3 4 0 (-4) 3 0 0 0 5 c2w 1 0 0 1 (d0z (by kernel_rfl)) (hok (by kernel_rfl))
  rw [l_1,l_0,l_3,l_4,l_n4,l_5] at h
  exact resH h (by kernel_rfl) (by kernel_rfl) (by kernel_rfl) (lq (by kernel_rfl))
theorem c7x:Ax.Pure Tryz.prog G 60 [tF [49] [48] [48] [51] [52] [48] [45,52] [51] [48] [48] [48] [53],tF [49] [48] [48] [51] [52] [48] [45,52] [51] [48] [48] [48] [53]] (.tup [tF [52] [52] [48] [45,55] [50,52] [48] [45,50,52] [45,55] [48] [48] [48] [50,53],N 0]):=by
  have h:=resF (c2f 1 0 0 3 4 0 (-4) 3 0 0 0 5 c2w 1 0 0 3 4 0 (-4) 3 0 0 0 5 c2w (d52 (by kernel_rfl))) (lq (l:=[52]) (by kernel_rfl)) (lq (l:=[52]) (by kernel_rfl)) (lq (l:=[48]) (by kernel_rfl)) (lq (l:=[45,55]) (by kernel_rfl)) (lq (l:=[50,52]) (by kernel_rfl)) (lq (l:=[48]) (by kernel_rfl)) (lq (l:=[45,50,52]) (by kernel_rfl)) (lq (l:=[45,55]) (by kernel_rfl)) (lq (l:=[48]) (by kernel_rfl)) (lq (l:=[48]) (by kernel_rfl)) (lq (l:=[48]) (by kernel_rfl)) (lq (l:=[50,53]) (by kernel_rfl))
  rw [l_1,l_0,l_3,l_4,l_n4,l_5] at h
  exact h
theorem d72:Ax.Pure Tryz.prog G 62 [.agg [.v (.string (bs [49])),.v (.string (bs [48])),.v (.string (bs [48])),.v (.string (bs [49]))]] (.tup [tF [48] [48] [48] [48] [49] [48] [45,49] [48] [48] [48] [48] [49],N 0]):=by
  have h:=resF (d61 1 0 0 1 (a9i (by kernel_rfl)) (a6b (by kernel_rfl)) (dq (by kernel_rfl)) (d52 (by kernel_rfl))) (lq (l:=[48]) (by kernel_rfl)) (lq (l:=[48]) (by kernel_rfl)) (lq (l:=[48]) (by kernel_rfl)) (lq (l:=[48]) (by kernel_rfl)) (lq (l:=[49]) (by kernel_rfl)) (lq (l:=[48]) (by kernel_rfl)) (lq (l:=[45,49]) (by kernel_rfl)) (lq (l:=[48]) (by kernel_rfl)) (lq (l:=[48]) (by kernel_rfl)) (lq (l:=[48]) (by kernel_rfl)) (lq (l:=[48]) (by kernel_rfl)) (lq (l:=[49]) (by kernel_rfl))
  rw [l_1,l_0] at h
  exact h
theorem d71:Ax.Pure Tryz.prog G 42 [tH 3 0 (-2) [51,48],tV [49,48] [55] [49]] (.tup [N (-1),N 0]):=by
  have h:=e1w 3 0 (-2) 30 (d0z (by kernel_rfl)) 10 7 1 (a6b (by kernel_rfl))
  rw [l_30,l_10,l_7,l_1,show (c7 ((3:Int):Rat) ((0:Int):Rat) ((-2:Int):Rat) 10 7 1 - 30).num.sign= -1 from by kernel_rfl] at h
  exact h
theorem d4c:Ax.Pure Tryz.prog G 18 [S (bs [112,111,115,116,95,49])] (Bo true):=by
  have h:=c5y (bs [112,111,115,116,95,49])
  rw [show b5a (bs [112,111,115,116,95,49])=true from by kernel_rfl] at h
  exact h
theorem d4d:Ax.Pure Tryz.prog G 18 [S (bs [49,112,111,115,116])] (Bo false):=by
  have h:=c5y (bs [49,112,111,115,116])
  rw [show b5a (bs [49,112,111,115,116])=false from by kernel_rfl] at h
  exact h
end Go.Proofs
end
section
set_option maxHeartbeats 4000000
set_option maxRecDepth 100000
namespace Go.Proofs
open Go.Ax
theorem l_vec (x y z:Int) (hx:i64 x) (hy:i64 y) (hz:i64 z):Ax.Pure Tryz.prog G 72 [N x,N y,N z] (tV (c5 (x:Rat)) (c5 (y:Rat)) (c5 (z:Rat))):=by
  have c_i:=c4g x y z hx hy hz
  refine r8 Tryz.func72 rfl Tryz.ntmps72 ?_
  intro w0 E0 hc
  repeat' (first|refine n7 hc Tryz.results72 ?_|(with_reducible first|exact trivial|refine j3 ?_ ?_|refine m8 (fun h=>?_)|refine c9 c_i ?_ ?_|fail)|(omega;done))
theorem a43 {x y z:Int} {a b c:List UInt8} (h:(decide ((-9223372036854775808≤x∧x < 9223372036854775808)∧(-9223372036854775808≤y∧y < 9223372036854775808)∧(-9223372036854775808≤z∧z < 9223372036854775808)))=true) (ha:LQ (x:Rat) a) (hb:LQ (y:Rat) b) (hc:LQ (z:Rat) c):Ax.Pure Tryz.prog G 72 [N x,N y,N z] (tV a b c):=by
  obtain ⟨h1,h2,h3⟩:=of_decide_eq_true h
  rw [←ha.t,←hb.t,←hc.t]
  exact l_vec x y z h1 h2 h3
theorem d8u:Ax.Pure Tryz.prog G 114 [] (tF [49] [48] [48] [51] [52] [48] [45,52] [51] [48] [48] [48] [53]):=by
  have c_1:Ax.Pure Tryz.prog G 72 [N 1,N 0,N 0] (tV [49] [48] [48]):=a43 (by kernel_rfl) (lq (by kernel_rfl)) (lq (by kernel_rfl)) (lq (by kernel_rfl))
  have c_2:Ax.Pure Tryz.prog G 72 [N 3,N 4,N 0] (tV [51] [52] [48]):=a43 (by kernel_rfl) (lq (by kernel_rfl)) (lq (by kernel_rfl)) (lq (by kernel_rfl))
  have c_3:Ax.Pure Tryz.prog G 72 [N (-4),N 3,N 0] (tV [45,52] [51] [48]):=a43 (by kernel_rfl) (lq (by kernel_rfl)) (lq (by kernel_rfl)) (lq (by kernel_rfl))
  have c_4:Ax.Pure Tryz.prog G 72 [N 0,N 0,N 5] (tV [48] [48] [53]):=a43 (by kernel_rfl) (lq (by kernel_rfl)) (lq (by kernel_rfl)) (lq (by kernel_rfl))
  refine r8 Tryz.func114 rfl Tryz.ntmps114 ?_
  intro w0 E0 hc
  repeat' (first|refine n7 hc Tryz.results114 ?_|(with_reducible first|exact trivial|refine j3 ?_ ?_|refine m8 (fun h=>?_)|refine c9 c_1 ?_ ?_|refine c9 c_2 ?_ ?_|refine c9 c_3 ?_ ?_|refine c9 c_4 ?_ ?_|fail)|(omega;done))
theorem b8i:Ax.Pure Tryz.prog G 17 [] (Bo true):=by
  have c_v1:Ax.Pure Tryz.prog G 72 [N 2,N 0,N 4] (tV [50] [48] [52]):=a43 (by kernel_rfl) (lq (by kernel_rfl)) (lq (by kernel_rfl)) (lq (by kernel_rfl))
  have c_v2:Ax.Pure Tryz.prog G 72 [N (-1),N 0,N (-2)] (tV [45,49] [48] [45,50]):=a43 (by kernel_rfl) (lq (by kernel_rfl)) (lq (by kernel_rfl)) (lq (by kernel_rfl))
  have c_v3:Ax.Pure Tryz.prog G 72 [N 1,N 0,N 0] (tV [49] [48] [48]):=a43 (by kernel_rfl) (lq (by kernel_rfl)) (lq (by kernel_rfl)) (lq (by kernel_rfl))
  have c_v4:Ax.Pure Tryz.prog G 72 [N 0,N 1,N 0] (tV [48] [49] [48]):=a43 (by kernel_rfl) (lq (by kernel_rfl)) (lq (by kernel_rfl)) (lq (by kernel_rfl))
  have c_v5:Ax.Pure Tryz.prog G 72 [N 0,N 0,N 1] (tV [48] [48] [49]):=a43 (by kernel_rfl) (lq (by kernel_rfl)) (lq (by kernel_rfl)) (lq (by kernel_rfl))
  have c_v6:Ax.Pure Tryz.prog G 72 [N 0,N 0,N 0] (tV [48] [48] [48]):=a43 (by kernel_rfl) (lq (by kernel_rfl)) (lq (by kernel_rfl)) (lq (by kernel_rfl))
  have c_v7:Ax.Pure Tryz.prog G 72 [N 1,N 1,N 1] (tV [49] [49] [49]):=a43 (by kernel_rfl) (lq (by kernel_rfl)) (lq (by kernel_rfl)) (lq (by kernel_rfl))
  have c_v8:Ax.Pure Tryz.prog G 72 [N 1,N 1,N 0] (tV [49] [49] [48]):=a43 (by kernel_rfl) (lq (by kernel_rfl)) (lq (by kernel_rfl)) (lq (by kernel_rfl))
  have c_v9:Ax.Pure Tryz.prog G 72 [N 0,N 7,N 5] (tV [48] [55] [53]):=a43 (by kernel_rfl) (lq (by kernel_rfl)) (lq (by kernel_rfl)) (lq (by kernel_rfl))
  have c_va:Ax.Pure Tryz.prog G 72 [N (-1),N 0,N 0] (tV [45,49] [48] [48]):=a43 (by kernel_rfl) (lq (by kernel_rfl)) (lq (by kernel_rfl)) (lq (by kernel_rfl))
  have c_vb:Ax.Pure Tryz.prog G 72 [N 4,N 4,N 0] (tV [52] [52] [48]):=a43 (by kernel_rfl) (lq (by kernel_rfl)) (lq (by kernel_rfl)) (lq (by kernel_rfl))
  have c_vc:Ax.Pure Tryz.prog G 72 [N (-7),N 24,N 0] (tV [45,55] [50,52] [48]):=a43 (by kernel_rfl) (lq (by kernel_rfl)) (lq (by kernel_rfl)) (lq (by kernel_rfl))
  have c_vd:Ax.Pure Tryz.prog G 72 [N 5,N 5,N 0] (tV [53] [53] [48]):=a43 (by kernel_rfl) (lq (by kernel_rfl)) (lq (by kernel_rfl)) (lq (by kernel_rfl))
  have c_ve:Ax.Pure Tryz.prog G 72 [N 10,N 7,N 1] (tV [49,48] [55] [49]):=a43 (by kernel_rfl) (lq (by kernel_rfl)) (lq (by kernel_rfl)) (lq (by kernel_rfl))
  have c_aP:=d4e
  have c_aA:=d4b
  have c_aM:=c5k
  have c_aT:=c7y
  have c_aR:=d1r
  have c_aE:=d70
  have c_aL:=d4f
  have c_aH:=c2v
  have c_aC:=c7x
  have c_aU:=d72
  have c_aS:=d71
  have c_n1:=d4c
  have c_n2:=d4d
  have c_f:=d8u
  refine r8 Tryz.func17 rfl Tryz.ntmps17 ?_
  intro w0 E0 hc
  repeat' (first|refine n7 hc Tryz.results17 ?_|(with_reducible first|exact trivial|refine j3 ?_ ?_|refine m8 (fun h=>?_)|refine c9 c_aP ?_ ?_|refine c9 c_aA ?_ ?_|refine c9 c_aM ?_ ?_|refine c9 c_aT ?_ ?_|refine c9 c_aR ?_ ?_|refine c9 c_aE ?_ ?_|refine c9 c_aL ?_ ?_|refine c9 c_aH ?_ ?_|refine c9 c_aC ?_ ?_|refine c9 c_aU ?_ ?_|refine c9 c_aS ?_ ?_|refine c9 c_n1 ?_ ?_|refine c9 c_n2 ?_ ?_|refine c9 c_f ?_ ?_|refine c9 c_v1 ?_ ?_|refine c9 c_v2 ?_ ?_|refine c9 c_v3 ?_ ?_|refine c9 c_v4 ?_ ?_|refine c9 c_v5 ?_ ?_|refine c9 c_v6 ?_ ?_|refine c9 c_v7 ?_ ?_|refine c9 c_v8 ?_ ?_|refine c9 c_v9 ?_ ?_|refine c9 c_va ?_ ?_|refine c9 c_vb ?_ ?_|refine c9 c_vc ?_ ?_|refine c9 c_vd ?_ ?_|refine c9 c_ve ?_ ?_|fail)|((first|omega|(exfalso;dsimp only [bs] at h;simp at h;done)|(exact absurd (by decide +kernel) h));done))
  all_goals exact Sub.refl _
end Go.Proofs
end
