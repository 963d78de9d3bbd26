/- Lemmas on the program and its library: part VL1. -/
import Derived.Test.YtoiejgkkcfkliaaGreatDoorZW33
import Derived.Test.YtoiejgkkcfkliaaGreatDoorZW34
import Derived.Test.YtoiejgkkcfkliaaGreatDoorZW35
import Derived.Test.YtoiejgkkcfkliaaGreatDoorVW36
import Derived.Test.YtoiejgkkcfkliaaGreatDoorZL3
set_option linter.unusedVariables false
set_option linter.unusedSimpArgs false
section
set_option maxRecDepth 100000
namespace Go.Proofs
open Go.Ax
def ddF:Nat→Nat→List UInt8
  | 0,_=> []
  | f+1,u=>if u < 10 then [UInt8.ofNat (48+u)] else ddF f (u / 10)++ [UInt8.ofNat (48+u%10)]
theorem ddF_eq:∀(f u:Nat),u < 10 ^ (f+1)→Lib.decDigits u=ddF (f+1) u
  | 0,u,h=>by rw [dec_small (by omega)];unfold ddF;rw [if_pos (by omega)]
  | f + 1, u, h => by
    unfold ddF
    by_cases h0:u < 10
    · rw [dec_small h0,if_pos h0]
    · rw [if_neg h0,dec_step (by omega),ddF_eq f (u / 10) (by rw [Nat.pow_succ] at h;omega)]
def intC (z:Int):List UInt8:=if z < 0 then 45 :: ddF 20 z.natAbs else ddF 20 z.natAbs
def ratC (q:Rat):List UInt8:=if q.den=1 then intC q.num else intC q.num++47 :: ddF 20 q.den
def smallQ (q:Rat):Bool:=Nat.blt q.num.natAbs 100000000000000000000 && Nat.blt q.den 100000000000000000000
theorem smallQ_lt {q:Rat} (h:smallQ q=true):q.num.natAbs < 10 ^ 20∧q.den < 10 ^ 20:=by
  unfold smallQ at h
  rw [Bool.and_eq_true,Nat.blt_eq,Nat.blt_eq] at h
  exact h
theorem nbig {q:Rat} (h:smallQ q=true):bigQ q=false:=by
  obtain ⟨h1,h2⟩:=smallQ_lt h
  exact ok_dec (Nat.le_trans (dec_len_le h1 (by decide)) (by decide)) (Nat.le_trans (dec_len_le h2 (by decide)) (by decide))
theorem ratL_C {q:Rat} (h:smallQ q=true):ratL q=ratC q:=by
  obtain ⟨h1,h2⟩:=smallQ_lt h
  unfold ratL ratC intL intC
  rw [ddF_eq 19 _ h1,ddF_eq 19 _ h2]
structure LQ (q:Rat) (l:List UInt8):Prop where
  t:ratL q=l
  b:bigQ q=false
theorem lq {q:Rat} {l:List UInt8} (h:(smallQ q && decide (ratC q=l))=true):LQ q l:=by
  rw [Bool.and_eq_true,decide_eq_true_iff] at h
  exact ⟨(ratL_C h.1).trans h.2,nbig h.1⟩
theorem dq {p:Prop} [Decidable p] (h:decide p=true):p:=of_decide_eq_true h
theorem resQ {f:FuncId} {args:List AV} {q:Rat} {l:List UInt8} (h:Ax.Pure Tryz.prog G f args (.tup [S (bs (txl (bigQ q) q)),N (exl (bigQ q))])) (k:LQ q l):Ax.Pure Tryz.prog G f args (.tup [S (bs l),N 0]):=by
  rw [k.b] at h
  rw [show l=ratL q from k.t.symm];exact h
theorem resV {f:FuncId} {args:List AV} {a b c:Rat} {x y z:List UInt8} (h:Ax.Pure Tryz.prog G f args (.tup [tV (txl (bigV a b c) a) (txl (bigV a b c) b) (txl (bigV a b c) c),N (exl (bigV a b c))])) (ka:LQ a x) (kb:LQ b y) (kc:LQ c z):Ax.Pure Tryz.prog G f args (.tup [tV x y z,N 0]):=by
  have e:bigV a b c=false:=by unfold bigV;rw [ka.b,kb.b,kc.b];rfl
  rw [e] at h
  rw [←ka.t,←kb.t,←kc.t];exact h
theorem resH {f:FuncId} {args:List AV} {a b c d:Rat} {x y z:Int} {w:List UInt8} (h:Ax.Pure Tryz.prog G f args (.tup [hT a b c d,N 0])) (ha:(a*nrm a b c).num=x) (hb:(b*nrm a b c).num=y) (hc:(c*nrm a b c).num=z) (hd:LQ (d*nrm a b c) w):Ax.Pure Tryz.prog G f args (.tup [tH x y z w,N 0]):=by
  rw [←ha,←hb,←hc,←hd.t];exact h
theorem hok {a b c d:Rat} (h:(decide ((-999999999≤(a*nrm a b c).num∧(a*nrm a b c).num≤999999999)∧(-999999999≤(b*nrm a b c).num∧(b*nrm a b c).num≤999999999)∧(-999999999≤(c*nrm a b c).num∧(c*nrm a b c).num≤999999999)) && smallQ (d*nrm a b c))=true):hOk a b c d:=by
  rw [Bool.and_eq_true,decide_eq_true_iff] at h
  exact ⟨h.1,nbig h.2⟩
theorem resF {f:FuncId} {args:List AV} {o1 o2 o3 x1 x2 x3 y1 y2 y3 z1 z2 z3:Rat} {a1 a2 a3 b1 b2 b3 c1 c2 c3 d1 d2 d3:List UInt8} (h:Ax.Pure Tryz.prog G f args (.tup [tF (ratL o1) (ratL o2) (ratL o3) (ratL x1) (ratL x2) (ratL x3) (ratL y1) (ratL y2) (ratL y3) (ratL z1) (ratL z2) (ratL z3),N 0]))
    (k1:LQ o1 a1) (k2:LQ o2 a2) (k3:LQ o3 a3) (k4:LQ x1 b1) (k5:LQ x2 b2) (k6:LQ x3 b3) (k7:LQ y1 c1) (k8:LQ y2 c2) (k9:LQ y3 c3) (k10:LQ z1 d1) (k11:LQ z2 d2) (k12:LQ z3 d3):Ax.Pure Tryz.prog G f args (.tup [tF a1 a2 a3 b1 b2 b3 c1 c2 c3 d1 d2 d3,N 0]):=by
  rw [←k1.t,←k2.t,←k3.t,←k4.t,←k5.t,←k6.t,←k7.t,←k8.t,←k9.t,←k10.t,←k11.t,←k12.t];exact h
theorem gvF_ok {o1 o2 o3 x1 x2 x3 y1 y2 y3 z1 z2 z3:Rat} (h:(decide (dot3 x1 x2 x3 y1 y2 y3=0∧dot3 y1 y2 y3 z1 z2 z3=0∧dot3 z1 z2 z3 x1 x2 x3=0) && (smallQ o1 && smallQ o2 && smallQ o3 && smallQ x1 && smallQ x2 && smallQ x3 && smallQ y1 && smallQ y2 && smallQ y3 && smallQ z1 && smallQ z2 && smallQ z3))=true):gvF o1 o2 o3 x1 x2 x3 y1 y2 y3 z1 z2 z3=0:=by
  simp only [Bool.and_eq_true,decide_eq_true_iff] at h
  obtain ⟨h0,⟨⟨⟨⟨⟨⟨⟨⟨⟨⟨⟨h1,h2⟩,h3⟩,h4⟩,h5⟩,h6⟩,h7⟩,h8⟩,h9⟩,h10⟩,h11⟩,h12⟩⟩:=h
  unfold gvF bigF bigV
  rw [if_pos h0,nbig h1,nbig h2,nbig h3,nbig h4,nbig h5,nbig h6,nbig h7,nbig h8,nbig h9,nbig h10,nbig h11,nbig h12]
  rfl
theorem okV_c {a b c:Rat} (h:(smallQ a && smallQ b && smallQ c)=true):okV a b c:=by
  simp only [Bool.and_eq_true] at h
  exact ⟨nbig h.1.1,nbig h.1.2,nbig h.2⟩
theorem axE_ok {x1 x2 x3 y1 y2 y3 z1 z2 z3:Rat} (hx:¬(x1=0∧x2=0∧x3=0)) (hy:¬(y1=0∧y2=0∧y3=0)) (hz:¬(z1=0∧z2=0∧z3=0)) (ho:orth x1 x2 x3 y1 y2 y3 z1 z2 z3) (hd:0 < det3 x1 x2 x3 y1 y2 y3 z1 z2 z3):axE x1 x2 x3 y1 y2 y3 z1 z2 z3=0:=by
  unfold axE
  rw [if_neg,if_pos ⟨ho,hd⟩]
  rintro ⟨⟨i,hi⟩,h⟩
  rcases (by omega:i=0∨i=1∨i=2) with rfl|rfl|rfl
  · exact hx (of_decide_eq_true h)
  · exact hy (of_decide_eq_true h)
  · exact hz (of_decide_eq_true h)
theorem okF_c {o1 o2 o3 x1 x2 x3 y1 y2 y3 z1 z2 z3:Rat} (h:((smallQ o1 && smallQ o2 && smallQ o3) && (smallQ x1 && smallQ x2 && smallQ x3) && (smallQ y1 && smallQ y2 && smallQ y3) && (smallQ z1 && smallQ z2 && smallQ z3) && decide ((¬(x1=0∧x2=0∧x3=0))∧(¬(y1=0∧y2=0∧y3=0))∧(¬(z1=0∧z2=0∧z3=0))∧(dot3 x1 x2 x3 y1 y2 y3=0∧dot3 y1 y2 y3 z1 z2 z3=0∧dot3 z1 z2 z3 x1 x2 x3=0)∧0 < det3 x1 x2 x3 y1 y2 y3 z1 z2 z3))=true):okF o1 o2 o3 x1 x2 x3 y1 y2 y3 z1 z2 z3:=by
  rw [Bool.and_eq_true,Bool.and_eq_true,Bool.and_eq_true,Bool.and_eq_true,decide_eq_true_iff] at h
  obtain ⟨⟨⟨⟨h1,h2⟩,h3⟩,h4⟩,h5,h6,h7,h8,h9⟩:=h
  exact ⟨okV_c h1,okV_c h2,okV_c h3,okV_c h4,axE_ok h5 h6 h7 h8 h9⟩
theorem okH_c {x y z:Int} {d:Rat} (h:(decide (((-999999999≤x∧x≤999999999)∧(-999999999≤y∧y≤999999999)∧(-999999999≤z∧z≤999999999))∧gcdN x y z 3=1) && smallQ d)=true):okH x y z d:=by
  rw [Bool.and_eq_true,decide_eq_true_iff] at h
  exact ⟨h.1.1,h.1.2,nbig h.2⟩
theorem l_0:ratL 0= [48]:=(lq (by kernel_rfl)).t
theorem l_1:ratL 1= [49]:=(lq (by kernel_rfl)).t
theorem l_2:ratL 2= [50]:=(lq (by kernel_rfl)).t
theorem l_3:ratL 3= [51]:=(lq (by kernel_rfl)).t
theorem l_4:ratL 4= [52]:=(lq (by kernel_rfl)).t
theorem l_5:ratL 5= [53]:=(lq (by kernel_rfl)).t
theorem l_7:ratL 7= [55]:=(lq (by kernel_rfl)).t
theorem l_10:ratL 10= [49,48]:=(lq (by kernel_rfl)).t
theorem l_30:ratL 30= [51,48]:=(lq (by kernel_rfl)).t
theorem l_n1:ratL (-1)= [45,49]:=(lq (by kernel_rfl)).t
theorem l_n2:ratL (-2)= [45,50]:=(lq (by kernel_rfl)).t
theorem l_n4:ratL (-4)= [45,52]:=(lq (by kernel_rfl)).t
theorem l_h:ratL (1 / 2)= [49,47,50]:=(lq (by kernel_rfl)).t
theorem l_t:ratL (-1 / 3)= [45,49,47,51]:=(lq (by kernel_rfl)).t
theorem aw_Parse:Ax.Pure Tryz.prog G 22 [S (bs [49,50,46,53,48])] (.tup [S (bs [50,53,47,50]),N 0]):=by
  have h:=s_Parse_dot false [49,50] [53,48] (fun _=>by decide) (by decide) (by decide)
  rw [if_pos (by decide)] at h
  exact resQ (q:=prQ false 1250 100) h (lq (by kernel_rfl))
theorem aw_Along:Ax.Pure Tryz.prog G 91 [tV [50] [48] [52],tV [45,49] [48] [45,50]] (.tup [S (bs [45,49,47,50]),N 0]):=by
  have h:=s_Along 2 0 4 (-1) 0 (-2) (okV_c (by kernel_rfl)) (okV_c (by kernel_rfl)) (dq (by kernel_rfl)) (dq (by kernel_rfl))
  rw [l_2,l_0,l_4,l_n1,l_n2] at h
  exact resQ h (lq (by kernel_rfl))
theorem aw_MakeHalf:Ax.Pure Tryz.prog G 38 [tV [49,47,50] [48] [45,49,47,51],S (bs [53])] (.tup [tH 3 0 (-2) [51,48],N 0]):=by
  have h:=s_MakeHalf (1 / 2) 0 (-1 / 3) 5 (okV_c (by kernel_rfl)) (nbig (by kernel_rfl)) (dq (by kernel_rfl)) (hok (by kernel_rfl))
  rw [l_h,l_0,l_t,l_5] at h
  exact resH h (by kernel_rfl) (by kernel_rfl) (by kernel_rfl) (lq (by kernel_rfl))
theorem aw_Through:Ax.Pure Tryz.prog G 77 [tV [49] [48] [48],tV [48] [49] [48],tV [48] [48] [49]] (.tup [tH 1 1 1 [49],N 0]):=by
  have h:=s_Through 1 0 0 0 1 0 0 0 1 (okV_c (by kernel_rfl)) (okV_c (by kernel_rfl)) (okV_c (by kernel_rfl)) (dq (by kernel_rfl)) (hok (by kernel_rfl))
  rw [l_1,l_0] at h
  exact resH h (by kernel_rfl) (by kernel_rfl) (by kernel_rfl) (lq (by kernel_rfl))
theorem aw_Mirror:Ax.Pure Tryz.prog G 48 [tH 1 1 1 [49],tV [48] [48] [48]] (.tup [tV [50,47,51] [50,47,51] [50,47,51],N 0]):=by
  have h:=s_Mirror 1 1 1 1 (okH_c (by kernel_rfl)) 0 0 0 (okV_c (by kernel_rfl))
  rw [l_1,l_0] at h
  exact resV h (lq (by kernel_rfl)) (lq (by kernel_rfl)) (lq (by kernel_rfl))
theorem aw_Meet:Ax.Pure Tryz.prog G 45 [tH 1 1 1 [49,48],tV [48] [48] [48],tV [49] [49] [48]] (.tup [tV [53] [53] [48],N 0]):=by
  have h:=s_Meet 1 1 1 10 (okH_c (by kernel_rfl)) 0 0 0 1 1 0 (okV_c (by kernel_rfl)) (okV_c (by kernel_rfl)) (dq (by kernel_rfl))
  rw [l_10,l_1,l_0] at h
  exact resV h (lq (by kernel_rfl)) (lq (by kernel_rfl)) (lq (by kernel_rfl))
theorem aw_okF:okF 1 0 0 3 4 0 (-4) 3 0 0 0 5:=okF_c (by kernel_rfl)
theorem aw_Place:Ax.Pure Tryz.prog G 75 [tF [49] [48] [48] [51] [52] [48] [45,52] [51] [48] [48] [48] [53],tV [49] [49] [49]] (.tup [tV [48] [55] [53],N 0]):=by
  have h:=s_Place 1 0 0 3 4 0 (-4) 3 0 0 0 5 aw_okF 1 1 1 (okV_c (by kernel_rfl))
  rw [l_1,l_0,l_3,l_4,l_n4,l_5] at h
  exact resV h (lq (by kernel_rfl)) (lq (by kernel_rfl)) (lq (by kernel_rfl))
theorem aw_PlaceHalf:Ax.Pure Tryz.prog G 28 [tF [49] [48] [48] [51] [52] [48] [45,52] [51] [48] [48] [48] [53],tH 1 0 0 [49]] (.tup [tH 3 4 0 [50,56],N 0]):=by
  have h:=s_PlaceHalf 1 0 0 3 4 0 (-4) 3 0 0 0 5 aw_okF 1 0 0 1 (okH_c (by kernel_rfl)) (hok (by kernel_rfl))
  rw [l_1,l_0,l_3,l_4,l_n4,l_5] at h
  exact resH h (by kernel_rfl) (by kernel_rfl) (by kernel_rfl) (lq (by kernel_rfl))
theorem aw_Compose:Ax.Pure Tryz.prog G 60 [tF [49] [48] [48] [51] [52] [48] [45,52] [51] [48] [48] [48] [53],tF [49] [48] [48] [51] [52] [48] [45,52] [51] [48] [48] [48] [53]] (.tup [tF [52] [52] [48] [45,55] [50,52] [48] [45,50,52] [45,55] [48] [48] [48] [50,53],N 0]):=by
  have h:=resF (s_Compose 1 0 0 3 4 0 (-4) 3 0 0 0 5 aw_okF 1 0 0 3 4 0 (-4) 3 0 0 0 5 aw_okF (gvF_ok (by kernel_rfl))) (lq (l:=[52]) (by kernel_rfl)) (lq (l:=[52]) (by kernel_rfl)) (lq (l:=[48]) (by kernel_rfl)) (lq (l:=[45,55]) (by kernel_rfl)) (lq (l:=[50,52]) (by kernel_rfl)) (lq (l:=[48]) (by kernel_rfl)) (lq (l:=[45,50,52]) (by kernel_rfl)) (lq (l:=[45,55]) (by kernel_rfl)) (lq (l:=[48]) (by kernel_rfl)) (lq (l:=[48]) (by kernel_rfl)) (lq (l:=[48]) (by kernel_rfl)) (lq (l:=[50,53]) (by kernel_rfl))
  rw [l_1,l_0,l_3,l_4,l_n4,l_5] at h
  exact h
theorem aw_Turn:Ax.Pure Tryz.prog G 62 [.agg [.v (.string (bs [49])),.v (.string (bs [48])),.v (.string (bs [48])),.v (.string (bs [49]))]] (.tup [tF [48] [48] [48] [48] [49] [48] [45,49] [48] [48] [48] [48] [49],N 0]):=by
  have h:=resF (s_Turn 1 0 0 1 (nbig (by kernel_rfl)) (okV_c (by kernel_rfl)) (dq (by kernel_rfl)) (gvF_ok (by kernel_rfl))) (lq (l:=[48]) (by kernel_rfl)) (lq (l:=[48]) (by kernel_rfl)) (lq (l:=[48]) (by kernel_rfl)) (lq (l:=[48]) (by kernel_rfl)) (lq (l:=[49]) (by kernel_rfl)) (lq (l:=[48]) (by kernel_rfl)) (lq (l:=[45,49]) (by kernel_rfl)) (lq (l:=[48]) (by kernel_rfl)) (lq (l:=[48]) (by kernel_rfl)) (lq (l:=[48]) (by kernel_rfl)) (lq (l:=[48]) (by kernel_rfl)) (lq (l:=[49]) (by kernel_rfl))
  rw [l_1,l_0] at h
  exact h
theorem aw_Side:Ax.Pure Tryz.prog G 42 [tH 3 0 (-2) [51,48],tV [49,48] [55] [49]] (.tup [N (-1),N 0]):=by
  have h:=s_Side 3 0 (-2) 30 (okH_c (by kernel_rfl)) 10 7 1 (okV_c (by kernel_rfl))
  rw [l_30,l_10,l_7,l_1,show (dot3 ((3:Int):Rat) ((0:Int):Rat) ((-2:Int):Rat) 10 7 1 - 30).num.sign= -1 from by kernel_rfl] at h
  exact h
theorem aw_Name1:Ax.Pure Tryz.prog G 18 [S (bs [112,111,115,116,95,49])] (Bo true):=by
  have h:=c_IsName (bs [112,111,115,116,95,49])
  rw [show nameB (bs [112,111,115,116,95,49])=true from by kernel_rfl] at h
  exact h
theorem aw_Name2:Ax.Pure Tryz.prog G 18 [S (bs [49,112,111,115,116])] (Bo false):=by
  have h:=c_IsName (bs [49,112,111,115,116])
  rw [show nameB (bs [49,112,111,115,116])=false from by kernel_rfl] at h
  exact h
end Go.Proofs
end
section
set_option maxHeartbeats 4000000
set_option maxRecDepth 100000
namespace Go.Proofs
open Go.Ax
theorem l_vec (x y z:Int) (hx:i64 x) (hy:i64 y) (hz:i64 z):Ax.Pure Tryz.prog G 72 [N x,N y,N z] (tV (ratL (x:Rat)) (ratL (y:Rat)) (ratL (z:Rat))):=by
  have c_i:=r_Ints x y z hx hy hz
  refine zen Tryz.func72 rfl Tryz.ntmps72 ?_
  intro w0 E0 hc
  repeat' (first|refine zR1 hc Tryz.results72 ?_|(with_reducible first|exact trivial|refine zan ?_ ?_|refine zim (fun h=>?_)|refine zoc c_i ?_ ?_|fail)|(omega;done))
theorem v_lit {x y z:Int} {a b c:List UInt8} (h:(decide ((-9223372036854775808≤x∧x < 9223372036854775808)∧(-9223372036854775808≤y∧y < 9223372036854775808)∧(-9223372036854775808≤z∧z < 9223372036854775808)))=true) (ha:LQ (x:Rat) a) (hb:LQ (y:Rat) b) (hc:LQ (z:Rat) c):Ax.Pure Tryz.prog G 72 [N x,N y,N z] (tV a b c):=by
  obtain ⟨h1,h2,h3⟩:=of_decide_eq_true h
  rw [←ha.t,←hb.t,←hc.t]
  exact l_vec x y z h1 h2 h3
theorem l_frame:Ax.Pure Tryz.prog G 114 [] (tF [49] [48] [48] [51] [52] [48] [45,52] [51] [48] [48] [48] [53]):=by
  have c_1:Ax.Pure Tryz.prog G 72 [N 1,N 0,N 0] (tV [49] [48] [48]):=v_lit (by kernel_rfl) (lq (by kernel_rfl)) (lq (by kernel_rfl)) (lq (by kernel_rfl))
  have c_2:Ax.Pure Tryz.prog G 72 [N 3,N 4,N 0] (tV [51] [52] [48]):=v_lit (by kernel_rfl) (lq (by kernel_rfl)) (lq (by kernel_rfl)) (lq (by kernel_rfl))
  have c_3:Ax.Pure Tryz.prog G 72 [N (-4),N 3,N 0] (tV [45,52] [51] [48]):=v_lit (by kernel_rfl) (lq (by kernel_rfl)) (lq (by kernel_rfl)) (lq (by kernel_rfl))
  have c_4:Ax.Pure Tryz.prog G 72 [N 0,N 0,N 5] (tV [48] [48] [53]):=v_lit (by kernel_rfl) (lq (by kernel_rfl)) (lq (by kernel_rfl)) (lq (by kernel_rfl))
  refine zen Tryz.func114 rfl Tryz.ntmps114 ?_
  intro w0 E0 hc
  repeat' (first|refine zR1 hc Tryz.results114 ?_|(with_reducible first|exact trivial|refine zan ?_ ?_|refine zim (fun h=>?_)|refine zoc c_1 ?_ ?_|refine zoc c_2 ?_ ?_|refine zoc c_3 ?_ ?_|refine zoc c_4 ?_ ?_|fail)|(omega;done))
theorem c_awake:Ax.Pure Tryz.prog G 17 [] (Bo true):=by
  have c_v1:Ax.Pure Tryz.prog G 72 [N 2,N 0,N 4] (tV [50] [48] [52]):=v_lit (by kernel_rfl) (lq (by kernel_rfl)) (lq (by kernel_rfl)) (lq (by kernel_rfl))
  have c_v2:Ax.Pure Tryz.prog G 72 [N (-1),N 0,N (-2)] (tV [45,49] [48] [45,50]):=v_lit (by kernel_rfl) (lq (by kernel_rfl)) (lq (by kernel_rfl)) (lq (by kernel_rfl))
  have c_v3:Ax.Pure Tryz.prog G 72 [N 1,N 0,N 0] (tV [49] [48] [48]):=v_lit (by kernel_rfl) (lq (by kernel_rfl)) (lq (by kernel_rfl)) (lq (by kernel_rfl))
  have c_v4:Ax.Pure Tryz.prog G 72 [N 0,N 1,N 0] (tV [48] [49] [48]):=v_lit (by kernel_rfl) (lq (by kernel_rfl)) (lq (by kernel_rfl)) (lq (by kernel_rfl))
  have c_v5:Ax.Pure Tryz.prog G 72 [N 0,N 0,N 1] (tV [48] [48] [49]):=v_lit (by kernel_rfl) (lq (by kernel_rfl)) (lq (by kernel_rfl)) (lq (by kernel_rfl))
  have c_v6:Ax.Pure Tryz.prog G 72 [N 0,N 0,N 0] (tV [48] [48] [48]):=v_lit (by kernel_rfl) (lq (by kernel_rfl)) (lq (by kernel_rfl)) (lq (by kernel_rfl))
  have c_v7:Ax.Pure Tryz.prog G 72 [N 1,N 1,N 1] (tV [49] [49] [49]):=v_lit (by kernel_rfl) (lq (by kernel_rfl)) (lq (by kernel_rfl)) (lq (by kernel_rfl))
  have c_v8:Ax.Pure Tryz.prog G 72 [N 1,N 1,N 0] (tV [49] [49] [48]):=v_lit (by kernel_rfl) (lq (by kernel_rfl)) (lq (by kernel_rfl)) (lq (by kernel_rfl))
  have c_v9:Ax.Pure Tryz.prog G 72 [N 0,N 7,N 5] (tV [48] [55] [53]):=v_lit (by kernel_rfl) (lq (by kernel_rfl)) (lq (by kernel_rfl)) (lq (by kernel_rfl))
  have c_va:Ax.Pure Tryz.prog G 72 [N (-1),N 0,N 0] (tV [45,49] [48] [48]):=v_lit (by kernel_rfl) (lq (by kernel_rfl)) (lq (by kernel_rfl)) (lq (by kernel_rfl))
  have c_vb:Ax.Pure Tryz.prog G 72 [N 4,N 4,N 0] (tV [52] [52] [48]):=v_lit (by kernel_rfl) (lq (by kernel_rfl)) (lq (by kernel_rfl)) (lq (by kernel_rfl))
  have c_vc:Ax.Pure Tryz.prog G 72 [N (-7),N 24,N 0] (tV [45,55] [50,52] [48]):=v_lit (by kernel_rfl) (lq (by kernel_rfl)) (lq (by kernel_rfl)) (lq (by kernel_rfl))
  have c_vd:Ax.Pure Tryz.prog G 72 [N 5,N 5,N 0] (tV [53] [53] [48]):=v_lit (by kernel_rfl) (lq (by kernel_rfl)) (lq (by kernel_rfl)) (lq (by kernel_rfl))
  have c_ve:Ax.Pure Tryz.prog G 72 [N 10,N 7,N 1] (tV [49,48] [55] [49]):=v_lit (by kernel_rfl) (lq (by kernel_rfl)) (lq (by kernel_rfl)) (lq (by kernel_rfl))
  have c_aP:=aw_Parse
  have c_aA:=aw_Along
  have c_aM:=aw_MakeHalf
  have c_aT:=aw_Through
  have c_aR:=aw_Mirror
  have c_aE:=aw_Meet
  have c_aL:=aw_Place
  have c_aH:=aw_PlaceHalf
  have c_aC:=aw_Compose
  have c_aU:=aw_Turn
  have c_aS:=aw_Side
  have c_n1:=aw_Name1
  have c_n2:=aw_Name2
  have c_f:=l_frame
  refine zen Tryz.func17 rfl Tryz.ntmps17 ?_
  intro w0 E0 hc
  repeat' (first|refine zR1 hc Tryz.results17 ?_|(with_reducible first|exact trivial|refine zan ?_ ?_|refine zim (fun h=>?_)|refine zoc c_aP ?_ ?_|refine zoc c_aA ?_ ?_|refine zoc c_aM ?_ ?_|refine zoc c_aT ?_ ?_|refine zoc c_aR ?_ ?_|refine zoc c_aE ?_ ?_|refine zoc c_aL ?_ ?_|refine zoc c_aH ?_ ?_|refine zoc c_aC ?_ ?_|refine zoc c_aU ?_ ?_|refine zoc c_aS ?_ ?_|refine zoc c_n1 ?_ ?_|refine zoc c_n2 ?_ ?_|refine zoc c_f ?_ ?_|refine zoc c_v1 ?_ ?_|refine zoc c_v2 ?_ ?_|refine zoc c_v3 ?_ ?_|refine zoc c_v4 ?_ ?_|refine zoc c_v5 ?_ ?_|refine zoc c_v6 ?_ ?_|refine zoc c_v7 ?_ ?_|refine zoc c_v8 ?_ ?_|refine zoc c_v9 ?_ ?_|refine zoc c_va ?_ ?_|refine zoc c_vb ?_ ?_|refine zoc c_vc ?_ ?_|refine zoc c_vd ?_ ?_|refine zoc c_ve ?_ ?_|fail)|((first|omega|(exfalso;dsimp only [bs] at h;simp at h;done)|(exact absurd (by decide +kernel) h));done))
  all_goals exact Sub.refl _
end Go.Proofs
end
