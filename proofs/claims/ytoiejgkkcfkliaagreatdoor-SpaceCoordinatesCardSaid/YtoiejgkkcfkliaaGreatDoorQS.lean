/- Lemmas on the program and its library: part QS. -/
import Derived.Test.YtoiejgkkcfkliaaGreatDoorQSW
import Derived.Test.YtoiejgkkcfkliaaGreatDoorVL1
set_option linter.unusedVariables false
set_option linter.unusedSimpArgs false
section
set_option maxHeartbeats 4000000
set_option maxRecDepth 100000
namespace Go.Proofs
open Go.Ax
theorem r_CheckRow (ls:List (List UInt8)) (n:Nat) (hn:n=ls.length) (hl:∀l∈ls,l.length≤900000) (hl2:ls.length≤1000000):Ax.Pure Tryz.prog G 63 [rowT ls n] (N (fstE ls)):=by
  have c_c:∀i:Nat,i < ls.length→Ax.Pure Tryz.prog G 21 [S (bs (ls.getD i []))] (N (checkL (ls.getD i []))):=fun i hi=>
    r_Check _ (hl _ (by rw [List.getD_eq_getElem?_getD,List.getElem?_eq_getElem hi];exact List.getElem_mem hi))
  refine zen Tryz.func63 rfl Tryz.ntmps63 ?_
  intro w0 E0 hc
  repeat' (first|refine zR1 hc Tryz.results63 ?_|(with_reducible first|exact trivial|refine zan ?_ ?_|refine zim (fun h=>?_)|fail)|(omega;done))
  refine Wp_loopI (α:=Nat) (fun i=>stOf [(0,rowT ls n),(3,N i)] [] 0) (fun i=>i≤ls.length∧fstE ls=fstE (ls.drop i)) (fun i=>ls.length - i) 0 ⟨Nat.zero_le _,rfl⟩ ?_ ?_
  · refine zW1 ?_ <;> repeat' (with_reducible first|exact trivial|refine zan ?_ ?_|refine zal (fun i hi=>?_))
  · rintro i ⟨h1,h2⟩
    have hd:=fun h:i < ls.length=>fstE_drop h
    have c_ci:=c_c i
    repeat' (first|refine zR1 hc Tryz.results63 ?_|(with_reducible first|exact trivial|refine zan ?_ ?_|refine zim (fun h=>?_)|refine zoc (c_ci ?_) ?_ ?_|fail)|((first|omega|(simp only [Int.toNat_natCast];omega));done))
    · have hd':=hd (by omega)
      rw [if_neg h] at hd'
      exact sub_eq (by rw [h2,hd'])
    · have hd':=hd (by omega)
      rw [if_pos h] at hd'
      refine ⟨i+1,⟨by omega,by rw [h2,hd']⟩,by omega,?_⟩
      refine zW1 ?_ <;> repeat' (with_reducible first|exact trivial|refine zan ?_ ?_|refine zal (fun i hi=>?_))
    · have:ls.length≤i:=by omega
      rw [List.drop_eq_nil_of_le this] at h2
      exact sub_eq (by rw [h2];rfl)
theorem r_CheckRow3 (a b c:List UInt8) (ha:a.length≤900000) (hb:b.length≤900000) (hc:c.length≤900000):Ax.Pure Tryz.prog G 63 [.one (.row 1 3 (fun i=> [[Leaf.v (.string (bs a))],[Leaf.v (.string (bs b))],[Leaf.v (.string (bs c))]].getD i []))] (N (fstE [a,b,c])):=
  pure_args (r_CheckRow [a,b,c] 3 rfl (mem3 ha hb hc) (show 3≤1000000 by decide)) ⟨sub_row_eq (row3_lt rfl rfl rfl),trivial⟩ ⟨trivial,trivial⟩
theorem r_CheckVec (a b c:List UInt8) (ha:a.length≤900000) (hb:b.length≤900000) (hc':c.length≤900000):Ax.Pure Tryz.prog G 39 [tV a b c] (N (fstE [a,b,c])):=by
  have c_c:=r_CheckRow3 a b c ha hb hc'
  refine zen Tryz.func39 rfl Tryz.ntmps39 ?_
  intro w0 E0 hc
  repeat' (first|refine zR1 hc Tryz.results39 ?_|(with_reducible first|exact trivial|refine zan ?_ ?_|refine zim (fun h=>?_)|refine zoc c_c ?_ ?_|fail)|(omega;done))
def fewQ (q:Rat) (n:Nat):Bool:=decide ((Lib.decDigits q.num.natAbs).length≤n∧(Lib.decDigits q.den).length≤n)
theorem r_Few (q:Rat) (hq:bigQ q=false) (n:Nat) (hn:n≤1000):Ax.Pure Tryz.prog G 85 [S (bs (ratL q)),N n] (Bo (fewQ q n)):=by
  have hQ:=bigQ_Q hq
  obtain ⟨d1,d2⟩:=Q_dl hQ
  have h3:=intL_len q.num
  have c_c:=r_Check (ratL q) (ok_len hq)
  rw [ok_chk hq] at c_c
  have c_n:=r_Num q hQ (by decide)
  have c_d:=r_Den q hQ (by decide)
  have c_a:=r_AbsI q.num (by omega)
  have s0:=bs_size (ratL q)
  have s1:=bs_size (Lib.decDigits q.num.natAbs)
  have s2:=bs_size (Lib.decDigits q.den)
  have w1:IntKind.i64.wrap (IntKind.i64.wrap (2*(n:Int))+2)=2*(n:Int)+2:=by rw [w64 (x:=2*(n:Int)) (by omega) (by omega),w64 (by omega) (by omega)]
  have hlen:(ratL q).length≤(Lib.decDigits q.num.natAbs).length+(Lib.decDigits q.den).length+2:=by
    unfold ratL
    split
    · omega
    · rw [List.length_append,List.length_cons];omega
  refine zen Tryz.func85 rfl Tryz.ntmps85 ?_
  intro w0 E0 hc
  repeat' (first|refine zR1 hc Tryz.results85 ?_|(with_reducible first|exact trivial|refine zan ?_ ?_|refine zim (fun h=>?_)|refine zoc c_c ?_ ?_|refine zoc c_n ?_ ?_|refine zoc c_d ?_ ?_|refine zoc c_a ?_ ?_|fail)|(omega;done))
  · unfold fewQ
    refine sub_eq (congrArg Bo (decide_eq_decide.2 ⟨fun h=>⟨by omega,by omega⟩,fun h=>by have:=h.2;omega⟩))
  · rw [show fewQ q n=false from decide_eq_false (fun h=>by have:=h.1;omega)];exact Sub.refl _
  · rw [show fewQ q n=false from decide_eq_false (fun h=>by have:=h.1;have:=h.2;omega)];exact Sub.refl _
theorem r_Few_bad (l:List UInt8) (hl:l.length≤900000) (he:checkL l≠0) (n:Nat):Ax.Pure Tryz.prog G 85 [S (bs l),N n] (Bo false):=by
  have c_c:=r_Check l hl
  generalize checkL l=e at *
  refine zen Tryz.func85 rfl Tryz.ntmps85 ?_
  intro w0 E0 hc
  repeat' (first|refine zR1 hc Tryz.results85 ?_|(with_reducible first|exact trivial|refine zan ?_ ?_|refine zim (fun h=>?_)|refine zoc c_c ?_ ?_|fail)|(omega;done))
end Go.Proofs
end
section
set_option maxHeartbeats 4000000
set_option maxRecDepth 100000
namespace Go.Proofs
open Go.Ax
theorem zero_text:(⟨#[48]⟩:ByteArray)=bs (ratL 0):=by rw [ratL_zero]
theorem r_Dot {k:Nat} (hk:k≤200000) (a1 a2 a3 b1 b2 b3:Rat) (qa:Q k a1∧Q k a2∧Q k a3) (qb:Q k b1∧Q k b2∧Q k b3):Ax.Pure Tryz.prog G 76 [tV (ratL a1) (ratL a2) (ratL a3),tV (ratL b1) (ratL b2) (ratL b3)] (S (bs (ratL (dot3 a1 a2 a3 b1 b2 b3)))):=by
  obtain ⟨qa1,qa2,qa3⟩:=qa
  obtain ⟨qb1,qb2,qb3⟩:=qb
  have c_1:=r_MulQ a1 b1 qa1 qb1 (by omega)
  have m1:=Q_mul qa1 qb1
  have c_2:=r_MulQ a2 b2 qa2 qb2 (by omega)
  have m2:=Q_mul qa2 qb2
  have c_3:=r_MulQ a3 b3 qa3 qb3 (by omega)
  have m3:=Q_mul qa3 qb3
  have c_4:=r_AddQ (a1*b1) (a2*b2) m1 m2 (by omega)
  have c_5:Ax.Pure Tryz.prog G 59 [S (bs (ratL (a1*b1+a2*b2))),S (bs (ratL (a3*b3)))] (S (bs (ratL (dot3 a1 a2 a3 b1 b2 b3)))):=r_AddQ (a1*b1+a2*b2) (a3*b3) (Q_add m1 m2) (Q_mono m3 (by omega)) (by omega)
  refine zen Tryz.func76 rfl Tryz.ntmps76 ?_
  intro w0 E0 hc
  repeat' (first|refine zR1 hc Tryz.results76 ?_|(with_reducible first|exact trivial|refine zan ?_ ?_|refine zim (fun h=>?_)|refine zoc c_1 ?_ ?_|refine zoc c_2 ?_ ?_|refine zoc c_3 ?_ ?_|refine zoc c_4 ?_ ?_|refine zoc c_5 ?_ ?_|fail)|(omega;done))
theorem r_Cross {k:Nat} (hk:k≤200000) (a1 a2 a3 b1 b2 b3:Rat) (qa:Q k a1∧Q k a2∧Q k a3) (qb:Q k b1∧Q k b2∧Q k b3):Ax.Pure Tryz.prog G 78 [tV (ratL a1) (ratL a2) (ratL a3),tV (ratL b1) (ratL b2) (ratL b3)] (tV (ratL (a2*b3 - a3*b2)) (ratL (a3*b1 - a1*b3)) (ratL (a1*b2 - a2*b1))):=by
  obtain ⟨qa1,qa2,qa3⟩:=qa
  obtain ⟨qb1,qb2,qb3⟩:=qb
  have c_m12:=r_MulQ a1 b2 qa1 qb2 (by omega)
  have m12:=Q_mul qa1 qb2
  have c_m13:=r_MulQ a1 b3 qa1 qb3 (by omega)
  have m13:=Q_mul qa1 qb3
  have c_m21:=r_MulQ a2 b1 qa2 qb1 (by omega)
  have m21:=Q_mul qa2 qb1
  have c_m23:=r_MulQ a2 b3 qa2 qb3 (by omega)
  have m23:=Q_mul qa2 qb3
  have c_m31:=r_MulQ a3 b1 qa3 qb1 (by omega)
  have m31:=Q_mul qa3 qb1
  have c_m32:=r_MulQ a3 b2 qa3 qb2 (by omega)
  have m32:=Q_mul qa3 qb2
  have c_s23:=r_Sub (a2*b3) (a3*b2) m23 m32 (by omega)
  have c_s31:=r_Sub (a3*b1) (a1*b3) m31 m13 (by omega)
  have c_s12:=r_Sub (a1*b2) (a2*b1) m12 m21 (by omega)
  refine zen Tryz.func78 rfl Tryz.ntmps78 ?_
  intro w0 E0 hc
  repeat' (first|refine zR1 hc Tryz.results78 ?_|(with_reducible first|exact trivial|refine zan ?_ ?_|refine zim (fun h=>?_)|refine zoc c_m12 ?_ ?_|refine zoc c_m13 ?_ ?_|refine zoc c_m21 ?_ ?_|refine zoc c_m23 ?_ ?_|refine zoc c_m31 ?_ ?_|refine zoc c_m32 ?_ ?_|refine zoc c_s23 ?_ ?_|refine zoc c_s31 ?_ ?_|refine zoc c_s12 ?_ ?_|fail)|(omega;done))
theorem r_Det {k:Nat} (hk:k≤40000) (a1 a2 a3 b1 b2 b3 c1 c2 c3:Rat) (qa:Q k a1∧Q k a2∧Q k a3) (qb:Q k b1∧Q k b2∧Q k b3) (qc:Q k c1∧Q k c2∧Q k c3):Ax.Pure Tryz.prog G 193 [tV (ratL a1) (ratL a2) (ratL a3),tV (ratL b1) (ratL b2) (ratL b3),tV (ratL c1) (ratL c2) (ratL c3)] (S (bs (ratL (dot3 a1 a2 a3 (b2*c3 - b3*c2) (b3*c1 - b1*c3) (b1*c2 - b2*c1))))):=by
  have c_x:=r_Cross (by omega) b1 b2 b3 c1 c2 c3 qb qc
  obtain ⟨qa1,qa2,qa3⟩:=qa
  obtain ⟨qb1,qb2,qb3⟩:=qb
  obtain ⟨qc1,qc2,qc3⟩:=qc
  have x1:=Q_sub (Q_mul qb2 qc3) (Q_mul qb3 qc2)
  have x2:=Q_sub (Q_mul qb3 qc1) (Q_mul qb1 qc3)
  have x3:=Q_sub (Q_mul qb1 qc2) (Q_mul qb2 qc1)
  have c_d:=r_Dot (k:=k+k+(k+k)+1) (by omega) a1 a2 a3 (b2*c3 - b3*c2) (b3*c1 - b1*c3) (b1*c2 - b2*c1) ⟨Q_mono qa1 (by omega),Q_mono qa2 (by omega),Q_mono qa3 (by omega)⟩ ⟨x1,x2,x3⟩
  refine zen Tryz.func193 rfl Tryz.ntmps193 ?_
  intro w0 E0 hc
  repeat' (first|refine zR1 hc Tryz.results193 ?_|(with_reducible first|exact trivial|refine zan ?_ ?_|refine zim (fun h=>?_)|refine zoc c_x ?_ ?_|refine zoc c_d ?_ ?_|fail)|(omega;done))
theorem r_Origin:Ax.Pure Tryz.prog G 89 [] (tV (ratL 0) (ratL 0) (ratL 0)):=by
  refine zen Tryz.func89 rfl Tryz.ntmps89 ?_
  intro w0 E0 hc
  repeat' (first|refine zR1 hc Tryz.results89 ?_|(with_reducible first|exact trivial|refine zan ?_ ?_|refine zim (fun h=>?_)|fail)|(omega;done))
  all_goals rw [ratL_zero];exact Sub.refl _
theorem r_IsOrigin (a1 a2 a3:Rat):Ax.Pure Tryz.prog G 79 [tV (ratL a1) (ratL a2) (ratL a3)] (Bo (decide (a1=0∧a2=0∧a3=0))):=by
  have c_o:=r_Origin
  have e:∀a:Rat,((bs (ratL a)).toList == (bs (ratL 0)).toList)=decide (a=0):=fun a=>by
    rw [←zero_text];exact Bool.eq_iff_iff.2 ((ratL_eq_zero a).trans (by simp))
  refine zen Tryz.func79 rfl Tryz.ntmps79 ?_
  intro w0 E0 hc
  repeat' (first|refine zR1 hc Tryz.results79 ?_|(with_reducible first|exact trivial|refine zan ?_ ?_|refine zim (fun h=>?_)|refine zoc c_o ?_ ?_|fail)|((refine sub_eq (congrArg Bo ?_);rw [e,e,e];by_cases h1:a1=0 <;> by_cases h2:a2=0 <;> by_cases h3:a3=0 <;> simp [h1,h2,h3]);done))
end Go.Proofs
end
section
namespace Go.Proofs
open Go.Ax
theorem nft2 {p:Prop} {b:Bool} (g:b=false) (h:b=true):p:=absurd (g.symm.trans h) Bool.false_ne_true
end Go.Proofs
end
section
set_option maxHeartbeats 4000000
set_option maxRecDepth 100000
namespace Go.Proofs
open Go.Ax
theorem det_eq (x1 x2 x3 y1 y2 y3 z1 z2 z3:Rat):dot3 x1 x2 x3 (y2*z3 - y3*z2) (y3*z1 - y1*z3) (y1*z2 - y2*z1)=det3 x1 x2 x3 y1 y2 y3 z1 z2 z3:=by
  unfold det3 dot3;grind
theorem sgQ_pos {q:Rat}:sgQ q≤0↔¬0 < q:=by
  rw [show 0 < q↔0 < q.num by rw [Rat.lt_iff];simp]
  unfold sgQ
  split
  · rename_i h;subst h;decide
  · rename_i h
    have:q.num≠0:=fun e=>h (Rat.num_eq_zero.1 e)
    split <;> omega
theorem r_Shape {k:Nat} (hk:k≤40000) (o1 o2 o3 x1 x2 x3 y1 y2 y3 z1 z2 z3:Rat) (qx:Q k x1∧Q k x2∧Q k x3) (qy:Q k y1∧Q k y2∧Q k y3) (qz:Q k z1∧Q k z2∧Q k z3):Ax.Pure Tryz.prog G 68 [tF (ratL o1) (ratL o2) (ratL o3) (ratL x1) (ratL x2) (ratL x3) (ratL y1) (ratL y2) (ratL y3) (ratL z1) (ratL z2) (ratL z3)] (N (if (dot3 x1 x2 x3 y1 y2 y3=0∧dot3 y1 y2 y3 z1 z2 z3=0∧dot3 z1 z2 z3 x1 x2 x3=0)∧0 < det3 x1 x2 x3 y1 y2 y3 z1 z2 z3 then 0 else 15)):=by
  have c_1:=r_Dot (k:=k) (by omega) x1 x2 x3 y1 y2 y3 qx qy
  have c_2:=r_Dot (k:=k) (by omega) y1 y2 y3 z1 z2 z3 qy qz
  have c_3:=r_Dot (k:=k) (by omega) z1 z2 z3 x1 x2 x3 qz qx
  have c_d:=r_Det (k:=k) (by omega) x1 x2 x3 y1 y2 y3 z1 z2 z3 qx qy qz
  rw [det_eq] at c_d
  generalize dot3 x1 x2 x3 y1 y2 y3=d1 at *
  generalize dot3 y1 y2 y3 z1 z2 z3=d2 at *
  generalize dot3 z1 z2 z3 x1 x2 x3=d3 at *
  generalize det3 x1 x2 x3 y1 y2 y3 z1 z2 z3=dt at *
  have c_4:=r_IsZero d1
  have c_5:=r_IsZero d2
  have c_6:=r_IsZero d3
  have c_7:=r_Sign dt
  have hs:sgQ dt≤0↔¬0 < dt:=sgQ_pos
  generalize sgQ dt=s at *
  refine zen Tryz.func68 rfl Tryz.ntmps68 ?_
  intro w0 E0 hc
  repeat' (first|refine zR1 hc Tryz.results68 ?_|(with_reducible first|exact trivial|refine zan ?_ ?_|refine zim (fun h=>?_)|refine zoc c_1 ?_ ?_|refine zoc c_2 ?_ ?_|refine zoc c_3 ?_ ?_|refine zoc c_4 ?_ ?_|refine zoc c_5 ?_ ?_|refine zoc c_6 ?_ ?_|refine zoc c_d ?_ ?_|refine zoc c_7 ?_ ?_|fail)|(omega;done))
  all_goals
    refine sub_int ?_
    by_cases e1:d1=0 <;> by_cases e2:d2=0 <;> by_cases e3:d3=0 <;> by_cases e4:0 < dt <;> simp_all <;> omega
end Go.Proofs
end
section
set_option maxHeartbeats 4000000
set_option maxRecDepth 100000
namespace Go.Proofs
open Go.Ax
theorem Q_small {q:Rat} (h:Q (3*600) q):bigQ q=false:=by
  have h1:∀n:Nat,n < 2 ^ (3*600)→(Lib.decDigits n).length≤600:=fun n hn=>dec_len_le (Nat.lt_of_lt_of_le hn (eight_ten 600)) (by decide)
  unfold bigQ bigZ
  rw [Bool.or_eq_false_iff,decide_eq_false_iff_not,decide_eq_false_iff_not]
  exact ⟨Nat.not_lt.2 (h1 _ h.1),Nat.not_lt.2 (h1 _ h.2)⟩
theorem fst_ok {a b c:Rat} (h:okV a b c):fstVec (v3 a b c)=0:=by
  show firstNZ [checkL (ratL a),checkL (ratL b),checkL (ratL c)]=0
  rw [ok_chk h.1,ok_chk h.2.1,ok_chk h.2.2];rfl
theorem chk_V {a b c:Rat} (h:okV a b c):Ax.Pure Tryz.prog G 39 [tV (ratL a) (ratL b) (ratL c)] (N 0):=by
  have k:=r_CheckVec (ratL a) (ratL b) (ratL c) (ok_len h.1) (ok_len h.2.1) (ok_len h.2.2)
  rw [show fstE [ratL a,ratL b,ratL c]=0 from fst_ok h] at k
  exact k
theorem r_Few_long (l:List UInt8) (n:Nat) (hn:n≤1000) (hl:2*n+2 < l.length):Ax.Pure Tryz.prog G 85 [S (bs l),N n] (Bo false):=by
  have s0:=bs_size l
  have w1:IntKind.i64.wrap (IntKind.i64.wrap (2*(n:Int))+2)=2*(n:Int)+2:=by rw [w64 (x:=2*(n:Int)) (by omega) (by omega),w64 (by omega) (by omega)]
  refine zen Tryz.func85 rfl Tryz.ntmps85 ?_
  intro w0 E0 hc
  repeat' (first|refine zR1 hc Tryz.results85 ?_|(with_reducible first|exact trivial|refine zan ?_ ?_|refine zim (fun h=>?_)|fail)|(omega;done))
theorem r_FewAny (l:List UInt8) (n:Nat) (hn:n≤1000):∃b:Bool,Ax.Pure Tryz.prog G 85 [S (bs l),N n] (Bo b)∧(b=true→∃q:Rat,l=ratL q∧bigQ q=false∧Q (4*n) q):=by
  by_cases hl:2*n+2 < l.length
  · exact ⟨false,r_Few_long l n hn hl,fun h=>by cases h⟩
  · by_cases hc:checkL l=0
    · obtain ⟨q,rfl,hq⟩:=checkL_zero hc
      exact ⟨_,r_Few q hq n hn,fun h=>⟨q,rfl,hq,Q_dec (of_decide_eq_true h).1 (of_decide_eq_true h).2⟩⟩
    · exact ⟨false,r_Few_bad l (by omega) hc n,fun h=>by cases h⟩
theorem r_FewVAny (v:V3) (n:Nat) (hn:n≤1000):∃b:Bool,Ax.Pure Tryz.prog G 55 [txV v,N n] (Bo b)∧(b=true→∃p q r:Rat,v=v3 p q r∧okV p q r∧Q (4*n) p∧Q (4*n) q∧Q (4*n) r):=by
  obtain ⟨x,y,z⟩:=v
  obtain ⟨b1,c_1,g1⟩:=r_FewAny x n hn
  obtain ⟨b2,c_2,g2⟩:=r_FewAny y n hn
  obtain ⟨b3,c_3,g3⟩:=r_FewAny z n hn
  refine ⟨b1 && (b2 && b3),?_,fun h=>?_⟩
  · clear g1 g2 g3
    cases b1 <;> cases b2
    all_goals
      refine zen Tryz.func55 rfl Tryz.ntmps55 ?_
      intro w0 E0 hc
      repeat' (first|refine zR1 hc Tryz.results55 ?_|(with_reducible first|exact trivial|refine zan ?_ ?_|refine zim (fun h=>?_)|refine zoc c_1 ?_ ?_|refine zoc c_2 ?_ ?_|refine zoc c_3 ?_ ?_|fail)|(omega;done))
      all_goals exact Sub.refl _
  · rw [Bool.and_eq_true,Bool.and_eq_true] at h
    obtain ⟨p,rfl,op,qp⟩:=g1 h.1
    obtain ⟨q,rfl,oq,qq⟩:=g2 h.2.1
    obtain ⟨r,rfl,or',qr⟩:=g3 h.2.2
    exact ⟨p,q,r,rfl,⟨op,oq,or'⟩,qp,qq,qr⟩
end Go.Proofs
end
section
set_option maxHeartbeats 4000000
set_option maxRecDepth 100000
namespace Go.Proofs
open Go.Ax
theorem row4V {a b c d:V3}:Sub (.one (.row 3 4 (fun i=> [leafV a,leafV b,leafV c,leafV d].getD i []))) (rowV [a,b,c,d] 4):=sub_row_eq (row4_lt rfl rfl rfl rfl)
theorem four_V {P:Nat→V3→Prop} {a b c d:V3} (h0:P 0 a) (h1:P 1 b) (h2:P 2 c) (h3:P 3 d) (i:Nat) (hi:i < 4):P i ([a,b,c,d].getD i ([],[],[])):=by
  rcases (by omega:i=0∨i=1∨i=2∨i=3) with rfl|rfl|rfl|rfl
  · exact h0
  · exact h1
  · exact h2
  · exact h3
theorem r_CheckFr_go {a b c d:V3} {zz:Nat→Bool} {s:Int} (c_v:∀i,i < 4→Ax.Pure Tryz.prog G 39 [txV ([a,b,c,d].getD i ([],[],[]))] (N 0))
    (c_o:∀i,i < 4→Ax.Pure Tryz.prog G 79 [txV ([a,b,c,d].getD i ([],[],[]))] (Bo (zz i))) (c_s:Ax.Pure Tryz.prog G 68 [txF a b c d] (N s)) :
    Ax.Pure Tryz.prog G 31 [txF a b c d] (N (if zz 1=true∨zz 2=true∨zz 3=true then 6 else s)):=by
  refine zen Tryz.func31 rfl Tryz.ntmps31 ?_
  intro w0 E0 hc
  repeat' (first|refine zR1 hc Tryz.results31 ?_|(with_reducible first|exact trivial|refine zan ?_ ?_|refine zim (fun h=>?_)|fail)|(omega;done))
  refine Wp_loopI (α:=Nat) (fun i=>stOf [(1,.one (.ptr 0 12 0 0)),(3,rowV [a,b,c,d] 4),(4,N i)] [(0,⟨12,1,fun _=> [.v (.string (bs a.1)),.v (.string (bs a.2.1)),.v (.string (bs a.2.2)),.v (.string (bs b.1)),.v (.string (bs b.2.1)),.v (.string (bs b.2.2)),.v (.string (bs c.1)),.v (.string (bs c.2.1)),.v (.string (bs c.2.2)),.v (.string (bs d.1)),.v (.string (bs d.2.1)),.v (.string (bs d.2.2))],false⟩)] 1) (fun i=>i≤4∧True) (fun i=>4 - i) 0 ⟨Nat.zero_le _,trivial⟩ ?_ ?_
  · refine zW1 ?_ <;> repeat' (with_reducible first|exact trivial|refine zan ?_ ?_|refine zal (fun i hi=>?_))
    all_goals exact row4V
  rintro i ⟨h1,-⟩
  have c_vi:=c_v i
  repeat' (first|refine zR1 hc Tryz.results31 ?_|(with_reducible first|exact trivial|refine zan ?_ ?_|refine zim (fun h=>?_)|refine zoc (c_vi ?_) ?_ ?_|fail)|((first|omega|(simp only [Int.toNat_natCast];omega));done))
  · refine ⟨i+1,⟨by omega,trivial⟩,by omega,?_⟩
    refine zW1 ?_ <;> repeat' (with_reducible first|exact trivial|refine zan ?_ ?_|refine zal (fun i hi=>?_))
  refine Wp_loopI (α:=Nat) (fun i=>stOf [(1,.one (.ptr 0 12 0 0)),(3,rowV [a,b,c,d] 4),(6,N i)] [(0,⟨12,1,fun _=> [.v (.string (bs a.1)),.v (.string (bs a.2.1)),.v (.string (bs a.2.2)),.v (.string (bs b.1)),.v (.string (bs b.2.1)),.v (.string (bs b.2.2)),.v (.string (bs c.1)),.v (.string (bs c.2.1)),.v (.string (bs c.2.2)),.v (.string (bs d.1)),.v (.string (bs d.2.1)),.v (.string (bs d.2.2))],false⟩)] 1) (fun i=>1≤i∧i≤4∧∀j,1≤j→j < i→zz j=false) (fun i=>4 - i) 1 ⟨Nat.le_refl _,by decide,fun j h1 h2=>by omega⟩ ?_ ?_
  · refine zW1 ?_ <;> repeat' (with_reducible first|exact trivial|refine zan ?_ ?_|refine zal (fun i hi=>?_))
  rintro i ⟨h1,h2,h3⟩
  have c_oi:=c_o i
  repeat' (first|refine zR1 hc Tryz.results31 ?_|(with_reducible first|exact trivial|refine zan ?_ ?_|refine zim (fun h=>?_)|refine zoc (c_oi ?_) ?_ ?_|refine zoc c_s ?_ ?_|fail)|((first|omega|(simp only [Int.toNat_natCast];omega));done))
  · refine sub_int ?_
    rw [if_pos]
    rcases (by omega:i=1∨i=2∨i=3) with rfl|rfl|rfl
    · exact .inl h
    · exact .inr (.inl h)
    · exact .inr (.inr h)
  · refine ⟨i+1,⟨by omega,by omega,fun j j1 j2=>?_⟩,by omega,?_⟩
    · by_cases e:j=i
      · rw [e];exact h
      · exact h3 j j1 (by omega)
    · refine zW1 ?_ <;> repeat' (with_reducible first|exact trivial|refine zan ?_ ?_|refine zal (fun i hi=>?_))
  · obtain rfl:i=4:=by omega
    rw [if_neg (by rw [h3 1 (by omega) (by omega),h3 2 (by omega) (by omega),h3 3 (by omega) (by omega)];simp)]
    exact Sub.refl _
theorem r_CheckFr_ok (o1 o2 o3 x1 x2 x3 y1 y2 y3 z1 z2 z3:Rat) (ho:okV o1 o2 o3) (hx:okV x1 x2 x3) (hy:okV y1 y2 y3) (hz:okV z1 z2 z3):Ax.Pure Tryz.prog G 31 [txF (v3 o1 o2 o3) (v3 x1 x2 x3) (v3 y1 y2 y3) (v3 z1 z2 z3)] (N (axE x1 x2 x3 y1 y2 y3 z1 z2 z3)):=by
  have h:=r_CheckFr_go (a:=v3 o1 o2 o3) (b:=v3 x1 x2 x3) (c:=v3 y1 y2 y3) (d:=v3 z1 z2 z3) (zz:=fun i=> [decide (o1=0∧o2=0∧o3=0),decide (x1=0∧x2=0∧x3=0),decide (y1=0∧y2=0∧y3=0),decide (z1=0∧z2=0∧z3=0)].getD i false)
    (four_V (P:=fun _ v=>Ax.Pure Tryz.prog G 39 [txV v] (N 0)) (chk_V ho) (chk_V hx) (chk_V hy) (chk_V hz))
    (four_V (P:=fun i v=>Ax.Pure Tryz.prog G 79 [txV v] (Bo ([decide (o1=0∧o2=0∧o3=0),decide (x1=0∧x2=0∧x3=0),decide (y1=0∧y2=0∧y3=0),decide (z1=0∧z2=0∧z3=0)].getD i false))) (r_IsOrigin o1 o2 o3) (r_IsOrigin x1 x2 x3) (r_IsOrigin y1 y2 y3) (r_IsOrigin z1 z2 z3))
    (r_Shape (k:=2400) (by decide) o1 o2 o3 x1 x2 x3 y1 y2 y3 z1 z2 z3 (okV_Q hx) (okV_Q hy) (okV_Q hz))
  have e:(∃i,zv x1 x2 x3 y1 y2 y3 z1 z2 z3 i=true)↔decide (x1=0∧x2=0∧x3=0)=true∨decide (y1=0∧y2=0∧y3=0)=true∨decide (z1=0∧z2=0∧z3=0)=true:=by
    constructor
    · rintro ⟨⟨i,hi⟩,h⟩
      rcases (by omega:i=0∨i=1∨i=2) with rfl|rfl|rfl
      · exact .inl h
      · exact .inr (.inl h)
      · exact .inr (.inr h)
    · rintro (h|h|h)
      · exact ⟨0,h⟩
      · exact ⟨1,h⟩
      · exact ⟨2,h⟩
  have h:Ax.Pure Tryz.prog G 31 _ (N (if decide (x1=0∧x2=0∧x3=0)=true∨decide (y1=0∧y2=0∧y3=0)=true∨decide (z1=0∧z2=0∧z3=0)=true then _ else _)):=h
  unfold axE
  by_cases k:∃i,zv x1 x2 x3 y1 y2 y3 z1 z2 z3 i=true
  · rw [if_pos (e.1 k)] at h;rw [if_pos k];exact h
  · rw [if_neg (fun x=>k (e.2 x))] at h;rw [if_neg k];exact h
end Go.Proofs
end
section
namespace Go.Proofs
open Go.Ax
abbrev I0:Rat:=((0:Int):Rat)
abbrev I1:Rat:=((1:Int):Rat)
end Go.Proofs
end
section
namespace Go.Proofs
open Go.Ax
theorem fineV {f:FuncId} {l:List AV} {A B C:Rat} (h:Ax.Pure Tryz.prog G f l (.tup [tV (txl (bigV A B C) A) (txl (bigV A B C) B) (txl (bigV A B C) C),N (exl (bigV A B C))])) (q:okV A B C):Ax.Pure Tryz.prog G f l (.tup [tV (ratL A) (ratL B) (ratL C),N 0]):=by
  rw [show bigV A B C=false by unfold bigV;rw [q.1,q.2.1,q.2.2];rfl] at h;exact h
theorem okV_of {A B C:Rat} (a:Q 1800 A) (b:Q 1800 B) (c:Q 1800 C):okV A B C:=⟨Q_small a,Q_small b,Q_small c⟩
end Go.Proofs
end
section
namespace Go.Proofs
open Go.Ax
theorem dst (x y z v:Rat) (h:dot3 x y z x y z≠0):dot3 (x*(-(v / dot3 x y z x y z))) (y*(-(v / dot3 x y z x y z))) (z*(-(v / dot3 x y z x y z))) (x*(-(v / dot3 x y z x y z))) (y*(-(v / dot3 x y z x y z))) (z*(-(v / dot3 x y z x y z)))=v*v / dot3 x y z x y z:=by
  have e:∀t:Rat,dot3 (x*(-t)) (y*(-t)) (z*(-t)) (x*(-t)) (y*(-t)) (z*(-t))=t*t*dot3 x y z x y z:=fun t=>by unfold dot3;grind
  rw [e]
  generalize dot3 x y z x y z=n at *
  grind
end Go.Proofs
end
