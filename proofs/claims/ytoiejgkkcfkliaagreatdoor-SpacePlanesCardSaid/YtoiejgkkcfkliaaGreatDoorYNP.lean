/- Lemmas on the program and its library: part YNP. -/
import Derived.Test.YtoiejgkkcfkliaaGreatDoorYA1
import Derived.Test.YtoiejgkkcfkliaaGreatDoorZL1
set_option linter.unusedVariables false
set_option linter.unusedSimpArgs false
section
set_option maxHeartbeats 4000000
set_option maxRecDepth 100000
namespace Go.Proofs
open Go.Ax
def fewQ (q:Rat) (n:Nat):Bool:=decide ((Lib.decDigits q.num.natAbs).length≤n∧(Lib.decDigits q.den).length≤n)
theorem r_Few (q:Rat) (hq:bigQ q=false) (n:Nat) (hn:n≤1000):Ax.Pure Tryz.prog G 85 [S (bs (ratL q)),N n] (Bo (fewQ q n)):=by
  have hQ:=bigQ_Q hq
  obtain ⟨d1,d2⟩:=Q_dl hQ
  have h3:=intL_len q.num
  have c_c:=r_Check (ratL q) (ok_len hq)
  rw [ok_chk hq] at c_c
  have c_n:=r_Num q hQ (by decide)
  have c_d:=r_Den q hQ (by decide)
  have c_a:=r_AbsI q.num (by omega)
  have s0:=bs_size (ratL q)
  have s1:=bs_size (Lib.decDigits q.num.natAbs)
  have s2:=bs_size (Lib.decDigits q.den)
  have w1:IntKind.i64.wrap (IntKind.i64.wrap (2*(n:Int))+2)=2*(n:Int)+2:=by rw [w64 (x:=2*(n:Int)) (by omega) (by omega),w64 (by omega) (by omega)]
  have hlen:(ratL q).length≤(Lib.decDigits q.num.natAbs).length+(Lib.decDigits q.den).length+2:=by
    unfold ratL
    split
    · omega
    · rw [List.length_append,List.length_cons];omega
  refine zen Tryz.func85 rfl Tryz.ntmps85 ?_
  intro w0 E0 hc
  repeat' (first|refine zR1 hc Tryz.results85 ?_|(with_reducible first|exact trivial|refine zan ?_ ?_|refine zim (fun h=>?_)|refine zoc c_c ?_ ?_|refine zoc c_n ?_ ?_|refine zoc c_d ?_ ?_|refine zoc c_a ?_ ?_|fail)|(omega;done))
  · unfold fewQ
    refine sub_eq (congrArg Bo (decide_eq_decide.2 ⟨fun h=>⟨by omega,by omega⟩,fun h=>by have:=h.2;omega⟩))
  · rw [show fewQ q n=false from decide_eq_false (fun h=>by have:=h.1;omega)];exact Sub.refl _
  · rw [show fewQ q n=false from decide_eq_false (fun h=>by have:=h.1;have:=h.2;omega)];exact Sub.refl _
theorem a1l (l:List UInt8) (hl:l.length≤900000) (he:checkL l≠0) (n:Nat):Ax.Pure Tryz.prog G 85 [S (bs l),N n] (Bo false):=by
  have c_c:=r_Check l hl
  generalize checkL l=e at *
  refine zen Tryz.func85 rfl Tryz.ntmps85 ?_
  intro w0 E0 hc
  repeat' (first|refine zR1 hc Tryz.results85 ?_|(with_reducible first|exact trivial|refine zan ?_ ?_|refine zim (fun h=>?_)|refine zoc c_c ?_ ?_|fail)|(omega;done))
end Go.Proofs
end
section
set_option maxHeartbeats 4000000
set_option maxRecDepth 100000
namespace Go.Proofs
open Go.Ax
theorem a32 {q:Rat} (h:Q (3*600) q):bigQ q=false:=by
  have h1:∀n:Nat,n < 2 ^ (3*600)→(Lib.decDigits n).length≤600:=fun n hn=>dec_len_le (Nat.lt_of_lt_of_le hn (eight_ten 600)) (by decide)
  unfold bigQ bigZ
  rw [Bool.or_eq_false_iff,decide_eq_false_iff_not,decide_eq_false_iff_not]
  exact ⟨Nat.not_lt.2 (h1 _ h.1),Nat.not_lt.2 (h1 _ h.2)⟩
theorem a1k (l:List UInt8) (n:Nat) (hn:n≤1000) (hl:2*n+2 < l.length):Ax.Pure Tryz.prog G 85 [S (bs l),N n] (Bo false):=by
  have s0:=bs_size l
  have w1:IntKind.i64.wrap (IntKind.i64.wrap (2*(n:Int))+2)=2*(n:Int)+2:=by rw [w64 (x:=2*(n:Int)) (by omega) (by omega),w64 (by omega) (by omega)]
  refine zen Tryz.func85 rfl Tryz.ntmps85 ?_
  intro w0 E0 hc
  repeat' (first|refine zR1 hc Tryz.results85 ?_|(with_reducible first|exact trivial|refine zan ?_ ?_|refine zim (fun h=>?_)|fail)|(omega;done))
theorem a3o (l:List UInt8) (n:Nat) (hn:n≤1000):∃b:Bool,Ax.Pure Tryz.prog G 85 [S (bs l),N n] (Bo b)∧(b=true→∃q:Rat,l=ratL q∧bigQ q=false∧Q (4*n) q):=by
  by_cases hl:2*n+2 < l.length
  · exact ⟨false,a1k l n hn hl,fun h=>by cases h⟩
  · by_cases hc:checkL l=0
    · obtain ⟨q,rfl,hq⟩:=checkL_zero hc
      exact ⟨_,r_Few q hq n hn,fun h=>⟨q,rfl,hq,Q_dec (of_decide_eq_true h).1 (of_decide_eq_true h).2⟩⟩
    · exact ⟨false,a1l l (by omega) hc n,fun h=>by cases h⟩
theorem a2f (v:V3) (n:Nat) (hn:n≤1000):∃b:Bool,Ax.Pure Tryz.prog G 55 [txV v,N n] (Bo b)∧(b=true→∃p q r:Rat,v=v3 p q r∧okV p q r∧Q (4*n) p∧Q (4*n) q∧Q (4*n) r):=by
  obtain ⟨x,y,z⟩:=v
  obtain ⟨b1,c_1,g1⟩:=a3o x n hn
  obtain ⟨b2,c_2,g2⟩:=a3o y n hn
  obtain ⟨b3,c_3,g3⟩:=a3o z n hn
  refine ⟨b1 && (b2 && b3),?_,fun h=>?_⟩
  · clear g1 g2 g3
    cases b1 <;> cases b2
    all_goals
      refine zen Tryz.func55 rfl Tryz.ntmps55 ?_
      intro w0 E0 hc
      repeat' (first|refine zR1 hc Tryz.results55 ?_|(with_reducible first|exact trivial|refine zan ?_ ?_|refine zim (fun h=>?_)|refine zoc c_1 ?_ ?_|refine zoc c_2 ?_ ?_|refine zoc c_3 ?_ ?_|fail)|(omega;done))
      all_goals exact Sub.refl _
  · rw [Bool.and_eq_true,Bool.and_eq_true] at h
    obtain ⟨p,rfl,op,qp⟩:=g1 h.1
    obtain ⟨q,rfl,oq,qq⟩:=g2 h.2.1
    obtain ⟨r,rfl,or',qr⟩:=g3 h.2.2
    exact ⟨p,q,r,rfl,⟨op,oq,or'⟩,qp,qq,qr⟩
end Go.Proofs
end
section
namespace Go.Proofs
open Go.Ax
theorem Q_le {x:Int} {n k:Nat} (h:x.natAbs≤n) (hk:Nat.ble (n+1) (2 ^ (k+1))=true):Q (k+1) (x:Rat):=Q_int (Nat.lt_of_lt_of_le (Nat.lt_succ_of_le h) (Nat.le_of_ble_eq_true hk))
end Go.Proofs
end
section
namespace Go.Proofs
open Go.Ax
theorem a33 {f:FuncId} {l:List AV} {A B C:Rat} (h:Ax.Pure Tryz.prog G f l (.tup [tV (txl (bigV A B C) A) (txl (bigV A B C) B) (txl (bigV A B C) C),N (exl (bigV A B C))])) (q:okV A B C):Ax.Pure Tryz.prog G f l (.tup [tV (ratL A) (ratL B) (ratL C),N 0]):=by
  rw [show bigV A B C=false by unfold bigV;rw [q.1,q.2.1,q.2.2];rfl] at h;exact h
theorem a39 {A B C:Rat} (a:Q 1800 A) (b:Q 1800 B) (c:Q 1800 C):okV A B C:=⟨a32 a,a32 b,a32 c⟩
end Go.Proofs
end
