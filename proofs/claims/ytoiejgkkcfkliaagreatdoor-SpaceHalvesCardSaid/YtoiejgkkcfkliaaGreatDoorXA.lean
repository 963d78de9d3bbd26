/- Lemmas on the program and its library: part XA. -/
import Derived.Test.YtoiejgkkcfkliaaGreatDoorZL1
set_option linter.unusedVariables false
set_option linter.unusedSimpArgs false
section
namespace Go.Proofs
open Go.Ax
theorem row1_lt {P:Nat→Prop} (h0:P 0):∀i,i < 1→P i:=fun i hi=>by
  obtain rfl:i=0:=by omega
  exact h0
end Go.Proofs
end
section
namespace Go.Proofs
open Go.Ax
abbrev txV (v:V3):AV:=.agg (leafV v)
end Go.Proofs
end
section
set_option maxHeartbeats 4000000
set_option maxRecDepth 100000
namespace Go.Proofs
open Go.Ax
theorem r_CheckRow (ls:List (List UInt8)) (n:Nat) (hn:n=ls.length) (hl:∀l∈ls,l.length≤900000) (hl2:ls.length≤1000000):Ax.Pure Tryz.prog G 63 [rowT ls n] (N (fstE ls)):=by
  have c_c:∀i:Nat,i < ls.length→Ax.Pure Tryz.prog G 21 [S (bs (ls.getD i []))] (N (checkL (ls.getD i []))):=fun i hi=>
    r_Check _ (hl _ (by rw [List.getD_eq_getElem?_getD,List.getElem?_eq_getElem hi];exact List.getElem_mem hi))
  refine zen Tryz.func63 rfl Tryz.ntmps63 ?_
  intro w0 E0 hc
  repeat' (first|refine zR1 hc Tryz.results63 ?_|(with_reducible first|exact trivial|refine zan ?_ ?_|refine zim (fun h=>?_)|fail)|(omega;done))
  refine Wp_loopI (α:=Nat) (fun i=>stOf [(0,rowT ls n),(3,N i)] [] 0) (fun i=>i≤ls.length∧fstE ls=fstE (ls.drop i)) (fun i=>ls.length - i) 0 ⟨Nat.zero_le _,rfl⟩ ?_ ?_
  · refine zW1 ?_ <;> repeat' (with_reducible first|exact trivial|refine zan ?_ ?_|refine zal (fun i hi=>?_))
  · rintro i ⟨h1,h2⟩
    have hd:=fun h:i < ls.length=>fstE_drop h
    have c_ci:=c_c i
    repeat' (first|refine zR1 hc Tryz.results63 ?_|(with_reducible first|exact trivial|refine zan ?_ ?_|refine zim (fun h=>?_)|refine zoc (c_ci ?_) ?_ ?_|fail)|((first|omega|(simp only [Int.toNat_natCast];omega));done))
    · have hd':=hd (by omega)
      rw [if_neg h] at hd'
      exact sub_eq (by rw [h2,hd'])
    · have hd':=hd (by omega)
      rw [if_pos h] at hd'
      refine ⟨i+1,⟨by omega,by rw [h2,hd']⟩,by omega,?_⟩
      refine zW1 ?_ <;> repeat' (with_reducible first|exact trivial|refine zan ?_ ?_|refine zal (fun i hi=>?_))
    · have:ls.length≤i:=by omega
      rw [List.drop_eq_nil_of_le this] at h2
      exact sub_eq (by rw [h2];rfl)
theorem r_CheckRow3 (a b c:List UInt8) (ha:a.length≤900000) (hb:b.length≤900000) (hc:c.length≤900000):Ax.Pure Tryz.prog G 63 [.one (.row 1 3 (fun i=> [[Leaf.v (.string (bs a))],[Leaf.v (.string (bs b))],[Leaf.v (.string (bs c))]].getD i []))] (N (fstE [a,b,c])):=
  pure_args (r_CheckRow [a,b,c] 3 rfl (mem3 ha hb hc) (show 3≤1000000 by decide)) ⟨sub_row_eq (row3_lt rfl rfl rfl),trivial⟩ ⟨trivial,trivial⟩
theorem r_CheckVec (a b c:List UInt8) (ha:a.length≤900000) (hb:b.length≤900000) (hc':c.length≤900000):Ax.Pure Tryz.prog G 39 [tV a b c] (N (fstE [a,b,c])):=by
  have c_c:=r_CheckRow3 a b c ha hb hc'
  refine zen Tryz.func39 rfl Tryz.ntmps39 ?_
  intro w0 E0 hc
  repeat' (first|refine zR1 hc Tryz.results39 ?_|(with_reducible first|exact trivial|refine zan ?_ ?_|refine zim (fun h=>?_)|refine zoc c_c ?_ ?_|fail)|(omega;done))
def bigL (qs:List Rat):Bool:=qs.any bigQ
theorem bigL_drop {qs:List Rat} {i:Nat} (h:i < qs.length):bigL (qs.drop i)=(bigQ (qs.getD i 0) || bigL (qs.drop (i+1))):=by
  unfold bigL
  rw [List.drop_eq_getElem_cons h,List.any_cons,List.getD_eq_getElem?_getD,List.getElem?_eq_getElem h];rfl
abbrev rowQ (qs:List Rat) (n:Nat):AV:=.one (.row 1 n (fun i=> [.v (.string (bs (ratL (qs.getD i 0))))]))
theorem r_LargeRow {k:Nat} (hk:k≤1000000) (qs:List Rat) (n:Nat) (hn:n=qs.length) (hl:∀q∈qs,Q k q) (hl2:qs.length≤1000000):Ax.Pure Tryz.prog G 234 [rowQ qs n] (N (if bigL qs=true then 4 else 0)):=by
  have c_c:∀i:Nat,i < qs.length→Ax.Pure Tryz.prog G 140 [S (bs (ratL (qs.getD i 0)))] (N (if bigQ (qs.getD i 0)=true then 4 else 0)):=fun i hi=>
    r_Large _ (hl _ (by rw [List.getD_eq_getElem?_getD,List.getElem?_eq_getElem hi];exact List.getElem_mem hi)) hk
  refine zen Tryz.func234 rfl Tryz.ntmps234 ?_
  intro w0 E0 hc
  repeat' (first|refine zR1 hc Tryz.results234 ?_|(with_reducible first|exact trivial|refine zan ?_ ?_|refine zim (fun h=>?_)|fail)|(omega;done))
  refine Wp_loopI (α:=Nat) (fun i=>stOf [(0,rowQ qs n),(3,N i)] [] 0) (fun i=>i≤qs.length∧bigL qs=bigL (qs.drop i)) (fun i=>qs.length - i) 0 ⟨Nat.zero_le _,rfl⟩ ?_ ?_
  · refine zW1 ?_ <;> repeat' (with_reducible first|exact trivial|refine zan ?_ ?_|refine zal (fun i hi=>?_))
  · rintro i ⟨h1,h2⟩
    have hd:=fun h:i < qs.length=>bigL_drop h
    have c_ci:=c_c i
    cases hb:bigQ (qs.getD i 0)
    · rw [hb] at c_ci hd
      simp only [Bool.false_eq_true,if_false,Bool.false_or] at c_ci hd
      repeat' (first|refine zR1 hc Tryz.results234 ?_|(with_reducible first|exact trivial|refine zan ?_ ?_|refine zim (fun h=>?_)|refine zoc (c_ci ?_) ?_ ?_|fail)|((first|omega|(simp only [Int.toNat_natCast];omega));done))
      · refine ⟨i+1,⟨by omega,by rw [h2,hd (by omega)]⟩,by omega,?_⟩
        refine zW1 ?_ <;> repeat' (with_reducible first|exact trivial|refine zan ?_ ?_|refine zal (fun i hi=>?_))
      · have:qs.length≤i:=by omega
        rw [List.drop_eq_nil_of_le this] at h2
        rw [h2];exact Sub.refl _
    · rw [hb] at c_ci hd
      simp only [if_true,Bool.true_or] at c_ci hd
      repeat' (first|refine zR1 hc Tryz.results234 ?_|(with_reducible first|exact trivial|refine zan ?_ ?_|refine zim (fun h=>?_)|refine zoc (c_ci ?_) ?_ ?_|fail)|((first|omega|(simp only [Int.toNat_natCast];omega));done))
      · rw [h2,hd (by omega)];exact Sub.refl _
      · have:qs.length≤i:=by omega
        rw [List.drop_eq_nil_of_le this] at h2
        rw [h2];exact Sub.refl _
theorem mem3Q {P:Rat→Prop} {a b c:Rat} (ha:P a) (hb:P b) (hc:P c):∀q∈[a,b,c],P q:=fun q h=>by
  simp only [List.mem_cons,List.not_mem_nil,or_false] at h
  rcases h with rfl|rfl|rfl
  · exact ha
  · exact hb
  · exact hc
theorem bigL3 (a b c:Rat):bigL [a,b,c]=bigV a b c:=by
  unfold bigL bigV
  simp [Bool.or_assoc]
theorem r_LargeRow3 {k:Nat} (hk:k≤1000000) (a b c:Rat) (ha:Q k a) (hb:Q k b) (hc:Q k c):Ax.Pure Tryz.prog G 234 [.one (.row 1 3 (fun i=> [[Leaf.v (.string (bs (ratL a)))],[Leaf.v (.string (bs (ratL b)))],[Leaf.v (.string (bs (ratL c)))]].getD i []))] (N (if bigV a b c=true then 4 else 0)):=
  bigL3 a b c ▸ pure_args (r_LargeRow hk [a,b,c] 3 rfl (mem3Q ha hb hc) (show 3≤1000000 by decide)) ⟨sub_row_eq (row3_lt rfl rfl rfl),trivial⟩ ⟨trivial,trivial⟩
theorem r_LargeVec {k:Nat} (hk:k≤1000000) (a b c:Rat) (ha:Q k a) (hb:Q k b) (hc':Q k c):Ax.Pure Tryz.prog G 175 [tV (ratL a) (ratL b) (ratL c)] (N (if bigV a b c=true then 4 else 0)):=by
  have c_c:=r_LargeRow3 hk a b c ha hb hc'
  refine zen Tryz.func175 rfl Tryz.ntmps175 ?_
  intro w0 E0 hc
  repeat' (first|refine zR1 hc Tryz.results175 ?_|(with_reducible first|exact trivial|refine zan ?_ ?_|refine zim (fun h=>?_)|refine zoc c_c ?_ ?_|fail)|(omega;done))
end Go.Proofs
end
section
namespace Go.Proofs
open Go.Ax
theorem err_first2 {a b e:Int} (h:e=firstNZ [a,b]):Ax.Pure Tryz.prog G 143 [.one (.row 1 2 (fun i=> [[Leaf.v (.int .i64 a)],[Leaf.v (.int .i64 b)]].getD i []))] (N e):=h ▸ c_first2 a b
theorem s_CheckVec {v:V3} (h:shortV v):Ax.Pure Tryz.prog G 109 [txV v] (N (fstVec v)):=c_CheckVec v.1 v.2.1 v.2.2 h.1 h.2.1 h.2.2
end Go.Proofs
end
section
set_option maxHeartbeats 4000000
set_option maxRecDepth 100000
namespace Go.Proofs
open Go.Ax
def shVs (n:Nat) (ls:List V3):Bool:=ls.all fun v=>decide (shV n v)
theorem shVs_drop {n:Nat} {ls:List V3} {i:Nat} (h:i < ls.length):shVs n (ls.drop i)=(decide (shV n (ls.getD i ([],[],[]))) && shVs n (ls.drop (i+1))):=by
  unfold shVs
  rw [List.drop_eq_getElem_cons h,List.all_cons,List.getD_eq_getElem?_getD,List.getElem?_eq_getElem h];rfl
theorem l_short (n m:Nat) (ls:List V3) (hm:m=ls.length) (hn:n≤1000) (hl2:ls.length≤1000000):Ax.Pure Tryz.prog G 36 [N n,rowV ls m] (Bo (shVs n ls)):=by
  refine zen Tryz.func36 rfl Tryz.ntmps36 ?_
  intro w0 E0 hc
  repeat' (first|refine zR1 hc Tryz.results36 ?_|(with_reducible first|exact trivial|refine zan ?_ ?_|refine zim (fun h=>?_)|fail)|(omega;done))
  refine Wp_loopI (α:=Nat) (fun i=>stOf [(0,N n),(1,rowV ls m),(5,N i)] [] 0) (fun i=>i≤ls.length∧shVs n ls=shVs n (ls.drop i)) (fun i=>ls.length - i) 0 ⟨Nat.zero_le _,rfl⟩ ?_ ?_
  · refine zW1 ?_ <;> repeat' (with_reducible first|exact trivial|refine zan ?_ ?_|refine zal (fun i hi=>?_))
  · rintro i ⟨h1,h2⟩
    have hd:=fun h:i < ls.length=>shVs_drop (n:=n) h
    have s1:=bs_size (ls.getD i ([],[],[])).1
    have s2:=bs_size (ls.getD i ([],[],[])).2.1
    have s3:=bs_size (ls.getD i ([],[],[])).2.2
    have hT:i < ls.length→(ls.getD i ([],[],[])).1.length≤n→(ls.getD i ([],[],[])).2.1.length≤n→(ls.getD i ([],[],[])).2.2.length≤n→shVs n ls=shVs n (ls.drop (i+1)):=fun h a b c=>by
      rw [h2,hd h,decide_eq_true (show shV n _ from ⟨a,b,c⟩)];rfl
    have hF:i < ls.length→¬((ls.getD i ([],[],[])).1.length≤n∧(ls.getD i ([],[],[])).2.1.length≤n∧(ls.getD i ([],[],[])).2.2.length≤n)→shVs n ls=false:=fun h a=>by
      rw [h2,hd h,decide_eq_false (show ¬shV n _ from a)];rfl
    have hE:¬i < ls.length→shVs n ls=true:=fun h=>by
      rw [h2,List.drop_eq_nil_of_le (by omega)];rfl
    repeat' (first|refine zR1 hc Tryz.results36 ?_|(with_reducible first|exact trivial|refine zan ?_ ?_|refine zim (fun h=>?_)|fail)|(omega;done))
    · rw [hF (by omega) (by omega)];exact Sub.refl _
    · refine ⟨i+1,⟨by omega,hT (by omega) (by omega) (by omega) (by omega)⟩,by omega,?_⟩
      refine zW1 ?_ <;> repeat' (with_reducible first|exact trivial|refine zan ?_ ?_|refine zal (fun i hi=>?_))
    · rw [hF (by omega) (by omega)];exact Sub.refl _
    · rw [hF (by omega) (by omega)];exact Sub.refl _
    · rw [hE (by omega)];exact Sub.refl _
theorem l_short1 (n:Nat) (hn:n≤1000) (a:V3):Ax.Pure Tryz.prog G 36 [N n,.one (.row 3 1 (fun i=> [leafV a].getD i []))] (Bo (shVs n [a])):=
  pure_args (l_short n 1 [a] rfl hn (show 1≤1000000 by decide)) ⟨Sub.refl _,sub_row_eq (row1_lt rfl),trivial⟩ ⟨trivial,trivial,trivial⟩
theorem l_short2 (n:Nat) (hn:n≤1000) (a b:V3):Ax.Pure Tryz.prog G 36 [N n,.one (.row 3 2 (fun i=> [leafV a,leafV b].getD i []))] (Bo (shVs n [a,b])):=
  pure_args (l_short n 2 [a,b] rfl hn (show 2≤1000000 by decide)) ⟨Sub.refl _,sub_row_eq (row2_lt rfl rfl),trivial⟩ ⟨trivial,trivial,trivial⟩
theorem l_pt_bad (e:Int) (he:e≠0) (x y z:List UInt8):Ax.Pure Tryz.prog G 49 [tV [] [] [],N e,N e,tV x y z] (Bo true):=by
  have hb:=beq_bs []
  refine zen Tryz.func49 rfl Tryz.ntmps49 ?_
  intro w0 E0 hc
  repeat' (first|refine zR1 hc Tryz.results49 ?_|(with_reducible first|exact trivial|refine zan ?_ ?_|refine zim (fun h=>?_)|fail)|((first|omega|(exfalso;dsimp only [bs] at h;simp at h;done));done))
  all_goals exact sub_eq (congrArg Bo (by simp))
theorem l_pt_ok {k:Nat} (hk:k≤1000000) (a b c:Rat) (hq:Q k a∧Q k b∧Q k c):Ax.Pure Tryz.prog G 49 [tV (txl (bigV a b c) a) (txl (bigV a b c) b) (txl (bigV a b c) c),N (exl (bigV a b c)),N 0,tV (ratL a) (ratL b) (ratL c)] (Bo true):=by
  have c_l:=r_LargeVec hk a b c hq.1 hq.2.1 hq.2.2
  cases h:bigV a b c <;> rw [h] at c_l <;> simp only [if_true,Bool.false_eq_true,if_false] at c_l
  · show Ax.Pure Tryz.prog G 49 [tV (ratL a) (ratL b) (ratL c),N 0,N 0,tV (ratL a) (ratL b) (ratL c)] (Bo true)
    refine zen Tryz.func49 rfl Tryz.ntmps49 ?_
    intro w0 E0 hc
    repeat' (first|refine zR1 hc Tryz.results49 ?_|(with_reducible first|exact trivial|refine zan ?_ ?_|refine zim (fun h=>?_)|refine zoc c_l ?_ ?_|fail)|((first|omega|(exfalso;dsimp only [bs] at h;simp at h;done));done))
    all_goals exact sub_eq (congrArg Bo (by simp))
  · show Ax.Pure Tryz.prog G 49 [tV [] [] [],N 4,N 0,tV (ratL a) (ratL b) (ratL c)] (Bo true)
    refine zen Tryz.func49 rfl Tryz.ntmps49 ?_
    intro w0 E0 hc
    repeat' (first|refine zR1 hc Tryz.results49 ?_|(with_reducible first|exact trivial|refine zan ?_ ?_|refine zim (fun h=>?_)|refine zoc c_l ?_ ?_|fail)|((first|omega|(exfalso;dsimp only [bs] at h;simp at h;done));done))
    all_goals exact sub_eq (congrArg Bo (by simp))
end Go.Proofs
end
section
set_option maxHeartbeats 4000000
set_option maxRecDepth 100000
namespace Go.Proofs
open Go.Ax
theorem zero_text:(⟨#[48]⟩:ByteArray)=bs (ratL 0):=by rw [ratL_zero]
theorem r_AddVec {k:Nat} (hk:k≤1000000) (a1 a2 a3 b1 b2 b3:Rat) (qa:Q k a1∧Q k a2∧Q k a3) (qb:Q k b1∧Q k b2∧Q k b3):Ax.Pure Tryz.prog G 84 [tV (ratL a1) (ratL a2) (ratL a3),tV (ratL b1) (ratL b2) (ratL b3)] (tV (ratL (a1+b1)) (ratL (a2+b2)) (ratL (a3+b3))):=by
  obtain ⟨qa1,qa2,qa3⟩:=qa
  obtain ⟨qb1,qb2,qb3⟩:=qb
  have c_1:=r_AddQ a1 b1 qa1 qb1 hk
  have c_2:=r_AddQ a2 b2 qa2 qb2 hk
  have c_3:=r_AddQ a3 b3 qa3 qb3 hk
  refine zen Tryz.func84 rfl Tryz.ntmps84 ?_
  intro w0 E0 hc
  repeat' (first|refine zR1 hc Tryz.results84 ?_|(with_reducible first|exact trivial|refine zan ?_ ?_|refine zim (fun h=>?_)|refine zoc c_1 ?_ ?_|refine zoc c_2 ?_ ?_|refine zoc c_3 ?_ ?_|fail)|(omega;done))
theorem r_SubVec {k:Nat} (hk:k≤1000000) (a1 a2 a3 b1 b2 b3:Rat) (qa:Q k a1∧Q k a2∧Q k a3) (qb:Q k b1∧Q k b2∧Q k b3):Ax.Pure Tryz.prog G 58 [tV (ratL a1) (ratL a2) (ratL a3),tV (ratL b1) (ratL b2) (ratL b3)] (tV (ratL (a1 - b1)) (ratL (a2 - b2)) (ratL (a3 - b3))):=by
  obtain ⟨qa1,qa2,qa3⟩:=qa
  obtain ⟨qb1,qb2,qb3⟩:=qb
  have c_1:=r_Sub a1 b1 qa1 qb1 hk
  have c_2:=r_Sub a2 b2 qa2 qb2 hk
  have c_3:=r_Sub a3 b3 qa3 qb3 hk
  refine zen Tryz.func58 rfl Tryz.ntmps58 ?_
  intro w0 E0 hc
  repeat' (first|refine zR1 hc Tryz.results58 ?_|(with_reducible first|exact trivial|refine zan ?_ ?_|refine zim (fun h=>?_)|refine zoc c_1 ?_ ?_|refine zoc c_2 ?_ ?_|refine zoc c_3 ?_ ?_|fail)|(omega;done))
theorem r_Scale {k:Nat} (hk:k≤1000000) (c:Rat) (a1 a2 a3:Rat) (qc:Q k c) (qa:Q k a1∧Q k a2∧Q k a3):Ax.Pure Tryz.prog G 112 [S (bs (ratL c)),tV (ratL a1) (ratL a2) (ratL a3)] (tV (ratL (c*a1)) (ratL (c*a2)) (ratL (c*a3))):=by
  obtain ⟨qa1,qa2,qa3⟩:=qa
  have c_1:=r_MulQ c a1 qc qa1 hk
  have c_2:=r_MulQ c a2 qc qa2 hk
  have c_3:=r_MulQ c a3 qc qa3 hk
  refine zen Tryz.func112 rfl Tryz.ntmps112 ?_
  intro w0 E0 hc
  repeat' (first|refine zR1 hc Tryz.results112 ?_|(with_reducible first|exact trivial|refine zan ?_ ?_|refine zim (fun h=>?_)|refine zoc c_1 ?_ ?_|refine zoc c_2 ?_ ?_|refine zoc c_3 ?_ ?_|fail)|(omega;done))
theorem r_Dot {k:Nat} (hk:k≤200000) (a1 a2 a3 b1 b2 b3:Rat) (qa:Q k a1∧Q k a2∧Q k a3) (qb:Q k b1∧Q k b2∧Q k b3):Ax.Pure Tryz.prog G 76 [tV (ratL a1) (ratL a2) (ratL a3),tV (ratL b1) (ratL b2) (ratL b3)] (S (bs (ratL (dot3 a1 a2 a3 b1 b2 b3)))):=by
  obtain ⟨qa1,qa2,qa3⟩:=qa
  obtain ⟨qb1,qb2,qb3⟩:=qb
  have c_1:=r_MulQ a1 b1 qa1 qb1 (by omega)
  have m1:=Q_mul qa1 qb1
  have c_2:=r_MulQ a2 b2 qa2 qb2 (by omega)
  have m2:=Q_mul qa2 qb2
  have c_3:=r_MulQ a3 b3 qa3 qb3 (by omega)
  have m3:=Q_mul qa3 qb3
  have c_4:=r_AddQ (a1*b1) (a2*b2) m1 m2 (by omega)
  have c_5:Ax.Pure Tryz.prog G 59 [S (bs (ratL (a1*b1+a2*b2))),S (bs (ratL (a3*b3)))] (S (bs (ratL (dot3 a1 a2 a3 b1 b2 b3)))):=r_AddQ (a1*b1+a2*b2) (a3*b3) (Q_add m1 m2) (Q_mono m3 (by omega)) (by omega)
  refine zen Tryz.func76 rfl Tryz.ntmps76 ?_
  intro w0 E0 hc
  repeat' (first|refine zR1 hc Tryz.results76 ?_|(with_reducible first|exact trivial|refine zan ?_ ?_|refine zim (fun h=>?_)|refine zoc c_1 ?_ ?_|refine zoc c_2 ?_ ?_|refine zoc c_3 ?_ ?_|refine zoc c_4 ?_ ?_|refine zoc c_5 ?_ ?_|fail)|(omega;done))
theorem r_Cross {k:Nat} (hk:k≤200000) (a1 a2 a3 b1 b2 b3:Rat) (qa:Q k a1∧Q k a2∧Q k a3) (qb:Q k b1∧Q k b2∧Q k b3):Ax.Pure Tryz.prog G 78 [tV (ratL a1) (ratL a2) (ratL a3),tV (ratL b1) (ratL b2) (ratL b3)] (tV (ratL (a2*b3 - a3*b2)) (ratL (a3*b1 - a1*b3)) (ratL (a1*b2 - a2*b1))):=by
  obtain ⟨qa1,qa2,qa3⟩:=qa
  obtain ⟨qb1,qb2,qb3⟩:=qb
  have c_m12:=r_MulQ a1 b2 qa1 qb2 (by omega)
  have m12:=Q_mul qa1 qb2
  have c_m13:=r_MulQ a1 b3 qa1 qb3 (by omega)
  have m13:=Q_mul qa1 qb3
  have c_m21:=r_MulQ a2 b1 qa2 qb1 (by omega)
  have m21:=Q_mul qa2 qb1
  have c_m23:=r_MulQ a2 b3 qa2 qb3 (by omega)
  have m23:=Q_mul qa2 qb3
  have c_m31:=r_MulQ a3 b1 qa3 qb1 (by omega)
  have m31:=Q_mul qa3 qb1
  have c_m32:=r_MulQ a3 b2 qa3 qb2 (by omega)
  have m32:=Q_mul qa3 qb2
  have c_s23:=r_Sub (a2*b3) (a3*b2) m23 m32 (by omega)
  have c_s31:=r_Sub (a3*b1) (a1*b3) m31 m13 (by omega)
  have c_s12:=r_Sub (a1*b2) (a2*b1) m12 m21 (by omega)
  refine zen Tryz.func78 rfl Tryz.ntmps78 ?_
  intro w0 E0 hc
  repeat' (first|refine zR1 hc Tryz.results78 ?_|(with_reducible first|exact trivial|refine zan ?_ ?_|refine zim (fun h=>?_)|refine zoc c_m12 ?_ ?_|refine zoc c_m13 ?_ ?_|refine zoc c_m21 ?_ ?_|refine zoc c_m23 ?_ ?_|refine zoc c_m31 ?_ ?_|refine zoc c_m32 ?_ ?_|refine zoc c_s23 ?_ ?_|refine zoc c_s31 ?_ ?_|refine zoc c_s12 ?_ ?_|fail)|(omega;done))
theorem r_Square {k:Nat} (hk:k≤200000) (a1 a2 a3:Rat) (qa:Q k a1∧Q k a2∧Q k a3):Ax.Pure Tryz.prog G 57 [tV (ratL a1) (ratL a2) (ratL a3)] (S (bs (ratL (dot3 a1 a2 a3 a1 a2 a3)))):=by
  have c_d:=r_Dot hk a1 a2 a3 a1 a2 a3 qa qa
  refine zen Tryz.func57 rfl Tryz.ntmps57 ?_
  intro w0 E0 hc
  repeat' (first|refine zR1 hc Tryz.results57 ?_|(with_reducible first|exact trivial|refine zan ?_ ?_|refine zim (fun h=>?_)|refine zoc c_d ?_ ?_|fail)|(omega;done))
theorem r_Origin:Ax.Pure Tryz.prog G 89 [] (tV (ratL 0) (ratL 0) (ratL 0)):=by
  refine zen Tryz.func89 rfl Tryz.ntmps89 ?_
  intro w0 E0 hc
  repeat' (first|refine zR1 hc Tryz.results89 ?_|(with_reducible first|exact trivial|refine zan ?_ ?_|refine zim (fun h=>?_)|fail)|(omega;done))
  all_goals rw [ratL_zero];exact Sub.refl _
theorem r_IsOrigin (a1 a2 a3:Rat):Ax.Pure Tryz.prog G 79 [tV (ratL a1) (ratL a2) (ratL a3)] (Bo (decide (a1=0∧a2=0∧a3=0))):=by
  have c_o:=r_Origin
  have e:∀a:Rat,((bs (ratL a)).toList == (bs (ratL 0)).toList)=decide (a=0):=fun a=>by
    rw [←zero_text];exact Bool.eq_iff_iff.2 ((ratL_eq_zero a).trans (by simp))
  refine zen Tryz.func79 rfl Tryz.ntmps79 ?_
  intro w0 E0 hc
  repeat' (first|refine zR1 hc Tryz.results79 ?_|(with_reducible first|exact trivial|refine zan ?_ ?_|refine zim (fun h=>?_)|refine zoc c_o ?_ ?_|fail)|((refine sub_eq (congrArg Bo ?_);rw [e,e,e];by_cases h1:a1=0 <;> by_cases h2:a2=0 <;> by_cases h3:a3=0 <;> simp [h1,h2,h3]);done))
end Go.Proofs
end
section
namespace Go.Proofs
open Go.Ax
theorem goodV {v:V3} (h:fstVec v=0):∃a b c:Rat,v=v3 a b c∧okV a b c:=by
  obtain ⟨x,y,z⟩:=v
  have h:firstNZ [checkL x,checkL y,checkL z]=0:=h
  by_cases hx:checkL x=0
  · by_cases hy:checkL y=0
    · by_cases hz:checkL z=0
      · obtain ⟨a,rfl,ha⟩:=checkL_zero hx
        obtain ⟨b,rfl,hb⟩:=checkL_zero hy
        obtain ⟨c,rfl,hc⟩:=checkL_zero hz
        exact ⟨a,b,c,rfl,ha,hb,hc⟩
      · rw [hx,hy,nz0,nz0,nz1 hz] at h;exact absurd h hz
    · rw [hx,nz0,nz1 hy] at h;exact absurd h hy
  · rw [nz1 hx] at h;exact absurd h hx
theorem shV_short {n:Nat} {v:V3} (h:shV n v) (hn:n≤900000):shortV v:=⟨Nat.le_trans h.1 hn,Nat.le_trans h.2.1 hn,Nat.le_trans h.2.2 hn⟩
theorem shVs2 {n:Nat} {a b:V3}:shVs n [a,b]=true↔shV n a∧shV n b:=by simp [shVs]
theorem r_CheckV {v:V3} (h:shortV v):Ax.Pure Tryz.prog G 39 [txV v] (N (fstVec v)):=r_CheckVec v.1 v.2.1 v.2.2 h.1 h.2.1 h.2.2
def okP (f g:FuncId) (l:List AV):Prop:=∃(x y z u v w:List UInt8) (e:Int),Ax.Pure Tryz.prog G f l (.tup [tV x y z,N e])∧Ax.Pure Tryz.prog G g l (tV u v w)∧Ax.Pure Tryz.prog G 49 [tV x y z,N e,N 0,tV u v w] (Bo true)
theorem okP_of {f g:FuncId} {l:List AV} {A B C:Rat} (h:Q 900000 A∧Q 900000 B∧Q 900000 C) (a:Ax.Pure Tryz.prog G f l (.tup [tV (txl (bigV A B C) A) (txl (bigV A B C) B) (txl (bigV A B C) C),N (exl (bigV A B C))])) (b:Ax.Pure Tryz.prog G g l (tV (ratL A) (ratL B) (ratL C))):okP f g l:=
  ⟨_,_,_,_,_,_,_,a,b,l_pt_ok (by decide) A B C h⟩
end Go.Proofs
end
section
namespace Go.Proofs
open Go.Ax
theorem fst_ok {a b c:Rat} (h:okV a b c):fstVec (v3 a b c)=0:=by
  show firstNZ [checkL (ratL a),checkL (ratL b),checkL (ratL c)]=0
  rw [ok_chk h.1,ok_chk h.2.1,ok_chk h.2.2];rfl
theorem chk_V {a b c:Rat} (h:okV a b c):Ax.Pure Tryz.prog G 39 [tV (ratL a) (ratL b) (ratL c)] (N 0):=by
  have k:=r_CheckVec (ratL a) (ratL b) (ratL c) (ok_len h.1) (ok_len h.2.1) (ok_len h.2.2)
  rw [show fstE [ratL a,ratL b,ratL c]=0 from fst_ok h] at k
  exact k
end Go.Proofs
end
