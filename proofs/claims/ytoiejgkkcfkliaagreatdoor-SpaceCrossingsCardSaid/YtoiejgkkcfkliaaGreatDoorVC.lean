/- Lemmas on the program and its library: part VC. -/
import Derived.Test.YtoiejgkkcfkliaaGreatDoorVR
import Derived.Test.YtoiejgkkcfkliaaGreatDoorYWCP
set_option linter.unusedVariables false
set_option linter.unusedSimpArgs false
section
set_option maxHeartbeats 4000000
set_option maxRecDepth 100000
namespace Go.Proofs
open Go.Ax
def y4 (qs:List Rat):Bool:=qs.any bigQ
theorem a0j {qs:List Rat} {i:Nat} (h:i < qs.length):y4 (qs.drop i)=(bigQ (qs.getD i 0) || y4 (qs.drop (i+1))):=by
  unfold y4
  rw [List.drop_eq_getElem_cons h,List.any_cons,List.getD_eq_getElem?_getD,List.getElem?_eq_getElem h];rfl
abbrev rowQ (qs:List Rat) (n:Nat):AV:=.one (.row 1 n (fun i=> [.v (.string (bs (ratL (qs.getD i 0))))]))
theorem y7 {k:Nat} (hk:k≤1000000) (qs:List Rat) (n:Nat) (hn:n=qs.length) (hl:∀q∈qs,Q k q) (hl2:qs.length≤1000000):Ax.Pure Tryz.prog G 234 [rowQ qs n] (N (if y4 qs=true then 4 else 0)):=by
  have c_c:∀i:Nat,i < qs.length→Ax.Pure Tryz.prog G 140 [S (bs (ratL (qs.getD i 0)))] (N (if bigQ (qs.getD i 0)=true then 4 else 0)):=fun i hi=>
    r_Large _ (hl _ (by rw [List.getD_eq_getElem?_getD,List.getElem?_eq_getElem hi];exact List.getElem_mem hi)) hk
  refine zen Tryz.func234 rfl Tryz.ntmps234 ?_
  intro w0 E0 hc
  repeat' (first|refine zR1 hc Tryz.results234 ?_|(with_reducible first|exact trivial|refine zan ?_ ?_|refine zim (fun h=>?_)|fail)|(omega;done))
  refine Wp_loopI (α:=Nat) (fun i=>stOf [(0,rowQ qs n),(3,N i)] [] 0) (fun i=>i≤qs.length∧y4 qs=y4 (qs.drop i)) (fun i=>qs.length - i) 0 ⟨Nat.zero_le _,rfl⟩ ?_ ?_
  · refine zW1 ?_ <;> repeat' (with_reducible first|exact trivial|refine zan ?_ ?_|refine zal (fun i hi=>?_))
  · rintro i ⟨h1,h2⟩
    have hd:=fun h:i < qs.length=>a0j h
    have c_ci:=c_c i
    cases hb:bigQ (qs.getD i 0)
    · rw [hb] at c_ci hd
      simp only [Bool.false_eq_true,if_false,Bool.false_or] at c_ci hd
      repeat' (first|refine zR1 hc Tryz.results234 ?_|(with_reducible first|exact trivial|refine zan ?_ ?_|refine zim (fun h=>?_)|refine zoc (c_ci ?_) ?_ ?_|fail)|((first|omega|(simp only [Int.toNat_natCast];omega));done))
      · refine ⟨i+1,⟨by omega,by rw [h2,hd (by omega)]⟩,by omega,?_⟩
        refine zW1 ?_ <;> repeat' (with_reducible first|exact trivial|refine zan ?_ ?_|refine zal (fun i hi=>?_))
      · have:qs.length≤i:=by omega
        rw [List.drop_eq_nil_of_le this] at h2
        rw [h2];exact Sub.refl _
    · rw [hb] at c_ci hd
      simp only [if_true,Bool.true_or] at c_ci hd
      repeat' (first|refine zR1 hc Tryz.results234 ?_|(with_reducible first|exact trivial|refine zan ?_ ?_|refine zim (fun h=>?_)|refine zoc (c_ci ?_) ?_ ?_|fail)|((first|omega|(simp only [Int.toNat_natCast];omega));done))
      · rw [h2,hd (by omega)];exact Sub.refl _
      · have:qs.length≤i:=by omega
        rw [List.drop_eq_nil_of_le this] at h2
        rw [h2];exact Sub.refl _
theorem mem3Q {P:Rat→Prop} {a b c:Rat} (ha:P a) (hb:P b) (hc:P c):∀q∈[a,b,c],P q:=fun q h=>by
  simp only [List.mem_cons,List.not_mem_nil,or_false] at h
  rcases h with rfl|rfl|rfl
  · exact ha
  · exact hb
  · exact hc
theorem bigL3 (a b c:Rat):y4 [a,b,c]=bigV a b c:=by
  unfold y4 bigV
  simp [Bool.or_assoc]
theorem w8 {k:Nat} (hk:k≤1000000) (a b c:Rat) (ha:Q k a) (hb:Q k b) (hc:Q k c):Ax.Pure Tryz.prog G 234 [.one (.row 1 3 (fun i=> [[Leaf.v (.string (bs (ratL a)))],[Leaf.v (.string (bs (ratL b)))],[Leaf.v (.string (bs (ratL c)))]].getD i []))] (N (if bigV a b c=true then 4 else 0)):=
  bigL3 a b c ▸ pure_args (y7 hk [a,b,c] 3 rfl (mem3Q ha hb hc) (show 3≤1000000 by decide)) ⟨sub_row_eq (row3_lt rfl rfl rfl),trivial⟩ ⟨trivial,trivial⟩
theorem a0c {k:Nat} (hk:k≤1000000) (a b c:Rat) (ha:Q k a) (hb:Q k b) (hc':Q k c):Ax.Pure Tryz.prog G 175 [tV (ratL a) (ratL b) (ratL c)] (N (if bigV a b c=true then 4 else 0)):=by
  have c_c:=w8 hk a b c ha hb hc'
  refine zen Tryz.func175 rfl Tryz.ntmps175 ?_
  intro w0 E0 hc
  repeat' (first|refine zR1 hc Tryz.results175 ?_|(with_reducible first|exact trivial|refine zan ?_ ?_|refine zim (fun h=>?_)|refine zoc c_c ?_ ?_|fail)|(omega;done))
end Go.Proofs
end
section
set_option maxHeartbeats 4000000
set_option maxRecDepth 100000
namespace Go.Proofs
open Go.Ax
theorem y9 {a b c e:Int} (h:e=firstNZ [a,b,c]):Ax.Pure Tryz.prog G 143 [.one (.row 1 3 (fun i=> [[Leaf.v (.int .i64 a)],[Leaf.v (.int .i64 b)],[Leaf.v (.int .i64 c)]].getD i []))] (N e):=h ▸ c_first3 a b c
theorem u5 (a b c:V3) (ha:shortV a) (hb:shortV b) (hc':shortV c) (he:fstVs [a,b,c]≠0):Ax.Pure Tryz.prog G 77 [txV a,txV b,txV c] (.tup [tH 0 0 0 [],N (fstVs [a,b,c])]):=by
  have c_c:=c_checkVecs3 a b c ha hb hc'
  generalize fstVs [a,b,c]=e at *
  refine zen Tryz.func77 rfl Tryz.ntmps77 ?_
  intro w0 E0 hc
  repeat' (first|refine zR1 hc Tryz.results77 ?_|(with_reducible first|exact trivial|refine zan ?_ ?_|refine zim (fun h=>?_)|refine zoc c_c ?_ ?_|fail)|((first|omega|exact absurd (by assumption) he);done))
theorem s5 (h k l:H4) (hs:a16 h) (ks:a16 k) (ls:a16 l) (he:firstNZ [a13 h,a13 k,a13 l]≠0):Ax.Pure Tryz.prog G 80 [txH h,txH k,txH l] (.tup [tV [] [] [],N (firstNZ [a13 h,a13 k,a13 l])]):=by
  have c_1:=a2d hs
  have c_2:=a2d ks
  have c_3:=a2d ls
  have c_f:=y9 (a:=a13 h) (b:=a13 k) (c:=a13 l) rfl
  generalize firstNZ [a13 h,a13 k,a13 l]=e at *
  refine zen Tryz.func80 rfl Tryz.ntmps80 ?_
  intro w0 E0 hc
  repeat' (first|refine zR1 hc Tryz.results80 ?_|(with_reducible first|exact trivial|refine zan ?_ ?_|refine zim (fun h=>?_)|refine zoc c_1 ?_ ?_|refine zoc c_2 ?_ ?_|refine zoc c_3 ?_ ?_|refine zoc c_f ?_ ?_|fail)|((first|omega|exact absurd (by assumption) he);done))
end Go.Proofs
end
section
set_option maxHeartbeats 4000000
set_option maxRecDepth 100000
namespace Go.Proofs
open Go.Ax
theorem a0m (b:Bool) (e:Int):Ax.Pure Tryz.prog G 64 [Bo b,N e] (N (if b=true then e else 0)):=by
  refine zen Tryz.func64 rfl Tryz.ntmps64 ?_
  intro w0 E0 hc
  cases b
  · repeat' (first|refine zR1 hc Tryz.results64 ?_|(with_reducible first|exact trivial|refine zan ?_ ?_|refine zim (fun h=>?_)|fail)|(omega;done))
    all_goals exact Sub.refl _
  · repeat' (first|refine zR1 hc Tryz.results64 ?_|(with_reducible first|exact trivial|refine zan ?_ ?_|refine zim (fun h=>?_)|fail)|(omega;done))
    all_goals exact Sub.refl _
theorem s6 (a b c:Int):Ax.Pure Tryz.prog G 30 [.one (.row 1 3 (fun i=> [[Leaf.v (.int .i64 a)],[Leaf.v (.int .i64 b)],[Leaf.v (.int .i64 c)]].getD i []))] (N (firstNZ [a,b,c])):=
  pure_args (l_first [a,b,c] (show 3≤1000000 by decide)) ⟨sub_row_list [a,b,c],trivial⟩ ⟨trivial,trivial⟩
theorem a0n (n:Nat) (hn:n≤1000) (a b c:V3):Ax.Pure Tryz.prog G 36 [N n,.one (.row 3 3 (fun i=> [leafV a,leafV b,leafV c].getD i []))] (Bo (a2q n [a,b,c])):=
  pure_args (a4h n 3 [a,b,c] rfl hn (show 3≤1000000 by decide)) ⟨Sub.refl _,sub_row_eq (row3_lt rfl rfl rfl),trivial⟩ ⟨trivial,trivial,trivial⟩
theorem s7 (e:Int) (he:e≠0) (x y z:List UInt8):Ax.Pure Tryz.prog G 49 [tV [] [] [],N e,N e,tV x y z] (Bo true):=by
  have hb:=beq_bs []
  refine zen Tryz.func49 rfl Tryz.ntmps49 ?_
  intro w0 E0 hc
  repeat' (first|refine zR1 hc Tryz.results49 ?_|(with_reducible first|exact trivial|refine zan ?_ ?_|refine zim (fun h=>?_)|fail)|((first|omega|(exfalso;dsimp only [bs] at h;simp at h;done));done))
  all_goals exact sub_eq (congrArg Bo (by simp))
theorem a0x {k:Nat} (hk:k≤1000000) (a b c:Rat) (hq:Q k a∧Q k b∧Q k c):Ax.Pure Tryz.prog G 49 [tV (txl (bigV a b c) a) (txl (bigV a b c) b) (txl (bigV a b c) c),N (exl (bigV a b c)),N 0,tV (ratL a) (ratL b) (ratL c)] (Bo true):=by
  have c_l:=a0c hk a b c hq.1 hq.2.1 hq.2.2
  cases h:bigV a b c <;> rw [h] at c_l <;> simp only [if_true,Bool.false_eq_true,if_false] at c_l
  · show Ax.Pure Tryz.prog G 49 [tV (ratL a) (ratL b) (ratL c),N 0,N 0,tV (ratL a) (ratL b) (ratL c)] (Bo true)
    refine zen Tryz.func49 rfl Tryz.ntmps49 ?_
    intro w0 E0 hc
    repeat' (first|refine zR1 hc Tryz.results49 ?_|(with_reducible first|exact trivial|refine zan ?_ ?_|refine zim (fun h=>?_)|refine zoc c_l ?_ ?_|fail)|((first|omega|(exfalso;dsimp only [bs] at h;simp at h;done));done))
    all_goals exact sub_eq (congrArg Bo (by simp))
  · show Ax.Pure Tryz.prog G 49 [tV [] [] [],N 4,N 0,tV (ratL a) (ratL b) (ratL c)] (Bo true)
    refine zen Tryz.func49 rfl Tryz.ntmps49 ?_
    intro w0 E0 hc
    repeat' (first|refine zR1 hc Tryz.results49 ?_|(with_reducible first|exact trivial|refine zan ?_ ?_|refine zim (fun h=>?_)|refine zoc c_l ?_ ?_|fail)|((first|omega|(exfalso;dsimp only [bs] at h;simp at h;done));done))
    all_goals exact sub_eq (congrArg Bo (by simp))
end Go.Proofs
end
section
namespace Go.Proofs
open Go.Ax
theorem r9 {v:V3} (h:shortV v):Ax.Pure Tryz.prog G 39 [txV v] (N (fstVec v)):=a2c v.1 v.2.1 v.2.2 h.1 h.2.1 h.2.2
end Go.Proofs
end
section
set_option maxHeartbeats 4000000
set_option maxRecDepth 100000
namespace Go.Proofs
open Go.Ax
theorem a0y {a b c d e f g h i:Rat} (u:Q 2400 a∧Q 2400 b∧Q 2400 c) (v:Q 2400 d∧Q 2400 e∧Q 2400 f) (w:Q 2400 g∧Q 2400 h∧Q 2400 i):Q 40000 (det3 a b c d e f g h i):=
  Q_of (Q_add (Q_add (Q_mul (Q_sub (Q_mul u.2.1 v.2.2) (Q_mul u.2.2 v.2.1)) w.1) (Q_mul (Q_sub (Q_mul u.2.2 v.1) (Q_mul u.1 v.2.2)) w.2.1)) (Q_mul (Q_sub (Q_mul u.1 v.2.1) (Q_mul u.2.1 v.1)) w.2.2)) rfl
theorem w5 (x1 y1 z1:Int) (w1:Rat) (h1:okH x1 y1 z1 w1) (x2 y2 z2:Int) (w2:Rat) (h2:okH x2 y2 z2 w2) (x3 y3 z3:Int) (w3:Rat) (h3:okH x3 y3 z3 w3) (h0:det3 (x1:Rat) (y1:Rat) (z1:Rat) (x2:Rat) (y2:Rat) (z2:Rat) (x3:Rat) (y3:Rat) (z3:Rat)=0):Ax.Pure Tryz.prog G 81 [tH x1 y1 z1 (ratL w1),tH x2 y2 z2 (ratL w2),tH x3 y3 z3 (ratL w3)] (.tup [tV [] [] [],Bo false]):=by
  have c_n1:=a18 x1 y1 z1 (ratL w1) (okI_i64 h1.1.1) (okI_i64 h1.1.2.1) (okI_i64 h1.1.2.2)
  have c_n2:=a18 x2 y2 z2 (ratL w2) (okI_i64 h2.1.1) (okI_i64 h2.1.2.1) (okI_i64 h2.1.2.2)
  have c_n3:=a18 x3 y3 z3 (ratL w3) (okI_i64 h3.1.1) (okI_i64 h3.1.2.1) (okI_i64 h3.1.2.2)
  have qu:Q 2400 (x1:Rat)∧Q 2400 (y1:Rat)∧Q 2400 (z1:Rat):=⟨okI_Q h1.1.1,okI_Q h1.1.2.1,okI_Q h1.1.2.2⟩
  have qv:Q 2400 (x2:Rat)∧Q 2400 (y2:Rat)∧Q 2400 (z2:Rat):=⟨okI_Q h2.1.1,okI_Q h2.1.2.1,okI_Q h2.1.2.2⟩
  have qw:Q 2400 (x3:Rat)∧Q 2400 (y3:Rat)∧Q 2400 (z3:Rat):=⟨okI_Q h3.1.1,okI_Q h3.1.2.1,okI_Q h3.1.2.2⟩
  have c_d:=a4m (k:=2400) (by decide) (x1:Rat) (y1:Rat) (z1:Rat) (x2:Rat) (y2:Rat) (z2:Rat) (x3:Rat) (y3:Rat) (z3:Rat) qu qv qw
  rw [a4f] at c_d
  have c_z:=r_IsZero (det3 (x1:Rat) (y1:Rat) (z1:Rat) (x2:Rat) (y2:Rat) (z2:Rat) (x3:Rat) (y3:Rat) (z3:Rat))
  rw [decide_eq_true h0] at c_z
  refine zen Tryz.func81 rfl Tryz.ntmps81 ?_
  intro w0 E0 hc
  repeat' (first|refine zR1 hc Tryz.results81 ?_|(with_reducible first|exact trivial|refine zan ?_ ?_|refine zim (fun h=>?_)|refine zoc c_n1 ?_ ?_|refine zoc c_n2 ?_ ?_|refine zoc c_n3 ?_ ?_|refine zoc c_d ?_ ?_|refine zoc c_z ?_ ?_|fail)|((first|(refine nf1 ?_;with_reducible assumption)|(refine nf2 ?_;with_reducible assumption));done))
theorem y8 (x1 y1 z1:Int) (w1:Rat) (h1:okH x1 y1 z1 w1) (x2 y2 z2:Int) (w2:Rat) (h2:okH x2 y2 z2 w2) (x3 y3 z3:Int) (w3:Rat) (h3:okH x3 y3 z3 w3) (h0:det3 (x1:Rat) (y1:Rat) (z1:Rat) (x2:Rat) (y2:Rat) (z2:Rat) (x3:Rat) (y3:Rat) (z3:Rat)≠0):Ax.Pure Tryz.prog G 81 [tH x1 y1 z1 (ratL w1),tH x2 y2 z2 (ratL w2),tH x3 y3 z3 (ratL w3)] (.tup [tV (ratL ((det3 (x1:Rat) (y1:Rat) (z1:Rat) (x2:Rat) (y2:Rat) (z2:Rat) (x3:Rat) (y3:Rat) (z3:Rat))⁻¹*(w1*((y2:Rat)*(z3:Rat) - (z2:Rat)*(y3:Rat))+w2*((y3:Rat)*(z1:Rat) - (z3:Rat)*(y1:Rat))+w3*((y1:Rat)*(z2:Rat) - (z1:Rat)*(y2:Rat))))) (ratL ((det3 (x1:Rat) (y1:Rat) (z1:Rat) (x2:Rat) (y2:Rat) (z2:Rat) (x3:Rat) (y3:Rat) (z3:Rat))⁻¹*(w1*((z2:Rat)*(x3:Rat) - (x2:Rat)*(z3:Rat))+w2*((z3:Rat)*(x1:Rat) - (x3:Rat)*(z1:Rat))+w3*((z1:Rat)*(x2:Rat) - (x1:Rat)*(z2:Rat))))) (ratL ((det3 (x1:Rat) (y1:Rat) (z1:Rat) (x2:Rat) (y2:Rat) (z2:Rat) (x3:Rat) (y3:Rat) (z3:Rat))⁻¹*(w1*((x2:Rat)*(y3:Rat) - (y2:Rat)*(x3:Rat))+w2*((x3:Rat)*(y1:Rat) - (y3:Rat)*(x1:Rat))+w3*((x1:Rat)*(y2:Rat) - (y1:Rat)*(x2:Rat))))),Bo true]):=by
  have c_n1:=a18 x1 y1 z1 (ratL w1) (okI_i64 h1.1.1) (okI_i64 h1.1.2.1) (okI_i64 h1.1.2.2)
  have c_n2:=a18 x2 y2 z2 (ratL w2) (okI_i64 h2.1.1) (okI_i64 h2.1.2.1) (okI_i64 h2.1.2.2)
  have c_n3:=a18 x3 y3 z3 (ratL w3) (okI_i64 h3.1.1) (okI_i64 h3.1.2.1) (okI_i64 h3.1.2.2)
  have qu:Q 2400 (x1:Rat)∧Q 2400 (y1:Rat)∧Q 2400 (z1:Rat):=⟨okI_Q h1.1.1,okI_Q h1.1.2.1,okI_Q h1.1.2.2⟩
  have qv:Q 2400 (x2:Rat)∧Q 2400 (y2:Rat)∧Q 2400 (z2:Rat):=⟨okI_Q h2.1.1,okI_Q h2.1.2.1,okI_Q h2.1.2.2⟩
  have qw:Q 2400 (x3:Rat)∧Q 2400 (y3:Rat)∧Q 2400 (z3:Rat):=⟨okI_Q h3.1.1,okI_Q h3.1.2.1,okI_Q h3.1.2.2⟩
  have c_d:=a4m (k:=2400) (by decide) (x1:Rat) (y1:Rat) (z1:Rat) (x2:Rat) (y2:Rat) (z2:Rat) (x3:Rat) (y3:Rat) (z3:Rat) qu qv qw
  rw [a4f] at c_d
  have c_z:=r_IsZero (det3 (x1:Rat) (y1:Rat) (z1:Rat) (x2:Rat) (y2:Rat) (z2:Rat) (x3:Rat) (y3:Rat) (z3:Rat))
  rw [decide_eq_false h0] at c_z
  have qd:Q 40000 (det3 (x1:Rat) (y1:Rat) (z1:Rat) (x2:Rat) (y2:Rat) (z2:Rat) (x3:Rat) (y3:Rat) (z3:Rat)):=a0y qu qv qw
  have c_r:=r_Reciprocal _ h0 qd (by decide)
  have qr:=Q_inv qd
  have c_x1:=a3l (k:=2400) (by decide) (x2:Rat) (y2:Rat) (z2:Rat) (x3:Rat) (y3:Rat) (z3:Rat) qv qw
  have c_x2:=a3l (k:=2400) (by decide) (x3:Rat) (y3:Rat) (z3:Rat) (x1:Rat) (y1:Rat) (z1:Rat) qw qu
  have c_x3:=a3l (k:=2400) (by decide) (x1:Rat) (y1:Rat) (z1:Rat) (x2:Rat) (y2:Rat) (z2:Rat) qu qv
  obtain ⟨qu1,qu2,qu3⟩:=qu
  obtain ⟨qv1,qv2,qv3⟩:=qv
  obtain ⟨qw1,qw2,qw3⟩:=qw
  have qq1:Q 10000 ((y2:Rat)*(z3:Rat) - (z2:Rat)*(y3:Rat))∧Q 10000 ((z2:Rat)*(x3:Rat) - (x2:Rat)*(z3:Rat))∧Q 10000 ((x2:Rat)*(y3:Rat) - (y2:Rat)*(x3:Rat)):=⟨Q_of (Q_sub (Q_mul qv2 qw3) (Q_mul qv3 qw2)) rfl,Q_of (Q_sub (Q_mul qv3 qw1) (Q_mul qv1 qw3)) rfl,Q_of (Q_sub (Q_mul qv1 qw2) (Q_mul qv2 qw1)) rfl⟩
  have qq2:Q 10000 ((y3:Rat)*(z1:Rat) - (z3:Rat)*(y1:Rat))∧Q 10000 ((z3:Rat)*(x1:Rat) - (x3:Rat)*(z1:Rat))∧Q 10000 ((x3:Rat)*(y1:Rat) - (y3:Rat)*(x1:Rat)):=⟨Q_of (Q_sub (Q_mul qw2 qu3) (Q_mul qw3 qu2)) rfl,Q_of (Q_sub (Q_mul qw3 qu1) (Q_mul qw1 qu3)) rfl,Q_of (Q_sub (Q_mul qw1 qu2) (Q_mul qw2 qu1)) rfl⟩
  have qq3:Q 10000 ((y1:Rat)*(z2:Rat) - (z1:Rat)*(y2:Rat))∧Q 10000 ((z1:Rat)*(x2:Rat) - (x1:Rat)*(z2:Rat))∧Q 10000 ((x1:Rat)*(y2:Rat) - (y1:Rat)*(x2:Rat)):=⟨Q_of (Q_sub (Q_mul qu2 qv3) (Q_mul qu3 qv2)) rfl,Q_of (Q_sub (Q_mul qu3 qv1) (Q_mul qu1 qv3)) rfl,Q_of (Q_sub (Q_mul qu1 qv2) (Q_mul qu2 qv1)) rfl⟩
  generalize (y2:Rat)*(z3:Rat) - (z2:Rat)*(y3:Rat)=p11 at *
  generalize (z2:Rat)*(x3:Rat) - (x2:Rat)*(z3:Rat)=p12 at *
  generalize (x2:Rat)*(y3:Rat) - (y2:Rat)*(x3:Rat)=p13 at *
  generalize (y3:Rat)*(z1:Rat) - (z3:Rat)*(y1:Rat)=p21 at *
  generalize (z3:Rat)*(x1:Rat) - (x3:Rat)*(z1:Rat)=p22 at *
  generalize (x3:Rat)*(y1:Rat) - (y3:Rat)*(x1:Rat)=p23 at *
  generalize (y1:Rat)*(z2:Rat) - (z1:Rat)*(y2:Rat)=p31 at *
  generalize (z1:Rat)*(x2:Rat) - (x1:Rat)*(z2:Rat)=p32 at *
  generalize (x1:Rat)*(y2:Rat) - (y1:Rat)*(x2:Rat)=p33 at *
  generalize det3 (x1:Rat) (y1:Rat) (z1:Rat) (x2:Rat) (y2:Rat) (z2:Rat) (x3:Rat) (y3:Rat) (z3:Rat)=dt at *
  have c_s1:=a2m (k:=10000) (by decide) w1 p11 p12 p13 (Q_of (bigQ_Q h1.2.2) rfl) qq1
  have qs1:Q 20000 (w1*p11)∧Q 20000 (w1*p12)∧Q 20000 (w1*p13):=⟨Q_of (Q_mul (bigQ_Q h1.2.2) qq1.1) rfl,Q_of (Q_mul (bigQ_Q h1.2.2) qq1.2.1) rfl,Q_of (Q_mul (bigQ_Q h1.2.2) qq1.2.2) rfl⟩
  have c_s2:=a2m (k:=10000) (by decide) w2 p21 p22 p23 (Q_of (bigQ_Q h2.2.2) rfl) qq2
  have qs2:Q 20000 (w2*p21)∧Q 20000 (w2*p22)∧Q 20000 (w2*p23):=⟨Q_of (Q_mul (bigQ_Q h2.2.2) qq2.1) rfl,Q_of (Q_mul (bigQ_Q h2.2.2) qq2.2.1) rfl,Q_of (Q_mul (bigQ_Q h2.2.2) qq2.2.2) rfl⟩
  have c_s3:=a2m (k:=10000) (by decide) w3 p31 p32 p33 (Q_of (bigQ_Q h3.2.2) rfl) qq3
  have qs3:Q 20000 (w3*p31)∧Q 20000 (w3*p32)∧Q 20000 (w3*p33):=⟨Q_of (Q_mul (bigQ_Q h3.2.2) qq3.1) rfl,Q_of (Q_mul (bigQ_Q h3.2.2) qq3.2.1) rfl,Q_of (Q_mul (bigQ_Q h3.2.2) qq3.2.2) rfl⟩
  have c_a:=a26 (k:=20000) (by decide) _ _ _ _ _ _ qs1 qs2
  have qa:Q 50000 (w1*p11+w2*p21)∧Q 50000 (w1*p12+w2*p22)∧Q 50000 (w1*p13+w2*p23):=⟨Q_of (Q_add qs1.1 qs2.1) rfl,Q_of (Q_add qs1.2.1 qs2.2.1) rfl,Q_of (Q_add qs1.2.2 qs2.2.2) rfl⟩
  have c_b:=a26 (k:=50000) (by decide) _ _ _ _ _ _ qa ⟨Q_of qs3.1 rfl,Q_of qs3.2.1 rfl,Q_of qs3.2.2 rfl⟩
  have c_f:=a2m (k:=200000) (by decide) dt⁻¹ _ _ _ (Q_of qr rfl) ⟨Q_of (Q_add qa.1 qs3.1) rfl,Q_of (Q_add qa.2.1 qs3.2.1) rfl,Q_of (Q_add qa.2.2 qs3.2.2) rfl⟩
  refine zen Tryz.func81 rfl Tryz.ntmps81 ?_
  intro w0 E0 hc
  repeat' (first|refine zR1 hc Tryz.results81 ?_|(with_reducible first|exact trivial|refine zan ?_ ?_|refine zim (fun h=>?_)|refine zoc c_n1 ?_ ?_|refine zoc c_n2 ?_ ?_|refine zoc c_n3 ?_ ?_|refine zoc c_d ?_ ?_|refine zoc c_z ?_ ?_|refine zoc c_r ?_ ?_|refine zoc c_x1 ?_ ?_|refine zoc c_x2 ?_ ?_|refine zoc c_x3 ?_ ?_|refine zoc c_s1 ?_ ?_|refine zoc c_s2 ?_ ?_|refine zoc c_s3 ?_ ?_|refine zoc c_a ?_ ?_|refine zoc c_b ?_ ?_|refine zoc c_f ?_ ?_|fail)|((first|(refine nf1 ?_;with_reducible assumption)|(refine nf2 ?_;with_reducible assumption));done))
end Go.Proofs
end
section
set_option maxHeartbeats 8000000
set_option maxRecDepth 100000
namespace Go.Proofs
open Go.Ax
abbrev txT (p q r:V3) (h k l:H4):AV:=.agg [.v (.string (bs p.1)),.v (.string (bs p.2.1)),.v (.string (bs p.2.2)),.v (.string (bs q.1)),.v (.string (bs q.2.1)),.v (.string (bs q.2.2)),.v (.string (bs r.1)),.v (.string (bs r.2.1)),.v (.string (bs r.2.2)),.v (.int .i64 h.x),.v (.int .i64 h.y),.v (.int .i64 h.z),.v (.string (bs h.d)),.v (.int .i64 k.x),.v (.int .i64 k.y),.v (.int .i64 k.z),.v (.string (bs k.d)),.v (.int .i64 l.x),.v (.int .i64 l.y),.v (.int .i64 l.z),.v (.string (bs l.d))]
def okT (a b c:V3):Prop:=∃(U V W:V3) (o:Bool),Ax.Pure Tryz.prog G 58 [txV b,txV a] (txV U)∧Ax.Pure Tryz.prog G 58 [txV c,txV a] (txV V)∧Ax.Pure Tryz.prog G 78 [txV U,txV V] (txV W)∧Ax.Pure Tryz.prog G 79 [txV W] (Bo o)∧
  (o=true→Ax.Pure Tryz.prog G 77 [txV a,txV b,txV c] (.tup [tH 0 0 0 [],N 7]))∧(o=false→∃(t:ByteArray) (x y z:Int) (w:List UInt8) (e:Int),Ax.Pure Tryz.prog G 76 [txV W,txV a] (S t)∧Ax.Pure Tryz.prog G 40 [txV W,S t] (.tup [tH x y z w,N e])∧
    Ax.Pure Tryz.prog G 77 [txV a,txV b,txV c] (.tup [tH x y z w,N e])∧Ax.Pure Tryz.prog G 33 [tH x y z w,N e,N e,tH x y z w] (Bo true))
theorem a0d {a b c:V3} (ha:fstVec a=0) (hb:fstVec b=0) (hc:fstVec c=0):okT a b c:=by
  obtain ⟨a1,a2,a3,rfl,oa⟩:=a35 ha
  obtain ⟨b1,b2,b3,rfl,ob⟩:=a35 hb
  obtain ⟨d1,d2,d3,rfl,od⟩:=a35 hc
  have qa:=okV_Q oa
  have qb:=okV_Q ob
  have qd:=okV_Q od
  have s1:=a2z (k:=2400) (by decide) b1 b2 b3 a1 a2 a3 qb qa
  have s2:=a2z (k:=2400) (by decide) d1 d2 d3 a1 a2 a3 qd qa
  have u1:=Q_sub qb.1 qa.1
  have u2:=Q_sub qb.2.1 qa.2.1
  have u3:=Q_sub qb.2.2 qa.2.2
  have v1:=Q_sub qd.1 qa.1
  have v2:=Q_sub qd.2.1 qa.2.1
  have v3':=Q_sub qd.2.2 qa.2.2
  have cr:=a3l (k:=4801) (by decide) _ _ _ _ _ _ ⟨u1,u2,u3⟩ ⟨v1,v2,v3'⟩
  have n1:=Q_of (K:=20000) (Q_sub (Q_mul u2 v3') (Q_mul u3 v2)) rfl
  have n2:=Q_of (K:=20000) (Q_sub (Q_mul u3 v1) (Q_mul u1 v3')) rfl
  have n3:=Q_of (K:=20000) (Q_sub (Q_mul u1 v2) (Q_mul u2 v1)) rfl
  have h0:=t7 a1 a2 a3 b1 b2 b3 d1 d2 d3 oa ob od
  have h1:=s_Through a1 a2 a3 b1 b2 b3 d1 d2 d3 oa ob od
  have h2:=s9 a1 a2 a3 b1 b2 b3 d1 d2 d3 oa ob od
  generalize ((b2 - a2)*(d3 - a3) - (b3 - a3)*(d2 - a2))=N1 at *
  generalize ((b3 - a3)*(d1 - a1) - (b1 - a1)*(d3 - a3))=N2 at *
  generalize ((b1 - a1)*(d2 - a2) - (b2 - a2)*(d1 - a1))=N3 at *
  have io:=a2b N1 N2 N3
  refine ⟨v3 _ _ _,v3 _ _ _,v3 N1 N2 N3,_,s1,s2,cr,io,fun h=>h0 (of_decide_eq_true h),fun h=>?_⟩
  have hn:=of_decide_eq_false h
  have dt:=a23 (k:=20000) (by decide) N1 N2 N3 a1 a2 a3 ⟨n1,n2,n3⟩ ⟨Q_of qa.1 rfl,Q_of qa.2.1 rfl,Q_of qa.2.2 rfl⟩
  have qn:Q 300000 (dot3 N1 N2 N3 a1 a2 a3):=Q_of (Q_dot n1 n2 n3 (Q_of (K:=20000) qa.1 rfl) (Q_of qa.2.1 rfl) (Q_of qa.2.2 rfl)) rfl
  have mk:=a34 (k:=20000) (kd:=300000) (by decide) (by decide) N1 N2 N3 _ hn n1 n2 n3 qn
  by_cases hk:hOk N1 N2 N3 (dot3 N1 N2 N3 a1 a2 a3)
  · rw [if_pos hk] at mk
    exact ⟨_,_,_,_,_,_,dt,mk,h1 hn hk,a4i _ _ _ _⟩
  · rw [if_neg hk] at mk
    exact ⟨_,_,_,_,_,_,dt,mk,h2 hn hk,a22 4 (by decide) _ _ _ _⟩
theorem mt (p q r a b c d:Rat):r8 p q r a b c*d=d*(a*p+b*q+c*r):=by unfold r8;grind
theorem s8 {h k l:H4} (eh:a13 h=0) (ek:a13 k=0) (el:a13 l=0):(Ax.Pure Tryz.prog G 80 [txH h,txH k,txH l] (.tup [tV [] [] [],N 7])∧Ax.Pure Tryz.prog G 81 [txH h,txH k,txH l] (.tup [tV [] [] [],Bo false]))∨
    ∃(x y z u v w:List UInt8) (e:Int),Ax.Pure Tryz.prog G 80 [txH h,txH k,txH l] (.tup [tV x y z,N e])∧Ax.Pure Tryz.prog G 81 [txH h,txH k,txH l] (.tup [tV u v w,Bo true])∧Ax.Pure Tryz.prog G 49 [tV x y z,N e,N 0,tV u v w] (Bo true):=by
  obtain ⟨x1,y1,z1,t1⟩:=h
  obtain ⟨x2,y2,z2,t2⟩:=k
  obtain ⟨x3,y3,z3,t3⟩:=l
  obtain ⟨w1,rfl,h1⟩:=a4c eh
  obtain ⟨w2,rfl,h2⟩:=a4c ek
  obtain ⟨w3,rfl,h3⟩:=a4c el
  by_cases h0:det3 (x1:Rat) (y1:Rat) (z1:Rat) (x2:Rat) (y2:Rat) (z2:Rat) (x3:Rat) (y3:Rat) (z3:Rat)=0
  · exact .inl ⟨t6 _ _ _ _ h1 _ _ _ _ h2 _ _ _ _ h3 h0,w5 _ _ _ _ h1 _ _ _ _ h2 _ _ _ _ h3 h0⟩
  · have s:=t8 _ _ _ _ h1 _ _ _ _ h2 _ _ _ _ h3 h0
    have r:=y8 _ _ _ _ h1 _ _ _ _ h2 _ _ _ _ h3 h0
    rw [mt,mt,mt] at s
    have qd:Q 40000 (det3 (x1:Rat) (y1:Rat) (z1:Rat) (x2:Rat) (y2:Rat) (z2:Rat) (x3:Rat) (y3:Rat) (z3:Rat)):=a0y ⟨okI_Q h1.1.1,okI_Q h1.1.2.1,okI_Q h1.1.2.2⟩ ⟨okI_Q h2.1.1,okI_Q h2.1.2.1,okI_Q h2.1.2.2⟩ ⟨okI_Q h3.1.1,okI_Q h3.1.2.1,okI_Q h3.1.2.2⟩
    refine .inr ⟨_,_,_,_,_,_,_,s,r,a0x (k:=900000) (by decide) _ _ _ ?_⟩
    have c:∀{a b c d:Int},okI a→okI b→okI c→okI d→Q 10000 ((a:Rat)*(d:Rat) - (b:Rat)*(c:Rat)):=fun ha hb hc hd=>Q_of (Q_sub (Q_mul (okI_Q ha) (okI_Q hd)) (Q_mul (okI_Q hb) (okI_Q hc))) rfl
    have q:∀{p q r:Rat},Q 10000 p→Q 10000 q→Q 10000 r→Q 900000 ((det3 (x1:Rat) (y1:Rat) (z1:Rat) (x2:Rat) (y2:Rat) (z2:Rat) (x3:Rat) (y3:Rat) (z3:Rat))⁻¹*(w1*p+w2*q+w3*r)):=fun hp hq hr=>Q_of (Q_mul (Q_inv qd) (Q_add (Q_add (Q_mul (bigQ_Q h1.2.2) hp) (Q_mul (bigQ_Q h2.2.2) hq)) (Q_mul (bigQ_Q h3.2.2) hr))) rfl
    obtain ⟨⟨i1,i2,i3⟩,_⟩:=h1
    obtain ⟨⟨j1,j2,j3⟩,_⟩:=h2
    obtain ⟨⟨m1,m2,m3⟩,_⟩:=h3
    exact ⟨q (c j2 j3 m2 m3) (c m2 m3 i2 i3) (c i2 i3 j2 j3),q (c j3 j1 m3 m1) (c m3 m1 i3 i1) (c i3 i1 j3 j1),q (c j1 j2 m1 m2) (c m1 m2 i1 i2) (c i1 i2 j1 j2)⟩
theorem a0v {p q r:V3} {h k l:H4} (hb:firstNZ [fstVec p,fstVec q,fstVec r]≠0) (sp:shortV p) (sq:shortV q) (sr:shortV r) (sh:a16 h) (sk:a16 k) (sl:a16 l) (lh:h.d.length≤20) (lk:k.d.length≤20) (ll:l.d.length≤20)
    (c_sh:Ax.Pure Tryz.prog G 36 [N 20,.one (.row 3 3 (fun i=> [leafV p,leafV q,leafV r].getD i []))] (Bo true)):Ax.Pure Tryz.prog G 10 [txT p q r h k l] (Bo true):=by
  have c_aw:=c_awake
  have z1:=bs_size h.d
  have z2:=bs_size k.d
  have z3:=bs_size l.d
  have r_p:=r9 sp
  have r_q:=r9 sq
  have r_r:=r9 sr
  have r_h:=a17 sh.2
  have r_k:=a17 sk.2
  have r_l:=a17 sl.2
  have c_f:=s6 (fstVec p) (fstVec q) (fstVec r)
  have c_g:=s6 (a13 h) (a13 k) (a13 l)
  have c_t:=u5 p q r sp sq sr hb
  have p_t:=a22 _ hb 0 0 0 []
  have c_t:Ax.Pure Tryz.prog G 77 [txV p,txV q,txV r] (.tup [tH 0 0 0 [],N (firstNZ [fstVec p,fstVec q,fstVec r])]):=c_t
  generalize firstNZ [fstVec p,fstVec q,fstVec r]=e at *
  generalize fstVec p=e1 at *
  generalize fstVec q=e2 at *
  generalize fstVec r=e3 at *
  by_cases hx:firstNZ [a13 h,a13 k,a13 l]=0
  rotate_left
  · have c_x:=s5 h k l sh sk sl hx
    have p_x:=s7 _ hx [] [] []
    generalize firstNZ [a13 h,a13 k,a13 l]=ex at *
    generalize a13 h=eh at *
    generalize a13 k=ek at *
    generalize a13 l=el at *
    refine zen Tryz.func10 rfl Tryz.ntmps10 ?_
    intro w0 E0 hc
    repeat' (first|(with_reducible first|refine Wp_seq ?_|refine zr0 hc ?_|refine zm0 hc ?_|refine zwk ?_|refine Wp_block ?_|refine zgo ?_|refine zbn ?_|refine zge Tryz.results10 ?_|refine Sub.refl _|refine allP_nil|refine zoa1 (out':=?_) ?_|refine zca1 (y:=?_) ?_|refine zea1 (eo':=?_) ?_)|(with_reducible refine allP_cons ?_ ?_;focus (first|decide|omega))|(with_reducible first|refine zg2 ?_ ?_|refine zoc c_aw ?_ ?_|refine zoc c_sh ?_ ?_|refine zoc r_p ?_ ?_|refine zoc r_q ?_ ?_|refine zoc r_r ?_ ?_|refine zoc r_h ?_ ?_|refine zoc r_k ?_ ?_|refine zoc r_l ?_ ?_|refine zoc c_f ?_ ?_|refine zoc c_g ?_ ?_|refine zoc c_t ?_ ?_|refine zoc p_t ?_ ?_|refine zoc c_x ?_ ?_|refine zoc p_x ?_ ?_|refine zbo ?_|refine zg3 ?_ (fun h=>?_) (fun h=>?_)|refine zg4 (fun h=>?_) (fun h=>?_)|fail)|((first|omega|(refine nf1 ?_;with_reducible assumption)|(refine nf2 ?_;with_reducible assumption));done))
  obtain ⟨eh,hx2⟩:=a15 hx
  obtain ⟨ek,hx3⟩:=a15 hx2
  obtain ⟨el,_⟩:=a15 hx3
  rw [hx] at c_g
  rw [eh] at r_h c_g
  rw [ek] at r_k c_g
  rw [el] at r_l c_g
  rcases s8 eh ek el with ⟨c_x,r_x⟩|⟨_,_,_,_,_,_,_,c_x,r_x,p_x⟩
  · have p_x:=s7 7 (by decide) [] [] []
    refine zen Tryz.func10 rfl Tryz.ntmps10 ?_
    intro w0 E0 hc
    repeat' (first|(with_reducible first|refine Wp_seq ?_|refine zr0 hc ?_|refine zm0 hc ?_|refine zwk ?_|refine Wp_block ?_|refine zgo ?_|refine zbn ?_|refine zge Tryz.results10 ?_|refine Sub.refl _|refine allP_nil|refine zoa1 (out':=?_) ?_|refine zca1 (y:=?_) ?_|refine zea1 (eo':=?_) ?_)|(with_reducible refine allP_cons ?_ ?_;focus (first|decide|omega))|(with_reducible first|refine zg2 ?_ ?_|refine zoc c_aw ?_ ?_|refine zoc c_sh ?_ ?_|refine zoc r_p ?_ ?_|refine zoc r_q ?_ ?_|refine zoc r_r ?_ ?_|refine zoc r_h ?_ ?_|refine zoc r_k ?_ ?_|refine zoc r_l ?_ ?_|refine zoc c_f ?_ ?_|refine zoc c_g ?_ ?_|refine zoc c_t ?_ ?_|refine zoc p_t ?_ ?_|refine zoc c_x ?_ ?_|refine zoc r_x ?_ ?_|refine zoc p_x ?_ ?_|refine zbo ?_|refine zg3 ?_ (fun h=>?_) (fun h=>?_)|refine zg4 (fun h=>?_) (fun h=>?_)|fail)|((first|omega|(refine nf1 ?_;with_reducible assumption)|(refine nf2 ?_;with_reducible assumption));done))
  · have c_aw:=c_aw
    refine zen Tryz.func10 rfl Tryz.ntmps10 ?_
    intro w0 E0 hc
    repeat' (first|(with_reducible first|refine Wp_seq ?_|refine zr0 hc ?_|refine zm0 hc ?_|refine zwk ?_|refine Wp_block ?_|refine zgo ?_|refine zbn ?_|refine zge Tryz.results10 ?_|refine Sub.refl _|refine allP_nil|refine zoa1 (out':=?_) ?_|refine zca1 (y:=?_) ?_|refine zea1 (eo':=?_) ?_)|(with_reducible refine allP_cons ?_ ?_;focus (first|decide|omega))|(with_reducible first|refine zg2 ?_ ?_|refine zoc c_aw ?_ ?_|refine zoc c_sh ?_ ?_|refine zoc r_p ?_ ?_|refine zoc r_q ?_ ?_|refine zoc r_r ?_ ?_|refine zoc r_h ?_ ?_|refine zoc r_k ?_ ?_|refine zoc r_l ?_ ?_|refine zoc c_f ?_ ?_|refine zoc c_g ?_ ?_|refine zoc c_t ?_ ?_|refine zoc p_t ?_ ?_|refine zoc c_x ?_ ?_|refine zoc r_x ?_ ?_|refine zoc p_x ?_ ?_|refine zbo ?_|refine zg3 ?_ (fun h=>?_) (fun h=>?_)|refine zg4 (fun h=>?_) (fun h=>?_)|fail)|((first|omega|(refine nf1 ?_;with_reducible assumption)|(refine nf2 ?_;with_reducible assumption));done))
theorem a0k {p q r:V3} {h k l:H4} (hb:firstNZ [fstVec p,fstVec q,fstVec r]=0) {U V W:V3} (c_u:Ax.Pure Tryz.prog G 58 [txV q,txV p] (txV U)) (c_v:Ax.Pure Tryz.prog G 58 [txV r,txV p] (txV V)) (c_c:Ax.Pure Tryz.prog G 78 [txV U,txV V] (txV W)) (c_o:Ax.Pure Tryz.prog G 79 [txV W] (Bo true)) (c_t:Ax.Pure Tryz.prog G 77 [txV p,txV q,txV r] (.tup [tH 0 0 0 [],N 7])) (sp:shortV p) (sq:shortV q) (sr:shortV r) (sh:a16 h) (sk:a16 k) (sl:a16 l) (lh:h.d.length≤20) (lk:k.d.length≤20) (ll:l.d.length≤20)
    (c_sh:Ax.Pure Tryz.prog G 36 [N 20,.one (.row 3 3 (fun i=> [leafV p,leafV q,leafV r].getD i []))] (Bo true)):Ax.Pure Tryz.prog G 10 [txT p q r h k l] (Bo true):=by
  have c_aw:=c_awake
  have z1:=bs_size h.d
  have z2:=bs_size k.d
  have z3:=bs_size l.d
  have r_p:=r9 sp
  have r_q:=r9 sq
  have r_r:=r9 sr
  have r_h:=a17 sh.2
  have r_k:=a17 sk.2
  have r_l:=a17 sl.2
  have c_f:=s6 (fstVec p) (fstVec q) (fstVec r)
  have c_g:=s6 (a13 h) (a13 k) (a13 l)
  obtain ⟨ep,hb2⟩:=a15 hb
  obtain ⟨eq,hb3⟩:=a15 hb2
  obtain ⟨er,_⟩:=a15 hb3
  rw [hb] at c_f
  rw [ep] at r_p c_f
  rw [eq] at r_q c_f
  rw [er] at r_r c_f
  have c_w:Ax.Pure Tryz.prog G 64 [Bo true,N 7] (N 7):=a0m true 7
  have p_t:=a22 7 (by decide) 0 0 0 []
  by_cases hx:firstNZ [a13 h,a13 k,a13 l]=0
  rotate_left
  · have c_x:=s5 h k l sh sk sl hx
    have p_x:=s7 _ hx [] [] []
    generalize firstNZ [a13 h,a13 k,a13 l]=ex at *
    generalize a13 h=eh at *
    generalize a13 k=ek at *
    generalize a13 l=el at *
    refine zen Tryz.func10 rfl Tryz.ntmps10 ?_
    intro w0 E0 hc
    repeat' (first|(with_reducible first|refine Wp_seq ?_|refine zr0 hc ?_|refine zm0 hc ?_|refine zwk ?_|refine Wp_block ?_|refine zgo ?_|refine zbn ?_|refine zge Tryz.results10 ?_|refine Sub.refl _|refine allP_nil|refine zoa1 (out':=?_) ?_|refine zca1 (y:=?_) ?_|refine zea1 (eo':=?_) ?_)|(with_reducible refine allP_cons ?_ ?_;focus (first|decide|omega))|(with_reducible first|refine zg2 ?_ ?_|refine zoc c_aw ?_ ?_|refine zoc c_sh ?_ ?_|refine zoc r_p ?_ ?_|refine zoc r_q ?_ ?_|refine zoc r_r ?_ ?_|refine zoc r_h ?_ ?_|refine zoc r_k ?_ ?_|refine zoc r_l ?_ ?_|refine zoc c_f ?_ ?_|refine zoc c_g ?_ ?_|refine zoc c_u ?_ ?_|refine zoc c_v ?_ ?_|refine zoc c_c ?_ ?_|refine zoc c_o ?_ ?_|refine zoc c_w ?_ ?_|refine zoc c_t ?_ ?_|refine zoc p_t ?_ ?_|refine zoc c_x ?_ ?_|refine zoc p_x ?_ ?_|refine zbo ?_|refine zg3 ?_ (fun h=>?_) (fun h=>?_)|refine zg4 (fun h=>?_) (fun h=>?_)|fail)|((first|omega|(refine nf1 ?_;with_reducible assumption)|(refine nf2 ?_;with_reducible assumption));done))
  obtain ⟨eh,hx2⟩:=a15 hx
  obtain ⟨ek,hx3⟩:=a15 hx2
  obtain ⟨el,_⟩:=a15 hx3
  rw [hx] at c_g
  rw [eh] at r_h c_g
  rw [ek] at r_k c_g
  rw [el] at r_l c_g
  rcases s8 eh ek el with ⟨c_x,r_x⟩|⟨_,_,_,_,_,_,_,c_x,r_x,p_x⟩
  · have p_x:=s7 7 (by decide) [] [] []
    refine zen Tryz.func10 rfl Tryz.ntmps10 ?_
    intro w0 E0 hc
    repeat' (first|(with_reducible first|refine Wp_seq ?_|refine zr0 hc ?_|refine zm0 hc ?_|refine zwk ?_|refine Wp_block ?_|refine zgo ?_|refine zbn ?_|refine zge Tryz.results10 ?_|refine Sub.refl _|refine allP_nil|refine zoa1 (out':=?_) ?_|refine zca1 (y:=?_) ?_|refine zea1 (eo':=?_) ?_)|(with_reducible refine allP_cons ?_ ?_;focus (first|decide|omega))|(with_reducible first|refine zg2 ?_ ?_|refine zoc c_aw ?_ ?_|refine zoc c_sh ?_ ?_|refine zoc r_p ?_ ?_|refine zoc r_q ?_ ?_|refine zoc r_r ?_ ?_|refine zoc r_h ?_ ?_|refine zoc r_k ?_ ?_|refine zoc r_l ?_ ?_|refine zoc c_f ?_ ?_|refine zoc c_g ?_ ?_|refine zoc c_u ?_ ?_|refine zoc c_v ?_ ?_|refine zoc c_c ?_ ?_|refine zoc c_o ?_ ?_|refine zoc c_w ?_ ?_|refine zoc c_t ?_ ?_|refine zoc p_t ?_ ?_|refine zoc c_x ?_ ?_|refine zoc r_x ?_ ?_|refine zoc p_x ?_ ?_|refine zbo ?_|refine zg3 ?_ (fun h=>?_) (fun h=>?_)|refine zg4 (fun h=>?_) (fun h=>?_)|fail)|((first|omega|(refine nf1 ?_;with_reducible assumption)|(refine nf2 ?_;with_reducible assumption));done))
  · have c_aw:=c_aw
    refine zen Tryz.func10 rfl Tryz.ntmps10 ?_
    intro w0 E0 hc
    repeat' (first|(with_reducible first|refine Wp_seq ?_|refine zr0 hc ?_|refine zm0 hc ?_|refine zwk ?_|refine Wp_block ?_|refine zgo ?_|refine zbn ?_|refine zge Tryz.results10 ?_|refine Sub.refl _|refine allP_nil|refine zoa1 (out':=?_) ?_|refine zca1 (y:=?_) ?_|refine zea1 (eo':=?_) ?_)|(with_reducible refine allP_cons ?_ ?_;focus (first|decide|omega))|(with_reducible first|refine zg2 ?_ ?_|refine zoc c_aw ?_ ?_|refine zoc c_sh ?_ ?_|refine zoc r_p ?_ ?_|refine zoc r_q ?_ ?_|refine zoc r_r ?_ ?_|refine zoc r_h ?_ ?_|refine zoc r_k ?_ ?_|refine zoc r_l ?_ ?_|refine zoc c_f ?_ ?_|refine zoc c_g ?_ ?_|refine zoc c_u ?_ ?_|refine zoc c_v ?_ ?_|refine zoc c_c ?_ ?_|refine zoc c_o ?_ ?_|refine zoc c_w ?_ ?_|refine zoc c_t ?_ ?_|refine zoc p_t ?_ ?_|refine zoc c_x ?_ ?_|refine zoc r_x ?_ ?_|refine zoc p_x ?_ ?_|refine zbo ?_|refine zg3 ?_ (fun h=>?_) (fun h=>?_)|refine zg4 (fun h=>?_) (fun h=>?_)|fail)|((first|omega|(refine nf1 ?_;with_reducible assumption)|(refine nf2 ?_;with_reducible assumption));done))
theorem a0o {p q r:V3} {h k l:H4} (hb:firstNZ [fstVec p,fstVec q,fstVec r]=0) {U V W:V3} (c_u:Ax.Pure Tryz.prog G 58 [txV q,txV p] (txV U)) (c_v:Ax.Pure Tryz.prog G 58 [txV r,txV p] (txV V)) (c_c:Ax.Pure Tryz.prog G 78 [txV U,txV V] (txV W)) (c_o:Ax.Pure Tryz.prog G 79 [txV W] (Bo false)) {t:ByteArray} {x y z:Int} {w:List UInt8} {e:Int} (c_d:Ax.Pure Tryz.prog G 76 [txV W,txV p] (S t))
    (c_m:Ax.Pure Tryz.prog G 40 [txV W,S t] (.tup [tH x y z w,N e])) (c_t:Ax.Pure Tryz.prog G 77 [txV p,txV q,txV r] (.tup [tH x y z w,N e])) (p_t:Ax.Pure Tryz.prog G 33 [tH x y z w,N e,N e,tH x y z w] (Bo true)) (sp:shortV p) (sq:shortV q) (sr:shortV r) (sh:a16 h) (sk:a16 k) (sl:a16 l) (lh:h.d.length≤20) (lk:k.d.length≤20) (ll:l.d.length≤20)
    (c_sh:Ax.Pure Tryz.prog G 36 [N 20,.one (.row 3 3 (fun i=> [leafV p,leafV q,leafV r].getD i []))] (Bo true)):Ax.Pure Tryz.prog G 10 [txT p q r h k l] (Bo true):=by
  have c_aw:=c_awake
  have z1:=bs_size h.d
  have z2:=bs_size k.d
  have z3:=bs_size l.d
  have r_p:=r9 sp
  have r_q:=r9 sq
  have r_r:=r9 sr
  have r_h:=a17 sh.2
  have r_k:=a17 sk.2
  have r_l:=a17 sl.2
  have c_f:=s6 (fstVec p) (fstVec q) (fstVec r)
  have c_g:=s6 (a13 h) (a13 k) (a13 l)
  obtain ⟨ep,hb2⟩:=a15 hb
  obtain ⟨eq,hb3⟩:=a15 hb2
  obtain ⟨er,_⟩:=a15 hb3
  rw [hb] at c_f
  rw [ep] at r_p c_f
  rw [eq] at r_q c_f
  rw [er] at r_r c_f
  have c_w:Ax.Pure Tryz.prog G 64 [Bo false,N 7] (N 0):=a0m false 7
  by_cases hx:firstNZ [a13 h,a13 k,a13 l]=0
  rotate_left
  · have c_x:=s5 h k l sh sk sl hx
    have p_x:=s7 _ hx [] [] []
    generalize firstNZ [a13 h,a13 k,a13 l]=ex at *
    generalize a13 h=eh at *
    generalize a13 k=ek at *
    generalize a13 l=el at *
    refine zen Tryz.func10 rfl Tryz.ntmps10 ?_
    intro w0 E0 hc
    repeat' (first|(with_reducible first|refine Wp_seq ?_|refine zr0 hc ?_|refine zm0 hc ?_|refine zwk ?_|refine Wp_block ?_|refine zgo ?_|refine zbn ?_|refine zge Tryz.results10 ?_|refine Sub.refl _|refine allP_nil|refine zoa1 (out':=?_) ?_|refine zca1 (y:=?_) ?_|refine zea1 (eo':=?_) ?_)|(with_reducible refine allP_cons ?_ ?_;focus (first|decide|omega))|(with_reducible first|refine zg2 ?_ ?_|refine zoc c_aw ?_ ?_|refine zoc c_sh ?_ ?_|refine zoc r_p ?_ ?_|refine zoc r_q ?_ ?_|refine zoc r_r ?_ ?_|refine zoc r_h ?_ ?_|refine zoc r_k ?_ ?_|refine zoc r_l ?_ ?_|refine zoc c_f ?_ ?_|refine zoc c_g ?_ ?_|refine zoc c_u ?_ ?_|refine zoc c_v ?_ ?_|refine zoc c_c ?_ ?_|refine zoc c_o ?_ ?_|refine zoc c_w ?_ ?_|refine zoc c_d ?_ ?_|refine zoc c_m ?_ ?_|refine zoc c_t ?_ ?_|refine zoc p_t ?_ ?_|refine zoc c_x ?_ ?_|refine zoc p_x ?_ ?_|refine zbo ?_|refine zg3 ?_ (fun h=>?_) (fun h=>?_)|refine zg4 (fun h=>?_) (fun h=>?_)|fail)|((first|omega|(refine nf1 ?_;with_reducible assumption)|(refine nf2 ?_;with_reducible assumption));done))
  obtain ⟨eh,hx2⟩:=a15 hx
  obtain ⟨ek,hx3⟩:=a15 hx2
  obtain ⟨el,_⟩:=a15 hx3
  rw [hx] at c_g
  rw [eh] at r_h c_g
  rw [ek] at r_k c_g
  rw [el] at r_l c_g
  rcases s8 eh ek el with ⟨c_x,r_x⟩|⟨_,_,_,_,_,_,_,c_x,r_x,p_x⟩
  · have p_x:=s7 7 (by decide) [] [] []
    refine zen Tryz.func10 rfl Tryz.ntmps10 ?_
    intro w0 E0 hc
    repeat' (first|(with_reducible first|refine Wp_seq ?_|refine zr0 hc ?_|refine zm0 hc ?_|refine zwk ?_|refine Wp_block ?_|refine zgo ?_|refine zbn ?_|refine zge Tryz.results10 ?_|refine Sub.refl _|refine allP_nil|refine zoa1 (out':=?_) ?_|refine zca1 (y:=?_) ?_|refine zea1 (eo':=?_) ?_)|(with_reducible refine allP_cons ?_ ?_;focus (first|decide|omega))|(with_reducible first|refine zg2 ?_ ?_|refine zoc c_aw ?_ ?_|refine zoc c_sh ?_ ?_|refine zoc r_p ?_ ?_|refine zoc r_q ?_ ?_|refine zoc r_r ?_ ?_|refine zoc r_h ?_ ?_|refine zoc r_k ?_ ?_|refine zoc r_l ?_ ?_|refine zoc c_f ?_ ?_|refine zoc c_g ?_ ?_|refine zoc c_u ?_ ?_|refine zoc c_v ?_ ?_|refine zoc c_c ?_ ?_|refine zoc c_o ?_ ?_|refine zoc c_w ?_ ?_|refine zoc c_d ?_ ?_|refine zoc c_m ?_ ?_|refine zoc c_t ?_ ?_|refine zoc p_t ?_ ?_|refine zoc c_x ?_ ?_|refine zoc r_x ?_ ?_|refine zoc p_x ?_ ?_|refine zbo ?_|refine zg3 ?_ (fun h=>?_) (fun h=>?_)|refine zg4 (fun h=>?_) (fun h=>?_)|fail)|((first|omega|(refine nf1 ?_;with_reducible assumption)|(refine nf2 ?_;with_reducible assumption));done))
  · have c_aw:=c_aw
    refine zen Tryz.func10 rfl Tryz.ntmps10 ?_
    intro w0 E0 hc
    repeat' (first|(with_reducible first|refine Wp_seq ?_|refine zr0 hc ?_|refine zm0 hc ?_|refine zwk ?_|refine Wp_block ?_|refine zgo ?_|refine zbn ?_|refine zge Tryz.results10 ?_|refine Sub.refl _|refine allP_nil|refine zoa1 (out':=?_) ?_|refine zca1 (y:=?_) ?_|refine zea1 (eo':=?_) ?_)|(with_reducible refine allP_cons ?_ ?_;focus (first|decide|omega))|(with_reducible first|refine zg2 ?_ ?_|refine zoc c_aw ?_ ?_|refine zoc c_sh ?_ ?_|refine zoc r_p ?_ ?_|refine zoc r_q ?_ ?_|refine zoc r_r ?_ ?_|refine zoc r_h ?_ ?_|refine zoc r_k ?_ ?_|refine zoc r_l ?_ ?_|refine zoc c_f ?_ ?_|refine zoc c_g ?_ ?_|refine zoc c_u ?_ ?_|refine zoc c_v ?_ ?_|refine zoc c_c ?_ ?_|refine zoc c_o ?_ ?_|refine zoc c_w ?_ ?_|refine zoc c_d ?_ ?_|refine zoc c_m ?_ ?_|refine zoc c_t ?_ ?_|refine zoc p_t ?_ ?_|refine zoc c_x ?_ ?_|refine zoc r_x ?_ ?_|refine zoc p_x ?_ ?_|refine zbo ?_|refine zg3 ?_ (fun h=>?_) (fun h=>?_)|refine zg4 (fun h=>?_) (fun h=>?_)|fail)|((first|omega|(refine nf1 ?_;with_reducible assumption)|(refine nf2 ?_;with_reducible assumption));done))
theorem a4d (p q r:V3) (h k l:H4) (hi:i64 h.x∧i64 h.y∧i64 h.z) (ki:i64 k.x∧i64 k.y∧i64 k.z) (li:i64 l.x∧i64 l.y∧i64 l.z):Ax.Pure Tryz.prog G 10 [txT p q r h k l] (Bo true):=by
  have c_sh:=a0n 20 (by decide) p q r
  have z1:=bs_size h.d
  have z2:=bs_size k.d
  have z3:=bs_size l.d
  by_cases hs:a2q 20 [p,q,r]=true
  · rw [hs] at c_sh
    by_cases hl:h.d.length≤20∧k.d.length≤20∧l.d.length≤20
    · obtain ⟨l1,l2,l3⟩:=hl
      have hs:shV 20 p∧shV 20 q∧shV 20 r:=by simpa [a2q] using hs
      have sp:=a2a hs.1 (by decide)
      have sq:=a2a hs.2.1 (by decide)
      have sr:=a2a hs.2.2 (by decide)
      have sh:a16 h:=⟨hi,Nat.le_trans l1 (by decide)⟩
      have sk:a16 k:=⟨ki,Nat.le_trans l2 (by decide)⟩
      have sl:a16 l:=⟨li,Nat.le_trans l3 (by decide)⟩
      by_cases hb:firstNZ [fstVec p,fstVec q,fstVec r]=0
      · obtain ⟨ep,hb2⟩:=a15 hb
        obtain ⟨eq,hb3⟩:=a15 hb2
        obtain ⟨er,_⟩:=a15 hb3
        obtain ⟨U,V,W,o,c_u,c_v,c_c,c_o,h1,h2⟩:=a0d ep eq er
        cases o
        · obtain ⟨t,x,y,z,w,e,c_d,c_m,c_t,p_t⟩:=h2 rfl
          exact a0o hb c_u c_v c_c c_o c_d c_m c_t p_t sp sq sr sh sk sl l1 l2 l3 c_sh
        · exact a0k hb c_u c_v c_c c_o (h1 rfl) sp sq sr sh sk sl l1 l2 l3 c_sh
      · exact a0v hb sp sq sr sh sk sl l1 l2 l3 c_sh
    · have c_aw:=c_awake
      refine zen Tryz.func10 rfl Tryz.ntmps10 ?_
      intro w0 E0 hc
      repeat' (first|(with_reducible first|refine Wp_seq ?_|refine zr0 hc ?_|refine zm0 hc ?_|refine zwk ?_|refine Wp_block ?_|refine zgo ?_|refine zbn ?_|refine zge Tryz.results10 ?_|refine Sub.refl _|refine allP_nil|refine zoa1 (out':=?_) ?_|refine zca1 (y:=?_) ?_|refine zea1 (eo':=?_) ?_)|(with_reducible refine allP_cons ?_ ?_;focus (first|decide|omega))|(with_reducible first|refine zg2 ?_ ?_|refine zoc c_aw ?_ ?_|refine zoc c_sh ?_ ?_|refine zbo ?_|refine zg3 ?_ (fun h=>?_) (fun h=>?_)|refine zg4 (fun h=>?_) (fun h=>?_)|fail)|((first|omega|(refine nf1 ?_;with_reducible assumption)|(refine nf2 ?_;with_reducible assumption));done))
  · have c_aw:=c_awake
    rw [Bool.eq_false_iff.2 hs] at c_sh
    refine zen Tryz.func10 rfl Tryz.ntmps10 ?_
    intro w0 E0 hc
    repeat' (first|(with_reducible first|refine Wp_seq ?_|refine zr0 hc ?_|refine zm0 hc ?_|refine zwk ?_|refine Wp_block ?_|refine zgo ?_|refine zbn ?_|refine zge Tryz.results10 ?_|refine Sub.refl _|refine allP_nil|refine zoa1 (out':=?_) ?_|refine zca1 (y:=?_) ?_|refine zea1 (eo':=?_) ?_)|(with_reducible refine allP_cons ?_ ?_;focus (first|decide|omega))|(with_reducible first|refine zg2 ?_ ?_|refine zoc c_aw ?_ ?_|refine zoc c_sh ?_ ?_|refine zbo ?_|refine zg3 ?_ (fun h=>?_) (fun h=>?_)|refine zg4 (fun h=>?_) (fun h=>?_)|fail)|((first|omega|(refine nf1 ?_;with_reducible assumption)|(refine nf2 ?_;with_reducible assumption));done))
end Go.Proofs
end
