/- Lemmas on the program and its library: part ZW36. -/
import Derived.Test.YtoiejgkkcfkliaaGreatDoorZW27
set_option linter.unusedVariables false
set_option linter.unusedSimpArgs false
section
set_option maxHeartbeats 4000000
set_option maxRecDepth 100000
namespace Go.Proofs
open Go.Ax
theorem Q_sgn {neg:Bool} {a b:Nat} {k:Nat} (hb:b≠0) (h1:a < 2 ^ k) (h2:b < 2 ^ k):Q k (Rat.divInt (if neg then -(a:Int) else a) (b:Int)):=
  Q_divInt (by omega) (by cases neg;exact nat_lt h1;exact (Int.natAbs_neg _).symm ▸ nat_lt h1) (nat_lt h2)
theorem valD_zl {l:List UInt8} {n:Nat} (h:isD l) (hl:l.length≤n):zl (valD l:Int)≤4*n:=zl_two (nat_lt (valD_bits h hl))
def prT (neg:Bool) (t:List UInt8):List UInt8:=(if neg then [45] else [])++t
theorem prT_parts (s:List UInt8):s=prT (isNeg s) (unsig s)∧(isNeg s=false→(unsig s).head?≠some 45):=by
  unfold prT isNeg unsig
  by_cases h:s.head?=some 45
  · refine ⟨?_,fun e=>absurd e (by rw [decide_eq_true h];decide)⟩
    rw [decide_eq_true h,if_pos h]
    cases s with
    | nil=>cases h
    | cons x l=>cases h;rfl
  · rw [decide_eq_false h,if_neg h]
    exact ⟨rfl,fun _=>h⟩
theorem c_CutNeg (neg:Bool) (t:List UInt8) (h45:neg=false→t.head?≠some 45):Ax.Pure Tryz.prog G 116 [S (bs (prT neg t)),S ⟨#[45]⟩] (.tup [S (bs t),Bo neg]):=by
  have h:=c_CutPrefix (bs (prT neg t)) ⟨#[45]⟩
  have e1:Lib.hasPrefix (prT neg t) [45]=neg:=by
    unfold prT
    rw [hasPrefix_one]
    cases neg
    · simpa using h45 rfl
    · rfl
  have e2:Lib.trimPrefix (prT neg t) [45]=t:=by
    cases neg
    · have e1:Lib.hasPrefix (prT false t) [45]=false:=e1
      unfold Lib.trimPrefix
      rw [e1];rfl
    · exact trimPrefix_neg t
  rw [show (bs (prT neg t)).data.toList=prT neg t from rfl,show (⟨#[45]⟩:ByteArray).data.toList= [45] from rfl,e1,e2] at h
  exact h
theorem prT_len (neg:Bool) (t:List UInt8):t.length≤(prT neg t).length:=by
  unfold prT;rw [List.length_append];omega
theorem s_Parse_long (l:List UInt8) (h:4096 < l.length):Ax.Pure Tryz.prog G 22 [S (bs l)] (.tup [S ⟨#[]⟩,N 29]):=by
  have hs:=bs_size l
  refine zen Tryz.func22 rfl Tryz.ntmps22 ?_
  intro w0 E0 hc
  repeat' (first|(with_reducible first|refine Wp_seq ?_|refine zr0 hc ?_|refine zm0 hc ?_|refine zwk ?_|refine Wp_block ?_|refine zgo ?_|refine zbn ?_|refine zge Tryz.results22 ?_|refine Sub.refl _|refine allP_nil|refine zoa1 (out':=?_) ?_|refine zca1 (y:=?_) ?_|refine zea1 (eo':=?_) ?_)|(with_reducible refine allP_cons ?_ ?_;focus (first|decide|omega))|(with_reducible first|refine zg2 ?_ ?_|refine zbo ?_|refine zg3 ?_ (fun h=>?_) (fun h=>?_)|refine zg4 (fun h=>?_) (fun h=>?_)|fail)|(omega;done))
def prQ (neg:Bool) (a b:Nat):Rat:=Rat.divInt (if neg then -(a:Int) else a) (b:Int)
def prR (neg:Bool) (a b:Nat):AV:=if b=0 then .tup [S ⟨#[]⟩,N 6] else .tup [S (bs (txl (bigQ (prQ neg a b)) (prQ neg a b))),N (exl (bigQ (prQ neg a b)))]
theorem up_2k {v m n:Nat} (h:v < 2 ^ (4*m)) (hmn:m≤n):v < 2 ^ (4*n):=Nat.lt_of_lt_of_le h (Nat.pow_le_pow_right (by decide) (Nat.mul_le_mul_left 4 hmn))
theorem zl_sgn {neg:Bool} {a:Nat} {k:Nat} (h:a < 2 ^ k):zl (if neg then -(a:Int) else a)≤k:=zl_two (by cases neg;exact nat_lt h;exact (Int.natAbs_neg _).symm ▸ nat_lt h)
theorem s_Parse_none (neg:Bool) (n:List UInt8) (h45:neg=false→n.head?≠some 45) (h46:(46:UInt8)∉n) (h47:(47:UInt8)∉n) (hl:(prT neg n).length≤4096) :
    Ax.Pure Tryz.prog G 22 [S (bs (prT neg n))] (if isD n∧n≠[] then prR neg (valD n) 1 else .tup [S ⟨#[]⟩,N 28]):=by
  have hs:=bs_size (prT neg n)
  have hnl:=Nat.le_trans (prT_len neg n) hl
  have c_cp:=c_CutNeg neg n h45
  have c_c1:=c_CutMiss n 46 h46
  have c_c2:=c_CutMiss n 47 h47
  have c_d:=c_digits n (by omega)
  by_cases h:isD n∧n≠[]
  · rw [if_pos h]
    rw [decide_eq_true h] at c_d
    obtain ⟨K,hK⟩:∃K:Nat,K=4*4096:=⟨_,rfl⟩
    have hv:valD n < 2 ^ K:=by rw [hK];exact valD_bits (n:=4096) h.1 hnl
    have hz:=valD_zl h.1 hnl
    have c_r:=c_Read n h.1 (by omega)
    have c_o:=c_Of 1 (by decide) (by decide)
    have c_s:Ax.Pure Tryz.prog G 128 [intA 1] (N 1):=c_Sign 1
    have c_n:=c_Neg (valD n:Int) (by omega)
    have z1:zl (1:Int)≤1:=zl_small (by decide)
    have c_m:Ax.Pure Tryz.prog G 131 [intA (if neg then -(valD n:Int) else valD n),intA 1] (fracA (prQ neg (valD n) 1)):=c_Make _ 1 (by decide) (Nat.le_trans (zl_sgn hv) (by omega)) (by omega)
    have c_g:=c_give (k:=K) (by omega) (prQ neg (valD n) 1) (Q_sgn (by decide) hv (Nat.one_lt_two_pow (by omega)))
    unfold prR
    rw [if_neg (by decide)]
    refine zen Tryz.func22 rfl Tryz.ntmps22 ?_
    intro w0 E0 hc
    cases neg
    · have c_m:Ax.Pure Tryz.prog G 131 [intA (valD n:Int),intA 1] _:=c_m
      repeat' (first|(with_reducible first|refine Wp_seq ?_|refine zr0 hc ?_|refine zm0 hc ?_|refine zwk ?_|refine Wp_block ?_|refine zgo ?_|refine zbn ?_|refine zge Tryz.results22 ?_|refine Sub.refl _|refine allP_nil|refine zoa1 (out':=?_) ?_|refine zca1 (y:=?_) ?_|refine zea1 (eo':=?_) ?_)|(with_reducible refine allP_cons ?_ ?_;focus (first|decide|omega))|(with_reducible first|refine zg2 ?_ ?_|refine zoc c_cp ?_ ?_|refine zoc c_c1 ?_ ?_|refine zoc c_c2 ?_ ?_|refine zoc c_d ?_ ?_|refine zoc c_r ?_ ?_|refine zoc c_o ?_ ?_|refine zoc c_s ?_ ?_|refine zoc c_m ?_ ?_|refine zoc c_g ?_ ?_|refine zbo ?_|refine zg3 ?_ (fun h=>?_) (fun h=>?_)|refine zg4 (fun h=>?_) (fun h=>?_)|fail)|((first|omega|(refine nf1 ?_;with_reducible assumption)|(refine nf2 ?_;with_reducible assumption));done))
    · have c_m:Ax.Pure Tryz.prog G 131 [intA (-(valD n:Int)),intA 1] _:=c_m
      repeat' (first|(with_reducible first|refine Wp_seq ?_|refine zr0 hc ?_|refine zm0 hc ?_|refine zwk ?_|refine Wp_block ?_|refine zgo ?_|refine zbn ?_|refine zge Tryz.results22 ?_|refine Sub.refl _|refine allP_nil|refine zoa1 (out':=?_) ?_|refine zca1 (y:=?_) ?_|refine zea1 (eo':=?_) ?_)|(with_reducible refine allP_cons ?_ ?_;focus (first|decide|omega))|(with_reducible first|refine zg2 ?_ ?_|refine zoc c_cp ?_ ?_|refine zoc c_c1 ?_ ?_|refine zoc c_c2 ?_ ?_|refine zoc c_d ?_ ?_|refine zoc c_r ?_ ?_|refine zoc c_o ?_ ?_|refine zoc c_s ?_ ?_|refine zoc c_n ?_ ?_|refine zoc c_m ?_ ?_|refine zoc c_g ?_ ?_|refine zbo ?_|refine zg3 ?_ (fun h=>?_) (fun h=>?_)|refine zg4 (fun h=>?_) (fun h=>?_)|fail)|((first|omega|(refine nf1 ?_;with_reducible assumption)|(refine nf2 ?_;with_reducible assumption));done))
  · rw [if_neg h]
    rw [decide_eq_false h] at c_d
    refine zen Tryz.func22 rfl Tryz.ntmps22 ?_
    intro w0 E0 hc
    repeat' (first|(with_reducible first|refine Wp_seq ?_|refine zr0 hc ?_|refine zm0 hc ?_|refine zwk ?_|refine Wp_block ?_|refine zgo ?_|refine zbn ?_|refine zge Tryz.results22 ?_|refine Sub.refl _|refine allP_nil|refine zoa1 (out':=?_) ?_|refine zca1 (y:=?_) ?_|refine zea1 (eo':=?_) ?_)|(with_reducible refine allP_cons ?_ ?_;focus (first|decide|omega))|(with_reducible first|refine zg2 ?_ ?_|refine zoc c_cp ?_ ?_|refine zoc c_c1 ?_ ?_|refine zoc c_c2 ?_ ?_|refine zoc c_d ?_ ?_|refine zbo ?_|refine zg3 ?_ (fun h=>?_) (fun h=>?_)|refine zg4 (fun h=>?_) (fun h=>?_)|fail)|((first|omega|(refine nf1 ?_;with_reducible assumption)|(refine nf2 ?_;with_reducible assumption));done))
theorem s_Parse_dot (neg:Bool) (n d:List UInt8) (h45:neg=false→(n++46 :: d).head?≠some 45) (h46:(46:UInt8)∉n) (hl:(prT neg (n++46 :: d)).length≤4096) :
    Ax.Pure Tryz.prog G 22 [S (bs (prT neg (n++46 :: d)))] (if (isD n∧n≠[])∧(isD d∧d≠[]) then prR neg (valD (n++d)) (10 ^ d.length) else .tup [S ⟨#[]⟩,N 28]):=by
  have hs:=bs_size (prT neg (n++46 :: d))
  have hnl:=Nat.le_trans (prT_len neg (n++46 :: d)) hl
  rw [List.length_append,List.length_cons] at hnl
  have c_cp:=c_CutNeg neg (n++46 :: d) h45
  have c_c1:=c_CutHit n d 46 h46 (by rw [List.length_append,List.length_cons];omega)
  have c_d1:=c_digits n (by omega)
  have c_d2:=c_digits d (by omega)
  have hsn:=bs_size n
  have hsd:=bs_size d
  by_cases h1:isD n∧n≠[]
  · rw [decide_eq_true h1] at c_d1
    by_cases h2:isD d∧d≠[]
    · rw [if_pos ⟨h1,h2⟩]
      rw [decide_eq_true h2] at c_d2
      have hD:isD (n++d):=isD_append.2 ⟨h1.1,h2.1⟩
      have hLL:(n++d).length≤4096:=by rw [List.length_append];omega
      have hv:=valD_bits (n:=4096) hD hLL
      have c_r:=c_Read n h1.1 (by omega)
      have c_r2:Ax.Pure Tryz.prog G 119 [S (bs n++bs d)] (intA (valD (n++d))):=by rw [bs_app];exact c_Read (n++d) hD (by omega)
      have S1:(bs n).size+(bs d).size≤9223372036854775807∧true=true:=⟨by omega,rfl⟩
      have c_o:=c_Of 1 (by decide) (by decide)
      have c_o2:=c_Of 10 (by decide) (by decide)
      have z10:zl (10:Int)≤1:=zl_small (by decide)
      have c_p:Ax.Pure Tryz.prog G 127 [intA 10,N ((bs d).size:Nat)] (intA ((10 ^ d.length:Nat):Int)):=by
        rw [hsd,Int.natCast_pow]
        exact c_Pow 10 d.length (by have:=Nat.mul_le_mul_left d.length z10;omega) (by omega)
      have hp:0 < 10 ^ d.length:=Nat.pow_pos (by decide)
      obtain ⟨K,hK⟩:∃K:Nat,K=4*4097:=⟨_,rfl⟩
      have hpz:10 ^ d.length < 2 ^ K:=by rw [hK];exact ten_two_lt (n:=4097) (by omega)
      have hv':valD (n++d) < 2 ^ K:=by rw [hK];exact up_2k (m:=4096) (n:=4097) hv (by decide)
      generalize hP:10 ^ d.length=P at *
      have c_s:Ax.Pure Tryz.prog G 128 [intA (P:Int)] (N 1):=by
        have:=c_Sign (P:Int)
        rwa [Int.sign_eq_one_of_pos (by omega)] at this
      have hz:zl (valD (n++d):Int)≤K:=zl_two (nat_lt hv')
      have c_n:=c_Neg (valD (n++d):Int) (by omega)
      have c_m:Ax.Pure Tryz.prog G 131 [intA (if neg then -(valD (n++d):Int) else valD (n++d)),intA (P:Int)] (fracA (prQ neg (valD (n++d)) P)):=c_Make _ (P:Int) (by omega) (Nat.le_trans (zl_sgn hv') (by omega)) (Nat.le_trans (zl_two (nat_lt hpz)) (by omega))
      have c_g:=c_give (k:=K) (by omega) (prQ neg (valD (n++d)) P) (Q_sgn (by omega) hv' hpz)
      unfold prR
      rw [if_neg (by omega)]
      refine zen Tryz.func22 rfl Tryz.ntmps22 ?_
      intro w0 E0 hc
      cases neg
      · have c_m:Ax.Pure Tryz.prog G 131 [intA (valD (n++d):Int),intA (P:Int)] _:=c_m
        repeat' (first|(with_reducible first|refine Wp_seq ?_|refine zr0 hc ?_|refine zm0 hc ?_|refine zwk ?_|refine Wp_block ?_|refine zgo ?_|refine zbn ?_|refine zge Tryz.results22 ?_|refine Sub.refl _|refine allP_nil|refine zoa1 (out':=?_) ?_|refine zca1 (y:=?_) ?_|refine zea1 (eo':=?_) ?_)|(with_reducible refine allP_cons ?_ ?_;focus (first|decide|omega))|(with_reducible first|refine zg2 ?_ ?_|refine zoc c_cp ?_ ?_|refine zoc c_c1 ?_ ?_|refine zoc c_d1 ?_ ?_|refine zoc c_d2 ?_ ?_|refine zoc c_r ?_ ?_|refine zoc c_r2 ?_ ?_|refine zoc c_o ?_ ?_|refine zoc c_o2 ?_ ?_|refine zoc c_p ?_ ?_|refine zoc c_s ?_ ?_|refine zoc c_m ?_ ?_|refine zoc c_g ?_ ?_|refine zbo ?_|refine zg3 ?_ (fun h=>?_) (fun h=>?_)|refine zg4 (fun h=>?_) (fun h=>?_)|fail)|((first|exact S1|omega|(refine nf1 ?_;with_reducible assumption)|(refine nf2 ?_;with_reducible assumption));done))
      · have c_m:Ax.Pure Tryz.prog G 131 [intA (-(valD (n++d):Int)),intA (P:Int)] _:=c_m
        repeat' (first|(with_reducible first|refine Wp_seq ?_|refine zr0 hc ?_|refine zm0 hc ?_|refine zwk ?_|refine Wp_block ?_|refine zgo ?_|refine zbn ?_|refine zge Tryz.results22 ?_|refine Sub.refl _|refine allP_nil|refine zoa1 (out':=?_) ?_|refine zca1 (y:=?_) ?_|refine zea1 (eo':=?_) ?_)|(with_reducible refine allP_cons ?_ ?_;focus (first|decide|omega))|(with_reducible first|refine zg2 ?_ ?_|refine zoc c_cp ?_ ?_|refine zoc c_c1 ?_ ?_|refine zoc c_d1 ?_ ?_|refine zoc c_d2 ?_ ?_|refine zoc c_r ?_ ?_|refine zoc c_r2 ?_ ?_|refine zoc c_o ?_ ?_|refine zoc c_o2 ?_ ?_|refine zoc c_p ?_ ?_|refine zoc c_s ?_ ?_|refine zoc c_n ?_ ?_|refine zoc c_m ?_ ?_|refine zoc c_g ?_ ?_|refine zbo ?_|refine zg3 ?_ (fun h=>?_) (fun h=>?_)|refine zg4 (fun h=>?_) (fun h=>?_)|fail)|((first|exact S1|omega|(refine nf1 ?_;with_reducible assumption)|(refine nf2 ?_;with_reducible assumption));done))
    · rw [if_neg (fun h=>h2 h.2)]
      rw [decide_eq_false h2] at c_d2
      refine zen Tryz.func22 rfl Tryz.ntmps22 ?_
      intro w0 E0 hc
      repeat' (first|(with_reducible first|refine Wp_seq ?_|refine zr0 hc ?_|refine zm0 hc ?_|refine zwk ?_|refine Wp_block ?_|refine zgo ?_|refine zbn ?_|refine zge Tryz.results22 ?_|refine Sub.refl _|refine allP_nil|refine zoa1 (out':=?_) ?_|refine zca1 (y:=?_) ?_|refine zea1 (eo':=?_) ?_)|(with_reducible refine allP_cons ?_ ?_;focus (first|decide|omega))|(with_reducible first|refine zg2 ?_ ?_|refine zoc c_cp ?_ ?_|refine zoc c_c1 ?_ ?_|refine zoc c_d1 ?_ ?_|refine zoc c_d2 ?_ ?_|refine zbo ?_|refine zg3 ?_ (fun h=>?_) (fun h=>?_)|refine zg4 (fun h=>?_) (fun h=>?_)|fail)|((first|omega|(refine nf1 ?_;with_reducible assumption)|(refine nf2 ?_;with_reducible assumption));done))
  · rw [if_neg (fun h=>h1 h.1)]
    rw [decide_eq_false h1] at c_d1
    refine zen Tryz.func22 rfl Tryz.ntmps22 ?_
    intro w0 E0 hc
    repeat' (first|(with_reducible first|refine Wp_seq ?_|refine zr0 hc ?_|refine zm0 hc ?_|refine zwk ?_|refine Wp_block ?_|refine zgo ?_|refine zbn ?_|refine zge Tryz.results22 ?_|refine Sub.refl _|refine allP_nil|refine zoa1 (out':=?_) ?_|refine zca1 (y:=?_) ?_|refine zea1 (eo':=?_) ?_)|(with_reducible refine allP_cons ?_ ?_;focus (first|decide|omega))|(with_reducible first|refine zg2 ?_ ?_|refine zoc c_cp ?_ ?_|refine zoc c_c1 ?_ ?_|refine zoc c_d1 ?_ ?_|refine zbo ?_|refine zg3 ?_ (fun h=>?_) (fun h=>?_)|refine zg4 (fun h=>?_) (fun h=>?_)|fail)|((first|omega|(refine nf1 ?_;with_reducible assumption)|(refine nf2 ?_;with_reducible assumption));done))
theorem s_Parse_slash (neg:Bool) (n d:List UInt8) (h45:neg=false→(n++47 :: d).head?≠some 45) (h46:(46:UInt8)∉n++47 :: d) (h47:(47:UInt8)∉n) (hl:(prT neg (n++47 :: d)).length≤4096) :
    Ax.Pure Tryz.prog G 22 [S (bs (prT neg (n++47 :: d)))] (if (isD n∧n≠[])∧(isD d∧d≠[]) then prR neg (valD n) (valD d) else .tup [S ⟨#[]⟩,N 28]):=by
  have hs:=bs_size (prT neg (n++47 :: d))
  have hnl:=Nat.le_trans (prT_len neg (n++47 :: d)) hl
  rw [List.length_append,List.length_cons] at hnl
  have c_cp:=c_CutNeg neg (n++47 :: d) h45
  have c_c1:=c_CutMiss (n++47 :: d) 46 h46
  have c_c2:=c_CutHit n d 47 h47 (by rw [List.length_append,List.length_cons];omega)
  have c_d1:=c_digits n (by omega)
  have c_d2:=c_digits d (by omega)
  by_cases h1:isD n∧n≠[]
  · rw [decide_eq_true h1] at c_d1
    by_cases h2:isD d∧d≠[]
    · rw [if_pos ⟨h1,h2⟩]
      rw [decide_eq_true h2] at c_d2
      obtain ⟨K,hK⟩:∃K:Nat,K=4*4096:=⟨_,rfl⟩
      have hv:valD n < 2 ^ K:=by rw [hK];exact valD_bits (n:=4096) h1.1 (show n.length≤4096 by omega)
      have hw:valD d < 2 ^ K:=by rw [hK];exact valD_bits (n:=4096) h2.1 (show d.length≤4096 by omega)
      have c_r:=c_Read n h1.1 (by omega)
      have c_r2:=c_Read d h2.1 (by omega)
      have c_o:=c_Of 1 (by decide) (by decide)
      have hz:=valD_zl h1.1 (show n.length≤4096 by omega)
      have c_n:=c_Neg (valD n:Int) (by omega)
      generalize valD n=a at *
      generalize valD d=b at *
      have c_s:=c_Sign (b:Int)
      unfold prR
      by_cases h0:b=0
      · rw [if_pos h0]
        subst h0
        have c_s:Ax.Pure Tryz.prog G 128 [intA ((0:Nat):Int)] (N 0):=c_s
        refine zen Tryz.func22 rfl Tryz.ntmps22 ?_
        intro w0 E0 hc
        repeat' (first|(with_reducible first|refine Wp_seq ?_|refine zr0 hc ?_|refine zm0 hc ?_|refine zwk ?_|refine Wp_block ?_|refine zgo ?_|refine zbn ?_|refine zge Tryz.results22 ?_|refine Sub.refl _|refine allP_nil|refine zoa1 (out':=?_) ?_|refine zca1 (y:=?_) ?_|refine zea1 (eo':=?_) ?_)|(with_reducible refine allP_cons ?_ ?_;focus (first|decide|omega))|(with_reducible first|refine zg2 ?_ ?_|refine zoc c_cp ?_ ?_|refine zoc c_c1 ?_ ?_|refine zoc c_c2 ?_ ?_|refine zoc c_d1 ?_ ?_|refine zoc c_d2 ?_ ?_|refine zoc c_r ?_ ?_|refine zoc c_r2 ?_ ?_|refine zoc c_o ?_ ?_|refine zoc c_s ?_ ?_|refine zbo ?_|refine zg3 ?_ (fun h=>?_) (fun h=>?_)|refine zg4 (fun h=>?_) (fun h=>?_)|fail)|((first|omega|(refine nf1 ?_;with_reducible assumption)|(refine nf2 ?_;with_reducible assumption));done))
      · rw [if_neg h0]
        rw [Int.sign_eq_one_of_pos (by omega)] at c_s
        have c_m:Ax.Pure Tryz.prog G 131 [intA (if neg then -(a:Int) else a),intA (b:Int)] (fracA (prQ neg a b)):=c_Make _ (b:Int) (by omega) (Nat.le_trans (zl_sgn hv) (by omega)) (Nat.le_trans (zl_two (nat_lt hw)) (by omega))
        have c_g:=c_give (k:=K) (by omega) (prQ neg a b) (Q_sgn h0 hv hw)
        refine zen Tryz.func22 rfl Tryz.ntmps22 ?_
        intro w0 E0 hc
        cases neg
        · have c_m:Ax.Pure Tryz.prog G 131 [intA (a:Int),intA (b:Int)] _:=c_m
          repeat' (first|(with_reducible first|refine Wp_seq ?_|refine zr0 hc ?_|refine zm0 hc ?_|refine zwk ?_|refine Wp_block ?_|refine zgo ?_|refine zbn ?_|refine zge Tryz.results22 ?_|refine Sub.refl _|refine allP_nil|refine zoa1 (out':=?_) ?_|refine zca1 (y:=?_) ?_|refine zea1 (eo':=?_) ?_)|(with_reducible refine allP_cons ?_ ?_;focus (first|decide|omega))|(with_reducible first|refine zg2 ?_ ?_|refine zoc c_cp ?_ ?_|refine zoc c_c1 ?_ ?_|refine zoc c_c2 ?_ ?_|refine zoc c_d1 ?_ ?_|refine zoc c_d2 ?_ ?_|refine zoc c_r ?_ ?_|refine zoc c_r2 ?_ ?_|refine zoc c_o ?_ ?_|refine zoc c_s ?_ ?_|refine zoc c_m ?_ ?_|refine zoc c_g ?_ ?_|refine zbo ?_|refine zg3 ?_ (fun h=>?_) (fun h=>?_)|refine zg4 (fun h=>?_) (fun h=>?_)|fail)|((first|omega|(refine nf1 ?_;with_reducible assumption)|(refine nf2 ?_;with_reducible assumption));done))
        · have c_m:Ax.Pure Tryz.prog G 131 [intA (-(a:Int)),intA (b:Int)] _:=c_m
          repeat' (first|(with_reducible first|refine Wp_seq ?_|refine zr0 hc ?_|refine zm0 hc ?_|refine zwk ?_|refine Wp_block ?_|refine zgo ?_|refine zbn ?_|refine zge Tryz.results22 ?_|refine Sub.refl _|refine allP_nil|refine zoa1 (out':=?_) ?_|refine zca1 (y:=?_) ?_|refine zea1 (eo':=?_) ?_)|(with_reducible refine allP_cons ?_ ?_;focus (first|decide|omega))|(with_reducible first|refine zg2 ?_ ?_|refine zoc c_cp ?_ ?_|refine zoc c_c1 ?_ ?_|refine zoc c_c2 ?_ ?_|refine zoc c_d1 ?_ ?_|refine zoc c_d2 ?_ ?_|refine zoc c_r ?_ ?_|refine zoc c_r2 ?_ ?_|refine zoc c_o ?_ ?_|refine zoc c_s ?_ ?_|refine zoc c_n ?_ ?_|refine zoc c_m ?_ ?_|refine zoc c_g ?_ ?_|refine zbo ?_|refine zg3 ?_ (fun h=>?_) (fun h=>?_)|refine zg4 (fun h=>?_) (fun h=>?_)|fail)|((first|omega|(refine nf1 ?_;with_reducible assumption)|(refine nf2 ?_;with_reducible assumption));done))
    · rw [if_neg (fun h=>h2 h.2)]
      rw [decide_eq_false h2] at c_d2
      refine zen Tryz.func22 rfl Tryz.ntmps22 ?_
      intro w0 E0 hc
      repeat' (first|(with_reducible first|refine Wp_seq ?_|refine zr0 hc ?_|refine zm0 hc ?_|refine zwk ?_|refine Wp_block ?_|refine zgo ?_|refine zbn ?_|refine zge Tryz.results22 ?_|refine Sub.refl _|refine allP_nil|refine zoa1 (out':=?_) ?_|refine zca1 (y:=?_) ?_|refine zea1 (eo':=?_) ?_)|(with_reducible refine allP_cons ?_ ?_;focus (first|decide|omega))|(with_reducible first|refine zg2 ?_ ?_|refine zoc c_cp ?_ ?_|refine zoc c_c1 ?_ ?_|refine zoc c_c2 ?_ ?_|refine zoc c_d1 ?_ ?_|refine zoc c_d2 ?_ ?_|refine zbo ?_|refine zg3 ?_ (fun h=>?_) (fun h=>?_)|refine zg4 (fun h=>?_) (fun h=>?_)|fail)|((first|omega|(refine nf1 ?_;with_reducible assumption)|(refine nf2 ?_;with_reducible assumption));done))
  · rw [if_neg (fun h=>h1 h.1)]
    rw [decide_eq_false h1] at c_d1
    refine zen Tryz.func22 rfl Tryz.ntmps22 ?_
    intro w0 E0 hc
    repeat' (first|(with_reducible first|refine Wp_seq ?_|refine zr0 hc ?_|refine zm0 hc ?_|refine zwk ?_|refine Wp_block ?_|refine zgo ?_|refine zbn ?_|refine zge Tryz.results22 ?_|refine Sub.refl _|refine allP_nil|refine zoa1 (out':=?_) ?_|refine zca1 (y:=?_) ?_|refine zea1 (eo':=?_) ?_)|(with_reducible refine allP_cons ?_ ?_;focus (first|decide|omega))|(with_reducible first|refine zg2 ?_ ?_|refine zoc c_cp ?_ ?_|refine zoc c_c1 ?_ ?_|refine zoc c_c2 ?_ ?_|refine zoc c_d1 ?_ ?_|refine zbo ?_|refine zg3 ?_ (fun h=>?_) (fun h=>?_)|refine zg4 (fun h=>?_) (fun h=>?_)|fail)|((first|omega|(refine nf1 ?_;with_reducible assumption)|(refine nf2 ?_;with_reducible assumption));done))
theorem s_Of (n d:Int) (h:i64 n∧i64 d):Ax.Pure Tryz.prog G 24 [N n,N d] (if d=0 then .tup [S ⟨#[]⟩,N 6] else .tup [S (bs (txl (bigQ (Rat.divInt n d)) (Rat.divInt n d))),N (exl (bigQ (Rat.divInt n d)))]):=by
  by_cases h0:d=0
  · rw [if_pos h0]
    subst h0
    refine zen Tryz.func24 rfl Tryz.ntmps24 ?_
    intro w0 E0 hc
    repeat' (first|(with_reducible first|refine Wp_seq ?_|refine zr0 hc ?_|refine zm0 hc ?_|refine zwk ?_|refine Wp_block ?_|refine zgo ?_|refine zbn ?_|refine zge Tryz.results24 ?_|refine Sub.refl _|refine allP_nil|refine zoa1 (out':=?_) ?_|refine zca1 (y:=?_) ?_|refine zea1 (eo':=?_) ?_)|(with_reducible refine allP_cons ?_ ?_;focus (first|decide|omega))|(with_reducible first|refine zg2 ?_ ?_|refine zbo ?_|refine zg3 ?_ (fun h=>?_) (fun h=>?_)|refine zg4 (fun h=>?_) (fun h=>?_)|fail)|(omega;done))
  · rw [if_neg h0]
    obtain ⟨⟨h1,h2⟩,h3,h4⟩:=h
    have c_n:=c_Of n h1 h2
    have c_d:=c_Of d h3 h4
    have l1 : n.natAbs < 2 ^ 64 := by have : 2 ^ 64 = 18446744073709551616 := by decide
                                      omega
    have l2 : d.natAbs < 2 ^ 64 := by have : 2 ^ 64 = 18446744073709551616 := by decide
                                      omega
    have c_m:=c_Make n d h0 (Nat.le_trans (zl_two l1) (by decide)) (Nat.le_trans (zl_two l2) (by decide))
    have c_g:=c_give (k:=64) (by decide) (Rat.divInt n d) (Q_divInt h0 l1 l2)
    refine zen Tryz.func24 rfl Tryz.ntmps24 ?_
    intro w0 E0 hc
    repeat' (first|(with_reducible first|refine Wp_seq ?_|refine zr0 hc ?_|refine zm0 hc ?_|refine zwk ?_|refine Wp_block ?_|refine zgo ?_|refine zbn ?_|refine zge Tryz.results24 ?_|refine Sub.refl _|refine allP_nil|refine zoa1 (out':=?_) ?_|refine zca1 (y:=?_) ?_|refine zea1 (eo':=?_) ?_)|(with_reducible refine allP_cons ?_ ?_;focus (first|decide|omega))|(with_reducible first|refine zg2 ?_ ?_|refine zoc c_n ?_ ?_|refine zoc c_d ?_ ?_|refine zoc c_m ?_ ?_|refine zoc c_g ?_ ?_|refine zbo ?_|refine zg3 ?_ (fun h=>?_) (fun h=>?_)|refine zg4 (fun h=>?_) (fun h=>?_)|fail)|((first|omega|(refine nf1 ?_;with_reducible assumption)|(refine nf2 ?_;with_reducible assumption));done))
end Go.Proofs
end
