/- Lemmas on the program and its library: part VW36. -/
import Derived.Test.YtoiejgkkcfkliaaGreatDoorZW27
set_option linter.unusedVariables false
set_option linter.unusedSimpArgs false
section
set_option maxHeartbeats 4000000
set_option maxRecDepth 100000
namespace Go.Proofs
open Go.Ax
theorem Q_sgn {neg:Bool} {a b:Nat} {k:Nat} (hb:b≠0) (h1:a < 2 ^ k) (h2:b < 2 ^ k):Q k (Rat.divInt (if neg then -(a:Int) else a) (b:Int)):=
  Q_divInt (by omega) (by cases neg;exact nat_lt h1;exact (Int.natAbs_neg _).symm ▸ nat_lt h1) (nat_lt h2)
def prT (neg:Bool) (t:List UInt8):List UInt8:=(if neg then [45] else [])++t
theorem c_CutNeg (neg:Bool) (t:List UInt8) (h45:neg=false→t.head?≠some 45):Ax.Pure Tryz.prog G 116 [S (bs (prT neg t)),S ⟨#[45]⟩] (.tup [S (bs t),Bo neg]):=by
  have h:=c_CutPrefix (bs (prT neg t)) ⟨#[45]⟩
  have e1:Lib.hasPrefix (prT neg t) [45]=neg:=by
    unfold prT
    rw [hasPrefix_one]
    cases neg
    · simpa using h45 rfl
    · rfl
  have e2:Lib.trimPrefix (prT neg t) [45]=t:=by
    cases neg
    · have e1:Lib.hasPrefix (prT false t) [45]=false:=e1
      unfold Lib.trimPrefix
      rw [e1];rfl
    · exact trimPrefix_neg t
  rw [show (bs (prT neg t)).data.toList=prT neg t from rfl,show (⟨#[45]⟩:ByteArray).data.toList= [45] from rfl,e1,e2] at h
  exact h
theorem prT_len (neg:Bool) (t:List UInt8):t.length≤(prT neg t).length:=by
  unfold prT;rw [List.length_append];omega
def prQ (neg:Bool) (a b:Nat):Rat:=Rat.divInt (if neg then -(a:Int) else a) (b:Int)
def prR (neg:Bool) (a b:Nat):AV:=if b=0 then .tup [S ⟨#[]⟩,N 6] else .tup [S (bs (txl (bigQ (prQ neg a b)) (prQ neg a b))),N (exl (bigQ (prQ neg a b)))]
theorem up_2k {v m n:Nat} (h:v < 2 ^ (4*m)) (hmn:m≤n):v < 2 ^ (4*n):=Nat.lt_of_lt_of_le h (Nat.pow_le_pow_right (by decide) (Nat.mul_le_mul_left 4 hmn))
theorem zl_sgn {neg:Bool} {a:Nat} {k:Nat} (h:a < 2 ^ k):zl (if neg then -(a:Int) else a)≤k:=zl_two (by cases neg;exact nat_lt h;exact (Int.natAbs_neg _).symm ▸ nat_lt h)
theorem s_Parse_dot (neg:Bool) (n d:List UInt8) (h45:neg=false→(n++46 :: d).head?≠some 45) (h46:(46:UInt8)∉n) (hl:(prT neg (n++46 :: d)).length≤4096) :
    Ax.Pure Tryz.prog G 22 [S (bs (prT neg (n++46 :: d)))] (if (isD n∧n≠[])∧(isD d∧d≠[]) then prR neg (valD (n++d)) (10 ^ d.length) else .tup [S ⟨#[]⟩,N 28]):=by
  have hs:=bs_size (prT neg (n++46 :: d))
  have hnl:=Nat.le_trans (prT_len neg (n++46 :: d)) hl
  rw [List.length_append,List.length_cons] at hnl
  have c_cp:=c_CutNeg neg (n++46 :: d) h45
  have c_c1:=c_CutHit n d 46 h46 (by rw [List.length_append,List.length_cons];omega)
  have c_d1:=c_digits n (by omega)
  have c_d2:=c_digits d (by omega)
  have hsn:=bs_size n
  have hsd:=bs_size d
  by_cases h1:isD n∧n≠[]
  · rw [decide_eq_true h1] at c_d1
    by_cases h2:isD d∧d≠[]
    · rw [if_pos ⟨h1,h2⟩]
      rw [decide_eq_true h2] at c_d2
      have hD:isD (n++d):=isD_append.2 ⟨h1.1,h2.1⟩
      have hLL:(n++d).length≤4096:=by rw [List.length_append];omega
      have hv:=valD_bits (n:=4096) hD hLL
      have c_r:=c_Read n h1.1 (by omega)
      have c_r2:Ax.Pure Tryz.prog G 119 [S (bs n++bs d)] (intA (valD (n++d))):=by rw [bs_app];exact c_Read (n++d) hD (by omega)
      have S1:(bs n).size+(bs d).size≤9223372036854775807∧true=true:=⟨by omega,rfl⟩
      have c_o:=c_Of 1 (by decide) (by decide)
      have c_o2:=c_Of 10 (by decide) (by decide)
      have z10:zl (10:Int)≤1:=zl_small (by decide)
      have c_p:Ax.Pure Tryz.prog G 127 [intA 10,N ((bs d).size:Nat)] (intA ((10 ^ d.length:Nat):Int)):=by
        rw [hsd,Int.natCast_pow]
        exact c_Pow 10 d.length (by have:=Nat.mul_le_mul_left d.length z10;omega) (by omega)
      have hp:0 < 10 ^ d.length:=Nat.pow_pos (by decide)
      obtain ⟨K,hK⟩:∃K:Nat,K=4*4097:=⟨_,rfl⟩
      have hpz:10 ^ d.length < 2 ^ K:=by rw [hK];exact ten_two_lt (n:=4097) (by omega)
      have hv':valD (n++d) < 2 ^ K:=by rw [hK];exact up_2k (m:=4096) (n:=4097) hv (by decide)
      generalize hP:10 ^ d.length=P at *
      have c_s:Ax.Pure Tryz.prog G 128 [intA (P:Int)] (N 1):=by
        have:=c_Sign (P:Int)
        rwa [Int.sign_eq_one_of_pos (by omega)] at this
      have hz:zl (valD (n++d):Int)≤K:=zl_two (nat_lt hv')
      have c_n:=c_Neg (valD (n++d):Int) (by omega)
      have c_m:Ax.Pure Tryz.prog G 131 [intA (if neg then -(valD (n++d):Int) else valD (n++d)),intA (P:Int)] (fracA (prQ neg (valD (n++d)) P)):=c_Make _ (P:Int) (by omega) (Nat.le_trans (zl_sgn hv') (by omega)) (Nat.le_trans (zl_two (nat_lt hpz)) (by omega))
      have c_g:=c_give (k:=K) (by omega) (prQ neg (valD (n++d)) P) (Q_sgn (by omega) hv' hpz)
      unfold prR
      rw [if_neg (by omega)]
      refine zen Tryz.func22 rfl Tryz.ntmps22 ?_
      intro w0 E0 hc
      cases neg
      · have c_m:Ax.Pure Tryz.prog G 131 [intA (valD (n++d):Int),intA (P:Int)] _:=c_m
        repeat' (first|(with_reducible first|refine Wp_seq ?_|refine zr0 hc ?_|refine zm0 hc ?_|refine zwk ?_|refine Wp_block ?_|refine zgo ?_|refine zbn ?_|refine zge Tryz.results22 ?_|refine Sub.refl _|refine allP_nil|refine zoa1 (out':=?_) ?_|refine zca1 (y:=?_) ?_|refine zea1 (eo':=?_) ?_)|(with_reducible refine allP_cons ?_ ?_;focus (first|decide|omega))|(with_reducible first|refine zg2 ?_ ?_|refine zoc c_cp ?_ ?_|refine zoc c_c1 ?_ ?_|refine zoc c_d1 ?_ ?_|refine zoc c_d2 ?_ ?_|refine zoc c_r ?_ ?_|refine zoc c_r2 ?_ ?_|refine zoc c_o ?_ ?_|refine zoc c_o2 ?_ ?_|refine zoc c_p ?_ ?_|refine zoc c_s ?_ ?_|refine zoc c_m ?_ ?_|refine zoc c_g ?_ ?_|refine zbo ?_|refine zg3 ?_ (fun h=>?_) (fun h=>?_)|refine zg4 (fun h=>?_) (fun h=>?_)|fail)|((first|exact S1|omega|(refine nf1 ?_;with_reducible assumption)|(refine nf2 ?_;with_reducible assumption));done))
      · have c_m:Ax.Pure Tryz.prog G 131 [intA (-(valD (n++d):Int)),intA (P:Int)] _:=c_m
        repeat' (first|(with_reducible first|refine Wp_seq ?_|refine zr0 hc ?_|refine zm0 hc ?_|refine zwk ?_|refine Wp_block ?_|refine zgo ?_|refine zbn ?_|refine zge Tryz.results22 ?_|refine Sub.refl _|refine allP_nil|refine zoa1 (out':=?_) ?_|refine zca1 (y:=?_) ?_|refine zea1 (eo':=?_) ?_)|(with_reducible refine allP_cons ?_ ?_;focus (first|decide|omega))|(with_reducible first|refine zg2 ?_ ?_|refine zoc c_cp ?_ ?_|refine zoc c_c1 ?_ ?_|refine zoc c_d1 ?_ ?_|refine zoc c_d2 ?_ ?_|refine zoc c_r ?_ ?_|refine zoc c_r2 ?_ ?_|refine zoc c_o ?_ ?_|refine zoc c_o2 ?_ ?_|refine zoc c_p ?_ ?_|refine zoc c_s ?_ ?_|refine zoc c_n ?_ ?_|refine zoc c_m ?_ ?_|refine zoc c_g ?_ ?_|refine zbo ?_|refine zg3 ?_ (fun h=>?_) (fun h=>?_)|refine zg4 (fun h=>?_) (fun h=>?_)|fail)|((first|exact S1|omega|(refine nf1 ?_;with_reducible assumption)|(refine nf2 ?_;with_reducible assumption));done))
    · rw [if_neg (fun h=>h2 h.2)]
      rw [decide_eq_false h2] at c_d2
      refine zen Tryz.func22 rfl Tryz.ntmps22 ?_
      intro w0 E0 hc
      repeat' (first|(with_reducible first|refine Wp_seq ?_|refine zr0 hc ?_|refine zm0 hc ?_|refine zwk ?_|refine Wp_block ?_|refine zgo ?_|refine zbn ?_|refine zge Tryz.results22 ?_|refine Sub.refl _|refine allP_nil|refine zoa1 (out':=?_) ?_|refine zca1 (y:=?_) ?_|refine zea1 (eo':=?_) ?_)|(with_reducible refine allP_cons ?_ ?_;focus (first|decide|omega))|(with_reducible first|refine zg2 ?_ ?_|refine zoc c_cp ?_ ?_|refine zoc c_c1 ?_ ?_|refine zoc c_d1 ?_ ?_|refine zoc c_d2 ?_ ?_|refine zbo ?_|refine zg3 ?_ (fun h=>?_) (fun h=>?_)|refine zg4 (fun h=>?_) (fun h=>?_)|fail)|((first|omega|(refine nf1 ?_;with_reducible assumption)|(refine nf2 ?_;with_reducible assumption));done))
  · rw [if_neg (fun h=>h1 h.1)]
    rw [decide_eq_false h1] at c_d1
    refine zen Tryz.func22 rfl Tryz.ntmps22 ?_
    intro w0 E0 hc
    repeat' (first|(with_reducible first|refine Wp_seq ?_|refine zr0 hc ?_|refine zm0 hc ?_|refine zwk ?_|refine Wp_block ?_|refine zgo ?_|refine zbn ?_|refine zge Tryz.results22 ?_|refine Sub.refl _|refine allP_nil|refine zoa1 (out':=?_) ?_|refine zca1 (y:=?_) ?_|refine zea1 (eo':=?_) ?_)|(with_reducible refine allP_cons ?_ ?_;focus (first|decide|omega))|(with_reducible first|refine zg2 ?_ ?_|refine zoc c_cp ?_ ?_|refine zoc c_c1 ?_ ?_|refine zoc c_d1 ?_ ?_|refine zbo ?_|refine zg3 ?_ (fun h=>?_) (fun h=>?_)|refine zg4 (fun h=>?_) (fun h=>?_)|fail)|((first|omega|(refine nf1 ?_;with_reducible assumption)|(refine nf2 ?_;with_reducible assumption));done))
end Go.Proofs
end
