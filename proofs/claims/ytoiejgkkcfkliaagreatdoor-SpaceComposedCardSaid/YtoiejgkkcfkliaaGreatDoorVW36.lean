/- Lemmas on the program and its library: part VW36. -/
import Derived.Test.YtoiejgkkcfkliaaGreatDoorZW27
set_option linter.unusedVariables false
set_option linter.unusedSimpArgs false
section
set_option maxHeartbeats 4000000
set_option maxRecDepth 100000
namespace Go.Proofs
open Go.Ax
theorem Q_sgn {neg:Bool} {a b:Nat} {k:Nat} (hb:b≠0) (h1:a < 2 ^ k) (h2:b < 2 ^ k):Q k (Rat.divInt (if neg then -(a:Int) else a) (b:Int)):=
  b4f (by omega) (by cases neg;exact b3x h1;exact (Int.natAbs_neg _).symm ▸ b3x h1) (b3x h2)
def prT (neg:Bool) (t:List UInt8):List UInt8:=(if neg then [45] else [])++t
theorem d4y (neg:Bool) (t:List UInt8) (h45:neg=false→t.head?≠some 45):Ax.Pure Tryz.prog G 116 [S (bs (prT neg t)),S ⟨#[45]⟩] (.tup [S (bs t),Bo neg]):=by
  have h:=b7t (bs (prT neg t)) ⟨#[45]⟩
  have e1:Lib.hasPrefix (prT neg t) [45]=neg:=by
    unfold prT
    rw [a5m]
    cases neg
    · simpa using h45 rfl
    · rfl
  have e2:Lib.trimPrefix (prT neg t) [45]=t:=by
    cases neg
    · have e1:Lib.hasPrefix (prT false t) [45]=false:=e1
      unfold Lib.trimPrefix
      rw [e1];rfl
    · exact a4w t
  rw [show (bs (prT neg t)).data.toList=prT neg t from rfl,show (⟨#[45]⟩:ByteArray).data.toList= [45] from rfl,e1,e2] at h
  exact h
theorem d88 (neg:Bool) (t:List UInt8):t.length≤(prT neg t).length:=by
  unfold prT;rw [List.length_append];omega
def prQ (neg:Bool) (a b:Nat):Rat:=Rat.divInt (if neg then -(a:Int) else a) (b:Int)
def prR (neg:Bool) (a b:Nat):AV:=if b=0 then .tup [S ⟨#[]⟩,N 6] else .tup [S (bs (txl (y4 (prQ neg a b)) (prQ neg a b))),N (exl (y4 (prQ neg a b)))]
theorem up_2k {v m n:Nat} (h:v < 2 ^ (4*m)) (hmn:m≤n):v < 2 ^ (4*n):=Nat.lt_of_lt_of_le h (Nat.pow_le_pow_right (by decide) (Nat.mul_le_mul_left 4 hmn))
theorem e2f {neg:Bool} {a:Nat} {k:Nat} (h:a < 2 ^ k):zl (if neg then -(a:Int) else a)≤k:=b4e (by cases neg;exact b3x h;exact (Int.natAbs_neg _).symm ▸ b3x h)
theorem c7b (neg:Bool) (n d:List UInt8) (h45:neg=false→(n++46 :: d).head?≠some 45) (h46:(46:UInt8)∉n) (hl:(prT neg (n++46 :: d)).length≤4096) :
    Ax.Pure Tryz.prog G 22 [S (bs (prT neg (n++46 :: d)))] (if (isD n∧n≠[])∧(isD d∧d≠[]) then prR neg (n6 (n++d)) (10 ^ d.length) else .tup [S ⟨#[]⟩,N 28]):=by
  have hs:=m6 (prT neg (n++46 :: d))
  have hnl:=Nat.le_trans (d88 neg (n++46 :: d)) hl
  rw [List.length_append,List.length_cons] at hnl
  have c_cp:=d4y neg (n++46 :: d) h45
  have c_c1:=b9d n d 46 h46 (by rw [List.length_append,List.length_cons];omega)
  have c_d1:=b9i n (by omega)
  have c_d2:=b9i d (by omega)
  have hsn:=m6 n
  have hsd:=m6 d
  by_cases h1:isD n∧n≠[]
  · rw [decide_eq_true h1] at c_d1
    by_cases h2:isD d∧d≠[]
    · rw [if_pos ⟨h1,h2⟩]
      rw [decide_eq_true h2] at c_d2
      have hD:isD (n++d):=b0b.2 ⟨h1.1,h2.1⟩
      have hLL:(n++d).length≤4096:=by rw [List.length_append];omega
      have hv:=c2q (n:=4096) hD hLL
      have c_r:=b9g n h1.1 (by omega)
      have c_r2:Ax.Pure Tryz.prog G 119 [S (bs n++bs d)] (n8 (n6 (n++d))):=by rw [b88];exact b9g (n++d) hD (by omega)
      have S1:(bs n).size+(bs d).size≤9223372036854775807∧true=true:=⟨by omega,rfl⟩
      have c_o:=b4p 1 (by decide) (by decide)
      have c_o2:=b4p 10 (by decide) (by decide)
      have z10:zl (10:Int)≤1:=a4z (by decide)
      have c_p:Ax.Pure Tryz.prog G 127 [n8 10,N ((bs d).size:Nat)] (n8 ((10 ^ d.length:Nat):Int)):=by
        rw [hsd,Int.natCast_pow]
        exact d91 10 d.length (by have:=Nat.mul_le_mul_left d.length z10;omega) (by omega)
      have hp:0 < 10 ^ d.length:=Nat.pow_pos (by decide)
      obtain ⟨K,hK⟩:∃K:Nat,K=4*4097:=⟨_,rfl⟩
      have hpz:10 ^ d.length < 2 ^ K:=by rw [hK];exact c9p (n:=4097) (by omega)
      have hv':n6 (n++d) < 2 ^ K:=by rw [hK];exact up_2k (m:=4096) (n:=4097) hv (by decide)
      generalize hP:10 ^ d.length=P at *
      have c_s:Ax.Pure Tryz.prog G 128 [n8 (P:Int)] (N 1):=by
        have:=a29 (P:Int)
        rwa [Int.sign_eq_one_of_pos (by omega)] at this
      have hz:zl (n6 (n++d):Int)≤K:=b4e (b3x hv')
      have c_n:=c1v (n6 (n++d):Int) (by omega)
      have c_m:Ax.Pure Tryz.prog G 131 [n8 (if neg then -(n6 (n++d):Int) else n6 (n++d)),n8 (P:Int)] (a0h (prQ neg (n6 (n++d)) P)):=c3a _ (P:Int) (by omega) (Nat.le_trans (e2f hv') (by omega)) (Nat.le_trans (b4e (b3x hpz)) (by omega))
      have c_g:=c3k (k:=K) (by omega) (prQ neg (n6 (n++d)) P) (Q_sgn (by omega) hv' hpz)
      unfold prR
      rw [if_neg (by omega)]
      refine r8 Tryz.func22 rfl Tryz.ntmps22 ?_
      intro w0 E0 hc
      cases neg
      · have c_m:Ax.Pure Tryz.prog G 131 [n8 (n6 (n++d):Int),n8 (P:Int)] _:=c_m
        repeat' (first|(with_reducible first|refine j0 ?_|refine zr0 hc ?_|refine zm0 hc ?_|refine zwk ?_|refine i6 ?_|refine zgo ?_|refine zbn ?_|refine zge Tryz.results22 ?_|refine Sub.refl _|refine f9|refine w6 (out':=?_) ?_|refine u9 (y:=?_) ?_|refine w5 (eo':=?_) ?_)|(with_reducible refine f6 ?_ ?_;focus (first|decide|omega))|(with_reducible first|refine zg2 ?_ ?_|refine c9 c_cp ?_ ?_|refine c9 c_c1 ?_ ?_|refine c9 c_d1 ?_ ?_|refine c9 c_d2 ?_ ?_|refine c9 c_r ?_ ?_|refine c9 c_r2 ?_ ?_|refine c9 c_o ?_ ?_|refine c9 c_o2 ?_ ?_|refine c9 c_p ?_ ?_|refine c9 c_s ?_ ?_|refine c9 c_m ?_ ?_|refine c9 c_g ?_ ?_|refine zbo ?_|refine zg3 ?_ (fun h=>?_) (fun h=>?_)|refine zg4 (fun h=>?_) (fun h=>?_)|fail)|((first|exact S1|omega|(refine nf1 ?_;with_reducible assumption)|(refine nf2 ?_;with_reducible assumption));done))
      · have c_m:Ax.Pure Tryz.prog G 131 [n8 (-(n6 (n++d):Int)),n8 (P:Int)] _:=c_m
        repeat' (first|(with_reducible first|refine j0 ?_|refine zr0 hc ?_|refine zm0 hc ?_|refine zwk ?_|refine i6 ?_|refine zgo ?_|refine zbn ?_|refine zge Tryz.results22 ?_|refine Sub.refl _|refine f9|refine w6 (out':=?_) ?_|refine u9 (y:=?_) ?_|refine w5 (eo':=?_) ?_)|(with_reducible refine f6 ?_ ?_;focus (first|decide|omega))|(with_reducible first|refine zg2 ?_ ?_|refine c9 c_cp ?_ ?_|refine c9 c_c1 ?_ ?_|refine c9 c_d1 ?_ ?_|refine c9 c_d2 ?_ ?_|refine c9 c_r ?_ ?_|refine c9 c_r2 ?_ ?_|refine c9 c_o ?_ ?_|refine c9 c_o2 ?_ ?_|refine c9 c_p ?_ ?_|refine c9 c_s ?_ ?_|refine c9 c_n ?_ ?_|refine c9 c_m ?_ ?_|refine c9 c_g ?_ ?_|refine zbo ?_|refine zg3 ?_ (fun h=>?_) (fun h=>?_)|refine zg4 (fun h=>?_) (fun h=>?_)|fail)|((first|exact S1|omega|(refine nf1 ?_;with_reducible assumption)|(refine nf2 ?_;with_reducible assumption));done))
    · rw [if_neg (fun h=>h2 h.2)]
      rw [decide_eq_false h2] at c_d2
      refine r8 Tryz.func22 rfl Tryz.ntmps22 ?_
      intro w0 E0 hc
      repeat' (first|(with_reducible first|refine j0 ?_|refine zr0 hc ?_|refine zm0 hc ?_|refine zwk ?_|refine i6 ?_|refine zgo ?_|refine zbn ?_|refine zge Tryz.results22 ?_|refine Sub.refl _|refine f9|refine w6 (out':=?_) ?_|refine u9 (y:=?_) ?_|refine w5 (eo':=?_) ?_)|(with_reducible refine f6 ?_ ?_;focus (first|decide|omega))|(with_reducible first|refine zg2 ?_ ?_|refine c9 c_cp ?_ ?_|refine c9 c_c1 ?_ ?_|refine c9 c_d1 ?_ ?_|refine c9 c_d2 ?_ ?_|refine zbo ?_|refine zg3 ?_ (fun h=>?_) (fun h=>?_)|refine zg4 (fun h=>?_) (fun h=>?_)|fail)|((first|omega|(refine nf1 ?_;with_reducible assumption)|(refine nf2 ?_;with_reducible assumption));done))
  · rw [if_neg (fun h=>h1 h.1)]
    rw [decide_eq_false h1] at c_d1
    refine r8 Tryz.func22 rfl Tryz.ntmps22 ?_
    intro w0 E0 hc
    repeat' (first|(with_reducible first|refine j0 ?_|refine zr0 hc ?_|refine zm0 hc ?_|refine zwk ?_|refine i6 ?_|refine zgo ?_|refine zbn ?_|refine zge Tryz.results22 ?_|refine Sub.refl _|refine f9|refine w6 (out':=?_) ?_|refine u9 (y:=?_) ?_|refine w5 (eo':=?_) ?_)|(with_reducible refine f6 ?_ ?_;focus (first|decide|omega))|(with_reducible first|refine zg2 ?_ ?_|refine c9 c_cp ?_ ?_|refine c9 c_c1 ?_ ?_|refine c9 c_d1 ?_ ?_|refine zbo ?_|refine zg3 ?_ (fun h=>?_) (fun h=>?_)|refine zg4 (fun h=>?_) (fun h=>?_)|fail)|((first|omega|(refine nf1 ?_;with_reducible assumption)|(refine nf2 ?_;with_reducible assumption));done))
end Go.Proofs
end
