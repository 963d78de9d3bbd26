/- Lemmas on the program and its library, part L4. -/
import Derived.Test.YtoiejgkkcfkliaaGreatDoorZL1
set_option linter.unusedVariables false
set_option linter.unusedSimpArgs false
section
set_option maxHeartbeats 8000000
set_option maxRecDepth 100000
namespace Go.Proofs
open Go.Ax
theorem cmp_sg (p q:Rat):cmpQ p q=sgQ (p - q):=by
  have hn:(p - q).num < 0↔p < q:=by
    rw [show (p - q).num < 0↔p - q < 0 from by rw [Rat.lt_iff];simp]
    constructor <;> intro h <;> grind
  have hz:p - q=0↔p=q:=by constructor <;> intro h <;> grind
  have h1:=@cmpQ_zero p q
  have h2:=@cmpQ_lt p q
  have h3:cmpQ p q= -1∨cmpQ p q=0∨cmpQ p q=1:=by
    unfold cmpQ
    rcases Int.lt_trichotomy (p.num*q.den - q.num*p.den) 0 with h|h|h
    · rw [Int.sign_eq_neg_one_of_neg h];omega
    · rw [h];decide
    · rw [Int.sign_eq_one_of_pos h];omega
  unfold sgQ
  by_cases e:p=q
  · rw [if_pos (hz.2 e),h1.2 e]
  · rw [if_neg (fun h=>e (hz.1 h))]
    have e1:¬cmpQ p q=0:=fun h=>e (h1.1 h)
    by_cases l:p < q
    · rw [if_pos (hn.2 l)]
      have:=h2.2 l
      omega
    · rw [if_neg (fun h=>l (hn.1 h))]
      have:¬cmpQ p q < 0:=fun h=>l (h2.1 h)
      omega
theorem w_Numbers (a b:List UInt8):Ax.Pure Tryz.prog G 15 [S (bs a),S (bs b)] (Bo true):=by
  have c_aw:=c_awake
  have hsa:=bs_size a
  have hsb:=bs_size b
  by_cases hlen:a.length≤60∧b.length≤60
  · obtain ⟨la,lb⟩:=hlen
    have la':a.length≤900000:=by omega
    have lb':b.length≤900000:=by omega
    have c_ka:=r_Check a la'
    have c_kb:=r_Check b lb'
    have c_f:=l_first2 (checkL a) (checkL b)
    by_cases ha:checkL a=0
    · by_cases hb:checkL b=0
      · obtain ⟨p,rfl,hp⟩:=checkL_zero ha
        obtain ⟨q,rfl,hq⟩:=checkL_zero hb
        rw [ha] at c_ka c_f
        rw [hb] at c_kb c_f
        have c_f:Ax.Pure Tryz.prog G 30 _ (N 0):=c_f
        have c_add:=s_Add p q hp hq
        have c_sub:=s_Sub p q hp hq
        have c_mul:=s_Mul p q hp hq
        have c_cmp:=s_Compare p q hp hq
        have c_flo:=s_Floor p hp
        have qp:=bigQ_Q hp
        have qq:=bigQ_Q hq
        have r_a:=r_AddQ p q qp qq (by decide)
        have r_s:=r_Sub p q qp qq (by decide)
        have r_m:=r_MulQ p q qp qq (by decide)
        have r_c:=r_Cmp p q qp qq (by decide)
        have r_f:=r_Floor p qp (by decide)
        have r_z:=r_IsZero q
        have p_a:=l_num_ok (k:=4801) (by decide) (p+q) (Q_add qp qq)
        have p_s:=l_num_ok (k:=4801) (by decide) (p - q) (Q_sub qp qq)
        have p_m:=l_num_ok (k:=4800) (by decide) (p*q) (Q_mul qp qq)
        have p_f:=l_num_ok (k:=2401) (by decide) ((p.floor:Int):Rat) (Q_floor qp)
        rw [←cmp_sg p q] at r_c
        by_cases h0:q=0
        · subst h0
          have c_div:=s_Div0 p hp
          have p_d:=l_num_bad 6 (by decide) ⟨#[]⟩
          rw [decide_eq_true rfl] at r_z
          refine zen Tryz.func15 rfl Tryz.ntmps15 ?_
          intro w0 E0 hc
          repeat' (first|(with_reducible first|refine Wp_seq ?_|refine zr0 hc ?_|refine zm0 hc ?_|refine zwk ?_|refine Wp_block ?_|refine zgo ?_|refine zbn ?_|refine zge Tryz.results15 ?_|refine Sub.refl _|refine allP_nil|refine zoa1 (out':=?_) ?_|refine zca1 (y:=?_) ?_|refine zea1 (eo':=?_) ?_)|(with_reducible refine allP_cons ?_ ?_;focus (first|decide|omega))|(with_reducible first|refine zg2 ?_ ?_|refine zoc c_aw ?_ ?_|refine zoc c_ka ?_ ?_|refine zoc c_kb ?_ ?_|refine zoc c_f ?_ ?_|refine zoc c_add ?_ ?_|refine zoc c_sub ?_ ?_|refine zoc c_mul ?_ ?_|refine zoc c_cmp ?_ ?_|refine zoc c_flo ?_ ?_|refine zoc c_div ?_ ?_|refine zoc r_a ?_ ?_|refine zoc r_s ?_ ?_|refine zoc r_m ?_ ?_|refine zoc r_c ?_ ?_|refine zoc r_f ?_ ?_|refine zoc r_z ?_ ?_|refine zoc p_a ?_ ?_|refine zoc p_s ?_ ?_|refine zoc p_m ?_ ?_|refine zoc p_f ?_ ?_|refine zoc p_d ?_ ?_|refine zbo ?_|refine zg3 ?_ (fun h=>?_) (fun h=>?_)|refine zg4 (fun h=>?_) (fun h=>?_)|fail)|((first|omega|(refine nf1 ?_;with_reducible assumption)|(refine nf2 ?_;with_reducible assumption));done))
        · have c_div:=s_Div p q hp hq h0
          have r_d:=r_Div p q h0 qp qq (by decide)
          have p_d:=l_num_ok (k:=4800) (by decide) (p / q) (Q_div qp qq)
          rw [decide_eq_false h0] at r_z
          refine zen Tryz.func15 rfl Tryz.ntmps15 ?_
          intro w0 E0 hc
          repeat' (first|(with_reducible first|refine Wp_seq ?_|refine zr0 hc ?_|refine zm0 hc ?_|refine zwk ?_|refine Wp_block ?_|refine zgo ?_|refine zbn ?_|refine zge Tryz.results15 ?_|refine Sub.refl _|refine allP_nil|refine zoa1 (out':=?_) ?_|refine zca1 (y:=?_) ?_|refine zea1 (eo':=?_) ?_)|(with_reducible refine allP_cons ?_ ?_;focus (first|decide|omega))|(with_reducible first|refine zg2 ?_ ?_|refine zoc c_aw ?_ ?_|refine zoc c_ka ?_ ?_|refine zoc c_kb ?_ ?_|refine zoc c_f ?_ ?_|refine zoc c_add ?_ ?_|refine zoc c_sub ?_ ?_|refine zoc c_mul ?_ ?_|refine zoc c_cmp ?_ ?_|refine zoc c_flo ?_ ?_|refine zoc c_div ?_ ?_|refine zoc r_a ?_ ?_|refine zoc r_s ?_ ?_|refine zoc r_m ?_ ?_|refine zoc r_c ?_ ?_|refine zoc r_f ?_ ?_|refine zoc r_z ?_ ?_|refine zoc r_d ?_ ?_|refine zoc p_a ?_ ?_|refine zoc p_s ?_ ?_|refine zoc p_m ?_ ?_|refine zoc p_f ?_ ?_|refine zoc p_d ?_ ?_|refine zbo ?_|refine zg3 ?_ (fun h=>?_) (fun h=>?_)|refine zg4 (fun h=>?_) (fun h=>?_)|fail)|((first|omega|(refine nf1 ?_;with_reducible assumption)|(refine nf2 ?_;with_reducible assumption));done))
      · obtain ⟨p,rfl,hp⟩:=checkL_zero ha
        rw [ha] at c_ka c_f
        rw [nz0,nz1 hb] at c_f
        have he:fstE [ratL p,b]=checkL b:=by
          show firstNZ [checkL (ratL p),checkL b]=_
          rw [ha,nz0,nz1 hb]
        have he0:fstE [ratL p,b]≠0:=by rw [he];exact hb
        have c_add:=s_Add_err (ratL p) b la' lb' he0
        have c_sub:=s_Sub_err (ratL p) b la' lb' he0
        have c_mul:=s_Mul_err (ratL p) b la' lb' he0
        have c_div:=s_Div_err (ratL p) b la' lb' he0
        have c_cmp:=s_Compare_err (ratL p) b la' lb' he0
        rw [he] at c_add c_sub c_mul c_div c_cmp
        have c_flo:=s_Floor p hp
        have qp:=bigQ_Q hp
        have r_f:=r_Floor p qp (by decide)
        have p_f:=l_num_ok (k:=2401) (by decide) ((p.floor:Int):Rat) (Q_floor qp)
        have p_b:=l_num_bad (checkL b) hb ⟨#[]⟩
        clear he he0
        generalize checkL b=e at *
        refine zen Tryz.func15 rfl Tryz.ntmps15 ?_
        intro w0 E0 hc
        repeat' (first|(with_reducible first|refine Wp_seq ?_|refine zr0 hc ?_|refine zm0 hc ?_|refine zwk ?_|refine Wp_block ?_|refine zgo ?_|refine zbn ?_|refine zge Tryz.results15 ?_|refine Sub.refl _|refine allP_nil|refine zoa1 (out':=?_) ?_|refine zca1 (y:=?_) ?_|refine zea1 (eo':=?_) ?_)|(with_reducible refine allP_cons ?_ ?_;focus (first|decide|omega))|(with_reducible first|refine zg2 ?_ ?_|refine zoc c_aw ?_ ?_|refine zoc c_ka ?_ ?_|refine zoc c_kb ?_ ?_|refine zoc c_f ?_ ?_|refine zoc c_add ?_ ?_|refine zoc c_sub ?_ ?_|refine zoc c_mul ?_ ?_|refine zoc c_cmp ?_ ?_|refine zoc c_flo ?_ ?_|refine zoc c_div ?_ ?_|refine zoc r_f ?_ ?_|refine zoc p_f ?_ ?_|refine zoc p_b ?_ ?_|refine zbo ?_|refine zg3 ?_ (fun h=>?_) (fun h=>?_)|refine zg4 (fun h=>?_) (fun h=>?_)|fail)|((first|omega|(refine nf1 ?_;with_reducible assumption)|(refine nf2 ?_;with_reducible assumption));done))
        all_goals exact sub_eq (congrArg Bo (by simp))
    · rw [nz1 ha] at c_f
      have he:fstE [a,b]=checkL a:=by
        show firstNZ [checkL a,checkL b]=_
        rw [nz1 ha]
      have he0:fstE [a,b]≠0:=by rw [he];exact ha
      have c_add:=s_Add_err a b la' lb' he0
      have c_sub:=s_Sub_err a b la' lb' he0
      have c_mul:=s_Mul_err a b la' lb' he0
      have c_div:=s_Div_err a b la' lb' he0
      have c_cmp:=s_Compare_err a b la' lb' he0
      rw [he] at c_add c_sub c_mul c_div c_cmp
      have c_flo:=s_Floor_err a la' ha
      have p_b:=l_num_bad (checkL a) ha ⟨#[]⟩
      clear he he0
      generalize checkL a=e at *
      refine zen Tryz.func15 rfl Tryz.ntmps15 ?_
      intro w0 E0 hc
      repeat' (first|(with_reducible first|refine Wp_seq ?_|refine zr0 hc ?_|refine zm0 hc ?_|refine zwk ?_|refine Wp_block ?_|refine zgo ?_|refine zbn ?_|refine zge Tryz.results15 ?_|refine Sub.refl _|refine allP_nil|refine zoa1 (out':=?_) ?_|refine zca1 (y:=?_) ?_|refine zea1 (eo':=?_) ?_)|(with_reducible refine allP_cons ?_ ?_;focus (first|decide|omega))|(with_reducible first|refine zg2 ?_ ?_|refine zoc c_aw ?_ ?_|refine zoc c_ka ?_ ?_|refine zoc c_kb ?_ ?_|refine zoc c_f ?_ ?_|refine zoc c_add ?_ ?_|refine zoc c_sub ?_ ?_|refine zoc c_mul ?_ ?_|refine zoc c_cmp ?_ ?_|refine zoc c_flo ?_ ?_|refine zoc c_div ?_ ?_|refine zoc p_b ?_ ?_|refine zbo ?_|refine zg3 ?_ (fun h=>?_) (fun h=>?_)|refine zg4 (fun h=>?_) (fun h=>?_)|fail)|((first|omega|(refine nf1 ?_;with_reducible assumption)|(refine nf2 ?_;with_reducible assumption));done))
      all_goals exact sub_eq (congrArg Bo (by simp))
  · clear c_aw
    have c_aw:=c_awake
    refine zen Tryz.func15 rfl Tryz.ntmps15 ?_
    intro w0 E0 hc
    repeat' (first|(with_reducible first|refine Wp_seq ?_|refine zr0 hc ?_|refine zm0 hc ?_|refine zwk ?_|refine Wp_block ?_|refine zgo ?_|refine zbn ?_|refine zge Tryz.results15 ?_|refine Sub.refl _|refine allP_nil|refine zoa1 (out':=?_) ?_|refine zca1 (y:=?_) ?_|refine zea1 (eo':=?_) ?_)|(with_reducible refine allP_cons ?_ ?_;focus (first|decide|omega))|(with_reducible first|refine zg2 ?_ ?_|refine zoc c_aw ?_ ?_|refine zbo ?_|refine zg3 ?_ (fun h=>?_) (fun h=>?_)|refine zg4 (fun h=>?_) (fun h=>?_)|fail)|((first|omega|(refine nf1 ?_;with_reducible assumption)|(refine nf2 ?_;with_reducible assumption));done))
end Go.Proofs
end
