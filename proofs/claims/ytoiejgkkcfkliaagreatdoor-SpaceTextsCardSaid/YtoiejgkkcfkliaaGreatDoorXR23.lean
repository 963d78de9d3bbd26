/- Lemmas on the program and its library: part XR23. -/
import Derived.Test.YtoiejgkkcfkliaaGreatDoorXR22
set_option linter.unusedVariables false
set_option linter.unusedSimpArgs false
section
set_option maxHeartbeats 4000000
set_option maxRecDepth 100000
namespace Go.Proofs
open Go.Ax
theorem r_Parse_slash (neg:Bool) (n d:List UInt8) (h45:neg=false→(n++47 :: d).head?≠some 45) (hsep:∀x∈n,sepB x=false) (hl:(prT neg (n++47 :: d)).length≤4096) :
    Ax.Pure Tryz.prog G 23 [S (bs (prT neg (n++47 :: d)))] (if (isD n∧n≠[])∧(isD d∧d≠[]) then prR neg (valD n) (valD d) else .tup [S ⟨#[]⟩,N 28]):=by
  obtain ⟨r,hr,hcl⟩:∃r:AV,(r=if (isD n∧n≠[])∧(isD d∧d≠[]) then prR neg (valD n) (valD d) else .tup [S ⟨#[]⟩,N 28])∧r.cl 0:=⟨_,rfl,by split;exact prR_cl _ _ _;exact ⟨trivial,trivial,trivial⟩⟩
  rw [←hr]
  obtain ⟨t,ht⟩:∃t,t=n++47 :: d:=⟨_,rfl⟩
  rw [←ht] at h45 hl ⊢
  obtain ⟨hf1,hf2,hf3⟩:=prT_facts neg t h45
  have htl:=prT_len neg t
  obtain ⟨a,hA⟩:∃a,a=prT neg t:=⟨_,rfl⟩
  rw [←hA] at hf1 hf2 hf3 hl htl ⊢
  have hz:=bs_size a
  have hzt:=bs_size t
  have ga:=getD_arr2 a 0
  refine spec_of_wp tt_ok Tryz.func23 rfl (by kernel_rfl) G_below ⟨by simp [clV,AV.cl,clL,Leaf.cl],hcl⟩ (by rw [Tryz.ntmps23];exact of_decide_eq_true rfl) ?_
  intro w0 E0 hc
  repeat' (first|(with_reducible first|refine Wp_seq ?_|refine zwk ?_|refine Wp_block ?_|refine zgo ?_|refine zbn ?_|refine zge Tryz.results23 ?_|refine Sub.refl _|refine allP_nil|refine zoa1 (out':=?_) ?_|refine zca1 (y:=?_) ?_|refine zea1 (eo':=?_) ?_)|(with_reducible refine zrs [4] hc ?_ ?_;focus (with_unfolding_all rfl))|(with_reducible refine zrm [4] hc mixed ?_ ?_;focus (with_unfolding_all rfl))|(with_reducible refine allP_cons ?_ ?_;focus (first|decide|omega))|(with_reducible first|refine zg2 ?_ ?_|refine zbo ?_|refine zg3 ?_ (fun h=>?_) (fun h=>?_)|refine zg4 (fun h=>?_) (fun h=>?_)|fail)|(omega;done))
  refine Wp_join2 (α:=Unit) (fun _=>stOf [(0,S (bs a)),(4,S (bs t))] [] 0) (fun _=>True) ?_ ?_
  · rw [←ga] at hf1
    cases neg
    · have hf1':¬(0 < a.length∧((a.toArray.getD 0 0).toNat:Int)=45):=fun h=>Bool.false_ne_true (hf1.1 h)
      have e:=hf3 rfl
      repeat' (first|(with_reducible first|refine Wp_seq ?_|refine zwk ?_|refine Wp_block ?_|refine zgo ?_|refine zbn ?_|refine zge Tryz.results23 ?_|refine Sub.refl _|refine allP_nil|refine zoa1 (out':=?_) ?_|refine zca1 (y:=?_) ?_|refine zea1 (eo':=?_) ?_)|(with_reducible refine zrs [6] hc ?_ ?_;focus (with_unfolding_all rfl))|(with_reducible refine zrm [6] hc mixed ?_ ?_;focus (with_unfolding_all rfl))|(with_reducible refine allP_cons ?_ ?_;focus (first|decide|omega))|(with_reducible first|refine zg2 ?_ ?_|refine zbo ?_|refine zg3 ?_ (fun h=>?_) (fun h=>?_)|refine zg4 (fun h=>?_) (fun h=>?_)|fail)|(omega;done))
      all_goals
        refine ⟨(),trivial,?_⟩
        refine zwa1 (l1:=?_) (h1:=?_) ?_ ?_ <;> (repeat' (first|(with_reducible first|exact slotsOk_nil|exact boxesOk_nil|refine slotsOk_eq ?_ ?_|refine slotsOk_cons ?_ ?_ ?_|refine boxesOk_one rfl ?_ ?_ ?_|refine boxesOk_cons rfl (fun i hi=>?_) ?_ (fun i hi=>?_) ?_|refine sub_int ?_|refine sub_own_eq ?_ ?_|refine sub_gr_eq ?_ ?_|exact sub_nil_gr|exact sub_own_gr)|(first|omega|(simp only [IntKind.wrap_i64,IntKind.wrap_u64,List.length_append,List.length_singleton,List.length_cons,List.length_nil];omega))|((first|show AV.cl _ _|show clL _ _);simp [AV.cl,clL,Leaf.cl,clV];done)|(dsimp only [ite00];done)|(with_reducible first|exact SubLv.refl _|refine subLv_int ?_ ?_|refine subLv_frac ?_ ?_)|(dsimp only [ite00];with_reducible exact SubLv.refl _)|fail))
        rw [e];exact Sub.refl _
    · have hf1':=hf1.2 rfl
      have e:=hf2 rfl
      repeat' (first|(with_reducible first|refine Wp_seq ?_|refine zwk ?_|refine Wp_block ?_|refine zgo ?_|refine zbn ?_|refine zge Tryz.results23 ?_|refine Sub.refl _|refine allP_nil|refine zoa1 (out':=?_) ?_|refine zca1 (y:=?_) ?_|refine zea1 (eo':=?_) ?_)|(with_reducible refine zrs [6] hc ?_ ?_;focus (with_unfolding_all rfl))|(with_reducible refine zrm [6] hc mixed ?_ ?_;focus (with_unfolding_all rfl))|(with_reducible refine allP_cons ?_ ?_;focus (first|decide|omega))|(with_reducible first|refine zg2 ?_ ?_|refine zbo ?_|refine zg3 ?_ (fun h=>?_) (fun h=>?_)|refine zg4 (fun h=>?_) (fun h=>?_)|fail)|(omega;done))
      refine ⟨(),trivial,?_⟩
      refine zwa1 (l1:=?_) (h1:=?_) ?_ ?_ <;> (repeat' (first|(with_reducible first|exact slotsOk_nil|exact boxesOk_nil|refine slotsOk_eq ?_ ?_|refine slotsOk_cons ?_ ?_ ?_|refine boxesOk_one rfl ?_ ?_ ?_|refine boxesOk_cons rfl (fun i hi=>?_) ?_ (fun i hi=>?_) ?_|refine sub_int ?_|refine sub_own_eq ?_ ?_|refine sub_gr_eq ?_ ?_|exact sub_nil_gr|exact sub_own_gr)|(first|omega|(simp only [IntKind.wrap_i64,IntKind.wrap_u64,List.length_append,List.length_singleton,List.length_cons,List.length_nil];omega))|((first|show AV.cl _ _|show clL _ _);simp [AV.cl,clL,Leaf.cl,clV];done)|(dsimp only [ite00];done)|(with_reducible first|exact SubLv.refl _|refine subLv_int ?_ ?_|refine subLv_frac ?_ ?_)|(dsimp only [ite00];with_reducible exact SubLv.refl _)|fail))
      rw [e.1];exact Sub.refl _
  rintro _ -
  have tl:t.length=n.length+(d.length+1):=by rw [ht,List.length_append,List.length_cons]
  have c_p:=r_point t (by omega)
  rw [show upSep t=n by rw [ht];exact upSep_hit hsep rfl] at c_p
  have en:(bs t).extract 0 n.length=bs n:=by rw [bs_extract,ht];simp
  have w1:IntKind.i64.wrap ((n.length:Int)+1)=((n.length+1:Nat):Int):=by rw [IntKind.wrap_i64];omega
  have ed:(bs t).extract (IntKind.i64.wrap ((n.length:Int)+1)).toNat (bs t).size=bs d:=by
    rw [w1,Int.toNat_natCast,bs_extract,hzt,List.take_of_length_le (by rw [List.length_drop];omega),ht]
    simp
  have S1:0≤IntKind.i64.wrap ((n.length:Int)+1)∧IntKind.i64.wrap ((n.length:Int)+1)≤((bs t).size:Nat)∧((bs t).size:Int)≤((bs t).size:Nat):=by rw [w1];omega
  have gk:((t.toArray.getD n.length 0).toNat:Int)=47:=by rw [getD_arr2,ht];simp
  have c_d1:=r_Digits n (by omega)
  have c_d2:=r_Digits d (by omega)
  by_cases h1:isD n∧n≠[]
  · have hn0:n.length≠0:=fun e=>h1.2 (List.length_eq_zero_iff.1 e)
    by_cases h2:isD d∧d≠[]
    · have hd0:d.length≠0:=fun e=>h2.2 (List.length_eq_zero_iff.1 e)
      rw [if_pos ⟨h1,h2⟩] at hr
      rw [decide_eq_true h1.1,←en] at c_d1
      rw [decide_eq_true h2.1,←ed] at c_d2
      have c_pn:=r_parse n h1.1 (by omega)
      rw [←en] at c_pn
      have c_w:=r_whole 1 (by decide) (by decide)
      have c_pd:=r_parse d h2.1 (by omega)
      rw [←ed] at c_pd
      have hv:=valD_bits h1.1 (show n.length≤4096 by omega)
      have hw:=valD_bits h2.1 (show d.length≤4096 by omega)
      generalize valD n=v at *
      generalize valD d=b at *
      have hz0:((toI (digs BR (Int.natAbs (b:Int)))).length:Int)=0↔b=0:=by
        rw [toI_len,Int.natAbs_natCast,←digs_nil (B:=BR) BR2,←List.length_eq_zero_iff];omega
      unfold prR at hr
      by_cases hb0:b=0
      · rw [if_pos hb0] at hr
        subst hr
        have hz1:=hz0.2 hb0
        clear hz0
        repeat' (first|(with_reducible first|refine Wp_seq ?_|refine zr0 hc ?_|refine zm0 hc ?_|refine zwk ?_|refine Wp_block ?_|refine zgo ?_|refine zbn ?_|refine zge Tryz.results23 ?_|refine Sub.refl _|refine allP_nil|refine zoa1 (out':=?_) ?_|refine zca1 (y:=?_) ?_|refine zea1 (eo':=?_) ?_)|(with_reducible refine allP_cons ?_ ?_;focus (first|decide|omega))|(with_reducible first|refine zg2 ?_ ?_|refine zoc c_p ?_ ?_|refine zoc c_d1 ?_ ?_|refine zoc c_d2 ?_ ?_|refine zoc c_pn ?_ ?_|refine zoc c_pd ?_ ?_|refine zoc c_w ?_ ?_|refine zbo ?_|refine zg3 ?_ (fun h=>?_) (fun h=>?_)|refine zg4 (fun h=>?_) (fun h=>?_)|fail)|((first|omega|exact S1|(refine nf1 ?_;with_reducible assumption)|(refine nf2 ?_;with_reducible assumption));done))
      · rw [if_neg hb0] at hr
        subst hr
        have hz1:=fun h=>hb0 (hz0.1 h)
        have hz2:¬((toI (digs BR (Int.natAbs (b:Int)))).length:Int)=0:=hz1
        clear hz0 hz1
        have c_m:=r_minus (v:Int) (Nat.le_trans (rl_two (k:=4*4096) (nat_lt hv)) (by decide))
        have c_f:=r_prF neg v b hb0 hv hw (by decide)
        have c_l:=r_Large (prQ neg v b) (Q_sgn hb0 hv hw) (by decide)
        generalize prQ neg v b=q at *
        clear hv hw
        cases hb:bigQ q <;> rw [hb] at c_l <;> simp only [if_true,Bool.false_eq_true,if_false] at c_l
        all_goals
          cases neg
          · have e:=congrArg List.length (hf3 rfl)
            have c_f:Ax.Pure Tryz.prog G 139 [rA (v:Int),rA (b:Int)] _:=c_f
            repeat' (first|(with_reducible first|refine Wp_seq ?_|refine zr0 hc ?_|refine zm0 hc ?_|refine zwk ?_|refine Wp_block ?_|refine zgo ?_|refine zbn ?_|refine zge Tryz.results23 ?_|refine Sub.refl _|refine allP_nil|refine zoa1 (out':=?_) ?_|refine zca1 (y:=?_) ?_|refine zea1 (eo':=?_) ?_)|(with_reducible refine allP_cons ?_ ?_;focus (first|decide|omega))|(with_reducible first|refine zg2 ?_ ?_|refine zoc c_p ?_ ?_|refine zoc c_d1 ?_ ?_|refine zoc c_d2 ?_ ?_|refine zoc c_pn ?_ ?_|refine zoc c_pd ?_ ?_|refine zoc c_w ?_ ?_|refine zoc c_f ?_ ?_|refine zoc c_l ?_ ?_|refine zbo ?_|refine zg3 ?_ (fun h=>?_) (fun h=>?_)|refine zg4 (fun h=>?_) (fun h=>?_)|fail)|((first|omega|exact S1|(refine nf1 ?_;with_reducible assumption)|(refine nf2 ?_;with_reducible assumption));done))
            all_goals exact Sub.refl _
          · have e:=hf2 rfl
            have c_f:Ax.Pure Tryz.prog G 139 [rA (-(v:Int)),rA (b:Int)] _:=c_f
            repeat' (first|(with_reducible first|refine Wp_seq ?_|refine zr0 hc ?_|refine zm0 hc ?_|refine zwk ?_|refine Wp_block ?_|refine zgo ?_|refine zbn ?_|refine zge Tryz.results23 ?_|refine Sub.refl _|refine allP_nil|refine zoa1 (out':=?_) ?_|refine zca1 (y:=?_) ?_|refine zea1 (eo':=?_) ?_)|(with_reducible refine allP_cons ?_ ?_;focus (first|decide|omega))|(with_reducible first|refine zg2 ?_ ?_|refine zoc c_p ?_ ?_|refine zoc c_d1 ?_ ?_|refine zoc c_d2 ?_ ?_|refine zoc c_pn ?_ ?_|refine zoc c_pd ?_ ?_|refine zoc c_w ?_ ?_|refine zoc c_m ?_ ?_|refine zoc c_f ?_ ?_|refine zoc c_l ?_ ?_|refine zbo ?_|refine zg3 ?_ (fun h=>?_) (fun h=>?_)|refine zg4 (fun h=>?_) (fun h=>?_)|fail)|((first|omega|exact S1|(refine nf1 ?_;with_reducible assumption)|(refine nf2 ?_;with_reducible assumption));done))
            all_goals exact Sub.refl _
    · rw [if_neg (fun h=>h2 h.2)] at hr
      subst hr
      rw [decide_eq_true h1.1,←en] at c_d1
      by_cases h3:isD d
      · rw [decide_eq_true h3,←ed] at c_d2
        have hn1:d.length=0:=List.length_eq_zero_iff.2 (Classical.byContradiction fun e=>h2 ⟨h3,e⟩)
        repeat' (first|(with_reducible first|refine Wp_seq ?_|refine zr0 hc ?_|refine zm0 hc ?_|refine zwk ?_|refine Wp_block ?_|refine zgo ?_|refine zbn ?_|refine zge Tryz.results23 ?_|refine Sub.refl _|refine allP_nil|refine zoa1 (out':=?_) ?_|refine zca1 (y:=?_) ?_|refine zea1 (eo':=?_) ?_)|(with_reducible refine allP_cons ?_ ?_;focus (first|decide|omega))|(with_reducible first|refine zg2 ?_ ?_|refine zoc c_p ?_ ?_|refine zoc c_d1 ?_ ?_|refine zoc c_d2 ?_ ?_|refine zbo ?_|refine zg3 ?_ (fun h=>?_) (fun h=>?_)|refine zg4 (fun h=>?_) (fun h=>?_)|fail)|((first|omega|exact S1|(refine nf1 ?_;with_reducible assumption)|(refine nf2 ?_;with_reducible assumption));done))
      · rw [decide_eq_false h3,←ed] at c_d2
        repeat' (first|(with_reducible first|refine Wp_seq ?_|refine zr0 hc ?_|refine zm0 hc ?_|refine zwk ?_|refine Wp_block ?_|refine zgo ?_|refine zbn ?_|refine zge Tryz.results23 ?_|refine Sub.refl _|refine allP_nil|refine zoa1 (out':=?_) ?_|refine zca1 (y:=?_) ?_|refine zea1 (eo':=?_) ?_)|(with_reducible refine allP_cons ?_ ?_;focus (first|decide|omega))|(with_reducible first|refine zg2 ?_ ?_|refine zoc c_p ?_ ?_|refine zoc c_d1 ?_ ?_|refine zoc c_d2 ?_ ?_|refine zbo ?_|refine zg3 ?_ (fun h=>?_) (fun h=>?_)|refine zg4 (fun h=>?_) (fun h=>?_)|fail)|((first|omega|exact S1|(refine nf1 ?_;with_reducible assumption)|(refine nf2 ?_;with_reducible assumption));done))
  · rw [if_neg (fun h=>h1 h.1)] at hr
    subst hr
    by_cases h3:isD n
    · rw [decide_eq_true h3,←en] at c_d1
      have hn1:n.length=0:=List.length_eq_zero_iff.2 (Classical.byContradiction fun e=>h1 ⟨h3,e⟩)
      repeat' (first|(with_reducible first|refine Wp_seq ?_|refine zr0 hc ?_|refine zm0 hc ?_|refine zwk ?_|refine Wp_block ?_|refine zgo ?_|refine zbn ?_|refine zge Tryz.results23 ?_|refine Sub.refl _|refine allP_nil|refine zoa1 (out':=?_) ?_|refine zca1 (y:=?_) ?_|refine zea1 (eo':=?_) ?_)|(with_reducible refine allP_cons ?_ ?_;focus (first|decide|omega))|(with_reducible first|refine zg2 ?_ ?_|refine zoc c_p ?_ ?_|refine zoc c_d1 ?_ ?_|refine zbo ?_|refine zg3 ?_ (fun h=>?_) (fun h=>?_)|refine zg4 (fun h=>?_) (fun h=>?_)|fail)|((first|omega|exact S1|(refine nf1 ?_;with_reducible assumption)|(refine nf2 ?_;with_reducible assumption));done))
    · rw [decide_eq_false h3,←en] at c_d1
      repeat' (first|(with_reducible first|refine Wp_seq ?_|refine zr0 hc ?_|refine zm0 hc ?_|refine zwk ?_|refine Wp_block ?_|refine zgo ?_|refine zbn ?_|refine zge Tryz.results23 ?_|refine Sub.refl _|refine allP_nil|refine zoa1 (out':=?_) ?_|refine zca1 (y:=?_) ?_|refine zea1 (eo':=?_) ?_)|(with_reducible refine allP_cons ?_ ?_;focus (first|decide|omega))|(with_reducible first|refine zg2 ?_ ?_|refine zoc c_p ?_ ?_|refine zoc c_d1 ?_ ?_|refine zbo ?_|refine zg3 ?_ (fun h=>?_) (fun h=>?_)|refine zg4 (fun h=>?_) (fun h=>?_)|fail)|((first|omega|exact S1|(refine nf1 ?_;with_reducible assumption)|(refine nf2 ?_;with_reducible assumption));done))
end Go.Proofs
end
