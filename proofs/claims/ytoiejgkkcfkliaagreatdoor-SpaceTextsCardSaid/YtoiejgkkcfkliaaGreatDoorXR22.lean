/- Lemmas on the program and its library: part XR22. -/
import Derived.Test.YtoiejgkkcfkliaaGreatDoorXR21
import Derived.Test.YtoiejgkkcfkliaaGreatDoorZR15
set_option linter.unusedVariables false
set_option linter.unusedSimpArgs false
section
set_option maxHeartbeats 4000000
set_option maxRecDepth 100000
namespace Go.Proofs
open Go.Ax
theorem r_Parse_long (l:List UInt8) (h:4096 < l.length):Ax.Pure Tryz.prog G 23 [S (bs l)] (.tup [S ⟨#[]⟩,N 29]):=by
  have hs:=bs_size l
  refine zen Tryz.func23 rfl Tryz.ntmps23 ?_
  intro w0 E0 hc
  repeat' (first|(with_reducible first|refine Wp_seq ?_|refine zr0 hc ?_|refine zm0 hc ?_|refine zwk ?_|refine Wp_block ?_|refine zgo ?_|refine zbn ?_|refine zge Tryz.results23 ?_|refine Sub.refl _|refine allP_nil|refine zoa1 (out':=?_) ?_|refine zca1 (y:=?_) ?_|refine zea1 (eo':=?_) ?_)|(with_reducible refine allP_cons ?_ ?_;focus (first|decide|omega))|(with_reducible first|refine zg2 ?_ ?_|refine zbo ?_|refine zg3 ?_ (fun h=>?_) (fun h=>?_)|refine zg4 (fun h=>?_) (fun h=>?_)|fail)|(omega;done))
theorem prT_facts (neg:Bool) (t:List UInt8) (h45:neg=false→t.head?≠some 45) :
    ((0 < (prT neg t).length∧(((prT neg t).getD 0 0).toNat:Int)=45)↔neg=true)∧(neg=true→(bs (prT neg t)).extract 1 (bs (prT neg t)).size=bs t∧0 < (prT neg t).length∧t.length < (prT neg t).length)∧(neg=false→prT neg t=t):=by
  cases neg
  · refine ⟨⟨fun ⟨h1,h2⟩=>?_,fun h=>by cases h⟩,fun h=>by (cases h),fun _=>rfl⟩
    have h3:t.getD 0 0=45:=UInt8.toNat_inj.1 (Int.ofNat.inj h2)
    cases t with
    | nil=>exact absurd h1 (by decide)
    | cons b t=>exact absurd (congrArg some h3) (h45 rfl)
  · refine ⟨⟨fun _=>rfl,fun _=>⟨Nat.succ_pos _,rfl⟩⟩,fun _=>⟨cut1 _ t,Nat.succ_pos _,by simp [prT]⟩,fun h=>by cases h⟩
theorem r_prF (neg:Bool) (a b:Nat) (h0:b≠0) {k:Nat} (h1:a < 2 ^ k) (h2:b < 2 ^ k) (hk:k≤1000000):Ax.Pure Tryz.prog G 139 [rA (if neg then -(a:Int) else a),rA b] (S (bs (ratL (prQ neg a b)))):=
  r_fraction _ _ (by omega) (Nat.le_trans (rl_two (k:=k) (by cases neg;exact nat_lt h1;exact (Int.natAbs_neg _).symm ▸ nat_lt h1)) (by omega)) (Nat.le_trans (rl_two (k:=k) (nat_lt h2)) (by omega))
theorem prR_cl (neg:Bool) (a b:Nat):(prR neg a b).cl 0:=by
  unfold prR
  split <;> exact ⟨trivial,trivial,trivial⟩
theorem r_Parse_none (neg:Bool) (t:List UInt8) (h45:neg=false→t.head?≠some 45) (hsep:∀x∈t,sepB x=false) (hl:(prT neg t).length≤4096) :
    Ax.Pure Tryz.prog G 23 [S (bs (prT neg t))] (if isD t∧t≠[] then prR neg (valD t) 1 else .tup [S ⟨#[]⟩,N 28]):=by
  obtain ⟨r,hr,hcl⟩:∃r:AV,(r=if isD t∧t≠[] then prR neg (valD t) 1 else .tup [S ⟨#[]⟩,N 28])∧r.cl 0:=⟨_,rfl,by split;exact prR_cl _ _ _;exact ⟨trivial,trivial,trivial⟩⟩
  rw [←hr]
  obtain ⟨hf1,hf2,hf3⟩:=prT_facts neg t h45
  have htl:=prT_len neg t
  obtain ⟨a,hA⟩:∃a,a=prT neg t:=⟨_,rfl⟩
  rw [←hA] at hf1 hf2 hf3 hl htl ⊢
  have hz:=bs_size a
  have hzt:=bs_size t
  have ga:=getD_arr2 a 0
  refine spec_of_wp tt_ok Tryz.func23 rfl (by kernel_rfl) G_below ⟨by simp [clV,AV.cl,clL,Leaf.cl],hcl⟩ (by rw [Tryz.ntmps23];exact of_decide_eq_true rfl) ?_
  intro w0 E0 hc
  repeat' (first|(with_reducible first|refine Wp_seq ?_|refine zwk ?_|refine Wp_block ?_|refine zgo ?_|refine zbn ?_|refine zge Tryz.results23 ?_|refine Sub.refl _|refine allP_nil|refine zoa1 (out':=?_) ?_|refine zca1 (y:=?_) ?_|refine zea1 (eo':=?_) ?_)|(with_reducible refine zrs [4] hc ?_ ?_;focus (with_unfolding_all rfl))|(with_reducible refine zrm [4] hc mixed ?_ ?_;focus (with_unfolding_all rfl))|(with_reducible refine allP_cons ?_ ?_;focus (first|decide|omega))|(with_reducible first|refine zg2 ?_ ?_|refine zbo ?_|refine zg3 ?_ (fun h=>?_) (fun h=>?_)|refine zg4 (fun h=>?_) (fun h=>?_)|fail)|(omega;done))
  refine Wp_join2 (α:=Unit) (fun _=>stOf [(0,S (bs a)),(4,S (bs t))] [] 0) (fun _=>True) ?_ ?_
  · rw [←ga] at hf1
    cases neg
    · have hf1':¬(0 < a.length∧((a.toArray.getD 0 0).toNat:Int)=45):=fun h=>Bool.false_ne_true (hf1.1 h)
      have e:=hf3 rfl
      repeat' (first|(with_reducible first|refine Wp_seq ?_|refine zwk ?_|refine Wp_block ?_|refine zgo ?_|refine zbn ?_|refine zge Tryz.results23 ?_|refine Sub.refl _|refine allP_nil|refine zoa1 (out':=?_) ?_|refine zca1 (y:=?_) ?_|refine zea1 (eo':=?_) ?_)|(with_reducible refine zrs [6] hc ?_ ?_;focus (with_unfolding_all rfl))|(with_reducible refine zrm [6] hc mixed ?_ ?_;focus (with_unfolding_all rfl))|(with_reducible refine allP_cons ?_ ?_;focus (first|decide|omega))|(with_reducible first|refine zg2 ?_ ?_|refine zbo ?_|refine zg3 ?_ (fun h=>?_) (fun h=>?_)|refine zg4 (fun h=>?_) (fun h=>?_)|fail)|(omega;done))
      all_goals
        refine ⟨(),trivial,?_⟩
        refine zwa1 (l1:=?_) (h1:=?_) ?_ ?_ <;> (repeat' (first|(with_reducible first|exact slotsOk_nil|exact boxesOk_nil|refine slotsOk_eq ?_ ?_|refine slotsOk_cons ?_ ?_ ?_|refine boxesOk_one rfl ?_ ?_ ?_|refine boxesOk_cons rfl (fun i hi=>?_) ?_ (fun i hi=>?_) ?_|refine sub_int ?_|refine sub_own_eq ?_ ?_|refine sub_gr_eq ?_ ?_|exact sub_nil_gr|exact sub_own_gr)|(first|omega|(simp only [IntKind.wrap_i64,IntKind.wrap_u64,List.length_append,List.length_singleton,List.length_cons,List.length_nil];omega))|((first|show AV.cl _ _|show clL _ _);simp [AV.cl,clL,Leaf.cl,clV];done)|(dsimp only [ite00];done)|(with_reducible first|exact SubLv.refl _|refine subLv_int ?_ ?_|refine subLv_frac ?_ ?_)|(dsimp only [ite00];with_reducible exact SubLv.refl _)|fail))
        rw [e];exact Sub.refl _
    · have hf1':=hf1.2 rfl
      have e:=hf2 rfl
      repeat' (first|(with_reducible first|refine Wp_seq ?_|refine zwk ?_|refine Wp_block ?_|refine zgo ?_|refine zbn ?_|refine zge Tryz.results23 ?_|refine Sub.refl _|refine allP_nil|refine zoa1 (out':=?_) ?_|refine zca1 (y:=?_) ?_|refine zea1 (eo':=?_) ?_)|(with_reducible refine zrs [6] hc ?_ ?_;focus (with_unfolding_all rfl))|(with_reducible refine zrm [6] hc mixed ?_ ?_;focus (with_unfolding_all rfl))|(with_reducible refine allP_cons ?_ ?_;focus (first|decide|omega))|(with_reducible first|refine zg2 ?_ ?_|refine zbo ?_|refine zg3 ?_ (fun h=>?_) (fun h=>?_)|refine zg4 (fun h=>?_) (fun h=>?_)|fail)|(omega;done))
      refine ⟨(),trivial,?_⟩
      refine zwa1 (l1:=?_) (h1:=?_) ?_ ?_ <;> (repeat' (first|(with_reducible first|exact slotsOk_nil|exact boxesOk_nil|refine slotsOk_eq ?_ ?_|refine slotsOk_cons ?_ ?_ ?_|refine boxesOk_one rfl ?_ ?_ ?_|refine boxesOk_cons rfl (fun i hi=>?_) ?_ (fun i hi=>?_) ?_|refine sub_int ?_|refine sub_own_eq ?_ ?_|refine sub_gr_eq ?_ ?_|exact sub_nil_gr|exact sub_own_gr)|(first|omega|(simp only [IntKind.wrap_i64,IntKind.wrap_u64,List.length_append,List.length_singleton,List.length_cons,List.length_nil];omega))|((first|show AV.cl _ _|show clL _ _);simp [AV.cl,clL,Leaf.cl,clV];done)|(dsimp only [ite00];done)|(with_reducible first|exact SubLv.refl _|refine subLv_int ?_ ?_|refine subLv_frac ?_ ?_)|(dsimp only [ite00];with_reducible exact SubLv.refl _)|fail))
      rw [e.1];exact Sub.refl _
  rintro _ -
  have c_p:=r_point t (by omega)
  rw [upSep_miss hsep] at c_p
  have en:(bs t).extract 0 t.length=bs t:=by rw [bs_extract];simp
  have c_d:=r_Digits t (by omega)
  by_cases h:isD t∧t≠[]
  · rw [if_pos h] at hr
    rw [decide_eq_true h.1] at c_d
    have hn0:t.length≠0:=fun e=>h.2 (List.length_eq_zero_iff.1 e)
    have c_pa:=r_parse t h.1 (by omega)
    rw [←en] at c_d c_pa
    have c_w:=r_whole 1 (by decide) (by decide)
    have hv:=valD_bits h.1 (show t.length≤4096 by omega)
    generalize valD t=v at *
    have c_m:=r_minus (v:Int) (Nat.le_trans (rl_two (k:=4*4096) (nat_lt hv)) (by decide))
    have c_f:=r_prF neg v 1 (by decide) hv (one_2k (k:=4096) (by decide)) (by decide)
    have c_l:=r_Large (prQ neg v 1) (Q_sgn (by decide) hv (one_2k (k:=4096) (by decide))) (by decide)
    unfold prR at hr
    rw [if_neg (by decide)] at hr
    subst hr
    have hone:(toI (digs BR (Int.natAbs 1))).length=1:=rfl
    generalize prQ neg v 1=q at *
    cases hb:bigQ q <;> rw [hb] at c_l <;> simp only [if_true,Bool.false_eq_true,if_false] at c_l
    all_goals
      cases neg
      · have e:=congrArg List.length (hf3 rfl)
        have c_f:Ax.Pure Tryz.prog G 139 [rA (v:Int),rA 1] _:=c_f
        repeat' (first|(with_reducible first|refine Wp_seq ?_|refine zr0 hc ?_|refine zm0 hc ?_|refine zwk ?_|refine Wp_block ?_|refine zgo ?_|refine zbn ?_|refine zge Tryz.results23 ?_|refine Sub.refl _|refine allP_nil|refine zoa1 (out':=?_) ?_|refine zca1 (y:=?_) ?_|refine zea1 (eo':=?_) ?_)|(with_reducible refine allP_cons ?_ ?_;focus (first|decide|omega))|(with_reducible first|refine zg2 ?_ ?_|refine zoc c_p ?_ ?_|refine zoc c_d ?_ ?_|refine zoc c_pa ?_ ?_|refine zoc c_w ?_ ?_|refine zoc c_f ?_ ?_|refine zoc c_l ?_ ?_|refine zbo ?_|refine zg3 ?_ (fun h=>?_) (fun h=>?_)|refine zg4 (fun h=>?_) (fun h=>?_)|fail)|((first|omega|(refine nf1 ?_;with_reducible assumption)|(refine nf2 ?_;with_reducible assumption));done))
        all_goals exact Sub.refl _
      · have e:=hf2 rfl
        have c_f:Ax.Pure Tryz.prog G 139 [rA (-(v:Int)),rA 1] _:=c_f
        repeat' (first|(with_reducible first|refine Wp_seq ?_|refine zr0 hc ?_|refine zm0 hc ?_|refine zwk ?_|refine Wp_block ?_|refine zgo ?_|refine zbn ?_|refine zge Tryz.results23 ?_|refine Sub.refl _|refine allP_nil|refine zoa1 (out':=?_) ?_|refine zca1 (y:=?_) ?_|refine zea1 (eo':=?_) ?_)|(with_reducible refine allP_cons ?_ ?_;focus (first|decide|omega))|(with_reducible first|refine zg2 ?_ ?_|refine zoc c_p ?_ ?_|refine zoc c_d ?_ ?_|refine zoc c_pa ?_ ?_|refine zoc c_w ?_ ?_|refine zoc c_m ?_ ?_|refine zoc c_f ?_ ?_|refine zoc c_l ?_ ?_|refine zbo ?_|refine zg3 ?_ (fun h=>?_) (fun h=>?_)|refine zg4 (fun h=>?_) (fun h=>?_)|fail)|((first|omega|(refine nf1 ?_;with_reducible assumption)|(refine nf2 ?_;with_reducible assumption));done))
        all_goals exact Sub.refl _
  · rw [if_neg h] at hr
    subst hr
    by_cases h1:isD t
    · rw [decide_eq_true h1] at c_d
      have hn0:t= []:=Classical.byContradiction fun e=>h ⟨h1,e⟩
      rw [←en] at c_d
      have hn1:t.length=0:=by rw [hn0];rfl
      repeat' (first|(with_reducible first|refine Wp_seq ?_|refine zr0 hc ?_|refine zm0 hc ?_|refine zwk ?_|refine Wp_block ?_|refine zgo ?_|refine zbn ?_|refine zge Tryz.results23 ?_|refine Sub.refl _|refine allP_nil|refine zoa1 (out':=?_) ?_|refine zca1 (y:=?_) ?_|refine zea1 (eo':=?_) ?_)|(with_reducible refine allP_cons ?_ ?_;focus (first|decide|omega))|(with_reducible first|refine zg2 ?_ ?_|refine zoc c_p ?_ ?_|refine zoc c_d ?_ ?_|refine zbo ?_|refine zg3 ?_ (fun h=>?_) (fun h=>?_)|refine zg4 (fun h=>?_) (fun h=>?_)|fail)|((first|omega|(refine nf1 ?_;with_reducible assumption)|(refine nf2 ?_;with_reducible assumption));done))
    · rw [decide_eq_false h1] at c_d
      rw [←en] at c_d
      repeat' (first|(with_reducible first|refine Wp_seq ?_|refine zr0 hc ?_|refine zm0 hc ?_|refine zwk ?_|refine Wp_block ?_|refine zgo ?_|refine zbn ?_|refine zge Tryz.results23 ?_|refine Sub.refl _|refine allP_nil|refine zoa1 (out':=?_) ?_|refine zca1 (y:=?_) ?_|refine zea1 (eo':=?_) ?_)|(with_reducible refine allP_cons ?_ ?_;focus (first|decide|omega))|(with_reducible first|refine zg2 ?_ ?_|refine zoc c_p ?_ ?_|refine zoc c_d ?_ ?_|refine zbo ?_|refine zg3 ?_ (fun h=>?_) (fun h=>?_)|refine zg4 (fun h=>?_) (fun h=>?_)|fail)|((first|omega|(refine nf1 ?_;with_reducible assumption)|(refine nf2 ?_;with_reducible assumption));done))
end Go.Proofs
end
