/- Lemmas on the program and its library: part XR24. -/
import Derived.Test.YtoiejgkkcfkliaaGreatDoorXR22
set_option linter.unusedVariables false
set_option linter.unusedSimpArgs false
section
set_option maxHeartbeats 4000000
set_option maxRecDepth 100000
namespace Go.Proofs
open Go.Ax
abbrev rL (z:Int):List Leaf:=[.v (.bool (decide (z < 0))),.ints .i64 (toI (digs BR z.natAbs))]
theorem byteD_at (n d:List UInt8) (c:UInt8) (j:Nat):(n++c :: d).toArray.getD (n.length+1+j) 0=d.getD j 0:=by
  rw [getD_arr2]
  simp only [List.getD_eq_getElem?_getD]
  rw [List.getElem?_append_right (by omega),show n.length+1+j - n.length=j+1 by omega,List.getElem?_cons_succ]
theorem valD_step (n d:List UInt8) {j:Nat} (h:j < d.length) (hd:isD d):48≤(d.getD j 0).toNat∧(d.getD j 0).toNat≤57∧valD (n++d.take (j+1))=valD (n++d.take j)*10+((d.getD j 0).toNat - 48):=by
  have hm:=hd (d.getD j 0) (by rw [List.getD_eq_getElem?_getD,List.getElem?_eq_getElem h];exact List.getElem_mem h)
  refine ⟨hm.1,hm.2,?_⟩
  have e:d.take (j+1)=d.take j++ [d.getD j 0]:=by
    rw [List.take_add_one,List.getElem?_eq_getElem h,List.getD_eq_getElem?_getD,List.getElem?_eq_getElem h];rfl
  rw [e,←List.append_assoc,valD_append,valD_cons,valD_nil]
  simp
theorem r_Parse_dot (neg:Bool) (n d:List UInt8) (h45:neg=false→(n++46 :: d).head?≠some 45) (hsep:∀x∈n,sepB x=false) (hl:(prT neg (n++46 :: d)).length≤4096) :
    Ax.Pure Tryz.prog G 23 [S (bs (prT neg (n++46 :: d)))] (if (isD n∧n≠[])∧(isD d∧d≠[]) then prR neg (valD (n++d)) (10 ^ d.length) else .tup [S ⟨#[]⟩,N 28]):=by
  obtain ⟨r,hr,hcl⟩:∃r:AV,(r=if (isD n∧n≠[])∧(isD d∧d≠[]) then prR neg (valD (n++d)) (10 ^ d.length) else .tup [S ⟨#[]⟩,N 28])∧r.cl 0:=⟨_,rfl,by split;exact prR_cl _ _ _;exact ⟨trivial,trivial,trivial⟩⟩
  rw [←hr]
  obtain ⟨t,ht⟩:∃t,t=n++46 :: d:=⟨_,rfl⟩
  rw [←ht] at h45 hl ⊢
  obtain ⟨hf1,hf2,hf3⟩:=prT_facts neg t h45
  have htl:=prT_len neg t
  obtain ⟨a,hA⟩:∃a,a=prT neg t:=⟨_,rfl⟩
  rw [←hA] at hf1 hf2 hf3 hl htl ⊢
  have hz:=bs_size a
  have hzt:=bs_size t
  have ga:=getD_arr2 a 0
  refine spec_of_wp tt_ok Tryz.func23 rfl (by kernel_rfl) G_below ⟨by simp [clV,AV.cl,clL,Leaf.cl],hcl⟩ (by rw [Tryz.ntmps23];exact of_decide_eq_true rfl) ?_
  intro w0 E0 hc
  repeat' (first|(with_reducible first|refine Wp_seq ?_|refine zwk ?_|refine Wp_block ?_|refine zgo ?_|refine zbn ?_|refine zge Tryz.results23 ?_|refine Sub.refl _|refine allP_nil|refine zoa1 (out':=?_) ?_|refine zca1 (y:=?_) ?_|refine zea1 (eo':=?_) ?_)|(with_reducible refine zrs [4] hc ?_ ?_;focus (with_unfolding_all rfl))|(with_reducible refine zrm [4] hc mixed ?_ ?_;focus (with_unfolding_all rfl))|(with_reducible refine allP_cons ?_ ?_;focus (first|decide|omega))|(with_reducible first|refine zg2 ?_ ?_|refine zbo ?_|refine zg3 ?_ (fun h=>?_) (fun h=>?_)|refine zg4 (fun h=>?_) (fun h=>?_)|fail)|(omega;done))
  refine Wp_join2 (α:=Unit) (fun _=>stOf [(0,S (bs a)),(4,S (bs t))] [] 0) (fun _=>True) ?_ ?_
  · rw [←ga] at hf1
    cases neg
    · have hf1':¬(0 < a.length∧((a.toArray.getD 0 0).toNat:Int)=45):=fun h=>Bool.false_ne_true (hf1.1 h)
      have e:=hf3 rfl
      repeat' (first|(with_reducible first|refine Wp_seq ?_|refine zwk ?_|refine Wp_block ?_|refine zgo ?_|refine zbn ?_|refine zge Tryz.results23 ?_|refine Sub.refl _|refine allP_nil|refine zoa1 (out':=?_) ?_|refine zca1 (y:=?_) ?_|refine zea1 (eo':=?_) ?_)|(with_reducible refine zrs [6] hc ?_ ?_;focus (with_unfolding_all rfl))|(with_reducible refine zrm [6] hc mixed ?_ ?_;focus (with_unfolding_all rfl))|(with_reducible refine allP_cons ?_ ?_;focus (first|decide|omega))|(with_reducible first|refine zg2 ?_ ?_|refine zbo ?_|refine zg3 ?_ (fun h=>?_) (fun h=>?_)|refine zg4 (fun h=>?_) (fun h=>?_)|fail)|(omega;done))
      all_goals
        refine ⟨(),trivial,?_⟩
        refine zwa1 (l1:=?_) (h1:=?_) ?_ ?_ <;> (repeat' (first|(with_reducible first|exact slotsOk_nil|exact boxesOk_nil|refine slotsOk_eq ?_ ?_|refine slotsOk_cons ?_ ?_ ?_|refine boxesOk_one rfl ?_ ?_ ?_|refine boxesOk_cons rfl (fun i hi=>?_) ?_ (fun i hi=>?_) ?_|refine sub_int ?_|refine sub_own_eq ?_ ?_|refine sub_gr_eq ?_ ?_|exact sub_nil_gr|exact sub_own_gr)|(first|omega|(simp only [IntKind.wrap_i64,IntKind.wrap_u64,List.length_append,List.length_singleton,List.length_cons,List.length_nil];omega))|((first|show AV.cl _ _|show clL _ _);simp [AV.cl,clL,Leaf.cl,clV];done)|(dsimp only [ite00];done)|(with_reducible first|exact SubLv.refl _|refine subLv_int ?_ ?_|refine subLv_frac ?_ ?_)|(dsimp only [ite00];with_reducible exact SubLv.refl _)|fail))
        rw [e];exact Sub.refl _
    · have hf1':=hf1.2 rfl
      have e:=hf2 rfl
      repeat' (first|(with_reducible first|refine Wp_seq ?_|refine zwk ?_|refine Wp_block ?_|refine zgo ?_|refine zbn ?_|refine zge Tryz.results23 ?_|refine Sub.refl _|refine allP_nil|refine zoa1 (out':=?_) ?_|refine zca1 (y:=?_) ?_|refine zea1 (eo':=?_) ?_)|(with_reducible refine zrs [6] hc ?_ ?_;focus (with_unfolding_all rfl))|(with_reducible refine zrm [6] hc mixed ?_ ?_;focus (with_unfolding_all rfl))|(with_reducible refine allP_cons ?_ ?_;focus (first|decide|omega))|(with_reducible first|refine zg2 ?_ ?_|refine zbo ?_|refine zg3 ?_ (fun h=>?_) (fun h=>?_)|refine zg4 (fun h=>?_) (fun h=>?_)|fail)|(omega;done))
      refine ⟨(),trivial,?_⟩
      refine zwa1 (l1:=?_) (h1:=?_) ?_ ?_ <;> (repeat' (first|(with_reducible first|exact slotsOk_nil|exact boxesOk_nil|refine slotsOk_eq ?_ ?_|refine slotsOk_cons ?_ ?_ ?_|refine boxesOk_one rfl ?_ ?_ ?_|refine boxesOk_cons rfl (fun i hi=>?_) ?_ (fun i hi=>?_) ?_|refine sub_int ?_|refine sub_own_eq ?_ ?_|refine sub_gr_eq ?_ ?_|exact sub_nil_gr|exact sub_own_gr)|(first|omega|(simp only [IntKind.wrap_i64,IntKind.wrap_u64,List.length_append,List.length_singleton,List.length_cons,List.length_nil];omega))|((first|show AV.cl _ _|show clL _ _);simp [AV.cl,clL,Leaf.cl,clV];done)|(dsimp only [ite00];done)|(with_reducible first|exact SubLv.refl _|refine subLv_int ?_ ?_|refine subLv_frac ?_ ?_)|(dsimp only [ite00];with_reducible exact SubLv.refl _)|fail))
      rw [e.1];exact Sub.refl _
  rintro _ -
  have tl:t.length=n.length+(d.length+1):=by rw [ht,List.length_append,List.length_cons]
  have c_p:=r_point t (by omega)
  rw [show upSep t=n by rw [ht];exact upSep_hit hsep rfl] at c_p
  have en:(bs t).extract 0 n.length=bs n:=by rw [bs_extract,ht];simp
  have w1:IntKind.i64.wrap ((n.length:Int)+1)=((n.length+1:Nat):Int):=by rw [IntKind.wrap_i64];omega
  have ed:(bs t).extract (IntKind.i64.wrap ((n.length:Int)+1)).toNat (bs t).size=bs d:=by
    rw [w1,Int.toNat_natCast,bs_extract,hzt,List.take_of_length_le (by rw [List.length_drop];omega),ht]
    simp
  have S1:0≤IntKind.i64.wrap ((n.length:Int)+1)∧IntKind.i64.wrap ((n.length:Int)+1)≤((bs t).size:Nat)∧((bs t).size:Int)≤((bs t).size:Nat):=by rw [w1];omega
  have gk:((t.toArray.getD n.length 0).toNat:Int)=46:=by rw [getD_arr2,ht];simp
  have c_d1:=r_Digits n (by omega)
  have c_d2:=r_Digits d (by omega)
  by_cases h1:isD n∧n≠[]
  · have hn0:n.length≠0:=fun e=>h1.2 (List.length_eq_zero_iff.1 e)
    by_cases h2:isD d∧d≠[]
    · have hd0:d.length≠0:=fun e=>h2.2 (List.length_eq_zero_iff.1 e)
      rw [if_pos ⟨h1,h2⟩] at hr
      rw [decide_eq_true h1.1,←en] at c_d1
      rw [decide_eq_true h2.1,←ed] at c_d2
      have c_pn:=r_parse n h1.1 (by omega)
      rw [←en] at c_pn
      have c_w:=r_whole 1 (by decide) (by decide)
      have hD:isD (n++d):=isD_append.2 ⟨h1.1,h2.1⟩
      have hLL:(n++d).length≤4096:=by rw [List.length_append];omega
      obtain ⟨K,hK⟩:∃K:Nat,K=4*4097:=⟨_,rfl⟩
      have hpp:0 < 10 ^ d.length:=Nat.pow_pos (by decide)
      have hpz:10 ^ d.length < 2 ^ K:=by rw [hK];exact ten_two_lt (n:=4097) (by omega)
      unfold prR at hr
      rw [if_neg (by omega)] at hr
      subst hr
      repeat' (first|(with_reducible first|refine Wp_seq ?_|refine zwk ?_|refine Wp_block ?_|refine zgo ?_|refine zbn ?_|refine zge Tryz.results23 ?_|refine Sub.refl _|refine allP_nil|refine zoa1 (out':=?_) ?_|refine zca1 (y:=?_) ?_|refine zea1 (eo':=?_) ?_)|(with_reducible refine zrs [14] hc ?_ ?_;focus (with_unfolding_all rfl))|(with_reducible refine zrm [14] hc mixed ?_ ?_;focus (with_unfolding_all rfl))|(with_reducible refine allP_cons ?_ ?_;focus (first|decide|omega))|(with_reducible first|refine zg2 ?_ ?_|refine zoc c_p ?_ ?_|refine zoc c_d1 ?_ ?_|refine zoc c_d2 ?_ ?_|refine zoc c_pn ?_ ?_|refine zoc c_w ?_ ?_|refine zbo ?_|refine zg3 ?_ (fun h=>?_) (fun h=>?_)|refine zg4 (fun h=>?_) (fun h=>?_)|fail)|((first|omega|exact S1|(refine nf1 ?_;with_reducible assumption)|(refine nf2 ?_;with_reducible assumption));done))
      refine Wp_loopI (α:=Nat) (fun j=>stOf [(0,S (bs a)),(4,S (bs t)),(5,N n.length),(6,.one (.ptr 0 2 0 0)),(7,.one (.ptr 1 2 0 0)),(8,N (n.length+1+j:Nat))] [(0,⟨2,1,fun _=>rL (valD (n++d.take j):Nat),false⟩),(1,⟨2,1,fun _=>rL (10 ^ j:Nat),false⟩)] 2)
        (fun j=>j≤d.length) (fun j=>d.length - j) 0 (Nat.zero_le _) ?_ ?_
      · refine zwa1 (l1:=?_) (h1:=?_) ?_ ?_ <;> (repeat' (first|(with_reducible first|exact slotsOk_nil|exact boxesOk_nil|refine slotsOk_eq ?_ ?_|refine slotsOk_cons ?_ ?_ ?_|refine boxesOk_one rfl ?_ ?_ ?_|refine boxesOk_cons rfl (fun i hi=>?_) ?_ (fun i hi=>?_) ?_|refine sub_int ?_|refine sub_own_eq ?_ ?_|refine sub_gr_eq ?_ ?_|exact sub_nil_gr|exact sub_own_gr)|(first|omega|(simp only [IntKind.wrap_i64,IntKind.wrap_u64,List.length_append,List.length_singleton,List.length_cons,List.length_nil];omega))|((first|show AV.cl _ _|show clL _ _);simp [AV.cl,clL,Leaf.cl,clV];done)|(dsimp only [ite00];done)|(with_reducible first|exact SubLv.refl _|refine subLv_int ?_ ?_|refine subLv_frac ?_ ?_)|(dsimp only [ite00];with_reducible exact SubLv.refl _)|fail))
        · rw [if_pos rfl,List.take_zero,List.append_nil];exact SubLv.refl _
        · rw [if_pos rfl];exact SubLv.refl _
      · intro j hj
        have hbj:=byteD_at n d 46 j
        have hsj:=fun h:j < d.length=>valD_step n d h h2.1
        rw [←ht] at hbj
        have hVj:valD (n++d.take j) < 2 ^ K:=by rw [hK];exact up_2k (m:=4096) (n:=4097) (valD_bits (n:=4096) (isD_append.2 ⟨h1.1,isD_take h2.1 j⟩) (show (n++d.take j).length≤4096 by rw [List.length_append,List.length_take];omega)) (by decide)
        have hPj:10 ^ j < 2 ^ K:=Nat.lt_of_le_of_lt (Nat.pow_le_pow_right (by decide) hj) hpz
        have zV:rl (valD (n++d.take j):Nat)≤K:=rl_two (nat_lt hVj)
        have zP:rl (10 ^ j:Nat)≤K:=rl_two (nat_lt hPj)
        have eP:((10 ^ (j+1):Nat):Int)=(10 ^ j:Nat)*10:=by rw [Nat.pow_succ];exact Int.natCast_mul _ _
        have c_m:=r_minus (valD (n++d.take j):Int) (Nat.le_trans zV (by omega))
        have c_f:=r_prF neg (valD (n++d.take j)) (10 ^ j) (Nat.pos_iff_ne_zero.1 (Nat.pow_pos (by decide))) hVj hPj (by omega)
        have c_l:=r_Large (prQ neg (valD (n++d.take j)) (10 ^ j)) (Q_sgn (Nat.pos_iff_ne_zero.1 (Nat.pow_pos (by decide))) hVj hPj) (by omega)
        have hz2:¬((toI (digs BR (Int.natAbs ((10 ^ j:Nat):Int)))).length:Int)=0:=by
          rw [toI_len,Int.natAbs_natCast]
          intro h
          have:=(digs_nil (B:=BR) BR2).1 (List.length_eq_zero_iff.1 (Int.ofNat.inj h))
          exact absurd this (Nat.pos_iff_ne_zero.1 (Nat.pow_pos (by decide)))
        clear hpz hpp hVj hPj
        generalize hV:valD (n++d.take j)=V at *
        have z10:rl (10:Int)≤1:=rl_le (by decide)
        have zm:=rl_mul (V:Int) 10
        have c_w10:=r_whole 10 (by decide) (by decide)
        have c_t1:=r_times (V:Int) 10 (by omega) (by omega)
        have c_t2:=r_times ((10 ^ j:Nat):Int) 10 (by omega) (by omega)
        generalize hP:10 ^ j=P at *
        obtain ⟨D,hDD⟩:∃D:Nat,D=(d.getD j 0).toNat - 48:=⟨_,rfl⟩
        have hbD:j < d.length→IntKind.i64.wrap (IntKind.i64.wrap ((t.toArray.getD (n.length+1+j) 0).toNat:Int) - 48)=(D:Nat)∧D≤9:=fun h=>by
          obtain ⟨q1,q2,q3⟩:=hsj h
          rw [hbj]
          rw [w64 (x:=((d.getD j 0).toNat:Int)) (by omega) (by omega),w64 (by omega) (by omega)]
          omega
        have c_ws:j < d.length→Ax.Pure Tryz.prog G 135 [N (IntKind.i64.wrap (IntKind.i64.wrap ((t.toArray.getD (n.length+1+j) 0).toNat:Int) - 48))] (rA (D:Nat)):=fun h=>by
          obtain ⟨q1,q2⟩:=hbD h
          rw [q1]
          exact r_whole _ (by omega) (by omega)
        have c_pl:j < d.length→Ax.Pure Tryz.prog G 136 [rA ((V:Int)*10),rA (D:Nat)] (rA ((V:Int)*10+(D:Nat))):=fun h=>by
          obtain ⟨q1,q2⟩:=hbD h
          exact r_plus _ _ (by omega) (Nat.le_trans (rl_le (k:=1) (by rw [Int.natAbs_natCast];exact Nat.lt_of_le_of_lt q2 (by decide))) (by decide))
        have hend:¬j < d.length→j=d.length:=fun h=>by omega
        clear zm zV zP z10
        repeat' (first|(with_reducible first|refine Wp_seq ?_|refine zwk ?_|refine Wp_block ?_|refine zgo ?_|refine zbn ?_|refine zge Tryz.results23 ?_|refine Sub.refl _|refine allP_nil|refine zoa1 (out':=?_) ?_|refine zca1 (y:=?_) ?_|refine zea1 (eo':=?_) ?_)|(with_reducible refine zrs [18] hc ?_ ?_;focus (with_unfolding_all rfl))|(with_reducible refine zrm [18] hc mixed ?_ ?_;focus (with_unfolding_all rfl))|(with_reducible refine allP_cons ?_ ?_;focus (first|decide|omega))|(with_reducible first|refine zg2 ?_ ?_|refine zoc c_w10 ?_ ?_|refine zoc c_t1 ?_ ?_|refine zoc c_t2 ?_ ?_|refine zoc (c_ws ?_) ?_ ?_|refine zoc (c_pl ?_) ?_ ?_|refine zbo ?_|refine zg3 ?_ (fun h=>?_) (fun h=>?_)|refine zg4 (fun h=>?_) (fun h=>?_)|fail)|((first|omega|exact S1|(refine nf1 ?_;with_reducible assumption)|(refine nf2 ?_;with_reducible assumption));done))
        · have hjd:j < d.length:=by omega
          obtain ⟨q1,q2,q3⟩:=hsj hjd
          refine ⟨j+1,hjd,by omega,?_⟩
          refine zwa1 (l1:=?_) (h1:=?_) ?_ ?_ <;> (repeat' (first|(with_reducible first|exact slotsOk_nil|exact boxesOk_nil|refine slotsOk_eq ?_ ?_|refine slotsOk_cons ?_ ?_ ?_|refine boxesOk_one rfl ?_ ?_ ?_|refine boxesOk_cons rfl (fun i hi=>?_) ?_ (fun i hi=>?_) ?_|refine sub_int ?_|refine sub_own_eq ?_ ?_|refine sub_gr_eq ?_ ?_|exact sub_nil_gr|exact sub_own_gr)|(first|omega|(simp only [IntKind.wrap_i64,IntKind.wrap_u64,List.length_append,List.length_singleton,List.length_cons,List.length_nil];omega))|((first|show AV.cl _ _|show clL _ _);simp [AV.cl,clL,Leaf.cl,clV];done)|(dsimp only [ite00];done)|(with_reducible first|exact SubLv.refl _|refine subLv_int ?_ ?_|refine subLv_frac ?_ ?_)|(dsimp only [ite00];with_reducible exact SubLv.refl _)|fail))
          · rw [if_pos rfl,q3,←hDD,Int.natCast_add,Int.natCast_mul];exact SubLv.refl _
          · rw [if_pos rfl,eP];exact SubLv.refl _
        · have ej:=hend (by omega)
          subst ej
          rw [List.take_length] at hV
          rw [hV,hP]
          clear hV hP hsj hbD c_ws c_pl hend hbj eP c_t1 c_t2 c_w10
          generalize prQ neg V P=q at *
          cases hb:bigQ q <;> rw [hb] at c_l <;> simp only [if_true,Bool.false_eq_true,if_false] at c_l
          all_goals
            cases neg
            · have e:=congrArg List.length (hf3 rfl)
              have c_f:Ax.Pure Tryz.prog G 139 [rA (V:Int),rA (P:Int)] _:=c_f
              repeat' (first|(with_reducible first|refine Wp_seq ?_|refine zr0 hc ?_|refine zm0 hc ?_|refine zwk ?_|refine Wp_block ?_|refine zgo ?_|refine zbn ?_|refine zge Tryz.results23 ?_|refine Sub.refl _|refine allP_nil|refine zoa1 (out':=?_) ?_|refine zca1 (y:=?_) ?_|refine zea1 (eo':=?_) ?_)|(with_reducible refine allP_cons ?_ ?_;focus (first|decide|omega))|(with_reducible first|refine zg2 ?_ ?_|refine zoc c_f ?_ ?_|refine zoc c_l ?_ ?_|refine zbo ?_|refine zg3 ?_ (fun h=>?_) (fun h=>?_)|refine zg4 (fun h=>?_) (fun h=>?_)|fail)|((first|omega|exact S1|(refine nf1 ?_;with_reducible assumption)|(refine nf2 ?_;with_reducible assumption));done))
              all_goals exact Sub.refl _
            · have e:=hf2 rfl
              have c_f:Ax.Pure Tryz.prog G 139 [rA (-(V:Int)),rA (P:Int)] _:=c_f
              repeat' (first|(with_reducible first|refine Wp_seq ?_|refine zr0 hc ?_|refine zm0 hc ?_|refine zwk ?_|refine Wp_block ?_|refine zgo ?_|refine zbn ?_|refine zge Tryz.results23 ?_|refine Sub.refl _|refine allP_nil|refine zoa1 (out':=?_) ?_|refine zca1 (y:=?_) ?_|refine zea1 (eo':=?_) ?_)|(with_reducible refine allP_cons ?_ ?_;focus (first|decide|omega))|(with_reducible first|refine zg2 ?_ ?_|refine zoc c_m ?_ ?_|refine zoc c_f ?_ ?_|refine zoc c_l ?_ ?_|refine zbo ?_|refine zg3 ?_ (fun h=>?_) (fun h=>?_)|refine zg4 (fun h=>?_) (fun h=>?_)|fail)|((first|omega|exact S1|(refine nf1 ?_;with_reducible assumption)|(refine nf2 ?_;with_reducible assumption));done))
              all_goals exact Sub.refl _
    · rw [if_neg (fun h=>h2 h.2)] at hr
      subst hr
      rw [decide_eq_true h1.1,←en] at c_d1
      by_cases h3:isD d
      · rw [decide_eq_true h3,←ed] at c_d2
        have hn1:d.length=0:=List.length_eq_zero_iff.2 (Classical.byContradiction fun e=>h2 ⟨h3,e⟩)
        repeat' (first|(with_reducible first|refine Wp_seq ?_|refine zr0 hc ?_|refine zm0 hc ?_|refine zwk ?_|refine Wp_block ?_|refine zgo ?_|refine zbn ?_|refine zge Tryz.results23 ?_|refine Sub.refl _|refine allP_nil|refine zoa1 (out':=?_) ?_|refine zca1 (y:=?_) ?_|refine zea1 (eo':=?_) ?_)|(with_reducible refine allP_cons ?_ ?_;focus (first|decide|omega))|(with_reducible first|refine zg2 ?_ ?_|refine zoc c_p ?_ ?_|refine zoc c_d1 ?_ ?_|refine zoc c_d2 ?_ ?_|refine zbo ?_|refine zg3 ?_ (fun h=>?_) (fun h=>?_)|refine zg4 (fun h=>?_) (fun h=>?_)|fail)|((first|omega|exact S1|(refine nf1 ?_;with_reducible assumption)|(refine nf2 ?_;with_reducible assumption));done))
      · rw [decide_eq_false h3,←ed] at c_d2
        repeat' (first|(with_reducible first|refine Wp_seq ?_|refine zr0 hc ?_|refine zm0 hc ?_|refine zwk ?_|refine Wp_block ?_|refine zgo ?_|refine zbn ?_|refine zge Tryz.results23 ?_|refine Sub.refl _|refine allP_nil|refine zoa1 (out':=?_) ?_|refine zca1 (y:=?_) ?_|refine zea1 (eo':=?_) ?_)|(with_reducible refine allP_cons ?_ ?_;focus (first|decide|omega))|(with_reducible first|refine zg2 ?_ ?_|refine zoc c_p ?_ ?_|refine zoc c_d1 ?_ ?_|refine zoc c_d2 ?_ ?_|refine zbo ?_|refine zg3 ?_ (fun h=>?_) (fun h=>?_)|refine zg4 (fun h=>?_) (fun h=>?_)|fail)|((first|omega|exact S1|(refine nf1 ?_;with_reducible assumption)|(refine nf2 ?_;with_reducible assumption));done))
  · rw [if_neg (fun h=>h1 h.1)] at hr
    subst hr
    by_cases h3:isD n
    · rw [decide_eq_true h3,←en] at c_d1
      have hn1:n.length=0:=List.length_eq_zero_iff.2 (Classical.byContradiction fun e=>h1 ⟨h3,e⟩)
      repeat' (first|(with_reducible first|refine Wp_seq ?_|refine zr0 hc ?_|refine zm0 hc ?_|refine zwk ?_|refine Wp_block ?_|refine zgo ?_|refine zbn ?_|refine zge Tryz.results23 ?_|refine Sub.refl _|refine allP_nil|refine zoa1 (out':=?_) ?_|refine zca1 (y:=?_) ?_|refine zea1 (eo':=?_) ?_)|(with_reducible refine allP_cons ?_ ?_;focus (first|decide|omega))|(with_reducible first|refine zg2 ?_ ?_|refine zoc c_p ?_ ?_|refine zoc c_d1 ?_ ?_|refine zbo ?_|refine zg3 ?_ (fun h=>?_) (fun h=>?_)|refine zg4 (fun h=>?_) (fun h=>?_)|fail)|((first|omega|exact S1|(refine nf1 ?_;with_reducible assumption)|(refine nf2 ?_;with_reducible assumption));done))
    · rw [decide_eq_false h3,←en] at c_d1
      repeat' (first|(with_reducible first|refine Wp_seq ?_|refine zr0 hc ?_|refine zm0 hc ?_|refine zwk ?_|refine Wp_block ?_|refine zgo ?_|refine zbn ?_|refine zge Tryz.results23 ?_|refine Sub.refl _|refine allP_nil|refine zoa1 (out':=?_) ?_|refine zca1 (y:=?_) ?_|refine zea1 (eo':=?_) ?_)|(with_reducible refine allP_cons ?_ ?_;focus (first|decide|omega))|(with_reducible first|refine zg2 ?_ ?_|refine zoc c_p ?_ ?_|refine zoc c_d1 ?_ ?_|refine zbo ?_|refine zg3 ?_ (fun h=>?_) (fun h=>?_)|refine zg4 (fun h=>?_) (fun h=>?_)|fail)|((first|omega|exact S1|(refine nf1 ?_;with_reducible assumption)|(refine nf2 ?_;with_reducible assumption));done))
end Go.Proofs
end
