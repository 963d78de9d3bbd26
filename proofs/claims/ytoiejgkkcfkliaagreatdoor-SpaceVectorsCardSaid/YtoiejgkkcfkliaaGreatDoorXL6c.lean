/- Lemmas on the program and its library: part XL6c. -/
import Derived.Test.YtoiejgkkcfkliaaGreatDoorXL6a
set_option linter.unusedVariables false
set_option linter.unusedSimpArgs false
section
set_option maxHeartbeats 8000000
set_option maxRecDepth 100000
namespace Go.Proofs
open Go.Ax
theorem vec_own {a b:V3} {c:List UInt8} (ha:fstVec a=0) (hc:checkL c=0) (sa:shortV a) (sb:shortV b) (lc:c.length≤40) (c_sh:Ax.Pure Tryz.prog G 36 [N 40,.one (.row 3 2 (fun i=> [leafV a,leafV b].getD i []))] (Bo true)):Ax.Pure Tryz.prog G 16 [txV a,txV b,S (bs c)] (Bo true):=by
  have c_aw:=c_awake
  have hsc:=bs_size c
  have c_cv:=s_CheckVec sa
  have r_cva:=r_CheckV sa
  have r_cvb:=r_CheckV sb
  have r_cc:=r_Check c (Nat.le_trans lc (by decide))
  have c_f:=l_first2 (fstVec a) (fstVec b)
  have c_fo:=l_first2 (checkL c) (fstVec a)
  obtain ⟨_,_,_,c_sq,r_sq,p_sq⟩:=ok_square ha
  obtain ⟨_,_,_,_,_,_,_,c_sc,r_sc,p_sc⟩:=ok_scale hc ha
  rw [ha] at c_cv r_cva c_f c_fo
  rw [nz0] at c_f
  rw [hc] at r_cc c_fo
  have c_fo:Ax.Pure Tryz.prog G 30 _ (N 0):=c_fo
  by_cases hb:fstVec b=0
  rotate_left
  · rw [show firstNZ [fstVec b]=fstVec b from nz1 hb] at c_f
    obtain ⟨c_add,c_sub,c_dot,c_crs,c_al⟩:=bad_two (e:=fstVec b) sa sb (by show firstNZ [fstVec a,fstVec b]=_;rw [ha,nz0,nz1 hb]) hb
    have p_v:=l_pt_bad _ hb [] [] []
    have p_n:=l_num_bad _ hb ⟨#[]⟩
    generalize fstVec b=e at *
    refine zen Tryz.func16 rfl Tryz.ntmps16 ?_
    intro w0 E0 hc
    repeat' (first|(with_reducible first|refine Wp_seq ?_|refine zr0 hc ?_|refine zm0 hc ?_|refine zwk ?_|refine Wp_block ?_|refine zgo ?_|refine zbn ?_|refine zge Tryz.results16 ?_|refine Sub.refl _|refine allP_nil|refine zoa1 (out':=?_) ?_|refine zca1 (y:=?_) ?_|refine zea1 (eo':=?_) ?_)|(with_reducible refine allP_cons ?_ ?_;focus (first|decide|omega))|(with_reducible first|refine zg2 ?_ ?_|refine zoc c_aw ?_ ?_|refine zoc c_sh ?_ ?_|refine zoc c_cv ?_ ?_|refine zoc r_cva ?_ ?_|refine zoc r_cvb ?_ ?_|refine zoc r_cc ?_ ?_|refine zoc c_f ?_ ?_|refine zoc c_fo ?_ ?_|refine zoc c_sq ?_ ?_|refine zoc c_sc ?_ ?_|refine zoc r_sq ?_ ?_|refine zoc p_sq ?_ ?_|refine zoc r_sc ?_ ?_|refine zoc p_sc ?_ ?_|refine zoc c_add ?_ ?_|refine zoc c_sub ?_ ?_|refine zoc c_dot ?_ ?_|refine zoc c_crs ?_ ?_|refine zoc c_al ?_ ?_|refine zoc p_v ?_ ?_|refine zoc p_n ?_ ?_|refine zbo ?_|refine zg3 ?_ (fun h=>?_) (fun h=>?_)|refine zg4 (fun h=>?_) (fun h=>?_)|fail)|((first|omega|(refine nf1 ?_;with_reducible assumption)|(refine nf2 ?_;with_reducible assumption));done))
  rw [hb] at c_f r_cvb
  have c_f:Ax.Pure Tryz.prog G 30 _ (N 0):=c_f
  obtain ⟨⟨_,_,_,_,_,_,_,c_add,r_add,p_add⟩,⟨_,_,_,_,_,_,_,c_sub,r_sub,p_sub⟩,⟨_,_,_,c_dot,r_dot,p_dot⟩,⟨_,_,_,_,_,_,_,c_crs,r_crs,p_crs⟩⟩:=ok_two ha hb
  rcases ok_along ha hb with ⟨r_or,c_al⟩|⟨r_or,_,_,_,_,_,c_al,r_al,c_w,p_al⟩
  · have p_al:=l_num_bad 6 (by decide) ⟨#[]⟩
    refine zen Tryz.func16 rfl Tryz.ntmps16 ?_
    intro w0 E0 hc
    repeat' (first|(with_reducible first|refine Wp_seq ?_|refine zr0 hc ?_|refine zm0 hc ?_|refine zwk ?_|refine Wp_block ?_|refine zgo ?_|refine zbn ?_|refine zge Tryz.results16 ?_|refine Sub.refl _|refine allP_nil|refine zoa1 (out':=?_) ?_|refine zca1 (y:=?_) ?_|refine zea1 (eo':=?_) ?_)|(with_reducible refine allP_cons ?_ ?_;focus (first|decide|omega))|(with_reducible first|refine zg2 ?_ ?_|refine zoc c_aw ?_ ?_|refine zoc c_sh ?_ ?_|refine zoc c_cv ?_ ?_|refine zoc r_cva ?_ ?_|refine zoc r_cvb ?_ ?_|refine zoc r_cc ?_ ?_|refine zoc c_f ?_ ?_|refine zoc c_fo ?_ ?_|refine zoc c_sq ?_ ?_|refine zoc c_sc ?_ ?_|refine zoc r_sq ?_ ?_|refine zoc p_sq ?_ ?_|refine zoc r_sc ?_ ?_|refine zoc p_sc ?_ ?_|refine zoc c_add ?_ ?_|refine zoc c_sub ?_ ?_|refine zoc c_dot ?_ ?_|refine zoc c_crs ?_ ?_|refine zoc r_add ?_ ?_|refine zoc r_sub ?_ ?_|refine zoc r_dot ?_ ?_|refine zoc r_crs ?_ ?_|refine zoc r_or ?_ ?_|refine zoc p_add ?_ ?_|refine zoc p_sub ?_ ?_|refine zoc p_dot ?_ ?_|refine zoc p_crs ?_ ?_|refine zoc c_al ?_ ?_|refine zoc p_al ?_ ?_|refine zbo ?_|refine zg3 ?_ (fun h=>?_) (fun h=>?_)|refine zg4 (fun h=>?_) (fun h=>?_)|fail)|((first|omega|(refine nf1 ?_;with_reducible assumption)|(refine nf2 ?_;with_reducible assumption));done))
  · have c_sh:=c_sh
    refine zen Tryz.func16 rfl Tryz.ntmps16 ?_
    intro w0 E0 hc
    repeat' (first|(with_reducible first|refine Wp_seq ?_|refine zr0 hc ?_|refine zm0 hc ?_|refine zwk ?_|refine Wp_block ?_|refine zgo ?_|refine zbn ?_|refine zge Tryz.results16 ?_|refine Sub.refl _|refine allP_nil|refine zoa1 (out':=?_) ?_|refine zca1 (y:=?_) ?_|refine zea1 (eo':=?_) ?_)|(with_reducible refine allP_cons ?_ ?_;focus (first|decide|omega))|(with_reducible first|refine zg2 ?_ ?_|refine zoc c_aw ?_ ?_|refine zoc c_sh ?_ ?_|refine zoc c_cv ?_ ?_|refine zoc r_cva ?_ ?_|refine zoc r_cvb ?_ ?_|refine zoc r_cc ?_ ?_|refine zoc c_f ?_ ?_|refine zoc c_fo ?_ ?_|refine zoc c_sq ?_ ?_|refine zoc c_sc ?_ ?_|refine zoc r_sq ?_ ?_|refine zoc p_sq ?_ ?_|refine zoc r_sc ?_ ?_|refine zoc p_sc ?_ ?_|refine zoc c_add ?_ ?_|refine zoc c_sub ?_ ?_|refine zoc c_dot ?_ ?_|refine zoc c_crs ?_ ?_|refine zoc r_add ?_ ?_|refine zoc r_sub ?_ ?_|refine zoc r_dot ?_ ?_|refine zoc r_crs ?_ ?_|refine zoc r_or ?_ ?_|refine zoc p_add ?_ ?_|refine zoc p_sub ?_ ?_|refine zoc p_dot ?_ ?_|refine zoc p_crs ?_ ?_|refine zoc c_al ?_ ?_|refine zoc p_al ?_ ?_|refine zoc r_al ?_ ?_|refine zoc c_w ?_ ?_|refine zbo ?_|refine zg3 ?_ (fun h=>?_) (fun h=>?_)|refine zg4 (fun h=>?_) (fun h=>?_)|fail)|((first|omega|(refine nf1 ?_;with_reducible assumption)|(refine nf2 ?_;with_reducible assumption));done))
end Go.Proofs
end
