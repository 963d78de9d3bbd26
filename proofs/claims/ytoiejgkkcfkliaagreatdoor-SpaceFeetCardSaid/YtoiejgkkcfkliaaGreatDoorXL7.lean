/- Lemmas on the program and its library: part XL7. -/
import Derived.Test.YtoiejgkkcfkliaaGreatDoorXFt
set_option linter.unusedVariables false
set_option linter.unusedSimpArgs false
section
set_option maxHeartbeats 8000000
set_option maxRecDepth 100000
namespace Go.Proofs
open Go.Ax
theorem nz3 {a b c:Int} (h:firstNZ [a,b]≠0):firstNZ [a,b,c]=firstNZ [a,b]:=by
  by_cases ha:a=0
  · subst ha
    rw [nz0] at h ⊢
    rw [nz0]
    have hb:b≠0:=fun e=>h (by rw [e];rfl)
    rw [nz1 hb,nz1 hb]
  · rw [nz1 ha,nz1 ha]
theorem w_Feet (h:H4) (p d:V3) (hi:i64 h.x∧i64 h.y∧i64 h.z):Ax.Pure Tryz.prog G 6 [txH h,txV p,txV d] (Bo true):=by
  obtain ⟨x,y,z,hd⟩:=h
  have c_aw:=c_awake
  have hsd:=bs_size hd
  have c_sh:=l_short2 30 (by decide) p d
  by_cases hsh:shVs 30 [p,d]=true
  rotate_left
  · rw [Bool.eq_false_iff.2 hsh] at c_sh
    refine zen Tryz.func6 rfl Tryz.ntmps6 ?_
    intro w0 E0 hc
    repeat' (first|(with_reducible first|refine Wp_seq ?_|refine zr0 hc ?_|refine zm0 hc ?_|refine zwk ?_|refine Wp_block ?_|refine zgo ?_|refine zbn ?_|refine zge Tryz.results6 ?_|refine Sub.refl _|refine allP_nil|refine zoa1 (out':=?_) ?_|refine zca1 (y:=?_) ?_|refine zea1 (eo':=?_) ?_)|(with_reducible refine allP_cons ?_ ?_;focus (first|decide|omega))|(with_reducible first|refine zg2 ?_ ?_|refine zoc c_aw ?_ ?_|refine zoc c_sh ?_ ?_|refine zbo ?_|refine zg3 ?_ (fun h=>?_) (fun h=>?_)|refine zg4 (fun h=>?_) (fun h=>?_)|fail)|((first|omega|(refine nf1 ?_;with_reducible assumption)|(refine nf2 ?_;with_reducible assumption));done))
  rw [hsh] at c_sh
  by_cases lc:hd.length≤30
  rotate_left
  · have lc':30 < (bs hd).size:=by omega
    refine zen Tryz.func6 rfl Tryz.ntmps6 ?_
    intro w0 E0 hc
    repeat' (first|(with_reducible first|refine Wp_seq ?_|refine zr0 hc ?_|refine zm0 hc ?_|refine zwk ?_|refine Wp_block ?_|refine zgo ?_|refine zbn ?_|refine zge Tryz.results6 ?_|refine Sub.refl _|refine allP_nil|refine zoa1 (out':=?_) ?_|refine zca1 (y:=?_) ?_|refine zea1 (eo':=?_) ?_)|(with_reducible refine allP_cons ?_ ?_;focus (first|decide|omega))|(with_reducible first|refine zg2 ?_ ?_|refine zoc c_aw ?_ ?_|refine zoc c_sh ?_ ?_|refine zbo ?_|refine zg3 ?_ (fun h=>?_) (fun h=>?_)|refine zg4 (fun h=>?_) (fun h=>?_)|fail)|((first|omega|(refine nf1 ?_;with_reducible assumption)|(refine nf2 ?_;with_reducible assumption));done))
  obtain ⟨sp,sd⟩:=shVs2.1 hsh
  have sp:=shV_short sp (by decide)
  have sd:=shV_short sd (by decide)
  have sh:shortH ⟨x,y,z,hd⟩:=⟨hi,show hd.length≤900000 by omega⟩
  clear hsh
  have r_ch:=r_CheckH sh.2
  have r_cp:=r_CheckV sp
  have r_cd:=r_CheckV sd
  have c_f:=l_first2 (fstH ⟨x,y,z,hd⟩) (fstVec p)
  by_cases he:firstNZ [fstH ⟨x,y,z,hd⟩,fstVec p]=0
  rotate_left
  · have e3:=nz3 (c:=fstVec d) he
    have c_m:=s_Meet_err ⟨x,y,z,hd⟩ p d sh sp sd (by rw [e3];exact he)
    rw [e3] at c_m
    have c_pr:=s_Project_err ⟨x,y,z,hd⟩ p sh sp he
    have c_di:=s_Distance_err ⟨x,y,z,hd⟩ p sh sp he
    have c_mi:=s_Mirror_err ⟨x,y,z,hd⟩ p sh sp he
    have p_v:=l_pt_bad _ he [] [] []
    have p_n:=l_num_bad _ he ⟨#[]⟩
    clear e3
    generalize firstNZ [fstH ⟨x,y,z,hd⟩,fstVec p]=e at *
    refine zen Tryz.func6 rfl Tryz.ntmps6 ?_
    intro w0 E0 hc
    repeat' (first|(with_reducible first|refine Wp_seq ?_|refine zr0 hc ?_|refine zm0 hc ?_|refine zwk ?_|refine Wp_block ?_|refine zgo ?_|refine zbn ?_|refine zge Tryz.results6 ?_|refine Sub.refl _|refine allP_nil|refine zoa1 (out':=?_) ?_|refine zca1 (y:=?_) ?_|refine zea1 (eo':=?_) ?_)|(with_reducible refine allP_cons ?_ ?_;focus (first|decide|omega))|(with_reducible first|refine zg2 ?_ ?_|refine zoc c_aw ?_ ?_|refine zoc c_sh ?_ ?_|refine zoc r_ch ?_ ?_|refine zoc r_cp ?_ ?_|refine zoc c_f ?_ ?_|refine zoc c_m ?_ ?_|refine zoc c_pr ?_ ?_|refine zoc c_di ?_ ?_|refine zoc c_mi ?_ ?_|refine zoc p_v ?_ ?_|refine zoc p_n ?_ ?_|refine zbo ?_|refine zg3 ?_ (fun h=>?_) (fun h=>?_)|refine zg4 (fun h=>?_) (fun h=>?_)|fail)|((first|omega|(refine nf1 ?_;with_reducible assumption)|(refine nf2 ?_;with_reducible assumption));done))
  rw [he] at c_f
  obtain ⟨eh,ep⟩:=nz_and he
  obtain ⟨w,rfl,oh⟩:=goodH eh
  obtain ⟨p1,p2,p3,rfl,op⟩:=goodV ep
  rw [eh] at r_ch c_f
  rw [ep] at r_cp c_f
  obtain ⟨A1,A2,A3,qA,c_pr,r_pr⟩:=project_both x y z w oh p1 p2 p3 op
  obtain ⟨B,qB,c_di,r_di⟩:=distance_both x y z w oh p1 p2 p3 op
  obtain ⟨C1,C2,C3,qC,c_mi,r_mi⟩:=mirror_both x y z w oh p1 p2 p3 op
  have p_pr:=l_pt_ok (k:=900000) (by decide) _ _ _ qA
  have p_di:=l_num_ok (k:=900000) (by decide) _ qB
  have p_mi:=l_pt_ok (k:=900000) (by decide) _ _ _ qC
  by_cases ed:fstVec d=0
  rotate_left
  · have e3:firstNZ [fstH ⟨x,y,z,ratL w⟩,fstVec (v3 p1 p2 p3),fstVec d]=fstVec d:=by rw [eh,ep,nz0,nz0,nz1 ed]
    have c_m:=s_Meet_err _ _ d sh sp sd (by rw [e3];exact ed)
    rw [e3] at c_m
    have p_v:=l_pt_bad _ ed [] [] []
    clear e3
    generalize fstVec d=e at *
    refine zen Tryz.func6 rfl Tryz.ntmps6 ?_
    intro w0 E0 hc
    repeat' (first|(with_reducible first|refine Wp_seq ?_|refine zr0 hc ?_|refine zm0 hc ?_|refine zwk ?_|refine Wp_block ?_|refine zgo ?_|refine zbn ?_|refine zge Tryz.results6 ?_|refine Sub.refl _|refine allP_nil|refine zoa1 (out':=?_) ?_|refine zca1 (y:=?_) ?_|refine zea1 (eo':=?_) ?_)|(with_reducible refine allP_cons ?_ ?_;focus (first|decide|omega))|(with_reducible first|refine zg2 ?_ ?_|refine zoc c_aw ?_ ?_|refine zoc c_sh ?_ ?_|refine zoc r_ch ?_ ?_|refine zoc r_cp ?_ ?_|refine zoc r_cd ?_ ?_|refine zoc c_f ?_ ?_|refine zoc c_m ?_ ?_|refine zoc c_pr ?_ ?_|refine zoc r_pr ?_ ?_|refine zoc c_di ?_ ?_|refine zoc r_di ?_ ?_|refine zoc c_mi ?_ ?_|refine zoc r_mi ?_ ?_|refine zoc p_pr ?_ ?_|refine zoc p_di ?_ ?_|refine zoc p_mi ?_ ?_|refine zoc p_v ?_ ?_|refine zbo ?_|refine zg3 ?_ (fun h=>?_) (fun h=>?_)|refine zg4 (fun h=>?_) (fun h=>?_)|fail)|((first|omega|(refine nf1 ?_;with_reducible assumption)|(refine nf2 ?_;with_reducible assumption));done))
  obtain ⟨d1,d2,d3,rfl,od⟩:=goodV ed
  rw [ed] at r_cd
  rcases meet_both x y z w oh p1 p2 p3 op d1 d2 d3 od with ⟨D1,D2,D3,qD,c_m,r_m⟩|⟨c_m,r_m⟩
  · have p_m:=l_pt_ok (k:=900000) (by decide) _ _ _ qD
    refine zen Tryz.func6 rfl Tryz.ntmps6 ?_
    intro w0 E0 hc
    repeat' (first|(with_reducible first|refine Wp_seq ?_|refine zr0 hc ?_|refine zm0 hc ?_|refine zwk ?_|refine Wp_block ?_|refine zgo ?_|refine zbn ?_|refine zge Tryz.results6 ?_|refine Sub.refl _|refine allP_nil|refine zoa1 (out':=?_) ?_|refine zca1 (y:=?_) ?_|refine zea1 (eo':=?_) ?_)|(with_reducible refine allP_cons ?_ ?_;focus (first|decide|omega))|(with_reducible first|refine zg2 ?_ ?_|refine zoc c_aw ?_ ?_|refine zoc c_sh ?_ ?_|refine zoc r_ch ?_ ?_|refine zoc r_cp ?_ ?_|refine zoc r_cd ?_ ?_|refine zoc c_f ?_ ?_|refine zoc c_m ?_ ?_|refine zoc r_m ?_ ?_|refine zoc c_pr ?_ ?_|refine zoc r_pr ?_ ?_|refine zoc c_di ?_ ?_|refine zoc r_di ?_ ?_|refine zoc c_mi ?_ ?_|refine zoc r_mi ?_ ?_|refine zoc p_pr ?_ ?_|refine zoc p_di ?_ ?_|refine zoc p_mi ?_ ?_|refine zoc p_m ?_ ?_|refine zbo ?_|refine zg3 ?_ (fun h=>?_) (fun h=>?_)|refine zg4 (fun h=>?_) (fun h=>?_)|fail)|((first|omega|(refine nf1 ?_;with_reducible assumption)|(refine nf2 ?_;with_reducible assumption));done))
  · have p_m:=l_pt_bad 7 (by decide) [] [] []
    refine zen Tryz.func6 rfl Tryz.ntmps6 ?_
    intro w0 E0 hc
    repeat' (first|(with_reducible first|refine Wp_seq ?_|refine zr0 hc ?_|refine zm0 hc ?_|refine zwk ?_|refine Wp_block ?_|refine zgo ?_|refine zbn ?_|refine zge Tryz.results6 ?_|refine Sub.refl _|refine allP_nil|refine zoa1 (out':=?_) ?_|refine zca1 (y:=?_) ?_|refine zea1 (eo':=?_) ?_)|(with_reducible refine allP_cons ?_ ?_;focus (first|decide|omega))|(with_reducible first|refine zg2 ?_ ?_|refine zoc c_aw ?_ ?_|refine zoc c_sh ?_ ?_|refine zoc r_ch ?_ ?_|refine zoc r_cp ?_ ?_|refine zoc r_cd ?_ ?_|refine zoc c_f ?_ ?_|refine zoc c_m ?_ ?_|refine zoc r_m ?_ ?_|refine zoc c_pr ?_ ?_|refine zoc r_pr ?_ ?_|refine zoc c_di ?_ ?_|refine zoc r_di ?_ ?_|refine zoc c_mi ?_ ?_|refine zoc r_mi ?_ ?_|refine zoc p_pr ?_ ?_|refine zoc p_di ?_ ?_|refine zoc p_mi ?_ ?_|refine zoc p_m ?_ ?_|refine zbo ?_|refine zg3 ?_ (fun h=>?_) (fun h=>?_)|refine zg4 (fun h=>?_) (fun h=>?_)|fail)|((first|omega|(refine nf1 ?_;with_reducible assumption)|(refine nf2 ?_;with_reducible assumption));done))
end Go.Proofs
end
