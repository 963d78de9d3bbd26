/- Lemmas on the program and its library: part XL8. -/
import Derived.Test.YtoiejgkkcfkliaaGreatDoorXR27
set_option linter.unusedVariables false
set_option linter.unusedSimpArgs false
section
set_option maxHeartbeats 8000000
set_option maxRecDepth 100000
namespace Go.Proofs
open Go.Ax
theorem make_both (n1 n2 n3 d:Rat) (hn:okV n1 n2 n3) (hd:bigQ d=false) (h0:¬(n1=0∧n2=0∧n3=0)) :
    ∃(x y z:Int) (w:List UInt8) (e:Int),Ax.Pure Tryz.prog G 38 [tV (ratL n1) (ratL n2) (ratL n3),S (bs (ratL d))] (.tup [tH x y z w,N e])∧Ax.Pure Tryz.prog G 40 [tV (ratL n1) (ratL n2) (ratL n3),S (bs (ratL d))] (.tup [tH x y z w,N e])∧
      Ax.Pure Tryz.prog G 33 [tH x y z w,N e,N e,tH x y z w] (Bo true):=by
  have qn:=okV_Q hn
  have h:=r_MakeHalf (k:=2400) (kd:=2400) (by decide) (by decide) n1 n2 n3 d h0 qn.1 qn.2.1 qn.2.2 (bigQ_Q hd)
  by_cases hh:hOk n1 n2 n3 d
  · rw [if_pos hh] at h
    exact ⟨_,_,_,_,0,s_MakeHalf n1 n2 n3 d hn hd h0 hh,h,l_pl_ok _ _ _ _⟩
  · rw [if_neg hh] at h
    exact ⟨_,_,_,_,4,s_MakeHalf_no n1 n2 n3 d hn hd h0 hh,h,l_pl_bad 4 (by decide) _ _ _ _⟩
theorem r_MakeHalf0 (d:List UInt8):Ax.Pure Tryz.prog G 40 [tV (ratL 0) (ratL 0) (ratL 0),S (bs d)] (.tup [tH 0 0 0 [],N 6]):=by
  have c_o:=r_IsOrigin 0 0 0
  rw [decide_eq_true ⟨rfl,rfl,rfl⟩] at c_o
  refine zen Tryz.func40 rfl Tryz.ntmps40 ?_
  intro w0 E0 hc
  repeat' (first|(with_reducible first|refine Wp_seq ?_|refine zr0 hc ?_|refine zm0 hc ?_|refine zwk ?_|refine Wp_block ?_|refine zgo ?_|refine zbn ?_|refine zge Tryz.results40 ?_|refine Sub.refl _|refine allP_nil|refine zoa1 (out':=?_) ?_|refine zca1 (y:=?_) ?_|refine zea1 (eo':=?_) ?_)|(with_reducible refine allP_cons ?_ ?_;focus (first|decide|omega))|(with_reducible first|refine zg2 ?_ ?_|refine zoc c_o ?_ ?_|refine zbo ?_|refine zg3 ?_ (fun h=>?_) (fun h=>?_)|refine zg4 (fun h=>?_) (fun h=>?_)|fail)|((first|(refine nf1 ?_;with_reducible assumption)|(refine nf2 ?_;with_reducible assumption));done))
theorem side_both (x y z:Int) (w:Rat) (hh:okH x y z w) (p1 p2 p3:Rat) (hp:okV p1 p2 p3):∃s:Int,Ax.Pure Tryz.prog G 42 [tH x y z (ratL w),tV (ratL p1) (ratL p2) (ratL p3)] (.tup [N s,N 0])∧Ax.Pure Tryz.prog G 44 [tH x y z (ratL w),tV (ratL p1) (ratL p2) (ratL p3)] (N s):=by
  have h:=s_Side x y z w hh p1 p2 p3 hp
  rw [sign_sg] at h
  exact ⟨_,h,r_Side (k:=2400) (by decide) x y z w p1 p2 p3 (okI_i64 hh.1.1) (okI_i64 hh.1.2.1) (okI_i64 hh.1.2.2) (okI_Q hh.1.1) (okI_Q hh.1.2.1) (okI_Q hh.1.2.2) (bigQ_Q hh.2.2) (okV_Q hp)⟩
theorem w_Halves (h:H4) (n:V3) (d:List UInt8) (hi:i64 h.x∧i64 h.y∧i64 h.z):Ax.Pure Tryz.prog G 5 [txH h,txV n,S (bs d)] (Bo true):=by
  obtain ⟨x,y,z,hd⟩:=h
  have c_aw:=c_awake
  have hsd:=bs_size hd
  have hse:=bs_size d
  have c_sh:=l_short1 30 (by decide) n
  by_cases hsh:shVs 30 [n]=true
  rotate_left
  · rw [Bool.eq_false_iff.2 hsh] at c_sh
    refine zen Tryz.func5 rfl Tryz.ntmps5 ?_
    intro w0 E0 hc
    repeat' (first|(with_reducible first|refine Wp_seq ?_|refine zr0 hc ?_|refine zm0 hc ?_|refine zwk ?_|refine Wp_block ?_|refine zgo ?_|refine zbn ?_|refine zge Tryz.results5 ?_|refine Sub.refl _|refine allP_nil|refine zoa1 (out':=?_) ?_|refine zca1 (y:=?_) ?_|refine zea1 (eo':=?_) ?_)|(with_reducible refine allP_cons ?_ ?_;focus (first|decide|omega))|(with_reducible first|refine zg2 ?_ ?_|refine zoc c_aw ?_ ?_|refine zoc c_sh ?_ ?_|refine zbo ?_|refine zg3 ?_ (fun h=>?_) (fun h=>?_)|refine zg4 (fun h=>?_) (fun h=>?_)|fail)|((first|omega|(refine nf1 ?_;with_reducible assumption)|(refine nf2 ?_;with_reducible assumption));done))
  rw [hsh] at c_sh
  by_cases lc:hd.length≤30∧d.length≤30
  rotate_left
  · have lc':30 < (bs hd).size∨30 < (bs d).size:=by omega
    refine zen Tryz.func5 rfl Tryz.ntmps5 ?_
    intro w0 E0 hc
    repeat' (first|(with_reducible first|refine Wp_seq ?_|refine zr0 hc ?_|refine zm0 hc ?_|refine zwk ?_|refine Wp_block ?_|refine zgo ?_|refine zbn ?_|refine zge Tryz.results5 ?_|refine Sub.refl _|refine allP_nil|refine zoa1 (out':=?_) ?_|refine zca1 (y:=?_) ?_|refine zea1 (eo':=?_) ?_)|(with_reducible refine allP_cons ?_ ?_;focus (first|decide|omega))|(with_reducible first|refine zg2 ?_ ?_|refine zoc c_aw ?_ ?_|refine zoc c_sh ?_ ?_|refine zbo ?_|refine zg3 ?_ (fun h=>?_) (fun h=>?_)|refine zg4 (fun h=>?_) (fun h=>?_)|fail)|((first|omega|(refine nf1 ?_;with_reducible assumption)|(refine nf2 ?_;with_reducible assumption));done))
  have sn:shV 30 n:=by simpa [shVs] using hsh
  have sn:=shV_short sn (by decide)
  have sh:shortH ⟨x,y,z,hd⟩:=⟨hi,show hd.length≤900000 by omega⟩
  have ld:d.length≤900000:=by omega
  clear hsh
  have c_ch:=s_CheckHalf sh
  have r_ch:=r_CheckH sh.2
  have r_cn:=r_CheckV sn
  have r_cd:=r_Check d ld
  have c_f:=l_first2 (fstVec n) (checkL d)
  obtain ⟨mx,my,mz,mw,me,wx,wy,wz,ww,bad,c_mk,hmk⟩:∃(mx my mz:Int) (mw:List UInt8) (me:Int) (wx wy wz:Int) (ww:List UInt8) (bad:Int),Ax.Pure Tryz.prog G 38 [txV n,S (bs d)] (.tup [tH mx my mz mw,N me])∧
      Ax.Pure Tryz.prog G 33 [tH mx my mz mw,N me,N bad,tH wx wy wz ww] (Bo true)∧
      ((firstNZ [fstVec n,checkL d]≠0∧bad=firstNZ [fstVec n,checkL d]∧wx=0∧wy=0∧wz=0∧ww= [])∨(firstNZ [fstVec n,checkL d]=0∧Ax.Pure Tryz.prog G 40 [txV n,S (bs d)] (.tup [tH wx wy wz ww,N bad]))):=by
    by_cases he:firstNZ [fstVec n,checkL d]=0
    · obtain ⟨en,ed⟩:=nz_and he
      obtain ⟨n1,n2,n3,rfl,on⟩:=goodV en
      obtain ⟨d0,rfl,od⟩:=checkL_zero ed
      by_cases h0:n1=0∧n2=0∧n3=0
      · obtain ⟨rfl,rfl,rfl⟩:=h0
        exact ⟨_,_,_,_,_,0,0,0,[],6,s_MakeHalf0 d0 od,l_pl_bad 6 (by decide) _ _ _ _,.inr ⟨he,r_MakeHalf0 _⟩⟩
      · obtain ⟨X,Y,Z,W,e,h1,h2,h3⟩:=make_both n1 n2 n3 d0 on od h0
        exact ⟨X,Y,Z,W,e,X,Y,Z,W,e,h1,h3,.inr ⟨he,h2⟩⟩
    · exact ⟨_,_,_,_,_,0,0,0,[],_,s_MakeHalf_err n d sn ld he,l_pl_bad _ he _ _ _ _,.inl ⟨he,rfl,rfl,rfl,rfl,rfl⟩⟩
  obtain ⟨p_mk,hmk⟩:=hmk
  rcases hmk with ⟨he,rfl,rfl,rfl,rfl,rfl⟩|⟨he,r_mk⟩
  · have hc0:=he
    generalize hcg:firstNZ [fstVec n,checkL d]=bad at *
    by_cases eh:fstH ⟨x,y,z,hd⟩=0
    rotate_left
    · have c_op:=s_Opposite_err _ sh eh
      have c_sd:=s_Side_err _ n sh sn (by rw [nz1 eh];exact eh)
      rw [nz1 eh] at c_sd
      have p_h:=l_pl_bad _ eh 0 0 0 []
      generalize fstH ⟨x,y,z,hd⟩=eH at *
      refine zen Tryz.func5 rfl Tryz.ntmps5 ?_
      intro w0 E0 hc
      repeat' (first|(with_reducible first|refine Wp_seq ?_|refine zr0 hc ?_|refine zm0 hc ?_|refine zwk ?_|refine Wp_block ?_|refine zgo ?_|refine zbn ?_|refine zge Tryz.results5 ?_|refine Sub.refl _|refine allP_nil|refine zoa1 (out':=?_) ?_|refine zca1 (y:=?_) ?_|refine zea1 (eo':=?_) ?_)|(with_reducible refine allP_cons ?_ ?_;focus (first|decide|omega))|(with_reducible first|refine zg2 ?_ ?_|refine zoc c_aw ?_ ?_|refine zoc c_sh ?_ ?_|refine zoc c_ch ?_ ?_|refine zoc r_ch ?_ ?_|refine zoc r_cn ?_ ?_|refine zoc r_cd ?_ ?_|refine zoc c_f ?_ ?_|refine zoc c_mk ?_ ?_|refine zoc p_mk ?_ ?_|refine zoc c_op ?_ ?_|refine zoc c_sd ?_ ?_|refine zoc p_h ?_ ?_|refine zbo ?_|refine zg3 ?_ (fun h=>?_) (fun h=>?_)|refine zg4 (fun h=>?_) (fun h=>?_)|fail)|((first|omega|(refine nf1 ?_;with_reducible assumption)|(refine nf2 ?_;with_reducible assumption));done))
      all_goals exact sub_eq (congrArg Bo (by simp))
    obtain ⟨w,rfl,oh⟩:=goodH eh
    rw [eh] at c_ch r_ch
    have c_op:=s_Opposite x y z w oh
    have r_op:=r_Opposite x y z w oh
    have p_h:=l_pl_ok (-x) (-y) (-z) (ratL (-w))
    by_cases en:fstVec n=0
    rotate_left
    · have e3:firstNZ [fstH ⟨x,y,z,ratL w⟩,fstVec n]=fstVec n:=by rw [eh,nz0,nz1 en]
      have c_sd:=s_Side_err _ n sh sn (by rw [e3];exact en)
      rw [e3] at c_sd
      clear e3
      generalize fstVec n=eN at *
      refine zen Tryz.func5 rfl Tryz.ntmps5 ?_
      intro w0 E0 hc
      repeat' (first|(with_reducible first|refine Wp_seq ?_|refine zr0 hc ?_|refine zm0 hc ?_|refine zwk ?_|refine Wp_block ?_|refine zgo ?_|refine zbn ?_|refine zge Tryz.results5 ?_|refine Sub.refl _|refine allP_nil|refine zoa1 (out':=?_) ?_|refine zca1 (y:=?_) ?_|refine zea1 (eo':=?_) ?_)|(with_reducible refine allP_cons ?_ ?_;focus (first|decide|omega))|(with_reducible first|refine zg2 ?_ ?_|refine zoc c_aw ?_ ?_|refine zoc c_sh ?_ ?_|refine zoc c_ch ?_ ?_|refine zoc r_ch ?_ ?_|refine zoc r_cn ?_ ?_|refine zoc r_cd ?_ ?_|refine zoc c_f ?_ ?_|refine zoc c_mk ?_ ?_|refine zoc p_mk ?_ ?_|refine zoc c_op ?_ ?_|refine zoc r_op ?_ ?_|refine zoc c_sd ?_ ?_|refine zoc p_h ?_ ?_|refine zbo ?_|refine zg3 ?_ (fun h=>?_) (fun h=>?_)|refine zg4 (fun h=>?_) (fun h=>?_)|fail)|((first|omega|(refine nf1 ?_;with_reducible assumption)|(refine nf2 ?_;with_reducible assumption));done))
      all_goals exact sub_eq (congrArg Bo (by simp))
    obtain ⟨n1,n2,n3,rfl,on⟩:=goodV en
    rw [en] at r_cn c_f
    obtain ⟨s,c_sd,r_sd⟩:=side_both x y z w oh n1 n2 n3 on
    refine zen Tryz.func5 rfl Tryz.ntmps5 ?_
    intro w0 E0 hc
    repeat' (first|(with_reducible first|refine Wp_seq ?_|refine zr0 hc ?_|refine zm0 hc ?_|refine zwk ?_|refine Wp_block ?_|refine zgo ?_|refine zbn ?_|refine zge Tryz.results5 ?_|refine Sub.refl _|refine allP_nil|refine zoa1 (out':=?_) ?_|refine zca1 (y:=?_) ?_|refine zea1 (eo':=?_) ?_)|(with_reducible refine allP_cons ?_ ?_;focus (first|decide|omega))|(with_reducible first|refine zg2 ?_ ?_|refine zoc c_aw ?_ ?_|refine zoc c_sh ?_ ?_|refine zoc c_ch ?_ ?_|refine zoc r_ch ?_ ?_|refine zoc r_cn ?_ ?_|refine zoc r_cd ?_ ?_|refine zoc c_f ?_ ?_|refine zoc c_mk ?_ ?_|refine zoc p_mk ?_ ?_|refine zoc c_op ?_ ?_|refine zoc r_op ?_ ?_|refine zoc c_sd ?_ ?_|refine zoc r_sd ?_ ?_|refine zoc p_h ?_ ?_|refine zbo ?_|refine zg3 ?_ (fun h=>?_) (fun h=>?_)|refine zg4 (fun h=>?_) (fun h=>?_)|fail)|((first|omega|(refine nf1 ?_;with_reducible assumption)|(refine nf2 ?_;with_reducible assumption));done))
    all_goals exact sub_eq (congrArg Bo (by simp))
  · rw [he] at c_f
    by_cases eh:fstH ⟨x,y,z,hd⟩=0
    rotate_left
    · have c_op:=s_Opposite_err _ sh eh
      have c_sd:=s_Side_err _ n sh sn (by rw [nz1 eh];exact eh)
      rw [nz1 eh] at c_sd
      have p_h:=l_pl_bad _ eh 0 0 0 []
      generalize fstH ⟨x,y,z,hd⟩=eH at *
      refine zen Tryz.func5 rfl Tryz.ntmps5 ?_
      intro w0 E0 hc
      repeat' (first|(with_reducible first|refine Wp_seq ?_|refine zr0 hc ?_|refine zm0 hc ?_|refine zwk ?_|refine Wp_block ?_|refine zgo ?_|refine zbn ?_|refine zge Tryz.results5 ?_|refine Sub.refl _|refine allP_nil|refine zoa1 (out':=?_) ?_|refine zca1 (y:=?_) ?_|refine zea1 (eo':=?_) ?_)|(with_reducible refine allP_cons ?_ ?_;focus (first|decide|omega))|(with_reducible first|refine zg2 ?_ ?_|refine zoc c_aw ?_ ?_|refine zoc c_sh ?_ ?_|refine zoc c_ch ?_ ?_|refine zoc r_ch ?_ ?_|refine zoc r_cn ?_ ?_|refine zoc r_cd ?_ ?_|refine zoc c_f ?_ ?_|refine zoc c_mk ?_ ?_|refine zoc p_mk ?_ ?_|refine zoc r_mk ?_ ?_|refine zoc c_op ?_ ?_|refine zoc c_sd ?_ ?_|refine zoc p_h ?_ ?_|refine zbo ?_|refine zg3 ?_ (fun h=>?_) (fun h=>?_)|refine zg4 (fun h=>?_) (fun h=>?_)|fail)|((first|omega|(refine nf1 ?_;with_reducible assumption)|(refine nf2 ?_;with_reducible assumption));done))
      all_goals exact sub_eq (congrArg Bo (by simp))
    obtain ⟨w,rfl,oh⟩:=goodH eh
    rw [eh] at c_ch r_ch
    have c_op:=s_Opposite x y z w oh
    have r_op:=r_Opposite x y z w oh
    have p_h:=l_pl_ok (-x) (-y) (-z) (ratL (-w))
    by_cases en:fstVec n=0
    rotate_left
    · have e3:firstNZ [fstH ⟨x,y,z,ratL w⟩,fstVec n]=fstVec n:=by rw [eh,nz0,nz1 en]
      have c_sd:=s_Side_err _ n sh sn (by rw [e3];exact en)
      rw [e3] at c_sd
      clear e3
      generalize fstVec n=eN at *
      refine zen Tryz.func5 rfl Tryz.ntmps5 ?_
      intro w0 E0 hc
      repeat' (first|(with_reducible first|refine Wp_seq ?_|refine zr0 hc ?_|refine zm0 hc ?_|refine zwk ?_|refine Wp_block ?_|refine zgo ?_|refine zbn ?_|refine zge Tryz.results5 ?_|refine Sub.refl _|refine allP_nil|refine zoa1 (out':=?_) ?_|refine zca1 (y:=?_) ?_|refine zea1 (eo':=?_) ?_)|(with_reducible refine allP_cons ?_ ?_;focus (first|decide|omega))|(with_reducible first|refine zg2 ?_ ?_|refine zoc c_aw ?_ ?_|refine zoc c_sh ?_ ?_|refine zoc c_ch ?_ ?_|refine zoc r_ch ?_ ?_|refine zoc r_cn ?_ ?_|refine zoc r_cd ?_ ?_|refine zoc c_f ?_ ?_|refine zoc c_mk ?_ ?_|refine zoc p_mk ?_ ?_|refine zoc r_mk ?_ ?_|refine zoc c_op ?_ ?_|refine zoc r_op ?_ ?_|refine zoc c_sd ?_ ?_|refine zoc p_h ?_ ?_|refine zbo ?_|refine zg3 ?_ (fun h=>?_) (fun h=>?_)|refine zg4 (fun h=>?_) (fun h=>?_)|fail)|((first|omega|(refine nf1 ?_;with_reducible assumption)|(refine nf2 ?_;with_reducible assumption));done))
      all_goals exact sub_eq (congrArg Bo (by simp))
    obtain ⟨n1,n2,n3,rfl,on⟩:=goodV en
    rw [en] at r_cn c_f
    obtain ⟨s,c_sd,r_sd⟩:=side_both x y z w oh n1 n2 n3 on
    refine zen Tryz.func5 rfl Tryz.ntmps5 ?_
    intro w0 E0 hc
    repeat' (first|(with_reducible first|refine Wp_seq ?_|refine zr0 hc ?_|refine zm0 hc ?_|refine zwk ?_|refine Wp_block ?_|refine zgo ?_|refine zbn ?_|refine zge Tryz.results5 ?_|refine Sub.refl _|refine allP_nil|refine zoa1 (out':=?_) ?_|refine zca1 (y:=?_) ?_|refine zea1 (eo':=?_) ?_)|(with_reducible refine allP_cons ?_ ?_;focus (first|decide|omega))|(with_reducible first|refine zg2 ?_ ?_|refine zoc c_aw ?_ ?_|refine zoc c_sh ?_ ?_|refine zoc c_ch ?_ ?_|refine zoc r_ch ?_ ?_|refine zoc r_cn ?_ ?_|refine zoc r_cd ?_ ?_|refine zoc c_f ?_ ?_|refine zoc c_mk ?_ ?_|refine zoc p_mk ?_ ?_|refine zoc r_mk ?_ ?_|refine zoc c_op ?_ ?_|refine zoc r_op ?_ ?_|refine zoc c_sd ?_ ?_|refine zoc r_sd ?_ ?_|refine zoc p_h ?_ ?_|refine zbo ?_|refine zg3 ?_ (fun h=>?_) (fun h=>?_)|refine zg4 (fun h=>?_) (fun h=>?_)|fail)|((first|omega|(refine nf1 ?_;with_reducible assumption)|(refine nf2 ?_;with_reducible assumption));done))
    all_goals exact sub_eq (congrArg Bo (by simp))
end Go.Proofs
end
