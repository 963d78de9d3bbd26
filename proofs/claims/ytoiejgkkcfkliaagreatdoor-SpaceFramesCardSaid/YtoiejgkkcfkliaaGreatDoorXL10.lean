/- Lemmas on the program and its library: part XL10. -/
import Derived.Test.YtoiejgkkcfkliaaGreatDoorXR30
set_option linter.unusedVariables false
set_option linter.unusedSimpArgs false
section
set_option maxHeartbeats 8000000
set_option maxRecDepth 100000
namespace Go.Proofs
open Go.Ax
abbrev tFt (t:Nat→List UInt8):AV:=tF (t 0) (t 1) (t 2) (t 3) (t 4) (t 5) (t 6) (t 7) (t 8) (t 9) (t 10) (t 11)
theorem l_ax_bad (e:Int) (he:e≠0) (t:Nat→List UInt8):Ax.Pure Tryz.prog G 66 [tF [] [] [] [] [] [] [] [] [] [] [] [],N e,N e,tFt t] (Bo true):=by
  refine zen Tryz.func66 rfl Tryz.ntmps66 ?_
  intro w0 E0 hc
  repeat' (first|(with_reducible first|refine Wp_seq ?_|refine zr0 hc ?_|refine zm0 hc ?_|refine zwk ?_|refine Wp_block ?_|refine zgo ?_|refine zbn ?_|refine zge Tryz.results66 ?_|refine Sub.refl _|refine allP_nil|refine zoa1 (out':=?_) ?_|refine zca1 (y:=?_) ?_|refine zea1 (eo':=?_) ?_)|(with_reducible refine allP_cons ?_ ?_;focus (first|decide|omega))|(with_reducible first|refine zg2 ?_ ?_|refine zbo ?_|refine zg3 ?_ (fun h=>?_) (fun h=>?_)|refine zg4 (fun h=>?_) (fun h=>?_)|fail)|((first|omega|(exfalso;simp [beq_bs] at h;done)|(exfalso;dsimp only [bs] at h;simp at h;done)|fail);done))
  all_goals exact sub_eq (congrArg Bo (by simp))
theorem l_ax_4 (t:Nat→List UInt8) (c_l:Ax.Pure Tryz.prog G 192 [tFt t] (N 4)):Ax.Pure Tryz.prog G 66 [tF [] [] [] [] [] [] [] [] [] [] [] [],N 4,N 0,tFt t] (Bo true):=by
  refine zen Tryz.func66 rfl Tryz.ntmps66 ?_
  intro w0 E0 hc
  repeat' (first|(with_reducible first|refine Wp_seq ?_|refine zr0 hc ?_|refine zm0 hc ?_|refine zwk ?_|refine Wp_block ?_|refine zgo ?_|refine zbn ?_|refine zge Tryz.results66 ?_|refine Sub.refl _|refine allP_nil|refine zoa1 (out':=?_) ?_|refine zca1 (y:=?_) ?_|refine zea1 (eo':=?_) ?_)|(with_reducible refine allP_cons ?_ ?_;focus (first|decide|omega))|(with_reducible first|refine zg2 ?_ ?_|refine zoc c_l ?_ ?_|refine zbo ?_|refine zg3 ?_ (fun h=>?_) (fun h=>?_)|refine zg4 (fun h=>?_) (fun h=>?_)|fail)|((first|omega|(exfalso;simp [beq_bs] at h;done)|(exfalso;dsimp only [bs] at h;simp at h;done)|fail);done))
  all_goals exact sub_eq (congrArg Bo (by simp))
theorem l_ax_ok (t:Nat→List UInt8) (c_l:Ax.Pure Tryz.prog G 192 [tFt t] (N 0)):Ax.Pure Tryz.prog G 66 [tFt t,N 0,N 0,tFt t] (Bo true):=by
  refine zen Tryz.func66 rfl Tryz.ntmps66 ?_
  intro w0 E0 hc
  repeat' (first|(with_reducible first|refine Wp_seq ?_|refine zr0 hc ?_|refine zm0 hc ?_|refine zwk ?_|refine Wp_block ?_|refine zgo ?_|refine zbn ?_|refine zge Tryz.results66 ?_|refine Sub.refl _|refine allP_nil|refine zoa1 (out':=?_) ?_|refine zca1 (y:=?_) ?_|refine zea1 (eo':=?_) ?_)|(with_reducible refine allP_cons ?_ ?_;focus (first|decide|omega))|(with_reducible first|refine zg2 ?_ ?_|refine zoc c_l ?_ ?_|refine zbo ?_|refine zg3 ?_ (fun h=>?_) (fun h=>?_)|refine zg4 (fun h=>?_) (fun h=>?_)|fail)|((first|omega|(exfalso;simp [beq_bs] at h;done)|(exfalso;dsimp only [bs] at h;simp at h;done)|fail);done))
  all_goals exact sub_eq (congrArg Bo (by simp))
def okFr (f g:FuncId) (l:List AV):Prop:=∃(t u:Nat→List UInt8) (e:Int),Ax.Pure Tryz.prog G f l (.tup [tFt t,N e])∧Ax.Pure Tryz.prog G g l (tFt u)∧Ax.Pure Tryz.prog G 66 [tFt t,N e,N 0,tFt u] (Bo true)
def frT (o1 o2 o3 x1 x2 x3 y1 y2 y3 z1 z2 z3:Rat):Nat→List UInt8:=fun i=>ratL ([o1,o2,o3,x1,x2,x3,y1,y2,y3,z1,z2,z3].getD i 0)
theorem nz_two {a:Int} {l:List Int} (h:firstNZ (a :: l)=0):a=0∧firstNZ l=0:=by
  by_cases ha:a=0
  · subst ha;rw [nz0] at h;exact ⟨rfl,h⟩
  · rw [nz1 ha] at h;exact absurd h ha
theorem shVs1 {n:Nat} {a:V3}:shVs n [a]=true↔shV n a:=by simp [shVs]
theorem shVs4 {n:Nat} {a b c d:V3}:shVs n [a,b,c,d]=true↔shV n a∧shV n b∧shV n c∧shV n d:=by simp [shVs]
theorem axE_nz {x1 x2 x3 y1 y2 y3 z1 z2 z3:Rat} (h:axE x1 x2 x3 y1 y2 y3 z1 z2 z3=0):dot3 x1 x2 x3 x1 x2 x3≠0∧dot3 y1 y2 y3 y1 y2 y3≠0∧dot3 z1 z2 z3 z1 z2 z3≠0:=⟨dot_pos (axE_zero h).1,dot_pos (axE_zero h).2.1,dot_pos (axE_zero h).2.2.1⟩
theorem axE_orth {x1 x2 x3 y1 y2 y3 z1 z2 z3:Rat} (h:axE x1 x2 x3 y1 y2 y3 z1 z2 z3=0):orth x1 x2 x3 y1 y2 y3 z1 z2 z3:=(axE_zero h).2.2.2.1
def goodF (a b c d:V3):Prop:=∃o1 o2 o3 x1 x2 x3 y1 y2 y3 z1 z2 z3:Rat,a=v3 o1 o2 o3∧b=v3 x1 x2 x3∧c=v3 y1 y2 y3∧d=v3 z1 z2 z3∧okF o1 o2 o3 x1 x2 x3 y1 y2 y3 z1 z2 z3
theorem frE_of (a b c d:V3):∃e,FrE a b c d e∧(e=0→goodF a b c d):=by
  by_cases h:fstVs [a,b,c,d]=0
  · obtain ⟨h1,h⟩:=nz_two h
    obtain ⟨h2,h⟩:=nz_two h
    obtain ⟨h3,h⟩:=nz_two h
    obtain ⟨h4,_⟩:=nz_two h
    obtain ⟨o1,o2,o3,rfl,ho⟩:=goodV h1
    obtain ⟨x1,x2,x3,rfl,hx⟩:=goodV h2
    obtain ⟨y1,y2,y3,rfl,hy⟩:=goodV h3
    obtain ⟨z1,z2,z3,rfl,hz⟩:=goodV h4
    exact ⟨_,.inr ⟨o1,o2,o3,x1,x2,x3,y1,y2,y3,z1,z2,z3,⟨rfl,rfl,rfl,rfl⟩,⟨ho,hx,hy,hz⟩,rfl⟩,fun e=>⟨o1,o2,o3,x1,x2,x3,y1,y2,y3,z1,z2,z3,rfl,rfl,rfl,rfl,ho,hx,hy,hz,e⟩⟩
  · exact ⟨_,.inl ⟨rfl,h⟩,fun e=>absurd e h⟩
theorem pl_eq (o x y z a b c:Rat):o+(x*a+y*b+z*c)=o+(a*x+b*y+c*z):=by grind
theorem ok_place {a b c d v:V3} (hF:goodF a b c d) (hv:fstVec v=0):okP 75 95 [txF a b c d,txV v]:=by
  obtain ⟨o1,o2,o3,x1,x2,x3,y1,y2,y3,z1,z2,z3,rfl,rfl,rfl,rfl,hF⟩:=hF
  obtain ⟨p1,p2,p3,rfl,hp⟩:=goodV hv
  obtain ⟨ho,hx,hy,hz,_⟩:=id hF
  have h:=s_Place o1 o2 o3 x1 x2 x3 y1 y2 y3 z1 z2 z3 hF p1 p2 p3 hp
  rw [pl_eq o1,pl_eq o2,pl_eq o3] at h
  have qo:=okV_Q ho
  have qx:=okV_Q hx
  have qy:=okV_Q hy
  have qz:=okV_Q hz
  have qp:=okV_Q hp
  refine okP_of ?_ h (r_Place (k:=2400) (by decide) o1 o2 o3 x1 x2 x3 y1 y2 y3 z1 z2 z3 p1 p2 p3 qo qx qy qz qp)
  obtain ⟨qp1,qp2,qp3⟩:=qp
  exact ⟨Q_of (Q_add qo.1 (Q_add (Q_add (Q_mul qp1 qx.1) (Q_mul qp2 qy.1)) (Q_mul qp3 qz.1))) rfl,Q_of (Q_add qo.2.1 (Q_add (Q_add (Q_mul qp1 qx.2.1) (Q_mul qp2 qy.2.1)) (Q_mul qp3 qz.2.1))) rfl,Q_of (Q_add qo.2.2 (Q_add (Q_add (Q_mul qp1 qx.2.2) (Q_mul qp2 qy.2.2)) (Q_mul qp3 qz.2.2))) rfl⟩
theorem ok_local {a b c d v:V3} (hF:goodF a b c d) (hv:fstVec v=0):okP 83 96 [txF a b c d,txV v]:=by
  obtain ⟨o1,o2,o3,x1,x2,x3,y1,y2,y3,z1,z2,z3,rfl,rfl,rfl,rfl,hF⟩:=hF
  obtain ⟨p1,p2,p3,rfl,hp⟩:=goodV hv
  obtain ⟨ho,hx,hy,hz,hE⟩:=id hF
  obtain ⟨nx,ny,nz⟩:=axE_nz hE
  have h:=s_Local o1 o2 o3 x1 x2 x3 y1 y2 y3 z1 z2 z3 hF p1 p2 p3 hp
  have qo:=okV_Q ho
  have qx:=okV_Q hx
  have qy:=okV_Q hy
  have qz:=okV_Q hz
  have qp:=okV_Q hp
  refine okP_of ?_ h (r_Local (k:=2400) (by decide) o1 o2 o3 x1 x2 x3 y1 y2 y3 z1 z2 z3 p1 p2 p3 nx ny nz qo qx qy qz qp)
  have q:∀{a b c:Rat},Q 2400 a∧Q 2400 b∧Q 2400 c→Q 900000 (dot3 (p1 - o1) (p2 - o2) (p3 - o3) a b c / dot3 a b c a b c):=fun h=>Q_of (Q_div (Q_dot (Q_sub qp.1 qo.1) (Q_sub qp.2.1 qo.2.1) (Q_sub qp.2.2 qo.2.2) (Q_of (K:=4801) h.1 rfl) (Q_of h.2.1 rfl) (Q_of h.2.2 rfl)) (Q_dot h.1 h.2.1 h.2.2 h.1 h.2.1 h.2.2)) rfl
  exact ⟨q qx,q qy,q qz⟩
theorem ok_stretch {a b c d:V3} (hF:goodF a b c d):okP 94 71 [txF a b c d]:=by
  obtain ⟨o1,o2,o3,x1,x2,x3,y1,y2,y3,z1,z2,z3,rfl,rfl,rfl,rfl,hF⟩:=hF
  obtain ⟨ho,hx,hy,hz,_⟩:=id hF
  have qx:=okV_Q hx
  have qy:=okV_Q hy
  have qz:=okV_Q hz
  exact okP_of ⟨Q_of (Q_dot qx.1 qx.2.1 qx.2.2 qx.1 qx.2.1 qx.2.2) rfl,Q_of (Q_dot qy.1 qy.2.1 qy.2.2 qy.1 qy.2.1 qy.2.2) rfl,Q_of (Q_dot qz.1 qz.2.1 qz.2.2 qz.1 qz.2.1 qz.2.2) rfl⟩ (s_Stretch o1 o2 o3 x1 x2 x3 y1 y2 y3 z1 z2 z3 hF) (r_Stretch (k:=2400) (by decide) o1 o2 o3 x1 x2 x3 y1 y2 y3 z1 z2 z3 qx qy qz)
theorem gv_orth {o1 o2 o3 x1 x2 x3 y1 y2 y3 z1 z2 z3:Rat} (h:orth x1 x2 x3 y1 y2 y3 z1 z2 z3):gvF o1 o2 o3 x1 x2 x3 y1 y2 y3 z1 z2 z3=if bigF o1 o2 o3 x1 x2 x3 y1 y2 y3 z1 z2 z3=true then 4 else 0:=by
  unfold gvF;unfold orth at h;rw [if_pos h]
theorem okFr_of {f g:FuncId} {l:List AV} {k:Nat} (hk:k≤1000000) {o1 o2 o3 x1 x2 x3 y1 y2 y3 z1 z2 z3:Rat} (qo:Q k o1∧Q k o2∧Q k o3) (qx:Q k x1∧Q k x2∧Q k x3) (qy:Q k y1∧Q k y2∧Q k y3) (qz:Q k z1∧Q k z2∧Q k z3) (h:orth x1 x2 x3 y1 y2 y3 z1 z2 z3)
    (s0:gvF o1 o2 o3 x1 x2 x3 y1 y2 y3 z1 z2 z3=0→Ax.Pure Tryz.prog G f l (.tup [tF (ratL o1) (ratL o2) (ratL o3) (ratL x1) (ratL x2) (ratL x3) (ratL y1) (ratL y2) (ratL y3) (ratL z1) (ratL z2) (ratL z3),N 0])) (s1:gvF o1 o2 o3 x1 x2 x3 y1 y2 y3 z1 z2 z3≠0→Ax.Pure Tryz.prog G f l (.tup [tF [] [] [] [] [] [] [] [] [] [] [] [],N (gvF o1 o2 o3 x1 x2 x3 y1 y2 y3 z1 z2 z3)])) (r:Ax.Pure Tryz.prog G g l (tF (ratL o1) (ratL o2) (ratL o3) (ratL x1) (ratL x2) (ratL x3) (ratL y1) (ratL y2) (ratL y3) (ratL z1) (ratL z2) (ratL z3))):okFr f g l:=by
  have c_l:=r_LargeFrame hk o1 o2 o3 x1 x2 x3 y1 y2 y3 z1 z2 z3 qo qx qy qz
  have hg:=gv_orth (o1:=o1) (o2:=o2) (o3:=o3) h
  cases hb:bigF o1 o2 o3 x1 x2 x3 y1 y2 y3 z1 z2 z3
  · rw [hb] at hg c_l
    have hg:gvF o1 o2 o3 x1 x2 x3 y1 y2 y3 z1 z2 z3=0:=hg
    exact ⟨frT o1 o2 o3 x1 x2 x3 y1 y2 y3 z1 z2 z3,frT o1 o2 o3 x1 x2 x3 y1 y2 y3 z1 z2 z3,0,s0 hg,r,l_ax_ok (frT o1 o2 o3 x1 x2 x3 y1 y2 y3 z1 z2 z3) c_l⟩
  · rw [hb] at hg c_l
    have hg:gvF o1 o2 o3 x1 x2 x3 y1 y2 y3 z1 z2 z3=4:=hg
    have s:=s1 (by rw [hg];decide)
    rw [hg] at s
    exact ⟨fun _=> [],frT o1 o2 o3 x1 x2 x3 y1 y2 y3 z1 z2 z3,4,s,r,l_ax_4 (frT o1 o2 o3 x1 x2 x3 y1 y2 y3 z1 z2 z3) c_l⟩
theorem ok_shift {a b c d v:V3} (hF:goodF a b c d) (hv:fstVec v=0):okFr 93 97 [txF a b c d,txV v]:=by
  obtain ⟨o1,o2,o3,x1,x2,x3,y1,y2,y3,z1,z2,z3,rfl,rfl,rfl,rfl,hF⟩:=hF
  obtain ⟨p1,p2,p3,rfl,hp⟩:=goodV hv
  obtain ⟨ho,hx,hy,hz,hE⟩:=id hF
  have qo:=okV_Q ho
  have qx:=okV_Q hx
  have qy:=okV_Q hy
  have qz:=okV_Q hz
  have qp:=okV_Q hp
  exact okFr_of (k:=5000) (by decide) ⟨Q_of (Q_add qo.1 qp.1) rfl,Q_of (Q_add qo.2.1 qp.2.1) rfl,Q_of (Q_add qo.2.2 qp.2.2) rfl⟩ ⟨Q_of qx.1 rfl,Q_of qx.2.1 rfl,Q_of qx.2.2 rfl⟩ ⟨Q_of qy.1 rfl,Q_of qy.2.1 rfl,Q_of qy.2.2 rfl⟩ ⟨Q_of qz.1 rfl,Q_of qz.2.1 rfl,Q_of qz.2.2 rfl⟩ (axE_orth hE)
    (fun h=>s_Shift o1 o2 o3 x1 x2 x3 y1 y2 y3 z1 z2 z3 hF p1 p2 p3 hp h) (fun h=>s_Shift_no o1 o2 o3 x1 x2 x3 y1 y2 y3 z1 z2 z3 hF p1 p2 p3 hp h) (r_Shift (k:=2400) (by decide) o1 o2 o3 x1 x2 x3 y1 y2 y3 z1 z2 z3 p1 p2 p3 qo qp)
theorem w_Frames (a b c d p:V3):Ax.Pure Tryz.prog G 13 [txF a b c d,txV p] (Bo true):=by
  have c_aw:=c_awake
  have c_sf:=l_brief 30 (by decide) a b c d
  have c_sp:=l_short1 30 (by decide) p
  by_cases hf:shVs 30 [a,b,c,d]=true
  rotate_left
  · rw [Bool.eq_false_iff.2 hf] at c_sf
    refine zen Tryz.func13 rfl Tryz.ntmps13 ?_
    intro w0 E0 hc
    repeat' (first|(with_reducible first|refine Wp_seq ?_|refine zr0 hc ?_|refine zm0 hc ?_|refine zwk ?_|refine Wp_block ?_|refine zgo ?_|refine zbn ?_|refine zge Tryz.results13 ?_|refine Sub.refl _|refine allP_nil|refine zoa1 (out':=?_) ?_|refine zca1 (y:=?_) ?_|refine zea1 (eo':=?_) ?_)|(with_reducible refine allP_cons ?_ ?_;focus (first|decide|omega))|(with_reducible first|refine zg2 ?_ ?_|refine zoc c_aw ?_ ?_|refine zoc c_sf ?_ ?_|refine zbo ?_|refine zg3 ?_ (fun h=>?_) (fun h=>?_)|refine zg4 (fun h=>?_) (fun h=>?_)|fail)|((first|omega|(refine nf1 ?_;with_reducible assumption)|(refine nf2 ?_;with_reducible assumption));done))
  by_cases hp:shVs 30 [p]=true
  rotate_left
  · rw [hf] at c_sf
    rw [Bool.eq_false_iff.2 hp] at c_sp
    refine zen Tryz.func13 rfl Tryz.ntmps13 ?_
    intro w0 E0 hc
    repeat' (first|(with_reducible first|refine Wp_seq ?_|refine zr0 hc ?_|refine zm0 hc ?_|refine zwk ?_|refine Wp_block ?_|refine zgo ?_|refine zbn ?_|refine zge Tryz.results13 ?_|refine Sub.refl _|refine allP_nil|refine zoa1 (out':=?_) ?_|refine zca1 (y:=?_) ?_|refine zea1 (eo':=?_) ?_)|(with_reducible refine allP_cons ?_ ?_;focus (first|decide|omega))|(with_reducible first|refine zg2 ?_ ?_|refine zoc c_aw ?_ ?_|refine zoc c_sf ?_ ?_|refine zoc c_sp ?_ ?_|refine zbo ?_|refine zg3 ?_ (fun h=>?_) (fun h=>?_)|refine zg4 (fun h=>?_) (fun h=>?_)|fail)|((first|omega|(refine nf1 ?_;with_reducible assumption)|(refine nf2 ?_;with_reducible assumption));done))
  obtain ⟨sa,sb,sc,sd⟩:=shVs4.1 hf
  have sp:=shV_short (shVs1.1 hp) (by decide)
  have sa:=shV_short sa (by decide)
  have sb:=shV_short sb (by decide)
  have sc:=shV_short sc (by decide)
  have sd:=shV_short sd (by decide)
  rw [hf] at c_sf
  rw [hp] at c_sp
  obtain ⟨e,hE,hG⟩:=frE_of a b c d
  have c_ch:=s_CheckFr sa sb sc sd hE
  have r_ch:=r_CheckFr sa sb sc sd hE
  have r_cp:=r_CheckV sp
  by_cases he:e=0
  rotate_left
  · have c_pl:=s_Place_err a b c d p e c_ch sp (by rw [nz1 he];exact he)
    have c_lo:=s_Local_err a b c d p e c_ch sp (by rw [nz1 he];exact he)
    have c_sh:=s_Shift_err a b c d p e c_ch sp (by rw [nz1 he];exact he)
    rw [nz1 he] at c_pl c_lo c_sh
    have c_st:=s_Stretch_err a b c d e c_ch he
    have p_v:=l_pt_bad _ he [] [] []
    have p_f:=l_ax_bad _ he (fun _=> [])
    clear hE hG
    refine zen Tryz.func13 rfl Tryz.ntmps13 ?_
    intro w0 E0 hc
    repeat' (first|(with_reducible first|refine Wp_seq ?_|refine zr0 hc ?_|refine zm0 hc ?_|refine zwk ?_|refine Wp_block ?_|refine zgo ?_|refine zbn ?_|refine zge Tryz.results13 ?_|refine Sub.refl _|refine allP_nil|refine zoa1 (out':=?_) ?_|refine zca1 (y:=?_) ?_|refine zea1 (eo':=?_) ?_)|(with_reducible refine allP_cons ?_ ?_;focus (first|decide|omega))|(with_reducible first|refine zg2 ?_ ?_|refine zoc c_aw ?_ ?_|refine zoc c_sf ?_ ?_|refine zoc c_sp ?_ ?_|refine zoc c_ch ?_ ?_|refine zoc r_ch ?_ ?_|refine zoc c_pl ?_ ?_|refine zoc c_lo ?_ ?_|refine zoc c_sh ?_ ?_|refine zoc c_st ?_ ?_|refine zoc p_v ?_ ?_|refine zoc p_f ?_ ?_|refine zbo ?_|refine zg3 ?_ (fun h=>?_) (fun h=>?_)|refine zg4 (fun h=>?_) (fun h=>?_)|fail)|((first|omega|(refine nf1 ?_;with_reducible assumption)|(refine nf2 ?_;with_reducible assumption));done))
  subst he
  have hF:=hG rfl
  obtain ⟨_,_,_,_,_,_,_,c_st,r_st,p_st⟩:=ok_stretch hF
  by_cases hv:fstVec p=0
  rotate_left
  · have c_pl:=s_Place_err a b c d p 0 c_ch sp (by rw [nz0,nz1 hv];exact hv)
    have c_lo:=s_Local_err a b c d p 0 c_ch sp (by rw [nz0,nz1 hv];exact hv)
    have c_sh:=s_Shift_err a b c d p 0 c_ch sp (by rw [nz0,nz1 hv];exact hv)
    rw [nz0,nz1 hv] at c_pl c_lo c_sh
    have p_v:=l_pt_bad _ hv [] [] []
    have p_f:=l_ax_bad _ hv (fun _=> [])
    clear hE hG
    generalize fstVec p=e at *
    refine zen Tryz.func13 rfl Tryz.ntmps13 ?_
    intro w0 E0 hc
    repeat' (first|(with_reducible first|refine Wp_seq ?_|refine zr0 hc ?_|refine zm0 hc ?_|refine zwk ?_|refine Wp_block ?_|refine zgo ?_|refine zbn ?_|refine zge Tryz.results13 ?_|refine Sub.refl _|refine allP_nil|refine zoa1 (out':=?_) ?_|refine zca1 (y:=?_) ?_|refine zea1 (eo':=?_) ?_)|(with_reducible refine allP_cons ?_ ?_;focus (first|decide|omega))|(with_reducible first|refine zg2 ?_ ?_|refine zoc c_aw ?_ ?_|refine zoc c_sf ?_ ?_|refine zoc c_sp ?_ ?_|refine zoc c_ch ?_ ?_|refine zoc r_ch ?_ ?_|refine zoc r_cp ?_ ?_|refine zoc c_pl ?_ ?_|refine zoc c_lo ?_ ?_|refine zoc c_sh ?_ ?_|refine zoc c_st ?_ ?_|refine zoc r_st ?_ ?_|refine zoc p_st ?_ ?_|refine zoc p_v ?_ ?_|refine zoc p_f ?_ ?_|refine zbo ?_|refine zg3 ?_ (fun h=>?_) (fun h=>?_)|refine zg4 (fun h=>?_) (fun h=>?_)|fail)|((first|omega|(refine nf1 ?_;with_reducible assumption)|(refine nf2 ?_;with_reducible assumption));done))
  rw [hv] at r_cp
  obtain ⟨_,_,_,_,_,_,_,c_pl,r_pl,p_pl⟩:=ok_place hF hv
  obtain ⟨_,_,_,_,_,_,_,c_lo,r_lo,p_lo⟩:=ok_local hF hv
  obtain ⟨_,_,_,c_sh,r_sh,p_sh⟩:=ok_shift hF hv
  clear hE hG
  refine zen Tryz.func13 rfl Tryz.ntmps13 ?_
  intro w0 E0 hc
  repeat' (first|(with_reducible first|refine Wp_seq ?_|refine zr0 hc ?_|refine zm0 hc ?_|refine zwk ?_|refine Wp_block ?_|refine zgo ?_|refine zbn ?_|refine zge Tryz.results13 ?_|refine Sub.refl _|refine allP_nil|refine zoa1 (out':=?_) ?_|refine zca1 (y:=?_) ?_|refine zea1 (eo':=?_) ?_)|(with_reducible refine allP_cons ?_ ?_;focus (first|decide|omega))|(with_reducible first|refine zg2 ?_ ?_|refine zoc c_aw ?_ ?_|refine zoc c_sf ?_ ?_|refine zoc c_sp ?_ ?_|refine zoc c_ch ?_ ?_|refine zoc r_ch ?_ ?_|refine zoc r_cp ?_ ?_|refine zoc c_pl ?_ ?_|refine zoc r_pl ?_ ?_|refine zoc p_pl ?_ ?_|refine zoc c_lo ?_ ?_|refine zoc r_lo ?_ ?_|refine zoc p_lo ?_ ?_|refine zoc c_sh ?_ ?_|refine zoc r_sh ?_ ?_|refine zoc p_sh ?_ ?_|refine zoc c_st ?_ ?_|refine zoc r_st ?_ ?_|refine zoc p_st ?_ ?_|refine zbo ?_|refine zg3 ?_ (fun h=>?_) (fun h=>?_)|refine zg4 (fun h=>?_) (fun h=>?_)|fail)|((first|omega|(refine nf1 ?_;with_reducible assumption)|(refine nf2 ?_;with_reducible assumption));done))
end Go.Proofs
end
