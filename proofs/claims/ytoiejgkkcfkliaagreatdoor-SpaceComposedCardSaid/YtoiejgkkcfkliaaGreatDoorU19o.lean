/- Lemmas on the program and its library: part U19o. -/
import Derived.Test.YtoiejgkkcfkliaaGreatDoorU13
set_option linter.unusedVariables false
set_option linter.unusedSimpArgs false
section
set_option maxHeartbeats 8000000
set_option maxRecDepth 100000
namespace Go.Proofs
open Go.Ax
theorem d8e {a b c d a' b' c' d':V3} {w u1 u2 u3:Rat} (hw:y4 w=false) (hu:okV u1 u2 u3) (hq:¬(w=0∧u1=0∧u2=0∧u3=0)) (sa:u7 a) (sb:u7 b) (sc:u7 c) (sd:u7 d) (sa':u7 a') (sb':u7 b') (sc':u7 c') (sd':u7 d')
    (c_sf:Ax.Pure Tryz.prog G 27 [N 20,txF a b c d] (Bo true)) (c_sg:Ax.Pure Tryz.prog G 27 [N 20,txF a' b' c' d'] (Bo true)) (l1:(c5 w).length≤20) (l2:(c5 u1).length≤20) (l3:(c5 u2).length≤20) (l4:(c5 u3).length≤20) :
    Ax.Pure Tryz.prog G 8 [txF a b c d,txF a' b' c' d',txQ (c5 w) (c5 u1) (c5 u2) (c5 u3)] (Bo true):=by
  have c_aw:=b8i
  have z1:=m6 (c5 w)
  have z2:=m6 (c5 u1)
  have z3:=m6 (c5 u2)
  have z4:=m6 (c5 u3)
  obtain ⟨_,_,_,c_tu,r_tu,p_t⟩:=d81 hw hu hq
  have r_cr:=b1l (c5 w) (c5 u1) (c5 u2) (c5 u3) (a0g hw) (a0g hu.1) (a0g hu.2.1) (a0g hu.2.2)
  rw [show a1e [c5 w,c5 u1,c5 u2,c5 u3]=0 by show u5 [a0a (c5 w),a0a (c5 u1),a0a (c5 u2),a0a (c5 u3)]=0;rw [a2j hw,a2j hu.1,a2j hu.2.1,a2j hu.2.2];rfl] at r_cr
  have c_w:=e2c
  have hz:∀q:Rat,((bs (c5 q)).toList == (⟨#[48]⟩:ByteArray).toList)=decide (q=0):=fun q=>by rw [b7o,d9e]
  have hz1:=hz w
  have hz2:=hz u1
  have hz3:=hz u2
  have hz4:=hz u3
  obtain ⟨e1,hE1,hG1⟩:=b6r a b c d
  obtain ⟨e2,hE2,hG2⟩:=b6r a' b' c' d'
  have s_ch1:=a6p sa sb sc sd hE1
  have s_ch2:=a6p sa' sb' sc' sd' hE2
  have r_ch1:=a6o sa sb sc sd hE1
  have r_ch2:=a6o sa' sb' sc' sd' hE2
  refine r8 Tryz.func8 rfl Tryz.ntmps8 ?_
  intro w0 E0 hc
  repeat' (first|(with_reducible first|refine j0 ?_|refine zwk ?_|refine i6 ?_|refine zgo ?_|refine zbn ?_|refine zge Tryz.results8 ?_|refine Sub.refl _|refine f9|refine w6 (out':=?_) ?_|refine u9 (y:=?_) ?_|refine w5 (eo':=?_) ?_)|(with_reducible refine zrs [1] hc ?_ ?_;focus (with_unfolding_all rfl))|(with_reducible refine zrm [1] hc mixed ?_ ?_;focus (with_unfolding_all rfl))|(with_reducible refine f6 ?_ ?_;focus (first|decide|omega))|(with_reducible first|refine zg2 ?_ ?_|refine zbo ?_|refine zg3 ?_ (fun h=>?_) (fun h=>?_)|refine zg4 (fun h=>?_) (fun h=>?_)|fail)|(omega;done))
  refine a05 hc 2 (sz:=4) (ro:=false) (g:=fun _=> [.v (.string (bs (c5 w))),.v (.string (bs (c5 u1))),.v (.string (bs (c5 u2))),.v (.string (bs (c5 u3)))]) (Is.refl _) ⟨trivial,trivial,trivial,trivial,trivial⟩ rfl ?_
  refine m7 (st':=n5 [(3,.one (.ptr 0 12 0 0)),(4,.one (.ptr 1 12 0 0)),(5,.one (.pp [.v (.string (bs (c5 w))),.v (.string (bs (c5 u1))),.v (.string (bs (c5 u2))),.v (.string (bs (c5 u3)))]))] [(0,⟨12,1,fun _=> [.v (.string (bs a.1)),.v (.string (bs a.2.1)),.v (.string (bs a.2.2)),.v (.string (bs b.1)),.v (.string (bs b.2.1)),.v (.string (bs b.2.2)),.v (.string (bs c.1)),.v (.string (bs c.2.1)),.v (.string (bs c.2.2)),.v (.string (bs d.1)),.v (.string (bs d.2.1)),.v (.string (bs d.2.2))],false⟩),(1,⟨12,1,fun _=> [.v (.string (bs a'.1)),.v (.string (bs a'.2.1)),.v (.string (bs a'.2.2)),.v (.string (bs b'.1)),.v (.string (bs b'.2.1)),.v (.string (bs b'.2.2)),.v (.string (bs c'.1)),.v (.string (bs c'.2.1)),.v (.string (bs c'.2.2)),.v (.string (bs d'.1)),.v (.string (bs d'.2.1)),.v (.string (bs d'.2.2))],false⟩)] 3) ?_ ?_
  · refine zW1 ?_ <;> repeat' (with_reducible first|exact trivial|refine j3 ?_ ?_|refine t7 (fun i hi=>?_))
  by_cases he:e1=0
  rotate_left
  · have c_co:=a2w a b c d a' b' c' d' e1 s_ch1 e2 s_ch2 (by rw [nz1 he];exact he)
    rw [nz1 he] at c_co
    have c_in:=a8e a b c d e1 s_ch1 he
    have p_f:Ax.Pure Tryz.prog G 66 [tF [] [] [] [] [] [] [] [] [] [] [] [],N e1,N e1,tF [] [] [] [] [] [] [] [] [] [] [] []] (Bo true):=a4q _ he (fun _=> [])
    clear hE1 hG1 hE2 hG2
    repeat' (first|(with_reducible first|refine j0 ?_|refine zr0 hc ?_|refine zm0 hc ?_|refine zwk ?_|refine i6 ?_|refine zgo ?_|refine zbn ?_|refine zge Tryz.results8 ?_|refine Sub.refl _|refine f9|refine w6 (out':=?_) ?_|refine u9 (y:=?_) ?_|refine w5 (eo':=?_) ?_)|(with_reducible refine f6 ?_ ?_;focus (first|decide|omega))|(with_reducible first|refine zg2 ?_ ?_|refine c9 c_aw ?_ ?_|refine c9 c_sf ?_ ?_|refine c9 c_sg ?_ ?_|refine c9 r_ch1 ?_ ?_|refine c9 r_ch2 ?_ ?_|refine c9 c_tu ?_ ?_|refine c9 r_tu ?_ ?_|refine c9 r_cr ?_ ?_|refine c9 (c_w _ ?_) ?_ ?_|refine c9 p_t ?_ ?_|refine c9 c_co ?_ ?_|refine c9 c_in ?_ ?_|refine c9 p_f ?_ ?_|refine zbo ?_|refine zg3 ?_ (fun h=>?_) (fun h=>?_)|refine zg4 (fun h=>?_) (fun h=>?_)|fail)|((first|omega|(refine nf1 ?_;with_reducible assumption)|(refine nf2 ?_;with_reducible assumption)|(rw [hz1,hz2,hz3,hz4];by_cases k1:w=0 <;> by_cases k2:u1=0 <;> by_cases k3:u2=0 <;> by_cases k4:u3=0 <;> simp_all;done)|fail);done))
  subst he
  have hF:=hG1 rfl
  obtain ⟨_,_,_,_,c_in,r_in,r_is,p_i⟩:=b31 hF
  by_cases hg:e2=0
  rotate_left
  · have c_co:=a2w a b c d a' b' c' d' 0 s_ch1 e2 s_ch2 (by rw [nz0,nz1 hg];exact hg)
    rw [nz0,nz1 hg] at c_co
    have p_f:Ax.Pure Tryz.prog G 66 [tF [] [] [] [] [] [] [] [] [] [] [] [],N e2,N e2,tF [] [] [] [] [] [] [] [] [] [] [] []] (Bo true):=a4q _ hg (fun _=> [])
    clear hE1 hG1 hE2 hG2
    repeat' (first|(with_reducible first|refine j0 ?_|refine zr0 hc ?_|refine zm0 hc ?_|refine zwk ?_|refine i6 ?_|refine zgo ?_|refine zbn ?_|refine zge Tryz.results8 ?_|refine Sub.refl _|refine f9|refine w6 (out':=?_) ?_|refine u9 (y:=?_) ?_|refine w5 (eo':=?_) ?_)|(with_reducible refine f6 ?_ ?_;focus (first|decide|omega))|(with_reducible first|refine zg2 ?_ ?_|refine c9 c_aw ?_ ?_|refine c9 c_sf ?_ ?_|refine c9 c_sg ?_ ?_|refine c9 r_ch1 ?_ ?_|refine c9 r_ch2 ?_ ?_|refine c9 c_tu ?_ ?_|refine c9 r_tu ?_ ?_|refine c9 r_cr ?_ ?_|refine c9 (c_w _ ?_) ?_ ?_|refine c9 p_t ?_ ?_|refine c9 c_co ?_ ?_|refine c9 c_in ?_ ?_|refine c9 r_in ?_ ?_|refine c9 r_is ?_ ?_|refine c9 p_i ?_ ?_|refine c9 p_f ?_ ?_|refine zbo ?_|refine zg3 ?_ (fun h=>?_) (fun h=>?_)|refine zg4 (fun h=>?_) (fun h=>?_)|fail)|((first|omega|(refine nf1 ?_;with_reducible assumption)|(refine nf2 ?_;with_reducible assumption)|(rw [hz1,hz2,hz3,hz4];by_cases k1:w=0 <;> by_cases k2:u1=0 <;> by_cases k3:u2=0 <;> by_cases k4:u3=0 <;> simp_all;done)|fail);done))
  subst hg
  obtain ⟨_,_,_,_,c_co,r_co,r_cs,p_c⟩:=b30 hF (hG2 rfl)
  clear hE1 hG1 hE2 hG2
  · have c_aw:=c_aw
    repeat' (first|(with_reducible first|refine j0 ?_|refine zr0 hc ?_|refine zm0 hc ?_|refine zwk ?_|refine i6 ?_|refine zgo ?_|refine zbn ?_|refine zge Tryz.results8 ?_|refine Sub.refl _|refine f9|refine w6 (out':=?_) ?_|refine u9 (y:=?_) ?_|refine w5 (eo':=?_) ?_)|(with_reducible refine f6 ?_ ?_;focus (first|decide|omega))|(with_reducible first|refine zg2 ?_ ?_|refine c9 c_aw ?_ ?_|refine c9 c_sf ?_ ?_|refine c9 c_sg ?_ ?_|refine c9 r_ch1 ?_ ?_|refine c9 r_ch2 ?_ ?_|refine c9 c_tu ?_ ?_|refine c9 r_tu ?_ ?_|refine c9 r_cr ?_ ?_|refine c9 (c_w _ ?_) ?_ ?_|refine c9 p_t ?_ ?_|refine c9 c_co ?_ ?_|refine c9 r_co ?_ ?_|refine c9 r_cs ?_ ?_|refine c9 p_c ?_ ?_|refine c9 c_in ?_ ?_|refine c9 r_in ?_ ?_|refine c9 r_is ?_ ?_|refine c9 p_i ?_ ?_|refine zbo ?_|refine zg3 ?_ (fun h=>?_) (fun h=>?_)|refine zg4 (fun h=>?_) (fun h=>?_)|fail)|((first|omega|(refine nf1 ?_;with_reducible assumption)|(refine nf2 ?_;with_reducible assumption)|(rw [hz1,hz2,hz3,hz4];by_cases k1:w=0 <;> by_cases k2:u1=0 <;> by_cases k3:u2=0 <;> by_cases k4:u3=0 <;> simp_all;done)|fail);done))
end Go.Proofs
end
