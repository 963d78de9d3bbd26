/- Lemmas on the program and its library: part QC. -/
import Derived.Test.YtoiejgkkcfkliaaGreatDoorQCW
import Derived.Test.YtoiejgkkcfkliaaGreatDoorQS
set_option linter.unusedVariables false
set_option linter.unusedSimpArgs false
section
set_option maxHeartbeats 4000000
set_option maxRecDepth 100000
namespace Go.Proofs
open Go.Ax
theorem r_AddVec {k:Nat} (hk:k≤1000000) (a1 a2 a3 b1 b2 b3:Rat) (qa:Q k a1∧Q k a2∧Q k a3) (qb:Q k b1∧Q k b2∧Q k b3):Ax.Pure Tryz.prog G 84 [tV (ratL a1) (ratL a2) (ratL a3),tV (ratL b1) (ratL b2) (ratL b3)] (tV (ratL (a1+b1)) (ratL (a2+b2)) (ratL (a3+b3))):=by
  obtain ⟨qa1,qa2,qa3⟩:=qa
  obtain ⟨qb1,qb2,qb3⟩:=qb
  have c_1:=r_AddQ a1 b1 qa1 qb1 hk
  have c_2:=r_AddQ a2 b2 qa2 qb2 hk
  have c_3:=r_AddQ a3 b3 qa3 qb3 hk
  refine zen Tryz.func84 rfl Tryz.ntmps84 ?_
  intro w0 E0 hc
  repeat' (first|refine zR1 hc Tryz.results84 ?_|(with_reducible first|exact trivial|refine zan ?_ ?_|refine zim (fun h=>?_)|refine zoc c_1 ?_ ?_|refine zoc c_2 ?_ ?_|refine zoc c_3 ?_ ?_|fail)|(omega;done))
end Go.Proofs
end
section
set_option maxHeartbeats 4000000
set_option maxRecDepth 100000
namespace Go.Proofs
open Go.Ax
theorem r_intGcd (a b:Int) (ha:a.natAbs≤999999999) (hb:b.natAbs≤999999999):Ax.Pure Tryz.prog G 150 [N a,N b] (N (Nat.gcd a.natAbs b.natAbs:Nat)):=by
  refine zen Tryz.func150 rfl Tryz.ntmps150 ?_
  intro w0 E0 hc
  repeat' (first|refine zR1 hc Tryz.results150 ?_|(with_reducible first|exact trivial|refine zan ?_ ?_|refine zim (fun h=>?_)|fail)|(omega;done))
  refine Wp_loopI (α:=Int×Int) (fun p=>stOf [(0,N p.1),(1,N p.2)] [] 0)
    (fun p=>p.1.natAbs≤999999999∧p.2.natAbs≤999999999∧Nat.gcd p.1.natAbs p.2.natAbs=Nat.gcd a.natAbs b.natAbs) (fun p=>p.2.natAbs) (a,b) ⟨ha,hb,rfl⟩ ?_ ?_
  · refine zW1 ?_ <;> repeat' (with_reducible first|exact trivial|refine zan ?_ ?_|refine zal (fun i hi=>?_))
  · rintro ⟨x,y⟩ ⟨h1,h2,h3⟩
    dsimp only at h1 h2 h3
    have e1:(x.tmod y).natAbs=x.natAbs%y.natAbs:=Int.natAbs_tmod x y
    have S1:¬y=0→y≠0∧true=true:=fun h=>⟨h,rfl⟩
    repeat' (first|refine zR1 hc Tryz.results150 ?_|(with_reducible first|exact trivial|refine zan ?_ ?_|refine zim (fun h=>?_)|fail)|((first|omega|(refine S1 ?_;assumption));done))
    · refine ⟨(y,x.tmod y),⟨h2,by dsimp only;rw [e1];have:=Nat.mod_lt x.natAbs (show 0 < y.natAbs by omega);omega,by
          dsimp only;rw [e1,←h3];exact (Nat.gcd_comm _ _).trans ((Nat.gcd_rec y.natAbs x.natAbs).symm.trans (Nat.gcd_comm _ _))⟩,by
        dsimp only;rw [e1];exact Nat.mod_lt x.natAbs (show 0 < y.natAbs by omega),?_⟩
      refine zW1 ?_ <;> repeat' (with_reducible first|exact trivial|refine zan ?_ ?_|refine zal (fun i hi=>?_))
    · have hy0:y=0:=by omega
      subst hy0
      have hx:Nat.gcd x.natAbs (Int.natAbs 0)=x.natAbs:=Nat.gcd_zero_right _
      rw [hx] at h3
      rw [←h3]
      refine sub_int ?_
      rw [IntKind.wrap_i64]
      split <;> omega
theorem gcdN3 (x y z:Int):Nat.gcd (Nat.gcd x.natAbs y.natAbs) z.natAbs=gcdN x y z 3:=by
  show _=Nat.gcd (Nat.gcd (Nat.gcd 0 x.natAbs) y.natAbs) z.natAbs
  rw [Nat.gcd_zero_left]
theorem gcdN0 (x y z:Int):gcdN x y z 3=0↔(x=0∧y=0∧z=0):=by
  rw [←gcdN3,Nat.gcd_eq_zero_iff,Nat.gcd_eq_zero_iff];omega
def chkE (x y z E:Int):Int:=firstNZ [if gcdN x y z 3=0 then 6 else 0,if farN x y z 3=true then 3 else 0,if gcdN x y z 3=1 then 0 else 1,E]
theorem r_CheckHalfE (x y z:Int) (d:List UInt8) (E:Int) (c_c:Ax.Pure Tryz.prog G 21 [S (bs d)] (N E)):Ax.Pure Tryz.prog G 32 [tH x y z d] (N (chkE x y z E)):=by
  have hE:¬(x=0∧y=0∧z=0)→eqVs [.int .i64 x,.int .i64 y,.int .i64 z] [.int .i64 0,.int .i64 0,.int .i64 0]=false:=fun h=>by
    simp only [eqVs,eqV]
    by_cases h1:x=0 <;> by_cases h2:y=0 <;> by_cases h3:z=0 <;> simp_all
  have hg:=gcdN0 x y z
  have hc6:(x=0∧y=0∧z=0)→chkE x y z E=6:=fun h=>by
    unfold chkE;rw [if_pos (hg.2 h)];rfl
  have hcF:¬(x=0∧y=0∧z=0)→farN x y z 3=true→chkE x y z E=3:=fun h h2=>by
    unfold chkE;rw [if_neg (fun e=>h (hg.1 e)),if_pos h2];rfl
  have hc1:¬(x=0∧y=0∧z=0)→farN x y z 3=false→¬gcdN x y z 3=1→chkE x y z E=1:=fun h h2 h3=>by
    unfold chkE;rw [if_neg (fun e=>h (hg.1 e)),h2,if_neg h3];rfl
  have hcC:¬(x=0∧y=0∧z=0)→farN x y z 3=false→gcdN x y z 3=1→chkE x y z E=E:=fun h h2 h3=>by
    unfold chkE;rw [if_neg (fun e=>h (hg.1 e)),h2,if_pos h3]
    simp [firstNZ]
    intro e;exact e.symm
  by_cases h0:x=0∧y=0∧z=0
  · obtain ⟨rfl,rfl,rfl⟩:=h0
    rw [hc6 ⟨rfl,rfl,rfl⟩]
    refine zen Tryz.func32 rfl Tryz.ntmps32 ?_
    intro w0 E0 hc
    repeat' (first|(with_reducible first|refine Wp_seq ?_|refine zwk ?_|refine Wp_block ?_|refine zgo ?_|refine zbn ?_|refine zge Tryz.results32 ?_|refine Sub.refl _|refine allP_nil|refine zoa1 (out':=?_) ?_|refine zca1 (y:=?_) ?_|refine zea1 (eo':=?_) ?_)|(with_reducible refine zrs [3] hc ?_ ?_;focus (with_unfolding_all rfl))|(with_reducible refine zrm [3] hc mixed ?_ ?_;focus (with_unfolding_all rfl))|(with_reducible refine allP_cons ?_ ?_;focus (first|decide|omega))|(with_reducible first|refine zg2 ?_ ?_|refine zbo ?_|refine zg3 ?_ (fun h=>?_) (fun h=>?_)|refine zg4 (fun h=>?_) (fun h=>?_)|fail)|((first|omega|(exact absurd h (by decide)));done))
  · have hE:=hE h0
    have hcF:=hcF h0
    have hc1:=hc1 h0
    have hcC:=hcC h0
    clear hc6 hg
    refine zen Tryz.func32 rfl Tryz.ntmps32 ?_
    intro w0 E0 hc
    repeat' (first|refine zR1 hc Tryz.results32 ?_|(with_reducible first|exact trivial|refine zan ?_ ?_|refine zim (fun h=>?_)|fail)|((first|omega|exact nft2 hE h|fail);done))
    refine Wp_loopI (α:=Nat) (fun i=>stOf [(1,.one (.ptr 0 4 0 0)),(3,N i)] [(0,⟨4,1,fun _=> [.v (.int .i64 x),.v (.int .i64 y),.v (.int .i64 z),.v (.string (bs d))],false⟩)] 1)
      (fun i=>i≤3∧farN x y z i=false) (fun i=>3 - i) 0 ⟨Nat.zero_le _,rfl⟩ ?_ ?_
    · refine zW1 ?_ <;> repeat' (with_reducible first|exact trivial|refine zan ?_ ?_|refine zal (fun i hi=>?_))
    · rintro i ⟨hi,hf⟩
      have:i=0∨i=1∨i=2∨i=3:=by omega
      rcases this with rfl|rfl|rfl|rfl
      · have hT:(999999999 < x∨x < -999999999)→farN x y z 3=true:=fun h=>by
          show (far1 x || far1 y || far1 z)=true
          have:far1 x=true:=by unfold far1;rcases h with h|h <;> simp [h]
          simp [this]
        have hF:¬999999999 < x→¬x < -999999999→farN x y z 1=false:=fun h1 h2=>by
          have e:far1 x=false:=by unfold far1;rw [decide_eq_false h1,decide_eq_false h2];rfl
          have hf':=hf
          revert hf'
          show false=false→far1 x=false
          intro hf';simp_all
        repeat' (first|refine zR1 hc Tryz.results32 ?_|(with_reducible first|exact trivial|refine zan ?_ ?_|refine zim (fun h=>?_)|fail)|(omega;done))
        · exact sub_eq (by rw [hcF (hT (by omega))])
        · refine ⟨1,⟨by omega,hF (by omega) (by omega)⟩,by omega,?_⟩
          refine zW1 ?_ <;> repeat' (with_reducible first|exact trivial|refine zan ?_ ?_|refine zal (fun i hi=>?_))
        · exact sub_eq (by rw [hcF (hT (by omega))])
      · have hT:(999999999 < y∨y < -999999999)→farN x y z 3=true:=fun h=>by
          show (far1 x || far1 y || far1 z)=true
          have:far1 y=true:=by unfold far1;rcases h with h|h <;> simp [h]
          simp [this]
        have hF:¬999999999 < y→¬y < -999999999→farN x y z 2=false:=fun h1 h2=>by
          have e:far1 y=false:=by unfold far1;rw [decide_eq_false h1,decide_eq_false h2];rfl
          have hf':=hf
          revert hf'
          show far1 x=false→(far1 x || far1 y)=false
          intro hf';simp_all
        repeat' (first|refine zR1 hc Tryz.results32 ?_|(with_reducible first|exact trivial|refine zan ?_ ?_|refine zim (fun h=>?_)|fail)|(omega;done))
        · exact sub_eq (by rw [hcF (hT (by omega))])
        · refine ⟨2,⟨by omega,hF (by omega) (by omega)⟩,by omega,?_⟩
          refine zW1 ?_ <;> repeat' (with_reducible first|exact trivial|refine zan ?_ ?_|refine zal (fun i hi=>?_))
        · exact sub_eq (by rw [hcF (hT (by omega))])
      · have hT:(999999999 < z∨z < -999999999)→farN x y z 3=true:=fun h=>by
          show (far1 x || far1 y || far1 z)=true
          have:far1 z=true:=by unfold far1;rcases h with h|h <;> simp [h]
          simp [this]
        have hF:¬999999999 < z→¬z < -999999999→farN x y z 3=false:=fun h1 h2=>by
          have e:far1 z=false:=by unfold far1;rw [decide_eq_false h1,decide_eq_false h2];rfl
          have hf':=hf
          revert hf'
          show (far1 x || far1 y)=false→(far1 x || far1 y || far1 z)=false
          intro hf';simp_all
        repeat' (first|refine zR1 hc Tryz.results32 ?_|(with_reducible first|exact trivial|refine zan ?_ ?_|refine zim (fun h=>?_)|fail)|(omega;done))
        · exact sub_eq (by rw [hcF (hT (by omega))])
        · refine ⟨3,⟨by omega,hF (by omega) (by omega)⟩,by omega,?_⟩
          refine zW1 ?_ <;> repeat' (with_reducible first|exact trivial|refine zan ?_ ?_|refine zal (fun i hi=>?_))
        · exact sub_eq (by rw [hcF (hT (by omega))])
      · have hfx:x.natAbs≤999999999∧y.natAbs≤999999999∧z.natAbs≤999999999:=by
          have hf':(far1 x || far1 y || far1 z)=false:=hf
          simp only [far1,Bool.or_eq_false_iff,decide_eq_false_iff_not] at hf'
          omega
        have c_g1:=r_intGcd x y hfx.1 hfx.2.1
        have hb1:((Nat.gcd x.natAbs y.natAbs:Nat):Int).natAbs≤999999999:=by
          rw [Int.natAbs_natCast]
          rcases Nat.eq_zero_or_pos x.natAbs with e|e
          · rw [e,Nat.gcd_zero_left];exact hfx.2.1
          · exact Nat.le_trans (Nat.gcd_le_left _ e) hfx.1
        have c_g2:=r_intGcd (Nat.gcd x.natAbs y.natAbs:Nat) z hb1 hfx.2.2
        rw [Int.natAbs_natCast,gcdN3] at c_g2
        have hc1:=hc1 hf
        have hcC:=hcC hf
        repeat' (first|refine zR1 hc Tryz.results32 ?_|(with_reducible first|exact trivial|refine zan ?_ ?_|refine zim (fun h=>?_)|refine zoc c_g1 ?_ ?_|refine zoc c_g2 ?_ ?_|refine zoc c_c ?_ ?_|fail)|(omega;done))
        · exact sub_eq (by rw [hc1 (by omega)])
        · exact sub_eq (by rw [hcC (by omega)])
theorem r_CheckHalf (x y z:Int) (d:List UInt8) (hd:d.length≤900000):Ax.Pure Tryz.prog G 32 [tH x y z d] (N (chkH x y z d)):=r_CheckHalfE x y z d _ (r_Check d hd)
end Go.Proofs
end
section
namespace Go.Proofs
open Go.Ax
theorem axE_nz {x1 x2 x3 y1 y2 y3 z1 z2 z3:Rat} (h:axE x1 x2 x3 y1 y2 y3 z1 z2 z3=0):dot3 x1 x2 x3 x1 x2 x3≠0∧dot3 y1 y2 y3 y1 y2 y3≠0∧dot3 z1 z2 z3 z1 z2 z3≠0:=⟨dot_pos (axE_zero h).1,dot_pos (axE_zero h).2.1,dot_pos (axE_zero h).2.2.1⟩
theorem axE_orth {x1 x2 x3 y1 y2 y3 z1 z2 z3:Rat} (h:axE x1 x2 x3 y1 y2 y3 z1 z2 z3=0):orth x1 x2 x3 y1 y2 y3 z1 z2 z3:=(axE_zero h).2.2.2.1
end Go.Proofs
end
section
namespace Go.Proofs
open Go.Ax
theorem goodH {x y z:Int} {d:List UInt8} (e:chkH x y z d=0):∃w:Rat,d=ratL w∧okH x y z w:=by
  unfold chkH at e
  by_cases h0:gcdN x y z 3=0
  · rw [if_pos h0,nz1 (by decide)] at e;cases e
  rw [if_neg h0,nz0] at e
  cases hf:farN x y z 3
  rotate_left
  · rw [hf,if_pos rfl,nz1 (by decide)] at e;cases e
  rw [hf,if_neg (by decide),nz0] at e
  by_cases h1:gcdN x y z 3=1
  rotate_left
  · rw [if_neg h1,nz1 (by decide)] at e;cases e
  rw [if_pos h1,nz0] at e
  have e2:checkL d=0:=Classical.byContradiction fun h=>by rw [nz1 h] at e;exact h e
  obtain ⟨w,rfl,hw⟩:=checkL_zero e2
  have hf:(far1 x || far1 y || far1 z)=false:=hf
  rw [Bool.or_eq_false_iff,Bool.or_eq_false_iff] at hf
  have k:∀v:Int,far1 v=false→okI v:=fun v h=>by
    unfold far1 at h
    rw [Bool.or_eq_false_iff,decide_eq_false_iff_not,decide_eq_false_iff_not] at h
    exact ⟨by omega,by omega⟩
  exact ⟨w,rfl,⟨k x hf.1.1,k y hf.1.2,k z hf.2⟩,h1,hw⟩
end Go.Proofs
end
section
set_option maxHeartbeats 8000000
set_option maxRecDepth 100000
namespace Go.Proofs
open Go.Ax
theorem r_FewFAny (a b c d:V3) (n:Nat) (hn:n≤1000):∃t:Bool,Ax.Pure Tryz.prog G 82 [txF a b c d,N n] (Bo t)∧(t=true→∃o1 o2 o3 x1 x2 x3 y1 y2 y3 z1 z2 z3:Rat,(a=v3 o1 o2 o3∧b=v3 x1 x2 x3∧c=v3 y1 y2 y3∧d=v3 z1 z2 z3)∧okF o1 o2 o3 x1 x2 x3 y1 y2 y3 z1 z2 z3∧
    (Q (4*n) o1∧Q (4*n) o2∧Q (4*n) o3)∧(Q (4*n) x1∧Q (4*n) x2∧Q (4*n) x3)∧(Q (4*n) y1∧Q (4*n) y2∧Q (4*n) y3)∧(Q (4*n) z1∧Q (4*n) z2∧Q (4*n) z3)):=by
  obtain ⟨b1,c_1,g1⟩:=r_FewVAny a n hn
  obtain ⟨b2,c_2,g2⟩:=r_FewVAny b n hn
  obtain ⟨b3,c_3,g3⟩:=r_FewVAny c n hn
  obtain ⟨b4,c_4,g4⟩:=r_FewVAny d n hn
  by_cases hb:b1=true∧b2=true∧b3=true∧b4=true
  rotate_left
  · refine ⟨false,?_,fun h=>by cases h⟩
    clear g1 g2 g3 g4
    cases b1 <;> cases b2 <;> cases b3 <;> cases b4
    all_goals first|(exfalso;exact hb ⟨rfl,rfl,rfl,rfl⟩)|skip
    all_goals
      refine zen Tryz.func82 rfl Tryz.ntmps82 ?_
      intro w0 E0 hc
      repeat' (first|(with_reducible first|refine Wp_seq ?_|refine zr0 hc ?_|refine zm0 hc ?_|refine zwk ?_|refine Wp_block ?_|refine zgo ?_|refine zbn ?_|refine zge Tryz.results82 ?_|refine Sub.refl _|refine allP_nil|refine zoa1 (out':=?_) ?_|refine zca1 (y:=?_) ?_|refine zea1 (eo':=?_) ?_)|(with_reducible refine allP_cons ?_ ?_;focus (first|decide|omega))|(with_reducible first|refine zg2 ?_ ?_|refine zoc c_1 ?_ ?_|refine zoc c_2 ?_ ?_|refine zoc c_3 ?_ ?_|refine zoc c_4 ?_ ?_|refine zbo ?_|refine zg3 ?_ (fun h=>?_) (fun h=>?_)|refine zg4 (fun h=>?_) (fun h=>?_)|fail)|(omega;done))
      all_goals exact Sub.refl _
  obtain ⟨rfl,rfl,rfl,rfl⟩:=hb
  obtain ⟨o1,o2,o3,rfl,ho,qo⟩:=g1 rfl
  obtain ⟨x1,x2,x3,rfl,hx,qx⟩:=g2 rfl
  obtain ⟨y1,y2,y3,rfl,hy,qy⟩:=g3 rfl
  obtain ⟨z1,z2,z3,rfl,hz,qz⟩:=g4 rfl
  have c_c:=r_CheckFr_ok o1 o2 o3 x1 x2 x3 y1 y2 y3 z1 z2 z3 ho hx hy hz
  refine ⟨decide (axE x1 x2 x3 y1 y2 y3 z1 z2 z3=0),?_,fun h=>⟨o1,o2,o3,x1,x2,x3,y1,y2,y3,z1,z2,z3,⟨rfl,rfl,rfl,rfl⟩,⟨ho,hx,hy,hz,of_decide_eq_true h⟩,qo,qx,qy,qz⟩⟩
  clear g1 g2 g3 g4
  generalize axE x1 x2 x3 y1 y2 y3 z1 z2 z3=E at *
  refine zen Tryz.func82 rfl Tryz.ntmps82 ?_
  intro w0 E0 hc
  repeat' (first|(with_reducible first|refine Wp_seq ?_|refine zr0 hc ?_|refine zm0 hc ?_|refine zwk ?_|refine Wp_block ?_|refine zgo ?_|refine zbn ?_|refine zge Tryz.results82 ?_|refine Sub.refl _|refine allP_nil|refine zoa1 (out':=?_) ?_|refine zca1 (y:=?_) ?_|refine zea1 (eo':=?_) ?_)|(with_reducible refine allP_cons ?_ ?_;focus (first|decide|omega))|(with_reducible first|refine zg2 ?_ ?_|refine zoc c_1 ?_ ?_|refine zoc c_2 ?_ ?_|refine zoc c_3 ?_ ?_|refine zoc c_4 ?_ ?_|refine zoc c_c ?_ ?_|refine zbo ?_|refine zg3 ?_ (fun h=>?_) (fun h=>?_)|refine zg4 (fun h=>?_) (fun h=>?_)|fail)|(omega;done))
  all_goals exact Sub.refl _
theorem sgn_le (q:Rat):-1≤q.num.sign∧q.num.sign≤1:=by
  rcases Int.lt_trichotomy q.num 0 with h|h|h
  · rw [Int.sign_eq_neg_one_of_neg h];decide
  · rw [h];decide
  · rw [Int.sign_eq_one_of_pos h];decide
end Go.Proofs
end
section
namespace Go.Proofs
open Go.Ax
theorem rat_nat_zero (b:Nat):((b:Rat)=0)↔b=0:=by
  rw [show (0:Rat)=((0:Nat):Rat) from rfl,Rat.natCast_inj]
end Go.Proofs
end
section
namespace Go.Proofs
open Go.Ax
theorem dvd_dnm (a b c:Rat):a.den∣dnm a b c 3∧b.den∣dnm a b c 3∧c.den∣dnm a b c 3:=by
  show a.den∣lc (lc (lc 1 a.den) b.den) c.den∧b.den∣lc (lc (lc 1 a.den) b.den) c.den∧c.den∣lc (lc (lc 1 a.den) b.den) c.den
  simp only [lc_lcm]
  have h1:=Nat.dvd_lcm_right 1 a.den
  have h2:=Nat.dvd_lcm_left (Nat.lcm 1 a.den) b.den
  have h3:=Nat.dvd_lcm_right (Nat.lcm 1 a.den) b.den
  have h4:=Nat.dvd_lcm_left (Nat.lcm (Nat.lcm 1 a.den) b.den) c.den
  exact ⟨Nat.dvd_trans h1 (Nat.dvd_trans h2 h4),Nat.dvd_trans h3 h4,Nat.dvd_lcm_right _ _⟩
theorem rat_den (x:Rat):x*(x.den:Rat)=(x.num:Rat):=by
  have h:(x.num:Rat) / (x.den:Rat)=x:=by
    rw [show ((x.den:Nat):Rat)=((x.den:Int):Rat) from rfl,←Rat.divInt_eq_div,Rat.num_divInt_den]
  have h0:(x.den:Rat)≠0:=fun e=>x.den_nz ((rat_nat_zero _).1 e)
  grind
theorem int_of {x:Rat} {D:Nat} (h:x.den∣D):∃z:Int,x*(D:Rat)=(z:Rat):=by
  obtain ⟨m,rfl⟩:=h
  refine ⟨x.num*m,?_⟩
  have:=rat_den x
  rw [Rat.natCast_mul,Rat.intCast_mul,←this]
  show x*((x.den:Rat)*(m:Rat))=x*(x.den:Rat)*(m:Rat)
  grind
theorem cmn_dvd (a b c:Rat) (D:Nat):cmn a b c D 3∣nmr a D∧cmn a b c D 3∣nmr b D∧cmn a b c D 3∣nmr c D:=by
  show Nat.gcd (Nat.gcd (Nat.gcd 0 (nmr a D)) (nmr b D)) (nmr c D)∣_∧Nat.gcd (Nat.gcd (Nat.gcd 0 (nmr a D)) (nmr b D)) (nmr c D)∣_∧_∣_
  rw [Nat.gcd_zero_left]
  have h:=Nat.gcd_dvd_left (Nat.gcd (nmr a D) (nmr b D)) (nmr c D)
  exact ⟨Nat.dvd_trans h (Nat.gcd_dvd_left _ _),Nat.dvd_trans h (Nat.gcd_dvd_right _ _),Nat.gcd_dvd_right _ _⟩
theorem nrm_ints {x:Rat} {D C:Nat} (h:x.den∣D) (hc:C∣nmr x D) (hC:0 < C):x*((D:Rat) / (C:Rat))=(((x*((D:Rat) / (C:Rat))).num:Int):Rat):=by
  obtain ⟨z,hz⟩:=int_of h
  have hn:nmr x D=z.natAbs:=by unfold nmr;rw [hz,Rat.num_intCast]
  rw [hn] at hc
  obtain ⟨m,hm⟩:(C:Int)∣z:=Int.ofNat_dvd_left.2 hc
  have hC':((C:Nat):Rat)≠0:=fun e=>by rw [rat_nat_zero] at e;omega
  have e:x*((D:Rat) / (C:Rat))=(m:Rat):=by
    have:x*((D:Rat) / (C:Rat))=x*(D:Rat) / (C:Rat):=by grind
    rw [this,hz,hm,Rat.intCast_mul]
    show (C:Rat)*(m:Rat) / (C:Rat)=(m:Rat)
    grind
  rw [e,Rat.num_intCast]
noncomputable instance (a b c d:Rat):Decidable (hOk a b c d):=Classical.propDecidable _
end Go.Proofs
end
section
namespace Go.Proofs
open Go.Ax
theorem nmr_mul {x:Rat} {D C:Nat} (h:x.den∣D) (hc:C∣nmr x D) (hC:0 < C):nmr x D=C*(x*((D:Rat) / (C:Rat))).num.natAbs:=by
  have h1:=nrm_ints h hc hC
  have hC':((C:Nat):Rat)≠0:=fun e=>by rw [rat_nat_zero] at e;omega
  have e:x*(D:Rat)=(((C:Int)*(x*((D:Rat) / (C:Rat))).num:Int):Rat):=by
    rw [Rat.intCast_mul,←h1]
    show x*(D:Rat)=(C:Rat)*(x*((D:Rat) / (C:Rat)))
    grind
  unfold nmr
  rw [e,Rat.num_intCast,Int.natAbs_mul,Int.natAbs_natCast]
theorem nrm_prim {a b c:Rat} (h0:¬(a=0∧b=0∧c=0)):0 < nrm a b c∧(a*nrm a b c=(((a*nrm a b c).num:Int):Rat)∧b*nrm a b c=(((b*nrm a b c).num:Int):Rat)∧c*nrm a b c=(((c*nrm a b c).num:Int):Rat))∧gcdN (a*nrm a b c).num (b*nrm a b c).num (c*nrm a b c).num 3=1:=by
  have hD:=dnm_pos a b c 3
  obtain ⟨da,db,dc⟩:=dvd_dnm a b c
  obtain ⟨ea,eb,ec⟩:=cmn_dvd a b c (dnm a b c 3)
  have hC:=cmn_pos hD h0
  have ha:=nrm_ints da ea hC
  have hb:=nrm_ints db eb hC
  have hc:=nrm_ints dc ec hC
  have na:=nmr_mul da ea hC
  have nb:=nmr_mul db eb hC
  have nc:=nmr_mul dc ec hC
  have hg:cmn a b c (dnm a b c 3) 3=Nat.gcd (Nat.gcd (nmr a (dnm a b c 3)) (nmr b (dnm a b c 3))) (nmr c (dnm a b c 3)):=by
    show Nat.gcd (Nat.gcd (Nat.gcd 0 _) _) _=_
    rw [Nat.gcd_zero_left]
  have hn:nrm a b c=((dnm a b c 3:Nat):Rat) / ((cmn a b c (dnm a b c 3) 3:Nat):Rat):=rfl
  rw [←hn] at ha hb hc na nb nc
  have hp:0 < nrm a b c:=by
    rw [hn]
    rw [Rat.div_def];exact Rat.mul_pos (Rat.natCast_pos.2 hD) (Rat.inv_pos.2 (Rat.natCast_pos.2 hC))
  refine ⟨hp,⟨ha,hb,hc⟩,?_⟩
  generalize cmn a b c (dnm a b c 3) 3=C at *
  rw [na,nb,nc,Nat.gcd_mul_left,Nat.gcd_mul_left] at hg
  rw [←gcdN3]
  have:C*Nat.gcd (Nat.gcd (a*nrm a b c).num.natAbs (b*nrm a b c).num.natAbs) (c*nrm a b c).num.natAbs=C*1:=by omega
  exact Nat.eq_of_mul_eq_mul_left hC this
theorem prim_one {p:Rat} (hp:0 < p) {x y z X Y Z:Int} (h:gcdN x y z 3=1) (H:gcdN X Y Z 3=1) (hx:p*(x:Rat)=(X:Rat)) (hy:p*(y:Rat)=(Y:Rat)) (hz:p*(z:Rat)=(Z:Rat)):p=1:=by
  have k:∀{v V:Int},p*(v:Rat)=(V:Rat)→p.num*v=p.den*V:=fun {v V} e=>by
    have hd:=rat_den p
    have:((p.num*v:Int):Rat)=((p.den*V:Int):Rat):=by
      rw [Rat.intCast_mul,Rat.intCast_mul,←hd,←e]
      show p*(p.den:Rat)*(v:Rat)=(p.den:Rat)*(p*(v:Rat))
      grind
    exact Rat.intCast_inj.1 this
  have hc:Nat.Coprime p.num.natAbs p.den:=p.reduced
  have k1:∀{v V:Int},p*(v:Rat)=(V:Rat)→p.num.natAbs*v.natAbs=p.den*V.natAbs:=fun e=>by
    have:=congrArg Int.natAbs (k e)
    rwa [Int.natAbs_mul,Int.natAbs_mul,Int.natAbs_natCast] at this
  have d1:∀{v V:Int},p*(v:Rat)=(V:Rat)→p.den∣v.natAbs:=fun e=>(hc.symm).dvd_of_dvd_mul_left ⟨_,k1 e⟩
  have d2:∀{v V:Int},p*(v:Rat)=(V:Rat)→p.num.natAbs∣V.natAbs:=fun e=>hc.dvd_of_dvd_mul_left ⟨_,(k1 e).symm⟩
  rw [←gcdN3] at h H
  have e1:p.den=1:=Nat.dvd_one.1 (h ▸ Nat.dvd_gcd (Nat.dvd_gcd (d1 hx) (d1 hy)) (d1 hz))
  have e2:p.num.natAbs=1:=Nat.dvd_one.1 (H ▸ Nat.dvd_gcd (Nat.dvd_gcd (d2 hx) (d2 hy)) (d2 hz))
  have e3:p.num=1:=by
    have:0 < p.num:=by rw [Rat.lt_iff] at hp;simpa using hp
    omega
  have hd:=rat_den p
  rw [e1,e3] at hd
  show p=1
  have:p*1=1:=hd
  grind
theorem nrm_uniq {x y z:Int} (h:gcdN x y z 3=1) {k:Rat} (hk:0 < k) {a b c:Rat} (ha:a=k*(x:Rat)) (hb:b=k*(y:Rat)) (hc:c=k*(z:Rat)):k*nrm a b c=1∧¬(a=0∧b=0∧c=0):=by
  have h0:¬(a=0∧b=0∧c=0):=by
    rintro ⟨h1,h2,h3⟩
    have hk0:k≠0:=fun e=>by rw [e] at hk;exact absurd hk (by decide)
    have z0:∀{v:Int},k*(v:Rat)=0→v=0:=fun e=>by
      have:((_:Int):Rat)=((0:Int):Rat):=(Rat.mul_eq_zero.1 e).resolve_left hk0
      exact Rat.intCast_inj.1 this
    rw [ha] at h1;rw [hb] at h2;rw [hc] at h3
    have:=(gcdN0 x y z).2 ⟨z0 h1,z0 h2,z0 h3⟩
    omega
  obtain ⟨hp,⟨e1,e2,e3⟩,hg⟩:=nrm_prim h0
  refine ⟨prim_one (Rat.mul_pos hk hp) h hg (by rw [←e1,ha];grind) (by rw [←e2,hb];grind) (by rw [←e3,hc];grind),h0⟩
theorem hOk_okH {a b c d:Rat} (h0:¬(a=0∧b=0∧c=0)) (h:hOk a b c d):okH (a*nrm a b c).num (b*nrm a b c).num (c*nrm a b c).num (d*nrm a b c):=⟨h.1,(nrm_prim h0).2.2,h.2⟩
end Go.Proofs
end
section
namespace Go.Proofs
open Go.Ax
theorem sg_pos {q:Rat} (h:0 < q):q.num.sign=1:=by
  have:0 < q.num:=by rw [Rat.lt_iff] at h;simpa using h
  exact Int.sign_eq_one_of_pos this
theorem sg_neg {q:Rat} (h:q < 0):q.num.sign= -1:=by
  have:q.num < 0:=by rw [Rat.lt_iff] at h;simpa using h
  exact Int.sign_eq_neg_one_of_neg this
theorem sg_mul {k q:Rat} (h:0 < k):(k*q).num.sign=q.num.sign:=by
  by_cases h0:q=0
  · subst h0;rw [Rat.mul_zero]
  by_cases h1:0 < q
  · rw [sg_pos h1,sg_pos (Rat.mul_pos h h1)]
  · have h2:q < 0:=by grind
    rw [sg_neg h2,sg_neg]
    have:=Rat.mul_pos h (show 0 < -q by grind)
    grind
theorem cra1 (x1 x2 x3 y1 y2 y3 z1 z2 z3 v1 v2 v3:Rat):det3 x1 x2 x3 y1 y2 y3 z1 z2 z3*v1=dot3 x1 x2 x3 v1 v2 v3*(y2*z3 - y3*z2)+dot3 y1 y2 y3 v1 v2 v3*(z2*x3 - z3*x2)+dot3 z1 z2 z3 v1 v2 v3*(x2*y3 - x3*y2):=by unfold det3 dot3;grind
theorem cra2 (x1 x2 x3 y1 y2 y3 z1 z2 z3 v1 v2 v3:Rat):det3 x1 x2 x3 y1 y2 y3 z1 z2 z3*v2=dot3 x1 x2 x3 v1 v2 v3*(y3*z1 - y1*z3)+dot3 y1 y2 y3 v1 v2 v3*(z3*x1 - z1*x3)+dot3 z1 z2 z3 v1 v2 v3*(x3*y1 - x1*y3):=by unfold det3 dot3;grind
theorem cra3 (x1 x2 x3 y1 y2 y3 z1 z2 z3 v1 v2 v3:Rat):det3 x1 x2 x3 y1 y2 y3 z1 z2 z3*v3=dot3 x1 x2 x3 v1 v2 v3*(y1*z2 - y2*z1)+dot3 y1 y2 y3 v1 v2 v3*(z1*x2 - z2*x1)+dot3 z1 z2 z3 v1 v2 v3*(x1*y2 - x2*y1):=by unfold det3 dot3;grind
theorem at_x {x1 x2 x3 y1 y2 y3 z1 z2 z3 a b c:Rat} (h:orth x1 x2 x3 y1 y2 y3 z1 z2 z3):dot3 (x1*a+y1*b+z1*c) (x2*a+y2*b+z2*c) (x3*a+y3*b+z3*c) x1 x2 x3=a*dot3 x1 x2 x3 x1 x2 x3:=by
  obtain ⟨h1,h2,h3⟩:=h
  have:dot3 (x1*a+y1*b+z1*c) (x2*a+y2*b+z2*c) (x3*a+y3*b+z3*c) x1 x2 x3=a*dot3 x1 x2 x3 x1 x2 x3+b*dot3 x1 x2 x3 y1 y2 y3+c*dot3 z1 z2 z3 x1 x2 x3:=by unfold dot3;grind
  rw [this,h1,h3];grind
theorem at_y {x1 x2 x3 y1 y2 y3 z1 z2 z3 a b c:Rat} (h:orth x1 x2 x3 y1 y2 y3 z1 z2 z3):dot3 (x1*a+y1*b+z1*c) (x2*a+y2*b+z2*c) (x3*a+y3*b+z3*c) y1 y2 y3=b*dot3 y1 y2 y3 y1 y2 y3:=by
  obtain ⟨h1,h2,h3⟩:=h
  have:dot3 (x1*a+y1*b+z1*c) (x2*a+y2*b+z2*c) (x3*a+y3*b+z3*c) y1 y2 y3=b*dot3 y1 y2 y3 y1 y2 y3+a*dot3 x1 x2 x3 y1 y2 y3+c*dot3 y1 y2 y3 z1 z2 z3:=by unfold dot3;grind
  rw [this,h1,h2];grind
theorem at_z {x1 x2 x3 y1 y2 y3 z1 z2 z3 a b c:Rat} (h:orth x1 x2 x3 y1 y2 y3 z1 z2 z3):dot3 (x1*a+y1*b+z1*c) (x2*a+y2*b+z2*c) (x3*a+y3*b+z3*c) z1 z2 z3=c*dot3 z1 z2 z3 z1 z2 z3:=by
  obtain ⟨h1,h2,h3⟩:=h
  have:dot3 (x1*a+y1*b+z1*c) (x2*a+y2*b+z2*c) (x3*a+y3*b+z3*c) z1 z2 z3=c*dot3 z1 z2 z3 z1 z2 z3+a*dot3 z1 z2 z3 x1 x2 x3+b*dot3 y1 y2 y3 z1 z2 z3:=by unfold dot3;grind
  rw [this,h3,h2];grind
theorem spans {x1 x2 x3 y1 y2 y3 z1 z2 z3 v1 v2 v3 a b c:Rat} (h:orth x1 x2 x3 y1 y2 y3 z1 z2 z3) (hd:0 < det3 x1 x2 x3 y1 y2 y3 z1 z2 z3) (ha:a*dot3 x1 x2 x3 x1 x2 x3=dot3 v1 v2 v3 x1 x2 x3) (hb:b*dot3 y1 y2 y3 y1 y2 y3=dot3 v1 v2 v3 y1 y2 y3) (hc:c*dot3 z1 z2 z3 z1 z2 z3=dot3 v1 v2 v3 z1 z2 z3) :
    x1*a+y1*b+z1*c=v1∧x2*a+y2*b+z2*c=v2∧x3*a+y3*b+z3*c=v3:=by
  have e1:=at_x (a:=a) (b:=b) (c:=c) h
  have e2:=at_y (a:=a) (b:=b) (c:=c) h
  have e3:=at_z (a:=a) (b:=b) (c:=c) h
  rw [ha] at e1;rw [hb] at e2;rw [hc] at e3
  generalize x1*a+y1*b+z1*c=s1 at *
  generalize x2*a+y2*b+z2*c=s2 at *
  generalize x3*a+y3*b+z3*c=s3 at *
  have d1:dot3 x1 x2 x3 (s1 - v1) (s2 - v2) (s3 - v3)=0:=by unfold dot3 at *;grind
  have d2:dot3 y1 y2 y3 (s1 - v1) (s2 - v2) (s3 - v3)=0:=by unfold dot3 at *;grind
  have d3:dot3 z1 z2 z3 (s1 - v1) (s2 - v2) (s3 - v3)=0:=by unfold dot3 at *;grind
  have k1:=cra1 x1 x2 x3 y1 y2 y3 z1 z2 z3 (s1 - v1) (s2 - v2) (s3 - v3)
  have k2:=cra2 x1 x2 x3 y1 y2 y3 z1 z2 z3 (s1 - v1) (s2 - v2) (s3 - v3)
  have k3:=cra3 x1 x2 x3 y1 y2 y3 z1 z2 z3 (s1 - v1) (s2 - v2) (s3 - v3)
  rw [d1,d2,d3] at k1 k2 k3
  generalize det3 x1 x2 x3 y1 y2 y3 z1 z2 z3=D at *
  have z:∀{u:Rat},D*u=0→u=0:=fun h=>(Rat.mul_eq_zero.1 h).resolve_left (fun e=>by rw [e] at hd;exact absurd hd (by decide))
  have f1:=z (k1.trans (by grind))
  have f2:=z (k2.trans (by grind))
  have f3:=z (k3.trans (by grind))
  exact ⟨by grind,by grind,by grind⟩
theorem dlin (k a b c d e f:Rat):dot3 (a*k) (b*k) (c*k) d e f=k*dot3 a b c d e f:=by unfold dot3;grind
theorem dadd (n1 n2 n3 o1 o2 o3 s1 s2 s3:Rat):dot3 n1 n2 n3 (o1+s1) (o2+s2) (o3+s3)=dot3 n1 n2 n3 o1 o2 o3+dot3 n1 n2 n3 s1 s2 s3:=by unfold dot3;grind
theorem dcomb (n1 n2 n3 x1 x2 x3 y1 y2 y3 z1 z2 z3 a b c:Rat):dot3 n1 n2 n3 (x1*a+y1*b+z1*c) (x2*a+y2*b+z2*c) (x3*a+y3*b+z3*c)=dot3 (dot3 n1 n2 n3 x1 x2 x3) (dot3 n1 n2 n3 y1 y2 y3) (dot3 n1 n2 n3 z1 z2 z3) a b c:=by unfold dot3;grind
theorem div_m {a n:Rat} (h:n≠0):a / n*n=a:=Rat.div_mul_cancel h
theorem mul_d {a n:Rat} (h:n≠0):a*n / n=a:=by grind
end Go.Proofs
end
section
set_option maxHeartbeats 8000000
set_option maxRecDepth 100000
namespace Go.Proofs
open Go.Ax
theorem chk_H0 {x y z:Int} {w:Rat} (h:okH x y z w):Ax.Pure Tryz.prog G 32 [tH x y z (ratL w)] (N 0):=by
  have k:=r_CheckHalf x y z (ratL w) (ok_len h.2.2)
  rwa [okH_chk h] at k
theorem co_few (fo fx fy fz p:V3) (m n l:Int) (w:List UInt8) (t1 t2 t3:Bool) (h3:¬(t1=true∧t2=true∧t3=true)) (c_f:Ax.Pure Tryz.prog G 82 [txF fo fx fy fz,N 4] (Bo t1)) (c_p:Ax.Pure Tryz.prog G 55 [txV p,N 4] (Bo t2)) (c_h:Ax.Pure Tryz.prog G 54 [tH m n l w,N 100,N 4] (Bo t3)) :
    Ax.Pure Tryz.prog G 11 [txF fo fx fy fz,txV p,tH m n l w] (Bo true):=by
  have c_aw:=c_awake
  cases t1
  · clear h3
    refine zen Tryz.func11 rfl Tryz.ntmps11 ?_
    intro w0 E0 hc
    repeat' (first|(with_reducible first|refine Wp_seq ?_|refine zr0 hc ?_|refine zm0 hc ?_|refine zwk ?_|refine Wp_block ?_|refine zgo ?_|refine zbn ?_|refine zge Tryz.results11 ?_|refine Sub.refl _|refine allP_nil|refine zoa1 (out':=?_) ?_|refine zca1 (y:=?_) ?_|refine zea1 (eo':=?_) ?_)|(with_reducible refine allP_cons ?_ ?_;focus (first|decide|omega))|(with_reducible first|refine zg2 ?_ ?_|refine zoc c_aw ?_ ?_|refine zoc c_f ?_ ?_|refine zbo ?_|refine zg3 ?_ (fun h=>?_) (fun h=>?_)|refine zg4 (fun h=>?_) (fun h=>?_)|fail)|((first|omega|(refine absurd ?_ h;decide)|(refine nf1 ?_;with_reducible assumption)|(refine nf2 ?_;with_reducible assumption)|(exfalso;simp [beq_bs] at h;done)|fail);done))
  cases t2
  · clear h3
    refine zen Tryz.func11 rfl Tryz.ntmps11 ?_
    intro w0 E0 hc
    repeat' (first|(with_reducible first|refine Wp_seq ?_|refine zr0 hc ?_|refine zm0 hc ?_|refine zwk ?_|refine Wp_block ?_|refine zgo ?_|refine zbn ?_|refine zge Tryz.results11 ?_|refine Sub.refl _|refine allP_nil|refine zoa1 (out':=?_) ?_|refine zca1 (y:=?_) ?_|refine zea1 (eo':=?_) ?_)|(with_reducible refine allP_cons ?_ ?_;focus (first|decide|omega))|(with_reducible first|refine zg2 ?_ ?_|refine zoc c_aw ?_ ?_|refine zoc c_f ?_ ?_|refine zoc c_p ?_ ?_|refine zbo ?_|refine zg3 ?_ (fun h=>?_) (fun h=>?_)|refine zg4 (fun h=>?_) (fun h=>?_)|fail)|((first|omega|(refine absurd ?_ h;decide)|(refine nf1 ?_;with_reducible assumption)|(refine nf2 ?_;with_reducible assumption)|(exfalso;simp [beq_bs] at h;done)|fail);done))
  cases t3
  · clear h3
    refine zen Tryz.func11 rfl Tryz.ntmps11 ?_
    intro w0 E0 hc
    repeat' (first|(with_reducible first|refine Wp_seq ?_|refine zr0 hc ?_|refine zm0 hc ?_|refine zwk ?_|refine Wp_block ?_|refine zgo ?_|refine zbn ?_|refine zge Tryz.results11 ?_|refine Sub.refl _|refine allP_nil|refine zoa1 (out':=?_) ?_|refine zca1 (y:=?_) ?_|refine zea1 (eo':=?_) ?_)|(with_reducible refine allP_cons ?_ ?_;focus (first|decide|omega))|(with_reducible first|refine zg2 ?_ ?_|refine zoc c_aw ?_ ?_|refine zoc c_f ?_ ?_|refine zoc c_p ?_ ?_|refine zoc c_h ?_ ?_|refine zbo ?_|refine zg3 ?_ (fun h=>?_) (fun h=>?_)|refine zg4 (fun h=>?_) (fun h=>?_)|fail)|((first|omega|(refine absurd ?_ h;decide)|(refine nf1 ?_;with_reducible assumption)|(refine nf2 ?_;with_reducible assumption)|(exfalso;simp [beq_bs] at h;done)|fail);done))
  exact absurd ⟨rfl,rfl,rfl⟩ h3
theorem co_4 (fo fx fy fz p a b e1 e0 s:V3) (m n l kx ky kz lx ly lz ek el:Int) (w kw lw:List UInt8) (he:(ek=0∨ek=4)∧(el=0∨el=4)) (he2:ek=4∨el=4) (c_f:Ax.Pure Tryz.prog G 82 [txF fo fx fy fz,N 4] (Bo true)) (c_p:Ax.Pure Tryz.prog G 55 [txV p,N 4] (Bo true)) (c_h:Ax.Pure Tryz.prog G 54 [tH m n l w,N 100,N 4] (Bo true))
    (c_a:Ax.Pure Tryz.prog G 75 [txF fo fx fy fz,txV p] (.tup [txV a,N 0]))
    (c_b:Ax.Pure Tryz.prog G 83 [txF fo fx fy fz,txV p] (.tup [txV b,N 0]))
    (c_ka:Ax.Pure Tryz.prog G 39 [txV a] (N 0))
    (c_kb:Ax.Pure Tryz.prog G 39 [txV b] (N 0))
    (c_c:Ax.Pure Tryz.prog G 83 [txF fo fx fy fz,txV a] (.tup [txV p,N 0]))
    (c_d:Ax.Pure Tryz.prog G 75 [txF fo fx fy fz,txV b] (.tup [txV p,N 0]))
    (c_v1:Ax.Pure Tryz.prog G 72 [N 1,N 0,N 0] (txV e1))
    (c_v0:Ax.Pure Tryz.prog G 72 [N 0,N 0,N 0] (txV e0))
    (c_x:Ax.Pure Tryz.prog G 75 [txF fo fx fy fz,txV e1] (.tup [txV s,N 0]))
    (c_o:Ax.Pure Tryz.prog G 75 [txF fo fx fy fz,txV e0] (.tup [txV fo,N 0]))
    (r_s:Ax.Pure Tryz.prog G 84 [txV fo,txV fx] (txV s))
    (c_k:Ax.Pure Tryz.prog G 28 [txF fo fx fy fz,tH m n l w] (.tup [tH kx ky kz kw,N ek]))
    (c_l:Ax.Pure Tryz.prog G 29 [txF fo fx fy fz,tH m n l w] (.tup [tH lx ly lz lw,N el])) :
    Ax.Pure Tryz.prog G 11 [txF fo fx fy fz,txV p,tH m n l w] (Bo true):=by
  have c_aw:=c_awake
  refine zen Tryz.func11 rfl Tryz.ntmps11 ?_
  intro w0 E0 hc
  repeat' (first|(with_reducible first|refine Wp_seq ?_|refine zr0 hc ?_|refine zm0 hc ?_|refine zwk ?_|refine Wp_block ?_|refine zgo ?_|refine zbn ?_|refine zge Tryz.results11 ?_|refine Sub.refl _|refine allP_nil|refine zoa1 (out':=?_) ?_|refine zca1 (y:=?_) ?_|refine zea1 (eo':=?_) ?_)|(with_reducible refine allP_cons ?_ ?_;focus (first|decide|omega))|(with_reducible first|refine zg2 ?_ ?_|refine zoc c_aw ?_ ?_|refine zoc c_f ?_ ?_|refine zoc c_p ?_ ?_|refine zoc c_h ?_ ?_|refine zoc c_a ?_ ?_|refine zoc c_b ?_ ?_|refine zoc c_ka ?_ ?_|refine zoc c_kb ?_ ?_|refine zoc c_c ?_ ?_|refine zoc c_d ?_ ?_|refine zoc c_v1 ?_ ?_|refine zoc c_v0 ?_ ?_|refine zoc c_x ?_ ?_|refine zoc c_o ?_ ?_|refine zoc r_s ?_ ?_|refine zoc c_k ?_ ?_|refine zoc c_l ?_ ?_|refine zbo ?_|refine zg3 ?_ (fun h=>?_) (fun h=>?_)|refine zg4 (fun h=>?_) (fun h=>?_)|fail)|((first|omega|(refine absurd ?_ h;decide)|(refine nf1 ?_;with_reducible assumption)|(refine nf2 ?_;with_reducible assumption)|(exfalso;simp [beq_bs] at h;done)|fail);done))
theorem co_run (fo fx fy fz p a b e1 e0 s:V3) (m n l kx ky kz lx ly lz sg:Int) (w kw lw:List UInt8) (hs:-1≤sg∧sg≤1) (c_f:Ax.Pure Tryz.prog G 82 [txF fo fx fy fz,N 4] (Bo true)) (c_p:Ax.Pure Tryz.prog G 55 [txV p,N 4] (Bo true)) (c_h:Ax.Pure Tryz.prog G 54 [tH m n l w,N 100,N 4] (Bo true))
    (c_a:Ax.Pure Tryz.prog G 75 [txF fo fx fy fz,txV p] (.tup [txV a,N 0]))
    (c_b:Ax.Pure Tryz.prog G 83 [txF fo fx fy fz,txV p] (.tup [txV b,N 0]))
    (c_ka:Ax.Pure Tryz.prog G 39 [txV a] (N 0))
    (c_kb:Ax.Pure Tryz.prog G 39 [txV b] (N 0))
    (c_c:Ax.Pure Tryz.prog G 83 [txF fo fx fy fz,txV a] (.tup [txV p,N 0]))
    (c_d:Ax.Pure Tryz.prog G 75 [txF fo fx fy fz,txV b] (.tup [txV p,N 0]))
    (c_v1:Ax.Pure Tryz.prog G 72 [N 1,N 0,N 0] (txV e1))
    (c_v0:Ax.Pure Tryz.prog G 72 [N 0,N 0,N 0] (txV e0))
    (c_x:Ax.Pure Tryz.prog G 75 [txF fo fx fy fz,txV e1] (.tup [txV s,N 0]))
    (c_o:Ax.Pure Tryz.prog G 75 [txF fo fx fy fz,txV e0] (.tup [txV fo,N 0]))
    (r_s:Ax.Pure Tryz.prog G 84 [txV fo,txV fx] (txV s))
    (c_k:Ax.Pure Tryz.prog G 28 [txF fo fx fy fz,tH m n l w] (.tup [tH kx ky kz kw,N 0]))
    (c_l:Ax.Pure Tryz.prog G 29 [txF fo fx fy fz,tH m n l w] (.tup [tH lx ly lz lw,N 0]))
    (c_kk:Ax.Pure Tryz.prog G 32 [tH kx ky kz kw] (N 0))
    (c_kl:Ax.Pure Tryz.prog G 32 [tH lx ly lz lw] (N 0))
    (c_s:Ax.Pure Tryz.prog G 42 [tH m n l w,txV p] (.tup [N sg,N 0]))
    (c_t:Ax.Pure Tryz.prog G 42 [tH kx ky kz kw,txV a] (.tup [N sg,N 0]))
    (c_u:Ax.Pure Tryz.prog G 42 [tH lx ly lz lw,txV b] (.tup [N sg,N 0]))
    (c_v:Ax.Pure Tryz.prog G 29 [txF fo fx fy fz,tH kx ky kz kw] (.tup [tH m n l w,N 0])) :
    Ax.Pure Tryz.prog G 11 [txF fo fx fy fz,txV p,tH m n l w] (Bo true):=by
  have c_aw:=c_awake
  refine zen Tryz.func11 rfl Tryz.ntmps11 ?_
  intro w0 E0 hc
  repeat' (first|(with_reducible first|refine Wp_seq ?_|refine zr0 hc ?_|refine zm0 hc ?_|refine zwk ?_|refine Wp_block ?_|refine zgo ?_|refine zbn ?_|refine zge Tryz.results11 ?_|refine Sub.refl _|refine allP_nil|refine zoa1 (out':=?_) ?_|refine zca1 (y:=?_) ?_|refine zea1 (eo':=?_) ?_)|(with_reducible refine allP_cons ?_ ?_;focus (first|decide|omega))|(with_reducible first|refine zg2 ?_ ?_|refine zoc c_aw ?_ ?_|refine zoc c_f ?_ ?_|refine zoc c_p ?_ ?_|refine zoc c_h ?_ ?_|refine zoc c_a ?_ ?_|refine zoc c_b ?_ ?_|refine zoc c_ka ?_ ?_|refine zoc c_kb ?_ ?_|refine zoc c_c ?_ ?_|refine zoc c_d ?_ ?_|refine zoc c_v1 ?_ ?_|refine zoc c_v0 ?_ ?_|refine zoc c_x ?_ ?_|refine zoc c_o ?_ ?_|refine zoc r_s ?_ ?_|refine zoc c_k ?_ ?_|refine zoc c_l ?_ ?_|refine zoc c_kk ?_ ?_|refine zoc c_kl ?_ ?_|refine zoc c_s ?_ ?_|refine zoc c_t ?_ ?_|refine zoc c_u ?_ ?_|refine zoc c_v ?_ ?_|refine zbo ?_|refine zg3 ?_ (fun h=>?_) (fun h=>?_)|refine zg4 (fun h=>?_) (fun h=>?_)|fail)|((first|omega|(refine absurd ?_ h;decide)|(refine nf1 ?_;with_reducible assumption)|(refine nf2 ?_;with_reducible assumption)|(exfalso;simp [beq_bs] at h;done)|fail);done))
  all_goals exact sub_eq (congrArg Bo (by simp [beq_bs]))
theorem co_main (o1 o2 o3 x1 x2 x3 y1 y2 y3 z1 z2 z3 p1 p2 p3:Rat) (m n l:Int) (w:Rat) (hF:okF o1 o2 o3 x1 x2 x3 y1 y2 y3 z1 z2 z3) (op:okV p1 p2 p3) (hh:okH m n l w)
    (qo:Q 16 o1∧Q 16 o2∧Q 16 o3) (qx:Q 16 x1∧Q 16 x2∧Q 16 x3) (qy:Q 16 y1∧Q 16 y2∧Q 16 y3) (qz:Q 16 z1∧Q 16 z2∧Q 16 z3) (qp:Q 16 p1∧Q 16 p2∧Q 16 p3)
    (c_f:Ax.Pure Tryz.prog G 82 [tF (ratL o1) (ratL o2) (ratL o3) (ratL x1) (ratL x2) (ratL x3) (ratL y1) (ratL y2) (ratL y3) (ratL z1) (ratL z2) (ratL z3),N 4] (Bo true)) (c_p:Ax.Pure Tryz.prog G 55 [tV (ratL p1) (ratL p2) (ratL p3),N 4] (Bo true)) (c_h:Ax.Pure Tryz.prog G 54 [tH m n l (ratL w),N 100,N 4] (Bo true)) :
    Ax.Pure Tryz.prog G 11 [tF (ratL o1) (ratL o2) (ratL o3) (ratL x1) (ratL x2) (ratL x3) (ratL y1) (ratL y2) (ratL y3) (ratL z1) (ratL z2) (ratL z3),tV (ratL p1) (ratL p2) (ratL p3),tH m n l (ratL w)] (Bo true):=by
  obtain ⟨ho,hx,hy,hz,hE⟩:=id hF
  obtain ⟨nx,ny,nz⟩:=axE_nz hE
  have hor:=axE_orth hE
  have hdt:=(axE_zero hE).2.2.2.2
  have c_a:=s_Place o1 o2 o3 x1 x2 x3 y1 y2 y3 z1 z2 z3 hF p1 p2 p3 op
  have c_b:=s_Local o1 o2 o3 x1 x2 x3 y1 y2 y3 z1 z2 z3 hF p1 p2 p3 op
  have qa:∀{o x y z:Rat},Q 16 o→Q 16 x→Q 16 y→Q 16 z→Q 200 (o+(x*p1+y*p2+z*p3)):=fun h1 h2 h3 h4=>Q_of (Q_add h1 (Q_add (Q_add (Q_mul h2 qp.1) (Q_mul h3 qp.2.1)) (Q_mul h4 qp.2.2))) rfl
  have qb:∀{x y z:Rat},Q 16 x∧Q 16 y∧Q 16 z→Q 400 (dot3 (p1 - o1) (p2 - o2) (p3 - o3) x y z / dot3 x y z x y z):=fun h=>Q_of (Q_div (Q_dot (Q_sub qp.1 qo.1) (Q_sub qp.2.1 qo.2.1) (Q_sub qp.2.2 qo.2.2) (Q_of h.1 rfl) (Q_of h.2.1 rfl) (Q_of h.2.2 rfl)) (Q_dot h.1 h.2.1 h.2.2 h.1 h.2.1 h.2.2)) rfl
  have oa:=okV_of (Q_of (qa qo.1 qx.1 qy.1 qz.1) rfl) (Q_of (qa qo.2.1 qx.2.1 qy.2.1 qz.2.1) rfl) (Q_of (qa qo.2.2 qx.2.2 qy.2.2 qz.2.2) rfl)
  have ob:=okV_of (Q_of (qb qx) rfl) (Q_of (qb qy) rfl) (Q_of (qb qz) rfl)
  have c_a:=fineV c_a oa
  have c_b:=fineV c_b ob
  have hBx:=div_m (a:=dot3 (p1 - o1) (p2 - o2) (p3 - o3) x1 x2 x3) nx
  have hBy:=div_m (a:=dot3 (p1 - o1) (p2 - o2) (p3 - o3) y1 y2 y3) ny
  have hBz:=div_m (a:=dot3 (p1 - o1) (p2 - o2) (p3 - o3) z1 z2 z3) nz
  generalize dot3 (p1 - o1) (p2 - o2) (p3 - o3) x1 x2 x3 / dot3 x1 x2 x3 x1 x2 x3=b1 at *
  generalize dot3 (p1 - o1) (p2 - o2) (p3 - o3) y1 y2 y3 / dot3 y1 y2 y3 y1 y2 y3=b2 at *
  generalize dot3 (p1 - o1) (p2 - o2) (p3 - o3) z1 z2 z3 / dot3 z1 z2 z3 z1 z2 z3=b3 at *
  obtain ⟨s1,s2,s3⟩:=spans hor hdt hBx hBy hBz
  have c_d:=s_Place o1 o2 o3 x1 x2 x3 y1 y2 y3 z1 z2 z3 hF b1 b2 b3 ob
  have pl:∀o p:Rat,o+(p - o)=p:=fun o p=>by grind
  rw [s1,s2,s3,pl,pl,pl] at c_d
  have c_c:=s_Local o1 o2 o3 x1 x2 x3 y1 y2 y3 z1 z2 z3 hF _ _ _ oa
  have mi:∀o p:Rat,o+p - o=p:=fun o p=>by grind
  rw [mi,mi,mi,at_x hor,at_y hor,at_z hor,mul_d nx,mul_d ny,mul_d nz] at c_c
  have ok1:okV I1 I0 I0:=okV_of (Q_of Q_one rfl) (Q_of Q_zero rfl) (Q_of Q_zero rfl)
  have ok0:okV I0 I0 I0:=okV_of (Q_of Q_zero rfl) (Q_of Q_zero rfl) (Q_of Q_zero rfl)
  have c_x:=s_Place o1 o2 o3 x1 x2 x3 y1 y2 y3 z1 z2 z3 hF I1 I0 I0 ok1
  have c_o:=s_Place o1 o2 o3 x1 x2 x3 y1 y2 y3 z1 z2 z3 hF I0 I0 I0 ok0
  have u1:∀x y z:Rat,x*I1+y*I0+z*I0=x:=fun x y z=>by show x*1+y*0+z*0=x;grind
  have u0:∀x y z o:Rat,o+(x*I0+y*I0+z*I0)=o:=fun x y z o=>by show o+(x*0+y*0+z*0)=o;grind
  rw [u1,u1,u1] at c_x
  rw [u0,u0,u0] at c_o
  have os:okV (o1+x1) (o2+x2) (o3+x3):=okV_of (Q_of (Q_add qo.1 qx.1) rfl) (Q_of (Q_add qo.2.1 qx.2.1) rfl) (Q_of (Q_add qo.2.2 qx.2.2) rfl)
  have r_s:=r_AddVec (k:=16) (by decide) o1 o2 o3 x1 x2 x3 qo qx
  have c_v1:=l_vec 1 0 0 ⟨by decide,by decide⟩ ⟨by decide,by decide⟩ ⟨by decide,by decide⟩
  have c_v0:=l_vec 0 0 0 ⟨by decide,by decide⟩ ⟨by decide,by decide⟩ ⟨by decide,by decide⟩
  have h1:=s_PlaceHalf o1 o2 o3 x1 x2 x3 y1 y2 y3 z1 z2 z3 hF m n l w hh
  have h2:=s_PlaceHalf_no o1 o2 o3 x1 x2 x3 y1 y2 y3 z1 z2 z3 hF m n l w hh
  have h3:=s_LocalHalf o1 o2 o3 x1 x2 x3 y1 y2 y3 z1 z2 z3 hF m n l w hh
  have h4:=s_LocalHalf_no o1 o2 o3 x1 x2 x3 y1 y2 y3 z1 z2 z3 hF m n l w hh
  unfold phN at h1 h2
  dsimp only at h1 h2
  have n1:=at_x (a:=(m:Rat) / dot3 x1 x2 x3 x1 x2 x3) (b:=(n:Rat) / dot3 y1 y2 y3 y1 y2 y3) (c:=(l:Rat) / dot3 z1 z2 z3 z1 z2 z3) hor
  have n2:=at_y (a:=(m:Rat) / dot3 x1 x2 x3 x1 x2 x3) (b:=(n:Rat) / dot3 y1 y2 y3 y1 y2 y3) (c:=(l:Rat) / dot3 z1 z2 z3 z1 z2 z3) hor
  have n3:=at_z (a:=(m:Rat) / dot3 x1 x2 x3 x1 x2 x3) (b:=(n:Rat) / dot3 y1 y2 y3 y1 y2 y3) (c:=(l:Rat) / dot3 z1 z2 z3 z1 z2 z3) hor
  rw [div_m nx] at n1
  rw [div_m ny] at n2
  rw [div_m nz] at n3
  have zN:=ph_ne nx ny nz hor (okH_ne hh)
  unfold phN at zN
  dsimp only at zN
  have zL:=lh_ne hdt (okH_ne hh)
  generalize x1*((m:Rat) / dot3 x1 x2 x3 x1 x2 x3)+y1*((n:Rat) / dot3 y1 y2 y3 y1 y2 y3)+z1*((l:Rat) / dot3 z1 z2 z3 z1 z2 z3)=N1 at *
  generalize x2*((m:Rat) / dot3 x1 x2 x3 x1 x2 x3)+y2*((n:Rat) / dot3 y1 y2 y3 y1 y2 y3)+z2*((l:Rat) / dot3 z1 z2 z3 z1 z2 z3)=N2 at *
  generalize x3*((m:Rat) / dot3 x1 x2 x3 x1 x2 x3)+y3*((n:Rat) / dot3 y1 y2 y3 y1 y2 y3)+z3*((l:Rat) / dot3 z1 z2 z3 z1 z2 z3)=N3 at *
  by_cases hk:hOk N1 N2 N3 (w+dot3 N1 N2 N3 o1 o2 o3)
  rotate_left
  · by_cases hl:hOk (dot3 (m:Rat) (n:Rat) (l:Rat) x1 x2 x3) (dot3 (m:Rat) (n:Rat) (l:Rat) y1 y2 y3) (dot3 (m:Rat) (n:Rat) (l:Rat) z1 z2 z3) (w - dot3 (m:Rat) (n:Rat) (l:Rat) o1 o2 o3)
    · exact co_4 (v3 o1 o2 o3) (v3 x1 x2 x3) (v3 y1 y2 y3) (v3 z1 z2 z3) (v3 p1 p2 p3) (v3 _ _ _) (v3 b1 b2 b3) (v3 I1 I0 I0) (v3 I0 I0 I0) (v3 _ _ _) _ _ _ _ _ _ _ _ _ 4 0 _ _ _ ⟨.inr rfl,.inl rfl⟩ (.inl rfl) c_f c_p c_h c_a c_b (chk_V oa) (chk_V ob) (fineV c_c op) (fineV c_d op) c_v1 c_v0 (fineV c_x os) (fineV c_o ho) r_s (h2 hk) (h3 hl)
    · exact co_4 (v3 o1 o2 o3) (v3 x1 x2 x3) (v3 y1 y2 y3) (v3 z1 z2 z3) (v3 p1 p2 p3) (v3 _ _ _) (v3 b1 b2 b3) (v3 I1 I0 I0) (v3 I0 I0 I0) (v3 _ _ _) _ _ _ _ _ _ _ _ _ 4 4 _ _ _ ⟨.inr rfl,.inr rfl⟩ (.inl rfl) c_f c_p c_h c_a c_b (chk_V oa) (chk_V ob) (fineV c_c op) (fineV c_d op) c_v1 c_v0 (fineV c_x os) (fineV c_o ho) r_s (h2 hk) (h4 hl)
  by_cases hl:hOk (dot3 (m:Rat) (n:Rat) (l:Rat) x1 x2 x3) (dot3 (m:Rat) (n:Rat) (l:Rat) y1 y2 y3) (dot3 (m:Rat) (n:Rat) (l:Rat) z1 z2 z3) (w - dot3 (m:Rat) (n:Rat) (l:Rat) o1 o2 o3)
  rotate_left
  · exact co_4 (v3 o1 o2 o3) (v3 x1 x2 x3) (v3 y1 y2 y3) (v3 z1 z2 z3) (v3 p1 p2 p3) (v3 _ _ _) (v3 b1 b2 b3) (v3 I1 I0 I0) (v3 I0 I0 I0) (v3 _ _ _) _ _ _ _ _ _ _ _ _ 0 4 _ _ _ ⟨.inl rfl,.inr rfl⟩ (.inr rfl) c_f c_p c_h c_a c_b (chk_V oa) (chk_V ob) (fineV c_c op) (fineV c_d op) c_v1 c_v0 (fineV c_x os) (fineV c_o ho) r_s (h1 hk) (h4 hl)
  have c_k:=h1 hk
  have c_l:=h3 hl
  unfold hT at c_k c_l
  have hK:=hOk_okH zN hk
  have hL:=hOk_okH zL hl
  obtain ⟨kp,⟨ka,kb,kc⟩,_⟩:=nrm_prim zN
  obtain ⟨lp,⟨la,lb,lc'⟩,_⟩:=nrm_prim zL
  have c_s:=s_Side m n l w hh p1 p2 p3 op
  have c_t:=s_Side _ _ _ _ hK _ _ _ oa
  have c_u:=s_Side _ _ _ _ hL _ _ _ ob
  have c_kk:=chk_H0 hK
  have c_kl:=chk_H0 hL
  have c_v:=s_LocalHalf o1 o2 o3 x1 x2 x3 y1 y2 y3 z1 z2 z3 hF _ _ _ _ hK
  generalize (N1*nrm N1 N2 N3).num=kx at *
  generalize (N2*nrm N1 N2 N3).num=ky at *
  generalize (N3*nrm N1 N2 N3).num=kz at *
  generalize nrm N1 N2 N3=k at *
  generalize (dot3 (m:Rat) (n:Rat) (l:Rat) x1 x2 x3*nrm (dot3 (m:Rat) (n:Rat) (l:Rat) x1 x2 x3) (dot3 (m:Rat) (n:Rat) (l:Rat) y1 y2 y3) (dot3 (m:Rat) (n:Rat) (l:Rat) z1 z2 z3)).num=lx at *
  generalize (dot3 (m:Rat) (n:Rat) (l:Rat) y1 y2 y3*nrm (dot3 (m:Rat) (n:Rat) (l:Rat) x1 x2 x3) (dot3 (m:Rat) (n:Rat) (l:Rat) y1 y2 y3) (dot3 (m:Rat) (n:Rat) (l:Rat) z1 z2 z3)).num=ly at *
  generalize (dot3 (m:Rat) (n:Rat) (l:Rat) z1 z2 z3*nrm (dot3 (m:Rat) (n:Rat) (l:Rat) x1 x2 x3) (dot3 (m:Rat) (n:Rat) (l:Rat) y1 y2 y3) (dot3 (m:Rat) (n:Rat) (l:Rat) z1 z2 z3)).num=lz at *
  generalize nrm (dot3 (m:Rat) (n:Rat) (l:Rat) x1 x2 x3) (dot3 (m:Rat) (n:Rat) (l:Rat) y1 y2 y3) (dot3 (m:Rat) (n:Rat) (l:Rat) z1 z2 z3)=j at *
  have eN:dot3 N1 N2 N3 (x1*p1+y1*p2+z1*p3) (x2*p1+y2*p2+z2*p3) (x3*p1+y3*p2+z3*p3)=dot3 (m:Rat) (n:Rat) (l:Rat) p1 p2 p3:=by rw [dcomb,n1,n2,n3]
  have et:dot3 (kx:Rat) (ky:Rat) (kz:Rat) (o1+(x1*p1+y1*p2+z1*p3)) (o2+(x2*p1+y2*p2+z2*p3)) (o3+(x3*p1+y3*p2+z3*p3)) - (w+dot3 N1 N2 N3 o1 o2 o3)*k=k*(dot3 (m:Rat) (n:Rat) (l:Rat) p1 p2 p3 - w):=by
    rw [←ka,←kb,←kc,dlin,dadd,eN];grind
  have eu:dot3 (lx:Rat) (ly:Rat) (lz:Rat) b1 b2 b3 - (w - dot3 (m:Rat) (n:Rat) (l:Rat) o1 o2 o3)*j=j*(dot3 (m:Rat) (n:Rat) (l:Rat) p1 p2 p3 - w):=by
    rw [←la,←lb,←lc',dlin,←dcomb,s1,s2,s3]
    have:dot3 (m:Rat) (n:Rat) (l:Rat) (p1 - o1) (p2 - o2) (p3 - o3)=dot3 (m:Rat) (n:Rat) (l:Rat) p1 p2 p3 - dot3 (m:Rat) (n:Rat) (l:Rat) o1 o2 o3:=by unfold dot3;grind
    rw [this];grind
  rw [et,sg_mul kp] at c_t
  rw [eu,sg_mul lp] at c_u
  have e1:dot3 (kx:Rat) (ky:Rat) (kz:Rat) x1 x2 x3=k*(m:Rat):=by rw [←ka,←kb,←kc,dlin,n1]
  have e2:dot3 (kx:Rat) (ky:Rat) (kz:Rat) y1 y2 y3=k*(n:Rat):=by rw [←ka,←kb,←kc,dlin,n2]
  have e3:dot3 (kx:Rat) (ky:Rat) (kz:Rat) z1 z2 z3=k*(l:Rat):=by rw [←ka,←kb,←kc,dlin,n3]
  have e4:(w+dot3 N1 N2 N3 o1 o2 o3)*k - dot3 (kx:Rat) (ky:Rat) (kz:Rat) o1 o2 o3=k*w:=by rw [←ka,←kb,←kc,dlin];grind
  rw [e1,e2,e3,e4] at c_v
  obtain ⟨hu,_⟩:=nrm_uniq hh.2.1 kp (rfl:k*(m:Rat)=_) (rfl:k*(n:Rat)=_) (rfl:k*(l:Rat)=_)
  have back:∀q:Rat,k*q*nrm (k*(m:Rat)) (k*(n:Rat)) (k*(l:Rat))=q:=fun q=>by
    generalize nrm (k*(m:Rat)) (k*(n:Rat)) (k*(l:Rat))=v at *
    have:k*q*v=q*(k*v):=by grind
    rw [this,hu,Rat.mul_one]
  have hv:hOk (k*(m:Rat)) (k*(n:Rat)) (k*(l:Rat)) (k*w):=by
    unfold hOk
    rw [back,back,back,back,Rat.num_intCast,Rat.num_intCast,Rat.num_intCast]
    exact ⟨hh.1,hh.2.2⟩
  have c_v:=c_v hv
  rw [show hT (k*(m:Rat)) (k*(n:Rat)) (k*(l:Rat)) (k*w)=tH m n l (ratL w) by
    show tH _ _ _ _=_
    rw [back,back,back,back,Rat.num_intCast,Rat.num_intCast,Rat.num_intCast]] at c_v
  exact co_run (v3 o1 o2 o3) (v3 x1 x2 x3) (v3 y1 y2 y3) (v3 z1 z2 z3) (v3 p1 p2 p3) (v3 _ _ _) (v3 b1 b2 b3) (v3 I1 I0 I0) (v3 I0 I0 I0) (v3 _ _ _) _ _ _ _ _ _ _ _ _ _ _ _ _ (sgn_le _) c_f c_p c_h c_a c_b (chk_V oa) (chk_V ob) (fineV c_c op) (fineV c_d op) c_v1 c_v0 (fineV c_x os) (fineV c_o ho) r_s c_k c_l c_kk c_kl c_s c_t c_u c_v
end Go.Proofs
end
