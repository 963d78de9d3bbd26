/- Lemmas on the program and its library: part YA1. -/
import Derived.Test.YtoiejgkkcfkliaaGreatDoorZL3
set_option linter.unusedVariables false
set_option linter.unusedSimpArgs false
section
namespace Go.Proofs
open Go.Ax
theorem a1j (m n:Nat):lc m n=Nat.lcm m n:=by
  unfold lc Nat.lcm
  rw [Nat.div_mul_right_comm (Nat.gcd_dvd_left m n)]
end Go.Proofs
end
section
namespace Go.Proofs
open Go.Ax
abbrev txV (v:V3):AV:=.agg (leafV v)
end Go.Proofs
end
section
namespace Go.Proofs
open Go.Ax
abbrev txF (a b c d:V3):AV:=tF a.1 a.2.1 a.2.2 b.1 b.2.1 b.2.2 c.1 c.2.1 c.2.2 d.1 d.2.1 d.2.2
end Go.Proofs
end
section
set_option maxHeartbeats 4000000
set_option maxRecDepth 100000
namespace Go.Proofs
open Go.Ax
theorem a26 {k:Nat} (hk:k≤1000000) (a1 a2 a3 b1 b2 b3:Rat) (qa:Q k a1∧Q k a2∧Q k a3) (qb:Q k b1∧Q k b2∧Q k b3):Ax.Pure Tryz.prog G 84 [tV (ratL a1) (ratL a2) (ratL a3),tV (ratL b1) (ratL b2) (ratL b3)] (tV (ratL (a1+b1)) (ratL (a2+b2)) (ratL (a3+b3))):=by
  obtain ⟨qa1,qa2,qa3⟩:=qa
  obtain ⟨qb1,qb2,qb3⟩:=qb
  have c_1:=r_AddQ a1 b1 qa1 qb1 hk
  have c_2:=r_AddQ a2 b2 qa2 qb2 hk
  have c_3:=r_AddQ a3 b3 qa3 qb3 hk
  refine zen Tryz.func84 rfl Tryz.ntmps84 ?_
  intro w0 E0 hc
  repeat' (first|refine zR1 hc Tryz.results84 ?_|(with_reducible first|exact trivial|refine zan ?_ ?_|refine zim (fun h=>?_)|refine zoc c_1 ?_ ?_|refine zoc c_2 ?_ ?_|refine zoc c_3 ?_ ?_|fail)|(omega;done))
theorem a18 (x y z:Int) (d:List UInt8) (hx:i64 x) (hy:i64 y) (hz:i64 z):Ax.Pure Tryz.prog G 56 [tH x y z d] (tV (ratL (x:Rat)) (ratL (y:Rat)) (ratL (z:Rat))):=by
  have c_1:=r_Ints x y z hx hy hz
  refine zen Tryz.func56 rfl Tryz.ntmps56 ?_
  intro w0 E0 hc
  repeat' (first|refine zR1 hc Tryz.results56 ?_|(with_reducible first|exact trivial|refine zan ?_ ?_|refine zim (fun h=>?_)|refine zoc c_1 ?_ ?_|fail)|(omega;done))
end Go.Proofs
end
section
set_option maxHeartbeats 4000000
set_option maxRecDepth 100000
namespace Go.Proofs
open Go.Ax
theorem a1h (a b:Int) (ha:a.natAbs≤999999999) (hb:b.natAbs≤999999999):Ax.Pure Tryz.prog G 150 [N a,N b] (N (Nat.gcd a.natAbs b.natAbs:Nat)):=by
  refine zen Tryz.func150 rfl Tryz.ntmps150 ?_
  intro w0 E0 hc
  repeat' (first|refine zR1 hc Tryz.results150 ?_|(with_reducible first|exact trivial|refine zan ?_ ?_|refine zim (fun h=>?_)|fail)|(omega;done))
  refine Wp_loopI (α:=Int×Int) (fun p=>stOf [(0,N p.1),(1,N p.2)] [] 0)
    (fun p=>p.1.natAbs≤999999999∧p.2.natAbs≤999999999∧Nat.gcd p.1.natAbs p.2.natAbs=Nat.gcd a.natAbs b.natAbs) (fun p=>p.2.natAbs) (a,b) ⟨ha,hb,rfl⟩ ?_ ?_
  · refine zW1 ?_ <;> repeat' (with_reducible first|exact trivial|refine zan ?_ ?_|refine zal (fun i hi=>?_))
  · rintro ⟨x,y⟩ ⟨h1,h2,h3⟩
    dsimp only at h1 h2 h3
    have e1:(x.tmod y).natAbs=x.natAbs%y.natAbs:=Int.natAbs_tmod x y
    have S1:¬y=0→y≠0∧true=true:=fun h=>⟨h,rfl⟩
    repeat' (first|refine zR1 hc Tryz.results150 ?_|(with_reducible first|exact trivial|refine zan ?_ ?_|refine zim (fun h=>?_)|fail)|((first|omega|(refine S1 ?_;assumption));done))
    · refine ⟨(y,x.tmod y),⟨h2,by dsimp only;rw [e1];have:=Nat.mod_lt x.natAbs (show 0 < y.natAbs by omega);omega,by
          dsimp only;rw [e1,←h3];exact (Nat.gcd_comm _ _).trans ((Nat.gcd_rec y.natAbs x.natAbs).symm.trans (Nat.gcd_comm _ _))⟩,by
        dsimp only;rw [e1];exact Nat.mod_lt x.natAbs (show 0 < y.natAbs by omega),?_⟩
      refine zW1 ?_ <;> repeat' (with_reducible first|exact trivial|refine zan ?_ ?_|refine zal (fun i hi=>?_))
    · have hy0:y=0:=by omega
      subst hy0
      have hx:Nat.gcd x.natAbs (Int.natAbs 0)=x.natAbs:=Nat.gcd_zero_right _
      rw [hx] at h3
      rw [←h3]
      refine sub_int ?_
      rw [IntKind.wrap_i64]
      split <;> omega
theorem a4o (x y z:Int):Nat.gcd (Nat.gcd x.natAbs y.natAbs) z.natAbs=gcdN x y z 3:=by
  show _=Nat.gcd (Nat.gcd (Nat.gcd 0 x.natAbs) y.natAbs) z.natAbs
  rw [Nat.gcd_zero_left]
theorem gcdN0 (x y z:Int):gcdN x y z 3=0↔(x=0∧y=0∧z=0):=by
  rw [←a4o,Nat.gcd_eq_zero_iff,Nat.gcd_eq_zero_iff];omega
theorem nft2 {p:Prop} {b:Bool} (g:b=false) (h:b=true):p:=absurd (g.symm.trans h) Bool.false_ne_true
def a4a (x y z E:Int):Int:=firstNZ [if gcdN x y z 3=0 then 6 else 0,if farN x y z 3=true then 3 else 0,if gcdN x y z 3=1 then 0 else 1,E]
theorem a3p (x y z:Int) (d:List UInt8) (E:Int) (c_c:Ax.Pure Tryz.prog G 21 [S (bs d)] (N E)):Ax.Pure Tryz.prog G 32 [tH x y z d] (N (a4a x y z E)):=by
  have hE:¬(x=0∧y=0∧z=0)→eqVs [.int .i64 x,.int .i64 y,.int .i64 z] [.int .i64 0,.int .i64 0,.int .i64 0]=false:=fun h=>by
    simp only [eqVs,eqV]
    by_cases h1:x=0 <;> by_cases h2:y=0 <;> by_cases h3:z=0 <;> simp_all
  have hg:=gcdN0 x y z
  have hc6:(x=0∧y=0∧z=0)→a4a x y z E=6:=fun h=>by
    unfold a4a;rw [if_pos (hg.2 h)];rfl
  have hcF:¬(x=0∧y=0∧z=0)→farN x y z 3=true→a4a x y z E=3:=fun h h2=>by
    unfold a4a;rw [if_neg (fun e=>h (hg.1 e)),if_pos h2];rfl
  have hc1:¬(x=0∧y=0∧z=0)→farN x y z 3=false→¬gcdN x y z 3=1→a4a x y z E=1:=fun h h2 h3=>by
    unfold a4a;rw [if_neg (fun e=>h (hg.1 e)),h2,if_neg h3];rfl
  have hcC:¬(x=0∧y=0∧z=0)→farN x y z 3=false→gcdN x y z 3=1→a4a x y z E=E:=fun h h2 h3=>by
    unfold a4a;rw [if_neg (fun e=>h (hg.1 e)),h2,if_pos h3]
    simp [firstNZ]
    intro e;exact e.symm
  by_cases h0:x=0∧y=0∧z=0
  · obtain ⟨rfl,rfl,rfl⟩:=h0
    rw [hc6 ⟨rfl,rfl,rfl⟩]
    refine zen Tryz.func32 rfl Tryz.ntmps32 ?_
    intro w0 E0 hc
    repeat' (first|(with_reducible first|refine Wp_seq ?_|refine zwk ?_|refine Wp_block ?_|refine zgo ?_|refine zbn ?_|refine zge Tryz.results32 ?_|refine Sub.refl _|refine allP_nil|refine zoa1 (out':=?_) ?_|refine zca1 (y:=?_) ?_|refine zea1 (eo':=?_) ?_)|(with_reducible refine zrs [3] hc ?_ ?_;focus (with_unfolding_all rfl))|(with_reducible refine zrm [3] hc mixed ?_ ?_;focus (with_unfolding_all rfl))|(with_reducible refine allP_cons ?_ ?_;focus (first|decide|omega))|(with_reducible first|refine zg2 ?_ ?_|refine zbo ?_|refine zg3 ?_ (fun h=>?_) (fun h=>?_)|refine zg4 (fun h=>?_) (fun h=>?_)|fail)|((first|omega|(exact absurd h (by decide)));done))
  · have hE:=hE h0
    have hcF:=hcF h0
    have hc1:=hc1 h0
    have hcC:=hcC h0
    clear hc6 hg
    refine zen Tryz.func32 rfl Tryz.ntmps32 ?_
    intro w0 E0 hc
    repeat' (first|refine zR1 hc Tryz.results32 ?_|(with_reducible first|exact trivial|refine zan ?_ ?_|refine zim (fun h=>?_)|fail)|((first|omega|exact nft2 hE h|fail);done))
    refine Wp_loopI (α:=Nat) (fun i=>stOf [(1,.one (.ptr 0 4 0 0)),(3,N i)] [(0,⟨4,1,fun _=> [.v (.int .i64 x),.v (.int .i64 y),.v (.int .i64 z),.v (.string (bs d))],false⟩)] 1)
      (fun i=>i≤3∧farN x y z i=false) (fun i=>3 - i) 0 ⟨Nat.zero_le _,rfl⟩ ?_ ?_
    · refine zW1 ?_ <;> repeat' (with_reducible first|exact trivial|refine zan ?_ ?_|refine zal (fun i hi=>?_))
    · rintro i ⟨hi,hf⟩
      have:i=0∨i=1∨i=2∨i=3:=by omega
      rcases this with rfl|rfl|rfl|rfl
      · have hT:(999999999 < x∨x < -999999999)→farN x y z 3=true:=fun h=>by
          show (far1 x || far1 y || far1 z)=true
          have:far1 x=true:=by unfold far1;rcases h with h|h <;> simp [h]
          simp [this]
        have hF:¬999999999 < x→¬x < -999999999→farN x y z 1=false:=fun h1 h2=>by
          have e:far1 x=false:=by unfold far1;rw [decide_eq_false h1,decide_eq_false h2];rfl
          have hf':=hf
          revert hf'
          show false=false→far1 x=false
          intro hf';simp_all
        repeat' (first|refine zR1 hc Tryz.results32 ?_|(with_reducible first|exact trivial|refine zan ?_ ?_|refine zim (fun h=>?_)|fail)|(omega;done))
        · exact sub_eq (by rw [hcF (hT (by omega))])
        · refine ⟨1,⟨by omega,hF (by omega) (by omega)⟩,by omega,?_⟩
          refine zW1 ?_ <;> repeat' (with_reducible first|exact trivial|refine zan ?_ ?_|refine zal (fun i hi=>?_))
        · exact sub_eq (by rw [hcF (hT (by omega))])
      · have hT:(999999999 < y∨y < -999999999)→farN x y z 3=true:=fun h=>by
          show (far1 x || far1 y || far1 z)=true
          have:far1 y=true:=by unfold far1;rcases h with h|h <;> simp [h]
          simp [this]
        have hF:¬999999999 < y→¬y < -999999999→farN x y z 2=false:=fun h1 h2=>by
          have e:far1 y=false:=by unfold far1;rw [decide_eq_false h1,decide_eq_false h2];rfl
          have hf':=hf
          revert hf'
          show far1 x=false→(far1 x || far1 y)=false
          intro hf';simp_all
        repeat' (first|refine zR1 hc Tryz.results32 ?_|(with_reducible first|exact trivial|refine zan ?_ ?_|refine zim (fun h=>?_)|fail)|(omega;done))
        · exact sub_eq (by rw [hcF (hT (by omega))])
        · refine ⟨2,⟨by omega,hF (by omega) (by omega)⟩,by omega,?_⟩
          refine zW1 ?_ <;> repeat' (with_reducible first|exact trivial|refine zan ?_ ?_|refine zal (fun i hi=>?_))
        · exact sub_eq (by rw [hcF (hT (by omega))])
      · have hT:(999999999 < z∨z < -999999999)→farN x y z 3=true:=fun h=>by
          show (far1 x || far1 y || far1 z)=true
          have:far1 z=true:=by unfold far1;rcases h with h|h <;> simp [h]
          simp [this]
        have hF:¬999999999 < z→¬z < -999999999→farN x y z 3=false:=fun h1 h2=>by
          have e:far1 z=false:=by unfold far1;rw [decide_eq_false h1,decide_eq_false h2];rfl
          have hf':=hf
          revert hf'
          show (far1 x || far1 y)=false→(far1 x || far1 y || far1 z)=false
          intro hf';simp_all
        repeat' (first|refine zR1 hc Tryz.results32 ?_|(with_reducible first|exact trivial|refine zan ?_ ?_|refine zim (fun h=>?_)|fail)|(omega;done))
        · exact sub_eq (by rw [hcF (hT (by omega))])
        · refine ⟨3,⟨by omega,hF (by omega) (by omega)⟩,by omega,?_⟩
          refine zW1 ?_ <;> repeat' (with_reducible first|exact trivial|refine zan ?_ ?_|refine zal (fun i hi=>?_))
        · exact sub_eq (by rw [hcF (hT (by omega))])
      · have hfx:x.natAbs≤999999999∧y.natAbs≤999999999∧z.natAbs≤999999999:=by
          have hf':(far1 x || far1 y || far1 z)=false:=hf
          simp only [far1,Bool.or_eq_false_iff,decide_eq_false_iff_not] at hf'
          omega
        have c_g1:=a1h x y hfx.1 hfx.2.1
        have hb1:((Nat.gcd x.natAbs y.natAbs:Nat):Int).natAbs≤999999999:=by
          rw [Int.natAbs_natCast]
          rcases Nat.eq_zero_or_pos x.natAbs with e|e
          · rw [e,Nat.gcd_zero_left];exact hfx.2.1
          · exact Nat.le_trans (Nat.gcd_le_left _ e) hfx.1
        have c_g2:=a1h (Nat.gcd x.natAbs y.natAbs:Nat) z hb1 hfx.2.2
        rw [Int.natAbs_natCast,a4o] at c_g2
        have hc1:=hc1 hf
        have hcC:=hcC hf
        repeat' (first|refine zR1 hc Tryz.results32 ?_|(with_reducible first|exact trivial|refine zan ?_ ?_|refine zim (fun h=>?_)|refine zoc c_g1 ?_ ?_|refine zoc c_g2 ?_ ?_|refine zoc c_c ?_ ?_|fail)|(omega;done))
        · exact sub_eq (by rw [hc1 (by omega)])
        · exact sub_eq (by rw [hcC (by omega)])
theorem a30 (x y z:Int) (d:List UInt8) (hd:d.length≤900000):Ax.Pure Tryz.prog G 32 [tH x y z d] (N (chkH x y z d)):=a3p x y z d _ (r_Check d hd)
end Go.Proofs
end
section
namespace Go.Proofs
open Go.Ax
theorem dst (x y z v:Rat) (h:dot3 x y z x y z≠0):dot3 (x*(-(v / dot3 x y z x y z))) (y*(-(v / dot3 x y z x y z))) (z*(-(v / dot3 x y z x y z))) (x*(-(v / dot3 x y z x y z))) (y*(-(v / dot3 x y z x y z))) (z*(-(v / dot3 x y z x y z)))=v*v / dot3 x y z x y z:=by
  have e:∀t:Rat,dot3 (x*(-t)) (y*(-t)) (z*(-t)) (x*(-t)) (y*(-t)) (z*(-t))=t*t*dot3 x y z x y z:=fun t=>by unfold dot3;grind
  rw [e]
  generalize dot3 x y z x y z=n at *
  grind
end Go.Proofs
end
section
namespace Go.Proofs
open Go.Ax
theorem a14 (b:Nat):((b:Rat)=0)↔b=0:=by
  rw [show (0:Rat)=((0:Nat):Rat) from rfl,Rat.natCast_inj]
end Go.Proofs
end
section
namespace Go.Proofs
open Go.Ax
theorem a4g (a b c:Rat):a.den∣dnm a b c 3∧b.den∣dnm a b c 3∧c.den∣dnm a b c 3:=by
  show a.den∣lc (lc (lc 1 a.den) b.den) c.den∧b.den∣lc (lc (lc 1 a.den) b.den) c.den∧c.den∣lc (lc (lc 1 a.den) b.den) c.den
  simp only [a1j]
  have h1:=Nat.dvd_lcm_right 1 a.den
  have h2:=Nat.dvd_lcm_left (Nat.lcm 1 a.den) b.den
  have h3:=Nat.dvd_lcm_right (Nat.lcm 1 a.den) b.den
  have h4:=Nat.dvd_lcm_left (Nat.lcm (Nat.lcm 1 a.den) b.den) c.den
  exact ⟨Nat.dvd_trans h1 (Nat.dvd_trans h2 h4),Nat.dvd_trans h3 h4,Nat.dvd_lcm_right _ _⟩
theorem a1i (x:Rat):x*(x.den:Rat)=(x.num:Rat):=by
  have h:(x.num:Rat) / (x.den:Rat)=x:=by
    rw [show ((x.den:Nat):Rat)=((x.den:Int):Rat) from rfl,←Rat.divInt_eq_div,Rat.num_divInt_den]
  have h0:(x.den:Rat)≠0:=fun e=>x.den_nz ((a14 _).1 e)
  grind
theorem a4n {x:Rat} {D:Nat} (h:x.den∣D):∃z:Int,x*(D:Rat)=(z:Rat):=by
  obtain ⟨m,rfl⟩:=h
  refine ⟨x.num*m,?_⟩
  have:=a1i x
  rw [Rat.natCast_mul,Rat.intCast_mul,←this]
  show x*((x.den:Rat)*(m:Rat))=x*(x.den:Rat)*(m:Rat)
  grind
theorem a4j (a b c:Rat) (D:Nat):cmn a b c D 3∣nmr a D∧cmn a b c D 3∣nmr b D∧cmn a b c D 3∣nmr c D:=by
  show Nat.gcd (Nat.gcd (Nat.gcd 0 (nmr a D)) (nmr b D)) (nmr c D)∣_∧Nat.gcd (Nat.gcd (Nat.gcd 0 (nmr a D)) (nmr b D)) (nmr c D)∣_∧_∣_
  rw [Nat.gcd_zero_left]
  have h:=Nat.gcd_dvd_left (Nat.gcd (nmr a D) (nmr b D)) (nmr c D)
  exact ⟨Nat.dvd_trans h (Nat.gcd_dvd_left _ _),Nat.dvd_trans h (Nat.gcd_dvd_right _ _),Nat.gcd_dvd_right _ _⟩
theorem a2g {x:Rat} {D C:Nat} (h:x.den∣D) (hc:C∣nmr x D) (hC:0 < C):x*((D:Rat) / (C:Rat))=(((x*((D:Rat) / (C:Rat))).num:Int):Rat):=by
  obtain ⟨z,hz⟩:=a4n h
  have hn:nmr x D=z.natAbs:=by unfold nmr;rw [hz,Rat.num_intCast]
  rw [hn] at hc
  obtain ⟨m,hm⟩:(C:Int)∣z:=Int.ofNat_dvd_left.2 hc
  have hC':((C:Nat):Rat)≠0:=fun e=>by rw [a14] at e;omega
  have e:x*((D:Rat) / (C:Rat))=(m:Rat):=by
    have:x*((D:Rat) / (C:Rat))=x*(D:Rat) / (C:Rat):=by grind
    rw [this,hz,hm,Rat.intCast_mul]
    show (C:Rat)*(m:Rat) / (C:Rat)=(m:Rat)
    grind
  rw [e,Rat.num_intCast]
noncomputable instance (a b c d:Rat):Decidable (hOk a b c d):=Classical.propDecidable _
end Go.Proofs
end
