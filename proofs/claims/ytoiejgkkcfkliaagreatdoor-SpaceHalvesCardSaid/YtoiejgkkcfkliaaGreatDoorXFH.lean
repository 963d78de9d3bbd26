/- Lemmas on the program and its library: part XFH. -/
import Derived.Test.YtoiejgkkcfkliaaGreatDoorXA
set_option linter.unusedVariables false
set_option linter.unusedSimpArgs false
section
namespace Go.Proofs
open Go.Ax
structure H4 where
  x:Int
  y:Int
  z:Int
  d:List UInt8
def shortH (h:H4):Prop:=(i64 h.x∧i64 h.y∧i64 h.z)∧h.d.length≤900000
abbrev txH (h:H4):AV:=tH h.x h.y h.z h.d
def fstH (h:H4):Int:=chkH h.x h.y h.z h.d
theorem s_CheckHalf {h:H4} (hh:shortH h):Ax.Pure Tryz.prog G 37 [txH h] (N (fstH h)):=c_CheckHalf h.x h.y h.z h.d hh.1.1 hh.1.2.1 hh.1.2.2 hh.2
end Go.Proofs
end
section
set_option maxHeartbeats 4000000
set_option maxRecDepth 100000
namespace Go.Proofs
open Go.Ax
theorem r_Normal (x y z:Int) (d:List UInt8) (hx:i64 x) (hy:i64 y) (hz:i64 z):Ax.Pure Tryz.prog G 56 [tH x y z d] (tV (ratL (x:Rat)) (ratL (y:Rat)) (ratL (z:Rat))):=by
  have c_1:=r_Ints x y z hx hy hz
  refine zen Tryz.func56 rfl Tryz.ntmps56 ?_
  intro w0 E0 hc
  repeat' (first|refine zR1 hc Tryz.results56 ?_|(with_reducible first|exact trivial|refine zan ?_ ?_|refine zim (fun h=>?_)|refine zoc c_1 ?_ ?_|fail)|(omega;done))
theorem r_Value {k:Nat} (hk:k≤50000) (x y z:Int) (w p1 p2 p3:Rat) (hx:i64 x) (hy:i64 y) (hz:i64 z) (qx:Q k (x:Rat)) (qy:Q k (y:Rat)) (qz:Q k (z:Rat)) (qw:Q k w) (qp:Q k p1∧Q k p2∧Q k p3):Ax.Pure Tryz.prog G 166 [tH x y z (ratL w),tV (ratL p1) (ratL p2) (ratL p3)] (S (bs (ratL (dot3 (x:Rat) (y:Rat) (z:Rat) p1 p2 p3 - w)))):=by
  have c_n:=r_Normal x y z (ratL w) hx hy hz
  have c_d:=r_Dot (by omega) (x:Rat) (y:Rat) (z:Rat) p1 p2 p3 ⟨qx,qy,qz⟩ qp
  obtain ⟨qp1,qp2,qp3⟩:=qp
  have c_s:=r_Sub (dot3 (x:Rat) (y:Rat) (z:Rat) p1 p2 p3) w (Q_dot qx qy qz qp1 qp2 qp3) (Q_mono qw (by omega)) (by omega)
  refine zen Tryz.func166 rfl Tryz.ntmps166 ?_
  intro w0 E0 hc
  repeat' (first|refine zR1 hc Tryz.results166 ?_|(with_reducible first|exact trivial|refine zan ?_ ?_|refine zim (fun h=>?_)|refine zoc c_n ?_ ?_|refine zoc c_d ?_ ?_|refine zoc c_s ?_ ?_|fail)|(omega;done))
end Go.Proofs
end
section
set_option maxHeartbeats 4000000
set_option maxRecDepth 100000
namespace Go.Proofs
open Go.Ax
theorem r_intGcd (a b:Int) (ha:a.natAbs≤999999999) (hb:b.natAbs≤999999999):Ax.Pure Tryz.prog G 150 [N a,N b] (N (Nat.gcd a.natAbs b.natAbs:Nat)):=by
  refine zen Tryz.func150 rfl Tryz.ntmps150 ?_
  intro w0 E0 hc
  repeat' (first|refine zR1 hc Tryz.results150 ?_|(with_reducible first|exact trivial|refine zan ?_ ?_|refine zim (fun h=>?_)|fail)|(omega;done))
  refine Wp_loopI (α:=Int×Int) (fun p=>stOf [(0,N p.1),(1,N p.2)] [] 0)
    (fun p=>p.1.natAbs≤999999999∧p.2.natAbs≤999999999∧Nat.gcd p.1.natAbs p.2.natAbs=Nat.gcd a.natAbs b.natAbs) (fun p=>p.2.natAbs) (a,b) ⟨ha,hb,rfl⟩ ?_ ?_
  · refine zW1 ?_ <;> repeat' (with_reducible first|exact trivial|refine zan ?_ ?_|refine zal (fun i hi=>?_))
  · rintro ⟨x,y⟩ ⟨h1,h2,h3⟩
    dsimp only at h1 h2 h3
    have e1:(x.tmod y).natAbs=x.natAbs%y.natAbs:=Int.natAbs_tmod x y
    have S1:¬y=0→y≠0∧true=true:=fun h=>⟨h,rfl⟩
    repeat' (first|refine zR1 hc Tryz.results150 ?_|(with_reducible first|exact trivial|refine zan ?_ ?_|refine zim (fun h=>?_)|fail)|((first|omega|(refine S1 ?_;assumption));done))
    · refine ⟨(y,x.tmod y),⟨h2,by dsimp only;rw [e1];have:=Nat.mod_lt x.natAbs (show 0 < y.natAbs by omega);omega,by
          dsimp only;rw [e1,←h3];exact (Nat.gcd_comm _ _).trans ((Nat.gcd_rec y.natAbs x.natAbs).symm.trans (Nat.gcd_comm _ _))⟩,by
        dsimp only;rw [e1];exact Nat.mod_lt x.natAbs (show 0 < y.natAbs by omega),?_⟩
      refine zW1 ?_ <;> repeat' (with_reducible first|exact trivial|refine zan ?_ ?_|refine zal (fun i hi=>?_))
    · have hy0:y=0:=by omega
      subst hy0
      have hx:Nat.gcd x.natAbs (Int.natAbs 0)=x.natAbs:=Nat.gcd_zero_right _
      rw [hx] at h3
      rw [←h3]
      refine sub_int ?_
      rw [IntKind.wrap_i64]
      split <;> omega
theorem gcdN3 (x y z:Int):Nat.gcd (Nat.gcd x.natAbs y.natAbs) z.natAbs=gcdN x y z 3:=by
  show _=Nat.gcd (Nat.gcd (Nat.gcd 0 x.natAbs) y.natAbs) z.natAbs
  rw [Nat.gcd_zero_left]
theorem gcdN0 (x y z:Int):gcdN x y z 3=0↔(x=0∧y=0∧z=0):=by
  rw [←gcdN3,Nat.gcd_eq_zero_iff,Nat.gcd_eq_zero_iff];omega
theorem nft2 {p:Prop} {b:Bool} (g:b=false) (h:b=true):p:=absurd (g.symm.trans h) Bool.false_ne_true
theorem r_CheckHalf (x y z:Int) (d:List UInt8) (hd:d.length≤900000):Ax.Pure Tryz.prog G 32 [tH x y z d] (N (chkH x y z d)):=by
  have c_c:=r_Check d hd
  have hE:¬(x=0∧y=0∧z=0)→eqVs [.int .i64 x,.int .i64 y,.int .i64 z] [.int .i64 0,.int .i64 0,.int .i64 0]=false:=fun h=>by
    simp only [eqVs,eqV]
    by_cases h1:x=0 <;> by_cases h2:y=0 <;> by_cases h3:z=0 <;> simp_all
  have hg:=gcdN0 x y z
  have hc6:(x=0∧y=0∧z=0)→chkH x y z d=6:=fun h=>by
    unfold chkH;rw [if_pos (hg.2 h)];rfl
  have hcF:¬(x=0∧y=0∧z=0)→farN x y z 3=true→chkH x y z d=3:=fun h h2=>by
    unfold chkH;rw [if_neg (fun e=>h (hg.1 e)),if_pos h2];rfl
  have hc1:¬(x=0∧y=0∧z=0)→farN x y z 3=false→¬gcdN x y z 3=1→chkH x y z d=1:=fun h h2 h3=>by
    unfold chkH;rw [if_neg (fun e=>h (hg.1 e)),h2,if_neg h3];rfl
  have hcC:¬(x=0∧y=0∧z=0)→farN x y z 3=false→gcdN x y z 3=1→chkH x y z d=checkL d:=fun h h2 h3=>by
    unfold chkH;rw [if_neg (fun e=>h (hg.1 e)),h2,if_pos h3]
    simp [firstNZ]
    intro e;exact e.symm
  by_cases h0:x=0∧y=0∧z=0
  · obtain ⟨rfl,rfl,rfl⟩:=h0
    rw [hc6 ⟨rfl,rfl,rfl⟩]
    refine zen Tryz.func32 rfl Tryz.ntmps32 ?_
    intro w0 E0 hc
    repeat' (first|(with_reducible first|refine Wp_seq ?_|refine zwk ?_|refine Wp_block ?_|refine zgo ?_|refine zbn ?_|refine zge Tryz.results32 ?_|refine Sub.refl _|refine allP_nil|refine zoa1 (out':=?_) ?_|refine zca1 (y:=?_) ?_|refine zea1 (eo':=?_) ?_)|(with_reducible refine zrs [3] hc ?_ ?_;focus (with_unfolding_all rfl))|(with_reducible refine zrm [3] hc mixed ?_ ?_;focus (with_unfolding_all rfl))|(with_reducible refine allP_cons ?_ ?_;focus (first|decide|omega))|(with_reducible first|refine zg2 ?_ ?_|refine zbo ?_|refine zg3 ?_ (fun h=>?_) (fun h=>?_)|refine zg4 (fun h=>?_) (fun h=>?_)|fail)|((first|omega|(exact absurd h (by decide)));done))
  · have hE:=hE h0
    have hcF:=hcF h0
    have hc1:=hc1 h0
    have hcC:=hcC h0
    clear hc6 hg
    refine zen Tryz.func32 rfl Tryz.ntmps32 ?_
    intro w0 E0 hc
    repeat' (first|refine zR1 hc Tryz.results32 ?_|(with_reducible first|exact trivial|refine zan ?_ ?_|refine zim (fun h=>?_)|fail)|((first|omega|exact nft2 hE h|fail);done))
    refine Wp_loopI (α:=Nat) (fun i=>stOf [(1,.one (.ptr 0 4 0 0)),(3,N i)] [(0,⟨4,1,fun _=> [.v (.int .i64 x),.v (.int .i64 y),.v (.int .i64 z),.v (.string (bs d))],false⟩)] 1)
      (fun i=>i≤3∧farN x y z i=false) (fun i=>3 - i) 0 ⟨Nat.zero_le _,rfl⟩ ?_ ?_
    · refine zW1 ?_ <;> repeat' (with_reducible first|exact trivial|refine zan ?_ ?_|refine zal (fun i hi=>?_))
    · rintro i ⟨hi,hf⟩
      have:i=0∨i=1∨i=2∨i=3:=by omega
      rcases this with rfl|rfl|rfl|rfl
      · have hT:(999999999 < x∨x < -999999999)→farN x y z 3=true:=fun h=>by
          show (far1 x || far1 y || far1 z)=true
          have:far1 x=true:=by unfold far1;rcases h with h|h <;> simp [h]
          simp [this]
        have hF:¬999999999 < x→¬x < -999999999→farN x y z 1=false:=fun h1 h2=>by
          have e:far1 x=false:=by unfold far1;rw [decide_eq_false h1,decide_eq_false h2];rfl
          have hf':=hf
          revert hf'
          show false=false→far1 x=false
          intro hf';simp_all
        repeat' (first|refine zR1 hc Tryz.results32 ?_|(with_reducible first|exact trivial|refine zan ?_ ?_|refine zim (fun h=>?_)|fail)|(omega;done))
        · exact sub_eq (by rw [hcF (hT (by omega))])
        · refine ⟨1,⟨by omega,hF (by omega) (by omega)⟩,by omega,?_⟩
          refine zW1 ?_ <;> repeat' (with_reducible first|exact trivial|refine zan ?_ ?_|refine zal (fun i hi=>?_))
        · exact sub_eq (by rw [hcF (hT (by omega))])
      · have hT:(999999999 < y∨y < -999999999)→farN x y z 3=true:=fun h=>by
          show (far1 x || far1 y || far1 z)=true
          have:far1 y=true:=by unfold far1;rcases h with h|h <;> simp [h]
          simp [this]
        have hF:¬999999999 < y→¬y < -999999999→farN x y z 2=false:=fun h1 h2=>by
          have e:far1 y=false:=by unfold far1;rw [decide_eq_false h1,decide_eq_false h2];rfl
          have hf':=hf
          revert hf'
          show far1 x=false→(far1 x || far1 y)=false
          intro hf';simp_all
        repeat' (first|refine zR1 hc Tryz.results32 ?_|(with_reducible first|exact trivial|refine zan ?_ ?_|refine zim (fun h=>?_)|fail)|(omega;done))
        · exact sub_eq (by rw [hcF (hT (by omega))])
        · refine ⟨2,⟨by omega,hF (by omega) (by omega)⟩,by omega,?_⟩
          refine zW1 ?_ <;> repeat' (with_reducible first|exact trivial|refine zan ?_ ?_|refine zal (fun i hi=>?_))
        · exact sub_eq (by rw [hcF (hT (by omega))])
      · have hT:(999999999 < z∨z < -999999999)→farN x y z 3=true:=fun h=>by
          show (far1 x || far1 y || far1 z)=true
          have:far1 z=true:=by unfold far1;rcases h with h|h <;> simp [h]
          simp [this]
        have hF:¬999999999 < z→¬z < -999999999→farN x y z 3=false:=fun h1 h2=>by
          have e:far1 z=false:=by unfold far1;rw [decide_eq_false h1,decide_eq_false h2];rfl
          have hf':=hf
          revert hf'
          show (far1 x || far1 y)=false→(far1 x || far1 y || far1 z)=false
          intro hf';simp_all
        repeat' (first|refine zR1 hc Tryz.results32 ?_|(with_reducible first|exact trivial|refine zan ?_ ?_|refine zim (fun h=>?_)|fail)|(omega;done))
        · exact sub_eq (by rw [hcF (hT (by omega))])
        · refine ⟨3,⟨by omega,hF (by omega) (by omega)⟩,by omega,?_⟩
          refine zW1 ?_ <;> repeat' (with_reducible first|exact trivial|refine zan ?_ ?_|refine zal (fun i hi=>?_))
        · exact sub_eq (by rw [hcF (hT (by omega))])
      · have hfx:x.natAbs≤999999999∧y.natAbs≤999999999∧z.natAbs≤999999999:=by
          have hf':(far1 x || far1 y || far1 z)=false:=hf
          simp only [far1,Bool.or_eq_false_iff,decide_eq_false_iff_not] at hf'
          omega
        have c_g1:=r_intGcd x y hfx.1 hfx.2.1
        have hb1:((Nat.gcd x.natAbs y.natAbs:Nat):Int).natAbs≤999999999:=by
          rw [Int.natAbs_natCast]
          rcases Nat.eq_zero_or_pos x.natAbs with e|e
          · rw [e,Nat.gcd_zero_left];exact hfx.2.1
          · exact Nat.le_trans (Nat.gcd_le_left _ e) hfx.1
        have c_g2:=r_intGcd (Nat.gcd x.natAbs y.natAbs:Nat) z hb1 hfx.2.2
        rw [Int.natAbs_natCast,gcdN3] at c_g2
        have hc1:=hc1 hf
        have hcC:=hcC hf
        repeat' (first|refine zR1 hc Tryz.results32 ?_|(with_reducible first|exact trivial|refine zan ?_ ?_|refine zim (fun h=>?_)|refine zoc c_g1 ?_ ?_|refine zoc c_g2 ?_ ?_|refine zoc c_c ?_ ?_|fail)|(omega;done))
        · exact sub_eq (by rw [hc1 (by omega)])
        · exact sub_eq (by rw [hcC (by omega)])
end Go.Proofs
end
section
namespace Go.Proofs
open Go.Ax
theorem nz_and {a b:Int} (h:firstNZ [a,b]=0):a=0∧b=0:=by
  by_cases ha:a=0
  · subst ha
    rw [nz0] at h
    exact ⟨rfl,Classical.byContradiction fun hb=>by rw [nz1 hb] at h;exact hb h⟩
  · rw [nz1 ha] at h;exact absurd h ha
end Go.Proofs
end
section
namespace Go.Proofs
open Go.Ax
theorem dst (x y z v:Rat) (h:dot3 x y z x y z≠0):dot3 (x*(-(v / dot3 x y z x y z))) (y*(-(v / dot3 x y z x y z))) (z*(-(v / dot3 x y z x y z))) (x*(-(v / dot3 x y z x y z))) (y*(-(v / dot3 x y z x y z))) (z*(-(v / dot3 x y z x y z)))=v*v / dot3 x y z x y z:=by
  have e:∀t:Rat,dot3 (x*(-t)) (y*(-t)) (z*(-t)) (x*(-t)) (y*(-t)) (z*(-t))=t*t*dot3 x y z x y z:=fun t=>by unfold dot3;grind
  rw [e]
  generalize dot3 x y z x y z=n at *
  grind
theorem goodH {x y z:Int} {d:List UInt8} (e:chkH x y z d=0):∃w:Rat,d=ratL w∧okH x y z w:=by
  unfold chkH at e
  by_cases h0:gcdN x y z 3=0
  · rw [if_pos h0,nz1 (by decide)] at e;cases e
  rw [if_neg h0,nz0] at e
  cases hf:farN x y z 3
  rotate_left
  · rw [hf,if_pos rfl,nz1 (by decide)] at e;cases e
  rw [hf,if_neg (by decide),nz0] at e
  by_cases h1:gcdN x y z 3=1
  rotate_left
  · rw [if_neg h1,nz1 (by decide)] at e;cases e
  rw [if_pos h1,nz0] at e
  have e2:checkL d=0:=Classical.byContradiction fun h=>by rw [nz1 h] at e;exact h e
  obtain ⟨w,rfl,hw⟩:=checkL_zero e2
  have hf:(far1 x || far1 y || far1 z)=false:=hf
  rw [Bool.or_eq_false_iff,Bool.or_eq_false_iff] at hf
  have k:∀v:Int,far1 v=false→okI v:=fun v h=>by
    unfold far1 at h
    rw [Bool.or_eq_false_iff,decide_eq_false_iff_not,decide_eq_false_iff_not] at h
    exact ⟨by omega,by omega⟩
  exact ⟨w,rfl,⟨k x hf.1.1,k y hf.1.2,k z hf.2⟩,h1,hw⟩
end Go.Proofs
end
section
namespace Go.Proofs
open Go.Ax
theorem r_CheckH {h:H4} (hh:h.d.length≤900000):Ax.Pure Tryz.prog G 32 [txH h] (N (fstH h)):=r_CheckHalf h.x h.y h.z h.d hh
end Go.Proofs
end
