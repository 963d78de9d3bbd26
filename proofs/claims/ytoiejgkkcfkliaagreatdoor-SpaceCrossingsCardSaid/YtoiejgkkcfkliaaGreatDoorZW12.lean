/- Lemmas on the program and its library: part ZW12. -/
import Derived.Test.YtoiejgkkcfkliaaGreatDoorZ19
set_option linter.unusedVariables false
set_option linter.unusedSimpArgs false
section
set_option maxHeartbeats 4000000
set_option maxRecDepth 100000
namespace Go.Proofs
open Go.Ax
theorem mul_sign (x y:Int):x*y=if (decide (x < 0) != decide (y < 0))=true then -((x.natAbs:Int)*(y.natAbs:Int)) else (x.natAbs:Int)*(y.natAbs:Int):=by
  by_cases h0:x < 0 <;> by_cases h3:y < 0 <;> simp only [h0,h3,decide_true,decide_false,bne_self_eq_false,Bool.false_eq_true,if_false,Bool.true_bne,Bool.false_bne,Bool.not_false,if_true]
  · rw [show (x.natAbs:Int)= -x by omega,show (y.natAbs:Int)= -y by omega];grind
  · rw [show (x.natAbs:Int)= -x by omega,show (y.natAbs:Int)=y by omega];grind
  · rw [show (x.natAbs:Int)=x by omega,show (y.natAbs:Int)= -y by omega];grind
  · rw [show (x.natAbs:Int)=x by omega,show (y.natAbs:Int)=y by omega]
theorem mul_made {x y:Int} (vx:val BB (digs BB x.natAbs)=x.natAbs) (vy:val BB (digs BB y.natAbs)=y.natAbs):Ax.Sub (intA (if (decide (x < 0) != decide (y < 0))=true then -((val BB (digs BB (val BB (digs BB x.natAbs)*val BB (digs BB y.natAbs))):Nat):Int) else ((val BB (digs BB (val BB (digs BB x.natAbs)*val BB (digs BB y.natAbs))):Nat):Int))) (intA (x*y)):=by
  refine made_of' (n:=x.natAbs*y.natAbs) (by rw [vx,vy]) ?_
  rw [Int.natCast_mul]
  exact (mul_sign x y).symm
theorem c_Mul_ss (x y:Int) (h1x:-9223372036854775808≤x) (h2x:x < 9223372036854775808) (h1y:-9223372036854775808≤y) (h2y:y < 9223372036854775808) (hx:zl x≤100000000000) (hy:zl y≤100000000000):Ax.Pure Tryz.prog G 215 [smA x,smA y] (intA (x*y)):=by
  have dx:=digs_dig (B:=BB) (by decide) x.natAbs
  have dy:=digs_dig (B:=BB) (by decide) y.natAbs
  have lx:(digs BB x.natAbs).length≤100000000000:=hx
  have ly:(digs BB y.natAbs).length≤100000000000:=hy
  have vx:=digs_val (B:=BB) (by decide) x.natAbs
  have vy:=digs_val (B:=BB) (by decide) y.natAbs
  have d1:=digs_dig (B:=BB) (by decide) (val BB (digs BB x.natAbs)*val BB (digs BB y.natAbs))
  have l1:(digs BB (val BB (digs BB x.natAbs)*val BB (digs BB y.natAbs))).length≤4611686018427387904:=by
    rw [vx,vy]
    have:=zl_mul (x.natAbs:Nat) (y.natAbs:Nat)
    have e1:zl ((x.natAbs:Nat):Int)=zl x:=rfl
    have e2:zl ((y.natAbs:Nat):Int)=zl y:=rfl
    have e3:zl (((x.natAbs:Nat):Int)*((y.natAbs:Nat):Int))=(digs BB (x.natAbs*y.natAbs)).length:=rfl
    omega
  refine zen Tryz.func215 rfl Tryz.ntmps215 ?_
  intro w0 E0 hc
  repeat' (first|refine zR1 hc Tryz.results215 ?_|(with_reducible first|exact trivial|refine zan ?_ ?_|refine zim (fun h=>?_)|refine zoc (c_size _ ?_ ?_) ?_ ?_|refine zoc (c_Mul64 _ _ ?_) ?_ ?_|refine zoc (c_parts_s _ ?_ ?_) ?_ ?_|refine zoc (c_parts_b _ ?_) ?_ ?_|refine zoc (c_mulWords _ _ ?_ ?_ ?_ ?_) ?_ ?_|refine zoc (c_made _ _ ?_ ?_) ?_ ?_|fail)|((first|exact dx.lt|exact dy.lt|exact d1|exact l1|omega);done))
  all_goals first|exact mul_made vx vy|skip
  · have e:=mul_sign x y
    rw [if_pos h] at e
    rename_i g1 g2
    generalize (x.natAbs:Int)*(y.natAbs:Int)=p at *
    exact sub_sm' (by rw [IntKind.wrap_i64,IntKind.wrap_i64];omega) (by omega) (by omega)
  · have e:=mul_sign x y
    rw [if_neg (by rw [h];decide)] at e
    rename_i g1 g2
    generalize (x.natAbs:Int)*(y.natAbs:Int)=p at *
    exact sub_sm' (by rw [IntKind.wrap_i64];omega) (by omega) (by omega)
theorem c_Mul_sb (x y:Int) (h1x:-9223372036854775808≤x) (h2x:x < 9223372036854775808) (hby:9223372036854775808≤y.natAbs) (hx:zl x≤100000000000) (hy:zl y≤100000000000):Ax.Pure Tryz.prog G 215 [smA x,bgA y] (intA (x*y)):=by
  have dx:=digs_dig (B:=BB) (by decide) x.natAbs
  have dy:=digs_dig (B:=BB) (by decide) y.natAbs
  have lx:(digs BB x.natAbs).length≤100000000000:=hx
  have ly:(digs BB y.natAbs).length≤100000000000:=hy
  have vx:=digs_val (B:=BB) (by decide) x.natAbs
  have vy:=digs_val (B:=BB) (by decide) y.natAbs
  have d1:=digs_dig (B:=BB) (by decide) (val BB (digs BB x.natAbs)*val BB (digs BB y.natAbs))
  have l1:(digs BB (val BB (digs BB x.natAbs)*val BB (digs BB y.natAbs))).length≤4611686018427387904:=by
    rw [vx,vy]
    have:=zl_mul (x.natAbs:Nat) (y.natAbs:Nat)
    have e1:zl ((x.natAbs:Nat):Int)=zl x:=rfl
    have e2:zl ((y.natAbs:Nat):Int)=zl y:=rfl
    have e3:zl (((x.natAbs:Nat):Int)*((y.natAbs:Nat):Int))=(digs BB (x.natAbs*y.natAbs)).length:=rfl
    omega
  refine zen Tryz.func215 rfl Tryz.ntmps215 ?_
  intro w0 E0 hc
  repeat' (first|refine zR1 hc Tryz.results215 ?_|(with_reducible first|exact trivial|refine zan ?_ ?_|refine zim (fun h=>?_)|refine zoc (c_size _ ?_ ?_) ?_ ?_|refine zoc (c_Mul64 _ _ ?_) ?_ ?_|refine zoc (c_parts_s _ ?_ ?_) ?_ ?_|refine zoc (c_parts_b _ ?_) ?_ ?_|refine zoc (c_mulWords _ _ ?_ ?_ ?_ ?_) ?_ ?_|refine zoc (c_made _ _ ?_ ?_) ?_ ?_|fail)|((first|exact dx.lt|exact dy.lt|exact d1|exact l1|omega);done))
  all_goals exact mul_made vx vy
theorem c_Mul_bs (x y:Int) (hbx:9223372036854775808≤x.natAbs) (h1y:-9223372036854775808≤y) (h2y:y < 9223372036854775808) (hx:zl x≤100000000000) (hy:zl y≤100000000000):Ax.Pure Tryz.prog G 215 [bgA x,smA y] (intA (x*y)):=by
  have dx:=digs_dig (B:=BB) (by decide) x.natAbs
  have dy:=digs_dig (B:=BB) (by decide) y.natAbs
  have lx:(digs BB x.natAbs).length≤100000000000:=hx
  have ly:(digs BB y.natAbs).length≤100000000000:=hy
  have vx:=digs_val (B:=BB) (by decide) x.natAbs
  have vy:=digs_val (B:=BB) (by decide) y.natAbs
  have d1:=digs_dig (B:=BB) (by decide) (val BB (digs BB x.natAbs)*val BB (digs BB y.natAbs))
  have l1:(digs BB (val BB (digs BB x.natAbs)*val BB (digs BB y.natAbs))).length≤4611686018427387904:=by
    rw [vx,vy]
    have:=zl_mul (x.natAbs:Nat) (y.natAbs:Nat)
    have e1:zl ((x.natAbs:Nat):Int)=zl x:=rfl
    have e2:zl ((y.natAbs:Nat):Int)=zl y:=rfl
    have e3:zl (((x.natAbs:Nat):Int)*((y.natAbs:Nat):Int))=(digs BB (x.natAbs*y.natAbs)).length:=rfl
    omega
  refine zen Tryz.func215 rfl Tryz.ntmps215 ?_
  intro w0 E0 hc
  repeat' (first|refine zR1 hc Tryz.results215 ?_|(with_reducible first|exact trivial|refine zan ?_ ?_|refine zim (fun h=>?_)|refine zoc (c_size _ ?_ ?_) ?_ ?_|refine zoc (c_Mul64 _ _ ?_) ?_ ?_|refine zoc (c_parts_s _ ?_ ?_) ?_ ?_|refine zoc (c_parts_b _ ?_) ?_ ?_|refine zoc (c_mulWords _ _ ?_ ?_ ?_ ?_) ?_ ?_|refine zoc (c_made _ _ ?_ ?_) ?_ ?_|fail)|((first|exact dx.lt|exact dy.lt|exact d1|exact l1|omega);done))
  all_goals exact mul_made vx vy
theorem c_Mul_bb (x y:Int) (hbx:9223372036854775808≤x.natAbs) (hby:9223372036854775808≤y.natAbs) (hx:zl x≤100000000000) (hy:zl y≤100000000000):Ax.Pure Tryz.prog G 215 [bgA x,bgA y] (intA (x*y)):=by
  have dx:=digs_dig (B:=BB) (by decide) x.natAbs
  have dy:=digs_dig (B:=BB) (by decide) y.natAbs
  have lx:(digs BB x.natAbs).length≤100000000000:=hx
  have ly:(digs BB y.natAbs).length≤100000000000:=hy
  have vx:=digs_val (B:=BB) (by decide) x.natAbs
  have vy:=digs_val (B:=BB) (by decide) y.natAbs
  have d1:=digs_dig (B:=BB) (by decide) (val BB (digs BB x.natAbs)*val BB (digs BB y.natAbs))
  have l1:(digs BB (val BB (digs BB x.natAbs)*val BB (digs BB y.natAbs))).length≤4611686018427387904:=by
    rw [vx,vy]
    have:=zl_mul (x.natAbs:Nat) (y.natAbs:Nat)
    have e1:zl ((x.natAbs:Nat):Int)=zl x:=rfl
    have e2:zl ((y.natAbs:Nat):Int)=zl y:=rfl
    have e3:zl (((x.natAbs:Nat):Int)*((y.natAbs:Nat):Int))=(digs BB (x.natAbs*y.natAbs)).length:=rfl
    omega
  refine zen Tryz.func215 rfl Tryz.ntmps215 ?_
  intro w0 E0 hc
  repeat' (first|refine zR1 hc Tryz.results215 ?_|(with_reducible first|exact trivial|refine zan ?_ ?_|refine zim (fun h=>?_)|refine zoc (c_size _ ?_ ?_) ?_ ?_|refine zoc (c_Mul64 _ _ ?_) ?_ ?_|refine zoc (c_parts_s _ ?_ ?_) ?_ ?_|refine zoc (c_parts_b _ ?_) ?_ ?_|refine zoc (c_mulWords _ _ ?_ ?_ ?_ ?_) ?_ ?_|refine zoc (c_made _ _ ?_ ?_) ?_ ?_|fail)|((first|exact dx.lt|exact dy.lt|exact d1|exact l1|omega);done))
  all_goals exact mul_made vx vy
theorem c_Mul (x y:Int) (hx:zl x≤100000000000) (hy:zl y≤100000000000):Ax.Pure Tryz.prog G 215 [intA x,intA y] (intA (x*y)):=
  pure_int [] [intA y] (fun a b=>pure_int [smA x] [] (fun c d=>c_Mul_ss x y a b c d hx hy) (fun c=>c_Mul_sb x y a b c hx hy))
    (fun a=>pure_int [bgA x] [] (fun c d=>c_Mul_bs x y a c d hx hy) (fun c=>c_Mul_bb x y a c hx hy))
theorem c_Cmp_ss (x y:Int) (h1x:-9223372036854775808≤x) (h2x:x < 9223372036854775808) (h1y:-9223372036854775808≤y) (h2y:y < 9223372036854775808) (hx:zl x≤10000000000) (hy:zl y≤10000000000):Ax.Pure Tryz.prog G 241 [smA x,smA y] (N (x - y).sign):=by
  have hs:=pure_args (c_Sub x y (by omega) (by omega)) (args':=[smA x,smA y]) ⟨sub_sm h1x h2x,sub_sm h1y h2y,trivial⟩ (by simp [clV,AV.cl,clL,Leaf.cl])
  refine zen Tryz.func241 rfl Tryz.ntmps241 ?_
  intro w0 E0 hc
  repeat' (first|refine zR1 hc Tryz.results241 ?_|(with_reducible first|exact trivial|refine zan ?_ ?_|refine zim (fun h=>?_)|refine zoc (c_Sign _) ?_ ?_|fail)|(omega;done))
  · exact sub_eq (by rw [Int.sign_eq_neg_one_of_neg (by omega)])
  · exact sub_eq (by rw [Int.sign_eq_one_of_pos (by omega)])
  · exact sub_eq (by rw [show x - y=0 by omega];rfl)
theorem c_Cmp_sb (x y:Int) (h1x:-9223372036854775808≤x) (h2x:x < 9223372036854775808) (hby:9223372036854775808≤y.natAbs) (hx:zl x≤10000000000) (hy:zl y≤10000000000):Ax.Pure Tryz.prog G 241 [smA x,bgA y] (N (x - y).sign):=by
  have hs:=pure_args (c_Sub x y (by omega) (by omega)) (args':=[smA x,bgA y]) ⟨sub_sm h1x h2x,sub_bg hby,trivial⟩ (by simp [clV,AV.cl,clL,Leaf.cl])
  refine zen Tryz.func241 rfl Tryz.ntmps241 ?_
  intro w0 E0 hc
  repeat' (first|refine zR1 hc Tryz.results241 ?_|(with_reducible first|exact trivial|refine zan ?_ ?_|refine zim (fun h=>?_)|refine zoc (c_Sign _) ?_ ?_|fail)|(omega;done))
  refine outK_call tt_ok hs (SubL.refl _) ⟨by decide,by decide,trivial⟩ ?_
  repeat' (first|refine zR1 hc Tryz.results241 ?_|(with_reducible first|exact trivial|refine zan ?_ ?_|refine zim (fun h=>?_)|refine zoc (c_Sign _) ?_ ?_|fail)|(omega;done))
theorem c_Cmp_bs (x y:Int) (hbx:9223372036854775808≤x.natAbs) (h1y:-9223372036854775808≤y) (h2y:y < 9223372036854775808) (hx:zl x≤10000000000) (hy:zl y≤10000000000):Ax.Pure Tryz.prog G 241 [bgA x,smA y] (N (x - y).sign):=by
  have hs:=pure_args (c_Sub x y (by omega) (by omega)) (args':=[bgA x,smA y]) ⟨sub_bg hbx,sub_sm h1y h2y,trivial⟩ (by simp [clV,AV.cl,clL,Leaf.cl])
  refine zen Tryz.func241 rfl Tryz.ntmps241 ?_
  intro w0 E0 hc
  repeat' (first|refine zR1 hc Tryz.results241 ?_|(with_reducible first|exact trivial|refine zan ?_ ?_|refine zim (fun h=>?_)|refine zoc (c_Sign _) ?_ ?_|fail)|(omega;done))
  refine outK_call tt_ok hs (SubL.refl _) ⟨by decide,by decide,trivial⟩ ?_
  repeat' (first|refine zR1 hc Tryz.results241 ?_|(with_reducible first|exact trivial|refine zan ?_ ?_|refine zim (fun h=>?_)|refine zoc (c_Sign _) ?_ ?_|fail)|(omega;done))
theorem c_Cmp_bb (x y:Int) (hbx:9223372036854775808≤x.natAbs) (hby:9223372036854775808≤y.natAbs) (hx:zl x≤10000000000) (hy:zl y≤10000000000):Ax.Pure Tryz.prog G 241 [bgA x,bgA y] (N (x - y).sign):=by
  have hs:=pure_args (c_Sub x y (by omega) (by omega)) (args':=[bgA x,bgA y]) ⟨sub_bg hbx,sub_bg hby,trivial⟩ (by simp [clV,AV.cl,clL,Leaf.cl])
  refine zen Tryz.func241 rfl Tryz.ntmps241 ?_
  intro w0 E0 hc
  repeat' (first|refine zR1 hc Tryz.results241 ?_|(with_reducible first|exact trivial|refine zan ?_ ?_|refine zim (fun h=>?_)|refine zoc (c_Sign _) ?_ ?_|fail)|(omega;done))
  refine outK_call tt_ok hs (SubL.refl _) ⟨by decide,by decide,trivial⟩ ?_
  repeat' (first|refine zR1 hc Tryz.results241 ?_|(with_reducible first|exact trivial|refine zan ?_ ?_|refine zim (fun h=>?_)|refine zoc (c_Sign _) ?_ ?_|fail)|(omega;done))
theorem c_Cmp (x y:Int) (hx:zl x≤10000000000) (hy:zl y≤10000000000):Ax.Pure Tryz.prog G 241 [intA x,intA y] (N (x - y).sign):=
  pure_int [] [intA y] (fun a b=>pure_int [smA x] [] (fun c d=>c_Cmp_ss x y a b c d hx hy) (fun c=>c_Cmp_sb x y a b c hx hy))
    (fun a=>pure_int [bgA x] [] (fun c d=>c_Cmp_bs x y a c d hx hy) (fun c=>c_Cmp_bb x y a c hx hy))
theorem c_DivMod_ss (x y:Int) (hp:0 < y) (h1x:-9223372036854775808≤x) (h2x:x < 9223372036854775808) (h1y:-9223372036854775808≤y) (h2y:y < 9223372036854775808) (hx:zl x≤10000000000) (hy:zl y≤10000000000):Ax.Pure Tryz.prog G 211 [smA x,smA y] (.tup [intA (x / y),intA (x%y)]):=by
  have dx:=digs_dig (B:=BB) (by decide) x.natAbs
  have dy:=digs_dig (B:=BB) (by decide) y.natAbs
  have lx:(digs BB x.natAbs).length≤10000000000:=hx
  have ly:(digs BB y.natAbs).length≤10000000000:=hy
  have vx:=digs_val (B:=BB) (by decide) x.natAbs
  have vy:=digs_val (B:=BB) (by decide) y.natAbs
  have hn0:digs BB y.natAbs≠[]:=by rw [Ne,digs_nil (by decide)];omega
  have d1:=digs_dig (B:=BB) (by decide) (val BB (digs BB x.natAbs) / val BB (digs BB y.natAbs))
  have d2:=digs_dig (B:=BB) (by decide) (val BB (digs BB x.natAbs)%val BB (digs BB y.natAbs))
  refine zen Tryz.func211 rfl Tryz.ntmps211 ?_
  intro w0 E0 hc
  have nd:∀m n k:Nat,n≤m→(digs BB m).length≤k→(digs BB n).length≤k:=fun m n k h1 h2=>Nat.le_trans (zl_mono (x:=(n:Int)) (y:=(m:Int)) (by simpa using h1)) h2
  have hq:x.natAbs / y.natAbs≤x.natAbs:=Nat.div_le_self _ _
  have hr:x.natAbs%y.natAbs≤x.natAbs:=Nat.mod_le _ _
  have lq:(digs BB (val BB (digs BB x.natAbs) / val BB (digs BB y.natAbs))).length≤10000000000:=by rw [vx,vy];exact nd _ _ _ hq lx
  have lr:(digs BB (val BB (digs BB x.natAbs)%val BB (digs BB y.natAbs))).length≤10000000000:=by rw [vx,vy];exact nd _ _ _ hr lx
  have c_AddL:∀R:Int,zl R≤100000000000→Ax.Pure Tryz.prog G 216 [intA R,smA y] (intA (R+y)):=fun R hR=>pure_args (c_Add R y hR (by omega)) ⟨Sub.refl _,sub_sm h1y h2y,trivial⟩ (by simp [clV,AV.cl,clL,Leaf.cl])
  have vq:=digs_val (B:=BB) (by decide) (x.natAbs / y.natAbs)
  have vr:=digs_val (B:=BB) (by decide) (x.natAbs%y.natAbs)
  have hA:zl (if decide (x < 0)=true then -((val BB (digs BB (val BB (digs BB x.natAbs) / val BB (digs BB y.natAbs))):Nat):Int) else ((val BB (digs BB (val BB (digs BB x.natAbs) / val BB (digs BB y.natAbs))):Nat):Int))≤10000000000:=by
    rw [vx,vy,vq]
    rw [vx,vy] at lq
    split
    · rw [zl_neg];exact lq
    · exact lq
  have hB:zl (if decide (x < 0)=true then -((val BB (digs BB (val BB (digs BB x.natAbs)%val BB (digs BB y.natAbs))):Nat):Int) else ((val BB (digs BB (val BB (digs BB x.natAbs)%val BB (digs BB y.natAbs))):Nat):Int))≤10000000000:=by
    rw [vx,vy,vr]
    rw [vx,vy] at lr
    split
    · rw [zl_neg];exact lr
    · exact lr
  have z1:zl 1≤10:=Nat.le_trans (zl_small (by decide)) (by decide)
  have hdn:=divmod_neg (x:=x) hp
  have hdp:=divmod_pos (x:=x) hp
  repeat' (first|refine zR1 hc Tryz.results211 ?_|(with_reducible first|exact trivial|refine zan ?_ ?_|refine zim (fun h=>?_)|refine zoc (c_parts_s _ ?_ ?_) ?_ ?_|refine zoc (c_parts_b _ ?_) ?_ ?_|refine zoc (c_divide _ _ ?_ ?_ ?_ ?_ ?_) ?_ ?_|refine zoc (c_made _ _ ?_ ?_) ?_ ?_|refine zoc (c_Sign _) ?_ ?_|refine zoc (c_Of _ ?_ ?_) ?_ ?_|refine zoc (c_Sub _ _ ?_ ?_) ?_ ?_|refine zoc (c_AddL _ ?_) ?_ ?_|fail)|((first|exact dx|exact dy|exact hn0|exact d1|exact d2|exact Nat.le_trans hA (by decide)|exact Nat.le_trans hB (by decide)|omega|(simp only [and_true];omega));done))
  · obtain ⟨t1,t2⟩:=tdiv_sign (x:=x) hp
    by_cases hx0:x < 0
    · rw [if_pos hx0] at t1 t2
      rw [t2] at h
      have e:=hdn hx0
      rw [if_neg (by omega)] at e
      have hm:=Nat.mod_lt x.natAbs (show 0 < y.natAbs by omega)
      rw [t1,t2,e.1,e.2]
      generalize x.natAbs / y.natAbs=q at *
      generalize x.natAbs%y.natAbs=r at *
      exact sub_tup2 (sub_sm' (by rw [IntKind.wrap_i64,IntKind.wrap_i64];omega) (by omega) (by omega)) (sub_sm' (by rw [IntKind.wrap_i64];omega) (by omega) (by omega))
    · rw [if_neg hx0] at t2;omega
  · obtain ⟨t1,t2⟩:=tdiv_sign (x:=x) hp
    by_cases hx0:x < 0
    · rw [if_pos hx0] at t1 t2
      rw [t2] at h
      have e:=hdn hx0
      rw [if_pos (by omega)] at e
      rw [t1,t2,e.1,e.2]
      generalize x.natAbs / y.natAbs=q at *
      generalize x.natAbs%y.natAbs=r at *
      exact sub_tup2 (sub_sm' (by rw [IntKind.wrap_i64];omega) (by omega) (by omega)) (sub_sm' (by omega) (by omega) (by omega))
    · rw [if_neg hx0] at t1 t2
      have e:=hdp (by omega)
      rw [t1,t2,e.1,e.2]
      generalize x.natAbs / y.natAbs=q at *
      generalize x.natAbs%y.natAbs=r at *
      exact sub_tup2 (sub_sm' (by rw [IntKind.wrap_i64];omega) (by omega) (by omega)) (sub_sm' rfl (by omega) (by omega))
  · simp only [vx,vy,vq,vr] at h ⊢
    have e:=divmod_fix hp h
    exact sub_tup2 (sub_intA e.1) (sub_intA e.2)
  · simp only [vx,vy,vq,vr] at h ⊢
    have e:=divmod_ok hp h
    exact sub_tup2 (sub_intA e.1) (sub_intA e.2)
theorem c_DivMod_sb (x y:Int) (hp:0 < y) (h1x:-9223372036854775808≤x) (h2x:x < 9223372036854775808) (hby:9223372036854775808≤y.natAbs) (hx:zl x≤10000000000) (hy:zl y≤10000000000):Ax.Pure Tryz.prog G 211 [smA x,bgA y] (.tup [intA (x / y),intA (x%y)]):=by
  have dx:=digs_dig (B:=BB) (by decide) x.natAbs
  have dy:=digs_dig (B:=BB) (by decide) y.natAbs
  have lx:(digs BB x.natAbs).length≤10000000000:=hx
  have ly:(digs BB y.natAbs).length≤10000000000:=hy
  have vx:=digs_val (B:=BB) (by decide) x.natAbs
  have vy:=digs_val (B:=BB) (by decide) y.natAbs
  have hn0:digs BB y.natAbs≠[]:=by rw [Ne,digs_nil (by decide)];omega
  have d1:=digs_dig (B:=BB) (by decide) (val BB (digs BB x.natAbs) / val BB (digs BB y.natAbs))
  have d2:=digs_dig (B:=BB) (by decide) (val BB (digs BB x.natAbs)%val BB (digs BB y.natAbs))
  refine zen Tryz.func211 rfl Tryz.ntmps211 ?_
  intro w0 E0 hc
  have nd:∀m n k:Nat,n≤m→(digs BB m).length≤k→(digs BB n).length≤k:=fun m n k h1 h2=>Nat.le_trans (zl_mono (x:=(n:Int)) (y:=(m:Int)) (by simpa using h1)) h2
  have hq:x.natAbs / y.natAbs≤x.natAbs:=Nat.div_le_self _ _
  have hr:x.natAbs%y.natAbs≤x.natAbs:=Nat.mod_le _ _
  have lq:(digs BB (val BB (digs BB x.natAbs) / val BB (digs BB y.natAbs))).length≤10000000000:=by rw [vx,vy];exact nd _ _ _ hq lx
  have lr:(digs BB (val BB (digs BB x.natAbs)%val BB (digs BB y.natAbs))).length≤10000000000:=by rw [vx,vy];exact nd _ _ _ hr lx
  have c_AddL:∀R:Int,zl R≤100000000000→Ax.Pure Tryz.prog G 216 [intA R,bgA y] (intA (R+y)):=fun R hR=>pure_args (c_Add R y hR (by omega)) ⟨Sub.refl _,sub_bg hby,trivial⟩ (by simp [clV,AV.cl,clL,Leaf.cl])
  have vq:=digs_val (B:=BB) (by decide) (x.natAbs / y.natAbs)
  have vr:=digs_val (B:=BB) (by decide) (x.natAbs%y.natAbs)
  have hA:zl (if decide (x < 0)=true then -((val BB (digs BB (val BB (digs BB x.natAbs) / val BB (digs BB y.natAbs))):Nat):Int) else ((val BB (digs BB (val BB (digs BB x.natAbs) / val BB (digs BB y.natAbs))):Nat):Int))≤10000000000:=by
    rw [vx,vy,vq]
    rw [vx,vy] at lq
    split
    · rw [zl_neg];exact lq
    · exact lq
  have hB:zl (if decide (x < 0)=true then -((val BB (digs BB (val BB (digs BB x.natAbs)%val BB (digs BB y.natAbs))):Nat):Int) else ((val BB (digs BB (val BB (digs BB x.natAbs)%val BB (digs BB y.natAbs))):Nat):Int))≤10000000000:=by
    rw [vx,vy,vr]
    rw [vx,vy] at lr
    split
    · rw [zl_neg];exact lr
    · exact lr
  have z1:zl 1≤10:=Nat.le_trans (zl_small (by decide)) (by decide)
  have hdn:=divmod_neg (x:=x) hp
  have hdp:=divmod_pos (x:=x) hp
  repeat' (first|refine zR1 hc Tryz.results211 ?_|(with_reducible first|exact trivial|refine zan ?_ ?_|refine zim (fun h=>?_)|refine zoc (c_parts_s _ ?_ ?_) ?_ ?_|refine zoc (c_parts_b _ ?_) ?_ ?_|refine zoc (c_divide _ _ ?_ ?_ ?_ ?_ ?_) ?_ ?_|refine zoc (c_made _ _ ?_ ?_) ?_ ?_|refine zoc (c_Sign _) ?_ ?_|refine zoc (c_Of _ ?_ ?_) ?_ ?_|refine zoc (c_Sub _ _ ?_ ?_) ?_ ?_|refine zoc (c_AddL _ ?_) ?_ ?_|fail)|((first|exact dx|exact dy|exact hn0|exact d1|exact d2|exact Nat.le_trans hA (by decide)|exact Nat.le_trans hB (by decide)|omega|(simp only [and_true];omega));done))
  · simp only [vx,vy,vq,vr] at h ⊢
    have e:=divmod_fix hp h
    exact sub_tup2 (sub_intA e.1) (sub_intA e.2)
  · simp only [vx,vy,vq,vr] at h ⊢
    have e:=divmod_ok hp h
    exact sub_tup2 (sub_intA e.1) (sub_intA e.2)
theorem c_DivMod_bs (x y:Int) (hp:0 < y) (hbx:9223372036854775808≤x.natAbs) (h1y:-9223372036854775808≤y) (h2y:y < 9223372036854775808) (hx:zl x≤10000000000) (hy:zl y≤10000000000):Ax.Pure Tryz.prog G 211 [bgA x,smA y] (.tup [intA (x / y),intA (x%y)]):=by
  have dx:=digs_dig (B:=BB) (by decide) x.natAbs
  have dy:=digs_dig (B:=BB) (by decide) y.natAbs
  have lx:(digs BB x.natAbs).length≤10000000000:=hx
  have ly:(digs BB y.natAbs).length≤10000000000:=hy
  have vx:=digs_val (B:=BB) (by decide) x.natAbs
  have vy:=digs_val (B:=BB) (by decide) y.natAbs
  have hn0:digs BB y.natAbs≠[]:=by rw [Ne,digs_nil (by decide)];omega
  have d1:=digs_dig (B:=BB) (by decide) (val BB (digs BB x.natAbs) / val BB (digs BB y.natAbs))
  have d2:=digs_dig (B:=BB) (by decide) (val BB (digs BB x.natAbs)%val BB (digs BB y.natAbs))
  refine zen Tryz.func211 rfl Tryz.ntmps211 ?_
  intro w0 E0 hc
  have nd:∀m n k:Nat,n≤m→(digs BB m).length≤k→(digs BB n).length≤k:=fun m n k h1 h2=>Nat.le_trans (zl_mono (x:=(n:Int)) (y:=(m:Int)) (by simpa using h1)) h2
  have hq:x.natAbs / y.natAbs≤x.natAbs:=Nat.div_le_self _ _
  have hr:x.natAbs%y.natAbs≤x.natAbs:=Nat.mod_le _ _
  have lq:(digs BB (val BB (digs BB x.natAbs) / val BB (digs BB y.natAbs))).length≤10000000000:=by rw [vx,vy];exact nd _ _ _ hq lx
  have lr:(digs BB (val BB (digs BB x.natAbs)%val BB (digs BB y.natAbs))).length≤10000000000:=by rw [vx,vy];exact nd _ _ _ hr lx
  have c_AddL:∀R:Int,zl R≤100000000000→Ax.Pure Tryz.prog G 216 [intA R,smA y] (intA (R+y)):=fun R hR=>pure_args (c_Add R y hR (by omega)) ⟨Sub.refl _,sub_sm h1y h2y,trivial⟩ (by simp [clV,AV.cl,clL,Leaf.cl])
  have vq:=digs_val (B:=BB) (by decide) (x.natAbs / y.natAbs)
  have vr:=digs_val (B:=BB) (by decide) (x.natAbs%y.natAbs)
  have hA:zl (if decide (x < 0)=true then -((val BB (digs BB (val BB (digs BB x.natAbs) / val BB (digs BB y.natAbs))):Nat):Int) else ((val BB (digs BB (val BB (digs BB x.natAbs) / val BB (digs BB y.natAbs))):Nat):Int))≤10000000000:=by
    rw [vx,vy,vq]
    rw [vx,vy] at lq
    split
    · rw [zl_neg];exact lq
    · exact lq
  have hB:zl (if decide (x < 0)=true then -((val BB (digs BB (val BB (digs BB x.natAbs)%val BB (digs BB y.natAbs))):Nat):Int) else ((val BB (digs BB (val BB (digs BB x.natAbs)%val BB (digs BB y.natAbs))):Nat):Int))≤10000000000:=by
    rw [vx,vy,vr]
    rw [vx,vy] at lr
    split
    · rw [zl_neg];exact lr
    · exact lr
  have z1:zl 1≤10:=Nat.le_trans (zl_small (by decide)) (by decide)
  have hdn:=divmod_neg (x:=x) hp
  have hdp:=divmod_pos (x:=x) hp
  repeat' (first|refine zR1 hc Tryz.results211 ?_|(with_reducible first|exact trivial|refine zan ?_ ?_|refine zim (fun h=>?_)|refine zoc (c_parts_s _ ?_ ?_) ?_ ?_|refine zoc (c_parts_b _ ?_) ?_ ?_|refine zoc (c_divide _ _ ?_ ?_ ?_ ?_ ?_) ?_ ?_|refine zoc (c_made _ _ ?_ ?_) ?_ ?_|refine zoc (c_Sign _) ?_ ?_|refine zoc (c_Of _ ?_ ?_) ?_ ?_|refine zoc (c_Sub _ _ ?_ ?_) ?_ ?_|refine zoc (c_AddL _ ?_) ?_ ?_|fail)|((first|exact dx|exact dy|exact hn0|exact d1|exact d2|exact Nat.le_trans hA (by decide)|exact Nat.le_trans hB (by decide)|omega|(simp only [and_true];omega));done))
  · simp only [vx,vy,vq,vr] at h ⊢
    have e:=divmod_fix hp h
    exact sub_tup2 (sub_intA e.1) (sub_intA e.2)
  · simp only [vx,vy,vq,vr] at h ⊢
    have e:=divmod_ok hp h
    exact sub_tup2 (sub_intA e.1) (sub_intA e.2)
theorem c_DivMod_bb (x y:Int) (hp:0 < y) (hbx:9223372036854775808≤x.natAbs) (hby:9223372036854775808≤y.natAbs) (hx:zl x≤10000000000) (hy:zl y≤10000000000):Ax.Pure Tryz.prog G 211 [bgA x,bgA y] (.tup [intA (x / y),intA (x%y)]):=by
  have dx:=digs_dig (B:=BB) (by decide) x.natAbs
  have dy:=digs_dig (B:=BB) (by decide) y.natAbs
  have lx:(digs BB x.natAbs).length≤10000000000:=hx
  have ly:(digs BB y.natAbs).length≤10000000000:=hy
  have vx:=digs_val (B:=BB) (by decide) x.natAbs
  have vy:=digs_val (B:=BB) (by decide) y.natAbs
  have hn0:digs BB y.natAbs≠[]:=by rw [Ne,digs_nil (by decide)];omega
  have d1:=digs_dig (B:=BB) (by decide) (val BB (digs BB x.natAbs) / val BB (digs BB y.natAbs))
  have d2:=digs_dig (B:=BB) (by decide) (val BB (digs BB x.natAbs)%val BB (digs BB y.natAbs))
  refine zen Tryz.func211 rfl Tryz.ntmps211 ?_
  intro w0 E0 hc
  have nd:∀m n k:Nat,n≤m→(digs BB m).length≤k→(digs BB n).length≤k:=fun m n k h1 h2=>Nat.le_trans (zl_mono (x:=(n:Int)) (y:=(m:Int)) (by simpa using h1)) h2
  have hq:x.natAbs / y.natAbs≤x.natAbs:=Nat.div_le_self _ _
  have hr:x.natAbs%y.natAbs≤x.natAbs:=Nat.mod_le _ _
  have lq:(digs BB (val BB (digs BB x.natAbs) / val BB (digs BB y.natAbs))).length≤10000000000:=by rw [vx,vy];exact nd _ _ _ hq lx
  have lr:(digs BB (val BB (digs BB x.natAbs)%val BB (digs BB y.natAbs))).length≤10000000000:=by rw [vx,vy];exact nd _ _ _ hr lx
  have c_AddL:∀R:Int,zl R≤100000000000→Ax.Pure Tryz.prog G 216 [intA R,bgA y] (intA (R+y)):=fun R hR=>pure_args (c_Add R y hR (by omega)) ⟨Sub.refl _,sub_bg hby,trivial⟩ (by simp [clV,AV.cl,clL,Leaf.cl])
  have vq:=digs_val (B:=BB) (by decide) (x.natAbs / y.natAbs)
  have vr:=digs_val (B:=BB) (by decide) (x.natAbs%y.natAbs)
  have hA:zl (if decide (x < 0)=true then -((val BB (digs BB (val BB (digs BB x.natAbs) / val BB (digs BB y.natAbs))):Nat):Int) else ((val BB (digs BB (val BB (digs BB x.natAbs) / val BB (digs BB y.natAbs))):Nat):Int))≤10000000000:=by
    rw [vx,vy,vq]
    rw [vx,vy] at lq
    split
    · rw [zl_neg];exact lq
    · exact lq
  have hB:zl (if decide (x < 0)=true then -((val BB (digs BB (val BB (digs BB x.natAbs)%val BB (digs BB y.natAbs))):Nat):Int) else ((val BB (digs BB (val BB (digs BB x.natAbs)%val BB (digs BB y.natAbs))):Nat):Int))≤10000000000:=by
    rw [vx,vy,vr]
    rw [vx,vy] at lr
    split
    · rw [zl_neg];exact lr
    · exact lr
  have z1:zl 1≤10:=Nat.le_trans (zl_small (by decide)) (by decide)
  have hdn:=divmod_neg (x:=x) hp
  have hdp:=divmod_pos (x:=x) hp
  repeat' (first|refine zR1 hc Tryz.results211 ?_|(with_reducible first|exact trivial|refine zan ?_ ?_|refine zim (fun h=>?_)|refine zoc (c_parts_s _ ?_ ?_) ?_ ?_|refine zoc (c_parts_b _ ?_) ?_ ?_|refine zoc (c_divide _ _ ?_ ?_ ?_ ?_ ?_) ?_ ?_|refine zoc (c_made _ _ ?_ ?_) ?_ ?_|refine zoc (c_Sign _) ?_ ?_|refine zoc (c_Of _ ?_ ?_) ?_ ?_|refine zoc (c_Sub _ _ ?_ ?_) ?_ ?_|refine zoc (c_AddL _ ?_) ?_ ?_|fail)|((first|exact dx|exact dy|exact hn0|exact d1|exact d2|exact Nat.le_trans hA (by decide)|exact Nat.le_trans hB (by decide)|omega|(simp only [and_true];omega));done))
  · simp only [vx,vy,vq,vr] at h ⊢
    have e:=divmod_fix hp h
    exact sub_tup2 (sub_intA e.1) (sub_intA e.2)
  · simp only [vx,vy,vq,vr] at h ⊢
    have e:=divmod_ok hp h
    exact sub_tup2 (sub_intA e.1) (sub_intA e.2)
theorem c_DivMod (x y:Int) (hp:0 < y) (hx:zl x≤10000000000) (hy:zl y≤10000000000):Ax.Pure Tryz.prog G 211 [intA x,intA y] (.tup [intA (x / y),intA (x%y)]):=
  pure_int [] [intA y] (fun a b=>pure_int [smA x] [] (fun c d=>c_DivMod_ss x y hp a b c d hx hy) (fun c=>c_DivMod_sb x y hp a b c hx hy))
    (fun a=>pure_int [bgA x] [] (fun c d=>c_DivMod_bs x y hp a c d hx hy) (fun c=>c_DivMod_bb x y hp a c hx hy))
end Go.Proofs
end
section
set_option maxHeartbeats 4000000
set_option maxRecDepth 100000
namespace Go.Proofs
open Go.Ax
theorem c_Quo (x y:Int) (h0:y≠0) (hx:zl x≤10000000000) (hy:zl y≤10000000000):Ax.Pure Tryz.prog G 222 [intA x,intA y] (intA (if y < 0 then -x / -y else x / y)):=by
  have hx':zl (-x)≤10000000000:=by rw [zl_neg];exact hx
  have hy':zl (-y)≤10000000000:=by rw [zl_neg];exact hy
  have hs:=@sign_lt y
  refine zen Tryz.func222 rfl Tryz.ntmps222 ?_
  intro w0 E0 hc
  repeat' (first|refine zR1 hc Tryz.results222 ?_|(with_reducible first|exact trivial|refine zan ?_ ?_|refine zim (fun h=>?_)|refine zoc (c_Sign _) ?_ ?_|refine zoc (c_Neg _ ?_) ?_ ?_|refine zoc (c_DivMod _ _ ?_ ?_ ?_) ?_ ?_|fail)|((first|exact hx'|exact hy'|omega);done))
  · exact sub_intA (by rw [if_pos (by omega)])
  · exact sub_intA (by rw [if_neg (by omega)])
theorem c_Gcd (x y:Int) (hx:zl x≤10000000000) (hy:zl y≤10000000000):Ax.Pure Tryz.prog G 118 [intA x,intA y] (intA (Int.gcd x y)):=by
  have hx1:zl (x.natAbs:Int)≤10000000000:=hx
  have hy1:zl (y.natAbs:Int)≤10000000000:=hy
  refine zen Tryz.func118 rfl Tryz.ntmps118 ?_
  intro w0 E0 hc
  repeat' (first|refine zR1 hc Tryz.results118 ?_|(with_reducible first|exact trivial|refine zan ?_ ?_|refine zim (fun h=>?_)|refine zoc (c_Abs _ ?_) ?_ ?_|fail)|(omega;done))
  refine Wp_loopI (α:=Nat×Nat) (fun p=>stOf [(2,.one (.ptr 0 2 0 0)),(3,.one (.ptr 1 2 0 0)),(4,.one (.ptr 2 2 0 0))] [(0,⟨2,1,fun _=> [.int p.1],false⟩),(1,⟨2,1,fun _=> [.int p.2],false⟩),(2,⟨2,1,fun _=> [.v (.int .i64 0),.v (.slice none 0 0)],false⟩)] 3)
    (fun p=>zl p.1≤10000000000∧zl p.2≤10000000000∧Nat.gcd p.1 p.2=Int.gcd x y) (fun p=>p.2) (x.natAbs,y.natAbs) ⟨hx1,hy1,rfl⟩ ?_ ?_
  · refine zW1 ?_ <;> repeat' (with_reducible first|exact trivial|refine zan ?_ ?_|refine zal (fun i hi=>?_))
  · rintro ⟨a,b⟩ ⟨ha,hb,hg⟩
    dsimp only at ha hb hg
    repeat' (first|refine zR1 hc Tryz.results118 ?_|(with_reducible first|exact trivial|refine zan ?_ ?_|refine zim (fun h=>?_)|refine zoc (c_Sign _) ?_ ?_|refine zoc (c_DivMod _ _ ?_ ?_ ?_) ?_ ?_|fail)|(omega;done))
    · have hb0:¬(b:Int)=0:=fun e=>h (sign_zero.2 e)
      omega
    · have hb0:¬(b:Int)=0:=fun e=>h (sign_zero.2 e)
      have hlt:=Nat.mod_lt a (show 0 < b by omega)
      refine ⟨(b,a%b),⟨hb,Nat.le_trans (zl_mono (by simp only [Int.natAbs_natCast];omega)) hb,?_⟩,hlt,?_⟩
      · rw [←hg]
        show Nat.gcd b (a%b)=_
        rw [Nat.gcd_comm b,←Nat.gcd_rec,Nat.gcd_comm]
      · refine zW1 ?_ <;> repeat' (with_reducible first|exact trivial|refine zan ?_ ?_|refine zal (fun i hi=>?_))
        all_goals exact SubLv.refl _
    · have hb0:b=0:=by have:=sign_zero.1 h;omega
      subst hb0
      rw [Nat.gcd_zero_right] at hg
      exact sub_intA (by rw [hg])
theorem pow_half (z:Int) (k:Nat):z ^ k=(if k%2=1 then z else 1)*(z*z) ^ (k / 2):=by
  have h:=Nat.div_add_mod k 2
  conv=>lhs;rw [←h,Int.pow_add,Int.pow_mul]
  have e:z ^ 2=z*z:=by rw [Int.pow_succ,Int.pow_succ,Int.pow_zero,Int.one_mul]
  rw [e]
  split
  · rename_i h1;rw [h1,Int.pow_one,Int.mul_comm]
  · have:k%2=0:=by omega
    rw [this,Int.pow_zero,Int.mul_one,Int.one_mul]
theorem c_Pow (z:Int) (k:Nat) (hk:k*zl z≤1000000000) (hk2:k≤1000000000):Ax.Pure Tryz.prog G 127 [intA z,N k] (intA (z ^ k)):=by
  have z1:zl 1≤1:=zl_small (by decide)
  refine zen Tryz.func127 rfl Tryz.ntmps127 ?_
  intro w0 E0 hc
  repeat' (first|refine zR1 hc Tryz.results127 ?_|(with_reducible first|exact trivial|refine zan ?_ ?_|refine zim (fun h=>?_)|refine zoc (c_Of _ ?_ ?_) ?_ ?_|fail)|(omega;done))
  refine Wp_loopI (α:=Int×Int×Nat) (fun p=>stOf [(1,N p.2.2),(2,.one (.ptr 0 2 0 0)),(4,.one (.ptr 1 2 0 0)),(5,.one (.ptr 2 2 0 0))] [(0,⟨2,1,fun _=> [.int p.1],false⟩),(1,⟨2,1,fun _=> [.v (.int .i64 0),.v (.slice none 0 0)],false⟩),(2,⟨2,1,fun _=> [.int p.2.1],false⟩)] 3)
    (fun p=>p.2.2≤1000000000∧zl p.2.1+p.2.2*zl p.1≤1000000001∧p.2.1*p.1 ^ p.2.2=z ^ k) (fun p=>p.2.2) (z,1,k) ⟨hk2,by dsimp only;omega,by simp⟩ ?_ ?_
  · refine zW1 ?_ <;> repeat' (with_reducible first|exact trivial|refine zan ?_ ?_|refine zal (fun i hi=>?_))
  · rintro ⟨a,o,j⟩ ⟨h1,h2,h3⟩
    dsimp only at h1 h2 h3
    have hp:=pow_half a j
    have ao:=and_one j
    have so:=shr_one j
    have hza:0 < j→zl a≤1000000001:=fun h=>by
      have:=Nat.le_mul_of_pos_left (zl a) h;omega
    have hzo:zl o≤1000000001:=by omega
    have m1:=zl_mul o a
    have m2:=zl_mul a a
    repeat' (first|refine zR1 hc Tryz.results127 ?_|(with_reducible first|exact trivial|refine zan ?_ ?_|refine zim (fun h=>?_)|refine zoc (c_Mul _ _ ?_ ?_) ?_ ?_|fail)|((first|omega|(have:=hza (by omega);omega));done))
    · rename_i g1 g2
      rw [ao] at g2
      have hj:j=2*(j / 2)+1:=by omega
      rw [if_pos (by omega)] at hp
      refine ⟨(a*a,o*a,j / 2),⟨by dsimp only;omega,?_,?_⟩,by dsimp only;omega,?_⟩
      · dsimp only
        have h5:=Nat.mul_le_mul_left (j / 2) m2
        have h6:j*zl a=2*((j / 2)*zl a)+zl a:=by
          conv=>lhs;rw [hj,Nat.add_mul,Nat.one_mul,Nat.mul_assoc]
        rw [Nat.mul_add] at h5
        omega
      · dsimp only
        rw [←h3,hp,Int.mul_assoc]
      · refine zW1 ?_ <;> repeat' (with_reducible first|exact trivial|refine zan ?_ ?_|refine zal (fun i hi=>?_))
        all_goals first|exact so|rfl
    · rename_i g1 g2
      rw [ao] at g2
      obtain rfl:j=1:=by omega
      refine ⟨(a,o*a,0),⟨by dsimp only;omega,?_,?_⟩,by dsimp only;omega,?_⟩
      · dsimp only;omega
      · dsimp only
        rw [←h3,Int.pow_zero,Int.mul_one,Int.pow_one]
      · refine zW1 ?_ <;> repeat' (with_reducible first|exact trivial|refine zan ?_ ?_|refine zal (fun i hi=>?_))
        all_goals first|exact so|rfl
    · rename_i g1 g2
      rw [ao] at g2
      have hj:j=2*(j / 2):=by omega
      rw [if_neg (by omega),Int.one_mul] at hp
      refine ⟨(a*a,o,j / 2),⟨by dsimp only;omega,?_,?_⟩,by dsimp only;omega,?_⟩
      · dsimp only
        have h5:=Nat.mul_le_mul_left (j / 2) m2
        have h6:j*zl a=2*((j / 2)*zl a):=by
          conv=>lhs;rw [hj,Nat.mul_assoc]
        rw [Nat.mul_add] at h5
        omega
      · dsimp only
        rw [←h3,hp]
      · refine zW1 ?_ <;> repeat' (with_reducible first|exact trivial|refine zan ?_ ?_|refine zal (fun i hi=>?_))
        all_goals first|exact so|rfl
    · obtain rfl:j=0:=by omega
      rw [Int.pow_zero,Int.mul_one] at h3
      exact sub_intA h3
end Go.Proofs
end
section
set_option maxHeartbeats 4000000
set_option maxRecDepth 100000
namespace Go.Proofs
open Go.Ax
theorem c_IsWhole (q:Rat):Ax.Pure Tryz.prog G 238 [fracA q] (Bo (decide (q.den=1))):=by
  refine zen Tryz.func238 rfl Tryz.ntmps238 ?_
  intro w0 E0 hc
  repeat' (first|(with_reducible first|refine Wp_seq ?_|refine zwk ?_|refine Wp_block ?_|refine zgo ?_|refine zbn ?_|refine zge Tryz.results238 ?_|refine Sub.refl _|refine allP_nil|refine zoa1 (out':=?_) ?_|refine zca1 (y:=?_) ?_|refine zea1 (eo':=?_) ?_)|(with_reducible refine zrs [1] hc ?_ ?_;focus (with_unfolding_all rfl))|(with_reducible refine zrm [1] hc mixed ?_ ?_;focus (with_unfolding_all rfl))|(with_reducible refine allP_cons ?_ ?_;focus (first|decide|omega))|(with_reducible first|refine zg2 ?_ ?_|refine zbo ?_|refine zg3 ?_ (fun h=>?_) (fun h=>?_)|refine zg4 (fun h=>?_) (fun h=>?_)|fail))
  refine Wp_weaker (st':=stOf [(1,.one (.ptr 0 4 0 0))] [(0,⟨4,1,fun _=> [.int q.num,.int q.den],false⟩)] 1) ?_ ?_
  · refine zW1 ?_ <;> repeat' (with_reducible first|exact trivial|refine zan ?_ ?_|refine zal (fun i hi=>?_))
    all_goals exact subLv_unfrac (SubLv.refl _)
  refine Wp_int 0 [.int q.num] [] q.den rfl rfl (fun h1 h2=>?_) (fun h1=>?_)
  · repeat' (first|refine zR1 hc Tryz.results238 ?_|(with_reducible first|exact trivial|refine zan ?_ ?_|refine zim (fun h=>?_)|fail)|(omega;done))
    refine sub_eq ?_
    by_cases h:q.den=1
    · rw [h];rfl
    · have h':¬(q.den:Int)=1:=by omega
      simp [h,h']
  · repeat' (first|refine zR1 hc Tryz.results238 ?_|(with_reducible first|exact trivial|refine zan ?_ ?_|refine zim (fun h=>?_)|fail)|(omega;done))
    all_goals exact sub_eq (by rw [decide_eq_false (by omega)])
theorem c_Whole (z:Int):Ax.Pure Tryz.prog G 203 [intA z] (fracA (z:Rat)):=by
  refine zen Tryz.func203 rfl Tryz.ntmps203 ?_
  intro w0 E0 hc
  repeat' (first|refine zR1 hc Tryz.results203 ?_|(with_reducible first|exact trivial|refine zan ?_ ?_|refine zim (fun h=>?_)|refine zoc (c_Of _ ?_ ?_) ?_ ?_|fail)|(omega;done))
  all_goals exact sub_agg (subLv_mkfrac rfl rfl (SubLv.refl _))
theorem c_Make (n d:Int) (hd:d≠0) (hn:zl n≤10000000000) (hd':zl d≤10000000000):Ax.Pure Tryz.prog G 131 [intA n,intA d] (fracA (Rat.divInt n d)):=by
  have hn1:zl (-n)≤10000000000:=by rw [zl_neg];exact hn
  have hd1:zl (-d)≤10000000000:=by rw [zl_neg];exact hd'
  have hs:=@sign_lt d
  refine zen Tryz.func131 rfl Tryz.ntmps131 ?_
  intro w0 E0 hc
  repeat' (first|(with_reducible first|refine Wp_seq (x:=.region _ _ _) ?_|refine Wp_seq (x:=.seq _ _) ?_|refine Wp_seq (x:=.block _ _) ?_|refine Wp_seq (x:=.loop _) ?_|refine Wp_seq (x:=.skip) ?_|refine zr0 hc ?_|refine zm0 hc ?_|refine Wp_block ?_|refine zgo ?_|refine zbn ?_|refine zge Tryz.results131 ?_|refine Sub.refl _|refine allP_nil|refine zoa1 (out':=?_) ?_|refine zca1 (y:=?_) ?_|refine zea1 (eo':=?_) ?_)|(with_reducible refine allP_cons ?_ ?_;focus (first|decide|omega))|(with_reducible first|refine zg2 ?_ ?_|refine zoc (c_Sign _) ?_ ?_|refine zbo ?_|refine zg3 ?_ (fun h=>?_) (fun h=>?_)|refine zg4 (fun h=>?_) (fun h=>?_)|fail)|(omega;done))
  refine Wp_join (α:=Int×Int) (fun p=>stOf [(2,.one (.ptr 0 2 0 0)),(3,.one (.ptr 1 2 0 0)),(4,.one (.ptr 2 4 0 0))] [(0,⟨2,1,fun _=> [.int p.1],false⟩),(1,⟨2,1,fun _=> [.int p.2],false⟩),(2,⟨4,1,fun _=> [.v (.int .i64 0),.v (.slice none 0 0),.v (.int .i64 0),.v (.slice none 0 0)],false⟩)] 3)
    (fun p=>0 < p.2∧zl p.1≤10000000000∧zl p.2≤10000000000∧Rat.divInt p.1 p.2=Rat.divInt n d) ?_ ?_
  · repeat' (first|refine zR1 hc Tryz.results131 ?_|(with_reducible first|exact trivial|refine zan ?_ ?_|refine zim (fun h=>?_)|refine zoc (c_Neg _ ?_) ?_ ?_|fail)|(omega;done))
    · refine ⟨(-n,-d),⟨by dsimp only;omega,hn1,hd1,Rat.neg_divInt_neg n d⟩,?_⟩
      refine zW1 ?_ <;> repeat' (with_reducible first|exact trivial|refine zan ?_ ?_|refine zal (fun i hi=>?_))
    · refine ⟨(n,d),⟨by dsimp only;omega,hn,hd',rfl⟩,?_⟩
      refine zW1 ?_ <;> repeat' (with_reducible first|exact trivial|refine zan ?_ ?_|refine zal (fun i hi=>?_))
  rintro ⟨n',d'⟩ ⟨h1,h2,h3,h4⟩
  dsimp only at h1 h2 h3 h4
  rw [←h4]
  have hg:=gcd_pos (n:=n') h1
  have hzg:=zl_gcd n' h1
  have m1:=make_num (n:=n') h1
  have m2:=make_den (n:=n') h1
  have z0:=zl_zero
  refine Wp_int 1 [] [] d' rfl rfl (fun b1 b2=>?_) (fun b1=>?_)
  · have c_G:=pure_args (c_Gcd n' d' h2 h3) (args':=[intA n',smA d']) ⟨Sub.refl _,sub_sm b1 b2,trivial⟩ (by simp [clV,AV.cl,clL,Leaf.cl])
    have c_Q:=pure_args (c_Quo d' (Int.gcd n' d') (by omega) h3 (by omega)) (args':=[smA d',intA (Int.gcd n' d')]) ⟨sub_sm b1 b2,Sub.refl _,trivial⟩ (by simp [clV,AV.cl,clL,Leaf.cl])
    repeat' (first|refine zR1 hc Tryz.results131 ?_|(with_reducible first|exact trivial|refine zan ?_ ?_|refine zim (fun h=>?_)|refine zoc c_G ?_ ?_|refine zoc c_Q ?_ ?_|refine zoc (c_Quo _ _ ?_ ?_ ?_) ?_ ?_|fail)|(omega;done))
    · obtain rfl:d'=1:=by assumption
      obtain ⟨e1,e2⟩:=divInt_one' n'
      exact sub_agg ((subLv_cons (subLv_sm (by decide) (by decide) (SubLv.refl _))).trans (subLv_mkfrac e1.symm (by rw [e2];rfl) (SubLv.refl _)))
    · rw [if_neg (by omega),if_neg (by omega)]
      exact sub_agg (subLv_mkfrac m1 m2 (SubLv.refl _))
  · have c_G:=pure_args (c_Gcd n' d' h2 h3) (args':=[intA n',bgA d']) ⟨Sub.refl _,sub_bg b1,trivial⟩ (by simp [clV,AV.cl,clL,Leaf.cl])
    have c_Q:=pure_args (c_Quo d' (Int.gcd n' d') (by omega) h3 (by omega)) (args':=[bgA d',intA (Int.gcd n' d')]) ⟨sub_bg b1,Sub.refl _,trivial⟩ (by simp [clV,AV.cl,clL,Leaf.cl])
    repeat' (first|refine zR1 hc Tryz.results131 ?_|(with_reducible first|exact trivial|refine zan ?_ ?_|refine zim (fun h=>?_)|refine zoc c_G ?_ ?_|refine zoc c_Q ?_ ?_|refine zoc (c_Quo _ _ ?_ ?_ ?_) ?_ ?_|fail)|(omega;done))
    rw [if_neg (by omega),if_neg (by omega)]
    exact sub_agg (subLv_mkfrac m1 m2 (SubLv.refl _))
theorem sub_frac {x y:Rat} (h:x=y):Ax.Sub (fracA x) (fracA y):=h ▸ Sub.refl _
theorem c_F (z:Int) (h1:-9223372036854775808≤z) (h2:z < 9223372036854775808):Ax.Pure Tryz.prog G 186 [N z] (fracA (z:Rat)):=by
  refine zen Tryz.func186 rfl Tryz.ntmps186 ?_
  intro w0 E0 hc
  repeat' (first|refine zR1 hc Tryz.results186 ?_|(with_reducible first|exact trivial|refine zan ?_ ?_|refine zim (fun h=>?_)|refine zoc (c_Of _ ?_ ?_) ?_ ?_|refine zoc (c_Whole _) ?_ ?_|fail)|(omega;done))
theorem c_FSign (q:Rat):Ax.Pure Tryz.prog G 164 [fracA q] (N q.num.sign):=by
  refine zen Tryz.func164 rfl Tryz.ntmps164 ?_
  intro w0 E0 hc
  repeat' (first|refine zR1 hc Tryz.results164 ?_|(with_reducible first|exact trivial|refine zan ?_ ?_|refine zim (fun h=>?_)|refine zoc (c_Sign _) ?_ ?_|fail)|(omega;done))
theorem c_FNeg (q:Rat) (hq:rz q≤1000000000):Ax.Pure Tryz.prog G 230 [fracA q] (fracA (-q)):=by
  have h1:=rz_num q
  refine zen Tryz.func230 rfl Tryz.ntmps230 ?_
  intro w0 E0 hc
  repeat' (first|refine zR1 hc Tryz.results230 ?_|(with_reducible first|exact trivial|refine zan ?_ ?_|refine zim (fun h=>?_)|refine zoc (c_Neg _ ?_) ?_ ?_|fail)|(omega;done))
  all_goals exact sub_agg (subLv_mkfrac rfl rfl (SubLv.refl _))
theorem c_FMul (a b:Rat) (ha:rz a≤1000000000) (hb:rz b≤1000000000):Ax.Pure Tryz.prog G 185 [fracA a,fracA b] (fracA (a*b)):=by
  have a1:=rz_num a
  have a2:=rz_den a
  have b1:=rz_num b
  have b2:=rz_den b
  have m1:=zl_mul a.num b.num
  have m2:=zl_mul a.den b.den
  have hd:(a.den:Int)*(b.den:Int)≠0:=by
    rw [←Int.natCast_mul]
    have:=Nat.mul_ne_zero a.den_nz b.den_nz
    omega
  refine zen Tryz.func185 rfl Tryz.ntmps185 ?_
  intro w0 E0 hc
  repeat' (first|refine zR1 hc Tryz.results185 ?_|(with_reducible first|exact trivial|refine zan ?_ ?_|refine zim (fun h=>?_)|refine zoc (c_Mul _ _ ?_ ?_) ?_ ?_|refine zoc (c_Make _ _ ?_ ?_ ?_) ?_ ?_|fail)|((first|exact hd|omega);done))
  all_goals exact sub_frac (by rw [Rat.mul_def',←Int.natCast_mul,Rat.divInt_ofNat])
theorem c_FAdd (a b:Rat) (ha:rz a≤1000000000) (hb:rz b≤1000000000):Ax.Pure Tryz.prog G 189 [fracA a,fracA b] (fracA (a+b)):=by
  have a1:=rz_num a
  have a2:=rz_den a
  have b1:=rz_num b
  have b2:=rz_den b
  have m1:=zl_mul a.num b.den
  have m2:=zl_mul a.den b.den
  have m3:=zl_mul b.num a.den
  have m4:=zl_add (a.num*b.den) (b.num*a.den)
  have hd:(a.den:Int)*(b.den:Int)≠0:=by
    rw [←Int.natCast_mul]
    have:=Nat.mul_ne_zero a.den_nz b.den_nz
    omega
  refine zen Tryz.func189 rfl Tryz.ntmps189 ?_
  intro w0 E0 hc
  repeat' (first|refine zR1 hc Tryz.results189 ?_|(with_reducible first|exact trivial|refine zan ?_ ?_|refine zim (fun h=>?_)|refine zoc (c_IsWhole _) ?_ ?_|refine zoc (c_Add _ _ ?_ ?_) ?_ ?_|refine zoc (c_Whole _) ?_ ?_|refine zoc (c_Mul _ _ ?_ ?_) ?_ ?_|refine zoc (c_Make _ _ ?_ ?_ ?_) ?_ ?_|fail)|((first|exact hd|omega);done))
  · exact sub_frac (by rw [Rat.intCast_add,frac_int (by assumption),frac_int h])
  · exact sub_frac (by rw [Rat.add_def',←Int.natCast_mul a.den,Rat.divInt_ofNat])
  · exact sub_frac (by rw [Rat.add_def',←Int.natCast_mul a.den,Rat.divInt_ofNat])
theorem c_FSub (a b:Rat) (ha:rz a≤1000000000) (hb:rz b≤1000000000):Ax.Pure Tryz.prog G 149 [fracA a,fracA b] (fracA (a - b)):=by
  have b1:=rz_neg b
  refine zen Tryz.func149 rfl Tryz.ntmps149 ?_
  intro w0 E0 hc
  repeat' (first|refine zR1 hc Tryz.results149 ?_|(with_reducible first|exact trivial|refine zan ?_ ?_|refine zim (fun h=>?_)|refine zoc (c_FNeg _ ?_) ?_ ?_|refine zoc (c_FAdd _ _ ?_ ?_) ?_ ?_|fail)|(omega;done))
  all_goals exact sub_frac (Rat.sub_eq_add_neg a b).symm
theorem c_FInv (a:Rat) (h0:a≠0) (ha:rz a≤1000000000):Ax.Pure Tryz.prog G 190 [fracA a] (fracA a⁻¹):=by
  have a1:=rz_num a
  have a2:=rz_den a
  have hn:a.num≠0:=fun e=>h0 (Rat.num_eq_zero.1 e)
  refine zen Tryz.func190 rfl Tryz.ntmps190 ?_
  intro w0 E0 hc
  repeat' (first|refine zR1 hc Tryz.results190 ?_|(with_reducible first|exact trivial|refine zan ?_ ?_|refine zim (fun h=>?_)|refine zoc (c_Make _ _ ?_ ?_ ?_) ?_ ?_|fail)|((first|exact hn|omega);done))
  all_goals exact sub_frac (Rat.inv_def a).symm
theorem c_FDiv (a b:Rat) (h0:b≠0) (ha:rz a≤900000000) (hb:rz b≤900000000):Ax.Pure Tryz.prog G 170 [fracA a,fracA b] (fracA (a / b)):=by
  have b1:=rz_inv b
  refine zen Tryz.func170 rfl Tryz.ntmps170 ?_
  intro w0 E0 hc
  repeat' (first|refine zR1 hc Tryz.results170 ?_|(with_reducible first|exact trivial|refine zan ?_ ?_|refine zim (fun h=>?_)|refine zoc (c_FInv _ ?_ ?_) ?_ ?_|refine zoc (c_FMul _ _ ?_ ?_) ?_ ?_|fail)|((first|exact h0|omega);done))
  all_goals exact sub_frac (Rat.div_def a b).symm
theorem c_FCmp (a b:Rat) (ha:rz a≤1000000000) (hb:rz b≤1000000000):Ax.Pure Tryz.prog G 202 [fracA a,fracA b] (N (cmpQ a b)):=by
  have a1:=rz_num a
  have a2:=rz_den a
  have b1:=rz_num b
  have b2:=rz_den b
  have m1:=zl_mul a.num b.den
  have m3:=zl_mul b.num a.den
  refine zen Tryz.func202 rfl Tryz.ntmps202 ?_
  intro w0 E0 hc
  repeat' (first|refine zR1 hc Tryz.results202 ?_|(with_reducible first|exact trivial|refine zan ?_ ?_|refine zim (fun h=>?_)|refine zoc (c_Mul _ _ ?_ ?_) ?_ ?_|refine zoc (c_Cmp _ _ ?_ ?_) ?_ ?_|fail)|(omega;done))
  all_goals exact Sub.refl _
theorem c_Floor (a:Rat) (ha:rz a≤1000000000):Ax.Pure Tryz.prog G 204 [fracA a] (intA a.floor):=by
  have a1:=rz_num a
  have a2:=rz_den a
  have hd:=a.den_nz
  refine zen Tryz.func204 rfl Tryz.ntmps204 ?_
  intro w0 E0 hc
  repeat' (first|refine zR1 hc Tryz.results204 ?_|(with_reducible first|exact trivial|refine zan ?_ ?_|refine zim (fun h=>?_)|refine zoc (c_DivMod _ _ ?_ ?_ ?_) ?_ ?_|fail)|(omega;done))
  all_goals exact sub_intA (Rat.floor_def a).symm
end Go.Proofs
end
