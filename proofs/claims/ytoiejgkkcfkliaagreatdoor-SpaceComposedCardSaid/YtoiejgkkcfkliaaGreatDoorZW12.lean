/- Lemmas on the program and its library: part ZW12. -/
import Derived.Test.YtoiejgkkcfkliaaGreatDoorZ19
set_option linter.unusedVariables false
set_option linter.unusedSimpArgs false
section
set_option maxHeartbeats 4000000
set_option maxRecDepth 100000
namespace Go.Proofs
open Go.Ax
theorem b9w (x y:Int):x*y=if (decide (x < 0) != decide (y < 0))=true then -((x.natAbs:Int)*(y.natAbs:Int)) else (x.natAbs:Int)*(y.natAbs:Int):=by
  by_cases h0:x < 0 <;> by_cases h3:y < 0 <;> simp only [h0,h3,decide_true,decide_false,bne_self_eq_false,Bool.false_eq_true,if_false,Bool.true_bne,Bool.false_bne,Bool.not_false,if_true]
  · rw [show (x.natAbs:Int)= -x by omega,show (y.natAbs:Int)= -y by omega];grind
  · rw [show (x.natAbs:Int)= -x by omega,show (y.natAbs:Int)=y by omega];grind
  · rw [show (x.natAbs:Int)=x by omega,show (y.natAbs:Int)= -y by omega];grind
  · rw [show (x.natAbs:Int)=x by omega,show (y.natAbs:Int)=y by omega]
theorem b49 {x y:Int} (vx:val BB (f7 BB x.natAbs)=x.natAbs) (vy:val BB (f7 BB y.natAbs)=y.natAbs):Ax.Sub (n8 (if (decide (x < 0) != decide (y < 0))=true then -((val BB (f7 BB (val BB (f7 BB x.natAbs)*val BB (f7 BB y.natAbs))):Nat):Int) else ((val BB (f7 BB (val BB (f7 BB x.natAbs)*val BB (f7 BB y.natAbs))):Nat):Int))) (n8 (x*y)):=by
  refine a2i (n:=x.natAbs*y.natAbs) (by rw [vx,vy]) ?_
  rw [Int.natCast_mul]
  exact (b9w x y).symm
theorem d5f (x y:Int) (h1x:-9223372036854775808≤x) (h2x:x < 9223372036854775808) (h1y:-9223372036854775808≤y) (h2y:y < 9223372036854775808) (hx:zl x≤100000000000) (hy:zl y≤100000000000):Ax.Pure Tryz.prog G 215 [smA x,smA y] (n8 (x*y)):=by
  have dx:=j5 (B:=BB) (by decide) x.natAbs
  have dy:=j5 (B:=BB) (by decide) y.natAbs
  have lx:(f7 BB x.natAbs).length≤100000000000:=hx
  have ly:(f7 BB y.natAbs).length≤100000000000:=hy
  have vx:=j8 (B:=BB) (by decide) x.natAbs
  have vy:=j8 (B:=BB) (by decide) y.natAbs
  have d1:=j5 (B:=BB) (by decide) (val BB (f7 BB x.natAbs)*val BB (f7 BB y.natAbs))
  have l1:(f7 BB (val BB (f7 BB x.natAbs)*val BB (f7 BB y.natAbs))).length≤4611686018427387904:=by
    rw [vx,vy]
    have:=a2s (x.natAbs:Nat) (y.natAbs:Nat)
    have e1:zl ((x.natAbs:Nat):Int)=zl x:=rfl
    have e2:zl ((y.natAbs:Nat):Int)=zl y:=rfl
    have e3:zl (((x.natAbs:Nat):Int)*((y.natAbs:Nat):Int))=(f7 BB (x.natAbs*y.natAbs)).length:=rfl
    omega
  refine r8 Tryz.func215 rfl Tryz.ntmps215 ?_
  intro w0 E0 hc
  repeat' (first|refine n7 hc Tryz.results215 ?_|(with_reducible first|exact trivial|refine j3 ?_ ?_|refine m8 (fun h=>?_)|refine c9 (b9k _ ?_ ?_) ?_ ?_|refine c9 (b4o _ _ ?_) ?_ ?_|refine c9 (a1d _ ?_ ?_) ?_ ?_|refine c9 (a01 _ ?_) ?_ ?_|refine c9 (a9z _ _ ?_ ?_ ?_ ?_) ?_ ?_|refine c9 (a4m _ _ ?_ ?_) ?_ ?_|fail)|((first|exact dx.lt|exact dy.lt|exact d1|exact l1|omega);done))
  all_goals first|exact b49 vx vy|skip
  · have e:=b9w x y
    rw [if_pos h] at e
    rename_i g1 g2
    generalize (x.natAbs:Int)*(y.natAbs:Int)=p at *
    exact a2z (by rw [IntKind.wrap_i64,IntKind.wrap_i64];omega) (by omega) (by omega)
  · have e:=b9w x y
    rw [if_neg (by rw [h];decide)] at e
    rename_i g1 g2
    generalize (x.natAbs:Int)*(y.natAbs:Int)=p at *
    exact a2z (by rw [IntKind.wrap_i64];omega) (by omega) (by omega)
theorem d5e (x y:Int) (h1x:-9223372036854775808≤x) (h2x:x < 9223372036854775808) (hby:9223372036854775808≤y.natAbs) (hx:zl x≤100000000000) (hy:zl y≤100000000000):Ax.Pure Tryz.prog G 215 [smA x,bgA y] (n8 (x*y)):=by
  have dx:=j5 (B:=BB) (by decide) x.natAbs
  have dy:=j5 (B:=BB) (by decide) y.natAbs
  have lx:(f7 BB x.natAbs).length≤100000000000:=hx
  have ly:(f7 BB y.natAbs).length≤100000000000:=hy
  have vx:=j8 (B:=BB) (by decide) x.natAbs
  have vy:=j8 (B:=BB) (by decide) y.natAbs
  have d1:=j5 (B:=BB) (by decide) (val BB (f7 BB x.natAbs)*val BB (f7 BB y.natAbs))
  have l1:(f7 BB (val BB (f7 BB x.natAbs)*val BB (f7 BB y.natAbs))).length≤4611686018427387904:=by
    rw [vx,vy]
    have:=a2s (x.natAbs:Nat) (y.natAbs:Nat)
    have e1:zl ((x.natAbs:Nat):Int)=zl x:=rfl
    have e2:zl ((y.natAbs:Nat):Int)=zl y:=rfl
    have e3:zl (((x.natAbs:Nat):Int)*((y.natAbs:Nat):Int))=(f7 BB (x.natAbs*y.natAbs)).length:=rfl
    omega
  refine r8 Tryz.func215 rfl Tryz.ntmps215 ?_
  intro w0 E0 hc
  repeat' (first|refine n7 hc Tryz.results215 ?_|(with_reducible first|exact trivial|refine j3 ?_ ?_|refine m8 (fun h=>?_)|refine c9 (b9k _ ?_ ?_) ?_ ?_|refine c9 (b4o _ _ ?_) ?_ ?_|refine c9 (a1d _ ?_ ?_) ?_ ?_|refine c9 (a01 _ ?_) ?_ ?_|refine c9 (a9z _ _ ?_ ?_ ?_ ?_) ?_ ?_|refine c9 (a4m _ _ ?_ ?_) ?_ ?_|fail)|((first|exact dx.lt|exact dy.lt|exact d1|exact l1|omega);done))
  all_goals exact b49 vx vy
theorem d5d (x y:Int) (hbx:9223372036854775808≤x.natAbs) (h1y:-9223372036854775808≤y) (h2y:y < 9223372036854775808) (hx:zl x≤100000000000) (hy:zl y≤100000000000):Ax.Pure Tryz.prog G 215 [bgA x,smA y] (n8 (x*y)):=by
  have dx:=j5 (B:=BB) (by decide) x.natAbs
  have dy:=j5 (B:=BB) (by decide) y.natAbs
  have lx:(f7 BB x.natAbs).length≤100000000000:=hx
  have ly:(f7 BB y.natAbs).length≤100000000000:=hy
  have vx:=j8 (B:=BB) (by decide) x.natAbs
  have vy:=j8 (B:=BB) (by decide) y.natAbs
  have d1:=j5 (B:=BB) (by decide) (val BB (f7 BB x.natAbs)*val BB (f7 BB y.natAbs))
  have l1:(f7 BB (val BB (f7 BB x.natAbs)*val BB (f7 BB y.natAbs))).length≤4611686018427387904:=by
    rw [vx,vy]
    have:=a2s (x.natAbs:Nat) (y.natAbs:Nat)
    have e1:zl ((x.natAbs:Nat):Int)=zl x:=rfl
    have e2:zl ((y.natAbs:Nat):Int)=zl y:=rfl
    have e3:zl (((x.natAbs:Nat):Int)*((y.natAbs:Nat):Int))=(f7 BB (x.natAbs*y.natAbs)).length:=rfl
    omega
  refine r8 Tryz.func215 rfl Tryz.ntmps215 ?_
  intro w0 E0 hc
  repeat' (first|refine n7 hc Tryz.results215 ?_|(with_reducible first|exact trivial|refine j3 ?_ ?_|refine m8 (fun h=>?_)|refine c9 (b9k _ ?_ ?_) ?_ ?_|refine c9 (b4o _ _ ?_) ?_ ?_|refine c9 (a1d _ ?_ ?_) ?_ ?_|refine c9 (a01 _ ?_) ?_ ?_|refine c9 (a9z _ _ ?_ ?_ ?_ ?_) ?_ ?_|refine c9 (a4m _ _ ?_ ?_) ?_ ?_|fail)|((first|exact dx.lt|exact dy.lt|exact d1|exact l1|omega);done))
  all_goals exact b49 vx vy
theorem d5c (x y:Int) (hbx:9223372036854775808≤x.natAbs) (hby:9223372036854775808≤y.natAbs) (hx:zl x≤100000000000) (hy:zl y≤100000000000):Ax.Pure Tryz.prog G 215 [bgA x,bgA y] (n8 (x*y)):=by
  have dx:=j5 (B:=BB) (by decide) x.natAbs
  have dy:=j5 (B:=BB) (by decide) y.natAbs
  have lx:(f7 BB x.natAbs).length≤100000000000:=hx
  have ly:(f7 BB y.natAbs).length≤100000000000:=hy
  have vx:=j8 (B:=BB) (by decide) x.natAbs
  have vy:=j8 (B:=BB) (by decide) y.natAbs
  have d1:=j5 (B:=BB) (by decide) (val BB (f7 BB x.natAbs)*val BB (f7 BB y.natAbs))
  have l1:(f7 BB (val BB (f7 BB x.natAbs)*val BB (f7 BB y.natAbs))).length≤4611686018427387904:=by
    rw [vx,vy]
    have:=a2s (x.natAbs:Nat) (y.natAbs:Nat)
    have e1:zl ((x.natAbs:Nat):Int)=zl x:=rfl
    have e2:zl ((y.natAbs:Nat):Int)=zl y:=rfl
    have e3:zl (((x.natAbs:Nat):Int)*((y.natAbs:Nat):Int))=(f7 BB (x.natAbs*y.natAbs)).length:=rfl
    omega
  refine r8 Tryz.func215 rfl Tryz.ntmps215 ?_
  intro w0 E0 hc
  repeat' (first|refine n7 hc Tryz.results215 ?_|(with_reducible first|exact trivial|refine j3 ?_ ?_|refine m8 (fun h=>?_)|refine c9 (b9k _ ?_ ?_) ?_ ?_|refine c9 (b4o _ _ ?_) ?_ ?_|refine c9 (a1d _ ?_ ?_) ?_ ?_|refine c9 (a01 _ ?_) ?_ ?_|refine c9 (a9z _ _ ?_ ?_ ?_ ?_) ?_ ?_|refine c9 (a4m _ _ ?_ ?_) ?_ ?_|fail)|((first|exact dx.lt|exact dy.lt|exact d1|exact l1|omega);done))
  all_goals exact b49 vx vy
theorem c1u (x y:Int) (hx:zl x≤100000000000) (hy:zl y≤100000000000):Ax.Pure Tryz.prog G 215 [n8 x,n8 y] (n8 (x*y)):=
  a00 [] [n8 y] (fun a b=>a00 [smA x] [] (fun c d=>d5f x y a b c d hx hy) (fun c=>d5e x y a b c hx hy))
    (fun a=>a00 [bgA x] [] (fun c d=>d5d x y a c d hx hy) (fun c=>d5c x y a c hx hy))
theorem d4x (x y:Int) (h1x:-9223372036854775808≤x) (h2x:x < 9223372036854775808) (h1y:-9223372036854775808≤y) (h2y:y < 9223372036854775808) (hx:zl x≤10000000000) (hy:zl y≤10000000000):Ax.Pure Tryz.prog G 241 [smA x,smA y] (N (x - y).sign):=by
  have hs:=w8 (b7v x y (by omega) (by omega)) (args':=[smA x,smA y]) ⟨a8f h1x h2x,a8f h1y h2y,trivial⟩ (by simp [clV,AV.cl,clL,i7.cl])
  refine r8 Tryz.func241 rfl Tryz.ntmps241 ?_
  intro w0 E0 hc
  repeat' (first|refine n7 hc Tryz.results241 ?_|(with_reducible first|exact trivial|refine j3 ?_ ?_|refine m8 (fun h=>?_)|refine c9 (a29 _) ?_ ?_|fail)|(omega;done))
  · exact j6 (by rw [Int.sign_eq_neg_one_of_neg (by omega)])
  · exact j6 (by rw [Int.sign_eq_one_of_pos (by omega)])
  · exact j6 (by rw [show x - y=0 by omega];rfl)
theorem d4w (x y:Int) (h1x:-9223372036854775808≤x) (h2x:x < 9223372036854775808) (hby:9223372036854775808≤y.natAbs) (hx:zl x≤10000000000) (hy:zl y≤10000000000):Ax.Pure Tryz.prog G 241 [smA x,bgA y] (N (x - y).sign):=by
  have hs:=w8 (b7v x y (by omega) (by omega)) (args':=[smA x,bgA y]) ⟨a8f h1x h2x,b0l hby,trivial⟩ (by simp [clV,AV.cl,clL,i7.cl])
  refine r8 Tryz.func241 rfl Tryz.ntmps241 ?_
  intro w0 E0 hc
  repeat' (first|refine n7 hc Tryz.results241 ?_|(with_reducible first|exact trivial|refine j3 ?_ ?_|refine m8 (fun h=>?_)|refine c9 (a29 _) ?_ ?_|fail)|(omega;done))
  refine a2v a1u hs (a6v.refl _) ⟨by decide,by decide,trivial⟩ ?_
  repeat' (first|refine n7 hc Tryz.results241 ?_|(with_reducible first|exact trivial|refine j3 ?_ ?_|refine m8 (fun h=>?_)|refine c9 (a29 _) ?_ ?_|fail)|(omega;done))
theorem d4v (x y:Int) (hbx:9223372036854775808≤x.natAbs) (h1y:-9223372036854775808≤y) (h2y:y < 9223372036854775808) (hx:zl x≤10000000000) (hy:zl y≤10000000000):Ax.Pure Tryz.prog G 241 [bgA x,smA y] (N (x - y).sign):=by
  have hs:=w8 (b7v x y (by omega) (by omega)) (args':=[bgA x,smA y]) ⟨b0l hbx,a8f h1y h2y,trivial⟩ (by simp [clV,AV.cl,clL,i7.cl])
  refine r8 Tryz.func241 rfl Tryz.ntmps241 ?_
  intro w0 E0 hc
  repeat' (first|refine n7 hc Tryz.results241 ?_|(with_reducible first|exact trivial|refine j3 ?_ ?_|refine m8 (fun h=>?_)|refine c9 (a29 _) ?_ ?_|fail)|(omega;done))
  refine a2v a1u hs (a6v.refl _) ⟨by decide,by decide,trivial⟩ ?_
  repeat' (first|refine n7 hc Tryz.results241 ?_|(with_reducible first|exact trivial|refine j3 ?_ ?_|refine m8 (fun h=>?_)|refine c9 (a29 _) ?_ ?_|fail)|(omega;done))
theorem d4u (x y:Int) (hbx:9223372036854775808≤x.natAbs) (hby:9223372036854775808≤y.natAbs) (hx:zl x≤10000000000) (hy:zl y≤10000000000):Ax.Pure Tryz.prog G 241 [bgA x,bgA y] (N (x - y).sign):=by
  have hs:=w8 (b7v x y (by omega) (by omega)) (args':=[bgA x,bgA y]) ⟨b0l hbx,b0l hby,trivial⟩ (by simp [clV,AV.cl,clL,i7.cl])
  refine r8 Tryz.func241 rfl Tryz.ntmps241 ?_
  intro w0 E0 hc
  repeat' (first|refine n7 hc Tryz.results241 ?_|(with_reducible first|exact trivial|refine j3 ?_ ?_|refine m8 (fun h=>?_)|refine c9 (a29 _) ?_ ?_|fail)|(omega;done))
  refine a2v a1u hs (a6v.refl _) ⟨by decide,by decide,trivial⟩ ?_
  repeat' (first|refine n7 hc Tryz.results241 ?_|(with_reducible first|exact trivial|refine j3 ?_ ?_|refine m8 (fun h=>?_)|refine c9 (a29 _) ?_ ?_|fail)|(omega;done))
theorem c_Cmp (x y:Int) (hx:zl x≤10000000000) (hy:zl y≤10000000000):Ax.Pure Tryz.prog G 241 [n8 x,n8 y] (N (x - y).sign):=
  a00 [] [n8 y] (fun a b=>a00 [smA x] [] (fun c d=>d4x x y a b c d hx hy) (fun c=>d4w x y a b c hx hy))
    (fun a=>a00 [bgA x] [] (fun c d=>d4v x y a c d hx hy) (fun c=>d4u x y a c hx hy))
theorem c5v (x y:Int) (hp:0 < y) (h1x:-9223372036854775808≤x) (h2x:x < 9223372036854775808) (h1y:-9223372036854775808≤y) (h2y:y < 9223372036854775808) (hx:zl x≤10000000000) (hy:zl y≤10000000000):Ax.Pure Tryz.prog G 211 [smA x,smA y] (.tup [n8 (x / y),n8 (x%y)]):=by
  have dx:=j5 (B:=BB) (by decide) x.natAbs
  have dy:=j5 (B:=BB) (by decide) y.natAbs
  have lx:(f7 BB x.natAbs).length≤10000000000:=hx
  have ly:(f7 BB y.natAbs).length≤10000000000:=hy
  have vx:=j8 (B:=BB) (by decide) x.natAbs
  have vy:=j8 (B:=BB) (by decide) y.natAbs
  have hn0:f7 BB y.natAbs≠[]:=by rw [Ne,a2f (by decide)];omega
  have d1:=j5 (B:=BB) (by decide) (val BB (f7 BB x.natAbs) / val BB (f7 BB y.natAbs))
  have d2:=j5 (B:=BB) (by decide) (val BB (f7 BB x.natAbs)%val BB (f7 BB y.natAbs))
  refine r8 Tryz.func211 rfl Tryz.ntmps211 ?_
  intro w0 E0 hc
  have nd:∀m n k:Nat,n≤m→(f7 BB m).length≤k→(f7 BB n).length≤k:=fun m n k h1 h2=>Nat.le_trans (a13 (x:=(n:Int)) (y:=(m:Int)) (by simpa using h1)) h2
  have hq:x.natAbs / y.natAbs≤x.natAbs:=Nat.div_le_self _ _
  have hr:x.natAbs%y.natAbs≤x.natAbs:=Nat.mod_le _ _
  have lq:(f7 BB (val BB (f7 BB x.natAbs) / val BB (f7 BB y.natAbs))).length≤10000000000:=by rw [vx,vy];exact nd _ _ _ hq lx
  have lr:(f7 BB (val BB (f7 BB x.natAbs)%val BB (f7 BB y.natAbs))).length≤10000000000:=by rw [vx,vy];exact nd _ _ _ hr lx
  have c_AddL:∀R:Int,zl R≤100000000000→Ax.Pure Tryz.prog G 216 [n8 R,smA y] (n8 (R+y)):=fun R hR=>w8 (b9b R y hR (by omega)) ⟨Sub.refl _,a8f h1y h2y,trivial⟩ (by simp [clV,AV.cl,clL,i7.cl])
  have vq:=j8 (B:=BB) (by decide) (x.natAbs / y.natAbs)
  have vr:=j8 (B:=BB) (by decide) (x.natAbs%y.natAbs)
  have hA:zl (if decide (x < 0)=true then -((val BB (f7 BB (val BB (f7 BB x.natAbs) / val BB (f7 BB y.natAbs))):Nat):Int) else ((val BB (f7 BB (val BB (f7 BB x.natAbs) / val BB (f7 BB y.natAbs))):Nat):Int))≤10000000000:=by
    rw [vx,vy,vq]
    rw [vx,vy] at lq
    split
    · rw [a4y];exact lq
    · exact lq
  have hB:zl (if decide (x < 0)=true then -((val BB (f7 BB (val BB (f7 BB x.natAbs)%val BB (f7 BB y.natAbs))):Nat):Int) else ((val BB (f7 BB (val BB (f7 BB x.natAbs)%val BB (f7 BB y.natAbs))):Nat):Int))≤10000000000:=by
    rw [vx,vy,vr]
    rw [vx,vy] at lr
    split
    · rw [a4y];exact lr
    · exact lr
  have z1:zl 1≤10:=Nat.le_trans (a4z (by decide)) (by decide)
  have hdn:=a48 (x:=x) hp
  have hdp:=a64 (x:=x) hp
  repeat' (first|refine n7 hc Tryz.results211 ?_|(with_reducible first|exact trivial|refine j3 ?_ ?_|refine m8 (fun h=>?_)|refine c9 (a1d _ ?_ ?_) ?_ ?_|refine c9 (a01 _ ?_) ?_ ?_|refine c9 (b06 _ _ ?_ ?_ ?_ ?_ ?_) ?_ ?_|refine c9 (a4m _ _ ?_ ?_) ?_ ?_|refine c9 (a29 _) ?_ ?_|refine c9 (b4p _ ?_ ?_) ?_ ?_|refine c9 (b7v _ _ ?_ ?_) ?_ ?_|refine c9 (c_AddL _ ?_) ?_ ?_|fail)|((first|exact dx|exact dy|exact hn0|exact d1|exact d2|exact Nat.le_trans hA (by decide)|exact Nat.le_trans hB (by decide)|omega|(simp only [and_true];omega));done))
  · obtain ⟨t1,t2⟩:=c2m (x:=x) hp
    by_cases hx0:x < 0
    · rw [if_pos hx0] at t1 t2
      rw [t2] at h
      have e:=hdn hx0
      rw [if_neg (by omega)] at e
      have hm:=Nat.mod_lt x.natAbs (show 0 < y.natAbs by omega)
      rw [t1,t2,e.1,e.2]
      generalize x.natAbs / y.natAbs=q at *
      generalize x.natAbs%y.natAbs=r at *
      exact a0w (a2z (by rw [IntKind.wrap_i64,IntKind.wrap_i64];omega) (by omega) (by omega)) (a2z (by rw [IntKind.wrap_i64];omega) (by omega) (by omega))
    · rw [if_neg hx0] at t2;omega
  · obtain ⟨t1,t2⟩:=c2m (x:=x) hp
    by_cases hx0:x < 0
    · rw [if_pos hx0] at t1 t2
      rw [t2] at h
      have e:=hdn hx0
      rw [if_pos (by omega)] at e
      rw [t1,t2,e.1,e.2]
      generalize x.natAbs / y.natAbs=q at *
      generalize x.natAbs%y.natAbs=r at *
      exact a0w (a2z (by rw [IntKind.wrap_i64];omega) (by omega) (by omega)) (a2z (by omega) (by omega) (by omega))
    · rw [if_neg hx0] at t1 t2
      have e:=hdp (by omega)
      rw [t1,t2,e.1,e.2]
      generalize x.natAbs / y.natAbs=q at *
      generalize x.natAbs%y.natAbs=r at *
      exact a0w (a2z (by rw [IntKind.wrap_i64];omega) (by omega) (by omega)) (a2z rfl (by omega) (by omega))
  · simp only [vx,vy,vq,vr] at h ⊢
    have e:=a95 hp h
    exact a0w (a0f e.1) (a0f e.2)
  · simp only [vx,vy,vq,vr] at h ⊢
    have e:=b2a hp h
    exact a0w (a0f e.1) (a0f e.2)
theorem c5u (x y:Int) (hp:0 < y) (h1x:-9223372036854775808≤x) (h2x:x < 9223372036854775808) (hby:9223372036854775808≤y.natAbs) (hx:zl x≤10000000000) (hy:zl y≤10000000000):Ax.Pure Tryz.prog G 211 [smA x,bgA y] (.tup [n8 (x / y),n8 (x%y)]):=by
  have dx:=j5 (B:=BB) (by decide) x.natAbs
  have dy:=j5 (B:=BB) (by decide) y.natAbs
  have lx:(f7 BB x.natAbs).length≤10000000000:=hx
  have ly:(f7 BB y.natAbs).length≤10000000000:=hy
  have vx:=j8 (B:=BB) (by decide) x.natAbs
  have vy:=j8 (B:=BB) (by decide) y.natAbs
  have hn0:f7 BB y.natAbs≠[]:=by rw [Ne,a2f (by decide)];omega
  have d1:=j5 (B:=BB) (by decide) (val BB (f7 BB x.natAbs) / val BB (f7 BB y.natAbs))
  have d2:=j5 (B:=BB) (by decide) (val BB (f7 BB x.natAbs)%val BB (f7 BB y.natAbs))
  refine r8 Tryz.func211 rfl Tryz.ntmps211 ?_
  intro w0 E0 hc
  have nd:∀m n k:Nat,n≤m→(f7 BB m).length≤k→(f7 BB n).length≤k:=fun m n k h1 h2=>Nat.le_trans (a13 (x:=(n:Int)) (y:=(m:Int)) (by simpa using h1)) h2
  have hq:x.natAbs / y.natAbs≤x.natAbs:=Nat.div_le_self _ _
  have hr:x.natAbs%y.natAbs≤x.natAbs:=Nat.mod_le _ _
  have lq:(f7 BB (val BB (f7 BB x.natAbs) / val BB (f7 BB y.natAbs))).length≤10000000000:=by rw [vx,vy];exact nd _ _ _ hq lx
  have lr:(f7 BB (val BB (f7 BB x.natAbs)%val BB (f7 BB y.natAbs))).length≤10000000000:=by rw [vx,vy];exact nd _ _ _ hr lx
  have c_AddL:∀R:Int,zl R≤100000000000→Ax.Pure Tryz.prog G 216 [n8 R,bgA y] (n8 (R+y)):=fun R hR=>w8 (b9b R y hR (by omega)) ⟨Sub.refl _,b0l hby,trivial⟩ (by simp [clV,AV.cl,clL,i7.cl])
  have vq:=j8 (B:=BB) (by decide) (x.natAbs / y.natAbs)
  have vr:=j8 (B:=BB) (by decide) (x.natAbs%y.natAbs)
  have hA:zl (if decide (x < 0)=true then -((val BB (f7 BB (val BB (f7 BB x.natAbs) / val BB (f7 BB y.natAbs))):Nat):Int) else ((val BB (f7 BB (val BB (f7 BB x.natAbs) / val BB (f7 BB y.natAbs))):Nat):Int))≤10000000000:=by
    rw [vx,vy,vq]
    rw [vx,vy] at lq
    split
    · rw [a4y];exact lq
    · exact lq
  have hB:zl (if decide (x < 0)=true then -((val BB (f7 BB (val BB (f7 BB x.natAbs)%val BB (f7 BB y.natAbs))):Nat):Int) else ((val BB (f7 BB (val BB (f7 BB x.natAbs)%val BB (f7 BB y.natAbs))):Nat):Int))≤10000000000:=by
    rw [vx,vy,vr]
    rw [vx,vy] at lr
    split
    · rw [a4y];exact lr
    · exact lr
  have z1:zl 1≤10:=Nat.le_trans (a4z (by decide)) (by decide)
  have hdn:=a48 (x:=x) hp
  have hdp:=a64 (x:=x) hp
  repeat' (first|refine n7 hc Tryz.results211 ?_|(with_reducible first|exact trivial|refine j3 ?_ ?_|refine m8 (fun h=>?_)|refine c9 (a1d _ ?_ ?_) ?_ ?_|refine c9 (a01 _ ?_) ?_ ?_|refine c9 (b06 _ _ ?_ ?_ ?_ ?_ ?_) ?_ ?_|refine c9 (a4m _ _ ?_ ?_) ?_ ?_|refine c9 (a29 _) ?_ ?_|refine c9 (b4p _ ?_ ?_) ?_ ?_|refine c9 (b7v _ _ ?_ ?_) ?_ ?_|refine c9 (c_AddL _ ?_) ?_ ?_|fail)|((first|exact dx|exact dy|exact hn0|exact d1|exact d2|exact Nat.le_trans hA (by decide)|exact Nat.le_trans hB (by decide)|omega|(simp only [and_true];omega));done))
  · simp only [vx,vy,vq,vr] at h ⊢
    have e:=a95 hp h
    exact a0w (a0f e.1) (a0f e.2)
  · simp only [vx,vy,vq,vr] at h ⊢
    have e:=b2a hp h
    exact a0w (a0f e.1) (a0f e.2)
theorem c5t (x y:Int) (hp:0 < y) (hbx:9223372036854775808≤x.natAbs) (h1y:-9223372036854775808≤y) (h2y:y < 9223372036854775808) (hx:zl x≤10000000000) (hy:zl y≤10000000000):Ax.Pure Tryz.prog G 211 [bgA x,smA y] (.tup [n8 (x / y),n8 (x%y)]):=by
  have dx:=j5 (B:=BB) (by decide) x.natAbs
  have dy:=j5 (B:=BB) (by decide) y.natAbs
  have lx:(f7 BB x.natAbs).length≤10000000000:=hx
  have ly:(f7 BB y.natAbs).length≤10000000000:=hy
  have vx:=j8 (B:=BB) (by decide) x.natAbs
  have vy:=j8 (B:=BB) (by decide) y.natAbs
  have hn0:f7 BB y.natAbs≠[]:=by rw [Ne,a2f (by decide)];omega
  have d1:=j5 (B:=BB) (by decide) (val BB (f7 BB x.natAbs) / val BB (f7 BB y.natAbs))
  have d2:=j5 (B:=BB) (by decide) (val BB (f7 BB x.natAbs)%val BB (f7 BB y.natAbs))
  refine r8 Tryz.func211 rfl Tryz.ntmps211 ?_
  intro w0 E0 hc
  have nd:∀m n k:Nat,n≤m→(f7 BB m).length≤k→(f7 BB n).length≤k:=fun m n k h1 h2=>Nat.le_trans (a13 (x:=(n:Int)) (y:=(m:Int)) (by simpa using h1)) h2
  have hq:x.natAbs / y.natAbs≤x.natAbs:=Nat.div_le_self _ _
  have hr:x.natAbs%y.natAbs≤x.natAbs:=Nat.mod_le _ _
  have lq:(f7 BB (val BB (f7 BB x.natAbs) / val BB (f7 BB y.natAbs))).length≤10000000000:=by rw [vx,vy];exact nd _ _ _ hq lx
  have lr:(f7 BB (val BB (f7 BB x.natAbs)%val BB (f7 BB y.natAbs))).length≤10000000000:=by rw [vx,vy];exact nd _ _ _ hr lx
  have c_AddL:∀R:Int,zl R≤100000000000→Ax.Pure Tryz.prog G 216 [n8 R,smA y] (n8 (R+y)):=fun R hR=>w8 (b9b R y hR (by omega)) ⟨Sub.refl _,a8f h1y h2y,trivial⟩ (by simp [clV,AV.cl,clL,i7.cl])
  have vq:=j8 (B:=BB) (by decide) (x.natAbs / y.natAbs)
  have vr:=j8 (B:=BB) (by decide) (x.natAbs%y.natAbs)
  have hA:zl (if decide (x < 0)=true then -((val BB (f7 BB (val BB (f7 BB x.natAbs) / val BB (f7 BB y.natAbs))):Nat):Int) else ((val BB (f7 BB (val BB (f7 BB x.natAbs) / val BB (f7 BB y.natAbs))):Nat):Int))≤10000000000:=by
    rw [vx,vy,vq]
    rw [vx,vy] at lq
    split
    · rw [a4y];exact lq
    · exact lq
  have hB:zl (if decide (x < 0)=true then -((val BB (f7 BB (val BB (f7 BB x.natAbs)%val BB (f7 BB y.natAbs))):Nat):Int) else ((val BB (f7 BB (val BB (f7 BB x.natAbs)%val BB (f7 BB y.natAbs))):Nat):Int))≤10000000000:=by
    rw [vx,vy,vr]
    rw [vx,vy] at lr
    split
    · rw [a4y];exact lr
    · exact lr
  have z1:zl 1≤10:=Nat.le_trans (a4z (by decide)) (by decide)
  have hdn:=a48 (x:=x) hp
  have hdp:=a64 (x:=x) hp
  repeat' (first|refine n7 hc Tryz.results211 ?_|(with_reducible first|exact trivial|refine j3 ?_ ?_|refine m8 (fun h=>?_)|refine c9 (a1d _ ?_ ?_) ?_ ?_|refine c9 (a01 _ ?_) ?_ ?_|refine c9 (b06 _ _ ?_ ?_ ?_ ?_ ?_) ?_ ?_|refine c9 (a4m _ _ ?_ ?_) ?_ ?_|refine c9 (a29 _) ?_ ?_|refine c9 (b4p _ ?_ ?_) ?_ ?_|refine c9 (b7v _ _ ?_ ?_) ?_ ?_|refine c9 (c_AddL _ ?_) ?_ ?_|fail)|((first|exact dx|exact dy|exact hn0|exact d1|exact d2|exact Nat.le_trans hA (by decide)|exact Nat.le_trans hB (by decide)|omega|(simp only [and_true];omega));done))
  · simp only [vx,vy,vq,vr] at h ⊢
    have e:=a95 hp h
    exact a0w (a0f e.1) (a0f e.2)
  · simp only [vx,vy,vq,vr] at h ⊢
    have e:=b2a hp h
    exact a0w (a0f e.1) (a0f e.2)
theorem c5s (x y:Int) (hp:0 < y) (hbx:9223372036854775808≤x.natAbs) (hby:9223372036854775808≤y.natAbs) (hx:zl x≤10000000000) (hy:zl y≤10000000000):Ax.Pure Tryz.prog G 211 [bgA x,bgA y] (.tup [n8 (x / y),n8 (x%y)]):=by
  have dx:=j5 (B:=BB) (by decide) x.natAbs
  have dy:=j5 (B:=BB) (by decide) y.natAbs
  have lx:(f7 BB x.natAbs).length≤10000000000:=hx
  have ly:(f7 BB y.natAbs).length≤10000000000:=hy
  have vx:=j8 (B:=BB) (by decide) x.natAbs
  have vy:=j8 (B:=BB) (by decide) y.natAbs
  have hn0:f7 BB y.natAbs≠[]:=by rw [Ne,a2f (by decide)];omega
  have d1:=j5 (B:=BB) (by decide) (val BB (f7 BB x.natAbs) / val BB (f7 BB y.natAbs))
  have d2:=j5 (B:=BB) (by decide) (val BB (f7 BB x.natAbs)%val BB (f7 BB y.natAbs))
  refine r8 Tryz.func211 rfl Tryz.ntmps211 ?_
  intro w0 E0 hc
  have nd:∀m n k:Nat,n≤m→(f7 BB m).length≤k→(f7 BB n).length≤k:=fun m n k h1 h2=>Nat.le_trans (a13 (x:=(n:Int)) (y:=(m:Int)) (by simpa using h1)) h2
  have hq:x.natAbs / y.natAbs≤x.natAbs:=Nat.div_le_self _ _
  have hr:x.natAbs%y.natAbs≤x.natAbs:=Nat.mod_le _ _
  have lq:(f7 BB (val BB (f7 BB x.natAbs) / val BB (f7 BB y.natAbs))).length≤10000000000:=by rw [vx,vy];exact nd _ _ _ hq lx
  have lr:(f7 BB (val BB (f7 BB x.natAbs)%val BB (f7 BB y.natAbs))).length≤10000000000:=by rw [vx,vy];exact nd _ _ _ hr lx
  have c_AddL:∀R:Int,zl R≤100000000000→Ax.Pure Tryz.prog G 216 [n8 R,bgA y] (n8 (R+y)):=fun R hR=>w8 (b9b R y hR (by omega)) ⟨Sub.refl _,b0l hby,trivial⟩ (by simp [clV,AV.cl,clL,i7.cl])
  have vq:=j8 (B:=BB) (by decide) (x.natAbs / y.natAbs)
  have vr:=j8 (B:=BB) (by decide) (x.natAbs%y.natAbs)
  have hA:zl (if decide (x < 0)=true then -((val BB (f7 BB (val BB (f7 BB x.natAbs) / val BB (f7 BB y.natAbs))):Nat):Int) else ((val BB (f7 BB (val BB (f7 BB x.natAbs) / val BB (f7 BB y.natAbs))):Nat):Int))≤10000000000:=by
    rw [vx,vy,vq]
    rw [vx,vy] at lq
    split
    · rw [a4y];exact lq
    · exact lq
  have hB:zl (if decide (x < 0)=true then -((val BB (f7 BB (val BB (f7 BB x.natAbs)%val BB (f7 BB y.natAbs))):Nat):Int) else ((val BB (f7 BB (val BB (f7 BB x.natAbs)%val BB (f7 BB y.natAbs))):Nat):Int))≤10000000000:=by
    rw [vx,vy,vr]
    rw [vx,vy] at lr
    split
    · rw [a4y];exact lr
    · exact lr
  have z1:zl 1≤10:=Nat.le_trans (a4z (by decide)) (by decide)
  have hdn:=a48 (x:=x) hp
  have hdp:=a64 (x:=x) hp
  repeat' (first|refine n7 hc Tryz.results211 ?_|(with_reducible first|exact trivial|refine j3 ?_ ?_|refine m8 (fun h=>?_)|refine c9 (a1d _ ?_ ?_) ?_ ?_|refine c9 (a01 _ ?_) ?_ ?_|refine c9 (b06 _ _ ?_ ?_ ?_ ?_ ?_) ?_ ?_|refine c9 (a4m _ _ ?_ ?_) ?_ ?_|refine c9 (a29 _) ?_ ?_|refine c9 (b4p _ ?_ ?_) ?_ ?_|refine c9 (b7v _ _ ?_ ?_) ?_ ?_|refine c9 (c_AddL _ ?_) ?_ ?_|fail)|((first|exact dx|exact dy|exact hn0|exact d1|exact d2|exact Nat.le_trans hA (by decide)|exact Nat.le_trans hB (by decide)|omega|(simp only [and_true];omega));done))
  · simp only [vx,vy,vq,vr] at h ⊢
    have e:=a95 hp h
    exact a0w (a0f e.1) (a0f e.2)
  · simp only [vx,vy,vq,vr] at h ⊢
    have e:=b2a hp h
    exact a0w (a0f e.1) (a0f e.2)
theorem b9e (x y:Int) (hp:0 < y) (hx:zl x≤10000000000) (hy:zl y≤10000000000):Ax.Pure Tryz.prog G 211 [n8 x,n8 y] (.tup [n8 (x / y),n8 (x%y)]):=
  a00 [] [n8 y] (fun a b=>a00 [smA x] [] (fun c d=>c5v x y hp a b c d hx hy) (fun c=>c5u x y hp a b c hx hy))
    (fun a=>a00 [bgA x] [] (fun c d=>c5t x y hp a c d hx hy) (fun c=>c5s x y hp a c hx hy))
end Go.Proofs
end
section
set_option maxHeartbeats 4000000
set_option maxRecDepth 100000
namespace Go.Proofs
open Go.Ax
theorem c50 (x y:Int) (h0:y≠0) (hx:zl x≤10000000000) (hy:zl y≤10000000000):Ax.Pure Tryz.prog G 222 [n8 x,n8 y] (n8 (if y < 0 then -x / -y else x / y)):=by
  have hx':zl (-x)≤10000000000:=by rw [a4y];exact hx
  have hy':zl (-y)≤10000000000:=by rw [a4y];exact hy
  have hs:=@b5m y
  refine r8 Tryz.func222 rfl Tryz.ntmps222 ?_
  intro w0 E0 hc
  repeat' (first|refine n7 hc Tryz.results222 ?_|(with_reducible first|exact trivial|refine j3 ?_ ?_|refine m8 (fun h=>?_)|refine c9 (a29 _) ?_ ?_|refine c9 (c1v _ ?_) ?_ ?_|refine c9 (b9e _ _ ?_ ?_ ?_) ?_ ?_|fail)|((first|exact hx'|exact hy'|omega);done))
  · exact a0f (by rw [if_pos (by omega)])
  · exact a0f (by rw [if_neg (by omega)])
theorem d5b (x y:Int) (hx:zl x≤10000000000) (hy:zl y≤10000000000):Ax.Pure Tryz.prog G 118 [n8 x,n8 y] (n8 (Int.gcd x y)):=by
  have hx1:zl (x.natAbs:Int)≤10000000000:=hx
  have hy1:zl (y.natAbs:Int)≤10000000000:=hy
  refine r8 Tryz.func118 rfl Tryz.ntmps118 ?_
  intro w0 E0 hc
  repeat' (first|refine n7 hc Tryz.results118 ?_|(with_reducible first|exact trivial|refine j3 ?_ ?_|refine m8 (fun h=>?_)|refine c9 (d4m _ ?_) ?_ ?_|fail)|(omega;done))
  refine m9 (α:=Nat×Nat) (fun p=>n5 [(2,.one (.ptr 0 2 0 0)),(3,.one (.ptr 1 2 0 0)),(4,.one (.ptr 2 2 0 0))] [(0,⟨2,1,fun _=> [.int p.1],false⟩),(1,⟨2,1,fun _=> [.int p.2],false⟩),(2,⟨2,1,fun _=> [.v (.int .i64 0),.v (.slice none 0 0)],false⟩)] 3)
    (fun p=>zl p.1≤10000000000∧zl p.2≤10000000000∧Nat.gcd p.1 p.2=Int.gcd x y) (fun p=>p.2) (x.natAbs,y.natAbs) ⟨hx1,hy1,rfl⟩ ?_ ?_
  · refine zW1 ?_ <;> repeat' (with_reducible first|exact trivial|refine j3 ?_ ?_|refine t7 (fun i hi=>?_))
  · rintro ⟨a,b⟩ ⟨ha,hb,hg⟩
    dsimp only at ha hb hg
    repeat' (first|refine n7 hc Tryz.results118 ?_|(with_reducible first|exact trivial|refine j3 ?_ ?_|refine m8 (fun h=>?_)|refine c9 (a29 _) ?_ ?_|refine c9 (b9e _ _ ?_ ?_ ?_) ?_ ?_|fail)|(omega;done))
    · have hb0:¬(b:Int)=0:=fun e=>h (a9m.2 e)
      omega
    · have hb0:¬(b:Int)=0:=fun e=>h (a9m.2 e)
      have hlt:=Nat.mod_lt a (show 0 < b by omega)
      refine ⟨(b,a%b),⟨hb,Nat.le_trans (a13 (by simp only [Int.natAbs_natCast];omega)) hb,?_⟩,hlt,?_⟩
      · rw [←hg]
        show Nat.gcd b (a%b)=_
        rw [Nat.gcd_comm b,←Nat.gcd_rec,Nat.gcd_comm]
      · refine zW1 ?_ <;> repeat' (with_reducible first|exact trivial|refine j3 ?_ ?_|refine t7 (fun i hi=>?_))
        all_goals exact u4.refl _
    · have hb0:b=0:=by have:=a9m.1 h;omega
      subst hb0
      rw [Nat.gcd_zero_right] at hg
      exact a0f (by rw [hg])
theorem d6j (z:Int) (k:Nat):z ^ k=(if k%2=1 then z else 1)*(z*z) ^ (k / 2):=by
  have h:=Nat.div_add_mod k 2
  conv=>lhs;rw [←h,Int.pow_add,Int.pow_mul]
  have e:z ^ 2=z*z:=by rw [Int.pow_succ,Int.pow_succ,Int.pow_zero,Int.one_mul]
  rw [e]
  split
  · rename_i h1;rw [h1,Int.pow_one,Int.mul_comm]
  · have:k%2=0:=by omega
    rw [this,Int.pow_zero,Int.mul_one,Int.one_mul]
theorem d91 (z:Int) (k:Nat) (hk:k*zl z≤1000000000) (hk2:k≤1000000000):Ax.Pure Tryz.prog G 127 [n8 z,N k] (n8 (z ^ k)):=by
  have z1:zl 1≤1:=a4z (by decide)
  refine r8 Tryz.func127 rfl Tryz.ntmps127 ?_
  intro w0 E0 hc
  repeat' (first|refine n7 hc Tryz.results127 ?_|(with_reducible first|exact trivial|refine j3 ?_ ?_|refine m8 (fun h=>?_)|refine c9 (b4p _ ?_ ?_) ?_ ?_|fail)|(omega;done))
  refine m9 (α:=Int×Int×Nat) (fun p=>n5 [(1,N p.2.2),(2,.one (.ptr 0 2 0 0)),(4,.one (.ptr 1 2 0 0)),(5,.one (.ptr 2 2 0 0))] [(0,⟨2,1,fun _=> [.int p.1],false⟩),(1,⟨2,1,fun _=> [.v (.int .i64 0),.v (.slice none 0 0)],false⟩),(2,⟨2,1,fun _=> [.int p.2.1],false⟩)] 3)
    (fun p=>p.2.2≤1000000000∧zl p.2.1+p.2.2*zl p.1≤1000000001∧p.2.1*p.1 ^ p.2.2=z ^ k) (fun p=>p.2.2) (z,1,k) ⟨hk2,by dsimp only;omega,by simp⟩ ?_ ?_
  · refine zW1 ?_ <;> repeat' (with_reducible first|exact trivial|refine j3 ?_ ?_|refine t7 (fun i hi=>?_))
  · rintro ⟨a,o,j⟩ ⟨h1,h2,h3⟩
    dsimp only at h1 h2 h3
    have hp:=d6j a j
    have ao:=d7z j
    have so:=d9p j
    have hza:0 < j→zl a≤1000000001:=fun h=>by
      have:=Nat.le_mul_of_pos_left (zl a) h;omega
    have hzo:zl o≤1000000001:=by omega
    have m1:=a2s o a
    have m2:=a2s a a
    repeat' (first|refine n7 hc Tryz.results127 ?_|(with_reducible first|exact trivial|refine j3 ?_ ?_|refine m8 (fun h=>?_)|refine c9 (c1u _ _ ?_ ?_) ?_ ?_|fail)|((first|omega|(have:=hza (by omega);omega));done))
    · rename_i g1 g2
      rw [ao] at g2
      have hj:j=2*(j / 2)+1:=by omega
      rw [if_pos (by omega)] at hp
      refine ⟨(a*a,o*a,j / 2),⟨by dsimp only;omega,?_,?_⟩,by dsimp only;omega,?_⟩
      · dsimp only
        have h5:=Nat.mul_le_mul_left (j / 2) m2
        have h6:j*zl a=2*((j / 2)*zl a)+zl a:=by
          conv=>lhs;rw [hj,Nat.add_mul,Nat.one_mul,Nat.mul_assoc]
        rw [Nat.mul_add] at h5
        omega
      · dsimp only
        rw [←h3,hp,Int.mul_assoc]
      · refine zW1 ?_ <;> repeat' (with_reducible first|exact trivial|refine j3 ?_ ?_|refine t7 (fun i hi=>?_))
        all_goals first|exact so|rfl
    · rename_i g1 g2
      rw [ao] at g2
      obtain rfl:j=1:=by omega
      refine ⟨(a,o*a,0),⟨by dsimp only;omega,?_,?_⟩,by dsimp only;omega,?_⟩
      · dsimp only;omega
      · dsimp only
        rw [←h3,Int.pow_zero,Int.mul_one,Int.pow_one]
      · refine zW1 ?_ <;> repeat' (with_reducible first|exact trivial|refine j3 ?_ ?_|refine t7 (fun i hi=>?_))
        all_goals first|exact so|rfl
    · rename_i g1 g2
      rw [ao] at g2
      have hj:j=2*(j / 2):=by omega
      rw [if_neg (by omega),Int.one_mul] at hp
      refine ⟨(a*a,o,j / 2),⟨by dsimp only;omega,?_,?_⟩,by dsimp only;omega,?_⟩
      · dsimp only
        have h5:=Nat.mul_le_mul_left (j / 2) m2
        have h6:j*zl a=2*((j / 2)*zl a):=by
          conv=>lhs;rw [hj,Nat.mul_assoc]
        rw [Nat.mul_add] at h5
        omega
      · dsimp only
        rw [←h3,hp]
      · refine zW1 ?_ <;> repeat' (with_reducible first|exact trivial|refine j3 ?_ ?_|refine t7 (fun i hi=>?_))
        all_goals first|exact so|rfl
    · obtain rfl:j=0:=by omega
      rw [Int.pow_zero,Int.mul_one] at h3
      exact a0f h3
end Go.Proofs
end
section
set_option maxHeartbeats 4000000
set_option maxRecDepth 100000
namespace Go.Proofs
open Go.Ax
theorem c1t (q:Rat):Ax.Pure Tryz.prog G 238 [a0h q] (Bo (decide (q.den=1))):=by
  refine r8 Tryz.func238 rfl Tryz.ntmps238 ?_
  intro w0 E0 hc
  repeat' (first|(with_reducible first|refine j0 ?_|refine zwk ?_|refine i6 ?_|refine zgo ?_|refine zbn ?_|refine zge Tryz.results238 ?_|refine Sub.refl _|refine f9|refine w6 (out':=?_) ?_|refine u9 (y:=?_) ?_|refine w5 (eo':=?_) ?_)|(with_reducible refine zrs [1] hc ?_ ?_;focus (with_unfolding_all rfl))|(with_reducible refine zrm [1] hc mixed ?_ ?_;focus (with_unfolding_all rfl))|(with_reducible refine f6 ?_ ?_;focus (first|decide|omega))|(with_reducible first|refine zg2 ?_ ?_|refine zbo ?_|refine zg3 ?_ (fun h=>?_) (fun h=>?_)|refine zg4 (fun h=>?_) (fun h=>?_)|fail))
  refine m7 (st':=n5 [(1,.one (.ptr 0 4 0 0))] [(0,⟨4,1,fun _=> [.int q.num,.int q.den],false⟩)] 1) ?_ ?_
  · refine zW1 ?_ <;> repeat' (with_reducible first|exact trivial|refine j3 ?_ ?_|refine t7 (fun i hi=>?_))
    all_goals exact b6b (u4.refl _)
  refine b83 0 [.int q.num] [] q.den rfl rfl (fun h1 h2=>?_) (fun h1=>?_)
  · repeat' (first|refine n7 hc Tryz.results238 ?_|(with_reducible first|exact trivial|refine j3 ?_ ?_|refine m8 (fun h=>?_)|fail)|(omega;done))
    refine j6 ?_
    by_cases h:q.den=1
    · rw [h];rfl
    · have h':¬(q.den:Int)=1:=by omega
      simp [h,h']
  · repeat' (first|refine n7 hc Tryz.results238 ?_|(with_reducible first|exact trivial|refine j3 ?_ ?_|refine m8 (fun h=>?_)|fail)|(omega;done))
    all_goals exact j6 (by rw [decide_eq_false (by omega)])
theorem b4s (z:Int):Ax.Pure Tryz.prog G 203 [n8 z] (a0h (z:Rat)):=by
  refine r8 Tryz.func203 rfl Tryz.ntmps203 ?_
  intro w0 E0 hc
  repeat' (first|refine n7 hc Tryz.results203 ?_|(with_reducible first|exact trivial|refine j3 ?_ ?_|refine m8 (fun h=>?_)|refine c9 (b4p _ ?_ ?_) ?_ ?_|fail)|(omega;done))
  all_goals exact b2j (a3o rfl rfl (u4.refl _))
theorem c3a (n d:Int) (hd:d≠0) (hn:zl n≤10000000000) (hd':zl d≤10000000000):Ax.Pure Tryz.prog G 131 [n8 n,n8 d] (a0h (Rat.divInt n d)):=by
  have hn1:zl (-n)≤10000000000:=by rw [a4y];exact hn
  have hd1:zl (-d)≤10000000000:=by rw [a4y];exact hd'
  have hs:=@b5m d
  refine r8 Tryz.func131 rfl Tryz.ntmps131 ?_
  intro w0 E0 hc
  repeat' (first|(with_reducible first|refine j0 (x:=.region _ _ _) ?_|refine j0 (x:=.seq _ _) ?_|refine j0 (x:=.block _ _) ?_|refine j0 (x:=.loop _) ?_|refine j0 (x:=.skip) ?_|refine zr0 hc ?_|refine zm0 hc ?_|refine i6 ?_|refine zgo ?_|refine zbn ?_|refine zge Tryz.results131 ?_|refine Sub.refl _|refine f9|refine w6 (out':=?_) ?_|refine u9 (y:=?_) ?_|refine w5 (eo':=?_) ?_)|(with_reducible refine f6 ?_ ?_;focus (first|decide|omega))|(with_reducible first|refine zg2 ?_ ?_|refine c9 (a29 _) ?_ ?_|refine zbo ?_|refine zg3 ?_ (fun h=>?_) (fun h=>?_)|refine zg4 (fun h=>?_) (fun h=>?_)|fail)|(omega;done))
  refine a4j (α:=Int×Int) (fun p=>n5 [(2,.one (.ptr 0 2 0 0)),(3,.one (.ptr 1 2 0 0)),(4,.one (.ptr 2 4 0 0))] [(0,⟨2,1,fun _=> [.int p.1],false⟩),(1,⟨2,1,fun _=> [.int p.2],false⟩),(2,⟨4,1,fun _=> [.v (.int .i64 0),.v (.slice none 0 0),.v (.int .i64 0),.v (.slice none 0 0)],false⟩)] 3)
    (fun p=>0 < p.2∧zl p.1≤10000000000∧zl p.2≤10000000000∧Rat.divInt p.1 p.2=Rat.divInt n d) ?_ ?_
  · repeat' (first|refine n7 hc Tryz.results131 ?_|(with_reducible first|exact trivial|refine j3 ?_ ?_|refine m8 (fun h=>?_)|refine c9 (c1v _ ?_) ?_ ?_|fail)|(omega;done))
    · refine ⟨(-n,-d),⟨by dsimp only;omega,hn1,hd1,Rat.neg_divInt_neg n d⟩,?_⟩
      refine zW1 ?_ <;> repeat' (with_reducible first|exact trivial|refine j3 ?_ ?_|refine t7 (fun i hi=>?_))
    · refine ⟨(n,d),⟨by dsimp only;omega,hn,hd',rfl⟩,?_⟩
      refine zW1 ?_ <;> repeat' (with_reducible first|exact trivial|refine j3 ?_ ?_|refine t7 (fun i hi=>?_))
  rintro ⟨n',d'⟩ ⟨h1,h2,h3,h4⟩
  dsimp only at h1 h2 h3 h4
  rw [←h4]
  have hg:=d8n (n:=n') h1
  have hzg:=e2e n' h1
  have m1:=c6r (n:=n') h1
  have m2:=c6q (n:=n') h1
  have z0:=d9v
  refine b83 1 [] [] d' rfl rfl (fun b1 b2=>?_) (fun b1=>?_)
  · have c_G:=w8 (d5b n' d' h2 h3) (args':=[n8 n',smA d']) ⟨Sub.refl _,a8f b1 b2,trivial⟩ (by simp [clV,AV.cl,clL,i7.cl])
    have c_Q:=w8 (c50 d' (Int.gcd n' d') (by omega) h3 (by omega)) (args':=[smA d',n8 (Int.gcd n' d')]) ⟨a8f b1 b2,Sub.refl _,trivial⟩ (by simp [clV,AV.cl,clL,i7.cl])
    repeat' (first|refine n7 hc Tryz.results131 ?_|(with_reducible first|exact trivial|refine j3 ?_ ?_|refine m8 (fun h=>?_)|refine c9 c_G ?_ ?_|refine c9 c_Q ?_ ?_|refine c9 (c50 _ _ ?_ ?_ ?_) ?_ ?_|fail)|(omega;done))
    · obtain rfl:d'=1:=by assumption
      obtain ⟨e1,e2⟩:=c6a n'
      exact b2j ((c9l (c0m (by decide) (by decide) (u4.refl _))).trans (a3o e1.symm (by rw [e2];rfl) (u4.refl _)))
    · rw [if_neg (by omega),if_neg (by omega)]
      exact b2j (a3o m1 m2 (u4.refl _))
  · have c_G:=w8 (d5b n' d' h2 h3) (args':=[n8 n',bgA d']) ⟨Sub.refl _,b0l b1,trivial⟩ (by simp [clV,AV.cl,clL,i7.cl])
    have c_Q:=w8 (c50 d' (Int.gcd n' d') (by omega) h3 (by omega)) (args':=[bgA d',n8 (Int.gcd n' d')]) ⟨b0l b1,Sub.refl _,trivial⟩ (by simp [clV,AV.cl,clL,i7.cl])
    repeat' (first|refine n7 hc Tryz.results131 ?_|(with_reducible first|exact trivial|refine j3 ?_ ?_|refine m8 (fun h=>?_)|refine c9 c_G ?_ ?_|refine c9 c_Q ?_ ?_|refine c9 (c50 _ _ ?_ ?_ ?_) ?_ ?_|fail)|(omega;done))
    rw [if_neg (by omega),if_neg (by omega)]
    exact b2j (a3o m1 m2 (u4.refl _))
theorem a4u {x y:Rat} (h:x=y):Ax.Sub (a0h x) (a0h y):=h ▸ Sub.refl _
theorem c_F (z:Int) (h1:-9223372036854775808≤z) (h2:z < 9223372036854775808):Ax.Pure Tryz.prog G 186 [N z] (a0h (z:Rat)):=by
  refine r8 Tryz.func186 rfl Tryz.ntmps186 ?_
  intro w0 E0 hc
  repeat' (first|refine n7 hc Tryz.results186 ?_|(with_reducible first|exact trivial|refine j3 ?_ ?_|refine m8 (fun h=>?_)|refine c9 (b4p _ ?_ ?_) ?_ ?_|refine c9 (b4s _) ?_ ?_|fail)|(omega;done))
theorem a7m (q:Rat):Ax.Pure Tryz.prog G 164 [a0h q] (N q.num.sign):=by
  refine r8 Tryz.func164 rfl Tryz.ntmps164 ?_
  intro w0 E0 hc
  repeat' (first|refine n7 hc Tryz.results164 ?_|(with_reducible first|exact trivial|refine j3 ?_ ?_|refine m8 (fun h=>?_)|refine c9 (a29 _) ?_ ?_|fail)|(omega;done))
theorem d5a (q:Rat) (hq:rz q≤1000000000):Ax.Pure Tryz.prog G 230 [a0h q] (a0h (-q)):=by
  have h1:=a4t q
  refine r8 Tryz.func230 rfl Tryz.ntmps230 ?_
  intro w0 E0 hc
  repeat' (first|refine n7 hc Tryz.results230 ?_|(with_reducible first|exact trivial|refine j3 ?_ ?_|refine m8 (fun h=>?_)|refine c9 (c1v _ ?_) ?_ ?_|fail)|(omega;done))
  all_goals exact b2j (a3o rfl rfl (u4.refl _))
theorem a6z (a b:Rat) (ha:rz a≤1000000000) (hb:rz b≤1000000000):Ax.Pure Tryz.prog G 185 [a0h a,a0h b] (a0h (a*b)):=by
  have a1:=a4t a
  have a2:=a5e a
  have b1:=a4t b
  have b2:=a5e b
  have m1:=a2s a.num b.num
  have m2:=a2s a.den b.den
  have hd:(a.den:Int)*(b.den:Int)≠0:=by
    rw [←Int.natCast_mul]
    have:=Nat.mul_ne_zero a.den_nz b.den_nz
    omega
  refine r8 Tryz.func185 rfl Tryz.ntmps185 ?_
  intro w0 E0 hc
  repeat' (first|refine n7 hc Tryz.results185 ?_|(with_reducible first|exact trivial|refine j3 ?_ ?_|refine m8 (fun h=>?_)|refine c9 (c1u _ _ ?_ ?_) ?_ ?_|refine c9 (c3a _ _ ?_ ?_ ?_) ?_ ?_|fail)|((first|exact hd|omega);done))
  all_goals exact a4u (by rw [Rat.mul_def',←Int.natCast_mul,Rat.divInt_ofNat])
theorem b6i (a b:Rat) (ha:rz a≤1000000000) (hb:rz b≤1000000000):Ax.Pure Tryz.prog G 189 [a0h a,a0h b] (a0h (a+b)):=by
  have a1:=a4t a
  have a2:=a5e a
  have b1:=a4t b
  have b2:=a5e b
  have m1:=a2s a.num b.den
  have m2:=a2s a.den b.den
  have m3:=a2s b.num a.den
  have m4:=b7q (a.num*b.den) (b.num*a.den)
  have hd:(a.den:Int)*(b.den:Int)≠0:=by
    rw [←Int.natCast_mul]
    have:=Nat.mul_ne_zero a.den_nz b.den_nz
    omega
  refine r8 Tryz.func189 rfl Tryz.ntmps189 ?_
  intro w0 E0 hc
  repeat' (first|refine n7 hc Tryz.results189 ?_|(with_reducible first|exact trivial|refine j3 ?_ ?_|refine m8 (fun h=>?_)|refine c9 (c1t _) ?_ ?_|refine c9 (b9b _ _ ?_ ?_) ?_ ?_|refine c9 (b4s _) ?_ ?_|refine c9 (c1u _ _ ?_ ?_) ?_ ?_|refine c9 (c3a _ _ ?_ ?_ ?_) ?_ ?_|fail)|((first|exact hd|omega);done))
  · exact a4u (by rw [Rat.intCast_add,b9q (by assumption),b9q h])
  · exact a4u (by rw [Rat.add_def',←Int.natCast_mul a.den,Rat.divInt_ofNat])
  · exact a4u (by rw [Rat.add_def',←Int.natCast_mul a.den,Rat.divInt_ofNat])
theorem b9f (a b:Rat) (ha:rz a≤1000000000) (hb:rz b≤1000000000):Ax.Pure Tryz.prog G 149 [a0h a,a0h b] (a0h (a - b)):=by
  have b1:=d6z b
  refine r8 Tryz.func149 rfl Tryz.ntmps149 ?_
  intro w0 E0 hc
  repeat' (first|refine n7 hc Tryz.results149 ?_|(with_reducible first|exact trivial|refine j3 ?_ ?_|refine m8 (fun h=>?_)|refine c9 (d5a _ ?_) ?_ ?_|refine c9 (b6i _ _ ?_ ?_) ?_ ?_|fail)|(omega;done))
  all_goals exact a4u (Rat.sub_eq_add_neg a b).symm
theorem d49 (a:Rat) (h0:a≠0) (ha:rz a≤1000000000):Ax.Pure Tryz.prog G 190 [a0h a] (a0h a⁻¹):=by
  have a1:=a4t a
  have a2:=a5e a
  have hn:a.num≠0:=fun e=>h0 (Rat.num_eq_zero.1 e)
  refine r8 Tryz.func190 rfl Tryz.ntmps190 ?_
  intro w0 E0 hc
  repeat' (first|refine n7 hc Tryz.results190 ?_|(with_reducible first|exact trivial|refine j3 ?_ ?_|refine m8 (fun h=>?_)|refine c9 (c3a _ _ ?_ ?_ ?_) ?_ ?_|fail)|((first|exact hn|omega);done))
  all_goals exact a4u (Rat.inv_def a).symm
theorem b3m (a b:Rat) (h0:b≠0) (ha:rz a≤900000000) (hb:rz b≤900000000):Ax.Pure Tryz.prog G 170 [a0h a,a0h b] (a0h (a / b)):=by
  have b1:=d6y b
  refine r8 Tryz.func170 rfl Tryz.ntmps170 ?_
  intro w0 E0 hc
  repeat' (first|refine n7 hc Tryz.results170 ?_|(with_reducible first|exact trivial|refine j3 ?_ ?_|refine m8 (fun h=>?_)|refine c9 (d49 _ ?_ ?_) ?_ ?_|refine c9 (a6z _ _ ?_ ?_) ?_ ?_|fail)|((first|exact h0|omega);done))
  all_goals exact a4u (Rat.div_def a b).symm
theorem d48 (a b:Rat) (ha:rz a≤1000000000) (hb:rz b≤1000000000):Ax.Pure Tryz.prog G 202 [a0h a,a0h b] (N (b3s a b)):=by
  have a1:=a4t a
  have a2:=a5e a
  have b1:=a4t b
  have b2:=a5e b
  have m1:=a2s a.num b.den
  have m3:=a2s b.num a.den
  refine r8 Tryz.func202 rfl Tryz.ntmps202 ?_
  intro w0 E0 hc
  repeat' (first|refine n7 hc Tryz.results202 ?_|(with_reducible first|exact trivial|refine j3 ?_ ?_|refine m8 (fun h=>?_)|refine c9 (c1u _ _ ?_ ?_) ?_ ?_|refine c9 (c_Cmp _ _ ?_ ?_) ?_ ?_|fail)|(omega;done))
  all_goals exact Sub.refl _
theorem d79 (a:Rat) (ha:rz a≤1000000000):Ax.Pure Tryz.prog G 204 [a0h a] (n8 a.floor):=by
  have a1:=a4t a
  have a2:=a5e a
  have hd:=a.den_nz
  refine r8 Tryz.func204 rfl Tryz.ntmps204 ?_
  intro w0 E0 hc
  repeat' (first|refine n7 hc Tryz.results204 ?_|(with_reducible first|exact trivial|refine j3 ?_ ?_|refine m8 (fun h=>?_)|refine c9 (b9e _ _ ?_ ?_ ?_) ?_ ?_|fail)|(omega;done))
  all_goals exact a0f (Rat.floor_def a).symm
end Go.Proofs
end
