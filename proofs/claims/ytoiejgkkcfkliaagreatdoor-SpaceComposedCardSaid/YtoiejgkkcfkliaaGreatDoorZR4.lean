/- Lemmas on the program and its library: part ZR4. -/
import Derived.Test.YtoiejgkkcfkliaaGreatDoorZ27
set_option linter.unusedVariables false
set_option linter.unusedSimpArgs false
section
set_option maxHeartbeats 4000000
set_option maxRecDepth 100000
namespace Go.Proofs
open Go.Ax
theorem BR2:2≤BR:=by decide
theorem b99 {z:Int} {k:Nat} (h:z.natAbs < BR ^ k):rl z≤k:=a3d BR2 h
theorem c65 (z:Int):z.natAbs < BR ^ rl z:=b4w BR2
theorem b8t {x y:Int} (h:x.natAbs≤y.natAbs):rl x≤rl y:=b99 (Nat.lt_of_le_of_lt h (c65 y))
theorem b63 (x y:Int):rl (x*y)≤rl x+rl y:=b99 (by rw [Int.natAbs_mul,Nat.pow_add];exact Nat.mul_lt_mul'' (c65 x) (c65 y))
theorem e1t (x y:Int):rl (x+y)≤max (rl x) (rl y)+1:=by
  refine b99 ?_
  have h1:=Nat.lt_of_lt_of_le (c65 x) (Nat.pow_le_pow_right (show 0 < BR by decide) (Nat.le_max_left (rl x) (rl y)))
  have h2:=Nat.lt_of_lt_of_le (c65 y) (Nat.pow_le_pow_right (show 0 < BR by decide) (Nat.le_max_right (rl x) (rl y)))
  have h3:BR ^ (max (rl x) (rl y))*2≤BR ^ (max (rl x) (rl y))*BR:=Nat.mul_le_mul_left _ BR2
  rw [Nat.pow_succ]
  generalize BR ^ (max (rl x) (rl y))=p at *
  generalize p*BR=pp at *
  omega
theorem d1q (x y:List Nat) (hx:∀d∈x,d < BR) (hy:∀d∈y,d < BR):val BR x+val BR y < BR ^ a50 x y:=by
  unfold a50
  split
  · assumption
  · have h1:=Nat.lt_of_lt_of_le (a03 BR x hx) (Nat.pow_le_pow_right (show 0 < BR by decide) (Nat.le_max_left x.length y.length))
    have h2:=Nat.lt_of_lt_of_le (a03 BR y hy) (Nat.pow_le_pow_right (show 0 < BR by decide) (Nat.le_max_right x.length y.length))
    have h3:BR ^ (max x.length y.length)*2≤BR ^ (max x.length y.length)*BR:=Nat.mul_le_mul_left _ BR2
    rw [Nat.pow_succ]
    generalize BR ^ (max x.length y.length)=p at *
    generalize p*BR=pp at *
    omega
theorem c1o (x y:List Nat):a50 x y≤max x.length y.length+1:=by unfold a50;split <;> omega
theorem c0x (x y:List Nat) (hx:∀d∈x,d < BR) (hy:∀d∈y,d < BR):val BR (a2p BR (a50 x y) (val BR x+val BR y))=val BR x+val BR y:=by
  rw [a9f,Nat.mod_eq_of_lt (d1q x y hx hy)]
theorem d2l (x y:Int):x*y=if (decide (x < 0) != decide (y < 0))=true then -((x.natAbs:Int)*(y.natAbs:Int)) else (x.natAbs:Int)*(y.natAbs:Int):=by
  by_cases h0:x < 0 <;> by_cases h3:y < 0 <;> simp only [h0,h3,decide_true,decide_false,bne_self_eq_false,Bool.false_eq_true,if_false,Bool.true_bne,Bool.false_bne,Bool.not_false,if_true]
  · rw [show (x.natAbs:Int)= -x by omega,show (y.natAbs:Int)= -y by omega];grind
  · rw [show (x.natAbs:Int)= -x by omega,show (y.natAbs:Int)=y by omega];grind
  · rw [show (x.natAbs:Int)=x by omega,show (y.natAbs:Int)= -y by omega];grind
  · rw [show (x.natAbs:Int)=x by omega,show (y.natAbs:Int)=y by omega]
theorem a7z {x y:Int} (h:x=y):Ax.Sub (rA x) (rA y):=h ▸ Sub.refl _
theorem c8r {n:Nat} (h:0 < (f7 BR n).length):0 < n:=by
  rcases Nat.eq_zero_or_pos n with e|e
  · rw [e] at h;simp [a9e] at h
  · exact e
theorem c3r {x y:Int} {n:Nat} (hp:0 < y) (h:(x < 0∧0 < x.natAbs%y.natAbs∧n=x.natAbs / y.natAbs+1)∨(x < 0∧x.natAbs%y.natAbs=0∧n=x.natAbs / y.natAbs)∨(¬x < 0∧n=x.natAbs / y.natAbs)):x / y=sgn (decide (x < 0)) n:=by
  obtain ⟨m,rfl⟩:∃m:Nat,y=m:=⟨y.toNat,by omega⟩
  rw [Int.natAbs_natCast] at h
  have e:=Nat.div_add_mod x.natAbs m
  have hm:=Nat.mod_lt x.natAbs (show 0 < m by omega)
  generalize x.natAbs / m=q at *
  generalize x.natAbs%m=r at *
  have e2:((m*q:Nat):Int)=(m:Int)*(q:Int):=Int.natCast_mul m q
  rcases h with ⟨h1,h2,h3⟩|⟨h1,h2,h3⟩|⟨h1,h3⟩
  · refine ((Int.ediv_emod_unique (r:=(m:Int) - r) hp).2 ⟨?_,by omega,by omega⟩).1
    rw [h3,sgn,if_pos (by simpa using h1),Int.natCast_add,Int.mul_neg,Int.mul_add,←e2]
    omega
  · refine ((Int.ediv_emod_unique (r:=0) hp).2 ⟨?_,by omega,by omega⟩).1
    rw [h3,sgn,if_pos (by simpa using h1),Int.mul_neg,←e2]
    omega
  · refine ((Int.ediv_emod_unique (r:=(r:Int)) hp).2 ⟨?_,by omega,by omega⟩).1
    rw [h3,sgn,if_neg (by simpa using h1),←e2]
    omega
theorem c3n {a b:Nat} (h:0≤a5v a b):b≤a:=by
  unfold a5v at h
  split at h
  · omega
  · omega
theorem c3o {a b:Nat} (h:¬0≤a5v a b):a < b:=by
  unfold a5v at h
  split at h
  · assumption
  · split at h <;> omega
theorem a47 {a b:Nat} (h:a≤b):(f7 BR a).length≤(f7 BR b).length:=b8t (x:=a) (y:=b) (by omega)
theorem c4t (x:Int):sgn (decide (x < 0)) x.natAbs=x:=by unfold sgn;split <;> simp at* <;> omega
theorem d6o (x y:Int) (hx:rl x≤500000000) (hy:rl y≤500000000):Ax.Pure Tryz.prog G 136 [rA x,rA y] (rA (x+y)):=by
  have dx:=j5 (B:=BR) BR2 x.natAbs
  have dy:=j5 (B:=BR) BR2 y.natAbs
  have lx:(f7 BR x.natAbs).length≤500000000:=hx
  have ly:(f7 BR y.natAbs).length≤500000000:=hy
  have vx:=j8 (B:=BR) BR2 x.natAbs
  have vy:=j8 (B:=BR) BR2 y.natAbs
  have va:=c0x _ _ dx.lt dy.lt
  have fa:=a7q (B:=BR) (by decide) (a50 (f7 BR x.natAbs) (f7 BR y.natAbs)) (x.natAbs+y.natAbs)
  have fl:=a1a BR (a50 (f7 BR x.natAbs) (f7 BR y.natAbs)) (x.natAbs+y.natAbs)
  have al:=c1o (f7 BR x.natAbs) (f7 BR y.natAbs)
  have c_ad:=b73 (f7 BR x.natAbs) (f7 BR y.natAbs) dx.lt dy.lt (by omega) (by omega)
  have c_cm:=d97 (f7 BR x.natAbs) (f7 BR y.natAbs) dx dy (by omega)
  rw [vx,vy] at c_ad c_cm va
  have d1:=j5 (B:=BR) BR2 (x.natAbs - y.natAbs)
  have d2:=j5 (B:=BR) BR2 (y.natAbs - x.natAbs)
  have v1:=j8 (B:=BR) BR2 (x.natAbs - y.natAbs)
  have v2:=j8 (B:=BR) BR2 (y.natAbs - x.natAbs)
  have l1:(f7 BR (x.natAbs - y.natAbs)).length≤500000000:=by
    have:=b8t (x:=((x.natAbs - y.natAbs:Nat):Int)) (y:=x) (by omega)
    have e:rl ((x.natAbs - y.natAbs:Nat):Int)=(f7 BR (x.natAbs - y.natAbs)).length:=rfl
    omega
  have l2:(f7 BR (y.natAbs - x.natAbs)).length≤500000000:=by
    have:=b8t (x:=((y.natAbs - x.natAbs:Nat):Int)) (y:=y) (by omega)
    have e:rl ((y.natAbs - x.natAbs:Nat):Int)=(f7 BR (y.natAbs - x.natAbs)).length:=rfl
    omega
  have c_s1:0≤a5v x.natAbs y.natAbs→_:=fun h=>b74 (f7 BR x.natAbs) (f7 BR y.natAbs) dx.lt dy.lt (by omega) (a47 (c3n h)) (by rw [vx,vy];exact c3n h)
  have c_s2:¬0≤a5v x.natAbs y.natAbs→_:=fun h=>b74 (f7 BR y.natAbs) (f7 BR x.natAbs) dy.lt dx.lt (by omega) (a47 (Nat.le_of_lt (c3o h))) (by rw [vx,vy];exact Nat.le_of_lt (c3o h))
  rw [vx,vy] at c_s1 c_s2
  refine r8 Tryz.func136 rfl Tryz.ntmps136 ?_
  intro w0 E0 hc
  repeat' (first|refine n7 hc Tryz.results136 ?_|(with_reducible first|exact trivial|refine j3 ?_ ?_|refine m8 (fun h=>?_)|refine c9 c_ad ?_ ?_|refine c9 c_cm ?_ ?_|refine c9 (c_s1 ?_) ?_ ?_|refine c9 (c_s2 ?_) ?_ ?_|refine c9 (a4r _ _ ?_ ?_) ?_ ?_|fail)|((first|exact fa|exact d1.lt|exact d2.lt|omega);done))
  · refine a7z ?_
    rw [va]
    unfold sgn
    by_cases h0:x < 0 <;> by_cases h3:y < 0 <;> simp [h0,h3] at h ⊢ <;> omega
  · rename_i g
    have:=c3n h
    refine a7z ?_
    rw [v1]
    unfold sgn
    by_cases h0:x < 0 <;> by_cases h3:y < 0 <;> simp [h0,h3] at g ⊢ <;> omega
  · rename_i g
    have:=c3o h
    refine a7z ?_
    rw [v2]
    unfold sgn
    by_cases h0:x < 0 <;> by_cases h3:y < 0 <;> simp [h0,h3] at g ⊢ <;> omega
theorem d08 (x:Int) (hx:rl x≤500000000):Ax.Pure Tryz.prog G 138 [rA x] (rA (-x)):=by
  have dx:=j5 (B:=BR) BR2 x.natAbs
  have lx:(f7 BR x.natAbs).length≤500000000:=hx
  have vx:=j8 (B:=BR) BR2 x.natAbs
  refine r8 Tryz.func138 rfl Tryz.ntmps138 ?_
  intro w0 E0 hc
  repeat' (first|refine n7 hc Tryz.results138 ?_|(with_reducible first|exact trivial|refine j3 ?_ ?_|refine m8 (fun h=>?_)|refine c9 (a4r _ _ ?_ ?_) ?_ ?_|fail)|((first|exact dx.lt|omega);done))
  refine a7z ?_
  rw [vx]
  unfold sgn
  by_cases h0:x < 0 <;> simp [h0] <;> omega
theorem b8r (x y:Int) (hx:rl x≤500000000) (hy:rl y≤500000000):Ax.Pure Tryz.prog G 137 [rA x,rA y] (rA (x*y)):=by
  have dx:=j5 (B:=BR) BR2 x.natAbs
  have dy:=j5 (B:=BR) BR2 y.natAbs
  have lx:(f7 BR x.natAbs).length≤500000000:=hx
  have ly:(f7 BR y.natAbs).length≤500000000:=hy
  have vx:=j8 (B:=BR) BR2 x.natAbs
  have vy:=j8 (B:=BR) BR2 y.natAbs
  have c_mu:=b1m (f7 BR x.natAbs) (f7 BR y.natAbs) dx.lt dy.lt (by omega) (by omega)
  rw [vx,vy] at c_mu
  have dm:=j5 (B:=BR) BR2 (x.natAbs*y.natAbs)
  have vm:=j8 (B:=BR) BR2 (x.natAbs*y.natAbs)
  have lm:(f7 BR (x.natAbs*y.natAbs)).length≤1000000000:=by
    have h1:=b63 x y
    have h2:rl (x*y)=(f7 BR (x.natAbs*y.natAbs)).length:=by unfold rl;rw [Int.natAbs_mul]
    omega
  refine r8 Tryz.func137 rfl Tryz.ntmps137 ?_
  intro w0 E0 hc
  repeat' (first|refine n7 hc Tryz.results137 ?_|(with_reducible first|exact trivial|refine j3 ?_ ?_|refine m8 (fun h=>?_)|refine c9 c_mu ?_ ?_|refine c9 (a4r _ _ ?_ ?_) ?_ ?_|fail)|((first|exact dm.lt|omega);done))
  refine a7z ?_
  rw [vm,d2l x y]
  unfold sgn
  rw [Int.natCast_mul]
theorem c83 (x y:Int) (hx:rl x≤500000000) (hy:rl y≤500000000) (hp:0 < y):Ax.Pure Tryz.prog G 207 [rA x,rA y] (rA (x / y)):=by
  have dx:=j5 (B:=BR) BR2 x.natAbs
  have dy:=j5 (B:=BR) BR2 y.natAbs
  have lx:(f7 BR x.natAbs).length≤500000000:=hx
  have ly:(f7 BR y.natAbs).length≤500000000:=hy
  have vx:=j8 (B:=BR) BR2 x.natAbs
  have vy:=j8 (B:=BR) BR2 y.natAbs
  have y0:f7 BR y.natAbs≠[]:=fun e=>by have:=(a2f (B:=BR) BR2).1 e;omega
  have c_dd:=a7s (f7 BR x.natAbs) (f7 BR y.natAbs) dx dy y0 (by omega) (by omega)
  rw [vx,vy] at c_dd
  have dq:=j5 (B:=BR) BR2 (x.natAbs / y.natAbs)
  have vq:=j8 (B:=BR) BR2 (x.natAbs / y.natAbs)
  have lq:(f7 BR (x.natAbs / y.natAbs)).length≤500000000:=Nat.le_trans (a47 (Nat.div_le_self _ _)) lx
  have lr:=m5 (f7 BR (x.natAbs%y.natAbs))
  have c_ad:=b73 (f7 BR (x.natAbs / y.natAbs)) [1] dq.lt (by decide) (by omega) (by simp)
  have va:=c0x (f7 BR (x.natAbs / y.natAbs)) [1] dq.lt (by decide)
  have al:=c1o (f7 BR (x.natAbs / y.natAbs)) [1]
  rw [vq,show val BR [1]=1 from rfl] at c_ad va
  have fa:=a7q (B:=BR) (by decide) (a50 (f7 BR (x.natAbs / y.natAbs)) [1]) (x.natAbs / y.natAbs+1)
  have fl:=a1a BR (a50 (f7 BR (x.natAbs / y.natAbs)) [1]) (x.natAbs / y.natAbs+1)
  have al2:max (f7 BR (x.natAbs / y.natAbs)).length [1].length≤500000001:=Nat.max_le.2 ⟨by omega,by simp⟩
  refine r8 Tryz.func207 rfl Tryz.ntmps207 ?_
  intro w0 E0 hc
  repeat' (first|refine n7 hc Tryz.results207 ?_|(with_reducible first|exact trivial|refine j3 ?_ ?_|refine m8 (fun h=>?_)|refine c9 c_dd ?_ ?_|refine c9 (a4r _ _ ?_ ?_) ?_ ?_|fail)|((first|exact fa|exact dq.lt|omega);done))
  · rw [lr] at h
    refine a2v a1u c_ad ⟨Sub.refl _,b7m (x:=1) rfl rfl,trivial⟩ ?_ ?_
    · exact ⟨⟨by decide,rfl,rfl,rfl,by decide⟩,trivial⟩
    repeat' (first|refine n7 hc Tryz.results207 ?_|(with_reducible first|exact trivial|refine j3 ?_ ?_|refine m8 (fun h=>?_)|refine c9 (a4r _ _ ?_ ?_) ?_ ?_|fail)|((first|exact fa|exact dq.lt|omega);done))
    refine a7z ?_
    rw [va]
    have:=c8r (by omega:0 < (f7 BR (x.natAbs%y.natAbs)).length)
    exact (c3r hp (.inl ⟨by assumption,this,rfl⟩)).symm
  · refine a7z ?_
    rw [vq]
    rw [lr] at h
    have:x.natAbs%y.natAbs=0:=by
      rcases Nat.eq_zero_or_pos (x.natAbs%y.natAbs) with e|e
      · exact e
      · exfalso
        have h2:(f7 BR (x.natAbs%y.natAbs)).length=0:=by omega
        rw [List.length_eq_zero_iff,a2f BR2] at h2
        omega
    exact (c3r hp (.inr (.inl ⟨by assumption,this,rfl⟩))).symm
  · refine a7z ?_
    rw [vq]
    exact (c3r hp (.inr (.inr ⟨h,rfl⟩))).symm
theorem c60 (x y:Nat) (hx:(f7 BR x).length≤500000000) (hy:(f7 BR y).length≤500000000):Ax.Pure Tryz.prog G 124 [D (f7 BR x),D (f7 BR y)] (D (f7 BR (Nat.gcd x y))):=by
  refine r8 Tryz.func124 rfl Tryz.ntmps124 ?_
  intro w0 E0 hc
  repeat' (first|refine n7 hc Tryz.results124 ?_|(with_reducible first|exact trivial|refine j3 ?_ ?_|refine m8 (fun h=>?_)|fail)|(omega;done))
  refine m9 (α:=Nat×Nat) (fun p=>n5 [(0,D (f7 BR p.1)),(1,D (f7 BR p.2))] [] 0)
    (fun p=>(f7 BR p.1).length≤500000000∧(f7 BR p.2).length≤500000000∧Nat.gcd p.1 p.2=Nat.gcd x y) (fun p=>p.2) (x,y) ⟨hx,hy,rfl⟩ ?_ ?_
  · refine zW2 ?_ <;> repeat' (with_reducible first|exact trivial|refine j3 ?_ ?_|refine t7 (fun i hi=>?_))
  · rintro ⟨a,b⟩ ⟨ha,hb,hg⟩
    dsimp only at ha hb hg
    have lb:=m5 (f7 BR b)
    have da:=j5 (B:=BR) BR2 a
    have db:=j5 (B:=BR) BR2 b
    have c_dd:f7 BR b≠[]→_:=fun h=>a7s (f7 BR a) (f7 BR b) da db h (by omega) (by omega)
    rw [j8 BR2,j8 BR2] at c_dd
    have hne:0 < (f7 BR b).length→f7 BR b≠[]:=fun h e=>by rw [e] at h;simp at h
    repeat' (first|refine n7 hc Tryz.results124 ?_|(with_reducible first|exact trivial|refine j3 ?_ ?_|refine m8 (fun h=>?_)|refine c9 (c_dd ?_) ?_ ?_|fail)|((first|exact hne (by omega)|omega);done))
    · have hb0:0 < b:=by
        rcases Nat.eq_zero_or_pos b with e|e
        · rw [e] at h;simp [a9e,y7] at h
        · exact e
      refine ⟨(b,a%b),⟨hb,Nat.le_trans (a47 (Nat.le_of_lt (Nat.mod_lt a hb0))) hb,?_⟩,Nat.mod_lt a hb0,?_⟩
      · rw [←hg]
        show Nat.gcd b (a%b)=_
        rw [Nat.gcd_comm b,←Nat.gcd_rec,Nat.gcd_comm]
      · refine zW2 ?_ <;> repeat' (with_reducible first|exact trivial|refine j3 ?_ ?_|refine t7 (fun i hi=>?_))
    · have hb0:b=0:=(a2f (B:=BR) BR2).1 (List.length_eq_zero_iff.1 (by omega))
      subst hb0
      rw [Nat.gcd_zero_right] at hg
      rw [hg];exact Sub.refl _
end Go.Proofs
end
section
set_option maxHeartbeats 4000000
set_option maxRecDepth 100000
namespace Go.Proofs
open Go.Ax
theorem c4k (z:Int) (h1:-9223372036854775808≤z) (h2:z≤9223372036854775807):Ax.Pure Tryz.prog G 135 [N z] (rA z):=by
  refine r8 Tryz.func135 rfl Tryz.ntmps135 ?_
  intro w0 E0 hc
  repeat' (first|refine n7 hc Tryz.results135 ?_|(with_reducible first|exact trivial|refine j3 ?_ ?_|refine m8 (fun h=>?_)|fail)|(omega;done))
  refine m9 (α:=Int×List Nat×Nat) (fun p=>n5 [(0,N p.1),(2,.one (.ptr 0 2 0 0)),(3,.one (.gr 1 1 p.2.1.length p.2.2)),(4,Bo' (decide (z < 0)))] [(0,⟨2,1,fun _=> [.v (.bool false),.v (.slice none 0 0)],false⟩),(1,⟨1,p.2.2,a6k .i64 (y7 p.2.1),true⟩)] 2)
    (fun p=>(∀d∈p.2.1,d < BR)∧p.2.1.length≤p.2.2∧p.2.1.length≤3∧val BR p.2.1+BR ^ p.2.1.length*p.1.natAbs=z.natAbs∧p.1.natAbs≤9223372036854775808) (fun p=>p.1.natAbs) (z,[],0) ⟨by simp,Nat.le_refl _,by simp,by simp [val],by dsimp only;omega⟩ ?_ ?_
  · refine zW2 ?_ <;> repeat' (with_reducible first|exact trivial|refine j3 ?_ ?_|refine t7 (fun i hi=>?_))
  · rintro ⟨n,w,cc⟩ ⟨hw,hcc,hl3,hv,hn⟩
    dsimp only at hw hcc hl3 hv hn
    have lw:=m5 w
    have hlen:n≠0→w.length < 3:=fun h0=>by
      rcases Nat.lt_or_ge w.length 3 with h|h
      · exact h
      · have h3:=Nat.pow_le_pow_right (n:=BR) (by decide) h
        have h4:=Nat.le_mul_of_pos_right (BR ^ w.length) (show 0 < n.natAbs by omega)
        have h5:BR ^ 3=1000000000000000000000000000:=by decide
        omega
    have e1:(n.tmod 1000000000).natAbs=n.natAbs%BR:=by rw [Int.natAbs_tmod];rfl
    have e2:(n.tdiv 1000000000).natAbs=n.natAbs / BR:=by rw [Int.natAbs_tdiv];rfl
    have hst:∀d:Nat,d=n.natAbs%BR→val BR (w++ [d])+BR ^ (w++ [d]).length*(n.natAbs / BR)=z.natAbs:=fun d hd=>by
      have:=Nat.div_add_mod n.natAbs BR
      rw [←hd] at this
      rw [a12,List.length_append,List.length_singleton,Nat.pow_succ,←hv,Nat.mul_assoc,Nat.add_assoc,←Nat.mul_add,Nat.add_comm d,this]
    have S3:(1000000000:Int)≠0∧true=true:=⟨by decide,rfl⟩
    have hm:n.natAbs%BR < BR:=Nat.mod_lt _ (by decide)
    have hdv:n≠0→n.natAbs / BR < n.natAbs:=fun h0=>Nat.div_lt_self (by omega) (by decide)
    have hm9:n.natAbs%BR < 1000000000:=hm
    have t1:n.tmod 1000000000 < 0→IntKind.i64.wrap (0 - n.tmod 1000000000)=((n.natAbs%BR:Nat):Int):=fun h=>by rw [←e1,w64 (by omega) (by omega)];omega
    have t2:¬n.tmod 1000000000 < 0→n.tmod 1000000000=((n.natAbs%BR:Nat):Int):=fun h=>by rw [←e1];omega
    have t3:IntKind.i64.wrap (n.tdiv 1000000000)=n.tdiv 1000000000:=by
      have:n.natAbs / BR≤n.natAbs:=Nat.div_le_self _ _
      by_cases h0:n=0
      · subst h0;rfl
      · have:=hdv h0
        exact w64 (by omega) (by omega)
    repeat' (first|(with_reducible first|refine j0 ?_|refine zwk ?_|refine i6 ?_|refine zgo ?_|refine zbn ?_|refine zge Tryz.results135 ?_|refine Sub.refl _|refine f9|refine w6 (out':=?_) ?_|refine u9 (y:=?_) ?_|refine w5 (eo':=?_) ?_)|(with_reducible refine zrs [9] hc ?_ ?_;focus (with_unfolding_all rfl))|(with_reducible refine zrm [9] hc mixed ?_ ?_;focus (with_unfolding_all rfl))|(with_reducible refine f6 ?_ ?_;focus (first|decide|omega))|(with_reducible first|refine zg2 ?_ ?_|apply c7r hc|apply b8a hc|refine a26 (fun cc_ hcc_=>?_)|exact b7p|refine zbo ?_|refine zg3 ?_ (fun h=>?_) (fun h=>?_)|refine zg4 (fun h=>?_) (fun h=>?_)|fail)|(exact Is.refl _)|((first|omega|exact S3);done))
    · rename_i h0
      refine ⟨(n.tdiv 1000000000,w++ [n.natAbs%BR],cc_),⟨a2d hw hm,by rw [List.length_append,List.length_singleton];exact hcc_,by rw [List.length_append,List.length_singleton];exact hlen h0,by dsimp only;rw [e2];exact hst _ rfl,by dsimp only;rw [e2];exact Nat.le_trans (Nat.div_le_self _ _) hn⟩,by dsimp only;rw [e2];exact hdv h0,?_⟩
      refine zW2 ?_ <;> repeat' (with_reducible first|exact trivial|refine j3 ?_ ?_|refine t7 (fun i hi=>?_))
      · rw [List.length_append,List.length_singleton]
      · rw [a5y w (t1 h)]
    · rename_i h0
      refine ⟨(n.tdiv 1000000000,w++ [n.natAbs%BR],cc_),⟨a2d hw hm,by rw [List.length_append,List.length_singleton];exact hcc_,by rw [List.length_append,List.length_singleton];exact hlen h0,by dsimp only;rw [e2];exact hst _ rfl,by dsimp only;rw [e2];exact Nat.le_trans (Nat.div_le_self _ _) hn⟩,by dsimp only;rw [e2];exact hdv h0,?_⟩
      refine zW2 ?_ <;> repeat' (with_reducible first|exact trivial|refine j3 ?_ ?_|refine t7 (fun i hi=>?_))
      · rw [List.length_append,List.length_singleton]
      · rw [a5y w (t2 h)]
    · obtain rfl:n=0:=by omega
      rw [show (0:Int).natAbs=0 from rfl,Nat.mul_zero,Nat.add_zero] at hv
      refine b8h hc 1 3 w.length cc .i64 (y7 w) [(2,.one (.ptr 0 2 0 0)),(4,Bo' (decide (z < 0)))] [(0,⟨2,1,fun _=> [.v (.bool false),.v (.slice none 0 0)],false⟩)] 2 [(2,.one (.ptr 0 2 0 0)),(4,Bo' (decide (z < 0)))] [(0,⟨2,1,fun _=> [.v (.bool false),.v (.slice none 0 0)],false⟩)] ?_ rfl lw hcc rfl rfl (fun p hp=>by rw [List.mem_singleton.1 hp];exact Nat.zero_ne_one) ?_
      · refine zW2 ?_ <;> repeat' (with_reducible first|exact trivial|refine j3 ?_ ?_|refine t7 (fun i hi=>?_))
      have c_s:=a4r (decide (z < 0)) w hw (by omega)
      rw [hv,c4t] at c_s
      repeat' (first|refine n7 hc Tryz.results135 ?_|(with_reducible first|exact trivial|refine j3 ?_ ?_|refine m8 (fun h=>?_)|refine c9 c_s ?_ ?_|fail)|(omega;done))
end Go.Proofs
end
