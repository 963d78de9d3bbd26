/- Lemmas on the program and its library: part ZR4. -/
import Derived.Test.YtoiejgkkcfkliaaGreatDoorZ27
set_option linter.unusedVariables false
set_option linter.unusedSimpArgs false
section
set_option maxHeartbeats 4000000
set_option maxRecDepth 100000
namespace Go.Proofs
open Go.Ax
theorem BR2:2≤BR:=by decide
theorem rl_le {z:Int} {k:Nat} (h:z.natAbs < BR ^ k):rl z≤k:=digs_len_le BR2 h
theorem rl_lt (z:Int):z.natAbs < BR ^ rl z:=digs_lt BR2
theorem rl_mono {x y:Int} (h:x.natAbs≤y.natAbs):rl x≤rl y:=rl_le (Nat.lt_of_le_of_lt h (rl_lt y))
theorem rl_mul (x y:Int):rl (x*y)≤rl x+rl y:=rl_le (by rw [Int.natAbs_mul,Nat.pow_add];exact Nat.mul_lt_mul'' (rl_lt x) (rl_lt y))
theorem rl_add (x y:Int):rl (x+y)≤max (rl x) (rl y)+1:=by
  refine rl_le ?_
  have h1:=Nat.lt_of_lt_of_le (rl_lt x) (Nat.pow_le_pow_right (show 0 < BR by decide) (Nat.le_max_left (rl x) (rl y)))
  have h2:=Nat.lt_of_lt_of_le (rl_lt y) (Nat.pow_le_pow_right (show 0 < BR by decide) (Nat.le_max_right (rl x) (rl y)))
  have h3:BR ^ (max (rl x) (rl y))*2≤BR ^ (max (rl x) (rl y))*BR:=Nat.mul_le_mul_left _ BR2
  rw [Nat.pow_succ]
  generalize BR ^ (max (rl x) (rl y))=p at *
  generalize p*BR=pp at *
  omega
theorem addLen_lt (x y:List Nat) (hx:∀d∈x,d < BR) (hy:∀d∈y,d < BR):val BR x+val BR y < BR ^ addLen x y:=by
  unfold addLen
  split
  · assumption
  · have h1:=Nat.lt_of_lt_of_le (val_lt BR x hx) (Nat.pow_le_pow_right (show 0 < BR by decide) (Nat.le_max_left x.length y.length))
    have h2:=Nat.lt_of_lt_of_le (val_lt BR y hy) (Nat.pow_le_pow_right (show 0 < BR by decide) (Nat.le_max_right x.length y.length))
    have h3:BR ^ (max x.length y.length)*2≤BR ^ (max x.length y.length)*BR:=Nat.mul_le_mul_left _ BR2
    rw [Nat.pow_succ]
    generalize BR ^ (max x.length y.length)=p at *
    generalize p*BR=pp at *
    omega
theorem addLen_le (x y:List Nat):addLen x y≤max x.length y.length+1:=by unfold addLen;split <;> omega
theorem val_addLen (x y:List Nat) (hx:∀d∈x,d < BR) (hy:∀d∈y,d < BR):val BR (fixd BR (addLen x y) (val BR x+val BR y))=val BR x+val BR y:=by
  rw [fixd_val,Nat.mod_eq_of_lt (addLen_lt x y hx hy)]
theorem mul_signR (x y:Int):x*y=if (decide (x < 0) != decide (y < 0))=true then -((x.natAbs:Int)*(y.natAbs:Int)) else (x.natAbs:Int)*(y.natAbs:Int):=by
  by_cases h0:x < 0 <;> by_cases h3:y < 0 <;> simp only [h0,h3,decide_true,decide_false,bne_self_eq_false,Bool.false_eq_true,if_false,Bool.true_bne,Bool.false_bne,Bool.not_false,if_true]
  · rw [show (x.natAbs:Int)= -x by omega,show (y.natAbs:Int)= -y by omega];grind
  · rw [show (x.natAbs:Int)= -x by omega,show (y.natAbs:Int)=y by omega];grind
  · rw [show (x.natAbs:Int)=x by omega,show (y.natAbs:Int)= -y by omega];grind
  · rw [show (x.natAbs:Int)=x by omega,show (y.natAbs:Int)=y by omega]
theorem sub_rA' {x y:Int} (h:x=y):Ax.Sub (rA x) (rA y):=h ▸ Sub.refl _
theorem mod_pos_of {n:Nat} (h:0 < (digs BR n).length):0 < n:=by
  rcases Nat.eq_zero_or_pos n with e|e
  · rw [e] at h;simp [digs_zero] at h
  · exact e
theorem div_sgn {x y:Int} {n:Nat} (hp:0 < y) (h:(x < 0∧0 < x.natAbs%y.natAbs∧n=x.natAbs / y.natAbs+1)∨(x < 0∧x.natAbs%y.natAbs=0∧n=x.natAbs / y.natAbs)∨(¬x < 0∧n=x.natAbs / y.natAbs)):x / y=sgn (decide (x < 0)) n:=by
  obtain ⟨m,rfl⟩:∃m:Nat,y=m:=⟨y.toNat,by omega⟩
  rw [Int.natAbs_natCast] at h
  have e:=Nat.div_add_mod x.natAbs m
  have hm:=Nat.mod_lt x.natAbs (show 0 < m by omega)
  generalize x.natAbs / m=q at *
  generalize x.natAbs%m=r at *
  have e2:((m*q:Nat):Int)=(m:Int)*(q:Int):=Int.natCast_mul m q
  rcases h with ⟨h1,h2,h3⟩|⟨h1,h2,h3⟩|⟨h1,h3⟩
  · refine ((Int.ediv_emod_unique (r:=(m:Int) - r) hp).2 ⟨?_,by omega,by omega⟩).1
    rw [h3,sgn,if_pos (by simpa using h1),Int.natCast_add,Int.mul_neg,Int.mul_add,←e2]
    omega
  · refine ((Int.ediv_emod_unique (r:=0) hp).2 ⟨?_,by omega,by omega⟩).1
    rw [h3,sgn,if_pos (by simpa using h1),Int.mul_neg,←e2]
    omega
  · refine ((Int.ediv_emod_unique (r:=(r:Int)) hp).2 ⟨?_,by omega,by omega⟩).1
    rw [h3,sgn,if_neg (by simpa using h1),←e2]
    omega
theorem cmpN_le {a b:Nat} (h:0≤cmpN a b):b≤a:=by
  unfold cmpN at h
  split at h
  · omega
  · omega
theorem cmpN_lt {a b:Nat} (h:¬0≤cmpN a b):a < b:=by
  unfold cmpN at h
  split at h
  · assumption
  · split at h <;> omega
theorem digs_mono {a b:Nat} (h:a≤b):(digs BR a).length≤(digs BR b).length:=rl_mono (x:=a) (y:=b) (by omega)
theorem sgn_dec (x:Int):sgn (decide (x < 0)) x.natAbs=x:=by unfold sgn;split <;> simp at* <;> omega
theorem r_plus (x y:Int) (hx:rl x≤500000000) (hy:rl y≤500000000):Ax.Pure Tryz.prog G 136 [rA x,rA y] (rA (x+y)):=by
  have dx:=digs_dig (B:=BR) BR2 x.natAbs
  have dy:=digs_dig (B:=BR) BR2 y.natAbs
  have lx:(digs BR x.natAbs).length≤500000000:=hx
  have ly:(digs BR y.natAbs).length≤500000000:=hy
  have vx:=digs_val (B:=BR) BR2 x.natAbs
  have vy:=digs_val (B:=BR) BR2 y.natAbs
  have va:=val_addLen _ _ dx.lt dy.lt
  have fa:=fixd_lt (B:=BR) (by decide) (addLen (digs BR x.natAbs) (digs BR y.natAbs)) (x.natAbs+y.natAbs)
  have fl:=fixd_len BR (addLen (digs BR x.natAbs) (digs BR y.natAbs)) (x.natAbs+y.natAbs)
  have al:=addLen_le (digs BR x.natAbs) (digs BR y.natAbs)
  have c_ad:=r_addDigits (digs BR x.natAbs) (digs BR y.natAbs) dx.lt dy.lt (by omega) (by omega)
  have c_cm:=r_cmp (digs BR x.natAbs) (digs BR y.natAbs) dx dy (by omega)
  rw [vx,vy] at c_ad c_cm va
  have d1:=digs_dig (B:=BR) BR2 (x.natAbs - y.natAbs)
  have d2:=digs_dig (B:=BR) BR2 (y.natAbs - x.natAbs)
  have v1:=digs_val (B:=BR) BR2 (x.natAbs - y.natAbs)
  have v2:=digs_val (B:=BR) BR2 (y.natAbs - x.natAbs)
  have l1:(digs BR (x.natAbs - y.natAbs)).length≤500000000:=by
    have:=rl_mono (x:=((x.natAbs - y.natAbs:Nat):Int)) (y:=x) (by omega)
    have e:rl ((x.natAbs - y.natAbs:Nat):Int)=(digs BR (x.natAbs - y.natAbs)).length:=rfl
    omega
  have l2:(digs BR (y.natAbs - x.natAbs)).length≤500000000:=by
    have:=rl_mono (x:=((y.natAbs - x.natAbs:Nat):Int)) (y:=y) (by omega)
    have e:rl ((y.natAbs - x.natAbs:Nat):Int)=(digs BR (y.natAbs - x.natAbs)).length:=rfl
    omega
  have c_s1:0≤cmpN x.natAbs y.natAbs→_:=fun h=>r_subDigits (digs BR x.natAbs) (digs BR y.natAbs) dx.lt dy.lt (by omega) (digs_mono (cmpN_le h)) (by rw [vx,vy];exact cmpN_le h)
  have c_s2:¬0≤cmpN x.natAbs y.natAbs→_:=fun h=>r_subDigits (digs BR y.natAbs) (digs BR x.natAbs) dy.lt dx.lt (by omega) (digs_mono (Nat.le_of_lt (cmpN_lt h))) (by rw [vx,vy];exact Nat.le_of_lt (cmpN_lt h))
  rw [vx,vy] at c_s1 c_s2
  refine zen Tryz.func136 rfl Tryz.ntmps136 ?_
  intro w0 E0 hc
  repeat' (first|refine zR1 hc Tryz.results136 ?_|(with_reducible first|exact trivial|refine zan ?_ ?_|refine zim (fun h=>?_)|refine zoc c_ad ?_ ?_|refine zoc c_cm ?_ ?_|refine zoc (c_s1 ?_) ?_ ?_|refine zoc (c_s2 ?_) ?_ ?_|refine zoc (r_signed _ _ ?_ ?_) ?_ ?_|fail)|((first|exact fa|exact d1.lt|exact d2.lt|omega);done))
  · refine sub_rA' ?_
    rw [va]
    unfold sgn
    by_cases h0:x < 0 <;> by_cases h3:y < 0 <;> simp [h0,h3] at h ⊢ <;> omega
  · rename_i g
    have:=cmpN_le h
    refine sub_rA' ?_
    rw [v1]
    unfold sgn
    by_cases h0:x < 0 <;> by_cases h3:y < 0 <;> simp [h0,h3] at g ⊢ <;> omega
  · rename_i g
    have:=cmpN_lt h
    refine sub_rA' ?_
    rw [v2]
    unfold sgn
    by_cases h0:x < 0 <;> by_cases h3:y < 0 <;> simp [h0,h3] at g ⊢ <;> omega
theorem r_minus (x:Int) (hx:rl x≤500000000):Ax.Pure Tryz.prog G 138 [rA x] (rA (-x)):=by
  have dx:=digs_dig (B:=BR) BR2 x.natAbs
  have lx:(digs BR x.natAbs).length≤500000000:=hx
  have vx:=digs_val (B:=BR) BR2 x.natAbs
  refine zen Tryz.func138 rfl Tryz.ntmps138 ?_
  intro w0 E0 hc
  repeat' (first|refine zR1 hc Tryz.results138 ?_|(with_reducible first|exact trivial|refine zan ?_ ?_|refine zim (fun h=>?_)|refine zoc (r_signed _ _ ?_ ?_) ?_ ?_|fail)|((first|exact dx.lt|omega);done))
  refine sub_rA' ?_
  rw [vx]
  unfold sgn
  by_cases h0:x < 0 <;> simp [h0] <;> omega
theorem r_times (x y:Int) (hx:rl x≤500000000) (hy:rl y≤500000000):Ax.Pure Tryz.prog G 137 [rA x,rA y] (rA (x*y)):=by
  have dx:=digs_dig (B:=BR) BR2 x.natAbs
  have dy:=digs_dig (B:=BR) BR2 y.natAbs
  have lx:(digs BR x.natAbs).length≤500000000:=hx
  have ly:(digs BR y.natAbs).length≤500000000:=hy
  have vx:=digs_val (B:=BR) BR2 x.natAbs
  have vy:=digs_val (B:=BR) BR2 y.natAbs
  have c_mu:=r_mulDigits (digs BR x.natAbs) (digs BR y.natAbs) dx.lt dy.lt (by omega) (by omega)
  rw [vx,vy] at c_mu
  have dm:=digs_dig (B:=BR) BR2 (x.natAbs*y.natAbs)
  have vm:=digs_val (B:=BR) BR2 (x.natAbs*y.natAbs)
  have lm:(digs BR (x.natAbs*y.natAbs)).length≤1000000000:=by
    have h1:=rl_mul x y
    have h2:rl (x*y)=(digs BR (x.natAbs*y.natAbs)).length:=by unfold rl;rw [Int.natAbs_mul]
    omega
  refine zen Tryz.func137 rfl Tryz.ntmps137 ?_
  intro w0 E0 hc
  repeat' (first|refine zR1 hc Tryz.results137 ?_|(with_reducible first|exact trivial|refine zan ?_ ?_|refine zim (fun h=>?_)|refine zoc c_mu ?_ ?_|refine zoc (r_signed _ _ ?_ ?_) ?_ ?_|fail)|((first|exact dm.lt|omega);done))
  refine sub_rA' ?_
  rw [vm,mul_signR x y]
  unfold sgn
  rw [Int.natCast_mul]
theorem r_floorDiv (x y:Int) (hx:rl x≤500000000) (hy:rl y≤500000000) (hp:0 < y):Ax.Pure Tryz.prog G 207 [rA x,rA y] (rA (x / y)):=by
  have dx:=digs_dig (B:=BR) BR2 x.natAbs
  have dy:=digs_dig (B:=BR) BR2 y.natAbs
  have lx:(digs BR x.natAbs).length≤500000000:=hx
  have ly:(digs BR y.natAbs).length≤500000000:=hy
  have vx:=digs_val (B:=BR) BR2 x.natAbs
  have vy:=digs_val (B:=BR) BR2 y.natAbs
  have y0:digs BR y.natAbs≠[]:=fun e=>by have:=(digs_nil (B:=BR) BR2).1 e;omega
  have c_dd:=r_divDigits (digs BR x.natAbs) (digs BR y.natAbs) dx dy y0 (by omega) (by omega)
  rw [vx,vy] at c_dd
  have dq:=digs_dig (B:=BR) BR2 (x.natAbs / y.natAbs)
  have vq:=digs_val (B:=BR) BR2 (x.natAbs / y.natAbs)
  have lq:(digs BR (x.natAbs / y.natAbs)).length≤500000000:=Nat.le_trans (digs_mono (Nat.div_le_self _ _)) lx
  have lr:=toI_len (digs BR (x.natAbs%y.natAbs))
  have c_ad:=r_addDigits (digs BR (x.natAbs / y.natAbs)) [1] dq.lt (by decide) (by omega) (by simp)
  have va:=val_addLen (digs BR (x.natAbs / y.natAbs)) [1] dq.lt (by decide)
  have al:=addLen_le (digs BR (x.natAbs / y.natAbs)) [1]
  rw [vq,show val BR [1]=1 from rfl] at c_ad va
  have fa:=fixd_lt (B:=BR) (by decide) (addLen (digs BR (x.natAbs / y.natAbs)) [1]) (x.natAbs / y.natAbs+1)
  have fl:=fixd_len BR (addLen (digs BR (x.natAbs / y.natAbs)) [1]) (x.natAbs / y.natAbs+1)
  have al2:max (digs BR (x.natAbs / y.natAbs)).length [1].length≤500000001:=Nat.max_le.2 ⟨by omega,by simp⟩
  refine zen Tryz.func207 rfl Tryz.ntmps207 ?_
  intro w0 E0 hc
  repeat' (first|refine zR1 hc Tryz.results207 ?_|(with_reducible first|exact trivial|refine zan ?_ ?_|refine zim (fun h=>?_)|refine zoc c_dd ?_ ?_|refine zoc (r_signed _ _ ?_ ?_) ?_ ?_|fail)|((first|exact fa|exact dq.lt|omega);done))
  · rw [lr] at h
    refine outK_call tt_ok c_ad ⟨Sub.refl _,sub_row_D (x:=1) rfl rfl,trivial⟩ ?_ ?_
    · exact ⟨⟨by decide,rfl,rfl,rfl,by decide⟩,trivial⟩
    repeat' (first|refine zR1 hc Tryz.results207 ?_|(with_reducible first|exact trivial|refine zan ?_ ?_|refine zim (fun h=>?_)|refine zoc (r_signed _ _ ?_ ?_) ?_ ?_|fail)|((first|exact fa|exact dq.lt|omega);done))
    refine sub_rA' ?_
    rw [va]
    have:=mod_pos_of (by omega:0 < (digs BR (x.natAbs%y.natAbs)).length)
    exact (div_sgn hp (.inl ⟨by assumption,this,rfl⟩)).symm
  · refine sub_rA' ?_
    rw [vq]
    rw [lr] at h
    have:x.natAbs%y.natAbs=0:=by
      rcases Nat.eq_zero_or_pos (x.natAbs%y.natAbs) with e|e
      · exact e
      · exfalso
        have h2:(digs BR (x.natAbs%y.natAbs)).length=0:=by omega
        rw [List.length_eq_zero_iff,digs_nil BR2] at h2
        omega
    exact (div_sgn hp (.inr (.inl ⟨by assumption,this,rfl⟩))).symm
  · refine sub_rA' ?_
    rw [vq]
    exact (div_sgn hp (.inr (.inr ⟨h,rfl⟩))).symm
theorem r_common (x y:Nat) (hx:(digs BR x).length≤500000000) (hy:(digs BR y).length≤500000000):Ax.Pure Tryz.prog G 124 [D (digs BR x),D (digs BR y)] (D (digs BR (Nat.gcd x y))):=by
  refine zen Tryz.func124 rfl Tryz.ntmps124 ?_
  intro w0 E0 hc
  repeat' (first|refine zR1 hc Tryz.results124 ?_|(with_reducible first|exact trivial|refine zan ?_ ?_|refine zim (fun h=>?_)|fail)|(omega;done))
  refine Wp_loopI (α:=Nat×Nat) (fun p=>stOf [(0,D (digs BR p.1)),(1,D (digs BR p.2))] [] 0)
    (fun p=>(digs BR p.1).length≤500000000∧(digs BR p.2).length≤500000000∧Nat.gcd p.1 p.2=Nat.gcd x y) (fun p=>p.2) (x,y) ⟨hx,hy,rfl⟩ ?_ ?_
  · refine zW2 ?_ <;> repeat' (with_reducible first|exact trivial|refine zan ?_ ?_|refine zal (fun i hi=>?_))
  · rintro ⟨a,b⟩ ⟨ha,hb,hg⟩
    dsimp only at ha hb hg
    have lb:=toI_len (digs BR b)
    have da:=digs_dig (B:=BR) BR2 a
    have db:=digs_dig (B:=BR) BR2 b
    have c_dd:digs BR b≠[]→_:=fun h=>r_divDigits (digs BR a) (digs BR b) da db h (by omega) (by omega)
    rw [digs_val BR2,digs_val BR2] at c_dd
    have hne:0 < (digs BR b).length→digs BR b≠[]:=fun h e=>by rw [e] at h;simp at h
    repeat' (first|refine zR1 hc Tryz.results124 ?_|(with_reducible first|exact trivial|refine zan ?_ ?_|refine zim (fun h=>?_)|refine zoc (c_dd ?_) ?_ ?_|fail)|((first|exact hne (by omega)|omega);done))
    · have hb0:0 < b:=by
        rcases Nat.eq_zero_or_pos b with e|e
        · rw [e] at h;simp [digs_zero,toI] at h
        · exact e
      refine ⟨(b,a%b),⟨hb,Nat.le_trans (digs_mono (Nat.le_of_lt (Nat.mod_lt a hb0))) hb,?_⟩,Nat.mod_lt a hb0,?_⟩
      · rw [←hg]
        show Nat.gcd b (a%b)=_
        rw [Nat.gcd_comm b,←Nat.gcd_rec,Nat.gcd_comm]
      · refine zW2 ?_ <;> repeat' (with_reducible first|exact trivial|refine zan ?_ ?_|refine zal (fun i hi=>?_))
    · have hb0:b=0:=(digs_nil (B:=BR) BR2).1 (List.length_eq_zero_iff.1 (by omega))
      subst hb0
      rw [Nat.gcd_zero_right] at hg
      rw [hg];exact Sub.refl _
end Go.Proofs
end
section
set_option maxHeartbeats 4000000
set_option maxRecDepth 100000
namespace Go.Proofs
open Go.Ax
theorem r_whole (z:Int) (h1:-9223372036854775808≤z) (h2:z≤9223372036854775807):Ax.Pure Tryz.prog G 135 [N z] (rA z):=by
  refine zen Tryz.func135 rfl Tryz.ntmps135 ?_
  intro w0 E0 hc
  repeat' (first|refine zR1 hc Tryz.results135 ?_|(with_reducible first|exact trivial|refine zan ?_ ?_|refine zim (fun h=>?_)|fail)|(omega;done))
  refine Wp_loopI (α:=Int×List Nat×Nat) (fun p=>stOf [(0,N p.1),(2,.one (.ptr 0 2 0 0)),(3,.one (.gr 1 1 p.2.1.length p.2.2)),(4,Bo' (decide (z < 0)))] [(0,⟨2,1,fun _=> [.v (.bool false),.v (.slice none 0 0)],false⟩),(1,⟨1,p.2.2,rowG .i64 (toI p.2.1),true⟩)] 2)
    (fun p=>(∀d∈p.2.1,d < BR)∧p.2.1.length≤p.2.2∧p.2.1.length≤3∧val BR p.2.1+BR ^ p.2.1.length*p.1.natAbs=z.natAbs∧p.1.natAbs≤9223372036854775808) (fun p=>p.1.natAbs) (z,[],0) ⟨by simp,Nat.le_refl _,by simp,by simp [val],by dsimp only;omega⟩ ?_ ?_
  · refine zW2 ?_ <;> repeat' (with_reducible first|exact trivial|refine zan ?_ ?_|refine zal (fun i hi=>?_))
  · rintro ⟨n,w,cc⟩ ⟨hw,hcc,hl3,hv,hn⟩
    dsimp only at hw hcc hl3 hv hn
    have lw:=toI_len w
    have hlen:n≠0→w.length < 3:=fun h0=>by
      rcases Nat.lt_or_ge w.length 3 with h|h
      · exact h
      · have h3:=Nat.pow_le_pow_right (n:=BR) (by decide) h
        have h4:=Nat.le_mul_of_pos_right (BR ^ w.length) (show 0 < n.natAbs by omega)
        have h5:BR ^ 3=1000000000000000000000000000:=by decide
        omega
    have e1:(n.tmod 1000000000).natAbs=n.natAbs%BR:=by rw [Int.natAbs_tmod];rfl
    have e2:(n.tdiv 1000000000).natAbs=n.natAbs / BR:=by rw [Int.natAbs_tdiv];rfl
    have hst:∀d:Nat,d=n.natAbs%BR→val BR (w++ [d])+BR ^ (w++ [d]).length*(n.natAbs / BR)=z.natAbs:=fun d hd=>by
      have:=Nat.div_add_mod n.natAbs BR
      rw [←hd] at this
      rw [val_snoc,List.length_append,List.length_singleton,Nat.pow_succ,←hv,Nat.mul_assoc,Nat.add_assoc,←Nat.mul_add,Nat.add_comm d,this]
    have S3:(1000000000:Int)≠0∧true=true:=⟨by decide,rfl⟩
    have hm:n.natAbs%BR < BR:=Nat.mod_lt _ (by decide)
    have hdv:n≠0→n.natAbs / BR < n.natAbs:=fun h0=>Nat.div_lt_self (by omega) (by decide)
    have hm9:n.natAbs%BR < 1000000000:=hm
    have t1:n.tmod 1000000000 < 0→IntKind.i64.wrap (0 - n.tmod 1000000000)=((n.natAbs%BR:Nat):Int):=fun h=>by rw [←e1,w64 (by omega) (by omega)];omega
    have t2:¬n.tmod 1000000000 < 0→n.tmod 1000000000=((n.natAbs%BR:Nat):Int):=fun h=>by rw [←e1];omega
    have t3:IntKind.i64.wrap (n.tdiv 1000000000)=n.tdiv 1000000000:=by
      have:n.natAbs / BR≤n.natAbs:=Nat.div_le_self _ _
      by_cases h0:n=0
      · subst h0;rfl
      · have:=hdv h0
        exact w64 (by omega) (by omega)
    repeat' (first|(with_reducible first|refine Wp_seq ?_|refine zwk ?_|refine Wp_block ?_|refine zgo ?_|refine zbn ?_|refine zge Tryz.results135 ?_|refine Sub.refl _|refine allP_nil|refine zoa1 (out':=?_) ?_|refine zca1 (y:=?_) ?_|refine zea1 (eo':=?_) ?_)|(with_reducible refine zrs [9] hc ?_ ?_;focus (with_unfolding_all rfl))|(with_reducible refine zrm [9] hc mixed ?_ ?_;focus (with_unfolding_all rfl))|(with_reducible refine allP_cons ?_ ?_;focus (first|decide|omega))|(with_reducible first|refine zg2 ?_ ?_|apply zagr hc|apply zanil hc|refine appK_intro (fun cc_ hcc_=>?_)|exact zia1|refine zbo ?_|refine zg3 ?_ (fun h=>?_) (fun h=>?_)|refine zg4 (fun h=>?_) (fun h=>?_)|fail)|(exact Is.refl _)|((first|omega|exact S3);done))
    · rename_i h0
      refine ⟨(n.tdiv 1000000000,w++ [n.natAbs%BR],cc_),⟨snoc_lt hw hm,by rw [List.length_append,List.length_singleton];exact hcc_,by rw [List.length_append,List.length_singleton];exact hlen h0,by dsimp only;rw [e2];exact hst _ rfl,by dsimp only;rw [e2];exact Nat.le_trans (Nat.div_le_self _ _) hn⟩,by dsimp only;rw [e2];exact hdv h0,?_⟩
      refine zW2 ?_ <;> repeat' (with_reducible first|exact trivial|refine zan ?_ ?_|refine zal (fun i hi=>?_))
      · rw [List.length_append,List.length_singleton]
      · rw [toI_snoc w (t1 h)]
    · rename_i h0
      refine ⟨(n.tdiv 1000000000,w++ [n.natAbs%BR],cc_),⟨snoc_lt hw hm,by rw [List.length_append,List.length_singleton];exact hcc_,by rw [List.length_append,List.length_singleton];exact hlen h0,by dsimp only;rw [e2];exact hst _ rfl,by dsimp only;rw [e2];exact Nat.le_trans (Nat.div_le_self _ _) hn⟩,by dsimp only;rw [e2];exact hdv h0,?_⟩
      refine zW2 ?_ <;> repeat' (with_reducible first|exact trivial|refine zan ?_ ?_|refine zal (fun i hi=>?_))
      · rw [List.length_append,List.length_singleton]
      · rw [toI_snoc w (t2 h)]
    · obtain rfl:n=0:=by omega
      rw [show (0:Int).natAbs=0 from rfl,Nat.mul_zero,Nat.add_zero] at hv
      refine Wp_frzG hc 1 3 w.length cc .i64 (toI w) [(2,.one (.ptr 0 2 0 0)),(4,Bo' (decide (z < 0)))] [(0,⟨2,1,fun _=> [.v (.bool false),.v (.slice none 0 0)],false⟩)] 2 [(2,.one (.ptr 0 2 0 0)),(4,Bo' (decide (z < 0)))] [(0,⟨2,1,fun _=> [.v (.bool false),.v (.slice none 0 0)],false⟩)] ?_ rfl lw hcc rfl rfl (fun p hp=>by rw [List.mem_singleton.1 hp];exact Nat.zero_ne_one) ?_
      · refine zW2 ?_ <;> repeat' (with_reducible first|exact trivial|refine zan ?_ ?_|refine zal (fun i hi=>?_))
      have c_s:=r_signed (decide (z < 0)) w hw (by omega)
      rw [hv,sgn_dec] at c_s
      repeat' (first|refine zR1 hc Tryz.results135 ?_|(with_reducible first|exact trivial|refine zan ?_ ?_|refine zim (fun h=>?_)|refine zoc c_s ?_ ?_|fail)|(omega;done))
end Go.Proofs
end
