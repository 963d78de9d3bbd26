/- Lemmas on the program and its library: part ZW27. -/
import Derived.Test.YtoiejgkkcfkliaaGreatDoorZW25
set_option linter.unusedVariables false
set_option linter.unusedSimpArgs false
section
set_option maxHeartbeats 4000000
set_option maxRecDepth 100000
namespace Go.Proofs
open Go.Ax
def b1c (x y z:Int):Nat→Nat
  | 0=>0
  | 1=>Nat.gcd 0 x.natAbs
  | 2=>Nat.gcd (Nat.gcd 0 x.natAbs) y.natAbs
  | _=>Nat.gcd (Nat.gcd (Nat.gcd 0 x.natAbs) y.natAbs) z.natAbs
def b2o (x:Int):Bool:=decide (999999999 < x) || decide (x < -999999999)
def b9n (x y z:Int):Nat→Bool
  | 0=>false
  | 1=>b2o x
  | 2=>b2o x || b2o y
  | _=>b2o x || b2o y || b2o z
def chkH (x y z:Int) (d:List UInt8):Int:=u5 [if b1c x y z 3=0 then 6 else 0,if b9n x y z 3=true then 3 else 0,if b1c x y z 3=1 then 0 else 1,a0a d]
def i64 (x:Int):Prop:=-9223372036854775808≤x∧x < 9223372036854775808
theorem b85 {x:Int} (h:i64 x):x.natAbs < 2 ^ 64:=by
  have:2 ^ 64=18446744073709551616:=by decide
  obtain ⟨h1,h2⟩:=h
  omega
theorem d8m {x y z:Int} (hx:i64 x) (hy:i64 y) (hz:i64 z):∀i,b1c x y z i < 2 ^ 64:=by
  have h1:=b6t (k:=64) (m:=0) (Nat.two_pow_pos _) (b85 hx)
  have h2:=b6t h1 (b85 hy)
  have h3:=b6t h2 (b85 hz)
  intro i
  match i with
  | 0=>exact Nat.two_pow_pos _
  | 1=>exact h1
  | 2=>exact h2
  | (n+3)=>exact h3
theorem c5r (x y z:Int) (d:List UInt8) (hx:i64 x) (hy:i64 y) (hz:i64 z) (hd:d.length≤900000):Ax.Pure Tryz.prog G 37 [tH x y z d] (N (chkH x y z d)):=by
  have hgl:=d8m hx hy hz
  have c_o:∀v:Int,i64 v→Ax.Pure Tryz.prog G 126 [N v] (n8 v):=fun v h=>b4p v h.1 h.2
  have c_a:∀v:Int,i64 v→Ax.Pure Tryz.prog G 152 [n8 v] (n8 (v.natAbs:Nat)):=fun v h=>d4m v (by have:=b4e (b85 h);omega)
  have c_g:∀(v:Int) (i:Nat),i64 v→Ax.Pure Tryz.prog G 118 [n8 (b1c x y z i:Nat),n8 (v.natAbs:Nat)] (n8 (Nat.gcd (b1c x y z i) v.natAbs:Nat)):=fun v i h=>
    c3j _ _ 64 64 (hgl i) (b85 h) (by decide) (by decide)
  have S:∀i:Nat,i < 3→0 < 1∧(0≤(i:Int)∧(i:Int) < ((3:Nat):Int))∧(true=false→1=1):=fun i hi=>⟨by omega,⟨by omega,by omega⟩,fun e=>(by cases e)⟩
  refine r8 Tryz.func37 rfl Tryz.ntmps37 ?_
  intro w0 E0 hc
  repeat' (first|refine n7 hc Tryz.results37 ?_|(with_reducible first|exact trivial|refine j3 ?_ ?_|refine m8 (fun h=>?_)|refine c9 (b4p _ ?_ ?_) ?_ ?_|fail)|(omega;done))
  refine m9 (α:=Nat) (fun i=>n5 [(1,.one (.ptr 0 4 0 0)),(3,.one (.ptr 1 2 0 0)),(4,Bo (b9n x y z i)),(11,.agg [.v (.int .i64 x),.v (.int .i64 y),.v (.int .i64 z)]),(12,N i)] [(0,⟨4,1,fun _=> [.v (.int .i64 x),.v (.int .i64 y),.v (.int .i64 z),.v (.string (bs d))],false⟩),(1,⟨2,1,fun _=> [.int (b1c x y z i:Nat)],false⟩)] 2) (fun i=>i≤3) (fun i=>3 - i) 0 (Nat.zero_le _) ?_ ?_
  · refine zW1 ?_ <;> repeat' (with_reducible first|exact trivial|refine j3 ?_ ?_|refine t7 (fun i hi=>?_))
    · exact Sub.refl _
  · intro i hi
    have:i=0∨i=1∨i=2∨i=3:=by omega
    rcases this with rfl|rfl|rfl|rfl
    · have hf:b9n x y z 1=(b9n x y z 0 || b2o x):=rfl
      unfold b2o at hf
      repeat' (first|refine n7 hc Tryz.results37 ?_|(with_reducible first|exact trivial|refine j3 ?_ ?_|refine m8 (fun h=>?_)|refine c9 (c_o _ ?_) ?_ ?_|refine c9 (c_a _ ?_) ?_ ?_|refine c9 (c_g _ _ ?_) ?_ ?_|fail)|((first|omega|assumption|(refine S _ ?_;omega));done))
      all_goals
        refine ⟨1,by omega,by omega,?_⟩
        refine zW1 ?_ <;> repeat' (with_reducible first|exact trivial|refine j3 ?_ ?_|refine t7 (fun i hi=>?_))
        · refine j6 (congrArg Bo ?_)
          rw [hf];simp [*]
    · have hf:b9n x y z 2=(b9n x y z 1 || b2o y):=rfl
      unfold b2o at hf
      repeat' (first|refine n7 hc Tryz.results37 ?_|(with_reducible first|exact trivial|refine j3 ?_ ?_|refine m8 (fun h=>?_)|refine c9 (c_o _ ?_) ?_ ?_|refine c9 (c_a _ ?_) ?_ ?_|refine c9 (c_g _ _ ?_) ?_ ?_|fail)|((first|omega|assumption|(refine S _ ?_;omega));done))
      all_goals
        refine ⟨2,by omega,by omega,?_⟩
        refine zW1 ?_ <;> repeat' (with_reducible first|exact trivial|refine j3 ?_ ?_|refine t7 (fun i hi=>?_))
        · refine j6 (congrArg Bo ?_)
          rw [hf];simp [*]
    · have hf:b9n x y z 3=(b9n x y z 2 || b2o z):=rfl
      unfold b2o at hf
      repeat' (first|refine n7 hc Tryz.results37 ?_|(with_reducible first|exact trivial|refine j3 ?_ ?_|refine m8 (fun h=>?_)|refine c9 (c_o _ ?_) ?_ ?_|refine c9 (c_a _ ?_) ?_ ?_|refine c9 (c_g _ _ ?_) ?_ ?_|fail)|((first|omega|assumption|(refine S _ ?_;omega));done))
      all_goals
        refine ⟨3,by omega,by omega,?_⟩
        refine zW1 ?_ <;> repeat' (with_reducible first|exact trivial|refine j3 ?_ ?_|refine t7 (fun i hi=>?_))
        · refine j6 (congrArg Bo ?_)
          rw [hf];simp [*]
    · have hs:((((b1c x y z 3:Nat):Int).sign == 0)=true)↔b1c x y z 3=0:=by
        rw [beq_iff_eq,Int.sign_eq_zero_iff_zero];omega
      have hchk:chkH x y z d=u5 [if b1c x y z 3=0 then 6 else 0,if b9n x y z 3=true then 3 else 0,if b1c x y z 3=1 then 0 else 1,a0a d]:=rfl
      obtain ⟨sv,sb,c_s,hiff⟩:∃(sv:Int) (sb:Bool),Ax.Pure Tryz.prog G 120 [n8 (b1c x y z 3:Nat)] (.tup [N sv,Bo sb])∧((sb=true∧sv=1)↔b1c x y z 3=1):=by
        refine ⟨_,_,c94 (b1c x y z 3:Nat) (by omega),?_⟩
        unfold smV d2j
        constructor
        · rintro ⟨h1,h2⟩
          rw [h1,if_pos rfl] at h2
          omega
        · intro h
          rw [h]
          exact ⟨rfl,rfl⟩
      have c_c:=b4k d hd
      have c_sg:=a29 ((b1c x y z 3:Nat):Int)
      clear c_g hgl
      generalize b1c x y z 3=g at *
      generalize b9n x y z 3=fr at *
      repeat' (first|refine n7 hc Tryz.results37 ?_|(with_reducible first|exact trivial|refine j3 ?_ ?_|refine m8 (fun h=>?_)|refine c9 c_s ?_ ?_|refine c9 c_sg ?_ ?_|refine c9 (a91 _ _) ?_ ?_|refine c9 c_c ?_ ?_|refine c9 (d5k _ _ _ _) ?_ ?_|fail)|(omega;done))
      all_goals
        refine j6 (congrArg (fun v:Int=>N v) ?_)
        rw [hchk]
        simp only [hs]
      · have h:sb=true:=by simpa using h
        have e:(if (sv != 1)=true then (1:Int) else 0)=if g=1 then 0 else 1:=by
          by_cases h1:sv=1
          · rw [if_pos (hiff.1 ⟨h,h1⟩),h1];rfl
          · rw [if_neg (fun e=>h1 (hiff.2 e).2),if_pos (bne_iff_ne.2 h1)]
        rw [e]
      · have h:sb=false:=by simpa using h
        rw [if_pos trivial,if_neg (c:=g=1) (fun e=>by have:=(hiff.2 e).1;rw [h] at this;cases this)]
end Go.Proofs
end
