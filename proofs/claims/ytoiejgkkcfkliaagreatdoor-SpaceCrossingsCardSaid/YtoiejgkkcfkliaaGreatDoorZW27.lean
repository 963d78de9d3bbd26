/- Lemmas on the program and its library: part ZW27. -/
import Derived.Test.YtoiejgkkcfkliaaGreatDoorZW25
set_option linter.unusedVariables false
set_option linter.unusedSimpArgs false
section
set_option maxHeartbeats 4000000
set_option maxRecDepth 100000
namespace Go.Proofs
open Go.Ax
def gcdN (x y z:Int):Nat→Nat
  | 0=>0
  | 1=>Nat.gcd 0 x.natAbs
  | 2=>Nat.gcd (Nat.gcd 0 x.natAbs) y.natAbs
  | _=>Nat.gcd (Nat.gcd (Nat.gcd 0 x.natAbs) y.natAbs) z.natAbs
def far1 (x:Int):Bool:=decide (999999999 < x) || decide (x < -999999999)
def farN (x y z:Int):Nat→Bool
  | 0=>false
  | 1=>far1 x
  | 2=>far1 x || far1 y
  | _=>far1 x || far1 y || far1 z
def chkH (x y z:Int) (d:List UInt8):Int:=firstNZ [if gcdN x y z 3=0 then 6 else 0,if farN x y z 3=true then 3 else 0,if gcdN x y z 3=1 then 0 else 1,checkL d]
def i64 (x:Int):Prop:=-9223372036854775808≤x∧x < 9223372036854775808
theorem abs_lt {x:Int} (h:i64 x):x.natAbs < 2 ^ 64:=by
  have:2 ^ 64=18446744073709551616:=by decide
  obtain ⟨h1,h2⟩:=h
  omega
theorem gcdN_lt {x y z:Int} (hx:i64 x) (hy:i64 y) (hz:i64 z):∀i,gcdN x y z i < 2 ^ 64:=by
  have h1:=gcd_lt (k:=64) (m:=0) (Nat.two_pow_pos _) (abs_lt hx)
  have h2:=gcd_lt h1 (abs_lt hy)
  have h3:=gcd_lt h2 (abs_lt hz)
  intro i
  match i with
  | 0=>exact Nat.two_pow_pos _
  | 1=>exact h1
  | 2=>exact h2
  | (n+3)=>exact h3
theorem c_CheckHalf (x y z:Int) (d:List UInt8) (hx:i64 x) (hy:i64 y) (hz:i64 z) (hd:d.length≤900000):Ax.Pure Tryz.prog G 37 [tH x y z d] (N (chkH x y z d)):=by
  have hgl:=gcdN_lt hx hy hz
  have c_o:∀v:Int,i64 v→Ax.Pure Tryz.prog G 126 [N v] (intA v):=fun v h=>c_Of v h.1 h.2
  have c_a:∀v:Int,i64 v→Ax.Pure Tryz.prog G 152 [intA v] (intA (v.natAbs:Nat)):=fun v h=>c_Abs v (by have:=zl_two (abs_lt h);omega)
  have c_g:∀(v:Int) (i:Nat),i64 v→Ax.Pure Tryz.prog G 118 [intA (gcdN x y z i:Nat),intA (v.natAbs:Nat)] (intA (Nat.gcd (gcdN x y z i) v.natAbs:Nat)):=fun v i h=>
    c_gcdN _ _ 64 64 (hgl i) (abs_lt h) (by decide) (by decide)
  have S:∀i:Nat,i < 3→0 < 1∧(0≤(i:Int)∧(i:Int) < ((3:Nat):Int))∧(true=false→1=1):=fun i hi=>⟨by omega,⟨by omega,by omega⟩,fun e=>(by cases e)⟩
  refine zen Tryz.func37 rfl Tryz.ntmps37 ?_
  intro w0 E0 hc
  repeat' (first|refine zR1 hc Tryz.results37 ?_|(with_reducible first|exact trivial|refine zan ?_ ?_|refine zim (fun h=>?_)|refine zoc (c_Of _ ?_ ?_) ?_ ?_|fail)|(omega;done))
  refine Wp_loopI (α:=Nat) (fun i=>stOf [(1,.one (.ptr 0 4 0 0)),(3,.one (.ptr 1 2 0 0)),(4,Bo (farN x y z i)),(11,.agg [.v (.int .i64 x),.v (.int .i64 y),.v (.int .i64 z)]),(12,N i)] [(0,⟨4,1,fun _=> [.v (.int .i64 x),.v (.int .i64 y),.v (.int .i64 z),.v (.string (bs d))],false⟩),(1,⟨2,1,fun _=> [.int (gcdN x y z i:Nat)],false⟩)] 2) (fun i=>i≤3) (fun i=>3 - i) 0 (Nat.zero_le _) ?_ ?_
  · refine zW1 ?_ <;> repeat' (with_reducible first|exact trivial|refine zan ?_ ?_|refine zal (fun i hi=>?_))
    · exact Sub.refl _
  · intro i hi
    have:i=0∨i=1∨i=2∨i=3:=by omega
    rcases this with rfl|rfl|rfl|rfl
    · have hf:farN x y z 1=(farN x y z 0 || far1 x):=rfl
      unfold far1 at hf
      repeat' (first|refine zR1 hc Tryz.results37 ?_|(with_reducible first|exact trivial|refine zan ?_ ?_|refine zim (fun h=>?_)|refine zoc (c_o _ ?_) ?_ ?_|refine zoc (c_a _ ?_) ?_ ?_|refine zoc (c_g _ _ ?_) ?_ ?_|fail)|((first|omega|assumption|(refine S _ ?_;omega));done))
      all_goals
        refine ⟨1,by omega,by omega,?_⟩
        refine zW1 ?_ <;> repeat' (with_reducible first|exact trivial|refine zan ?_ ?_|refine zal (fun i hi=>?_))
        · refine sub_eq (congrArg Bo ?_)
          rw [hf];simp [*]
    · have hf:farN x y z 2=(farN x y z 1 || far1 y):=rfl
      unfold far1 at hf
      repeat' (first|refine zR1 hc Tryz.results37 ?_|(with_reducible first|exact trivial|refine zan ?_ ?_|refine zim (fun h=>?_)|refine zoc (c_o _ ?_) ?_ ?_|refine zoc (c_a _ ?_) ?_ ?_|refine zoc (c_g _ _ ?_) ?_ ?_|fail)|((first|omega|assumption|(refine S _ ?_;omega));done))
      all_goals
        refine ⟨2,by omega,by omega,?_⟩
        refine zW1 ?_ <;> repeat' (with_reducible first|exact trivial|refine zan ?_ ?_|refine zal (fun i hi=>?_))
        · refine sub_eq (congrArg Bo ?_)
          rw [hf];simp [*]
    · have hf:farN x y z 3=(farN x y z 2 || far1 z):=rfl
      unfold far1 at hf
      repeat' (first|refine zR1 hc Tryz.results37 ?_|(with_reducible first|exact trivial|refine zan ?_ ?_|refine zim (fun h=>?_)|refine zoc (c_o _ ?_) ?_ ?_|refine zoc (c_a _ ?_) ?_ ?_|refine zoc (c_g _ _ ?_) ?_ ?_|fail)|((first|omega|assumption|(refine S _ ?_;omega));done))
      all_goals
        refine ⟨3,by omega,by omega,?_⟩
        refine zW1 ?_ <;> repeat' (with_reducible first|exact trivial|refine zan ?_ ?_|refine zal (fun i hi=>?_))
        · refine sub_eq (congrArg Bo ?_)
          rw [hf];simp [*]
    · have hs:((((gcdN x y z 3:Nat):Int).sign == 0)=true)↔gcdN x y z 3=0:=by
        rw [beq_iff_eq,Int.sign_eq_zero_iff_zero];omega
      have hchk:chkH x y z d=firstNZ [if gcdN x y z 3=0 then 6 else 0,if farN x y z 3=true then 3 else 0,if gcdN x y z 3=1 then 0 else 1,checkL d]:=rfl
      obtain ⟨sv,sb,c_s,hiff⟩:∃(sv:Int) (sb:Bool),Ax.Pure Tryz.prog G 120 [intA (gcdN x y z 3:Nat)] (.tup [N sv,Bo sb])∧((sb=true∧sv=1)↔gcdN x y z 3=1):=by
        refine ⟨_,_,c_Small (gcdN x y z 3:Nat) (by omega),?_⟩
        unfold smV isSm
        constructor
        · rintro ⟨h1,h2⟩
          rw [h1,if_pos rfl] at h2
          omega
        · intro h
          rw [h]
          exact ⟨rfl,rfl⟩
      have c_c:=c_Check d hd
      have c_sg:=c_Sign ((gcdN x y z 3:Nat):Int)
      clear c_g hgl
      generalize gcdN x y z 3=g at *
      generalize farN x y z 3=fr at *
      repeat' (first|refine zR1 hc Tryz.results37 ?_|(with_reducible first|exact trivial|refine zan ?_ ?_|refine zim (fun h=>?_)|refine zoc c_s ?_ ?_|refine zoc c_sg ?_ ?_|refine zoc (c_when _ _) ?_ ?_|refine zoc c_c ?_ ?_|refine zoc (c_first4 _ _ _ _) ?_ ?_|fail)|(omega;done))
      all_goals
        refine sub_eq (congrArg (fun v:Int=>N v) ?_)
        rw [hchk]
        simp only [hs]
      · have h:sb=true:=by simpa using h
        have e:(if (sv != 1)=true then (1:Int) else 0)=if g=1 then 0 else 1:=by
          by_cases h1:sv=1
          · rw [if_pos (hiff.1 ⟨h,h1⟩),h1];rfl
          · rw [if_neg (fun e=>h1 (hiff.2 e).2),if_pos (bne_iff_ne.2 h1)]
        rw [e]
      · have h:sb=false:=by simpa using h
        rw [if_pos trivial,if_neg (c:=g=1) (fun e=>by have:=(hiff.2 e).1;rw [h] at this;cases this)]
end Go.Proofs
end
