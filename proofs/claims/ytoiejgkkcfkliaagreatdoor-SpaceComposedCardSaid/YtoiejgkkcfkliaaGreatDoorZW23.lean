/- Lemmas on the program and its library: part ZW23. -/
import Derived.Test.YtoiejgkkcfkliaaGreatDoorZW15
import Derived.Test.YtoiejgkkcfkliaaGreatDoorZW21
set_option linter.unusedVariables false
set_option linter.unusedSimpArgs false
section
set_option maxHeartbeats 4000000
set_option maxRecDepth 100000
namespace Go.Proofs
open Go.Ax
theorem b9h (z:Int) (hz:zl z≤1000000):Ax.Pure Tryz.prog G 259 [n8 z] (S (bs (r6 z))):=
  a00 [] [] (c74 z) (fun h=>c73 z h hz)
def b3f (n:Nat):Nat:=if (f7 BB n).length=0 then 0 else 64*((f7 BB n).length - 1)+bl ((f7 BB n).getD ((f7 BB n).length - 1) 0)
theorem d6b (n:Nat):n < 2 ^ b3f n:=by
  unfold b3f
  split
  · rename_i h
    have:n=0:=(a2f (B:=BB) (by decide)).1 (List.length_eq_zero_iff.1 h)
    subst this;decide
  · rename_i h
    obtain ⟨k,hk⟩:∃k,(f7 BB n).length=k+1:=⟨(f7 BB n).length - 1,by omega⟩
    have hv:=j8 (B:=BB) (by decide) n
    have hd:=(j5 (B:=BB) (by decide) n).1
    generalize f7 BB n=l at *
    rw [a7g hk] at hv
    have h1:val BB (l.take k) < BB ^ (l.take k).length:=a03 BB _ fun d hd'=>hd d (List.mem_of_mem_take hd')
    rw [List.length_take,Nat.min_eq_left (by omega)] at h1
    rw [hk,Nat.add_sub_cancel,Nat.pow_add,Nat.pow_mul,←hv]
    have h2:=c91 (l.getD k 0)
    have e:(2 ^ 64:Nat)=BB:=rfl
    rw [e]
    have h3:(l.getD k 0+1)*BB ^ k≤2 ^ bl (l.getD k 0)*BB ^ k:=Nat.mul_le_mul_right _ h2
    rw [Nat.add_mul,Nat.one_mul] at h3
    rw [Nat.mul_comm (BB ^ k)]
    omega
theorem c9u {n:Nat} (h:b3f n≤1800):(Lib.decDigits n).length≤600:=by
  exact a0p (Nat.lt_of_lt_of_le (d6b n) (Nat.le_trans (Nat.pow_le_pow_right (by decide) (show b3f n≤3*600 from h)) (c1y 600))) (by decide)
theorem d4s (z:Int) (h1:-9223372036854775808≤z) (h2:z < 9223372036854775808) (hz:zl z≤1000000):Ax.Pure Tryz.prog G 279 [smA z] (N (b3f z.natAbs)):=by
  have c_pa:=a1d z h1 h2
  have ll:=m5 (f7 BB z.natAbs)
  have gg:=r7 (f7 BB z.natAbs) ((f7 BB z.natAbs).length - 1)
  unfold zl at hz
  have hd:=(j5 (B:=BB) (by decide) z.natAbs).1
  have hzb:b3f z.natAbs=if (f7 BB z.natAbs).length=0 then 0 else 64*((f7 BB z.natAbs).length - 1)+bl ((f7 BB z.natAbs).getD ((f7 BB z.natAbs).length - 1) 0):=rfl
  have htop:(f7 BB z.natAbs).getD ((f7 BB z.natAbs).length - 1) 0 < BB:=by
    rw [List.getD_eq_getElem?_getD]
    cases h:(f7 BB z.natAbs)[(f7 BB z.natAbs).length - 1]? with
    | none=>decide
    | some d=>exact hd d (List.mem_of_getElem? h)
  generalize f7 BB z.natAbs=l at *
  have hbl:bl (l.getD (l.length - 1) 0)≤64:=a9d htop
  have c_le:Ax.Pure Tryz.prog G 287 [U ((y7 l).getD (IntKind.i64.wrap (((y7 l).length:Int) - 1)).toNat 0)] (N (bl (l.getD (l.length - 1) 0):Nat))∨l.length=0:=by
    by_cases h0:l.length=0
    · exact .inr h0
    left
    have:(IntKind.i64.wrap (((y7 l).length:Int) - 1)).toNat=l.length - 1:=by rw [ll,w64 (by omega) (by omega)];omega
    rw [this,gg]
    exact b1i (b89 _ htop)
  refine r8 Tryz.func279 rfl Tryz.ntmps279 ?_
  intro w0 E0 hc
  repeat' (first|(with_reducible first|refine j0 ?_|refine zwk ?_|refine i6 ?_|refine zgo ?_|refine zbn ?_|refine zge Tryz.results279 ?_|refine Sub.refl _|refine f9|refine w6 (out':=?_) ?_|refine u9 (y:=?_) ?_|refine w5 (eo':=?_) ?_)|(with_reducible refine zrs [4] hc ?_ ?_;focus (with_unfolding_all rfl))|(with_reducible refine zrm [4] hc mixed ?_ ?_;focus (with_unfolding_all rfl))|(with_reducible refine f6 ?_ ?_;focus (first|decide|omega))|(with_reducible first|refine zg2 ?_ ?_|refine c9 c_pa ?_ ?_|refine zbo ?_|refine zg3 ?_ (fun h=>?_) (fun h=>?_)|refine zg4 (fun h=>?_) (fun h=>?_)|fail)|(omega;done))
  · rw [hzb,if_pos (by omega)];exact Sub.refl _
  have c_le:=c_le.resolve_right (by omega)
  have w1:IntKind.i64.wrap (((y7 l).length:Int) - 1)=(l.length:Int) - 1:=by rw [ll];exact w64 (by omega) (by omega)
  have S1:0 < 1∧1=1∧0≤IntKind.i64.wrap (((y7 l).length:Int) - 1)∧IntKind.i64.wrap (((y7 l).length:Int) - 1) < ((y7 l).length:Int):=by rw [w1,ll];omega
  repeat' (first|refine n7 hc Tryz.results279 ?_|(with_reducible first|exact trivial|refine j3 ?_ ?_|refine m8 (fun h=>?_)|refine c9 c_le ?_ ?_|fail)|((first|omega|exact S1);done))
  refine j6 ?_
  rw [hzb,if_neg (by omega),w1,w64 (x:=64*((l.length:Int) - 1)) (by omega) (by omega),w64 (by omega) (by omega)]
  refine congrArg (fun n:Int=>N n) ?_
  omega
theorem d4r (z:Int) (h:9223372036854775808≤z.natAbs) (hz:zl z≤1000000):Ax.Pure Tryz.prog G 279 [bgA z] (N (b3f z.natAbs)):=by
  have c_pa:=a01 z h
  have ll:=m5 (f7 BB z.natAbs)
  have gg:=r7 (f7 BB z.natAbs) ((f7 BB z.natAbs).length - 1)
  unfold zl at hz
  have hd:=(j5 (B:=BB) (by decide) z.natAbs).1
  have hzb:b3f z.natAbs=if (f7 BB z.natAbs).length=0 then 0 else 64*((f7 BB z.natAbs).length - 1)+bl ((f7 BB z.natAbs).getD ((f7 BB z.natAbs).length - 1) 0):=rfl
  have htop:(f7 BB z.natAbs).getD ((f7 BB z.natAbs).length - 1) 0 < BB:=by
    rw [List.getD_eq_getElem?_getD]
    cases h:(f7 BB z.natAbs)[(f7 BB z.natAbs).length - 1]? with
    | none=>decide
    | some d=>exact hd d (List.mem_of_getElem? h)
  generalize f7 BB z.natAbs=l at *
  have hbl:bl (l.getD (l.length - 1) 0)≤64:=a9d htop
  have c_le:Ax.Pure Tryz.prog G 287 [U ((y7 l).getD (IntKind.i64.wrap (((y7 l).length:Int) - 1)).toNat 0)] (N (bl (l.getD (l.length - 1) 0):Nat))∨l.length=0:=by
    by_cases h0:l.length=0
    · exact .inr h0
    left
    have:(IntKind.i64.wrap (((y7 l).length:Int) - 1)).toNat=l.length - 1:=by rw [ll,w64 (by omega) (by omega)];omega
    rw [this,gg]
    exact b1i (b89 _ htop)
  refine r8 Tryz.func279 rfl Tryz.ntmps279 ?_
  intro w0 E0 hc
  repeat' (first|(with_reducible first|refine j0 ?_|refine zwk ?_|refine i6 ?_|refine zgo ?_|refine zbn ?_|refine zge Tryz.results279 ?_|refine Sub.refl _|refine f9|refine w6 (out':=?_) ?_|refine u9 (y:=?_) ?_|refine w5 (eo':=?_) ?_)|(with_reducible refine zrs [4] hc ?_ ?_;focus (with_unfolding_all rfl))|(with_reducible refine zrm [4] hc mixed ?_ ?_;focus (with_unfolding_all rfl))|(with_reducible refine f6 ?_ ?_;focus (first|decide|omega))|(with_reducible first|refine zg2 ?_ ?_|refine c9 c_pa ?_ ?_|refine zbo ?_|refine zg3 ?_ (fun h=>?_) (fun h=>?_)|refine zg4 (fun h=>?_) (fun h=>?_)|fail)|(omega;done))
  · rw [hzb,if_pos (by omega)];exact Sub.refl _
  have c_le:=c_le.resolve_right (by omega)
  have w1:IntKind.i64.wrap (((y7 l).length:Int) - 1)=(l.length:Int) - 1:=by rw [ll];exact w64 (by omega) (by omega)
  have S1:0 < 1∧1=1∧0≤IntKind.i64.wrap (((y7 l).length:Int) - 1)∧IntKind.i64.wrap (((y7 l).length:Int) - 1) < ((y7 l).length:Int):=by rw [w1,ll];omega
  repeat' (first|refine n7 hc Tryz.results279 ?_|(with_reducible first|exact trivial|refine j3 ?_ ?_|refine m8 (fun h=>?_)|refine c9 c_le ?_ ?_|fail)|((first|omega|exact S1);done))
  refine j6 ?_
  rw [hzb,if_neg (by omega),w1,w64 (x:=64*((l.length:Int) - 1)) (by omega) (by omega),w64 (by omega) (by omega)]
  refine congrArg (fun n:Int=>N n) ?_
  omega
theorem e09 (z:Int) (hz:zl z≤1000000):Ax.Pure Tryz.prog G 279 [n8 z] (N (b3f z.natAbs)):=
  a00 [] [] (fun h1 h2=>d4s z h1 h2 hz) (fun h=>d4r z h hz)
theorem d7k (z:Int):Lib.trimPrefix (bs (r6 z)).data.toList (⟨#[45]⟩:ByteArray).data.toList=Lib.decDigits z.natAbs:=by
  show Lib.trimPrefix (r6 z) [45]=_
  unfold r6
  split
  · exact a4w _
  · exact b1x (a1x _)
theorem d5m (z:Int) (hz:zl z≤1000000):Ax.Pure Tryz.prog G 258 [n8 z] (Bo (b6h z)):=by
  have c_tp:=b4q (bs (r6 z)) ⟨#[45]⟩
  rw [d7k] at c_tp
  have hs:=m6 (Lib.decDigits z.natAbs)
  have hb:¬(1800:Int) < (b3f z.natAbs:Nat)→b6h z=false:=fun h=>decide_eq_false (by have:=c9u (n:=z.natAbs) (by omega);omega)
  refine r8 Tryz.func258 rfl Tryz.ntmps258 ?_
  intro w0 E0 hc
  repeat' (first|refine n7 hc Tryz.results258 ?_|(with_reducible first|exact trivial|refine j3 ?_ ?_|refine m8 (fun h=>?_)|refine c9 (e09 _ ?_) ?_ ?_|refine c9 (b9h _ ?_) ?_ ?_|refine c9 c_tp ?_ ?_|fail)|(omega;done))
  · refine j6 ?_
    rw [hs]
    refine congrArg Bo ?_
    unfold b6h
    exact decide_eq_decide.2 (by omega)
  · rw [hb (by assumption)];exact Sub.refl _
theorem b02 {k:Nat} (hk:k≤1000000) (q:Rat) (hq:Q k q):Ax.Pure Tryz.prog G 220 [a0h q] (Bo (y4 q)):=by
  have hz:=Q_zl hq
  have c_a:=d5m q.num (by omega)
  have c_b:=d5m (q.den:Int) (by omega)
  have hb:y4 q=(b6h q.num || b6h (q.den:Int)):=by unfold y4;congr 1
  cases h1:b6h q.num <;> rw [h1] at c_a hb
  · rw [Bool.false_or] at hb
    rw [hb]
    refine r8 Tryz.func220 rfl Tryz.ntmps220 ?_
    intro w0 E0 hc
    repeat' (first|refine n7 hc Tryz.results220 ?_|(with_reducible first|exact trivial|refine j3 ?_ ?_|refine m8 (fun h=>?_)|refine c9 c_a ?_ ?_|refine c9 c_b ?_ ?_|fail)|(omega;done))
  · rw [Bool.true_or] at hb
    rw [hb]
    refine r8 Tryz.func220 rfl Tryz.ntmps220 ?_
    intro w0 E0 hc
    repeat' (first|refine n7 hc Tryz.results220 ?_|(with_reducible first|exact trivial|refine j3 ?_ ?_|refine m8 (fun h=>?_)|refine c9 c_a ?_ ?_|fail)|(omega;done))
theorem c11 {z:Int} {k:Nat} (h:zl z≤k) (h0:0 < k):(r6 z).length≤20*k+1:=by
  have:(Lib.decDigits z.natAbs).length≤20*k:=a0p (Nat.lt_of_lt_of_le (c01 z) (Nat.le_trans (Nat.pow_le_pow_right (by decide) h) (by rw [Nat.pow_mul];exact Nat.pow_le_pow_left (by decide) _))) (by omega)
  unfold r6
  split
  · rw [List.length_cons];omega
  · omega
theorem b4l {k:Nat} (hk:k≤1000000) (q:Rat) (hq:Q k q):Ax.Pure Tryz.prog G 221 [a0h q] (S (bs (c5 q))):=by
  have hz:=Q_zl hq
  have c_a:=b9h q.num (by omega)
  have c_b:=b9h (q.den:Int) (by omega)
  have c_w:=c1t q
  have s1:=m6 (r6 q.num)
  have s2:=m6 (r6 (q.den:Int))
  have l1:=c11 (z:=q.num) (k:=1000000) (by omega) (by decide)
  have l2:=c11 (z:=(q.den:Int)) (k:=1000000) (by omega) (by decide)
  have s3:(⟨#[47]⟩:ByteArray).size=1:=rfl
  have S1:(bs (r6 q.num)).size+(⟨#[47]⟩:ByteArray).size≤9223372036854775807∧true=true:=⟨by omega,rfl⟩
  have S2:(bs (r6 q.num)++(⟨#[47]⟩:ByteArray)).size+(bs (r6 (q.den:Int))).size≤9223372036854775807∧true=true:=⟨by rw [ByteArray.size_append];omega,rfl⟩
  by_cases h1:q.den=1
  · rw [decide_eq_true h1] at c_w
    refine r8 Tryz.func221 rfl Tryz.ntmps221 ?_
    intro w0 E0 hc
    repeat' (first|refine n7 hc Tryz.results221 ?_|(with_reducible first|exact trivial|refine j3 ?_ ?_|refine m8 (fun h=>?_)|refine c9 c_w ?_ ?_|refine c9 c_a ?_ ?_|fail)|(omega;done))
    rw [c5,if_pos h1];exact Sub.refl _
  · rw [decide_eq_false h1] at c_w
    refine r8 Tryz.func221 rfl Tryz.ntmps221 ?_
    intro w0 E0 hc
    repeat' (first|refine n7 hc Tryz.results221 ?_|(with_reducible first|exact trivial|refine j3 ?_ ?_|refine m8 (fun h=>?_)|refine c9 c_w ?_ ?_|refine c9 c_a ?_ ?_|refine c9 c_b ?_ ?_|fail)|((first|exact S1|exact S2);done))
    refine j6 ?_
    have e:r6 (q.den:Int)=Lib.decDigits q.den:=by unfold r6;rw [if_neg (by omega)];rfl
    rw [c5,if_neg h1,e,show (⟨#[47]⟩:ByteArray)=bs [47] from rfl,b88,b88,List.append_assoc]
    rfl
theorem nf1 {p:Prop} (h:(!false)=false):p:=(by cases h)
theorem nf2 {p:Prop} (h:(!true)=true):p:=(by cases h)
theorem d9z {k:Nat} {q:Rat} (h:Q k q):0 < k:=by
  refine Nat.pos_of_ne_zero fun e=>?_
  subst e
  have h1:=h.2
  have h2:=q.den_pos
  rw [Nat.pow_zero] at h1
  omega
theorem d9x {k:Nat} {q:Rat} (h:Q k q):(Lib.decDigits q.num.natAbs).length≤k∧(Lib.decDigits q.den).length≤k:=
  ⟨a0p (Nat.lt_of_lt_of_le h.1 (Nat.pow_le_pow_left (by decide) k)) (d9z h),a0p (Nat.lt_of_lt_of_le h.2 (Nat.pow_le_pow_left (by decide) k)) (d9z h)⟩
theorem d1w (z:Int) (hl:(Lib.decDigits z.natAbs).length≤1000000):Ax.Pure Tryz.prog G 119 [S (bs (r6 z))] (n8 z):=by
  have h:=c1w (decide (z < 0)) (Lib.decDigits z.natAbs) (a1x _) hl
  rw [a3y] at h
  by_cases h0:z < 0
  · rw [decide_eq_true h0,if_pos rfl,if_pos rfl,show -(z.natAbs:Int)=z by omega] at h
    rw [r6,if_pos h0];exact h
  · rw [decide_eq_false h0] at h
    simp only [Bool.false_eq_true,if_false] at h
    rw [show (z.natAbs:Int)=z by omega] at h
    rw [r6,if_neg h0];exact h
theorem a78 {k:Nat} (hk:k≤400000) (q:Rat) (hq:Q k q):Ax.Pure Tryz.prog G 155 [S (bs (c5 q))] (a0h q):=by
  obtain ⟨l1,l2⟩:=d9x hq
  have l3:(r6 q.num).length≤k+1:=by
    unfold r6
    split
    · rw [List.length_cons];omega
    · omega
  have c_r:=d1w q.num (by omega)
  have c_d:=b9g (Lib.decDigits q.den) (a1x _) (by omega)
  rw [a3y] at c_d
  have c_w:=b4s q.num
  by_cases h1:q.den=1
  · have c_cut:=c1r (r6 q.num) 47 (a1n _)
    rw [c5,if_pos h1]
    rw [b9q h1] at c_w
    refine r8 Tryz.func155 rfl Tryz.ntmps155 ?_
    intro w0 E0 hc
    repeat' (first|refine n7 hc Tryz.results155 ?_|(with_reducible first|exact trivial|refine j3 ?_ ?_|refine m8 (fun h=>?_)|refine c9 c_cut ?_ ?_|refine c9 c_r ?_ ?_|refine c9 c_w ?_ ?_|fail)|((refine nf1 ?_;assumption);done))
  · have c_cut:=b9d (r6 q.num) (Lib.decDigits q.den) 47 (a1n _) (by rw [List.length_append,List.length_cons];omega)
    rw [c5,if_neg h1]
    refine r8 Tryz.func155 rfl Tryz.ntmps155 ?_
    intro w0 E0 hc
    repeat' (first|refine n7 hc Tryz.results155 ?_|(with_reducible first|exact trivial|refine j3 ?_ ?_|refine m8 (fun h=>?_)|refine c9 c_cut ?_ ?_|refine c9 c_r ?_ ?_|refine c9 c_d ?_ ?_|fail)|((refine nf2 ?_;assumption);done))
    all_goals exact b2j (a3o rfl rfl (u4.refl _))
abbrev tV (a b c:List UInt8):AV:=.agg [.v (.string (bs a)),.v (.string (bs b)),.v (.string (bs c))]
abbrev tH (x y z:Int) (d:List UInt8):AV:=.agg [.v (.int .i64 x),.v (.int .i64 y),.v (.int .i64 z),.v (.string (bs d))]
abbrev tF (o1 o2 o3 x1 x2 x3 y1 y2 y3 z1 z2 z3:List UInt8):AV:=.agg [.v (.string (bs o1)),.v (.string (bs o2)),.v (.string (bs o3)),.v (.string (bs x1)),.v (.string (bs x2)),.v (.string (bs x3)),.v (.string (bs y1)),.v (.string (bs y2)),.v (.string (bs y3)),.v (.string (bs z1)),.v (.string (bs z2)),.v (.string (bs z3))]
theorem a9x {k:Nat} (hk:k≤400000) (a b c:Rat) (h:Q k a∧Q k b∧Q k c):Ax.Pure Tryz.prog G 154 [tV (c5 a) (c5 b) (c5 c)] (vA a b c):=by
  have c_a:=a78 hk a h.1
  have c_b:=a78 hk b h.2.1
  have c_c:=a78 hk c h.2.2
  refine r8 Tryz.func154 rfl Tryz.ntmps154 ?_
  intro w0 E0 hc
  repeat' (first|refine n7 hc Tryz.results154 ?_|(with_reducible first|exact trivial|refine j3 ?_ ?_|refine m8 (fun h=>?_)|refine c9 c_a ?_ ?_|refine c9 c_b ?_ ?_|refine c9 c_c ?_ ?_|fail)|(omega;done))
theorem b4r {k:Nat} (hk:k≤1000000) (a b c:Rat) (h:Q k a∧Q k b∧Q k c):Ax.Pure Tryz.prog G 233 [vA a b c] (tV (c5 a) (c5 b) (c5 c)):=by
  have c_a:=b4l hk a h.1
  have c_b:=b4l hk b h.2.1
  have c_c:=b4l hk c h.2.2
  refine r8 Tryz.func233 rfl Tryz.ntmps233 ?_
  intro w0 E0 hc
  repeat' (first|refine n7 hc Tryz.results233 ?_|(with_reducible first|exact trivial|refine j3 ?_ ?_|refine m8 (fun h=>?_)|refine c9 c_a ?_ ?_|refine c9 c_b ?_ ?_|refine c9 c_c ?_ ?_|fail)|(omega;done))
def a1i (a b c:Rat):Bool:=y4 a || (y4 b || y4 c)
theorem b04 {k:Nat} (hk:k≤1000000) (a b c:Rat) (h:Q k a∧Q k b∧Q k c):Ax.Pure Tryz.prog G 232 [vA a b c] (Bo (a1i a b c)):=by
  have c_a:=b02 hk a h.1
  have c_b:=b02 hk b h.2.1
  have c_c:=b02 hk c h.2.2
  unfold a1i
  refine r8 Tryz.func232 rfl Tryz.ntmps232 ?_
  intro w0 E0 hc
  cases h1:y4 a <;> cases h2:y4 b <;> rw [h1] at c_a <;> rw [h2] at c_b
  all_goals
    repeat' (first|refine n7 hc Tryz.results232 ?_|(with_reducible first|exact trivial|refine j3 ?_ ?_|refine m8 (fun h=>?_)|refine c9 c_a ?_ ?_|refine c9 c_b ?_ ?_|refine c9 c_c ?_ ?_|fail)|(omega;done))
    all_goals exact Sub.refl _
theorem c71 {k:Nat} (hk:k≤400000) (x y z:Int) (d:Rat) (h:-9223372036854775808≤x∧x < 9223372036854775808∧-9223372036854775808≤y∧y < 9223372036854775808∧-9223372036854775808≤z∧z < 9223372036854775808) (hd:Q k d):Ax.Pure Tryz.prog G 147 [tH x y z (c5 d)] (hA (x:Rat) (y:Rat) (z:Rat) d):=by
  have c_d:=a78 hk d hd
  have c_v:=a5u x y z h
  refine r8 Tryz.func147 rfl Tryz.ntmps147 ?_
  intro w0 E0 hc
  repeat' (first|refine n7 hc Tryz.results147 ?_|(with_reducible first|exact trivial|refine j3 ?_ ?_|refine m8 (fun h=>?_)|refine c9 c_v ?_ ?_|refine c9 c_d ?_ ?_|fail)|(omega;done))
theorem b7u {k:Nat} (hk:k≤400000) (o1 o2 o3 x1 x2 x3 y1 y2 y3 z1 z2 z3:Rat) (ho:Q k o1∧Q k o2∧Q k o3) (hx:Q k x1∧Q k x2∧Q k x3) (hy:Q k y1∧Q k y2∧Q k y3) (hz:Q k z1∧Q k z2∧Q k z3):Ax.Pure Tryz.prog G 145 [tF (c5 o1) (c5 o2) (c5 o3) (c5 x1) (c5 x2) (c5 x3) (c5 y1) (c5 y2) (c5 y3) (c5 z1) (c5 z2) (c5 z3)] (fA o1 o2 o3 x1 x2 x3 y1 y2 y3 z1 z2 z3):=by
  have c_o:=a9x hk o1 o2 o3 ho
  have c_x:=a9x hk x1 x2 x3 hx
  have c_y:=a9x hk y1 y2 y3 hy
  have c_z:=a9x hk z1 z2 z3 hz
  refine r8 Tryz.func145 rfl Tryz.ntmps145 ?_
  intro w0 E0 hc
  repeat' (first|refine n7 hc Tryz.results145 ?_|(with_reducible first|exact trivial|refine j3 ?_ ?_|refine m8 (fun h=>?_)|refine c9 c_o ?_ ?_|refine c9 c_x ?_ ?_|refine c9 c_y ?_ ?_|refine c9 c_z ?_ ?_|fail)|(omega;done))
theorem b4m {k:Nat} (hk:k≤1000000) (o1 o2 o3 x1 x2 x3 y1 y2 y3 z1 z2 z3:Rat) (ho:Q k o1∧Q k o2∧Q k o3) (hx:Q k x1∧Q k x2∧Q k x3) (hy:Q k y1∧Q k y2∧Q k y3) (hz:Q k z1∧Q k z2∧Q k z3):Ax.Pure Tryz.prog G 236 [fA o1 o2 o3 x1 x2 x3 y1 y2 y3 z1 z2 z3] (tF (c5 o1) (c5 o2) (c5 o3) (c5 x1) (c5 x2) (c5 x3) (c5 y1) (c5 y2) (c5 y3) (c5 z1) (c5 z2) (c5 z3)):=by
  have c_o:=b4r hk o1 o2 o3 ho
  have c_x:=b4r hk x1 x2 x3 hx
  have c_y:=b4r hk y1 y2 y3 hy
  have c_z:=b4r hk z1 z2 z3 hz
  refine r8 Tryz.func236 rfl Tryz.ntmps236 ?_
  intro w0 E0 hc
  repeat' (first|refine n7 hc Tryz.results236 ?_|(with_reducible first|exact trivial|refine j3 ?_ ?_|refine m8 (fun h=>?_)|refine c9 c_o ?_ ?_|refine c9 c_x ?_ ?_|refine c9 c_y ?_ ?_|refine c9 c_z ?_ ?_|fail)|(omega;done))
def b3j (o1 o2 o3 x1 x2 x3 y1 y2 y3 z1 z2 z3:Rat):Bool:=a1i o1 o2 o3 || (a1i x1 x2 x3 || (a1i y1 y2 y3 || a1i z1 z2 z3))
theorem b14 {k:Nat} (hk:k≤1000000) (o1 o2 o3 x1 x2 x3 y1 y2 y3 z1 z2 z3:Rat) (ho:Q k o1∧Q k o2∧Q k o3) (hx:Q k x1∧Q k x2∧Q k x3) (hy:Q k y1∧Q k y2∧Q k y3) (hz:Q k z1∧Q k z2∧Q k z3):Ax.Pure Tryz.prog G 235 [fA o1 o2 o3 x1 x2 x3 y1 y2 y3 z1 z2 z3] (Bo (b3j o1 o2 o3 x1 x2 x3 y1 y2 y3 z1 z2 z3)):=by
  have c_o:=b04 hk o1 o2 o3 ho
  have c_x:=b04 hk x1 x2 x3 hx
  have c_y:=b04 hk y1 y2 y3 hy
  have c_z:=b04 hk z1 z2 z3 hz
  unfold b3j
  refine r8 Tryz.func235 rfl Tryz.ntmps235 ?_
  intro w0 E0 hc
  cases h1:a1i o1 o2 o3 <;> cases h2:a1i x1 x2 x3 <;> cases h3:a1i y1 y2 y3 <;> rw [h1] at c_o <;> rw [h2] at c_x <;> rw [h3] at c_y
  all_goals
    repeat' (first|refine n7 hc Tryz.results235 ?_|(with_reducible first|exact trivial|refine j3 ?_ ?_|refine m8 (fun h=>?_)|refine c9 c_o ?_ ?_|refine c9 c_x ?_ ?_|refine c9 c_y ?_ ?_|refine c9 c_z ?_ ?_|fail)|(omega;done))
    all_goals exact Sub.refl _
end Go.Proofs
end
