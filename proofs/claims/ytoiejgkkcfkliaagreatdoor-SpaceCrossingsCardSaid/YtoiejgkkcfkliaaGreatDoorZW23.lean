/- Lemmas on the program and its library: part ZW23. -/
import Derived.Test.YtoiejgkkcfkliaaGreatDoorZW15
import Derived.Test.YtoiejgkkcfkliaaGreatDoorZW21
set_option linter.unusedVariables false
set_option linter.unusedSimpArgs false
section
set_option maxHeartbeats 4000000
set_option maxRecDepth 100000
namespace Go.Proofs
open Go.Ax
theorem c_String (z:Int) (hz:zl z≤1000000):Ax.Pure Tryz.prog G 259 [intA z] (S (bs (intL z))):=
  pure_int [] [] (c_String_s z) (fun h=>c_String_b z h hz)
def zbits (n:Nat):Nat:=if (digs BB n).length=0 then 0 else 64*((digs BB n).length - 1)+bl ((digs BB n).getD ((digs BB n).length - 1) 0)
theorem lt_zbits (n:Nat):n < 2 ^ zbits n:=by
  unfold zbits
  split
  · rename_i h
    have:n=0:=(digs_nil (B:=BB) (by decide)).1 (List.length_eq_zero_iff.1 h)
    subst this;decide
  · rename_i h
    obtain ⟨k,hk⟩:∃k,(digs BB n).length=k+1:=⟨(digs BB n).length - 1,by omega⟩
    have hv:=digs_val (B:=BB) (by decide) n
    have hd:=(digs_dig (B:=BB) (by decide) n).1
    generalize digs BB n=l at *
    rw [val_top1 hk] at hv
    have h1:val BB (l.take k) < BB ^ (l.take k).length:=val_lt BB _ fun d hd'=>hd d (List.mem_of_mem_take hd')
    rw [List.length_take,Nat.min_eq_left (by omega)] at h1
    rw [hk,Nat.add_sub_cancel,Nat.pow_add,Nat.pow_mul,←hv]
    have h2:=bl_lt (l.getD k 0)
    have e:(2 ^ 64:Nat)=BB:=rfl
    rw [e]
    have h3:(l.getD k 0+1)*BB ^ k≤2 ^ bl (l.getD k 0)*BB ^ k:=Nat.mul_le_mul_right _ h2
    rw [Nat.add_mul,Nat.one_mul] at h3
    rw [Nat.mul_comm (BB ^ k)]
    omega
theorem zbits_long {n:Nat} (h:zbits n≤1800):(Lib.decDigits n).length≤600:=by
  exact dec_len_le (Nat.lt_of_lt_of_le (lt_zbits n) (Nat.le_trans (Nat.pow_le_pow_right (by decide) (show zbits n≤3*600 from h)) (eight_ten 600))) (by decide)
theorem c_Bits_s (z:Int) (h1:-9223372036854775808≤z) (h2:z < 9223372036854775808) (hz:zl z≤1000000):Ax.Pure Tryz.prog G 279 [smA z] (N (zbits z.natAbs)):=by
  have c_pa:=c_parts_s z h1 h2
  have ll:=toI_len (digs BB z.natAbs)
  have gg:=toI_get (digs BB z.natAbs) ((digs BB z.natAbs).length - 1)
  unfold zl at hz
  have hd:=(digs_dig (B:=BB) (by decide) z.natAbs).1
  have hzb:zbits z.natAbs=if (digs BB z.natAbs).length=0 then 0 else 64*((digs BB z.natAbs).length - 1)+bl ((digs BB z.natAbs).getD ((digs BB z.natAbs).length - 1) 0):=rfl
  have htop:(digs BB z.natAbs).getD ((digs BB z.natAbs).length - 1) 0 < BB:=by
    rw [List.getD_eq_getElem?_getD]
    cases h:(digs BB z.natAbs)[(digs BB z.natAbs).length - 1]? with
    | none=>decide
    | some d=>exact hd d (List.mem_of_getElem? h)
  generalize digs BB z.natAbs=l at *
  have hbl:bl (l.getD (l.length - 1) 0)≤64:=bl_le_of htop
  have c_le:Ax.Pure Tryz.prog G 287 [U ((toI l).getD (IntKind.i64.wrap (((toI l).length:Int) - 1)).toNat 0)] (N (bl (l.getD (l.length - 1) 0):Nat))∨l.length=0:=by
    by_cases h0:l.length=0
    · exact .inr h0
    left
    have:(IntKind.i64.wrap (((toI l).length:Int) - 1)).toNat=l.length - 1:=by rw [ll,w64 (by omega) (by omega)];omega
    rw [this,gg]
    exact pure_any (c0_Len64 _ htop)
  refine zen Tryz.func279 rfl Tryz.ntmps279 ?_
  intro w0 E0 hc
  repeat' (first|(with_reducible first|refine Wp_seq ?_|refine zwk ?_|refine Wp_block ?_|refine zgo ?_|refine zbn ?_|refine zge Tryz.results279 ?_|refine Sub.refl _|refine allP_nil|refine zoa1 (out':=?_) ?_|refine zca1 (y:=?_) ?_|refine zea1 (eo':=?_) ?_)|(with_reducible refine zrs [4] hc ?_ ?_;focus (with_unfolding_all rfl))|(with_reducible refine zrm [4] hc mixed ?_ ?_;focus (with_unfolding_all rfl))|(with_reducible refine allP_cons ?_ ?_;focus (first|decide|omega))|(with_reducible first|refine zg2 ?_ ?_|refine zoc c_pa ?_ ?_|refine zbo ?_|refine zg3 ?_ (fun h=>?_) (fun h=>?_)|refine zg4 (fun h=>?_) (fun h=>?_)|fail)|(omega;done))
  · rw [hzb,if_pos (by omega)];exact Sub.refl _
  have c_le:=c_le.resolve_right (by omega)
  have w1:IntKind.i64.wrap (((toI l).length:Int) - 1)=(l.length:Int) - 1:=by rw [ll];exact w64 (by omega) (by omega)
  have S1:0 < 1∧1=1∧0≤IntKind.i64.wrap (((toI l).length:Int) - 1)∧IntKind.i64.wrap (((toI l).length:Int) - 1) < ((toI l).length:Int):=by rw [w1,ll];omega
  repeat' (first|refine zR1 hc Tryz.results279 ?_|(with_reducible first|exact trivial|refine zan ?_ ?_|refine zim (fun h=>?_)|refine zoc c_le ?_ ?_|fail)|((first|omega|exact S1);done))
  refine sub_eq ?_
  rw [hzb,if_neg (by omega),w1,w64 (x:=64*((l.length:Int) - 1)) (by omega) (by omega),w64 (by omega) (by omega)]
  refine congrArg (fun n:Int=>N n) ?_
  omega
theorem c_Bits_b (z:Int) (h:9223372036854775808≤z.natAbs) (hz:zl z≤1000000):Ax.Pure Tryz.prog G 279 [bgA z] (N (zbits z.natAbs)):=by
  have c_pa:=c_parts_b z h
  have ll:=toI_len (digs BB z.natAbs)
  have gg:=toI_get (digs BB z.natAbs) ((digs BB z.natAbs).length - 1)
  unfold zl at hz
  have hd:=(digs_dig (B:=BB) (by decide) z.natAbs).1
  have hzb:zbits z.natAbs=if (digs BB z.natAbs).length=0 then 0 else 64*((digs BB z.natAbs).length - 1)+bl ((digs BB z.natAbs).getD ((digs BB z.natAbs).length - 1) 0):=rfl
  have htop:(digs BB z.natAbs).getD ((digs BB z.natAbs).length - 1) 0 < BB:=by
    rw [List.getD_eq_getElem?_getD]
    cases h:(digs BB z.natAbs)[(digs BB z.natAbs).length - 1]? with
    | none=>decide
    | some d=>exact hd d (List.mem_of_getElem? h)
  generalize digs BB z.natAbs=l at *
  have hbl:bl (l.getD (l.length - 1) 0)≤64:=bl_le_of htop
  have c_le:Ax.Pure Tryz.prog G 287 [U ((toI l).getD (IntKind.i64.wrap (((toI l).length:Int) - 1)).toNat 0)] (N (bl (l.getD (l.length - 1) 0):Nat))∨l.length=0:=by
    by_cases h0:l.length=0
    · exact .inr h0
    left
    have:(IntKind.i64.wrap (((toI l).length:Int) - 1)).toNat=l.length - 1:=by rw [ll,w64 (by omega) (by omega)];omega
    rw [this,gg]
    exact pure_any (c0_Len64 _ htop)
  refine zen Tryz.func279 rfl Tryz.ntmps279 ?_
  intro w0 E0 hc
  repeat' (first|(with_reducible first|refine Wp_seq ?_|refine zwk ?_|refine Wp_block ?_|refine zgo ?_|refine zbn ?_|refine zge Tryz.results279 ?_|refine Sub.refl _|refine allP_nil|refine zoa1 (out':=?_) ?_|refine zca1 (y:=?_) ?_|refine zea1 (eo':=?_) ?_)|(with_reducible refine zrs [4] hc ?_ ?_;focus (with_unfolding_all rfl))|(with_reducible refine zrm [4] hc mixed ?_ ?_;focus (with_unfolding_all rfl))|(with_reducible refine allP_cons ?_ ?_;focus (first|decide|omega))|(with_reducible first|refine zg2 ?_ ?_|refine zoc c_pa ?_ ?_|refine zbo ?_|refine zg3 ?_ (fun h=>?_) (fun h=>?_)|refine zg4 (fun h=>?_) (fun h=>?_)|fail)|(omega;done))
  · rw [hzb,if_pos (by omega)];exact Sub.refl _
  have c_le:=c_le.resolve_right (by omega)
  have w1:IntKind.i64.wrap (((toI l).length:Int) - 1)=(l.length:Int) - 1:=by rw [ll];exact w64 (by omega) (by omega)
  have S1:0 < 1∧1=1∧0≤IntKind.i64.wrap (((toI l).length:Int) - 1)∧IntKind.i64.wrap (((toI l).length:Int) - 1) < ((toI l).length:Int):=by rw [w1,ll];omega
  repeat' (first|refine zR1 hc Tryz.results279 ?_|(with_reducible first|exact trivial|refine zan ?_ ?_|refine zim (fun h=>?_)|refine zoc c_le ?_ ?_|fail)|((first|omega|exact S1);done))
  refine sub_eq ?_
  rw [hzb,if_neg (by omega),w1,w64 (x:=64*((l.length:Int) - 1)) (by omega) (by omega),w64 (by omega) (by omega)]
  refine congrArg (fun n:Int=>N n) ?_
  omega
theorem c_Bits (z:Int) (hz:zl z≤1000000):Ax.Pure Tryz.prog G 279 [intA z] (N (zbits z.natAbs)):=
  pure_int [] [] (fun h1 h2=>c_Bits_s z h1 h2 hz) (fun h=>c_Bits_b z h hz)
theorem trim_int (z:Int):Lib.trimPrefix (bs (intL z)).data.toList (⟨#[45]⟩:ByteArray).data.toList=Lib.decDigits z.natAbs:=by
  show Lib.trimPrefix (intL z) [45]=_
  unfold intL
  split
  · exact trimPrefix_neg _
  · exact trimPrefix_isD (dec_isD _)
theorem c_long (z:Int) (hz:zl z≤1000000):Ax.Pure Tryz.prog G 258 [intA z] (Bo (bigZ z)):=by
  have c_tp:=c_TrimPrefix (bs (intL z)) ⟨#[45]⟩
  rw [trim_int] at c_tp
  have hs:=bs_size (Lib.decDigits z.natAbs)
  have hb:¬(1800:Int) < (zbits z.natAbs:Nat)→bigZ z=false:=fun h=>decide_eq_false (by have:=zbits_long (n:=z.natAbs) (by omega);omega)
  refine zen Tryz.func258 rfl Tryz.ntmps258 ?_
  intro w0 E0 hc
  repeat' (first|refine zR1 hc Tryz.results258 ?_|(with_reducible first|exact trivial|refine zan ?_ ?_|refine zim (fun h=>?_)|refine zoc (c_Bits _ ?_) ?_ ?_|refine zoc (c_String _ ?_) ?_ ?_|refine zoc c_tp ?_ ?_|fail)|(omega;done))
  · refine sub_eq ?_
    rw [hs]
    refine congrArg Bo ?_
    unfold bigZ
    exact decide_eq_decide.2 (by omega)
  · rw [hb (by assumption)];exact Sub.refl _
theorem c_FLarge {k:Nat} (hk:k≤1000000) (q:Rat) (hq:Q k q):Ax.Pure Tryz.prog G 220 [fracA q] (Bo (bigQ q)):=by
  have hz:=Q_zl hq
  have c_a:=c_long q.num (by omega)
  have c_b:=c_long (q.den:Int) (by omega)
  have hb:bigQ q=(bigZ q.num || bigZ (q.den:Int)):=by unfold bigQ;congr 1
  cases h1:bigZ q.num <;> rw [h1] at c_a hb
  · rw [Bool.false_or] at hb
    rw [hb]
    refine zen Tryz.func220 rfl Tryz.ntmps220 ?_
    intro w0 E0 hc
    repeat' (first|refine zR1 hc Tryz.results220 ?_|(with_reducible first|exact trivial|refine zan ?_ ?_|refine zim (fun h=>?_)|refine zoc c_a ?_ ?_|refine zoc c_b ?_ ?_|fail)|(omega;done))
  · rw [Bool.true_or] at hb
    rw [hb]
    refine zen Tryz.func220 rfl Tryz.ntmps220 ?_
    intro w0 E0 hc
    repeat' (first|refine zR1 hc Tryz.results220 ?_|(with_reducible first|exact trivial|refine zan ?_ ?_|refine zim (fun h=>?_)|refine zoc c_a ?_ ?_|fail)|(omega;done))
theorem intL_size {z:Int} {k:Nat} (h:zl z≤k) (h0:0 < k):(intL z).length≤20*k+1:=by
  have:(Lib.decDigits z.natAbs).length≤20*k:=dec_len_le (Nat.lt_of_lt_of_le (zl_lt z) (Nat.le_trans (Nat.pow_le_pow_right (by decide) h) (by rw [Nat.pow_mul];exact Nat.pow_le_pow_left (by decide) _))) (by omega)
  unfold intL
  split
  · rw [List.length_cons];omega
  · omega
theorem c_FText {k:Nat} (hk:k≤1000000) (q:Rat) (hq:Q k q):Ax.Pure Tryz.prog G 221 [fracA q] (S (bs (ratL q))):=by
  have hz:=Q_zl hq
  have c_a:=c_String q.num (by omega)
  have c_b:=c_String (q.den:Int) (by omega)
  have c_w:=c_IsWhole q
  have s1:=bs_size (intL q.num)
  have s2:=bs_size (intL (q.den:Int))
  have l1:=intL_size (z:=q.num) (k:=1000000) (by omega) (by decide)
  have l2:=intL_size (z:=(q.den:Int)) (k:=1000000) (by omega) (by decide)
  have s3:(⟨#[47]⟩:ByteArray).size=1:=rfl
  have S1:(bs (intL q.num)).size+(⟨#[47]⟩:ByteArray).size≤9223372036854775807∧true=true:=⟨by omega,rfl⟩
  have S2:(bs (intL q.num)++(⟨#[47]⟩:ByteArray)).size+(bs (intL (q.den:Int))).size≤9223372036854775807∧true=true:=⟨by rw [ByteArray.size_append];omega,rfl⟩
  by_cases h1:q.den=1
  · rw [decide_eq_true h1] at c_w
    refine zen Tryz.func221 rfl Tryz.ntmps221 ?_
    intro w0 E0 hc
    repeat' (first|refine zR1 hc Tryz.results221 ?_|(with_reducible first|exact trivial|refine zan ?_ ?_|refine zim (fun h=>?_)|refine zoc c_w ?_ ?_|refine zoc c_a ?_ ?_|fail)|(omega;done))
    rw [ratL,if_pos h1];exact Sub.refl _
  · rw [decide_eq_false h1] at c_w
    refine zen Tryz.func221 rfl Tryz.ntmps221 ?_
    intro w0 E0 hc
    repeat' (first|refine zR1 hc Tryz.results221 ?_|(with_reducible first|exact trivial|refine zan ?_ ?_|refine zim (fun h=>?_)|refine zoc c_w ?_ ?_|refine zoc c_a ?_ ?_|refine zoc c_b ?_ ?_|fail)|((first|exact S1|exact S2);done))
    refine sub_eq ?_
    have e:intL (q.den:Int)=Lib.decDigits q.den:=by unfold intL;rw [if_neg (by omega)];rfl
    rw [ratL,if_neg h1,e,show (⟨#[47]⟩:ByteArray)=bs [47] from rfl,bs_app,bs_app,List.append_assoc]
    rfl
theorem nf1 {p:Prop} (h:(!false)=false):p:=(by cases h)
theorem nf2 {p:Prop} (h:(!true)=true):p:=(by cases h)
theorem Q_pos {k:Nat} {q:Rat} (h:Q k q):0 < k:=by
  refine Nat.pos_of_ne_zero fun e=>?_
  subst e
  have h1:=h.2
  have h2:=q.den_pos
  rw [Nat.pow_zero] at h1
  omega
theorem Q_len {k:Nat} {q:Rat} (h:Q k q):(Lib.decDigits q.num.natAbs).length≤k∧(Lib.decDigits q.den).length≤k:=
  ⟨dec_len_le (Nat.lt_of_lt_of_le h.1 (Nat.pow_le_pow_left (by decide) k)) (Q_pos h),dec_len_le (Nat.lt_of_lt_of_le h.2 (Nat.pow_le_pow_left (by decide) k)) (Q_pos h)⟩
theorem c_ReadInt (z:Int) (hl:(Lib.decDigits z.natAbs).length≤1000000):Ax.Pure Tryz.prog G 119 [S (bs (intL z))] (intA z):=by
  have h:=c_ReadAny (decide (z < 0)) (Lib.decDigits z.natAbs) (dec_isD _) hl
  rw [dec_valD] at h
  by_cases h0:z < 0
  · rw [decide_eq_true h0,if_pos rfl,if_pos rfl,show -(z.natAbs:Int)=z by omega] at h
    rw [intL,if_pos h0];exact h
  · rw [decide_eq_false h0] at h
    simp only [Bool.false_eq_true,if_false] at h
    rw [show (z.natAbs:Int)=z by omega] at h
    rw [intL,if_neg h0];exact h
theorem c_From {k:Nat} (hk:k≤400000) (q:Rat) (hq:Q k q):Ax.Pure Tryz.prog G 155 [S (bs (ratL q))] (fracA q):=by
  obtain ⟨l1,l2⟩:=Q_len hq
  have l3:(intL q.num).length≤k+1:=by
    unfold intL
    split
    · rw [List.length_cons];omega
    · omega
  have c_r:=c_ReadInt q.num (by omega)
  have c_d:=c_Read (Lib.decDigits q.den) (dec_isD _) (by omega)
  rw [dec_valD] at c_d
  have c_w:=c_Whole q.num
  by_cases h1:q.den=1
  · have c_cut:=c_CutMiss (intL q.num) 47 (slash_not_int _)
    rw [ratL,if_pos h1]
    rw [frac_int h1] at c_w
    refine zen Tryz.func155 rfl Tryz.ntmps155 ?_
    intro w0 E0 hc
    repeat' (first|refine zR1 hc Tryz.results155 ?_|(with_reducible first|exact trivial|refine zan ?_ ?_|refine zim (fun h=>?_)|refine zoc c_cut ?_ ?_|refine zoc c_r ?_ ?_|refine zoc c_w ?_ ?_|fail)|((refine nf1 ?_;assumption);done))
  · have c_cut:=c_CutHit (intL q.num) (Lib.decDigits q.den) 47 (slash_not_int _) (by rw [List.length_append,List.length_cons];omega)
    rw [ratL,if_neg h1]
    refine zen Tryz.func155 rfl Tryz.ntmps155 ?_
    intro w0 E0 hc
    repeat' (first|refine zR1 hc Tryz.results155 ?_|(with_reducible first|exact trivial|refine zan ?_ ?_|refine zim (fun h=>?_)|refine zoc c_cut ?_ ?_|refine zoc c_r ?_ ?_|refine zoc c_d ?_ ?_|fail)|((refine nf2 ?_;assumption);done))
    all_goals exact sub_agg (subLv_mkfrac rfl rfl (SubLv.refl _))
abbrev tV (a b c:List UInt8):AV:=.agg [.v (.string (bs a)),.v (.string (bs b)),.v (.string (bs c))]
abbrev tH (x y z:Int) (d:List UInt8):AV:=.agg [.v (.int .i64 x),.v (.int .i64 y),.v (.int .i64 z),.v (.string (bs d))]
abbrev tF (o1 o2 o3 x1 x2 x3 y1 y2 y3 z1 z2 z3:List UInt8):AV:=.agg [.v (.string (bs o1)),.v (.string (bs o2)),.v (.string (bs o3)),.v (.string (bs x1)),.v (.string (bs x2)),.v (.string (bs x3)),.v (.string (bs y1)),.v (.string (bs y2)),.v (.string (bs y3)),.v (.string (bs z1)),.v (.string (bs z2)),.v (.string (bs z3))]
theorem c_VFrom {k:Nat} (hk:k≤400000) (a b c:Rat) (h:Q k a∧Q k b∧Q k c):Ax.Pure Tryz.prog G 154 [tV (ratL a) (ratL b) (ratL c)] (vA a b c):=by
  have c_a:=c_From hk a h.1
  have c_b:=c_From hk b h.2.1
  have c_c:=c_From hk c h.2.2
  refine zen Tryz.func154 rfl Tryz.ntmps154 ?_
  intro w0 E0 hc
  repeat' (first|refine zR1 hc Tryz.results154 ?_|(with_reducible first|exact trivial|refine zan ?_ ?_|refine zim (fun h=>?_)|refine zoc c_a ?_ ?_|refine zoc c_b ?_ ?_|refine zoc c_c ?_ ?_|fail)|(omega;done))
theorem c_VText {k:Nat} (hk:k≤1000000) (a b c:Rat) (h:Q k a∧Q k b∧Q k c):Ax.Pure Tryz.prog G 233 [vA a b c] (tV (ratL a) (ratL b) (ratL c)):=by
  have c_a:=c_FText hk a h.1
  have c_b:=c_FText hk b h.2.1
  have c_c:=c_FText hk c h.2.2
  refine zen Tryz.func233 rfl Tryz.ntmps233 ?_
  intro w0 E0 hc
  repeat' (first|refine zR1 hc Tryz.results233 ?_|(with_reducible first|exact trivial|refine zan ?_ ?_|refine zim (fun h=>?_)|refine zoc c_a ?_ ?_|refine zoc c_b ?_ ?_|refine zoc c_c ?_ ?_|fail)|(omega;done))
def bigV (a b c:Rat):Bool:=bigQ a || (bigQ b || bigQ c)
theorem c_VLarge {k:Nat} (hk:k≤1000000) (a b c:Rat) (h:Q k a∧Q k b∧Q k c):Ax.Pure Tryz.prog G 232 [vA a b c] (Bo (bigV a b c)):=by
  have c_a:=c_FLarge hk a h.1
  have c_b:=c_FLarge hk b h.2.1
  have c_c:=c_FLarge hk c h.2.2
  unfold bigV
  refine zen Tryz.func232 rfl Tryz.ntmps232 ?_
  intro w0 E0 hc
  cases h1:bigQ a <;> cases h2:bigQ b <;> rw [h1] at c_a <;> rw [h2] at c_b
  all_goals
    repeat' (first|refine zR1 hc Tryz.results232 ?_|(with_reducible first|exact trivial|refine zan ?_ ?_|refine zim (fun h=>?_)|refine zoc c_a ?_ ?_|refine zoc c_b ?_ ?_|refine zoc c_c ?_ ?_|fail)|(omega;done))
    all_goals exact Sub.refl _
theorem c_FromHalf {k:Nat} (hk:k≤400000) (x y z:Int) (d:Rat) (h:-9223372036854775808≤x∧x < 9223372036854775808∧-9223372036854775808≤y∧y < 9223372036854775808∧-9223372036854775808≤z∧z < 9223372036854775808) (hd:Q k d):Ax.Pure Tryz.prog G 147 [tH x y z (ratL d)] (hA (x:Rat) (y:Rat) (z:Rat) d):=by
  have c_d:=c_From hk d hd
  have c_v:=c_VOf x y z h
  refine zen Tryz.func147 rfl Tryz.ntmps147 ?_
  intro w0 E0 hc
  repeat' (first|refine zR1 hc Tryz.results147 ?_|(with_reducible first|exact trivial|refine zan ?_ ?_|refine zim (fun h=>?_)|refine zoc c_v ?_ ?_|refine zoc c_d ?_ ?_|fail)|(omega;done))
theorem c_FromFrame {k:Nat} (hk:k≤400000) (o1 o2 o3 x1 x2 x3 y1 y2 y3 z1 z2 z3:Rat) (ho:Q k o1∧Q k o2∧Q k o3) (hx:Q k x1∧Q k x2∧Q k x3) (hy:Q k y1∧Q k y2∧Q k y3) (hz:Q k z1∧Q k z2∧Q k z3):Ax.Pure Tryz.prog G 145 [tF (ratL o1) (ratL o2) (ratL o3) (ratL x1) (ratL x2) (ratL x3) (ratL y1) (ratL y2) (ratL y3) (ratL z1) (ratL z2) (ratL z3)] (fA o1 o2 o3 x1 x2 x3 y1 y2 y3 z1 z2 z3):=by
  have c_o:=c_VFrom hk o1 o2 o3 ho
  have c_x:=c_VFrom hk x1 x2 x3 hx
  have c_y:=c_VFrom hk y1 y2 y3 hy
  have c_z:=c_VFrom hk z1 z2 z3 hz
  refine zen Tryz.func145 rfl Tryz.ntmps145 ?_
  intro w0 E0 hc
  repeat' (first|refine zR1 hc Tryz.results145 ?_|(with_reducible first|exact trivial|refine zan ?_ ?_|refine zim (fun h=>?_)|refine zoc c_o ?_ ?_|refine zoc c_x ?_ ?_|refine zoc c_y ?_ ?_|refine zoc c_z ?_ ?_|fail)|(omega;done))
theorem c_FrText {k:Nat} (hk:k≤1000000) (o1 o2 o3 x1 x2 x3 y1 y2 y3 z1 z2 z3:Rat) (ho:Q k o1∧Q k o2∧Q k o3) (hx:Q k x1∧Q k x2∧Q k x3) (hy:Q k y1∧Q k y2∧Q k y3) (hz:Q k z1∧Q k z2∧Q k z3):Ax.Pure Tryz.prog G 236 [fA o1 o2 o3 x1 x2 x3 y1 y2 y3 z1 z2 z3] (tF (ratL o1) (ratL o2) (ratL o3) (ratL x1) (ratL x2) (ratL x3) (ratL y1) (ratL y2) (ratL y3) (ratL z1) (ratL z2) (ratL z3)):=by
  have c_o:=c_VText hk o1 o2 o3 ho
  have c_x:=c_VText hk x1 x2 x3 hx
  have c_y:=c_VText hk y1 y2 y3 hy
  have c_z:=c_VText hk z1 z2 z3 hz
  refine zen Tryz.func236 rfl Tryz.ntmps236 ?_
  intro w0 E0 hc
  repeat' (first|refine zR1 hc Tryz.results236 ?_|(with_reducible first|exact trivial|refine zan ?_ ?_|refine zim (fun h=>?_)|refine zoc c_o ?_ ?_|refine zoc c_x ?_ ?_|refine zoc c_y ?_ ?_|refine zoc c_z ?_ ?_|fail)|(omega;done))
def bigF (o1 o2 o3 x1 x2 x3 y1 y2 y3 z1 z2 z3:Rat):Bool:=bigV o1 o2 o3 || (bigV x1 x2 x3 || (bigV y1 y2 y3 || bigV z1 z2 z3))
theorem c_FrLarge {k:Nat} (hk:k≤1000000) (o1 o2 o3 x1 x2 x3 y1 y2 y3 z1 z2 z3:Rat) (ho:Q k o1∧Q k o2∧Q k o3) (hx:Q k x1∧Q k x2∧Q k x3) (hy:Q k y1∧Q k y2∧Q k y3) (hz:Q k z1∧Q k z2∧Q k z3):Ax.Pure Tryz.prog G 235 [fA o1 o2 o3 x1 x2 x3 y1 y2 y3 z1 z2 z3] (Bo (bigF o1 o2 o3 x1 x2 x3 y1 y2 y3 z1 z2 z3)):=by
  have c_o:=c_VLarge hk o1 o2 o3 ho
  have c_x:=c_VLarge hk x1 x2 x3 hx
  have c_y:=c_VLarge hk y1 y2 y3 hy
  have c_z:=c_VLarge hk z1 z2 z3 hz
  unfold bigF
  refine zen Tryz.func235 rfl Tryz.ntmps235 ?_
  intro w0 E0 hc
  cases h1:bigV o1 o2 o3 <;> cases h2:bigV x1 x2 x3 <;> cases h3:bigV y1 y2 y3 <;> rw [h1] at c_o <;> rw [h2] at c_x <;> rw [h3] at c_y
  all_goals
    repeat' (first|refine zR1 hc Tryz.results235 ?_|(with_reducible first|exact trivial|refine zan ?_ ?_|refine zim (fun h=>?_)|refine zoc c_o ?_ ?_|refine zoc c_x ?_ ?_|refine zoc c_y ?_ ?_|refine zoc c_z ?_ ?_|fail)|(omega;done))
    all_goals exact Sub.refl _
end Go.Proofs
end
