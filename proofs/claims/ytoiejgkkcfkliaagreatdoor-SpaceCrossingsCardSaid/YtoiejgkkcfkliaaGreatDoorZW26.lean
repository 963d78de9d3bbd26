/- Lemmas on the program and its library: part ZW26. -/
import Derived.Test.YtoiejgkkcfkliaaGreatDoorZW25
set_option linter.unusedVariables false
set_option linter.unusedSimpArgs false
section
set_option maxHeartbeats 4000000
set_option maxRecDepth 100000
namespace Go.Proofs
open Go.Ax
theorem ok_chk {q:Rat} (h:bigQ q=false):checkL (ratL q)=0:=by rw [checkL_ratL,h];rfl
theorem ok_dec {q:Rat} (h1:(Lib.decDigits q.num.natAbs).length≤600) (h2:(Lib.decDigits q.den).length≤600):bigQ q=false:=by
  unfold bigQ bigZ
  rw [decide_eq_false (by omega),decide_eq_false (by omega)];rfl
theorem ok_int {z:Int} (h:z.natAbs < 10 ^ 20):bigQ (z:Rat)=false:=by
  refine ok_dec ?_ ?_
  · rw [Rat.num_intCast];exact Nat.le_trans (dec_len_le h (by decide)) (by decide)
  · rw [Rat.den_intCast,dec_one];decide
theorem ok_zero:bigQ 0=false:=ok_int (z:=0) (by decide)
theorem ok_len {q:Rat} (h:bigQ q=false):(ratL q).length≤900000:=by
  obtain ⟨h1,h2⟩:=Q_len (bigQ_Q h)
  unfold ratL intL
  split <;> split <;> first|omega|(simp only [List.length_append,List.length_cons];omega)
theorem fst2 {a b:Rat} (ha:bigQ a=false) (hb:bigQ b=false):fstE [ratL a,ratL b]=0:=by
  simp only [fstE,List.map,ok_chk ha,ok_chk hb];rfl
theorem fst3 {a b c:Rat} (ha:bigQ a=false) (hb:bigQ b=false) (hc:bigQ c=false):fstE [ratL a,ratL b,ratL c]=0:=by
  simp only [fstE,List.map,ok_chk ha,ok_chk hb,ok_chk hc];rfl
theorem fst4 {a b c d:Rat} (ha:bigQ a=false) (hb:bigQ b=false) (hc:bigQ c=false) (hd:bigQ d=false):fstE [ratL a,ratL b,ratL c,ratL d]=0:=by
  simp only [fstE,List.map,ok_chk ha,ok_chk hb,ok_chk hc,ok_chk hd];rfl
def okV (a b c:Rat):Prop:=bigQ a=false∧bigQ b=false∧bigQ c=false
theorem okV_Q {a b c:Rat} (h:okV a b c):Q 2400 a∧Q 2400 b∧Q 2400 c:=⟨bigQ_Q h.1,bigQ_Q h.2.1,bigQ_Q h.2.2⟩
abbrev v3 (a b c:Rat):V3:=(ratL a,ratL b,ratL c)
theorem okV_short {a b c:Rat} (h:okV a b c):shortV (v3 a b c):=⟨ok_len h.1,ok_len h.2.1,ok_len h.2.2⟩
theorem okV_fst {a b c:Rat} (h:okV a b c):fstVec (v3 a b c)=0:=fst3 h.1 h.2.1 h.2.2
theorem okV_fstE {a b c:Rat} (h:okV a b c):fstE [ratL a,ratL b,ratL c]=0:=fst3 h.1 h.2.1 h.2.2
theorem memV2 {P:V3→Prop} {a b:V3} (ha:P a) (hb:P b):∀l∈[a,b],P l:=fun l h=>by
  simp only [List.mem_cons,List.not_mem_nil,or_false] at h
  rcases h with rfl|rfl
  · exact ha
  · exact hb
theorem memV3 {P:V3→Prop} {a b c:V3} (ha:P a) (hb:P b) (hc:P c):∀l∈[a,b,c],P l:=fun l h=>by
  simp only [List.mem_cons,List.not_mem_nil,or_false] at h
  rcases h with rfl|rfl|rfl
  · exact ha
  · exact hb
  · exact hc
theorem memV4 {P:V3→Prop} {a b c d:V3} (ha:P a) (hb:P b) (hc:P c) (hd:P d):∀l∈[a,b,c,d],P l:=fun l h=>by
  simp only [List.mem_cons,List.not_mem_nil,or_false] at h
  rcases h with rfl|rfl|rfl|rfl
  · exact ha
  · exact hb
  · exact hc
  · exact hd
abbrev leafV (v:V3):List Leaf:=[.v (.string (bs v.1)),.v (.string (bs v.2.1)),.v (.string (bs v.2.2))]
theorem c_checkVecs2 (a b:V3) (ha:shortV a) (hb:shortV b):Ax.Pure Tryz.prog G 194 [.one (.row 3 2 (fun i=> [leafV a,leafV b].getD i []))] (N (fstVs [a,b])):=
  pure_args (c_checkVecs [a,b] 2 rfl (memV2 ha hb) (show 2≤1000000 by decide)) ⟨sub_row_eq (row2_lt rfl rfl),trivial⟩ ⟨trivial,trivial⟩
theorem c_checkVecs3 (a b c:V3) (ha:shortV a) (hb:shortV b) (hc:shortV c):Ax.Pure Tryz.prog G 194 [.one (.row 3 3 (fun i=> [leafV a,leafV b,leafV c].getD i []))] (N (fstVs [a,b,c])):=
  pure_args (c_checkVecs [a,b,c] 3 rfl (memV3 ha hb hc) (show 3≤1000000 by decide)) ⟨sub_row_eq (row3_lt rfl rfl rfl),trivial⟩ ⟨trivial,trivial⟩
theorem c_checkVecs4 (a b c d:V3) (ha:shortV a) (hb:shortV b) (hc:shortV c) (hd:shortV d):Ax.Pure Tryz.prog G 194 [.one (.row 3 4 (fun i=> [leafV a,leafV b,leafV c,leafV d].getD i []))] (N (fstVs [a,b,c,d])):=
  pure_args (c_checkVecs [a,b,c,d] 4 rfl (memV4 ha hb hc hd) (show 4≤1000000 by decide)) ⟨sub_row_eq (row4_lt rfl rfl rfl rfl),trivial⟩ ⟨trivial,trivial⟩
theorem fstVs2 {a b:V3} (ha:fstVec a=0) (hb:fstVec b=0):fstVs [a,b]=0:=by simp only [fstVs,List.map,ha,hb];rfl
theorem fstVs3 {a b c:V3} (ha:fstVec a=0) (hb:fstVec b=0) (hc:fstVec c=0):fstVs [a,b,c]=0:=by simp only [fstVs,List.map,ha,hb,hc];rfl
theorem fstVs4 {a b c d:V3} (ha:fstVec a=0) (hb:fstVec b=0) (hc:fstVec c=0) (hd:fstVec d=0):fstVs [a,b,c,d]=0:=by simp only [fstVs,List.map,ha,hb,hc,hd];rfl
theorem c_both_err (f:FuncId) (a b:List UInt8) (ha:a.length≤900000) (hb:b.length≤900000) (he:fstE [a,b]≠0):Ax.Pure Tryz.prog G 201 [S (bs a),S (bs b),.one (.fn (.func f) [] [])] (.tup [S (bs []),N (fstE [a,b])]):=by
  have c_c:=c_checkAll2 a b ha hb
  generalize fstE [a,b]=e at *
  refine zen Tryz.func201 rfl Tryz.ntmps201 ?_
  intro w0 E0 hc
  repeat' (first|refine zR1 hc Tryz.results201 ?_|(with_reducible first|exact trivial|refine zan ?_ ?_|refine zim (fun h=>?_)|refine zoc c_c ?_ ?_|fail)|((first|omega|exact absurd (by assumption) he);done))
theorem c_both (f:FuncId) (p q r:Rat) (hp:bigQ p=false) (hq:bigQ q=false) {k:Nat} (hk:k≤1000000) (hr:Q k r) (c_f:Ax.Pure Tryz.prog G f [fracA p,fracA q] (fracA r)):Ax.Pure Tryz.prog G 201 [S (bs (ratL p)),S (bs (ratL q)),.one (.fn (.func f) [] [])] (.tup [S (bs (txl (bigQ r) r)),N (exl (bigQ r))]):=by
  have c_c:=c_checkAll2 _ _ (ok_len hp) (ok_len hq)
  rw [fst2 hp hq] at c_c
  have c_p:=c_From (k:=2400) (by decide) p (bigQ_Q hp)
  have c_q:=c_From (k:=2400) (by decide) q (bigQ_Q hq)
  have c_g:=c_give hk r hr
  refine zen Tryz.func201 rfl Tryz.ntmps201 ?_
  intro w0 E0 hc
  repeat' (first|refine zR1 hc Tryz.results201 ?_|(with_reducible first|exact trivial|refine zan ?_ ?_|refine zim (fun h=>?_)|refine zoc c_c ?_ ?_|refine zoc c_p ?_ ?_|refine zoc c_q ?_ ?_|refine zoc c_f ?_ ?_|refine zoc c_g ?_ ?_|fail)|((first|omega|exact absurd rfl (by assumption));done))
theorem s_Add_err (a b:List UInt8) (ha:a.length≤900000) (hb:b.length≤900000) (he:fstE [a,b]≠0):Ax.Pure Tryz.prog G 98 [S (bs a),S (bs b)] (.tup [S (bs []),N (fstE [a,b])]):=by
  have c_b:=c_both_err 189 a b ha hb he
  refine zen Tryz.func98 rfl Tryz.ntmps98 ?_
  intro w0 E0 hc
  repeat' (first|refine zR1 hc Tryz.results98 ?_|(with_reducible first|exact trivial|refine zan ?_ ?_|refine zim (fun h=>?_)|refine zoc c_b ?_ ?_|fail)|(omega;done))
theorem s_Add (p q:Rat) (hp:bigQ p=false) (hq:bigQ q=false):Ax.Pure Tryz.prog G 98 [S (bs (ratL p)),S (bs (ratL q))] (.tup [S (bs (txl (bigQ (p+q)) (p+q))),N (exl (bigQ (p+q)))]):=by
  have qp:=bigQ_Q hp
  have qq:=bigQ_Q hq
  have c_b:=c_both 189 p q (p+q) hp hq (by decide) (Q_add qp qq) (c_FAdd p q (rz_of qp rfl) (rz_of qq rfl))
  refine zen Tryz.func98 rfl Tryz.ntmps98 ?_
  intro w0 E0 hc
  repeat' (first|refine zR1 hc Tryz.results98 ?_|(with_reducible first|exact trivial|refine zan ?_ ?_|refine zim (fun h=>?_)|refine zoc c_b ?_ ?_|fail)|(omega;done))
theorem s_Sub_err (a b:List UInt8) (ha:a.length≤900000) (hb:b.length≤900000) (he:fstE [a,b]≠0):Ax.Pure Tryz.prog G 99 [S (bs a),S (bs b)] (.tup [S (bs []),N (fstE [a,b])]):=by
  have c_b:=c_both_err 149 a b ha hb he
  refine zen Tryz.func99 rfl Tryz.ntmps99 ?_
  intro w0 E0 hc
  repeat' (first|refine zR1 hc Tryz.results99 ?_|(with_reducible first|exact trivial|refine zan ?_ ?_|refine zim (fun h=>?_)|refine zoc c_b ?_ ?_|fail)|(omega;done))
theorem s_Sub (p q:Rat) (hp:bigQ p=false) (hq:bigQ q=false):Ax.Pure Tryz.prog G 99 [S (bs (ratL p)),S (bs (ratL q))] (.tup [S (bs (txl (bigQ (p - q)) (p - q))),N (exl (bigQ (p - q)))]):=by
  have qp:=bigQ_Q hp
  have qq:=bigQ_Q hq
  have c_b:=c_both 149 p q (p - q) hp hq (by decide) (Q_sub qp qq) (c_FSub p q (rz_of qp rfl) (rz_of qq rfl))
  refine zen Tryz.func99 rfl Tryz.ntmps99 ?_
  intro w0 E0 hc
  repeat' (first|refine zR1 hc Tryz.results99 ?_|(with_reducible first|exact trivial|refine zan ?_ ?_|refine zim (fun h=>?_)|refine zoc c_b ?_ ?_|fail)|(omega;done))
theorem s_Mul_err (a b:List UInt8) (ha:a.length≤900000) (hb:b.length≤900000) (he:fstE [a,b]≠0):Ax.Pure Tryz.prog G 100 [S (bs a),S (bs b)] (.tup [S (bs []),N (fstE [a,b])]):=by
  have c_b:=c_both_err 185 a b ha hb he
  refine zen Tryz.func100 rfl Tryz.ntmps100 ?_
  intro w0 E0 hc
  repeat' (first|refine zR1 hc Tryz.results100 ?_|(with_reducible first|exact trivial|refine zan ?_ ?_|refine zim (fun h=>?_)|refine zoc c_b ?_ ?_|fail)|(omega;done))
theorem s_Mul (p q:Rat) (hp:bigQ p=false) (hq:bigQ q=false):Ax.Pure Tryz.prog G 100 [S (bs (ratL p)),S (bs (ratL q))] (.tup [S (bs (txl (bigQ (p*q)) (p*q))),N (exl (bigQ (p*q)))]):=by
  have qp:=bigQ_Q hp
  have qq:=bigQ_Q hq
  have c_b:=c_both 185 p q (p*q) hp hq (by decide) (Q_mul qp qq) (c_FMul p q (rz_of qp rfl) (rz_of qq rfl))
  refine zen Tryz.func100 rfl Tryz.ntmps100 ?_
  intro w0 E0 hc
  repeat' (first|refine zR1 hc Tryz.results100 ?_|(with_reducible first|exact trivial|refine zan ?_ ?_|refine zim (fun h=>?_)|refine zoc c_b ?_ ?_|fail)|(omega;done))
theorem eq_zero_text (q:Rat):((bs (ratL q)).toList == (⟨#[48]⟩:ByteArray).toList)=decide (q=0):=by
  have h:=bs_beq (ratL q) [48]
  rw [show (⟨#[48]⟩:ByteArray)=bs [48] from rfl,h]
  have e:ratL 0= [48]:=by
    unfold ratL intL
    rw [if_pos (by rfl),if_neg (by decide)]
    exact dec_zero
  by_cases h0:q=0
  · rw [h0,e];rfl
  · rw [decide_eq_false h0]
    exact decide_eq_false fun hh=>h0 (ratL_inj (hh.trans e.symm))
theorem s_Div_err (a b:List UInt8) (ha:a.length≤900000) (hb:b.length≤900000) (he:fstE [a,b]≠0):Ax.Pure Tryz.prog G 101 [S (bs a),S (bs b)] (.tup [S (bs []),N (fstE [a,b])]):=by
  have c_c:=c_checkAll2 a b ha hb
  have hf:∀x:Int,firstNZ [fstE [a,b],x]=fstE [a,b]:=fun x=>by simp only [firstNZ,if_neg he]
  generalize fstE [a,b]=e at *
  have c_f:∀x:Int,Ax.Pure Tryz.prog G 143 [.one (.row 1 2 (fun i=> [[Leaf.v (.int .i64 e)],[Leaf.v (.int .i64 x)]].getD i []))] (N e):=fun x=>by
    have:=c_first2 e x
    rwa [hf] at this
  refine zen Tryz.func101 rfl Tryz.ntmps101 ?_
  intro w0 E0 hc
  repeat' (first|refine zR1 hc Tryz.results101 ?_|(with_reducible first|exact trivial|refine zan ?_ ?_|refine zim (fun h=>?_)|refine zoc c_c ?_ ?_|refine zoc (c_when _ _) ?_ ?_|refine zoc (c_f _) ?_ ?_|fail)|((first|omega|exact absurd (by assumption) he);done))
theorem s_Div (p q:Rat) (hp:bigQ p=false) (hq:bigQ q=false) (h0:q≠0):Ax.Pure Tryz.prog G 101 [S (bs (ratL p)),S (bs (ratL q))] (.tup [S (bs (txl (bigQ (p / q)) (p / q))),N (exl (bigQ (p / q)))]):=by
  have qp:=bigQ_Q hp
  have qq:=bigQ_Q hq
  have c_c:=c_checkAll2 _ _ (ok_len hp) (ok_len hq)
  rw [fst2 hp hq] at c_c
  have c_w:Ax.Pure Tryz.prog G 153 [.one (.v (.bool ((bs (ratL q)).toList == (⟨#[48]⟩:ByteArray).toList))),N 6] (N 0):=by
    rw [eq_zero_text,decide_eq_false h0]
    exact c_when false 6
  have c_f:=c_first2 0 0
  have c_b:=c_both 170 p q (p / q) hp hq (by decide) (Q_div qp qq) (c_FDiv p q h0 (rz_of qp rfl) (rz_of qq rfl))
  refine zen Tryz.func101 rfl Tryz.ntmps101 ?_
  intro w0 E0 hc
  repeat' (first|refine zR1 hc Tryz.results101 ?_|(with_reducible first|exact trivial|refine zan ?_ ?_|refine zim (fun h=>?_)|refine zoc c_c ?_ ?_|refine zoc c_w ?_ ?_|refine zoc c_f ?_ ?_|refine zoc c_b ?_ ?_|fail)|((first|omega|exact absurd rfl (by assumption));done))
theorem s_Div0 (p:Rat) (hp:bigQ p=false):Ax.Pure Tryz.prog G 101 [S (bs (ratL p)),S (bs (ratL 0))] (.tup [S (bs []),N 6]):=by
  have c_c:=c_checkAll2 _ _ (ok_len hp) (ok_len ok_zero)
  rw [fst2 hp ok_zero] at c_c
  have c_w:Ax.Pure Tryz.prog G 153 [.one (.v (.bool ((bs (ratL 0)).toList == (⟨#[48]⟩:ByteArray).toList))),N 6] (N 6):=by
    rw [eq_zero_text]
    exact c_when true 6
  have c_f:Ax.Pure Tryz.prog G 143 [.one (.row 1 2 (fun i=> [[Leaf.v (.int .i64 0)],[Leaf.v (.int .i64 6)]].getD i []))] (N 6):=c_first2 0 6
  refine zen Tryz.func101 rfl Tryz.ntmps101 ?_
  intro w0 E0 hc
  repeat' (first|refine zR1 hc Tryz.results101 ?_|(with_reducible first|exact trivial|refine zan ?_ ?_|refine zim (fun h=>?_)|refine zoc c_c ?_ ?_|refine zoc c_w ?_ ?_|refine zoc c_f ?_ ?_|fail)|((first|omega|exact absurd (by assumption) (by decide));done))
theorem s_Compare_err (a b:List UInt8) (ha:a.length≤900000) (hb:b.length≤900000) (he:fstE [a,b]≠0):Ax.Pure Tryz.prog G 102 [S (bs a),S (bs b)] (.tup [N 0,N (fstE [a,b])]):=by
  have c_c:=c_checkAll2 a b ha hb
  generalize fstE [a,b]=e at *
  refine zen Tryz.func102 rfl Tryz.ntmps102 ?_
  intro w0 E0 hc
  repeat' (first|refine zR1 hc Tryz.results102 ?_|(with_reducible first|exact trivial|refine zan ?_ ?_|refine zim (fun h=>?_)|refine zoc c_c ?_ ?_|fail)|((first|omega|exact absurd (by assumption) he);done))
theorem s_Compare (p q:Rat) (hp:bigQ p=false) (hq:bigQ q=false):Ax.Pure Tryz.prog G 102 [S (bs (ratL p)),S (bs (ratL q))] (.tup [N (cmpQ p q),N 0]):=by
  have qp:=bigQ_Q hp
  have qq:=bigQ_Q hq
  have c_c:=c_checkAll2 _ _ (ok_len hp) (ok_len hq)
  rw [fst2 hp hq] at c_c
  have c_p:=c_From (k:=2400) (by decide) p qp
  have c_q:=c_From (k:=2400) (by decide) q qq
  have c_x:=c_FCmp p q (rz_of qp rfl) (rz_of qq rfl)
  refine zen Tryz.func102 rfl Tryz.ntmps102 ?_
  intro w0 E0 hc
  repeat' (first|refine zR1 hc Tryz.results102 ?_|(with_reducible first|exact trivial|refine zan ?_ ?_|refine zim (fun h=>?_)|refine zoc c_c ?_ ?_|refine zoc c_p ?_ ?_|refine zoc c_q ?_ ?_|refine zoc c_x ?_ ?_|fail)|((first|omega|exact absurd rfl (by assumption));done))
theorem s_Floor_err (a:List UInt8) (ha:a.length≤900000) (he:checkL a≠0):Ax.Pure Tryz.prog G 103 [S (bs a)] (.tup [S (bs []),N (checkL a)]):=by
  have c_c:=c_Check a ha
  generalize checkL a=e at *
  refine zen Tryz.func103 rfl Tryz.ntmps103 ?_
  intro w0 E0 hc
  repeat' (first|refine zR1 hc Tryz.results103 ?_|(with_reducible first|exact trivial|refine zan ?_ ?_|refine zim (fun h=>?_)|refine zoc c_c ?_ ?_|fail)|((first|omega|exact absurd (by assumption) he);done))
theorem Q_floor {k:Nat} {q:Rat} (h:Q k q):Q (k+1) ((q.floor:Int):Rat):=by
  refine Q_int ?_
  have h1:=h.1
  have h2:q.floor.natAbs≤q.num.natAbs+1:=by
    rw [Rat.floor_def]
    have hd:=q.den_pos
    have:=Int.natAbs_ediv_le_natAbs q.num (q.den:Int)
    omega
  rw [Nat.pow_succ]
  have:0 < 2 ^ k:=Nat.two_pow_pos k
  omega
theorem s_Floor (p:Rat) (hp:bigQ p=false):Ax.Pure Tryz.prog G 103 [S (bs (ratL p))] (.tup [S (bs (txl (bigQ ((p.floor:Int):Rat)) ((p.floor:Int):Rat))),N (exl (bigQ ((p.floor:Int):Rat)))]):=by
  have qp:=bigQ_Q hp
  have c_c:=c_Check _ (ok_len hp)
  rw [ok_chk hp] at c_c
  have c_p:=c_From (k:=2400) (by decide) p qp
  have c_f:=c_Floor p (rz_of qp rfl)
  have c_w:=c_Whole p.floor
  have c_g:=c_give (by decide) _ (Q_floor qp)
  refine zen Tryz.func103 rfl Tryz.ntmps103 ?_
  intro w0 E0 hc
  repeat' (first|refine zR1 hc Tryz.results103 ?_|(with_reducible first|exact trivial|refine zan ?_ ?_|refine zim (fun h=>?_)|refine zoc c_c ?_ ?_|refine zoc c_p ?_ ?_|refine zoc c_f ?_ ?_|refine zoc c_w ?_ ?_|refine zoc c_g ?_ ?_|fail)|((first|omega|exact absurd rfl (by assumption));done))
theorem Q_dot {k:Nat} {a b c d e f:Rat} (ha:Q k a) (hb:Q k b) (hc:Q k c) (hd:Q k d) (he:Q k e) (hf:Q k f):Q (k+k+(k+k)+1+(k+k)+1) (dot3 a b c d e f):=Q_add (Q_add (Q_mul ha hd) (Q_mul hb he)) (Q_mul hc hf)
theorem c_Dot3 {k:Nat} (hk:k≤100000000) (a b c d e f:Rat) (ha:Q k a) (hb:Q k b) (hc:Q k c) (hd:Q k d) (he:Q k e) (hf:Q k f):Ax.Pure Tryz.prog G 148 [vA a b c,vA d e f] (fracA (dot3 a b c d e f)):=by
  have h:=fun {q:Rat} (x:Q k q)=>Q_rz x
  exact c_Dot a b c d e f ⟨Nat.le_trans (h ha) hk,Nat.le_trans (h hb) hk,Nat.le_trans (h hc) hk,Nat.le_trans (h hd) hk,Nat.le_trans (h he) hk,Nat.le_trans (h hf) hk⟩
theorem sq_nn (x:Rat):0≤x*x:=by
  rcases Rat.le_total (a:=0) (b:=x) with hx|hx
  · exact Rat.mul_nonneg hx hx
  · have h:0≤-x:=by grind
    have:=Rat.mul_nonneg h h
    grind
theorem dot_pos {a b c:Rat} (h:¬(a=0∧b=0∧c=0)):dot3 a b c a b c≠0:=by
  intro e
  unfold dot3 at e
  have ha:=sq_nn a
  have hb:=sq_nn b
  have hc:=sq_nn c
  have z:∀x:Rat,x*x=0→x=0:=fun x hx=>by rcases Rat.mul_eq_zero.1 hx with h|h <;> exact h
  exact h ⟨z a (by grind),z b (by grind),z c (by grind)⟩
theorem s_Along (a1 a2 a3 b1 b2 b3:Rat) (ha:okV a1 a2 a3) (hb:okV b1 b2 b3) (h0:¬(a1=0∧a2=0∧a3=0)) (hs:a1*(dot3 a1 a2 a3 b1 b2 b3 / dot3 a1 a2 a3 a1 a2 a3)=b1∧a2*(dot3 a1 a2 a3 b1 b2 b3 / dot3 a1 a2 a3 a1 a2 a3)=b2∧a3*(dot3 a1 a2 a3 b1 b2 b3 / dot3 a1 a2 a3 a1 a2 a3)=b3):Ax.Pure Tryz.prog G 91 [tV (ratL a1) (ratL a2) (ratL a3),tV (ratL b1) (ratL b2) (ratL b3)] (.tup [S (bs (txl (bigQ (dot3 a1 a2 a3 b1 b2 b3 / dot3 a1 a2 a3 a1 a2 a3)) (dot3 a1 a2 a3 b1 b2 b3 / dot3 a1 a2 a3 a1 a2 a3))),N (exl (bigQ (dot3 a1 a2 a3 b1 b2 b3 / dot3 a1 a2 a3 a1 a2 a3)))]):=by
  have qa:=okV_Q ha
  have qb:=okV_Q hb
  obtain ⟨qa1,qa2,qa3⟩:=qa
  obtain ⟨qb1,qb2,qb3⟩:=qb
  have c_c:=c_checkVecs2 (v3 a1 a2 a3) (v3 b1 b2 b3) (okV_short ha) (okV_short hb)
  rw [fstVs2 (okV_fst ha) (okV_fst hb)] at c_c
  have c_a:=c_VFrom (k:=2400) (by decide) a1 a2 a3 (okV_Q ha)
  have c_b:=c_VFrom (k:=2400) (by decide) b1 b2 b3 (okV_Q hb)
  have hz:=dot_pos h0
  have c_z:=c_IsZero a1 a2 a3
  rw [decide_eq_false h0] at c_z
  have c_ab:=c_Dot3 (k:=2400) (by decide) a1 a2 a3 b1 b2 b3 qa1 qa2 qa3 qb1 qb2 qb3
  have c_aa:=c_Dot3 (k:=2400) (by decide) a1 a2 a3 a1 a2 a3 qa1 qa2 qa3 qa1 qa2 qa3
  have q1:=Q_dot qa1 qa2 qa3 qb1 qb2 qb3
  have q2:=Q_dot qa1 qa2 qa3 qa1 qa2 qa3
  have c_dv:=c_FDiv _ _ hz (rz_of q1 rfl) (rz_of q2 rfl)
  have qt:=Q_div q1 q2
  generalize dot3 a1 a2 a3 b1 b2 b3 / dot3 a1 a2 a3 a1 a2 a3=t at *
  have c_s:=c_VScale a1 a2 a3 t ⟨rz_of qa1 rfl,rz_of qa2 rfl,rz_of qa3 rfl,rz_of qt rfl⟩
  have c_m:=c_VSame (a1*t) (a2*t) (a3*t) b1 b2 b3 ⟨rz_of (Q_mul qa1 qt) rfl,rz_of (Q_mul qa2 qt) rfl,rz_of (Q_mul qa3 qt) rfl,rz_of qb1 rfl,rz_of qb2 rfl,rz_of qb3 rfl⟩
  have c_g:=c_give (by decide) t qt
  rw [decide_eq_true hs] at c_m
  refine zen Tryz.func91 rfl Tryz.ntmps91 ?_
  intro w0 E0 hc
  repeat' (first|refine zR1 hc Tryz.results91 ?_|(with_reducible first|exact trivial|refine zan ?_ ?_|refine zim (fun h=>?_)|refine zoc c_c ?_ ?_|refine zoc c_a ?_ ?_|refine zoc c_b ?_ ?_|refine zoc c_z ?_ ?_|refine zoc c_ab ?_ ?_|refine zoc c_aa ?_ ?_|refine zoc c_dv ?_ ?_|refine zoc c_s ?_ ?_|refine zoc c_m ?_ ?_|refine zoc c_g ?_ ?_|fail)|((first|omega|exact absurd rfl (by assumption)|(refine nf1 ?_;assumption)|(refine nf2 ?_;assumption));done))
end Go.Proofs
end
